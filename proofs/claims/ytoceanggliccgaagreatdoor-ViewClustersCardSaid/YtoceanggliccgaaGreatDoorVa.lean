/- What the functions that the statements reach do: walks through the code of the program and of the references, one theorem a function; under what is said of its arguments. -/
import Derived.Test.YtoceanggliccgaaGreatDoorFa
import Derived.Test.YtoceanggliccgaaGreatDoorFb
import Derived.Test.YtoceanggliccgaaGreatDoorFc
import Derived.Test.YtoceanggliccgaaGreatDoorFd
import Derived.Test.YtoceanggliccgaaGreatDoorProg
import Derived.KernelRfl
set_option linter.unusedVariables false
set_option linter.unusedSimpArgs false
set_option maxRecDepth 100000
set_option maxHeartbeats 4000000
namespace Go.Proofs.YtoceanggliccgaaGreatDoor
section
open Go Go.Sx
noncomputable abbrev ya:=@Tryz.prog
abbrev yc:=@St.pack
abbrev yd:=@Tryz.underlying35
abbrev ye:=@St.oR
abbrev yf:=@Tryz.underlying3
abbrev yg:=@St.re
abbrev yh:=@Tryz.underlying347
abbrev yi:=@St.tu
abbrev yj:=@St.eT
abbrev yk:=@Tryz.underlying40
abbrev ym:=@St.tn
abbrev yn:=@Tryz.underlying143
abbrev yo:=@St.EA
abbrev yp:=@St.Ji
abbrev yq:=@St.grow
abbrev yr:=@St.pW
abbrev yt:=@St.init
abbrev yu:=@St.adz
abbrev yv:=@St.reR
abbrev yw:=@St.CU
abbrev yx:=@Tryz.underlying167
abbrev yy:=@St.unpack
abbrev yz:=@Tryz.underlying27
abbrev y0:=@St.YA
abbrev y8:=@St.rr
abbrev y9:=@Tryz.underlying119
abbrev nU:=@Tryz.underlying344
abbrev nG:=@Tryz.underlying28
abbrev nH:=@Tryz.underlying48
abbrev mY:=@Tryz.underlying4
abbrev oG:=@Tryz.underlying305
abbrev kn:=@St.Kt
abbrev jJ:=@St.made
abbrev lM:=@St.HO
abbrev qt:=@Tryz.underlying329
abbrev kO:=@St.adF
abbrev r6:=@Tryz.underlying230
abbrev mK:=@St.Kk
abbrev qu:=@Tryz.results276
abbrev lU:=@St.U0
abbrev r7:=@Tryz.underlying53
abbrev kP:=@St.Rn
abbrev jP:=@St.un
abbrev sX:=@Tryz.underlying2
abbrev lN:=@St.perm
abbrev lP:=@St.Lj
abbrev uX:=@Tryz.underlying343
abbrev tS:=@Tryz.results122
abbrev oU:=@St.Eh
abbrev wR:=@Tryz.underlying224
abbrev wS:=@Tryz.underlying59
abbrev kQ:=@St.bc
abbrev uV:=@Tryz.results226
abbrev uW:=@Tryz.results292
abbrev yQ:=@Tryz.underlying161
abbrev yR:=@Tryz.underlying210
abbrev yS:=@Tryz.underlying264
abbrev yT:=@Tryz.underlying361
abbrev tQ:=@St.Us
abbrev Bg:=@Tryz.underlying116
abbrev Bh:=@Tryz.underlying153
abbrev Bi:=@Tryz.underlying267
abbrev Bk:=@Tryz.underlying273
abbrev Bl:=@Tryz.underlying370
abbrev yV:=@Tryz.results130
abbrev Bm:=@Tryz.underlying23
abbrev Bn:=@Tryz.underlying42
abbrev Bo:=@Tryz.underlying57
abbrev qw:=@St.fact
abbrev nV:=@St.eM
abbrev uY:=@St.Oe
abbrev uZ:=@St.yF
abbrev Dj:=@Tryz.underlying322
abbrev Dk:=@Tryz.underlying346
abbrev Dl:=@Tryz.underlying363
abbrev Dm:=@Tryz.underlying38
abbrev Dp:=@Tryz.underlying99
abbrev Bp:=@Tryz.results90
abbrev wT:=@St.adA
abbrev Dq:=@Tryz.results291
abbrev Gt:=@Tryz.underlying109
abbrev Gu:=@Tryz.underlying113
abbrev Gv:=@Tryz.underlying172
abbrev Gx:=@Tryz.underlying229
abbrev yW:=@St.YE
abbrev Gy:=@Tryz.underlying24
abbrev Gz:=@Tryz.underlying69
abbrev GA:=@Tryz.underlying81
abbrev Gj:=@Tryz.underlying87
abbrev Gk:=@Tryz.underlying91
abbrev yU:=@St.YD
abbrev Bj:=@St.Vd
abbrev Di:=@St.Wo
abbrev Gl:=@Tryz.results271
abbrev Gm:=@Tryz.results281
abbrev Gn:=@Tryz.results289
abbrev Gq:=@Tryz.results300
abbrev Gs:=@Tryz.results65
abbrev GB:=@Tryz.results67
theorem k_{p:Prop}(h:p:=by kernel_rfl):p:=h
theorem f_{p:Prop}(h:p:=by exact fun _=>rfl):p:=h
abbrev p_:Value×List Nat->Value:=Prod.fst
end
section
open Go Go.Sx
abbrev Zf:=(.bool true:Value)
abbrev Zp:=(.bool false:Value)
abbrev Zc:=(.int .i64 0:Value)
abbrev qH:=(.int .i64 1:Value)
abbrev rF:=(.int .i64 4:Value)
abbrev zK:=(.int .i64 6:Value)
abbrev xx:=(.int .i64 9:Value)
abbrev tj:=(.int .u64 0:Value)
abbrev vC:=(.int .u64 1:Value)
abbrev zL:=(.int .u64 2:Value)
abbrev vD:=(.int .u64 3:Value)
abbrev xw:=(.int .i64 10:Value)
abbrev BM:=([.int .u64 0]:List Value)
abbrev Za(a:Int):=(.int .i64 a:Value)
abbrev Zn(a:Int):=(.int .u64 a:Value)
abbrev Zt:=(.pointer none:Value)
abbrev Zw:=(.int .i64 (-1):Value)
abbrev Ze(a:Int):=([.int .i64 a]:List Value)
abbrev Zq(a:Int):=([.int .u64 a]:List Value)
abbrev Zg:=(.slice none 0 0:Value)
abbrev Z8(a:Int):=(#[.int .i64 a]:Array Value)
abbrev xm(a:Int):=(#[.int .u64 a]:Array Value)
abbrev nq:=([.slice none 0 0]:List Value)
abbrev rD a b:=(fL fV a 3 1 b:fU)
abbrev oJ a b:=(fL fR a 3 1 b:fU)
abbrev rE a b:=(fL gW a 40 1 b:fU)
abbrev vt:=([.int .i64 0,.int .i64 0]:List Value)
abbrev vE:=([.int .u64 0,.int .i64 0]:List Value)
abbrev BO a b:=(fL Ge.cells a 91 3 b:fU)
abbrev D9 a:=IntKind.i64.wrap (a+1)
abbrev G7:=(#[.int .i64 0,.bool false]:Array Value)
abbrev p8(a:Int)(b:Bool):=(#[.int .i64 a,.bool b]:Array Value)
abbrev G9:=(#[.int .u64 0,.int .i64 0]:Array Value)
abbrev He:=(#[.int .u64 1,.int .u64 3]:Array Value)
abbrev BH(a:Int):=(#[.bool true,.int .u64 a]:Array Value)
abbrev D2(a:Int):=(#[.int .i64 a,.bool true]:Array Value)
abbrev BP a b:=(fL iV.cells a 143 2 b:fU)
abbrev xl(a:Int):=(#[.int .i64 a,.int .i64 0]:Array Value)
abbrev xg a (b:List Nat):=List.range (a+b.length)
abbrev Zo(a b:Int):=([.int .i64 a,.int .i64 b]:List Value)
abbrev sJ(a b:Int):=([.int .u64 a,.int .i64 b]:List Value)
abbrev Zb(a:Nat):=(.pointer (some ⟨a,0,none⟩):Value)
abbrev Ee(a:Nat):=(.pointer (some ⟨a,3,none⟩):Value)
abbrev Zx(a b:Int):=(#[.int .i64 a,.int .i64 b]:Array Value)
abbrev vq(a b:Int):=(#[.int .u64 a,.int .u64 b]:Array Value)
abbrev Zh(a:Nat):=([.pointer (some ⟨a,0,none⟩)]:List Value)
abbrev Hv(a:GW):=IntKind.i64.wrap (a.trees+1)
abbrev Hw(a:GW):=IntKind.i64.wrap (a.trees-1)
abbrev Hz:=(.agg #[.int .i64 0,.int .i64 0]:Value)
abbrev Z3(a:Nat):=(.slice (some ⟨a,0,none⟩) 1 1:Value)
abbrev xh(a:Nat):=(.slice (some ⟨a,0,none⟩) 2 2:Value)
abbrev Z1(a:Nat):=(.slice (some ⟨a,0,none⟩) 3 3:Value)
abbrev Zi(a:Nat):=(#[.pointer (some ⟨a,0,none⟩)]:Array Value)
abbrev pE(a:fW) b:=gh a.im ((fJ a.live b).u)
abbrev um(a:fW) b:=iZ a.im ((fJ a.live b).u)
abbrev zM(a b:Nat):=(.slice (some ⟨a,0,none⟩) 0 b:Value)
abbrev BQ(a b:Int):=(.agg (Zx a b):Value)
abbrev HB(a b:Int):=(.agg (vq a b):Value)
abbrev Zd(a b:Nat):=(.slice (some ⟨a,0,none⟩) b b:Value)
abbrev Hf(a:Nat) b:=(#[.pointer (some ⟨a,0,none⟩),b]:Array Value)
abbrev D3 a (b:Nat):=(#[a,.pointer (some ⟨b,0,none⟩)]:Array Value)
abbrev D7(a b:Int):=([.agg (Zx a b)]:List Value)
abbrev p7(a b:Nat):=([.slice (some ⟨a,0,none⟩) b b]:List Value)
abbrev Zr(a:Int) b c d e f:=([.int .i64 a,b,c,d,e,f]:List Value)
abbrev Zv(a:Nat)(b c:Int):=(blk a 221 (Zo b c):fU)
abbrev M0(a:gE):=(.agg #[.int .i64 a.ix,.int .i64 a.key]:Value)
abbrev Zy(a:Nat):=(#[.pointer (some ⟨a,0,none⟩),.int .i64 0]:Array Value)
abbrev zI(a:Int) b c d e f:=(.agg #[.int .i64 a,b,c,d,e,f]:Value)
abbrev xA(a:Int)(b:Nat):=([.int .i64 a,.pointer (some ⟨b,0,none⟩)]:List Value)
abbrev sI(a:Nat)(b:Int):=([.pointer (some ⟨a,0,none⟩),.int .i64 b]:List Value)
abbrev BE:=(#[.agg #[.int .i64 0,.int .i64 0],.bool false]:Array Value)
abbrev BI(a:Int)(b:Nat):=(#[.int .i64 a,.pointer (some ⟨b,0,none⟩)]:Array Value)
abbrev Zm(a:Nat)(b:Int):=(#[.pointer (some ⟨a,0,none⟩),.int .i64 b]:Array Value)
abbrev Z4(a:Nat)(b:Int):=(#[.pointer (some ⟨a,0,none⟩),.int .u64 b]:Array Value)
abbrev D8(a:Int) b c d e f:=([.agg #[.int .i64 a,b,c,d,e,f]]:List Value)
abbrev BG(a:Int) b c d e f:=(#[.agg #[.int .i64 a,b,c,d,e,f]]:Array Value)
abbrev Mk a (b c:Int):=(#[a,.int .i64 0,.int .i64 b,.int .i64 c]:Array Value)
abbrev uh(a:WW)(b:Int):=(blk a.cb 221 (Zo b a.now):fU)
abbrev BF(a b:Int):=(#[.agg (Zx a b),.bool true]:Array Value)
abbrev D1 a b (c:List Ge):=(⟨(fJ a b),((fJ c (fJ a b)).u)⟩:jG)
abbrev tg a b (c:List Ge):=(⟨(fJ a b),((fJ c (fJ a b)).v)⟩:jG)
abbrev MX a b:=fJ (iF a b (jy a b)) (jy a b)
abbrev MC a b:=(gM a .u64 p_ b:fU)
abbrev HG(a:Nat):=(.func (.func 138) #[] (Zi a):Value)
abbrev M1(a:Nat):=(.func (.func 275) (Zi a) #[]:Value)
abbrev M3(a:Nat):=(.func (.func 276) (Zi a) #[]:Value)
abbrev pG(a:Nat)(b:Int) c d:=([.pointer (some ⟨a,0,none⟩),.int .i64 b,c,d]:List Value)
abbrev Mh(a:Nat):=(#[.func (.func 138) #[] (Zi a)]:Array Value)
abbrev M4(a b:Int):=(.tuple #[.agg (Zx a b),.int .i64 0]:Value)
abbrev Hr(a b c d:Int):=([.int .i64 a,.int .i64 b,.int .i64 c,.int .i64 d]:List Value)
abbrev zQ(a:Nat)(b c:Int):=([.pointer (some ⟨a,0,none⟩),.int .i64 b,.int .i64 c]:List Value)
abbrev Zu(a:Nat)(b c:Int):=(#[.pointer (some ⟨a,0,none⟩),.int .i64 b,.int .i64 c]:Array Value)
abbrev oK(a:fW) b:=gh (um a b) ((fJ a.live b).v)
abbrev zN(a:Int) b c d e f (g:Int):=(#[.agg #[.int .i64 a,b,c,d,e,f],.int .i64 g]:Array Value)
abbrev Z5(a b:Nat):=([.pointer (some ⟨a,0,none⟩),.pointer (some ⟨b,0,none⟩)]:List Value)
abbrev zH(a:fW) b:=iZ (um a b) ((fJ a.live b).v)
abbrev BS(a b:Nat):=(#[.pointer (some ⟨a,0,none⟩),.pointer (some ⟨b,0,none⟩)]:Array Value)
abbrev G4(a b:Nat):=(gj [blk a 116 nq,blk b 48 nq]:fU)
abbrev Eb(a b c d:Int):=(.agg #[.int .i64 a,.int .i64 b,.int .i64 c,.int .i64 d]:Value)
abbrev Me(a b c d:Int):=(#[.agg #[.int .i64 a,.int .i64 b,.int .i64 c,.int .i64 d]]:Array Value)
abbrev Zz(a:Lv):=([.int .u64 a.u,.int .u64 a.v,.int .i64 a.wt,.int .i64 a.t]:List Value)
abbrev Ml a (b c:Nat):=(#[a,.pointer (some ⟨b,0,none⟩),.pointer (some ⟨c,0,none⟩)]:Array Value)
abbrev BV(a b c d:Int):=([.int .i64 a,.int .i64 b,.int .i64 c,.int .i64 1,.int .i64 d]:List Value)
abbrev MV(a:Int) b (c d:Nat):=([.pointer none,.int .i64 a,b,.slice (some ⟨c,0,none⟩) d d]:List Value)
abbrev Mi(a b c d:Int):=(#[.int .i64 a,.int .i64 b,.int .i64 c,.int .i64 1,.int .i64 d]:Array Value)
abbrev Ec(a:Lv):=(.agg #[.int .u64 a.u,.int .u64 a.v,.int .i64 a.wt,.int .i64 a.t]:Value)
abbrev BJ a (b c d:Nat) (e:Int):=([a,blk b 161 (Zh c),blk d 3 (Ze e)]:List fU)
abbrev HC(a:Int) b (c d:Nat):=(.agg #[.pointer none,.int .i64 a,b,.slice (some ⟨c,0,none⟩) d d]:Value)
abbrev Uk(a:Int)(b c:Nat):=(#[.int .i64 a,.pointer (some ⟨b,0,none⟩),.pointer (some ⟨c,0,none⟩)]:Array Value)
abbrev oL(a b:Nat)(c:TW):=([.pointer (some ⟨a,0,none⟩),.pointer (some ⟨b,0,none⟩),c.iv,c.cv]:List Value)
abbrev vH(a b c:Nat)(d:Int):=([.pointer (some ⟨a,0,none⟩),.slice (some ⟨b,0,none⟩) c c,.int .i64 d]:List Value)
abbrev DX a (b:Nat) (c:Int) d e f g h i:=(gj [a,blk b 83 (Zr c d e f g h),fL fV f 3 1 i]:fU)
abbrev HH(a:Nat)(b:Int) c (d e:Nat):=([.pointer (some ⟨a,0,none⟩),.int .i64 b,c,.slice (some ⟨d,0,none⟩) e e]:List Value)
abbrev nr:=([.int .i64 0,.int .u64 0,.int .u64 0,.int .u64 0,.int .i64 0,.int .i64 0,.int .i64 0]:List Value)
abbrev G8:=(#[.int .i64 0,.int .u64 0,.int .u64 0,.int .u64 0,.int .i64 0,.int .i64 0,.int .i64 0]:Array Value)
abbrev uo(a:fW) b c d:=gD a.im ((fJ a.live b).u) (c,(pE a b).2.eraseIdx d)
abbrev vF(a b c:Nat):=([.pointer (some ⟨a,0,none⟩),.pointer (some ⟨b,0,none⟩),.pointer (some ⟨c,0,none⟩)]:List Value)
abbrev LY a (b c d e:Nat):=([.pointer none,a,.slice (some ⟨b,0,none⟩) c c,.slice (some ⟨d,0,none⟩) e e]:List Value)
abbrev Mj(a b c:Nat):=(#[.pointer (some ⟨a,0,none⟩),.pointer (some ⟨b,0,none⟩),.pointer (some ⟨c,0,none⟩)]:Array Value)
abbrev zV(a b c:Nat)(d:Int):=(blk a 349 (vH a b c d):fU)
abbrev uk:=([.int .i64 0,.slice none 0 0,.slice none 0 0,.slice none 0 0,.slice none 0 0,.slice none 0 0]:List Value)
abbrev D0(a:GW) b:=(⟨((gh a.m (b:Int)).a),((gh a.m (b:Int)).b),(gh a.m (b:Int)).exp,true⟩:Ed)
abbrev DZ(a:GW) b:=(⟨((gh a.m (b:Int)).a),((gh a.m (b:Int)).b),(gh a.m (b:Int)).exp,false⟩:Ed)
abbrev MS(a:Nat)(b:Int)(c d:Nat):=([.pointer (some ⟨a,0,none⟩),.int .i64 b,.slice none 0 0,.slice (some ⟨c,0,none⟩) d d]:List Value)
abbrev HE a (b c d e:Nat):=(.agg #[.pointer none,a,.slice (some ⟨b,0,none⟩) c c,.slice (some ⟨d,0,none⟩) e e]:Value)
abbrev vG(a:Nat) b (c:As) (d:Int):=([.pointer (some ⟨a,0,none⟩),b,.int .i64 c.n,.int .i64 d,.int .i64 c.used,.int .i64 c.last]:List Value)
abbrev BX a (b:Int) c d e f g (h i:Nat):=([a,.int .i64 b,c,d,e,f,g,.pointer (some ⟨h,0,none⟩),.pointer (some ⟨i,0,none⟩)]:List Value)
abbrev xo(a:Nat)(b:Lv):=(#[.pointer (some ⟨a,0,none⟩),.agg #[.int .u64 b.u,.int .u64 b.v,.int .i64 b.wt,.int .i64 b.t]]:Array Value)
abbrev Hs(a:Nat) b (c:As) (d:Int):=([.pointer (some ⟨a,0,none⟩),b,.int .i64 c.n,.int .i64 c.begun,.int .i64 c.used,.int .i64 d]:List Value)
abbrev Hi a b c d e (f:Nat) (g:Int) h i j k l:=([a,fL Mg.cells b 178 5 c,fL fR d 3 1 e,blk f 83 (Zr g h i j k l)]:List fU)
abbrev Z7(a:Nat) b (c:As):=([.pointer (some ⟨a,0,none⟩),b,.int .i64 c.n,.int .i64 c.begun,.int .i64 c.used,.int .i64 c.last]:List Value)
abbrev qG(a b:Int)(c:Lv):=([.int .i64 a,.int .u64 b,.int .u64 c.u,.int .u64 c.v,.int .i64 c.wt,.int .i64 c.t,.int .i64 c.exp]:List Value)
abbrev MY(a b:Int)(c:Lv)(d:Int):=(.agg #[.int .i64 a,.int .u64 b,.int .u64 c.u,.int .u64 c.v,.int .i64 c.wt,.int .i64 c.t,.int .i64 d]:Value)
abbrev pq(a:fW) b c d:=gh (uo a b c d) ((fJ a.live b).v)
abbrev Hx(a:fW) b c d:=iZ (uo a b c d) ((fJ a.live b).v)
abbrev Ef(a b c:Int)(d e:Nat) f g:=([.int .i64 a,.int .i64 b,.int .u64 c,.pointer (some ⟨d,0,none⟩),.pointer (some ⟨e,0,none⟩),f,.map g]:List Value)
abbrev HA(a b:Int)(c:Lv):=(.agg #[.int .i64 a,.int .u64 b,.int .u64 c.u,.int .u64 c.v,.int .i64 c.wt,.int .i64 c.t,.int .i64 c.exp]:Value)
abbrev BN a (b:nk) c d e f:=(gj [fL fV a 3 1 b.l,fL fV c 3 1 b.r,fL fV d 3 1 b.p,fL fV e 2 1 b.h,fL fR f 3 1 b.s]:fU)
abbrev Z9(a:Lv):=([.int .i64 a.slot,.int .u64 a.seq,.int .u64 a.u,.int .u64 a.v,.int .i64 a.wt,.int .i64 a.t,.int .i64 a.exp]:List Value)
abbrev MU(a:Nat)(b:As):=([.pointer (some ⟨a,0,none⟩),.slice none 0 0,.int .i64 b.n,.int .i64 b.begun,.int .i64 b.used,.int .i64 b.last]:List Value)
abbrev ML(a:Nat) b c d e f g h i j:=([ig .i64 (Z3 a) 3 b,fL fR c 3 1 d,e,f,fL fR g 3 1 h,fL fR i 3 1 j]:List fU)
abbrev MT(a b c d:Nat):=([.pointer (some ⟨a,0,none⟩),.pointer (some ⟨b,0,none⟩),.pointer (some ⟨c,0,none⟩),.pointer (some ⟨d,0,none⟩)]:List Value)
abbrev Hh a (b:Nat) (c:Int) (d:Nat) (e:Bool) (f g h:Nat) (i:Int):=([a,blk b 3 (Ze c),blk d 4 [.bool e],blk f 166 (Zh g),blk h 40 (Zq i)]:List fU)
abbrev Eg(a b c:Int)(d:fW) e f:=([.int .i64 a,.int .i64 b,.int .u64 c,.pointer (some ⟨d.jd,0,none⟩),.pointer (some ⟨d.tb,0,none⟩),e,.map f]:List Value)
abbrev zP(a b:Int)(c:GW) d:=([.int .i64 a,.int .i64 b,.pointer (some ⟨c.fb,0,none⟩),.pointer (some ⟨c.hb,0,none⟩),.map d,.int .i64 c.trees]:List Value)
abbrev Hl(a:Nat) b c d e f g:=([blk a 95 [.pointer (some ⟨a,0,none⟩),b,c,d],fL Ge.cells b 91 3 e,fL fR c 3 1 f,fL fR d 3 1 g]:List fU)
abbrev Md(a b c:Nat)(d:List Nd):=([blk a 349 [.pointer (some ⟨a,0,none⟩),.slice (some ⟨b,0,none⟩) c c,.int .i64 0],blk b 352 (d.flatMap Nd.cells)]:List fU)
abbrev zJ(a:Lv):=(.agg #[.int .i64 a.slot,.int .u64 a.seq,.int .u64 a.u,.int .u64 a.v,.int .i64 a.wt,.int .i64 a.t,.int .i64 a.exp]:Value)
abbrev MR(a b:Int)(c d:Nat) e:=([.int .i64 a,.int .i64 b,.int .u64 0,.pointer (some ⟨c,0,none⟩),.pointer (some ⟨d,0,none⟩),.slice none 0 0,.map e]:List Value)
abbrev BW(a b c:Int)(d:fW) e:=([.int .i64 a,.int .i64 b,.int .u64 c,.pointer (some ⟨d.jd,0,none⟩),.pointer (some ⟨d.tb,0,none⟩),d.lv,.map e]:List Value)
abbrev pg(a b:Int)(c:fW) d:=([.int .i64 a,.int .i64 b,.int .u64 c.last,.pointer (some ⟨c.jd,0,none⟩),.pointer (some ⟨c.tb,0,none⟩),c.lv,.map d]:List Value)
abbrev Zl(a b c:Nat)(d:Int)(e:List Nd):=(gj [blk a 349 (vH a b c d),blk b 352 (e.flatMap Nd.cells)]:fU)
abbrev BR(a b:Int)(c:Lv)(d:Int):=(.tuple #[.agg #[.int .i64 a,.int .u64 b,.int .u64 c.u,.int .u64 c.v,.int .i64 c.wt,.int .i64 c.t,.int .i64 d],.int .i64 0]:Value)
abbrev LX(a b c d:Nat):=([.pointer none,.slice (some ⟨a,0,none⟩) b b,.slice (some ⟨c,0,none⟩) b b,.slice (some ⟨d,0,none⟩) b b,.int .i64 b]:List Value)
abbrev Hu(a:Nat)(b:Int) c d e f g:=([blk a 346 (pG a b c d),fL gE.cells c 224 2 e,fL ir d 361 1 f,gK fR 363 64 f g]:List fU)
abbrev HD(a b c d:Nat):=(.agg #[.pointer none,.slice (some ⟨a,0,none⟩) b b,.slice (some ⟨c,0,none⟩) b b,.slice (some ⟨d,0,none⟩) b b,.int .i64 b]:Value)
abbrev D6 a (b:Nat) (c:Int) d e f g h (i:Nat) (j:Int) (k:Nat) l m n:=([a,blk b 83 (Zr c d e f g h),blk i 2 (Ze j),blk k 35 [l],fL fR l 3 1 m,fL fV g 2 1 n]:List fU)
abbrev BT(a b:Nat)(c:TW):=([blk a 261 (oL a b c),fL gW c.iv 40 1 c.ids,fL fR c.cv 3 1 c.cs]:List fU)
abbrev Ea(a:fW) b c d:=gD (um a b) ((fJ a.live b).v) (c,(oK a b).2.eraseIdx d)
abbrev DY(a b:Nat)(c:TW) d:=(gj [blk a 261 (oL a b c),fL gW c.iv 40 1 c.ids,fL fR c.cv 3 1 d]:fU)
abbrev Zk(a:Nat)(b:Int) c d e f g:=(gj (Hu a b c d e f g):fU)
abbrev Z0(a b:Nat)(c:TW):=(gj (BT a b c):fU)
abbrev BU(a:Nat)(b:Ds) c:=([blk a 149 [.pointer (some ⟨a,0,none⟩),b.uv,b.lv,b.sv,.int .i64 b.cnt],fL fR b.uv 3 1 c,fL fR b.lv 3 1 b.le,fL fV b.sv 3 1 b.sz]:List fU)
abbrev zU(a:Nat) b (c d e f:Int) g h:=(gj [blk a 275 [.pointer (some ⟨a,0,none⟩),b,.int .i64 c,.int .i64 d,.int .i64 e,.int .i64 f],fL ir b 354 1 g,gK gP.cells 357 64 g h]:fU)
abbrev xB(a:Nat)(b:Ds):=([blk a 149 [.pointer (some ⟨a,0,none⟩),b.uv,b.lv,b.sv,.int .i64 b.cnt],fL fR b.uv 3 1 b.up,fL fR b.lv 3 1 b.le,fL fV b.sv 3 1 b.sz]:List fU)
abbrev G5(a:Nat)(b:Ds) c:=(gj (BU a b c):fU)
abbrev Mb(a:Nat) b (c:As) (d:Int) e f:=([blk a 275 (vG a b c d),fL ir b 354 1 e,gK gP.cells 357 64 e f]:List fU)
abbrev qa(a:Nat)(b:Ds):=(gj (xB a b):fU)
abbrev Mx(a:Nat) b (c d e:Int) (f:As):=(gj [blk a 275 [.pointer (some ⟨a,0,none⟩),b,.int .i64 c,.int .i64 d,.int .i64 e,.int .i64 f.last],fL ir b 354 1 f.ps,gK gP.cells 357 64 f.ps f.sl]:fU)
abbrev zO a (b c d e:Nat) (f:Int) (g:List Nd):=([a,blk b 226 (Zh c),blk c 349 (vH c d e f),blk d 352 (g.flatMap Nd.cells)]:List fU)
abbrev Ma(a:Nat) b (c:As) (d:Int):=([blk a 275 (vG a b c d),fL ir b 354 1 c.ps,gK gP.cells 357 64 c.ps c.sl]:List fU)
abbrev MG(a:Nat)(b:Int):=([gK gP.cells 357 64 ([]) ([]),fL ir Zg 354 1 ([]),blk a 275 [.pointer (some ⟨a,0,none⟩),.slice none 0 0,.int .i64 b,.int .i64 0,.int .i64 0,.int .i64 (-1)]]:List fU)
abbrev zW(a:Nat) b (c:As):=([blk a 275 (Z7 a b c),fL ir b 354 1 c.ps,gK gP.cells 357 64 c.ps c.sl]:List fU)
abbrev Zs(a:Nat) b (c:As):=(gj (zW a b c):fU)
abbrev BL(a b:Nat):=([.func (.func 249) #[] (Zi a),.func (.func 251) #[] (BS a b),.func (.func 253) #[] (Zi a)]:List Value)
abbrev Ul(a:Int)(b c d e f g:Nat):=([.int .i64 a,.slice (some ⟨b,0,none⟩) c c,.slice (some ⟨d,0,none⟩) c c,.slice (some ⟨e,0,none⟩) c c,.slice (some ⟨f,0,none⟩) c c,.slice (some ⟨g,0,none⟩) c c]:List Value)
abbrev M5(a:Int)(b c d e f g:Nat):=(#[.int .i64 a,.slice (some ⟨b,0,none⟩) c c,.slice (some ⟨d,0,none⟩) c c,.slice (some ⟨e,0,none⟩) c c,.slice (some ⟨f,0,none⟩) c c,.slice (some ⟨g,0,none⟩) c c]:Array Value)
abbrev MZ(a:Int)(b c d e f g:Nat):=(.agg (M5 a b c d e f g):Value)
abbrev L8(a:Nat) b (c:As) d e:=([blk a 275 (Z7 a b c),fL ir b 354 1 c.ps,gK gP.cells 357 64 c.ps c.sl,ig .i64 d 3 e]:List fU)
abbrev DT(a:Nat):=([.pointer (some ⟨a,0,none⟩),.bool false,.int .u64 0,.slice none 0 0,.int .i64 0,.slice none 0 0,.slice none 0 0,.slice none 0 0,.slice none 0 0,.slice none 0 0,.pointer none,.pointer none,.int .i64 0]:List Value)
abbrev L6(a b c d:Nat)(e:Int)(f:List Nd) g h (i:Nat):=([blk a 226 (Zh b),blk b 349 (vH b c d e),blk c 352 (f.flatMap Nd.cells),ig .i64 g 3 h,blk i 35 [g]]:List fU)
abbrev Ht(a:Nat)(b:Int)(c d:Nat)(e:Int) f g h i j:=([blk a 3 (Ze b),blk c 229 (Zh d),blk d 346 (pG d e f g),fL gE.cells f 224 2 h,fL ir g 361 1 i,gK fR 363 64 i j]:List fU)
abbrev vz(a:Nat)(b:Int)(c d:Nat)(e:Int) f g h i j:=(gj (Ht a b c d e f g h i j):fU)
abbrev G0(a b:Nat):=(blk a 89 (DT b):fU)
abbrev DW a (b c:Nat) (d:TW) (e f:Nat) (g:Int):=(gj [a,blk b 261 (oL b c d),fL gW d.iv 40 1 d.ids,fL fR d.cv 3 1 d.cs,blk e 166 (Zh b),blk f 40 (Zq g)]:fU)
abbrev tq(a b c d:Int)(e:WW):=([.int .i64 a,.int .i64 b,.int .i64 c,.int .i64 d,.pointer (some ⟨e.cb,0,none⟩),.pointer (some ⟨e.ub,0,none⟩),.pointer (some ⟨e.sb,0,none⟩),.pointer (some ⟨e.ob,0,none⟩),.int .u64 e.added,.int .u64 e.jw]:List Value)
abbrev Hy(a:fW) b c d e f:=gD (uo a b c d) ((fJ a.live b).v) (e,(pq a b c d).2.eraseIdx f)
abbrev Mc(a:Nat)(b:Int) c d e f g (h:Nat) i (j k:Nat) l:=([blk a 346 (pG a b c d),fL gE.cells c 224 2 e,fL ir d 361 1 f,gK fR 363 64 f g,blk h 346 (HH h b i j k),fL gE.cells i 224 2 e,fL ir (Zd j k) 361 1 l,gK fR 363 64 l g]:List fU)
abbrev My(a:Nat) b (c:As) (d:Nat) e f:=(gj [blk a 275 (Z7 a b c),fL ir b 354 1 c.ps,gK gP.cells 357 64 c.ps c.sl,blk d 275 (Z7 d e c),fL ir e 354 1 f,gK gP.cells 357 64 f c.sl]:fU)
abbrev MF(a:Nat)(b:Int)(c d e f g h:Nat) i j k l (m:Nat):=([blk a 83 (Ul b c d e f g h),blk h 3 i,blk g 2 j,blk f 3 j,blk e 3 j,blk c 3 j,fL fR k 3 1 l,blk m 83 uk]:List fU)
abbrev M6:=([.int .i64 0,.int .i64 0,.int .u64 0,.int .i64 0,.int .i64 0,.int .u64 0,.int .i64 0,.int .i64 0,.int .u64 0,.int .i64 0,.int .i64 0,.int .u64 0,.int .i64 0,.int .i64 0,.int .u64 0,.int .i64 0,.int .i64 0,.int .u64 0,.int .i64 0,.int .i64 0,.int .u64 0,.int .i64 0,.int .i64 0,.int .u64 0,.int .i64 0,.int .i64 0,.int .u64 0,.int .i64 0,.int .i64 0,.int .u64 0,.int .i64 0,.int .i64 0,.int .u64 0,.int .i64 0,.int .i64 0,.int .u64 0,.int .i64 0,.int .i64 0,.int .u64 0,.int .i64 0,.int .i64 0,.int .u64 0,.int .i64 0,.int .i64 0,.int .u64 0,.int .i64 0,.int .i64 0,.int .u64 0,.int .i64 0,.int .i64 0,.int .u64 0,.int .i64 0,.int .i64 0,.int .u64 0,.int .i64 0,.int .i64 0,.int .u64 0,.int .i64 0,.int .i64 0,.int .u64 0,.int .i64 0,.int .i64 0,.int .u64 0,.int .i64 0,.int .i64 0,.int .u64 0,.int .i64 0,.int .i64 0,.int .u64 0,.int .i64 0,.int .i64 0,.int .u64 0,.int .i64 0,.int .i64 0,.int .u64 0,.int .i64 0,.int .i64 0,.int .u64 0,.int .i64 0,.int .i64 0,.int .u64 0,.int .i64 0,.int .i64 0,.int .u64 0,.int .i64 0,.int .i64 0,.int .u64 0,.int .i64 0,.int .i64 0,.int .u64 0,.int .i64 0,.int .i64 0,.int .u64 0,.int .i64 0,.int .i64 0,.int .u64 0,.int .i64 0,.int .i64 0,.int .u64 0,.int .i64 0,.int .i64 0,.int .u64 0,.int .i64 0,.int .i64 0,.int .u64 0,.int .i64 0,.int .i64 0,.int .u64 0,.int .i64 0,.int .i64 0,.int .u64 0,.int .i64 0,.int .i64 0,.int .u64 0,.int .i64 0,.int .i64 0,.int .u64 0,.int .i64 0,.int .i64 0,.int .u64 0,.int .i64 0,.int .i64 0,.int .u64 0,.int .i64 0,.int .i64 0,.int .u64 0,.int .i64 0,.int .i64 0,.int .u64 0,.int .i64 0,.int .i64 0,.int .u64 0,.int .i64 0,.int .i64 0,.int .u64 0,.int .i64 0,.int .i64 0,.int .u64 0,.int .i64 0,.int .i64 0,.int .u64 0,.int .i64 0,.int .i64 0,.int .u64 0,.int .i64 0,.int .i64 0,.int .u64 0,.int .i64 0,.int .i64 0,.int .u64 0,.int .i64 0,.int .i64 0,.int .u64 0,.int .i64 0,.int .i64 0,.int .u64 0,.int .i64 0,.int .i64 0,.int .u64 0,.int .i64 0,.int .i64 0,.int .u64 0,.int .i64 0,.int .i64 0,.int .u64 0,.int .i64 0,.int .i64 0,.int .u64 0,.int .i64 0,.int .i64 0,.int .u64 0,.int .i64 0,.int .i64 0,.int .u64 0,.int .i64 0,.int .i64 0,.int .u64 0,.int .i64 0,.int .i64 0,.int .u64 0,.int .i64 0,.int .i64 0,.int .u64 0,.int .i64 0,.int .i64 0,.int .u64 0,.int .i64 0,.int .i64 0,.int .u64 0,.int .i64 0,.int .i64 0,.int .u64 0]:List Value)
abbrev Mo a (b c:Nat) d (e:As) f g:=([a,blk b 357 M6,blk c 275 (Z7 c d e),fL ir f 354 1 g,gK gP.cells 357 64 e.ps e.sl]:List fU)
end
section
open Go Go.Sx
theorem ti2:(ya.info? 2).map (fun i=>(i.size,i.bytes,i.zero))=some (1,8,some (.int .i64 0)):=by kernel_rfl
theorem gr:(ya.info? 3).map (fun i=>(i.size,i.bytes,i.zero))=some (1,8,some (.int .i64 0)):=by kernel_rfl
theorem F8:(ya.info? 4).map (fun i=>(i.size,i.bytes,i.zero))=some (1,1,some (.bool false)):=by kernel_rfl
theorem ti5:(ya.info? 5).map (fun i=>(i.size,i.bytes,i.zero))=some (1,1,some (.int .u8 0)):=by kernel_rfl
theorem ti6:(ya.info? 6).map (fun i=>(i.size,i.bytes,i.zero))=some (1,1,some (.int .u8 0)):=by kernel_rfl
theorem ti7:(ya.info? 7).map (fun i=>(i.size,i.bytes,i.zero))=some (4,24,some (.agg #[(.int .i64 0),(.int .i64 0),(.bool false),(.int .u8 0)])):=by kernel_rfl
theorem ti8:(ya.info? 8).map (fun i=>(i.size,i.bytes,i.zero))=some (4,24,some (.agg #[(.int .i64 0),(.int .i64 0),(.bool false),(.int .u8 0)])):=by kernel_rfl
theorem ti9:(ya.info? 9).map (fun i=>(i.size,i.bytes,i.zero))=some (1,16,some (.string ⟨#[]⟩)):=by kernel_rfl
theorem ae0:(ya.info? 10).map (fun i=>(i.size,i.bytes,i.zero))=some (1,16,some (.string ⟨#[]⟩)):=by kernel_rfl
theorem ae2:(ya.info? 11).map (fun i=>(i.size,i.bytes,i.zero))=some (1,16,some (.string ⟨#[]⟩)):=by kernel_rfl
theorem ae5:(ya.info? 12).map (fun i=>(i.size,i.bytes,i.zero))=some (1,8,some (.int .u64 0)):=by kernel_rfl
theorem ae9:(ya.info? 13).map (fun i=>(i.size,i.bytes,i.zero))=some (2,24,some (.agg #[(.string ⟨#[]⟩),(.int .u64 0)])):=by kernel_rfl
theorem afb:(ya.info? 14).map (fun i=>(i.size,i.bytes,i.zero))=some (2,24,some (.agg #[(.string ⟨#[]⟩),(.int .u64 0)])):=by kernel_rfl
theorem afd:(ya.info? 15).map (fun i=>(i.size,i.bytes,i.zero))=some (1,8,some (.pointer none)):=by kernel_rfl
theorem afg:(ya.info? 16).map (fun i=>(i.size,i.bytes,i.zero))=some (1,8,some (.pointer none)):=by kernel_rfl
theorem afj:(ya.info? 17).map (fun i=>(i.size,i.bytes,i.zero))=some (1,8,some (.pointer none)):=by kernel_rfl
theorem afn:(ya.info? 18).map (fun i=>(i.size,i.bytes,i.zero))=some (1,8,some (.agg #[(.pointer none)])):=by kernel_rfl
theorem afr:(ya.info? 19).map (fun i=>(i.size,i.bytes,i.zero))=some (1,8,some (.agg #[(.pointer none)])):=by kernel_rfl
theorem afC:(ya.info? 21).map (fun i=>(i.size,i.bytes,i.zero))=some (1,4,some (.int .i32 0)):=by kernel_rfl
theorem afD:(ya.info? 22).map (fun i=>(i.size,i.bytes,i.zero))=some (1,24,some (.slice none 0 0)):=by kernel_rfl
theorem Ta:(ya.info? 23).map (fun i=>(i.size,i.bytes,i.zero))=some (1,8,some (.pointer none)):=by kernel_rfl
theorem afJ:(ya.info? 24).map (fun i=>(i.size,i.bytes,i.zero))=some (1,8,some (.pointer none)):=by kernel_rfl
theorem K8:(ya.info? 27).map (fun i=>(i.size,i.bytes,i.zero))=some (1,24,some (.slice none 0 0)):=by kernel_rfl
theorem Tj:(ya.info? 28).map (fun i=>(i.size,i.bytes,i.zero))=some (1,24,some (.slice none 0 0)):=by kernel_rfl
theorem Tl:(ya.info? 31).map (fun i=>(i.size,i.bytes,i.zero))=some (1,8,some (.pointer none)):=by kernel_rfl
theorem yM:(ya.info? 32).map (fun i=>(i.size,i.bytes,i.zero))=some (1,8,some (.int .i64 0)):=by kernel_rfl
theorem j6:(ya.info? 35).map (fun i=>(i.size,i.bytes,i.zero))=some (1,24,some (.slice none 0 0)):=by kernel_rfl
theorem af8:(ya.info? 38).map (fun i=>(i.size,i.bytes,i.zero))=some (1,24,some (.slice none 0 0)):=by kernel_rfl
theorem jD:(ya.info? 40).map (fun i=>(i.size,i.bytes,i.zero))=some (1,8,some (.int .u64 0)):=by kernel_rfl
theorem agf:(ya.info? 41).map (fun i=>(i.size,i.bytes,i.zero))=some (2,16,some (.agg #[(.int .u64 0),(.int .i64 0)])):=by kernel_rfl
theorem wN:(ya.info? 42).map (fun i=>(i.size,i.bytes,i.zero))=some (2,16,some (.agg #[(.int .u64 0),(.int .i64 0)])):=by kernel_rfl
theorem Tp:(ya.info? 48).map (fun i=>(i.size,i.bytes,i.zero))=some (1,24,some (.slice none 0 0)):=by kernel_rfl
theorem Tq:(ya.info? 53).map (fun i=>(i.size,i.bytes,i.zero))=some (1,24,some (.slice none 0 0)):=by kernel_rfl
theorem agr:(ya.info? 56).map (fun i=>(i.size,i.bytes,i.zero))=some (4,32,some (.agg #[(.int .u64 0),(.int .u64 0),(.int .i64 0),(.int .i64 0)])):=by kernel_rfl
theorem uR:(ya.info? 57).map (fun i=>(i.size,i.bytes,i.zero))=some (4,32,some (.agg #[(.int .u64 0),(.int .u64 0),(.int .i64 0),(.int .i64 0)])):=by kernel_rfl
theorem ags:(ya.info? 58).map (fun i=>(i.size,i.bytes,i.zero))=some (7,56,some (.agg #[(.int .i64 0),(.int .u64 0),(.int .u64 0),(.int .u64 0),(.int .i64 0),(.int .i64 0),(.int .i64 0)])):=by kernel_rfl
theorem nF:(ya.info? 59).map (fun i=>(i.size,i.bytes,i.zero))=some (7,56,some (.agg #[(.int .i64 0),(.int .u64 0),(.int .u64 0),(.int .u64 0),(.int .i64 0),(.int .i64 0),(.int .i64 0)])):=by kernel_rfl
theorem agt:(ya.info? 68).map (fun i=>(i.size,i.bytes,i.zero))=some (4,32,some (.agg #[(.int .i64 0),(.int .i64 0),(.int .i64 0),(.int .i64 0)])):=by kernel_rfl
theorem Db:(ya.info? 69).map (fun i=>(i.size,i.bytes,i.zero))=some (4,32,some (.agg #[(.int .i64 0),(.int .i64 0),(.int .i64 0),(.int .i64 0)])):=by kernel_rfl
theorem agu:(ya.info? 73).map (fun i=>(i.size,i.bytes,i.zero))=some (1,1,some (.int .i8 0)):=by kernel_rfl
theorem agv:(ya.info? 74).map (fun i=>(i.size,i.bytes,i.zero))=some (5,5,some (.agg #[(.bool false),(.int .u8 0),(.int .u8 0),(.int .i8 0),(.int .u8 0)])):=by kernel_rfl
theorem agw:(ya.info? 75).map (fun i=>(i.size,i.bytes,i.zero))=some (5,5,some (.agg #[(.bool false),(.int .u8 0),(.int .u8 0),(.int .i8 0),(.int .u8 0)])):=by kernel_rfl
theorem agx:(ya.info? 80).map (fun i=>(i.size,i.bytes,i.zero))=some (2,16,some (.agg #[(.bool false),(.int .u64 0)])):=by kernel_rfl
theorem Dc:(ya.info? 81).map (fun i=>(i.size,i.bytes,i.zero))=some (2,16,some (.agg #[(.bool false),(.int .u64 0)])):=by kernel_rfl
theorem agy:(ya.info? 82).map (fun i=>(i.size,i.bytes,i.zero))=some (6,128,some (.agg #[(.int .i64 0),(.slice none 0 0),(.slice none 0 0),(.slice none 0 0),(.slice none 0 0),(.slice none 0 0)])):=by kernel_rfl
theorem wO:(ya.info? 83).map (fun i=>(i.size,i.bytes,i.zero))=some (6,128,some (.agg #[(.int .i64 0),(.slice none 0 0),(.slice none 0 0),(.slice none 0 0),(.slice none 0 0),(.slice none 0 0)])):=by kernel_rfl
theorem Tt:(ya.info? 84).map (fun i=>(i.size,i.bytes,i.zero))=some (1,8,some (.pointer none)):=by kernel_rfl
theorem Tu:(ya.info? 85).map (fun i=>(i.size,i.bytes,i.zero))=some (1,8,some (.pointer none)):=by kernel_rfl
theorem agz:(ya.info? 86).map (fun i=>(i.size,i.bytes,i.zero))=some (9,168,some (.agg #[(.slice none 0 0),(.int .i64 0),(.slice none 0 0),(.slice none 0 0),(.slice none 0 0),(.slice none 0 0),(.slice none 0 0),(.pointer none),(.pointer none)])):=by kernel_rfl
theorem Dd:(ya.info? 87).map (fun i=>(i.size,i.bytes,i.zero))=some (9,168,some (.agg #[(.slice none 0 0),(.int .i64 0),(.slice none 0 0),(.slice none 0 0),(.slice none 0 0),(.slice none 0 0),(.slice none 0 0),(.pointer none),(.pointer none)])):=by kernel_rfl
theorem agA:(ya.info? 88).map (fun i=>(i.size,i.bytes,i.zero))=some (13,200,some (.agg #[(.pointer none),(.bool false),(.int .u64 0),(.slice none 0 0),(.int .i64 0),(.slice none 0 0),(.slice none 0 0),(.slice none 0 0),(.slice none 0 0),(.slice none 0 0),(.pointer none),(.pointer none),(.int .i64 0)])):=by kernel_rfl
theorem Tv:(ya.info? 89).map (fun i=>(i.size,i.bytes,i.zero))=some (13,200,some (.agg #[(.pointer none),(.bool false),(.int .u64 0),(.slice none 0 0),(.int .i64 0),(.slice none 0 0),(.slice none 0 0),(.slice none 0 0),(.slice none 0 0),(.slice none 0 0),(.pointer none),(.pointer none),(.int .i64 0)])):=by kernel_rfl
theorem agB:(ya.info? 90).map (fun i=>(i.size,i.bytes,i.zero))=some (3,24,some (.agg #[(.int .i64 0),(.int .i64 0),(.int .i64 0)])):=by kernel_rfl
theorem uS:(ya.info? 91).map (fun i=>(i.size,i.bytes,i.zero))=some (3,24,some (.agg #[(.int .i64 0),(.int .i64 0),(.int .i64 0)])):=by kernel_rfl
theorem agC:(ya.info? 94).map (fun i=>(i.size,i.bytes,i.zero))=some (4,80,some (.agg #[(.pointer none),(.slice none 0 0),(.slice none 0 0),(.slice none 0 0)])):=by kernel_rfl
theorem Lf:(ya.info? 95).map (fun i=>(i.size,i.bytes,i.zero))=some (4,80,some (.agg #[(.pointer none),(.slice none 0 0),(.slice none 0 0),(.slice none 0 0)])):=by kernel_rfl
theorem Tw:(ya.info? 96).map (fun i=>(i.size,i.bytes,i.zero))=some (1,8,some (.pointer none)):=by kernel_rfl
theorem agD:(ya.info? 99).map (fun i=>(i.size,i.bytes,i.zero))=some (1,24,some (.slice none 0 0)):=by kernel_rfl
theorem ae1:(ya.info? 101).map (fun i=>(i.size,i.bytes,i.zero))=some (2,16,some (.agg #[(.int .i64 0),(.int .i64 0)])):=by kernel_rfl
theorem uQ:(ya.info? 102).map (fun i=>(i.size,i.bytes,i.zero))=some (2,16,some (.agg #[(.int .i64 0),(.int .i64 0)])):=by kernel_rfl
theorem S1:(ya.info? 108).map (fun i=>(i.size,i.bytes,i.zero))=some (1,8,some (.pointer none)):=by kernel_rfl
theorem KY:(ya.info? 109).map (fun i=>(i.size,i.bytes,i.zero))=some (1,8,some (.pointer none)):=by kernel_rfl
theorem KZ:(ya.info? 110).map (fun i=>(i.size,i.bytes,i.zero))=some (1,8,some (.pointer none)):=by kernel_rfl
theorem S2:(ya.info? 111).map (fun i=>(i.size,i.bytes,i.zero))=some (1,8,some (.pointer none)):=by kernel_rfl
theorem ae3:(ya.info? 112).map (fun i=>(i.size,i.bytes,i.zero))=some (10,80,some (.agg #[(.int .i64 0),(.int .i64 0),(.int .i64 0),(.int .i64 0),(.pointer none),(.pointer none),(.pointer none),(.pointer none),(.int .u64 0),(.int .u64 0)])):=by kernel_rfl
theorem S3:(ya.info? 113).map (fun i=>(i.size,i.bytes,i.zero))=some (10,80,some (.agg #[(.int .i64 0),(.int .i64 0),(.int .i64 0),(.int .i64 0),(.pointer none),(.pointer none),(.pointer none),(.pointer none),(.int .u64 0),(.int .u64 0)])):=by kernel_rfl
theorem ae4:(ya.info? 116).map (fun i=>(i.size,i.bytes,i.zero))=some (1,24,some (.slice none 0 0)):=by kernel_rfl
theorem tO:(ya.info? 119).map (fun i=>(i.size,i.bytes,i.zero))=some (2,16,some (.agg #[(.int .u64 0),(.int .u64 0)])):=by kernel_rfl
theorem ae6:(ya.info? 120).map (fun i=>(i.size,i.bytes,i.zero))=some (1,8,some (.pointer none)):=by kernel_rfl
theorem ae7:(ya.info? 127).map (fun i=>(i.size,i.bytes,i.zero))=some (5,32,some (.agg #[(.int .i64 0),(.int .i64 0),(.int .i64 0),(.bool false),(.bool false)])):=by kernel_rfl
theorem ae8:(ya.info? 128).map (fun i=>(i.size,i.bytes,i.zero))=some (5,32,some (.agg #[(.int .i64 0),(.int .i64 0),(.int .i64 0),(.bool false),(.bool false)])):=by kernel_rfl
theorem afa:(ya.info? 132).map (fun i=>(i.size,i.bytes,i.zero))=some (1,8,some .nilFunc):=by kernel_rfl
theorem FY:(ya.info? 143).map (fun i=>(i.size,i.bytes,i.zero))=some (2,16,some (.agg #[(.int .i64 0),(.int .i64 0)])):=by kernel_rfl
theorem afc:(ya.info? 148).map (fun i=>(i.size,i.bytes,i.zero))=some (5,88,some (.agg #[(.pointer none),(.slice none 0 0),(.slice none 0 0),(.slice none 0 0),(.int .i64 0)])):=by kernel_rfl
theorem K0:(ya.info? 149).map (fun i=>(i.size,i.bytes,i.zero))=some (5,88,some (.agg #[(.pointer none),(.slice none 0 0),(.slice none 0 0),(.slice none 0 0),(.int .i64 0)])):=by kernel_rfl
theorem afe:(ya.info? 153).map (fun i=>(i.size,i.bytes,i.zero))=some (1,8,some (.map none)):=by kernel_rfl
theorem aff:(ya.info? 156).map (fun i=>(i.size,i.bytes,i.zero))=some (1,8,some .nilFunc):=by kernel_rfl
theorem K3:(ya.info? 161).map (fun i=>(i.size,i.bytes,i.zero))=some (1,8,some (.pointer none)):=by kernel_rfl
theorem afh:(ya.info? 162).map (fun i=>(i.size,i.bytes,i.zero))=some (8,160,some (.agg #[(.pointer none),(.int .i64 0),(.slice none 0 0),(.slice none 0 0),(.slice none 0 0),(.slice none 0 0),(.slice none 0 0),(.slice none 0 0)])):=by kernel_rfl
theorem S4:(ya.info? 163).map (fun i=>(i.size,i.bytes,i.zero))=some (8,160,some (.agg #[(.pointer none),(.int .i64 0),(.slice none 0 0),(.slice none 0 0),(.slice none 0 0),(.slice none 0 0),(.slice none 0 0),(.slice none 0 0)])):=by kernel_rfl
theorem FZ:(ya.info? 165).map (fun i=>(i.size,i.bytes,i.zero))=some (1,8,some (.pointer none)):=by kernel_rfl
theorem K4:(ya.info? 166).map (fun i=>(i.size,i.bytes,i.zero))=some (1,8,some (.pointer none)):=by kernel_rfl
theorem S5:(ya.info? 167).map (fun i=>(i.size,i.bytes,i.zero))=some (1,8,some (.map none)):=by kernel_rfl
theorem afi:(ya.info? 168).map (fun i=>(i.size,i.bytes,i.zero))=some (7,72,some (.agg #[(.int .i64 0),(.int .i64 0),(.int .u64 0),(.pointer none),(.pointer none),(.slice none 0 0),(.map none)])):=by kernel_rfl
theorem S6:(ya.info? 169).map (fun i=>(i.size,i.bytes,i.zero))=some (7,72,some (.agg #[(.int .i64 0),(.int .i64 0),(.int .u64 0),(.pointer none),(.pointer none),(.slice none 0 0),(.map none)])):=by kernel_rfl
theorem afk:(ya.info? 172).map (fun i=>(i.size,i.bytes,i.zero))=some (1,24,some (.slice none 0 0)):=by kernel_rfl
theorem afl:(ya.info? 175).map (fun i=>(i.size,i.bytes,i.zero))=some (2,16,some (.agg #[(.int .i64 0),(.int .i64 0)])):=by kernel_rfl
theorem K5:(ya.info? 176).map (fun i=>(i.size,i.bytes,i.zero))=some (2,16,some (.agg #[(.int .i64 0),(.int .i64 0)])):=by kernel_rfl
theorem afm:(ya.info? 177).map (fun i=>(i.size,i.bytes,i.zero))=some (5,40,some (.agg #[(.int .i64 0),(.int .i64 0),(.int .i64 0),(.int .i64 0),(.int .i64 0)])):=by kernel_rfl
theorem F3:(ya.info? 178).map (fun i=>(i.size,i.bytes,i.zero))=some (5,40,some (.agg #[(.int .i64 0),(.int .i64 0),(.int .i64 0),(.int .i64 0),(.int .i64 0)])):=by kernel_rfl
theorem afo:(ya.info? 180).map (fun i=>(i.size,i.bytes,i.zero))=some (3,56,some (.agg #[(.slice none 0 0),(.slice none 0 0),(.int .i64 0)])):=by kernel_rfl
theorem afp:(ya.info? 181).map (fun i=>(i.size,i.bytes,i.zero))=some (3,56,some (.agg #[(.slice none 0 0),(.slice none 0 0),(.int .i64 0)])):=by kernel_rfl
theorem afq:(ya.info? 188).map (fun i=>(i.size,i.bytes,i.zero))=some (1,24,some (.slice none 0 0)):=by kernel_rfl
theorem afs:(ya.info? 190).map (fun i=>(i.size,i.bytes,i.zero))=some (1,24,some (.slice none 0 0)):=by kernel_rfl
theorem aft:(ya.info? 192).map (fun i=>(i.size,i.bytes,i.zero))=some (1,24,some (.slice none 0 0)):=by kernel_rfl
theorem afu:(ya.info? 193).map (fun i=>(i.size,i.bytes,i.zero))=some (3,24,some (.agg #[(.int .i64 0),(.int .i64 0),(.int .i64 0)])):=by kernel_rfl
theorem afv:(ya.info? 194).map (fun i=>(i.size,i.bytes,i.zero))=some (3,24,some (.agg #[(.int .i64 0),(.int .i64 0),(.int .i64 0)])):=by kernel_rfl
theorem afw:(ya.info? 196).map (fun i=>(i.size,i.bytes,i.zero))=some (1,8,some (.pointer none)):=by kernel_rfl
theorem afx:(ya.info? 197).map (fun i=>(i.size,i.bytes,i.zero))=some (1,24,some (.slice none 0 0)):=by kernel_rfl
theorem afy:(ya.info? 198).map (fun i=>(i.size,i.bytes,i.zero))=some (2,16,some (.agg #[(.int .i64 0),(.int .i64 0)])):=by kernel_rfl
theorem afz:(ya.info? 199).map (fun i=>(i.size,i.bytes,i.zero))=some (2,16,some (.agg #[(.int .i64 0),(.int .i64 0)])):=by kernel_rfl
theorem afA:(ya.info? 202).map (fun i=>(i.size,i.bytes,i.zero))=some (1,8,some (.int .u64 0)):=by kernel_rfl
theorem afB:(ya.info? 204).map (fun i=>(i.size,i.bytes,i.zero))=some (1,8,some (.pointer none)):=by kernel_rfl
theorem S7:(ya.info? 210).map (fun i=>(i.size,i.bytes,i.zero))=some (4,32,some (.agg #[(.int .i64 0),(.int .i64 0),(.int .i64 0),(.int .i64 0)])):=by kernel_rfl
theorem S8:(ya.info? 219).map (fun i=>(i.size,i.bytes,i.zero))=some (1,8,some (.int .i64 0)):=by kernel_rfl
theorem afE:(ya.info? 220).map (fun i=>(i.size,i.bytes,i.zero))=some (2,16,some (.agg #[(.int .i64 0),(.int .i64 0)])):=by kernel_rfl
theorem S9:(ya.info? 221).map (fun i=>(i.size,i.bytes,i.zero))=some (2,16,some (.agg #[(.int .i64 0),(.int .i64 0)])):=by kernel_rfl
theorem afF:(ya.info? 223).map (fun i=>(i.size,i.bytes,i.zero))=some (2,16,some (.agg #[(.int .i64 0),(.int .i64 0)])):=by kernel_rfl
theorem pV:(ya.info? 224).map (fun i=>(i.size,i.bytes,i.zero))=some (2,16,some (.agg #[(.int .i64 0),(.int .i64 0)])):=by kernel_rfl
theorem K6:(ya.info? 226).map (fun i=>(i.size,i.bytes,i.zero))=some (1,8,some (.pointer none)):=by kernel_rfl
theorem afG:(ya.info? 227).map (fun i=>(i.size,i.bytes,i.zero))=some (1,8,some (.agg #[(.pointer none)])):=by kernel_rfl
theorem K7:(ya.info? 228).map (fun i=>(i.size,i.bytes,i.zero))=some (1,8,some (.agg #[(.pointer none)])):=by kernel_rfl
theorem F4:(ya.info? 229).map (fun i=>(i.size,i.bytes,i.zero))=some (1,8,some (.pointer none)):=by kernel_rfl
theorem Tc:(ya.info? 230).map (fun i=>(i.size,i.bytes,i.zero))=some (1,8,some (.map none)):=by kernel_rfl
theorem afH:(ya.info? 231).map (fun i=>(i.size,i.bytes,i.zero))=some (6,48,some (.agg #[(.int .i64 0),(.int .i64 0),(.pointer none),(.pointer none),(.map none),(.int .i64 0)])):=by kernel_rfl
theorem Td:(ya.info? 232).map (fun i=>(i.size,i.bytes,i.zero))=some (6,48,some (.agg #[(.int .i64 0),(.int .i64 0),(.pointer none),(.pointer none),(.map none),(.int .i64 0)])):=by kernel_rfl
theorem afI:(ya.info? 234).map (fun i=>(i.size,i.bytes,i.zero))=some (4,32,some (.agg #[(.int .i64 0),(.int .i64 0),(.int .i64 0),(.bool false)])):=by kernel_rfl
theorem yL:(ya.info? 235).map (fun i=>(i.size,i.bytes,i.zero))=some (4,32,some (.agg #[(.int .i64 0),(.int .i64 0),(.int .i64 0),(.bool false)])):=by kernel_rfl
theorem C7:(ya.info? 247).map (fun i=>(i.size,i.bytes,i.zero))=some (1,8,some .nilFunc):=by kernel_rfl
theorem afK:(ya.info? 260).map (fun i=>(i.size,i.bytes,i.zero))=some (4,64,some (.agg #[(.pointer none),(.pointer none),(.slice none 0 0),(.slice none 0 0)])):=by kernel_rfl
theorem F5:(ya.info? 261).map (fun i=>(i.size,i.bytes,i.zero))=some (4,64,some (.agg #[(.pointer none),(.pointer none),(.slice none 0 0),(.slice none 0 0)])):=by kernel_rfl
theorem Te:(ya.info? 264).map (fun i=>(i.size,i.bytes,i.zero))=some (1,8,some (.map none)):=by kernel_rfl
theorem afL:(ya.info? 265).map (fun i=>(i.size,i.bytes,i.zero))=some (9,168,some (.agg #[(.pointer none),(.int .i64 0),(.slice none 0 0),(.slice none 0 0),(.slice none 0 0),(.slice none 0 0),(.slice none 0 0),(.slice none 0 0),(.map none)])):=by kernel_rfl
theorem Tf:(ya.info? 266).map (fun i=>(i.size,i.bytes,i.zero))=some (9,168,some (.agg #[(.pointer none),(.int .i64 0),(.slice none 0 0),(.slice none 0 0),(.slice none 0 0),(.slice none 0 0),(.slice none 0 0),(.slice none 0 0),(.map none)])):=by kernel_rfl
theorem Tg:(ya.info? 267).map (fun i=>(i.size,i.bytes,i.zero))=some (1,8,some (.pointer none)):=by kernel_rfl
theorem afM:(ya.info? 268).map (fun i=>(i.size,i.bytes,i.zero))=some (1,8,some (.agg #[(.pointer none)])):=by kernel_rfl
theorem Th:(ya.info? 269).map (fun i=>(i.size,i.bytes,i.zero))=some (1,8,some (.agg #[(.pointer none)])):=by kernel_rfl
theorem Ti:(ya.info? 273).map (fun i=>(i.size,i.bytes,i.zero))=some (1,24,some (.slice none 0 0)):=by kernel_rfl
theorem afN:(ya.info? 274).map (fun i=>(i.size,i.bytes,i.zero))=some (6,64,some (.agg #[(.pointer none),(.slice none 0 0),(.int .i64 0),(.int .i64 0),(.int .i64 0),(.int .i64 0)])):=by kernel_rfl
theorem F6:(ya.info? 275).map (fun i=>(i.size,i.bytes,i.zero))=some (6,64,some (.agg #[(.pointer none),(.slice none 0 0),(.int .i64 0),(.int .i64 0),(.int .i64 0),(.int .i64 0)])):=by kernel_rfl
theorem afO:(ya.info? 278).map (fun i=>(i.size,i.bytes,i.zero))=some (1,8,some (.int .i64 0)):=by kernel_rfl
theorem afP:(ya.info? 285).map (fun i=>(i.size,i.bytes,i.zero))=some (1,4,some (.int .u32 0)):=by kernel_rfl
theorem afQ:(ya.info? 287).map (fun i=>(i.size,i.bytes,i.zero))=some (1,24,some (.slice none 0 0)):=by kernel_rfl
theorem afR:(ya.info? 288).map (fun i=>(i.size,i.bytes,i.zero))=some (3,56,some (.agg #[(.slice none 0 0),(.slice none 0 0),(.int .i64 0)])):=by kernel_rfl
theorem afS:(ya.info? 289).map (fun i=>(i.size,i.bytes,i.zero))=some (3,56,some (.agg #[(.slice none 0 0),(.slice none 0 0),(.int .i64 0)])):=by kernel_rfl
theorem afT:(ya.info? 297).map (fun i=>(i.size,i.bytes,i.zero))=some (2,16,some (.agg #[(.int .i64 0),(.pointer none)])):=by kernel_rfl
theorem K9:(ya.info? 298).map (fun i=>(i.size,i.bytes,i.zero))=some (2,16,some (.agg #[(.int .i64 0),(.pointer none)])):=by kernel_rfl
theorem afU:(ya.info? 302).map (fun i=>(i.size,i.bytes,i.zero))=some (1,8,some (.pointer none)):=by kernel_rfl
theorem afV:(ya.info? 304).map (fun i=>(i.size,i.bytes,i.zero))=some (3,24,some (.agg #[(.int .i64 0),(.int .i64 0),(.int .u64 0)])):=by kernel_rfl
theorem Tk:(ya.info? 305).map (fun i=>(i.size,i.bytes,i.zero))=some (3,24,some (.agg #[(.int .i64 0),(.int .i64 0),(.int .u64 0)])):=by kernel_rfl
theorem afW:(ya.info? 318).map (fun i=>(i.size,i.bytes,i.zero))=some (1,24,some (.slice none 0 0)):=by kernel_rfl
theorem afX:(ya.info? 319).map (fun i=>(i.size,i.bytes,i.zero))=some (1,24,some (.slice none 0 0)):=by kernel_rfl
theorem C8:(ya.info? 322).map (fun i=>(i.size,i.bytes,i.zero))=some (1,24,some (.slice none 0 0)):=by kernel_rfl
theorem afY:(ya.info? 323).map (fun i=>(i.size,i.bytes,i.zero))=some (2,16,some (.agg #[(.int .i64 0),(.int .i64 0)])):=by kernel_rfl
theorem yN:(ya.info? 324).map (fun i=>(i.size,i.bytes,i.zero))=some (2,16,some (.agg #[(.int .i64 0),(.int .i64 0)])):=by kernel_rfl
theorem Tm:(ya.info? 329).map (fun i=>(i.size,i.bytes,i.zero))=some (13,312,some (.agg #[(.slice none 0 0),(.slice none 0 0),(.slice none 0 0),(.slice none 0 0),(.slice none 0 0),(.slice none 0 0),(.slice none 0 0),(.slice none 0 0),(.slice none 0 0),(.slice none 0 0),(.slice none 0 0),(.slice none 0 0),(.slice none 0 0)])):=by kernel_rfl
theorem afZ:(ya.info? 330).map (fun i=>(i.size,i.bytes,i.zero))=some (15,344,some (.agg #[(.bool false),(.slice none 0 0),(.slice none 0 0),(.slice none 0 0),(.slice none 0 0),(.slice none 0 0),(.slice none 0 0),(.slice none 0 0),(.slice none 0 0),(.slice none 0 0),(.slice none 0 0),(.slice none 0 0),(.slice none 0 0),(.slice none 0 0),(.slice none 0 0)])):=by kernel_rfl
theorem Tn:(ya.info? 331).map (fun i=>(i.size,i.bytes,i.zero))=some (15,344,some (.agg #[(.bool false),(.slice none 0 0),(.slice none 0 0),(.slice none 0 0),(.slice none 0 0),(.slice none 0 0),(.slice none 0 0),(.slice none 0 0),(.slice none 0 0),(.slice none 0 0),(.slice none 0 0),(.slice none 0 0),(.slice none 0 0),(.slice none 0 0),(.slice none 0 0)])):=by kernel_rfl
theorem af0:(ya.info? 338).map (fun i=>(i.size,i.bytes,i.zero))=some (1,8,some (.int .u64 0)):=by kernel_rfl
theorem af1:(ya.info? 341).map (fun i=>(i.size,i.bytes,i.zero))=some (1,8,some (.pointer none)):=by kernel_rfl
theorem La:(ya.info? 343).map (fun i=>(i.size,i.bytes,i.zero))=some (1,24,some (.slice none 0 0)):=by kernel_rfl
theorem Lb:(ya.info? 344).map (fun i=>(i.size,i.bytes,i.zero))=some (1,24,some (.slice none 0 0)):=by kernel_rfl
theorem af2:(ya.info? 345).map (fun i=>(i.size,i.bytes,i.zero))=some (4,64,some (.agg #[(.pointer none),(.int .i64 0),(.slice none 0 0),(.slice none 0 0)])):=by kernel_rfl
theorem F7:(ya.info? 346).map (fun i=>(i.size,i.bytes,i.zero))=some (4,64,some (.agg #[(.pointer none),(.int .i64 0),(.slice none 0 0),(.slice none 0 0)])):=by kernel_rfl
theorem To:(ya.info? 347).map (fun i=>(i.size,i.bytes,i.zero))=some (1,24,some (.slice none 0 0)):=by kernel_rfl
theorem af3:(ya.info? 348).map (fun i=>(i.size,i.bytes,i.zero))=some (3,40,some (.agg #[(.pointer none),(.slice none 0 0),(.int .i64 0)])):=by kernel_rfl
theorem Lc:(ya.info? 349).map (fun i=>(i.size,i.bytes,i.zero))=some (3,40,some (.agg #[(.pointer none),(.slice none 0 0),(.int .i64 0)])):=by kernel_rfl
theorem af4:(ya.info? 351).map (fun i=>(i.size,i.bytes,i.zero))=some (9,72,some (.agg #[(.int .i64 0),(.int .i64 0),(.int .i64 0),(.bool false),(.int .i64 0),(.int .i64 0),(.int .i64 0),(.int .i64 0),(.int .i64 0)])):=by kernel_rfl
theorem jh:(ya.info? 352).map (fun i=>(i.size,i.bytes,i.zero))=some (9,72,some (.agg #[(.int .i64 0),(.int .i64 0),(.int .i64 0),(.bool false),(.int .i64 0),(.int .i64 0),(.int .i64 0),(.int .i64 0),(.int .i64 0)])):=by kernel_rfl
theorem C9:(ya.info? 354).map (fun i=>(i.size,i.bytes,i.zero))=some (1,8,some (.pointer none)):=by kernel_rfl
theorem Ld:(ya.info? 357).map (fun i=>(i.size,i.bytes,i.zero))=some (192,1536,some (.agg #[(.int .i64 0),(.int .i64 0),(.int .u64 0),(.int .i64 0),(.int .i64 0),(.int .u64 0),(.int .i64 0),(.int .i64 0),(.int .u64 0),(.int .i64 0),(.int .i64 0),(.int .u64 0),(.int .i64 0),(.int .i64 0),(.int .u64 0),(.int .i64 0),(.int .i64 0),(.int .u64 0),(.int .i64 0),(.int .i64 0),(.int .u64 0),(.int .i64 0),(.int .i64 0),(.int .u64 0),(.int .i64 0),(.int .i64 0),(.int .u64 0),(.int .i64 0),(.int .i64 0),(.int .u64 0),(.int .i64 0),(.int .i64 0),(.int .u64 0),(.int .i64 0),(.int .i64 0),(.int .u64 0),(.int .i64 0),(.int .i64 0),(.int .u64 0),(.int .i64 0),(.int .i64 0),(.int .u64 0),(.int .i64 0),(.int .i64 0),(.int .u64 0),(.int .i64 0),(.int .i64 0),(.int .u64 0),(.int .i64 0),(.int .i64 0),(.int .u64 0),(.int .i64 0),(.int .i64 0),(.int .u64 0),(.int .i64 0),(.int .i64 0),(.int .u64 0),(.int .i64 0),(.int .i64 0),(.int .u64 0),(.int .i64 0),(.int .i64 0),(.int .u64 0),(.int .i64 0),(.int .i64 0),(.int .u64 0),(.int .i64 0),(.int .i64 0),(.int .u64 0),(.int .i64 0),(.int .i64 0),(.int .u64 0),(.int .i64 0),(.int .i64 0),(.int .u64 0),(.int .i64 0),(.int .i64 0),(.int .u64 0),(.int .i64 0),(.int .i64 0),(.int .u64 0),(.int .i64 0),(.int .i64 0),(.int .u64 0),(.int .i64 0),(.int .i64 0),(.int .u64 0),(.int .i64 0),(.int .i64 0),(.int .u64 0),(.int .i64 0),(.int .i64 0),(.int .u64 0),(.int .i64 0),(.int .i64 0),(.int .u64 0),(.int .i64 0),(.int .i64 0),(.int .u64 0),(.int .i64 0),(.int .i64 0),(.int .u64 0),(.int .i64 0),(.int .i64 0),(.int .u64 0),(.int .i64 0),(.int .i64 0),(.int .u64 0),(.int .i64 0),(.int .i64 0),(.int .u64 0),(.int .i64 0),(.int .i64 0),(.int .u64 0),(.int .i64 0),(.int .i64 0),(.int .u64 0),(.int .i64 0),(.int .i64 0),(.int .u64 0),(.int .i64 0),(.int .i64 0),(.int .u64 0),(.int .i64 0),(.int .i64 0),(.int .u64 0),(.int .i64 0),(.int .i64 0),(.int .u64 0),(.int .i64 0),(.int .i64 0),(.int .u64 0),(.int .i64 0),(.int .i64 0),(.int .u64 0),(.int .i64 0),(.int .i64 0),(.int .u64 0),(.int .i64 0),(.int .i64 0),(.int .u64 0),(.int .i64 0),(.int .i64 0),(.int .u64 0),(.int .i64 0),(.int .i64 0),(.int .u64 0),(.int .i64 0),(.int .i64 0),(.int .u64 0),(.int .i64 0),(.int .i64 0),(.int .u64 0),(.int .i64 0),(.int .i64 0),(.int .u64 0),(.int .i64 0),(.int .i64 0),(.int .u64 0),(.int .i64 0),(.int .i64 0),(.int .u64 0),(.int .i64 0),(.int .i64 0),(.int .u64 0),(.int .i64 0),(.int .i64 0),(.int .u64 0),(.int .i64 0),(.int .i64 0),(.int .u64 0),(.int .i64 0),(.int .i64 0),(.int .u64 0),(.int .i64 0),(.int .i64 0),(.int .u64 0),(.int .i64 0),(.int .i64 0),(.int .u64 0),(.int .i64 0),(.int .i64 0),(.int .u64 0),(.int .i64 0),(.int .i64 0),(.int .u64 0),(.int .i64 0),(.int .i64 0),(.int .u64 0),(.int .i64 0),(.int .i64 0),(.int .u64 0)])):=by kernel_rfl
theorem Da:(ya.info? 361).map (fun i=>(i.size,i.bytes,i.zero))=some (1,8,some (.pointer none)):=by kernel_rfl
theorem af5:(ya.info? 362).map (fun i=>(i.size,i.bytes,i.zero))=some (64,512,some (.agg #[(.int .i64 0),(.int .i64 0),(.int .i64 0),(.int .i64 0),(.int .i64 0),(.int .i64 0),(.int .i64 0),(.int .i64 0),(.int .i64 0),(.int .i64 0),(.int .i64 0),(.int .i64 0),(.int .i64 0),(.int .i64 0),(.int .i64 0),(.int .i64 0),(.int .i64 0),(.int .i64 0),(.int .i64 0),(.int .i64 0),(.int .i64 0),(.int .i64 0),(.int .i64 0),(.int .i64 0),(.int .i64 0),(.int .i64 0),(.int .i64 0),(.int .i64 0),(.int .i64 0),(.int .i64 0),(.int .i64 0),(.int .i64 0),(.int .i64 0),(.int .i64 0),(.int .i64 0),(.int .i64 0),(.int .i64 0),(.int .i64 0),(.int .i64 0),(.int .i64 0),(.int .i64 0),(.int .i64 0),(.int .i64 0),(.int .i64 0),(.int .i64 0),(.int .i64 0),(.int .i64 0),(.int .i64 0),(.int .i64 0),(.int .i64 0),(.int .i64 0),(.int .i64 0),(.int .i64 0),(.int .i64 0),(.int .i64 0),(.int .i64 0),(.int .i64 0),(.int .i64 0),(.int .i64 0),(.int .i64 0),(.int .i64 0),(.int .i64 0),(.int .i64 0),(.int .i64 0)])):=by kernel_rfl
theorem Le:(ya.info? 363).map (fun i=>(i.size,i.bytes,i.zero))=some (64,512,some (.agg #[(.int .i64 0),(.int .i64 0),(.int .i64 0),(.int .i64 0),(.int .i64 0),(.int .i64 0),(.int .i64 0),(.int .i64 0),(.int .i64 0),(.int .i64 0),(.int .i64 0),(.int .i64 0),(.int .i64 0),(.int .i64 0),(.int .i64 0),(.int .i64 0),(.int .i64 0),(.int .i64 0),(.int .i64 0),(.int .i64 0),(.int .i64 0),(.int .i64 0),(.int .i64 0),(.int .i64 0),(.int .i64 0),(.int .i64 0),(.int .i64 0),(.int .i64 0),(.int .i64 0),(.int .i64 0),(.int .i64 0),(.int .i64 0),(.int .i64 0),(.int .i64 0),(.int .i64 0),(.int .i64 0),(.int .i64 0),(.int .i64 0),(.int .i64 0),(.int .i64 0),(.int .i64 0),(.int .i64 0),(.int .i64 0),(.int .i64 0),(.int .i64 0),(.int .i64 0),(.int .i64 0),(.int .i64 0),(.int .i64 0),(.int .i64 0),(.int .i64 0),(.int .i64 0),(.int .i64 0),(.int .i64 0),(.int .i64 0),(.int .i64 0),(.int .i64 0),(.int .i64 0),(.int .i64 0),(.int .i64 0),(.int .i64 0),(.int .i64 0),(.int .i64 0),(.int .i64 0)])):=by kernel_rfl
theorem af6:(ya.info? 370).map (fun i=>(i.size,i.bytes,i.zero))=some (1,24,some (.slice none 0 0)):=by kernel_rfl
theorem af7:(ya.info? 378).map (fun i=>(i.size,i.bytes,i.zero))=some (1,8,some (.pointer none)):=by kernel_rfl
theorem af9:(ya.info? 380).map (fun i=>(i.size,i.bytes,i.zero))=some (1,8,some (.pointer none)):=by kernel_rfl
theorem aga:(ya.info? 403).map (fun i=>(i.size,i.bytes,i.zero))=some (32,32,some (.agg #[(.int .u8 0),(.int .u8 0),(.int .u8 0),(.int .u8 0),(.int .u8 0),(.int .u8 0),(.int .u8 0),(.int .u8 0),(.int .u8 0),(.int .u8 0),(.int .u8 0),(.int .u8 0),(.int .u8 0),(.int .u8 0),(.int .u8 0),(.int .u8 0),(.int .u8 0),(.int .u8 0),(.int .u8 0),(.int .u8 0),(.int .u8 0),(.int .u8 0),(.int .u8 0),(.int .u8 0),(.int .u8 0),(.int .u8 0),(.int .u8 0),(.int .u8 0),(.int .u8 0),(.int .u8 0),(.int .u8 0),(.int .u8 0)])):=by kernel_rfl
theorem agb:(ya.info? 404).map (fun i=>(i.size,i.bytes,i.zero))=some (64,64,some (.agg #[(.int .u8 0),(.int .u8 0),(.int .u8 0),(.int .u8 0),(.int .u8 0),(.int .u8 0),(.int .u8 0),(.int .u8 0),(.int .u8 0),(.int .u8 0),(.int .u8 0),(.int .u8 0),(.int .u8 0),(.int .u8 0),(.int .u8 0),(.int .u8 0),(.int .u8 0),(.int .u8 0),(.int .u8 0),(.int .u8 0),(.int .u8 0),(.int .u8 0),(.int .u8 0),(.int .u8 0),(.int .u8 0),(.int .u8 0),(.int .u8 0),(.int .u8 0),(.int .u8 0),(.int .u8 0),(.int .u8 0),(.int .u8 0),(.int .u8 0),(.int .u8 0),(.int .u8 0),(.int .u8 0),(.int .u8 0),(.int .u8 0),(.int .u8 0),(.int .u8 0),(.int .u8 0),(.int .u8 0),(.int .u8 0),(.int .u8 0),(.int .u8 0),(.int .u8 0),(.int .u8 0),(.int .u8 0),(.int .u8 0),(.int .u8 0),(.int .u8 0),(.int .u8 0),(.int .u8 0),(.int .u8 0),(.int .u8 0),(.int .u8 0),(.int .u8 0),(.int .u8 0),(.int .u8 0),(.int .u8 0),(.int .u8 0),(.int .u8 0),(.int .u8 0),(.int .u8 0)])):=by kernel_rfl
theorem agc:(ya.info? 407).map (fun i=>(i.size,i.bytes,i.zero))=some (4,40,some (.agg #[(.pointer none),(.pointer none),(.pointer none),(.string ⟨#[]⟩)])):=by kernel_rfl
theorem agd:(ya.info? 408).map (fun i=>(i.size,i.bytes,i.zero))=some (4,40,some (.agg #[(.pointer none),(.pointer none),(.pointer none),(.string ⟨#[]⟩)])):=by kernel_rfl
theorem age:(ya.info? 409).map (fun i=>(i.size,i.bytes,i.zero))=some (0,0,some (.agg #[])):=by kernel_rfl
theorem agh:(ya.info? 410).map (fun i=>(i.size,i.bytes,i.zero))=some (0,0,some (.agg #[])):=by kernel_rfl
theorem agi:(ya.info? 411).map (fun i=>(i.size,i.bytes,i.zero))=some (0,0,some (.agg #[])):=by kernel_rfl
theorem agj:(ya.info? 412).map (fun i=>(i.size,i.bytes,i.zero))=some (1,1,some (.int .u8 0)):=by kernel_rfl
theorem agk:(ya.info? 413).map (fun i=>(i.size,i.bytes,i.zero))=some (1,1,some (.int .u8 0)):=by kernel_rfl
theorem agl:(ya.info? 414).map (fun i=>(i.size,i.bytes,i.zero))=some (1,8,some .nilFunc):=by kernel_rfl
theorem agm:(ya.info? 415).map (fun i=>(i.size,i.bytes,i.zero))=some (1,8,some (.pointer none)):=by kernel_rfl
theorem agn:(ya.info? 416).map (fun i=>(i.size,i.bytes,i.zero))=some (1,4,some (.int .i32 0)):=by kernel_rfl
theorem ago:(ya.info? 417).map (fun i=>(i.size,i.bytes,i.zero))=some (1,4,some (.int .i32 0)):=by kernel_rfl
theorem agp:(ya.info? 418).map (fun i=>(i.size,i.bytes,i.zero))=some (11,48,some (.agg #[(.int .u64 0),(.int .u64 0),(.int .u32 0),(.int .u8 0),(.int .u8 0),(.int .u8 0),(.int .u8 0),.nilFunc,(.pointer none),(.int .i32 0),(.int .i32 0)])):=by kernel_rfl
theorem agq:(ya.info? 419).map (fun i=>(i.size,i.bytes,i.zero))=some (11,48,some (.agg #[(.int .u64 0),(.int .u64 0),(.int .u32 0),(.int .u8 0),(.int .u8 0),(.int .u8 0),(.int .u8 0),.nilFunc,(.pointer none),(.int .i32 0),(.int .i32 0)])):=by kernel_rfl
theorem RK:kf ya 42 [(0,1),(1,1)]:=⟨_,Bn,fun w=>by simp[TI.size gr,TI.size jD]⟩
theorem FB:kf ya 57 [(0,1),(1,1),(2,1),(3,1)]:=⟨_,Bo,fun w=>by simp[TI.size ti2,TI.size jD]⟩
theorem Kf:kf ya 59 [(0,1),(1,1),(2,4),(6,1)]:=⟨_,wS,fun w=>by simp[TI.size ti2,TI.size gr,TI.size jD,TI.size uR]⟩
theorem RL:kf ya 69 [(0,1),(1,1),(2,1),(3,1)]:=⟨_,Gz,fun w=>by simp[TI.size ti2,TI.size gr]⟩
theorem RM:kf ya 81 [(0,1),(1,1)]:=⟨_,GA,fun w=>by simp[TI.size F8,TI.size jD]⟩
theorem acB:kf ya 83 [(0,1),(1,1),(2,1),(3,1),(4,1),(5,1)]:=⟨_,Tryz.underlying83,fun w=>by simp[TI.size gr,TI.size j6,TI.size Tp]⟩
theorem acC:kf ya 87 [(0,1),(1,6),(7,1),(8,1)]:=⟨_,Gj,fun w=>by simp[TI.size K8,TI.size wO,TI.size Tt,TI.size Tu]⟩
theorem acD:kf ya 89 [(0,1),(1,2),(3,9),(12,1)]:=⟨_,Tryz.underlying89,fun w=>by simp[TI.size Ta,TI.size gr,TI.size Dc,TI.size Dd]⟩
theorem acE:kf ya 91 [(0,1),(1,1),(2,1)]:=⟨_,Gk,fun w=>by simp[TI.size ti2,TI.size gr]⟩
theorem acF:kf ya 95 [(0,1),(1,1),(2,1),(3,1)]:=⟨_,Tryz.underlying95,fun w=>by simp[TI.size Tj,TI.size Tl,TI.size j6]⟩
theorem RD:kf ya 102 [(0,1),(1,1)]:=⟨_,Tryz.underlying102,fun w=>by simp[TI.size gr]⟩
theorem acj:kf ya 113 [(0,4),(4,1),(5,1),(6,1),(7,1),(8,1),(9,1)]:=⟨_,Gu,fun w=>by simp[TI.size S1,TI.size KY,TI.size KZ,TI.size S2,TI.size jD,TI.size Db]⟩
theorem ack:kf ya 149 [(0,1),(1,1),(2,1),(3,1),(4,1)]:=⟨_,Tryz.underlying149,fun w=>by simp[TI.size gr,TI.size j6,TI.size Tw]⟩
theorem acm:kf ya 163 [(0,1),(1,6),(7,1)]:=⟨_,Tryz.underlying163,fun w=>by simp[TI.size K3,TI.size j6,TI.size wO]⟩
theorem acn:kf ya 169 [(0,1),(1,1),(2,1),(3,1),(4,1),(5,1),(6,1)]:=⟨_,Tryz.underlying169,fun w=>by simp[TI.size FZ,TI.size K4,TI.size S5,TI.size gr,TI.size jD,TI.size Tq]⟩
theorem aco:kf ya 176 [(0,1),(1,1)]:=⟨_,Tryz.underlying176,fun w=>by simp[TI.size ti2]⟩
theorem acp:kf ya 178 [(0,1),(1,1),(2,2),(4,1)]:=⟨_,Tryz.underlying178,fun w=>by simp[TI.size K5,TI.size gr]⟩
theorem acq:kf ya 221 [(0,1),(1,1)]:=⟨_,Tryz.underlying221,fun w=>by simp[TI.size ti2,TI.size S8]⟩
theorem RE:kf ya 224 [(0,1),(1,1)]:=⟨_,wR,fun w=>by simp[TI.size ti2,TI.size gr]⟩
theorem acr:kf ya 228 [(0,1)]:=⟨_,Tryz.underlying228,fun w=>by simp[TI.size K6]⟩
theorem acs:kf ya 232 [(0,1),(1,1),(2,1),(3,1),(4,1),(5,1)]:=⟨_,Tryz.underlying232,fun w=>by simp[TI.size K7,TI.size F4,TI.size Tc,TI.size gr]⟩
theorem acu:kf ya 235 [(0,1),(1,1),(2,1),(3,1)]:=⟨_,Tryz.underlying235,fun w=>by simp[TI.size ti2,TI.size gr,TI.size F8]⟩
theorem RF:kf ya 261 [(0,1),(1,1),(2,1),(3,1)]:=⟨_,Tryz.underlying261,fun w=>by simp[TI.size FZ,TI.size K4,TI.size K8,TI.size j6]⟩
theorem acv:kf ya 266 [(0,1),(1,6),(7,1),(8,1)]:=⟨_,Tryz.underlying266,fun w=>by simp[TI.size K3,TI.size Te,TI.size j6,TI.size wO]⟩
theorem acw:kf ya 269 [(0,1)]:=⟨_,Tryz.underlying269,fun w=>by simp[TI.size Tg]⟩
theorem RG:kf ya 275 [(0,1),(1,1),(2,1),(3,1),(4,1),(5,1)]:=⟨_,Tryz.underlying275,fun w=>by simp[TI.size FZ,TI.size Ti,TI.size gr]⟩
theorem RH:kf ya 298 [(0,1),(1,1)]:=⟨_,Tryz.underlying298,fun w=>by simp[TI.size F4,TI.size gr]⟩
theorem RI:kf ya 324 [(0,1),(1,1)]:=⟨_,Tryz.underlying324,fun w=>by simp[TI.size gr]⟩
theorem acz:kf ya 331 [(0,1),(1,1),(2,13)]:=⟨_,Tryz.underlying331,fun w=>by simp[TI.size Tm,TI.size j6,TI.size F8]⟩
theorem RJ:kf ya 346 [(0,1),(1,1),(2,1),(3,1)]:=⟨_,Dk,fun w=>by simp[TI.size F4,TI.size gr,TI.size La,TI.size Lb]⟩
theorem acA:kf ya 349 [(0,1),(1,1),(2,1)]:=⟨_,Tryz.underlying349,fun w=>by simp[TI.size K6,TI.size gr,TI.size To]⟩
theorem XX:gi ya 6:=enters_of Tryz.func6 k_ rfl
theorem X6:gi ya 7:=enters_of Tryz.func7 k_ rfl
theorem Pc:gi ya 8:=enters_of Tryz.func8 k_ rfl
theorem Yj:gi ya 9:=enters_of Tryz.func9 k_ rfl
theorem Wq:gi ya 10:=enters_of Tryz.func10 k_ rfl
theorem Wv:gi ya 11:=enters_of Tryz.func11 k_ rfl
theorem Iy:gi ya 12:=enters_of Tryz.func12 k_ rfl
theorem Om:gi ya 13:=enters_of Tryz.func13 k_ rfl
theorem WM:gi ya 14:=enters_of Tryz.func14 k_ rfl
theorem W0:gi ya 17:=enters_of Tryz.func17 k_ rfl
theorem Xn:gi ya 24:=enters_of Tryz.func24 k_ rfl
theorem OM:gi ya 25:=enters_of Tryz.func25 k_ rfl
theorem ON:gi ya 26:=enters_of Tryz.func26 k_ rfl
theorem XB:gi ya 27:=enters_of Tryz.func27 k_ rfl
theorem OV:gi ya 28:=enters_of Tryz.func28 k_ rfl
theorem EH:gi ya 29:=enters_of Tryz.func29 k_ rfl
theorem vU:gi ya 30:=enters_of Tryz.func30 k_ rfl
theorem O1:gi ya 31:=enters_of Tryz.func31 k_ rfl
theorem O2:gi ya 32:=enters_of Tryz.func32 k_ rfl
theorem XM:gi ya 33:=enters_of Tryz.func33 k_ rfl
theorem IS:gi ya 34:=enters_of Tryz.func34 k_ rfl
theorem O3:gi ya 35:=enters_of Tryz.func35 k_ rfl
theorem XN:gi ya 36:=enters_of Tryz.func36 k_ rfl
theorem XO:gi ya 37:=enters_of Tryz.func37 k_ rfl
theorem Cd:gi ya 38:=enters_of Tryz.func38 k_ rfl
theorem XP:gi ya 39:=enters_of Tryz.func39 k_ rfl
theorem XQ:gi ya 40:=enters_of Tryz.func40 k_ rfl
theorem Ce:gi ya 41:=enters_of Tryz.func41 k_ rfl
theorem O4:gi ya 42:=enters_of Tryz.func42 k_ rfl
theorem O5:gi ya 43:=enters_of Tryz.func43 k_ rfl
theorem Aj:gi ya 44:=enters_of Tryz.func44 k_ rfl
theorem vV:gi ya 45:=enters_of Tryz.func45 k_ rfl
theorem XR:gi ya 46:=enters_of Tryz.func46 k_ rfl
theorem XS:gi ya 47:=enters_of Tryz.func47 k_ rfl
theorem XT:gi ya 48:=enters_of Tryz.func48 k_ rfl
theorem XU:gi ya 53:=enters_of Tryz.func53 k_ rfl
theorem XV:gi ya 57:=enters_of Tryz.func57 k_ rfl
theorem XW:gi ya 59:=enters_of Tryz.func59 k_ rfl
theorem XY:gi ya 60:=enters_of Tryz.func60 k_ rfl
theorem XZ:gi ya 61:=enters_of Tryz.func61 k_ rfl
theorem X0:gi ya 62:=enters_of Tryz.func62 k_ rfl
theorem O6:gi ya 63:=enters_of Tryz.func63 k_ rfl
theorem X3:gi ya 64:=enters_of Tryz.func64 k_ rfl
theorem O7:gi ya 65:=enters_of Tryz.func65 k_ rfl
theorem O8:gi ya 66:=enters_of Tryz.func66 k_ rfl
theorem X4:gi ya 67:=enters_of Tryz.func67 k_ rfl
theorem X5:gi ya 68:=enters_of Tryz.func68 k_ rfl
theorem Cg:gi ya 69:=enters_of Tryz.func69 k_ rfl
theorem O9:gi ya 70:=enters_of Tryz.func70 k_ rfl
theorem Pa:gi ya 71:=enters_of Tryz.func71 k_ rfl
theorem IT:gi ya 72:=enters_of Tryz.func72 k_ rfl
theorem IU:gi ya 73:=enters_of Tryz.func73 k_ rfl
theorem Pb:gi ya 74:=enters_of Tryz.func74 k_ rfl
theorem X7:gi ya 75:=enters_of Tryz.func75 k_ rfl
theorem X8:gi ya 76:=enters_of Tryz.func76 k_ rfl
theorem X9:gi ya 77:=enters_of Tryz.func77 k_ rfl
theorem Ya:gi ya 78:=enters_of Tryz.func78 k_ rfl
theorem Yb:gi ya 79:=enters_of Tryz.func79 k_ rfl
theorem Yc:gi ya 80:=enters_of Tryz.func80 k_ rfl
theorem Yd:gi ya 81:=enters_of Tryz.func81 k_ rfl
theorem Ak:gi ya 82:=enters_of Tryz.func82 k_ rfl
theorem Ye:gi ya 83:=enters_of Tryz.func83 k_ rfl
theorem Yf:gi ya 84:=enters_of Tryz.func84 k_ rfl
theorem Yg:gi ya 85:=enters_of Tryz.func85 k_ rfl
theorem Yh:gi ya 86:=enters_of Tryz.func86 k_ rfl
theorem Yi:gi ya 87:=enters_of Tryz.func87 k_ rfl
theorem Yk:gi ya 90:=enters_of Tryz.func90 k_ rfl
theorem Pd:gi ya 92:=enters_of Tryz.func92 k_ rfl
theorem Yl:gi ya 93:=enters_of Tryz.func93 k_ rfl
theorem Ym:gi ya 99:=enters_of Tryz.func99 k_ rfl
theorem Ir:gi ya 100:=enters_of Tryz.func100 k_ rfl
theorem Wr:gi ya 106:=enters_of Tryz.func106 k_ rfl
theorem Ws:gi ya 107:=enters_of Tryz.func107 k_ rfl
theorem Wt:gi ya 108:=enters_of Tryz.func108 k_ rfl
theorem Wu:gi ya 109:=enters_of Tryz.func109 k_ rfl
theorem Ww:gi ya 110:=enters_of Tryz.func110 k_ rfl
theorem Is:gi ya 111:=enters_of Tryz.func111 k_ rfl
theorem B9:gi ya 112:=enters_of Tryz.func112 k_ rfl
theorem Wx:gi ya 113:=enters_of Tryz.func113 k_ rfl
theorem It:gi ya 114:=enters_of Tryz.func114 k_ rfl
theorem Og:gi ya 115:=enters_of Tryz.func115 k_ rfl
theorem Iu:gi ya 116:=enters_of Tryz.func116 k_ rfl
theorem Oh:gi ya 117:=enters_of Tryz.func117 k_ rfl
theorem Iw:gi ya 118:=enters_of Tryz.func118 k_ rfl
theorem Ix:gi ya 119:=enters_of Tryz.func119 k_ rfl
theorem Iz:gi ya 120:=enters_of Tryz.func120 k_ rfl
theorem Oi:gi ya 121:=enters_of Tryz.func121 k_ rfl
theorem IA:gi ya 122:=enters_of Tryz.func122 k_ rfl
theorem Oj:gi ya 123:=enters_of Tryz.func123 k_ rfl
theorem Wy:gi ya 124:=enters_of Tryz.func124 k_ rfl
theorem Wz:gi ya 125:=enters_of Tryz.func125 k_ rfl
theorem WA:gi ya 126:=enters_of Tryz.func126 k_ rfl
theorem Ol:gi ya 127:=enters_of Tryz.func127 k_ rfl
theorem EB:gi ya 128:=enters_of Tryz.func128 k_ rfl
theorem WB:gi ya 129:=enters_of Tryz.func129 k_ rfl
theorem WD:gi ya 130:=enters_of Tryz.func130 k_ rfl
theorem On:gi ya 131:=enters_of Tryz.func131 k_ rfl
theorem IB:gi ya 132:=enters_of Tryz.func132 k_ rfl
theorem WE:gi ya 133:=enters_of Tryz.func133 k_ rfl
theorem WG:gi ya 134:=enters_of Tryz.func134 k_ rfl
theorem Oo:gi ya 135:=enters_of Tryz.func135 k_ rfl
theorem WH:gi ya 136:=enters_of Tryz.func136 k_ rfl
theorem WI:gi ya 137:=enters_of Tryz.func137 k_ rfl
theorem WJ:gi ya 138:=enters_of Tryz.func138 k_ rfl
theorem WK:gi ya 139:=enters_of Tryz.func139 k_ rfl
theorem WN:gi ya 140:=enters_of Tryz.func140 k_ rfl
theorem WO:gi ya 141:=enters_of Tryz.func141 k_ rfl
theorem Oq:gi ya 142:=enters_of Tryz.func142 k_ rfl
theorem WQ:gi ya 143:=enters_of Tryz.func143 k_ rfl
theorem vS:gi ya 144:=enters_of Tryz.func144 k_ rfl
theorem IC:gi ya 145:=enters_of Tryz.func145 k_ rfl
theorem WR:gi ya 146:=enters_of Tryz.func146 k_ rfl
theorem ID:gi ya 147:=enters_of Tryz.func147 k_ rfl
theorem WT:gi ya 148:=enters_of Tryz.func148 k_ rfl
theorem WU:gi ya 149:=enters_of Tryz.func149 k_ rfl
theorem Ot:gi ya 150:=enters_of Tryz.func150 k_ rfl
theorem vT:gi ya 153:=enters_of Tryz.func153 k_ rfl
theorem Ou:gi ya 154:=enters_of Tryz.func154 k_ rfl
theorem WV:gi ya 156:=enters_of Tryz.func156 k_ rfl
theorem WX:gi ya 157:=enters_of Tryz.func157 k_ rfl
theorem WY:gi ya 163:=enters_of Tryz.func163 k_ rfl
theorem WZ:gi ya 167:=enters_of Tryz.func167 k_ rfl
theorem Ov:gi ya 171:=enters_of Tryz.func171 k_ rfl
theorem W1:gi ya 172:=enters_of Tryz.func172 k_ rfl
theorem Ow:gi ya 173:=enters_of Tryz.func173 k_ rfl
theorem W2:gi ya 174:=enters_of Tryz.func174 k_ rfl
theorem Ox:gi ya 175:=enters_of Tryz.func175 k_ rfl
theorem W3:gi ya 176:=enters_of Tryz.func176 k_ rfl
theorem Af:gi ya 177:=enters_of Tryz.func177 k_ rfl
theorem W4:gi ya 178:=enters_of Tryz.func178 k_ rfl
theorem Oy:gi ya 179:=enters_of Tryz.func179 k_ rfl
theorem Ag:gi ya 180:=enters_of Tryz.func180 k_ rfl
theorem Ca:gi ya 181:=enters_of Tryz.func181 k_ rfl
theorem W5:gi ya 182:=enters_of Tryz.func182 k_ rfl
theorem W6:gi ya 183:=enters_of Tryz.func183 k_ rfl
theorem EC:gi ya 184:=enters_of Tryz.func184 k_ rfl
theorem Oz:gi ya 185:=enters_of Tryz.func185 k_ rfl
theorem W7:gi ya 186:=enters_of Tryz.func186 k_ rfl
theorem W8:gi ya 187:=enters_of Tryz.func187 k_ rfl
theorem W9:gi ya 188:=enters_of Tryz.func188 k_ rfl
theorem Xa:gi ya 189:=enters_of Tryz.func189 k_ rfl
theorem OA:gi ya 190:=enters_of Tryz.func190 k_ rfl
theorem ED:gi ya 191:=enters_of Tryz.func191 k_ rfl
theorem Xb:gi ya 192:=enters_of Tryz.func192 k_ rfl
theorem Xc:gi ya 193:=enters_of Tryz.func193 k_ rfl
theorem OB:gi ya 195:=enters_of Tryz.func195 k_ rfl
theorem IE:gi ya 196:=enters_of Tryz.func196 k_ rfl
theorem Xd:gi ya 197:=enters_of Tryz.func197 k_ rfl
theorem IF:gi ya 198:=enters_of Tryz.func198 k_ rfl
theorem OC:gi ya 199:=enters_of Tryz.func199 k_ rfl
theorem OD:gi ya 200:=enters_of Tryz.func200 k_ rfl
theorem OE:gi ya 201:=enters_of Tryz.func201 k_ rfl
theorem IG:gi ya 202:=enters_of Tryz.func202 k_ rfl
theorem Xe:gi ya 203:=enters_of Tryz.func203 k_ rfl
theorem Xf:gi ya 204:=enters_of Tryz.func204 k_ rfl
theorem Xg:gi ya 205:=enters_of Tryz.func205 k_ rfl
theorem Ah:gi ya 206:=enters_of Tryz.func206 k_ rfl
theorem OG:gi ya 207:=enters_of Tryz.func207 k_ rfl
theorem Xh:gi ya 208:=enters_of Tryz.func208 k_ rfl
theorem Xi:gi ya 209:=enters_of Tryz.func209 k_ rfl
theorem Xj:gi ya 210:=enters_of Tryz.func210 k_ rfl
theorem II:gi ya 224:=enters_of Tryz.func224 k_ rfl
theorem lQ:gi ya 226:=enters_of Tryz.func226 k_ rfl
theorem IJ:gi ya 227:=enters_of Tryz.func227 k_ rfl
theorem xE:gi ya 228:=enters_of Tryz.func228 k_ rfl
theorem Ai:gi ya 229:=enters_of Tryz.func229 k_ rfl
theorem IK:gi ya 230:=enters_of Tryz.func230 k_ rfl
theorem EE:gi ya 231:=enters_of Tryz.func231 k_ rfl
theorem OH:gi ya 232:=enters_of Tryz.func232 k_ rfl
theorem Xk:gi ya 233:=enters_of Tryz.func233 k_ rfl
theorem IL:gi ya 234:=enters_of Tryz.func234 k_ rfl
theorem Xl:gi ya 235:=enters_of Tryz.func235 k_ rfl
theorem OI:gi ya 236:=enters_of Tryz.func236 k_ rfl
theorem Xm:gi ya 237:=enters_of Tryz.func237 k_ rfl
theorem OJ:gi ya 239:=enters_of Tryz.func239 k_ rfl
theorem OK:gi ya 240:=enters_of Tryz.func240 k_ rfl
theorem Xo:gi ya 241:=enters_of Tryz.func241 k_ rfl
theorem Xp:gi ya 242:=enters_of Tryz.func242 k_ rfl
theorem IN:gi ya 243:=enters_of Tryz.func243 k_ rfl
theorem IP:gi ya 244:=enters_of Tryz.func244 k_ rfl
theorem IQ:gi ya 245:=enters_of Tryz.func245 k_ rfl
theorem OL:gi ya 246:=enters_of Tryz.func246 k_ rfl
theorem Xq:gi ya 247:=enters_of Tryz.func247 k_ rfl
theorem Xr:gi ya 248:=enters_of Tryz.func248 k_ rfl
theorem Xs:gi ya 249:=enters_of Tryz.func249 k_ rfl
theorem Xt:gi ya 250:=enters_of Tryz.func250 k_ rfl
theorem Xu:gi ya 251:=enters_of Tryz.func251 k_ rfl
theorem Xv:gi ya 252:=enters_of Tryz.func252 k_ rfl
theorem Xw:gi ya 253:=enters_of Tryz.func253 k_ rfl
theorem Xx:gi ya 254:=enters_of Tryz.func254 k_ rfl
theorem Xy:gi ya 255:=enters_of Tryz.func255 k_ rfl
theorem Xz:gi ya 256:=enters_of Tryz.func256 k_ rfl
theorem EF:gi ya 257:=enters_of Tryz.func257 k_ rfl
theorem XA:gi ya 258:=enters_of Tryz.func258 k_ rfl
theorem OO:gi ya 266:=enters_of Tryz.func266 k_ rfl
theorem EG:gi ya 271:=enters_of Tryz.func271 k_ rfl
theorem OP:gi ya 272:=enters_of Tryz.func272 k_ rfl
theorem OQ:gi ya 273:=enters_of Tryz.func273 k_ rfl
theorem OR:gi ya 274:=enters_of Tryz.func274 k_ rfl
theorem OS:gi ya 275:=enters_of Tryz.func275 k_ rfl
theorem OT:gi ya 276:=enters_of Tryz.func276 k_ rfl
theorem OU:gi ya 277:=enters_of Tryz.func277 k_ rfl
theorem XC:gi ya 278:=enters_of Tryz.func278 k_ rfl
theorem XD:gi ya 279:=enters_of Tryz.func279 k_ rfl
theorem OW:gi ya 281:=enters_of Tryz.func281 k_ rfl
theorem OX:gi ya 282:=enters_of Tryz.func282 k_ rfl
theorem OY:gi ya 283:=enters_of Tryz.func283 k_ rfl
theorem XE:gi ya 287:=enters_of Tryz.func287 k_ rfl
theorem mS:gi ya 289:=enters_of Tryz.func289 k_ rfl
theorem XF:gi ya 290:=enters_of Tryz.func290 k_ rfl
theorem XG:gi ya 291:=enters_of Tryz.func291 k_ rfl
theorem Cb:gi ya 292:=enters_of Tryz.func292 k_ rfl
theorem Cc:gi ya 293:=enters_of Tryz.func293 k_ rfl
theorem XH:gi ya 294:=enters_of Tryz.func294 k_ rfl
theorem OZ:gi ya 295:=enters_of Tryz.func295 k_ rfl
theorem XI:gi ya 297:=enters_of Tryz.func297 k_ rfl
theorem XJ:gi ya 298:=enters_of Tryz.func298 k_ rfl
theorem XK:gi ya 299:=enters_of Tryz.func299 k_ rfl
theorem lG:gi ya 300:=enters_of Tryz.func300 k_ rfl
theorem XL:gi ya 301:=enters_of Tryz.func301 k_ rfl
theorem mixed:ya.follows .mixedOrders=true:=by kernel_rfl
instance tt:TT ya:=⟨mixed,[(2,_),(3,_),(4,_),(5,_),(6,_),(7,_),(8,_),(10,_),(11,_),(12,_),(13,_),(14,_),(15,_),(16,_),(17,_),(18,_),(19,_),(21,_),(22,_),(23,_),(24,_),(27,_),(28,_),(31,_),(32,_),(35,_),(38,_),(40,_),(41,_),(42,_),(48,_),(53,_),(56,_),(57,_),(58,_),(59,_),(68,_),(69,_),(73,_),(74,_),(75,_),(80,_),(81,_),(82,_),(83,_),(84,_),(85,_),(86,_),(87,_),(88,_),(89,_),(90,_),(91,_),(94,_),(95,_),(96,_),(99,_),(101,_),(102,_),(108,_),(109,_),(110,_),(111,_),(112,_),(113,_),(116,_),(119,_),(120,_),(127,_),(128,_),(132,_),(143,_),(148,_),(149,_),(153,_),(156,_),(161,_),(162,_),(163,_),(165,_),(166,_),(167,_),(168,_),(169,_),(172,_),(175,_),(176,_),(177,_),(178,_),(180,_),(181,_),(188,_),(190,_),(192,_),(193,_),(194,_),(196,_),(197,_),(198,_),(199,_),(202,_),(204,_),(210,_),(219,_),(220,_),(221,_),(223,_),(224,_),(226,_),(227,_),(228,_),(229,_),(230,_),(231,_),(232,_),(234,_),(235,_),(260,_),(261,_),(264,_),(265,_),(266,_),(267,_),(268,_),(269,_),(273,_),(274,_),(275,_),(278,_),(285,_),(287,_),(288,_),(289,_),(297,_),(298,_),(302,_),(304,_),(305,_),(318,_),(319,_),(322,_),(323,_),(324,_),(329,_),(330,_),(331,_),(338,_),(341,_),(343,_),(344,_),(345,_),(346,_),(347,_),(348,_),(349,_),(351,_),(352,_),(354,_),(361,_),(362,_),(363,_),(370,_),(378,_),(380,_),(403,_),(404,_),(407,_),(408,_),(409,_),(410,_),(411,_),(412,_),(413,_),(415,_),(416,_),(417,_),(418,_),(419,_)],[(2,_,_,_),(3,_,_,_),(4,_,_,_),(5,_,_,_),(6,_,_,_),(7,_,_,_),(8,_,_,_),(9,_,_,_),(10,_,_,_),(11,_,_,_),(12,_,_,_),(13,_,_,_),(14,_,_,_),(15,_,_,_),(16,_,_,_),(17,_,_,_),(18,_,_,_),(19,_,_,_),(21,_,_,_),(22,_,_,_),(23,_,_,_),(24,_,_,_),(27,_,_,_),(28,_,_,_),(31,_,_,_),(32,_,_,_),(35,_,_,_),(38,_,_,_),(40,_,_,_),(41,_,_,_),(42,_,_,_),(48,_,_,_),(53,_,_,_),(56,_,_,_),(57,_,_,_),(58,_,_,_),(59,_,_,_),(68,_,_,_),(69,_,_,_),(73,_,_,_),(74,_,_,_),(75,_,_,_),(80,_,_,_),(81,_,_,_),(82,_,_,_),(83,_,_,_),(84,_,_,_),(85,_,_,_),(86,_,_,_),(87,_,_,_),(88,_,_,_),(89,_,_,_),(90,_,_,_),(91,_,_,_),(94,_,_,_),(95,_,_,_),(96,_,_,_),(99,_,_,_),(101,_,_,_),(102,_,_,_),(108,_,_,_),(109,_,_,_),(110,_,_,_),(111,_,_,_),(112,_,_,_),(113,_,_,_),(116,_,_,_),(119,_,_,_),(120,_,_,_),(127,_,_,_),(128,_,_,_),(132,_,_,_),(143,_,_,_),(148,_,_,_),(149,_,_,_),(153,_,_,_),(156,_,_,_),(161,_,_,_),(162,_,_,_),(163,_,_,_),(165,_,_,_),(166,_,_,_),(167,_,_,_),(168,_,_,_),(169,_,_,_),(172,_,_,_),(175,_,_,_),(176,_,_,_),(177,_,_,_),(178,_,_,_),(180,_,_,_),(181,_,_,_),(188,_,_,_),(190,_,_,_),(192,_,_,_),(193,_,_,_),(194,_,_,_),(196,_,_,_),(197,_,_,_),(198,_,_,_),(199,_,_,_),(202,_,_,_),(204,_,_,_),(210,_,_,_),(219,_,_,_),(220,_,_,_),(221,_,_,_),(223,_,_,_),(224,_,_,_),(226,_,_,_),(227,_,_,_),(228,_,_,_),(229,_,_,_),(230,_,_,_),(231,_,_,_),(232,_,_,_),(234,_,_,_),(235,_,_,_),(247,_,_,_),(260,_,_,_),(261,_,_,_),(264,_,_,_),(265,_,_,_),(266,_,_,_),(267,_,_,_),(268,_,_,_),(269,_,_,_),(273,_,_,_),(274,_,_,_),(275,_,_,_),(278,_,_,_),(285,_,_,_),(287,_,_,_),(288,_,_,_),(289,_,_,_),(297,_,_,_),(298,_,_,_),(302,_,_,_),(304,_,_,_),(305,_,_,_),(318,_,_,_),(319,_,_,_),(322,_,_,_),(323,_,_,_),(324,_,_,_),(329,_,_,_),(330,_,_,_),(331,_,_,_),(338,_,_,_),(341,_,_,_),(343,_,_,_),(344,_,_,_),(345,_,_,_),(346,_,_,_),(347,_,_,_),(348,_,_,_),(349,_,_,_),(351,_,_,_),(352,_,_,_),(354,_,_,_),(357,_,_,_),(361,_,_,_),(362,_,_,_),(363,_,_,_),(370,_,_,_),(378,_,_,_),(380,_,_,_),(403,_,_,_),(404,_,_,_),(407,_,_,_),(408,_,_,_),(409,_,_,_),(410,_,_,_),(411,_,_,_),(412,_,_,_),(413,_,_,_),(414,_,_,_),(415,_,_,_),(416,_,_,_),(417,_,_,_),(418,_,_,_),(419,_,_,_)],⟨sX,yf,mY,Tryz.underlying5,Tryz.underlying6,Tryz.underlying7,Tryz.underlying8,Tryz.underlying10,Tryz.underlying11,Tryz.underlying12,Tryz.underlying13,Tryz.underlying14,Tryz.underlying15,Tryz.underlying16,Tryz.underlying17,Tryz.underlying18,Tryz.underlying19,Tryz.underlying21,Tryz.underlying22,Bm,Gy,yz,nG,Tryz.underlying31,Tryz.underlying32,yd,Dm,yk,Tryz.underlying41,Bn,nH,r7,Tryz.underlying56,Bo,Tryz.underlying58,wS,Tryz.underlying68,Gz,Tryz.underlying73,Tryz.underlying74,Tryz.underlying75,Tryz.underlying80,GA,Tryz.underlying82,Tryz.underlying83,Tryz.underlying84,Tryz.underlying85,Tryz.underlying86,Gj,Tryz.underlying88,Tryz.underlying89,Tryz.underlying90,Gk,Tryz.underlying94,Tryz.underlying95,Tryz.underlying96,Dp,Tryz.underlying101,Tryz.underlying102,Tryz.underlying108,Gt,Tryz.underlying110,Tryz.underlying111,Tryz.underlying112,Gu,Bg,y9,Tryz.underlying120,Tryz.underlying127,Tryz.underlying128,Tryz.underlying132,yn,Tryz.underlying148,Tryz.underlying149,Bh,Tryz.underlying156,yQ,Tryz.underlying162,Tryz.underlying163,Tryz.underlying165,Tryz.underlying166,yx,Tryz.underlying168,Tryz.underlying169,Gv,Tryz.underlying175,Tryz.underlying176,Tryz.underlying177,Tryz.underlying178,Tryz.underlying180,Tryz.underlying181,Tryz.underlying188,Tryz.underlying190,Tryz.underlying192,Tryz.underlying193,Tryz.underlying194,Tryz.underlying196,Tryz.underlying197,Tryz.underlying198,Tryz.underlying199,Tryz.underlying202,Tryz.underlying204,yR,Tryz.underlying219,Tryz.underlying220,Tryz.underlying221,Tryz.underlying223,wR,Tryz.underlying226,Tryz.underlying227,Tryz.underlying228,Gx,r6,Tryz.underlying231,Tryz.underlying232,Tryz.underlying234,Tryz.underlying235,Tryz.underlying260,Tryz.underlying261,yS,Tryz.underlying265,Tryz.underlying266,Bi,Tryz.underlying268,Tryz.underlying269,Bk,Tryz.underlying274,Tryz.underlying275,Tryz.underlying278,Tryz.underlying285,Tryz.underlying287,Tryz.underlying288,Tryz.underlying289,Tryz.underlying297,Tryz.underlying298,Tryz.underlying302,Tryz.underlying304,oG,Tryz.underlying318,Tryz.underlying319,Dj,Tryz.underlying323,Tryz.underlying324,qt,Tryz.underlying330,Tryz.underlying331,Tryz.underlying338,Tryz.underlying341,uX,nU,Tryz.underlying345,Dk,yh,Tryz.underlying348,Tryz.underlying349,Tryz.underlying351,Tryz.underlying352,Tryz.underlying354,yT,Tryz.underlying362,Dl,Bl,Tryz.underlying378,Tryz.underlying380,Tryz.underlying403,Tryz.underlying404,Tryz.underlying407,Tryz.underlying408,Tryz.underlying409,Tryz.underlying410,Tryz.underlying411,Tryz.underlying412,Tryz.underlying413,Tryz.underlying415,Tryz.underlying416,Tryz.underlying417,Tryz.underlying418,Tryz.underlying419,trivial⟩,⟨ti2,gr,F8,ti5,ti6,ti7,ti8,ti9,ae0,ae2,ae5,ae9,afb,afd,afg,afj,afn,afr,afC,afD,Ta,afJ,K8,Tj,Tl,yM,j6,af8,jD,agf,wN,Tp,Tq,agr,uR,ags,nF,agt,Db,agu,agv,agw,agx,Dc,agy,wO,Tt,Tu,agz,Dd,agA,Tv,agB,uS,agC,Lf,Tw,agD,ae1,uQ,S1,KY,KZ,S2,ae3,S3,ae4,tO,ae6,ae7,ae8,afa,FY,afc,K0,afe,aff,K3,afh,S4,FZ,K4,S5,afi,S6,afk,afl,K5,afm,F3,afo,afp,afq,afs,aft,afu,afv,afw,afx,afy,afz,afA,afB,S7,S8,afE,S9,afF,pV,K6,afG,K7,F4,Tc,afH,Td,afI,yL,C7,afK,F5,Te,afL,Tf,Tg,afM,Th,Ti,afN,F6,afO,afP,afQ,afR,afS,afT,K9,afU,afV,Tk,afW,afX,C8,afY,yN,Tm,afZ,Tn,af0,af1,La,Lb,af2,F7,To,af3,Lc,af4,jh,C9,Ld,Da,af5,Le,af6,af7,af9,aga,agb,agc,agd,age,agh,agi,agj,agk,agl,agm,agn,ago,agp,agq,trivial⟩⟩
end
section
open Go Go.Sx
theorem QZ(x:Int)(w:World) :
 CR ya 295 (Z8 x) w (fun r w' => r = .bool false/\gx [] w w'):=by
 refine en Tryz.func295 Tryz.ntmps295 ?_
 have a:=yt w
 refine iN a 14 ?_
 refine gq (v:=Zp) Tryz.results295 rfl ?_
 exact⟨rfl,a.gz s_⟩
theorem VJ(x y:Int)(w:World) :
 CR ya 282 (Zx x y) w (fun r w' => r = .int .i64 (jb x y)/\gx [] w w'):=by
 refine en Tryz.func282 Tryz.ntmps282 ?_
 have i:=yt w
 refine fS i 8 ?_
 refine cl OZ (QZ x w) ?_
 rintro _ c ⟨rfl,d⟩
 have b:=yq i d
 refine fK b 6 ?_
 refine cl OZ (QZ y c) ?_
 rintro _ f ⟨rfl,e⟩
 have a:=yq b e
 refine fK a 26 ?_
 by_cases g:(x:Int)<(y:Int)
 . refine fQ a 11 ?_
   refine gq (v:=Zw) Tryz.results282 rfl ?_
   exact⟨gm (by simp only[jb];(repeat' split)<;>omega),a.gz s_⟩
 . refine fK a 11 ?_
   by_cases h:(x:Int)>(y:Int)
   . refine fQ a 11 ?_
     refine gq (v:=qH) Tryz.results282 rfl ?_
     exact⟨gm (by simp only[jb];(repeat' split)<;>omega),a.gz s_⟩
   . refine fQ a 12 ?_
     refine gq (v:=Zc) Tryz.results282 rfl ?_
     exact⟨gm (by simp only[jb];(repeat' split)<;>omega),a.gz s_⟩
theorem JR(x:Int)(w:World) :
 CR ya 224 (Z8 x) w (fun r w' => r = .bool false/\gx [] w w'):=by
 refine en Tryz.func224 Tryz.ntmps224 ?_
 have a:=yt w
 refine iN a 14 ?_
 refine gq (v:=Zp) Tryz.results224 rfl ?_
 exact⟨rfl,a.gz s_⟩
theorem VI(x y:Int)(w:World) :
 CR ya 283 (Zx x y) w (fun r w' => r = .int .i64 (jb x y)/\gx [] w w'):=by
 refine en Tryz.func283 Tryz.ntmps283 ?_
 have i:=yt w
 refine fS i 8 ?_
 refine cl II (JR x w) ?_
 rintro _ c ⟨rfl,d⟩
 have b:=yq i d
 refine fK b 6 ?_
 refine cl II (JR y c) ?_
 rintro _ f ⟨rfl,e⟩
 have a:=yq b e
 refine fK a 26 ?_
 by_cases g:(x:Int)<(y:Int)
 . refine fQ a 11 ?_
   refine gq (v:=Zw) Tryz.results283 rfl ?_
   exact⟨gm (by simp only[jb];(repeat' split)<;>omega),a.gz s_⟩
 . refine fK a 11 ?_
   by_cases h:(x:Int)>(y:Int)
   . refine fQ a 11 ?_
     refine gq (v:=qH) Tryz.results283 rfl ?_
     exact⟨gm (by simp only[jb];(repeat' split)<;>omega),a.gz s_⟩
   . refine fQ a 12 ?_
     refine gq (v:=Zc) Tryz.results283 rfl ?_
     exact⟨gm (by simp only[jb];(repeat' split)<;>omega),a.gz s_⟩
theorem abA(x:Int)(w:World) :
 CR ya 156 (xm x) w (fun r w' => r = .bool false/\gx [] w w'):=by
 refine en Tryz.func156 Tryz.ntmps156 ?_
 have a:=yt w
 refine iN a 14 ?_
 refine gq (v:=Zp) Tryz.results156 rfl ?_
 exact⟨rfl,a.gz s_⟩
theorem ab1(v:Value)(xs:List Int)(w:World)(hv:Ints .i64 (fun _=>True) w v xs) :
 CR ya 281 #[v] w (fun r w' => r = .int .i64 (me xs)/\gx [] w w'):=by
 have u:=hv.len
 refine en Tryz.func281 Tryz.ntmps281 ?_
 have p:=yt w
 refine fS p 14 ?_
 refine kX (v:=v) rfl rfl yd hv (gF p 4 ?_)
 refine lp (α:=Nat) (fun k=>[(3,Zc),(6,v),(7,(Za xs.length)),(8,(Za k))]) (fun k w1=>St [(w,[])] [] w1/\k<=xs.length/\∀ j x,j<k->xs[j]? = some x->x=0) (fun k=>xs.length-k) 0 ⟨rfl,rfl,rfl,gm rO,trivial⟩ (⟨p,o_,fun j x h=>absurd h o_⟩) ?_
 rintro k c d ⟨o,t,s⟩
 refine fS o 2 ?_
 by_cases e:((k:Int):Int)<((xs.length:Int):Int)
 . obtain⟨x,q⟩:=pK (show k<xs.length by omega)
   refine fK o 11 ?_
   refine Cn (i:=(k:Int)) (el:=x) rfl rfl rfl yd gr (St.EZ o s_ hv) o_ (by rw[show ((k:Nat):Int).toNat=k by omega];exact q) ?_
   intro f g a b l
   have m:=b.i64
   refine ld rfl rfl yf rfl a (fK o 7 ?_)
   by_cases n:(x:Int)=(0:Int)
   . refine fQ o 11 ?_
     refine tN (?_)
     exact again (k+1) ⟨rfl,rfl,rfl,gm rO,trivial⟩ (⟨o,o_,Rj s q o_⟩) (by show (xs.length-(k+1):Nat)<xs.length-k;omega)
   . refine fQ o 16 ?_
     refine gq (v:=(Za x)) Gm rfl ?_
     exact⟨gm (Rg s q o_).symm,o.gz s_⟩
 . refine fQ o 17 ?_
   refine gq (v:=Zc) Gm rfl ?_
   exact⟨gm (Rh s o_).symm,o.gz s_⟩
theorem CO(a b:gE)(w:World) :
 CR ya 293 #[(M0 a),(M0 b)] w (fun r w' => r = .int .i64 (qo a b)/\gx [] w w'):=by
 refine en Tryz.func293 Tryz.ntmps293 ?_
 have F:=yt w
 refine fS F 2 ?_
 refine ij F (fun s t u x h=>?_)
 refine ij h (fun z A B C c=>?_)
 refine gF c 4 ?_
 refine kY mixed [([0,1,2,3,5,6,7,8,4],[6,8])] [9,10,11,12] c (fun j d=>jO ?_)
 refine fK d 8 ?_
 refine cl OX (VJ a.key b.key j) ?_
 rintro _ k ⟨rfl,l⟩
 have e:=yq d l
 refine fQ e 1 ?_
 refine kJ (kZ ?_)
 refine cl OY (VI (a.ix:Int) (b.ix:Int) k) ?_
 rintro _ D ⟨rfl,m⟩
 have n:=yq e m
 refine jL (vs:=(Zo (jb a.key b.key) (jb (a.ix:Int) (b.ix:Int)))) (cs:=(Zo (jb a.key b.key) (jb (a.ix:Int) (b.ix:Int)))) rfl rfl yd gr rfl (by simp[Value.cells]) rfl rfl rfl n (fun o p E G f=>cl OW (ab1 (xh o) [jb a.key b.key,jb (a.ix:Int) (b.ix:Int)] p (wT f (i:=0) rfl (fun y I=>by simp only[zb,nI,or_false]at I;rcases I with rfl|rfl<;>exact NW _ _)).any) ?_)
 rintro _ H ⟨rfl,q⟩
 have g:=yq f q
 refine fQ g 4 ?_
 refine gq (v:=(Za (me [jb a.key b.key,jb (a.ix:Int) (b.ix:Int)]))) Tryz.results293 rfl ?_
 exact⟨gm (Rl a b),g.gz s_⟩
end
section
open Go Go.Sx
theorem Av(hb n:Nat)(iv pv:Value)(ps:List (Option Nat))(fP:List gE)(pl:List Nat)(w:World)(d:Own (Zk hb n iv pv fP ps pl) w) :
 CR ya 229 (Zi hb) w (fun r w' => r = .bool true/\fZ (Zk hb n iv pv fP ps pl) w w' (Zk hb n iv pv fP ps pl)):=by
 refine en Tryz.func229 Tryz.ntmps229 ?_
 have b:=(yp d).unpack
 refine fS b 8 ?_
 refine lS (a:=some ⟨hb,0,none⟩) (c:=true) rfl rfl rfl Gx rfl (fK b 6 ?_)
 refine Am (a:=⟨hb,0,none⟩) rfl rfl rfl Gx F7 (fQ b 5 ?_)
 refine gq (v:=Zf) Tryz.results229 rfl ?_
 exact⟨rfl,yj (yc [_,_,_,_] _ b)⟩
theorem I8(hb n:Nat)(iv pv:Value)(ps:List (Option Nat))(fP:List gE)(pl:List Nat)(w:World)(b:Own (Zk hb n iv pv fP ps pl) w)(i:Nat)(hi:i<n) :
 CR ya 243 (Zm hb i) w (fun r w' => r = .bool true/\fZ (Zk hb n iv pv fP ps pl) w w' (Zk hb n iv pv fP ps pl)):=by
 refine en Tryz.func243 Tryz.ntmps243 ?_
 have a:=(yp b).unpack
 refine fS a 8 ?_
 refine cmp rfl rfl rfl (nv o_) (fK a 6 ?_)
 refine cmp rfl rfl rfl (pI o_) (fQ a 5 ?_)
 refine gq (v:=Zf) Tryz.results243 rfl ?_
 exact⟨rfl,yj (yc [_,_,_,_] _ a)⟩
theorem I9(hb n:Nat)(iv pv:Value)(ps:List (Option Nat))(fP:List gE)(pl:List Nat)(w:World)(l:Own (Zk hb n iv pv fP ps pl) w)(j:js n ps pl)(i:Nat)(hi:i<n) :
 CR ya 244 (Zm hb i) w (fun r w' => r = .int .i64 (((fJ pl i:Nat):Int)-1)/\fZ (Zk hb n iv pv fP ps pl) w w' (Zk hb n iv pv fP ps pl)):=by
 have m:=j.at hi
 have t:=j.room
 have s:=j.n
 have u:=j.val i
 refine en Tryz.func244 Tryz.ntmps244 ?_
 have h:=(yp l).unpack
 refine fS h 12 ?_
 refine quo (a:=(i:Int)) (b:=64) (e:=((i / 64:Nat):Int)) rfl rfl rfl d_ (wD 64 o_) (iK (cf:=ir) (k:=(i / 64)) (i:=((i / 64:Nat):Int)) rfl rfl rfl uX Da (y8 h 2 rfl) o_ rfl (gy om) ?_)
 obtain⟨f,d⟩:∃ q,(fJ ps (i / 64))=q:=⟨_,rfl⟩
 refine fK h 8 ?_
 rcases f with _|g
 . skip
   refine uz (a:=(fJ ps (i / 64)).map fun b=>⟨b,0,none⟩) (c:=true) rfl rfl rfl yT (by rw[d];rfl) (fQ h 10 ?_)
   refine gq (v:=Zw) Tryz.results244 rfl ?_
   exact⟨gm (by rw[j.zero (i / 64) ((gy m).trans (congrArg some d)) i rfl];rfl),yj (yc [_,_,_,_] _ h)⟩
 . skip
   refine uz (a:=(fJ ps (i / 64)).map fun b=>⟨b,0,none⟩) (c:=false) rfl rfl rfl yT (by rw[d];rfl) (fK h 9 ?_)
   refine rem (a:=(i:Int)) (b:=64) (e:=((i%64:Nat):Int)) rfl rfl rfl d_ (CV 64) (rR rfl (AQ d) (jB (o:=0) (o' := i%64*1+0) (i:=((i%64:Nat):Int)) rfl rfl rfl Dl gr o_ (by simp only[mj];omega) (ld rfl rfl yf rfl (Bj h (i:=3) rfl f_ d_ (by have p:=j.room;first|omega|(simp only[jc,gC];omega)) ((gy o_).trans (congrArg some d)) rfl) (fQ h 5 ?_))))
   refine gq (v:=(Za ((((fJ pl i):Nat):Int)-1))) Tryz.results244 rfl ?_
   exact⟨gm o_,yj (yc [_,_,_,_] _ h)⟩
theorem EX(hb n:Nat)(iv pv:Value)(ps:List (Option Nat))(fP:List gE)(pl:List Nat)(w:World)(N:Own (Zk hb n iv pv fP ps pl) w)(F:js n ps pl)(i:Nat)(hi:i<n)(v:Int)(p:Nat)(hv:v+1=(p:Int))(hp:p<=65536) :
 CR ya 231 (Zu hb i v) w (fun r w' => r = .tuple #[]/\∃ K,K.length=ps.length/\js n K (jc pl i p)/\fZ (Zk hb n iv pv fP ps pl) w w' (Zk hb n iv pv fP K (jc pl i p))):=by
 have I:=F.at hi
 have Q:=F.room
 have P:=F.n
 have R:=F.val i
 refine en Tryz.func231 Tryz.ntmps231 ?_
 have G:=(yp N).unpack
 refine fS G 8 ?_
 refine quo (a:=(i:Int)) (b:=64) (e:=((i / 64:Nat):Int)) rfl rfl rfl d_ (wD 64 o_) ?_
 obtain⟨s,g⟩:∃ q,(fJ ps (i / 64))=q:=⟨_,rfl⟩
 refine fK G 2 ?_
 rcases s with _|t
 . skip
   refine uz (a:=(fJ ps (i / 64)).map fun b=>⟨b,0,none⟩) (c:=true) rfl rfl rfl yT (by rw[g];rfl) (fK G 9 ?_)
   refine quo (a:=(i:Int)) (b:=64) (e:=((i / 64:Nat):Int)) rfl rfl rfl d_ (wD 64 o_) (iH G (fun d z A B j=>?_))
   refine fK j 1 ?_
   refine iO (f:=(fun _=>(some d))) 3 j (fun C k=>?_)
   have u:=yg [0,4,1,2,3] k
   have L:ps[i / 64]? = some none:=(gy I).trans (congrArg some g)
   have x:=St.Nz u L (F.Vf L)
   have h:=x
   have J:js n (ps.set (i / 64) (some d)) pl:=F.made
   have H:(ps.set (i / 64) (some d))[i / 64]? = some (some d):=by rw[si,if_pos rfl,if_pos I]
   have O:i / 64<(ps.set (i / 64) (some d)).length:=by rw[List.length_set];exact I
   refine fK k 8 ?_
   refine quo (a:=(i:Int)) (b:=64) (e:=((i / 64:Nat):Int)) rfl rfl rfl d_ (wD 64 o_) (fK h 3 ?_)
   refine rem (a:=(i:Int)) (b:=64) (e:=((i%64:Nat):Int)) rfl rfl rfl d_ (CV 64) (fK h 1 ?_)
   refine ar (e:=(p:Int)) rfl rfl rfl rfl (by rw[oT o_];exact hv) (rR rfl (AQ (iE H)) (jB (o:=0) (o' := i%64*1+0) (i:=((i%64:Nat):Int)) rfl rfl rfl Dl gr o_ (by simp only[mj];omega) (qZ (f:=(fun _=>p)) (L' := [gK fR 363 64 (ps.set (i / 64) (some d)) (fN pl i (fun _=>p)),blk hb 346 (pG hb n iv pv),fL gE.cells iv 224 2 fP,fL ir pv 361 1 (ps.set (i / 64) (some d))]) 0 rfl rfl rfl rfl gr rfl rfl h rfl f_ d_ (by have M:=F.room;first|omega|(simp only[jc,gC];omega)) H rfl rfl rfl (fun D l=>fQ l 1 ?_))))
   refine iQ Tryz.results231 ?_
   have y:=yg [1,2,3,0] l
   exact⟨rfl,ps.set (i / 64) (some d),s_,J.set hi o_ H,yj (yc [_,_,_,_] _ y)⟩
 . skip
   refine uz (a:=(fJ ps (i / 64)).map fun b=>⟨b,0,none⟩) (c:=false) rfl rfl rfl yT (by rw[g];rfl) ?_
   have J:=F
   have H:ps[i / 64]? = some (some t):=(gy I).trans (congrArg some g)
   have O:=I
   refine fK G 11 ?_
   refine quo (a:=(i:Int)) (b:=64) (e:=((i / 64:Nat):Int)) rfl rfl rfl d_ (wD 64 o_) (fK G 3 ?_)
   refine rem (a:=(i:Int)) (b:=64) (e:=((i%64:Nat):Int)) rfl rfl rfl d_ (CV 64) (fK G 1 ?_)
   refine ar (e:=(p:Int)) rfl rfl rfl rfl (by rw[oT o_];exact hv) (rR rfl (AQ g) (jB (o:=0) (o' := i%64*1+0) (i:=((i%64:Nat):Int)) rfl rfl rfl Dl gr o_ (by simp only[mj];omega) (qZ (f:=(fun _=>p)) (L' := (Hu hb n iv pv fP ps (fN pl i (fun _=>p)))) 3 rfl rfl rfl rfl gr rfl rfl G rfl f_ d_ (by have M:=F.room;first|omega|(simp only[jc,gC];omega)) H rfl rfl rfl (fun E m=>fQ m 1 ?_))))
   refine iQ Tryz.results231 ?_
   exact⟨rfl,ps,s_,J.set hi o_ H,yj (yc [_,_,_,_] _ m)⟩
end
section
open Go Go.Sx
theorem Ja(hb n:Nat)(iv pv:Value)(ps:List (Option Nat))(fP:List gE)(pl:List Nat)(w:World)(B:Own (Zk hb n iv pv fP ps pl) w)(z:Hp n fP pl)(y:js n ps pl)(p q:Nat)(hp:p<fP.length)(F:q<fP.length) :
 CR ya 230 (Zu hb p q) w (fun r w' => r = .tuple #[]/\∃ x,x.length=ps.length/\js n x (jc (jc pl (fJ (iF fP p q) p).ix (p+1)) (fJ (iF fP p q) q).ix (q+1))/\fZ (Zk hb n iv pv fP ps pl) w w' (Zk hb n iv pv (iF fP p q) x (jc (jc pl (fJ (iF fP p q) p).ix (p+1)) (fJ (iF fP p q) q).ix (q+1)))):=by
 have L:=y.n
 have K:=z.len
 have G:=mJ fP p q
 have A:∀ j,j<fP.length->(fJ (iF fP p q) j).ix<n:=fun j E=>(z.swap hp F).ix j (by rw[G];exact E)
 refine en Tryz.func230 Tryz.ntmps230 ?_
 have H:=(yp B).unpack
 refine oD H 27 fun m h=>?_
 refine iO (f:=(fun _=>(fJ fP q))) 1 h (fun o a=>?_)
 refine fK a 1 ?_
 refine iO (f:=(fun _=>(fJ fP p))) 1 a (fun i b=>?_)
 have k:=b
 have c:=yc [_,_,_,_] _ k
 refine fK b 14 ?_
 refine cl EE (EX hb n iv pv ps (iF fP p q) pl i (ye c 0 rfl) y ((fJ (iF fP p q) p).ix) (A _ (by assumption)) (p:Int) (p+1) o_ o_) ?_
 rintro _ l ⟨rfl,I,s,C,v⟩
 have d:=(yi c v)
 have e:=yc [_,_,_,_] _ d
 refine fK d 13 ?_
 refine cl EE (EX hb n iv pv I (iF fP p q) (jc pl ((fJ (iF fP p q) p).ix) (p+1)) l (ye e 0 rfl) C ((fJ (iF fP p q) q).ix) (A _ (by assumption)) (q:Int) (q+1) o_ o_) ?_
 rintro _ t ⟨rfl,J,u,D,v⟩
 have g:=(yi e v)
 refine fQ g 1 ?_
 refine iQ Tryz.results230 ?_
 exact⟨rfl,J,o_,D,yj (yc [_,_,_,_] _ g)⟩
theorem PJ(hb n:Nat)(iv pv:Value)(ps:List (Option Nat))(fP:List gE)(pl:List Nat)(w:World)(m:Own (Zk hb n iv pv fP ps pl) w)(q:Hp n fP pl)(o:js n ps pl)(p:Nat)(hp:p<fP.length) :
 CR ya 275 (Zm hb p) w (fun r w' => r = .int .i64 (rG fP p)/\fZ (Zk hb n iv pv fP ps pl) w w' (Zk hb n iv pv fP ps pl)):=by
 have t:=o.n
 have s:=q.len
 have u:pa p<fP.length:=by simp only[pa];omega
 refine en Tryz.func275 Tryz.ntmps275 ?_
 have l:=(yp m).unpack
 refine fS l 9 ?_
 refine quo (a:=(p:Int)-1) (b:=2) (e:=((pa p:Nat):Int)) rfl rfl rfl d_ (paN o_) (gJ l 7 fun g c=>?_)
 by_cases h:((p:Int):Int)>(0:Int)
 . refine fK c 16 ?_
   refine cl Cc (CO (fJ fP p) (fJ fP (pa p)) g) ?_
   rintro _ j ⟨rfl,i⟩
   have d:=yq c i
   by_cases f:(qo (fJ fP p) (fJ fP (pa p)):Int)<(0:Int)
   . refine fQ d 13 ?_
     refine gq (v:=(Za ((pa p:Nat):Int))) Tryz.results275 rfl ?_
     exact⟨gm (by unfold rG;rw[if_pos (show 0<p/\iD (fJ fP p) (fJ fP (pa p)) from⟨o_,nN.1 f⟩)]),yj (yc [_,_,_,_] _ d)⟩
   . refine fQ d 13 ?_
     refine gq (v:=Zw) Tryz.results275 rfl ?_
     exact⟨gm (by unfold rG;rw[if_neg (show ¬ (0<p/\iD (fJ fP p) (fJ fP (pa p))) from fun k=>f (nN.2 k.2))]),yj (yc [_,_,_,_] _ d)⟩
 . refine fQ c 30 ?_
   refine gq (v:=Zw) Tryz.results275 rfl ?_
   exact⟨gm (by unfold rG;rw[if_neg (show ¬ (0<p/\iD (fJ fP p) (fJ fP (pa p))) from fun k=>h o_)]),yj (yc [_,_,_,_] _ c)⟩
theorem PM(hb n:Nat)(iv pv:Value)(ps:List (Option Nat))(fP:List gE)(pl:List Nat)(w:World)(Q:Own (Zk hb n iv pv fP ps pl) w)(S:Hp n fP pl)(R:js n ps pl)(p:Nat)(hp:p<fP.length) :
 CR ya 276 (Zm hb p) w (fun r w' => r = .int .i64 (nK fP p)/\fZ (Zk hb n iv pv fP ps pl) w w' (Zk hb n iv pv fP ps pl)):=by
 have U:=R.n
 have T:=S.len
 refine en Tryz.func276 Tryz.ntmps276 ?_
 have P:=(yp Q).unpack
 refine qV P 18 ?_
 refine ri 3 (iz (fS P 20 ?_))
 refine ar (e:=((2*p:Nat):Int)) rfl rfl rfl rfl iT (ar (e:=((2*p+1:Nat):Int)) rfl rfl rfl rfl iT (fK P 1 ?_))
 refine ar (e:=((2*p+1:Nat):Int)) rfl rfl rfl rfl iT (gJ P 10 fun s g=>?_)
 refine iL (m:=fP.length) 1 rfl rfl nU g rfl ?_
 by_cases k:(((2*p+1:Nat):Int):Int)<((fP.length:Int):Int)
 . refine fK g 16 ?_
   refine cl Cc (CO (fJ fP (2*p+1)) (fJ fP p) s) ?_
   rintro _ G ⟨rfl,t⟩
   have b:=yq g t
   by_cases h:(qo (fJ fP (2*p+1)) (fJ fP p):Int)<(0:Int)
   . refine fQ b 15 ?_
     refine tN (?_)
     refine iz (fS b 20 ?_)
     refine ar (e:=((2*p:Nat):Int)) rfl rfl rfl rfl iT (ar (e:=((2*p+1:Nat):Int)) rfl rfl rfl rfl iT (fK b 1 ?_))
     refine ar (e:=((2*p+2:Nat):Int)) rfl rfl rfl rfl iT (gJ b 10 fun u c=>?_)
     refine iL (m:=fP.length) 1 rfl rfl nU c rfl ?_
     by_cases x:(((2*p+2:Nat):Int):Int)<((fP.length:Int):Int)
     . refine fK c 16 ?_
       refine cl Cc (CO (fJ fP (2*p+2)) (fJ fP (2*p+1)) u) ?_
       rintro _ H ⟨rfl,y⟩
       have a:=yq c y
       by_cases l:(qo (fJ fP (2*p+2)) (fJ fP (2*p+1)):Int)<(0:Int)
       . refine fQ a 15 ?_
         refine tN (?_)
         refine iz (fS a 17 ?_)
         by_cases I:(((2*p+2:Nat):Int):Int)=((p:Int):Int)
         . refine fQ a 11 ?_
           refine gq (v:=Zw) qu rfl ?_
           exact(show False by omega).elim
         . refine fQ a 13 ?_
           refine gq (v:=(Za ((2*p+2:Nat):Int))) qu rfl ?_
           exact⟨gm (by unfold nK jy;simp only;rw[if_pos (show 2*p+1<fP.length/\iD (fJ fP (2*p+1)) (fJ fP p) from⟨o_,nN.1 h⟩),if_pos (show 2*p+2<fP.length/\iD (fJ fP (2*p+2)) (fJ fP (2*p+1)) from⟨o_,nN.1 l⟩),if_neg o_]),yj (yc [_,_,_,_] _ a)⟩
       . refine fQ a 12 ?_
         refine tN (?_)
         refine iz (fS a 17 ?_)
         by_cases J:(((2*p+1:Nat):Int):Int)=((p:Int):Int)
         . refine fQ a 11 ?_
           refine gq (v:=Zw) qu rfl ?_
           exact(show False by omega).elim
         . refine fQ a 13 ?_
           refine gq (v:=(Za ((2*p+1:Nat):Int))) qu rfl ?_
           exact⟨gm (by unfold nK jy;simp only;rw[if_pos (show 2*p+1<fP.length/\iD (fJ fP (2*p+1)) (fJ fP p) from⟨o_,nN.1 h⟩),if_neg (show ¬ (2*p+2<fP.length/\iD (fJ fP (2*p+2)) (fJ fP (2*p+1))) from fun F=>l (nN.2 F.2)),if_neg o_]),yj (yc [_,_,_,_] _ a)⟩
     . refine fQ c 29 ?_
       refine tN (?_)
       refine iz (fS c 17 ?_)
       by_cases K:(((2*p+1:Nat):Int):Int)=((p:Int):Int)
       . refine fQ c 11 ?_
         refine gq (v:=Zw) qu rfl ?_
         exact(show False by omega).elim
       . refine fQ c 13 ?_
         refine gq (v:=(Za ((2*p+1:Nat):Int))) qu rfl ?_
         exact⟨gm (by unfold nK jy;simp only;rw[if_pos (show 2*p+1<fP.length/\iD (fJ fP (2*p+1)) (fJ fP p) from⟨o_,nN.1 h⟩),if_neg (show ¬ (2*p+2<fP.length/\iD (fJ fP (2*p+2)) (fJ fP (2*p+1))) from fun F=>x o_),if_neg o_]),yj (yc [_,_,_,_] _ c)⟩
   . refine fQ b 12 ?_
     refine tN (?_)
     refine iz (fS b 20 ?_)
     refine ar (e:=((2*p:Nat):Int)) rfl rfl rfl rfl iT (ar (e:=((2*p+1:Nat):Int)) rfl rfl rfl rfl iT (fK b 1 ?_))
     refine ar (e:=((2*p+2:Nat):Int)) rfl rfl rfl rfl iT (gJ b 10 fun z i=>?_)
     refine iL (m:=fP.length) 1 rfl rfl nU i rfl ?_
     by_cases A:(((2*p+2:Nat):Int):Int)<((fP.length:Int):Int)
     . refine fK i 16 ?_
       refine cl Cc (CO (fJ fP (2*p+2)) (fJ fP p) z) ?_
       rintro _ L ⟨rfl,B⟩
       have d:=yq i B
       by_cases o:(qo (fJ fP (2*p+2)) (fJ fP p):Int)<(0:Int)
       . refine fQ d 15 ?_
         refine tN (?_)
         refine iz (fS d 17 ?_)
         by_cases M:(((2*p+2:Nat):Int):Int)=((p:Int):Int)
         . refine fQ d 11 ?_
           refine gq (v:=Zw) qu rfl ?_
           exact(show False by omega).elim
         . refine fQ d 13 ?_
           refine gq (v:=(Za ((2*p+2:Nat):Int))) qu rfl ?_
           exact⟨gm (by unfold nK jy;simp only;rw[if_neg (show ¬ (2*p+1<fP.length/\iD (fJ fP (2*p+1)) (fJ fP p)) from fun F=>h (nN.2 F.2)),if_pos (show 2*p+2<fP.length/\iD (fJ fP (2*p+2)) (fJ fP p) from⟨o_,nN.1 o⟩),if_neg o_]),yj (yc [_,_,_,_] _ d)⟩
       . refine fQ d 12 ?_
         refine tN (?_)
         refine iz (iN d 28 ?_)
         refine gq (v:=Zw) qu rfl ?_
         exact⟨gm (by unfold nK jy;simp only;rw[if_neg (show ¬ (2*p+1<fP.length/\iD (fJ fP (2*p+1)) (fJ fP p)) from fun F=>h (nN.2 F.2)),if_neg (show ¬ (2*p+2<fP.length/\iD (fJ fP (2*p+2)) (fJ fP p)) from fun F=>o (nN.2 F.2)),if_pos rfl]),yj (yc [_,_,_,_] _ d)⟩
     . refine fQ i 29 ?_
       refine tN (?_)
       refine iz (iN i 28 ?_)
       refine gq (v:=Zw) qu rfl ?_
       exact⟨gm (by unfold nK jy;simp only;rw[if_neg (show ¬ (2*p+1<fP.length/\iD (fJ fP (2*p+1)) (fJ fP p)) from fun F=>h (nN.2 F.2)),if_neg (show ¬ (2*p+2<fP.length/\iD (fJ fP (2*p+2)) (fJ fP p)) from fun F=>A o_),if_pos rfl]),yj (yc [_,_,_,_] _ i)⟩
 . refine fQ g 29 ?_
   refine tN (?_)
   refine iz (fS g 20 ?_)
   refine ar (e:=((2*p:Nat):Int)) rfl rfl rfl rfl iT (ar (e:=((2*p+1:Nat):Int)) rfl rfl rfl rfl iT (fK g 1 ?_))
   refine ar (e:=((2*p+2:Nat):Int)) rfl rfl rfl rfl iT (gJ g 10 fun C j=>?_)
   refine iL (m:=fP.length) 1 rfl rfl nU j rfl ?_
   by_cases D:(((2*p+2:Nat):Int):Int)<((fP.length:Int):Int)
   . refine fK j 16 ?_
     refine cl Cc (CO (fJ fP (2*p+2)) (fJ fP p) C) ?_
     rintro _ N ⟨rfl,E⟩
     have f:=yq j E
     by_cases q:(qo (fJ fP (2*p+2)) (fJ fP p):Int)<(0:Int)
     . refine fQ f 15 ?_
       refine tN (?_)
       refine iz (fS f 17 ?_)
       by_cases O:(((2*p+2:Nat):Int):Int)=((p:Int):Int)
       . refine fQ f 11 ?_
         refine gq (v:=Zw) qu rfl ?_
         exact(show False by omega).elim
       . refine fQ f 13 ?_
         refine gq (v:=(Za ((2*p+2:Nat):Int))) qu rfl ?_
         exact⟨gm (by unfold nK jy;simp only;rw[if_neg (show ¬ (2*p+1<fP.length/\iD (fJ fP (2*p+1)) (fJ fP p)) from fun F=>k o_),if_pos (show 2*p+2<fP.length/\iD (fJ fP (2*p+2)) (fJ fP p) from⟨o_,nN.1 q⟩),if_neg o_]),yj (yc [_,_,_,_] _ f)⟩
     . refine fQ f 12 ?_
       refine tN (?_)
       refine iz (iN f 28 ?_)
       refine gq (v:=Zw) qu rfl ?_
       exact⟨gm (by unfold nK jy;simp only;rw[if_neg (show ¬ (2*p+1<fP.length/\iD (fJ fP (2*p+1)) (fJ fP p)) from fun F=>k o_),if_neg (show ¬ (2*p+2<fP.length/\iD (fJ fP (2*p+2)) (fJ fP p)) from fun F=>q (nN.2 F.2)),if_pos rfl]),yj (yc [_,_,_,_] _ f)⟩
   . refine fQ j 29 ?_
     refine tN (?_)
     refine iz (iN j 28 ?_)
     refine gq (v:=Zw) qu rfl ?_
     exact⟨gm (by unfold nK jy;simp only;rw[if_neg (show ¬ (2*p+1<fP.length/\iD (fJ fP (2*p+1)) (fJ fP p)) from fun F=>k o_),if_neg (show ¬ (2*p+2<fP.length/\iD (fJ fP (2*p+2)) (fJ fP p)) from fun F=>D o_),if_pos rfl]),yj (yc [_,_,_,_] _ j)⟩
end
end Go.Proofs.YtoceanggliccgaaGreatDoor
