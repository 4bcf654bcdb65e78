/- What the functions that the statements reach do: walks through the code of the program and of the references, one theorem a function; under what is said of its arguments. -/
import Derived.Test.YtjhkmopeagfnlaaGreatDoorFa
import Derived.Test.YtjhkmopeagfnlaaGreatDoorFc
import Derived.Test.YtjhkmopeagfnlaaGreatDoorFb
import Derived.Test.YtjhkmopeagfnlaaGreatDoorFd
import Derived.Test.YtjhkmopeagfnlaaGreatDoorProg
import Derived.KernelRfl
set_option linter.unusedVariables false
set_option linter.unusedSimpArgs false
set_option maxRecDepth 100000
set_option maxHeartbeats 4000000
namespace Go.Proofs.YtjhkmopeagfnlaaGreatDoor
section
open Go Go.Sx
noncomputable abbrev ya:=@Tryz.prog
abbrev yc:=@St.pack
abbrev yd:=@St.aa4
abbrev ye:=@St.MZ
abbrev yf:=@Tryz.underlying3
abbrev yg:=@Tryz.underlying34
abbrev yh:=@Tryz.underlying62
abbrev yi:=@Tryz.underlying254
abbrev yj:=@Tryz.underlying248
abbrev yk:=@Tryz.underlying245
abbrev ym:=@St.re
abbrev yn:=@Tryz.underlying99
abbrev yo:=@St.xI
abbrev yp:=@Tryz.underlying27
abbrev yq:=@St.tu
abbrev yr:=@St.eT
abbrev yt:=@St.tn
abbrev yu:=@Tryz.underlying139
abbrev yv:=@St.Dt
abbrev yw:=@Tryz.underlying252
abbrev yx:=@St.oV
abbrev yy:=@St.IB
abbrev yz:=@St.HA
abbrev y0:=@St.Yn
abbrev y8:=@St.grow
abbrev y9:=@Tryz.underlying31
abbrev nM:=@Tryz.underlying207
abbrev j8:=@St.unpack
abbrev jB:=@St.init
abbrev ny:=@Tryz.underlying4
abbrev oF:=@Tryz.underlying244
abbrev oW:=@Tryz.underlying42
abbrev oS:=@Tryz.underlying87
abbrev qB:=@Tryz.underlying101
abbrev qK:=@Tryz.underlying145
abbrev oT:=@Tryz.results198
abbrev rG:=@Tryz.underlying266
abbrev mW:=@St.G4
abbrev ry:=@Tryz.underlying40
abbrev jV:=@St.un
abbrev ug:=@Tryz.underlying247
abbrev lP:=@St.perm
abbrev mg:=@St.aaZ
abbrev tM:=@Tryz.underlying2
abbrev vu:=@Tryz.underlying165
abbrev sM:=@Tryz.results65
abbrev tW:=@Tryz.results143
abbrev tI:=@Tryz.results214
abbrev vm:=@Tryz.underlying5
abbrev wX:=@Tryz.underlying173
abbrev oU:=@St.XK
abbrev oC:=@St.Oz
abbrev xe:=@Tryz.underlying22
abbrev nL:=@St.fact
abbrev ou:=@St.made
abbrev Az:=@Tryz.underlying55
abbrev wW:=@Tryz.results73
abbrev Ci:=@Tryz.underlying144
abbrev zG:=@Tryz.results103
abbrev BY:=@Tryz.underlying28
abbrev Co:=@Tryz.underlying98
abbrev Cn:=@Tryz.results213
abbrev E9:=@Tryz.underlying200
abbrev Fe:=@Tryz.underlying268
abbrev u6:=@St.Ot
abbrev zD:=@St.TC
abbrev wI:=@St.Xb
abbrev xk:=@St.W4
abbrev EU:=@Tryz.underlying49
abbrev FB:=@Tryz.underlying77
abbrev Ft:=@Tryz.underlying23
abbrev EH:=@Tryz.underlying73
abbrev EF:=@Tryz.underlying97
abbrev xd:=@St.YK
abbrev Am:=@St.Wm
abbrev Fp:=@Tryz.results211
abbrev EG:=@Tryz.results192
abbrev EO:=@Tryz.results230
abbrev ED:=@Tryz.results30
abbrev Fw:=@Tryz.results32
theorem k_{p:Prop}(h:p:=by kernel_rfl):p:=h
theorem f_{p:Prop}(h:p:=by exact fun _=>rfl):p:=h
abbrev p_:Value×List Nat->Value:=Prod.fst
end
section
open Go Go.Sx
abbrev Zl:=(.bool true:Value)
abbrev ue:=(.int .u64 0:Value)
abbrev Zc:=(.int .i64 0:Value)
abbrev Zq:=(.bool false:Value)
abbrev uY:=(.int .i64 1:Value)
abbrev Zd(a:Int):=(.int .u64 a:Value)
abbrev Za(a:Int):=(.int .i64 a:Value)
abbrev Ce:=([.int .u64 0]:List Value)
abbrev Z1:=(.pointer none:Value)
abbrev Zv:=(.int .i64 (-1):Value)
abbrev Zf(a:Int):=([.int .i64 a]:List Value)
abbrev Zk:=(.slice none 0 0:Value)
abbrev Zt(a:Int):=([.int .u64 a]:List Value)
abbrev rO(a:Int):=(#[.int .i64 a]:Array Value)
abbrev qG a b:=(fV gW a 34 1 b:gi)
abbrev tY a b:=([fV gW a 34 1 b]:List gi)
abbrev Zz:=([.int .i64 0,.int .i64 0]:List Value)
abbrev sH(a:Int)(b:Bool):=(#[.int .i64 a,.bool b]:Array Value)
abbrev JH:=(#[.int .i64 0,.bool false]:Array Value)
abbrev JN(a:Int):=(#[.int .i64 a,.bool true]:Array Value)
abbrev Ak(a:Int):=(#[.int .i64 a,.int .i64 0]:Array Value)
abbrev Zb(a:Nat):=(.pointer (some ⟨a,0,none⟩):Value)
abbrev rJ(a:Nat):=(.pointer (some ⟨a,2,none⟩):Value)
abbrev zF(a:Nat):=(.pointer (some ⟨a,1,none⟩):Value)
abbrev Z0(a:Nat):=(.pointer (some ⟨a,6,none⟩):Value)
abbrev Zj(a b:Int):=([.int .i64 a,.int .i64 b]:List Value)
abbrev zI(a:Nat):=(.pointer (some ⟨a,3,none⟩):Value)
abbrev Ar(a b:Int):=(#[.int .u64 a,.int .u64 b]:Array Value)
abbrev qN(a b:Int):=(#[.int .i64 a,.int .i64 b]:Array Value)
abbrev Zi(a:Nat):=([.pointer (some ⟨a,0,none⟩)]:List Value)
abbrev JM:=(.agg #[.int .i64 0,.int .i64 0]:Value)
abbrev wP(a:Nat):=(.slice (some ⟨a,0,none⟩) 2 2:Value)
abbrev Zw(a b:Nat):=(.pointer (some ⟨a,b,none⟩):Value)
abbrev Zx(a:Nat):=(.slice (some ⟨a,0,none⟩) 1 1:Value)
abbrev Zg(a:Nat):=(#[.pointer (some ⟨a,0,none⟩)]:Array Value)
abbrev Zs(a b:Nat):=(.slice (some ⟨a,0,none⟩) b b:Value)
abbrev zZ(a b:Int):=(.agg (qN a b):Value)
abbrev Fa(a b:Nat):=([.slice (some ⟨a,0,none⟩) b b]:List Value)
abbrev Zr(a:Nat)(b c:Int):=(blk a 134 (Zj b c):gi)
abbrev EN(a:gj):=(.agg #[.int .i64 a.ix,.int .i64 a.key]:Value)
abbrev Z8(a:Nat):=(#[.pointer (some ⟨a,0,none⟩),.int .i64 0]:Array Value)
abbrev EK(a:Nat)(b:Int):=([.pointer (some ⟨a,0,none⟩),.int .i64 b]:List Value)
abbrev pX(a:Int)(b:Nat):=([.int .i64 a,.pointer (some ⟨b,0,none⟩)]:List Value)
abbrev Zn(a:Nat)(b:Int):=(#[.pointer (some ⟨a,0,none⟩),.int .i64 b]:Array Value)
abbrev p7(a:Nat)(b:Int):=(#[.pointer (some ⟨a,0,none⟩),.int .u64 b]:Array Value)
abbrev Cj:=(#[.agg #[.int .i64 0,.int .i64 0],.bool false]:Array Value)
abbrev sI(a:WW)(b:Int):=(blk a.cb 134 (Zj b a.now):gi)
abbrev Ch(a b:Int):=(#[.agg (qN a b),.bool true]:Array Value)
abbrev Q1:=([.int .i64 0,.int .i64 0,.int .i64 0,.int .i64 0]:List Value)
abbrev E5:=([.int .i64 0,.int .i64 0,.int .i64 0,.bool false]:List Value)
abbrev EY(a:Int)(b:Nat):=(.agg #[.int .i64 a,.pointer (some ⟨b,0,none⟩)]:Value)
abbrev QZ(a:Nat):=(.func (.func 198) (Zg a) #[]:Value)
abbrev QF(a:Nat):=(.func (.func 197) (Zg a) #[]:Value)
abbrev Qh a b:=(gR a .u64 p_ b:gi)
abbrev nK(a:Nat)(b:Int) c d:=([.pointer (some ⟨a,0,none⟩),.int .i64 b,c,d]:List Value)
abbrev zU(a b c d:Int):=([.int .i64 a,.int .i64 b,.int .i64 c,.int .i64 d]:List Value)
abbrev Z2(a:Nat)(b c:Int):=(#[.pointer (some ⟨a,0,none⟩),.int .i64 b,.int .i64 c]:Array Value)
abbrev JK(a:Nat) b c:=(.agg #[.pointer none,.pointer (some ⟨a,0,none⟩),b,c]:Value)
abbrev wV(a b:Nat):=([.pointer (some ⟨a,0,none⟩),.pointer (some ⟨b,0,none⟩)]:List Value)
abbrev Fc(a b:Nat):=(#[.pointer (some ⟨a,0,none⟩),.pointer (some ⟨b,0,none⟩)]:Array Value)
abbrev wN(a b c d:Int):=(.agg #[.int .i64 a,.int .i64 b,.int .i64 c,.int .i64 d]:Value)
abbrev QD(a b:Nat):=(#[.pointer none,.slice (some ⟨a,0,none⟩) b b,.int .i64 0]:Array Value)
abbrev QK(a b c d:Int):=(#[.agg #[.int .i64 a,.int .i64 b,.int .i64 c,.int .i64 d]]:Array Value)
abbrev Zo(a:Lv):=([.int .u64 a.u,.int .u64 a.v,.int .i64 a.wt,.int .i64 a.t]:List Value)
abbrev Q8 a (b c:Nat):=(#[a,.pointer (some ⟨b,0,none⟩),.pointer (some ⟨c,0,none⟩)]:Array Value)
abbrev Qv(a:Int) b (c d:Nat):=([.pointer none,.int .i64 a,b,.slice (some ⟨c,0,none⟩) d d]:List Value)
abbrev sU(a:Lv):=(.agg #[.int .u64 a.u,.int .u64 a.v,.int .i64 a.wt,.int .i64 a.t]:Value)
abbrev JZ(a:Int) b (c d:Nat):=(.agg #[.pointer none,.int .i64 a,b,.slice (some ⟨c,0,none⟩) d d]:Value)
abbrev Z7(a b:Nat)(c:TW):=([.pointer (some ⟨a,0,none⟩),.pointer (some ⟨b,0,none⟩),c.iv,c.cv]:List Value)
abbrev Zm(a b c:Nat)(d:Int):=([.pointer (some ⟨a,0,none⟩),.slice (some ⟨b,0,none⟩) c c,.int .i64 d]:List Value)
abbrev QT(a:Int)(b c:Nat):=(#[.pointer none,.int .i64 a,.slice none 0 0,.slice (some ⟨b,0,none⟩) c c]:Array Value)
abbrev Fk(a:Nat)(b:Int) c (d e:Nat):=([.pointer (some ⟨a,0,none⟩),.int .i64 b,c,.slice (some ⟨d,0,none⟩) e e]:List Value)
abbrev QG(a:Int):=(#[.pointer none,.slice none 0 0,.int .i64 a,.int .i64 0,.int .i64 0,.int .i64 (-1)]:Array Value)
abbrev Zu:=([.int .i64 0,.int .u64 0,.int .u64 0,.int .u64 0,.int .i64 0,.int .i64 0,.int .i64 0]:List Value)
abbrev JL:=(#[.int .i64 0,.int .u64 0,.int .u64 0,.int .u64 0,.int .i64 0,.int .i64 0,.int .i64 0]:Array Value)
abbrev Rh(a b c:Nat):=([.pointer (some ⟨a,0,none⟩),.pointer (some ⟨b,0,none⟩),.pointer (some ⟨c,0,none⟩)]:List Value)
abbrev zQ(a b c:Nat)(d:Int):=(blk a 250 (Zm a b c d):gi)
abbrev Qx(a:Nat)(b:Int)(c d:Nat):=([.pointer (some ⟨a,0,none⟩),.int .i64 b,.slice none 0 0,.slice (some ⟨c,0,none⟩) d d]:List Value)
abbrev QW(a b c:Nat):=(#[.pointer none,.pointer (some ⟨a,0,none⟩),.slice none 0 0,.slice (some ⟨b,0,none⟩) c c]:Array Value)
abbrev vC(a:Nat) b (c:As) (d:Int):=([.pointer (some ⟨a,0,none⟩),b,.int .i64 c.n,.int .i64 d,.int .i64 c.used,.int .i64 c.last]:List Value)
abbrev BU(a:Nat)(b:Lv):=(#[.pointer (some ⟨a,0,none⟩),.agg #[.int .u64 b.u,.int .u64 b.v,.int .i64 b.wt,.int .i64 b.t]]:Array Value)
abbrev J3(a:Nat) b (c:As) (d:Int):=([.pointer (some ⟨a,0,none⟩),b,.int .i64 c.n,.int .i64 c.begun,.int .i64 c.used,.int .i64 d]:List Value)
abbrev Q9(a:As):=(#[.pointer none,.slice none 0 0,.int .i64 a.n,.int .i64 a.begun,.int .i64 a.used,.int .i64 a.last]:Array Value)
abbrev Zy(a:Nat) b (c:As):=([.pointer (some ⟨a,0,none⟩),b,.int .i64 c.n,.int .i64 c.begun,.int .i64 c.used,.int .i64 c.last]:List Value)
abbrev Q0(a b:Int)(c d:Nat) e:=(#[.int .i64 a,.int .i64 b,.pointer (some ⟨c,0,none⟩),.pointer (some ⟨d,0,none⟩),.map e,.int .i64 0]:Array Value)
abbrev Z9(a b:Int)(c:Lv):=([.int .i64 a,.int .u64 b,.int .u64 c.u,.int .u64 c.v,.int .i64 c.wt,.int .i64 c.t,.int .i64 c.exp]:List Value)
abbrev QC(a b:Int)(c:Lv)(d:Int):=(.agg #[.int .i64 a,.int .u64 b,.int .u64 c.u,.int .u64 c.v,.int .i64 c.wt,.int .i64 c.t,.int .i64 d]:Value)
abbrev Fu(a b:Int)(c:Lv):=(.agg #[.int .i64 a,.int .u64 b,.int .u64 c.u,.int .u64 c.v,.int .i64 c.wt,.int .i64 c.t,.int .i64 c.exp]:Value)
abbrev w6(a b c:Int)(d e:Nat) f g:=([.int .i64 a,.int .i64 b,.int .u64 c,.pointer (some ⟨d,0,none⟩),.pointer (some ⟨e,0,none⟩),f,.map g]:List Value)
abbrev Z4(a:Lv):=([.int .i64 a.slot,.int .u64 a.seq,.int .u64 a.u,.int .u64 a.v,.int .i64 a.wt,.int .i64 a.t,.int .i64 a.exp]:List Value)
abbrev QM(a:Nat)(b:As):=([.pointer (some ⟨a,0,none⟩),.slice none 0 0,.int .i64 b.n,.int .i64 b.begun,.int .i64 b.used,.int .i64 b.last]:List Value)
abbrev J1 a (b:Nat) (c:Int) (d:Nat) (e:Bool) (f g h:Nat) (i:Int):=([a,blk b 3 (Zf c),blk d 4 [.bool e],blk f 98 (Zi g),blk h 34 (Zt i)]:List gi)
abbrev Aa(a b:Int)(c:GW) d:=([.int .i64 a,.int .i64 b,.pointer (some ⟨c.fb,0,none⟩),.pointer (some ⟨c.hb,0,none⟩),.map d,.int .i64 c.trees]:List Value)
abbrev wK(a b c:Int)(d:fW) e f:=([.int .i64 a,.int .i64 b,.int .u64 c,.pointer (some ⟨d.iN,0,none⟩),.pointer (some ⟨d.tb,0,none⟩),e,.map f]:List Value)
abbrev Rg(a b c:Nat)(d:List Nd):=([blk a 250 [.pointer (some ⟨a,0,none⟩),.slice (some ⟨b,0,none⟩) c c,.int .i64 0],blk b 254 (d.flatMap Nd.cells)]:List gi)
abbrev Ai(a:Lv):=(.agg #[.int .i64 a.slot,.int .u64 a.seq,.int .u64 a.u,.int .u64 a.v,.int .i64 a.wt,.int .i64 a.t,.int .i64 a.exp]:Value)
abbrev JE(a b:Int)(c d:Nat) e:=([.int .i64 a,.int .i64 b,.int .u64 0,.pointer (some ⟨c,0,none⟩),.pointer (some ⟨d,0,none⟩),.slice none 0 0,.map e]:List Value)
abbrev rH(a b c:Int)(d:fW) e:=([.int .i64 a,.int .i64 b,.int .u64 c,.pointer (some ⟨d.iN,0,none⟩),.pointer (some ⟨d.tb,0,none⟩),d.lv,.map e]:List Value)
abbrev J2(a b c:Nat)(d:Int)(e:List Nd):=([blk a 250 (Zm a b c d),blk b 254 (e.flatMap Nd.cells)]:List gi)
abbrev QB(a b:Int)(c d:Nat) e:=(#[.int .i64 a,.int .i64 b,.int .u64 0,.pointer (some ⟨c,0,none⟩),.pointer (some ⟨d,0,none⟩),.slice none 0 0,.map e]:Array Value)
abbrev Z5(a b:Int)(c:fW) d:=([.int .i64 a,.int .i64 b,.int .u64 c.last,.pointer (some ⟨c.iN,0,none⟩),.pointer (some ⟨c.tb,0,none⟩),c.lv,.map d]:List Value)
abbrev Zh(a b c:Nat)(d:Int)(e:List Nd):=(gG (J2 a b c d e):gi)
abbrev BQ(a b:Int)(c:Lv)(d:Int):=(.tuple #[.agg #[.int .i64 a,.int .u64 b,.int .u64 c.u,.int .u64 c.v,.int .i64 c.wt,.int .i64 c.t,.int .i64 d],.int .i64 0]:Value)
abbrev Qp(a b c d:Int):=(#[.int .i64 a,.int .i64 b,.int .i64 c,.int .i64 d,.pointer none,.pointer none,.pointer none,.pointer none,.int .u64 0,.int .u64 0]:Array Value)
abbrev Fj(a b:Nat)(c:TW) d:=([blk a 173 (Z7 a b c),fV gW c.iv 34 1 c.ids,fV gL c.cv 3 1 d]:List gi)
abbrev sQ(a:Nat)(b:Int) c d e f g:=([blk a 247 (nK a b c d),fV gj.cells c 139 2 e,fV gP d 266 1 f,gH gL 268 64 f g]:List gi)
abbrev B7(a b:Nat)(c:TW):=([blk a 173 (Z7 a b c),fV gW c.iv 34 1 c.ids,fV gL c.cv 3 1 c.cs]:List gi)
abbrev FD(a b:Nat)(c:TW) d:=(gG (Fj a b c d):gi)
abbrev Ze(a:Nat)(b:Int) c d e f g:=(gG (sQ a b c d e f g):gi)
abbrev Z3(a b:Nat)(c:TW):=(gG (B7 a b c):gi)
abbrev Ae(a:Nat) b (c d e f:Int) g h:=(gG [blk a 167 [.pointer (some ⟨a,0,none⟩),b,.int .i64 c,.int .i64 d,.int .i64 e,.int .i64 f],fV gP b 257 1 g,gH gO.cells 262 64 g h]:gi)
abbrev Q3(a:Nat) b (c:As) (d:Int) e f:=([blk a 167 (vC a b c d),fV gP b 257 1 e,gH gO.cells 262 64 e f]:List gi)
abbrev QL(a:Nat) b (c d e:Int) (f:As):=(gG [blk a 167 [.pointer (some ⟨a,0,none⟩),b,.int .i64 c,.int .i64 d,.int .i64 e,.int .i64 f.last],fV gP b 257 1 f.ps,gH gO.cells 262 64 f.ps f.sl]:gi)
abbrev Aj a (b c d e:Nat) (f:Int) (g:List Nd):=([a,blk b 141 (Zi c),blk c 250 (Zm c d e f),blk d 254 (g.flatMap Nd.cells)]:List gi)
abbrev Q7(a:Nat) b (c:As) (d:Int):=([blk a 167 (vC a b c d),fV gP b 257 1 c.ps,gH gO.cells 262 64 c.ps c.sl]:List gi)
abbrev Qf(a:Nat)(b:Int):=([gH gO.cells 262 64 ([]) ([]),fV gP Zk 257 1 ([]),blk a 167 [.pointer (some ⟨a,0,none⟩),.slice none 0 0,.int .i64 b,.int .i64 0,.int .i64 0,.int .i64 (-1)]]:List gi)
abbrev Av(a:Nat) b (c:As):=([blk a 167 (Zy a b c),fV gP b 257 1 c.ps,gH gO.cells 262 64 c.ps c.sl]:List gi)
abbrev Zp(a:Nat) b (c:As):=(gG (Av a b c):gi)
abbrev Qy(a:Nat) b (c:As) d e:=([blk a 167 (Zy a b c),fV gP b 257 1 c.ps,gH gO.cells 262 64 c.ps c.sl,iA .i64 d 3 e]:List gi)
abbrev QJ(a:Nat):=(#[.pointer (some ⟨a,0,none⟩),.bool false,.int .u64 0,.slice none 0 0,.int .i64 0,.slice none 0 0,.slice none 0 0,.slice none 0 0,.slice none 0 0,.slice none 0 0,.pointer none,.pointer none,.int .i64 0]:Array Value)
abbrev QX(a b c d:Nat)(e:Int)(f:List Nd) g h (i:Nat):=([blk a 141 (Zi b),blk b 250 (Zm b c d e),blk c 254 (f.flatMap Nd.cells),iA .i64 g 3 h,blk i 62 [g]]:List gi)
abbrev JD(a:Nat)(b:Int)(c d:Nat)(e:Int) f g h i j:=([blk a 3 (Zf b),blk c 144 (Zi d),blk d 247 (nK d e f g),fV gj.cells f 139 2 h,fV gP g 266 1 i,gH gL 268 64 i j]:List gi)
abbrev vq(a:Nat)(b:Int)(c d:Nat)(e:Int) f g h i j:=(gG (JD a b c d e f g h i j):gi)
abbrev Al(a b:Nat):=(blk a 71 [.pointer (some ⟨b,0,none⟩),.bool false,.int .u64 0,.slice none 0 0,.int .i64 0,.slice none 0 0,.slice none 0 0,.slice none 0 0,.slice none 0 0,.slice none 0 0,.pointer none,.pointer none,.int .i64 0]:gi)
abbrev ER a (b c:Nat) (d:TW) (e f:Nat) (g:Int):=(gG [a,blk b 173 (Z7 b c d),fV gW d.iv 34 1 d.ids,fV gL d.cv 3 1 d.cs,blk e 98 (Zi b),blk f 34 (Zt g)]:gi)
abbrev sP(a b c d:Int)(e:WW):=([.int .i64 a,.int .i64 b,.int .i64 c,.int .i64 d,.pointer (some ⟨e.cb,0,none⟩),.pointer (some ⟨e.ub,0,none⟩),.pointer (some ⟨e.sb,0,none⟩),.pointer (some ⟨e.ob,0,none⟩),.int .u64 e.added,.int .u64 e.vV]:List Value)
abbrev Qt(a:Nat)(b:Int) c d e f g (h:Nat) i (j k:Nat) l:=([blk a 247 (nK a b c d),fV gj.cells c 139 2 e,fV gP d 266 1 f,gH gL 268 64 f g,blk h 247 (Fk h b i j k),fV gj.cells i 139 2 e,fV gP (Zs j k) 266 1 l,gH gL 268 64 l g]:List gi)
abbrev Q4(a:Nat) b (c:As) (d:Nat) e f:=(gG [blk a 167 (Zy a b c),fV gP b 257 1 c.ps,gH gO.cells 262 64 c.ps c.sl,blk d 167 (Zy d e c),fV gP e 257 1 f,gH gO.cells 262 64 f c.sl]:gi)
abbrev Jz:=([.int .i64 0,.int .i64 0,.int .i64 0,.int .i64 0,.int .i64 0,.int .i64 0,.int .i64 0,.int .i64 0,.int .i64 0,.int .i64 0,.int .i64 0,.int .i64 0,.int .i64 0,.int .i64 0,.int .i64 0,.int .i64 0,.int .i64 0,.int .i64 0,.int .i64 0,.int .i64 0,.int .i64 0,.int .i64 0,.int .i64 0,.int .i64 0,.int .i64 0,.int .i64 0,.int .i64 0,.int .i64 0,.int .i64 0,.int .i64 0,.int .i64 0,.int .i64 0,.int .i64 0,.int .i64 0,.int .i64 0,.int .i64 0,.int .i64 0,.int .i64 0,.int .i64 0,.int .i64 0,.int .i64 0,.int .i64 0,.int .i64 0,.int .i64 0,.int .i64 0,.int .i64 0,.int .i64 0,.int .i64 0,.int .i64 0,.int .i64 0,.int .i64 0,.int .i64 0,.int .i64 0,.int .i64 0,.int .i64 0,.int .i64 0,.int .i64 0,.int .i64 0,.int .i64 0,.int .i64 0,.int .i64 0,.int .i64 0,.int .i64 0,.int .i64 0]:List Value)
abbrev BZ:=([.int .i64 0,.int .i64 0,.int .u64 0,.int .i64 0,.int .i64 0,.int .u64 0,.int .i64 0,.int .i64 0,.int .u64 0,.int .i64 0,.int .i64 0,.int .u64 0,.int .i64 0,.int .i64 0,.int .u64 0,.int .i64 0,.int .i64 0,.int .u64 0,.int .i64 0,.int .i64 0,.int .u64 0,.int .i64 0,.int .i64 0,.int .u64 0,.int .i64 0,.int .i64 0,.int .u64 0,.int .i64 0,.int .i64 0,.int .u64 0,.int .i64 0,.int .i64 0,.int .u64 0,.int .i64 0,.int .i64 0,.int .u64 0,.int .i64 0,.int .i64 0,.int .u64 0,.int .i64 0,.int .i64 0,.int .u64 0,.int .i64 0,.int .i64 0,.int .u64 0,.int .i64 0,.int .i64 0,.int .u64 0,.int .i64 0,.int .i64 0,.int .u64 0,.int .i64 0,.int .i64 0,.int .u64 0,.int .i64 0,.int .i64 0,.int .u64 0,.int .i64 0,.int .i64 0,.int .u64 0,.int .i64 0,.int .i64 0,.int .u64 0,.int .i64 0,.int .i64 0,.int .u64 0,.int .i64 0,.int .i64 0,.int .u64 0,.int .i64 0,.int .i64 0,.int .u64 0,.int .i64 0,.int .i64 0,.int .u64 0,.int .i64 0,.int .i64 0,.int .u64 0,.int .i64 0,.int .i64 0,.int .u64 0,.int .i64 0,.int .i64 0,.int .u64 0,.int .i64 0,.int .i64 0,.int .u64 0,.int .i64 0,.int .i64 0,.int .u64 0,.int .i64 0,.int .i64 0,.int .u64 0,.int .i64 0,.int .i64 0,.int .u64 0,.int .i64 0,.int .i64 0,.int .u64 0,.int .i64 0,.int .i64 0,.int .u64 0,.int .i64 0,.int .i64 0,.int .u64 0,.int .i64 0,.int .i64 0,.int .u64 0,.int .i64 0,.int .i64 0,.int .u64 0,.int .i64 0,.int .i64 0,.int .u64 0,.int .i64 0,.int .i64 0,.int .u64 0,.int .i64 0,.int .i64 0,.int .u64 0,.int .i64 0,.int .i64 0,.int .u64 0,.int .i64 0,.int .i64 0,.int .u64 0,.int .i64 0,.int .i64 0,.int .u64 0,.int .i64 0,.int .i64 0,.int .u64 0,.int .i64 0,.int .i64 0,.int .u64 0,.int .i64 0,.int .i64 0,.int .u64 0,.int .i64 0,.int .i64 0,.int .u64 0,.int .i64 0,.int .i64 0,.int .u64 0,.int .i64 0,.int .i64 0,.int .u64 0,.int .i64 0,.int .i64 0,.int .u64 0,.int .i64 0,.int .i64 0,.int .u64 0,.int .i64 0,.int .i64 0,.int .u64 0,.int .i64 0,.int .i64 0,.int .u64 0,.int .i64 0,.int .i64 0,.int .u64 0,.int .i64 0,.int .i64 0,.int .u64 0,.int .i64 0,.int .i64 0,.int .u64 0,.int .i64 0,.int .i64 0,.int .u64 0,.int .i64 0,.int .i64 0,.int .u64 0,.int .i64 0,.int .i64 0,.int .u64 0,.int .i64 0,.int .i64 0,.int .u64 0,.int .i64 0,.int .i64 0,.int .u64 0,.int .i64 0,.int .i64 0,.int .u64 0,.int .i64 0,.int .i64 0,.int .u64 0,.int .i64 0,.int .i64 0,.int .u64 0]:List Value)
abbrev Qj a (b c:Nat) d (e:As) f g:=([a,blk b 262 BZ,blk c 167 (Zy c d e),fV gP f 257 1 g,gH gO.cells 262 64 e.ps e.sl]:List gi)
end
section
open Go Go.Sx
theorem ti2:(ya.info? 2).map (fun i=>(i.size,i.bytes,i.zero))=some (1,8,some (.int .i64 0)):=by kernel_rfl
theorem gq:(ya.info? 3).map (fun i=>(i.size,i.bytes,i.zero))=some (1,8,some (.int .i64 0)):=by kernel_rfl
theorem qM:(ya.info? 4).map (fun i=>(i.size,i.bytes,i.zero))=some (1,1,some (.bool false)):=by kernel_rfl
theorem FA:(ya.info? 5).map (fun i=>(i.size,i.bytes,i.zero))=some (1,1,some (.int .u8 0)):=by kernel_rfl
theorem Qe:(ya.info? 23).map (fun i=>(i.size,i.bytes,i.zero))=some (1,8,some (.pointer none)):=by kernel_rfl
theorem yX:(ya.info? 27).map (fun i=>(i.size,i.bytes,i.zero))=some (1,24,some (.slice none 0 0)):=by kernel_rfl
theorem EA:(ya.info? 31).map (fun i=>(i.size,i.bytes,i.zero))=some (1,24,some (.slice none 0 0)):=by kernel_rfl
theorem iK:(ya.info? 34).map (fun i=>(i.size,i.bytes,i.zero))=some (1,8,some (.int .u64 0)):=by kernel_rfl
theorem wu:(ya.info? 38).map (fun i=>(i.size,i.bytes,i.zero))=some (3,24,some (.agg #[(.int .i64 0),(.int .i64 0),(.int .i64 0)])):=by kernel_rfl
theorem rm:(ya.info? 40).map (fun i=>(i.size,i.bytes,i.zero))=some (4,32,some (.agg #[(.int .u64 0),(.int .u64 0),(.int .i64 0),(.int .i64 0)])):=by kernel_rfl
theorem jq:(ya.info? 42).map (fun i=>(i.size,i.bytes,i.zero))=some (7,56,some (.agg #[(.int .i64 0),(.int .u64 0),(.int .u64 0),(.int .u64 0),(.int .i64 0),(.int .i64 0),(.int .i64 0)])):=by kernel_rfl
theorem I8:(ya.info? 45).map (fun i=>(i.size,i.bytes,i.zero))=some (1,8,some (.int .i64 0)):=by kernel_rfl
theorem Bw:(ya.info? 49).map (fun i=>(i.size,i.bytes,i.zero))=some (4,32,some (.agg #[(.int .i64 0),(.int .i64 0),(.int .i64 0),(.int .i64 0)])):=by kernel_rfl
theorem P7:(ya.info? 53).map (fun i=>(i.size,i.bytes,i.zero))=some (1,1,some (.int .i8 0)):=by kernel_rfl
theorem yQ:(ya.info? 55).map (fun i=>(i.size,i.bytes,i.zero))=some (5,5,some (.agg #[(.bool false),(.int .u8 0),(.int .u8 0),(.int .i8 0),(.int .u8 0)])):=by kernel_rfl
theorem Pw:(ya.info? 61).map (fun i=>(i.size,i.bytes,i.zero))=some (2,16,some (.agg #[(.bool false),(.int .u64 0)])):=by kernel_rfl
theorem nH:(ya.info? 62).map (fun i=>(i.size,i.bytes,i.zero))=some (1,24,some (.slice none 0 0)):=by kernel_rfl
theorem PL:(ya.info? 69).map (fun i=>(i.size,i.bytes,i.zero))=some (9,168,some (.agg #[(.slice none 0 0),(.int .i64 0),(.slice none 0 0),(.slice none 0 0),(.slice none 0 0),(.slice none 0 0),(.slice none 0 0),(.pointer none),(.pointer none)])):=by kernel_rfl
theorem P0:(ya.info? 71).map (fun i=>(i.size,i.bytes,i.zero))=some (13,200,some (.agg #[(.pointer none),(.bool false),(.int .u64 0),(.slice none 0 0),(.int .i64 0),(.slice none 0 0),(.slice none 0 0),(.slice none 0 0),(.slice none 0 0),(.slice none 0 0),(.pointer none),(.pointer none),(.int .i64 0)])):=by kernel_rfl
theorem Py:(ya.info? 72).map (fun i=>(i.size,i.bytes,i.zero))=some (1,8,some (.pointer none)):=by kernel_rfl
theorem Jl:(ya.info? 73).map (fun i=>(i.size,i.bytes,i.zero))=some (1,8,some (.pointer none)):=by kernel_rfl
theorem Jk:(ya.info? 74).map (fun i=>(i.size,i.bytes,i.zero))=some (1,8,some (.pointer none)):=by kernel_rfl
theorem PG:(ya.info? 75).map (fun i=>(i.size,i.bytes,i.zero))=some (1,8,some (.pointer none)):=by kernel_rfl
theorem P8:(ya.info? 77).map (fun i=>(i.size,i.bytes,i.zero))=some (10,80,some (.agg #[(.int .i64 0),(.int .i64 0),(.int .i64 0),(.int .i64 0),(.pointer none),(.pointer none),(.pointer none),(.pointer none),(.int .u64 0),(.int .u64 0)])):=by kernel_rfl
theorem BI:(ya.info? 87).map (fun i=>(i.size,i.bytes,i.zero))=some (2,16,some (.agg #[(.int .u64 0),(.int .u64 0)])):=by kernel_rfl
theorem BG:(ya.info? 97).map (fun i=>(i.size,i.bytes,i.zero))=some (1,8,some (.pointer none)):=by kernel_rfl
theorem Jb:(ya.info? 98).map (fun i=>(i.size,i.bytes,i.zero))=some (1,8,some (.pointer none)):=by kernel_rfl
theorem qx:(ya.info? 99).map (fun i=>(i.size,i.bytes,i.zero))=some (1,8,some (.map none)):=by kernel_rfl
theorem D9:(ya.info? 101).map (fun i=>(i.size,i.bytes,i.zero))=some (7,72,some (.agg #[(.int .i64 0),(.int .i64 0),(.int .u64 0),(.pointer none),(.pointer none),(.slice none 0 0),(.map none)])):=by kernel_rfl
theorem IC:(ya.info? 123).map (fun i=>(i.size,i.bytes,i.zero))=some (4,32,some (.agg #[(.int .i64 0),(.int .i64 0),(.int .i64 0),(.int .i64 0)])):=by kernel_rfl
theorem O7:(ya.info? 132).map (fun i=>(i.size,i.bytes,i.zero))=some (1,8,some (.int .i64 0)):=by kernel_rfl
theorem OG:(ya.info? 134).map (fun i=>(i.size,i.bytes,i.zero))=some (2,16,some (.agg #[(.int .i64 0),(.int .i64 0)])):=by kernel_rfl
theorem iy:(ya.info? 139).map (fun i=>(i.size,i.bytes,i.zero))=some (2,16,some (.agg #[(.int .i64 0),(.int .i64 0)])):=by kernel_rfl
theorem I6:(ya.info? 141).map (fun i=>(i.size,i.bytes,i.zero))=some (1,8,some (.pointer none)):=by kernel_rfl
theorem II:(ya.info? 143).map (fun i=>(i.size,i.bytes,i.zero))=some (1,8,some (.agg #[(.pointer none)])):=by kernel_rfl
theorem Bm:(ya.info? 144).map (fun i=>(i.size,i.bytes,i.zero))=some (1,8,some (.pointer none)):=by kernel_rfl
theorem O5:(ya.info? 145).map (fun i=>(i.size,i.bytes,i.zero))=some (1,8,some (.map none)):=by kernel_rfl
theorem O9:(ya.info? 147).map (fun i=>(i.size,i.bytes,i.zero))=some (6,48,some (.agg #[(.int .i64 0),(.int .i64 0),(.pointer none),(.pointer none),(.map none),(.int .i64 0)])):=by kernel_rfl
theorem qY:(ya.info? 150).map (fun i=>(i.size,i.bytes,i.zero))=some (4,32,some (.agg #[(.int .i64 0),(.int .i64 0),(.int .i64 0),(.bool false)])):=by kernel_rfl
theorem Ei:(ya.info? 165).map (fun i=>(i.size,i.bytes,i.zero))=some (1,24,some (.slice none 0 0)):=by kernel_rfl
theorem Ef:(ya.info? 167).map (fun i=>(i.size,i.bytes,i.zero))=some (6,64,some (.agg #[(.pointer none),(.slice none 0 0),(.int .i64 0),(.int .i64 0),(.int .i64 0),(.int .i64 0)])):=by kernel_rfl
theorem D7:(ya.info? 173).map (fun i=>(i.size,i.bytes,i.zero))=some (4,64,some (.agg #[(.pointer none),(.pointer none),(.slice none 0 0),(.slice none 0 0)])):=by kernel_rfl
theorem IW:(ya.info? 200).map (fun i=>(i.size,i.bytes,i.zero))=some (2,16,some (.agg #[(.int .i64 0),(.pointer none)])):=by kernel_rfl
theorem O2:(ya.info? 207).map (fun i=>(i.size,i.bytes,i.zero))=some (3,24,some (.agg #[(.int .i64 0),(.int .i64 0),(.int .u64 0)])):=by kernel_rfl
theorem IJ:(ya.info? 244).map (fun i=>(i.size,i.bytes,i.zero))=some (1,24,some (.slice none 0 0)):=by kernel_rfl
theorem tA:(ya.info? 245).map (fun i=>(i.size,i.bytes,i.zero))=some (1,24,some (.slice none 0 0)):=by kernel_rfl
theorem Eh:(ya.info? 247).map (fun i=>(i.size,i.bytes,i.zero))=some (4,64,some (.agg #[(.pointer none),(.int .i64 0),(.slice none 0 0),(.slice none 0 0)])):=by kernel_rfl
theorem OY:(ya.info? 248).map (fun i=>(i.size,i.bytes,i.zero))=some (1,24,some (.slice none 0 0)):=by kernel_rfl
theorem I3:(ya.info? 250).map (fun i=>(i.size,i.bytes,i.zero))=some (3,40,some (.agg #[(.pointer none),(.slice none 0 0),(.int .i64 0)])):=by kernel_rfl
theorem lD:(ya.info? 252).map (fun i=>(i.size,i.bytes,i.zero))=some (2,16,some (.agg #[(.int .i64 0),(.int .i64 0)])):=by kernel_rfl
theorem iS:(ya.info? 254).map (fun i=>(i.size,i.bytes,i.zero))=some (9,72,some (.agg #[(.int .i64 0),(.int .i64 0),(.int .i64 0),(.bool false),(.int .i64 0),(.int .i64 0),(.int .i64 0),(.int .i64 0),(.int .i64 0)])):=by kernel_rfl
theorem wh:(ya.info? 257).map (fun i=>(i.size,i.bytes,i.zero))=some (1,8,some (.pointer none)):=by kernel_rfl
theorem Bo:(ya.info? 262).map (fun i=>(i.size,i.bytes,i.zero))=some (192,1536,some (.agg #[(.int .i64 0),(.int .i64 0),(.int .u64 0),(.int .i64 0),(.int .i64 0),(.int .u64 0),(.int .i64 0),(.int .i64 0),(.int .u64 0),(.int .i64 0),(.int .i64 0),(.int .u64 0),(.int .i64 0),(.int .i64 0),(.int .u64 0),(.int .i64 0),(.int .i64 0),(.int .u64 0),(.int .i64 0),(.int .i64 0),(.int .u64 0),(.int .i64 0),(.int .i64 0),(.int .u64 0),(.int .i64 0),(.int .i64 0),(.int .u64 0),(.int .i64 0),(.int .i64 0),(.int .u64 0),(.int .i64 0),(.int .i64 0),(.int .u64 0),(.int .i64 0),(.int .i64 0),(.int .u64 0),(.int .i64 0),(.int .i64 0),(.int .u64 0),(.int .i64 0),(.int .i64 0),(.int .u64 0),(.int .i64 0),(.int .i64 0),(.int .u64 0),(.int .i64 0),(.int .i64 0),(.int .u64 0),(.int .i64 0),(.int .i64 0),(.int .u64 0),(.int .i64 0),(.int .i64 0),(.int .u64 0),(.int .i64 0),(.int .i64 0),(.int .u64 0),(.int .i64 0),(.int .i64 0),(.int .u64 0),(.int .i64 0),(.int .i64 0),(.int .u64 0),(.int .i64 0),(.int .i64 0),(.int .u64 0),(.int .i64 0),(.int .i64 0),(.int .u64 0),(.int .i64 0),(.int .i64 0),(.int .u64 0),(.int .i64 0),(.int .i64 0),(.int .u64 0),(.int .i64 0),(.int .i64 0),(.int .u64 0),(.int .i64 0),(.int .i64 0),(.int .u64 0),(.int .i64 0),(.int .i64 0),(.int .u64 0),(.int .i64 0),(.int .i64 0),(.int .u64 0),(.int .i64 0),(.int .i64 0),(.int .u64 0),(.int .i64 0),(.int .i64 0),(.int .u64 0),(.int .i64 0),(.int .i64 0),(.int .u64 0),(.int .i64 0),(.int .i64 0),(.int .u64 0),(.int .i64 0),(.int .i64 0),(.int .u64 0),(.int .i64 0),(.int .i64 0),(.int .u64 0),(.int .i64 0),(.int .i64 0),(.int .u64 0),(.int .i64 0),(.int .i64 0),(.int .u64 0),(.int .i64 0),(.int .i64 0),(.int .u64 0),(.int .i64 0),(.int .i64 0),(.int .u64 0),(.int .i64 0),(.int .i64 0),(.int .u64 0),(.int .i64 0),(.int .i64 0),(.int .u64 0),(.int .i64 0),(.int .i64 0),(.int .u64 0),(.int .i64 0),(.int .i64 0),(.int .u64 0),(.int .i64 0),(.int .i64 0),(.int .u64 0),(.int .i64 0),(.int .i64 0),(.int .u64 0),(.int .i64 0),(.int .i64 0),(.int .u64 0),(.int .i64 0),(.int .i64 0),(.int .u64 0),(.int .i64 0),(.int .i64 0),(.int .u64 0),(.int .i64 0),(.int .i64 0),(.int .u64 0),(.int .i64 0),(.int .i64 0),(.int .u64 0),(.int .i64 0),(.int .i64 0),(.int .u64 0),(.int .i64 0),(.int .i64 0),(.int .u64 0),(.int .i64 0),(.int .i64 0),(.int .u64 0),(.int .i64 0),(.int .i64 0),(.int .u64 0),(.int .i64 0),(.int .i64 0),(.int .u64 0),(.int .i64 0),(.int .i64 0),(.int .u64 0),(.int .i64 0),(.int .i64 0),(.int .u64 0),(.int .i64 0),(.int .i64 0),(.int .u64 0),(.int .i64 0),(.int .i64 0),(.int .u64 0),(.int .i64 0),(.int .i64 0),(.int .u64 0),(.int .i64 0),(.int .i64 0),(.int .u64 0),(.int .i64 0),(.int .i64 0),(.int .u64 0),(.int .i64 0),(.int .i64 0),(.int .u64 0),(.int .i64 0),(.int .i64 0),(.int .u64 0)])):=by kernel_rfl
theorem pI:(ya.info? 266).map (fun i=>(i.size,i.bytes,i.zero))=some (1,8,some (.pointer none)):=by kernel_rfl
theorem Bt:(ya.info? 268).map (fun i=>(i.size,i.bytes,i.zero))=some (64,512,some (.agg #[(.int .i64 0),(.int .i64 0),(.int .i64 0),(.int .i64 0),(.int .i64 0),(.int .i64 0),(.int .i64 0),(.int .i64 0),(.int .i64 0),(.int .i64 0),(.int .i64 0),(.int .i64 0),(.int .i64 0),(.int .i64 0),(.int .i64 0),(.int .i64 0),(.int .i64 0),(.int .i64 0),(.int .i64 0),(.int .i64 0),(.int .i64 0),(.int .i64 0),(.int .i64 0),(.int .i64 0),(.int .i64 0),(.int .i64 0),(.int .i64 0),(.int .i64 0),(.int .i64 0),(.int .i64 0),(.int .i64 0),(.int .i64 0),(.int .i64 0),(.int .i64 0),(.int .i64 0),(.int .i64 0),(.int .i64 0),(.int .i64 0),(.int .i64 0),(.int .i64 0),(.int .i64 0),(.int .i64 0),(.int .i64 0),(.int .i64 0),(.int .i64 0),(.int .i64 0),(.int .i64 0),(.int .i64 0),(.int .i64 0),(.int .i64 0),(.int .i64 0),(.int .i64 0),(.int .i64 0),(.int .i64 0),(.int .i64 0),(.int .i64 0),(.int .i64 0),(.int .i64 0),(.int .i64 0),(.int .i64 0),(.int .i64 0),(.int .i64 0),(.int .i64 0),(.int .i64 0)])):=by kernel_rfl
theorem aaC:mJ ya 38 [(0,1),(1,1),(2,1)]:=⟨_,Tryz.underlying38,fun w=>by simp[TI.size ti2,TI.size gq]⟩
theorem aaH:mJ ya 40 [(0,1),(1,1),(2,1),(3,1)]:=⟨_,ry,fun w=>by simp[TI.size ti2,TI.size iK]⟩
theorem I9:mJ ya 42 [(0,1),(1,1),(2,4),(6,1)]:=⟨_,oW,fun w=>by simp[TI.size ti2,TI.size gq,TI.size iK,TI.size rm]⟩
theorem aaA:mJ ya 49 [(0,1),(1,1),(2,1),(3,1)]:=⟨_,EU,fun w=>by simp[TI.size ti2,TI.size gq]⟩
theorem aa2:mJ ya 71 [(0,1),(1,2),(3,9),(12,1)]:=⟨_,Tryz.underlying71,fun w=>by simp[TI.size Qe,TI.size gq,TI.size Pw,TI.size PL]⟩
theorem aa3:mJ ya 77 [(0,4),(4,1),(5,1),(6,1),(7,1),(8,1),(9,1)]:=⟨_,FB,fun w=>by simp[TI.size iK,TI.size Bw,TI.size Py,TI.size Jl,TI.size Jk,TI.size PG]⟩
theorem YT:mJ ya 101 [(0,1),(1,1),(2,1),(3,1),(4,1),(5,1),(6,1)]:=⟨_,qB,fun w=>by simp[TI.size gq,TI.size EA,TI.size iK,TI.size BG,TI.size Jb,TI.size qx]⟩
theorem aav:mJ ya 134 [(0,1),(1,1)]:=⟨_,Tryz.underlying134,fun w=>by simp[TI.size O7,TI.size ti2]⟩
theorem Pe:mJ ya 139 [(0,1),(1,1)]:=⟨_,yu,fun w=>by simp[TI.size ti2,TI.size gq]⟩
theorem Y8:mJ ya 143 [(0,1)]:=⟨_,Tryz.underlying143,fun w=>by simp[TI.size I6]⟩
theorem Y6:mJ ya 147 [(0,1),(1,1),(2,1),(3,1),(4,1),(5,1)]:=⟨_,Tryz.underlying147,fun w=>by simp[TI.size II,TI.size Bm,TI.size O5,TI.size gq]⟩
theorem ZR:mJ ya 150 [(0,1),(1,1),(2,1),(3,1)]:=⟨_,Tryz.underlying150,fun w=>by simp[TI.size ti2,TI.size gq,TI.size qM]⟩
theorem OK:mJ ya 167 [(0,1),(1,1),(2,1),(3,1),(4,1),(5,1)]:=⟨_,Tryz.underlying167,fun w=>by simp[TI.size Ei,TI.size gq,TI.size BG]⟩
theorem O8:mJ ya 173 [(0,1),(1,1),(2,1),(3,1)]:=⟨_,wX,fun w=>by simp[TI.size yX,TI.size nH,TI.size BG,TI.size Jb]⟩
theorem Oy:mJ ya 200 [(0,1),(1,1)]:=⟨_,E9,fun w=>by simp[TI.size Bm,TI.size gq]⟩
theorem Pk:mJ ya 247 [(0,1),(1,1),(2,1),(3,1)]:=⟨_,ug,fun w=>by simp[TI.size Bm,TI.size IJ,TI.size tA,TI.size gq]⟩
theorem ZY:mJ ya 250 [(0,1),(1,1),(2,1)]:=⟨_,Tryz.underlying250,fun w=>by simp[TI.size I6,TI.size OY,TI.size gq]⟩
theorem aaP:gz ya 4:=enters_of Tryz.func4 k_ rfl
theorem aaN:gz ya 5:=enters_of Tryz.func5 k_ rfl
theorem P3:gz ya 6:=enters_of Tryz.func6 k_ rfl
theorem aaG:gz ya 7:=enters_of Tryz.func7 k_ rfl
theorem Qa:gz ya 8:=enters_of Tryz.func8 k_ rfl
theorem aaJ:gz ya 9:=enters_of Tryz.func9 k_ rfl
theorem aas:gz ya 10:=enters_of Tryz.func10 k_ rfl
theorem Y1:gz ya 11:=enters_of Tryz.func11 k_ rfl
theorem aai:gz ya 12:=enters_of Tryz.func12 k_ rfl
theorem aad:gz ya 13:=enters_of Tryz.func13 k_ rfl
theorem OU:gz ya 14:=enters_of Tryz.func14 k_ rfl
theorem aap:gz ya 15:=enters_of Tryz.func15 k_ rfl
theorem OQ:gz ya 16:=enters_of Tryz.func16 k_ rfl
theorem ZJ:gz ya 17:=enters_of Tryz.func17 k_ rfl
theorem yM:gz ya 18:=enters_of Tryz.func18 k_ rfl
theorem aah:gz ya 19:=enters_of Tryz.func19 k_ rfl
theorem aag:gz ya 20:=enters_of Tryz.func20 k_ rfl
theorem YP:gz ya 24:=enters_of Tryz.func24 k_ rfl
theorem YY:gz ya 25:=enters_of Tryz.func25 k_ rfl
theorem ZH:gz ya 26:=enters_of Tryz.func26 k_ rfl
theorem Y5:gz ya 27:=enters_of Tryz.func27 k_ rfl
theorem OB:gz ya 28:=enters_of Tryz.func28 k_ rfl
theorem Y3:gz ya 29:=enters_of Tryz.func29 k_ rfl
theorem OE:gz ya 30:=enters_of Tryz.func30 k_ rfl
theorem O3:gz ya 31:=enters_of Tryz.func31 k_ rfl
theorem ZC:gz ya 32:=enters_of Tryz.func32 k_ rfl
theorem ZW:gz ya 33:=enters_of Tryz.func33 k_ rfl
theorem O6:gz ya 34:=enters_of Tryz.func34 k_ rfl
theorem yJ:gz ya 35:=enters_of Tryz.func35 k_ rfl
theorem Pn:gz ya 36:=enters_of Tryz.func36 k_ rfl
theorem ZU:gz ya 37:=enters_of Tryz.func37 k_ rfl
theorem YX:gz ya 40:=enters_of Tryz.func40 k_ rfl
theorem aan:gz ya 49:=enters_of Tryz.func49 k_ rfl
theorem aaa:gz ya 50:=enters_of Tryz.func50 k_ rfl
theorem YV:gz ya 51:=enters_of Tryz.func51 k_ rfl
theorem ZV:gz ya 52:=enters_of Tryz.func52 k_ rfl
theorem ZG:gz ya 53:=enters_of Tryz.func53 k_ rfl
theorem IK:gz ya 54:=enters_of Tryz.func54 k_ rfl
theorem Bp:gz ya 55:=enters_of Tryz.func55 k_ rfl
theorem ZT:gz ya 56:=enters_of Tryz.func56 k_ rfl
theorem Iu:gz ya 57:=enters_of Tryz.func57 k_ rfl
theorem OD:gz ya 58:=enters_of Tryz.func58 k_ rfl
theorem I5:gz ya 59:=enters_of Tryz.func59 k_ rfl
theorem OA:gz ya 60:=enters_of Tryz.func60 k_ rfl
theorem IZ:gz ya 61:=enters_of Tryz.func61 k_ rfl
theorem IL:gz ya 62:=enters_of Tryz.func62 k_ rfl
theorem IF:gz ya 63:=enters_of Tryz.func63 k_ rfl
theorem Pa:gz ya 64:=enters_of Tryz.func64 k_ rfl
theorem IX:gz ya 65:=enters_of Tryz.func65 k_ rfl
theorem OZ:gz ya 66:=enters_of Tryz.func66 k_ rfl
theorem YS:gz ya 67:=enters_of Tryz.func67 k_ rfl
theorem ZP:gz ya 68:=enters_of Tryz.func68 k_ rfl
theorem YN:gz ya 69:=enters_of Tryz.func69 k_ rfl
theorem OP:gz ya 70:=enters_of Tryz.func70 k_ rfl
theorem OS:gz ya 71:=enters_of Tryz.func71 k_ rfl
theorem ZN:gz ya 72:=enters_of Tryz.func72 k_ rfl
theorem ZA:gz ya 73:=enters_of Tryz.func73 k_ rfl
theorem Y4:gz ya 74:=enters_of Tryz.func74 k_ rfl
theorem uM:gz ya 75:=enters_of Tryz.func75 k_ rfl
theorem O1:gz ya 76:=enters_of Tryz.func76 k_ rfl
theorem aaw:gz ya 78:=enters_of Tryz.func78 k_ rfl
theorem aay:gz ya 79:=enters_of Tryz.func79 k_ rfl
theorem uL:gz ya 80:=enters_of Tryz.func80 k_ rfl
theorem Eb:gz ya 81:=enters_of Tryz.func81 k_ rfl
theorem ZQ:gz ya 82:=enters_of Tryz.func82 k_ rfl
theorem Pp:gz ya 91:=enters_of Tryz.func91 k_ rfl
theorem aak:gz ya 92:=enters_of Tryz.func92 k_ rfl
theorem OX:gz ya 93:=enters_of Tryz.func93 k_ rfl
theorem ZD:gz ya 94:=enters_of Tryz.func94 k_ rfl
theorem OH:gz ya 95:=enters_of Tryz.func95 k_ rfl
theorem ZL:gz ya 96:=enters_of Tryz.func96 k_ rfl
theorem xZ:gz ya 97:=enters_of Tryz.func97 k_ rfl
theorem ZS:gz ya 98:=enters_of Tryz.func98 k_ rfl
theorem OO:gz ya 99:=enters_of Tryz.func99 k_ rfl
theorem xQ:gz ya 100:=enters_of Tryz.func100 k_ rfl
theorem Bb:gz ya 101:=enters_of Tryz.func101 k_ rfl
theorem XT:gz ya 102:=enters_of Tryz.func102 k_ rfl
theorem Yf:gz ya 103:=enters_of Tryz.func103 k_ rfl
theorem Yu:gz ya 104:=enters_of Tryz.func104 k_ rfl
theorem DH:gz ya 105:=enters_of Tryz.func105 k_ rfl
theorem NM:gz ya 106:=enters_of Tryz.func106 k_ rfl
theorem Yc:gz ya 107:=enters_of Tryz.func107 k_ rfl
theorem X4:gz ya 108:=enters_of Tryz.func108 k_ rfl
theorem YB:gz ya 109:=enters_of Tryz.func109 k_ rfl
theorem Od:gz ya 110:=enters_of Tryz.func110 k_ rfl
theorem XX:gz ya 111:=enters_of Tryz.func111 k_ rfl
theorem NT:gz ya 112:=enters_of Tryz.func112 k_ rfl
theorem DG:gz ya 113:=enters_of Tryz.func113 k_ rfl
theorem XF:gz ya 114:=enters_of Tryz.func114 k_ rfl
theorem YC:gz ya 115:=enters_of Tryz.func115 k_ rfl
theorem NU:gz ya 117:=enters_of Tryz.func117 k_ rfl
theorem Ox:gz ya 118:=enters_of Tryz.func118 k_ rfl
theorem Ys:gz ya 119:=enters_of Tryz.func119 k_ rfl
theorem HY:gz ya 120:=enters_of Tryz.func120 k_ rfl
theorem N0:gz ya 121:=enters_of Tryz.func121 k_ rfl
theorem Yw:gz ya 122:=enters_of Tryz.func122 k_ rfl
theorem XW:gz ya 133:=enters_of Tryz.func133 k_ rfl
theorem lJ:gz ya 143:=enters_of Tryz.func143 k_ rfl
theorem Ie:gz ya 144:=enters_of Tryz.func144 k_ rfl
theorem xR:gz ya 145:=enters_of Tryz.func145 k_ rfl
theorem xT:gz ya 146:=enters_of Tryz.func146 k_ rfl
theorem HX:gz ya 147:=enters_of Tryz.func147 k_ rfl
theorem DR:gz ya 148:=enters_of Tryz.func148 k_ rfl
theorem Ov:gz ya 149:=enters_of Tryz.func149 k_ rfl
theorem XJ:gz ya 150:=enters_of Tryz.func150 k_ rfl
theorem Ic:gz ya 151:=enters_of Tryz.func151 k_ rfl
theorem YA:gz ya 152:=enters_of Tryz.func152 k_ rfl
theorem NJ:gz ya 153:=enters_of Tryz.func153 k_ rfl
theorem Yl:gz ya 154:=enters_of Tryz.func154 k_ rfl
theorem Oh:gz ya 156:=enters_of Tryz.func156 k_ rfl
theorem NW:gz ya 157:=enters_of Tryz.func157 k_ rfl
theorem XQ:gz ya 158:=enters_of Tryz.func158 k_ rfl
theorem Yy:gz ya 159:=enters_of Tryz.func159 k_ rfl
theorem Ih:gz ya 160:=enters_of Tryz.func160 k_ rfl
theorem Ig:gz ya 161:=enters_of Tryz.func161 k_ rfl
theorem Ip:gz ya 162:=enters_of Tryz.func162 k_ rfl
theorem N1:gz ya 163:=enters_of Tryz.func163 k_ rfl
theorem Yz:gz ya 169:=enters_of Tryz.func169 k_ rfl
theorem DT:gz ya 192:=enters_of Tryz.func192 k_ rfl
theorem N6:gz ya 193:=enters_of Tryz.func193 k_ rfl
theorem Ii:gz ya 194:=enters_of Tryz.func194 k_ rfl
theorem NV:gz ya 195:=enters_of Tryz.func195 k_ rfl
theorem Oj:gz ya 196:=enters_of Tryz.func196 k_ rfl
theorem Oq:gz ya 197:=enters_of Tryz.func197 k_ rfl
theorem NR:gz ya 198:=enters_of Tryz.func198 k_ rfl
theorem NS:gz ya 199:=enters_of Tryz.func199 k_ rfl
theorem YF:gz ya 200:=enters_of Tryz.func200 k_ rfl
theorem mw:gz ya 211:=enters_of Tryz.func211 k_ rfl
theorem X0:gz ya 212:=enters_of Tryz.func212 k_ rfl
theorem YH:gz ya 213:=enters_of Tryz.func213 k_ rfl
theorem Bk:gz ya 214:=enters_of Tryz.func214 k_ rfl
theorem si:gz ya 215:=enters_of Tryz.func215 k_ rfl
theorem XG:gz ya 221:=enters_of Tryz.func221 k_ rfl
theorem YD:gz ya 222:=enters_of Tryz.func222 k_ rfl
theorem YM:gz ya 223:=enters_of Tryz.func223 k_ rfl
theorem YE:gz ya 229:=enters_of Tryz.func229 k_ rfl
theorem lC:gz ya 230:=enters_of Tryz.func230 k_ rfl
theorem Ou:gz ya 232:=enters_of Tryz.func232 k_ rfl
theorem Oa:gz ya 233:=enters_of Tryz.func233 k_ rfl
theorem mixed:ya.follows .mixedOrders=true:=by kernel_rfl
instance tt:TT ya:=⟨mixed,[(2,_),(3,_),(4,_),(5,_),(22,_),(23,_),(27,_),(28,_),(31,_),(34,_),(38,_),(40,_),(42,_),(49,_),(53,_),(55,_),(62,_),(71,_),(72,_),(73,_),(74,_),(75,_),(77,_),(97,_),(98,_),(99,_),(101,_),(123,_),(132,_),(134,_),(139,_),(141,_),(143,_),(144,_),(145,_),(147,_),(150,_),(165,_),(167,_),(173,_),(200,_),(244,_),(245,_),(247,_),(248,_),(250,_),(252,_),(254,_)],[(2,_,_,_),(3,_,_,_),(4,_,_,_),(5,_,_,_),(23,_,_,_),(27,_,_,_),(31,_,_,_),(34,_,_,_),(38,_,_,_),(40,_,_,_),(42,_,_,_),(45,_,_,_),(49,_,_,_),(53,_,_,_),(55,_,_,_),(61,_,_,_),(62,_,_,_),(69,_,_,_),(71,_,_,_),(72,_,_,_),(73,_,_,_),(74,_,_,_),(75,_,_,_),(77,_,_,_),(87,_,_,_),(97,_,_,_),(98,_,_,_),(99,_,_,_),(101,_,_,_),(123,_,_,_),(132,_,_,_),(134,_,_,_),(139,_,_,_),(141,_,_,_),(143,_,_,_),(144,_,_,_),(145,_,_,_),(147,_,_,_),(150,_,_,_),(165,_,_,_),(167,_,_,_),(173,_,_,_),(200,_,_,_),(207,_,_,_),(244,_,_,_),(245,_,_,_),(247,_,_,_),(248,_,_,_),(250,_,_,_),(252,_,_,_),(254,_,_,_),(257,_,_,_),(262,_,_,_),(266,_,_,_),(268,_,_,_)],⟨tM,yf,ny,vm,xe,Ft,yp,BY,y9,yg,Tryz.underlying38,ry,oW,EU,Tryz.underlying53,Az,yh,Tryz.underlying71,Tryz.underlying72,EH,Tryz.underlying74,Tryz.underlying75,FB,EF,Co,yn,qB,Tryz.underlying123,Tryz.underlying132,Tryz.underlying134,yu,Tryz.underlying141,Tryz.underlying143,Ci,qK,Tryz.underlying147,Tryz.underlying150,vu,Tryz.underlying167,wX,E9,oF,yk,ug,yj,Tryz.underlying250,yw,yi,trivial⟩,⟨ti2,gq,qM,FA,Qe,yX,EA,iK,wu,rm,jq,I8,Bw,P7,yQ,Pw,nH,PL,P0,Py,Jl,Jk,PG,P8,BI,BG,Jb,qx,D9,IC,O7,OG,iy,I6,II,Bm,O5,O9,qY,Ei,Ef,D7,IW,O2,IJ,tA,Eh,OY,I3,lD,iS,wh,Bo,pI,Bt,trivial⟩⟩
end
section
open Go Go.Sx
theorem LS(x:Int)(w:World) :
 CR ya 232 (rO x) w (fun r w' => r = .bool false/\gD [] w w'):=by
 refine en Tryz.func232 Tryz.ntmps232 ?_
 have hst0:=jB w
 refine gh hst0 9 ?_
 refine cmp rfl rfl rfl (n9 rfl) (gf hst0 4 ?_)
 refine gF (v:=Zq) Tryz.results232 rfl ?_
 exact⟨rfl,hst0.gI s_⟩
theorem Ua(x y:Int)(w:World) :
 CR ya 222 (qN x y) w (fun r w' => r = .int .i64 (mc x y)/\gD [] w w'):=by
 refine en Tryz.func222 Tryz.ntmps222 ?_
 have hst0:=jB w
 refine gh hst0 8 ?_
 refine cl Ou (LS x w) ?_
 rintro _ c ⟨rfl,d⟩
 have b:=y8 hst0 d
 refine fP b 6 ?_
 refine cl Ou (LS y c) ?_
 rintro _ f ⟨rfl,e⟩
 have a:=y8 b e
 refine fP a 26 ?_
 by_cases g:(x:Int)<(y:Int)
 . refine gf a 11 ?_
   refine gF (v:=Zv) Tryz.results222 rfl ?_
   exact⟨gJ (by simp only[mc];(repeat' split)<;>omega),a.gI s_⟩
 . refine fP a 11 ?_
   by_cases h:(x:Int)>(y:Int)
   . refine gf a 11 ?_
     refine gF (v:=uY) Tryz.results222 rfl ?_
     exact⟨gJ (by simp only[mc];(repeat' split)<;>omega),a.gI s_⟩
   . refine gf a 12 ?_
     refine gF (v:=Zc) Tryz.results222 rfl ?_
     exact⟨gJ (by simp only[mc];(repeat' split)<;>omega),a.gI s_⟩
theorem Nv(x:Int)(w:World) :
 CR ya 233 (rO x) w (fun r w' => r = .bool false/\gD [] w w'):=by
 refine en Tryz.func233 Tryz.ntmps233 ?_
 have hst0:=jB w
 refine gh hst0 9 ?_
 refine cmp rfl rfl rfl (n9 rfl) (gf hst0 4 ?_)
 refine gF (v:=Zq) Tryz.results233 rfl ?_
 exact⟨rfl,hst0.gI s_⟩
theorem Wr(x y:Int)(w:World) :
 CR ya 223 (qN x y) w (fun r w' => r = .int .i64 (mc x y)/\gD [] w w'):=by
 refine en Tryz.func223 Tryz.ntmps223 ?_
 have hst0:=jB w
 refine gh hst0 8 ?_
 refine cl Oa (Nv x w) ?_
 rintro _ c ⟨rfl,d⟩
 have b:=y8 hst0 d
 refine fP b 6 ?_
 refine cl Oa (Nv y c) ?_
 rintro _ f ⟨rfl,e⟩
 have a:=y8 b e
 refine fP a 26 ?_
 by_cases g:(x:Int)<(y:Int)
 . refine gf a 11 ?_
   refine gF (v:=Zv) Tryz.results223 rfl ?_
   exact⟨gJ (by simp only[mc];(repeat' split)<;>omega),a.gI s_⟩
 . refine fP a 11 ?_
   by_cases h:(x:Int)>(y:Int)
   . refine gf a 11 ?_
     refine gF (v:=uY) Tryz.results223 rfl ?_
     exact⟨gJ (by simp only[mc];(repeat' split)<;>omega),a.gI s_⟩
   . refine gf a 12 ?_
     refine gF (v:=Zc) Tryz.results223 rfl ?_
     exact⟨gJ (by simp only[mc];(repeat' split)<;>omega),a.gI s_⟩
theorem S4(x:Int)(w:World) :
 CR ya 79 #[(Zd x)] w (fun r w' => r = .bool false/\gD [] w w'):=by
 refine en Tryz.func79 Tryz.ntmps79 ?_
 have hst0:=jB w
 refine gh hst0 9 ?_
 refine cmp rfl rfl rfl (n9 rfl) (gf hst0 4 ?_)
 refine gF (v:=Zq) Tryz.results79 rfl ?_
 exact⟨rfl,hst0.gI s_⟩
theorem YG(v:Value)(xs:List Int)(w:World)(hv:Ints .i64 (fun _=>True) w v xs) :
 CR ya 221 #[v] w (fun r w' => r = .int .i64 (ov xs)/\gD [] w w'):=by
 have hvl:=hv.len
 refine en Tryz.func221 Tryz.ntmps221 ?_
 have hst0:=jB w
 refine gh hst0 14 ?_
 refine tE (v:=v) rfl rfl yh hv (gX hst0 4 ?_)
 refine lp (α:=Nat) (fun k=>[(3,Zc),(6,v),(7,(Za xs.length)),(8,(Za k))]) (fun k w1=>St [(w,[])] [] w1/\k<=xs.length/\∀ j x,j<k->xs[j]? = some x->x=0) (fun k=>xs.length-k) 0 ⟨rfl,rfl,rfl,gJ (by first|rfl|omega),trivial⟩ (⟨hst0,o_,fun j x h=>absurd h o_⟩) ?_
 rintro k c d ⟨hst7,hk7,hz7⟩
 refine gh hst7 2 ?_
 by_cases e:((k:Int):Int)<((xs.length:Int):Int)
 . obtain⟨x,hx⟩:=qg (show k<xs.length by omega)
   refine fP hst7 11 ?_
   refine EI (i:=(k:Int)) (el:=x) rfl rfl rfl yh gq (St.Iy hst7 s_ hv) o_ (by rw[show ((k:Nat):Int).toNat=k by omega];exact hx) ?_
   intro f g a b l
   have m:=b.i64
   refine ld rfl rfl yf rfl a (fP hst7 7 ?_)
   by_cases n:(x:Int)=(0:Int)
   . refine gf hst7 11 ?_
     refine tN (?_)
     exact again (k+1) ⟨rfl,rfl,rfl,gJ (by first|rfl|omega),trivial⟩ (⟨hst7,o_,Xo hz7 hx o_⟩) (by show (xs.length-(k+1):Nat)<xs.length-k;omega)
   . refine gf hst7 16 ?_
     refine gF (v:=(Za x)) Tryz.results221 rfl ?_
     exact⟨gJ (Ye hz7 hx o_).symm,hst7.gI s_⟩
 . refine gf hst7 17 ?_
   refine gF (v:=Zc) Tryz.results221 rfl ?_
   exact⟨gJ (Wl hz7 o_).symm,hst7.gI s_⟩
theorem rY(a b:gj)(w:World) :
 CR ya 215 #[(EN a),(EN b)] w (fun r w' => r = .int .i64 (sB a b)/\gD [] w w'):=by
 refine en Tryz.func215 Tryz.ntmps215 ?_
 have hst0:=jB w
 refine gh hst0 2 ?_
 refine bx (v:=(EN a)) (cs:=[(Za a.ix),(Za a.key)]) rfl rfl rfl hst0 (fun g j k l e=>bx (v:=(EN b)) (cs:=[(Za b.ix),(Za b.key)]) rfl rfl rfl e (fun m n o p c=>gX c 4 ?_))
 refine jD c 10 ?_ (hA:=by refine' gN 4 ?k0;case k0=>refine' gw (fun wq hM=>rc (iX rfl YD) (CR.mono (Ua a.key b.key wq) fun _ _ h=>⟨h.1,hM.grow h.2⟩)) ?k1;case k1=>refine' gN 4 ?k2;case k2=>refine' gw (fun wq hM=>rc (iX rfl YM) (CR.mono (Wr (a.ix:Int) (b.ix:Int) wq) fun _ _ h=>⟨h.1,hM.grow h.2⟩)) ?k3;case k3=>exact iT)
 intro wq hM
 refine Bq (vs:=(Zj (mc a.key b.key) (mc (a.ix:Int) (b.ix:Int)))) (cs:=(Zj (mc a.key b.key) (mc (a.ix:Int) (b.ix:Int)))) rfl rfl yh gq rfl (by simp[Value.cells]) rfl rfl rfl hM (fun f _ h=>(jC h (fun q d=>?_) (hB:=by refine' gw (fun wq hM=>rc (iX rfl XG) (CR.mono (YG (wP f) [mc a.key b.key,mc (a.ix:Int) (b.ix:Int)] wq (wI hM (i:=0) rfl (fun y hy=>by simp only[zb,rF,or_false]at hy;rcases hy with rfl|rfl<;>exact W6 _ _)).any) fun _ _ h=>⟨h.1,hM.grow h.2⟩)) ?k0;case k0=>exact iT)))
 refine jE tt none d 2 ?_
 refine gF (v:=(Za (ov [mc a.key b.key,mc (a.ix:Int) (b.ix:Int)]))) Tryz.results215 rfl ?_
 exact⟨gJ (Xv a b),d.gI s_⟩
end
section
open Go Go.Sx
theorem xz(hb n:Nat)(iv pv:Value)(ps:List (Option Nat))(fO:List gj)(pl:List Nat)(w:World)(hO:Own (Ze hb n iv pv fO ps pl) w) :
 CR ya 146 (Zg hb) w (fun r w' => r = .bool true/\gp (Ze hb n iv pv fO ps pl) w w' (Ze hb n iv pv fO ps pl)):=by
 refine en Tryz.func146 Tryz.ntmps146 ?_
 have hst0:=(yy hO).unpack
 refine gh hst0 8 ?_
 refine ow (a:=some ⟨hb,0,none⟩) (c:=true) rfl rfl rfl Ci rfl (fP hst0 6 ?_)
 refine Eu (a:=⟨hb,0,none⟩) rfl rfl rfl Ci Eh (gf hst0 5 ?_)
 refine gF (v:=Zl) Tryz.results146 rfl ?_
 exact⟨rfl,yr (yc [_,_,_,_] _ hst0)⟩
theorem HB(hb n:Nat)(iv pv:Value)(ps:List (Option Nat))(fO:List gj)(pl:List Nat)(w:World)(hO:Own (Ze hb n iv pv fO ps pl) w)(i:Nat)(hi:i<n) :
 CR ya 160 (Zn hb i) w (fun r w' => r = .bool true/\gp (Ze hb n iv pv fO ps pl) w w' (Ze hb n iv pv fO ps pl)):=by
 refine en Tryz.func160 Tryz.ntmps160 ?_
 have hst0:=(yy hO).unpack
 refine gh hst0 8 ?_
 refine cmp rfl rfl rfl (pS o_) (fP hst0 6 ?_)
 refine cmp rfl rfl rfl (wD o_) (gf hst0 5 ?_)
 refine gF (v:=Zl) Tryz.results160 rfl ?_
 exact⟨rfl,yr (yc [_,_,_,_] _ hst0)⟩
theorem Gt(hb n:Nat)(iv pv:Value)(ps:List (Option Nat))(fO:List gj)(pl:List Nat)(w:World)(hO:Own (Ze hb n iv pv fO ps pl) w)(hP:je n ps pl)(i:Nat)(hi:i<n) :
 CR ya 161 (Zn hb i) w (fun r w' => r = .int .i64 (((fM pl i:Nat):Int)-1)/\gp (Ze hb n iv pv fO ps pl) w w' (Ze hb n iv pv fO ps pl)):=by
 have hij:=hP.at hi
 have hpr:=hP.room
 have hpn:=hP.n
 have hpv:=hP.val i
 refine en Tryz.func161 Tryz.ntmps161 ?_
 have hst0:=(yy hO).unpack
 refine gh hst0 12 ?_
 refine quo (a:=(i:Int)) (b:=64) (e:=((i / 64:Nat):Int)) rfl rfl rfl d_ (uN 64 o_) (jj (cf:=gP) (k:=(i / 64)) (i:=((i / 64:Nat):Int)) rfl rfl rfl oF pI (ye hst0 (i:=2) rfl f_) o_ rfl (gy om) (kE (cf:=gP) rfl rfl rG rfl (ye hst0 (i:=2) rfl f_) (gy om) rfl ?_))
 obtain⟨f,d⟩:∃ q,(fM ps (i / 64))=q:=⟨_,rfl⟩
 refine fP hst0 7 ?_
 rcases f with _|g
 . skip
   refine B2 (a:=(fM ps (i / 64)).map fun b=>⟨b,0,none⟩) (c:=true) rfl rfl rfl rG (by rw[d];rfl) (gf hst0 10 ?_)
   refine gF (v:=Zv) Tryz.results161 rfl ?_
   exact⟨gJ (by rw[hP.zero (i / 64) ((gy hij).trans (congrArg some d)) i rfl];rfl),yr (yc [_,_,_,_] _ hst0)⟩
 . skip
   refine B2 (a:=(fM ps (i / 64)).map fun b=>⟨b,0,none⟩) (c:=false) rfl rfl rfl rG (by rw[d];rfl) (fP hst0 9 ?_)
   refine rem (a:=(i:Int)) (b:=64) (e:=((i%64:Nat):Int)) rfl rfl rfl d_ (BK 64) (q8 rfl (xC d) (lV (o:=0) (o' := i%64*1+0) (i:=((i%64:Nat):Int)) rfl rfl rfl Fe gq o_ (by simp only[rD];omega) (ld rfl rfl yf rfl (Am hst0 (i:=3) rfl f_ d_ (by have h7:=hP.room;first|omega|(simp only[iQ,gM];omega)) ((gy o_).trans (congrArg some d)) rfl) (gf hst0 5 ?_))))
   refine gF (v:=(Za ((((fM pl i):Nat):Int)-1))) Tryz.results161 rfl ?_
   exact⟨gJ o_,yr (yc [_,_,_,_] _ hst0)⟩
theorem Dl(hb n:Nat)(iv pv:Value)(ps:List (Option Nat))(fO:List gj)(pl:List Nat)(w:World)(hO:Own (Ze hb n iv pv fO ps pl) w)(hP:je n ps pl)(i:Nat)(hi:i<n)(v:Int)(p:Nat)(hv:v+1=(p:Int))(hp:p<=65536) :
 CR ya 148 (Z2 hb i v) w (fun r w' => r = .tuple #[]/\∃ ps2,ps2.length=ps.length/\je n ps2 (iQ pl i p)/\gp (Ze hb n iv pv fO ps pl) w w' (Ze hb n iv pv fO ps2 (iQ pl i p))):=by
 have hij:=hP.at hi
 have hpr:=hP.room
 have hpn:=hP.n
 have hpv:=hP.val i
 refine en Tryz.func148 Tryz.ntmps148 ?_
 have hst0:=(yy hO).unpack
 refine gh hst0 8 ?_
 refine quo (a:=(i:Int)) (b:=64) (e:=((i / 64:Nat):Int)) rfl rfl rfl d_ (uN 64 o_) (jj (cf:=gP) (k:=(i / 64)) (i:=((i / 64:Nat):Int)) rfl rfl rfl oF pI (ye hst0 (i:=2) rfl f_) o_ o_ (gy om) (kE (cf:=gP) rfl rfl rG rfl (ye hst0 (i:=2) rfl f_) (gy om) rfl ?_))
 obtain⟨t,g⟩:∃ q,(fM ps (i / 64))=q:=⟨_,rfl⟩
 rcases t with _|u
 . skip
   refine B2 (a:=(fM ps (i / 64)).map fun b=>⟨b,0,none⟩) (c:=true) rfl rfl rfl rG (by rw[g];rfl) (fP hst0 9 ?_)
   refine quo (a:=(i:Int)) (b:=64) (e:=((i / 64:Nat):Int)) rfl rfl rfl d_ (uN 64 o_) (al (cs:=Jz) rfl Bt rfl hst0 (fun d A B C j=>jj (cf:=gP) (k:=(i / 64)) (i:=((i / 64:Nat):Int)) rfl rfl rfl oF pI (ye j (i:=3) rfl f_) o_ o_ (gy om) (sy (f:=(fun _=>(some d))) (L' := [blk d 268 Jz,blk hb 247 (nK hb n iv pv),fV gj.cells iv 139 2 fO,fV gP pv 266 1 (fR ps (i / 64) (fun _=>(some d))),gH gL 268 64 ps pl]) 3 rfl rfl rfl rfl pI rfl rfl j rfl f_ om rfl rfl rfl ?_)))
   intro D l
   have x:=ym [0,4,1,2,3] l
   have hj0:ps[i / 64]? = some none:=(gy hij).trans (congrArg some g)
   have y:=St.Og x hj0 (hP.Yb hj0)
   have h:=y
   have hP2:je n (ps.set (i / 64) (some d)) pl:=hP.made
   have hb2:(ps.set (i / 64) (some d))[i / 64]? = some (some d):=by rw[rN,if_pos rfl,if_pos hij]
   have hij2:i / 64<(ps.set (i / 64) (some d)).length:=by rw[List.length_set];exact hij
   refine fP l 8 ?_
   refine quo (a:=(i:Int)) (b:=64) (e:=((i / 64:Nat):Int)) rfl rfl rfl d_ (uN 64 o_) (jj (cf:=gP) (k:=(i / 64)) (i:=((i / 64:Nat):Int)) rfl rfl rfl oF pI (ye h (i:=3) rfl f_) o_ o_ (gy om) (kE (cf:=gP) rfl rfl rG rfl (ye h (i:=3) rfl f_) (gy om) rfl (fP h 1 ?_)))
   refine rem (a:=(i:Int)) (b:=64) (e:=((i%64:Nat):Int)) rfl rfl rfl d_ (BK 64) (fP h 1 ?_)
   refine ar (e:=(p:Int)) rfl rfl rfl rfl (by rw[iV o_];exact hv) (q8 rfl (xC (od hb2)) (lV (o:=0) (o' := i%64*1+0) (i:=((i%64:Nat):Int)) rfl rfl rfl Fe gq o_ (by simp only[rD];omega) (pV (f:=(fun _=>p)) (L' := [gH gL 268 64 (ps.set (i / 64) (some d)) (fR pl i (fun _=>p)),blk hb 247 (nK hb n iv pv),fV gj.cells iv 139 2 fO,fV gP pv 266 1 (ps.set (i / 64) (some d))]) 0 rfl rfl rfl rfl gq rfl rfl h rfl f_ d_ (by have h7:=hP.room;first|omega|(simp only[iQ,gM];omega)) hb2 rfl rfl rfl (fun E m=>gf m 1 ?_))))
   refine jf Tryz.results148 ?_
   have z:=ym [1,2,3,0] m
   exact⟨rfl,ps.set (i / 64) (some d),s_,hP2.set hi o_ hb2,yr (yc [_,_,_,_] _ z)⟩
 . skip
   refine B2 (a:=(fM ps (i / 64)).map fun b=>⟨b,0,none⟩) (c:=false) rfl rfl rfl rG (by rw[g];rfl) ?_
   have hP2:=hP
   have hb2:ps[i / 64]? = some (some u):=(gy hij).trans (congrArg some g)
   have hij2:=hij
   refine fP hst0 11 ?_
   refine quo (a:=(i:Int)) (b:=64) (e:=((i / 64:Nat):Int)) rfl rfl rfl d_ (uN 64 o_) (jj (cf:=gP) (k:=(i / 64)) (i:=((i / 64:Nat):Int)) rfl rfl rfl oF pI (ye hst0 (i:=2) rfl f_) o_ o_ (gy om) (kE (cf:=gP) rfl rfl rG rfl (ye hst0 (i:=2) rfl f_) (gy om) rfl (fP hst0 1 ?_)))
   refine rem (a:=(i:Int)) (b:=64) (e:=((i%64:Nat):Int)) rfl rfl rfl d_ (BK 64) (fP hst0 1 ?_)
   refine ar (e:=(p:Int)) rfl rfl rfl rfl (by rw[iV o_];exact hv) (q8 rfl (xC g) (lV (o:=0) (o' := i%64*1+0) (i:=((i%64:Nat):Int)) rfl rfl rfl Fe gq o_ (by simp only[rD];omega) (pV (f:=(fun _=>p)) (L' := (sQ hb n iv pv fO ps (fR pl i (fun _=>p)))) 3 rfl rfl rfl rfl gq rfl rfl hst0 rfl f_ d_ (by have h7:=hP.room;first|omega|(simp only[iQ,gM];omega)) hb2 rfl rfl rfl (fun G s=>gf s 1 ?_))))
   refine jf Tryz.results148 ?_
   exact⟨rfl,ps,s_,hP2.set hi o_ hb2,yr (yc [_,_,_,_] _ s)⟩
end
section
open Go Go.Sx
abbrev Vd:List (List Nat):=[[],[0],[0,1],[0,1,2],[],[],[5],[5,6],[5,6,7],[],[],[10],[10,11],[10,11,12],[],[10,11,12,13,14],[10,11,12,13,14,15],[],[17],[17,18],[17,18,19],[],[17,18,19,20,21],[17,18,19,20,21,22],[0,1,2,3,4,5,6,7,8,10,11,12,13,14,15,16,17,18,19,20,21,22,23],[0,1,2,3,4,5,6,7,8,10,11,12,13,14,15,16,17,18,19,20,21,22,23,24],[0,1,2,3,4,5,6,7,8,9,10,11,12,13,14,15,16,17,18,19,20,21,22,23,24,25],[0,1,2,3,4,5,6,7,8,9,10,11,12,13,14,15,16,17,18,19,20,21,22,23,24,25,26]]
theorem GR(hb n:Nat)(iv pv:Value)(ps:List (Option Nat))(fO:List gj)(pl:List Nat)(w:World)(hO:Own (Ze hb n iv pv fO ps pl) w)(hS:Hp n fO pl)(hP:je n ps pl)(p q:Nat)(hp:p<fO.length)(hq:q<fO.length) :
 CR ya 147 (Z2 hb p q) w (fun r w' => r = .tuple #[]/\∃ qs,qs.length=ps.length/\je n qs (iQ (iQ pl (fM (iB fO p q) p).ix (p+1)) (fM (iB fO p q) q).ix (q+1))/\gp (Ze hb n iv pv fO ps pl) w w' (Ze hb n iv pv (iB fO p q) qs (iQ (iQ pl (fM (iB fO p q) p).ix (p+1)) (fM (iB fO p q) q).ix (q+1)))):=by
 have hnn:=hP.n
 have hln:=hS.len
 have hsl:=l7 fO p q
 have hsix:∀ j,j<fO.length->(fM (iB fO p q) j).ix<n:=fun j hj=>(hS.swap hp hq).ix j (by rw[hsl];exact hj)
 refine en Tryz.func147 Tryz.ntmps147 ?_
 have hst0:=(yy hO).unpack
 refine p8 hst0 1 ?_
 refine oE (Γ:=Unit) mixed Vd [25,27] k_ [fun _=>(Zb hb),fun _=>(Zb hb),fun _=>(rJ hb),fun _=>iv,fun _=>(Za p),fun _=>(Zb hb),fun _=>(Zb hb),fun _=>(rJ hb),fun _=>iv,fun _=>(Za q),fun _=>(Zb hb),fun _=>(Zb hb),fun _=>(rJ hb),fun _=>iv,fun _=>(Za q),fun _=>(j7 2 iv q 0),fun _=>(zZ ((fM fO q).ix:Int) ((fM fO q).key)),fun _=>(Zb hb),fun _=>(Zb hb),fun _=>(rJ hb),fun _=>iv,fun _=>(Za p),fun _=>(j7 2 iv p 0),fun _=>(zZ ((fM fO p).ix:Int) ((fM fO p).key)),fun _=>(j7 2 iv p 0),fun _=>undef,fun _=>(j7 2 iv q 0),fun _=>undef] [(fun _=>(sQ hb n iv pv fO ps pl),fun _ _=>True),(fun _=>(sQ hb n iv pv (fR fO p (fun _=>(fM fO q))) ps pl),fun _ _=>True),(fun _=>(sQ hb n iv pv (fR (fR fO p (fun _=>(fM fO q))) q (fun _=>(fM fO p))) ps pl),fun _ _=>True)] () _ rfl hst0 (fun _ _=>trivial) ?_ f_ rfl ?_
 . skip
   refine gC (fun _ _=>iD (v:=(Zb hb)) rfl) ?_
   refine gC (fun _ _=>jY rfl) ?_
   refine gC (fun _ _=>jL (o' := 2) rfl ug rfl tA rfl) ?_
   refine lU rfl rfl rfl rfl (fun _ wq hM hF=>qv rfl rfl (gZ rfl yk rfl (yo hM (i:=0) rfl rfl))) (gC (fun _ _=>iD (v:=(Za p)) rfl) ?_)
   refine gC (fun _ _=>iD (v:=(Zb hb)) rfl) ?_
   refine gC (fun _ _=>jY rfl) ?_
   refine gC (fun _ _=>jL (o' := 2) rfl ug rfl tA rfl) ?_
   refine lU rfl rfl rfl rfl (fun _ wq hM hF=>qv rfl rfl (gZ rfl yk rfl (yo hM (i:=0) rfl rfl))) (gC (fun _ _=>iD (v:=(Za q)) rfl) ?_)
   refine gC (fun _ _=>iD (v:=(Zb hb)) rfl) ?_
   refine gC (fun _ _=>jY rfl) ?_
   refine gC (fun _ _=>jL (o' := 2) rfl ug rfl tA rfl) ?_
   refine lU rfl rfl rfl rfl (fun _ wq hM hF=>qv rfl rfl (gZ rfl yk rfl (yo hM (i:=0) rfl rfl))) (gC (fun _ _=>iD (v:=(Za q)) rfl) ?_)
   refine gC (fun _ _=>jU (cf:=gj.cells) (k:=q) (i:=(q:Int)) rfl rfl yk iy (ye hst0 (i:=1) rfl f_) o_ o_ (gy om)) ?_
   refine lU rfl rfl rfl rfl (fun _ wq hM hF=>qv rfl rfl (lK (cf:=gj.cells) (cs:=(Zj ((fM fO q).ix:Int) ((fM fO q).key))) rfl yu rfl iy (ye hM (i:=1) rfl f_) (gy om) rfl rfl)) (gC (fun _ _=>iD (v:=(Zb hb)) rfl) ?_)
   refine gC (fun _ _=>jY rfl) ?_
   refine gC (fun _ _=>jL (o' := 2) rfl ug rfl tA rfl) ?_
   refine lU rfl rfl rfl rfl (fun _ wq hM hF=>qv rfl rfl (gZ rfl yk rfl (yo hM (i:=0) rfl rfl))) (gC (fun _ _=>iD (v:=(Za p)) rfl) ?_)
   refine gC (fun _ _=>jU (cf:=gj.cells) (k:=p) (i:=(p:Int)) rfl rfl yk iy (ye hst0 (i:=1) rfl f_) o_ o_ (gy om)) ?_
   refine lU rfl rfl rfl rfl (fun _ wq hM hF=>qv rfl rfl (lK (cf:=gj.cells) (cs:=(Zj ((fM fO p).ix:Int) ((fM fO p).key))) rfl yu rfl iy (ye hM (i:=1) rfl f_) (gy om) rfl rfl)) (gC (fun _ _=>jU (cf:=gj.cells) (k:=p) (i:=(p:Int)) rfl rfl yk iy (ye hst0 (i:=1) rfl f_) o_ o_ (gy om)) ?_)
   refine kg rfl rfl rfl rfl (fun _ wq hM hF=>v8 (f:=(fun _=>(fM fO q))) (L' := (sQ hb n iv pv (fR fO p (fun _=>(fM fO q))) ps pl)) 1 rfl rfl rfl rfl iy rfl rfl hM rfl f_ om rfl rfl rfl (fun _ h=>⟨(),⟨h,trivial⟩,rfl,jR.refl _ _ _⟩)) (gC (fun _ _=>jU (cf:=gj.cells) (k:=q) (i:=(q:Int)) rfl rfl yk iy (ye hst0 (i:=1) rfl f_) o_ o_ (gy om)) ?_)
   refine kg rfl rfl rfl rfl (fun _ wq hM hF=>v8 (f:=(fun _=>(fM fO p))) (L' := (sQ hb n iv pv (fR (fR fO p (fun _=>(fM fO q))) q (fun _=>(fM fO p))) ps pl)) 1 rfl rfl rfl rfl iy rfl rfl hM rfl f_ om rfl rfl rfl (fun _ h=>⟨(),⟨h,trivial⟩,rfl,jR.refl _ _ _⟩)) ?_
   exact og
 rintro-l c -
 have b:=c
 refine oZ tt none c 9 ?_
 refine jj (cf:=gj.cells) (k:=p) (i:=(p:Int)) rfl rfl rfl yk iy (ye b (i:=1) rfl f_) o_ o_ (gy om) (vH (cf:=gj.cells) (off:=0) (off' := 0) rfl rfl yu rfl gq rfl (ye b (i:=1) rfl f_) (gy om) (kE (cf:=gj.cells) rfl rfl yf rfl (ye b (i:=1) rfl f_) (gy om) rfl ?_))
 have d:=yc [_,_,_,_] _ b
 refine fP b 1 ?_
 refine cl DR (Dl hb n iv pv ps (iB fO p q) pl l (yd d (i:=0) rfl) hP ((fM (iB fO p q) p).ix) (hsix _ (by assumption)) (p:Int) (p+1) o_ o_) ?_
 rintro _ m ⟨rfl,ps2₁,o,hP2₁,ht⟩
 have a:=(yq d ht)
 refine fP a 9 ?_
 refine jj (cf:=gj.cells) (k:=q) (i:=(q:Int)) rfl rfl rfl yk iy (ye a (i:=1) rfl f_) o_ o_ (gy om) (vH (cf:=gj.cells) (off:=0) (off' := 0) rfl rfl yu rfl gq rfl (ye a (i:=1) rfl f_) (gy om) (kE (cf:=gj.cells) rfl rfl yf rfl (ye a (i:=1) rfl f_) (gy om) rfl ?_))
 have e:=yc [_,_,_,_] _ a
 refine fP a 1 ?_
 refine cl DR (Dl hb n iv pv ps2₁ (iB fO p q) (iQ pl ((fM (iB fO p q) p).ix) (p+1)) m (yd e (i:=0) rfl) hP2₁ ((fM (iB fO p q) q).ix) (hsix _ (by assumption)) (q:Int) (q+1) o_ o_) ?_
 rintro _ s ⟨rfl,ps2₂,t,hP2₂,ht⟩
 have g:=(yq e ht)
 refine gf g 1 ?_
 refine jf Tryz.results147 ?_
 exact⟨rfl,ps2₂,o_,hP2₂,yr (yc [_,_,_,_] _ g)⟩
theorem K8(hb n:Nat)(iv pv:Value)(ps:List (Option Nat))(fO:List gj)(pl:List Nat)(w:World)(hO:Own (Ze hb n iv pv fO ps pl) w)(hS:Hp n fO pl)(hP:je n ps pl)(p:Nat)(hp:p<fO.length) :
 CR ya 197 (Zn hb p) w (fun r w' => r = .int .i64 (qq fO p)/\gp (Ze hb n iv pv fO ps pl) w w' (Ze hb n iv pv fO ps pl)):=by
 have hnn:=hP.n
 have hln:=hS.len
 have hpa:pa p<fO.length:=by simp only[pa];omega
 refine en Tryz.func197 Tryz.ntmps197 ?_
 have hst0:=(yy hO).unpack
 refine gh hst0 9 ?_
 refine quo (a:=(p:Int)-1) (b:=2) (e:=((pa p:Nat):Int)) rfl rfl rfl d_ (paN o_) (gX hst0 5 ?_)
 by_cases j:((p:Int):Int)>(0:Int)
 . skip
   by_cases c:(sB (fM fO p) (fM fO (pa p)):Int)<(0:Int)
   . skip
     refine kS hst0 (fun l d=>?_) (hA:=by refine' gN 9 ?k0;case k0=>refine' gw (fun wq hM=>rv (lK (cf:=gj.cells) (cs:=(Zj ((fM fO p).ix:Int) ((fM fO p).key))) rfl yu rfl iy (ye hM (i:=1) rfl f_) (gy om) rfl rfl)) ?k1;case k1=>refine' gN 5 ?k2;case k2=>refine' gw (fun wq hM=>rv (jU (v:=iv) (cf:=gj.cells) (k:=(pa p)) (i:=((pa p:Nat):Int)) rfl rfl yk iy (ye hst0 (i:=1) rfl f_) o_ o_ (gy om))) ?k3;case k3=>refine' gw (fun wq hM=>rv (lK (cf:=gj.cells) (cs:=(Zj ((fM fO (pa p)).ix:Int) ((fM fO (pa p)).key))) rfl yu rfl iy (ye hM (i:=1) rfl f_) (gy om) rfl rfl)) ?k4;case k4=>refine' gw (fun wq hM=>rc (iX rfl si) (CR.mono (rY (fM fO p) (fM fO (pa p)) wq) fun _ _ h=>⟨h.1,hM.grow h.2⟩)) ?k5;case k5=>exact iT)
     refine jE tt none d 10 ?_
     refine gF (v:=(Za ((pa p:Nat):Int))) Tryz.results197 rfl ?_
     exact⟨gJ (by unfold qq;rw[if_pos (show 0<p/\iH (fM fO p) (fM fO (pa p)) from⟨o_,oH.1 c⟩)]),yr (yc [_,_,_,_] _ d)⟩
   . skip
     refine kS hst0 (fun m f=>?_) (hA:=by refine' gN 9 ?k0;case k0=>refine' gw (fun wq hM=>rv (lK (cf:=gj.cells) (cs:=(Zj ((fM fO p).ix:Int) ((fM fO p).key))) rfl yu rfl iy (ye hM (i:=1) rfl f_) (gy om) rfl rfl)) ?k1;case k1=>refine' gN 5 ?k2;case k2=>refine' gw (fun wq hM=>rv (jU (v:=iv) (cf:=gj.cells) (k:=(pa p)) (i:=((pa p:Nat):Int)) rfl rfl yk iy (ye hst0 (i:=1) rfl f_) o_ o_ (gy om))) ?k3;case k3=>refine' gw (fun wq hM=>rv (lK (cf:=gj.cells) (cs:=(Zj ((fM fO (pa p)).ix:Int) ((fM fO (pa p)).key))) rfl yu rfl iy (ye hM (i:=1) rfl f_) (gy om) rfl rfl)) ?k4;case k4=>refine' gw (fun wq hM=>rc (iX rfl si) (CR.mono (rY (fM fO p) (fM fO (pa p)) wq) fun _ _ h=>⟨h.1,hM.grow h.2⟩)) ?k5;case k5=>exact iT)
     refine jE tt none f 10 ?_
     refine gF (v:=Zv) Tryz.results197 rfl ?_
     exact⟨gJ (by unfold qq;rw[if_neg (show ¬ (0<p/\iH (fM fO p) (fM fO (pa p))) from fun h9=>c (oH.2 h9.2))]),yr (yc [_,_,_,_] _ f)⟩
 . skip
   refine kS hst0 (fun o g=>?_)
   refine jE tt none g 10 ?_
   refine gF (v:=Zv) Tryz.results197 rfl ?_
   exact⟨gJ (by unfold qq;rw[if_neg (show ¬ (0<p/\iH (fM fO p) (fM fO (pa p))) from fun h9=>j o_)]),yr (yc [_,_,_,_] _ g)⟩
theorem Lb(hb n:Nat)(iv pv:Value)(ps:List (Option Nat))(fO:List gj)(pl:List Nat)(w:World)(hO:Own (Ze hb n iv pv fO ps pl) w)(hS:Hp n fO pl)(hP:je n ps pl)(p:Nat)(hp:p<fO.length) :
 CR ya 198 (Zn hb p) w (fun r w' => r = .int .i64 (mM fO p)/\gp (Ze hb n iv pv fO ps pl) w w' (Ze hb n iv pv fO ps pl)):=by
 have hnn:=hP.n
 have hln:=hS.len
 refine en Tryz.func198 Tryz.ntmps198 ?_
 have hst0:=(yy hO).unpack
 refine p8 hst0 18 ?_
 refine sO 3 (iL (gh hst0 20 ?_))
 refine ar (e:=((2*p:Nat):Int)) rfl rfl rfl rfl (by rw[iV o_];omega) (ar (e:=((2*p+1:Nat):Int)) rfl rfl rfl rfl (by rw[iV o_];omega) (fP hst0 1 ?_))
 refine ar (e:=((2*p+1:Nat):Int)) rfl rfl rfl rfl (by rw[iV o_];omega) (gX hst0 4 ?_)
 by_cases u:(((2*p+1:Nat):Int):Int)<((fO.length:Int):Int)
 . skip
   by_cases d:(sB (fM fO (2*p+1)) (fM fO p):Int)<(0:Int)
   . skip
     refine kS hst0 (fun D a=>?_) (hA:=by refine' gN 5 ?k0;case k0=>refine' gw (fun wq hM=>rv (nU (v:=iv) rfl yk (ye (cf:=gj.cells) hst0 (i:=1) rfl f_))) ?k1;case k1=>refine' gN 7 ?k2;case k2=>refine' gw (fun wq hM=>rv (jU (v:=iv) (cf:=gj.cells) (k:=(2*p+1)) (i:=((2*p+1:Nat):Int)) rfl rfl yk iy (ye hst0 (i:=1) rfl f_) o_ o_ (gy om))) ?k3;case k3=>refine' gw (fun wq hM=>rv (lK (cf:=gj.cells) (cs:=(Zj ((fM fO (2*p+1)).ix:Int) ((fM fO (2*p+1)).key))) rfl yu rfl iy (ye hM (i:=1) rfl f_) (gy om) rfl rfl)) ?k4;case k4=>refine' gN 6 ?k5;case k5=>refine' gw (fun wq hM=>rv (lK (cf:=gj.cells) (cs:=(Zj ((fM fO p).ix:Int) ((fM fO p).key))) rfl yu rfl iy (ye hM (i:=1) rfl f_) (gy om) rfl rfl)) ?k6;case k6=>refine' gw (fun wq hM=>rc (iX rfl si) (CR.mono (rY (fM fO (2*p+1)) (fM fO p) wq) fun _ _ h=>⟨h.1,hM.grow h.2⟩)) ?k7;case k7=>exact iT)
     refine jE tt none a 12 ?_
     refine tN (?_)
     refine iL (gh a 20 ?_)
     refine ar (e:=((2*p:Nat):Int)) rfl rfl rfl rfl (by rw[iV o_];omega) (ar (e:=((2*p+1:Nat):Int)) rfl rfl rfl rfl (by rw[iV o_];omega) (fP a 1 ?_))
     refine ar (e:=((2*p+2:Nat):Int)) rfl rfl rfl rfl (by rw[iV o_];omega) (gX a 4 ?_)
     by_cases A:(((2*p+2:Nat):Int):Int)<((fO.length:Int):Int)
     . skip
       by_cases x:(sB (fM fO (2*p+2)) (fM fO (2*p+1)):Int)<(0:Int)
       . skip
         refine kS a (fun E f=>?_) (hA:=by refine' gN 5 ?k0;case k0=>refine' gw (fun wq hM=>rv (nU (v:=iv) rfl yk (ye (cf:=gj.cells) a (i:=1) rfl f_))) ?k1;case k1=>refine' gN 7 ?k2;case k2=>refine' gw (fun wq hM=>rv (jU (v:=iv) (cf:=gj.cells) (k:=(2*p+2)) (i:=((2*p+2:Nat):Int)) rfl rfl yk iy (ye a (i:=1) rfl f_) o_ o_ (gy om))) ?k3;case k3=>refine' gw (fun wq hM=>rv (lK (cf:=gj.cells) (cs:=(Zj ((fM fO (2*p+2)).ix:Int) ((fM fO (2*p+2)).key))) rfl yu rfl iy (ye hM (i:=1) rfl f_) (gy om) rfl rfl)) ?k4;case k4=>refine' gN 5 ?k5;case k5=>refine' gw (fun wq hM=>rv (jU (v:=iv) (cf:=gj.cells) (k:=(2*p+1)) (i:=((2*p+1:Nat):Int)) rfl rfl yk iy (ye a (i:=1) rfl f_) o_ o_ (gy om))) ?k6;case k6=>refine' gw (fun wq hM=>rv (lK (cf:=gj.cells) (cs:=(Zj ((fM fO (2*p+1)).ix:Int) ((fM fO (2*p+1)).key))) rfl yu rfl iy (ye hM (i:=1) rfl f_) (gy om) rfl rfl)) ?k7;case k7=>refine' gw (fun wq hM=>rc (iX rfl si) (CR.mono (rY (fM fO (2*p+2)) (fM fO (2*p+1)) wq) fun _ _ h=>⟨h.1,hM.grow h.2⟩)) ?k8;case k8=>exact iT)
         refine jE tt none f 12 ?_
         refine tN (?_)
         refine iL (gh f 17 ?_)
         by_cases G:(((2*p+2:Nat):Int):Int)=((p:Int):Int)
         . refine gf f 11 ?_
           refine gF (v:=Zv) oT rfl ?_
           exact(show False by omega).elim
         . refine gf f 13 ?_
           refine gF (v:=(Za ((2*p+2:Nat):Int))) oT rfl ?_
           exact⟨gJ (by unfold mM jc;simp only;rw[if_pos (show 2*p+1<fO.length/\iH (fM fO (2*p+1)) (fM fO p) from⟨o_,oH.1 d⟩),if_pos (show 2*p+2<fO.length/\iH (fM fO (2*p+2)) (fM fO (2*p+1)) from⟨o_,oH.1 x⟩),if_neg o_]),yr (yc [_,_,_,_] _ f)⟩
       . skip
         refine kS a (fun H g=>?_) (hA:=by refine' gN 5 ?k0;case k0=>refine' gw (fun wq hM=>rv (nU (v:=iv) rfl yk (ye (cf:=gj.cells) a (i:=1) rfl f_))) ?k1;case k1=>refine' gN 7 ?k2;case k2=>refine' gw (fun wq hM=>rv (jU (v:=iv) (cf:=gj.cells) (k:=(2*p+2)) (i:=((2*p+2:Nat):Int)) rfl rfl yk iy (ye a (i:=1) rfl f_) o_ o_ (gy om))) ?k3;case k3=>refine' gw (fun wq hM=>rv (lK (cf:=gj.cells) (cs:=(Zj ((fM fO (2*p+2)).ix:Int) ((fM fO (2*p+2)).key))) rfl yu rfl iy (ye hM (i:=1) rfl f_) (gy om) rfl rfl)) ?k4;case k4=>refine' gN 5 ?k5;case k5=>refine' gw (fun wq hM=>rv (jU (v:=iv) (cf:=gj.cells) (k:=(2*p+1)) (i:=((2*p+1:Nat):Int)) rfl rfl yk iy (ye a (i:=1) rfl f_) o_ o_ (gy om))) ?k6;case k6=>refine' gw (fun wq hM=>rv (lK (cf:=gj.cells) (cs:=(Zj ((fM fO (2*p+1)).ix:Int) ((fM fO (2*p+1)).key))) rfl yu rfl iy (ye hM (i:=1) rfl f_) (gy om) rfl rfl)) ?k7;case k7=>refine' gw (fun wq hM=>rc (iX rfl si) (CR.mono (rY (fM fO (2*p+2)) (fM fO (2*p+1)) wq) fun _ _ h=>⟨h.1,hM.grow h.2⟩)) ?k8;case k8=>exact iT)
         refine jE tt none g 9 ?_
         refine tN (?_)
         refine iL (gh g 17 ?_)
         by_cases I:(((2*p+1:Nat):Int):Int)=((p:Int):Int)
         . refine gf g 11 ?_
           refine gF (v:=Zv) oT rfl ?_
           exact(show False by omega).elim
         . refine gf g 13 ?_
           refine gF (v:=(Za ((2*p+1:Nat):Int))) oT rfl ?_
           exact⟨gJ (by unfold mM jc;simp only;rw[if_pos (show 2*p+1<fO.length/\iH (fM fO (2*p+1)) (fM fO p) from⟨o_,oH.1 d⟩),if_neg (show ¬ (2*p+2<fO.length/\iH (fM fO (2*p+2)) (fM fO (2*p+1))) from fun h9=>x (oH.2 h9.2)),if_neg o_]),yr (yc [_,_,_,_] _ g)⟩
     . skip
       refine kS a (fun J j=>?_) (hA:=by refine' gN 5 ?k0;case k0=>refine' gw (fun wq hM=>rv (nU (v:=iv) rfl yk (ye (cf:=gj.cells) a (i:=1) rfl f_))) ?k1;case k1=>exact iT)
       refine jE tt none j 9 ?_
       refine tN (?_)
       refine iL (gh j 17 ?_)
       by_cases K:(((2*p+1:Nat):Int):Int)=((p:Int):Int)
       . refine gf j 11 ?_
         refine gF (v:=Zv) oT rfl ?_
         exact(show False by omega).elim
       . refine gf j 13 ?_
         refine gF (v:=(Za ((2*p+1:Nat):Int))) oT rfl ?_
         exact⟨gJ (by unfold mM jc;simp only;rw[if_pos (show 2*p+1<fO.length/\iH (fM fO (2*p+1)) (fM fO p) from⟨o_,oH.1 d⟩),if_neg (show ¬ (2*p+2<fO.length/\iH (fM fO (2*p+2)) (fM fO (2*p+1))) from fun h9=>A o_),if_neg o_]),yr (yc [_,_,_,_] _ j)⟩
   . skip
     refine kS hst0 (fun L b=>?_) (hA:=by refine' gN 5 ?k0;case k0=>refine' gw (fun wq hM=>rv (nU (v:=iv) rfl yk (ye (cf:=gj.cells) hst0 (i:=1) rfl f_))) ?k1;case k1=>refine' gN 7 ?k2;case k2=>refine' gw (fun wq hM=>rv (jU (v:=iv) (cf:=gj.cells) (k:=(2*p+1)) (i:=((2*p+1:Nat):Int)) rfl rfl yk iy (ye hst0 (i:=1) rfl f_) o_ o_ (gy om))) ?k3;case k3=>refine' gw (fun wq hM=>rv (lK (cf:=gj.cells) (cs:=(Zj ((fM fO (2*p+1)).ix:Int) ((fM fO (2*p+1)).key))) rfl yu rfl iy (ye hM (i:=1) rfl f_) (gy om) rfl rfl)) ?k4;case k4=>refine' gN 6 ?k5;case k5=>refine' gw (fun wq hM=>rv (lK (cf:=gj.cells) (cs:=(Zj ((fM fO p).ix:Int) ((fM fO p).key))) rfl yu rfl iy (ye hM (i:=1) rfl f_) (gy om) rfl rfl)) ?k6;case k6=>refine' gw (fun wq hM=>rc (iX rfl si) (CR.mono (rY (fM fO (2*p+1)) (fM fO p) wq) fun _ _ h=>⟨h.1,hM.grow h.2⟩)) ?k7;case k7=>exact iT)
     refine jE tt none b 9 ?_
     refine tN (?_)
     refine iL (gh b 20 ?_)
     refine ar (e:=((2*p:Nat):Int)) rfl rfl rfl rfl (by rw[iV o_];omega) (ar (e:=((2*p+1:Nat):Int)) rfl rfl rfl rfl (by rw[iV o_];omega) (fP b 1 ?_))
     refine ar (e:=((2*p+2:Nat):Int)) rfl rfl rfl rfl (by rw[iV o_];omega) (gX b 4 ?_)
     by_cases B:(((2*p+2:Nat):Int):Int)<((fO.length:Int):Int)
     . skip
       by_cases y:(sB (fM fO (2*p+2)) (fM fO p):Int)<(0:Int)
       . skip
         refine kS b (fun M l=>?_) (hA:=by refine' gN 5 ?k0;case k0=>refine' gw (fun wq hM=>rv (nU (v:=iv) rfl yk (ye (cf:=gj.cells) b (i:=1) rfl f_))) ?k1;case k1=>refine' gN 7 ?k2;case k2=>refine' gw (fun wq hM=>rv (jU (v:=iv) (cf:=gj.cells) (k:=(2*p+2)) (i:=((2*p+2:Nat):Int)) rfl rfl yk iy (ye b (i:=1) rfl f_) o_ o_ (gy om))) ?k3;case k3=>refine' gw (fun wq hM=>rv (lK (cf:=gj.cells) (cs:=(Zj ((fM fO (2*p+2)).ix:Int) ((fM fO (2*p+2)).key))) rfl yu rfl iy (ye hM (i:=1) rfl f_) (gy om) rfl rfl)) ?k4;case k4=>refine' gN 6 ?k5;case k5=>refine' gw (fun wq hM=>rv (lK (cf:=gj.cells) (cs:=(Zj ((fM fO p).ix:Int) ((fM fO p).key))) rfl yu rfl iy (ye hM (i:=1) rfl f_) (gy om) rfl rfl)) ?k6;case k6=>refine' gw (fun wq hM=>rc (iX rfl si) (CR.mono (rY (fM fO (2*p+2)) (fM fO p) wq) fun _ _ h=>⟨h.1,hM.grow h.2⟩)) ?k7;case k7=>exact iT)
         refine jE tt none l 12 ?_
         refine tN (?_)
         refine iL (gh l 17 ?_)
         by_cases N:(((2*p+2:Nat):Int):Int)=((p:Int):Int)
         . refine gf l 11 ?_
           refine gF (v:=Zv) oT rfl ?_
           exact(show False by omega).elim
         . refine gf l 13 ?_
           refine gF (v:=(Za ((2*p+2:Nat):Int))) oT rfl ?_
           exact⟨gJ (by unfold mM jc;simp only;rw[if_neg (show ¬ (2*p+1<fO.length/\iH (fM fO (2*p+1)) (fM fO p)) from fun h9=>d (oH.2 h9.2)),if_pos (show 2*p+2<fO.length/\iH (fM fO (2*p+2)) (fM fO p) from⟨o_,oH.1 y⟩),if_neg o_]),yr (yc [_,_,_,_] _ l)⟩
       . skip
         refine kS b (fun O o=>?_) (hA:=by refine' gN 5 ?k0;case k0=>refine' gw (fun wq hM=>rv (nU (v:=iv) rfl yk (ye (cf:=gj.cells) b (i:=1) rfl f_))) ?k1;case k1=>refine' gN 7 ?k2;case k2=>refine' gw (fun wq hM=>rv (jU (v:=iv) (cf:=gj.cells) (k:=(2*p+2)) (i:=((2*p+2:Nat):Int)) rfl rfl yk iy (ye b (i:=1) rfl f_) o_ o_ (gy om))) ?k3;case k3=>refine' gw (fun wq hM=>rv (lK (cf:=gj.cells) (cs:=(Zj ((fM fO (2*p+2)).ix:Int) ((fM fO (2*p+2)).key))) rfl yu rfl iy (ye hM (i:=1) rfl f_) (gy om) rfl rfl)) ?k4;case k4=>refine' gN 6 ?k5;case k5=>refine' gw (fun wq hM=>rv (lK (cf:=gj.cells) (cs:=(Zj ((fM fO p).ix:Int) ((fM fO p).key))) rfl yu rfl iy (ye hM (i:=1) rfl f_) (gy om) rfl rfl)) ?k6;case k6=>refine' gw (fun wq hM=>rc (iX rfl si) (CR.mono (rY (fM fO (2*p+2)) (fM fO p) wq) fun _ _ h=>⟨h.1,hM.grow h.2⟩)) ?k7;case k7=>exact iT)
         refine jE tt none o 9 ?_
         refine tN (?_)
         refine iL (gh o 17 ?_)
         refine cmp rfl rfl rfl (sF rfl) (gf o 10 ?_)
         refine gF (v:=Zv) oT rfl ?_
         exact⟨gJ (by unfold mM jc;simp only;rw[if_neg (show ¬ (2*p+1<fO.length/\iH (fM fO (2*p+1)) (fM fO p)) from fun h9=>d (oH.2 h9.2)),if_neg (show ¬ (2*p+2<fO.length/\iH (fM fO (2*p+2)) (fM fO p)) from fun h9=>y (oH.2 h9.2)),if_pos rfl]),yr (yc [_,_,_,_] _ o)⟩
     . skip
       refine kS b (fun P q=>?_) (hA:=by refine' gN 5 ?k0;case k0=>refine' gw (fun wq hM=>rv (nU (v:=iv) rfl yk (ye (cf:=gj.cells) b (i:=1) rfl f_))) ?k1;case k1=>exact iT)
       refine jE tt none q 9 ?_
       refine tN (?_)
       refine iL (gh q 17 ?_)
       refine cmp rfl rfl rfl (sF rfl) (gf q 10 ?_)
       refine gF (v:=Zv) oT rfl ?_
       exact⟨gJ (by unfold mM jc;simp only;rw[if_neg (show ¬ (2*p+1<fO.length/\iH (fM fO (2*p+1)) (fM fO p)) from fun h9=>d (oH.2 h9.2)),if_neg (show ¬ (2*p+2<fO.length/\iH (fM fO (2*p+2)) (fM fO p)) from fun h9=>B o_),if_pos rfl]),yr (yc [_,_,_,_] _ q)⟩
 . skip
   refine kS hst0 (fun Q c=>?_) (hA:=by refine' gN 5 ?k0;case k0=>refine' gw (fun wq hM=>rv (nU (v:=iv) rfl yk (ye (cf:=gj.cells) hst0 (i:=1) rfl f_))) ?k1;case k1=>exact iT)
   refine jE tt none c 9 ?_
   refine tN (?_)
   refine iL (gh c 20 ?_)
   refine ar (e:=((2*p:Nat):Int)) rfl rfl rfl rfl (by rw[iV o_];omega) (ar (e:=((2*p+1:Nat):Int)) rfl rfl rfl rfl (by rw[iV o_];omega) (fP c 1 ?_))
   refine ar (e:=((2*p+2:Nat):Int)) rfl rfl rfl rfl (by rw[iV o_];omega) (gX c 4 ?_)
   by_cases C:(((2*p+2:Nat):Int):Int)<((fO.length:Int):Int)
   . skip
     by_cases z:(sB (fM fO (2*p+2)) (fM fO p):Int)<(0:Int)
     . skip
       refine kS c (fun R m=>?_) (hA:=by refine' gN 5 ?k0;case k0=>refine' gw (fun wq hM=>rv (nU (v:=iv) rfl yk (ye (cf:=gj.cells) c (i:=1) rfl f_))) ?k1;case k1=>refine' gN 7 ?k2;case k2=>refine' gw (fun wq hM=>rv (jU (v:=iv) (cf:=gj.cells) (k:=(2*p+2)) (i:=((2*p+2:Nat):Int)) rfl rfl yk iy (ye c (i:=1) rfl f_) o_ o_ (gy om))) ?k3;case k3=>refine' gw (fun wq hM=>rv (lK (cf:=gj.cells) (cs:=(Zj ((fM fO (2*p+2)).ix:Int) ((fM fO (2*p+2)).key))) rfl yu rfl iy (ye hM (i:=1) rfl f_) (gy om) rfl rfl)) ?k4;case k4=>refine' gN 6 ?k5;case k5=>refine' gw (fun wq hM=>rv (lK (cf:=gj.cells) (cs:=(Zj ((fM fO p).ix:Int) ((fM fO p).key))) rfl yu rfl iy (ye hM (i:=1) rfl f_) (gy om) rfl rfl)) ?k6;case k6=>refine' gw (fun wq hM=>rc (iX rfl si) (CR.mono (rY (fM fO (2*p+2)) (fM fO p) wq) fun _ _ h=>⟨h.1,hM.grow h.2⟩)) ?k7;case k7=>exact iT)
       refine jE tt none m 12 ?_
       refine tN (?_)
       refine iL (gh m 17 ?_)
       by_cases S:(((2*p+2:Nat):Int):Int)=((p:Int):Int)
       . refine gf m 11 ?_
         refine gF (v:=Zv) oT rfl ?_
         exact(show False by omega).elim
       . refine gf m 13 ?_
         refine gF (v:=(Za ((2*p+2:Nat):Int))) oT rfl ?_
         exact⟨gJ (by unfold mM jc;simp only;rw[if_neg (show ¬ (2*p+1<fO.length/\iH (fM fO (2*p+1)) (fM fO p)) from fun h9=>u o_),if_pos (show 2*p+2<fO.length/\iH (fM fO (2*p+2)) (fM fO p) from⟨o_,oH.1 z⟩),if_neg o_]),yr (yc [_,_,_,_] _ m)⟩
     . skip
       refine kS c (fun U s=>?_) (hA:=by refine' gN 5 ?k0;case k0=>refine' gw (fun wq hM=>rv (nU (v:=iv) rfl yk (ye (cf:=gj.cells) c (i:=1) rfl f_))) ?k1;case k1=>refine' gN 7 ?k2;case k2=>refine' gw (fun wq hM=>rv (jU (v:=iv) (cf:=gj.cells) (k:=(2*p+2)) (i:=((2*p+2:Nat):Int)) rfl rfl yk iy (ye c (i:=1) rfl f_) o_ o_ (gy om))) ?k3;case k3=>refine' gw (fun wq hM=>rv (lK (cf:=gj.cells) (cs:=(Zj ((fM fO (2*p+2)).ix:Int) ((fM fO (2*p+2)).key))) rfl yu rfl iy (ye hM (i:=1) rfl f_) (gy om) rfl rfl)) ?k4;case k4=>refine' gN 6 ?k5;case k5=>refine' gw (fun wq hM=>rv (lK (cf:=gj.cells) (cs:=(Zj ((fM fO p).ix:Int) ((fM fO p).key))) rfl yu rfl iy (ye hM (i:=1) rfl f_) (gy om) rfl rfl)) ?k6;case k6=>refine' gw (fun wq hM=>rc (iX rfl si) (CR.mono (rY (fM fO (2*p+2)) (fM fO p) wq) fun _ _ h=>⟨h.1,hM.grow h.2⟩)) ?k7;case k7=>exact iT)
       refine jE tt none s 9 ?_
       refine tN (?_)
       refine iL (gh s 17 ?_)
       refine cmp rfl rfl rfl (sF rfl) (gf s 10 ?_)
       refine gF (v:=Zv) oT rfl ?_
       exact⟨gJ (by unfold mM jc;simp only;rw[if_neg (show ¬ (2*p+1<fO.length/\iH (fM fO (2*p+1)) (fM fO p)) from fun h9=>u o_),if_neg (show ¬ (2*p+2<fO.length/\iH (fM fO (2*p+2)) (fM fO p)) from fun h9=>z (oH.2 h9.2)),if_pos rfl]),yr (yc [_,_,_,_] _ s)⟩
   . skip
     refine kS c (fun V t=>?_) (hA:=by refine' gN 5 ?k0;case k0=>refine' gw (fun wq hM=>rv (nU (v:=iv) rfl yk (ye (cf:=gj.cells) c (i:=1) rfl f_))) ?k1;case k1=>exact iT)
     refine jE tt none t 9 ?_
     refine tN (?_)
     refine iL (gh t 17 ?_)
     refine cmp rfl rfl rfl (sF rfl) (gf t 10 ?_)
     refine gF (v:=Zv) oT rfl ?_
     exact⟨gJ (by unfold mM jc;simp only;rw[if_neg (show ¬ (2*p+1<fO.length/\iH (fM fO (2*p+1)) (fM fO p)) from fun h9=>u o_),if_neg (show ¬ (2*p+2<fO.length/\iH (fM fO (2*p+2)) (fM fO p)) from fun h9=>C o_),if_pos rfl]),yr (yc [_,_,_,_] _ t)⟩
end
section
open Go Go.Sx
theorem Vv(pb xb hb n:Nat)(iv pv:Value)(ps:List (Option Nat))(fO:List gj)(pl:List Nat)(p:Nat)(w:World)(hO:Own (vq pb p xb hb n iv pv fO ps pl) w)(hS:Hp n fO pl)(hP:je n ps pl)(hp:p<fO.length)(hA:sW fO p) :
 CR ya 196 #[(QF hb),(Zb pb),(Zb xb)] w (fun r w' => r = .tuple #[]/\∃ (p2:Nat),∃ qs ys zl,lN n fO ys ps qs zl/\p2<ys.length/\tT ys p2/\gp (vq pb p xb hb n iv pv fO ps pl) w w' (vq pb p2 xb hb n iv pv ys qs zl)):=by
 refine en Tryz.func196 Tryz.ntmps196 ?_
 have hst0:=(yy hO).unpack
 have hsm0:=lN.refl hS hP
 have j:=ym [2,3,4,5,0,1] hst0
 have b:=yc [_,_,_,_] _ j
 refine gh hst0 4 ?_
 refine wR (fi:=(Zi hb)) (ca:=[]) rfl rfl rfl Oq (K8 hb n iv pv ps fO pl w (yd b (i:=0) rfl) hsm0.hp hsm0.ir p (by first|omega|(rw[l7];omega))) ?_
 rintro _ y ⟨rfl,ht⟩
 have c:=(yq b ht)
 have k:=ym [4,5,0,1,2,3] c
 refine gX c 4 ?_
 refine lp (α:=List gj×List (Option Nat)×List Nat×Nat×Int) (fun(ys,qs,zl,p2,q)=>[(0,(QF hb)),(1,(Zb pb)),(2,(Zb xb)),(4,(Za q))]) (fun(ys,qs,zl,p2,q) w1=>St [(w,(vq pb p xb hb n iv pv fO ps pl).gU)] (JD pb p2 xb hb n iv pv ys qs zl) w1/\lN n fO ys ps qs zl/\p2<ys.length/\sW ys p2/\q=qq ys p2) (fun(ys,qs,zl,p2,q)=>p2) (fO,ps,pl,p,(qq fO p)) ⟨rfl,rfl,rfl,gJ (by first|rfl|omega),trivial⟩ (⟨k,hsm0,hp,hA,rfl⟩) ?_
 rintro⟨ys,qs,zl,p2,q⟩ z l ⟨hst3,hsm,hp2,hAt,hq⟩
 refine gh hst3 4 ?_
 by_cases d:(q:Int)=(-1:Int)
 . have hstop:=hAt.stop (Sf (hq.symm.trans d))
   refine gf hst3 8 ?_
   refine jf Tryz.results196 ?_
   exact⟨rfl,p2,qs,ys,zl,hsm,hp2,hstop,yr (yc [_,_,_,_,_,_] _ hst3)⟩
 . have hgo:=TF (fun h9=>@d (hq.trans h9))
   refine fP hst3 1 ?_
   obtain rfl:q=((pa p2:Nat):Int):=hq.trans hgo.1
   have h0p:=hgo.2.1
   have hpq:pa p2<ys.length:=by simp only[pa];omega
   have m:=ym [2,3,4,5,0,1] hst3
   have e:=yc [_,_,_,_] _ m
   refine fP hst3 12 ?_
   refine cl HX (GR hb n iv pv qs ys zl l (yd e (i:=0) rfl) hsm.hp hsm.ir p2 (pa p2) o_ o_) ?_
   rintro _ A ⟨rfl,f,o,s,ht⟩
   have t:=(yq e ht)
   have a:=hsm.swap (p:=p2) (q:=(pa p2)) o_ o_ o s
   refine mU t 11 fun u v=>?_
   have g:=yc [_,_,_,_] _ v
   refine wR (fi:=(Zi hb)) (ca:=[]) rfl rfl rfl Oq (K8 hb n iv pv f (iB ys p2 (pa p2)) (iQ (iQ zl (fM (iB ys p2 (pa p2)) p2).ix (p2+1)) (fM (iB ys p2 (pa p2)) (pa p2)).ix ((pa p2)+1)) u (yd g (i:=0) rfl) a.hp a.ir (pa p2) (by first|omega|(rw[l7];omega))) ?_
   rintro _ B ⟨rfl,ht⟩
   have h:=(yq g ht)
   refine gf h 2 ?_
   refine tN (?_)
   have x:=ym [4,5,0,1,2,3] h
   exact again (iB ys p2 (pa p2),f,iQ (iQ zl (fM (iB ys p2 (pa p2)) p2).ix (p2+1)) (fM (iB ys p2 (pa p2)) (pa p2)).ix ((pa p2)+1),(pa p2),qq (iB ys p2 (pa p2)) (pa p2)) ⟨rfl,rfl,rfl,gJ (by first|rfl|omega),trivial⟩ (⟨x,a,by rw[l7];omega,hAt.up h0p hp2 hgo.2.2,rfl⟩) (by show pa p2<p2;simp only[pa];omega)
theorem Ux(pb xb hb n:Nat)(iv pv:Value)(ps:List (Option Nat))(fO:List gj)(pl:List Nat)(p:Nat)(w:World)(hO:Own (vq pb p xb hb n iv pv fO ps pl) w)(hS:Hp n fO pl)(hP:je n ps pl)(hp:p<fO.length)(hA:tT fO p) :
 CR ya 196 #[(QZ hb),(Zb pb),(Zb xb)] w (fun r w' => r = .tuple #[]/\∃ (p2:Nat),∃ qs ys zl,lN n fO ys ps qs zl/\p2<ys.length/\Ord ys/\gp (vq pb p xb hb n iv pv fO ps pl) w w' (vq pb p2 xb hb n iv pv ys qs zl)):=by
 refine en Tryz.func196 Tryz.ntmps196 ?_
 have hst0:=(yy hO).unpack
 have hsm0:=lN.refl hS hP
 have j:=ym [2,3,4,5,0,1] hst0
 have b:=yc [_,_,_,_] _ j
 refine gh hst0 4 ?_
 refine wR (fi:=(Zi hb)) (ca:=[]) rfl rfl rfl NR (Lb hb n iv pv ps fO pl w (yd b (i:=0) rfl) hsm0.hp hsm0.ir p (by first|omega|(rw[l7];omega))) ?_
 rintro _ y ⟨rfl,ht⟩
 have c:=(yq b ht)
 have k:=ym [4,5,0,1,2,3] c
 refine gX c 4 ?_
 refine lp (α:=List gj×List (Option Nat)×List Nat×Nat×Int) (fun(ys,qs,zl,p2,q)=>[(0,(QZ hb)),(1,(Zb pb)),(2,(Zb xb)),(4,(Za q))]) (fun(ys,qs,zl,p2,q) w1=>St [(w,(vq pb p xb hb n iv pv fO ps pl).gU)] (JD pb p2 xb hb n iv pv ys qs zl) w1/\lN n fO ys ps qs zl/\p2<ys.length/\tT ys p2/\q=mM ys p2) (fun(ys,qs,zl,p2,q)=>ys.length-p2) (fO,ps,pl,p,(mM fO p)) ⟨rfl,rfl,rfl,gJ (by first|rfl|omega),trivial⟩ (⟨k,hsm0,hp,hA,rfl⟩) ?_
 rintro⟨ys,qs,zl,p2,q⟩ z l ⟨hst3,hsm,hp2,hAt,hq⟩
 refine gh hst3 4 ?_
 by_cases d:(q:Int)=(-1:Int)
 . have hstop:=hAt.stop (Sh (hq.symm.trans d))
   refine gf hst3 8 ?_
   refine jf Tryz.results196 ?_
   exact⟨rfl,p2,qs,ys,zl,hsm,hp2,hstop,yr (yc [_,_,_,_,_,_] _ hst3)⟩
 . have hgo:=Uo (fun h9=>@d (hq.trans h9))
   refine fP hst3 1 ?_
   obtain rfl:q=((jc ys p2:Nat):Int):=hq.trans hgo.1
   have hbg:=Mf hgo.2
   have hpq:=hbg.1
   have m:=ym [2,3,4,5,0,1] hst3
   have e:=yc [_,_,_,_] _ m
   refine fP hst3 12 ?_
   refine cl HX (GR hb n iv pv qs ys zl l (yd e (i:=0) rfl) hsm.hp hsm.ir p2 (jc ys p2) o_ o_) ?_
   rintro _ A ⟨rfl,f,o,s,ht⟩
   have t:=(yq e ht)
   have a:=hsm.swap (p:=p2) (q:=(jc ys p2)) o_ o_ o s
   refine mU t 11 fun u v=>?_
   have g:=yc [_,_,_,_] _ v
   refine wR (fi:=(Zi hb)) (ca:=[]) rfl rfl rfl NR (Lb hb n iv pv f (iB ys p2 (jc ys p2)) (iQ (iQ zl (fM (iB ys p2 (jc ys p2)) p2).ix (p2+1)) (fM (iB ys p2 (jc ys p2)) (jc ys p2)).ix ((jc ys p2)+1)) u (yd g (i:=0) rfl) a.hp a.ir (jc ys p2) (by first|omega|(rw[l7];omega))) ?_
   rintro _ B ⟨rfl,ht⟩
   have h:=(yq g ht)
   refine gf h 2 ?_
   refine tN (?_)
   have x:=ym [4,5,0,1,2,3] h
   exact again (iB ys p2 (jc ys p2),f,iQ (iQ zl (fM (iB ys p2 (jc ys p2)) p2).ix (p2+1)) (fM (iB ys p2 (jc ys p2)) (jc ys p2)).ix ((jc ys p2)+1),(jc ys p2),mM (iB ys p2 (jc ys p2)) (jc ys p2)) ⟨rfl,rfl,rfl,gJ (by first|rfl|omega),trivial⟩ (⟨x,a,by rw[l7];omega,hAt.down rfl hgo.2,rfl⟩) (by show (iB ys p2 (jc ys p2)).length-jc ys p2<ys.length-p2;rw[l7];omega)
theorem La(hb n:Nat)(iv pv:Value)(ps:List (Option Nat))(fO:List gj)(pl:List Nat)(w:World)(hO:Own (Ze hb n iv pv fO ps pl) w)(hS:Hp n fO pl)(hP:je n ps pl)(p:Nat)(hp:p<fO.length)(hA:sW fO p) :
 CR ya 149 (Zn hb p) w (fun r w' => r = .tuple #[]/\∃ qs ys zl,lN n fO ys ps qs zl/\Ord ys/\gp (Ze hb n iv pv fO ps pl) w w' (Ze hb n iv pv ys qs zl)):=by
 refine en Tryz.func149 Tryz.ntmps149 ?_
 have hst0:=(yy hO).unpack
 have hsm0:=lN.refl hS hP
 refine gh hst0 2 ?_
 refine bx (v:=(Zb hb)) (cs:=(Zi hb)) rfl rfl rfl hst0 (fun a E G H j=>bx (v:=(Za p)) (cs:=(Zf p)) rfl rfl rfl j (fun b k I J c=>fP c 4 ?_))
 refine wJ (vf:=[]) (vc:=(wV b a)) rfl rfl rfl (fP c 7 ?_)
 refine wJ (vf:=(Zi hb)) (vc:=[]) rfl rfl rfl ?_
 have e:=yc [_,_,_,_,_,_] _ c
 refine wR (fi:=[]) (ca:=(wV b a)) rfl rfl rfl Oj (Vv b a hb n iv pv ps fO pl p k (yd e (i:=0) rfl) hsm0.hp hsm0.ir (by first|assumption|omega) hA) ?_
 rintro _ l ⟨rfl,m,o,q,s,t,K,u,ht⟩
 have f:=(yq e ht)
 have d:=hsm0.trans t
 refine fP f 5 ?_
 refine wJ (vf:=(Zi hb)) (vc:=[]) rfl rfl rfl ?_
 have g:=yc [_,_,_,_,_,_] _ f
 refine wR (fi:=[]) (ca:=(wV b a)) rfl rfl rfl Oj (Ux b a hb n iv pv o q s m l (yd g (i:=0) rfl) d.hp d.ir (by first|assumption|omega) u) ?_
 rintro _ L ⟨rfl,M,x,y,z,A,N,B,ht⟩
 have h:=(yq g ht)
 have C:=d.trans A
 refine gf h 1 ?_
 refine jf Tryz.results149 ?_
 have D:=ym [2,3,4,5,0,1] h
 exact⟨rfl,x,y,z,C,B,yr (yc [_,_,_,_] _ D)⟩
end
section
open Go Go.Sx
theorem Up(hb n:Nat)(iv pv:Value)(ps:List (Option Nat))(fO:List gj)(pl:List Nat)(w:World)(hO:Own (Ze hb n iv pv fO ps pl) w)(hS:Hp n fO pl)(hP:je n ps pl)(i:Nat)(hi:i<n)(h0:fM pl i=0) :
 CR ya 159 (Zn hb i) w (fun r w' => r = .tuple #[.int .i64 0,.int .i64 5]/\gp (Ze hb n iv pv fO ps pl) w w' (Ze hb n iv pv fO ps pl)):=by
 have hnn:=hP.n
 have hln:=hS.len
 have hvi:=hP.val i
 refine en Tryz.func159 Tryz.ntmps159 ?_
 have hst0:=(yy hO).unpack
 have a:=yc [_,_,_,_] _ hst0
 refine gh hst0 11 ?_
 refine cl xT (xz hb n iv pv ps fO pl w (yd a (i:=0) rfl)) ?_
 rintro _ g ⟨rfl,ht⟩
 have b:=(yq a ht)
 have c:=yc [_,_,_,_] _ b
 refine fP b 9 ?_
 refine cl Ih (HB hb n iv pv ps fO pl g (yd c (i:=0) rfl) i o_) ?_
 rintro _ h ⟨rfl,ht⟩
 have d:=(yq c ht)
 have e:=yc [_,_,_,_] _ d
 refine fP d 9 ?_
 refine cl Ig (Gt hb n iv pv ps fO pl h (yd e (i:=0) rfl) hP i o_) ?_
 rintro _ j ⟨rfl,ht⟩
 have f:=(yq e ht)
 refine cmp rfl rfl rfl (sF o_) (gf f 13 ?_)
 refine jm (v:=Zc) (v' := (.int .i64 5)) Tryz.results159 rfl rfl ?_
 exact⟨rfl,yr (yc [_,_,_,_] _ f)⟩
theorem VU(hb n:Nat)(iv pv:Value)(ps:List (Option Nat))(fO:List gj)(pl:List Nat)(w:World)(hO:Own (Ze hb n iv pv fO ps pl) w)(hS:Hp n fO pl)(hP:je n ps pl)(i:Nat)(hi:i<n)(h0:fM pl i=0) :
 CR ya 158 (Zn hb i) w (fun r w' => r = .tuple JH/\gp (Ze hb n iv pv fO ps pl) w w' (Ze hb n iv pv fO ps pl)):=by
 have hnn:=hP.n
 have hln:=hS.len
 have hvi:=hP.val i
 refine en Tryz.func158 Tryz.ntmps158 ?_
 have hst0:=(yy hO).unpack
 have a:=yc [_,_,_,_] _ hst0
 refine gh hst0 10 ?_
 refine cl Yy (Up hb n iv pv ps fO pl w (yd a (i:=0) rfl) hS hP i hi h0) ?_
 rintro _ c ⟨rfl,ht⟩
 have b:=(yq a ht)
 refine gf b 23 ?_
 refine jm (v:=Zc) (v' := Zq) Tryz.results158 rfl rfl ?_
 exact⟨rfl,yr (yc [_,_,_,_] _ b)⟩
theorem Mr(hb n:Nat)(iv pv:Value)(ps:List (Option Nat))(fO:List gj)(pl:List Nat)(w:World)(hO:Own (Ze hb n iv pv fO ps pl) w)(hS:Hp n fO pl)(hP:je n ps pl)(hOr:Ord fO)(i:Nat)(hi:i<n)(h0:fM pl i=0)(key:Int)(hk:iC .i64 key) :
 CR ya 117 (Z2 hb i key) w (fun r w' => r = .int .i64 0/\∃ jv qs ys zl,Hp n ys zl/\je n qs zl/\Ord ys/\(∀ e,e∈ys↔e∈fO\/e=⟨i,key⟩)/\qs.length=ps.length/\ys.length=fO.length+1/\gp (Ze hb n iv pv fO ps pl) w w' (Ze hb n jv pv ys qs zl)):=by
 have hnn:=hP.n
 have hln:=hS.len
 have hvi:=hP.val i
 have hS9:=hS.push hi h0 hk
 have hlen1:fO.length+1<=n:=by have h7:=hS9.len;simpa using h7
 refine en Tryz.func117 Tryz.ntmps117 ?_
 have hst0:=(yy hO).unpack
 have f:=yc [_,_,_,_] _ hst0
 refine gh hst0 10 ?_
 refine cl xT (xz hb n iv pv ps fO pl w (yd f (i:=0) rfl)) ?_
 rintro _ u ⟨rfl,ht⟩
 have g:=(yq f ht)
 have h:=yc [_,_,_,_] _ g
 refine fP g 9 ?_
 refine cl Ih (HB hb n iv pv ps fO pl u (yd h (i:=0) rfl) i o_) ?_
 rintro _ y ⟨rfl,ht⟩
 have j:=(yq h ht)
 have k:=yc [_,_,_,_] _ j
 refine fP j 9 ?_
 refine cl Ig (Gt hb n iv pv ps fO pl y (yd k (i:=0) rfl) hP i o_) ?_
 rintro _ J ⟨rfl,ht⟩
 have c:=(yq k ht)
 refine cmp rfl rfl rfl (n9 o_) (fP c 13 ?_)
 refine kZ (m:=fO.length) 1 rfl rfl yk c rfl (fP c 12 ?_)
 refine lX (pvs:=[(0,(Za i)),(1,(Za key))]) (v:=.agg (qN i key)) rfl rfl (kV [(0,(Zf i)),(1,(Zf key))] iy Pe rfl ⟨rfl,rfl,rfl,rfl,trivial⟩ rfl) (nk (vs:=[(zZ i key)]) (cs:=(Zj i key)) rfl rfl yk iy rfl (by simp[Value.cells]) rfl rfl rfl c (fun z K L M l=>ri (cf:=gj.cells) (ys:=fO) (zs:=[(⟨i,key⟩:gj)]) (LL:=fun a=>[row (Zx z) 139 2 1 ((Zj i key)),blk hb 247 (nK hb n iv pv),fV gj.cells a 139 2 (fO++[(⟨i,key⟩:gj)]),fV gP pv 266 1 ps,gH gL 268 64 ps pl]) 2 rfl rfl rfl yk iy rfl d_ l rfl (oU l (i:=0) rfl) (fun x hx=>zz.1 (show List.all _ _=true from rfl) x hx) (by simp only[zp,zx];omega) (by simp only[zp,zx];omega) f_ ?_))
 intro a N A O
 have d:=ym [1,2,3,4] A
 refine fP d 2 ?_
 refine mD (L' := (sQ hb n a pv (fO++[(⟨i,key⟩:gj)]) ps pl)) 0 rfl rfl rfl (cells_one (mg d (i:=1) rfl)) tA rfl (oe (mg d (i:=1) rfl) tC) d rfl rfl rfl rfl ?_
 intro B o
 have p:=yc [_,_,_,_] _ o
 refine fP o 7 ?_
 refine cl DR (Dl hb n a pv ps (fO++[(⟨i,key⟩:gj)]) pl B (yd p (i:=0) rfl) hP i hi (fO.length:Int) (fO.length+1) o_ o_) ?_
 rintro _ C ⟨rfl,ps2₁,D,hP2₁,ht⟩
 have q:=(yq p ht)
 have hP9:=hP2₁
 have s:=yc [_,_,_,_] _ q
 refine fP q 6 ?_
 refine cl Ov (La hb n a pv ps2₁ (fO++[(⟨i,key⟩:gj)]) (iQ pl i (fO.length+1)) C (yd s (i:=0) rfl) hS9 hP9 fO.length (by first|omega|(simp only[gM,zw,zp,zx];omega)) (U6 hOr _)) ?_
 rintro _ P ⟨rfl,E,G,H,b,I,ht⟩
 have t:=(yq s ht)
 refine gf t 8 ?_
 refine gF (v:=Zc) Tryz.results117 rfl ?_
 exact⟨rfl,a,E,G,H,b.hp,b.ir,I,fun e=>(b.mem e).trans s_,by rw[b.nJ,D],by rw[b.len];simp,yr (yc [_,_,_,_] _ t)⟩
theorem SS(hb n:Nat)(iv pv:Value)(ps:List (Option Nat))(fO:List gj)(pl:List Nat)(w:World)(hO:Own (Ze hb n iv pv fO ps pl) w)(hS:Hp n fO pl)(hP:je n ps pl)(i:Nat)(hi:i<n)(p:Nat)(hp:fM pl i=p+1)(key:Int) :
 CR ya 117 (Z2 hb i key) w (fun r w' => r = .int .i64 6/\gp (Ze hb n iv pv fO ps pl) w w' (Ze hb n iv pv fO ps pl)):=by
 have hnn:=hP.n
 have hln:=hS.len
 have hvi:=hP.val i
 refine en Tryz.func117 Tryz.ntmps117 ?_
 have hst0:=(yy hO).unpack
 have a:=yc [_,_,_,_] _ hst0
 refine gh hst0 10 ?_
 refine cl xT (xz hb n iv pv ps fO pl w (yd a (i:=0) rfl)) ?_
 rintro _ g ⟨rfl,ht⟩
 have b:=(yq a ht)
 have c:=yc [_,_,_,_] _ b
 refine fP b 9 ?_
 refine cl Ih (HB hb n iv pv ps fO pl g (yd c (i:=0) rfl) i o_) ?_
 rintro _ h ⟨rfl,ht⟩
 have d:=(yq c ht)
 have e:=yc [_,_,_,_] _ d
 refine fP d 9 ?_
 refine cl Ig (Gt hb n iv pv ps fO pl h (yd e (i:=0) rfl) hP i o_) ?_
 rintro _ j ⟨rfl,ht⟩
 have f:=(yq e ht)
 refine cmp rfl rfl rfl (Ey o_) (gf f 12 ?_)
 refine gF (v:=(.int .i64 6)) Tryz.results117 rfl ?_
 exact⟨rfl,yr (yc [_,_,_,_] _ f)⟩
theorem UP(hb n:Nat)(iv pv:Value)(ps:List (Option Nat))(fO:List gj)(pl:List Nat)(w:World)(hO:Own (Ze hb n iv pv fO ps pl) w)(hS:Hp n fO pl)(hP:je n ps pl)(hOr:Ord fO)(p:Nat)(hp:p<fO.length) :
 CR ya 98 (Zn hb p) w (fun r w' => r = .tuple #[]/\∃ jv qs ys zl,Hp n ys zl/\je n qs zl/\Ord ys/\(∀ e,e∈ys↔e∈fO/\e.ix≠(fM fO p).ix)/\qs.length=ps.length/\ys.length+1=fO.length/\gp (Ze hb n iv pv fO ps pl) w w' (Ze hb n jv pv ys qs zl)):=by
 have hnn:=hP.n
 have hln:=hS.len
 obtain⟨k,hk⟩:∃ k,fO.length=k+1:=⟨fO.length-1,o_⟩
 have hsw:=hS.swap hp (show k<fO.length by omega)
 have hsl:=l7 fO p k
 have hct:=hsw.cut (m:=k) o_
 have hmm:=fun e=>(WI hsw (m:=k) o_ e)
 have hsk:fM (iB fO p k) k=fM fO p:=by rw[xD hp o_,if_pos rfl]
 have htl:((iB fO p k).take k).length=k:=by rw[kD];omega
 refine en Tryz.func98 Tryz.ntmps98 ?_
 have hst0:=(yy hO).unpack
 refine gh hst0 6 ?_
 refine kZ (m:=fO.length) 1 rfl rfl yk hst0 rfl (ar (e:=(k:Int)) rfl rfl rfl rfl (by rw[iV o_];omega) ?_)
 have g:=yc [_,_,_,_] _ hst0
 refine fP hst0 8 ?_
 refine cl HX (GR hb n iv pv ps fO pl w (yd g (i:=0) rfl) hS hP p k hp o_) ?_
 rintro _ u ⟨rfl,v,j,x,ht⟩
 have a:=(yq g ht)
 refine fP a 10 ?_
 refine jj (cf:=gj.cells) (k:=k) (i:=(k:Int)) rfl rfl rfl yk iy (ye a (i:=1) rfl f_) o_ o_ (gy om) (vH (cf:=gj.cells) (off:=0) (off' := 0) rfl rfl yu rfl gq rfl (ye a (i:=1) rfl f_) (gy om) (kE (cf:=gj.cells) rfl rfl yf rfl (ye a (i:=1) rfl f_) (gy om) rfl ?_))
 have o:=yc [_,_,_,_] _ a
 refine cl DR (Dl hb n iv pv v (iB fO p k) (iQ (iQ pl (fM (iB fO p k) p).ix (p+1)) (fM (iB fO p k) k).ix (k+1)) u (yd o (i:=0) rfl) x ((fM (iB fO p k) k).ix) (hsw.ix k o_) (-1) 0 o_ o_) ?_
 rintro _ y ⟨rfl,ps2₁,q,hP2₁,ht⟩
 have f:=(yq o ht)
 have hP9:=hP2₁
 refine fP f 10 ?_
 refine slV (l:=0) (h:=k) rfl rfl yk iy (ye (cf:=gj.cells) f (i:=1) rfl f_) rfl ⟨_,gJ o_⟩ o_ o_ ?_
 have d:St _ [blk hb 247 (nK hb n iv pv),fV gj.cells (mR 2 iv 0 k) 139 2 ((iB fO p k).take k),fV gP pv 266 1 ps2₁,gH gL 268 64 ps2₁ (iQ (iQ (iQ pl (fM (iB fO p k) p).ix (p+1)) (fM (iB fO p k) k).ix (k+1)) ((fM (iB fO p k) k).ix) 0)] y:=St.Xd f (i:=1) rfl f_ o_
 refine fP d 2 ?_
 refine mD (L' := (sQ hb n (mR 2 iv 0 k) pv ((iB fO p k).take k) ps2₁ (iQ (iQ (iQ pl (fM (iB fO p k) p).ix (p+1)) (fM (iB fO p k) k).ix (k+1)) ((fM (iB fO p k) k).ix) 0))) 0 rfl rfl rfl (cells_one (mg d (i:=1) rfl)) tA rfl (oe (mg d (i:=1) rfl) tC) d rfl rfl rfl rfl (fun z b=>fP b 6 ?_)
 by_cases E:((p:Int):Int)<((k:Int):Int)
 . have s:=yc [_,_,_,_] _ b
   refine fP b 7 ?_
   refine cl Ov (La hb n (mR 2 iv 0 k) pv ps2₁ ((iB fO p k).take k) (iQ (iQ (iQ pl (fM (iB fO p k) p).ix (p+1)) (fM (iB fO p k) k).ix (k+1)) ((fM (iB fO p k) k).ix) 0) z (yd s (i:=0) rfl) hct hP9 p (by first|omega|(simp only[gM,zw,zp,zx];omega)) (hOr.cut hk o_)) ?_
   rintro _ G ⟨rfl,A,B,C,c,D,ht⟩
   have t:=(yq s ht)
   refine gf t 1 ?_
   refine jf Tryz.results98 ?_
   exact⟨rfl,(mR 2 iv 0 k),A,B,C,c.hp,c.ir,D,fun e=>(c.mem e).trans (by rw[hmm e,Gw hp o_,hsk]),by rw[c.nJ,q,j],by rw[c.len,htl];omega,yr (yc [_,_,_,_] _ t)⟩
 . refine gf b 5 ?_
   refine jf Tryz.results98 ?_
   have hpk:p=k:=by omega
   exact⟨rfl,(mR 2 iv 0 k),ps2₁,((iB fO p k).take k),iQ (iQ (iQ pl (fM (iB fO p k) p).ix (p+1)) (fM (iB fO p k) k).ix (k+1)) ((fM (iB fO p k) k).ix) 0,hct,hP9,by subst hpk;rw[TQ hp];exact hOr.We o_,fun e=>by rw[hmm e,Gw hp o_,hsk],by rw[q,j],by rw[htl];omega,yr (yc [_,_,_,_] _ b)⟩
theorem L7(hb n:Nat)(iv pv:Value)(ps:List (Option Nat))(fO:List gj)(pl:List Nat)(w:World)(hO:Own (Ze hb n iv pv fO ps pl) w)(hS:Hp n fO pl)(hP:je n ps pl)(h0:fO.length=0) :
 CR ya 97 (Zg hb) w (fun r w' => r = .tuple Cj/\gp (Ze hb n iv pv fO ps pl) w w' (Ze hb n iv pv fO ps pl)):=by
 refine en Tryz.func97 Tryz.ntmps97 ?_
 have hst0:=(yy hO).unpack
 refine gh hst0 2 ?_
 refine al (cs:=Zz) rfl iy rfl hst0 ?_
 intro g e h j b
 have f:=ym [1,2,3,4,0] b
 have c:=yc [_,_,_,_] _ f
 refine fP b 7 ?_
 refine cl xT (xz hb n iv pv ps fO pl e (yd c (i:=0) rfl)) ?_
 rintro _ k ⟨rfl,ht⟩
 have a:=(yq c ht)
 refine fP a 6 ?_
 refine kZ (m:=fO.length) 1 rfl rfl yk a rfl (cmp rfl rfl rfl (sF o_) (fP a 6 ?_))
 refine lX (pvs:=[]) (v:=.agg #[Zc,Zc]) rfl rfl (kV [] iy Pe rfl trivial rfl) (lW a 6 fun l d=>?_)
 refine qw (v:=JM) (v' := Zq) Tryz.results97 (p5 (cs:=Zz) rfl yu rfl iy rfl (mW d (i:=4) (o:=0) (vs:=Zz) rfl rfl)) (qO rfl) ?_
 exact⟨rfl,yr (yc [_,_,_,_] _ d)⟩
theorem MN(hb n:Nat)(iv pv:Value)(ps:List (Option Nat))(fO:List gj)(pl:List Nat)(w:World)(hO:Own (Ze hb n iv pv fO ps pl) w)(hS:Hp n fO pl)(hP:je n ps pl)(h0:0<fO.length) :
 CR ya 97 (Zg hb) w (fun r w' => r = .tuple (Ch ((fM fO 0).ix:Int) ((fM fO 0).key))/\gp (Ze hb n iv pv fO ps pl) w w' (Ze hb n iv pv fO ps pl)):=by
 refine en Tryz.func97 Tryz.ntmps97 ?_
 have hst0:=(yy hO).unpack
 refine gh hst0 2 ?_
 refine al (cs:=Zz) rfl iy rfl hst0 ?_
 intro g e h j b
 have f:=ym [1,2,3,4,0] b
 have c:=yc [_,_,_,_] _ f
 refine fP b 7 ?_
 refine cl xT (xz hb n iv pv ps fO pl e (yd c (i:=0) rfl)) ?_
 rintro _ l ⟨rfl,ht⟩
 have a:=(yq c ht)
 refine fP a 6 ?_
 refine kZ (m:=fO.length) 1 rfl rfl yk a rfl (cmp rfl rfl rfl (Br o_) (fP a 12 ?_))
 refine jj (cf:=gj.cells) (k:=0) (i:=0) rfl rfl rfl yk iy (ye a (i:=1) rfl f_) o_ o_ (gy om) (By (cf:=gj.cells) (cs:=(Zj ((fM fO 0).ix:Int) ((fM fO 0).key))) rfl rfl yu rfl iy (ye a (i:=1) rfl f_) (gy om) rfl rfl (lW a 5 fun p d=>?_))
 refine qw (v:=(zZ ((fM fO 0).ix:Int) ((fM fO 0).key))) (v' := Zl) Tryz.results97 (p5 (cs:=(Zj ((fM fO 0).ix:Int) ((fM fO 0).key))) rfl yu rfl iy rfl (mW d (i:=4) (o:=0) (vs:=(Zj ((fM fO 0).ix:Int) ((fM fO 0).key))) rfl rfl)) (qO rfl) ?_
 exact⟨rfl,yr (yc [_,_,_,_] _ d)⟩
theorem U2(hb n:Nat)(iv pv:Value)(ps:List (Option Nat))(fO:List gj)(pl:List Nat)(w:World)(hO:Own (Ze hb n iv pv fO ps pl) w)(hS:Hp n fO pl)(hP:je n ps pl)(hOr:Ord fO)(h0:0<fO.length) :
 CR ya 58 (Zg hb) w (fun r w' => r = .tuple (Ch ((fM fO 0).ix:Int) ((fM fO 0).key))/\∃ jv qs ys zl,Hp n ys zl/\je n qs zl/\Ord ys/\(∀ e,e∈ys↔e∈fO/\e.ix≠(fM fO 0).ix)/\qs.length=ps.length/\ys.length+1=fO.length/\gp (Ze hb n iv pv fO ps pl) w w' (Ze hb n jv pv ys qs zl)):=by
 refine en Tryz.func58 Tryz.ntmps58 ?_
 have hst0:=(yy hO).unpack
 refine gh hst0 2 ?_
 refine al (cs:=Zz) rfl iy rfl hst0 ?_
 intro x g y z a
 have h:=ym [1,2,3,4,0] a
 have b:=yc [_,_,_,_] _ h
 refine fP a 6 ?_
 refine cl xZ (MN hb n iv pv ps fO pl g (yd b (i:=0) rfl) hS hP h0) ?_
 rintro _ A ⟨rfl,ht⟩
 have c:=(yq b ht)
 refine fP c 3 ?_
 refine al (cs:=Zz) rfl iy rfl c (fun B C D E j=>mU j 13 fun k l=>?_)
 have m:=ym [1,2,3,4,0,5] l
 have d:=yc [_,_,_,_] _ m
 refine cl ZS (UP hb n iv pv ps fO pl k (yd d (i:=0) rfl) hS hP hOr 0 h0) ?_
 rintro _ G ⟨rfl,p,q,s,t,a1₁,a2₁,a3₁,a4₁,a5₁,a6₁,ht⟩
 have u:=(yq d ht)
 refine lW u 11 fun H f=>?_
 refine qw (v:=(zZ ((fM fO 0).ix:Int) ((fM fO 0).key))) (v' := Zl) Tryz.results58 (p5 (cs:=(Zj ((fM fO 0).ix:Int) ((fM fO 0).key))) rfl yu rfl iy rfl (mW f (i:=5) (o:=0) (vs:=(Zj ((fM fO 0).ix:Int) ((fM fO 0).key))) rfl rfl)) (qO rfl) ?_
 exact⟨rfl,p,q,s,t,a1₁,a2₁,a3₁,a4₁,a5₁,a6₁,yr (yc [_,_,_,_] _ f)⟩
theorem V3(hb n:Nat)(iv pv:Value)(ps:List (Option Nat))(fO:List gj)(pl:List Nat)(w:World)(hO:Own (Ze hb n iv pv fO ps pl) w)(hS:Hp n fO pl)(hP:je n ps pl)(h0:fO.length=0) :
 CR ya 58 (Zg hb) w (fun r w' => r = .tuple Cj/\gp (Ze hb n iv pv fO ps pl) w w' (Ze hb n iv pv fO ps pl)):=by
 refine en Tryz.func58 Tryz.ntmps58 ?_
 have hst0:=(yy hO).unpack
 refine gh hst0 2 ?_
 refine al (cs:=Zz) rfl iy rfl hst0 ?_
 intro j e k l a
 have f:=ym [1,2,3,4,0] a
 have b:=yc [_,_,_,_] _ f
 refine fP a 6 ?_
 refine cl xZ (L7 hb n iv pv ps fO pl e (yd b (i:=0) rfl) hS hP h0) ?_
 rintro _ m ⟨rfl,ht⟩
 have c:=(yq b ht)
 refine fP c 3 ?_
 refine al (cs:=Zz) rfl iy rfl c (fun p q s t g=>lW g 22 fun u d=>?_)
 refine qw (v:=JM) (v' := Zq) Tryz.results58 (p5 (cs:=Zz) rfl yu rfl iy rfl (mW d (i:=5) (o:=0) (vs:=Zz) rfl rfl)) (qO rfl) ?_
 have h:=ym [1,2,3,4,0,5] d
 exact⟨rfl,yr (yc [_,_,_,_] _ h)⟩
end
section
open Go Go.Sx
theorem Ln(v:Value)(xs:List gj)(w:World)(hv:jx 2 gj.cells (fun _=>True) w v xs)(hl0:xs.length<=1000000) :
 CR ya 156 #[v] w (fun r w' => qt 2 gj.cells w w' r 139 xs/\gD [] w w'):=by
 refine en Tryz.func156 Tryz.ntmps156 ?_
 have hst0:=jB w
 refine gh hst0 9 ?_
 refine DV (v:=v) rfl rfl rfl yk hv (gX hst0 2 ?_)
 cases e:(wo v:Bool)
 . skip
   refine gh hst0 5 ?_
   refine nk (vs:=[]) (cs:=[]) rfl rfl yk iy rfl (by intro v hv;simp at hv) rfl rfl rfl hst0 ?_
   intro f g h i c
   have d:=c
   refine fP c 1 ?_
   refine ri (cf:=gj.cells) (ys:=[]) (zs:=xs) (LL:=fun a=>[fV gj.cells a 139 2 xs]) 0 rfl rfl rfl yk iy rfl d_ d rfl (jx.src (oC d s_ d_ hv) f_) (xF f_ _) (by simp only[zx];omega) (by simp only[zx];omega) f_ (fun a j b k=>gf b 4 ?_)
   refine gF (v:=a) Tryz.results156 rfl ?_
   exact⟨St.C2 b s_,b.gI s_⟩
 . skip
   refine jr hst0 8 ?_
   refine gF (v:=Zk) Tryz.results156 rfl ?_
   obtain rfl:=Dx e hv
   exact⟨qt.Es, hst0.gI s_⟩
theorem WB(n:Nat)(w:World)(hn:n<=65536) :
 CR ya 93 (rO n) w (fun r w' => ∃ hb pv,r = .tuple (Z8 hb)/\gp (gG []) w w' (gG [blk hb 247 [(Zb hb),(Za n),Zk,pv],fV gj.cells Zk 139 2 ([]),fV gP pv 266 1 (List.replicate ((n+63) / 64) none),gH gL 268 64 (List.replicate ((n+63) / 64) none) (List.replicate (64*((n+63) / 64)) 0)])):=by
 refine en Tryz.func93 Tryz.ntmps93 ?_
 have hst0:=jB w
 refine gh hst0 10 ?_
 refine cmp rfl rfl rfl (nE o_) (fP hst0 2 ?_)
 refine cmp rfl rfl rfl (tv o_) (fP hst0 10 ?_)
 refine ar (e:=((n+64:Nat):Int)) rfl rfl rfl rfl (by rw[iV o_];omega) (ar (e:=((n+63:Nat):Int)) rfl rfl rfl rfl (by rw[iV o_];omega) (quo (a:=((n+63:Nat):Int)) (b:=64) (e:=(((n+63) / 64:Nat):Int)) rfl rfl rfl d_ (uN 64 o_) (BA (cf:=gP) (z0:=none) (m:=((n+63) / 64)) (c:=((n+63) / 64)) rfl rfl rfl oF pI rfl f_ d_ (zn _) o_ o_ hst0 (fun d s t u j=>lX (pvs:=[(1,(Za n)),(3,(Zs d ((n+63) / 64)))]) (v:=.agg (QT n d ((n+63) / 64))) rfl rfl (kV [(1,(Zf n)),(3,(Fa d ((n+63) / 64)))] Eh Pk rfl ⟨rfl,rfl,rfl,rfl,trivial⟩ rfl) (bx (v:=(.agg (QT n d ((n+63) / 64)))) (cs:=[Z1,(Za n),Zk,(Zs d ((n+63) / 64))]) rfl rfl rfl j (fun f x y z k=>mU k 14 fun g l=>?_))))))
 have o:=St.Bi (cf:=gP) l (i:=1) rfl f_ (zn _) (by simp only[maxLen];omega)
 have p:St _ [gH gL 268 64 (List.replicate ((n+63) / 64) none) (List.replicate (64*((n+63) / 64)) 0),blk f 247 (Qx f n d ((n+63) / 64)),fV gP (Zs d ((n+63) / 64)) 266 1 (List.replicate ((n+63) / 64) none)] g:=St.D1 o ((n+63) / 64)
 have h:St _ [fV gj.cells Zk 139 2 ([]),gH gL 268 64 (List.replicate ((n+63) / 64) none) (List.replicate (64*((n+63) / 64)) 0),blk f 247 (Qx f n d ((n+63) / 64)),fV gP (Zs d ((n+63) / 64)) 266 1 (List.replicate ((n+63) / 64) none)] g:=u6 p 139 2
 refine gf h 6 ?_
 refine jm (v:=(Zb f)) (v' := Zc) Tryz.results93 rfl rfl ?_
 have q:=ym [2,0,3,1] h
 exact⟨f,(Zs d ((n+63) / 64)),rfl,St.eM (yc [_,_,_,_] [] q)⟩
abbrev VR:List (List Nat):=[[],[0],[0,1],[0,1,2],[],[4],[4,5],[4,5,6],[4,5,6,7],[],[9],[9,10],[9,10,11],[9,10,11,12],[9,10,11,12,13],[0,1,2,3,4,5,6,7,8,9,10,11,12,13,14],[0,1,2,3,4,5,6,7,8,9,10,11,12,13,14,15],[0,1,2,3,4,5,6,7,8,9,10,11,12,13,14,15,16]]
theorem VA(hb n:Nat)(iv pv:Value)(ps:List (Option Nat))(fO:List gj)(pl:List Nat)(w:World)(hO:Own (Ze hb n iv pv fO ps pl) w)(hS:Hp n fO pl)(hP:je n ps pl) :
 CR ya 111 (Zg hb) w (fun r w' => ∃ hb2 iv2 pv2 qs,r = .pointer (some ⟨hb2,0,none⟩)/\je n qs pl/\qs.length=ps.length/\gp (Ze hb n iv pv fO ps pl) w w' (gG [blk hb 247 (nK hb n iv pv),fV gj.cells iv 139 2 fO,fV gP pv 266 1 ps,gH gL 268 64 ps pl,blk hb2 247 (nK hb2 n iv2 pv2),fV gj.cells iv2 139 2 fO,fV gP pv2 266 1 qs,gH gL 268 64 qs pl])):=by
 have hnn:=hP.n
 have hln:=hS.len
 have hpll:=hP.len
 have hpr:=hP.room
 have hpsl:=hP.top
 refine enter (vs:=(Zi hb)) Tryz.func111 rfl Tryz.ntmps111 rfl ?_
 have hst0:=(yy hO).unpack
 have z:=yc [_,_,_,_] _ hst0
 refine gh hst0 9 ?_
 refine tP (vl:=(Zi hb)) rfl rfl xT (xz hb n iv pv ps fO pl w (yd z (i:=0) rfl)) ?_
 rintro _ O ⟨rfl,ht⟩
 have s:=(St.sD (R' := (Ze hb n iv pv fO ps pl)) 0 z rfl ht rfl).unpack
 refine gX s 7 ?_
 refine Pu (Γ:=Value×Nat×Nat) mixed VR [8,14,16] k_ [fun(d,e,g)=>(Zb hb),fun(d,e,g)=>(Zb hb),fun(d,e,g)=>(zF hb),fun(d,e,g)=>(Za n),fun(d,e,g)=>(Zb hb),fun(d,e,g)=>(Zb hb),fun(d,e,g)=>(rJ hb),fun(d,e,g)=>iv,fun(d,e,g)=>d,fun(d,e,g)=>(Zb hb),fun(d,e,g)=>(Zb hb),fun(d,e,g)=>(zI hb),fun(d,e,g)=>pv,fun(d,e,g)=>(Za ps.length),fun(d,e,g)=>(Zs e ps.length),fun(d,e,g)=>(JZ n d e ps.length),fun(d,e,g)=>(Zb g),fun(d,e,g)=>(Zb g)] [([],(fun(d,e,g)=>(sQ hb n iv pv fO ps pl),fun _ _=>True)),([8],(fun(d,e,g)=>[fV gj.cells d 139 2 fO,blk hb 247 (nK hb n iv pv),fV gj.cells iv 139 2 fO,fV gP pv 266 1 ps,gH gL 268 64 ps pl],fun _ _=>True)),([14],(fun(d,e,g)=>[blk e 266 ((List.replicate ps.length none).flatMap gP),blk hb 247 (nK hb n iv pv),fV gj.cells iv 139 2 fO,fV gP pv 266 1 ps,gH gL 268 64 ps pl],fun _ _=>True)),([8,14],(fun(d,e,g)=>[blk e 266 ((List.replicate ps.length none).flatMap gP),fV gj.cells d 139 2 fO,blk hb 247 (nK hb n iv pv),fV gj.cells iv 139 2 fO,fV gP pv 266 1 ps,gH gL 268 64 ps pl],fun _ _=>True)),([8,14,16],(fun(d,e,g)=>[blk g 247 (Qv n d e ps.length),blk e 266 ((List.replicate ps.length none).flatMap gP),fV gj.cells d 139 2 fO,blk hb 247 (nK hb n iv pv),fV gj.cells iv 139 2 fO,fV gP pv 266 1 ps,gH gL 268 64 ps pl],fun _ _=>True))] (Zk,0,0) (fun(d,e,g)=>(3,(Zb g)) :: (26,(Zb g)) :: (25,(JZ n d e ps.length)) :: (24,(Zs e ps.length)) :: (23,(Za ps.length)) :: (22,pv) :: (21,(zI hb)) :: (20,(Zb hb)) :: (19,(Zb hb)) :: (18,d) :: (17,iv) :: (16,(rJ hb)) :: (15,(Zb hb)) :: (14,(Zb hb)) :: (13,(Za n)) :: (12,(zF hb)) :: (11,(Zb hb)) :: (10,(Zb hb)) :: _) rfl s (fun _ _=>trivial) ?_ (fun(d,e,g)=>rfl) rfl ?_
 . skip
   refine mG rfl (fun(d,e,g) _ _=>qv rfl rfl (iD (v:=(Zb hb)) rfl)) (mG rfl (fun(d,e,g) _ _=>qv rfl rfl (jY (a:=⟨hb,0,none⟩) rfl)) (mG rfl (fun(d,e,g) _ _=>qv rfl rfl (jL (o:=0) (o' := 1) rfl ug rfl gq rfl)) (yB rfl ⟨(fun(d,e,g) wq hM hF=>qv rfl rfl (gZ (a:=⟨hb,1,none⟩) (v:=(Za n)) rfl yf rfl (yo hM (i:=0) rfl rfl))),(fun(d,e,g) wq hM hF=>qv rfl rfl (gZ (a:=⟨hb,1,none⟩) (v:=(Za n)) rfl yf rfl (yo hM (i:=1) rfl rfl))),(fun(d,e,g) wq hM hF=>qv rfl rfl (gZ (a:=⟨hb,1,none⟩) (v:=(Za n)) rfl yf rfl (yo hM (i:=1) rfl rfl))),(fun(d,e,g) wq hM hF=>qv rfl rfl (gZ (a:=⟨hb,1,none⟩) (v:=(Za n)) rfl yf rfl (yo hM (i:=2) rfl rfl))),trivial,trivial⟩ (mG rfl (fun(d,e,g) _ _=>qv rfl rfl (iD (v:=(Zb hb)) rfl)) (mG rfl (fun(d,e,g) _ _=>qv rfl rfl (jY (a:=⟨hb,0,none⟩) rfl)) (mG rfl (fun(d,e,g) _ _=>qv rfl rfl (jL (o:=0) (o' := 2) rfl ug rfl tA rfl)) (yB rfl ⟨(fun(d,e,g) wq hM hF=>qv rfl rfl (gZ (a:=⟨hb,2,none⟩) (v:=iv) rfl yk rfl (yo hM (i:=0) rfl rfl))),trivial,(fun(d,e,g) wq hM hF=>qv rfl rfl (gZ (a:=⟨hb,2,none⟩) (v:=iv) rfl yk rfl (yo hM (i:=1) rfl rfl))),trivial,trivial,trivial⟩ ?_)))))))
   refine yK rfl ⟨⟨_,_,rfl,fun(d,e,g) wq hM hF=>kC rfl rfl (iX (vl:=[iv]) rfl Oh) (Ln iv fO wq (ye hM (i:=1) rfl f_).any (by first|omega|(simp;omega))) (fun t _ hz=>⟨(t,e,g),⟨(zD hM hz.2 hz.1),trivial⟩,rfl,fS rfl (fS rfl (fS rfl (fS rfl (fS rfl (fS rfl (fS rfl (fS rfl (fS trivial (fS rfl (fS rfl (fS rfl (fS rfl (fS rfl (fS rfl (fS trivial (fS trivial (fS trivial (kM))))))))))))))))))⟩)⟩,trivial,⟨_,_,rfl,fun(d,e,g) wq hM hF=>kC rfl rfl (iX (vl:=[iv]) rfl Oh) (Ln iv fO wq (ye hM (i:=2) rfl f_).any (by first|omega|(simp;omega))) (fun t _ hz=>⟨(t,e,g),⟨(lP (zD hM hz.2 hz.1) (List.Perm.swap _ _ _)),trivial⟩,rfl,fS rfl (fS rfl (fS rfl (fS rfl (fS rfl (fS rfl (fS rfl (fS rfl (fS trivial (fS rfl (fS rfl (fS rfl (fS rfl (fS rfl (fS rfl (fS trivial (fS trivial (fS trivial (kM))))))))))))))))))⟩)⟩,trivial,trivial,trivial⟩ (mG rfl (fun(d,e,g) _ _=>qv rfl rfl (iD (v:=(Zb hb)) rfl)) (mG rfl (fun(d,e,g) _ _=>qv rfl rfl (jY (a:=⟨hb,0,none⟩) rfl)) (mG rfl (fun(d,e,g) _ _=>qv rfl rfl (jL (o:=0) (o' := 3) rfl ug rfl IJ rfl)) (yB rfl ⟨(fun(d,e,g) wq hM hF=>qv rfl rfl (gZ (a:=⟨hb,3,none⟩) (v:=pv) rfl oF rfl (yo hM (i:=0) rfl rfl))),(fun(d,e,g) wq hM hF=>qv rfl rfl (gZ (a:=⟨hb,3,none⟩) (v:=pv) rfl oF rfl (yo hM (i:=1) rfl rfl))),trivial,trivial,trivial,trivial⟩ (mG rfl (fun(d,e,g) _ _=>qv rfl rfl (nU (v:=pv) rfl oF (ye (cf:=gP) s (i:=2) rfl f_))) (yK rfl ⟨⟨_,_,rfl,fun(d,e,g) wq hM hF=>N7 (cf:=gP) (z0:=none) (m:=ps.length) (c:=ps.length) rfl rfl rfl oF pI rfl f_ d_ (zn _) o_ o_ hM (fun x _ h=>⟨(d,x,g),⟨h,trivial⟩,rfl,fS rfl (fS rfl (fS rfl (fS rfl (fS rfl (fS rfl (fS rfl (fS rfl (fS rfl (fS rfl (fS rfl (fS rfl (fS rfl (fS rfl (fS trivial (fS trivial (fS trivial (fS trivial (kM))))))))))))))))))⟩)⟩,⟨_,_,rfl,fun(d,e,g) wq hM hF=>N7 (cf:=gP) (z0:=none) (m:=ps.length) (c:=ps.length) rfl rfl rfl oF pI rfl f_ d_ (zn _) o_ o_ hM (fun x _ h=>⟨(d,x,g),⟨h,trivial⟩,rfl,fS rfl (fS rfl (fS rfl (fS rfl (fS rfl (fS rfl (fS rfl (fS rfl (fS rfl (fS rfl (fS rfl (fS rfl (fS rfl (fS rfl (fS trivial (fS trivial (fS trivial (fS trivial (kM))))))))))))))))))⟩)⟩,trivial,trivial,trivial,trivial⟩ (yB rfl ⟨trivial,trivial,trivial,(fun(d,e,g) wq hM hF=>qv rfl rfl (uI (pvs:=[(1,(Za n)),(2,d),(3,(Zs e ps.length))]) (v:=.agg #[Z1,(Za n),d,(Zs e ps.length)]) rfl (kV [(1,(Zf n)),(2,[d]),(3,(Fa e ps.length))] Eh Pk rfl ⟨rfl,rfl,rfl,(cells_one (mg hM (i:=1) rfl)),rfl,rfl,trivial⟩ rfl))),trivial,trivial⟩ ?_)))))))
   refine yK rfl ⟨trivial,trivial,trivial,⟨_,_,rfl,fun(d,e,g) wq hM hF=>Er (v:=(JZ n d e ps.length)) (cs:=(Qv n d e ps.length)) rfl rfl rfl hM (fun C _ h=>⟨(d,e,C),⟨h,trivial⟩,rfl,fS rfl (fS rfl (fS rfl (fS rfl (fS rfl (fS rfl (fS rfl (fS rfl (fS rfl (fS rfl (fS rfl (fS rfl (fS rfl (fS rfl (fS rfl (fS rfl (fS trivial (fS trivial (kM))))))))))))))))))⟩)⟩,trivial,trivial⟩ (mG rfl (fun(d,e,g) _ _=>qv rfl rfl (tB (v:=(Zb g)) rfl)) ?_)
   exact Po
 rintro⟨d,e,g⟩ P D -
 refine QA tt none D 13 fun E G=>?_
 have H:=St.Bi (cf:=gP) G (i:=1) rfl f_ (zn _) (by simp only[maxLen];omega)
 have I:St _ [gH gL 268 64 (List.replicate ps.length none) pl,blk g 247 (Fk g n d e ps.length),fV gP (Zs e ps.length) 266 1 (List.replicate ps.length none),fV gj.cells d 139 2 fO,blk hb 247 (nK hb n iv pv),fV gj.cells iv 139 2 fO,fV gP pv 266 1 ps,gH gL 268 64 ps pl] E:=St.D1 H ps.length
 have p:=ym [4,5,6,7,1,3,2,0] I
 refine fP p 4 ?_
 refine kZ (m:=ps.length) 2 rfl rfl oF p rfl (gX p 4 ?_)
 refine lp (α:=Nat×List (Option Nat)) (fun(k,qs)=>[(3,(Zb g)),(34,pv),(35,(Za ps.length)),(36,(Za k))]) (fun(k,qs) w1=>St [(w,(Ze hb n iv pv fO ps pl).gU)] (Qt hb n iv pv fO ps pl g d e ps.length qs) w1/\k<=ps.length/\qc ps qs k) (fun(k,qs)=>ps.length-k) (0,(List.replicate ps.length none)) ⟨rfl,rfl,rfl,gJ (by first|rfl|omega),trivial⟩ (⟨p,o_,qc.start ps⟩) ?_
 rintro⟨k,qs⟩ Q R ⟨hst6,hk6,hC⟩
 have hkn:=hP.len
 have hql:=hC.len
 refine gh hst6 2 ?_
 by_cases S:((k:Int):Int)<((ps.length:Int):Int)
 . have hk:k<ps.length:=by omega
   refine fP hst6 12 ?_
   refine jj (cf:=gP) (k:=k) (i:=(k:Int)) rfl rfl rfl oF pI (ye hst6 (i:=2) rfl f_) o_ o_ (gy om) (kE (cf:=gP) (u:=(.pointer ((fM ps k).map fun b=>⟨b,0,none⟩))) rfl rfl rG rfl (ye hst6 (i:=2) rfl f_) (gy om) rfl ?_)
   obtain⟨J,l⟩:∃ q,(fM ps k)=q:=⟨_,rfl⟩
   refine fP hst6 7 ?_
   rcases J with _|A
   . skip
     refine ow (a:=(fM ps k).map fun b=>⟨b,0,none⟩) (c:=false) rfl rfl rfl rG (by rw[l];rfl) (gf hst6 10 ?_)
     refine tN (?_)
     exact again ((k+1),qs) ⟨rfl,rfl,rfl,gJ (by first|rfl|omega),trivial⟩ (⟨hst6,o_,hC.skip ((gy hk).trans (congrArg some l))⟩) (by show (ps.length-(k+1):Nat)<ps.length-k;omega)
   . skip
     refine ow (a:=(fM ps k).map fun b=>⟨b,0,none⟩) (c:=true) rfl rfl rfl rG (by rw[l];rfl) (fP hst6 6 ?_)
     refine q8 (a:=⟨A,0,none⟩) rfl (xC l) ?_
     have hcl:(((pl.drop (64*k)).take 64).flatMap gL).length=64:=LH (cf:=gL) (sz:=1) f_ hP.len hk
     refine rA (b:=A) (o:=0) (cs:=(((pl.drop (64*k)).take 64).flatMap gL)) rfl rfl Fe rfl Bt hcl (St.Me hst6 (i:=3) rfl ((gy hk).trans (congrArg some l))) (al (cs:=Jz) rfl Bt rfl hst6 (fun j U V W K=>lM (v:=.agg (((pl.drop (64*k)).take 64).flatMap gL).toArray) (vs:=(((pl.drop (64*k)).take 64).flatMap gL)) (L' := [blk j 268 (((pl.drop (64*k)).take 64).flatMap gL),blk hb 247 (nK hb n iv pv),fV gj.cells iv 139 2 fO,fV gP pv 266 1 ps,gH gL 268 64 ps pl,blk g 247 (Fk g n d e ps.length),fV gj.cells d 139 2 fO,fV gP (Zs e ps.length) 266 1 qs,gH gL 268 64 qs pl]) 0 rfl rfl rfl rfl Bt hcl (zz.2 (xF f_ _)) K rfl (by rw[hcl];decide) (LB (by rw[hcl];rfl)) rfl (fun X y Y=>fP y 8 ?_)))
     refine jj (cf:=gP) (k:=k) (i:=(k:Int)) rfl rfl rfl oF pI (ye y (i:=7) rfl f_) o_ o_ (gy om) (sy (cf:=gP) (ys:=qs) (k:=k) (off:=0) (f:=(fun _=>(some j))) (u:=(Zb j)) (vs:=(Zi j)) (L' := [blk j 268 (((pl.drop (64*k)).take 64).flatMap gL),blk hb 247 (nK hb n iv pv),fV gj.cells iv 139 2 fO,fV gP pv 266 1 ps,gH gL 268 64 ps pl,blk g 247 (Fk g n d e ps.length),fV gj.cells d 139 2 fO,fV gP (Zs e ps.length) 266 1 (fR qs k (fun _=>(some j))),gH gL 268 64 qs pl]) 7 rfl rfl rfl rfl pI rfl rfl y rfl f_ om rfl rfl rfl (fun Z B=>gf B 7 ?_))
     refine tN (?_)
     have L:=ym [0,8,1,2,3,4,5,6,7] B
     have M:=St.Og L (hC.next hk) rfl
     have N:=ym [1,2,3,4,5,6,7,0] M
     exact again ((k+1),fR qs k (fun _=>(some j))) ⟨rfl,rfl,rfl,gJ (by first|rfl|omega),trivial⟩ (⟨N,o_,hC.set hk⟩) (by show (ps.length-(k+1):Nat)<ps.length-k;omega)
 . refine gf hst6 17 ?_
   refine gF (v:=(Zb g)) Tryz.results111 rfl ?_
   exact⟨g,d,(Zs e ps.length),qs,rfl,hP.copy hC o_,hC.len,yv (R' := (gG (Qt hb n iv pv fO ps pl g d e ps.length qs))) (yc [_,_,_,_,_,_,_,_] _ hst6) zg⟩
end
section
open Go Go.Sx
theorem uk(ab:Nat)(bv:Value)(cn cb cu cl:Int)(ps:List (Option Nat))(sl:List gO)(w:World)(hO:Own (Ae ab bv cn cb cu cl ps sl) w) :
 CR ya 75 (Zg ab) w (fun r w' => r = .bool true/\gp (Ae ab bv cn cb cu cl ps sl) w w' (Ae ab bv cn cb cu cl ps sl)):=by
 refine en Tryz.func75 Tryz.ntmps75 ?_
 have hst0:=(yy hO).unpack
 refine gh hst0 8 ?_
 refine ow (a:=some ⟨ab,0,none⟩) (c:=true) rfl rfl rfl EF rfl (fP hst0 6 ?_)
 refine Eu (a:=⟨ab,0,none⟩) rfl rfl rfl EF Ef (gf hst0 5 ?_)
 refine gF (v:=Zl) Tryz.results75 rfl ?_
 exact⟨rfl,yr (yc [_,_,_] _ hst0)⟩
theorem xO(ab:Nat)(bv:Value)(cn cb cu cl:Int)(ps:List (Option Nat))(sl:List gO)(w:World)(hO:Own (Ae ab bv cn cb cu cl ps sl) w)(i:Nat)(hi:i<=1000000)(b:Nat)(hb:ps[i / 64]? = some (some b)) :
 CR ya 100 (Zn ab i) w (fun r w' => r = .pointer (some ⟨b,i%64*3+0,none⟩)/\gp (Ae ab bv cn cb cu cl ps sl) w w' (Ae ab bv cn cb cu cl ps sl)):=by
 have hij:i / 64<ps.length:=(zd.1 hb).1
 refine en Tryz.func100 Tryz.ntmps100 ?_
 have hst0:=(yy hO).unpack
 refine gh hst0 12 ?_
 refine quo (a:=(i:Int)) (b:=64) (e:=((i / 64:Nat):Int)) rfl rfl rfl d_ (uN 64 o_) (jj (cf:=gP) (k:=(i / 64)) (i:=((i / 64:Nat):Int)) rfl rfl rfl vu wh (ye hst0 (i:=1) rfl f_) o_ o_ (gy om) (kE (cf:=gP) rfl rfl Tryz.underlying257 rfl (ye hst0 (i:=1) rfl f_) (gy om) rfl (fP hst0 1 ?_)))
 refine rem (a:=(i:Int)) (b:=64) (e:=((i%64:Nat):Int)) rfl rfl rfl d_ (BK 64) (q8 rfl (xC (od hb)) (lV (o:=0) (o' := i%64*3+0) (i:=((i%64:Nat):Int)) rfl rfl rfl Tryz.underlying262 O2 o_ (by simp only[rD];omega) (gf hst0 4 ?_)))
 refine gF (v:=(Zw b (i%64*3+0))) Tryz.results100 rfl ?_
 exact⟨rfl,yr (yc [_,_,_] _ hst0)⟩
theorem LM(ab:Nat)(bv:Value)(A:As)(w:World)(hO:Own (Zp ab bv A) w)(hA:A.ok)(i:Nat)(hi:i<=1000000) :
 CR ya 76 (Zn ab i) w (fun r w' => r = .int .i64 (if i<A.begun then(fM A.sl i).st else 0)/\gp (Zp ab bv A) w w' (Zp ab bv A)):=by
 refine en Tryz.func76 Tryz.ntmps76 ?_
 have hst0:=(yy hO).unpack
 refine gh hst0 13 ?_
 by_cases d:((i:Int):Int)≥((A.begun:Int):Int)
 . refine gf hst0 11 ?_
   refine gF (v:=Zc) Tryz.results76 rfl ?_
   exact⟨gJ (by rw[if_neg o_]),yr (yc [_,_,_] _ hst0)⟩
 . have hib:i<A.begun:=by omega
   have hil:=(hA.room hib).1
   obtain⟨b,hb⟩:=hA.at hib
   have c:=yc [_,_,_] _ hst0
   refine fP hst0 10 ?_
   refine cl xQ (xO ab bv (A.n:Int) (A.begun:Int) (A.used:Int) A.last A.ps A.sl w (yd c (i:=0) rfl) i o_ b hb) ?_
   rintro _ e ⟨rfl,ht⟩
   have a:=(yq c ht)
   refine fP a 1 ?_
   refine fa (o' := i%64*3+0) rfl rfl nM rfl gq (by simp only[j4];rfl) (ld rfl rfl yf rfl (Am a (i:=2) rfl f_ d_ hil hb rfl) (gf a 4 ?_))
   refine gF (v:=(Za ((fM A.sl i).st))) Tryz.results76 rfl ?_
   exact⟨gJ (by rw[if_pos o_]),yr (yc [_,_,_] _ a)⟩
theorem Xf(ab:Nat)(bv:Value)(A:As)(w:World)(hO:Own (Zp ab bv A) w)(hA:A.ok) :
 CR ya 81 (Zg ab) w (fun r w' => r = .int .i64 (A.used:Int)/\gp (Zp ab bv A) w w' (Zp ab bv A)):=by
 refine en Tryz.func81 Tryz.ntmps81 ?_
 have hst0:=(yy hO).unpack
 have a:=yc [_,_,_] _ hst0
 refine gh hst0 9 ?_
 refine cl uM (uk ab bv (A.n:Int) (A.begun:Int) (A.used:Int) A.last A.ps A.sl w (yd a (i:=0) rfl)) ?_
 rintro _ c ⟨rfl,ht⟩
 have b:=(yq a ht)
 refine gf b 16 ?_
 refine gF (v:=(Za A.used)) Tryz.results81 rfl ?_
 exact⟨rfl,yr (yc [_,_,_] _ b)⟩
theorem Ur(ab:Nat)(bv:Value)(A:As)(w:World)(hO:Own (Zp ab bv A) w)(hA:A.ok)(i:Nat)(hl:A.last=(i:Int)) :
 CR ya 157 (Zg ab) w (fun r w' => r = .tuple (JN i)/\gp (Zp ab bv A) w w' (Zp ab bv A)):=by
 refine en Tryz.func157 Tryz.ntmps157 ?_
 have hst0:=(yy hO).unpack
 have b:=yc [_,_,_] _ hst0
 refine gh hst0 11 ?_
 refine cl uM (uk ab bv (A.n:Int) (A.begun:Int) (A.used:Int) A.last A.ps A.sl w (yd b (i:=0) rfl)) ?_
 rintro _ c ⟨rfl,ht⟩
 have a:=(yq b ht)
 refine fP a 11 ?_
 refine cmp rfl rfl rfl (Ey o_) (gf a 17 ?_)
 refine jm (v:=(Za A.last)) (v' := Zl) Tryz.results157 rfl rfl ?_
 exact⟨by rw[hl],yr (yc [_,_,_] _ a)⟩
theorem TE(ab:Nat)(bv:Value)(A:As)(w:World)(hO:Own (Zp ab bv A) w)(hA:A.ok)(hl:A.last = -1)(hb:A.begun<A.n) :
 CR ya 157 (Zg ab) w (fun r w' => r = .tuple (JN A.begun)/\gp (Zp ab bv A) w w' (Zp ab bv A)):=by
 refine en Tryz.func157 Tryz.ntmps157 ?_
 have hst0:=(yy hO).unpack
 have b:=yc [_,_,_] _ hst0
 refine gh hst0 11 ?_
 refine cl uM (uk ab bv (A.n:Int) (A.begun:Int) (A.used:Int) A.last A.ps A.sl w (yd b (i:=0) rfl)) ?_
 rintro _ d ⟨rfl,ht⟩
 have a:=(yq b ht)
 refine fP a 11 ?_
 refine cmp rfl rfl rfl (n9 o_) (gX a 5 ?_)
 refine kS a (fun e c=>?_) (hA:=by refine' gN 8 ?k0;case k0=>refine' gw (fun wq hM=>rv (mz rfl rfl (wD o_))) ?k1;case k1=>exact iT)
 refine jE tt none c 15 ?_
 refine jm (v:=(Za A.begun)) (v' := Zl) Tryz.results157 rfl rfl ?_
 exact⟨rfl,yr (yc [_,_,_] _ c)⟩
end
section
open Go Go.Sx
theorem SF(ab:Nat)(bv:Value)(A:As)(w:World)(hO:Own (Zp ab bv A) w)(hA:A.ok)(i:Nat)(r:List Nat)(hf:A.fl=i :: r) :
 CR ya 112 (Zg ab) w (fun r w' => r = .tuple (Ak i)/\∃ A2 bv2,As.ok A2/\(A2.n=A.n/\A2.begun=A.begun/\A2.used=A.used+1)/\(∀ j,A2.ig j↔A.ig j\/j=i)/\gp (Zp ab bv A) w w' (Zp ab bv2 A2)):=by
 have hAn:=hA.n
 have hAle:=hA.le
 have hAu:=hA.used
 obtain⟨hok,hin,hni,hib,hl⟩:=hA.pop hf
 have hil:=(hA.room hib).1
 obtain⟨b,hb⟩:=hA.at hib
 refine en Tryz.func112 Tryz.ntmps112 ?_
 have hst0:=(yy hO).unpack
 have g:=yc [_,_,_] _ hst0
 refine gh hst0 10 ?_
 refine cl uM (uk ab bv (A.n:Int) (A.begun:Int) (A.used:Int) A.last A.ps A.sl w (yd g (i:=0) rfl)) ?_
 rintro _ s ⟨rfl,ht⟩
 have h:=(yq g ht)
 have k:=yc [_,_,_] _ h
 refine fP h 9 ?_
 refine cl NW (Ur ab bv A s (yd k (i:=0) rfl) hA i hl) ?_
 rintro _ t ⟨rfl,ht⟩
 have c:=(yq k ht)
 refine fP c 25 ?_
 refine cmp rfl rfl rfl (sF hl.symm) ?_
 have l:=yc [_,_,_] _ c
 refine fP c 7 ?_
 refine cl xQ (xO ab bv (A.n:Int) (A.begun:Int) (A.used:Int) A.last A.ps A.sl t (yd l (i:=0) rfl) i o_ b hb) ?_
 rintro _ B ⟨rfl,ht⟩
 have d:=(yq l ht)
 refine fP d 1 ?_
 refine fa (o' := i%64*3+1) rfl rfl nM rfl gq (by simp only[j4];rfl) (ld rfl rfl yf rfl (Am d (i:=2) rfl f_ d_ (by first|exact hil|(simp only[gM];exact hil)) hb rfl) (mU d 9 fun u y=>?_))
 have m:=yc [_,_,_] _ y
 refine cl xQ (xO ab bv (A.n:Int) (A.begun:Int) (A.used:Int) ((fM A.sl i).after) A.ps A.sl u (yd m (i:=0) rfl) i o_ b hb) ?_
 rintro _ C ⟨rfl,ht⟩
 have o:=(yq m ht)
 refine fP o 7 ?_
 refine fa (o' := i%64*3+0) rfl rfl nM rfl gq (by simp only[j4];rfl) (pV (f:=(fun x=>{ x with st:=1 })) (L' := [blk ab 167 (J3 ab bv A ((fM A.sl i).after)),fV gP bv 257 1 A.ps,gH gO.cells 262 64 A.ps (fR A.sl i (fun x=>{ x with st:=1 }))]) 2 rfl rfl rfl rfl gq rfl rfl o rfl f_ d_ (by first|exact hil|(simp only[gM];exact hil)) hb rfl rfl rfl (fun D p=>fP p 6 ?_))
 refine fa (o' := i%64*3+1) rfl rfl nM rfl gq (by simp only[j4];rfl) (pV (f:=(fun x=>{ x with after := -1 })) (L' := [blk ab 167 (J3 ab bv A ((fM A.sl i).after)),fV gP bv 257 1 A.ps,gH gO.cells 262 64 A.ps (fR (fR A.sl i (fun x=>{ x with st:=1 })) i (fun x=>{ x with after := -1 }))]) 2 rfl rfl rfl rfl gq rfl rfl p rfl f_ d_ (by first|exact hil|(simp only[gM];exact hil)) hb rfl rfl rfl (fun E a=>fP a 6 ?_))
 refine fa (o' := i%64*3+2) rfl rfl nM rfl iK (by simp only[j4];rfl) (ld rfl rfl yg rfl (Am a (i:=2) rfl f_ d_ (by first|exact hil|(simp only[gM];exact hil)) hb rfl) (ar (e:=(IntKind.u64.wrap (((fM (fR (fR A.sl i (fun x=>{ x with st:=1 })) i (fun x=>{ x with after := -1 })) i).times)+1))) rfl rfl rfl rfl rfl (fP a 1 ?_)))
 refine fa (o' := i%64*3+2) rfl rfl nM rfl iK (by simp only[j4];rfl) (pV (f:=(fun x=>{ x with times:=(IntKind.u64.wrap (((fM (fR (fR A.sl i (fun x=>{ x with st:=1 })) i (fun x=>{ x with after := -1 })) i).times)+1)) })) (L' := [blk ab 167 (J3 ab bv A ((fM A.sl i).after)),fV gP bv 257 1 A.ps,gH gO.cells 262 64 A.ps (fR (fR (fR A.sl i (fun x=>{ x with st:=1 })) i (fun x=>{ x with after := -1 })) i (fun x=>{ x with times:=(IntKind.u64.wrap (((fM (fR (fR A.sl i (fun x=>{ x with st:=1 })) i (fun x=>{ x with after := -1 })) i).times)+1)) }))]) 2 rfl rfl rfl rfl iK rfl rfl a rfl f_ d_ (by first|exact hil|(simp only[gM];exact hil)) hb rfl rfl rfl (fun G q=>fP q 8 ?_))
 refine ar (e:=((A.used+1:Nat):Int)) rfl rfl rfl rfl (by rw[iV o_];omega) (lW q 13 fun H z=>?_)
 refine jm (v:=(Za i)) (v' := Zc) Tryz.results112 rfl rfl ?_
 have e9:fR (fR (fR A.sl i (fun x=>{ x with st:=1 })) i (fun x=>{ x with after := -1 })) i (fun x=>{ x with times:=(IntKind.u64.wrap (((fM (fR (fR A.sl i (fun x=>{ x with st:=1 })) i (fun x=>{ x with after := -1 })) i).times)+1)) })=fR A.sl i tk:=JJ hil (by rw[kr (by rw[gM];exact hil),kr hil])
 have hs9:=z
 rw[e9]at hs9
 exact⟨rfl,⟨A.n,A.begun,A.used+1,(fM A.sl i).after,fR A.sl i tk,r,A.ps⟩,bv,hok,⟨rfl,rfl,rfl⟩,hin,yr (yc [_,_,_] _ hs9)⟩
theorem S8(ab:Nat)(bv:Value)(A:As)(w:World)(hO:Own (Zp ab bv A) w)(hA:A.ok)(hf:A.fl=[])(hlt:A.begun<A.n) :
 CR ya 112 (Zg ab) w (fun r w' => r = .tuple (Ak A.begun)/\∃ A2 bv2,As.ok A2/\(A2.n=A.n/\A2.begun=A.begun+1/\A2.used=A.used+1)/\(∀ j,A2.ig j↔A.ig j\/j=A.begun)/\gp (Zp ab bv A) w w' (Zp ab bv2 A2)):=by
 have hAn:=hA.n
 have hAle:=hA.le
 have hAu:=hA.used
 have hl:A.last = -1:=by have h7:=hA.chain;rw[hf]at h7;exact h7
 refine enter (vs:=(Zi ab)) Tryz.func112 rfl Tryz.ntmps112 rfl ?_
 have hst0:St _ (Av ab bv A) w:=(yy hO).unpack
 have y:=yc [_,_,_] _ hst0
 refine gh hst0 10 ?_
 refine tP (vl:=(Zi ab)) rfl rfl uM (uk ab bv (A.n:Int) (A.begun:Int) (A.used:Int) A.last A.ps A.sl w (yd y (i:=0) rfl)) ?_
 rintro _ z ⟨rfl,ht⟩
 have B:St _ (Av ab bv A) z:=(St.sD (R' := (Zp ab bv A)) 0 y rfl ht rfl).unpack
 have C:=yc [_,_,_] _ B
 refine fP B 9 ?_
 refine tP (vl:=(Zi ab)) rfl rfl NW (TE ab bv A z (yd C (i:=0) rfl) hA hl hlt) ?_
 rintro _ N ⟨rfl,ht⟩
 have h:St _ (Av ab bv A) N:=(St.sD (R' := (Zp ab bv A)) 0 C rfl ht rfl).unpack
 refine fP h 25 ?_
 refine cmp (a:=(A.begun:Int)) (b:=A.last) rfl rfl rfl (Br o_) (fP h 7 ?_)
 refine rem (a:=(A.begun:Int)) (b:=64) (e:=((A.begun%64:Nat):Int)) rfl rfl rfl d_ (BK 64) ?_
 by_cases af:(((A.begun%64:Nat):Int):Int)=(0:Int)
 . refine fP h 10 ?_
   refine al (cs:=BZ) rfl Bo rfl h (fun d ag ah ai O=>nk (vs:=(Zi d)) (cs:=(Zi d)) rfl rfl vu wh rfl (by simp[Value.cells]) rfl rfl rfl O ?_)
   intro s P aj ak l
   have l:St _ [row (Zx s) 257 1 1 ((Zi d)),blk d 262 BZ,blk ab 167 (Zy ab bv A),fV gP bv 257 1 A.ps,gH gO.cells 262 64 A.ps A.sl] P:=l
   refine ri (cf:=gP) (ys:=A.ps) (zs:=[(some d)]) (LL:=fun g=>(Qj (row (.slice (some ⟨s,0,none⟩) 1 1) 257 1 1 ([(.pointer (some ⟨d,0,none⟩))])) d ab bv A g (A.ps++[(some d)]))) 3 rfl rfl rfl vu wh rfl d_ l rfl (oU l (i:=0) rfl) (fun x hx=>zz.1 (show List.all _ _=true from rfl) x hx) (by have h7:=hA.nJ;simp only[zp,zx];omega) (by have h7:=hA.nJ;simp only[zp,zx];omega) f_ ?_
   intro g Q t am
   have t:St _ (Qj (row (.slice (some ⟨s,0,none⟩) 1 1) 257 1 1 ([(.pointer (some ⟨d,0,none⟩))])) d ab bv A g (A.ps++[(some d)])) Q:=t
   have m:=ym [1,2,3,4] t
   refine fP m 2 ?_
   refine mD (v:=g) (vs:=[g]) (cs' := (Zy ab g A)) (L' := [blk d 262 BZ,blk ab 167 (Zy ab g A),fV gP g 257 1 (A.ps++[(some d)]),gH gO.cells 262 64 A.ps A.sl]) 1 rfl rfl rfl (cells_one (mg m (i:=2) rfl)) Ei rfl (oe (mg m (i:=2) rfl) tC) m rfl rfl rfl rfl ?_
   intro R D
   have S:=ym [0,3,1,2] D
   have U:St _ [gH gO.cells 262 64 (A.ps++[(some d)]) (A.sl++List.replicate 64 (⟨0,0,0⟩:gO)),blk ab 167 (Zy ab g A),fV gP g 257 1 (A.ps++[(some d)])] R:=St.MX S hA.sl s_ rfl
   obtain⟨hok,hin,hni,hl9,hil,c,hc⟩:=hA.fresh hf hlt (ps2:=A.ps++[(some d)]) (sl2:=A.sl++List.replicate 64 (⟨0,0,0⟩:gO)) (b:=d) (.inl ⟨o_,rfl,rfl⟩)
   refine fP D 7 ?_
   refine ar (a:=(A.begun:Int)) (b:=1) (c:=(A.begun:Int)+1) (e:=((A.begun+1:Nat):Int)) rfl rfl rfl rfl (by rw[iV o_];omega) (mU U 9 fun V W=>?_)
   have X:=ym [1,2,0] W
   have E:=yc [_,_,_] _ X
   refine tP (vl:=(EK ab A.begun)) rfl rfl xQ (xO ab g (A.n:Int) ((A.begun+1:Nat):Int) (A.used:Int) A.last (A.ps++[(some d)]) (A.sl++List.replicate 64 (⟨0,0,0⟩:gO)) V (yd E (i:=0) rfl) A.begun o_ c hc) ?_
   rintro _ Y ⟨rfl,ht⟩
   have G:St _ (Q3 ab g A ((A.begun+1:Nat):Int) (A.ps++[(some d)]) (A.sl++List.replicate 64 (⟨0,0,0⟩:gO))) Y:=(St.sD (R' := (gG (Q3 ab g A ((A.begun+1:Nat):Int) (A.ps++[(some d)]) (A.sl++List.replicate 64 (⟨0,0,0⟩:gO))))) 0 E rfl ht rfl).unpack
   refine fP G 7 ?_
   refine fa (o:=A.begun%64*3+0) (o' := A.begun%64*3+0) rfl rfl nM rfl gq (by simp only[j4];rfl) (pV (cf:=gO.cells) (xs:=A.sl++List.replicate 64 (⟨0,0,0⟩:gO)) (k:=A.begun) (off:=0) (f:=(fun x=>{ x with st:=1 })) (u:=uY) (vs:=[uY]) (L' := [blk ab 167 (vC ab g A ((A.begun+1:Nat):Int)),fV gP g 257 1 (A.ps++[(some d)]),gH gO.cells 262 64 (A.ps++[(some d)]) (fR (A.sl++List.replicate 64 (⟨0,0,0⟩:gO)) A.begun (fun x=>{ x with st:=1 }))]) 2 rfl rfl rfl rfl gq rfl rfl G rfl f_ d_ (by first|exact hil|(simp only[gM];exact hil)) hc rfl rfl rfl (fun an H=>fP H 6 ?_))
   refine fa (o:=A.begun%64*3+0) (o' := A.begun%64*3+1) rfl rfl nM rfl gq (by simp only[j4];rfl) (pV (cf:=gO.cells) (xs:=fR (A.sl++List.replicate 64 (⟨0,0,0⟩:gO)) A.begun (fun x=>{ x with st:=1 })) (k:=A.begun) (off:=1) (f:=(fun x=>{ x with after := -1 })) (u:=Zv) (vs:=[Zv]) (L' := [blk ab 167 (vC ab g A ((A.begun+1:Nat):Int)),fV gP g 257 1 (A.ps++[(some d)]),gH gO.cells 262 64 (A.ps++[(some d)]) (fR (fR (A.sl++List.replicate 64 (⟨0,0,0⟩:gO)) A.begun (fun x=>{ x with st:=1 })) A.begun (fun x=>{ x with after := -1 }))]) 2 rfl rfl rfl rfl gq rfl rfl H rfl f_ d_ (by first|exact hil|(simp only[gM];exact hil)) hc rfl rfl rfl (fun ao p=>fP p 6 ?_))
   refine fa (o:=A.begun%64*3+0) (o' := A.begun%64*3+2) rfl rfl nM rfl iK (by simp only[j4];rfl) (ld (a:=⟨c,A.begun%64*3+2,none⟩) (v:=(.int .u64 ((fM (fR (fR (A.sl++List.replicate 64 (⟨0,0,0⟩:gO)) A.begun (fun x=>{ x with st:=1 })) A.begun (fun x=>{ x with after := -1 })) A.begun).times))) rfl rfl yg rfl (Am p (i:=2) rfl f_ d_ (by first|exact hil|(simp only[gM];exact hil)) hc rfl) (ar (a:=(fM (fR (fR (A.sl++List.replicate 64 (⟨0,0,0⟩:gO)) A.begun (fun x=>{ x with st:=1 })) A.begun (fun x=>{ x with after := -1 })) A.begun).times) (b:=1) (c:=((fM (fR (fR (A.sl++List.replicate 64 (⟨0,0,0⟩:gO)) A.begun (fun x=>{ x with st:=1 })) A.begun (fun x=>{ x with after := -1 })) A.begun).times)+1) (e:=(IntKind.u64.wrap (((fM (fR (fR (A.sl++List.replicate 64 (⟨0,0,0⟩:gO)) A.begun (fun x=>{ x with st:=1 })) A.begun (fun x=>{ x with after := -1 })) A.begun).times)+1))) rfl rfl rfl rfl rfl (fP p 1 ?_)))
   refine fa (o:=A.begun%64*3+0) (o' := A.begun%64*3+2) rfl rfl nM rfl iK (by simp only[j4];rfl) (pV (cf:=gO.cells) (xs:=fR (fR (A.sl++List.replicate 64 (⟨0,0,0⟩:gO)) A.begun (fun x=>{ x with st:=1 })) A.begun (fun x=>{ x with after := -1 })) (k:=A.begun) (off:=2) (f:=(fun x=>{ x with times:=(IntKind.u64.wrap (((fM (fR (fR (A.sl++List.replicate 64 (⟨0,0,0⟩:gO)) A.begun (fun x=>{ x with st:=1 })) A.begun (fun x=>{ x with after := -1 })) A.begun).times)+1)) })) (u:=(.int .u64 (IntKind.u64.wrap (((fM (fR (fR (A.sl++List.replicate 64 (⟨0,0,0⟩:gO)) A.begun (fun x=>{ x with st:=1 })) A.begun (fun x=>{ x with after := -1 })) A.begun).times)+1)))) (vs:=[(.int .u64 (IntKind.u64.wrap (((fM (fR (fR (A.sl++List.replicate 64 (⟨0,0,0⟩:gO)) A.begun (fun x=>{ x with st:=1 })) A.begun (fun x=>{ x with after := -1 })) A.begun).times)+1)))]) (L' := [blk ab 167 (vC ab g A ((A.begun+1:Nat):Int)),fV gP g 257 1 (A.ps++[(some d)]),gH gO.cells 262 64 (A.ps++[(some d)]) (fR (fR (fR (A.sl++List.replicate 64 (⟨0,0,0⟩:gO)) A.begun (fun x=>{ x with st:=1 })) A.begun (fun x=>{ x with after := -1 })) A.begun (fun x=>{ x with times:=(IntKind.u64.wrap (((fM (fR (fR (A.sl++List.replicate 64 (⟨0,0,0⟩:gO)) A.begun (fun x=>{ x with st:=1 })) A.begun (fun x=>{ x with after := -1 })) A.begun).times)+1)) }))]) 2 rfl rfl rfl rfl iK rfl rfl p rfl f_ d_ (by first|exact hil|(simp only[gM];exact hil)) hc rfl rfl rfl (fun ap I=>fP I 8 ?_))
   refine ar (a:=(A.used:Int)) (b:=1) (c:=(A.used:Int)+1) (e:=((A.used+1:Nat):Int)) rfl rfl rfl rfl (by rw[iV o_];omega) (lW I 13 fun aq Z=>?_)
   refine jm (v:=(Za A.begun)) (v' := Zc) Tryz.results112 rfl rfl ?_
   have e9:fR (fR (fR (A.sl++List.replicate 64 (⟨0,0,0⟩:gO)) A.begun (fun x=>{ x with st:=1 })) A.begun (fun x=>{ x with after := -1 })) A.begun (fun x=>{ x with times:=(IntKind.u64.wrap (((fM (fR (fR (A.sl++List.replicate 64 (⟨0,0,0⟩:gO)) A.begun (fun x=>{ x with st:=1 })) A.begun (fun x=>{ x with after := -1 })) A.begun).times)+1)) })=fR (A.sl++List.replicate 64 (⟨0,0,0⟩:gO)) A.begun tk:=JJ hil (by rw[kr (by rw[gM];exact hil),kr hil])
   have hs9:=Z
   rw[e9]at hs9
   exact⟨rfl,⟨A.n,A.begun+1,A.used+1,A.last,fR (A.sl++List.replicate 64 (⟨0,0,0⟩:gO)) A.begun tk,[],A.ps++[(some d)]⟩,g,hok,⟨rfl,rfl,rfl⟩,hin,yv (R' := (QL ab g ((⟨A.n,A.begun+1,A.used+1,A.last,fR (A.sl++List.replicate 64 (⟨0,0,0⟩:gO)) A.begun tk,[],A.ps++[(some d)]⟩:As).n:Int) ((⟨A.n,A.begun+1,A.used+1,A.last,fR (A.sl++List.replicate 64 (⟨0,0,0⟩:gO)) A.begun tk,[],A.ps++[(some d)]⟩:As).begun:Int) ((⟨A.n,A.begun+1,A.used+1,A.last,fR (A.sl++List.replicate 64 (⟨0,0,0⟩:gO)) A.begun tk,[],A.ps++[(some d)]⟩:As).used:Int) (⟨A.n,A.begun+1,A.used+1,A.last,fR (A.sl++List.replicate 64 (⟨0,0,0⟩:gO)) A.begun tk,[],A.ps++[(some d)]⟩:As))) (yc [_,_,_] _ hs9) zg⟩
 . obtain⟨hok,hin,hni,hl9,hil,c,hc⟩:=hA.fresh hf hlt (ps2:=A.ps) (sl2:=A.sl) (b:=0) (.inr ⟨o_,rfl,rfl⟩)
   refine fP h 11 ?_
   refine ar (a:=(A.begun:Int)) (b:=1) (c:=(A.begun:Int)+1) (e:=((A.begun+1:Nat):Int)) rfl rfl rfl rfl (by rw[iV o_];omega) (mU h 9 fun aa ac=>?_)
   have J:=yc [_,_,_] _ ac
   refine tP (vl:=(EK ab A.begun)) rfl rfl xQ (xO ab bv (A.n:Int) ((A.begun+1:Nat):Int) (A.used:Int) A.last A.ps A.sl aa (yd J (i:=0) rfl) A.begun o_ c hc) ?_
   rintro _ ad ⟨rfl,ht⟩
   have K:St _ (Q7 ab bv A ((A.begun+1:Nat):Int)) ad:=(St.sD (R' := (gG (Q7 ab bv A ((A.begun+1:Nat):Int)))) 0 J rfl ht rfl).unpack
   refine fP K 7 ?_
   refine fa (o:=A.begun%64*3+0) (o' := A.begun%64*3+0) rfl rfl nM rfl gq (by simp only[j4];rfl) (pV (cf:=gO.cells) (xs:=A.sl) (k:=A.begun) (off:=0) (f:=(fun x=>{ x with st:=1 })) (u:=uY) (vs:=[uY]) (L' := [blk ab 167 (vC ab bv A ((A.begun+1:Nat):Int)),fV gP bv 257 1 A.ps,gH gO.cells 262 64 A.ps (fR A.sl A.begun (fun x=>{ x with st:=1 }))]) 2 rfl rfl rfl rfl gq rfl rfl K rfl f_ d_ (by first|exact hil|(simp only[gM];exact hil)) hc rfl rfl rfl (fun au L=>fP L 6 ?_))
   refine fa (o:=A.begun%64*3+0) (o' := A.begun%64*3+1) rfl rfl nM rfl gq (by simp only[j4];rfl) (pV (cf:=gO.cells) (xs:=fR A.sl A.begun (fun x=>{ x with st:=1 })) (k:=A.begun) (off:=1) (f:=(fun x=>{ x with after := -1 })) (u:=Zv) (vs:=[Zv]) (L' := [blk ab 167 (vC ab bv A ((A.begun+1:Nat):Int)),fV gP bv 257 1 A.ps,gH gO.cells 262 64 A.ps (fR (fR A.sl A.begun (fun x=>{ x with st:=1 })) A.begun (fun x=>{ x with after := -1 }))]) 2 rfl rfl rfl rfl gq rfl rfl L rfl f_ d_ (by first|exact hil|(simp only[gM];exact hil)) hc rfl rfl rfl (fun av q=>fP q 6 ?_))
   refine fa (o:=A.begun%64*3+0) (o' := A.begun%64*3+2) rfl rfl nM rfl iK (by simp only[j4];rfl) (ld (a:=⟨c,A.begun%64*3+2,none⟩) (v:=(.int .u64 ((fM (fR (fR A.sl A.begun (fun x=>{ x with st:=1 })) A.begun (fun x=>{ x with after := -1 })) A.begun).times))) rfl rfl yg rfl (Am q (i:=2) rfl f_ d_ (by first|exact hil|(simp only[gM];exact hil)) hc rfl) (ar (a:=(fM (fR (fR A.sl A.begun (fun x=>{ x with st:=1 })) A.begun (fun x=>{ x with after := -1 })) A.begun).times) (b:=1) (c:=((fM (fR (fR A.sl A.begun (fun x=>{ x with st:=1 })) A.begun (fun x=>{ x with after := -1 })) A.begun).times)+1) (e:=(IntKind.u64.wrap (((fM (fR (fR A.sl A.begun (fun x=>{ x with st:=1 })) A.begun (fun x=>{ x with after := -1 })) A.begun).times)+1))) rfl rfl rfl rfl rfl (fP q 1 ?_)))
   refine fa (o:=A.begun%64*3+0) (o' := A.begun%64*3+2) rfl rfl nM rfl iK (by simp only[j4];rfl) (pV (cf:=gO.cells) (xs:=fR (fR A.sl A.begun (fun x=>{ x with st:=1 })) A.begun (fun x=>{ x with after := -1 })) (k:=A.begun) (off:=2) (f:=(fun x=>{ x with times:=(IntKind.u64.wrap (((fM (fR (fR A.sl A.begun (fun x=>{ x with st:=1 })) A.begun (fun x=>{ x with after := -1 })) A.begun).times)+1)) })) (u:=(.int .u64 (IntKind.u64.wrap (((fM (fR (fR A.sl A.begun (fun x=>{ x with st:=1 })) A.begun (fun x=>{ x with after := -1 })) A.begun).times)+1)))) (vs:=[(.int .u64 (IntKind.u64.wrap (((fM (fR (fR A.sl A.begun (fun x=>{ x with st:=1 })) A.begun (fun x=>{ x with after := -1 })) A.begun).times)+1)))]) (L' := [blk ab 167 (vC ab bv A ((A.begun+1:Nat):Int)),fV gP bv 257 1 A.ps,gH gO.cells 262 64 A.ps (fR (fR (fR A.sl A.begun (fun x=>{ x with st:=1 })) A.begun (fun x=>{ x with after := -1 })) A.begun (fun x=>{ x with times:=(IntKind.u64.wrap (((fM (fR (fR A.sl A.begun (fun x=>{ x with st:=1 })) A.begun (fun x=>{ x with after := -1 })) A.begun).times)+1)) }))]) 2 rfl rfl rfl rfl iK rfl rfl q rfl f_ d_ (by first|exact hil|(simp only[gM];exact hil)) hc rfl rfl rfl (fun aw M=>fP M 8 ?_))
   refine ar (a:=(A.used:Int)) (b:=1) (c:=(A.used:Int)+1) (e:=((A.used+1:Nat):Int)) rfl rfl rfl rfl (by rw[iV o_];omega) (lW M 13 fun ax ae=>?_)
   refine jm (v:=(Za A.begun)) (v' := Zc) Tryz.results112 rfl rfl ?_
   have e9:fR (fR (fR A.sl A.begun (fun x=>{ x with st:=1 })) A.begun (fun x=>{ x with after := -1 })) A.begun (fun x=>{ x with times:=(IntKind.u64.wrap (((fM (fR (fR A.sl A.begun (fun x=>{ x with st:=1 })) A.begun (fun x=>{ x with after := -1 })) A.begun).times)+1)) })=fR A.sl A.begun tk:=JJ hil (by rw[kr (by rw[gM];exact hil),kr hil])
   have hs9:=ae
   rw[e9]at hs9
   exact⟨rfl,⟨A.n,A.begun+1,A.used+1,A.last,fR A.sl A.begun tk,[],A.ps⟩,bv,hok,⟨rfl,rfl,rfl⟩,hin,yv (R' := (QL ab bv ((⟨A.n,A.begun+1,A.used+1,A.last,fR A.sl A.begun tk,[],A.ps⟩:As).n:Int) ((⟨A.n,A.begun+1,A.used+1,A.last,fR A.sl A.begun tk,[],A.ps⟩:As).begun:Int) ((⟨A.n,A.begun+1,A.used+1,A.last,fR A.sl A.begun tk,[],A.ps⟩:As).used:Int) (⟨A.n,A.begun+1,A.used+1,A.last,fR A.sl A.begun tk,[],A.ps⟩:As))) (yc [_,_,_] _ hs9) zg⟩
theorem Vl(ab:Nat)(bv:Value)(A:As)(w:World)(hO:Own (Zp ab bv A) w)(hA:A.ok)(i:Nat)(hi:A.ig i) :
 CR ya 60 (Zn ab i) w (fun r w' => r = .int .i64 0/\∃ A2,As.ok A2/\(A2.n=A.n/\A2.begun=A.begun/\A2.used=A.used-1)/\(∀ j,A2.ig j↔A.ig j/\j≠i)/\gp (Zp ab bv A) w w' (Zp ab bv A2)):=by
 have hAn:=hA.n
 have hAle:=hA.le
 have hAu:=hA.used
 have hib:=hi.1
 have hif:=hi.2
 have hil:=(hA.room hib).1
 obtain⟨b,hb⟩:=hA.at hib
 have hu0:=(hA.free hi rfl).2.2
 refine en Tryz.func60 Tryz.ntmps60 ?_
 have hst0:=(yy hO).unpack
 have c:=yc [_,_,_] _ hst0
 refine gh hst0 9 ?_
 refine cl uM (uk ab bv (A.n:Int) (A.begun:Int) (A.used:Int) A.last A.ps A.sl w (yd c (i:=0) rfl)) ?_
 rintro _ m ⟨rfl,ht⟩
 have a:=(yq c ht)
 refine fP a 10 ?_
 refine cmp rfl rfl rfl (nE o_) (fP a 6 ?_)
 refine cmp rfl rfl rfl (uH o_) ?_
 have d:=yc [_,_,_] _ a
 refine fP a 11 ?_
 refine cl O1 (LM ab bv A m (yd d (i:=0) rfl) hA i o_) ?_
 rintro _ o ⟨rfl,ht⟩
 have g:=(yq d ht)
 refine cmp rfl rfl rfl (n9 (by rw[if_pos hib,hA.st i hib,if_neg hif])) ?_
 have h:=yc [_,_,_] _ g
 refine fP g 9 ?_
 refine cl xQ (xO ab bv (A.n:Int) (A.begun:Int) (A.used:Int) A.last A.ps A.sl o (yd h (i:=0) rfl) i o_ b hb) ?_
 rintro _ t ⟨rfl,ht⟩
 have k:=(yq h ht)
 refine fP k 7 ?_
 refine fa (o' := i%64*3+0) rfl rfl nM rfl gq (by simp only[j4];rfl) (pV (f:=(fun x=>{ x with st:=2 })) (L' := [blk ab 167 (Zy ab bv A),fV gP bv 257 1 A.ps,gH gO.cells 262 64 A.ps (fR A.sl i (fun x=>{ x with st:=2 }))]) 2 rfl rfl rfl rfl gq rfl rfl k rfl f_ d_ (by first|exact hil|(simp only[gM];exact hil)) hb rfl rfl rfl (fun u l=>fP l 10 ?_))
 refine fa (o' := i%64*3+1) rfl rfl nM rfl gq (by simp only[j4];rfl) (pV (f:=(fun x=>{ x with after:=A.last })) (L' := [blk ab 167 (Zy ab bv A),fV gP bv 257 1 A.ps,gH gO.cells 262 64 A.ps (fR (fR A.sl i (fun x=>{ x with st:=2 })) i (fun x=>{ x with after:=A.last }))]) 2 rfl rfl rfl rfl gq rfl rfl l rfl f_ d_ (by first|exact hil|(simp only[gM];exact hil)) hb rfl rfl rfl (fun y p=>mU p 17 fun z q=>?_))
 refine ar (e:=((A.used-1:Nat):Int)) rfl rfl rfl rfl (by rw[iV o_];omega) (lW q 11 fun B s=>?_)
 refine gF (v:=Zc) Tryz.results60 rfl ?_
 exact⟨rfl,⟨A.n,A.begun,A.used-1,(i:Int),fR (fR A.sl i (fun x=>{ x with st:=2 })) i (fun x=>{ x with after:=A.last }),i :: A.fl,A.ps⟩,(hA.free hi rfl).1,⟨rfl,rfl,rfl⟩,(hA.free hi rfl).2.1,yr (yc [_,_,_] _ s)⟩
theorem VN(ab:Nat)(bv:Value)(A:As)(w:World)(hO:Own (Zp ab bv A) w)(hA:A.ok) :
 CR ya 36 (Zg ab) w (fun r w' => ∃ lv,r=lv/\gp (Zp ab bv A) w w' (gG (Qy ab bv A lv (gx (A.list A.begun))))):=by
 have hAn:=hA.n
 have hAle:=hA.le
 have hAu:=hA.used
 refine en Tryz.func36 Tryz.ntmps36 ?_
 have hst0:=(yy hO).unpack
 have e:=yc [_,_,_] _ hst0
 refine gh hst0 9 ?_
 refine cl uM (uk ab bv (A.n:Int) (A.begun:Int) (A.used:Int) A.last A.ps A.sl w (yd e (i:=0) rfl)) ?_
 rintro _ x ⟨rfl,ht⟩
 have f:=(yq e ht)
 refine fP f 12 ?_
 refine mks (m:=0) (c:=A.used) rfl (gJ o_) rfl yh gq rfl o_ o_ o_ f ?_
 intro o y z B p
 have g:=St.Pj (i:=0) (m:=0) (c:=A.used) (sz:=1) p rfl s_ o_ (by simp only[maxLen];omega)
 have q:=ym [1,2,3,0] g
 refine gX g 14 ?_
 refine lp (α:=Nat×Value) (fun(k,lv)=>[(0,(Zb ab)),(3,lv),(16,(Za A.begun)),(17,(Za k))]) (fun(k,lv) w1=>St [(w,(Zp ab bv A).gU)] (Qy ab bv A lv (gx (A.list k))) w1/\k<=A.begun) (fun(k,lv)=>A.begun-k) (0,(.slice (some ⟨o,0,none⟩) 0 A.used)) ⟨rfl,rfl,rfl,gJ (by first|rfl|omega),trivial⟩ (⟨q,o_⟩) ?_
 rintro⟨k,lv⟩ C s ⟨hst2,hk2⟩
 refine gh hst2 2 ?_
 by_cases D:((k:Int):Int)<((A.begun:Int):Int)
 . have hkb:k<A.begun:=by omega
   have h:=yc [_,_,_] _ hst2
   refine fP hst2 19 ?_
   refine cl O1 (LM ab bv A s (yd h (i:=0) rfl) hA k o_) ?_
   rintro _ E ⟨rfl,ht⟩
   have a:=(yq h ht)
   by_cases b:((if k<A.begun then(fM A.sl k).st else 0):Int)=(1:Int)
   . refine fP a 1 ?_
     rw[if_pos hkb]at b
     refine fP a 6 ?_
     refine nk (vs:=(Zf k)) (cs:=(Zf k)) rfl rfl yh gq rfl (by simp[Value.cells]) rfl rfl rfl a (fun t G H I j=>Jm (k:=.i64) (ys:=gx (A.list k)) (zs:=[(k:Int)]) (LL:=fun d=>[iA .i64 (Zx t) 3 ([(k:Int)]),blk ab 167 (Zy ab bv A),fV gP bv 257 1 A.ps,gH gO.cells 262 64 A.ps A.sl,iA .i64 d 3 ((gx (A.list k))++([(k:Int)]))]) 4 rfl rfl rfl yh gq rfl j rfl (oU j (i:=0) rfl) (by have h7:=A.Mj k;simp only[gx,zr,zp,zx];omega) (by have h7:=A.Mj k;simp only[gx,zr,zp,zx];omega) f_ ?_)
     intro d J u K
     have l:=ym [1,2,3,4] u
     refine gf l 8 ?_
     refine tN (?_)
     exact again ((k+1),d) ⟨rfl,rfl,rfl,gJ (by first|rfl|omega),trivial⟩ (⟨by rw[As.Li,if_pos b];rw[gx,qL];exact l,o_⟩) (by show (A.begun-(k+1):Nat)<A.begun-k;omega)
   . refine fP a 1 ?_
     rw[if_pos hkb]at b
     refine gf a 10 ?_
     refine tN (?_)
     exact again ((k+1),lv) ⟨rfl,rfl,rfl,gJ (by first|rfl|omega),trivial⟩ (⟨by rw[As.Li,if_neg b];exact a,o_⟩) (by show (A.begun-(k+1):Nat)<A.begun-k;omega)
 . refine gf hst2 17 ?_
   refine gF (v:=lv) Tryz.results36 rfl ?_
   obtain rfl:k=A.begun:=by omega
   exact⟨lv,rfl,yr (yc [_,_,_,_] _ hst2)⟩
theorem V9(n:Nat)(w:World)(hn:n<=65536) :
 CR ya 91 (rO n) w (fun r w' => ∃ ab,r = .tuple (Z8 ab)/\gp (gG []) w w' (gG [blk ab 167 [(Zb ab),Zk,(Za ((As.new n).n:Int)),(Za ((As.new n).begun:Int)),(Za ((As.new n).used:Int)),(Za ((As.new n).last))],fV gP Zk 257 1 ((As.new n).ps),gH gO.cells 262 64 ((As.new n).ps) ((As.new n).sl)])):=by
 refine en Tryz.func91 Tryz.ntmps91 ?_
 have hst0:=jB w
 refine gh hst0 10 ?_
 refine cmp rfl rfl rfl (nE o_) (fP hst0 2 ?_)
 refine cmp rfl rfl rfl (tv o_) (fP hst0 9 ?_)
 refine lX (pvs:=[(2,(Za n)),(5,Zv)]) (v:=.agg (QG n)) rfl rfl (kV [(2,(Zf n)),(5,[Zv])] Ef OK rfl ⟨rfl,rfl,rfl,rfl,trivial⟩ rfl) (bx (v:=(.agg (QG n))) (cs:=[Z1,Zk,(Za n),Zc,Zc,Zv]) rfl rfl rfl hst0 (fun a e f g b=>lW b 20 fun c d=>?_))
 refine jm (v:=(Zb a)) (v' := Zc) Tryz.results91 rfl rfl ?_
 have hs7:=u6 d 257 1
 have hs8:St _ (Qf a n) c:=St.D1 hs7 0
 have hs9:=lP hs8 (List.reverse_perm (Qf a n)).symm
 exact⟨a,rfl,St.eM (yc [_,_,_] [] hs9)⟩
end
section
open Go Go.Sx
theorem UX(ab:Nat)(bv:Value)(A:As)(w:World)(hO:Own (Zp ab bv A) w)(hA:A.ok) :
 CR ya 106 (Zg ab) w (fun r w' => ∃ ab2 bv2 qs,r = .pointer (some ⟨ab2,0,none⟩)/\As.ok { A with ps:=qs }/\gp (Zp ab bv A) w w' (Q4 ab bv A ab2 bv2 qs)):=by
 have hAn:=hA.n
 have hAle:=hA.le
 have hAu:=hA.used
 have hpl:=hA.nJ
 refine enter (vs:=(Zi ab)) Tryz.func106 rfl Tryz.ntmps106 rfl ?_
 have hst0:=(yy hO).unpack
 have j:=yc [_,_,_] _ hst0
 refine gh hst0 9 ?_
 refine tP (vl:=(Zi ab)) rfl rfl uM (uk ab bv (A.n:Int) (A.begun:Int) (A.used:Int) A.last A.ps A.sl w (yd j (i:=0) rfl)) ?_
 rintro _ L ⟨rfl,ht⟩
 have l:=(St.sD (R' := (Zp ab bv A)) 0 j rfl ht rfl).unpack
 refine gX l 7 ?_
 refine jD l 17 ?_ (hA:=by refine' gN 16 ?k0;case k0=>refine' gw (fun wq hM=>rv (uI (pvs:=[(2,(Za A.n)),(3,(Za A.begun)),(4,(Za A.used)),(5,(Za A.last))]) (v:=.agg (Q9 A)) rfl (kV [(2,(Zf A.n)),(3,(Zf A.begun)),(4,(Zf A.used)),(5,(Zf A.last))] Ef OK rfl ⟨rfl,rfl,rfl,rfl,rfl,rfl,rfl,rfl,trivial⟩ rfl))) ?k1;case k1=>exact iT)
 intro wq hM
 refine Er (v:=(.agg (Q9 A))) (cs:=[Z1,Zk,(Za A.n),(Za A.begun),(Za A.used),(Za A.last)]) rfl rfl rfl hM (fun c _ h=>(jC h (fun M y=>?_)))
 refine QA tt none y 13 fun p z=>?_
 have B:St _ [fV gP Zk 257 1 ([]),blk c 167 (QM c A),blk ab 167 (Zy ab bv A),fV gP bv 257 1 A.ps,gH gO.cells 262 64 A.ps A.sl] p:=u6 z 257 1
 have f:St _ [gH gO.cells 262 64 ([]) (A.sl.take (64*0)),fV gP Zk 257 1 ([]),blk c 167 (QM c A),blk ab 167 (Zy ab bv A),fV gP bv 257 1 A.ps,gH gO.cells 262 64 A.ps A.sl] p:=St.D1 B 0
 refine fP f 4 ?_
 refine kZ (m:=A.ps.length) 4 rfl rfl vu f rfl ?_
 have C:=ym [3,4,5,2,1,0] f
 refine gX f 4 ?_
 refine lp (α:=Nat×Value×List (Option Nat)) (fun(k,v2,qs)=>[(3,(Zb c)),(35,bv),(36,(Za A.ps.length)),(37,(Za k))]) (fun(k,v2,qs) w1=>St [(w,(Zp ab bv A).gU)] [blk ab 167 (Zy ab bv A),fV gP bv 257 1 A.ps,gH gO.cells 262 64 A.ps A.sl,blk c 167 (Zy c v2 A),fV gP v2 257 1 qs,gH gO.cells 262 64 qs (A.sl.take (64*k))] w1/\k<=A.ps.length/\wZ qs k) (fun(k,v2,qs)=>A.ps.length-k) (0,Zk,[]) ⟨rfl,rfl,rfl,gJ (by first|rfl|omega),trivial⟩ (⟨C,o_,wZ.start⟩) ?_
 rintro⟨k,v2,qs⟩ N O ⟨hst3,hk3,hC⟩
 have hql:=hC.len
 refine gh hst3 2 ?_
 by_cases P:((k:Int):Int)<((A.ps.length:Int):Int)
 . have hk:k<A.ps.length:=by omega
   obtain⟨bq,hbq⟩:=hA.ps k hk
   refine fP hst3 11 ?_
   refine jj (cf:=gP) (k:=k) (i:=(k:Int)) rfl rfl rfl vu wh (ye hst3 (i:=1) rfl f_) o_ o_ (gy om) (kE (cf:=gP) (u:=(.pointer ((fM A.ps k).map fun b=>⟨b,0,none⟩))) rfl rfl Tryz.underlying257 rfl (ye hst3 (i:=1) rfl f_) (gy om) rfl (fP hst3 6 ?_))
   refine q8 (a:=⟨bq,0,none⟩) rfl (xC (od hbq)) ?_
   have hcl:(((A.sl.drop (64*k)).take 64).flatMap gO.cells).length=192:=LH (cf:=gO.cells) (sz:=3) f_ hA.sl hk
   refine rA (b:=bq) (o:=0) (cs:=(((A.sl.drop (64*k)).take 64).flatMap gO.cells)) rfl rfl Tryz.underlying262 rfl Bo hcl (St.Me hst3 (i:=2) rfl ((gy hk).trans (congrArg some (od hbq)))) (al (cs:=BZ) rfl Bo rfl hst3 (fun d Q R S D=>lM (v:=.agg (((A.sl.drop (64*k)).take 64).flatMap gO.cells).toArray) (vs:=(((A.sl.drop (64*k)).take 64).flatMap gO.cells)) (L' := [blk d 262 (((A.sl.drop (64*k)).take 64).flatMap gO.cells),blk ab 167 (Zy ab bv A),fV gP bv 257 1 A.ps,gH gO.cells 262 64 A.ps A.sl,blk c 167 (Zy c v2 A),fV gP v2 257 1 qs,gH gO.cells 262 64 qs (A.sl.take (64*k))]) 0 rfl rfl rfl rfl Bo hcl (zz.2 (xF f_ _)) D rfl (by rw[hcl];decide) (LB (by rw[hcl];rfl)) rfl (fun U q V=>fP q 8 ?_)))
   refine nk (vs:=(Zi d)) (cs:=(Zi d)) rfl rfl vu wh rfl (by simp[Value.cells]) rfl rfl rfl q (fun E W X Y s=>ri (cf:=gP) (ys:=qs) (zs:=[(some d)]) (LL:=fun e=>[row (Zx E) 257 1 1 ((Zi d)),blk d 262 (((A.sl.drop (64*k)).take 64).flatMap gO.cells),blk ab 167 (Zy ab bv A),fV gP bv 257 1 A.ps,gH gO.cells 262 64 A.ps A.sl,blk c 167 (Zy c v2 A),fV gP e 257 1 (qs++[(some d)]),gH gO.cells 262 64 qs (A.sl.take (64*k))]) 6 rfl rfl rfl vu wh rfl d_ s rfl (oU s (i:=0) rfl) (fun x hx=>zz.1 (show List.all _ _=true from rfl) x hx) (by have h7:=hA.nJ;simp only[zp,zx];omega) (by have h7:=hA.nJ;simp only[zp,zx];omega) f_ ?_)
   intro e Z G aa
   have g:=ym [1,2,3,4,5,6,7] G
   refine fP g 2 ?_
   refine mD (v:=e) (vs:=[e]) (L' := [blk d 262 (((A.sl.drop (64*k)).take 64).flatMap gO.cells),blk ab 167 (Zy ab bv A),fV gP bv 257 1 A.ps,gH gO.cells 262 64 A.ps A.sl,blk c 167 (Zy c e A),fV gP e 257 1 (qs++[(some d)]),gH gO.cells 262 64 qs (A.sl.take (64*k))]) 4 rfl rfl rfl (cells_one (mg g (i:=5) rfl)) Ei rfl (oe (mg g (i:=5) rfl) tC) g rfl rfl rfl rfl (fun H t=>gf t 7 ?_)
   refine tN (?_)
   have I:=ym [0,6,1,2,3,4,5] t
   have hck:=XY hA.sl hk
   have J:St [(w,(Zp ab bv A).gU)] [gH gO.cells 262 64 (qs++[(some d)]) (A.sl.take (64*(k+1))),blk ab 167 (Zy ab bv A),fV gP bv 257 1 A.ps,gH gO.cells 262 64 A.ps A.sl,blk c 167 (Zy c e A),fV gP e 257 1 (qs++[(some d)])] H:=by rw[<-S7];exact St.MX I (by rw[hck.2,hql]) hck.1 rfl
   have K:=ym [1,2,3,4,5,0] J
   exact again ((k+1),e,qs++[(some d)]) ⟨rfl,rfl,rfl,gJ (by first|rfl|omega),trivial⟩ (⟨K,o_,hC.next⟩) (by show (A.ps.length-(k+1):Nat)<A.ps.length-k;omega)
 . refine gf hst3 17 ?_
   refine gF (v:=(Zb c)) Tryz.results106 rfl ?_
   have hke:k=A.ps.length:=by omega
   have hs9:=hst3
   rw[rE (show A.sl.length<=64*k by rw[hke];exact Nat.le_of_eq hA.sl)]at hs9
   exact⟨c,v2,qs,rfl,hA.copy o_ hC.all,yv (R' := (Q4 ab bv A c v2 qs)) (yc [_,_,_,_,_,_] _ hs9) zg⟩
end
section
open Go Go.Sx
def AW.R(ab:Nat)(v:AW):gi:=jZ v.A.ok (Zp ab v.bv v.A)
abbrev rL(a:fW):=(AW.R a.iN a.aw:gi)
abbrev Cp(a:Nat) b (c:Nat) d:=(gG [AW.R a b,AW.R c d]:gi)
abbrev Qr(a b:Nat) c (d:TW) e f:=([blk a 173 [.pointer (some ⟨a,0,none⟩),.pointer (some ⟨b,0,none⟩),c,d.cv],fV gW c 34 1 e,fV gL d.cv 3 1 d.cs,AW.R b f]:List gi)
abbrev QH(a b:Nat)(c:TW) d e f:=([blk a 173 (Z7 a b c),fV gW c.iv 34 1 d,fV gL c.cv 3 1 e,AW.R b f]:List gi)
theorem DB(ab:Nat)(v:AW)(w:World)(hO:Own (AW.R ab v) w) :
 CR ya 81 (Zg ab) w (fun r w' => r = .int .i64 (v.A.used:Int)/\gp (AW.R ab v) w w' (AW.R ab v)):=by
 exact CR.mono (Xf ab v.bv v.A w hO.un hO.fact) fun r w' ⟨h1,ht⟩=>⟨h1,ht.oV hO.fact⟩
theorem LV(ab:Nat)(v:AW)(w:World)(hO:Own (AW.R ab v) w)(hu:v.A.used<v.A.n) :
 CR ya 112 (Zg ab) w (fun r w' => ∃ i v2,r = .tuple (Ak ((i:Nat):Int))/\AW.put v.A v2.A i/\gp (AW.R ab v) w w' (AW.R ab v2)):=by
 have hA:=hO.fact
 rcases hA.full hu with ⟨i,l,hf⟩|⟨hf,hlt⟩
 . have hp:=hA.pop hf
   exact CR.mono (SF ab v.bv v.A w hO.un hA i l hf) fun r w' ⟨h1,A2,bv2,hok,⟨e1,e2,e3⟩,hin,ht⟩=>⟨i,⟨bv2,A2⟩,h1,⟨e1,e3,hin,hp.2.2.1,.inl ⟨hp.2.2.2.1,e2⟩⟩,ht.oV hok⟩
 . exact CR.mono (S8 ab v.bv v.A w hO.un hA hf hlt) fun r w' ⟨h1,A2,bv2,hok,⟨e1,e2,e3⟩,hin,ht⟩=>⟨v.A.begun,⟨bv2,A2⟩,h1,⟨e1,e3,hin,fun h=>Nat.lt_irrefl _ h.1,.inr ⟨rfl,e2⟩⟩,ht.oV hok⟩
theorem ME(ab:Nat)(v:AW)(w:World)(hO:Own (AW.R ab v) w)(i:Nat)(hi:v.A.ig i) :
 CR ya 60 (Zn ab i) w (fun r w' => ∃ v2,r = .int .i64 0/\AW.del v.A v2.A i/\gp (AW.R ab v) w w' (AW.R ab v2)):=by
 exact CR.mono (Vl ab v.bv v.A w hO.un hO.fact i hi) fun r w' ⟨h1,A2,hok,⟨e1,e2,e3⟩,hin,ht⟩=>⟨⟨v.bv,A2⟩,h1,⟨e1,e2,e3,(hO.fact.free hi rfl).2.2,hin⟩,ht.oV hok⟩
theorem NG(n:Nat)(w:World)(hn:n<=65536) :
 CR ya 91 (rO n) w (fun r w' => ∃ ab v,r = .tuple (Z8 ab)/\v.A=As.new n/\gp (gG []) w w' (AW.R ab v)):=by
 exact CR.mono (V9 n w hn) fun r w' ⟨ab,h1,ht⟩=>⟨ab,⟨.slice none 0 0,As.new n⟩,h1,rfl,ht.oQ (As.uD hn)⟩
theorem LY(ab:Nat)(v:AW)(w:World)(hO:Own (AW.R ab v) w) :
 CR ya 106 (Zg ab) w (fun r w' => ∃ ab2 v2,r = .pointer (some ⟨ab2,0,none⟩)/\(∃ qs,v2.A={ v.A with ps:=qs })/\gp (AW.R ab v) w w' (Cp ab v ab2 v2)):=by
 refine CR.mono (UX ab v.bv v.A w hO.un hO.fact) fun r w' ⟨ab2,bv2,qs,h1,hok,ht⟩=>⟨ab2,⟨bv2,{ v.A with ps:=qs }⟩,h1,⟨qs,rfl⟩,(gp.Ej (A:=(Av ab v.bv v.A)) (B:=[blk ab2 167 (Zy ab2 bv2 v.A),fV gP bv2 257 1 qs,gH gO.cells 262 64 qs v.A.sl]) ht).Fg.Ev rfl (fun h=>?_)⟩
 intro Q hQ
 simp only[zb,rF,or_false]at hQ
 rcases hQ with rfl|rfl
 . exact⟨hO.fact,h _ s_⟩
 . exact⟨hok,h _ s_⟩
end
section
open Go Go.Sx
def TW.R(tb ab:Nat)(t:TW):gi:=jZ t.ok (gG [blk tb 173 (Z7 tb ab t),fV gW t.iv 34 1 t.ids,fV gL t.cv 3 1 t.cs,(AW.R ab t.w)])
abbrev vF(a:fW) b:=(TW.R a.tb a.ab b:gi)
abbrev Z6(a:fW):=(TW.R a.tb a.ab a.t:gi)
abbrev Re a (b:Nat) (c:Lv) (d:Nat) (e f:Int) (g:fW) h i j (k:Nat):=([iM 3 a,blk b 42 (Z4 c),blk d 101 (Z5 e f g h),fV Lv.cells g.lv 42 7 i,gR g.mb .u64 p_ a,AW.R g.iN j,TW.R g.tb g.ab g.t,blk k 42 Zu]:List gi)
abbrev Ql a b c (d:Nat) (e:Lv) (f:Nat) (g h:Int) (i:fW) j k l m (n:Nat):=([iA .i64 a 3 b,iM 3 c,blk d 42 (Z4 e),blk f 101 (Z5 g h i j),fV Lv.cells i.lv 42 7 k,gR i.mb .u64 p_ l,AW.R i.iN m,TW.R i.tb i.ab i.t,blk n 42 Zu]:List gi)
abbrev JI a (b:Nat) (c:Lv) (d:Nat) (e f:Int) (g:fW) h i j k (l:Nat):=([iM 3 a,blk b 42 (Z4 c),blk d 101 (Z5 e f g h),fV Lv.cells g.lv 42 7 i,gR g.mb .u64 p_ a,AW.R g.iN j,TW.R g.tb g.ab k,blk l 42 (Z4 c)]:List gi)
abbrev Jp a b c d (e:Nat) (f g:Int) (h:fW) i j k (l m n:Nat) o p q r s t (u:Nat) v:=([fV gL a 3 1 b,fV gL c 3 1 b,iM 3 d,blk e 101 (Z5 f g h i),fV Lv.cells h.lv 42 7 h.live,j,iM 3 k,AW.R h.iN h.aw,TW.R h.tb h.ab h.t,blk l 101 (w6 f g h.last m n o p),fV Lv.cells o 42 7 h.live,gR q .u64 p_ r,iM 3 s,AW.R m t,TW.R n u v]:List gi)
abbrev Qg a (b:Nat) (c d:Int) (e:Lv) (f:Nat) (g h:Int) (i:fW) j k l m n (o p:Nat):=([iM 3 a,blk b 42 (Z9 c d e),blk f 101 (wK g h d i j k),fV Lv.cells j 42 7 l,gR i.mb .u64 p_ a,AW.R i.iN m,TW.R i.tb i.ab n,blk o 42 Zu,blk p 40 (Zo e)]:List gi)
abbrev Qn a (b:Nat) (c d:Int) (e:Lv) (f:Nat) (g h:Int) (i:fW) j k l m (n o:Nat):=([iM 3 a,blk b 42 (Z9 c d e),blk f 101 (rH g h d i j),fV Lv.cells i.lv 42 7 k,gR i.mb .u64 p_ a,AW.R i.iN l,TW.R i.tb i.ab m,blk n 42 Zu,blk o 40 (Zo e)]:List gi)
abbrev Qw(a:Nat)(b c:Int)(d:Lv)(e:Nat)(f g:Int)(h:fW) i j k l (m n:Nat):=([blk a 42 (Z9 b c d),blk e 101 (wK f g c h i j),fV Lv.cells i 42 7 k,gR h.mb .u64 p_ h.im,iM 3 h.im,AW.R h.iN l,TW.R h.tb h.ab h.t,blk m 42 Zu,blk n 40 (Zo d)]:List gi)
abbrev QU(a:Nat)(b c:Int)(d:Lv)(e:Nat)(f g:Int)(h:fW) i j (k l:Nat):=([blk a 42 (Z9 b c d),blk e 101 (rH f g c h i),fV Lv.cells h.lv 42 7 h.live,gR h.mb .u64 p_ h.im,iM 3 h.im,AW.R h.iN j,TW.R h.tb h.ab h.t,blk k 42 Zu,blk l 40 (Zo d)]:List gi)
abbrev Au(a:Nat) b c d e (f:Nat) (g h:Int) (i:Lv) (j:Nat) (k l:Int) (m:fW) n o p q r s (t u:Nat):=([iA .i64 (Zx a) 3 b,iA .i64 c 3 d,iM 3 e,blk f 42 (Z9 g h i),blk j 101 (wK k l h m n o),fV Lv.cells n 42 7 p,gR m.mb .u64 p_ q,AW.R m.iN r,TW.R m.tb m.ab s,blk t 42 Zu,blk u 40 (Zo i)]:List gi)
abbrev QV(a:Nat) b c d e (f:Nat) (g h:Int) (i:Lv) (j:Nat) (k l:Int) (m:fW) n o p q r (s t:Nat):=([iA .i64 (Zx a) 3 b,iA .i64 c 3 d,iM 3 e,blk f 42 (Z9 g h i),blk j 101 (wK k l h m n o),fV Lv.cells n 42 7 p,gR m.mb .u64 p_ m.im,AW.R m.iN q,TW.R m.tb m.ab r,blk s 42 Zu,blk t 40 (Zo i)]:List gi)
abbrev Ab(a:Nat) b c d e (f:Nat) (g h:Int) (i:Lv) (j:Nat) (k l:Int) (m:fW) n o p q r (s t:Nat):=([iA .i64 (Zx a) 3 b,iA .i64 c 3 d,iM 3 e,blk f 42 (Z9 g h i),blk j 101 (rH k l h m n),fV Lv.cells m.lv 42 7 o,gR m.mb .u64 p_ p,AW.R m.iN q,TW.R m.tb m.ab r,blk s 42 Zu,blk t 40 (Zo i)]:List gi)
abbrev Q2(a:Nat) b c d e (f:Nat) (g h:Int) (i:Lv) (j:Nat) (k l:Int) (m:fW) n o p q (r s:Nat):=([iA .i64 (Zx a) 3 b,iA .i64 c 3 d,iM 3 e,blk f 42 (Z9 g h i),blk j 101 (rH k l h m n),fV Lv.cells m.lv 42 7 o,gR m.mb .u64 p_ m.im,AW.R m.iN p,TW.R m.tb m.ab q,blk r 42 Zu,blk s 40 (Zo i)]:List gi)
theorem L3(tb ab:Nat)(t:TW)(w:World)(hO:Own (Z3 tb ab t) w)(hT:TW.Sz t.n)(id:Int) :
 CR ya 153 (p7 tb id) w (fun r w' => r = .int .i64 ((kf t.n id:Nat):Int)/\gp (Z3 tb ab t) w w' (Z3 tb ab t)):=by
 have hnl:t.cs.length=t.n:=rfl
 have h2t:=hT.two
 have htop:=hT.top
 have hpos:0<t.n:=by omega
 have hlt:=vP (id:=id) hpos
 refine en Tryz.func153 Tryz.ntmps153 ?_
 have hst0:=Own.of hO
 refine gh hst0 9 ?_
 refine shr (a:=id) (b:=33) (e:=(id.fdiv (2 ^ 33))) rfl rfl rfl d_ rfl (bi (a:=id) (b:=(id.fdiv (2 ^ 33))) (e:=(kH id)) rfl rfl rfl (Hz _) (fP hst0 6 ?_))
 refine ar (e:=(lZ 18397679294719823053 (kH id))) rfl rfl rfl rfl rfl (fP hst0 7 ?_)
 refine shr (a:=(lZ 18397679294719823053 (kH id))) (b:=33) (e:=((lZ 18397679294719823053 (kH id)).fdiv (2 ^ 33))) rfl rfl rfl d_ rfl (bi (a:=(lZ 18397679294719823053 (kH id))) (b:=((lZ 18397679294719823053 (kH id)).fdiv (2 ^ 33))) (e:=(kH (lZ 18397679294719823053 (kH id)))) rfl rfl rfl (Hz _) (fP hst0 6 ?_))
 refine ar (e:=(lZ 14181476777654086739 (kH (lZ 18397679294719823053 (kH id))))) rfl rfl rfl rfl rfl (fP hst0 7 ?_)
 refine shr (a:=(lZ 14181476777654086739 (kH (lZ 18397679294719823053 (kH id))))) (b:=33) (e:=((lZ 14181476777654086739 (kH (lZ 18397679294719823053 (kH id)))).fdiv (2 ^ 33))) rfl rfl rfl d_ rfl (bi (a:=(lZ 14181476777654086739 (kH (lZ 18397679294719823053 (kH id))))) (b:=((lZ 14181476777654086739 (kH (lZ 18397679294719823053 (kH id)))).fdiv (2 ^ 33))) (e:=(kH (lZ 14181476777654086739 (kH (lZ 18397679294719823053 (kH id)))))) rfl rfl rfl (Hz _) (fP hst0 10 ?_))
 refine kZ (m:=t.cs.length) 2 rfl rfl yh hst0 rfl (fP hst0 1 ?_)
 refine cv (a:=(t.cs.length:Int)-1) (e:=(t.cs.length:Int)-1) rfl rfl yf yg (uV o_) (bi (a:=(kH (lZ 14181476777654086739 (kH (lZ 18397679294719823053 (kH id)))))) (b:=(t.cs.length:Int)-1) (e:=((kf t.n id:Nat):Int)) rfl rfl rfl (hT.p2.home id) (cv (a:=((kf t.n id:Nat):Int)) (e:=((kf t.n id:Nat):Int)) rfl rfl yg yf (iV o_) (gf hst0 4 ?_)))
 refine gF (v:=(Za ((kf t.n id:Nat):Int))) Tryz.results153 rfl ?_
 exact⟨rfl,yr (yc [_,_,_] _ hst0)⟩
theorem TK(tb:Nat)(id:Int)(w:World) :
 CR ya 152 (p7 tb id) w (fun r w' => ∃ xb yb,r = .func (.func 200) #[] (Fc xb yb)/\gp (gG []) w w' (gG [blk xb 98 (Zi tb),blk yb 34 (Zt id)])):=by
 refine en Tryz.func152 Tryz.ntmps152 ?_
 have hst0:=jB w
 refine gh hst0 2 ?_
 refine bx (v:=(Zb tb)) (cs:=(Zi tb)) rfl rfl rfl hst0 (fun a f g h d=>bx (v:=(Zd id)) (cs:=(Zt id)) rfl rfl rfl d (fun b i j k c=>fP c 5 ?_))
 refine wJ (vf:=[]) (vc:=(wV a b)) rfl rfl rfl (gf c 4 ?_)
 refine gF (v:=(.func (.func 200) #[] (Fc a b))) Tryz.results152 rfl ?_
 have e:=ym [1,0] c
 exact⟨a,b,rfl,St.eM (yc [_,_] _ e)⟩
theorem Sn{γ:Type}(Cl:γ->gi)(Iv:γ->Nat->Nat->Prop)(Dn:γ->Prop)(z0:γ)(l xb yb tb ab:Nat)(t:TW)(id:Int)(w:World)(hy:∀ (z:γ) (k c:Nat) (bs:List (World×List Nat)) (L:List gi) (w:World),k<t.n->c<t.n->Iv z k c->St bs (Cl z :: (B7 tb ab t)++L) w->YR ya l (Zj c ((fM t.cs c:Nat):Int)) w (fun v w' => ∃ z2 b,v = .bool b/\(b=true->Iv z2 (k+1) (ic t.n c))/\(b=false->Dn z2)/\St bs (Cl z2 :: (B7 tb ab t)++L) w'))(hT:t.ok)(hz0:Iv z0 0 (kf t.n id))(hO:Own (ER (Cl z0) tb ab t xb yb id) w) :
 CR ya 200 (Q8 (.func (.yield l) #[] #[]) xb yb) w (fun r w' => ∃ z,((∃ c,Iv z t.n c)\/Dn z)/\r = .tuple #[]/\gp (ER (Cl z0) tb ab t xb yb id) w w' (ER (Cl z) tb ab t xb yb id)):=by
 have hnl:t.cs.length=t.n:=rfl
 have h2t:=hT.two
 have htop:=hT.top
 have hpos:0<t.n:=by omega
 refine en Tryz.func200 Tryz.ntmps200 ?_
 have hst0:=Own.of hO
 have o:=ym [1,2,3,0,4,5] hst0
 have g:=yc [_,_,_] _ o
 refine gh hst0 4 ?_
 refine cl NJ (L3 tb ab t w (yd g (i:=0) rfl) hT.sz id) ?_
 rintro _ s ⟨rfl,ht⟩
 have f:=(yq g ht)
 refine fP f 9 ?_
 refine kZ (m:=t.cs.length) 2 rfl rfl yh f rfl ?_
 have p:=ym [3,0,1,2,4,5] f
 refine gX f 4 ?_
 refine lp (α:=γ×Nat×Nat) (fun(z,k,c)=>[(0,(.func (.yield l) #[] #[])),(1,(Zb xb)),(2,(Zb yb)),(4,(Za c)),(12,(Za t.cs.length)),(13,(Za k))]) (fun(z,k,c) w1=>St [(w,(ER (Cl z0) tb ab t xb yb id).gU)] [(Cl z),blk tb 173 (Z7 tb ab t),fV gW t.iv 34 1 t.ids,fV gL t.cv 3 1 t.cs,blk xb 98 (Zi tb),blk yb 34 (Zt id)] w1/\k<=t.n/\c<t.n/\Iv z k c) (fun(z,k,c)=>t.n-k) (z0,0,(kf t.n id)) ⟨rfl,rfl,rfl,gJ (by first|rfl|omega),rfl,gJ (by first|rfl|omega),trivial⟩ (⟨p,o_,vP hpos,hz0⟩) ?_
 rintro⟨z,k,c⟩ u x ⟨hst3,hk2,hc2,hIv⟩
 refine gh hst3 2 ?_
 by_cases y:((k:Int):Int)<((t.cs.length:Int):Int)
 . refine fP hst3 19 ?_
   refine jj (cf:=gL) (k:=c) (i:=(c:Int)) rfl rfl rfl yh gq (ye hst3 (i:=3) rfl f_) o_ o_ (gy om) (kE (cf:=gL) rfl rfl yf rfl (ye hst3 (i:=3) rfl f_) (gy om) rfl (yl (vl:=(Zj c (((fM t.cs c):Nat):Int))) rfl rfl rfl (hy z k c _ _ _ o_ hc2 hIv hst3) ?_))
   rintro _ A ⟨h,q,rfl,hiv9,hdn9,d⟩
   refine gX d 3 ?_
   cases j:(q:Bool)
   . skip
     subst j
     refine jr d 7 ?_
     refine BL Tryz.results200 ?_
     exact⟨h,.inr (hdn9 rfl),rfl,yr (yc [_,_,_,_,_,_] _ d)⟩
   . skip
     subst j
     refine gh d 10 ?_
     refine kZ (m:=t.cs.length) 3 rfl rfl yh d rfl (fP d 1 ?_)
     refine bi (a:=(c:Int)+1) (b:=(t.cs.length:Int)-1) (e:=((ic t.n c:Nat):Int)) rfl rfl rfl (hT.p2.nx hc2) (gf d 8 ?_)
     refine tN (?_)
     exact again (h,(k+1),(ic t.n c)) ⟨rfl,rfl,rfl,gJ (by first|rfl|omega),rfl,gJ (by first|rfl|omega),trivial⟩ (⟨d,o_,Ia hc2,hiv9 rfl⟩) (by show t.n-(k+1)<t.n-k;omega)
 . refine gf hst3 9 ?_
   refine jf Tryz.results200 ?_
   obtain rfl:k=t.n:=by omega
   exact⟨z,.inl ⟨c,hIv⟩,rfl,yr (yc [_,_,_,_,_,_] _ hst3)⟩
theorem VL(tb ab:Nat)(t:TW)(w:World)(hO:Own (Z3 tb ab t) w)(hT:t.ok)(id:Int) :
 CR ya 101 (p7 tb id) w (fun r w' => r = .tuple (sH ((t.find id).1:Int) ((t.find id).2))/\gp (Z3 tb ab t) w w' (Z3 tb ab t)):=by
 have hnl:t.cs.length=t.n:=rfl
 have h2t:=hT.two
 have htop:=hT.top
 have hpos:0<t.n:=by omega
 refine DL (vs:=[(Zb tb),(Zd id)]) Tryz.func101 rfl Tryz.ntmps101 rfl ?_
 have hst0:=Own.of hO
 refine gh hst0 2 ?_
 refine bx (v:=(Zb tb)) (cs:=(Zi tb)) rfl rfl rfl hst0 (fun f W X Y C=>bx (v:=(Zd id)) (cs:=(Zt id)) rfl rfl rfl C (fun g Z aa ac D=>al (cs:=[Zc]) rfl gq rfl D (fun m ad ae af E=>al (cs:=[Zq]) rfl qM rfl E (fun o G ag ah x=>fP x 7 ?_))))
 refine cl YA (TK tb id G) ?_
 rintro _ ai ⟨p,q,rfl,ht⟩
 have y:=j8 (ou x ht)
 have H:=ym [3,2,5,4,6,7,8,0,1] y
 refine gX y 3 ?_
 refine rfx (α:=Bool×Int×Bool) (ps:=[11,12]) (fi:=[]) (ca:=(wV p q)) (fun(sp,a,b)=>[blk m 3 (Zf a),blk o 4 [(.bool b)],blk f 98 (Zi tb),blk g 34 (Zt id),blk tb 173 (Z7 tb ab t),fV gW t.iv 34 1 t.ids,fV gL t.cv 3 1 t.cs,blk p 98 (Zi tb),blk q 34 (Zt id)]) (fun(sp,a,b)=>(sp=false/\t.find id=(0,false))\/(sp=true/\a=((t.find id).1:Int)/\b=(t.find id).2)) (fun(sp,a,b)=>sp) H rfl YF ?_ ?_ ?_
 . intro fn dd l wl rc hrc hsl
   have I:=ym [0,2,3,4,5,6,7,8,9,10,1] hsl
   have hpk:=yc [jd l rc,blk m 3 [Zc],blk o 4 [Zq],blk f 98 (Zi tb),blk g 34 (Zt id)] [blk tb 173 (Z7 tb ab t),fV gW t.iv 34 1 t.ids,fV gL t.cv 3 1 t.cs,blk p 98 (Zi tb),blk q 34 (Zt id),kA dd (some [])] I
   have hr1:rc.state = .ready:=by rw[hrc]
   have hr2:rc.pending=none:=by rw[hrc]
   have hround:∀ (z:Bool×Int×Bool) (k c:Nat) (bs:List (World×List Nat)) (L:List gi) (w:World),k<t.n->c<t.n->(fun(z:Bool×Int×Bool) k c=>z.1=false/\t.rest id k c) z k c->St bs ((fun((sp,a,b):Bool×Int×Bool)=>gG (J1 (jd l (wL sp rc)) m a o b f tb g id)) z :: (B7 tb ab t)++L) w->YR ya l (Zj c ((fM t.cs c:Nat):Int)) w (fun v w' => ∃ z2 b,v = .bool b/\(b=true->(fun(z:Bool×Int×Bool) k c=>z.1=false/\t.rest id k c) z2 (k+1) (ic t.n c))/\(b=false->(fun(z:Bool×Int×Bool)=>z.1=true/\z.2.1=((t.find id).1:Int)/\z.2.2=(t.find id).2) z2)/\St bs ((fun((sp,a,b):Bool×Int×Bool)=>gG (J1 (jd l (wL sp rc)) m a o b f tb g id)) z2 :: (B7 tb ab t)++L) w'):=by
    rintro⟨sp,a,b⟩ k c bs LT wr hk hc ⟨rfl,hr9⟩ hsr
    have hsr:=hsr.unpack
    refine J7 (vl:=(Zj c ((fM t.cs c:Nat):Int))) 0 hrc hsr rfl rfl rfl (jr hsr 8 ?_)
    refine tN (?_)
    refine Jj 0 hsr rfl hr1 rfl (fun aj d=>gh d 5 ?_)
    by_cases ak:(((fM t.cs c:Nat):Int):Int)=(0:Int)
    . have hc0:fM t.cs c=0:=by omega
      refine fP d 1 ?_
      skip
      skip
      skip
      refine lW d 13 fun am J=>?_
      refine Qc 0 J rfl rfl ?_
      intro ao K
      have hfd:t.find id=(c,false):=TW.TR hr9 hk o_
      exact⟨_,rfl,(true,(c:Int),false),false,rfl,fun h=>(by cases h),fun _=>⟨rfl,by rw[hfd],by rw[hfd]⟩,yc [_,_,_,_,_] _ K⟩
    . obtain⟨j,hj⟩:∃ j,fM t.cs c=j+1:=⟨fM t.cs c-1,o_⟩
      have hjv:=hT.val hc hj
      have hjl:j<t.ids.length:=hjv.2.2.1
      have hjn:j<65536:=z6 hjv.2.2.2 hT.an
      refine gX d 7 ?_
      by_cases s:((fM t.ids j):Int)=(id:Int)
      . skip
        have hid:fM t.ids j=id:=by have h7:=s;omega
        refine oE (Γ:=Unit) mixed [[],[0],[0,1],[0,1,2],[],[4],[0,1,2,3,4,5],[0,1,2,3,4,5,6],[],[0,1,2,3,4,5,6,7,8]] [] d_ [fun _=>(Zb tb),fun _=>(Zb tb),fun _=>(rJ tb),fun _=>t.iv,fun _=>(Za ((fM t.cs c:Nat):Int)),fun _=>(Za ((j:Nat):Int)),fun _=>(j7 1 t.iv j 0),fun _=>(Zd (fM t.ids j)),fun _=>(Zd id),fun _=>Zl] [(fun _=>(jd l { rc with state:=.busy } :: blk m 3 (Zf a) :: blk o 4 [(.bool b)] :: blk f 98 (Zi tb) :: blk g 34 (Zt id) :: blk tb 173 (Z7 tb ab t) :: fV gW t.iv 34 1 t.ids :: fV gL t.cv 3 1 t.cs :: LT),fun _ _=>True)] () _ rfl d (fun _ _=>trivial) ?_ f_ rfl ?_
        . skip
          refine lU rfl rfl rfl rfl (fun _ wq hM hF=>qv rfl rfl (gZ rfl Co rfl (yo hM (i:=3) rfl rfl))) (gC (fun _ _=>jY rfl) ?_)
          refine gC (fun _ _=>jL (o' := 2) rfl wX rfl yX rfl) ?_
          refine lU rfl rfl rfl rfl (fun _ wq hM hF=>qv rfl rfl (gZ rfl yp rfl (yo hM (i:=5) rfl rfl))) (gC (fun _ _=>iD (v:=(Za ((fM t.cs c:Nat):Int))) rfl) ?_)
          refine gC (fun _ _=>kG (e:=((j:Nat):Int)) rfl rfl rfl (by rw[iV o_];omega)) ?_
          refine gC (fun _ _=>jU (cf:=gW) (k:=j) (i:=((j:Nat):Int)) rfl rfl yp iK (ye d (i:=6) rfl f_) o_ o_ (gy om)) ?_
          refine lU rfl rfl rfl rfl (fun _ wq hM hF=>qv rfl rfl (mA (cf:=gW) (u:=(Zd (fM t.ids j))) rfl yg rfl (ye hM (i:=6) rfl f_) (gy om) rfl)) (lU rfl rfl rfl rfl (fun _ wq hM hF=>qv rfl rfl (gZ rfl yg rfl (yo hM (i:=4) rfl rfl))) (gC (fun _ _=>mz rfl rfl (sF s)) ?_))
          exact og
        rintro-ap M -
        refine J6 tt (some l) M 11 fun aq N=>?_
        refine Qc 0 N rfl rfl ?_
        intro ar O
        have hfd:t.find id=(c,true):=TW.UJ hr9 hk hj hid
        exact⟨_,rfl,(true,(c:Int),true),false,rfl,fun h=>(by cases h),fun _=>⟨rfl,by rw[hfd],by rw[hfd]⟩,yc [_,_,_,_,_] _ O⟩
      . skip
        have hid:fM t.ids j≠id:=by have h7:=s;omega
        refine oE (Γ:=Unit) mixed [[],[0],[0,1],[0,1,2],[],[4],[0,1,2,3,4,5],[0,1,2,3,4,5,6],[],[0,1,2,3,4,5,6,7,8]] [] d_ [fun _=>(Zb tb),fun _=>(Zb tb),fun _=>(rJ tb),fun _=>t.iv,fun _=>(Za ((fM t.cs c:Nat):Int)),fun _=>(Za ((j:Nat):Int)),fun _=>(j7 1 t.iv j 0),fun _=>(Zd (fM t.ids j)),fun _=>(Zd id),fun _=>Zq] [(fun _=>(jd l { rc with state:=.busy } :: blk m 3 (Zf a) :: blk o 4 [(.bool b)] :: blk f 98 (Zi tb) :: blk g 34 (Zt id) :: blk tb 173 (Z7 tb ab t) :: fV gW t.iv 34 1 t.ids :: fV gL t.cv 3 1 t.cs :: LT),fun _ _=>True)] () _ rfl d (fun _ _=>trivial) ?_ f_ rfl ?_
        . skip
          refine lU rfl rfl rfl rfl (fun _ wq hM hF=>qv rfl rfl (gZ rfl Co rfl (yo hM (i:=3) rfl rfl))) (gC (fun _ _=>jY rfl) ?_)
          refine gC (fun _ _=>jL (o' := 2) rfl wX rfl yX rfl) ?_
          refine lU rfl rfl rfl rfl (fun _ wq hM hF=>qv rfl rfl (gZ rfl yp rfl (yo hM (i:=5) rfl rfl))) (gC (fun _ _=>iD (v:=(Za ((fM t.cs c:Nat):Int))) rfl) ?_)
          refine gC (fun _ _=>kG (e:=((j:Nat):Int)) rfl rfl rfl (by rw[iV o_];omega)) ?_
          refine gC (fun _ _=>jU (cf:=gW) (k:=j) (i:=((j:Nat):Int)) rfl rfl yp iK (ye d (i:=6) rfl f_) o_ o_ (gy om)) ?_
          refine lU rfl rfl rfl rfl (fun _ wq hM hF=>qv rfl rfl (mA (cf:=gW) (u:=(Zd (fM t.ids j))) rfl yg rfl (ye hM (i:=6) rfl f_) (gy om) rfl)) (lU rfl rfl rfl rfl (fun _ wq hM hF=>qv rfl rfl (gZ rfl yg rfl (yo hM (i:=4) rfl rfl))) (gC (fun _ _=>mz rfl rfl (Br s)) ?_))
          exact og
        rintro-au A -
        refine jE tt (some l) A 4 ?_
        refine Jc 0 A rfl hr1 hr2 rfl ?_
        intro av P
        exact⟨_,rfl,(false,a,b),true,rfl,fun _=>⟨rfl,TW.Tn hr9 hk hj hid⟩,fun h=>(by cases h),yc [_,_,_,_,_] _ P⟩
   have hpk2:=yc [_,_,_,_,_,_] _ hpk
   refine CR.mono (Sn (fun((sp,a,b):Bool×Int×Bool)=>gG (J1 (jd l (wL sp rc)) m a o b f tb g id)) (fun(z:Bool×Int×Bool) k c=>z.1=false/\t.rest id k c) (fun(z:Bool×Int×Bool)=>z.1=true/\z.2.1=((t.find id).1:Int)/\z.2.2=(t.find id).2) (false,0,false) l p q tb ab t id wl hround hT ⟨rfl,TW.Sy t id⟩ (yd hpk2 (i:=0) rfl)) ?_
   rintro _ w9 ⟨⟨sp,a,b⟩,hz,-,hturn⟩
   have hs9:=(yq hpk2 hturn).unpack
   have Q:=ym [0,10,1,2,3,4,5,6,7,8,9] hs9
   refine⟨(sp,a,b),?_,Q⟩
   rcases hz with ⟨c,h1,h2⟩|h1
   . exact .inl ⟨h1,TW.VW h2⟩
   . exact .inr h1
 . rintro⟨sp,a,b⟩ dd aw hC hstop R
   have hf:t.find id=(0,false):=hC.elim (fun h=>h.2) (fun h=>absurd (h.1.symm.trans hstop) d_)
   refine J6 tt none R 9 fun ax S=>?_
   refine DM 0 S rfl rfl ?_
   intro w8 hs8
   have U:=ym [5,6,7,0,1,2,3,4,8,9] hs8
   have hT9:gp (Z3 tb ab t) w w8 (Z3 tb ab t):=yr (yc [_,_,_] _ U)
   exact⟨_,IQ Tryz.results101 (Fv rfl yf rfl (yo hs8 (i:=1) rfl rfl)) (Fv rfl ny rfl (yo hs8 (i:=2) rfl rfl)),_,rfl,by rw[hf];rfl,hT9⟩
 . rintro⟨sp,a,b⟩ dd ay hC hstop B
   have hf:a=((t.find id).1:Int)/\b=(t.find id).2:=hC.elim (fun h=>absurd (h.1.symm.trans hstop) d_) (fun h=>h.2)
   refine jE tt none B 2 ?_
   refine DM 0 B rfl rfl ?_
   intro w8 hs8
   have V:=ym [5,6,7,0,1,2,3,4,8,9] hs8
   have hT9:gp (Z3 tb ab t) w w8 (Z3 tb ab t):=yr (yc [_,_,_] _ V)
   exact⟨_,IQ Tryz.results101 (Fv rfl yf rfl (yo hs8 (i:=1) rfl rfl)) (Fv rfl ny rfl (yo hs8 (i:=2) rfl rfl)),_,rfl,by rw[hf.1,hf.2],hT9⟩
end
section
open Go Go.Sx
theorem AF(tb ab:Nat)(t:TW)(w:World)(hO:Own (Z3 tb ab t) w)(hT:t.ok)(id:Int)(p:Nat)(b:Bool)(hf:t.find id=(p,b)) :
 CR ya 101 (p7 tb id) w (fun r w' => r = .tuple (sH p b)/\gp (Z3 tb ab t) w w' (Z3 tb ab t)):=by
 have h:=VL tb ab t w hO hT id
 rw[hf]at h
 exact h
theorem um(tb ab:Nat)(t:TW)(w:World)(hO:Own (Z3 tb ab t) w)(hT:t.ok) :
 CR ya 80 (Zg tb) w (fun r w' => r = .bool true/\gp (Z3 tb ab t) w w' (Z3 tb ab t)):=by
 refine en Tryz.func80 Tryz.ntmps80 ?_
 have hst0:=Own.of hO
 refine gh hst0 8 ?_
 refine ow (a:=some ⟨tb,0,none⟩) (c:=true) rfl rfl rfl Co rfl (fP hst0 6 ?_)
 refine Eu (a:=⟨tb,0,none⟩) rfl rfl rfl Co D7 (gf hst0 5 ?_)
 refine gF (v:=Zl) Tryz.results80 rfl ?_
 exact⟨rfl,yr (yc [_,_,_] _ hst0)⟩
theorem VG(tb ab:Nat)(t:TW)(w:World)(hO:Own (TW.R tb ab t) w)(id:Int)(i:Nat)(hi:t.A.ig i)(hid:fM t.ids i=id) :
 CR ya 105 (p7 tb id) w (fun r w' => r = .tuple (JN i)/\gp (TW.R tb ab t) w w' (TW.R tb ab t)):=by
 have hnl:t.cs.length=t.n:=rfl
 have htop:=hO.fact.top
 obtain⟨p,hp,hc,hf⟩:=hO.fact.Hy hi
 rw[hid]at hf
 have hin:=(hO.fact.val hp hc).2.2.2
 have hin2:i<65536:=z6 hin hO.fact.an
 have hil:=(hO.fact.val hp hc).2.2.1
 refine en Tryz.func105 Tryz.ntmps105 ?_
 have hst0:=Own.of hO.un
 have hT:t.ok:=hO.fact
 have b:=yc [_,_,_] _ hst0
 refine gh hst0 10 ?_
 refine cl uL (um tb ab t w (yd b (i:=0) rfl) hT) ?_
 rintro _ f ⟨rfl,ht⟩
 have c:=(yq b ht)
 have d:=yc [_,_,_] _ c
 refine fP c 10 ?_
 refine cl Bb (AF tb ab t f (yd d (i:=0) rfl) hT id p true hf) ?_
 rintro _ g ⟨rfl,ht⟩
 have a:=(yq d ht)
 refine fP a 24 ?_
 refine jj (cf:=gL) (k:=p) (i:=(p:Int)) rfl rfl rfl yh gq (ye a (i:=2) rfl f_) o_ o_ (gy om) (kE (cf:=gL) rfl rfl yf rfl (ye a (i:=2) rfl f_) (gy om) rfl (ar (e:=((i:Nat):Int)) rfl rfl rfl rfl (by rw[iV o_];omega) (gf a 5 ?_)))
 refine jm (v:=(Za ((i:Nat):Int))) (v' := Zl) Tryz.results105 rfl rfl ?_
 exact⟨rfl,yv (yx (p:=(t:TW).ok) (yc [_,_,_,_] _ a) hT) zg⟩
theorem VH(tb ab:Nat)(t:TW)(w:World)(hO:Own (TW.R tb ab t) w)(id:Int)(hn:¬ t.mem id) :
 CR ya 105 (p7 tb id) w (fun r w' => r = .tuple JH/\gp (TW.R tb ab t) w w' (TW.R tb ab t)):=by
 have hnl:t.cs.length=t.n:=rfl
 have htop:=hO.fact.top
 obtain⟨p,hp,hf,h0,hw⟩:=hO.fact.ML hn
 refine en Tryz.func105 Tryz.ntmps105 ?_
 have hst0:=Own.of hO.un
 have hT:t.ok:=hO.fact
 have a:=yc [_,_,_] _ hst0
 refine gh hst0 10 ?_
 refine cl uL (um tb ab t w (yd a (i:=0) rfl) hT) ?_
 rintro _ e ⟨rfl,ht⟩
 have b:=(yq a ht)
 have c:=yc [_,_,_] _ b
 refine fP b 10 ?_
 refine cl Bb (AF tb ab t e (yd c (i:=0) rfl) hT id p false hf) ?_
 rintro _ f ⟨rfl,ht⟩
 have d:=(yq c ht)
 refine gf d 23 ?_
 refine jm (v:=Zc) (v' := Zq) Tryz.results105 rfl rfl ?_
 exact⟨rfl,yv (yx (p:=(t:TW).ok) (yc [_,_,_,_] _ d) hT) zg⟩
theorem Dy(tb ab:Nat)(t:TW)(w:World)(hO:Own (TW.R tb ab t) w)(id:Int) :
 CR ya 105 (p7 tb id) w (fun r w' => ∃ (z:Nat) (b:Bool),r = .tuple (sH z b)/\TW.vz t id z b/\gp (TW.R tb ab t) w w' (TW.R tb ab t)):=by
 by_cases hm:t.mem id
 . obtain⟨i,hi,hid⟩:=hm
   exact CR.mono (VG tb ab t w hO id i hi hid) fun r w' ⟨h1,h2⟩=>⟨i,true,h1,.inl ⟨rfl,hi,hid⟩,h2⟩
 . exact CR.mono (VH tb ab t w hO id hm) fun r w' ⟨h1,h2⟩=>⟨0,false,h1,.inr ⟨rfl,rfl,hm⟩,h2⟩
theorem W3(tb ab:Nat)(t:TW)(w:World)(hO:Own (TW.R tb ab t) w) :
 CR ya 104 (Zg tb) w (fun r w' => r = .int .i64 (t.A.used:Int)/\gp (TW.R tb ab t) w w' (TW.R tb ab t)):=by
 have hT:=hO.fact
 refine en Tryz.func104 Tryz.ntmps104 ?_
 have hst0:=Own.of hO.un
 have hT:t.ok:=hO.fact
 have b:=yc [_,_,_] _ hst0
 refine gh hst0 9 ?_
 refine cl uL (um tb ab t w (yd b (i:=0) rfl) hT) ?_
 rintro _ d ⟨rfl,ht⟩
 have a:=(yq b ht)
 refine fP a 12 ?_
 refine cl Eb (DB ab t.w d (yd a (i:=3) rfl)) ?_
 rintro _ e ⟨rfl,ht⟩
 have c:=yt 3 a ht
 refine gf c 4 ?_
 refine gF (v:=(Za t.A.used)) Tryz.results104 rfl ?_
 exact⟨rfl,yv (yx (p:=(t:TW).ok) (yc [_,_,_,_] _ c) hT) zg⟩
theorem VD(tb ab:Nat)(t:TW)(w:World)(hO:Own (TW.R tb ab t) w)(id:Int)(i:Nat)(hi:t.A.ig i)(hid:fM t.ids i=id) :
 CR ya 113 (p7 tb id) w (fun r w' => r = .tuple #[.int .i64 (i:Int),.bool false,.int .i64 0]/\gp (TW.R tb ab t) w w' (TW.R tb ab t)):=by
 have hnl:t.cs.length=t.n:=rfl
 have htop:=hO.fact.top
 obtain⟨p,hp,hc,hf⟩:=hO.fact.Hy hi
 rw[hid]at hf
 have hin:=(hO.fact.val hp hc).2.2.2
 have hin2:i<65536:=z6 hin hO.fact.an
 have hil:=(hO.fact.val hp hc).2.2.1
 refine en Tryz.func113 Tryz.ntmps113 ?_
 have hst0:=Own.of hO.un
 have hT:t.ok:=hO.fact
 have b:=yc [_,_,_] _ hst0
 refine gh hst0 11 ?_
 refine cl uL (um tb ab t w (yd b (i:=0) rfl) hT) ?_
 rintro _ f ⟨rfl,ht⟩
 have c:=(yq b ht)
 have d:=yc [_,_,_] _ c
 refine fP c 10 ?_
 refine cl Bb (AF tb ab t f (yd d (i:=0) rfl) hT id p true hf) ?_
 rintro _ g ⟨rfl,ht⟩
 have a:=(yq d ht)
 refine fP a 21 ?_
 refine jj (cf:=gL) (k:=p) (i:=(p:Int)) rfl rfl rfl yh gq (ye a (i:=2) rfl f_) o_ o_ (gy om) (kE (cf:=gL) rfl rfl yf rfl (ye a (i:=2) rfl f_) (gy om) rfl (ar (e:=((i:Nat):Int)) rfl rfl rfl rfl (by rw[iV o_];omega) (gf a 7 ?_)))
 refine yT (v:=(Za ((i:Nat):Int))) (v' := Zq) (v'' := Zc) Tryz.results113 rfl rfl rfl ?_
 exact⟨rfl,yv (yx (p:=(t:TW).ok) (yc [_,_,_,_] _ a) hT) zg⟩
theorem Uz(tb ab:Nat)(t:TW)(w:World)(hO:Own (TW.R tb ab t) w)(id:Int)(hn:¬ t.mem id)(hid:iC .u64 id)(hu:t.A.used<t.A.n) :
 CR ya 113 (p7 tb id) w (fun r w' => ∃ (i:Nat) (t2:TW),r = .tuple #[.int .i64 (i:Int),.bool true,.int .i64 0]/\((∀ x,t2.mem x↔t.mem x\/x=id)/\t2.A.n=t.A.n/\t2.A.used=t.A.used+1)/\gp (TW.R tb ab t) w w' (TW.R tb ab t2)):=by
 have hnl:t.cs.length=t.n:=rfl
 have htop:=hO.fact.top
 obtain⟨p,hp,hf,h0,hw⟩:=hO.fact.ML hn
 have hil:t.ids.length=t.w.A.begun:=hO.fact.vw
 have hla:(t.ids++[0]).length=t.ids.length+1:=by simp
 have hbeg:t.w.A.begun<=t.w.A.n:=hO.fact.oG
 have han:t.w.A.n<=65536:=hO.fact.an
 refine en Tryz.func113 Tryz.ntmps113 ?_
 have hst0:=Own.of hO.un
 have hT:t.ok:=hO.fact
 have q:=yc [_,_,_] _ hst0
 refine gh hst0 11 ?_
 refine cl uL (um tb ab t w (yd q (i:=0) rfl) hT) ?_
 rintro _ C ⟨rfl,ht⟩
 have s:=(yq q ht)
 have u:=yc [_,_,_] _ s
 refine fP s 10 ?_
 refine cl Bb (AF tb ab t C (yd u (i:=0) rfl) hT id p false hf) ?_
 rintro _ D ⟨rfl,ht⟩
 have h:=(yq u ht)
 refine fP h 22 ?_
 refine cl NT (LV ab t.w D (yd h (i:=3) rfl) hu) ?_
 rintro _ H ⟨a,b,rfl,e,ht⟩
 have d:=yt 3 h ht
 have hA9:=(y0 d (i:=3) rfl:b.A.ok)
 have hib:a<=t.ids.length:=by rcases e.oG with h9|h9<;>omega
 have hib2:a<=65536:=by omega
 refine fP d 25 ?_
 refine kZ (m:=t.ids.length) 1 rfl rfl yp d rfl ?_
 by_cases I:(((a:Nat):Int):Int)=((t.ids.length:Int):Int)
 . refine fP d 10 ?_
   refine nk (vs:=Ce) (cs:=Ce) rfl rfl yp iK rfl (by simp[Value.cells]) rfl rfl rfl d (fun E J K L y=>ri (cf:=gW) (ys:=t.ids) (zs:=[0]) (LL:=fun c=>[iA .u64 (Zx E) 34 ([0]),blk tb 173 (Z7 tb ab t),fV gW c 34 1 (t.ids++[0]),fV gL t.cv 3 1 t.cs,(AW.R ab b)]) 2 rfl rfl rfl yp iK rfl d_ y rfl (oU y (i:=0) rfl) (fun x hx=>zz.1 (show List.all _ _=true from rfl) x hx) (by simp only[zp,zx,maxLen];omega) (by simp only[zp,zx,maxLen];omega) f_ ?_)
   intro c M G N
   have g:=ym [1,2,3,4] G
   refine fP g 2 ?_
   refine mD (L' := (Qr tb ab c t (t.ids++[0]) b)) 0 rfl rfl rfl (cells_one (mg g (i:=1) rfl)) yX rfl (oe (mg g (i:=1) rfl) tC) g rfl rfl rfl rfl (fun O j=>fP j 10 ?_)
   refine jj (cf:=gW) (k:=a) (i:=((a:Nat):Int)) rfl rfl rfl yp iK (ye j (i:=1) rfl f_) o_ o_ (gy om) (sy (f:=(fun _=>id)) (L' := (Qr tb ab c t (fR (t.ids++[0]) a (fun _=>id)) b)) 1 rfl rfl rfl rfl iK rfl rfl j rfl f_ om rfl rfl rfl (fun P l=>fP l 11 ?_))
   refine jj (cf:=gL) (k:=p) (i:=(p:Int)) rfl rfl rfl yh gq (ye l (i:=2) rfl f_) o_ o_ (gy om) (sy (f:=(fun _=>(a+1))) (L' := [blk tb 173 [(Zb tb),(Zb ab),c,t.cv],fV gW c 34 1 (fR (t.ids++[0]) a (fun _=>id)),fV gL t.cv 3 1 (fR t.cs p (fun _=>(a+1))),(AW.R ab b)]) 2 rfl rfl rfl rfl gq rfl rfl l rfl f_ om rfl rfl rfl (fun Q z=>gf z 11 ?_))
   refine yT (v:=(Za ((a:Nat):Int))) (v' := Zl) (v'' := Zc) Tryz.results113 rfl rfl rfl ?_
   have hpo:=hT.put hn hid hA9 e hp h0 hw c t.cv (is2:=fR (t.ids++[0]) a (fun _=>id)) (cs2:=fR t.cs p (fun _=>(a+1))) (by unfold wC;rw[if_pos o_]) rfl
   exact⟨a,⟨c,t.cv,b,fR (t.ids++[0]) a (fun _=>id),fR t.cs p (fun _=>(a+1))⟩,rfl,⟨hpo.2,e.n,e.used⟩,yv (yx (p:=(⟨c,t.cv,b,fR (t.ids++[0]) a (fun _=>id),fR t.cs p (fun _=>(a+1))⟩:TW).ok) (yc [_,_,_,_] _ z) hpo.1) zg⟩
 . refine fP d 14 ?_
   refine jj (cf:=gW) (k:=a) (i:=((a:Nat):Int)) rfl rfl rfl yp iK (ye d (i:=1) rfl f_) o_ o_ (gy om) (sy (f:=(fun _=>id)) (L' := [blk tb 173 (Z7 tb ab t),fV gW t.iv 34 1 (fR t.ids a (fun _=>id)),fV gL t.cv 3 1 t.cs,(AW.R ab b)]) 1 rfl rfl rfl rfl iK rfl rfl d rfl f_ om rfl rfl rfl (fun S o=>fP o 11 ?_))
   refine jj (cf:=gL) (k:=p) (i:=(p:Int)) rfl rfl rfl yh gq (ye o (i:=2) rfl f_) o_ o_ (gy om) (sy (f:=(fun _=>(a+1))) (L' := (QH tb ab t (fR t.ids a (fun _=>id)) (fR t.cs p (fun _=>(a+1))) b)) 2 rfl rfl rfl rfl gq rfl rfl o rfl f_ om rfl rfl rfl (fun U B=>gf B 11 ?_))
   refine yT (v:=(Za ((a:Nat):Int))) (v' := Zl) (v'' := Zc) Tryz.results113 rfl rfl rfl ?_
   have hpo:=hT.put hn hid hA9 e hp h0 hw t.iv t.cv (is2:=fR t.ids a (fun _=>id)) (cs2:=fR t.cs p (fun _=>(a+1))) (by unfold wC;rw[if_neg o_]) rfl
   exact⟨a,⟨t.iv,t.cv,b,fR t.ids a (fun _=>id),fR t.cs p (fun _=>(a+1))⟩,rfl,⟨hpo.2,e.n,e.used⟩,yv (yx (p:=(⟨t.iv,t.cv,b,fR t.ids a (fun _=>id),fR t.cs p (fun _=>(a+1))⟩:TW).ok) (yc [_,_,_,_] _ B) hpo.1) zg⟩
end
section
open Go Go.Sx
theorem TN(tb ab:Nat)(t:TW)(cs2:List Nat)(hl:cs2.length=t.n)(w:World)(hO:Own (FD tb ab t cs2) w)(hT:TW.Sz t.n)(id:Int) :
 CR ya 153 (p7 tb id) w (fun r w' => r = .int .i64 ((kf t.n id:Nat):Int)/\gp (FD tb ab t cs2) w w' (FD tb ab t cs2)):=by
 have h9:TW.n ⟨t.iv,t.cv,t.w,t.ids,cs2⟩=t.n:=hl
 have h:=L3 tb ab ⟨t.iv,t.cv,t.w,t.ids,cs2⟩ w hO (by rw[h9];exact hT) id
 rw[h9]at h
 exact h
theorem Us(tb ab:Nat)(t:TW)(w:World)(hO:Own (Z3 tb ab t) w)(hT:t.ok)(p i:Nat)(hp:p<t.n)(hc:fM t.cs p=i+1) :
 CR ya 102 (Zn tb ((p:Nat):Int)) w (fun r w' => r = .tuple #[]/\∃ cs2,cs2.length=t.n/\(qJ t.n cs2 (fun j=>kf t.n (fM t.ids j))/\(∀ p q,p<t.n->q<t.n->fM cs2 p≠0->fM cs2 p=fM cs2 q->p=q)/\(∀ i2,(∃ p,p<t.n/\fM cs2 p=i2+1)↔i2≠i/\∃ p,p<t.n/\fM t.cs p=i2+1))/\gp (Z3 tb ab t) w w' (FD tb ab t cs2)):=by
 have hnl:t.cs.length=t.n:=rfl
 have h2t:=hT.two
 have htop:=hT.top
 have hpos:0<t.n:=by omega
 obtain⟨z,hz,hz0⟩:=hT.zero
 have hC0:oB t.n (fun j=>kf t.n (fM t.ids j)) i t.cs t.cs p p z:=oB.start hT.Fh rfl hp hc hz hz0 (fun q j _ _=>vP hpos) hT.inj
 refine en Tryz.func102 Tryz.ntmps102 ?_
 have hst0:=Own.of hO
 refine gh hst0 7 ?_
 refine kZ (m:=t.cs.length) 2 rfl rfl yh hst0 rfl (gX hst0 15 ?_)
 refine lp (α:=List Nat×Nat×Nat) (fun(cs,hole,c)=>[(0,(Zb tb)),(1,(Za ((hole:Nat):Int))),(4,(Za ((t.cs.length:Int)-1))),(5,(Za ((c:Nat):Int)))]) (fun(cs,hole,c) w1=>St [(w,(Z3 tb ab t).gU)] (Fj tb ab t cs) w1/\oB t.n (fun j=>kf t.n (fM t.ids j)) i t.cs cs hole c z) (fun(cs,hole,c)=>dst t.n c z) (t.cs,p,p) ⟨rfl,gJ (by first|rfl|omega),rfl,gJ (by first|rfl|omega),trivial⟩ (⟨hst0,hC0⟩) ?_
 rintro⟨cs,hole,c⟩ v u ⟨hst3,hC⟩
 have hnx:=hC.next
 have hxl:ic t.n c<t.n:=hnx.1
 have hhl:=hC.uP
 have hcl:=hC.Q6
 have hln:=hC.len
 refine gh hst3 6 ?_
 refine bi (a:=((c:Nat):Int)+1) (b:=(t.cs.length:Int)-1) (e:=((ic t.n c:Nat):Int)) rfl rfl rfl (hT.p2.nx hcl) (fP hst3 10 ?_)
 refine jj (cf:=gL) (k:=(ic t.n c)) (i:=((ic t.n c:Nat):Int)) rfl rfl rfl yh gq (ye hst3 (i:=2) rfl f_) o_ o_ (gy om) (kE (cf:=gL) rfl rfl yf rfl (ye hst3 (i:=2) rfl f_) (gy om) rfl (fP hst3 7 ?_))
 by_cases g:((((fM cs (ic t.n c)):Nat):Int):Int)=(0:Int)
 . have h00:fM cs (ic t.n c)=0:=by have h7:=@g;omega
   refine fP hst3 16 ?_
   refine jj (cf:=gL) (k:=hole) (i:=((hole:Nat):Int)) rfl rfl rfl yh gq (ye hst3 (i:=2) rfl f_) o_ o_ (gy om) (sy (f:=(fun _=>0)) (L' := (Fj tb ab t (fR cs hole (fun _=>0)))) 2 rfl rfl rfl rfl gq rfl rfl hst3 rfl f_ om rfl rfl rfl (fun x h=>gf h 2 ?_))
   refine jf Tryz.results102 ?_
   exact⟨rfl,fR cs hole (fun _=>0),by rw[gM];exact hC.len,hC.done h00 ⟨p,hp,hc⟩,yr (yc [_,_,_] _ h)⟩
 . obtain⟨j,hj⟩:∃ j,fM cs (ic t.n c)=j+1:=⟨fM cs (ic t.n c)-1,by have h7:=@g;omega⟩
   obtain⟨hji,q9,hq9,hcq⟩:=(hC.mem j).1 ⟨ic t.n c,hxl,hnx.2.1,hj⟩
   have hjv:=hT.val hq9 hcq
   have hjl:j<t.ids.length:=hjv.2.2.1
   have hjn:j<65536:=z6 hjv.2.2.2 hT.an
   have hhj:=vP (id:=fM t.ids j) hpos
   refine fP hst3 1 ?_
   rw[hj]
   refine fP hst3 15 ?_
   refine ar (e:=((j:Nat):Int)) rfl rfl rfl rfl (by rw[iV o_];omega) (jj (cf:=gW) (k:=j) (i:=((j:Nat):Int)) rfl rfl rfl yp iK (ye hst3 (i:=1) rfl f_) o_ o_ (gy om) (kE (cf:=gW) rfl rfl yg rfl (ye hst3 (i:=1) rfl f_) (gy om) rfl ?_))
   have l:=yc [_,_,_] _ hst3
   refine cl NJ (TN tb ab t cs hC.len u (yd l (i:=0) rfl) hT.sz (fM t.ids j)) ?_
   rintro _ y ⟨rfl,ht⟩
   have d:=(yq l ht)
   refine fP d 2 ?_
   refine bi (a:=((ic t.n c:Nat):Int)-((kf t.n (fM t.ids j):Nat):Int)) (b:=(t.cs.length:Int)-1) (e:=((dst t.n (kf t.n (fM t.ids j)) (ic t.n c):Nat):Int)) rfl rfl rfl (hT.p2.dst hhj hxl) (fP d 4 ?_)
   refine bi (a:=((ic t.n c:Nat):Int)-((hole:Nat):Int)) (b:=(t.cs.length:Int)-1) (e:=((dst t.n hole (ic t.n c):Nat):Int)) rfl rfl rfl (hT.p2.dst hhl hxl) ?_
   by_cases o:(((dst t.n (kf t.n (fM t.ids j)) (ic t.n c):Nat):Int):Int)<(((dst t.n hole (ic t.n c):Nat):Int):Int)
   . have hlt:(dst t.n (kf t.n (fM t.ids j)) (ic t.n c)<dst t.n hole (ic t.n c)):=by have h7:=o;omega
     refine gf d 7 ?_
     refine tN (?_)
     exact again (cs,hole,(ic t.n c)) ⟨rfl,rfl,rfl,gJ (by first|rfl|omega),trivial⟩ (⟨d,hC.skip hj hlt⟩) (by show dst t.n (ic t.n c) z<dst t.n c z;exact hnx.2.2.2.2)
   . have hlt:¬ (dst t.n (kf t.n (fM t.ids j)) (ic t.n c)<dst t.n hole (ic t.n c)):=by have h7:=o;omega
     refine fP d 14 ?_
     refine jj (cf:=gL) (k:=hole) (i:=((hole:Nat):Int)) rfl rfl rfl yh gq (ye d (i:=2) rfl f_) o_ o_ (gy om) (sy (f:=(fun _=>(j+1))) (L' := (Fj tb ab t (fR cs hole (fun _=>(j+1))))) 2 rfl rfl rfl rfl gq rfl rfl d rfl f_ om rfl rfl rfl (fun A s=>gf s 7 ?_))
     refine tN (?_)
     exact again (fR cs hole (fun _=>(j+1)),(ic t.n c),(ic t.n c)) ⟨rfl,gJ (by first|rfl|omega),rfl,gJ (by first|rfl|omega),trivial⟩ (⟨s,hC.move hj hlt⟩) (by show dst t.n (ic t.n c) z<dst t.n c z;exact hnx.2.2.2.2)
end
section
open Go Go.Sx
theorem HS(tb ab:Nat)(t:TW)(w:World)(hO:Own (TW.R tb ab t) w)(id:Int)(i:Nat)(hi:t.A.ig i)(hid:fM t.ids i=id) :
 CR ya 63 (p7 tb id) w (fun r w' => ∃ (t2:TW),r = .int .i64 0/\((∀ x,t2.mem x↔t.mem x/\x≠id)/\t2.A.n=t.A.n/\t2.A.used=t.A.used-1/\0<t.A.used)/\gp (TW.R tb ab t) w w' (TW.R tb ab t2)):=by
 have hnl:t.cs.length=t.n:=rfl
 have htop:=hO.fact.top
 obtain⟨p,hp,hc,hf⟩:=hO.fact.Hy hi
 rw[hid]at hf
 have hin:=(hO.fact.val hp hc).2.2.2
 have hin2:i<65536:=z6 hin hO.fact.an
 have hil:=(hO.fact.val hp hc).2.2.1
 refine en Tryz.func63 Tryz.ntmps63 ?_
 have hst0:=Own.of hO.un
 have hT:t.ok:=hO.fact
 have j:=yc [_,_,_] _ hst0
 refine gh hst0 9 ?_
 refine cl uL (um tb ab t w (yd j (i:=0) rfl) hT) ?_
 rintro _ s ⟨rfl,ht⟩
 have l:=(yq j ht)
 have m:=yc [_,_,_] _ l
 refine fP l 10 ?_
 refine cl Bb (AF tb ab t s (yd m (i:=0) rfl) hT id p true hf) ?_
 rintro _ u ⟨rfl,ht⟩
 have a:=(yq m ht)
 refine fP a 24 ?_
 refine jj (cf:=gL) (k:=p) (i:=(p:Int)) rfl rfl rfl yh gq (ye a (i:=2) rfl f_) o_ o_ (gy om) (kE (cf:=gL) rfl rfl yf rfl (ye a (i:=2) rfl f_) (gy om) rfl (ar (e:=((i:Nat):Int)) rfl rfl rfl rfl (by rw[iV o_];omega) (fP a 11 ?_)))
 refine cl OA (ME ab t.w u (yd a (i:=3) rfl) i hi) ?_
 rintro _ y ⟨b,rfl,c,ht⟩
 have d:=yt 3 a ht
 have hA9:=(y0 d (i:=3) rfl:b.A.ok)
 have o:=yc [_,_,_] _ d
 refine fP d 16 ?_
 refine cl XT (Us tb ab t y (yd o (i:=0) rfl) hT p i hp hc) ?_
 rintro _ z ⟨rfl,g,hnl9,hcd9,ht⟩
 have h:=(yq o ht)
 refine fP h 9 ?_
 refine jj (cf:=gW) (k:=i) (i:=((i:Nat):Int)) rfl rfl rfl yp iK (ye h (i:=1) rfl f_) o_ o_ (gy om) (sy (f:=(fun _=>0)) (L' := (QH tb ab t (fR t.ids i (fun _=>0)) g b)) 1 rfl rfl rfl rfl iK rfl rfl h rfl f_ om rfl rfl rfl (fun B q=>gf q 8 ?_))
 refine gF (v:=Zc) Tryz.results63 rfl ?_
 have hpo:=hT.del hi hA9 c hnl9 hcd9 t.iv t.cv (is2:=fR t.ids i (fun _=>0)) rfl
 rw[hid]at hpo
 exact⟨⟨t.iv,t.cv,b,fR t.ids i (fun _=>0),g⟩,rfl,⟨hpo.2,c.n,c.used,c.pos⟩,yv (yx (p:=(⟨t.iv,t.cv,b,fR t.ids i (fun _=>0),g⟩:TW).ok) (yc [_,_,_,_] _ q) hpo.1) zg⟩
theorem Un(v:Value)(xs:List Int)(w:World)(hv:jx 1 gW (fun _=>True) w v xs)(hl0:xs.length<=1000000) :
 CR ya 154 #[v] w (fun r w' => qt 1 gW w w' r 34 xs/\gD [] w w'):=by
 refine en Tryz.func154 Tryz.ntmps154 ?_
 have hst0:=jB w
 refine gh hst0 9 ?_
 refine DV (v:=v) rfl rfl rfl yp hv (gX hst0 2 ?_)
 cases e:(wo v:Bool)
 . skip
   refine gh hst0 5 ?_
   refine nk (vs:=[]) (cs:=[]) rfl rfl yp iK rfl (by intro v hv;simp at hv) rfl rfl rfl hst0 ?_
   intro f g h i c
   have d:=c
   refine fP c 1 ?_
   refine ri (cf:=gW) (ys:=[]) (zs:=xs) (LL:=fun a=>(tY a xs)) 0 rfl rfl rfl yp iK rfl d_ d rfl (jx.src (oC d s_ d_ hv) f_) (xF f_ _) (by simp only[zx];omega) (by simp only[zx];omega) f_ (fun a j b k=>gf b 4 ?_)
   refine gF (v:=a) Tryz.results154 rfl ?_
   exact⟨St.C2 b s_,b.gI s_⟩
 . skip
   refine jr hst0 8 ?_
   refine gF (v:=Zk) Tryz.results154 rfl ?_
   obtain rfl:=Dx e hv
   exact⟨qt.Es, hst0.gI s_⟩
theorem LK(v:Value)(xs:List Nat)(w:World)(hv:jx 1 gL (fun _=>True) w v xs)(hl0:xs.length<=1000000) :
 CR ya 110 #[v] w (fun r w' => qt 1 gL w w' r 3 xs/\gD [] w w'):=by
 refine en Tryz.func110 Tryz.ntmps110 ?_
 have hst0:=jB w
 refine gh hst0 9 ?_
 refine DV (v:=v) rfl rfl rfl yh hv (gX hst0 2 ?_)
 cases e:(wo v:Bool)
 . skip
   refine gh hst0 5 ?_
   refine nk (vs:=[]) (cs:=[]) rfl rfl yh gq rfl (by intro v hv;simp at hv) rfl rfl rfl hst0 ?_
   intro f g h i c
   have d:=c
   refine fP c 1 ?_
   refine ri (cf:=gL) (ys:=[]) (zs:=xs) (LL:=fun a=>[fV gL a 3 1 xs]) 0 rfl rfl rfl yh gq rfl d_ d rfl (jx.src (oC d s_ d_ hv) f_) (xF f_ _) (by simp only[zx];omega) (by simp only[zx];omega) f_ (fun a j b k=>gf b 4 ?_)
   refine gF (v:=a) Tryz.results110 rfl ?_
   exact⟨St.C2 b s_,b.gI s_⟩
 . skip
   refine jr hst0 8 ?_
   refine gF (v:=Zk) Tryz.results110 rfl ?_
   obtain rfl:=Dx e hv
   exact⟨qt.Es, hst0.gI s_⟩
theorem UA(tb ab:Nat)(t:TW)(w:World)(hO:Own (TW.R tb ab t) w) :
 CR ya 107 (Zg tb) w (fun r w' => ∃ (tb2 ab2:Nat) (t2:TW),r = .pointer (some ⟨tb2,0,none⟩)/\((∀ x,t2.mem x↔t.mem x)/\t2.A.n=t.A.n/\t2.A.used=t.A.used)/\gp (TW.R tb ab t) w w' (gG [(TW.R tb ab t),(TW.R tb2 ab2 t2)])):=by
 have hnl:t.cs.length=t.n:=rfl
 have htop:=hO.fact.top
 have hil:t.ids.length=t.w.A.begun:=hO.fact.vw
 have hbeg:t.w.A.begun<=t.w.A.n:=hO.fact.oG
 have han:t.w.A.n<=65536:=hO.fact.an
 refine en Tryz.func107 Tryz.ntmps107 ?_
 have hst0:=Own.of hO.un
 have hT:t.ok:=hO.fact
 have f:=yc [_,_,_] _ hst0
 refine gh hst0 9 ?_
 refine cl uL (um tb ab t w (yd f (i:=0) rfl) hT) ?_
 rintro _ D ⟨rfl,ht⟩
 have g:=(yq f ht)
 refine gX g 7 ?_
 refine oE (Γ:=Nat×AW×Value×Value×Nat) mixed [[],[0],[0,1],[0,1,2],[0,1,2,3],[],[5],[5,6],[5,6,7],[0,1,2,3,4,5,6,7,8],[],[10],[10,11],[10,11,12],[0,1,2,3,4,5,6,7,8,9,10,11,12,13],[0,1,2,3,4,5,6,7,8,9,10,11,12,13,14],[0,1,2,3,4,5,6,7,8,9,10,11,12,13,14,15],[0,1,2,3,4,5,6,7,8,9,10,11,12,13,14,15,16]] [4,9,14,16] d_ [fun _=>(Zb tb),fun _=>(Zb tb),fun _=>(zF tb),fun _=>(Zb ab),fun(c,d,a,b,e)=>(Zb c),fun _=>(Zb tb),fun _=>(Zb tb),fun _=>(rJ tb),fun _=>t.iv,fun(c,d,a,b,e)=>a,fun _=>(Zb tb),fun _=>(Zb tb),fun _=>(zI tb),fun _=>t.cv,fun(c,d,a,b,e)=>b,fun(c,d,a,b,e)=>(JK c a b),fun(c,d,a,b,e)=>(Zb e),fun(c,d,a,b,e)=>(Zb e)] [(fun(c,d,a,b,e)=>[blk tb 173 (Z7 tb ab t),fV gW t.iv 34 1 t.ids,fV gL t.cv 3 1 t.cs,(AW.R ab t.w)],fun _ _=>True),(fun(c,d,a,b,e)=>[blk tb 173 (Z7 tb ab t),fV gW t.iv 34 1 t.ids,fV gL t.cv 3 1 t.cs,jZ (∃ qs,d.A={ t.w.A with ps:=qs }) (Cp ab t.w c d)],fun _ _=>True),(fun(c,d,a,b,e)=>[fV gW a 34 1 t.ids,blk tb 173 (Z7 tb ab t),fV gW t.iv 34 1 t.ids,fV gL t.cv 3 1 t.cs,jZ (∃ qs,d.A={ t.w.A with ps:=qs }) (Cp ab t.w c d)],fun _ _=>True),(fun(c,d,a,b,e)=>[fV gL b 3 1 t.cs,fV gW a 34 1 t.ids,blk tb 173 (Z7 tb ab t),fV gW t.iv 34 1 t.ids,fV gL t.cv 3 1 t.cs,jZ (∃ qs,d.A={ t.w.A with ps:=qs }) (Cp ab t.w c d)],fun _ _=>True),(fun(c,d,a,b,e)=>[blk e 173 [Z1,(Zb c),a,b],fV gL b 3 1 t.cs,fV gW a 34 1 t.ids,blk tb 173 (Z7 tb ab t),fV gW t.iv 34 1 t.ids,fV gL t.cv 3 1 t.cs,jZ (∃ qs,d.A={ t.w.A with ps:=qs }) (Cp ab t.w c d)],fun _ _=>True)] (ab,t.w,Zk,Zk,0) (fun(c,d,a,b,e)=>(3,(Zb e)) :: (23,(Zb e)) :: (22,(JK c a b)) :: (21,b) :: (20,t.cv) :: (19,(zI tb)) :: (18,(Zb tb)) :: (17,(Zb tb)) :: (16,a) :: (15,t.iv) :: (14,(rJ tb)) :: (13,(Zb tb)) :: (12,(Zb tb)) :: (11,(Zb c)) :: (10,(Zb ab)) :: (9,(zF tb)) :: (8,(Zb tb)) :: (7,(Zb tb)) :: _) rfl g (fun _ _=>trivial) ?_ (fun(c,d,a,b,e)=>rfl) rfl ?_
 . skip
   refine gC (fun(c,d,a,b,e) _=>iD (v:=(Zb tb)) rfl) ?_
   refine gC (fun(c,d,a,b,e) _=>jY rfl) ?_
   refine gC (fun(c,d,a,b,e) _=>jL (o' := 1) rfl wX rfl BG rfl) ?_
   refine lU rfl rfl rfl rfl (fun(c,d,a,b,e) wq hM hF=>qv rfl rfl (gZ rfl EF rfl (yo hM (i:=0) rfl rfl))) (kg rfl rfl rfl rfl (fun(c,d,a,b,e) wq hM hF=>kC rfl rfl (iX rfl NM) (LY ab t.w wq (yd hM (i:=3) rfl)) (fun _ _ hz=>by obtain⟨k,l,rfl,hF1,ht1⟩:=hz;exact⟨(k,l,a,b,e),⟨(yt 3 hM (ht1.oQ hF1)),trivial⟩,rfl,fS rfl (fS rfl (fS rfl (fS rfl (fS trivial (fS rfl (fS rfl (fS rfl (fS rfl (fS trivial (fS rfl (fS rfl (fS rfl (fS rfl (fS trivial (fS trivial (fS trivial (fS trivial (kM))))))))))))))))))⟩)) (gC (fun(c,d,a,b,e) _=>iD (v:=(Zb tb)) rfl) ?_))
   refine gC (fun(c,d,a,b,e) _=>jY rfl) ?_
   refine gC (fun(c,d,a,b,e) _=>jL (o' := 2) rfl wX rfl yX rfl) ?_
   refine nZ rfl rfl rfl rfl rfl (fun(c,d,a,b,e) wq hM hF=>qv rfl rfl (gZ rfl yp rfl (yo hM (i:=0) rfl rfl))) (fun(c,d,a,b,e) wq hM hF=>qv rfl rfl (gZ rfl yp rfl (yo hM (i:=0) rfl rfl))) (kg rfl rfl rfl rfl (fun(c,d,a,b,e) wq hM hF=>kC rfl rfl (iX rfl Yl) (Un t.iv t.ids wq (ye hM (i:=1) rfl f_).any (by first|omega|(simp;omega))) (fun m _ hz=>⟨(c,d,m,b,e),⟨(zD hM hz.2 hz.1),trivial⟩,rfl,fS rfl (fS rfl (fS rfl (fS rfl (fS rfl (fS rfl (fS rfl (fS rfl (fS rfl (fS trivial (fS rfl (fS rfl (fS rfl (fS rfl (fS trivial (fS trivial (fS trivial (fS trivial (kM))))))))))))))))))⟩)) (gC (fun(c,d,a,b,e) _=>iD (v:=(Zb tb)) rfl) ?_))
   refine gC (fun(c,d,a,b,e) _=>jY rfl) ?_
   refine gC (fun(c,d,a,b,e) _=>jL (o' := 3) rfl wX rfl nH rfl) ?_
   refine Bl rfl rfl rfl rfl rfl rfl (fun(c,d,a,b,e) wq hM hF=>qv rfl rfl (gZ rfl yh rfl (yo hM (i:=0) rfl rfl))) (fun(c,d,a,b,e) wq hM hF=>qv rfl rfl (gZ rfl yh rfl (yo hM (i:=0) rfl rfl))) (fun(c,d,a,b,e) wq hM hF=>qv rfl rfl (gZ rfl yh rfl (yo hM (i:=1) rfl rfl))) (kg rfl rfl rfl rfl (fun(c,d,a,b,e) wq hM hF=>kC rfl rfl (iX rfl Od) (LK t.cv t.cs wq (ye hM (i:=3) rfl f_).any (by first|omega|(simp;omega))) (fun o _ hz=>⟨(c,d,a,o,e),⟨(zD hM hz.2 hz.1),trivial⟩,rfl,fS rfl (fS rfl (fS rfl (fS rfl (fS rfl (fS rfl (fS rfl (fS rfl (fS rfl (fS rfl (fS rfl (fS rfl (fS rfl (fS rfl (fS trivial (fS trivial (fS trivial (fS trivial (kM))))))))))))))))))⟩)) (lU rfl rfl rfl rfl (fun(c,d,a,b,e) wq hM hF=>qv rfl rfl (uI (pvs:=[(1,(Zb c)),(2,a),(3,b)]) (v:=.agg #[Z1,(Zb c),a,b]) rfl (kV [(1,(Zi c)),(2,[a]),(3,[b])] D7 O8 rfl ⟨rfl,rfl,rfl,(cells_one (mg hM (i:=1) rfl)),rfl,(cells_one (mg hM (i:=0) rfl)),trivial⟩ rfl))) (kg rfl rfl rfl rfl (fun(c,d,a,b,e) wq hM hF=>Er (v:=(JK c a b)) (cs:=[Z1,(Zb c),a,b]) rfl rfl rfl hM (fun q _ h=>⟨(c,d,a,b,q),⟨h,trivial⟩,rfl,fS rfl (fS rfl (fS rfl (fS rfl (fS rfl (fS rfl (fS rfl (fS rfl (fS rfl (fS rfl (fS rfl (fS rfl (fS rfl (fS rfl (fS rfl (fS rfl (fS trivial (fS trivial (kM))))))))))))))))))⟩)) (gC (fun(c,d,a,b,e) _=>tB (v:=(Zb e)) rfl) ?_))))
   exact og
 rintro⟨c,d,a,b,e⟩ E s -
 have j:=ym [6,0,1,2,3,4,5] s
 have u:=nL j
 have y:=jV j
 have z:=j8 y
 refine J6 tt none z 17 fun G B=>?_
 refine gF (v:=(Zb e)) Tryz.results107 rfl ?_
 have C:=ym [5,6,7,0,2,4,3,1] B
 obtain⟨qs9,hq9⟩:=u
 have hpo:=hT.copy hq9 a b
 have hs9:=yx (p:=t.ok) (yc [_,_,_,_] _ C) hT
 have hs10:=yx (p:=(⟨a,b,d,t.ids,t.cs⟩:TW).ok) (yc [_,_,_,_] _ (lP hs9 (rz (l₁:=[_]) (l₂:=[_,_,_,_]) |>.append_right _))) hpo.1
 have hs11:=lP hs10 (List.Perm.swap _ _ _)
 exact⟨e,c,⟨a,b,d,t.ids,t.cs⟩,rfl,⟨hpo.2,by rw[show TW.A ⟨a,b,d,t.ids,t.cs⟩=_ from hq9],by rw[show TW.A ⟨a,b,d,t.ids,t.cs⟩=_ from hq9]⟩,yr (yc [_,_] _ hs11)⟩
theorem Xu(m:Nat)(w:World)(hm:m<=65536) :
 CR ya 92 (rO ((m:Nat):Int)) w (fun r w' => ∃ (tb ab:Nat) (t:TW),r = .tuple (Z8 tb)/\((∀ x,¬ t.mem x)/\t.A.n=m/\t.A.used=0)/\gp (gG []) w w' (TW.R tb ab t)):=by
 refine en Tryz.func92 Tryz.ntmps92 ?_
 have hst0:=jB w
 refine gh hst0 9 ?_
 refine cl Pp (NG m w hm) ?_
 rintro _ z ⟨b,d,rfl,g,ht⟩
 have h:=(ou hst0 ht)
 refine gX h 24 ?_
 refine lp (α:=Nat) (fun k=>[(0,(Za ((m:Nat):Int))),(2,Z1),(3,Zc),(4,(Zb b)),(5,Zc),(6,(Za ((k:Nat):Int)))]) (fun k w1=>St [(w,[])] [(AW.R b d)] w1/\P2 k/\2<=k/\(k=2\/k<4*m)) (fun k=>4*m-k) 2 ⟨rfl,rfl,rfl,rfl,rfl,gJ (by first|rfl|omega),trivial⟩ (⟨h,P2.two,o_,.inl rfl⟩) ?_
 rintro k B C ⟨hst3,hp2,hk2,hk3⟩
 have hk5:k<=262144:=by omega
 refine gh hst3 6 ?_
 by_cases D:(((k:Nat):Int):Int)<(2*((m:Nat):Int):Int)
 . refine fP hst3 9 ?_
   refine ar (e:=((k*2:Nat):Int)) rfl rfl rfl rfl (by rw[iV o_];omega) (gf hst3 3 ?_)
   refine tN (?_)
   exact again (k*2) ⟨rfl,rfl,rfl,rfl,rfl,gJ (by first|rfl|omega),trivial⟩ (⟨hst3,hp2.dbl o_,o_,o_⟩) o_
 . refine fP hst3 13 ?_
   refine BA (cf:=gL) (z0:=0) (m:=k) (c:=k) rfl rfl rfl yh gq rfl f_ d_ (zn _) o_ o_ hst3 (fun a E G H j=>lX (pvs:=[(1,(Zb b)),(3,(Zs a k))]) (v:=.agg (QW b a k)) rfl rfl (kV [(1,(Zi b)),(3,(Fa a k))] D7 O8 rfl ⟨rfl,rfl,rfl,rfl,trivial⟩ rfl) (bx (v:=(.agg (QW b a k))) (cs:=[Z1,(Zb b),Zk,(Zs a k)]) rfl rfl rfl j (fun f I J K l=>lW l 20 fun o q=>?_)))
   refine jm (v:=(Zb f)) (v' := Zc) Tryz.results92 rfl rfl ?_
   have s:=St.Bi (cf:=gL) q (i:=1) rfl f_ (zn _) (by simp only[maxLen];omega)
   have u:St _ [fV gW Zk 34 1 ([]),blk f 173 [(Zb f),(Zb b),Zk,(Zs a k)],fV gL (Zs a k) 3 1 (List.replicate k 0),(AW.R b d)] o:=u6 s 34 1
   have y:=ym [1,0,2,3] u
   have hpo:=TW.uD g hm hp2 hk2 o_ o_ Zk (Zs a k)
   exact⟨f,b,⟨.slice none 0 0,(Zs a k),d,[],List.replicate k 0⟩,rfl,⟨hpo.2,by rw[show TW.A ⟨.slice none 0 0,(Zs a k),d,[],List.replicate k 0⟩=_ from g];rfl,by rw[show TW.A ⟨.slice none 0 0,(Zs a k),d,[],List.replicate k 0⟩=_ from g];rfl⟩,St.AX (yx (p:=(⟨.slice none 0 0,(Zs a k),d,[],List.replicate k 0⟩:TW).ok) (yc [_,_,_,_] _ y) hpo.1) s_⟩
end
section
open Go Go.Sx
theorem Ol(x y:Int)(w:World) :
 CR ya 121 (Ar x y) w (fun r w' => r = .bool (decide (x<y))/\gD [] w w'):=by
 refine en Tryz.func121 Tryz.ntmps121 ?_
 have hst0:=jB w
 refine gh hst0 8 ?_
 refine cl aay (S4 x w) ?_
 rintro _ c ⟨rfl,b⟩
 have a:=y8 hst0 b
 refine fP a 8 ?_
 by_cases d:(x:Int)<(y:Int)
 . refine gf a 6 ?_
   refine gF (v:=Zl) Tryz.results121 rfl ?_
   exact⟨congrArg Value.bool (decide_eq_true o_).symm,a.gI s_⟩
 . refine gf a 6 ?_
   refine gF (v:=Zq) Tryz.results121 rfl ?_
   exact⟨congrArg Value.bool (decide_eq_false o_).symm,a.gI s_⟩
theorem VT(v:Value)(xs:List Int)(w:World)(hO:Own (qG v xs) w)(hl:xs.length<=1000000) :
 CR ya 169 #[v,Zc,(Za xs.length)] w (fun r w' => ∃ ys:List Int,r = .tuple #[]/\(ys.Perm xs/\pQ ys ys.length)/\gp (qG v xs) w w' (qG v ys)):=by
 refine en Tryz.func169 Tryz.ntmps169 ?_
 have hst0:=yy hO
 refine p8 hst0 8 ?_
 refine lp (α:=Nat×List Int) (fun(i,ys)=>[(0,v),(1,Zc),(2,(Za xs.length)),(6,(Za i))]) (fun(i,ys) w1=>St [(w,(qG v xs).gU)] (tY v ys) w1/\ys.Perm xs/\pQ ys i/\1<=i) (fun(i,ys)=>xs.length+1-i) (1,xs) ⟨rfl,rfl,rfl,gJ (by first|rfl|omega),trivial⟩ (⟨hst0,List.Perm.refl _,pQ.zero,o_⟩) ?_
 rintro⟨i,ys⟩ e g ⟨hst3,hP,hU,hi⟩
 have hl1:=hP.length_eq
 refine gh hst3 5 ?_
 by_cases l:((i:Int):Int)<((xs.length:Int):Int)
 . refine gX hst3 15 ?_
   refine lp (α:=Nat×List Int) (fun(j,zs)=>[(0,v),(1,Zc),(2,(Za xs.length)),(6,(Za i)),(7,(Za j))]) (fun(j,zs) w1=>St [(w,(qG v xs).gU)] (tY v zs) w1/\zs.Perm xs/\tf zs i j/\j<=i) (fun(j,zs)=>j) (i,ys) ⟨rfl,rfl,rfl,rfl,gJ (by first|rfl|omega),trivial⟩ (⟨hst3,hP,hU.at,o_⟩) ?_
   rintro⟨j,zs⟩ m n ⟨hst4,hP2,hI,hj⟩
   have hl2:=hP2.length_eq
   refine p8 hst4 2 ?_
   by_cases o:((j:Int):Int)>(0:Int)
   . skip
     refine kS hst4 (fun s a=>?_) (hA:=by refine' gN 7 ?k0;case k0=>refine' gw (fun wq hM=>rv (mA (cf:=gW) (u:=(Zd (fM zs j))) rfl yg rfl (ye hM (i:=0) rfl f_) (gy om) rfl)) ?k1;case k1=>refine' gN 3 ?k2;case k2=>refine' gw (fun wq hM=>rv (jU (v:=v) (cf:=gW) (k:=(j-1)) (i:=(j:Int)-1) rfl rfl yp iK (ye hst4 (i:=0) rfl f_) o_ o_ (gy om))) ?k3;case k3=>refine' gw (fun wq hM=>rv (mA (cf:=gW) (u:=(Zd (fM zs (j-1)))) rfl yg rfl (ye hM (i:=0) rfl f_) (gy om) rfl)) ?k4;case k4=>refine' gw (fun wq hM=>rc (iX rfl N0) (CR.mono (Ol (fM zs j) (fM zs (j-1)) wq) fun _ _ h=>⟨h.1,hM.grow h.2⟩)) ?k5;case k5=>exact iT)
     refine kT tt none a 1 ?_
     cases b:(decide ((fM zs j)<(fM zs (j-1))):Bool)
     . skip
       refine jr a 12 ?_
       refine tN (?_)
       exact again ((i+1),zs) ⟨rfl,rfl,rfl,gJ (by first|rfl|omega),trivial⟩ (⟨a,hP2,hI.done o_ hj (of_decide_eq_false b),o_⟩) (by show (xs.length+1-(i+1):Nat)<xs.length+1-i;omega)
     . skip
       refine p8 a 5 ?_
       refine oE (Γ:=Unit) mixed [[],[],[],[],[3],[],[],[6],[5,6,7],[5,6,7,8],[],[],[10,11],[10,11,12],[0,1,5,6,7,8,9,10,11,12,13],[0,1,5,6,7,8,9,10,11,12,13,14],[0,1,2,3,4,5,6,7,8,9,10,11,12,13,14,15],[0,1,2,3,4,5,6,7,8,9,10,11,12,13,14,15,16]] [15,17] d_ [fun _=>v,fun _=>(Za j),fun _=>v,fun _=>(Za j),fun _=>(Za ((j:Int)-1)),fun _=>v,fun _=>(Za j),fun _=>(Za ((j:Int)-1)),fun _=>(j7 1 v (j-1) 0),fun _=>(Zd (fM zs (j-1))),fun _=>v,fun _=>(Za j),fun _=>(j7 1 v j 0),fun _=>(Zd (fM zs j)),fun _=>(j7 1 v j 0),fun _=>undef,fun _=>(j7 1 v (j-1) 0),fun _=>undef] [(fun _=>(tY v zs),fun _ _=>True),(fun _=>(tY v (fR zs j (fun _=>(fM zs (j-1))))),fun _ _=>True),(fun _=>(tY v (fR (fR zs j (fun _=>(fM zs (j-1)))) (j-1) (fun _=>(fM zs j)))),fun _ _=>True)] () _ rfl a (fun _ _=>trivial) ?_ f_ rfl ?_
       . skip
         refine gC (fun _ _=>iD (v:=v) rfl) ?_
         refine gC (fun _ _=>iD (v:=(Za j)) rfl) ?_
         refine gC (fun _ _=>iD (v:=v) rfl) ?_
         refine gC (fun _ _=>iD (v:=(Za j)) rfl) ?_
         refine gC (fun _ _=>kG rfl rfl rfl (iV o_)) ?_
         refine gC (fun _ _=>iD (v:=v) rfl) ?_
         refine gC (fun _ _=>iD (v:=(Za j)) rfl) ?_
         refine gC (fun _ _=>kG rfl rfl rfl (iV o_)) ?_
         refine gC (fun _ _=>jU (cf:=gW) (k:=(j-1)) (i:=(j:Int)-1) rfl rfl yp iK (ye a (i:=0) rfl f_) o_ o_ (gy om)) ?_
         refine lU rfl rfl rfl rfl (fun _ wq hM hF=>qv rfl rfl (mA (cf:=gW) (u:=(Zd (fM zs (j-1)))) rfl yg rfl (ye hM (i:=0) rfl f_) (gy om) rfl)) (gC (fun _ _=>iD (v:=v) rfl) ?_)
         refine gC (fun _ _=>iD (v:=(Za j)) rfl) ?_
         refine gC (fun _ _=>jU (cf:=gW) (k:=j) (i:=(j:Int)) rfl rfl yp iK (ye a (i:=0) rfl f_) o_ o_ (gy om)) ?_
         refine lU rfl rfl rfl rfl (fun _ wq hM hF=>qv rfl rfl (mA (cf:=gW) (u:=(Zd (fM zs j))) rfl yg rfl (ye hM (i:=0) rfl f_) (gy om) rfl)) (gC (fun _ _=>jU (cf:=gW) (k:=j) (i:=(j:Int)) rfl rfl yp iK (ye a (i:=0) rfl f_) o_ o_ (gy om)) ?_)
         refine kg rfl rfl rfl rfl (fun _ wq hM hF=>v8 (f:=(fun _=>(fM zs (j-1)))) (L' := (tY v (fR zs j (fun _=>(fM zs (j-1)))))) 0 rfl rfl rfl rfl iK rfl rfl hM rfl f_ om rfl rfl rfl (fun _ h=>⟨(),⟨h,trivial⟩,rfl,jR.refl _ _ _⟩)) (gC (fun _ _=>jU (cf:=gW) (k:=(j-1)) (i:=(j:Int)-1) rfl rfl yp iK (ye a (i:=0) rfl f_) o_ o_ (gy om)) ?_)
         refine kg rfl rfl rfl rfl (fun _ wq hM hF=>v8 (f:=(fun _=>(fM zs j))) (L' := (tY v (fR (fR zs j (fun _=>(fM zs (j-1)))) (j-1) (fun _=>(fM zs j))))) 0 rfl rfl rfl rfl iK rfl rfl hM rfl f_ om rfl rfl rfl (fun _ h=>⟨(),⟨h,trivial⟩,rfl,jR.refl _ _ _⟩)) ?_
         exact og
       rintro-t c -
       refine jE tt none c 7 ?_
       refine tN (?_)
       exact again ((j-1),fR (fR zs j (fun _=>(fM zs (j-1)))) (j-1) (fun _=>(fM zs j))) ⟨rfl,rfl,rfl,rfl,gJ (by first|rfl|omega),trivial⟩ (⟨c,(T3 o_ o_).trans hP2,hI.swap o_ hj o_ (of_decide_eq_true b),o_⟩) (by show ((j-1):Nat)<j;omega)
   . skip
     refine kS hst4 (fun x d=>?_)
     refine jE tt none d 13 ?_
     refine tN (?_)
     exact again ((i+1),zs) ⟨rfl,rfl,rfl,gJ (by first|rfl|omega),trivial⟩ (⟨d,hP2,(by rw[show j=0 by omega]at hI;exact hI.YQ),o_⟩) (by show (xs.length+1-(i+1):Nat)<xs.length+1-i;omega)
 . refine gf hst3 8 ?_
   refine jf Tryz.results169 ?_
   exact⟨ys,rfl,⟨hP,fun p q h1 h2=>hU p q h1 o_⟩,yr hst3⟩
theorem WT(n:Nat)(w:World)(h:n<=12):CR ya 78 #[.int .u64 (n:Int)] w (fun r w' => ∃ z,r = .int .i64 z/\gD [] w w'):=by
 match n,h with
 | 0,_=>exact Go.Ex.o8 mixed (n:=1000) k_ w
 | 1,_=>exact Go.Ex.o8 mixed (n:=1000) k_ w
 | 2,_=>exact Go.Ex.o8 mixed (n:=1000) k_ w
 | 3,_=>exact Go.Ex.o8 mixed (n:=1000) k_ w
 | 4,_=>exact Go.Ex.o8 mixed (n:=1000) k_ w
 | 5,_=>exact Go.Ex.o8 mixed (n:=1000) k_ w
 | 6,_=>exact Go.Ex.o8 mixed (n:=1000) k_ w
 | 7,_=>exact Go.Ex.o8 mixed (n:=1000) k_ w
 | 8,_=>exact Go.Ex.o8 mixed (n:=1000) k_ w
 | 9,_=>exact Go.Ex.o8 mixed (n:=1000) k_ w
 | 10,_=>exact Go.Ex.o8 mixed (n:=1000) k_ w
 | 11,_=>exact Go.Ex.o8 mixed (n:=1000) k_ w
 | 12,_=>exact Go.Ex.o8 mixed (n:=1000) k_ w
 | n+13,h=>omega
theorem X7(v:Value)(xs:List Int)(w:World)(hO:Own (qG v xs) w)(z:Int)(hl:xs.length<=12) :
 CR ya 133 #[v,Zc,(Za xs.length),(Za z)] w (fun r w' => ∃ ys:List Int,r = .tuple #[]/\(ys.Perm xs/\pQ ys ys.length)/\gp (qG v xs) w w' (qG v ys)):=by
 refine en Tryz.func133 Tryz.ntmps133 ?_
 have hst0:=yy hO
 refine p8 hst0 11 ?_
 refine lp (α:=Nat) (fun k=>[(0,v),(1,Zc),(2,(Za xs.length)),(3,(Za z)),(8,Zl),(9,Zl)]) (fun k w1=>St [(w,(qG v xs).gU)] (tY v xs) w1) (fun k=>0) 0 ⟨rfl,rfl,rfl,rfl,rfl,rfl,trivial⟩ hst0 ?_
 rintro k e b hst3
 refine gh hst3 13 ?_
 refine cmp rfl rfl rfl (zC o_) (fP hst3 8 ?_)
 refine cl Yz (VT v xs b (yd hst3 (i:=0) rfl) o_) ?_
 rintro _ f ⟨c,rfl,d,ht⟩
 have a:=yt 0 hst3 ht
 refine gf a 7 ?_
 refine BL Tryz.results133 ?_
 exact⟨c,rfl,d,yr a⟩
theorem XA(v:Value)(xs:List Int)(w:World)(hO:Own (qG v xs) w)(hl:xs.length<=12) :
 CR ya 82 #[v] w (fun r w' => ∃ ys:List Int,r = .tuple #[]/\(ys.Perm xs/\pQ ys ys.length)/\gp (qG v xs) w w' (qG v ys)):=by
 refine en Tryz.func82 Tryz.ntmps82 ?_
 have hst0:=yy hO
 refine gh hst0 3 ?_
 refine kZ (m:=xs.length) 0 rfl rfl yp hst0 rfl (fP hst0 7 ?_)
 refine cv (a:=(xs.length:Int)) (e:=(xs.length:Int)) rfl rfl yf Tryz.underlying171 (uV o_) (cl aaw (WT xs.length w o_) ?_)
 rintro _ d ⟨f,rfl,g⟩
 have b:=y8 hst0 g
 refine cl XW (X7 v xs d (yd b (i:=0) rfl) f hl) ?_
 rintro _ k ⟨h,rfl,j,ht⟩
 have c:=yt 0 b ht
 refine gf c 1 ?_
 refine jf Tryz.results82 ?_
 exact⟨h,rfl,j,yr c⟩
theorem Yp(x:Int)(w:World) :
 CR ya 122 #[(Zd x)] w (fun r w' => r = .bool false/\gD [] w w'):=by
 refine en Tryz.func122 Tryz.ntmps122 ?_
 have hst0:=jB w
 refine gh hst0 9 ?_
 refine cmp rfl rfl rfl (n9 rfl) (gf hst0 4 ?_)
 refine gF (v:=Zq) Tryz.results122 rfl ?_
 exact⟨rfl,hst0.gI s_⟩
theorem Y7(v:Value)(xs:List Int)(x:Int)(w:World)(hv:jx 1 gW (fun _=>True) w v xs)(hs:xs.Pairwise fun a b=>a<b)(hl:xs.length<=1000000) :
 CR ya 74 #[v,(Zd x)] w (fun r w' => ∃ b:Bool,r = .tuple (sH (ir xs x:Int) b)/\gD [] w w'):=by
 refine en Tryz.func74 Tryz.ntmps74 ?_
 have hst0:=jB w
 refine gh hst0 9 ?_
 refine tE (v:=v) rfl rfl yp hv (gX hst0 12 ?_)
 refine lp (α:=Nat×Nat) (fun(i,j)=>[(0,v),(1,(Zd x)),(6,(Za xs.length)),(7,(Za i)),(8,(Za j))]) (fun(i,j) w1=>St [(w,[])] [] w1/\nG xs x i j/\i<=j/\j<=xs.length) (fun(i,j)=>j-i) (0,xs.length) ⟨rfl,rfl,rfl,gJ (by first|rfl|omega),gJ (by first|rfl|omega),trivial⟩ (⟨hst0,nG.start,o_,o_⟩) ?_
 rintro⟨i,j⟩ q g ⟨hst3,hB,hij,hj⟩
 refine gh hst3 5 ?_
 by_cases s:((i:Int):Int)<((j:Int):Int)
 . refine fP hst3 12 ?_
   refine cv (a:=(i:Int)+(j:Int)) (e:=(i:Int)+(j:Int)) rfl rfl yf Tryz.underlying171 (uV o_) (shr (a:=(i:Int)+(j:Int)) (b:=1) (e:=(((i+j) / 2:Nat):Int)) rfl rfl rfl d_ (VP (i+j) 1 64 d_) (cv (a:=(((i+j) / 2:Nat):Int)) (e:=(((i+j) / 2:Nat):Int)) rfl rfl Tryz.underlying171 yf (iV o_) ?_))
   obtain⟨h,d⟩:=qg (show ((i+j) / 2)<xs.length by omega)
   refine fP hst3 7 ?_
   refine jj (k:=((i+j) / 2)) (i:=(((i+j) / 2:Nat):Int)) rfl rfl rfl yp iK hv o_ o_ d (kE rfl rfl yg rfl (oC hst3 s_ d_ hv) d rfl (fP hst3 1 ?_))
   refine cl N0 (Ol h x g) ?_
   rintro _ t ⟨rfl,o⟩
   have c:=y8 hst3 o
   refine gX c 2 ?_
   cases l:(decide (h<x):Bool)
   . skip
     refine jr c 6 ?_
     refine tN (?_)
     exact again (i,((i+j) / 2)) ⟨rfl,rfl,rfl,rfl,gJ (by first|rfl|omega),trivial⟩ (⟨c,hB.down hs (by rw[od d];exact of_decide_eq_false l),o_,o_⟩) (by show (((i+j) / 2)-i:Nat)<j-i;omega)
   . skip
     refine jr c 7 ?_
     refine tN (?_)
     exact again (((i+j) / 2+1),j) ⟨rfl,rfl,rfl,gJ (by first|rfl|omega),rfl,trivial⟩ (⟨c,hB.up hs o_ (by rw[od d];exact of_decide_eq_true l),o_,o_⟩) (by show (j-((i+j) / 2+1):Nat)<j-i;omega)
 . refine fP hst3 14 ?_
   by_cases u:((i:Int):Int)<((xs.length:Int):Int)
   . obtain⟨m,f⟩:=qg (show i<xs.length by omega)
     refine fP hst3 4 ?_
     refine jj (k:=i) (i:=(i:Int)) rfl rfl rfl yp iK hv o_ o_ f (kE rfl rfl yg rfl (oC hst3 s_ d_ hv) f rfl (fP hst3 1 ?_))
     by_cases y:(m:Int)=(x:Int)
     . refine gf hst3 18 ?_
       refine jm (v:=(Za i)) (v' := Zl) Tryz.results74 rfl rfl ?_
       have hB9:i=ir xs x:=nG.ir (by rw[show j=i by omega]at hB;exact hB) o_
       exact⟨true,by rw[hB9],hst3.gI s_⟩
     . refine fP hst3 4 ?_
       refine jj (k:=i) (i:=(i:Int)) rfl rfl rfl yp iK hv o_ o_ f (kE rfl rfl yg rfl (oC hst3 s_ d_ hv) f rfl (cl Yw (Yp m g) ?_))
       rintro _ z ⟨rfl,p⟩
       have n:=y8 hst3 p
       refine gf n 11 ?_
       refine jm (v:=(Za i)) (v' := Zq) Tryz.results74 rfl rfl ?_
       have hB9:i=ir xs x:=nG.ir (by rw[show j=i by omega]at hB;exact hB) o_
       exact⟨false,by rw[hB9],n.gI s_⟩
   . refine gf hst3 25 ?_
     refine jm (v:=(Za i)) (v' := Zq) Tryz.results74 rfl rfl ?_
     have hB9:i=ir xs x:=nG.ir (by rw[show j=i by omega]at hB;exact hB) o_
     exact⟨false,by rw[hB9],hst3.gI s_⟩
end
section
open Go Go.Sx
def fW.R(fQ fN ub:Nat)(s:fW):gi:=jZ (s.ok fQ fN) (gG [blk ub 101 (Z5 fQ fN s (some s.mb)),fV Lv.cells s.lv 42 7 s.live,gR s.mb .u64 p_ s.im,iM 3 s.im,(AW.R s.iN s.aw),(TW.R s.tb s.ab s.t)])
theorem xw(fQ fN ub:Nat)(s:fW)(w:World)(hO:Own (fW.R fQ fN ub s) w) :
 CR ya 35 (Zg ub) w (fun r w' => r = .bool true/\gp (fW.R fQ fN ub s) w w' (fW.R fQ fN ub s)):=by
 refine en Tryz.func35 Tryz.ntmps35 ?_
 have hst0:=Own.of hO.un
 have hU:s.ok fQ fN:=hO.fact
 refine gh hst0 8 ?_
 refine ow (a:=some ⟨ub,0,none⟩) (c:=true) rfl rfl rfl EH rfl (fP hst0 5 ?_)
 refine Qm (a:=some s.mb) (c:=true) rfl rfl rfl yn rfl (gf hst0 5 ?_)
 refine gF (v:=Zl) Tryz.results35 rfl ?_
 exact⟨rfl,yv (yx (p:=fW.ok fQ fN s) (yc [_,_,_,_,_,_] _ hst0) hU) zg⟩
theorem Lm(fQ fN ub:Nat)(s:fW)(w:World)(hO:Own (fW.R fQ fN ub s) w)(id:Int) :
 CR ya 71 (p7 ub id) w (fun r w' => ∃ (z:Nat) (b:Bool),r = .tuple (sH z b)/\s.t.vz id z b/\gp (fW.R fQ fN ub s) w w' (fW.R fQ fN ub s)):=by
 refine en Tryz.func71 Tryz.ntmps71 ?_
 have hst0:=Own.of hO.un
 have hU:s.ok fQ fN:=hO.fact
 have c:=yx (p:=s.ok fQ fN) (yc [_,_,_,_,_,_] _ hst0) hU
 refine gh hst0 10 ?_
 refine cl yJ (xw fQ fN ub s w (yd c (i:=0) rfl)) ?_
 rintro _ g ⟨rfl,ht⟩
 have h:=yt 0 c ht
 have a:=(jV h).unpack
 refine fP a 13 ?_
 refine cl DH (Dy s.tb s.ab s.t g (yd a (i:=5) rfl) id) ?_
 rintro _ k ⟨d,e,rfl,j,ht⟩
 have f:=yt 5 a ht
 refine gf f 7 ?_
 refine jm (v:=(Za d)) (v' := (.bool e)) Tryz.results71 rfl rfl ?_
 exact⟨d,e,rfl,j,yv (yx (p:=fW.ok fQ fN s) (yc [_,_,_,_,_,_] _ f) hU) zg⟩
end
section
open Go Go.Sx
theorem Gs(fQ fN ub:Nat)(s:fW)(w:World)(hO:Own (fW.R fQ fN ub s) w)(x:Lv) :
 CR ya 65 (BU ub x) w (fun r w' => r = .int .i64 (s.gH fQ fN x.u x.v)/\gp (fW.R fQ fN ub s) w w' (fW.R fQ fN ub s)):=by
 have htu:s.t.A.used<=s.t.A.n:=hO.fact.tok.ul
 have hUn:=hO.fact.n
 have hUt:=hO.fact.tn
 have hUe:=hO.fact.en
 have hUv:=hO.fact.vn
 have hAu:s.A.used<=s.A.begun:=by have h7:=hO.fact.lH.used;omega
 have hAl:=hO.fact.lH.le
 refine en Tryz.func65 Tryz.ntmps65 ?_
 have hst0:=Own.of hO.un
 have hU:s.ok fQ fN:=hO.fact
 refine gh hst0 2 ?_
 refine bx (v:=(sU x)) (cs:=(Zo x)) rfl rfl rfl hst0 ?_
 intro X B Y Z k
 have C:=ym [1,2,3,4,5,6,0] k
 have l:=yx (p:=s.ok fQ fN) (yc [_,_,_,_,_,_] _ C) hU
 refine fP k 7 ?_
 refine cl yJ (xw fQ fN ub s B (yd l (i:=0) rfl)) ?_
 rintro _ aa ⟨rfl,ht⟩
 have D:=yt 0 l ht
 have d:=(jV D).unpack
 refine fP d 10 ?_
 refine ld rfl rfl yg rfl (yo d (i:=6) rfl rfl) (fP d 1 ?_)
 refine ld rfl rfl yg rfl (yo d (i:=6) rfl rfl) ?_
 by_cases ac:(x.u:Int)=(x.v:Int)
 . refine gf d 11 ?_
   refine gF (v:=(.int .i64 9)) sM rfl ?_
   exact⟨gJ (fW.MR o_).symm,yv (yx (p:=fW.ok fQ fN s) (yc [_,_,_,_,_,_] _ d) hU) zg⟩
 . refine gX d 8 ?_
   by_cases ad:((s.A.used:Int):Int)≥((fN:Int):Int)
   . skip
     refine jD d 4 ?_
     intro wq hM
     refine kC rfl rfl (iX rfl Eb) (DB s.iN s.aw wq (yd hM (i:=4) rfl)) ?_
     rintro _ _ ⟨rfl,ht1⟩
     refine jC (yt 4 hM ht1) (fun ae m=>?_)
     have E:=ym [4,0,1,2,3,5,6] m
     refine jE tt none E 9 ?_
     refine gF (v:=(.int .i64 12)) sM rfl ?_
     have G:=m
     exact⟨gJ (fW.Lj o_ o_).symm,yv (yx (p:=fW.ok fQ fN s) (yc [_,_,_,_,_,_] _ G) hU) zg⟩
   . skip
     refine jD d 4 ?_
     intro wq hM
     refine kC rfl rfl (iX rfl Eb) (DB s.iN s.aw wq (yd hM (i:=4) rfl)) ?_
     rintro _ _ ⟨rfl,ht1⟩
     refine jC (yt 4 hM ht1) (fun H I=>?_)
     have j:=ym [4,0,1,2,3,5,6] I
     refine oZ tt none j 10 ?_
     refine cl Yu (W3 s.tb s.ab s.t H (yd j (i:=5) rfl)) ?_
     rintro _ J ⟨rfl,ht⟩
     have e:=yt 5 j ht
     refine fP e 7 ?_
     refine ld rfl rfl yg rfl (yo e (i:=6) rfl rfl) (fP e 1 ?_)
     refine ld rfl rfl yg rfl (yo e (i:=6) rfl rfl) (lX (pvs:=[(0,(Zd x.u)),(1,(Zd x.v))]) (v:=.agg (Ar x.u x.v)) rfl rfl (Bc [(0,(Zt x.u)),(1,(Zt x.v))] BI oS iK rfl ⟨rfl,rfl,rfl,rfl,trivial⟩ rfl s_) (gX e 4 ?_))
     refine sO 3 (iL (gh e 13 ?_))
     refine mF (i:=0) rfl rfl rfl oS yg rfl iK d_ rfl (fP e 10 ?_)
     refine cl DH (Dy s.tb s.ab s.t J (yd e (i:=5) rfl) x.u) ?_
     rintro _ o ⟨af,K,rfl,f,ht⟩
     have c:=yt 5 e ht
     refine gX c 13 ?_
     cases q:(K:Bool)
     . skip
       subst q
       refine jr c 12 ?_
       refine tN (?_)
       refine iL (gh c 13 ?_)
       refine mF (i:=1) rfl rfl rfl oS yg rfl iK d_ rfl (fP c 10 ?_)
       refine cl DH (Dy s.tb s.ab s.t o (yd c (i:=5) rfl) x.v) ?_
       rintro _ ag ⟨ah,L,rfl,g,ht⟩
       have a:=yt 5 c ht
       refine gX a 13 ?_
       cases y:(L:Bool)
       . skip
         subst y
         refine jr a 12 ?_
         refine tN (?_)
         refine iL (gh a 20 ?_)
         by_cases ai:(((s.t.A.used:Int)+1)+1:Int)>((fQ:Int):Int)
         . refine gf a 11 ?_
           refine gF (v:=(.int .i64 11)) sM rfl ?_
           have M:=ym [1,2,3,4,0,5,6] a
           have c0:=f.cnt
           simp at c0
           have c1:=g.cnt
           simp at c1
           exact⟨gJ (fW.AN o_ o_ o_).symm,yv (yx (p:=fW.ok fQ fN s) (yc [_,_,_,_,_,_] _ M) hU) zg⟩
         . refine gf a 12 ?_
           refine gF (v:=Zc) sM rfl ?_
           have N:=ym [1,2,3,4,0,5,6] a
           have c0:=f.cnt
           simp at c0
           have c1:=g.cnt
           simp at c1
           exact⟨gJ (fW.Ba o_ o_ o_).symm,yv (yx (p:=fW.ok fQ fN s) (yc [_,_,_,_,_,_] _ N) hU) zg⟩
       . skip
         subst y
         refine jr a 8 ?_
         refine tN (?_)
         refine iL (gh a 20 ?_)
         by_cases aj:((s.t.A.used:Int)+1:Int)>((fQ:Int):Int)
         . refine gf a 11 ?_
           refine gF (v:=(.int .i64 11)) sM rfl ?_
           have O:=ym [1,2,3,4,0,5,6] a
           have c0:=f.cnt
           simp at c0
           have c1:=g.cnt
           simp at c1
           exact⟨gJ (fW.AN o_ o_ o_).symm,yv (yx (p:=fW.ok fQ fN s) (yc [_,_,_,_,_,_] _ O) hU) zg⟩
         . refine gf a 12 ?_
           refine gF (v:=Zc) sM rfl ?_
           have P:=ym [1,2,3,4,0,5,6] a
           have c0:=f.cnt
           simp at c0
           have c1:=g.cnt
           simp at c1
           exact⟨gJ (fW.Ba o_ o_ o_).symm,yv (yx (p:=fW.ok fQ fN s) (yc [_,_,_,_,_,_] _ P) hU) zg⟩
     . skip
       subst q
       refine jr c 8 ?_
       refine tN (?_)
       refine iL (gh c 13 ?_)
       refine mF (i:=1) rfl rfl rfl oS yg rfl iK d_ rfl (fP c 10 ?_)
       refine cl DH (Dy s.tb s.ab s.t o (yd c (i:=5) rfl) x.v) ?_
       rintro _ ak ⟨al,Q,rfl,h,ht⟩
       have b:=yt 5 c ht
       refine gX b 13 ?_
       cases z:(Q:Bool)
       . skip
         subst z
         refine jr b 12 ?_
         refine tN (?_)
         refine iL (gh b 20 ?_)
         by_cases am:((s.t.A.used:Int)+1:Int)>((fQ:Int):Int)
         . refine gf b 11 ?_
           refine gF (v:=(.int .i64 11)) sM rfl ?_
           have S:=ym [1,2,3,4,0,5,6] b
           have c0:=f.cnt
           simp at c0
           have c1:=h.cnt
           simp at c1
           exact⟨gJ (fW.AN o_ o_ o_).symm,yv (yx (p:=fW.ok fQ fN s) (yc [_,_,_,_,_,_] _ S) hU) zg⟩
         . refine gf b 12 ?_
           refine gF (v:=Zc) sM rfl ?_
           have U:=ym [1,2,3,4,0,5,6] b
           have c0:=f.cnt
           simp at c0
           have c1:=h.cnt
           simp at c1
           exact⟨gJ (fW.Ba o_ o_ o_).symm,yv (yx (p:=fW.ok fQ fN s) (yc [_,_,_,_,_,_] _ U) hU) zg⟩
       . skip
         subst z
         refine jr b 8 ?_
         refine tN (?_)
         refine iL (gh b 20 ?_)
         by_cases an:((s.t.A.used:Int):Int)>((fQ:Int):Int)
         . refine gf b 11 ?_
           refine gF (v:=(.int .i64 11)) sM rfl ?_
           have V:=ym [1,2,3,4,0,5,6] b
           have c0:=f.cnt
           simp at c0
           have c1:=h.cnt
           simp at c1
           exact⟨gJ (fW.AN o_ o_ o_).symm,yv (yx (p:=fW.ok fQ fN s) (yc [_,_,_,_,_,_] _ V) hU) zg⟩
         . refine gf b 12 ?_
           refine gF (v:=Zc) sM rfl ?_
           have W:=ym [1,2,3,4,0,5,6] b
           have c0:=f.cnt
           simp at c0
           have c1:=h.cnt
           simp at c1
           exact⟨gJ (fW.Ba o_ o_ o_).symm,yv (yx (p:=fW.ok fQ fN s) (yc [_,_,_,_,_,_] _ W) hU) zg⟩
end
end Go.Proofs.YtjhkmopeagfnlaaGreatDoor
