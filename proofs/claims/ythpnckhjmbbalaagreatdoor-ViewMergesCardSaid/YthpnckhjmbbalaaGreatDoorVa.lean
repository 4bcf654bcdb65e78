/- What the functions that the statements reach do: walks through the code of the program and of the references, one theorem a function; under what is said of its arguments. -/
import Derived.Test.YthpnckhjmbbalaaGreatDoorFa
import Derived.Test.YthpnckhjmbbalaaGreatDoorFb
import Derived.Test.YthpnckhjmbbalaaGreatDoorFc
import Derived.Test.YthpnckhjmbbalaaGreatDoorFd
import Derived.Test.YthpnckhjmbbalaaGreatDoorProg
import Derived.KernelRfl
set_option linter.unusedVariables false
set_option linter.unusedSimpArgs false
set_option maxRecDepth 100000
set_option maxHeartbeats 4000000
namespace Go.Proofs.YthpnckhjmbbalaaGreatDoor
section
open Go Go.Sx
noncomputable abbrev ya:=@Tryz.prog
abbrev yc:=@St.pack
abbrev yd:=@Tryz.underlying65
abbrev ye:=@St.oR
abbrev yf:=@Tryz.underlying3
abbrev yg:=@St.re
abbrev yh:=@Tryz.underlying193
abbrev yi:=@Tryz.underlying27
abbrev yj:=@St.EI
abbrev yk:=@St.tn
abbrev ym:=@St.tu
abbrev yn:=@Tryz.underlying190
abbrev yo:=@St.eT
abbrev yp:=@St.rz
abbrev yq:=@St.grow
abbrev yr:=@St.Jl
abbrev yt:=@St.init
abbrev yu:=@St.adZ
abbrev yv:=@Tryz.underlying141
abbrev yw:=@St.C9
abbrev yx:=@St.reR
abbrev yy:=@St.YA
abbrev yz:=@St.unpack
abbrev y0:=@Tryz.underlying40
abbrev y8:=@Tryz.underlying46
abbrev y9:=@Tryz.underlying253
abbrev nr:=@Tryz.underlying4
abbrev iO:=@St.rr
abbrev oB:=@Tryz.underlying64
abbrev pn:=@Tryz.underlying218
abbrev kC:=@St.KH
abbrev pZ:=@Tryz.underlying179
abbrev lZ:=@St.Ig
abbrev ki:=@St.made
abbrev rC:=@Tryz.underlying245
abbrev sD:=@Tryz.underlying130
abbrev sF:=@Tryz.underlying140
abbrev mR:=@St.Ky
abbrev qy:=@Tryz.results181
abbrev l7:=@St.ad4
abbrev jP:=@St.un
abbrev mu:=@St.Vl
abbrev kV:=@St.RA
abbrev uf:=@Tryz.underlying39
abbrev vm:=@Tryz.underlying252
abbrev l8:=@St.Lz
abbrev mS:=@St.perm
abbrev xg:=@Tryz.underlying107
abbrev xh:=@Tryz.underlying161
abbrev vo:=@Tryz.underlying2
abbrev ug:=@Tryz.results75
abbrev vp:=@Tryz.results138
abbrev vk:=@Tryz.results177
abbrev k8:=@St.bc
abbrev zH:=@Tryz.underlying117
abbrev zI:=@Tryz.underlying118
abbrev zJ:=@Tryz.underlying145
abbrev zK:=@Tryz.underlying269
abbrev rA:=@St.En
abbrev Bn:=@Tryz.underlying201
abbrev Bo:=@Tryz.underlying251
abbrev xe:=@St.UN
abbrev vq:=@St.Oc
abbrev vr:=@St.yU
abbrev Bp:=@Tryz.results112
abbrev Dx:=@Tryz.underlying121
abbrev Dy:=@Tryz.underlying255
abbrev Dz:=@Tryz.underlying23
abbrev DA:=@Tryz.underlying45
abbrev DB:=@Tryz.underlying61
abbrev sG:=@St.fact
abbrev Bq:=@Tryz.results82
abbrev xl:=@St.ad0
abbrev DC:=@Tryz.results176
abbrev GM:=@Tryz.underlying100
abbrev GN:=@Tryz.underlying129
abbrev GO:=@Tryz.underlying235
abbrev GP:=@Tryz.underlying242
abbrev GQ:=@Tryz.underlying271
abbrev zL:=@St.YE
abbrev GR:=@Tryz.underlying35
abbrev GS:=@Tryz.underlying51
abbrev GU:=@Tryz.underlying71
abbrev GV:=@Tryz.underlying79
abbrev GX:=@Tryz.underlying90
abbrev zM:=@St.YD
abbrev Br:=@St.Vx
abbrev DD:=@St.WD
abbrev GF:=@Tryz.results174
abbrev GG:=@Tryz.results178
abbrev GH:=@Tryz.results193
abbrev GJ:=@Tryz.results202
abbrev GK:=@Tryz.results40
abbrev GL:=@Tryz.results42
theorem k_{p:Prop}(h:p:=by kernel_rfl):p:=h
theorem f_{p:Prop}(h:p:=by exact fun _=>rfl):p:=h
abbrev p_:Value×List Nat->Value:=Prod.fst
end
section
open Go Go.Sx
abbrev Zf:=(.bool true:Value)
abbrev Zn:=(.bool false:Value)
abbrev Zc:=(.int .i64 0:Value)
abbrev qH:=(.int .i64 1:Value)
abbrev rN:=(.int .i64 4:Value)
abbrev BQ:=(.int .i64 6:Value)
abbrev Ac:=(.int .i64 9:Value)
abbrev sP:=(.int .u64 0:Value)
abbrev vQ:=(.int .u64 1:Value)
abbrev Ae:=(.int .u64 2:Value)
abbrev vR:=(.int .u64 3:Value)
abbrev xN:=(.int .i64 10:Value)
abbrev Hs:=(.int .i64 13:Value)
abbrev BZ:=([.int .u64 0]:List Value)
abbrev Za(a:Int):=(.int .i64 a:Value)
abbrev Zo(a:Int):=(.int .u64 a:Value)
abbrev Zs:=(.pointer none:Value)
abbrev Zw:=(.int .i64 (-1):Value)
abbrev Ze(a:Int):=([.int .i64 a]:List Value)
abbrev Zt(a:Int):=([.int .u64 a]:List Value)
abbrev Zg:=(.slice none 0 0:Value)
abbrev Z8(a:Int):=(#[.int .i64 a]:Array Value)
abbrev xJ(a:Int):=(#[.int .u64 a]:Array Value)
abbrev qm:=([.slice none 0 0]:List Value)
abbrev pM a b:=(fM fW a 3 1 b:fS)
abbrev rM a b:=(fM iw a 27 1 b:fS)
abbrev DW(a:Bool):=(#[.bool a,.int .i64 0]:Array Value)
abbrev vO:=([.int .i64 0,.int .i64 0]:List Value)
abbrev xP:=([.int .u64 0,.int .i64 0]:List Value)
abbrev D3 a:=IntKind.i64.wrap (a+1)
abbrev Hz:=(#[.int .i64 0,.bool false]:Array Value)
abbrev Z7(a:Int)(b:Bool):=(#[.int .i64 a,.bool b]:Array Value)
abbrev HC:=(#[.int .u64 0,.int .i64 0]:Array Value)
abbrev HD:=(#[.int .u64 1,.int .u64 3]:Array Value)
abbrev B0 a b:=(fM Ge.cells a 235 3 b:fS)
abbrev BU(a:Int):=(#[.bool true,.int .u64 a]:Array Value)
abbrev D6(a:Int):=(#[.int .i64 a,.bool true]:Array Value)
abbrev B1 a b:=(fM iU.cells a 190 2 b:fS)
abbrev xH(a:Int):=(#[.int .i64 a,.int .i64 0]:Array Value)
abbrev Zp(a b:Int):=([.int .i64 a,.int .i64 b]:List Value)
abbrev Eb(a b:Int):=([.int .u64 a,.int .i64 b]:List Value)
abbrev Zb(a:Nat):=(.pointer (some ⟨a,0,none⟩):Value)
abbrev Ml(a:Nat):=(.pointer (some ⟨a,3,none⟩):Value)
abbrev Zz(a b:Int):=(#[.int .i64 a,.int .i64 b]:Array Value)
abbrev Mc(a b:Int):=(#[.int .u64 a,.int .i64 b]:Array Value)
abbrev vN(a b:Int):=(#[.int .u64 a,.int .u64 b]:Array Value)
abbrev Zi(a:Nat):=([.pointer (some ⟨a,0,none⟩)]:List Value)
abbrev HQ(a:GW):=IntKind.i64.wrap (a.trees+1)
abbrev HR(a:GW):=IntKind.i64.wrap (a.trees-1)
abbrev HU:=(.agg #[.int .i64 0,.int .i64 0]:Value)
abbrev Z6(a:Nat):=(.slice (some ⟨a,0,none⟩) 1 1:Value)
abbrev xO(a:Nat):=(.slice (some ⟨a,0,none⟩) 2 2:Value)
abbrev H6(a:Nat):=(.slice (some ⟨a,0,none⟩) 3 3:Value)
abbrev Zh(a:Nat):=(#[.pointer (some ⟨a,0,none⟩)]:Array Value)
abbrev pO(a:fU) b:=fT a.im ((fJ a.live b).u)
abbrev uE(a:fU) b:=iJ a.im ((fJ a.live b).u)
abbrev Ej(a b:Nat):=(.slice (some ⟨a,0,none⟩) 0 b:Value)
abbrev B2(a b:Int):=(.agg (Zz a b):Value)
abbrev UA(a b:Int):=(.agg (Mc a b):Value)
abbrev HW(a b:Int):=(.agg (vN a b):Value)
abbrev Zd(a b:Nat):=(.slice (some ⟨a,0,none⟩) b b:Value)
abbrev HE(a:Nat) b:=(#[.pointer (some ⟨a,0,none⟩),b]:Array Value)
abbrev HM(a b:Int):=([.agg (Zz a b)]:List Value)
abbrev qi(a b:Nat):=([.slice (some ⟨a,0,none⟩) b b]:List Value)
abbrev Me(a:Int)(b:Bool):=(#[.int .i64 a,.bool b,.int .i64 0]:Array Value)
abbrev Zx(a:Int) b c d e f:=([.int .i64 a,b,c,d,e,f]:List Value)
abbrev Zu(a:Nat)(b c:Int):=(blk a 156 (Zp b c):fS)
abbrev Hy a (b:GW):=IntKind.i64.wrap ((a:Int)-b.trees)
abbrev MP(a:gG):=(.agg #[.int .i64 a.ix,.int .i64 a.key]:Value)
abbrev HB(a b c:Int):=(#[.int .i64 a,.int .i64 b,.int .i64 c]:Array Value)
abbrev Z2(a:Nat):=(#[.pointer (some ⟨a,0,none⟩),.int .i64 0]:Array Value)
abbrev uB(a:Int) b c d e f:=(.agg #[.int .i64 a,b,c,d,e,f]:Value)
abbrev xQ(a:Int)(b:Nat):=([.int .i64 a,.pointer (some ⟨b,0,none⟩)]:List Value)
abbrev tD(a:Nat)(b:Int):=([.pointer (some ⟨a,0,none⟩),.int .i64 b]:List Value)
abbrev BR:=(#[.agg #[.int .i64 0,.int .i64 0],.bool false]:Array Value)
abbrev BV(a:Int)(b:Nat):=(#[.int .i64 a,.pointer (some ⟨b,0,none⟩)]:Array Value)
abbrev Zm(a:Nat)(b:Int):=(#[.pointer (some ⟨a,0,none⟩),.int .i64 b]:Array Value)
abbrev Z4(a:Nat)(b:Int):=(#[.pointer (some ⟨a,0,none⟩),.int .u64 b]:Array Value)
abbrev D9(a:Int) b c d e f:=([.agg #[.int .i64 a,b,c,d,e,f]]:List Value)
abbrev zZ(a:WW)(b:Int):=(blk a.cb 156 (Zp b a.now):fS)
abbrev BS(a b:Int):=(#[.agg (Zz a b),.bool true]:Array Value)
abbrev D2 a b (c:List Ge):=(⟨(fJ a b),((fJ c (fJ a b)).u)⟩:jK)
abbrev tE a b (c:List Ge):=(⟨(fJ a b),((fJ c (fJ a b)).v)⟩:jK)
abbrev MM a b:=fJ (iI a b (jE a b)) (jE a b)
abbrev Ni a b:=(gY a .u64 p_ b:fS)
abbrev MQ(a:Nat):=(.func (.func 180) (Zh a) #[]:Value)
abbrev MR(a:Nat):=(.func (.func 181) (Zh a) #[]:Value)
abbrev pP(a:Nat)(b:Int) c d:=([.pointer (some ⟨a,0,none⟩),.int .i64 b,c,d]:List Value)
abbrev MS(a b:Int):=(.tuple #[.agg (Zz a b),.int .i64 0]:Value)
abbrev HN(a b c d:Int):=([.int .i64 a,.int .i64 b,.int .i64 c,.int .i64 d]:List Value)
abbrev Ah(a:Nat)(b c:Int):=([.pointer (some ⟨a,0,none⟩),.int .i64 b,.int .i64 c]:List Value)
abbrev Zr(a:Nat)(b c:Int):=(#[.pointer (some ⟨a,0,none⟩),.int .i64 b,.int .i64 c]:Array Value)
abbrev Mm(a:Nat)(b c:Int):=(#[.pointer (some ⟨a,0,none⟩),.int .u64 b,.int .i64 c]:Array Value)
abbrev Hr(a:Nat)(b c:Int):=(#[.pointer (some ⟨a,0,none⟩),.int .u64 b,.int .u64 c]:Array Value)
abbrev oT(a:fU) b:=fT (uE a b) ((fJ a.live b).v)
abbrev BT(a:Int) b c d e f (g:Int):=(#[.agg #[.int .i64 a,b,c,d,e,f],.int .i64 g]:Array Value)
abbrev qI(a b:Nat):=([.pointer (some ⟨a,0,none⟩),.pointer (some ⟨b,0,none⟩)]:List Value)
abbrev Aq(a:fU) b:=iJ (uE a b) ((fJ a.live b).v)
abbrev B4(a b:Nat):=(#[.pointer (some ⟨a,0,none⟩),.pointer (some ⟨b,0,none⟩)]:Array Value)
abbrev DZ(a b:Nat):=(gq [blk a 39 qm,blk b 40 qm]:fS)
abbrev D5(a b c d:Int):=(.agg #[.int .i64 a,.int .i64 b,.int .i64 c,.int .i64 d]:Value)
abbrev My(a b c d:Int):=(#[.agg #[.int .i64 a,.int .i64 b,.int .i64 c,.int .i64 d]]:Array Value)
abbrev Z0(a:Lv):=([.int .u64 a.u,.int .u64 a.v,.int .i64 a.wt,.int .i64 a.t]:List Value)
abbrev MC a (b c:Nat):=(#[a,.pointer (some ⟨b,0,none⟩),.pointer (some ⟨c,0,none⟩)]:Array Value)
abbrev B7(a b c d:Int):=([.int .i64 a,.int .i64 b,.int .i64 c,.int .i64 1,.int .i64 d]:List Value)
abbrev M8(a:Int) b (c d:Nat):=([.pointer none,.int .i64 a,b,.slice (some ⟨c,0,none⟩) d d]:List Value)
abbrev Mz(a b c d:Int):=(#[.int .i64 a,.int .i64 b,.int .i64 c,.int .i64 1,.int .i64 d]:Array Value)
abbrev Eh(a:Lv):=(.agg #[.int .u64 a.u,.int .u64 a.v,.int .i64 a.wt,.int .i64 a.t]:Value)
abbrev UB(a b:Nat):=(#[.pointer (some ⟨a,0,none⟩),.pointer (some ⟨b,0,none⟩),.bool true]:Array Value)
abbrev BW a (b c d:Nat) (e:Int):=([a,blk b 117 (Zi c),blk d 3 (Ze e)]:List fS)
abbrev HX(a:Int) b (c d:Nat):=(.agg #[.pointer none,.int .i64 a,b,.slice (some ⟨c,0,none⟩) d d]:Value)
abbrev oU(a b:Nat)(c:TW):=([.pointer (some ⟨a,0,none⟩),.pointer (some ⟨b,0,none⟩),c.iv,c.cv]:List Value)
abbrev vT(a b c:Nat)(d:Int):=([.pointer (some ⟨a,0,none⟩),.slice (some ⟨b,0,none⟩) c c,.int .i64 d]:List Value)
abbrev H7(a:Nat)(b:Int) c (d e:Nat):=([.pointer (some ⟨a,0,none⟩),.int .i64 b,c,.slice (some ⟨d,0,none⟩) e e]:List Value)
abbrev nE:=([.int .i64 0,.int .u64 0,.int .u64 0,.int .u64 0,.int .i64 0,.int .i64 0,.int .i64 0]:List Value)
abbrev HA:=(#[.int .i64 0,.int .u64 0,.int .u64 0,.int .u64 0,.int .i64 0,.int .i64 0,.int .i64 0]:Array Value)
abbrev uD(a:fU) b c d:=gx a.im ((fJ a.live b).u) (c,(pO a b).2.eraseIdx d)
abbrev MA(a:Nat)(b c d e:Int):=(#[.pointer (some ⟨a,0,none⟩),.int .i64 b,.int .i64 c,.int .i64 d,.int .i64 e]:Array Value)
abbrev Ai(a b c:Nat):=([.pointer (some ⟨a,0,none⟩),.pointer (some ⟨b,0,none⟩),.pointer (some ⟨c,0,none⟩)]:List Value)
abbrev Mj a (b c d e:Nat):=([.pointer none,a,.slice (some ⟨b,0,none⟩) c c,.slice (some ⟨d,0,none⟩) e e]:List Value)
abbrev MB(a b c:Nat):=(#[.pointer (some ⟨a,0,none⟩),.pointer (some ⟨b,0,none⟩),.pointer (some ⟨c,0,none⟩)]:Array Value)
abbrev Ao(a b c:Nat)(d:Int):=(blk a 195 (vT a b c d):fS)
abbrev uC:=([.int .i64 0,.slice none 0 0,.slice none 0 0,.slice none 0 0,.slice none 0 0,.slice none 0 0]:List Value)
abbrev D1(a:GW) b:=(⟨((fT a.m (b:Int)).a),((fT a.m (b:Int)).b),(fT a.m (b:Int)).exp,true⟩:Ed)
abbrev D0(a:GW) b:=(⟨((fT a.m (b:Int)).a),((fT a.m (b:Int)).b),(fT a.m (b:Int)).exp,false⟩:Ed)
abbrev M6(a:Nat)(b:Int)(c d:Nat):=([.pointer (some ⟨a,0,none⟩),.int .i64 b,.slice none 0 0,.slice (some ⟨c,0,none⟩) d d]:List Value)
abbrev HZ a (b c d e:Nat):=(.agg #[.pointer none,a,.slice (some ⟨b,0,none⟩) c c,.slice (some ⟨d,0,none⟩) e e]:Value)
abbrev vS(a:Nat) b (c:As) (d:Int):=([.pointer (some ⟨a,0,none⟩),b,.int .i64 c.n,.int .i64 d,.int .i64 c.used,.int .i64 c.last]:List Value)
abbrev B9 a (b:Int) c d e f g (h i:Nat):=([a,.int .i64 b,c,d,e,f,g,.pointer (some ⟨h,0,none⟩),.pointer (some ⟨i,0,none⟩)]:List Value)
abbrev xK(a:Nat)(b:Lv):=(#[.pointer (some ⟨a,0,none⟩),.agg #[.int .u64 b.u,.int .u64 b.v,.int .i64 b.wt,.int .i64 b.t]]:Array Value)
abbrev HH a b c d e (f:Nat) (g:Int) h i j k l:=([a,fM Mg.cells b 96 5 c,fM fW d 3 1 e,blk f 67 (Zx g h i j k l)]:List fS)
abbrev Ht(a:Nat) b (c:As) (d:Int):=([.pointer (some ⟨a,0,none⟩),b,.int .i64 c.n,.int .i64 c.begun,.int .i64 c.used,.int .i64 d]:List Value)
abbrev Mn(a:Nat)(b:Int)(c:Nat)(d:Int)(e:Nat)(f:Int)(g:Nat)(h:Bool) i:=([blk a 27 (Zt b),blk c 27 (Zt d),blk e 2 (Ze f),blk g 4 [.bool h],i]:List fS)
abbrev Z5(a:Nat) b (c:As):=([.pointer (some ⟨a,0,none⟩),b,.int .i64 c.n,.int .i64 c.begun,.int .i64 c.used,.int .i64 c.last]:List Value)
abbrev UD(a:Nat)(b:Int)(c:Nat)(d:Int)(e f:Nat) g:=(gq [blk a 27 (Zt b),blk c 27 (Zt d),blk e 2 [.int .i64 0],blk f 4 [.bool false],g]:fS)
abbrev qK(a b:Int)(c:Lv):=([.int .i64 a,.int .u64 b,.int .u64 c.u,.int .u64 c.v,.int .i64 c.wt,.int .i64 c.t,.int .i64 c.exp]:List Value)
abbrev MN(a b:Int)(c:Lv)(d:Int):=(.agg #[.int .i64 a,.int .u64 b,.int .u64 c.u,.int .u64 c.v,.int .i64 c.wt,.int .i64 c.t,.int .i64 d]:Value)
abbrev pN(a:fU) b c d:=fT (uD a b c d) ((fJ a.live b).v)
abbrev HS(a:fU) b c d:=iJ (uD a b c d) ((fJ a.live b).v)
abbrev El(a b c:Int)(d e:Nat) f g:=([.int .i64 a,.int .i64 b,.int .u64 c,.pointer (some ⟨d,0,none⟩),.pointer (some ⟨e,0,none⟩),f,.map g]:List Value)
abbrev HV(a b:Int)(c:Lv):=(.agg #[.int .i64 a,.int .u64 b,.int .u64 c.u,.int .u64 c.v,.int .i64 c.wt,.int .i64 c.t,.int .i64 c.exp]:Value)
abbrev Z9(a:Lv):=([.int .i64 a.slot,.int .u64 a.seq,.int .u64 a.u,.int .u64 a.v,.int .i64 a.wt,.int .i64 a.t,.int .i64 a.exp]:List Value)
abbrev M7(a:Nat)(b:As):=([.pointer (some ⟨a,0,none⟩),.slice none 0 0,.int .i64 b.n,.int .i64 b.begun,.int .i64 b.used,.int .i64 b.last]:List Value)
abbrev MY(a:Nat) b c d e f g h i j:=([ir .i64 (Z6 a) 3 b,fM fW c 3 1 d,e,f,fM fW g 3 1 h,fM fW i 3 1 j]:List fS)
abbrev Mh(a b c d:Nat):=([.pointer (some ⟨a,0,none⟩),.pointer (some ⟨b,0,none⟩),.pointer (some ⟨c,0,none⟩),.pointer (some ⟨d,0,none⟩)]:List Value)
abbrev HG a (b:Nat) (c:Int) (d:Nat) (e:Bool) (f g h:Nat) (i:Int):=([a,blk b 3 (Ze c),blk d 4 [.bool e],blk f 139 (Zi g),blk h 27 (Zt i)]:List fS)
abbrev Em(a b c:Int)(d:fU) e f:=([.int .i64 a,.int .i64 b,.int .u64 c,.pointer (some ⟨d.jb,0,none⟩),.pointer (some ⟨d.tb,0,none⟩),e,.map f]:List Value)
abbrev Ag(a b:Int)(c:GW) d:=([.int .i64 a,.int .i64 b,.pointer (some ⟨c.fb,0,none⟩),.pointer (some ⟨c.hb,0,none⟩),.map d,.int .i64 c.trees]:List Value)
abbrev ML(a b c:Nat)(d:List Nd):=([blk a 195 [.pointer (some ⟨a,0,none⟩),.slice (some ⟨b,0,none⟩) c c,.int .i64 0],blk b 192 (d.flatMap Nd.cells)]:List fS)
abbrev Ab(a:Lv):=(.agg #[.int .i64 a.slot,.int .u64 a.seq,.int .u64 a.u,.int .u64 a.v,.int .i64 a.wt,.int .i64 a.t,.int .i64 a.exp]:Value)
abbrev HJ(a:Nat) b c d e f g:=([blk a 305 [.pointer (some ⟨a,0,none⟩),b,c,d],fM Ge.cells b 235 3 e,fM fW c 3 1 f,fM fW d 3 1 g]:List fS)
abbrev M5(a b:Int)(c d:Nat) e:=([.int .i64 a,.int .i64 b,.int .u64 0,.pointer (some ⟨c,0,none⟩),.pointer (some ⟨d,0,none⟩),.slice none 0 0,.map e]:List Value)
abbrev B8(a b c:Int)(d:fU) e:=([.int .i64 a,.int .i64 b,.int .u64 c,.pointer (some ⟨d.jb,0,none⟩),.pointer (some ⟨d.tb,0,none⟩),d.lv,.map e]:List Value)
abbrev pQ(a b:Int)(c:fU) d:=([.int .i64 a,.int .i64 b,.int .u64 c.last,.pointer (some ⟨c.jb,0,none⟩),.pointer (some ⟨c.tb,0,none⟩),c.lv,.map d]:List Value)
abbrev Zk(a b c:Nat)(d:Int)(e:List Nd):=(gq [blk a 195 (vT a b c d),blk b 192 (e.flatMap Nd.cells)]:fS)
abbrev B3(a b:Int)(c:Lv)(d:Int):=(.tuple #[.agg #[.int .i64 a,.int .u64 b,.int .u64 c.u,.int .u64 c.v,.int .i64 c.wt,.int .i64 c.t,.int .i64 d],.int .i64 0]:Value)
abbrev Mi(a b c d:Nat):=([.pointer none,.slice (some ⟨a,0,none⟩) b b,.slice (some ⟨c,0,none⟩) b b,.slice (some ⟨d,0,none⟩) b b,.int .i64 b]:List Value)
abbrev HO(a:Nat)(b:Int) c d e f g:=([blk a 255 (pP a b c d),fM gG.cells c 161 2 e,fM iA d 269 1 f,gN fW 271 64 f g]:List fS)
abbrev HY(a b c d:Nat):=(.agg #[.pointer none,.slice (some ⟨a,0,none⟩) b b,.slice (some ⟨c,0,none⟩) b b,.slice (some ⟨d,0,none⟩) b b,.int .i64 b]:Value)
abbrev B5(a b:Nat)(c:TW):=([blk a 200 (oU a b c),fM iw c.iv 27 1 c.ids,fM fW c.cv 3 1 c.cs]:List fS)
abbrev D4(a:fU) b c d:=gx (uE a b) ((fJ a.live b).v) (c,(oT a b).2.eraseIdx d)
abbrev DY(a b:Nat)(c:TW) d:=(gq [blk a 200 (oU a b c),fM iw c.iv 27 1 c.ids,fM fW c.cv 3 1 d]:fS)
abbrev Zj(a:Nat)(b:Int) c d e f g:=(gq (HO a b c d e f g):fS)
abbrev Z1(a b:Nat)(c:TW):=(gq (B5 a b c):fS)
abbrev Ek(a:Nat)(b:Ds) c:=([blk a 294 [.pointer (some ⟨a,0,none⟩),b.uv,b.lv,b.sv,.int .i64 b.cnt],fM fW b.uv 3 1 c,fM fW b.lv 3 1 b.le,fM gh b.sv 3 1 b.sz]:List fS)
abbrev Am(a:Nat) b (c d e f:Int) g h:=(gq [blk a 203 [.pointer (some ⟨a,0,none⟩),b,.int .i64 c,.int .i64 d,.int .i64 e,.int .i64 f],fM iA b 259 1 g,gN gT.cells 265 64 g h]:fS)
abbrev B6(a:Nat)(b:Ds):=([blk a 294 [.pointer (some ⟨a,0,none⟩),b.uv,b.lv,b.sv,.int .i64 b.cnt],fM fW b.uv 3 1 b.up,fM fW b.lv 3 1 b.le,fM gh b.sv 3 1 b.sz]:List fS)
abbrev Hw(a:Nat)(b:Ds) c:=(gq (Ek a b c):fS)
abbrev Mr(a:Nat) b (c:As) (d:Int) e f:=([blk a 203 (vS a b c d),fM iA b 259 1 e,gN gT.cells 265 64 e f]:List fS)
abbrev qJ(a:Nat)(b:Ds):=(gq (B6 a b):fS)
abbrev Ng(a:Nat) b (c d e:Int) (f:As):=(gq [blk a 203 [.pointer (some ⟨a,0,none⟩),b,.int .i64 c,.int .i64 d,.int .i64 e,.int .i64 f.last],fM iA b 259 1 f.ps,gN gT.cells 265 64 f.ps f.sl]:fS)
abbrev Af a (b c d e:Nat) (f:Int) (g:List Nd):=([a,blk b 126 (Zi c),blk c 195 (vT c d e f),blk d 192 (g.flatMap Nd.cells)]:List fS)
abbrev Mq(a:Nat) b (c:As) (d:Int):=([blk a 203 (vS a b c d),fM iA b 259 1 c.ps,gN gT.cells 265 64 c.ps c.sl]:List fS)
abbrev Mu(a:Nat)(b:Int):=([gN gT.cells 265 64 ([]) ([]),fM iA Zg 259 1 ([]),blk a 203 [.pointer (some ⟨a,0,none⟩),.slice none 0 0,.int .i64 b,.int .i64 0,.int .i64 0,.int .i64 (-1)]]:List fS)
abbrev Ar(a:Nat) b (c:As):=([blk a 203 (Z5 a b c),fM iA b 259 1 c.ps,gN gT.cells 265 64 c.ps c.sl]:List fS)
abbrev Zq(a:Nat) b (c:As):=(gq (Ar a b c):fS)
abbrev BY(a b:Nat):=([.func (.func 141) #[] (Zh a),.func (.func 143) #[] (B4 a b),.func (.func 145) #[] (Zh a)]:List Value)
abbrev UE(a:Int)(b c d e f g:Nat):=([.int .i64 a,.slice (some ⟨b,0,none⟩) c c,.slice (some ⟨d,0,none⟩) c c,.slice (some ⟨e,0,none⟩) c c,.slice (some ⟨f,0,none⟩) c c,.slice (some ⟨g,0,none⟩) c c]:List Value)
abbrev MT(a:Int)(b c d e f g:Nat):=(#[.int .i64 a,.slice (some ⟨b,0,none⟩) c c,.slice (some ⟨d,0,none⟩) c c,.slice (some ⟨e,0,none⟩) c c,.slice (some ⟨f,0,none⟩) c c,.slice (some ⟨g,0,none⟩) c c]:Array Value)
abbrev MO(a:Int)(b c d e f g:Nat):=(.agg (MT a b c d e f g):Value)
abbrev Mp(a:Nat) b (c:As) d e:=([blk a 203 (Z5 a b c),fM iA b 259 1 c.ps,gN gT.cells 265 64 c.ps c.sl,ir .i64 d 3 e]:List fS)
abbrev MI(a b c d:Nat)(e:Int)(f:List Nd) g h (i:Nat):=([blk a 126 (Zi b),blk b 195 (vT b c d e),blk c 192 (f.flatMap Nd.cells),ir .i64 g 3 h,blk i 65 [g]]:List fS)
abbrev HP(a:Nat)(b:Int)(c d:Nat)(e:Int) f g h i j:=([blk a 3 (Ze b),blk c 129 (Zi d),blk d 255 (pP d e f g),fM gG.cells f 161 2 h,fM iA g 269 1 i,gN fW 271 64 i j]:List fS)
abbrev vP(a:Nat)(b:Int)(c d:Nat)(e:Int) f g h i j:=(gq (HP a b c d e f g h i j):fS)
abbrev Ec a (b c:Nat) (d:TW) (e f:Nat) (g:Int):=(gq [a,blk b 200 (oU b c d),fM iw d.iv 27 1 d.ids,fM fW d.cv 3 1 d.cs,blk e 139 (Zi b),blk f 27 (Zt g)]:fS)
abbrev xI(a b c d:Int)(e:WW):=([.int .i64 a,.int .i64 b,.int .i64 c,.int .i64 d,.pointer (some ⟨e.cb,0,none⟩),.pointer (some ⟨e.ub,0,none⟩),.pointer (some ⟨e.sb,0,none⟩),.pointer (some ⟨e.ob,0,none⟩),.int .u64 e.added,.int .u64 e.jB]:List Value)
abbrev HT(a:fU) b c d e f:=gx (uD a b c d) ((fJ a.live b).v) (e,(pN a b c d).2.eraseIdx f)
abbrev Ms(a:Nat)(b:Int) c d e f g (h:Nat) i (j k:Nat) l:=([blk a 255 (pP a b c d),fM gG.cells c 161 2 e,fM iA d 269 1 f,gN fW 271 64 f g,blk h 255 (H7 h b i j k),fM gG.cells i 161 2 e,fM iA (Zd j k) 269 1 l,gN fW 271 64 l g]:List fS)
abbrev Nh(a:Nat) b (c:As) (d:Nat) e f:=(gq [blk a 203 (Z5 a b c),fM iA b 259 1 c.ps,gN gT.cells 265 64 c.ps c.sl,blk d 203 (Z5 d e c),fM iA e 259 1 f,gN gT.cells 265 64 f c.sl]:fS)
abbrev Mt(a:Nat)(b:Int)(c d e f g h:Nat) i j k l (m:Nat):=([blk a 67 (UE b c d e f g h),blk h 3 i,blk g 2 j,blk f 3 j,blk e 3 j,blk c 3 j,fM fW k 3 1 l,blk m 67 uC]:List fS)
abbrev MU:=([.int .i64 0,.int .i64 0,.int .u64 0,.int .i64 0,.int .i64 0,.int .u64 0,.int .i64 0,.int .i64 0,.int .u64 0,.int .i64 0,.int .i64 0,.int .u64 0,.int .i64 0,.int .i64 0,.int .u64 0,.int .i64 0,.int .i64 0,.int .u64 0,.int .i64 0,.int .i64 0,.int .u64 0,.int .i64 0,.int .i64 0,.int .u64 0,.int .i64 0,.int .i64 0,.int .u64 0,.int .i64 0,.int .i64 0,.int .u64 0,.int .i64 0,.int .i64 0,.int .u64 0,.int .i64 0,.int .i64 0,.int .u64 0,.int .i64 0,.int .i64 0,.int .u64 0,.int .i64 0,.int .i64 0,.int .u64 0,.int .i64 0,.int .i64 0,.int .u64 0,.int .i64 0,.int .i64 0,.int .u64 0,.int .i64 0,.int .i64 0,.int .u64 0,.int .i64 0,.int .i64 0,.int .u64 0,.int .i64 0,.int .i64 0,.int .u64 0,.int .i64 0,.int .i64 0,.int .u64 0,.int .i64 0,.int .i64 0,.int .u64 0,.int .i64 0,.int .i64 0,.int .u64 0,.int .i64 0,.int .i64 0,.int .u64 0,.int .i64 0,.int .i64 0,.int .u64 0,.int .i64 0,.int .i64 0,.int .u64 0,.int .i64 0,.int .i64 0,.int .u64 0,.int .i64 0,.int .i64 0,.int .u64 0,.int .i64 0,.int .i64 0,.int .u64 0,.int .i64 0,.int .i64 0,.int .u64 0,.int .i64 0,.int .i64 0,.int .u64 0,.int .i64 0,.int .i64 0,.int .u64 0,.int .i64 0,.int .i64 0,.int .u64 0,.int .i64 0,.int .i64 0,.int .u64 0,.int .i64 0,.int .i64 0,.int .u64 0,.int .i64 0,.int .i64 0,.int .u64 0,.int .i64 0,.int .i64 0,.int .u64 0,.int .i64 0,.int .i64 0,.int .u64 0,.int .i64 0,.int .i64 0,.int .u64 0,.int .i64 0,.int .i64 0,.int .u64 0,.int .i64 0,.int .i64 0,.int .u64 0,.int .i64 0,.int .i64 0,.int .u64 0,.int .i64 0,.int .i64 0,.int .u64 0,.int .i64 0,.int .i64 0,.int .u64 0,.int .i64 0,.int .i64 0,.int .u64 0,.int .i64 0,.int .i64 0,.int .u64 0,.int .i64 0,.int .i64 0,.int .u64 0,.int .i64 0,.int .i64 0,.int .u64 0,.int .i64 0,.int .i64 0,.int .u64 0,.int .i64 0,.int .i64 0,.int .u64 0,.int .i64 0,.int .i64 0,.int .u64 0,.int .i64 0,.int .i64 0,.int .u64 0,.int .i64 0,.int .i64 0,.int .u64 0,.int .i64 0,.int .i64 0,.int .u64 0,.int .i64 0,.int .i64 0,.int .u64 0,.int .i64 0,.int .i64 0,.int .u64 0,.int .i64 0,.int .i64 0,.int .u64 0,.int .i64 0,.int .i64 0,.int .u64 0,.int .i64 0,.int .i64 0,.int .u64 0,.int .i64 0,.int .i64 0,.int .u64 0,.int .i64 0,.int .i64 0,.int .u64 0,.int .i64 0,.int .i64 0,.int .u64 0,.int .i64 0,.int .i64 0,.int .u64 0,.int .i64 0,.int .i64 0,.int .u64 0,.int .i64 0,.int .i64 0,.int .u64 0]:List Value)
abbrev MD a (b c:Nat) d (e:As) f g:=([a,blk b 265 MU,blk c 203 (Z5 c d e),fM iA f 259 1 g,gN gT.cells 265 64 e.ps e.sl]:List fS)
end
section
open Go Go.Sx
theorem gX{t:TypeId}{s b:Nat}{z:Value}(h:(ya.info? t).map (fun i=>(i.size,i.bytes,i.zero))=some (s,b,some z)):TI ya t s b z:=h
theorem ti2:TI ya 2 1 8 (.int .i64 0):=gX k_
theorem gy:TI ya 3 1 8 (.int .i64 0):=gX k_
theorem ve:TI ya 4 1 1 (.bool false):=gX k_
theorem ti5:TI ya 5 1 1 (.int .u8 0):=gX k_
theorem Tx:TI ya 23 1 8 (.pointer none):=gX k_
theorem jx:TI ya 27 1 8 (.int .u64 0):=gX k_
theorem zF:TI ya 28 1 8 (.int .i64 0):=gX k_
theorem Gp:TI ya 35 2 16 (.agg #[(.int .u64 0),(.int .i64 0)]):=gX k_
theorem afm:TI ya 39 1 24 (.slice none 0 0):=gX k_
theorem TD:TI ya 40 1 24 (.slice none 0 0):=gX k_
theorem ue:TI ya 46 2 16 (.agg #[(.int .u64 0),(.int .u64 0)]):=gX k_
theorem Dr:TI ya 51 4 32 (.agg #[(.int .i64 0),(.int .i64 0),(.int .i64 0),(.int .i64 0)]):=gX k_
theorem afn:TI ya 55 1 1 (.int .i8 0):=gX k_
theorem afo:TI ya 57 5 5 (.agg #[(.bool false),(.int .u8 0),(.int .u8 0),(.int .i8 0),(.int .u8 0)]):=gX k_
theorem vg:TI ya 61 4 32 (.agg #[(.int .u64 0),(.int .u64 0),(.int .i64 0),(.int .i64 0)]):=gX k_
theorem Lq:TI ya 64 1 24 (.slice none 0 0):=gX k_
theorem kg:TI ya 65 1 24 (.slice none 0 0):=gX k_
theorem w5:TI ya 67 6 128 (.agg #[(.int .i64 0),(.slice none 0 0),(.slice none 0 0),(.slice none 0 0),(.slice none 0 0),(.slice none 0 0)]):=gX k_
theorem TE:TI ya 68 1 8 (.pointer none):=gX k_
theorem TF:TI ya 69 1 8 (.pointer none):=gX k_
theorem Dt:TI ya 71 9 168 (.agg #[(.slice none 0 0),(.int .i64 0),(.slice none 0 0),(.slice none 0 0),(.slice none 0 0),(.slice none 0 0),(.slice none 0 0),(.pointer none),(.pointer none)]):=gX k_
theorem TG:TI ya 78 1 8 (.pointer none):=gX k_
theorem Lr:TI ya 79 1 8 (.pointer none):=gX k_
theorem TH:TI ya 80 1 8 (.pointer none):=gX k_
theorem TJ:TI ya 81 1 8 (.pointer none):=gX k_
theorem TK:TI ya 83 10 80 (.agg #[(.int .i64 0),(.int .i64 0),(.int .i64 0),(.int .i64 0),(.pointer none),(.pointer none),(.pointer none),(.pointer none),(.int .u64 0),(.int .u64 0)]):=gX k_
theorem Du:TI ya 87 2 16 (.agg #[(.int .i64 0),(.int .i64 0)]):=gX k_
theorem Lu:TI ya 94 2 16 (.agg #[(.int .i64 0),(.int .i64 0)]):=gX k_
theorem Gq:TI ya 96 5 40 (.agg #[(.int .i64 0),(.int .i64 0),(.int .i64 0),(.int .i64 0),(.int .i64 0)]):=gX k_
theorem Dk:TI ya 100 2 16 (.agg #[(.bool false),(.int .u64 0)]):=gX k_
theorem Td:TI ya 102 13 200 (.agg #[(.pointer none),(.bool false),(.int .u64 0),(.slice none 0 0),(.int .i64 0),(.slice none 0 0),(.slice none 0 0),(.slice none 0 0),(.slice none 0 0),(.slice none 0 0),(.pointer none),(.pointer none),(.int .i64 0)]):=gX k_
theorem nS:TI ya 107 7 56 (.agg #[(.int .i64 0),(.int .u64 0),(.int .u64 0),(.int .u64 0),(.int .i64 0),(.int .i64 0),(.int .i64 0)]):=gX k_
theorem Dl:TI ya 115 1 8 .nilFunc:=gX k_
theorem Le:TI ya 117 1 8 (.pointer none):=gX k_
theorem Te:TI ya 118 1 8 (.map none):=gX k_
theorem Tf:TI ya 120 9 168 (.agg #[(.pointer none),(.int .i64 0),(.slice none 0 0),(.slice none 0 0),(.slice none 0 0),(.slice none 0 0),(.slice none 0 0),(.slice none 0 0),(.map none)]):=gX k_
theorem Tg:TI ya 121 1 8 (.pointer none):=gX k_
theorem Th:TI ya 123 1 8 (.agg #[(.pointer none)]):=gX k_
theorem Lf:TI ya 126 1 8 (.pointer none):=gX k_
theorem Lg:TI ya 128 1 8 (.agg #[(.pointer none)]):=gX k_
theorem Gi:TI ya 129 1 8 (.pointer none):=gX k_
theorem Ti:TI ya 130 1 8 (.map none):=gX k_
theorem Tj:TI ya 132 6 48 (.agg #[(.int .i64 0),(.int .i64 0),(.pointer none),(.pointer none),(.map none),(.int .i64 0)]):=gX k_
theorem Tk:TI ya 135 8 160 (.agg #[(.pointer none),(.int .i64 0),(.slice none 0 0),(.slice none 0 0),(.slice none 0 0),(.slice none 0 0),(.slice none 0 0),(.slice none 0 0)]):=gX k_
theorem Gj:TI ya 138 1 8 (.pointer none):=gX k_
theorem Lh:TI ya 139 1 8 (.pointer none):=gX k_
theorem Tm:TI ya 140 1 24 (.slice none 0 0):=gX k_
theorem Tn:TI ya 141 1 8 (.map none):=gX k_
theorem To:TI ya 143 7 72 (.agg #[(.int .i64 0),(.int .i64 0),(.int .u64 0),(.pointer none),(.pointer none),(.slice none 0 0),(.map none)]):=gX k_
theorem Tp:TI ya 145 4 32 (.agg #[(.int .i64 0),(.int .i64 0),(.int .i64 0),(.int .i64 0)]):=gX k_
theorem Tq:TI ya 154 1 8 (.int .i64 0):=gX k_
theorem Ts:TI ya 156 2 16 (.agg #[(.int .i64 0),(.int .i64 0)]):=gX k_
theorem pY:TI ya 161 2 16 (.agg #[(.int .i64 0),(.int .i64 0)]):=gX k_
theorem zB:TI ya 165 4 32 (.agg #[(.int .i64 0),(.int .i64 0),(.int .i64 0),(.bool false)]):=gX k_
theorem Tt:TI ya 179 1 24 (.slice none 0 0):=gX k_
theorem Gk:TI ya 190 2 16 (.agg #[(.int .i64 0),(.int .i64 0)]):=gX k_
theorem jj:TI ya 192 9 72 (.agg #[(.int .i64 0),(.int .i64 0),(.int .i64 0),(.bool false),(.int .i64 0),(.int .i64 0),(.int .i64 0),(.int .i64 0),(.int .i64 0)]):=gX k_
theorem Tu:TI ya 193 1 24 (.slice none 0 0):=gX k_
theorem Li:TI ya 195 3 40 (.agg #[(.pointer none),(.slice none 0 0),(.int .i64 0)]):=gX k_
theorem Gl:TI ya 200 4 64 (.agg #[(.pointer none),(.pointer none),(.slice none 0 0),(.slice none 0 0)]):=gX k_
theorem Tv:TI ya 201 1 24 (.slice none 0 0):=gX k_
theorem Gm:TI ya 203 6 64 (.agg #[(.pointer none),(.slice none 0 0),(.int .i64 0),(.int .i64 0),(.int .i64 0),(.int .i64 0)]):=gX k_
theorem Lj:TI ya 211 2 16 (.agg #[(.int .i64 0),(.pointer none)]):=gX k_
theorem Tw:TI ya 218 3 24 (.agg #[(.int .i64 0),(.int .i64 0),(.int .u64 0)]):=gX k_
theorem zC:TI ya 235 3 24 (.agg #[(.int .i64 0),(.int .i64 0),(.int .i64 0)]):=gX k_
theorem Dm:TI ya 242 1 24 (.slice none 0 0):=gX k_
theorem zD:TI ya 244 2 16 (.agg #[(.int .i64 0),(.int .i64 0)]):=gX k_
theorem Ty:TI ya 245 13 312 (.agg #[(.slice none 0 0),(.slice none 0 0),(.slice none 0 0),(.slice none 0 0),(.slice none 0 0),(.slice none 0 0),(.slice none 0 0),(.slice none 0 0),(.slice none 0 0),(.slice none 0 0),(.slice none 0 0),(.slice none 0 0),(.slice none 0 0)]):=gX k_
theorem Tz:TI ya 247 15 344 (.agg #[(.bool false),(.slice none 0 0),(.slice none 0 0),(.slice none 0 0),(.slice none 0 0),(.slice none 0 0),(.slice none 0 0),(.slice none 0 0),(.slice none 0 0),(.slice none 0 0),(.slice none 0 0),(.slice none 0 0),(.slice none 0 0),(.slice none 0 0),(.slice none 0 0)]):=gX k_
theorem afl:TI ya 251 1 24 (.slice none 0 0):=gX k_
theorem Ll:TI ya 252 1 24 (.slice none 0 0):=gX k_
theorem Lm:TI ya 253 1 24 (.slice none 0 0):=gX k_
theorem Gn:TI ya 255 4 64 (.agg #[(.pointer none),(.int .i64 0),(.slice none 0 0),(.slice none 0 0)]):=gX k_
theorem Dp:TI ya 259 1 8 (.pointer none):=gX k_
theorem Ln:TI ya 265 192 1536 (.agg #[(.int .i64 0),(.int .i64 0),(.int .u64 0),(.int .i64 0),(.int .i64 0),(.int .u64 0),(.int .i64 0),(.int .i64 0),(.int .u64 0),(.int .i64 0),(.int .i64 0),(.int .u64 0),(.int .i64 0),(.int .i64 0),(.int .u64 0),(.int .i64 0),(.int .i64 0),(.int .u64 0),(.int .i64 0),(.int .i64 0),(.int .u64 0),(.int .i64 0),(.int .i64 0),(.int .u64 0),(.int .i64 0),(.int .i64 0),(.int .u64 0),(.int .i64 0),(.int .i64 0),(.int .u64 0),(.int .i64 0),(.int .i64 0),(.int .u64 0),(.int .i64 0),(.int .i64 0),(.int .u64 0),(.int .i64 0),(.int .i64 0),(.int .u64 0),(.int .i64 0),(.int .i64 0),(.int .u64 0),(.int .i64 0),(.int .i64 0),(.int .u64 0),(.int .i64 0),(.int .i64 0),(.int .u64 0),(.int .i64 0),(.int .i64 0),(.int .u64 0),(.int .i64 0),(.int .i64 0),(.int .u64 0),(.int .i64 0),(.int .i64 0),(.int .u64 0),(.int .i64 0),(.int .i64 0),(.int .u64 0),(.int .i64 0),(.int .i64 0),(.int .u64 0),(.int .i64 0),(.int .i64 0),(.int .u64 0),(.int .i64 0),(.int .i64 0),(.int .u64 0),(.int .i64 0),(.int .i64 0),(.int .u64 0),(.int .i64 0),(.int .i64 0),(.int .u64 0),(.int .i64 0),(.int .i64 0),(.int .u64 0),(.int .i64 0),(.int .i64 0),(.int .u64 0),(.int .i64 0),(.int .i64 0),(.int .u64 0),(.int .i64 0),(.int .i64 0),(.int .u64 0),(.int .i64 0),(.int .i64 0),(.int .u64 0),(.int .i64 0),(.int .i64 0),(.int .u64 0),(.int .i64 0),(.int .i64 0),(.int .u64 0),(.int .i64 0),(.int .i64 0),(.int .u64 0),(.int .i64 0),(.int .i64 0),(.int .u64 0),(.int .i64 0),(.int .i64 0),(.int .u64 0),(.int .i64 0),(.int .i64 0),(.int .u64 0),(.int .i64 0),(.int .i64 0),(.int .u64 0),(.int .i64 0),(.int .i64 0),(.int .u64 0),(.int .i64 0),(.int .i64 0),(.int .u64 0),(.int .i64 0),(.int .i64 0),(.int .u64 0),(.int .i64 0),(.int .i64 0),(.int .u64 0),(.int .i64 0),(.int .i64 0),(.int .u64 0),(.int .i64 0),(.int .i64 0),(.int .u64 0),(.int .i64 0),(.int .i64 0),(.int .u64 0),(.int .i64 0),(.int .i64 0),(.int .u64 0),(.int .i64 0),(.int .i64 0),(.int .u64 0),(.int .i64 0),(.int .i64 0),(.int .u64 0),(.int .i64 0),(.int .i64 0),(.int .u64 0),(.int .i64 0),(.int .i64 0),(.int .u64 0),(.int .i64 0),(.int .i64 0),(.int .u64 0),(.int .i64 0),(.int .i64 0),(.int .u64 0),(.int .i64 0),(.int .i64 0),(.int .u64 0),(.int .i64 0),(.int .i64 0),(.int .u64 0),(.int .i64 0),(.int .i64 0),(.int .u64 0),(.int .i64 0),(.int .i64 0),(.int .u64 0),(.int .i64 0),(.int .i64 0),(.int .u64 0),(.int .i64 0),(.int .i64 0),(.int .u64 0),(.int .i64 0),(.int .i64 0),(.int .u64 0),(.int .i64 0),(.int .i64 0),(.int .u64 0),(.int .i64 0),(.int .i64 0),(.int .u64 0),(.int .i64 0),(.int .i64 0),(.int .u64 0),(.int .i64 0),(.int .i64 0),(.int .u64 0),(.int .i64 0),(.int .i64 0),(.int .u64 0),(.int .i64 0),(.int .i64 0),(.int .u64 0)]):=gX k_
theorem Dq:TI ya 269 1 8 (.pointer none):=gX k_
theorem Lo:TI ya 271 64 512 (.agg #[(.int .i64 0),(.int .i64 0),(.int .i64 0),(.int .i64 0),(.int .i64 0),(.int .i64 0),(.int .i64 0),(.int .i64 0),(.int .i64 0),(.int .i64 0),(.int .i64 0),(.int .i64 0),(.int .i64 0),(.int .i64 0),(.int .i64 0),(.int .i64 0),(.int .i64 0),(.int .i64 0),(.int .i64 0),(.int .i64 0),(.int .i64 0),(.int .i64 0),(.int .i64 0),(.int .i64 0),(.int .i64 0),(.int .i64 0),(.int .i64 0),(.int .i64 0),(.int .i64 0),(.int .i64 0),(.int .i64 0),(.int .i64 0),(.int .i64 0),(.int .i64 0),(.int .i64 0),(.int .i64 0),(.int .i64 0),(.int .i64 0),(.int .i64 0),(.int .i64 0),(.int .i64 0),(.int .i64 0),(.int .i64 0),(.int .i64 0),(.int .i64 0),(.int .i64 0),(.int .i64 0),(.int .i64 0),(.int .i64 0),(.int .i64 0),(.int .i64 0),(.int .i64 0),(.int .i64 0),(.int .i64 0),(.int .i64 0),(.int .i64 0),(.int .i64 0),(.int .i64 0),(.int .i64 0),(.int .i64 0),(.int .i64 0),(.int .i64 0),(.int .i64 0),(.int .i64 0)]):=gX k_
theorem TA:TI ya 274 1 8 (.pointer none):=gX k_
theorem TB:TI ya 277 1 8 (.pointer none):=gX k_
theorem Lp:TI ya 294 5 88 (.agg #[(.pointer none),(.slice none 0 0),(.slice none 0 0),(.slice none 0 0),(.int .i64 0)]):=gX k_
theorem TC:TI ya 305 4 80 (.agg #[(.pointer none),(.slice none 0 0),(.slice none 0 0),(.slice none 0 0)]):=gX k_
theorem ac2:ko ya 35 [(0,1),(1,1)]:=⟨_,GR,fun w=>by simp[TI.size jx,TI.size gy]⟩
theorem RT:ko ya 51 [(0,1),(1,1),(2,1),(3,1)]:=⟨_,GS,fun w=>by simp[TI.size ti2,TI.size gy]⟩
theorem FN:ko ya 61 [(0,1),(1,1),(2,1),(3,1)]:=⟨_,DB,fun w=>by simp[TI.size ti2,TI.size jx]⟩
theorem ac3:ko ya 67 [(0,1),(1,1),(2,1),(3,1),(4,1),(5,1)]:=⟨_,Tryz.underlying67,fun w=>by simp[TI.size gy,TI.size TD,TI.size kg]⟩
theorem ac4:ko ya 71 [(0,1),(1,6),(7,1),(8,1)]:=⟨_,GU,fun w=>by simp[TI.size Lq,TI.size w5,TI.size TE,TI.size TF]⟩
theorem ac5:ko ya 83 [(0,4),(4,1),(5,1),(6,1),(7,1),(8,1),(9,1)]:=⟨_,Tryz.underlying83,fun w=>by simp[TI.size jx,TI.size Dr,TI.size TG,TI.size Lr,TI.size TH,TI.size TJ]⟩
theorem ac6:ko ya 87 [(0,1),(1,1)]:=⟨_,Tryz.underlying87,fun w=>by simp[TI.size gy]⟩
theorem ac7:ko ya 94 [(0,1),(1,1)]:=⟨_,Tryz.underlying94,fun w=>by simp[TI.size ti2]⟩
theorem ac8:ko ya 96 [(0,1),(1,1),(2,2),(4,1)]:=⟨_,Tryz.underlying96,fun w=>by simp[TI.size gy,TI.size Lu]⟩
theorem RL:ko ya 100 [(0,1),(1,1)]:=⟨_,GM,fun w=>by simp[TI.size jx,TI.size ve]⟩
theorem acO:ko ya 102 [(0,1),(1,2),(3,9),(12,1)]:=⟨_,Tryz.underlying102,fun w=>by simp[TI.size Dk,TI.size Tx,TI.size gy,TI.size Dt]⟩
theorem Kt:ko ya 107 [(0,1),(1,1),(2,4),(6,1)]:=⟨_,xg,fun w=>by simp[TI.size ti2,TI.size jx,TI.size gy,TI.size vg]⟩
theorem acP:ko ya 120 [(0,1),(1,6),(7,1),(8,1)]:=⟨_,Tryz.underlying120,fun w=>by simp[TI.size Le,TI.size Te,TI.size kg,TI.size w5]⟩
theorem acQ:ko ya 123 [(0,1)]:=⟨_,Tryz.underlying123,fun w=>by simp[TI.size Tg]⟩
theorem acR:ko ya 128 [(0,1)]:=⟨_,Tryz.underlying128,fun w=>by simp[TI.size Lf]⟩
theorem acS:ko ya 132 [(0,1),(1,1),(2,1),(3,1),(4,1),(5,1)]:=⟨_,Tryz.underlying132,fun w=>by simp[TI.size Lg,TI.size Gi,TI.size Ti,TI.size gy]⟩
theorem acT:ko ya 135 [(0,1),(1,6),(7,1)]:=⟨_,Tryz.underlying135,fun w=>by simp[TI.size Le,TI.size kg,TI.size w5]⟩
theorem acU:ko ya 143 [(0,1),(1,1),(2,1),(3,1),(4,1),(5,1),(6,1)]:=⟨_,Tryz.underlying143,fun w=>by simp[TI.size Gj,TI.size Lh,TI.size Tm,TI.size Tn,TI.size jx,TI.size gy]⟩
theorem acV:ko ya 156 [(0,1),(1,1)]:=⟨_,Tryz.underlying156,fun w=>by simp[TI.size Tq,TI.size ti2]⟩
theorem RM:ko ya 161 [(0,1),(1,1)]:=⟨_,xh,fun w=>by simp[TI.size ti2,TI.size gy]⟩
theorem acW:ko ya 165 [(0,1),(1,1),(2,1),(3,1)]:=⟨_,Tryz.underlying165,fun w=>by simp[TI.size ti2,TI.size gy,TI.size ve]⟩
theorem acX:ko ya 195 [(0,1),(1,1),(2,1)]:=⟨_,Tryz.underlying195,fun w=>by simp[TI.size Lf,TI.size Tu,TI.size gy]⟩
theorem RN:ko ya 200 [(0,1),(1,1),(2,1),(3,1)]:=⟨_,Tryz.underlying200,fun w=>by simp[TI.size Gj,TI.size Lh,TI.size Lq,TI.size kg]⟩
theorem RO:ko ya 203 [(0,1),(1,1),(2,1),(3,1),(4,1),(5,1)]:=⟨_,Tryz.underlying203,fun w=>by simp[TI.size Gj,TI.size Tv,TI.size gy]⟩
theorem RP:ko ya 211 [(0,1),(1,1)]:=⟨_,Tryz.underlying211,fun w=>by simp[TI.size Gi,TI.size gy]⟩
theorem acY:ko ya 235 [(0,1),(1,1),(2,1)]:=⟨_,GO,fun w=>by simp[TI.size ti2,TI.size gy]⟩
theorem RQ:ko ya 244 [(0,1),(1,1)]:=⟨_,Tryz.underlying244,fun w=>by simp[TI.size gy]⟩
theorem acZ:ko ya 247 [(0,1),(1,1),(2,13)]:=⟨_,Tryz.underlying247,fun w=>by simp[TI.size Ty,TI.size ve,TI.size kg]⟩
theorem RS:ko ya 255 [(0,1),(1,1),(2,1),(3,1)]:=⟨_,Dy,fun w=>by simp[TI.size Gi,TI.size Ll,TI.size Lm,TI.size gy]⟩
theorem ac0:ko ya 294 [(0,1),(1,1),(2,1),(3,1),(4,1)]:=⟨_,Tryz.underlying294,fun w=>by simp[TI.size TB,TI.size gy,TI.size kg]⟩
theorem ac1:ko ya 305 [(0,1),(1,1),(2,1),(3,1)]:=⟨_,Tryz.underlying305,fun w=>by simp[TI.size Tt,TI.size TA,TI.size kg]⟩
theorem XZ:gi ya 5:=enters_of Tryz.func5 k_ rfl
theorem IS:gi ya 6:=enters_of Tryz.func6 k_ rfl
theorem Yd:gi ya 8:=enters_of Tryz.func8 k_ rfl
theorem Pb:gi ya 9:=enters_of Tryz.func9 k_ rfl
theorem Oe:gi ya 10:=enters_of Tryz.func10 k_ rfl
theorem WK:gi ya 11:=enters_of Tryz.func11 k_ rfl
theorem Om:gi ya 12:=enters_of Tryz.func12 k_ rfl
theorem Oo:gi ya 13:=enters_of Tryz.func13 k_ rfl
theorem W2:gi ya 14:=enters_of Tryz.func14 k_ rfl
theorem Oz:gi ya 15:=enters_of Tryz.func15 k_ rfl
theorem EN:gi ya 16:=enters_of Tryz.func16 k_ rfl
theorem AF:gi ya 17:=enters_of Tryz.func17 k_ rfl
theorem EP:gi ya 18:=enters_of Tryz.func18 k_ rfl
theorem ER:gi ya 19:=enters_of Tryz.func19 k_ rfl
theorem Xx:gi ya 20:=enters_of Tryz.func20 k_ rfl
theorem XC:gi ya 21:=enters_of Tryz.func21 k_ rfl
theorem AG:gi ya 22:=enters_of Tryz.func22 k_ rfl
theorem XG:gi ya 23:=enters_of Tryz.func23 k_ rfl
theorem XI:gi ya 25:=enters_of Tryz.func25 k_ rfl
theorem XJ:gi ya 26:=enters_of Tryz.func26 k_ rfl
theorem OW:gi ya 27:=enters_of Tryz.func27 k_ rfl
theorem OX:gi ya 28:=enters_of Tryz.func28 k_ rfl
theorem XK:gi ya 29:=enters_of Tryz.func29 k_ rfl
theorem uK:gi ya 30:=enters_of Tryz.func30 k_ rfl
theorem XL:gi ya 31:=enters_of Tryz.func31 k_ rfl
theorem XM:gi ya 32:=enters_of Tryz.func32 k_ rfl
theorem XN:gi ya 33:=enters_of Tryz.func33 k_ rfl
theorem XO:gi ya 34:=enters_of Tryz.func34 k_ rfl
theorem XP:gi ya 35:=enters_of Tryz.func35 k_ rfl
theorem XQ:gi ya 36:=enters_of Tryz.func36 k_ rfl
theorem XR:gi ya 37:=enters_of Tryz.func37 k_ rfl
theorem OY:gi ya 38:=enters_of Tryz.func38 k_ rfl
theorem XS:gi ya 39:=enters_of Tryz.func39 k_ rfl
theorem OZ:gi ya 40:=enters_of Tryz.func40 k_ rfl
theorem O1:gi ya 41:=enters_of Tryz.func41 k_ rfl
theorem XT:gi ya 42:=enters_of Tryz.func42 k_ rfl
theorem XU:gi ya 43:=enters_of Tryz.func43 k_ rfl
theorem XV:gi ya 44:=enters_of Tryz.func44 k_ rfl
theorem O2:gi ya 45:=enters_of Tryz.func45 k_ rfl
theorem XW:gi ya 46:=enters_of Tryz.func46 k_ rfl
theorem IN:gi ya 47:=enters_of Tryz.func47 k_ rfl
theorem XX:gi ya 48:=enters_of Tryz.func48 k_ rfl
theorem XY:gi ya 49:=enters_of Tryz.func49 k_ rfl
theorem ES:gi ya 50:=enters_of Tryz.func50 k_ rfl
theorem IP:gi ya 51:=enters_of Tryz.func51 k_ rfl
theorem IQ:gi ya 52:=enters_of Tryz.func52 k_ rfl
theorem X0:gi ya 53:=enters_of Tryz.func53 k_ rfl
theorem X3:gi ya 54:=enters_of Tryz.func54 k_ rfl
theorem O3:gi ya 55:=enters_of Tryz.func55 k_ rfl
theorem wg:gi ya 56:=enters_of Tryz.func56 k_ rfl
theorem O4:gi ya 57:=enters_of Tryz.func57 k_ rfl
theorem ET:gi ya 58:=enters_of Tryz.func58 k_ rfl
theorem EU:gi ya 59:=enters_of Tryz.func59 k_ rfl
theorem X4:gi ya 60:=enters_of Tryz.func60 k_ rfl
theorem X5:gi ya 61:=enters_of Tryz.func61 k_ rfl
theorem X6:gi ya 62:=enters_of Tryz.func62 k_ rfl
theorem X7:gi ya 63:=enters_of Tryz.func63 k_ rfl
theorem X8:gi ya 64:=enters_of Tryz.func64 k_ rfl
theorem IT:gi ya 65:=enters_of Tryz.func65 k_ rfl
theorem Cr:gi ya 66:=enters_of Tryz.func66 k_ rfl
theorem X9:gi ya 67:=enters_of Tryz.func67 k_ rfl
theorem O5:gi ya 68:=enters_of Tryz.func68 k_ rfl
theorem IU:gi ya 69:=enters_of Tryz.func69 k_ rfl
theorem O6:gi ya 70:=enters_of Tryz.func70 k_ rfl
theorem IV:gi ya 71:=enters_of Tryz.func71 k_ rfl
theorem IW:gi ya 72:=enters_of Tryz.func72 k_ rfl
theorem IX:gi ya 73:=enters_of Tryz.func73 k_ rfl
theorem O7:gi ya 74:=enters_of Tryz.func74 k_ rfl
theorem IY:gi ya 75:=enters_of Tryz.func75 k_ rfl
theorem O8:gi ya 76:=enters_of Tryz.func76 k_ rfl
theorem Ya:gi ya 77:=enters_of Tryz.func77 k_ rfl
theorem Yb:gi ya 78:=enters_of Tryz.func78 k_ rfl
theorem Yc:gi ya 79:=enters_of Tryz.func79 k_ rfl
theorem O9:gi ya 80:=enters_of Tryz.func80 k_ rfl
theorem Ye:gi ya 81:=enters_of Tryz.func81 k_ rfl
theorem Yf:gi ya 82:=enters_of Tryz.func82 k_ rfl
theorem Yg:gi ya 83:=enters_of Tryz.func83 k_ rfl
theorem Yh:gi ya 84:=enters_of Tryz.func84 k_ rfl
theorem IZ:gi ya 85:=enters_of Tryz.func85 k_ rfl
theorem Yi:gi ya 86:=enters_of Tryz.func86 k_ rfl
theorem Yj:gi ya 87:=enters_of Tryz.func87 k_ rfl
theorem Yk:gi ya 88:=enters_of Tryz.func88 k_ rfl
theorem Pa:gi ya 89:=enters_of Tryz.func89 k_ rfl
theorem Yl:gi ya 90:=enters_of Tryz.func90 k_ rfl
theorem EV:gi ya 91:=enters_of Tryz.func91 k_ rfl
theorem EW:gi ya 92:=enters_of Tryz.func92 k_ rfl
theorem xV:gi ya 93:=enters_of Tryz.func93 k_ rfl
theorem Ym:gi ya 94:=enters_of Tryz.func94 k_ rfl
theorem Yn:gi ya 95:=enters_of Tryz.func95 k_ rfl
theorem Pc:gi ya 96:=enters_of Tryz.func96 k_ rfl
theorem wh:gi ya 97:=enters_of Tryz.func97 k_ rfl
theorem wj:gi ya 98:=enters_of Tryz.func98 k_ rfl
theorem Pd:gi ya 99:=enters_of Tryz.func99 k_ rfl
theorem WG:gi ya 100:=enters_of Tryz.func100 k_ rfl
theorem Of:gi ya 101:=enters_of Tryz.func101 k_ rfl
theorem WH:gi ya 102:=enters_of Tryz.func102 k_ rfl
theorem Og:gi ya 103:=enters_of Tryz.func103 k_ rfl
theorem WI:gi ya 104:=enters_of Tryz.func104 k_ rfl
theorem AD:gi ya 105:=enters_of Tryz.func105 k_ rfl
theorem WJ:gi ya 106:=enters_of Tryz.func106 k_ rfl
theorem Oh:gi ya 107:=enters_of Tryz.func107 k_ rfl
theorem Oi:gi ya 108:=enters_of Tryz.func108 k_ rfl
theorem AE:gi ya 109:=enters_of Tryz.func109 k_ rfl
theorem Ck:gi ya 110:=enters_of Tryz.func110 k_ rfl
theorem WM:gi ya 111:=enters_of Tryz.func111 k_ rfl
theorem WN:gi ya 112:=enters_of Tryz.func112 k_ rfl
theorem Oj:gi ya 113:=enters_of Tryz.func113 k_ rfl
theorem WO:gi ya 114:=enters_of Tryz.func114 k_ rfl
theorem WQ:gi ya 115:=enters_of Tryz.func115 k_ rfl
theorem WR:gi ya 116:=enters_of Tryz.func116 k_ rfl
theorem IG:gi ya 117:=enters_of Tryz.func117 k_ rfl
theorem WT:gi ya 118:=enters_of Tryz.func118 k_ rfl
theorem Ol:gi ya 119:=enters_of Tryz.func119 k_ rfl
theorem EJ:gi ya 120:=enters_of Tryz.func120 k_ rfl
theorem WU:gi ya 121:=enters_of Tryz.func121 k_ rfl
theorem WV:gi ya 122:=enters_of Tryz.func122 k_ rfl
theorem On:gi ya 124:=enters_of Tryz.func124 k_ rfl
theorem WX:gi ya 125:=enters_of Tryz.func125 k_ rfl
theorem II:gi ya 126:=enters_of Tryz.func126 k_ rfl
theorem WY:gi ya 127:=enters_of Tryz.func127 k_ rfl
theorem WZ:gi ya 128:=enters_of Tryz.func128 k_ rfl
theorem W0:gi ya 129:=enters_of Tryz.func129 k_ rfl
theorem Oq:gi ya 130:=enters_of Tryz.func130 k_ rfl
theorem Ot:gi ya 131:=enters_of Tryz.func131 k_ rfl
theorem Ou:gi ya 132:=enters_of Tryz.func132 k_ rfl
theorem EK:gi ya 133:=enters_of Tryz.func133 k_ rfl
theorem Ov:gi ya 134:=enters_of Tryz.func134 k_ rfl
theorem W1:gi ya 135:=enters_of Tryz.func135 k_ rfl
theorem Ow:gi ya 136:=enters_of Tryz.func136 k_ rfl
theorem Ox:gi ya 137:=enters_of Tryz.func137 k_ rfl
theorem lV:gi ya 138:=enters_of Tryz.func138 k_ rfl
theorem Oy:gi ya 139:=enters_of Tryz.func139 k_ rfl
theorem W3:gi ya 140:=enters_of Tryz.func140 k_ rfl
theorem W4:gi ya 141:=enters_of Tryz.func141 k_ rfl
theorem W5:gi ya 142:=enters_of Tryz.func142 k_ rfl
theorem W6:gi ya 143:=enters_of Tryz.func143 k_ rfl
theorem W7:gi ya 144:=enters_of Tryz.func144 k_ rfl
theorem W8:gi ya 145:=enters_of Tryz.func145 k_ rfl
theorem W9:gi ya 146:=enters_of Tryz.func146 k_ rfl
theorem Xa:gi ya 147:=enters_of Tryz.func147 k_ rfl
theorem IJ:gi ya 148:=enters_of Tryz.func148 k_ rfl
theorem Co:gi ya 149:=enters_of Tryz.func149 k_ rfl
theorem IK:gi ya 150:=enters_of Tryz.func150 k_ rfl
theorem EL:gi ya 151:=enters_of Tryz.func151 k_ rfl
theorem OA:gi ya 152:=enters_of Tryz.func152 k_ rfl
theorem Xb:gi ya 153:=enters_of Tryz.func153 k_ rfl
theorem IL:gi ya 154:=enters_of Tryz.func154 k_ rfl
theorem Xc:gi ya 155:=enters_of Tryz.func155 k_ rfl
theorem OB:gi ya 156:=enters_of Tryz.func156 k_ rfl
theorem Xd:gi ya 157:=enters_of Tryz.func157 k_ rfl
theorem OC:gi ya 159:=enters_of Tryz.func159 k_ rfl
theorem OD:gi ya 160:=enters_of Tryz.func160 k_ rfl
theorem Xe:gi ya 161:=enters_of Tryz.func161 k_ rfl
theorem Xf:gi ya 162:=enters_of Tryz.func162 k_ rfl
theorem OE:gi ya 163:=enters_of Tryz.func163 k_ rfl
theorem OG:gi ya 164:=enters_of Tryz.func164 k_ rfl
theorem OH:gi ya 165:=enters_of Tryz.func165 k_ rfl
theorem Xg:gi ya 166:=enters_of Tryz.func166 k_ rfl
theorem Xh:gi ya 167:=enters_of Tryz.func167 k_ rfl
theorem Xi:gi ya 168:=enters_of Tryz.func168 k_ rfl
theorem Xj:gi ya 169:=enters_of Tryz.func169 k_ rfl
theorem Xk:gi ya 170:=enters_of Tryz.func170 k_ rfl
theorem Xl:gi ya 171:=enters_of Tryz.func171 k_ rfl
theorem Xm:gi ya 172:=enters_of Tryz.func172 k_ rfl
theorem Xn:gi ya 173:=enters_of Tryz.func173 k_ rfl
theorem mX:gi ya 174:=enters_of Tryz.func174 k_ rfl
theorem Xo:gi ya 175:=enters_of Tryz.func175 k_ rfl
theorem Xp:gi ya 176:=enters_of Tryz.func176 k_ rfl
theorem Cp:gi ya 177:=enters_of Tryz.func177 k_ rfl
theorem EO:gi ya 178:=enters_of Tryz.func178 k_ rfl
theorem OI:gi ya 179:=enters_of Tryz.func179 k_ rfl
theorem OJ:gi ya 180:=enters_of Tryz.func180 k_ rfl
theorem OK:gi ya 181:=enters_of Tryz.func181 k_ rfl
theorem OL:gi ya 182:=enters_of Tryz.func182 k_ rfl
theorem Xq:gi ya 183:=enters_of Tryz.func183 k_ rfl
theorem Xr:gi ya 184:=enters_of Tryz.func184 k_ rfl
theorem OM:gi ya 185:=enters_of Tryz.func185 k_ rfl
theorem Xs:gi ya 186:=enters_of Tryz.func186 k_ rfl
theorem Xt:gi ya 189:=enters_of Tryz.func189 k_ rfl
theorem Xu:gi ya 190:=enters_of Tryz.func190 k_ rfl
theorem Xv:gi ya 191:=enters_of Tryz.func191 k_ rfl
theorem ON:gi ya 193:=enters_of Tryz.func193 k_ rfl
theorem OO:gi ya 194:=enters_of Tryz.func194 k_ rfl
theorem OP:gi ya 195:=enters_of Tryz.func195 k_ rfl
theorem OQ:gi ya 196:=enters_of Tryz.func196 k_ rfl
theorem OR:gi ya 197:=enters_of Tryz.func197 k_ rfl
theorem OS:gi ya 198:=enters_of Tryz.func198 k_ rfl
theorem Xw:gi ya 199:=enters_of Tryz.func199 k_ rfl
theorem Xy:gi ya 200:=enters_of Tryz.func200 k_ rfl
theorem Xz:gi ya 201:=enters_of Tryz.func201 k_ rfl
theorem lM:gi ya 202:=enters_of Tryz.func202 k_ rfl
theorem Cq:gi ya 203:=enters_of Tryz.func203 k_ rfl
theorem XA:gi ya 204:=enters_of Tryz.func204 k_ rfl
theorem OT:gi ya 206:=enters_of Tryz.func206 k_ rfl
theorem XB:gi ya 207:=enters_of Tryz.func207 k_ rfl
theorem OU:gi ya 208:=enters_of Tryz.func208 k_ rfl
theorem OV:gi ya 209:=enters_of Tryz.func209 k_ rfl
theorem XD:gi ya 212:=enters_of Tryz.func212 k_ rfl
theorem XE:gi ya 222:=enters_of Tryz.func222 k_ rfl
theorem XF:gi ya 223:=enters_of Tryz.func223 k_ rfl
theorem XH:gi ya 231:=enters_of Tryz.func231 k_ rfl
theorem mixed:ya.follows .mixedOrders=true:=by kernel_rfl
instance tt:TT ya:=⟨mixed,[(2,_),(3,_),(4,_),(5,_),(22,_),(23,_),(27,_),(35,_),(39,_),(40,_),(46,_),(51,_),(55,_),(57,_),(61,_),(64,_),(65,_),(67,_),(68,_),(69,_),(71,_),(78,_),(79,_),(80,_),(81,_),(83,_),(87,_),(90,_),(94,_),(96,_),(100,_),(102,_),(107,_),(117,_),(118,_),(120,_),(123,_),(126,_),(128,_),(129,_),(130,_),(132,_),(135,_),(138,_),(139,_),(140,_),(141,_),(143,_),(145,_),(154,_),(156,_),(161,_),(165,_),(179,_),(188,_),(190,_),(192,_),(193,_),(195,_),(200,_),(201,_),(203,_),(211,_),(235,_),(239,_),(247,_),(251,_),(252,_),(253,_),(255,_),(259,_),(269,_),(277,_),(294,_),(298,_),(305,_)],[(2,_,_,_),(3,_,_,_),(4,_,_,_),(5,_,_,_),(23,_,_,_),(27,_,_,_),(28,_,_,_),(35,_,_,_),(39,_,_,_),(40,_,_,_),(46,_,_,_),(51,_,_,_),(55,_,_,_),(57,_,_,_),(61,_,_,_),(64,_,_,_),(65,_,_,_),(67,_,_,_),(68,_,_,_),(69,_,_,_),(71,_,_,_),(78,_,_,_),(79,_,_,_),(80,_,_,_),(81,_,_,_),(83,_,_,_),(87,_,_,_),(94,_,_,_),(96,_,_,_),(100,_,_,_),(102,_,_,_),(107,_,_,_),(115,_,_,_),(117,_,_,_),(118,_,_,_),(120,_,_,_),(121,_,_,_),(123,_,_,_),(126,_,_,_),(128,_,_,_),(129,_,_,_),(130,_,_,_),(132,_,_,_),(135,_,_,_),(138,_,_,_),(139,_,_,_),(140,_,_,_),(141,_,_,_),(143,_,_,_),(145,_,_,_),(154,_,_,_),(156,_,_,_),(161,_,_,_),(165,_,_,_),(179,_,_,_),(190,_,_,_),(192,_,_,_),(193,_,_,_),(195,_,_,_),(200,_,_,_),(201,_,_,_),(203,_,_,_),(211,_,_,_),(218,_,_,_),(235,_,_,_),(242,_,_,_),(244,_,_,_),(245,_,_,_),(247,_,_,_),(251,_,_,_),(252,_,_,_),(253,_,_,_),(255,_,_,_),(259,_,_,_),(265,_,_,_),(269,_,_,_),(271,_,_,_),(274,_,_,_),(277,_,_,_),(294,_,_,_),(305,_,_,_)],⟨vo,yf,nr,Tryz.underlying5,Tryz.underlying22,Dz,yi,GR,uf,y0,y8,GS,Tryz.underlying55,Tryz.underlying57,DB,oB,yd,Tryz.underlying67,Tryz.underlying68,Tryz.underlying69,GU,Tryz.underlying78,GV,Tryz.underlying80,Tryz.underlying81,Tryz.underlying83,Tryz.underlying87,GX,Tryz.underlying94,Tryz.underlying96,GM,Tryz.underlying102,xg,zH,zI,Tryz.underlying120,Tryz.underlying123,Tryz.underlying126,Tryz.underlying128,GN,sD,Tryz.underlying132,Tryz.underlying135,Tryz.underlying138,Tryz.underlying139,sF,yv,Tryz.underlying143,zJ,Tryz.underlying154,Tryz.underlying156,xh,Tryz.underlying165,pZ,Tryz.underlying188,yn,Tryz.underlying192,yh,Tryz.underlying195,Tryz.underlying200,Bn,Tryz.underlying203,Tryz.underlying211,GO,Tryz.underlying239,Tryz.underlying247,Bo,vm,y9,Dy,Tryz.underlying259,zK,Tryz.underlying277,Tryz.underlying294,Tryz.underlying298,Tryz.underlying305,trivial⟩,⟨ti2,gy,ve,ti5,Tx,jx,zF,Gp,afm,TD,ue,Dr,afn,afo,vg,Lq,kg,w5,TE,TF,Dt,TG,Lr,TH,TJ,TK,Du,Lu,Gq,Dk,Td,nS,Dl,Le,Te,Tf,Tg,Th,Lf,Lg,Gi,Ti,Tj,Tk,Gj,Lh,Tm,Tn,To,Tp,Tq,Ts,pY,zB,Tt,Gk,jj,Tu,Li,Gl,Tv,Gm,Lj,Tw,zC,Dm,zD,Ty,Tz,afl,Ll,Lm,Gn,Dp,Ln,Dq,Lo,TA,TB,Lp,TC,trivial⟩⟩
end
section
open Go Go.Sx
theorem Q9(x:Int)(w:World) :
 CR ya 208 (Z8 x) w (fun r w' => r = .bool false/\gA [] w w'):=by
 refine en Tryz.func208 Tryz.ntmps208 ?_
 have a:=yt w
 refine iS a 14 ?_
 refine gp (v:=Zn) Tryz.results208 rfl ?_
 exact⟨rfl,a.gD s_⟩
theorem VU(x y:Int)(w:World) :
 CR ya 194 (Zz x y) w (fun r w' => r = .int .i64 (jd x y)/\gA [] w w'):=by
 refine en Tryz.func194 Tryz.ntmps194 ?_
 have i:=yt w
 refine fR i 8 ?_
 refine cl OU (Q9 x w) ?_
 rintro _ c ⟨rfl,d⟩
 have b:=yq i d
 refine fK b 6 ?_
 refine cl OU (Q9 y c) ?_
 rintro _ f ⟨rfl,e⟩
 have a:=yq b e
 refine fK a 26 ?_
 by_cases g:(x:Int)<(y:Int)
 . refine fQ a 11 ?_
   refine gp (v:=Zw) Tryz.results194 rfl ?_
   exact⟨gr (by simp only[jd];(repeat' split)<;>omega),a.gD s_⟩
 . refine fK a 11 ?_
   by_cases h:(x:Int)>(y:Int)
   . refine fQ a 11 ?_
     refine gp (v:=qH) Tryz.results194 rfl ?_
     exact⟨gr (by simp only[jd];(repeat' split)<;>omega),a.gD s_⟩
   . refine fQ a 12 ?_
     refine gp (v:=Zc) Tryz.results194 rfl ?_
     exact⟨gr (by simp only[jd];(repeat' split)<;>omega),a.gD s_⟩
theorem Q8(x:Int)(w:World) :
 CR ya 209 (Z8 x) w (fun r w' => r = .bool false/\gA [] w w'):=by
 refine en Tryz.func209 Tryz.ntmps209 ?_
 have a:=yt w
 refine iS a 14 ?_
 refine gp (v:=Zn) Tryz.results209 rfl ?_
 exact⟨rfl,a.gD s_⟩
theorem VT(x y:Int)(w:World) :
 CR ya 195 (Zz x y) w (fun r w' => r = .int .i64 (jd x y)/\gA [] w w'):=by
 refine en Tryz.func195 Tryz.ntmps195 ?_
 have i:=yt w
 refine fR i 8 ?_
 refine cl OV (Q8 x w) ?_
 rintro _ c ⟨rfl,d⟩
 have b:=yq i d
 refine fK b 6 ?_
 refine cl OV (Q8 y c) ?_
 rintro _ f ⟨rfl,e⟩
 have a:=yq b e
 refine fK a 26 ?_
 by_cases g:(x:Int)<(y:Int)
 . refine fQ a 11 ?_
   refine gp (v:=Zw) Tryz.results195 rfl ?_
   exact⟨gr (by simp only[jd];(repeat' split)<;>omega),a.gD s_⟩
 . refine fK a 11 ?_
   by_cases h:(x:Int)>(y:Int)
   . refine fQ a 11 ?_
     refine gp (v:=qH) Tryz.results195 rfl ?_
     exact⟨gr (by simp only[jd];(repeat' split)<;>omega),a.gD s_⟩
   . refine fQ a 12 ?_
     refine gp (v:=Zc) Tryz.results195 rfl ?_
     exact⟨gr (by simp only[jd];(repeat' split)<;>omega),a.gD s_⟩
theorem abS(x:Int)(w:World) :
 CR ya 135 (xJ x) w (fun r w' => r = .bool false/\gA [] w w'):=by
 refine en Tryz.func135 Tryz.ntmps135 ?_
 have a:=yt w
 refine iS a 14 ?_
 refine gp (v:=Zn) Tryz.results135 rfl ?_
 exact⟨rfl,a.gD s_⟩
theorem acu(v:Value)(xs:List Int)(w:World)(hv:Ints .i64 (fun _=>True) w v xs) :
 CR ya 193 #[v] w (fun r w' => r = .int .i64 (mo xs)/\gA [] w w'):=by
 have u:=hv.len
 refine en Tryz.func193 Tryz.ntmps193 ?_
 have p:=yt w
 refine fR p 14 ?_
 refine k6 (v:=v) rfl rfl yd hv (gH p 4 ?_)
 refine lp (α:=Nat) (fun k=>[(3,Zc),(6,v),(7,(Za xs.length)),(8,(Za k))]) (fun k w1=>St [(w,[])] [] w1/\k<=xs.length/\∀ j x,j<k->xs[j]? = some x->x=0) (fun k=>xs.length-k) 0 ⟨rfl,rfl,rfl,gr rO,trivial⟩ (⟨p,o_,fun j x h=>absurd h o_⟩) ?_
 rintro k c d ⟨o,t,s⟩
 refine fR o 2 ?_
 by_cases e:((k:Int):Int)<((xs.length:Int):Int)
 . obtain⟨x,q⟩:=pS (show k<xs.length by omega)
   refine fK o 11 ?_
   refine CB (i:=(k:Int)) (el:=x) rfl rfl rfl yd gy (St.Fb o s_ hv) o_ (by rw[show ((k:Nat):Int).toNat=k by omega];exact q) ?_
   intro f g a b l
   have m:=b.i64
   refine ld rfl rfl yf rfl a (fK o 7 ?_)
   by_cases n:(x:Int)=(0:Int)
   . refine fQ o 11 ?_
     refine tN (?_)
     exact again (k+1) ⟨rfl,rfl,rfl,gr rO,trivial⟩ (⟨o,o_,Rx s q o_⟩) (by show (xs.length-(k+1):Nat)<xs.length-k;omega)
   . refine fQ o 16 ?_
     refine gp (v:=(Za x)) GH rfl ?_
     exact⟨gr (Ru s q o_).symm,o.gD s_⟩
 . refine fQ o 17 ?_
   refine gp (v:=Zc) GH rfl ?_
   exact⟨gr (Rv s o_).symm,o.gD s_⟩
theorem C1(a b:gG)(w:World) :
 CR ya 203 #[(MP a),(MP b)] w (fun r w' => r = .int .i64 (qq a b)/\gA [] w w'):=by
 refine en Tryz.func203 Tryz.ntmps203 ?_
 have F:=yt w
 refine fR F 2 ?_
 refine iF F (fun s t u x h=>?_)
 refine iF h (fun z A B C c=>?_)
 refine gH c 4 ?_
 refine kO mixed [([0,1,2,3,5,6,7,8,4],[6,8])] [9,10,11,12] c (fun j d=>jR ?_)
 refine fK d 8 ?_
 refine cl OO (VU a.key b.key j) ?_
 rintro _ k ⟨rfl,l⟩
 have e:=yq d l
 refine fQ e 1 ?_
 refine kJ (kU ?_)
 refine cl OP (VT (a.ix:Int) (b.ix:Int) k) ?_
 rintro _ D ⟨rfl,m⟩
 have n:=yq e m
 refine kj (vs:=(Zp (jd a.key b.key) (jd (a.ix:Int) (b.ix:Int)))) (cs:=(Zp (jd a.key b.key) (jd (a.ix:Int) (b.ix:Int)))) rfl rfl yd gy rfl (by simp[Value.cells]) rfl rfl rfl n (fun o p E G f=>cl ON (acu (xO o) [jd a.key b.key,jd (a.ix:Int) (b.ix:Int)] p (xl f (i:=0) rfl (fun y I=>by simp only[zg,mz,or_false]at I;rcases I with rfl|rfl<;>exact N2 _ _)).any) ?_)
 rintro _ H ⟨rfl,q⟩
 have g:=yq f q
 refine fQ g 4 ?_
 refine gp (v:=(Za (mo [jd a.key b.key,jd (a.ix:Int) (b.ix:Int)]))) Tryz.results203 rfl ?_
 exact⟨gr (Ry a b),g.gD s_⟩
end
section
open Go Go.Sx
theorem Cz(hb n:Nat)(iv pv:Value)(ps:List (Option Nat))(fP:List gG)(pl:List Nat)(w:World)(d:Own (Zj hb n iv pv fP ps pl) w) :
 CR ya 149 (Zh hb) w (fun r w' => r = .bool true/\fZ (Zj hb n iv pv fP ps pl) w w' (Zj hb n iv pv fP ps pl)):=by
 refine en Tryz.func149 Tryz.ntmps149 ?_
 have b:=(yr d).unpack
 refine fR b 8 ?_
 refine nh (a:=some ⟨hb,0,none⟩) (c:=true) rfl rfl rfl GN rfl (fK b 6 ?_)
 refine Cu (a:=⟨hb,0,none⟩) rfl rfl rfl GN Gn (fQ b 5 ?_)
 refine gp (v:=Zf) Tryz.results149 rfl ?_
 exact⟨rfl,yo (yc [_,_,_,_] _ b)⟩
theorem PO(hb n:Nat)(iv pv:Value)(ps:List (Option Nat))(fP:List gG)(pl:List Nat)(w:World)(b:Own (Zj hb n iv pv fP ps pl) w)(i:Nat)(hi:i<n) :
 CR ya 163 (Zm hb i) w (fun r w' => r = .bool true/\fZ (Zj hb n iv pv fP ps pl) w w' (Zj hb n iv pv fP ps pl)):=by
 refine en Tryz.func163 Tryz.ntmps163 ?_
 have a:=(yr b).unpack
 refine fR a 8 ?_
 refine cmp rfl rfl rfl (nY o_) (fK a 6 ?_)
 refine cmp rfl rfl rfl (qo o_) (fQ a 5 ?_)
 refine gp (v:=Zf) Tryz.results163 rfl ?_
 exact⟨rfl,yo (yc [_,_,_,_] _ a)⟩
theorem PU(hb n:Nat)(iv pv:Value)(ps:List (Option Nat))(fP:List gG)(pl:List Nat)(w:World)(l:Own (Zj hb n iv pv fP ps pl) w)(j:jy n ps pl)(i:Nat)(hi:i<n) :
 CR ya 164 (Zm hb i) w (fun r w' => r = .int .i64 (((fJ pl i:Nat):Int)-1)/\fZ (Zj hb n iv pv fP ps pl) w w' (Zj hb n iv pv fP ps pl)):=by
 have m:=j.at hi
 have t:=j.room
 have s:=j.n
 have u:=j.val i
 refine en Tryz.func164 Tryz.ntmps164 ?_
 have h:=(yr l).unpack
 refine fR h 12 ?_
 refine quo (a:=(i:Int)) (b:=64) (e:=((i / 64:Nat):Int)) rfl rfl rfl d_ (wQ 64 o_) (iP (cf:=iA) (k:=(i / 64)) (i:=((i / 64:Nat):Int)) rfl rfl rfl vm Dq (iO h 2 rfl) o_ rfl (gz om) ?_)
 obtain⟨f,d⟩:∃ q,(fJ ps (i / 64))=q:=⟨_,rfl⟩
 refine fK h 8 ?_
 rcases f with _|g
 . skip
   refine uL (a:=(fJ ps (i / 64)).map fun b=>⟨b,0,none⟩) (c:=true) rfl rfl rfl zK (by rw[d];rfl) (fQ h 10 ?_)
   refine gp (v:=Zw) Tryz.results164 rfl ?_
   exact⟨gr (by rw[j.zero (i / 64) ((gz m).trans (congrArg some d)) i rfl];rfl),yo (yc [_,_,_,_] _ h)⟩
 . skip
   refine uL (a:=(fJ ps (i / 64)).map fun b=>⟨b,0,none⟩) (c:=false) rfl rfl rfl zK (by rw[d];rfl) (fK h 9 ?_)
   refine rem (a:=(i:Int)) (b:=64) (e:=((i%64:Nat):Int)) rfl rfl rfl d_ (Da 64) (uV rfl (A8 d) (jL (o:=0) (o' := i%64*1+0) (i:=((i%64:Nat):Int)) rfl rfl rfl GQ gy o_ (by simp only[nt];omega) (ld rfl rfl yf rfl (Br h (i:=3) rfl f_ d_ (by have p:=j.room;first|omega|(simp only[je,gC];omega)) ((gz o_).trans (congrArg some d)) rfl) (fQ h 5 ?_))))
   refine gp (v:=(Za ((((fJ pl i):Nat):Int)-1))) Tryz.results164 rfl ?_
   exact⟨gr o_,yo (yc [_,_,_,_] _ h)⟩
theorem E9(hb n:Nat)(iv pv:Value)(ps:List (Option Nat))(fP:List gG)(pl:List Nat)(w:World)(N:Own (Zj hb n iv pv fP ps pl) w)(F:jy n ps pl)(i:Nat)(hi:i<n)(v:Int)(p:Nat)(hv:v+1=(p:Int))(hp:p<=65536) :
 CR ya 151 (Zr hb i v) w (fun r w' => r = .tuple #[]/\∃ K,K.length=ps.length/\jy n K (je pl i p)/\fZ (Zj hb n iv pv fP ps pl) w w' (Zj hb n iv pv fP K (je pl i p))):=by
 have I:=F.at hi
 have Q:=F.room
 have P:=F.n
 have R:=F.val i
 refine en Tryz.func151 Tryz.ntmps151 ?_
 have G:=(yr N).unpack
 refine fR G 8 ?_
 refine quo (a:=(i:Int)) (b:=64) (e:=((i / 64:Nat):Int)) rfl rfl rfl d_ (wQ 64 o_) ?_
 obtain⟨s,g⟩:∃ q,(fJ ps (i / 64))=q:=⟨_,rfl⟩
 refine fK G 2 ?_
 rcases s with _|t
 . skip
   refine uL (a:=(fJ ps (i / 64)).map fun b=>⟨b,0,none⟩) (c:=true) rfl rfl rfl zK (by rw[g];rfl) (fK G 9 ?_)
   refine quo (a:=(i:Int)) (b:=64) (e:=((i / 64:Nat):Int)) rfl rfl rfl d_ (wQ 64 o_) (iR G (fun d z A B j=>?_))
   refine fK j 1 ?_
   refine iQ (f:=(fun _=>(some d))) 3 j (fun C k=>?_)
   have u:=yg [0,4,1,2,3] k
   have L:ps[i / 64]? = some none:=(gz I).trans (congrArg some g)
   have x:=St.NR u L (F.Vz L)
   have h:=x
   have J:jy n (ps.set (i / 64) (some d)) pl:=F.made
   have H:(ps.set (i / 64) (some d))[i / 64]? = some (some d):=by rw[vE,if_pos rfl,if_pos I]
   have O:i / 64<(ps.set (i / 64) (some d)).length:=by rw[List.length_set];exact I
   refine fK k 8 ?_
   refine quo (a:=(i:Int)) (b:=64) (e:=((i / 64:Nat):Int)) rfl rfl rfl d_ (wQ 64 o_) (fK h 3 ?_)
   refine rem (a:=(i:Int)) (b:=64) (e:=((i%64:Nat):Int)) rfl rfl rfl d_ (Da 64) (fK h 1 ?_)
   refine ar (e:=(p:Int)) rfl rfl rfl rfl (by rw[ox o_];exact hv) (uV rfl (A8 (ij H)) (jL (o:=0) (o' := i%64*1+0) (i:=((i%64:Nat):Int)) rfl rfl rfl GQ gy o_ (by simp only[nt];omega) (rm (f:=(fun _=>p)) (L' := [gN fW 271 64 (ps.set (i / 64) (some d)) (fO pl i (fun _=>p)),blk hb 255 (pP hb n iv pv),fM gG.cells iv 161 2 fP,fM iA pv 269 1 (ps.set (i / 64) (some d))]) 0 rfl rfl rfl rfl gy rfl rfl h rfl f_ d_ (by have M:=F.room;first|omega|(simp only[je,gC];omega)) H rfl rfl rfl (fun D l=>fQ l 1 ?_))))
   refine iZ Tryz.results151 ?_
   have y:=yg [1,2,3,0] l
   exact⟨rfl,ps.set (i / 64) (some d),s_,J.set hi o_ H,yo (yc [_,_,_,_] _ y)⟩
 . skip
   refine uL (a:=(fJ ps (i / 64)).map fun b=>⟨b,0,none⟩) (c:=false) rfl rfl rfl zK (by rw[g];rfl) ?_
   have J:=F
   have H:ps[i / 64]? = some (some t):=(gz I).trans (congrArg some g)
   have O:=I
   refine fK G 11 ?_
   refine quo (a:=(i:Int)) (b:=64) (e:=((i / 64:Nat):Int)) rfl rfl rfl d_ (wQ 64 o_) (fK G 3 ?_)
   refine rem (a:=(i:Int)) (b:=64) (e:=((i%64:Nat):Int)) rfl rfl rfl d_ (Da 64) (fK G 1 ?_)
   refine ar (e:=(p:Int)) rfl rfl rfl rfl (by rw[ox o_];exact hv) (uV rfl (A8 g) (jL (o:=0) (o' := i%64*1+0) (i:=((i%64:Nat):Int)) rfl rfl rfl GQ gy o_ (by simp only[nt];omega) (rm (f:=(fun _=>p)) (L' := (HO hb n iv pv fP ps (fO pl i (fun _=>p)))) 3 rfl rfl rfl rfl gy rfl rfl G rfl f_ d_ (by have M:=F.room;first|omega|(simp only[je,gC];omega)) H rfl rfl rfl (fun E m=>fQ m 1 ?_))))
   refine iZ Tryz.results151 ?_
   exact⟨rfl,ps,s_,J.set hi o_ H,yo (yc [_,_,_,_] _ m)⟩
end
section
open Go Go.Sx
theorem Jd(hb n:Nat)(iv pv:Value)(ps:List (Option Nat))(fP:List gG)(pl:List Nat)(w:World)(B:Own (Zj hb n iv pv fP ps pl) w)(z:Hp n fP pl)(y:jy n ps pl)(p q:Nat)(hp:p<fP.length)(F:q<fP.length) :
 CR ya 150 (Zr hb p q) w (fun r w' => r = .tuple #[]/\∃ x,x.length=ps.length/\jy n x (je (je pl (fJ (iI fP p q) p).ix (p+1)) (fJ (iI fP p q) q).ix (q+1))/\fZ (Zj hb n iv pv fP ps pl) w w' (Zj hb n iv pv (iI fP p q) x (je (je pl (fJ (iI fP p q) p).ix (p+1)) (fJ (iI fP p q) q).ix (q+1)))):=by
 have L:=y.n
 have K:=z.len
 have G:=mQ fP p q
 have A:∀ j,j<fP.length->(fJ (iI fP p q) j).ix<n:=fun j E=>(z.swap hp F).ix j (by rw[G];exact E)
 refine en Tryz.func150 Tryz.ntmps150 ?_
 have H:=(yr B).unpack
 refine q7 H 27 fun m h=>?_
 refine iQ (f:=(fun _=>(fJ fP q))) 1 h (fun o a=>?_)
 refine fK a 1 ?_
 refine iQ (f:=(fun _=>(fJ fP p))) 1 a (fun i b=>?_)
 have k:=b
 have c:=yc [_,_,_,_] _ k
 refine fK b 14 ?_
 refine cl EL (E9 hb n iv pv ps (iI fP p q) pl i (ye c 0 rfl) y ((fJ (iI fP p q) p).ix) (A _ (by assumption)) (p:Int) (p+1) o_ o_) ?_
 rintro _ l ⟨rfl,I,s,C,v⟩
 have d:=(ym c v)
 have e:=yc [_,_,_,_] _ d
 refine fK d 13 ?_
 refine cl EL (E9 hb n iv pv I (iI fP p q) (je pl ((fJ (iI fP p q) p).ix) (p+1)) l (ye e 0 rfl) C ((fJ (iI fP p q) q).ix) (A _ (by assumption)) (q:Int) (q+1) o_ o_) ?_
 rintro _ t ⟨rfl,J,u,D,v⟩
 have g:=(ym e v)
 refine fQ g 1 ?_
 refine iZ Tryz.results150 ?_
 exact⟨rfl,J,o_,D,yo (yc [_,_,_,_] _ g)⟩
theorem PK(hb n:Nat)(iv pv:Value)(ps:List (Option Nat))(fP:List gG)(pl:List Nat)(w:World)(m:Own (Zj hb n iv pv fP ps pl) w)(q:Hp n fP pl)(o:jy n ps pl)(p:Nat)(hp:p<fP.length) :
 CR ya 180 (Zm hb p) w (fun r w' => r = .int .i64 (rP fP p)/\fZ (Zj hb n iv pv fP ps pl) w w' (Zj hb n iv pv fP ps pl)):=by
 have t:=o.n
 have s:=q.len
 have u:pa p<fP.length:=by simp only[pa];omega
 refine en Tryz.func180 Tryz.ntmps180 ?_
 have l:=(yr m).unpack
 refine fR l 9 ?_
 refine quo (a:=(p:Int)-1) (b:=2) (e:=((pa p:Nat):Int)) rfl rfl rfl d_ (paN o_) (gO l 7 fun g c=>?_)
 by_cases h:((p:Int):Int)>(0:Int)
 . refine fK c 16 ?_
   refine cl Cq (C1 (fJ fP p) (fJ fP (pa p)) g) ?_
   rintro _ j ⟨rfl,i⟩
   have d:=yq c i
   by_cases f:(qq (fJ fP p) (fJ fP (pa p)):Int)<(0:Int)
   . refine fQ d 13 ?_
     refine gp (v:=(Za ((pa p:Nat):Int))) Tryz.results180 rfl ?_
     exact⟨gr (by unfold rP;rw[if_pos (show 0<p/\iC (fJ fP p) (fJ fP (pa p)) from⟨o_,oe.1 f⟩)]),yo (yc [_,_,_,_] _ d)⟩
   . refine fQ d 13 ?_
     refine gp (v:=Zw) Tryz.results180 rfl ?_
     exact⟨gr (by unfold rP;rw[if_neg (show ¬ (0<p/\iC (fJ fP p) (fJ fP (pa p))) from fun k=>f (oe.2 k.2))]),yo (yc [_,_,_,_] _ d)⟩
 . refine fQ c 30 ?_
   refine gp (v:=Zw) Tryz.results180 rfl ?_
   exact⟨gr (by unfold rP;rw[if_neg (show ¬ (0<p/\iC (fJ fP p) (fJ fP (pa p))) from fun k=>h o_)]),yo (yc [_,_,_,_] _ c)⟩
theorem PN(hb n:Nat)(iv pv:Value)(ps:List (Option Nat))(fP:List gG)(pl:List Nat)(w:World)(Q:Own (Zj hb n iv pv fP ps pl) w)(S:Hp n fP pl)(R:jy n ps pl)(p:Nat)(hp:p<fP.length) :
 CR ya 181 (Zm hb p) w (fun r w' => r = .int .i64 (nX fP p)/\fZ (Zj hb n iv pv fP ps pl) w w' (Zj hb n iv pv fP ps pl)):=by
 have U:=R.n
 have T:=S.len
 refine en Tryz.func181 Tryz.ntmps181 ?_
 have P:=(yr Q).unpack
 refine s9 P 18 ?_
 refine ru 3 (iD (fR P 20 ?_))
 refine ar (e:=((2*p:Nat):Int)) rfl rfl rfl rfl i7 (ar (e:=((2*p+1:Nat):Int)) rfl rfl rfl rfl i7 (fK P 1 ?_))
 refine ar (e:=((2*p+1:Nat):Int)) rfl rfl rfl rfl i7 (gO P 10 fun s g=>?_)
 refine jm (m:=fP.length) 1 rfl rfl y9 g rfl ?_
 by_cases k:(((2*p+1:Nat):Int):Int)<((fP.length:Int):Int)
 . refine fK g 16 ?_
   refine cl Cq (C1 (fJ fP (2*p+1)) (fJ fP p) s) ?_
   rintro _ G ⟨rfl,t⟩
   have b:=yq g t
   by_cases h:(qq (fJ fP (2*p+1)) (fJ fP p):Int)<(0:Int)
   . refine fQ b 15 ?_
     refine tN (?_)
     refine iD (fR b 20 ?_)
     refine ar (e:=((2*p:Nat):Int)) rfl rfl rfl rfl i7 (ar (e:=((2*p+1:Nat):Int)) rfl rfl rfl rfl i7 (fK b 1 ?_))
     refine ar (e:=((2*p+2:Nat):Int)) rfl rfl rfl rfl i7 (gO b 10 fun u c=>?_)
     refine jm (m:=fP.length) 1 rfl rfl y9 c rfl ?_
     by_cases x:(((2*p+2:Nat):Int):Int)<((fP.length:Int):Int)
     . refine fK c 16 ?_
       refine cl Cq (C1 (fJ fP (2*p+2)) (fJ fP (2*p+1)) u) ?_
       rintro _ H ⟨rfl,y⟩
       have a:=yq c y
       by_cases l:(qq (fJ fP (2*p+2)) (fJ fP (2*p+1)):Int)<(0:Int)
       . refine fQ a 15 ?_
         refine tN (?_)
         refine iD (fR a 17 ?_)
         by_cases I:(((2*p+2:Nat):Int):Int)=((p:Int):Int)
         . refine fQ a 11 ?_
           refine gp (v:=Zw) qy rfl ?_
           exact(show False by omega).elim
         . refine fQ a 13 ?_
           refine gp (v:=(Za ((2*p+2:Nat):Int))) qy rfl ?_
           exact⟨gr (by unfold nX jE;simp only;rw[if_pos (show 2*p+1<fP.length/\iC (fJ fP (2*p+1)) (fJ fP p) from⟨o_,oe.1 h⟩),if_pos (show 2*p+2<fP.length/\iC (fJ fP (2*p+2)) (fJ fP (2*p+1)) from⟨o_,oe.1 l⟩),if_neg o_]),yo (yc [_,_,_,_] _ a)⟩
       . refine fQ a 12 ?_
         refine tN (?_)
         refine iD (fR a 17 ?_)
         by_cases J:(((2*p+1:Nat):Int):Int)=((p:Int):Int)
         . refine fQ a 11 ?_
           refine gp (v:=Zw) qy rfl ?_
           exact(show False by omega).elim
         . refine fQ a 13 ?_
           refine gp (v:=(Za ((2*p+1:Nat):Int))) qy rfl ?_
           exact⟨gr (by unfold nX jE;simp only;rw[if_pos (show 2*p+1<fP.length/\iC (fJ fP (2*p+1)) (fJ fP p) from⟨o_,oe.1 h⟩),if_neg (show ¬ (2*p+2<fP.length/\iC (fJ fP (2*p+2)) (fJ fP (2*p+1))) from fun F=>l (oe.2 F.2)),if_neg o_]),yo (yc [_,_,_,_] _ a)⟩
     . refine fQ c 29 ?_
       refine tN (?_)
       refine iD (fR c 17 ?_)
       by_cases K:(((2*p+1:Nat):Int):Int)=((p:Int):Int)
       . refine fQ c 11 ?_
         refine gp (v:=Zw) qy rfl ?_
         exact(show False by omega).elim
       . refine fQ c 13 ?_
         refine gp (v:=(Za ((2*p+1:Nat):Int))) qy rfl ?_
         exact⟨gr (by unfold nX jE;simp only;rw[if_pos (show 2*p+1<fP.length/\iC (fJ fP (2*p+1)) (fJ fP p) from⟨o_,oe.1 h⟩),if_neg (show ¬ (2*p+2<fP.length/\iC (fJ fP (2*p+2)) (fJ fP (2*p+1))) from fun F=>x o_),if_neg o_]),yo (yc [_,_,_,_] _ c)⟩
   . refine fQ b 12 ?_
     refine tN (?_)
     refine iD (fR b 20 ?_)
     refine ar (e:=((2*p:Nat):Int)) rfl rfl rfl rfl i7 (ar (e:=((2*p+1:Nat):Int)) rfl rfl rfl rfl i7 (fK b 1 ?_))
     refine ar (e:=((2*p+2:Nat):Int)) rfl rfl rfl rfl i7 (gO b 10 fun z i=>?_)
     refine jm (m:=fP.length) 1 rfl rfl y9 i rfl ?_
     by_cases A:(((2*p+2:Nat):Int):Int)<((fP.length:Int):Int)
     . refine fK i 16 ?_
       refine cl Cq (C1 (fJ fP (2*p+2)) (fJ fP p) z) ?_
       rintro _ L ⟨rfl,B⟩
       have d:=yq i B
       by_cases o:(qq (fJ fP (2*p+2)) (fJ fP p):Int)<(0:Int)
       . refine fQ d 15 ?_
         refine tN (?_)
         refine iD (fR d 17 ?_)
         by_cases M:(((2*p+2:Nat):Int):Int)=((p:Int):Int)
         . refine fQ d 11 ?_
           refine gp (v:=Zw) qy rfl ?_
           exact(show False by omega).elim
         . refine fQ d 13 ?_
           refine gp (v:=(Za ((2*p+2:Nat):Int))) qy rfl ?_
           exact⟨gr (by unfold nX jE;simp only;rw[if_neg (show ¬ (2*p+1<fP.length/\iC (fJ fP (2*p+1)) (fJ fP p)) from fun F=>h (oe.2 F.2)),if_pos (show 2*p+2<fP.length/\iC (fJ fP (2*p+2)) (fJ fP p) from⟨o_,oe.1 o⟩),if_neg o_]),yo (yc [_,_,_,_] _ d)⟩
       . refine fQ d 12 ?_
         refine tN (?_)
         refine iD (iS d 28 ?_)
         refine gp (v:=Zw) qy rfl ?_
         exact⟨gr (by unfold nX jE;simp only;rw[if_neg (show ¬ (2*p+1<fP.length/\iC (fJ fP (2*p+1)) (fJ fP p)) from fun F=>h (oe.2 F.2)),if_neg (show ¬ (2*p+2<fP.length/\iC (fJ fP (2*p+2)) (fJ fP p)) from fun F=>o (oe.2 F.2)),if_pos rfl]),yo (yc [_,_,_,_] _ d)⟩
     . refine fQ i 29 ?_
       refine tN (?_)
       refine iD (iS i 28 ?_)
       refine gp (v:=Zw) qy rfl ?_
       exact⟨gr (by unfold nX jE;simp only;rw[if_neg (show ¬ (2*p+1<fP.length/\iC (fJ fP (2*p+1)) (fJ fP p)) from fun F=>h (oe.2 F.2)),if_neg (show ¬ (2*p+2<fP.length/\iC (fJ fP (2*p+2)) (fJ fP p)) from fun F=>A o_),if_pos rfl]),yo (yc [_,_,_,_] _ i)⟩
 . refine fQ g 29 ?_
   refine tN (?_)
   refine iD (fR g 20 ?_)
   refine ar (e:=((2*p:Nat):Int)) rfl rfl rfl rfl i7 (ar (e:=((2*p+1:Nat):Int)) rfl rfl rfl rfl i7 (fK g 1 ?_))
   refine ar (e:=((2*p+2:Nat):Int)) rfl rfl rfl rfl i7 (gO g 10 fun C j=>?_)
   refine jm (m:=fP.length) 1 rfl rfl y9 j rfl ?_
   by_cases D:(((2*p+2:Nat):Int):Int)<((fP.length:Int):Int)
   . refine fK j 16 ?_
     refine cl Cq (C1 (fJ fP (2*p+2)) (fJ fP p) C) ?_
     rintro _ N ⟨rfl,E⟩
     have f:=yq j E
     by_cases q:(qq (fJ fP (2*p+2)) (fJ fP p):Int)<(0:Int)
     . refine fQ f 15 ?_
       refine tN (?_)
       refine iD (fR f 17 ?_)
       by_cases O:(((2*p+2:Nat):Int):Int)=((p:Int):Int)
       . refine fQ f 11 ?_
         refine gp (v:=Zw) qy rfl ?_
         exact(show False by omega).elim
       . refine fQ f 13 ?_
         refine gp (v:=(Za ((2*p+2:Nat):Int))) qy rfl ?_
         exact⟨gr (by unfold nX jE;simp only;rw[if_neg (show ¬ (2*p+1<fP.length/\iC (fJ fP (2*p+1)) (fJ fP p)) from fun F=>k o_),if_pos (show 2*p+2<fP.length/\iC (fJ fP (2*p+2)) (fJ fP p) from⟨o_,oe.1 q⟩),if_neg o_]),yo (yc [_,_,_,_] _ f)⟩
     . refine fQ f 12 ?_
       refine tN (?_)
       refine iD (iS f 28 ?_)
       refine gp (v:=Zw) qy rfl ?_
       exact⟨gr (by unfold nX jE;simp only;rw[if_neg (show ¬ (2*p+1<fP.length/\iC (fJ fP (2*p+1)) (fJ fP p)) from fun F=>k o_),if_neg (show ¬ (2*p+2<fP.length/\iC (fJ fP (2*p+2)) (fJ fP p)) from fun F=>q (oe.2 F.2)),if_pos rfl]),yo (yc [_,_,_,_] _ f)⟩
   . refine fQ j 29 ?_
     refine tN (?_)
     refine iD (iS j 28 ?_)
     refine gp (v:=Zw) qy rfl ?_
     exact⟨gr (by unfold nX jE;simp only;rw[if_neg (show ¬ (2*p+1<fP.length/\iC (fJ fP (2*p+1)) (fJ fP p)) from fun F=>k o_),if_neg (show ¬ (2*p+2<fP.length/\iC (fJ fP (2*p+2)) (fJ fP p)) from fun F=>D o_),if_pos rfl]),yo (yc [_,_,_,_] _ j)⟩
end
section
open Go Go.Sx
theorem aeB(D E hb n:Nat)(iv pv:Value)(ps:List (Option Nat))(fP:List gG)(pl:List Nat)(p:Nat)(w:World)(R:Own (vP D p E hb n iv pv fP ps pl) w)(T:Hp n fP pl)(S:jy n ps pl)(hp:p<fP.length)(Q:tA fP p) :
 CR ya 179 #[(MQ hb),(Zb D),(Zb E)] w (fun r w' => r = .tuple #[]/\∃ (p2:Nat),∃ C ys B,oF n fP ys ps C B/\p2<ys.length/\uu ys p2/\fZ (vP D p E hb n iv pv fP ps pl) w w' (vP D p2 E hb n iv pv ys C B)):=by
 refine en Tryz.func179 Tryz.ntmps179 ?_
 have N:=(yr R).unpack
 have K:=oF.refl T S
 have i:=yg [2,3,4,5,0,1] N
 have b:=yc [_,_,_,_] _ i
 refine fR N 4 ?_
 refine qp (fi:=(Zi hb)) (ca:=[]) rfl rfl rfl OJ (PK hb n iv pv ps fP pl w (ye b 0 rfl) K.hp K.gK p (by first|omega|(rw[mQ];omega))) ?_
 rintro _ x ⟨rfl,G⟩
 have c:=(ym b G)
 have j:=yg [4,5,0,1,2,3] c
 refine gH c 4 ?_
 refine lp (α:=List gG×List (Option Nat)×List Nat×Nat×Int) (fun(ys,C,B,p2,q)=>[(0,(MQ hb)),(1,(Zb D)),(2,(Zb E)),(4,(Za q))]) (fun(ys,C,B,p2,q) w1=>St [(w,(vP D p E hb n iv pv fP ps pl).gJ)] (HP D p2 E hb n iv pv ys C B) w1/\oF n fP ys ps C B/\p2<ys.length/\tA ys p2/\q=rP ys p2) (fun(ys,C,B,p2,q)=>p2) (fP,ps,pl,p,(rP fP p)) ⟨rfl,rfl,rfl,gr rO,trivial⟩ (⟨j,K,hp,Q,rfl⟩) ?_
 rintro⟨ys,C,B,p2,q⟩ y k ⟨F,H,M,L,J⟩
 refine fR F 4 ?_
 by_cases d:(q:Int)=(-1:Int)
 . have U:=L.stop (UI (J.symm.trans d))
   refine fQ F 8 ?_
   refine iZ Tryz.results179 ?_
   exact⟨rfl,p2,C,ys,B,H,M,U,yo (yc [_,_,_,_,_,_] _ F)⟩
 . have I:=UH (fun P=>@d (J.trans P))
   refine fK F 1 ?_
   obtain rfl:q=((pa p2:Nat):Int):=J.trans I.1
   have O:=I.2.1
   have V:pa p2<ys.length:=by simp only[pa];omega
   have l:=yg [2,3,4,5,0,1] F
   have e:=yc [_,_,_,_] _ l
   refine fK F 12 ?_
   refine cl IK (Jd hb n iv pv C ys B k (ye e 0 rfl) H.hp H.gK p2 (pa p2) o_ o_) ?_
   rintro _ z ⟨rfl,f,m,o,G⟩
   have s:=(ym e G)
   have a:=H.swap (p:=p2) (q:=(pa p2)) o_ o_ m o
   refine gO s 11 fun t u=>?_
   have g:=yc [_,_,_,_] _ u
   refine qp (fi:=(Zi hb)) (ca:=[]) rfl rfl rfl OJ (PK hb n iv pv f (iI ys p2 (pa p2)) (je (je B (fJ (iI ys p2 (pa p2)) p2).ix (p2+1)) (fJ (iI ys p2 (pa p2)) (pa p2)).ix ((pa p2)+1)) t (ye g 0 rfl) a.hp a.gK (pa p2) (by first|omega|(rw[mQ];omega))) ?_
   rintro _ A ⟨rfl,G⟩
   have h:=(ym g G)
   refine fQ h 2 ?_
   refine tN (?_)
   have v:=yg [4,5,0,1,2,3] h
   exact again (iI ys p2 (pa p2),f,je (je B (fJ (iI ys p2 (pa p2)) p2).ix (p2+1)) (fJ (iI ys p2 (pa p2)) (pa p2)).ix ((pa p2)+1),(pa p2),rP (iI ys p2 (pa p2)) (pa p2)) ⟨rfl,rfl,rfl,gr rO,trivial⟩ (⟨v,a,by rw[mQ];omega,L.up O M I.2.2,rfl⟩) (by show pa p2<p2;simp only[pa];omega)
theorem aeA(D E hb n:Nat)(iv pv:Value)(ps:List (Option Nat))(fP:List gG)(pl:List Nat)(p:Nat)(w:World)(P:Own (vP D p E hb n iv pv fP ps pl) w)(R:Hp n fP pl)(Q:jy n ps pl)(hp:p<fP.length)(O:uu fP p) :
 CR ya 179 #[(MR hb),(Zb D),(Zb E)] w (fun r w' => r = .tuple #[]/\∃ (p2:Nat),∃ C ys B,oF n fP ys ps C B/\p2<ys.length/\Ord ys/\fZ (vP D p E hb n iv pv fP ps pl) w w' (vP D p2 E hb n iv pv ys C B)):=by
 refine en Tryz.func179 Tryz.ntmps179 ?_
 have M:=(yr P).unpack
 have K:=oF.refl R Q
 have i:=yg [2,3,4,5,0,1] M
 have b:=yc [_,_,_,_] _ i
 refine fR M 4 ?_
 refine qp (fi:=(Zi hb)) (ca:=[]) rfl rfl rfl OK (PN hb n iv pv ps fP pl w (ye b 0 rfl) K.hp K.gK p (by first|omega|(rw[mQ];omega))) ?_
 rintro _ x ⟨rfl,G⟩
 have c:=(ym b G)
 have j:=yg [4,5,0,1,2,3] c
 refine gH c 4 ?_
 refine lp (α:=List gG×List (Option Nat)×List Nat×Nat×Int) (fun(ys,C,B,p2,q)=>[(0,(MR hb)),(1,(Zb D)),(2,(Zb E)),(4,(Za q))]) (fun(ys,C,B,p2,q) w1=>St [(w,(vP D p E hb n iv pv fP ps pl).gJ)] (HP D p2 E hb n iv pv ys C B) w1/\oF n fP ys ps C B/\p2<ys.length/\uu ys p2/\q=nX ys p2) (fun(ys,C,B,p2,q)=>ys.length-p2) (fP,ps,pl,p,(nX fP p)) ⟨rfl,rfl,rfl,gr rO,trivial⟩ (⟨j,K,hp,O,rfl⟩) ?_
 rintro⟨ys,C,B,p2,q⟩ y k ⟨F,H,T,L,J⟩
 refine fR F 4 ?_
 by_cases d:(q:Int)=(-1:Int)
 . have U:=L.stop (Vd (J.symm.trans d))
   refine fQ F 8 ?_
   refine iZ Tryz.results179 ?_
   exact⟨rfl,p2,C,ys,B,H,T,U,yo (yc [_,_,_,_,_,_] _ F)⟩
 . have I:=Vc (fun N=>@d (J.trans N))
   refine fK F 1 ?_
   obtain rfl:q=((jE ys p2:Nat):Int):=J.trans I.1
   have S:=NA I.2
   have V:=S.1
   have l:=yg [2,3,4,5,0,1] F
   have e:=yc [_,_,_,_] _ l
   refine fK F 12 ?_
   refine cl IK (Jd hb n iv pv C ys B k (ye e 0 rfl) H.hp H.gK p2 (jE ys p2) o_ o_) ?_
   rintro _ z ⟨rfl,f,m,o,G⟩
   have s:=(ym e G)
   have a:=H.swap (p:=p2) (q:=(jE ys p2)) o_ o_ m o
   refine gO s 11 fun t u=>?_
   have g:=yc [_,_,_,_] _ u
   refine qp (fi:=(Zi hb)) (ca:=[]) rfl rfl rfl OK (PN hb n iv pv f (iI ys p2 (jE ys p2)) (je (je B (fJ (iI ys p2 (jE ys p2)) p2).ix (p2+1)) (MM ys p2).ix ((jE ys p2)+1)) t (ye g 0 rfl) a.hp a.gK (jE ys p2) (by first|omega|(rw[mQ];omega))) ?_
   rintro _ A ⟨rfl,G⟩
   have h:=(ym g G)
   refine fQ h 2 ?_
   refine tN (?_)
   have v:=yg [4,5,0,1,2,3] h
   exact again (iI ys p2 (jE ys p2),f,je (je B (fJ (iI ys p2 (jE ys p2)) p2).ix (p2+1)) (MM ys p2).ix ((jE ys p2)+1),(jE ys p2),nX (iI ys p2 (jE ys p2)) (jE ys p2)) ⟨rfl,rfl,rfl,gr rO,trivial⟩ (⟨v,a,by rw[mQ];omega,L.down rfl I.2,rfl⟩) (by show (iI ys p2 (jE ys p2)).length-jE ys p2<ys.length-p2;rw[mQ];omega)
theorem SN(hb n:Nat)(iv pv:Value)(ps:List (Option Nat))(fP:List gG)(pl:List Nat)(w:World)(R:Own (Zj hb n iv pv fP ps pl) w)(T:Hp n fP pl)(S:jy n ps pl)(p:Nat)(hp:p<fP.length)(Q:tA fP p) :
 CR ya 152 (Zm hb p) w (fun r w' => r = .tuple #[]/\∃ O ys P,oF n fP ys ps O P/\Ord ys/\fZ (Zj hb n iv pv fP ps pl) w w' (Zj hb n iv pv ys O P)):=by
 refine en Tryz.func152 Tryz.ntmps152 ?_
 have N:=(yr R).unpack
 have F:=oF.refl T S
 refine fR N 2 ?_
 refine iF N (fun a C D E i=>?_)
 refine iF i (fun b j G H c=>?_)
 refine fK c 4 ?_
 refine oc (vf:=[]) (vc:=(qI b a)) rfl rfl rfl (fK c 7 ?_)
 refine oc (vf:=(Zi hb)) (vc:=[]) rfl rfl rfl ?_
 have e:=yc [_,_,_,_,_,_] _ c
 refine qp (fi:=[]) (ca:=(qI b a)) rfl rfl rfl OI (aeB b a hb n iv pv ps fP pl p j (ye e 0 rfl) F.hp F.gK (by first|assumption|omega) Q) ?_
 rintro _ k ⟨rfl,l,m,o,q,s,I,t,M⟩
 have f:=(ym e M)
 have d:=F.trans s
 refine fK f 5 ?_
 refine oc (vf:=(Zi hb)) (vc:=[]) rfl rfl rfl ?_
 have g:=yc [_,_,_,_,_,_] _ f
 refine qp (fi:=[]) (ca:=(qI b a)) rfl rfl rfl OI (aeA b a hb n iv pv m o q l k (ye g 0 rfl) d.hp d.gK (by first|assumption|omega) t) ?_
 rintro _ J ⟨rfl,K,u,v,x,y,L,z,M⟩
 have h:=(ym g M)
 have A:=d.trans y
 refine fQ h 1 ?_
 refine iZ Tryz.results152 ?_
 have B:=yg [2,3,4,5,0,1] h
 exact⟨rfl,u,v,x,A,z,yo (yc [_,_,_,_] _ B)⟩
end
section
open Go Go.Sx
theorem ZH(hb n:Nat)(iv pv:Value)(ps:List (Option Nat))(fP:List gG)(pl:List Nat)(w:World)(o:Own (Zj hb n iv pv fP ps pl) w)(p:Hp n fP pl)(l:jy n ps pl)(i:Nat)(hi:i<n)(q:fJ pl i=0) :
 CR ya 162 (Zm hb i) w (fun r w' => r = .tuple #[.int .i64 0,.int .i64 5]/\fZ (Zj hb n iv pv fP ps pl) w w' (Zj hb n iv pv fP ps pl)):=by
 have t:=l.n
 have s:=p.len
 have u:=l.val i
 refine en Tryz.func162 Tryz.ntmps162 ?_
 have m:=(yr o).unpack
 have a:=yc [_,_,_,_] _ m
 refine fR m 11 ?_
 refine cl Co (Cz hb n iv pv ps fP pl w (ye a 0 rfl)) ?_
 rintro _ g ⟨rfl,k⟩
 have b:=(ym a k)
 have c:=yc [_,_,_,_] _ b
 refine fK b 9 ?_
 refine cl OE (PO hb n iv pv ps fP pl g (ye c 0 rfl) i o_) ?_
 rintro _ h ⟨rfl,k⟩
 have d:=(ym c k)
 have e:=yc [_,_,_,_] _ d
 refine fK d 9 ?_
 refine cl OG (PU hb n iv pv ps fP pl h (ye e 0 rfl) l i o_) ?_
 rintro _ j ⟨rfl,k⟩
 have f:=(ym e k)
 refine cmp rfl rfl rfl (rR o_) (fQ f 13 ?_)
 refine iH (v:=Zc) (v' := (.int .i64 5)) Tryz.results162 rfl rfl ?_
 exact⟨rfl,yo (yc [_,_,_,_] _ f)⟩
theorem ZI(hb n:Nat)(iv pv:Value)(ps:List (Option Nat))(fP:List gG)(pl:List Nat)(w:World)(h:Own (Zj hb n iv pv fP ps pl) w)(e:Hp n fP pl)(d:jy n ps pl)(i:Nat)(hi:i<n)(g:fJ pl i=0) :
 CR ya 161 (Zm hb i) w (fun r w' => r = .tuple Hz/\fZ (Zj hb n iv pv fP ps pl) w w' (Zj hb n iv pv fP ps pl)):=by
 have l:=d.n
 have k:=e.len
 have m:=d.val i
 refine en Tryz.func161 Tryz.ntmps161 ?_
 have f:=(yr h).unpack
 have a:=yc [_,_,_,_] _ f
 refine fR f 10 ?_
 refine cl Xf (ZH hb n iv pv ps fP pl w (ye a 0 rfl) e d i hi g) ?_
 rintro _ c ⟨rfl,j⟩
 have b:=(ym a j)
 refine fQ b 23 ?_
 refine iH (v:=Zc) (v' := Zn) Tryz.results161 rfl rfl ?_
 exact⟨rfl,yo (yc [_,_,_,_] _ b)⟩
theorem ZQ(hb n:Nat)(iv pv:Value)(ps:List (Option Nat))(fP:List gG)(pl:List Nat)(w:World)(Y:Own (Zj hb n iv pv fP ps pl) w)(T:Hp n fP pl)(Q:jy n ps pl)(Z:Ord fP)(i:Nat)(hi:i<n)(W:fJ pl i=0)(key:Int)(hk:gZ .i64 key) :
 CR ya 124 (Zr hb i key) w (fun r w' => r = .int .i64 0/\∃ jv R ys S,Hp n ys S/\jy n R S/\Ord ys/\(∀ e,e∈ys↔e∈fP\/e=⟨i,key⟩)/\R.length=ps.length/\ys.length=fP.length+1/\fZ (Zj hb n iv pv fP ps pl) w w' (Zj hb n jv pv ys R S)):=by
 have af:=Q.n
 have ae:=T.len
 have ag:=Q.val i
 have U:=T.push hi W hk
 have ad:fP.length+1<=n:=by have X:=U.len;simpa using X
 refine en Tryz.func124 Tryz.ntmps124 ?_
 have V:=(yr Y).unpack
 have f:=yc [_,_,_,_] _ V
 refine fR V 10 ?_
 refine cl Co (Cz hb n iv pv ps fP pl w (ye f 0 rfl)) ?_
 rintro _ u ⟨rfl,F⟩
 have g:=(ym f F)
 have h:=yc [_,_,_,_] _ g
 refine fK g 9 ?_
 refine cl OE (PO hb n iv pv ps fP pl u (ye h 0 rfl) i o_) ?_
 rintro _ y ⟨rfl,F⟩
 have j:=(ym h F)
 have k:=yc [_,_,_,_] _ j
 refine fK j 9 ?_
 refine cl OG (PU hb n iv pv ps fP pl y (ye k 0 rfl) Q i o_) ?_
 rintro _ J ⟨rfl,F⟩
 have c:=(ym k F)
 refine cmp rfl rfl rfl (oW o_) (fK c 13 ?_)
 refine jm (m:=fP.length) 1 rfl rfl y9 c rfl (fK c 12 ?_)
 refine ji (pvs:=[(0,(Za i)),(1,(Za key))]) (v:=.agg (Zz i key)) rfl rfl (jA [(0,(Ze i)),(1,(Ze key))] pY RM rfl ⟨rfl,rfl,rfl,rfl,trivial⟩ rfl) (kj (vs:=(HM i key)) (cs:=(Zp i key)) rfl rfl y9 pY rfl (by simp[Value.cells]) rfl rfl rfl c (fun z K L M l=>mW (cf:=gG.cells) (ys:=fP) (zs:=[(⟨i,key⟩:gG)]) (LL:=fun a=>[row (Z6 z) 161 2 1 ((Zp i key)),blk hb 255 (pP hb n iv pv),fM gG.cells a 161 2 (fP++[(⟨i,key⟩:gG)]),fM iA pv 269 1 ps,gN fW 271 64 ps pl]) 2 rfl rfl rfl y9 pY rfl d_ l rfl (l7 l (i:=0) rfl) (fun x hx=>zt.1 (show List.all _ _=true from rfl) x hx) (by simp only[zh,zn];omega) (by simp only[zh,zn];omega) f_ ?_))
 intro a N A O
 have d:=yg [1,2,3,4] A
 refine fK d 2 ?_
 refine j8 0 d (fun B o=>?_) (hvs:=(cells_one (yu d (i:=1) rfl))) (h1:=(ic (yu d (i:=1) rfl) lB))
 have p:=yc [_,_,_,_] _ o
 refine fK o 7 ?_
 refine cl EL (E9 hb n a pv ps (fP++[(⟨i,key⟩:gG)]) pl B (ye p 0 rfl) Q i hi (fP.length:Int) (fP.length+1) o_ o_) ?_
 rintro _ C ⟨rfl,ac,D,aa,F⟩
 have q:=(ym p F)
 have ab:=aa
 have s:=yc [_,_,_,_] _ q
 refine fK q 6 ?_
 refine cl OA (SN hb n a pv ac (fP++[(⟨i,key⟩:gG)]) (je pl i (fP.length+1)) C (ye s 0 rfl) U ab fP.length (by first|omega|(simp only[gC,zw,zh,zn];omega)) (adh Z _)) ?_
 rintro _ P ⟨rfl,E,G,H,b,I,F⟩
 have t:=(ym s F)
 refine fQ t 8 ?_
 refine gp (v:=Zc) Tryz.results124 rfl ?_
 exact⟨rfl,a,E,G,H,b.hp,b.gK,I,fun e=>(b.mem e).trans s_,by rw[b.pe,D],by rw[b.len];simp,yo (yc [_,_,_,_] _ t)⟩
theorem ZG(hb n:Nat)(iv pv:Value)(ps:List (Option Nat))(fP:List gG)(pl:List Nat)(w:World)(U:Own (Zj hb n iv pv fP ps pl) w)(J:Hp n fP pl)(O:jy n ps pl)(N:Ord fP)(p:Nat)(hp:p<fP.length) :
 CR ya 106 (Zm hb p) w (fun r w' => r = .tuple #[]/\∃ Y L ys M,Hp n ys M/\jy n L M/\Ord ys/\(∀ e,e∈ys↔e∈fP/\e.ix≠(fJ fP p).ix)/\L.length=ps.length/\ys.length+1=fP.length/\fZ (Zj hb n iv pv fP ps pl) w w' (Zj hb n Y pv ys L M)):=by
 have aa:=O.n
 have Z:=J.len
 obtain⟨k,W⟩:∃ k,fP.length=k+1:=⟨fP.length-1,o_⟩
 have K:=J.swap hp (show k<fP.length by omega)
 have ab:=mQ fP p k
 have Q:=K.cut (m:=k) o_
 have R:=fun e=>(Wi K (m:=k) o_ e)
 have S:fJ (iI fP p k) k=fJ fP p:=by rw[Bi hp o_,if_pos rfl]
 have T:((iI fP p k).take k).length=k:=by rw[z8];omega
 refine en Tryz.func106 Tryz.ntmps106 ?_
 have H:=(yr U).unpack
 refine fR H 6 ?_
 refine jm (m:=fP.length) 1 rfl rfl y9 H rfl (ar (e:=(k:Int)) rfl rfl rfl rfl i7 ?_)
 have f:=yc [_,_,_,_] _ H
 refine fK H 8 ?_
 refine cl IK (Jd hb n iv pv ps fP pl w (ye f 0 rfl) J O p k hp o_) ?_
 rintro _ u ⟨rfl,v,g,x,F⟩
 have j:=(ym f F)
 have o:=yc [_,_,_,_] _ j
 refine fK j 13 ?_
 refine cl EL (E9 hb n iv pv v (iI fP p k) (je (je pl (fJ (iI fP p k) p).ix (p+1)) (fJ (iI fP p k) k).ix (k+1)) u (ye o 0 rfl) x ((fJ (iI fP p k) k).ix) (K.ix k o_) (-1) 0 o_ o_) ?_
 rintro _ y ⟨rfl,I,q,V,F⟩
 have d:=(ym o F)
 have P:=V
 refine fK d 10 ?_
 refine slV (l:=0) (h:=k) rfl rfl y9 pY (iO (cf:=gG.cells) d 1 rfl) rfl ⟨_,gr o_⟩ o_ o_ ?_
 have c:St _ [blk hb 255 (pP hb n iv pv),fM gG.cells (oI 2 iv 0 k) 161 2 ((iI fP p k).take k),fM iA pv 269 1 I,gN fW 271 64 I (je (je (je pl (fJ (iI fP p k) p).ix (p+1)) (fJ (iI fP p k) k).ix (k+1)) ((fJ (iI fP p k) k).ix) 0)] y:=St.ad5 d (i:=1) rfl f_ o_
 refine fK c 2 ?_
 refine j8 0 c (fun z a=>?_) (hvs:=(cells_one (yu c (i:=1) rfl))) (h1:=(ic (yu c (i:=1) rfl) lB))
 refine fK a 6 ?_
 by_cases E:((p:Int):Int)<((k:Int):Int)
 . have s:=yc [_,_,_,_] _ a
   refine fK a 7 ?_
   refine cl OA (SN hb n (oI 2 iv 0 k) pv I ((iI fP p k).take k) (je (je (je pl (fJ (iI fP p k) p).ix (p+1)) (fJ (iI fP p k) k).ix (k+1)) ((fJ (iI fP p k) k).ix) 0) z (ye s 0 rfl) Q P p (by first|omega|(simp only[gC,zw,zh,zn];omega)) (N.cut W o_)) ?_
   rintro _ G ⟨rfl,A,B,C,b,D,F⟩
   have t:=(ym s F)
   refine fQ t 1 ?_
   refine iZ Tryz.results106 ?_
   exact⟨rfl,(oI 2 iv 0 k),A,B,C,b.hp,b.gK,D,fun e=>(b.mem e).trans (by rw[R e,K7 hp o_,S]),by rw[b.pe,q,g],by rw[b.len,T];omega,yo (yc [_,_,_,_] _ t)⟩
 . refine fQ a 5 ?_
   refine iZ Tryz.results106 ?_
   have X:p=k:=by omega
   exact⟨rfl,(oI 2 iv 0 k),I,((iI fP p k).take k),je (je (je pl (fJ (iI fP p k) p).ix (p+1)) (fJ (iI fP p k) k).ix (k+1)) ((fJ (iI fP p k) k).ix) 0,Q,P,by subst X;rw[ae3 hp];exact N.Wd o_,fun e=>by rw[R e,K7 hp o_,S],by rw[q,g],by rw[T];omega,yo (yc [_,_,_,_] _ a)⟩
theorem PS(hb n:Nat)(iv pv:Value)(ps:List (Option Nat))(fP:List gG)(pl:List Nat)(w:World)(q:Own (Zj hb n iv pv fP ps pl) w)(x:Hp n fP pl)(u:jy n ps pl)(t:fP.length=0) :
 CR ya 105 (Zh hb) w (fun r w' => r = .tuple BR/\fZ (Zj hb n iv pv fP ps pl) w w' (Zj hb n iv pv fP ps pl)):=by
 refine en Tryz.func105 Tryz.ntmps105 ?_
 have p:=(yr q).unpack
 refine fR p 2 ?_
 refine iR p (fun g e h j b=>?_)
 have f:=yg [1,2,3,4,0] b
 have c:=yc [_,_,_,_] _ f
 refine fK b 7 ?_
 refine cl Co (Cz hb n iv pv ps fP pl e (ye c 0 rfl)) ?_
 rintro _ k ⟨rfl,s⟩
 have a:=(ym c s)
 refine fK a 6 ?_
 refine jm (m:=fP.length) 1 rfl rfl y9 a rfl (cmp rfl rfl rfl (rR o_) (fK a 6 ?_))
 refine ji (pvs:=[]) (v:=.agg #[Zc,Zc]) rfl rfl (jA [] pY RM rfl trivial rfl) (j7 a 6 fun l d=>?_)
 refine og (v:=HU) (v' := Zn) Tryz.results105 (oq (cs:=vO) rfl xh rfl pY rfl (lZ d (i:=4) (o:=0) (vs:=vO) rfl rfl)) (pg rfl) ?_
 exact⟨rfl,yo (yc [_,_,_,_] _ d)⟩
theorem PT(hb n:Nat)(iv pv:Value)(ps:List (Option Nat))(fP:List gG)(pl:List Nat)(w:World)(s:Own (Zj hb n iv pv fP ps pl) w)(y:Hp n fP pl)(x:jy n ps pl)(u:0<fP.length) :
 CR ya 105 (Zh hb) w (fun r w' => r = .tuple (BS ((fJ fP 0).ix:Int) ((fJ fP 0).key))/\fZ (Zj hb n iv pv fP ps pl) w w' (Zj hb n iv pv fP ps pl)):=by
 refine en Tryz.func105 Tryz.ntmps105 ?_
 have q:=(yr s).unpack
 refine fR q 2 ?_
 refine iR q (fun g e h j b=>?_)
 have f:=yg [1,2,3,4,0] b
 have c:=yc [_,_,_,_] _ f
 refine fK b 7 ?_
 refine cl Co (Cz hb n iv pv ps fP pl e (ye c 0 rfl)) ?_
 rintro _ l ⟨rfl,t⟩
 have a:=(ym c t)
 refine fK a 6 ?_
 refine jm (m:=fP.length) 1 rfl rfl y9 a rfl (cmp rfl rfl rfl (uH o_) (fK a 12 ?_))
 refine iP (cf:=gG.cells) (k:=0) (i:=0) rfl rfl rfl y9 pY (iO a 1 rfl) o_ o_ (gz om) (j7 a 6 fun p d=>?_)
 refine og (v:=(B2 ((fJ fP 0).ix:Int) ((fJ fP 0).key))) (v' := Zf) Tryz.results105 (oq (cs:=(Zp ((fJ fP 0).ix:Int) ((fJ fP 0).key))) rfl xh rfl pY rfl (lZ d (i:=4) (o:=0) (vs:=(Zp ((fJ fP 0).ix:Int) ((fJ fP 0).key))) rfl rfl)) (pg rfl) ?_
 exact⟨rfl,yo (yc [_,_,_,_] _ d)⟩
theorem ZP(hb n:Nat)(iv pv:Value)(ps:List (Option Nat))(fP:List gG)(pl:List Nat)(w:World)(U:Own (Zj hb n iv pv fP ps pl) w)(M:Hp n fP pl)(L:jy n ps pl)(V:Ord fP)(K:0<fP.length) :
 CR ya 68 (Zh hb) w (fun r w' => r = .tuple (BS ((fJ fP 0).ix:Int) ((fJ fP 0).key))/\∃ W I ys J,Hp n ys J/\jy n I J/\Ord ys/\(∀ e,e∈ys↔e∈fP/\e.ix≠(fJ fP 0).ix)/\I.length=ps.length/\ys.length+1=fP.length/\fZ (Zj hb n iv pv fP ps pl) w w' (Zj hb n W pv ys I J)):=by
 refine en Tryz.func68 Tryz.ntmps68 ?_
 have N:=(yr U).unpack
 refine fR N 2 ?_
 refine iR N (fun x g y z a=>?_)
 have h:=yg [1,2,3,4,0] a
 have b:=yc [_,_,_,_] _ h
 refine fK a 6 ?_
 refine cl AD (PT hb n iv pv ps fP pl g (ye b 0 rfl) M L K) ?_
 rintro _ A ⟨rfl,F⟩
 have c:=(ym b F)
 refine fK c 3 ?_
 refine iR c (fun B C D E j=>?_)
 refine gO j 13 fun k l=>?_
 have m:=yg [1,2,3,4,0,5] l
 have d:=yc [_,_,_,_] _ m
 refine cl WJ (ZG hb n iv pv ps fP pl k (ye d 0 rfl) M L V 0 K) ?_
 rintro _ G ⟨rfl,p,q,s,t,O,P,Q,R,S,T,F⟩
 have u:=(ym d F)
 refine j7 u 11 fun H f=>?_
 refine og (v:=(B2 ((fJ fP 0).ix:Int) ((fJ fP 0).key))) (v' := Zf) Tryz.results68 (oq (cs:=(Zp ((fJ fP 0).ix:Int) ((fJ fP 0).key))) rfl xh rfl pY rfl (lZ f (i:=5) (o:=0) (vs:=(Zp ((fJ fP 0).ix:Int) ((fJ fP 0).key))) rfl rfl)) (pg rfl) ?_
 exact⟨rfl,p,q,s,t,O,P,Q,R,S,T,yo (yc [_,_,_,_] _ f)⟩
theorem ZO(hb n:Nat)(iv pv:Value)(ps:List (Option Nat))(fP:List gG)(pl:List Nat)(w:World)(z:Own (Zj hb n iv pv fP ps pl) w)(B:Hp n fP pl)(A:jy n ps pl)(y:fP.length=0) :
 CR ya 68 (Zh hb) w (fun r w' => r = .tuple BR/\fZ (Zj hb n iv pv fP ps pl) w w' (Zj hb n iv pv fP ps pl)):=by
 refine en Tryz.func68 Tryz.ntmps68 ?_
 have x:=(yr z).unpack
 refine fR x 2 ?_
 refine iR x (fun j e k l a=>?_)
 have f:=yg [1,2,3,4,0] a
 have b:=yc [_,_,_,_] _ f
 refine fK a 6 ?_
 refine cl AD (PS hb n iv pv ps fP pl e (ye b 0 rfl) B A y) ?_
 rintro _ m ⟨rfl,C⟩
 have c:=(ym b C)
 refine fK c 3 ?_
 refine iR c (fun p q s t g=>?_)
 refine j7 g 22 fun u d=>?_
 refine og (v:=HU) (v' := Zn) Tryz.results68 (oq (cs:=vO) rfl xh rfl pY rfl (lZ d (i:=5) (o:=0) (vs:=vO) rfl rfl)) (pg rfl) ?_
 have h:=yg [1,2,3,4,0,5] d
 exact⟨rfl,yo (yc [_,_,_,_] _ h)⟩
end
section
open Go Go.Sx
theorem N0(v:Value)(xs:List gG)(w:World)(hv:iz 2 gG.cells (fun _=>True) w v xs)(m:xs.length<=1000000) :
 CR ya 159 #[v] w (fun r w' => qb 2 gG.cells w w' r 161 xs/\gA [] w w'):=by
 refine en Tryz.func159 Tryz.ntmps159 ?_
 have l:=yt w
 refine fR l 9 ?_
 refine Ct (v:=v) rfl rfl rfl y9 hv (gH l 2 ?_)
 cases e:(wK v:Bool)
 . skip
   refine fR l 5 ?_
   refine kj (vs:=[]) (cs:=[]) rfl rfl y9 pY rfl (by intro v hv;simp at hv) rfl rfl rfl l ?_
   intro f g h i c
   have d:=c
   refine fK c 1 ?_
   refine mW (cf:=gG.cells) (ys:=[]) (zs:=xs) (LL:=fun a=>[fM gG.cells a 161 2 xs]) 0 rfl rfl rfl y9 pY rfl d_ d rfl (iz.src (yw d s_ d_ hv) f_) (xY f_ _) (by simp only[zn];omega) (by simp only[zn];omega) f_ (fun a j b k=>fQ b 4 ?_)
   refine gp (v:=a) Tryz.results159 rfl ?_
   exact⟨DD b s_,b.gD s_⟩
 . skip
   refine iS l 8 ?_
   refine gp (v:=Zg) Tryz.results159 rfl ?_
   obtain rfl:=CX e hv
   exact⟨qb.CW, l.gD s_⟩
theorem ZJ(n:Nat)(w:World)(B:n<=65536) :
 CR ya 101 (Z8 n) w (fun r w' => ∃ hb pv,r = .tuple (Z2 hb)/\fZ (gq []) w w' (gq [blk hb 255 [(Zb hb),(Za n),Zg,pv],fM gG.cells Zg 161 2 ([]),fM iA pv 269 1 (List.replicate ((n+63) / 64) none),gN fW 271 64 (List.replicate ((n+63) / 64) none) (List.replicate (64*((n+63) / 64)) 0)])):=by
 refine en Tryz.func101 Tryz.ntmps101 ?_
 have A:=yt w
 refine fR A 10 ?_
 refine cmp rfl rfl rfl (lC o_) (fK A 2 ?_)
 refine cmp rfl rfl rfl (pR o_) (fK A 10 ?_)
 refine ar (e:=((n+64:Nat):Int)) rfl rfl rfl rfl i7 (ar (e:=((n+63:Nat):Int)) rfl rfl rfl rfl i7 (quo (a:=((n+63:Nat):Int)) (b:=64) (e:=(((n+63) / 64:Nat):Int)) rfl rfl rfl d_ (wQ 64 o_) (rZ (cf:=iA) (z0:=none) (m:=((n+63) / 64)) (c:=((n+63) / 64)) rfl rfl rfl vm Dq rfl f_ d_ (zo _) o_ o_ A (fun d s t u j=>ji (pvs:=[(1,(Za n)),(3,(Zd d ((n+63) / 64)))]) (v:=.agg #[Zs,(Za n),Zg,(Zd d ((n+63) / 64))]) rfl rfl (jA [(1,(Ze n)),(3,(qi d ((n+63) / 64)))] Gn RS rfl ⟨rfl,rfl,rfl,rfl,trivial⟩ rfl) (iF j (fun f x y z k=>?_))))))
 refine gO k 14 fun g l=>?_
 have o:=mu (cf:=iA) l (i:=1) rfl f_ (zo _) (by simp only[maxLen];omega)
 have p:St _ [gN fW 271 64 (List.replicate ((n+63) / 64) none) (List.replicate (64*((n+63) / 64)) 0),blk f 255 (M6 f n d ((n+63) / 64)),fM iA (Zd d ((n+63) / 64)) 269 1 (List.replicate ((n+63) / 64) none)] g:=St.Ez o ((n+63) / 64)
 have h:St _ [fM gG.cells Zg 161 2 ([]),gN fW 271 64 (List.replicate ((n+63) / 64) none) (List.replicate (64*((n+63) / 64)) 0),blk f 255 (M6 f n d ((n+63) / 64)),fM iA (Zd d ((n+63) / 64)) 269 1 (List.replicate ((n+63) / 64) none)] g:=rA p 161 2
 refine fQ h 6 ?_
 refine iH (v:=(Zb f)) (v' := Zc) Tryz.results101 rfl rfl ?_
 have q:=yg [2,0,3,1] h
 exact⟨f,(Zd d ((n+63) / 64)),rfl,St.eM (yc [_,_,_,_] [] q)⟩
abbrev adb:List (List Nat):=[[],[0],[0,1],[0,1,2],[],[4],[4,5],[4,5,6],[4,5,6,7],[],[9],[9,10],[9,10,11],[9,10,11,12],[9,10,11,12,13],[0,1,2,3,4,5,6,7,8,9,10,11,12,13,14],[0,1,2,3,4,5,6,7,8,9,10,11,12,13,14,15],[0,1,2,3,4,5,6,7,8,9,10,11,12,13,14,15,16]]
theorem ZF(hb n:Nat)(iv pv:Value)(ps:List (Option Nat))(fP:List gG)(pl:List Nat)(w:World)(hO:Own (Zj hb n iv pv fP ps pl) w)(hS:Hp n fP pl)(hP:jy n ps pl) :
 CR ya 118 (Zh hb) w (fun r w' => ∃ ac ae af T,r = .pointer (some ⟨ac,0,none⟩)/\jy n T pl/\T.length=ps.length/\fZ (Zj hb n iv pv fP ps pl) w w' (gq [blk hb 255 (pP hb n iv pv),fM gG.cells iv 161 2 fP,fM iA pv 269 1 ps,gN fW 271 64 ps pl,blk ac 255 (pP ac n ae af),fM gG.cells ae 161 2 fP,fM iA af 269 1 T,gN fW 271 64 T pl])):=by
 have aj:=hP.n
 have ai:=hS.len
 have ak:=hP.len
 have al:=hP.room
 have am:=hP.top
 refine enter (vs:=(Zi hb)) Tryz.func118 rfl Tryz.ntmps118 rfl ?_
 have ad:=(yr hO).unpack
 have x:=yc [_,_,_,_] _ ad
 refine fR ad 9 ?_
 refine jM (vl:=(Zi hb)) rfl rfl Co (Cz hb n iv pv ps fP pl w (ye x 0 rfl)) ?_
 rintro _ N ⟨rfl,ht⟩
 have p:=(l8 (R' := (Zj hb n iv pv fP ps pl)) 0 x rfl ht rfl).unpack
 refine gH p 7 ?_
 refine Sr (Γ:=Value×Nat×Nat) mixed adb [8,14,16] k_ [fun(e,d,g)=>(Zb hb),fun(e,d,g)=>(Zb hb),fun(e,d,g)=>(.pointer (some ⟨hb,1,none⟩)),fun(e,d,g)=>(Za n),fun(e,d,g)=>(Zb hb),fun(e,d,g)=>(Zb hb),fun(e,d,g)=>(.pointer (some ⟨hb,2,none⟩)),fun(e,d,g)=>iv,fun(e,d,g)=>e,fun(e,d,g)=>(Zb hb),fun(e,d,g)=>(Zb hb),fun(e,d,g)=>(Ml hb),fun(e,d,g)=>pv,fun(e,d,g)=>(Za ps.length),fun(e,d,g)=>(Zd d ps.length),fun(e,d,g)=>(HX n e d ps.length),fun(e,d,g)=>(Zb g),fun(e,d,g)=>(Zb g)] [([],(fun(e,d,g)=>(HO hb n iv pv fP ps pl),fun _ _=>True)),([8],(fun(e,d,g)=>[fM gG.cells e 161 2 fP,blk hb 255 (pP hb n iv pv),fM gG.cells iv 161 2 fP,fM iA pv 269 1 ps,gN fW 271 64 ps pl],fun _ _=>True)),([14],(fun(e,d,g)=>[blk d 269 ((List.replicate ps.length none).flatMap iA),blk hb 255 (pP hb n iv pv),fM gG.cells iv 161 2 fP,fM iA pv 269 1 ps,gN fW 271 64 ps pl],fun _ _=>True)),([8,14],(fun(e,d,g)=>[blk d 269 ((List.replicate ps.length none).flatMap iA),fM gG.cells e 161 2 fP,blk hb 255 (pP hb n iv pv),fM gG.cells iv 161 2 fP,fM iA pv 269 1 ps,gN fW 271 64 ps pl],fun _ _=>True)),([8,14,16],(fun(e,d,g)=>[blk g 255 (M8 n e d ps.length),blk d 269 ((List.replicate ps.length none).flatMap iA),fM gG.cells e 161 2 fP,blk hb 255 (pP hb n iv pv),fM gG.cells iv 161 2 fP,fM iA pv 269 1 ps,gN fW 271 64 ps pl],fun _ _=>True))] (Zg,0,0) (fun(e,d,g)=>(3,(Zb g)) :: (26,(Zb g)) :: (25,(HX n e d ps.length)) :: (24,(Zd d ps.length)) :: (23,(Za ps.length)) :: (22,pv) :: (21,(Ml hb)) :: (20,(Zb hb)) :: (19,(Zb hb)) :: (18,e) :: (17,iv) :: (16,(.pointer (some ⟨hb,2,none⟩))) :: (15,(Zb hb)) :: (14,(Zb hb)) :: (13,(Za n)) :: (12,(.pointer (some ⟨hb,1,none⟩))) :: (11,(Zb hb)) :: (10,(Zb hb)) :: _) rfl p (fun _ _=>trivial) ?_ (fun(e,d,g)=>rfl) rfl ?_
 . skip
   refine nN rfl (fun(e,d,g) _ _=>qv rfl rfl (k7 (v:=(Zb hb)) rfl)) (nN rfl (fun(e,d,g) _ _=>qv rfl rfl (AT (a:=⟨hb,0,none⟩) rfl)) (nN rfl (fun(e,d,g) _ _=>qv rfl rfl (uM (o:=0) (o' := 1) rfl Dy rfl gy rfl)) (AY rfl ⟨(fun(e,d,g) Z F hF=>qv rfl rfl (mK (a:=⟨hb,1,none⟩) (v:=(Za n)) rfl yf rfl (k8 F 0 rfl rfl))),(fun(e,d,g) Z F hF=>qv rfl rfl (mK (a:=⟨hb,1,none⟩) (v:=(Za n)) rfl yf rfl (k8 F 1 rfl rfl))),(fun(e,d,g) Z F hF=>qv rfl rfl (mK (a:=⟨hb,1,none⟩) (v:=(Za n)) rfl yf rfl (k8 F 1 rfl rfl))),(fun(e,d,g) Z F hF=>qv rfl rfl (mK (a:=⟨hb,1,none⟩) (v:=(Za n)) rfl yf rfl (k8 F 2 rfl rfl))),trivial,trivial⟩ (nN rfl (fun(e,d,g) _ _=>qv rfl rfl (k7 (v:=(Zb hb)) rfl)) (nN rfl (fun(e,d,g) _ _=>qv rfl rfl (AT (a:=⟨hb,0,none⟩) rfl)) (nN rfl (fun(e,d,g) _ _=>qv rfl rfl (uM (o:=0) (o' := 2) rfl Dy rfl Lm rfl)) (AY rfl ⟨(fun(e,d,g) Z F hF=>qv rfl rfl (mK (a:=⟨hb,2,none⟩) (v:=iv) rfl y9 rfl (k8 F 0 rfl rfl))),trivial,(fun(e,d,g) Z F hF=>qv rfl rfl (mK (a:=⟨hb,2,none⟩) (v:=iv) rfl y9 rfl (k8 F 1 rfl rfl))),trivial,trivial,trivial⟩ ?_)))))))
   refine AX rfl ⟨⟨_,_,rfl,fun(e,d,g) Z F hF=>Fu rfl rfl (sR (vl:=[iv]) rfl OC) (N0 iv fP Z (iO F 1 rfl).any (by first|omega|(simp;omega))) (fun s _ hz=>⟨(s,d,g),⟨(xe F hz.2 hz.1),trivial⟩,rfl,kS rfl sT⟩)⟩,trivial,⟨_,_,rfl,fun(e,d,g) Z F hF=>Fu rfl rfl (sR (vl:=[iv]) rfl OC) (N0 iv fP Z (iO F 2 rfl).any (by first|omega|(simp;omega))) (fun s _ hz=>⟨(s,d,g),⟨(mS (xe F hz.2 hz.1) (List.Perm.swap _ _ _)),trivial⟩,rfl,kS rfl sT⟩)⟩,trivial,trivial,trivial⟩ (nN rfl (fun(e,d,g) _ _=>qv rfl rfl (k7 (v:=(Zb hb)) rfl)) (nN rfl (fun(e,d,g) _ _=>qv rfl rfl (AT (a:=⟨hb,0,none⟩) rfl)) (nN rfl (fun(e,d,g) _ _=>qv rfl rfl (uM (o:=0) (o' := 3) rfl Dy rfl Ll rfl)) (AY rfl ⟨(fun(e,d,g) Z F hF=>qv rfl rfl (mK (a:=⟨hb,3,none⟩) (v:=pv) rfl vm rfl (k8 F 0 rfl rfl))),(fun(e,d,g) Z F hF=>qv rfl rfl (mK (a:=⟨hb,3,none⟩) (v:=pv) rfl vm rfl (k8 F 1 rfl rfl))),trivial,trivial,trivial,trivial⟩ (nN rfl (fun(e,d,g) _ _=>qv rfl rfl (JL (v:=pv) rfl vm (iO (cf:=iA) p 2 rfl))) (AX rfl ⟨⟨_,_,rfl,fun(e,d,g) Z F hF=>rX (cf:=iA) (z0:=none) (m:=ps.length) (c:=ps.length) rfl rfl rfl vm Dq rfl f_ d_ (zo _) o_ o_ F (fun t _ h=>⟨(e,t,g),⟨h,trivial⟩,rfl,kS rfl sT⟩)⟩,⟨_,_,rfl,fun(e,d,g) Z F hF=>rX (cf:=iA) (z0:=none) (m:=ps.length) (c:=ps.length) rfl rfl rfl vm Dq rfl f_ d_ (zo _) o_ o_ F (fun t _ h=>⟨(e,t,g),⟨h,trivial⟩,rfl,kS rfl sT⟩)⟩,trivial,trivial,trivial,trivial⟩ (AY rfl ⟨trivial,trivial,trivial,(fun(e,d,g) Z F hF=>qv rfl rfl (Cb (pvs:=[(1,(Za n)),(2,e),(3,(Zd d ps.length))]) (v:=.agg #[Zs,(Za n),e,(Zd d ps.length)]) rfl (jA [(1,(Ze n)),(2,[e]),(3,(qi d ps.length))] Gn RS rfl ⟨rfl,rfl,rfl,(cells_one (yu F (i:=1) rfl)),rfl,rfl,trivial⟩ rfl))),trivial,trivial⟩ ?_)))))))
   refine AX rfl ⟨trivial,trivial,trivial,⟨_,_,rfl,fun(e,d,g) Z F hF=>JR (v:=(HX n e d ps.length)) (cs:=(M8 n e d ps.length)) rfl rfl rfl F (fun B _ h=>⟨(e,d,B),⟨h,trivial⟩,rfl,kS rfl sT⟩)⟩,trivial,trivial⟩ (nN rfl (fun(e,d,g) _ _=>qv rfl rfl (vX (v:=(Zb g)) rfl)) ?_)
   exact Ro
 rintro⟨e,d,g⟩ O C -
 refine KQ tt none C 13 fun D E=>?_
 have G:=mu (cf:=iA) E (i:=1) rfl f_ (zo _) (by simp only[maxLen];omega)
 have H:St _ [gN fW 271 64 (List.replicate ps.length none) pl,blk g 255 (H7 g n e d ps.length),fM iA (Zd d ps.length) 269 1 (List.replicate ps.length none),fM gG.cells e 161 2 fP,blk hb 255 (pP hb n iv pv),fM gG.cells iv 161 2 fP,fM iA pv 269 1 ps,gN fW 271 64 ps pl] D:=St.Ez G ps.length
 have l:=yg [4,5,6,7,1,3,2,0] H
 refine fK l 4 ?_
 refine jm (m:=ps.length) 2 rfl rfl vm l rfl (gH l 4 ?_)
 refine lp (α:=Nat×List (Option Nat)) (fun(k,T)=>[(3,(Zb g)),(34,pv),(35,(Za ps.length)),(36,(Za k))]) (fun(k,T) w1=>St [(w,(Zj hb n iv pv fP ps pl).gJ)] (Ms hb n iv pv fP ps pl g e d ps.length T) w1/\k<=ps.length/\qE ps T k) (fun(k,T)=>ps.length-k) (0,(List.replicate ps.length none)) ⟨rfl,rfl,rfl,gr rO,trivial⟩ (⟨l,o_,qE.start ps⟩) ?_
 rintro⟨k,T⟩ P Q ⟨aa,ag,hC⟩
 have ah:=hP.len
 have an:=hC.len
 refine fR aa 2 ?_
 by_cases R:((k:Int):Int)<((ps.length:Int):Int)
 . have hk:k<ps.length:=by omega
   obtain⟨I,j⟩:∃ q,(fJ ps k)=q:=⟨_,rfl⟩
   refine fK aa 21 ?_
   rcases I with _|y
   . skip
     refine nh (a:=(fJ ps k).map fun b=>⟨b,0,none⟩) (c:=false) rfl rfl rfl zK (by rw[j];rfl) (fQ aa 10 ?_)
     refine tN (?_)
     exact again ((k+1),T) ⟨rfl,rfl,rfl,gr rO,trivial⟩ (⟨aa,o_,hC.skip ((gz hk).trans (congrArg some j))⟩) (by show (ps.length-(k+1):Nat)<ps.length-k;omega)
   . skip
     refine nh (a:=(fJ ps k).map fun b=>⟨b,0,none⟩) (c:=true) rfl rfl rfl zK (by rw[j];rfl) (fK aa 6 ?_)
     refine uV (a:=⟨y,0,none⟩) rfl (A8 j) ?_
     have ab:(((pl.drop (64*k)).take 64).flatMap fW).length=64:=NW (cf:=fW) (sz:=1) f_ hP.len hk
     refine uR (b:=y) (o:=0) (cs:=(((pl.drop (64*k)).take 64).flatMap fW)) rfl rfl GQ rfl Lo ab (St.NQ aa (i:=3) rfl ((gz hk).trans (congrArg some j))) (iR aa (fun u S U V J=>?_))
     refine Gf (v:=.agg (((pl.drop (64*k)).take 64).flatMap fW).toArray) (vs:=(((pl.drop (64*k)).take 64).flatMap fW)) (L' := [blk u 271 (((pl.drop (64*k)).take 64).flatMap fW),blk hb 255 (pP hb n iv pv),fM gG.cells iv 161 2 fP,fM iA pv 269 1 ps,gN fW 271 64 ps pl,blk g 255 (H7 g n e d ps.length),fM gG.cells e 161 2 fP,fM iA (Zd d ps.length) 269 1 T,gN fW 271 64 T pl]) 0 rfl rfl rfl rfl Lo ab (zt.2 (xY f_ _)) J rfl (by rw[ab];decide) (SI (by rw[ab];rfl)) rfl (fun W z X=>fK z 9 ?_)
     refine iQ (f:=(fun _=>(some u))) 7 z (fun Y A=>?_) (v:=(Zd d ps.length)) (k:=k) (off:=0) (sz:=1)
     refine fQ A 7 ?_
     refine tN (?_)
     have K:=yg [0,8,1,2,3,4,5,6,7] A
     have L:=St.NR K (hC.next hk) rfl
     have M:=yg [1,2,3,4,5,6,7,0] L
     exact again ((k+1),fO T k (fun _=>(some u))) ⟨rfl,rfl,rfl,gr rO,trivial⟩ (⟨M,o_,hC.set hk⟩) (by show (ps.length-(k+1):Nat)<ps.length-k;omega)
 . refine fQ aa 17 ?_
   refine gp (v:=(Zb g)) Tryz.results118 rfl ?_
   exact⟨g,e,(Zd d ps.length),T,rfl,hP.copy hC o_,hC.len,yj (R' := (gq (Ms hb n iv pv fP ps pl g e d ps.length T))) (yc [_,_,_,_,_,_,_,_] _ aa) ze⟩
end
end Go.Proofs.YthpnckhjmbbalaaGreatDoor
