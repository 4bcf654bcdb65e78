/- What the functions that the statements reach do: walks through the code of the program and of the references, one theorem a function; under what is said of its arguments. -/
import Derived.Test.YthpnckhjmbbalaaGreatDoorFa
import Derived.Test.YthpnckhjmbbalaaGreatDoorFb
import Derived.Test.YthpnckhjmbbalaaGreatDoorFc
import Derived.Test.YthpnckhjmbbalaaGreatDoorFd
import Derived.Test.YthpnckhjmbbalaaGreatDoorProg
import Derived.KernelRfl
set_option linter.unusedVariables false
set_option linter.unusedSimpArgs false
set_option maxRecDepth 100000
set_option maxHeartbeats 4000000
namespace Go.Proofs.YthpnckhjmbbalaaGreatDoor
section
open Go Go.Sx
noncomputable abbrev ya:=@Tryz.prog
abbrev yc:=@St.pack
abbrev yd:=@Tryz.underlying65
abbrev ye:=@St.oR
abbrev yf:=@Tryz.underlying3
abbrev yg:=@St.re
abbrev yh:=@Tryz.underlying193
abbrev yi:=@St.tu
abbrev yj:=@Tryz.underlying27
abbrev yk:=@St.tn
abbrev ym:=@Tryz.underlying190
abbrev yn:=@St.eT
abbrev yo:=@St.ET
abbrev yp:=@St.rm
abbrev yq:=@St.grow
abbrev yr:=@St.Jm
abbrev yt:=@St.init
abbrev yu:=@St.adO
abbrev yv:=@Tryz.underlying141
abbrev yw:=@St.Dg
abbrev yx:=@St.reR
abbrev yy:=@St.Yt
abbrev yz:=@Tryz.underlying4
abbrev y0:=@St.unpack
abbrev y8:=@Tryz.underlying253
abbrev y9:=@Tryz.underlying40
abbrev oq:=@Tryz.underlying46
abbrev ot:=@Tryz.underlying64
abbrev pe:=@Tryz.underlying218
abbrev iW:=@St.rr
abbrev kB:=@St.KF
abbrev pW:=@Tryz.underlying179
abbrev lN:=@St.Ii
abbrev kf:=@St.made
abbrev ru:=@Tryz.underlying245
abbrev sj:=@Tryz.underlying130
abbrev sn:=@Tryz.underlying140
abbrev mL:=@St.Kw
abbrev qw:=@Tryz.results181
abbrev lX:=@St.adT
abbrev jP:=@St.un
abbrev mM:=@St.Vi
abbrev kY:=@St.RF
abbrev ve:=@Tryz.underlying252
abbrev lY:=@St.Lu
abbrev mN:=@St.perm
abbrev wY:=@Tryz.underlying107
abbrev wZ:=@Tryz.underlying161
abbrev vg:=@Tryz.underlying2
abbrev uc:=@Tryz.results75
abbrev vh:=@Tryz.results138
abbrev vi:=@Tryz.results177
abbrev yZ:=@Tryz.underlying117
abbrev zA:=@Tryz.underlying118
abbrev zB:=@Tryz.underlying145
abbrev zC:=@Tryz.underlying269
abbrev lM:=@St.bc
abbrev rq:=@St.EA
abbrev Bn:=@Tryz.underlying201
abbrev Bo:=@Tryz.underlying251
abbrev Bp:=@Tryz.underlying35
abbrev Bq:=@Tryz.underlying39
abbrev w5:=@St.UM
abbrev vj:=@St.Od
abbrev vk:=@St.yN
abbrev Br:=@Tryz.results112
abbrev DF:=@Tryz.underlying121
abbrev DG:=@Tryz.underlying255
abbrev DH:=@Tryz.underlying23
abbrev DI:=@Tryz.underlying61
abbrev su:=@St.fact
abbrev Bt:=@Tryz.results82
abbrev w6:=@St.adP
abbrev DJ:=@Tryz.results176
abbrev GX:=@Tryz.underlying100
abbrev GY:=@Tryz.underlying129
abbrev GZ:=@Tryz.underlying235
abbrev G0:=@Tryz.underlying242
abbrev G1:=@Tryz.underlying271
abbrev zD:=@St.Yx
abbrev G2:=@Tryz.underlying51
abbrev G3:=@Tryz.underlying71
abbrev G4:=@Tryz.underlying79
abbrev G5:=@Tryz.underlying90
abbrev zF:=@St.Yw
abbrev Bu:=@St.Vv
abbrev DK:=@St.Wx
abbrev G6:=@Tryz.results174
abbrev GQ:=@Tryz.results178
abbrev GR:=@Tryz.results193
abbrev GS:=@Tryz.results202
abbrev GU:=@Tryz.results40
abbrev GV:=@Tryz.results42
theorem k_{p:Prop}(h:p:=by kernel_rfl):p:=h
theorem f_{p:Prop}(h:p:=by exact fun _=>rfl):p:=h
abbrev p_:Value×List Nat->Value:=Prod.fst
end
section
open Go Go.Sx
abbrev Zf:=(.bool true:Value)
abbrev Zn:=(.bool false:Value)
abbrev Zc:=(.int .i64 0:Value)
abbrev qD:=(.int .i64 1:Value)
abbrev rK:=(.int .i64 4:Value)
abbrev BR:=(.int .i64 6:Value)
abbrev zW:=(.int .i64 9:Value)
abbrev sK:=(.int .u64 0:Value)
abbrev vI:=(.int .u64 1:Value)
abbrev zX:=(.int .u64 2:Value)
abbrev vJ:=(.int .u64 3:Value)
abbrev xH:=(.int .i64 10:Value)
abbrev B5:=(.int .i64 13:Value)
abbrev B1:=([.int .u64 0]:List Value)
abbrev Za(a:Int):=(.int .i64 a:Value)
abbrev Zo(a:Int):=(.int .u64 a:Value)
abbrev Zs:=(.pointer none:Value)
abbrev Zw:=(.int .i64 (-1):Value)
abbrev Ze(a:Int):=([.int .i64 a]:List Value)
abbrev Zt(a:Int):=([.int .u64 a]:List Value)
abbrev Zg:=(.slice none 0 0:Value)
abbrev Z8(a:Int):=(#[.int .i64 a]:Array Value)
abbrev xD(a:Int):=(#[.int .u64 a]:Array Value)
abbrev qh:=([.slice none 0 0]:List Value)
abbrev pI a b:=(fM fW a 3 1 b:fS)
abbrev rJ a b:=(fM ij a 27 1 b:fS)
abbrev BV(a:Bool):=(#[.bool a,.int .i64 0]:Array Value)
abbrev vG:=([.int .i64 0,.int .i64 0]:List Value)
abbrev vN:=([.int .u64 0,.int .i64 0]:List Value)
abbrev Ec a:=IntKind.i64.wrap (a+1)
abbrev HD:=(#[.int .i64 0,.bool false]:Array Value)
abbrev Z7(a:Int)(b:Bool):=(#[.int .i64 a,.bool b]:Array Value)
abbrev HF:=(#[.int .u64 0,.int .i64 0]:Array Value)
abbrev HG:=(#[.int .u64 1,.int .u64 3]:Array Value)
abbrev B2 a b:=(fM Ge.cells a 235 3 b:fS)
abbrev BW(a:Int):=(#[.bool true,.int .u64 a]:Array Value)
abbrev Eh(a:Int):=(#[.int .i64 a,.bool true]:Array Value)
abbrev B3 a b:=(fM iS.cells a 190 2 b:fS)
abbrev xB(a:Int):=(#[.int .i64 a,.int .i64 0]:Array Value)
abbrev Zp(a b:Int):=([.int .i64 a,.int .i64 b]:List Value)
abbrev xK(a b:Int):=([.int .u64 a,.int .i64 b]:List Value)
abbrev Zb(a:Nat):=(.pointer (some ⟨a,0,none⟩):Value)
abbrev Mj(a:Nat):=(.pointer (some ⟨a,3,none⟩):Value)
abbrev Zz(a b:Int):=(#[.int .i64 a,.int .i64 b]:Array Value)
abbrev vM(a b:Int):=(#[.int .u64 a,.int .i64 b]:Array Value)
abbrev vF(a b:Int):=(#[.int .u64 a,.int .u64 b]:Array Value)
abbrev Zi(a:Nat):=([.pointer (some ⟨a,0,none⟩)]:List Value)
abbrev HU(a:GW):=IntKind.i64.wrap (a.trees+1)
abbrev HV(a:GW):=IntKind.i64.wrap (a.trees-1)
abbrev HY:=(.agg #[.int .i64 0,.int .i64 0]:Value)
abbrev Z6(a:Nat):=(.slice (some ⟨a,0,none⟩) 1 1:Value)
abbrev xI(a:Nat):=(.slice (some ⟨a,0,none⟩) 2 2:Value)
abbrev Ia(a:Nat):=(.slice (some ⟨a,0,none⟩) 3 3:Value)
abbrev Zh(a:Nat):=(#[.pointer (some ⟨a,0,none⟩)]:Array Value)
abbrev pK(a:fV) b:=fT a.im ((fJ a.live b).u)
abbrev uB(a:fV) b:=iJ a.im ((fJ a.live b).u)
abbrev Eu(a b:Nat):=(.slice (some ⟨a,0,none⟩) 0 b:Value)
abbrev B4(a b:Int):=(.agg (Zz a b):Value)
abbrev vL(a b:Int):=(.agg (vM a b):Value)
abbrev H6(a b:Int):=(.agg (vF a b):Value)
abbrev Zd(a b:Nat):=(.slice (some ⟨a,0,none⟩) b b:Value)
abbrev HH(a:Nat) b:=(#[.pointer (some ⟨a,0,none⟩),b]:Array Value)
abbrev HQ(a b:Int):=([.agg (Zz a b)]:List Value)
abbrev qb(a b:Nat):=([.slice (some ⟨a,0,none⟩) b b]:List Value)
abbrev Ei(a:Int)(b:Bool):=(#[.int .i64 a,.bool b,.int .i64 0]:Array Value)
abbrev Zx(a:Int) b c d e f:=([.int .i64 a,b,c,d,e,f]:List Value)
abbrev HC:=(#[.int .i64 0,.bool false,.int .i64 13]:Array Value)
abbrev Zu(a:Nat)(b c:Int):=(blk a 156 (Zp b c):fS)
abbrev MM(a:gG):=(.agg #[.int .i64 a.ix,.int .i64 a.key]:Value)
abbrev Mk(a b c:Int):=(#[.int .i64 a,.int .i64 b,.int .i64 c]:Array Value)
abbrev Z2(a:Nat):=(#[.pointer (some ⟨a,0,none⟩),.int .i64 0]:Array Value)
abbrev uy(a:Int) b c d e f:=(.agg #[.int .i64 a,b,c,d,e,f]:Value)
abbrev xJ(a:Int)(b:Nat):=([.int .i64 a,.pointer (some ⟨b,0,none⟩)]:List Value)
abbrev tA(a:Nat)(b:Int):=([.pointer (some ⟨a,0,none⟩),.int .i64 b]:List Value)
abbrev BS:=(#[.agg #[.int .i64 0,.int .i64 0],.bool false]:Array Value)
abbrev BX(a:Int)(b:Nat):=(#[.int .i64 a,.pointer (some ⟨b,0,none⟩)]:Array Value)
abbrev Zm(a:Nat)(b:Int):=(#[.pointer (some ⟨a,0,none⟩),.int .i64 b]:Array Value)
abbrev Z4(a:Nat)(b:Int):=(#[.pointer (some ⟨a,0,none⟩),.int .u64 b]:Array Value)
abbrev El(a:Int) b c d e f:=([.agg #[.int .i64 a,b,c,d,e,f]]:List Value)
abbrev zU(a:WW)(b:Int):=(blk a.cb 156 (Zp b a.now):fS)
abbrev BT(a b:Int):=(#[.agg (Zz a b),.bool true]:Array Value)
abbrev Eb a b (c:List Ge):=(⟨(fJ a b),((fJ c (fJ a b)).u)⟩:jL)
abbrev tB a b (c:List Ge):=(⟨(fJ a b),((fJ c (fJ a b)).v)⟩:jL)
abbrev MJ a b:=fJ (iI a b (jD a b)) (jD a b)
abbrev Nh a b:=(gZ a .u64 p_ b:fS)
abbrev MN(a:Nat):=(.func (.func 180) (Zh a) #[]:Value)
abbrev MO(a:Nat):=(.func (.func 181) (Zh a) #[]:Value)
abbrev pL(a:Nat)(b:Int) c d:=([.pointer (some ⟨a,0,none⟩),.int .i64 b,c,d]:List Value)
abbrev MP(a b:Int):=(.tuple #[.agg (Zz a b),.int .i64 0]:Value)
abbrev HR(a b c d:Int):=([.int .i64 a,.int .i64 b,.int .i64 c,.int .i64 d]:List Value)
abbrev Aa(a:Nat)(b c:Int):=([.pointer (some ⟨a,0,none⟩),.int .i64 b,.int .i64 c]:List Value)
abbrev Zr(a:Nat)(b c:Int):=(#[.pointer (some ⟨a,0,none⟩),.int .i64 b,.int .i64 c]:Array Value)
abbrev Ev(a:Nat)(b c:Int):=(#[.pointer (some ⟨a,0,none⟩),.int .u64 b,.int .i64 c]:Array Value)
abbrev tw(a:Nat)(b c:Int):=(#[.pointer (some ⟨a,0,none⟩),.int .u64 b,.int .u64 c]:Array Value)
abbrev oS(a:fV) b:=fT (uB a b) ((fJ a.live b).v)
abbrev BU(a:Int) b c d e f (g:Int):=(#[.agg #[.int .i64 a,b,c,d,e,f],.int .i64 g]:Array Value)
abbrev sI(a b:Nat):=([.pointer (some ⟨a,0,none⟩),.pointer (some ⟨b,0,none⟩)]:List Value)
abbrev Ah(a:fV) b:=iJ (uB a b) ((fJ a.live b).v)
abbrev B7(a b:Nat):=(#[.pointer (some ⟨a,0,none⟩),.pointer (some ⟨b,0,none⟩)]:Array Value)
abbrev Hw(a b:Nat):=(gq [blk a 39 qh,blk b 40 qh]:fS)
abbrev Eg(a b c d:Int):=(.agg #[.int .i64 a,.int .i64 b,.int .i64 c,.int .i64 d]:Value)
abbrev Mt(a b c d:Int):=(#[.agg #[.int .i64 a,.int .i64 b,.int .i64 c,.int .i64 d]]:Array Value)
abbrev Z0(a:Lv):=([.int .u64 a.u,.int .u64 a.v,.int .i64 a.wt,.int .i64 a.t]:List Value)
abbrev Mz a (b c:Nat):=(#[a,.pointer (some ⟨b,0,none⟩),.pointer (some ⟨c,0,none⟩)]:Array Value)
abbrev Ca(a b c d:Int):=([.int .i64 a,.int .i64 b,.int .i64 c,.int .i64 1,.int .i64 d]:List Value)
abbrev M5(a:Int) b (c d:Nat):=([.pointer none,.int .i64 a,b,.slice (some ⟨c,0,none⟩) d d]:List Value)
abbrev Mu(a b c d:Int):=(#[.int .i64 a,.int .i64 b,.int .i64 c,.int .i64 1,.int .i64 d]:Array Value)
abbrev Er(a:Lv):=(.agg #[.int .u64 a.u,.int .u64 a.v,.int .i64 a.wt,.int .i64 a.t]:Value)
abbrev UB(a b:Nat):=(#[.pointer (some ⟨a,0,none⟩),.pointer (some ⟨b,0,none⟩),.bool true]:Array Value)
abbrev BY a (b c d:Nat) (e:Int):=([a,blk b 117 (Zi c),blk d 3 (Ze e)]:List fS)
abbrev H7(a:Int) b (c d:Nat):=(.agg #[.pointer none,.int .i64 a,b,.slice (some ⟨c,0,none⟩) d d]:Value)
abbrev oT(a b:Nat)(c:TW):=([.pointer (some ⟨a,0,none⟩),.pointer (some ⟨b,0,none⟩),c.iv,c.cv]:List Value)
abbrev vQ(a b c:Nat)(d:Int):=([.pointer (some ⟨a,0,none⟩),.slice (some ⟨b,0,none⟩) c c,.int .i64 d]:List Value)
abbrev Ib(a:Nat)(b:Int) c (d e:Nat):=([.pointer (some ⟨a,0,none⟩),.int .i64 b,c,.slice (some ⟨d,0,none⟩) e e]:List Value)
abbrev nw:=([.int .i64 0,.int .u64 0,.int .u64 0,.int .u64 0,.int .i64 0,.int .i64 0,.int .i64 0]:List Value)
abbrev HE:=(#[.int .i64 0,.int .u64 0,.int .u64 0,.int .u64 0,.int .i64 0,.int .i64 0,.int .i64 0]:Array Value)
abbrev uA(a:fV) b c d:=gx a.im ((fJ a.live b).u) (c,(pK a b).2.eraseIdx d)
abbrev Mx(a:Nat)(b c d e:Int):=(#[.pointer (some ⟨a,0,none⟩),.int .i64 b,.int .i64 c,.int .i64 d,.int .i64 e]:Array Value)
abbrev vO(a b c:Nat):=([.pointer (some ⟨a,0,none⟩),.pointer (some ⟨b,0,none⟩),.pointer (some ⟨c,0,none⟩)]:List Value)
abbrev Mh a (b c d e:Nat):=([.pointer none,a,.slice (some ⟨b,0,none⟩) c c,.slice (some ⟨d,0,none⟩) e e]:List Value)
abbrev My(a b c:Nat):=(#[.pointer (some ⟨a,0,none⟩),.pointer (some ⟨b,0,none⟩),.pointer (some ⟨c,0,none⟩)]:Array Value)
abbrev Ag(a b c:Nat)(d:Int):=(blk a 195 (vQ a b c d):fS)
abbrev uz:=([.int .i64 0,.slice none 0 0,.slice none 0 0,.slice none 0 0,.slice none 0 0,.slice none 0 0]:List Value)
abbrev D9(a:GW) b:=(⟨((fT a.m (b:Int)).a),((fT a.m (b:Int)).b),(fT a.m (b:Int)).exp,true⟩:Ed)
abbrev D8(a:GW) b:=(⟨((fT a.m (b:Int)).a),((fT a.m (b:Int)).b),(fT a.m (b:Int)).exp,false⟩:Ed)
abbrev M3(a:Nat)(b:Int)(c d:Nat):=([.pointer (some ⟨a,0,none⟩),.int .i64 b,.slice none 0 0,.slice (some ⟨c,0,none⟩) d d]:List Value)
abbrev H9 a (b c d e:Nat):=(.agg #[.pointer none,a,.slice (some ⟨b,0,none⟩) c c,.slice (some ⟨d,0,none⟩) e e]:Value)
abbrev vP(a:Nat) b (c:As) (d:Int):=([.pointer (some ⟨a,0,none⟩),b,.int .i64 c.n,.int .i64 d,.int .i64 c.used,.int .i64 c.last]:List Value)
abbrev Cc a (b:Int) c d e f g (h i:Nat):=([a,.int .i64 b,c,d,e,f,g,.pointer (some ⟨h,0,none⟩),.pointer (some ⟨i,0,none⟩)]:List Value)
abbrev xE(a:Nat)(b:Lv):=(#[.pointer (some ⟨a,0,none⟩),.agg #[.int .u64 b.u,.int .u64 b.v,.int .i64 b.wt,.int .i64 b.t]]:Array Value)
abbrev HK a b c d e (f:Nat) (g:Int) h i j k l:=([a,fM Mg.cells b 96 5 c,fM fW d 3 1 e,blk f 67 (Zx g h i j k l)]:List fS)
abbrev Hx(a:Nat) b (c:As) (d:Int):=([.pointer (some ⟨a,0,none⟩),b,.int .i64 c.n,.int .i64 c.begun,.int .i64 c.used,.int .i64 d]:List Value)
abbrev HM(a:Nat)(b:Int)(c:Nat)(d:Int)(e:Nat)(f:Int)(g:Nat)(h:Bool) i:=([blk a 27 (Zt b),blk c 27 (Zt d),blk e 2 (Ze f),blk g 4 [.bool h],i]:List fS)
abbrev Z5(a:Nat) b (c:As):=([.pointer (some ⟨a,0,none⟩),b,.int .i64 c.n,.int .i64 c.begun,.int .i64 c.used,.int .i64 c.last]:List Value)
abbrev Ng(a:Nat)(b:Int)(c:Nat)(d:Int)(e f:Nat) g:=(gq [blk a 27 (Zt b),blk c 27 (Zt d),blk e 2 [.int .i64 0],blk f 4 [.bool false],g]:fS)
abbrev qF(a b:Int)(c:Lv):=([.int .i64 a,.int .u64 b,.int .u64 c.u,.int .u64 c.v,.int .i64 c.wt,.int .i64 c.t,.int .i64 c.exp]:List Value)
abbrev MK(a b:Int)(c:Lv)(d:Int):=(.agg #[.int .i64 a,.int .u64 b,.int .u64 c.u,.int .u64 c.v,.int .i64 c.wt,.int .i64 c.t,.int .i64 d]:Value)
abbrev pJ(a:fV) b c d:=fT (uA a b c d) ((fJ a.live b).v)
abbrev HW(a:fV) b c d:=iJ (uA a b c d) ((fJ a.live b).v)
abbrev Ey(a b c:Int)(d e:Nat) f g:=([.int .i64 a,.int .i64 b,.int .u64 c,.pointer (some ⟨d,0,none⟩),.pointer (some ⟨e,0,none⟩),f,.map g]:List Value)
abbrev HZ(a b:Int)(c:Lv):=(.agg #[.int .i64 a,.int .u64 b,.int .u64 c.u,.int .u64 c.v,.int .i64 c.wt,.int .i64 c.t,.int .i64 c.exp]:Value)
abbrev Z9(a:Lv):=([.int .i64 a.slot,.int .u64 a.seq,.int .u64 a.u,.int .u64 a.v,.int .i64 a.wt,.int .i64 a.t,.int .i64 a.exp]:List Value)
abbrev M4(a:Nat)(b:As):=([.pointer (some ⟨a,0,none⟩),.slice none 0 0,.int .i64 b.n,.int .i64 b.begun,.int .i64 b.used,.int .i64 b.last]:List Value)
abbrev MV(a:Nat) b c d e f g h i j:=([ig .i64 (Z6 a) 3 b,fM fW c 3 1 d,e,f,fM fW g 3 1 h,fM fW i 3 1 j]:List fS)
abbrev Em(a b c d:Nat):=([.pointer (some ⟨a,0,none⟩),.pointer (some ⟨b,0,none⟩),.pointer (some ⟨c,0,none⟩),.pointer (some ⟨d,0,none⟩)]:List Value)
abbrev HJ a (b:Nat) (c:Int) (d:Nat) (e:Bool) (f g h:Nat) (i:Int):=([a,blk b 3 (Ze c),blk d 4 [.bool e],blk f 139 (Zi g),blk h 27 (Zt i)]:List fS)
abbrev Ez(a b c:Int)(d:fV) e f:=([.int .i64 a,.int .i64 b,.int .u64 c,.pointer (some ⟨d.je,0,none⟩),.pointer (some ⟨d.tb,0,none⟩),e,.map f]:List Value)
abbrev zZ(a b:Int)(c:GW) d:=([.int .i64 a,.int .i64 b,.pointer (some ⟨c.fb,0,none⟩),.pointer (some ⟨c.hb,0,none⟩),.map d,.int .i64 c.trees]:List Value)
abbrev MI(a b c:Nat)(d:List Nd):=([blk a 195 [.pointer (some ⟨a,0,none⟩),.slice (some ⟨b,0,none⟩) c c,.int .i64 0],blk b 192 (d.flatMap Nd.cells)]:List fS)
abbrev zV(a:Lv):=(.agg #[.int .i64 a.slot,.int .u64 a.seq,.int .u64 a.u,.int .u64 a.v,.int .i64 a.wt,.int .i64 a.t,.int .i64 a.exp]:Value)
abbrev HN(a:Nat) b c d e f g:=([blk a 305 [.pointer (some ⟨a,0,none⟩),b,c,d],fM Ge.cells b 235 3 e,fM fW c 3 1 f,fM fW d 3 1 g]:List fS)
abbrev M1(a b:Int)(c d:Nat) e:=([.int .i64 a,.int .i64 b,.int .u64 0,.pointer (some ⟨c,0,none⟩),.pointer (some ⟨d,0,none⟩),.slice none 0 0,.map e]:List Value)
abbrev Cb(a b c:Int)(d:fV) e:=([.int .i64 a,.int .i64 b,.int .u64 c,.pointer (some ⟨d.je,0,none⟩),.pointer (some ⟨d.tb,0,none⟩),d.lv,.map e]:List Value)
abbrev pM(a b:Int)(c:fV) d:=([.int .i64 a,.int .i64 b,.int .u64 c.last,.pointer (some ⟨c.je,0,none⟩),.pointer (some ⟨c.tb,0,none⟩),c.lv,.map d]:List Value)
abbrev Zk(a b c:Nat)(d:Int)(e:List Nd):=(gq [blk a 195 (vQ a b c d),blk b 192 (e.flatMap Nd.cells)]:fS)
abbrev B6(a b:Int)(c:Lv)(d:Int):=(.tuple #[.agg #[.int .i64 a,.int .u64 b,.int .u64 c.u,.int .u64 c.v,.int .i64 c.wt,.int .i64 c.t,.int .i64 d],.int .i64 0]:Value)
abbrev Me(a b c d:Nat):=([.pointer none,.slice (some ⟨a,0,none⟩) b b,.slice (some ⟨c,0,none⟩) b b,.slice (some ⟨d,0,none⟩) b b,.int .i64 b]:List Value)
abbrev HS(a:Nat)(b:Int) c d e f g:=([blk a 255 (pL a b c d),fM gG.cells c 161 2 e,fM iA d 269 1 f,gP fW 271 64 f g]:List fS)
abbrev H8(a b c d:Nat):=(.agg #[.pointer none,.slice (some ⟨a,0,none⟩) b b,.slice (some ⟨c,0,none⟩) b b,.slice (some ⟨d,0,none⟩) b b,.int .i64 b]:Value)
abbrev B8(a b:Nat)(c:TW):=([blk a 200 (oT a b c),fM ij c.iv 27 1 c.ids,fM fW c.cv 3 1 c.cs]:List fS)
abbrev Ef(a:fV) b c d:=gx (uB a b) ((fJ a.live b).v) (c,(oS a b).2.eraseIdx d)
abbrev D7(a b:Nat)(c:TW) d:=(gq [blk a 200 (oT a b c),fM ij c.iv 27 1 c.ids,fM fW c.cv 3 1 d]:fS)
abbrev Zj(a:Nat)(b:Int) c d e f g:=(gq (HS a b c d e f g):fS)
abbrev Z1(a b:Nat)(c:TW):=(gq (B8 a b c):fS)
abbrev Ew(a:Nat)(b:Ds) c:=([blk a 294 [.pointer (some ⟨a,0,none⟩),b.uv,b.lv,b.sv,.int .i64 b.cnt],fM fW b.uv 3 1 c,fM fW b.lv 3 1 b.le,fM gh b.sv 3 1 b.sz]:List fS)
abbrev Ae(a:Nat) b (c d e f:Int) g h:=(gq [blk a 203 [.pointer (some ⟨a,0,none⟩),b,.int .i64 c,.int .i64 d,.int .i64 e,.int .i64 f],fM iA b 259 1 g,gP gT.cells 265 64 g h]:fS)
abbrev B9(a:Nat)(b:Ds):=([blk a 294 [.pointer (some ⟨a,0,none⟩),b.uv,b.lv,b.sv,.int .i64 b.cnt],fM fW b.uv 3 1 b.up,fM fW b.lv 3 1 b.le,fM gh b.sv 3 1 b.sz]:List fS)
abbrev HA(a:Nat)(b:Ds) c:=(gq (Ew a b c):fS)
abbrev Mo(a:Nat) b (c:As) (d:Int) e f:=([blk a 203 (vP a b c d),fM iA b 259 1 e,gP gT.cells 265 64 e f]:List fS)
abbrev qE(a:Nat)(b:Ds):=(gq (B9 a b):fS)
abbrev Nc(a:Nat) b (c d e:Int) (f:As):=(gq [blk a 203 [.pointer (some ⟨a,0,none⟩),b,.int .i64 c,.int .i64 d,.int .i64 e,.int .i64 f.last],fM iA b 259 1 f.ps,gP gT.cells 265 64 f.ps f.sl]:fS)
abbrev zY a (b c d e:Nat) (f:Int) (g:List Nd):=([a,blk b 126 (Zi c),blk c 195 (vQ c d e f),blk d 192 (g.flatMap Nd.cells)]:List fS)
abbrev Mn(a:Nat) b (c:As) (d:Int):=([blk a 203 (vP a b c d),fM iA b 259 1 c.ps,gP gT.cells 265 64 c.ps c.sl]:List fS)
abbrev Mr(a:Nat)(b:Int):=([gP gT.cells 265 64 ([]) ([]),fM iA Zg 259 1 ([]),blk a 203 [.pointer (some ⟨a,0,none⟩),.slice none 0 0,.int .i64 b,.int .i64 0,.int .i64 0,.int .i64 (-1)]]:List fS)
abbrev Ai(a:Nat) b (c:As):=([blk a 203 (Z5 a b c),fM iA b 259 1 c.ps,gP gT.cells 265 64 c.ps c.sl]:List fS)
abbrev Zq(a:Nat) b (c:As):=(gq (Ai a b c):fS)
abbrev B0(a b:Nat):=([.func (.func 141) #[] (Zh a),.func (.func 143) #[] (B7 a b),.func (.func 145) #[] (Zh a)]:List Value)
abbrev UC(a:Int)(b c d e f g:Nat):=([.int .i64 a,.slice (some ⟨b,0,none⟩) c c,.slice (some ⟨d,0,none⟩) c c,.slice (some ⟨e,0,none⟩) c c,.slice (some ⟨f,0,none⟩) c c,.slice (some ⟨g,0,none⟩) c c]:List Value)
abbrev MQ(a:Int)(b c d e f g:Nat):=(#[.int .i64 a,.slice (some ⟨b,0,none⟩) c c,.slice (some ⟨d,0,none⟩) c c,.slice (some ⟨e,0,none⟩) c c,.slice (some ⟨f,0,none⟩) c c,.slice (some ⟨g,0,none⟩) c c]:Array Value)
abbrev ML(a:Int)(b c d e f g:Nat):=(.agg (MQ a b c d e f g):Value)
abbrev Mm(a:Nat) b (c:As) d e:=([blk a 203 (Z5 a b c),fM iA b 259 1 c.ps,gP gT.cells 265 64 c.ps c.sl,ig .i64 d 3 e]:List fS)
abbrev MF(a b c d:Nat)(e:Int)(f:List Nd) g h (i:Nat):=([blk a 126 (Zi b),blk b 195 (vQ b c d e),blk c 192 (f.flatMap Nd.cells),ig .i64 g 3 h,blk i 65 [g]]:List fS)
abbrev HT(a:Nat)(b:Int)(c d:Nat)(e:Int) f g h i j:=([blk a 3 (Ze b),blk c 129 (Zi d),blk d 255 (pL d e f g),fM gG.cells f 161 2 h,fM iA g 269 1 i,gP fW 271 64 i j]:List fS)
abbrev vH(a:Nat)(b:Int)(c d:Nat)(e:Int) f g h i j:=(gq (HT a b c d e f g h i j):fS)
abbrev En a (b c:Nat) (d:TW) (e f:Nat) (g:Int):=(gq [a,blk b 200 (oT b c d),fM ij d.iv 27 1 d.ids,fM fW d.cv 3 1 d.cs,blk e 139 (Zi b),blk f 27 (Zt g)]:fS)
abbrev xC(a b c d:Int)(e:WW):=([.int .i64 a,.int .i64 b,.int .i64 c,.int .i64 d,.pointer (some ⟨e.cb,0,none⟩),.pointer (some ⟨e.ub,0,none⟩),.pointer (some ⟨e.sb,0,none⟩),.pointer (some ⟨e.ob,0,none⟩),.int .u64 e.added,.int .u64 e.jk]:List Value)
abbrev HX(a:fV) b c d e f:=gx (uA a b c d) ((fJ a.live b).v) (e,(pJ a b c d).2.eraseIdx f)
abbrev Mp(a:Nat)(b:Int) c d e f g (h:Nat) i (j k:Nat) l:=([blk a 255 (pL a b c d),fM gG.cells c 161 2 e,fM iA d 269 1 f,gP fW 271 64 f g,blk h 255 (Ib h b i j k),fM gG.cells i 161 2 e,fM iA (Zd j k) 269 1 l,gP fW 271 64 l g]:List fS)
abbrev Nf(a:Nat) b (c:As) (d:Nat) e f:=(gq [blk a 203 (Z5 a b c),fM iA b 259 1 c.ps,gP gT.cells 265 64 c.ps c.sl,blk d 203 (Z5 d e c),fM iA e 259 1 f,gP gT.cells 265 64 f c.sl]:fS)
abbrev Mq(a:Nat)(b:Int)(c d e f g h:Nat) i j k l (m:Nat):=([blk a 67 (UC b c d e f g h),blk h 3 i,blk g 2 j,blk f 3 j,blk e 3 j,blk c 3 j,fM fW k 3 1 l,blk m 67 uz]:List fS)
abbrev MR:=([.int .i64 0,.int .i64 0,.int .u64 0,.int .i64 0,.int .i64 0,.int .u64 0,.int .i64 0,.int .i64 0,.int .u64 0,.int .i64 0,.int .i64 0,.int .u64 0,.int .i64 0,.int .i64 0,.int .u64 0,.int .i64 0,.int .i64 0,.int .u64 0,.int .i64 0,.int .i64 0,.int .u64 0,.int .i64 0,.int .i64 0,.int .u64 0,.int .i64 0,.int .i64 0,.int .u64 0,.int .i64 0,.int .i64 0,.int .u64 0,.int .i64 0,.int .i64 0,.int .u64 0,.int .i64 0,.int .i64 0,.int .u64 0,.int .i64 0,.int .i64 0,.int .u64 0,.int .i64 0,.int .i64 0,.int .u64 0,.int .i64 0,.int .i64 0,.int .u64 0,.int .i64 0,.int .i64 0,.int .u64 0,.int .i64 0,.int .i64 0,.int .u64 0,.int .i64 0,.int .i64 0,.int .u64 0,.int .i64 0,.int .i64 0,.int .u64 0,.int .i64 0,.int .i64 0,.int .u64 0,.int .i64 0,.int .i64 0,.int .u64 0,.int .i64 0,.int .i64 0,.int .u64 0,.int .i64 0,.int .i64 0,.int .u64 0,.int .i64 0,.int .i64 0,.int .u64 0,.int .i64 0,.int .i64 0,.int .u64 0,.int .i64 0,.int .i64 0,.int .u64 0,.int .i64 0,.int .i64 0,.int .u64 0,.int .i64 0,.int .i64 0,.int .u64 0,.int .i64 0,.int .i64 0,.int .u64 0,.int .i64 0,.int .i64 0,.int .u64 0,.int .i64 0,.int .i64 0,.int .u64 0,.int .i64 0,.int .i64 0,.int .u64 0,.int .i64 0,.int .i64 0,.int .u64 0,.int .i64 0,.int .i64 0,.int .u64 0,.int .i64 0,.int .i64 0,.int .u64 0,.int .i64 0,.int .i64 0,.int .u64 0,.int .i64 0,.int .i64 0,.int .u64 0,.int .i64 0,.int .i64 0,.int .u64 0,.int .i64 0,.int .i64 0,.int .u64 0,.int .i64 0,.int .i64 0,.int .u64 0,.int .i64 0,.int .i64 0,.int .u64 0,.int .i64 0,.int .i64 0,.int .u64 0,.int .i64 0,.int .i64 0,.int .u64 0,.int .i64 0,.int .i64 0,.int .u64 0,.int .i64 0,.int .i64 0,.int .u64 0,.int .i64 0,.int .i64 0,.int .u64 0,.int .i64 0,.int .i64 0,.int .u64 0,.int .i64 0,.int .i64 0,.int .u64 0,.int .i64 0,.int .i64 0,.int .u64 0,.int .i64 0,.int .i64 0,.int .u64 0,.int .i64 0,.int .i64 0,.int .u64 0,.int .i64 0,.int .i64 0,.int .u64 0,.int .i64 0,.int .i64 0,.int .u64 0,.int .i64 0,.int .i64 0,.int .u64 0,.int .i64 0,.int .i64 0,.int .u64 0,.int .i64 0,.int .i64 0,.int .u64 0,.int .i64 0,.int .i64 0,.int .u64 0,.int .i64 0,.int .i64 0,.int .u64 0,.int .i64 0,.int .i64 0,.int .u64 0,.int .i64 0,.int .i64 0,.int .u64 0,.int .i64 0,.int .i64 0,.int .u64 0,.int .i64 0,.int .i64 0,.int .u64 0,.int .i64 0,.int .i64 0,.int .u64 0,.int .i64 0,.int .i64 0,.int .u64 0]:List Value)
abbrev MA a (b c:Nat) d (e:As) f g:=([a,blk b 265 MR,blk c 203 (Z5 c d e),fM iA f 259 1 g,gP gT.cells 265 64 e.ps e.sl]:List fS)
end
section
open Go Go.Sx
theorem gY{t:TypeId}{s b:Nat}{z:Value}(h:(ya.info? t).map (fun i=>(i.size,i.bytes,i.zero))=some (s,b,some z)):TI ya t s b z:=h
theorem ti2:TI ya 2 1 8 (.int .i64 0):=gY k_
theorem gy:TI ya 3 1 8 (.int .i64 0):=gY k_
theorem GA:TI ya 4 1 1 (.bool false):=gY k_
theorem ti5:TI ya 5 1 1 (.int .u8 0):=gY k_
theorem Tz:TI ya 23 1 8 (.pointer none):=gY k_
theorem jI:TI ya 27 1 8 (.int .u64 0):=gY k_
theorem yW:TI ya 28 1 8 (.int .i64 0):=gY k_
theorem DA:TI ya 35 2 16 (.agg #[(.int .u64 0),(.int .i64 0)]):=gY k_
theorem afb:TI ya 39 1 24 (.slice none 0 0):=gY k_
theorem TF:TI ya 40 1 24 (.slice none 0 0):=gY k_
theorem ua:TI ya 46 2 16 (.agg #[(.int .u64 0),(.int .u64 0)]):=gY k_
theorem DB:TI ya 51 4 32 (.agg #[(.int .i64 0),(.int .i64 0),(.int .i64 0),(.int .i64 0)]):=gY k_
theorem afc:TI ya 55 1 1 (.int .i8 0):=gY k_
theorem afd:TI ya 57 5 5 (.agg #[(.bool false),(.int .u8 0),(.int .u8 0),(.int .i8 0),(.int .u8 0)]):=gY k_
theorem u5:TI ya 61 4 32 (.agg #[(.int .u64 0),(.int .u64 0),(.int .i64 0),(.int .i64 0)]):=gY k_
theorem Lm:TI ya 64 1 24 (.slice none 0 0):=gY k_
theorem j9:TI ya 65 1 24 (.slice none 0 0):=gY k_
theorem wV:TI ya 67 6 128 (.agg #[(.int .i64 0),(.slice none 0 0),(.slice none 0 0),(.slice none 0 0),(.slice none 0 0),(.slice none 0 0)]):=gY k_
theorem TG:TI ya 68 1 8 (.pointer none):=gY k_
theorem TH:TI ya 69 1 8 (.pointer none):=gY k_
theorem DC:TI ya 71 9 168 (.agg #[(.slice none 0 0),(.int .i64 0),(.slice none 0 0),(.slice none 0 0),(.slice none 0 0),(.slice none 0 0),(.slice none 0 0),(.pointer none),(.pointer none)]):=gY k_
theorem TJ:TI ya 78 1 8 (.pointer none):=gY k_
theorem Ln:TI ya 79 1 8 (.pointer none):=gY k_
theorem TK:TI ya 80 1 8 (.pointer none):=gY k_
theorem TL:TI ya 81 1 8 (.pointer none):=gY k_
theorem TM:TI ya 83 10 80 (.agg #[(.int .i64 0),(.int .i64 0),(.int .i64 0),(.int .i64 0),(.pointer none),(.pointer none),(.pointer none),(.pointer none),(.int .u64 0),(.int .u64 0)]):=gY k_
theorem DD:TI ya 87 2 16 (.agg #[(.int .i64 0),(.int .i64 0)]):=gY k_
theorem Lo:TI ya 94 2 16 (.agg #[(.int .i64 0),(.int .i64 0)]):=gY k_
theorem GB:TI ya 96 5 40 (.agg #[(.int .i64 0),(.int .i64 0),(.int .i64 0),(.int .i64 0),(.int .i64 0)]):=gY k_
theorem Dv:TI ya 100 2 16 (.agg #[(.bool false),(.int .u64 0)]):=gY k_
theorem Tg:TI ya 102 13 200 (.agg #[(.pointer none),(.bool false),(.int .u64 0),(.slice none 0 0),(.int .i64 0),(.slice none 0 0),(.slice none 0 0),(.slice none 0 0),(.slice none 0 0),(.slice none 0 0),(.pointer none),(.pointer none),(.int .i64 0)]):=gY k_
theorem nO:TI ya 107 7 56 (.agg #[(.int .i64 0),(.int .u64 0),(.int .u64 0),(.int .u64 0),(.int .i64 0),(.int .i64 0),(.int .i64 0)]):=gY k_
theorem Dw:TI ya 115 1 8 .nilFunc:=gY k_
theorem La:TI ya 117 1 8 (.pointer none):=gY k_
theorem Th:TI ya 118 1 8 (.map none):=gY k_
theorem Ti:TI ya 120 9 168 (.agg #[(.pointer none),(.int .i64 0),(.slice none 0 0),(.slice none 0 0),(.slice none 0 0),(.slice none 0 0),(.slice none 0 0),(.slice none 0 0),(.map none)]):=gY k_
theorem Tj:TI ya 121 1 8 (.pointer none):=gY k_
theorem Tk:TI ya 123 1 8 (.agg #[(.pointer none)]):=gY k_
theorem Lb:TI ya 126 1 8 (.pointer none):=gY k_
theorem Lc:TI ya 128 1 8 (.agg #[(.pointer none)]):=gY k_
theorem Gt:TI ya 129 1 8 (.pointer none):=gY k_
theorem Tl:TI ya 130 1 8 (.map none):=gY k_
theorem Tm:TI ya 132 6 48 (.agg #[(.int .i64 0),(.int .i64 0),(.pointer none),(.pointer none),(.map none),(.int .i64 0)]):=gY k_
theorem Tn:TI ya 135 8 160 (.agg #[(.pointer none),(.int .i64 0),(.slice none 0 0),(.slice none 0 0),(.slice none 0 0),(.slice none 0 0),(.slice none 0 0),(.slice none 0 0)]):=gY k_
theorem Gu:TI ya 138 1 8 (.pointer none):=gY k_
theorem Ld:TI ya 139 1 8 (.pointer none):=gY k_
theorem To:TI ya 140 1 24 (.slice none 0 0):=gY k_
theorem Tp:TI ya 141 1 8 (.map none):=gY k_
theorem Tq:TI ya 143 7 72 (.agg #[(.int .i64 0),(.int .i64 0),(.int .u64 0),(.pointer none),(.pointer none),(.slice none 0 0),(.map none)]):=gY k_
theorem Ts:TI ya 145 4 32 (.agg #[(.int .i64 0),(.int .i64 0),(.int .i64 0),(.int .i64 0)]):=gY k_
theorem Tt:TI ya 154 1 8 (.int .i64 0):=gY k_
theorem Tu:TI ya 156 2 16 (.agg #[(.int .i64 0),(.int .i64 0)]):=gY k_
theorem pV:TI ya 161 2 16 (.agg #[(.int .i64 0),(.int .i64 0)]):=gY k_
theorem yT:TI ya 165 4 32 (.agg #[(.int .i64 0),(.int .i64 0),(.int .i64 0),(.bool false)]):=gY k_
theorem Tv:TI ya 179 1 24 (.slice none 0 0):=gY k_
theorem Gv:TI ya 190 2 16 (.agg #[(.int .i64 0),(.int .i64 0)]):=gY k_
theorem jj:TI ya 192 9 72 (.agg #[(.int .i64 0),(.int .i64 0),(.int .i64 0),(.bool false),(.int .i64 0),(.int .i64 0),(.int .i64 0),(.int .i64 0),(.int .i64 0)]):=gY k_
theorem Tw:TI ya 193 1 24 (.slice none 0 0):=gY k_
theorem Le:TI ya 195 3 40 (.agg #[(.pointer none),(.slice none 0 0),(.int .i64 0)]):=gY k_
theorem Gx:TI ya 200 4 64 (.agg #[(.pointer none),(.pointer none),(.slice none 0 0),(.slice none 0 0)]):=gY k_
theorem Tx:TI ya 201 1 24 (.slice none 0 0):=gY k_
theorem Gy:TI ya 203 6 64 (.agg #[(.pointer none),(.slice none 0 0),(.int .i64 0),(.int .i64 0),(.int .i64 0),(.int .i64 0)]):=gY k_
theorem Lf:TI ya 211 2 16 (.agg #[(.int .i64 0),(.pointer none)]):=gY k_
theorem Ty:TI ya 218 3 24 (.agg #[(.int .i64 0),(.int .i64 0),(.int .u64 0)]):=gY k_
theorem yU:TI ya 235 3 24 (.agg #[(.int .i64 0),(.int .i64 0),(.int .i64 0)]):=gY k_
theorem Dx:TI ya 242 1 24 (.slice none 0 0):=gY k_
theorem yV:TI ya 244 2 16 (.agg #[(.int .i64 0),(.int .i64 0)]):=gY k_
theorem TA:TI ya 245 13 312 (.agg #[(.slice none 0 0),(.slice none 0 0),(.slice none 0 0),(.slice none 0 0),(.slice none 0 0),(.slice none 0 0),(.slice none 0 0),(.slice none 0 0),(.slice none 0 0),(.slice none 0 0),(.slice none 0 0),(.slice none 0 0),(.slice none 0 0)]):=gY k_
theorem TB:TI ya 247 15 344 (.agg #[(.bool false),(.slice none 0 0),(.slice none 0 0),(.slice none 0 0),(.slice none 0 0),(.slice none 0 0),(.slice none 0 0),(.slice none 0 0),(.slice none 0 0),(.slice none 0 0),(.slice none 0 0),(.slice none 0 0),(.slice none 0 0),(.slice none 0 0),(.slice none 0 0)]):=gY k_
theorem afa:TI ya 251 1 24 (.slice none 0 0):=gY k_
theorem Lg:TI ya 252 1 24 (.slice none 0 0):=gY k_
theorem Lh:TI ya 253 1 24 (.slice none 0 0):=gY k_
theorem Gz:TI ya 255 4 64 (.agg #[(.pointer none),(.int .i64 0),(.slice none 0 0),(.slice none 0 0)]):=gY k_
theorem Dy:TI ya 259 1 8 (.pointer none):=gY k_
theorem Li:TI ya 265 192 1536 (.agg #[(.int .i64 0),(.int .i64 0),(.int .u64 0),(.int .i64 0),(.int .i64 0),(.int .u64 0),(.int .i64 0),(.int .i64 0),(.int .u64 0),(.int .i64 0),(.int .i64 0),(.int .u64 0),(.int .i64 0),(.int .i64 0),(.int .u64 0),(.int .i64 0),(.int .i64 0),(.int .u64 0),(.int .i64 0),(.int .i64 0),(.int .u64 0),(.int .i64 0),(.int .i64 0),(.int .u64 0),(.int .i64 0),(.int .i64 0),(.int .u64 0),(.int .i64 0),(.int .i64 0),(.int .u64 0),(.int .i64 0),(.int .i64 0),(.int .u64 0),(.int .i64 0),(.int .i64 0),(.int .u64 0),(.int .i64 0),(.int .i64 0),(.int .u64 0),(.int .i64 0),(.int .i64 0),(.int .u64 0),(.int .i64 0),(.int .i64 0),(.int .u64 0),(.int .i64 0),(.int .i64 0),(.int .u64 0),(.int .i64 0),(.int .i64 0),(.int .u64 0),(.int .i64 0),(.int .i64 0),(.int .u64 0),(.int .i64 0),(.int .i64 0),(.int .u64 0),(.int .i64 0),(.int .i64 0),(.int .u64 0),(.int .i64 0),(.int .i64 0),(.int .u64 0),(.int .i64 0),(.int .i64 0),(.int .u64 0),(.int .i64 0),(.int .i64 0),(.int .u64 0),(.int .i64 0),(.int .i64 0),(.int .u64 0),(.int .i64 0),(.int .i64 0),(.int .u64 0),(.int .i64 0),(.int .i64 0),(.int .u64 0),(.int .i64 0),(.int .i64 0),(.int .u64 0),(.int .i64 0),(.int .i64 0),(.int .u64 0),(.int .i64 0),(.int .i64 0),(.int .u64 0),(.int .i64 0),(.int .i64 0),(.int .u64 0),(.int .i64 0),(.int .i64 0),(.int .u64 0),(.int .i64 0),(.int .i64 0),(.int .u64 0),(.int .i64 0),(.int .i64 0),(.int .u64 0),(.int .i64 0),(.int .i64 0),(.int .u64 0),(.int .i64 0),(.int .i64 0),(.int .u64 0),(.int .i64 0),(.int .i64 0),(.int .u64 0),(.int .i64 0),(.int .i64 0),(.int .u64 0),(.int .i64 0),(.int .i64 0),(.int .u64 0),(.int .i64 0),(.int .i64 0),(.int .u64 0),(.int .i64 0),(.int .i64 0),(.int .u64 0),(.int .i64 0),(.int .i64 0),(.int .u64 0),(.int .i64 0),(.int .i64 0),(.int .u64 0),(.int .i64 0),(.int .i64 0),(.int .u64 0),(.int .i64 0),(.int .i64 0),(.int .u64 0),(.int .i64 0),(.int .i64 0),(.int .u64 0),(.int .i64 0),(.int .i64 0),(.int .u64 0),(.int .i64 0),(.int .i64 0),(.int .u64 0),(.int .i64 0),(.int .i64 0),(.int .u64 0),(.int .i64 0),(.int .i64 0),(.int .u64 0),(.int .i64 0),(.int .i64 0),(.int .u64 0),(.int .i64 0),(.int .i64 0),(.int .u64 0),(.int .i64 0),(.int .i64 0),(.int .u64 0),(.int .i64 0),(.int .i64 0),(.int .u64 0),(.int .i64 0),(.int .i64 0),(.int .u64 0),(.int .i64 0),(.int .i64 0),(.int .u64 0),(.int .i64 0),(.int .i64 0),(.int .u64 0),(.int .i64 0),(.int .i64 0),(.int .u64 0),(.int .i64 0),(.int .i64 0),(.int .u64 0),(.int .i64 0),(.int .i64 0),(.int .u64 0),(.int .i64 0),(.int .i64 0),(.int .u64 0),(.int .i64 0),(.int .i64 0),(.int .u64 0),(.int .i64 0),(.int .i64 0),(.int .u64 0),(.int .i64 0),(.int .i64 0),(.int .u64 0),(.int .i64 0),(.int .i64 0),(.int .u64 0)]):=gY k_
theorem Dz:TI ya 269 1 8 (.pointer none):=gY k_
theorem Lj:TI ya 271 64 512 (.agg #[(.int .i64 0),(.int .i64 0),(.int .i64 0),(.int .i64 0),(.int .i64 0),(.int .i64 0),(.int .i64 0),(.int .i64 0),(.int .i64 0),(.int .i64 0),(.int .i64 0),(.int .i64 0),(.int .i64 0),(.int .i64 0),(.int .i64 0),(.int .i64 0),(.int .i64 0),(.int .i64 0),(.int .i64 0),(.int .i64 0),(.int .i64 0),(.int .i64 0),(.int .i64 0),(.int .i64 0),(.int .i64 0),(.int .i64 0),(.int .i64 0),(.int .i64 0),(.int .i64 0),(.int .i64 0),(.int .i64 0),(.int .i64 0),(.int .i64 0),(.int .i64 0),(.int .i64 0),(.int .i64 0),(.int .i64 0),(.int .i64 0),(.int .i64 0),(.int .i64 0),(.int .i64 0),(.int .i64 0),(.int .i64 0),(.int .i64 0),(.int .i64 0),(.int .i64 0),(.int .i64 0),(.int .i64 0),(.int .i64 0),(.int .i64 0),(.int .i64 0),(.int .i64 0),(.int .i64 0),(.int .i64 0),(.int .i64 0),(.int .i64 0),(.int .i64 0),(.int .i64 0),(.int .i64 0),(.int .i64 0),(.int .i64 0),(.int .i64 0),(.int .i64 0),(.int .i64 0)]):=gY k_
theorem TC:TI ya 274 1 8 (.pointer none):=gY k_
theorem TD:TI ya 277 1 8 (.pointer none):=gY k_
theorem Ll:TI ya 294 5 88 (.agg #[(.pointer none),(.slice none 0 0),(.slice none 0 0),(.slice none 0 0),(.int .i64 0)]):=gY k_
theorem TE:TI ya 305 4 80 (.agg #[(.pointer none),(.slice none 0 0),(.slice none 0 0),(.slice none 0 0)]):=gY k_
theorem acR:kj ya 35 [(0,1),(1,1)]:=⟨_,Bp,fun w=>by simp[TI.size jI,TI.size gy]⟩
theorem RY:kj ya 51 [(0,1),(1,1),(2,1),(3,1)]:=⟨_,G2,fun w=>by simp[TI.size ti2,TI.size gy]⟩
theorem FZ:kj ya 61 [(0,1),(1,1),(2,1),(3,1)]:=⟨_,DI,fun w=>by simp[TI.size ti2,TI.size jI]⟩
theorem acS:kj ya 67 [(0,1),(1,1),(2,1),(3,1),(4,1),(5,1)]:=⟨_,Tryz.underlying67,fun w=>by simp[TI.size gy,TI.size TF,TI.size j9]⟩
theorem acT:kj ya 71 [(0,1),(1,6),(7,1),(8,1)]:=⟨_,G3,fun w=>by simp[TI.size Lm,TI.size wV,TI.size TG,TI.size TH]⟩
theorem acU:kj ya 83 [(0,4),(4,1),(5,1),(6,1),(7,1),(8,1),(9,1)]:=⟨_,Tryz.underlying83,fun w=>by simp[TI.size jI,TI.size DB,TI.size TJ,TI.size Ln,TI.size TK,TI.size TL]⟩
theorem acV:kj ya 87 [(0,1),(1,1)]:=⟨_,Tryz.underlying87,fun w=>by simp[TI.size gy]⟩
theorem acW:kj ya 94 [(0,1),(1,1)]:=⟨_,Tryz.underlying94,fun w=>by simp[TI.size ti2]⟩
theorem acX:kj ya 96 [(0,1),(1,1),(2,2),(4,1)]:=⟨_,Tryz.underlying96,fun w=>by simp[TI.size gy,TI.size Lo]⟩
theorem RP:kj ya 100 [(0,1),(1,1)]:=⟨_,GX,fun w=>by simp[TI.size jI,TI.size GA]⟩
theorem acD:kj ya 102 [(0,1),(1,2),(3,9),(12,1)]:=⟨_,Tryz.underlying102,fun w=>by simp[TI.size Dv,TI.size Tz,TI.size gy,TI.size DC]⟩
theorem Kr:kj ya 107 [(0,1),(1,1),(2,4),(6,1)]:=⟨_,wY,fun w=>by simp[TI.size ti2,TI.size jI,TI.size gy,TI.size u5]⟩
theorem acE:kj ya 120 [(0,1),(1,6),(7,1),(8,1)]:=⟨_,Tryz.underlying120,fun w=>by simp[TI.size La,TI.size Th,TI.size j9,TI.size wV]⟩
theorem acF:kj ya 123 [(0,1)]:=⟨_,Tryz.underlying123,fun w=>by simp[TI.size Tj]⟩
theorem acG:kj ya 128 [(0,1)]:=⟨_,Tryz.underlying128,fun w=>by simp[TI.size Lb]⟩
theorem acH:kj ya 132 [(0,1),(1,1),(2,1),(3,1),(4,1),(5,1)]:=⟨_,Tryz.underlying132,fun w=>by simp[TI.size Lc,TI.size Gt,TI.size Tl,TI.size gy]⟩
theorem acI:kj ya 135 [(0,1),(1,6),(7,1)]:=⟨_,Tryz.underlying135,fun w=>by simp[TI.size La,TI.size j9,TI.size wV]⟩
theorem acJ:kj ya 143 [(0,1),(1,1),(2,1),(3,1),(4,1),(5,1),(6,1)]:=⟨_,Tryz.underlying143,fun w=>by simp[TI.size Gu,TI.size Ld,TI.size To,TI.size Tp,TI.size jI,TI.size gy]⟩
theorem acK:kj ya 156 [(0,1),(1,1)]:=⟨_,Tryz.underlying156,fun w=>by simp[TI.size Tt,TI.size ti2]⟩
theorem RQ:kj ya 161 [(0,1),(1,1)]:=⟨_,wZ,fun w=>by simp[TI.size ti2,TI.size gy]⟩
theorem acL:kj ya 165 [(0,1),(1,1),(2,1),(3,1)]:=⟨_,Tryz.underlying165,fun w=>by simp[TI.size ti2,TI.size gy,TI.size GA]⟩
theorem acM:kj ya 195 [(0,1),(1,1),(2,1)]:=⟨_,Tryz.underlying195,fun w=>by simp[TI.size Lb,TI.size Tw,TI.size gy]⟩
theorem RS:kj ya 200 [(0,1),(1,1),(2,1),(3,1)]:=⟨_,Tryz.underlying200,fun w=>by simp[TI.size Gu,TI.size Ld,TI.size Lm,TI.size j9]⟩
theorem RT:kj ya 203 [(0,1),(1,1),(2,1),(3,1),(4,1),(5,1)]:=⟨_,Tryz.underlying203,fun w=>by simp[TI.size Gu,TI.size Tx,TI.size gy]⟩
theorem RU:kj ya 211 [(0,1),(1,1)]:=⟨_,Tryz.underlying211,fun w=>by simp[TI.size Gt,TI.size gy]⟩
theorem acN:kj ya 235 [(0,1),(1,1),(2,1)]:=⟨_,GZ,fun w=>by simp[TI.size ti2,TI.size gy]⟩
theorem RW:kj ya 244 [(0,1),(1,1)]:=⟨_,Tryz.underlying244,fun w=>by simp[TI.size gy]⟩
theorem acO:kj ya 247 [(0,1),(1,1),(2,13)]:=⟨_,Tryz.underlying247,fun w=>by simp[TI.size TA,TI.size GA,TI.size j9]⟩
theorem RX:kj ya 255 [(0,1),(1,1),(2,1),(3,1)]:=⟨_,DG,fun w=>by simp[TI.size Gt,TI.size Lg,TI.size Lh,TI.size gy]⟩
theorem acP:kj ya 294 [(0,1),(1,1),(2,1),(3,1),(4,1)]:=⟨_,Tryz.underlying294,fun w=>by simp[TI.size TD,TI.size gy,TI.size j9]⟩
theorem acQ:kj ya 305 [(0,1),(1,1),(2,1),(3,1)]:=⟨_,Tryz.underlying305,fun w=>by simp[TI.size Tv,TI.size TC,TI.size j9]⟩
theorem XQ:gi ya 5:=enters_of Tryz.func5 k_ rfl
theorem Cz:gi ya 6:=enters_of Tryz.func6 k_ rfl
theorem O7:gi ya 7:=enters_of Tryz.func7 k_ rfl
theorem E1:gi ya 8:=enters_of Tryz.func8 k_ rfl
theorem Ay:gi ya 9:=enters_of Tryz.func9 k_ rfl
theorem Wz:gi ya 10:=enters_of Tryz.func10 k_ rfl
theorem Om:gi ya 12:=enters_of Tryz.func12 k_ rfl
theorem Oo:gi ya 13:=enters_of Tryz.func13 k_ rfl
theorem WX:gi ya 14:=enters_of Tryz.func14 k_ rfl
theorem Oz:gi ya 15:=enters_of Tryz.func15 k_ rfl
theorem EX:gi ya 16:=enters_of Tryz.func16 k_ rfl
theorem uG:gi ya 17:=enters_of Tryz.func17 k_ rfl
theorem tH:gi ya 18:=enters_of Tryz.func18 k_ rfl
theorem Cu:gi ya 19:=enters_of Tryz.func19 k_ rfl
theorem OT:gi ya 20:=enters_of Tryz.func20 k_ rfl
theorem Xw:gi ya 21:=enters_of Tryz.func21 k_ rfl
theorem Av:gi ya 22:=enters_of Tryz.func22 k_ rfl
theorem OX:gi ya 23:=enters_of Tryz.func23 k_ rfl
theorem XB:gi ya 24:=enters_of Tryz.func24 k_ rfl
theorem XC:gi ya 25:=enters_of Tryz.func25 k_ rfl
theorem OY:gi ya 26:=enters_of Tryz.func26 k_ rfl
theorem OZ:gi ya 27:=enters_of Tryz.func27 k_ rfl
theorem XD:gi ya 28:=enters_of Tryz.func28 k_ rfl
theorem XE:gi ya 29:=enters_of Tryz.func29 k_ rfl
theorem vZ:gi ya 30:=enters_of Tryz.func30 k_ rfl
theorem XF:gi ya 34:=enters_of Tryz.func34 k_ rfl
theorem XG:gi ya 35:=enters_of Tryz.func35 k_ rfl
theorem XH:gi ya 36:=enters_of Tryz.func36 k_ rfl
theorem XI:gi ya 37:=enters_of Tryz.func37 k_ rfl
theorem O1:gi ya 38:=enters_of Tryz.func38 k_ rfl
theorem XJ:gi ya 39:=enters_of Tryz.func39 k_ rfl
theorem O2:gi ya 40:=enters_of Tryz.func40 k_ rfl
theorem O3:gi ya 41:=enters_of Tryz.func41 k_ rfl
theorem XK:gi ya 42:=enters_of Tryz.func42 k_ rfl
theorem XL:gi ya 43:=enters_of Tryz.func43 k_ rfl
theorem XM:gi ya 44:=enters_of Tryz.func44 k_ rfl
theorem O4:gi ya 45:=enters_of Tryz.func45 k_ rfl
theorem XN:gi ya 46:=enters_of Tryz.func46 k_ rfl
theorem IS:gi ya 47:=enters_of Tryz.func47 k_ rfl
theorem XO:gi ya 48:=enters_of Tryz.func48 k_ rfl
theorem XP:gi ya 49:=enters_of Tryz.func49 k_ rfl
theorem EZ:gi ya 50:=enters_of Tryz.func50 k_ rfl
theorem Cy:gi ya 51:=enters_of Tryz.func51 k_ rfl
theorem E0:gi ya 52:=enters_of Tryz.func52 k_ rfl
theorem XR:gi ya 53:=enters_of Tryz.func53 k_ rfl
theorem XS:gi ya 54:=enters_of Tryz.func54 k_ rfl
theorem O5:gi ya 55:=enters_of Tryz.func55 k_ rfl
theorem Ax:gi ya 56:=enters_of Tryz.func56 k_ rfl
theorem XT:gi ya 57:=enters_of Tryz.func57 k_ rfl
theorem IT:gi ya 58:=enters_of Tryz.func58 k_ rfl
theorem IU:gi ya 59:=enters_of Tryz.func59 k_ rfl
theorem XU:gi ya 60:=enters_of Tryz.func60 k_ rfl
theorem XV:gi ya 61:=enters_of Tryz.func61 k_ rfl
theorem XW:gi ya 62:=enters_of Tryz.func62 k_ rfl
theorem XX:gi ya 63:=enters_of Tryz.func63 k_ rfl
theorem XY:gi ya 64:=enters_of Tryz.func64 k_ rfl
theorem IV:gi ya 65:=enters_of Tryz.func65 k_ rfl
theorem CA:gi ya 66:=enters_of Tryz.func66 k_ rfl
theorem XZ:gi ya 67:=enters_of Tryz.func67 k_ rfl
theorem O6:gi ya 68:=enters_of Tryz.func68 k_ rfl
theorem IW:gi ya 69:=enters_of Tryz.func69 k_ rfl
theorem O8:gi ya 70:=enters_of Tryz.func70 k_ rfl
theorem IX:gi ya 71:=enters_of Tryz.func71 k_ rfl
theorem IY:gi ya 72:=enters_of Tryz.func72 k_ rfl
theorem IZ:gi ya 73:=enters_of Tryz.func73 k_ rfl
theorem O9:gi ya 74:=enters_of Tryz.func74 k_ rfl
theorem I1:gi ya 75:=enters_of Tryz.func75 k_ rfl
theorem Pa:gi ya 76:=enters_of Tryz.func76 k_ rfl
theorem X0:gi ya 77:=enters_of Tryz.func77 k_ rfl
theorem X3:gi ya 78:=enters_of Tryz.func78 k_ rfl
theorem X4:gi ya 79:=enters_of Tryz.func79 k_ rfl
theorem Pb:gi ya 80:=enters_of Tryz.func80 k_ rfl
theorem X5:gi ya 81:=enters_of Tryz.func81 k_ rfl
theorem X6:gi ya 82:=enters_of Tryz.func82 k_ rfl
theorem X7:gi ya 83:=enters_of Tryz.func83 k_ rfl
theorem X8:gi ya 84:=enters_of Tryz.func84 k_ rfl
theorem I2:gi ya 85:=enters_of Tryz.func85 k_ rfl
theorem X9:gi ya 86:=enters_of Tryz.func86 k_ rfl
theorem Ya:gi ya 87:=enters_of Tryz.func87 k_ rfl
theorem Yb:gi ya 88:=enters_of Tryz.func88 k_ rfl
theorem Pc:gi ya 89:=enters_of Tryz.func89 k_ rfl
theorem Yc:gi ya 90:=enters_of Tryz.func90 k_ rfl
theorem E3:gi ya 91:=enters_of Tryz.func91 k_ rfl
theorem E4:gi ya 92:=enters_of Tryz.func92 k_ rfl
theorem xP:gi ya 93:=enters_of Tryz.func93 k_ rfl
theorem Yd:gi ya 94:=enters_of Tryz.func94 k_ rfl
theorem Ye:gi ya 95:=enters_of Tryz.func95 k_ rfl
theorem Pd:gi ya 96:=enters_of Tryz.func96 k_ rfl
theorem v7:gi ya 97:=enters_of Tryz.func97 k_ rfl
theorem v8:gi ya 98:=enters_of Tryz.func98 k_ rfl
theorem Pe:gi ya 99:=enters_of Tryz.func99 k_ rfl
theorem WA:gi ya 100:=enters_of Tryz.func100 k_ rfl
theorem Of:gi ya 101:=enters_of Tryz.func101 k_ rfl
theorem WB:gi ya 102:=enters_of Tryz.func102 k_ rfl
theorem Og:gi ya 103:=enters_of Tryz.func103 k_ rfl
theorem WD:gi ya 104:=enters_of Tryz.func104 k_ rfl
theorem Ar:gi ya 105:=enters_of Tryz.func105 k_ rfl
theorem WE:gi ya 106:=enters_of Tryz.func106 k_ rfl
theorem Oh:gi ya 107:=enters_of Tryz.func107 k_ rfl
theorem Oi:gi ya 108:=enters_of Tryz.func108 k_ rfl
theorem Au:gi ya 109:=enters_of Tryz.func109 k_ rfl
theorem Cr:gi ya 110:=enters_of Tryz.func110 k_ rfl
theorem WG:gi ya 111:=enters_of Tryz.func111 k_ rfl
theorem WH:gi ya 112:=enters_of Tryz.func112 k_ rfl
theorem Oj:gi ya 113:=enters_of Tryz.func113 k_ rfl
theorem WI:gi ya 114:=enters_of Tryz.func114 k_ rfl
theorem WJ:gi ya 115:=enters_of Tryz.func115 k_ rfl
theorem WK:gi ya 116:=enters_of Tryz.func116 k_ rfl
theorem IK:gi ya 117:=enters_of Tryz.func117 k_ rfl
theorem WM:gi ya 118:=enters_of Tryz.func118 k_ rfl
theorem Ol:gi ya 119:=enters_of Tryz.func119 k_ rfl
theorem EU:gi ya 120:=enters_of Tryz.func120 k_ rfl
theorem WN:gi ya 121:=enters_of Tryz.func121 k_ rfl
theorem WO:gi ya 122:=enters_of Tryz.func122 k_ rfl
theorem On:gi ya 124:=enters_of Tryz.func124 k_ rfl
theorem WQ:gi ya 125:=enters_of Tryz.func125 k_ rfl
theorem IL:gi ya 126:=enters_of Tryz.func126 k_ rfl
theorem WR:gi ya 127:=enters_of Tryz.func127 k_ rfl
theorem WT:gi ya 128:=enters_of Tryz.func128 k_ rfl
theorem WU:gi ya 129:=enters_of Tryz.func129 k_ rfl
theorem Oq:gi ya 130:=enters_of Tryz.func130 k_ rfl
theorem Ot:gi ya 131:=enters_of Tryz.func131 k_ rfl
theorem Ou:gi ya 132:=enters_of Tryz.func132 k_ rfl
theorem EV:gi ya 133:=enters_of Tryz.func133 k_ rfl
theorem Ov:gi ya 134:=enters_of Tryz.func134 k_ rfl
theorem WV:gi ya 135:=enters_of Tryz.func135 k_ rfl
theorem Ow:gi ya 136:=enters_of Tryz.func136 k_ rfl
theorem Ox:gi ya 137:=enters_of Tryz.func137 k_ rfl
theorem lT:gi ya 138:=enters_of Tryz.func138 k_ rfl
theorem Oy:gi ya 139:=enters_of Tryz.func139 k_ rfl
theorem WY:gi ya 140:=enters_of Tryz.func140 k_ rfl
theorem WZ:gi ya 141:=enters_of Tryz.func141 k_ rfl
theorem W0:gi ya 142:=enters_of Tryz.func142 k_ rfl
theorem W1:gi ya 143:=enters_of Tryz.func143 k_ rfl
theorem W2:gi ya 144:=enters_of Tryz.func144 k_ rfl
theorem W3:gi ya 145:=enters_of Tryz.func145 k_ rfl
theorem W4:gi ya 146:=enters_of Tryz.func146 k_ rfl
theorem W5:gi ya 147:=enters_of Tryz.func147 k_ rfl
theorem IN:gi ya 148:=enters_of Tryz.func148 k_ rfl
theorem Cs:gi ya 149:=enters_of Tryz.func149 k_ rfl
theorem IP:gi ya 150:=enters_of Tryz.func150 k_ rfl
theorem EW:gi ya 151:=enters_of Tryz.func151 k_ rfl
theorem OA:gi ya 152:=enters_of Tryz.func152 k_ rfl
theorem W6:gi ya 153:=enters_of Tryz.func153 k_ rfl
theorem IQ:gi ya 154:=enters_of Tryz.func154 k_ rfl
theorem W7:gi ya 155:=enters_of Tryz.func155 k_ rfl
theorem OB:gi ya 156:=enters_of Tryz.func156 k_ rfl
theorem W8:gi ya 157:=enters_of Tryz.func157 k_ rfl
theorem OC:gi ya 159:=enters_of Tryz.func159 k_ rfl
theorem OD:gi ya 160:=enters_of Tryz.func160 k_ rfl
theorem W9:gi ya 161:=enters_of Tryz.func161 k_ rfl
theorem Xa:gi ya 162:=enters_of Tryz.func162 k_ rfl
theorem OE:gi ya 163:=enters_of Tryz.func163 k_ rfl
theorem OG:gi ya 164:=enters_of Tryz.func164 k_ rfl
theorem OH:gi ya 165:=enters_of Tryz.func165 k_ rfl
theorem Xb:gi ya 166:=enters_of Tryz.func166 k_ rfl
theorem Xc:gi ya 167:=enters_of Tryz.func167 k_ rfl
theorem Xd:gi ya 168:=enters_of Tryz.func168 k_ rfl
theorem Xe:gi ya 169:=enters_of Tryz.func169 k_ rfl
theorem Xf:gi ya 170:=enters_of Tryz.func170 k_ rfl
theorem Xg:gi ya 171:=enters_of Tryz.func171 k_ rfl
theorem Xh:gi ya 172:=enters_of Tryz.func172 k_ rfl
theorem Xi:gi ya 173:=enters_of Tryz.func173 k_ rfl
theorem mT:gi ya 174:=enters_of Tryz.func174 k_ rfl
theorem Xj:gi ya 175:=enters_of Tryz.func175 k_ rfl
theorem Xk:gi ya 176:=enters_of Tryz.func176 k_ rfl
theorem Ct:gi ya 177:=enters_of Tryz.func177 k_ rfl
theorem EY:gi ya 178:=enters_of Tryz.func178 k_ rfl
theorem OI:gi ya 179:=enters_of Tryz.func179 k_ rfl
theorem OJ:gi ya 180:=enters_of Tryz.func180 k_ rfl
theorem OK:gi ya 181:=enters_of Tryz.func181 k_ rfl
theorem OL:gi ya 182:=enters_of Tryz.func182 k_ rfl
theorem Xl:gi ya 183:=enters_of Tryz.func183 k_ rfl
theorem Xm:gi ya 184:=enters_of Tryz.func184 k_ rfl
theorem OM:gi ya 185:=enters_of Tryz.func185 k_ rfl
theorem Xn:gi ya 186:=enters_of Tryz.func186 k_ rfl
theorem Xo:gi ya 189:=enters_of Tryz.func189 k_ rfl
theorem Xp:gi ya 190:=enters_of Tryz.func190 k_ rfl
theorem Xq:gi ya 191:=enters_of Tryz.func191 k_ rfl
theorem ON:gi ya 193:=enters_of Tryz.func193 k_ rfl
theorem OO:gi ya 194:=enters_of Tryz.func194 k_ rfl
theorem OP:gi ya 195:=enters_of Tryz.func195 k_ rfl
theorem OQ:gi ya 196:=enters_of Tryz.func196 k_ rfl
theorem OR:gi ya 197:=enters_of Tryz.func197 k_ rfl
theorem OS:gi ya 198:=enters_of Tryz.func198 k_ rfl
theorem Xr:gi ya 199:=enters_of Tryz.func199 k_ rfl
theorem Xs:gi ya 200:=enters_of Tryz.func200 k_ rfl
theorem Xt:gi ya 201:=enters_of Tryz.func201 k_ rfl
theorem lF:gi ya 202:=enters_of Tryz.func202 k_ rfl
theorem Cw:gi ya 203:=enters_of Tryz.func203 k_ rfl
theorem Xu:gi ya 204:=enters_of Tryz.func204 k_ rfl
theorem OU:gi ya 206:=enters_of Tryz.func206 k_ rfl
theorem Xv:gi ya 207:=enters_of Tryz.func207 k_ rfl
theorem OV:gi ya 208:=enters_of Tryz.func208 k_ rfl
theorem OW:gi ya 209:=enters_of Tryz.func209 k_ rfl
theorem Xx:gi ya 212:=enters_of Tryz.func212 k_ rfl
theorem Xy:gi ya 222:=enters_of Tryz.func222 k_ rfl
theorem Xz:gi ya 223:=enters_of Tryz.func223 k_ rfl
theorem XA:gi ya 231:=enters_of Tryz.func231 k_ rfl
theorem mixed:ya.follows .mixedOrders=true:=by kernel_rfl
instance tt:TT ya:=⟨mixed,[(2,_),(3,_),(4,_),(5,_),(22,_),(23,_),(27,_),(35,_),(39,_),(40,_),(46,_),(51,_),(55,_),(57,_),(61,_),(64,_),(65,_),(67,_),(68,_),(69,_),(71,_),(78,_),(79,_),(80,_),(81,_),(83,_),(87,_),(90,_),(94,_),(96,_),(100,_),(102,_),(107,_),(117,_),(118,_),(120,_),(123,_),(126,_),(128,_),(129,_),(130,_),(132,_),(135,_),(138,_),(139,_),(140,_),(141,_),(143,_),(145,_),(154,_),(156,_),(161,_),(165,_),(179,_),(188,_),(190,_),(192,_),(193,_),(195,_),(200,_),(201,_),(203,_),(211,_),(235,_),(239,_),(247,_),(251,_),(252,_),(253,_),(255,_),(259,_),(269,_),(277,_),(294,_),(298,_),(305,_)],[(2,_,_,_),(3,_,_,_),(4,_,_,_),(5,_,_,_),(23,_,_,_),(27,_,_,_),(28,_,_,_),(35,_,_,_),(39,_,_,_),(40,_,_,_),(46,_,_,_),(51,_,_,_),(55,_,_,_),(57,_,_,_),(61,_,_,_),(64,_,_,_),(65,_,_,_),(67,_,_,_),(68,_,_,_),(69,_,_,_),(71,_,_,_),(78,_,_,_),(79,_,_,_),(80,_,_,_),(81,_,_,_),(83,_,_,_),(87,_,_,_),(94,_,_,_),(96,_,_,_),(100,_,_,_),(102,_,_,_),(107,_,_,_),(115,_,_,_),(117,_,_,_),(118,_,_,_),(120,_,_,_),(121,_,_,_),(123,_,_,_),(126,_,_,_),(128,_,_,_),(129,_,_,_),(130,_,_,_),(132,_,_,_),(135,_,_,_),(138,_,_,_),(139,_,_,_),(140,_,_,_),(141,_,_,_),(143,_,_,_),(145,_,_,_),(154,_,_,_),(156,_,_,_),(161,_,_,_),(165,_,_,_),(179,_,_,_),(190,_,_,_),(192,_,_,_),(193,_,_,_),(195,_,_,_),(200,_,_,_),(201,_,_,_),(203,_,_,_),(211,_,_,_),(218,_,_,_),(235,_,_,_),(242,_,_,_),(244,_,_,_),(245,_,_,_),(247,_,_,_),(251,_,_,_),(252,_,_,_),(253,_,_,_),(255,_,_,_),(259,_,_,_),(265,_,_,_),(269,_,_,_),(271,_,_,_),(274,_,_,_),(277,_,_,_),(294,_,_,_),(305,_,_,_)],⟨vg,yf,yz,Tryz.underlying5,Tryz.underlying22,DH,yj,Bp,Bq,y9,oq,G2,Tryz.underlying55,Tryz.underlying57,DI,ot,yd,Tryz.underlying67,Tryz.underlying68,Tryz.underlying69,G3,Tryz.underlying78,G4,Tryz.underlying80,Tryz.underlying81,Tryz.underlying83,Tryz.underlying87,G5,Tryz.underlying94,Tryz.underlying96,GX,Tryz.underlying102,wY,yZ,zA,Tryz.underlying120,Tryz.underlying123,Tryz.underlying126,Tryz.underlying128,GY,sj,Tryz.underlying132,Tryz.underlying135,Tryz.underlying138,Tryz.underlying139,sn,yv,Tryz.underlying143,zB,Tryz.underlying154,Tryz.underlying156,wZ,Tryz.underlying165,pW,Tryz.underlying188,ym,Tryz.underlying192,yh,Tryz.underlying195,Tryz.underlying200,Bn,Tryz.underlying203,Tryz.underlying211,GZ,Tryz.underlying239,Tryz.underlying247,Bo,ve,y8,DG,Tryz.underlying259,zC,Tryz.underlying277,Tryz.underlying294,Tryz.underlying298,Tryz.underlying305,trivial⟩,⟨ti2,gy,GA,ti5,Tz,jI,yW,DA,afb,TF,ua,DB,afc,afd,u5,Lm,j9,wV,TG,TH,DC,TJ,Ln,TK,TL,TM,DD,Lo,GB,Dv,Tg,nO,Dw,La,Th,Ti,Tj,Tk,Lb,Lc,Gt,Tl,Tm,Tn,Gu,Ld,To,Tp,Tq,Ts,Tt,Tu,pV,yT,Tv,Gv,jj,Tw,Le,Gx,Tx,Gy,Lf,Ty,yU,Dx,yV,TA,TB,afa,Lg,Lh,Gz,Dy,Li,Dz,Lj,TC,TD,Ll,TE,trivial⟩⟩
end
section
open Go Go.Sx
theorem Rh(x:Int)(w:World) :
 CR ya 208 (Z8 x) w (fun r w' => r = .bool false/\gz [] w w'):=by
 refine en Tryz.func208 Tryz.ntmps208 ?_
 have a:=yt w
 refine iP a 14 ?_
 refine gp (v:=Zn) Tryz.results208 rfl ?_
 exact⟨rfl,a.gC s_⟩
theorem VR(x y:Int)(w:World) :
 CR ya 194 (Zz x y) w (fun r w' => r = .int .i64 (jc x y)/\gz [] w w'):=by
 refine en Tryz.func194 Tryz.ntmps194 ?_
 have i:=yt w
 refine fR i 8 ?_
 refine cl OV (Rh x w) ?_
 rintro _ c ⟨rfl,d⟩
 have b:=yq i d
 refine fK b 6 ?_
 refine cl OV (Rh y c) ?_
 rintro _ f ⟨rfl,e⟩
 have a:=yq b e
 refine fK a 26 ?_
 by_cases g:(x:Int)<(y:Int)
 . refine fQ a 11 ?_
   refine gp (v:=Zw) Tryz.results194 rfl ?_
   exact⟨gw (by simp only[jc];(repeat' split)<;>omega),a.gC s_⟩
 . refine fK a 11 ?_
   by_cases h:(x:Int)>(y:Int)
   . refine fQ a 11 ?_
     refine gp (v:=qD) Tryz.results194 rfl ?_
     exact⟨gw (by simp only[jc];(repeat' split)<;>omega),a.gC s_⟩
   . refine fQ a 12 ?_
     refine gp (v:=Zc) Tryz.results194 rfl ?_
     exact⟨gw (by simp only[jc];(repeat' split)<;>omega),a.gC s_⟩
theorem Rg(x:Int)(w:World) :
 CR ya 209 (Z8 x) w (fun r w' => r = .bool false/\gz [] w w'):=by
 refine en Tryz.func209 Tryz.ntmps209 ?_
 have a:=yt w
 refine iP a 14 ?_
 refine gp (v:=Zn) Tryz.results209 rfl ?_
 exact⟨rfl,a.gC s_⟩
theorem VQ(x y:Int)(w:World) :
 CR ya 195 (Zz x y) w (fun r w' => r = .int .i64 (jc x y)/\gz [] w w'):=by
 refine en Tryz.func195 Tryz.ntmps195 ?_
 have i:=yt w
 refine fR i 8 ?_
 refine cl OW (Rg x w) ?_
 rintro _ c ⟨rfl,d⟩
 have b:=yq i d
 refine fK b 6 ?_
 refine cl OW (Rg y c) ?_
 rintro _ f ⟨rfl,e⟩
 have a:=yq b e
 refine fK a 26 ?_
 by_cases g:(x:Int)<(y:Int)
 . refine fQ a 11 ?_
   refine gp (v:=Zw) Tryz.results195 rfl ?_
   exact⟨gw (by simp only[jc];(repeat' split)<;>omega),a.gC s_⟩
 . refine fK a 11 ?_
   by_cases h:(x:Int)>(y:Int)
   . refine fQ a 11 ?_
     refine gp (v:=qD) Tryz.results195 rfl ?_
     exact⟨gw (by simp only[jc];(repeat' split)<;>omega),a.gC s_⟩
   . refine fQ a 12 ?_
     refine gp (v:=Zc) Tryz.results195 rfl ?_
     exact⟨gw (by simp only[jc];(repeat' split)<;>omega),a.gC s_⟩
theorem abI(x:Int)(w:World) :
 CR ya 135 (xD x) w (fun r w' => r = .bool false/\gz [] w w'):=by
 refine en Tryz.func135 Tryz.ntmps135 ?_
 have a:=yt w
 refine iP a 14 ?_
 refine gp (v:=Zn) Tryz.results135 rfl ?_
 exact⟨rfl,a.gC s_⟩
theorem ach(v:Value)(xs:List Int)(w:World)(hv:Ints .i64 (fun _=>True) w v xs) :
 CR ya 193 #[v] w (fun r w' => r = .int .i64 (mh xs)/\gz [] w w'):=by
 have u:=hv.len
 refine en Tryz.func193 Tryz.ntmps193 ?_
 have p:=yt w
 refine fR p 14 ?_
 refine kU (v:=v) rfl rfl yd hv (gJ p 4 ?_)
 refine lp (α:=Nat) (fun k=>[(3,Zc),(6,v),(7,(Za xs.length)),(8,(Za k))]) (fun k w1=>St [(w,[])] [] w1/\k<=xs.length/\∀ j x,j<k->xs[j]? = some x->x=0) (fun k=>xs.length-k) 0 ⟨rfl,rfl,rfl,gw rO,trivial⟩ (⟨p,o_,fun j x h=>absurd h o_⟩) ?_
 rintro k c d ⟨o,t,s⟩
 refine fR o 2 ?_
 by_cases e:((k:Int):Int)<((xs.length:Int):Int)
 . obtain⟨x,q⟩:=pO (show k<xs.length by omega)
   refine fK o 11 ?_
   refine CI (i:=(k:Int)) (el:=x) rfl rfl rfl yd gy (St.Fj o s_ hv) o_ (by rw[show ((k:Nat):Int).toNat=k by omega];exact q) ?_
   intro f g a b l
   have m:=b.i64
   refine ld rfl rfl yf rfl a (fK o 7 ?_)
   by_cases n:(x:Int)=(0:Int)
   . refine fQ o 11 ?_
     refine tN (?_)
     exact again (k+1) ⟨rfl,rfl,rfl,gw rO,trivial⟩ (⟨o,o_,RC s q o_⟩) (by show (xs.length-(k+1):Nat)<xs.length-k;omega)
   . refine fQ o 16 ?_
     refine gp (v:=(Za x)) GR rfl ?_
     exact⟨gw (Rz s q o_).symm,o.gC s_⟩
 . refine fQ o 17 ?_
   refine gp (v:=Zc) GR rfl ?_
   exact⟨gw (RA s o_).symm,o.gC s_⟩
theorem Da(a b:gG)(w:World) :
 CR ya 203 #[(MM a),(MM b)] w (fun r w' => r = .int .i64 (qp a b)/\gz [] w w'):=by
 refine en Tryz.func203 Tryz.ntmps203 ?_
 have F:=yt w
 refine fR F 2 ?_
 refine iz F (fun s t u x h=>?_)
 refine iz h (fun z A B C c=>?_)
 refine gJ c 4 ?_
 refine kW mixed [([0,1,2,3,5,6,7,8,4],[6,8])] [9,10,11,12] c (fun j d=>j3 ?_)
 refine fK d 8 ?_
 refine cl OO (VR a.key b.key j) ?_
 rintro _ k ⟨rfl,l⟩
 have e:=yq d l
 refine fQ e 1 ?_
 refine kR (lE ?_)
 refine cl OP (VQ (a.ix:Int) (b.ix:Int) k) ?_
 rintro _ D ⟨rfl,m⟩
 have n:=yq e m
 refine kg (vs:=(Zp (jc a.key b.key) (jc (a.ix:Int) (b.ix:Int)))) (cs:=(Zp (jc a.key b.key) (jc (a.ix:Int) (b.ix:Int)))) rfl rfl yd gy rfl (by simp[Value.cells]) rfl rfl rfl n (fun o p E G f=>cl ON (ach (xI o) [jc a.key b.key,jc (a.ix:Int) (b.ix:Int)] p (w6 f (i:=0) rfl (fun y I=>by simp only[zg,mo,or_false]at I;rcases I with rfl|rfl<;>exact N3 _ _)).any) ?_)
 rintro _ H ⟨rfl,q⟩
 have g:=yq f q
 refine fQ g 4 ?_
 refine gp (v:=(Za (mh [jc a.key b.key,jc (a.ix:Int) (b.ix:Int)]))) Tryz.results203 rfl ?_
 exact⟨gw (RD a b),g.gC s_⟩
end
section
open Go Go.Sx
theorem CH(hb n:Nat)(iv pv:Value)(ps:List (Option Nat))(fP:List gG)(pl:List Nat)(w:World)(d:Own (Zj hb n iv pv fP ps pl) w) :
 CR ya 149 (Zh hb) w (fun r w' => r = .bool true/\fZ (Zj hb n iv pv fP ps pl) w w' (Zj hb n iv pv fP ps pl)):=by
 refine en Tryz.func149 Tryz.ntmps149 ?_
 have b:=(yr d).unpack
 refine fR b 8 ?_
 refine mY (a:=some ⟨hb,0,none⟩) (c:=true) rfl rfl rfl GY rfl (fK b 6 ?_)
 refine CD (a:=⟨hb,0,none⟩) rfl rfl rfl GY Gz (fQ b 5 ?_)
 refine gp (v:=Zf) Tryz.results149 rfl ?_
 exact⟨rfl,yn (yc [_,_,_,_] _ b)⟩
theorem PV(hb n:Nat)(iv pv:Value)(ps:List (Option Nat))(fP:List gG)(pl:List Nat)(w:World)(b:Own (Zj hb n iv pv fP ps pl) w)(i:Nat)(hi:i<n) :
 CR ya 163 (Zm hb i) w (fun r w' => r = .bool true/\fZ (Zj hb n iv pv fP ps pl) w w' (Zj hb n iv pv fP ps pl)):=by
 refine en Tryz.func163 Tryz.ntmps163 ?_
 have a:=(yr b).unpack
 refine fR a 8 ?_
 refine cmp rfl rfl rfl (nX o_) (fK a 6 ?_)
 refine cmp rfl rfl rfl (qm o_) (fQ a 5 ?_)
 refine gp (v:=Zf) Tryz.results163 rfl ?_
 exact⟨rfl,yn (yc [_,_,_,_] _ a)⟩
theorem PY(hb n:Nat)(iv pv:Value)(ps:List (Option Nat))(fP:List gG)(pl:List Nat)(w:World)(l:Own (Zj hb n iv pv fP ps pl) w)(j:jw n ps pl)(i:Nat)(hi:i<n) :
 CR ya 164 (Zm hb i) w (fun r w' => r = .int .i64 (((fJ pl i:Nat):Int)-1)/\fZ (Zj hb n iv pv fP ps pl) w w' (Zj hb n iv pv fP ps pl)):=by
 have m:=j.at hi
 have t:=j.room
 have s:=j.n
 have u:=j.val i
 refine en Tryz.func164 Tryz.ntmps164 ?_
 have h:=(yr l).unpack
 refine fR h 12 ?_
 refine quo (a:=(i:Int)) (b:=64) (e:=((i / 64:Nat):Int)) rfl rfl rfl d_ (wN 64 o_) (iX (cf:=iA) (k:=(i / 64)) (i:=((i / 64:Nat):Int)) rfl rfl rfl ve Dz (iW h 2 rfl) o_ rfl (gE om) ?_)
 obtain⟨f,d⟩:∃ q,(fJ ps (i / 64))=q:=⟨_,rfl⟩
 refine fK h 8 ?_
 rcases f with _|g
 . skip
   refine uH (a:=(fJ ps (i / 64)).map fun b=>⟨b,0,none⟩) (c:=true) rfl rfl rfl zC (by rw[d];rfl) (fQ h 10 ?_)
   refine gp (v:=Zw) Tryz.results164 rfl ?_
   exact⟨gw (by rw[j.zero (i / 64) ((gE m).trans (congrArg some d)) i rfl];rfl),yn (yc [_,_,_,_] _ h)⟩
 . skip
   refine uH (a:=(fJ ps (i / 64)).map fun b=>⟨b,0,none⟩) (c:=false) rfl rfl rfl zC (by rw[d];rfl) (fK h 9 ?_)
   refine rem (a:=(i:Int)) (b:=64) (e:=((i%64:Nat):Int)) rfl rfl rfl d_ (Dh 64) (uR rfl (AY d) (jM (o:=0) (o' := i%64*1+0) (i:=((i%64:Nat):Int)) rfl rfl rfl G1 gy o_ (by simp only[nq];omega) (ld rfl rfl yf rfl (Bu h (i:=3) rfl f_ d_ (by have p:=j.room;first|omega|(simp only[jd,gB];omega)) ((gE o_).trans (congrArg some d)) rfl) (fQ h 5 ?_))))
   refine gp (v:=(Za ((((fJ pl i):Nat):Int)-1))) Tryz.results164 rfl ?_
   exact⟨gw o_,yn (yc [_,_,_,_] _ h)⟩
theorem Fh(hb n:Nat)(iv pv:Value)(ps:List (Option Nat))(fP:List gG)(pl:List Nat)(w:World)(N:Own (Zj hb n iv pv fP ps pl) w)(F:jw n ps pl)(i:Nat)(hi:i<n)(v:Int)(p:Nat)(hv:v+1=(p:Int))(hp:p<=65536) :
 CR ya 151 (Zr hb i v) w (fun r w' => r = .tuple #[]/\∃ K,K.length=ps.length/\jw n K (jd pl i p)/\fZ (Zj hb n iv pv fP ps pl) w w' (Zj hb n iv pv fP K (jd pl i p))):=by
 have I:=F.at hi
 have Q:=F.room
 have P:=F.n
 have R:=F.val i
 refine en Tryz.func151 Tryz.ntmps151 ?_
 have G:=(yr N).unpack
 refine fR G 8 ?_
 refine quo (a:=(i:Int)) (b:=64) (e:=((i / 64:Nat):Int)) rfl rfl rfl d_ (wN 64 o_) ?_
 obtain⟨s,g⟩:∃ q,(fJ ps (i / 64))=q:=⟨_,rfl⟩
 refine fK G 2 ?_
 rcases s with _|t
 . skip
   refine uH (a:=(fJ ps (i / 64)).map fun b=>⟨b,0,none⟩) (c:=true) rfl rfl rfl zC (by rw[g];rfl) (fK G 9 ?_)
   refine quo (a:=(i:Int)) (b:=64) (e:=((i / 64:Nat):Int)) rfl rfl rfl d_ (wN 64 o_) (iO G (fun d z A B j=>?_))
   refine fK j 1 ?_
   refine iR (f:=(fun _=>(some d))) 3 j (fun C k=>?_)
   have u:=yg [0,4,1,2,3] k
   have L:ps[i / 64]? = some none:=(gE I).trans (congrArg some g)
   have x:=St.NR u L (F.Vx L)
   have h:=x
   have J:jw n (ps.set (i / 64) (some d)) pl:=F.made
   have H:(ps.set (i / 64) (some d))[i / 64]? = some (some d):=by rw[vt,if_pos rfl,if_pos I]
   have O:i / 64<(ps.set (i / 64) (some d)).length:=by rw[List.length_set];exact I
   refine fK k 8 ?_
   refine quo (a:=(i:Int)) (b:=64) (e:=((i / 64:Nat):Int)) rfl rfl rfl d_ (wN 64 o_) (fK h 3 ?_)
   refine rem (a:=(i:Int)) (b:=64) (e:=((i%64:Nat):Int)) rfl rfl rfl d_ (Dh 64) (fK h 1 ?_)
   refine ar (e:=(p:Int)) rfl rfl rfl rfl (by rw[oL o_];exact hv) (uR rfl (AY (iD H)) (jM (o:=0) (o' := i%64*1+0) (i:=((i%64:Nat):Int)) rfl rfl rfl G1 gy o_ (by simp only[nq];omega) (q7 (f:=(fun _=>p)) (L' := [gP fW 271 64 (ps.set (i / 64) (some d)) (fO pl i (fun _=>p)),blk hb 255 (pL hb n iv pv),fM gG.cells iv 161 2 fP,fM iA pv 269 1 (ps.set (i / 64) (some d))]) 0 rfl rfl rfl rfl gy rfl rfl h rfl f_ d_ (by have M:=F.room;first|omega|(simp only[jd,gB];omega)) H rfl rfl rfl (fun D l=>fQ l 1 ?_))))
   refine i6 Tryz.results151 ?_
   have y:=yg [1,2,3,0] l
   exact⟨rfl,ps.set (i / 64) (some d),s_,J.set hi o_ H,yn (yc [_,_,_,_] _ y)⟩
 . skip
   refine uH (a:=(fJ ps (i / 64)).map fun b=>⟨b,0,none⟩) (c:=false) rfl rfl rfl zC (by rw[g];rfl) ?_
   have J:=F
   have H:ps[i / 64]? = some (some t):=(gE I).trans (congrArg some g)
   have O:=I
   refine fK G 11 ?_
   refine quo (a:=(i:Int)) (b:=64) (e:=((i / 64:Nat):Int)) rfl rfl rfl d_ (wN 64 o_) (fK G 3 ?_)
   refine rem (a:=(i:Int)) (b:=64) (e:=((i%64:Nat):Int)) rfl rfl rfl d_ (Dh 64) (fK G 1 ?_)
   refine ar (e:=(p:Int)) rfl rfl rfl rfl (by rw[oL o_];exact hv) (uR rfl (AY g) (jM (o:=0) (o' := i%64*1+0) (i:=((i%64:Nat):Int)) rfl rfl rfl G1 gy o_ (by simp only[nq];omega) (q7 (f:=(fun _=>p)) (L' := (HS hb n iv pv fP ps (fO pl i (fun _=>p)))) 3 rfl rfl rfl rfl gy rfl rfl G rfl f_ d_ (by have M:=F.room;first|omega|(simp only[jd,gB];omega)) H rfl rfl rfl (fun E m=>fQ m 1 ?_))))
   refine i6 Tryz.results151 ?_
   exact⟨rfl,ps,s_,J.set hi o_ H,yn (yc [_,_,_,_] _ m)⟩
end
section
open Go Go.Sx
theorem Je(hb n:Nat)(iv pv:Value)(ps:List (Option Nat))(fP:List gG)(pl:List Nat)(w:World)(B:Own (Zj hb n iv pv fP ps pl) w)(z:Hp n fP pl)(y:jw n ps pl)(p q:Nat)(hp:p<fP.length)(F:q<fP.length) :
 CR ya 150 (Zr hb p q) w (fun r w' => r = .tuple #[]/\∃ x,x.length=ps.length/\jw n x (jd (jd pl (fJ (iI fP p q) p).ix (p+1)) (fJ (iI fP p q) q).ix (q+1))/\fZ (Zj hb n iv pv fP ps pl) w w' (Zj hb n iv pv (iI fP p q) x (jd (jd pl (fJ (iI fP p q) p).ix (p+1)) (fJ (iI fP p q) q).ix (q+1)))):=by
 have L:=y.n
 have K:=z.len
 have G:=mK fP p q
 have A:∀ j,j<fP.length->(fJ (iI fP p q) j).ix<n:=fun j E=>(z.swap hp F).ix j (by rw[G];exact E)
 refine en Tryz.func150 Tryz.ntmps150 ?_
 have H:=(yr B).unpack
 refine qu H 27 fun m h=>?_
 refine iR (f:=(fun _=>(fJ fP q))) 1 h (fun o a=>?_)
 refine fK a 1 ?_
 refine iR (f:=(fun _=>(fJ fP p))) 1 a (fun i b=>?_)
 have k:=b
 have c:=yc [_,_,_,_] _ k
 refine fK b 14 ?_
 refine cl EW (Fh hb n iv pv ps (iI fP p q) pl i (ye c 0 rfl) y ((fJ (iI fP p q) p).ix) (A _ (by assumption)) (p:Int) (p+1) o_ o_) ?_
 rintro _ l ⟨rfl,I,s,C,v⟩
 have d:=(yi c v)
 have e:=yc [_,_,_,_] _ d
 refine fK d 13 ?_
 refine cl EW (Fh hb n iv pv I (iI fP p q) (jd pl ((fJ (iI fP p q) p).ix) (p+1)) l (ye e 0 rfl) C ((fJ (iI fP p q) q).ix) (A _ (by assumption)) (q:Int) (q+1) o_ o_) ?_
 rintro _ t ⟨rfl,J,u,D,v⟩
 have g:=(yi e v)
 refine fQ g 1 ?_
 refine i6 Tryz.results150 ?_
 exact⟨rfl,J,o_,D,yn (yc [_,_,_,_] _ g)⟩
theorem PO(hb n:Nat)(iv pv:Value)(ps:List (Option Nat))(fP:List gG)(pl:List Nat)(w:World)(m:Own (Zj hb n iv pv fP ps pl) w)(q:Hp n fP pl)(o:jw n ps pl)(p:Nat)(hp:p<fP.length) :
 CR ya 180 (Zm hb p) w (fun r w' => r = .int .i64 (rL fP p)/\fZ (Zj hb n iv pv fP ps pl) w w' (Zj hb n iv pv fP ps pl)):=by
 have t:=o.n
 have s:=q.len
 have u:pa p<fP.length:=by simp only[pa];omega
 refine en Tryz.func180 Tryz.ntmps180 ?_
 have l:=(yr m).unpack
 refine fR l 9 ?_
 refine quo (a:=(p:Int)-1) (b:=2) (e:=((pa p:Nat):Int)) rfl rfl rfl d_ (paN o_) (gO l 7 fun g c=>?_)
 by_cases h:((p:Int):Int)>(0:Int)
 . refine fK c 16 ?_
   refine cl Cw (Da (fJ fP p) (fJ fP (pa p)) g) ?_
   rintro _ j ⟨rfl,i⟩
   have d:=yq c i
   by_cases f:(qp (fJ fP p) (fJ fP (pa p)):Int)<(0:Int)
   . refine fQ d 13 ?_
     refine gp (v:=(Za ((pa p:Nat):Int))) Tryz.results180 rfl ?_
     exact⟨gw (by unfold rL;rw[if_pos (show 0<p/\iC (fJ fP p) (fJ fP (pa p)) from⟨o_,nZ.1 f⟩)]),yn (yc [_,_,_,_] _ d)⟩
   . refine fQ d 13 ?_
     refine gp (v:=Zw) Tryz.results180 rfl ?_
     exact⟨gw (by unfold rL;rw[if_neg (show ¬ (0<p/\iC (fJ fP p) (fJ fP (pa p))) from fun k=>f (nZ.2 k.2))]),yn (yc [_,_,_,_] _ d)⟩
 . refine fQ c 30 ?_
   refine gp (v:=Zw) Tryz.results180 rfl ?_
   exact⟨gw (by unfold rL;rw[if_neg (show ¬ (0<p/\iC (fJ fP p) (fJ fP (pa p))) from fun k=>h o_)]),yn (yc [_,_,_,_] _ c)⟩
theorem PU(hb n:Nat)(iv pv:Value)(ps:List (Option Nat))(fP:List gG)(pl:List Nat)(w:World)(Q:Own (Zj hb n iv pv fP ps pl) w)(S:Hp n fP pl)(R:jw n ps pl)(p:Nat)(hp:p<fP.length) :
 CR ya 181 (Zm hb p) w (fun r w' => r = .int .i64 (nW fP p)/\fZ (Zj hb n iv pv fP ps pl) w w' (Zj hb n iv pv fP ps pl)):=by
 have U:=R.n
 have T:=S.len
 refine en Tryz.func181 Tryz.ntmps181 ?_
 have P:=(yr Q).unpack
 refine sY P 18 ?_
 refine ri 3 (iE (fR P 20 ?_))
 refine ar (e:=((2*p:Nat):Int)) rfl rfl rfl rfl iZ (ar (e:=((2*p+1:Nat):Int)) rfl rfl rfl rfl iZ (fK P 1 ?_))
 refine ar (e:=((2*p+1:Nat):Int)) rfl rfl rfl rfl iZ (gO P 10 fun s g=>?_)
 refine jA (m:=fP.length) 1 rfl rfl y8 g rfl ?_
 by_cases k:(((2*p+1:Nat):Int):Int)<((fP.length:Int):Int)
 . refine fK g 16 ?_
   refine cl Cw (Da (fJ fP (2*p+1)) (fJ fP p) s) ?_
   rintro _ G ⟨rfl,t⟩
   have b:=yq g t
   by_cases h:(qp (fJ fP (2*p+1)) (fJ fP p):Int)<(0:Int)
   . refine fQ b 15 ?_
     refine tN (?_)
     refine iE (fR b 20 ?_)
     refine ar (e:=((2*p:Nat):Int)) rfl rfl rfl rfl iZ (ar (e:=((2*p+1:Nat):Int)) rfl rfl rfl rfl iZ (fK b 1 ?_))
     refine ar (e:=((2*p+2:Nat):Int)) rfl rfl rfl rfl iZ (gO b 10 fun u c=>?_)
     refine jA (m:=fP.length) 1 rfl rfl y8 c rfl ?_
     by_cases x:(((2*p+2:Nat):Int):Int)<((fP.length:Int):Int)
     . refine fK c 16 ?_
       refine cl Cw (Da (fJ fP (2*p+2)) (fJ fP (2*p+1)) u) ?_
       rintro _ H ⟨rfl,y⟩
       have a:=yq c y
       by_cases l:(qp (fJ fP (2*p+2)) (fJ fP (2*p+1)):Int)<(0:Int)
       . refine fQ a 15 ?_
         refine tN (?_)
         refine iE (fR a 17 ?_)
         by_cases I:(((2*p+2:Nat):Int):Int)=((p:Int):Int)
         . refine fQ a 11 ?_
           refine gp (v:=Zw) qw rfl ?_
           exact(show False by omega).elim
         . refine fQ a 13 ?_
           refine gp (v:=(Za ((2*p+2:Nat):Int))) qw rfl ?_
           exact⟨gw (by unfold nW jD;simp only;rw[if_pos (show 2*p+1<fP.length/\iC (fJ fP (2*p+1)) (fJ fP p) from⟨o_,nZ.1 h⟩),if_pos (show 2*p+2<fP.length/\iC (fJ fP (2*p+2)) (fJ fP (2*p+1)) from⟨o_,nZ.1 l⟩),if_neg o_]),yn (yc [_,_,_,_] _ a)⟩
       . refine fQ a 12 ?_
         refine tN (?_)
         refine iE (fR a 17 ?_)
         by_cases J:(((2*p+1:Nat):Int):Int)=((p:Int):Int)
         . refine fQ a 11 ?_
           refine gp (v:=Zw) qw rfl ?_
           exact(show False by omega).elim
         . refine fQ a 13 ?_
           refine gp (v:=(Za ((2*p+1:Nat):Int))) qw rfl ?_
           exact⟨gw (by unfold nW jD;simp only;rw[if_pos (show 2*p+1<fP.length/\iC (fJ fP (2*p+1)) (fJ fP p) from⟨o_,nZ.1 h⟩),if_neg (show ¬ (2*p+2<fP.length/\iC (fJ fP (2*p+2)) (fJ fP (2*p+1))) from fun F=>l (nZ.2 F.2)),if_neg o_]),yn (yc [_,_,_,_] _ a)⟩
     . refine fQ c 29 ?_
       refine tN (?_)
       refine iE (fR c 17 ?_)
       by_cases K:(((2*p+1:Nat):Int):Int)=((p:Int):Int)
       . refine fQ c 11 ?_
         refine gp (v:=Zw) qw rfl ?_
         exact(show False by omega).elim
       . refine fQ c 13 ?_
         refine gp (v:=(Za ((2*p+1:Nat):Int))) qw rfl ?_
         exact⟨gw (by unfold nW jD;simp only;rw[if_pos (show 2*p+1<fP.length/\iC (fJ fP (2*p+1)) (fJ fP p) from⟨o_,nZ.1 h⟩),if_neg (show ¬ (2*p+2<fP.length/\iC (fJ fP (2*p+2)) (fJ fP (2*p+1))) from fun F=>x o_),if_neg o_]),yn (yc [_,_,_,_] _ c)⟩
   . refine fQ b 12 ?_
     refine tN (?_)
     refine iE (fR b 20 ?_)
     refine ar (e:=((2*p:Nat):Int)) rfl rfl rfl rfl iZ (ar (e:=((2*p+1:Nat):Int)) rfl rfl rfl rfl iZ (fK b 1 ?_))
     refine ar (e:=((2*p+2:Nat):Int)) rfl rfl rfl rfl iZ (gO b 10 fun z i=>?_)
     refine jA (m:=fP.length) 1 rfl rfl y8 i rfl ?_
     by_cases A:(((2*p+2:Nat):Int):Int)<((fP.length:Int):Int)
     . refine fK i 16 ?_
       refine cl Cw (Da (fJ fP (2*p+2)) (fJ fP p) z) ?_
       rintro _ L ⟨rfl,B⟩
       have d:=yq i B
       by_cases o:(qp (fJ fP (2*p+2)) (fJ fP p):Int)<(0:Int)
       . refine fQ d 15 ?_
         refine tN (?_)
         refine iE (fR d 17 ?_)
         by_cases M:(((2*p+2:Nat):Int):Int)=((p:Int):Int)
         . refine fQ d 11 ?_
           refine gp (v:=Zw) qw rfl ?_
           exact(show False by omega).elim
         . refine fQ d 13 ?_
           refine gp (v:=(Za ((2*p+2:Nat):Int))) qw rfl ?_
           exact⟨gw (by unfold nW jD;simp only;rw[if_neg (show ¬ (2*p+1<fP.length/\iC (fJ fP (2*p+1)) (fJ fP p)) from fun F=>h (nZ.2 F.2)),if_pos (show 2*p+2<fP.length/\iC (fJ fP (2*p+2)) (fJ fP p) from⟨o_,nZ.1 o⟩),if_neg o_]),yn (yc [_,_,_,_] _ d)⟩
       . refine fQ d 12 ?_
         refine tN (?_)
         refine iE (iP d 28 ?_)
         refine gp (v:=Zw) qw rfl ?_
         exact⟨gw (by unfold nW jD;simp only;rw[if_neg (show ¬ (2*p+1<fP.length/\iC (fJ fP (2*p+1)) (fJ fP p)) from fun F=>h (nZ.2 F.2)),if_neg (show ¬ (2*p+2<fP.length/\iC (fJ fP (2*p+2)) (fJ fP p)) from fun F=>o (nZ.2 F.2)),if_pos rfl]),yn (yc [_,_,_,_] _ d)⟩
     . refine fQ i 29 ?_
       refine tN (?_)
       refine iE (iP i 28 ?_)
       refine gp (v:=Zw) qw rfl ?_
       exact⟨gw (by unfold nW jD;simp only;rw[if_neg (show ¬ (2*p+1<fP.length/\iC (fJ fP (2*p+1)) (fJ fP p)) from fun F=>h (nZ.2 F.2)),if_neg (show ¬ (2*p+2<fP.length/\iC (fJ fP (2*p+2)) (fJ fP p)) from fun F=>A o_),if_pos rfl]),yn (yc [_,_,_,_] _ i)⟩
 . refine fQ g 29 ?_
   refine tN (?_)
   refine iE (fR g 20 ?_)
   refine ar (e:=((2*p:Nat):Int)) rfl rfl rfl rfl iZ (ar (e:=((2*p+1:Nat):Int)) rfl rfl rfl rfl iZ (fK g 1 ?_))
   refine ar (e:=((2*p+2:Nat):Int)) rfl rfl rfl rfl iZ (gO g 10 fun C j=>?_)
   refine jA (m:=fP.length) 1 rfl rfl y8 j rfl ?_
   by_cases D:(((2*p+2:Nat):Int):Int)<((fP.length:Int):Int)
   . refine fK j 16 ?_
     refine cl Cw (Da (fJ fP (2*p+2)) (fJ fP p) C) ?_
     rintro _ N ⟨rfl,E⟩
     have f:=yq j E
     by_cases q:(qp (fJ fP (2*p+2)) (fJ fP p):Int)<(0:Int)
     . refine fQ f 15 ?_
       refine tN (?_)
       refine iE (fR f 17 ?_)
       by_cases O:(((2*p+2:Nat):Int):Int)=((p:Int):Int)
       . refine fQ f 11 ?_
         refine gp (v:=Zw) qw rfl ?_
         exact(show False by omega).elim
       . refine fQ f 13 ?_
         refine gp (v:=(Za ((2*p+2:Nat):Int))) qw rfl ?_
         exact⟨gw (by unfold nW jD;simp only;rw[if_neg (show ¬ (2*p+1<fP.length/\iC (fJ fP (2*p+1)) (fJ fP p)) from fun F=>k o_),if_pos (show 2*p+2<fP.length/\iC (fJ fP (2*p+2)) (fJ fP p) from⟨o_,nZ.1 q⟩),if_neg o_]),yn (yc [_,_,_,_] _ f)⟩
     . refine fQ f 12 ?_
       refine tN (?_)
       refine iE (iP f 28 ?_)
       refine gp (v:=Zw) qw rfl ?_
       exact⟨gw (by unfold nW jD;simp only;rw[if_neg (show ¬ (2*p+1<fP.length/\iC (fJ fP (2*p+1)) (fJ fP p)) from fun F=>k o_),if_neg (show ¬ (2*p+2<fP.length/\iC (fJ fP (2*p+2)) (fJ fP p)) from fun F=>q (nZ.2 F.2)),if_pos rfl]),yn (yc [_,_,_,_] _ f)⟩
   . refine fQ j 29 ?_
     refine tN (?_)
     refine iE (iP j 28 ?_)
     refine gp (v:=Zw) qw rfl ?_
     exact⟨gw (by unfold nW jD;simp only;rw[if_neg (show ¬ (2*p+1<fP.length/\iC (fJ fP (2*p+1)) (fJ fP p)) from fun F=>k o_),if_neg (show ¬ (2*p+2<fP.length/\iC (fJ fP (2*p+2)) (fJ fP p)) from fun F=>D o_),if_pos rfl]),yn (yc [_,_,_,_] _ j)⟩
end
section
open Go Go.Sx
theorem aeo(D E hb n:Nat)(iv pv:Value)(ps:List (Option Nat))(fP:List gG)(pl:List Nat)(p:Nat)(w:World)(R:Own (vH D p E hb n iv pv fP ps pl) w)(T:Hp n fP pl)(S:jw n ps pl)(hp:p<fP.length)(Q:tg fP p) :
 CR ya 179 #[(MN hb),(Zb D),(Zb E)] w (fun r w' => r = .tuple #[]/\∃ (p2:Nat),∃ C ys B,oC n fP ys ps C B/\p2<ys.length/\uq ys p2/\fZ (vH D p E hb n iv pv fP ps pl) w w' (vH D p2 E hb n iv pv ys C B)):=by
 refine en Tryz.func179 Tryz.ntmps179 ?_
 have N:=(yr R).unpack
 have K:=oC.refl T S
 have i:=yg [2,3,4,5,0,1] N
 have b:=yc [_,_,_,_] _ i
 refine fR N 4 ?_
 refine qo (fi:=(Zi hb)) (ca:=[]) rfl rfl rfl OJ (PO hb n iv pv ps fP pl w (ye b 0 rfl) K.hp K.gH p (by first|omega|(rw[mK];omega))) ?_
 rintro _ x ⟨rfl,G⟩
 have c:=(yi b G)
 have j:=yg [4,5,0,1,2,3] c
 refine gJ c 4 ?_
 refine lp (α:=List gG×List (Option Nat)×List Nat×Nat×Int) (fun(ys,C,B,p2,q)=>[(0,(MN hb)),(1,(Zb D)),(2,(Zb E)),(4,(Za q))]) (fun(ys,C,B,p2,q) w1=>St [(w,(vH D p E hb n iv pv fP ps pl).gK)] (HT D p2 E hb n iv pv ys C B) w1/\oC n fP ys ps C B/\p2<ys.length/\tg ys p2/\q=rL ys p2) (fun(ys,C,B,p2,q)=>p2) (fP,ps,pl,p,(rL fP p)) ⟨rfl,rfl,rfl,gw rO,trivial⟩ (⟨j,K,hp,Q,rfl⟩) ?_
 rintro⟨ys,C,B,p2,q⟩ y k ⟨F,H,M,L,J⟩
 refine fR F 4 ?_
 by_cases d:(q:Int)=(-1:Int)
 . have U:=L.stop (UG (J.symm.trans d))
   refine fQ F 8 ?_
   refine i6 Tryz.results179 ?_
   exact⟨rfl,p2,C,ys,B,H,M,U,yn (yc [_,_,_,_,_,_] _ F)⟩
 . have I:=UF (fun P=>@d (J.trans P))
   refine fK F 1 ?_
   obtain rfl:q=((pa p2:Nat):Int):=J.trans I.1
   have O:=I.2.1
   have V:pa p2<ys.length:=by simp only[pa];omega
   have l:=yg [2,3,4,5,0,1] F
   have e:=yc [_,_,_,_] _ l
   refine fK F 12 ?_
   refine cl IP (Je hb n iv pv C ys B k (ye e 0 rfl) H.hp H.gH p2 (pa p2) o_ o_) ?_
   rintro _ z ⟨rfl,f,m,o,G⟩
   have s:=(yi e G)
   have a:=H.swap (p:=p2) (q:=(pa p2)) o_ o_ m o
   refine gO s 11 fun t u=>?_
   have g:=yc [_,_,_,_] _ u
   refine qo (fi:=(Zi hb)) (ca:=[]) rfl rfl rfl OJ (PO hb n iv pv f (iI ys p2 (pa p2)) (jd (jd B (fJ (iI ys p2 (pa p2)) p2).ix (p2+1)) (fJ (iI ys p2 (pa p2)) (pa p2)).ix ((pa p2)+1)) t (ye g 0 rfl) a.hp a.gH (pa p2) (by first|omega|(rw[mK];omega))) ?_
   rintro _ A ⟨rfl,G⟩
   have h:=(yi g G)
   refine fQ h 2 ?_
   refine tN (?_)
   have v:=yg [4,5,0,1,2,3] h
   exact again (iI ys p2 (pa p2),f,jd (jd B (fJ (iI ys p2 (pa p2)) p2).ix (p2+1)) (fJ (iI ys p2 (pa p2)) (pa p2)).ix ((pa p2)+1),(pa p2),rL (iI ys p2 (pa p2)) (pa p2)) ⟨rfl,rfl,rfl,gw rO,trivial⟩ (⟨v,a,by rw[mK];omega,L.up O M I.2.2,rfl⟩) (by show pa p2<p2;simp only[pa];omega)
theorem aen(D E hb n:Nat)(iv pv:Value)(ps:List (Option Nat))(fP:List gG)(pl:List Nat)(p:Nat)(w:World)(P:Own (vH D p E hb n iv pv fP ps pl) w)(R:Hp n fP pl)(Q:jw n ps pl)(hp:p<fP.length)(O:uq fP p) :
 CR ya 179 #[(MO hb),(Zb D),(Zb E)] w (fun r w' => r = .tuple #[]/\∃ (p2:Nat),∃ C ys B,oC n fP ys ps C B/\p2<ys.length/\Ord ys/\fZ (vH D p E hb n iv pv fP ps pl) w w' (vH D p2 E hb n iv pv ys C B)):=by
 refine en Tryz.func179 Tryz.ntmps179 ?_
 have M:=(yr P).unpack
 have K:=oC.refl R Q
 have i:=yg [2,3,4,5,0,1] M
 have b:=yc [_,_,_,_] _ i
 refine fR M 4 ?_
 refine qo (fi:=(Zi hb)) (ca:=[]) rfl rfl rfl OK (PU hb n iv pv ps fP pl w (ye b 0 rfl) K.hp K.gH p (by first|omega|(rw[mK];omega))) ?_
 rintro _ x ⟨rfl,G⟩
 have c:=(yi b G)
 have j:=yg [4,5,0,1,2,3] c
 refine gJ c 4 ?_
 refine lp (α:=List gG×List (Option Nat)×List Nat×Nat×Int) (fun(ys,C,B,p2,q)=>[(0,(MO hb)),(1,(Zb D)),(2,(Zb E)),(4,(Za q))]) (fun(ys,C,B,p2,q) w1=>St [(w,(vH D p E hb n iv pv fP ps pl).gK)] (HT D p2 E hb n iv pv ys C B) w1/\oC n fP ys ps C B/\p2<ys.length/\uq ys p2/\q=nW ys p2) (fun(ys,C,B,p2,q)=>ys.length-p2) (fP,ps,pl,p,(nW fP p)) ⟨rfl,rfl,rfl,gw rO,trivial⟩ (⟨j,K,hp,O,rfl⟩) ?_
 rintro⟨ys,C,B,p2,q⟩ y k ⟨F,H,T,L,J⟩
 refine fR F 4 ?_
 by_cases d:(q:Int)=(-1:Int)
 . have U:=L.stop (Vb (J.symm.trans d))
   refine fQ F 8 ?_
   refine i6 Tryz.results179 ?_
   exact⟨rfl,p2,C,ys,B,H,T,U,yn (yc [_,_,_,_,_,_] _ F)⟩
 . have I:=Va (fun N=>@d (J.trans N))
   refine fK F 1 ?_
   obtain rfl:q=((jD ys p2:Nat):Int):=J.trans I.1
   have S:=NA I.2
   have V:=S.1
   have l:=yg [2,3,4,5,0,1] F
   have e:=yc [_,_,_,_] _ l
   refine fK F 12 ?_
   refine cl IP (Je hb n iv pv C ys B k (ye e 0 rfl) H.hp H.gH p2 (jD ys p2) o_ o_) ?_
   rintro _ z ⟨rfl,f,m,o,G⟩
   have s:=(yi e G)
   have a:=H.swap (p:=p2) (q:=(jD ys p2)) o_ o_ m o
   refine gO s 11 fun t u=>?_
   have g:=yc [_,_,_,_] _ u
   refine qo (fi:=(Zi hb)) (ca:=[]) rfl rfl rfl OK (PU hb n iv pv f (iI ys p2 (jD ys p2)) (jd (jd B (fJ (iI ys p2 (jD ys p2)) p2).ix (p2+1)) (MJ ys p2).ix ((jD ys p2)+1)) t (ye g 0 rfl) a.hp a.gH (jD ys p2) (by first|omega|(rw[mK];omega))) ?_
   rintro _ A ⟨rfl,G⟩
   have h:=(yi g G)
   refine fQ h 2 ?_
   refine tN (?_)
   have v:=yg [4,5,0,1,2,3] h
   exact again (iI ys p2 (jD ys p2),f,jd (jd B (fJ (iI ys p2 (jD ys p2)) p2).ix (p2+1)) (MJ ys p2).ix ((jD ys p2)+1),(jD ys p2),nW (iI ys p2 (jD ys p2)) (jD ys p2)) ⟨rfl,rfl,rfl,gw rO,trivial⟩ (⟨v,a,by rw[mK];omega,L.down rfl I.2,rfl⟩) (by show (iI ys p2 (jD ys p2)).length-jD ys p2<ys.length-p2;rw[mK];omega)
theorem SV(hb n:Nat)(iv pv:Value)(ps:List (Option Nat))(fP:List gG)(pl:List Nat)(w:World)(R:Own (Zj hb n iv pv fP ps pl) w)(T:Hp n fP pl)(S:jw n ps pl)(p:Nat)(hp:p<fP.length)(Q:tg fP p) :
 CR ya 152 (Zm hb p) w (fun r w' => r = .tuple #[]/\∃ O ys P,oC n fP ys ps O P/\Ord ys/\fZ (Zj hb n iv pv fP ps pl) w w' (Zj hb n iv pv ys O P)):=by
 refine en Tryz.func152 Tryz.ntmps152 ?_
 have N:=(yr R).unpack
 have F:=oC.refl T S
 refine fR N 2 ?_
 refine iz N (fun a C D E i=>?_)
 refine iz i (fun b j G H c=>?_)
 refine fK c 4 ?_
 refine nF (vf:=[]) (vc:=(sI b a)) rfl rfl rfl (fK c 7 ?_)
 refine nF (vf:=(Zi hb)) (vc:=[]) rfl rfl rfl ?_
 have e:=yc [_,_,_,_,_,_] _ c
 refine qo (fi:=[]) (ca:=(sI b a)) rfl rfl rfl OI (aeo b a hb n iv pv ps fP pl p j (ye e 0 rfl) F.hp F.gH (by first|assumption|omega) Q) ?_
 rintro _ k ⟨rfl,l,m,o,q,s,I,t,M⟩
 have f:=(yi e M)
 have d:=F.trans s
 refine fK f 5 ?_
 refine nF (vf:=(Zi hb)) (vc:=[]) rfl rfl rfl ?_
 have g:=yc [_,_,_,_,_,_] _ f
 refine qo (fi:=[]) (ca:=(sI b a)) rfl rfl rfl OI (aen b a hb n iv pv m o q l k (ye g 0 rfl) d.hp d.gH (by first|assumption|omega) t) ?_
 rintro _ J ⟨rfl,K,u,v,x,y,L,z,M⟩
 have h:=(yi g M)
 have A:=d.trans y
 refine fQ h 1 ?_
 refine i6 Tryz.results152 ?_
 have B:=yg [2,3,4,5,0,1] h
 exact⟨rfl,u,v,x,A,z,yn (yc [_,_,_,_] _ B)⟩
end
section
open Go Go.Sx
theorem Y9(hb n:Nat)(iv pv:Value)(ps:List (Option Nat))(fP:List gG)(pl:List Nat)(w:World)(o:Own (Zj hb n iv pv fP ps pl) w)(p:Hp n fP pl)(l:jw n ps pl)(i:Nat)(hi:i<n)(q:fJ pl i=0) :
 CR ya 162 (Zm hb i) w (fun r w' => r = .tuple #[.int .i64 0,.int .i64 5]/\fZ (Zj hb n iv pv fP ps pl) w w' (Zj hb n iv pv fP ps pl)):=by
 have t:=l.n
 have s:=p.len
 have u:=l.val i
 refine en Tryz.func162 Tryz.ntmps162 ?_
 have m:=(yr o).unpack
 have a:=yc [_,_,_,_] _ m
 refine fR m 11 ?_
 refine cl Cs (CH hb n iv pv ps fP pl w (ye a 0 rfl)) ?_
 rintro _ g ⟨rfl,k⟩
 have b:=(yi a k)
 have c:=yc [_,_,_,_] _ b
 refine fK b 9 ?_
 refine cl OE (PV hb n iv pv ps fP pl g (ye c 0 rfl) i o_) ?_
 rintro _ h ⟨rfl,k⟩
 have d:=(yi c k)
 have e:=yc [_,_,_,_] _ d
 refine fK d 9 ?_
 refine cl OG (PY hb n iv pv ps fP pl h (ye e 0 rfl) l i o_) ?_
 rintro _ j ⟨rfl,k⟩
 have f:=(yi e k)
 refine cmp rfl rfl rfl (qj o_) (fQ f 13 ?_)
 refine iF (v:=Zc) (v' := (.int .i64 5)) Tryz.results162 rfl rfl ?_
 exact⟨rfl,yn (yc [_,_,_,_] _ f)⟩
theorem Zv(hb n:Nat)(iv pv:Value)(ps:List (Option Nat))(fP:List gG)(pl:List Nat)(w:World)(h:Own (Zj hb n iv pv fP ps pl) w)(e:Hp n fP pl)(d:jw n ps pl)(i:Nat)(hi:i<n)(g:fJ pl i=0) :
 CR ya 161 (Zm hb i) w (fun r w' => r = .tuple HD/\fZ (Zj hb n iv pv fP ps pl) w w' (Zj hb n iv pv fP ps pl)):=by
 have l:=d.n
 have k:=e.len
 have m:=d.val i
 refine en Tryz.func161 Tryz.ntmps161 ?_
 have f:=(yr h).unpack
 have a:=yc [_,_,_,_] _ f
 refine fR f 10 ?_
 refine cl Xa (Y9 hb n iv pv ps fP pl w (ye a 0 rfl) e d i hi g) ?_
 rintro _ c ⟨rfl,j⟩
 have b:=(yi a j)
 refine fQ b 23 ?_
 refine iF (v:=Zc) (v' := Zn) Tryz.results161 rfl rfl ?_
 exact⟨rfl,yn (yc [_,_,_,_] _ b)⟩
theorem ZH(hb n:Nat)(iv pv:Value)(ps:List (Option Nat))(fP:List gG)(pl:List Nat)(w:World)(Y:Own (Zj hb n iv pv fP ps pl) w)(T:Hp n fP pl)(Q:jw n ps pl)(Z:Ord fP)(i:Nat)(hi:i<n)(W:fJ pl i=0)(key:Int)(hk:gV .i64 key) :
 CR ya 124 (Zr hb i key) w (fun r w' => r = .int .i64 0/\∃ jv R ys S,Hp n ys S/\jw n R S/\Ord ys/\(∀ e,e∈ys↔e∈fP\/e=⟨i,key⟩)/\R.length=ps.length/\ys.length=fP.length+1/\fZ (Zj hb n iv pv fP ps pl) w w' (Zj hb n jv pv ys R S)):=by
 have af:=Q.n
 have ae:=T.len
 have ag:=Q.val i
 have U:=T.push hi W hk
 have ad:fP.length+1<=n:=by have X:=U.len;simpa using X
 refine en Tryz.func124 Tryz.ntmps124 ?_
 have V:=(yr Y).unpack
 have f:=yc [_,_,_,_] _ V
 refine fR V 10 ?_
 refine cl Cs (CH hb n iv pv ps fP pl w (ye f 0 rfl)) ?_
 rintro _ u ⟨rfl,F⟩
 have g:=(yi f F)
 have h:=yc [_,_,_,_] _ g
 refine fK g 9 ?_
 refine cl OE (PV hb n iv pv ps fP pl u (ye h 0 rfl) i o_) ?_
 rintro _ y ⟨rfl,F⟩
 have j:=(yi h F)
 have k:=yc [_,_,_,_] _ j
 refine fK j 9 ?_
 refine cl OG (PY hb n iv pv ps fP pl y (ye k 0 rfl) Q i o_) ?_
 rintro _ J ⟨rfl,F⟩
 have c:=(yi k F)
 refine cmp rfl rfl rfl (qM o_) (fK c 13 ?_)
 refine jA (m:=fP.length) 1 rfl rfl y8 c rfl (fK c 12 ?_)
 refine jh (pvs:=[(0,(Za i)),(1,(Za key))]) (v:=.agg (Zz i key)) rfl rfl (jx [(0,(Ze i)),(1,(Ze key))] pV RQ rfl ⟨rfl,rfl,rfl,rfl,trivial⟩ rfl) (kg (vs:=(HQ i key)) (cs:=(Zp i key)) rfl rfl y8 pV rfl (by simp[Value.cells]) rfl rfl rfl c (fun z K L M l=>mS (cf:=gG.cells) (ys:=fP) (zs:=[(⟨i,key⟩:gG)]) (LL:=fun a=>[row (Z6 z) 161 2 1 ((Zp i key)),blk hb 255 (pL hb n iv pv),fM gG.cells a 161 2 (fP++[(⟨i,key⟩:gG)]),fM iA pv 269 1 ps,gP fW 271 64 ps pl]) 2 rfl rfl rfl y8 pV rfl d_ l rfl (lX l (i:=0) rfl) (fun x hx=>zq.1 (show List.all _ _=true from rfl) x hx) (by simp only[zh,zm];omega) (by simp only[zh,zm];omega) f_ ?_))
 intro a N A O
 have d:=yg [1,2,3,4] A
 refine fK d 2 ?_
 refine j8 0 d (fun B o=>?_) (hvs:=(cells_one (yu d (i:=1) rfl))) (h1:=(iw (yu d (i:=1) rfl) lS))
 have p:=yc [_,_,_,_] _ o
 refine fK o 7 ?_
 refine cl EW (Fh hb n a pv ps (fP++[(⟨i,key⟩:gG)]) pl B (ye p 0 rfl) Q i hi (fP.length:Int) (fP.length+1) o_ o_) ?_
 rintro _ C ⟨rfl,ac,D,aa,F⟩
 have q:=(yi p F)
 have ab:=aa
 have s:=yc [_,_,_,_] _ q
 refine fK q 6 ?_
 refine cl OA (SV hb n a pv ac (fP++[(⟨i,key⟩:gG)]) (jd pl i (fP.length+1)) C (ye s 0 rfl) U ab fP.length (by first|omega|(simp only[gB,zt,zh,zm];omega)) (ac4 Z _)) ?_
 rintro _ P ⟨rfl,E,G,H,b,I,F⟩
 have t:=(yi s F)
 refine fQ t 8 ?_
 refine gp (v:=Zc) Tryz.results124 rfl ?_
 exact⟨rfl,a,E,G,H,b.hp,b.gH,I,fun e=>(b.mem e).trans s_,by rw[b.o7,D],by rw[b.len];simp,yn (yc [_,_,_,_] _ t)⟩
theorem Y8(hb n:Nat)(iv pv:Value)(ps:List (Option Nat))(fP:List gG)(pl:List Nat)(w:World)(U:Own (Zj hb n iv pv fP ps pl) w)(J:Hp n fP pl)(O:jw n ps pl)(N:Ord fP)(p:Nat)(hp:p<fP.length) :
 CR ya 106 (Zm hb p) w (fun r w' => r = .tuple #[]/\∃ Y L ys M,Hp n ys M/\jw n L M/\Ord ys/\(∀ e,e∈ys↔e∈fP/\e.ix≠(fJ fP p).ix)/\L.length=ps.length/\ys.length+1=fP.length/\fZ (Zj hb n iv pv fP ps pl) w w' (Zj hb n Y pv ys L M)):=by
 have aa:=O.n
 have Z:=J.len
 obtain⟨k,W⟩:∃ k,fP.length=k+1:=⟨fP.length-1,o_⟩
 have K:=J.swap hp (show k<fP.length by omega)
 have ab:=mK fP p k
 have Q:=K.cut (m:=k) o_
 have R:=fun e=>(Wd K (m:=k) o_ e)
 have S:fJ (iI fP p k) k=fJ fP p:=by rw[Bh hp o_,if_pos rfl]
 have T:((iI fP p k).take k).length=k:=by rw[z7];omega
 refine en Tryz.func106 Tryz.ntmps106 ?_
 have H:=(yr U).unpack
 refine fR H 6 ?_
 refine jA (m:=fP.length) 1 rfl rfl y8 H rfl (ar (e:=(k:Int)) rfl rfl rfl rfl iZ ?_)
 have f:=yc [_,_,_,_] _ H
 refine fK H 8 ?_
 refine cl IP (Je hb n iv pv ps fP pl w (ye f 0 rfl) J O p k hp o_) ?_
 rintro _ u ⟨rfl,v,g,x,F⟩
 have j:=(yi f F)
 have o:=yc [_,_,_,_] _ j
 refine fK j 13 ?_
 refine cl EW (Fh hb n iv pv v (iI fP p k) (jd (jd pl (fJ (iI fP p k) p).ix (p+1)) (fJ (iI fP p k) k).ix (k+1)) u (ye o 0 rfl) x ((fJ (iI fP p k) k).ix) (K.ix k o_) (-1) 0 o_ o_) ?_
 rintro _ y ⟨rfl,I,q,V,F⟩
 have d:=(yi o F)
 have P:=V
 refine fK d 10 ?_
 refine slV (l:=0) (h:=k) rfl rfl y8 pV (iW (cf:=gG.cells) d 1 rfl) rfl ⟨_,gw o_⟩ o_ o_ ?_
 have c:St _ [blk hb 255 (pL hb n iv pv),fM gG.cells (oE 2 iv 0 k) 161 2 ((iI fP p k).take k),fM iA pv 269 1 I,gP fW 271 64 I (jd (jd (jd pl (fJ (iI fP p k) p).ix (p+1)) (fJ (iI fP p k) k).ix (k+1)) ((fJ (iI fP p k) k).ix) 0)] y:=St.adU d (i:=1) rfl f_ o_
 refine fK c 2 ?_
 refine j8 0 c (fun z a=>?_) (hvs:=(cells_one (yu c (i:=1) rfl))) (h1:=(iw (yu c (i:=1) rfl) lS))
 refine fK a 6 ?_
 by_cases E:((p:Int):Int)<((k:Int):Int)
 . have s:=yc [_,_,_,_] _ a
   refine fK a 7 ?_
   refine cl OA (SV hb n (oE 2 iv 0 k) pv I ((iI fP p k).take k) (jd (jd (jd pl (fJ (iI fP p k) p).ix (p+1)) (fJ (iI fP p k) k).ix (k+1)) ((fJ (iI fP p k) k).ix) 0) z (ye s 0 rfl) Q P p (by first|omega|(simp only[gB,zt,zh,zm];omega)) (N.cut W o_)) ?_
   rintro _ G ⟨rfl,A,B,C,b,D,F⟩
   have t:=(yi s F)
   refine fQ t 1 ?_
   refine i6 Tryz.results106 ?_
   exact⟨rfl,(oE 2 iv 0 k),A,B,C,b.hp,b.gH,D,fun e=>(b.mem e).trans (by rw[R e,K3 hp o_,S]),by rw[b.o7,q,g],by rw[b.len,T];omega,yn (yc [_,_,_,_] _ t)⟩
 . refine fQ a 5 ?_
   refine i6 Tryz.results106 ?_
   have X:p=k:=by omega
   exact⟨rfl,(oE 2 iv 0 k),I,((iI fP p k).take k),jd (jd (jd pl (fJ (iI fP p k) p).ix (p+1)) (fJ (iI fP p k) k).ix (k+1)) ((fJ (iI fP p k) k).ix) 0,Q,P,by subst X;rw[aeS hp];exact N.V8 o_,fun e=>by rw[R e,K3 hp o_,S],by rw[q,g],by rw[T];omega,yn (yc [_,_,_,_] _ a)⟩
theorem PW(hb n:Nat)(iv pv:Value)(ps:List (Option Nat))(fP:List gG)(pl:List Nat)(w:World)(q:Own (Zj hb n iv pv fP ps pl) w)(x:Hp n fP pl)(u:jw n ps pl)(t:fP.length=0) :
 CR ya 105 (Zh hb) w (fun r w' => r = .tuple BS/\fZ (Zj hb n iv pv fP ps pl) w w' (Zj hb n iv pv fP ps pl)):=by
 refine en Tryz.func105 Tryz.ntmps105 ?_
 have p:=(yr q).unpack
 refine fR p 2 ?_
 refine iO p (fun g e h j b=>?_)
 have f:=yg [1,2,3,4,0] b
 have c:=yc [_,_,_,_] _ f
 refine fK b 7 ?_
 refine cl Cs (CH hb n iv pv ps fP pl e (ye c 0 rfl)) ?_
 rintro _ k ⟨rfl,s⟩
 have a:=(yi c s)
 refine fK a 6 ?_
 refine jA (m:=fP.length) 1 rfl rfl y8 a rfl (cmp rfl rfl rfl (qj o_) (fK a 6 ?_))
 refine jh (pvs:=[]) (v:=.agg #[Zc,Zc]) rfl rfl (jx [] pV RQ rfl trivial rfl) (jY a 6 fun l d=>?_)
 refine oc (v:=HY) (v' := Zn) Tryz.results105 (nM (cs:=vG) rfl wZ rfl pV rfl (lN d (i:=4) (o:=0) (vs:=vG) rfl rfl)) (oK rfl) ?_
 exact⟨rfl,yn (yc [_,_,_,_] _ d)⟩
theorem PX(hb n:Nat)(iv pv:Value)(ps:List (Option Nat))(fP:List gG)(pl:List Nat)(w:World)(s:Own (Zj hb n iv pv fP ps pl) w)(y:Hp n fP pl)(x:jw n ps pl)(u:0<fP.length) :
 CR ya 105 (Zh hb) w (fun r w' => r = .tuple (BT ((fJ fP 0).ix:Int) ((fJ fP 0).key))/\fZ (Zj hb n iv pv fP ps pl) w w' (Zj hb n iv pv fP ps pl)):=by
 refine en Tryz.func105 Tryz.ntmps105 ?_
 have q:=(yr s).unpack
 refine fR q 2 ?_
 refine iO q (fun g e h j b=>?_)
 have f:=yg [1,2,3,4,0] b
 have c:=yc [_,_,_,_] _ f
 refine fK b 7 ?_
 refine cl Cs (CH hb n iv pv ps fP pl e (ye c 0 rfl)) ?_
 rintro _ l ⟨rfl,t⟩
 have a:=(yi c t)
 refine fK a 6 ?_
 refine jA (m:=fP.length) 1 rfl rfl y8 a rfl (cmp rfl rfl rfl (uD o_) (fK a 12 ?_))
 refine iX (cf:=gG.cells) (k:=0) (i:=0) rfl rfl rfl y8 pV (iW a 1 rfl) o_ o_ (gE om) (jY a 6 fun p d=>?_)
 refine oc (v:=(B4 ((fJ fP 0).ix:Int) ((fJ fP 0).key))) (v' := Zf) Tryz.results105 (nM (cs:=(Zp ((fJ fP 0).ix:Int) ((fJ fP 0).key))) rfl wZ rfl pV rfl (lN d (i:=4) (o:=0) (vs:=(Zp ((fJ fP 0).ix:Int) ((fJ fP 0).key))) rfl rfl)) (oK rfl) ?_
 exact⟨rfl,yn (yc [_,_,_,_] _ d)⟩
theorem ZG(hb n:Nat)(iv pv:Value)(ps:List (Option Nat))(fP:List gG)(pl:List Nat)(w:World)(U:Own (Zj hb n iv pv fP ps pl) w)(M:Hp n fP pl)(L:jw n ps pl)(V:Ord fP)(K:0<fP.length) :
 CR ya 68 (Zh hb) w (fun r w' => r = .tuple (BT ((fJ fP 0).ix:Int) ((fJ fP 0).key))/\∃ W I ys J,Hp n ys J/\jw n I J/\Ord ys/\(∀ e,e∈ys↔e∈fP/\e.ix≠(fJ fP 0).ix)/\I.length=ps.length/\ys.length+1=fP.length/\fZ (Zj hb n iv pv fP ps pl) w w' (Zj hb n W pv ys I J)):=by
 refine en Tryz.func68 Tryz.ntmps68 ?_
 have N:=(yr U).unpack
 refine fR N 2 ?_
 refine iO N (fun x g y z a=>?_)
 have h:=yg [1,2,3,4,0] a
 have b:=yc [_,_,_,_] _ h
 refine fK a 6 ?_
 refine cl Ar (PX hb n iv pv ps fP pl g (ye b 0 rfl) M L K) ?_
 rintro _ A ⟨rfl,F⟩
 have c:=(yi b F)
 refine fK c 3 ?_
 refine iO c (fun B C D E j=>?_)
 refine gO j 13 fun k l=>?_
 have m:=yg [1,2,3,4,0,5] l
 have d:=yc [_,_,_,_] _ m
 refine cl WE (Y8 hb n iv pv ps fP pl k (ye d 0 rfl) M L V 0 K) ?_
 rintro _ G ⟨rfl,p,q,s,t,O,P,Q,R,S,T,F⟩
 have u:=(yi d F)
 refine jY u 11 fun H f=>?_
 refine oc (v:=(B4 ((fJ fP 0).ix:Int) ((fJ fP 0).key))) (v' := Zf) Tryz.results68 (nM (cs:=(Zp ((fJ fP 0).ix:Int) ((fJ fP 0).key))) rfl wZ rfl pV rfl (lN f (i:=5) (o:=0) (vs:=(Zp ((fJ fP 0).ix:Int) ((fJ fP 0).key))) rfl rfl)) (oK rfl) ?_
 exact⟨rfl,p,q,s,t,O,P,Q,R,S,T,yn (yc [_,_,_,_] _ f)⟩
theorem ZF(hb n:Nat)(iv pv:Value)(ps:List (Option Nat))(fP:List gG)(pl:List Nat)(w:World)(z:Own (Zj hb n iv pv fP ps pl) w)(B:Hp n fP pl)(A:jw n ps pl)(y:fP.length=0) :
 CR ya 68 (Zh hb) w (fun r w' => r = .tuple BS/\fZ (Zj hb n iv pv fP ps pl) w w' (Zj hb n iv pv fP ps pl)):=by
 refine en Tryz.func68 Tryz.ntmps68 ?_
 have x:=(yr z).unpack
 refine fR x 2 ?_
 refine iO x (fun j e k l a=>?_)
 have f:=yg [1,2,3,4,0] a
 have b:=yc [_,_,_,_] _ f
 refine fK a 6 ?_
 refine cl Ar (PW hb n iv pv ps fP pl e (ye b 0 rfl) B A y) ?_
 rintro _ m ⟨rfl,C⟩
 have c:=(yi b C)
 refine fK c 3 ?_
 refine iO c (fun p q s t g=>?_)
 refine jY g 22 fun u d=>?_
 refine oc (v:=HY) (v' := Zn) Tryz.results68 (nM (cs:=vG) rfl wZ rfl pV rfl (lN d (i:=5) (o:=0) (vs:=vG) rfl rfl)) (oK rfl) ?_
 have h:=yg [1,2,3,4,0,5] d
 exact⟨rfl,yn (yc [_,_,_,_] _ h)⟩
end
section
open Go Go.Sx
theorem N0(v:Value)(xs:List gG)(w:World)(hv:ir 2 gG.cells (fun _=>True) w v xs)(m:xs.length<=1000000) :
 CR ya 159 #[v] w (fun r w' => p6 2 gG.cells w w' r 161 xs/\gz [] w w'):=by
 refine en Tryz.func159 Tryz.ntmps159 ?_
 have l:=yt w
 refine fR l 9 ?_
 refine CC (v:=v) rfl rfl rfl y8 hv (gJ l 2 ?_)
 cases e:(wF v:Bool)
 . skip
   refine fR l 5 ?_
   refine kg (vs:=[]) (cs:=[]) rfl rfl y8 pV rfl (by intro v hv;simp at hv) rfl rfl rfl l ?_
   intro f g h i c
   have d:=c
   refine fK c 1 ?_
   refine mS (cf:=gG.cells) (ys:=[]) (zs:=xs) (LL:=fun a=>[fM gG.cells a 161 2 xs]) 0 rfl rfl rfl y8 pV rfl d_ d rfl (ir.src (yw d s_ d_ hv) f_) (xS f_ _) (by simp only[zm];omega) (by simp only[zm];omega) f_ (fun a j b k=>fQ b 4 ?_)
   refine gp (v:=a) Tryz.results159 rfl ?_
   exact⟨DK b s_,b.gC s_⟩
 . skip
   refine iP l 8 ?_
   refine gp (v:=Zg) Tryz.results159 rfl ?_
   obtain rfl:=C5 e hv
   exact⟨p6.C4, l.gC s_⟩
theorem ZA(n:Nat)(w:World)(B:n<=65536) :
 CR ya 101 (Z8 n) w (fun r w' => ∃ hb pv,r = .tuple (Z2 hb)/\fZ (gq []) w w' (gq [blk hb 255 [(Zb hb),(Za n),Zg,pv],fM gG.cells Zg 161 2 ([]),fM iA pv 269 1 (List.replicate ((n+63) / 64) none),gP fW 271 64 (List.replicate ((n+63) / 64) none) (List.replicate (64*((n+63) / 64)) 0)])):=by
 refine en Tryz.func101 Tryz.ntmps101 ?_
 have A:=yt w
 refine fR A 10 ?_
 refine cmp rfl rfl rfl (k8 o_) (fK A 2 ?_)
 refine cmp rfl rfl rfl (qn o_) (fK A 10 ?_)
 refine ar (e:=((n+64:Nat):Int)) rfl rfl rfl rfl iZ (ar (e:=((n+63:Nat):Int)) rfl rfl rfl rfl iZ (quo (a:=((n+63:Nat):Int)) (b:=64) (e:=(((n+63) / 64:Nat):Int)) rfl rfl rfl d_ (wN 64 o_) (sU (cf:=iA) (z0:=none) (m:=((n+63) / 64)) (c:=((n+63) / 64)) rfl rfl rfl ve Dz rfl f_ d_ (zn _) o_ o_ A (fun d s t u j=>jh (pvs:=[(1,(Za n)),(3,(Zd d ((n+63) / 64)))]) (v:=.agg #[Zs,(Za n),Zg,(Zd d ((n+63) / 64))]) rfl rfl (jx [(1,(Ze n)),(3,(qb d ((n+63) / 64)))] Gz RX rfl ⟨rfl,rfl,rfl,rfl,trivial⟩ rfl) (iz j (fun f x y z k=>?_))))))
 refine gO k 14 fun g l=>?_
 have o:=mM (cf:=iA) l (i:=1) rfl f_ (zn _) (by simp only[maxLen];omega)
 have p:St _ [gP fW 271 64 (List.replicate ((n+63) / 64) none) (List.replicate (64*((n+63) / 64)) 0),blk f 255 (M3 f n d ((n+63) / 64)),fM iA (Zd d ((n+63) / 64)) 269 1 (List.replicate ((n+63) / 64) none)] g:=St.EI o ((n+63) / 64)
 have h:St _ [fM gG.cells Zg 161 2 ([]),gP fW 271 64 (List.replicate ((n+63) / 64) none) (List.replicate (64*((n+63) / 64)) 0),blk f 255 (M3 f n d ((n+63) / 64)),fM iA (Zd d ((n+63) / 64)) 269 1 (List.replicate ((n+63) / 64) none)] g:=rq p 161 2
 refine fQ h 6 ?_
 refine iF (v:=(Zb f)) (v' := Zc) Tryz.results101 rfl rfl ?_
 have q:=yg [2,0,3,1] h
 exact⟨f,(Zd d ((n+63) / 64)),rfl,St.eM (yc [_,_,_,_] [] q)⟩
abbrev ac0:List (List Nat):=[[],[0],[0,1],[0,1,2],[],[4],[4,5],[4,5,6],[4,5,6,7],[],[9],[9,10],[9,10,11],[9,10,11,12],[9,10,11,12,13],[0,1,2,3,4,5,6,7,8,9,10,11,12,13,14],[0,1,2,3,4,5,6,7,8,9,10,11,12,13,14,15],[0,1,2,3,4,5,6,7,8,9,10,11,12,13,14,15,16]]
theorem Y7(hb n:Nat)(iv pv:Value)(ps:List (Option Nat))(fP:List gG)(pl:List Nat)(w:World)(hO:Own (Zj hb n iv pv fP ps pl) w)(hS:Hp n fP pl)(hP:jw n ps pl) :
 CR ya 118 (Zh hb) w (fun r w' => ∃ ac ae af T,r = .pointer (some ⟨ac,0,none⟩)/\jw n T pl/\T.length=ps.length/\fZ (Zj hb n iv pv fP ps pl) w w' (gq [blk hb 255 (pL hb n iv pv),fM gG.cells iv 161 2 fP,fM iA pv 269 1 ps,gP fW 271 64 ps pl,blk ac 255 (pL ac n ae af),fM gG.cells ae 161 2 fP,fM iA af 269 1 T,gP fW 271 64 T pl])):=by
 have aj:=hP.n
 have ai:=hS.len
 have ak:=hP.len
 have al:=hP.room
 have am:=hP.top
 refine enter (vs:=(Zi hb)) Tryz.func118 rfl Tryz.ntmps118 rfl ?_
 have ad:=(yr hO).unpack
 have x:=yc [_,_,_,_] _ ad
 refine fR ad 9 ?_
 refine jN (vl:=(Zi hb)) rfl rfl Cs (CH hb n iv pv ps fP pl w (ye x 0 rfl)) ?_
 rintro _ N ⟨rfl,ht⟩
 have p:=(lY (R' := (Zj hb n iv pv fP ps pl)) 0 x rfl ht rfl).unpack
 refine gJ p 7 ?_
 refine Sw (Γ:=Value×Nat×Nat) mixed ac0 [8,14,16] k_ [fun(e,d,g)=>(Zb hb),fun(e,d,g)=>(Zb hb),fun(e,d,g)=>(.pointer (some ⟨hb,1,none⟩)),fun(e,d,g)=>(Za n),fun(e,d,g)=>(Zb hb),fun(e,d,g)=>(Zb hb),fun(e,d,g)=>(.pointer (some ⟨hb,2,none⟩)),fun(e,d,g)=>iv,fun(e,d,g)=>e,fun(e,d,g)=>(Zb hb),fun(e,d,g)=>(Zb hb),fun(e,d,g)=>(Mj hb),fun(e,d,g)=>pv,fun(e,d,g)=>(Za ps.length),fun(e,d,g)=>(Zd d ps.length),fun(e,d,g)=>(H7 n e d ps.length),fun(e,d,g)=>(Zb g),fun(e,d,g)=>(Zb g)] [([],(fun(e,d,g)=>(HS hb n iv pv fP ps pl),fun _ _=>True)),([8],(fun(e,d,g)=>[fM gG.cells e 161 2 fP,blk hb 255 (pL hb n iv pv),fM gG.cells iv 161 2 fP,fM iA pv 269 1 ps,gP fW 271 64 ps pl],fun _ _=>True)),([14],(fun(e,d,g)=>[blk d 269 ((List.replicate ps.length none).flatMap iA),blk hb 255 (pL hb n iv pv),fM gG.cells iv 161 2 fP,fM iA pv 269 1 ps,gP fW 271 64 ps pl],fun _ _=>True)),([8,14],(fun(e,d,g)=>[blk d 269 ((List.replicate ps.length none).flatMap iA),fM gG.cells e 161 2 fP,blk hb 255 (pL hb n iv pv),fM gG.cells iv 161 2 fP,fM iA pv 269 1 ps,gP fW 271 64 ps pl],fun _ _=>True)),([8,14,16],(fun(e,d,g)=>[blk g 255 (M5 n e d ps.length),blk d 269 ((List.replicate ps.length none).flatMap iA),fM gG.cells e 161 2 fP,blk hb 255 (pL hb n iv pv),fM gG.cells iv 161 2 fP,fM iA pv 269 1 ps,gP fW 271 64 ps pl],fun _ _=>True))] (Zg,0,0) (fun(e,d,g)=>(3,(Zb g)) :: (26,(Zb g)) :: (25,(H7 n e d ps.length)) :: (24,(Zd d ps.length)) :: (23,(Za ps.length)) :: (22,pv) :: (21,(Mj hb)) :: (20,(Zb hb)) :: (19,(Zb hb)) :: (18,e) :: (17,iv) :: (16,(.pointer (some ⟨hb,2,none⟩))) :: (15,(Zb hb)) :: (14,(Zb hb)) :: (13,(Za n)) :: (12,(.pointer (some ⟨hb,1,none⟩))) :: (11,(Zb hb)) :: (10,(Zb hb)) :: _) rfl p (fun _ _=>trivial) ?_ (fun(e,d,g)=>rfl) rfl ?_
 . skip
   refine nI rfl (fun(e,d,g) _ _=>qv rfl rfl (kV (v:=(Zb hb)) rfl)) (nI rfl (fun(e,d,g) _ _=>qv rfl rfl (AP (a:=⟨hb,0,none⟩) rfl)) (nI rfl (fun(e,d,g) _ _=>qv rfl rfl (uI (o:=0) (o' := 1) rfl DG rfl gy rfl)) (AT rfl ⟨(fun(e,d,g) Z F hF=>qv rfl rfl (mD (a:=⟨hb,1,none⟩) (v:=(Za n)) rfl yf rfl (lM F 0 rfl rfl))),(fun(e,d,g) Z F hF=>qv rfl rfl (mD (a:=⟨hb,1,none⟩) (v:=(Za n)) rfl yf rfl (lM F 1 rfl rfl))),(fun(e,d,g) Z F hF=>qv rfl rfl (mD (a:=⟨hb,1,none⟩) (v:=(Za n)) rfl yf rfl (lM F 1 rfl rfl))),(fun(e,d,g) Z F hF=>qv rfl rfl (mD (a:=⟨hb,1,none⟩) (v:=(Za n)) rfl yf rfl (lM F 2 rfl rfl))),trivial,trivial⟩ (nI rfl (fun(e,d,g) _ _=>qv rfl rfl (kV (v:=(Zb hb)) rfl)) (nI rfl (fun(e,d,g) _ _=>qv rfl rfl (AP (a:=⟨hb,0,none⟩) rfl)) (nI rfl (fun(e,d,g) _ _=>qv rfl rfl (uI (o:=0) (o' := 2) rfl DG rfl Lh rfl)) (AT rfl ⟨(fun(e,d,g) Z F hF=>qv rfl rfl (mD (a:=⟨hb,2,none⟩) (v:=iv) rfl y8 rfl (lM F 0 rfl rfl))),trivial,(fun(e,d,g) Z F hF=>qv rfl rfl (mD (a:=⟨hb,2,none⟩) (v:=iv) rfl y8 rfl (lM F 1 rfl rfl))),trivial,trivial,trivial⟩ ?_)))))))
   refine AS rfl ⟨⟨_,_,rfl,fun(e,d,g) Z F hF=>FD rfl rfl (sM (vl:=[iv]) rfl OC) (N0 iv fP Z (iW F 1 rfl).any (by first|omega|(simp;omega))) (fun s _ hz=>⟨(s,d,g),⟨(w5 F hz.2 hz.1),trivial⟩,rfl,kP rfl sT⟩)⟩,trivial,⟨_,_,rfl,fun(e,d,g) Z F hF=>FD rfl rfl (sM (vl:=[iv]) rfl OC) (N0 iv fP Z (iW F 2 rfl).any (by first|omega|(simp;omega))) (fun s _ hz=>⟨(s,d,g),⟨(mN (w5 F hz.2 hz.1) (List.Perm.swap _ _ _)),trivial⟩,rfl,kP rfl sT⟩)⟩,trivial,trivial,trivial⟩ (nI rfl (fun(e,d,g) _ _=>qv rfl rfl (kV (v:=(Zb hb)) rfl)) (nI rfl (fun(e,d,g) _ _=>qv rfl rfl (AP (a:=⟨hb,0,none⟩) rfl)) (nI rfl (fun(e,d,g) _ _=>qv rfl rfl (uI (o:=0) (o' := 3) rfl DG rfl Lg rfl)) (AT rfl ⟨(fun(e,d,g) Z F hF=>qv rfl rfl (mD (a:=⟨hb,3,none⟩) (v:=pv) rfl ve rfl (lM F 0 rfl rfl))),(fun(e,d,g) Z F hF=>qv rfl rfl (mD (a:=⟨hb,3,none⟩) (v:=pv) rfl ve rfl (lM F 1 rfl rfl))),trivial,trivial,trivial,trivial⟩ (nI rfl (fun(e,d,g) _ _=>qv rfl rfl (JK (v:=pv) rfl ve (iW (cf:=iA) p 2 rfl))) (AS rfl ⟨⟨_,_,rfl,fun(e,d,g) Z F hF=>rS (cf:=iA) (z0:=none) (m:=ps.length) (c:=ps.length) rfl rfl rfl ve Dz rfl f_ d_ (zn _) o_ o_ F (fun t _ h=>⟨(e,t,g),⟨h,trivial⟩,rfl,kP rfl sT⟩)⟩,⟨_,_,rfl,fun(e,d,g) Z F hF=>rS (cf:=iA) (z0:=none) (m:=ps.length) (c:=ps.length) rfl rfl rfl ve Dz rfl f_ d_ (zn _) o_ o_ F (fun t _ h=>⟨(e,t,g),⟨h,trivial⟩,rfl,kP rfl sT⟩)⟩,trivial,trivial,trivial,trivial⟩ (AT rfl ⟨trivial,trivial,trivial,(fun(e,d,g) Z F hF=>qv rfl rfl (Cg (pvs:=[(1,(Za n)),(2,e),(3,(Zd d ps.length))]) (v:=.agg #[Zs,(Za n),e,(Zd d ps.length)]) rfl (jx [(1,(Ze n)),(2,[e]),(3,(qb d ps.length))] Gz RX rfl ⟨rfl,rfl,rfl,(cells_one (yu F (i:=1) rfl)),rfl,rfl,trivial⟩ rfl))),trivial,trivial⟩ ?_)))))))
   refine AS rfl ⟨trivial,trivial,trivial,⟨_,_,rfl,fun(e,d,g) Z F hF=>JP (v:=(H7 n e d ps.length)) (cs:=(M5 n e d ps.length)) rfl rfl rfl F (fun B _ h=>⟨(e,d,B),⟨h,trivial⟩,rfl,kP rfl sT⟩)⟩,trivial,trivial⟩ (nI rfl (fun(e,d,g) _ _=>qv rfl rfl (vV (v:=(Zb g)) rfl)) ?_)
   exact Rt
 rintro⟨e,d,g⟩ O C -
 refine KM tt none C 13 fun D E=>?_
 have G:=mM (cf:=iA) E (i:=1) rfl f_ (zn _) (by simp only[maxLen];omega)
 have H:St _ [gP fW 271 64 (List.replicate ps.length none) pl,blk g 255 (Ib g n e d ps.length),fM iA (Zd d ps.length) 269 1 (List.replicate ps.length none),fM gG.cells e 161 2 fP,blk hb 255 (pL hb n iv pv),fM gG.cells iv 161 2 fP,fM iA pv 269 1 ps,gP fW 271 64 ps pl] D:=St.EI G ps.length
 have l:=yg [4,5,6,7,1,3,2,0] H
 refine fK l 4 ?_
 refine jA (m:=ps.length) 2 rfl rfl ve l rfl (gJ l 4 ?_)
 refine lp (α:=Nat×List (Option Nat)) (fun(k,T)=>[(3,(Zb g)),(34,pv),(35,(Za ps.length)),(36,(Za k))]) (fun(k,T) w1=>St [(w,(Zj hb n iv pv fP ps pl).gK)] (Mp hb n iv pv fP ps pl g e d ps.length T) w1/\k<=ps.length/\qA ps T k) (fun(k,T)=>ps.length-k) (0,(List.replicate ps.length none)) ⟨rfl,rfl,rfl,gw rO,trivial⟩ (⟨l,o_,qA.start ps⟩) ?_
 rintro⟨k,T⟩ P Q ⟨aa,ag,hC⟩
 have ah:=hP.len
 have an:=hC.len
 refine fR aa 2 ?_
 by_cases R:((k:Int):Int)<((ps.length:Int):Int)
 . have hk:k<ps.length:=by omega
   obtain⟨I,j⟩:∃ q,(fJ ps k)=q:=⟨_,rfl⟩
   refine fK aa 21 ?_
   rcases I with _|y
   . skip
     refine mY (a:=(fJ ps k).map fun b=>⟨b,0,none⟩) (c:=false) rfl rfl rfl zC (by rw[j];rfl) (fQ aa 10 ?_)
     refine tN (?_)
     exact again ((k+1),T) ⟨rfl,rfl,rfl,gw rO,trivial⟩ (⟨aa,o_,hC.skip ((gE hk).trans (congrArg some j))⟩) (by show (ps.length-(k+1):Nat)<ps.length-k;omega)
   . skip
     refine mY (a:=(fJ ps k).map fun b=>⟨b,0,none⟩) (c:=true) rfl rfl rfl zC (by rw[j];rfl) (fK aa 6 ?_)
     refine uR (a:=⟨y,0,none⟩) rfl (AY j) ?_
     have ab:(((pl.drop (64*k)).take 64).flatMap fW).length=64:=NW (cf:=fW) (sz:=1) f_ hP.len hk
     refine uN (b:=y) (o:=0) (cs:=(((pl.drop (64*k)).take 64).flatMap fW)) rfl rfl G1 rfl Lj ab (St.NQ aa (i:=3) rfl ((gE hk).trans (congrArg some j))) (iO aa (fun u S U V J=>?_))
     refine Gp (v:=.agg (((pl.drop (64*k)).take 64).flatMap fW).toArray) (vs:=(((pl.drop (64*k)).take 64).flatMap fW)) (L' := [blk u 271 (((pl.drop (64*k)).take 64).flatMap fW),blk hb 255 (pL hb n iv pv),fM gG.cells iv 161 2 fP,fM iA pv 269 1 ps,gP fW 271 64 ps pl,blk g 255 (Ib g n e d ps.length),fM gG.cells e 161 2 fP,fM iA (Zd d ps.length) 269 1 T,gP fW 271 64 T pl]) 0 rfl rfl rfl rfl Lj ab (zq.2 (xS f_ _)) J rfl (by rw[ab];decide) (SN (by rw[ab];rfl)) rfl (fun W z X=>fK z 9 ?_)
     refine iR (f:=(fun _=>(some u))) 7 z (fun Y A=>?_) (v:=(Zd d ps.length)) (k:=k) (off:=0) (sz:=1)
     refine fQ A 7 ?_
     refine tN (?_)
     have K:=yg [0,8,1,2,3,4,5,6,7] A
     have L:=St.NR K (hC.next hk) rfl
     have M:=yg [1,2,3,4,5,6,7,0] L
     exact again ((k+1),fO T k (fun _=>(some u))) ⟨rfl,rfl,rfl,gw rO,trivial⟩ (⟨M,o_,hC.set hk⟩) (by show (ps.length-(k+1):Nat)<ps.length-k;omega)
 . refine fQ aa 17 ?_
   refine gp (v:=(Zb g)) Tryz.results118 rfl ?_
   exact⟨g,e,(Zd d ps.length),T,rfl,hP.copy hC o_,hC.len,yo (R' := (gq (Mp hb n iv pv fP ps pl g e d ps.length T))) (yc [_,_,_,_,_,_,_,_] _ aa) zd⟩
end
end Go.Proofs.YthpnckhjmbbalaaGreatDoor
