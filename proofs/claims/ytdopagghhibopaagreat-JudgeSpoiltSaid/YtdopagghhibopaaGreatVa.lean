/- What the functions that the statements reach do: walks through the code of the program and of the references, one theorem a function; under what is said of its arguments. -/
import Derived.Test.YtdopagghhibopaaGreatFa
import Derived.Test.YtdopagghhibopaaGreatFc
import Derived.Test.YtdopagghhibopaaGreatFb
import Derived.Test.YtdopagghhibopaaGreatFd
import Derived.Test.YtdopagghhibopaaGreatProg
import Derived.KernelRfl
set_option linter.unusedVariables false
set_option linter.unusedSimpArgs false
set_option maxRecDepth 100000
set_option maxHeartbeats 4000000
namespace Go.Proofs.YtdopagghhibopaaGreat
section
open Go Go.Sx
noncomputable abbrev ya:=@Tryz.prog
abbrev yc:=@St.pack
abbrev yd:=@St.aae
abbrev ye:=@St.ND
abbrev yf:=@Tryz.underlying3
abbrev yg:=@Tryz.underlying30
abbrev yh:=@Tryz.underlying115
abbrev yi:=@St.re
abbrev yj:=@Tryz.underlying269
abbrev yk:=@Tryz.underlying263
abbrev ym:=@Tryz.underlying128
abbrev yn:=@Tryz.underlying260
abbrev yo:=@St.zB
abbrev yp:=@St.tu
abbrev yq:=@St.eT
abbrev yr:=@Tryz.underlying111
abbrev yt:=@Tryz.underlying34
abbrev yu:=@Tryz.underlying267
abbrev yv:=@St.tn
abbrev yw:=@St.DS
abbrev yx:=@St.p8
abbrev yy:=@Tryz.underlying25
abbrev yz:=@St.Ig
abbrev y8:=@St.Jx
abbrev y9:=@Tryz.underlying4
abbrev jc:=@St.grow
abbrev kO:=@St.HC
abbrev j5:=@St.Xo
abbrev nY:=@Tryz.underlying28
abbrev nW:=@Tryz.underlying44
abbrev oE:=@Tryz.underlying272
abbrev jI:=@St.init
abbrev oW:=@Tryz.underlying259
abbrev pg:=@Tryz.underlying32
abbrev p9:=@Tryz.underlying177
abbrev rG:=@Tryz.underlying130
abbrev rC:=@Tryz.underlying172
abbrev pX:=@Tryz.results208
abbrev qD:=@Tryz.underlying5
abbrev si:=@Tryz.underlying277
abbrev mq:=@St.unpack
abbrev qb:=@Tryz.results29
abbrev l6:=@St.ZH
abbrev qF:=@Tryz.results27
abbrev mO:=@St.XL
abbrev tG:=@Tryz.underlying24
abbrev tC:=@Tryz.underlying57
abbrev kf:=@St.un
abbrev uS:=@Tryz.underlying262
abbrev s8:=@Tryz.underlying2
abbrev uE:=@Tryz.underlying64
abbrev uF:=@Tryz.underlying60
abbrev mH:=@St.aas
abbrev vY:=@Tryz.underlying203
abbrev tf:=@Tryz.results44
abbrev uW:=@Tryz.results143
abbrev uX:=@Tryz.results233
abbrev yG:=@Tryz.underlying258
abbrev nG:=@St.fact
abbrev ox:=@St.perm
abbrev o4:=@St.made
abbrev AT:=@Tryz.underlying22
abbrev yI:=@Tryz.results56
abbrev wm:=@St.Uk
abbrev CL:=@Tryz.underlying127
abbrev Cg:=@Tryz.underlying162
abbrev Ch:=@Tryz.underlying52
abbrev AB:=@Tryz.results85
abbrev uO:=@St.N1
abbrev CG:=@Tryz.results232
abbrev FQ:=@Tryz.underlying166
abbrev EV:=@Tryz.underlying126
abbrev AE:=@St.Tp
abbrev FR:=@Tryz.underlying279
abbrev xW:=@St.W6
abbrev xX:=@St.WD
abbrev FY:=@Tryz.underlying36
abbrev EW:=@Tryz.underlying59
abbrev FG:=@Tryz.underlying83
abbrev FA:=@Tryz.underlying79
abbrev EX:=@Tryz.underlying50
abbrev xI:=@St.Yb
abbrev AZ:=@St.Wx
abbrev Fj:=@Tryz.results230
abbrev FM:=@Tryz.results198
abbrev Gb:=@Tryz.results243
abbrev E7:=@Tryz.results49
abbrev E4:=@Tryz.results22
theorem k_{p:Prop}(h:p:=by kernel_rfl):p:=h
theorem f_{p:Prop}(h:p:=by exact fun _=>rfl):p:=h
abbrev p_:Value×List Nat->Value:=Prod.fst
end
section
open Go Go.Sx
abbrev Zf:=(.bool true:Value)
abbrev uG:=(.int .i64 1:Value)
abbrev wo:=(.int .i64 5:Value)
abbrev xR:=(.int .i64 2:Value)
abbrev vS:=(.int .u64 0:Value)
abbrev Zc:=(.int .i64 0:Value)
abbrev Zq:=(.bool false:Value)
abbrev Zu(a:Int):=(.int .u8 a:Value)
abbrev CB:=([.int .u64 0]:List Value)
abbrev Za(a:Int):=(.int .i64 a:Value)
abbrev Zd(a:Int):=(.int .u64 a:Value)
abbrev Gd:=([.int .i64 1]:List Value)
abbrev Cc:=([.int .i64 5]:List Value)
abbrev Z6:=(.pointer none:Value)
abbrev Zw:=(.int .i64 (-1):Value)
abbrev Ze(a:Int):=([.int .i64 a]:List Value)
abbrev Zk:=(.slice none 0 0:Value)
abbrev Zz(a:Int):=([.int .u64 a]:List Value)
abbrev sj(a:Int):=(#[.int .i64 a]:Array Value)
abbrev xK:=([.int .i64 0,.nilFunc]:List Value)
abbrev Kq:=(.func (.func 28) #[] #[]:Value)
abbrev KB:=(.func (.func 27) #[] #[]:Value)
abbrev KH:=(.func (.func 29) #[] #[]:Value)
abbrev Z5:=([.int .i64 0,.int .i64 0]:List Value)
abbrev Fc a b:=(fV Lv.cells a 34 7 b:gh)
abbrev uM(a:Int)(b:Bool):=(#[.int .i64 a,.bool b]:Array Value)
abbrev Kw:=(#[.int .i64 0,.bool false]:Array Value)
abbrev QJ(a:Int):=([.int .i64 2,.int .i64 a]:List Value)
abbrev Fh(a:Int):=([.int .i64 5,.int .i64 a]:List Value)
abbrev KR(a:Int):=(#[.int .i64 a,.bool true]:Array Value)
abbrev Q1(a:Int):=([.int .i64 1,.int .i64 a]:List Value)
abbrev Kz(a:Int):=(#[.int .i64 2,.int .i64 a]:Array Value)
abbrev Ct(a:Int):=(#[.int .i64 5,.int .i64 a]:Array Value)
abbrev A6(a:Int):=(#[.int .i64 a,.int .i64 0]:Array Value)
abbrev Qs(a:Int):=(#[.int .i64 1,.int .i64 a]:Array Value)
abbrev AA(a:Nat):=(.pointer (some ⟨a,1,none⟩):Value)
abbrev pZ(a:Nat):=(.pointer (some ⟨a,2,none⟩):Value)
abbrev xL(a:Nat):=(.pointer (some ⟨a,3,none⟩):Value)
abbrev Zi(a b:Int):=([.int .i64 a,.int .i64 b]:List Value)
abbrev Z4(a:Nat):=(.pointer (some ⟨a,6,none⟩):Value)
abbrev Zb(a:Nat):=(.pointer (some ⟨a,0,none⟩):Value)
abbrev qI(a b:Int):=(#[.int .i64 a,.int .i64 b]:Array Value)
abbrev CJ(a b:Int):=(#[.int .u64 a,.int .u64 b]:Array Value)
abbrev Z0(a b:Nat):=(.pointer (some ⟨a,b,none⟩):Value)
abbrev x9(a:Nat):=(.slice (some ⟨a,0,none⟩) 2 2:Value)
abbrev J6:=(.agg #[.int .i64 0,.int .i64 0]:Value)
abbrev Zj(a:Nat):=([.pointer (some ⟨a,0,none⟩)]:List Value)
abbrev Zy(a:Nat):=(.slice (some ⟨a,0,none⟩) 1 1:Value)
abbrev Zl(a:Nat):=(#[.pointer (some ⟨a,0,none⟩)]:Array Value)
abbrev tJ(a b:Int):=(.agg (qI a b):Value)
abbrev Zb5(a:Int):=([.agg (Qs a)]:List Value)
abbrev Fb(a:Int):=([.agg (Ct a)]:List Value)
abbrev Zv(a b:Nat):=(.slice (some ⟨a,0,none⟩) b b:Value)
abbrev Qn(a:Int):=([.agg (Kz a)]:List Value)
abbrev FZ(a b:Nat):=([.slice (some ⟨a,0,none⟩) b b]:List Value)
abbrev Fk:=([.int .i64 2,.func (.func 28) #[] #[]]:List Value)
abbrev Fi:=([.int .i64 1,.func (.func 27) #[] #[]]:List Value)
abbrev CC:=([.int .i64 5,.func (.func 29) #[] #[]]:List Value)
abbrev Qy:=(#[.int .i64 5,.func (.func 29) #[] #[]]:Array Value)
abbrev Qc:=(#[.int .i64 1,.func (.func 27) #[] #[]]:Array Value)
abbrev P9:=(#[.int .i64 2,.func (.func 28) #[] #[]]:Array Value)
abbrev Zt(a:Nat)(b c:Int):=(blk a 107 (Zi b c):gh)
abbrev E9(a:gj):=(.agg #[.int .i64 a.ix,.int .i64 a.key]:Value)
abbrev qL(a:Nat):=(#[.pointer (some ⟨a,0,none⟩),.int .i64 0]:Array Value)
abbrev qO(a:Int)(b:Nat):=([.int .i64 a,.pointer (some ⟨b,0,none⟩)]:List Value)
abbrev FV(a:Nat)(b:Int):=([.pointer (some ⟨a,0,none⟩),.int .i64 b]:List Value)
abbrev qE(a:Nat)(b:Int):=(#[.pointer (some ⟨a,0,none⟩),.int .u64 b]:Array Value)
abbrev Ca:=(#[.agg #[.int .i64 0,.int .i64 0],.bool false]:Array Value)
abbrev Zn(a:Nat)(b:Int):=(#[.pointer (some ⟨a,0,none⟩),.int .i64 b]:Array Value)
abbrev tD(a:WW)(b:Int):=(blk a.cb 107 (Zi b a.now):gh)
abbrev Cj(a b:Int):=(#[.agg (qI a b),.bool true]:Array Value)
abbrev xF:=([.int .i64 0,.int .i64 0,.int .i64 0,.int .i64 0]:List Value)
abbrev Ge:=([.int .i64 0,.int .i64 0,.int .i64 0,.bool false]:List Value)
abbrev FU(a:Int)(b:Nat):=(.agg #[.int .i64 a,.pointer (some ⟨b,0,none⟩)]:Value)
abbrev Qa(a:Nat):=(.func (.func 207) (Zl a) #[]:Value)
abbrev Qg(a:Nat):=(.func (.func 208) (Zl a) #[]:Value)
abbrev Zo:=([.int .i64 20,.int .i64 30,.int .i64 10,.int .i64 0]:List Value)
abbrev Qv a b:=(gP a .u64 p_ b:gh)
abbrev ov(a:Nat)(b:Int) c d:=([.pointer (some ⟨a,0,none⟩),.int .i64 b,c,d]:List Value)
abbrev xM(a b c d:Int):=([.int .i64 a,.int .i64 b,.int .i64 c,.int .i64 d]:List Value)
abbrev xU:=(.agg #[.int .i64 20,.int .i64 30,.int .i64 10,.int .i64 0]:Value)
abbrev Ki(a:Nat) b c:=(.agg #[.pointer none,.pointer (some ⟨a,0,none⟩),b,c]:Value)
abbrev Z2(a:Nat)(b c:Int):=(#[.pointer (some ⟨a,0,none⟩),.int .i64 b,.int .i64 c]:Array Value)
abbrev xO(a b:Nat):=([.pointer (some ⟨a,0,none⟩),.pointer (some ⟨b,0,none⟩)]:List Value)
abbrev F9(a b:Nat):=(#[.pointer (some ⟨a,0,none⟩),.pointer (some ⟨b,0,none⟩)]:Array Value)
abbrev wz(a b c d:Int):=(.agg #[.int .i64 a,.int .i64 b,.int .i64 c,.int .i64 d]:Value)
abbrev Qd(a b c d:Int):=(.agg #[.int .u64 a,.int .u64 b,.int .i64 c,.int .i64 d]:Value)
abbrev Qf(a b:Nat):=(#[.pointer none,.slice (some ⟨a,0,none⟩) b b,.int .i64 0]:Array Value)
abbrev P8(a b c d:Int):=(#[.agg #[.int .i64 a,.int .i64 b,.int .i64 c,.int .i64 d]]:Array Value)
abbrev Zp(a:Lv):=([.int .u64 a.u,.int .u64 a.v,.int .i64 a.wt,.int .i64 a.t]:List Value)
abbrev PY a (b c:Nat):=(#[a,.pointer (some ⟨b,0,none⟩),.pointer (some ⟨c,0,none⟩)]:Array Value)
abbrev Q3(a:Int) b (c d:Nat):=([.pointer none,.int .i64 a,b,.slice (some ⟨c,0,none⟩) d d]:List Value)
abbrev tA(a:Lv):=(.agg #[.int .u64 a.u,.int .u64 a.v,.int .i64 a.wt,.int .i64 a.t]:Value)
abbrev Ko(a:Int) b (c d:Nat):=(.agg #[.pointer none,.int .i64 a,b,.slice (some ⟨c,0,none⟩) d d]:Value)
abbrev nZ(a b:Nat)(c:TW):=([.pointer (some ⟨a,0,none⟩),.pointer (some ⟨b,0,none⟩),c.iv,c.cv]:List Value)
abbrev Zm(a b c:Nat)(d:Int):=([.pointer (some ⟨a,0,none⟩),.slice (some ⟨b,0,none⟩) c c,.int .i64 d]:List Value)
abbrev QK(a:Int)(b c:Nat):=(#[.pointer none,.int .i64 a,.slice none 0 0,.slice (some ⟨b,0,none⟩) c c]:Array Value)
abbrev Fu(a:Nat)(b:Int) c (d e:Nat):=([.pointer (some ⟨a,0,none⟩),.int .i64 b,c,.slice (some ⟨d,0,none⟩) e e]:List Value)
abbrev QG(a:Int):=(#[.pointer none,.slice none 0 0,.int .i64 a,.int .i64 0,.int .i64 0,.int .i64 (-1)]:Array Value)
abbrev Zx:=([.int .i64 0,.int .u64 0,.int .u64 0,.int .u64 0,.int .i64 0,.int .i64 0,.int .i64 0]:List Value)
abbrev KP:=(#[.int .i64 0,.int .u64 0,.int .u64 0,.int .u64 0,.int .i64 0,.int .i64 0,.int .i64 0]:Array Value)
abbrev QW(a b c:Nat):=([.pointer (some ⟨a,0,none⟩),.pointer (some ⟨b,0,none⟩),.pointer (some ⟨c,0,none⟩)]:List Value)
abbrev Ar(a b c:Nat)(d:Int):=(blk a 265 (Zm a b c d):gh)
abbrev PX(a:Nat)(b:Int)(c d:Nat):=([.pointer (some ⟨a,0,none⟩),.int .i64 b,.slice none 0 0,.slice (some ⟨c,0,none⟩) d d]:List Value)
abbrev Qi(a b c:Nat):=(#[.pointer none,.pointer (some ⟨a,0,none⟩),.slice none 0 0,.slice (some ⟨b,0,none⟩) c c]:Array Value)
abbrev vR(a:Nat) b (c:As) (d:Int):=([.pointer (some ⟨a,0,none⟩),b,.int .i64 c.n,.int .i64 d,.int .i64 c.used,.int .i64 c.last]:List Value)
abbrev KI(a:Nat) b (c:As) (d:Int):=([.pointer (some ⟨a,0,none⟩),b,.int .i64 c.n,.int .i64 c.begun,.int .i64 c.used,.int .i64 d]:List Value)
abbrev Cd(a:Nat)(b:Lv):=(#[.pointer (some ⟨a,0,none⟩),.agg #[.int .u64 b.u,.int .u64 b.v,.int .i64 b.wt,.int .i64 b.t]]:Array Value)
abbrev Qx(a:As):=(#[.pointer none,.slice none 0 0,.int .i64 a.n,.int .i64 a.begun,.int .i64 a.used,.int .i64 a.last]:Array Value)
abbrev KQ(a b c d e:Int) f g h:=([.int .i64 a,.int .i64 b,.int .i64 c,.int .i64 d,.int .i64 e,f,.int .i64 0,.map g,.map h]:List Value)
abbrev Q2(a b c d e:Int) f g h:=(#[.int .i64 a,.int .i64 b,.int .i64 c,.int .i64 d,.int .i64 e,f,.int .i64 0,.map g,.map h]:Array Value)
abbrev Z1(a:Nat) b (c:As):=([.pointer (some ⟨a,0,none⟩),b,.int .i64 c.n,.int .i64 c.begun,.int .i64 c.used,.int .i64 c.last]:List Value)
abbrev AS(a b c d e:Int) f (g:Int) h i:=([.int .i64 a,.int .i64 b,.int .i64 c,.int .i64 d,.int .i64 e,f,.int .i64 g,.map h,.map i]:List Value)
abbrev P6(a b:Int)(c d:Nat) e:=(#[.int .i64 a,.int .i64 b,.pointer (some ⟨c,0,none⟩),.pointer (some ⟨d,0,none⟩),.map e,.int .i64 0]:Array Value)
abbrev Z9(a b:Int)(c:Lv):=([.int .i64 a,.int .u64 b,.int .u64 c.u,.int .u64 c.v,.int .i64 c.wt,.int .i64 c.t,.int .i64 c.exp]:List Value)
abbrev Zdx a b c d (e:Nat):=([fV nF a 36 2 b,fV Lv.cells c 34 7 d,blk e 24 Zo]:List gh)
abbrev PW(a b:Int)(c:Lv)(d:Int):=(.agg #[.int .i64 a,.int .u64 b,.int .u64 c.u,.int .u64 c.v,.int .i64 c.wt,.int .i64 c.t,.int .i64 d]:Value)
abbrev FK(a b:Int)(c:Lv):=(.agg #[.int .i64 a,.int .u64 b,.int .u64 c.u,.int .u64 c.v,.int .i64 c.wt,.int .i64 c.t,.int .i64 c.exp]:Value)
abbrev yA(a b c:Int)(d e:Nat) f g:=([.int .i64 a,.int .i64 b,.int .u64 c,.pointer (some ⟨d,0,none⟩),.pointer (some ⟨e,0,none⟩),f,.map g]:List Value)
abbrev Zs(a:Lv):=([.int .i64 a.slot,.int .u64 a.seq,.int .u64 a.u,.int .u64 a.v,.int .i64 a.wt,.int .i64 a.t,.int .i64 a.exp]:List Value)
abbrev QU(a:Nat)(b:As):=([.pointer (some ⟨a,0,none⟩),.slice none 0 0,.int .i64 b.n,.int .i64 b.begun,.int .i64 b.used,.int .i64 b.last]:List Value)
abbrev J8 a (b:Nat) (c:Int) (d:Nat) (e:Bool) (f g h:Nat) (i:Int):=([a,blk b 3 (Ze c),blk d 4 [.bool e],blk f 127 (Zj g),blk h 30 (Zz i)]:List gh)
abbrev xY(a b c:Int)(d:fZ) e f:=([.int .i64 a,.int .i64 b,.int .u64 c,.pointer (some ⟨d.iN,0,none⟩),.pointer (some ⟨d.tb,0,none⟩),e,.map f]:List Value)
abbrev AD(a b:Int)(c:GW) d:=([.int .i64 a,.int .i64 b,.pointer (some ⟨c.fb,0,none⟩),.pointer (some ⟨c.hb,0,none⟩),.map d,.int .i64 c.trees]:List Value)
abbrev QZ(a b c:Nat)(d:List Nd):=([blk a 265 [.pointer (some ⟨a,0,none⟩),.slice (some ⟨b,0,none⟩) c c,.int .i64 0],blk b 269 (d.flatMap Nd.cells)]:List gh)
abbrev uC(a:Lv):=(.agg #[.int .i64 a.slot,.int .u64 a.seq,.int .u64 a.u,.int .u64 a.v,.int .i64 a.wt,.int .i64 a.t,.int .i64 a.exp]:Value)
abbrev Kn(a b:Int)(c d:Nat) e:=([.int .i64 a,.int .i64 b,.int .u64 0,.pointer (some ⟨c,0,none⟩),.pointer (some ⟨d,0,none⟩),.slice none 0 0,.map e]:List Value)
abbrev sv(a b c:Int)(d:fZ) e:=([.int .i64 a,.int .i64 b,.int .u64 c,.pointer (some ⟨d.iN,0,none⟩),.pointer (some ⟨d.tb,0,none⟩),d.lv,.map e]:List Value)
abbrev QT(a b:Int)(c d:Nat) e:=(#[.int .i64 a,.int .i64 b,.int .u64 0,.pointer (some ⟨c,0,none⟩),.pointer (some ⟨d,0,none⟩),.slice none 0 0,.map e]:Array Value)
abbrev Ka(a b c:Nat)(d:Int)(e:List Nd):=([blk a 265 (Zm a b c d),blk b 269 (e.flatMap Nd.cells)]:List gh)
abbrev Z7(a b:Int)(c:fZ) d:=([.int .i64 a,.int .i64 b,.int .u64 c.last,.pointer (some ⟨c.iN,0,none⟩),.pointer (some ⟨c.tb,0,none⟩),c.lv,.map d]:List Value)
abbrev Zh(a b c:Nat)(d:Int)(e:List Nd):=(gD (Ka a b c d e):gh)
abbrev CI(a b:Int)(c:Lv)(d:Int):=(.tuple #[.agg #[.int .i64 a,.int .u64 b,.int .u64 c.u,.int .u64 c.v,.int .i64 c.wt,.int .i64 c.t,.int .i64 d],.int .i64 0]:Value)
abbrev Qp(a b c d:Int):=(#[.int .i64 a,.int .i64 b,.int .i64 c,.int .i64 d,.pointer none,.pointer none,.pointer none,.pointer none,.int .u64 0,.int .u64 0]:Array Value)
abbrev Gf(a b:Nat)(c:TW) d:=([blk a 258 (nZ a b c),fV jS c.iv 30 1 c.ids,fV gO c.cv 3 1 d]:List gh)
abbrev th(a:Nat)(b:Int) c d e f g:=([blk a 262 (ov a b c d),fV gj.cells c 111 2 e,fV gM d 277 1 f,gF gO 279 64 f g]:List gh)
abbrev Ce(a b:Nat)(c:TW):=([blk a 258 (nZ a b c),fV jS c.iv 30 1 c.ids,fV gO c.cv 3 1 c.cs]:List gh)
abbrev Fm(a b:Nat)(c:TW) d:=(gD (Gf a b c d):gh)
abbrev Zg(a:Nat)(b:Int) c d e f g:=(gD (th a b c d e f g):gh)
abbrev Z3(a b:Nat)(c:TW):=(gD (Ce a b c):gh)
abbrev KE(a:Nat)(b:Lv):=(#[.pointer (some ⟨a,0,none⟩),.agg #[.int .i64 b.slot,.int .u64 b.seq,.int .u64 b.u,.int .u64 b.v,.int .i64 b.wt,.int .i64 b.t,.int .i64 b.exp]]:Array Value)
abbrev AK(a:Nat) b (c d e f:Int) g h:=(gD [blk a 205 [.pointer (some ⟨a,0,none⟩),b,.int .i64 c,.int .i64 d,.int .i64 e,.int .i64 f],fV gM b 270 1 g,gF gL.cells 274 64 g h]:gh)
abbrev PS(a:Nat) b (c:As) (d:Int) e f:=([blk a 205 (vR a b c d),fV gM b 270 1 e,gF gL.cells 274 64 e f]:List gh)
abbrev QE(a:Nat) b (c d e:Int) (f:As):=(gD [blk a 205 [.pointer (some ⟨a,0,none⟩),b,.int .i64 c,.int .i64 d,.int .i64 e,.int .i64 f.last],fV gM b 270 1 f.ps,gF gL.cells 274 64 f.ps f.sl]:gh)
abbrev QO(a:Nat) b (c:As) (d:Int):=([blk a 205 (vR a b c d),fV gM b 270 1 c.ps,gF gL.cells 274 64 c.ps c.sl]:List gh)
abbrev AL a (b c d e:Nat) (f:Int) (g:List Nd):=([a,blk b 167 (Zj c),blk c 265 (Zm c d e f),blk d 269 (g.flatMap Nd.cells)]:List gh)
abbrev QA(a:Nat)(b:Int):=([gF gL.cells 274 64 ([]) ([]),fV gM Zk 270 1 ([]),blk a 205 [.pointer (some ⟨a,0,none⟩),.slice none 0 0,.int .i64 b,.int .i64 0,.int .i64 0,.int .i64 (-1)]]:List gh)
abbrev AM(a:Nat) b (c:As):=([blk a 205 (Z1 a b c),fV gM b 270 1 c.ps,gF gL.cells 274 64 c.ps c.sl]:List gh)
abbrev Zr(a:Nat) b (c:As):=(gD (AM a b c):gh)
abbrev Ql(a:Nat) b (c:As) d e:=([blk a 205 (Z1 a b c),fV gM b 270 1 c.ps,gF gL.cells 274 64 c.ps c.sl,iA .i64 d 3 e]:List gh)
abbrev QC(a b c d:Nat)(e:Int)(f:List Nd) g h (i:Nat):=([blk a 167 (Zj b),blk b 265 (Zm b c d e),blk c 269 (f.flatMap Nd.cells),iA .i64 g 3 h,blk i 115 [g]]:List gh)
abbrev J7(a:Nat)(b:Int)(c d:Nat)(e:Int) f g h i j:=([blk a 3 (Ze b),blk c 162 (Zj d),blk d 262 (ov d e f g),fV gj.cells f 111 2 h,fV gM g 277 1 i,gF gO 279 64 i j]:List gh)
abbrev wg(a:Nat)(b:Int)(c d:Nat)(e:Int) f g h i j:=(gD (J7 a b c d e f g h i j):gh)
abbrev Ff a (b c:Nat) (d:TW) (e f:Nat) (g:Int):=(gD [a,blk b 258 (nZ b c d),fV jS d.iv 30 1 d.ids,fV gO d.cv 3 1 d.cs,blk e 127 (Zj b),blk f 30 (Zz g)]:gh)
abbrev tv(a b c d:Int)(e:WW):=([.int .i64 a,.int .i64 b,.int .i64 c,.int .i64 d,.pointer (some ⟨e.cb,0,none⟩),.pointer (some ⟨e.ub,0,none⟩),.pointer (some ⟨e.sb,0,none⟩),.pointer (some ⟨e.ob,0,none⟩),.int .u64 e.added,.int .u64 e.wX]:List Value)
abbrev tK(a:Nat)(b:Lv)(c:Nat)(d e f g h:Int) i (j:Int) k l m n:=([blk a 34 (Zs b),blk c 59 (AS d e f g h i j k l),m,n]:List gh)
abbrev Qj(a:Nat)(b:Int) c d e f g (h:Nat) i (j k:Nat) l:=([blk a 262 (ov a b c d),fV gj.cells c 111 2 e,fV gM d 277 1 f,gF gO 279 64 f g,blk h 262 (Fu h b i j k),fV gj.cells i 111 2 e,fV gM (Zv j k) 277 1 l,gF gO 279 64 l g]:List gh)
abbrev Qk(a:Nat) b (c:As) (d:Nat) e f:=(gD [blk a 205 (Z1 a b c),fV gM b 270 1 c.ps,gF gL.cells 274 64 c.ps c.sl,blk d 205 (Z1 d e c),fV gM e 270 1 f,gF gL.cells 274 64 f c.sl]:gh)
abbrev Kl:=([.int .i64 0,.int .i64 0,.int .i64 0,.int .i64 0,.int .i64 0,.int .i64 0,.int .i64 0,.int .i64 0,.int .i64 0,.int .i64 0,.int .i64 0,.int .i64 0,.int .i64 0,.int .i64 0,.int .i64 0,.int .i64 0,.int .i64 0,.int .i64 0,.int .i64 0,.int .i64 0,.int .i64 0,.int .i64 0,.int .i64 0,.int .i64 0,.int .i64 0,.int .i64 0,.int .i64 0,.int .i64 0,.int .i64 0,.int .i64 0,.int .i64 0,.int .i64 0,.int .i64 0,.int .i64 0,.int .i64 0,.int .i64 0,.int .i64 0,.int .i64 0,.int .i64 0,.int .i64 0,.int .i64 0,.int .i64 0,.int .i64 0,.int .i64 0,.int .i64 0,.int .i64 0,.int .i64 0,.int .i64 0,.int .i64 0,.int .i64 0,.int .i64 0,.int .i64 0,.int .i64 0,.int .i64 0,.int .i64 0,.int .i64 0,.int .i64 0,.int .i64 0,.int .i64 0,.int .i64 0,.int .i64 0,.int .i64 0,.int .i64 0,.int .i64 0]:List Value)
abbrev Cu:=([.int .i64 0,.int .i64 0,.int .u64 0,.int .i64 0,.int .i64 0,.int .u64 0,.int .i64 0,.int .i64 0,.int .u64 0,.int .i64 0,.int .i64 0,.int .u64 0,.int .i64 0,.int .i64 0,.int .u64 0,.int .i64 0,.int .i64 0,.int .u64 0,.int .i64 0,.int .i64 0,.int .u64 0,.int .i64 0,.int .i64 0,.int .u64 0,.int .i64 0,.int .i64 0,.int .u64 0,.int .i64 0,.int .i64 0,.int .u64 0,.int .i64 0,.int .i64 0,.int .u64 0,.int .i64 0,.int .i64 0,.int .u64 0,.int .i64 0,.int .i64 0,.int .u64 0,.int .i64 0,.int .i64 0,.int .u64 0,.int .i64 0,.int .i64 0,.int .u64 0,.int .i64 0,.int .i64 0,.int .u64 0,.int .i64 0,.int .i64 0,.int .u64 0,.int .i64 0,.int .i64 0,.int .u64 0,.int .i64 0,.int .i64 0,.int .u64 0,.int .i64 0,.int .i64 0,.int .u64 0,.int .i64 0,.int .i64 0,.int .u64 0,.int .i64 0,.int .i64 0,.int .u64 0,.int .i64 0,.int .i64 0,.int .u64 0,.int .i64 0,.int .i64 0,.int .u64 0,.int .i64 0,.int .i64 0,.int .u64 0,.int .i64 0,.int .i64 0,.int .u64 0,.int .i64 0,.int .i64 0,.int .u64 0,.int .i64 0,.int .i64 0,.int .u64 0,.int .i64 0,.int .i64 0,.int .u64 0,.int .i64 0,.int .i64 0,.int .u64 0,.int .i64 0,.int .i64 0,.int .u64 0,.int .i64 0,.int .i64 0,.int .u64 0,.int .i64 0,.int .i64 0,.int .u64 0,.int .i64 0,.int .i64 0,.int .u64 0,.int .i64 0,.int .i64 0,.int .u64 0,.int .i64 0,.int .i64 0,.int .u64 0,.int .i64 0,.int .i64 0,.int .u64 0,.int .i64 0,.int .i64 0,.int .u64 0,.int .i64 0,.int .i64 0,.int .u64 0,.int .i64 0,.int .i64 0,.int .u64 0,.int .i64 0,.int .i64 0,.int .u64 0,.int .i64 0,.int .i64 0,.int .u64 0,.int .i64 0,.int .i64 0,.int .u64 0,.int .i64 0,.int .i64 0,.int .u64 0,.int .i64 0,.int .i64 0,.int .u64 0,.int .i64 0,.int .i64 0,.int .u64 0,.int .i64 0,.int .i64 0,.int .u64 0,.int .i64 0,.int .i64 0,.int .u64 0,.int .i64 0,.int .i64 0,.int .u64 0,.int .i64 0,.int .i64 0,.int .u64 0,.int .i64 0,.int .i64 0,.int .u64 0,.int .i64 0,.int .i64 0,.int .u64 0,.int .i64 0,.int .i64 0,.int .u64 0,.int .i64 0,.int .i64 0,.int .u64 0,.int .i64 0,.int .i64 0,.int .u64 0,.int .i64 0,.int .i64 0,.int .u64 0,.int .i64 0,.int .i64 0,.int .u64 0,.int .i64 0,.int .i64 0,.int .u64 0,.int .i64 0,.int .i64 0,.int .u64 0,.int .i64 0,.int .i64 0,.int .u64 0,.int .i64 0,.int .i64 0,.int .u64 0,.int .i64 0,.int .i64 0,.int .u64 0,.int .i64 0,.int .i64 0,.int .u64 0,.int .i64 0,.int .i64 0,.int .u64 0]:List Value)
abbrev PZ a (b c:Nat) d (e:As) f g:=([a,blk b 274 Cu,blk c 205 (Z1 c d e),fV gM f 270 1 g,gF gL.cells 274 64 e.ps e.sl]:List gh)
end
section
open Go Go.Sx
theorem ti2:(ya.info? 2).map (fun i=>(i.size,i.bytes,i.zero))=some (1,8,some (.int .i64 0)):=by kernel_rfl
theorem gn:(ya.info? 3).map (fun i=>(i.size,i.bytes,i.zero))=some (1,8,some (.int .i64 0)):=by kernel_rfl
theorem p5:(ya.info? 4).map (fun i=>(i.size,i.bytes,i.zero))=some (1,1,some (.bool false)):=by kernel_rfl
theorem FB:(ya.info? 5).map (fun i=>(i.size,i.bytes,i.zero))=some (1,1,some (.int .u8 0)):=by kernel_rfl
theorem nQ:(ya.info? 24).map (fun i=>(i.size,i.bytes,i.zero))=some (4,32,some (.agg #[(.int .i64 0),(.int .i64 0),(.int .i64 0),(.int .i64 0)])):=by kernel_rfl
theorem B0:(ya.info? 25).map (fun i=>(i.size,i.bytes,i.zero))=some (1,24,some (.slice none 0 0)):=by kernel_rfl
theorem iQ:(ya.info? 30).map (fun i=>(i.size,i.bytes,i.zero))=some (1,8,some (.int .u64 0)):=by kernel_rfl
theorem oS:(ya.info? 32).map (fun i=>(i.size,i.bytes,i.zero))=some (4,32,some (.agg #[(.int .u64 0),(.int .u64 0),(.int .i64 0),(.int .i64 0)])):=by kernel_rfl
theorem iU:(ya.info? 34).map (fun i=>(i.size,i.bytes,i.zero))=some (7,56,some (.agg #[(.int .i64 0),(.int .u64 0),(.int .u64 0),(.int .u64 0),(.int .i64 0),(.int .i64 0),(.int .i64 0)])):=by kernel_rfl
theorem lH:(ya.info? 36).map (fun i=>(i.size,i.bytes,i.zero))=some (2,16,some (.agg #[(.int .i64 0),(.int .i64 0)])):=by kernel_rfl
theorem Ah:(ya.info? 44).map (fun i=>(i.size,i.bytes,i.zero))=some (1,24,some (.slice none 0 0)):=by kernel_rfl
theorem JL:(ya.info? 46).map (fun i=>(i.size,i.bytes,i.zero))=some (1,8,some (.int .i64 0)):=by kernel_rfl
theorem PI:(ya.info? 50).map (fun i=>(i.size,i.bytes,i.zero))=some (1,1,some (.int .i8 0)):=by kernel_rfl
theorem B2:(ya.info? 52).map (fun i=>(i.size,i.bytes,i.zero))=some (4,4,some (.agg #[(.int .u8 0),(.int .u8 0),(.int .i8 0),(.int .u8 0)])):=by kernel_rfl
theorem Px:(ya.info? 56).map (fun i=>(i.size,i.bytes,i.zero))=some (1,8,some (.map none)):=by kernel_rfl
theorem EJ:(ya.info? 57).map (fun i=>(i.size,i.bytes,i.zero))=some (1,8,some (.map none)):=by kernel_rfl
theorem PF:(ya.info? 59).map (fun i=>(i.size,i.bytes,i.zero))=some (9,88,some (.agg #[(.int .i64 0),(.int .i64 0),(.int .i64 0),(.int .i64 0),(.int .i64 0),(.slice none 0 0),(.int .i64 0),(.map none),(.map none)])):=by kernel_rfl
theorem PC:(ya.info? 62).map (fun i=>(i.size,i.bytes,i.zero))=some (1,8,some .nilFunc):=by kernel_rfl
theorem lq:(ya.info? 64).map (fun i=>(i.size,i.bytes,i.zero))=some (2,16,some (.agg #[(.int .i64 0),.nilFunc])):=by kernel_rfl
theorem Py:(ya.info? 78).map (fun i=>(i.size,i.bytes,i.zero))=some (1,8,some (.pointer none)):=by kernel_rfl
theorem JN:(ya.info? 79).map (fun i=>(i.size,i.bytes,i.zero))=some (1,8,some (.pointer none)):=by kernel_rfl
theorem JQ:(ya.info? 80).map (fun i=>(i.size,i.bytes,i.zero))=some (1,8,some (.pointer none)):=by kernel_rfl
theorem PK:(ya.info? 81).map (fun i=>(i.size,i.bytes,i.zero))=some (1,8,some (.pointer none)):=by kernel_rfl
theorem Pz:(ya.info? 83).map (fun i=>(i.size,i.bytes,i.zero))=some (10,80,some (.agg #[(.int .i64 0),(.int .i64 0),(.int .i64 0),(.int .i64 0),(.pointer none),(.pointer none),(.pointer none),(.pointer none),(.int .u64 0),(.int .u64 0)])):=by kernel_rfl
theorem JP:(ya.info? 96).map (fun i=>(i.size,i.bytes,i.zero))=some (4,32,some (.agg #[(.int .i64 0),(.int .i64 0),(.int .i64 0),(.int .i64 0)])):=by kernel_rfl
theorem OK:(ya.info? 105).map (fun i=>(i.size,i.bytes,i.zero))=some (1,8,some (.int .i64 0)):=by kernel_rfl
theorem OM:(ya.info? 107).map (fun i=>(i.size,i.bytes,i.zero))=some (2,16,some (.agg #[(.int .i64 0),(.int .i64 0)])):=by kernel_rfl
theorem iw:(ya.info? 111).map (fun i=>(i.size,i.bytes,i.zero))=some (2,16,some (.agg #[(.int .i64 0),(.int .i64 0)])):=by kernel_rfl
theorem oq:(ya.info? 115).map (fun i=>(i.size,i.bytes,i.zero))=some (1,24,some (.slice none 0 0)):=by kernel_rfl
theorem BS:(ya.info? 126).map (fun i=>(i.size,i.bytes,i.zero))=some (1,8,some (.pointer none)):=by kernel_rfl
theorem Ji:(ya.info? 127).map (fun i=>(i.size,i.bytes,i.zero))=some (1,8,some (.pointer none)):=by kernel_rfl
theorem q7:(ya.info? 128).map (fun i=>(i.size,i.bytes,i.zero))=some (1,8,some (.map none)):=by kernel_rfl
theorem EC:(ya.info? 130).map (fun i=>(i.size,i.bytes,i.zero))=some (7,72,some (.agg #[(.int .i64 0),(.int .i64 0),(.int .u64 0),(.pointer none),(.pointer none),(.slice none 0 0),(.map none)])):=by kernel_rfl
theorem BO:(ya.info? 162).map (fun i=>(i.size,i.bytes,i.zero))=some (1,8,some (.pointer none)):=by kernel_rfl
theorem I4:(ya.info? 166).map (fun i=>(i.size,i.bytes,i.zero))=some (2,16,some (.agg #[(.int .i64 0),(.pointer none)])):=by kernel_rfl
theorem I8:(ya.info? 167).map (fun i=>(i.size,i.bytes,i.zero))=some (1,8,some (.pointer none)):=by kernel_rfl
theorem Jz:(ya.info? 171).map (fun i=>(i.size,i.bytes,i.zero))=some (1,8,some (.agg #[(.pointer none)])):=by kernel_rfl
theorem O8:(ya.info? 172).map (fun i=>(i.size,i.bytes,i.zero))=some (1,8,some (.map none)):=by kernel_rfl
theorem Pj:(ya.info? 174).map (fun i=>(i.size,i.bytes,i.zero))=some (6,48,some (.agg #[(.int .i64 0),(.int .i64 0),(.pointer none),(.pointer none),(.map none),(.int .i64 0)])):=by kernel_rfl
theorem BP:(ya.info? 177).map (fun i=>(i.size,i.bytes,i.zero))=some (2,16,some (.agg #[(.int .u64 0),(.int .u64 0)])):=by kernel_rfl
theorem rV:(ya.info? 192).map (fun i=>(i.size,i.bytes,i.zero))=some (4,32,some (.agg #[(.int .i64 0),(.int .i64 0),(.int .i64 0),(.bool false)])):=by kernel_rfl
theorem Et:(ya.info? 203).map (fun i=>(i.size,i.bytes,i.zero))=some (1,24,some (.slice none 0 0)):=by kernel_rfl
theorem Er:(ya.info? 205).map (fun i=>(i.size,i.bytes,i.zero))=some (6,64,some (.agg #[(.pointer none),(.slice none 0 0),(.int .i64 0),(.int .i64 0),(.int .i64 0),(.int .i64 0)])):=by kernel_rfl
theorem Ep:(ya.info? 258).map (fun i=>(i.size,i.bytes,i.zero))=some (4,64,some (.agg #[(.pointer none),(.pointer none),(.slice none 0 0),(.slice none 0 0)])):=by kernel_rfl
theorem Jt:(ya.info? 259).map (fun i=>(i.size,i.bytes,i.zero))=some (1,24,some (.slice none 0 0)):=by kernel_rfl
theorem uk:(ya.info? 260).map (fun i=>(i.size,i.bytes,i.zero))=some (1,24,some (.slice none 0 0)):=by kernel_rfl
theorem EB:(ya.info? 262).map (fun i=>(i.size,i.bytes,i.zero))=some (4,64,some (.agg #[(.pointer none),(.int .i64 0),(.slice none 0 0),(.slice none 0 0)])):=by kernel_rfl
theorem OP:(ya.info? 263).map (fun i=>(i.size,i.bytes,i.zero))=some (1,24,some (.slice none 0 0)):=by kernel_rfl
theorem IZ:(ya.info? 265).map (fun i=>(i.size,i.bytes,i.zero))=some (3,40,some (.agg #[(.pointer none),(.slice none 0 0),(.int .i64 0)])):=by kernel_rfl
theorem lN:(ya.info? 267).map (fun i=>(i.size,i.bytes,i.zero))=some (2,16,some (.agg #[(.int .i64 0),(.int .i64 0)])):=by kernel_rfl
theorem iV:(ya.info? 269).map (fun i=>(i.size,i.bytes,i.zero))=some (9,72,some (.agg #[(.int .i64 0),(.int .i64 0),(.int .i64 0),(.bool false),(.int .i64 0),(.int .i64 0),(.int .i64 0),(.int .i64 0),(.int .i64 0)])):=by kernel_rfl
theorem xl:(ya.info? 270).map (fun i=>(i.size,i.bytes,i.zero))=some (1,8,some (.pointer none)):=by kernel_rfl
theorem Po:(ya.info? 272).map (fun i=>(i.size,i.bytes,i.zero))=some (3,24,some (.agg #[(.int .i64 0),(.int .i64 0),(.int .u64 0)])):=by kernel_rfl
theorem BT:(ya.info? 274).map (fun i=>(i.size,i.bytes,i.zero))=some (192,1536,some (.agg #[(.int .i64 0),(.int .i64 0),(.int .u64 0),(.int .i64 0),(.int .i64 0),(.int .u64 0),(.int .i64 0),(.int .i64 0),(.int .u64 0),(.int .i64 0),(.int .i64 0),(.int .u64 0),(.int .i64 0),(.int .i64 0),(.int .u64 0),(.int .i64 0),(.int .i64 0),(.int .u64 0),(.int .i64 0),(.int .i64 0),(.int .u64 0),(.int .i64 0),(.int .i64 0),(.int .u64 0),(.int .i64 0),(.int .i64 0),(.int .u64 0),(.int .i64 0),(.int .i64 0),(.int .u64 0),(.int .i64 0),(.int .i64 0),(.int .u64 0),(.int .i64 0),(.int .i64 0),(.int .u64 0),(.int .i64 0),(.int .i64 0),(.int .u64 0),(.int .i64 0),(.int .i64 0),(.int .u64 0),(.int .i64 0),(.int .i64 0),(.int .u64 0),(.int .i64 0),(.int .i64 0),(.int .u64 0),(.int .i64 0),(.int .i64 0),(.int .u64 0),(.int .i64 0),(.int .i64 0),(.int .u64 0),(.int .i64 0),(.int .i64 0),(.int .u64 0),(.int .i64 0),(.int .i64 0),(.int .u64 0),(.int .i64 0),(.int .i64 0),(.int .u64 0),(.int .i64 0),(.int .i64 0),(.int .u64 0),(.int .i64 0),(.int .i64 0),(.int .u64 0),(.int .i64 0),(.int .i64 0),(.int .u64 0),(.int .i64 0),(.int .i64 0),(.int .u64 0),(.int .i64 0),(.int .i64 0),(.int .u64 0),(.int .i64 0),(.int .i64 0),(.int .u64 0),(.int .i64 0),(.int .i64 0),(.int .u64 0),(.int .i64 0),(.int .i64 0),(.int .u64 0),(.int .i64 0),(.int .i64 0),(.int .u64 0),(.int .i64 0),(.int .i64 0),(.int .u64 0),(.int .i64 0),(.int .i64 0),(.int .u64 0),(.int .i64 0),(.int .i64 0),(.int .u64 0),(.int .i64 0),(.int .i64 0),(.int .u64 0),(.int .i64 0),(.int .i64 0),(.int .u64 0),(.int .i64 0),(.int .i64 0),(.int .u64 0),(.int .i64 0),(.int .i64 0),(.int .u64 0),(.int .i64 0),(.int .i64 0),(.int .u64 0),(.int .i64 0),(.int .i64 0),(.int .u64 0),(.int .i64 0),(.int .i64 0),(.int .u64 0),(.int .i64 0),(.int .i64 0),(.int .u64 0),(.int .i64 0),(.int .i64 0),(.int .u64 0),(.int .i64 0),(.int .i64 0),(.int .u64 0),(.int .i64 0),(.int .i64 0),(.int .u64 0),(.int .i64 0),(.int .i64 0),(.int .u64 0),(.int .i64 0),(.int .i64 0),(.int .u64 0),(.int .i64 0),(.int .i64 0),(.int .u64 0),(.int .i64 0),(.int .i64 0),(.int .u64 0),(.int .i64 0),(.int .i64 0),(.int .u64 0),(.int .i64 0),(.int .i64 0),(.int .u64 0),(.int .i64 0),(.int .i64 0),(.int .u64 0),(.int .i64 0),(.int .i64 0),(.int .u64 0),(.int .i64 0),(.int .i64 0),(.int .u64 0),(.int .i64 0),(.int .i64 0),(.int .u64 0),(.int .i64 0),(.int .i64 0),(.int .u64 0),(.int .i64 0),(.int .i64 0),(.int .u64 0),(.int .i64 0),(.int .i64 0),(.int .u64 0),(.int .i64 0),(.int .i64 0),(.int .u64 0),(.int .i64 0),(.int .i64 0),(.int .u64 0),(.int .i64 0),(.int .i64 0),(.int .u64 0),(.int .i64 0),(.int .i64 0),(.int .u64 0),(.int .i64 0),(.int .i64 0),(.int .u64 0),(.int .i64 0),(.int .i64 0),(.int .u64 0),(.int .i64 0),(.int .i64 0),(.int .u64 0)])):=by kernel_rfl
theorem qo:(ya.info? 277).map (fun i=>(i.size,i.bytes,i.zero))=some (1,8,some (.pointer none)):=by kernel_rfl
theorem BN:(ya.info? 279).map (fun i=>(i.size,i.bytes,i.zero))=some (64,512,some (.agg #[(.int .i64 0),(.int .i64 0),(.int .i64 0),(.int .i64 0),(.int .i64 0),(.int .i64 0),(.int .i64 0),(.int .i64 0),(.int .i64 0),(.int .i64 0),(.int .i64 0),(.int .i64 0),(.int .i64 0),(.int .i64 0),(.int .i64 0),(.int .i64 0),(.int .i64 0),(.int .i64 0),(.int .i64 0),(.int .i64 0),(.int .i64 0),(.int .i64 0),(.int .i64 0),(.int .i64 0),(.int .i64 0),(.int .i64 0),(.int .i64 0),(.int .i64 0),(.int .i64 0),(.int .i64 0),(.int .i64 0),(.int .i64 0),(.int .i64 0),(.int .i64 0),(.int .i64 0),(.int .i64 0),(.int .i64 0),(.int .i64 0),(.int .i64 0),(.int .i64 0),(.int .i64 0),(.int .i64 0),(.int .i64 0),(.int .i64 0),(.int .i64 0),(.int .i64 0),(.int .i64 0),(.int .i64 0),(.int .i64 0),(.int .i64 0),(.int .i64 0),(.int .i64 0),(.int .i64 0),(.int .i64 0),(.int .i64 0),(.int .i64 0),(.int .i64 0),(.int .i64 0),(.int .i64 0),(.int .i64 0),(.int .i64 0),(.int .i64 0),(.int .i64 0),(.int .i64 0)])):=by kernel_rfl
theorem aau:mQ ya 24 [(0,1),(1,1),(2,1),(3,1)]:=⟨_,tG,fun w=>by simp[TI.size ti2,TI.size gn]⟩
theorem aar:mQ ya 32 [(0,1),(1,1),(2,1),(3,1)]:=⟨_,pg,fun w=>by simp[TI.size ti2,TI.size iQ]⟩
theorem JF:mQ ya 34 [(0,1),(1,1),(2,4),(6,1)]:=⟨_,yt,fun w=>by simp[TI.size ti2,TI.size gn,TI.size iQ,TI.size oS]⟩
theorem vI:mQ ya 36 [(0,1),(1,1)]:=⟨_,FY,fun w=>by simp[TI.size gn]⟩
theorem ZU:mQ ya 59 [(0,4),(4,1),(5,1),(6,1),(7,1),(8,1)]:=⟨_,EW,fun w=>by simp[TI.size ti2,TI.size nQ,TI.size B0,TI.size gn,TI.size Px,TI.size EJ]⟩
theorem JE:mQ ya 64 [(0,1),(1,1)]:=⟨_,uE,fun w=>by simp[TI.size gn,TI.size PC]⟩
theorem aai:mQ ya 83 [(0,4),(4,1),(5,1),(6,1),(7,1),(8,1),(9,1)]:=⟨_,FG,fun w=>by simp[TI.size nQ,TI.size iQ,TI.size Py,TI.size JN,TI.size JQ,TI.size PK]⟩
theorem YO:mQ ya 107 [(0,1),(1,1)]:=⟨_,Tryz.underlying107,fun w=>by simp[TI.size OK,TI.size ti2]⟩
theorem Pv:mQ ya 111 [(0,1),(1,1)]:=⟨_,yr,fun w=>by simp[TI.size ti2,TI.size gn]⟩
theorem ZN:mQ ya 130 [(0,1),(1,1),(2,1),(3,1),(4,1),(5,1),(6,1)]:=⟨_,rG,fun w=>by simp[TI.size BS,TI.size Ji,TI.size q7,TI.size B0,TI.size gn,TI.size iQ]⟩
theorem Ph:mQ ya 166 [(0,1),(1,1)]:=⟨_,FQ,fun w=>by simp[TI.size BO,TI.size gn]⟩
theorem ZI:mQ ya 171 [(0,1)]:=⟨_,Tryz.underlying171,fun w=>by simp[TI.size I8]⟩
theorem Y4:mQ ya 174 [(0,1),(1,1),(2,1),(3,1),(4,1),(5,1)]:=⟨_,Tryz.underlying174,fun w=>by simp[TI.size BO,TI.size Jz,TI.size O8,TI.size gn]⟩
theorem YE:mQ ya 192 [(0,1),(1,1),(2,1),(3,1)]:=⟨_,Tryz.underlying192,fun w=>by simp[TI.size ti2,TI.size gn,TI.size p5]⟩
theorem OQ:mQ ya 205 [(0,1),(1,1),(2,1),(3,1),(4,1),(5,1)]:=⟨_,Tryz.underlying205,fun w=>by simp[TI.size BS,TI.size Et,TI.size gn]⟩
theorem O5:mQ ya 258 [(0,1),(1,1),(2,1),(3,1)]:=⟨_,yG,fun w=>by simp[TI.size oq,TI.size BS,TI.size Ji,TI.size Ah]⟩
theorem OT:mQ ya 262 [(0,1),(1,1),(2,1),(3,1)]:=⟨_,uS,fun w=>by simp[TI.size BO,TI.size Jt,TI.size uk,TI.size gn]⟩
theorem YQ:mQ ya 265 [(0,1),(1,1),(2,1)]:=⟨_,Tryz.underlying265,fun w=>by simp[TI.size I8,TI.size OP,TI.size gn]⟩
theorem aap:gC ya 6:=enters_of Tryz.func6 k_ rfl
theorem aaa:gC ya 7:=enters_of Tryz.func7 k_ rfl
theorem JA:gC ya 9:=enters_of Tryz.func9 k_ rfl
theorem Y1:gC ya 10:=enters_of Tryz.func10 k_ rfl
theorem ZO:gC ya 11:=enters_of Tryz.func11 k_ rfl
theorem Y9:gC ya 12:=enters_of Tryz.func12 k_ rfl
theorem Jh:gC ya 13:=enters_of Tryz.func13 k_ rfl
theorem O1:gC ya 14:=enters_of Tryz.func14 k_ rfl
theorem YL:gC ya 15:=enters_of Tryz.func15 k_ rfl
theorem YW:gC ya 19:=enters_of Tryz.func19 k_ rfl
theorem ED:gC ya 20:=enters_of Tryz.func20 k_ rfl
theorem OU:gC ya 21:=enters_of Tryz.func21 k_ rfl
theorem YK:gC ya 22:=enters_of Tryz.func22 k_ rfl
theorem ZM:gC ya 23:=enters_of Tryz.func23 k_ rfl
theorem YS:gC ya 24:=enters_of Tryz.func24 k_ rfl
theorem ZT:gC ya 25:=enters_of Tryz.func25 k_ rfl
theorem YZ:gC ya 26:=enters_of Tryz.func26 k_ rfl
theorem ZQ:gC ya 27:=enters_of Tryz.func27 k_ rfl
theorem Pb:gC ya 28:=enters_of Tryz.func28 k_ rfl
theorem Ez:gC ya 29:=enters_of Tryz.func29 k_ rfl
theorem Yz:gC ya 37:=enters_of Tryz.func37 k_ rfl
theorem Yp:gC ya 38:=enters_of Tryz.func38 k_ rfl
theorem Ys:gC ya 39:=enters_of Tryz.func39 k_ rfl
theorem ZG:gC ya 40:=enters_of Tryz.func40 k_ rfl
theorem YA:gC ya 41:=enters_of Tryz.func41 k_ rfl
theorem Ja:gC ya 42:=enters_of Tryz.func42 k_ rfl
theorem O3:gC ya 43:=enters_of Tryz.func43 k_ rfl
theorem Jj:gC ya 44:=enters_of Tryz.func44 k_ rfl
theorem Pp:gC ya 45:=enters_of Tryz.func45 k_ rfl
theorem ZF:gC ya 46:=enters_of Tryz.func46 k_ rfl
theorem Yr:gC ya 47:=enters_of Tryz.func47 k_ rfl
theorem Pk:gC ya 48:=enters_of Tryz.func48 k_ rfl
theorem Pw:gC ya 49:=enters_of Tryz.func49 k_ rfl
theorem YX:gC ya 50:=enters_of Tryz.func50 k_ rfl
theorem YJ:gC ya 51:=enters_of Tryz.func51 k_ rfl
theorem ZD:gC ya 52:=enters_of Tryz.func52 k_ rfl
theorem Pf:gC ya 53:=enters_of Tryz.func53 k_ rfl
theorem OG:gC ya 54:=enters_of Tryz.func54 k_ rfl
theorem Yl:gC ya 55:=enters_of Tryz.func55 k_ rfl
theorem ZK:gC ya 56:=enters_of Tryz.func56 k_ rfl
theorem BR:gC ya 57:=enters_of Tryz.func57 k_ rfl
theorem YT:gC ya 58:=enters_of Tryz.func58 k_ rfl
theorem Y3:gC ya 59:=enters_of Tryz.func59 k_ rfl
theorem Pm:gC ya 80:=enters_of Tryz.func80 k_ rfl
theorem Yw:gC ya 81:=enters_of Tryz.func81 k_ rfl
theorem OV:gC ya 82:=enters_of Tryz.func82 k_ rfl
theorem Y5:gC ya 83:=enters_of Tryz.func83 k_ rfl
theorem Pe:gC ya 84:=enters_of Tryz.func84 k_ rfl
theorem Y6:gC ya 85:=enters_of Tryz.func85 k_ rfl
theorem I9:gC ya 86:=enters_of Tryz.func86 k_ rfl
theorem YI:gC ya 87:=enters_of Tryz.func87 k_ rfl
theorem Eo:gC ya 88:=enters_of Tryz.func88 k_ rfl
theorem BX:gC ya 89:=enters_of Tryz.func89 k_ rfl
theorem zU:gC ya 90:=enters_of Tryz.func90 k_ rfl
theorem O2:gC ya 91:=enters_of Tryz.func91 k_ rfl
theorem Yu:gC ya 92:=enters_of Tryz.func92 k_ rfl
theorem ZJ:gC ya 93:=enters_of Tryz.func93 k_ rfl
theorem ZS:gC ya 94:=enters_of Tryz.func94 k_ rfl
theorem OZ:gC ya 95:=enters_of Tryz.func95 k_ rfl
theorem YB:gC ya 96:=enters_of Tryz.func96 k_ rfl
theorem YN:gC ya 97:=enters_of Tryz.func97 k_ rfl
theorem OE:gC ya 98:=enters_of Tryz.func98 k_ rfl
theorem Jv:gC ya 99:=enters_of Tryz.func99 k_ rfl
theorem IX:gC ya 100:=enters_of Tryz.func100 k_ rfl
theorem Ix:gC ya 101:=enters_of Tryz.func101 k_ rfl
theorem IB:gC ya 102:=enters_of Tryz.func102 k_ rfl
theorem Ox:gC ya 103:=enters_of Tryz.func103 k_ rfl
theorem Iz:gC ya 104:=enters_of Tryz.func104 k_ rfl
theorem Og:gC ya 105:=enters_of Tryz.func105 k_ rfl
theorem Ej:gC ya 106:=enters_of Tryz.func106 k_ rfl
theorem XU:gC ya 107:=enters_of Tryz.func107 k_ rfl
theorem Xl:gC ya 108:=enters_of Tryz.func108 k_ rfl
theorem OC:gC ya 110:=enters_of Tryz.func110 k_ rfl
theorem Oo:gC ya 111:=enters_of Tryz.func111 k_ rfl
theorem XW:gC ya 112:=enters_of Tryz.func112 k_ rfl
theorem IW:gC ya 113:=enters_of Tryz.func113 k_ rfl
theorem vq:gC ya 114:=enters_of Tryz.func114 k_ rfl
theorem Oj:gC ya 115:=enters_of Tryz.func115 k_ rfl
theorem XB:gC ya 142:=enters_of Tryz.func142 k_ rfl
theorem lW:gC ya 143:=enters_of Tryz.func143 k_ rfl
theorem ID:gC ya 144:=enters_of Tryz.func144 k_ rfl
theorem zI:gC ya 145:=enters_of Tryz.func145 k_ rfl
theorem wZ:gC ya 146:=enters_of Tryz.func146 k_ rfl
theorem BE:gC ya 147:=enters_of Tryz.func147 k_ rfl
theorem zK:gC ya 148:=enters_of Tryz.func148 k_ rfl
theorem N8:gC ya 150:=enters_of Tryz.func150 k_ rfl
theorem Xn:gC ya 151:=enters_of Tryz.func151 k_ rfl
theorem zC:gC ya 152:=enters_of Tryz.func152 k_ rfl
theorem X9:gC ya 153:=enters_of Tryz.func153 k_ rfl
theorem Xy:gC ya 154:=enters_of Tryz.func154 k_ rfl
theorem NO:gC ya 155:=enters_of Tryz.func155 k_ rfl
theorem Oz:gC ya 156:=enters_of Tryz.func156 k_ rfl
theorem XH:gC ya 157:=enters_of Tryz.func157 k_ rfl
theorem X3:gC ya 158:=enters_of Tryz.func158 k_ rfl
theorem Ot:gC ya 159:=enters_of Tryz.func159 k_ rfl
theorem IQ:gC ya 160:=enters_of Tryz.func160 k_ rfl
theorem IE:gC ya 161:=enters_of Tryz.func161 k_ rfl
theorem D7:gC ya 162:=enters_of Tryz.func162 k_ rfl
theorem IA:gC ya 163:=enters_of Tryz.func163 k_ rfl
theorem IC:gC ya 164:=enters_of Tryz.func164 k_ rfl
theorem OD:gC ya 165:=enters_of Tryz.func165 k_ rfl
theorem D5:gC ya 198:=enters_of Tryz.func198 k_ rfl
theorem N9:gC ya 199:=enters_of Tryz.func199 k_ rfl
theorem Iw:gC ya 200:=enters_of Tryz.func200 k_ rfl
theorem On:gC ya 201:=enters_of Tryz.func201 k_ rfl
theorem XK:gC ya 202:=enters_of Tryz.func202 k_ rfl
theorem N3:gC ya 203:=enters_of Tryz.func203 k_ rfl
theorem IJ:gC ya 204:=enters_of Tryz.func204 k_ rfl
theorem XN:gC ya 205:=enters_of Tryz.func205 k_ rfl
theorem NV:gC ya 206:=enters_of Tryz.func206 k_ rfl
theorem N6:gC ya 207:=enters_of Tryz.func207 k_ rfl
theorem NR:gC ya 208:=enters_of Tryz.func208 k_ rfl
theorem NS:gC ya 209:=enters_of Tryz.func209 k_ rfl
theorem mL:gC ya 230:=enters_of Tryz.func230 k_ rfl
theorem Ya:gC ya 231:=enters_of Tryz.func231 k_ rfl
theorem XM:gC ya 232:=enters_of Tryz.func232 k_ rfl
theorem BI:gC ya 233:=enters_of Tryz.func233 k_ rfl
theorem XG:gC ya 234:=enters_of Tryz.func234 k_ rfl
theorem sS:gC ya 235:=enters_of Tryz.func235 k_ rfl
theorem XJ:gC ya 242:=enters_of Tryz.func242 k_ rfl
theorem lM:gC ya 243:=enters_of Tryz.func243 k_ rfl
theorem Xr:gC ya 244:=enters_of Tryz.func244 k_ rfl
theorem XT:gC ya 245:=enters_of Tryz.func245 k_ rfl
theorem XV:gC ya 246:=enters_of Tryz.func246 k_ rfl
theorem NT:gC ya 249:=enters_of Tryz.func249 k_ rfl
theorem Od:gC ya 250:=enters_of Tryz.func250 k_ rfl
theorem mixed:ya.follows .mixedOrders=true:=by kernel_rfl
instance tt:TT ya:=⟨mixed,[(2,_),(3,_),(4,_),(24,_),(25,_),(28,_),(30,_),(32,_),(34,_),(36,_),(44,_),(56,_),(57,_),(59,_),(62,_),(64,_),(78,_),(79,_),(80,_),(81,_),(83,_),(96,_),(105,_),(107,_),(111,_),(115,_),(126,_),(127,_),(128,_),(130,_),(162,_),(166,_),(167,_),(171,_),(172,_),(174,_),(192,_),(203,_),(205,_),(258,_),(259,_),(260,_),(262,_),(263,_),(265,_),(267,_),(269,_)],[(2,_,_,_),(3,_,_,_),(4,_,_,_),(5,_,_,_),(24,_,_,_),(25,_,_,_),(30,_,_,_),(32,_,_,_),(34,_,_,_),(36,_,_,_),(44,_,_,_),(46,_,_,_),(50,_,_,_),(52,_,_,_),(56,_,_,_),(57,_,_,_),(59,_,_,_),(62,_,_,_),(64,_,_,_),(78,_,_,_),(79,_,_,_),(80,_,_,_),(81,_,_,_),(83,_,_,_),(96,_,_,_),(105,_,_,_),(107,_,_,_),(111,_,_,_),(115,_,_,_),(126,_,_,_),(127,_,_,_),(128,_,_,_),(130,_,_,_),(162,_,_,_),(166,_,_,_),(167,_,_,_),(171,_,_,_),(172,_,_,_),(174,_,_,_),(177,_,_,_),(192,_,_,_),(203,_,_,_),(205,_,_,_),(258,_,_,_),(259,_,_,_),(260,_,_,_),(262,_,_,_),(263,_,_,_),(265,_,_,_),(267,_,_,_),(269,_,_,_),(270,_,_,_),(272,_,_,_),(274,_,_,_),(277,_,_,_),(279,_,_,_)],⟨s8,yf,y9,tG,yy,nY,yg,pg,yt,FY,nW,Tryz.underlying56,tC,EW,Tryz.underlying62,uE,Tryz.underlying78,FA,Tryz.underlying80,Tryz.underlying81,FG,Tryz.underlying96,Tryz.underlying105,Tryz.underlying107,yr,yh,EV,CL,ym,rG,Cg,FQ,Tryz.underlying167,Tryz.underlying171,rC,Tryz.underlying174,Tryz.underlying192,vY,Tryz.underlying205,yG,oW,yn,uS,yk,Tryz.underlying265,yu,yj,trivial⟩,⟨ti2,gn,p5,FB,nQ,B0,iQ,oS,iU,lH,Ah,JL,PI,B2,Px,EJ,PF,PC,lq,Py,JN,JQ,PK,Pz,JP,OK,OM,iw,oq,BS,Ji,q7,EC,BO,I4,I8,Jz,O8,Pj,BP,rV,Et,Er,Ep,Jt,uk,EB,OP,IZ,lN,iV,xl,Po,BT,qo,BN,trivial⟩⟩
end
section
open Go Go.Sx Go.Ex
theorem HL(w:World):CR ya 9 #[] w (fun v w' => v = .bool true/\gB [] w w'):=Sa mixed (k:=100000) k_ w
end
section
open Go Go.Sx
abbrev Kk(c:Cf)(now:Int)(lv:Value)(i:Int)(sb ib:Nat):List Value:=(AS c.win c.fN c.fO c.ic now lv i (some sb) (some ib))
abbrev uQ(bw sb ib:Nat)(c:Cf)(now:Int)(lv:Value)(i:Int)(ss is:List Int):gh:=gD [blk bw 59 (Kk c now lv i sb ib),iD sb .i64 ss,iD ib .u64 is]
def kC(p:Int×Value):List Value:=[.int .i64 p.1,p.2]
abbrev KL:List (Int×Value):=[(1,.func (.func 27) #[] #[]),(2,.func (.func 28) #[] #[]),(5,.func (.func 29) #[] #[])]
abbrev uH(a:Nat)(b c d e f:Int) g (h:Int) i j k l m n o p:=([blk a 59 (AS b c d e f g h i j),k,l,fV nF m 36 2 n,fV kC o 64 2 p]:List gh)
abbrev QI a (b c:Nat) (d e f g h:Int) i (j:Int) k l m n (o p:Nat) (q:Lv) r s t u:=([a,blk b 64 Fk,blk c 59 (AS d e f g h i j k l),m,n,blk o 64 Fi,blk p 34 (Zs q),fV nF r 36 2 s,fV kC t 64 2 u]:List gh)
abbrev Fq a (b c d:Nat) (e f g h i:Int) j (k:Int) l m n o (p q:Nat) (r:Lv) s t u v:=([a,blk b 64 CC,blk c 64 Fk,blk d 59 (AS e f g h i j k l m),n,o,blk p 64 Fi,blk q 34 (Zs r),fV nF s 36 2 t,fV kC u 64 2 v]:List gh)
theorem UD(w:World) :
 CR ya 15 #[] w (fun r w' => pN 2 kC w w' r 64 KL/\gB [] w w'):=by
 refine en Tryz.func15 Tryz.ntmps15 ?_
 have hst0:=jI w
 refine gf hst0 7 ?_
 refine kj (pvs:=[(0,uG),(1,KB)]) (v:=.agg Qc) rfl rfl (jY [(0,Gd),(1,[KB])] lq JE rfl ⟨rfl,rfl,rfl,rfl,trivial⟩ rfl) (kj (pvs:=[(0,xR),(1,Kq)]) (v:=.agg P9) rfl rfl (jY [(0,[xR]),(1,[Kq])] lq JE rfl ⟨rfl,rfl,rfl,rfl,trivial⟩ rfl) (kj (pvs:=[(0,wo),(1,KH)]) (v:=.agg Qy) rfl rfl (jY [(0,Cc),(1,[KH])] lq JE rfl ⟨rfl,rfl,rfl,rfl,trivial⟩ rfl) (lS (vs:=[(.agg Qc),(.agg P9),(.agg Qy)]) (cs:=[uG,KB,xR,Kq,wo,KH]) rfl rfl uF lq rfl (by simp[Value.cells]) rfl rfl rfl hst0 (fun b c d e a=>fW a 4 ?_))))
 refine gq (v:=(.slice (some ⟨b,0,none⟩) 3 3)) Tryz.results15 rfl ?_
 exact⟨AE (cf:=kC) (zs:=KL) a s_,a.gJ s_⟩
theorem Ln(c:Cf)(hc:c.ok)(now:Int)(bw sb ib:Nat)(lv:Value)(xs:List Lv)(i:Nat)(x:Lv)(w:World)(hl:jB 7 Lv.cells (fun _=>True) w lv xs)(hxs:∀ x∈xs,x.ok)(hl0:xs.length<=100)(hR:(blk bw 59 (Kk c now lv i sb ib)).holds w)(hx:xs[i]? = some x) :
 CR ya 28 (KE bw x) w (fun r w' => r = .bool (decide (x.exp<=now))/\gB [] w w'):=by
 have hxo:=hxs _ (ze hx)
 have hi:=(zb.1 hx).1
 refine en Tryz.func28 Tryz.ntmps28 ?_
 have hst0:=jI w
 refine gf hst0 2 ?_
 refine bx (v:=(uC x)) (cs:=(Zs x)) rfl rfl rfl hst0 (fun f g h j a=>gQ a 4 ?_)
 by_cases b:(x.exp:Int)<=(now:Int)
 . skip
   refine iX a (fun k d=>?_)
   refine iP tt none d 2 ?_
   refine gq (v:=Zf) Tryz.results28 rfl ?_
   exact⟨kg (by simp only[b,decide_true,decide_false]),d.gJ s_⟩
 . skip
   refine iX a (fun l e=>?_)
   refine iP tt none e 2 ?_
   refine gq (v:=Zq) Tryz.results28 rfl ?_
   exact⟨kg (by simp only[b,decide_true,decide_false]),e.gJ s_⟩
theorem CZ(c:Cf)(hc:c.ok)(now:Int)(bw sb ib:Nat)(lv:Value)(xs:List Lv)(i:Nat)(x:Lv)(w:World)(hl:jB 7 Lv.cells (fun _=>True) w lv xs)(hxs:∀ x∈xs,x.ok)(hl0:xs.length<=100)(hR:(blk bw 59 (Kk c now lv i sb ib)).holds w)(hx:xs[i]? = some x) :
 CR ya 29 (KE bw x) w (fun r w' => r = .bool (uw c now x i (lR xs i).t)/\gB [] w w'):=by
 have hxo:=hxs _ (ze hx)
 have hi:=(zb.1 hx).1
 have h1:=hxo.t.i64
 have h2:=hc.win.i64
 obtain⟨ex_,hex,hx1,hx2,hx3⟩:=Si (x:=x.t+c.win) o_
 refine en Tryz.func29 Tryz.ntmps29 ?_
 have hst0:=jI w
 refine gf hst0 2 ?_
 refine bx (v:=(uC x)) (cs:=(Zs x)) rfl rfl rfl hst0 (fun B C D E b=>gQ b 5 ?_)
 by_cases G:(x.t:Int)>(now:Int)
 . skip
   refine iX b (fun H n=>?_)
   refine iP tt none n 9 ?_
   refine gq (v:=Zf) qb rfl ?_
   exact⟨kg (sZ (by unfold mN;omega)),n.gJ s_⟩
 . skip
   by_cases I:((i:Int):Int)>(0:Int)
   . skip
     obtain⟨d,a⟩:=n9 (show (i-1)<xs.length by omega)
     have J:=hxs _ (ze a)
     have hps:(lR xs i).seq=d.seq:=by rw[BJ a]
     have hpt:(lR xs i).t=d.t:=by rw[BJ a]
     by_cases K:(x.t:Int)<(d.t:Int)
     . skip
       refine iX b (fun L o=>?_) (hA:=by refine' gK 27 ?k0;case k0=>refine' gy (fun wq hM=>rv (kA (v:=lv) (k:=(i-1)) (i:=(i:Int)-1) rfl rfl yy iU hl o_ o_ a)) ?k1;case k1=>refine' gy (fun wq hM=>rv (pO (off:=0) (off' := 2) rfl yt rfl oS rfl hl a)) ?k2;case k2=>refine' gy (fun wq hM=>rv (pO (off:=2) (off' := 5) rfl pg rfl ti2 rfl hl a)) ?k3;case k3=>refine' gy (fun wq hM=>rv (ny (u:=(Za d.t)) rfl s8 rfl (l6 hM s_ d_ hl) a rfl)) ?k4;case k4=>exact iE)
       refine iP tt none o 9 ?_
       refine gq (v:=Zf) qb rfl ?_
       exact⟨kg (sZ (by unfold mN;omega)),o.gJ s_⟩
     . skip
       refine iX b (fun M p=>?_) (hA:=by refine' gK 27 ?k0;case k0=>refine' gy (fun wq hM=>rv (kA (v:=lv) (k:=(i-1)) (i:=(i:Int)-1) rfl rfl yy iU hl o_ o_ a)) ?k1;case k1=>refine' gy (fun wq hM=>rv (pO (off:=0) (off' := 2) rfl yt rfl oS rfl hl a)) ?k2;case k2=>refine' gy (fun wq hM=>rv (pO (off:=2) (off' := 5) rfl pg rfl ti2 rfl hl a)) ?k3;case k3=>refine' gy (fun wq hM=>rv (ny (u:=(Za d.t)) rfl s8 rfl (l6 hM s_ d_ hl) a rfl)) ?k4;case k4=>exact iE)
       refine kB tt none p 5 ?_
       refine iX p (fun N f=>?_) (hA:=by refine' gK 8 ?k0;case k0=>refine' gy (fun wq hM=>rv (kR (e:=ex_) rfl rfl rfl hex)) ?k1;case k1=>exact iE)
       refine kB tt none f 2 ?_
       by_cases O:(ex_:Int)<(x.t:Int)
       . skip
         by_cases P:(c.win:Int)<(0:Int)
         . skip
           refine iX f (fun Q g=>?_) (hA:=by refine' gK 11 ?k0;case k0=>refine' gy (fun wq hM=>rv (tT (c:=false) rfl rfl y9 rfl)) ?k1;case k1=>exact iE)
           refine nE tt none g 8 ?_
           by_cases R:(ex_:Int)=(x.exp:Int)
           . refine fW g 6 ?_
             refine gq (v:=Zq) qb rfl ?_
             exact⟨kg (En (by unfold mN;omega)),g.gJ s_⟩
           . refine fW g 6 ?_
             refine gq (v:=Zf) qb rfl ?_
             exact⟨kg (sZ (by unfold mN;omega)),g.gJ s_⟩
         . skip
           refine iX f (fun S q=>?_) (hA:=by refine' gK 11 ?k0;case k0=>refine' gy (fun wq hM=>rv (tT (c:=true) rfl rfl y9 rfl)) ?k1;case k1=>exact iE)
           refine iP tt none q 14 ?_
           refine gq (v:=Zf) qb rfl ?_
           exact⟨kg (sZ (by unfold mN;omega)),q.gJ s_⟩
       . skip
         by_cases U:(c.win:Int)<(0:Int)
         . skip
           refine iX f (fun V s=>?_) (hA:=by refine' gK 11 ?k0;case k0=>refine' gy (fun wq hM=>rv (tT (c:=true) rfl rfl y9 rfl)) ?k1;case k1=>exact iE)
           refine iP tt none s 14 ?_
           refine gq (v:=Zf) qb rfl ?_
           exact⟨kg (sZ (by unfold mN;omega)),s.gJ s_⟩
         . skip
           refine iX f (fun W h=>?_) (hA:=by refine' gK 11 ?k0;case k0=>refine' gy (fun wq hM=>rv (tT (c:=false) rfl rfl y9 rfl)) ?k1;case k1=>exact iE)
           refine nE tt none h 8 ?_
           by_cases X:(ex_:Int)=(x.exp:Int)
           . refine fW h 6 ?_
             refine gq (v:=Zq) qb rfl ?_
             exact⟨kg (En (by unfold mN;omega)),h.gJ s_⟩
           . refine fW h 6 ?_
             refine gq (v:=Zf) qb rfl ?_
             exact⟨kg (sZ (by unfold mN;omega)),h.gJ s_⟩
   . skip
     refine iX b (fun Y y=>?_)
     refine kB tt none y 5 ?_
     refine iX y (fun Z j=>?_) (hA:=by refine' gK 8 ?k0;case k0=>refine' gy (fun wq hM=>rv (kR (e:=ex_) rfl rfl rfl hex)) ?k1;case k1=>exact iE)
     refine kB tt none j 2 ?_
     by_cases aa:(ex_:Int)<(x.t:Int)
     . skip
       by_cases ab:(c.win:Int)<(0:Int)
       . skip
         refine iX j (fun ac l=>?_) (hA:=by refine' gK 11 ?k0;case k0=>refine' gy (fun wq hM=>rv (tT (c:=false) rfl rfl y9 rfl)) ?k1;case k1=>exact iE)
         refine nE tt none l 8 ?_
         by_cases ad:(ex_:Int)=(x.exp:Int)
         . refine fW l 6 ?_
           refine gq (v:=Zq) qb rfl ?_
           exact⟨kg (En (by unfold mN;omega)),l.gJ s_⟩
         . refine fW l 6 ?_
           refine gq (v:=Zf) qb rfl ?_
           exact⟨kg (sZ (by unfold mN;omega)),l.gJ s_⟩
       . skip
         refine iX j (fun ae z=>?_) (hA:=by refine' gK 11 ?k0;case k0=>refine' gy (fun wq hM=>rv (tT (c:=true) rfl rfl y9 rfl)) ?k1;case k1=>exact iE)
         refine iP tt none z 14 ?_
         refine gq (v:=Zf) qb rfl ?_
         exact⟨kg (sZ (by unfold mN;omega)),z.gJ s_⟩
     . skip
       by_cases af:(c.win:Int)<(0:Int)
       . skip
         refine iX j (fun ag A=>?_) (hA:=by refine' gK 11 ?k0;case k0=>refine' gy (fun wq hM=>rv (tT (c:=true) rfl rfl y9 rfl)) ?k1;case k1=>exact iE)
         refine iP tt none A 14 ?_
         refine gq (v:=Zf) qb rfl ?_
         exact⟨kg (sZ (by unfold mN;omega)),A.gJ s_⟩
       . skip
         refine iX j (fun ah m=>?_) (hA:=by refine' gK 11 ?k0;case k0=>refine' gy (fun wq hM=>rv (tT (c:=false) rfl rfl y9 rfl)) ?k1;case k1=>exact iE)
         refine nE tt none m 8 ?_
         by_cases ai:(ex_:Int)=(x.exp:Int)
         . refine fW m 6 ?_
           refine gq (v:=Zq) qb rfl ?_
           exact⟨kg (En (by unfold mN;omega)),m.gJ s_⟩
         . refine fW m 6 ?_
           refine gq (v:=Zf) qb rfl ?_
           exact⟨kg (sZ (by unfold mN;omega)),m.gJ s_⟩
theorem Rp(c:Cf)(now:Int)(bw sb ib:Nat)(lv:Value)(xs:List Lv)(i:Nat)(x:Lv)(ss is:List Int)(ok:Nat->Prop)(w:World)(hO:Own (uQ bw sb ib c now lv i ss is) w)(hok:∀ b,ok b->b∉(uQ bw sb ib c now lv i ss is).gR)(hl:jB 7 Lv.cells ok w lv xs)(hxs:∀ x∈xs,x.ok)(hl0:xs.length<=100)(hx:xs[i]? = some x) :
 CR ya 27 (KE bw x) w (fun r w' => r = .bool (Af c x i (lR xs i).seq ss is)/\gm (uQ bw sb ib c now lv i ss is) w w' (uQ bw sb ib c now lv i (gX ss x.slot) (gX (gX is x.u) x.v))):=by
 have hxo:=hxs _ (ze hx)
 have hi:=(zb.1 hx).1
 refine en Tryz.func27 Tryz.ntmps27 ?_
 have hst0:=(y8 hO).unpack
 refine gf hst0 2 ?_
 refine bx (v:=(uC x)) (cs:=(Zs x)) rfl rfl rfl hst0 (fun e W Y Z m=>gQ m 4 ?_)
 refine iX m (fun aa n=>?_) (hA:=by refine' gK 6 ?k0;case k0=>refine' gy (fun wq hM=>rv (Y7 (ys:=ss) 2 rfl rfl Tryz.underlying56 yf p5 hM rfl)) ?k1;case k1=>exact iE)
 refine kB tt none n 2 ?_
 refine jM n 6 ?_
 intro wq hM
 refine YY (ys:=ss) (a:=x.slot) (L' := (tK e x bw c.win c.fN c.fO c.ic now lv i (some sb) (some ib) (iD sb .i64 (gX ss x.slot)) (iD ib .u64 is))) 2 rfl rfl rfl rfl Tryz.underlying56 yf hM rfl rfl (fun _ h=>(jN h (fun ab l=>?_)))
 refine nE tt none l 7 ?_
 refine aan 3 rfl rfl tC l rfl (gQ l 4 ?_)
 refine nX (Γ:=Unit) mixed [[],[0],[0,1],[0,1,2],[],[4],[4,5],[],[7],[7,8],[7,8,9],[],[11],[11,12],[0,1,2,3,4,5,6,7,8,9,10],[0,1,2,3,4,5,6,7,8,9,10,14],[0,1,2,3,4,5,6,7,8,9,10,14,15],[0,1,2,3,4,5,6,7,8,9,10,11,12,13,14,15,16],[0,1,2,3,4,5,6,7,8,9,10,11,12,13,14,15,16,17],[0,1,2,3,4,5,6,7,8,9,10,11,12,13,14,15,16,17,18]] [14,16,17,19] d_ [fun _=>(Zb bw),fun _=>(Zb bw),fun _=>(.pointer (some ⟨bw,8,none⟩)),fun _=>(.map (some ib)),fun _=>(pZ e),fun _=>(pZ e),fun _=>(Zd x.u),fun _=>(Zb bw),fun _=>(Zb bw),fun _=>(.pointer (some ⟨bw,8,none⟩)),fun _=>(.map (some ib)),fun _=>(pZ e),fun _=>(xL e),fun _=>(Zd x.v),fun _=>(.tuple #[(.bool (is.contains x.u)),(Za (q5 is x.u))]),fun _=>(Za (q5 is x.u)),fun _=>undef,fun _=>(.tuple #[(.bool ((gX is x.u).contains x.v)),(Za (q5 (gX is x.u) x.v))]),fun _=>(Za (q5 (gX is x.u) x.v)),fun _=>undef] [(fun _=>(tK e x bw c.win c.fN c.fO c.ic now lv i (some sb) (some ib) (iD sb .i64 (gX ss x.slot)) (iD ib .u64 is)),fun _ _=>True),(fun _=>(tK e x bw c.win c.fN c.fO c.ic now lv i (some sb) (some ib) (iD sb .i64 (gX ss x.slot)) (ri ib .u64 is x.u)),fun _ _=>True),(fun _=>(tK e x bw c.win c.fN c.fO c.ic now lv i (some sb) (some ib) (iD sb .i64 (gX ss x.slot)) (iD ib .u64 (gX is x.u))),fun _ _=>True),(fun _=>(tK e x bw c.win c.fN c.fO c.ic now lv i (some sb) (some ib) (iD sb .i64 (gX ss x.slot)) (ri ib .u64 (gX is x.u) x.v)),fun _ _=>True),(fun _=>(tK e x bw c.win c.fN c.fO c.ic now lv i (some sb) (some ib) (iD sb .i64 (gX ss x.slot)) (iD ib .u64 (gX (gX is x.u) x.v))),fun _ _=>True)] () _ rfl l (fun _ _=>trivial) ?_ f_ rfl ?_
 . skip
   refine gp (fun _ _=>iy (v:=(Zb bw)) rfl) ?_
   refine gp (fun _ _=>jU rfl) ?_
   refine gp (fun _ _=>jw (o' := 8) rfl EW rfl EJ rfl) ?_
   refine lY rfl rfl rfl rfl (fun _ wq hM hF=>qv rfl rfl (gT rfl tC rfl (yo hM (i:=1) rfl rfl))) (gp (fun _ _=>jw (o' := 2) rfl yt rfl oS rfl) ?_)
   refine gp (fun _ _=>jw (o' := 2) rfl pg rfl iQ rfl) ?_
   refine lY rfl rfl rfl rfl (fun _ wq hM hF=>qv rfl rfl (gT rfl yg rfl (yo hM (i:=0) rfl rfl))) (gp (fun _ _=>iy (v:=(Zb bw)) rfl) ?_)
   refine gp (fun _ _=>jU rfl) ?_
   refine gp (fun _ _=>jw (o' := 8) rfl EW rfl EJ rfl) ?_
   refine lY rfl rfl rfl rfl (fun _ wq hM hF=>qv rfl rfl (gT rfl tC rfl (yo hM (i:=1) rfl rfl))) (gp (fun _ _=>jw (o' := 2) rfl yt rfl oS rfl) ?_)
   refine gp (fun _ _=>jw (o' := 3) rfl pg rfl iQ rfl) ?_
   refine vw rfl rfl rfl rfl rfl rfl (fun _ wq hM hF=>qv rfl rfl (gT rfl yg rfl (yo hM (i:=0) rfl rfl))) (fun _ wq hM hF=>qv rfl rfl (gT rfl yg rfl (yo hM (i:=0) rfl rfl))) (fun _ wq hM hF=>qv rfl rfl (gT rfl yg rfl (yo hM (i:=0) rfl rfl))) (jF rfl rfl rfl rfl (fun _ wq hM hF=>OW (ys:=is) (a:=x.u) (L' := (tK e x bw c.win c.fN c.fO c.ic now lv i (some sb) (some ib) (iD sb .i64 (gX ss x.slot)) (ri ib .u64 is x.u))) 3 rfl rfl rfl tC yg p5 hM rfl rfl (fun _ h=>⟨(),⟨h,trivial⟩,rfl,jA.refl _ _ _⟩)) (gp (fun _ _=>xC rfl rfl) ?_))
   refine jF rfl rfl rfl rfl (fun _ wq hM hF=>O6 (ys:=is) (a:=x.u) (L' := (tK e x bw c.win c.fN c.fO c.ic now lv i (some sb) (some ib) (iD sb .i64 (gX ss x.slot)) (iD ib .u64 (gX is x.u)))) 3 rfl rfl rfl rfl hM rfl rfl (fun _ h=>⟨(),⟨h,trivial⟩,rfl,jA.refl _ _ _⟩)) (jF rfl rfl rfl rfl (fun _ wq hM hF=>OW (ys:=gX is x.u) (a:=x.v) (L' := (tK e x bw c.win c.fN c.fO c.ic now lv i (some sb) (some ib) (iD sb .i64 (gX ss x.slot)) (ri ib .u64 (gX is x.u) x.v))) 3 rfl rfl rfl tC yg p5 hM rfl rfl (fun _ h=>⟨(),⟨h,trivial⟩,rfl,jA.refl _ _ _⟩)) (gp (fun _ _=>xC rfl rfl) ?_))
   refine jF rfl rfl rfl rfl (fun _ wq hM hF=>O6 (ys:=gX is x.u) (a:=x.v) (L' := (tK e x bw c.win c.fN c.fO c.ic now lv i (some sb) (some ib) (iD sb .i64 (gX ss x.slot)) (iD ib .u64 (gX (gX is x.u) x.v)))) 3 rfl rfl rfl rfl hM rfl rfl (fun _ h=>⟨(),⟨h,trivial⟩,rfl,jA.refl _ _ _⟩)) ?_
   exact nT
 rintro-ac f -
 refine kB tt none f 2 ?_
 by_cases ad:(x.u:Int)=(x.v:Int)
 . skip
   refine iX f (fun ae o=>?_)
   refine iP tt none o 2 ?_
   refine gq (v:=Zf) qF rfl ?_
   have I:=yi [1,2,3] o
   exact⟨kg (ue (by unfold mZ;omega)),yq (yc [_,_,_] [] I)⟩
 . skip
   cases g:(ss.contains x.slot:Bool)
   . skip
     by_cases af:(x.slot:Int)<(0:Int)
     . skip
       refine iX f (fun ag p=>?_)
       refine iP tt none p 2 ?_
       refine gq (v:=Zf) qF rfl ?_
       have J:=yi [1,2,3] p
       have hm9:=rU g
       exact⟨kg (ue (by unfold mZ;omega)),yq (yc [_,_,_] [] J)⟩
     . skip
       by_cases ah:(x.slot:Int)≥(c.fN:Int)
       . skip
         refine iX f (fun ai q=>?_)
         refine iP tt none q 2 ?_
         refine gq (v:=Zf) qF rfl ?_
         have K:=yi [1,2,3] q
         have hm9:=rU g
         exact⟨kg (ue (by unfold mZ;omega)),yq (yc [_,_,_] [] K)⟩
       . skip
         by_cases aj:((i:Int):Int)>(0:Int)
         . skip
           obtain⟨j,d⟩:=n9 (show (i-1)<xs.length by omega)
           have ak:=hxs _ (ze d)
           have hps:(lR xs i).seq=j.seq:=by rw[BJ d]
           have hpt:(lR xs i).t=j.t:=by rw[BJ d]
           by_cases al:(x.seq:Int)<=(j.seq:Int)
           . skip
             refine iX f (fun am s=>?_) (hA:=by refine' gK 43 ?k0;case k0=>refine' gy (fun wq hM=>rv (kA (v:=lv) (k:=(i-1)) (i:=(i:Int)-1) rfl rfl yy iU hl o_ o_ d)) ?k1;case k1=>refine' gy (fun wq hM=>rv (pO (off:=0) (off' := 1) rfl yt rfl iQ rfl hl d)) ?k2;case k2=>refine' gy (fun wq hM=>rv (ny (u:=(Zd j.seq)) rfl yg rfl (St.Al hM (X:=(uQ bw sb ib c now lv i ss is).gR) zh d_ hl hok) d rfl)) ?k3;case k3=>exact iE)
             refine iP tt none s 2 ?_
             refine gq (v:=Zf) qF rfl ?_
             have L:=yi [1,2,3] s
             have hm9:=rU g
             exact⟨kg (ue (by unfold mZ;omega)),yq (yc [_,_,_] [] L)⟩
           . skip
             by_cases an:((i:Int):Int)≥(c.fN:Int)
             . skip
               refine iX f (fun ao y=>?_) (hA:=by refine' gK 43 ?k0;case k0=>refine' gy (fun wq hM=>rv (kA (v:=lv) (k:=(i-1)) (i:=(i:Int)-1) rfl rfl yy iU hl o_ o_ d)) ?k1;case k1=>refine' gy (fun wq hM=>rv (pO (off:=0) (off' := 1) rfl yt rfl iQ rfl hl d)) ?k2;case k2=>refine' gy (fun wq hM=>rv (ny (u:=(Zd j.seq)) rfl yg rfl (St.Al hM (X:=(uQ bw sb ib c now lv i ss is).gR) zh d_ hl hok) d rfl)) ?k3;case k3=>exact iE)
               refine iP tt none y 2 ?_
               refine gq (v:=Zf) qF rfl ?_
               have M:=yi [1,2,3] y
               have hm9:=rU g
               exact⟨kg (ue (by unfold mZ;omega)),yq (yc [_,_,_] [] M)⟩
             . skip
               by_cases ap:((is.length:Int):Int)<=(c.fO:Int)
               . skip
                 by_cases aq:(((gX (gX is x.u) x.v).length:Int):Int)>(c.fO:Int)
                 . skip
                   refine iX f (fun ar z=>?_) (hA:=by refine' gK 43 ?k0;case k0=>refine' gy (fun wq hM=>rv (kA (v:=lv) (k:=(i-1)) (i:=(i:Int)-1) rfl rfl yy iU hl o_ o_ d)) ?k1;case k1=>refine' gy (fun wq hM=>rv (pO (off:=0) (off' := 1) rfl yt rfl iQ rfl hl d)) ?k2;case k2=>refine' gy (fun wq hM=>rv (ny (u:=(Zd j.seq)) rfl yg rfl (St.Al hM (X:=(uQ bw sb ib c now lv i ss is).gR) zh d_ hl hok) d rfl)) ?k3;case k3=>refine' gK 28 ?k4;case k4=>refine' gy (fun wq hM=>rv (BF 3 rfl tC hM rfl)) ?k5;case k5=>exact iE)
                   refine iP tt none z 2 ?_
                   refine gq (v:=Zf) qF rfl ?_
                   have N:=yi [1,2,3] z
                   have hm9:=rU g
                   exact⟨kg (ue (by unfold mZ;omega)),yq (yc [_,_,_] [] N)⟩
                 . skip
                   refine iX f (fun au A=>?_) (hA:=by refine' gK 43 ?k0;case k0=>refine' gy (fun wq hM=>rv (kA (v:=lv) (k:=(i-1)) (i:=(i:Int)-1) rfl rfl yy iU hl o_ o_ d)) ?k1;case k1=>refine' gy (fun wq hM=>rv (pO (off:=0) (off' := 1) rfl yt rfl iQ rfl hl d)) ?k2;case k2=>refine' gy (fun wq hM=>rv (ny (u:=(Zd j.seq)) rfl yg rfl (St.Al hM (X:=(uQ bw sb ib c now lv i ss is).gR) zh d_ hl hok) d rfl)) ?k3;case k3=>refine' gK 28 ?k4;case k4=>refine' gy (fun wq hM=>rv (BF 3 rfl tC hM rfl)) ?k5;case k5=>exact iE)
                   refine iP tt none A 2 ?_
                   refine gq (v:=Zq) qF rfl ?_
                   have O:=yi [1,2,3] A
                   have hm9:=rU g
                   exact⟨kg (EA (by unfold mZ;omega)),yq (yc [_,_,_] [] O)⟩
               . skip
                 refine iX f (fun av B=>?_) (hA:=by refine' gK 43 ?k0;case k0=>refine' gy (fun wq hM=>rv (kA (v:=lv) (k:=(i-1)) (i:=(i:Int)-1) rfl rfl yy iU hl o_ o_ d)) ?k1;case k1=>refine' gy (fun wq hM=>rv (pO (off:=0) (off' := 1) rfl yt rfl iQ rfl hl d)) ?k2;case k2=>refine' gy (fun wq hM=>rv (ny (u:=(Zd j.seq)) rfl yg rfl (St.Al hM (X:=(uQ bw sb ib c now lv i ss is).gR) zh d_ hl hok) d rfl)) ?k3;case k3=>exact iE)
                 refine iP tt none B 2 ?_
                 refine gq (v:=Zq) qF rfl ?_
                 have P:=yi [1,2,3] B
                 have hm9:=rU g
                 exact⟨kg (EA (by unfold mZ;omega)),yq (yc [_,_,_] [] P)⟩
         . skip
           by_cases aw:((i:Int):Int)≥(c.fN:Int)
           . skip
             refine iX f (fun ax C=>?_)
             refine iP tt none C 2 ?_
             refine gq (v:=Zf) qF rfl ?_
             have Q:=yi [1,2,3] C
             have hm9:=rU g
             exact⟨kg (ue (by unfold mZ;omega)),yq (yc [_,_,_] [] Q)⟩
           . skip
             by_cases ay:((is.length:Int):Int)<=(c.fO:Int)
             . skip
               by_cases az:(((gX (gX is x.u) x.v).length:Int):Int)>(c.fO:Int)
               . skip
                 refine iX f (fun aA D=>?_) (hA:=by refine' gK 74 ?k0;case k0=>refine' gy (fun wq hM=>rv (BF 3 rfl tC hM rfl)) ?k1;case k1=>exact iE)
                 refine iP tt none D 2 ?_
                 refine gq (v:=Zf) qF rfl ?_
                 have R:=yi [1,2,3] D
                 have hm9:=rU g
                 exact⟨kg (ue (by unfold mZ;omega)),yq (yc [_,_,_] [] R)⟩
               . skip
                 refine iX f (fun aB E=>?_) (hA:=by refine' gK 74 ?k0;case k0=>refine' gy (fun wq hM=>rv (BF 3 rfl tC hM rfl)) ?k1;case k1=>exact iE)
                 refine iP tt none E 2 ?_
                 refine gq (v:=Zq) qF rfl ?_
                 have S:=yi [1,2,3] E
                 have hm9:=rU g
                 exact⟨kg (EA (by unfold mZ;omega)),yq (yc [_,_,_] [] S)⟩
             . skip
               refine iX f (fun aC G=>?_)
               refine iP tt none G 2 ?_
               refine gq (v:=Zq) qF rfl ?_
               have U:=yi [1,2,3] G
               have hm9:=rU g
               exact⟨kg (EA (by unfold mZ;omega)),yq (yc [_,_,_] [] U)⟩
   . skip
     refine iX f (fun aD H=>?_)
     refine iP tt none H 2 ?_
     refine gq (v:=Zf) qF rfl ?_
     have V:=yi [1,2,3] H
     have hm9:=YV g
     exact⟨kg (ue (by unfold mZ;omega)),yq (yc [_,_,_] [] V)⟩
end
section
open Go Go.Sx
theorem We(c:Cf)(hc:c.ok)(now:Int)(lv:Value)(xs:List Lv)(w:World)(hl:jB 7 Lv.cells (fun _=>True) w lv xs)(hxs:∀ x∈xs,x.ok)(hl0:xs.length<=100) :
 CR ya 7 #[(wz c.win c.fN c.fO c.ic),(Za now),lv] w (fun r w' => pN 2 nF w w' r 36 (og c now xs)/\gB [] w w'):=by
 have hlo:jB 7 Lv.cells (fun b=>b<w.heap.size) w lv xs:=Sl.mono (Sl.old hl d_) (fun b hb=>hb.2)
 refine en Tryz.func7 Tryz.ntmps7 ?_
 have hst0:=jI w
 refine gf hst0 2 ?_
 refine bx (v:=(wz c.win c.fN c.fO c.ic)) (cs:=(xM c.win c.fN c.fO c.ic)) rfl rfl rfl hst0 (fun aC bF bG bH ag=>fP ag 8 ?_)
 refine Qw (k:=.i64) rfl rfl ag (fun a bI bJ bK aD=>Qw (k:=.u64) rfl rfl aD (fun d bL bM bN aE=>kj (pvs:=[(0,(wz c.win c.fN c.fO c.ic)),(1,(Za now)),(2,lv),(4,(.map (some a))),(5,(.map (some d)))]) (v:=.agg (Q2 c.win c.fN c.fO c.ic now lv (some a) (some d))) rfl rfl (jY [(0,(xM c.win c.fN c.fO c.ic)),(1,(Ze now)),(2,[lv]),(4,[(.map (some a))]),(5,[(.map (some d))])] PF ZU rfl ⟨rfl,rfl,rfl,rfl,rfl,(cells_one (Sl.ZZ hl)),rfl,rfl,rfl,rfl,trivial⟩ rfl) (bx (v:=(.agg (Q2 c.win c.fN c.fO c.ic now lv (some a) (some d)))) (cs:=(KQ c.win c.fN c.fO c.ic now lv (some a) (some d))) rfl rfl rfl aE (fun e aF bO bP ah=>fP ah 5 ?_))))
 refine cl YL (UD aF) ?_
 rintro f V ⟨aG,aH⟩
 have G:St _ [fV kC f 64 2 KL,blk e 59 (KQ c.win c.fN c.fO c.ic now lv (some a) (some d)),iD d .u64 ([]),iD a .i64 ([]),blk aC 24 (xM c.win c.fN c.fO c.ic)] V:=wm ah aH aG
 have g:jB 2 kC _ V f KL:=ye G (i:=0) rfl f_
 refine fP G 12 ?_
 refine vM (v:=lv) rfl rfl yy hl ?_
 have aI:=yi [0,1,2,3] G
 have aJ:St _ [fV nF Zk 36 2 (iZ c now xs 0),fV kC f 64 2 KL,blk e 59 (KQ c.win c.fN c.fO c.ic now lv (some a) (some d)),iD d .u64 ([]),iD a .i64 ([])] V:=uO aI 36 2
 have aK:=yi [2,4,3,0,1] aJ
 have aL:=aK
 refine gQ G 4 ?_
 refine lp (α:=Nat×Int×Value) (fun(i,ap,vo)=>[(7,(Zb e)),(8,f),(9,vo),(22,lv),(23,(Za xs.length)),(24,(Za i))]) (fun(i,ap,vo) w1=>St [(w,[])] (uH e c.win c.fN c.fO c.ic now lv ap (some a) (some d) (iD a .i64 (lP (xs.take i))) (iD d .u64 (kN (xs.take i))) vo (iZ c now xs i) f KL) w1/\i<=xs.length) (fun(i,ap,vo)=>xs.length-i) (0,0,Zk) ⟨rfl,rfl,rfl,rfl,rfl,gG (by first|rfl|omega),trivial⟩ (⟨aL,o_⟩) ?_
 rintro⟨i,ap,vo⟩ bQ bR ⟨hst,hi⟩
 refine gf hst 2 ?_
 by_cases h:((i:Int):Int)<((xs.length:Int):Int)
 . obtain⟨x,hx⟩:=n9 (show i<xs.length by omega)
   refine fP hst 12 ?_
   refine ji (k:=i) (i:=(i:Int)) rfl rfl rfl yy iU hl o_ o_ hx (rj (cs:=(Zs x)) rfl rfl yt rfl iU (l6 hst s_ d_ hl) hx rfl rfl (al (cs:=Zx) rfl iU rfl hst (fun p bS bT bU aM=>kT aM 16 fun bV B=>?_)))
   refine vM (v:=f) rfl rfl uF g (gQ B 4 ?_)
   refine sg 4 (ij (gf B 2 ?_))
   refine cmp rfl rfl rfl (pV d_) (fP B 10 ?_)
   refine ji (k:=0) (i:=0) rfl rfl rfl uF lq g o_ o_ rfl (rj (cs:=Fi) rfl rfl uE rfl lq (ye B (i:=5) rfl f_) rfl rfl rfl (al (cs:=xK) rfl lq rfl B (fun q bW bX bY aN=>kT aN 9 fun aO aP=>?_)))
   have ai:=yi [2,3,4,0,1,5,6] aP
   have W:=yc [_,_,_] _ ai
   refine qa (fi:=[]) (ca:=[]) rfl rfl rfl ZQ (Rp c now e a d lv xs i x (lP (xs.take i)) (kN (xs.take i)) (fun b=>b<w.heap.size) aO (yd W (i:=0) rfl) (fun b hb hf=>St.WX W (w0:=w) (X:=[]) s_ hb s_ (by rw[od];exact uP _ hf)) (l6 ai s_ d_ hlo) hxs hl0 hx) ?_
   rintro _ bZ ⟨rfl,ht⟩
   have j:=(yp W ht)
   refine gQ j 2 ?_
   cases l:(Af c x i (lR xs i).seq (lP (xs.take i)) (kN (xs.take i)):Bool)
   . skip
     refine jo j 8 ?_
     refine tN (?_)
     refine ij (gf j 2 ?_)
     refine cmp rfl rfl rfl (pV d_) (fP j 10 ?_)
     refine ji (k:=1) (i:=1) rfl rfl rfl uF lq g o_ o_ rfl (rj (cs:=Fk) rfl rfl uE rfl lq (ye j (i:=6) rfl f_) rfl rfl rfl (al (cs:=xK) rfl lq rfl j (fun Y b0 b1 b2 aQ=>kT aQ 9 fun aR Z=>?_)))
     refine qa (fi:=[]) (ca:=[]) rfl rfl rfl Pb (Ln c hc now e a d lv xs i x aR (l6 Z s_ d_ hl) hxs hl0 (Z.at (i:=1) rfl) hx) ?_
     rintro _ b3 ⟨rfl,aS⟩
     have m:=jc Z aS
     refine gQ m 2 ?_
     cases H:(decide (x.exp<=now):Bool)
     . skip
       refine jo m 8 ?_
       refine tN (?_)
       refine ij (gf m 2 ?_)
       refine cmp rfl rfl rfl (pV d_) (fP m 10 ?_)
       refine ji (k:=2) (i:=2) rfl rfl rfl uF lq g o_ o_ rfl (rj (cs:=CC) rfl rfl uE rfl lq (ye m (i:=7) rfl f_) rfl rfl rfl (al (cs:=xK) rfl lq rfl m (fun aT b4 b5 b6 aU=>kT aU 8 fun aV I=>?_)))
       refine oZ (cs:=(Zs x)) rfl rfl yt rfl iU rfl (kO I (i:=6) (o:=0) (vs:=(Zs x)) rfl rfl) (qa (fi:=[]) (ca:=[]) rfl rfl rfl Ez (CZ c hc now e a d lv xs i x aV (l6 I s_ d_ hl) hxs hl0 (I.at (i:=2) rfl) hx) ?_)
       rintro _ aW ⟨rfl,aX⟩
       have s:=jc I aX
       refine gQ s 2 ?_
       cases aj:(uw c now x i (lR xs i).t:Bool)
       . skip
         refine jo s 8 ?_
         refine tN (?_)
         refine ij (gf s 2 ?_)
         refine cmp rfl rfl rfl (mz d_) (fW s 14 ?_)
         refine tN (?_)
         have aY:=yi [2,3,4,7,8] s
         have hfl:iZ c now xs i=iZ c now xs (i+1):=by rw[vb hx,oB];simp only[h,l,H,aj,decide_true,decide_false,decide_eq_true_eq,decide_eq_false_iff_not,if_true,if_false,s7,nq,mS,lB]
         have hs9:St [(w,[])] (uH e c.win c.fN c.fO c.ic now lv i (some a) (some d) (iD a .i64 (lP (xs.take (i+1)))) (iD d .u64 (kN (xs.take (i+1)))) vo (iZ c now xs (i+1)) f KL) aW:=by rw[<-hfl,uZ hx,ve hx];exact aY
         exact again ((i+1),(i:Int),vo) ⟨rfl,rfl,rfl,rfl,rfl,gG (by first|rfl|omega),trivial⟩ (⟨hs9,o_⟩) (by show (xs.length-(i+1):Nat)<xs.length-i;omega)
       . skip
         refine gf s 6 ?_
         refine kj (pvs:=[(0,wo),(1,(Za i))]) (v:=.agg (Ct i)) rfl rfl (jY [(0,Cc),(1,(Ze i))] lH vI rfl ⟨rfl,rfl,rfl,rfl,trivial⟩ rfl) (lS (vs:=(Fb i)) (cs:=(Fh i)) rfl rfl nY lH rfl (by simp[Value.cells]) rfl rfl rfl s (fun aZ b7 b8 b9 ak=>nO (cf:=nF) (ys:=iZ c now xs i) (zs:=[(5,(i:Int))]) (LL:=fun J=>(Fq (row (.slice (some ⟨aZ,0,none⟩) 1 1) 36 2 1 ([(.int .i64 5),(.int .i64 i)])) aT Y e c.win c.fN c.fO c.ic now lv i (some a) (some d) (iD a .i64 (gX (lP (xs.take i)) x.slot)) (iD d .u64 (gX (gX (kN (xs.take i)) x.u) x.v)) q p x J ((iZ c now xs i)++([(5,(i:Int))])) f KL)) 8 rfl rfl rfl nY lH rfl d_ ak rfl (mO ak (i:=0) rfl) (wY _) (by have:=oI c now xs i;simp only[zp,zk,zr];omega) (by have:=oI c now xs i;simp only[zp,zk,zr];omega) f_ ?_))
         intro J a0 am cb
         have aa:=yi [1,2,3,4,5,6,7,8,9] am
         refine fW aa 8 ?_
         refine tN (?_)
         refine ij (gf aa 2 ?_)
         refine cmp rfl rfl rfl (mz d_) (fW aa 14 ?_)
         refine tN (?_)
         have a1:=yi [3,4,5,8,9] am
         have hfl:(iZ c now xs i)++([(5,(i:Int))])=iZ c now xs (i+1):=by rw[vb hx,oB];simp only[h,l,H,aj,decide_true,decide_false,decide_eq_true_eq,decide_eq_false_iff_not,if_true,if_false,s7,nq,mS,lB]
         have hs9:St [(w,[])] (uH e c.win c.fN c.fO c.ic now lv i (some a) (some d) (iD a .i64 (lP (xs.take (i+1)))) (iD d .u64 (kN (xs.take (i+1)))) J (iZ c now xs (i+1)) f KL) a0:=by rw[<-hfl,uZ hx,ve hx];exact a1
         exact again ((i+1),(i:Int),J) ⟨rfl,rfl,rfl,rfl,rfl,gG (by first|rfl|omega),trivial⟩ (⟨hs9,o_⟩) (by show (xs.length-(i+1):Nat)<xs.length-i;omega)
     . skip
       refine gf m 6 ?_
       refine kj (pvs:=[(0,xR),(1,(Za i))]) (v:=.agg (Kz i)) rfl rfl (jY [(0,[xR]),(1,(Ze i))] lH vI rfl ⟨rfl,rfl,rfl,rfl,trivial⟩ rfl) (lS (vs:=(Qn i)) (cs:=(QJ i)) rfl rfl nY lH rfl (by simp[Value.cells]) rfl rfl rfl m (fun a2 cc cd ce an=>nO (cf:=nF) (ys:=iZ c now xs i) (zs:=[(2,(i:Int))]) (LL:=fun K=>(QI (row (.slice (some ⟨a2,0,none⟩) 1 1) 36 2 1 ([(.int .i64 2),(.int .i64 i)])) Y e c.win c.fN c.fO c.ic now lv i (some a) (some d) (iD a .i64 (gX (lP (xs.take i)) x.slot)) (iD d .u64 (gX (gX (kN (xs.take i)) x.u) x.v)) q p x K ((iZ c now xs i)++([(2,(i:Int))])) f KL)) 7 rfl rfl rfl nY lH rfl d_ an rfl (mO an (i:=0) rfl) (wY _) (by have:=oI c now xs i;simp only[zp,zk,zr];omega) (by have:=oI c now xs i;simp only[zp,zk,zr];omega) f_ ?_))
       intro K cg a3 ch
       have C:=yi [1,2,3,4,5,6,7,8] a3
       refine fW C 8 ?_
       refine tN (?_)
       refine ij (gf C 2 ?_)
       refine cmp rfl rfl rfl (pV d_) (fP C 10 ?_)
       refine ji (k:=2) (i:=2) rfl rfl rfl uF lq g o_ o_ rfl (rj (cs:=CC) rfl rfl uE rfl lq (ye C (i:=7) rfl f_) rfl rfl rfl (al (cs:=xK) rfl lq rfl C (fun a4 ci cj ck a5=>kT a5 8 fun a6 L=>?_)))
       refine oZ (cs:=(Zs x)) rfl rfl yt rfl iU rfl (kO L (i:=6) (o:=0) (vs:=(Zs x)) rfl rfl) (qa (fi:=[]) (ca:=[]) rfl rfl rfl Ez (CZ c hc now e a d lv xs i x a6 (l6 L s_ d_ hl) hxs hl0 (L.at (i:=2) rfl) hx) ?_)
       rintro _ a7 ⟨rfl,a8⟩
       have y:=jc L a8
       refine gQ y 2 ?_
       cases ao:(uw c now x i (lR xs i).t:Bool)
       . skip
         refine jo y 8 ?_
         refine tN (?_)
         refine ij (gf y 2 ?_)
         refine cmp rfl rfl rfl (mz d_) (fW y 14 ?_)
         refine tN (?_)
         have a9:=yi [2,3,4,7,8] y
         have hfl:(iZ c now xs i)++([(2,(i:Int))])=iZ c now xs (i+1):=by rw[vb hx,oB];simp only[h,l,H,ao,decide_true,decide_false,decide_eq_true_eq,decide_eq_false_iff_not,if_true,if_false,s7,nq,mS,lB]
         have hs9:St [(w,[])] (uH e c.win c.fN c.fO c.ic now lv i (some a) (some d) (iD a .i64 (lP (xs.take (i+1)))) (iD d .u64 (kN (xs.take (i+1)))) K (iZ c now xs (i+1)) f KL) a7:=by rw[<-hfl,uZ hx,ve hx];exact a9
         exact again ((i+1),(i:Int),K) ⟨rfl,rfl,rfl,rfl,rfl,gG (by first|rfl|omega),trivial⟩ (⟨hs9,o_⟩) (by show (xs.length-(i+1):Nat)<xs.length-i;omega)
       . skip
         refine gf y 6 ?_
         refine kj (pvs:=[(0,wo),(1,(Za i))]) (v:=.agg (Ct i)) rfl rfl (jY [(0,Cc),(1,(Ze i))] lH vI rfl ⟨rfl,rfl,rfl,rfl,trivial⟩ rfl) (lS (vs:=(Fb i)) (cs:=(Fh i)) rfl rfl nY lH rfl (by simp[Value.cells]) rfl rfl rfl y (fun ba cm cn co aq=>nO (cf:=nF) (ys:=(iZ c now xs i)++([(2,(i:Int))])) (zs:=[(5,(i:Int))]) (LL:=fun M=>(Fq (row (.slice (some ⟨ba,0,none⟩) 1 1) 36 2 1 ([(.int .i64 5),(.int .i64 i)])) a4 Y e c.win c.fN c.fO c.ic now lv i (some a) (some d) (iD a .i64 (gX (lP (xs.take i)) x.slot)) (iD d .u64 (gX (gX (kN (xs.take i)) x.u) x.v)) q p x M (((iZ c now xs i)++([(2,(i:Int))]))++([(5,(i:Int))])) f KL)) 8 rfl rfl rfl nY lH rfl d_ aq rfl (mO aq (i:=0) rfl) (wY _) (by have:=oI c now xs i;simp only[zp,zk,zr];omega) (by have:=oI c now xs i;simp only[zp,zk,zr];omega) f_ ?_))
         intro M bb ar cp
         have ab:=yi [1,2,3,4,5,6,7,8,9] ar
         refine fW ab 8 ?_
         refine tN (?_)
         refine ij (gf ab 2 ?_)
         refine cmp rfl rfl rfl (mz d_) (fW ab 14 ?_)
         refine tN (?_)
         have bc:=yi [3,4,5,8,9] ar
         have hfl:((iZ c now xs i)++([(2,(i:Int))]))++([(5,(i:Int))])=iZ c now xs (i+1):=by rw[vb hx,oB];simp only[h,l,H,ao,decide_true,decide_false,decide_eq_true_eq,decide_eq_false_iff_not,if_true,if_false,s7,nq,mS,lB]
         have hs9:St [(w,[])] (uH e c.win c.fN c.fO c.ic now lv i (some a) (some d) (iD a .i64 (lP (xs.take (i+1)))) (iD d .u64 (kN (xs.take (i+1)))) M (iZ c now xs (i+1)) f KL) bb:=by rw[<-hfl,uZ hx,ve hx];exact bc
         exact again ((i+1),(i:Int),M) ⟨rfl,rfl,rfl,rfl,rfl,gG (by first|rfl|omega),trivial⟩ (⟨hs9,o_⟩) (by show (xs.length-(i+1):Nat)<xs.length-i;omega)
   . skip
     refine gf j 6 ?_
     refine kj (pvs:=[(0,uG),(1,(Za i))]) (v:=.agg (Qs i)) rfl rfl (jY [(0,Gd),(1,(Ze i))] lH vI rfl ⟨rfl,rfl,rfl,rfl,trivial⟩ rfl) (lS (vs:=(Zb5 i)) (cs:=(Q1 i)) rfl rfl nY lH rfl (by simp[Value.cells]) rfl rfl rfl j (fun bd cq cr ct au=>nO (cf:=nF) (ys:=iZ c now xs i) (zs:=[(1,(i:Int))]) (LL:=fun N=>[row (Zy bd) 36 2 1 ((Q1 i)),blk e 59 (AS c.win c.fN c.fO c.ic now lv i (some a) (some d)),iD a .i64 (gX (lP (xs.take i)) x.slot),iD d .u64 (gX (gX (kN (xs.take i)) x.u) x.v),blk q 64 Fi,blk p 34 (Zs x),fV nF N 36 2 ((iZ c now xs i)++([(1,(i:Int))])),fV kC f 64 2 KL]) 6 rfl rfl rfl nY lH rfl d_ au rfl (mO au (i:=0) rfl) (wY _) (by have:=oI c now xs i;simp only[zp,zk,zr];omega) (by have:=oI c now xs i;simp only[zp,zk,zr];omega) f_ ?_))
     intro N cu be cv
     have D:=yi [1,2,3,4,5,6,7] be
     refine fW D 8 ?_
     refine tN (?_)
     refine ij (gf D 2 ?_)
     refine cmp rfl rfl rfl (pV d_) (fP D 10 ?_)
     refine ji (k:=1) (i:=1) rfl rfl rfl uF lq g o_ o_ rfl (rj (cs:=Fk) rfl rfl uE rfl lq (ye D (i:=6) rfl f_) rfl rfl rfl (al (cs:=xK) rfl lq rfl D (fun ac cw cx cy bf=>kT bf 9 fun bg ad=>?_)))
     refine qa (fi:=[]) (ca:=[]) rfl rfl rfl Pb (Ln c hc now e a d lv xs i x bg (l6 ad s_ d_ hl) hxs hl0 (ad.at (i:=1) rfl) hx) ?_
     rintro _ cz ⟨rfl,bh⟩
     have n:=jc ad bh
     refine gQ n 2 ?_
     cases O:(decide (x.exp<=now):Bool)
     . skip
       refine jo n 8 ?_
       refine tN (?_)
       refine ij (gf n 2 ?_)
       refine cmp rfl rfl rfl (pV d_) (fP n 10 ?_)
       refine ji (k:=2) (i:=2) rfl rfl rfl uF lq g o_ o_ rfl (rj (cs:=CC) rfl rfl uE rfl lq (ye n (i:=7) rfl f_) rfl rfl rfl (al (cs:=xK) rfl lq rfl n (fun bi cA cB cC bj=>kT bj 8 fun bl P=>?_)))
       refine oZ (cs:=(Zs x)) rfl rfl yt rfl iU rfl (kO P (i:=6) (o:=0) (vs:=(Zs x)) rfl rfl) (qa (fi:=[]) (ca:=[]) rfl rfl rfl Ez (CZ c hc now e a d lv xs i x bl (l6 P s_ d_ hl) hxs hl0 (P.at (i:=2) rfl) hx) ?_)
       rintro _ bm ⟨rfl,bn⟩
       have z:=jc P bn
       refine gQ z 2 ?_
       cases av:(uw c now x i (lR xs i).t:Bool)
       . skip
         refine jo z 8 ?_
         refine tN (?_)
         refine ij (gf z 2 ?_)
         refine cmp rfl rfl rfl (mz d_) (fW z 14 ?_)
         refine tN (?_)
         have bo:=yi [2,3,4,7,8] z
         have hfl:(iZ c now xs i)++([(1,(i:Int))])=iZ c now xs (i+1):=by rw[vb hx,oB];simp only[h,l,O,av,decide_true,decide_false,decide_eq_true_eq,decide_eq_false_iff_not,if_true,if_false,s7,nq,mS,lB]
         have hs9:St [(w,[])] (uH e c.win c.fN c.fO c.ic now lv i (some a) (some d) (iD a .i64 (lP (xs.take (i+1)))) (iD d .u64 (kN (xs.take (i+1)))) N (iZ c now xs (i+1)) f KL) bm:=by rw[<-hfl,uZ hx,ve hx];exact bo
         exact again ((i+1),(i:Int),N) ⟨rfl,rfl,rfl,rfl,rfl,gG (by first|rfl|omega),trivial⟩ (⟨hs9,o_⟩) (by show (xs.length-(i+1):Nat)<xs.length-i;omega)
       . skip
         refine gf z 6 ?_
         refine kj (pvs:=[(0,wo),(1,(Za i))]) (v:=.agg (Ct i)) rfl rfl (jY [(0,Cc),(1,(Ze i))] lH vI rfl ⟨rfl,rfl,rfl,rfl,trivial⟩ rfl) (lS (vs:=(Fb i)) (cs:=(Fh i)) rfl rfl nY lH rfl (by simp[Value.cells]) rfl rfl rfl z (fun bp cD cE cF aw=>nO (cf:=nF) (ys:=(iZ c now xs i)++([(1,(i:Int))])) (zs:=[(5,(i:Int))]) (LL:=fun Q=>(Fq (row (.slice (some ⟨bp,0,none⟩) 1 1) 36 2 1 ([(.int .i64 5),(.int .i64 i)])) bi ac e c.win c.fN c.fO c.ic now lv i (some a) (some d) (iD a .i64 (gX (lP (xs.take i)) x.slot)) (iD d .u64 (gX (gX (kN (xs.take i)) x.u) x.v)) q p x Q (((iZ c now xs i)++([(1,(i:Int))]))++([(5,(i:Int))])) f KL)) 8 rfl rfl rfl nY lH rfl d_ aw rfl (mO aw (i:=0) rfl) (wY _) (by have:=oI c now xs i;simp only[zp,zk,zr];omega) (by have:=oI c now xs i;simp only[zp,zk,zr];omega) f_ ?_))
         intro Q bq ax cG
         have ae:=yi [1,2,3,4,5,6,7,8,9] ax
         refine fW ae 8 ?_
         refine tN (?_)
         refine ij (gf ae 2 ?_)
         refine cmp rfl rfl rfl (mz d_) (fW ae 14 ?_)
         refine tN (?_)
         have br:=yi [3,4,5,8,9] ax
         have hfl:((iZ c now xs i)++([(1,(i:Int))]))++([(5,(i:Int))])=iZ c now xs (i+1):=by rw[vb hx,oB];simp only[h,l,O,av,decide_true,decide_false,decide_eq_true_eq,decide_eq_false_iff_not,if_true,if_false,s7,nq,mS,lB]
         have hs9:St [(w,[])] (uH e c.win c.fN c.fO c.ic now lv i (some a) (some d) (iD a .i64 (lP (xs.take (i+1)))) (iD d .u64 (kN (xs.take (i+1)))) Q (iZ c now xs (i+1)) f KL) bq:=by rw[<-hfl,uZ hx,ve hx];exact br
         exact again ((i+1),(i:Int),Q) ⟨rfl,rfl,rfl,rfl,rfl,gG (by first|rfl|omega),trivial⟩ (⟨hs9,o_⟩) (by show (xs.length-(i+1):Nat)<xs.length-i;omega)
     . skip
       refine gf n 6 ?_
       refine kj (pvs:=[(0,xR),(1,(Za i))]) (v:=.agg (Kz i)) rfl rfl (jY [(0,[xR]),(1,(Ze i))] lH vI rfl ⟨rfl,rfl,rfl,rfl,trivial⟩ rfl) (lS (vs:=(Qn i)) (cs:=(QJ i)) rfl rfl nY lH rfl (by simp[Value.cells]) rfl rfl rfl n (fun bs cH cI cJ ay=>nO (cf:=nF) (ys:=(iZ c now xs i)++([(1,(i:Int))])) (zs:=[(2,(i:Int))]) (LL:=fun R=>(QI (row (.slice (some ⟨bs,0,none⟩) 1 1) 36 2 1 ([(.int .i64 2),(.int .i64 i)])) ac e c.win c.fN c.fO c.ic now lv i (some a) (some d) (iD a .i64 (gX (lP (xs.take i)) x.slot)) (iD d .u64 (gX (gX (kN (xs.take i)) x.u) x.v)) q p x R (((iZ c now xs i)++([(1,(i:Int))]))++([(2,(i:Int))])) f KL)) 7 rfl rfl rfl nY lH rfl d_ ay rfl (mO ay (i:=0) rfl) (wY _) (by have:=oI c now xs i;simp only[zp,zk,zr];omega) (by have:=oI c now xs i;simp only[zp,zk,zr];omega) f_ ?_))
       intro R cK bt cL
       have E:=yi [1,2,3,4,5,6,7,8] bt
       refine fW E 8 ?_
       refine tN (?_)
       refine ij (gf E 2 ?_)
       refine cmp rfl rfl rfl (pV d_) (fP E 10 ?_)
       refine ji (k:=2) (i:=2) rfl rfl rfl uF lq g o_ o_ rfl (rj (cs:=CC) rfl rfl uE rfl lq (ye E (i:=7) rfl f_) rfl rfl rfl (al (cs:=xK) rfl lq rfl E (fun bu cM cN cO bv=>kT bv 8 fun bw S=>?_)))
       refine oZ (cs:=(Zs x)) rfl rfl yt rfl iU rfl (kO S (i:=6) (o:=0) (vs:=(Zs x)) rfl rfl) (qa (fi:=[]) (ca:=[]) rfl rfl rfl Ez (CZ c hc now e a d lv xs i x bw (l6 S s_ d_ hl) hxs hl0 (S.at (i:=2) rfl) hx) ?_)
       rintro _ bz ⟨rfl,bA⟩
       have A:=jc S bA
       refine gQ A 2 ?_
       cases az:(uw c now x i (lR xs i).t:Bool)
       . skip
         refine jo A 8 ?_
         refine tN (?_)
         refine ij (gf A 2 ?_)
         refine cmp rfl rfl rfl (mz d_) (fW A 14 ?_)
         refine tN (?_)
         have bB:=yi [2,3,4,7,8] A
         have hfl:((iZ c now xs i)++([(1,(i:Int))]))++([(2,(i:Int))])=iZ c now xs (i+1):=by rw[vb hx,oB];simp only[h,l,O,az,decide_true,decide_false,decide_eq_true_eq,decide_eq_false_iff_not,if_true,if_false,s7,nq,mS,lB]
         have hs9:St [(w,[])] (uH e c.win c.fN c.fO c.ic now lv i (some a) (some d) (iD a .i64 (lP (xs.take (i+1)))) (iD d .u64 (kN (xs.take (i+1)))) R (iZ c now xs (i+1)) f KL) bz:=by rw[<-hfl,uZ hx,ve hx];exact bB
         exact again ((i+1),(i:Int),R) ⟨rfl,rfl,rfl,rfl,rfl,gG (by first|rfl|omega),trivial⟩ (⟨hs9,o_⟩) (by show (xs.length-(i+1):Nat)<xs.length-i;omega)
       . skip
         refine gf A 6 ?_
         refine kj (pvs:=[(0,wo),(1,(Za i))]) (v:=.agg (Ct i)) rfl rfl (jY [(0,Cc),(1,(Ze i))] lH vI rfl ⟨rfl,rfl,rfl,rfl,trivial⟩ rfl) (lS (vs:=(Fb i)) (cs:=(Fh i)) rfl rfl nY lH rfl (by simp[Value.cells]) rfl rfl rfl A (fun bC cP cQ cR aA=>nO (cf:=nF) (ys:=((iZ c now xs i)++([(1,(i:Int))]))++([(2,(i:Int))])) (zs:=[(5,(i:Int))]) (LL:=fun U=>(Fq (row (.slice (some ⟨bC,0,none⟩) 1 1) 36 2 1 ([(.int .i64 5),(.int .i64 i)])) bu ac e c.win c.fN c.fO c.ic now lv i (some a) (some d) (iD a .i64 (gX (lP (xs.take i)) x.slot)) (iD d .u64 (gX (gX (kN (xs.take i)) x.u) x.v)) q p x U ((((iZ c now xs i)++([(1,(i:Int))]))++([(2,(i:Int))]))++([(5,(i:Int))])) f KL)) 8 rfl rfl rfl nY lH rfl d_ aA rfl (mO aA (i:=0) rfl) (wY _) (by have:=oI c now xs i;simp only[zp,zk,zr];omega) (by have:=oI c now xs i;simp only[zp,zk,zr];omega) f_ ?_))
         intro U bD aB cS
         have af:=yi [1,2,3,4,5,6,7,8,9] aB
         refine fW af 8 ?_
         refine tN (?_)
         refine ij (gf af 2 ?_)
         refine cmp rfl rfl rfl (mz d_) (fW af 14 ?_)
         refine tN (?_)
         have bE:=yi [3,4,5,8,9] aB
         have hfl:(((iZ c now xs i)++([(1,(i:Int))]))++([(2,(i:Int))]))++([(5,(i:Int))])=iZ c now xs (i+1):=by rw[vb hx,oB];simp only[h,l,O,az,decide_true,decide_false,decide_eq_true_eq,decide_eq_false_iff_not,if_true,if_false,s7,nq,mS,lB]
         have hs9:St [(w,[])] (uH e c.win c.fN c.fO c.ic now lv i (some a) (some d) (iD a .i64 (lP (xs.take (i+1)))) (iD d .u64 (kN (xs.take (i+1)))) U (iZ c now xs (i+1)) f KL) bD:=by rw[<-hfl,uZ hx,ve hx];exact bE
         exact again ((i+1),(i:Int),U) ⟨rfl,rfl,rfl,rfl,rfl,gG (by first|rfl|omega),trivial⟩ (⟨hs9,o_⟩) (by show (xs.length-(i+1):Nat)<xs.length-i;omega)
 . refine fW hst 17 ?_
   refine gq (v:=vo) Tryz.results7 rfl ?_
   rw[show i=xs.length by omega]at hst
   have hs8:=St.sub (L' := [fV nF vo 36 2 (iZ c now xs xs.length)]) hst (List.Sublist.cons _ (List.Sublist.cons _ (List.Sublist.cons _ (List.Sublist.cons_cons _ (List.Sublist.cons _ (List.Sublist.refl _))))))
   exact⟨AE hs8 s_,hst.gJ s_⟩
end
section
open Go Go.Sx Go.Ex
theorem XF:ya.stoodInHeld 36=false:=by kernel_rfl
theorem Kh:ya.eqGuardType ya.depth 36=false:=by kernel_rfl
theorem aad(a b c d:Int):rD ya 3 36 (tJ a b) (tJ c d)=some (decide (a=c/\b=d)):=by
 have e1:(a==c)=decide (a=c):=rfl
 have e2:(b==d)=decide (b=d):=rfl
 by_cases h1:a=c<;>by_cases h2:b=d<;>simp[rD,FY,yf,XF,Kh,allM,ug,xx,e1,e2,h1,h2]
theorem QX(a b c d:Int)(w:World):(Op.equal 36 (tJ a b) (tJ c d)).run ya w = .ok (decide (a=c/\b=d)) w :=
 LP (E:=fun b=>⟨b,0,0⟩) 3 10000 36 _ _ _ d_ (aad a b c d)
theorem Wo(va:Value)(ys:List (Int×Int))(kd ix:Int)(w:World)(ha:jB 2 nF (fun _=>True) w va ys)(hl0:ys.length<=1000000)(hin:(kd,ix)∈ys) :
 CR ya 10 #[va,(Za kd),(Za ix)] w (fun r w' => r = .bool true/\gB [] w w'):=by
 refine en Tryz.func10 Tryz.ntmps10 ?_
 have hst0:=jI w
 refine uJ hst0 12 ?_
 refine lp (α:=Nat) (fun i=>[(0,va),(1,(Za kd)),(2,(Za ix)),(7,(Za i))]) (fun i w1=>St [(w,[])] [] w1/\i<=ys.length/\∀ (j:Nat) (y:Int×Int),j<i->ys[j]? = some y->¬ (y.1=kd/\y.2=ix)) (fun i=>ys.length-i) 0 ⟨rfl,rfl,rfl,gG (by first|rfl|omega),trivial⟩ (⟨hst0,o_,fun j y hj=>absurd hj o_⟩) ?_
 rintro i g h ⟨hst,hi,hno⟩
 refine gf hst 5 ?_
 refine vM (v:=va) rfl rfl nY ha ?_
 by_cases l:((i:Int):Int)<((ys.length:Int):Int)
 . obtain⟨a,b⟩:=n9 (show i<ys.length by omega)
   refine fP hst 12 ?_
   refine ji (k:=i) (i:=(i:Int)) rfl rfl rfl nY lH ha o_ o_ b (rj (cs:=(Zi a.1 a.2)) rfl rfl FY rfl lH (l6 hst s_ d_ ha) b rfl rfl (fP hst 2 ?_))
   refine kj (pvs:=[(0,(Za kd)),(1,(Za ix))]) (v:=.agg (qI kd ix)) rfl rfl (jY [(0,(Ze kd)),(1,(Ze ix))] lH vI rfl ⟨rfl,rfl,rfl,rfl,trivial⟩ rfl) ?_
   obtain⟨e,m⟩:∃ q,Classical.em (a.1=kd/\a.2=ix)=q:=⟨_,rfl⟩
   rcases e with f|d
   . skip
     refine Pt (c:=true) rfl rfl rfl Kh (fun w=>(QX _ _ _ _ w).trans (by rw[decide_eq_true f])) (fW hst 14 ?_)
     refine gq (v:=Zf) Tryz.results10 rfl ?_
     exact⟨rfl,hst.gJ s_⟩
   . skip
     refine Pt (c:=false) rfl rfl rfl Kh (fun w=>(QX _ _ _ _ w).trans (by rw[decide_eq_false d])) (fW hst 11 ?_)
     refine tN (?_)
     exact again (i+1) ⟨rfl,rfl,rfl,gG (by first|rfl|omega),trivial⟩ (⟨hst,o_,WU hno b d⟩) (by show (ys.length-(i+1):Nat)<ys.length-i;omega)
 . refine fW hst 15 ?_
   refine gq (v:=Zq) Tryz.results10 rfl ?_
   obtain⟨j,hj⟩:=yF.1 hin
   have hjl:=(zb.1 hj).1
   exact absurd ⟨rfl,rfl⟩ (hno j _ o_ hj)
end
section
open Go Go.Sx
theorem LI(x:Int)(w:World) :
 CR ya 249 (sj x) w (fun r w' => r = .bool false/\gB [] w w'):=by
 refine en Tryz.func249 Tryz.ntmps249 ?_
 have hst0:=jI w
 refine gf hst0 9 ?_
 refine cmp rfl rfl rfl (xh rfl) (fW hst0 4 ?_)
 refine gq (v:=Zq) Tryz.results249 rfl ?_
 exact⟨rfl,hst0.gJ s_⟩
theorem Tu(x y:Int)(w:World) :
 CR ya 245 (qI x y) w (fun r w' => r = .int .i64 (mD x y)/\gB [] w w'):=by
 refine en Tryz.func245 Tryz.ntmps245 ?_
 have hst0:=jI w
 refine gf hst0 8 ?_
 refine cl NT (LI x w) ?_
 rintro _ c ⟨rfl,d⟩
 have b:=jc hst0 d
 refine fP b 6 ?_
 refine cl NT (LI y c) ?_
 rintro _ f ⟨rfl,e⟩
 have a:=jc b e
 refine fP a 26 ?_
 by_cases g:(x:Int)<(y:Int)
 . refine fW a 11 ?_
   refine gq (v:=Zw) Tryz.results245 rfl ?_
   exact⟨gG (by simp only[mD];(repeat' split)<;>omega),a.gJ s_⟩
 . refine fP a 11 ?_
   by_cases h:(x:Int)>(y:Int)
   . refine fW a 11 ?_
     refine gq (v:=uG) Tryz.results245 rfl ?_
     exact⟨gG (by simp only[mD];(repeat' split)<;>omega),a.gJ s_⟩
   . refine fW a 12 ?_
     refine gq (v:=Zc) Tryz.results245 rfl ?_
     exact⟨gG (by simp only[mD];(repeat' split)<;>omega),a.gJ s_⟩
theorem NM(x:Int)(w:World) :
 CR ya 250 (sj x) w (fun r w' => r = .bool false/\gB [] w w'):=by
 refine en Tryz.func250 Tryz.ntmps250 ?_
 have hst0:=jI w
 refine gf hst0 9 ?_
 refine cmp rfl rfl rfl (xh rfl) (fW hst0 4 ?_)
 refine gq (v:=Zq) Tryz.results250 rfl ?_
 exact⟨rfl,hst0.gJ s_⟩
theorem Wc(x y:Int)(w:World) :
 CR ya 246 (qI x y) w (fun r w' => r = .int .i64 (mD x y)/\gB [] w w'):=by
 refine en Tryz.func246 Tryz.ntmps246 ?_
 have hst0:=jI w
 refine gf hst0 8 ?_
 refine cl Od (NM x w) ?_
 rintro _ c ⟨rfl,d⟩
 have b:=jc hst0 d
 refine fP b 6 ?_
 refine cl Od (NM y c) ?_
 rintro _ f ⟨rfl,e⟩
 have a:=jc b e
 refine fP a 26 ?_
 by_cases g:(x:Int)<(y:Int)
 . refine fW a 11 ?_
   refine gq (v:=Zw) Tryz.results246 rfl ?_
   exact⟨gG (by simp only[mD];(repeat' split)<;>omega),a.gJ s_⟩
 . refine fP a 11 ?_
   by_cases h:(x:Int)>(y:Int)
   . refine fW a 11 ?_
     refine gq (v:=uG) Tryz.results246 rfl ?_
     exact⟨gG (by simp only[mD];(repeat' split)<;>omega),a.gJ s_⟩
   . refine fW a 12 ?_
     refine gq (v:=Zc) Tryz.results246 rfl ?_
     exact⟨gG (by simp only[mD];(repeat' split)<;>omega),a.gJ s_⟩
theorem Xm(v:Value)(xs:List Int)(w:World)(hv:Ints .i64 (fun _=>True) w v xs) :
 CR ya 244 #[v] w (fun r w' => r = .int .i64 (o7 xs)/\gB [] w w'):=by
 have hvl:=hv.len
 refine en Tryz.func244 Tryz.ntmps244 ?_
 have hst0:=jI w
 refine gf hst0 14 ?_
 refine vM (v:=v) rfl rfl yh hv (gQ hst0 4 ?_)
 refine lp (α:=Nat) (fun k=>[(3,Zc),(6,v),(7,(Za xs.length)),(8,(Za k))]) (fun k w1=>St [(w,[])] [] w1/\k<=xs.length/\∀ j x,j<k->xs[j]? = some x->x=0) (fun k=>xs.length-k) 0 ⟨rfl,rfl,rfl,gG (by first|rfl|omega),trivial⟩ (⟨hst0,o_,fun j x h=>absurd h o_⟩) ?_
 rintro k c d ⟨hst7,hk7,hz7⟩
 refine gf hst7 2 ?_
 by_cases e:((k:Int):Int)<((xs.length:Int):Int)
 . obtain⟨x,hx⟩:=n9 (show k<xs.length by omega)
   refine fP hst7 11 ?_
   refine FH (i:=(k:Int)) (el:=x) rfl rfl rfl yh gn (St.Jf hst7 s_ hv) o_ (by rw[show ((k:Nat):Int).toNat=k by omega];exact hx) ?_
   intro f g a b l
   have m:=b.i64
   refine ld rfl rfl yf rfl a (fP hst7 7 ?_)
   by_cases n:(x:Int)=(0:Int)
   . refine fW hst7 11 ?_
     refine tN (?_)
     exact again (k+1) ⟨rfl,rfl,rfl,gG (by first|rfl|omega),trivial⟩ (⟨hst7,o_,WY hz7 hx o_⟩) (by show (xs.length-(k+1):Nat)<xs.length-k;omega)
   . refine fW hst7 16 ?_
     refine gq (v:=(Za x)) Tryz.results244 rfl ?_
     exact⟨gG (XA hz7 hx o_).symm,hst7.gJ s_⟩
 . refine fW hst7 17 ?_
   refine gq (v:=Zc) Tryz.results244 rfl ?_
   exact⟨gG (VY hz7 o_).symm,hst7.gJ s_⟩
theorem sM(a b:gj)(w:World) :
 CR ya 235 #[(E9 a),(E9 b)] w (fun r w' => r = .int .i64 (s6 a b)/\gB [] w w'):=by
 refine en Tryz.func235 Tryz.ntmps235 ?_
 have hst0:=jI w
 refine gf hst0 2 ?_
 refine bx (v:=(E9 a)) (cs:=[(Za a.ix),(Za a.key)]) rfl rfl rfl hst0 (fun g j k l e=>bx (v:=(E9 b)) (cs:=[(Za b.ix),(Za b.key)]) rfl rfl rfl e (fun m n o p c=>gQ c 4 ?_))
 refine jM c 10 ?_ (hA:=by refine' gK 4 ?k0;case k0=>refine' gy (fun wq hM=>rc (i6 rfl XT) (CR.mono (Tu a.key b.key wq) fun _ _ h=>⟨h.1,hM.grow h.2⟩)) ?k1;case k1=>refine' gK 4 ?k2;case k2=>refine' gy (fun wq hM=>rc (i6 rfl XV) (CR.mono (Wc (a.ix:Int) (b.ix:Int) wq) fun _ _ h=>⟨h.1,hM.grow h.2⟩)) ?k3;case k3=>exact iE)
 intro wq hM
 refine BV (vs:=(Zi (mD a.key b.key) (mD (a.ix:Int) (b.ix:Int)))) (cs:=(Zi (mD a.key b.key) (mD (a.ix:Int) (b.ix:Int)))) rfl rfl yh gn rfl (by simp[Value.cells]) rfl rfl rfl hM (fun f _ h=>(jN h (fun q d=>?_) (hB:=by refine' gy (fun wq hM=>rc (i6 rfl Xr) (CR.mono (Xm (x9 f) [mD a.key b.key,mD (a.ix:Int) (b.ix:Int)] wq (xW hM (i:=0) rfl (fun y hy=>by simp only[zg,se,or_false]at hy;rcases hy with rfl|rfl<;>exact W2 _ _)).any) fun _ _ h=>⟨h.1,hM.grow h.2⟩)) ?k0;case k0=>exact iE)))
 refine iP tt none d 2 ?_
 refine gq (v:=(Za (o7 [mD a.key b.key,mD (a.ix:Int) (b.ix:Int)]))) Tryz.results235 rfl ?_
 exact⟨gG (V6 a b),d.gJ s_⟩
end
section
open Go Go.Sx
theorem yR(hb n:Nat)(iv pv:Value)(ps:List (Option Nat))(fQ:List gj)(pl:List Nat)(w:World)(hO:Own (Zg hb n iv pv fQ ps pl) w) :
 CR ya 148 (Zl hb) w (fun r w' => r = .bool true/\gm (Zg hb n iv pv fQ ps pl) w w' (Zg hb n iv pv fQ ps pl)):=by
 refine en Tryz.func148 Tryz.ntmps148 ?_
 have hst0:=(y8 hO).unpack
 refine gf hst0 8 ?_
 refine qH (a:=some ⟨hb,0,none⟩) (c:=true) rfl rfl rfl Cg rfl (fP hst0 6 ?_)
 refine EP (a:=⟨hb,0,none⟩) rfl rfl rfl Cg EB (fW hst0 5 ?_)
 refine gq (v:=Zf) Tryz.results148 rfl ?_
 exact⟨rfl,yq (yc [_,_,_,_] _ hst0)⟩
theorem HW(hb n:Nat)(iv pv:Value)(ps:List (Option Nat))(fQ:List gj)(pl:List Nat)(w:World)(hO:Own (Zg hb n iv pv fQ ps pl) w)(i:Nat)(hi:i<n) :
 CR ya 160 (Zn hb i) w (fun r w' => r = .bool true/\gm (Zg hb n iv pv fQ ps pl) w w' (Zg hb n iv pv fQ ps pl)):=by
 refine en Tryz.func160 Tryz.ntmps160 ?_
 have hst0:=(y8 hO).unpack
 refine gf hst0 8 ?_
 refine cmp rfl rfl rfl (qw o_) (fP hst0 6 ?_)
 refine cmp rfl rfl rfl (pV o_) (fW hst0 5 ?_)
 refine gq (v:=Zf) Tryz.results160 rfl ?_
 exact⟨rfl,yq (yc [_,_,_,_] _ hst0)⟩
theorem He(hb n:Nat)(iv pv:Value)(ps:List (Option Nat))(fQ:List gj)(pl:List Nat)(w:World)(hO:Own (Zg hb n iv pv fQ ps pl) w)(hP:jr n ps pl)(i:Nat)(hi:i<n) :
 CR ya 161 (Zn hb i) w (fun r w' => r = .int .i64 (((fM pl i:Nat):Int)-1)/\gm (Zg hb n iv pv fQ ps pl) w w' (Zg hb n iv pv fQ ps pl)):=by
 have hij:=hP.at hi
 have hpr:=hP.room
 have hpn:=hP.n
 have hpv:=hP.val i
 refine en Tryz.func161 Tryz.ntmps161 ?_
 have hst0:=(y8 hO).unpack
 refine gf hst0 12 ?_
 refine quo (a:=(i:Int)) (b:=64) (e:=((i / 64:Nat):Int)) rfl rfl rfl d_ (vN 64 o_) (ji (cf:=gM) (k:=(i / 64)) (i:=((i / 64:Nat):Int)) rfl rfl rfl oW qo (ye hst0 (i:=2) rfl f_) o_ rfl (gx om) (lI (cf:=gM) rfl rfl si rfl (ye hst0 (i:=2) rfl f_) (gx om) rfl ?_))
 obtain⟨f,d⟩:∃ q,(fM ps (i / 64))=q:=⟨_,rfl⟩
 refine fP hst0 7 ?_
 rcases f with _|g
 . skip
   refine FP (a:=(fM ps (i / 64)).map fun b=>⟨b,0,none⟩) (c:=true) rfl rfl rfl si (by rw[d];rfl) (fW hst0 10 ?_)
   refine gq (v:=Zw) Tryz.results161 rfl ?_
   exact⟨gG (by rw[hP.zero (i / 64) ((gx hij).trans (congrArg some d)) i rfl];rfl),yq (yc [_,_,_,_] _ hst0)⟩
 . skip
   refine FP (a:=(fM ps (i / 64)).map fun b=>⟨b,0,none⟩) (c:=false) rfl rfl rfl si (by rw[d];rfl) (fP hst0 9 ?_)
   refine rem (a:=(i:Int)) (b:=64) (e:=((i%64:Nat):Int)) rfl rfl rfl d_ (B6 64) (rX rfl (yV d) (mc (o:=0) (o' := i%64*1+0) (i:=((i%64:Nat):Int)) rfl rfl rfl FR gn o_ (by simp only[tE];omega) (ld rfl rfl yf rfl (AZ hst0 (i:=3) rfl f_ d_ (by have h7:=hP.room;first|omega|(simp only[iT,gI];omega)) ((gx o_).trans (congrArg some d)) rfl) (fW hst0 5 ?_))))
   refine gq (v:=(Za ((((fM pl i):Nat):Int)-1))) Tryz.results161 rfl ?_
   exact⟨gG o_,yq (yc [_,_,_,_] _ hst0)⟩
theorem DN(hb n:Nat)(iv pv:Value)(ps:List (Option Nat))(fQ:List gj)(pl:List Nat)(w:World)(hO:Own (Zg hb n iv pv fQ ps pl) w)(hP:jr n ps pl)(i:Nat)(hi:i<n)(v:Int)(p:Nat)(hv:v+1=(p:Int))(hp:p<=65536) :
 CR ya 162 (Z2 hb i v) w (fun r w' => r = .tuple #[]/\∃ ps2,ps2.length=ps.length/\jr n ps2 (iT pl i p)/\gm (Zg hb n iv pv fQ ps pl) w w' (Zg hb n iv pv fQ ps2 (iT pl i p))):=by
 have hij:=hP.at hi
 have hpr:=hP.room
 have hpn:=hP.n
 have hpv:=hP.val i
 refine en Tryz.func162 Tryz.ntmps162 ?_
 have hst0:=(y8 hO).unpack
 refine gf hst0 8 ?_
 refine quo (a:=(i:Int)) (b:=64) (e:=((i / 64:Nat):Int)) rfl rfl rfl d_ (vN 64 o_) (ji (cf:=gM) (k:=(i / 64)) (i:=((i / 64:Nat):Int)) rfl rfl rfl oW qo (ye hst0 (i:=2) rfl f_) o_ o_ (gx om) (lI (cf:=gM) rfl rfl si rfl (ye hst0 (i:=2) rfl f_) (gx om) rfl ?_))
 obtain⟨t,g⟩:∃ q,(fM ps (i / 64))=q:=⟨_,rfl⟩
 rcases t with _|u
 . skip
   refine FP (a:=(fM ps (i / 64)).map fun b=>⟨b,0,none⟩) (c:=true) rfl rfl rfl si (by rw[g];rfl) (fP hst0 9 ?_)
   refine quo (a:=(i:Int)) (b:=64) (e:=((i / 64:Nat):Int)) rfl rfl rfl d_ (vN 64 o_) (al (cs:=Kl) rfl BN rfl hst0 (fun d A B C j=>ji (cf:=gM) (k:=(i / 64)) (i:=((i / 64:Nat):Int)) rfl rfl rfl oW qo (ye j (i:=3) rfl f_) o_ o_ (gx om) (nS (f:=(fun _=>(some d))) (L' := [blk d 279 Kl,blk hb 262 (ov hb n iv pv),fV gj.cells iv 111 2 fQ,fV gM pv 277 1 (fR ps (i / 64) (fun _=>(some d))),gF gO 279 64 ps pl]) 3 rfl rfl rfl rfl qo rfl rfl j rfl f_ om rfl rfl rfl ?_)))
   intro D l
   have x:=yi [0,4,1,2,3] l
   have hj0:ps[i / 64]? = some none:=(gx hij).trans (congrArg some g)
   have y:=St.Of x hj0 (hP.XY hj0)
   have h:=y
   have hP2:jr n (ps.set (i / 64) (some d)) pl:=hP.made
   have hb2:(ps.set (i / 64) (some d))[i / 64]? = some (some d):=by rw[su,if_pos rfl,if_pos hij]
   have hij2:i / 64<(ps.set (i / 64) (some d)).length:=by rw[List.length_set];exact hij
   refine fP l 8 ?_
   refine quo (a:=(i:Int)) (b:=64) (e:=((i / 64:Nat):Int)) rfl rfl rfl d_ (vN 64 o_) (ji (cf:=gM) (k:=(i / 64)) (i:=((i / 64:Nat):Int)) rfl rfl rfl oW qo (ye h (i:=3) rfl f_) o_ o_ (gx om) (lI (cf:=gM) rfl rfl si rfl (ye h (i:=3) rfl f_) (gx om) rfl (fP h 1 ?_)))
   refine rem (a:=(i:Int)) (b:=64) (e:=((i%64:Nat):Int)) rfl rfl rfl d_ (B6 64) (fP h 1 ?_)
   refine ar (e:=(p:Int)) rfl rfl rfl rfl (by rw[jb o_];exact hv) (rX rfl (yV (Ew hb2)) (mc (o:=0) (o' := i%64*1+0) (i:=((i%64:Nat):Int)) rfl rfl rfl FR gn o_ (by simp only[tE];omega) (qz (f:=(fun _=>p)) (L' := [gF gO 279 64 (ps.set (i / 64) (some d)) (fR pl i (fun _=>p)),blk hb 262 (ov hb n iv pv),fV gj.cells iv 111 2 fQ,fV gM pv 277 1 (ps.set (i / 64) (some d))]) 0 rfl rfl rfl rfl gn rfl rfl h rfl f_ d_ (by have h7:=hP.room;first|omega|(simp only[iT,gI];omega)) hb2 rfl rfl rfl (fun E m=>fW m 1 ?_))))
   refine jx Tryz.results162 ?_
   have z:=yi [1,2,3,0] m
   exact⟨rfl,ps.set (i / 64) (some d),s_,hP2.set hi o_ hb2,yq (yc [_,_,_,_] _ z)⟩
 . skip
   refine FP (a:=(fM ps (i / 64)).map fun b=>⟨b,0,none⟩) (c:=false) rfl rfl rfl si (by rw[g];rfl) ?_
   have hP2:=hP
   have hb2:ps[i / 64]? = some (some u):=(gx hij).trans (congrArg some g)
   have hij2:=hij
   refine fP hst0 11 ?_
   refine quo (a:=(i:Int)) (b:=64) (e:=((i / 64:Nat):Int)) rfl rfl rfl d_ (vN 64 o_) (ji (cf:=gM) (k:=(i / 64)) (i:=((i / 64:Nat):Int)) rfl rfl rfl oW qo (ye hst0 (i:=2) rfl f_) o_ o_ (gx om) (lI (cf:=gM) rfl rfl si rfl (ye hst0 (i:=2) rfl f_) (gx om) rfl (fP hst0 1 ?_)))
   refine rem (a:=(i:Int)) (b:=64) (e:=((i%64:Nat):Int)) rfl rfl rfl d_ (B6 64) (fP hst0 1 ?_)
   refine ar (e:=(p:Int)) rfl rfl rfl rfl (by rw[jb o_];exact hv) (rX rfl (yV g) (mc (o:=0) (o' := i%64*1+0) (i:=((i%64:Nat):Int)) rfl rfl rfl FR gn o_ (by simp only[tE];omega) (qz (f:=(fun _=>p)) (L' := (th hb n iv pv fQ ps (fR pl i (fun _=>p)))) 3 rfl rfl rfl rfl gn rfl rfl hst0 rfl f_ d_ (by have h7:=hP.room;first|omega|(simp only[iT,gI];omega)) hb2 rfl rfl rfl (fun G s=>fW s 1 ?_))))
   refine jx Tryz.results162 ?_
   exact⟨rfl,ps,s_,hP2.set hi o_ hb2,yq (yc [_,_,_,_] _ s)⟩
end
section
open Go Go.Sx
abbrev Vf:List (List Nat):=[[],[0],[0,1],[0,1,2],[],[],[5],[5,6],[5,6,7],[],[],[10],[10,11],[10,11,12],[],[10,11,12,13,14],[10,11,12,13,14,15],[],[17],[17,18],[17,18,19],[],[17,18,19,20,21],[17,18,19,20,21,22],[0,1,2,3,4,5,6,7,8,10,11,12,13,14,15,16,17,18,19,20,21,22,23],[0,1,2,3,4,5,6,7,8,10,11,12,13,14,15,16,17,18,19,20,21,22,23,24],[0,1,2,3,4,5,6,7,8,9,10,11,12,13,14,15,16,17,18,19,20,21,22,23,24,25],[0,1,2,3,4,5,6,7,8,9,10,11,12,13,14,15,16,17,18,19,20,21,22,23,24,25,26]]
theorem Ht(hb n:Nat)(iv pv:Value)(ps:List (Option Nat))(fQ:List gj)(pl:List Nat)(w:World)(hO:Own (Zg hb n iv pv fQ ps pl) w)(hS:Hp n fQ pl)(hP:jr n ps pl)(p q:Nat)(hp:p<fQ.length)(hq:q<fQ.length) :
 CR ya 204 (Z2 hb p q) w (fun r w' => r = .tuple #[]/\∃ qs,qs.length=ps.length/\jr n qs (iT (iT pl (fM (iC fQ p q) p).ix (p+1)) (fM (iC fQ p q) q).ix (q+1))/\gm (Zg hb n iv pv fQ ps pl) w w' (Zg hb n iv pv (iC fQ p q) qs (iT (iT pl (fM (iC fQ p q) p).ix (p+1)) (fM (iC fQ p q) q).ix (q+1)))):=by
 have hnn:=hP.n
 have hln:=hS.len
 have hsl:=mw fQ p q
 have hsix:∀ j,j<fQ.length->(fM (iC fQ p q) j).ix<n:=fun j hj=>(hS.swap hp hq).ix j (by rw[hsl];exact hj)
 refine en Tryz.func204 Tryz.ntmps204 ?_
 have hst0:=(y8 hO).unpack
 refine uJ hst0 1 ?_
 refine nX (Γ:=Unit) mixed Vf [25,27] k_ [fun _=>(Zb hb),fun _=>(Zb hb),fun _=>(pZ hb),fun _=>iv,fun _=>(Za p),fun _=>(Zb hb),fun _=>(Zb hb),fun _=>(pZ hb),fun _=>iv,fun _=>(Za q),fun _=>(Zb hb),fun _=>(Zb hb),fun _=>(pZ hb),fun _=>iv,fun _=>(Za q),fun _=>(iY 2 iv q 0),fun _=>(tJ ((fM fQ q).ix:Int) ((fM fQ q).key)),fun _=>(Zb hb),fun _=>(Zb hb),fun _=>(pZ hb),fun _=>iv,fun _=>(Za p),fun _=>(iY 2 iv p 0),fun _=>(tJ ((fM fQ p).ix:Int) ((fM fQ p).key)),fun _=>(iY 2 iv p 0),fun _=>undef,fun _=>(iY 2 iv q 0),fun _=>undef] [(fun _=>(th hb n iv pv fQ ps pl),fun _ _=>True),(fun _=>(th hb n iv pv (fR fQ p (fun _=>(fM fQ q))) ps pl),fun _ _=>True),(fun _=>(th hb n iv pv (fR (fR fQ p (fun _=>(fM fQ q))) q (fun _=>(fM fQ p))) ps pl),fun _ _=>True)] () _ rfl hst0 (fun _ _=>trivial) ?_ f_ rfl ?_
 . skip
   refine gp (fun _ _=>iy (v:=(Zb hb)) rfl) ?_
   refine gp (fun _ _=>jU rfl) ?_
   refine gp (fun _ _=>jw (o' := 2) rfl uS rfl uk rfl) ?_
   refine lY rfl rfl rfl rfl (fun _ wq hM hF=>qv rfl rfl (gT rfl yn rfl (yo hM (i:=0) rfl rfl))) (gp (fun _ _=>iy (v:=(Za p)) rfl) ?_)
   refine gp (fun _ _=>iy (v:=(Zb hb)) rfl) ?_
   refine gp (fun _ _=>jU rfl) ?_
   refine gp (fun _ _=>jw (o' := 2) rfl uS rfl uk rfl) ?_
   refine lY rfl rfl rfl rfl (fun _ wq hM hF=>qv rfl rfl (gT rfl yn rfl (yo hM (i:=0) rfl rfl))) (gp (fun _ _=>iy (v:=(Za q)) rfl) ?_)
   refine gp (fun _ _=>iy (v:=(Zb hb)) rfl) ?_
   refine gp (fun _ _=>jU rfl) ?_
   refine gp (fun _ _=>jw (o' := 2) rfl uS rfl uk rfl) ?_
   refine lY rfl rfl rfl rfl (fun _ wq hM hF=>qv rfl rfl (gT rfl yn rfl (yo hM (i:=0) rfl rfl))) (gp (fun _ _=>iy (v:=(Za q)) rfl) ?_)
   refine gp (fun _ _=>kA (cf:=gj.cells) (k:=q) (i:=(q:Int)) rfl rfl yn iw (ye hst0 (i:=1) rfl f_) o_ o_ (gx om)) ?_
   refine lY rfl rfl rfl rfl (fun _ wq hM hF=>qv rfl rfl (lX (cf:=gj.cells) (cs:=(Zi ((fM fQ q).ix:Int) ((fM fQ q).key))) rfl yr rfl iw (ye hM (i:=1) rfl f_) (gx om) rfl rfl)) (gp (fun _ _=>iy (v:=(Zb hb)) rfl) ?_)
   refine gp (fun _ _=>jU rfl) ?_
   refine gp (fun _ _=>jw (o' := 2) rfl uS rfl uk rfl) ?_
   refine lY rfl rfl rfl rfl (fun _ wq hM hF=>qv rfl rfl (gT rfl yn rfl (yo hM (i:=0) rfl rfl))) (gp (fun _ _=>iy (v:=(Za p)) rfl) ?_)
   refine gp (fun _ _=>kA (cf:=gj.cells) (k:=p) (i:=(p:Int)) rfl rfl yn iw (ye hst0 (i:=1) rfl f_) o_ o_ (gx om)) ?_
   refine lY rfl rfl rfl rfl (fun _ wq hM hF=>qv rfl rfl (lX (cf:=gj.cells) (cs:=(Zi ((fM fQ p).ix:Int) ((fM fQ p).key))) rfl yr rfl iw (ye hM (i:=1) rfl f_) (gx om) rfl rfl)) (gp (fun _ _=>kA (cf:=gj.cells) (k:=p) (i:=(p:Int)) rfl rfl yn iw (ye hst0 (i:=1) rfl f_) o_ o_ (gx om)) ?_)
   refine jF rfl rfl rfl rfl (fun _ wq hM hF=>Ec (f:=(fun _=>(fM fQ q))) (L' := (th hb n iv pv (fR fQ p (fun _=>(fM fQ q))) ps pl)) 1 rfl rfl rfl rfl iw rfl rfl hM rfl f_ om rfl rfl rfl (fun _ h=>⟨(),⟨h,trivial⟩,rfl,jA.refl _ _ _⟩)) (gp (fun _ _=>kA (cf:=gj.cells) (k:=q) (i:=(q:Int)) rfl rfl yn iw (ye hst0 (i:=1) rfl f_) o_ o_ (gx om)) ?_)
   refine jF rfl rfl rfl rfl (fun _ wq hM hF=>Ec (f:=(fun _=>(fM fQ p))) (L' := (th hb n iv pv (fR (fR fQ p (fun _=>(fM fQ q))) q (fun _=>(fM fQ p))) ps pl)) 1 rfl rfl rfl rfl iw rfl rfl hM rfl f_ om rfl rfl rfl (fun _ h=>⟨(),⟨h,trivial⟩,rfl,jA.refl _ _ _⟩)) ?_
   exact nT
 rintro-l c -
 have b:=c
 refine nE tt none c 9 ?_
 refine ji (cf:=gj.cells) (k:=p) (i:=(p:Int)) rfl rfl rfl yn iw (ye b (i:=1) rfl f_) o_ o_ (gx om) (nr (cf:=gj.cells) (off:=0) (off' := 0) rfl rfl yr rfl gn rfl (ye b (i:=1) rfl f_) (gx om) (lI (cf:=gj.cells) rfl rfl yf rfl (ye b (i:=1) rfl f_) (gx om) rfl ?_))
 have d:=yc [_,_,_,_] _ b
 refine fP b 1 ?_
 refine cl D7 (DN hb n iv pv ps (iC fQ p q) pl l (yd d (i:=0) rfl) hP ((fM (iC fQ p q) p).ix) (hsix _ (by assumption)) (p:Int) (p+1) o_ o_) ?_
 rintro _ m ⟨rfl,ps2₁,o,hP2₁,ht⟩
 have a:=(yp d ht)
 refine fP a 9 ?_
 refine ji (cf:=gj.cells) (k:=q) (i:=(q:Int)) rfl rfl rfl yn iw (ye a (i:=1) rfl f_) o_ o_ (gx om) (nr (cf:=gj.cells) (off:=0) (off' := 0) rfl rfl yr rfl gn rfl (ye a (i:=1) rfl f_) (gx om) (lI (cf:=gj.cells) rfl rfl yf rfl (ye a (i:=1) rfl f_) (gx om) rfl ?_))
 have e:=yc [_,_,_,_] _ a
 refine fP a 1 ?_
 refine cl D7 (DN hb n iv pv ps2₁ (iC fQ p q) (iT pl ((fM (iC fQ p q) p).ix) (p+1)) m (yd e (i:=0) rfl) hP2₁ ((fM (iC fQ p q) q).ix) (hsix _ (by assumption)) (q:Int) (q+1) o_ o_) ?_
 rintro _ s ⟨rfl,ps2₂,t,hP2₂,ht⟩
 have g:=(yp e ht)
 refine fW g 1 ?_
 refine jx Tryz.results204 ?_
 exact⟨rfl,ps2₂,o_,hP2₂,yq (yc [_,_,_,_] _ g)⟩
theorem LB(hb n:Nat)(iv pv:Value)(ps:List (Option Nat))(fQ:List gj)(pl:List Nat)(w:World)(hO:Own (Zg hb n iv pv fQ ps pl) w)(hS:Hp n fQ pl)(hP:jr n ps pl)(p:Nat)(hp:p<fQ.length) :
 CR ya 207 (Zn hb p) w (fun r w' => r = .int .i64 (qX fQ p)/\gm (Zg hb n iv pv fQ ps pl) w w' (Zg hb n iv pv fQ ps pl)):=by
 have hnn:=hP.n
 have hln:=hS.len
 have hpa:pa p<fQ.length:=by simp only[pa];omega
 refine en Tryz.func207 Tryz.ntmps207 ?_
 have hst0:=(y8 hO).unpack
 refine gf hst0 9 ?_
 refine quo (a:=(p:Int)-1) (b:=2) (e:=((pa p:Nat):Int)) rfl rfl rfl d_ (paN o_) (gQ hst0 5 ?_)
 by_cases j:((p:Int):Int)>(0:Int)
 . skip
   by_cases c:(s6 (fM fQ p) (fM fQ (pa p)):Int)<(0:Int)
   . skip
     refine iX hst0 (fun l d=>?_) (hA:=by refine' gK 9 ?k0;case k0=>refine' gy (fun wq hM=>rv (lX (cf:=gj.cells) (cs:=(Zi ((fM fQ p).ix:Int) ((fM fQ p).key))) rfl yr rfl iw (ye hM (i:=1) rfl f_) (gx om) rfl rfl)) ?k1;case k1=>refine' gK 5 ?k2;case k2=>refine' gy (fun wq hM=>rv (kA (v:=iv) (cf:=gj.cells) (k:=(pa p)) (i:=((pa p:Nat):Int)) rfl rfl yn iw (ye hst0 (i:=1) rfl f_) o_ o_ (gx om))) ?k3;case k3=>refine' gy (fun wq hM=>rv (lX (cf:=gj.cells) (cs:=(Zi ((fM fQ (pa p)).ix:Int) ((fM fQ (pa p)).key))) rfl yr rfl iw (ye hM (i:=1) rfl f_) (gx om) rfl rfl)) ?k4;case k4=>refine' gy (fun wq hM=>rc (i6 rfl sS) (CR.mono (sM (fM fQ p) (fM fQ (pa p)) wq) fun _ _ h=>⟨h.1,hM.grow h.2⟩)) ?k5;case k5=>exact iE)
     refine iP tt none d 10 ?_
     refine gq (v:=(Za ((pa p:Nat):Int))) Tryz.results207 rfl ?_
     exact⟨gG (by unfold qX;rw[if_pos (show 0<p/\iI (fM fQ p) (fM fQ (pa p)) from⟨o_,pG.1 c⟩)]),yq (yc [_,_,_,_] _ d)⟩
   . skip
     refine iX hst0 (fun m f=>?_) (hA:=by refine' gK 9 ?k0;case k0=>refine' gy (fun wq hM=>rv (lX (cf:=gj.cells) (cs:=(Zi ((fM fQ p).ix:Int) ((fM fQ p).key))) rfl yr rfl iw (ye hM (i:=1) rfl f_) (gx om) rfl rfl)) ?k1;case k1=>refine' gK 5 ?k2;case k2=>refine' gy (fun wq hM=>rv (kA (v:=iv) (cf:=gj.cells) (k:=(pa p)) (i:=((pa p:Nat):Int)) rfl rfl yn iw (ye hst0 (i:=1) rfl f_) o_ o_ (gx om))) ?k3;case k3=>refine' gy (fun wq hM=>rv (lX (cf:=gj.cells) (cs:=(Zi ((fM fQ (pa p)).ix:Int) ((fM fQ (pa p)).key))) rfl yr rfl iw (ye hM (i:=1) rfl f_) (gx om) rfl rfl)) ?k4;case k4=>refine' gy (fun wq hM=>rc (i6 rfl sS) (CR.mono (sM (fM fQ p) (fM fQ (pa p)) wq) fun _ _ h=>⟨h.1,hM.grow h.2⟩)) ?k5;case k5=>exact iE)
     refine iP tt none f 10 ?_
     refine gq (v:=Zw) Tryz.results207 rfl ?_
     exact⟨gG (by unfold qX;rw[if_neg (show ¬ (0<p/\iI (fM fQ p) (fM fQ (pa p))) from fun h9=>c (pG.2 h9.2))]),yq (yc [_,_,_,_] _ f)⟩
 . skip
   refine iX hst0 (fun o g=>?_)
   refine iP tt none g 10 ?_
   refine gq (v:=Zw) Tryz.results207 rfl ?_
   exact⟨gG (by unfold qX;rw[if_neg (show ¬ (0<p/\iI (fM fQ p) (fM fQ (pa p))) from fun h9=>j o_)]),yq (yc [_,_,_,_] _ g)⟩
theorem LO(hb n:Nat)(iv pv:Value)(ps:List (Option Nat))(fQ:List gj)(pl:List Nat)(w:World)(hO:Own (Zg hb n iv pv fQ ps pl) w)(hS:Hp n fQ pl)(hP:jr n ps pl)(p:Nat)(hp:p<fQ.length) :
 CR ya 208 (Zn hb p) w (fun r w' => r = .int .i64 (nt fQ p)/\gm (Zg hb n iv pv fQ ps pl) w w' (Zg hb n iv pv fQ ps pl)):=by
 have hnn:=hP.n
 have hln:=hS.len
 refine en Tryz.func208 Tryz.ntmps208 ?_
 have hst0:=(y8 hO).unpack
 refine uJ hst0 18 ?_
 refine sg 3 (ij (gf hst0 20 ?_))
 refine ar (e:=((2*p:Nat):Int)) rfl rfl rfl rfl (by rw[jb o_];omega) (ar (e:=((2*p+1:Nat):Int)) rfl rfl rfl rfl (by rw[jb o_];omega) (fP hst0 1 ?_))
 refine ar (e:=((2*p+1:Nat):Int)) rfl rfl rfl rfl (by rw[jb o_];omega) (gQ hst0 4 ?_)
 by_cases u:(((2*p+1:Nat):Int):Int)<((fQ.length:Int):Int)
 . skip
   by_cases d:(s6 (fM fQ (2*p+1)) (fM fQ p):Int)<(0:Int)
   . skip
     refine iX hst0 (fun D a=>?_) (hA:=by refine' gK 5 ?k0;case k0=>refine' gy (fun wq hM=>rv (qj (v:=iv) rfl yn (ye (cf:=gj.cells) hst0 (i:=1) rfl f_))) ?k1;case k1=>refine' gK 7 ?k2;case k2=>refine' gy (fun wq hM=>rv (kA (v:=iv) (cf:=gj.cells) (k:=(2*p+1)) (i:=((2*p+1:Nat):Int)) rfl rfl yn iw (ye hst0 (i:=1) rfl f_) o_ o_ (gx om))) ?k3;case k3=>refine' gy (fun wq hM=>rv (lX (cf:=gj.cells) (cs:=(Zi ((fM fQ (2*p+1)).ix:Int) ((fM fQ (2*p+1)).key))) rfl yr rfl iw (ye hM (i:=1) rfl f_) (gx om) rfl rfl)) ?k4;case k4=>refine' gK 6 ?k5;case k5=>refine' gy (fun wq hM=>rv (lX (cf:=gj.cells) (cs:=(Zi ((fM fQ p).ix:Int) ((fM fQ p).key))) rfl yr rfl iw (ye hM (i:=1) rfl f_) (gx om) rfl rfl)) ?k6;case k6=>refine' gy (fun wq hM=>rc (i6 rfl sS) (CR.mono (sM (fM fQ (2*p+1)) (fM fQ p) wq) fun _ _ h=>⟨h.1,hM.grow h.2⟩)) ?k7;case k7=>exact iE)
     refine iP tt none a 12 ?_
     refine tN (?_)
     refine ij (gf a 20 ?_)
     refine ar (e:=((2*p:Nat):Int)) rfl rfl rfl rfl (by rw[jb o_];omega) (ar (e:=((2*p+1:Nat):Int)) rfl rfl rfl rfl (by rw[jb o_];omega) (fP a 1 ?_))
     refine ar (e:=((2*p+2:Nat):Int)) rfl rfl rfl rfl (by rw[jb o_];omega) (gQ a 4 ?_)
     by_cases A:(((2*p+2:Nat):Int):Int)<((fQ.length:Int):Int)
     . skip
       by_cases x:(s6 (fM fQ (2*p+2)) (fM fQ (2*p+1)):Int)<(0:Int)
       . skip
         refine iX a (fun E f=>?_) (hA:=by refine' gK 5 ?k0;case k0=>refine' gy (fun wq hM=>rv (qj (v:=iv) rfl yn (ye (cf:=gj.cells) a (i:=1) rfl f_))) ?k1;case k1=>refine' gK 7 ?k2;case k2=>refine' gy (fun wq hM=>rv (kA (v:=iv) (cf:=gj.cells) (k:=(2*p+2)) (i:=((2*p+2:Nat):Int)) rfl rfl yn iw (ye a (i:=1) rfl f_) o_ o_ (gx om))) ?k3;case k3=>refine' gy (fun wq hM=>rv (lX (cf:=gj.cells) (cs:=(Zi ((fM fQ (2*p+2)).ix:Int) ((fM fQ (2*p+2)).key))) rfl yr rfl iw (ye hM (i:=1) rfl f_) (gx om) rfl rfl)) ?k4;case k4=>refine' gK 5 ?k5;case k5=>refine' gy (fun wq hM=>rv (kA (v:=iv) (cf:=gj.cells) (k:=(2*p+1)) (i:=((2*p+1:Nat):Int)) rfl rfl yn iw (ye a (i:=1) rfl f_) o_ o_ (gx om))) ?k6;case k6=>refine' gy (fun wq hM=>rv (lX (cf:=gj.cells) (cs:=(Zi ((fM fQ (2*p+1)).ix:Int) ((fM fQ (2*p+1)).key))) rfl yr rfl iw (ye hM (i:=1) rfl f_) (gx om) rfl rfl)) ?k7;case k7=>refine' gy (fun wq hM=>rc (i6 rfl sS) (CR.mono (sM (fM fQ (2*p+2)) (fM fQ (2*p+1)) wq) fun _ _ h=>⟨h.1,hM.grow h.2⟩)) ?k8;case k8=>exact iE)
         refine iP tt none f 12 ?_
         refine tN (?_)
         refine ij (gf f 17 ?_)
         by_cases G:(((2*p+2:Nat):Int):Int)=((p:Int):Int)
         . refine fW f 11 ?_
           refine gq (v:=Zw) pX rfl ?_
           exact(show False by omega).elim
         . refine fW f 13 ?_
           refine gq (v:=(Za ((2*p+2:Nat):Int))) pX rfl ?_
           exact⟨gG (by unfold nt jk;simp only;rw[if_pos (show 2*p+1<fQ.length/\iI (fM fQ (2*p+1)) (fM fQ p) from⟨o_,pG.1 d⟩),if_pos (show 2*p+2<fQ.length/\iI (fM fQ (2*p+2)) (fM fQ (2*p+1)) from⟨o_,pG.1 x⟩),if_neg o_]),yq (yc [_,_,_,_] _ f)⟩
       . skip
         refine iX a (fun H g=>?_) (hA:=by refine' gK 5 ?k0;case k0=>refine' gy (fun wq hM=>rv (qj (v:=iv) rfl yn (ye (cf:=gj.cells) a (i:=1) rfl f_))) ?k1;case k1=>refine' gK 7 ?k2;case k2=>refine' gy (fun wq hM=>rv (kA (v:=iv) (cf:=gj.cells) (k:=(2*p+2)) (i:=((2*p+2:Nat):Int)) rfl rfl yn iw (ye a (i:=1) rfl f_) o_ o_ (gx om))) ?k3;case k3=>refine' gy (fun wq hM=>rv (lX (cf:=gj.cells) (cs:=(Zi ((fM fQ (2*p+2)).ix:Int) ((fM fQ (2*p+2)).key))) rfl yr rfl iw (ye hM (i:=1) rfl f_) (gx om) rfl rfl)) ?k4;case k4=>refine' gK 5 ?k5;case k5=>refine' gy (fun wq hM=>rv (kA (v:=iv) (cf:=gj.cells) (k:=(2*p+1)) (i:=((2*p+1:Nat):Int)) rfl rfl yn iw (ye a (i:=1) rfl f_) o_ o_ (gx om))) ?k6;case k6=>refine' gy (fun wq hM=>rv (lX (cf:=gj.cells) (cs:=(Zi ((fM fQ (2*p+1)).ix:Int) ((fM fQ (2*p+1)).key))) rfl yr rfl iw (ye hM (i:=1) rfl f_) (gx om) rfl rfl)) ?k7;case k7=>refine' gy (fun wq hM=>rc (i6 rfl sS) (CR.mono (sM (fM fQ (2*p+2)) (fM fQ (2*p+1)) wq) fun _ _ h=>⟨h.1,hM.grow h.2⟩)) ?k8;case k8=>exact iE)
         refine iP tt none g 9 ?_
         refine tN (?_)
         refine ij (gf g 17 ?_)
         by_cases I:(((2*p+1:Nat):Int):Int)=((p:Int):Int)
         . refine fW g 11 ?_
           refine gq (v:=Zw) pX rfl ?_
           exact(show False by omega).elim
         . refine fW g 13 ?_
           refine gq (v:=(Za ((2*p+1:Nat):Int))) pX rfl ?_
           exact⟨gG (by unfold nt jk;simp only;rw[if_pos (show 2*p+1<fQ.length/\iI (fM fQ (2*p+1)) (fM fQ p) from⟨o_,pG.1 d⟩),if_neg (show ¬ (2*p+2<fQ.length/\iI (fM fQ (2*p+2)) (fM fQ (2*p+1))) from fun h9=>x (pG.2 h9.2)),if_neg o_]),yq (yc [_,_,_,_] _ g)⟩
     . skip
       refine iX a (fun J j=>?_) (hA:=by refine' gK 5 ?k0;case k0=>refine' gy (fun wq hM=>rv (qj (v:=iv) rfl yn (ye (cf:=gj.cells) a (i:=1) rfl f_))) ?k1;case k1=>exact iE)
       refine iP tt none j 9 ?_
       refine tN (?_)
       refine ij (gf j 17 ?_)
       by_cases K:(((2*p+1:Nat):Int):Int)=((p:Int):Int)
       . refine fW j 11 ?_
         refine gq (v:=Zw) pX rfl ?_
         exact(show False by omega).elim
       . refine fW j 13 ?_
         refine gq (v:=(Za ((2*p+1:Nat):Int))) pX rfl ?_
         exact⟨gG (by unfold nt jk;simp only;rw[if_pos (show 2*p+1<fQ.length/\iI (fM fQ (2*p+1)) (fM fQ p) from⟨o_,pG.1 d⟩),if_neg (show ¬ (2*p+2<fQ.length/\iI (fM fQ (2*p+2)) (fM fQ (2*p+1))) from fun h9=>A o_),if_neg o_]),yq (yc [_,_,_,_] _ j)⟩
   . skip
     refine iX hst0 (fun L b=>?_) (hA:=by refine' gK 5 ?k0;case k0=>refine' gy (fun wq hM=>rv (qj (v:=iv) rfl yn (ye (cf:=gj.cells) hst0 (i:=1) rfl f_))) ?k1;case k1=>refine' gK 7 ?k2;case k2=>refine' gy (fun wq hM=>rv (kA (v:=iv) (cf:=gj.cells) (k:=(2*p+1)) (i:=((2*p+1:Nat):Int)) rfl rfl yn iw (ye hst0 (i:=1) rfl f_) o_ o_ (gx om))) ?k3;case k3=>refine' gy (fun wq hM=>rv (lX (cf:=gj.cells) (cs:=(Zi ((fM fQ (2*p+1)).ix:Int) ((fM fQ (2*p+1)).key))) rfl yr rfl iw (ye hM (i:=1) rfl f_) (gx om) rfl rfl)) ?k4;case k4=>refine' gK 6 ?k5;case k5=>refine' gy (fun wq hM=>rv (lX (cf:=gj.cells) (cs:=(Zi ((fM fQ p).ix:Int) ((fM fQ p).key))) rfl yr rfl iw (ye hM (i:=1) rfl f_) (gx om) rfl rfl)) ?k6;case k6=>refine' gy (fun wq hM=>rc (i6 rfl sS) (CR.mono (sM (fM fQ (2*p+1)) (fM fQ p) wq) fun _ _ h=>⟨h.1,hM.grow h.2⟩)) ?k7;case k7=>exact iE)
     refine iP tt none b 9 ?_
     refine tN (?_)
     refine ij (gf b 20 ?_)
     refine ar (e:=((2*p:Nat):Int)) rfl rfl rfl rfl (by rw[jb o_];omega) (ar (e:=((2*p+1:Nat):Int)) rfl rfl rfl rfl (by rw[jb o_];omega) (fP b 1 ?_))
     refine ar (e:=((2*p+2:Nat):Int)) rfl rfl rfl rfl (by rw[jb o_];omega) (gQ b 4 ?_)
     by_cases B:(((2*p+2:Nat):Int):Int)<((fQ.length:Int):Int)
     . skip
       by_cases y:(s6 (fM fQ (2*p+2)) (fM fQ p):Int)<(0:Int)
       . skip
         refine iX b (fun M l=>?_) (hA:=by refine' gK 5 ?k0;case k0=>refine' gy (fun wq hM=>rv (qj (v:=iv) rfl yn (ye (cf:=gj.cells) b (i:=1) rfl f_))) ?k1;case k1=>refine' gK 7 ?k2;case k2=>refine' gy (fun wq hM=>rv (kA (v:=iv) (cf:=gj.cells) (k:=(2*p+2)) (i:=((2*p+2:Nat):Int)) rfl rfl yn iw (ye b (i:=1) rfl f_) o_ o_ (gx om))) ?k3;case k3=>refine' gy (fun wq hM=>rv (lX (cf:=gj.cells) (cs:=(Zi ((fM fQ (2*p+2)).ix:Int) ((fM fQ (2*p+2)).key))) rfl yr rfl iw (ye hM (i:=1) rfl f_) (gx om) rfl rfl)) ?k4;case k4=>refine' gK 6 ?k5;case k5=>refine' gy (fun wq hM=>rv (lX (cf:=gj.cells) (cs:=(Zi ((fM fQ p).ix:Int) ((fM fQ p).key))) rfl yr rfl iw (ye hM (i:=1) rfl f_) (gx om) rfl rfl)) ?k6;case k6=>refine' gy (fun wq hM=>rc (i6 rfl sS) (CR.mono (sM (fM fQ (2*p+2)) (fM fQ p) wq) fun _ _ h=>⟨h.1,hM.grow h.2⟩)) ?k7;case k7=>exact iE)
         refine iP tt none l 12 ?_
         refine tN (?_)
         refine ij (gf l 17 ?_)
         by_cases N:(((2*p+2:Nat):Int):Int)=((p:Int):Int)
         . refine fW l 11 ?_
           refine gq (v:=Zw) pX rfl ?_
           exact(show False by omega).elim
         . refine fW l 13 ?_
           refine gq (v:=(Za ((2*p+2:Nat):Int))) pX rfl ?_
           exact⟨gG (by unfold nt jk;simp only;rw[if_neg (show ¬ (2*p+1<fQ.length/\iI (fM fQ (2*p+1)) (fM fQ p)) from fun h9=>d (pG.2 h9.2)),if_pos (show 2*p+2<fQ.length/\iI (fM fQ (2*p+2)) (fM fQ p) from⟨o_,pG.1 y⟩),if_neg o_]),yq (yc [_,_,_,_] _ l)⟩
       . skip
         refine iX b (fun O o=>?_) (hA:=by refine' gK 5 ?k0;case k0=>refine' gy (fun wq hM=>rv (qj (v:=iv) rfl yn (ye (cf:=gj.cells) b (i:=1) rfl f_))) ?k1;case k1=>refine' gK 7 ?k2;case k2=>refine' gy (fun wq hM=>rv (kA (v:=iv) (cf:=gj.cells) (k:=(2*p+2)) (i:=((2*p+2:Nat):Int)) rfl rfl yn iw (ye b (i:=1) rfl f_) o_ o_ (gx om))) ?k3;case k3=>refine' gy (fun wq hM=>rv (lX (cf:=gj.cells) (cs:=(Zi ((fM fQ (2*p+2)).ix:Int) ((fM fQ (2*p+2)).key))) rfl yr rfl iw (ye hM (i:=1) rfl f_) (gx om) rfl rfl)) ?k4;case k4=>refine' gK 6 ?k5;case k5=>refine' gy (fun wq hM=>rv (lX (cf:=gj.cells) (cs:=(Zi ((fM fQ p).ix:Int) ((fM fQ p).key))) rfl yr rfl iw (ye hM (i:=1) rfl f_) (gx om) rfl rfl)) ?k6;case k6=>refine' gy (fun wq hM=>rc (i6 rfl sS) (CR.mono (sM (fM fQ (2*p+2)) (fM fQ p) wq) fun _ _ h=>⟨h.1,hM.grow h.2⟩)) ?k7;case k7=>exact iE)
         refine iP tt none o 9 ?_
         refine tN (?_)
         refine ij (gf o 17 ?_)
         refine cmp rfl rfl rfl (s5 rfl) (fW o 10 ?_)
         refine gq (v:=Zw) pX rfl ?_
         exact⟨gG (by unfold nt jk;simp only;rw[if_neg (show ¬ (2*p+1<fQ.length/\iI (fM fQ (2*p+1)) (fM fQ p)) from fun h9=>d (pG.2 h9.2)),if_neg (show ¬ (2*p+2<fQ.length/\iI (fM fQ (2*p+2)) (fM fQ p)) from fun h9=>y (pG.2 h9.2)),if_pos rfl]),yq (yc [_,_,_,_] _ o)⟩
     . skip
       refine iX b (fun P q=>?_) (hA:=by refine' gK 5 ?k0;case k0=>refine' gy (fun wq hM=>rv (qj (v:=iv) rfl yn (ye (cf:=gj.cells) b (i:=1) rfl f_))) ?k1;case k1=>exact iE)
       refine iP tt none q 9 ?_
       refine tN (?_)
       refine ij (gf q 17 ?_)
       refine cmp rfl rfl rfl (s5 rfl) (fW q 10 ?_)
       refine gq (v:=Zw) pX rfl ?_
       exact⟨gG (by unfold nt jk;simp only;rw[if_neg (show ¬ (2*p+1<fQ.length/\iI (fM fQ (2*p+1)) (fM fQ p)) from fun h9=>d (pG.2 h9.2)),if_neg (show ¬ (2*p+2<fQ.length/\iI (fM fQ (2*p+2)) (fM fQ p)) from fun h9=>B o_),if_pos rfl]),yq (yc [_,_,_,_] _ q)⟩
 . skip
   refine iX hst0 (fun Q c=>?_) (hA:=by refine' gK 5 ?k0;case k0=>refine' gy (fun wq hM=>rv (qj (v:=iv) rfl yn (ye (cf:=gj.cells) hst0 (i:=1) rfl f_))) ?k1;case k1=>exact iE)
   refine iP tt none c 9 ?_
   refine tN (?_)
   refine ij (gf c 20 ?_)
   refine ar (e:=((2*p:Nat):Int)) rfl rfl rfl rfl (by rw[jb o_];omega) (ar (e:=((2*p+1:Nat):Int)) rfl rfl rfl rfl (by rw[jb o_];omega) (fP c 1 ?_))
   refine ar (e:=((2*p+2:Nat):Int)) rfl rfl rfl rfl (by rw[jb o_];omega) (gQ c 4 ?_)
   by_cases C:(((2*p+2:Nat):Int):Int)<((fQ.length:Int):Int)
   . skip
     by_cases z:(s6 (fM fQ (2*p+2)) (fM fQ p):Int)<(0:Int)
     . skip
       refine iX c (fun R m=>?_) (hA:=by refine' gK 5 ?k0;case k0=>refine' gy (fun wq hM=>rv (qj (v:=iv) rfl yn (ye (cf:=gj.cells) c (i:=1) rfl f_))) ?k1;case k1=>refine' gK 7 ?k2;case k2=>refine' gy (fun wq hM=>rv (kA (v:=iv) (cf:=gj.cells) (k:=(2*p+2)) (i:=((2*p+2:Nat):Int)) rfl rfl yn iw (ye c (i:=1) rfl f_) o_ o_ (gx om))) ?k3;case k3=>refine' gy (fun wq hM=>rv (lX (cf:=gj.cells) (cs:=(Zi ((fM fQ (2*p+2)).ix:Int) ((fM fQ (2*p+2)).key))) rfl yr rfl iw (ye hM (i:=1) rfl f_) (gx om) rfl rfl)) ?k4;case k4=>refine' gK 6 ?k5;case k5=>refine' gy (fun wq hM=>rv (lX (cf:=gj.cells) (cs:=(Zi ((fM fQ p).ix:Int) ((fM fQ p).key))) rfl yr rfl iw (ye hM (i:=1) rfl f_) (gx om) rfl rfl)) ?k6;case k6=>refine' gy (fun wq hM=>rc (i6 rfl sS) (CR.mono (sM (fM fQ (2*p+2)) (fM fQ p) wq) fun _ _ h=>⟨h.1,hM.grow h.2⟩)) ?k7;case k7=>exact iE)
       refine iP tt none m 12 ?_
       refine tN (?_)
       refine ij (gf m 17 ?_)
       by_cases S:(((2*p+2:Nat):Int):Int)=((p:Int):Int)
       . refine fW m 11 ?_
         refine gq (v:=Zw) pX rfl ?_
         exact(show False by omega).elim
       . refine fW m 13 ?_
         refine gq (v:=(Za ((2*p+2:Nat):Int))) pX rfl ?_
         exact⟨gG (by unfold nt jk;simp only;rw[if_neg (show ¬ (2*p+1<fQ.length/\iI (fM fQ (2*p+1)) (fM fQ p)) from fun h9=>u o_),if_pos (show 2*p+2<fQ.length/\iI (fM fQ (2*p+2)) (fM fQ p) from⟨o_,pG.1 z⟩),if_neg o_]),yq (yc [_,_,_,_] _ m)⟩
     . skip
       refine iX c (fun U s=>?_) (hA:=by refine' gK 5 ?k0;case k0=>refine' gy (fun wq hM=>rv (qj (v:=iv) rfl yn (ye (cf:=gj.cells) c (i:=1) rfl f_))) ?k1;case k1=>refine' gK 7 ?k2;case k2=>refine' gy (fun wq hM=>rv (kA (v:=iv) (cf:=gj.cells) (k:=(2*p+2)) (i:=((2*p+2:Nat):Int)) rfl rfl yn iw (ye c (i:=1) rfl f_) o_ o_ (gx om))) ?k3;case k3=>refine' gy (fun wq hM=>rv (lX (cf:=gj.cells) (cs:=(Zi ((fM fQ (2*p+2)).ix:Int) ((fM fQ (2*p+2)).key))) rfl yr rfl iw (ye hM (i:=1) rfl f_) (gx om) rfl rfl)) ?k4;case k4=>refine' gK 6 ?k5;case k5=>refine' gy (fun wq hM=>rv (lX (cf:=gj.cells) (cs:=(Zi ((fM fQ p).ix:Int) ((fM fQ p).key))) rfl yr rfl iw (ye hM (i:=1) rfl f_) (gx om) rfl rfl)) ?k6;case k6=>refine' gy (fun wq hM=>rc (i6 rfl sS) (CR.mono (sM (fM fQ (2*p+2)) (fM fQ p) wq) fun _ _ h=>⟨h.1,hM.grow h.2⟩)) ?k7;case k7=>exact iE)
       refine iP tt none s 9 ?_
       refine tN (?_)
       refine ij (gf s 17 ?_)
       refine cmp rfl rfl rfl (s5 rfl) (fW s 10 ?_)
       refine gq (v:=Zw) pX rfl ?_
       exact⟨gG (by unfold nt jk;simp only;rw[if_neg (show ¬ (2*p+1<fQ.length/\iI (fM fQ (2*p+1)) (fM fQ p)) from fun h9=>u o_),if_neg (show ¬ (2*p+2<fQ.length/\iI (fM fQ (2*p+2)) (fM fQ p)) from fun h9=>z (pG.2 h9.2)),if_pos rfl]),yq (yc [_,_,_,_] _ s)⟩
   . skip
     refine iX c (fun V t=>?_) (hA:=by refine' gK 5 ?k0;case k0=>refine' gy (fun wq hM=>rv (qj (v:=iv) rfl yn (ye (cf:=gj.cells) c (i:=1) rfl f_))) ?k1;case k1=>exact iE)
     refine iP tt none t 9 ?_
     refine tN (?_)
     refine ij (gf t 17 ?_)
     refine cmp rfl rfl rfl (s5 rfl) (fW t 10 ?_)
     refine gq (v:=Zw) pX rfl ?_
     exact⟨gG (by unfold nt jk;simp only;rw[if_neg (show ¬ (2*p+1<fQ.length/\iI (fM fQ (2*p+1)) (fM fQ p)) from fun h9=>u o_),if_neg (show ¬ (2*p+2<fQ.length/\iI (fM fQ (2*p+2)) (fM fQ p)) from fun h9=>C o_),if_pos rfl]),yq (yc [_,_,_,_] _ t)⟩
end
section
open Go Go.Sx
theorem VE(pb xb hb n:Nat)(iv pv:Value)(ps:List (Option Nat))(fQ:List gj)(pl:List Nat)(p:Nat)(w:World)(hO:Own (wg pb p xb hb n iv pv fQ ps pl) w)(hS:Hp n fQ pl)(hP:jr n ps pl)(hp:p<fQ.length)(hA:tj fQ p) :
 CR ya 206 #[(Qa hb),(Zb pb),(Zb xb)] w (fun r w' => r = .tuple #[]/\∃ (p2:Nat),∃ qs ys zl,l5 n fQ ys ps qs zl/\p2<ys.length/\uN ys p2/\gm (wg pb p xb hb n iv pv fQ ps pl) w w' (wg pb p2 xb hb n iv pv ys qs zl)):=by
 refine en Tryz.func206 Tryz.ntmps206 ?_
 have hst0:=(y8 hO).unpack
 have hsm0:=l5.refl hS hP
 have j:=yi [2,3,4,5,0,1] hst0
 have b:=yc [_,_,_,_] _ j
 refine gf hst0 4 ?_
 refine qa (fi:=(Zj hb)) (ca:=[]) rfl rfl rfl N6 (LB hb n iv pv ps fQ pl w (yd b (i:=0) rfl) hsm0.hp hsm0.kr p (by first|omega|(rw[mw];omega))) ?_
 rintro _ y ⟨rfl,ht⟩
 have c:=(yp b ht)
 have k:=yi [4,5,0,1,2,3] c
 refine gQ c 4 ?_
 refine lp (α:=List gj×List (Option Nat)×List Nat×Nat×Int) (fun(ys,qs,zl,p2,q)=>[(0,(Qa hb)),(1,(Zb pb)),(2,(Zb xb)),(4,(Za q))]) (fun(ys,qs,zl,p2,q) w1=>St [(w,(wg pb p xb hb n iv pv fQ ps pl).gR)] (J7 pb p2 xb hb n iv pv ys qs zl) w1/\l5 n fQ ys ps qs zl/\p2<ys.length/\tj ys p2/\q=qX ys p2) (fun(ys,qs,zl,p2,q)=>p2) (fQ,ps,pl,p,(qX fQ p)) ⟨rfl,rfl,rfl,gG (by first|rfl|omega),trivial⟩ (⟨k,hsm0,hp,hA,rfl⟩) ?_
 rintro⟨ys,qs,zl,p2,q⟩ z l ⟨hst3,hsm,hp2,hAt,hq⟩
 refine gf hst3 4 ?_
 by_cases d:(q:Int)=(-1:Int)
 . have hstop:=hAt.stop (RK (hq.symm.trans d))
   refine fW hst3 8 ?_
   refine jx Tryz.results206 ?_
   exact⟨rfl,p2,qs,ys,zl,hsm,hp2,hstop,yq (yc [_,_,_,_,_,_] _ hst3)⟩
 . have hgo:=Tm (fun h9=>@d (hq.trans h9))
   refine fP hst3 1 ?_
   obtain rfl:q=((pa p2:Nat):Int):=hq.trans hgo.1
   have h0p:=hgo.2.1
   have hpq:pa p2<ys.length:=by simp only[pa];omega
   have m:=yi [2,3,4,5,0,1] hst3
   have e:=yc [_,_,_,_] _ m
   refine fP hst3 12 ?_
   refine cl IJ (Ht hb n iv pv qs ys zl l (yd e (i:=0) rfl) hsm.hp hsm.kr p2 (pa p2) o_ o_) ?_
   rintro _ A ⟨rfl,f,o,s,ht⟩
   have t:=(yp e ht)
   have a:=hsm.swap (p:=p2) (q:=(pa p2)) o_ o_ o s
   refine kT t 11 fun u v=>?_
   have g:=yc [_,_,_,_] _ v
   refine qa (fi:=(Zj hb)) (ca:=[]) rfl rfl rfl N6 (LB hb n iv pv f (iC ys p2 (pa p2)) (iT (iT zl (fM (iC ys p2 (pa p2)) p2).ix (p2+1)) (fM (iC ys p2 (pa p2)) (pa p2)).ix ((pa p2)+1)) u (yd g (i:=0) rfl) a.hp a.kr (pa p2) (by first|omega|(rw[mw];omega))) ?_
   rintro _ B ⟨rfl,ht⟩
   have h:=(yp g ht)
   refine fW h 2 ?_
   refine tN (?_)
   have x:=yi [4,5,0,1,2,3] h
   exact again (iC ys p2 (pa p2),f,iT (iT zl (fM (iC ys p2 (pa p2)) p2).ix (p2+1)) (fM (iC ys p2 (pa p2)) (pa p2)).ix ((pa p2)+1),(pa p2),qX (iC ys p2 (pa p2)) (pa p2)) ⟨rfl,rfl,rfl,gG (by first|rfl|omega),trivial⟩ (⟨x,a,by rw[mw];omega,hAt.up h0p hp2 hgo.2.2,rfl⟩) (by show pa p2<p2;simp only[pa];omega)
theorem UC(pb xb hb n:Nat)(iv pv:Value)(ps:List (Option Nat))(fQ:List gj)(pl:List Nat)(p:Nat)(w:World)(hO:Own (wg pb p xb hb n iv pv fQ ps pl) w)(hS:Hp n fQ pl)(hP:jr n ps pl)(hp:p<fQ.length)(hA:uN fQ p) :
 CR ya 206 #[(Qg hb),(Zb pb),(Zb xb)] w (fun r w' => r = .tuple #[]/\∃ (p2:Nat),∃ qs ys zl,l5 n fQ ys ps qs zl/\p2<ys.length/\Ord ys/\gm (wg pb p xb hb n iv pv fQ ps pl) w w' (wg pb p2 xb hb n iv pv ys qs zl)):=by
 refine en Tryz.func206 Tryz.ntmps206 ?_
 have hst0:=(y8 hO).unpack
 have hsm0:=l5.refl hS hP
 have j:=yi [2,3,4,5,0,1] hst0
 have b:=yc [_,_,_,_] _ j
 refine gf hst0 4 ?_
 refine qa (fi:=(Zj hb)) (ca:=[]) rfl rfl rfl NR (LO hb n iv pv ps fQ pl w (yd b (i:=0) rfl) hsm0.hp hsm0.kr p (by first|omega|(rw[mw];omega))) ?_
 rintro _ y ⟨rfl,ht⟩
 have c:=(yp b ht)
 have k:=yi [4,5,0,1,2,3] c
 refine gQ c 4 ?_
 refine lp (α:=List gj×List (Option Nat)×List Nat×Nat×Int) (fun(ys,qs,zl,p2,q)=>[(0,(Qg hb)),(1,(Zb pb)),(2,(Zb xb)),(4,(Za q))]) (fun(ys,qs,zl,p2,q) w1=>St [(w,(wg pb p xb hb n iv pv fQ ps pl).gR)] (J7 pb p2 xb hb n iv pv ys qs zl) w1/\l5 n fQ ys ps qs zl/\p2<ys.length/\uN ys p2/\q=nt ys p2) (fun(ys,qs,zl,p2,q)=>ys.length-p2) (fQ,ps,pl,p,(nt fQ p)) ⟨rfl,rfl,rfl,gG (by first|rfl|omega),trivial⟩ (⟨k,hsm0,hp,hA,rfl⟩) ?_
 rintro⟨ys,qs,zl,p2,q⟩ z l ⟨hst3,hsm,hp2,hAt,hq⟩
 refine gf hst3 4 ?_
 by_cases d:(q:Int)=(-1:Int)
 . have hstop:=hAt.stop (R1 (hq.symm.trans d))
   refine fW hst3 8 ?_
   refine jx Tryz.results206 ?_
   exact⟨rfl,p2,qs,ys,zl,hsm,hp2,hstop,yq (yc [_,_,_,_,_,_] _ hst3)⟩
 . have hgo:=Ui (fun h9=>@d (hq.trans h9))
   refine fP hst3 1 ?_
   obtain rfl:q=((jk ys p2:Nat):Int):=hq.trans hgo.1
   have hbg:=MV hgo.2
   have hpq:=hbg.1
   have m:=yi [2,3,4,5,0,1] hst3
   have e:=yc [_,_,_,_] _ m
   refine fP hst3 12 ?_
   refine cl IJ (Ht hb n iv pv qs ys zl l (yd e (i:=0) rfl) hsm.hp hsm.kr p2 (jk ys p2) o_ o_) ?_
   rintro _ A ⟨rfl,f,o,s,ht⟩
   have t:=(yp e ht)
   have a:=hsm.swap (p:=p2) (q:=(jk ys p2)) o_ o_ o s
   refine kT t 11 fun u v=>?_
   have g:=yc [_,_,_,_] _ v
   refine qa (fi:=(Zj hb)) (ca:=[]) rfl rfl rfl NR (LO hb n iv pv f (iC ys p2 (jk ys p2)) (iT (iT zl (fM (iC ys p2 (jk ys p2)) p2).ix (p2+1)) (fM (iC ys p2 (jk ys p2)) (jk ys p2)).ix ((jk ys p2)+1)) u (yd g (i:=0) rfl) a.hp a.kr (jk ys p2) (by first|omega|(rw[mw];omega))) ?_
   rintro _ B ⟨rfl,ht⟩
   have h:=(yp g ht)
   refine fW h 2 ?_
   refine tN (?_)
   have x:=yi [4,5,0,1,2,3] h
   exact again (iC ys p2 (jk ys p2),f,iT (iT zl (fM (iC ys p2 (jk ys p2)) p2).ix (p2+1)) (fM (iC ys p2 (jk ys p2)) (jk ys p2)).ix ((jk ys p2)+1),(jk ys p2),nt (iC ys p2 (jk ys p2)) (jk ys p2)) ⟨rfl,rfl,rfl,gG (by first|rfl|omega),trivial⟩ (⟨x,a,by rw[mw];omega,hAt.down rfl hgo.2,rfl⟩) (by show (iC ys p2 (jk ys p2)).length-jk ys p2<ys.length-p2;rw[mw];omega)
theorem Me(hb n:Nat)(iv pv:Value)(ps:List (Option Nat))(fQ:List gj)(pl:List Nat)(w:World)(hO:Own (Zg hb n iv pv fQ ps pl) w)(hS:Hp n fQ pl)(hP:jr n ps pl)(p:Nat)(hp:p<fQ.length)(hA:tj fQ p) :
 CR ya 159 (Zn hb p) w (fun r w' => r = .tuple #[]/\∃ qs ys zl,l5 n fQ ys ps qs zl/\Ord ys/\gm (Zg hb n iv pv fQ ps pl) w w' (Zg hb n iv pv ys qs zl)):=by
 refine en Tryz.func159 Tryz.ntmps159 ?_
 have hst0:=(y8 hO).unpack
 have hsm0:=l5.refl hS hP
 refine gf hst0 2 ?_
 refine bx (v:=(Zb hb)) (cs:=(Zj hb)) rfl rfl rfl hst0 (fun a E G H j=>bx (v:=(Za p)) (cs:=(Ze p)) rfl rfl rfl j (fun b k I J c=>fP c 4 ?_))
 refine yB (vf:=[]) (vc:=(xO b a)) rfl rfl rfl (fP c 7 ?_)
 refine yB (vf:=(Zj hb)) (vc:=[]) rfl rfl rfl ?_
 have e:=yc [_,_,_,_,_,_] _ c
 refine qa (fi:=[]) (ca:=(xO b a)) rfl rfl rfl NV (VE b a hb n iv pv ps fQ pl p k (yd e (i:=0) rfl) hsm0.hp hsm0.kr (by first|assumption|omega) hA) ?_
 rintro _ l ⟨rfl,m,o,q,s,t,K,u,ht⟩
 have f:=(yp e ht)
 have d:=hsm0.trans t
 refine fP f 5 ?_
 refine yB (vf:=(Zj hb)) (vc:=[]) rfl rfl rfl ?_
 have g:=yc [_,_,_,_,_,_] _ f
 refine qa (fi:=[]) (ca:=(xO b a)) rfl rfl rfl NV (UC b a hb n iv pv o q s m l (yd g (i:=0) rfl) d.hp d.kr (by first|assumption|omega) u) ?_
 rintro _ L ⟨rfl,M,x,y,z,A,N,B,ht⟩
 have h:=(yp g ht)
 have C:=d.trans A
 refine fW h 1 ?_
 refine jx Tryz.results159 ?_
 have D:=yi [2,3,4,5,0,1] h
 exact⟨rfl,x,y,z,C,B,yq (yc [_,_,_,_] _ D)⟩
end
section
open Go Go.Sx
theorem Tk(hb n:Nat)(iv pv:Value)(ps:List (Option Nat))(fQ:List gj)(pl:List Nat)(w:World)(hO:Own (Zg hb n iv pv fQ ps pl) w)(hS:Hp n fQ pl)(hP:jr n ps pl)(i:Nat)(hi:i<n)(h0:fM pl i=0) :
 CR ya 158 (Zn hb i) w (fun r w' => r = .tuple #[.int .i64 0,.int .i64 5]/\gm (Zg hb n iv pv fQ ps pl) w w' (Zg hb n iv pv fQ ps pl)):=by
 have hnn:=hP.n
 have hln:=hS.len
 have hvi:=hP.val i
 refine en Tryz.func158 Tryz.ntmps158 ?_
 have hst0:=(y8 hO).unpack
 have a:=yc [_,_,_,_] _ hst0
 refine gf hst0 11 ?_
 refine cl zK (yR hb n iv pv ps fQ pl w (yd a (i:=0) rfl)) ?_
 rintro _ g ⟨rfl,ht⟩
 have b:=(yp a ht)
 have c:=yc [_,_,_,_] _ b
 refine fP b 9 ?_
 refine cl IQ (HW hb n iv pv ps fQ pl g (yd c (i:=0) rfl) i o_) ?_
 rintro _ h ⟨rfl,ht⟩
 have d:=(yp c ht)
 have e:=yc [_,_,_,_] _ d
 refine fP d 9 ?_
 refine cl IE (He hb n iv pv ps fQ pl h (yd e (i:=0) rfl) hP i o_) ?_
 rintro _ j ⟨rfl,ht⟩
 have f:=(yp e ht)
 refine cmp rfl rfl rfl (s5 o_) (fW f 13 ?_)
 refine jP (v:=Zc) (v' := wo) Tryz.results158 rfl rfl ?_
 exact⟨rfl,yq (yc [_,_,_,_] _ f)⟩
theorem Vk(hb n:Nat)(iv pv:Value)(ps:List (Option Nat))(fQ:List gj)(pl:List Nat)(w:World)(hO:Own (Zg hb n iv pv fQ ps pl) w)(hS:Hp n fQ pl)(hP:jr n ps pl)(i:Nat)(hi:i<n)(h0:fM pl i=0) :
 CR ya 157 (Zn hb i) w (fun r w' => r = .tuple Kw/\gm (Zg hb n iv pv fQ ps pl) w w' (Zg hb n iv pv fQ ps pl)):=by
 have hnn:=hP.n
 have hln:=hS.len
 have hvi:=hP.val i
 refine en Tryz.func157 Tryz.ntmps157 ?_
 have hst0:=(y8 hO).unpack
 have a:=yc [_,_,_,_] _ hst0
 refine gf hst0 10 ?_
 refine cl X3 (Tk hb n iv pv ps fQ pl w (yd a (i:=0) rfl) hS hP i hi h0) ?_
 rintro _ c ⟨rfl,ht⟩
 have b:=(yp a ht)
 refine fW b 23 ?_
 refine jP (v:=Zc) (v' := Zq) Tryz.results157 rfl rfl ?_
 exact⟨rfl,yq (yc [_,_,_,_] _ b)⟩
theorem MJ(hb n:Nat)(iv pv:Value)(ps:List (Option Nat))(fQ:List gj)(pl:List Nat)(w:World)(hO:Own (Zg hb n iv pv fQ ps pl) w)(hS:Hp n fQ pl)(hP:jr n ps pl)(hOr:Ord fQ)(i:Nat)(hi:i<n)(h0:fM pl i=0)(key:Int)(hk:ir .i64 key) :
 CR ya 110 (Z2 hb i key) w (fun r w' => r = .int .i64 0/\∃ jv qs ys zl,Hp n ys zl/\jr n qs zl/\Ord ys/\(∀ e,e∈ys↔e∈fQ\/e=⟨i,key⟩)/\qs.length=ps.length/\ys.length=fQ.length+1/\gm (Zg hb n iv pv fQ ps pl) w w' (Zg hb n jv pv ys qs zl)):=by
 have hnn:=hP.n
 have hln:=hS.len
 have hvi:=hP.val i
 have hS9:=hS.push hi h0 hk
 have hlen1:fQ.length+1<=n:=by have h7:=hS9.len;simpa using h7
 refine en Tryz.func110 Tryz.ntmps110 ?_
 have hst0:=(y8 hO).unpack
 have f:=yc [_,_,_,_] _ hst0
 refine gf hst0 10 ?_
 refine cl zK (yR hb n iv pv ps fQ pl w (yd f (i:=0) rfl)) ?_
 rintro _ u ⟨rfl,ht⟩
 have g:=(yp f ht)
 have h:=yc [_,_,_,_] _ g
 refine fP g 9 ?_
 refine cl IQ (HW hb n iv pv ps fQ pl u (yd h (i:=0) rfl) i o_) ?_
 rintro _ y ⟨rfl,ht⟩
 have j:=(yp h ht)
 have k:=yc [_,_,_,_] _ j
 refine fP j 9 ?_
 refine cl IE (He hb n iv pv ps fQ pl y (yd k (i:=0) rfl) hP i o_) ?_
 rintro _ J ⟨rfl,ht⟩
 have c:=(yp k ht)
 refine cmp rfl rfl rfl (xh o_) (fP c 13 ?_)
 refine mM (m:=fQ.length) 1 rfl rfl yn c rfl (fP c 12 ?_)
 refine kj (pvs:=[(0,(Za i)),(1,(Za key))]) (v:=.agg (qI i key)) rfl rfl (jY [(0,(Ze i)),(1,(Ze key))] iw Pv rfl ⟨rfl,rfl,rfl,rfl,trivial⟩ rfl) (lS (vs:=[(tJ i key)]) (cs:=(Zi i key)) rfl rfl yn iw rfl (by simp[Value.cells]) rfl rfl rfl c (fun z K L M l=>nO (cf:=gj.cells) (ys:=fQ) (zs:=[(⟨i,key⟩:gj)]) (LL:=fun a=>[row (Zy z) 111 2 1 ((Zi i key)),blk hb 262 (ov hb n iv pv),fV gj.cells a 111 2 (fQ++[(⟨i,key⟩:gj)]),fV gM pv 277 1 ps,gF gO 279 64 ps pl]) 2 rfl rfl rfl yn iw rfl d_ l rfl (mO l (i:=0) rfl) (fun x hx=>zz.1 (show List.all _ _=true from rfl) x hx) (by simp only[zk,zr];omega) (by simp only[zk,zr];omega) f_ ?_))
 intro a N A O
 have d:=yi [1,2,3,4] A
 refine fP d 2 ?_
 refine mR (L' := (th hb n a pv (fQ++[(⟨i,key⟩:gj)]) ps pl)) 0 rfl rfl rfl (cells_one (mH d (i:=1) rfl)) uk rfl (oU (mH d (i:=1) rfl) uz) d rfl rfl rfl rfl ?_
 intro B o
 have p:=yc [_,_,_,_] _ o
 refine fP o 7 ?_
 refine cl D7 (DN hb n a pv ps (fQ++[(⟨i,key⟩:gj)]) pl B (yd p (i:=0) rfl) hP i hi (fQ.length:Int) (fQ.length+1) o_ o_) ?_
 rintro _ C ⟨rfl,ps2₁,D,hP2₁,ht⟩
 have q:=(yp p ht)
 have hP9:=hP2₁
 have s:=yc [_,_,_,_] _ q
 refine fP q 6 ?_
 refine cl Ot (Me hb n a pv ps2₁ (fQ++[(⟨i,key⟩:gj)]) (iT pl i (fQ.length+1)) C (yd s (i:=0) rfl) hS9 hP9 fQ.length (by first|omega|(simp only[gI,zp,zk,zr];omega)) (VN hOr _)) ?_
 rintro _ P ⟨rfl,E,G,H,b,I,ht⟩
 have t:=(yp s ht)
 refine fW t 8 ?_
 refine gq (v:=Zc) Tryz.results110 rfl ?_
 exact⟨rfl,a,E,G,H,b.hp,b.kr,I,fun e=>(b.mem e).trans s_,by rw[b.oG,D],by rw[b.len];simp,yq (yc [_,_,_,_] _ t)⟩
theorem SZ(hb n:Nat)(iv pv:Value)(ps:List (Option Nat))(fQ:List gj)(pl:List Nat)(w:World)(hO:Own (Zg hb n iv pv fQ ps pl) w)(hS:Hp n fQ pl)(hP:jr n ps pl)(i:Nat)(hi:i<n)(p:Nat)(hp:fM pl i=p+1)(key:Int) :
 CR ya 110 (Z2 hb i key) w (fun r w' => r = .int .i64 6/\gm (Zg hb n iv pv fQ ps pl) w w' (Zg hb n iv pv fQ ps pl)):=by
 have hnn:=hP.n
 have hln:=hS.len
 have hvi:=hP.val i
 refine en Tryz.func110 Tryz.ntmps110 ?_
 have hst0:=(y8 hO).unpack
 have a:=yc [_,_,_,_] _ hst0
 refine gf hst0 10 ?_
 refine cl zK (yR hb n iv pv ps fQ pl w (yd a (i:=0) rfl)) ?_
 rintro _ g ⟨rfl,ht⟩
 have b:=(yp a ht)
 have c:=yc [_,_,_,_] _ b
 refine fP b 9 ?_
 refine cl IQ (HW hb n iv pv ps fQ pl g (yd c (i:=0) rfl) i o_) ?_
 rintro _ h ⟨rfl,ht⟩
 have d:=(yp c ht)
 have e:=yc [_,_,_,_] _ d
 refine fP d 9 ?_
 refine cl IE (He hb n iv pv ps fQ pl h (yd e (i:=0) rfl) hP i o_) ?_
 rintro _ j ⟨rfl,ht⟩
 have f:=(yp e ht)
 refine cmp rfl rfl rfl (ER o_) (fW f 12 ?_)
 refine gq (v:=(.int .i64 6)) Tryz.results110 rfl ?_
 exact⟨rfl,yq (yc [_,_,_,_] _ f)⟩
theorem U7(hb n:Nat)(iv pv:Value)(ps:List (Option Nat))(fQ:List gj)(pl:List Nat)(w:World)(hO:Own (Zg hb n iv pv fQ ps pl) w)(hS:Hp n fQ pl)(hP:jr n ps pl)(hOr:Ord fQ)(p:Nat)(hp:p<fQ.length) :
 CR ya 154 (Zn hb p) w (fun r w' => r = .tuple #[]/\∃ jv qs ys zl,Hp n ys zl/\jr n qs zl/\Ord ys/\(∀ e,e∈ys↔e∈fQ/\e.ix≠(fM fQ p).ix)/\qs.length=ps.length/\ys.length+1=fQ.length/\gm (Zg hb n iv pv fQ ps pl) w w' (Zg hb n jv pv ys qs zl)):=by
 have hnn:=hP.n
 have hln:=hS.len
 obtain⟨k,hk⟩:∃ k,fQ.length=k+1:=⟨fQ.length-1,o_⟩
 have hsw:=hS.swap hp (show k<fQ.length by omega)
 have hsl:=mw fQ p k
 have hct:=hsw.cut (m:=k) o_
 have hmm:=fun e=>(Wb hsw (m:=k) o_ e)
 have hsk:fM (iC fQ p k) k=fM fQ p:=by rw[yT hp o_,if_pos rfl]
 have htl:((iC fQ p k).take k).length=k:=by rw[lT];omega
 refine en Tryz.func154 Tryz.ntmps154 ?_
 have hst0:=(y8 hO).unpack
 refine gf hst0 6 ?_
 refine mM (m:=fQ.length) 1 rfl rfl yn hst0 rfl (ar (e:=(k:Int)) rfl rfl rfl rfl (by rw[jb o_];omega) ?_)
 have g:=yc [_,_,_,_] _ hst0
 refine fP hst0 8 ?_
 refine cl IJ (Ht hb n iv pv ps fQ pl w (yd g (i:=0) rfl) hS hP p k hp o_) ?_
 rintro _ u ⟨rfl,v,j,x,ht⟩
 have a:=(yp g ht)
 refine fP a 10 ?_
 refine ji (cf:=gj.cells) (k:=k) (i:=(k:Int)) rfl rfl rfl yn iw (ye a (i:=1) rfl f_) o_ o_ (gx om) (nr (cf:=gj.cells) (off:=0) (off' := 0) rfl rfl yr rfl gn rfl (ye a (i:=1) rfl f_) (gx om) (lI (cf:=gj.cells) rfl rfl yf rfl (ye a (i:=1) rfl f_) (gx om) rfl ?_))
 have o:=yc [_,_,_,_] _ a
 refine cl D7 (DN hb n iv pv v (iC fQ p k) (iT (iT pl (fM (iC fQ p k) p).ix (p+1)) (fM (iC fQ p k) k).ix (k+1)) u (yd o (i:=0) rfl) x ((fM (iC fQ p k) k).ix) (hsw.ix k o_) (-1) 0 o_ o_) ?_
 rintro _ y ⟨rfl,ps2₁,q,hP2₁,ht⟩
 have f:=(yp o ht)
 have hP9:=hP2₁
 refine fP f 10 ?_
 refine slV (l:=0) (h:=k) rfl rfl yn iw (ye (cf:=gj.cells) f (i:=1) rfl f_) rfl ⟨_,gG o_⟩ o_ o_ ?_
 have d:St _ [blk hb 262 (ov hb n iv pv),fV gj.cells (nD 2 iv 0 k) 111 2 ((iC fQ p k).take k),fV gM pv 277 1 ps2₁,gF gO 279 64 ps2₁ (iT (iT (iT pl (fM (iC fQ p k) p).ix (p+1)) (fM (iC fQ p k) k).ix (k+1)) ((fM (iC fQ p k) k).ix) 0)] y:=St.Wu f (i:=1) rfl f_ o_
 refine fP d 2 ?_
 refine mR (L' := (th hb n (nD 2 iv 0 k) pv ((iC fQ p k).take k) ps2₁ (iT (iT (iT pl (fM (iC fQ p k) p).ix (p+1)) (fM (iC fQ p k) k).ix (k+1)) ((fM (iC fQ p k) k).ix) 0))) 0 rfl rfl rfl (cells_one (mH d (i:=1) rfl)) uk rfl (oU (mH d (i:=1) rfl) uz) d rfl rfl rfl rfl (fun z b=>fP b 6 ?_)
 by_cases E:((p:Int):Int)<((k:Int):Int)
 . have s:=yc [_,_,_,_] _ b
   refine fP b 7 ?_
   refine cl Ot (Me hb n (nD 2 iv 0 k) pv ps2₁ ((iC fQ p k).take k) (iT (iT (iT pl (fM (iC fQ p k) p).ix (p+1)) (fM (iC fQ p k) k).ix (k+1)) ((fM (iC fQ p k) k).ix) 0) z (yd s (i:=0) rfl) hct hP9 p (by first|omega|(simp only[gI,zp,zk,zr];omega)) (hOr.cut hk o_)) ?_
   rintro _ G ⟨rfl,A,B,C,c,D,ht⟩
   have t:=(yp s ht)
   refine fW t 1 ?_
   refine jx Tryz.results154 ?_
   exact⟨rfl,(nD 2 iv 0 k),A,B,C,c.hp,c.kr,D,fun e=>(c.mem e).trans (by rw[hmm e,G9 hp o_,hsk]),by rw[c.oG,q,j],by rw[c.len,htl];omega,yq (yc [_,_,_,_] _ t)⟩
 . refine fW b 5 ?_
   refine jx Tryz.results154 ?_
   have hpk:p=k:=by omega
   exact⟨rfl,(nD 2 iv 0 k),ps2₁,((iC fQ p k).take k),iT (iT (iT pl (fM (iC fQ p k) p).ix (p+1)) (fM (iC fQ p k) k).ix (k+1)) ((fM (iC fQ p k) k).ix) 0,hct,hP9,by subst hpk;rw[TM hp];exact hOr.W4 o_,fun e=>by rw[hmm e,G9 hp o_,hsk],by rw[q,j],by rw[htl];omega,yq (yc [_,_,_,_] _ b)⟩
theorem MD(hb n:Nat)(iv pv:Value)(ps:List (Option Nat))(fQ:List gj)(pl:List Nat)(w:World)(hO:Own (Zg hb n iv pv fQ ps pl) w)(hS:Hp n fQ pl)(hP:jr n ps pl)(h0:fQ.length=0) :
 CR ya 90 (Zl hb) w (fun r w' => r = .tuple Ca/\gm (Zg hb n iv pv fQ ps pl) w w' (Zg hb n iv pv fQ ps pl)):=by
 refine en Tryz.func90 Tryz.ntmps90 ?_
 have hst0:=(y8 hO).unpack
 refine gf hst0 2 ?_
 refine al (cs:=Z5) rfl iw rfl hst0 ?_
 intro g e h j b
 have f:=yi [1,2,3,4,0] b
 have c:=yc [_,_,_,_] _ f
 refine fP b 7 ?_
 refine cl zK (yR hb n iv pv ps fQ pl e (yd c (i:=0) rfl)) ?_
 rintro _ k ⟨rfl,ht⟩
 have a:=(yp c ht)
 refine fP a 6 ?_
 refine mM (m:=fQ.length) 1 rfl rfl yn a rfl (cmp rfl rfl rfl (s5 o_) (fP a 6 ?_))
 refine kj (pvs:=[]) (v:=.agg #[Zc,Zc]) rfl rfl (jY [] iw Pv rfl trivial rfl) (mF a 6 fun l d=>?_)
 refine q8 (v:=J6) (v' := Zq) Tryz.results90 (pY (cs:=Z5) rfl yr rfl iw rfl (kO d (i:=4) (o:=0) (vs:=Z5) rfl rfl)) (nI rfl) ?_
 exact⟨rfl,yq (yc [_,_,_,_] _ d)⟩
theorem MR(hb n:Nat)(iv pv:Value)(ps:List (Option Nat))(fQ:List gj)(pl:List Nat)(w:World)(hO:Own (Zg hb n iv pv fQ ps pl) w)(hS:Hp n fQ pl)(hP:jr n ps pl)(h0:0<fQ.length) :
 CR ya 90 (Zl hb) w (fun r w' => r = .tuple (Cj ((fM fQ 0).ix:Int) ((fM fQ 0).key))/\gm (Zg hb n iv pv fQ ps pl) w w' (Zg hb n iv pv fQ ps pl)):=by
 refine en Tryz.func90 Tryz.ntmps90 ?_
 have hst0:=(y8 hO).unpack
 refine gf hst0 2 ?_
 refine al (cs:=Z5) rfl iw rfl hst0 ?_
 intro g e h j b
 have f:=yi [1,2,3,4,0] b
 have c:=yc [_,_,_,_] _ f
 refine fP b 7 ?_
 refine cl zK (yR hb n iv pv ps fQ pl e (yd c (i:=0) rfl)) ?_
 rintro _ l ⟨rfl,ht⟩
 have a:=(yp c ht)
 refine fP a 6 ?_
 refine mM (m:=fQ.length) 1 rfl rfl yn a rfl (cmp rfl rfl rfl (BQ o_) (fP a 12 ?_))
 refine ji (cf:=gj.cells) (k:=0) (i:=0) rfl rfl rfl yn iw (ye a (i:=1) rfl f_) o_ o_ (gx om) (rj (cf:=gj.cells) (cs:=(Zi ((fM fQ 0).ix:Int) ((fM fQ 0).key))) rfl rfl yr rfl iw (ye a (i:=1) rfl f_) (gx om) rfl rfl (mF a 5 fun p d=>?_))
 refine q8 (v:=(tJ ((fM fQ 0).ix:Int) ((fM fQ 0).key))) (v' := Zf) Tryz.results90 (pY (cs:=(Zi ((fM fQ 0).ix:Int) ((fM fQ 0).key))) rfl yr rfl iw rfl (kO d (i:=4) (o:=0) (vs:=(Zi ((fM fQ 0).ix:Int) ((fM fQ 0).key))) rfl rfl)) (nI rfl) ?_
 exact⟨rfl,yq (yc [_,_,_,_] _ d)⟩
theorem U1(hb n:Nat)(iv pv:Value)(ps:List (Option Nat))(fQ:List gj)(pl:List Nat)(w:World)(hO:Own (Zg hb n iv pv fQ ps pl) w)(hS:Hp n fQ pl)(hP:jr n ps pl)(hOr:Ord fQ)(h0:0<fQ.length) :
 CR ya 103 (Zl hb) w (fun r w' => r = .tuple (Cj ((fM fQ 0).ix:Int) ((fM fQ 0).key))/\∃ jv qs ys zl,Hp n ys zl/\jr n qs zl/\Ord ys/\(∀ e,e∈ys↔e∈fQ/\e.ix≠(fM fQ 0).ix)/\qs.length=ps.length/\ys.length+1=fQ.length/\gm (Zg hb n iv pv fQ ps pl) w w' (Zg hb n jv pv ys qs zl)):=by
 refine en Tryz.func103 Tryz.ntmps103 ?_
 have hst0:=(y8 hO).unpack
 refine gf hst0 2 ?_
 refine al (cs:=Z5) rfl iw rfl hst0 ?_
 intro x g y z a
 have h:=yi [1,2,3,4,0] a
 have b:=yc [_,_,_,_] _ h
 refine fP a 6 ?_
 refine cl zU (MR hb n iv pv ps fQ pl g (yd b (i:=0) rfl) hS hP h0) ?_
 rintro _ A ⟨rfl,ht⟩
 have c:=(yp b ht)
 refine fP c 3 ?_
 refine al (cs:=Z5) rfl iw rfl c (fun B C D E j=>kT j 13 fun k l=>?_)
 have m:=yi [1,2,3,4,0,5] l
 have d:=yc [_,_,_,_] _ m
 refine cl Xy (U7 hb n iv pv ps fQ pl k (yd d (i:=0) rfl) hS hP hOr 0 h0) ?_
 rintro _ G ⟨rfl,p,q,s,t,a1₁,a2₁,a3₁,a4₁,a5₁,a6₁,ht⟩
 have u:=(yp d ht)
 refine mF u 11 fun H f=>?_
 refine q8 (v:=(tJ ((fM fQ 0).ix:Int) ((fM fQ 0).key))) (v' := Zf) Tryz.results103 (pY (cs:=(Zi ((fM fQ 0).ix:Int) ((fM fQ 0).key))) rfl yr rfl iw rfl (kO f (i:=5) (o:=0) (vs:=(Zi ((fM fQ 0).ix:Int) ((fM fQ 0).key))) rfl rfl)) (nI rfl) ?_
 exact⟨rfl,p,q,s,t,a1₁,a2₁,a3₁,a4₁,a5₁,a6₁,yq (yc [_,_,_,_] _ f)⟩
theorem Uo(hb n:Nat)(iv pv:Value)(ps:List (Option Nat))(fQ:List gj)(pl:List Nat)(w:World)(hO:Own (Zg hb n iv pv fQ ps pl) w)(hS:Hp n fQ pl)(hP:jr n ps pl)(h0:fQ.length=0) :
 CR ya 103 (Zl hb) w (fun r w' => r = .tuple Ca/\gm (Zg hb n iv pv fQ ps pl) w w' (Zg hb n iv pv fQ ps pl)):=by
 refine en Tryz.func103 Tryz.ntmps103 ?_
 have hst0:=(y8 hO).unpack
 refine gf hst0 2 ?_
 refine al (cs:=Z5) rfl iw rfl hst0 ?_
 intro j e k l a
 have f:=yi [1,2,3,4,0] a
 have b:=yc [_,_,_,_] _ f
 refine fP a 6 ?_
 refine cl zU (MD hb n iv pv ps fQ pl e (yd b (i:=0) rfl) hS hP h0) ?_
 rintro _ m ⟨rfl,ht⟩
 have c:=(yp b ht)
 refine fP c 3 ?_
 refine al (cs:=Z5) rfl iw rfl c (fun p q s t g=>mF g 22 fun u d=>?_)
 refine q8 (v:=J6) (v' := Zq) Tryz.results103 (pY (cs:=Z5) rfl yr rfl iw rfl (kO d (i:=5) (o:=0) (vs:=Z5) rfl rfl)) (nI rfl) ?_
 have h:=yi [1,2,3,4,0,5] d
 exact⟨rfl,yq (yc [_,_,_,_] _ h)⟩
end
section
open Go Go.Sx
theorem L8(v:Value)(xs:List gj)(w:World)(hv:jB 2 gj.cells (fun _=>True) w v xs)(hl0:xs.length<=1000000) :
 CR ya 150 #[v] w (fun r w' => pN 2 gj.cells w w' r 111 xs/\gB [] w w'):=by
 refine en Tryz.func150 Tryz.ntmps150 ?_
 have hst0:=jI w
 refine gf hst0 9 ?_
 refine D1 (v:=v) rfl rfl rfl yn hv (gQ hst0 2 ?_)
 cases e:(xw v:Bool)
 . skip
   refine gf hst0 5 ?_
   refine lS (vs:=[]) (cs:=[]) rfl rfl yn iw rfl (by intro v hv;simp at hv) rfl rfl rfl hst0 ?_
   intro f g h i c
   have d:=c
   refine fP c 1 ?_
   refine nO (cf:=gj.cells) (ys:=[]) (zs:=xs) (LL:=fun a=>[fV gj.cells a 111 2 xs]) 0 rfl rfl rfl yn iw rfl d_ d rfl (jB.src (l6 d s_ d_ hv) f_) (yW f_ _) (by simp only[zr];omega) (by simp only[zr];omega) f_ (fun a j b k=>fW b 4 ?_)
   refine gq (v:=a) Tryz.results150 rfl ?_
   exact⟨AE b s_,b.gJ s_⟩
 . skip
   refine jo hst0 8 ?_
   refine gq (v:=Zk) Tryz.results150 rfl ?_
   obtain rfl:=DT e hv
   exact⟨pN.EF, hst0.gJ s_⟩
theorem Wa(n:Nat)(w:World)(hn:n<=65536) :
 CR ya 82 (sj n) w (fun r w' => ∃ hb pv,r = .tuple (qL hb)/\gm (gD []) w w' (gD [blk hb 262 [(Zb hb),(Za n),Zk,pv],fV gj.cells Zk 111 2 ([]),fV gM pv 277 1 (List.replicate ((n+63) / 64) none),gF gO 279 64 (List.replicate ((n+63) / 64) none) (List.replicate (64*((n+63) / 64)) 0)])):=by
 refine en Tryz.func82 Tryz.ntmps82 ?_
 have hst0:=jI w
 refine gf hst0 10 ?_
 refine cmp rfl rfl rfl (mz o_) (fP hst0 2 ?_)
 refine cmp rfl rfl rfl (uq o_) (fP hst0 10 ?_)
 refine ar (e:=((n+64:Nat):Int)) rfl rfl rfl rfl (by rw[jb o_];omega) (ar (e:=((n+63:Nat):Int)) rfl rfl rfl rfl (by rw[jb o_];omega) (quo (a:=((n+63:Nat):Int)) (b:=64) (e:=(((n+63) / 64:Nat):Int)) rfl rfl rfl d_ (vN 64 o_) (JG (cf:=gM) (z0:=none) (m:=((n+63) / 64)) (c:=((n+63) / 64)) rfl rfl rfl oW qo rfl f_ d_ (zo _) o_ o_ hst0 (fun d s t u j=>kj (pvs:=[(1,(Za n)),(3,(Zv d ((n+63) / 64)))]) (v:=.agg (QK n d ((n+63) / 64))) rfl rfl (jY [(1,(Ze n)),(3,(FZ d ((n+63) / 64)))] EB OT rfl ⟨rfl,rfl,rfl,rfl,trivial⟩ rfl) (bx (v:=(.agg (QK n d ((n+63) / 64)))) (cs:=[Z6,(Za n),Zk,(Zv d ((n+63) / 64))]) rfl rfl rfl j (fun f x y z k=>kT k 14 fun g l=>?_))))))
 have o:=St.IF (cf:=gM) l (i:=1) rfl f_ (zo _) (by simp only[maxLen];omega)
 have p:St _ [gF gO 279 64 (List.replicate ((n+63) / 64) none) (List.replicate (64*((n+63) / 64)) 0),blk f 262 (PX f n d ((n+63) / 64)),fV gM (Zv d ((n+63) / 64)) 277 1 (List.replicate ((n+63) / 64) none)] g:=St.D6 o ((n+63) / 64)
 have h:St _ [fV gj.cells Zk 111 2 ([]),gF gO 279 64 (List.replicate ((n+63) / 64) none) (List.replicate (64*((n+63) / 64)) 0),blk f 262 (PX f n d ((n+63) / 64)),fV gM (Zv d ((n+63) / 64)) 277 1 (List.replicate ((n+63) / 64) none)] g:=uO p 111 2
 refine fW h 6 ?_
 refine jP (v:=(Zb f)) (v' := Zc) Tryz.results82 rfl rfl ?_
 have q:=yi [2,0,3,1] h
 exact⟨f,(Zv d ((n+63) / 64)),rfl,St.eM (yc [_,_,_,_] [] q)⟩
abbrev VT:List (List Nat):=[[],[0],[0,1],[0,1,2],[],[4],[4,5],[4,5,6],[4,5,6,7],[],[9],[9,10],[9,10,11],[9,10,11,12],[9,10,11,12,13],[0,1,2,3,4,5,6,7,8,9,10,11,12,13,14],[0,1,2,3,4,5,6,7,8,9,10,11,12,13,14,15],[0,1,2,3,4,5,6,7,8,9,10,11,12,13,14,15,16]]
theorem UQ(hb n:Nat)(iv pv:Value)(ps:List (Option Nat))(fQ:List gj)(pl:List Nat)(w:World)(hO:Own (Zg hb n iv pv fQ ps pl) w)(hS:Hp n fQ pl)(hP:jr n ps pl) :
 CR ya 96 (Zl hb) w (fun r w' => ∃ hb2 iv2 pv2 qs,r = .pointer (some ⟨hb2,0,none⟩)/\jr n qs pl/\qs.length=ps.length/\gm (Zg hb n iv pv fQ ps pl) w w' (gD [blk hb 262 (ov hb n iv pv),fV gj.cells iv 111 2 fQ,fV gM pv 277 1 ps,gF gO 279 64 ps pl,blk hb2 262 (ov hb2 n iv2 pv2),fV gj.cells iv2 111 2 fQ,fV gM pv2 277 1 qs,gF gO 279 64 qs pl])):=by
 have hnn:=hP.n
 have hln:=hS.len
 have hpll:=hP.len
 have hpr:=hP.room
 have hpsl:=hP.top
 refine enter (vs:=(Zj hb)) Tryz.func96 rfl Tryz.ntmps96 rfl ?_
 have hst0:=(y8 hO).unpack
 have z:=yc [_,_,_,_] _ hst0
 refine gf hst0 9 ?_
 refine x8 (vl:=(Zj hb)) rfl rfl zK (yR hb n iv pv ps fQ pl w (yd z (i:=0) rfl)) ?_
 rintro _ O ⟨rfl,ht⟩
 have s:=(St.vG (R' := (Zg hb n iv pv fQ ps pl)) 0 z rfl ht rfl).unpack
 refine gQ s 7 ?_
 refine PA (Γ:=Value×Nat×Nat) mixed VT [8,14,16] k_ [fun(d,e,g)=>(Zb hb),fun(d,e,g)=>(Zb hb),fun(d,e,g)=>(AA hb),fun(d,e,g)=>(Za n),fun(d,e,g)=>(Zb hb),fun(d,e,g)=>(Zb hb),fun(d,e,g)=>(pZ hb),fun(d,e,g)=>iv,fun(d,e,g)=>d,fun(d,e,g)=>(Zb hb),fun(d,e,g)=>(Zb hb),fun(d,e,g)=>(xL hb),fun(d,e,g)=>pv,fun(d,e,g)=>(Za ps.length),fun(d,e,g)=>(Zv e ps.length),fun(d,e,g)=>(Ko n d e ps.length),fun(d,e,g)=>(Zb g),fun(d,e,g)=>(Zb g)] [([],(fun(d,e,g)=>(th hb n iv pv fQ ps pl),fun _ _=>True)),([8],(fun(d,e,g)=>[fV gj.cells d 111 2 fQ,blk hb 262 (ov hb n iv pv),fV gj.cells iv 111 2 fQ,fV gM pv 277 1 ps,gF gO 279 64 ps pl],fun _ _=>True)),([14],(fun(d,e,g)=>[blk e 277 ((List.replicate ps.length none).flatMap gM),blk hb 262 (ov hb n iv pv),fV gj.cells iv 111 2 fQ,fV gM pv 277 1 ps,gF gO 279 64 ps pl],fun _ _=>True)),([8,14],(fun(d,e,g)=>[blk e 277 ((List.replicate ps.length none).flatMap gM),fV gj.cells d 111 2 fQ,blk hb 262 (ov hb n iv pv),fV gj.cells iv 111 2 fQ,fV gM pv 277 1 ps,gF gO 279 64 ps pl],fun _ _=>True)),([8,14,16],(fun(d,e,g)=>[blk g 262 (Q3 n d e ps.length),blk e 277 ((List.replicate ps.length none).flatMap gM),fV gj.cells d 111 2 fQ,blk hb 262 (ov hb n iv pv),fV gj.cells iv 111 2 fQ,fV gM pv 277 1 ps,gF gO 279 64 ps pl],fun _ _=>True))] (Zk,0,0) (fun(d,e,g)=>(3,(Zb g)) :: (26,(Zb g)) :: (25,(Ko n d e ps.length)) :: (24,(Zv e ps.length)) :: (23,(Za ps.length)) :: (22,pv) :: (21,(xL hb)) :: (20,(Zb hb)) :: (19,(Zb hb)) :: (18,d) :: (17,iv) :: (16,(pZ hb)) :: (15,(Zb hb)) :: (14,(Zb hb)) :: (13,(Za n)) :: (12,(AA hb)) :: (11,(Zb hb)) :: (10,(Zb hb)) :: _) rfl s (fun _ _=>trivial) ?_ (fun(d,e,g)=>rfl) rfl ?_
 . skip
   refine mX rfl (fun(d,e,g) _ _=>qv rfl rfl (iy (v:=(Zb hb)) rfl)) (mX rfl (fun(d,e,g) _ _=>qv rfl rfl (jU (a:=⟨hb,0,none⟩) rfl)) (mX rfl (fun(d,e,g) _ _=>qv rfl rfl (jw (o:=0) (o' := 1) rfl uS rfl gn rfl)) (zP rfl ⟨(fun(d,e,g) wq hM hF=>qv rfl rfl (gT (a:=⟨hb,1,none⟩) (v:=(Za n)) rfl yf rfl (yo hM (i:=0) rfl rfl))),(fun(d,e,g) wq hM hF=>qv rfl rfl (gT (a:=⟨hb,1,none⟩) (v:=(Za n)) rfl yf rfl (yo hM (i:=1) rfl rfl))),(fun(d,e,g) wq hM hF=>qv rfl rfl (gT (a:=⟨hb,1,none⟩) (v:=(Za n)) rfl yf rfl (yo hM (i:=1) rfl rfl))),(fun(d,e,g) wq hM hF=>qv rfl rfl (gT (a:=⟨hb,1,none⟩) (v:=(Za n)) rfl yf rfl (yo hM (i:=2) rfl rfl))),trivial,trivial⟩ (mX rfl (fun(d,e,g) _ _=>qv rfl rfl (iy (v:=(Zb hb)) rfl)) (mX rfl (fun(d,e,g) _ _=>qv rfl rfl (jU (a:=⟨hb,0,none⟩) rfl)) (mX rfl (fun(d,e,g) _ _=>qv rfl rfl (jw (o:=0) (o' := 2) rfl uS rfl uk rfl)) (zP rfl ⟨(fun(d,e,g) wq hM hF=>qv rfl rfl (gT (a:=⟨hb,2,none⟩) (v:=iv) rfl yn rfl (yo hM (i:=0) rfl rfl))),trivial,(fun(d,e,g) wq hM hF=>qv rfl rfl (gT (a:=⟨hb,2,none⟩) (v:=iv) rfl yn rfl (yo hM (i:=1) rfl rfl))),trivial,trivial,trivial⟩ ?_)))))))
   refine zW rfl ⟨⟨_,_,rfl,fun(d,e,g) wq hM hF=>kn rfl rfl (i6 (vl:=[iv]) rfl N8) (L8 iv fQ wq (ye hM (i:=1) rfl f_).any (by first|omega|(simp;omega))) (fun t _ hz=>⟨(t,e,g),⟨(wm hM hz.2 hz.1),trivial⟩,rfl,fS rfl (fS rfl (fS rfl (fS rfl (fS rfl (fS rfl (fS rfl (fS rfl (fS trivial (fS rfl (fS rfl (fS rfl (fS rfl (fS rfl (fS rfl (fS trivial (fS trivial (fS trivial (kG))))))))))))))))))⟩)⟩,trivial,⟨_,_,rfl,fun(d,e,g) wq hM hF=>kn rfl rfl (i6 (vl:=[iv]) rfl N8) (L8 iv fQ wq (ye hM (i:=2) rfl f_).any (by first|omega|(simp;omega))) (fun t _ hz=>⟨(t,e,g),⟨(ox (wm hM hz.2 hz.1) (List.Perm.swap _ _ _)),trivial⟩,rfl,fS rfl (fS rfl (fS rfl (fS rfl (fS rfl (fS rfl (fS rfl (fS rfl (fS trivial (fS rfl (fS rfl (fS rfl (fS rfl (fS rfl (fS rfl (fS trivial (fS trivial (fS trivial (kG))))))))))))))))))⟩)⟩,trivial,trivial,trivial⟩ (mX rfl (fun(d,e,g) _ _=>qv rfl rfl (iy (v:=(Zb hb)) rfl)) (mX rfl (fun(d,e,g) _ _=>qv rfl rfl (jU (a:=⟨hb,0,none⟩) rfl)) (mX rfl (fun(d,e,g) _ _=>qv rfl rfl (jw (o:=0) (o' := 3) rfl uS rfl Jt rfl)) (zP rfl ⟨(fun(d,e,g) wq hM hF=>qv rfl rfl (gT (a:=⟨hb,3,none⟩) (v:=pv) rfl oW rfl (yo hM (i:=0) rfl rfl))),(fun(d,e,g) wq hM hF=>qv rfl rfl (gT (a:=⟨hb,3,none⟩) (v:=pv) rfl oW rfl (yo hM (i:=1) rfl rfl))),trivial,trivial,trivial,trivial⟩ (mX rfl (fun(d,e,g) _ _=>qv rfl rfl (qj (v:=pv) rfl oW (ye (cf:=gM) s (i:=2) rfl f_))) (zW rfl ⟨⟨_,_,rfl,fun(d,e,g) wq hM hF=>NQ (cf:=gM) (z0:=none) (m:=ps.length) (c:=ps.length) rfl rfl rfl oW qo rfl f_ d_ (zo _) o_ o_ hM (fun x _ h=>⟨(d,x,g),⟨h,trivial⟩,rfl,fS rfl (fS rfl (fS rfl (fS rfl (fS rfl (fS rfl (fS rfl (fS rfl (fS rfl (fS rfl (fS rfl (fS rfl (fS rfl (fS rfl (fS trivial (fS trivial (fS trivial (fS trivial (kG))))))))))))))))))⟩)⟩,⟨_,_,rfl,fun(d,e,g) wq hM hF=>NQ (cf:=gM) (z0:=none) (m:=ps.length) (c:=ps.length) rfl rfl rfl oW qo rfl f_ d_ (zo _) o_ o_ hM (fun x _ h=>⟨(d,x,g),⟨h,trivial⟩,rfl,fS rfl (fS rfl (fS rfl (fS rfl (fS rfl (fS rfl (fS rfl (fS rfl (fS rfl (fS rfl (fS rfl (fS rfl (fS rfl (fS rfl (fS trivial (fS trivial (fS trivial (fS trivial (kG))))))))))))))))))⟩)⟩,trivial,trivial,trivial,trivial⟩ (zP rfl ⟨trivial,trivial,trivial,(fun(d,e,g) wq hM hF=>qv rfl rfl (xg (pvs:=[(1,(Za n)),(2,d),(3,(Zv e ps.length))]) (v:=.agg #[Z6,(Za n),d,(Zv e ps.length)]) rfl (jY [(1,(Ze n)),(2,[d]),(3,(FZ e ps.length))] EB OT rfl ⟨rfl,rfl,rfl,(cells_one (mH hM (i:=1) rfl)),rfl,rfl,trivial⟩ rfl))),trivial,trivial⟩ ?_)))))))
   refine zW rfl ⟨trivial,trivial,trivial,⟨_,_,rfl,fun(d,e,g) wq hM hF=>EG (v:=(Ko n d e ps.length)) (cs:=(Q3 n d e ps.length)) rfl rfl rfl hM (fun C _ h=>⟨(d,e,C),⟨h,trivial⟩,rfl,fS rfl (fS rfl (fS rfl (fS rfl (fS rfl (fS rfl (fS rfl (fS rfl (fS rfl (fS rfl (fS rfl (fS rfl (fS rfl (fS rfl (fS rfl (fS rfl (fS trivial (fS trivial (kG))))))))))))))))))⟩)⟩,trivial,trivial⟩ (mX rfl (fun(d,e,g) _ _=>qv rfl rfl (pQ (v:=(Zb g)) rfl)) ?_)
   exact OF
 rintro⟨d,e,g⟩ P D -
 refine Qz tt none D 13 fun E G=>?_
 have H:=St.IF (cf:=gM) G (i:=1) rfl f_ (zo _) (by simp only[maxLen];omega)
 have I:St _ [gF gO 279 64 (List.replicate ps.length none) pl,blk g 262 (Fu g n d e ps.length),fV gM (Zv e ps.length) 277 1 (List.replicate ps.length none),fV gj.cells d 111 2 fQ,blk hb 262 (ov hb n iv pv),fV gj.cells iv 111 2 fQ,fV gM pv 277 1 ps,gF gO 279 64 ps pl] E:=St.D6 H ps.length
 have p:=yi [4,5,6,7,1,3,2,0] I
 refine fP p 4 ?_
 refine mM (m:=ps.length) 2 rfl rfl oW p rfl (gQ p 4 ?_)
 refine lp (α:=Nat×List (Option Nat)) (fun(k,qs)=>[(3,(Zb g)),(34,pv),(35,(Za ps.length)),(36,(Za k))]) (fun(k,qs) w1=>St [(w,(Zg hb n iv pv fQ ps pl).gR)] (Qj hb n iv pv fQ ps pl g d e ps.length qs) w1/\k<=ps.length/\qJ ps qs k) (fun(k,qs)=>ps.length-k) (0,(List.replicate ps.length none)) ⟨rfl,rfl,rfl,gG (by first|rfl|omega),trivial⟩ (⟨p,o_,qJ.start ps⟩) ?_
 rintro⟨k,qs⟩ Q R ⟨hst6,hk6,hC⟩
 have hkn:=hP.len
 have hql:=hC.len
 refine gf hst6 2 ?_
 by_cases S:((k:Int):Int)<((ps.length:Int):Int)
 . have hk:k<ps.length:=by omega
   refine fP hst6 12 ?_
   refine ji (cf:=gM) (k:=k) (i:=(k:Int)) rfl rfl rfl oW qo (ye hst6 (i:=2) rfl f_) o_ o_ (gx om) (lI (cf:=gM) (u:=(.pointer ((fM ps k).map fun b=>⟨b,0,none⟩))) rfl rfl si rfl (ye hst6 (i:=2) rfl f_) (gx om) rfl ?_)
   obtain⟨J,l⟩:∃ q,(fM ps k)=q:=⟨_,rfl⟩
   refine fP hst6 7 ?_
   rcases J with _|A
   . skip
     refine qH (a:=(fM ps k).map fun b=>⟨b,0,none⟩) (c:=false) rfl rfl rfl si (by rw[l];rfl) (fW hst6 10 ?_)
     refine tN (?_)
     exact again ((k+1),qs) ⟨rfl,rfl,rfl,gG (by first|rfl|omega),trivial⟩ (⟨hst6,o_,hC.skip ((gx hk).trans (congrArg some l))⟩) (by show (ps.length-(k+1):Nat)<ps.length-k;omega)
   . skip
     refine qH (a:=(fM ps k).map fun b=>⟨b,0,none⟩) (c:=true) rfl rfl rfl si (by rw[l];rfl) (fP hst6 6 ?_)
     refine rX (a:=⟨A,0,none⟩) rfl (yV l) ?_
     have hcl:(((pl.drop (64*k)).take 64).flatMap gO).length=64:=Mg (cf:=gO) (sz:=1) f_ hP.len hk
     refine oZ (b:=A) (o:=0) (cs:=(((pl.drop (64*k)).take 64).flatMap gO)) rfl rfl FR rfl BN hcl (St.Mn hst6 (i:=3) rfl ((gx hk).trans (congrArg some l))) (al (cs:=Kl) rfl BN rfl hst6 (fun j U V W K=>lZ (v:=.agg (((pl.drop (64*k)).take 64).flatMap gO).toArray) (vs:=(((pl.drop (64*k)).take 64).flatMap gO)) (L' := [blk j 279 (((pl.drop (64*k)).take 64).flatMap gO),blk hb 262 (ov hb n iv pv),fV gj.cells iv 111 2 fQ,fV gM pv 277 1 ps,gF gO 279 64 ps pl,blk g 262 (Fu g n d e ps.length),fV gj.cells d 111 2 fQ,fV gM (Zv e ps.length) 277 1 qs,gF gO 279 64 qs pl]) 0 rfl rfl rfl rfl BN hcl (zz.2 (yW f_ _)) K rfl (by rw[hcl];decide) (LX (by rw[hcl];rfl)) rfl (fun X y Y=>fP y 8 ?_)))
     refine ji (cf:=gM) (k:=k) (i:=(k:Int)) rfl rfl rfl oW qo (ye y (i:=7) rfl f_) o_ o_ (gx om) (nS (cf:=gM) (ys:=qs) (k:=k) (off:=0) (f:=(fun _=>(some j))) (u:=(Zb j)) (vs:=(Zj j)) (L' := [blk j 279 (((pl.drop (64*k)).take 64).flatMap gO),blk hb 262 (ov hb n iv pv),fV gj.cells iv 111 2 fQ,fV gM pv 277 1 ps,gF gO 279 64 ps pl,blk g 262 (Fu g n d e ps.length),fV gj.cells d 111 2 fQ,fV gM (Zv e ps.length) 277 1 (fR qs k (fun _=>(some j))),gF gO 279 64 qs pl]) 7 rfl rfl rfl rfl qo rfl rfl y rfl f_ om rfl rfl rfl (fun Z B=>fW B 7 ?_))
     refine tN (?_)
     have L:=yi [0,8,1,2,3,4,5,6,7] B
     have M:=St.Of L (hC.next hk) rfl
     have N:=yi [1,2,3,4,5,6,7,0] M
     exact again ((k+1),fR qs k (fun _=>(some j))) ⟨rfl,rfl,rfl,gG (by first|rfl|omega),trivial⟩ (⟨N,o_,hC.set hk⟩) (by show (ps.length-(k+1):Nat)<ps.length-k;omega)
 . refine fW hst6 17 ?_
   refine gq (v:=(Zb g)) Tryz.results96 rfl ?_
   exact⟨g,d,(Zv e ps.length),qs,rfl,hP.copy hC o_,hC.len,yw (R' := (gD (Qj hb n iv pv fQ ps pl g d e ps.length qs))) (yc [_,_,_,_,_,_,_,_] _ hst6) zh⟩
end
section
open Go Go.Sx
theorem u5(ab:Nat)(bv:Value)(cn cb cu cl:Int)(ps:List (Option Nat))(sl:List gL)(w:World)(hO:Own (AK ab bv cn cb cu cl ps sl) w) :
 CR ya 114 (Zl ab) w (fun r w' => r = .bool true/\gm (AK ab bv cn cb cu cl ps sl) w w' (AK ab bv cn cb cu cl ps sl)):=by
 refine en Tryz.func114 Tryz.ntmps114 ?_
 have hst0:=(y8 hO).unpack
 refine gf hst0 8 ?_
 refine qH (a:=some ⟨ab,0,none⟩) (c:=true) rfl rfl rfl EV rfl (fP hst0 6 ?_)
 refine EP (a:=⟨ab,0,none⟩) rfl rfl rfl EV Er (fW hst0 5 ?_)
 refine gq (v:=Zf) Tryz.results114 rfl ?_
 exact⟨rfl,yq (yc [_,_,_] _ hst0)⟩
theorem zF(ab:Nat)(bv:Value)(cn cb cu cl:Int)(ps:List (Option Nat))(sl:List gL)(w:World)(hO:Own (AK ab bv cn cb cu cl ps sl) w)(i:Nat)(hi:i<=1000000)(b:Nat)(hb:ps[i / 64]? = some (some b)) :
 CR ya 152 (Zn ab i) w (fun r w' => r = .pointer (some ⟨b,i%64*3+0,none⟩)/\gm (AK ab bv cn cb cu cl ps sl) w w' (AK ab bv cn cb cu cl ps sl)):=by
 have hij:i / 64<ps.length:=(zb.1 hb).1
 refine en Tryz.func152 Tryz.ntmps152 ?_
 have hst0:=(y8 hO).unpack
 refine gf hst0 12 ?_
 refine quo (a:=(i:Int)) (b:=64) (e:=((i / 64:Nat):Int)) rfl rfl rfl d_ (vN 64 o_) (ji (cf:=gM) (k:=(i / 64)) (i:=((i / 64:Nat):Int)) rfl rfl rfl vY xl (ye hst0 (i:=1) rfl f_) o_ o_ (gx om) (lI (cf:=gM) rfl rfl Tryz.underlying270 rfl (ye hst0 (i:=1) rfl f_) (gx om) rfl (fP hst0 1 ?_)))
 refine rem (a:=(i:Int)) (b:=64) (e:=((i%64:Nat):Int)) rfl rfl rfl d_ (B6 64) (rX rfl (yV (Ew hb)) (mc (o:=0) (o' := i%64*3+0) (i:=((i%64:Nat):Int)) rfl rfl rfl Tryz.underlying274 Po o_ (by simp only[tE];omega) (fW hst0 4 ?_)))
 refine gq (v:=(Z0 b (i%64*3+0))) Tryz.results152 rfl ?_
 exact⟨rfl,yq (yc [_,_,_] _ hst0)⟩
theorem L6(ab:Nat)(bv:Value)(A:As)(w:World)(hO:Own (Zr ab bv A) w)(hA:A.ok)(i:Nat)(hi:i<=1000000) :
 CR ya 115 (Zn ab i) w (fun r w' => r = .int .i64 (if i<A.begun then(fM A.sl i).st else 0)/\gm (Zr ab bv A) w w' (Zr ab bv A)):=by
 refine en Tryz.func115 Tryz.ntmps115 ?_
 have hst0:=(y8 hO).unpack
 refine gf hst0 13 ?_
 by_cases d:((i:Int):Int)≥((A.begun:Int):Int)
 . refine fW hst0 11 ?_
   refine gq (v:=Zc) Tryz.results115 rfl ?_
   exact⟨gG (by rw[if_neg o_]),yq (yc [_,_,_] _ hst0)⟩
 . have hib:i<A.begun:=by omega
   have hil:=(hA.room hib).1
   obtain⟨b,hb⟩:=hA.at hib
   have c:=yc [_,_,_] _ hst0
   refine fP hst0 10 ?_
   refine cl zC (zF ab bv (A.n:Int) (A.begun:Int) (A.used:Int) A.last A.ps A.sl w (yd c (i:=0) rfl) i o_ b hb) ?_
   rintro _ e ⟨rfl,ht⟩
   have a:=(yp c ht)
   refine fP a 1 ?_
   refine fa (o' := i%64*3+0) rfl rfl oE rfl gn (by simp only[j8];rfl) (ld rfl rfl yf rfl (AZ a (i:=2) rfl f_ d_ hil hb rfl) (fW a 4 ?_))
   refine gq (v:=(Za ((fM A.sl i).st))) Tryz.results115 rfl ?_
   exact⟨gG (by rw[if_pos o_]),yq (yc [_,_,_] _ a)⟩
theorem WG(ab:Nat)(bv:Value)(A:As)(w:World)(hO:Own (Zr ab bv A) w)(hA:A.ok) :
 CR ya 86 (Zl ab) w (fun r w' => r = .int .i64 (A.used:Int)/\gm (Zr ab bv A) w w' (Zr ab bv A)):=by
 refine en Tryz.func86 Tryz.ntmps86 ?_
 have hst0:=(y8 hO).unpack
 have a:=yc [_,_,_] _ hst0
 refine gf hst0 9 ?_
 refine cl vq (u5 ab bv (A.n:Int) (A.begun:Int) (A.used:Int) A.last A.ps A.sl w (yd a (i:=0) rfl)) ?_
 rintro _ c ⟨rfl,ht⟩
 have b:=(yp a ht)
 refine fW b 16 ?_
 refine gq (v:=(Za A.used)) Tryz.results86 rfl ?_
 exact⟨rfl,yq (yc [_,_,_] _ b)⟩
theorem TH(ab:Nat)(bv:Value)(A:As)(w:World)(hO:Own (Zr ab bv A) w)(hA:A.ok)(i:Nat)(hl:A.last=(i:Int)) :
 CR ya 156 (Zl ab) w (fun r w' => r = .tuple (KR i)/\gm (Zr ab bv A) w w' (Zr ab bv A)):=by
 refine en Tryz.func156 Tryz.ntmps156 ?_
 have hst0:=(y8 hO).unpack
 have b:=yc [_,_,_] _ hst0
 refine gf hst0 11 ?_
 refine cl vq (u5 ab bv (A.n:Int) (A.begun:Int) (A.used:Int) A.last A.ps A.sl w (yd b (i:=0) rfl)) ?_
 rintro _ c ⟨rfl,ht⟩
 have a:=(yp b ht)
 refine fP a 11 ?_
 refine cmp rfl rfl rfl (ER o_) (fW a 17 ?_)
 refine jP (v:=(Za A.last)) (v' := Zf) Tryz.results156 rfl rfl ?_
 exact⟨by rw[hl],yq (yc [_,_,_] _ a)⟩
theorem T5(ab:Nat)(bv:Value)(A:As)(w:World)(hO:Own (Zr ab bv A) w)(hA:A.ok)(hl:A.last = -1)(hb:A.begun<A.n) :
 CR ya 156 (Zl ab) w (fun r w' => r = .tuple (KR A.begun)/\gm (Zr ab bv A) w w' (Zr ab bv A)):=by
 refine en Tryz.func156 Tryz.ntmps156 ?_
 have hst0:=(y8 hO).unpack
 have b:=yc [_,_,_] _ hst0
 refine gf hst0 11 ?_
 refine cl vq (u5 ab bv (A.n:Int) (A.begun:Int) (A.used:Int) A.last A.ps A.sl w (yd b (i:=0) rfl)) ?_
 rintro _ d ⟨rfl,ht⟩
 have a:=(yp b ht)
 refine fP a 11 ?_
 refine cmp rfl rfl rfl (xh o_) (gQ a 5 ?_)
 refine iX a (fun e c=>?_) (hA:=by refine' gK 8 ?k0;case k0=>refine' gy (fun wq hM=>rv (q6 rfl rfl (pV o_))) ?k1;case k1=>exact iE)
 refine iP tt none c 15 ?_
 refine jP (v:=(Za A.begun)) (v' := Zf) Tryz.results156 rfl rfl ?_
 exact⟨rfl,yq (yc [_,_,_] _ c)⟩
end
section
open Go Go.Sx
theorem SM(ab:Nat)(bv:Value)(A:As)(w:World)(hO:Own (Zr ab bv A) w)(hA:A.ok)(i:Nat)(r:List Nat)(hf:A.fl=i :: r) :
 CR ya 105 (Zl ab) w (fun r w' => r = .tuple (A6 i)/\∃ A2 bv2,As.ok A2/\(A2.n=A.n/\A2.begun=A.begun/\A2.used=A.used+1)/\(∀ j,A2.ia j↔A.ia j\/j=i)/\gm (Zr ab bv A) w w' (Zr ab bv2 A2)):=by
 have hAn:=hA.n
 have hAle:=hA.le
 have hAu:=hA.used
 obtain⟨hok,hin,hni,hib,hl⟩:=hA.pop hf
 have hil:=(hA.room hib).1
 obtain⟨b,hb⟩:=hA.at hib
 refine en Tryz.func105 Tryz.ntmps105 ?_
 have hst0:=(y8 hO).unpack
 have g:=yc [_,_,_] _ hst0
 refine gf hst0 10 ?_
 refine cl vq (u5 ab bv (A.n:Int) (A.begun:Int) (A.used:Int) A.last A.ps A.sl w (yd g (i:=0) rfl)) ?_
 rintro _ s ⟨rfl,ht⟩
 have h:=(yp g ht)
 have k:=yc [_,_,_] _ h
 refine fP h 9 ?_
 refine cl Oz (TH ab bv A s (yd k (i:=0) rfl) hA i hl) ?_
 rintro _ t ⟨rfl,ht⟩
 have c:=(yp k ht)
 refine fP c 25 ?_
 refine cmp rfl rfl rfl (s5 hl.symm) ?_
 have l:=yc [_,_,_] _ c
 refine fP c 7 ?_
 refine cl zC (zF ab bv (A.n:Int) (A.begun:Int) (A.used:Int) A.last A.ps A.sl t (yd l (i:=0) rfl) i o_ b hb) ?_
 rintro _ B ⟨rfl,ht⟩
 have d:=(yp l ht)
 refine fP d 1 ?_
 refine fa (o' := i%64*3+1) rfl rfl oE rfl gn (by simp only[j8];rfl) (ld rfl rfl yf rfl (AZ d (i:=2) rfl f_ d_ (by first|exact hil|(simp only[gI];exact hil)) hb rfl) (kT d 9 fun u y=>?_))
 have m:=yc [_,_,_] _ y
 refine cl zC (zF ab bv (A.n:Int) (A.begun:Int) (A.used:Int) ((fM A.sl i).after) A.ps A.sl u (yd m (i:=0) rfl) i o_ b hb) ?_
 rintro _ C ⟨rfl,ht⟩
 have o:=(yp m ht)
 refine fP o 7 ?_
 refine fa (o' := i%64*3+0) rfl rfl oE rfl gn (by simp only[j8];rfl) (qz (f:=(fun x=>{ x with st:=1 })) (L' := [blk ab 205 (KI ab bv A ((fM A.sl i).after)),fV gM bv 270 1 A.ps,gF gL.cells 274 64 A.ps (fR A.sl i (fun x=>{ x with st:=1 }))]) 2 rfl rfl rfl rfl gn rfl rfl o rfl f_ d_ (by first|exact hil|(simp only[gI];exact hil)) hb rfl rfl rfl (fun D p=>fP p 6 ?_))
 refine fa (o' := i%64*3+1) rfl rfl oE rfl gn (by simp only[j8];rfl) (qz (f:=(fun x=>{ x with after := -1 })) (L' := [blk ab 205 (KI ab bv A ((fM A.sl i).after)),fV gM bv 270 1 A.ps,gF gL.cells 274 64 A.ps (fR (fR A.sl i (fun x=>{ x with st:=1 })) i (fun x=>{ x with after := -1 }))]) 2 rfl rfl rfl rfl gn rfl rfl p rfl f_ d_ (by first|exact hil|(simp only[gI];exact hil)) hb rfl rfl rfl (fun E a=>fP a 6 ?_))
 refine fa (o' := i%64*3+2) rfl rfl oE rfl iQ (by simp only[j8];rfl) (ld rfl rfl yg rfl (AZ a (i:=2) rfl f_ d_ (by first|exact hil|(simp only[gI];exact hil)) hb rfl) (ar (e:=(IntKind.u64.wrap (((fM (fR (fR A.sl i (fun x=>{ x with st:=1 })) i (fun x=>{ x with after := -1 })) i).times)+1))) rfl rfl rfl rfl rfl (fP a 1 ?_)))
 refine fa (o' := i%64*3+2) rfl rfl oE rfl iQ (by simp only[j8];rfl) (qz (f:=(fun x=>{ x with times:=(IntKind.u64.wrap (((fM (fR (fR A.sl i (fun x=>{ x with st:=1 })) i (fun x=>{ x with after := -1 })) i).times)+1)) })) (L' := [blk ab 205 (KI ab bv A ((fM A.sl i).after)),fV gM bv 270 1 A.ps,gF gL.cells 274 64 A.ps (fR (fR (fR A.sl i (fun x=>{ x with st:=1 })) i (fun x=>{ x with after := -1 })) i (fun x=>{ x with times:=(IntKind.u64.wrap (((fM (fR (fR A.sl i (fun x=>{ x with st:=1 })) i (fun x=>{ x with after := -1 })) i).times)+1)) }))]) 2 rfl rfl rfl rfl iQ rfl rfl a rfl f_ d_ (by first|exact hil|(simp only[gI];exact hil)) hb rfl rfl rfl (fun G q=>fP q 8 ?_))
 refine ar (e:=((A.used+1:Nat):Int)) rfl rfl rfl rfl (by rw[jb o_];omega) (mF q 13 fun H z=>?_)
 refine jP (v:=(Za i)) (v' := Zc) Tryz.results105 rfl rfl ?_
 have e9:fR (fR (fR A.sl i (fun x=>{ x with st:=1 })) i (fun x=>{ x with after := -1 })) i (fun x=>{ x with times:=(IntKind.u64.wrap (((fM (fR (fR A.sl i (fun x=>{ x with st:=1 })) i (fun x=>{ x with after := -1 })) i).times)+1)) })=fR A.sl i tk:=JW hil (by rw[kI (by rw[gI];exact hil),kI hil])
 have hs9:=z
 rw[e9]at hs9
 exact⟨rfl,⟨A.n,A.begun,A.used+1,(fM A.sl i).after,fR A.sl i tk,r,A.ps⟩,bv,hok,⟨rfl,rfl,rfl⟩,hin,yq (yc [_,_,_] _ hs9)⟩
theorem SH(ab:Nat)(bv:Value)(A:As)(w:World)(hO:Own (Zr ab bv A) w)(hA:A.ok)(hf:A.fl=[])(hlt:A.begun<A.n) :
 CR ya 105 (Zl ab) w (fun r w' => r = .tuple (A6 A.begun)/\∃ A2 bv2,As.ok A2/\(A2.n=A.n/\A2.begun=A.begun+1/\A2.used=A.used+1)/\(∀ j,A2.ia j↔A.ia j\/j=A.begun)/\gm (Zr ab bv A) w w' (Zr ab bv2 A2)):=by
 have hAn:=hA.n
 have hAle:=hA.le
 have hAu:=hA.used
 have hl:A.last = -1:=by have h7:=hA.chain;rw[hf]at h7;exact h7
 refine enter (vs:=(Zj ab)) Tryz.func105 rfl Tryz.ntmps105 rfl ?_
 have hst0:St _ (AM ab bv A) w:=(y8 hO).unpack
 have y:=yc [_,_,_] _ hst0
 refine gf hst0 10 ?_
 refine x8 (vl:=(Zj ab)) rfl rfl vq (u5 ab bv (A.n:Int) (A.begun:Int) (A.used:Int) A.last A.ps A.sl w (yd y (i:=0) rfl)) ?_
 rintro _ z ⟨rfl,ht⟩
 have B:St _ (AM ab bv A) z:=(St.vG (R' := (Zr ab bv A)) 0 y rfl ht rfl).unpack
 have C:=yc [_,_,_] _ B
 refine fP B 9 ?_
 refine x8 (vl:=(Zj ab)) rfl rfl Oz (T5 ab bv A z (yd C (i:=0) rfl) hA hl hlt) ?_
 rintro _ N ⟨rfl,ht⟩
 have h:St _ (AM ab bv A) N:=(St.vG (R' := (Zr ab bv A)) 0 C rfl ht rfl).unpack
 refine fP h 25 ?_
 refine cmp (a:=(A.begun:Int)) (b:=A.last) rfl rfl rfl (BQ o_) (fP h 7 ?_)
 refine rem (a:=(A.begun:Int)) (b:=64) (e:=((A.begun%64:Nat):Int)) rfl rfl rfl d_ (B6 64) ?_
 by_cases af:(((A.begun%64:Nat):Int):Int)=(0:Int)
 . refine fP h 10 ?_
   refine al (cs:=Cu) rfl BT rfl h (fun d ag ah ai O=>lS (vs:=(Zj d)) (cs:=(Zj d)) rfl rfl vY xl rfl (by simp[Value.cells]) rfl rfl rfl O ?_)
   intro s P aj ak l
   have l:St _ [row (Zy s) 270 1 1 ((Zj d)),blk d 274 Cu,blk ab 205 (Z1 ab bv A),fV gM bv 270 1 A.ps,gF gL.cells 274 64 A.ps A.sl] P:=l
   refine nO (cf:=gM) (ys:=A.ps) (zs:=[(some d)]) (LL:=fun g=>(PZ (row (.slice (some ⟨s,0,none⟩) 1 1) 270 1 1 ([(.pointer (some ⟨d,0,none⟩))])) d ab bv A g (A.ps++[(some d)]))) 3 rfl rfl rfl vY xl rfl d_ l rfl (mO l (i:=0) rfl) (fun x hx=>zz.1 (show List.all _ _=true from rfl) x hx) (by have h7:=hA.oG;simp only[zk,zr];omega) (by have h7:=hA.oG;simp only[zk,zr];omega) f_ ?_
   intro g Q t am
   have t:St _ (PZ (row (.slice (some ⟨s,0,none⟩) 1 1) 270 1 1 ([(.pointer (some ⟨d,0,none⟩))])) d ab bv A g (A.ps++[(some d)])) Q:=t
   have m:=yi [1,2,3,4] t
   refine fP m 2 ?_
   refine mR (v:=g) (vs:=[g]) (cs' := (Z1 ab g A)) (L' := [blk d 274 Cu,blk ab 205 (Z1 ab g A),fV gM g 270 1 (A.ps++[(some d)]),gF gL.cells 274 64 A.ps A.sl]) 1 rfl rfl rfl (cells_one (mH m (i:=2) rfl)) Et rfl (oU (mH m (i:=2) rfl) uz) m rfl rfl rfl rfl ?_
   intro R D
   have S:=yi [0,3,1,2] D
   have U:St _ [gF gL.cells 274 64 (A.ps++[(some d)]) (A.sl++List.replicate 64 (⟨0,0,0⟩:gL)),blk ab 205 (Z1 ab g A),fV gM g 270 1 (A.ps++[(some d)])] R:=St.NG S hA.sl s_ rfl
   obtain⟨hok,hin,hni,hl9,hil,c,hc⟩:=hA.fresh hf hlt (ps2:=A.ps++[(some d)]) (sl2:=A.sl++List.replicate 64 (⟨0,0,0⟩:gL)) (b:=d) (.inl ⟨o_,rfl,rfl⟩)
   refine fP D 7 ?_
   refine ar (a:=(A.begun:Int)) (b:=1) (c:=(A.begun:Int)+1) (e:=((A.begun+1:Nat):Int)) rfl rfl rfl rfl (by rw[jb o_];omega) (kT U 9 fun V W=>?_)
   have X:=yi [1,2,0] W
   have E:=yc [_,_,_] _ X
   refine x8 (vl:=(FV ab A.begun)) rfl rfl zC (zF ab g (A.n:Int) ((A.begun+1:Nat):Int) (A.used:Int) A.last (A.ps++[(some d)]) (A.sl++List.replicate 64 (⟨0,0,0⟩:gL)) V (yd E (i:=0) rfl) A.begun o_ c hc) ?_
   rintro _ Y ⟨rfl,ht⟩
   have G:St _ (PS ab g A ((A.begun+1:Nat):Int) (A.ps++[(some d)]) (A.sl++List.replicate 64 (⟨0,0,0⟩:gL))) Y:=(St.vG (R' := (gD (PS ab g A ((A.begun+1:Nat):Int) (A.ps++[(some d)]) (A.sl++List.replicate 64 (⟨0,0,0⟩:gL))))) 0 E rfl ht rfl).unpack
   refine fP G 7 ?_
   refine fa (o:=A.begun%64*3+0) (o' := A.begun%64*3+0) rfl rfl oE rfl gn (by simp only[j8];rfl) (qz (cf:=gL.cells) (xs:=A.sl++List.replicate 64 (⟨0,0,0⟩:gL)) (k:=A.begun) (off:=0) (f:=(fun x=>{ x with st:=1 })) (u:=uG) (vs:=Gd) (L' := [blk ab 205 (vR ab g A ((A.begun+1:Nat):Int)),fV gM g 270 1 (A.ps++[(some d)]),gF gL.cells 274 64 (A.ps++[(some d)]) (fR (A.sl++List.replicate 64 (⟨0,0,0⟩:gL)) A.begun (fun x=>{ x with st:=1 }))]) 2 rfl rfl rfl rfl gn rfl rfl G rfl f_ d_ (by first|exact hil|(simp only[gI];exact hil)) hc rfl rfl rfl (fun an H=>fP H 6 ?_))
   refine fa (o:=A.begun%64*3+0) (o' := A.begun%64*3+1) rfl rfl oE rfl gn (by simp only[j8];rfl) (qz (cf:=gL.cells) (xs:=fR (A.sl++List.replicate 64 (⟨0,0,0⟩:gL)) A.begun (fun x=>{ x with st:=1 })) (k:=A.begun) (off:=1) (f:=(fun x=>{ x with after := -1 })) (u:=Zw) (vs:=[Zw]) (L' := [blk ab 205 (vR ab g A ((A.begun+1:Nat):Int)),fV gM g 270 1 (A.ps++[(some d)]),gF gL.cells 274 64 (A.ps++[(some d)]) (fR (fR (A.sl++List.replicate 64 (⟨0,0,0⟩:gL)) A.begun (fun x=>{ x with st:=1 })) A.begun (fun x=>{ x with after := -1 }))]) 2 rfl rfl rfl rfl gn rfl rfl H rfl f_ d_ (by first|exact hil|(simp only[gI];exact hil)) hc rfl rfl rfl (fun ao p=>fP p 6 ?_))
   refine fa (o:=A.begun%64*3+0) (o' := A.begun%64*3+2) rfl rfl oE rfl iQ (by simp only[j8];rfl) (ld (a:=⟨c,A.begun%64*3+2,none⟩) (v:=(.int .u64 ((fM (fR (fR (A.sl++List.replicate 64 (⟨0,0,0⟩:gL)) A.begun (fun x=>{ x with st:=1 })) A.begun (fun x=>{ x with after := -1 })) A.begun).times))) rfl rfl yg rfl (AZ p (i:=2) rfl f_ d_ (by first|exact hil|(simp only[gI];exact hil)) hc rfl) (ar (a:=(fM (fR (fR (A.sl++List.replicate 64 (⟨0,0,0⟩:gL)) A.begun (fun x=>{ x with st:=1 })) A.begun (fun x=>{ x with after := -1 })) A.begun).times) (b:=1) (c:=((fM (fR (fR (A.sl++List.replicate 64 (⟨0,0,0⟩:gL)) A.begun (fun x=>{ x with st:=1 })) A.begun (fun x=>{ x with after := -1 })) A.begun).times)+1) (e:=(IntKind.u64.wrap (((fM (fR (fR (A.sl++List.replicate 64 (⟨0,0,0⟩:gL)) A.begun (fun x=>{ x with st:=1 })) A.begun (fun x=>{ x with after := -1 })) A.begun).times)+1))) rfl rfl rfl rfl rfl (fP p 1 ?_)))
   refine fa (o:=A.begun%64*3+0) (o' := A.begun%64*3+2) rfl rfl oE rfl iQ (by simp only[j8];rfl) (qz (cf:=gL.cells) (xs:=fR (fR (A.sl++List.replicate 64 (⟨0,0,0⟩:gL)) A.begun (fun x=>{ x with st:=1 })) A.begun (fun x=>{ x with after := -1 })) (k:=A.begun) (off:=2) (f:=(fun x=>{ x with times:=(IntKind.u64.wrap (((fM (fR (fR (A.sl++List.replicate 64 (⟨0,0,0⟩:gL)) A.begun (fun x=>{ x with st:=1 })) A.begun (fun x=>{ x with after := -1 })) A.begun).times)+1)) })) (u:=(.int .u64 (IntKind.u64.wrap (((fM (fR (fR (A.sl++List.replicate 64 (⟨0,0,0⟩:gL)) A.begun (fun x=>{ x with st:=1 })) A.begun (fun x=>{ x with after := -1 })) A.begun).times)+1)))) (vs:=[(.int .u64 (IntKind.u64.wrap (((fM (fR (fR (A.sl++List.replicate 64 (⟨0,0,0⟩:gL)) A.begun (fun x=>{ x with st:=1 })) A.begun (fun x=>{ x with after := -1 })) A.begun).times)+1)))]) (L' := [blk ab 205 (vR ab g A ((A.begun+1:Nat):Int)),fV gM g 270 1 (A.ps++[(some d)]),gF gL.cells 274 64 (A.ps++[(some d)]) (fR (fR (fR (A.sl++List.replicate 64 (⟨0,0,0⟩:gL)) A.begun (fun x=>{ x with st:=1 })) A.begun (fun x=>{ x with after := -1 })) A.begun (fun x=>{ x with times:=(IntKind.u64.wrap (((fM (fR (fR (A.sl++List.replicate 64 (⟨0,0,0⟩:gL)) A.begun (fun x=>{ x with st:=1 })) A.begun (fun x=>{ x with after := -1 })) A.begun).times)+1)) }))]) 2 rfl rfl rfl rfl iQ rfl rfl p rfl f_ d_ (by first|exact hil|(simp only[gI];exact hil)) hc rfl rfl rfl (fun ap I=>fP I 8 ?_))
   refine ar (a:=(A.used:Int)) (b:=1) (c:=(A.used:Int)+1) (e:=((A.used+1:Nat):Int)) rfl rfl rfl rfl (by rw[jb o_];omega) (mF I 13 fun aq Z=>?_)
   refine jP (v:=(Za A.begun)) (v' := Zc) Tryz.results105 rfl rfl ?_
   have e9:fR (fR (fR (A.sl++List.replicate 64 (⟨0,0,0⟩:gL)) A.begun (fun x=>{ x with st:=1 })) A.begun (fun x=>{ x with after := -1 })) A.begun (fun x=>{ x with times:=(IntKind.u64.wrap (((fM (fR (fR (A.sl++List.replicate 64 (⟨0,0,0⟩:gL)) A.begun (fun x=>{ x with st:=1 })) A.begun (fun x=>{ x with after := -1 })) A.begun).times)+1)) })=fR (A.sl++List.replicate 64 (⟨0,0,0⟩:gL)) A.begun tk:=JW hil (by rw[kI (by rw[gI];exact hil),kI hil])
   have hs9:=Z
   rw[e9]at hs9
   exact⟨rfl,⟨A.n,A.begun+1,A.used+1,A.last,fR (A.sl++List.replicate 64 (⟨0,0,0⟩:gL)) A.begun tk,[],A.ps++[(some d)]⟩,g,hok,⟨rfl,rfl,rfl⟩,hin,yw (R' := (QE ab g ((⟨A.n,A.begun+1,A.used+1,A.last,fR (A.sl++List.replicate 64 (⟨0,0,0⟩:gL)) A.begun tk,[],A.ps++[(some d)]⟩:As).n:Int) ((⟨A.n,A.begun+1,A.used+1,A.last,fR (A.sl++List.replicate 64 (⟨0,0,0⟩:gL)) A.begun tk,[],A.ps++[(some d)]⟩:As).begun:Int) ((⟨A.n,A.begun+1,A.used+1,A.last,fR (A.sl++List.replicate 64 (⟨0,0,0⟩:gL)) A.begun tk,[],A.ps++[(some d)]⟩:As).used:Int) (⟨A.n,A.begun+1,A.used+1,A.last,fR (A.sl++List.replicate 64 (⟨0,0,0⟩:gL)) A.begun tk,[],A.ps++[(some d)]⟩:As))) (yc [_,_,_] _ hs9) zh⟩
 . obtain⟨hok,hin,hni,hl9,hil,c,hc⟩:=hA.fresh hf hlt (ps2:=A.ps) (sl2:=A.sl) (b:=0) (.inr ⟨o_,rfl,rfl⟩)
   refine fP h 11 ?_
   refine ar (a:=(A.begun:Int)) (b:=1) (c:=(A.begun:Int)+1) (e:=((A.begun+1:Nat):Int)) rfl rfl rfl rfl (by rw[jb o_];omega) (kT h 9 fun aa ac=>?_)
   have J:=yc [_,_,_] _ ac
   refine x8 (vl:=(FV ab A.begun)) rfl rfl zC (zF ab bv (A.n:Int) ((A.begun+1:Nat):Int) (A.used:Int) A.last A.ps A.sl aa (yd J (i:=0) rfl) A.begun o_ c hc) ?_
   rintro _ ad ⟨rfl,ht⟩
   have K:St _ (QO ab bv A ((A.begun+1:Nat):Int)) ad:=(St.vG (R' := (gD (QO ab bv A ((A.begun+1:Nat):Int)))) 0 J rfl ht rfl).unpack
   refine fP K 7 ?_
   refine fa (o:=A.begun%64*3+0) (o' := A.begun%64*3+0) rfl rfl oE rfl gn (by simp only[j8];rfl) (qz (cf:=gL.cells) (xs:=A.sl) (k:=A.begun) (off:=0) (f:=(fun x=>{ x with st:=1 })) (u:=uG) (vs:=Gd) (L' := [blk ab 205 (vR ab bv A ((A.begun+1:Nat):Int)),fV gM bv 270 1 A.ps,gF gL.cells 274 64 A.ps (fR A.sl A.begun (fun x=>{ x with st:=1 }))]) 2 rfl rfl rfl rfl gn rfl rfl K rfl f_ d_ (by first|exact hil|(simp only[gI];exact hil)) hc rfl rfl rfl (fun au L=>fP L 6 ?_))
   refine fa (o:=A.begun%64*3+0) (o' := A.begun%64*3+1) rfl rfl oE rfl gn (by simp only[j8];rfl) (qz (cf:=gL.cells) (xs:=fR A.sl A.begun (fun x=>{ x with st:=1 })) (k:=A.begun) (off:=1) (f:=(fun x=>{ x with after := -1 })) (u:=Zw) (vs:=[Zw]) (L' := [blk ab 205 (vR ab bv A ((A.begun+1:Nat):Int)),fV gM bv 270 1 A.ps,gF gL.cells 274 64 A.ps (fR (fR A.sl A.begun (fun x=>{ x with st:=1 })) A.begun (fun x=>{ x with after := -1 }))]) 2 rfl rfl rfl rfl gn rfl rfl L rfl f_ d_ (by first|exact hil|(simp only[gI];exact hil)) hc rfl rfl rfl (fun av q=>fP q 6 ?_))
   refine fa (o:=A.begun%64*3+0) (o' := A.begun%64*3+2) rfl rfl oE rfl iQ (by simp only[j8];rfl) (ld (a:=⟨c,A.begun%64*3+2,none⟩) (v:=(.int .u64 ((fM (fR (fR A.sl A.begun (fun x=>{ x with st:=1 })) A.begun (fun x=>{ x with after := -1 })) A.begun).times))) rfl rfl yg rfl (AZ q (i:=2) rfl f_ d_ (by first|exact hil|(simp only[gI];exact hil)) hc rfl) (ar (a:=(fM (fR (fR A.sl A.begun (fun x=>{ x with st:=1 })) A.begun (fun x=>{ x with after := -1 })) A.begun).times) (b:=1) (c:=((fM (fR (fR A.sl A.begun (fun x=>{ x with st:=1 })) A.begun (fun x=>{ x with after := -1 })) A.begun).times)+1) (e:=(IntKind.u64.wrap (((fM (fR (fR A.sl A.begun (fun x=>{ x with st:=1 })) A.begun (fun x=>{ x with after := -1 })) A.begun).times)+1))) rfl rfl rfl rfl rfl (fP q 1 ?_)))
   refine fa (o:=A.begun%64*3+0) (o' := A.begun%64*3+2) rfl rfl oE rfl iQ (by simp only[j8];rfl) (qz (cf:=gL.cells) (xs:=fR (fR A.sl A.begun (fun x=>{ x with st:=1 })) A.begun (fun x=>{ x with after := -1 })) (k:=A.begun) (off:=2) (f:=(fun x=>{ x with times:=(IntKind.u64.wrap (((fM (fR (fR A.sl A.begun (fun x=>{ x with st:=1 })) A.begun (fun x=>{ x with after := -1 })) A.begun).times)+1)) })) (u:=(.int .u64 (IntKind.u64.wrap (((fM (fR (fR A.sl A.begun (fun x=>{ x with st:=1 })) A.begun (fun x=>{ x with after := -1 })) A.begun).times)+1)))) (vs:=[(.int .u64 (IntKind.u64.wrap (((fM (fR (fR A.sl A.begun (fun x=>{ x with st:=1 })) A.begun (fun x=>{ x with after := -1 })) A.begun).times)+1)))]) (L' := [blk ab 205 (vR ab bv A ((A.begun+1:Nat):Int)),fV gM bv 270 1 A.ps,gF gL.cells 274 64 A.ps (fR (fR (fR A.sl A.begun (fun x=>{ x with st:=1 })) A.begun (fun x=>{ x with after := -1 })) A.begun (fun x=>{ x with times:=(IntKind.u64.wrap (((fM (fR (fR A.sl A.begun (fun x=>{ x with st:=1 })) A.begun (fun x=>{ x with after := -1 })) A.begun).times)+1)) }))]) 2 rfl rfl rfl rfl iQ rfl rfl q rfl f_ d_ (by first|exact hil|(simp only[gI];exact hil)) hc rfl rfl rfl (fun aw M=>fP M 8 ?_))
   refine ar (a:=(A.used:Int)) (b:=1) (c:=(A.used:Int)+1) (e:=((A.used+1:Nat):Int)) rfl rfl rfl rfl (by rw[jb o_];omega) (mF M 13 fun ax ae=>?_)
   refine jP (v:=(Za A.begun)) (v' := Zc) Tryz.results105 rfl rfl ?_
   have e9:fR (fR (fR A.sl A.begun (fun x=>{ x with st:=1 })) A.begun (fun x=>{ x with after := -1 })) A.begun (fun x=>{ x with times:=(IntKind.u64.wrap (((fM (fR (fR A.sl A.begun (fun x=>{ x with st:=1 })) A.begun (fun x=>{ x with after := -1 })) A.begun).times)+1)) })=fR A.sl A.begun tk:=JW hil (by rw[kI (by rw[gI];exact hil),kI hil])
   have hs9:=ae
   rw[e9]at hs9
   exact⟨rfl,⟨A.n,A.begun+1,A.used+1,A.last,fR A.sl A.begun tk,[],A.ps⟩,bv,hok,⟨rfl,rfl,rfl⟩,hin,yw (R' := (QE ab bv ((⟨A.n,A.begun+1,A.used+1,A.last,fR A.sl A.begun tk,[],A.ps⟩:As).n:Int) ((⟨A.n,A.begun+1,A.used+1,A.last,fR A.sl A.begun tk,[],A.ps⟩:As).begun:Int) ((⟨A.n,A.begun+1,A.used+1,A.last,fR A.sl A.begun tk,[],A.ps⟩:As).used:Int) (⟨A.n,A.begun+1,A.used+1,A.last,fR A.sl A.begun tk,[],A.ps⟩:As))) (yc [_,_,_] _ hs9) zh⟩
theorem VA(ab:Nat)(bv:Value)(A:As)(w:World)(hO:Own (Zr ab bv A) w)(hA:A.ok)(i:Nat)(hi:A.ia i) :
 CR ya 98 (Zn ab i) w (fun r w' => r = .int .i64 0/\∃ A2,As.ok A2/\(A2.n=A.n/\A2.begun=A.begun/\A2.used=A.used-1)/\(∀ j,A2.ia j↔A.ia j/\j≠i)/\gm (Zr ab bv A) w w' (Zr ab bv A2)):=by
 have hAn:=hA.n
 have hAle:=hA.le
 have hAu:=hA.used
 have hib:=hi.1
 have hif:=hi.2
 have hil:=(hA.room hib).1
 obtain⟨b,hb⟩:=hA.at hib
 have hu0:=(hA.free hi rfl).2.2
 refine en Tryz.func98 Tryz.ntmps98 ?_
 have hst0:=(y8 hO).unpack
 have c:=yc [_,_,_] _ hst0
 refine gf hst0 9 ?_
 refine cl vq (u5 ab bv (A.n:Int) (A.begun:Int) (A.used:Int) A.last A.ps A.sl w (yd c (i:=0) rfl)) ?_
 rintro _ m ⟨rfl,ht⟩
 have a:=(yp c ht)
 refine fP a 10 ?_
 refine cmp rfl rfl rfl (mz o_) (fP a 6 ?_)
 refine cmp rfl rfl rfl (zO o_) ?_
 have d:=yc [_,_,_] _ a
 refine fP a 11 ?_
 refine cl Oj (L6 ab bv A m (yd d (i:=0) rfl) hA i o_) ?_
 rintro _ o ⟨rfl,ht⟩
 have g:=(yp d ht)
 refine cmp rfl rfl rfl (xh (by rw[if_pos hib,hA.st i hib,if_neg hif])) ?_
 have h:=yc [_,_,_] _ g
 refine fP g 9 ?_
 refine cl zC (zF ab bv (A.n:Int) (A.begun:Int) (A.used:Int) A.last A.ps A.sl o (yd h (i:=0) rfl) i o_ b hb) ?_
 rintro _ t ⟨rfl,ht⟩
 have k:=(yp h ht)
 refine fP k 7 ?_
 refine fa (o' := i%64*3+0) rfl rfl oE rfl gn (by simp only[j8];rfl) (qz (f:=(fun x=>{ x with st:=2 })) (L' := [blk ab 205 (Z1 ab bv A),fV gM bv 270 1 A.ps,gF gL.cells 274 64 A.ps (fR A.sl i (fun x=>{ x with st:=2 }))]) 2 rfl rfl rfl rfl gn rfl rfl k rfl f_ d_ (by first|exact hil|(simp only[gI];exact hil)) hb rfl rfl rfl (fun u l=>fP l 10 ?_))
 refine fa (o' := i%64*3+1) rfl rfl oE rfl gn (by simp only[j8];rfl) (qz (f:=(fun x=>{ x with after:=A.last })) (L' := [blk ab 205 (Z1 ab bv A),fV gM bv 270 1 A.ps,gF gL.cells 274 64 A.ps (fR (fR A.sl i (fun x=>{ x with st:=2 })) i (fun x=>{ x with after:=A.last }))]) 2 rfl rfl rfl rfl gn rfl rfl l rfl f_ d_ (by first|exact hil|(simp only[gI];exact hil)) hb rfl rfl rfl (fun y p=>kT p 17 fun z q=>?_))
 refine ar (e:=((A.used-1:Nat):Int)) rfl rfl rfl rfl (by rw[jb o_];omega) (mF q 11 fun B s=>?_)
 refine gq (v:=Zc) Tryz.results98 rfl ?_
 exact⟨rfl,⟨A.n,A.begun,A.used-1,(i:Int),fR (fR A.sl i (fun x=>{ x with st:=2 })) i (fun x=>{ x with after:=A.last }),i :: A.fl,A.ps⟩,(hA.free hi rfl).1,⟨rfl,rfl,rfl⟩,(hA.free hi rfl).2.1,yq (yc [_,_,_] _ s)⟩
theorem VP(ab:Nat)(bv:Value)(A:As)(w:World)(hO:Own (Zr ab bv A) w)(hA:A.ok) :
 CR ya 58 (Zl ab) w (fun r w' => ∃ lv,r=lv/\gm (Zr ab bv A) w w' (gD (Ql ab bv A lv (gw (A.list A.begun))))):=by
 have hAn:=hA.n
 have hAle:=hA.le
 have hAu:=hA.used
 refine en Tryz.func58 Tryz.ntmps58 ?_
 have hst0:=(y8 hO).unpack
 have e:=yc [_,_,_] _ hst0
 refine gf hst0 9 ?_
 refine cl vq (u5 ab bv (A.n:Int) (A.begun:Int) (A.used:Int) A.last A.ps A.sl w (yd e (i:=0) rfl)) ?_
 rintro _ x ⟨rfl,ht⟩
 have f:=(yp e ht)
 refine fP f 12 ?_
 refine mks (m:=0) (c:=A.used) rfl (gG o_) rfl yh gn rfl o_ o_ o_ f ?_
 intro o y z B p
 have g:=St.Pq (i:=0) (m:=0) (c:=A.used) (sz:=1) p rfl s_ o_ (by simp only[maxLen];omega)
 have q:=yi [1,2,3,0] g
 refine gQ g 14 ?_
 refine lp (α:=Nat×Value) (fun(k,lv)=>[(0,(Zb ab)),(3,lv),(16,(Za A.begun)),(17,(Za k))]) (fun(k,lv) w1=>St [(w,(Zr ab bv A).gR)] (Ql ab bv A lv (gw (A.list k))) w1/\k<=A.begun) (fun(k,lv)=>A.begun-k) (0,(.slice (some ⟨o,0,none⟩) 0 A.used)) ⟨rfl,rfl,rfl,gG (by first|rfl|omega),trivial⟩ (⟨q,o_⟩) ?_
 rintro⟨k,lv⟩ C s ⟨hst2,hk2⟩
 refine gf hst2 2 ?_
 by_cases D:((k:Int):Int)<((A.begun:Int):Int)
 . have hkb:k<A.begun:=by omega
   have h:=yc [_,_,_] _ hst2
   refine fP hst2 19 ?_
   refine cl Oj (L6 ab bv A s (yd h (i:=0) rfl) hA k o_) ?_
   rintro _ E ⟨rfl,ht⟩
   have a:=(yp h ht)
   by_cases b:((if k<A.begun then(fM A.sl k).st else 0):Int)=(1:Int)
   . refine fP a 1 ?_
     rw[if_pos hkb]at b
     refine fP a 6 ?_
     refine lS (vs:=(Ze k)) (cs:=(Ze k)) rfl rfl yh gn rfl (by simp[Value.cells]) rfl rfl rfl a (fun t G H I j=>JM (k:=.i64) (ys:=gw (A.list k)) (zs:=[(k:Int)]) (LL:=fun d=>[iA .i64 (Zy t) 3 ([(k:Int)]),blk ab 205 (Z1 ab bv A),fV gM bv 270 1 A.ps,gF gL.cells 274 64 A.ps A.sl,iA .i64 d 3 ((gw (A.list k))++([(k:Int)]))]) 4 rfl rfl rfl yh gn rfl j rfl (mO j (i:=0) rfl) (by have h7:=A.ME k;simp only[gw,zu,zk,zr];omega) (by have h7:=A.ME k;simp only[gw,zu,zk,zr];omega) f_ ?_)
     intro d J u K
     have l:=yi [1,2,3,4] u
     refine fW l 8 ?_
     refine tN (?_)
     exact again ((k+1),d) ⟨rfl,rfl,rfl,gG (by first|rfl|omega),trivial⟩ (⟨by rw[As.LY,if_pos b];rw[gw,qN];exact l,o_⟩) (by show (A.begun-(k+1):Nat)<A.begun-k;omega)
   . refine fP a 1 ?_
     rw[if_pos hkb]at b
     refine fW a 10 ?_
     refine tN (?_)
     exact again ((k+1),lv) ⟨rfl,rfl,rfl,gG (by first|rfl|omega),trivial⟩ (⟨by rw[As.LY,if_neg b];exact a,o_⟩) (by show (A.begun-(k+1):Nat)<A.begun-k;omega)
 . refine fW hst2 17 ?_
   refine gq (v:=lv) Tryz.results58 rfl ?_
   obtain rfl:k=A.begun:=by omega
   exact⟨lv,rfl,yq (yc [_,_,_,_] _ hst2)⟩
theorem WB(n:Nat)(w:World)(hn:n<=65536) :
 CR ya 80 (sj n) w (fun r w' => ∃ ab,r = .tuple (qL ab)/\gm (gD []) w w' (gD [blk ab 205 [(Zb ab),Zk,(Za ((As.new n).n:Int)),(Za ((As.new n).begun:Int)),(Za ((As.new n).used:Int)),(Za ((As.new n).last))],fV gM Zk 270 1 ((As.new n).ps),gF gL.cells 274 64 ((As.new n).ps) ((As.new n).sl)])):=by
 refine en Tryz.func80 Tryz.ntmps80 ?_
 have hst0:=jI w
 refine gf hst0 10 ?_
 refine cmp rfl rfl rfl (mz o_) (fP hst0 2 ?_)
 refine cmp rfl rfl rfl (uq o_) (fP hst0 9 ?_)
 refine kj (pvs:=[(2,(Za n)),(5,Zw)]) (v:=.agg (QG n)) rfl rfl (jY [(2,(Ze n)),(5,[Zw])] Er OQ rfl ⟨rfl,rfl,rfl,rfl,trivial⟩ rfl) (bx (v:=(.agg (QG n))) (cs:=[Z6,Zk,(Za n),Zc,Zc,Zw]) rfl rfl rfl hst0 (fun a e f g b=>mF b 20 fun c d=>?_))
 refine jP (v:=(Zb a)) (v' := Zc) Tryz.results80 rfl rfl ?_
 have hs7:=uO d 270 1
 have hs8:St _ (QA a n) c:=St.D6 hs7 0
 have hs9:=ox hs8 (List.reverse_perm (QA a n)).symm
 exact⟨a,rfl,St.eM (yc [_,_,_] [] hs9)⟩
end
section
open Go Go.Sx
theorem U2(ab:Nat)(bv:Value)(A:As)(w:World)(hO:Own (Zr ab bv A) w)(hA:A.ok) :
 CR ya 91 (Zl ab) w (fun r w' => ∃ ab2 bv2 qs,r = .pointer (some ⟨ab2,0,none⟩)/\As.ok { A with ps:=qs }/\gm (Zr ab bv A) w w' (Qk ab bv A ab2 bv2 qs)):=by
 have hAn:=hA.n
 have hAle:=hA.le
 have hAu:=hA.used
 have hpl:=hA.oG
 refine enter (vs:=(Zj ab)) Tryz.func91 rfl Tryz.ntmps91 rfl ?_
 have hst0:=(y8 hO).unpack
 have j:=yc [_,_,_] _ hst0
 refine gf hst0 9 ?_
 refine x8 (vl:=(Zj ab)) rfl rfl vq (u5 ab bv (A.n:Int) (A.begun:Int) (A.used:Int) A.last A.ps A.sl w (yd j (i:=0) rfl)) ?_
 rintro _ L ⟨rfl,ht⟩
 have l:=(St.vG (R' := (Zr ab bv A)) 0 j rfl ht rfl).unpack
 refine gQ l 7 ?_
 refine jM l 17 ?_ (hA:=by refine' gK 16 ?k0;case k0=>refine' gy (fun wq hM=>rv (xg (pvs:=[(2,(Za A.n)),(3,(Za A.begun)),(4,(Za A.used)),(5,(Za A.last))]) (v:=.agg (Qx A)) rfl (jY [(2,(Ze A.n)),(3,(Ze A.begun)),(4,(Ze A.used)),(5,(Ze A.last))] Er OQ rfl ⟨rfl,rfl,rfl,rfl,rfl,rfl,rfl,rfl,trivial⟩ rfl))) ?k1;case k1=>exact iE)
 intro wq hM
 refine EG (v:=(.agg (Qx A))) (cs:=[Z6,Zk,(Za A.n),(Za A.begun),(Za A.used),(Za A.last)]) rfl rfl rfl hM (fun c _ h=>(jN h (fun M y=>?_)))
 refine Qz tt none y 13 fun p z=>?_
 have B:St _ [fV gM Zk 270 1 ([]),blk c 205 (QU c A),blk ab 205 (Z1 ab bv A),fV gM bv 270 1 A.ps,gF gL.cells 274 64 A.ps A.sl] p:=uO z 270 1
 have f:St _ [gF gL.cells 274 64 ([]) (A.sl.take (64*0)),fV gM Zk 270 1 ([]),blk c 205 (QU c A),blk ab 205 (Z1 ab bv A),fV gM bv 270 1 A.ps,gF gL.cells 274 64 A.ps A.sl] p:=St.D6 B 0
 refine fP f 4 ?_
 refine mM (m:=A.ps.length) 4 rfl rfl vY f rfl ?_
 have C:=yi [3,4,5,2,1,0] f
 refine gQ f 4 ?_
 refine lp (α:=Nat×Value×List (Option Nat)) (fun(k,v2,qs)=>[(3,(Zb c)),(35,bv),(36,(Za A.ps.length)),(37,(Za k))]) (fun(k,v2,qs) w1=>St [(w,(Zr ab bv A).gR)] [blk ab 205 (Z1 ab bv A),fV gM bv 270 1 A.ps,gF gL.cells 274 64 A.ps A.sl,blk c 205 (Z1 c v2 A),fV gM v2 270 1 qs,gF gL.cells 274 64 qs (A.sl.take (64*k))] w1/\k<=A.ps.length/\xN qs k) (fun(k,v2,qs)=>A.ps.length-k) (0,Zk,[]) ⟨rfl,rfl,rfl,gG (by first|rfl|omega),trivial⟩ (⟨C,o_,xN.start⟩) ?_
 rintro⟨k,v2,qs⟩ N O ⟨hst3,hk3,hC⟩
 have hql:=hC.len
 refine gf hst3 2 ?_
 by_cases P:((k:Int):Int)<((A.ps.length:Int):Int)
 . have hk:k<A.ps.length:=by omega
   obtain⟨bq,hbq⟩:=hA.ps k hk
   refine fP hst3 11 ?_
   refine ji (cf:=gM) (k:=k) (i:=(k:Int)) rfl rfl rfl vY xl (ye hst3 (i:=1) rfl f_) o_ o_ (gx om) (lI (cf:=gM) (u:=(.pointer ((fM A.ps k).map fun b=>⟨b,0,none⟩))) rfl rfl Tryz.underlying270 rfl (ye hst3 (i:=1) rfl f_) (gx om) rfl (fP hst3 6 ?_))
   refine rX (a:=⟨bq,0,none⟩) rfl (yV (Ew hbq)) ?_
   have hcl:(((A.sl.drop (64*k)).take 64).flatMap gL.cells).length=192:=Mg (cf:=gL.cells) (sz:=3) f_ hA.sl hk
   refine oZ (b:=bq) (o:=0) (cs:=(((A.sl.drop (64*k)).take 64).flatMap gL.cells)) rfl rfl Tryz.underlying274 rfl BT hcl (St.Mn hst3 (i:=2) rfl ((gx hk).trans (congrArg some (Ew hbq)))) (al (cs:=Cu) rfl BT rfl hst3 (fun d Q R S D=>lZ (v:=.agg (((A.sl.drop (64*k)).take 64).flatMap gL.cells).toArray) (vs:=(((A.sl.drop (64*k)).take 64).flatMap gL.cells)) (L' := [blk d 274 (((A.sl.drop (64*k)).take 64).flatMap gL.cells),blk ab 205 (Z1 ab bv A),fV gM bv 270 1 A.ps,gF gL.cells 274 64 A.ps A.sl,blk c 205 (Z1 c v2 A),fV gM v2 270 1 qs,gF gL.cells 274 64 qs (A.sl.take (64*k))]) 0 rfl rfl rfl rfl BT hcl (zz.2 (yW f_ _)) D rfl (by rw[hcl];decide) (LX (by rw[hcl];rfl)) rfl (fun U q V=>fP q 8 ?_)))
   refine lS (vs:=(Zj d)) (cs:=(Zj d)) rfl rfl vY xl rfl (by simp[Value.cells]) rfl rfl rfl q (fun E W X Y s=>nO (cf:=gM) (ys:=qs) (zs:=[(some d)]) (LL:=fun e=>[row (Zy E) 270 1 1 ((Zj d)),blk d 274 (((A.sl.drop (64*k)).take 64).flatMap gL.cells),blk ab 205 (Z1 ab bv A),fV gM bv 270 1 A.ps,gF gL.cells 274 64 A.ps A.sl,blk c 205 (Z1 c v2 A),fV gM e 270 1 (qs++[(some d)]),gF gL.cells 274 64 qs (A.sl.take (64*k))]) 6 rfl rfl rfl vY xl rfl d_ s rfl (mO s (i:=0) rfl) (fun x hx=>zz.1 (show List.all _ _=true from rfl) x hx) (by have h7:=hA.oG;simp only[zk,zr];omega) (by have h7:=hA.oG;simp only[zk,zr];omega) f_ ?_)
   intro e Z G aa
   have g:=yi [1,2,3,4,5,6,7] G
   refine fP g 2 ?_
   refine mR (v:=e) (vs:=[e]) (L' := [blk d 274 (((A.sl.drop (64*k)).take 64).flatMap gL.cells),blk ab 205 (Z1 ab bv A),fV gM bv 270 1 A.ps,gF gL.cells 274 64 A.ps A.sl,blk c 205 (Z1 c e A),fV gM e 270 1 (qs++[(some d)]),gF gL.cells 274 64 qs (A.sl.take (64*k))]) 4 rfl rfl rfl (cells_one (mH g (i:=5) rfl)) Et rfl (oU (mH g (i:=5) rfl) uz) g rfl rfl rfl rfl (fun H t=>fW t 7 ?_)
   refine tN (?_)
   have I:=yi [0,6,1,2,3,4,5] t
   have hck:=Xx hA.sl hk
   have J:St [(w,(Zr ab bv A).gR)] [gF gL.cells 274 64 (qs++[(some d)]) (A.sl.take (64*(k+1))),blk ab 205 (Z1 ab bv A),fV gM bv 270 1 A.ps,gF gL.cells 274 64 A.ps A.sl,blk c 205 (Z1 c e A),fV gM e 270 1 (qs++[(some d)])] H:=by rw[<-Su];exact St.NG I (by rw[hck.2,hql]) hck.1 rfl
   have K:=yi [1,2,3,4,5,0] J
   exact again ((k+1),e,qs++[(some d)]) ⟨rfl,rfl,rfl,gG (by first|rfl|omega),trivial⟩ (⟨K,o_,hC.next⟩) (by show (A.ps.length-(k+1):Nat)<A.ps.length-k;omega)
 . refine fW hst3 17 ?_
   refine gq (v:=(Zb c)) Tryz.results91 rfl ?_
   have hke:k=A.ps.length:=by omega
   have hs9:=hst3
   rw[r8 (show A.sl.length<=64*k by rw[hke];exact Nat.le_of_eq hA.sl)]at hs9
   exact⟨c,v2,qs,rfl,hA.copy o_ hC.all,yw (R' := (Qk ab bv A c v2 qs)) (yc [_,_,_,_,_,_] _ hs9) zh⟩
end
section
open Go Go.Sx
def AW.R(ab:Nat)(v:AW):gh:=jX v.A.ok (Zr ab v.bv v.A)
abbrev sy(a:fZ):=(AW.R a.iN a.aw:gh)
abbrev Cm(a:Nat) b (c:Nat) d:=(gD [AW.R a b,AW.R c d]:gh)
abbrev QB(a b:Nat) c (d:TW) e f:=([blk a 258 [.pointer (some ⟨a,0,none⟩),.pointer (some ⟨b,0,none⟩),c,d.cv],fV jS c 30 1 e,fV gO d.cv 3 1 d.cs,AW.R b f]:List gh)
abbrev Q0(a b:Nat)(c:TW) d e f:=([blk a 258 (nZ a b c),fV jS c.iv 30 1 d,fV gO c.cv 3 1 e,AW.R b f]:List gh)
theorem Im(ab:Nat)(v:AW)(w:World)(hO:Own (AW.R ab v) w) :
 CR ya 86 (Zl ab) w (fun r w' => r = .int .i64 (v.A.used:Int)/\gm (AW.R ab v) w w' (AW.R ab v)):=by
 exact CR.mono (WG ab v.bv v.A w hO.un hO.fact) fun r w' ⟨h1,ht⟩=>⟨h1,ht.p8 hO.fact⟩
theorem LN(ab:Nat)(v:AW)(w:World)(hO:Own (AW.R ab v) w)(hu:v.A.used<v.A.n) :
 CR ya 105 (Zl ab) w (fun r w' => ∃ i v2,r = .tuple (A6 ((i:Nat):Int))/\AW.put v.A v2.A i/\gm (AW.R ab v) w w' (AW.R ab v2)):=by
 have hA:=hO.fact
 rcases hA.full hu with ⟨i,l,hf⟩|⟨hf,hlt⟩
 . have hp:=hA.pop hf
   exact CR.mono (SM ab v.bv v.A w hO.un hA i l hf) fun r w' ⟨h1,A2,bv2,hok,⟨e1,e2,e3⟩,hin,ht⟩=>⟨i,⟨bv2,A2⟩,h1,⟨e1,e3,hin,hp.2.2.1,.inl ⟨hp.2.2.2.1,e2⟩⟩,ht.p8 hok⟩
 . exact CR.mono (SH ab v.bv v.A w hO.un hA hf hlt) fun r w' ⟨h1,A2,bv2,hok,⟨e1,e2,e3⟩,hin,ht⟩=>⟨v.A.begun,⟨bv2,A2⟩,h1,⟨e1,e3,hin,fun h=>Nat.lt_irrefl _ h.1,.inr ⟨rfl,e2⟩⟩,ht.p8 hok⟩
theorem Mt(ab:Nat)(v:AW)(w:World)(hO:Own (AW.R ab v) w)(i:Nat)(hi:v.A.ia i) :
 CR ya 98 (Zn ab i) w (fun r w' => ∃ v2,r = .int .i64 0/\AW.del v.A v2.A i/\gm (AW.R ab v) w w' (AW.R ab v2)):=by
 exact CR.mono (VA ab v.bv v.A w hO.un hO.fact i hi) fun r w' ⟨h1,A2,hok,⟨e1,e2,e3⟩,hin,ht⟩=>⟨⟨v.bv,A2⟩,h1,⟨e1,e2,e3,(hO.fact.free hi rfl).2.2,hin⟩,ht.p8 hok⟩
theorem NC(n:Nat)(w:World)(hn:n<=65536) :
 CR ya 80 (sj n) w (fun r w' => ∃ ab v,r = .tuple (qL ab)/\v.A=As.new n/\gm (gD []) w w' (AW.R ab v)):=by
 exact CR.mono (WB n w hn) fun r w' ⟨ab,h1,ht⟩=>⟨ab,⟨.slice none 0 0,As.new n⟩,h1,rfl,ht.ot (As.vt hn)⟩
theorem M6(ab:Nat)(v:AW)(w:World)(hO:Own (AW.R ab v) w) :
 CR ya 91 (Zl ab) w (fun r w' => ∃ ab2 v2,r = .pointer (some ⟨ab2,0,none⟩)/\(∃ qs,v2.A={ v.A with ps:=qs })/\gm (AW.R ab v) w w' (Cm ab v ab2 v2)):=by
 refine CR.mono (U2 ab v.bv v.A w hO.un hO.fact) fun r w' ⟨ab2,bv2,qs,h1,hok,ht⟩=>⟨ab2,⟨bv2,{ v.A with ps:=qs }⟩,h1,⟨qs,rfl⟩,(gm.Ey (A:=(AM ab v.bv v.A)) (B:=[blk ab2 205 (Z1 ab2 bv2 v.A),fV gM bv2 270 1 qs,gF gL.cells 274 64 qs v.A.sl]) ht).F6.EM rfl (fun h=>?_)⟩
 intro Q hQ
 simp only[zg,se,or_false]at hQ
 rcases hQ with rfl|rfl
 . exact⟨hO.fact,h _ s_⟩
 . exact⟨hok,h _ s_⟩
end
section
open Go Go.Sx
def TW.R(tb ab:Nat)(t:TW):gh:=jX t.ok (gD [blk tb 258 (nZ tb ab t),fV jS t.iv 30 1 t.ids,fV gO t.cv 3 1 t.cs,(AW.R ab t.w)])
abbrev v8(a:fZ) b:=(TW.R a.tb a.ab b:gh)
abbrev Z8(a:fZ):=(TW.R a.tb a.ab a.t:gh)
abbrev QF a (b:Nat) (c:Lv) (d:Nat) (e f:Int) (g:fZ) h i j (k:Nat):=([iM 3 a,blk b 34 (Zs c),blk d 130 (Z7 e f g h),fV Lv.cells g.lv 34 7 i,gP g.mb .u64 p_ a,AW.R g.iN j,TW.R g.tb g.ab g.t,blk k 34 Zx]:List gh)
abbrev PV a b c (d:Nat) (e:Lv) (f:Nat) (g h:Int) (i:fZ) j k l m (n:Nat):=([iA .i64 a 3 b,iM 3 c,blk d 34 (Zs e),blk f 130 (Z7 g h i j),fV Lv.cells i.lv 34 7 k,gP i.mb .u64 p_ l,AW.R i.iN m,TW.R i.tb i.ab i.t,blk n 34 Zx]:List gh)
abbrev JZ a (b:Nat) (c:Lv) (d:Nat) (e f:Int) (g:fZ) h i j k (l:Nat):=([iM 3 a,blk b 34 (Zs c),blk d 130 (Z7 e f g h),fV Lv.cells g.lv 34 7 i,gP g.mb .u64 p_ a,AW.R g.iN j,TW.R g.tb g.ab k,blk l 34 (Zs c)]:List gh)
abbrev Km a b c d (e:Nat) (f g:Int) (h:fZ) i j k (l m n:Nat) o p q r s t (u:Nat) v:=([fV gO a 3 1 b,fV gO c 3 1 b,iM 3 d,blk e 130 (Z7 f g h i),fV Lv.cells h.lv 34 7 h.live,j,iM 3 k,AW.R h.iN h.aw,TW.R h.tb h.ab h.t,blk l 130 (yA f g h.last m n o p),fV Lv.cells o 34 7 h.live,gP q .u64 p_ r,iM 3 s,AW.R m t,TW.R n u v]:List gh)
abbrev Qt a (b:Nat) (c d:Int) (e:Lv) (f:Nat) (g h:Int) (i:fZ) j k l m n (o p:Nat):=([iM 3 a,blk b 34 (Z9 c d e),blk f 130 (xY g h d i j k),fV Lv.cells j 34 7 l,gP i.mb .u64 p_ a,AW.R i.iN m,TW.R i.tb i.ab n,blk o 34 Zx,blk p 32 (Zp e)]:List gh)
abbrev Qm a (b:Nat) (c d:Int) (e:Lv) (f:Nat) (g h:Int) (i:fZ) j k l m (n o:Nat):=([iM 3 a,blk b 34 (Z9 c d e),blk f 130 (sv g h d i j),fV Lv.cells i.lv 34 7 k,gP i.mb .u64 p_ a,AW.R i.iN l,TW.R i.tb i.ab m,blk n 34 Zx,blk o 32 (Zp e)]:List gh)
abbrev QH(a:Nat)(b c:Int)(d:Lv)(e:Nat)(f g:Int)(h:fZ) i j k l (m n:Nat):=([blk a 34 (Z9 b c d),blk e 130 (xY f g c h i j),fV Lv.cells i 34 7 k,gP h.mb .u64 p_ h.im,iM 3 h.im,AW.R h.iN l,TW.R h.tb h.ab h.t,blk m 34 Zx,blk n 32 (Zp d)]:List gh)
abbrev P0(a:Nat)(b c:Int)(d:Lv)(e:Nat)(f g:Int)(h:fZ) i j (k l:Nat):=([blk a 34 (Z9 b c d),blk e 130 (sv f g c h i),fV Lv.cells h.lv 34 7 h.live,gP h.mb .u64 p_ h.im,iM 3 h.im,AW.R h.iN j,TW.R h.tb h.ab h.t,blk k 34 Zx,blk l 32 (Zp d)]:List gh)
abbrev AY(a:Nat) b c d e (f:Nat) (g h:Int) (i:Lv) (j:Nat) (k l:Int) (m:fZ) n o p q r s (t u:Nat):=([iA .i64 (Zy a) 3 b,iA .i64 c 3 d,iM 3 e,blk f 34 (Z9 g h i),blk j 130 (xY k l h m n o),fV Lv.cells n 34 7 p,gP m.mb .u64 p_ q,AW.R m.iN r,TW.R m.tb m.ab s,blk t 34 Zx,blk u 32 (Zp i)]:List gh)
abbrev Qo(a:Nat) b c d e (f:Nat) (g h:Int) (i:Lv) (j:Nat) (k l:Int) (m:fZ) n o p q r (s t:Nat):=([iA .i64 (Zy a) 3 b,iA .i64 c 3 d,iM 3 e,blk f 34 (Z9 g h i),blk j 130 (xY k l h m n o),fV Lv.cells n 34 7 p,gP m.mb .u64 p_ m.im,AW.R m.iN q,TW.R m.tb m.ab r,blk s 34 Zx,blk t 32 (Zp i)]:List gh)
abbrev Ax(a:Nat) b c d e (f:Nat) (g h:Int) (i:Lv) (j:Nat) (k l:Int) (m:fZ) n o p q r (s t:Nat):=([iA .i64 (Zy a) 3 b,iA .i64 c 3 d,iM 3 e,blk f 34 (Z9 g h i),blk j 130 (sv k l h m n),fV Lv.cells m.lv 34 7 o,gP m.mb .u64 p_ p,AW.R m.iN q,TW.R m.tb m.ab r,blk s 34 Zx,blk t 32 (Zp i)]:List gh)
abbrev P7(a:Nat) b c d e (f:Nat) (g h:Int) (i:Lv) (j:Nat) (k l:Int) (m:fZ) n o p q (r s:Nat):=([iA .i64 (Zy a) 3 b,iA .i64 c 3 d,iM 3 e,blk f 34 (Z9 g h i),blk j 130 (sv k l h m n),fV Lv.cells m.lv 34 7 o,gP m.mb .u64 p_ m.im,AW.R m.iN p,TW.R m.tb m.ab q,blk r 34 Zx,blk s 32 (Zp i)]:List gh)
theorem M0(tb ab:Nat)(t:TW)(w:World)(hO:Own (Z3 tb ab t) w)(hT:TW.Sz t.n)(id:Int) :
 CR ya 203 (qE tb id) w (fun r w' => r = .int .i64 ((kz t.n id:Nat):Int)/\gm (Z3 tb ab t) w w' (Z3 tb ab t)):=by
 have hnl:t.cs.length=t.n:=rfl
 have h2t:=hT.two
 have htop:=hT.top
 have hpos:0<t.n:=by omega
 have hlt:=wR (id:=id) hpos
 refine en Tryz.func203 Tryz.ntmps203 ?_
 have hst0:=Own.of hO
 refine gf hst0 9 ?_
 refine shr (a:=id) (b:=33) (e:=(id.fdiv (2 ^ 33))) rfl rfl rfl d_ rfl (bi (a:=id) (b:=(id.fdiv (2 ^ 33))) (e:=(kQ id)) rfl rfl rfl (Ii _) (fP hst0 6 ?_))
 refine ar (e:=(mu 18397679294719823053 (kQ id))) rfl rfl rfl rfl rfl (fP hst0 7 ?_)
 refine shr (a:=(mu 18397679294719823053 (kQ id))) (b:=33) (e:=((mu 18397679294719823053 (kQ id)).fdiv (2 ^ 33))) rfl rfl rfl d_ rfl (bi (a:=(mu 18397679294719823053 (kQ id))) (b:=((mu 18397679294719823053 (kQ id)).fdiv (2 ^ 33))) (e:=(kQ (mu 18397679294719823053 (kQ id)))) rfl rfl rfl (Ii _) (fP hst0 6 ?_))
 refine ar (e:=(mu 14181476777654086739 (kQ (mu 18397679294719823053 (kQ id))))) rfl rfl rfl rfl rfl (fP hst0 7 ?_)
 refine shr (a:=(mu 14181476777654086739 (kQ (mu 18397679294719823053 (kQ id))))) (b:=33) (e:=((mu 14181476777654086739 (kQ (mu 18397679294719823053 (kQ id)))).fdiv (2 ^ 33))) rfl rfl rfl d_ rfl (bi (a:=(mu 14181476777654086739 (kQ (mu 18397679294719823053 (kQ id))))) (b:=((mu 14181476777654086739 (kQ (mu 18397679294719823053 (kQ id)))).fdiv (2 ^ 33))) (e:=(kQ (mu 14181476777654086739 (kQ (mu 18397679294719823053 (kQ id)))))) rfl rfl rfl (Ii _) (fP hst0 10 ?_))
 refine mM (m:=t.cs.length) 2 rfl rfl yh hst0 rfl (fP hst0 1 ?_)
 refine cv (a:=(t.cs.length:Int)-1) (e:=(t.cs.length:Int)-1) rfl rfl yf yg (Ao o_) (bi (a:=(kQ (mu 14181476777654086739 (kQ (mu 18397679294719823053 (kQ id)))))) (b:=(t.cs.length:Int)-1) (e:=((kz t.n id:Nat):Int)) rfl rfl rfl (hT.p2.home id) (cv (a:=((kz t.n id:Nat):Int)) (e:=((kz t.n id:Nat):Int)) rfl rfl yg yf (jb o_) (fW hst0 4 ?_)))
 refine gq (v:=(Za ((kz t.n id:Nat):Int))) Tryz.results203 rfl ?_
 exact⟨rfl,yq (yc [_,_,_] _ hst0)⟩
theorem Ua(tb:Nat)(id:Int)(w:World) :
 CR ya 202 (qE tb id) w (fun r w' => ∃ xb yb,r = .func (.func 234) #[] (F9 xb yb)/\gm (gD []) w w' (gD [blk xb 127 (Zj tb),blk yb 30 (Zz id)])):=by
 refine en Tryz.func202 Tryz.ntmps202 ?_
 have hst0:=jI w
 refine gf hst0 2 ?_
 refine bx (v:=(Zb tb)) (cs:=(Zj tb)) rfl rfl rfl hst0 (fun a f g h d=>bx (v:=(Zd id)) (cs:=(Zz id)) rfl rfl rfl d (fun b i j k c=>fP c 5 ?_))
 refine yB (vf:=[]) (vc:=(xO a b)) rfl rfl rfl (fW c 4 ?_)
 refine gq (v:=(.func (.func 234) #[] (F9 a b))) Tryz.results202 rfl ?_
 have e:=yi [1,0] c
 exact⟨a,b,rfl,St.eM (yc [_,_] _ e)⟩
theorem Sk{γ:Type}(Cl:γ->gh)(Iv:γ->Nat->Nat->Prop)(Dn:γ->Prop)(z0:γ)(l xb yb tb ab:Nat)(t:TW)(id:Int)(w:World)(hy:∀ (z:γ) (k c:Nat) (bs:List (World×List Nat)) (L:List gh) (w:World),k<t.n->c<t.n->Iv z k c->St bs (Cl z :: (Ce tb ab t)++L) w->YR ya l (Zi c ((fM t.cs c:Nat):Int)) w (fun v w' => ∃ z2 b,v = .bool b/\(b=true->Iv z2 (k+1) (gZ t.n c))/\(b=false->Dn z2)/\St bs (Cl z2 :: (Ce tb ab t)++L) w'))(hT:t.ok)(hz0:Iv z0 0 (kz t.n id))(hO:Own (Ff (Cl z0) tb ab t xb yb id) w) :
 CR ya 234 (PY (.func (.yield l) #[] #[]) xb yb) w (fun r w' => ∃ z,((∃ c,Iv z t.n c)\/Dn z)/\r = .tuple #[]/\gm (Ff (Cl z0) tb ab t xb yb id) w w' (Ff (Cl z) tb ab t xb yb id)):=by
 have hnl:t.cs.length=t.n:=rfl
 have h2t:=hT.two
 have htop:=hT.top
 have hpos:0<t.n:=by omega
 refine en Tryz.func234 Tryz.ntmps234 ?_
 have hst0:=Own.of hO
 have o:=yi [1,2,3,0,4,5] hst0
 have g:=yc [_,_,_] _ o
 refine gf hst0 4 ?_
 refine cl N3 (M0 tb ab t w (yd g (i:=0) rfl) hT.sz id) ?_
 rintro _ s ⟨rfl,ht⟩
 have f:=(yp g ht)
 refine fP f 9 ?_
 refine mM (m:=t.cs.length) 2 rfl rfl yh f rfl ?_
 have p:=yi [3,0,1,2,4,5] f
 refine gQ f 4 ?_
 refine lp (α:=γ×Nat×Nat) (fun(z,k,c)=>[(0,(.func (.yield l) #[] #[])),(1,(Zb xb)),(2,(Zb yb)),(4,(Za c)),(12,(Za t.cs.length)),(13,(Za k))]) (fun(z,k,c) w1=>St [(w,(Ff (Cl z0) tb ab t xb yb id).gR)] [(Cl z),blk tb 258 (nZ tb ab t),fV jS t.iv 30 1 t.ids,fV gO t.cv 3 1 t.cs,blk xb 127 (Zj tb),blk yb 30 (Zz id)] w1/\k<=t.n/\c<t.n/\Iv z k c) (fun(z,k,c)=>t.n-k) (z0,0,(kz t.n id)) ⟨rfl,rfl,rfl,gG (by first|rfl|omega),rfl,gG (by first|rfl|omega),trivial⟩ (⟨p,o_,wR hpos,hz0⟩) ?_
 rintro⟨z,k,c⟩ u x ⟨hst3,hk2,hc2,hIv⟩
 refine gf hst3 2 ?_
 by_cases y:((k:Int):Int)<((t.cs.length:Int):Int)
 . refine fP hst3 19 ?_
   refine ji (cf:=gO) (k:=c) (i:=(c:Int)) rfl rfl rfl yh gn (ye hst3 (i:=3) rfl f_) o_ o_ (gx om) (lI (cf:=gO) rfl rfl yf rfl (ye hst3 (i:=3) rfl f_) (gx om) rfl (yl (vl:=(Zi c (((fM t.cs c):Nat):Int))) rfl rfl rfl (hy z k c _ _ _ o_ hc2 hIv hst3) ?_))
   rintro _ A ⟨h,q,rfl,hiv9,hdn9,d⟩
   refine gQ d 3 ?_
   cases j:(q:Bool)
   . skip
     subst j
     refine jo d 7 ?_
     refine EU Tryz.results234 ?_
     exact⟨h,.inr (hdn9 rfl),rfl,yq (yc [_,_,_,_,_,_] _ d)⟩
   . skip
     subst j
     refine gf d 10 ?_
     refine mM (m:=t.cs.length) 3 rfl rfl yh d rfl (fP d 1 ?_)
     refine bi (a:=(c:Int)+1) (b:=(t.cs.length:Int)-1) (e:=((gZ t.n c:Nat):Int)) rfl rfl rfl (hT.p2.nx hc2) (fW d 8 ?_)
     refine tN (?_)
     exact again (h,(k+1),(gZ t.n c)) ⟨rfl,rfl,rfl,gG (by first|rfl|omega),rfl,gG (by first|rfl|omega),trivial⟩ (⟨d,o_,IY hc2,hiv9 rfl⟩) (by show t.n-(k+1)<t.n-k;omega)
 . refine fW hst3 9 ?_
   refine jx Tryz.results234 ?_
   obtain rfl:k=t.n:=by omega
   exact⟨z,.inl ⟨c,hIv⟩,rfl,yq (yc [_,_,_,_,_,_] _ hst3)⟩
theorem UO(tb ab:Nat)(t:TW)(w:World)(hO:Own (Z3 tb ab t) w)(hT:t.ok)(id:Int) :
 CR ya 147 (qE tb id) w (fun r w' => r = .tuple (uM ((t.find id).1:Int) ((t.find id).2))/\gm (Z3 tb ab t) w w' (Z3 tb ab t)):=by
 have hnl:t.cs.length=t.n:=rfl
 have h2t:=hT.two
 have htop:=hT.top
 have hpos:0<t.n:=by omega
 refine DY (vs:=[(Zb tb),(Zd id)]) Tryz.func147 rfl Tryz.ntmps147 rfl ?_
 have hst0:=Own.of hO
 refine gf hst0 2 ?_
 refine bx (v:=(Zb tb)) (cs:=(Zj tb)) rfl rfl rfl hst0 (fun f W X Y C=>bx (v:=(Zd id)) (cs:=(Zz id)) rfl rfl rfl C (fun g Z aa ac D=>al (cs:=[Zc]) rfl gn rfl D (fun m ad ae af E=>al (cs:=[Zq]) rfl p5 rfl E (fun o G ag ah x=>fP x 7 ?_))))
 refine cl XK (Ua tb id G) ?_
 rintro _ ai ⟨p,q,rfl,ht⟩
 have y:=mq (o4 x ht)
 have H:=yi [3,2,5,4,6,7,8,0,1] y
 refine gQ y 3 ?_
 refine rfx (α:=Bool×Int×Bool) (ps:=[11,12]) (fi:=[]) (ca:=(xO p q)) (fun(sp,a,b)=>[blk m 3 (Ze a),blk o 4 [(.bool b)],blk f 127 (Zj tb),blk g 30 (Zz id),blk tb 258 (nZ tb ab t),fV jS t.iv 30 1 t.ids,fV gO t.cv 3 1 t.cs,blk p 127 (Zj tb),blk q 30 (Zz id)]) (fun(sp,a,b)=>(sp=false/\t.find id=(0,false))\/(sp=true/\a=((t.find id).1:Int)/\b=(t.find id).2)) (fun(sp,a,b)=>sp) H rfl XG ?_ ?_ ?_
 . intro fn dd l wl rc hrc hsl
   have I:=yi [0,2,3,4,5,6,7,8,9,10,1] hsl
   have hpk:=yc [jm l rc,blk m 3 [Zc],blk o 4 [Zq],blk f 127 (Zj tb),blk g 30 (Zz id)] [blk tb 258 (nZ tb ab t),fV jS t.iv 30 1 t.ids,fV gO t.cv 3 1 t.cs,blk p 127 (Zj tb),blk q 30 (Zz id),kK dd (some [])] I
   have hr1:rc.state = .ready:=by rw[hrc]
   have hr2:rc.pending=none:=by rw[hrc]
   have hround:∀ (z:Bool×Int×Bool) (k c:Nat) (bs:List (World×List Nat)) (L:List gh) (w:World),k<t.n->c<t.n->(fun(z:Bool×Int×Bool) k c=>z.1=false/\t.rest id k c) z k c->St bs ((fun((sp,a,b):Bool×Int×Bool)=>gD (J8 (jm l (xZ sp rc)) m a o b f tb g id)) z :: (Ce tb ab t)++L) w->YR ya l (Zi c ((fM t.cs c:Nat):Int)) w (fun v w' => ∃ z2 b,v = .bool b/\(b=true->(fun(z:Bool×Int×Bool) k c=>z.1=false/\t.rest id k c) z2 (k+1) (gZ t.n c))/\(b=false->(fun(z:Bool×Int×Bool)=>z.1=true/\z.2.1=((t.find id).1:Int)/\z.2.2=(t.find id).2) z2)/\St bs ((fun((sp,a,b):Bool×Int×Bool)=>gD (J8 (jm l (xZ sp rc)) m a o b f tb g id)) z2 :: (Ce tb ab t)++L) w'):=by
    rintro⟨sp,a,b⟩ k c bs LT wr hk hc ⟨rfl,hr9⟩ hsr
    have hsr:=hsr.unpack
    refine J9 (vl:=(Zi c ((fM t.cs c:Nat):Int))) 0 hrc hsr rfl rfl rfl (jo hsr 8 ?_)
    refine tN (?_)
    refine JB 0 hsr rfl hr1 rfl (fun aj d=>gf d 5 ?_)
    by_cases ak:(((fM t.cs c:Nat):Int):Int)=(0:Int)
    . have hc0:fM t.cs c=0:=by omega
      refine fP d 1 ?_
      skip
      skip
      skip
      refine mF d 13 fun am J=>?_
      refine PB 0 J rfl rfl ?_
      intro ao K
      have hfd:t.find id=(c,false):=TW.Tt hr9 hk o_
      exact⟨_,rfl,(true,(c:Int),false),false,rfl,fun h=>(by cases h),fun _=>⟨rfl,by rw[hfd],by rw[hfd]⟩,yc [_,_,_,_,_] _ K⟩
    . obtain⟨j,hj⟩:∃ j,fM t.cs c=j+1:=⟨fM t.cs c-1,o_⟩
      have hjv:=hT.val hc hj
      have hjl:j<t.ids.length:=hjv.2.2.1
      have hjn:j<65536:=z6 hjv.2.2.2 hT.an
      refine gQ d 7 ?_
      by_cases s:((fM t.ids j):Int)=(id:Int)
      . skip
        have hid:fM t.ids j=id:=by have h7:=s;omega
        refine nX (Γ:=Unit) mixed [[],[0],[0,1],[0,1,2],[],[4],[0,1,2,3,4,5],[0,1,2,3,4,5,6],[],[0,1,2,3,4,5,6,7,8]] [] d_ [fun _=>(Zb tb),fun _=>(Zb tb),fun _=>(pZ tb),fun _=>t.iv,fun _=>(Za ((fM t.cs c:Nat):Int)),fun _=>(Za ((j:Nat):Int)),fun _=>(iY 1 t.iv j 0),fun _=>(Zd (fM t.ids j)),fun _=>(Zd id),fun _=>Zf] [(fun _=>(jm l { rc with state:=.busy } :: blk m 3 (Ze a) :: blk o 4 [(.bool b)] :: blk f 127 (Zj tb) :: blk g 30 (Zz id) :: blk tb 258 (nZ tb ab t) :: fV jS t.iv 30 1 t.ids :: fV gO t.cv 3 1 t.cs :: LT),fun _ _=>True)] () _ rfl d (fun _ _=>trivial) ?_ f_ rfl ?_
        . skip
          refine lY rfl rfl rfl rfl (fun _ wq hM hF=>qv rfl rfl (gT rfl CL rfl (yo hM (i:=3) rfl rfl))) (gp (fun _ _=>jU rfl) ?_)
          refine gp (fun _ _=>jw (o' := 2) rfl yG rfl Ah rfl) ?_
          refine lY rfl rfl rfl rfl (fun _ wq hM hF=>qv rfl rfl (gT rfl nW rfl (yo hM (i:=5) rfl rfl))) (gp (fun _ _=>iy (v:=(Za ((fM t.cs c:Nat):Int))) rfl) ?_)
          refine gp (fun _ _=>kR (e:=((j:Nat):Int)) rfl rfl rfl (by rw[jb o_];omega)) ?_
          refine gp (fun _ _=>kA (cf:=jS) (k:=j) (i:=((j:Nat):Int)) rfl rfl nW iQ (ye d (i:=6) rfl f_) o_ o_ (gx om)) ?_
          refine lY rfl rfl rfl rfl (fun _ wq hM hF=>qv rfl rfl (ny (cf:=jS) (u:=(Zd (fM t.ids j))) rfl yg rfl (ye hM (i:=6) rfl f_) (gx om) rfl)) (lY rfl rfl rfl rfl (fun _ wq hM hF=>qv rfl rfl (gT rfl yg rfl (yo hM (i:=4) rfl rfl))) (gp (fun _ _=>q6 rfl rfl (s5 s)) ?_))
          exact nT
        rintro-ap M -
        refine J3 tt (some l) M 11 fun aq N=>?_
        refine PB 0 N rfl rfl ?_
        intro ar O
        have hfd:t.find id=(c,true):=TW.U6 hr9 hk hj hid
        exact⟨_,rfl,(true,(c:Int),true),false,rfl,fun h=>(by cases h),fun _=>⟨rfl,by rw[hfd],by rw[hfd]⟩,yc [_,_,_,_,_] _ O⟩
      . skip
        have hid:fM t.ids j≠id:=by have h7:=s;omega
        refine nX (Γ:=Unit) mixed [[],[0],[0,1],[0,1,2],[],[4],[0,1,2,3,4,5],[0,1,2,3,4,5,6],[],[0,1,2,3,4,5,6,7,8]] [] d_ [fun _=>(Zb tb),fun _=>(Zb tb),fun _=>(pZ tb),fun _=>t.iv,fun _=>(Za ((fM t.cs c:Nat):Int)),fun _=>(Za ((j:Nat):Int)),fun _=>(iY 1 t.iv j 0),fun _=>(Zd (fM t.ids j)),fun _=>(Zd id),fun _=>Zq] [(fun _=>(jm l { rc with state:=.busy } :: blk m 3 (Ze a) :: blk o 4 [(.bool b)] :: blk f 127 (Zj tb) :: blk g 30 (Zz id) :: blk tb 258 (nZ tb ab t) :: fV jS t.iv 30 1 t.ids :: fV gO t.cv 3 1 t.cs :: LT),fun _ _=>True)] () _ rfl d (fun _ _=>trivial) ?_ f_ rfl ?_
        . skip
          refine lY rfl rfl rfl rfl (fun _ wq hM hF=>qv rfl rfl (gT rfl CL rfl (yo hM (i:=3) rfl rfl))) (gp (fun _ _=>jU rfl) ?_)
          refine gp (fun _ _=>jw (o' := 2) rfl yG rfl Ah rfl) ?_
          refine lY rfl rfl rfl rfl (fun _ wq hM hF=>qv rfl rfl (gT rfl nW rfl (yo hM (i:=5) rfl rfl))) (gp (fun _ _=>iy (v:=(Za ((fM t.cs c:Nat):Int))) rfl) ?_)
          refine gp (fun _ _=>kR (e:=((j:Nat):Int)) rfl rfl rfl (by rw[jb o_];omega)) ?_
          refine gp (fun _ _=>kA (cf:=jS) (k:=j) (i:=((j:Nat):Int)) rfl rfl nW iQ (ye d (i:=6) rfl f_) o_ o_ (gx om)) ?_
          refine lY rfl rfl rfl rfl (fun _ wq hM hF=>qv rfl rfl (ny (cf:=jS) (u:=(Zd (fM t.ids j))) rfl yg rfl (ye hM (i:=6) rfl f_) (gx om) rfl)) (lY rfl rfl rfl rfl (fun _ wq hM hF=>qv rfl rfl (gT rfl yg rfl (yo hM (i:=4) rfl rfl))) (gp (fun _ _=>q6 rfl rfl (BQ s)) ?_))
          exact nT
        rintro-au A -
        refine iP tt (some l) A 4 ?_
        refine JO 0 A rfl hr1 hr2 rfl ?_
        intro av P
        exact⟨_,rfl,(false,a,b),true,rfl,fun _=>⟨rfl,TW.Uf hr9 hk hj hid⟩,fun h=>(by cases h),yc [_,_,_,_,_] _ P⟩
   have hpk2:=yc [_,_,_,_,_,_] _ hpk
   refine CR.mono (Sk (fun((sp,a,b):Bool×Int×Bool)=>gD (J8 (jm l (xZ sp rc)) m a o b f tb g id)) (fun(z:Bool×Int×Bool) k c=>z.1=false/\t.rest id k c) (fun(z:Bool×Int×Bool)=>z.1=true/\z.2.1=((t.find id).1:Int)/\z.2.2=(t.find id).2) (false,0,false) l p q tb ab t id wl hround hT ⟨rfl,TW.Sd t id⟩ (yd hpk2 (i:=0) rfl)) ?_
   rintro _ w9 ⟨⟨sp,a,b⟩,hz,-,hturn⟩
   have hs9:=(yp hpk2 hturn).unpack
   have Q:=yi [0,10,1,2,3,4,5,6,7,8,9] hs9
   refine⟨(sp,a,b),?_,Q⟩
   rcases hz with ⟨c,h1,h2⟩|h1
   . exact .inl ⟨h1,TW.VK h2⟩
   . exact .inr h1
 . rintro⟨sp,a,b⟩ dd aw hC hstop R
   have hf:t.find id=(0,false):=hC.elim (fun h=>h.2) (fun h=>absurd (h.1.symm.trans hstop) d_)
   refine J3 tt none R 9 fun ax S=>?_
   refine Eb 0 S rfl rfl ?_
   intro w8 hs8
   have U:=yi [5,6,7,0,1,2,3,4,8,9] hs8
   have hT9:gm (Z3 tb ab t) w w8 (Z3 tb ab t):=yq (yc [_,_,_] _ U)
   exact⟨_,Jp Tryz.results147 (Ga rfl yf rfl (yo hs8 (i:=1) rfl rfl)) (Ga rfl y9 rfl (yo hs8 (i:=2) rfl rfl)),_,rfl,by rw[hf];rfl,hT9⟩
 . rintro⟨sp,a,b⟩ dd ay hC hstop B
   have hf:a=((t.find id).1:Int)/\b=(t.find id).2:=hC.elim (fun h=>absurd (h.1.symm.trans hstop) d_) (fun h=>h.2)
   refine iP tt none B 2 ?_
   refine Eb 0 B rfl rfl ?_
   intro w8 hs8
   have V:=yi [5,6,7,0,1,2,3,4,8,9] hs8
   have hT9:gm (Z3 tb ab t) w w8 (Z3 tb ab t):=yq (yc [_,_,_] _ V)
   exact⟨_,Jp Tryz.results147 (Ga rfl yf rfl (yo hs8 (i:=1) rfl rfl)) (Ga rfl y9 rfl (yo hs8 (i:=2) rfl rfl)),_,rfl,by rw[hf.1,hf.2],hT9⟩
end
section
open Go Go.Sx
theorem Be(tb ab:Nat)(t:TW)(w:World)(hO:Own (Z3 tb ab t) w)(hT:t.ok)(id:Int)(p:Nat)(b:Bool)(hf:t.find id=(p,b)) :
 CR ya 147 (qE tb id) w (fun r w' => r = .tuple (uM p b)/\gm (Z3 tb ab t) w w' (Z3 tb ab t)):=by
 have h:=UO tb ab t w hO hT id
 rw[hf]at h
 exact h
theorem wH(tb ab:Nat)(t:TW)(w:World)(hO:Own (Z3 tb ab t) w)(hT:t.ok) :
 CR ya 146 (Zl tb) w (fun r w' => r = .bool true/\gm (Z3 tb ab t) w w' (Z3 tb ab t)):=by
 refine en Tryz.func146 Tryz.ntmps146 ?_
 have hst0:=Own.of hO
 refine gf hst0 8 ?_
 refine qH (a:=some ⟨tb,0,none⟩) (c:=true) rfl rfl rfl CL rfl (fP hst0 6 ?_)
 refine EP (a:=⟨tb,0,none⟩) rfl rfl rfl CL Ep (fW hst0 5 ?_)
 refine gq (v:=Zf) Tryz.results146 rfl ?_
 exact⟨rfl,yq (yc [_,_,_] _ hst0)⟩
theorem UP(tb ab:Nat)(t:TW)(w:World)(hO:Own (TW.R tb ab t) w)(id:Int)(i:Nat)(hi:t.A.ia i)(hid:fM t.ids i=id) :
 CR ya 88 (qE tb id) w (fun r w' => r = .tuple (KR i)/\gm (TW.R tb ab t) w w' (TW.R tb ab t)):=by
 have hnl:t.cs.length=t.n:=rfl
 have htop:=hO.fact.top
 obtain⟨p,hp,hc,hf⟩:=hO.fact.Ib hi
 rw[hid]at hf
 have hin:=(hO.fact.val hp hc).2.2.2
 have hin2:i<65536:=z6 hin hO.fact.an
 have hil:=(hO.fact.val hp hc).2.2.1
 refine en Tryz.func88 Tryz.ntmps88 ?_
 have hst0:=Own.of hO.un
 have hT:t.ok:=hO.fact
 have b:=yc [_,_,_] _ hst0
 refine gf hst0 10 ?_
 refine cl wZ (wH tb ab t w (yd b (i:=0) rfl) hT) ?_
 rintro _ f ⟨rfl,ht⟩
 have c:=(yp b ht)
 have d:=yc [_,_,_] _ c
 refine fP c 10 ?_
 refine cl BE (Be tb ab t f (yd d (i:=0) rfl) hT id p true hf) ?_
 rintro _ g ⟨rfl,ht⟩
 have a:=(yp d ht)
 refine fP a 24 ?_
 refine ji (cf:=gO) (k:=p) (i:=(p:Int)) rfl rfl rfl yh gn (ye a (i:=2) rfl f_) o_ o_ (gx om) (lI (cf:=gO) rfl rfl yf rfl (ye a (i:=2) rfl f_) (gx om) rfl (ar (e:=((i:Nat):Int)) rfl rfl rfl rfl (by rw[jb o_];omega) (fW a 5 ?_)))
 refine jP (v:=(Za ((i:Nat):Int))) (v' := Zf) Tryz.results88 rfl rfl ?_
 exact⟨rfl,yw (yx (p:=(t:TW).ok) (yc [_,_,_,_] _ a) hT) zh⟩
theorem Uq(tb ab:Nat)(t:TW)(w:World)(hO:Own (TW.R tb ab t) w)(id:Int)(hn:¬ t.mem id) :
 CR ya 88 (qE tb id) w (fun r w' => r = .tuple Kw/\gm (TW.R tb ab t) w w' (TW.R tb ab t)):=by
 have hnl:t.cs.length=t.n:=rfl
 have htop:=hO.fact.top
 obtain⟨p,hp,hf,h0,hw⟩:=hO.fact.Mo hn
 refine en Tryz.func88 Tryz.ntmps88 ?_
 have hst0:=Own.of hO.un
 have hT:t.ok:=hO.fact
 have a:=yc [_,_,_] _ hst0
 refine gf hst0 10 ?_
 refine cl wZ (wH tb ab t w (yd a (i:=0) rfl) hT) ?_
 rintro _ e ⟨rfl,ht⟩
 have b:=(yp a ht)
 have c:=yc [_,_,_] _ b
 refine fP b 10 ?_
 refine cl BE (Be tb ab t e (yd c (i:=0) rfl) hT id p false hf) ?_
 rintro _ f ⟨rfl,ht⟩
 have d:=(yp c ht)
 refine fW d 23 ?_
 refine jP (v:=Zc) (v' := Zq) Tryz.results88 rfl rfl ?_
 exact⟨rfl,yw (yx (p:=(t:TW).ok) (yc [_,_,_,_] _ d) hT) zh⟩
theorem DX(tb ab:Nat)(t:TW)(w:World)(hO:Own (TW.R tb ab t) w)(id:Int) :
 CR ya 88 (qE tb id) w (fun r w' => ∃ (z:Nat) (b:Bool),r = .tuple (uM z b)/\TW.vX t id z b/\gm (TW.R tb ab t) w w' (TW.R tb ab t)):=by
 by_cases hm:t.mem id
 . obtain⟨i,hi,hid⟩:=hm
   exact CR.mono (UP tb ab t w hO id i hi hid) fun r w' ⟨h1,h2⟩=>⟨i,true,h1,.inl ⟨rfl,hi,hid⟩,h2⟩
 . exact CR.mono (Uq tb ab t w hO id hm) fun r w' ⟨h1,h2⟩=>⟨0,false,h1,.inr ⟨rfl,rfl,hm⟩,h2⟩
theorem W3(tb ab:Nat)(t:TW)(w:World)(hO:Own (TW.R tb ab t) w) :
 CR ya 87 (Zl tb) w (fun r w' => r = .int .i64 (t.A.used:Int)/\gm (TW.R tb ab t) w w' (TW.R tb ab t)):=by
 have hT:=hO.fact
 refine en Tryz.func87 Tryz.ntmps87 ?_
 have hst0:=Own.of hO.un
 have hT:t.ok:=hO.fact
 have b:=yc [_,_,_] _ hst0
 refine gf hst0 9 ?_
 refine cl wZ (wH tb ab t w (yd b (i:=0) rfl) hT) ?_
 rintro _ d ⟨rfl,ht⟩
 have a:=(yp b ht)
 refine fP a 12 ?_
 refine cl I9 (Im ab t.w d (yd a (i:=3) rfl)) ?_
 rintro _ e ⟨rfl,ht⟩
 have c:=yv 3 a ht
 refine fW c 4 ?_
 refine gq (v:=(Za t.A.used)) Tryz.results87 rfl ?_
 exact⟨rfl,yw (yx (p:=(t:TW).ok) (yc [_,_,_,_] _ c) hT) zh⟩
theorem VR(tb ab:Nat)(t:TW)(w:World)(hO:Own (TW.R tb ab t) w)(id:Int)(i:Nat)(hi:t.A.ia i)(hid:fM t.ids i=id) :
 CR ya 106 (qE tb id) w (fun r w' => r = .tuple #[.int .i64 (i:Int),.bool false,.int .i64 0]/\gm (TW.R tb ab t) w w' (TW.R tb ab t)):=by
 have hnl:t.cs.length=t.n:=rfl
 have htop:=hO.fact.top
 obtain⟨p,hp,hc,hf⟩:=hO.fact.Ib hi
 rw[hid]at hf
 have hin:=(hO.fact.val hp hc).2.2.2
 have hin2:i<65536:=z6 hin hO.fact.an
 have hil:=(hO.fact.val hp hc).2.2.1
 refine en Tryz.func106 Tryz.ntmps106 ?_
 have hst0:=Own.of hO.un
 have hT:t.ok:=hO.fact
 have b:=yc [_,_,_] _ hst0
 refine gf hst0 11 ?_
 refine cl wZ (wH tb ab t w (yd b (i:=0) rfl) hT) ?_
 rintro _ f ⟨rfl,ht⟩
 have c:=(yp b ht)
 have d:=yc [_,_,_] _ c
 refine fP c 10 ?_
 refine cl BE (Be tb ab t f (yd d (i:=0) rfl) hT id p true hf) ?_
 rintro _ g ⟨rfl,ht⟩
 have a:=(yp d ht)
 refine fP a 21 ?_
 refine ji (cf:=gO) (k:=p) (i:=(p:Int)) rfl rfl rfl yh gn (ye a (i:=2) rfl f_) o_ o_ (gx om) (lI (cf:=gO) rfl rfl yf rfl (ye a (i:=2) rfl f_) (gx om) rfl (ar (e:=((i:Nat):Int)) rfl rfl rfl rfl (by rw[jb o_];omega) (fW a 7 ?_)))
 refine JJ (v:=(Za ((i:Nat):Int))) (v' := Zq) (v'' := Zc) Tryz.results106 rfl rfl rfl ?_
 exact⟨rfl,yw (yx (p:=(t:TW).ok) (yc [_,_,_,_] _ a) hT) zh⟩
theorem UJ(tb ab:Nat)(t:TW)(w:World)(hO:Own (TW.R tb ab t) w)(id:Int)(hn:¬ t.mem id)(hid:ir .u64 id)(hu:t.A.used<t.A.n) :
 CR ya 106 (qE tb id) w (fun r w' => ∃ (i:Nat) (t2:TW),r = .tuple #[.int .i64 (i:Int),.bool true,.int .i64 0]/\((∀ x,t2.mem x↔t.mem x\/x=id)/\t2.A.n=t.A.n/\t2.A.used=t.A.used+1)/\gm (TW.R tb ab t) w w' (TW.R tb ab t2)):=by
 have hnl:t.cs.length=t.n:=rfl
 have htop:=hO.fact.top
 obtain⟨p,hp,hf,h0,hw⟩:=hO.fact.Mo hn
 have hil:t.ids.length=t.w.A.begun:=hO.fact.yL
 have hla:(t.ids++[0]).length=t.ids.length+1:=by simp
 have hbeg:t.w.A.begun<=t.w.A.n:=hO.fact.o8
 have han:t.w.A.n<=65536:=hO.fact.an
 refine en Tryz.func106 Tryz.ntmps106 ?_
 have hst0:=Own.of hO.un
 have hT:t.ok:=hO.fact
 have q:=yc [_,_,_] _ hst0
 refine gf hst0 11 ?_
 refine cl wZ (wH tb ab t w (yd q (i:=0) rfl) hT) ?_
 rintro _ C ⟨rfl,ht⟩
 have s:=(yp q ht)
 have u:=yc [_,_,_] _ s
 refine fP s 10 ?_
 refine cl BE (Be tb ab t C (yd u (i:=0) rfl) hT id p false hf) ?_
 rintro _ D ⟨rfl,ht⟩
 have h:=(yp u ht)
 refine fP h 22 ?_
 refine cl Og (LN ab t.w D (yd h (i:=3) rfl) hu) ?_
 rintro _ H ⟨a,b,rfl,e,ht⟩
 have d:=yv 3 h ht
 have hA9:=(j5 d (i:=3) rfl:b.A.ok)
 have hib:a<=t.ids.length:=by rcases e.o8 with h9|h9<;>omega
 have hib2:a<=65536:=by omega
 refine fP d 25 ?_
 refine mM (m:=t.ids.length) 1 rfl rfl nW d rfl ?_
 by_cases I:(((a:Nat):Int):Int)=((t.ids.length:Int):Int)
 . refine fP d 10 ?_
   refine lS (vs:=CB) (cs:=CB) rfl rfl nW iQ rfl (by simp[Value.cells]) rfl rfl rfl d (fun E J K L y=>nO (cf:=jS) (ys:=t.ids) (zs:=[0]) (LL:=fun c=>[iA .u64 (Zy E) 30 ([0]),blk tb 258 (nZ tb ab t),fV jS c 30 1 (t.ids++[0]),fV gO t.cv 3 1 t.cs,(AW.R ab b)]) 2 rfl rfl rfl nW iQ rfl d_ y rfl (mO y (i:=0) rfl) (fun x hx=>zz.1 (show List.all _ _=true from rfl) x hx) (by simp only[zk,zr,maxLen];omega) (by simp only[zk,zr,maxLen];omega) f_ ?_)
   intro c M G N
   have g:=yi [1,2,3,4] G
   refine fP g 2 ?_
   refine mR (L' := (QB tb ab c t (t.ids++[0]) b)) 0 rfl rfl rfl (cells_one (mH g (i:=1) rfl)) Ah rfl (oU (mH g (i:=1) rfl) uz) g rfl rfl rfl rfl (fun O j=>fP j 10 ?_)
   refine ji (cf:=jS) (k:=a) (i:=((a:Nat):Int)) rfl rfl rfl nW iQ (ye j (i:=1) rfl f_) o_ o_ (gx om) (nS (f:=(fun _=>id)) (L' := (QB tb ab c t (fR (t.ids++[0]) a (fun _=>id)) b)) 1 rfl rfl rfl rfl iQ rfl rfl j rfl f_ om rfl rfl rfl (fun P l=>fP l 11 ?_))
   refine ji (cf:=gO) (k:=p) (i:=(p:Int)) rfl rfl rfl yh gn (ye l (i:=2) rfl f_) o_ o_ (gx om) (nS (f:=(fun _=>(a+1))) (L' := [blk tb 258 [(Zb tb),(Zb ab),c,t.cv],fV jS c 30 1 (fR (t.ids++[0]) a (fun _=>id)),fV gO t.cv 3 1 (fR t.cs p (fun _=>(a+1))),(AW.R ab b)]) 2 rfl rfl rfl rfl gn rfl rfl l rfl f_ om rfl rfl rfl (fun Q z=>fW z 11 ?_))
   refine JJ (v:=(Za ((a:Nat):Int))) (v' := Zf) (v'' := Zc) Tryz.results106 rfl rfl rfl ?_
   have hpo:=hT.put hn hid hA9 e hp h0 hw c t.cv (is2:=fR (t.ids++[0]) a (fun _=>id)) (cs2:=fR t.cs p (fun _=>(a+1))) (by unfold xu;rw[if_pos o_]) rfl
   exact⟨a,⟨c,t.cv,b,fR (t.ids++[0]) a (fun _=>id),fR t.cs p (fun _=>(a+1))⟩,rfl,⟨hpo.2,e.n,e.used⟩,yw (yx (p:=(⟨c,t.cv,b,fR (t.ids++[0]) a (fun _=>id),fR t.cs p (fun _=>(a+1))⟩:TW).ok) (yc [_,_,_,_] _ z) hpo.1) zh⟩
 . refine fP d 14 ?_
   refine ji (cf:=jS) (k:=a) (i:=((a:Nat):Int)) rfl rfl rfl nW iQ (ye d (i:=1) rfl f_) o_ o_ (gx om) (nS (f:=(fun _=>id)) (L' := [blk tb 258 (nZ tb ab t),fV jS t.iv 30 1 (fR t.ids a (fun _=>id)),fV gO t.cv 3 1 t.cs,(AW.R ab b)]) 1 rfl rfl rfl rfl iQ rfl rfl d rfl f_ om rfl rfl rfl (fun S o=>fP o 11 ?_))
   refine ji (cf:=gO) (k:=p) (i:=(p:Int)) rfl rfl rfl yh gn (ye o (i:=2) rfl f_) o_ o_ (gx om) (nS (f:=(fun _=>(a+1))) (L' := (Q0 tb ab t (fR t.ids a (fun _=>id)) (fR t.cs p (fun _=>(a+1))) b)) 2 rfl rfl rfl rfl gn rfl rfl o rfl f_ om rfl rfl rfl (fun U B=>fW B 11 ?_))
   refine JJ (v:=(Za ((a:Nat):Int))) (v' := Zf) (v'' := Zc) Tryz.results106 rfl rfl rfl ?_
   have hpo:=hT.put hn hid hA9 e hp h0 hw t.iv t.cv (is2:=fR t.ids a (fun _=>id)) (cs2:=fR t.cs p (fun _=>(a+1))) (by unfold xu;rw[if_neg o_]) rfl
   exact⟨a,⟨t.iv,t.cv,b,fR t.ids a (fun _=>id),fR t.cs p (fun _=>(a+1))⟩,rfl,⟨hpo.2,e.n,e.used⟩,yw (yx (p:=(⟨t.iv,t.cv,b,fR t.ids a (fun _=>id),fR t.cs p (fun _=>(a+1))⟩:TW).ok) (yc [_,_,_,_] _ B) hpo.1) zh⟩
end
section
open Go Go.Sx
theorem Tf(tb ab:Nat)(t:TW)(cs2:List Nat)(hl:cs2.length=t.n)(w:World)(hO:Own (Fm tb ab t cs2) w)(hT:TW.Sz t.n)(id:Int) :
 CR ya 203 (qE tb id) w (fun r w' => r = .int .i64 ((kz t.n id:Nat):Int)/\gm (Fm tb ab t cs2) w w' (Fm tb ab t cs2)):=by
 have h9:TW.n ⟨t.iv,t.cv,t.w,t.ids,cs2⟩=t.n:=hl
 have h:=M0 tb ab ⟨t.iv,t.cv,t.w,t.ids,cs2⟩ w hO (by rw[h9];exact hT) id
 rw[h9]at h
 exact h
theorem Tl(tb ab:Nat)(t:TW)(w:World)(hO:Own (Z3 tb ab t) w)(hT:t.ok)(p i:Nat)(hp:p<t.n)(hc:fM t.cs p=i+1) :
 CR ya 153 (Zn tb ((p:Nat):Int)) w (fun r w' => r = .tuple #[]/\∃ cs2,cs2.length=t.n/\(rF t.n cs2 (fun j=>kz t.n (fM t.ids j))/\(∀ p q,p<t.n->q<t.n->fM cs2 p≠0->fM cs2 p=fM cs2 q->p=q)/\(∀ i2,(∃ p,p<t.n/\fM cs2 p=i2+1)↔i2≠i/\∃ p,p<t.n/\fM t.cs p=i2+1))/\gm (Z3 tb ab t) w w' (Fm tb ab t cs2)):=by
 have hnl:t.cs.length=t.n:=rfl
 have h2t:=hT.two
 have htop:=hT.top
 have hpos:0<t.n:=by omega
 obtain⟨z,hz,hz0⟩:=hT.zero
 have hC0:pe t.n (fun j=>kz t.n (fM t.ids j)) i t.cs t.cs p p z:=pe.start hT.Fe rfl hp hc hz hz0 (fun q j _ _=>wR hpos) hT.inj
 refine en Tryz.func153 Tryz.ntmps153 ?_
 have hst0:=Own.of hO
 refine gf hst0 7 ?_
 refine mM (m:=t.cs.length) 2 rfl rfl yh hst0 rfl (gQ hst0 15 ?_)
 refine lp (α:=List Nat×Nat×Nat) (fun(cs,hole,c)=>[(0,(Zb tb)),(1,(Za ((hole:Nat):Int))),(4,(Za ((t.cs.length:Int)-1))),(5,(Za ((c:Nat):Int)))]) (fun(cs,hole,c) w1=>St [(w,(Z3 tb ab t).gR)] (Gf tb ab t cs) w1/\pe t.n (fun j=>kz t.n (fM t.ids j)) i t.cs cs hole c z) (fun(cs,hole,c)=>dst t.n c z) (t.cs,p,p) ⟨rfl,gG (by first|rfl|omega),rfl,gG (by first|rfl|omega),trivial⟩ (⟨hst0,hC0⟩) ?_
 rintro⟨cs,hole,c⟩ v u ⟨hst3,hC⟩
 have hnx:=hC.next
 have hxl:gZ t.n c<t.n:=hnx.1
 have hhl:=hC.vC
 have hcl:=hC.Qq
 have hln:=hC.len
 refine gf hst3 6 ?_
 refine bi (a:=((c:Nat):Int)+1) (b:=(t.cs.length:Int)-1) (e:=((gZ t.n c:Nat):Int)) rfl rfl rfl (hT.p2.nx hcl) (fP hst3 10 ?_)
 refine ji (cf:=gO) (k:=(gZ t.n c)) (i:=((gZ t.n c:Nat):Int)) rfl rfl rfl yh gn (ye hst3 (i:=2) rfl f_) o_ o_ (gx om) (lI (cf:=gO) rfl rfl yf rfl (ye hst3 (i:=2) rfl f_) (gx om) rfl (fP hst3 7 ?_))
 by_cases g:((((fM cs (gZ t.n c)):Nat):Int):Int)=(0:Int)
 . have h00:fM cs (gZ t.n c)=0:=by have h7:=@g;omega
   refine fP hst3 16 ?_
   refine ji (cf:=gO) (k:=hole) (i:=((hole:Nat):Int)) rfl rfl rfl yh gn (ye hst3 (i:=2) rfl f_) o_ o_ (gx om) (nS (f:=(fun _=>0)) (L' := (Gf tb ab t (fR cs hole (fun _=>0)))) 2 rfl rfl rfl rfl gn rfl rfl hst3 rfl f_ om rfl rfl rfl (fun x h=>fW h 2 ?_))
   refine jx Tryz.results153 ?_
   exact⟨rfl,fR cs hole (fun _=>0),by rw[gI];exact hC.len,hC.done h00 ⟨p,hp,hc⟩,yq (yc [_,_,_] _ h)⟩
 . obtain⟨j,hj⟩:∃ j,fM cs (gZ t.n c)=j+1:=⟨fM cs (gZ t.n c)-1,by have h7:=@g;omega⟩
   obtain⟨hji,q9,hq9,hcq⟩:=(hC.mem j).1 ⟨gZ t.n c,hxl,hnx.2.1,hj⟩
   have hjv:=hT.val hq9 hcq
   have hjl:j<t.ids.length:=hjv.2.2.1
   have hjn:j<65536:=z6 hjv.2.2.2 hT.an
   have hhj:=wR (id:=fM t.ids j) hpos
   refine fP hst3 1 ?_
   rw[hj]
   refine fP hst3 15 ?_
   refine ar (e:=((j:Nat):Int)) rfl rfl rfl rfl (by rw[jb o_];omega) (ji (cf:=jS) (k:=j) (i:=((j:Nat):Int)) rfl rfl rfl nW iQ (ye hst3 (i:=1) rfl f_) o_ o_ (gx om) (lI (cf:=jS) rfl rfl yg rfl (ye hst3 (i:=1) rfl f_) (gx om) rfl ?_))
   have l:=yc [_,_,_] _ hst3
   refine cl N3 (Tf tb ab t cs hC.len u (yd l (i:=0) rfl) hT.sz (fM t.ids j)) ?_
   rintro _ y ⟨rfl,ht⟩
   have d:=(yp l ht)
   refine fP d 2 ?_
   refine bi (a:=((gZ t.n c:Nat):Int)-((kz t.n (fM t.ids j):Nat):Int)) (b:=(t.cs.length:Int)-1) (e:=((dst t.n (kz t.n (fM t.ids j)) (gZ t.n c):Nat):Int)) rfl rfl rfl (hT.p2.dst hhj hxl) (fP d 4 ?_)
   refine bi (a:=((gZ t.n c:Nat):Int)-((hole:Nat):Int)) (b:=(t.cs.length:Int)-1) (e:=((dst t.n hole (gZ t.n c):Nat):Int)) rfl rfl rfl (hT.p2.dst hhl hxl) ?_
   by_cases o:(((dst t.n (kz t.n (fM t.ids j)) (gZ t.n c):Nat):Int):Int)<(((dst t.n hole (gZ t.n c):Nat):Int):Int)
   . have hlt:(dst t.n (kz t.n (fM t.ids j)) (gZ t.n c)<dst t.n hole (gZ t.n c)):=by have h7:=o;omega
     refine fW d 7 ?_
     refine tN (?_)
     exact again (cs,hole,(gZ t.n c)) ⟨rfl,rfl,rfl,gG (by first|rfl|omega),trivial⟩ (⟨d,hC.skip hj hlt⟩) (by show dst t.n (gZ t.n c) z<dst t.n c z;exact hnx.2.2.2.2)
   . have hlt:¬ (dst t.n (kz t.n (fM t.ids j)) (gZ t.n c)<dst t.n hole (gZ t.n c)):=by have h7:=o;omega
     refine fP d 14 ?_
     refine ji (cf:=gO) (k:=hole) (i:=((hole:Nat):Int)) rfl rfl rfl yh gn (ye d (i:=2) rfl f_) o_ o_ (gx om) (nS (f:=(fun _=>(j+1))) (L' := (Gf tb ab t (fR cs hole (fun _=>(j+1))))) 2 rfl rfl rfl rfl gn rfl rfl d rfl f_ om rfl rfl rfl (fun A s=>fW s 7 ?_))
     refine tN (?_)
     exact again (fR cs hole (fun _=>(j+1)),(gZ t.n c),(gZ t.n c)) ⟨rfl,gG (by first|rfl|omega),rfl,gG (by first|rfl|omega),trivial⟩ (⟨s,hC.move hj hlt⟩) (by show dst t.n (gZ t.n c) z<dst t.n c z;exact hnx.2.2.2.2)
end
end Go.Proofs.YtdopagghhibopaaGreat
