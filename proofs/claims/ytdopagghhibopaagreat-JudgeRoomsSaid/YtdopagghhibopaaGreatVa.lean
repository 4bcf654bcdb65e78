/- What the functions that the statements reach do: walks through the code of the program and of the references, one theorem a function; under what is said of its arguments. -/
import Derived.Test.YtdopagghhibopaaGreatFa
import Derived.Test.YtdopagghhibopaaGreatFc
import Derived.Test.YtdopagghhibopaaGreatFb
import Derived.Test.YtdopagghhibopaaGreatFd
import Derived.Test.YtdopagghhibopaaGreatProg
import Derived.KernelRfl
set_option linter.unusedVariables false
set_option linter.unusedSimpArgs false
set_option maxRecDepth 100000
set_option maxHeartbeats 4000000
namespace Go.Proofs.YtdopagghhibopaaGreat
section
open Go Go.Sx
noncomputable abbrev ya:=@Tryz.prog
abbrev yc:=@St.pack
abbrev yd:=@St.aaB
abbrev ye:=@Tryz.underlying3
abbrev yf:=@St.Ec
abbrev yg:=@Tryz.underlying30
abbrev yh:=@Tryz.underlying115
abbrev yi:=@St.re
abbrev yj:=@Tryz.underlying269
abbrev yk:=@Tryz.underlying263
abbrev ym:=@Tryz.underlying128
abbrev yn:=@Tryz.underlying260
abbrev yo:=@St.zP
abbrev yp:=@St.tu
abbrev yq:=@St.eT
abbrev yr:=@Tryz.underlying111
abbrev yt:=@Tryz.underlying267
abbrev yu:=@St.tn
abbrev yv:=@St.D9
abbrev yw:=@St.qd
abbrev yx:=@Tryz.underlying34
abbrev yy:=@Tryz.underlying28
abbrev yz:=@St.Iu
abbrev y8:=@St.Jr
abbrev y9:=@Tryz.underlying25
abbrev lR:=@Tryz.underlying4
abbrev nj:=@Tryz.underlying44
abbrev jf:=@St.grow
abbrev kT:=@St.HT
abbrev kj:=@St.Yi
abbrev oI:=@Tryz.underlying272
abbrev jO:=@St.init
abbrev o7:=@Tryz.underlying259
abbrev p8:=@Tryz.underlying177
abbrev qi:=@Tryz.underlying32
abbrev qf:=@Tryz.underlying5
abbrev rM:=@Tryz.underlying130
abbrev rI:=@Tryz.underlying172
abbrev qg:=@Tryz.results208
abbrev mh:=@St.XV
abbrev sN:=@Tryz.underlying277
abbrev mG:=@St.unpack
abbrev qa:=@Tryz.results29
abbrev lZ:=@St.ZZ
abbrev qK:=@Tryz.results27
abbrev tV:=@Tryz.underlying24
abbrev tG:=@Tryz.underlying57
abbrev kB:=@St.un
abbrev vj:=@Tryz.underlying262
abbrev vm:=@Tryz.underlying64
abbrev vq:=@Tryz.underlying60
abbrev mS:=@St.aaM
abbrev uY:=@Tryz.underlying2
abbrev wV:=@Tryz.underlying203
abbrev tP:=@Tryz.results44
abbrev vz:=@Tryz.results143
abbrev uQ:=@Tryz.results233
abbrev yZ:=@Tryz.underlying258
abbrev nT:=@St.fact
abbrev oH:=@St.perm
abbrev uT:=@St.TR
abbrev pn:=@St.made
abbrev AS:=@Tryz.underlying22
abbrev sI:=@St.OU
abbrev yN:=@Tryz.results56
abbrev CY:=@Tryz.underlying127
abbrev CM:=@Tryz.underlying162
abbrev Da:=@Tryz.underlying36
abbrev C3:=@Tryz.underlying52
abbrev Bh:=@Tryz.results85
abbrev C5:=@Tryz.results232
abbrev Fs:=@Tryz.underlying166
abbrev Gp:=@Tryz.underlying126
abbrev AQ:=@St.Ux
abbrev Fv:=@Tryz.underlying279
abbrev yR:=@St.WK
abbrev zB:=@St.WT
abbrev Fp:=@Tryz.underlying59
abbrev F8:=@Tryz.underlying83
abbrev Gl:=@Tryz.underlying79
abbrev Gy:=@Tryz.underlying50
abbrev yE:=@St.XN
abbrev Bg:=@St.WN
abbrev Gg:=@Tryz.results230
abbrev Ga:=@Tryz.results198
abbrev F5:=@Tryz.results243
abbrev F6:=@Tryz.results49
abbrev FV:=@Tryz.results22
theorem k_{p:Prop}(h:p:=by kernel_rfl):p:=h
theorem f_{p:Prop}(h:p:=by exact fun _=>rfl):p:=h
abbrev p_:Value×List Nat->Value:=Prod.fst
end
section
open Go Go.Sx
abbrev Zf:=(.bool true:Value)
abbrev rF:=(.int .i64 1:Value)
abbrev wJ:=(.int .i64 5:Value)
abbrev wH:=(.int .i64 2:Value)
abbrev wM:=(.int .u64 0:Value)
abbrev Zc:=(.int .i64 0:Value)
abbrev Zq:=(.bool false:Value)
abbrev Zu(a:Int):=(.int .u8 a:Value)
abbrev CX:=([.int .u64 0]:List Value)
abbrev Za(a:Int):=(.int .i64 a:Value)
abbrev Zd(a:Int):=(.int .u64 a:Value)
abbrev yW:=([.int .i64 1]:List Value)
abbrev Db:=([.int .i64 5]:List Value)
abbrev Z6:=(.pointer none:Value)
abbrev Zw:=(.int .i64 (-1):Value)
abbrev Ze(a:Int):=([.int .i64 a]:List Value)
abbrev Zk:=(.slice none 0 0:Value)
abbrev Zz(a:Int):=([.int .u64 a]:List Value)
abbrev sM(a:Int):=(#[.int .i64 a]:Array Value)
abbrev xX:=([.int .i64 0,.nilFunc]:List Value)
abbrev Km:=(.func (.func 28) #[] #[]:Value)
abbrev KO:=(.func (.func 27) #[] #[]:Value)
abbrev Kr:=(.func (.func 29) #[] #[]:Value)
abbrev Z5:=([.int .i64 0,.int .i64 0]:List Value)
abbrev Gs a b:=(fV Lv.cells a 34 7 b:gh)
abbrev ve(a:Int)(b:Bool):=(#[.int .i64 a,.bool b]:Array Value)
abbrev K9:=(#[.int .i64 0,.bool false]:Array Value)
abbrev QL(a:Int):=([.int .i64 2,.int .i64 a]:List Value)
abbrev FY(a:Int):=([.int .i64 5,.int .i64 a]:List Value)
abbrev Kq(a:Int):=(#[.int .i64 a,.bool true]:Array Value)
abbrev AX(a:Int):=([.int .i64 1,.int .i64 a]:List Value)
abbrev KA(a:Int):=(#[.int .i64 2,.int .i64 a]:Array Value)
abbrev CN(a:Int):=(#[.int .i64 5,.int .i64 a]:Array Value)
abbrev Bm(a:Int):=(#[.int .i64 a,.int .i64 0]:Array Value)
abbrev CW(a:Int):=(#[.int .i64 1,.int .i64 a]:Array Value)
abbrev Bo(a:Nat):=(.pointer (some ⟨a,1,none⟩):Value)
abbrev qh(a:Nat):=(.pointer (some ⟨a,2,none⟩):Value)
abbrev yT(a:Nat):=(.pointer (some ⟨a,3,none⟩):Value)
abbrev Zi(a b:Int):=([.int .i64 a,.int .i64 b]:List Value)
abbrev Z4(a:Nat):=(.pointer (some ⟨a,6,none⟩):Value)
abbrev Zb(a:Nat):=(.pointer (some ⟨a,0,none⟩):Value)
abbrev qO(a b:Int):=(#[.int .i64 a,.int .i64 b]:Array Value)
abbrev CT(a b:Int):=(#[.int .u64 a,.int .u64 b]:Array Value)
abbrev Z0(a b:Nat):=(.pointer (some ⟨a,b,none⟩):Value)
abbrev tQ(a:Nat):=(.slice (some ⟨a,0,none⟩) 2 2:Value)
abbrev Kt:=(.agg #[.int .i64 0,.int .i64 0]:Value)
abbrev Zj(a:Nat):=([.pointer (some ⟨a,0,none⟩)]:List Value)
abbrev Zy(a:Nat):=(.slice (some ⟨a,0,none⟩) 1 1:Value)
abbrev Zl(a:Nat):=(#[.pointer (some ⟨a,0,none⟩)]:Array Value)
abbrev yS(a:Nat):=(.slice (some ⟨a,0,none⟩) 12 12:Value)
abbrev rG(a b:Int):=(.agg (qO a b):Value)
abbrev Fq(a:Int):=([.agg (CW a)]:List Value)
abbrev Gt(a:Int):=([.agg (CN a)]:List Value)
abbrev Zv(a b:Nat):=(.slice (some ⟨a,0,none⟩) b b:Value)
abbrev QX(a:Int):=([.agg (KA a)]:List Value)
abbrev F9(a b:Nat):=([.slice (some ⟨a,0,none⟩) b b]:List Value)
abbrev FQ:=([.int .i64 2,.func (.func 28) #[] #[]]:List Value)
abbrev Gf:=([.int .i64 1,.func (.func 27) #[] #[]]:List Value)
abbrev Cw:=([.int .i64 5,.func (.func 29) #[] #[]]:List Value)
abbrev Rl:=(#[.int .i64 5,.func (.func 29) #[] #[]]:Array Value)
abbrev QT:=(#[.int .i64 1,.func (.func 27) #[] #[]]:Array Value)
abbrev QE:=(#[.int .i64 2,.func (.func 28) #[] #[]]:Array Value)
abbrev Zt(a:Nat)(b c:Int):=(blk a 107 (Zi b c):gh)
abbrev FB(a:gj):=(.agg #[.int .i64 a.ix,.int .i64 a.key]:Value)
abbrev qS(a:Nat):=(#[.pointer (some ⟨a,0,none⟩),.int .i64 0]:Array Value)
abbrev qL(a:Int)(b:Nat):=([.int .i64 a,.pointer (some ⟨b,0,none⟩)]:List Value)
abbrev FI(a:Nat)(b:Int):=([.pointer (some ⟨a,0,none⟩),.int .i64 b]:List Value)
abbrev qJ(a:Nat)(b:Int):=(#[.pointer (some ⟨a,0,none⟩),.int .u64 b]:Array Value)
abbrev CS:=(#[.agg #[.int .i64 0,.int .i64 0],.bool false]:Array Value)
abbrev Zn(a:Nat)(b:Int):=(#[.pointer (some ⟨a,0,none⟩),.int .i64 b]:Array Value)
abbrev tY(a:WW)(b:Int):=(blk a.cb 107 (Zi b a.now):gh)
abbrev C0(a b:Int):=(#[.agg (qO a b),.bool true]:Array Value)
abbrev wT:=([.int .i64 0,.int .i64 0,.int .i64 0,.int .i64 0]:List Value)
abbrev FC:=([.int .i64 0,.int .i64 0,.int .i64 0,.bool false]:List Value)
abbrev Fz(a:Int)(b:Nat):=(.agg #[.int .i64 a,.pointer (some ⟨b,0,none⟩)]:Value)
abbrev Q0(a:Nat):=(.func (.func 207) (Zl a) #[]:Value)
abbrev Q6(a:Nat):=(.func (.func 208) (Zl a) #[]:Value)
abbrev Zo:=([.int .i64 20,.int .i64 30,.int .i64 10,.int .i64 0]:List Value)
abbrev QH a b:=(gQ a .u64 p_ b:gh)
abbrev FG(a:Int):=([.int .i64 20,.int .i64 a,.int .i64 10,.int .i64 0]:List Value)
abbrev CK(a:Int):=([.int .i64 20,.int .i64 30,.int .i64 a,.int .i64 0]:List Value)
abbrev oJ(a:Nat)(b:Int) c d:=([.pointer (some ⟨a,0,none⟩),.int .i64 b,c,d]:List Value)
abbrev yJ(a b c d:Int):=([.int .i64 a,.int .i64 b,.int .i64 c,.int .i64 d]:List Value)
abbrev yC:=(.agg #[.int .i64 20,.int .i64 30,.int .i64 10,.int .i64 0]:Value)
abbrev Kj(a:Nat) b c:=(.agg #[.pointer none,.pointer (some ⟨a,0,none⟩),b,c]:Value)
abbrev Z2(a:Nat)(b c:Int):=(#[.pointer (some ⟨a,0,none⟩),.int .i64 b,.int .i64 c]:Array Value)
abbrev yH(a b:Nat):=([.pointer (some ⟨a,0,none⟩),.pointer (some ⟨b,0,none⟩)]:List Value)
abbrev FP(a b:Nat):=(#[.pointer (some ⟨a,0,none⟩),.pointer (some ⟨b,0,none⟩)]:Array Value)
abbrev wG(a b c d:Int):=(.agg #[.int .i64 a,.int .i64 b,.int .i64 c,.int .i64 d]:Value)
abbrev Qf(a b c d:Int):=(.agg #[.int .u64 a,.int .u64 b,.int .i64 c,.int .i64 d]:Value)
abbrev QF(a b:Nat):=(#[.pointer none,.slice (some ⟨a,0,none⟩) b b,.int .i64 0]:Array Value)
abbrev Qz(a b c d:Int):=(#[.agg #[.int .i64 a,.int .i64 b,.int .i64 c,.int .i64 d]]:Array Value)
abbrev Zp(a:Lv):=([.int .u64 a.u,.int .u64 a.v,.int .i64 a.wt,.int .i64 a.t]:List Value)
abbrev Rg a (b c:Nat):=(#[a,.pointer (some ⟨b,0,none⟩),.pointer (some ⟨c,0,none⟩)]:Array Value)
abbrev Qh(a:Int) b (c d:Nat):=([.pointer none,.int .i64 a,b,.slice (some ⟨c,0,none⟩) d d]:List Value)
abbrev tZ(a:Lv):=(.agg #[.int .u64 a.u,.int .u64 a.v,.int .i64 a.wt,.int .i64 a.t]:Value)
abbrev Ki(a:Int) b (c d:Nat):=(.agg #[.pointer none,.int .i64 a,b,.slice (some ⟨c,0,none⟩) d d]:Value)
abbrev oq(a b:Nat)(c:TW):=([.pointer (some ⟨a,0,none⟩),.pointer (some ⟨b,0,none⟩),c.iv,c.cv]:List Value)
abbrev Zm(a b c:Nat)(d:Int):=([.pointer (some ⟨a,0,none⟩),.slice (some ⟨b,0,none⟩) c c,.int .i64 d]:List Value)
abbrev Q4(a:Int)(b c:Nat):=(#[.pointer none,.int .i64 a,.slice none 0 0,.slice (some ⟨b,0,none⟩) c c]:Array Value)
abbrev Gk(a:Nat)(b:Int) c (d e:Nat):=([.pointer (some ⟨a,0,none⟩),.int .i64 b,c,.slice (some ⟨d,0,none⟩) e e]:List Value)
abbrev Qm(a:Int):=(#[.pointer none,.slice none 0 0,.int .i64 a,.int .i64 0,.int .i64 0,.int .i64 (-1)]:Array Value)
abbrev Zx:=([.int .i64 0,.int .u64 0,.int .u64 0,.int .u64 0,.int .i64 0,.int .i64 0,.int .i64 0]:List Value)
abbrev K7:=(#[.int .i64 0,.int .u64 0,.int .u64 0,.int .u64 0,.int .i64 0,.int .i64 0,.int .i64 0]:Array Value)
abbrev Q2(a b c:Nat):=([.pointer (some ⟨a,0,none⟩),.pointer (some ⟨b,0,none⟩),.pointer (some ⟨c,0,none⟩)]:List Value)
abbrev Ba(a b c:Nat)(d:Int):=(blk a 265 (Zm a b c d):gh)
abbrev QK(a:Nat)(b:Int)(c d:Nat):=([.pointer (some ⟨a,0,none⟩),.int .i64 b,.slice none 0 0,.slice (some ⟨c,0,none⟩) d d]:List Value)
abbrev QD(a b c:Nat):=(#[.pointer none,.pointer (some ⟨a,0,none⟩),.slice none 0 0,.slice (some ⟨b,0,none⟩) c c]:Array Value)
abbrev wQ(a:Nat) b (c:As) (d:Int):=([.pointer (some ⟨a,0,none⟩),b,.int .i64 c.n,.int .i64 d,.int .i64 c.used,.int .i64 c.last]:List Value)
abbrev KE(a:Nat) b (c:As) (d:Int):=([.pointer (some ⟨a,0,none⟩),b,.int .i64 c.n,.int .i64 c.begun,.int .i64 c.used,.int .i64 d]:List Value)
abbrev CA(a:Nat)(b:Lv):=(#[.pointer (some ⟨a,0,none⟩),.agg #[.int .u64 b.u,.int .u64 b.v,.int .i64 b.wt,.int .i64 b.t]]:Array Value)
abbrev Qg(a:As):=(#[.pointer none,.slice none 0 0,.int .i64 a.n,.int .i64 a.begun,.int .i64 a.used,.int .i64 a.last]:Array Value)
abbrev KR(a b c d e:Int) f g h:=([.int .i64 a,.int .i64 b,.int .i64 c,.int .i64 d,.int .i64 e,f,.int .i64 0,.map g,.map h]:List Value)
abbrev Rq(a b c d e:Int) f g h:=(#[.int .i64 a,.int .i64 b,.int .i64 c,.int .i64 d,.int .i64 e,f,.int .i64 0,.map g,.map h]:Array Value)
abbrev Z1(a:Nat) b (c:As):=([.pointer (some ⟨a,0,none⟩),b,.int .i64 c.n,.int .i64 c.begun,.int .i64 c.used,.int .i64 c.last]:List Value)
abbrev A9(a b c d e:Int) f (g:Int) h i:=([.int .i64 a,.int .i64 b,.int .i64 c,.int .i64 d,.int .i64 e,f,.int .i64 g,.map h,.map i]:List Value)
abbrev Rs(a b:Int)(c d:Nat) e:=(#[.int .i64 a,.int .i64 b,.pointer (some ⟨c,0,none⟩),.pointer (some ⟨d,0,none⟩),.map e,.int .i64 0]:Array Value)
abbrev Z9(a b:Int)(c:Lv):=([.int .i64 a,.int .u64 b,.int .u64 c.u,.int .u64 c.v,.int .i64 c.wt,.int .i64 c.t,.int .i64 c.exp]:List Value)
abbrev Q8(a b:Int)(c:Lv)(d:Int):=(.agg #[.int .i64 a,.int .u64 b,.int .u64 c.u,.int .u64 c.v,.int .i64 c.wt,.int .i64 c.t,.int .i64 d]:Value)
abbrev Fl(a b:Int)(c:Lv):=(.agg #[.int .i64 a,.int .u64 b,.int .u64 c.u,.int .u64 c.v,.int .i64 c.wt,.int .i64 c.t,.int .i64 c.exp]:Value)
abbrev yD(a b c:Int)(d e:Nat) f g:=([.int .i64 a,.int .i64 b,.int .u64 c,.pointer (some ⟨d,0,none⟩),.pointer (some ⟨e,0,none⟩),f,.map g]:List Value)
abbrev Zs(a:Lv):=([.int .i64 a.slot,.int .u64 a.seq,.int .u64 a.u,.int .u64 a.v,.int .i64 a.wt,.int .i64 a.t,.int .i64 a.exp]:List Value)
abbrev Qe(a:Nat)(b:As):=([.pointer (some ⟨a,0,none⟩),.slice none 0 0,.int .i64 b.n,.int .i64 b.begun,.int .i64 b.used,.int .i64 b.last]:List Value)
abbrev KX a (b:Nat) (c:Int) (d:Nat) (e:Bool) (f g h:Nat) (i:Int):=([a,blk b 3 (Ze c),blk d 4 [.bool e],blk f 127 (Zj g),blk h 30 (Zz i)]:List gh)
abbrev xZ(a b c:Int)(d:fZ) e f:=([.int .i64 a,.int .i64 b,.int .u64 c,.pointer (some ⟨d.iO,0,none⟩),.pointer (some ⟨d.tb,0,none⟩),e,.map f]:List Value)
abbrev AP(a b:Int)(c:GW) d:=([.int .i64 a,.int .i64 b,.pointer (some ⟨c.fb,0,none⟩),.pointer (some ⟨c.hb,0,none⟩),.map d,.int .i64 c.trees]:List Value)
abbrev Rr(a b c:Nat)(d:List Nd):=([blk a 265 [.pointer (some ⟨a,0,none⟩),.slice (some ⟨b,0,none⟩) c c,.int .i64 0],blk b 269 (d.flatMap Nd.cells)]:List gh)
abbrev vk(a:Lv):=(.agg #[.int .i64 a.slot,.int .u64 a.seq,.int .u64 a.u,.int .u64 a.v,.int .i64 a.wt,.int .i64 a.t,.int .i64 a.exp]:Value)
abbrev K0(a b:Int)(c d:Nat) e:=([.int .i64 a,.int .i64 b,.int .u64 0,.pointer (some ⟨c,0,none⟩),.pointer (some ⟨d,0,none⟩),.slice none 0 0,.map e]:List Value)
abbrev sK(a b c:Int)(d:fZ) e:=([.int .i64 a,.int .i64 b,.int .u64 c,.pointer (some ⟨d.iO,0,none⟩),.pointer (some ⟨d.tb,0,none⟩),d.lv,.map e]:List Value)
abbrev Qi(a b:Int)(c d:Nat) e:=(#[.int .i64 a,.int .i64 b,.int .u64 0,.pointer (some ⟨c,0,none⟩),.pointer (some ⟨d,0,none⟩),.slice none 0 0,.map e]:Array Value)
abbrev K8(a b c:Nat)(d:Int)(e:List Nd):=([blk a 265 (Zm a b c d),blk b 269 (e.flatMap Nd.cells)]:List gh)
abbrev Z7(a b:Int)(c:fZ) d:=([.int .i64 a,.int .i64 b,.int .u64 c.last,.pointer (some ⟨c.iO,0,none⟩),.pointer (some ⟨c.tb,0,none⟩),c.lv,.map d]:List Value)
abbrev Zh(a b c:Nat)(d:Int)(e:List Nd):=(gF (K8 a b c d e):gh)
abbrev Cv(a b:Int)(c:Lv)(d:Int):=(.tuple #[.agg #[.int .i64 a,.int .u64 b,.int .u64 c.u,.int .u64 c.v,.int .i64 c.wt,.int .i64 c.t,.int .i64 d],.int .i64 0]:Value)
abbrev QJ(a b c d:Int):=(#[.int .i64 a,.int .i64 b,.int .i64 c,.int .i64 d,.pointer none,.pointer none,.pointer none,.pointer none,.int .u64 0,.int .u64 0]:Array Value)
abbrev F7(a b:Nat)(c:TW) d:=([blk a 258 (oq a b c),fV jH c.iv 30 1 c.ids,fV gP c.cv 3 1 d]:List gh)
abbrev tM(a:Nat)(b:Int) c d e f g:=([blk a 262 (oJ a b c d),fV gj.cells c 111 2 e,fV gN d 277 1 f,gG gP 279 64 f g]:List gh)
abbrev CI(a b:Nat)(c:TW):=([blk a 258 (oq a b c),fV jH c.iv 30 1 c.ids,fV gP c.cv 3 1 c.cs]:List gh)
abbrev Gu(a b:Nat)(c:TW) d:=(gF (F7 a b c d):gh)
abbrev Zg(a:Nat)(b:Int) c d e f g:=(gF (tM a b c d e f g):gh)
abbrev Z3(a b:Nat)(c:TW):=(gF (CI a b c):gh)
abbrev KF(a:Nat)(b:Lv):=(#[.pointer (some ⟨a,0,none⟩),.agg #[.int .i64 b.slot,.int .u64 b.seq,.int .u64 b.u,.int .u64 b.v,.int .i64 b.wt,.int .i64 b.t,.int .i64 b.exp]]:Array Value)
abbrev AN(a:Nat) b (c d e f:Int) g h:=(gF [blk a 205 [.pointer (some ⟨a,0,none⟩),b,.int .i64 c,.int .i64 d,.int .i64 e,.int .i64 f],fV gN b 270 1 g,gG gM.cells 274 64 g h]:gh)
abbrev Qx(a:Nat) b (c:As) (d:Int) e f:=([blk a 205 (wQ a b c d),fV gN b 270 1 e,gG gM.cells 274 64 e f]:List gh)
abbrev QC(a:Nat) b (c d e:Int) (f:As):=(gF [blk a 205 [.pointer (some ⟨a,0,none⟩),b,.int .i64 c,.int .i64 d,.int .i64 e,.int .i64 f.last],fV gN b 270 1 f.ps,gG gM.cells 274 64 f.ps f.sl]:gh)
abbrev Qn(a:Nat) b (c:As) (d:Int):=([blk a 205 (wQ a b c d),fV gN b 270 1 c.ps,gG gM.cells 274 64 c.ps c.sl]:List gh)
abbrev A6 a (b c d e:Nat) (f:Int) (g:List Nd):=([a,blk b 167 (Zj c),blk c 265 (Zm c d e f),blk d 269 (g.flatMap Nd.cells)]:List gh)
abbrev Qk(a:Nat)(b:Int):=([gG gM.cells 274 64 ([]) ([]),fV gN Zk 270 1 ([]),blk a 205 [.pointer (some ⟨a,0,none⟩),.slice none 0 0,.int .i64 b,.int .i64 0,.int .i64 0,.int .i64 (-1)]]:List gh)
abbrev A5(a:Nat) b (c:As):=([blk a 205 (Z1 a b c),fV gN b 270 1 c.ps,gG gM.cells 274 64 c.ps c.sl]:List gh)
abbrev QY a b c d e (f g:Nat) (h:Int):=([a,fV j5 b 36 2 c,fV Lv.cells d 34 7 e,blk f 24 Zo,blk g 24 (FG h)]:List gh)
abbrev Zr(a:Nat) b (c:As):=(gF (A5 a b c):gh)
abbrev QM(a:Nat) b (c:As) d e:=([blk a 205 (Z1 a b c),fV gN b 270 1 c.ps,gG gM.cells 274 64 c.ps c.sl,iB .i64 d 3 e]:List gh)
abbrev Rp(a b c d:Nat)(e:Int)(f:List Nd) g h (i:Nat):=([blk a 167 (Zj b),blk b 265 (Zm b c d e),blk c 269 (f.flatMap Nd.cells),iB .i64 g 3 h,blk i 115 [g]]:List gh)
abbrev KV(a:Nat)(b:Int)(c d:Nat)(e:Int) f g h i j:=([blk a 3 (Ze b),blk c 162 (Zj d),blk d 262 (oJ d e f g),fV gj.cells f 111 2 h,fV gN g 277 1 i,gG gP 279 64 i j]:List gh)
abbrev wF(a:Nat)(b:Int)(c d:Nat)(e:Int) f g h i j:=(gF (KV a b c d e f g h i j):gh)
abbrev FF a (b c:Nat) (d:TW) (e f:Nat) (g:Int):=(gF [a,blk b 258 (oq b c d),fV jH d.iv 30 1 d.ids,fV gP d.cv 3 1 d.cs,blk e 127 (Zj b),blk f 30 (Zz g)]:gh)
abbrev tT(a b c d:Int)(e:WW):=([.int .i64 a,.int .i64 b,.int .i64 c,.int .i64 d,.pointer (some ⟨e.cb,0,none⟩),.pointer (some ⟨e.ub,0,none⟩),.pointer (some ⟨e.sb,0,none⟩),.pointer (some ⟨e.ob,0,none⟩),.int .u64 e.added,.int .u64 e.xA]:List Value)
abbrev tW(a:Nat)(b:Lv)(c:Nat)(d e f g h:Int) i (j:Int) k l m n:=([blk a 34 (Zs b),blk c 59 (A9 d e f g h i j k l),m,n]:List gh)
abbrev Rk a b c d (e f:Nat) (g:Int) (h:Nat) i (j:Nat) k:=([fV j5 a 36 2 b,fV Lv.cells c 34 7 d,blk e 24 Zo,blk f 24 (CK g),fV tU (yS h) 4 1 i,fV jH (tQ j) 30 1 k]:List gh)
abbrev Q3(a:Nat)(b:Int) c d e f g (h:Nat) i (j k:Nat) l:=([blk a 262 (oJ a b c d),fV gj.cells c 111 2 e,fV gN d 277 1 f,gG gP 279 64 f g,blk h 262 (Gk h b i j k),fV gj.cells i 111 2 e,fV gN (Zv j k) 277 1 l,gG gP 279 64 l g]:List gh)
abbrev Q1(a:Nat) b (c:As) (d:Nat) e f:=(gF [blk a 205 (Z1 a b c),fV gN b 270 1 c.ps,gG gM.cells 274 64 c.ps c.sl,blk d 205 (Z1 d e c),fV gN e 270 1 f,gG gM.cells 274 64 f c.sl]:gh)
abbrev K4:=([.int .i64 0,.int .i64 0,.int .i64 0,.int .i64 0,.int .i64 0,.int .i64 0,.int .i64 0,.int .i64 0,.int .i64 0,.int .i64 0,.int .i64 0,.int .i64 0,.int .i64 0,.int .i64 0,.int .i64 0,.int .i64 0,.int .i64 0,.int .i64 0,.int .i64 0,.int .i64 0,.int .i64 0,.int .i64 0,.int .i64 0,.int .i64 0,.int .i64 0,.int .i64 0,.int .i64 0,.int .i64 0,.int .i64 0,.int .i64 0,.int .i64 0,.int .i64 0,.int .i64 0,.int .i64 0,.int .i64 0,.int .i64 0,.int .i64 0,.int .i64 0,.int .i64 0,.int .i64 0,.int .i64 0,.int .i64 0,.int .i64 0,.int .i64 0,.int .i64 0,.int .i64 0,.int .i64 0,.int .i64 0,.int .i64 0,.int .i64 0,.int .i64 0,.int .i64 0,.int .i64 0,.int .i64 0,.int .i64 0,.int .i64 0,.int .i64 0,.int .i64 0,.int .i64 0,.int .i64 0,.int .i64 0,.int .i64 0,.int .i64 0,.int .i64 0]:List Value)
abbrev CL:=([.int .i64 0,.int .i64 0,.int .u64 0,.int .i64 0,.int .i64 0,.int .u64 0,.int .i64 0,.int .i64 0,.int .u64 0,.int .i64 0,.int .i64 0,.int .u64 0,.int .i64 0,.int .i64 0,.int .u64 0,.int .i64 0,.int .i64 0,.int .u64 0,.int .i64 0,.int .i64 0,.int .u64 0,.int .i64 0,.int .i64 0,.int .u64 0,.int .i64 0,.int .i64 0,.int .u64 0,.int .i64 0,.int .i64 0,.int .u64 0,.int .i64 0,.int .i64 0,.int .u64 0,.int .i64 0,.int .i64 0,.int .u64 0,.int .i64 0,.int .i64 0,.int .u64 0,.int .i64 0,.int .i64 0,.int .u64 0,.int .i64 0,.int .i64 0,.int .u64 0,.int .i64 0,.int .i64 0,.int .u64 0,.int .i64 0,.int .i64 0,.int .u64 0,.int .i64 0,.int .i64 0,.int .u64 0,.int .i64 0,.int .i64 0,.int .u64 0,.int .i64 0,.int .i64 0,.int .u64 0,.int .i64 0,.int .i64 0,.int .u64 0,.int .i64 0,.int .i64 0,.int .u64 0,.int .i64 0,.int .i64 0,.int .u64 0,.int .i64 0,.int .i64 0,.int .u64 0,.int .i64 0,.int .i64 0,.int .u64 0,.int .i64 0,.int .i64 0,.int .u64 0,.int .i64 0,.int .i64 0,.int .u64 0,.int .i64 0,.int .i64 0,.int .u64 0,.int .i64 0,.int .i64 0,.int .u64 0,.int .i64 0,.int .i64 0,.int .u64 0,.int .i64 0,.int .i64 0,.int .u64 0,.int .i64 0,.int .i64 0,.int .u64 0,.int .i64 0,.int .i64 0,.int .u64 0,.int .i64 0,.int .i64 0,.int .u64 0,.int .i64 0,.int .i64 0,.int .u64 0,.int .i64 0,.int .i64 0,.int .u64 0,.int .i64 0,.int .i64 0,.int .u64 0,.int .i64 0,.int .i64 0,.int .u64 0,.int .i64 0,.int .i64 0,.int .u64 0,.int .i64 0,.int .i64 0,.int .u64 0,.int .i64 0,.int .i64 0,.int .u64 0,.int .i64 0,.int .i64 0,.int .u64 0,.int .i64 0,.int .i64 0,.int .u64 0,.int .i64 0,.int .i64 0,.int .u64 0,.int .i64 0,.int .i64 0,.int .u64 0,.int .i64 0,.int .i64 0,.int .u64 0,.int .i64 0,.int .i64 0,.int .u64 0,.int .i64 0,.int .i64 0,.int .u64 0,.int .i64 0,.int .i64 0,.int .u64 0,.int .i64 0,.int .i64 0,.int .u64 0,.int .i64 0,.int .i64 0,.int .u64 0,.int .i64 0,.int .i64 0,.int .u64 0,.int .i64 0,.int .i64 0,.int .u64 0,.int .i64 0,.int .i64 0,.int .u64 0,.int .i64 0,.int .i64 0,.int .u64 0,.int .i64 0,.int .i64 0,.int .u64 0,.int .i64 0,.int .i64 0,.int .u64 0,.int .i64 0,.int .i64 0,.int .u64 0,.int .i64 0,.int .i64 0,.int .u64 0,.int .i64 0,.int .i64 0,.int .u64 0,.int .i64 0,.int .i64 0,.int .u64 0,.int .i64 0,.int .i64 0,.int .u64 0,.int .i64 0,.int .i64 0,.int .u64 0,.int .i64 0,.int .i64 0,.int .u64 0]:List Value)
abbrev QG a (b c:Nat) d (e:As) f g:=([a,blk b 274 CL,blk c 205 (Z1 c d e),fV gN f 270 1 g,gG gM.cells 274 64 e.ps e.sl]:List gh)
end
section
open Go Go.Sx
theorem ti2:(ya.info? 2).map (fun i=>(i.size,i.bytes,i.zero))=some (1,8,some (.int .i64 0)):=by kernel_rfl
theorem gn:(ya.info? 3).map (fun i=>(i.size,i.bytes,i.zero))=some (1,8,some (.int .i64 0)):=by kernel_rfl
theorem nV:(ya.info? 4).map (fun i=>(i.size,i.bytes,i.zero))=some (1,1,some (.bool false)):=by kernel_rfl
theorem Fm:(ya.info? 5).map (fun i=>(i.size,i.bytes,i.zero))=some (1,1,some (.int .u8 0)):=by kernel_rfl
theorem nO:(ya.info? 24).map (fun i=>(i.size,i.bytes,i.zero))=some (4,32,some (.agg #[(.int .i64 0),(.int .i64 0),(.int .i64 0),(.int .i64 0)])):=by kernel_rfl
theorem Ck:(ya.info? 25).map (fun i=>(i.size,i.bytes,i.zero))=some (1,24,some (.slice none 0 0)):=by kernel_rfl
theorem iU:(ya.info? 30).map (fun i=>(i.size,i.bytes,i.zero))=some (1,8,some (.int .u64 0)):=by kernel_rfl
theorem p6:(ya.info? 32).map (fun i=>(i.size,i.bytes,i.zero))=some (4,32,some (.agg #[(.int .u64 0),(.int .u64 0),(.int .i64 0),(.int .i64 0)])):=by kernel_rfl
theorem iX:(ya.info? 34).map (fun i=>(i.size,i.bytes,i.zero))=some (7,56,some (.agg #[(.int .i64 0),(.int .u64 0),(.int .u64 0),(.int .u64 0),(.int .i64 0),(.int .i64 0),(.int .i64 0)])):=by kernel_rfl
theorem j8:(ya.info? 36).map (fun i=>(i.size,i.bytes,i.zero))=some (2,16,some (.agg #[(.int .i64 0),(.int .i64 0)])):=by kernel_rfl
theorem AF:(ya.info? 44).map (fun i=>(i.size,i.bytes,i.zero))=some (1,24,some (.slice none 0 0)):=by kernel_rfl
theorem JW:(ya.info? 46).map (fun i=>(i.size,i.bytes,i.zero))=some (1,8,some (.int .i64 0)):=by kernel_rfl
theorem PZ:(ya.info? 50).map (fun i=>(i.size,i.bytes,i.zero))=some (1,1,some (.int .i8 0)):=by kernel_rfl
theorem Cq:(ya.info? 52).map (fun i=>(i.size,i.bytes,i.zero))=some (4,4,some (.agg #[(.int .u8 0),(.int .u8 0),(.int .i8 0),(.int .u8 0)])):=by kernel_rfl
theorem P6:(ya.info? 56).map (fun i=>(i.size,i.bytes,i.zero))=some (1,8,some (.map none)):=by kernel_rfl
theorem E8:(ya.info? 57).map (fun i=>(i.size,i.bytes,i.zero))=some (1,8,some (.map none)):=by kernel_rfl
theorem PX:(ya.info? 59).map (fun i=>(i.size,i.bytes,i.zero))=some (9,88,some (.agg #[(.int .i64 0),(.int .i64 0),(.int .i64 0),(.int .i64 0),(.int .i64 0),(.slice none 0 0),(.int .i64 0),(.map none),(.map none)])):=by kernel_rfl
theorem PW:(ya.info? 62).map (fun i=>(i.size,i.bytes,i.zero))=some (1,8,some .nilFunc):=by kernel_rfl
theorem lF:(ya.info? 64).map (fun i=>(i.size,i.bytes,i.zero))=some (2,16,some (.agg #[(.int .i64 0),.nilFunc])):=by kernel_rfl
theorem P9:(ya.info? 78).map (fun i=>(i.size,i.bytes,i.zero))=some (1,8,some (.pointer none)):=by kernel_rfl
theorem JV:(ya.info? 79).map (fun i=>(i.size,i.bytes,i.zero))=some (1,8,some (.pointer none)):=by kernel_rfl
theorem Kb:(ya.info? 80).map (fun i=>(i.size,i.bytes,i.zero))=some (1,8,some (.pointer none)):=by kernel_rfl
theorem P8:(ya.info? 81).map (fun i=>(i.size,i.bytes,i.zero))=some (1,8,some (.pointer none)):=by kernel_rfl
theorem Qd:(ya.info? 83).map (fun i=>(i.size,i.bytes,i.zero))=some (10,80,some (.agg #[(.int .i64 0),(.int .i64 0),(.int .i64 0),(.int .i64 0),(.pointer none),(.pointer none),(.pointer none),(.pointer none),(.int .u64 0),(.int .u64 0)])):=by kernel_rfl
theorem J7:(ya.info? 96).map (fun i=>(i.size,i.bytes,i.zero))=some (4,32,some (.agg #[(.int .i64 0),(.int .i64 0),(.int .i64 0),(.int .i64 0)])):=by kernel_rfl
theorem Px:(ya.info? 105).map (fun i=>(i.size,i.bytes,i.zero))=some (1,8,some (.int .i64 0)):=by kernel_rfl
theorem PD:(ya.info? 107).map (fun i=>(i.size,i.bytes,i.zero))=some (2,16,some (.agg #[(.int .i64 0),(.int .i64 0)])):=by kernel_rfl
theorem iw:(ya.info? 111).map (fun i=>(i.size,i.bytes,i.zero))=some (2,16,some (.agg #[(.int .i64 0),(.int .i64 0)])):=by kernel_rfl
theorem ox:(ya.info? 115).map (fun i=>(i.size,i.bytes,i.zero))=some (1,24,some (.slice none 0 0)):=by kernel_rfl
theorem Cc:(ya.info? 126).map (fun i=>(i.size,i.bytes,i.zero))=some (1,8,some (.pointer none)):=by kernel_rfl
theorem JB:(ya.info? 127).map (fun i=>(i.size,i.bytes,i.zero))=some (1,8,some (.pointer none)):=by kernel_rfl
theorem rC:(ya.info? 128).map (fun i=>(i.size,i.bytes,i.zero))=some (1,8,some (.map none)):=by kernel_rfl
theorem EL:(ya.info? 130).map (fun i=>(i.size,i.bytes,i.zero))=some (7,72,some (.agg #[(.int .i64 0),(.int .i64 0),(.int .u64 0),(.pointer none),(.pointer none),(.slice none 0 0),(.map none)])):=by kernel_rfl
theorem B8:(ya.info? 162).map (fun i=>(i.size,i.bytes,i.zero))=some (1,8,some (.pointer none)):=by kernel_rfl
theorem JK:(ya.info? 166).map (fun i=>(i.size,i.bytes,i.zero))=some (2,16,some (.agg #[(.int .i64 0),(.pointer none)])):=by kernel_rfl
theorem JO:(ya.info? 167).map (fun i=>(i.size,i.bytes,i.zero))=some (1,8,some (.pointer none)):=by kernel_rfl
theorem JR:(ya.info? 171).map (fun i=>(i.size,i.bytes,i.zero))=some (1,8,some (.agg #[(.pointer none)])):=by kernel_rfl
theorem PK:(ya.info? 172).map (fun i=>(i.size,i.bytes,i.zero))=some (1,8,some (.map none)):=by kernel_rfl
theorem O4:(ya.info? 174).map (fun i=>(i.size,i.bytes,i.zero))=some (6,48,some (.agg #[(.int .i64 0),(.int .i64 0),(.pointer none),(.pointer none),(.map none),(.int .i64 0)])):=by kernel_rfl
theorem B6:(ya.info? 177).map (fun i=>(i.size,i.bytes,i.zero))=some (2,16,some (.agg #[(.int .u64 0),(.int .u64 0)])):=by kernel_rfl
theorem r9:(ya.info? 192).map (fun i=>(i.size,i.bytes,i.zero))=some (4,32,some (.agg #[(.int .i64 0),(.int .i64 0),(.int .i64 0),(.bool false)])):=by kernel_rfl
theorem EY:(ya.info? 203).map (fun i=>(i.size,i.bytes,i.zero))=some (1,24,some (.slice none 0 0)):=by kernel_rfl
theorem ER:(ya.info? 205).map (fun i=>(i.size,i.bytes,i.zero))=some (6,64,some (.agg #[(.pointer none),(.slice none 0 0),(.int .i64 0),(.int .i64 0),(.int .i64 0),(.int .i64 0)])):=by kernel_rfl
theorem EN:(ya.info? 258).map (fun i=>(i.size,i.bytes,i.zero))=some (4,64,some (.agg #[(.pointer none),(.pointer none),(.slice none 0 0),(.slice none 0 0)])):=by kernel_rfl
theorem JN:(ya.info? 259).map (fun i=>(i.size,i.bytes,i.zero))=some (1,24,some (.slice none 0 0)):=by kernel_rfl
theorem uG:(ya.info? 260).map (fun i=>(i.size,i.bytes,i.zero))=some (1,24,some (.slice none 0 0)):=by kernel_rfl
theorem EV:(ya.info? 262).map (fun i=>(i.size,i.bytes,i.zero))=some (4,64,some (.agg #[(.pointer none),(.int .i64 0),(.slice none 0 0),(.slice none 0 0)])):=by kernel_rfl
theorem PI:(ya.info? 263).map (fun i=>(i.size,i.bytes,i.zero))=some (1,24,some (.slice none 0 0)):=by kernel_rfl
theorem JE:(ya.info? 265).map (fun i=>(i.size,i.bytes,i.zero))=some (3,40,some (.agg #[(.pointer none),(.slice none 0 0),(.int .i64 0)])):=by kernel_rfl
theorem lU:(ya.info? 267).map (fun i=>(i.size,i.bytes,i.zero))=some (2,16,some (.agg #[(.int .i64 0),(.int .i64 0)])):=by kernel_rfl
theorem iW:(ya.info? 269).map (fun i=>(i.size,i.bytes,i.zero))=some (9,72,some (.agg #[(.int .i64 0),(.int .i64 0),(.int .i64 0),(.bool false),(.int .i64 0),(.int .i64 0),(.int .i64 0),(.int .i64 0),(.int .i64 0)])):=by kernel_rfl
theorem xI:(ya.info? 270).map (fun i=>(i.size,i.bytes,i.zero))=some (1,8,some (.pointer none)):=by kernel_rfl
theorem O9:(ya.info? 272).map (fun i=>(i.size,i.bytes,i.zero))=some (3,24,some (.agg #[(.int .i64 0),(.int .i64 0),(.int .u64 0)])):=by kernel_rfl
theorem Cd:(ya.info? 274).map (fun i=>(i.size,i.bytes,i.zero))=some (192,1536,some (.agg #[(.int .i64 0),(.int .i64 0),(.int .u64 0),(.int .i64 0),(.int .i64 0),(.int .u64 0),(.int .i64 0),(.int .i64 0),(.int .u64 0),(.int .i64 0),(.int .i64 0),(.int .u64 0),(.int .i64 0),(.int .i64 0),(.int .u64 0),(.int .i64 0),(.int .i64 0),(.int .u64 0),(.int .i64 0),(.int .i64 0),(.int .u64 0),(.int .i64 0),(.int .i64 0),(.int .u64 0),(.int .i64 0),(.int .i64 0),(.int .u64 0),(.int .i64 0),(.int .i64 0),(.int .u64 0),(.int .i64 0),(.int .i64 0),(.int .u64 0),(.int .i64 0),(.int .i64 0),(.int .u64 0),(.int .i64 0),(.int .i64 0),(.int .u64 0),(.int .i64 0),(.int .i64 0),(.int .u64 0),(.int .i64 0),(.int .i64 0),(.int .u64 0),(.int .i64 0),(.int .i64 0),(.int .u64 0),(.int .i64 0),(.int .i64 0),(.int .u64 0),(.int .i64 0),(.int .i64 0),(.int .u64 0),(.int .i64 0),(.int .i64 0),(.int .u64 0),(.int .i64 0),(.int .i64 0),(.int .u64 0),(.int .i64 0),(.int .i64 0),(.int .u64 0),(.int .i64 0),(.int .i64 0),(.int .u64 0),(.int .i64 0),(.int .i64 0),(.int .u64 0),(.int .i64 0),(.int .i64 0),(.int .u64 0),(.int .i64 0),(.int .i64 0),(.int .u64 0),(.int .i64 0),(.int .i64 0),(.int .u64 0),(.int .i64 0),(.int .i64 0),(.int .u64 0),(.int .i64 0),(.int .i64 0),(.int .u64 0),(.int .i64 0),(.int .i64 0),(.int .u64 0),(.int .i64 0),(.int .i64 0),(.int .u64 0),(.int .i64 0),(.int .i64 0),(.int .u64 0),(.int .i64 0),(.int .i64 0),(.int .u64 0),(.int .i64 0),(.int .i64 0),(.int .u64 0),(.int .i64 0),(.int .i64 0),(.int .u64 0),(.int .i64 0),(.int .i64 0),(.int .u64 0),(.int .i64 0),(.int .i64 0),(.int .u64 0),(.int .i64 0),(.int .i64 0),(.int .u64 0),(.int .i64 0),(.int .i64 0),(.int .u64 0),(.int .i64 0),(.int .i64 0),(.int .u64 0),(.int .i64 0),(.int .i64 0),(.int .u64 0),(.int .i64 0),(.int .i64 0),(.int .u64 0),(.int .i64 0),(.int .i64 0),(.int .u64 0),(.int .i64 0),(.int .i64 0),(.int .u64 0),(.int .i64 0),(.int .i64 0),(.int .u64 0),(.int .i64 0),(.int .i64 0),(.int .u64 0),(.int .i64 0),(.int .i64 0),(.int .u64 0),(.int .i64 0),(.int .i64 0),(.int .u64 0),(.int .i64 0),(.int .i64 0),(.int .u64 0),(.int .i64 0),(.int .i64 0),(.int .u64 0),(.int .i64 0),(.int .i64 0),(.int .u64 0),(.int .i64 0),(.int .i64 0),(.int .u64 0),(.int .i64 0),(.int .i64 0),(.int .u64 0),(.int .i64 0),(.int .i64 0),(.int .u64 0),(.int .i64 0),(.int .i64 0),(.int .u64 0),(.int .i64 0),(.int .i64 0),(.int .u64 0),(.int .i64 0),(.int .i64 0),(.int .u64 0),(.int .i64 0),(.int .i64 0),(.int .u64 0),(.int .i64 0),(.int .i64 0),(.int .u64 0),(.int .i64 0),(.int .i64 0),(.int .u64 0),(.int .i64 0),(.int .i64 0),(.int .u64 0),(.int .i64 0),(.int .i64 0),(.int .u64 0),(.int .i64 0),(.int .i64 0),(.int .u64 0),(.int .i64 0),(.int .i64 0),(.int .u64 0),(.int .i64 0),(.int .i64 0),(.int .u64 0)])):=by kernel_rfl
theorem qy:(ya.info? 277).map (fun i=>(i.size,i.bytes,i.zero))=some (1,8,some (.pointer none)):=by kernel_rfl
theorem Cg:(ya.info? 279).map (fun i=>(i.size,i.bytes,i.zero))=some (64,512,some (.agg #[(.int .i64 0),(.int .i64 0),(.int .i64 0),(.int .i64 0),(.int .i64 0),(.int .i64 0),(.int .i64 0),(.int .i64 0),(.int .i64 0),(.int .i64 0),(.int .i64 0),(.int .i64 0),(.int .i64 0),(.int .i64 0),(.int .i64 0),(.int .i64 0),(.int .i64 0),(.int .i64 0),(.int .i64 0),(.int .i64 0),(.int .i64 0),(.int .i64 0),(.int .i64 0),(.int .i64 0),(.int .i64 0),(.int .i64 0),(.int .i64 0),(.int .i64 0),(.int .i64 0),(.int .i64 0),(.int .i64 0),(.int .i64 0),(.int .i64 0),(.int .i64 0),(.int .i64 0),(.int .i64 0),(.int .i64 0),(.int .i64 0),(.int .i64 0),(.int .i64 0),(.int .i64 0),(.int .i64 0),(.int .i64 0),(.int .i64 0),(.int .i64 0),(.int .i64 0),(.int .i64 0),(.int .i64 0),(.int .i64 0),(.int .i64 0),(.int .i64 0),(.int .i64 0),(.int .i64 0),(.int .i64 0),(.int .i64 0),(.int .i64 0),(.int .i64 0),(.int .i64 0),(.int .i64 0),(.int .i64 0),(.int .i64 0),(.int .i64 0),(.int .i64 0),(.int .i64 0)])):=by kernel_rfl
theorem aaE:nh ya 24 [(0,1),(1,1),(2,1),(3,1)]:=⟨_,tV,fun w=>by simp[TI.size ti2,TI.size gn]⟩
theorem aaW:nh ya 32 [(0,1),(1,1),(2,1),(3,1)]:=⟨_,qi,fun w=>by simp[TI.size ti2,TI.size iU]⟩
theorem J4:nh ya 34 [(0,1),(1,1),(2,4),(6,1)]:=⟨_,yx,fun w=>by simp[TI.size ti2,TI.size gn,TI.size iU,TI.size p6]⟩
theorem tF:nh ya 36 [(0,1),(1,1)]:=⟨_,Da,fun w=>by simp[TI.size gn]⟩
theorem aaV:nh ya 59 [(0,4),(4,1),(5,1),(6,1),(7,1),(8,1)]:=⟨_,Fp,fun w=>by simp[TI.size ti2,TI.size nO,TI.size Ck,TI.size gn,TI.size P6,TI.size E8]⟩
theorem J8:nh ya 64 [(0,1),(1,1)]:=⟨_,vm,fun w=>by simp[TI.size gn,TI.size PW]⟩
theorem aaq:nh ya 83 [(0,4),(4,1),(5,1),(6,1),(7,1),(8,1),(9,1)]:=⟨_,F8,fun w=>by simp[TI.size nO,TI.size iU,TI.size P9,TI.size JV,TI.size Kb,TI.size P8]⟩
theorem Y7:nh ya 107 [(0,1),(1,1)]:=⟨_,Tryz.underlying107,fun w=>by simp[TI.size Px,TI.size ti2]⟩
theorem O5:nh ya 111 [(0,1),(1,1)]:=⟨_,yr,fun w=>by simp[TI.size ti2,TI.size gn]⟩
theorem ZX:nh ya 130 [(0,1),(1,1),(2,1),(3,1),(4,1),(5,1),(6,1)]:=⟨_,rM,fun w=>by simp[TI.size Cc,TI.size JB,TI.size rC,TI.size Ck,TI.size gn,TI.size iU]⟩
theorem PT:nh ya 166 [(0,1),(1,1)]:=⟨_,Fs,fun w=>by simp[TI.size B8,TI.size gn]⟩
theorem ZJ:nh ya 171 [(0,1)]:=⟨_,Tryz.underlying171,fun w=>by simp[TI.size JO]⟩
theorem aae:nh ya 174 [(0,1),(1,1),(2,1),(3,1),(4,1),(5,1)]:=⟨_,Tryz.underlying174,fun w=>by simp[TI.size B8,TI.size JR,TI.size PK,TI.size gn]⟩
theorem YH:nh ya 192 [(0,1),(1,1),(2,1),(3,1)]:=⟨_,Tryz.underlying192,fun w=>by simp[TI.size ti2,TI.size gn,TI.size nV]⟩
theorem Pj:nh ya 205 [(0,1),(1,1),(2,1),(3,1),(4,1),(5,1)]:=⟨_,Tryz.underlying205,fun w=>by simp[TI.size Cc,TI.size EY,TI.size gn]⟩
theorem Pw:nh ya 258 [(0,1),(1,1),(2,1),(3,1)]:=⟨_,yZ,fun w=>by simp[TI.size ox,TI.size Cc,TI.size JB,TI.size AF]⟩
theorem OY:nh ya 262 [(0,1),(1,1),(2,1),(3,1)]:=⟨_,vj,fun w=>by simp[TI.size B8,TI.size JN,TI.size uG,TI.size gn]⟩
theorem aap:nh ya 265 [(0,1),(1,1),(2,1)]:=⟨_,Tryz.underlying265,fun w=>by simp[TI.size JO,TI.size PI,TI.size gn]⟩
theorem aaQ:gC ya 6:=enters_of Tryz.func6 k_ rfl
theorem P4:gC ya 7:=enters_of Tryz.func7 k_ rfl
theorem P3:gC ya 8:=enters_of Tryz.func8 k_ rfl
theorem aaT:gC ya 9:=enters_of Tryz.func9 k_ rfl
theorem ZY:gC ya 11:=enters_of Tryz.func11 k_ rfl
theorem Y1:gC ya 12:=enters_of Tryz.func12 k_ rfl
theorem JH:gC ya 13:=enters_of Tryz.func13 k_ rfl
theorem PM:gC ya 14:=enters_of Tryz.func14 k_ rfl
theorem YN:gC ya 15:=enters_of Tryz.func15 k_ rfl
theorem YL:gC ya 19:=enters_of Tryz.func19 k_ rfl
theorem EU:gC ya 20:=enters_of Tryz.func20 k_ rfl
theorem PC:gC ya 21:=enters_of Tryz.func21 k_ rfl
theorem ZR:gC ya 22:=enters_of Tryz.func22 k_ rfl
theorem aao:gC ya 23:=enters_of Tryz.func23 k_ rfl
theorem ZC:gC ya 24:=enters_of Tryz.func24 k_ rfl
theorem aad:gC ya 25:=enters_of Tryz.func25 k_ rfl
theorem aam:gC ya 26:=enters_of Tryz.func26 k_ rfl
theorem ZT:gC ya 27:=enters_of Tryz.func27 k_ rfl
theorem Ph:gC ya 28:=enters_of Tryz.func28 k_ rfl
theorem EJ:gC ya 29:=enters_of Tryz.func29 k_ rfl
theorem ZF:gC ya 37:=enters_of Tryz.func37 k_ rfl
theorem Y4:gC ya 38:=enters_of Tryz.func38 k_ rfl
theorem ZG:gC ya 39:=enters_of Tryz.func39 k_ rfl
theorem YK:gC ya 40:=enters_of Tryz.func40 k_ rfl
theorem YS:gC ya 41:=enters_of Tryz.func41 k_ rfl
theorem JQ:gC ya 42:=enters_of Tryz.func42 k_ rfl
theorem Pe:gC ya 43:=enters_of Tryz.func43 k_ rfl
theorem Jt:gC ya 44:=enters_of Tryz.func44 k_ rfl
theorem PS:gC ya 45:=enters_of Tryz.func45 k_ rfl
theorem ZE:gC ya 46:=enters_of Tryz.func46 k_ rfl
theorem ZK:gC ya 47:=enters_of Tryz.func47 k_ rfl
theorem O3:gC ya 48:=enters_of Tryz.func48 k_ rfl
theorem Pv:gC ya 49:=enters_of Tryz.func49 k_ rfl
theorem ZS:gC ya 50:=enters_of Tryz.func50 k_ rfl
theorem Y8:gC ya 51:=enters_of Tryz.func51 k_ rfl
theorem aai:gC ya 52:=enters_of Tryz.func52 k_ rfl
theorem Pr:gC ya 53:=enters_of Tryz.func53 k_ rfl
theorem PL:gC ya 54:=enters_of Tryz.func54 k_ rfl
theorem aaa:gC ya 55:=enters_of Tryz.func55 k_ rfl
theorem ZH:gC ya 56:=enters_of Tryz.func56 k_ rfl
theorem B7:gC ya 57:=enters_of Tryz.func57 k_ rfl
theorem aan:gC ya 58:=enters_of Tryz.func58 k_ rfl
theorem YU:gC ya 59:=enters_of Tryz.func59 k_ rfl
theorem Pt:gC ya 80:=enters_of Tryz.func80 k_ rfl
theorem ZU:gC ya 81:=enters_of Tryz.func81 k_ rfl
theorem OZ:gC ya 82:=enters_of Tryz.func82 k_ rfl
theorem YT:gC ya 83:=enters_of Tryz.func83 k_ rfl
theorem Pz:gC ya 84:=enters_of Tryz.func84 k_ rfl
theorem YW:gC ya 85:=enters_of Tryz.func85 k_ rfl
theorem JD:gC ya 86:=enters_of Tryz.func86 k_ rfl
theorem ZQ:gC ya 87:=enters_of Tryz.func87 k_ rfl
theorem EP:gC ya 88:=enters_of Tryz.func88 k_ rfl
theorem Ce:gC ya 89:=enters_of Tryz.func89 k_ rfl
theorem Ah:gC ya 90:=enters_of Tryz.func90 k_ rfl
theorem PJ:gC ya 91:=enters_of Tryz.func91 k_ rfl
theorem YQ:gC ya 92:=enters_of Tryz.func92 k_ rfl
theorem ZV:gC ya 93:=enters_of Tryz.func93 k_ rfl
theorem YX:gC ya 94:=enters_of Tryz.func94 k_ rfl
theorem O1:gC ya 95:=enters_of Tryz.func95 k_ rfl
theorem YG:gC ya 96:=enters_of Tryz.func96 k_ rfl
theorem ZB:gC ya 97:=enters_of Tryz.func97 k_ rfl
theorem Pc:gC ya 98:=enters_of Tryz.func98 k_ rfl
theorem Jm:gC ya 99:=enters_of Tryz.func99 k_ rfl
theorem I3:gC ya 100:=enters_of Tryz.func100 k_ rfl
theorem Jh:gC ya 101:=enters_of Tryz.func101 k_ rfl
theorem Ji:gC ya 102:=enters_of Tryz.func102 k_ rfl
theorem OK:gC ya 103:=enters_of Tryz.func103 k_ rfl
theorem I2:gC ya 104:=enters_of Tryz.func104 k_ rfl
theorem OD:gC ya 105:=enters_of Tryz.func105 k_ rfl
theorem El:gC ya 106:=enters_of Tryz.func106 k_ rfl
theorem Yf:gC ya 107:=enters_of Tryz.func107 k_ rfl
theorem Yo:gC ya 108:=enters_of Tryz.func108 k_ rfl
theorem OW:gC ya 110:=enters_of Tryz.func110 k_ rfl
theorem OS:gC ya 111:=enters_of Tryz.func111 k_ rfl
theorem Yy:gC ya 112:=enters_of Tryz.func112 k_ rfl
theorem Jd:gC ya 113:=enters_of Tryz.func113 k_ rfl
theorem vP:gC ya 114:=enters_of Tryz.func114 k_ rfl
theorem Od:gC ya 115:=enters_of Tryz.func115 k_ rfl
theorem XJ:gC ya 142:=enters_of Tryz.func142 k_ rfl
theorem l8:gC ya 143:=enters_of Tryz.func143 k_ rfl
theorem IX:gC ya 144:=enters_of Tryz.func144 k_ rfl
theorem zX:gC ya 145:=enters_of Tryz.func145 k_ rfl
theorem xB:gC ya 146:=enters_of Tryz.func146 k_ rfl
theorem B2:gC ya 147:=enters_of Tryz.func147 k_ rfl
theorem Ac:gC ya 148:=enters_of Tryz.func148 k_ rfl
theorem OR:gC ya 150:=enters_of Tryz.func150 k_ rfl
theorem Yz:gC ya 151:=enters_of Tryz.func151 k_ rfl
theorem zY:gC ya 152:=enters_of Tryz.func152 k_ rfl
theorem XP:gC ya 153:=enters_of Tryz.func153 k_ rfl
theorem Yj:gC ya 154:=enters_of Tryz.func154 k_ rfl
theorem Ox:gC ya 155:=enters_of Tryz.func155 k_ rfl
theorem OO:gC ya 156:=enters_of Tryz.func156 k_ rfl
theorem Yb:gC ya 157:=enters_of Tryz.func157 k_ rfl
theorem XM:gC ya 158:=enters_of Tryz.func158 k_ rfl
theorem Ot:gC ya 159:=enters_of Tryz.func159 k_ rfl
theorem IW:gC ya 160:=enters_of Tryz.func160 k_ rfl
theorem IV:gC ya 161:=enters_of Tryz.func161 k_ rfl
theorem EE:gC ya 162:=enters_of Tryz.func162 k_ rfl
theorem I8:gC ya 163:=enters_of Tryz.func163 k_ rfl
theorem Jj:gC ya 164:=enters_of Tryz.func164 k_ rfl
theorem Om:gC ya 165:=enters_of Tryz.func165 k_ rfl
theorem EC:gC ya 198:=enters_of Tryz.func198 k_ rfl
theorem Ow:gC ya 199:=enters_of Tryz.func199 k_ rfl
theorem Jf:gC ya 200:=enters_of Tryz.func200 k_ rfl
theorem Ob:gC ya 201:=enters_of Tryz.func201 k_ rfl
theorem XK:gC ya 202:=enters_of Tryz.func202 k_ rfl
theorem N9:gC ya 203:=enters_of Tryz.func203 k_ rfl
theorem I5:gC ya 204:=enters_of Tryz.func204 k_ rfl
theorem Yc:gC ya 205:=enters_of Tryz.func205 k_ rfl
theorem OG:gC ya 206:=enters_of Tryz.func206 k_ rfl
theorem Oh:gC ya 207:=enters_of Tryz.func207 k_ rfl
theorem Ol:gC ya 208:=enters_of Tryz.func208 k_ rfl
theorem OE:gC ya 209:=enters_of Tryz.func209 k_ rfl
theorem mX:gC ya 230:=enters_of Tryz.func230 k_ rfl
theorem Yw:gC ya 231:=enters_of Tryz.func231 k_ rfl
theorem XU:gC ya 232:=enters_of Tryz.func232 k_ rfl
theorem BY:gC ya 233:=enters_of Tryz.func233 k_ rfl
theorem XS:gC ya 234:=enters_of Tryz.func234 k_ rfl
theorem ta:gC ya 235:=enters_of Tryz.func235 k_ rfl
theorem Ya:gC ya 242:=enters_of Tryz.func242 k_ rfl
theorem lT:gC ya 243:=enters_of Tryz.func243 k_ rfl
theorem Yk:gC ya 244:=enters_of Tryz.func244 k_ rfl
theorem Yx:gC ya 245:=enters_of Tryz.func245 k_ rfl
theorem YA:gC ya 246:=enters_of Tryz.func246 k_ rfl
theorem ON:gC ya 249:=enters_of Tryz.func249 k_ rfl
theorem Oo:gC ya 250:=enters_of Tryz.func250 k_ rfl
theorem mixed:ya.follows .mixedOrders=true:=by kernel_rfl
instance tt:TT ya:=⟨mixed,[(2,_),(3,_),(4,_),(24,_),(25,_),(28,_),(30,_),(32,_),(34,_),(36,_),(44,_),(56,_),(57,_),(59,_),(62,_),(64,_),(78,_),(79,_),(80,_),(81,_),(83,_),(96,_),(105,_),(107,_),(111,_),(115,_),(126,_),(127,_),(128,_),(130,_),(162,_),(166,_),(167,_),(171,_),(172,_),(174,_),(192,_),(203,_),(205,_),(258,_),(259,_),(260,_),(262,_),(263,_),(265,_),(267,_),(269,_)],[(2,_,_,_),(3,_,_,_),(4,_,_,_),(5,_,_,_),(24,_,_,_),(25,_,_,_),(30,_,_,_),(32,_,_,_),(34,_,_,_),(36,_,_,_),(44,_,_,_),(46,_,_,_),(50,_,_,_),(52,_,_,_),(56,_,_,_),(57,_,_,_),(59,_,_,_),(62,_,_,_),(64,_,_,_),(78,_,_,_),(79,_,_,_),(80,_,_,_),(81,_,_,_),(83,_,_,_),(96,_,_,_),(105,_,_,_),(107,_,_,_),(111,_,_,_),(115,_,_,_),(126,_,_,_),(127,_,_,_),(128,_,_,_),(130,_,_,_),(162,_,_,_),(166,_,_,_),(167,_,_,_),(171,_,_,_),(172,_,_,_),(174,_,_,_),(177,_,_,_),(192,_,_,_),(203,_,_,_),(205,_,_,_),(258,_,_,_),(259,_,_,_),(260,_,_,_),(262,_,_,_),(263,_,_,_),(265,_,_,_),(267,_,_,_),(269,_,_,_),(270,_,_,_),(272,_,_,_),(274,_,_,_),(277,_,_,_),(279,_,_,_)],⟨uY,ye,lR,tV,y9,yy,yg,qi,yx,Da,nj,Tryz.underlying56,tG,Fp,Tryz.underlying62,vm,Tryz.underlying78,Gl,Tryz.underlying80,Tryz.underlying81,F8,Tryz.underlying96,Tryz.underlying105,Tryz.underlying107,yr,yh,Gp,CY,ym,rM,CM,Fs,Tryz.underlying167,Tryz.underlying171,rI,Tryz.underlying174,Tryz.underlying192,wV,Tryz.underlying205,yZ,o7,yn,vj,yk,Tryz.underlying265,yt,yj,trivial⟩,⟨ti2,gn,nV,Fm,nO,Ck,iU,p6,iX,j8,AF,JW,PZ,Cq,P6,E8,PX,PW,lF,P9,JV,Kb,P8,Qd,J7,Px,PD,iw,ox,Cc,JB,rC,EL,B8,JK,JO,JR,PK,O4,B6,r9,EY,ER,EN,JN,uG,EV,PI,JE,lU,iW,xI,O9,Cd,qy,Cg,trivial⟩⟩
end
section
open Go Go.Sx Go.Ex
theorem Vt(w:World):CR ya 9 #[] w (fun v w' => v = .bool true/\gB [] w w'):=Sh mixed (k:=100000) k_ w
end
section
open Go Go.Sx
abbrev KW(c:Cf)(now:Int)(lv:Value)(i:Int)(sb ib:Nat):List Value:=(A9 c.win c.fN c.fO c.ic now lv i (some sb) (some ib))
abbrev uP(bw sb ib:Nat)(c:Cf)(now:Int)(lv:Value)(i:Int)(ss is:List Int):gh:=gF [blk bw 59 (KW c now lv i sb ib),iE sb .i64 ss,iE ib .u64 is]
def kC(p:Int×Value):List Value:=[.int .i64 p.1,p.2]
abbrev KL:List (Int×Value):=[(1,.func (.func 27) #[] #[]),(2,.func (.func 28) #[] #[]),(5,.func (.func 29) #[] #[])]
abbrev uX(a:Nat)(b c d e f:Int) g (h:Int) i j k l m n o p:=([blk a 59 (A9 b c d e f g h i j),k,l,fV j5 m 36 2 n,fV kC o 64 2 p]:List gh)
abbrev QU a (b c:Nat) (d e f g h:Int) i (j:Int) k l m n (o p:Nat) (q:Lv) r s t u:=([a,blk b 64 FQ,blk c 59 (A9 d e f g h i j k l),m,n,blk o 64 Gf,blk p 34 (Zs q),fV j5 r 36 2 s,fV kC t 64 2 u]:List gh)
abbrev Fw a (b c d:Nat) (e f g h i:Int) j (k:Int) l m n o (p q:Nat) (r:Lv) s t u v:=([a,blk b 64 Cw,blk c 64 FQ,blk d 59 (A9 e f g h i j k l m),n,o,blk p 64 Gf,blk q 34 (Zs r),fV j5 s 36 2 t,fV kC u 64 2 v]:List gh)
theorem UP(w:World) :
 CR ya 15 #[] w (fun r w' => pQ 2 kC w w' r 64 KL/\gB [] w w'):=by
 refine en Tryz.func15 Tryz.ntmps15 ?_
 have hst0:=jO w
 refine gf hst0 7 ?_
 refine kf (pvs:=[(0,rF),(1,KO)]) (v:=.agg QT) rfl rfl (jS [(0,yW),(1,[KO])] lF J8 rfl ⟨rfl,rfl,rfl,rfl,trivial⟩ rfl) (kf (pvs:=[(0,wH),(1,Km)]) (v:=.agg QE) rfl rfl (jS [(0,[wH]),(1,[Km])] lF J8 rfl ⟨rfl,rfl,rfl,rfl,trivial⟩ rfl) (kf (pvs:=[(0,wJ),(1,Kr)]) (v:=.agg Rl) rfl rfl (jS [(0,Db),(1,[Kr])] lF J8 rfl ⟨rfl,rfl,rfl,rfl,trivial⟩ rfl) (lC (vs:=[(.agg QT),(.agg QE),(.agg Rl)]) (cs:=[rF,KO,wH,Km,wJ,Kr]) rfl rfl vq lF rfl (by simp[Value.cells]) rfl rfl rfl hst0 (fun b c d e a=>fW a 4 ?_))))
 refine gw (v:=(.slice (some ⟨b,0,none⟩) 3 3)) Tryz.results15 rfl ?_
 exact⟨AQ (cf:=kC) (zs:=KL) a s_,a.gK s_⟩
theorem LM(c:Cf)(hc:c.ok)(now:Int)(bw sb ib:Nat)(lv:Value)(xs:List Lv)(i:Nat)(x:Lv)(w:World)(hl:jx 7 Lv.cells (fun _=>True) w lv xs)(hxs:∀ x∈xs,x.ok)(hl0:xs.length<=100)(hR:(blk bw 59 (KW c now lv i sb ib)).holds w)(hx:xs[i]? = some x) :
 CR ya 28 (KF bw x) w (fun r w' => r = .bool (decide (x.exp<=now))/\gB [] w w'):=by
 have hxo:=hxs _ (ze hx)
 have hi:=(zb.1 hx).1
 refine en Tryz.func28 Tryz.ntmps28 ?_
 have hst0:=jO w
 refine gf hst0 2 ?_
 refine bx (v:=(vk x)) (cs:=(Zs x)) rfl rfl rfl hst0 (fun f g h j a=>gL a 4 ?_)
 by_cases b:(x.exp:Int)<=(now:Int)
 . skip
   refine iR a (fun k d=>?_)
   refine iN tt none d 2 ?_
   refine gw (v:=Zf) Tryz.results28 rfl ?_
   exact⟨kA (by simp only[b,decide_true,decide_false]),d.gK s_⟩
 . skip
   refine iR a (fun l e=>?_)
   refine iN tt none e 2 ?_
   refine gw (v:=Zq) Tryz.results28 rfl ?_
   exact⟨kA (by simp only[b,decide_true,decide_false]),e.gK s_⟩
theorem Dj(c:Cf)(hc:c.ok)(now:Int)(bw sb ib:Nat)(lv:Value)(xs:List Lv)(i:Nat)(x:Lv)(w:World)(hl:jx 7 Lv.cells (fun _=>True) w lv xs)(hxs:∀ x∈xs,x.ok)(hl0:xs.length<=100)(hR:(blk bw 59 (KW c now lv i sb ib)).holds w)(hx:xs[i]? = some x) :
 CR ya 29 (KF bw x) w (fun r w' => r = .bool (tB c now x i (lY xs i).t)/\gB [] w w'):=by
 have hxo:=hxs _ (ze hx)
 have hi:=(zb.1 hx).1
 have h1:=hxo.t.i64
 have h2:=hc.win.i64
 obtain⟨ex_,hex,hx1,hx2,hx3⟩:=SE (x:=x.t+c.win) o_
 refine en Tryz.func29 Tryz.ntmps29 ?_
 have hst0:=jO w
 refine gf hst0 2 ?_
 refine bx (v:=(vk x)) (cs:=(Zs x)) rfl rfl rfl hst0 (fun B C D E b=>gL b 5 ?_)
 by_cases G:(x.t:Int)>(now:Int)
 . skip
   refine iR b (fun H n=>?_)
   refine iN tt none n 9 ?_
   refine gw (v:=Zf) qa rfl ?_
   exact⟨kA (tv (by unfold mO;omega)),n.gK s_⟩
 . skip
   by_cases I:((i:Int):Int)>(0:Int)
   . skip
     obtain⟨d,a⟩:=ov (show (i-1)<xs.length by omega)
     have J:=hxs _ (ze a)
     have hps:(lY xs i).seq=d.seq:=by rw[BW a]
     have hpt:(lY xs i).t=d.t:=by rw[BW a]
     by_cases K:(x.t:Int)<(d.t:Int)
     . skip
       refine iR b (fun L o=>?_) (hA:=by refine' gI 27 ?k0;case k0=>refine' gq (fun wq hM=>rv (kz (v:=lv) (k:=(i-1)) (i:=(i:Int)-1) rfl rfl y9 iX hl o_ o_ a)) ?k1;case k1=>refine' gq (fun wq hM=>rv (mJ (off:=0) (off' := 2) rfl yx rfl p6 rfl hl a)) ?k2;case k2=>refine' gq (fun wq hM=>rv (mJ (off:=2) (off' := 5) rfl qi rfl ti2 rfl hl a)) ?k3;case k3=>refine' gq (fun wq hM=>rv (mc (u:=(Za d.t)) rfl uY rfl (lZ hM s_ d_ hl) a rfl)) ?k4;case k4=>exact iA)
       refine iN tt none o 9 ?_
       refine gw (v:=Zf) qa rfl ?_
       exact⟨kA (tv (by unfold mO;omega)),o.gK s_⟩
     . skip
       refine iR b (fun M p=>?_) (hA:=by refine' gI 27 ?k0;case k0=>refine' gq (fun wq hM=>rv (kz (v:=lv) (k:=(i-1)) (i:=(i:Int)-1) rfl rfl y9 iX hl o_ o_ a)) ?k1;case k1=>refine' gq (fun wq hM=>rv (mJ (off:=0) (off' := 2) rfl yx rfl p6 rfl hl a)) ?k2;case k2=>refine' gq (fun wq hM=>rv (mJ (off:=2) (off' := 5) rfl qi rfl ti2 rfl hl a)) ?k3;case k3=>refine' gq (fun wq hM=>rv (mc (u:=(Za d.t)) rfl uY rfl (lZ hM s_ d_ hl) a rfl)) ?k4;case k4=>exact iA)
       refine kF tt none p 5 ?_
       refine iR p (fun N f=>?_) (hA:=by refine' gI 8 ?k0;case k0=>refine' gq (fun wq hM=>rv (kV (e:=ex_) rfl rfl rfl hex)) ?k1;case k1=>exact iA)
       refine kF tt none f 2 ?_
       by_cases O:(ex_:Int)<(x.t:Int)
       . skip
         by_cases P:(c.win:Int)<(0:Int)
         . skip
           refine iR f (fun Q g=>?_) (hA:=by refine' gI 11 ?k0;case k0=>refine' gq (fun wq hM=>rv (uk (c:=false) rfl rfl lR rfl)) ?k1;case k1=>exact iA)
           refine ng tt none g 8 ?_
           by_cases R:(ex_:Int)=(x.exp:Int)
           . refine fW g 6 ?_
             refine gw (v:=Zq) qa rfl ?_
             exact⟨kA (EI (by unfold mO;omega)),g.gK s_⟩
           . refine fW g 6 ?_
             refine gw (v:=Zf) qa rfl ?_
             exact⟨kA (tv (by unfold mO;omega)),g.gK s_⟩
         . skip
           refine iR f (fun S q=>?_) (hA:=by refine' gI 11 ?k0;case k0=>refine' gq (fun wq hM=>rv (uk (c:=true) rfl rfl lR rfl)) ?k1;case k1=>exact iA)
           refine iN tt none q 14 ?_
           refine gw (v:=Zf) qa rfl ?_
           exact⟨kA (tv (by unfold mO;omega)),q.gK s_⟩
       . skip
         by_cases U:(c.win:Int)<(0:Int)
         . skip
           refine iR f (fun V s=>?_) (hA:=by refine' gI 11 ?k0;case k0=>refine' gq (fun wq hM=>rv (uk (c:=true) rfl rfl lR rfl)) ?k1;case k1=>exact iA)
           refine iN tt none s 14 ?_
           refine gw (v:=Zf) qa rfl ?_
           exact⟨kA (tv (by unfold mO;omega)),s.gK s_⟩
         . skip
           refine iR f (fun W h=>?_) (hA:=by refine' gI 11 ?k0;case k0=>refine' gq (fun wq hM=>rv (uk (c:=false) rfl rfl lR rfl)) ?k1;case k1=>exact iA)
           refine ng tt none h 8 ?_
           by_cases X:(ex_:Int)=(x.exp:Int)
           . refine fW h 6 ?_
             refine gw (v:=Zq) qa rfl ?_
             exact⟨kA (EI (by unfold mO;omega)),h.gK s_⟩
           . refine fW h 6 ?_
             refine gw (v:=Zf) qa rfl ?_
             exact⟨kA (tv (by unfold mO;omega)),h.gK s_⟩
   . skip
     refine iR b (fun Y y=>?_)
     refine kF tt none y 5 ?_
     refine iR y (fun Z j=>?_) (hA:=by refine' gI 8 ?k0;case k0=>refine' gq (fun wq hM=>rv (kV (e:=ex_) rfl rfl rfl hex)) ?k1;case k1=>exact iA)
     refine kF tt none j 2 ?_
     by_cases aa:(ex_:Int)<(x.t:Int)
     . skip
       by_cases ab:(c.win:Int)<(0:Int)
       . skip
         refine iR j (fun ac l=>?_) (hA:=by refine' gI 11 ?k0;case k0=>refine' gq (fun wq hM=>rv (uk (c:=false) rfl rfl lR rfl)) ?k1;case k1=>exact iA)
         refine ng tt none l 8 ?_
         by_cases ad:(ex_:Int)=(x.exp:Int)
         . refine fW l 6 ?_
           refine gw (v:=Zq) qa rfl ?_
           exact⟨kA (EI (by unfold mO;omega)),l.gK s_⟩
         . refine fW l 6 ?_
           refine gw (v:=Zf) qa rfl ?_
           exact⟨kA (tv (by unfold mO;omega)),l.gK s_⟩
       . skip
         refine iR j (fun ae z=>?_) (hA:=by refine' gI 11 ?k0;case k0=>refine' gq (fun wq hM=>rv (uk (c:=true) rfl rfl lR rfl)) ?k1;case k1=>exact iA)
         refine iN tt none z 14 ?_
         refine gw (v:=Zf) qa rfl ?_
         exact⟨kA (tv (by unfold mO;omega)),z.gK s_⟩
     . skip
       by_cases af:(c.win:Int)<(0:Int)
       . skip
         refine iR j (fun ag A=>?_) (hA:=by refine' gI 11 ?k0;case k0=>refine' gq (fun wq hM=>rv (uk (c:=true) rfl rfl lR rfl)) ?k1;case k1=>exact iA)
         refine iN tt none A 14 ?_
         refine gw (v:=Zf) qa rfl ?_
         exact⟨kA (tv (by unfold mO;omega)),A.gK s_⟩
       . skip
         refine iR j (fun ah m=>?_) (hA:=by refine' gI 11 ?k0;case k0=>refine' gq (fun wq hM=>rv (uk (c:=false) rfl rfl lR rfl)) ?k1;case k1=>exact iA)
         refine ng tt none m 8 ?_
         by_cases ai:(ex_:Int)=(x.exp:Int)
         . refine fW m 6 ?_
           refine gw (v:=Zq) qa rfl ?_
           exact⟨kA (EI (by unfold mO;omega)),m.gK s_⟩
         . refine fW m 6 ?_
           refine gw (v:=Zf) qa rfl ?_
           exact⟨kA (tv (by unfold mO;omega)),m.gK s_⟩
theorem RJ(c:Cf)(now:Int)(bw sb ib:Nat)(lv:Value)(xs:List Lv)(i:Nat)(x:Lv)(ss is:List Int)(ok:Nat->Prop)(w:World)(hO:Own (uP bw sb ib c now lv i ss is) w)(hok:∀ b,ok b->b∉(uP bw sb ib c now lv i ss is).gT)(hl:jx 7 Lv.cells ok w lv xs)(hxs:∀ x∈xs,x.ok)(hl0:xs.length<=100)(hx:xs[i]? = some x) :
 CR ya 27 (KF bw x) w (fun r w' => r = .bool (wj c x i (lY xs i).seq ss is)/\gm (uP bw sb ib c now lv i ss is) w w' (uP bw sb ib c now lv i (gR ss x.slot) (gR (gR is x.u) x.v))):=by
 have hxo:=hxs _ (ze hx)
 have hi:=(zb.1 hx).1
 refine en Tryz.func27 Tryz.ntmps27 ?_
 have hst0:=(y8 hO).unpack
 refine gf hst0 2 ?_
 refine bx (v:=(vk x)) (cs:=(Zs x)) rfl rfl rfl hst0 (fun e W Y Z m=>gL m 4 ?_)
 refine iR m (fun aa n=>?_) (hA:=by refine' gI 6 ?k0;case k0=>refine' gq (fun wq hM=>rv (aak (ys:=ss) 2 rfl rfl Tryz.underlying56 ye nV hM rfl)) ?k1;case k1=>exact iA)
 refine kF tt none n 2 ?_
 refine jN n 6 ?_
 intro wq hM
 refine Y3 (ys:=ss) (a:=x.slot) (L' := (tW e x bw c.win c.fN c.fO c.ic now lv i (some sb) (some ib) (iE sb .i64 (gR ss x.slot)) (iE ib .u64 is))) 2 rfl rfl rfl rfl Tryz.underlying56 ye hM rfl rfl (fun _ h=>(jM h (fun ab l=>?_)))
 refine ng tt none l 7 ?_
 refine aaU 3 rfl rfl tG l rfl (gL l 4 ?_)
 refine oh (Γ:=Unit) mixed [[],[0],[0,1],[0,1,2],[],[4],[4,5],[],[7],[7,8],[7,8,9],[],[11],[11,12],[0,1,2,3,4,5,6,7,8,9,10],[0,1,2,3,4,5,6,7,8,9,10,14],[0,1,2,3,4,5,6,7,8,9,10,14,15],[0,1,2,3,4,5,6,7,8,9,10,11,12,13,14,15,16],[0,1,2,3,4,5,6,7,8,9,10,11,12,13,14,15,16,17],[0,1,2,3,4,5,6,7,8,9,10,11,12,13,14,15,16,17,18]] [14,16,17,19] d_ [fun _=>(Zb bw),fun _=>(Zb bw),fun _=>(.pointer (some ⟨bw,8,none⟩)),fun _=>(.map (some ib)),fun _=>(qh e),fun _=>(qh e),fun _=>(Zd x.u),fun _=>(Zb bw),fun _=>(Zb bw),fun _=>(.pointer (some ⟨bw,8,none⟩)),fun _=>(.map (some ib)),fun _=>(qh e),fun _=>(yT e),fun _=>(Zd x.v),fun _=>(.tuple #[(.bool (is.contains x.u)),(Za (q7 is x.u))]),fun _=>(Za (q7 is x.u)),fun _=>undef,fun _=>(.tuple #[(.bool ((gR is x.u).contains x.v)),(Za (q7 (gR is x.u) x.v))]),fun _=>(Za (q7 (gR is x.u) x.v)),fun _=>undef] [(fun _=>(tW e x bw c.win c.fN c.fO c.ic now lv i (some sb) (some ib) (iE sb .i64 (gR ss x.slot)) (iE ib .u64 is)),fun _ _=>True),(fun _=>(tW e x bw c.win c.fN c.fO c.ic now lv i (some sb) (some ib) (iE sb .i64 (gR ss x.slot)) (ry ib .u64 is x.u)),fun _ _=>True),(fun _=>(tW e x bw c.win c.fN c.fO c.ic now lv i (some sb) (some ib) (iE sb .i64 (gR ss x.slot)) (iE ib .u64 (gR is x.u))),fun _ _=>True),(fun _=>(tW e x bw c.win c.fN c.fO c.ic now lv i (some sb) (some ib) (iE sb .i64 (gR ss x.slot)) (ry ib .u64 (gR is x.u) x.v)),fun _ _=>True),(fun _=>(tW e x bw c.win c.fN c.fO c.ic now lv i (some sb) (some ib) (iE sb .i64 (gR ss x.slot)) (iE ib .u64 (gR (gR is x.u) x.v))),fun _ _=>True)] () _ rfl l (fun _ _=>trivial) ?_ f_ rfl ?_
 . skip
   refine gp (fun _ _=>iy (v:=(Zb bw)) rfl) ?_
   refine gp (fun _ _=>j6 rfl) ?_
   refine gp (fun _ _=>jy (o' := 8) rfl Fp rfl E8 rfl) ?_
   refine l9 rfl rfl rfl rfl (fun _ wq hM hF=>qv rfl rfl (gU rfl tG rfl (yo hM (i:=1) rfl rfl))) (gp (fun _ _=>jy (o' := 2) rfl yx rfl p6 rfl) ?_)
   refine gp (fun _ _=>jy (o' := 2) rfl qi rfl iU rfl) ?_
   refine l9 rfl rfl rfl rfl (fun _ wq hM hF=>qv rfl rfl (gU rfl yg rfl (yo hM (i:=0) rfl rfl))) (gp (fun _ _=>iy (v:=(Zb bw)) rfl) ?_)
   refine gp (fun _ _=>j6 rfl) ?_
   refine gp (fun _ _=>jy (o' := 8) rfl Fp rfl E8 rfl) ?_
   refine l9 rfl rfl rfl rfl (fun _ wq hM hF=>qv rfl rfl (gU rfl tG rfl (yo hM (i:=1) rfl rfl))) (gp (fun _ _=>jy (o' := 2) rfl yx rfl p6 rfl) ?_)
   refine gp (fun _ _=>jy (o' := 3) rfl qi rfl iU rfl) ?_
   refine vR rfl rfl rfl rfl rfl rfl (fun _ wq hM hF=>qv rfl rfl (gU rfl yg rfl (yo hM (i:=0) rfl rfl))) (fun _ wq hM hF=>qv rfl rfl (gU rfl yg rfl (yo hM (i:=0) rfl rfl))) (fun _ wq hM hF=>qv rfl rfl (gU rfl yg rfl (yo hM (i:=0) rfl rfl))) (jK rfl rfl rfl rfl (fun _ wq hM hF=>PN (ys:=is) (a:=x.u) (L' := (tW e x bw c.win c.fN c.fO c.ic now lv i (some sb) (some ib) (iE sb .i64 (gR ss x.slot)) (ry ib .u64 is x.u))) 3 rfl rfl rfl tG yg nV hM rfl rfl (fun _ h=>⟨(),⟨h,trivial⟩,rfl,jD.refl _ _ _⟩)) (gp (fun _ _=>xS rfl rfl) ?_))
   refine jK rfl rfl rfl rfl (fun _ wq hM hF=>O7 (ys:=is) (a:=x.u) (L' := (tW e x bw c.win c.fN c.fO c.ic now lv i (some sb) (some ib) (iE sb .i64 (gR ss x.slot)) (iE ib .u64 (gR is x.u)))) 3 rfl rfl rfl rfl hM rfl rfl (fun _ h=>⟨(),⟨h,trivial⟩,rfl,jD.refl _ _ _⟩)) (jK rfl rfl rfl rfl (fun _ wq hM hF=>PN (ys:=gR is x.u) (a:=x.v) (L' := (tW e x bw c.win c.fN c.fO c.ic now lv i (some sb) (some ib) (iE sb .i64 (gR ss x.slot)) (ry ib .u64 (gR is x.u) x.v))) 3 rfl rfl rfl tG yg nV hM rfl rfl (fun _ h=>⟨(),⟨h,trivial⟩,rfl,jD.refl _ _ _⟩)) (gp (fun _ _=>xS rfl rfl) ?_))
   refine jK rfl rfl rfl rfl (fun _ wq hM hF=>O7 (ys:=gR is x.u) (a:=x.v) (L' := (tW e x bw c.win c.fN c.fO c.ic now lv i (some sb) (some ib) (iE sb .i64 (gR ss x.slot)) (iE ib .u64 (gR (gR is x.u) x.v)))) 3 rfl rfl rfl rfl hM rfl rfl (fun _ h=>⟨(),⟨h,trivial⟩,rfl,jD.refl _ _ _⟩)) ?_
   exact og
 rintro-ac f -
 refine kF tt none f 2 ?_
 by_cases ad:(x.u:Int)=(x.v:Int)
 . skip
   refine iR f (fun ae o=>?_)
   refine iN tt none o 2 ?_
   refine gw (v:=Zf) qK rfl ?_
   have I:=yi [1,2,3] o
   exact⟨kA (uE (by unfold mB;omega)),yq (yc [_,_,_] [] I)⟩
 . skip
   cases g:(ss.contains x.slot:Bool)
   . skip
     by_cases af:(x.slot:Int)<(0:Int)
     . skip
       refine iR f (fun ag p=>?_)
       refine iN tt none p 2 ?_
       refine gw (v:=Zf) qK rfl ?_
       have J:=yi [1,2,3] p
       have hm9:=rm g
       exact⟨kA (uE (by unfold mB;omega)),yq (yc [_,_,_] [] J)⟩
     . skip
       by_cases ah:(x.slot:Int)≥(c.fN:Int)
       . skip
         refine iR f (fun ai q=>?_)
         refine iN tt none q 2 ?_
         refine gw (v:=Zf) qK rfl ?_
         have K:=yi [1,2,3] q
         have hm9:=rm g
         exact⟨kA (uE (by unfold mB;omega)),yq (yc [_,_,_] [] K)⟩
       . skip
         by_cases aj:((i:Int):Int)>(0:Int)
         . skip
           obtain⟨j,d⟩:=ov (show (i-1)<xs.length by omega)
           have ak:=hxs _ (ze d)
           have hps:(lY xs i).seq=j.seq:=by rw[BW d]
           have hpt:(lY xs i).t=j.t:=by rw[BW d]
           by_cases al:(x.seq:Int)<=(j.seq:Int)
           . skip
             refine iR f (fun am s=>?_) (hA:=by refine' gI 43 ?k0;case k0=>refine' gq (fun wq hM=>rv (kz (v:=lv) (k:=(i-1)) (i:=(i:Int)-1) rfl rfl y9 iX hl o_ o_ d)) ?k1;case k1=>refine' gq (fun wq hM=>rv (mJ (off:=0) (off' := 1) rfl yx rfl iU rfl hl d)) ?k2;case k2=>refine' gq (fun wq hM=>rv (mc (u:=(Zd j.seq)) rfl yg rfl (St.Aw hM (X:=(uP bw sb ib c now lv i ss is).gT) zh d_ hl hok) d rfl)) ?k3;case k3=>exact iA)
             refine iN tt none s 2 ?_
             refine gw (v:=Zf) qK rfl ?_
             have L:=yi [1,2,3] s
             have hm9:=rm g
             exact⟨kA (uE (by unfold mB;omega)),yq (yc [_,_,_] [] L)⟩
           . skip
             by_cases an:((i:Int):Int)≥(c.fN:Int)
             . skip
               refine iR f (fun ao y=>?_) (hA:=by refine' gI 43 ?k0;case k0=>refine' gq (fun wq hM=>rv (kz (v:=lv) (k:=(i-1)) (i:=(i:Int)-1) rfl rfl y9 iX hl o_ o_ d)) ?k1;case k1=>refine' gq (fun wq hM=>rv (mJ (off:=0) (off' := 1) rfl yx rfl iU rfl hl d)) ?k2;case k2=>refine' gq (fun wq hM=>rv (mc (u:=(Zd j.seq)) rfl yg rfl (St.Aw hM (X:=(uP bw sb ib c now lv i ss is).gT) zh d_ hl hok) d rfl)) ?k3;case k3=>exact iA)
               refine iN tt none y 2 ?_
               refine gw (v:=Zf) qK rfl ?_
               have M:=yi [1,2,3] y
               have hm9:=rm g
               exact⟨kA (uE (by unfold mB;omega)),yq (yc [_,_,_] [] M)⟩
             . skip
               by_cases ap:((is.length:Int):Int)<=(c.fO:Int)
               . skip
                 by_cases aq:(((gR (gR is x.u) x.v).length:Int):Int)>(c.fO:Int)
                 . skip
                   refine iR f (fun ar z=>?_) (hA:=by refine' gI 43 ?k0;case k0=>refine' gq (fun wq hM=>rv (kz (v:=lv) (k:=(i-1)) (i:=(i:Int)-1) rfl rfl y9 iX hl o_ o_ d)) ?k1;case k1=>refine' gq (fun wq hM=>rv (mJ (off:=0) (off' := 1) rfl yx rfl iU rfl hl d)) ?k2;case k2=>refine' gq (fun wq hM=>rv (mc (u:=(Zd j.seq)) rfl yg rfl (St.Aw hM (X:=(uP bw sb ib c now lv i ss is).gT) zh d_ hl hok) d rfl)) ?k3;case k3=>refine' gI 28 ?k4;case k4=>refine' gq (fun wq hM=>rv (B3 3 rfl tG hM rfl)) ?k5;case k5=>exact iA)
                   refine iN tt none z 2 ?_
                   refine gw (v:=Zf) qK rfl ?_
                   have N:=yi [1,2,3] z
                   have hm9:=rm g
                   exact⟨kA (uE (by unfold mB;omega)),yq (yc [_,_,_] [] N)⟩
                 . skip
                   refine iR f (fun au A=>?_) (hA:=by refine' gI 43 ?k0;case k0=>refine' gq (fun wq hM=>rv (kz (v:=lv) (k:=(i-1)) (i:=(i:Int)-1) rfl rfl y9 iX hl o_ o_ d)) ?k1;case k1=>refine' gq (fun wq hM=>rv (mJ (off:=0) (off' := 1) rfl yx rfl iU rfl hl d)) ?k2;case k2=>refine' gq (fun wq hM=>rv (mc (u:=(Zd j.seq)) rfl yg rfl (St.Aw hM (X:=(uP bw sb ib c now lv i ss is).gT) zh d_ hl hok) d rfl)) ?k3;case k3=>refine' gI 28 ?k4;case k4=>refine' gq (fun wq hM=>rv (B3 3 rfl tG hM rfl)) ?k5;case k5=>exact iA)
                   refine iN tt none A 2 ?_
                   refine gw (v:=Zq) qK rfl ?_
                   have O:=yi [1,2,3] A
                   have hm9:=rm g
                   exact⟨kA (EG (by unfold mB;omega)),yq (yc [_,_,_] [] O)⟩
               . skip
                 refine iR f (fun av B=>?_) (hA:=by refine' gI 43 ?k0;case k0=>refine' gq (fun wq hM=>rv (kz (v:=lv) (k:=(i-1)) (i:=(i:Int)-1) rfl rfl y9 iX hl o_ o_ d)) ?k1;case k1=>refine' gq (fun wq hM=>rv (mJ (off:=0) (off' := 1) rfl yx rfl iU rfl hl d)) ?k2;case k2=>refine' gq (fun wq hM=>rv (mc (u:=(Zd j.seq)) rfl yg rfl (St.Aw hM (X:=(uP bw sb ib c now lv i ss is).gT) zh d_ hl hok) d rfl)) ?k3;case k3=>exact iA)
                 refine iN tt none B 2 ?_
                 refine gw (v:=Zq) qK rfl ?_
                 have P:=yi [1,2,3] B
                 have hm9:=rm g
                 exact⟨kA (EG (by unfold mB;omega)),yq (yc [_,_,_] [] P)⟩
         . skip
           by_cases aw:((i:Int):Int)≥(c.fN:Int)
           . skip
             refine iR f (fun ax C=>?_)
             refine iN tt none C 2 ?_
             refine gw (v:=Zf) qK rfl ?_
             have Q:=yi [1,2,3] C
             have hm9:=rm g
             exact⟨kA (uE (by unfold mB;omega)),yq (yc [_,_,_] [] Q)⟩
           . skip
             by_cases ay:((is.length:Int):Int)<=(c.fO:Int)
             . skip
               by_cases az:(((gR (gR is x.u) x.v).length:Int):Int)>(c.fO:Int)
               . skip
                 refine iR f (fun aA D=>?_) (hA:=by refine' gI 74 ?k0;case k0=>refine' gq (fun wq hM=>rv (B3 3 rfl tG hM rfl)) ?k1;case k1=>exact iA)
                 refine iN tt none D 2 ?_
                 refine gw (v:=Zf) qK rfl ?_
                 have R:=yi [1,2,3] D
                 have hm9:=rm g
                 exact⟨kA (uE (by unfold mB;omega)),yq (yc [_,_,_] [] R)⟩
               . skip
                 refine iR f (fun aB E=>?_) (hA:=by refine' gI 74 ?k0;case k0=>refine' gq (fun wq hM=>rv (B3 3 rfl tG hM rfl)) ?k1;case k1=>exact iA)
                 refine iN tt none E 2 ?_
                 refine gw (v:=Zq) qK rfl ?_
                 have S:=yi [1,2,3] E
                 have hm9:=rm g
                 exact⟨kA (EG (by unfold mB;omega)),yq (yc [_,_,_] [] S)⟩
             . skip
               refine iR f (fun aC G=>?_)
               refine iN tt none G 2 ?_
               refine gw (v:=Zq) qK rfl ?_
               have U:=yi [1,2,3] G
               have hm9:=rm g
               exact⟨kA (EG (by unfold mB;omega)),yq (yc [_,_,_] [] U)⟩
   . skip
     refine iR f (fun aD H=>?_)
     refine iN tt none H 2 ?_
     refine gw (v:=Zf) qK rfl ?_
     have V:=yi [1,2,3] H
     have hm9:=YI g
     exact⟨kA (uE (by unfold mB;omega)),yq (yc [_,_,_] [] V)⟩
end
section
open Go Go.Sx
theorem N2(c:Cf)(hc:c.ok)(now:Int)(lv:Value)(xs:List Lv)(w:World)(hl:jx 7 Lv.cells (fun _=>True) w lv xs)(hxs:∀ x∈xs,x.ok)(hl0:xs.length<=100) :
 CR ya 7 #[(wG c.win c.fN c.fO c.ic),(Za now),lv] w (fun r w' => pQ 2 j5 w w' r 36 (vO c now xs)/\gB [] w w'):=by
 have hlo:jx 7 Lv.cells (fun b=>b<w.heap.size) w lv xs:=Sl.mono (Sl.old hl d_) (fun b hb=>hb.2)
 refine en Tryz.func7 Tryz.ntmps7 ?_
 have hst0:=jO w
 refine gf hst0 2 ?_
 refine bx (v:=(wG c.win c.fN c.fO c.ic)) (cs:=(yJ c.win c.fN c.fO c.ic)) rfl rfl rfl hst0 (fun aC bF bG bH ag=>fQ ag 8 ?_)
 refine Q7 (k:=.i64) rfl rfl ag (fun a bI bJ bK aD=>Q7 (k:=.u64) rfl rfl aD (fun d bL bM bN aE=>kf (pvs:=[(0,(wG c.win c.fN c.fO c.ic)),(1,(Za now)),(2,lv),(4,(.map (some a))),(5,(.map (some d)))]) (v:=.agg (Rq c.win c.fN c.fO c.ic now lv (some a) (some d))) rfl rfl (jS [(0,(yJ c.win c.fN c.fO c.ic)),(1,(Ze now)),(2,[lv]),(4,[(.map (some a))]),(5,[(.map (some d))])] PX aaV rfl ⟨rfl,rfl,rfl,rfl,rfl,(cells_one (Sl.aas hl)),rfl,rfl,rfl,rfl,trivial⟩ rfl) (bx (v:=(.agg (Rq c.win c.fN c.fO c.ic now lv (some a) (some d)))) (cs:=(KR c.win c.fN c.fO c.ic now lv (some a) (some d))) rfl rfl rfl aE (fun e aF bO bP ah=>fQ ah 5 ?_))))
 refine cl YN (UP aF) ?_
 rintro f V ⟨aG,aH⟩
 have G:St _ [fV kC f 64 2 KL,blk e 59 (KR c.win c.fN c.fO c.ic now lv (some a) (some d)),iE d .u64 ([]),iE a .i64 ([]),blk aC 24 (yJ c.win c.fN c.fO c.ic)] V:=uT ah aH aG
 have g:jx 2 kC _ V f KL:=yf G (i:=0) rfl f_
 refine fQ G 12 ?_
 refine tE (v:=lv) rfl rfl y9 hl ?_
 have aI:=yi [0,1,2,3] G
 have aJ:St _ [fV j5 Zk 36 2 (jc c now xs 0),fV kC f 64 2 KL,blk e 59 (KR c.win c.fN c.fO c.ic now lv (some a) (some d)),iE d .u64 ([]),iE a .i64 ([])] V:=sI aI 36 2
 have aK:=yi [2,4,3,0,1] aJ
 have aL:=aK
 refine gL G 4 ?_
 refine lp (α:=Nat×Int×Value) (fun(i,ap,vo)=>[(7,(Zb e)),(8,f),(9,vo),(22,lv),(23,(Za xs.length)),(24,(Za i))]) (fun(i,ap,vo) w1=>St [(w,[])] (uX e c.win c.fN c.fO c.ic now lv ap (some a) (some d) (iE a .i64 (kJ (xs.take i))) (iE d .u64 (jb (xs.take i))) vo (jc c now xs i) f KL) w1/\i<=xs.length) (fun(i,ap,vo)=>xs.length-i) (0,0,Zk) ⟨rfl,rfl,rfl,rfl,rfl,gD (by first|rfl|omega),trivial⟩ (⟨aL,o_⟩) ?_
 rintro⟨i,ap,vo⟩ bQ bR ⟨hst,hi⟩
 refine gf hst 2 ?_
 by_cases h:((i:Int):Int)<((xs.length:Int):Int)
 . obtain⟨x,hx⟩:=ov (show i<xs.length by omega)
   refine fQ hst 12 ?_
   refine jj (k:=i) (i:=(i:Int)) rfl rfl rfl y9 iX hl o_ o_ hx (sj (cs:=(Zs x)) rfl rfl yx rfl iX (lZ hst s_ d_ hl) hx rfl rfl (al (cs:=Zx) rfl iX rfl hst (fun p bS bT bU aM=>kL aM 16 fun bV B=>?_)))
   refine tE (v:=f) rfl rfl vq g (gL B 4 ?_)
   refine sy 4 (ir (gf B 2 ?_))
   refine cmp rfl rfl rfl (p5 d_) (fQ B 10 ?_)
   refine jj (k:=0) (i:=0) rfl rfl rfl vq lF g o_ o_ rfl (sj (cs:=Gf) rfl rfl vm rfl lF (yf B (i:=5) rfl f_) rfl rfl rfl (al (cs:=xX) rfl lF rfl B (fun q bW bX bY aN=>kL aN 9 fun aO aP=>?_)))
   have ai:=yi [2,3,4,0,1,5,6] aP
   have W:=yc [_,_,_] _ ai
   refine p9 (fi:=[]) (ca:=[]) rfl rfl rfl ZT (RJ c now e a d lv xs i x (kJ (xs.take i)) (jb (xs.take i)) (fun b=>b<w.heap.size) aO (yd W (i:=0) rfl) (fun b hb hf=>St.WV W (w0:=w) (X:=[]) s_ hb s_ (by rw[ou];exact uO _ hf)) (lZ ai s_ d_ hlo) hxs hl0 hx) ?_
   rintro _ bZ ⟨rfl,ht⟩
   have j:=(yp W ht)
   refine gL j 2 ?_
   cases l:(wj c x i (lY xs i).seq (kJ (xs.take i)) (jb (xs.take i)):Bool)
   . skip
     refine jm j 8 ?_
     refine tN (?_)
     refine ir (gf j 2 ?_)
     refine cmp rfl rfl rfl (p5 d_) (fQ j 10 ?_)
     refine jj (k:=1) (i:=1) rfl rfl rfl vq lF g o_ o_ rfl (sj (cs:=FQ) rfl rfl vm rfl lF (yf j (i:=6) rfl f_) rfl rfl rfl (al (cs:=xX) rfl lF rfl j (fun Y b0 b1 b2 aQ=>kL aQ 9 fun aR Z=>?_)))
     refine p9 (fi:=[]) (ca:=[]) rfl rfl rfl Ph (LM c hc now e a d lv xs i x aR (lZ Z s_ d_ hl) hxs hl0 (Z.at (i:=1) rfl) hx) ?_
     rintro _ b3 ⟨rfl,aS⟩
     have m:=jf Z aS
     refine gL m 2 ?_
     cases H:(decide (x.exp<=now):Bool)
     . skip
       refine jm m 8 ?_
       refine tN (?_)
       refine ir (gf m 2 ?_)
       refine cmp rfl rfl rfl (p5 d_) (fQ m 10 ?_)
       refine jj (k:=2) (i:=2) rfl rfl rfl vq lF g o_ o_ rfl (sj (cs:=Cw) rfl rfl vm rfl lF (yf m (i:=7) rfl f_) rfl rfl rfl (al (cs:=xX) rfl lF rfl m (fun aT b4 b5 b6 aU=>kL aU 8 fun aV I=>?_)))
       refine pH (cs:=(Zs x)) rfl rfl yx rfl iX rfl (kT I (i:=6) (o:=0) (vs:=(Zs x)) rfl rfl) (p9 (fi:=[]) (ca:=[]) rfl rfl rfl EJ (Dj c hc now e a d lv xs i x aV (lZ I s_ d_ hl) hxs hl0 (I.at (i:=2) rfl) hx) ?_)
       rintro _ aW ⟨rfl,aX⟩
       have s:=jf I aX
       refine gL s 2 ?_
       cases aj:(tB c now x i (lY xs i).t:Bool)
       . skip
         refine jm s 8 ?_
         refine tN (?_)
         refine ir (gf s 2 ?_)
         refine cmp rfl rfl rfl (mL d_) (fW s 14 ?_)
         refine tN (?_)
         have aY:=yi [2,3,4,7,8] s
         have hfl:jc c now xs i=jc c now xs (i+1):=by rw[uj hx,pg];simp only[h,l,H,aj,decide_true,decide_false,decide_eq_true_eq,decide_eq_false_iff_not,if_true,if_false,rN,nC,mD,lH]
         have hs9:St [(w,[])] (uX e c.win c.fN c.fO c.ic now lv i (some a) (some d) (iE a .i64 (kJ (xs.take (i+1)))) (iE d .u64 (jb (xs.take (i+1)))) vo (jc c now xs (i+1)) f KL) aW:=by rw[<-hfl,vD hx,rY hx];exact aY
         exact again ((i+1),(i:Int),vo) ⟨rfl,rfl,rfl,rfl,rfl,gD (by first|rfl|omega),trivial⟩ (⟨hs9,o_⟩) (by show (xs.length-(i+1):Nat)<xs.length-i;omega)
       . skip
         refine gf s 6 ?_
         refine kf (pvs:=[(0,wJ),(1,(Za i))]) (v:=.agg (CN i)) rfl rfl (jS [(0,Db),(1,(Ze i))] j8 tF rfl ⟨rfl,rfl,rfl,rfl,trivial⟩ rfl) (lC (vs:=(Gt i)) (cs:=(FY i)) rfl rfl yy j8 rfl (by simp[Value.cells]) rfl rfl rfl s (fun aZ b7 b8 b9 ak=>mZ (cf:=j5) (ys:=jc c now xs i) (zs:=[(5,(i:Int))]) (LL:=fun J=>(Fw (row (.slice (some ⟨aZ,0,none⟩) 1 1) 36 2 1 ([(.int .i64 5),(.int .i64 i)])) aT Y e c.win c.fN c.fO c.ic now lv i (some a) (some d) (iE a .i64 (gR (kJ (xs.take i)) x.slot)) (iE d .u64 (gR (gR (jb (xs.take i)) x.u) x.v)) q p x J ((jc c now xs i)++([(5,(i:Int))])) f KL)) 8 rfl rfl rfl yy j8 rfl d_ ak rfl (mh ak (i:=0) rfl) (tj _) (by have:=pO c now xs i;simp only[zn,zk,zq];omega) (by have:=pO c now xs i;simp only[zn,zk,zq];omega) f_ ?_))
         intro J a0 am cb
         have aa:=yi [1,2,3,4,5,6,7,8,9] am
         refine fW aa 8 ?_
         refine tN (?_)
         refine ir (gf aa 2 ?_)
         refine cmp rfl rfl rfl (mL d_) (fW aa 14 ?_)
         refine tN (?_)
         have a1:=yi [3,4,5,8,9] am
         have hfl:(jc c now xs i)++([(5,(i:Int))])=jc c now xs (i+1):=by rw[uj hx,pg];simp only[h,l,H,aj,decide_true,decide_false,decide_eq_true_eq,decide_eq_false_iff_not,if_true,if_false,rN,nC,mD,lH]
         have hs9:St [(w,[])] (uX e c.win c.fN c.fO c.ic now lv i (some a) (some d) (iE a .i64 (kJ (xs.take (i+1)))) (iE d .u64 (jb (xs.take (i+1)))) J (jc c now xs (i+1)) f KL) a0:=by rw[<-hfl,vD hx,rY hx];exact a1
         exact again ((i+1),(i:Int),J) ⟨rfl,rfl,rfl,rfl,rfl,gD (by first|rfl|omega),trivial⟩ (⟨hs9,o_⟩) (by show (xs.length-(i+1):Nat)<xs.length-i;omega)
     . skip
       refine gf m 6 ?_
       refine kf (pvs:=[(0,wH),(1,(Za i))]) (v:=.agg (KA i)) rfl rfl (jS [(0,[wH]),(1,(Ze i))] j8 tF rfl ⟨rfl,rfl,rfl,rfl,trivial⟩ rfl) (lC (vs:=(QX i)) (cs:=(QL i)) rfl rfl yy j8 rfl (by simp[Value.cells]) rfl rfl rfl m (fun a2 cc cd ce an=>mZ (cf:=j5) (ys:=jc c now xs i) (zs:=[(2,(i:Int))]) (LL:=fun K=>(QU (row (.slice (some ⟨a2,0,none⟩) 1 1) 36 2 1 ([(.int .i64 2),(.int .i64 i)])) Y e c.win c.fN c.fO c.ic now lv i (some a) (some d) (iE a .i64 (gR (kJ (xs.take i)) x.slot)) (iE d .u64 (gR (gR (jb (xs.take i)) x.u) x.v)) q p x K ((jc c now xs i)++([(2,(i:Int))])) f KL)) 7 rfl rfl rfl yy j8 rfl d_ an rfl (mh an (i:=0) rfl) (tj _) (by have:=pO c now xs i;simp only[zn,zk,zq];omega) (by have:=pO c now xs i;simp only[zn,zk,zq];omega) f_ ?_))
       intro K cg a3 ch
       have C:=yi [1,2,3,4,5,6,7,8] a3
       refine fW C 8 ?_
       refine tN (?_)
       refine ir (gf C 2 ?_)
       refine cmp rfl rfl rfl (p5 d_) (fQ C 10 ?_)
       refine jj (k:=2) (i:=2) rfl rfl rfl vq lF g o_ o_ rfl (sj (cs:=Cw) rfl rfl vm rfl lF (yf C (i:=7) rfl f_) rfl rfl rfl (al (cs:=xX) rfl lF rfl C (fun a4 ci cj ck a5=>kL a5 8 fun a6 L=>?_)))
       refine pH (cs:=(Zs x)) rfl rfl yx rfl iX rfl (kT L (i:=6) (o:=0) (vs:=(Zs x)) rfl rfl) (p9 (fi:=[]) (ca:=[]) rfl rfl rfl EJ (Dj c hc now e a d lv xs i x a6 (lZ L s_ d_ hl) hxs hl0 (L.at (i:=2) rfl) hx) ?_)
       rintro _ a7 ⟨rfl,a8⟩
       have y:=jf L a8
       refine gL y 2 ?_
       cases ao:(tB c now x i (lY xs i).t:Bool)
       . skip
         refine jm y 8 ?_
         refine tN (?_)
         refine ir (gf y 2 ?_)
         refine cmp rfl rfl rfl (mL d_) (fW y 14 ?_)
         refine tN (?_)
         have a9:=yi [2,3,4,7,8] y
         have hfl:(jc c now xs i)++([(2,(i:Int))])=jc c now xs (i+1):=by rw[uj hx,pg];simp only[h,l,H,ao,decide_true,decide_false,decide_eq_true_eq,decide_eq_false_iff_not,if_true,if_false,rN,nC,mD,lH]
         have hs9:St [(w,[])] (uX e c.win c.fN c.fO c.ic now lv i (some a) (some d) (iE a .i64 (kJ (xs.take (i+1)))) (iE d .u64 (jb (xs.take (i+1)))) K (jc c now xs (i+1)) f KL) a7:=by rw[<-hfl,vD hx,rY hx];exact a9
         exact again ((i+1),(i:Int),K) ⟨rfl,rfl,rfl,rfl,rfl,gD (by first|rfl|omega),trivial⟩ (⟨hs9,o_⟩) (by show (xs.length-(i+1):Nat)<xs.length-i;omega)
       . skip
         refine gf y 6 ?_
         refine kf (pvs:=[(0,wJ),(1,(Za i))]) (v:=.agg (CN i)) rfl rfl (jS [(0,Db),(1,(Ze i))] j8 tF rfl ⟨rfl,rfl,rfl,rfl,trivial⟩ rfl) (lC (vs:=(Gt i)) (cs:=(FY i)) rfl rfl yy j8 rfl (by simp[Value.cells]) rfl rfl rfl y (fun ba cm cn co aq=>mZ (cf:=j5) (ys:=(jc c now xs i)++([(2,(i:Int))])) (zs:=[(5,(i:Int))]) (LL:=fun M=>(Fw (row (.slice (some ⟨ba,0,none⟩) 1 1) 36 2 1 ([(.int .i64 5),(.int .i64 i)])) a4 Y e c.win c.fN c.fO c.ic now lv i (some a) (some d) (iE a .i64 (gR (kJ (xs.take i)) x.slot)) (iE d .u64 (gR (gR (jb (xs.take i)) x.u) x.v)) q p x M (((jc c now xs i)++([(2,(i:Int))]))++([(5,(i:Int))])) f KL)) 8 rfl rfl rfl yy j8 rfl d_ aq rfl (mh aq (i:=0) rfl) (tj _) (by have:=pO c now xs i;simp only[zn,zk,zq];omega) (by have:=pO c now xs i;simp only[zn,zk,zq];omega) f_ ?_))
         intro M bb ar cp
         have ab:=yi [1,2,3,4,5,6,7,8,9] ar
         refine fW ab 8 ?_
         refine tN (?_)
         refine ir (gf ab 2 ?_)
         refine cmp rfl rfl rfl (mL d_) (fW ab 14 ?_)
         refine tN (?_)
         have bc:=yi [3,4,5,8,9] ar
         have hfl:((jc c now xs i)++([(2,(i:Int))]))++([(5,(i:Int))])=jc c now xs (i+1):=by rw[uj hx,pg];simp only[h,l,H,ao,decide_true,decide_false,decide_eq_true_eq,decide_eq_false_iff_not,if_true,if_false,rN,nC,mD,lH]
         have hs9:St [(w,[])] (uX e c.win c.fN c.fO c.ic now lv i (some a) (some d) (iE a .i64 (kJ (xs.take (i+1)))) (iE d .u64 (jb (xs.take (i+1)))) M (jc c now xs (i+1)) f KL) bb:=by rw[<-hfl,vD hx,rY hx];exact bc
         exact again ((i+1),(i:Int),M) ⟨rfl,rfl,rfl,rfl,rfl,gD (by first|rfl|omega),trivial⟩ (⟨hs9,o_⟩) (by show (xs.length-(i+1):Nat)<xs.length-i;omega)
   . skip
     refine gf j 6 ?_
     refine kf (pvs:=[(0,rF),(1,(Za i))]) (v:=.agg (CW i)) rfl rfl (jS [(0,yW),(1,(Ze i))] j8 tF rfl ⟨rfl,rfl,rfl,rfl,trivial⟩ rfl) (lC (vs:=(Fq i)) (cs:=(AX i)) rfl rfl yy j8 rfl (by simp[Value.cells]) rfl rfl rfl j (fun bd cq cr ct au=>mZ (cf:=j5) (ys:=jc c now xs i) (zs:=[(1,(i:Int))]) (LL:=fun N=>[row (Zy bd) 36 2 1 ((AX i)),blk e 59 (A9 c.win c.fN c.fO c.ic now lv i (some a) (some d)),iE a .i64 (gR (kJ (xs.take i)) x.slot),iE d .u64 (gR (gR (jb (xs.take i)) x.u) x.v),blk q 64 Gf,blk p 34 (Zs x),fV j5 N 36 2 ((jc c now xs i)++([(1,(i:Int))])),fV kC f 64 2 KL]) 6 rfl rfl rfl yy j8 rfl d_ au rfl (mh au (i:=0) rfl) (tj _) (by have:=pO c now xs i;simp only[zn,zk,zq];omega) (by have:=pO c now xs i;simp only[zn,zk,zq];omega) f_ ?_))
     intro N cu be cv
     have D:=yi [1,2,3,4,5,6,7] be
     refine fW D 8 ?_
     refine tN (?_)
     refine ir (gf D 2 ?_)
     refine cmp rfl rfl rfl (p5 d_) (fQ D 10 ?_)
     refine jj (k:=1) (i:=1) rfl rfl rfl vq lF g o_ o_ rfl (sj (cs:=FQ) rfl rfl vm rfl lF (yf D (i:=6) rfl f_) rfl rfl rfl (al (cs:=xX) rfl lF rfl D (fun ac cw cx cy bf=>kL bf 9 fun bg ad=>?_)))
     refine p9 (fi:=[]) (ca:=[]) rfl rfl rfl Ph (LM c hc now e a d lv xs i x bg (lZ ad s_ d_ hl) hxs hl0 (ad.at (i:=1) rfl) hx) ?_
     rintro _ cz ⟨rfl,bh⟩
     have n:=jf ad bh
     refine gL n 2 ?_
     cases O:(decide (x.exp<=now):Bool)
     . skip
       refine jm n 8 ?_
       refine tN (?_)
       refine ir (gf n 2 ?_)
       refine cmp rfl rfl rfl (p5 d_) (fQ n 10 ?_)
       refine jj (k:=2) (i:=2) rfl rfl rfl vq lF g o_ o_ rfl (sj (cs:=Cw) rfl rfl vm rfl lF (yf n (i:=7) rfl f_) rfl rfl rfl (al (cs:=xX) rfl lF rfl n (fun bi cA cB cC bj=>kL bj 8 fun bl P=>?_)))
       refine pH (cs:=(Zs x)) rfl rfl yx rfl iX rfl (kT P (i:=6) (o:=0) (vs:=(Zs x)) rfl rfl) (p9 (fi:=[]) (ca:=[]) rfl rfl rfl EJ (Dj c hc now e a d lv xs i x bl (lZ P s_ d_ hl) hxs hl0 (P.at (i:=2) rfl) hx) ?_)
       rintro _ bm ⟨rfl,bn⟩
       have z:=jf P bn
       refine gL z 2 ?_
       cases av:(tB c now x i (lY xs i).t:Bool)
       . skip
         refine jm z 8 ?_
         refine tN (?_)
         refine ir (gf z 2 ?_)
         refine cmp rfl rfl rfl (mL d_) (fW z 14 ?_)
         refine tN (?_)
         have bo:=yi [2,3,4,7,8] z
         have hfl:(jc c now xs i)++([(1,(i:Int))])=jc c now xs (i+1):=by rw[uj hx,pg];simp only[h,l,O,av,decide_true,decide_false,decide_eq_true_eq,decide_eq_false_iff_not,if_true,if_false,rN,nC,mD,lH]
         have hs9:St [(w,[])] (uX e c.win c.fN c.fO c.ic now lv i (some a) (some d) (iE a .i64 (kJ (xs.take (i+1)))) (iE d .u64 (jb (xs.take (i+1)))) N (jc c now xs (i+1)) f KL) bm:=by rw[<-hfl,vD hx,rY hx];exact bo
         exact again ((i+1),(i:Int),N) ⟨rfl,rfl,rfl,rfl,rfl,gD (by first|rfl|omega),trivial⟩ (⟨hs9,o_⟩) (by show (xs.length-(i+1):Nat)<xs.length-i;omega)
       . skip
         refine gf z 6 ?_
         refine kf (pvs:=[(0,wJ),(1,(Za i))]) (v:=.agg (CN i)) rfl rfl (jS [(0,Db),(1,(Ze i))] j8 tF rfl ⟨rfl,rfl,rfl,rfl,trivial⟩ rfl) (lC (vs:=(Gt i)) (cs:=(FY i)) rfl rfl yy j8 rfl (by simp[Value.cells]) rfl rfl rfl z (fun bp cD cE cF aw=>mZ (cf:=j5) (ys:=(jc c now xs i)++([(1,(i:Int))])) (zs:=[(5,(i:Int))]) (LL:=fun Q=>(Fw (row (.slice (some ⟨bp,0,none⟩) 1 1) 36 2 1 ([(.int .i64 5),(.int .i64 i)])) bi ac e c.win c.fN c.fO c.ic now lv i (some a) (some d) (iE a .i64 (gR (kJ (xs.take i)) x.slot)) (iE d .u64 (gR (gR (jb (xs.take i)) x.u) x.v)) q p x Q (((jc c now xs i)++([(1,(i:Int))]))++([(5,(i:Int))])) f KL)) 8 rfl rfl rfl yy j8 rfl d_ aw rfl (mh aw (i:=0) rfl) (tj _) (by have:=pO c now xs i;simp only[zn,zk,zq];omega) (by have:=pO c now xs i;simp only[zn,zk,zq];omega) f_ ?_))
         intro Q bq ax cG
         have ae:=yi [1,2,3,4,5,6,7,8,9] ax
         refine fW ae 8 ?_
         refine tN (?_)
         refine ir (gf ae 2 ?_)
         refine cmp rfl rfl rfl (mL d_) (fW ae 14 ?_)
         refine tN (?_)
         have br:=yi [3,4,5,8,9] ax
         have hfl:((jc c now xs i)++([(1,(i:Int))]))++([(5,(i:Int))])=jc c now xs (i+1):=by rw[uj hx,pg];simp only[h,l,O,av,decide_true,decide_false,decide_eq_true_eq,decide_eq_false_iff_not,if_true,if_false,rN,nC,mD,lH]
         have hs9:St [(w,[])] (uX e c.win c.fN c.fO c.ic now lv i (some a) (some d) (iE a .i64 (kJ (xs.take (i+1)))) (iE d .u64 (jb (xs.take (i+1)))) Q (jc c now xs (i+1)) f KL) bq:=by rw[<-hfl,vD hx,rY hx];exact br
         exact again ((i+1),(i:Int),Q) ⟨rfl,rfl,rfl,rfl,rfl,gD (by first|rfl|omega),trivial⟩ (⟨hs9,o_⟩) (by show (xs.length-(i+1):Nat)<xs.length-i;omega)
     . skip
       refine gf n 6 ?_
       refine kf (pvs:=[(0,wH),(1,(Za i))]) (v:=.agg (KA i)) rfl rfl (jS [(0,[wH]),(1,(Ze i))] j8 tF rfl ⟨rfl,rfl,rfl,rfl,trivial⟩ rfl) (lC (vs:=(QX i)) (cs:=(QL i)) rfl rfl yy j8 rfl (by simp[Value.cells]) rfl rfl rfl n (fun bs cH cI cJ ay=>mZ (cf:=j5) (ys:=(jc c now xs i)++([(1,(i:Int))])) (zs:=[(2,(i:Int))]) (LL:=fun R=>(QU (row (.slice (some ⟨bs,0,none⟩) 1 1) 36 2 1 ([(.int .i64 2),(.int .i64 i)])) ac e c.win c.fN c.fO c.ic now lv i (some a) (some d) (iE a .i64 (gR (kJ (xs.take i)) x.slot)) (iE d .u64 (gR (gR (jb (xs.take i)) x.u) x.v)) q p x R (((jc c now xs i)++([(1,(i:Int))]))++([(2,(i:Int))])) f KL)) 7 rfl rfl rfl yy j8 rfl d_ ay rfl (mh ay (i:=0) rfl) (tj _) (by have:=pO c now xs i;simp only[zn,zk,zq];omega) (by have:=pO c now xs i;simp only[zn,zk,zq];omega) f_ ?_))
       intro R cK bt cL
       have E:=yi [1,2,3,4,5,6,7,8] bt
       refine fW E 8 ?_
       refine tN (?_)
       refine ir (gf E 2 ?_)
       refine cmp rfl rfl rfl (p5 d_) (fQ E 10 ?_)
       refine jj (k:=2) (i:=2) rfl rfl rfl vq lF g o_ o_ rfl (sj (cs:=Cw) rfl rfl vm rfl lF (yf E (i:=7) rfl f_) rfl rfl rfl (al (cs:=xX) rfl lF rfl E (fun bu cM cN cO bv=>kL bv 8 fun bw S=>?_)))
       refine pH (cs:=(Zs x)) rfl rfl yx rfl iX rfl (kT S (i:=6) (o:=0) (vs:=(Zs x)) rfl rfl) (p9 (fi:=[]) (ca:=[]) rfl rfl rfl EJ (Dj c hc now e a d lv xs i x bw (lZ S s_ d_ hl) hxs hl0 (S.at (i:=2) rfl) hx) ?_)
       rintro _ bz ⟨rfl,bA⟩
       have A:=jf S bA
       refine gL A 2 ?_
       cases az:(tB c now x i (lY xs i).t:Bool)
       . skip
         refine jm A 8 ?_
         refine tN (?_)
         refine ir (gf A 2 ?_)
         refine cmp rfl rfl rfl (mL d_) (fW A 14 ?_)
         refine tN (?_)
         have bB:=yi [2,3,4,7,8] A
         have hfl:((jc c now xs i)++([(1,(i:Int))]))++([(2,(i:Int))])=jc c now xs (i+1):=by rw[uj hx,pg];simp only[h,l,O,az,decide_true,decide_false,decide_eq_true_eq,decide_eq_false_iff_not,if_true,if_false,rN,nC,mD,lH]
         have hs9:St [(w,[])] (uX e c.win c.fN c.fO c.ic now lv i (some a) (some d) (iE a .i64 (kJ (xs.take (i+1)))) (iE d .u64 (jb (xs.take (i+1)))) R (jc c now xs (i+1)) f KL) bz:=by rw[<-hfl,vD hx,rY hx];exact bB
         exact again ((i+1),(i:Int),R) ⟨rfl,rfl,rfl,rfl,rfl,gD (by first|rfl|omega),trivial⟩ (⟨hs9,o_⟩) (by show (xs.length-(i+1):Nat)<xs.length-i;omega)
       . skip
         refine gf A 6 ?_
         refine kf (pvs:=[(0,wJ),(1,(Za i))]) (v:=.agg (CN i)) rfl rfl (jS [(0,Db),(1,(Ze i))] j8 tF rfl ⟨rfl,rfl,rfl,rfl,trivial⟩ rfl) (lC (vs:=(Gt i)) (cs:=(FY i)) rfl rfl yy j8 rfl (by simp[Value.cells]) rfl rfl rfl A (fun bC cP cQ cR aA=>mZ (cf:=j5) (ys:=((jc c now xs i)++([(1,(i:Int))]))++([(2,(i:Int))])) (zs:=[(5,(i:Int))]) (LL:=fun U=>(Fw (row (.slice (some ⟨bC,0,none⟩) 1 1) 36 2 1 ([(.int .i64 5),(.int .i64 i)])) bu ac e c.win c.fN c.fO c.ic now lv i (some a) (some d) (iE a .i64 (gR (kJ (xs.take i)) x.slot)) (iE d .u64 (gR (gR (jb (xs.take i)) x.u) x.v)) q p x U ((((jc c now xs i)++([(1,(i:Int))]))++([(2,(i:Int))]))++([(5,(i:Int))])) f KL)) 8 rfl rfl rfl yy j8 rfl d_ aA rfl (mh aA (i:=0) rfl) (tj _) (by have:=pO c now xs i;simp only[zn,zk,zq];omega) (by have:=pO c now xs i;simp only[zn,zk,zq];omega) f_ ?_))
         intro U bD aB cS
         have af:=yi [1,2,3,4,5,6,7,8,9] aB
         refine fW af 8 ?_
         refine tN (?_)
         refine ir (gf af 2 ?_)
         refine cmp rfl rfl rfl (mL d_) (fW af 14 ?_)
         refine tN (?_)
         have bE:=yi [3,4,5,8,9] aB
         have hfl:(((jc c now xs i)++([(1,(i:Int))]))++([(2,(i:Int))]))++([(5,(i:Int))])=jc c now xs (i+1):=by rw[uj hx,pg];simp only[h,l,O,az,decide_true,decide_false,decide_eq_true_eq,decide_eq_false_iff_not,if_true,if_false,rN,nC,mD,lH]
         have hs9:St [(w,[])] (uX e c.win c.fN c.fO c.ic now lv i (some a) (some d) (iE a .i64 (kJ (xs.take (i+1)))) (iE d .u64 (jb (xs.take (i+1)))) U (jc c now xs (i+1)) f KL) bD:=by rw[<-hfl,vD hx,rY hx];exact bE
         exact again ((i+1),(i:Int),U) ⟨rfl,rfl,rfl,rfl,rfl,gD (by first|rfl|omega),trivial⟩ (⟨hs9,o_⟩) (by show (xs.length-(i+1):Nat)<xs.length-i;omega)
 . refine fW hst 17 ?_
   refine gw (v:=vo) Tryz.results7 rfl ?_
   rw[show i=xs.length by omega]at hst
   have hs8:=St.sub (L' := [fV j5 vo 36 2 (jc c now xs xs.length)]) hst (List.Sublist.cons _ (List.Sublist.cons _ (List.Sublist.cons _ (List.Sublist.cons_cons _ (List.Sublist.cons _ (List.Sublist.refl _))))))
   exact⟨AQ hs8 s_,hst.gK s_⟩
end
section
open Go Go.Sx Go.Ex
theorem Yr:ya.stoodInHeld 36=false:=by kernel_rfl
theorem Q9:ya.eqGuardType ya.depth 36=false:=by kernel_rfl
theorem aaw(a b c d:Int):rP ya 3 36 (rG a b) (rG c d)=some (decide (a=c/\b=d)):=by
 have e1:(a==c)=decide (a=c):=rfl
 have e2:(b==d)=decide (b=d):=rfl
 by_cases h1:a=c<;>by_cases h2:b=d<;>simp[rP,Da,ye,Yr,Q9,allM,uH,xO,e1,e2,h1,h2]
theorem eqF(a b c d:Int)(w:World):(Op.equal 36 (rG a b) (rG c d)).run ya w = .ok (decide (a=c/\b=d)) w :=
 Mx (E:=fun b=>⟨b,0,0⟩) 3 10000 36 _ _ _ d_ (aaw a b c d)
theorem aax(a b:Int)(w:World):(Op.equal 36 (rG a b) (rG a b)).run ya w = .ok true w:=by
 rw[eqF]
 simp
theorem ND(va vb:Value)(ys:List (Int×Int))(w:World)(ha:jx 2 j5 (fun _=>True) w va ys)(hb:jx 2 j5 (fun _=>True) w vb ys)(hl0:ys.length<=1000000) :
 CR ya 8 #[va,vb] w (fun r w' => r = .bool true/\gB [] w w'):=by
 refine en Tryz.func8 Tryz.ntmps8 ?_
 have hst0:=jO w
 refine gf hst0 9 ?_
 refine tE (v:=va) rfl rfl yy ha (fQ hst0 1 ?_)
 refine tE (v:=vb) rfl rfl yy hb (cmp rfl rfl rfl (vT rfl) (gL hst0 12 ?_))
 refine lp (α:=Nat) (fun i=>[(0,va),(1,vb),(5,(Za i))]) (fun i w1=>St [(w,[])] [] w1/\i<=ys.length) (fun i=>ys.length-i) 0 ⟨rfl,rfl,gD (by first|rfl|omega),trivial⟩ (⟨hst0,o_⟩) ?_
 rintro i d e ⟨hst,hi⟩
 refine gf hst 5 ?_
 refine tE (v:=va) rfl rfl yy ha ?_
 by_cases f:((i:Int):Int)<((ys.length:Int):Int)
 . refine gL hst 9 ?_
   obtain⟨a,b⟩:=ov (show i<ys.length by omega)
   refine iR hst (fun g c=>?_) (hA:=by refine' gI 2 ?k0;case k0=>refine' gq (fun wq hM=>rv (kz (v:=va) (k:=i) (i:=(i:Int)) rfl rfl yy j8 ha o_ o_ b)) ?k1;case k1=>refine' gq (fun wq hM=>rv (lJ (cs:=(Zi a.1 a.2)) rfl Da rfl j8 (lZ hM s_ d_ ha) b rfl rfl)) ?k2;case k2=>refine' gI 2 ?k3;case k3=>refine' gq (fun wq hM=>rv (kz (v:=vb) (k:=i) (i:=(i:Int)) rfl rfl yy j8 hb o_ o_ b)) ?k4;case k4=>refine' gq (fun wq hM=>rv (lJ (cs:=(Zi a.1 a.2)) rfl Da rfl j8 (lZ hM s_ d_ hb) b rfl rfl)) ?k5;case k5=>refine' gq (fun wq hM=>rv (Vu (xs:=(qO a.1 a.2)) rfl rfl Q9 (fun w=>aax _ _ w))) ?k6;case k6=>exact iA)
   refine iN tt none c 10 ?_
   refine tN (?_)
   exact again (i+1) ⟨rfl,rfl,gD (by first|rfl|omega),trivial⟩ (⟨c,o_⟩) (by show (ys.length-(i+1):Nat)<ys.length-i;omega)
 . refine fW hst 15 ?_
   refine gw (v:=Zf) Tryz.results8 rfl ?_
   exact⟨rfl,hst.gK s_⟩
end
section
open Go Go.Sx
theorem Mu(x:Int)(w:World) :
 CR ya 249 (sM x) w (fun r w' => r = .bool false/\gB [] w w'):=by
 refine en Tryz.func249 Tryz.ntmps249 ?_
 have hst0:=jO w
 refine gf hst0 9 ?_
 refine cmp rfl rfl rfl (vT rfl) (fW hst0 4 ?_)
 refine gw (v:=Zq) Tryz.results249 rfl ?_
 exact⟨rfl,hst0.gK s_⟩
theorem TU(x y:Int)(w:World) :
 CR ya 245 (qO x y) w (fun r w' => r = .int .i64 (mP x y)/\gB [] w w'):=by
 refine en Tryz.func245 Tryz.ntmps245 ?_
 have hst0:=jO w
 refine gf hst0 8 ?_
 refine cl ON (Mu x w) ?_
 rintro _ c ⟨rfl,d⟩
 have b:=jf hst0 d
 refine fQ b 6 ?_
 refine cl ON (Mu y c) ?_
 rintro _ f ⟨rfl,e⟩
 have a:=jf b e
 refine fQ a 26 ?_
 by_cases g:(x:Int)<(y:Int)
 . refine fW a 11 ?_
   refine gw (v:=Zw) Tryz.results245 rfl ?_
   exact⟨gD (by simp only[mP];(repeat' split)<;>omega),a.gK s_⟩
 . refine fQ a 11 ?_
   by_cases h:(x:Int)>(y:Int)
   . refine fW a 11 ?_
     refine gw (v:=rF) Tryz.results245 rfl ?_
     exact⟨gD (by simp only[mP];(repeat' split)<;>omega),a.gK s_⟩
   . refine fW a 12 ?_
     refine gw (v:=Zc) Tryz.results245 rfl ?_
     exact⟨gD (by simp only[mP];(repeat' split)<;>omega),a.gK s_⟩
theorem N1(x:Int)(w:World) :
 CR ya 250 (sM x) w (fun r w' => r = .bool false/\gB [] w w'):=by
 refine en Tryz.func250 Tryz.ntmps250 ?_
 have hst0:=jO w
 refine gf hst0 9 ?_
 refine cmp rfl rfl rfl (vT rfl) (fW hst0 4 ?_)
 refine gw (v:=Zq) Tryz.results250 rfl ?_
 exact⟨rfl,hst0.gK s_⟩
theorem XA(x y:Int)(w:World) :
 CR ya 246 (qO x y) w (fun r w' => r = .int .i64 (mP x y)/\gB [] w w'):=by
 refine en Tryz.func246 Tryz.ntmps246 ?_
 have hst0:=jO w
 refine gf hst0 8 ?_
 refine cl Oo (N1 x w) ?_
 rintro _ c ⟨rfl,d⟩
 have b:=jf hst0 d
 refine fQ b 6 ?_
 refine cl Oo (N1 y c) ?_
 rintro _ f ⟨rfl,e⟩
 have a:=jf b e
 refine fQ a 26 ?_
 by_cases g:(x:Int)<(y:Int)
 . refine fW a 11 ?_
   refine gw (v:=Zw) Tryz.results246 rfl ?_
   exact⟨gD (by simp only[mP];(repeat' split)<;>omega),a.gK s_⟩
 . refine fQ a 11 ?_
   by_cases h:(x:Int)>(y:Int)
   . refine fW a 11 ?_
     refine gw (v:=rF) Tryz.results246 rfl ?_
     exact⟨gD (by simp only[mP];(repeat' split)<;>omega),a.gK s_⟩
   . refine fW a 12 ?_
     refine gw (v:=Zc) Tryz.results246 rfl ?_
     exact⟨gD (by simp only[mP];(repeat' split)<;>omega),a.gK s_⟩
theorem Ye(v:Value)(xs:List Int)(w:World)(hv:Ints .i64 (fun _=>True) w v xs) :
 CR ya 244 #[v] w (fun r w' => r = .int .i64 (pe xs)/\gB [] w w'):=by
 have hvl:=hv.len
 refine en Tryz.func244 Tryz.ntmps244 ?_
 have hst0:=jO w
 refine gf hst0 14 ?_
 refine tE (v:=v) rfl rfl yh hv (gL hst0 4 ?_)
 refine lp (α:=Nat) (fun k=>[(3,Zc),(6,v),(7,(Za xs.length)),(8,(Za k))]) (fun k w1=>St [(w,[])] [] w1/\k<=xs.length/\∀ j x,j<k->xs[j]? = some x->x=0) (fun k=>xs.length-k) 0 ⟨rfl,rfl,rfl,gD (by first|rfl|omega),trivial⟩ (⟨hst0,o_,fun j x h=>absurd h o_⟩) ?_
 rintro k c d ⟨hst7,hk7,hz7⟩
 refine gf hst7 2 ?_
 by_cases e:((k:Int):Int)<((xs.length:Int):Int)
 . obtain⟨x,hx⟩:=ov (show k<xs.length by omega)
   refine fQ hst7 11 ?_
   refine Gb (i:=(k:Int)) (el:=x) rfl rfl rfl yh gn (St.Ju hst7 s_ hv) o_ (by rw[show ((k:Nat):Int).toNat=k by omega];exact hx) ?_
   intro f g a b l
   have m:=b.i64
   refine ld rfl rfl ye rfl a (fQ hst7 7 ?_)
   by_cases n:(x:Int)=(0:Int)
   . refine fW hst7 11 ?_
     refine tN (?_)
     exact again (k+1) ⟨rfl,rfl,rfl,gD (by first|rfl|omega),trivial⟩ (⟨hst7,o_,Wn hz7 hx o_⟩) (by show (xs.length-(k+1):Nat)<xs.length-k;omega)
   . refine fW hst7 16 ?_
     refine gw (v:=(Za x)) Tryz.results244 rfl ?_
     exact⟨gD (Ym hz7 hx o_).symm,hst7.gK s_⟩
 . refine fW hst7 17 ?_
   refine gw (v:=Zc) Tryz.results244 rfl ?_
   exact⟨gD (Xy hz7 o_).symm,hst7.gK s_⟩
theorem sZ(a b:gj)(w:World) :
 CR ya 235 #[(FB a),(FB b)] w (fun r w' => r = .int .i64 (tC a b)/\gB [] w w'):=by
 refine en Tryz.func235 Tryz.ntmps235 ?_
 have hst0:=jO w
 refine gf hst0 2 ?_
 refine bx (v:=(FB a)) (cs:=[(Za a.ix),(Za a.key)]) rfl rfl rfl hst0 (fun g j k l e=>bx (v:=(FB b)) (cs:=[(Za b.ix),(Za b.key)]) rfl rfl rfl e (fun m n o p c=>gL c 4 ?_))
 refine jN c 10 ?_ (hA:=by refine' gI 4 ?k0;case k0=>refine' gq (fun wq hM=>rc (i6 rfl Yx) (CR.mono (TU a.key b.key wq) fun _ _ h=>⟨h.1,hM.grow h.2⟩)) ?k1;case k1=>refine' gI 4 ?k2;case k2=>refine' gq (fun wq hM=>rc (i6 rfl YA) (CR.mono (XA (a.ix:Int) (b.ix:Int) wq) fun _ _ h=>⟨h.1,hM.grow h.2⟩)) ?k3;case k3=>exact iA)
 intro wq hM
 refine Ap (vs:=(Zi (mP a.key b.key) (mP (a.ix:Int) (b.ix:Int)))) (cs:=(Zi (mP a.key b.key) (mP (a.ix:Int) (b.ix:Int)))) rfl rfl yh gn rfl (by simp[Value.cells]) rfl rfl rfl hM (fun f _ h=>(jM h (fun q d=>?_) (hB:=by refine' gq (fun wq hM=>rc (i6 rfl Yk) (CR.mono (Ye (tQ f) [mP a.key b.key,mP (a.ix:Int) (b.ix:Int)] wq (yR hM (i:=0) rfl (fun y hy=>by simp only[zg,sw,or_false]at hy;rcases hy with rfl|rfl<;>exact Wu _ _)).any) fun _ _ h=>⟨h.1,hM.grow h.2⟩)) ?k0;case k0=>exact iA)))
 refine iN tt none d 2 ?_
 refine gw (v:=(Za (pe [mP a.key b.key,mP (a.ix:Int) (b.ix:Int)]))) Tryz.results235 rfl ?_
 exact⟨gD (Xn a b),d.gK s_⟩
end
section
open Go Go.Sx
theorem zH(hb n:Nat)(iv pv:Value)(ps:List (Option Nat))(fP:List gj)(pl:List Nat)(w:World)(hO:Own (Zg hb n iv pv fP ps pl) w) :
 CR ya 148 (Zl hb) w (fun r w' => r = .bool true/\gm (Zg hb n iv pv fP ps pl) w w' (Zg hb n iv pv fP ps pl)):=by
 refine en Tryz.func148 Tryz.ntmps148 ?_
 have hst0:=(y8 hO).unpack
 refine gf hst0 8 ?_
 refine qR (a:=some ⟨hb,0,none⟩) (c:=true) rfl rfl rfl CM rfl (fQ hst0 6 ?_)
 refine Fj (a:=⟨hb,0,none⟩) rfl rfl rfl CM EV (fW hst0 5 ?_)
 refine gw (v:=Zf) Tryz.results148 rfl ?_
 exact⟨rfl,yq (yc [_,_,_,_] _ hst0)⟩
theorem IA(hb n:Nat)(iv pv:Value)(ps:List (Option Nat))(fP:List gj)(pl:List Nat)(w:World)(hO:Own (Zg hb n iv pv fP ps pl) w)(i:Nat)(hi:i<n) :
 CR ya 160 (Zn hb i) w (fun r w' => r = .bool true/\gm (Zg hb n iv pv fP ps pl) w w' (Zg hb n iv pv fP ps pl)):=by
 refine en Tryz.func160 Tryz.ntmps160 ?_
 have hst0:=(y8 hO).unpack
 refine gf hst0 8 ?_
 refine cmp rfl rfl rfl (qF o_) (fQ hst0 6 ?_)
 refine cmp rfl rfl rfl (p5 o_) (fW hst0 5 ?_)
 refine gw (v:=Zf) Tryz.results160 rfl ?_
 exact⟨rfl,yq (yc [_,_,_,_] _ hst0)⟩
theorem Hq(hb n:Nat)(iv pv:Value)(ps:List (Option Nat))(fP:List gj)(pl:List Nat)(w:World)(hO:Own (Zg hb n iv pv fP ps pl) w)(hP:js n ps pl)(i:Nat)(hi:i<n) :
 CR ya 161 (Zn hb i) w (fun r w' => r = .int .i64 (((fM pl i:Nat):Int)-1)/\gm (Zg hb n iv pv fP ps pl) w w' (Zg hb n iv pv fP ps pl)):=by
 have hij:=hP.at hi
 have hpr:=hP.room
 have hpn:=hP.n
 have hpv:=hP.val i
 refine en Tryz.func161 Tryz.ntmps161 ?_
 have hst0:=(y8 hO).unpack
 refine gf hst0 12 ?_
 refine quo (a:=(i:Int)) (b:=64) (e:=((i / 64:Nat):Int)) rfl rfl rfl d_ (we 64 o_) (jj (cf:=gN) (k:=(i / 64)) (i:=((i / 64:Nat):Int)) rfl rfl rfl o7 qy (yf hst0 (i:=2) rfl f_) o_ rfl (gA om) (l6 (cf:=gN) rfl rfl sN rfl (yf hst0 (i:=2) rfl f_) (gA om) rfl ?_))
 obtain⟨f,d⟩:∃ q,(fM ps (i / 64))=q:=⟨_,rfl⟩
 refine fQ hst0 7 ?_
 rcases f with _|g
 . skip
   refine Gx (a:=(fM ps (i / 64)).map fun b=>⟨b,0,none⟩) (c:=true) rfl rfl rfl sN (by rw[d];rfl) (fW hst0 10 ?_)
   refine gw (v:=Zw) Tryz.results161 rfl ?_
   exact⟨gD (by rw[hP.zero (i / 64) ((gA hij).trans (congrArg some d)) i rfl];rfl),yq (yc [_,_,_,_] _ hst0)⟩
 . skip
   refine Gx (a:=(fM ps (i / 64)).map fun b=>⟨b,0,none⟩) (c:=false) rfl rfl rfl sN (by rw[d];rfl) (fQ hst0 9 ?_)
   refine rem (a:=(i:Int)) (b:=64) (e:=((i%64:Nat):Int)) rfl rfl rfl d_ (Cp 64) (si rfl (zK d) (mA (o:=0) (o' := i%64*1+0) (i:=((i%64:Nat):Int)) rfl rfl rfl Fv gn o_ (by simp only[ua];omega) (ld rfl rfl ye rfl (Bg hst0 (i:=3) rfl f_ d_ (by have h7:=hP.room;first|omega|(simp only[iV,gJ];omega)) ((gA o_).trans (congrArg some d)) rfl) (fW hst0 5 ?_))))
   refine gw (v:=(Za ((((fM pl i):Nat):Int)-1))) Tryz.results161 rfl ?_
   exact⟨gD o_,yq (yc [_,_,_,_] _ hst0)⟩
theorem D0(hb n:Nat)(iv pv:Value)(ps:List (Option Nat))(fP:List gj)(pl:List Nat)(w:World)(hO:Own (Zg hb n iv pv fP ps pl) w)(hP:js n ps pl)(i:Nat)(hi:i<n)(v:Int)(p:Nat)(hv:v+1=(p:Int))(hp:p<=65536) :
 CR ya 162 (Z2 hb i v) w (fun r w' => r = .tuple #[]/\∃ ps2,ps2.length=ps.length/\js n ps2 (iV pl i p)/\gm (Zg hb n iv pv fP ps pl) w w' (Zg hb n iv pv fP ps2 (iV pl i p))):=by
 have hij:=hP.at hi
 have hpr:=hP.room
 have hpn:=hP.n
 have hpv:=hP.val i
 refine en Tryz.func162 Tryz.ntmps162 ?_
 have hst0:=(y8 hO).unpack
 refine gf hst0 8 ?_
 refine quo (a:=(i:Int)) (b:=64) (e:=((i / 64:Nat):Int)) rfl rfl rfl d_ (we 64 o_) (jj (cf:=gN) (k:=(i / 64)) (i:=((i / 64:Nat):Int)) rfl rfl rfl o7 qy (yf hst0 (i:=2) rfl f_) o_ o_ (gA om) (l6 (cf:=gN) rfl rfl sN rfl (yf hst0 (i:=2) rfl f_) (gA om) rfl ?_))
 obtain⟨t,g⟩:∃ q,(fM ps (i / 64))=q:=⟨_,rfl⟩
 rcases t with _|u
 . skip
   refine Gx (a:=(fM ps (i / 64)).map fun b=>⟨b,0,none⟩) (c:=true) rfl rfl rfl sN (by rw[g];rfl) (fQ hst0 9 ?_)
   refine quo (a:=(i:Int)) (b:=64) (e:=((i / 64:Nat):Int)) rfl rfl rfl d_ (we 64 o_) (al (cs:=K4) rfl Cg rfl hst0 (fun d A B C j=>jj (cf:=gN) (k:=(i / 64)) (i:=((i / 64:Nat):Int)) rfl rfl rfl o7 qy (yf j (i:=3) rfl f_) o_ o_ (gA om) (se (f:=(fun _=>(some d))) (L' := [blk d 279 K4,blk hb 262 (oJ hb n iv pv),fV gj.cells iv 111 2 fP,fV gN pv 277 1 (fR ps (i / 64) (fun _=>(some d))),gG gP 279 64 ps pl]) 3 rfl rfl rfl rfl qy rfl rfl j rfl f_ om rfl rfl rfl ?_)))
   intro D l
   have x:=yi [0,4,1,2,3] l
   have hj0:ps[i / 64]? = some none:=(gA hij).trans (congrArg some g)
   have y:=St.Oc x hj0 (hP.Yp hj0)
   have h:=y
   have hP2:js n (ps.set (i / 64) (some d)) pl:=hP.made
   have hb2:(ps.set (i / 64) (some d))[i / 64]? = some (some d):=by rw[sG,if_pos rfl,if_pos hij]
   have hij2:i / 64<(ps.set (i / 64) (some d)).length:=by rw[List.length_set];exact hij
   refine fQ l 8 ?_
   refine quo (a:=(i:Int)) (b:=64) (e:=((i / 64:Nat):Int)) rfl rfl rfl d_ (we 64 o_) (jj (cf:=gN) (k:=(i / 64)) (i:=((i / 64:Nat):Int)) rfl rfl rfl o7 qy (yf h (i:=3) rfl f_) o_ o_ (gA om) (l6 (cf:=gN) rfl rfl sN rfl (yf h (i:=3) rfl f_) (gA om) rfl (fQ h 1 ?_)))
   refine rem (a:=(i:Int)) (b:=64) (e:=((i%64:Nat):Int)) rfl rfl rfl d_ (Cp 64) (fQ h 1 ?_)
   refine ar (e:=(p:Int)) rfl rfl rfl rfl (by rw[iZ o_];exact hv) (si rfl (zK (EW hb2)) (mA (o:=0) (o' := i%64*1+0) (i:=((i%64:Nat):Int)) rfl rfl rfl Fv gn o_ (by simp only[ua];omega) (qA (f:=(fun _=>p)) (L' := [gG gP 279 64 (ps.set (i / 64) (some d)) (fR pl i (fun _=>p)),blk hb 262 (oJ hb n iv pv),fV gj.cells iv 111 2 fP,fV gN pv 277 1 (ps.set (i / 64) (some d))]) 0 rfl rfl rfl rfl gn rfl rfl h rfl f_ d_ (by have h7:=hP.room;first|omega|(simp only[iV,gJ];omega)) hb2 rfl rfl rfl (fun E m=>fW m 1 ?_))))
   refine jA Tryz.results162 ?_
   have z:=yi [1,2,3,0] m
   exact⟨rfl,ps.set (i / 64) (some d),s_,hP2.set hi o_ hb2,yq (yc [_,_,_,_] _ z)⟩
 . skip
   refine Gx (a:=(fM ps (i / 64)).map fun b=>⟨b,0,none⟩) (c:=false) rfl rfl rfl sN (by rw[g];rfl) ?_
   have hP2:=hP
   have hb2:ps[i / 64]? = some (some u):=(gA hij).trans (congrArg some g)
   have hij2:=hij
   refine fQ hst0 11 ?_
   refine quo (a:=(i:Int)) (b:=64) (e:=((i / 64:Nat):Int)) rfl rfl rfl d_ (we 64 o_) (jj (cf:=gN) (k:=(i / 64)) (i:=((i / 64:Nat):Int)) rfl rfl rfl o7 qy (yf hst0 (i:=2) rfl f_) o_ o_ (gA om) (l6 (cf:=gN) rfl rfl sN rfl (yf hst0 (i:=2) rfl f_) (gA om) rfl (fQ hst0 1 ?_)))
   refine rem (a:=(i:Int)) (b:=64) (e:=((i%64:Nat):Int)) rfl rfl rfl d_ (Cp 64) (fQ hst0 1 ?_)
   refine ar (e:=(p:Int)) rfl rfl rfl rfl (by rw[iZ o_];exact hv) (si rfl (zK g) (mA (o:=0) (o' := i%64*1+0) (i:=((i%64:Nat):Int)) rfl rfl rfl Fv gn o_ (by simp only[ua];omega) (qA (f:=(fun _=>p)) (L' := (tM hb n iv pv fP ps (fR pl i (fun _=>p)))) 3 rfl rfl rfl rfl gn rfl rfl hst0 rfl f_ d_ (by have h7:=hP.room;first|omega|(simp only[iV,gJ];omega)) hb2 rfl rfl rfl (fun G s=>fW s 1 ?_))))
   refine jA Tryz.results162 ?_
   exact⟨rfl,ps,s_,hP2.set hi o_ hb2,yq (yc [_,_,_,_] _ s)⟩
end
section
open Go Go.Sx
abbrev UY:List (List Nat):=[[],[0],[0,1],[0,1,2],[],[],[5],[5,6],[5,6,7],[],[],[10],[10,11],[10,11,12],[],[10,11,12,13,14],[10,11,12,13,14,15],[],[17],[17,18],[17,18,19],[],[17,18,19,20,21],[17,18,19,20,21,22],[0,1,2,3,4,5,6,7,8,10,11,12,13,14,15,16,17,18,19,20,21,22,23],[0,1,2,3,4,5,6,7,8,10,11,12,13,14,15,16,17,18,19,20,21,22,23,24],[0,1,2,3,4,5,6,7,8,9,10,11,12,13,14,15,16,17,18,19,20,21,22,23,24,25],[0,1,2,3,4,5,6,7,8,9,10,11,12,13,14,15,16,17,18,19,20,21,22,23,24,25,26]]
theorem HU(hb n:Nat)(iv pv:Value)(ps:List (Option Nat))(fP:List gj)(pl:List Nat)(w:World)(hO:Own (Zg hb n iv pv fP ps pl) w)(hS:Hp n fP pl)(hP:js n ps pl)(p q:Nat)(hp:p<fP.length)(hq:q<fP.length) :
 CR ya 204 (Z2 hb p q) w (fun r w' => r = .tuple #[]/\∃ qs,qs.length=ps.length/\js n qs (iV (iV pl (fM (iD fP p q) p).ix (p+1)) (fM (iD fP p q) q).ix (q+1))/\gm (Zg hb n iv pv fP ps pl) w w' (Zg hb n iv pv (iD fP p q) qs (iV (iV pl (fM (iD fP p q) p).ix (p+1)) (fM (iD fP p q) q).ix (q+1)))):=by
 have hnn:=hP.n
 have hln:=hS.len
 have hsl:=mI fP p q
 have hsix:∀ j,j<fP.length->(fM (iD fP p q) j).ix<n:=fun j hj=>(hS.swap hp hq).ix j (by rw[hsl];exact hj)
 refine en Tryz.func204 Tryz.ntmps204 ?_
 have hst0:=(y8 hO).unpack
 refine wm hst0 1 ?_
 refine oh (Γ:=Unit) mixed UY [25,27] k_ [fun _=>(Zb hb),fun _=>(Zb hb),fun _=>(qh hb),fun _=>iv,fun _=>(Za p),fun _=>(Zb hb),fun _=>(Zb hb),fun _=>(qh hb),fun _=>iv,fun _=>(Za q),fun _=>(Zb hb),fun _=>(Zb hb),fun _=>(qh hb),fun _=>iv,fun _=>(Za q),fun _=>(jC 2 iv q 0),fun _=>(rG ((fM fP q).ix:Int) ((fM fP q).key)),fun _=>(Zb hb),fun _=>(Zb hb),fun _=>(qh hb),fun _=>iv,fun _=>(Za p),fun _=>(jC 2 iv p 0),fun _=>(rG ((fM fP p).ix:Int) ((fM fP p).key)),fun _=>(jC 2 iv p 0),fun _=>undef,fun _=>(jC 2 iv q 0),fun _=>undef] [(fun _=>(tM hb n iv pv fP ps pl),fun _ _=>True),(fun _=>(tM hb n iv pv (fR fP p (fun _=>(fM fP q))) ps pl),fun _ _=>True),(fun _=>(tM hb n iv pv (fR (fR fP p (fun _=>(fM fP q))) q (fun _=>(fM fP p))) ps pl),fun _ _=>True)] () _ rfl hst0 (fun _ _=>trivial) ?_ f_ rfl ?_
 . skip
   refine gp (fun _ _=>iy (v:=(Zb hb)) rfl) ?_
   refine gp (fun _ _=>j6 rfl) ?_
   refine gp (fun _ _=>jy (o' := 2) rfl vj rfl uG rfl) ?_
   refine l9 rfl rfl rfl rfl (fun _ wq hM hF=>qv rfl rfl (gU rfl yn rfl (yo hM (i:=0) rfl rfl))) (gp (fun _ _=>iy (v:=(Za p)) rfl) ?_)
   refine gp (fun _ _=>iy (v:=(Zb hb)) rfl) ?_
   refine gp (fun _ _=>j6 rfl) ?_
   refine gp (fun _ _=>jy (o' := 2) rfl vj rfl uG rfl) ?_
   refine l9 rfl rfl rfl rfl (fun _ wq hM hF=>qv rfl rfl (gU rfl yn rfl (yo hM (i:=0) rfl rfl))) (gp (fun _ _=>iy (v:=(Za q)) rfl) ?_)
   refine gp (fun _ _=>iy (v:=(Zb hb)) rfl) ?_
   refine gp (fun _ _=>j6 rfl) ?_
   refine gp (fun _ _=>jy (o' := 2) rfl vj rfl uG rfl) ?_
   refine l9 rfl rfl rfl rfl (fun _ wq hM hF=>qv rfl rfl (gU rfl yn rfl (yo hM (i:=0) rfl rfl))) (gp (fun _ _=>iy (v:=(Za q)) rfl) ?_)
   refine gp (fun _ _=>kz (cf:=gj.cells) (k:=q) (i:=(q:Int)) rfl rfl yn iw (yf hst0 (i:=1) rfl f_) o_ o_ (gA om)) ?_
   refine l9 rfl rfl rfl rfl (fun _ wq hM hF=>qv rfl rfl (lJ (cf:=gj.cells) (cs:=(Zi ((fM fP q).ix:Int) ((fM fP q).key))) rfl yr rfl iw (yf hM (i:=1) rfl f_) (gA om) rfl rfl)) (gp (fun _ _=>iy (v:=(Zb hb)) rfl) ?_)
   refine gp (fun _ _=>j6 rfl) ?_
   refine gp (fun _ _=>jy (o' := 2) rfl vj rfl uG rfl) ?_
   refine l9 rfl rfl rfl rfl (fun _ wq hM hF=>qv rfl rfl (gU rfl yn rfl (yo hM (i:=0) rfl rfl))) (gp (fun _ _=>iy (v:=(Za p)) rfl) ?_)
   refine gp (fun _ _=>kz (cf:=gj.cells) (k:=p) (i:=(p:Int)) rfl rfl yn iw (yf hst0 (i:=1) rfl f_) o_ o_ (gA om)) ?_
   refine l9 rfl rfl rfl rfl (fun _ wq hM hF=>qv rfl rfl (lJ (cf:=gj.cells) (cs:=(Zi ((fM fP p).ix:Int) ((fM fP p).key))) rfl yr rfl iw (yf hM (i:=1) rfl f_) (gA om) rfl rfl)) (gp (fun _ _=>kz (cf:=gj.cells) (k:=p) (i:=(p:Int)) rfl rfl yn iw (yf hst0 (i:=1) rfl f_) o_ o_ (gA om)) ?_)
   refine jK rfl rfl rfl rfl (fun _ wq hM hF=>Ev (f:=(fun _=>(fM fP q))) (L' := (tM hb n iv pv (fR fP p (fun _=>(fM fP q))) ps pl)) 1 rfl rfl rfl rfl iw rfl rfl hM rfl f_ om rfl rfl rfl (fun _ h=>⟨(),⟨h,trivial⟩,rfl,jD.refl _ _ _⟩)) (gp (fun _ _=>kz (cf:=gj.cells) (k:=q) (i:=(q:Int)) rfl rfl yn iw (yf hst0 (i:=1) rfl f_) o_ o_ (gA om)) ?_)
   refine jK rfl rfl rfl rfl (fun _ wq hM hF=>Ev (f:=(fun _=>(fM fP p))) (L' := (tM hb n iv pv (fR (fR fP p (fun _=>(fM fP q))) q (fun _=>(fM fP p))) ps pl)) 1 rfl rfl rfl rfl iw rfl rfl hM rfl f_ om rfl rfl rfl (fun _ h=>⟨(),⟨h,trivial⟩,rfl,jD.refl _ _ _⟩)) ?_
   exact og
 rintro-l c -
 have b:=c
 refine ng tt none c 9 ?_
 refine jj (cf:=gj.cells) (k:=p) (i:=(p:Int)) rfl rfl rfl yn iw (yf b (i:=1) rfl f_) o_ o_ (gA om) (Bb (cf:=gj.cells) (off:=0) (off' := 0) rfl rfl yr rfl gn rfl (yf b (i:=1) rfl f_) (gA om) (l6 (cf:=gj.cells) rfl rfl ye rfl (yf b (i:=1) rfl f_) (gA om) rfl ?_))
 have d:=yc [_,_,_,_] _ b
 refine fQ b 1 ?_
 refine cl EE (D0 hb n iv pv ps (iD fP p q) pl l (yd d (i:=0) rfl) hP ((fM (iD fP p q) p).ix) (hsix _ (by assumption)) (p:Int) (p+1) o_ o_) ?_
 rintro _ m ⟨rfl,ps2₁,o,hP2₁,ht⟩
 have a:=(yp d ht)
 refine fQ a 9 ?_
 refine jj (cf:=gj.cells) (k:=q) (i:=(q:Int)) rfl rfl rfl yn iw (yf a (i:=1) rfl f_) o_ o_ (gA om) (Bb (cf:=gj.cells) (off:=0) (off' := 0) rfl rfl yr rfl gn rfl (yf a (i:=1) rfl f_) (gA om) (l6 (cf:=gj.cells) rfl rfl ye rfl (yf a (i:=1) rfl f_) (gA om) rfl ?_))
 have e:=yc [_,_,_,_] _ a
 refine fQ a 1 ?_
 refine cl EE (D0 hb n iv pv ps2₁ (iD fP p q) (iV pl ((fM (iD fP p q) p).ix) (p+1)) m (yd e (i:=0) rfl) hP2₁ ((fM (iD fP p q) q).ix) (hsix _ (by assumption)) (q:Int) (q+1) o_ o_) ?_
 rintro _ s ⟨rfl,ps2₂,t,hP2₂,ht⟩
 have g:=(yp e ht)
 refine fW g 1 ?_
 refine jA Tryz.results204 ?_
 exact⟨rfl,ps2₂,o_,hP2₂,yq (yc [_,_,_,_] _ g)⟩
theorem Ms(hb n:Nat)(iv pv:Value)(ps:List (Option Nat))(fP:List gj)(pl:List Nat)(w:World)(hO:Own (Zg hb n iv pv fP ps pl) w)(hS:Hp n fP pl)(hP:js n ps pl)(p:Nat)(hp:p<fP.length) :
 CR ya 207 (Zn hb p) w (fun r w' => r = .int .i64 (rj fP p)/\gm (Zg hb n iv pv fP ps pl) w w' (Zg hb n iv pv fP ps pl)):=by
 have hnn:=hP.n
 have hln:=hS.len
 have hpa:pa p<fP.length:=by simp only[pa];omega
 refine en Tryz.func207 Tryz.ntmps207 ?_
 have hst0:=(y8 hO).unpack
 refine gf hst0 9 ?_
 refine quo (a:=(p:Int)-1) (b:=2) (e:=((pa p:Nat):Int)) rfl rfl rfl d_ (paN o_) (gL hst0 5 ?_)
 by_cases j:((p:Int):Int)>(0:Int)
 . skip
   by_cases c:(tC (fM fP p) (fM fP (pa p)):Int)<(0:Int)
   . skip
     refine iR hst0 (fun l d=>?_) (hA:=by refine' gI 9 ?k0;case k0=>refine' gq (fun wq hM=>rv (lJ (cf:=gj.cells) (cs:=(Zi ((fM fP p).ix:Int) ((fM fP p).key))) rfl yr rfl iw (yf hM (i:=1) rfl f_) (gA om) rfl rfl)) ?k1;case k1=>refine' gI 5 ?k2;case k2=>refine' gq (fun wq hM=>rv (kz (v:=iv) (cf:=gj.cells) (k:=(pa p)) (i:=((pa p:Nat):Int)) rfl rfl yn iw (yf hst0 (i:=1) rfl f_) o_ o_ (gA om))) ?k3;case k3=>refine' gq (fun wq hM=>rv (lJ (cf:=gj.cells) (cs:=(Zi ((fM fP (pa p)).ix:Int) ((fM fP (pa p)).key))) rfl yr rfl iw (yf hM (i:=1) rfl f_) (gA om) rfl rfl)) ?k4;case k4=>refine' gq (fun wq hM=>rc (i6 rfl ta) (CR.mono (sZ (fM fP p) (fM fP (pa p)) wq) fun _ _ h=>⟨h.1,hM.grow h.2⟩)) ?k5;case k5=>exact iA)
     refine iN tt none d 10 ?_
     refine gw (v:=(Za ((pa p:Nat):Int))) Tryz.results207 rfl ?_
     exact⟨gD (by unfold rj;rw[if_pos (show 0<p/\iI (fM fP p) (fM fP (pa p)) from⟨o_,pI.1 c⟩)]),yq (yc [_,_,_,_] _ d)⟩
   . skip
     refine iR hst0 (fun m f=>?_) (hA:=by refine' gI 9 ?k0;case k0=>refine' gq (fun wq hM=>rv (lJ (cf:=gj.cells) (cs:=(Zi ((fM fP p).ix:Int) ((fM fP p).key))) rfl yr rfl iw (yf hM (i:=1) rfl f_) (gA om) rfl rfl)) ?k1;case k1=>refine' gI 5 ?k2;case k2=>refine' gq (fun wq hM=>rv (kz (v:=iv) (cf:=gj.cells) (k:=(pa p)) (i:=((pa p:Nat):Int)) rfl rfl yn iw (yf hst0 (i:=1) rfl f_) o_ o_ (gA om))) ?k3;case k3=>refine' gq (fun wq hM=>rv (lJ (cf:=gj.cells) (cs:=(Zi ((fM fP (pa p)).ix:Int) ((fM fP (pa p)).key))) rfl yr rfl iw (yf hM (i:=1) rfl f_) (gA om) rfl rfl)) ?k4;case k4=>refine' gq (fun wq hM=>rc (i6 rfl ta) (CR.mono (sZ (fM fP p) (fM fP (pa p)) wq) fun _ _ h=>⟨h.1,hM.grow h.2⟩)) ?k5;case k5=>exact iA)
     refine iN tt none f 10 ?_
     refine gw (v:=Zw) Tryz.results207 rfl ?_
     exact⟨gD (by unfold rj;rw[if_neg (show ¬ (0<p/\iI (fM fP p) (fM fP (pa p))) from fun h9=>c (pI.2 h9.2))]),yq (yc [_,_,_,_] _ f)⟩
 . skip
   refine iR hst0 (fun o g=>?_)
   refine iN tt none g 10 ?_
   refine gw (v:=Zw) Tryz.results207 rfl ?_
   exact⟨gD (by unfold rj;rw[if_neg (show ¬ (0<p/\iI (fM fP p) (fM fP (pa p))) from fun h9=>j o_)]),yq (yc [_,_,_,_] _ g)⟩
theorem Mo(hb n:Nat)(iv pv:Value)(ps:List (Option Nat))(fP:List gj)(pl:List Nat)(w:World)(hO:Own (Zg hb n iv pv fP ps pl) w)(hS:Hp n fP pl)(hP:js n ps pl)(p:Nat)(hp:p<fP.length) :
 CR ya 208 (Zn hb p) w (fun r w' => r = .int .i64 (nH fP p)/\gm (Zg hb n iv pv fP ps pl) w w' (Zg hb n iv pv fP ps pl)):=by
 have hnn:=hP.n
 have hln:=hS.len
 refine en Tryz.func208 Tryz.ntmps208 ?_
 have hst0:=(y8 hO).unpack
 refine wm hst0 18 ?_
 refine sy 3 (ir (gf hst0 20 ?_))
 refine ar (e:=((2*p:Nat):Int)) rfl rfl rfl rfl (by rw[iZ o_];omega) (ar (e:=((2*p+1:Nat):Int)) rfl rfl rfl rfl (by rw[iZ o_];omega) (fQ hst0 1 ?_))
 refine ar (e:=((2*p+1:Nat):Int)) rfl rfl rfl rfl (by rw[iZ o_];omega) (gL hst0 4 ?_)
 by_cases u:(((2*p+1:Nat):Int):Int)<((fP.length:Int):Int)
 . skip
   by_cases d:(tC (fM fP (2*p+1)) (fM fP p):Int)<(0:Int)
   . skip
     refine iR hst0 (fun D a=>?_) (hA:=by refine' gI 5 ?k0;case k0=>refine' gq (fun wq hM=>rv (qp (v:=iv) rfl yn (yf (cf:=gj.cells) hst0 (i:=1) rfl f_))) ?k1;case k1=>refine' gI 7 ?k2;case k2=>refine' gq (fun wq hM=>rv (kz (v:=iv) (cf:=gj.cells) (k:=(2*p+1)) (i:=((2*p+1:Nat):Int)) rfl rfl yn iw (yf hst0 (i:=1) rfl f_) o_ o_ (gA om))) ?k3;case k3=>refine' gq (fun wq hM=>rv (lJ (cf:=gj.cells) (cs:=(Zi ((fM fP (2*p+1)).ix:Int) ((fM fP (2*p+1)).key))) rfl yr rfl iw (yf hM (i:=1) rfl f_) (gA om) rfl rfl)) ?k4;case k4=>refine' gI 6 ?k5;case k5=>refine' gq (fun wq hM=>rv (lJ (cf:=gj.cells) (cs:=(Zi ((fM fP p).ix:Int) ((fM fP p).key))) rfl yr rfl iw (yf hM (i:=1) rfl f_) (gA om) rfl rfl)) ?k6;case k6=>refine' gq (fun wq hM=>rc (i6 rfl ta) (CR.mono (sZ (fM fP (2*p+1)) (fM fP p) wq) fun _ _ h=>⟨h.1,hM.grow h.2⟩)) ?k7;case k7=>exact iA)
     refine iN tt none a 12 ?_
     refine tN (?_)
     refine ir (gf a 20 ?_)
     refine ar (e:=((2*p:Nat):Int)) rfl rfl rfl rfl (by rw[iZ o_];omega) (ar (e:=((2*p+1:Nat):Int)) rfl rfl rfl rfl (by rw[iZ o_];omega) (fQ a 1 ?_))
     refine ar (e:=((2*p+2:Nat):Int)) rfl rfl rfl rfl (by rw[iZ o_];omega) (gL a 4 ?_)
     by_cases A:(((2*p+2:Nat):Int):Int)<((fP.length:Int):Int)
     . skip
       by_cases x:(tC (fM fP (2*p+2)) (fM fP (2*p+1)):Int)<(0:Int)
       . skip
         refine iR a (fun E f=>?_) (hA:=by refine' gI 5 ?k0;case k0=>refine' gq (fun wq hM=>rv (qp (v:=iv) rfl yn (yf (cf:=gj.cells) a (i:=1) rfl f_))) ?k1;case k1=>refine' gI 7 ?k2;case k2=>refine' gq (fun wq hM=>rv (kz (v:=iv) (cf:=gj.cells) (k:=(2*p+2)) (i:=((2*p+2:Nat):Int)) rfl rfl yn iw (yf a (i:=1) rfl f_) o_ o_ (gA om))) ?k3;case k3=>refine' gq (fun wq hM=>rv (lJ (cf:=gj.cells) (cs:=(Zi ((fM fP (2*p+2)).ix:Int) ((fM fP (2*p+2)).key))) rfl yr rfl iw (yf hM (i:=1) rfl f_) (gA om) rfl rfl)) ?k4;case k4=>refine' gI 5 ?k5;case k5=>refine' gq (fun wq hM=>rv (kz (v:=iv) (cf:=gj.cells) (k:=(2*p+1)) (i:=((2*p+1:Nat):Int)) rfl rfl yn iw (yf a (i:=1) rfl f_) o_ o_ (gA om))) ?k6;case k6=>refine' gq (fun wq hM=>rv (lJ (cf:=gj.cells) (cs:=(Zi ((fM fP (2*p+1)).ix:Int) ((fM fP (2*p+1)).key))) rfl yr rfl iw (yf hM (i:=1) rfl f_) (gA om) rfl rfl)) ?k7;case k7=>refine' gq (fun wq hM=>rc (i6 rfl ta) (CR.mono (sZ (fM fP (2*p+2)) (fM fP (2*p+1)) wq) fun _ _ h=>⟨h.1,hM.grow h.2⟩)) ?k8;case k8=>exact iA)
         refine iN tt none f 12 ?_
         refine tN (?_)
         refine ir (gf f 17 ?_)
         by_cases G:(((2*p+2:Nat):Int):Int)=((p:Int):Int)
         . refine fW f 11 ?_
           refine gw (v:=Zw) qg rfl ?_
           exact(show False by omega).elim
         . refine fW f 13 ?_
           refine gw (v:=(Za ((2*p+2:Nat):Int))) qg rfl ?_
           exact⟨gD (by unfold nH jo;simp only;rw[if_pos (show 2*p+1<fP.length/\iI (fM fP (2*p+1)) (fM fP p) from⟨o_,pI.1 d⟩),if_pos (show 2*p+2<fP.length/\iI (fM fP (2*p+2)) (fM fP (2*p+1)) from⟨o_,pI.1 x⟩),if_neg o_]),yq (yc [_,_,_,_] _ f)⟩
       . skip
         refine iR a (fun H g=>?_) (hA:=by refine' gI 5 ?k0;case k0=>refine' gq (fun wq hM=>rv (qp (v:=iv) rfl yn (yf (cf:=gj.cells) a (i:=1) rfl f_))) ?k1;case k1=>refine' gI 7 ?k2;case k2=>refine' gq (fun wq hM=>rv (kz (v:=iv) (cf:=gj.cells) (k:=(2*p+2)) (i:=((2*p+2:Nat):Int)) rfl rfl yn iw (yf a (i:=1) rfl f_) o_ o_ (gA om))) ?k3;case k3=>refine' gq (fun wq hM=>rv (lJ (cf:=gj.cells) (cs:=(Zi ((fM fP (2*p+2)).ix:Int) ((fM fP (2*p+2)).key))) rfl yr rfl iw (yf hM (i:=1) rfl f_) (gA om) rfl rfl)) ?k4;case k4=>refine' gI 5 ?k5;case k5=>refine' gq (fun wq hM=>rv (kz (v:=iv) (cf:=gj.cells) (k:=(2*p+1)) (i:=((2*p+1:Nat):Int)) rfl rfl yn iw (yf a (i:=1) rfl f_) o_ o_ (gA om))) ?k6;case k6=>refine' gq (fun wq hM=>rv (lJ (cf:=gj.cells) (cs:=(Zi ((fM fP (2*p+1)).ix:Int) ((fM fP (2*p+1)).key))) rfl yr rfl iw (yf hM (i:=1) rfl f_) (gA om) rfl rfl)) ?k7;case k7=>refine' gq (fun wq hM=>rc (i6 rfl ta) (CR.mono (sZ (fM fP (2*p+2)) (fM fP (2*p+1)) wq) fun _ _ h=>⟨h.1,hM.grow h.2⟩)) ?k8;case k8=>exact iA)
         refine iN tt none g 9 ?_
         refine tN (?_)
         refine ir (gf g 17 ?_)
         by_cases I:(((2*p+1:Nat):Int):Int)=((p:Int):Int)
         . refine fW g 11 ?_
           refine gw (v:=Zw) qg rfl ?_
           exact(show False by omega).elim
         . refine fW g 13 ?_
           refine gw (v:=(Za ((2*p+1:Nat):Int))) qg rfl ?_
           exact⟨gD (by unfold nH jo;simp only;rw[if_pos (show 2*p+1<fP.length/\iI (fM fP (2*p+1)) (fM fP p) from⟨o_,pI.1 d⟩),if_neg (show ¬ (2*p+2<fP.length/\iI (fM fP (2*p+2)) (fM fP (2*p+1))) from fun h9=>x (pI.2 h9.2)),if_neg o_]),yq (yc [_,_,_,_] _ g)⟩
     . skip
       refine iR a (fun J j=>?_) (hA:=by refine' gI 5 ?k0;case k0=>refine' gq (fun wq hM=>rv (qp (v:=iv) rfl yn (yf (cf:=gj.cells) a (i:=1) rfl f_))) ?k1;case k1=>exact iA)
       refine iN tt none j 9 ?_
       refine tN (?_)
       refine ir (gf j 17 ?_)
       by_cases K:(((2*p+1:Nat):Int):Int)=((p:Int):Int)
       . refine fW j 11 ?_
         refine gw (v:=Zw) qg rfl ?_
         exact(show False by omega).elim
       . refine fW j 13 ?_
         refine gw (v:=(Za ((2*p+1:Nat):Int))) qg rfl ?_
         exact⟨gD (by unfold nH jo;simp only;rw[if_pos (show 2*p+1<fP.length/\iI (fM fP (2*p+1)) (fM fP p) from⟨o_,pI.1 d⟩),if_neg (show ¬ (2*p+2<fP.length/\iI (fM fP (2*p+2)) (fM fP (2*p+1))) from fun h9=>A o_),if_neg o_]),yq (yc [_,_,_,_] _ j)⟩
   . skip
     refine iR hst0 (fun L b=>?_) (hA:=by refine' gI 5 ?k0;case k0=>refine' gq (fun wq hM=>rv (qp (v:=iv) rfl yn (yf (cf:=gj.cells) hst0 (i:=1) rfl f_))) ?k1;case k1=>refine' gI 7 ?k2;case k2=>refine' gq (fun wq hM=>rv (kz (v:=iv) (cf:=gj.cells) (k:=(2*p+1)) (i:=((2*p+1:Nat):Int)) rfl rfl yn iw (yf hst0 (i:=1) rfl f_) o_ o_ (gA om))) ?k3;case k3=>refine' gq (fun wq hM=>rv (lJ (cf:=gj.cells) (cs:=(Zi ((fM fP (2*p+1)).ix:Int) ((fM fP (2*p+1)).key))) rfl yr rfl iw (yf hM (i:=1) rfl f_) (gA om) rfl rfl)) ?k4;case k4=>refine' gI 6 ?k5;case k5=>refine' gq (fun wq hM=>rv (lJ (cf:=gj.cells) (cs:=(Zi ((fM fP p).ix:Int) ((fM fP p).key))) rfl yr rfl iw (yf hM (i:=1) rfl f_) (gA om) rfl rfl)) ?k6;case k6=>refine' gq (fun wq hM=>rc (i6 rfl ta) (CR.mono (sZ (fM fP (2*p+1)) (fM fP p) wq) fun _ _ h=>⟨h.1,hM.grow h.2⟩)) ?k7;case k7=>exact iA)
     refine iN tt none b 9 ?_
     refine tN (?_)
     refine ir (gf b 20 ?_)
     refine ar (e:=((2*p:Nat):Int)) rfl rfl rfl rfl (by rw[iZ o_];omega) (ar (e:=((2*p+1:Nat):Int)) rfl rfl rfl rfl (by rw[iZ o_];omega) (fQ b 1 ?_))
     refine ar (e:=((2*p+2:Nat):Int)) rfl rfl rfl rfl (by rw[iZ o_];omega) (gL b 4 ?_)
     by_cases B:(((2*p+2:Nat):Int):Int)<((fP.length:Int):Int)
     . skip
       by_cases y:(tC (fM fP (2*p+2)) (fM fP p):Int)<(0:Int)
       . skip
         refine iR b (fun M l=>?_) (hA:=by refine' gI 5 ?k0;case k0=>refine' gq (fun wq hM=>rv (qp (v:=iv) rfl yn (yf (cf:=gj.cells) b (i:=1) rfl f_))) ?k1;case k1=>refine' gI 7 ?k2;case k2=>refine' gq (fun wq hM=>rv (kz (v:=iv) (cf:=gj.cells) (k:=(2*p+2)) (i:=((2*p+2:Nat):Int)) rfl rfl yn iw (yf b (i:=1) rfl f_) o_ o_ (gA om))) ?k3;case k3=>refine' gq (fun wq hM=>rv (lJ (cf:=gj.cells) (cs:=(Zi ((fM fP (2*p+2)).ix:Int) ((fM fP (2*p+2)).key))) rfl yr rfl iw (yf hM (i:=1) rfl f_) (gA om) rfl rfl)) ?k4;case k4=>refine' gI 6 ?k5;case k5=>refine' gq (fun wq hM=>rv (lJ (cf:=gj.cells) (cs:=(Zi ((fM fP p).ix:Int) ((fM fP p).key))) rfl yr rfl iw (yf hM (i:=1) rfl f_) (gA om) rfl rfl)) ?k6;case k6=>refine' gq (fun wq hM=>rc (i6 rfl ta) (CR.mono (sZ (fM fP (2*p+2)) (fM fP p) wq) fun _ _ h=>⟨h.1,hM.grow h.2⟩)) ?k7;case k7=>exact iA)
         refine iN tt none l 12 ?_
         refine tN (?_)
         refine ir (gf l 17 ?_)
         by_cases N:(((2*p+2:Nat):Int):Int)=((p:Int):Int)
         . refine fW l 11 ?_
           refine gw (v:=Zw) qg rfl ?_
           exact(show False by omega).elim
         . refine fW l 13 ?_
           refine gw (v:=(Za ((2*p+2:Nat):Int))) qg rfl ?_
           exact⟨gD (by unfold nH jo;simp only;rw[if_neg (show ¬ (2*p+1<fP.length/\iI (fM fP (2*p+1)) (fM fP p)) from fun h9=>d (pI.2 h9.2)),if_pos (show 2*p+2<fP.length/\iI (fM fP (2*p+2)) (fM fP p) from⟨o_,pI.1 y⟩),if_neg o_]),yq (yc [_,_,_,_] _ l)⟩
       . skip
         refine iR b (fun O o=>?_) (hA:=by refine' gI 5 ?k0;case k0=>refine' gq (fun wq hM=>rv (qp (v:=iv) rfl yn (yf (cf:=gj.cells) b (i:=1) rfl f_))) ?k1;case k1=>refine' gI 7 ?k2;case k2=>refine' gq (fun wq hM=>rv (kz (v:=iv) (cf:=gj.cells) (k:=(2*p+2)) (i:=((2*p+2:Nat):Int)) rfl rfl yn iw (yf b (i:=1) rfl f_) o_ o_ (gA om))) ?k3;case k3=>refine' gq (fun wq hM=>rv (lJ (cf:=gj.cells) (cs:=(Zi ((fM fP (2*p+2)).ix:Int) ((fM fP (2*p+2)).key))) rfl yr rfl iw (yf hM (i:=1) rfl f_) (gA om) rfl rfl)) ?k4;case k4=>refine' gI 6 ?k5;case k5=>refine' gq (fun wq hM=>rv (lJ (cf:=gj.cells) (cs:=(Zi ((fM fP p).ix:Int) ((fM fP p).key))) rfl yr rfl iw (yf hM (i:=1) rfl f_) (gA om) rfl rfl)) ?k6;case k6=>refine' gq (fun wq hM=>rc (i6 rfl ta) (CR.mono (sZ (fM fP (2*p+2)) (fM fP p) wq) fun _ _ h=>⟨h.1,hM.grow h.2⟩)) ?k7;case k7=>exact iA)
         refine iN tt none o 9 ?_
         refine tN (?_)
         refine ir (gf o 17 ?_)
         refine cmp rfl rfl rfl (tD rfl) (fW o 10 ?_)
         refine gw (v:=Zw) qg rfl ?_
         exact⟨gD (by unfold nH jo;simp only;rw[if_neg (show ¬ (2*p+1<fP.length/\iI (fM fP (2*p+1)) (fM fP p)) from fun h9=>d (pI.2 h9.2)),if_neg (show ¬ (2*p+2<fP.length/\iI (fM fP (2*p+2)) (fM fP p)) from fun h9=>y (pI.2 h9.2)),if_pos rfl]),yq (yc [_,_,_,_] _ o)⟩
     . skip
       refine iR b (fun P q=>?_) (hA:=by refine' gI 5 ?k0;case k0=>refine' gq (fun wq hM=>rv (qp (v:=iv) rfl yn (yf (cf:=gj.cells) b (i:=1) rfl f_))) ?k1;case k1=>exact iA)
       refine iN tt none q 9 ?_
       refine tN (?_)
       refine ir (gf q 17 ?_)
       refine cmp rfl rfl rfl (tD rfl) (fW q 10 ?_)
       refine gw (v:=Zw) qg rfl ?_
       exact⟨gD (by unfold nH jo;simp only;rw[if_neg (show ¬ (2*p+1<fP.length/\iI (fM fP (2*p+1)) (fM fP p)) from fun h9=>d (pI.2 h9.2)),if_neg (show ¬ (2*p+2<fP.length/\iI (fM fP (2*p+2)) (fM fP p)) from fun h9=>B o_),if_pos rfl]),yq (yc [_,_,_,_] _ q)⟩
 . skip
   refine iR hst0 (fun Q c=>?_) (hA:=by refine' gI 5 ?k0;case k0=>refine' gq (fun wq hM=>rv (qp (v:=iv) rfl yn (yf (cf:=gj.cells) hst0 (i:=1) rfl f_))) ?k1;case k1=>exact iA)
   refine iN tt none c 9 ?_
   refine tN (?_)
   refine ir (gf c 20 ?_)
   refine ar (e:=((2*p:Nat):Int)) rfl rfl rfl rfl (by rw[iZ o_];omega) (ar (e:=((2*p+1:Nat):Int)) rfl rfl rfl rfl (by rw[iZ o_];omega) (fQ c 1 ?_))
   refine ar (e:=((2*p+2:Nat):Int)) rfl rfl rfl rfl (by rw[iZ o_];omega) (gL c 4 ?_)
   by_cases C:(((2*p+2:Nat):Int):Int)<((fP.length:Int):Int)
   . skip
     by_cases z:(tC (fM fP (2*p+2)) (fM fP p):Int)<(0:Int)
     . skip
       refine iR c (fun R m=>?_) (hA:=by refine' gI 5 ?k0;case k0=>refine' gq (fun wq hM=>rv (qp (v:=iv) rfl yn (yf (cf:=gj.cells) c (i:=1) rfl f_))) ?k1;case k1=>refine' gI 7 ?k2;case k2=>refine' gq (fun wq hM=>rv (kz (v:=iv) (cf:=gj.cells) (k:=(2*p+2)) (i:=((2*p+2:Nat):Int)) rfl rfl yn iw (yf c (i:=1) rfl f_) o_ o_ (gA om))) ?k3;case k3=>refine' gq (fun wq hM=>rv (lJ (cf:=gj.cells) (cs:=(Zi ((fM fP (2*p+2)).ix:Int) ((fM fP (2*p+2)).key))) rfl yr rfl iw (yf hM (i:=1) rfl f_) (gA om) rfl rfl)) ?k4;case k4=>refine' gI 6 ?k5;case k5=>refine' gq (fun wq hM=>rv (lJ (cf:=gj.cells) (cs:=(Zi ((fM fP p).ix:Int) ((fM fP p).key))) rfl yr rfl iw (yf hM (i:=1) rfl f_) (gA om) rfl rfl)) ?k6;case k6=>refine' gq (fun wq hM=>rc (i6 rfl ta) (CR.mono (sZ (fM fP (2*p+2)) (fM fP p) wq) fun _ _ h=>⟨h.1,hM.grow h.2⟩)) ?k7;case k7=>exact iA)
       refine iN tt none m 12 ?_
       refine tN (?_)
       refine ir (gf m 17 ?_)
       by_cases S:(((2*p+2:Nat):Int):Int)=((p:Int):Int)
       . refine fW m 11 ?_
         refine gw (v:=Zw) qg rfl ?_
         exact(show False by omega).elim
       . refine fW m 13 ?_
         refine gw (v:=(Za ((2*p+2:Nat):Int))) qg rfl ?_
         exact⟨gD (by unfold nH jo;simp only;rw[if_neg (show ¬ (2*p+1<fP.length/\iI (fM fP (2*p+1)) (fM fP p)) from fun h9=>u o_),if_pos (show 2*p+2<fP.length/\iI (fM fP (2*p+2)) (fM fP p) from⟨o_,pI.1 z⟩),if_neg o_]),yq (yc [_,_,_,_] _ m)⟩
     . skip
       refine iR c (fun U s=>?_) (hA:=by refine' gI 5 ?k0;case k0=>refine' gq (fun wq hM=>rv (qp (v:=iv) rfl yn (yf (cf:=gj.cells) c (i:=1) rfl f_))) ?k1;case k1=>refine' gI 7 ?k2;case k2=>refine' gq (fun wq hM=>rv (kz (v:=iv) (cf:=gj.cells) (k:=(2*p+2)) (i:=((2*p+2:Nat):Int)) rfl rfl yn iw (yf c (i:=1) rfl f_) o_ o_ (gA om))) ?k3;case k3=>refine' gq (fun wq hM=>rv (lJ (cf:=gj.cells) (cs:=(Zi ((fM fP (2*p+2)).ix:Int) ((fM fP (2*p+2)).key))) rfl yr rfl iw (yf hM (i:=1) rfl f_) (gA om) rfl rfl)) ?k4;case k4=>refine' gI 6 ?k5;case k5=>refine' gq (fun wq hM=>rv (lJ (cf:=gj.cells) (cs:=(Zi ((fM fP p).ix:Int) ((fM fP p).key))) rfl yr rfl iw (yf hM (i:=1) rfl f_) (gA om) rfl rfl)) ?k6;case k6=>refine' gq (fun wq hM=>rc (i6 rfl ta) (CR.mono (sZ (fM fP (2*p+2)) (fM fP p) wq) fun _ _ h=>⟨h.1,hM.grow h.2⟩)) ?k7;case k7=>exact iA)
       refine iN tt none s 9 ?_
       refine tN (?_)
       refine ir (gf s 17 ?_)
       refine cmp rfl rfl rfl (tD rfl) (fW s 10 ?_)
       refine gw (v:=Zw) qg rfl ?_
       exact⟨gD (by unfold nH jo;simp only;rw[if_neg (show ¬ (2*p+1<fP.length/\iI (fM fP (2*p+1)) (fM fP p)) from fun h9=>u o_),if_neg (show ¬ (2*p+2<fP.length/\iI (fM fP (2*p+2)) (fM fP p)) from fun h9=>z (pI.2 h9.2)),if_pos rfl]),yq (yc [_,_,_,_] _ s)⟩
   . skip
     refine iR c (fun V t=>?_) (hA:=by refine' gI 5 ?k0;case k0=>refine' gq (fun wq hM=>rv (qp (v:=iv) rfl yn (yf (cf:=gj.cells) c (i:=1) rfl f_))) ?k1;case k1=>exact iA)
     refine iN tt none t 9 ?_
     refine tN (?_)
     refine ir (gf t 17 ?_)
     refine cmp rfl rfl rfl (tD rfl) (fW t 10 ?_)
     refine gw (v:=Zw) qg rfl ?_
     exact⟨gD (by unfold nH jo;simp only;rw[if_neg (show ¬ (2*p+1<fP.length/\iI (fM fP (2*p+1)) (fM fP p)) from fun h9=>u o_),if_neg (show ¬ (2*p+2<fP.length/\iI (fM fP (2*p+2)) (fM fP p)) from fun h9=>C o_),if_pos rfl]),yq (yc [_,_,_,_] _ t)⟩
end
section
open Go Go.Sx
theorem VI(pb xb hb n:Nat)(iv pv:Value)(ps:List (Option Nat))(fP:List gj)(pl:List Nat)(p:Nat)(w:World)(hO:Own (wF pb p xb hb n iv pv fP ps pl) w)(hS:Hp n fP pl)(hP:js n ps pl)(hp:p<fP.length)(hA:tO fP p) :
 CR ya 206 #[(Q0 hb),(Zb pb),(Zb xb)] w (fun r w' => r = .tuple #[]/\∃ (p2:Nat),∃ qs ys zl,mg n fP ys ps qs zl/\p2<ys.length/\vt ys p2/\gm (wF pb p xb hb n iv pv fP ps pl) w w' (wF pb p2 xb hb n iv pv ys qs zl)):=by
 refine en Tryz.func206 Tryz.ntmps206 ?_
 have hst0:=(y8 hO).unpack
 have hsm0:=mg.refl hS hP
 have j:=yi [2,3,4,5,0,1] hst0
 have b:=yc [_,_,_,_] _ j
 refine gf hst0 4 ?_
 refine p9 (fi:=(Zj hb)) (ca:=[]) rfl rfl rfl Oh (Ms hb n iv pv ps fP pl w (yd b (i:=0) rfl) hsm0.hp hsm0.kG p (by first|omega|(rw[mI];omega))) ?_
 rintro _ y ⟨rfl,ht⟩
 have c:=(yp b ht)
 have k:=yi [4,5,0,1,2,3] c
 refine gL c 4 ?_
 refine lp (α:=List gj×List (Option Nat)×List Nat×Nat×Int) (fun(ys,qs,zl,p2,q)=>[(0,(Q0 hb)),(1,(Zb pb)),(2,(Zb xb)),(4,(Za q))]) (fun(ys,qs,zl,p2,q) w1=>St [(w,(wF pb p xb hb n iv pv fP ps pl).gT)] (KV pb p2 xb hb n iv pv ys qs zl) w1/\mg n fP ys ps qs zl/\p2<ys.length/\tO ys p2/\q=rj ys p2) (fun(ys,qs,zl,p2,q)=>p2) (fP,ps,pl,p,(rj fP p)) ⟨rfl,rfl,rfl,gD (by first|rfl|omega),trivial⟩ (⟨k,hsm0,hp,hA,rfl⟩) ?_
 rintro⟨ys,qs,zl,p2,q⟩ z l ⟨hst3,hsm,hp2,hAt,hq⟩
 refine gf hst3 4 ?_
 by_cases d:(q:Int)=(-1:Int)
 . have hstop:=hAt.stop (Sw (hq.symm.trans d))
   refine fW hst3 8 ?_
   refine jA Tryz.results206 ?_
   exact⟨rfl,p2,qs,ys,zl,hsm,hp2,hstop,yq (yc [_,_,_,_,_,_] _ hst3)⟩
 . have hgo:=TV (fun h9=>@d (hq.trans h9))
   refine fQ hst3 1 ?_
   obtain rfl:q=((pa p2:Nat):Int):=hq.trans hgo.1
   have h0p:=hgo.2.1
   have hpq:pa p2<ys.length:=by simp only[pa];omega
   have m:=yi [2,3,4,5,0,1] hst3
   have e:=yc [_,_,_,_] _ m
   refine fQ hst3 12 ?_
   refine cl I5 (HU hb n iv pv qs ys zl l (yd e (i:=0) rfl) hsm.hp hsm.kG p2 (pa p2) o_ o_) ?_
   rintro _ A ⟨rfl,f,o,s,ht⟩
   have t:=(yp e ht)
   have a:=hsm.swap (p:=p2) (q:=(pa p2)) o_ o_ o s
   refine kL t 11 fun u v=>?_
   have g:=yc [_,_,_,_] _ v
   refine p9 (fi:=(Zj hb)) (ca:=[]) rfl rfl rfl Oh (Ms hb n iv pv f (iD ys p2 (pa p2)) (iV (iV zl (fM (iD ys p2 (pa p2)) p2).ix (p2+1)) (fM (iD ys p2 (pa p2)) (pa p2)).ix ((pa p2)+1)) u (yd g (i:=0) rfl) a.hp a.kG (pa p2) (by first|omega|(rw[mI];omega))) ?_
   rintro _ B ⟨rfl,ht⟩
   have h:=(yp g ht)
   refine fW h 2 ?_
   refine tN (?_)
   have x:=yi [4,5,0,1,2,3] h
   exact again (iD ys p2 (pa p2),f,iV (iV zl (fM (iD ys p2 (pa p2)) p2).ix (p2+1)) (fM (iD ys p2 (pa p2)) (pa p2)).ix ((pa p2)+1),(pa p2),rj (iD ys p2 (pa p2)) (pa p2)) ⟨rfl,rfl,rfl,gD (by first|rfl|omega),trivial⟩ (⟨x,a,by rw[mI];omega,hAt.up h0p hp2 hgo.2.2,rfl⟩) (by show pa p2<p2;simp only[pa];omega)
theorem V6(pb xb hb n:Nat)(iv pv:Value)(ps:List (Option Nat))(fP:List gj)(pl:List Nat)(p:Nat)(w:World)(hO:Own (wF pb p xb hb n iv pv fP ps pl) w)(hS:Hp n fP pl)(hP:js n ps pl)(hp:p<fP.length)(hA:vt fP p) :
 CR ya 206 #[(Q6 hb),(Zb pb),(Zb xb)] w (fun r w' => r = .tuple #[]/\∃ (p2:Nat),∃ qs ys zl,mg n fP ys ps qs zl/\p2<ys.length/\Ord ys/\gm (wF pb p xb hb n iv pv fP ps pl) w w' (wF pb p2 xb hb n iv pv ys qs zl)):=by
 refine en Tryz.func206 Tryz.ntmps206 ?_
 have hst0:=(y8 hO).unpack
 have hsm0:=mg.refl hS hP
 have j:=yi [2,3,4,5,0,1] hst0
 have b:=yc [_,_,_,_] _ j
 refine gf hst0 4 ?_
 refine p9 (fi:=(Zj hb)) (ca:=[]) rfl rfl rfl Ol (Mo hb n iv pv ps fP pl w (yd b (i:=0) rfl) hsm0.hp hsm0.kG p (by first|omega|(rw[mI];omega))) ?_
 rintro _ y ⟨rfl,ht⟩
 have c:=(yp b ht)
 have k:=yi [4,5,0,1,2,3] c
 refine gL c 4 ?_
 refine lp (α:=List gj×List (Option Nat)×List Nat×Nat×Int) (fun(ys,qs,zl,p2,q)=>[(0,(Q6 hb)),(1,(Zb pb)),(2,(Zb xb)),(4,(Za q))]) (fun(ys,qs,zl,p2,q) w1=>St [(w,(wF pb p xb hb n iv pv fP ps pl).gT)] (KV pb p2 xb hb n iv pv ys qs zl) w1/\mg n fP ys ps qs zl/\p2<ys.length/\vt ys p2/\q=nH ys p2) (fun(ys,qs,zl,p2,q)=>ys.length-p2) (fP,ps,pl,p,(nH fP p)) ⟨rfl,rfl,rfl,gD (by first|rfl|omega),trivial⟩ (⟨k,hsm0,hp,hA,rfl⟩) ?_
 rintro⟨ys,qs,zl,p2,q⟩ z l ⟨hst3,hsm,hp2,hAt,hq⟩
 refine gf hst3 4 ?_
 by_cases d:(q:Int)=(-1:Int)
 . have hstop:=hAt.stop (SC (hq.symm.trans d))
   refine fW hst3 8 ?_
   refine jA Tryz.results206 ?_
   exact⟨rfl,p2,qs,ys,zl,hsm,hp2,hstop,yq (yc [_,_,_,_,_,_] _ hst3)⟩
 . have hgo:=Uw (fun h9=>@d (hq.trans h9))
   refine fQ hst3 1 ?_
   obtain rfl:q=((jo ys p2:Nat):Int):=hq.trans hgo.1
   have hbg:=No hgo.2
   have hpq:=hbg.1
   have m:=yi [2,3,4,5,0,1] hst3
   have e:=yc [_,_,_,_] _ m
   refine fQ hst3 12 ?_
   refine cl I5 (HU hb n iv pv qs ys zl l (yd e (i:=0) rfl) hsm.hp hsm.kG p2 (jo ys p2) o_ o_) ?_
   rintro _ A ⟨rfl,f,o,s,ht⟩
   have t:=(yp e ht)
   have a:=hsm.swap (p:=p2) (q:=(jo ys p2)) o_ o_ o s
   refine kL t 11 fun u v=>?_
   have g:=yc [_,_,_,_] _ v
   refine p9 (fi:=(Zj hb)) (ca:=[]) rfl rfl rfl Ol (Mo hb n iv pv f (iD ys p2 (jo ys p2)) (iV (iV zl (fM (iD ys p2 (jo ys p2)) p2).ix (p2+1)) (fM (iD ys p2 (jo ys p2)) (jo ys p2)).ix ((jo ys p2)+1)) u (yd g (i:=0) rfl) a.hp a.kG (jo ys p2) (by first|omega|(rw[mI];omega))) ?_
   rintro _ B ⟨rfl,ht⟩
   have h:=(yp g ht)
   refine fW h 2 ?_
   refine tN (?_)
   have x:=yi [4,5,0,1,2,3] h
   exact again (iD ys p2 (jo ys p2),f,iV (iV zl (fM (iD ys p2 (jo ys p2)) p2).ix (p2+1)) (fM (iD ys p2 (jo ys p2)) (jo ys p2)).ix ((jo ys p2)+1),(jo ys p2),nH (iD ys p2 (jo ys p2)) (jo ys p2)) ⟨rfl,rfl,rfl,gD (by first|rfl|omega),trivial⟩ (⟨x,a,by rw[mI];omega,hAt.down rfl hgo.2,rfl⟩) (by show (iD ys p2 (jo ys p2)).length-jo ys p2<ys.length-p2;rw[mI];omega)
theorem LW(hb n:Nat)(iv pv:Value)(ps:List (Option Nat))(fP:List gj)(pl:List Nat)(w:World)(hO:Own (Zg hb n iv pv fP ps pl) w)(hS:Hp n fP pl)(hP:js n ps pl)(p:Nat)(hp:p<fP.length)(hA:tO fP p) :
 CR ya 159 (Zn hb p) w (fun r w' => r = .tuple #[]/\∃ qs ys zl,mg n fP ys ps qs zl/\Ord ys/\gm (Zg hb n iv pv fP ps pl) w w' (Zg hb n iv pv ys qs zl)):=by
 refine en Tryz.func159 Tryz.ntmps159 ?_
 have hst0:=(y8 hO).unpack
 have hsm0:=mg.refl hS hP
 refine gf hst0 2 ?_
 refine bx (v:=(Zb hb)) (cs:=(Zj hb)) rfl rfl rfl hst0 (fun a E G H j=>bx (v:=(Za p)) (cs:=(Ze p)) rfl rfl rfl j (fun b k I J c=>fQ c 4 ?_))
 refine yY (vf:=[]) (vc:=(yH b a)) rfl rfl rfl (fQ c 7 ?_)
 refine yY (vf:=(Zj hb)) (vc:=[]) rfl rfl rfl ?_
 have e:=yc [_,_,_,_,_,_] _ c
 refine p9 (fi:=[]) (ca:=(yH b a)) rfl rfl rfl OG (VI b a hb n iv pv ps fP pl p k (yd e (i:=0) rfl) hsm0.hp hsm0.kG (by first|assumption|omega) hA) ?_
 rintro _ l ⟨rfl,m,o,q,s,t,K,u,ht⟩
 have f:=(yp e ht)
 have d:=hsm0.trans t
 refine fQ f 5 ?_
 refine yY (vf:=(Zj hb)) (vc:=[]) rfl rfl rfl ?_
 have g:=yc [_,_,_,_,_,_] _ f
 refine p9 (fi:=[]) (ca:=(yH b a)) rfl rfl rfl OG (V6 b a hb n iv pv o q s m l (yd g (i:=0) rfl) d.hp d.kG (by first|assumption|omega) u) ?_
 rintro _ L ⟨rfl,M,x,y,z,A,N,B,ht⟩
 have h:=(yp g ht)
 have C:=d.trans A
 refine fW h 1 ?_
 refine jA Tryz.results159 ?_
 have D:=yi [2,3,4,5,0,1] h
 exact⟨rfl,x,y,z,C,B,yq (yc [_,_,_,_] _ D)⟩
end
section
open Go Go.Sx
theorem Uc(hb n:Nat)(iv pv:Value)(ps:List (Option Nat))(fP:List gj)(pl:List Nat)(w:World)(hO:Own (Zg hb n iv pv fP ps pl) w)(hS:Hp n fP pl)(hP:js n ps pl)(i:Nat)(hi:i<n)(h0:fM pl i=0) :
 CR ya 158 (Zn hb i) w (fun r w' => r = .tuple #[.int .i64 0,.int .i64 5]/\gm (Zg hb n iv pv fP ps pl) w w' (Zg hb n iv pv fP ps pl)):=by
 have hnn:=hP.n
 have hln:=hS.len
 have hvi:=hP.val i
 refine en Tryz.func158 Tryz.ntmps158 ?_
 have hst0:=(y8 hO).unpack
 have a:=yc [_,_,_,_] _ hst0
 refine gf hst0 11 ?_
 refine cl Ac (zH hb n iv pv ps fP pl w (yd a (i:=0) rfl)) ?_
 rintro _ g ⟨rfl,ht⟩
 have b:=(yp a ht)
 have c:=yc [_,_,_,_] _ b
 refine fQ b 9 ?_
 refine cl IW (IA hb n iv pv ps fP pl g (yd c (i:=0) rfl) i o_) ?_
 rintro _ h ⟨rfl,ht⟩
 have d:=(yp c ht)
 have e:=yc [_,_,_,_] _ d
 refine fQ d 9 ?_
 refine cl IV (Hq hb n iv pv ps fP pl h (yd e (i:=0) rfl) hP i o_) ?_
 rintro _ j ⟨rfl,ht⟩
 have f:=(yp e ht)
 refine cmp rfl rfl rfl (tD o_) (fW f 13 ?_)
 refine jU (v:=Zc) (v' := wJ) Tryz.results158 rfl rfl ?_
 exact⟨rfl,yq (yc [_,_,_,_] _ f)⟩
theorem VR(hb n:Nat)(iv pv:Value)(ps:List (Option Nat))(fP:List gj)(pl:List Nat)(w:World)(hO:Own (Zg hb n iv pv fP ps pl) w)(hS:Hp n fP pl)(hP:js n ps pl)(i:Nat)(hi:i<n)(h0:fM pl i=0) :
 CR ya 157 (Zn hb i) w (fun r w' => r = .tuple K9/\gm (Zg hb n iv pv fP ps pl) w w' (Zg hb n iv pv fP ps pl)):=by
 have hnn:=hP.n
 have hln:=hS.len
 have hvi:=hP.val i
 refine en Tryz.func157 Tryz.ntmps157 ?_
 have hst0:=(y8 hO).unpack
 have a:=yc [_,_,_,_] _ hst0
 refine gf hst0 10 ?_
 refine cl XM (Uc hb n iv pv ps fP pl w (yd a (i:=0) rfl) hS hP i hi h0) ?_
 rintro _ c ⟨rfl,ht⟩
 have b:=(yp a ht)
 refine fW b 23 ?_
 refine jU (v:=Zc) (v' := Zq) Tryz.results157 rfl rfl ?_
 exact⟨rfl,yq (yc [_,_,_,_] _ b)⟩
theorem MT(hb n:Nat)(iv pv:Value)(ps:List (Option Nat))(fP:List gj)(pl:List Nat)(w:World)(hO:Own (Zg hb n iv pv fP ps pl) w)(hS:Hp n fP pl)(hP:js n ps pl)(hOr:Ord fP)(i:Nat)(hi:i<n)(h0:fM pl i=0)(key:Int)(hk:ij .i64 key) :
 CR ya 110 (Z2 hb i key) w (fun r w' => r = .int .i64 0/\∃ jv qs ys zl,Hp n ys zl/\js n qs zl/\Ord ys/\(∀ e,e∈ys↔e∈fP\/e=⟨i,key⟩)/\qs.length=ps.length/\ys.length=fP.length+1/\gm (Zg hb n iv pv fP ps pl) w w' (Zg hb n jv pv ys qs zl)):=by
 have hnn:=hP.n
 have hln:=hS.len
 have hvi:=hP.val i
 have hS9:=hS.push hi h0 hk
 have hlen1:fP.length+1<=n:=by have h7:=hS9.len;simpa using h7
 refine en Tryz.func110 Tryz.ntmps110 ?_
 have hst0:=(y8 hO).unpack
 have f:=yc [_,_,_,_] _ hst0
 refine gf hst0 10 ?_
 refine cl Ac (zH hb n iv pv ps fP pl w (yd f (i:=0) rfl)) ?_
 rintro _ u ⟨rfl,ht⟩
 have g:=(yp f ht)
 have h:=yc [_,_,_,_] _ g
 refine fQ g 9 ?_
 refine cl IW (IA hb n iv pv ps fP pl u (yd h (i:=0) rfl) i o_) ?_
 rintro _ y ⟨rfl,ht⟩
 have j:=(yp h ht)
 have k:=yc [_,_,_,_] _ j
 refine fQ j 9 ?_
 refine cl IV (Hq hb n iv pv ps fP pl y (yd k (i:=0) rfl) hP i o_) ?_
 rintro _ J ⟨rfl,ht⟩
 have c:=(yp k ht)
 refine cmp rfl rfl rfl (vT o_) (fQ c 13 ?_)
 refine mY (m:=fP.length) 1 rfl rfl yn c rfl (fQ c 12 ?_)
 refine kf (pvs:=[(0,(Za i)),(1,(Za key))]) (v:=.agg (qO i key)) rfl rfl (jS [(0,(Ze i)),(1,(Ze key))] iw O5 rfl ⟨rfl,rfl,rfl,rfl,trivial⟩ rfl) (lC (vs:=[(rG i key)]) (cs:=(Zi i key)) rfl rfl yn iw rfl (by simp[Value.cells]) rfl rfl rfl c (fun z K L M l=>mZ (cf:=gj.cells) (ys:=fP) (zs:=[(⟨i,key⟩:gj)]) (LL:=fun a=>[row (Zy z) 111 2 1 ((Zi i key)),blk hb 262 (oJ hb n iv pv),fV gj.cells a 111 2 (fP++[(⟨i,key⟩:gj)]),fV gN pv 277 1 ps,gG gP 279 64 ps pl]) 2 rfl rfl rfl yn iw rfl d_ l rfl (mh l (i:=0) rfl) (fun x hx=>zz.1 (show List.all _ _=true from rfl) x hx) (by simp only[zk,zq];omega) (by simp only[zk,zq];omega) f_ ?_))
 intro a N A O
 have d:=yi [1,2,3,4] A
 refine fQ d 2 ?_
 refine nq (L' := (tM hb n a pv (fP++[(⟨i,key⟩:gj)]) ps pl)) 0 rfl rfl rfl (cells_one (mS d (i:=1) rfl)) uG rfl (oW (mS d (i:=1) rfl) uJ) d rfl rfl rfl rfl ?_
 intro B o
 have p:=yc [_,_,_,_] _ o
 refine fQ o 7 ?_
 refine cl EE (D0 hb n a pv ps (fP++[(⟨i,key⟩:gj)]) pl B (yd p (i:=0) rfl) hP i hi (fP.length:Int) (fP.length+1) o_ o_) ?_
 rintro _ C ⟨rfl,ps2₁,D,hP2₁,ht⟩
 have q:=(yp p ht)
 have hP9:=hP2₁
 have s:=yc [_,_,_,_] _ q
 refine fQ q 6 ?_
 refine cl Ot (LW hb n a pv ps2₁ (fP++[(⟨i,key⟩:gj)]) (iV pl i (fP.length+1)) C (yd s (i:=0) rfl) hS9 hP9 fP.length (by first|omega|(simp only[gJ,zn,zk,zq];omega)) (VH hOr _)) ?_
 rintro _ P ⟨rfl,E,G,H,b,I,ht⟩
 have t:=(yp s ht)
 refine fW t 8 ?_
 refine gw (v:=Zc) Tryz.results110 rfl ?_
 exact⟨rfl,a,E,G,H,b.hp,b.kG,I,fun e=>(b.mem e).trans s_,by rw[b.oF,D],by rw[b.len];simp,yq (yc [_,_,_,_] _ t)⟩
theorem Tw(hb n:Nat)(iv pv:Value)(ps:List (Option Nat))(fP:List gj)(pl:List Nat)(w:World)(hO:Own (Zg hb n iv pv fP ps pl) w)(hS:Hp n fP pl)(hP:js n ps pl)(i:Nat)(hi:i<n)(p:Nat)(hp:fM pl i=p+1)(key:Int) :
 CR ya 110 (Z2 hb i key) w (fun r w' => r = .int .i64 6/\gm (Zg hb n iv pv fP ps pl) w w' (Zg hb n iv pv fP ps pl)):=by
 have hnn:=hP.n
 have hln:=hS.len
 have hvi:=hP.val i
 refine en Tryz.func110 Tryz.ntmps110 ?_
 have hst0:=(y8 hO).unpack
 have a:=yc [_,_,_,_] _ hst0
 refine gf hst0 10 ?_
 refine cl Ac (zH hb n iv pv ps fP pl w (yd a (i:=0) rfl)) ?_
 rintro _ g ⟨rfl,ht⟩
 have b:=(yp a ht)
 have c:=yc [_,_,_,_] _ b
 refine fQ b 9 ?_
 refine cl IW (IA hb n iv pv ps fP pl g (yd c (i:=0) rfl) i o_) ?_
 rintro _ h ⟨rfl,ht⟩
 have d:=(yp c ht)
 have e:=yc [_,_,_,_] _ d
 refine fQ d 9 ?_
 refine cl IV (Hq hb n iv pv ps fP pl h (yd e (i:=0) rfl) hP i o_) ?_
 rintro _ j ⟨rfl,ht⟩
 have f:=(yp e ht)
 refine cmp rfl rfl rfl (Fk o_) (fW f 12 ?_)
 refine gw (v:=(.int .i64 6)) Tryz.results110 rfl ?_
 exact⟨rfl,yq (yc [_,_,_,_] _ f)⟩
theorem U6(hb n:Nat)(iv pv:Value)(ps:List (Option Nat))(fP:List gj)(pl:List Nat)(w:World)(hO:Own (Zg hb n iv pv fP ps pl) w)(hS:Hp n fP pl)(hP:js n ps pl)(hOr:Ord fP)(p:Nat)(hp:p<fP.length) :
 CR ya 154 (Zn hb p) w (fun r w' => r = .tuple #[]/\∃ jv qs ys zl,Hp n ys zl/\js n qs zl/\Ord ys/\(∀ e,e∈ys↔e∈fP/\e.ix≠(fM fP p).ix)/\qs.length=ps.length/\ys.length+1=fP.length/\gm (Zg hb n iv pv fP ps pl) w w' (Zg hb n jv pv ys qs zl)):=by
 have hnn:=hP.n
 have hln:=hS.len
 obtain⟨k,hk⟩:∃ k,fP.length=k+1:=⟨fP.length-1,o_⟩
 have hsw:=hS.swap hp (show k<fP.length by omega)
 have hsl:=mI fP p k
 have hct:=hsw.cut (m:=k) o_
 have hmm:=fun e=>(Wt hsw (m:=k) o_ e)
 have hsk:fM (iD fP p k) k=fM fP p:=by rw[zL hp o_,if_pos rfl]
 have htl:((iD fP p k).take k).length=k:=by rw[l5];omega
 refine en Tryz.func154 Tryz.ntmps154 ?_
 have hst0:=(y8 hO).unpack
 refine gf hst0 6 ?_
 refine mY (m:=fP.length) 1 rfl rfl yn hst0 rfl (ar (e:=(k:Int)) rfl rfl rfl rfl (by rw[iZ o_];omega) ?_)
 have g:=yc [_,_,_,_] _ hst0
 refine fQ hst0 8 ?_
 refine cl I5 (HU hb n iv pv ps fP pl w (yd g (i:=0) rfl) hS hP p k hp o_) ?_
 rintro _ u ⟨rfl,v,j,x,ht⟩
 have a:=(yp g ht)
 refine fQ a 10 ?_
 refine jj (cf:=gj.cells) (k:=k) (i:=(k:Int)) rfl rfl rfl yn iw (yf a (i:=1) rfl f_) o_ o_ (gA om) (Bb (cf:=gj.cells) (off:=0) (off' := 0) rfl rfl yr rfl gn rfl (yf a (i:=1) rfl f_) (gA om) (l6 (cf:=gj.cells) rfl rfl ye rfl (yf a (i:=1) rfl f_) (gA om) rfl ?_))
 have o:=yc [_,_,_,_] _ a
 refine cl EE (D0 hb n iv pv v (iD fP p k) (iV (iV pl (fM (iD fP p k) p).ix (p+1)) (fM (iD fP p k) k).ix (k+1)) u (yd o (i:=0) rfl) x ((fM (iD fP p k) k).ix) (hsw.ix k o_) (-1) 0 o_ o_) ?_
 rintro _ y ⟨rfl,ps2₁,q,hP2₁,ht⟩
 have f:=(yp o ht)
 have hP9:=hP2₁
 refine fQ f 10 ?_
 refine slV (l:=0) (h:=k) rfl rfl yn iw (yf (cf:=gj.cells) f (i:=1) rfl f_) rfl ⟨_,gD o_⟩ o_ o_ ?_
 have d:St _ [blk hb 262 (oJ hb n iv pv),fV gj.cells (nN 2 iv 0 k) 111 2 ((iD fP p k).take k),fV gN pv 277 1 ps2₁,gG gP 279 64 ps2₁ (iV (iV (iV pl (fM (iD fP p k) p).ix (p+1)) (fM (iD fP p k) k).ix (k+1)) ((fM (iD fP p k) k).ix) 0)] y:=St.Xg f (i:=1) rfl f_ o_
 refine fQ d 2 ?_
 refine nq (L' := (tM hb n (nN 2 iv 0 k) pv ((iD fP p k).take k) ps2₁ (iV (iV (iV pl (fM (iD fP p k) p).ix (p+1)) (fM (iD fP p k) k).ix (k+1)) ((fM (iD fP p k) k).ix) 0))) 0 rfl rfl rfl (cells_one (mS d (i:=1) rfl)) uG rfl (oW (mS d (i:=1) rfl) uJ) d rfl rfl rfl rfl (fun z b=>fQ b 6 ?_)
 by_cases E:((p:Int):Int)<((k:Int):Int)
 . have s:=yc [_,_,_,_] _ b
   refine fQ b 7 ?_
   refine cl Ot (LW hb n (nN 2 iv 0 k) pv ps2₁ ((iD fP p k).take k) (iV (iV (iV pl (fM (iD fP p k) p).ix (p+1)) (fM (iD fP p k) k).ix (k+1)) ((fM (iD fP p k) k).ix) 0) z (yd s (i:=0) rfl) hct hP9 p (by first|omega|(simp only[gJ,zn,zk,zq];omega)) (hOr.cut hk o_)) ?_
   rintro _ G ⟨rfl,A,B,C,c,D,ht⟩
   have t:=(yp s ht)
   refine fW t 1 ?_
   refine jA Tryz.results154 ?_
   exact⟨rfl,(nN 2 iv 0 k),A,B,C,c.hp,c.kG,D,fun e=>(c.mem e).trans (by rw[hmm e,Hr hp o_,hsk]),by rw[c.oF,q,j],by rw[c.len,htl];omega,yq (yc [_,_,_,_] _ t)⟩
 . refine fW b 5 ?_
   refine jA Tryz.results154 ?_
   have hpk:p=k:=by omega
   exact⟨rfl,(nN 2 iv 0 k),ps2₁,((iD fP p k).take k),iV (iV (iV pl (fM (iD fP p k) p).ix (p+1)) (fM (iD fP p k) k).ix (k+1)) ((fM (iD fP p k) k).ix) 0,hct,hP9,by subst hpk;rw[UA hp];exact hOr.Xi o_,fun e=>by rw[hmm e,Hr hp o_,hsk],by rw[q,j],by rw[htl];omega,yq (yc [_,_,_,_] _ b)⟩
theorem Nh(hb n:Nat)(iv pv:Value)(ps:List (Option Nat))(fP:List gj)(pl:List Nat)(w:World)(hO:Own (Zg hb n iv pv fP ps pl) w)(hS:Hp n fP pl)(hP:js n ps pl)(h0:fP.length=0) :
 CR ya 90 (Zl hb) w (fun r w' => r = .tuple CS/\gm (Zg hb n iv pv fP ps pl) w w' (Zg hb n iv pv fP ps pl)):=by
 refine en Tryz.func90 Tryz.ntmps90 ?_
 have hst0:=(y8 hO).unpack
 refine gf hst0 2 ?_
 refine al (cs:=Z5) rfl iw rfl hst0 ?_
 intro g e h j b
 have f:=yi [1,2,3,4,0] b
 have c:=yc [_,_,_,_] _ f
 refine fQ b 7 ?_
 refine cl Ac (zH hb n iv pv ps fP pl e (yd c (i:=0) rfl)) ?_
 rintro _ k ⟨rfl,ht⟩
 have a:=(yp c ht)
 refine fQ a 6 ?_
 refine mY (m:=fP.length) 1 rfl rfl yn a rfl (cmp rfl rfl rfl (tD o_) (fQ a 6 ?_))
 refine kf (pvs:=[]) (v:=.agg #[Zc,Zc]) rfl rfl (jS [] iw O5 rfl trivial rfl) (mR a 6 fun l d=>?_)
 refine rz (v:=Kt) (v' := Zq) Tryz.results90 (qj (cs:=Z5) rfl yr rfl iw rfl (kT d (i:=4) (o:=0) (vs:=Z5) rfl rfl)) (nU rfl) ?_
 exact⟨rfl,yq (yc [_,_,_,_] _ d)⟩
theorem M3(hb n:Nat)(iv pv:Value)(ps:List (Option Nat))(fP:List gj)(pl:List Nat)(w:World)(hO:Own (Zg hb n iv pv fP ps pl) w)(hS:Hp n fP pl)(hP:js n ps pl)(h0:0<fP.length) :
 CR ya 90 (Zl hb) w (fun r w' => r = .tuple (C0 ((fM fP 0).ix:Int) ((fM fP 0).key))/\gm (Zg hb n iv pv fP ps pl) w w' (Zg hb n iv pv fP ps pl)):=by
 refine en Tryz.func90 Tryz.ntmps90 ?_
 have hst0:=(y8 hO).unpack
 refine gf hst0 2 ?_
 refine al (cs:=Z5) rfl iw rfl hst0 ?_
 intro g e h j b
 have f:=yi [1,2,3,4,0] b
 have c:=yc [_,_,_,_] _ f
 refine fQ b 7 ?_
 refine cl Ac (zH hb n iv pv ps fP pl e (yd c (i:=0) rfl)) ?_
 rintro _ l ⟨rfl,ht⟩
 have a:=(yp c ht)
 refine fQ a 6 ?_
 refine mY (m:=fP.length) 1 rfl rfl yn a rfl (cmp rfl rfl rfl (Ca o_) (fQ a 12 ?_))
 refine jj (cf:=gj.cells) (k:=0) (i:=0) rfl rfl rfl yn iw (yf a (i:=1) rfl f_) o_ o_ (gA om) (sj (cf:=gj.cells) (cs:=(Zi ((fM fP 0).ix:Int) ((fM fP 0).key))) rfl rfl yr rfl iw (yf a (i:=1) rfl f_) (gA om) rfl rfl (mR a 5 fun p d=>?_))
 refine rz (v:=(rG ((fM fP 0).ix:Int) ((fM fP 0).key))) (v' := Zf) Tryz.results90 (qj (cs:=(Zi ((fM fP 0).ix:Int) ((fM fP 0).key))) rfl yr rfl iw rfl (kT d (i:=4) (o:=0) (vs:=(Zi ((fM fP 0).ix:Int) ((fM fP 0).key))) rfl rfl)) (nU rfl) ?_
 exact⟨rfl,yq (yc [_,_,_,_] _ d)⟩
theorem VU(hb n:Nat)(iv pv:Value)(ps:List (Option Nat))(fP:List gj)(pl:List Nat)(w:World)(hO:Own (Zg hb n iv pv fP ps pl) w)(hS:Hp n fP pl)(hP:js n ps pl)(hOr:Ord fP)(h0:0<fP.length) :
 CR ya 103 (Zl hb) w (fun r w' => r = .tuple (C0 ((fM fP 0).ix:Int) ((fM fP 0).key))/\∃ jv qs ys zl,Hp n ys zl/\js n qs zl/\Ord ys/\(∀ e,e∈ys↔e∈fP/\e.ix≠(fM fP 0).ix)/\qs.length=ps.length/\ys.length+1=fP.length/\gm (Zg hb n iv pv fP ps pl) w w' (Zg hb n jv pv ys qs zl)):=by
 refine en Tryz.func103 Tryz.ntmps103 ?_
 have hst0:=(y8 hO).unpack
 refine gf hst0 2 ?_
 refine al (cs:=Z5) rfl iw rfl hst0 ?_
 intro x g y z a
 have h:=yi [1,2,3,4,0] a
 have b:=yc [_,_,_,_] _ h
 refine fQ a 6 ?_
 refine cl Ah (M3 hb n iv pv ps fP pl g (yd b (i:=0) rfl) hS hP h0) ?_
 rintro _ A ⟨rfl,ht⟩
 have c:=(yp b ht)
 refine fQ c 3 ?_
 refine al (cs:=Z5) rfl iw rfl c (fun B C D E j=>kL j 13 fun k l=>?_)
 have m:=yi [1,2,3,4,0,5] l
 have d:=yc [_,_,_,_] _ m
 refine cl Yj (U6 hb n iv pv ps fP pl k (yd d (i:=0) rfl) hS hP hOr 0 h0) ?_
 rintro _ G ⟨rfl,p,q,s,t,a1₁,a2₁,a3₁,a4₁,a5₁,a6₁,ht⟩
 have u:=(yp d ht)
 refine mR u 11 fun H f=>?_
 refine rz (v:=(rG ((fM fP 0).ix:Int) ((fM fP 0).key))) (v' := Zf) Tryz.results103 (qj (cs:=(Zi ((fM fP 0).ix:Int) ((fM fP 0).key))) rfl yr rfl iw rfl (kT f (i:=5) (o:=0) (vs:=(Zi ((fM fP 0).ix:Int) ((fM fP 0).key))) rfl rfl)) (nU rfl) ?_
 exact⟨rfl,p,q,s,t,a1₁,a2₁,a3₁,a4₁,a5₁,a6₁,yq (yc [_,_,_,_] _ f)⟩
theorem VP(hb n:Nat)(iv pv:Value)(ps:List (Option Nat))(fP:List gj)(pl:List Nat)(w:World)(hO:Own (Zg hb n iv pv fP ps pl) w)(hS:Hp n fP pl)(hP:js n ps pl)(h0:fP.length=0) :
 CR ya 103 (Zl hb) w (fun r w' => r = .tuple CS/\gm (Zg hb n iv pv fP ps pl) w w' (Zg hb n iv pv fP ps pl)):=by
 refine en Tryz.func103 Tryz.ntmps103 ?_
 have hst0:=(y8 hO).unpack
 refine gf hst0 2 ?_
 refine al (cs:=Z5) rfl iw rfl hst0 ?_
 intro j e k l a
 have f:=yi [1,2,3,4,0] a
 have b:=yc [_,_,_,_] _ f
 refine fQ a 6 ?_
 refine cl Ah (Nh hb n iv pv ps fP pl e (yd b (i:=0) rfl) hS hP h0) ?_
 rintro _ m ⟨rfl,ht⟩
 have c:=(yp b ht)
 refine fQ c 3 ?_
 refine al (cs:=Z5) rfl iw rfl c (fun p q s t g=>mR g 22 fun u d=>?_)
 refine rz (v:=Kt) (v' := Zq) Tryz.results103 (qj (cs:=Z5) rfl yr rfl iw rfl (kT d (i:=5) (o:=0) (vs:=Z5) rfl rfl)) (nU rfl) ?_
 have h:=yi [1,2,3,4,0,5] d
 exact⟨rfl,yq (yc [_,_,_,_] _ h)⟩
end
section
open Go Go.Sx
theorem Md(v:Value)(xs:List gj)(w:World)(hv:jx 2 gj.cells (fun _=>True) w v xs)(hl0:xs.length<=1000000) :
 CR ya 150 #[v] w (fun r w' => pQ 2 gj.cells w w' r 111 xs/\gB [] w w'):=by
 refine en Tryz.func150 Tryz.ntmps150 ?_
 have hst0:=jO w
 refine gf hst0 9 ?_
 refine Ek (v:=v) rfl rfl rfl yn hv (gL hst0 2 ?_)
 cases e:(xW v:Bool)
 . skip
   refine gf hst0 5 ?_
   refine lC (vs:=[]) (cs:=[]) rfl rfl yn iw rfl (by intro v hv;simp at hv) rfl rfl rfl hst0 ?_
   intro f g h i c
   have d:=c
   refine fQ c 1 ?_
   refine mZ (cf:=gj.cells) (ys:=[]) (zs:=xs) (LL:=fun a=>[fV gj.cells a 111 2 xs]) 0 rfl rfl rfl yn iw rfl d_ d rfl (jx.src (lZ d s_ d_ hv) f_) (zM f_ _) (by simp only[zq];omega) (by simp only[zq];omega) f_ (fun a j b k=>fW b 4 ?_)
   refine gw (v:=a) Tryz.results150 rfl ?_
   exact⟨AQ b s_,b.gK s_⟩
 . skip
   refine jm hst0 8 ?_
   refine gw (v:=Zk) Tryz.results150 rfl ?_
   obtain rfl:=DZ e hv
   exact⟨pQ.Fg, hst0.gK s_⟩
theorem W3(n:Nat)(w:World)(hn:n<=65536) :
 CR ya 82 (sM n) w (fun r w' => ∃ hb pv,r = .tuple (qS hb)/\gm (gF []) w w' (gF [blk hb 262 [(Zb hb),(Za n),Zk,pv],fV gj.cells Zk 111 2 ([]),fV gN pv 277 1 (List.replicate ((n+63) / 64) none),gG gP 279 64 (List.replicate ((n+63) / 64) none) (List.replicate (64*((n+63) / 64)) 0)])):=by
 refine en Tryz.func82 Tryz.ntmps82 ?_
 have hst0:=jO w
 refine gf hst0 10 ?_
 refine cmp rfl rfl rfl (mL o_) (fQ hst0 2 ?_)
 refine cmp rfl rfl rfl (uA o_) (fQ hst0 10 ?_)
 refine ar (e:=((n+64:Nat):Int)) rfl rfl rfl rfl (by rw[iZ o_];omega) (ar (e:=((n+63:Nat):Int)) rfl rfl rfl rfl (by rw[iZ o_];omega) (quo (a:=((n+63:Nat):Int)) (b:=64) (e:=(((n+63) / 64:Nat):Int)) rfl rfl rfl d_ (we 64 o_) (E4 (cf:=gN) (z0:=none) (m:=((n+63) / 64)) (c:=((n+63) / 64)) rfl rfl rfl o7 qy rfl f_ d_ (zp _) o_ o_ hst0 (fun d s t u j=>kf (pvs:=[(1,(Za n)),(3,(Zv d ((n+63) / 64)))]) (v:=.agg (Q4 n d ((n+63) / 64))) rfl rfl (jS [(1,(Ze n)),(3,(F9 d ((n+63) / 64)))] EV OY rfl ⟨rfl,rfl,rfl,rfl,trivial⟩ rfl) (bx (v:=(.agg (Q4 n d ((n+63) / 64)))) (cs:=[Z6,(Za n),Zk,(Zv d ((n+63) / 64))]) rfl rfl rfl j (fun f x y z k=>kL k 14 fun g l=>?_))))))
 have o:=St.Ei (cf:=gN) l (i:=1) rfl f_ (zp _) (by simp only[maxLen];omega)
 have p:St _ [gG gP 279 64 (List.replicate ((n+63) / 64) none) (List.replicate (64*((n+63) / 64)) 0),blk f 262 (QK f n d ((n+63) / 64)),fV gN (Zv d ((n+63) / 64)) 277 1 (List.replicate ((n+63) / 64) none)] g:=St.Ez o ((n+63) / 64)
 have h:St _ [fV gj.cells Zk 111 2 ([]),gG gP 279 64 (List.replicate ((n+63) / 64) none) (List.replicate (64*((n+63) / 64)) 0),blk f 262 (QK f n d ((n+63) / 64)),fV gN (Zv d ((n+63) / 64)) 277 1 (List.replicate ((n+63) / 64) none)] g:=sI p 111 2
 refine fW h 6 ?_
 refine jU (v:=(Zb f)) (v' := Zc) Tryz.results82 rfl rfl ?_
 have q:=yi [2,0,3,1] h
 exact⟨f,(Zv d ((n+63) / 64)),rfl,St.eM (yc [_,_,_,_] [] q)⟩
abbrev WG:List (List Nat):=[[],[0],[0,1],[0,1,2],[],[4],[4,5],[4,5,6],[4,5,6,7],[],[9],[9,10],[9,10,11],[9,10,11,12],[9,10,11,12,13],[0,1,2,3,4,5,6,7,8,9,10,11,12,13,14],[0,1,2,3,4,5,6,7,8,9,10,11,12,13,14,15],[0,1,2,3,4,5,6,7,8,9,10,11,12,13,14,15,16]]
theorem Vv(hb n:Nat)(iv pv:Value)(ps:List (Option Nat))(fP:List gj)(pl:List Nat)(w:World)(hO:Own (Zg hb n iv pv fP ps pl) w)(hS:Hp n fP pl)(hP:js n ps pl) :
 CR ya 96 (Zl hb) w (fun r w' => ∃ hb2 iv2 pv2 qs,r = .pointer (some ⟨hb2,0,none⟩)/\js n qs pl/\qs.length=ps.length/\gm (Zg hb n iv pv fP ps pl) w w' (gF [blk hb 262 (oJ hb n iv pv),fV gj.cells iv 111 2 fP,fV gN pv 277 1 ps,gG gP 279 64 ps pl,blk hb2 262 (oJ hb2 n iv2 pv2),fV gj.cells iv2 111 2 fP,fV gN pv2 277 1 qs,gG gP 279 64 qs pl])):=by
 have hnn:=hP.n
 have hln:=hS.len
 have hpll:=hP.len
 have hpr:=hP.room
 have hpsl:=hP.top
 refine enter (vs:=(Zj hb)) Tryz.func96 rfl Tryz.ntmps96 rfl ?_
 have hst0:=(y8 hO).unpack
 have z:=yc [_,_,_,_] _ hst0
 refine gf hst0 9 ?_
 refine zA (vl:=(Zj hb)) rfl rfl Ac (zH hb n iv pv ps fP pl w (yd z (i:=0) rfl)) ?_
 rintro _ O ⟨rfl,ht⟩
 have s:=(St.v7 (R' := (Zg hb n iv pv fP ps pl)) 0 z rfl ht rfl).unpack
 refine gL s 7 ?_
 refine PY (Γ:=Value×Nat×Nat) mixed WG [8,14,16] k_ [fun(d,e,g)=>(Zb hb),fun(d,e,g)=>(Zb hb),fun(d,e,g)=>(Bo hb),fun(d,e,g)=>(Za n),fun(d,e,g)=>(Zb hb),fun(d,e,g)=>(Zb hb),fun(d,e,g)=>(qh hb),fun(d,e,g)=>iv,fun(d,e,g)=>d,fun(d,e,g)=>(Zb hb),fun(d,e,g)=>(Zb hb),fun(d,e,g)=>(yT hb),fun(d,e,g)=>pv,fun(d,e,g)=>(Za ps.length),fun(d,e,g)=>(Zv e ps.length),fun(d,e,g)=>(Ki n d e ps.length),fun(d,e,g)=>(Zb g),fun(d,e,g)=>(Zb g)] [([],(fun(d,e,g)=>(tM hb n iv pv fP ps pl),fun _ _=>True)),([8],(fun(d,e,g)=>[fV gj.cells d 111 2 fP,blk hb 262 (oJ hb n iv pv),fV gj.cells iv 111 2 fP,fV gN pv 277 1 ps,gG gP 279 64 ps pl],fun _ _=>True)),([14],(fun(d,e,g)=>[blk e 277 ((List.replicate ps.length none).flatMap gN),blk hb 262 (oJ hb n iv pv),fV gj.cells iv 111 2 fP,fV gN pv 277 1 ps,gG gP 279 64 ps pl],fun _ _=>True)),([8,14],(fun(d,e,g)=>[blk e 277 ((List.replicate ps.length none).flatMap gN),fV gj.cells d 111 2 fP,blk hb 262 (oJ hb n iv pv),fV gj.cells iv 111 2 fP,fV gN pv 277 1 ps,gG gP 279 64 ps pl],fun _ _=>True)),([8,14,16],(fun(d,e,g)=>[blk g 262 (Qh n d e ps.length),blk e 277 ((List.replicate ps.length none).flatMap gN),fV gj.cells d 111 2 fP,blk hb 262 (oJ hb n iv pv),fV gj.cells iv 111 2 fP,fV gN pv 277 1 ps,gG gP 279 64 ps pl],fun _ _=>True))] (Zk,0,0) (fun(d,e,g)=>(3,(Zb g)) :: (26,(Zb g)) :: (25,(Ki n d e ps.length)) :: (24,(Zv e ps.length)) :: (23,(Za ps.length)) :: (22,pv) :: (21,(yT hb)) :: (20,(Zb hb)) :: (19,(Zb hb)) :: (18,d) :: (17,iv) :: (16,(qh hb)) :: (15,(Zb hb)) :: (14,(Zb hb)) :: (13,(Za n)) :: (12,(Bo hb)) :: (11,(Zb hb)) :: (10,(Zb hb)) :: _) rfl s (fun _ _=>trivial) ?_ (fun(d,e,g)=>rfl) rfl ?_
 . skip
   refine nv rfl (fun(d,e,g) _ _=>qv rfl rfl (iy (v:=(Zb hb)) rfl)) (nv rfl (fun(d,e,g) _ _=>qv rfl rfl (j6 (a:=⟨hb,0,none⟩) rfl)) (nv rfl (fun(d,e,g) _ _=>qv rfl rfl (jy (o:=0) (o' := 1) rfl vj rfl gn rfl)) (Ag rfl ⟨(fun(d,e,g) wq hM hF=>qv rfl rfl (gU (a:=⟨hb,1,none⟩) (v:=(Za n)) rfl ye rfl (yo hM (i:=0) rfl rfl))),(fun(d,e,g) wq hM hF=>qv rfl rfl (gU (a:=⟨hb,1,none⟩) (v:=(Za n)) rfl ye rfl (yo hM (i:=1) rfl rfl))),(fun(d,e,g) wq hM hF=>qv rfl rfl (gU (a:=⟨hb,1,none⟩) (v:=(Za n)) rfl ye rfl (yo hM (i:=1) rfl rfl))),(fun(d,e,g) wq hM hF=>qv rfl rfl (gU (a:=⟨hb,1,none⟩) (v:=(Za n)) rfl ye rfl (yo hM (i:=2) rfl rfl))),trivial,trivial⟩ (nv rfl (fun(d,e,g) _ _=>qv rfl rfl (iy (v:=(Zb hb)) rfl)) (nv rfl (fun(d,e,g) _ _=>qv rfl rfl (j6 (a:=⟨hb,0,none⟩) rfl)) (nv rfl (fun(d,e,g) _ _=>qv rfl rfl (jy (o:=0) (o' := 2) rfl vj rfl uG rfl)) (Ag rfl ⟨(fun(d,e,g) wq hM hF=>qv rfl rfl (gU (a:=⟨hb,2,none⟩) (v:=iv) rfl yn rfl (yo hM (i:=0) rfl rfl))),trivial,(fun(d,e,g) wq hM hF=>qv rfl rfl (gU (a:=⟨hb,2,none⟩) (v:=iv) rfl yn rfl (yo hM (i:=1) rfl rfl))),trivial,trivial,trivial⟩ ?_)))))))
   refine Al rfl ⟨⟨_,_,rfl,fun(d,e,g) wq hM hF=>kD rfl rfl (i6 (vl:=[iv]) rfl OR) (Md iv fP wq (yf hM (i:=1) rfl f_).any (by first|omega|(simp;omega))) (fun t _ hz=>⟨(t,e,g),⟨(uT hM hz.2 hz.1),trivial⟩,rfl,fS rfl (fS rfl (fS rfl (fS rfl (fS rfl (fS rfl (fS rfl (fS rfl (fS trivial (fS rfl (fS rfl (fS rfl (fS rfl (fS rfl (fS rfl (fS trivial (fS trivial (fS trivial (kO))))))))))))))))))⟩)⟩,trivial,⟨_,_,rfl,fun(d,e,g) wq hM hF=>kD rfl rfl (i6 (vl:=[iv]) rfl OR) (Md iv fP wq (yf hM (i:=2) rfl f_).any (by first|omega|(simp;omega))) (fun t _ hz=>⟨(t,e,g),⟨(oH (uT hM hz.2 hz.1) (List.Perm.swap _ _ _)),trivial⟩,rfl,fS rfl (fS rfl (fS rfl (fS rfl (fS rfl (fS rfl (fS rfl (fS rfl (fS trivial (fS rfl (fS rfl (fS rfl (fS rfl (fS rfl (fS rfl (fS trivial (fS trivial (fS trivial (kO))))))))))))))))))⟩)⟩,trivial,trivial,trivial⟩ (nv rfl (fun(d,e,g) _ _=>qv rfl rfl (iy (v:=(Zb hb)) rfl)) (nv rfl (fun(d,e,g) _ _=>qv rfl rfl (j6 (a:=⟨hb,0,none⟩) rfl)) (nv rfl (fun(d,e,g) _ _=>qv rfl rfl (jy (o:=0) (o' := 3) rfl vj rfl JN rfl)) (Ag rfl ⟨(fun(d,e,g) wq hM hF=>qv rfl rfl (gU (a:=⟨hb,3,none⟩) (v:=pv) rfl o7 rfl (yo hM (i:=0) rfl rfl))),(fun(d,e,g) wq hM hF=>qv rfl rfl (gU (a:=⟨hb,3,none⟩) (v:=pv) rfl o7 rfl (yo hM (i:=1) rfl rfl))),trivial,trivial,trivial,trivial⟩ (nv rfl (fun(d,e,g) _ _=>qv rfl rfl (qp (v:=pv) rfl o7 (yf (cf:=gN) s (i:=2) rfl f_))) (Al rfl ⟨⟨_,_,rfl,fun(d,e,g) wq hM hF=>Ou (cf:=gN) (z0:=none) (m:=ps.length) (c:=ps.length) rfl rfl rfl o7 qy rfl f_ d_ (zp _) o_ o_ hM (fun x _ h=>⟨(d,x,g),⟨h,trivial⟩,rfl,fS rfl (fS rfl (fS rfl (fS rfl (fS rfl (fS rfl (fS rfl (fS rfl (fS rfl (fS rfl (fS rfl (fS rfl (fS rfl (fS rfl (fS trivial (fS trivial (fS trivial (fS trivial (kO))))))))))))))))))⟩)⟩,⟨_,_,rfl,fun(d,e,g) wq hM hF=>Ou (cf:=gN) (z0:=none) (m:=ps.length) (c:=ps.length) rfl rfl rfl o7 qy rfl f_ d_ (zp _) o_ o_ hM (fun x _ h=>⟨(d,x,g),⟨h,trivial⟩,rfl,fS rfl (fS rfl (fS rfl (fS rfl (fS rfl (fS rfl (fS rfl (fS rfl (fS rfl (fS rfl (fS rfl (fS rfl (fS rfl (fS rfl (fS trivial (fS trivial (fS trivial (fS trivial (kO))))))))))))))))))⟩)⟩,trivial,trivial,trivial,trivial⟩ (Ag rfl ⟨trivial,trivial,trivial,(fun(d,e,g) wq hM hF=>qv rfl rfl (xH (pvs:=[(1,(Za n)),(2,d),(3,(Zv e ps.length))]) (v:=.agg #[Z6,(Za n),d,(Zv e ps.length)]) rfl (jS [(1,(Ze n)),(2,[d]),(3,(F9 e ps.length))] EV OY rfl ⟨rfl,rfl,rfl,(cells_one (mS hM (i:=1) rfl)),rfl,rfl,trivial⟩ rfl))),trivial,trivial⟩ ?_)))))))
   refine Al rfl ⟨trivial,trivial,trivial,⟨_,_,rfl,fun(d,e,g) wq hM hF=>Fi (v:=(Ki n d e ps.length)) (cs:=(Qh n d e ps.length)) rfl rfl rfl hM (fun C _ h=>⟨(d,e,C),⟨h,trivial⟩,rfl,fS rfl (fS rfl (fS rfl (fS rfl (fS rfl (fS rfl (fS rfl (fS rfl (fS rfl (fS rfl (fS rfl (fS rfl (fS rfl (fS rfl (fS rfl (fS rfl (fS trivial (fS trivial (kO))))))))))))))))))⟩)⟩,trivial,trivial⟩ (nv rfl (fun(d,e,g) _ _=>qv rfl rfl (pV (v:=(Zb g)) rfl)) ?_)
   exact PG
 rintro⟨d,e,g⟩ P D -
 refine QN tt none D 13 fun E G=>?_
 have H:=St.Ei (cf:=gN) G (i:=1) rfl f_ (zp _) (by simp only[maxLen];omega)
 have I:St _ [gG gP 279 64 (List.replicate ps.length none) pl,blk g 262 (Gk g n d e ps.length),fV gN (Zv e ps.length) 277 1 (List.replicate ps.length none),fV gj.cells d 111 2 fP,blk hb 262 (oJ hb n iv pv),fV gj.cells iv 111 2 fP,fV gN pv 277 1 ps,gG gP 279 64 ps pl] E:=St.Ez H ps.length
 have p:=yi [4,5,6,7,1,3,2,0] I
 refine fQ p 4 ?_
 refine mY (m:=ps.length) 2 rfl rfl o7 p rfl (gL p 4 ?_)
 refine lp (α:=Nat×List (Option Nat)) (fun(k,qs)=>[(3,(Zb g)),(34,pv),(35,(Za ps.length)),(36,(Za k))]) (fun(k,qs) w1=>St [(w,(Zg hb n iv pv fP ps pl).gT)] (Q3 hb n iv pv fP ps pl g d e ps.length qs) w1/\k<=ps.length/\qQ ps qs k) (fun(k,qs)=>ps.length-k) (0,(List.replicate ps.length none)) ⟨rfl,rfl,rfl,gD (by first|rfl|omega),trivial⟩ (⟨p,o_,qQ.start ps⟩) ?_
 rintro⟨k,qs⟩ Q R ⟨hst6,hk6,hC⟩
 have hkn:=hP.len
 have hql:=hC.len
 refine gf hst6 2 ?_
 by_cases S:((k:Int):Int)<((ps.length:Int):Int)
 . have hk:k<ps.length:=by omega
   refine fQ hst6 12 ?_
   refine jj (cf:=gN) (k:=k) (i:=(k:Int)) rfl rfl rfl o7 qy (yf hst6 (i:=2) rfl f_) o_ o_ (gA om) (l6 (cf:=gN) (u:=(.pointer ((fM ps k).map fun b=>⟨b,0,none⟩))) rfl rfl sN rfl (yf hst6 (i:=2) rfl f_) (gA om) rfl ?_)
   obtain⟨J,l⟩:∃ q,(fM ps k)=q:=⟨_,rfl⟩
   refine fQ hst6 7 ?_
   rcases J with _|A
   . skip
     refine qR (a:=(fM ps k).map fun b=>⟨b,0,none⟩) (c:=false) rfl rfl rfl sN (by rw[l];rfl) (fW hst6 10 ?_)
     refine tN (?_)
     exact again ((k+1),qs) ⟨rfl,rfl,rfl,gD (by first|rfl|omega),trivial⟩ (⟨hst6,o_,hC.skip ((gA hk).trans (congrArg some l))⟩) (by show (ps.length-(k+1):Nat)<ps.length-k;omega)
   . skip
     refine qR (a:=(fM ps k).map fun b=>⟨b,0,none⟩) (c:=true) rfl rfl rfl sN (by rw[l];rfl) (fQ hst6 6 ?_)
     refine si (a:=⟨A,0,none⟩) rfl (zK l) ?_
     have hcl:(((pl.drop (64*k)).take 64).flatMap gP).length=64:=L6 (cf:=gP) (sz:=1) f_ hP.len hk
     refine pH (b:=A) (o:=0) (cs:=(((pl.drop (64*k)).take 64).flatMap gP)) rfl rfl Fv rfl Cg hcl (St.M8 hst6 (i:=3) rfl ((gA hk).trans (congrArg some l))) (al (cs:=K4) rfl Cg rfl hst6 (fun j U V W K=>me (v:=.agg (((pl.drop (64*k)).take 64).flatMap gP).toArray) (vs:=(((pl.drop (64*k)).take 64).flatMap gP)) (L' := [blk j 279 (((pl.drop (64*k)).take 64).flatMap gP),blk hb 262 (oJ hb n iv pv),fV gj.cells iv 111 2 fP,fV gN pv 277 1 ps,gG gP 279 64 ps pl,blk g 262 (Gk g n d e ps.length),fV gj.cells d 111 2 fP,fV gN (Zv e ps.length) 277 1 qs,gG gP 279 64 qs pl]) 0 rfl rfl rfl rfl Cg hcl (zz.2 (zM f_ _)) K rfl (by rw[hcl];decide) (L8 (by rw[hcl];rfl)) rfl (fun X y Y=>fQ y 8 ?_)))
     refine jj (cf:=gN) (k:=k) (i:=(k:Int)) rfl rfl rfl o7 qy (yf y (i:=7) rfl f_) o_ o_ (gA om) (se (cf:=gN) (ys:=qs) (k:=k) (off:=0) (f:=(fun _=>(some j))) (u:=(Zb j)) (vs:=(Zj j)) (L' := [blk j 279 (((pl.drop (64*k)).take 64).flatMap gP),blk hb 262 (oJ hb n iv pv),fV gj.cells iv 111 2 fP,fV gN pv 277 1 ps,gG gP 279 64 ps pl,blk g 262 (Gk g n d e ps.length),fV gj.cells d 111 2 fP,fV gN (Zv e ps.length) 277 1 (fR qs k (fun _=>(some j))),gG gP 279 64 qs pl]) 7 rfl rfl rfl rfl qy rfl rfl y rfl f_ om rfl rfl rfl (fun Z B=>fW B 7 ?_))
     refine tN (?_)
     have L:=yi [0,8,1,2,3,4,5,6,7] B
     have M:=St.Oc L (hC.next hk) rfl
     have N:=yi [1,2,3,4,5,6,7,0] M
     exact again ((k+1),fR qs k (fun _=>(some j))) ⟨rfl,rfl,rfl,gD (by first|rfl|omega),trivial⟩ (⟨N,o_,hC.set hk⟩) (by show (ps.length-(k+1):Nat)<ps.length-k;omega)
 . refine fW hst6 17 ?_
   refine gw (v:=(Zb g)) Tryz.results96 rfl ?_
   exact⟨g,d,(Zv e ps.length),qs,rfl,hP.copy hC o_,hC.len,yv (R' := (gF (Q3 hb n iv pv fP ps pl g d e ps.length qs))) (yc [_,_,_,_,_,_,_,_] _ hst6) zh⟩
end
section
open Go Go.Sx
theorem vH(ab:Nat)(bv:Value)(cn cb cu cl:Int)(ps:List (Option Nat))(sl:List gM)(w:World)(hO:Own (AN ab bv cn cb cu cl ps sl) w) :
 CR ya 114 (Zl ab) w (fun r w' => r = .bool true/\gm (AN ab bv cn cb cu cl ps sl) w w' (AN ab bv cn cb cu cl ps sl)):=by
 refine en Tryz.func114 Tryz.ntmps114 ?_
 have hst0:=(y8 hO).unpack
 refine gf hst0 8 ?_
 refine qR (a:=some ⟨ab,0,none⟩) (c:=true) rfl rfl rfl Gp rfl (fQ hst0 6 ?_)
 refine Fj (a:=⟨ab,0,none⟩) rfl rfl rfl Gp ER (fW hst0 5 ?_)
 refine gw (v:=Zf) Tryz.results114 rfl ?_
 exact⟨rfl,yq (yc [_,_,_] _ hst0)⟩
theorem zZ(ab:Nat)(bv:Value)(cn cb cu cl:Int)(ps:List (Option Nat))(sl:List gM)(w:World)(hO:Own (AN ab bv cn cb cu cl ps sl) w)(i:Nat)(hi:i<=1000000)(b:Nat)(hb:ps[i / 64]? = some (some b)) :
 CR ya 152 (Zn ab i) w (fun r w' => r = .pointer (some ⟨b,i%64*3+0,none⟩)/\gm (AN ab bv cn cb cu cl ps sl) w w' (AN ab bv cn cb cu cl ps sl)):=by
 have hij:i / 64<ps.length:=(zb.1 hb).1
 refine en Tryz.func152 Tryz.ntmps152 ?_
 have hst0:=(y8 hO).unpack
 refine gf hst0 12 ?_
 refine quo (a:=(i:Int)) (b:=64) (e:=((i / 64:Nat):Int)) rfl rfl rfl d_ (we 64 o_) (jj (cf:=gN) (k:=(i / 64)) (i:=((i / 64:Nat):Int)) rfl rfl rfl wV xI (yf hst0 (i:=1) rfl f_) o_ o_ (gA om) (l6 (cf:=gN) rfl rfl Tryz.underlying270 rfl (yf hst0 (i:=1) rfl f_) (gA om) rfl (fQ hst0 1 ?_)))
 refine rem (a:=(i:Int)) (b:=64) (e:=((i%64:Nat):Int)) rfl rfl rfl d_ (Cp 64) (si rfl (zK (EW hb)) (mA (o:=0) (o' := i%64*3+0) (i:=((i%64:Nat):Int)) rfl rfl rfl Tryz.underlying274 O9 o_ (by simp only[ua];omega) (fW hst0 4 ?_)))
 refine gw (v:=(Z0 b (i%64*3+0))) Tryz.results152 rfl ?_
 exact⟨rfl,yq (yc [_,_,_] _ hst0)⟩
theorem Mm(ab:Nat)(bv:Value)(A:As)(w:World)(hO:Own (Zr ab bv A) w)(hA:A.ok)(i:Nat)(hi:i<=1000000) :
 CR ya 115 (Zn ab i) w (fun r w' => r = .int .i64 (if i<A.begun then(fM A.sl i).st else 0)/\gm (Zr ab bv A) w w' (Zr ab bv A)):=by
 refine en Tryz.func115 Tryz.ntmps115 ?_
 have hst0:=(y8 hO).unpack
 refine gf hst0 13 ?_
 by_cases d:((i:Int):Int)≥((A.begun:Int):Int)
 . refine fW hst0 11 ?_
   refine gw (v:=Zc) Tryz.results115 rfl ?_
   exact⟨gD (by rw[if_neg o_]),yq (yc [_,_,_] _ hst0)⟩
 . have hib:i<A.begun:=by omega
   have hil:=(hA.room hib).1
   obtain⟨b,hb⟩:=hA.at hib
   have c:=yc [_,_,_] _ hst0
   refine fQ hst0 10 ?_
   refine cl zY (zZ ab bv (A.n:Int) (A.begun:Int) (A.used:Int) A.last A.ps A.sl w (yd c (i:=0) rfl) i o_ b hb) ?_
   rintro _ e ⟨rfl,ht⟩
   have a:=(yp c ht)
   refine fQ a 1 ?_
   refine fa (o' := i%64*3+0) rfl rfl oI rfl gn (by simp only[ko];rfl) (ld rfl rfl ye rfl (Bg a (i:=2) rfl f_ d_ hil hb rfl) (fW a 4 ?_))
   refine gw (v:=(Za ((fM A.sl i).st))) Tryz.results115 rfl ?_
   exact⟨gD (by rw[if_pos o_]),yq (yc [_,_,_] _ a)⟩
theorem WH(ab:Nat)(bv:Value)(A:As)(w:World)(hO:Own (Zr ab bv A) w)(hA:A.ok) :
 CR ya 86 (Zl ab) w (fun r w' => r = .int .i64 (A.used:Int)/\gm (Zr ab bv A) w w' (Zr ab bv A)):=by
 refine en Tryz.func86 Tryz.ntmps86 ?_
 have hst0:=(y8 hO).unpack
 have a:=yc [_,_,_] _ hst0
 refine gf hst0 9 ?_
 refine cl vP (vH ab bv (A.n:Int) (A.begun:Int) (A.used:Int) A.last A.ps A.sl w (yd a (i:=0) rfl)) ?_
 rintro _ c ⟨rfl,ht⟩
 have b:=(yp a ht)
 refine fW b 16 ?_
 refine gw (v:=(Za A.used)) Tryz.results86 rfl ?_
 exact⟨rfl,yq (yc [_,_,_] _ b)⟩
theorem TH(ab:Nat)(bv:Value)(A:As)(w:World)(hO:Own (Zr ab bv A) w)(hA:A.ok)(i:Nat)(hl:A.last=(i:Int)) :
 CR ya 156 (Zl ab) w (fun r w' => r = .tuple (Kq i)/\gm (Zr ab bv A) w w' (Zr ab bv A)):=by
 refine en Tryz.func156 Tryz.ntmps156 ?_
 have hst0:=(y8 hO).unpack
 have b:=yc [_,_,_] _ hst0
 refine gf hst0 11 ?_
 refine cl vP (vH ab bv (A.n:Int) (A.begun:Int) (A.used:Int) A.last A.ps A.sl w (yd b (i:=0) rfl)) ?_
 rintro _ c ⟨rfl,ht⟩
 have a:=(yp b ht)
 refine fQ a 11 ?_
 refine cmp rfl rfl rfl (Fk o_) (fW a 17 ?_)
 refine jU (v:=(Za A.last)) (v' := Zf) Tryz.results156 rfl rfl ?_
 exact⟨by rw[hl],yq (yc [_,_,_] _ a)⟩
theorem Ua(ab:Nat)(bv:Value)(A:As)(w:World)(hO:Own (Zr ab bv A) w)(hA:A.ok)(hl:A.last = -1)(hb:A.begun<A.n) :
 CR ya 156 (Zl ab) w (fun r w' => r = .tuple (Kq A.begun)/\gm (Zr ab bv A) w w' (Zr ab bv A)):=by
 refine en Tryz.func156 Tryz.ntmps156 ?_
 have hst0:=(y8 hO).unpack
 have b:=yc [_,_,_] _ hst0
 refine gf hst0 11 ?_
 refine cl vP (vH ab bv (A.n:Int) (A.begun:Int) (A.used:Int) A.last A.ps A.sl w (yd b (i:=0) rfl)) ?_
 rintro _ d ⟨rfl,ht⟩
 have a:=(yp b ht)
 refine fQ a 11 ?_
 refine cmp rfl rfl rfl (vT o_) (gL a 5 ?_)
 refine iR a (fun e c=>?_) (hA:=by refine' gI 8 ?k0;case k0=>refine' gq (fun wq hM=>rv (rA rfl rfl (p5 o_))) ?k1;case k1=>exact iA)
 refine iN tt none c 15 ?_
 refine jU (v:=(Za A.begun)) (v' := Zf) Tryz.results156 rfl rfl ?_
 exact⟨rfl,yq (yc [_,_,_] _ c)⟩
end
section
open Go Go.Sx
theorem Tc(ab:Nat)(bv:Value)(A:As)(w:World)(hO:Own (Zr ab bv A) w)(hA:A.ok)(i:Nat)(r:List Nat)(hf:A.fl=i :: r) :
 CR ya 105 (Zl ab) w (fun r w' => r = .tuple (Bm i)/\∃ A2 bv2,As.ok A2/\(A2.n=A.n/\A2.begun=A.begun/\A2.used=A.used+1)/\(∀ j,A2.ia j↔A.ia j\/j=i)/\gm (Zr ab bv A) w w' (Zr ab bv2 A2)):=by
 have hAn:=hA.n
 have hAle:=hA.le
 have hAu:=hA.used
 obtain⟨hok,hin,hni,hib,hl⟩:=hA.pop hf
 have hil:=(hA.room hib).1
 obtain⟨b,hb⟩:=hA.at hib
 refine en Tryz.func105 Tryz.ntmps105 ?_
 have hst0:=(y8 hO).unpack
 have g:=yc [_,_,_] _ hst0
 refine gf hst0 10 ?_
 refine cl vP (vH ab bv (A.n:Int) (A.begun:Int) (A.used:Int) A.last A.ps A.sl w (yd g (i:=0) rfl)) ?_
 rintro _ s ⟨rfl,ht⟩
 have h:=(yp g ht)
 have k:=yc [_,_,_] _ h
 refine fQ h 9 ?_
 refine cl OO (TH ab bv A s (yd k (i:=0) rfl) hA i hl) ?_
 rintro _ t ⟨rfl,ht⟩
 have c:=(yp k ht)
 refine fQ c 25 ?_
 refine cmp rfl rfl rfl (tD hl.symm) ?_
 have l:=yc [_,_,_] _ c
 refine fQ c 7 ?_
 refine cl zY (zZ ab bv (A.n:Int) (A.begun:Int) (A.used:Int) A.last A.ps A.sl t (yd l (i:=0) rfl) i o_ b hb) ?_
 rintro _ B ⟨rfl,ht⟩
 have d:=(yp l ht)
 refine fQ d 1 ?_
 refine fa (o' := i%64*3+1) rfl rfl oI rfl gn (by simp only[ko];rfl) (ld rfl rfl ye rfl (Bg d (i:=2) rfl f_ d_ (by first|exact hil|(simp only[gJ];exact hil)) hb rfl) (kL d 9 fun u y=>?_))
 have m:=yc [_,_,_] _ y
 refine cl zY (zZ ab bv (A.n:Int) (A.begun:Int) (A.used:Int) ((fM A.sl i).after) A.ps A.sl u (yd m (i:=0) rfl) i o_ b hb) ?_
 rintro _ C ⟨rfl,ht⟩
 have o:=(yp m ht)
 refine fQ o 7 ?_
 refine fa (o' := i%64*3+0) rfl rfl oI rfl gn (by simp only[ko];rfl) (qA (f:=(fun x=>{ x with st:=1 })) (L' := [blk ab 205 (KE ab bv A ((fM A.sl i).after)),fV gN bv 270 1 A.ps,gG gM.cells 274 64 A.ps (fR A.sl i (fun x=>{ x with st:=1 }))]) 2 rfl rfl rfl rfl gn rfl rfl o rfl f_ d_ (by first|exact hil|(simp only[gJ];exact hil)) hb rfl rfl rfl (fun D p=>fQ p 6 ?_))
 refine fa (o' := i%64*3+1) rfl rfl oI rfl gn (by simp only[ko];rfl) (qA (f:=(fun x=>{ x with after := -1 })) (L' := [blk ab 205 (KE ab bv A ((fM A.sl i).after)),fV gN bv 270 1 A.ps,gG gM.cells 274 64 A.ps (fR (fR A.sl i (fun x=>{ x with st:=1 })) i (fun x=>{ x with after := -1 }))]) 2 rfl rfl rfl rfl gn rfl rfl p rfl f_ d_ (by first|exact hil|(simp only[gJ];exact hil)) hb rfl rfl rfl (fun E a=>fQ a 6 ?_))
 refine fa (o' := i%64*3+2) rfl rfl oI rfl iU (by simp only[ko];rfl) (ld rfl rfl yg rfl (Bg a (i:=2) rfl f_ d_ (by first|exact hil|(simp only[gJ];exact hil)) hb rfl) (ar (e:=(IntKind.u64.wrap (((fM (fR (fR A.sl i (fun x=>{ x with st:=1 })) i (fun x=>{ x with after := -1 })) i).times)+1))) rfl rfl rfl rfl rfl (fQ a 1 ?_)))
 refine fa (o' := i%64*3+2) rfl rfl oI rfl iU (by simp only[ko];rfl) (qA (f:=(fun x=>{ x with times:=(IntKind.u64.wrap (((fM (fR (fR A.sl i (fun x=>{ x with st:=1 })) i (fun x=>{ x with after := -1 })) i).times)+1)) })) (L' := [blk ab 205 (KE ab bv A ((fM A.sl i).after)),fV gN bv 270 1 A.ps,gG gM.cells 274 64 A.ps (fR (fR (fR A.sl i (fun x=>{ x with st:=1 })) i (fun x=>{ x with after := -1 })) i (fun x=>{ x with times:=(IntKind.u64.wrap (((fM (fR (fR A.sl i (fun x=>{ x with st:=1 })) i (fun x=>{ x with after := -1 })) i).times)+1)) }))]) 2 rfl rfl rfl rfl iU rfl rfl a rfl f_ d_ (by first|exact hil|(simp only[gJ];exact hil)) hb rfl rfl rfl (fun G q=>fQ q 8 ?_))
 refine ar (e:=((A.used+1:Nat):Int)) rfl rfl rfl rfl (by rw[iZ o_];omega) (mR q 13 fun H z=>?_)
 refine jU (v:=(Za i)) (v' := Zc) Tryz.results105 rfl rfl ?_
 have e9:fR (fR (fR A.sl i (fun x=>{ x with st:=1 })) i (fun x=>{ x with after := -1 })) i (fun x=>{ x with times:=(IntKind.u64.wrap (((fM (fR (fR A.sl i (fun x=>{ x with st:=1 })) i (fun x=>{ x with after := -1 })) i).times)+1)) })=fR A.sl i tk:=Kn hil (by rw[kQ (by rw[gJ];exact hil),kQ hil])
 have hs9:=z
 rw[e9]at hs9
 exact⟨rfl,⟨A.n,A.begun,A.used+1,(fM A.sl i).after,fR A.sl i tk,r,A.ps⟩,bv,hok,⟨rfl,rfl,rfl⟩,hin,yq (yc [_,_,_] _ hs9)⟩
theorem SX(ab:Nat)(bv:Value)(A:As)(w:World)(hO:Own (Zr ab bv A) w)(hA:A.ok)(hf:A.fl=[])(hlt:A.begun<A.n) :
 CR ya 105 (Zl ab) w (fun r w' => r = .tuple (Bm A.begun)/\∃ A2 bv2,As.ok A2/\(A2.n=A.n/\A2.begun=A.begun+1/\A2.used=A.used+1)/\(∀ j,A2.ia j↔A.ia j\/j=A.begun)/\gm (Zr ab bv A) w w' (Zr ab bv2 A2)):=by
 have hAn:=hA.n
 have hAle:=hA.le
 have hAu:=hA.used
 have hl:A.last = -1:=by have h7:=hA.chain;rw[hf]at h7;exact h7
 refine enter (vs:=(Zj ab)) Tryz.func105 rfl Tryz.ntmps105 rfl ?_
 have hst0:St _ (A5 ab bv A) w:=(y8 hO).unpack
 have y:=yc [_,_,_] _ hst0
 refine gf hst0 10 ?_
 refine zA (vl:=(Zj ab)) rfl rfl vP (vH ab bv (A.n:Int) (A.begun:Int) (A.used:Int) A.last A.ps A.sl w (yd y (i:=0) rfl)) ?_
 rintro _ z ⟨rfl,ht⟩
 have B:St _ (A5 ab bv A) z:=(St.v7 (R' := (Zr ab bv A)) 0 y rfl ht rfl).unpack
 have C:=yc [_,_,_] _ B
 refine fQ B 9 ?_
 refine zA (vl:=(Zj ab)) rfl rfl OO (Ua ab bv A z (yd C (i:=0) rfl) hA hl hlt) ?_
 rintro _ N ⟨rfl,ht⟩
 have h:St _ (A5 ab bv A) N:=(St.v7 (R' := (Zr ab bv A)) 0 C rfl ht rfl).unpack
 refine fQ h 25 ?_
 refine cmp (a:=(A.begun:Int)) (b:=A.last) rfl rfl rfl (Ca o_) (fQ h 7 ?_)
 refine rem (a:=(A.begun:Int)) (b:=64) (e:=((A.begun%64:Nat):Int)) rfl rfl rfl d_ (Cp 64) ?_
 by_cases af:(((A.begun%64:Nat):Int):Int)=(0:Int)
 . refine fQ h 10 ?_
   refine al (cs:=CL) rfl Cd rfl h (fun d ag ah ai O=>lC (vs:=(Zj d)) (cs:=(Zj d)) rfl rfl wV xI rfl (by simp[Value.cells]) rfl rfl rfl O ?_)
   intro s P aj ak l
   have l:St _ [row (Zy s) 270 1 1 ((Zj d)),blk d 274 CL,blk ab 205 (Z1 ab bv A),fV gN bv 270 1 A.ps,gG gM.cells 274 64 A.ps A.sl] P:=l
   refine mZ (cf:=gN) (ys:=A.ps) (zs:=[(some d)]) (LL:=fun g=>(QG (row (.slice (some ⟨s,0,none⟩) 1 1) 270 1 1 ([(.pointer (some ⟨d,0,none⟩))])) d ab bv A g (A.ps++[(some d)]))) 3 rfl rfl rfl wV xI rfl d_ l rfl (mh l (i:=0) rfl) (fun x hx=>zz.1 (show List.all _ _=true from rfl) x hx) (by have h7:=hA.oF;simp only[zk,zq];omega) (by have h7:=hA.oF;simp only[zk,zq];omega) f_ ?_
   intro g Q t am
   have t:St _ (QG (row (.slice (some ⟨s,0,none⟩) 1 1) 270 1 1 ([(.pointer (some ⟨d,0,none⟩))])) d ab bv A g (A.ps++[(some d)])) Q:=t
   have m:=yi [1,2,3,4] t
   refine fQ m 2 ?_
   refine nq (v:=g) (vs:=[g]) (cs' := (Z1 ab g A)) (L' := [blk d 274 CL,blk ab 205 (Z1 ab g A),fV gN g 270 1 (A.ps++[(some d)]),gG gM.cells 274 64 A.ps A.sl]) 1 rfl rfl rfl (cells_one (mS m (i:=2) rfl)) EY rfl (oW (mS m (i:=2) rfl) uJ) m rfl rfl rfl rfl ?_
   intro R D
   have S:=yi [0,3,1,2] D
   have U:St _ [gG gM.cells 274 64 (A.ps++[(some d)]) (A.sl++List.replicate 64 (⟨0,0,0⟩:gM)),blk ab 205 (Z1 ab g A),fV gN g 270 1 (A.ps++[(some d)])] R:=St.Ny S hA.sl s_ rfl
   obtain⟨hok,hin,hni,hl9,hil,c,hc⟩:=hA.fresh hf hlt (ps2:=A.ps++[(some d)]) (sl2:=A.sl++List.replicate 64 (⟨0,0,0⟩:gM)) (b:=d) (.inl ⟨o_,rfl,rfl⟩)
   refine fQ D 7 ?_
   refine ar (a:=(A.begun:Int)) (b:=1) (c:=(A.begun:Int)+1) (e:=((A.begun+1:Nat):Int)) rfl rfl rfl rfl (by rw[iZ o_];omega) (kL U 9 fun V W=>?_)
   have X:=yi [1,2,0] W
   have E:=yc [_,_,_] _ X
   refine zA (vl:=(FI ab A.begun)) rfl rfl zY (zZ ab g (A.n:Int) ((A.begun+1:Nat):Int) (A.used:Int) A.last (A.ps++[(some d)]) (A.sl++List.replicate 64 (⟨0,0,0⟩:gM)) V (yd E (i:=0) rfl) A.begun o_ c hc) ?_
   rintro _ Y ⟨rfl,ht⟩
   have G:St _ (Qx ab g A ((A.begun+1:Nat):Int) (A.ps++[(some d)]) (A.sl++List.replicate 64 (⟨0,0,0⟩:gM))) Y:=(St.v7 (R' := (gF (Qx ab g A ((A.begun+1:Nat):Int) (A.ps++[(some d)]) (A.sl++List.replicate 64 (⟨0,0,0⟩:gM))))) 0 E rfl ht rfl).unpack
   refine fQ G 7 ?_
   refine fa (o:=A.begun%64*3+0) (o' := A.begun%64*3+0) rfl rfl oI rfl gn (by simp only[ko];rfl) (qA (cf:=gM.cells) (xs:=A.sl++List.replicate 64 (⟨0,0,0⟩:gM)) (k:=A.begun) (off:=0) (f:=(fun x=>{ x with st:=1 })) (u:=rF) (vs:=yW) (L' := [blk ab 205 (wQ ab g A ((A.begun+1:Nat):Int)),fV gN g 270 1 (A.ps++[(some d)]),gG gM.cells 274 64 (A.ps++[(some d)]) (fR (A.sl++List.replicate 64 (⟨0,0,0⟩:gM)) A.begun (fun x=>{ x with st:=1 }))]) 2 rfl rfl rfl rfl gn rfl rfl G rfl f_ d_ (by first|exact hil|(simp only[gJ];exact hil)) hc rfl rfl rfl (fun an H=>fQ H 6 ?_))
   refine fa (o:=A.begun%64*3+0) (o' := A.begun%64*3+1) rfl rfl oI rfl gn (by simp only[ko];rfl) (qA (cf:=gM.cells) (xs:=fR (A.sl++List.replicate 64 (⟨0,0,0⟩:gM)) A.begun (fun x=>{ x with st:=1 })) (k:=A.begun) (off:=1) (f:=(fun x=>{ x with after := -1 })) (u:=Zw) (vs:=[Zw]) (L' := [blk ab 205 (wQ ab g A ((A.begun+1:Nat):Int)),fV gN g 270 1 (A.ps++[(some d)]),gG gM.cells 274 64 (A.ps++[(some d)]) (fR (fR (A.sl++List.replicate 64 (⟨0,0,0⟩:gM)) A.begun (fun x=>{ x with st:=1 })) A.begun (fun x=>{ x with after := -1 }))]) 2 rfl rfl rfl rfl gn rfl rfl H rfl f_ d_ (by first|exact hil|(simp only[gJ];exact hil)) hc rfl rfl rfl (fun ao p=>fQ p 6 ?_))
   refine fa (o:=A.begun%64*3+0) (o' := A.begun%64*3+2) rfl rfl oI rfl iU (by simp only[ko];rfl) (ld (a:=⟨c,A.begun%64*3+2,none⟩) (v:=(.int .u64 ((fM (fR (fR (A.sl++List.replicate 64 (⟨0,0,0⟩:gM)) A.begun (fun x=>{ x with st:=1 })) A.begun (fun x=>{ x with after := -1 })) A.begun).times))) rfl rfl yg rfl (Bg p (i:=2) rfl f_ d_ (by first|exact hil|(simp only[gJ];exact hil)) hc rfl) (ar (a:=(fM (fR (fR (A.sl++List.replicate 64 (⟨0,0,0⟩:gM)) A.begun (fun x=>{ x with st:=1 })) A.begun (fun x=>{ x with after := -1 })) A.begun).times) (b:=1) (c:=((fM (fR (fR (A.sl++List.replicate 64 (⟨0,0,0⟩:gM)) A.begun (fun x=>{ x with st:=1 })) A.begun (fun x=>{ x with after := -1 })) A.begun).times)+1) (e:=(IntKind.u64.wrap (((fM (fR (fR (A.sl++List.replicate 64 (⟨0,0,0⟩:gM)) A.begun (fun x=>{ x with st:=1 })) A.begun (fun x=>{ x with after := -1 })) A.begun).times)+1))) rfl rfl rfl rfl rfl (fQ p 1 ?_)))
   refine fa (o:=A.begun%64*3+0) (o' := A.begun%64*3+2) rfl rfl oI rfl iU (by simp only[ko];rfl) (qA (cf:=gM.cells) (xs:=fR (fR (A.sl++List.replicate 64 (⟨0,0,0⟩:gM)) A.begun (fun x=>{ x with st:=1 })) A.begun (fun x=>{ x with after := -1 })) (k:=A.begun) (off:=2) (f:=(fun x=>{ x with times:=(IntKind.u64.wrap (((fM (fR (fR (A.sl++List.replicate 64 (⟨0,0,0⟩:gM)) A.begun (fun x=>{ x with st:=1 })) A.begun (fun x=>{ x with after := -1 })) A.begun).times)+1)) })) (u:=(.int .u64 (IntKind.u64.wrap (((fM (fR (fR (A.sl++List.replicate 64 (⟨0,0,0⟩:gM)) A.begun (fun x=>{ x with st:=1 })) A.begun (fun x=>{ x with after := -1 })) A.begun).times)+1)))) (vs:=[(.int .u64 (IntKind.u64.wrap (((fM (fR (fR (A.sl++List.replicate 64 (⟨0,0,0⟩:gM)) A.begun (fun x=>{ x with st:=1 })) A.begun (fun x=>{ x with after := -1 })) A.begun).times)+1)))]) (L' := [blk ab 205 (wQ ab g A ((A.begun+1:Nat):Int)),fV gN g 270 1 (A.ps++[(some d)]),gG gM.cells 274 64 (A.ps++[(some d)]) (fR (fR (fR (A.sl++List.replicate 64 (⟨0,0,0⟩:gM)) A.begun (fun x=>{ x with st:=1 })) A.begun (fun x=>{ x with after := -1 })) A.begun (fun x=>{ x with times:=(IntKind.u64.wrap (((fM (fR (fR (A.sl++List.replicate 64 (⟨0,0,0⟩:gM)) A.begun (fun x=>{ x with st:=1 })) A.begun (fun x=>{ x with after := -1 })) A.begun).times)+1)) }))]) 2 rfl rfl rfl rfl iU rfl rfl p rfl f_ d_ (by first|exact hil|(simp only[gJ];exact hil)) hc rfl rfl rfl (fun ap I=>fQ I 8 ?_))
   refine ar (a:=(A.used:Int)) (b:=1) (c:=(A.used:Int)+1) (e:=((A.used+1:Nat):Int)) rfl rfl rfl rfl (by rw[iZ o_];omega) (mR I 13 fun aq Z=>?_)
   refine jU (v:=(Za A.begun)) (v' := Zc) Tryz.results105 rfl rfl ?_
   have e9:fR (fR (fR (A.sl++List.replicate 64 (⟨0,0,0⟩:gM)) A.begun (fun x=>{ x with st:=1 })) A.begun (fun x=>{ x with after := -1 })) A.begun (fun x=>{ x with times:=(IntKind.u64.wrap (((fM (fR (fR (A.sl++List.replicate 64 (⟨0,0,0⟩:gM)) A.begun (fun x=>{ x with st:=1 })) A.begun (fun x=>{ x with after := -1 })) A.begun).times)+1)) })=fR (A.sl++List.replicate 64 (⟨0,0,0⟩:gM)) A.begun tk:=Kn hil (by rw[kQ (by rw[gJ];exact hil),kQ hil])
   have hs9:=Z
   rw[e9]at hs9
   exact⟨rfl,⟨A.n,A.begun+1,A.used+1,A.last,fR (A.sl++List.replicate 64 (⟨0,0,0⟩:gM)) A.begun tk,[],A.ps++[(some d)]⟩,g,hok,⟨rfl,rfl,rfl⟩,hin,yv (R' := (QC ab g ((⟨A.n,A.begun+1,A.used+1,A.last,fR (A.sl++List.replicate 64 (⟨0,0,0⟩:gM)) A.begun tk,[],A.ps++[(some d)]⟩:As).n:Int) ((⟨A.n,A.begun+1,A.used+1,A.last,fR (A.sl++List.replicate 64 (⟨0,0,0⟩:gM)) A.begun tk,[],A.ps++[(some d)]⟩:As).begun:Int) ((⟨A.n,A.begun+1,A.used+1,A.last,fR (A.sl++List.replicate 64 (⟨0,0,0⟩:gM)) A.begun tk,[],A.ps++[(some d)]⟩:As).used:Int) (⟨A.n,A.begun+1,A.used+1,A.last,fR (A.sl++List.replicate 64 (⟨0,0,0⟩:gM)) A.begun tk,[],A.ps++[(some d)]⟩:As))) (yc [_,_,_] _ hs9) zh⟩
 . obtain⟨hok,hin,hni,hl9,hil,c,hc⟩:=hA.fresh hf hlt (ps2:=A.ps) (sl2:=A.sl) (b:=0) (.inr ⟨o_,rfl,rfl⟩)
   refine fQ h 11 ?_
   refine ar (a:=(A.begun:Int)) (b:=1) (c:=(A.begun:Int)+1) (e:=((A.begun+1:Nat):Int)) rfl rfl rfl rfl (by rw[iZ o_];omega) (kL h 9 fun aa ac=>?_)
   have J:=yc [_,_,_] _ ac
   refine zA (vl:=(FI ab A.begun)) rfl rfl zY (zZ ab bv (A.n:Int) ((A.begun+1:Nat):Int) (A.used:Int) A.last A.ps A.sl aa (yd J (i:=0) rfl) A.begun o_ c hc) ?_
   rintro _ ad ⟨rfl,ht⟩
   have K:St _ (Qn ab bv A ((A.begun+1:Nat):Int)) ad:=(St.v7 (R' := (gF (Qn ab bv A ((A.begun+1:Nat):Int)))) 0 J rfl ht rfl).unpack
   refine fQ K 7 ?_
   refine fa (o:=A.begun%64*3+0) (o' := A.begun%64*3+0) rfl rfl oI rfl gn (by simp only[ko];rfl) (qA (cf:=gM.cells) (xs:=A.sl) (k:=A.begun) (off:=0) (f:=(fun x=>{ x with st:=1 })) (u:=rF) (vs:=yW) (L' := [blk ab 205 (wQ ab bv A ((A.begun+1:Nat):Int)),fV gN bv 270 1 A.ps,gG gM.cells 274 64 A.ps (fR A.sl A.begun (fun x=>{ x with st:=1 }))]) 2 rfl rfl rfl rfl gn rfl rfl K rfl f_ d_ (by first|exact hil|(simp only[gJ];exact hil)) hc rfl rfl rfl (fun au L=>fQ L 6 ?_))
   refine fa (o:=A.begun%64*3+0) (o' := A.begun%64*3+1) rfl rfl oI rfl gn (by simp only[ko];rfl) (qA (cf:=gM.cells) (xs:=fR A.sl A.begun (fun x=>{ x with st:=1 })) (k:=A.begun) (off:=1) (f:=(fun x=>{ x with after := -1 })) (u:=Zw) (vs:=[Zw]) (L' := [blk ab 205 (wQ ab bv A ((A.begun+1:Nat):Int)),fV gN bv 270 1 A.ps,gG gM.cells 274 64 A.ps (fR (fR A.sl A.begun (fun x=>{ x with st:=1 })) A.begun (fun x=>{ x with after := -1 }))]) 2 rfl rfl rfl rfl gn rfl rfl L rfl f_ d_ (by first|exact hil|(simp only[gJ];exact hil)) hc rfl rfl rfl (fun av q=>fQ q 6 ?_))
   refine fa (o:=A.begun%64*3+0) (o' := A.begun%64*3+2) rfl rfl oI rfl iU (by simp only[ko];rfl) (ld (a:=⟨c,A.begun%64*3+2,none⟩) (v:=(.int .u64 ((fM (fR (fR A.sl A.begun (fun x=>{ x with st:=1 })) A.begun (fun x=>{ x with after := -1 })) A.begun).times))) rfl rfl yg rfl (Bg q (i:=2) rfl f_ d_ (by first|exact hil|(simp only[gJ];exact hil)) hc rfl) (ar (a:=(fM (fR (fR A.sl A.begun (fun x=>{ x with st:=1 })) A.begun (fun x=>{ x with after := -1 })) A.begun).times) (b:=1) (c:=((fM (fR (fR A.sl A.begun (fun x=>{ x with st:=1 })) A.begun (fun x=>{ x with after := -1 })) A.begun).times)+1) (e:=(IntKind.u64.wrap (((fM (fR (fR A.sl A.begun (fun x=>{ x with st:=1 })) A.begun (fun x=>{ x with after := -1 })) A.begun).times)+1))) rfl rfl rfl rfl rfl (fQ q 1 ?_)))
   refine fa (o:=A.begun%64*3+0) (o' := A.begun%64*3+2) rfl rfl oI rfl iU (by simp only[ko];rfl) (qA (cf:=gM.cells) (xs:=fR (fR A.sl A.begun (fun x=>{ x with st:=1 })) A.begun (fun x=>{ x with after := -1 })) (k:=A.begun) (off:=2) (f:=(fun x=>{ x with times:=(IntKind.u64.wrap (((fM (fR (fR A.sl A.begun (fun x=>{ x with st:=1 })) A.begun (fun x=>{ x with after := -1 })) A.begun).times)+1)) })) (u:=(.int .u64 (IntKind.u64.wrap (((fM (fR (fR A.sl A.begun (fun x=>{ x with st:=1 })) A.begun (fun x=>{ x with after := -1 })) A.begun).times)+1)))) (vs:=[(.int .u64 (IntKind.u64.wrap (((fM (fR (fR A.sl A.begun (fun x=>{ x with st:=1 })) A.begun (fun x=>{ x with after := -1 })) A.begun).times)+1)))]) (L' := [blk ab 205 (wQ ab bv A ((A.begun+1:Nat):Int)),fV gN bv 270 1 A.ps,gG gM.cells 274 64 A.ps (fR (fR (fR A.sl A.begun (fun x=>{ x with st:=1 })) A.begun (fun x=>{ x with after := -1 })) A.begun (fun x=>{ x with times:=(IntKind.u64.wrap (((fM (fR (fR A.sl A.begun (fun x=>{ x with st:=1 })) A.begun (fun x=>{ x with after := -1 })) A.begun).times)+1)) }))]) 2 rfl rfl rfl rfl iU rfl rfl q rfl f_ d_ (by first|exact hil|(simp only[gJ];exact hil)) hc rfl rfl rfl (fun aw M=>fQ M 8 ?_))
   refine ar (a:=(A.used:Int)) (b:=1) (c:=(A.used:Int)+1) (e:=((A.used+1:Nat):Int)) rfl rfl rfl rfl (by rw[iZ o_];omega) (mR M 13 fun ax ae=>?_)
   refine jU (v:=(Za A.begun)) (v' := Zc) Tryz.results105 rfl rfl ?_
   have e9:fR (fR (fR A.sl A.begun (fun x=>{ x with st:=1 })) A.begun (fun x=>{ x with after := -1 })) A.begun (fun x=>{ x with times:=(IntKind.u64.wrap (((fM (fR (fR A.sl A.begun (fun x=>{ x with st:=1 })) A.begun (fun x=>{ x with after := -1 })) A.begun).times)+1)) })=fR A.sl A.begun tk:=Kn hil (by rw[kQ (by rw[gJ];exact hil),kQ hil])
   have hs9:=ae
   rw[e9]at hs9
   exact⟨rfl,⟨A.n,A.begun+1,A.used+1,A.last,fR A.sl A.begun tk,[],A.ps⟩,bv,hok,⟨rfl,rfl,rfl⟩,hin,yv (R' := (QC ab bv ((⟨A.n,A.begun+1,A.used+1,A.last,fR A.sl A.begun tk,[],A.ps⟩:As).n:Int) ((⟨A.n,A.begun+1,A.used+1,A.last,fR A.sl A.begun tk,[],A.ps⟩:As).begun:Int) ((⟨A.n,A.begun+1,A.used+1,A.last,fR A.sl A.begun tk,[],A.ps⟩:As).used:Int) (⟨A.n,A.begun+1,A.used+1,A.last,fR A.sl A.begun tk,[],A.ps⟩:As))) (yc [_,_,_] _ hs9) zh⟩
theorem Wb(ab:Nat)(bv:Value)(A:As)(w:World)(hO:Own (Zr ab bv A) w)(hA:A.ok)(i:Nat)(hi:A.ia i) :
 CR ya 98 (Zn ab i) w (fun r w' => r = .int .i64 0/\∃ A2,As.ok A2/\(A2.n=A.n/\A2.begun=A.begun/\A2.used=A.used-1)/\(∀ j,A2.ia j↔A.ia j/\j≠i)/\gm (Zr ab bv A) w w' (Zr ab bv A2)):=by
 have hAn:=hA.n
 have hAle:=hA.le
 have hAu:=hA.used
 have hib:=hi.1
 have hif:=hi.2
 have hil:=(hA.room hib).1
 obtain⟨b,hb⟩:=hA.at hib
 have hu0:=(hA.free hi rfl).2.2
 refine en Tryz.func98 Tryz.ntmps98 ?_
 have hst0:=(y8 hO).unpack
 have c:=yc [_,_,_] _ hst0
 refine gf hst0 9 ?_
 refine cl vP (vH ab bv (A.n:Int) (A.begun:Int) (A.used:Int) A.last A.ps A.sl w (yd c (i:=0) rfl)) ?_
 rintro _ m ⟨rfl,ht⟩
 have a:=(yp c ht)
 refine fQ a 10 ?_
 refine cmp rfl rfl rfl (mL o_) (fQ a 6 ?_)
 refine cmp rfl rfl rfl (xK o_) ?_
 have d:=yc [_,_,_] _ a
 refine fQ a 11 ?_
 refine cl Od (Mm ab bv A m (yd d (i:=0) rfl) hA i o_) ?_
 rintro _ o ⟨rfl,ht⟩
 have g:=(yp d ht)
 refine cmp rfl rfl rfl (vT (by rw[if_pos hib,hA.st i hib,if_neg hif])) ?_
 have h:=yc [_,_,_] _ g
 refine fQ g 9 ?_
 refine cl zY (zZ ab bv (A.n:Int) (A.begun:Int) (A.used:Int) A.last A.ps A.sl o (yd h (i:=0) rfl) i o_ b hb) ?_
 rintro _ t ⟨rfl,ht⟩
 have k:=(yp h ht)
 refine fQ k 7 ?_
 refine fa (o' := i%64*3+0) rfl rfl oI rfl gn (by simp only[ko];rfl) (qA (f:=(fun x=>{ x with st:=2 })) (L' := [blk ab 205 (Z1 ab bv A),fV gN bv 270 1 A.ps,gG gM.cells 274 64 A.ps (fR A.sl i (fun x=>{ x with st:=2 }))]) 2 rfl rfl rfl rfl gn rfl rfl k rfl f_ d_ (by first|exact hil|(simp only[gJ];exact hil)) hb rfl rfl rfl (fun u l=>fQ l 10 ?_))
 refine fa (o' := i%64*3+1) rfl rfl oI rfl gn (by simp only[ko];rfl) (qA (f:=(fun x=>{ x with after:=A.last })) (L' := [blk ab 205 (Z1 ab bv A),fV gN bv 270 1 A.ps,gG gM.cells 274 64 A.ps (fR (fR A.sl i (fun x=>{ x with st:=2 })) i (fun x=>{ x with after:=A.last }))]) 2 rfl rfl rfl rfl gn rfl rfl l rfl f_ d_ (by first|exact hil|(simp only[gJ];exact hil)) hb rfl rfl rfl (fun y p=>kL p 17 fun z q=>?_))
 refine ar (e:=((A.used-1:Nat):Int)) rfl rfl rfl rfl (by rw[iZ o_];omega) (mR q 11 fun B s=>?_)
 refine gw (v:=Zc) Tryz.results98 rfl ?_
 exact⟨rfl,⟨A.n,A.begun,A.used-1,(i:Int),fR (fR A.sl i (fun x=>{ x with st:=2 })) i (fun x=>{ x with after:=A.last }),i :: A.fl,A.ps⟩,(hA.free hi rfl).1,⟨rfl,rfl,rfl⟩,(hA.free hi rfl).2.1,yq (yc [_,_,_] _ s)⟩
theorem U0(ab:Nat)(bv:Value)(A:As)(w:World)(hO:Own (Zr ab bv A) w)(hA:A.ok) :
 CR ya 58 (Zl ab) w (fun r w' => ∃ lv,r=lv/\gm (Zr ab bv A) w w' (gF (QM ab bv A lv (gx (A.list A.begun))))):=by
 have hAn:=hA.n
 have hAle:=hA.le
 have hAu:=hA.used
 refine en Tryz.func58 Tryz.ntmps58 ?_
 have hst0:=(y8 hO).unpack
 have e:=yc [_,_,_] _ hst0
 refine gf hst0 9 ?_
 refine cl vP (vH ab bv (A.n:Int) (A.begun:Int) (A.used:Int) A.last A.ps A.sl w (yd e (i:=0) rfl)) ?_
 rintro _ x ⟨rfl,ht⟩
 have f:=(yp e ht)
 refine fQ f 12 ?_
 refine mks (m:=0) (c:=A.used) rfl (gD o_) rfl yh gn rfl o_ o_ o_ f ?_
 intro o y z B p
 have g:=St.Pq (i:=0) (m:=0) (c:=A.used) (sz:=1) p rfl s_ o_ (by simp only[maxLen];omega)
 have q:=yi [1,2,3,0] g
 refine gL g 14 ?_
 refine lp (α:=Nat×Value) (fun(k,lv)=>[(0,(Zb ab)),(3,lv),(16,(Za A.begun)),(17,(Za k))]) (fun(k,lv) w1=>St [(w,(Zr ab bv A).gT)] (QM ab bv A lv (gx (A.list k))) w1/\k<=A.begun) (fun(k,lv)=>A.begun-k) (0,(.slice (some ⟨o,0,none⟩) 0 A.used)) ⟨rfl,rfl,rfl,gD (by first|rfl|omega),trivial⟩ (⟨q,o_⟩) ?_
 rintro⟨k,lv⟩ C s ⟨hst2,hk2⟩
 refine gf hst2 2 ?_
 by_cases D:((k:Int):Int)<((A.begun:Int):Int)
 . have hkb:k<A.begun:=by omega
   have h:=yc [_,_,_] _ hst2
   refine fQ hst2 19 ?_
   refine cl Od (Mm ab bv A s (yd h (i:=0) rfl) hA k o_) ?_
   rintro _ E ⟨rfl,ht⟩
   have a:=(yp h ht)
   by_cases b:((if k<A.begun then(fM A.sl k).st else 0):Int)=(1:Int)
   . refine fQ a 1 ?_
     rw[if_pos hkb]at b
     refine fQ a 6 ?_
     refine lC (vs:=(Ze k)) (cs:=(Ze k)) rfl rfl yh gn rfl (by simp[Value.cells]) rfl rfl rfl a (fun t G H I j=>JU (k:=.i64) (ys:=gx (A.list k)) (zs:=[(k:Int)]) (LL:=fun d=>[iB .i64 (Zy t) 3 ([(k:Int)]),blk ab 205 (Z1 ab bv A),fV gN bv 270 1 A.ps,gG gM.cells 274 64 A.ps A.sl,iB .i64 d 3 ((gx (A.list k))++([(k:Int)]))]) 4 rfl rfl rfl yh gn rfl j rfl (mh j (i:=0) rfl) (by have h7:=A.MQ k;simp only[gx,zu,zk,zq];omega) (by have h7:=A.MQ k;simp only[gx,zu,zk,zq];omega) f_ ?_)
     intro d J u K
     have l:=yi [1,2,3,4] u
     refine fW l 8 ?_
     refine tN (?_)
     exact again ((k+1),d) ⟨rfl,rfl,rfl,gD (by first|rfl|omega),trivial⟩ (⟨by rw[As.ME,if_pos b];rw[gx,qM];exact l,o_⟩) (by show (A.begun-(k+1):Nat)<A.begun-k;omega)
   . refine fQ a 1 ?_
     rw[if_pos hkb]at b
     refine fW a 10 ?_
     refine tN (?_)
     exact again ((k+1),lv) ⟨rfl,rfl,rfl,gD (by first|rfl|omega),trivial⟩ (⟨by rw[As.ME,if_neg b];exact a,o_⟩) (by show (A.begun-(k+1):Nat)<A.begun-k;omega)
 . refine fW hst2 17 ?_
   refine gw (v:=lv) Tryz.results58 rfl ?_
   obtain rfl:k=A.begun:=by omega
   exact⟨lv,rfl,yq (yc [_,_,_,_] _ hst2)⟩
theorem W8(n:Nat)(w:World)(hn:n<=65536) :
 CR ya 80 (sM n) w (fun r w' => ∃ ab,r = .tuple (qS ab)/\gm (gF []) w w' (gF [blk ab 205 [(Zb ab),Zk,(Za ((As.new n).n:Int)),(Za ((As.new n).begun:Int)),(Za ((As.new n).used:Int)),(Za ((As.new n).last))],fV gN Zk 270 1 ((As.new n).ps),gG gM.cells 274 64 ((As.new n).ps) ((As.new n).sl)])):=by
 refine en Tryz.func80 Tryz.ntmps80 ?_
 have hst0:=jO w
 refine gf hst0 10 ?_
 refine cmp rfl rfl rfl (mL o_) (fQ hst0 2 ?_)
 refine cmp rfl rfl rfl (uA o_) (fQ hst0 9 ?_)
 refine kf (pvs:=[(2,(Za n)),(5,Zw)]) (v:=.agg (Qm n)) rfl rfl (jS [(2,(Ze n)),(5,[Zw])] ER Pj rfl ⟨rfl,rfl,rfl,rfl,trivial⟩ rfl) (bx (v:=(.agg (Qm n))) (cs:=[Z6,Zk,(Za n),Zc,Zc,Zw]) rfl rfl rfl hst0 (fun a e f g b=>mR b 20 fun c d=>?_))
 refine jU (v:=(Zb a)) (v' := Zc) Tryz.results80 rfl rfl ?_
 have hs7:=sI d 270 1
 have hs8:St _ (Qk a n) c:=St.Ez hs7 0
 have hs9:=oH hs8 (List.reverse_perm (Qk a n)).symm
 exact⟨a,rfl,St.eM (yc [_,_,_] [] hs9)⟩
end
section
open Go Go.Sx
theorem Vd(ab:Nat)(bv:Value)(A:As)(w:World)(hO:Own (Zr ab bv A) w)(hA:A.ok) :
 CR ya 91 (Zl ab) w (fun r w' => ∃ ab2 bv2 qs,r = .pointer (some ⟨ab2,0,none⟩)/\As.ok { A with ps:=qs }/\gm (Zr ab bv A) w w' (Q1 ab bv A ab2 bv2 qs)):=by
 have hAn:=hA.n
 have hAle:=hA.le
 have hAu:=hA.used
 have hpl:=hA.oF
 refine enter (vs:=(Zj ab)) Tryz.func91 rfl Tryz.ntmps91 rfl ?_
 have hst0:=(y8 hO).unpack
 have j:=yc [_,_,_] _ hst0
 refine gf hst0 9 ?_
 refine zA (vl:=(Zj ab)) rfl rfl vP (vH ab bv (A.n:Int) (A.begun:Int) (A.used:Int) A.last A.ps A.sl w (yd j (i:=0) rfl)) ?_
 rintro _ L ⟨rfl,ht⟩
 have l:=(St.v7 (R' := (Zr ab bv A)) 0 j rfl ht rfl).unpack
 refine gL l 7 ?_
 refine jN l 17 ?_ (hA:=by refine' gI 16 ?k0;case k0=>refine' gq (fun wq hM=>rv (xH (pvs:=[(2,(Za A.n)),(3,(Za A.begun)),(4,(Za A.used)),(5,(Za A.last))]) (v:=.agg (Qg A)) rfl (jS [(2,(Ze A.n)),(3,(Ze A.begun)),(4,(Ze A.used)),(5,(Ze A.last))] ER Pj rfl ⟨rfl,rfl,rfl,rfl,rfl,rfl,rfl,rfl,trivial⟩ rfl))) ?k1;case k1=>exact iA)
 intro wq hM
 refine Fi (v:=(.agg (Qg A))) (cs:=[Z6,Zk,(Za A.n),(Za A.begun),(Za A.used),(Za A.last)]) rfl rfl rfl hM (fun c _ h=>(jM h (fun M y=>?_)))
 refine QN tt none y 13 fun p z=>?_
 have B:St _ [fV gN Zk 270 1 ([]),blk c 205 (Qe c A),blk ab 205 (Z1 ab bv A),fV gN bv 270 1 A.ps,gG gM.cells 274 64 A.ps A.sl] p:=sI z 270 1
 have f:St _ [gG gM.cells 274 64 ([]) (A.sl.take (64*0)),fV gN Zk 270 1 ([]),blk c 205 (Qe c A),blk ab 205 (Z1 ab bv A),fV gN bv 270 1 A.ps,gG gM.cells 274 64 A.ps A.sl] p:=St.Ez B 0
 refine fQ f 4 ?_
 refine mY (m:=A.ps.length) 4 rfl rfl wV f rfl ?_
 have C:=yi [3,4,5,2,1,0] f
 refine gL f 4 ?_
 refine lp (α:=Nat×Value×List (Option Nat)) (fun(k,v2,qs)=>[(3,(Zb c)),(35,bv),(36,(Za A.ps.length)),(37,(Za k))]) (fun(k,v2,qs) w1=>St [(w,(Zr ab bv A).gT)] [blk ab 205 (Z1 ab bv A),fV gN bv 270 1 A.ps,gG gM.cells 274 64 A.ps A.sl,blk c 205 (Z1 c v2 A),fV gN v2 270 1 qs,gG gM.cells 274 64 qs (A.sl.take (64*k))] w1/\k<=A.ps.length/\x9 qs k) (fun(k,v2,qs)=>A.ps.length-k) (0,Zk,[]) ⟨rfl,rfl,rfl,gD (by first|rfl|omega),trivial⟩ (⟨C,o_,x9.start⟩) ?_
 rintro⟨k,v2,qs⟩ N O ⟨hst3,hk3,hC⟩
 have hql:=hC.len
 refine gf hst3 2 ?_
 by_cases P:((k:Int):Int)<((A.ps.length:Int):Int)
 . have hk:k<A.ps.length:=by omega
   obtain⟨bq,hbq⟩:=hA.ps k hk
   refine fQ hst3 11 ?_
   refine jj (cf:=gN) (k:=k) (i:=(k:Int)) rfl rfl rfl wV xI (yf hst3 (i:=1) rfl f_) o_ o_ (gA om) (l6 (cf:=gN) (u:=(.pointer ((fM A.ps k).map fun b=>⟨b,0,none⟩))) rfl rfl Tryz.underlying270 rfl (yf hst3 (i:=1) rfl f_) (gA om) rfl (fQ hst3 6 ?_))
   refine si (a:=⟨bq,0,none⟩) rfl (zK (EW hbq)) ?_
   have hcl:(((A.sl.drop (64*k)).take 64).flatMap gM.cells).length=192:=L6 (cf:=gM.cells) (sz:=3) f_ hA.sl hk
   refine pH (b:=bq) (o:=0) (cs:=(((A.sl.drop (64*k)).take 64).flatMap gM.cells)) rfl rfl Tryz.underlying274 rfl Cd hcl (St.M8 hst3 (i:=2) rfl ((gA hk).trans (congrArg some (EW hbq)))) (al (cs:=CL) rfl Cd rfl hst3 (fun d Q R S D=>me (v:=.agg (((A.sl.drop (64*k)).take 64).flatMap gM.cells).toArray) (vs:=(((A.sl.drop (64*k)).take 64).flatMap gM.cells)) (L' := [blk d 274 (((A.sl.drop (64*k)).take 64).flatMap gM.cells),blk ab 205 (Z1 ab bv A),fV gN bv 270 1 A.ps,gG gM.cells 274 64 A.ps A.sl,blk c 205 (Z1 c v2 A),fV gN v2 270 1 qs,gG gM.cells 274 64 qs (A.sl.take (64*k))]) 0 rfl rfl rfl rfl Cd hcl (zz.2 (zM f_ _)) D rfl (by rw[hcl];decide) (L8 (by rw[hcl];rfl)) rfl (fun U q V=>fQ q 8 ?_)))
   refine lC (vs:=(Zj d)) (cs:=(Zj d)) rfl rfl wV xI rfl (by simp[Value.cells]) rfl rfl rfl q (fun E W X Y s=>mZ (cf:=gN) (ys:=qs) (zs:=[(some d)]) (LL:=fun e=>[row (Zy E) 270 1 1 ((Zj d)),blk d 274 (((A.sl.drop (64*k)).take 64).flatMap gM.cells),blk ab 205 (Z1 ab bv A),fV gN bv 270 1 A.ps,gG gM.cells 274 64 A.ps A.sl,blk c 205 (Z1 c v2 A),fV gN e 270 1 (qs++[(some d)]),gG gM.cells 274 64 qs (A.sl.take (64*k))]) 6 rfl rfl rfl wV xI rfl d_ s rfl (mh s (i:=0) rfl) (fun x hx=>zz.1 (show List.all _ _=true from rfl) x hx) (by have h7:=hA.oF;simp only[zk,zq];omega) (by have h7:=hA.oF;simp only[zk,zq];omega) f_ ?_)
   intro e Z G aa
   have g:=yi [1,2,3,4,5,6,7] G
   refine fQ g 2 ?_
   refine nq (v:=e) (vs:=[e]) (L' := [blk d 274 (((A.sl.drop (64*k)).take 64).flatMap gM.cells),blk ab 205 (Z1 ab bv A),fV gN bv 270 1 A.ps,gG gM.cells 274 64 A.ps A.sl,blk c 205 (Z1 c e A),fV gN e 270 1 (qs++[(some d)]),gG gM.cells 274 64 qs (A.sl.take (64*k))]) 4 rfl rfl rfl (cells_one (mS g (i:=5) rfl)) EY rfl (oW (mS g (i:=5) rfl) uJ) g rfl rfl rfl rfl (fun H t=>fW t 7 ?_)
   refine tN (?_)
   have I:=yi [0,6,1,2,3,4,5] t
   have hck:=XY hA.sl hk
   have J:St [(w,(Zr ab bv A).gT)] [gG gM.cells 274 64 (qs++[(some d)]) (A.sl.take (64*(k+1))),blk ab 205 (Z1 ab bv A),fV gN bv 270 1 A.ps,gG gM.cells 274 64 A.ps A.sl,blk c 205 (Z1 c e A),fV gN e 270 1 (qs++[(some d)])] H:=by rw[<-Ts];exact St.Ny I (by rw[hck.2,hql]) hck.1 rfl
   have K:=yi [1,2,3,4,5,0] J
   exact again ((k+1),e,qs++[(some d)]) ⟨rfl,rfl,rfl,gD (by first|rfl|omega),trivial⟩ (⟨K,o_,hC.next⟩) (by show (A.ps.length-(k+1):Nat)<A.ps.length-k;omega)
 . refine fW hst3 17 ?_
   refine gw (v:=(Zb c)) Tryz.results91 rfl ?_
   have hke:k=A.ps.length:=by omega
   have hs9:=hst3
   rw[sL (show A.sl.length<=64*k by rw[hke];exact Nat.le_of_eq hA.sl)]at hs9
   exact⟨c,v2,qs,rfl,hA.copy o_ hC.all,yv (R' := (Q1 ab bv A c v2 qs)) (yc [_,_,_,_,_,_] _ hs9) zh⟩
end
section
open Go Go.Sx
def AW.R(ab:Nat)(v:AW):gh:=jZ v.A.ok (Zr ab v.bv v.A)
abbrev sB(a:fZ):=(AW.R a.iO a.aw:gh)
abbrev Cz(a:Nat) b (c:Nat) d:=(gF [AW.R a b,AW.R c d]:gh)
abbrev Re(a b:Nat) c (d:TW) e f:=([blk a 258 [.pointer (some ⟨a,0,none⟩),.pointer (some ⟨b,0,none⟩),c,d.cv],fV jH c 30 1 e,fV gP d.cv 3 1 d.cs,AW.R b f]:List gh)
abbrev Rj(a b:Nat)(c:TW) d e f:=([blk a 258 (oq a b c),fV jH c.iv 30 1 d,fV gP c.cv 3 1 e,AW.R b f]:List gh)
theorem ID(ab:Nat)(v:AW)(w:World)(hO:Own (AW.R ab v) w) :
 CR ya 86 (Zl ab) w (fun r w' => r = .int .i64 (v.A.used:Int)/\gm (AW.R ab v) w w' (AW.R ab v)):=by
 exact CR.mono (WH ab v.bv v.A w hO.un hO.fact) fun r w' ⟨h1,ht⟩=>⟨h1,ht.qd hO.fact⟩
theorem My(ab:Nat)(v:AW)(w:World)(hO:Own (AW.R ab v) w)(hu:v.A.used<v.A.n) :
 CR ya 105 (Zl ab) w (fun r w' => ∃ i v2,r = .tuple (Bm ((i:Nat):Int))/\AW.put v.A v2.A i/\gm (AW.R ab v) w w' (AW.R ab v2)):=by
 have hA:=hO.fact
 rcases hA.full hu with ⟨i,l,hf⟩|⟨hf,hlt⟩
 . have hp:=hA.pop hf
   exact CR.mono (Tc ab v.bv v.A w hO.un hA i l hf) fun r w' ⟨h1,A2,bv2,hok,⟨e1,e2,e3⟩,hin,ht⟩=>⟨i,⟨bv2,A2⟩,h1,⟨e1,e3,hin,hp.2.2.1,.inl ⟨hp.2.2.2.1,e2⟩⟩,ht.qd hok⟩
 . exact CR.mono (SX ab v.bv v.A w hO.un hA hf hlt) fun r w' ⟨h1,A2,bv2,hok,⟨e1,e2,e3⟩,hin,ht⟩=>⟨v.A.begun,⟨bv2,A2⟩,h1,⟨e1,e3,hin,fun h=>Nat.lt_irrefl _ h.1,.inr ⟨rfl,e2⟩⟩,ht.qd hok⟩
theorem Ng(ab:Nat)(v:AW)(w:World)(hO:Own (AW.R ab v) w)(i:Nat)(hi:v.A.ia i) :
 CR ya 98 (Zn ab i) w (fun r w' => ∃ v2,r = .int .i64 0/\AW.del v.A v2.A i/\gm (AW.R ab v) w w' (AW.R ab v2)):=by
 exact CR.mono (Wb ab v.bv v.A w hO.un hO.fact i hi) fun r w' ⟨h1,A2,hok,⟨e1,e2,e3⟩,hin,ht⟩=>⟨⟨v.bv,A2⟩,h1,⟨e1,e2,e3,(hO.fact.free hi rfl).2.2,hin⟩,ht.qd hok⟩
theorem N3(n:Nat)(w:World)(hn:n<=65536) :
 CR ya 80 (sM n) w (fun r w' => ∃ ab v,r = .tuple (qS ab)/\v.A=As.new n/\gm (gF []) w w' (AW.R ab v)):=by
 exact CR.mono (W8 n w hn) fun r w' ⟨ab,h1,ht⟩=>⟨ab,⟨.slice none 0 0,As.new n⟩,h1,rfl,ht.oC (As.vN hn)⟩
theorem M4(ab:Nat)(v:AW)(w:World)(hO:Own (AW.R ab v) w) :
 CR ya 91 (Zl ab) w (fun r w' => ∃ ab2 v2,r = .pointer (some ⟨ab2,0,none⟩)/\(∃ qs,v2.A={ v.A with ps:=qs })/\gm (AW.R ab v) w w' (Cz ab v ab2 v2)):=by
 refine CR.mono (Vd ab v.bv v.A w hO.un hO.fact) fun r w' ⟨ab2,bv2,qs,h1,hok,ht⟩=>⟨ab2,⟨bv2,{ v.A with ps:=qs }⟩,h1,⟨qs,rfl⟩,(gm.EH (A:=(A5 ab v.bv v.A)) (B:=[blk ab2 205 (Z1 ab2 bv2 v.A),fV gN bv2 270 1 qs,gG gM.cells 274 64 qs v.A.sl]) ht).F4.E6 rfl (fun h=>?_)⟩
 intro Q hQ
 simp only[zg,sw,or_false]at hQ
 rcases hQ with rfl|rfl
 . exact⟨hO.fact,h _ s_⟩
 . exact⟨hok,h _ s_⟩
end
section
open Go Go.Sx
def TW.R(tb ab:Nat)(t:TW):gh:=jZ t.ok (gF [blk tb 258 (oq tb ab t),fV jH t.iv 30 1 t.ids,fV gP t.cv 3 1 t.cs,(AW.R ab t.w)])
abbrev wo(a:fZ) b:=(TW.R a.tb a.ab b:gh)
abbrev Z8(a:fZ):=(TW.R a.tb a.ab a.t:gh)
abbrev QV a (b:Nat) (c:Lv) (d:Nat) (e f:Int) (g:fZ) h i j (k:Nat):=([iL 3 a,blk b 34 (Zs c),blk d 130 (Z7 e f g h),fV Lv.cells g.lv 34 7 i,gQ g.mb .u64 p_ a,AW.R g.iO j,TW.R g.tb g.ab g.t,blk k 34 Zx]:List gh)
abbrev Qp a b c (d:Nat) (e:Lv) (f:Nat) (g h:Int) (i:fZ) j k l m (n:Nat):=([iB .i64 a 3 b,iL 3 c,blk d 34 (Zs e),blk f 130 (Z7 g h i j),fV Lv.cells i.lv 34 7 k,gQ i.mb .u64 p_ l,AW.R i.iO m,TW.R i.tb i.ab i.t,blk n 34 Zx]:List gh)
abbrev KK a (b:Nat) (c:Lv) (d:Nat) (e f:Int) (g:fZ) h i j k (l:Nat):=([iL 3 a,blk b 34 (Zs c),blk d 130 (Z7 e f g h),fV Lv.cells g.lv 34 7 i,gQ g.mb .u64 p_ a,AW.R g.iO j,TW.R g.tb g.ab k,blk l 34 (Zs c)]:List gh)
abbrev Ky a b c d (e:Nat) (f g:Int) (h:fZ) i j k (l m n:Nat) o p q r s t (u:Nat) v:=([fV gP a 3 1 b,fV gP c 3 1 b,iL 3 d,blk e 130 (Z7 f g h i),fV Lv.cells h.lv 34 7 h.live,j,iL 3 k,AW.R h.iO h.aw,TW.R h.tb h.ab h.t,blk l 130 (yD f g h.last m n o p),fV Lv.cells o 34 7 h.live,gQ q .u64 p_ r,iL 3 s,AW.R m t,TW.R n u v]:List gh)
abbrev Ri a (b:Nat) (c d:Int) (e:Lv) (f:Nat) (g h:Int) (i:fZ) j k l m n (o p:Nat):=([iL 3 a,blk b 34 (Z9 c d e),blk f 130 (xZ g h d i j k),fV Lv.cells j 34 7 l,gQ i.mb .u64 p_ a,AW.R i.iO m,TW.R i.tb i.ab n,blk o 34 Zx,blk p 32 (Zp e)]:List gh)
abbrev Qw a (b:Nat) (c d:Int) (e:Lv) (f:Nat) (g h:Int) (i:fZ) j k l m (n o:Nat):=([iL 3 a,blk b 34 (Z9 c d e),blk f 130 (sK g h d i j),fV Lv.cells i.lv 34 7 k,gQ i.mb .u64 p_ a,AW.R i.iO l,TW.R i.tb i.ab m,blk n 34 Zx,blk o 32 (Zp e)]:List gh)
abbrev Qr(a:Nat)(b c:Int)(d:Lv)(e:Nat)(f g:Int)(h:fZ) i j k l (m n:Nat):=([blk a 34 (Z9 b c d),blk e 130 (xZ f g c h i j),fV Lv.cells i 34 7 k,gQ h.mb .u64 p_ h.im,iL 3 h.im,AW.R h.iO l,TW.R h.tb h.ab h.t,blk m 34 Zx,blk n 32 (Zp d)]:List gh)
abbrev QA(a:Nat)(b c:Int)(d:Lv)(e:Nat)(f g:Int)(h:fZ) i j (k l:Nat):=([blk a 34 (Z9 b c d),blk e 130 (sK f g c h i),fV Lv.cells h.lv 34 7 h.live,gQ h.mb .u64 p_ h.im,iL 3 h.im,AW.R h.iO j,TW.R h.tb h.ab h.t,blk k 34 Zx,blk l 32 (Zp d)]:List gh)
abbrev AZ(a:Nat) b c d e (f:Nat) (g h:Int) (i:Lv) (j:Nat) (k l:Int) (m:fZ) n o p q r s (t u:Nat):=([iB .i64 (Zy a) 3 b,iB .i64 c 3 d,iL 3 e,blk f 34 (Z9 g h i),blk j 130 (xZ k l h m n o),fV Lv.cells n 34 7 p,gQ m.mb .u64 p_ q,AW.R m.iO r,TW.R m.tb m.ab s,blk t 34 Zx,blk u 32 (Zp i)]:List gh)
abbrev Rb(a:Nat) b c d e (f:Nat) (g h:Int) (i:Lv) (j:Nat) (k l:Int) (m:fZ) n o p q r (s t:Nat):=([iB .i64 (Zy a) 3 b,iB .i64 c 3 d,iL 3 e,blk f 34 (Z9 g h i),blk j 130 (xZ k l h m n o),fV Lv.cells n 34 7 p,gQ m.mb .u64 p_ m.im,AW.R m.iO q,TW.R m.tb m.ab r,blk s 34 Zx,blk t 32 (Zp i)]:List gh)
abbrev AK(a:Nat) b c d e (f:Nat) (g h:Int) (i:Lv) (j:Nat) (k l:Int) (m:fZ) n o p q r (s t:Nat):=([iB .i64 (Zy a) 3 b,iB .i64 c 3 d,iL 3 e,blk f 34 (Z9 g h i),blk j 130 (sK k l h m n),fV Lv.cells m.lv 34 7 o,gQ m.mb .u64 p_ p,AW.R m.iO q,TW.R m.tb m.ab r,blk s 34 Zx,blk t 32 (Zp i)]:List gh)
abbrev Qs(a:Nat) b c d e (f:Nat) (g h:Int) (i:Lv) (j:Nat) (k l:Int) (m:fZ) n o p q (r s:Nat):=([iB .i64 (Zy a) 3 b,iB .i64 c 3 d,iL 3 e,blk f 34 (Z9 g h i),blk j 130 (sK k l h m n),fV Lv.cells m.lv 34 7 o,gQ m.mb .u64 p_ m.im,AW.R m.iO p,TW.R m.tb m.ab q,blk r 34 Zx,blk s 32 (Zp i)]:List gh)
theorem Nf(tb ab:Nat)(t:TW)(w:World)(hO:Own (Z3 tb ab t) w)(hT:TW.Sz t.n)(id:Int) :
 CR ya 203 (qJ tb id) w (fun r w' => r = .int .i64 ((kI t.n id:Nat):Int)/\gm (Z3 tb ab t) w w' (Z3 tb ab t)):=by
 have hnl:t.cs.length=t.n:=rfl
 have h2t:=hT.two
 have htop:=hT.top
 have hpos:0<t.n:=by omega
 have hlt:=xu (id:=id) hpos
 refine en Tryz.func203 Tryz.ntmps203 ?_
 have hst0:=Own.of hO
 refine gf hst0 9 ?_
 refine shr (a:=id) (b:=33) (e:=(id.fdiv (2 ^ 33))) rfl rfl rfl d_ rfl (bi (a:=id) (b:=(id.fdiv (2 ^ 33))) (e:=(kW id)) rfl rfl rfl (IK _) (fQ hst0 6 ?_))
 refine ar (e:=(mF 18397679294719823053 (kW id))) rfl rfl rfl rfl rfl (fQ hst0 7 ?_)
 refine shr (a:=(mF 18397679294719823053 (kW id))) (b:=33) (e:=((mF 18397679294719823053 (kW id)).fdiv (2 ^ 33))) rfl rfl rfl d_ rfl (bi (a:=(mF 18397679294719823053 (kW id))) (b:=((mF 18397679294719823053 (kW id)).fdiv (2 ^ 33))) (e:=(kW (mF 18397679294719823053 (kW id)))) rfl rfl rfl (IK _) (fQ hst0 6 ?_))
 refine ar (e:=(mF 14181476777654086739 (kW (mF 18397679294719823053 (kW id))))) rfl rfl rfl rfl rfl (fQ hst0 7 ?_)
 refine shr (a:=(mF 14181476777654086739 (kW (mF 18397679294719823053 (kW id))))) (b:=33) (e:=((mF 14181476777654086739 (kW (mF 18397679294719823053 (kW id)))).fdiv (2 ^ 33))) rfl rfl rfl d_ rfl (bi (a:=(mF 14181476777654086739 (kW (mF 18397679294719823053 (kW id))))) (b:=((mF 14181476777654086739 (kW (mF 18397679294719823053 (kW id)))).fdiv (2 ^ 33))) (e:=(kW (mF 14181476777654086739 (kW (mF 18397679294719823053 (kW id)))))) rfl rfl rfl (IK _) (fQ hst0 10 ?_))
 refine mY (m:=t.cs.length) 2 rfl rfl yh hst0 rfl (fQ hst0 1 ?_)
 refine cv (a:=(t.cs.length:Int)-1) (e:=(t.cs.length:Int)-1) rfl rfl ye yg (Ax o_) (bi (a:=(kW (mF 14181476777654086739 (kW (mF 18397679294719823053 (kW id)))))) (b:=(t.cs.length:Int)-1) (e:=((kI t.n id:Nat):Int)) rfl rfl rfl (hT.p2.home id) (cv (a:=((kI t.n id:Nat):Int)) (e:=((kI t.n id:Nat):Int)) rfl rfl yg ye (iZ o_) (fW hst0 4 ?_)))
 refine gw (v:=(Za ((kI t.n id:Nat):Int))) Tryz.results203 rfl ?_
 exact⟨rfl,yq (yc [_,_,_] _ hst0)⟩
theorem Um(tb:Nat)(id:Int)(w:World) :
 CR ya 202 (qJ tb id) w (fun r w' => ∃ xb yb,r = .func (.func 234) #[] (FP xb yb)/\gm (gF []) w w' (gF [blk xb 127 (Zj tb),blk yb 30 (Zz id)])):=by
 refine en Tryz.func202 Tryz.ntmps202 ?_
 have hst0:=jO w
 refine gf hst0 2 ?_
 refine bx (v:=(Zb tb)) (cs:=(Zj tb)) rfl rfl rfl hst0 (fun a f g h d=>bx (v:=(Zd id)) (cs:=(Zz id)) rfl rfl rfl d (fun b i j k c=>fQ c 5 ?_))
 refine yY (vf:=[]) (vc:=(yH a b)) rfl rfl rfl (fW c 4 ?_)
 refine gw (v:=(.func (.func 234) #[] (FP a b))) Tryz.results202 rfl ?_
 have e:=yi [1,0] c
 exact⟨a,b,rfl,St.eM (yc [_,_] _ e)⟩
theorem SO{γ:Type}(Cl:γ->gh)(Iv:γ->Nat->Nat->Prop)(Dn:γ->Prop)(z0:γ)(l xb yb tb ab:Nat)(t:TW)(id:Int)(w:World)(hy:∀ (z:γ) (k c:Nat) (bs:List (World×List Nat)) (L:List gh) (w:World),k<t.n->c<t.n->Iv z k c->St bs (Cl z :: (CI tb ab t)++L) w->YR ya l (Zi c ((fM t.cs c:Nat):Int)) w (fun v w' => ∃ z2 b,v = .bool b/\(b=true->Iv z2 (k+1) (gZ t.n c))/\(b=false->Dn z2)/\St bs (Cl z2 :: (CI tb ab t)++L) w'))(hT:t.ok)(hz0:Iv z0 0 (kI t.n id))(hO:Own (FF (Cl z0) tb ab t xb yb id) w) :
 CR ya 234 (Rg (.func (.yield l) #[] #[]) xb yb) w (fun r w' => ∃ z,((∃ c,Iv z t.n c)\/Dn z)/\r = .tuple #[]/\gm (FF (Cl z0) tb ab t xb yb id) w w' (FF (Cl z) tb ab t xb yb id)):=by
 have hnl:t.cs.length=t.n:=rfl
 have h2t:=hT.two
 have htop:=hT.top
 have hpos:0<t.n:=by omega
 refine en Tryz.func234 Tryz.ntmps234 ?_
 have hst0:=Own.of hO
 have o:=yi [1,2,3,0,4,5] hst0
 have g:=yc [_,_,_] _ o
 refine gf hst0 4 ?_
 refine cl N9 (Nf tb ab t w (yd g (i:=0) rfl) hT.sz id) ?_
 rintro _ s ⟨rfl,ht⟩
 have f:=(yp g ht)
 refine fQ f 9 ?_
 refine mY (m:=t.cs.length) 2 rfl rfl yh f rfl ?_
 have p:=yi [3,0,1,2,4,5] f
 refine gL f 4 ?_
 refine lp (α:=γ×Nat×Nat) (fun(z,k,c)=>[(0,(.func (.yield l) #[] #[])),(1,(Zb xb)),(2,(Zb yb)),(4,(Za c)),(12,(Za t.cs.length)),(13,(Za k))]) (fun(z,k,c) w1=>St [(w,(FF (Cl z0) tb ab t xb yb id).gT)] [(Cl z),blk tb 258 (oq tb ab t),fV jH t.iv 30 1 t.ids,fV gP t.cv 3 1 t.cs,blk xb 127 (Zj tb),blk yb 30 (Zz id)] w1/\k<=t.n/\c<t.n/\Iv z k c) (fun(z,k,c)=>t.n-k) (z0,0,(kI t.n id)) ⟨rfl,rfl,rfl,gD (by first|rfl|omega),rfl,gD (by first|rfl|omega),trivial⟩ (⟨p,o_,xu hpos,hz0⟩) ?_
 rintro⟨z,k,c⟩ u x ⟨hst3,hk2,hc2,hIv⟩
 refine gf hst3 2 ?_
 by_cases y:((k:Int):Int)<((t.cs.length:Int):Int)
 . refine fQ hst3 19 ?_
   refine jj (cf:=gP) (k:=c) (i:=(c:Int)) rfl rfl rfl yh gn (yf hst3 (i:=3) rfl f_) o_ o_ (gA om) (l6 (cf:=gP) rfl rfl ye rfl (yf hst3 (i:=3) rfl f_) (gA om) rfl (yl (vl:=(Zi c (((fM t.cs c):Nat):Int))) rfl rfl rfl (hy z k c _ _ _ o_ hc2 hIv hst3) ?_))
   rintro _ A ⟨h,q,rfl,hiv9,hdn9,d⟩
   refine gL d 3 ?_
   cases j:(q:Bool)
   . skip
     subst j
     refine jm d 7 ?_
     refine Fh Tryz.results234 ?_
     exact⟨h,.inr (hdn9 rfl),rfl,yq (yc [_,_,_,_,_,_] _ d)⟩
   . skip
     subst j
     refine gf d 10 ?_
     refine mY (m:=t.cs.length) 3 rfl rfl yh d rfl (fQ d 1 ?_)
     refine bi (a:=(c:Int)+1) (b:=(t.cs.length:Int)-1) (e:=((gZ t.n c:Nat):Int)) rfl rfl rfl (hT.p2.nx hc2) (fW d 8 ?_)
     refine tN (?_)
     exact again (h,(k+1),(gZ t.n c)) ⟨rfl,rfl,rfl,gD (by first|rfl|omega),rfl,gD (by first|rfl|omega),trivial⟩ (⟨d,o_,IZ hc2,hiv9 rfl⟩) (by show t.n-(k+1)<t.n-k;omega)
 . refine fW hst3 9 ?_
   refine jA Tryz.results234 ?_
   obtain rfl:k=t.n:=by omega
   exact⟨z,.inl ⟨c,hIv⟩,rfl,yq (yc [_,_,_,_,_,_] _ hst3)⟩
theorem Vh(tb ab:Nat)(t:TW)(w:World)(hO:Own (Z3 tb ab t) w)(hT:t.ok)(id:Int) :
 CR ya 147 (qJ tb id) w (fun r w' => r = .tuple (ve ((t.find id).1:Int) ((t.find id).2))/\gm (Z3 tb ab t) w w' (Z3 tb ab t)):=by
 have hnl:t.cs.length=t.n:=rfl
 have h2t:=hT.two
 have htop:=hT.top
 have hpos:0<t.n:=by omega
 refine Ey (vs:=[(Zb tb),(Zd id)]) Tryz.func147 rfl Tryz.ntmps147 rfl ?_
 have hst0:=Own.of hO
 refine gf hst0 2 ?_
 refine bx (v:=(Zb tb)) (cs:=(Zj tb)) rfl rfl rfl hst0 (fun f W X Y C=>bx (v:=(Zd id)) (cs:=(Zz id)) rfl rfl rfl C (fun g Z aa ac D=>al (cs:=[Zc]) rfl gn rfl D (fun m ad ae af E=>al (cs:=[Zq]) rfl nV rfl E (fun o G ag ah x=>fQ x 7 ?_))))
 refine cl XK (Um tb id G) ?_
 rintro _ ai ⟨p,q,rfl,ht⟩
 have y:=mG (pn x ht)
 have H:=yi [3,2,5,4,6,7,8,0,1] y
 refine gL y 3 ?_
 refine rfx (α:=Bool×Int×Bool) (ps:=[11,12]) (fi:=[]) (ca:=(yH p q)) (fun(sp,a,b)=>[blk m 3 (Ze a),blk o 4 [(.bool b)],blk f 127 (Zj tb),blk g 30 (Zz id),blk tb 258 (oq tb ab t),fV jH t.iv 30 1 t.ids,fV gP t.cv 3 1 t.cs,blk p 127 (Zj tb),blk q 30 (Zz id)]) (fun(sp,a,b)=>(sp=false/\t.find id=(0,false))\/(sp=true/\a=((t.find id).1:Int)/\b=(t.find id).2)) (fun(sp,a,b)=>sp) H rfl XS ?_ ?_ ?_
 . intro fn dd l wl rc hrc hsl
   have I:=yi [0,2,3,4,5,6,7,8,9,10,1] hsl
   have hpk:=yc [jq l rc,blk m 3 [Zc],blk o 4 [Zq],blk f 127 (Zj tb),blk g 30 (Zz id)] [blk tb 258 (oq tb ab t),fV jH t.iv 30 1 t.ids,fV gP t.cv 3 1 t.cs,blk p 127 (Zj tb),blk q 30 (Zz id),kR dd (some [])] I
   have hr1:rc.state = .ready:=by rw[hrc]
   have hr2:rc.pending=none:=by rw[hrc]
   have hround:∀ (z:Bool×Int×Bool) (k c:Nat) (bs:List (World×List Nat)) (L:List gh) (w:World),k<t.n->c<t.n->(fun(z:Bool×Int×Bool) k c=>z.1=false/\t.rest id k c) z k c->St bs ((fun((sp,a,b):Bool×Int×Bool)=>gF (KX (jq l (yB sp rc)) m a o b f tb g id)) z :: (CI tb ab t)++L) w->YR ya l (Zi c ((fM t.cs c:Nat):Int)) w (fun v w' => ∃ z2 b,v = .bool b/\(b=true->(fun(z:Bool×Int×Bool) k c=>z.1=false/\t.rest id k c) z2 (k+1) (gZ t.n c))/\(b=false->(fun(z:Bool×Int×Bool)=>z.1=true/\z.2.1=((t.find id).1:Int)/\z.2.2=(t.find id).2) z2)/\St bs ((fun((sp,a,b):Bool×Int×Bool)=>gF (KX (jq l (yB sp rc)) m a o b f tb g id)) z2 :: (CI tb ab t)++L) w'):=by
    rintro⟨sp,a,b⟩ k c bs LT wr hk hc ⟨rfl,hr9⟩ hsr
    have hsr:=hsr.unpack
    refine Kg (vl:=(Zi c ((fM t.cs c:Nat):Int))) 0 hrc hsr rfl rfl rfl (jm hsr 8 ?_)
    refine tN (?_)
    refine J5 0 hsr rfl hr1 rfl (fun aj d=>gf d 5 ?_)
    by_cases ak:(((fM t.cs c:Nat):Int):Int)=(0:Int)
    . have hc0:fM t.cs c=0:=by omega
      refine fQ d 1 ?_
      skip
      skip
      skip
      refine mR d 13 fun am J=>?_
      refine P7 0 J rfl rfl ?_
      intro ao K
      have hfd:t.find id=(c,false):=TW.TS hr9 hk o_
      exact⟨_,rfl,(true,(c:Int),false),false,rfl,fun h=>(by cases h),fun _=>⟨rfl,by rw[hfd],by rw[hfd]⟩,yc [_,_,_,_,_] _ K⟩
    . obtain⟨j,hj⟩:∃ j,fM t.cs c=j+1:=⟨fM t.cs c-1,o_⟩
      have hjv:=hT.val hc hj
      have hjl:j<t.ids.length:=hjv.2.2.1
      have hjn:j<65536:=z6 hjv.2.2.2 hT.an
      refine gL d 7 ?_
      by_cases s:((fM t.ids j):Int)=(id:Int)
      . skip
        have hid:fM t.ids j=id:=by have h7:=s;omega
        refine oh (Γ:=Unit) mixed [[],[0],[0,1],[0,1,2],[],[4],[0,1,2,3,4,5],[0,1,2,3,4,5,6],[],[0,1,2,3,4,5,6,7,8]] [] d_ [fun _=>(Zb tb),fun _=>(Zb tb),fun _=>(qh tb),fun _=>t.iv,fun _=>(Za ((fM t.cs c:Nat):Int)),fun _=>(Za ((j:Nat):Int)),fun _=>(jC 1 t.iv j 0),fun _=>(Zd (fM t.ids j)),fun _=>(Zd id),fun _=>Zf] [(fun _=>(jq l { rc with state:=.busy } :: blk m 3 (Ze a) :: blk o 4 [(.bool b)] :: blk f 127 (Zj tb) :: blk g 30 (Zz id) :: blk tb 258 (oq tb ab t) :: fV jH t.iv 30 1 t.ids :: fV gP t.cv 3 1 t.cs :: LT),fun _ _=>True)] () _ rfl d (fun _ _=>trivial) ?_ f_ rfl ?_
        . skip
          refine l9 rfl rfl rfl rfl (fun _ wq hM hF=>qv rfl rfl (gU rfl CY rfl (yo hM (i:=3) rfl rfl))) (gp (fun _ _=>j6 rfl) ?_)
          refine gp (fun _ _=>jy (o' := 2) rfl yZ rfl AF rfl) ?_
          refine l9 rfl rfl rfl rfl (fun _ wq hM hF=>qv rfl rfl (gU rfl nj rfl (yo hM (i:=5) rfl rfl))) (gp (fun _ _=>iy (v:=(Za ((fM t.cs c:Nat):Int))) rfl) ?_)
          refine gp (fun _ _=>kV (e:=((j:Nat):Int)) rfl rfl rfl (by rw[iZ o_];omega)) ?_
          refine gp (fun _ _=>kz (cf:=jH) (k:=j) (i:=((j:Nat):Int)) rfl rfl nj iU (yf d (i:=6) rfl f_) o_ o_ (gA om)) ?_
          refine l9 rfl rfl rfl rfl (fun _ wq hM hF=>qv rfl rfl (mc (cf:=jH) (u:=(Zd (fM t.ids j))) rfl yg rfl (yf hM (i:=6) rfl f_) (gA om) rfl)) (l9 rfl rfl rfl rfl (fun _ wq hM hF=>qv rfl rfl (gU rfl yg rfl (yo hM (i:=4) rfl rfl))) (gp (fun _ _=>rA rfl rfl (tD s)) ?_))
          exact og
        rintro-ap M -
        refine KS tt (some l) M 11 fun aq N=>?_
        refine P7 0 N rfl rfl ?_
        intro ar O
        have hfd:t.find id=(c,true):=TW.Vx hr9 hk hj hid
        exact⟨_,rfl,(true,(c:Int),true),false,rfl,fun h=>(by cases h),fun _=>⟨rfl,by rw[hfd],by rw[hfd]⟩,yc [_,_,_,_,_] _ O⟩
      . skip
        have hid:fM t.ids j≠id:=by have h7:=s;omega
        refine oh (Γ:=Unit) mixed [[],[0],[0,1],[0,1,2],[],[4],[0,1,2,3,4,5],[0,1,2,3,4,5,6],[],[0,1,2,3,4,5,6,7,8]] [] d_ [fun _=>(Zb tb),fun _=>(Zb tb),fun _=>(qh tb),fun _=>t.iv,fun _=>(Za ((fM t.cs c:Nat):Int)),fun _=>(Za ((j:Nat):Int)),fun _=>(jC 1 t.iv j 0),fun _=>(Zd (fM t.ids j)),fun _=>(Zd id),fun _=>Zq] [(fun _=>(jq l { rc with state:=.busy } :: blk m 3 (Ze a) :: blk o 4 [(.bool b)] :: blk f 127 (Zj tb) :: blk g 30 (Zz id) :: blk tb 258 (oq tb ab t) :: fV jH t.iv 30 1 t.ids :: fV gP t.cv 3 1 t.cs :: LT),fun _ _=>True)] () _ rfl d (fun _ _=>trivial) ?_ f_ rfl ?_
        . skip
          refine l9 rfl rfl rfl rfl (fun _ wq hM hF=>qv rfl rfl (gU rfl CY rfl (yo hM (i:=3) rfl rfl))) (gp (fun _ _=>j6 rfl) ?_)
          refine gp (fun _ _=>jy (o' := 2) rfl yZ rfl AF rfl) ?_
          refine l9 rfl rfl rfl rfl (fun _ wq hM hF=>qv rfl rfl (gU rfl nj rfl (yo hM (i:=5) rfl rfl))) (gp (fun _ _=>iy (v:=(Za ((fM t.cs c:Nat):Int))) rfl) ?_)
          refine gp (fun _ _=>kV (e:=((j:Nat):Int)) rfl rfl rfl (by rw[iZ o_];omega)) ?_
          refine gp (fun _ _=>kz (cf:=jH) (k:=j) (i:=((j:Nat):Int)) rfl rfl nj iU (yf d (i:=6) rfl f_) o_ o_ (gA om)) ?_
          refine l9 rfl rfl rfl rfl (fun _ wq hM hF=>qv rfl rfl (mc (cf:=jH) (u:=(Zd (fM t.ids j))) rfl yg rfl (yf hM (i:=6) rfl f_) (gA om) rfl)) (l9 rfl rfl rfl rfl (fun _ wq hM hF=>qv rfl rfl (gU rfl yg rfl (yo hM (i:=4) rfl rfl))) (gp (fun _ _=>rA rfl rfl (Ca s)) ?_))
          exact og
        rintro-au A -
        refine iN tt (some l) A 4 ?_
        refine J9 0 A rfl hr1 hr2 rfl ?_
        intro av P
        exact⟨_,rfl,(false,a,b),true,rfl,fun _=>⟨rfl,TW.Ut hr9 hk hj hid⟩,fun h=>(by cases h),yc [_,_,_,_,_] _ P⟩
   have hpk2:=yc [_,_,_,_,_,_] _ hpk
   refine CR.mono (SO (fun((sp,a,b):Bool×Int×Bool)=>gF (KX (jq l (yB sp rc)) m a o b f tb g id)) (fun(z:Bool×Int×Bool) k c=>z.1=false/\t.rest id k c) (fun(z:Bool×Int×Bool)=>z.1=true/\z.2.1=((t.find id).1:Int)/\z.2.2=(t.find id).2) (false,0,false) l p q tb ab t id wl hround hT ⟨rfl,TW.SF t id⟩ (yd hpk2 (i:=0) rfl)) ?_
   rintro _ w9 ⟨⟨sp,a,b⟩,hz,-,hturn⟩
   have hs9:=(yp hpk2 hturn).unpack
   have Q:=yi [0,10,1,2,3,4,5,6,7,8,9] hs9
   refine⟨(sp,a,b),?_,Q⟩
   rcases hz with ⟨c,h1,h2⟩|h1
   . exact .inl ⟨h1,TW.UR h2⟩
   . exact .inr h1
 . rintro⟨sp,a,b⟩ dd aw hC hstop R
   have hf:t.find id=(0,false):=hC.elim (fun h=>h.2) (fun h=>absurd (h.1.symm.trans hstop) d_)
   refine KS tt none R 9 fun ax S=>?_
   refine Eu 0 S rfl rfl ?_
   intro w8 hs8
   have U:=yi [5,6,7,0,1,2,3,4,8,9] hs8
   have hT9:gm (Z3 tb ab t) w w8 (Z3 tb ab t):=yq (yc [_,_,_] _ U)
   exact⟨_,Js Tryz.results147 (FD rfl ye rfl (yo hs8 (i:=1) rfl rfl)) (FD rfl lR rfl (yo hs8 (i:=2) rfl rfl)),_,rfl,by rw[hf];rfl,hT9⟩
 . rintro⟨sp,a,b⟩ dd ay hC hstop B
   have hf:a=((t.find id).1:Int)/\b=(t.find id).2:=hC.elim (fun h=>absurd (h.1.symm.trans hstop) d_) (fun h=>h.2)
   refine iN tt none B 2 ?_
   refine Eu 0 B rfl rfl ?_
   intro w8 hs8
   have V:=yi [5,6,7,0,1,2,3,4,8,9] hs8
   have hT9:gm (Z3 tb ab t) w w8 (Z3 tb ab t):=yq (yc [_,_,_] _ V)
   exact⟨_,Js Tryz.results147 (FD rfl ye rfl (yo hs8 (i:=1) rfl rfl)) (FD rfl lR rfl (yo hs8 (i:=2) rfl rfl)),_,rfl,by rw[hf.1,hf.2],hT9⟩
end
section
open Go Go.Sx
theorem BC(tb ab:Nat)(t:TW)(w:World)(hO:Own (Z3 tb ab t) w)(hT:t.ok)(id:Int)(p:Nat)(b:Bool)(hf:t.find id=(p,b)) :
 CR ya 147 (qJ tb id) w (fun r w' => r = .tuple (ve p b)/\gm (Z3 tb ab t) w w' (Z3 tb ab t)):=by
 have h:=Vh tb ab t w hO hT id
 rw[hf]at h
 exact h
theorem xe(tb ab:Nat)(t:TW)(w:World)(hO:Own (Z3 tb ab t) w)(hT:t.ok) :
 CR ya 146 (Zl tb) w (fun r w' => r = .bool true/\gm (Z3 tb ab t) w w' (Z3 tb ab t)):=by
 refine en Tryz.func146 Tryz.ntmps146 ?_
 have hst0:=Own.of hO
 refine gf hst0 8 ?_
 refine qR (a:=some ⟨tb,0,none⟩) (c:=true) rfl rfl rfl CY rfl (fQ hst0 6 ?_)
 refine Fj (a:=⟨tb,0,none⟩) rfl rfl rfl CY EN (fW hst0 5 ?_)
 refine gw (v:=Zf) Tryz.results146 rfl ?_
 exact⟨rfl,yq (yc [_,_,_] _ hst0)⟩
theorem VQ(tb ab:Nat)(t:TW)(w:World)(hO:Own (TW.R tb ab t) w)(id:Int)(i:Nat)(hi:t.A.ia i)(hid:fM t.ids i=id) :
 CR ya 88 (qJ tb id) w (fun r w' => r = .tuple (Kq i)/\gm (TW.R tb ab t) w w' (TW.R tb ab t)):=by
 have hnl:t.cs.length=t.n:=rfl
 have htop:=hO.fact.top
 obtain⟨p,hp,hc,hf⟩:=hO.fact.Ir hi
 rw[hid]at hf
 have hin:=(hO.fact.val hp hc).2.2.2
 have hin2:i<65536:=z6 hin hO.fact.an
 have hil:=(hO.fact.val hp hc).2.2.1
 refine en Tryz.func88 Tryz.ntmps88 ?_
 have hst0:=Own.of hO.un
 have hT:t.ok:=hO.fact
 have b:=yc [_,_,_] _ hst0
 refine gf hst0 10 ?_
 refine cl xB (xe tb ab t w (yd b (i:=0) rfl) hT) ?_
 rintro _ f ⟨rfl,ht⟩
 have c:=(yp b ht)
 have d:=yc [_,_,_] _ c
 refine fQ c 10 ?_
 refine cl B2 (BC tb ab t f (yd d (i:=0) rfl) hT id p true hf) ?_
 rintro _ g ⟨rfl,ht⟩
 have a:=(yp d ht)
 refine fQ a 24 ?_
 refine jj (cf:=gP) (k:=p) (i:=(p:Int)) rfl rfl rfl yh gn (yf a (i:=2) rfl f_) o_ o_ (gA om) (l6 (cf:=gP) rfl rfl ye rfl (yf a (i:=2) rfl f_) (gA om) rfl (ar (e:=((i:Nat):Int)) rfl rfl rfl rfl (by rw[iZ o_];omega) (fW a 5 ?_)))
 refine jU (v:=(Za ((i:Nat):Int))) (v' := Zf) Tryz.results88 rfl rfl ?_
 exact⟨rfl,yv (yw (p:=(t:TW).ok) (yc [_,_,_,_] _ a) hT) zh⟩
theorem Vc(tb ab:Nat)(t:TW)(w:World)(hO:Own (TW.R tb ab t) w)(id:Int)(hn:¬ t.mem id) :
 CR ya 88 (qJ tb id) w (fun r w' => r = .tuple K9/\gm (TW.R tb ab t) w w' (TW.R tb ab t)):=by
 have hnl:t.cs.length=t.n:=rfl
 have htop:=hO.fact.top
 obtain⟨p,hp,hf,h0,hw⟩:=hO.fact.MJ hn
 refine en Tryz.func88 Tryz.ntmps88 ?_
 have hst0:=Own.of hO.un
 have hT:t.ok:=hO.fact
 have a:=yc [_,_,_] _ hst0
 refine gf hst0 10 ?_
 refine cl xB (xe tb ab t w (yd a (i:=0) rfl) hT) ?_
 rintro _ e ⟨rfl,ht⟩
 have b:=(yp a ht)
 have c:=yc [_,_,_] _ b
 refine fQ b 10 ?_
 refine cl B2 (BC tb ab t e (yd c (i:=0) rfl) hT id p false hf) ?_
 rintro _ f ⟨rfl,ht⟩
 have d:=(yp c ht)
 refine fW d 23 ?_
 refine jU (v:=Zc) (v' := Zq) Tryz.results88 rfl rfl ?_
 exact⟨rfl,yv (yw (p:=(t:TW).ok) (yc [_,_,_,_] _ d) hT) zh⟩
theorem D6(tb ab:Nat)(t:TW)(w:World)(hO:Own (TW.R tb ab t) w)(id:Int) :
 CR ya 88 (qJ tb id) w (fun r w' => ∃ (z:Nat) (b:Bool),r = .tuple (ve z b)/\TW.wC t id z b/\gm (TW.R tb ab t) w w' (TW.R tb ab t)):=by
 by_cases hm:t.mem id
 . obtain⟨i,hi,hid⟩:=hm
   exact CR.mono (VQ tb ab t w hO id i hi hid) fun r w' ⟨h1,h2⟩=>⟨i,true,h1,.inl ⟨rfl,hi,hid⟩,h2⟩
 . exact CR.mono (Vc tb ab t w hO id hm) fun r w' ⟨h1,h2⟩=>⟨0,false,h1,.inr ⟨rfl,rfl,hm⟩,h2⟩
theorem WM(tb ab:Nat)(t:TW)(w:World)(hO:Own (TW.R tb ab t) w) :
 CR ya 87 (Zl tb) w (fun r w' => r = .int .i64 (t.A.used:Int)/\gm (TW.R tb ab t) w w' (TW.R tb ab t)):=by
 have hT:=hO.fact
 refine en Tryz.func87 Tryz.ntmps87 ?_
 have hst0:=Own.of hO.un
 have hT:t.ok:=hO.fact
 have b:=yc [_,_,_] _ hst0
 refine gf hst0 9 ?_
 refine cl xB (xe tb ab t w (yd b (i:=0) rfl) hT) ?_
 rintro _ d ⟨rfl,ht⟩
 have a:=(yp b ht)
 refine fQ a 12 ?_
 refine cl JD (ID ab t.w d (yd a (i:=3) rfl)) ?_
 rintro _ e ⟨rfl,ht⟩
 have c:=yu 3 a ht
 refine fW c 4 ?_
 refine gw (v:=(Za t.A.used)) Tryz.results87 rfl ?_
 exact⟨rfl,yv (yw (p:=(t:TW).ok) (yc [_,_,_,_] _ c) hT) zh⟩
theorem UU(tb ab:Nat)(t:TW)(w:World)(hO:Own (TW.R tb ab t) w)(id:Int)(i:Nat)(hi:t.A.ia i)(hid:fM t.ids i=id) :
 CR ya 106 (qJ tb id) w (fun r w' => r = .tuple #[.int .i64 (i:Int),.bool false,.int .i64 0]/\gm (TW.R tb ab t) w w' (TW.R tb ab t)):=by
 have hnl:t.cs.length=t.n:=rfl
 have htop:=hO.fact.top
 obtain⟨p,hp,hc,hf⟩:=hO.fact.Ir hi
 rw[hid]at hf
 have hin:=(hO.fact.val hp hc).2.2.2
 have hin2:i<65536:=z6 hin hO.fact.an
 have hil:=(hO.fact.val hp hc).2.2.1
 refine en Tryz.func106 Tryz.ntmps106 ?_
 have hst0:=Own.of hO.un
 have hT:t.ok:=hO.fact
 have b:=yc [_,_,_] _ hst0
 refine gf hst0 11 ?_
 refine cl xB (xe tb ab t w (yd b (i:=0) rfl) hT) ?_
 rintro _ f ⟨rfl,ht⟩
 have c:=(yp b ht)
 have d:=yc [_,_,_] _ c
 refine fQ c 10 ?_
 refine cl B2 (BC tb ab t f (yd d (i:=0) rfl) hT id p true hf) ?_
 rintro _ g ⟨rfl,ht⟩
 have a:=(yp d ht)
 refine fQ a 21 ?_
 refine jj (cf:=gP) (k:=p) (i:=(p:Int)) rfl rfl rfl yh gn (yf a (i:=2) rfl f_) o_ o_ (gA om) (l6 (cf:=gP) rfl rfl ye rfl (yf a (i:=2) rfl f_) (gA om) rfl (ar (e:=((i:Nat):Int)) rfl rfl rfl rfl (by rw[iZ o_];omega) (fW a 7 ?_)))
 refine J3 (v:=(Za ((i:Nat):Int))) (v' := Zq) (v'' := Zc) Tryz.results106 rfl rfl rfl ?_
 exact⟨rfl,yv (yw (p:=(t:TW).ok) (yc [_,_,_,_] _ a) hT) zh⟩
theorem VL(tb ab:Nat)(t:TW)(w:World)(hO:Own (TW.R tb ab t) w)(id:Int)(hn:¬ t.mem id)(hid:ij .u64 id)(hu:t.A.used<t.A.n) :
 CR ya 106 (qJ tb id) w (fun r w' => ∃ (i:Nat) (t2:TW),r = .tuple #[.int .i64 (i:Int),.bool true,.int .i64 0]/\((∀ x,t2.mem x↔t.mem x\/x=id)/\t2.A.n=t.A.n/\t2.A.used=t.A.used+1)/\gm (TW.R tb ab t) w w' (TW.R tb ab t2)):=by
 have hnl:t.cs.length=t.n:=rfl
 have htop:=hO.fact.top
 obtain⟨p,hp,hf,h0,hw⟩:=hO.fact.MJ hn
 have hil:t.ids.length=t.w.A.begun:=hO.fact.yL
 have hla:(t.ids++[0]).length=t.ids.length+1:=by simp
 have hbeg:t.w.A.begun<=t.w.A.n:=hO.fact.o5
 have han:t.w.A.n<=65536:=hO.fact.an
 refine en Tryz.func106 Tryz.ntmps106 ?_
 have hst0:=Own.of hO.un
 have hT:t.ok:=hO.fact
 have q:=yc [_,_,_] _ hst0
 refine gf hst0 11 ?_
 refine cl xB (xe tb ab t w (yd q (i:=0) rfl) hT) ?_
 rintro _ C ⟨rfl,ht⟩
 have s:=(yp q ht)
 have u:=yc [_,_,_] _ s
 refine fQ s 10 ?_
 refine cl B2 (BC tb ab t C (yd u (i:=0) rfl) hT id p false hf) ?_
 rintro _ D ⟨rfl,ht⟩
 have h:=(yp u ht)
 refine fQ h 22 ?_
 refine cl OD (My ab t.w D (yd h (i:=3) rfl) hu) ?_
 rintro _ H ⟨a,b,rfl,e,ht⟩
 have d:=yu 3 h ht
 have hA9:=(kj d (i:=3) rfl:b.A.ok)
 have hib:a<=t.ids.length:=by rcases e.o5 with h9|h9<;>omega
 have hib2:a<=65536:=by omega
 refine fQ d 25 ?_
 refine mY (m:=t.ids.length) 1 rfl rfl nj d rfl ?_
 by_cases I:(((a:Nat):Int):Int)=((t.ids.length:Int):Int)
 . refine fQ d 10 ?_
   refine lC (vs:=CX) (cs:=CX) rfl rfl nj iU rfl (by simp[Value.cells]) rfl rfl rfl d (fun E J K L y=>mZ (cf:=jH) (ys:=t.ids) (zs:=[0]) (LL:=fun c=>[iB .u64 (Zy E) 30 ([0]),blk tb 258 (oq tb ab t),fV jH c 30 1 (t.ids++[0]),fV gP t.cv 3 1 t.cs,(AW.R ab b)]) 2 rfl rfl rfl nj iU rfl d_ y rfl (mh y (i:=0) rfl) (fun x hx=>zz.1 (show List.all _ _=true from rfl) x hx) (by simp only[zk,zq,maxLen];omega) (by simp only[zk,zq,maxLen];omega) f_ ?_)
   intro c M G N
   have g:=yi [1,2,3,4] G
   refine fQ g 2 ?_
   refine nq (L' := (Re tb ab c t (t.ids++[0]) b)) 0 rfl rfl rfl (cells_one (mS g (i:=1) rfl)) AF rfl (oW (mS g (i:=1) rfl) uJ) g rfl rfl rfl rfl (fun O j=>fQ j 10 ?_)
   refine jj (cf:=jH) (k:=a) (i:=((a:Nat):Int)) rfl rfl rfl nj iU (yf j (i:=1) rfl f_) o_ o_ (gA om) (se (f:=(fun _=>id)) (L' := (Re tb ab c t (fR (t.ids++[0]) a (fun _=>id)) b)) 1 rfl rfl rfl rfl iU rfl rfl j rfl f_ om rfl rfl rfl (fun P l=>fQ l 11 ?_))
   refine jj (cf:=gP) (k:=p) (i:=(p:Int)) rfl rfl rfl yh gn (yf l (i:=2) rfl f_) o_ o_ (gA om) (se (f:=(fun _=>(a+1))) (L' := [blk tb 258 [(Zb tb),(Zb ab),c,t.cv],fV jH c 30 1 (fR (t.ids++[0]) a (fun _=>id)),fV gP t.cv 3 1 (fR t.cs p (fun _=>(a+1))),(AW.R ab b)]) 2 rfl rfl rfl rfl gn rfl rfl l rfl f_ om rfl rfl rfl (fun Q z=>fW z 11 ?_))
   refine J3 (v:=(Za ((a:Nat):Int))) (v' := Zf) (v'' := Zc) Tryz.results106 rfl rfl rfl ?_
   have hpo:=hT.put hn hid hA9 e hp h0 hw c t.cv (is2:=fR (t.ids++[0]) a (fun _=>id)) (cs2:=fR t.cs p (fun _=>(a+1))) (by unfold xP;rw[if_pos o_]) rfl
   exact⟨a,⟨c,t.cv,b,fR (t.ids++[0]) a (fun _=>id),fR t.cs p (fun _=>(a+1))⟩,rfl,⟨hpo.2,e.n,e.used⟩,yv (yw (p:=(⟨c,t.cv,b,fR (t.ids++[0]) a (fun _=>id),fR t.cs p (fun _=>(a+1))⟩:TW).ok) (yc [_,_,_,_] _ z) hpo.1) zh⟩
 . refine fQ d 14 ?_
   refine jj (cf:=jH) (k:=a) (i:=((a:Nat):Int)) rfl rfl rfl nj iU (yf d (i:=1) rfl f_) o_ o_ (gA om) (se (f:=(fun _=>id)) (L' := [blk tb 258 (oq tb ab t),fV jH t.iv 30 1 (fR t.ids a (fun _=>id)),fV gP t.cv 3 1 t.cs,(AW.R ab b)]) 1 rfl rfl rfl rfl iU rfl rfl d rfl f_ om rfl rfl rfl (fun S o=>fQ o 11 ?_))
   refine jj (cf:=gP) (k:=p) (i:=(p:Int)) rfl rfl rfl yh gn (yf o (i:=2) rfl f_) o_ o_ (gA om) (se (f:=(fun _=>(a+1))) (L' := (Rj tb ab t (fR t.ids a (fun _=>id)) (fR t.cs p (fun _=>(a+1))) b)) 2 rfl rfl rfl rfl gn rfl rfl o rfl f_ om rfl rfl rfl (fun U B=>fW B 11 ?_))
   refine J3 (v:=(Za ((a:Nat):Int))) (v' := Zf) (v'' := Zc) Tryz.results106 rfl rfl rfl ?_
   have hpo:=hT.put hn hid hA9 e hp h0 hw t.iv t.cv (is2:=fR t.ids a (fun _=>id)) (cs2:=fR t.cs p (fun _=>(a+1))) (by unfold xP;rw[if_neg o_]) rfl
   exact⟨a,⟨t.iv,t.cv,b,fR t.ids a (fun _=>id),fR t.cs p (fun _=>(a+1))⟩,rfl,⟨hpo.2,e.n,e.used⟩,yv (yw (p:=(⟨t.iv,t.cv,b,fR t.ids a (fun _=>id),fR t.cs p (fun _=>(a+1))⟩:TW).ok) (yc [_,_,_,_] _ B) hpo.1) zh⟩
end
section
open Go Go.Sx
theorem Ub(tb ab:Nat)(t:TW)(cs2:List Nat)(hl:cs2.length=t.n)(w:World)(hO:Own (Gu tb ab t cs2) w)(hT:TW.Sz t.n)(id:Int) :
 CR ya 203 (qJ tb id) w (fun r w' => r = .int .i64 ((kI t.n id:Nat):Int)/\gm (Gu tb ab t cs2) w w' (Gu tb ab t cs2)):=by
 have h9:TW.n ⟨t.iv,t.cv,t.w,t.ids,cs2⟩=t.n:=hl
 have h:=Nf tb ab ⟨t.iv,t.cv,t.w,t.ids,cs2⟩ w hO (by rw[h9];exact hT) id
 rw[h9]at h
 exact h
theorem TQ(tb ab:Nat)(t:TW)(w:World)(hO:Own (Z3 tb ab t) w)(hT:t.ok)(p i:Nat)(hp:p<t.n)(hc:fM t.cs p=i+1) :
 CR ya 153 (Zn tb ((p:Nat):Int)) w (fun r w' => r = .tuple #[]/\∃ cs2,cs2.length=t.n/\(rL t.n cs2 (fun j=>kI t.n (fM t.ids j))/\(∀ p q,p<t.n->q<t.n->fM cs2 p≠0->fM cs2 p=fM cs2 q->p=q)/\(∀ i2,(∃ p,p<t.n/\fM cs2 p=i2+1)↔i2≠i/\∃ p,p<t.n/\fM t.cs p=i2+1))/\gm (Z3 tb ab t) w w' (Gu tb ab t cs2)):=by
 have hnl:t.cs.length=t.n:=rfl
 have h2t:=hT.two
 have htop:=hT.top
 have hpos:0<t.n:=by omega
 obtain⟨z,hz,hz0⟩:=hT.zero
 have hC0:o8 t.n (fun j=>kI t.n (fM t.ids j)) i t.cs t.cs p p z:=o8.start hT.Gi rfl hp hc hz hz0 (fun q j _ _=>xu hpos) hT.inj
 refine en Tryz.func153 Tryz.ntmps153 ?_
 have hst0:=Own.of hO
 refine gf hst0 7 ?_
 refine mY (m:=t.cs.length) 2 rfl rfl yh hst0 rfl (gL hst0 15 ?_)
 refine lp (α:=List Nat×Nat×Nat) (fun(cs,hole,c)=>[(0,(Zb tb)),(1,(Za ((hole:Nat):Int))),(4,(Za ((t.cs.length:Int)-1))),(5,(Za ((c:Nat):Int)))]) (fun(cs,hole,c) w1=>St [(w,(Z3 tb ab t).gT)] (F7 tb ab t cs) w1/\o8 t.n (fun j=>kI t.n (fM t.ids j)) i t.cs cs hole c z) (fun(cs,hole,c)=>dst t.n c z) (t.cs,p,p) ⟨rfl,gD (by first|rfl|omega),rfl,gD (by first|rfl|omega),trivial⟩ (⟨hst0,hC0⟩) ?_
 rintro⟨cs,hole,c⟩ v u ⟨hst3,hC⟩
 have hnx:=hC.next
 have hxl:gZ t.n c<t.n:=hnx.1
 have hhl:=hC.vX
 have hcl:=hC.Qt
 have hln:=hC.len
 refine gf hst3 6 ?_
 refine bi (a:=((c:Nat):Int)+1) (b:=(t.cs.length:Int)-1) (e:=((gZ t.n c:Nat):Int)) rfl rfl rfl (hT.p2.nx hcl) (fQ hst3 10 ?_)
 refine jj (cf:=gP) (k:=(gZ t.n c)) (i:=((gZ t.n c:Nat):Int)) rfl rfl rfl yh gn (yf hst3 (i:=2) rfl f_) o_ o_ (gA om) (l6 (cf:=gP) rfl rfl ye rfl (yf hst3 (i:=2) rfl f_) (gA om) rfl (fQ hst3 7 ?_))
 by_cases g:((((fM cs (gZ t.n c)):Nat):Int):Int)=(0:Int)
 . have h00:fM cs (gZ t.n c)=0:=by have h7:=@g;omega
   refine fQ hst3 16 ?_
   refine jj (cf:=gP) (k:=hole) (i:=((hole:Nat):Int)) rfl rfl rfl yh gn (yf hst3 (i:=2) rfl f_) o_ o_ (gA om) (se (f:=(fun _=>0)) (L' := (F7 tb ab t (fR cs hole (fun _=>0)))) 2 rfl rfl rfl rfl gn rfl rfl hst3 rfl f_ om rfl rfl rfl (fun x h=>fW h 2 ?_))
   refine jA Tryz.results153 ?_
   exact⟨rfl,fR cs hole (fun _=>0),by rw[gJ];exact hC.len,hC.done h00 ⟨p,hp,hc⟩,yq (yc [_,_,_] _ h)⟩
 . obtain⟨j,hj⟩:∃ j,fM cs (gZ t.n c)=j+1:=⟨fM cs (gZ t.n c)-1,by have h7:=@g;omega⟩
   obtain⟨hji,q9,hq9,hcq⟩:=(hC.mem j).1 ⟨gZ t.n c,hxl,hnx.2.1,hj⟩
   have hjv:=hT.val hq9 hcq
   have hjl:j<t.ids.length:=hjv.2.2.1
   have hjn:j<65536:=z6 hjv.2.2.2 hT.an
   have hhj:=xu (id:=fM t.ids j) hpos
   refine fQ hst3 1 ?_
   rw[hj]
   refine fQ hst3 15 ?_
   refine ar (e:=((j:Nat):Int)) rfl rfl rfl rfl (by rw[iZ o_];omega) (jj (cf:=jH) (k:=j) (i:=((j:Nat):Int)) rfl rfl rfl nj iU (yf hst3 (i:=1) rfl f_) o_ o_ (gA om) (l6 (cf:=jH) rfl rfl yg rfl (yf hst3 (i:=1) rfl f_) (gA om) rfl ?_))
   have l:=yc [_,_,_] _ hst3
   refine cl N9 (Ub tb ab t cs hC.len u (yd l (i:=0) rfl) hT.sz (fM t.ids j)) ?_
   rintro _ y ⟨rfl,ht⟩
   have d:=(yp l ht)
   refine fQ d 2 ?_
   refine bi (a:=((gZ t.n c:Nat):Int)-((kI t.n (fM t.ids j):Nat):Int)) (b:=(t.cs.length:Int)-1) (e:=((dst t.n (kI t.n (fM t.ids j)) (gZ t.n c):Nat):Int)) rfl rfl rfl (hT.p2.dst hhj hxl) (fQ d 4 ?_)
   refine bi (a:=((gZ t.n c:Nat):Int)-((hole:Nat):Int)) (b:=(t.cs.length:Int)-1) (e:=((dst t.n hole (gZ t.n c):Nat):Int)) rfl rfl rfl (hT.p2.dst hhl hxl) ?_
   by_cases o:(((dst t.n (kI t.n (fM t.ids j)) (gZ t.n c):Nat):Int):Int)<(((dst t.n hole (gZ t.n c):Nat):Int):Int)
   . have hlt:(dst t.n (kI t.n (fM t.ids j)) (gZ t.n c)<dst t.n hole (gZ t.n c)):=by have h7:=o;omega
     refine fW d 7 ?_
     refine tN (?_)
     exact again (cs,hole,(gZ t.n c)) ⟨rfl,rfl,rfl,gD (by first|rfl|omega),trivial⟩ (⟨d,hC.skip hj hlt⟩) (by show dst t.n (gZ t.n c) z<dst t.n c z;exact hnx.2.2.2.2)
   . have hlt:¬ (dst t.n (kI t.n (fM t.ids j)) (gZ t.n c)<dst t.n hole (gZ t.n c)):=by have h7:=o;omega
     refine fQ d 14 ?_
     refine jj (cf:=gP) (k:=hole) (i:=((hole:Nat):Int)) rfl rfl rfl yh gn (yf d (i:=2) rfl f_) o_ o_ (gA om) (se (f:=(fun _=>(j+1))) (L' := (F7 tb ab t (fR cs hole (fun _=>(j+1))))) 2 rfl rfl rfl rfl gn rfl rfl d rfl f_ om rfl rfl rfl (fun A s=>fW s 7 ?_))
     refine tN (?_)
     exact again (fR cs hole (fun _=>(j+1)),(gZ t.n c),(gZ t.n c)) ⟨rfl,gD (by first|rfl|omega),rfl,gD (by first|rfl|omega),trivial⟩ (⟨s,hC.move hj hlt⟩) (by show dst t.n (gZ t.n c) z<dst t.n c z;exact hnx.2.2.2.2)
end
end Go.Proofs.YtdopagghhibopaaGreat
