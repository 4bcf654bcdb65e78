/- What the functions that the statements reach do: walks through the code of the program and of the references, one theorem a function; under what is said of its arguments. -/
import Derived.Test.YtedjjkcihkmjgaaGreatDoorFb
import Derived.Test.YtedjjkcihkmjgaaGreatDoorFa
import Derived.Test.YtedjjkcihkmjgaaGreatDoorFc
import Derived.Test.YtedjjkcihkmjgaaGreatDoorFd
import Derived.Test.YtedjjkcihkmjgaaGreatDoorProg
import Derived.KernelRfl
set_option linter.unusedVariables false
set_option linter.unusedSimpArgs false
set_option maxRecDepth 100000
set_option maxHeartbeats 4000000
namespace Go.Proofs.YtedjjkcihkmjgaaGreatDoor
section
open Go Go.Sx
noncomputable abbrev ya:=@Tryz.prog
abbrev yc:=@St.pack
abbrev yd:=@Tryz.underlying37
abbrev ye:=@St.oR
abbrev yf:=@Tryz.underlying3
abbrev yg:=@St.re
abbrev yh:=@Tryz.underlying389
abbrev yi:=@St.eT
abbrev yj:=@St.tn
abbrev yk:=@St.tu
abbrev ym:=@St.Eu
abbrev yn:=@Tryz.underlying39
abbrev yo:=@Tryz.underlying169
abbrev yp:=@St.grow
abbrev yq:=@St.Jn
abbrev yr:=@St.aeh
abbrev yt:=@St.qb
abbrev yu:=@St.init
abbrev yv:=@St.unpack
abbrev yw:=@St.reR
abbrev yx:=@Tryz.underlying172
abbrev yy:=@St.CW
abbrev yz:=@Tryz.underlying27
abbrev y0:=@St.rr
abbrev y8:=@St.YY
abbrev y9:=@Tryz.underlying4
abbrev oq:=@Tryz.underlying128
abbrev ot:=@Tryz.underlying382
abbrev ow:=@Tryz.underlying78
abbrev pI:=@Tryz.underlying323
abbrev jR:=@St.made
abbrev kG:=@St.aem
abbrev pJ:=@Tryz.underlying28
abbrev kK:=@St.KQ
abbrev me:=@St.HV
abbrev kZ:=@St.Vs
abbrev qD:=@Tryz.underlying35
abbrev rA:=@Tryz.underlying374
abbrev sB:=@Tryz.underlying212
abbrev mV:=@St.KH
abbrev qE:=@Tryz.results322
abbrev lC:=@St.perm
abbrev lJ:=@St.Kr
abbrev ku:=@St.un
abbrev vt:=@Tryz.underlying183
abbrev vu:=@Tryz.underlying383
abbrev mh:=@St.LW
abbrev oQ:=@St.Ef
abbrev uh:=@Tryz.results134
abbrev xh:=@Tryz.underlying188
abbrev vw:=@Tryz.underlying2
abbrev xl:=@Tryz.underlying250
abbrev xg:=@Tryz.underlying43
abbrev vp:=@Tryz.results275
abbrev vq:=@Tryz.results344
abbrev zB:=@Tryz.underlying223
abbrev zC:=@Tryz.underlying229
abbrev zD:=@Tryz.underlying267
abbrev zF:=@Tryz.underlying399
abbrev lT:=@St.bc
abbrev ug:=@St.aaO
abbrev vr:=@St.UU
abbrev Bw:=@Tryz.underlying276
abbrev Bx:=@Tryz.underlying381
abbrev zI:=@Tryz.results142
abbrev By:=@Tryz.underlying23
abbrev Bz:=@Tryz.underlying81
abbrev uk:=@St.yO
abbrev nS:=@St.eM
abbrev vz:=@St.OJ
abbrev BA:=@Tryz.results120
abbrev Dj:=@Tryz.underlying179
abbrev Dk:=@Tryz.underlying232
abbrev Dl:=@Tryz.underlying385
abbrev Dm:=@Tryz.underlying41
abbrev sC:=@St.fact
abbrev xm:=@St.aei
abbrev Dp:=@Tryz.results343
abbrev Gx:=@Tryz.underlying100
abbrev Gy:=@Tryz.underlying106
abbrev Gz:=@Tryz.underlying110
abbrev GA:=@Tryz.underlying114
abbrev GB:=@Tryz.underlying152
abbrev GC:=@Tryz.underlying190
abbrev GD:=@Tryz.underlying211
abbrev GF:=@Tryz.underlying291
abbrev GG:=@Tryz.underlying371
abbrev GH:=@Tryz.underlying401
abbrev zG:=@St.Y4
abbrev Gp:=@Tryz.underlying73
abbrev Gq:=@Tryz.underlying94
abbrev zH:=@St.Y3
abbrev Bv:=@St.VG
abbrev Di:=@St.WM
abbrev Gs:=@Tryz.results171
abbrev Gt:=@Tryz.results325
abbrev Gu:=@Tryz.results341
abbrev Gv:=@Tryz.results359
abbrev GI:=@Tryz.results75
abbrev GJ:=@Tryz.results78
theorem k_{p:Prop}(h:p:=by kernel_rfl):p:=h
theorem f_{p:Prop}(h:p:=by exact fun _=>rfl):p:=h
abbrev p_:Value×List Nat->Value:=Prod.fst
end
section
open Go Go.Sx
abbrev Zh:=(.bool true:Value)
abbrev Zp:=(.bool false:Value)
abbrev Zc:=(.int .i64 0:Value)
abbrev qn:=(.int .i64 1:Value)
abbrev rQ:=(.int .i64 4:Value)
abbrev zW:=(.int .i64 6:Value)
abbrev xF:=(.int .i64 9:Value)
abbrev tH:=(.int .u64 0:Value)
abbrev vM:=(.int .u64 1:Value)
abbrev zX:=(.int .u64 2:Value)
abbrev vN:=(.int .u64 3:Value)
abbrev xE:=(.int .i64 10:Value)
abbrev Am:=([.int .i64 0]:List Value)
abbrev B4:=([.int .u64 0]:List Value)
abbrev Za(a:Int):=(.int .i64 a:Value)
abbrev Zo(a:Int):=(.int .u64 a:Value)
abbrev Zt:=(.pointer none:Value)
abbrev Zw:=(.int .i64 (-1):Value)
abbrev Zd(a:Int):=([.int .i64 a]:List Value)
abbrev Zq(a:Int):=([.int .u64 a]:List Value)
abbrev Zg:=(.slice none 0 0:Value)
abbrev Z4(a:Int):=(#[.int .i64 a]:Array Value)
abbrev xA(a:Int):=(#[.int .u64 a]:Array Value)
abbrev o4:=([.slice none 0 0]:List Value)
abbrev rN a b:=(fL fW a 3 1 b:fT)
abbrev Z7 a b:=(fL fS a 3 1 b:fT)
abbrev rP a b:=(fL gO a 39 1 b:fT)
abbrev D8:=(.func (.func 43) #[] #[]:Value)
abbrev vJ:=([.int .i64 0,.int .i64 0]:List Value)
abbrev xJ:=([.int .u64 0,.int .i64 0]:List Value)
abbrev Hj:=(#[.int .i64 0,.bool false]:Array Value)
abbrev qo(a:Int)(b:Bool):=(#[.int .i64 a,.bool b]:Array Value)
abbrev Ho:=(#[.int .u64 0,.int .i64 0]:Array Value)
abbrev Hq:=(#[.int .u64 1,.int .u64 3]:Array Value)
abbrev B8 a b:=(fL Ge.cells a 110 3 b:fT)
abbrev BW(a:Int):=(#[.bool true,.int .u64 a]:Array Value)
abbrev DP(a:Int):=(#[.int .i64 a,.bool true]:Array Value)
abbrev B9 a b:=(fL i6.cells a 169 2 b:fT)
abbrev xz(a:Int):=(#[.int .i64 a,.int .i64 0]:Array Value)
abbrev Zn(a b:Int):=([.int .i64 a,.int .i64 b]:List Value)
abbrev D5(a b:Int):=([.int .u64 a,.int .i64 b]:List Value)
abbrev Zb(a:Nat):=(.pointer (some ⟨a,0,none⟩):Value)
abbrev Zx(a b:Int):=(#[.int .i64 a,.int .i64 b]:Array Value)
abbrev vI(a b:Int):=(#[.int .u64 a,.int .u64 b]:Array Value)
abbrev Zf(a:Nat):=([.pointer (some ⟨a,0,none⟩)]:List Value)
abbrev HH:=(.agg #[.int .i64 0,.int .i64 0]:Value)
abbrev Zy(a:Nat):=(.slice (some ⟨a,0,none⟩) 1 1:Value)
abbrev xG(a:Nat):=(.slice (some ⟨a,0,none⟩) 2 2:Value)
abbrev HO(a:Nat):=(.slice (some ⟨a,0,none⟩) 3 3:Value)
abbrev Zi(a:Nat):=(#[.pointer (some ⟨a,0,none⟩)]:Array Value)
abbrev pW(a:fU) b:=gh a.im ((fJ a.live b).u)
abbrev uH(a:fU) b:=je a.im ((fJ a.live b).u)
abbrev Ea(a b:Nat):=(.slice (some ⟨a,0,none⟩) 0 b:Value)
abbrev Ca(a b:Int):=(.agg (Zx a b):Value)
abbrev HJ(a b:Int):=(.agg (vI a b):Value)
abbrev Ze(a b:Nat):=(.slice (some ⟨a,0,none⟩) b b:Value)
abbrev Hr(a:Nat) b:=(#[.pointer (some ⟨a,0,none⟩),b]:Array Value)
abbrev G6 a (b:Nat):=(#[a,.pointer (some ⟨b,0,none⟩)]:Array Value)
abbrev D3(a b:Int):=([.agg (Zx a b)]:List Value)
abbrev qq(a b:Nat):=([.slice (some ⟨a,0,none⟩) b b]:List Value)
abbrev Zr(a:Int) b c d e f:=([.int .i64 a,b,c,d,e,f]:List Value)
abbrev Zv(a:Nat)(b c:Int):=(blk a 247 (Zn b c):fT)
abbrev M8(a:gG):=(.agg #[.int .i64 a.ix,.int .i64 a.key]:Value)
abbrev He(a:Nat) b c:=(gm [blk a 37 [b],fL fW b 3 1 c]:fT)
abbrev Z0(a:Nat):=(#[.pointer (some ⟨a,0,none⟩),.int .i64 0]:Array Value)
abbrev B0(a:Int) b c d e f:=(.agg #[.int .i64 a,b,c,d,e,f]:Value)
abbrev xK(a:Int)(b:Nat):=([.int .i64 a,.pointer (some ⟨b,0,none⟩)]:List Value)
abbrev tF(a:Nat)(b:Int):=([.pointer (some ⟨a,0,none⟩),.int .i64 b]:List Value)
abbrev Ce(a:Nat) b c d:=([.pointer (some ⟨a,0,none⟩),b,c,d]:List Value)
abbrev BU:=(#[.agg #[.int .i64 0,.int .i64 0],.bool false]:Array Value)
abbrev BX(a:Int)(b:Nat):=(#[.int .i64 a,.pointer (some ⟨b,0,none⟩)]:Array Value)
abbrev Zm(a:Nat)(b:Int):=(#[.pointer (some ⟨a,0,none⟩),.int .i64 b]:Array Value)
abbrev Z2(a:Nat)(b:Int):=(#[.pointer (some ⟨a,0,none⟩),.int .u64 b]:Array Value)
abbrev D4(a:Int) b c d e f:=([.agg #[.int .i64 a,b,c,d,e,f]]:List Value)
abbrev DO(a:Int) b c d e f:=(#[.agg #[.int .i64 a,b,c,d,e,f]]:Array Value)
abbrev MT a (b c:Int):=(#[a,.int .i64 0,.int .i64 b,.int .i64 c]:Array Value)
abbrev Ai(a:WW)(b:Int):=(blk a.cb 247 (Zn b a.now):fT)
abbrev BV(a b:Int):=(#[.agg (Zx a b),.bool true]:Array Value)
abbrev DW a b (c:List Ge):=(⟨(fJ a b),((fJ c (fJ a b)).u)⟩:jI)
abbrev tG a b (c:List Ge):=(⟨(fJ a b),((fJ c (fJ a b)).v)⟩:jI)
abbrev NF a b:=fJ (iL a b (jD a b)) (jD a b)
abbrev D9(a:Nat):=(.func (.func 44) #[] (Zi a):Value)
abbrev ND a b:=(ic a .u64 p_ b:fT)
abbrev M9(a:Nat):=(.func (.func 321) (Zi a) #[]:Value)
abbrev Na(a:Nat):=(.func (.func 322) (Zi a) #[]:Value)
abbrev pX(a:Nat)(b:Int) c d:=([.pointer (some ⟨a,0,none⟩),.int .i64 b,c,d]:List Value)
abbrev Nb(a b:Int):=(.tuple #[.agg (Zx a b),.int .i64 0]:Value)
abbrev HC(a b c d:Int):=([.int .i64 a,.int .i64 b,.int .i64 c,.int .i64 d]:List Value)
abbrev Aa(a:Nat)(b c:Int):=([.pointer (some ⟨a,0,none⟩),.int .i64 b,.int .i64 c]:List Value)
abbrev Zu(a:Nat)(b c:Int):=(#[.pointer (some ⟨a,0,none⟩),.int .i64 b,.int .i64 c]:Array Value)
abbrev Z9(a:fU) b:=gh (uH a b) ((fJ a.live b).v)
abbrev BZ(a:Int) b c d e f (g:Int):=(#[.agg #[.int .i64 a,b,c,d,e,f],.int .i64 g]:Array Value)
abbrev qp(a b:Nat):=([.pointer (some ⟨a,0,none⟩),.pointer (some ⟨b,0,none⟩)]:List Value)
abbrev Aj(a:fU) b:=je (uH a b) ((fJ a.live b).v)
abbrev xH(a b:Nat):=(#[.pointer (some ⟨a,0,none⟩),.pointer (some ⟨b,0,none⟩)]:Array Value)
abbrev Hg(a b:Nat):=(gm [blk a 81 o4,blk b 78 o4]:fT)
abbrev DY(a b c d:Int):=(.agg #[.int .i64 a,.int .i64 b,.int .i64 c,.int .i64 d]:Value)
abbrev MP(a b c d:Int):=(#[.agg #[.int .i64 a,.int .i64 b,.int .i64 c,.int .i64 d]]:Array Value)
abbrev Z3(a:Lv):=([.int .u64 a.u,.int .u64 a.v,.int .i64 a.wt,.int .i64 a.t]:List Value)
abbrev Hs a (b c:Nat):=(#[a,.pointer (some ⟨b,0,none⟩),.pointer (some ⟨c,0,none⟩)]:Array Value)
abbrev Cg(a b c d:Int):=([.int .i64 a,.int .i64 b,.int .i64 c,.int .i64 1,.int .i64 d]:List Value)
abbrev Ns(a:Int) b (c d:Nat):=([.pointer none,.int .i64 a,b,.slice (some ⟨c,0,none⟩) d d]:List Value)
abbrev MQ(a b c d:Int):=(#[.int .i64 a,.int .i64 b,.int .i64 c,.int .i64 1,.int .i64 d]:Array Value)
abbrev D6(a:Lv):=(.agg #[.int .u64 a.u,.int .u64 a.v,.int .i64 a.wt,.int .i64 a.t]:Value)
abbrev MR(a b:Nat):=(#[.pointer (some ⟨a,0,none⟩),.pointer (some ⟨b,0,none⟩),.bool true]:Array Value)
abbrev BY a (b c d:Nat) (e:Int):=([a,blk b 223 (Zf c),blk d 3 (Zd e)]:List fT)
abbrev HK(a:Int) b (c d:Nat):=(.agg #[.pointer none,.int .i64 a,b,.slice (some ⟨c,0,none⟩) d d]:Value)
abbrev Hv a (b:Nat) c (d:jN) (e:Nat):=([a,blk b 37 [c],fL fS c 3 1 d.num,blk e 3 (Zd d.top)]:List fT)
abbrev o5(a b:Nat)(c:TW):=([.pointer (some ⟨a,0,none⟩),.pointer (some ⟨b,0,none⟩),c.iv,c.cv]:List Value)
abbrev vP(a b c:Nat)(d:Int):=([.pointer (some ⟨a,0,none⟩),.slice (some ⟨b,0,none⟩) c c,.int .i64 d]:List Value)
abbrev HP(a:Nat)(b:Int) c (d e:Nat):=([.pointer (some ⟨a,0,none⟩),.int .i64 b,c,.slice (some ⟨d,0,none⟩) e e]:List Value)
abbrev nD:=([.int .i64 0,.int .u64 0,.int .u64 0,.int .u64 0,.int .i64 0,.int .i64 0,.int .i64 0]:List Value)
abbrev Hl:=(#[.int .i64 0,.int .u64 0,.int .u64 0,.int .u64 0,.int .i64 0,.int .i64 0,.int .i64 0]:Array Value)
abbrev uI(a:fU) b c d:=gF a.im ((fJ a.live b).u) (c,(pW a b).2.eraseIdx d)
abbrev Ab(a b c:Nat):=([.pointer (some ⟨a,0,none⟩),.pointer (some ⟨b,0,none⟩),.pointer (some ⟨c,0,none⟩)]:List Value)
abbrev MG a (b c d e:Nat):=([.pointer none,a,.slice (some ⟨b,0,none⟩) c c,.slice (some ⟨d,0,none⟩) e e]:List Value)
abbrev MS(a b c:Nat):=(#[.pointer (some ⟨a,0,none⟩),.pointer (some ⟨b,0,none⟩),.pointer (some ⟨c,0,none⟩)]:Array Value)
abbrev Ah(a b c:Nat)(d:Int):=(blk a 391 (vP a b c d):fT)
abbrev uF:=([.int .i64 0,.slice none 0 0,.slice none 0 0,.slice none 0 0,.slice none 0 0,.slice none 0 0]:List Value)
abbrev Nq(a:Nat)(b:Int)(c d:Nat):=([.pointer (some ⟨a,0,none⟩),.int .i64 b,.slice none 0 0,.slice (some ⟨c,0,none⟩) d d]:List Value)
abbrev HM a (b c d e:Nat):=(.agg #[.pointer none,a,.slice (some ⟨b,0,none⟩) c c,.slice (some ⟨d,0,none⟩) e e]:Value)
abbrev vO(a:Nat) b (c:As) (d:Int):=([.pointer (some ⟨a,0,none⟩),b,.int .i64 c.n,.int .i64 d,.int .i64 c.used,.int .i64 c.last]:List Value)
abbrev Ci a (b:Int) c d e f g (h i:Nat):=([a,.int .i64 b,c,d,e,f,g,.pointer (some ⟨h,0,none⟩),.pointer (some ⟨i,0,none⟩)]:List Value)
abbrev xB(a:Nat)(b:Lv):=(#[.pointer (some ⟨a,0,none⟩),.agg #[.int .u64 b.u,.int .u64 b.v,.int .i64 b.wt,.int .i64 b.t]]:Array Value)
abbrev HD(a:Nat) b (c:As) (d:Int):=([.pointer (some ⟨a,0,none⟩),b,.int .i64 c.n,.int .i64 c.begun,.int .i64 c.used,.int .i64 d]:List Value)
abbrev Hw a b c d e (f:Nat) (g:Int) h i j k l:=([a,fL Mg.cells b 158 5 c,fL fS d 3 1 e,blk f 102 (Zr g h i j k l)]:List fT)
abbrev Z5(a:Nat) b (c:As):=([.pointer (some ⟨a,0,none⟩),b,.int .i64 c.n,.int .i64 c.begun,.int .i64 c.used,.int .i64 c.last]:List Value)
abbrev qO(a b:Int)(c:Lv):=([.int .i64 a,.int .u64 b,.int .u64 c.u,.int .u64 c.v,.int .i64 c.wt,.int .i64 c.t,.int .i64 c.exp]:List Value)
abbrev M6(a b:Int)(c:Lv)(d:Int):=(.agg #[.int .i64 a,.int .u64 b,.int .u64 c.u,.int .u64 c.v,.int .i64 c.wt,.int .i64 c.t,.int .i64 d]:Value)
abbrev pV(a:fU) b c d:=gh (uI a b c d) ((fJ a.live b).v)
abbrev Hi(a:fU) b c d:=je (uI a b c d) ((fJ a.live b).v)
abbrev Ec(a b c:Int)(d e:Nat) f g:=([.int .i64 a,.int .i64 b,.int .u64 c,.pointer (some ⟨d,0,none⟩),.pointer (some ⟨e,0,none⟩),f,.map g]:List Value)
abbrev HI(a b:Int)(c:Lv):=(.agg #[.int .i64 a,.int .u64 b,.int .u64 c.u,.int .u64 c.v,.int .i64 c.wt,.int .i64 c.t,.int .i64 c.exp]:Value)
abbrev UN a (b:nC) c d e f:=(gm [fL fW a 3 1 b.l,fL fW c 3 1 b.r,fL fW d 3 1 b.p,fL fW e 2 1 b.h,fL fS f 3 1 b.s]:fT)
abbrev Z6(a:Lv):=([.int .i64 a.slot,.int .u64 a.seq,.int .u64 a.u,.int .u64 a.v,.int .i64 a.wt,.int .i64 a.t,.int .i64 a.exp]:List Value)
abbrev Nr(a:Nat)(b:As):=([.pointer (some ⟨a,0,none⟩),.slice none 0 0,.int .i64 b.n,.int .i64 b.begun,.int .i64 b.used,.int .i64 b.last]:List Value)
abbrev Ni(a:Nat) b c d e f g h i j:=([ig .i64 (Zy a) 3 b,fL fS c 3 1 d,e,f,fL fS g 3 1 h,fL fS i 3 1 j]:List fT)
abbrev B5(a b c d:Nat):=([.pointer (some ⟨a,0,none⟩),.pointer (some ⟨b,0,none⟩),.pointer (some ⟨c,0,none⟩),.pointer (some ⟨d,0,none⟩)]:List Value)
abbrev Hu a (b:Nat) (c:Int) (d:Nat) (e:Bool) (f g h:Nat) (i:Int):=([a,blk b 3 (Zd c),blk d 4 [.bool e],blk f 171 (Zf g),blk h 39 (Zq i)]:List fT)
abbrev Ee(a b c:Int)(d:fU) e f:=([.int .i64 a,.int .i64 b,.int .u64 c,.pointer (some ⟨d.jj,0,none⟩),.pointer (some ⟨d.tb,0,none⟩),e,.map f]:List Value)
abbrev zZ(a b:Int)(c:GW) d:=([.int .i64 a,.int .i64 b,.pointer (some ⟨c.fb,0,none⟩),.pointer (some ⟨c.hb,0,none⟩),.map d,.int .i64 c.trees]:List Value)
abbrev MJ(a b c:Nat)(d:List Nd):=([blk a 391 [.pointer (some ⟨a,0,none⟩),.slice (some ⟨b,0,none⟩) c c,.int .i64 0],blk b 388 (d.flatMap Nd.cells)]:List fT)
abbrev Ak(a:Lv):=(.agg #[.int .i64 a.slot,.int .u64 a.seq,.int .u64 a.u,.int .u64 a.v,.int .i64 a.wt,.int .i64 a.t,.int .i64 a.exp]:Value)
abbrev Hx(a:Nat) b c d e f g:=([blk a 167 (Ce a b c d),fL Ge.cells b 110 3 e,fL fS c 3 1 f,fL fS d 3 1 g]:List fT)
abbrev Np(a b:Int)(c d:Nat) e:=([.int .i64 a,.int .i64 b,.int .u64 0,.pointer (some ⟨c,0,none⟩),.pointer (some ⟨d,0,none⟩),.slice none 0 0,.map e]:List Value)
abbrev Ch(a b c:Int)(d:fU) e:=([.int .i64 a,.int .i64 b,.int .u64 c,.pointer (some ⟨d.jj,0,none⟩),.pointer (some ⟨d.tb,0,none⟩),d.lv,.map e]:List Value)
abbrev pY(a b:Int)(c:fU) d:=([.int .i64 a,.int .i64 b,.int .u64 c.last,.pointer (some ⟨c.jj,0,none⟩),.pointer (some ⟨c.tb,0,none⟩),c.lv,.map d]:List Value)
abbrev Zk(a b c:Nat)(d:Int)(e:List Nd):=(gm [blk a 391 (vP a b c d),blk b 388 (e.flatMap Nd.cells)]:fT)
abbrev Cb(a b:Int)(c:Lv)(d:Int):=(.tuple #[.agg #[.int .i64 a,.int .u64 b,.int .u64 c.u,.int .u64 c.v,.int .i64 c.wt,.int .i64 c.t,.int .i64 d],.int .i64 0]:Value)
abbrev MF(a b c d:Nat):=([.pointer none,.slice (some ⟨a,0,none⟩) b b,.slice (some ⟨c,0,none⟩) b b,.slice (some ⟨d,0,none⟩) b b,.int .i64 b]:List Value)
abbrev HF(a:Nat)(b:Int) c d e f g:=([blk a 385 (pX a b c d),fL gG.cells c 250 2 e,fL iw d 399 1 f,gJ fS 401 64 f g]:List fT)
abbrev HL(a b c d:Nat):=(.agg #[.pointer none,.slice (some ⟨a,0,none⟩) b b,.slice (some ⟨c,0,none⟩) b b,.slice (some ⟨d,0,none⟩) b b,.int .i64 b]:Value)
abbrev HN(a b c d:Nat):=(.func (.func 90) #[] #[.pointer (some ⟨a,0,none⟩),.pointer (some ⟨b,0,none⟩),.pointer (some ⟨c,0,none⟩),.pointer (some ⟨d,0,none⟩)]:Value)
abbrev Cc(a b:Nat)(c:TW):=([blk a 302 (o5 a b c),fL gO c.iv 39 1 c.ids,fL fS c.cv 3 1 c.cs]:List fT)
abbrev DX(a:fU) b c d:=gF (uH a b) ((fJ a.live b).v) (c,(Z9 a b).2.eraseIdx d)
abbrev DV(a b:Nat)(c:TW) d:=(gm [blk a 302 (o5 a b c),fL gO c.iv 39 1 c.ids,fL fS c.cv 3 1 d]:fT)
abbrev Zj(a:Nat)(b:Int) c d e f g:=(gm (HF a b c d e f g):fT)
abbrev Zz(a b:Nat)(c:TW):=(gm (Cc a b c):fT)
abbrev Eb(a:Nat)(b:Ds) c:=([blk a 409 [.pointer (some ⟨a,0,none⟩),b.uv,b.lv,b.sv,.int .i64 b.cnt],fL fS b.uv 3 1 c,fL fS b.lv 3 1 b.le,fL fW b.sv 3 1 b.sz]:List fT)
abbrev Af(a:Nat) b (c d e f:Int) g h:=(gm [blk a 278 [.pointer (some ⟨a,0,none⟩),b,.int .i64 c,.int .i64 d,.int .i64 e,.int .i64 f],fL iw b 392 1 g,gJ gT.cells 395 64 g h]:fT)
abbrev Cd(a:Nat)(b:Ds):=([blk a 409 [.pointer (some ⟨a,0,none⟩),b.uv,b.lv,b.sv,.int .i64 b.cnt],fL fS b.uv 3 1 b.up,fL fS b.lv 3 1 b.le,fL fW b.sv 3 1 b.sz]:List fT)
abbrev Hf(a:Nat)(b:Ds) c:=(gm (Eb a b c):fT)
abbrev M5(a:Nat) b (c:As) (d:Int) e f:=([blk a 278 (vO a b c d),fL iw b 392 1 e,gJ gT.cells 395 64 e f]:List fT)
abbrev qN(a:Nat)(b:Ds):=(gm (Cd a b):fT)
abbrev NA(a:Nat) b (c d e:Int) (f:As):=(gm [blk a 278 [.pointer (some ⟨a,0,none⟩),b,.int .i64 c,.int .i64 d,.int .i64 e,.int .i64 f.last],fL iw b 392 1 f.ps,gJ gT.cells 395 64 f.ps f.sl]:fT)
abbrev zY a (b c d e:Nat) (f:Int) (g:List Nd):=([a,blk b 208 (Zf c),blk c 391 (vP c d e f),blk d 388 (g.flatMap Nd.cells)]:List fT)
abbrev M4(a:Nat) b (c:As) (d:Int):=([blk a 278 (vO a b c d),fL iw b 392 1 c.ps,gJ gT.cells 395 64 c.ps c.sl]:List fT)
abbrev MM(a:Nat)(b:Int):=([gJ gT.cells 395 64 ([]) ([]),fL iw Zg 392 1 ([]),blk a 278 [.pointer (some ⟨a,0,none⟩),.slice none 0 0,.int .i64 b,.int .i64 0,.int .i64 0,.int .i64 (-1)]]:List fT)
abbrev Al(a:Nat) b (c:As):=([blk a 278 (Z5 a b c),fL iw b 392 1 c.ps,gJ gT.cells 395 64 c.ps c.sl]:List fT)
abbrev Zs(a:Nat) b (c:As):=(gm (Al a b c):fT)
abbrev B3(a b:Nat):=([.func (.func 261) #[] (Zi a),.func (.func 263) #[] (xH a b),.func (.func 265) #[] (Zi a)]:List Value)
abbrev UO(a:Int)(b c d e f g:Nat):=([.int .i64 a,.slice (some ⟨b,0,none⟩) c c,.slice (some ⟨d,0,none⟩) c c,.slice (some ⟨e,0,none⟩) c c,.slice (some ⟨f,0,none⟩) c c,.slice (some ⟨g,0,none⟩) c c]:List Value)
abbrev Nc(a:Int)(b c d e f g:Nat):=(#[.int .i64 a,.slice (some ⟨b,0,none⟩) c c,.slice (some ⟨d,0,none⟩) c c,.slice (some ⟨e,0,none⟩) c c,.slice (some ⟨f,0,none⟩) c c,.slice (some ⟨g,0,none⟩) c c]:Array Value)
abbrev M7(a:Int)(b c d e f g:Nat):=(.agg (Nc a b c d e f g):Value)
abbrev M3(a:Nat) b (c:As) d e:=([blk a 278 (Z5 a b c),fL iw b 392 1 c.ps,gJ gT.cells 395 64 c.ps c.sl,ig .i64 d 3 e]:List fT)
abbrev sL(a:Nat):=([.pointer (some ⟨a,0,none⟩),.bool false,.int .u64 0,.slice none 0 0,.int .i64 0,.slice none 0 0,.slice none 0 0,.slice none 0 0,.slice none 0 0,.slice none 0 0,.pointer none,.pointer none,.int .i64 0]:List Value)
abbrev M0(a b c d:Nat)(e:Int)(f:List Nd) g h (i:Nat):=([blk a 208 (Zf b),blk b 391 (vP b c d e),blk c 388 (f.flatMap Nd.cells),ig .i64 g 3 h,blk i 37 [g]]:List fT)
abbrev HE(a:Nat)(b:Int)(c d:Nat)(e:Int) f g h i j:=([blk a 3 (Zd b),blk c 211 (Zf d),blk d 385 (pX d e f g),fL gG.cells f 250 2 h,fL iw g 399 1 i,gJ fS 401 64 i j]:List fT)
abbrev vL(a:Nat)(b:Int)(c d:Nat)(e:Int) f g h i j:=(gm (HE a b c d e f g h i j):fT)
abbrev Ag(a b:Nat):=(blk a 108 (sL b):fT)
abbrev DR a (b c:Nat) (d:TW) (e f:Nat) (g:Int):=(gm [a,blk b 302 (o5 b c d),fL gO d.iv 39 1 d.ids,fL fS d.cv 3 1 d.cs,blk e 171 (Zf b),blk f 39 (Zq g)]:fT)
abbrev xI(a b c d:Int)(e:WW):=([.int .i64 a,.int .i64 b,.int .i64 c,.int .i64 d,.pointer (some ⟨e.cb,0,none⟩),.pointer (some ⟨e.ub,0,none⟩),.pointer (some ⟨e.sb,0,none⟩),.pointer (some ⟨e.ob,0,none⟩),.int .u64 e.added,.int .u64 e.jU]:List Value)
abbrev HG(a:fU) b c d e f:=gF (uI a b c d) ((fJ a.live b).v) (e,(pV a b c d).2.eraseIdx f)
abbrev MI(a:Nat)(b:Int) c d e f g (h:Nat) i (j k:Nat) l:=([blk a 385 (pX a b c d),fL gG.cells c 250 2 e,fL iw d 399 1 f,gJ fS 401 64 f g,blk h 385 (HP h b i j k),fL gG.cells i 250 2 e,fL iw (Ze j k) 399 1 l,gJ fS 401 64 l g]:List fT)
abbrev NB(a:Nat) b (c:As) (d:Nat) e f:=(gm [blk a 278 (Z5 a b c),fL iw b 392 1 c.ps,gJ gT.cells 395 64 c.ps c.sl,blk d 278 (Z5 d e c),fL iw e 392 1 f,gJ gT.cells 395 64 f c.sl]:fT)
abbrev MX(a:Nat)(b:Int)(c d e f g h:Nat) i j k l (m:Nat):=([blk a 102 (UO b c d e f g h),blk h 3 i,blk g 2 j,blk f 3 j,blk e 3 j,blk c 3 j,fL fS k 3 1 l,blk m 102 uF]:List fT)
abbrev Nf:=([.int .i64 0,.int .i64 0,.int .u64 0,.int .i64 0,.int .i64 0,.int .u64 0,.int .i64 0,.int .i64 0,.int .u64 0,.int .i64 0,.int .i64 0,.int .u64 0,.int .i64 0,.int .i64 0,.int .u64 0,.int .i64 0,.int .i64 0,.int .u64 0,.int .i64 0,.int .i64 0,.int .u64 0,.int .i64 0,.int .i64 0,.int .u64 0,.int .i64 0,.int .i64 0,.int .u64 0,.int .i64 0,.int .i64 0,.int .u64 0,.int .i64 0,.int .i64 0,.int .u64 0,.int .i64 0,.int .i64 0,.int .u64 0,.int .i64 0,.int .i64 0,.int .u64 0,.int .i64 0,.int .i64 0,.int .u64 0,.int .i64 0,.int .i64 0,.int .u64 0,.int .i64 0,.int .i64 0,.int .u64 0,.int .i64 0,.int .i64 0,.int .u64 0,.int .i64 0,.int .i64 0,.int .u64 0,.int .i64 0,.int .i64 0,.int .u64 0,.int .i64 0,.int .i64 0,.int .u64 0,.int .i64 0,.int .i64 0,.int .u64 0,.int .i64 0,.int .i64 0,.int .u64 0,.int .i64 0,.int .i64 0,.int .u64 0,.int .i64 0,.int .i64 0,.int .u64 0,.int .i64 0,.int .i64 0,.int .u64 0,.int .i64 0,.int .i64 0,.int .u64 0,.int .i64 0,.int .i64 0,.int .u64 0,.int .i64 0,.int .i64 0,.int .u64 0,.int .i64 0,.int .i64 0,.int .u64 0,.int .i64 0,.int .i64 0,.int .u64 0,.int .i64 0,.int .i64 0,.int .u64 0,.int .i64 0,.int .i64 0,.int .u64 0,.int .i64 0,.int .i64 0,.int .u64 0,.int .i64 0,.int .i64 0,.int .u64 0,.int .i64 0,.int .i64 0,.int .u64 0,.int .i64 0,.int .i64 0,.int .u64 0,.int .i64 0,.int .i64 0,.int .u64 0,.int .i64 0,.int .i64 0,.int .u64 0,.int .i64 0,.int .i64 0,.int .u64 0,.int .i64 0,.int .i64 0,.int .u64 0,.int .i64 0,.int .i64 0,.int .u64 0,.int .i64 0,.int .i64 0,.int .u64 0,.int .i64 0,.int .i64 0,.int .u64 0,.int .i64 0,.int .i64 0,.int .u64 0,.int .i64 0,.int .i64 0,.int .u64 0,.int .i64 0,.int .i64 0,.int .u64 0,.int .i64 0,.int .i64 0,.int .u64 0,.int .i64 0,.int .i64 0,.int .u64 0,.int .i64 0,.int .i64 0,.int .u64 0,.int .i64 0,.int .i64 0,.int .u64 0,.int .i64 0,.int .i64 0,.int .u64 0,.int .i64 0,.int .i64 0,.int .u64 0,.int .i64 0,.int .i64 0,.int .u64 0,.int .i64 0,.int .i64 0,.int .u64 0,.int .i64 0,.int .i64 0,.int .u64 0,.int .i64 0,.int .i64 0,.int .u64 0,.int .i64 0,.int .i64 0,.int .u64 0,.int .i64 0,.int .i64 0,.int .u64 0,.int .i64 0,.int .i64 0,.int .u64 0,.int .i64 0,.int .i64 0,.int .u64 0,.int .i64 0,.int .i64 0,.int .u64 0,.int .i64 0,.int .i64 0,.int .u64 0,.int .i64 0,.int .i64 0,.int .u64 0,.int .i64 0,.int .i64 0,.int .u64 0]:List Value)
abbrev MV a (b c:Nat) d (e:As) f g:=([a,blk b 395 Nf,blk c 278 (Z5 c d e),fL iw f 392 1 g,gJ gT.cells 395 64 e.ps e.sl]:List fT)
end
section
open Go Go.Sx
theorem gU{t:TypeId}{s b:Nat}{z:Value}(h:(ya.info? t).map (fun i=>(i.size,i.bytes,i.zero))=some (s,b,some z)):TI ya t s b z:=h
theorem ti2:TI ya 2 1 8 (.int .i64 0):=gU k_
theorem gr:TI ya 3 1 8 (.int .i64 0):=gU k_
theorem wZ:TI ya 4 1 1 (.bool false):=gU k_
theorem ti5:TI ya 5 1 1 (.int .u8 0):=gU k_
theorem TK:TI ya 23 1 8 (.pointer none):=gU k_
theorem LF:TI ya 27 1 24 (.slice none 0 0):=gU k_
theorem TS:TI ya 28 1 24 (.slice none 0 0):=gU k_
theorem TX:TI ya 31 1 8 (.pointer none):=gU k_
theorem yX:TI ya 32 1 8 (.int .i64 0):=gU k_
theorem TZ:TI ya 35 1 24 (.slice none 0 0):=gU k_
theorem j3:TI ya 37 1 24 (.slice none 0 0):=gU k_
theorem jt:TI ya 39 1 8 (.int .u64 0):=gU k_
theorem vk:TI ya 41 4 32 (.agg #[(.int .u64 0),(.int .u64 0),(.int .i64 0),(.int .i64 0)]):=gU k_
theorem mU:TI ya 43 7 56 (.agg #[(.int .i64 0),(.int .u64 0),(.int .u64 0),(.int .u64 0),(.int .i64 0),(.int .i64 0),(.int .i64 0)]):=gU k_
theorem afJ:TI ya 68 1 1 (.int .i8 0):=gU k_
theorem afK:TI ya 70 5 5 (.agg #[(.bool false),(.int .u8 0),(.int .u8 0),(.int .i8 0),(.int .u8 0)]):=gU k_
theorem Gc:TI ya 73 2 16 (.agg #[(.int .u64 0),(.int .i64 0)]):=gU k_
theorem T5:TI ya 78 1 24 (.slice none 0 0):=gU k_
theorem afL:TI ya 81 1 24 (.slice none 0 0):=gU k_
theorem Dd:TI ya 94 4 32 (.agg #[(.int .i64 0),(.int .i64 0),(.int .i64 0),(.int .i64 0)]):=gU k_
theorem C5:TI ya 100 2 16 (.agg #[(.bool false),(.int .u64 0)]):=gU k_
theorem wY:TI ya 102 6 128 (.agg #[(.int .i64 0),(.slice none 0 0),(.slice none 0 0),(.slice none 0 0),(.slice none 0 0),(.slice none 0 0)]):=gU k_
theorem Tv:TI ya 103 1 8 (.pointer none):=gU k_
theorem Tw:TI ya 104 1 8 (.pointer none):=gU k_
theorem C6:TI ya 106 9 168 (.agg #[(.slice none 0 0),(.int .i64 0),(.slice none 0 0),(.slice none 0 0),(.slice none 0 0),(.slice none 0 0),(.slice none 0 0),(.pointer none),(.pointer none)]):=gU k_
theorem Tx:TI ya 108 13 200 (.agg #[(.pointer none),(.bool false),(.int .u64 0),(.slice none 0 0),(.int .i64 0),(.slice none 0 0),(.slice none 0 0),(.slice none 0 0),(.slice none 0 0),(.slice none 0 0),(.pointer none),(.pointer none),(.int .i64 0)]):=gU k_
theorem yU:TI ya 110 3 24 (.agg #[(.int .i64 0),(.int .i64 0),(.int .i64 0)]):=gU k_
theorem Ty:TI ya 113 1 8 (.pointer none):=gU k_
theorem Lx:TI ya 114 1 8 (.pointer none):=gU k_
theorem Tz:TI ya 115 1 8 (.pointer none):=gU k_
theorem TA:TI ya 116 1 8 (.pointer none):=gU k_
theorem TB:TI ya 118 10 80 (.agg #[(.int .i64 0),(.int .i64 0),(.int .i64 0),(.int .i64 0),(.pointer none),(.pointer none),(.pointer none),(.pointer none),(.int .u64 0),(.int .u64 0)]):=gU k_
theorem TC:TI ya 122 5 32 (.agg #[(.int .i64 0),(.int .i64 0),(.int .i64 0),(.bool false),(.bool false)]):=gU k_
theorem uc:TI ya 128 2 16 (.agg #[(.int .u64 0),(.int .u64 0)]):=gU k_
theorem C7:TI ya 138 2 16 (.agg #[(.int .i64 0),(.int .i64 0)]):=gU k_
theorem Ly:TI ya 156 2 16 (.agg #[(.int .i64 0),(.int .i64 0)]):=gU k_
theorem F4:TI ya 158 5 40 (.agg #[(.int .i64 0),(.int .i64 0),(.int .i64 0),(.int .i64 0),(.int .i64 0)]):=gU k_
theorem Lz:TI ya 167 4 80 (.agg #[(.pointer none),(.slice none 0 0),(.slice none 0 0),(.slice none 0 0)]):=gU k_
theorem F5:TI ya 169 2 16 (.agg #[(.int .i64 0),(.int .i64 0)]):=gU k_
theorem F6:TI ya 170 1 8 (.pointer none):=gU k_
theorem LA:TI ya 171 1 8 (.pointer none):=gU k_
theorem TD:TI ya 172 1 8 (.map none):=gU k_
theorem TE:TI ya 174 7 72 (.agg #[(.int .i64 0),(.int .i64 0),(.int .u64 0),(.pointer none),(.pointer none),(.slice none 0 0),(.map none)]):=gU k_
theorem afF:TI ya 179 1 24 (.slice none 0 0):=gU k_
theorem afG:TI ya 183 1 24 (.slice none 0 0):=gU k_
theorem C8:TI ya 185 3 24 (.agg #[(.int .i64 0),(.int .i64 0),(.int .i64 0)]):=gU k_
theorem F7:TI ya 188 1 24 (.slice none 0 0):=gU k_
theorem yV:TI ya 190 2 16 (.agg #[(.int .i64 0),(.int .i64 0)]):=gU k_
theorem afH:TI ya 195 1 8 (.pointer none):=gU k_
theorem LB:TI ya 208 1 8 (.pointer none):=gU k_
theorem LC:TI ya 210 1 8 (.agg #[(.pointer none)]):=gU k_
theorem F8:TI ya 211 1 8 (.pointer none):=gU k_
theorem TF:TI ya 212 1 8 (.map none):=gU k_
theorem TG:TI ya 214 6 48 (.agg #[(.int .i64 0),(.int .i64 0),(.pointer none),(.pointer none),(.map none),(.int .i64 0)]):=gU k_
theorem LD:TI ya 223 1 8 (.pointer none):=gU k_
theorem TH:TI ya 225 8 160 (.agg #[(.pointer none),(.int .i64 0),(.slice none 0 0),(.slice none 0 0),(.slice none 0 0),(.slice none 0 0),(.slice none 0 0),(.slice none 0 0)]):=gU k_
theorem C9:TI ya 227 1 8 .nilFunc:=gU k_
theorem TJ:TI ya 229 1 8 (.map none):=gU k_
theorem TL:TI ya 231 9 168 (.agg #[(.pointer none),(.int .i64 0),(.slice none 0 0),(.slice none 0 0),(.slice none 0 0),(.slice none 0 0),(.slice none 0 0),(.slice none 0 0),(.map none)]):=gU k_
theorem TM:TI ya 232 1 8 (.pointer none):=gU k_
theorem TN:TI ya 234 1 8 (.agg #[(.pointer none)]):=gU k_
theorem TO:TI ya 245 1 8 (.int .i64 0):=gU k_
theorem TP:TI ya 247 2 16 (.agg #[(.int .i64 0),(.int .i64 0)]):=gU k_
theorem qa:TI ya 250 2 16 (.agg #[(.int .i64 0),(.int .i64 0)]):=gU k_
theorem yW:TI ya 254 4 32 (.agg #[(.int .i64 0),(.int .i64 0),(.int .i64 0),(.bool false)]):=gU k_
theorem TQ:TI ya 267 4 32 (.agg #[(.int .i64 0),(.int .i64 0),(.int .i64 0),(.int .i64 0)]):=gU k_
theorem TR:TI ya 276 1 24 (.slice none 0 0):=gU k_
theorem F9:TI ya 278 6 64 (.agg #[(.pointer none),(.slice none 0 0),(.int .i64 0),(.int .i64 0),(.int .i64 0),(.int .i64 0)]):=gU k_
theorem TU:TI ya 291 1 24 (.slice none 0 0):=gU k_
theorem TV:TI ya 293 3 56 (.agg #[(.slice none 0 0),(.slice none 0 0),(.int .i64 0)]):=gU k_
theorem Ga:TI ya 302 4 64 (.agg #[(.pointer none),(.pointer none),(.slice none 0 0),(.slice none 0 0)]):=gU k_
theorem LG:TI ya 318 2 16 (.agg #[(.int .i64 0),(.pointer none)]):=gU k_
theorem TY:TI ya 323 3 24 (.agg #[(.int .i64 0),(.int .i64 0),(.int .u64 0)]):=gU k_
theorem T1:TI ya 353 1 8 (.pointer none):=gU k_
theorem Da:TI ya 371 1 24 (.slice none 0 0):=gU k_
theorem yY:TI ya 373 2 16 (.agg #[(.int .i64 0),(.int .i64 0)]):=gU k_
theorem T2:TI ya 374 13 312 (.agg #[(.slice none 0 0),(.slice none 0 0),(.slice none 0 0),(.slice none 0 0),(.slice none 0 0),(.slice none 0 0),(.slice none 0 0),(.slice none 0 0),(.slice none 0 0),(.slice none 0 0),(.slice none 0 0),(.slice none 0 0),(.slice none 0 0)]):=gU k_
theorem T3:TI ya 376 15 344 (.agg #[(.bool false),(.slice none 0 0),(.slice none 0 0),(.slice none 0 0),(.slice none 0 0),(.slice none 0 0),(.slice none 0 0),(.slice none 0 0),(.slice none 0 0),(.slice none 0 0),(.slice none 0 0),(.slice none 0 0),(.slice none 0 0),(.slice none 0 0),(.slice none 0 0)]):=gU k_
theorem afI:TI ya 381 1 24 (.slice none 0 0):=gU k_
theorem LH:TI ya 382 1 24 (.slice none 0 0):=gU k_
theorem LI:TI ya 383 1 24 (.slice none 0 0):=gU k_
theorem Gb:TI ya 385 4 64 (.agg #[(.pointer none),(.int .i64 0),(.slice none 0 0),(.slice none 0 0)]):=gU k_
theorem jk:TI ya 388 9 72 (.agg #[(.int .i64 0),(.int .i64 0),(.int .i64 0),(.bool false),(.int .i64 0),(.int .i64 0),(.int .i64 0),(.int .i64 0),(.int .i64 0)]):=gU k_
theorem T4:TI ya 389 1 24 (.slice none 0 0):=gU k_
theorem LJ:TI ya 391 3 40 (.agg #[(.pointer none),(.slice none 0 0),(.int .i64 0)]):=gU k_
theorem Db:TI ya 392 1 8 (.pointer none):=gU k_
theorem LK:TI ya 395 192 1536 (.agg #[(.int .i64 0),(.int .i64 0),(.int .u64 0),(.int .i64 0),(.int .i64 0),(.int .u64 0),(.int .i64 0),(.int .i64 0),(.int .u64 0),(.int .i64 0),(.int .i64 0),(.int .u64 0),(.int .i64 0),(.int .i64 0),(.int .u64 0),(.int .i64 0),(.int .i64 0),(.int .u64 0),(.int .i64 0),(.int .i64 0),(.int .u64 0),(.int .i64 0),(.int .i64 0),(.int .u64 0),(.int .i64 0),(.int .i64 0),(.int .u64 0),(.int .i64 0),(.int .i64 0),(.int .u64 0),(.int .i64 0),(.int .i64 0),(.int .u64 0),(.int .i64 0),(.int .i64 0),(.int .u64 0),(.int .i64 0),(.int .i64 0),(.int .u64 0),(.int .i64 0),(.int .i64 0),(.int .u64 0),(.int .i64 0),(.int .i64 0),(.int .u64 0),(.int .i64 0),(.int .i64 0),(.int .u64 0),(.int .i64 0),(.int .i64 0),(.int .u64 0),(.int .i64 0),(.int .i64 0),(.int .u64 0),(.int .i64 0),(.int .i64 0),(.int .u64 0),(.int .i64 0),(.int .i64 0),(.int .u64 0),(.int .i64 0),(.int .i64 0),(.int .u64 0),(.int .i64 0),(.int .i64 0),(.int .u64 0),(.int .i64 0),(.int .i64 0),(.int .u64 0),(.int .i64 0),(.int .i64 0),(.int .u64 0),(.int .i64 0),(.int .i64 0),(.int .u64 0),(.int .i64 0),(.int .i64 0),(.int .u64 0),(.int .i64 0),(.int .i64 0),(.int .u64 0),(.int .i64 0),(.int .i64 0),(.int .u64 0),(.int .i64 0),(.int .i64 0),(.int .u64 0),(.int .i64 0),(.int .i64 0),(.int .u64 0),(.int .i64 0),(.int .i64 0),(.int .u64 0),(.int .i64 0),(.int .i64 0),(.int .u64 0),(.int .i64 0),(.int .i64 0),(.int .u64 0),(.int .i64 0),(.int .i64 0),(.int .u64 0),(.int .i64 0),(.int .i64 0),(.int .u64 0),(.int .i64 0),(.int .i64 0),(.int .u64 0),(.int .i64 0),(.int .i64 0),(.int .u64 0),(.int .i64 0),(.int .i64 0),(.int .u64 0),(.int .i64 0),(.int .i64 0),(.int .u64 0),(.int .i64 0),(.int .i64 0),(.int .u64 0),(.int .i64 0),(.int .i64 0),(.int .u64 0),(.int .i64 0),(.int .i64 0),(.int .u64 0),(.int .i64 0),(.int .i64 0),(.int .u64 0),(.int .i64 0),(.int .i64 0),(.int .u64 0),(.int .i64 0),(.int .i64 0),(.int .u64 0),(.int .i64 0),(.int .i64 0),(.int .u64 0),(.int .i64 0),(.int .i64 0),(.int .u64 0),(.int .i64 0),(.int .i64 0),(.int .u64 0),(.int .i64 0),(.int .i64 0),(.int .u64 0),(.int .i64 0),(.int .i64 0),(.int .u64 0),(.int .i64 0),(.int .i64 0),(.int .u64 0),(.int .i64 0),(.int .i64 0),(.int .u64 0),(.int .i64 0),(.int .i64 0),(.int .u64 0),(.int .i64 0),(.int .i64 0),(.int .u64 0),(.int .i64 0),(.int .i64 0),(.int .u64 0),(.int .i64 0),(.int .i64 0),(.int .u64 0),(.int .i64 0),(.int .i64 0),(.int .u64 0),(.int .i64 0),(.int .i64 0),(.int .u64 0),(.int .i64 0),(.int .i64 0),(.int .u64 0),(.int .i64 0),(.int .i64 0),(.int .u64 0),(.int .i64 0),(.int .i64 0),(.int .u64 0),(.int .i64 0),(.int .i64 0),(.int .u64 0),(.int .i64 0),(.int .i64 0),(.int .u64 0),(.int .i64 0),(.int .i64 0),(.int .u64 0)]):=gU k_
theorem Dc:TI ya 399 1 8 (.pointer none):=gU k_
theorem LM:TI ya 401 64 512 (.agg #[(.int .i64 0),(.int .i64 0),(.int .i64 0),(.int .i64 0),(.int .i64 0),(.int .i64 0),(.int .i64 0),(.int .i64 0),(.int .i64 0),(.int .i64 0),(.int .i64 0),(.int .i64 0),(.int .i64 0),(.int .i64 0),(.int .i64 0),(.int .i64 0),(.int .i64 0),(.int .i64 0),(.int .i64 0),(.int .i64 0),(.int .i64 0),(.int .i64 0),(.int .i64 0),(.int .i64 0),(.int .i64 0),(.int .i64 0),(.int .i64 0),(.int .i64 0),(.int .i64 0),(.int .i64 0),(.int .i64 0),(.int .i64 0),(.int .i64 0),(.int .i64 0),(.int .i64 0),(.int .i64 0),(.int .i64 0),(.int .i64 0),(.int .i64 0),(.int .i64 0),(.int .i64 0),(.int .i64 0),(.int .i64 0),(.int .i64 0),(.int .i64 0),(.int .i64 0),(.int .i64 0),(.int .i64 0),(.int .i64 0),(.int .i64 0),(.int .i64 0),(.int .i64 0),(.int .i64 0),(.int .i64 0),(.int .i64 0),(.int .i64 0),(.int .i64 0),(.int .i64 0),(.int .i64 0),(.int .i64 0),(.int .i64 0),(.int .i64 0),(.int .i64 0),(.int .i64 0)]):=gU k_
theorem LN:TI ya 409 5 88 (.agg #[(.pointer none),(.slice none 0 0),(.slice none 0 0),(.slice none 0 0),(.int .i64 0)]):=gU k_
theorem FB:jX ya 41 [(0,1),(1,1),(2,1),(3,1)]:=⟨_,Dm,fun w=>by simp[TI.size ti2,TI.size jt]⟩
theorem KB:jX ya 43 [(0,1),(1,1),(2,4),(6,1)]:=⟨_,xg,fun w=>by simp[TI.size ti2,TI.size gr,TI.size jt,TI.size vk]⟩
theorem ads:jX ya 73 [(0,1),(1,1)]:=⟨_,Gp,fun w=>by simp[TI.size gr,TI.size jt]⟩
theorem Sp:jX ya 94 [(0,1),(1,1),(2,1),(3,1)]:=⟨_,Gq,fun w=>by simp[TI.size ti2,TI.size gr]⟩
theorem Sg:jX ya 100 [(0,1),(1,1)]:=⟨_,Gx,fun w=>by simp[TI.size jt,TI.size wZ]⟩
theorem ac1:jX ya 102 [(0,1),(1,1),(2,1),(3,1),(4,1),(5,1)]:=⟨_,Tryz.underlying102,fun w=>by simp[TI.size gr,TI.size j3,TI.size T5]⟩
theorem ac2:jX ya 106 [(0,1),(1,6),(7,1),(8,1)]:=⟨_,Gy,fun w=>by simp[TI.size wY,TI.size Tv,TI.size Tw,TI.size LF]⟩
theorem ac3:jX ya 108 [(0,1),(1,2),(3,9),(12,1)]:=⟨_,Tryz.underlying108,fun w=>by simp[TI.size C5,TI.size C6,TI.size TK,TI.size gr]⟩
theorem ac4:jX ya 110 [(0,1),(1,1),(2,1)]:=⟨_,Gz,fun w=>by simp[TI.size ti2,TI.size gr]⟩
theorem ac5:jX ya 118 [(0,4),(4,1),(5,1),(6,1),(7,1),(8,1),(9,1)]:=⟨_,Tryz.underlying118,fun w=>by simp[TI.size Ty,TI.size Lx,TI.size Tz,TI.size TA,TI.size jt,TI.size Dd]⟩
theorem ac6:jX ya 122 [(0,1),(1,1),(2,1),(3,1),(4,1)]:=⟨_,Tryz.underlying122,fun w=>by simp[TI.size gr,TI.size wZ]⟩
theorem ac7:jX ya 138 [(0,1),(1,1)]:=⟨_,Tryz.underlying138,fun w=>by simp[TI.size gr]⟩
theorem ac8:jX ya 156 [(0,1),(1,1)]:=⟨_,Tryz.underlying156,fun w=>by simp[TI.size ti2]⟩
theorem ac9:jX ya 158 [(0,1),(1,1),(2,2),(4,1)]:=⟨_,Tryz.underlying158,fun w=>by simp[TI.size Ly,TI.size gr]⟩
theorem ada:jX ya 167 [(0,1),(1,1),(2,1),(3,1)]:=⟨_,Tryz.underlying167,fun w=>by simp[TI.size TS,TI.size TX,TI.size j3]⟩
theorem adb:jX ya 174 [(0,1),(1,1),(2,1),(3,1),(4,1),(5,1),(6,1)]:=⟨_,Tryz.underlying174,fun w=>by simp[TI.size F6,TI.size LA,TI.size TD,TI.size gr,TI.size TZ,TI.size jt]⟩
theorem ade:jX ya 185 [(0,1),(1,1),(2,1)]:=⟨_,Tryz.underlying185,fun w=>by simp[TI.size gr]⟩
theorem adf:jX ya 190 [(0,1),(1,1)]:=⟨_,GC,fun w=>by simp[TI.size gr]⟩
theorem adg:jX ya 210 [(0,1)]:=⟨_,Tryz.underlying210,fun w=>by simp[TI.size LB]⟩
theorem adh:jX ya 214 [(0,1),(1,1),(2,1),(3,1),(4,1),(5,1)]:=⟨_,Tryz.underlying214,fun w=>by simp[TI.size LC,TI.size F8,TI.size TF,TI.size gr]⟩
theorem adi:jX ya 225 [(0,1),(1,6),(7,1)]:=⟨_,Tryz.underlying225,fun w=>by simp[TI.size wY,TI.size LD,TI.size j3]⟩
theorem adj:jX ya 231 [(0,1),(1,6),(7,1),(8,1)]:=⟨_,Tryz.underlying231,fun w=>by simp[TI.size wY,TI.size LD,TI.size TJ,TI.size j3]⟩
theorem adk:jX ya 234 [(0,1)]:=⟨_,Tryz.underlying234,fun w=>by simp[TI.size TM]⟩
theorem adl:jX ya 247 [(0,1),(1,1)]:=⟨_,Tryz.underlying247,fun w=>by simp[TI.size ti2,TI.size TO]⟩
theorem Sh:jX ya 250 [(0,1),(1,1)]:=⟨_,xl,fun w=>by simp[TI.size ti2,TI.size gr]⟩
theorem adm:jX ya 254 [(0,1),(1,1),(2,1),(3,1)]:=⟨_,Tryz.underlying254,fun w=>by simp[TI.size ti2,TI.size gr,TI.size wZ]⟩
theorem Si:jX ya 278 [(0,1),(1,1),(2,1),(3,1),(4,1),(5,1)]:=⟨_,Tryz.underlying278,fun w=>by simp[TI.size F6,TI.size TR,TI.size gr]⟩
theorem adn:jX ya 293 [(0,1),(1,1),(2,1)]:=⟨_,Tryz.underlying293,fun w=>by simp[TI.size TU,TI.size gr,TI.size j3]⟩
theorem Sj:jX ya 302 [(0,1),(1,1),(2,1),(3,1)]:=⟨_,Tryz.underlying302,fun w=>by simp[TI.size F6,TI.size LA,TI.size LF,TI.size j3]⟩
theorem Sk:jX ya 318 [(0,1),(1,1)]:=⟨_,Tryz.underlying318,fun w=>by simp[TI.size F8,TI.size gr]⟩
theorem Sm:jX ya 373 [(0,1),(1,1)]:=⟨_,Tryz.underlying373,fun w=>by simp[TI.size gr]⟩
theorem ado:jX ya 376 [(0,1),(1,1),(2,13)]:=⟨_,Tryz.underlying376,fun w=>by simp[TI.size j3,TI.size T2,TI.size wZ]⟩
theorem Sn:jX ya 385 [(0,1),(1,1),(2,1),(3,1)]:=⟨_,Dl,fun w=>by simp[TI.size F8,TI.size gr,TI.size LH,TI.size LI]⟩
theorem adp:jX ya 391 [(0,1),(1,1),(2,1)]:=⟨_,Tryz.underlying391,fun w=>by simp[TI.size LB,TI.size gr,TI.size T4]⟩
theorem adq:jX ya 409 [(0,1),(1,1),(2,1),(3,1),(4,1)]:=⟨_,Tryz.underlying409,fun w=>by simp[TI.size gr,TI.size T1,TI.size j3]⟩
theorem Yp:gi ya 6:=enters_of Tryz.func6 k_ rfl
theorem Yt:gi ya 7:=enters_of Tryz.func7 k_ rfl
theorem EG:gi ya 8:=enters_of Tryz.func8 k_ rfl
theorem PK:gi ya 9:=enters_of Tryz.func9 k_ rfl
theorem OL:gi ya 10:=enters_of Tryz.func10 k_ rfl
theorem WT:gi ya 11:=enters_of Tryz.func11 k_ rfl
theorem OM:gi ya 12:=enters_of Tryz.func12 k_ rfl
theorem W2:gi ya 13:=enters_of Tryz.func13 k_ rfl
theorem W6:gi ya 14:=enters_of Tryz.func14 k_ rfl
theorem OT:gi ya 15:=enters_of Tryz.func15 k_ rfl
theorem OV:gi ya 16:=enters_of Tryz.func16 k_ rfl
theorem Xl:gi ya 17:=enters_of Tryz.func17 k_ rfl
theorem Pb:gi ya 24:=enters_of Tryz.func24 k_ rfl
theorem Pd:gi ya 25:=enters_of Tryz.func25 k_ rfl
theorem XN:gi ya 26:=enters_of Tryz.func26 k_ rfl
theorem XY:gi ya 28:=enters_of Tryz.func28 k_ rfl
theorem Pu:gi ya 31:=enters_of Tryz.func31 k_ rfl
theorem X7:gi ya 32:=enters_of Tryz.func32 k_ rfl
theorem ED:gi ya 33:=enters_of Tryz.func33 k_ rfl
theorem PB:gi ya 34:=enters_of Tryz.func34 k_ rfl
theorem PC:gi ya 35:=enters_of Tryz.func35 k_ rfl
theorem uL:gi ya 36:=enters_of Tryz.func36 k_ rfl
theorem EE:gi ya 37:=enters_of Tryz.func37 k_ rfl
theorem Yg:gi ya 38:=enters_of Tryz.func38 k_ rfl
theorem PD:gi ya 39:=enters_of Tryz.func39 k_ rfl
theorem vZ:gi ya 40:=enters_of Tryz.func40 k_ rfl
theorem Yh:gi ya 41:=enters_of Tryz.func41 k_ rfl
theorem Yi:gi ya 42:=enters_of Tryz.func42 k_ rfl
theorem Yj:gi ya 43:=enters_of Tryz.func43 k_ rfl
theorem Yk:gi ya 44:=enters_of Tryz.func44 k_ rfl
theorem Yl:gi ya 45:=enters_of Tryz.func45 k_ rfl
theorem AE:gi ya 46:=enters_of Tryz.func46 k_ rfl
theorem Ym:gi ya 47:=enters_of Tryz.func47 k_ rfl
theorem Yn:gi ya 49:=enters_of Tryz.func49 k_ rfl
theorem EF:gi ya 57:=enters_of Tryz.func57 k_ rfl
theorem IT:gi ya 58:=enters_of Tryz.func58 k_ rfl
theorem Yo:gi ya 59:=enters_of Tryz.func59 k_ rfl
theorem PE:gi ya 60:=enters_of Tryz.func60 k_ rfl
theorem AF:gi ya 61:=enters_of Tryz.func61 k_ rfl
theorem Yq:gi ya 62:=enters_of Tryz.func62 k_ rfl
theorem Yr:gi ya 63:=enters_of Tryz.func63 k_ rfl
theorem Ys:gi ya 69:=enters_of Tryz.func69 k_ rfl
theorem Yu:gi ya 70:=enters_of Tryz.func70 k_ rfl
theorem Yv:gi ya 72:=enters_of Tryz.func72 k_ rfl
theorem PF:gi ya 73:=enters_of Tryz.func73 k_ rfl
theorem Yw:gi ya 74:=enters_of Tryz.func74 k_ rfl
theorem PG:gi ya 75:=enters_of Tryz.func75 k_ rfl
theorem Yx:gi ya 76:=enters_of Tryz.func76 k_ rfl
theorem PI:gi ya 77:=enters_of Tryz.func77 k_ rfl
theorem Yy:gi ya 78:=enters_of Tryz.func78 k_ rfl
theorem Yz:gi ya 79:=enters_of Tryz.func79 k_ rfl
theorem YA:gi ya 80:=enters_of Tryz.func80 k_ rfl
theorem YB:gi ya 81:=enters_of Tryz.func81 k_ rfl
theorem IU:gi ya 82:=enters_of Tryz.func82 k_ rfl
theorem AG:gi ya 83:=enters_of Tryz.func83 k_ rfl
theorem PJ:gi ya 84:=enters_of Tryz.func84 k_ rfl
theorem YC:gi ya 85:=enters_of Tryz.func85 k_ rfl
theorem YD:gi ya 88:=enters_of Tryz.func88 k_ rfl
theorem YE:gi ya 89:=enters_of Tryz.func89 k_ rfl
theorem PL:gi ya 90:=enters_of Tryz.func90 k_ rfl
theorem YF:gi ya 91:=enters_of Tryz.func91 k_ rfl
theorem IV:gi ya 92:=enters_of Tryz.func92 k_ rfl
theorem IW:gi ya 93:=enters_of Tryz.func93 k_ rfl
theorem YG:gi ya 94:=enters_of Tryz.func94 k_ rfl
theorem YH:gi ya 95:=enters_of Tryz.func95 k_ rfl
theorem YI:gi ya 96:=enters_of Tryz.func96 k_ rfl
theorem PM:gi ya 97:=enters_of Tryz.func97 k_ rfl
theorem YJ:gi ya 98:=enters_of Tryz.func98 k_ rfl
theorem WO:gi ya 100:=enters_of Tryz.func100 k_ rfl
theorem WQ:gi ya 103:=enters_of Tryz.func103 k_ rfl
theorem Iw:gi ya 104:=enters_of Tryz.func104 k_ rfl
theorem Ix:gi ya 105:=enters_of Tryz.func105 k_ rfl
theorem WR:gi ya 109:=enters_of Tryz.func109 k_ rfl
theorem WU:gi ya 110:=enters_of Tryz.func110 k_ rfl
theorem WV:gi ya 111:=enters_of Tryz.func111 k_ rfl
theorem WX:gi ya 112:=enters_of Tryz.func112 k_ rfl
theorem Iy:gi ya 113:=enters_of Tryz.func113 k_ rfl
theorem WY:gi ya 114:=enters_of Tryz.func114 k_ rfl
theorem WZ:gi ya 120:=enters_of Tryz.func120 k_ rfl
theorem W0:gi ya 122:=enters_of Tryz.func122 k_ rfl
theorem ON:gi ya 123:=enters_of Tryz.func123 k_ rfl
theorem Cu:gi ya 124:=enters_of Tryz.func124 k_ rfl
theorem W1:gi ya 125:=enters_of Tryz.func125 k_ rfl
theorem OO:gi ya 126:=enters_of Tryz.func126 k_ rfl
theorem Iz:gi ya 127:=enters_of Tryz.func127 k_ rfl
theorem OP:gi ya 128:=enters_of Tryz.func128 k_ rfl
theorem IA:gi ya 129:=enters_of Tryz.func129 k_ rfl
theorem IB:gi ya 130:=enters_of Tryz.func130 k_ rfl
theorem IC:gi ya 131:=enters_of Tryz.func131 k_ rfl
theorem ID:gi ya 132:=enters_of Tryz.func132 k_ rfl
theorem OQ:gi ya 133:=enters_of Tryz.func133 k_ rfl
theorem IE:gi ya 134:=enters_of Tryz.func134 k_ rfl
theorem OR:gi ya 135:=enters_of Tryz.func135 k_ rfl
theorem W3:gi ya 136:=enters_of Tryz.func136 k_ rfl
theorem W4:gi ya 137:=enters_of Tryz.func137 k_ rfl
theorem W5:gi ya 138:=enters_of Tryz.func138 k_ rfl
theorem OS:gi ya 139:=enters_of Tryz.func139 k_ rfl
theorem Ev:gi ya 140:=enters_of Tryz.func140 k_ rfl
theorem W7:gi ya 141:=enters_of Tryz.func141 k_ rfl
theorem W8:gi ya 142:=enters_of Tryz.func142 k_ rfl
theorem W9:gi ya 143:=enters_of Tryz.func143 k_ rfl
theorem Xa:gi ya 144:=enters_of Tryz.func144 k_ rfl
theorem Xb:gi ya 145:=enters_of Tryz.func145 k_ rfl
theorem Xc:gi ya 146:=enters_of Tryz.func146 k_ rfl
theorem Xd:gi ya 147:=enters_of Tryz.func147 k_ rfl
theorem Xe:gi ya 148:=enters_of Tryz.func148 k_ rfl
theorem vX:gi ya 149:=enters_of Tryz.func149 k_ rfl
theorem OU:gi ya 150:=enters_of Tryz.func150 k_ rfl
theorem Xf:gi ya 152:=enters_of Tryz.func152 k_ rfl
theorem Xg:gi ya 153:=enters_of Tryz.func153 k_ rfl
theorem Xh:gi ya 159:=enters_of Tryz.func159 k_ rfl
theorem Xi:gi ya 163:=enters_of Tryz.func163 k_ rfl
theorem Xj:gi ya 164:=enters_of Tryz.func164 k_ rfl
theorem OW:gi ya 165:=enters_of Tryz.func165 k_ rfl
theorem OX:gi ya 166:=enters_of Tryz.func166 k_ rfl
theorem Xk:gi ya 169:=enters_of Tryz.func169 k_ rfl
theorem OY:gi ya 171:=enters_of Tryz.func171 k_ rfl
theorem OZ:gi ya 172:=enters_of Tryz.func172 k_ rfl
theorem O1:gi ya 173:=enters_of Tryz.func173 k_ rfl
theorem vY:gi ya 179:=enters_of Tryz.func179 k_ rfl
theorem Xm:gi ya 180:=enters_of Tryz.func180 k_ rfl
theorem Xn:gi ya 181:=enters_of Tryz.func181 k_ rfl
theorem IF:gi ya 182:=enters_of Tryz.func182 k_ rfl
theorem Xo:gi ya 183:=enters_of Tryz.func183 k_ rfl
theorem Xp:gi ya 184:=enters_of Tryz.func184 k_ rfl
theorem Xq:gi ya 185:=enters_of Tryz.func185 k_ rfl
theorem Xr:gi ya 186:=enters_of Tryz.func186 k_ rfl
theorem O2:gi ya 187:=enters_of Tryz.func187 k_ rfl
theorem Xs:gi ya 188:=enters_of Tryz.func188 k_ rfl
theorem Xt:gi ya 189:=enters_of Tryz.func189 k_ rfl
theorem O3:gi ya 195:=enters_of Tryz.func195 k_ rfl
theorem Xu:gi ya 196:=enters_of Tryz.func196 k_ rfl
theorem AA:gi ya 197:=enters_of Tryz.func197 k_ rfl
theorem Xv:gi ya 198:=enters_of Tryz.func198 k_ rfl
theorem O4:gi ya 199:=enters_of Tryz.func199 k_ rfl
theorem AB:gi ya 200:=enters_of Tryz.func200 k_ rfl
theorem Cw:gi ya 201:=enters_of Tryz.func201 k_ rfl
theorem Xw:gi ya 202:=enters_of Tryz.func202 k_ rfl
theorem Ew:gi ya 203:=enters_of Tryz.func203 k_ rfl
theorem O5:gi ya 204:=enters_of Tryz.func204 k_ rfl
theorem Xx:gi ya 205:=enters_of Tryz.func205 k_ rfl
theorem Xy:gi ya 206:=enters_of Tryz.func206 k_ rfl
theorem Xz:gi ya 207:=enters_of Tryz.func207 k_ rfl
theorem XA:gi ya 208:=enters_of Tryz.func208 k_ rfl
theorem O6:gi ya 209:=enters_of Tryz.func209 k_ rfl
theorem Ey:gi ya 210:=enters_of Tryz.func210 k_ rfl
theorem XB:gi ya 211:=enters_of Tryz.func211 k_ rfl
theorem XC:gi ya 212:=enters_of Tryz.func212 k_ rfl
theorem O7:gi ya 214:=enters_of Tryz.func214 k_ rfl
theorem IG:gi ya 215:=enters_of Tryz.func215 k_ rfl
theorem XD:gi ya 216:=enters_of Tryz.func216 k_ rfl
theorem II:gi ya 217:=enters_of Tryz.func217 k_ rfl
theorem O8:gi ya 218:=enters_of Tryz.func218 k_ rfl
theorem XE:gi ya 219:=enters_of Tryz.func219 k_ rfl
theorem O9:gi ya 220:=enters_of Tryz.func220 k_ rfl
theorem XF:gi ya 221:=enters_of Tryz.func221 k_ rfl
theorem Pa:gi ya 222:=enters_of Tryz.func222 k_ rfl
theorem XG:gi ya 223:=enters_of Tryz.func223 k_ rfl
theorem IJ:gi ya 237:=enters_of Tryz.func237 k_ rfl
theorem XH:gi ya 238:=enters_of Tryz.func238 k_ rfl
theorem XI:gi ya 239:=enters_of Tryz.func239 k_ rfl
theorem XJ:gi ya 242:=enters_of Tryz.func242 k_ rfl
theorem Pc:gi ya 243:=enters_of Tryz.func243 k_ rfl
theorem XK:gi ya 246:=enters_of Tryz.func246 k_ rfl
theorem XL:gi ya 251:=enters_of Tryz.func251 k_ rfl
theorem Pe:gi ya 252:=enters_of Tryz.func252 k_ rfl
theorem Pf:gi ya 253:=enters_of Tryz.func253 k_ rfl
theorem Pg:gi ya 254:=enters_of Tryz.func254 k_ rfl
theorem Ez:gi ya 255:=enters_of Tryz.func255 k_ rfl
theorem Ph:gi ya 256:=enters_of Tryz.func256 k_ rfl
theorem XM:gi ya 257:=enters_of Tryz.func257 k_ rfl
theorem Pj:gi ya 258:=enters_of Tryz.func258 k_ rfl
theorem XO:gi ya 261:=enters_of Tryz.func261 k_ rfl
theorem XP:gi ya 262:=enters_of Tryz.func262 k_ rfl
theorem XQ:gi ya 263:=enters_of Tryz.func263 k_ rfl
theorem XR:gi ya 264:=enters_of Tryz.func264 k_ rfl
theorem XS:gi ya 265:=enters_of Tryz.func265 k_ rfl
theorem XT:gi ya 266:=enters_of Tryz.func266 k_ rfl
theorem XU:gi ya 267:=enters_of Tryz.func267 k_ rfl
theorem AD:gi ya 268:=enters_of Tryz.func268 k_ rfl
theorem IK:gi ya 269:=enters_of Tryz.func269 k_ rfl
theorem EA:gi ya 270:=enters_of Tryz.func270 k_ rfl
theorem Pk:gi ya 271:=enters_of Tryz.func271 k_ rfl
theorem IL:gi ya 272:=enters_of Tryz.func272 k_ rfl
theorem XV:gi ya 273:=enters_of Tryz.func273 k_ rfl
theorem IN:gi ya 274:=enters_of Tryz.func274 k_ rfl
theorem l7:gi ya 275:=enters_of Tryz.func275 k_ rfl
theorem XW:gi ya 276:=enters_of Tryz.func276 k_ rfl
theorem Pm:gi ya 277:=enters_of Tryz.func277 k_ rfl
theorem XX:gi ya 278:=enters_of Tryz.func278 k_ rfl
theorem Pn:gi ya 280:=enters_of Tryz.func280 k_ rfl
theorem Po:gi ya 281:=enters_of Tryz.func281 k_ rfl
theorem XZ:gi ya 282:=enters_of Tryz.func282 k_ rfl
theorem X0:gi ya 283:=enters_of Tryz.func283 k_ rfl
theorem IP:gi ya 284:=enters_of Tryz.func284 k_ rfl
theorem IQ:gi ya 285:=enters_of Tryz.func285 k_ rfl
theorem IS:gi ya 286:=enters_of Tryz.func286 k_ rfl
theorem Pp:gi ya 287:=enters_of Tryz.func287 k_ rfl
theorem xS:gi ya 288:=enters_of Tryz.func288 k_ rfl
theorem X3:gi ya 289:=enters_of Tryz.func289 k_ rfl
theorem X4:gi ya 298:=enters_of Tryz.func298 k_ rfl
theorem Pq:gi ya 306:=enters_of Tryz.func306 k_ rfl
theorem Pr:gi ya 307:=enters_of Tryz.func307 k_ rfl
theorem Pt:gi ya 308:=enters_of Tryz.func308 k_ rfl
theorem EB:gi ya 316:=enters_of Tryz.func316 k_ rfl
theorem X5:gi ya 317:=enters_of Tryz.func317 k_ rfl
theorem X6:gi ya 318:=enters_of Tryz.func318 k_ rfl
theorem Pv:gi ya 320:=enters_of Tryz.func320 k_ rfl
theorem Pw:gi ya 321:=enters_of Tryz.func321 k_ rfl
theorem Px:gi ya 322:=enters_of Tryz.func322 k_ rfl
theorem Py:gi ya 323:=enters_of Tryz.func323 k_ rfl
theorem Pz:gi ya 324:=enters_of Tryz.func324 k_ rfl
theorem EC:gi ya 325:=enters_of Tryz.func325 k_ rfl
theorem X8:gi ya 326:=enters_of Tryz.func326 k_ rfl
theorem PA:gi ya 327:=enters_of Tryz.func327 k_ rfl
theorem X9:gi ya 328:=enters_of Tryz.func328 k_ rfl
theorem Ya:gi ya 338:=enters_of Tryz.func338 k_ rfl
theorem Yb:gi ya 339:=enters_of Tryz.func339 k_ rfl
theorem Cy:gi ya 340:=enters_of Tryz.func340 k_ rfl
theorem mZ:gi ya 341:=enters_of Tryz.func341 k_ rfl
theorem Yc:gi ya 342:=enters_of Tryz.func342 k_ rfl
theorem Yd:gi ya 343:=enters_of Tryz.func343 k_ rfl
theorem Cz:gi ya 344:=enters_of Tryz.func344 k_ rfl
theorem Ye:gi ya 345:=enters_of Tryz.func345 k_ rfl
theorem Yf:gi ya 358:=enters_of Tryz.func358 k_ rfl
theorem lR:gi ya 359:=enters_of Tryz.func359 k_ rfl
theorem mixed:ya.follows .mixedOrders=true:=by kernel_rfl
instance tt:TT ya:=⟨mixed,[(2,_),(3,_),(4,_),(5,_),(22,_),(23,_),(27,_),(28,_),(31,_),(35,_),(37,_),(39,_),(41,_),(43,_),(68,_),(70,_),(73,_),(78,_),(81,_),(94,_),(100,_),(102,_),(103,_),(104,_),(106,_),(108,_),(110,_),(113,_),(114,_),(115,_),(116,_),(118,_),(122,_),(128,_),(138,_),(152,_),(156,_),(158,_),(167,_),(169,_),(170,_),(171,_),(172,_),(174,_),(179,_),(183,_),(185,_),(188,_),(190,_),(193,_),(195,_),(208,_),(210,_),(211,_),(212,_),(214,_),(217,_),(223,_),(225,_),(229,_),(231,_),(234,_),(245,_),(247,_),(250,_),(254,_),(267,_),(276,_),(278,_),(291,_),(293,_),(302,_),(318,_),(353,_),(368,_),(376,_),(381,_),(382,_),(383,_),(385,_),(388,_),(389,_),(391,_),(392,_),(399,_),(409,_)],[(2,_,_,_),(3,_,_,_),(4,_,_,_),(5,_,_,_),(23,_,_,_),(27,_,_,_),(28,_,_,_),(31,_,_,_),(32,_,_,_),(35,_,_,_),(37,_,_,_),(39,_,_,_),(41,_,_,_),(43,_,_,_),(68,_,_,_),(70,_,_,_),(73,_,_,_),(78,_,_,_),(81,_,_,_),(94,_,_,_),(100,_,_,_),(102,_,_,_),(103,_,_,_),(104,_,_,_),(106,_,_,_),(108,_,_,_),(110,_,_,_),(113,_,_,_),(114,_,_,_),(115,_,_,_),(116,_,_,_),(118,_,_,_),(122,_,_,_),(128,_,_,_),(138,_,_,_),(156,_,_,_),(158,_,_,_),(167,_,_,_),(169,_,_,_),(170,_,_,_),(171,_,_,_),(172,_,_,_),(174,_,_,_),(179,_,_,_),(183,_,_,_),(185,_,_,_),(188,_,_,_),(190,_,_,_),(195,_,_,_),(208,_,_,_),(210,_,_,_),(211,_,_,_),(212,_,_,_),(214,_,_,_),(223,_,_,_),(225,_,_,_),(227,_,_,_),(229,_,_,_),(231,_,_,_),(232,_,_,_),(234,_,_,_),(245,_,_,_),(247,_,_,_),(250,_,_,_),(254,_,_,_),(267,_,_,_),(276,_,_,_),(278,_,_,_),(291,_,_,_),(293,_,_,_),(302,_,_,_),(318,_,_,_),(323,_,_,_),(353,_,_,_),(371,_,_,_),(373,_,_,_),(374,_,_,_),(376,_,_,_),(381,_,_,_),(382,_,_,_),(383,_,_,_),(385,_,_,_),(388,_,_,_),(389,_,_,_),(391,_,_,_),(392,_,_,_),(395,_,_,_),(399,_,_,_),(401,_,_,_),(409,_,_,_)],⟨vw,yf,y9,Tryz.underlying5,Tryz.underlying22,By,yz,pJ,Tryz.underlying31,qD,yd,yn,Dm,xg,Tryz.underlying68,Tryz.underlying70,Gp,ow,Bz,Gq,Gx,Tryz.underlying102,Tryz.underlying103,Tryz.underlying104,Gy,Tryz.underlying108,Gz,Tryz.underlying113,GA,Tryz.underlying115,Tryz.underlying116,Tryz.underlying118,Tryz.underlying122,oq,Tryz.underlying138,GB,Tryz.underlying156,Tryz.underlying158,Tryz.underlying167,yo,Tryz.underlying170,Tryz.underlying171,yx,Tryz.underlying174,Dj,vt,Tryz.underlying185,xh,GC,Tryz.underlying193,Tryz.underlying195,Tryz.underlying208,Tryz.underlying210,GD,sB,Tryz.underlying214,Tryz.underlying217,zB,Tryz.underlying225,zC,Tryz.underlying231,Tryz.underlying234,Tryz.underlying245,Tryz.underlying247,xl,Tryz.underlying254,zD,Bw,Tryz.underlying278,GF,Tryz.underlying293,Tryz.underlying302,Tryz.underlying318,Tryz.underlying353,Tryz.underlying368,Tryz.underlying376,Bx,ot,vu,Dl,Tryz.underlying388,yh,Tryz.underlying391,Tryz.underlying392,zF,Tryz.underlying409,trivial⟩,⟨ti2,gr,wZ,ti5,TK,LF,TS,TX,yX,TZ,j3,jt,vk,mU,afJ,afK,Gc,T5,afL,Dd,C5,wY,Tv,Tw,C6,Tx,yU,Ty,Lx,Tz,TA,TB,TC,uc,C7,Ly,F4,Lz,F5,F6,LA,TD,TE,afF,afG,C8,F7,yV,afH,LB,LC,F8,TF,TG,LD,TH,C9,TJ,TL,TM,TN,TO,TP,qa,yW,TQ,TR,F9,TU,TV,Ga,LG,TY,T1,Da,yY,T2,T3,afI,LH,LI,Gb,jk,T4,LJ,Db,LK,Dc,LM,LN,trivial⟩⟩
end
section
open Go Go.Sx
theorem Rw(x:Int)(w:World) :
 CR ya 243 (Z4 x) w (fun r w' => r = .bool false/\gw [] w w'):=by
 refine en Tryz.func243 Tryz.ntmps243 ?_
 have a:=yu w
 refine iO a 14 ?_
 refine gq (v:=Zp) Tryz.results243 rfl ?_
 exact⟨rfl,a.gA s_⟩
theorem V2(x y:Int)(w:World) :
 CR ya 172 (Zx x y) w (fun r w' => r = .int .i64 (jh x y)/\gw [] w w'):=by
 refine en Tryz.func172 Tryz.ntmps172 ?_
 have i:=yu w
 refine fR i 8 ?_
 refine cl Pc (Rw x w) ?_
 rintro _ c ⟨rfl,d⟩
 have b:=yp i d
 refine fK b 6 ?_
 refine cl Pc (Rw y c) ?_
 rintro _ f ⟨rfl,e⟩
 have a:=yp b e
 refine fK a 26 ?_
 by_cases g:(x:Int)<(y:Int)
 . refine fP a 11 ?_
   refine gq (v:=Zw) Tryz.results172 rfl ?_
   exact⟨gj (by simp only[jh];(repeat' split)<;>omega),a.gA s_⟩
 . refine fK a 11 ?_
   by_cases h:(x:Int)>(y:Int)
   . refine fP a 11 ?_
     refine gq (v:=qn) Tryz.results172 rfl ?_
     exact⟨gj (by simp only[jh];(repeat' split)<;>omega),a.gA s_⟩
   . refine fP a 12 ?_
     refine gq (v:=Zc) Tryz.results172 rfl ?_
     exact⟨gj (by simp only[jh];(repeat' split)<;>omega),a.gA s_⟩
theorem J7(x:Int)(w:World) :
 CR ya 237 (Z4 x) w (fun r w' => r = .bool false/\gw [] w w'):=by
 refine en Tryz.func237 Tryz.ntmps237 ?_
 have a:=yu w
 refine iO a 14 ?_
 refine gq (v:=Zp) Tryz.results237 rfl ?_
 exact⟨rfl,a.gA s_⟩
theorem V1(x y:Int)(w:World) :
 CR ya 173 (Zx x y) w (fun r w' => r = .int .i64 (jh x y)/\gw [] w w'):=by
 refine en Tryz.func173 Tryz.ntmps173 ?_
 have i:=yu w
 refine fR i 8 ?_
 refine cl IJ (J7 x w) ?_
 rintro _ c ⟨rfl,d⟩
 have b:=yp i d
 refine fK b 6 ?_
 refine cl IJ (J7 y c) ?_
 rintro _ f ⟨rfl,e⟩
 have a:=yp b e
 refine fK a 26 ?_
 by_cases g:(x:Int)<(y:Int)
 . refine fP a 11 ?_
   refine gq (v:=Zw) Tryz.results173 rfl ?_
   exact⟨gj (by simp only[jh];(repeat' split)<;>omega),a.gA s_⟩
 . refine fK a 11 ?_
   by_cases h:(x:Int)>(y:Int)
   . refine fP a 11 ?_
     refine gq (v:=qn) Tryz.results173 rfl ?_
     exact⟨gj (by simp only[jh];(repeat' split)<;>omega),a.gA s_⟩
   . refine fP a 12 ?_
     refine gq (v:=Zc) Tryz.results173 rfl ?_
     exact⟨gj (by simp only[jh];(repeat' split)<;>omega),a.gA s_⟩
theorem ab3(x:Int)(w:World) :
 CR ya 152 (xA x) w (fun r w' => r = .bool false/\gw [] w w'):=by
 refine en Tryz.func152 Tryz.ntmps152 ?_
 have a:=yu w
 refine iO a 14 ?_
 refine gq (v:=Zp) Tryz.results152 rfl ?_
 exact⟨rfl,a.gA s_⟩
theorem acF(v:Value)(xs:List Int)(w:World)(hv:Ints .i64 (fun _=>True) w v xs) :
 CR ya 171 #[v] w (fun r w' => r = .int .i64 (nk xs)/\gw [] w w'):=by
 have u:=hv.len
 refine en Tryz.func171 Tryz.ntmps171 ?_
 have p:=yu w
 refine fR p 14 ?_
 refine j8 (v:=v) rfl rfl yd hv (gD p 4 ?_)
 refine lp (α:=Nat) (fun k=>[(3,Zc),(6,v),(7,(Za xs.length)),(8,(Za k))]) (fun k w1=>St [(w,[])] [] w1/\k<=xs.length/\∀ j x,j<k->xs[j]? = some x->x=0) (fun k=>xs.length-k) 0 ⟨rfl,rfl,rfl,gj rO,trivial⟩ (⟨p,o_,fun j x h=>absurd h o_⟩) ?_
 rintro k c d ⟨o,t,s⟩
 refine fR o 2 ?_
 by_cases e:((k:Int):Int)<((xs.length:Int):Int)
 . obtain⟨x,q⟩:=nW (show k<xs.length by omega)
   refine fK o 11 ?_
   refine CC (i:=(k:Int)) (el:=x) rfl rfl rfl yd gr (St.EV o s_ hv) o_ (by rw[show ((k:Nat):Int).toNat=k by omega];exact q) ?_
   intro f g a b l
   have m:=b.i64
   refine ld rfl rfl yf rfl a (fK o 7 ?_)
   by_cases n:(x:Int)=(0:Int)
   . refine fP o 11 ?_
     refine tN (?_)
     exact again (k+1) ⟨rfl,rfl,rfl,gj rO,trivial⟩ (⟨o,o_,RQ s q o_⟩) (by show (xs.length-(k+1):Nat)<xs.length-k;omega)
   . refine fP o 16 ?_
     refine gq (v:=(Za x)) Gs rfl ?_
     exact⟨gj (RN s q o_).symm,o.gA s_⟩
 . refine fP o 17 ?_
   refine gq (v:=Zc) Gs rfl ?_
   exact⟨gj (RO s o_).symm,o.gA s_⟩
theorem CS(a b:gG)(w:World) :
 CR ya 340 #[(M8 a),(M8 b)] w (fun r w' => r = .int .i64 (qA a b)/\gw [] w w'):=by
 refine en Tryz.func340 Tryz.ntmps340 ?_
 have F:=yu w
 refine fR F 2 ?_
 refine iC F (fun s t u x h=>?_)
 refine iC h (fun z A B C c=>?_)
 refine gD c 4 ?_
 refine kC mixed [([0,1,2,3,5,6,7,8,4],[6,8])] [9,10,11,12] c (fun j d=>jA ?_)
 refine fK d 8 ?_
 refine cl OZ (V2 a.key b.key j) ?_
 rintro _ k ⟨rfl,l⟩
 have e:=yp d l
 refine fP e 1 ?_
 refine kn (kF ?_)
 refine cl O1 (V1 (a.ix:Int) (b.ix:Int) k) ?_
 rintro _ D ⟨rfl,m⟩
 have n:=yp e m
 refine jJ (vs:=(Zn (jh a.key b.key) (jh (a.ix:Int) (b.ix:Int)))) (cs:=(Zn (jh a.key b.key) (jh (a.ix:Int) (b.ix:Int)))) rfl rfl yd gr rfl (by simp[Value.cells]) rfl rfl rfl n (fun o p E G f=>cl OY (acF (xG o) [jh a.key b.key,jh (a.ix:Int) (b.ix:Int)] p (xm f (i:=0) rfl (fun y I=>by simp only[ze,oV,or_false]at I;rcases I with rfl|rfl<;>exact Oo _ _)).any) ?_)
 rintro _ H ⟨rfl,q⟩
 have g:=yp f q
 refine fP g 4 ?_
 refine gq (v:=(Za (nk [jh a.key b.key,jh (a.ix:Int) (b.ix:Int)]))) Tryz.results340 rfl ?_
 exact⟨gj (RS a b),g.gA s_⟩
end
section
open Go Go.Sx
theorem AP(hb n:Nat)(iv pv:Value)(ps:List (Option Nat))(fQ:List gG)(pl:List Nat)(w:World)(d:Own (Zj hb n iv pv fQ ps pl) w) :
 CR ya 268 (Zi hb) w (fun r w' => r = .bool true/\fV (Zj hb n iv pv fQ ps pl) w w' (Zj hb n iv pv fQ ps pl)):=by
 refine en Tryz.func268 Tryz.ntmps268 ?_
 have b:=(yq d).unpack
 refine fR b 8 ?_
 refine l9 (a:=some ⟨hb,0,none⟩) (c:=true) rfl rfl rfl GD rfl (fK b 6 ?_)
 refine AH (a:=⟨hb,0,none⟩) rfl rfl rfl GD Gb (fP b 5 ?_)
 refine gq (v:=Zh) Tryz.results268 rfl ?_
 exact⟨rfl,yi (yc [_,_,_,_] _ b)⟩
theorem Je(hb n:Nat)(iv pv:Value)(ps:List (Option Nat))(fQ:List gG)(pl:List Nat)(w:World)(b:Own (Zj hb n iv pv fQ ps pl) w)(i:Nat)(hi:i<n) :
 CR ya 284 (Zm hb i) w (fun r w' => r = .bool true/\fV (Zj hb n iv pv fQ ps pl) w w' (Zj hb n iv pv fQ ps pl)):=by
 refine en Tryz.func284 Tryz.ntmps284 ?_
 have a:=(yq b).unpack
 refine fR a 8 ?_
 refine cmp rfl rfl rfl (nG o_) (fK a 6 ?_)
 refine cmp rfl rfl rfl (pZ o_) (fP a 5 ?_)
 refine gq (v:=Zh) Tryz.results284 rfl ?_
 exact⟨rfl,yi (yc [_,_,_,_] _ a)⟩
theorem Jf(hb n:Nat)(iv pv:Value)(ps:List (Option Nat))(fQ:List gG)(pl:List Nat)(w:World)(l:Own (Zj hb n iv pv fQ ps pl) w)(j:jx n ps pl)(i:Nat)(hi:i<n) :
 CR ya 285 (Zm hb i) w (fun r w' => r = .int .i64 (((fJ pl i:Nat):Int)-1)/\fV (Zj hb n iv pv fQ ps pl) w w' (Zj hb n iv pv fQ ps pl)):=by
 have m:=j.at hi
 have t:=j.room
 have s:=j.n
 have u:=j.val i
 refine en Tryz.func285 Tryz.ntmps285 ?_
 have h:=(yq l).unpack
 refine fR h 12 ?_
 refine quo (a:=(i:Int)) (b:=64) (e:=((i / 64:Nat):Int)) rfl rfl rfl d_ (wM 64 o_) (iJ (cf:=iw) (k:=(i / 64)) (i:=((i / 64:Nat):Int)) rfl rfl rfl vu Dc (y0 h 2 rfl) o_ rfl (gy om) ?_)
 obtain⟨f,d⟩:∃ q,(fJ ps (i / 64))=q:=⟨_,rfl⟩
 refine fK h 8 ?_
 rcases f with _|g
 . skip
   refine uM (a:=(fJ ps (i / 64)).map fun b=>⟨b,0,none⟩) (c:=true) rfl rfl rfl zF (by rw[d];rfl) (fP h 10 ?_)
   refine gq (v:=Zw) Tryz.results285 rfl ?_
   exact⟨gj (by rw[j.zero (i / 64) ((gy m).trans (congrArg some d)) i rfl];rfl),yi (yc [_,_,_,_] _ h)⟩
 . skip
   refine uM (a:=(fJ ps (i / 64)).map fun b=>⟨b,0,none⟩) (c:=false) rfl rfl rfl zF (by rw[d];rfl) (fK h 9 ?_)
   refine rem (a:=(i:Int)) (b:=64) (e:=((i%64:Nat):Int)) rfl rfl rfl d_ (CX 64) (uZ rfl (Be d) (jL (o:=0) (o' := i%64*1+0) (i:=((i%64:Nat):Int)) rfl rfl rfl GH gr o_ (by simp only[nT];omega) (ld rfl rfl yf rfl (Bv h (i:=3) rfl f_ d_ (by have p:=j.room;first|omega|(simp only[ji,gx];omega)) ((gy o_).trans (congrArg some d)) rfl) (fP h 5 ?_))))
   refine gq (v:=(Za ((((fJ pl i):Nat):Int)-1))) Tryz.results285 rfl ?_
   exact⟨gj o_,yi (yc [_,_,_,_] _ h)⟩
theorem ET(hb n:Nat)(iv pv:Value)(ps:List (Option Nat))(fQ:List gG)(pl:List Nat)(w:World)(N:Own (Zj hb n iv pv fQ ps pl) w)(F:jx n ps pl)(i:Nat)(hi:i<n)(v:Int)(p:Nat)(hv:v+1=(p:Int))(hp:p<=65536) :
 CR ya 270 (Zu hb i v) w (fun r w' => r = .tuple #[]/\∃ K,K.length=ps.length/\jx n K (ji pl i p)/\fV (Zj hb n iv pv fQ ps pl) w w' (Zj hb n iv pv fQ K (ji pl i p))):=by
 have I:=F.at hi
 have Q:=F.room
 have P:=F.n
 have R:=F.val i
 refine en Tryz.func270 Tryz.ntmps270 ?_
 have G:=(yq N).unpack
 refine fR G 8 ?_
 refine quo (a:=(i:Int)) (b:=64) (e:=((i / 64:Nat):Int)) rfl rfl rfl d_ (wM 64 o_) ?_
 obtain⟨s,g⟩:∃ q,(fJ ps (i / 64))=q:=⟨_,rfl⟩
 refine fK G 2 ?_
 rcases s with _|t
 . skip
   refine uM (a:=(fJ ps (i / 64)).map fun b=>⟨b,0,none⟩) (c:=true) rfl rfl rfl zF (by rw[g];rfl) (fK G 9 ?_)
   refine quo (a:=(i:Int)) (b:=64) (e:=((i / 64:Nat):Int)) rfl rfl rfl d_ (wM 64 o_) (iE G (fun d z A B j=>?_))
   refine fK j 1 ?_
   refine iz (f:=(fun _=>(some d))) 3 j (fun C k=>?_)
   have u:=yg [0,4,1,2,3] k
   have L:ps[i / 64]? = some none:=(gy I).trans (congrArg some g)
   have x:=St.Oc u L (F.VI L)
   have h:=x
   have J:jx n (ps.set (i / 64) (some d)) pl:=F.made
   have H:(ps.set (i / 64) (some d))[i / 64]? = some (some d):=by rw[vD,if_pos rfl,if_pos I]
   have O:i / 64<(ps.set (i / 64) (some d)).length:=by rw[List.length_set];exact I
   refine fK k 8 ?_
   refine quo (a:=(i:Int)) (b:=64) (e:=((i / 64:Nat):Int)) rfl rfl rfl d_ (wM 64 o_) (fK h 3 ?_)
   refine rem (a:=(i:Int)) (b:=64) (e:=((i%64:Nat):Int)) rfl rfl rfl d_ (CX 64) (fK h 1 ?_)
   refine ar (e:=(p:Int)) rfl rfl rfl rfl (by rw[oh o_];exact hv) (uZ rfl (Be (iK H)) (jL (o:=0) (o' := i%64*1+0) (i:=((i%64:Nat):Int)) rfl rfl rfl GH gr o_ (by simp only[nT];omega) (ru (f:=(fun _=>p)) (L' := [gJ fS 401 64 (ps.set (i / 64) (some d)) (fM pl i (fun _=>p)),blk hb 385 (pX hb n iv pv),fL gG.cells iv 250 2 fQ,fL iw pv 399 1 (ps.set (i / 64) (some d))]) 0 rfl rfl rfl rfl gr rfl rfl h rfl f_ d_ (by have M:=F.room;first|omega|(simp only[ji,gx];omega)) H rfl rfl rfl (fun D l=>fP l 1 ?_))))
   refine iS Tryz.results270 ?_
   have y:=yg [1,2,3,0] l
   exact⟨rfl,ps.set (i / 64) (some d),s_,J.set hi o_ H,yi (yc [_,_,_,_] _ y)⟩
 . skip
   refine uM (a:=(fJ ps (i / 64)).map fun b=>⟨b,0,none⟩) (c:=false) rfl rfl rfl zF (by rw[g];rfl) ?_
   have J:=F
   have H:ps[i / 64]? = some (some t):=(gy I).trans (congrArg some g)
   have O:=I
   refine fK G 11 ?_
   refine quo (a:=(i:Int)) (b:=64) (e:=((i / 64:Nat):Int)) rfl rfl rfl d_ (wM 64 o_) (fK G 3 ?_)
   refine rem (a:=(i:Int)) (b:=64) (e:=((i%64:Nat):Int)) rfl rfl rfl d_ (CX 64) (fK G 1 ?_)
   refine ar (e:=(p:Int)) rfl rfl rfl rfl (by rw[oh o_];exact hv) (uZ rfl (Be g) (jL (o:=0) (o' := i%64*1+0) (i:=((i%64:Nat):Int)) rfl rfl rfl GH gr o_ (by simp only[nT];omega) (ru (f:=(fun _=>p)) (L' := (HF hb n iv pv fQ ps (fM pl i (fun _=>p)))) 3 rfl rfl rfl rfl gr rfl rfl G rfl f_ d_ (by have M:=F.room;first|omega|(simp only[ji,gx];omega)) H rfl rfl rfl (fun E m=>fP m 1 ?_))))
   refine iS Tryz.results270 ?_
   exact⟨rfl,ps,s_,J.set hi o_ H,yi (yc [_,_,_,_] _ m)⟩
end
section
open Go Go.Sx
theorem Jg(hb n:Nat)(iv pv:Value)(ps:List (Option Nat))(fQ:List gG)(pl:List Nat)(w:World)(B:Own (Zj hb n iv pv fQ ps pl) w)(z:Hp n fQ pl)(y:jx n ps pl)(p q:Nat)(hp:p<fQ.length)(F:q<fQ.length) :
 CR ya 269 (Zu hb p q) w (fun r w' => r = .tuple #[]/\∃ x,x.length=ps.length/\jx n x (ji (ji pl (fJ (iL fQ p q) p).ix (p+1)) (fJ (iL fQ p q) q).ix (q+1))/\fV (Zj hb n iv pv fQ ps pl) w w' (Zj hb n iv pv (iL fQ p q) x (ji (ji pl (fJ (iL fQ p q) p).ix (p+1)) (fJ (iL fQ p q) q).ix (q+1)))):=by
 have L:=y.n
 have K:=z.len
 have G:=mT fQ p q
 have A:∀ j,j<fQ.length->(fJ (iL fQ p q) j).ix<n:=fun j E=>(z.swap hp F).ix j (by rw[G];exact E)
 refine en Tryz.func269 Tryz.ntmps269 ?_
 have H:=(yq B).unpack
 refine nN H 27 fun m h=>?_
 refine iz (f:=(fun _=>(fJ fQ q))) 1 h (fun o a=>?_)
 refine fK a 1 ?_
 refine iz (f:=(fun _=>(fJ fQ p))) 1 a (fun i b=>?_)
 have k:=b
 have c:=yc [_,_,_,_] _ k
 refine fK b 14 ?_
 refine cl EA (ET hb n iv pv ps (iL fQ p q) pl i (ye c 0 rfl) y ((fJ (iL fQ p q) p).ix) (A _ (by assumption)) (p:Int) (p+1) o_ o_) ?_
 rintro _ l ⟨rfl,I,s,C,v⟩
 have d:=(yk c v)
 have e:=yc [_,_,_,_] _ d
 refine fK d 13 ?_
 refine cl EA (ET hb n iv pv I (iL fQ p q) (ji pl ((fJ (iL fQ p q) p).ix) (p+1)) l (ye e 0 rfl) C ((fJ (iL fQ p q) q).ix) (A _ (by assumption)) (q:Int) (q+1) o_ o_) ?_
 rintro _ t ⟨rfl,J,u,D,v⟩
 have g:=(yk e v)
 refine fP g 1 ?_
 refine iS Tryz.results269 ?_
 exact⟨rfl,J,o_,D,yi (yc [_,_,_,_] _ g)⟩
theorem Qm(hb n:Nat)(iv pv:Value)(ps:List (Option Nat))(fQ:List gG)(pl:List Nat)(w:World)(m:Own (Zj hb n iv pv fQ ps pl) w)(q:Hp n fQ pl)(o:jx n ps pl)(p:Nat)(hp:p<fQ.length) :
 CR ya 321 (Zm hb p) w (fun r w' => r = .int .i64 (rR fQ p)/\fV (Zj hb n iv pv fQ ps pl) w w' (Zj hb n iv pv fQ ps pl)):=by
 have t:=o.n
 have s:=q.len
 have u:pa p<fQ.length:=by simp only[pa];omega
 refine en Tryz.func321 Tryz.ntmps321 ?_
 have l:=(yq m).unpack
 refine fR l 9 ?_
 refine quo (a:=(p:Int)-1) (b:=2) (e:=((pa p:Nat):Int)) rfl rfl rfl d_ (paN o_) (gI l 7 fun g c=>?_)
 by_cases h:((p:Int):Int)>(0:Int)
 . refine fK c 16 ?_
   refine cl Cy (CS (fJ fQ p) (fJ fQ (pa p)) g) ?_
   rintro _ j ⟨rfl,i⟩
   have d:=yp c i
   by_cases f:(qA (fJ fQ p) (fJ fQ (pa p)):Int)<(0:Int)
   . refine fP d 13 ?_
     refine gq (v:=(Za ((pa p:Nat):Int))) Tryz.results321 rfl ?_
     exact⟨gj (by unfold rR;rw[if_pos (show 0<p/\iN (fJ fQ p) (fJ fQ (pa p)) from⟨o_,nZ.1 f⟩)]),yi (yc [_,_,_,_] _ d)⟩
   . refine fP d 13 ?_
     refine gq (v:=Zw) Tryz.results321 rfl ?_
     exact⟨gj (by unfold rR;rw[if_neg (show ¬ (0<p/\iN (fJ fQ p) (fJ fQ (pa p))) from fun k=>f (nZ.2 k.2))]),yi (yc [_,_,_,_] _ d)⟩
 . refine fP c 30 ?_
   refine gq (v:=Zw) Tryz.results321 rfl ?_
   exact⟨gj (by unfold rR;rw[if_neg (show ¬ (0<p/\iN (fJ fQ p) (fJ fQ (pa p))) from fun k=>h o_)]),yi (yc [_,_,_,_] _ c)⟩
theorem Qp(hb n:Nat)(iv pv:Value)(ps:List (Option Nat))(fQ:List gG)(pl:List Nat)(w:World)(Q:Own (Zj hb n iv pv fQ ps pl) w)(S:Hp n fQ pl)(R:jx n ps pl)(p:Nat)(hp:p<fQ.length) :
 CR ya 322 (Zm hb p) w (fun r w' => r = .int .i64 (nU fQ p)/\fV (Zj hb n iv pv fQ ps pl) w w' (Zj hb n iv pv fQ ps pl)):=by
 have U:=R.n
 have T:=S.len
 refine en Tryz.func322 Tryz.ntmps322 ?_
 have P:=(yq Q).unpack
 refine p8 P 18 ?_
 refine ry 3 (iG (fR P 20 ?_))
 refine ar (e:=((2*p:Nat):Int)) rfl rfl rfl rfl iW (ar (e:=((2*p+1:Nat):Int)) rfl rfl rfl rfl iW (fK P 1 ?_))
 refine ar (e:=((2*p+1:Nat):Int)) rfl rfl rfl rfl iW (gI P 10 fun s g=>?_)
 refine iM (m:=fQ.length) 1 rfl rfl ot g rfl ?_
 by_cases k:(((2*p+1:Nat):Int):Int)<((fQ.length:Int):Int)
 . refine fK g 16 ?_
   refine cl Cy (CS (fJ fQ (2*p+1)) (fJ fQ p) s) ?_
   rintro _ G ⟨rfl,t⟩
   have b:=yp g t
   by_cases h:(qA (fJ fQ (2*p+1)) (fJ fQ p):Int)<(0:Int)
   . refine fP b 15 ?_
     refine tN (?_)
     refine iG (fR b 20 ?_)
     refine ar (e:=((2*p:Nat):Int)) rfl rfl rfl rfl iW (ar (e:=((2*p+1:Nat):Int)) rfl rfl rfl rfl iW (fK b 1 ?_))
     refine ar (e:=((2*p+2:Nat):Int)) rfl rfl rfl rfl iW (gI b 10 fun u c=>?_)
     refine iM (m:=fQ.length) 1 rfl rfl ot c rfl ?_
     by_cases x:(((2*p+2:Nat):Int):Int)<((fQ.length:Int):Int)
     . refine fK c 16 ?_
       refine cl Cy (CS (fJ fQ (2*p+2)) (fJ fQ (2*p+1)) u) ?_
       rintro _ H ⟨rfl,y⟩
       have a:=yp c y
       by_cases l:(qA (fJ fQ (2*p+2)) (fJ fQ (2*p+1)):Int)<(0:Int)
       . refine fP a 15 ?_
         refine tN (?_)
         refine iG (fR a 17 ?_)
         by_cases I:(((2*p+2:Nat):Int):Int)=((p:Int):Int)
         . refine fP a 11 ?_
           refine gq (v:=Zw) qE rfl ?_
           exact(show False by omega).elim
         . refine fP a 13 ?_
           refine gq (v:=(Za ((2*p+2:Nat):Int))) qE rfl ?_
           exact⟨gj (by unfold nU jD;simp only;rw[if_pos (show 2*p+1<fQ.length/\iN (fJ fQ (2*p+1)) (fJ fQ p) from⟨o_,nZ.1 h⟩),if_pos (show 2*p+2<fQ.length/\iN (fJ fQ (2*p+2)) (fJ fQ (2*p+1)) from⟨o_,nZ.1 l⟩),if_neg o_]),yi (yc [_,_,_,_] _ a)⟩
       . refine fP a 12 ?_
         refine tN (?_)
         refine iG (fR a 17 ?_)
         by_cases J:(((2*p+1:Nat):Int):Int)=((p:Int):Int)
         . refine fP a 11 ?_
           refine gq (v:=Zw) qE rfl ?_
           exact(show False by omega).elim
         . refine fP a 13 ?_
           refine gq (v:=(Za ((2*p+1:Nat):Int))) qE rfl ?_
           exact⟨gj (by unfold nU jD;simp only;rw[if_pos (show 2*p+1<fQ.length/\iN (fJ fQ (2*p+1)) (fJ fQ p) from⟨o_,nZ.1 h⟩),if_neg (show ¬ (2*p+2<fQ.length/\iN (fJ fQ (2*p+2)) (fJ fQ (2*p+1))) from fun F=>l (nZ.2 F.2)),if_neg o_]),yi (yc [_,_,_,_] _ a)⟩
     . refine fP c 29 ?_
       refine tN (?_)
       refine iG (fR c 17 ?_)
       by_cases K:(((2*p+1:Nat):Int):Int)=((p:Int):Int)
       . refine fP c 11 ?_
         refine gq (v:=Zw) qE rfl ?_
         exact(show False by omega).elim
       . refine fP c 13 ?_
         refine gq (v:=(Za ((2*p+1:Nat):Int))) qE rfl ?_
         exact⟨gj (by unfold nU jD;simp only;rw[if_pos (show 2*p+1<fQ.length/\iN (fJ fQ (2*p+1)) (fJ fQ p) from⟨o_,nZ.1 h⟩),if_neg (show ¬ (2*p+2<fQ.length/\iN (fJ fQ (2*p+2)) (fJ fQ (2*p+1))) from fun F=>x o_),if_neg o_]),yi (yc [_,_,_,_] _ c)⟩
   . refine fP b 12 ?_
     refine tN (?_)
     refine iG (fR b 20 ?_)
     refine ar (e:=((2*p:Nat):Int)) rfl rfl rfl rfl iW (ar (e:=((2*p+1:Nat):Int)) rfl rfl rfl rfl iW (fK b 1 ?_))
     refine ar (e:=((2*p+2:Nat):Int)) rfl rfl rfl rfl iW (gI b 10 fun z i=>?_)
     refine iM (m:=fQ.length) 1 rfl rfl ot i rfl ?_
     by_cases A:(((2*p+2:Nat):Int):Int)<((fQ.length:Int):Int)
     . refine fK i 16 ?_
       refine cl Cy (CS (fJ fQ (2*p+2)) (fJ fQ p) z) ?_
       rintro _ L ⟨rfl,B⟩
       have d:=yp i B
       by_cases o:(qA (fJ fQ (2*p+2)) (fJ fQ p):Int)<(0:Int)
       . refine fP d 15 ?_
         refine tN (?_)
         refine iG (fR d 17 ?_)
         by_cases M:(((2*p+2:Nat):Int):Int)=((p:Int):Int)
         . refine fP d 11 ?_
           refine gq (v:=Zw) qE rfl ?_
           exact(show False by omega).elim
         . refine fP d 13 ?_
           refine gq (v:=(Za ((2*p+2:Nat):Int))) qE rfl ?_
           exact⟨gj (by unfold nU jD;simp only;rw[if_neg (show ¬ (2*p+1<fQ.length/\iN (fJ fQ (2*p+1)) (fJ fQ p)) from fun F=>h (nZ.2 F.2)),if_pos (show 2*p+2<fQ.length/\iN (fJ fQ (2*p+2)) (fJ fQ p) from⟨o_,nZ.1 o⟩),if_neg o_]),yi (yc [_,_,_,_] _ d)⟩
       . refine fP d 12 ?_
         refine tN (?_)
         refine iG (iO d 28 ?_)
         refine gq (v:=Zw) qE rfl ?_
         exact⟨gj (by unfold nU jD;simp only;rw[if_neg (show ¬ (2*p+1<fQ.length/\iN (fJ fQ (2*p+1)) (fJ fQ p)) from fun F=>h (nZ.2 F.2)),if_neg (show ¬ (2*p+2<fQ.length/\iN (fJ fQ (2*p+2)) (fJ fQ p)) from fun F=>o (nZ.2 F.2)),if_pos rfl]),yi (yc [_,_,_,_] _ d)⟩
     . refine fP i 29 ?_
       refine tN (?_)
       refine iG (iO i 28 ?_)
       refine gq (v:=Zw) qE rfl ?_
       exact⟨gj (by unfold nU jD;simp only;rw[if_neg (show ¬ (2*p+1<fQ.length/\iN (fJ fQ (2*p+1)) (fJ fQ p)) from fun F=>h (nZ.2 F.2)),if_neg (show ¬ (2*p+2<fQ.length/\iN (fJ fQ (2*p+2)) (fJ fQ p)) from fun F=>A o_),if_pos rfl]),yi (yc [_,_,_,_] _ i)⟩
 . refine fP g 29 ?_
   refine tN (?_)
   refine iG (fR g 20 ?_)
   refine ar (e:=((2*p:Nat):Int)) rfl rfl rfl rfl iW (ar (e:=((2*p+1:Nat):Int)) rfl rfl rfl rfl iW (fK g 1 ?_))
   refine ar (e:=((2*p+2:Nat):Int)) rfl rfl rfl rfl iW (gI g 10 fun C j=>?_)
   refine iM (m:=fQ.length) 1 rfl rfl ot j rfl ?_
   by_cases D:(((2*p+2:Nat):Int):Int)<((fQ.length:Int):Int)
   . refine fK j 16 ?_
     refine cl Cy (CS (fJ fQ (2*p+2)) (fJ fQ p) C) ?_
     rintro _ N ⟨rfl,E⟩
     have f:=yp j E
     by_cases q:(qA (fJ fQ (2*p+2)) (fJ fQ p):Int)<(0:Int)
     . refine fP f 15 ?_
       refine tN (?_)
       refine iG (fR f 17 ?_)
       by_cases O:(((2*p+2:Nat):Int):Int)=((p:Int):Int)
       . refine fP f 11 ?_
         refine gq (v:=Zw) qE rfl ?_
         exact(show False by omega).elim
       . refine fP f 13 ?_
         refine gq (v:=(Za ((2*p+2:Nat):Int))) qE rfl ?_
         exact⟨gj (by unfold nU jD;simp only;rw[if_neg (show ¬ (2*p+1<fQ.length/\iN (fJ fQ (2*p+1)) (fJ fQ p)) from fun F=>k o_),if_pos (show 2*p+2<fQ.length/\iN (fJ fQ (2*p+2)) (fJ fQ p) from⟨o_,nZ.1 q⟩),if_neg o_]),yi (yc [_,_,_,_] _ f)⟩
     . refine fP f 12 ?_
       refine tN (?_)
       refine iG (iO f 28 ?_)
       refine gq (v:=Zw) qE rfl ?_
       exact⟨gj (by unfold nU jD;simp only;rw[if_neg (show ¬ (2*p+1<fQ.length/\iN (fJ fQ (2*p+1)) (fJ fQ p)) from fun F=>k o_),if_neg (show ¬ (2*p+2<fQ.length/\iN (fJ fQ (2*p+2)) (fJ fQ p)) from fun F=>q (nZ.2 F.2)),if_pos rfl]),yi (yc [_,_,_,_] _ f)⟩
   . refine fP j 29 ?_
     refine tN (?_)
     refine iG (iO j 28 ?_)
     refine gq (v:=Zw) qE rfl ?_
     exact⟨gj (by unfold nU jD;simp only;rw[if_neg (show ¬ (2*p+1<fQ.length/\iN (fJ fQ (2*p+1)) (fJ fQ p)) from fun F=>k o_),if_neg (show ¬ (2*p+2<fQ.length/\iN (fJ fQ (2*p+2)) (fJ fQ p)) from fun F=>D o_),if_pos rfl]),yi (yc [_,_,_,_] _ j)⟩
end
section
open Go Go.Sx
theorem aeR(D E hb n:Nat)(iv pv:Value)(ps:List (Option Nat))(fQ:List gG)(pl:List Nat)(p:Nat)(w:World)(R:Own (vL D p E hb n iv pv fQ ps pl) w)(T:Hp n fQ pl)(S:jx n ps pl)(hp:p<fQ.length)(Q:tv fQ p) :
 CR ya 320 #[(M9 hb),(Zb D),(Zb E)] w (fun r w' => r = .tuple #[]/\∃ (p2:Nat),∃ C ys B,oF n fQ ys ps C B/\p2<ys.length/\uB ys p2/\fV (vL D p E hb n iv pv fQ ps pl) w w' (vL D p2 E hb n iv pv ys C B)):=by
 refine en Tryz.func320 Tryz.ntmps320 ?_
 have N:=(yq R).unpack
 have K:=oF.refl T S
 have i:=yg [2,3,4,5,0,1] N
 have b:=yc [_,_,_,_] _ i
 refine fR N 4 ?_
 refine nV (fi:=(Zf hb)) (ca:=[]) rfl rfl rfl Pw (Qm hb n iv pv ps fQ pl w (ye b 0 rfl) K.hp K.gR p (by first|omega|(rw[mT];omega))) ?_
 rintro _ x ⟨rfl,G⟩
 have c:=(yk b G)
 have j:=yg [4,5,0,1,2,3] c
 refine gD c 4 ?_
 refine lp (α:=List gG×List (Option Nat)×List Nat×Nat×Int) (fun(ys,C,B,p2,q)=>[(0,(M9 hb)),(1,(Zb D)),(2,(Zb E)),(4,(Za q))]) (fun(ys,C,B,p2,q) w1=>St [(w,(vL D p E hb n iv pv fQ ps pl).gH)] (HE D p2 E hb n iv pv ys C B) w1/\oF n fQ ys ps C B/\p2<ys.length/\tv ys p2/\q=rR ys p2) (fun(ys,C,B,p2,q)=>p2) (fQ,ps,pl,p,(rR fQ p)) ⟨rfl,rfl,rfl,gj rO,trivial⟩ (⟨j,K,hp,Q,rfl⟩) ?_
 rintro⟨ys,C,B,p2,q⟩ y k ⟨F,H,M,L,J⟩
 refine fR F 4 ?_
 by_cases d:(q:Int)=(-1:Int)
 . have U:=L.stop (US (J.symm.trans d))
   refine fP F 8 ?_
   refine iS Tryz.results320 ?_
   exact⟨rfl,p2,C,ys,B,H,M,U,yi (yc [_,_,_,_,_,_] _ F)⟩
 . have I:=UR (fun P=>@d (J.trans P))
   refine fK F 1 ?_
   obtain rfl:q=((pa p2:Nat):Int):=J.trans I.1
   have O:=I.2.1
   have V:pa p2<ys.length:=by simp only[pa];omega
   have l:=yg [2,3,4,5,0,1] F
   have e:=yc [_,_,_,_] _ l
   refine fK F 12 ?_
   refine cl IK (Jg hb n iv pv C ys B k (ye e 0 rfl) H.hp H.gR p2 (pa p2) o_ o_) ?_
   rintro _ z ⟨rfl,f,m,o,G⟩
   have s:=(yk e G)
   have a:=H.swap (p:=p2) (q:=(pa p2)) o_ o_ m o
   refine gI s 11 fun t u=>?_
   have g:=yc [_,_,_,_] _ u
   refine nV (fi:=(Zf hb)) (ca:=[]) rfl rfl rfl Pw (Qm hb n iv pv f (iL ys p2 (pa p2)) (ji (ji B (fJ (iL ys p2 (pa p2)) p2).ix (p2+1)) (fJ (iL ys p2 (pa p2)) (pa p2)).ix ((pa p2)+1)) t (ye g 0 rfl) a.hp a.gR (pa p2) (by first|omega|(rw[mT];omega))) ?_
   rintro _ A ⟨rfl,G⟩
   have h:=(yk g G)
   refine fP h 2 ?_
   refine tN (?_)
   have v:=yg [4,5,0,1,2,3] h
   exact again (iL ys p2 (pa p2),f,ji (ji B (fJ (iL ys p2 (pa p2)) p2).ix (p2+1)) (fJ (iL ys p2 (pa p2)) (pa p2)).ix ((pa p2)+1),(pa p2),rR (iL ys p2 (pa p2)) (pa p2)) ⟨rfl,rfl,rfl,gj rO,trivial⟩ (⟨v,a,by rw[mT];omega,L.up O M I.2.2,rfl⟩) (by show pa p2<p2;simp only[pa];omega)
theorem aeQ(D E hb n:Nat)(iv pv:Value)(ps:List (Option Nat))(fQ:List gG)(pl:List Nat)(p:Nat)(w:World)(P:Own (vL D p E hb n iv pv fQ ps pl) w)(R:Hp n fQ pl)(Q:jx n ps pl)(hp:p<fQ.length)(O:uB fQ p) :
 CR ya 320 #[(Na hb),(Zb D),(Zb E)] w (fun r w' => r = .tuple #[]/\∃ (p2:Nat),∃ C ys B,oF n fQ ys ps C B/\p2<ys.length/\Ord ys/\fV (vL D p E hb n iv pv fQ ps pl) w w' (vL D p2 E hb n iv pv ys C B)):=by
 refine en Tryz.func320 Tryz.ntmps320 ?_
 have M:=(yq P).unpack
 have K:=oF.refl R Q
 have i:=yg [2,3,4,5,0,1] M
 have b:=yc [_,_,_,_] _ i
 refine fR M 4 ?_
 refine nV (fi:=(Zf hb)) (ca:=[]) rfl rfl rfl Px (Qp hb n iv pv ps fQ pl w (ye b 0 rfl) K.hp K.gR p (by first|omega|(rw[mT];omega))) ?_
 rintro _ x ⟨rfl,G⟩
 have c:=(yk b G)
 have j:=yg [4,5,0,1,2,3] c
 refine gD c 4 ?_
 refine lp (α:=List gG×List (Option Nat)×List Nat×Nat×Int) (fun(ys,C,B,p2,q)=>[(0,(Na hb)),(1,(Zb D)),(2,(Zb E)),(4,(Za q))]) (fun(ys,C,B,p2,q) w1=>St [(w,(vL D p E hb n iv pv fQ ps pl).gH)] (HE D p2 E hb n iv pv ys C B) w1/\oF n fQ ys ps C B/\p2<ys.length/\uB ys p2/\q=nU ys p2) (fun(ys,C,B,p2,q)=>ys.length-p2) (fQ,ps,pl,p,(nU fQ p)) ⟨rfl,rfl,rfl,gj rO,trivial⟩ (⟨j,K,hp,O,rfl⟩) ?_
 rintro⟨ys,C,B,p2,q⟩ y k ⟨F,H,T,L,J⟩
 refine fR F 4 ?_
 by_cases d:(q:Int)=(-1:Int)
 . have U:=L.stop (Vj (J.symm.trans d))
   refine fP F 8 ?_
   refine iS Tryz.results320 ?_
   exact⟨rfl,p2,C,ys,B,H,T,U,yi (yc [_,_,_,_,_,_] _ F)⟩
 . have I:=Vi (fun N=>@d (J.trans N))
   refine fK F 1 ?_
   obtain rfl:q=((jD ys p2:Nat):Int):=J.trans I.1
   have S:=NW I.2
   have V:=S.1
   have l:=yg [2,3,4,5,0,1] F
   have e:=yc [_,_,_,_] _ l
   refine fK F 12 ?_
   refine cl IK (Jg hb n iv pv C ys B k (ye e 0 rfl) H.hp H.gR p2 (jD ys p2) o_ o_) ?_
   rintro _ z ⟨rfl,f,m,o,G⟩
   have s:=(yk e G)
   have a:=H.swap (p:=p2) (q:=(jD ys p2)) o_ o_ m o
   refine gI s 11 fun t u=>?_
   have g:=yc [_,_,_,_] _ u
   refine nV (fi:=(Zf hb)) (ca:=[]) rfl rfl rfl Px (Qp hb n iv pv f (iL ys p2 (jD ys p2)) (ji (ji B (fJ (iL ys p2 (jD ys p2)) p2).ix (p2+1)) (NF ys p2).ix ((jD ys p2)+1)) t (ye g 0 rfl) a.hp a.gR (jD ys p2) (by first|omega|(rw[mT];omega))) ?_
   rintro _ A ⟨rfl,G⟩
   have h:=(yk g G)
   refine fP h 2 ?_
   refine tN (?_)
   have v:=yg [4,5,0,1,2,3] h
   exact again (iL ys p2 (jD ys p2),f,ji (ji B (fJ (iL ys p2 (jD ys p2)) p2).ix (p2+1)) (NF ys p2).ix ((jD ys p2)+1),(jD ys p2),nU (iL ys p2 (jD ys p2)) (jD ys p2)) ⟨rfl,rfl,rfl,gj rO,trivial⟩ (⟨v,a,by rw[mT];omega,L.down rfl I.2,rfl⟩) (by show (iL ys p2 (jD ys p2)).length-jD ys p2<ys.length-p2;rw[mT];omega)
theorem Ta(hb n:Nat)(iv pv:Value)(ps:List (Option Nat))(fQ:List gG)(pl:List Nat)(w:World)(R:Own (Zj hb n iv pv fQ ps pl) w)(T:Hp n fQ pl)(S:jx n ps pl)(p:Nat)(hp:p<fQ.length)(Q:tv fQ p) :
 CR ya 271 (Zm hb p) w (fun r w' => r = .tuple #[]/\∃ O ys P,oF n fQ ys ps O P/\Ord ys/\fV (Zj hb n iv pv fQ ps pl) w w' (Zj hb n iv pv ys O P)):=by
 refine en Tryz.func271 Tryz.ntmps271 ?_
 have N:=(yq R).unpack
 have F:=oF.refl T S
 refine fR N 2 ?_
 refine iC N (fun a C D E i=>?_)
 refine iC i (fun b j G H c=>?_)
 refine fK c 4 ?_
 refine mO (vf:=[]) (vc:=(qp b a)) rfl rfl rfl (fK c 7 ?_)
 refine mO (vf:=(Zf hb)) (vc:=[]) rfl rfl rfl ?_
 have e:=yc [_,_,_,_,_,_] _ c
 refine nV (fi:=[]) (ca:=(qp b a)) rfl rfl rfl Pv (aeR b a hb n iv pv ps fQ pl p j (ye e 0 rfl) F.hp F.gR (by first|assumption|omega) Q) ?_
 rintro _ k ⟨rfl,l,m,o,q,s,I,t,M⟩
 have f:=(yk e M)
 have d:=F.trans s
 refine fK f 5 ?_
 refine mO (vf:=(Zf hb)) (vc:=[]) rfl rfl rfl ?_
 have g:=yc [_,_,_,_,_,_] _ f
 refine nV (fi:=[]) (ca:=(qp b a)) rfl rfl rfl Pv (aeQ b a hb n iv pv m o q l k (ye g 0 rfl) d.hp d.gR (by first|assumption|omega) t) ?_
 rintro _ J ⟨rfl,K,u,v,x,y,L,z,M⟩
 have h:=(yk g M)
 have A:=d.trans y
 refine fP h 1 ?_
 refine iS Tryz.results271 ?_
 have B:=yg [2,3,4,5,0,1] h
 exact⟨rfl,u,v,x,A,z,yi (yc [_,_,_,_] _ B)⟩
end
section
open Go Go.Sx
theorem ZZ(hb n:Nat)(iv pv:Value)(ps:List (Option Nat))(fQ:List gG)(pl:List Nat)(w:World)(o:Own (Zj hb n iv pv fQ ps pl) w)(p:Hp n fQ pl)(l:jx n ps pl)(i:Nat)(hi:i<n)(q:fJ pl i=0) :
 CR ya 283 (Zm hb i) w (fun r w' => r = .tuple #[.int .i64 0,.int .i64 5]/\fV (Zj hb n iv pv fQ ps pl) w w' (Zj hb n iv pv fQ ps pl)):=by
 have t:=l.n
 have s:=p.len
 have u:=l.val i
 refine en Tryz.func283 Tryz.ntmps283 ?_
 have m:=(yq o).unpack
 have a:=yc [_,_,_,_] _ m
 refine fR m 11 ?_
 refine cl AD (AP hb n iv pv ps fQ pl w (ye a 0 rfl)) ?_
 rintro _ g ⟨rfl,k⟩
 have b:=(yk a k)
 have c:=yc [_,_,_,_] _ b
 refine fK b 9 ?_
 refine cl IP (Je hb n iv pv ps fQ pl g (ye c 0 rfl) i o_) ?_
 rintro _ h ⟨rfl,k⟩
 have d:=(yk c k)
 have e:=yc [_,_,_,_] _ d
 refine fK d 9 ?_
 refine cl IQ (Jf hb n iv pv ps fQ pl h (ye e 0 rfl) l i o_) ?_
 rintro _ j ⟨rfl,k⟩
 have f:=(yk e k)
 refine cmp rfl rfl rfl (rV o_) (fP f 13 ?_)
 refine iD (v:=Zc) (v' := (.int .i64 5)) Tryz.results283 rfl rfl ?_
 exact⟨rfl,yi (yc [_,_,_,_] _ f)⟩
theorem Z1(hb n:Nat)(iv pv:Value)(ps:List (Option Nat))(fQ:List gG)(pl:List Nat)(w:World)(h:Own (Zj hb n iv pv fQ ps pl) w)(e:Hp n fQ pl)(d:jx n ps pl)(i:Nat)(hi:i<n)(g:fJ pl i=0) :
 CR ya 282 (Zm hb i) w (fun r w' => r = .tuple Hj/\fV (Zj hb n iv pv fQ ps pl) w w' (Zj hb n iv pv fQ ps pl)):=by
 have l:=d.n
 have k:=e.len
 have m:=d.val i
 refine en Tryz.func282 Tryz.ntmps282 ?_
 have f:=(yq h).unpack
 have a:=yc [_,_,_,_] _ f
 refine fR f 10 ?_
 refine cl X0 (ZZ hb n iv pv ps fQ pl w (ye a 0 rfl) e d i hi g) ?_
 rintro _ c ⟨rfl,j⟩
 have b:=(yk a j)
 refine fP b 23 ?_
 refine iD (v:=Zc) (v' := Zp) Tryz.results282 rfl rfl ?_
 exact⟨rfl,yi (yc [_,_,_,_] _ b)⟩
theorem Qs(hb n:Nat)(iv pv:Value)(ps:List (Option Nat))(fQ:List gG)(pl:List Nat)(w:World)(Y:Own (Zj hb n iv pv fQ ps pl) w)(T:Hp n fQ pl)(Q:jx n ps pl)(Z:Ord fQ)(i:Nat)(hi:i<n)(W:fJ pl i=0)(key:Int)(hk:ia .i64 key) :
 CR ya 214 (Zu hb i key) w (fun r w' => r = .int .i64 0/\∃ jv R ys S,Hp n ys S/\jx n R S/\Ord ys/\(∀ e,e∈ys↔e∈fQ\/e=⟨i,key⟩)/\R.length=ps.length/\ys.length=fQ.length+1/\fV (Zj hb n iv pv fQ ps pl) w w' (Zj hb n jv pv ys R S)):=by
 have af:=Q.n
 have ae:=T.len
 have ag:=Q.val i
 have U:=T.push hi W hk
 have ad:fQ.length+1<=n:=by have X:=U.len;simpa using X
 refine en Tryz.func214 Tryz.ntmps214 ?_
 have V:=(yq Y).unpack
 have f:=yc [_,_,_,_] _ V
 refine fR V 10 ?_
 refine cl AD (AP hb n iv pv ps fQ pl w (ye f 0 rfl)) ?_
 rintro _ u ⟨rfl,F⟩
 have g:=(yk f F)
 have h:=yc [_,_,_,_] _ g
 refine fK g 9 ?_
 refine cl IP (Je hb n iv pv ps fQ pl u (ye h 0 rfl) i o_) ?_
 rintro _ y ⟨rfl,F⟩
 have j:=(yk h F)
 have k:=yc [_,_,_,_] _ j
 refine fK j 9 ?_
 refine cl IQ (Jf hb n iv pv ps fQ pl y (ye k 0 rfl) Q i o_) ?_
 rintro _ J ⟨rfl,F⟩
 have c:=(yk k F)
 refine cmp rfl rfl rfl (o7 o_) (fK c 13 ?_)
 refine iM (m:=fQ.length) 1 rfl rfl ot c rfl (fK c 12 ?_)
 refine jc (pvs:=[(0,(Za i)),(1,(Za key))]) (v:=.agg (Zx i key)) rfl rfl (jo [(0,(Zd i)),(1,(Zd key))] qa Sh rfl ⟨rfl,rfl,rfl,rfl,trivial⟩ rfl) (jJ (vs:=(D3 i key)) (cs:=(Zn i key)) rfl rfl ot qa rfl (by simp[Value.cells]) rfl rfl rfl c (fun z K L M l=>k8 (cf:=gG.cells) (ys:=fQ) (zs:=[(⟨i,key⟩:gG)]) (LL:=fun a=>[row (Zy z) 250 2 1 ((Zn i key)),blk hb 385 (pX hb n iv pv),fL gG.cells a 250 2 (fQ++[(⟨i,key⟩:gG)]),fL iw pv 399 1 ps,gJ fS 401 64 ps pl]) 2 rfl rfl rfl ot qa rfl d_ l rfl (kG l (i:=0) rfl) (fun x hx=>zk.1 (show List.all _ _=true from rfl) x hx) (by simp only[zb,zg];omega) (by simp only[zb,zg];omega) f_ ?_))
 intro a N A O
 have d:=yg [1,2,3,4] A
 refine fK d 2 ?_
 refine jM 0 d (fun B o=>?_) (hvs:=(cells_one (yr d (i:=1) rfl))) (h1:=(gX (yr d (i:=1) rfl) j4))
 have p:=yc [_,_,_,_] _ o
 refine fK o 7 ?_
 refine cl EA (ET hb n a pv ps (fQ++[(⟨i,key⟩:gG)]) pl B (ye p 0 rfl) Q i hi (fQ.length:Int) (fQ.length+1) o_ o_) ?_
 rintro _ C ⟨rfl,ac,D,aa,F⟩
 have q:=(yk p F)
 have ab:=aa
 have s:=yc [_,_,_,_] _ q
 refine fK q 6 ?_
 refine cl Pk (Ta hb n a pv ac (fQ++[(⟨i,key⟩:gG)]) (ji pl i (fQ.length+1)) C (ye s 0 rfl) U ab fQ.length (by first|omega|(simp only[gx,zp,zb,zg];omega)) (ady Z _)) ?_
 rintro _ P ⟨rfl,E,G,H,b,I,F⟩
 have t:=(yk s F)
 refine fP t 8 ?_
 refine gq (v:=Zc) Tryz.results214 rfl ?_
 exact⟨rfl,a,E,G,H,b.hp,b.gR,I,fun e=>(b.mem e).trans s_,by rw[b.pE,D],by rw[b.len];simp,yi (yc [_,_,_,_] _ t)⟩
theorem aah(hb n:Nat)(iv pv:Value)(ps:List (Option Nat))(fQ:List gG)(pl:List Nat)(w:World)(o:Own (Zj hb n iv pv fQ ps pl) w)(q:Hp n fQ pl)(l:jx n ps pl)(i:Nat)(hi:i<n)(p:Nat)(hp:fJ pl i=p+1)(key:Int) :
 CR ya 214 (Zu hb i key) w (fun r w' => r = .int .i64 6/\fV (Zj hb n iv pv fQ ps pl) w w' (Zj hb n iv pv fQ ps pl)):=by
 have t:=l.n
 have s:=q.len
 have u:=l.val i
 refine en Tryz.func214 Tryz.ntmps214 ?_
 have m:=(yq o).unpack
 have a:=yc [_,_,_,_] _ m
 refine fR m 10 ?_
 refine cl AD (AP hb n iv pv ps fQ pl w (ye a 0 rfl)) ?_
 rintro _ g ⟨rfl,k⟩
 have b:=(yk a k)
 have c:=yc [_,_,_,_] _ b
 refine fK b 9 ?_
 refine cl IP (Je hb n iv pv ps fQ pl g (ye c 0 rfl) i o_) ?_
 rintro _ h ⟨rfl,k⟩
 have d:=(yk c k)
 have e:=yc [_,_,_,_] _ d
 refine fK d 9 ?_
 refine cl IQ (Jf hb n iv pv ps fQ pl h (ye e 0 rfl) l i o_) ?_
 rintro _ j ⟨rfl,k⟩
 have f:=(yk e k)
 refine cmp rfl rfl rfl (HW o_) (fP f 12 ?_)
 refine gq (v:=zW) Tryz.results214 rfl ?_
 exact⟨rfl,yi (yc [_,_,_,_] _ f)⟩
theorem ZY(hb n:Nat)(iv pv:Value)(ps:List (Option Nat))(fQ:List gG)(pl:List Nat)(w:World)(U:Own (Zj hb n iv pv fQ ps pl) w)(J:Hp n fQ pl)(O:jx n ps pl)(N:Ord fQ)(p:Nat)(hp:p<fQ.length) :
 CR ya 198 (Zm hb p) w (fun r w' => r = .tuple #[]/\∃ Y L ys M,Hp n ys M/\jx n L M/\Ord ys/\(∀ e,e∈ys↔e∈fQ/\e.ix≠(fJ fQ p).ix)/\L.length=ps.length/\ys.length+1=fQ.length/\fV (Zj hb n iv pv fQ ps pl) w w' (Zj hb n Y pv ys L M)):=by
 have aa:=O.n
 have Z:=J.len
 obtain⟨k,W⟩:∃ k,fQ.length=k+1:=⟨fQ.length-1,o_⟩
 have K:=J.swap hp (show k<fQ.length by omega)
 have ab:=mT fQ p k
 have Q:=K.cut (m:=k) o_
 have R:=fun e=>(Wm K (m:=k) o_ e)
 have S:fJ (iL fQ p k) k=fJ fQ p:=by rw[Bo hp o_,if_pos rfl]
 have T:((iL fQ p k).take k).length=k:=by rw[zw];omega
 refine en Tryz.func198 Tryz.ntmps198 ?_
 have H:=(yq U).unpack
 refine fR H 6 ?_
 refine iM (m:=fQ.length) 1 rfl rfl ot H rfl (ar (e:=(k:Int)) rfl rfl rfl rfl iW ?_)
 have f:=yc [_,_,_,_] _ H
 refine fK H 8 ?_
 refine cl IK (Jg hb n iv pv ps fQ pl w (ye f 0 rfl) J O p k hp o_) ?_
 rintro _ u ⟨rfl,v,g,x,F⟩
 have j:=(yk f F)
 have o:=yc [_,_,_,_] _ j
 refine fK j 13 ?_
 refine cl EA (ET hb n iv pv v (iL fQ p k) (ji (ji pl (fJ (iL fQ p k) p).ix (p+1)) (fJ (iL fQ p k) k).ix (k+1)) u (ye o 0 rfl) x ((fJ (iL fQ p k) k).ix) (K.ix k o_) (-1) 0 o_ o_) ?_
 rintro _ y ⟨rfl,I,q,V,F⟩
 have d:=(yk o F)
 have P:=V
 refine fK d 10 ?_
 refine FV (l:=0) (h:=k) rfl rfl ot qa (y0 (cf:=gG.cells) d 1 rfl) rfl ⟨_,gj o_⟩ o_ o_ ?_
 have c:St _ [blk hb 385 (pX hb n iv pv),fL gG.cells (jB 2 iv 0 k) 250 2 ((iL fQ p k).take k),fL iw pv 399 1 I,gJ fS 401 64 I (ji (ji (ji pl (fJ (iL fQ p k) p).ix (p+1)) (fJ (iL fQ p k) k).ix (k+1)) ((fJ (iL fQ p k) k).ix) 0)] y:=St.KT d (i:=1) rfl f_ o_
 refine fK c 2 ?_
 refine jM 0 c (fun z a=>?_) (hvs:=(cells_one (yr c (i:=1) rfl))) (h1:=(gX (yr c (i:=1) rfl) j4))
 refine fK a 6 ?_
 by_cases E:((p:Int):Int)<((k:Int):Int)
 . have s:=yc [_,_,_,_] _ a
   refine fK a 7 ?_
   refine cl Pk (Ta hb n (jB 2 iv 0 k) pv I ((iL fQ p k).take k) (ji (ji (ji pl (fJ (iL fQ p k) p).ix (p+1)) (fJ (iL fQ p k) k).ix (k+1)) ((fJ (iL fQ p k) k).ix) 0) z (ye s 0 rfl) Q P p (by first|omega|(simp only[gx,zp,zb,zg];omega)) (N.cut W o_)) ?_
   rintro _ G ⟨rfl,A,B,C,b,D,F⟩
   have t:=(yk s F)
   refine fP t 1 ?_
   refine iS Tryz.results198 ?_
   exact⟨rfl,(jB 2 iv 0 k),A,B,C,b.hp,b.gR,D,fun e=>(b.mem e).trans (by rw[R e,Lp hp o_,S]),by rw[b.pE,q,g],by rw[b.len,T];omega,yi (yc [_,_,_,_] _ t)⟩
 . refine fP a 5 ?_
   refine iS Tryz.results198 ?_
   have X:p=k:=by omega
   exact⟨rfl,(jB 2 iv 0 k),I,((iL fQ p k).take k),ji (ji (ji pl (fJ (iL fQ p k) p).ix (p+1)) (fJ (iL fQ p k) k).ix (k+1)) ((fJ (iL fQ p k) k).ix) 0,Q,P,by subst X;rw[afk hp];exact N.Wk o_,fun e=>by rw[R e,Lp hp o_,S],by rw[q,g],by rw[T];omega,yi (yc [_,_,_,_] _ a)⟩
theorem Qq(hb n:Nat)(iv pv:Value)(ps:List (Option Nat))(fQ:List gG)(pl:List Nat)(w:World)(q:Own (Zj hb n iv pv fQ ps pl) w)(x:Hp n fQ pl)(u:jx n ps pl)(t:fQ.length=0) :
 CR ya 197 (Zi hb) w (fun r w' => r = .tuple BU/\fV (Zj hb n iv pv fQ ps pl) w w' (Zj hb n iv pv fQ ps pl)):=by
 refine en Tryz.func197 Tryz.ntmps197 ?_
 have p:=(yq q).unpack
 refine fR p 2 ?_
 refine iE p (fun g e h j b=>?_)
 have f:=yg [1,2,3,4,0] b
 have c:=yc [_,_,_,_] _ f
 refine fK b 7 ?_
 refine cl AD (AP hb n iv pv ps fQ pl e (ye c 0 rfl)) ?_
 rintro _ k ⟨rfl,s⟩
 have a:=(yk c s)
 refine fK a 6 ?_
 refine iM (m:=fQ.length) 1 rfl rfl ot a rfl (cmp rfl rfl rfl (rV o_) (fK a 6 ?_))
 refine jc (pvs:=[]) (v:=.agg #[Zc,Zc]) rfl rfl (jo [] qa Sh rfl trivial rfl) (jV a 6 fun l d=>?_)
 refine oO (v:=HH) (v' := Zp) Tryz.results197 (oc (cs:=vJ) rfl xl rfl qa rfl (me d (i:=4) (o:=0) (vs:=vJ) rfl rfl)) (pH rfl) ?_
 exact⟨rfl,yi (yc [_,_,_,_] _ d)⟩
theorem Qr(hb n:Nat)(iv pv:Value)(ps:List (Option Nat))(fQ:List gG)(pl:List Nat)(w:World)(s:Own (Zj hb n iv pv fQ ps pl) w)(y:Hp n fQ pl)(x:jx n ps pl)(u:0<fQ.length) :
 CR ya 197 (Zi hb) w (fun r w' => r = .tuple (BV ((fJ fQ 0).ix:Int) ((fJ fQ 0).key))/\fV (Zj hb n iv pv fQ ps pl) w w' (Zj hb n iv pv fQ ps pl)):=by
 refine en Tryz.func197 Tryz.ntmps197 ?_
 have q:=(yq s).unpack
 refine fR q 2 ?_
 refine iE q (fun g e h j b=>?_)
 have f:=yg [1,2,3,4,0] b
 have c:=yc [_,_,_,_] _ f
 refine fK b 7 ?_
 refine cl AD (AP hb n iv pv ps fQ pl e (ye c 0 rfl)) ?_
 rintro _ l ⟨rfl,t⟩
 have a:=(yk c t)
 refine fK a 6 ?_
 refine iM (m:=fQ.length) 1 rfl rfl ot a rfl (cmp rfl rfl rfl (vU o_) (fK a 12 ?_))
 refine iJ (cf:=gG.cells) (k:=0) (i:=0) rfl rfl rfl ot qa (y0 a 1 rfl) o_ o_ (gy om) (jV a 6 fun p d=>?_)
 refine oO (v:=(Ca ((fJ fQ 0).ix:Int) ((fJ fQ 0).key))) (v' := Zh) Tryz.results197 (oc (cs:=(Zn ((fJ fQ 0).ix:Int) ((fJ fQ 0).key))) rfl xl rfl qa rfl (me d (i:=4) (o:=0) (vs:=(Zn ((fJ fQ 0).ix:Int) ((fJ fQ 0).key))) rfl rfl)) (pH rfl) ?_
 exact⟨rfl,yi (yc [_,_,_,_] _ d)⟩
theorem aag(hb n:Nat)(iv pv:Value)(ps:List (Option Nat))(fQ:List gG)(pl:List Nat)(w:World)(U:Own (Zj hb n iv pv fQ ps pl) w)(M:Hp n fQ pl)(L:jx n ps pl)(V:Ord fQ)(K:0<fQ.length) :
 CR ya 126 (Zi hb) w (fun r w' => r = .tuple (BV ((fJ fQ 0).ix:Int) ((fJ fQ 0).key))/\∃ W I ys J,Hp n ys J/\jx n I J/\Ord ys/\(∀ e,e∈ys↔e∈fQ/\e.ix≠(fJ fQ 0).ix)/\I.length=ps.length/\ys.length+1=fQ.length/\fV (Zj hb n iv pv fQ ps pl) w w' (Zj hb n W pv ys I J)):=by
 refine en Tryz.func126 Tryz.ntmps126 ?_
 have N:=(yq U).unpack
 refine fR N 2 ?_
 refine iE N (fun x g y z a=>?_)
 have h:=yg [1,2,3,4,0] a
 have b:=yc [_,_,_,_] _ h
 refine fK a 6 ?_
 refine cl AA (Qr hb n iv pv ps fQ pl g (ye b 0 rfl) M L K) ?_
 rintro _ A ⟨rfl,F⟩
 have c:=(yk b F)
 refine fK c 3 ?_
 refine iE c (fun B C D E j=>?_)
 refine gI j 13 fun k l=>?_
 have m:=yg [1,2,3,4,0,5] l
 have d:=yc [_,_,_,_] _ m
 refine cl Xv (ZY hb n iv pv ps fQ pl k (ye d 0 rfl) M L V 0 K) ?_
 rintro _ G ⟨rfl,p,q,s,t,O,P,Q,R,S,T,F⟩
 have u:=(yk d F)
 refine jV u 11 fun H f=>?_
 refine oO (v:=(Ca ((fJ fQ 0).ix:Int) ((fJ fQ 0).key))) (v' := Zh) Tryz.results126 (oc (cs:=(Zn ((fJ fQ 0).ix:Int) ((fJ fQ 0).key))) rfl xl rfl qa rfl (me f (i:=5) (o:=0) (vs:=(Zn ((fJ fQ 0).ix:Int) ((fJ fQ 0).key))) rfl rfl)) (pH rfl) ?_
 exact⟨rfl,p,q,s,t,O,P,Q,R,S,T,yi (yc [_,_,_,_] _ f)⟩
theorem aaf(hb n:Nat)(iv pv:Value)(ps:List (Option Nat))(fQ:List gG)(pl:List Nat)(w:World)(z:Own (Zj hb n iv pv fQ ps pl) w)(B:Hp n fQ pl)(A:jx n ps pl)(y:fQ.length=0) :
 CR ya 126 (Zi hb) w (fun r w' => r = .tuple BU/\fV (Zj hb n iv pv fQ ps pl) w w' (Zj hb n iv pv fQ ps pl)):=by
 refine en Tryz.func126 Tryz.ntmps126 ?_
 have x:=(yq z).unpack
 refine fR x 2 ?_
 refine iE x (fun j e k l a=>?_)
 have f:=yg [1,2,3,4,0] a
 have b:=yc [_,_,_,_] _ f
 refine fK a 6 ?_
 refine cl AA (Qq hb n iv pv ps fQ pl e (ye b 0 rfl) B A y) ?_
 rintro _ m ⟨rfl,C⟩
 have c:=(yk b C)
 refine fK c 3 ?_
 refine iE c (fun p q s t g=>?_)
 refine jV g 22 fun u d=>?_
 refine oO (v:=HH) (v' := Zp) Tryz.results126 (oc (cs:=vJ) rfl xl rfl qa rfl (me d (i:=5) (o:=0) (vs:=vJ) rfl rfl)) (pH rfl) ?_
 have h:=yg [1,2,3,4,0,5] d
 exact⟨rfl,yi (yc [_,_,_,_] _ h)⟩
end
end Go.Proofs.YtedjjkcihkmjgaaGreatDoor
