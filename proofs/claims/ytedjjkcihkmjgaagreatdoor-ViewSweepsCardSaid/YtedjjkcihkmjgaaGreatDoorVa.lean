/- Walks through the code, one theorem a function, under what is said of its arguments. -/
import Derived.Test.YtedjjkcihkmjgaaGreatDoorFa
import Derived.Test.YtedjjkcihkmjgaaGreatDoorFb
import Derived.Test.YtedjjkcihkmjgaaGreatDoorFc
import Derived.Test.YtedjjkcihkmjgaaGreatDoorFd
import Derived.Test.YtedjjkcihkmjgaaGreatDoorProg
import Derived.KernelRfl
set_option linter.unusedVariables false
set_option linter.unusedSimpArgs false
set_option maxRecDepth 100000
set_option maxHeartbeats 4000000
namespace Go.Proofs.YtedjjkcihkmjgaaGreatDoor
open Go Go.Sx Tryz
noncomputable abbrev ya:=@Tryz.prog
abbrev yc:=@St.pack
abbrev yd:=@underlying37
abbrev ye:=@St.oR
abbrev yf:=@St.re
abbrev yg:=@underlying3
abbrev yh:=@St.tn
abbrev yi:=@St.tu
abbrev yj:=@St.eT
abbrev yk:=@underlying389
abbrev ym:=@St.Ff
abbrev yn:=@St.rD
abbrev yo:=@underlying39
abbrev yp:=@underlying420
abbrev yq:=@underlying169
abbrev yr:=@St.grow
abbrev yt:=@St.Jx
abbrev yu:=@St.init
abbrev yv:=@St.acF
abbrev yw:=@underlying27
abbrev yx:=@St.reR
abbrev yy:=@St.unpack
abbrev yz:=@St.De
abbrev y0:=@underlying172
abbrev y8:=@underlying128
abbrev y9:=@St.W2
abbrev nj:=@underlying410
abbrev mC:=@underlying4
abbrev jm:=@St.made
abbrev n9:=@underlying78
abbrev iN:=@St.rr
abbrev pO:=@underlying323
abbrev pP:=@underlying382
abbrev pQ:=@underlying28
abbrev lE:=@St.KJ
abbrev lF:=@St.acL
abbrev mO:=@St.It
abbrev rE:=@underlying374
abbrev lZ:=@St.U0
abbrev sJ:=@underlying212
abbrev kU:=@St.QC
abbrev nk:=@St.Kz
abbrev jM:=@St.un
abbrev qK:=@results322
abbrev sK:=@underlying35
abbrev l7:=@St.LN
abbrev mP:=@St.perm
abbrev qt:=@St.yW
abbrev uD:=@results134
abbrev pR:=@St.IA
abbrev xl:=@underlying250
abbrev xm:=@underlying43
abbrev xg:=@underlying52
abbrev xh:=@underlying54
abbrev vB:=@results275
abbrev vC:=@results344
abbrev qJ:=@St.ER
abbrev zK:=@underlying223
abbrev zL:=@underlying229
abbrev zM:=@underlying267
abbrev zN:=@underlying383
abbrev zO:=@underlying399
abbrev sL:=@St.Iy
abbrev xo:=@results296
abbrev mD:=@St.eM
abbrev zQ:=@underlying2
abbrev BA:=@underlying276
abbrev BB:=@underlying381
abbrev BC:=@underlying23
abbrev BD:=@underlying81
abbrev uE:=@St.Oo
abbrev BE:=@results120
abbrev BG:=@results142
abbrev DF:=@underlying217
abbrev DG:=@underlying232
abbrev DH:=@underlying94
abbrev zR:=@St.Uf
abbrev sM:=@St.fact
abbrev xq:=@St.acH
abbrev DI:=@results334
abbrev DJ:=@results343
abbrev He:=@underlying100
abbrev Hf:=@underlying106
abbrev Hg:=@underlying152
abbrev Hh:=@underlying211
abbrev Hi:=@underlying371
abbrev Hj:=@underlying401
abbrev zS:=@St.W6
abbrev G3:=@underlying60
abbrev G4:=@underlying73
abbrev zP:=@St.W5
abbrev Bz:=@St.Vp
abbrev DE:=@St.WG
abbrev G5:=@results171
abbrev G6:=@results325
abbrev G7:=@results341
abbrev G8:=@results359
abbrev G9:=@results75
abbrev Hl:=@results78
theorem k_{p:Prop}(h:p:=by kernel_rfl):p:=h
theorem f_{p:Prop}(h:p:=by exact fun _=>rfl):p:=h
abbrev p_:Value×List Nat->Value:=Prod.fst
abbrev Zg:=(.bool true:Value)
abbrev Zn:=(.bool false:Value)
abbrev Zc:=(.int .i64 0:Value)
abbrev pZ:=(.int .i64 1:Value)
abbrev rR:=(.int .i64 4:Value)
abbrev B6:=(.int .i64 6:Value)
abbrev AA:=(.int .i64 9:Value)
abbrev Zy:=(.int .u64 0:Value)
abbrev vV:=(.int .u64 1:Value)
abbrev AB:=(.int .u64 2:Value)
abbrev vW:=(.int .u64 3:Value)
abbrev xK:=(.int .i64 10:Value)
abbrev xL:=([.int .i64 1]:List Value)
abbrev uT:=([.int .u64 0]:List Value)
abbrev Za(a:Int):=(.int .i64 a:Value)
abbrev Zl(a:Int):=(.int .u64 a:Value)
abbrev Zp:=(.pointer none:Value)
abbrev Zx:=(.int .i64 (-1):Value)
abbrev Ze(a:Int):=([.int .i64 a]:List Value)
abbrev Zt(a:Int):=([.int .u64 a]:List Value)
abbrev Zi:=(.slice none 0 0:Value)
abbrev Z2(a:Int):=(#[.int .i64 a]:Array Value)
abbrev xE(a:Int):=(#[.int .u64 a]:Array Value)
abbrev oP:=([.slice none 0 0]:List Value)
abbrev uX a:=(#[a,.int .i64 0]:Array Value)
abbrev Z6 a b:=(fL fU a 3 1 b:fT)
abbrev uR(a:Int) b:=(#[.int .i64 a,b]:Array Value)
abbrev Z8 a b:=(fL gQ a 39 1 b:fT)
abbrev Ak(a:Nat):=(blk a 3 xL:fT)
abbrev Ag(a:Bool):=(#[.bool a,.int .i64 0]:Array Value)
abbrev vS:=([.int .i64 0,.int .i64 0]:List Value)
abbrev Cd:=(#[.int .i64 0,.bool false]:Array Value)
abbrev Z9(a:Int)(b:Bool):=(#[.int .i64 a,.bool b]:Array Value)
abbrev HV:=(#[.int .u64 0,.int .i64 0]:Array Value)
abbrev HW:=(#[.int .u64 1,.int .u64 3]:Array Value)
abbrev Ch:=([.func (.func 102) #[] #[]]:List Value)
abbrev xI a b:=(fL Ge.cells a 110 3 b:fT)
abbrev Cc(a:Int):=(#[.bool true,.int .u64 a]:Array Value)
abbrev Ao(a:Int):=(#[.int .i64 a,.bool true]:Array Value)
abbrev Cj a b:=(fL i7.cells a 169 2 b:fT)
abbrev uW(a:Int):=(#[.int .i64 a,.int .i64 0]:Array Value)
abbrev Zr(a b:Int):=([.int .i64 a,.int .i64 b]:List Value)
abbrev Em(a b:Int):=([.int .u64 a,.int .i64 b]:List Value)
abbrev Zb(a:Nat):=(.pointer (some ⟨a,0,none⟩):Value)
abbrev Z0(a b:Int):=(#[.int .i64 a,.int .i64 b]:Array Value)
abbrev uS(a b:Int):=(#[.int .u64 a,.int .u64 b]:Array Value)
abbrev Zf(a:Nat):=([.pointer (some ⟨a,0,none⟩)]:List Value)
abbrev Ih:=(.agg #[.int .i64 0,.int .i64 0]:Value)
abbrev Z4(a:Nat):=(.slice (some ⟨a,0,none⟩) 1 1:Value)
abbrev EL(a:Nat):=(.slice (some ⟨a,0,none⟩) 2 2:Value)
abbrev Ik(a:Nat):=(.slice (some ⟨a,0,none⟩) 3 3:Value)
abbrev Zh(a:Nat):=(#[.pointer (some ⟨a,0,none⟩)]:Array Value)
abbrev p6(a:fW) b:=fS a.im ((fJ a.live b).u)
abbrev uY(a:fW) b:=iL a.im ((fJ a.live b).u)
abbrev Es(a b:Nat):=(.slice (some ⟨a,0,none⟩) 0 b:Value)
abbrev tT a (b:Nat):=(gh [a,blk b 3 xL]:fT)
abbrev Ck(a b:Int):=(.agg (Z0 a b):Value)
abbrev Ij(a b:Int):=(.agg (uS a b):Value)
abbrev Zd(a b:Nat):=(.slice (some ⟨a,0,none⟩) b b:Value)
abbrev vR(a:Nat) b:=(#[.pointer (some ⟨a,0,none⟩),b]:Array Value)
abbrev Mo a (b:Nat):=(#[a,.pointer (some ⟨b,0,none⟩)]:Array Value)
abbrev Ib(a b:Int):=([.agg (Z0 a b)]:List Value)
abbrev Z5(a b:Nat):=([.slice (some ⟨a,0,none⟩) b b]:List Value)
abbrev Zs(a:Int) b c d e f:=([.int .i64 a,b,c,d,e,f]:List Value)
abbrev Zw(a:Nat)(b c:Int):=(blk a 247 (Zr b c):fT)
abbrev MU(a:gH):=(.agg #[.int .i64 a.ix,.int .i64 a.key]:Value)
abbrev Ar(a b c:Int):=([.int .i64 a,.int .i64 b,.int .i64 c]:List Value)
abbrev s9(a b c:Int):=(#[.int .i64 a,.int .i64 b,.int .i64 c]:Array Value)
abbrev Zz(a:Nat):=(#[.pointer (some ⟨a,0,none⟩),.int .i64 0]:Array Value)
abbrev B5(a:Int) b c d e f:=(.agg #[.int .i64 a,b,c,d,e,f]:Value)
abbrev xM(a:Int)(b:Nat):=([.int .i64 a,.pointer (some ⟨b,0,none⟩)]:List Value)
abbrev tS(a:Nat)(b:Int):=([.pointer (some ⟨a,0,none⟩),.int .i64 b]:List Value)
abbrev Ca:=(#[.agg #[.int .i64 0,.int .i64 0],.bool false]:Array Value)
abbrev xD(a:Int)(b:Nat):=(#[.int .i64 a,.pointer (some ⟨b,0,none⟩)]:Array Value)
abbrev Zm(a:Nat)(b:Int):=(#[.pointer (some ⟨a,0,none⟩),.int .i64 b]:Array Value)
abbrev Z7(a:Nat)(b:Int):=(#[.pointer (some ⟨a,0,none⟩),.int .u64 b]:Array Value)
abbrev El(a:Int) b c d e f:=([.agg #[.int .i64 a,b,c,d,e,f]]:List Value)
abbrev Eu(a:Int) b c d e f:=(#[.agg #[.int .i64 a,b,c,d,e,f]]:Array Value)
abbrev Cb(a b:Int):=(#[.agg (Z0 a b),.bool true]:Array Value)
abbrev xJ(a b c:Int):=(.agg (s9 a b c):Value)
abbrev rP a (b:Nat) (c:Int):=(gh [a,blk b 128 [.int .u64 0,.int .u64 c]]:fT)
abbrev EH a b (c:List Ge):=(⟨(fJ a b),((fJ c (fJ a b)).u)⟩:jN)
abbrev tV a b (c:List Ge):=(⟨(fJ a b),((fJ c (fJ a b)).v)⟩:jN)
abbrev MT a b:=fJ (iK a b (jE a b)) (jE a b)
abbrev MR a b:=(ia a .u64 p_ b:fT)
abbrev MW(a:Nat):=(.func (.func 321) (Zh a) #[]:Value)
abbrev MX(a:Nat):=(.func (.func 322) (Zh a) #[]:Value)
abbrev EG a b c d:=(gh [fL Ge.cells a 110 3 b,fL fU c 3 1 d]:fT)
abbrev rN(a:Nat)(b:Int) c d:=([.pointer (some ⟨a,0,none⟩),.int .i64 b,c,d]:List Value)
abbrev tc(a b c d:Int):=([.int .i64 a,.int .i64 b,.int .i64 c,.int .i64 d]:List Value)
abbrev xN(a b c d:Int):=(#[.int .i64 a,.int .i64 b,.int .i64 c,.int .i64 d]:Array Value)
abbrev Zq(a:Nat) b c:=(gh [blk a 412 [.pointer (some ⟨a,0,none⟩),b],c]:fT)
abbrev Av(a:Nat)(b c:Int):=([.pointer (some ⟨a,0,none⟩),.int .i64 b,.int .i64 c]:List Value)
abbrev Zv(a:Nat)(b c:Int):=(#[.pointer (some ⟨a,0,none⟩),.int .i64 b,.int .i64 c]:Array Value)
abbrev Ew a (b:Nat):=(#[a,.func (.func 313) #[] (Zh b)]:Array Value)
abbrev pG(a:fW) b:=fS (uY a b) ((fJ a.live b).v)
abbrev B7(a:Int) b c d e f (g:Int):=(#[.agg #[.int .i64 a,b,c,d,e,f],.int .i64 g]:Array Value)
abbrev sY(a b:Nat):=([.pointer (some ⟨a,0,none⟩),.pointer (some ⟨b,0,none⟩)]:List Value)
abbrev Am(a:fW) b:=iL (uY a b) ((fJ a.live b).v)
abbrev AD(a b:Nat):=(#[.pointer (some ⟨a,0,none⟩),.pointer (some ⟨b,0,none⟩)]:Array Value)
abbrev HT(a b:Nat):=(gh [blk a 81 oP,blk b 78 oP]:fT)
abbrev EJ(a b c d:Int):=(.agg (xN a b c d):Value)
abbrev M7(a b c d:Int):=([.agg (xN a b c d)]:List Value)
abbrev Mx(a b c d:Int):=(#[.agg (xN a b c d)]:Array Value)
abbrev qU(a:Lv):=([.int .u64 a.u,.int .u64 a.v,.int .i64 a.wt,.int .i64 a.t]:List Value)
abbrev MB a (b c:Nat):=(#[a,.pointer (some ⟨b,0,none⟩),.pointer (some ⟨c,0,none⟩)]:Array Value)
abbrev Mn(a:Nat) b:=(gh [blk a 412 [.pointer (some ⟨a,0,none⟩),.pointer none],b]:fT)
abbrev Cp(a b c d:Int):=([.int .i64 a,.int .i64 b,.int .i64 c,.int .i64 1,.int .i64 d]:List Value)
abbrev My(a b c d:Int):=(#[.int .i64 a,.int .i64 b,.int .i64 c,.int .i64 1,.int .i64 d]:Array Value)
abbrev MV(a:Lv):=(.agg #[.int .u64 a.u,.int .u64 a.v,.int .i64 a.wt,.int .i64 a.t]:Value)
abbrev MA(a b:Nat):=(#[.pointer (some ⟨a,0,none⟩),.pointer (some ⟨b,0,none⟩),.bool true]:Array Value)
abbrev Ey a (b:Int) (c:Nat):=(#[a,.int .i64 b,.func (.func 297) #[] (Zh c)]:Array Value)
abbrev Ez a (b:Int) (c:Nat):=(#[a,.int .i64 b,.func (.func 310) #[] (Zh c)]:Array Value)
abbrev Ce a (b c d:Nat) (e:Int):=([a,blk b 223 (Zf c),blk d 3 (Ze e)]:List fT)
abbrev MS a b c:=gr a ((fJ b c:Nat):Int) (fS a ((fJ b c:Nat):Int)+1)
abbrev pH(a b:Nat)(c:TW):=([.pointer (some ⟨a,0,none⟩),.pointer (some ⟨b,0,none⟩),c.iv,c.cv]:List Value)
abbrev EF(a:Nat) b c (d e:Int) f g h i j:=(gh [blk a 422 [b,c,.int .i64 d,.int .i64 e,f,g,h],i,j]:fT)
abbrev vY(a b c:Nat)(d:Int):=([.pointer (some ⟨a,0,none⟩),.slice (some ⟨b,0,none⟩) c c,.int .i64 d]:List Value)
abbrev MQ a b c d e f:=(gh [fL Ge.cells a 110 3 b,fL fU c 3 1 d,fL kB.cells e 60 3 f]:fT)
abbrev Im(a:Nat)(b:Int) c (d e:Nat):=([.pointer (some ⟨a,0,none⟩),.int .i64 b,c,.slice (some ⟨d,0,none⟩) e e]:List Value)
abbrev oQ:=([.int .i64 0,.int .u64 0,.int .u64 0,.int .u64 0,.int .i64 0,.int .i64 0,.int .i64 0]:List Value)
abbrev HU:=(#[.int .i64 0,.int .u64 0,.int .u64 0,.int .u64 0,.int .i64 0,.int .i64 0,.int .i64 0]:Array Value)
abbrev uZ(a:fW) b c d:=gr a.im ((fJ a.live b).u) (c,(p6 a b).2.eraseIdx d)
abbrev Mz(a:Nat)(b c d e:Int):=(#[.pointer (some ⟨a,0,none⟩),.int .i64 b,.int .i64 c,.int .i64 d,.int .i64 e]:Array Value)
abbrev uU(a b c:Nat):=([.pointer (some ⟨a,0,none⟩),.pointer (some ⟨b,0,none⟩),.pointer (some ⟨c,0,none⟩)]:List Value)
abbrev Ev(a b c:Nat):=(#[.pointer (some ⟨a,0,none⟩),.pointer (some ⟨b,0,none⟩),.pointer (some ⟨c,0,none⟩)]:Array Value)
abbrev Al(a b c:Nat)(d:Int):=(blk a 391 (vY a b c d):fT)
abbrev Ah:=([.int .i64 0,.slice none 0 0,.slice none 0 0,.slice none 0 0,.slice none 0 0,.slice none 0 0]:List Value)
abbrev Nf(a b:Int):=([.pointer none,.pointer none,.int .i64 a,.int .i64 b,.int .i64 0,.int .i64 0,.int .i64 0]:List Value)
abbrev Na(a:Nat)(b:Int)(c d:Nat):=([.pointer (some ⟨a,0,none⟩),.int .i64 b,.slice none 0 0,.slice (some ⟨c,0,none⟩) d d]:List Value)
abbrev vX(a:Nat) b (c:As) (d:Int):=([.pointer (some ⟨a,0,none⟩),b,.int .i64 c.n,.int .i64 d,.int .i64 c.used,.int .i64 c.last]:List Value)
abbrev Cq a (b:Int) c d e f g (h i:Nat):=([a,.int .i64 b,c,d,e,f,g,.pointer (some ⟨h,0,none⟩),.pointer (some ⟨i,0,none⟩)]:List Value)
abbrev xF(a:Nat)(b:Lv):=(#[.pointer (some ⟨a,0,none⟩),.agg #[.int .u64 b.u,.int .u64 b.v,.int .i64 b.wt,.int .i64 b.t]]:Array Value)
abbrev HN(a:Nat) b (c:As) (d:Int):=([.pointer (some ⟨a,0,none⟩),b,.int .i64 c.n,.int .i64 c.begun,.int .i64 c.used,.int .i64 d]:List Value)
abbrev H6 a b c d e (f:Nat) (g:Int) h i j k l:=([a,fL Mg.cells b 158 5 c,fL fU d 3 1 e,blk f 102 (Zs g h i j k l)]:List fT)
abbrev mV(a:Nat) b (c:As):=([.pointer (some ⟨a,0,none⟩),b,.int .i64 c.n,.int .i64 c.begun,.int .i64 c.used,.int .i64 c.last]:List Value)
abbrev qT(a b:Int)(c:Lv):=([.int .i64 a,.int .u64 b,.int .u64 c.u,.int .u64 c.v,.int .i64 c.wt,.int .i64 c.t,.int .i64 c.exp]:List Value)
abbrev p5(a:fW) b c d:=fS (uZ a b c d) ((fJ a.live b).v)
abbrev Ie(a:fW) b c d:=iL (uZ a b c d) ((fJ a.live b).v)
abbrev EC(a b c:Int)(d e:Nat) f g:=([.int .i64 a,.int .i64 b,.int .u64 c,.pointer (some ⟨d,0,none⟩),.pointer (some ⟨e,0,none⟩),f,.map g]:List Value)
abbrev Ii(a b:Int)(c:Lv):=(.agg #[.int .i64 a,.int .u64 b,.int .u64 c.u,.int .u64 c.v,.int .i64 c.wt,.int .i64 c.t,.int .i64 c.exp]:Value)
abbrev T4 a (b:nK) c d e f:=(gh [fL gi a 3 1 b.l,fL gi c 3 1 b.r,fL gi d 3 1 b.p,fL gi e 2 1 b.h,fL fU f 3 1 b.s]:fT)
abbrev oh(a:Lv):=([.int .i64 a.slot,.int .u64 a.seq,.int .u64 a.u,.int .u64 a.v,.int .i64 a.wt,.int .i64 a.t,.int .i64 a.exp]:List Value)
abbrev Nc(a:Nat)(b:As):=([.pointer (some ⟨a,0,none⟩),.slice none 0 0,.int .i64 b.n,.int .i64 b.begun,.int .i64 b.used,.int .i64 b.last]:List Value)
abbrev MZ(a:Nat) b c d e f g h i j:=([iz .i64 (Z4 a) 3 b,fL fU c 3 1 d,e,f,fL fU g 3 1 h,fL fU i 3 1 j]:List fT)
abbrev Nb(a b c d:Nat):=([.pointer (some ⟨a,0,none⟩),.pointer (some ⟨b,0,none⟩),.pointer (some ⟨c,0,none⟩),.pointer (some ⟨d,0,none⟩)]:List Value)
abbrev HY a (b:Nat) (c:Int) (d:Nat) (e:Bool) (f g h:Nat) (i:Int):=([a,blk b 3 (Ze c),blk d 4 [.bool e],blk f 171 (Zf g),blk h 39 (Zt i)]:List fT)
abbrev EP(a b c:Int)(d:fW) e f:=([.int .i64 a,.int .i64 b,.int .u64 c,.pointer (some ⟨d.jg,0,none⟩),.pointer (some ⟨d.tb,0,none⟩),e,.map f]:List Value)
abbrev Au(a b:Int)(c:GW) d:=([.int .i64 a,.int .i64 b,.pointer (some ⟨c.fb,0,none⟩),.pointer (some ⟨c.hb,0,none⟩),.map d,.int .i64 c.trees]:List Value)
abbrev Mp(a b c:Nat)(d:List Nd):=([blk a 391 [.pointer (some ⟨a,0,none⟩),.slice (some ⟨b,0,none⟩) c c,.int .i64 0],blk b 388 (d.flatMap Nd.cells)]:List fT)
abbrev An(a:Lv):=(.agg #[.int .i64 a.slot,.int .u64 a.seq,.int .u64 a.u,.int .u64 a.v,.int .i64 a.wt,.int .i64 a.t,.int .i64 a.exp]:Value)
abbrev H7(a:Nat) b c d e f g:=([blk a 167 [.pointer (some ⟨a,0,none⟩),b,c,d],fL Ge.cells b 110 3 e,fL fU c 3 1 f,fL fU d 3 1 g]:List fT)
abbrev M9(a b:Int)(c d:Nat) e:=([.int .i64 a,.int .i64 b,.int .u64 0,.pointer (some ⟨c,0,none⟩),.pointer (some ⟨d,0,none⟩),.slice none 0 0,.map e]:List Value)
abbrev Co(a b c:Int)(d:fW) e:=([.int .i64 a,.int .i64 b,.int .u64 c,.pointer (some ⟨d.jg,0,none⟩),.pointer (some ⟨d.tb,0,none⟩),d.lv,.map e]:List Value)
abbrev HZ a (b:Nat) c d (e f g:Nat):=([a,blk b 54 [c],fL kB.cells c 60 3 d,blk e 207 Ch,blk f 200 (Zf g)]:List fT)
abbrev pY(a b:Int)(c:fW) d:=([.int .i64 a,.int .i64 b,.int .u64 c.last,.pointer (some ⟨c.jg,0,none⟩),.pointer (some ⟨c.tb,0,none⟩),c.lv,.map d]:List Value)
abbrev Zk(a b c:Nat)(d:Int)(e:List Nd):=(gh [blk a 391 (vY a b c d),blk b 388 (e.flatMap Nd.cells)]:fT)
abbrev T5(a:Nat) b c d (e:Int) f g h:=([blk a 409 [.pointer (some ⟨a,0,none⟩),b,c,d,.int .i64 e],fL fU b 3 1 f,fL fU c 3 1 g,fL gi d 3 1 h]:List fT)
abbrev T6(a b c d:Nat):=(#[.pointer none,.slice (some ⟨a,0,none⟩) b b,.slice (some ⟨c,0,none⟩) b b,.slice (some ⟨d,0,none⟩) b b,.int .i64 b]:Array Value)
abbrev HS(a:Nat) b c (d e f g h:Int) (i:Nat) (j:Int):=(gh [blk a 422 [b,c,.int .i64 d,.int .i64 e,.int .i64 f,.int .i64 g,.int .i64 h],blk i 128 [.int .u64 0,.int .u64 j]]:fT)
abbrev B8(a b:Nat)(c:TW):=([blk a 302 (pH a b c),fL gQ c.iv 39 1 c.ids,fL fU c.cv 3 1 c.cs]:List fT)
abbrev EI(a:fW) b c d:=gr (uY a b) ((fJ a.live b).v) (c,(pG a b).2.eraseIdx d)
abbrev EE(a b:Nat)(c:TW) d:=(gh [blk a 302 (pH a b c),fL gQ c.iv 39 1 c.ids,fL fU c.cv 3 1 d]:fT)
abbrev Zj(a:Nat)(b:Int) c d e f g:=(gh [blk a 385 (rN a b c d),fL gH.cells c 250 2 e,fL iI d 399 1 f,gN fU 401 64 f g]:fT)
abbrev Z1(a b:Nat)(c:TW):=(gh (B8 a b c):fT)
abbrev EO(a:Nat)(b:Ds) c:=([blk a 409 [.pointer (some ⟨a,0,none⟩),b.uv,b.lv,b.sv,.int .i64 b.cnt],fL fU b.uv 3 1 c,fL fU b.lv 3 1 b.le,fL gi b.sv 3 1 b.sz]:List fT)
abbrev Ai(a:Nat) b (c d e f:Int) g h:=(gh [blk a 278 [.pointer (some ⟨a,0,none⟩),b,.int .i64 c,.int .i64 d,.int .i64 e,.int .i64 f],fL iI b 392 1 g,gN gV.cells 395 64 g h]:fT)
abbrev B9(a:Nat)(b:Ds):=([blk a 409 [.pointer (some ⟨a,0,none⟩),b.uv,b.lv,b.sv,.int .i64 b.cnt],fL fU b.uv 3 1 b.up,fL fU b.lv 3 1 b.le,fL gi b.sv 3 1 b.sz]:List fT)
abbrev HR(a:Nat)(b:Ds) c:=(gh (EO a b c):fT)
abbrev ML(a:Nat) b (c:As) (d:Int) e f:=([blk a 278 (vX a b c d),fL iI b 392 1 e,gN gV.cells 395 64 e f]:List fT)
abbrev qV(a:Nat)(b:Ds):=(gh (B9 a b):fT)
abbrev Nn(a:Nat) b (c d e:Int) (f:As):=(gh [blk a 278 [.pointer (some ⟨a,0,none⟩),b,.int .i64 c,.int .i64 d,.int .i64 e,.int .i64 f.last],fL iI b 392 1 f.ps,gN gV.cells 395 64 f.ps f.sl]:fT)
abbrev Aq a (b c d e:Nat) (f:Int) (g:List Nd):=([a,blk b 208 (Zf c),blk c 391 (vY c d e f),blk d 388 (g.flatMap Nd.cells)]:List fT)
abbrev MK(a:Nat) b (c:As) (d:Int):=([blk a 278 (vX a b c d),fL iI b 392 1 c.ps,gN gV.cells 395 64 c.ps c.sl]:List fT)
abbrev Mr(a:Nat)(b:Int):=([gN gV.cells 395 64 ([]) ([]),fL iI Zi 392 1 ([]),blk a 278 [.pointer (some ⟨a,0,none⟩),.slice none 0 0,.int .i64 b,.int .i64 0,.int .i64 0,.int .i64 (-1)]]:List fT)
abbrev AE(a:Nat) b (c:As):=([blk a 278 (mV a b c),fL iI b 392 1 c.ps,gN gV.cells 395 64 c.ps c.sl]:List fT)
abbrev MO(a b:Nat) c (d e:Int) f g h i j (k l:Int) m n o p q r:=(gh [blk a 422 [.pointer (some ⟨b,0,none⟩),c,.int .i64 d,.int .i64 e,f,g,h],blk b 422 [i,j,.int .i64 k,.int .i64 l,m,n,o],p,q,r]:fT)
abbrev MP(a:Nat) b (c:Nat) (d e:Int) f g h i j (k l:Int) m n o p q r:=(gh [blk a 422 [b,.pointer (some ⟨c,0,none⟩),.int .i64 d,.int .i64 e,f,g,h],blk c 422 [i,j,.int .i64 k,.int .i64 l,m,n,o],p,q,r]:fT)
abbrev Zu(a:Nat) b (c:As):=(gh (AE a b c):fT)
abbrev Ci(a b:Nat):=([.func (.func 261) #[] (Zh a),.func (.func 263) #[] (AD a b),.func (.func 265) #[] (Zh a)]:List Value)
abbrev MJ(a:Nat) b (c:As) d e:=([blk a 278 (mV a b c),fL iI b 392 1 c.ps,gN gV.cells 395 64 c.ps c.sl,iz .i64 d 3 e]:List fT)
abbrev MI(a b c d:Nat)(e:Int)(f:List Nd) g h (i:Nat):=([blk a 208 (Zf b),blk b 391 (vY b c d e),blk c 388 (f.flatMap Nd.cells),iz .i64 g 3 h,blk i 37 [g]]:List fT)
abbrev Il(a:Nat)(b:Int)(c d:Nat)(e:Int) f g h i j:=([blk a 3 (Ze b),blk c 211 (Zf d),blk d 385 (rN d e f g),fL gH.cells f 250 2 h,fL iI g 399 1 i,gN fU 401 64 i j]:List fT)
abbrev vU(a:Nat)(b:Int)(c d:Nat)(e:Int) f g h i j:=(gh (Il a b c d e f g h i j):fT)
abbrev Aj(a b:Nat):=(blk a 108 [.pointer (some ⟨b,0,none⟩),.bool false,.int .u64 0,.slice none 0 0,.int .i64 0,.slice none 0 0,.slice none 0 0,.slice none 0 0,.slice none 0 0,.slice none 0 0,.pointer none,.pointer none,.int .i64 0]:fT)
abbrev Er a (b c:Nat) (d:TW) (e f:Nat) (g:Int):=(gh [a,blk b 302 (pH b c d),fL gQ d.iv 39 1 d.ids,fL fU d.cv 3 1 d.cs,blk e 171 (Zf b),blk f 39 (Zt g)]:fT)
abbrev M8(a b c d:Int)(e:WW):=([.int .i64 a,.int .i64 b,.int .i64 c,.int .i64 d,.pointer (some ⟨e.cb,0,none⟩),.pointer (some ⟨e.ub,0,none⟩),.pointer (some ⟨e.sb,0,none⟩),.pointer (some ⟨e.ob,0,none⟩),.int .u64 e.added,.int .u64 e.jX]:List Value)
abbrev Ig(a:fW) b c d e f:=gr (uZ a b c d) ((fJ a.live b).v) (e,(p5 a b c d).2.eraseIdx f)
abbrev MN(a:Nat)(b:Int) c d e f g (h:Nat) i (j k:Nat) l:=([blk a 385 (rN a b c d),fL gH.cells c 250 2 e,fL iI d 399 1 f,gN fU 401 64 f g,blk h 385 (Im h b i j k),fL gH.cells i 250 2 e,fL iI (Zd j k) 399 1 l,gN fU 401 64 l g]:List fT)
abbrev No(a:Nat) b (c:As) (d:Nat) e f:=(gh [blk a 278 (mV a b c),fL iI b 392 1 c.ps,gN gV.cells 395 64 c.ps c.sl,blk d 278 (mV d e c),fL iI e 392 1 f,gN gV.cells 395 64 f c.sl]:fT)
abbrev Np:=((List.replicate 64 [.int .i64 0,.int .i64 0,.int .u64 0]).flatten:List Value)
abbrev ME a (b c:Nat) d (e:As) f g:=([a,blk b 395 Np,blk c 278 (mV c d e),fL iI f 392 1 g,gN gV.cells 395 64 e.ps e.sl]:List fT)
theorem gO{t:TypeId}{s b:Nat}{z:Value}(h:(ya.info? t).map (fun i=>(i.size,i.bytes,i.zero))=some (s,b,some z)):TI ya t s b z:=h
theorem ti2:TI ya 2 1 8 (.int .i64 0):=gO k_
theorem gq:TI ya 3 1 8 (.int .i64 0):=gO k_
theorem GP:TI ya 4 1 1 (.bool false):=gO k_
theorem ti5:TI ya 5 1 1 (.int .u8 0):=gO k_
theorem SJ:TI ya 23 1 8 (.pointer none):=gO k_
theorem Ls:TI ya 27 1 24 (.slice none 0 0):=gO k_
theorem SX:TI ya 28 1 24 (.slice none 0 0):=gO k_
theorem SY:TI ya 31 1 8 (.pointer none):=gO k_
theorem zD:TI ya 32 1 8 (.int .i64 0):=gO k_
theorem S0:TI ya 35 1 24 (.slice none 0 0):=gO k_
theorem kz:TI ya 37 1 24 (.slice none 0 0):=gO k_
theorem iX:TI ya 39 1 8 (.int .u64 0):=gO k_
theorem zG:TI ya 41 4 32 (.agg #[(.int .u64 0),(.int .u64 0),(.int .i64 0),(.int .i64 0)]):=gO k_
theorem o8:TI ya 43 7 56 (.agg #[(.int .i64 0),(.int .u64 0),(.int .u64 0),(.int .u64 0),(.int .i64 0),(.int .i64 0),(.int .i64 0)]):=gO k_
theorem aex:TI ya 52 1 24 (.slice none 0 0):=gO k_
theorem aey:TI ya 54 1 24 (.slice none 0 0):=gO k_
theorem zH:TI ya 60 3 24 (.agg #[(.int .i64 0),(.int .i64 0),(.int .i64 0)]):=gO k_
theorem w5:TI ya 62 4 32 (.agg #[(.int .i64 0),(.int .i64 0),(.int .i64 0),(.int .i64 0)]):=gO k_
theorem aez:TI ya 68 1 1 (.int .i8 0):=gO k_
theorem aeA:TI ya 70 5 5 (.agg #[(.bool false),(.int .u8 0),(.int .u8 0),(.int .i8 0),(.int .u8 0)]):=gO k_
theorem GQ:TI ya 73 2 16 (.agg #[(.int .u64 0),(.int .i64 0)]):=gO k_
theorem LG:TI ya 78 1 24 (.slice none 0 0):=gO k_
theorem aeB:TI ya 81 1 24 (.slice none 0 0):=gO k_
theorem Dy:TI ya 94 4 32 (.agg #[(.int .i64 0),(.int .i64 0),(.int .i64 0),(.int .i64 0)]):=gO k_
theorem Dr:TI ya 100 2 16 (.agg #[(.bool false),(.int .u64 0)]):=gO k_
theorem zB:TI ya 102 6 128 (.agg #[(.int .i64 0),(.slice none 0 0),(.slice none 0 0),(.slice none 0 0),(.slice none 0 0),(.slice none 0 0)]):=gO k_
theorem Sq:TI ya 103 1 8 (.pointer none):=gO k_
theorem Sr:TI ya 104 1 8 (.pointer none):=gO k_
theorem Dt:TI ya 106 9 168 (.agg #[(.slice none 0 0),(.int .i64 0),(.slice none 0 0),(.slice none 0 0),(.slice none 0 0),(.slice none 0 0),(.slice none 0 0),(.pointer none),(.pointer none)]):=gO k_
theorem Ss:TI ya 108 13 200 (.agg #[(.pointer none),(.bool false),(.int .u64 0),(.slice none 0 0),(.int .i64 0),(.slice none 0 0),(.slice none 0 0),(.slice none 0 0),(.slice none 0 0),(.slice none 0 0),(.pointer none),(.pointer none),(.int .i64 0)]):=gO k_
theorem Du:TI ya 110 3 24 (.agg #[(.int .i64 0),(.int .i64 0),(.int .i64 0)]):=gO k_
theorem Su:TI ya 113 1 8 (.pointer none):=gO k_
theorem Sv:TI ya 114 1 8 (.pointer none):=gO k_
theorem Sw:TI ya 115 1 8 (.pointer none):=gO k_
theorem Sy:TI ya 116 1 8 (.pointer none):=gO k_
theorem SA:TI ya 118 10 80 (.agg #[(.int .i64 0),(.int .i64 0),(.int .i64 0),(.int .i64 0),(.pointer none),(.pointer none),(.pointer none),(.pointer none),(.int .u64 0),(.int .u64 0)]):=gO k_
theorem aen:TI ya 122 5 32 (.agg #[(.int .i64 0),(.int .i64 0),(.int .i64 0),(.bool false),(.bool false)]):=gO k_
theorem uA:TI ya 128 2 16 (.agg #[(.int .u64 0),(.int .u64 0)]):=gO k_
theorem GF:TI ya 138 2 16 (.agg #[(.int .i64 0),(.int .i64 0)]):=gO k_
theorem Ln:TI ya 156 2 16 (.agg #[(.int .i64 0),(.int .i64 0)]):=gO k_
theorem GG:TI ya 158 5 40 (.agg #[(.int .i64 0),(.int .i64 0),(.int .i64 0),(.int .i64 0),(.int .i64 0)]):=gO k_
theorem SB:TI ya 167 4 80 (.agg #[(.pointer none),(.slice none 0 0),(.slice none 0 0),(.slice none 0 0)]):=gO k_
theorem GH:TI ya 169 2 16 (.agg #[(.int .i64 0),(.int .i64 0)]):=gO k_
theorem GJ:TI ya 170 1 8 (.pointer none):=gO k_
theorem Lo:TI ya 171 1 8 (.pointer none):=gO k_
theorem SC:TI ya 172 1 8 (.map none):=gO k_
theorem SD:TI ya 174 7 72 (.agg #[(.int .i64 0),(.int .i64 0),(.int .u64 0),(.pointer none),(.pointer none),(.slice none 0 0),(.map none)]):=gO k_
theorem aeo:TI ya 179 1 24 (.slice none 0 0):=gO k_
theorem aep:TI ya 183 1 24 (.slice none 0 0):=gO k_
theorem aeq:TI ya 185 3 24 (.agg #[(.int .i64 0),(.int .i64 0),(.int .i64 0)]):=gO k_
theorem aer:TI ya 188 1 24 (.slice none 0 0):=gO k_
theorem aes:TI ya 190 2 16 (.agg #[(.int .i64 0),(.int .i64 0)]):=gO k_
theorem aet:TI ya 195 1 8 (.pointer none):=gO k_
theorem SE:TI ya 200 1 8 (.pointer none):=gO k_
theorem Lp:TI ya 208 1 8 (.pointer none):=gO k_
theorem Lq:TI ya 210 1 8 (.agg #[(.pointer none)]):=gO k_
theorem GK:TI ya 211 1 8 (.pointer none):=gO k_
theorem SF:TI ya 212 1 8 (.map none):=gO k_
theorem SG:TI ya 214 6 48 (.agg #[(.int .i64 0),(.int .i64 0),(.pointer none),(.pointer none),(.map none),(.int .i64 0)]):=gO k_
theorem Lr:TI ya 223 1 8 (.pointer none):=gO k_
theorem SH:TI ya 225 8 160 (.agg #[(.pointer none),(.int .i64 0),(.slice none 0 0),(.slice none 0 0),(.slice none 0 0),(.slice none 0 0),(.slice none 0 0),(.slice none 0 0)]):=gO k_
theorem Dv:TI ya 227 1 8 .nilFunc:=gO k_
theorem SI:TI ya 229 1 8 (.map none):=gO k_
theorem SK:TI ya 231 9 168 (.agg #[(.pointer none),(.int .i64 0),(.slice none 0 0),(.slice none 0 0),(.slice none 0 0),(.slice none 0 0),(.slice none 0 0),(.slice none 0 0),(.map none)]):=gO k_
theorem SM:TI ya 232 1 8 (.pointer none):=gO k_
theorem SN:TI ya 234 1 8 (.agg #[(.pointer none)]):=gO k_
theorem SO:TI ya 245 1 8 (.int .i64 0):=gO k_
theorem SS:TI ya 247 2 16 (.agg #[(.int .i64 0),(.int .i64 0)]):=gO k_
theorem qp:TI ya 250 2 16 (.agg #[(.int .i64 0),(.int .i64 0)]):=gO k_
theorem zC:TI ya 254 4 32 (.agg #[(.int .i64 0),(.int .i64 0),(.int .i64 0),(.bool false)]):=gO k_
theorem SU:TI ya 267 4 32 (.agg #[(.int .i64 0),(.int .i64 0),(.int .i64 0),(.int .i64 0)]):=gO k_
theorem SV:TI ya 276 1 24 (.slice none 0 0):=gO k_
theorem GL:TI ya 278 6 64 (.agg #[(.pointer none),(.slice none 0 0),(.int .i64 0),(.int .i64 0),(.int .i64 0),(.int .i64 0)]):=gO k_
theorem aeu:TI ya 291 1 24 (.slice none 0 0):=gO k_
theorem aev:TI ya 293 3 56 (.agg #[(.slice none 0 0),(.slice none 0 0),(.int .i64 0)]):=gO k_
theorem GM:TI ya 302 4 64 (.agg #[(.pointer none),(.pointer none),(.slice none 0 0),(.slice none 0 0)]):=gO k_
theorem Lu:TI ya 318 2 16 (.agg #[(.int .i64 0),(.pointer none)]):=gO k_
theorem SZ:TI ya 323 3 24 (.agg #[(.int .i64 0),(.int .i64 0),(.int .u64 0)]):=gO k_
theorem Lw:TI ya 353 1 8 (.pointer none):=gO k_
theorem Lx:TI ya 356 1 8 (.pointer none):=gO k_
theorem Ly:TI ya 359 4 48 (.agg #[(.pointer none),(.pointer none),(.slice none 0 0),(.pointer none)]):=gO k_
theorem Dw:TI ya 371 1 24 (.slice none 0 0):=gO k_
theorem zF:TI ya 373 2 16 (.agg #[(.int .i64 0),(.int .i64 0)]):=gO k_
theorem S1:TI ya 374 13 312 (.agg #[(.slice none 0 0),(.slice none 0 0),(.slice none 0 0),(.slice none 0 0),(.slice none 0 0),(.slice none 0 0),(.slice none 0 0),(.slice none 0 0),(.slice none 0 0),(.slice none 0 0),(.slice none 0 0),(.slice none 0 0),(.slice none 0 0)]):=gO k_
theorem S3:TI ya 376 15 344 (.agg #[(.bool false),(.slice none 0 0),(.slice none 0 0),(.slice none 0 0),(.slice none 0 0),(.slice none 0 0),(.slice none 0 0),(.slice none 0 0),(.slice none 0 0),(.slice none 0 0),(.slice none 0 0),(.slice none 0 0),(.slice none 0 0),(.slice none 0 0),(.slice none 0 0)]):=gO k_
theorem aew:TI ya 381 1 24 (.slice none 0 0):=gO k_
theorem S4:TI ya 382 1 24 (.slice none 0 0):=gO k_
theorem S5:TI ya 383 1 24 (.slice none 0 0):=gO k_
theorem GN:TI ya 385 4 64 (.agg #[(.pointer none),(.int .i64 0),(.slice none 0 0),(.slice none 0 0)]):=gO k_
theorem jo:TI ya 388 9 72 (.agg #[(.int .i64 0),(.int .i64 0),(.int .i64 0),(.bool false),(.int .i64 0),(.int .i64 0),(.int .i64 0),(.int .i64 0),(.int .i64 0)]):=gO k_
theorem S6:TI ya 389 1 24 (.slice none 0 0):=gO k_
theorem Lz:TI ya 391 3 40 (.agg #[(.pointer none),(.slice none 0 0),(.int .i64 0)]):=gO k_
theorem Dx:TI ya 392 1 8 (.pointer none):=gO k_
theorem LA:TI ya 395 192 1536 (.agg (List.replicate 64 [(.int .i64 0),(.int .i64 0),(.int .u64 0)]).flatten.toArray):=gO k_
theorem GO:TI ya 399 1 8 (.pointer none):=gO k_
theorem LB:TI ya 401 64 512 (.agg (List.replicate 64 (.int .i64 0)).toArray):=gO k_
theorem LC:TI ya 409 5 88 (.agg #[(.pointer none),(.slice none 0 0),(.slice none 0 0),(.slice none 0 0),(.int .i64 0)]):=gO k_
theorem jJ:TI ya 410 1 8 (.pointer none):=gO k_
theorem LD:TI ya 412 2 16 (.agg #[(.pointer none),(.pointer none)]):=gO k_
theorem LF:TI ya 420 2 16 (.agg #[(.pointer none),(.pointer none)]):=gO k_
theorem S7:TI ya 422 7 56 (.agg #[(.pointer none),(.pointer none),(.int .i64 0),(.int .i64 0),(.int .i64 0),(.int .i64 0),(.int .i64 0)]):=gO k_
theorem F9:j3 ya 41 [(0,1),(1,1),(2,1),(3,1)]:=⟨_,underlying41,fun w=>by simp[TI.size ti2,TI.size iX]⟩
theorem Kt:j3 ya 43 [(0,1),(1,1),(2,4),(6,1)]:=⟨_,xm,fun w=>by simp[TI.size ti2,TI.size gq,TI.size iX,TI.size zG]⟩
theorem abF:j3 ya 60 [(0,1),(1,1),(2,1)]:=⟨_,G3,fun w=>by simp[TI.size ti2,TI.size gq]⟩
theorem QY:j3 ya 62 [(0,1),(1,3)]:=⟨_,underlying62,fun w=>by simp[TI.size ti2,TI.size zH]⟩
theorem abG:j3 ya 73 [(0,1),(1,1)]:=⟨_,G4,fun w=>by simp[TI.size gq,TI.size iX]⟩
theorem QZ:j3 ya 94 [(0,1),(1,1),(2,1),(3,1)]:=⟨_,DH,fun w=>by simp[TI.size ti2,TI.size gq]⟩
theorem QN:j3 ya 100 [(0,1),(1,1)]:=⟨_,He,fun w=>by simp[TI.size iX,TI.size GP]⟩
theorem abh:j3 ya 102 [(0,1),(1,1),(2,1),(3,1),(4,1),(5,1)]:=⟨_,underlying102,fun w=>by simp[TI.size gq,TI.size kz,TI.size LG]⟩
theorem abi:j3 ya 106 [(0,1),(1,6),(7,1),(8,1)]:=⟨_,Hf,fun w=>by simp[TI.size zB,TI.size Sq,TI.size Sr,TI.size Ls]⟩
theorem abj:j3 ya 108 [(0,1),(1,2),(3,9),(12,1)]:=⟨_,underlying108,fun w=>by simp[TI.size Dr,TI.size Dt,TI.size SJ,TI.size gq]⟩
theorem abk:j3 ya 110 [(0,1),(1,1),(2,1)]:=⟨_,underlying110,fun w=>by simp[TI.size ti2,TI.size gq]⟩
theorem abl:j3 ya 118 [(0,4),(4,1),(5,1),(6,1),(7,1),(8,1),(9,1)]:=⟨_,underlying118,fun w=>by simp[TI.size Su,TI.size Sv,TI.size Sw,TI.size Sy,TI.size iX,TI.size Dy]⟩
theorem abm:j3 ya 138 [(0,1),(1,1)]:=⟨_,underlying138,fun w=>by simp[TI.size gq]⟩
theorem abn:j3 ya 156 [(0,1),(1,1)]:=⟨_,underlying156,fun w=>by simp[TI.size ti2]⟩
theorem abo:j3 ya 158 [(0,1),(1,1),(2,2),(4,1)]:=⟨_,underlying158,fun w=>by simp[TI.size Ln,TI.size gq]⟩
theorem abp:j3 ya 167 [(0,1),(1,1),(2,1),(3,1)]:=⟨_,underlying167,fun w=>by simp[TI.size SX,TI.size SY,TI.size kz]⟩
theorem abq:j3 ya 174 [(0,1),(1,1),(2,1),(3,1),(4,1),(5,1),(6,1)]:=⟨_,underlying174,fun w=>by simp[TI.size GJ,TI.size Lo,TI.size SC,TI.size gq,TI.size S0,TI.size iX]⟩
theorem abr:j3 ya 210 [(0,1)]:=⟨_,underlying210,fun w=>by simp[TI.size Lp]⟩
theorem abt:j3 ya 214 [(0,1),(1,1),(2,1),(3,1),(4,1),(5,1)]:=⟨_,underlying214,fun w=>by simp[TI.size Lq,TI.size GK,TI.size SF,TI.size gq]⟩
theorem abu:j3 ya 225 [(0,1),(1,6),(7,1)]:=⟨_,underlying225,fun w=>by simp[TI.size zB,TI.size Lr,TI.size kz]⟩
theorem abv:j3 ya 231 [(0,1),(1,6),(7,1),(8,1)]:=⟨_,underlying231,fun w=>by simp[TI.size zB,TI.size Lr,TI.size SI,TI.size kz]⟩
theorem abw:j3 ya 234 [(0,1)]:=⟨_,underlying234,fun w=>by simp[TI.size SM]⟩
theorem abx:j3 ya 247 [(0,1),(1,1)]:=⟨_,underlying247,fun w=>by simp[TI.size ti2,TI.size SO]⟩
theorem QO:j3 ya 250 [(0,1),(1,1)]:=⟨_,xl,fun w=>by simp[TI.size ti2,TI.size gq]⟩
theorem aby:j3 ya 254 [(0,1),(1,1),(2,1),(3,1)]:=⟨_,underlying254,fun w=>by simp[TI.size ti2,TI.size gq,TI.size GP]⟩
theorem QT:j3 ya 278 [(0,1),(1,1),(2,1),(3,1),(4,1),(5,1)]:=⟨_,underlying278,fun w=>by simp[TI.size GJ,TI.size SV,TI.size gq]⟩
theorem QU:j3 ya 302 [(0,1),(1,1),(2,1),(3,1)]:=⟨_,underlying302,fun w=>by simp[TI.size GJ,TI.size Lo,TI.size Ls,TI.size kz]⟩
theorem QV:j3 ya 318 [(0,1),(1,1)]:=⟨_,underlying318,fun w=>by simp[TI.size GK,TI.size gq]⟩
theorem abz:j3 ya 359 [(0,1),(1,1),(2,1),(3,1)]:=⟨_,underlying359,fun w=>by simp[TI.size SE,TI.size Lw,TI.size Lx,TI.size LG]⟩
theorem QW:j3 ya 373 [(0,1),(1,1)]:=⟨_,underlying373,fun w=>by simp[TI.size gq]⟩
theorem abA:j3 ya 376 [(0,1),(1,1),(2,13)]:=⟨_,underlying376,fun w=>by simp[TI.size kz,TI.size S1,TI.size GP]⟩
theorem QX:j3 ya 385 [(0,1),(1,1),(2,1),(3,1)]:=⟨_,underlying385,fun w=>by simp[TI.size GK,TI.size gq,TI.size S4,TI.size S5]⟩
theorem abB:j3 ya 391 [(0,1),(1,1),(2,1)]:=⟨_,underlying391,fun w=>by simp[TI.size Lp,TI.size gq,TI.size S6]⟩
theorem abC:j3 ya 409 [(0,1),(1,1),(2,1),(3,1),(4,1)]:=⟨_,underlying409,fun w=>by simp[TI.size gq,TI.size Lw,TI.size kz]⟩
theorem abD:j3 ya 412 [(0,1),(1,1)]:=⟨_,underlying412,fun w=>by simp[TI.size Lx,TI.size jJ]⟩
theorem abE:j3 ya 422 [(0,2),(2,1),(3,1),(4,1),(5,1),(6,1)]:=⟨_,underlying422,fun w=>by simp[TI.size ti2,TI.size gq,TI.size LF]⟩
theorem mixed:ya.follows .mixedOrders=true:=by kernel_rfl
instance tt:TT ya:=⟨mixed,[(2,_),(3,_),(4,_),(5,_),(22,_),(23,_),(27,_),(28,_),(31,_),(35,_),(37,_),(39,_),(41,_),(43,_),(52,_),(54,_),(60,_),(62,_),(68,_),(70,_),(73,_),(78,_),(81,_),(94,_),(100,_),(102,_),(103,_),(104,_),(106,_),(108,_),(110,_),(113,_),(114,_),(115,_),(116,_),(118,_),(122,_),(128,_),(138,_),(152,_),(156,_),(158,_),(167,_),(169,_),(170,_),(171,_),(172,_),(174,_),(179,_),(183,_),(185,_),(188,_),(190,_),(193,_),(195,_),(200,_),(207,_),(208,_),(210,_),(211,_),(212,_),(214,_),(217,_),(223,_),(225,_),(229,_),(231,_),(234,_),(245,_),(247,_),(250,_),(254,_),(267,_),(276,_),(278,_),(291,_),(293,_),(302,_),(318,_),(353,_),(356,_),(359,_),(368,_),(376,_),(381,_),(382,_),(383,_),(385,_),(388,_),(389,_),(391,_),(392,_),(399,_),(409,_),(410,_),(412,_),(420,_),(422,_)],[(2,_,_,_),(3,_,_,_),(4,_,_,_),(5,_,_,_),(23,_,_,_),(27,_,_,_),(28,_,_,_),(31,_,_,_),(32,_,_,_),(35,_,_,_),(37,_,_,_),(39,_,_,_),(41,_,_,_),(43,_,_,_),(52,_,_,_),(54,_,_,_),(60,_,_,_),(62,_,_,_),(68,_,_,_),(70,_,_,_),(73,_,_,_),(78,_,_,_),(81,_,_,_),(94,_,_,_),(100,_,_,_),(102,_,_,_),(103,_,_,_),(104,_,_,_),(106,_,_,_),(108,_,_,_),(110,_,_,_),(113,_,_,_),(114,_,_,_),(115,_,_,_),(116,_,_,_),(118,_,_,_),(122,_,_,_),(128,_,_,_),(138,_,_,_),(156,_,_,_),(158,_,_,_),(167,_,_,_),(169,_,_,_),(170,_,_,_),(171,_,_,_),(172,_,_,_),(174,_,_,_),(179,_,_,_),(183,_,_,_),(185,_,_,_),(188,_,_,_),(190,_,_,_),(195,_,_,_),(200,_,_,_),(208,_,_,_),(210,_,_,_),(211,_,_,_),(212,_,_,_),(214,_,_,_),(223,_,_,_),(225,_,_,_),(227,_,_,_),(229,_,_,_),(231,_,_,_),(232,_,_,_),(234,_,_,_),(245,_,_,_),(247,_,_,_),(250,_,_,_),(254,_,_,_),(267,_,_,_),(276,_,_,_),(278,_,_,_),(291,_,_,_),(293,_,_,_),(302,_,_,_),(318,_,_,_),(323,_,_,_),(353,_,_,_),(356,_,_,_),(359,_,_,_),(371,_,_,_),(373,_,_,_),(374,_,_,_),(376,_,_,_),(381,_,_,_),(382,_,_,_),(383,_,_,_),(385,_,_,_),(388,_,_,_),(389,_,_,_),(391,_,_,_),(392,_,_,_),(395,_,_,_),(399,_,_,_),(401,_,_,_),(409,_,_,_),(410,_,_,_),(412,_,_,_),(420,_,_,_),(422,_,_,_)],⟨zQ,yg,mC,underlying5,underlying22,BC,yw,pQ,underlying31,sK,yd,yo,underlying41,xm,xg,xh,G3,underlying62,underlying68,underlying70,G4,n9,BD,DH,He,underlying102,underlying103,underlying104,Hf,underlying108,underlying110,underlying113,underlying114,underlying115,underlying116,underlying118,underlying122,y8,underlying138,Hg,underlying156,underlying158,underlying167,yq,underlying170,underlying171,y0,underlying174,underlying179,underlying183,underlying185,underlying188,underlying190,underlying193,underlying195,underlying200,underlying207,underlying208,underlying210,Hh,sJ,underlying214,DF,zK,underlying225,zL,underlying231,underlying234,underlying245,underlying247,xl,underlying254,zM,BA,underlying278,underlying291,underlying293,underlying302,underlying318,underlying353,underlying356,underlying359,underlying368,underlying376,BB,pP,zN,underlying385,underlying388,yk,underlying391,underlying392,zO,underlying409,nj,underlying412,yp,underlying422,trivial⟩,⟨ti2,gq,GP,ti5,SJ,Ls,SX,SY,zD,S0,kz,iX,zG,o8,aex,aey,zH,w5,aez,aeA,GQ,LG,aeB,Dy,Dr,zB,Sq,Sr,Dt,Ss,Du,Su,Sv,Sw,Sy,SA,aen,uA,GF,Ln,GG,SB,GH,GJ,Lo,SC,SD,aeo,aep,aeq,aer,aes,aet,SE,Lp,Lq,GK,SF,SG,Lr,SH,Dv,SI,SK,SM,SN,SO,SS,qp,zC,SU,SV,GL,aeu,aev,GM,Lu,SZ,Lw,Lx,Ly,Dw,zF,S1,S3,aew,S4,S5,GN,jo,S6,Lz,Dx,LA,GO,LB,LC,jJ,LD,LF,S7,trivial⟩⟩
variable(hb n:Nat)(iv bv:Value)(x y:Int)(ps:List (Option Nat))(fQ:List gH)(pl:List Nat)(w:World)
theorem Qh :
 CR ya 243 (Z2 x) w (fun r w' => r = .bool false/\gx [] w w'):=by
 refine en func243 ntmps243 ?_
 have a:=yu w
 refine iT a 14 ?_
 refine gf (v:=Zn) results243 rfl ?_
 exact⟨rfl,a.gA s_⟩
theorem VN :
 CR ya 172 (Z0 x y) w (fun r w' => r = .int .i64 (kg x y)/\gx [] w w'):=by
 refine en func172 ntmps172 ?_
 have i:=yu w
 refine fR i 8 ?_
 refine cl (Qh x w) ?_
 rintro _ c ⟨rfl,d⟩
 have b:=yr i d
 refine fK b 6 ?_
 refine cl (Qh y c) ?_
 rintro _ f ⟨rfl,e⟩
 have a:=yr b e
 refine fK a 26 ?_
 by_cases g:(x:Int)<(y:Int)
 . refine fP a 11 ?_
   refine gf (v:=Zx) results172 rfl ?_
   exact⟨gm (by simp only[kg];(repeat' split)<;>omega),a.gA s_⟩
 . refine fK a 11 ?_
   by_cases h:(x:Int)>(y:Int)
   . refine fP a 11 ?_
     refine gf (v:=pZ) results172 rfl ?_
     exact⟨gm (by simp only[kg];(repeat' split)<;>omega),a.gA s_⟩
   . refine fP a 12 ?_
     refine gf (v:=Zc) results172 rfl ?_
     exact⟨gm (by simp only[kg];(repeat' split)<;>omega),a.gA s_⟩
theorem Qg :
 CR ya 237 (Z2 x) w (fun r w' => r = .bool false/\gx [] w w'):=by
 refine en func237 ntmps237 ?_
 have a:=yu w
 refine iT a 14 ?_
 refine gf (v:=Zn) results237 rfl ?_
 exact⟨rfl,a.gA s_⟩
theorem VM :
 CR ya 173 (Z0 x y) w (fun r w' => r = .int .i64 (kg x y)/\gx [] w w'):=by
 refine en func173 ntmps173 ?_
 have i:=yu w
 refine fR i 8 ?_
 refine cl (Qg x w) ?_
 rintro _ c ⟨rfl,d⟩
 have b:=yr i d
 refine fK b 6 ?_
 refine cl (Qg y c) ?_
 rintro _ f ⟨rfl,e⟩
 have a:=yr b e
 refine fK a 26 ?_
 by_cases g:(x:Int)<(y:Int)
 . refine fP a 11 ?_
   refine gf (v:=Zx) results173 rfl ?_
   exact⟨gm (by simp only[kg];(repeat' split)<;>omega),a.gA s_⟩
 . refine fK a 11 ?_
   by_cases h:(x:Int)>(y:Int)
   . refine fP a 11 ?_
     refine gf (v:=pZ) results173 rfl ?_
     exact⟨gm (by simp only[kg];(repeat' split)<;>omega),a.gA s_⟩
   . refine fP a 12 ?_
     refine gf (v:=Zc) results173 rfl ?_
     exact⟨gm (by simp only[kg];(repeat' split)<;>omega),a.gA s_⟩
theorem aau :
 CR ya 152 (xE x) w (fun r w' => r = .bool false/\gx [] w w'):=by
 refine en func152 ntmps152 ?_
 have a:=yu w
 refine iT a 14 ?_
 refine gf (v:=Zn) results152 rfl ?_
 exact⟨rfl,a.gA s_⟩
theorem aa0(v:Value)(xs:List Int)(w:World)(hv:Ints .i64 (fun _=>True) w v xs) :
 CR ya 171 #[v] w (fun r w' => r = .int .i64 (qm xs)/\gx [] w w'):=by
 have u:=hv.len
 refine en func171 ntmps171 ?_
 have p:=yu w
 refine fR p 14 ?_
 refine jY (v:=v) rfl rfl yd hv (gF p 4 ?_)
 refine lp (α:=Nat) (fun k=>[(3,Zc),(6,v),(7,(Za xs.length)),(8,(Za k))]) (fun k w1=>St [(w,[])] [] w1/\k<=xs.length/\∀ j x,j<k->xs[j]? = some x->x=0) (fun k=>xs.length-k) 0 ⟨rfl,rfl,rfl,gm rO,trivial⟩ (⟨p,o_,fun j x h=>absurd h o_⟩) ?_
 rintro k c d ⟨o,t,s⟩
 refine fR o 2 ?_
 by_cases e:(k:Int)<(xs.length:Int)
 . obtain⟨x,q⟩:=oW (show k<xs.length by omega)
   refine fK o 11 ?_
   refine CI (i:=(k:Int)) (el:=x) rfl rfl rfl yd gq (St.Fu o s_ hv) o_ (by rw[show ((k:Nat):Int).toNat=k by omega];exact q) ?_
   intro f g a b l
   have m:=b.i64
   refine ld rfl rfl yg rfl a (fK o 7 ?_)
   by_cases n:(x:Int)=0
   . refine fP o 11 ?_
     refine tN (?_)
     exact again (k+1) ⟨rfl,rfl,rfl,gm rO,trivial⟩ (⟨o,o_,Qy s q o_⟩) (by show (xs.length-(k+1):Nat)<xs.length-k;omega)
   . refine fP o 16 ?_
     refine gf (v:=(Za x)) G5 rfl ?_
     exact⟨gm (Qv s q o_).symm,o.gA s_⟩
 . refine fP o 17 ?_
   refine gf (v:=Zc) G5 rfl ?_
   exact⟨gm (Qw s o_).symm,o.gA s_⟩
theorem C5(a b:gH)(w:World) :
 CR ya 340 #[(MU a),(MU b)] w (fun r w' => r = .int .i64 (qF a b)/\gx [] w w'):=by
 refine en func340 ntmps340 ?_
 have F:=yu w
 refine fR F 2 ?_
 refine ir F (fun s t u x h=>?_)
 refine ir h (fun z A B C c=>?_)
 refine gF c 4 ?_
 refine kq mixed [([0,1,2,3,5,6,7,8,4],[6,8])] [9,10,11,12] c (fun j d=>jx ?_)
 refine fK d 8 ?_
 refine cl (VN a.key b.key j) ?_
 rintro _ k ⟨rfl,l⟩
 have e:=yr d l
 refine fP e 1 ?_
 refine jZ (kE ?_)
 refine cl (VM (a.ix:Int) (b.ix:Int) k) ?_
 rintro _ D ⟨rfl,m⟩
 have n:=yr e m
 refine jW (vs:=(Zr (kg a.key b.key) (kg (a.ix:Int) (b.ix:Int)))) (cs:=(Zr (kg a.key b.key) (kg (a.ix:Int) (b.ix:Int)))) rfl rfl yd gq rfl (by simp[Value.cells]) rfl rfl rfl n (fun o p E G f=>cl (aa0 (EL o) [kg a.key b.key,kg (a.ix:Int) (b.ix:Int)] p (xq f (i:=0) rfl (fun y I=>by simp only[zg,nr,or_false]at I;rcases I with rfl|rfl<;>exact Ob _ _)).any) ?_)
 rintro _ H ⟨rfl,q⟩
 have g:=yr f q
 refine fP g 4 ?_
 refine gf (v:=(Za (qm [kg a.key b.key,kg (a.ix:Int) (b.ix:Int)]))) results340 rfl ?_
 exact⟨gm (Qz a b),g.gA s_⟩
theorem CF(d:Own (Zj hb n iv bv fQ ps pl) w) :
 CR ya 268 (Zh hb) w (fun r w' => r = .bool true/\fV (Zj hb n iv bv fQ ps pl) w w' (Zj hb n iv bv fQ ps pl)):=by
 refine en func268 ntmps268 ?_
 have b:=(yt d).unpack
 refine fR b 8 ?_
 refine lI (a:=some ⟨hb,0,none⟩) (c:=true) rfl rfl rfl Hh rfl (fK b 6 ?_)
 refine xV (a:=⟨hb,0,none⟩) rfl rfl rfl Hh GN (fP b 5 ?_)
 refine gf (v:=Zg) results268 rfl ?_
 exact⟨rfl,yj (yc [_,_,_,_] _ b)⟩
theorem OZ(b:Own (Zj hb n iv bv fQ ps pl) w)(i:Nat)(hi:i<n) :
 CR ya 284 (Zm hb i) w (fun r w' => r = .bool true/\fV (Zj hb n iv bv fQ ps pl) w w' (Zj hb n iv bv fQ ps pl)):=by
 refine en func284 ntmps284 ?_
 have a:=(yt b).unpack
 refine fR a 8 ?_
 refine cmp rfl rfl rfl (ow o_) (fK a 6 ?_)
 refine cmp rfl rfl rfl (p8 o_) (fP a 5 ?_)
 refine gf (v:=Zg) results284 rfl ?_
 exact⟨rfl,yj (yc [_,_,_,_] _ a)⟩
theorem O3(l:Own (Zj hb n iv bv fQ ps pl) w)(j:jA n ps pl)(i:Nat)(hi:i<n) :
 CR ya 285 (Zm hb i) w (fun r w' => r = .int .i64 (((fJ pl i:Nat):Int)-1)/\fV (Zj hb n iv bv fQ ps pl) w w' (Zj hb n iv bv fQ ps pl)):=by
 have m:=j.at hi
 have t:=j.room
 have s:=j.n
 have u:=j.val i
 refine en func285 ntmps285 ?_
 have h:=(yt l).unpack
 refine fR h 12 ?_
 refine quo (a:=(i:Int)) (b:=64) (e:=((i / 64:Nat):Int)) rfl rfl rfl d_ (wT 64 o_) (iY (cf:=iI) (k:=(i / 64)) (i:=((i / 64:Nat):Int)) rfl rfl rfl zN GO (iN h 2 rfl) o_ rfl (gz om) ?_)
 obtain⟨f,d⟩:∃ q,(fJ ps (i / 64))=q:=⟨_,rfl⟩
 refine fK h 8 ?_
 rcases f with _|g
 . skip
   refine mc (a:=(fJ ps (i / 64)).map fun b=>⟨b,0,none⟩) (c:=true) rfl rfl rfl zO (by rw[d];rfl) (fP h 10 ?_)
   refine gf (v:=Zx) results285 rfl ?_
   exact⟨gm (by rw[j.zero (i / 64) ((gz m).trans (congrArg some d)) i rfl];rfl),yj (yc [_,_,_,_] _ h)⟩
 . skip
   refine mc (a:=(fJ ps (i / 64)).map fun b=>⟨b,0,none⟩) (c:=false) rfl rfl rfl zO (by rw[d];rfl) (fK h 9 ?_)
   refine rem (a:=(i:Int)) (b:=64) (e:=((i%64:Nat):Int)) rfl rfl rfl d_ (Df 64) (wN rfl (Bi d) (ic (o:=0) (o' := i%64*1+0) (i:=((i%64:Nat):Int)) rfl rfl rfl Hj gq o_ (by simp only[nG];omega) (ld rfl rfl yg rfl (Bz h (i:=3) rfl f_ d_ (by have p:=j.room;first|omega|(simp only[ji,gB];omega)) ((gz o_).trans (congrArg some d)) rfl) (fP h 5 ?_))))
   refine gf (v:=(Za ((((fJ pl i):Nat):Int)-1))) results285 rfl ?_
   exact⟨gm o_,yj (yc [_,_,_,_] _ h)⟩
theorem Fs(N:Own (Zj hb n iv bv fQ ps pl) w)(F:jA n ps pl)(i:Nat)(hi:i<n)(v:Int)(p:Nat)(hv:v+1=(p:Int))(hp:p<=65536) :
 CR ya 270 (Zv hb i v) w (fun r w' => r = .tuple #[]/\∃ K,K.length=ps.length/\jA n K (ji pl i p)/\fV (Zj hb n iv bv fQ ps pl) w w' (Zj hb n iv bv fQ K (ji pl i p))):=by
 have I:=F.at hi
 have Q:=F.room
 have P:=F.n
 have R:=F.val i
 refine en func270 ntmps270 ?_
 have G:=(yt N).unpack
 refine fR G 8 ?_
 refine quo (a:=(i:Int)) (b:=64) (e:=((i / 64:Nat):Int)) rfl rfl rfl d_ (wT 64 o_) ?_
 obtain⟨s,g⟩:∃ q,(fJ ps (i / 64))=q:=⟨_,rfl⟩
 refine fK G 2 ?_
 rcases s with _|t
 . skip
   refine mc (a:=(fJ ps (i / 64)).map fun b=>⟨b,0,none⟩) (c:=true) rfl rfl rfl zO (by rw[g];rfl) (fK G 9 ?_)
   refine quo (a:=(i:Int)) (b:=64) (e:=((i / 64:Nat):Int)) rfl rfl rfl d_ (wT 64 o_) (iR G (fun d z A B j=>?_))
   refine fK j 1 ?_
   refine iQ (f:=(fun _=>(some d))) 3 j (fun C k=>?_)
   have u:=yf [0,4,1,2,3] k
   have L:ps[i / 64]? = some none:=(gz I).trans (congrArg some g)
   have x:=St.N1 u L (F.Vr L)
   have h:=x
   have J:jA n (ps.set (i / 64) (some d)) pl:=F.made
   have H:(ps.set (i / 64) (some d))[i / 64]? = some (some d):=by rw[Ab,if_pos rfl,if_pos I]
   have O:i / 64<(ps.set (i / 64) (some d)).length:=by rw[List.length_set];exact I
   refine fK k 8 ?_
   refine quo (a:=(i:Int)) (b:=64) (e:=((i / 64:Nat):Int)) rfl rfl rfl d_ (wT 64 o_) (fK h 3 ?_)
   refine rem (a:=(i:Int)) (b:=64) (e:=((i%64:Nat):Int)) rfl rfl rfl d_ (Df 64) (fK h 1 ?_)
   refine ar (e:=(p:Int)) rfl rfl rfl rfl (by rw[kP o_];exact hv) (wN rfl (Bi (iS H)) (ic (o:=0) (o' := i%64*1+0) (i:=((i%64:Nat):Int)) rfl rfl rfl Hj gq o_ (by simp only[nG];omega) (rC (f:=(fun _=>p)) (L' := [gN fU 401 64 (ps.set (i / 64) (some d)) (fO pl i (fun _=>p)),blk hb 385 (rN hb n iv bv),fL gH.cells iv 250 2 fQ,fL iI bv 399 1 (ps.set (i / 64) (some d))]) 0 rfl rfl rfl rfl gq rfl rfl h rfl f_ d_ (by have M:=F.room;first|omega|(simp only[ji,gB];omega)) H rfl rfl rfl (fun D l=>fP l 1 ?_))))
   refine jc results270 ?_
   have y:=yf [1,2,3,0] l
   exact⟨rfl,ps.set (i / 64) (some d),s_,J.set hi o_ H,yj (yc [_,_,_,_] _ y)⟩
 . skip
   refine mc (a:=(fJ ps (i / 64)).map fun b=>⟨b,0,none⟩) (c:=false) rfl rfl rfl zO (by rw[g];rfl) ?_
   have J:=F
   have H:ps[i / 64]? = some (some t):=(gz I).trans (congrArg some g)
   have O:=I
   refine fK G 11 ?_
   refine quo (a:=(i:Int)) (b:=64) (e:=((i / 64:Nat):Int)) rfl rfl rfl d_ (wT 64 o_) (fK G 3 ?_)
   refine rem (a:=(i:Int)) (b:=64) (e:=((i%64:Nat):Int)) rfl rfl rfl d_ (Df 64) (fK G 1 ?_)
   refine ar (e:=(p:Int)) rfl rfl rfl rfl (by rw[kP o_];exact hv) (wN rfl (Bi g) (ic (o:=0) (o' := i%64*1+0) (i:=((i%64:Nat):Int)) rfl rfl rfl Hj gq o_ (by simp only[nG];omega) (rC (f:=(fun _=>p)) (L' := [blk hb 385 (rN hb n iv bv),fL gH.cells iv 250 2 fQ,fL iI bv 399 1 ps,gN fU 401 64 ps (fO pl i (fun _=>p))]) 3 rfl rfl rfl rfl gq rfl rfl G rfl f_ d_ (by have M:=F.room;first|omega|(simp only[ji,gB];omega)) H rfl rfl rfl (fun E m=>fP m 1 ?_))))
   refine jc results270 ?_
   exact⟨rfl,ps,s_,J.set hi o_ H,yj (yc [_,_,_,_] _ m)⟩
theorem Jp(A:Own (Zj hb n iv bv fQ ps pl) w)(y:Hp n fQ pl)(x:jA n ps pl)(p q:Nat)(hp:p<fQ.length)(E:q<fQ.length) :
 CR ya 269 (Zv hb p q) w (fun r w' => r = .tuple #[]/\∃ v,v.length=ps.length/\jA n v (ji (ji pl (fJ (iK fQ p q) p).ix (p+1)) (fJ (iK fQ p q) q).ix (q+1))/\fV (Zj hb n iv bv fQ ps pl) w w' (Zj hb n iv bv (iK fQ p q) v (ji (ji pl (fJ (iK fQ p q) p).ix (p+1)) (fJ (iK fQ p q) q).ix (q+1)))):=by
 have K:=x.n
 have J:=y.len
 have F:=ni fQ p q
 have z:∀ j,j<fQ.length->(fJ (iK fQ p q) j).ix<n:=fun j D=>(y.swap hp E).ix j (by rw[F];exact D)
 refine en func269 ntmps269 ?_
 have G:=(yt A).unpack
 refine ry G 27 fun m h=>?_
 refine iQ (f:=(fun _=>(fJ fQ q))) 1 h (fun o a=>?_)
 refine fK a 1 ?_
 refine iQ (f:=(fun _=>(fJ fQ p))) 1 a (fun i b=>?_)
 have k:=b
 have c:=yc [_,_,_,_] _ k
 refine fK b 14 ?_
 refine cl (Fs hb n iv bv ps (iK fQ p q) pl i (ye c 0 rfl) x ((fJ (iK fQ p q) p).ix) (z _ (by assumption)) (p:Int) (p+1) o_ o_) ?_
 rintro _ l ⟨rfl,H,s,B,ht⟩
 have d:=(yi c ht)
 have e:=yc [_,_,_,_] _ d
 refine fK d 13 ?_
 refine cl (Fs hb n iv bv H (iK fQ p q) (ji pl ((fJ (iK fQ p q) p).ix) (p+1)) l (ye e 0 rfl) B ((fJ (iK fQ p q) q).ix) (z _ (by assumption)) (q:Int) (q+1) o_ o_) ?_
 rintro _ t ⟨rfl,I,u,C,ht⟩
 have g:=(yi e ht)
 refine fP g 1 ?_
 refine jc results269 ?_
 exact⟨rfl,I,o_,C,yj (yc [_,_,_,_] _ g)⟩
theorem OV(m:Own (Zj hb n iv bv fQ ps pl) w)(q:Hp n fQ pl)(o:jA n ps pl)(p:Nat)(hp:p<fQ.length) :
 CR ya 321 (Zm hb p) w (fun r w' => r = .int .i64 (rS fQ p)/\fV (Zj hb n iv bv fQ ps pl) w w' (Zj hb n iv bv fQ ps pl)):=by
 have t:=o.n
 have s:=q.len
 have u:pa p<fQ.length:=by simp only[pa];omega
 refine en func321 ntmps321 ?_
 have l:=(yt m).unpack
 refine fR l 9 ?_
 refine quo (a:=(p:Int)-1) (b:=2) (e:=((pa p:Nat):Int)) rfl rfl rfl d_ (paN o_) (gC l 7 fun g c=>?_)
 by_cases h:(p:Int)>0
 . refine fK c 16 ?_
   refine cl (C5 (fJ fQ p) (fJ fQ (pa p)) g) ?_
   rintro _ j ⟨rfl,i⟩
   have d:=yr c i
   by_cases f:(qF (fJ fQ p) (fJ fQ (pa p)):Int)<0
   . refine fP d 13 ?_
     refine gf (v:=(Za ((pa p:Nat):Int))) results321 rfl ?_
     exact⟨gm (by unfold rS;rw[if_pos (show 0<p/\iF (fJ fQ p) (fJ fQ (pa p)) from⟨o_,oC.1 f⟩)]),yj (yc [_,_,_,_] _ d)⟩
   . refine fP d 13 ?_
     refine gf (v:=Zx) results321 rfl ?_
     exact⟨gm (by unfold rS;rw[if_neg (show ¬ (0<p/\iF (fJ fQ p) (fJ fQ (pa p))) from fun k=>f (oC.2 k.2))]),yj (yc [_,_,_,_] _ d)⟩
 . refine fP c 30 ?_
   refine gf (v:=Zx) results321 rfl ?_
   exact⟨gm (by unfold rS;rw[if_neg (show ¬ (0<p/\iF (fJ fQ p) (fJ fQ (pa p))) from fun k=>h o_)]),yj (yc [_,_,_,_] _ c)⟩
theorem OY(Q:Own (Zj hb n iv bv fQ ps pl) w)(S:Hp n fQ pl)(R:jA n ps pl)(p:Nat)(hp:p<fQ.length) :
 CR ya 322 (Zm hb p) w (fun r w' => r = .int .i64 (ou fQ p)/\fV (Zj hb n iv bv fQ ps pl) w w' (Zj hb n iv bv fQ ps pl)):=by
 have U:=R.n
 have T:=S.len
 refine en func322 ntmps322 ?_
 have P:=(yt Q).unpack
 refine rm P 18 ?_
 refine qq 3 (iB (fR P 20 ?_))
 refine ar (e:=((2*p:Nat):Int)) rfl rfl rfl rfl je (ar (e:=((2*p+1:Nat):Int)) rfl rfl rfl rfl je (fK P 1 ?_))
 refine ar (e:=((2*p+1:Nat):Int)) rfl rfl rfl rfl je (gC P 10 fun s g=>?_)
 refine iV (m:=fQ.length) 1 rfl rfl pP g rfl ?_
 by_cases k:((2*p+1:Nat):Int)<(fQ.length:Int)
 . refine fK g 16 ?_
   refine cl (C5 (fJ fQ (2*p+1)) (fJ fQ p) s) ?_
   rintro _ G ⟨rfl,t⟩
   have b:=yr g t
   by_cases h:(qF (fJ fQ (2*p+1)) (fJ fQ p):Int)<0
   . refine fP b 15 ?_
     refine tN (?_)
     refine iB (fR b 20 ?_)
     refine ar (e:=((2*p:Nat):Int)) rfl rfl rfl rfl je (ar (e:=((2*p+1:Nat):Int)) rfl rfl rfl rfl je (fK b 1 ?_))
     refine ar (e:=((2*p+2:Nat):Int)) rfl rfl rfl rfl je (gC b 10 fun u c=>?_)
     refine iV (m:=fQ.length) 1 rfl rfl pP c rfl ?_
     by_cases x:((2*p+2:Nat):Int)<(fQ.length:Int)
     . refine fK c 16 ?_
       refine cl (C5 (fJ fQ (2*p+2)) (fJ fQ (2*p+1)) u) ?_
       rintro _ H ⟨rfl,y⟩
       have a:=yr c y
       by_cases l:(qF (fJ fQ (2*p+2)) (fJ fQ (2*p+1)):Int)<0
       . refine fP a 15 ?_
         refine tN (?_)
         refine iB (fR a 17 ?_)
         by_cases I:((2*p+2:Nat):Int)=(p:Int)
         . refine fP a 11 ?_
           refine gf (v:=Zx) qK rfl ?_
           exact(show False by omega).elim
         . refine fP a 13 ?_
           refine gf (v:=(Za ((2*p+2:Nat):Int))) qK rfl ?_
           exact⟨gm (by unfold ou jE;simp only;rw[if_pos (show 2*p+1<fQ.length/\iF (fJ fQ (2*p+1)) (fJ fQ p) from⟨o_,oC.1 h⟩),if_pos (show 2*p+2<fQ.length/\iF (fJ fQ (2*p+2)) (fJ fQ (2*p+1)) from⟨o_,oC.1 l⟩),if_neg o_]),yj (yc [_,_,_,_] _ a)⟩
       . refine fP a 12 ?_
         refine tN (?_)
         refine iB (fR a 17 ?_)
         by_cases J:((2*p+1:Nat):Int)=(p:Int)
         . refine fP a 11 ?_
           refine gf (v:=Zx) qK rfl ?_
           exact(show False by omega).elim
         . refine fP a 13 ?_
           refine gf (v:=(Za ((2*p+1:Nat):Int))) qK rfl ?_
           exact⟨gm (by unfold ou jE;simp only;rw[if_pos (show 2*p+1<fQ.length/\iF (fJ fQ (2*p+1)) (fJ fQ p) from⟨o_,oC.1 h⟩),if_neg (show ¬ (2*p+2<fQ.length/\iF (fJ fQ (2*p+2)) (fJ fQ (2*p+1))) from fun F=>l (oC.2 F.2)),if_neg o_]),yj (yc [_,_,_,_] _ a)⟩
     . refine fP c 29 ?_
       refine tN (?_)
       refine iB (fR c 17 ?_)
       by_cases K:((2*p+1:Nat):Int)=(p:Int)
       . refine fP c 11 ?_
         refine gf (v:=Zx) qK rfl ?_
         exact(show False by omega).elim
       . refine fP c 13 ?_
         refine gf (v:=(Za ((2*p+1:Nat):Int))) qK rfl ?_
         exact⟨gm (by unfold ou jE;simp only;rw[if_pos (show 2*p+1<fQ.length/\iF (fJ fQ (2*p+1)) (fJ fQ p) from⟨o_,oC.1 h⟩),if_neg (show ¬ (2*p+2<fQ.length/\iF (fJ fQ (2*p+2)) (fJ fQ (2*p+1))) from fun F=>x o_),if_neg o_]),yj (yc [_,_,_,_] _ c)⟩
   . refine fP b 12 ?_
     refine tN (?_)
     refine iB (fR b 20 ?_)
     refine ar (e:=((2*p:Nat):Int)) rfl rfl rfl rfl je (ar (e:=((2*p+1:Nat):Int)) rfl rfl rfl rfl je (fK b 1 ?_))
     refine ar (e:=((2*p+2:Nat):Int)) rfl rfl rfl rfl je (gC b 10 fun z i=>?_)
     refine iV (m:=fQ.length) 1 rfl rfl pP i rfl ?_
     by_cases A:((2*p+2:Nat):Int)<(fQ.length:Int)
     . refine fK i 16 ?_
       refine cl (C5 (fJ fQ (2*p+2)) (fJ fQ p) z) ?_
       rintro _ L ⟨rfl,B⟩
       have d:=yr i B
       by_cases o:(qF (fJ fQ (2*p+2)) (fJ fQ p):Int)<0
       . refine fP d 15 ?_
         refine tN (?_)
         refine iB (fR d 17 ?_)
         by_cases M:((2*p+2:Nat):Int)=(p:Int)
         . refine fP d 11 ?_
           refine gf (v:=Zx) qK rfl ?_
           exact(show False by omega).elim
         . refine fP d 13 ?_
           refine gf (v:=(Za ((2*p+2:Nat):Int))) qK rfl ?_
           exact⟨gm (by unfold ou jE;simp only;rw[if_neg (show ¬ (2*p+1<fQ.length/\iF (fJ fQ (2*p+1)) (fJ fQ p)) from fun F=>h (oC.2 F.2)),if_pos (show 2*p+2<fQ.length/\iF (fJ fQ (2*p+2)) (fJ fQ p) from⟨o_,oC.1 o⟩),if_neg o_]),yj (yc [_,_,_,_] _ d)⟩
       . refine fP d 12 ?_
         refine tN (?_)
         refine iB (iT d 28 ?_)
         refine gf (v:=Zx) qK rfl ?_
         exact⟨gm (by unfold ou jE;simp only;rw[if_neg (show ¬ (2*p+1<fQ.length/\iF (fJ fQ (2*p+1)) (fJ fQ p)) from fun F=>h (oC.2 F.2)),if_neg (show ¬ (2*p+2<fQ.length/\iF (fJ fQ (2*p+2)) (fJ fQ p)) from fun F=>o (oC.2 F.2)),if_pos rfl]),yj (yc [_,_,_,_] _ d)⟩
     . refine fP i 29 ?_
       refine tN (?_)
       refine iB (iT i 28 ?_)
       refine gf (v:=Zx) qK rfl ?_
       exact⟨gm (by unfold ou jE;simp only;rw[if_neg (show ¬ (2*p+1<fQ.length/\iF (fJ fQ (2*p+1)) (fJ fQ p)) from fun F=>h (oC.2 F.2)),if_neg (show ¬ (2*p+2<fQ.length/\iF (fJ fQ (2*p+2)) (fJ fQ p)) from fun F=>A o_),if_pos rfl]),yj (yc [_,_,_,_] _ i)⟩
 . refine fP g 29 ?_
   refine tN (?_)
   refine iB (fR g 20 ?_)
   refine ar (e:=((2*p:Nat):Int)) rfl rfl rfl rfl je (ar (e:=((2*p+1:Nat):Int)) rfl rfl rfl rfl je (fK g 1 ?_))
   refine ar (e:=((2*p+2:Nat):Int)) rfl rfl rfl rfl je (gC g 10 fun C j=>?_)
   refine iV (m:=fQ.length) 1 rfl rfl pP j rfl ?_
   by_cases D:((2*p+2:Nat):Int)<(fQ.length:Int)
   . refine fK j 16 ?_
     refine cl (C5 (fJ fQ (2*p+2)) (fJ fQ p) C) ?_
     rintro _ N ⟨rfl,E⟩
     have f:=yr j E
     by_cases q:(qF (fJ fQ (2*p+2)) (fJ fQ p):Int)<0
     . refine fP f 15 ?_
       refine tN (?_)
       refine iB (fR f 17 ?_)
       by_cases O:((2*p+2:Nat):Int)=(p:Int)
       . refine fP f 11 ?_
         refine gf (v:=Zx) qK rfl ?_
         exact(show False by omega).elim
       . refine fP f 13 ?_
         refine gf (v:=(Za ((2*p+2:Nat):Int))) qK rfl ?_
         exact⟨gm (by unfold ou jE;simp only;rw[if_neg (show ¬ (2*p+1<fQ.length/\iF (fJ fQ (2*p+1)) (fJ fQ p)) from fun F=>k o_),if_pos (show 2*p+2<fQ.length/\iF (fJ fQ (2*p+2)) (fJ fQ p) from⟨o_,oC.1 q⟩),if_neg o_]),yj (yc [_,_,_,_] _ f)⟩
     . refine fP f 12 ?_
       refine tN (?_)
       refine iB (iT f 28 ?_)
       refine gf (v:=Zx) qK rfl ?_
       exact⟨gm (by unfold ou jE;simp only;rw[if_neg (show ¬ (2*p+1<fQ.length/\iF (fJ fQ (2*p+1)) (fJ fQ p)) from fun F=>k o_),if_neg (show ¬ (2*p+2<fQ.length/\iF (fJ fQ (2*p+2)) (fJ fQ p)) from fun F=>q (oC.2 F.2)),if_pos rfl]),yj (yc [_,_,_,_] _ f)⟩
   . refine fP j 29 ?_
     refine tN (?_)
     refine iB (iT j 28 ?_)
     refine gf (v:=Zx) qK rfl ?_
     exact⟨gm (by unfold ou jE;simp only;rw[if_neg (show ¬ (2*p+1<fQ.length/\iF (fJ fQ (2*p+1)) (fJ fQ p)) from fun F=>k o_),if_neg (show ¬ (2*p+2<fQ.length/\iF (fJ fQ (2*p+2)) (fJ fQ p)) from fun F=>D o_),if_pos rfl]),yj (yc [_,_,_,_] _ j)⟩
theorem adq(D E hb n:Nat)(iv bv:Value)(ps:List (Option Nat))(fQ:List gH)(pl:List Nat)(p:Nat)(w:World)(Q:Own (vU D p E hb n iv bv fQ ps pl) w)(S:Hp n fQ pl)(R:jA n ps pl)(hp:p<fQ.length)(P:tP fQ p) :
 CR ya 320 #[(MW hb),(Zb D),(Zb E)] w (fun r w' => r = .tuple #[]/\∃ (p2:Nat),∃ C ys B,oO n fQ ys ps C B/\p2<ys.length/\uL ys p2/\fV (vU D p E hb n iv bv fQ ps pl) w w' (vU D p2 E hb n iv bv ys C B)):=by
 refine en func320 ntmps320 ?_
 have M:=(yt Q).unpack
 have J:=oO.refl S R
 have i:=yf [2,3,4,5,0,1] M
 have b:=yc [_,_,_,_] _ i
 refine fR M 4 ?_
 refine mW (fi:=(Zf hb)) (ca:=[]) rfl rfl rfl eN (OV hb n iv bv ps fQ pl w (ye b 0 rfl) J.hp J.gP p (by first|omega|(rw[ni];omega))) ?_
 rintro _ x ⟨rfl,ht⟩
 have c:=(yi b ht)
 have j:=yf [4,5,0,1,2,3] c
 refine gF c 4 ?_
 refine lp (α:=List gH×List (Option Nat)×List Nat×Nat×Int) (fun(ys,C,B,p2,q)=>[(0,(MW hb)),(1,(Zb D)),(2,(Zb E)),(4,(Za q))]) (fun(ys,C,B,p2,q) w1=>St [(w,(vU D p E hb n iv bv fQ ps pl).gJ)] (Il D p2 E hb n iv bv ys C B) w1/\oO n fQ ys ps C B/\p2<ys.length/\tP ys p2/\q=rS ys p2) (fun(ys,C,B,p2,q)=>p2) (fQ,ps,pl,p,(rS fQ p)) ⟨rfl,rfl,rfl,gm rO,trivial⟩ (⟨j,J,hp,P,rfl⟩) ?_
 rintro⟨ys,C,B,p2,q⟩ y k ⟨F,G,L,K,I⟩
 refine fR F 4 ?_
 by_cases d:(q:Int)=-1
 . have T:=K.stop (Ua (I.symm.trans d))
   refine fP F 8 ?_
   refine jc results320 ?_
   exact⟨rfl,p2,C,ys,B,G,L,T,yj (yc [_,_,_,_,_,_] _ F)⟩
 . have H:=T9 (fun O=>@d (I.trans O))
   refine fK F 1 ?_
   obtain rfl:q=((pa p2:Nat):Int):=I.trans H.1
   have N:=H.2.1
   have U:pa p2<ys.length:=by simp only[pa];omega
   have l:=yf [2,3,4,5,0,1] F
   have e:=yc [_,_,_,_] _ l
   refine fK F 12 ?_
   refine cl (Jp hb n iv bv C ys B k (ye e 0 rfl) G.hp G.gP p2 (pa p2) o_ o_) ?_
   rintro _ z ⟨rfl,f,m,o,ht⟩
   have s:=(yi e ht)
   have a:=G.swap (p:=p2) (q:=(pa p2)) o_ o_ m o
   refine gC s 11 fun t u=>?_
   have g:=yc [_,_,_,_] _ u
   refine mW (fi:=(Zf hb)) (ca:=[]) rfl rfl rfl eN (OV hb n iv bv f (iK ys p2 (pa p2)) (ji (ji B (fJ (iK ys p2 (pa p2)) p2).ix (p2+1)) (fJ (iK ys p2 (pa p2)) (pa p2)).ix ((pa p2)+1)) t (ye g 0 rfl) a.hp a.gP (pa p2) (by first|omega|(rw[ni];omega))) ?_
   rintro _ A ⟨rfl,ht⟩
   have h:=(yi g ht)
   refine fP h 2 ?_
   refine tN (?_)
   have v:=yf [4,5,0,1,2,3] h
   exact again (iK ys p2 (pa p2),f,ji (ji B (fJ (iK ys p2 (pa p2)) p2).ix (p2+1)) (fJ (iK ys p2 (pa p2)) (pa p2)).ix ((pa p2)+1),(pa p2),rS (iK ys p2 (pa p2)) (pa p2)) ⟨rfl,rfl,rfl,gm rO,trivial⟩ (⟨v,a,by rw[ni];omega,K.up N L H.2.2,rfl⟩) (by show pa p2<p2;simp only[pa];omega)
theorem adp(D E hb n:Nat)(iv bv:Value)(ps:List (Option Nat))(fQ:List gH)(pl:List Nat)(p:Nat)(w:World)(O:Own (vU D p E hb n iv bv fQ ps pl) w)(Q:Hp n fQ pl)(P:jA n ps pl)(hp:p<fQ.length)(N:uL fQ p) :
 CR ya 320 #[(MX hb),(Zb D),(Zb E)] w (fun r w' => r = .tuple #[]/\∃ (p2:Nat),∃ C ys B,oO n fQ ys ps C B/\p2<ys.length/\Ord ys/\fV (vU D p E hb n iv bv fQ ps pl) w w' (vU D p2 E hb n iv bv ys C B)):=by
 refine en func320 ntmps320 ?_
 have L:=(yt O).unpack
 have J:=oO.refl Q P
 have i:=yf [2,3,4,5,0,1] L
 have b:=yc [_,_,_,_] _ i
 refine fR L 4 ?_
 refine mW (fi:=(Zf hb)) (ca:=[]) rfl rfl rfl eN (OY hb n iv bv ps fQ pl w (ye b 0 rfl) J.hp J.gP p (by first|omega|(rw[ni];omega))) ?_
 rintro _ x ⟨rfl,ht⟩
 have c:=(yi b ht)
 have j:=yf [4,5,0,1,2,3] c
 refine gF c 4 ?_
 refine lp (α:=List gH×List (Option Nat)×List Nat×Nat×Int) (fun(ys,C,B,p2,q)=>[(0,(MX hb)),(1,(Zb D)),(2,(Zb E)),(4,(Za q))]) (fun(ys,C,B,p2,q) w1=>St [(w,(vU D p E hb n iv bv fQ ps pl).gJ)] (Il D p2 E hb n iv bv ys C B) w1/\oO n fQ ys ps C B/\p2<ys.length/\uL ys p2/\q=ou ys p2) (fun(ys,C,B,p2,q)=>ys.length-p2) (fQ,ps,pl,p,(ou fQ p)) ⟨rfl,rfl,rfl,gm rO,trivial⟩ (⟨j,J,hp,N,rfl⟩) ?_
 rintro⟨ys,C,B,p2,q⟩ y k ⟨F,G,S,K,I⟩
 refine fR F 4 ?_
 by_cases d:(q:Int)=-1
 . have T:=K.stop (UI (I.symm.trans d))
   refine fP F 8 ?_
   refine jc results320 ?_
   exact⟨rfl,p2,C,ys,B,G,S,T,yj (yc [_,_,_,_,_,_] _ F)⟩
 . have H:=UH (fun M=>@d (I.trans M))
   refine fK F 1 ?_
   obtain rfl:q=((jE ys p2:Nat):Int):=I.trans H.1
   have R:=NL H.2
   have U:=R.1
   have l:=yf [2,3,4,5,0,1] F
   have e:=yc [_,_,_,_] _ l
   refine fK F 12 ?_
   refine cl (Jp hb n iv bv C ys B k (ye e 0 rfl) G.hp G.gP p2 (jE ys p2) o_ o_) ?_
   rintro _ z ⟨rfl,f,m,o,ht⟩
   have s:=(yi e ht)
   have a:=G.swap (p:=p2) (q:=(jE ys p2)) o_ o_ m o
   refine gC s 11 fun t u=>?_
   have g:=yc [_,_,_,_] _ u
   refine mW (fi:=(Zf hb)) (ca:=[]) rfl rfl rfl eN (OY hb n iv bv f (iK ys p2 (jE ys p2)) (ji (ji B (fJ (iK ys p2 (jE ys p2)) p2).ix (p2+1)) (MT ys p2).ix ((jE ys p2)+1)) t (ye g 0 rfl) a.hp a.gP (jE ys p2) (by first|omega|(rw[ni];omega))) ?_
   rintro _ A ⟨rfl,ht⟩
   have h:=(yi g ht)
   refine fP h 2 ?_
   refine tN (?_)
   have v:=yf [4,5,0,1,2,3] h
   exact again (iK ys p2 (jE ys p2),f,ji (ji B (fJ (iK ys p2 (jE ys p2)) p2).ix (p2+1)) (MT ys p2).ix ((jE ys p2)+1),(jE ys p2),ou (iK ys p2 (jE ys p2)) (jE ys p2)) ⟨rfl,rfl,rfl,gm rO,trivial⟩ (⟨v,a,by rw[ni];omega,K.down rfl H.2,rfl⟩) (by show (iK ys p2 (jE ys p2)).length-jE ys p2<ys.length-p2;rw[ni];omega)
theorem RJ(Q:Own (Zj hb n iv bv fQ ps pl) w)(S:Hp n fQ pl)(R:jA n ps pl)(p:Nat)(hp:p<fQ.length)(P:tP fQ p) :
 CR ya 271 (Zm hb p) w (fun r w' => r = .tuple #[]/\∃ N ys O,oO n fQ ys ps N O/\Ord ys/\fV (Zj hb n iv bv fQ ps pl) w w' (Zj hb n iv bv ys N O)):=by
 refine en func271 ntmps271 ?_
 have M:=(yt Q).unpack
 have F:=oO.refl S R
 refine fR M 2 ?_
 refine ir M (fun a C D E i=>?_)
 refine ir i (fun b j G H c=>?_)
 refine fK c 4 ?_
 refine mX (vf:=[]) (vc:=(sY b a)) rfl rfl rfl (fK c 7 ?_)
 refine mX (vf:=(Zf hb)) (vc:=[]) rfl rfl rfl ?_
 have e:=yc [_,_,_,_,_,_] _ c
 refine mW (fi:=[]) (ca:=(sY b a)) rfl rfl rfl eN (adq b a hb n iv bv ps fQ pl p j (ye e 0 rfl) F.hp F.gP (by first|assumption|omega) P) ?_
 rintro _ k ⟨rfl,l,m,o,q,s,I,t,ht⟩
 have f:=(yi e ht)
 have d:=F.trans s
 refine fK f 5 ?_
 refine mX (vf:=(Zf hb)) (vc:=[]) rfl rfl rfl ?_
 have g:=yc [_,_,_,_,_,_] _ f
 refine mW (fi:=[]) (ca:=(sY b a)) rfl rfl rfl eN (adp b a hb n iv bv m o q l k (ye g 0 rfl) d.hp d.gP (by first|assumption|omega) t) ?_
 rintro _ J ⟨rfl,K,u,v,x,y,L,z,ht⟩
 have h:=(yi g ht)
 have A:=d.trans y
 refine fP h 1 ?_
 refine jc results271 ?_
 have B:=yf [2,3,4,5,0,1] h
 exact⟨rfl,u,v,x,A,z,yj (yc [_,_,_,_] _ B)⟩
theorem XG(m:Own (Zj hb n iv bv fQ ps pl) w)(o:Hp n fQ pl)(k:jA n ps pl)(i:Nat)(hi:i<n)(p:fJ pl i=0) :
 CR ya 283 (Zm hb i) w (fun r w' => r = .tuple #[.int .i64 0,.int .i64 5]/\fV (Zj hb n iv bv fQ ps pl) w w' (Zj hb n iv bv fQ ps pl)):=by
 have s:=k.n
 have q:=o.len
 have t:=k.val i
 refine en func283 ntmps283 ?_
 have l:=(yt m).unpack
 have a:=yc [_,_,_,_] _ l
 refine fR l 11 ?_
 refine cl (CF hb n iv bv ps fQ pl w (ye a 0 rfl)) ?_
 rintro _ g ⟨rfl,ht⟩
 have b:=(yi a ht)
 have c:=yc [_,_,_,_] _ b
 refine fK b 9 ?_
 refine cl (OZ hb n iv bv ps fQ pl g (ye c 0 rfl) i o_) ?_
 rintro _ h ⟨rfl,ht⟩
 have d:=(yi c ht)
 have e:=yc [_,_,_,_] _ d
 refine fK d 9 ?_
 refine cl (O3 hb n iv bv ps fQ pl h (ye e 0 rfl) k i o_) ?_
 rintro _ j ⟨rfl,ht⟩
 have f:=(yi e ht)
 refine cmp rfl rfl rfl (r7 o_) (fP f 13 ?_)
 refine gZ (v:=Zc) (v' := (.int .i64 5)) results283 rfl rfl ?_
 exact⟨rfl,yj (yc [_,_,_,_] _ f)⟩
theorem XH(h:Own (Zj hb n iv bv fQ ps pl) w)(e:Hp n fQ pl)(d:jA n ps pl)(i:Nat)(hi:i<n)(g:fJ pl i=0) :
 CR ya 282 (Zm hb i) w (fun r w' => r = .tuple Cd/\fV (Zj hb n iv bv fQ ps pl) w w' (Zj hb n iv bv fQ ps pl)):=by
 have k:=d.n
 have j:=e.len
 have l:=d.val i
 refine en func282 ntmps282 ?_
 have f:=(yt h).unpack
 have a:=yc [_,_,_,_] _ f
 refine fR f 10 ?_
 refine cl (XG hb n iv bv ps fQ pl w (ye a 0 rfl) e d i hi g) ?_
 rintro _ c ⟨rfl,ht⟩
 have b:=(yi a ht)
 refine fP b 23 ?_
 refine gZ (v:=Zc) (v' := Zn) results282 rfl rfl ?_
 exact⟨rfl,yj (yc [_,_,_,_] _ b)⟩
theorem XP(X:Own (Zj hb n iv bv fQ ps pl) w)(S:Hp n fQ pl)(F:jA n ps pl)(Y:Ord fQ)(i:Nat)(hi:i<n)(V:fJ pl i=0)(key:Int)(hk:gU .i64 key) :
 CR ya 214 (Zv hb i key) w (fun r w' => r = .int .i64 0/\∃ jv Q ys R,Hp n ys R/\jA n Q R/\Ord ys/\(∀ e,e∈ys↔e∈fQ\/e=⟨i,key⟩)/\Q.length=ps.length/\ys.length=fQ.length+1/\fV (Zj hb n iv bv fQ ps pl) w w' (Zj hb n jv bv ys Q R)):=by
 have ae:=F.n
 have ad:=S.len
 have af:=F.val i
 have T:=S.push hi V hk
 have ac:fQ.length+1<=n:=by have W:=T.len;simpa using W
 refine en func214 ntmps214 ?_
 have U:=(yt X).unpack
 have f:=yc [_,_,_,_] _ U
 refine fR U 10 ?_
 refine cl (CF hb n iv bv ps fQ pl w (ye f 0 rfl)) ?_
 rintro _ u ⟨rfl,ht⟩
 have g:=(yi f ht)
 have h:=yc [_,_,_,_] _ g
 refine fK g 9 ?_
 refine cl (OZ hb n iv bv ps fQ pl u (ye h 0 rfl) i o_) ?_
 rintro _ y ⟨rfl,ht⟩
 have j:=(yi h ht)
 have k:=yc [_,_,_,_] _ j
 refine fK j 9 ?_
 refine cl (O3 hb n iv bv ps fQ pl y (ye k 0 rfl) F i o_) ?_
 rintro _ J ⟨rfl,ht⟩
 have c:=(yi k ht)
 refine cmp rfl rfl rfl (qa o_) (fK c 13 ?_)
 refine iV (m:=fQ.length) 1 rfl rfl pP c rfl (fK c 12 ?_)
 refine iU (pvs:=[(0,(Za i)),(1,(Za key))]) (v:=.agg (Z0 i key)) rfl rfl (jj [(0,(Ze i)),(1,(Ze key))] qp QO rfl ⟨rfl,rfl,rfl,rfl,trivial⟩ rfl) (jW (vs:=(Ib i key)) (cs:=(Zr i key)) rfl rfl pP qp rfl (by simp[Value.cells]) rfl rfl rfl c (fun z K L M l=>lR (cf:=gH.cells) (ys:=fQ) (zs:=[(⟨i,key⟩:gH)]) (LL:=fun a=>[row (Z4 z) 250 2 1 ((Zr i key)),blk hb 385 (rN hb n iv bv),fL gH.cells a 250 2 (fQ++[(⟨i,key⟩:gH)]),fL iI bv 399 1 ps,gN fU 401 64 ps pl]) 2 rfl rfl rfl pP qp rfl d_ l rfl (lF l (i:=0) rfl) (fun x hx=>z6.1 (show List.all _ _=true from rfl) x hx) (by simp only[zh,zk];omega) (by simp only[zh,zk];omega) f_ ?_))
 intro a N A O
 have d:=yf [1,2,3,4] A
 refine fK d 2 ?_
 refine jt 0 d (fun B o=>?_) (hvs:=(cells_one (yv d (i:=1) rfl))) (h1:=(gX (yv d (i:=1) rfl) jV))
 have p:=yc [_,_,_,_] _ o
 refine fK o 7 ?_
 refine cl (Fs hb n a bv ps (fQ++[(⟨i,key⟩:gH)]) pl B (ye p 0 rfl) F i hi (fQ.length:Int) (fQ.length+1) o_ o_) ?_
 rintro _ C ⟨rfl,ab,D,Z,ht⟩
 have q:=(yi p ht)
 have aa:=Z
 have s:=yc [_,_,_,_] _ q
 refine fK q 6 ?_
 refine cl (RJ hb n a bv ab (fQ++[(⟨i,key⟩:gH)]) (ji pl i (fQ.length+1)) C (ye s 0 rfl) T aa fQ.length (by first|omega|(simp only[gB,zo,zh,zk];omega)) (abL Y _)) ?_
 rintro _ P ⟨rfl,E,G,H,b,I,ht⟩
 have t:=(yi s ht)
 refine fP t 8 ?_
 refine gf (v:=Zc) results214 rfl ?_
 exact⟨rfl,a,E,G,H,b.hp,b.gP,I,fun e=>(b.mem e).trans s_,by rw[b.pM,D],by rw[b.len];simp,yj (yc [_,_,_,_] _ t)⟩
theorem XF(T:Own (Zj hb n iv bv fQ ps pl) w)(I:Hp n fQ pl)(N:jA n ps pl)(M:Ord fQ)(p:Nat)(hp:p<fQ.length) :
 CR ya 198 (Zm hb p) w (fun r w' => r = .tuple #[]/\∃ X K ys L,Hp n ys L/\jA n K L/\Ord ys/\(∀ e,e∈ys↔e∈fQ/\e.ix≠(fJ fQ p).ix)/\K.length=ps.length/\ys.length+1=fQ.length/\fV (Zj hb n iv bv fQ ps pl) w w' (Zj hb n X bv ys K L)):=by
 have Z:=N.n
 have Y:=I.len
 obtain⟨k,V⟩:∃ k,fQ.length=k+1:=⟨fQ.length-1,o_⟩
 have J:=I.swap hp (show k<fQ.length by omega)
 have aa:=ni fQ p k
 have P:=J.cut (m:=k) o_
 have Q:=fun e=>(Wg J (m:=k) o_ e)
 have R:fJ (iK fQ p k) k=fJ fQ p:=by rw[Bt hp o_,if_pos rfl]
 have S:((iK fQ p k).take k).length=k:=by rw[k8];omega
 refine en func198 ntmps198 ?_
 have F:=(yt T).unpack
 refine fR F 6 ?_
 refine iV (m:=fQ.length) 1 rfl rfl pP F rfl (ar (e:=(k:Int)) rfl rfl rfl rfl je ?_)
 have f:=yc [_,_,_,_] _ F
 refine fK F 8 ?_
 refine cl (Jp hb n iv bv ps fQ pl w (ye f 0 rfl) I N p k hp o_) ?_
 rintro _ u ⟨rfl,v,g,x,ht⟩
 have j:=(yi f ht)
 have o:=yc [_,_,_,_] _ j
 refine fK j 13 ?_
 refine cl (Fs hb n iv bv v (iK fQ p k) (ji (ji pl (fJ (iK fQ p k) p).ix (p+1)) (fJ (iK fQ p k) k).ix (k+1)) u (ye o 0 rfl) x ((fJ (iK fQ p k) k).ix) (J.ix k o_) (-1) 0 o_ o_) ?_
 rintro _ y ⟨rfl,H,q,U,ht⟩
 have d:=(yi o ht)
 have O:=U
 refine fK d 10 ?_
 refine K8 (l:=0) (h:=k) rfl rfl pP qp (iN (cf:=gH.cells) d 1 rfl) rfl ⟨_,gm o_⟩ o_ o_ ?_
 have c:St _ [blk hb 385 (rN hb n iv bv),fL gH.cells (mq 2 iv 0 k) 250 2 ((iK fQ p k).take k),fL iI bv 399 1 H,gN fU 401 64 H (ji (ji (ji pl (fJ (iK fQ p k) p).ix (p+1)) (fJ (iK fQ p k) k).ix (k+1)) ((fJ (iK fQ p k) k).ix) 0)] y:=St.acM d (i:=1) rfl f_ o_
 refine fK c 2 ?_
 refine jt 0 c (fun z a=>?_) (hvs:=(cells_one (yv c (i:=1) rfl))) (h1:=(gX (yv c (i:=1) rfl) jV))
 refine fK a 6 ?_
 by_cases E:(p:Int)<(k:Int)
 . have s:=yc [_,_,_,_] _ a
   refine fK a 7 ?_
   refine cl (RJ hb n (mq 2 iv 0 k) bv H ((iK fQ p k).take k) (ji (ji (ji pl (fJ (iK fQ p k) p).ix (p+1)) (fJ (iK fQ p k) k).ix (k+1)) ((fJ (iK fQ p k) k).ix) 0) z (ye s 0 rfl) P O p (by first|omega|(simp only[gB,zo,zh,zk];omega)) (M.cut V o_)) ?_
   rintro _ G ⟨rfl,A,B,C,b,D,ht⟩
   have t:=(yi s ht)
   refine fP t 1 ?_
   refine jc results198 ?_
   exact⟨rfl,(mq 2 iv 0 k),A,B,C,b.hp,b.gP,D,fun e=>(b.mem e).trans (by rw[Q e,Lc hp o_,R]),by rw[b.pM,q,g],by rw[b.len,S];omega,yj (yc [_,_,_,_] _ t)⟩
 . refine fP a 5 ?_
   refine jc results198 ?_
   have W:p=k:=by omega
   exact⟨rfl,(mq 2 iv 0 k),H,((iK fQ p k).take k),ji (ji (ji pl (fJ (iK fQ p k) p).ix (p+1)) (fJ (iK fQ p k) k).ix (k+1)) ((fJ (iK fQ p k) k).ix) 0,P,O,by subst W;rw[adV hp];exact M.Wb o_,fun e=>by rw[Q e,Lc hp o_,R],by rw[q,g],by rw[S];omega,yj (yc [_,_,_,_] _ a)⟩
theorem O1(q:Own (Zj hb n iv bv fQ ps pl) w)(u:Hp n fQ pl)(t:jA n ps pl)(s:fQ.length=0) :
 CR ya 197 (Zh hb) w (fun r w' => r = .tuple Ca/\fV (Zj hb n iv bv fQ ps pl) w w' (Zj hb n iv bv fQ ps pl)):=by
 refine en func197 ntmps197 ?_
 have p:=(yt q).unpack
 refine fR p 2 ?_
 refine iR p (fun g e h j b=>?_)
 have f:=yf [1,2,3,4,0] b
 have c:=yc [_,_,_,_] _ f
 refine fK b 7 ?_
 refine cl (CF hb n iv bv ps fQ pl e (ye c 0 rfl)) ?_
 rintro _ k ⟨rfl,ht⟩
 have a:=(yi c ht)
 refine fK a 6 ?_
 refine iV (m:=fQ.length) 1 rfl rfl pP a rfl (cmp rfl rfl rfl (r7 o_) (fK a 6 ?_))
 refine iU (pvs:=[]) (v:=.agg #[Zc,Zc]) rfl rfl (jj [] qp QO rfl trivial rfl) (jH a 6 fun l d=>?_)
 refine o7 (v:=Ih) (v' := Zn) results197 (nX (cs:=vS) rfl xl rfl qp rfl (mO d (i:=4) (o:=0) (vs:=vS) rfl rfl)) (pN rfl) ?_
 exact⟨rfl,yj (yc [_,_,_,_] _ d)⟩
theorem O2(s:Own (Zj hb n iv bv fQ ps pl) w)(x:Hp n fQ pl)(u:jA n ps pl)(t:0<fQ.length) :
 CR ya 197 (Zh hb) w (fun r w' => r = .tuple (Cb ((fJ fQ 0).ix:Int) ((fJ fQ 0).key))/\fV (Zj hb n iv bv fQ ps pl) w w' (Zj hb n iv bv fQ ps pl)):=by
 refine en func197 ntmps197 ?_
 have q:=(yt s).unpack
 refine fR q 2 ?_
 refine iR q (fun g e h j b=>?_)
 have f:=yf [1,2,3,4,0] b
 have c:=yc [_,_,_,_] _ f
 refine fK b 7 ?_
 refine cl (CF hb n iv bv ps fQ pl e (ye c 0 rfl)) ?_
 rintro _ l ⟨rfl,ht⟩
 have a:=(yi c ht)
 refine fK a 6 ?_
 refine iV (m:=fQ.length) 1 rfl rfl pP a rfl (cmp rfl rfl rfl (tv o_) (fK a 12 ?_))
 refine iY (cf:=gH.cells) (k:=0) (i:=0) rfl rfl rfl pP qp (iN a 1 rfl) o_ o_ (gz om) (jH a 6 fun p d=>?_)
 refine o7 (v:=(Ck ((fJ fQ 0).ix:Int) ((fJ fQ 0).key))) (v' := Zg) results197 (nX (cs:=(Zr ((fJ fQ 0).ix:Int) ((fJ fQ 0).key))) rfl xl rfl qp rfl (mO d (i:=4) (o:=0) (vs:=(Zr ((fJ fQ 0).ix:Int) ((fJ fQ 0).key))) rfl rfl)) (pN rfl) ?_
 exact⟨rfl,yj (yc [_,_,_,_] _ d)⟩
theorem XO(T:Own (Zj hb n iv bv fQ ps pl) w)(L:Hp n fQ pl)(K:jA n ps pl)(U:Ord fQ)(J:0<fQ.length) :
 CR ya 126 (Zh hb) w (fun r w' => r = .tuple (Cb ((fJ fQ 0).ix:Int) ((fJ fQ 0).key))/\∃ V F ys I,Hp n ys I/\jA n F I/\Ord ys/\(∀ e,e∈ys↔e∈fQ/\e.ix≠(fJ fQ 0).ix)/\F.length=ps.length/\ys.length+1=fQ.length/\fV (Zj hb n iv bv fQ ps pl) w w' (Zj hb n V bv ys F I)):=by
 refine en func126 ntmps126 ?_
 have M:=(yt T).unpack
 refine fR M 2 ?_
 refine iR M (fun x g y z a=>?_)
 have h:=yf [1,2,3,4,0] a
 have b:=yc [_,_,_,_] _ h
 refine fK a 6 ?_
 refine cl (O2 hb n iv bv ps fQ pl g (ye b 0 rfl) L K J) ?_
 rintro _ A ⟨rfl,ht⟩
 have c:=(yi b ht)
 refine fK c 3 ?_
 refine iR c (fun B C D E j=>?_)
 refine gC j 13 fun k l=>?_
 have m:=yf [1,2,3,4,0,5] l
 have d:=yc [_,_,_,_] _ m
 refine cl (XF hb n iv bv ps fQ pl k (ye d 0 rfl) L K U 0 J) ?_
 rintro _ G ⟨rfl,p,q,s,t,N,O,P,Q,R,S,ht⟩
 have u:=(yi d ht)
 refine jH u 11 fun H f=>?_
 refine o7 (v:=(Ck ((fJ fQ 0).ix:Int) ((fJ fQ 0).key))) (v' := Zg) results126 (nX (cs:=(Zr ((fJ fQ 0).ix:Int) ((fJ fQ 0).key))) rfl xl rfl qp rfl (mO f (i:=5) (o:=0) (vs:=(Zr ((fJ fQ 0).ix:Int) ((fJ fQ 0).key))) rfl rfl)) (pN rfl) ?_
 exact⟨rfl,p,q,s,t,N,O,P,Q,R,S,yj (yc [_,_,_,_] _ f)⟩
theorem XN(z:Own (Zj hb n iv bv fQ ps pl) w)(B:Hp n fQ pl)(A:jA n ps pl)(y:fQ.length=0) :
 CR ya 126 (Zh hb) w (fun r w' => r = .tuple Ca/\fV (Zj hb n iv bv fQ ps pl) w w' (Zj hb n iv bv fQ ps pl)):=by
 refine en func126 ntmps126 ?_
 have x:=(yt z).unpack
 refine fR x 2 ?_
 refine iR x (fun j e k l a=>?_)
 have f:=yf [1,2,3,4,0] a
 have b:=yc [_,_,_,_] _ f
 refine fK a 6 ?_
 refine cl (O1 hb n iv bv ps fQ pl e (ye b 0 rfl) B A y) ?_
 rintro _ m ⟨rfl,ht⟩
 have c:=(yi b ht)
 refine fK c 3 ?_
 refine iR c (fun p q s t g=>?_)
 refine jH g 22 fun u d=>?_
 refine o7 (v:=Ih) (v' := Zn) results126 (nX (cs:=vS) rfl xl rfl qp rfl (mO d (i:=5) (o:=0) (vs:=vS) rfl rfl)) (pN rfl) ?_
 have h:=yf [1,2,3,4,0,5] d
 exact⟨rfl,yj (yc [_,_,_,_] _ h)⟩
theorem Vy(v:Value)(xs:List gH)(w:World)(hv:gY 2 gH.cells (fun _=>True) w v xs)(m:xs.length<=1000000) :
 CR ya 280 #[v] w (fun r w' => qy 2 gH.cells w w' r 250 xs/\gx [] w w'):=by
 refine en func280 ntmps280 ?_
 have l:=yu w
 refine fR l 9 ?_
 refine CC (v:=v) rfl rfl rfl pP hv (gF l 2 ?_)
 cases e:(wM v:Bool)
 . skip
   refine fR l 5 ?_
   refine jW (vs:=[]) (cs:=[]) rfl rfl pP qp rfl (by intro v hv;simp at hv) rfl rfl rfl l ?_
   intro f g h i c
   have d:=c
   refine fK c 1 ?_
   refine lR (cf:=gH.cells) (ys:=[]) (zs:=xs) (LL:=fun a=>[fL gH.cells a 250 2 xs]) 0 rfl rfl rfl pP qp rfl d_ d rfl (gY.src (yz d s_ d_ hv) f_) (xY f_ _) (by simp only[zk];omega) (by simp only[zk];omega) f_ (fun a j b k=>fP b 4 ?_)
   refine gf (v:=a) results280 rfl ?_
   exact⟨DE b s_,b.gA s_⟩
 . skip
   refine iT l 8 ?_
   refine gf (v:=Zi) results280 rfl ?_
   obtain rfl:=C1 e hv
   exact⟨qy.C0, l.gA s_⟩
theorem XI(B:n<=65536) :
 CR ya 220 (Z2 n) w (fun r w' => ∃ hb pv,r = .tuple (Zz hb)/\fV (gh []) w w' (gh [blk hb 385 [(Zb hb),(Za n),Zi,pv],fL gH.cells Zi 250 2 ([]),fL iI pv 399 1 (List.replicate ((n+63) / 64) none),gN fU 401 64 (List.replicate ((n+63) / 64) none) (List.replicate (64*((n+63) / 64)) 0)])):=by
 refine en func220 ntmps220 ?_
 have A:=yu w
 refine fR A 10 ?_
 refine cmp rfl rfl rfl (kG o_) (fK A 2 ?_)
 refine cmp rfl rfl rfl (nN o_) (fK A 10 ?_)
 refine ar (e:=((n+64:Nat):Int)) rfl rfl rfl rfl je (ar (e:=((n+63:Nat):Int)) rfl rfl rfl rfl je (quo (a:=((n+63:Nat):Int)) (b:=64) (e:=(((n+63) / 64:Nat):Int)) rfl rfl rfl d_ (wT 64 o_) (lN (cf:=iI) (z0:=none) (m:=((n+63) / 64)) (c:=((n+63) / 64)) rfl rfl rfl zN GO rfl f_ d_ (zm _) o_ o_ A (fun d s t u j=>iU (pvs:=[(1,(Za n)),(3,(Zd d ((n+63) / 64)))]) (v:=.agg #[Zp,(Za n),Zi,(Zd d ((n+63) / 64))]) rfl rfl (jj [(1,(Ze n)),(3,(Z5 d ((n+63) / 64)))] GN QX rfl ⟨rfl,rfl,rfl,rfl,trivial⟩ rfl) (ir j (fun f x y z k=>?_))))))
 refine gC k 14 fun g l=>?_
 have o:=lZ (cf:=iI) l (i:=1) rfl f_ (zm _) (by simp only[maxLen];omega)
 have p:St _ [gN fU 401 64 (List.replicate ((n+63) / 64) none) (List.replicate (64*((n+63) / 64)) 0),blk f 385 (Na f n d ((n+63) / 64)),fL iI (Zd d ((n+63) / 64)) 399 1 (List.replicate ((n+63) / 64) none)] g:=St.E4 o ((n+63) / 64)
 have h:St _ [fL gH.cells Zi 250 2 ([]),gN fU 401 64 (List.replicate ((n+63) / 64) none) (List.replicate (64*((n+63) / 64)) 0),blk f 385 (Na f n d ((n+63) / 64)),fL iI (Zd d ((n+63) / 64)) 399 1 (List.replicate ((n+63) / 64) none)] g:=qJ p 250 2
 refine fP h 6 ?_
 refine gZ (v:=(Zb f)) (v' := Zc) results220 rfl rfl ?_
 have q:=yf [2,0,3,1] h
 exact⟨f,(Zd d ((n+63) / 64)),rfl,mD (yc [_,_,_,_] [] q)⟩
theorem XE(hO:Own (Zj hb n iv bv fQ ps pl) w)(hS:Hp n fQ pl)(hP:jA n ps pl) :
 CR ya 208 (Zh hb) w (fun r w' => ∃ ag ai aj F,r = .pointer (some ⟨ag,0,none⟩)/\jA n F pl/\F.length=ps.length/\fV (Zj hb n iv bv fQ ps pl) w w' (gh [blk hb 385 (rN hb n iv bv),fL gH.cells iv 250 2 fQ,fL iI bv 399 1 ps,gN fU 401 64 ps pl,blk ag 385 (rN ag n ai aj),fL gH.cells ai 250 2 fQ,fL iI aj 399 1 F,gN fU 401 64 F pl])):=by
 have an:=hP.n
 have am:=hS.len
 have ao:=hP.len
 have ap:=hP.room
 have aq:=hP.top
 refine enter (vs:=(Zf hb)) func208 rfl ntmps208 rfl ?_
 have ah:=(yt hO).unpack
 have t:=yc [_,_,_,_] _ ah
 refine fR ah 9 ?_
 refine jw (vl:=(Zf hb)) rfl rfl eN (CF hb n iv bv ps fQ pl w (ye t 0 rfl)) ?_
 rintro _ O ⟨rfl,ht⟩
 have u:=(l7 (R' := (Zj hb n iv bv fQ ps pl)) 0 t rfl ht rfl).unpack
 refine gF u 7 ?_
 refine yT mixed [0,1,2,3,4,5,6,7,9,10,11,12,13] [8,14] [(8,[3,12,13]),(14,[3,7])] [15,16,17] u (fun P l=>zJ ?_)
 refine fK l 12 ?_
 refine iV (m:=ps.length) 2 rfl rfl zN l rfl (fP l 1 ?_)
 refine pe trivial (zI [⟨8,18,[],[],Value,fun e=>e,fun e=>[fL gH.cells e 250 2 fQ]⟩,⟨14,24,[],[],Nat,fun d=>(Zd d ps.length),fun d=>[blk d 399 ((List.replicate ps.length none).flatMap iI)]⟩] l ⟨nv (fun Z wq hM _=>jw (vl:=[iv]) rfl rfl eN (Vy iv fQ wq (iN hM 1 rfl).any (by first|omega|(simp;omega))) (fun B _ hz=>have hK:=(zR hM hz.2 hz.1);nF ⟨B,rfl,hK,trivial⟩ (hc:=kZ rfl oE (kZ rfl oE (kZ rfl (qo (PL (m:=ps.length) 3 rfl zN hK rfl) rfl rfl) (trivial)))))),nv (fun Z wq hM _=>lN (cf:=iI) (z0:=none) (m:=ps.length) (c:=ps.length) rfl rfl rfl zN GO rfl f_ d_ (zm _) o_ o_ hM (fun C _ _ _ h=>have hK:=h;nF ⟨C,rfl,hK,trivial⟩))⟩ ?_)
 rintro e d Q x
 refine iU (pvs:=[(1,(Za n)),(2,e),(3,(Zd d ps.length))]) (v:=.agg #[Zp,(Za n),e,(Zd d ps.length)]) rfl rfl (jj [(1,(Ze n)),(2,[e]),(3,(Z5 d ps.length))] GN QX rfl ⟨rfl,rfl,rfl,(cells_one (yv x (i:=1) rfl)),rfl,rfl,trivial⟩ rfl) (ir x (fun g R S U D=>?_))
 refine gC D 15 fun E G=>?_
 have H:=lZ (cf:=iI) G (i:=1) rfl f_ (zm _) (by simp only[maxLen];omega)
 have I:St _ [gN fU 401 64 (List.replicate ps.length none) pl,blk g 385 (Im g n e d ps.length),fL iI (Zd d ps.length) 399 1 (List.replicate ps.length none),fL gH.cells e 250 2 fQ,blk hb 385 (rN hb n iv bv),fL gH.cells iv 250 2 fQ,fL iI bv 399 1 ps,gN fU 401 64 ps pl] E:=St.E4 H ps.length
 have p:=yf [4,5,6,7,1,3,2,0] I
 refine fK p 4 ?_
 refine iV (m:=ps.length) 2 rfl rfl zN p rfl (gF p 4 ?_)
 refine lp (α:=Nat×List (Option Nat)) (fun(k,F)=>[(3,(Zb g)),(34,bv),(35,(Za ps.length)),(36,(Za k))]) (fun(k,F) w1=>St [(w,(Zj hb n iv bv fQ ps pl).gJ)] (MN hb n iv bv fQ ps pl g e d ps.length F) w1/\k<=ps.length/\qP ps F k) (fun(k,F)=>ps.length-k) (0,(List.replicate ps.length none)) ⟨rfl,rfl,rfl,gm rO,trivial⟩ (⟨p,o_,qP.start ps⟩) ?_
 rintro⟨k,F⟩ V W ⟨T,ak,hC⟩
 have al:=hP.len
 have ar:=hC.len
 refine fR T 2 ?_
 by_cases X:(k:Int)<(ps.length:Int)
 . have hk:k<ps.length:=by omega
   obtain⟨J,j⟩:∃ q,(fJ ps k)=q:=⟨_,rfl⟩
   refine fK T 21 ?_
   rcases J with _|y
   . skip
     refine lI (a:=(fJ ps k).map fun b=>⟨b,0,none⟩) (c:=false) rfl rfl rfl zO (by rw[j];rfl) (fP T 10 ?_)
     refine tN (?_)
     exact again ((k+1),F) ⟨rfl,rfl,rfl,gm rO,trivial⟩ (⟨T,o_,hC.skip ((gz hk).trans (congrArg some j))⟩) (by show (ps.length-(k+1):Nat)<ps.length-k;omega)
   . skip
     refine lI (a:=(fJ ps k).map fun b=>⟨b,0,none⟩) (c:=true) rfl rfl rfl zO (by rw[j];rfl) (fK T 6 ?_)
     refine wN (a:=⟨y,0,none⟩) rfl (Bi j) ?_
     have af:(((pl.drop (64*k)).take 64).flatMap fU).length=64:=N6 (cf:=fU) (sz:=1) f_ hP.len hk
     refine wF (b:=y) (o:=0) (cs:=(((pl.drop (64*k)).take 64).flatMap fU)) rfl rfl Hj rfl LB af (St.N0 T (i:=3) rfl ((gz hk).trans (congrArg some j))) (iR T (fun s Y aa ab K=>?_))
     refine Gz (v:=.agg (((pl.drop (64*k)).take 64).flatMap fU).toArray) (vs:=(((pl.drop (64*k)).take 64).flatMap fU)) (L' := [blk s 401 (((pl.drop (64*k)).take 64).flatMap fU),blk hb 385 (rN hb n iv bv),fL gH.cells iv 250 2 fQ,fL iI bv 399 1 ps,gN fU 401 64 ps pl,blk g 385 (Im g n e d ps.length),fL gH.cells e 250 2 fQ,fL iI (Zd d ps.length) 399 1 F,gN fU 401 64 F pl]) 0 rfl rfl rfl rfl LB af (z6.2 (xY f_ _)) K rfl (by rw[af];decide) (RF (by rw[af];rfl)) rfl (fun ac z ad=>fK z 9 ?_)
     refine iQ (f:=(fun _=>(some s))) 7 z (fun ae A=>?_) (v:=(Zd d ps.length)) (k:=k) (off:=0) (sz:=1)
     refine fP A 7 ?_
     refine tN (?_)
     have L:=yf [0,8,1,2,3,4,5,6,7] A
     have M:=St.N1 L (hC.next hk) rfl
     have N:=yf [1,2,3,4,5,6,7,0] M
     exact again ((k+1),fO F k (fun _=>(some s))) ⟨rfl,rfl,rfl,gm rO,trivial⟩ (⟨N,o_,hC.set hk⟩) (by show (ps.length-(k+1):Nat)<ps.length-k;omega)
 . refine fP T 17 ?_
   refine gf (v:=(Zb g)) results208 rfl ?_
   exact⟨g,e,(Zd d ps.length),F,rfl,hP.copy hC o_,hC.len,ym (R' := (gh (MN hb n iv bv fQ ps pl g e d ps.length F))) (yc [_,_,_,_,_,_,_,_] _ T) zd⟩
theorem v8(d cl:Int)(ps:List (Option Nat))(sl:List gV)(w:World)(e:Own (Ai n iv x y d cl ps sl) w) :
 CR ya 149 (Zh n) w (fun r w' => r = .bool true/\fV (Ai n iv x y d cl ps sl) w w' (Ai n iv x y d cl ps sl)):=by
 refine en func149 ntmps149 ?_
 have b:=(yt e).unpack
 refine fR b 8 ?_
 refine lI (a:=some ⟨n,0,none⟩) (c:=true) rfl rfl rfl underlying170 rfl (fK b 6 ?_)
 refine xV (a:=⟨n,0,none⟩) rfl rfl rfl underlying170 GL (fP b 5 ?_)
 refine gf (v:=Zg) results149 rfl ?_
 exact⟨rfl,yj (yc [_,_,_] _ b)⟩
theorem AF(d cl:Int)(ps:List (Option Nat))(sl:List gV)(w:World)(f:Own (Ai n iv x y d cl ps sl) w)(i:Nat)(hi:i<=1000000)(b:Nat)(hb:ps[i / 64]? = some (some b)) :
 CR ya 200 (Zm n i) w (fun r w' => r = .pointer (some ⟨b,i%64*3+0,none⟩)/\fV (Ai n iv x y d cl ps sl) w w' (Ai n iv x y d cl ps sl)):=by
 have g:i / 64<ps.length:=(zt.1 hb).1
 refine en func200 ntmps200 ?_
 have c:=(yt f).unpack
 refine fR c 12 ?_
 refine quo (a:=(i:Int)) (b:=64) (e:=((i / 64:Nat):Int)) rfl rfl rfl d_ (wT 64 o_) (fK c 3 ?_)
 refine rem (a:=(i:Int)) (b:=64) (e:=((i%64:Nat):Int)) rfl rfl rfl d_ (Df 64) (wN rfl (Bi (iS hb)) (ic (o:=0) (o' := i%64*3+0) (i:=((i%64:Nat):Int)) rfl rfl rfl underlying395 SZ o_ (by simp only[nG];omega) (fP c 4 ?_)))
 refine gf (v:=(.pointer (some ⟨b,i%64*3+0,none⟩))) results200 rfl ?_
 exact⟨rfl,yj (yc [_,_,_] _ c)⟩
theorem NG(ab:Nat)(iv:Value)(A:As)(w:World)(j:Own (Zu ab iv A) w)(g:A.ok)(i:Nat)(hi:i<=1000000) :
 CR ya 150 (Zm ab i) w (fun r w' => r = .int .i64 (if i<A.begun then(fJ A.sl i).st else 0)/\fV (Zu ab iv A) w w' (Zu ab iv A)):=by
 refine en func150 ntmps150 ?_
 have f:=(yt j).unpack
 refine fR f 13 ?_
 by_cases d:(i:Int)≥(A.begun:Int)
 . refine fP f 11 ?_
   refine gf (v:=Zc) results150 rfl ?_
   exact⟨gm (by rw[if_neg o_]),yj (yc [_,_,_] _ f)⟩
 . have h:i<A.begun:=by omega
   have k:=(g.room h).1
   obtain⟨b,hb⟩:=g.at h
   have c:=yc [_,_,_] _ f
   refine fK f 10 ?_
   refine cl (AF ab iv (A.n:Int) (A.begun:Int) (A.used:Int) A.last A.ps A.sl w (ye c 0 rfl) i o_ b hb) ?_
   rintro _ e ⟨rfl,ht⟩
   have a:=(yi c ht)
   refine fK a 1 ?_
   refine fa (o' := i%64*3+0) rfl rfl pO rfl gq (by simp only[lJ];rfl) (ld rfl rfl yg rfl (Bz a (i:=2) rfl f_ d_ k hb rfl) (fP a 4 ?_))
   refine gf (v:=(Za ((fJ A.sl i).st))) results150 rfl ?_
   exact⟨gm (by rw[if_pos o_]),yj (yc [_,_,_] _ a)⟩
theorem Uo(ab:Nat)(iv:Value)(A:As)(w:World)(e:Own (Zu ab iv A) w)(f:A.ok) :
 CR ya 104 (Zh ab) w (fun r w' => r = .int .i64 (A.used:Int)/\fV (Zu ab iv A) w w' (Zu ab iv A)):=by
 refine en func104 ntmps104 ?_
 have d:=(yt e).unpack
 have a:=yc [_,_,_] _ d
 refine fR d 9 ?_
 refine cl (v8 ab iv (A.n:Int) (A.begun:Int) (A.used:Int) A.last A.ps A.sl w (ye a 0 rfl)) ?_
 rintro _ c ⟨rfl,ht⟩
 have b:=(yi a ht)
 refine fP b 16 ?_
 refine gf (v:=(Za A.used)) results104 rfl ?_
 exact⟨rfl,yj (yc [_,_,_] _ b)⟩
theorem Uw(ab:Nat)(iv:Value)(A:As)(w:World)(e:Own (Zu ab iv A) w)(g:A.ok)(i:Nat)(f:A.last=(i:Int)) :
 CR ya 281 (Zh ab) w (fun r w' => r = .tuple (Ao i)/\fV (Zu ab iv A) w w' (Zu ab iv A)):=by
 refine en func281 ntmps281 ?_
 have d:=(yt e).unpack
 have b:=yc [_,_,_] _ d
 refine fR d 11 ?_
 refine cl (v8 ab iv (A.n:Int) (A.begun:Int) (A.used:Int) A.last A.ps A.sl w (ye b 0 rfl)) ?_
 rintro _ c ⟨rfl,ht⟩
 have a:=(yi b ht)
 refine fK a 11 ?_
 refine cmp rfl rfl rfl (NX o_) (fP a 17 ?_)
 refine gZ (v:=(Za A.last)) (v' := Zg) results281 rfl rfl ?_
 exact⟨by rw[f],yj (yc [_,_,_] _ a)⟩
theorem Ux(ab:Nat)(iv:Value)(A:As)(w:World)(g:Own (Zu ab iv A) w)(h:A.ok)(i:A.last = -1)(hb:A.begun<A.n) :
 CR ya 281 (Zh ab) w (fun r w' => r = .tuple (Ao A.begun)/\fV (Zu ab iv A) w w' (Zu ab iv A)):=by
 refine en func281 ntmps281 ?_
 have f:=(yt g).unpack
 have a:=yc [_,_,_] _ f
 refine fR f 11 ?_
 refine cl (v8 ab iv (A.n:Int) (A.begun:Int) (A.used:Int) A.last A.ps A.sl w (ye a 0 rfl)) ?_
 rintro _ d ⟨rfl,ht⟩
 have b:=(yi a ht)
 refine fK b 11 ?_
 refine cmp rfl rfl rfl (qa o_) (gC b 14 fun e c=>?_)
 refine cmp rfl rfl rfl (p8 o_) (fP c 17 ?_)
 refine gZ (v:=(Za A.begun)) (v' := Zg) results281 rfl rfl ?_
 exact⟨rfl,yj (yc [_,_,_] _ c)⟩
end Go.Proofs.YtedjjkcihkmjgaaGreatDoor
