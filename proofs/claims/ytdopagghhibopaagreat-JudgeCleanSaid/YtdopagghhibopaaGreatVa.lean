/- What the functions that the statements reach do: walks through the code of the program and of the references, one theorem a function; under what is said of its arguments. -/
import Derived.Test.YtdopagghhibopaaGreatFa
import Derived.Test.YtdopagghhibopaaGreatFc
import Derived.Test.YtdopagghhibopaaGreatFb
import Derived.Test.YtdopagghhibopaaGreatFd
import Derived.Test.YtdopagghhibopaaGreatProg
import Derived.KernelRfl
set_option linter.unusedVariables false
set_option linter.unusedSimpArgs false
set_option maxRecDepth 100000
set_option maxHeartbeats 4000000
namespace Go.Proofs.YtdopagghhibopaaGreat
section
open Go Go.Sx
noncomputable abbrev ya:=@Tryz.prog
abbrev yc:=@St.pack
abbrev yd:=@St.ownR
abbrev ye:=@Tryz.underlying3
abbrev yf:=@St.rowRecs
abbrev yg:=@Tryz.underlying30
abbrev yh:=@Tryz.underlying115
abbrev yi:=@Tryz.underlying269
abbrev yj:=@St.re
abbrev yk:=@Tryz.underlying263
abbrev ym:=@Tryz.underlying128
abbrev yn:=@Tryz.underlying260
abbrev yo:=@St.blkCell
abbrev yp:=@St.tu
abbrev yq:=@St.eT
abbrev yr:=@Tryz.underlying111
abbrev yt:=@Tryz.underlying267
abbrev yu:=@St.tn
abbrev yv:=@St.endTurn
abbrev yw:=@St.wit
abbrev yx:=@St.recCell
abbrev yy:=@Tryz.underlying34
abbrev yz:=@St.initR
abbrev y0:=@Tryz.underlying25
abbrev y8:=@Tryz.underlying28
abbrev y9:=@Tryz.underlying4
abbrev yaa:=@St.grow
abbrev yab:=@St.blkCells
abbrev yac:=@St.factAt
abbrev yad:=@Tryz.underlying44
abbrev yae:=@Tryz.underlying272
abbrev yaf:=@St.init
abbrev yag:=@Tryz.underlying259
abbrev yah:=@Tryz.underlying177
abbrev yai:=@Tryz.underlying130
abbrev yaj:=@Tryz.underlying172
abbrev yak:=@Tryz.results208
abbrev yal:=@Tryz.underlying32
abbrev yam:=@Tryz.underlying277
abbrev yan:=@St.unpack
abbrev yao:=@Tryz.results29
abbrev yap:=@St.recs0
abbrev yaq:=@St.rowSrc
abbrev yar:=@Tryz.results27
abbrev yas:=@Tryz.underlying2
abbrev yat:=@Tryz.underlying24
abbrev yau:=@Tryz.underlying57
abbrev yav:=@St.un
abbrev yaw:=@Tryz.underlying262
abbrev yax:=@Tryz.underlying5
abbrev yay:=@Tryz.underlying64
abbrev yaz:=@Tryz.underlying60
abbrev ya0:=@St.row1
abbrev ya1:=@Tryz.underlying203
abbrev ya2:=@Tryz.results44
abbrev ya3:=@Tryz.results143
abbrev ya4:=@Tryz.results233
abbrev ya5:=@Tryz.underlying258
abbrev ya6:=@St.fact
abbrev ya7:=@St.perm
abbrev ya8:=@St.addFreshR
abbrev ya9:=@St.made
abbrev yba:=@Tryz.results56
abbrev ybb:=@Tryz.underlying127
abbrev ybc:=@Tryz.underlying162
abbrev ybd:=@St.addNil
abbrev ybe:=@Tryz.underlying36
abbrev ybf:=@Tryz.underlying22
abbrev ybg:=@Tryz.results85
abbrev ybh:=@Tryz.results232
abbrev ybi:=@Tryz.underlying166
abbrev ybj:=@Tryz.underlying126
abbrev ybk:=@St.endFreshR
abbrev ybl:=@Tryz.underlying279
abbrev ybm:=@St.rowInts
abbrev ybn:=@St.famTake
abbrev ybo:=@Tryz.underlying59
abbrev ybp:=@Tryz.underlying83
abbrev ybq:=@Tryz.underlying79
abbrev ybr:=@Tryz.underlying52
abbrev ybs:=@St.famPut
abbrev ybt:=@St.chkCell
abbrev ybu:=@Tryz.results230
abbrev ybv:=@Tryz.results198
abbrev ybw:=@Tryz.results243
abbrev ybx:=@Tryz.results49
abbrev yby:=@Tryz.results22
theorem k_{p:Prop}(h:p:=by kernel_rfl):p:=h
theorem f_{p:Prop}(h:p:=by exact fun _=>rfl):p:=h
abbrev p_:Value×List Nat->Value:=Prod.fst
end
section
open Go Go.Sx
abbrev Zf:=(.bool true:Value)
abbrev Zar:=(.int .i64 2:Value)
abbrev Zaz:=(.int .u64 0:Value)
abbrev Zp:=(.bool false:Value)
abbrev Z5:=(.int .i64 1:Value)
abbrev Zc:=(.int .i64 0:Value)
abbrev Zaw:=(.int .i64 5:Value)
abbrev Z0(a:Int):=(.int .u8 a:Value)
abbrev Za(a:Int):=(.int .i64 a:Value)
abbrev Z6:=(.pointer none:Value)
abbrev Zbl:=([.int .i64 5]:List Value)
abbrev Zbp:=([.int .u64 0]:List Value)
abbrev Ze(a:Int):=(.int .u64 a:Value)
abbrev Zw:=(.int .i64 (-1):Value)
abbrev Zl:=(.slice none 0 0:Value)
abbrev Zz(a:Int):=([.int .u64 a]:List Value)
abbrev Zd(a:Int):=([.int .i64 a]:List Value)
abbrev Zai(a:Int):=(#[.int .i64 a]:Array Value)
abbrev Za1:=([.int .i64 0,.nilFunc]:List Value)
abbrev Zct:=(.func (.func 27) #[] #[]:Value)
abbrev Zcr:=(.func (.func 29) #[] #[]:Value)
abbrev Zcv:=(.func (.func 28) #[] #[]:Value)
abbrev Z3:=([.int .i64 0,.int .i64 0]:List Value)
abbrev Zca a b:=(rowR Lv.cells a 34 7 b:Res)
abbrev Zaq(a:Int)(b:Bool):=(#[.int .i64 a,.bool b]:Array Value)
abbrev Zch:=(#[.int .i64 0,.bool false]:Array Value)
abbrev Zbt(a:Int):=(#[.int .i64 a,.bool true]:Array Value)
abbrev Zbv(a:Int):=([.int .i64 5,.int .i64 a]:List Value)
abbrev Zbs(a:Int):=([.int .i64 2,.int .i64 a]:List Value)
abbrev Zcj(a:Int):=(#[.int .i64 2,.int .i64 a]:Array Value)
abbrev Za8(a:Int):=(#[.int .i64 a,.int .i64 0]:Array Value)
abbrev Zby(a:Int):=(#[.int .i64 5,.int .i64 a]:Array Value)
abbrev Zab(a:Nat):=(.pointer (some ⟨a,2,none⟩):Value)
abbrev Z4(a:Nat):=(.pointer (some ⟨a,6,none⟩):Value)
abbrev Zi(a b:Int):=([.int .i64 a,.int .i64 b]:List Value)
abbrev Zbg(a:Nat):=(.pointer (some ⟨a,1,none⟩):Value)
abbrev Za4(a:Nat):=(.pointer (some ⟨a,3,none⟩):Value)
abbrev Zb(a:Nat):=(.pointer (some ⟨a,0,none⟩):Value)
abbrev Zbf(a b:Int):=(#[.int .u64 a,.int .u64 b]:Array Value)
abbrev Zah(a b:Int):=(#[.int .i64 a,.int .i64 b]:Array Value)
abbrev Zas(a:Nat):=(.slice (some ⟨a,0,none⟩) 2 2:Value)
abbrev Zcf:=(.agg #[.int .i64 0,.int .i64 0]:Value)
abbrev Zv(a:Nat):=(.slice (some ⟨a,0,none⟩) 1 1:Value)
abbrev Z7(a b:Nat):=(.pointer (some ⟨a,b,none⟩):Value)
abbrev Zj(a:Nat):=([.pointer (some ⟨a,0,none⟩)]:List Value)
abbrev Zk(a:Nat):=(#[.pointer (some ⟨a,0,none⟩)]:Array Value)
abbrev Zag(a b:Int):=(.agg (Zah a b):Value)
abbrev Zcy(a:Int):=([.agg (Zcj a)]:List Value)
abbrev Zb7(a:Int):=([.agg (Zby a)]:List Value)
abbrev Zu(a b:Nat):=(.slice (some ⟨a,0,none⟩) b b:Value)
abbrev Zcd(a b:Nat):=([.slice (some ⟨a,0,none⟩) b b]:List Value)
abbrev Zd1:=([.int .i64 1,.func (.func 27) #[] #[]]:List Value)
abbrev Zb2:=([.int .i64 5,.func (.func 29) #[] #[]]:List Value)
abbrev Zdi:=([.int .i64 2,.func (.func 28) #[] #[]]:List Value)
abbrev Zd4:=(#[.int .i64 5,.func (.func 29) #[] #[]]:Array Value)
abbrev Zde:=(#[.int .i64 1,.func (.func 27) #[] #[]]:Array Value)
abbrev Zd7:=(#[.int .i64 2,.func (.func 28) #[] #[]]:Array Value)
abbrev Zs(a:Nat)(b c:Int):=(blk a 107 (Zi b c):Res)
abbrev Zb8(a:Ent):=(.agg #[.int .i64 a.ix,.int .i64 a.key]:Value)
abbrev Zae(a:Nat):=(#[.pointer (some ⟨a,0,none⟩),.int .i64 0]:Array Value)
abbrev Zak(a:Int)(b:Nat):=([.int .i64 a,.pointer (some ⟨b,0,none⟩)]:List Value)
abbrev Za2(a:Nat)(b:Int):=([.pointer (some ⟨a,0,none⟩),.int .i64 b]:List Value)
abbrev Zn(a:Nat)(b:Int):=(#[.pointer (some ⟨a,0,none⟩),.int .i64 b]:Array Value)
abbrev Zbq:=(#[.agg #[.int .i64 0,.int .i64 0],.bool false]:Array Value)
abbrev Zad(a:Nat)(b:Int):=(#[.pointer (some ⟨a,0,none⟩),.int .u64 b]:Array Value)
abbrev Zap(a:WW)(b:Int):=(blk a.cb 107 (Zi b a.now):Res)
abbrev Zbh(a b:Int):=(#[.agg (Zah a b),.bool true]:Array Value)
abbrev Zbj:=([.int .i64 0,.int .i64 0,.int .i64 0,.int .i64 0]:List Value)
abbrev Zce:=([.int .i64 0,.int .i64 0,.int .i64 0,.bool false]:List Value)
abbrev Zb1(a:Int)(b:Nat):=(.agg #[.int .i64 a,.pointer (some ⟨b,0,none⟩)]:Value)
abbrev Zes a b:=(mapV a .u64 p_ b:Res)
abbrev Zc3(a:Nat):=(.func (.func 208) (Zk a) #[]:Value)
abbrev Zd3(a:Nat):=(.func (.func 207) (Zk a) #[]:Value)
abbrev Zx:=([.int .i64 20,.int .i64 30,.int .i64 10,.int .i64 0]:List Value)
abbrev Zac(a:Nat)(b:Int) c d:=([.pointer (some ⟨a,0,none⟩),.int .i64 b,c,d]:List Value)
abbrev Za6(a b c d:Int):=([.int .i64 a,.int .i64 b,.int .i64 c,.int .i64 d]:List Value)
abbrev Za7:=(.agg #[.int .i64 20,.int .i64 30,.int .i64 10,.int .i64 0]:Value)
abbrev Zcg(a:Nat) b c:=(.agg #[.pointer none,.pointer (some ⟨a,0,none⟩),b,c]:Value)
abbrev Z1(a:Nat)(b c:Int):=(#[.pointer (some ⟨a,0,none⟩),.int .i64 b,.int .i64 c]:Array Value)
abbrev Za3(a b:Nat):=([.pointer (some ⟨a,0,none⟩),.pointer (some ⟨b,0,none⟩)]:List Value)
abbrev Zb6(a b:Nat):=(#[.pointer (some ⟨a,0,none⟩),.pointer (some ⟨b,0,none⟩)]:Array Value)
abbrev Zay(a b c d:Int):=(.agg #[.int .i64 a,.int .i64 b,.int .i64 c,.int .i64 d]:Value)
abbrev Zdm(a b c d:Int):=(.agg #[.int .u64 a,.int .u64 b,.int .i64 c,.int .i64 d]:Value)
abbrev Zdv(a b:Nat):=(#[.pointer none,.slice (some ⟨a,0,none⟩) b b,.int .i64 0]:Array Value)
abbrev Zda(a b c d:Int):=(#[.agg #[.int .i64 a,.int .i64 b,.int .i64 c,.int .i64 d]]:Array Value)
abbrev Zo(a:Lv):=([.int .u64 a.u,.int .u64 a.v,.int .i64 a.wt,.int .i64 a.t]:List Value)
abbrev Zdw a (b c:Nat):=(#[a,.pointer (some ⟨b,0,none⟩),.pointer (some ⟨c,0,none⟩)]:Array Value)
abbrev Zdd(a:Int) b (c d:Nat):=([.pointer none,.int .i64 a,b,.slice (some ⟨c,0,none⟩) d d]:List Value)
abbrev Zam(a:Lv):=(.agg #[.int .u64 a.u,.int .u64 a.v,.int .i64 a.wt,.int .i64 a.t]:Value)
abbrev Zci(a:Int) b (c d:Nat):=(.agg #[.pointer none,.int .i64 a,b,.slice (some ⟨c,0,none⟩) d d]:Value)
abbrev Zaf(a b:Nat)(c:TW):=([.pointer (some ⟨a,0,none⟩),.pointer (some ⟨b,0,none⟩),c.iv,c.cv]:List Value)
abbrev Zm(a b c:Nat)(d:Int):=([.pointer (some ⟨a,0,none⟩),.slice (some ⟨b,0,none⟩) c c,.int .i64 d]:List Value)
abbrev Zdb(a:Int)(b c:Nat):=(#[.pointer none,.int .i64 a,.slice none 0 0,.slice (some ⟨b,0,none⟩) c c]:Array Value)
abbrev Zcq(a:Nat)(b:Int) c (d e:Nat):=([.pointer (some ⟨a,0,none⟩),.int .i64 b,c,.slice (some ⟨d,0,none⟩) e e]:List Value)
abbrev Zc9(a:Int):=(#[.pointer none,.slice none 0 0,.int .i64 a,.int .i64 0,.int .i64 0,.int .i64 (-1)]:Array Value)
abbrev Zt:=([.int .i64 0,.int .u64 0,.int .u64 0,.int .u64 0,.int .i64 0,.int .i64 0,.int .i64 0]:List Value)
abbrev Zcl:=(#[.int .i64 0,.int .u64 0,.int .u64 0,.int .u64 0,.int .i64 0,.int .i64 0,.int .i64 0]:Array Value)
abbrev Zdu(a b c:Nat):=([.pointer (some ⟨a,0,none⟩),.pointer (some ⟨b,0,none⟩),.pointer (some ⟨c,0,none⟩)]:List Value)
abbrev Zbc(a b c:Nat)(d:Int):=(blk a 265 (Zm a b c d):Res)
abbrev Zdo(a:Nat)(b:Int)(c d:Nat):=([.pointer (some ⟨a,0,none⟩),.int .i64 b,.slice none 0 0,.slice (some ⟨c,0,none⟩) d d]:List Value)
abbrev Zdy(a b c:Nat):=(#[.pointer none,.pointer (some ⟨a,0,none⟩),.slice none 0 0,.slice (some ⟨b,0,none⟩) c c]:Array Value)
abbrev Zbd(a:Nat) b (c:As) (d:Int):=([.pointer (some ⟨a,0,none⟩),b,.int .i64 c.n,.int .i64 d,.int .i64 c.used,.int .i64 c.last]:List Value)
abbrev Zcw(a:Nat) b (c:As) (d:Int):=([.pointer (some ⟨a,0,none⟩),b,.int .i64 c.n,.int .i64 c.begun,.int .i64 c.used,.int .i64 d]:List Value)
abbrev Zbn(a:Nat)(b:Lv):=(#[.pointer (some ⟨a,0,none⟩),.agg #[.int .u64 b.u,.int .u64 b.v,.int .i64 b.wt,.int .i64 b.t]]:Array Value)
abbrev Zd2(a:As):=(#[.pointer none,.slice none 0 0,.int .i64 a.n,.int .i64 a.begun,.int .i64 a.used,.int .i64 a.last]:Array Value)
abbrev Zcu(a b c d e:Int) f g h:=([.int .i64 a,.int .i64 b,.int .i64 c,.int .i64 d,.int .i64 e,f,.int .i64 0,.map g,.map h]:List Value)
abbrev Zc2(a b c d e:Int) f g h:=(#[.int .i64 a,.int .i64 b,.int .i64 c,.int .i64 d,.int .i64 e,f,.int .i64 0,.map g,.map h]:Array Value)
abbrev Zy(a:Nat) b (c:As):=([.pointer (some ⟨a,0,none⟩),b,.int .i64 c.n,.int .i64 c.begun,.int .i64 c.used,.int .i64 c.last]:List Value)
abbrev Zc8(a b c d e:Int) f (g:Int) h i:=([.int .i64 a,.int .i64 b,.int .i64 c,.int .i64 d,.int .i64 e,f,.int .i64 g,.map h,.map i]:List Value)
abbrev Z8(a b:Int)(c:Lv):=([.int .i64 a,.int .u64 b,.int .u64 c.u,.int .u64 c.v,.int .i64 c.wt,.int .i64 c.t,.int .i64 c.exp]:List Value)
abbrev Zc4(a b:Int)(c d:Nat) e:=(#[.int .i64 a,.int .i64 b,.pointer (some ⟨c,0,none⟩),.pointer (some ⟨d,0,none⟩),.map e,.int .i64 0]:Array Value)
abbrev Zea(a b:Int)(c:Lv)(d:Int):=(.agg #[.int .i64 a,.int .u64 b,.int .u64 c.u,.int .u64 c.v,.int .i64 c.wt,.int .i64 c.t,.int .i64 d]:Value)
abbrev Zb3(a b c:Int)(d e:Nat) f g:=([.int .i64 a,.int .i64 b,.int .u64 c,.pointer (some ⟨d,0,none⟩),.pointer (some ⟨e,0,none⟩),f,.map g]:List Value)
abbrev Zbx(a b:Int)(c:Lv):=(.agg #[.int .i64 a,.int .u64 b,.int .u64 c.u,.int .u64 c.v,.int .i64 c.wt,.int .i64 c.t,.int .i64 c.exp]:Value)
abbrev Zdh(a:Nat)(b:As):=([.pointer (some ⟨a,0,none⟩),.slice none 0 0,.int .i64 b.n,.int .i64 b.begun,.int .i64 b.used,.int .i64 b.last]:List Value)
abbrev Zr(a:Lv):=([.int .i64 a.slot,.int .u64 a.seq,.int .u64 a.u,.int .u64 a.v,.int .i64 a.wt,.int .i64 a.t,.int .i64 a.exp]:List Value)
abbrev Zcp a (b:Nat) (c:Int) (d:Nat) (e:Bool) (f g h:Nat) (i:Int):=([a,blk b 3 (Zd c),blk d 4 [.bool e],blk f 127 (Zj g),blk h 30 (Zz i)]:List Res)
abbrev Zb4(a b c:Int)(d:Sto) e f:=([.int .i64 a,.int .i64 b,.int .u64 c,.pointer (some ⟨d.aab,0,none⟩),.pointer (some ⟨d.tb,0,none⟩),e,.map f]:List Value)
abbrev Zbb(a b:Int)(c:GW) d:=([.int .i64 a,.int .i64 b,.pointer (some ⟨c.fb,0,none⟩),.pointer (some ⟨c.hb,0,none⟩),.map d,.int .i64 c.trees]:List Value)
abbrev Zan(a:Lv):=(.agg #[.int .i64 a.slot,.int .u64 a.seq,.int .u64 a.u,.int .u64 a.v,.int .i64 a.wt,.int .i64 a.t,.int .i64 a.exp]:Value)
abbrev Zd5(a b c:Nat)(d:List Nd):=([blk a 265 [.pointer (some ⟨a,0,none⟩),.slice (some ⟨b,0,none⟩) c c,.int .i64 0],blk b 269 (d.flatMap Nd.cells)]:List Res)
abbrev Zax(a b c:Int)(d:Sto) e:=([.int .i64 a,.int .i64 b,.int .u64 c,.pointer (some ⟨d.aab,0,none⟩),.pointer (some ⟨d.tb,0,none⟩),d.lv,.map e]:List Value)
abbrev Zc6(a b:Int)(c d:Nat) e:=([.int .i64 a,.int .i64 b,.int .u64 0,.pointer (some ⟨c,0,none⟩),.pointer (some ⟨d,0,none⟩),.slice none 0 0,.map e]:List Value)
abbrev Zcs(a b c:Nat)(d:Int)(e:List Nd):=([blk a 265 (Zm a b c d),blk b 269 (e.flatMap Nd.cells)]:List Res)
abbrev Zc0(a b:Int)(c d:Nat) e:=(#[.int .i64 a,.int .i64 b,.int .u64 0,.pointer (some ⟨c,0,none⟩),.pointer (some ⟨d,0,none⟩),.slice none 0 0,.map e]:Array Value)
abbrev Zaa(a b:Int)(c:Sto) d:=([.int .i64 a,.int .i64 b,.int .u64 c.last,.pointer (some ⟨c.aab,0,none⟩),.pointer (some ⟨c.tb,0,none⟩),c.lv,.map d]:List Value)
abbrev Zh(a b c:Nat)(d:Int)(e:List Nd):=(allR (Zcs a b c d e):Res)
abbrev Zb5(a b:Int)(c:Lv)(d:Int):=(.tuple #[.agg #[.int .i64 a,.int .u64 b,.int .u64 c.u,.int .u64 c.v,.int .i64 c.wt,.int .i64 c.t,.int .i64 d],.int .i64 0]:Value)
abbrev Zdx(a b c d:Int):=(#[.int .i64 a,.int .i64 b,.int .i64 c,.int .i64 d,.pointer none,.pointer none,.pointer none,.pointer none,.int .u64 0,.int .u64 0]:Array Value)
abbrev Zat(a:Nat)(b:Int) c d e f g:=([blk a 262 (Zac a b c d),rowR Ent.cells c 111 2 e,rowR pcf d 277 1 f,chk ncf 279 64 f g]:List Res)
abbrev Zcm(a b:Nat)(c:TW) d:=([blk a 258 (Zaf a b c),rowR ucf c.iv 30 1 c.ids,rowR ncf c.cv 3 1 d]:List Res)
abbrev Zb9(a b:Nat)(c:TW):=([blk a 258 (Zaf a b c),rowR ucf c.iv 30 1 c.ids,rowR ncf c.cv 3 1 c.cs]:List Res)
abbrev Zg(a:Nat)(b:Int) c d e f g:=(allR (Zat a b c d e f g):Res)
abbrev Zbu(a b:Nat)(c:TW) d:=(allR (Zcm a b c d):Res)
abbrev Z2(a b:Nat)(c:TW):=(allR (Zb9 a b c):Res)
abbrev Zcx(a:Nat)(b:Lv):=(#[.pointer (some ⟨a,0,none⟩),.agg #[.int .i64 b.slot,.int .u64 b.seq,.int .u64 b.u,.int .u64 b.v,.int .i64 b.wt,.int .i64 b.t,.int .i64 b.exp]]:Array Value)
abbrev Za9(a:Nat) b (c d e f:Int) g h:=(allR [blk a 205 [.pointer (some ⟨a,0,none⟩),b,.int .i64 c,.int .i64 d,.int .i64 e,.int .i64 f],rowR pcf b 270 1 g,chk Slt.cells 274 64 g h]:Res)
abbrev Zeb(a:Nat) b (c:As) (d:Int) e f:=([blk a 205 (Zbd a b c d),rowR pcf b 270 1 e,chk Slt.cells 274 64 e f]:List Res)
abbrev Zdf(a:Nat) b (c d e:Int) (f:As):=(allR [blk a 205 [.pointer (some ⟨a,0,none⟩),b,.int .i64 c,.int .i64 d,.int .i64 e,.int .i64 f.last],rowR pcf b 270 1 f.ps,chk Slt.cells 274 64 f.ps f.sl]:Res)
abbrev Zbe a (b c d e:Nat) (f:Int) (g:List Nd):=([a,blk b 167 (Zj c),blk c 265 (Zm c d e f),blk d 269 (g.flatMap Nd.cells)]:List Res)
abbrev Zdg(a:Nat) b (c:As) (d:Int):=([blk a 205 (Zbd a b c d),rowR pcf b 270 1 c.ps,chk Slt.cells 274 64 c.ps c.sl]:List Res)
abbrev Zdp(a:Nat)(b:Int):=([chk Slt.cells 274 64 ([]) ([]),rowR pcf Zl 270 1 ([]),blk a 205 [.pointer (some ⟨a,0,none⟩),.slice none 0 0,.int .i64 b,.int .i64 0,.int .i64 0,.int .i64 (-1)]]:List Res)
abbrev Zbi(a:Nat) b (c:As):=([blk a 205 (Zy a b c),rowR pcf b 270 1 c.ps,chk Slt.cells 274 64 c.ps c.sl]:List Res)
abbrev Zq(a:Nat) b (c:As):=(allR (Zbi a b c):Res)
abbrev Zej(a:Nat) b (c:As) d e:=([blk a 205 (Zy a b c),rowR pcf b 270 1 c.ps,chk Slt.cells 274 64 c.ps c.sl,rowI .i64 d 3 e]:List Res)
abbrev Zei(a b c d:Nat)(e:Int)(f:List Nd) g h (i:Nat):=([blk a 167 (Zj b),blk b 265 (Zm b c d e),blk c 269 (f.flatMap Nd.cells),rowI .i64 g 3 h,blk i 115 [g]]:List Res)
abbrev Zdl(a:Nat)(b:Int)(c d:Nat)(e:Int) f g h i j:=([blk a 3 (Zd b),blk c 162 (Zj d),blk d 262 (Zac d e f g),rowR Ent.cells f 111 2 h,rowR pcf g 277 1 i,chk ncf 279 64 i j]:List Res)
abbrev Zav(a:Nat)(b:Int)(c d:Nat)(e:Int) f g h i j:=(allR (Zdl a b c d e f g h i j):Res)
abbrev Zb0 a (b c:Nat) (d:TW) (e f:Nat) (g:Int):=(allR [a,blk b 258 (Zaf b c d),rowR ucf d.iv 30 1 d.ids,rowR ncf d.cv 3 1 d.cs,blk e 127 (Zj b),blk f 30 (Zz g)]:Res)
abbrev Za0(a b c d:Int)(e:WW):=([.int .i64 a,.int .i64 b,.int .i64 c,.int .i64 d,.pointer (some ⟨e.cb,0,none⟩),.pointer (some ⟨e.ub,0,none⟩),.pointer (some ⟨e.sb,0,none⟩),.pointer (some ⟨e.ob,0,none⟩),.int .u64 e.added,.int .u64 e.expired]:List Value)
abbrev Zaj(a:Nat)(b:Lv)(c:Nat)(d e f g h:Int) i (j:Int) k l m n:=([blk a 34 (Zr b),blk c 59 (Zc8 d e f g h i j k l),m,n]:List Res)
abbrev Zdc(a:Nat)(b:Int) c d e f g (h:Nat) i (j k:Nat) l:=([blk a 262 (Zac a b c d),rowR Ent.cells c 111 2 e,rowR pcf d 277 1 f,chk ncf 279 64 f g,blk h 262 (Zcq h b i j k),rowR Ent.cells i 111 2 e,rowR pcf (Zu j k) 277 1 l,chk ncf 279 64 l g]:List Res)
abbrev Zeg(a:Nat) b (c:As) (d:Nat) e f:=(allR [blk a 205 (Zy a b c),rowR pcf b 270 1 c.ps,chk Slt.cells 274 64 c.ps c.sl,blk d 205 (Zy d e c),rowR pcf e 270 1 f,chk Slt.cells 274 64 f c.sl]:Res)
abbrev Zcn:=([.int .i64 0,.int .i64 0,.int .i64 0,.int .i64 0,.int .i64 0,.int .i64 0,.int .i64 0,.int .i64 0,.int .i64 0,.int .i64 0,.int .i64 0,.int .i64 0,.int .i64 0,.int .i64 0,.int .i64 0,.int .i64 0,.int .i64 0,.int .i64 0,.int .i64 0,.int .i64 0,.int .i64 0,.int .i64 0,.int .i64 0,.int .i64 0,.int .i64 0,.int .i64 0,.int .i64 0,.int .i64 0,.int .i64 0,.int .i64 0,.int .i64 0,.int .i64 0,.int .i64 0,.int .i64 0,.int .i64 0,.int .i64 0,.int .i64 0,.int .i64 0,.int .i64 0,.int .i64 0,.int .i64 0,.int .i64 0,.int .i64 0,.int .i64 0,.int .i64 0,.int .i64 0,.int .i64 0,.int .i64 0,.int .i64 0,.int .i64 0,.int .i64 0,.int .i64 0,.int .i64 0,.int .i64 0,.int .i64 0,.int .i64 0,.int .i64 0,.int .i64 0,.int .i64 0,.int .i64 0,.int .i64 0,.int .i64 0,.int .i64 0,.int .i64 0]:List Value)
abbrev Zbz:=([.int .i64 0,.int .i64 0,.int .u64 0,.int .i64 0,.int .i64 0,.int .u64 0,.int .i64 0,.int .i64 0,.int .u64 0,.int .i64 0,.int .i64 0,.int .u64 0,.int .i64 0,.int .i64 0,.int .u64 0,.int .i64 0,.int .i64 0,.int .u64 0,.int .i64 0,.int .i64 0,.int .u64 0,.int .i64 0,.int .i64 0,.int .u64 0,.int .i64 0,.int .i64 0,.int .u64 0,.int .i64 0,.int .i64 0,.int .u64 0,.int .i64 0,.int .i64 0,.int .u64 0,.int .i64 0,.int .i64 0,.int .u64 0,.int .i64 0,.int .i64 0,.int .u64 0,.int .i64 0,.int .i64 0,.int .u64 0,.int .i64 0,.int .i64 0,.int .u64 0,.int .i64 0,.int .i64 0,.int .u64 0,.int .i64 0,.int .i64 0,.int .u64 0,.int .i64 0,.int .i64 0,.int .u64 0,.int .i64 0,.int .i64 0,.int .u64 0,.int .i64 0,.int .i64 0,.int .u64 0,.int .i64 0,.int .i64 0,.int .u64 0,.int .i64 0,.int .i64 0,.int .u64 0,.int .i64 0,.int .i64 0,.int .u64 0,.int .i64 0,.int .i64 0,.int .u64 0,.int .i64 0,.int .i64 0,.int .u64 0,.int .i64 0,.int .i64 0,.int .u64 0,.int .i64 0,.int .i64 0,.int .u64 0,.int .i64 0,.int .i64 0,.int .u64 0,.int .i64 0,.int .i64 0,.int .u64 0,.int .i64 0,.int .i64 0,.int .u64 0,.int .i64 0,.int .i64 0,.int .u64 0,.int .i64 0,.int .i64 0,.int .u64 0,.int .i64 0,.int .i64 0,.int .u64 0,.int .i64 0,.int .i64 0,.int .u64 0,.int .i64 0,.int .i64 0,.int .u64 0,.int .i64 0,.int .i64 0,.int .u64 0,.int .i64 0,.int .i64 0,.int .u64 0,.int .i64 0,.int .i64 0,.int .u64 0,.int .i64 0,.int .i64 0,.int .u64 0,.int .i64 0,.int .i64 0,.int .u64 0,.int .i64 0,.int .i64 0,.int .u64 0,.int .i64 0,.int .i64 0,.int .u64 0,.int .i64 0,.int .i64 0,.int .u64 0,.int .i64 0,.int .i64 0,.int .u64 0,.int .i64 0,.int .i64 0,.int .u64 0,.int .i64 0,.int .i64 0,.int .u64 0,.int .i64 0,.int .i64 0,.int .u64 0,.int .i64 0,.int .i64 0,.int .u64 0,.int .i64 0,.int .i64 0,.int .u64 0,.int .i64 0,.int .i64 0,.int .u64 0,.int .i64 0,.int .i64 0,.int .u64 0,.int .i64 0,.int .i64 0,.int .u64 0,.int .i64 0,.int .i64 0,.int .u64 0,.int .i64 0,.int .i64 0,.int .u64 0,.int .i64 0,.int .i64 0,.int .u64 0,.int .i64 0,.int .i64 0,.int .u64 0,.int .i64 0,.int .i64 0,.int .u64 0,.int .i64 0,.int .i64 0,.int .u64 0,.int .i64 0,.int .i64 0,.int .u64 0,.int .i64 0,.int .i64 0,.int .u64 0,.int .i64 0,.int .i64 0,.int .u64 0,.int .i64 0,.int .i64 0,.int .u64 0,.int .i64 0,.int .i64 0,.int .u64 0,.int .i64 0,.int .i64 0,.int .u64 0]:List Value)
abbrev Zd0 a (b c:Nat) d (e:As) f g:=([a,blk b 274 Zbz,blk c 205 (Zy c d e),rowR pcf f 270 1 g,chk Slt.cells 274 64 e.ps e.sl]:List Res)
end
section
open Go Go.Sx
theorem ti2:(ya.info? 2).map (fun i=>(i.size,i.bytes,i.zero))=some (1,8,some (.int .i64 0)):=by kernel_rfl
theorem ti3:(ya.info? 3).map (fun i=>(i.size,i.bytes,i.zero))=some (1,8,some (.int .i64 0)):=by kernel_rfl
theorem ti4:(ya.info? 4).map (fun i=>(i.size,i.bytes,i.zero))=some (1,1,some (.bool false)):=by kernel_rfl
theorem ti5:(ya.info? 5).map (fun i=>(i.size,i.bytes,i.zero))=some (1,1,some (.int .u8 0)):=by kernel_rfl
theorem ti24:(ya.info? 24).map (fun i=>(i.size,i.bytes,i.zero))=some (4,32,some (.agg #[(.int .i64 0),(.int .i64 0),(.int .i64 0),(.int .i64 0)])):=by kernel_rfl
theorem ti25:(ya.info? 25).map (fun i=>(i.size,i.bytes,i.zero))=some (1,24,some (.slice none 0 0)):=by kernel_rfl
theorem ti30:(ya.info? 30).map (fun i=>(i.size,i.bytes,i.zero))=some (1,8,some (.int .u64 0)):=by kernel_rfl
theorem ti32:(ya.info? 32).map (fun i=>(i.size,i.bytes,i.zero))=some (4,32,some (.agg #[(.int .u64 0),(.int .u64 0),(.int .i64 0),(.int .i64 0)])):=by kernel_rfl
theorem ti34:(ya.info? 34).map (fun i=>(i.size,i.bytes,i.zero))=some (7,56,some (.agg #[(.int .i64 0),(.int .u64 0),(.int .u64 0),(.int .u64 0),(.int .i64 0),(.int .i64 0),(.int .i64 0)])):=by kernel_rfl
theorem ti36:(ya.info? 36).map (fun i=>(i.size,i.bytes,i.zero))=some (2,16,some (.agg #[(.int .i64 0),(.int .i64 0)])):=by kernel_rfl
theorem ti44:(ya.info? 44).map (fun i=>(i.size,i.bytes,i.zero))=some (1,24,some (.slice none 0 0)):=by kernel_rfl
theorem ti46:(ya.info? 46).map (fun i=>(i.size,i.bytes,i.zero))=some (1,8,some (.int .i64 0)):=by kernel_rfl
theorem ti50:(ya.info? 50).map (fun i=>(i.size,i.bytes,i.zero))=some (1,1,some (.int .i8 0)):=by kernel_rfl
theorem ti52:(ya.info? 52).map (fun i=>(i.size,i.bytes,i.zero))=some (4,4,some (.agg #[(.int .u8 0),(.int .u8 0),(.int .i8 0),(.int .u8 0)])):=by kernel_rfl
theorem ti56:(ya.info? 56).map (fun i=>(i.size,i.bytes,i.zero))=some (1,8,some (.map none)):=by kernel_rfl
theorem ti57:(ya.info? 57).map (fun i=>(i.size,i.bytes,i.zero))=some (1,8,some (.map none)):=by kernel_rfl
theorem ti59:(ya.info? 59).map (fun i=>(i.size,i.bytes,i.zero))=some (9,88,some (.agg #[(.int .i64 0),(.int .i64 0),(.int .i64 0),(.int .i64 0),(.int .i64 0),(.slice none 0 0),(.int .i64 0),(.map none),(.map none)])):=by kernel_rfl
theorem ti62:(ya.info? 62).map (fun i=>(i.size,i.bytes,i.zero))=some (1,8,some .nilFunc):=by kernel_rfl
theorem ti64:(ya.info? 64).map (fun i=>(i.size,i.bytes,i.zero))=some (2,16,some (.agg #[(.int .i64 0),.nilFunc])):=by kernel_rfl
theorem ti78:(ya.info? 78).map (fun i=>(i.size,i.bytes,i.zero))=some (1,8,some (.pointer none)):=by kernel_rfl
theorem ti79:(ya.info? 79).map (fun i=>(i.size,i.bytes,i.zero))=some (1,8,some (.pointer none)):=by kernel_rfl
theorem ti80:(ya.info? 80).map (fun i=>(i.size,i.bytes,i.zero))=some (1,8,some (.pointer none)):=by kernel_rfl
theorem ti81:(ya.info? 81).map (fun i=>(i.size,i.bytes,i.zero))=some (1,8,some (.pointer none)):=by kernel_rfl
theorem ti83:(ya.info? 83).map (fun i=>(i.size,i.bytes,i.zero))=some (10,80,some (.agg #[(.int .i64 0),(.int .i64 0),(.int .i64 0),(.int .i64 0),(.pointer none),(.pointer none),(.pointer none),(.pointer none),(.int .u64 0),(.int .u64 0)])):=by kernel_rfl
theorem ti96:(ya.info? 96).map (fun i=>(i.size,i.bytes,i.zero))=some (4,32,some (.agg #[(.int .i64 0),(.int .i64 0),(.int .i64 0),(.int .i64 0)])):=by kernel_rfl
theorem ti105:(ya.info? 105).map (fun i=>(i.size,i.bytes,i.zero))=some (1,8,some (.int .i64 0)):=by kernel_rfl
theorem ti107:(ya.info? 107).map (fun i=>(i.size,i.bytes,i.zero))=some (2,16,some (.agg #[(.int .i64 0),(.int .i64 0)])):=by kernel_rfl
theorem ti111:(ya.info? 111).map (fun i=>(i.size,i.bytes,i.zero))=some (2,16,some (.agg #[(.int .i64 0),(.int .i64 0)])):=by kernel_rfl
theorem ti115:(ya.info? 115).map (fun i=>(i.size,i.bytes,i.zero))=some (1,24,some (.slice none 0 0)):=by kernel_rfl
theorem ti126:(ya.info? 126).map (fun i=>(i.size,i.bytes,i.zero))=some (1,8,some (.pointer none)):=by kernel_rfl
theorem ti127:(ya.info? 127).map (fun i=>(i.size,i.bytes,i.zero))=some (1,8,some (.pointer none)):=by kernel_rfl
theorem ti128:(ya.info? 128).map (fun i=>(i.size,i.bytes,i.zero))=some (1,8,some (.map none)):=by kernel_rfl
theorem ti130:(ya.info? 130).map (fun i=>(i.size,i.bytes,i.zero))=some (7,72,some (.agg #[(.int .i64 0),(.int .i64 0),(.int .u64 0),(.pointer none),(.pointer none),(.slice none 0 0),(.map none)])):=by kernel_rfl
theorem ti162:(ya.info? 162).map (fun i=>(i.size,i.bytes,i.zero))=some (1,8,some (.pointer none)):=by kernel_rfl
theorem ti166:(ya.info? 166).map (fun i=>(i.size,i.bytes,i.zero))=some (2,16,some (.agg #[(.int .i64 0),(.pointer none)])):=by kernel_rfl
theorem ti167:(ya.info? 167).map (fun i=>(i.size,i.bytes,i.zero))=some (1,8,some (.pointer none)):=by kernel_rfl
theorem ti171:(ya.info? 171).map (fun i=>(i.size,i.bytes,i.zero))=some (1,8,some (.agg #[(.pointer none)])):=by kernel_rfl
theorem ti172:(ya.info? 172).map (fun i=>(i.size,i.bytes,i.zero))=some (1,8,some (.map none)):=by kernel_rfl
theorem ti174:(ya.info? 174).map (fun i=>(i.size,i.bytes,i.zero))=some (6,48,some (.agg #[(.int .i64 0),(.int .i64 0),(.pointer none),(.pointer none),(.map none),(.int .i64 0)])):=by kernel_rfl
theorem ti177:(ya.info? 177).map (fun i=>(i.size,i.bytes,i.zero))=some (2,16,some (.agg #[(.int .u64 0),(.int .u64 0)])):=by kernel_rfl
theorem ti192:(ya.info? 192).map (fun i=>(i.size,i.bytes,i.zero))=some (4,32,some (.agg #[(.int .i64 0),(.int .i64 0),(.int .i64 0),(.bool false)])):=by kernel_rfl
theorem ti203:(ya.info? 203).map (fun i=>(i.size,i.bytes,i.zero))=some (1,24,some (.slice none 0 0)):=by kernel_rfl
theorem ti205:(ya.info? 205).map (fun i=>(i.size,i.bytes,i.zero))=some (6,64,some (.agg #[(.pointer none),(.slice none 0 0),(.int .i64 0),(.int .i64 0),(.int .i64 0),(.int .i64 0)])):=by kernel_rfl
theorem ti258:(ya.info? 258).map (fun i=>(i.size,i.bytes,i.zero))=some (4,64,some (.agg #[(.pointer none),(.pointer none),(.slice none 0 0),(.slice none 0 0)])):=by kernel_rfl
theorem ti259:(ya.info? 259).map (fun i=>(i.size,i.bytes,i.zero))=some (1,24,some (.slice none 0 0)):=by kernel_rfl
theorem ti260:(ya.info? 260).map (fun i=>(i.size,i.bytes,i.zero))=some (1,24,some (.slice none 0 0)):=by kernel_rfl
theorem ti262:(ya.info? 262).map (fun i=>(i.size,i.bytes,i.zero))=some (4,64,some (.agg #[(.pointer none),(.int .i64 0),(.slice none 0 0),(.slice none 0 0)])):=by kernel_rfl
theorem ti263:(ya.info? 263).map (fun i=>(i.size,i.bytes,i.zero))=some (1,24,some (.slice none 0 0)):=by kernel_rfl
theorem ti265:(ya.info? 265).map (fun i=>(i.size,i.bytes,i.zero))=some (3,40,some (.agg #[(.pointer none),(.slice none 0 0),(.int .i64 0)])):=by kernel_rfl
theorem ti267:(ya.info? 267).map (fun i=>(i.size,i.bytes,i.zero))=some (2,16,some (.agg #[(.int .i64 0),(.int .i64 0)])):=by kernel_rfl
theorem ti269:(ya.info? 269).map (fun i=>(i.size,i.bytes,i.zero))=some (9,72,some (.agg #[(.int .i64 0),(.int .i64 0),(.int .i64 0),(.bool false),(.int .i64 0),(.int .i64 0),(.int .i64 0),(.int .i64 0),(.int .i64 0)])):=by kernel_rfl
theorem ti270:(ya.info? 270).map (fun i=>(i.size,i.bytes,i.zero))=some (1,8,some (.pointer none)):=by kernel_rfl
theorem ti272:(ya.info? 272).map (fun i=>(i.size,i.bytes,i.zero))=some (3,24,some (.agg #[(.int .i64 0),(.int .i64 0),(.int .u64 0)])):=by kernel_rfl
theorem ti274:(ya.info? 274).map (fun i=>(i.size,i.bytes,i.zero))=some (192,1536,some (.agg #[(.int .i64 0),(.int .i64 0),(.int .u64 0),(.int .i64 0),(.int .i64 0),(.int .u64 0),(.int .i64 0),(.int .i64 0),(.int .u64 0),(.int .i64 0),(.int .i64 0),(.int .u64 0),(.int .i64 0),(.int .i64 0),(.int .u64 0),(.int .i64 0),(.int .i64 0),(.int .u64 0),(.int .i64 0),(.int .i64 0),(.int .u64 0),(.int .i64 0),(.int .i64 0),(.int .u64 0),(.int .i64 0),(.int .i64 0),(.int .u64 0),(.int .i64 0),(.int .i64 0),(.int .u64 0),(.int .i64 0),(.int .i64 0),(.int .u64 0),(.int .i64 0),(.int .i64 0),(.int .u64 0),(.int .i64 0),(.int .i64 0),(.int .u64 0),(.int .i64 0),(.int .i64 0),(.int .u64 0),(.int .i64 0),(.int .i64 0),(.int .u64 0),(.int .i64 0),(.int .i64 0),(.int .u64 0),(.int .i64 0),(.int .i64 0),(.int .u64 0),(.int .i64 0),(.int .i64 0),(.int .u64 0),(.int .i64 0),(.int .i64 0),(.int .u64 0),(.int .i64 0),(.int .i64 0),(.int .u64 0),(.int .i64 0),(.int .i64 0),(.int .u64 0),(.int .i64 0),(.int .i64 0),(.int .u64 0),(.int .i64 0),(.int .i64 0),(.int .u64 0),(.int .i64 0),(.int .i64 0),(.int .u64 0),(.int .i64 0),(.int .i64 0),(.int .u64 0),(.int .i64 0),(.int .i64 0),(.int .u64 0),(.int .i64 0),(.int .i64 0),(.int .u64 0),(.int .i64 0),(.int .i64 0),(.int .u64 0),(.int .i64 0),(.int .i64 0),(.int .u64 0),(.int .i64 0),(.int .i64 0),(.int .u64 0),(.int .i64 0),(.int .i64 0),(.int .u64 0),(.int .i64 0),(.int .i64 0),(.int .u64 0),(.int .i64 0),(.int .i64 0),(.int .u64 0),(.int .i64 0),(.int .i64 0),(.int .u64 0),(.int .i64 0),(.int .i64 0),(.int .u64 0),(.int .i64 0),(.int .i64 0),(.int .u64 0),(.int .i64 0),(.int .i64 0),(.int .u64 0),(.int .i64 0),(.int .i64 0),(.int .u64 0),(.int .i64 0),(.int .i64 0),(.int .u64 0),(.int .i64 0),(.int .i64 0),(.int .u64 0),(.int .i64 0),(.int .i64 0),(.int .u64 0),(.int .i64 0),(.int .i64 0),(.int .u64 0),(.int .i64 0),(.int .i64 0),(.int .u64 0),(.int .i64 0),(.int .i64 0),(.int .u64 0),(.int .i64 0),(.int .i64 0),(.int .u64 0),(.int .i64 0),(.int .i64 0),(.int .u64 0),(.int .i64 0),(.int .i64 0),(.int .u64 0),(.int .i64 0),(.int .i64 0),(.int .u64 0),(.int .i64 0),(.int .i64 0),(.int .u64 0),(.int .i64 0),(.int .i64 0),(.int .u64 0),(.int .i64 0),(.int .i64 0),(.int .u64 0),(.int .i64 0),(.int .i64 0),(.int .u64 0),(.int .i64 0),(.int .i64 0),(.int .u64 0),(.int .i64 0),(.int .i64 0),(.int .u64 0),(.int .i64 0),(.int .i64 0),(.int .u64 0),(.int .i64 0),(.int .i64 0),(.int .u64 0),(.int .i64 0),(.int .i64 0),(.int .u64 0),(.int .i64 0),(.int .i64 0),(.int .u64 0),(.int .i64 0),(.int .i64 0),(.int .u64 0),(.int .i64 0),(.int .i64 0),(.int .u64 0),(.int .i64 0),(.int .i64 0),(.int .u64 0),(.int .i64 0),(.int .i64 0),(.int .u64 0),(.int .i64 0),(.int .i64 0),(.int .u64 0),(.int .i64 0),(.int .i64 0),(.int .u64 0)])):=by kernel_rfl
theorem ti277:(ya.info? 277).map (fun i=>(i.size,i.bytes,i.zero))=some (1,8,some (.pointer none)):=by kernel_rfl
theorem ti279:(ya.info? 279).map (fun i=>(i.size,i.bytes,i.zero))=some (64,512,some (.agg #[(.int .i64 0),(.int .i64 0),(.int .i64 0),(.int .i64 0),(.int .i64 0),(.int .i64 0),(.int .i64 0),(.int .i64 0),(.int .i64 0),(.int .i64 0),(.int .i64 0),(.int .i64 0),(.int .i64 0),(.int .i64 0),(.int .i64 0),(.int .i64 0),(.int .i64 0),(.int .i64 0),(.int .i64 0),(.int .i64 0),(.int .i64 0),(.int .i64 0),(.int .i64 0),(.int .i64 0),(.int .i64 0),(.int .i64 0),(.int .i64 0),(.int .i64 0),(.int .i64 0),(.int .i64 0),(.int .i64 0),(.int .i64 0),(.int .i64 0),(.int .i64 0),(.int .i64 0),(.int .i64 0),(.int .i64 0),(.int .i64 0),(.int .i64 0),(.int .i64 0),(.int .i64 0),(.int .i64 0),(.int .i64 0),(.int .i64 0),(.int .i64 0),(.int .i64 0),(.int .i64 0),(.int .i64 0),(.int .i64 0),(.int .i64 0),(.int .i64 0),(.int .i64 0),(.int .i64 0),(.int .i64 0),(.int .i64 0),(.int .i64 0),(.int .i64 0),(.int .i64 0),(.int .i64 0),(.int .i64 0),(.int .i64 0),(.int .i64 0),(.int .i64 0),(.int .i64 0)])):=by kernel_rfl
theorem pl24:PLs ya 24 [(0,1),(1,1),(2,1),(3,1)]:=⟨_,yat,fun w=>by simp[TI.size ti2,TI.size ti3]⟩
theorem pl32:PLs ya 32 [(0,1),(1,1),(2,1),(3,1)]:=⟨_,yal,fun w=>by simp[TI.size ti2,TI.size ti30]⟩
theorem pl34:PLs ya 34 [(0,1),(1,1),(2,4),(6,1)]:=⟨_,yy,fun w=>by simp[TI.size ti2,TI.size ti3,TI.size ti30,TI.size ti32]⟩
theorem pl36:PLs ya 36 [(0,1),(1,1)]:=⟨_,ybe,fun w=>by simp[TI.size ti3]⟩
theorem pl59:PLs ya 59 [(0,4),(4,1),(5,1),(6,1),(7,1),(8,1)]:=⟨_,ybo,fun w=>by simp[TI.size ti2,TI.size ti24,TI.size ti25,TI.size ti3,TI.size ti56,TI.size ti57]⟩
theorem pl64:PLs ya 64 [(0,1),(1,1)]:=⟨_,yay,fun w=>by simp[TI.size ti3,TI.size ti62]⟩
theorem pl83:PLs ya 83 [(0,4),(4,1),(5,1),(6,1),(7,1),(8,1),(9,1)]:=⟨_,ybp,fun w=>by simp[TI.size ti24,TI.size ti30,TI.size ti78,TI.size ti79,TI.size ti80,TI.size ti81]⟩
theorem pl107:PLs ya 107 [(0,1),(1,1)]:=⟨_,Tryz.underlying107,fun w=>by simp[TI.size ti105,TI.size ti2]⟩
theorem pl111:PLs ya 111 [(0,1),(1,1)]:=⟨_,yr,fun w=>by simp[TI.size ti2,TI.size ti3]⟩
theorem pl130:PLs ya 130 [(0,1),(1,1),(2,1),(3,1),(4,1),(5,1),(6,1)]:=⟨_,yai,fun w=>by simp[TI.size ti126,TI.size ti127,TI.size ti128,TI.size ti25,TI.size ti3,TI.size ti30]⟩
theorem pl166:PLs ya 166 [(0,1),(1,1)]:=⟨_,ybi,fun w=>by simp[TI.size ti162,TI.size ti3]⟩
theorem pl171:PLs ya 171 [(0,1)]:=⟨_,Tryz.underlying171,fun w=>by simp[TI.size ti167]⟩
theorem pl174:PLs ya 174 [(0,1),(1,1),(2,1),(3,1),(4,1),(5,1)]:=⟨_,Tryz.underlying174,fun w=>by simp[TI.size ti162,TI.size ti171,TI.size ti172,TI.size ti3]⟩
theorem pl192:PLs ya 192 [(0,1),(1,1),(2,1),(3,1)]:=⟨_,Tryz.underlying192,fun w=>by simp[TI.size ti2,TI.size ti3,TI.size ti4]⟩
theorem pl205:PLs ya 205 [(0,1),(1,1),(2,1),(3,1),(4,1),(5,1)]:=⟨_,Tryz.underlying205,fun w=>by simp[TI.size ti126,TI.size ti203,TI.size ti3]⟩
theorem pl258:PLs ya 258 [(0,1),(1,1),(2,1),(3,1)]:=⟨_,ya5,fun w=>by simp[TI.size ti115,TI.size ti126,TI.size ti127,TI.size ti44]⟩
theorem pl262:PLs ya 262 [(0,1),(1,1),(2,1),(3,1)]:=⟨_,yaw,fun w=>by simp[TI.size ti162,TI.size ti259,TI.size ti260,TI.size ti3]⟩
theorem pl265:PLs ya 265 [(0,1),(1,1),(2,1)]:=⟨_,Tryz.underlying265,fun w=>by simp[TI.size ti167,TI.size ti263,TI.size ti3]⟩
theorem ent6:EntersF ya 6:=enters_of Tryz.func6 k_ rfl
theorem ent7:EntersF ya 7:=enters_of Tryz.func7 k_ rfl
theorem ent8:EntersF ya 8:=enters_of Tryz.func8 k_ rfl
theorem ent9:EntersF ya 9:=enters_of Tryz.func9 k_ rfl
theorem ent11:EntersF ya 11:=enters_of Tryz.func11 k_ rfl
theorem ent12:EntersF ya 12:=enters_of Tryz.func12 k_ rfl
theorem ent13:EntersF ya 13:=enters_of Tryz.func13 k_ rfl
theorem ent14:EntersF ya 14:=enters_of Tryz.func14 k_ rfl
theorem ent15:EntersF ya 15:=enters_of Tryz.func15 k_ rfl
theorem ent19:EntersF ya 19:=enters_of Tryz.func19 k_ rfl
theorem ent20:EntersF ya 20:=enters_of Tryz.func20 k_ rfl
theorem ent21:EntersF ya 21:=enters_of Tryz.func21 k_ rfl
theorem ent22:EntersF ya 22:=enters_of Tryz.func22 k_ rfl
theorem ent23:EntersF ya 23:=enters_of Tryz.func23 k_ rfl
theorem ent24:EntersF ya 24:=enters_of Tryz.func24 k_ rfl
theorem ent25:EntersF ya 25:=enters_of Tryz.func25 k_ rfl
theorem ent26:EntersF ya 26:=enters_of Tryz.func26 k_ rfl
theorem ent27:EntersF ya 27:=enters_of Tryz.func27 k_ rfl
theorem ent28:EntersF ya 28:=enters_of Tryz.func28 k_ rfl
theorem ent29:EntersF ya 29:=enters_of Tryz.func29 k_ rfl
theorem ent37:EntersF ya 37:=enters_of Tryz.func37 k_ rfl
theorem ent38:EntersF ya 38:=enters_of Tryz.func38 k_ rfl
theorem ent39:EntersF ya 39:=enters_of Tryz.func39 k_ rfl
theorem ent40:EntersF ya 40:=enters_of Tryz.func40 k_ rfl
theorem ent41:EntersF ya 41:=enters_of Tryz.func41 k_ rfl
theorem ent42:EntersF ya 42:=enters_of Tryz.func42 k_ rfl
theorem ent43:EntersF ya 43:=enters_of Tryz.func43 k_ rfl
theorem ent44:EntersF ya 44:=enters_of Tryz.func44 k_ rfl
theorem ent45:EntersF ya 45:=enters_of Tryz.func45 k_ rfl
theorem ent46:EntersF ya 46:=enters_of Tryz.func46 k_ rfl
theorem ent47:EntersF ya 47:=enters_of Tryz.func47 k_ rfl
theorem ent48:EntersF ya 48:=enters_of Tryz.func48 k_ rfl
theorem ent49:EntersF ya 49:=enters_of Tryz.func49 k_ rfl
theorem ent50:EntersF ya 50:=enters_of Tryz.func50 k_ rfl
theorem ent51:EntersF ya 51:=enters_of Tryz.func51 k_ rfl
theorem ent52:EntersF ya 52:=enters_of Tryz.func52 k_ rfl
theorem ent53:EntersF ya 53:=enters_of Tryz.func53 k_ rfl
theorem ent54:EntersF ya 54:=enters_of Tryz.func54 k_ rfl
theorem ent55:EntersF ya 55:=enters_of Tryz.func55 k_ rfl
theorem ent56:EntersF ya 56:=enters_of Tryz.func56 k_ rfl
theorem ent57:EntersF ya 57:=enters_of Tryz.func57 k_ rfl
theorem ent58:EntersF ya 58:=enters_of Tryz.func58 k_ rfl
theorem ent59:EntersF ya 59:=enters_of Tryz.func59 k_ rfl
theorem ent80:EntersF ya 80:=enters_of Tryz.func80 k_ rfl
theorem ent81:EntersF ya 81:=enters_of Tryz.func81 k_ rfl
theorem ent82:EntersF ya 82:=enters_of Tryz.func82 k_ rfl
theorem ent83:EntersF ya 83:=enters_of Tryz.func83 k_ rfl
theorem ent84:EntersF ya 84:=enters_of Tryz.func84 k_ rfl
theorem ent85:EntersF ya 85:=enters_of Tryz.func85 k_ rfl
theorem ent86:EntersF ya 86:=enters_of Tryz.func86 k_ rfl
theorem ent87:EntersF ya 87:=enters_of Tryz.func87 k_ rfl
theorem ent88:EntersF ya 88:=enters_of Tryz.func88 k_ rfl
theorem ent89:EntersF ya 89:=enters_of Tryz.func89 k_ rfl
theorem ent90:EntersF ya 90:=enters_of Tryz.func90 k_ rfl
theorem ent91:EntersF ya 91:=enters_of Tryz.func91 k_ rfl
theorem ent92:EntersF ya 92:=enters_of Tryz.func92 k_ rfl
theorem ent93:EntersF ya 93:=enters_of Tryz.func93 k_ rfl
theorem ent94:EntersF ya 94:=enters_of Tryz.func94 k_ rfl
theorem ent95:EntersF ya 95:=enters_of Tryz.func95 k_ rfl
theorem ent96:EntersF ya 96:=enters_of Tryz.func96 k_ rfl
theorem ent97:EntersF ya 97:=enters_of Tryz.func97 k_ rfl
theorem ent98:EntersF ya 98:=enters_of Tryz.func98 k_ rfl
theorem ent99:EntersF ya 99:=enters_of Tryz.func99 k_ rfl
theorem ent100:EntersF ya 100:=enters_of Tryz.func100 k_ rfl
theorem ent101:EntersF ya 101:=enters_of Tryz.func101 k_ rfl
theorem ent102:EntersF ya 102:=enters_of Tryz.func102 k_ rfl
theorem ent103:EntersF ya 103:=enters_of Tryz.func103 k_ rfl
theorem ent104:EntersF ya 104:=enters_of Tryz.func104 k_ rfl
theorem ent105:EntersF ya 105:=enters_of Tryz.func105 k_ rfl
theorem ent106:EntersF ya 106:=enters_of Tryz.func106 k_ rfl
theorem ent107:EntersF ya 107:=enters_of Tryz.func107 k_ rfl
theorem ent108:EntersF ya 108:=enters_of Tryz.func108 k_ rfl
theorem ent110:EntersF ya 110:=enters_of Tryz.func110 k_ rfl
theorem ent111:EntersF ya 111:=enters_of Tryz.func111 k_ rfl
theorem ent112:EntersF ya 112:=enters_of Tryz.func112 k_ rfl
theorem ent113:EntersF ya 113:=enters_of Tryz.func113 k_ rfl
theorem ent114:EntersF ya 114:=enters_of Tryz.func114 k_ rfl
theorem ent115:EntersF ya 115:=enters_of Tryz.func115 k_ rfl
theorem ent142:EntersF ya 142:=enters_of Tryz.func142 k_ rfl
theorem ent143:EntersF ya 143:=enters_of Tryz.func143 k_ rfl
theorem ent144:EntersF ya 144:=enters_of Tryz.func144 k_ rfl
theorem ent145:EntersF ya 145:=enters_of Tryz.func145 k_ rfl
theorem ent146:EntersF ya 146:=enters_of Tryz.func146 k_ rfl
theorem ent147:EntersF ya 147:=enters_of Tryz.func147 k_ rfl
theorem ent148:EntersF ya 148:=enters_of Tryz.func148 k_ rfl
theorem ent150:EntersF ya 150:=enters_of Tryz.func150 k_ rfl
theorem ent151:EntersF ya 151:=enters_of Tryz.func151 k_ rfl
theorem ent152:EntersF ya 152:=enters_of Tryz.func152 k_ rfl
theorem ent153:EntersF ya 153:=enters_of Tryz.func153 k_ rfl
theorem ent154:EntersF ya 154:=enters_of Tryz.func154 k_ rfl
theorem ent155:EntersF ya 155:=enters_of Tryz.func155 k_ rfl
theorem ent156:EntersF ya 156:=enters_of Tryz.func156 k_ rfl
theorem ent157:EntersF ya 157:=enters_of Tryz.func157 k_ rfl
theorem ent158:EntersF ya 158:=enters_of Tryz.func158 k_ rfl
theorem ent159:EntersF ya 159:=enters_of Tryz.func159 k_ rfl
theorem ent160:EntersF ya 160:=enters_of Tryz.func160 k_ rfl
theorem ent161:EntersF ya 161:=enters_of Tryz.func161 k_ rfl
theorem ent162:EntersF ya 162:=enters_of Tryz.func162 k_ rfl
theorem ent163:EntersF ya 163:=enters_of Tryz.func163 k_ rfl
theorem ent164:EntersF ya 164:=enters_of Tryz.func164 k_ rfl
theorem ent165:EntersF ya 165:=enters_of Tryz.func165 k_ rfl
theorem ent198:EntersF ya 198:=enters_of Tryz.func198 k_ rfl
theorem ent199:EntersF ya 199:=enters_of Tryz.func199 k_ rfl
theorem ent200:EntersF ya 200:=enters_of Tryz.func200 k_ rfl
theorem ent201:EntersF ya 201:=enters_of Tryz.func201 k_ rfl
theorem ent202:EntersF ya 202:=enters_of Tryz.func202 k_ rfl
theorem ent203:EntersF ya 203:=enters_of Tryz.func203 k_ rfl
theorem ent204:EntersF ya 204:=enters_of Tryz.func204 k_ rfl
theorem ent205:EntersF ya 205:=enters_of Tryz.func205 k_ rfl
theorem ent206:EntersF ya 206:=enters_of Tryz.func206 k_ rfl
theorem ent207:EntersF ya 207:=enters_of Tryz.func207 k_ rfl
theorem ent208:EntersF ya 208:=enters_of Tryz.func208 k_ rfl
theorem ent209:EntersF ya 209:=enters_of Tryz.func209 k_ rfl
theorem ent230:EntersF ya 230:=enters_of Tryz.func230 k_ rfl
theorem ent231:EntersF ya 231:=enters_of Tryz.func231 k_ rfl
theorem ent232:EntersF ya 232:=enters_of Tryz.func232 k_ rfl
theorem ent233:EntersF ya 233:=enters_of Tryz.func233 k_ rfl
theorem ent234:EntersF ya 234:=enters_of Tryz.func234 k_ rfl
theorem ent235:EntersF ya 235:=enters_of Tryz.func235 k_ rfl
theorem ent242:EntersF ya 242:=enters_of Tryz.func242 k_ rfl
theorem ent243:EntersF ya 243:=enters_of Tryz.func243 k_ rfl
theorem ent244:EntersF ya 244:=enters_of Tryz.func244 k_ rfl
theorem ent245:EntersF ya 245:=enters_of Tryz.func245 k_ rfl
theorem ent246:EntersF ya 246:=enters_of Tryz.func246 k_ rfl
theorem ent249:EntersF ya 249:=enters_of Tryz.func249 k_ rfl
theorem ent250:EntersF ya 250:=enters_of Tryz.func250 k_ rfl
theorem mixed:ya.follows .mixedOrders=true:=by kernel_rfl
instance tt:TT ya:=⟨mixed,[(2,_),(3,_),(4,_),(24,_),(25,_),(28,_),(30,_),(32,_),(34,_),(36,_),(44,_),(56,_),(57,_),(59,_),(62,_),(64,_),(78,_),(79,_),(80,_),(81,_),(83,_),(96,_),(105,_),(107,_),(111,_),(115,_),(126,_),(127,_),(128,_),(130,_),(162,_),(166,_),(167,_),(171,_),(172,_),(174,_),(192,_),(203,_),(205,_),(258,_),(259,_),(260,_),(262,_),(263,_),(265,_),(267,_),(269,_)],[(2,_,_,_),(3,_,_,_),(4,_,_,_),(5,_,_,_),(24,_,_,_),(25,_,_,_),(30,_,_,_),(32,_,_,_),(34,_,_,_),(36,_,_,_),(44,_,_,_),(46,_,_,_),(50,_,_,_),(52,_,_,_),(56,_,_,_),(57,_,_,_),(59,_,_,_),(62,_,_,_),(64,_,_,_),(78,_,_,_),(79,_,_,_),(80,_,_,_),(81,_,_,_),(83,_,_,_),(96,_,_,_),(105,_,_,_),(107,_,_,_),(111,_,_,_),(115,_,_,_),(126,_,_,_),(127,_,_,_),(128,_,_,_),(130,_,_,_),(162,_,_,_),(166,_,_,_),(167,_,_,_),(171,_,_,_),(172,_,_,_),(174,_,_,_),(177,_,_,_),(192,_,_,_),(203,_,_,_),(205,_,_,_),(258,_,_,_),(259,_,_,_),(260,_,_,_),(262,_,_,_),(263,_,_,_),(265,_,_,_),(267,_,_,_),(269,_,_,_),(270,_,_,_),(272,_,_,_),(274,_,_,_),(277,_,_,_),(279,_,_,_)],⟨yas,ye,y9,yat,y0,y8,yg,yal,yy,ybe,yad,Tryz.underlying56,yau,ybo,Tryz.underlying62,yay,Tryz.underlying78,ybq,Tryz.underlying80,Tryz.underlying81,ybp,Tryz.underlying96,Tryz.underlying105,Tryz.underlying107,yr,yh,ybj,ybb,ym,yai,ybc,ybi,Tryz.underlying167,Tryz.underlying171,yaj,Tryz.underlying174,Tryz.underlying192,ya1,Tryz.underlying205,ya5,yag,yn,yaw,yk,Tryz.underlying265,yt,yi,trivial⟩,⟨ti2,ti3,ti4,ti5,ti24,ti25,ti30,ti32,ti34,ti36,ti44,ti46,ti50,ti52,ti56,ti57,ti59,ti62,ti64,ti78,ti79,ti80,ti81,ti83,ti96,ti105,ti107,ti111,ti115,ti126,ti127,ti128,ti130,ti162,ti166,ti167,ti171,ti172,ti174,ti177,ti192,ti203,ti205,ti258,ti259,ti260,ti262,ti263,ti265,ti267,ti269,ti270,ti272,ti274,ti277,ti279,trivial⟩⟩
end
section
open Go Go.Sx Go.Ex
theorem works_ok(w:World):CR ya 9 #[] w (fun v w' => v = .bool true/\Chg [] w w'):=closed_true mixed (k:=100000) k_ w
end
section
open Go Go.Sx
abbrev wkC(c:Cf)(now:Int)(lv:Value)(i:Int)(sb ib:Nat):List Value:=(Zc8 c.win c.edges c.verts c.draws now lv i (some sb) (some ib))
abbrev wkR(bw sb ib:Nat)(c:Cf)(now:Int)(lv:Value)(i:Int)(ss is:List Int):Res:=allR [blk bw 59 (wkC c now lv i sb ib),mset sb .i64 ss,mset ib .u64 is]
def kC(p:Int×Value):List Value:=[.int .i64 p.1,p.2]
abbrev KL:List (Int×Value):=[(1,.func (.func 27) #[] #[]),(2,.func (.func 28) #[] #[]),(5,.func (.func 29) #[] #[])]
abbrev Zao(a:Nat)(b c d e f:Int) g (h:Int) i j k l m n o p:=([blk a 59 (Zc8 b c d e f g h i j),k,l,rowR flC m 36 2 n,rowR kC o 64 2 p]:List Res)
abbrev Zdj a (b c:Nat) (d e f g h:Int) i (j:Int) k l m n (o p:Nat) (q:Lv) r s t u:=([a,blk b 64 Zdi,blk c 59 (Zc8 d e f g h i j k l),m,n,blk o 64 Zd1,blk p 34 (Zr q),rowR flC r 36 2 s,rowR kC t 64 2 u]:List Res)
abbrev Zcb a (b c d:Nat) (e f g h i:Int) j (k:Int) l m n o (p q:Nat) (r:Lv) s t u v:=([a,blk b 64 Zb2,blk c 64 Zdi,blk d 59 (Zc8 e f g h i j k l m),n,o,blk p 64 Zd1,blk q 34 (Zr r),rowR flC s 36 2 t,rowR kC u 64 2 v]:List Res)
theorem tests_ok(w:World) :
 CR ya 15 #[] w (fun r w' => FreshR 2 kC w w' r 64 KL/\Chg [] w w'):=by
 refine en Tryz.func15 Tryz.ntmps15 ?_
 have hst0:=yaf w
 refine pPL hst0 7 ?_
 refine bld (pvs:=[(0,Z5),(1,Zct)]) (v:=.agg Zde) rfl rfl (buildS [(0,[Z5]),(1,[Zct])] ti64 pl64 rfl ⟨rfl,rfl,rfl,rfl,trivial⟩ rfl) (bld (pvs:=[(0,Zar),(1,Zcv)]) (v:=.agg Zd7) rfl rfl (buildS [(0,[Zar]),(1,[Zcv])] ti64 pl64 rfl ⟨rfl,rfl,rfl,rfl,trivial⟩ rfl) (bld (pvs:=[(0,Zaw),(1,Zcr)]) (v:=.agg Zd4) rfl rfl (buildS [(0,Zbl),(1,[Zcr])] ti64 pl64 rfl ⟨rfl,rfl,rfl,rfl,trivial⟩ rfl) (bsv (vs:=[(.agg Zde),(.agg Zd7),(.agg Zd4)]) (cs:=[Z5,Zct,Zar,Zcv,Zaw,Zcr]) rfl rfl yaz ti64 rfl (by simp[Value.cells]) rfl rfl rfl hst0 (fun b c d e a=>pLQ a 4 ?_))))
 refine ret1 (v:=(.slice (some ⟨b,0,none⟩) 3 3)) Tryz.results15 rfl ?_
 exact⟨ybk (cf:=kC) (zs:=KL) a s_,a.chg s_⟩
theorem expired_ok(c:Cf)(hc:c.ok)(now:Int)(bw sb ib:Nat)(lv:Value)(xs:List Lv)(i:Nat)(x:Lv)(w:World)(hl:Recs 7 Lv.cells (fun _=>True) w lv xs)(hxs:∀ x∈xs,x.ok)(hl0:xs.length<=100)(hR:(blk bw 59 (wkC c now lv i sb ib)).holds w)(hx:xs[i]? = some x) :
 CR ya 28 (Zcx bw x) w (fun r w' => r = .bool (decide (x.exp<=now))/\Chg [] w w'):=by
 have hxo:=hxs _ (zg hx)
 have hi:=(zb.1 hx).1
 refine en Tryz.func28 Tryz.ntmps28 ?_
 have hst0:=yaf w
 refine pPL hst0 2 ?_
 refine bx (v:=(Zan x)) (cs:=(Zr x)) rfl rfl rfl hst0 (fun f g h j a=>pLP a 4 ?_)
 by_cases b:(x.exp:Int)<=(now:Int)
 . skip
   refine dr0 a (fun k d=>?_)
   refine pQQ tt none d 2 ?_
   refine ret1 (v:=Zf) Tryz.results28 rfl ?_
   exact⟨eqB (by simp only[b,decide_true,decide_false]),d.chg s_⟩
 . skip
   refine dr0 a (fun l e=>?_)
   refine pQQ tt none e 2 ?_
   refine ret1 (v:=Zp) Tryz.results28 rfl ?_
   exact⟨eqB (by simp only[b,decide_true,decide_false]),e.chg s_⟩
theorem mistimed_ok(c:Cf)(hc:c.ok)(now:Int)(bw sb ib:Nat)(lv:Value)(xs:List Lv)(i:Nat)(x:Lv)(w:World)(hl:Recs 7 Lv.cells (fun _=>True) w lv xs)(hxs:∀ x∈xs,x.ok)(hl0:xs.length<=100)(hR:(blk bw 59 (wkC c now lv i sb ib)).holds w)(hx:xs[i]? = some x) :
 CR ya 29 (Zcx bw x) w (fun r w' => r = .bool (clkB c now x i (prv xs i).t)/\Chg [] w w'):=by
 have hxo:=hxs _ (zg hx)
 have hi:=(zb.1 hx).1
 have h1:=hxo.t.i64
 have h2:=hc.win.i64
 obtain⟨ex_,hex,hx1,hx2,hx3⟩:=wrap_cases (x:=x.t+c.win) o_
 refine en Tryz.func29 Tryz.ntmps29 ?_
 have hst0:=yaf w
 refine pPL hst0 2 ?_
 refine bx (v:=(Zan x)) (cs:=(Zr x)) rfl rfl rfl hst0 (fun B C D E b=>pLP b 5 ?_)
 by_cases G:(x.t:Int)>(now:Int)
 . skip
   refine dr0 b (fun H n=>?_)
   refine pQQ tt none n 9 ?_
   refine ret1 (v:=Zf) yao rfl ?_
   exact⟨eqB (clk_t (by unfold ClkP;omega)),n.chg s_⟩
 . skip
   by_cases I:((i:Int):Int)>(0:Int)
   . skip
     obtain⟨d,a⟩:=get_some' (show (i-1)<xs.length by omega)
     have J:=hxs _ (zg a)
     have hps:(prv xs i).seq=d.seq:=by rw[prv_of a]
     have hpt:(prv xs i).t=d.t:=by rw[prv_of a]
     by_cases K:(x.t:Int)<(d.t:Int)
     . skip
       refine dr0 b (fun L o=>?_) (hA:=by refine' dar 27 ?k0;case k0=>refine' dax (fun wq hM=>rv (ixR_r (v:=lv) (k:=(i-1)) (i:=(i:Int)-1) rfl rfl y0 ti34 hl o_ o_ a)) ?k1;case k1=>refine' dax (fun wq hM=>rv (faR_r (off:=0) (off' := 2) rfl yy rfl ti32 rfl hl a)) ?k2;case k2=>refine' dax (fun wq hM=>rv (faR_r (off:=2) (off' := 5) rfl yal rfl ti2 rfl hl a)) ?k3;case k3=>refine' dax (fun wq hM=>rv (ldR_r (u:=(Za d.t)) rfl yas rfl (yap hM s_ d_ hl) a rfl)) ?k4;case k4=>exact run2)
       refine pQQ tt none o 9 ?_
       refine ret1 (v:=Zf) yao rfl ?_
       exact⟨eqB (clk_t (by unfold ClkP;omega)),o.chg s_⟩
     . skip
       refine dr0 b (fun M p=>?_) (hA:=by refine' dar 27 ?k0;case k0=>refine' dax (fun wq hM=>rv (ixR_r (v:=lv) (k:=(i-1)) (i:=(i:Int)-1) rfl rfl y0 ti34 hl o_ o_ a)) ?k1;case k1=>refine' dax (fun wq hM=>rv (faR_r (off:=0) (off' := 2) rfl yy rfl ti32 rfl hl a)) ?k2;case k2=>refine' dax (fun wq hM=>rv (faR_r (off:=2) (off' := 5) rfl yal rfl ti2 rfl hl a)) ?k3;case k3=>refine' dax (fun wq hM=>rv (ldR_r (u:=(Za d.t)) rfl yas rfl (yap hM s_ d_ hl) a rfl)) ?k4;case k4=>exact run2)
       refine pQP tt none p 5 ?_
       refine dr0 p (fun N f=>?_) (hA:=by refine' dar 8 ?k0;case k0=>refine' dax (fun wq hM=>rv (ar_r (e:=ex_) rfl rfl rfl hex)) ?k1;case k1=>exact run2)
       refine pQP tt none f 2 ?_
       by_cases O:(ex_:Int)<(x.t:Int)
       . skip
         by_cases P:(c.win:Int)<(0:Int)
         . skip
           refine dr0 f (fun Q g=>?_) (hA:=by refine' dar 11 ?k0;case k0=>refine' dax (fun wq hM=>rv (neBool_r (c:=false) rfl rfl y9 rfl)) ?k1;case k1=>exact run2)
           refine pQL tt none g 8 ?_
           by_cases R:(ex_:Int)=(x.exp:Int)
           . refine pLQ g 6 ?_
             refine ret1 (v:=Zp) yao rfl ?_
             exact⟨eqB (clk_f (by unfold ClkP;omega)),g.chg s_⟩
           . refine pLQ g 6 ?_
             refine ret1 (v:=Zf) yao rfl ?_
             exact⟨eqB (clk_t (by unfold ClkP;omega)),g.chg s_⟩
         . skip
           refine dr0 f (fun S q=>?_) (hA:=by refine' dar 11 ?k0;case k0=>refine' dax (fun wq hM=>rv (neBool_r (c:=true) rfl rfl y9 rfl)) ?k1;case k1=>exact run2)
           refine pQQ tt none q 14 ?_
           refine ret1 (v:=Zf) yao rfl ?_
           exact⟨eqB (clk_t (by unfold ClkP;omega)),q.chg s_⟩
       . skip
         by_cases U:(c.win:Int)<(0:Int)
         . skip
           refine dr0 f (fun V s=>?_) (hA:=by refine' dar 11 ?k0;case k0=>refine' dax (fun wq hM=>rv (neBool_r (c:=true) rfl rfl y9 rfl)) ?k1;case k1=>exact run2)
           refine pQQ tt none s 14 ?_
           refine ret1 (v:=Zf) yao rfl ?_
           exact⟨eqB (clk_t (by unfold ClkP;omega)),s.chg s_⟩
         . skip
           refine dr0 f (fun W h=>?_) (hA:=by refine' dar 11 ?k0;case k0=>refine' dax (fun wq hM=>rv (neBool_r (c:=false) rfl rfl y9 rfl)) ?k1;case k1=>exact run2)
           refine pQL tt none h 8 ?_
           by_cases X:(ex_:Int)=(x.exp:Int)
           . refine pLQ h 6 ?_
             refine ret1 (v:=Zp) yao rfl ?_
             exact⟨eqB (clk_f (by unfold ClkP;omega)),h.chg s_⟩
           . refine pLQ h 6 ?_
             refine ret1 (v:=Zf) yao rfl ?_
             exact⟨eqB (clk_t (by unfold ClkP;omega)),h.chg s_⟩
   . skip
     refine dr0 b (fun Y y=>?_)
     refine pQP tt none y 5 ?_
     refine dr0 y (fun Z j=>?_) (hA:=by refine' dar 8 ?k0;case k0=>refine' dax (fun wq hM=>rv (ar_r (e:=ex_) rfl rfl rfl hex)) ?k1;case k1=>exact run2)
     refine pQP tt none j 2 ?_
     by_cases aa:(ex_:Int)<(x.t:Int)
     . skip
       by_cases ab:(c.win:Int)<(0:Int)
       . skip
         refine dr0 j (fun ac l=>?_) (hA:=by refine' dar 11 ?k0;case k0=>refine' dax (fun wq hM=>rv (neBool_r (c:=false) rfl rfl y9 rfl)) ?k1;case k1=>exact run2)
         refine pQL tt none l 8 ?_
         by_cases ad:(ex_:Int)=(x.exp:Int)
         . refine pLQ l 6 ?_
           refine ret1 (v:=Zp) yao rfl ?_
           exact⟨eqB (clk_f (by unfold ClkP;omega)),l.chg s_⟩
         . refine pLQ l 6 ?_
           refine ret1 (v:=Zf) yao rfl ?_
           exact⟨eqB (clk_t (by unfold ClkP;omega)),l.chg s_⟩
       . skip
         refine dr0 j (fun ae z=>?_) (hA:=by refine' dar 11 ?k0;case k0=>refine' dax (fun wq hM=>rv (neBool_r (c:=true) rfl rfl y9 rfl)) ?k1;case k1=>exact run2)
         refine pQQ tt none z 14 ?_
         refine ret1 (v:=Zf) yao rfl ?_
         exact⟨eqB (clk_t (by unfold ClkP;omega)),z.chg s_⟩
     . skip
       by_cases af:(c.win:Int)<(0:Int)
       . skip
         refine dr0 j (fun ag A=>?_) (hA:=by refine' dar 11 ?k0;case k0=>refine' dax (fun wq hM=>rv (neBool_r (c:=true) rfl rfl y9 rfl)) ?k1;case k1=>exact run2)
         refine pQQ tt none A 14 ?_
         refine ret1 (v:=Zf) yao rfl ?_
         exact⟨eqB (clk_t (by unfold ClkP;omega)),A.chg s_⟩
       . skip
         refine dr0 j (fun ah m=>?_) (hA:=by refine' dar 11 ?k0;case k0=>refine' dax (fun wq hM=>rv (neBool_r (c:=false) rfl rfl y9 rfl)) ?k1;case k1=>exact run2)
         refine pQL tt none m 8 ?_
         by_cases ai:(ex_:Int)=(x.exp:Int)
         . refine pLQ m 6 ?_
           refine ret1 (v:=Zp) yao rfl ?_
           exact⟨eqB (clk_f (by unfold ClkP;omega)),m.chg s_⟩
         . refine pLQ m 6 ?_
           refine ret1 (v:=Zf) yao rfl ?_
           exact⟨eqB (clk_t (by unfold ClkP;omega)),m.chg s_⟩
theorem miscounted_ok(c:Cf)(now:Int)(bw sb ib:Nat)(lv:Value)(xs:List Lv)(i:Nat)(x:Lv)(ss is:List Int)(ok:Nat->Prop)(w:World)(hO:Own (wkR bw sb ib c now lv i ss is) w)(hok:∀ b,ok b->b∉(wkR bw sb ib c now lv i ss is).foot)(hl:Recs 7 Lv.cells ok w lv xs)(hxs:∀ x∈xs,x.ok)(hl0:xs.length<=100)(hx:xs[i]? = some x) :
 CR ya 27 (Zcx bw x) w (fun r w' => r = .bool (cntB c x i (prv xs i).seq ss is)/\Turn (wkR bw sb ib c now lv i ss is) w w' (wkR bw sb ib c now lv i (insI ss x.slot) (insI (insI is x.u) x.v))):=by
 have hxo:=hxs _ (zg hx)
 have hi:=(zb.1 hx).1
 refine en Tryz.func27 Tryz.ntmps27 ?_
 have hst0:=(yz hO).unpack
 refine pPL hst0 2 ?_
 refine bx (v:=(Zan x)) (cs:=(Zr x)) rfl rfl rfl hst0 (fun e W Y Z m=>pLP m 4 ?_)
 refine dr0 m (fun aa n=>?_) (hA:=by refine' dar 6 ?k0;case k0=>refine' dax (fun wq hM=>rv (lkM_r (ys:=ss) 2 rfl rfl Tryz.underlying56 ye ti4 hM rfl)) ?k1;case k1=>exact run2)
 refine pQP tt none n 2 ?_
 refine dr1 n 6 ?_
 intro wq hM
 refine m_muT (ys:=ss) (a:=x.slot) (L' := (Zaj e x bw c.win c.edges c.verts c.draws now lv i (some sb) (some ib) (mset sb .i64 (insI ss x.slot)) (mset ib .u64 is))) 2 rfl rfl rfl rfl Tryz.underlying56 ye hM rfl rfl (fun _ h=>(aft h (fun ab l=>?_)))
 refine pQL tt none l 7 ?_
 refine lenM 3 rfl rfl yau l rfl (pLP l 4 ?_)
 refine rgs (Γ:=Unit) mixed [[],[0],[0,1],[0,1,2],[],[4],[4,5],[],[7],[7,8],[7,8,9],[],[11],[11,12],[0,1,2,3,4,5,6,7,8,9,10],[0,1,2,3,4,5,6,7,8,9,10,14],[0,1,2,3,4,5,6,7,8,9,10,14,15],[0,1,2,3,4,5,6,7,8,9,10,11,12,13,14,15,16],[0,1,2,3,4,5,6,7,8,9,10,11,12,13,14,15,16,17],[0,1,2,3,4,5,6,7,8,9,10,11,12,13,14,15,16,17,18]] [14,16,17,19] d_ [fun _=>(Zb bw),fun _=>(Zb bw),fun _=>(.pointer (some ⟨bw,8,none⟩)),fun _=>(.map (some ib)),fun _=>(Zab e),fun _=>(Zab e),fun _=>(Ze x.u),fun _=>(Zb bw),fun _=>(Zb bw),fun _=>(.pointer (some ⟨bw,8,none⟩)),fun _=>(.map (some ib)),fun _=>(Zab e),fun _=>(Za4 e),fun _=>(Ze x.v),fun _=>(.tuple #[(.bool (is.contains x.u)),(Za (stampI is x.u))]),fun _=>(Za (stampI is x.u)),fun _=>undef,fun _=>(.tuple #[(.bool ((insI is x.u).contains x.v)),(Za (stampI (insI is x.u) x.v))]),fun _=>(Za (stampI (insI is x.u) x.v)),fun _=>undef] [(fun _=>(Zaj e x bw c.win c.edges c.verts c.draws now lv i (some sb) (some ib) (mset sb .i64 (insI ss x.slot)) (mset ib .u64 is)),fun _ _=>True),(fun _=>(Zaj e x bw c.win c.edges c.verts c.draws now lv i (some sb) (some ib) (mset sb .i64 (insI ss x.slot)) (msetE ib .u64 is x.u)),fun _ _=>True),(fun _=>(Zaj e x bw c.win c.edges c.verts c.draws now lv i (some sb) (some ib) (mset sb .i64 (insI ss x.slot)) (mset ib .u64 (insI is x.u))),fun _ _=>True),(fun _=>(Zaj e x bw c.win c.edges c.verts c.draws now lv i (some sb) (some ib) (mset sb .i64 (insI ss x.slot)) (msetE ib .u64 (insI is x.u) x.v)),fun _ _=>True),(fun _=>(Zaj e x bw c.win c.edges c.verts c.draws now lv i (some sb) (some ib) (mset sb .i64 (insI ss x.slot)) (mset ib .u64 (insI (insI is x.u) x.v))),fun _ _=>True)] () _ rfl l (fun _ _=>trivial) ?_ f_ rfl ?_
 . skip
   refine obv (fun _ _=>mv_r (v:=(Zb bw)) rfl) ?_
   refine obv (fun _ _=>nilc_r rfl) ?_
   refine obv (fun _ _=>fa_r (o' := 8) rfl ybo rfl ti57 rfl) ?_
   refine ob_q1 rfl rfl rfl rfl (fun _ wq hM hF=>qv rfl rfl (ld_r rfl yau rfl (yo hM (i:=1) rfl rfl))) (obv (fun _ _=>fa_r (o' := 2) rfl yy rfl ti32 rfl) ?_)
   refine obv (fun _ _=>fa_r (o' := 2) rfl yal rfl ti30 rfl) ?_
   refine ob_q1 rfl rfl rfl rfl (fun _ wq hM hF=>qv rfl rfl (ld_r rfl yg rfl (yo hM (i:=0) rfl rfl))) (obv (fun _ _=>mv_r (v:=(Zb bw)) rfl) ?_)
   refine obv (fun _ _=>nilc_r rfl) ?_
   refine obv (fun _ _=>fa_r (o' := 8) rfl ybo rfl ti57 rfl) ?_
   refine ob_q1 rfl rfl rfl rfl (fun _ wq hM hF=>qv rfl rfl (ld_r rfl yau rfl (yo hM (i:=1) rfl rfl))) (obv (fun _ _=>fa_r (o' := 2) rfl yy rfl ti32 rfl) ?_)
   refine obv (fun _ _=>fa_r (o' := 3) rfl yal rfl ti30 rfl) ?_
   refine ob_q3 rfl rfl rfl rfl rfl rfl (fun _ wq hM hF=>qv rfl rfl (ld_r rfl yg rfl (yo hM (i:=0) rfl rfl))) (fun _ wq hM hF=>qv rfl rfl (ld_r rfl yg rfl (yo hM (i:=0) rfl rfl))) (fun _ wq hM hF=>qv rfl rfl (ld_r rfl yg rfl (yo hM (i:=0) rfl rfl))) (ob_m rfl rfl rfl rfl (fun _ wq hM hF=>m_meT (ys:=is) (a:=x.u) (L' := (Zaj e x bw c.win c.edges c.verts c.draws now lv i (some sb) (some ib) (mset sb .i64 (insI ss x.slot)) (msetE ib .u64 is x.u))) 3 rfl rfl rfl yau yg ti4 hM rfl rfl (fun _ h=>⟨(),⟨h,trivial⟩,rfl,Stab.refl _ _ _⟩)) (obv (fun _ _=>ex_r rfl rfl) ?_))
   refine ob_m rfl rfl rfl rfl (fun _ wq hM hF=>m_esT (ys:=is) (a:=x.u) (L' := (Zaj e x bw c.win c.edges c.verts c.draws now lv i (some sb) (some ib) (mset sb .i64 (insI ss x.slot)) (mset ib .u64 (insI is x.u)))) 3 rfl rfl rfl rfl hM rfl rfl (fun _ h=>⟨(),⟨h,trivial⟩,rfl,Stab.refl _ _ _⟩)) (ob_m rfl rfl rfl rfl (fun _ wq hM hF=>m_meT (ys:=insI is x.u) (a:=x.v) (L' := (Zaj e x bw c.win c.edges c.verts c.draws now lv i (some sb) (some ib) (mset sb .i64 (insI ss x.slot)) (msetE ib .u64 (insI is x.u) x.v))) 3 rfl rfl rfl yau yg ti4 hM rfl rfl (fun _ h=>⟨(),⟨h,trivial⟩,rfl,Stab.refl _ _ _⟩)) (obv (fun _ _=>ex_r rfl rfl) ?_))
   refine ob_m rfl rfl rfl rfl (fun _ wq hM hF=>m_esT (ys:=insI is x.u) (a:=x.v) (L' := (Zaj e x bw c.win c.edges c.verts c.draws now lv i (some sb) (some ib) (mset sb .i64 (insI ss x.slot)) (mset ib .u64 (insI (insI is x.u) x.v)))) 3 rfl rfl rfl rfl hM rfl rfl (fun _ h=>⟨(),⟨h,trivial⟩,rfl,Stab.refl _ _ _⟩)) ?_
   exact ob_n
 rintro-ac f -
 refine pQP tt none f 2 ?_
 by_cases ad:(x.u:Int)=(x.v:Int)
 . skip
   refine dr0 f (fun ae o=>?_)
   refine pQQ tt none o 2 ?_
   refine ret1 (v:=Zf) yar rfl ?_
   have I:=yj [1,2,3] o
   exact⟨eqB (cnt_t (by unfold CntP;omega)),yq (yc [_,_,_] [] I)⟩
 . skip
   cases g:(ss.contains x.slot:Bool)
   . skip
     by_cases af:(x.slot:Int)<(0:Int)
     . skip
       refine dr0 f (fun ag p=>?_)
       refine pQQ tt none p 2 ?_
       refine ret1 (v:=Zf) yar rfl ?_
       have J:=yj [1,2,3] p
       have hm9:=m01_f g
       exact⟨eqB (cnt_t (by unfold CntP;omega)),yq (yc [_,_,_] [] J)⟩
     . skip
       by_cases ah:(x.slot:Int)≥(c.edges:Int)
       . skip
         refine dr0 f (fun ai q=>?_)
         refine pQQ tt none q 2 ?_
         refine ret1 (v:=Zf) yar rfl ?_
         have K:=yj [1,2,3] q
         have hm9:=m01_f g
         exact⟨eqB (cnt_t (by unfold CntP;omega)),yq (yc [_,_,_] [] K)⟩
       . skip
         by_cases aj:((i:Int):Int)>(0:Int)
         . skip
           obtain⟨j,d⟩:=get_some' (show (i-1)<xs.length by omega)
           have ak:=hxs _ (zg d)
           have hps:(prv xs i).seq=j.seq:=by rw[prv_of d]
           have hpt:(prv xs i).t=j.t:=by rw[prv_of d]
           by_cases al:(x.seq:Int)<=(j.seq:Int)
           . skip
             refine dr0 f (fun am s=>?_) (hA:=by refine' dar 43 ?k0;case k0=>refine' dax (fun wq hM=>rv (ixR_r (v:=lv) (k:=(i-1)) (i:=(i:Int)-1) rfl rfl y0 ti34 hl o_ o_ d)) ?k1;case k1=>refine' dax (fun wq hM=>rv (faR_r (off:=0) (off' := 1) rfl yy rfl ti30 rfl hl d)) ?k2;case k2=>refine' dax (fun wq hM=>rv (ldR_r (u:=(Ze j.seq)) rfl yg rfl (St.recs hM (X:=(wkR bw sb ib c now lv i ss is).foot) zh d_ hl hok) d rfl)) ?k3;case k3=>exact run2)
             refine pQQ tt none s 2 ?_
             refine ret1 (v:=Zf) yar rfl ?_
             have L:=yj [1,2,3] s
             have hm9:=m01_f g
             exact⟨eqB (cnt_t (by unfold CntP;omega)),yq (yc [_,_,_] [] L)⟩
           . skip
             by_cases an:((i:Int):Int)≥(c.edges:Int)
             . skip
               refine dr0 f (fun ao y=>?_) (hA:=by refine' dar 43 ?k0;case k0=>refine' dax (fun wq hM=>rv (ixR_r (v:=lv) (k:=(i-1)) (i:=(i:Int)-1) rfl rfl y0 ti34 hl o_ o_ d)) ?k1;case k1=>refine' dax (fun wq hM=>rv (faR_r (off:=0) (off' := 1) rfl yy rfl ti30 rfl hl d)) ?k2;case k2=>refine' dax (fun wq hM=>rv (ldR_r (u:=(Ze j.seq)) rfl yg rfl (St.recs hM (X:=(wkR bw sb ib c now lv i ss is).foot) zh d_ hl hok) d rfl)) ?k3;case k3=>exact run2)
               refine pQQ tt none y 2 ?_
               refine ret1 (v:=Zf) yar rfl ?_
               have M:=yj [1,2,3] y
               have hm9:=m01_f g
               exact⟨eqB (cnt_t (by unfold CntP;omega)),yq (yc [_,_,_] [] M)⟩
             . skip
               by_cases ap:((is.length:Int):Int)<=(c.verts:Int)
               . skip
                 by_cases aq:(((insI (insI is x.u) x.v).length:Int):Int)>(c.verts:Int)
                 . skip
                   refine dr0 f (fun ar z=>?_) (hA:=by refine' dar 43 ?k0;case k0=>refine' dax (fun wq hM=>rv (ixR_r (v:=lv) (k:=(i-1)) (i:=(i:Int)-1) rfl rfl y0 ti34 hl o_ o_ d)) ?k1;case k1=>refine' dax (fun wq hM=>rv (faR_r (off:=0) (off' := 1) rfl yy rfl ti30 rfl hl d)) ?k2;case k2=>refine' dax (fun wq hM=>rv (ldR_r (u:=(Ze j.seq)) rfl yg rfl (St.recs hM (X:=(wkR bw sb ib c now lv i ss is).foot) zh d_ hl hok) d rfl)) ?k3;case k3=>refine' dar 28 ?k4;case k4=>refine' dax (fun wq hM=>rv (lenM_r 3 rfl yau hM rfl)) ?k5;case k5=>exact run2)
                   refine pQQ tt none z 2 ?_
                   refine ret1 (v:=Zf) yar rfl ?_
                   have N:=yj [1,2,3] z
                   have hm9:=m01_f g
                   exact⟨eqB (cnt_t (by unfold CntP;omega)),yq (yc [_,_,_] [] N)⟩
                 . skip
                   refine dr0 f (fun au A=>?_) (hA:=by refine' dar 43 ?k0;case k0=>refine' dax (fun wq hM=>rv (ixR_r (v:=lv) (k:=(i-1)) (i:=(i:Int)-1) rfl rfl y0 ti34 hl o_ o_ d)) ?k1;case k1=>refine' dax (fun wq hM=>rv (faR_r (off:=0) (off' := 1) rfl yy rfl ti30 rfl hl d)) ?k2;case k2=>refine' dax (fun wq hM=>rv (ldR_r (u:=(Ze j.seq)) rfl yg rfl (St.recs hM (X:=(wkR bw sb ib c now lv i ss is).foot) zh d_ hl hok) d rfl)) ?k3;case k3=>refine' dar 28 ?k4;case k4=>refine' dax (fun wq hM=>rv (lenM_r 3 rfl yau hM rfl)) ?k5;case k5=>exact run2)
                   refine pQQ tt none A 2 ?_
                   refine ret1 (v:=Zp) yar rfl ?_
                   have O:=yj [1,2,3] A
                   have hm9:=m01_f g
                   exact⟨eqB (cnt_f (by unfold CntP;omega)),yq (yc [_,_,_] [] O)⟩
               . skip
                 refine dr0 f (fun av B=>?_) (hA:=by refine' dar 43 ?k0;case k0=>refine' dax (fun wq hM=>rv (ixR_r (v:=lv) (k:=(i-1)) (i:=(i:Int)-1) rfl rfl y0 ti34 hl o_ o_ d)) ?k1;case k1=>refine' dax (fun wq hM=>rv (faR_r (off:=0) (off' := 1) rfl yy rfl ti30 rfl hl d)) ?k2;case k2=>refine' dax (fun wq hM=>rv (ldR_r (u:=(Ze j.seq)) rfl yg rfl (St.recs hM (X:=(wkR bw sb ib c now lv i ss is).foot) zh d_ hl hok) d rfl)) ?k3;case k3=>exact run2)
                 refine pQQ tt none B 2 ?_
                 refine ret1 (v:=Zp) yar rfl ?_
                 have P:=yj [1,2,3] B
                 have hm9:=m01_f g
                 exact⟨eqB (cnt_f (by unfold CntP;omega)),yq (yc [_,_,_] [] P)⟩
         . skip
           by_cases aw:((i:Int):Int)≥(c.edges:Int)
           . skip
             refine dr0 f (fun ax C=>?_)
             refine pQQ tt none C 2 ?_
             refine ret1 (v:=Zf) yar rfl ?_
             have Q:=yj [1,2,3] C
             have hm9:=m01_f g
             exact⟨eqB (cnt_t (by unfold CntP;omega)),yq (yc [_,_,_] [] Q)⟩
           . skip
             by_cases ay:((is.length:Int):Int)<=(c.verts:Int)
             . skip
               by_cases az:(((insI (insI is x.u) x.v).length:Int):Int)>(c.verts:Int)
               . skip
                 refine dr0 f (fun aA D=>?_) (hA:=by refine' dar 74 ?k0;case k0=>refine' dax (fun wq hM=>rv (lenM_r 3 rfl yau hM rfl)) ?k1;case k1=>exact run2)
                 refine pQQ tt none D 2 ?_
                 refine ret1 (v:=Zf) yar rfl ?_
                 have R:=yj [1,2,3] D
                 have hm9:=m01_f g
                 exact⟨eqB (cnt_t (by unfold CntP;omega)),yq (yc [_,_,_] [] R)⟩
               . skip
                 refine dr0 f (fun aB E=>?_) (hA:=by refine' dar 74 ?k0;case k0=>refine' dax (fun wq hM=>rv (lenM_r 3 rfl yau hM rfl)) ?k1;case k1=>exact run2)
                 refine pQQ tt none E 2 ?_
                 refine ret1 (v:=Zp) yar rfl ?_
                 have S:=yj [1,2,3] E
                 have hm9:=m01_f g
                 exact⟨eqB (cnt_f (by unfold CntP;omega)),yq (yc [_,_,_] [] S)⟩
             . skip
               refine dr0 f (fun aC G=>?_)
               refine pQQ tt none G 2 ?_
               refine ret1 (v:=Zp) yar rfl ?_
               have U:=yj [1,2,3] G
               have hm9:=m01_f g
               exact⟨eqB (cnt_f (by unfold CntP;omega)),yq (yc [_,_,_] [] U)⟩
   . skip
     refine dr0 f (fun aD H=>?_)
     refine pQQ tt none H 2 ?_
     refine ret1 (v:=Zf) yar rfl ?_
     have V:=yj [1,2,3] H
     have hm9:=m01_t g
     exact⟨eqB (cnt_t (by unfold CntP;omega)),yq (yc [_,_,_] [] V)⟩
end
section
open Go Go.Sx
theorem Look_ok(c:Cf)(hc:c.ok)(now:Int)(lv:Value)(xs:List Lv)(w:World)(hl:Recs 7 Lv.cells (fun _=>True) w lv xs)(hxs:∀ x∈xs,x.ok)(hl0:xs.length<=100) :
 CR ya 7 #[(Zay c.win c.edges c.verts c.draws),(Za now),lv] w (fun r w' => FreshR 2 flC w w' r 36 (flawsS c now xs)/\Chg [] w w'):=by
 have hlo:Recs 7 Lv.cells (fun b=>b<w.heap.size) w lv xs:=Sl.mono (Sl.old hl d_) (fun b hb=>hb.2)
 refine en Tryz.func7 Tryz.ntmps7 ?_
 have hst0:=yaf w
 refine pPL hst0 2 ?_
 refine bx (v:=(Zay c.win c.edges c.verts c.draws)) (cs:=(Za6 c.win c.edges c.verts c.draws)) rfl rfl rfl hst0 (fun aC bF bG bH ag=>pLL ag 8 ?_)
 refine mkm (k:=.i64) rfl rfl ag (fun a bI bJ bK aD=>mkm (k:=.u64) rfl rfl aD (fun d bL bM bN aE=>bld (pvs:=[(0,(Zay c.win c.edges c.verts c.draws)),(1,(Za now)),(2,lv),(4,(.map (some a))),(5,(.map (some d)))]) (v:=.agg (Zc2 c.win c.edges c.verts c.draws now lv (some a) (some d))) rfl rfl (buildS [(0,(Za6 c.win c.edges c.verts c.draws)),(1,(Zd now)),(2,[lv]),(4,[(.map (some a))]),(5,[(.map (some d))])] ti59 pl59 rfl ⟨rfl,rfl,rfl,rfl,rfl,(cells_one (Sl.one1 hl)),rfl,rfl,rfl,rfl,trivial⟩ rfl) (bx (v:=(.agg (Zc2 c.win c.edges c.verts c.draws now lv (some a) (some d)))) (cs:=(Zcu c.win c.edges c.verts c.draws now lv (some a) (some d))) rfl rfl rfl aE (fun e aF bO bP ah=>pLL ah 5 ?_))))
 refine cl ent15 (tests_ok aF) ?_
 rintro f V ⟨aG,aH⟩
 have G:St _ [rowR kC f 64 2 KL,blk e 59 (Zcu c.win c.edges c.verts c.draws now lv (some a) (some d)),mset d .u64 ([]),mset a .i64 ([]),blk aC 24 (Za6 c.win c.edges c.verts c.draws)] V:=ya8 ah aH aG
 have g:Recs 2 kC _ V f KL:=yf G (i:=0) rfl f_
 refine pLL G 12 ?_
 refine lenI (v:=lv) rfl rfl y0 hl ?_
 have aI:=yj [0,1,2,3] G
 have aJ:St _ [rowR flC Zl 36 2 (flS c now xs 0),rowR kC f 64 2 KL,blk e 59 (Zcu c.win c.edges c.verts c.draws now lv (some a) (some d)),mset d .u64 ([]),mset a .i64 ([])] V:=ybd aI 36 2
 have aK:=yj [2,4,3,0,1] aJ
 have aL:=aK
 refine pLP G 4 ?_
 refine lp (α:=Nat×Int×Value) (fun(i,ap,vo)=>[(7,(Zb e)),(8,f),(9,vo),(22,lv),(23,(Za xs.length)),(24,(Za i))]) (fun(i,ap,vo) w1=>St [(w,[])] (Zao e c.win c.edges c.verts c.draws now lv ap (some a) (some d) (mset a .i64 (slotS (xs.take i))) (mset d .u64 (uvS (xs.take i))) vo (flS c now xs i) f KL) w1/\i<=xs.length) (fun(i,ap,vo)=>xs.length-i) (0,0,Zl) ⟨rfl,rfl,rfl,rfl,rfl,eqI (by first|rfl|omega),trivial⟩ (⟨aL,o_⟩) ?_
 rintro⟨i,ap,vo⟩ bQ bR ⟨hst,hi⟩
 refine pPL hst 2 ?_
 by_cases h:((i:Int):Int)<((xs.length:Int):Int)
 . obtain⟨x,hx⟩:=get_some' (show i<xs.length by omega)
   refine pLL hst 12 ?_
   refine ixR (k:=i) (i:=(i:Int)) rfl rfl rfl y0 ti34 hl o_ o_ hx (ldRA (cs:=(Zr x)) rfl rfl yy rfl ti34 (yap hst s_ d_ hl) hx rfl rfl (al (cs:=Zt) rfl ti34 rfl hst (fun p bS bT bU aM=>sLL aM 16 fun bV B=>?_)))
   refine lenI (v:=f) rfl rfl yaz g (pLP B 4 ?_)
   refine unr 4 (rds (pPL B 2 ?_))
   refine cmp rfl rfl rfl (c_lt d_) (pLL B 10 ?_)
   refine ixR (k:=0) (i:=0) rfl rfl rfl yaz ti64 g o_ o_ rfl (ldRA (cs:=Zd1) rfl rfl yay rfl ti64 (yf B (i:=5) rfl f_) rfl rfl rfl (al (cs:=Za1) rfl ti64 rfl B (fun q bW bX bY aN=>sLL aN 9 fun aO aP=>?_)))
   have ai:=yj [2,3,4,0,1,5,6] aP
   have W:=yc [_,_,_] _ ai
   refine clV (fi:=[]) (ca:=[]) rfl rfl rfl ent27 (miscounted_ok c now e a d lv xs i x (slotS (xs.take i)) (uvS (xs.take i)) (fun b=>b<w.heap.size) aO (yd W (i:=0) rfl) (fun b hb hf=>St.notMine W (w0:=w) (X:=[]) s_ hb s_ (by rw[feet_cons];exact za8 _ hf)) (yap ai s_ d_ hlo) hxs hl0 hx) ?_
   rintro _ bZ ⟨rfl,ht⟩
   have j:=(yp W ht)
   refine pLP j 2 ?_
   cases l:(cntB c x i (prv xs i).seq (slotS (xs.take i)) (uvS (xs.take i)):Bool)
   . skip
     refine pPQ j 8 ?_
     refine tN (?_)
     refine rds (pPL j 2 ?_)
     refine cmp rfl rfl rfl (c_lt d_) (pLL j 10 ?_)
     refine ixR (k:=1) (i:=1) rfl rfl rfl yaz ti64 g o_ o_ rfl (ldRA (cs:=Zdi) rfl rfl yay rfl ti64 (yf j (i:=6) rfl f_) rfl rfl rfl (al (cs:=Za1) rfl ti64 rfl j (fun Y b0 b1 b2 aQ=>sLL aQ 9 fun aR Z=>?_)))
     refine clV (fi:=[]) (ca:=[]) rfl rfl rfl ent28 (expired_ok c hc now e a d lv xs i x aR (yap Z s_ d_ hl) hxs hl0 (Z.at (i:=1) rfl) hx) ?_
     rintro _ b3 ⟨rfl,aS⟩
     have m:=yaa Z aS
     refine pLP m 2 ?_
     cases H:(decide (x.exp<=now):Bool)
     . skip
       refine pPQ m 8 ?_
       refine tN (?_)
       refine rds (pPL m 2 ?_)
       refine cmp rfl rfl rfl (c_lt d_) (pLL m 10 ?_)
       refine ixR (k:=2) (i:=2) rfl rfl rfl yaz ti64 g o_ o_ rfl (ldRA (cs:=Zb2) rfl rfl yay rfl ti64 (yf m (i:=7) rfl f_) rfl rfl rfl (al (cs:=Za1) rfl ti64 rfl m (fun aT b4 b5 b6 aU=>sLL aU 8 fun aV I=>?_)))
       refine ldA (cs:=(Zr x)) rfl rfl yy rfl ti34 rfl (yab I (i:=6) (o:=0) (vs:=(Zr x)) rfl rfl) (clV (fi:=[]) (ca:=[]) rfl rfl rfl ent29 (mistimed_ok c hc now e a d lv xs i x aV (yap I s_ d_ hl) hxs hl0 (I.at (i:=2) rfl) hx) ?_)
       rintro _ aW ⟨rfl,aX⟩
       have s:=yaa I aX
       refine pLP s 2 ?_
       cases aj:(clkB c now x i (prv xs i).t:Bool)
       . skip
         refine pPQ s 8 ?_
         refine tN (?_)
         refine rds (pPL s 2 ?_)
         refine cmp rfl rfl rfl (c_nlt d_) (pLQ s 14 ?_)
         refine tN (?_)
         have aY:=yj [2,3,4,7,8] s
         have hfl:flS c now xs i=flS c now xs (i+1):=by rw[flS_succ hx,fl1];simp only[h,l,H,aj,decide_true,decide_false,decide_eq_true_eq,decide_eq_false_iff_not,if_true,if_false,za2,zam,zal,zaf]
         have hs9:St [(w,[])] (Zao e c.win c.edges c.verts c.draws now lv i (some a) (some d) (mset a .i64 (slotS (xs.take (i+1)))) (mset d .u64 (uvS (xs.take (i+1)))) vo (flS c now xs (i+1)) f KL) aW:=by rw[<-hfl,slotS_snoc hx,uvS_snoc hx];exact aY
         exact again ((i+1),(i:Int),vo) ⟨rfl,rfl,rfl,rfl,rfl,eqI (by first|rfl|omega),trivial⟩ (⟨hs9,o_⟩) (by show (xs.length-(i+1):Nat)<xs.length-i;omega)
       . skip
         refine pPL s 6 ?_
         refine bld (pvs:=[(0,Zaw),(1,(Za i))]) (v:=.agg (Zby i)) rfl rfl (buildS [(0,Zbl),(1,(Zd i))] ti36 pl36 rfl ⟨rfl,rfl,rfl,rfl,trivial⟩ rfl) (bsv (vs:=(Zb7 i)) (cs:=(Zbv i)) rfl rfl y8 ti36 rfl (by simp[Value.cells]) rfl rfl rfl s (fun aZ b7 b8 b9 ak=>apdR (cf:=flC) (ys:=flS c now xs i) (zs:=[(5,(i:Int))]) (LL:=fun J=>(Zcb (row (.slice (some ⟨aZ,0,none⟩) 1 1) 36 2 1 ([(.int .i64 5),(.int .i64 i)])) aT Y e c.win c.edges c.verts c.draws now lv i (some a) (some d) (mset a .i64 (insI (slotS (xs.take i)) x.slot)) (mset d .u64 (insI (insI (uvS (xs.take i)) x.u) x.v)) q p x J ((flS c now xs i)++([(5,(i:Int))])) f KL)) 8 rfl rfl rfl y8 ti36 rfl d_ ak rfl (yaq ak (i:=0) rfl) (fl_one _) (by have:=flS_len c now xs i;simp only[zo,zk,zq];omega) (by have:=flS_len c now xs i;simp only[zo,zk,zq];omega) f_ ?_))
         intro J a0 am cb
         have aa:=yj [1,2,3,4,5,6,7,8,9] am
         refine pLQ aa 8 ?_
         refine tN (?_)
         refine rds (pPL aa 2 ?_)
         refine cmp rfl rfl rfl (c_nlt d_) (pLQ aa 14 ?_)
         refine tN (?_)
         have a1:=yj [3,4,5,8,9] am
         have hfl:(flS c now xs i)++([(5,(i:Int))])=flS c now xs (i+1):=by rw[flS_succ hx,fl1];simp only[h,l,H,aj,decide_true,decide_false,decide_eq_true_eq,decide_eq_false_iff_not,if_true,if_false,za2,zam,zal,zaf]
         have hs9:St [(w,[])] (Zao e c.win c.edges c.verts c.draws now lv i (some a) (some d) (mset a .i64 (slotS (xs.take (i+1)))) (mset d .u64 (uvS (xs.take (i+1)))) J (flS c now xs (i+1)) f KL) a0:=by rw[<-hfl,slotS_snoc hx,uvS_snoc hx];exact a1
         exact again ((i+1),(i:Int),J) ⟨rfl,rfl,rfl,rfl,rfl,eqI (by first|rfl|omega),trivial⟩ (⟨hs9,o_⟩) (by show (xs.length-(i+1):Nat)<xs.length-i;omega)
     . skip
       refine pPL m 6 ?_
       refine bld (pvs:=[(0,Zar),(1,(Za i))]) (v:=.agg (Zcj i)) rfl rfl (buildS [(0,[Zar]),(1,(Zd i))] ti36 pl36 rfl ⟨rfl,rfl,rfl,rfl,trivial⟩ rfl) (bsv (vs:=(Zcy i)) (cs:=(Zbs i)) rfl rfl y8 ti36 rfl (by simp[Value.cells]) rfl rfl rfl m (fun a2 cc cd ce an=>apdR (cf:=flC) (ys:=flS c now xs i) (zs:=[(2,(i:Int))]) (LL:=fun K=>(Zdj (row (.slice (some ⟨a2,0,none⟩) 1 1) 36 2 1 ([(.int .i64 2),(.int .i64 i)])) Y e c.win c.edges c.verts c.draws now lv i (some a) (some d) (mset a .i64 (insI (slotS (xs.take i)) x.slot)) (mset d .u64 (insI (insI (uvS (xs.take i)) x.u) x.v)) q p x K ((flS c now xs i)++([(2,(i:Int))])) f KL)) 7 rfl rfl rfl y8 ti36 rfl d_ an rfl (yaq an (i:=0) rfl) (fl_one _) (by have:=flS_len c now xs i;simp only[zo,zk,zq];omega) (by have:=flS_len c now xs i;simp only[zo,zk,zq];omega) f_ ?_))
       intro K cg a3 ch
       have C:=yj [1,2,3,4,5,6,7,8] a3
       refine pLQ C 8 ?_
       refine tN (?_)
       refine rds (pPL C 2 ?_)
       refine cmp rfl rfl rfl (c_lt d_) (pLL C 10 ?_)
       refine ixR (k:=2) (i:=2) rfl rfl rfl yaz ti64 g o_ o_ rfl (ldRA (cs:=Zb2) rfl rfl yay rfl ti64 (yf C (i:=7) rfl f_) rfl rfl rfl (al (cs:=Za1) rfl ti64 rfl C (fun a4 ci cj ck a5=>sLL a5 8 fun a6 L=>?_)))
       refine ldA (cs:=(Zr x)) rfl rfl yy rfl ti34 rfl (yab L (i:=6) (o:=0) (vs:=(Zr x)) rfl rfl) (clV (fi:=[]) (ca:=[]) rfl rfl rfl ent29 (mistimed_ok c hc now e a d lv xs i x a6 (yap L s_ d_ hl) hxs hl0 (L.at (i:=2) rfl) hx) ?_)
       rintro _ a7 ⟨rfl,a8⟩
       have y:=yaa L a8
       refine pLP y 2 ?_
       cases ao:(clkB c now x i (prv xs i).t:Bool)
       . skip
         refine pPQ y 8 ?_
         refine tN (?_)
         refine rds (pPL y 2 ?_)
         refine cmp rfl rfl rfl (c_nlt d_) (pLQ y 14 ?_)
         refine tN (?_)
         have a9:=yj [2,3,4,7,8] y
         have hfl:(flS c now xs i)++([(2,(i:Int))])=flS c now xs (i+1):=by rw[flS_succ hx,fl1];simp only[h,l,H,ao,decide_true,decide_false,decide_eq_true_eq,decide_eq_false_iff_not,if_true,if_false,za2,zam,zal,zaf]
         have hs9:St [(w,[])] (Zao e c.win c.edges c.verts c.draws now lv i (some a) (some d) (mset a .i64 (slotS (xs.take (i+1)))) (mset d .u64 (uvS (xs.take (i+1)))) K (flS c now xs (i+1)) f KL) a7:=by rw[<-hfl,slotS_snoc hx,uvS_snoc hx];exact a9
         exact again ((i+1),(i:Int),K) ⟨rfl,rfl,rfl,rfl,rfl,eqI (by first|rfl|omega),trivial⟩ (⟨hs9,o_⟩) (by show (xs.length-(i+1):Nat)<xs.length-i;omega)
       . skip
         refine pPL y 6 ?_
         refine bld (pvs:=[(0,Zaw),(1,(Za i))]) (v:=.agg (Zby i)) rfl rfl (buildS [(0,Zbl),(1,(Zd i))] ti36 pl36 rfl ⟨rfl,rfl,rfl,rfl,trivial⟩ rfl) (bsv (vs:=(Zb7 i)) (cs:=(Zbv i)) rfl rfl y8 ti36 rfl (by simp[Value.cells]) rfl rfl rfl y (fun ba cm cn co aq=>apdR (cf:=flC) (ys:=(flS c now xs i)++([(2,(i:Int))])) (zs:=[(5,(i:Int))]) (LL:=fun M=>(Zcb (row (.slice (some ⟨ba,0,none⟩) 1 1) 36 2 1 ([(.int .i64 5),(.int .i64 i)])) a4 Y e c.win c.edges c.verts c.draws now lv i (some a) (some d) (mset a .i64 (insI (slotS (xs.take i)) x.slot)) (mset d .u64 (insI (insI (uvS (xs.take i)) x.u) x.v)) q p x M (((flS c now xs i)++([(2,(i:Int))]))++([(5,(i:Int))])) f KL)) 8 rfl rfl rfl y8 ti36 rfl d_ aq rfl (yaq aq (i:=0) rfl) (fl_one _) (by have:=flS_len c now xs i;simp only[zo,zk,zq];omega) (by have:=flS_len c now xs i;simp only[zo,zk,zq];omega) f_ ?_))
         intro M bb ar cp
         have ab:=yj [1,2,3,4,5,6,7,8,9] ar
         refine pLQ ab 8 ?_
         refine tN (?_)
         refine rds (pPL ab 2 ?_)
         refine cmp rfl rfl rfl (c_nlt d_) (pLQ ab 14 ?_)
         refine tN (?_)
         have bc:=yj [3,4,5,8,9] ar
         have hfl:((flS c now xs i)++([(2,(i:Int))]))++([(5,(i:Int))])=flS c now xs (i+1):=by rw[flS_succ hx,fl1];simp only[h,l,H,ao,decide_true,decide_false,decide_eq_true_eq,decide_eq_false_iff_not,if_true,if_false,za2,zam,zal,zaf]
         have hs9:St [(w,[])] (Zao e c.win c.edges c.verts c.draws now lv i (some a) (some d) (mset a .i64 (slotS (xs.take (i+1)))) (mset d .u64 (uvS (xs.take (i+1)))) M (flS c now xs (i+1)) f KL) bb:=by rw[<-hfl,slotS_snoc hx,uvS_snoc hx];exact bc
         exact again ((i+1),(i:Int),M) ⟨rfl,rfl,rfl,rfl,rfl,eqI (by first|rfl|omega),trivial⟩ (⟨hs9,o_⟩) (by show (xs.length-(i+1):Nat)<xs.length-i;omega)
   . skip
     refine pPL j 6 ?_
     refine bld (pvs:=[(0,Z5),(1,(Za i))]) (v:=.agg #[Z5,(Za i)]) rfl rfl (buildS [(0,[Z5]),(1,(Zd i))] ti36 pl36 rfl ⟨rfl,rfl,rfl,rfl,trivial⟩ rfl) (bsv (vs:=[(.agg #[Z5,(Za i)])]) (cs:=[Z5,(Za i)]) rfl rfl y8 ti36 rfl (by simp[Value.cells]) rfl rfl rfl j (fun bd cq cr ct au=>apdR (cf:=flC) (ys:=flS c now xs i) (zs:=[(1,(i:Int))]) (LL:=fun N=>[row (Zv bd) 36 2 1 ([Z5,(Za i)]),blk e 59 (Zc8 c.win c.edges c.verts c.draws now lv i (some a) (some d)),mset a .i64 (insI (slotS (xs.take i)) x.slot),mset d .u64 (insI (insI (uvS (xs.take i)) x.u) x.v),blk q 64 Zd1,blk p 34 (Zr x),rowR flC N 36 2 ((flS c now xs i)++([(1,(i:Int))])),rowR kC f 64 2 KL]) 6 rfl rfl rfl y8 ti36 rfl d_ au rfl (yaq au (i:=0) rfl) (fl_one _) (by have:=flS_len c now xs i;simp only[zo,zk,zq];omega) (by have:=flS_len c now xs i;simp only[zo,zk,zq];omega) f_ ?_))
     intro N cu be cv
     have D:=yj [1,2,3,4,5,6,7] be
     refine pLQ D 8 ?_
     refine tN (?_)
     refine rds (pPL D 2 ?_)
     refine cmp rfl rfl rfl (c_lt d_) (pLL D 10 ?_)
     refine ixR (k:=1) (i:=1) rfl rfl rfl yaz ti64 g o_ o_ rfl (ldRA (cs:=Zdi) rfl rfl yay rfl ti64 (yf D (i:=6) rfl f_) rfl rfl rfl (al (cs:=Za1) rfl ti64 rfl D (fun ac cw cx cy bf=>sLL bf 9 fun bg ad=>?_)))
     refine clV (fi:=[]) (ca:=[]) rfl rfl rfl ent28 (expired_ok c hc now e a d lv xs i x bg (yap ad s_ d_ hl) hxs hl0 (ad.at (i:=1) rfl) hx) ?_
     rintro _ cz ⟨rfl,bh⟩
     have n:=yaa ad bh
     refine pLP n 2 ?_
     cases O:(decide (x.exp<=now):Bool)
     . skip
       refine pPQ n 8 ?_
       refine tN (?_)
       refine rds (pPL n 2 ?_)
       refine cmp rfl rfl rfl (c_lt d_) (pLL n 10 ?_)
       refine ixR (k:=2) (i:=2) rfl rfl rfl yaz ti64 g o_ o_ rfl (ldRA (cs:=Zb2) rfl rfl yay rfl ti64 (yf n (i:=7) rfl f_) rfl rfl rfl (al (cs:=Za1) rfl ti64 rfl n (fun bi cA cB cC bj=>sLL bj 8 fun bl P=>?_)))
       refine ldA (cs:=(Zr x)) rfl rfl yy rfl ti34 rfl (yab P (i:=6) (o:=0) (vs:=(Zr x)) rfl rfl) (clV (fi:=[]) (ca:=[]) rfl rfl rfl ent29 (mistimed_ok c hc now e a d lv xs i x bl (yap P s_ d_ hl) hxs hl0 (P.at (i:=2) rfl) hx) ?_)
       rintro _ bm ⟨rfl,bn⟩
       have z:=yaa P bn
       refine pLP z 2 ?_
       cases av:(clkB c now x i (prv xs i).t:Bool)
       . skip
         refine pPQ z 8 ?_
         refine tN (?_)
         refine rds (pPL z 2 ?_)
         refine cmp rfl rfl rfl (c_nlt d_) (pLQ z 14 ?_)
         refine tN (?_)
         have bo:=yj [2,3,4,7,8] z
         have hfl:(flS c now xs i)++([(1,(i:Int))])=flS c now xs (i+1):=by rw[flS_succ hx,fl1];simp only[h,l,O,av,decide_true,decide_false,decide_eq_true_eq,decide_eq_false_iff_not,if_true,if_false,za2,zam,zal,zaf]
         have hs9:St [(w,[])] (Zao e c.win c.edges c.verts c.draws now lv i (some a) (some d) (mset a .i64 (slotS (xs.take (i+1)))) (mset d .u64 (uvS (xs.take (i+1)))) N (flS c now xs (i+1)) f KL) bm:=by rw[<-hfl,slotS_snoc hx,uvS_snoc hx];exact bo
         exact again ((i+1),(i:Int),N) ⟨rfl,rfl,rfl,rfl,rfl,eqI (by first|rfl|omega),trivial⟩ (⟨hs9,o_⟩) (by show (xs.length-(i+1):Nat)<xs.length-i;omega)
       . skip
         refine pPL z 6 ?_
         refine bld (pvs:=[(0,Zaw),(1,(Za i))]) (v:=.agg (Zby i)) rfl rfl (buildS [(0,Zbl),(1,(Zd i))] ti36 pl36 rfl ⟨rfl,rfl,rfl,rfl,trivial⟩ rfl) (bsv (vs:=(Zb7 i)) (cs:=(Zbv i)) rfl rfl y8 ti36 rfl (by simp[Value.cells]) rfl rfl rfl z (fun bp cD cE cF aw=>apdR (cf:=flC) (ys:=(flS c now xs i)++([(1,(i:Int))])) (zs:=[(5,(i:Int))]) (LL:=fun Q=>(Zcb (row (.slice (some ⟨bp,0,none⟩) 1 1) 36 2 1 ([(.int .i64 5),(.int .i64 i)])) bi ac e c.win c.edges c.verts c.draws now lv i (some a) (some d) (mset a .i64 (insI (slotS (xs.take i)) x.slot)) (mset d .u64 (insI (insI (uvS (xs.take i)) x.u) x.v)) q p x Q (((flS c now xs i)++([(1,(i:Int))]))++([(5,(i:Int))])) f KL)) 8 rfl rfl rfl y8 ti36 rfl d_ aw rfl (yaq aw (i:=0) rfl) (fl_one _) (by have:=flS_len c now xs i;simp only[zo,zk,zq];omega) (by have:=flS_len c now xs i;simp only[zo,zk,zq];omega) f_ ?_))
         intro Q bq ax cG
         have ae:=yj [1,2,3,4,5,6,7,8,9] ax
         refine pLQ ae 8 ?_
         refine tN (?_)
         refine rds (pPL ae 2 ?_)
         refine cmp rfl rfl rfl (c_nlt d_) (pLQ ae 14 ?_)
         refine tN (?_)
         have br:=yj [3,4,5,8,9] ax
         have hfl:((flS c now xs i)++([(1,(i:Int))]))++([(5,(i:Int))])=flS c now xs (i+1):=by rw[flS_succ hx,fl1];simp only[h,l,O,av,decide_true,decide_false,decide_eq_true_eq,decide_eq_false_iff_not,if_true,if_false,za2,zam,zal,zaf]
         have hs9:St [(w,[])] (Zao e c.win c.edges c.verts c.draws now lv i (some a) (some d) (mset a .i64 (slotS (xs.take (i+1)))) (mset d .u64 (uvS (xs.take (i+1)))) Q (flS c now xs (i+1)) f KL) bq:=by rw[<-hfl,slotS_snoc hx,uvS_snoc hx];exact br
         exact again ((i+1),(i:Int),Q) ⟨rfl,rfl,rfl,rfl,rfl,eqI (by first|rfl|omega),trivial⟩ (⟨hs9,o_⟩) (by show (xs.length-(i+1):Nat)<xs.length-i;omega)
     . skip
       refine pPL n 6 ?_
       refine bld (pvs:=[(0,Zar),(1,(Za i))]) (v:=.agg (Zcj i)) rfl rfl (buildS [(0,[Zar]),(1,(Zd i))] ti36 pl36 rfl ⟨rfl,rfl,rfl,rfl,trivial⟩ rfl) (bsv (vs:=(Zcy i)) (cs:=(Zbs i)) rfl rfl y8 ti36 rfl (by simp[Value.cells]) rfl rfl rfl n (fun bs cH cI cJ ay=>apdR (cf:=flC) (ys:=(flS c now xs i)++([(1,(i:Int))])) (zs:=[(2,(i:Int))]) (LL:=fun R=>(Zdj (row (.slice (some ⟨bs,0,none⟩) 1 1) 36 2 1 ([(.int .i64 2),(.int .i64 i)])) ac e c.win c.edges c.verts c.draws now lv i (some a) (some d) (mset a .i64 (insI (slotS (xs.take i)) x.slot)) (mset d .u64 (insI (insI (uvS (xs.take i)) x.u) x.v)) q p x R (((flS c now xs i)++([(1,(i:Int))]))++([(2,(i:Int))])) f KL)) 7 rfl rfl rfl y8 ti36 rfl d_ ay rfl (yaq ay (i:=0) rfl) (fl_one _) (by have:=flS_len c now xs i;simp only[zo,zk,zq];omega) (by have:=flS_len c now xs i;simp only[zo,zk,zq];omega) f_ ?_))
       intro R cK bt cL
       have E:=yj [1,2,3,4,5,6,7,8] bt
       refine pLQ E 8 ?_
       refine tN (?_)
       refine rds (pPL E 2 ?_)
       refine cmp rfl rfl rfl (c_lt d_) (pLL E 10 ?_)
       refine ixR (k:=2) (i:=2) rfl rfl rfl yaz ti64 g o_ o_ rfl (ldRA (cs:=Zb2) rfl rfl yay rfl ti64 (yf E (i:=7) rfl f_) rfl rfl rfl (al (cs:=Za1) rfl ti64 rfl E (fun bu cM cN cO bv=>sLL bv 8 fun bw S=>?_)))
       refine ldA (cs:=(Zr x)) rfl rfl yy rfl ti34 rfl (yab S (i:=6) (o:=0) (vs:=(Zr x)) rfl rfl) (clV (fi:=[]) (ca:=[]) rfl rfl rfl ent29 (mistimed_ok c hc now e a d lv xs i x bw (yap S s_ d_ hl) hxs hl0 (S.at (i:=2) rfl) hx) ?_)
       rintro _ bz ⟨rfl,bA⟩
       have A:=yaa S bA
       refine pLP A 2 ?_
       cases az:(clkB c now x i (prv xs i).t:Bool)
       . skip
         refine pPQ A 8 ?_
         refine tN (?_)
         refine rds (pPL A 2 ?_)
         refine cmp rfl rfl rfl (c_nlt d_) (pLQ A 14 ?_)
         refine tN (?_)
         have bB:=yj [2,3,4,7,8] A
         have hfl:((flS c now xs i)++([(1,(i:Int))]))++([(2,(i:Int))])=flS c now xs (i+1):=by rw[flS_succ hx,fl1];simp only[h,l,O,az,decide_true,decide_false,decide_eq_true_eq,decide_eq_false_iff_not,if_true,if_false,za2,zam,zal,zaf]
         have hs9:St [(w,[])] (Zao e c.win c.edges c.verts c.draws now lv i (some a) (some d) (mset a .i64 (slotS (xs.take (i+1)))) (mset d .u64 (uvS (xs.take (i+1)))) R (flS c now xs (i+1)) f KL) bz:=by rw[<-hfl,slotS_snoc hx,uvS_snoc hx];exact bB
         exact again ((i+1),(i:Int),R) ⟨rfl,rfl,rfl,rfl,rfl,eqI (by first|rfl|omega),trivial⟩ (⟨hs9,o_⟩) (by show (xs.length-(i+1):Nat)<xs.length-i;omega)
       . skip
         refine pPL A 6 ?_
         refine bld (pvs:=[(0,Zaw),(1,(Za i))]) (v:=.agg (Zby i)) rfl rfl (buildS [(0,Zbl),(1,(Zd i))] ti36 pl36 rfl ⟨rfl,rfl,rfl,rfl,trivial⟩ rfl) (bsv (vs:=(Zb7 i)) (cs:=(Zbv i)) rfl rfl y8 ti36 rfl (by simp[Value.cells]) rfl rfl rfl A (fun bC cP cQ cR aA=>apdR (cf:=flC) (ys:=((flS c now xs i)++([(1,(i:Int))]))++([(2,(i:Int))])) (zs:=[(5,(i:Int))]) (LL:=fun U=>(Zcb (row (.slice (some ⟨bC,0,none⟩) 1 1) 36 2 1 ([(.int .i64 5),(.int .i64 i)])) bu ac e c.win c.edges c.verts c.draws now lv i (some a) (some d) (mset a .i64 (insI (slotS (xs.take i)) x.slot)) (mset d .u64 (insI (insI (uvS (xs.take i)) x.u) x.v)) q p x U ((((flS c now xs i)++([(1,(i:Int))]))++([(2,(i:Int))]))++([(5,(i:Int))])) f KL)) 8 rfl rfl rfl y8 ti36 rfl d_ aA rfl (yaq aA (i:=0) rfl) (fl_one _) (by have:=flS_len c now xs i;simp only[zo,zk,zq];omega) (by have:=flS_len c now xs i;simp only[zo,zk,zq];omega) f_ ?_))
         intro U bD aB cS
         have af:=yj [1,2,3,4,5,6,7,8,9] aB
         refine pLQ af 8 ?_
         refine tN (?_)
         refine rds (pPL af 2 ?_)
         refine cmp rfl rfl rfl (c_nlt d_) (pLQ af 14 ?_)
         refine tN (?_)
         have bE:=yj [3,4,5,8,9] aB
         have hfl:(((flS c now xs i)++([(1,(i:Int))]))++([(2,(i:Int))]))++([(5,(i:Int))])=flS c now xs (i+1):=by rw[flS_succ hx,fl1];simp only[h,l,O,az,decide_true,decide_false,decide_eq_true_eq,decide_eq_false_iff_not,if_true,if_false,za2,zam,zal,zaf]
         have hs9:St [(w,[])] (Zao e c.win c.edges c.verts c.draws now lv i (some a) (some d) (mset a .i64 (slotS (xs.take (i+1)))) (mset d .u64 (uvS (xs.take (i+1)))) U (flS c now xs (i+1)) f KL) bD:=by rw[<-hfl,slotS_snoc hx,uvS_snoc hx];exact bE
         exact again ((i+1),(i:Int),U) ⟨rfl,rfl,rfl,rfl,rfl,eqI (by first|rfl|omega),trivial⟩ (⟨hs9,o_⟩) (by show (xs.length-(i+1):Nat)<xs.length-i;omega)
 . refine pLQ hst 17 ?_
   refine ret1 (v:=vo) Tryz.results7 rfl ?_
   rw[show i=xs.length by omega]at hst
   have hs8:=St.sub (L' := [rowR flC vo 36 2 (flS c now xs xs.length)]) hst (List.Sublist.cons _ (List.Sublist.cons _ (List.Sublist.cons _ (List.Sublist.cons_cons _ (List.Sublist.cons _ (List.Sublist.refl _))))))
   exact⟨ybk hs8 s_,hst.chg s_⟩
end
section
open Go Go.Sx Go.Ex
theorem stoodF:ya.stoodInHeld 36=false:=by kernel_rfl
theorem gdF:ya.eqGuardType ya.depth 36=false:=by kernel_rfl
theorem xeqF(a b c d:Int):xeq ya 3 36 (Zag a b) (Zag c d)=some (decide (a=c/\b=d)):=by
 have e1:(a==c)=decide (a=c):=rfl
 have e2:(b==d)=decide (b=d):=rfl
 by_cases h1:a=c<;>by_cases h2:b=d<;>simp[xeq,ybe,ye,stoodF,gdF,allM,xpart,isAg,e1,e2,h1,h2]
theorem eqF(a b c d:Int)(w:World):(Op.equal 36 (Zag a b) (Zag c d)).run ya w = .ok (decide (a=c/\b=d)) w :=
 xeq_sound (E:=fun b=>⟨b,0,0⟩) 3 10000 36 _ _ _ d_ (xeqF a b c d)
theorem eqFs(a b:Int)(w:World):(Op.equal 36 (Zag a b) (Zag a b)).run ya w = .ok true w:=by
 rw[eqF]
 simp
theorem same_ok(va vb:Value)(ys:List (Int×Int))(w:World)(ha:Recs 2 flC (fun _=>True) w va ys)(hb:Recs 2 flC (fun _=>True) w vb ys)(hl0:ys.length<=1000000) :
 CR ya 8 #[va,vb] w (fun r w' => r = .bool true/\Chg [] w w'):=by
 refine en Tryz.func8 Tryz.ntmps8 ?_
 have hst0:=yaf w
 refine pPL hst0 9 ?_
 refine lenI (v:=va) rfl rfl y8 ha (pLL hst0 1 ?_)
 refine lenI (v:=vb) rfl rfl y8 hb (cmp rfl rfl rfl (c_nne rfl) (pLP hst0 12 ?_))
 refine lp (α:=Nat) (fun i=>[(0,va),(1,vb),(5,(Za i))]) (fun i w1=>St [(w,[])] [] w1/\i<=ys.length) (fun i=>ys.length-i) 0 ⟨rfl,rfl,eqI (by first|rfl|omega),trivial⟩ (⟨hst0,o_⟩) ?_
 rintro i d e ⟨hst,hi⟩
 refine pPL hst 5 ?_
 refine lenI (v:=va) rfl rfl y8 ha ?_
 by_cases f:((i:Int):Int)<((ys.length:Int):Int)
 . refine pLP hst 9 ?_
   obtain⟨a,b⟩:=get_some' (show i<ys.length by omega)
   refine dr0 hst (fun g c=>?_) (hA:=by refine' dar 2 ?k0;case k0=>refine' dax (fun wq hM=>rv (ixR_r (v:=va) (k:=i) (i:=(i:Int)) rfl rfl y8 ti36 ha o_ o_ b)) ?k1;case k1=>refine' dax (fun wq hM=>rv (ldRA_r (cs:=(Zi a.1 a.2)) rfl ybe rfl ti36 (yap hM s_ d_ ha) b rfl rfl)) ?k2;case k2=>refine' dar 2 ?k3;case k3=>refine' dax (fun wq hM=>rv (ixR_r (v:=vb) (k:=i) (i:=(i:Int)) rfl rfl y8 ti36 hb o_ o_ b)) ?k4;case k4=>refine' dax (fun wq hM=>rv (ldRA_r (cs:=(Zi a.1 a.2)) rfl ybe rfl ti36 (yap hM s_ d_ hb) b rfl rfl)) ?k5;case k5=>refine' dax (fun wq hM=>rv (neSelf_r (xs:=(Zah a.1 a.2)) rfl rfl gdF (fun w=>eqFs _ _ w))) ?k6;case k6=>exact run2)
   refine pQQ tt none c 10 ?_
   refine tN (?_)
   exact again (i+1) ⟨rfl,rfl,eqI (by first|rfl|omega),trivial⟩ (⟨c,o_⟩) (by show (ys.length-(i+1):Nat)<ys.length-i;omega)
 . refine pLQ hst 15 ?_
   refine ret1 (v:=Zf) Tryz.results8 rfl ?_
   exact⟨rfl,hst.chg s_⟩
end
section
open Go Go.Sx
theorem nan_int64(x:Int)(w:World) :
 CR ya 249 (Zai x) w (fun r w' => r = .bool false/\Chg [] w w'):=by
 refine en Tryz.func249 Tryz.ntmps249 ?_
 have hst0:=yaf w
 refine pPL hst0 9 ?_
 refine cmp rfl rfl rfl (c_nne rfl) (pLQ hst0 4 ?_)
 refine ret1 (v:=Zp) Tryz.results249 rfl ?_
 exact⟨rfl,hst0.chg s_⟩
theorem cmp_int64(x y:Int)(w:World) :
 CR ya 245 (Zah x y) w (fun r w' => r = .int .i64 (cmp3 x y)/\Chg [] w w'):=by
 refine en Tryz.func245 Tryz.ntmps245 ?_
 have hst0:=yaf w
 refine pPL hst0 8 ?_
 refine cl ent249 (nan_int64 x w) ?_
 rintro _ c ⟨rfl,d⟩
 have b:=yaa hst0 d
 refine pLL b 6 ?_
 refine cl ent249 (nan_int64 y c) ?_
 rintro _ f ⟨rfl,e⟩
 have a:=yaa b e
 refine pLL a 26 ?_
 by_cases g:(x:Int)<(y:Int)
 . refine pLQ a 11 ?_
   refine ret1 (v:=Zw) Tryz.results245 rfl ?_
   exact⟨eqI (by simp only[cmp3];(repeat' split)<;>omega),a.chg s_⟩
 . refine pLL a 11 ?_
   by_cases h:(x:Int)>(y:Int)
   . refine pLQ a 11 ?_
     refine ret1 (v:=Z5) Tryz.results245 rfl ?_
     exact⟨eqI (by simp only[cmp3];(repeat' split)<;>omega),a.chg s_⟩
   . refine pLQ a 12 ?_
     refine ret1 (v:=Zc) Tryz.results245 rfl ?_
     exact⟨eqI (by simp only[cmp3];(repeat' split)<;>omega),a.chg s_⟩
theorem nan_int(x:Int)(w:World) :
 CR ya 250 (Zai x) w (fun r w' => r = .bool false/\Chg [] w w'):=by
 refine en Tryz.func250 Tryz.ntmps250 ?_
 have hst0:=yaf w
 refine pPL hst0 9 ?_
 refine cmp rfl rfl rfl (c_nne rfl) (pLQ hst0 4 ?_)
 refine ret1 (v:=Zp) Tryz.results250 rfl ?_
 exact⟨rfl,hst0.chg s_⟩
theorem cmp_int(x y:Int)(w:World) :
 CR ya 246 (Zah x y) w (fun r w' => r = .int .i64 (cmp3 x y)/\Chg [] w w'):=by
 refine en Tryz.func246 Tryz.ntmps246 ?_
 have hst0:=yaf w
 refine pPL hst0 8 ?_
 refine cl ent250 (nan_int x w) ?_
 rintro _ c ⟨rfl,d⟩
 have b:=yaa hst0 d
 refine pLL b 6 ?_
 refine cl ent250 (nan_int y c) ?_
 rintro _ f ⟨rfl,e⟩
 have a:=yaa b e
 refine pLL a 26 ?_
 by_cases g:(x:Int)<(y:Int)
 . refine pLQ a 11 ?_
   refine ret1 (v:=Zw) Tryz.results246 rfl ?_
   exact⟨eqI (by simp only[cmp3];(repeat' split)<;>omega),a.chg s_⟩
 . refine pLL a 11 ?_
   by_cases h:(x:Int)>(y:Int)
   . refine pLQ a 11 ?_
     refine ret1 (v:=Z5) Tryz.results246 rfl ?_
     exact⟨eqI (by simp only[cmp3];(repeat' split)<;>omega),a.chg s_⟩
   . refine pLQ a 12 ?_
     refine ret1 (v:=Zc) Tryz.results246 rfl ?_
     exact⟨eqI (by simp only[cmp3];(repeat' split)<;>omega),a.chg s_⟩
theorem or_int(v:Value)(xs:List Int)(w:World)(hv:Ints .i64 (fun _=>True) w v xs) :
 CR ya 244 #[v] w (fun r w' => r = .int .i64 (orI xs)/\Chg [] w w'):=by
 have hvl:=hv.len
 refine en Tryz.func244 Tryz.ntmps244 ?_
 have hst0:=yaf w
 refine pPL hst0 14 ?_
 refine lenI (v:=v) rfl rfl yh hv (pLP hst0 4 ?_)
 refine lp (α:=Nat) (fun k=>[(3,Zc),(6,v),(7,(Za xs.length)),(8,(Za k))]) (fun k w1=>St [(w,[])] [] w1/\k<=xs.length/\∀ j x,j<k->xs[j]? = some x->x=0) (fun k=>xs.length-k) 0 ⟨rfl,rfl,rfl,eqI (by first|rfl|omega),trivial⟩ (⟨hst0,o_,fun j x h=>absurd h o_⟩) ?_
 rintro k c d ⟨hst7,hk7,hz7⟩
 refine pPL hst7 2 ?_
 by_cases e:((k:Int):Int)<((xs.length:Int):Int)
 . obtain⟨x,hx⟩:=get_some' (show k<xs.length by omega)
   refine pLL hst7 11 ?_
   refine ixI (i:=(k:Int)) (el:=x) rfl rfl rfl yh ti3 (St.ints0 hst7 s_ hv) o_ (by rw[show ((k:Nat):Int).toNat=k by omega];exact hx) ?_
   intro f g a b l
   have m:=b.i64
   refine ld rfl rfl ye rfl a (pLL hst7 7 ?_)
   by_cases n:(x:Int)=(0:Int)
   . refine pLQ hst7 11 ?_
     refine tN (?_)
     exact again (k+1) ⟨rfl,rfl,rfl,eqI (by first|rfl|omega),trivial⟩ (⟨hst7,o_,or_next hz7 hx o_⟩) (by show (xs.length-(k+1):Nat)<xs.length-k;omega)
   . refine pLQ hst7 16 ?_
     refine ret1 (v:=(Za x)) Tryz.results244 rfl ?_
     exact⟨eqI (orI_at hz7 hx o_).symm,hst7.chg s_⟩
 . refine pLQ hst7 17 ?_
   refine ret1 (v:=Zc) Tryz.results244 rfl ?_
   exact⟨eqI (orI_end hz7 o_).symm,hst7.chg s_⟩
theorem order_ok(a b:Ent)(w:World) :
 CR ya 235 #[(Zb8 a),(Zb8 b)] w (fun r w' => r = .int .i64 (ordE a b)/\Chg [] w w'):=by
 refine en Tryz.func235 Tryz.ntmps235 ?_
 have hst0:=yaf w
 refine pPL hst0 2 ?_
 refine bx (v:=(Zb8 a)) (cs:=[(Za a.ix),(Za a.key)]) rfl rfl rfl hst0 (fun g j k l e=>bx (v:=(Zb8 b)) (cs:=[(Za b.ix),(Za b.key)]) rfl rfl rfl e (fun m n o p c=>pLP c 4 ?_))
 refine dr1 c 10 ?_ (hA:=by refine' dar 4 ?k0;case k0=>refine' dax (fun wq hM=>rc (clF_r rfl ent245) (CR.mono (cmp_int64 a.key b.key wq) fun _ _ h=>⟨h.1,hM.grow h.2⟩)) ?k1;case k1=>refine' dar 4 ?k2;case k2=>refine' dax (fun wq hM=>rc (clF_r rfl ent246) (CR.mono (cmp_int (a.ix:Int) (b.ix:Int) wq) fun _ _ h=>⟨h.1,hM.grow h.2⟩)) ?k3;case k3=>exact run2)
 intro wq hM
 refine m_bsv (vs:=(Zi (cmp3 a.key b.key) (cmp3 (a.ix:Int) (b.ix:Int)))) (cs:=(Zi (cmp3 a.key b.key) (cmp3 (a.ix:Int) (b.ix:Int)))) rfl rfl yh ti3 rfl (by simp[Value.cells]) rfl rfl rfl hM (fun f _ h=>(aft h (fun q d=>?_) (hB:=by refine' dax (fun wq hM=>rc (clF_r rfl ent244) (CR.mono (or_int (Zas f) [cmp3 a.key b.key,cmp3 (a.ix:Int) (b.ix:Int)] wq (ybm hM (i:=0) rfl (fun y hy=>by simp only[ze,zba,or_false]at hy;rcases hy with rfl|rfl<;>exact cmp3_in _ _)).any) fun _ _ h=>⟨h.1,hM.grow h.2⟩)) ?k0;case k0=>exact run2)))
 refine pQQ tt none d 2 ?_
 refine ret1 (v:=(Za (orI [cmp3 a.key b.key,cmp3 (a.ix:Int) (b.ix:Int)]))) Tryz.results235 rfl ?_
 exact⟨eqI (ordE_or a b),d.chg s_⟩
end
section
open Go Go.Sx
theorem hvalid_ok(hb n:Nat)(iv pv:Value)(ps:List (Option Nat))(its:List Ent)(pl:List Nat)(w:World)(hO:Own (Zg hb n iv pv its ps pl) w) :
 CR ya 148 (Zk hb) w (fun r w' => r = .bool true/\Turn (Zg hb n iv pv its ps pl) w w' (Zg hb n iv pv its ps pl)):=by
 refine en Tryz.func148 Tryz.ntmps148 ?_
 have hst0:=(yz hO).unpack
 refine pPL hst0 8 ?_
 refine neP (a:=some ⟨hb,0,none⟩) (c:=true) rfl rfl rfl ybc rfl (pLL hst0 6 ?_)
 refine eqPS (a:=⟨hb,0,none⟩) rfl rfl rfl ybc ti262 (pLQ hst0 5 ?_)
 refine ret1 (v:=Zf) Tryz.results148 rfl ?_
 exact⟨rfl,yq (yc [_,_,_,_] _ hst0)⟩
theorem hhas_ok(hb n:Nat)(iv pv:Value)(ps:List (Option Nat))(its:List Ent)(pl:List Nat)(w:World)(hO:Own (Zg hb n iv pv its ps pl) w)(i:Nat)(hi:i<n) :
 CR ya 160 (Zn hb i) w (fun r w' => r = .bool true/\Turn (Zg hb n iv pv its ps pl) w w' (Zg hb n iv pv its ps pl)):=by
 refine en Tryz.func160 Tryz.ntmps160 ?_
 have hst0:=(yz hO).unpack
 refine pPL hst0 8 ?_
 refine cmp rfl rfl rfl (c_ge o_) (pLL hst0 6 ?_)
 refine cmp rfl rfl rfl (c_lt o_) (pLQ hst0 5 ?_)
 refine ret1 (v:=Zf) Tryz.results160 rfl ?_
 exact⟨rfl,yq (yc [_,_,_,_] _ hst0)⟩
theorem hplace_ok(hb n:Nat)(iv pv:Value)(ps:List (Option Nat))(its:List Ent)(pl:List Nat)(w:World)(hO:Own (Zg hb n iv pv its ps pl) w)(hP:Plc n ps pl)(i:Nat)(hi:i<n) :
 CR ya 161 (Zn hb i) w (fun r w' => r = .int .i64 (((ndA pl i:Nat):Int)-1)/\Turn (Zg hb n iv pv its ps pl) w w' (Zg hb n iv pv its ps pl)):=by
 have hij:=hP.at hi
 have hpr:=hP.room
 have hpn:=hP.n
 have hpv:=hP.val i
 refine en Tryz.func161 Tryz.ntmps161 ?_
 have hst0:=(yz hO).unpack
 refine pPL hst0 12 ?_
 refine quo (a:=(i:Int)) (b:=64) (e:=((i / 64:Nat):Int)) rfl rfl rfl d_ (quoN 64 o_) (ixR (cf:=pcf) (k:=(i / 64)) (i:=((i / 64:Nat):Int)) rfl rfl rfl yag ti277 (yf hst0 (i:=2) rfl f_) o_ rfl (nd_get om) (ldR (cf:=pcf) rfl rfl yam rfl (yf hst0 (i:=2) rfl f_) (nd_get om) rfl ?_))
 obtain⟨f,d⟩:∃ q,(ndA ps (i / 64))=q:=⟨_,rfl⟩
 refine pLL hst0 7 ?_
 rcases f with _|g
 . skip
   refine eqP (a:=(ndA ps (i / 64)).map fun b=>⟨b,0,none⟩) (c:=true) rfl rfl rfl yam (by rw[d];rfl) (pLQ hst0 10 ?_)
   refine ret1 (v:=Zw) Tryz.results161 rfl ?_
   exact⟨eqI (by rw[hP.zero (i / 64) ((nd_get hij).trans (congrArg some d)) i rfl];rfl),yq (yc [_,_,_,_] _ hst0)⟩
 . skip
   refine eqP (a:=(ndA ps (i / 64)).map fun b=>⟨b,0,none⟩) (c:=false) rfl rfl rfl yam (by rw[d];rfl) (pLL hst0 9 ?_)
   refine rem (a:=(i:Int)) (b:=64) (e:=((i%64:Nat):Int)) rfl rfl rfl d_ (remN 64) (nilc rfl (ptr_some d) (ixArr (o:=0) (o' := i%64*1+0) (i:=((i%64:Nat):Int)) rfl rfl rfl ybl ti3 o_ (by simp only[zbd];omega) (ld rfl rfl ye rfl (ybt hst0 (i:=3) rfl f_ d_ (by have h7:=hP.room;first|omega|(simp only[putS,updA_len];omega)) ((nd_get o_).trans (congrArg some d)) rfl) (pLQ hst0 5 ?_))))
   refine ret1 (v:=(Za ((((ndA pl i):Nat):Int)-1))) Tryz.results161 rfl ?_
   exact⟨eqI o_,yq (yc [_,_,_,_] _ hst0)⟩
theorem hput_ok(hb n:Nat)(iv pv:Value)(ps:List (Option Nat))(its:List Ent)(pl:List Nat)(w:World)(hO:Own (Zg hb n iv pv its ps pl) w)(hP:Plc n ps pl)(i:Nat)(hi:i<n)(v:Int)(p:Nat)(hv:v+1=(p:Int))(hp:p<=65536) :
 CR ya 162 (Z1 hb i v) w (fun r w' => r = .tuple #[]/\∃ ps2,ps2.length=ps.length/\Plc n ps2 (putS pl i p)/\Turn (Zg hb n iv pv its ps pl) w w' (Zg hb n iv pv its ps2 (putS pl i p))):=by
 have hij:=hP.at hi
 have hpr:=hP.room
 have hpn:=hP.n
 have hpv:=hP.val i
 refine en Tryz.func162 Tryz.ntmps162 ?_
 have hst0:=(yz hO).unpack
 refine pPL hst0 8 ?_
 refine quo (a:=(i:Int)) (b:=64) (e:=((i / 64:Nat):Int)) rfl rfl rfl d_ (quoN 64 o_) (ixR (cf:=pcf) (k:=(i / 64)) (i:=((i / 64:Nat):Int)) rfl rfl rfl yag ti277 (yf hst0 (i:=2) rfl f_) o_ o_ (nd_get om) (ldR (cf:=pcf) rfl rfl yam rfl (yf hst0 (i:=2) rfl f_) (nd_get om) rfl ?_))
 obtain⟨t,g⟩:∃ q,(ndA ps (i / 64))=q:=⟨_,rfl⟩
 rcases t with _|u
 . skip
   refine eqP (a:=(ndA ps (i / 64)).map fun b=>⟨b,0,none⟩) (c:=true) rfl rfl rfl yam (by rw[g];rfl) (pLL hst0 9 ?_)
   refine quo (a:=(i:Int)) (b:=64) (e:=((i / 64:Nat):Int)) rfl rfl rfl d_ (quoN 64 o_) (al (cs:=Zcn) rfl ti279 rfl hst0 (fun d A B C j=>ixR (cf:=pcf) (k:=(i / 64)) (i:=((i / 64:Nat):Int)) rfl rfl rfl yag ti277 (yf j (i:=3) rfl f_) o_ o_ (nd_get om) (stoR (f:=(fun _=>(some d))) (L' := [blk d 279 Zcn,blk hb 262 (Zac hb n iv pv),rowR Ent.cells iv 111 2 its,rowR pcf pv 277 1 (updA ps (i / 64) (fun _=>(some d))),chk ncf 279 64 ps pl]) 3 rfl rfl rfl rfl ti277 rfl rfl j rfl f_ om rfl rfl rfl ?_)))
   intro D l
   have x:=yj [0,4,1,2,3] l
   have hj0:ps[i / 64]? = some none:=(nd_get hij).trans (congrArg some g)
   have y:=St.chkSet x hj0 (hP.chunk0 hj0)
   have h:=y
   have hP2:Plc n (ps.set (i / 64) (some d)) pl:=hP.made
   have hb2:(ps.set (i / 64) (some d))[i / 64]? = some (some d):=by rw[za7,if_pos rfl,if_pos hij]
   have hij2:i / 64<(ps.set (i / 64) (some d)).length:=by rw[List.length_set];exact hij
   refine pLL l 8 ?_
   refine quo (a:=(i:Int)) (b:=64) (e:=((i / 64:Nat):Int)) rfl rfl rfl d_ (quoN 64 o_) (ixR (cf:=pcf) (k:=(i / 64)) (i:=((i / 64:Nat):Int)) rfl rfl rfl yag ti277 (yf h (i:=3) rfl f_) o_ o_ (nd_get om) (ldR (cf:=pcf) rfl rfl yam rfl (yf h (i:=3) rfl f_) (nd_get om) rfl (pLL h 1 ?_)))
   refine rem (a:=(i:Int)) (b:=64) (e:=((i%64:Nat):Int)) rfl rfl rfl d_ (remN 64) (pLL h 1 ?_)
   refine ar (e:=(p:Int)) rfl rfl rfl rfl (by rw[w64 o_];exact hv) (nilc rfl (ptr_some (nd_of hb2)) (ixArr (o:=0) (o' := i%64*1+0) (i:=((i%64:Nat):Int)) rfl rfl rfl ybl ti3 o_ (by simp only[zbd];omega) (stoC (f:=(fun _=>p)) (L' := [chk ncf 279 64 (ps.set (i / 64) (some d)) (updA pl i (fun _=>p)),blk hb 262 (Zac hb n iv pv),rowR Ent.cells iv 111 2 its,rowR pcf pv 277 1 (ps.set (i / 64) (some d))]) 0 rfl rfl rfl rfl ti3 rfl rfl h rfl f_ d_ (by have h7:=hP.room;first|omega|(simp only[putS,updA_len];omega)) hb2 rfl rfl rfl (fun E m=>pLQ m 1 ?_))))
   refine end0 Tryz.results162 ?_
   have z:=yj [1,2,3,0] m
   exact⟨rfl,ps.set (i / 64) (some d),s_,hP2.set hi o_ hb2,yq (yc [_,_,_,_] _ z)⟩
 . skip
   refine eqP (a:=(ndA ps (i / 64)).map fun b=>⟨b,0,none⟩) (c:=false) rfl rfl rfl yam (by rw[g];rfl) ?_
   have hP2:=hP
   have hb2:ps[i / 64]? = some (some u):=(nd_get hij).trans (congrArg some g)
   have hij2:=hij
   refine pLL hst0 11 ?_
   refine quo (a:=(i:Int)) (b:=64) (e:=((i / 64:Nat):Int)) rfl rfl rfl d_ (quoN 64 o_) (ixR (cf:=pcf) (k:=(i / 64)) (i:=((i / 64:Nat):Int)) rfl rfl rfl yag ti277 (yf hst0 (i:=2) rfl f_) o_ o_ (nd_get om) (ldR (cf:=pcf) rfl rfl yam rfl (yf hst0 (i:=2) rfl f_) (nd_get om) rfl (pLL hst0 1 ?_)))
   refine rem (a:=(i:Int)) (b:=64) (e:=((i%64:Nat):Int)) rfl rfl rfl d_ (remN 64) (pLL hst0 1 ?_)
   refine ar (e:=(p:Int)) rfl rfl rfl rfl (by rw[w64 o_];exact hv) (nilc rfl (ptr_some g) (ixArr (o:=0) (o' := i%64*1+0) (i:=((i%64:Nat):Int)) rfl rfl rfl ybl ti3 o_ (by simp only[zbd];omega) (stoC (f:=(fun _=>p)) (L' := (Zat hb n iv pv its ps (updA pl i (fun _=>p)))) 3 rfl rfl rfl rfl ti3 rfl rfl hst0 rfl f_ d_ (by have h7:=hP.room;first|omega|(simp only[putS,updA_len];omega)) hb2 rfl rfl rfl (fun G s=>pLQ s 1 ?_))))
   refine end0 Tryz.results162 ?_
   exact⟨rfl,ps,s_,hP2.set hi o_ hb2,yq (yc [_,_,_,_] _ s)⟩
end
section
open Go Go.Sx
abbrev prl204_0:List (List Nat):=[[],[0],[0,1],[0,1,2],[],[],[5],[5,6],[5,6,7],[],[],[10],[10,11],[10,11,12],[],[10,11,12,13,14],[10,11,12,13,14,15],[],[17],[17,18],[17,18,19],[],[17,18,19,20,21],[17,18,19,20,21,22],[0,1,2,3,4,5,6,7,8,10,11,12,13,14,15,16,17,18,19,20,21,22,23],[0,1,2,3,4,5,6,7,8,10,11,12,13,14,15,16,17,18,19,20,21,22,23,24],[0,1,2,3,4,5,6,7,8,9,10,11,12,13,14,15,16,17,18,19,20,21,22,23,24,25],[0,1,2,3,4,5,6,7,8,9,10,11,12,13,14,15,16,17,18,19,20,21,22,23,24,25,26]]
theorem hswap_ok(hb n:Nat)(iv pv:Value)(ps:List (Option Nat))(its:List Ent)(pl:List Nat)(w:World)(hO:Own (Zg hb n iv pv its ps pl) w)(hS:Hp n its pl)(hP:Plc n ps pl)(p q:Nat)(hp:p<its.length)(hq:q<its.length) :
 CR ya 204 (Z1 hb p q) w (fun r w' => r = .tuple #[]/\∃ qs,qs.length=ps.length/\Plc n qs (putS (putS pl (ndA (swapS its p q) p).ix (p+1)) (ndA (swapS its p q) q).ix (q+1))/\Turn (Zg hb n iv pv its ps pl) w w' (Zg hb n iv pv (swapS its p q) qs (putS (putS pl (ndA (swapS its p q) p).ix (p+1)) (ndA (swapS its p q) q).ix (q+1)))):=by
 have hnn:=hP.n
 have hln:=hS.len
 have hsl:=swapS_len its p q
 have hsix:∀ j,j<its.length->(ndA (swapS its p q) j).ix<n:=fun j hj=>(hS.swap hp hq).ix j (by rw[hsl];exact hj)
 refine en Tryz.func204 Tryz.ntmps204 ?_
 have hst0:=(yz hO).unpack
 refine pPP hst0 1 ?_
 refine rgs (Γ:=Unit) mixed prl204_0 [25,27] k_ [fun _=>(Zb hb),fun _=>(Zb hb),fun _=>(Zab hb),fun _=>iv,fun _=>(Za p),fun _=>(Zb hb),fun _=>(Zb hb),fun _=>(Zab hb),fun _=>iv,fun _=>(Za q),fun _=>(Zb hb),fun _=>(Zb hb),fun _=>(Zab hb),fun _=>iv,fun _=>(Za q),fun _=>(adrO 2 iv q 0),fun _=>(Zag ((ndA its q).ix:Int) ((ndA its q).key)),fun _=>(Zb hb),fun _=>(Zb hb),fun _=>(Zab hb),fun _=>iv,fun _=>(Za p),fun _=>(adrO 2 iv p 0),fun _=>(Zag ((ndA its p).ix:Int) ((ndA its p).key)),fun _=>(adrO 2 iv p 0),fun _=>undef,fun _=>(adrO 2 iv q 0),fun _=>undef] [(fun _=>(Zat hb n iv pv its ps pl),fun _ _=>True),(fun _=>(Zat hb n iv pv (updA its p (fun _=>(ndA its q))) ps pl),fun _ _=>True),(fun _=>(Zat hb n iv pv (updA (updA its p (fun _=>(ndA its q))) q (fun _=>(ndA its p))) ps pl),fun _ _=>True)] () _ rfl hst0 (fun _ _=>trivial) ?_ f_ rfl ?_
 . skip
   refine obv (fun _ _=>mv_r (v:=(Zb hb)) rfl) ?_
   refine obv (fun _ _=>nilc_r rfl) ?_
   refine obv (fun _ _=>fa_r (o' := 2) rfl yaw rfl ti260 rfl) ?_
   refine ob_q1 rfl rfl rfl rfl (fun _ wq hM hF=>qv rfl rfl (ld_r rfl yn rfl (yo hM (i:=0) rfl rfl))) (obv (fun _ _=>mv_r (v:=(Za p)) rfl) ?_)
   refine obv (fun _ _=>mv_r (v:=(Zb hb)) rfl) ?_
   refine obv (fun _ _=>nilc_r rfl) ?_
   refine obv (fun _ _=>fa_r (o' := 2) rfl yaw rfl ti260 rfl) ?_
   refine ob_q1 rfl rfl rfl rfl (fun _ wq hM hF=>qv rfl rfl (ld_r rfl yn rfl (yo hM (i:=0) rfl rfl))) (obv (fun _ _=>mv_r (v:=(Za q)) rfl) ?_)
   refine obv (fun _ _=>mv_r (v:=(Zb hb)) rfl) ?_
   refine obv (fun _ _=>nilc_r rfl) ?_
   refine obv (fun _ _=>fa_r (o' := 2) rfl yaw rfl ti260 rfl) ?_
   refine ob_q1 rfl rfl rfl rfl (fun _ wq hM hF=>qv rfl rfl (ld_r rfl yn rfl (yo hM (i:=0) rfl rfl))) (obv (fun _ _=>mv_r (v:=(Za q)) rfl) ?_)
   refine obv (fun _ _=>ixR_r (cf:=Ent.cells) (k:=q) (i:=(q:Int)) rfl rfl yn ti111 (yf hst0 (i:=1) rfl f_) o_ o_ (nd_get om)) ?_
   refine ob_q1 rfl rfl rfl rfl (fun _ wq hM hF=>qv rfl rfl (ldRA_r (cf:=Ent.cells) (cs:=(Zi ((ndA its q).ix:Int) ((ndA its q).key))) rfl yr rfl ti111 (yf hM (i:=1) rfl f_) (nd_get om) rfl rfl)) (obv (fun _ _=>mv_r (v:=(Zb hb)) rfl) ?_)
   refine obv (fun _ _=>nilc_r rfl) ?_
   refine obv (fun _ _=>fa_r (o' := 2) rfl yaw rfl ti260 rfl) ?_
   refine ob_q1 rfl rfl rfl rfl (fun _ wq hM hF=>qv rfl rfl (ld_r rfl yn rfl (yo hM (i:=0) rfl rfl))) (obv (fun _ _=>mv_r (v:=(Za p)) rfl) ?_)
   refine obv (fun _ _=>ixR_r (cf:=Ent.cells) (k:=p) (i:=(p:Int)) rfl rfl yn ti111 (yf hst0 (i:=1) rfl f_) o_ o_ (nd_get om)) ?_
   refine ob_q1 rfl rfl rfl rfl (fun _ wq hM hF=>qv rfl rfl (ldRA_r (cf:=Ent.cells) (cs:=(Zi ((ndA its p).ix:Int) ((ndA its p).key))) rfl yr rfl ti111 (yf hM (i:=1) rfl f_) (nd_get om) rfl rfl)) (obv (fun _ _=>ixR_r (cf:=Ent.cells) (k:=p) (i:=(p:Int)) rfl rfl yn ti111 (yf hst0 (i:=1) rfl f_) o_ o_ (nd_get om)) ?_)
   refine ob_m rfl rfl rfl rfl (fun _ wq hM hF=>m_stoR (f:=(fun _=>(ndA its q))) (L' := (Zat hb n iv pv (updA its p (fun _=>(ndA its q))) ps pl)) 1 rfl rfl rfl rfl ti111 rfl rfl hM rfl f_ om rfl rfl rfl (fun _ h=>⟨(),⟨h,trivial⟩,rfl,Stab.refl _ _ _⟩)) (obv (fun _ _=>ixR_r (cf:=Ent.cells) (k:=q) (i:=(q:Int)) rfl rfl yn ti111 (yf hst0 (i:=1) rfl f_) o_ o_ (nd_get om)) ?_)
   refine ob_m rfl rfl rfl rfl (fun _ wq hM hF=>m_stoR (f:=(fun _=>(ndA its p))) (L' := (Zat hb n iv pv (updA (updA its p (fun _=>(ndA its q))) q (fun _=>(ndA its p))) ps pl)) 1 rfl rfl rfl rfl ti111 rfl rfl hM rfl f_ om rfl rfl rfl (fun _ h=>⟨(),⟨h,trivial⟩,rfl,Stab.refl _ _ _⟩)) ?_
   exact ob_n
 rintro-l c -
 have b:=c
 refine pQL tt none c 9 ?_
 refine ixR (cf:=Ent.cells) (k:=p) (i:=(p:Int)) rfl rfl rfl yn ti111 (yf b (i:=1) rfl f_) o_ o_ (nd_get om) (faR (cf:=Ent.cells) (off:=0) (off' := 0) rfl rfl yr rfl ti3 rfl (yf b (i:=1) rfl f_) (nd_get om) (ldR (cf:=Ent.cells) rfl rfl ye rfl (yf b (i:=1) rfl f_) (nd_get om) rfl ?_))
 have d:=yc [_,_,_,_] _ b
 refine pLL b 1 ?_
 refine cl ent162 (hput_ok hb n iv pv ps (swapS its p q) pl l (yd d (i:=0) rfl) hP ((ndA (swapS its p q) p).ix) (hsix _ (by assumption)) (p:Int) (p+1) o_ o_) ?_
 rintro _ m ⟨rfl,ps2₁,o,hP2₁,ht⟩
 have a:=(yp d ht)
 refine pLL a 9 ?_
 refine ixR (cf:=Ent.cells) (k:=q) (i:=(q:Int)) rfl rfl rfl yn ti111 (yf a (i:=1) rfl f_) o_ o_ (nd_get om) (faR (cf:=Ent.cells) (off:=0) (off' := 0) rfl rfl yr rfl ti3 rfl (yf a (i:=1) rfl f_) (nd_get om) (ldR (cf:=Ent.cells) rfl rfl ye rfl (yf a (i:=1) rfl f_) (nd_get om) rfl ?_))
 have e:=yc [_,_,_,_] _ a
 refine pLL a 1 ?_
 refine cl ent162 (hput_ok hb n iv pv ps2₁ (swapS its p q) (putS pl ((ndA (swapS its p q) p).ix) (p+1)) m (yd e (i:=0) rfl) hP2₁ ((ndA (swapS its p q) q).ix) (hsix _ (by assumption)) (q:Int) (q+1) o_ o_) ?_
 rintro _ s ⟨rfl,ps2₂,t,hP2₂,ht⟩
 have g:=(yp e ht)
 refine pLQ g 1 ?_
 refine end0 Tryz.results204 ?_
 exact⟨rfl,ps2₂,o_,hP2₂,yq (yc [_,_,_,_] _ g)⟩
theorem habove_ok(hb n:Nat)(iv pv:Value)(ps:List (Option Nat))(its:List Ent)(pl:List Nat)(w:World)(hO:Own (Zg hb n iv pv its ps pl) w)(hS:Hp n its pl)(hP:Plc n ps pl)(p:Nat)(hp:p<its.length) :
 CR ya 207 (Zn hb p) w (fun r w' => r = .int .i64 (aboveI its p)/\Turn (Zg hb n iv pv its ps pl) w w' (Zg hb n iv pv its ps pl)):=by
 have hnn:=hP.n
 have hln:=hS.len
 have hpa:pa p<its.length:=by simp only[pa];omega
 refine en Tryz.func207 Tryz.ntmps207 ?_
 have hst0:=(yz hO).unpack
 refine pPL hst0 9 ?_
 refine quo (a:=(p:Int)-1) (b:=2) (e:=((pa p:Nat):Int)) rfl rfl rfl d_ (paN o_) (pLP hst0 5 ?_)
 by_cases j:((p:Int):Int)>(0:Int)
 . skip
   by_cases c:(ordE (ndA its p) (ndA its (pa p)):Int)<(0:Int)
   . skip
     refine dr0 hst0 (fun l d=>?_) (hA:=by refine' dar 9 ?k0;case k0=>refine' dax (fun wq hM=>rv (ldRA_r (cf:=Ent.cells) (cs:=(Zi ((ndA its p).ix:Int) ((ndA its p).key))) rfl yr rfl ti111 (yf hM (i:=1) rfl f_) (nd_get om) rfl rfl)) ?k1;case k1=>refine' dar 5 ?k2;case k2=>refine' dax (fun wq hM=>rv (ixR_r (v:=iv) (cf:=Ent.cells) (k:=(pa p)) (i:=((pa p:Nat):Int)) rfl rfl yn ti111 (yf hst0 (i:=1) rfl f_) o_ o_ (nd_get om))) ?k3;case k3=>refine' dax (fun wq hM=>rv (ldRA_r (cf:=Ent.cells) (cs:=(Zi ((ndA its (pa p)).ix:Int) ((ndA its (pa p)).key))) rfl yr rfl ti111 (yf hM (i:=1) rfl f_) (nd_get om) rfl rfl)) ?k4;case k4=>refine' dax (fun wq hM=>rc (clF_r rfl ent235) (CR.mono (order_ok (ndA its p) (ndA its (pa p)) wq) fun _ _ h=>⟨h.1,hM.grow h.2⟩)) ?k5;case k5=>exact run2)
     refine pQQ tt none d 10 ?_
     refine ret1 (v:=(Za ((pa p:Nat):Int))) Tryz.results207 rfl ?_
     exact⟨eqI (by unfold aboveI;rw[if_pos (show 0<p/\ltE (ndA its p) (ndA its (pa p)) from⟨o_,ordE_neg.1 c⟩)]),yq (yc [_,_,_,_] _ d)⟩
   . skip
     refine dr0 hst0 (fun m f=>?_) (hA:=by refine' dar 9 ?k0;case k0=>refine' dax (fun wq hM=>rv (ldRA_r (cf:=Ent.cells) (cs:=(Zi ((ndA its p).ix:Int) ((ndA its p).key))) rfl yr rfl ti111 (yf hM (i:=1) rfl f_) (nd_get om) rfl rfl)) ?k1;case k1=>refine' dar 5 ?k2;case k2=>refine' dax (fun wq hM=>rv (ixR_r (v:=iv) (cf:=Ent.cells) (k:=(pa p)) (i:=((pa p:Nat):Int)) rfl rfl yn ti111 (yf hst0 (i:=1) rfl f_) o_ o_ (nd_get om))) ?k3;case k3=>refine' dax (fun wq hM=>rv (ldRA_r (cf:=Ent.cells) (cs:=(Zi ((ndA its (pa p)).ix:Int) ((ndA its (pa p)).key))) rfl yr rfl ti111 (yf hM (i:=1) rfl f_) (nd_get om) rfl rfl)) ?k4;case k4=>refine' dax (fun wq hM=>rc (clF_r rfl ent235) (CR.mono (order_ok (ndA its p) (ndA its (pa p)) wq) fun _ _ h=>⟨h.1,hM.grow h.2⟩)) ?k5;case k5=>exact run2)
     refine pQQ tt none f 10 ?_
     refine ret1 (v:=Zw) Tryz.results207 rfl ?_
     exact⟨eqI (by unfold aboveI;rw[if_neg (show ¬ (0<p/\ltE (ndA its p) (ndA its (pa p))) from fun h9=>c (ordE_neg.2 h9.2))]),yq (yc [_,_,_,_] _ f)⟩
 . skip
   refine dr0 hst0 (fun o g=>?_)
   refine pQQ tt none g 10 ?_
   refine ret1 (v:=Zw) Tryz.results207 rfl ?_
   exact⟨eqI (by unfold aboveI;rw[if_neg (show ¬ (0<p/\ltE (ndA its p) (ndA its (pa p))) from fun h9=>j o_)]),yq (yc [_,_,_,_] _ g)⟩
theorem hbelow_ok(hb n:Nat)(iv pv:Value)(ps:List (Option Nat))(its:List Ent)(pl:List Nat)(w:World)(hO:Own (Zg hb n iv pv its ps pl) w)(hS:Hp n its pl)(hP:Plc n ps pl)(p:Nat)(hp:p<its.length) :
 CR ya 208 (Zn hb p) w (fun r w' => r = .int .i64 (belowI its p)/\Turn (Zg hb n iv pv its ps pl) w w' (Zg hb n iv pv its ps pl)):=by
 have hnn:=hP.n
 have hln:=hS.len
 refine en Tryz.func208 Tryz.ntmps208 ?_
 have hst0:=(yz hO).unpack
 refine pPP hst0 18 ?_
 refine unr 3 (rds (pPL hst0 20 ?_))
 refine ar (e:=((2*p:Nat):Int)) rfl rfl rfl rfl (by rw[w64 o_];omega) (ar (e:=((2*p+1:Nat):Int)) rfl rfl rfl rfl (by rw[w64 o_];omega) (pLL hst0 1 ?_))
 refine ar (e:=((2*p+1:Nat):Int)) rfl rfl rfl rfl (by rw[w64 o_];omega) (pLP hst0 4 ?_)
 by_cases u:(((2*p+1:Nat):Int):Int)<((its.length:Int):Int)
 . skip
   by_cases d:(ordE (ndA its (2*p+1)) (ndA its p):Int)<(0:Int)
   . skip
     refine dr0 hst0 (fun D a=>?_) (hA:=by refine' dar 5 ?k0;case k0=>refine' dax (fun wq hM=>rv (lenI_r (v:=iv) rfl yn (yf (cf:=Ent.cells) hst0 (i:=1) rfl f_))) ?k1;case k1=>refine' dar 7 ?k2;case k2=>refine' dax (fun wq hM=>rv (ixR_r (v:=iv) (cf:=Ent.cells) (k:=(2*p+1)) (i:=((2*p+1:Nat):Int)) rfl rfl yn ti111 (yf hst0 (i:=1) rfl f_) o_ o_ (nd_get om))) ?k3;case k3=>refine' dax (fun wq hM=>rv (ldRA_r (cf:=Ent.cells) (cs:=(Zi ((ndA its (2*p+1)).ix:Int) ((ndA its (2*p+1)).key))) rfl yr rfl ti111 (yf hM (i:=1) rfl f_) (nd_get om) rfl rfl)) ?k4;case k4=>refine' dar 6 ?k5;case k5=>refine' dax (fun wq hM=>rv (ldRA_r (cf:=Ent.cells) (cs:=(Zi ((ndA its p).ix:Int) ((ndA its p).key))) rfl yr rfl ti111 (yf hM (i:=1) rfl f_) (nd_get om) rfl rfl)) ?k6;case k6=>refine' dax (fun wq hM=>rc (clF_r rfl ent235) (CR.mono (order_ok (ndA its (2*p+1)) (ndA its p) wq) fun _ _ h=>⟨h.1,hM.grow h.2⟩)) ?k7;case k7=>exact run2)
     refine pQQ tt none a 12 ?_
     refine tN (?_)
     refine rds (pPL a 20 ?_)
     refine ar (e:=((2*p:Nat):Int)) rfl rfl rfl rfl (by rw[w64 o_];omega) (ar (e:=((2*p+1:Nat):Int)) rfl rfl rfl rfl (by rw[w64 o_];omega) (pLL a 1 ?_))
     refine ar (e:=((2*p+2:Nat):Int)) rfl rfl rfl rfl (by rw[w64 o_];omega) (pLP a 4 ?_)
     by_cases A:(((2*p+2:Nat):Int):Int)<((its.length:Int):Int)
     . skip
       by_cases x:(ordE (ndA its (2*p+2)) (ndA its (2*p+1)):Int)<(0:Int)
       . skip
         refine dr0 a (fun E f=>?_) (hA:=by refine' dar 5 ?k0;case k0=>refine' dax (fun wq hM=>rv (lenI_r (v:=iv) rfl yn (yf (cf:=Ent.cells) a (i:=1) rfl f_))) ?k1;case k1=>refine' dar 7 ?k2;case k2=>refine' dax (fun wq hM=>rv (ixR_r (v:=iv) (cf:=Ent.cells) (k:=(2*p+2)) (i:=((2*p+2:Nat):Int)) rfl rfl yn ti111 (yf a (i:=1) rfl f_) o_ o_ (nd_get om))) ?k3;case k3=>refine' dax (fun wq hM=>rv (ldRA_r (cf:=Ent.cells) (cs:=(Zi ((ndA its (2*p+2)).ix:Int) ((ndA its (2*p+2)).key))) rfl yr rfl ti111 (yf hM (i:=1) rfl f_) (nd_get om) rfl rfl)) ?k4;case k4=>refine' dar 5 ?k5;case k5=>refine' dax (fun wq hM=>rv (ixR_r (v:=iv) (cf:=Ent.cells) (k:=(2*p+1)) (i:=((2*p+1:Nat):Int)) rfl rfl yn ti111 (yf a (i:=1) rfl f_) o_ o_ (nd_get om))) ?k6;case k6=>refine' dax (fun wq hM=>rv (ldRA_r (cf:=Ent.cells) (cs:=(Zi ((ndA its (2*p+1)).ix:Int) ((ndA its (2*p+1)).key))) rfl yr rfl ti111 (yf hM (i:=1) rfl f_) (nd_get om) rfl rfl)) ?k7;case k7=>refine' dax (fun wq hM=>rc (clF_r rfl ent235) (CR.mono (order_ok (ndA its (2*p+2)) (ndA its (2*p+1)) wq) fun _ _ h=>⟨h.1,hM.grow h.2⟩)) ?k8;case k8=>exact run2)
         refine pQQ tt none f 12 ?_
         refine tN (?_)
         refine rds (pPL f 17 ?_)
         by_cases G:(((2*p+2:Nat):Int):Int)=((p:Int):Int)
         . refine pLQ f 11 ?_
           refine ret1 (v:=Zw) yak rfl ?_
           exact(show False by omega).elim
         . refine pLQ f 13 ?_
           refine ret1 (v:=(Za ((2*p+2:Nat):Int))) yak rfl ?_
           exact⟨eqI (by unfold belowI belowS;simp only;rw[if_pos (show 2*p+1<its.length/\ltE (ndA its (2*p+1)) (ndA its p) from⟨o_,ordE_neg.1 d⟩),if_pos (show 2*p+2<its.length/\ltE (ndA its (2*p+2)) (ndA its (2*p+1)) from⟨o_,ordE_neg.1 x⟩),if_neg o_]),yq (yc [_,_,_,_] _ f)⟩
       . skip
         refine dr0 a (fun H g=>?_) (hA:=by refine' dar 5 ?k0;case k0=>refine' dax (fun wq hM=>rv (lenI_r (v:=iv) rfl yn (yf (cf:=Ent.cells) a (i:=1) rfl f_))) ?k1;case k1=>refine' dar 7 ?k2;case k2=>refine' dax (fun wq hM=>rv (ixR_r (v:=iv) (cf:=Ent.cells) (k:=(2*p+2)) (i:=((2*p+2:Nat):Int)) rfl rfl yn ti111 (yf a (i:=1) rfl f_) o_ o_ (nd_get om))) ?k3;case k3=>refine' dax (fun wq hM=>rv (ldRA_r (cf:=Ent.cells) (cs:=(Zi ((ndA its (2*p+2)).ix:Int) ((ndA its (2*p+2)).key))) rfl yr rfl ti111 (yf hM (i:=1) rfl f_) (nd_get om) rfl rfl)) ?k4;case k4=>refine' dar 5 ?k5;case k5=>refine' dax (fun wq hM=>rv (ixR_r (v:=iv) (cf:=Ent.cells) (k:=(2*p+1)) (i:=((2*p+1:Nat):Int)) rfl rfl yn ti111 (yf a (i:=1) rfl f_) o_ o_ (nd_get om))) ?k6;case k6=>refine' dax (fun wq hM=>rv (ldRA_r (cf:=Ent.cells) (cs:=(Zi ((ndA its (2*p+1)).ix:Int) ((ndA its (2*p+1)).key))) rfl yr rfl ti111 (yf hM (i:=1) rfl f_) (nd_get om) rfl rfl)) ?k7;case k7=>refine' dax (fun wq hM=>rc (clF_r rfl ent235) (CR.mono (order_ok (ndA its (2*p+2)) (ndA its (2*p+1)) wq) fun _ _ h=>⟨h.1,hM.grow h.2⟩)) ?k8;case k8=>exact run2)
         refine pQQ tt none g 9 ?_
         refine tN (?_)
         refine rds (pPL g 17 ?_)
         by_cases I:(((2*p+1:Nat):Int):Int)=((p:Int):Int)
         . refine pLQ g 11 ?_
           refine ret1 (v:=Zw) yak rfl ?_
           exact(show False by omega).elim
         . refine pLQ g 13 ?_
           refine ret1 (v:=(Za ((2*p+1:Nat):Int))) yak rfl ?_
           exact⟨eqI (by unfold belowI belowS;simp only;rw[if_pos (show 2*p+1<its.length/\ltE (ndA its (2*p+1)) (ndA its p) from⟨o_,ordE_neg.1 d⟩),if_neg (show ¬ (2*p+2<its.length/\ltE (ndA its (2*p+2)) (ndA its (2*p+1))) from fun h9=>x (ordE_neg.2 h9.2)),if_neg o_]),yq (yc [_,_,_,_] _ g)⟩
     . skip
       refine dr0 a (fun J j=>?_) (hA:=by refine' dar 5 ?k0;case k0=>refine' dax (fun wq hM=>rv (lenI_r (v:=iv) rfl yn (yf (cf:=Ent.cells) a (i:=1) rfl f_))) ?k1;case k1=>exact run2)
       refine pQQ tt none j 9 ?_
       refine tN (?_)
       refine rds (pPL j 17 ?_)
       by_cases K:(((2*p+1:Nat):Int):Int)=((p:Int):Int)
       . refine pLQ j 11 ?_
         refine ret1 (v:=Zw) yak rfl ?_
         exact(show False by omega).elim
       . refine pLQ j 13 ?_
         refine ret1 (v:=(Za ((2*p+1:Nat):Int))) yak rfl ?_
         exact⟨eqI (by unfold belowI belowS;simp only;rw[if_pos (show 2*p+1<its.length/\ltE (ndA its (2*p+1)) (ndA its p) from⟨o_,ordE_neg.1 d⟩),if_neg (show ¬ (2*p+2<its.length/\ltE (ndA its (2*p+2)) (ndA its (2*p+1))) from fun h9=>A o_),if_neg o_]),yq (yc [_,_,_,_] _ j)⟩
   . skip
     refine dr0 hst0 (fun L b=>?_) (hA:=by refine' dar 5 ?k0;case k0=>refine' dax (fun wq hM=>rv (lenI_r (v:=iv) rfl yn (yf (cf:=Ent.cells) hst0 (i:=1) rfl f_))) ?k1;case k1=>refine' dar 7 ?k2;case k2=>refine' dax (fun wq hM=>rv (ixR_r (v:=iv) (cf:=Ent.cells) (k:=(2*p+1)) (i:=((2*p+1:Nat):Int)) rfl rfl yn ti111 (yf hst0 (i:=1) rfl f_) o_ o_ (nd_get om))) ?k3;case k3=>refine' dax (fun wq hM=>rv (ldRA_r (cf:=Ent.cells) (cs:=(Zi ((ndA its (2*p+1)).ix:Int) ((ndA its (2*p+1)).key))) rfl yr rfl ti111 (yf hM (i:=1) rfl f_) (nd_get om) rfl rfl)) ?k4;case k4=>refine' dar 6 ?k5;case k5=>refine' dax (fun wq hM=>rv (ldRA_r (cf:=Ent.cells) (cs:=(Zi ((ndA its p).ix:Int) ((ndA its p).key))) rfl yr rfl ti111 (yf hM (i:=1) rfl f_) (nd_get om) rfl rfl)) ?k6;case k6=>refine' dax (fun wq hM=>rc (clF_r rfl ent235) (CR.mono (order_ok (ndA its (2*p+1)) (ndA its p) wq) fun _ _ h=>⟨h.1,hM.grow h.2⟩)) ?k7;case k7=>exact run2)
     refine pQQ tt none b 9 ?_
     refine tN (?_)
     refine rds (pPL b 20 ?_)
     refine ar (e:=((2*p:Nat):Int)) rfl rfl rfl rfl (by rw[w64 o_];omega) (ar (e:=((2*p+1:Nat):Int)) rfl rfl rfl rfl (by rw[w64 o_];omega) (pLL b 1 ?_))
     refine ar (e:=((2*p+2:Nat):Int)) rfl rfl rfl rfl (by rw[w64 o_];omega) (pLP b 4 ?_)
     by_cases B:(((2*p+2:Nat):Int):Int)<((its.length:Int):Int)
     . skip
       by_cases y:(ordE (ndA its (2*p+2)) (ndA its p):Int)<(0:Int)
       . skip
         refine dr0 b (fun M l=>?_) (hA:=by refine' dar 5 ?k0;case k0=>refine' dax (fun wq hM=>rv (lenI_r (v:=iv) rfl yn (yf (cf:=Ent.cells) b (i:=1) rfl f_))) ?k1;case k1=>refine' dar 7 ?k2;case k2=>refine' dax (fun wq hM=>rv (ixR_r (v:=iv) (cf:=Ent.cells) (k:=(2*p+2)) (i:=((2*p+2:Nat):Int)) rfl rfl yn ti111 (yf b (i:=1) rfl f_) o_ o_ (nd_get om))) ?k3;case k3=>refine' dax (fun wq hM=>rv (ldRA_r (cf:=Ent.cells) (cs:=(Zi ((ndA its (2*p+2)).ix:Int) ((ndA its (2*p+2)).key))) rfl yr rfl ti111 (yf hM (i:=1) rfl f_) (nd_get om) rfl rfl)) ?k4;case k4=>refine' dar 6 ?k5;case k5=>refine' dax (fun wq hM=>rv (ldRA_r (cf:=Ent.cells) (cs:=(Zi ((ndA its p).ix:Int) ((ndA its p).key))) rfl yr rfl ti111 (yf hM (i:=1) rfl f_) (nd_get om) rfl rfl)) ?k6;case k6=>refine' dax (fun wq hM=>rc (clF_r rfl ent235) (CR.mono (order_ok (ndA its (2*p+2)) (ndA its p) wq) fun _ _ h=>⟨h.1,hM.grow h.2⟩)) ?k7;case k7=>exact run2)
         refine pQQ tt none l 12 ?_
         refine tN (?_)
         refine rds (pPL l 17 ?_)
         by_cases N:(((2*p+2:Nat):Int):Int)=((p:Int):Int)
         . refine pLQ l 11 ?_
           refine ret1 (v:=Zw) yak rfl ?_
           exact(show False by omega).elim
         . refine pLQ l 13 ?_
           refine ret1 (v:=(Za ((2*p+2:Nat):Int))) yak rfl ?_
           exact⟨eqI (by unfold belowI belowS;simp only;rw[if_neg (show ¬ (2*p+1<its.length/\ltE (ndA its (2*p+1)) (ndA its p)) from fun h9=>d (ordE_neg.2 h9.2)),if_pos (show 2*p+2<its.length/\ltE (ndA its (2*p+2)) (ndA its p) from⟨o_,ordE_neg.1 y⟩),if_neg o_]),yq (yc [_,_,_,_] _ l)⟩
       . skip
         refine dr0 b (fun O o=>?_) (hA:=by refine' dar 5 ?k0;case k0=>refine' dax (fun wq hM=>rv (lenI_r (v:=iv) rfl yn (yf (cf:=Ent.cells) b (i:=1) rfl f_))) ?k1;case k1=>refine' dar 7 ?k2;case k2=>refine' dax (fun wq hM=>rv (ixR_r (v:=iv) (cf:=Ent.cells) (k:=(2*p+2)) (i:=((2*p+2:Nat):Int)) rfl rfl yn ti111 (yf b (i:=1) rfl f_) o_ o_ (nd_get om))) ?k3;case k3=>refine' dax (fun wq hM=>rv (ldRA_r (cf:=Ent.cells) (cs:=(Zi ((ndA its (2*p+2)).ix:Int) ((ndA its (2*p+2)).key))) rfl yr rfl ti111 (yf hM (i:=1) rfl f_) (nd_get om) rfl rfl)) ?k4;case k4=>refine' dar 6 ?k5;case k5=>refine' dax (fun wq hM=>rv (ldRA_r (cf:=Ent.cells) (cs:=(Zi ((ndA its p).ix:Int) ((ndA its p).key))) rfl yr rfl ti111 (yf hM (i:=1) rfl f_) (nd_get om) rfl rfl)) ?k6;case k6=>refine' dax (fun wq hM=>rc (clF_r rfl ent235) (CR.mono (order_ok (ndA its (2*p+2)) (ndA its p) wq) fun _ _ h=>⟨h.1,hM.grow h.2⟩)) ?k7;case k7=>exact run2)
         refine pQQ tt none o 9 ?_
         refine tN (?_)
         refine rds (pPL o 17 ?_)
         refine cmp rfl rfl rfl (c_eq rfl) (pLQ o 10 ?_)
         refine ret1 (v:=Zw) yak rfl ?_
         exact⟨eqI (by unfold belowI belowS;simp only;rw[if_neg (show ¬ (2*p+1<its.length/\ltE (ndA its (2*p+1)) (ndA its p)) from fun h9=>d (ordE_neg.2 h9.2)),if_neg (show ¬ (2*p+2<its.length/\ltE (ndA its (2*p+2)) (ndA its p)) from fun h9=>y (ordE_neg.2 h9.2)),if_pos rfl]),yq (yc [_,_,_,_] _ o)⟩
     . skip
       refine dr0 b (fun P q=>?_) (hA:=by refine' dar 5 ?k0;case k0=>refine' dax (fun wq hM=>rv (lenI_r (v:=iv) rfl yn (yf (cf:=Ent.cells) b (i:=1) rfl f_))) ?k1;case k1=>exact run2)
       refine pQQ tt none q 9 ?_
       refine tN (?_)
       refine rds (pPL q 17 ?_)
       refine cmp rfl rfl rfl (c_eq rfl) (pLQ q 10 ?_)
       refine ret1 (v:=Zw) yak rfl ?_
       exact⟨eqI (by unfold belowI belowS;simp only;rw[if_neg (show ¬ (2*p+1<its.length/\ltE (ndA its (2*p+1)) (ndA its p)) from fun h9=>d (ordE_neg.2 h9.2)),if_neg (show ¬ (2*p+2<its.length/\ltE (ndA its (2*p+2)) (ndA its p)) from fun h9=>B o_),if_pos rfl]),yq (yc [_,_,_,_] _ q)⟩
 . skip
   refine dr0 hst0 (fun Q c=>?_) (hA:=by refine' dar 5 ?k0;case k0=>refine' dax (fun wq hM=>rv (lenI_r (v:=iv) rfl yn (yf (cf:=Ent.cells) hst0 (i:=1) rfl f_))) ?k1;case k1=>exact run2)
   refine pQQ tt none c 9 ?_
   refine tN (?_)
   refine rds (pPL c 20 ?_)
   refine ar (e:=((2*p:Nat):Int)) rfl rfl rfl rfl (by rw[w64 o_];omega) (ar (e:=((2*p+1:Nat):Int)) rfl rfl rfl rfl (by rw[w64 o_];omega) (pLL c 1 ?_))
   refine ar (e:=((2*p+2:Nat):Int)) rfl rfl rfl rfl (by rw[w64 o_];omega) (pLP c 4 ?_)
   by_cases C:(((2*p+2:Nat):Int):Int)<((its.length:Int):Int)
   . skip
     by_cases z:(ordE (ndA its (2*p+2)) (ndA its p):Int)<(0:Int)
     . skip
       refine dr0 c (fun R m=>?_) (hA:=by refine' dar 5 ?k0;case k0=>refine' dax (fun wq hM=>rv (lenI_r (v:=iv) rfl yn (yf (cf:=Ent.cells) c (i:=1) rfl f_))) ?k1;case k1=>refine' dar 7 ?k2;case k2=>refine' dax (fun wq hM=>rv (ixR_r (v:=iv) (cf:=Ent.cells) (k:=(2*p+2)) (i:=((2*p+2:Nat):Int)) rfl rfl yn ti111 (yf c (i:=1) rfl f_) o_ o_ (nd_get om))) ?k3;case k3=>refine' dax (fun wq hM=>rv (ldRA_r (cf:=Ent.cells) (cs:=(Zi ((ndA its (2*p+2)).ix:Int) ((ndA its (2*p+2)).key))) rfl yr rfl ti111 (yf hM (i:=1) rfl f_) (nd_get om) rfl rfl)) ?k4;case k4=>refine' dar 6 ?k5;case k5=>refine' dax (fun wq hM=>rv (ldRA_r (cf:=Ent.cells) (cs:=(Zi ((ndA its p).ix:Int) ((ndA its p).key))) rfl yr rfl ti111 (yf hM (i:=1) rfl f_) (nd_get om) rfl rfl)) ?k6;case k6=>refine' dax (fun wq hM=>rc (clF_r rfl ent235) (CR.mono (order_ok (ndA its (2*p+2)) (ndA its p) wq) fun _ _ h=>⟨h.1,hM.grow h.2⟩)) ?k7;case k7=>exact run2)
       refine pQQ tt none m 12 ?_
       refine tN (?_)
       refine rds (pPL m 17 ?_)
       by_cases S:(((2*p+2:Nat):Int):Int)=((p:Int):Int)
       . refine pLQ m 11 ?_
         refine ret1 (v:=Zw) yak rfl ?_
         exact(show False by omega).elim
       . refine pLQ m 13 ?_
         refine ret1 (v:=(Za ((2*p+2:Nat):Int))) yak rfl ?_
         exact⟨eqI (by unfold belowI belowS;simp only;rw[if_neg (show ¬ (2*p+1<its.length/\ltE (ndA its (2*p+1)) (ndA its p)) from fun h9=>u o_),if_pos (show 2*p+2<its.length/\ltE (ndA its (2*p+2)) (ndA its p) from⟨o_,ordE_neg.1 z⟩),if_neg o_]),yq (yc [_,_,_,_] _ m)⟩
     . skip
       refine dr0 c (fun U s=>?_) (hA:=by refine' dar 5 ?k0;case k0=>refine' dax (fun wq hM=>rv (lenI_r (v:=iv) rfl yn (yf (cf:=Ent.cells) c (i:=1) rfl f_))) ?k1;case k1=>refine' dar 7 ?k2;case k2=>refine' dax (fun wq hM=>rv (ixR_r (v:=iv) (cf:=Ent.cells) (k:=(2*p+2)) (i:=((2*p+2:Nat):Int)) rfl rfl yn ti111 (yf c (i:=1) rfl f_) o_ o_ (nd_get om))) ?k3;case k3=>refine' dax (fun wq hM=>rv (ldRA_r (cf:=Ent.cells) (cs:=(Zi ((ndA its (2*p+2)).ix:Int) ((ndA its (2*p+2)).key))) rfl yr rfl ti111 (yf hM (i:=1) rfl f_) (nd_get om) rfl rfl)) ?k4;case k4=>refine' dar 6 ?k5;case k5=>refine' dax (fun wq hM=>rv (ldRA_r (cf:=Ent.cells) (cs:=(Zi ((ndA its p).ix:Int) ((ndA its p).key))) rfl yr rfl ti111 (yf hM (i:=1) rfl f_) (nd_get om) rfl rfl)) ?k6;case k6=>refine' dax (fun wq hM=>rc (clF_r rfl ent235) (CR.mono (order_ok (ndA its (2*p+2)) (ndA its p) wq) fun _ _ h=>⟨h.1,hM.grow h.2⟩)) ?k7;case k7=>exact run2)
       refine pQQ tt none s 9 ?_
       refine tN (?_)
       refine rds (pPL s 17 ?_)
       refine cmp rfl rfl rfl (c_eq rfl) (pLQ s 10 ?_)
       refine ret1 (v:=Zw) yak rfl ?_
       exact⟨eqI (by unfold belowI belowS;simp only;rw[if_neg (show ¬ (2*p+1<its.length/\ltE (ndA its (2*p+1)) (ndA its p)) from fun h9=>u o_),if_neg (show ¬ (2*p+2<its.length/\ltE (ndA its (2*p+2)) (ndA its p)) from fun h9=>z (ordE_neg.2 h9.2)),if_pos rfl]),yq (yc [_,_,_,_] _ s)⟩
   . skip
     refine dr0 c (fun V t=>?_) (hA:=by refine' dar 5 ?k0;case k0=>refine' dax (fun wq hM=>rv (lenI_r (v:=iv) rfl yn (yf (cf:=Ent.cells) c (i:=1) rfl f_))) ?k1;case k1=>exact run2)
     refine pQQ tt none t 9 ?_
     refine tN (?_)
     refine rds (pPL t 17 ?_)
     refine cmp rfl rfl rfl (c_eq rfl) (pLQ t 10 ?_)
     refine ret1 (v:=Zw) yak rfl ?_
     exact⟨eqI (by unfold belowI belowS;simp only;rw[if_neg (show ¬ (2*p+1<its.length/\ltE (ndA its (2*p+1)) (ndA its p)) from fun h9=>u o_),if_neg (show ¬ (2*p+2<its.length/\ltE (ndA its (2*p+2)) (ndA its p)) from fun h9=>C o_),if_pos rfl]),yq (yc [_,_,_,_] _ t)⟩
end
section
open Go Go.Sx
theorem siftU_ok(pb xb hb n:Nat)(iv pv:Value)(ps:List (Option Nat))(its:List Ent)(pl:List Nat)(p:Nat)(w:World)(hO:Own (Zav pb p xb hb n iv pv its ps pl) w)(hS:Hp n its pl)(hP:Plc n ps pl)(hp:p<its.length)(hA:AtP its p) :
 CR ya 206 #[(Zd3 hb),(Zb pb),(Zb xb)] w (fun r w' => r = .tuple #[]/\∃ (p2:Nat),∃ qs ys zl,Same n its ys ps qs zl/\p2<ys.length/\DnP ys p2/\Turn (Zav pb p xb hb n iv pv its ps pl) w w' (Zav pb p2 xb hb n iv pv ys qs zl)):=by
 refine en Tryz.func206 Tryz.ntmps206 ?_
 have hst0:=(yz hO).unpack
 have hsm0:=Same.refl hS hP
 have j:=yj [2,3,4,5,0,1] hst0
 have b:=yc [_,_,_,_] _ j
 refine pPL hst0 4 ?_
 refine clV (fi:=(Zj hb)) (ca:=[]) rfl rfl rfl ent207 (habove_ok hb n iv pv ps its pl w (yd b (i:=0) rfl) hsm0.hp hsm0.plc p (by first|omega|(rw[swapS_len];omega))) ?_
 rintro _ y ⟨rfl,ht⟩
 have c:=(yp b ht)
 have k:=yj [4,5,0,1,2,3] c
 refine pLP c 4 ?_
 refine lp (α:=List Ent×List (Option Nat)×List Nat×Nat×Int) (fun(ys,qs,zl,p2,q)=>[(0,(Zd3 hb)),(1,(Zb pb)),(2,(Zb xb)),(4,(Za q))]) (fun(ys,qs,zl,p2,q) w1=>St [(w,(Zav pb p xb hb n iv pv its ps pl).foot)] (Zdl pb p2 xb hb n iv pv ys qs zl) w1/\Same n its ys ps qs zl/\p2<ys.length/\AtP ys p2/\q=aboveI ys p2) (fun(ys,qs,zl,p2,q)=>p2) (its,ps,pl,p,(aboveI its p)) ⟨rfl,rfl,rfl,eqI (by first|rfl|omega),trivial⟩ (⟨k,hsm0,hp,hA,rfl⟩) ?_
 rintro⟨ys,qs,zl,p2,q⟩ z l ⟨hst3,hsm,hp2,hAt,hq⟩
 refine pPL hst3 4 ?_
 by_cases d:(q:Int)=(-1:Int)
 . have hstop:=hAt.stop (aboveI_stop (hq.symm.trans d))
   refine pLQ hst3 8 ?_
   refine end0 Tryz.results206 ?_
   exact⟨rfl,p2,qs,ys,zl,hsm,hp2,hstop,yq (yc [_,_,_,_,_,_] _ hst3)⟩
 . have hgo:=aboveI_go (fun h9=>@d (hq.trans h9))
   refine pLL hst3 1 ?_
   obtain rfl:q=((pa p2:Nat):Int):=hq.trans hgo.1
   have h0p:=hgo.2.1
   have hpq:pa p2<ys.length:=by simp only[pa];omega
   have m:=yj [2,3,4,5,0,1] hst3
   have e:=yc [_,_,_,_] _ m
   refine pLL hst3 12 ?_
   refine cl ent204 (hswap_ok hb n iv pv qs ys zl l (yd e (i:=0) rfl) hsm.hp hsm.plc p2 (pa p2) o_ o_) ?_
   rintro _ A ⟨rfl,f,o,s,ht⟩
   have t:=(yp e ht)
   have a:=hsm.swap (p:=p2) (q:=(pa p2)) o_ o_ o s
   refine sLL t 11 fun u v=>?_
   have g:=yc [_,_,_,_] _ v
   refine clV (fi:=(Zj hb)) (ca:=[]) rfl rfl rfl ent207 (habove_ok hb n iv pv f (swapS ys p2 (pa p2)) (putS (putS zl (ndA (swapS ys p2 (pa p2)) p2).ix (p2+1)) (ndA (swapS ys p2 (pa p2)) (pa p2)).ix ((pa p2)+1)) u (yd g (i:=0) rfl) a.hp a.plc (pa p2) (by first|omega|(rw[swapS_len];omega))) ?_
   rintro _ B ⟨rfl,ht⟩
   have h:=(yp g ht)
   refine pLQ h 2 ?_
   refine tN (?_)
   have x:=yj [4,5,0,1,2,3] h
   exact again (swapS ys p2 (pa p2),f,putS (putS zl (ndA (swapS ys p2 (pa p2)) p2).ix (p2+1)) (ndA (swapS ys p2 (pa p2)) (pa p2)).ix ((pa p2)+1),(pa p2),aboveI (swapS ys p2 (pa p2)) (pa p2)) ⟨rfl,rfl,rfl,eqI (by first|rfl|omega),trivial⟩ (⟨x,a,by rw[swapS_len];omega,hAt.up h0p hp2 hgo.2.2,rfl⟩) (by show pa p2<p2;simp only[pa];omega)
theorem siftD_ok(pb xb hb n:Nat)(iv pv:Value)(ps:List (Option Nat))(its:List Ent)(pl:List Nat)(p:Nat)(w:World)(hO:Own (Zav pb p xb hb n iv pv its ps pl) w)(hS:Hp n its pl)(hP:Plc n ps pl)(hp:p<its.length)(hA:DnP its p) :
 CR ya 206 #[(Zc3 hb),(Zb pb),(Zb xb)] w (fun r w' => r = .tuple #[]/\∃ (p2:Nat),∃ qs ys zl,Same n its ys ps qs zl/\p2<ys.length/\Ord ys/\Turn (Zav pb p xb hb n iv pv its ps pl) w w' (Zav pb p2 xb hb n iv pv ys qs zl)):=by
 refine en Tryz.func206 Tryz.ntmps206 ?_
 have hst0:=(yz hO).unpack
 have hsm0:=Same.refl hS hP
 have j:=yj [2,3,4,5,0,1] hst0
 have b:=yc [_,_,_,_] _ j
 refine pPL hst0 4 ?_
 refine clV (fi:=(Zj hb)) (ca:=[]) rfl rfl rfl ent208 (hbelow_ok hb n iv pv ps its pl w (yd b (i:=0) rfl) hsm0.hp hsm0.plc p (by first|omega|(rw[swapS_len];omega))) ?_
 rintro _ y ⟨rfl,ht⟩
 have c:=(yp b ht)
 have k:=yj [4,5,0,1,2,3] c
 refine pLP c 4 ?_
 refine lp (α:=List Ent×List (Option Nat)×List Nat×Nat×Int) (fun(ys,qs,zl,p2,q)=>[(0,(Zc3 hb)),(1,(Zb pb)),(2,(Zb xb)),(4,(Za q))]) (fun(ys,qs,zl,p2,q) w1=>St [(w,(Zav pb p xb hb n iv pv its ps pl).foot)] (Zdl pb p2 xb hb n iv pv ys qs zl) w1/\Same n its ys ps qs zl/\p2<ys.length/\DnP ys p2/\q=belowI ys p2) (fun(ys,qs,zl,p2,q)=>ys.length-p2) (its,ps,pl,p,(belowI its p)) ⟨rfl,rfl,rfl,eqI (by first|rfl|omega),trivial⟩ (⟨k,hsm0,hp,hA,rfl⟩) ?_
 rintro⟨ys,qs,zl,p2,q⟩ z l ⟨hst3,hsm,hp2,hAt,hq⟩
 refine pPL hst3 4 ?_
 by_cases d:(q:Int)=(-1:Int)
 . have hstop:=hAt.stop (belowI_stop (hq.symm.trans d))
   refine pLQ hst3 8 ?_
   refine end0 Tryz.results206 ?_
   exact⟨rfl,p2,qs,ys,zl,hsm,hp2,hstop,yq (yc [_,_,_,_,_,_] _ hst3)⟩
 . have hgo:=belowI_go (fun h9=>@d (hq.trans h9))
   refine pLL hst3 1 ?_
   obtain rfl:q=((belowS ys p2:Nat):Int):=hq.trans hgo.1
   have hbg:=below_go hgo.2
   have hpq:=hbg.1
   have m:=yj [2,3,4,5,0,1] hst3
   have e:=yc [_,_,_,_] _ m
   refine pLL hst3 12 ?_
   refine cl ent204 (hswap_ok hb n iv pv qs ys zl l (yd e (i:=0) rfl) hsm.hp hsm.plc p2 (belowS ys p2) o_ o_) ?_
   rintro _ A ⟨rfl,f,o,s,ht⟩
   have t:=(yp e ht)
   have a:=hsm.swap (p:=p2) (q:=(belowS ys p2)) o_ o_ o s
   refine sLL t 11 fun u v=>?_
   have g:=yc [_,_,_,_] _ v
   refine clV (fi:=(Zj hb)) (ca:=[]) rfl rfl rfl ent208 (hbelow_ok hb n iv pv f (swapS ys p2 (belowS ys p2)) (putS (putS zl (ndA (swapS ys p2 (belowS ys p2)) p2).ix (p2+1)) (ndA (swapS ys p2 (belowS ys p2)) (belowS ys p2)).ix ((belowS ys p2)+1)) u (yd g (i:=0) rfl) a.hp a.plc (belowS ys p2) (by first|omega|(rw[swapS_len];omega))) ?_
   rintro _ B ⟨rfl,ht⟩
   have h:=(yp g ht)
   refine pLQ h 2 ?_
   refine tN (?_)
   have x:=yj [4,5,0,1,2,3] h
   exact again (swapS ys p2 (belowS ys p2),f,putS (putS zl (ndA (swapS ys p2 (belowS ys p2)) p2).ix (p2+1)) (ndA (swapS ys p2 (belowS ys p2)) (belowS ys p2)).ix ((belowS ys p2)+1),(belowS ys p2),belowI (swapS ys p2 (belowS ys p2)) (belowS ys p2)) ⟨rfl,rfl,rfl,eqI (by first|rfl|omega),trivial⟩ (⟨x,a,by rw[swapS_len];omega,hAt.down rfl hgo.2,rfl⟩) (by show (swapS ys p2 (belowS ys p2)).length-belowS ys p2<ys.length-p2;rw[swapS_len];omega)
theorem settle_ok(hb n:Nat)(iv pv:Value)(ps:List (Option Nat))(its:List Ent)(pl:List Nat)(w:World)(hO:Own (Zg hb n iv pv its ps pl) w)(hS:Hp n its pl)(hP:Plc n ps pl)(p:Nat)(hp:p<its.length)(hA:AtP its p) :
 CR ya 159 (Zn hb p) w (fun r w' => r = .tuple #[]/\∃ qs ys zl,Same n its ys ps qs zl/\Ord ys/\Turn (Zg hb n iv pv its ps pl) w w' (Zg hb n iv pv ys qs zl)):=by
 refine en Tryz.func159 Tryz.ntmps159 ?_
 have hst0:=(yz hO).unpack
 have hsm0:=Same.refl hS hP
 refine pPL hst0 2 ?_
 refine bx (v:=(Zb hb)) (cs:=(Zj hb)) rfl rfl rfl hst0 (fun a E G H j=>bx (v:=(Za p)) (cs:=(Zd p)) rfl rfl rfl j (fun b k I J c=>pLL c 4 ?_))
 refine mkf (vf:=[]) (vc:=(Za3 b a)) rfl rfl rfl (pLL c 7 ?_)
 refine mkf (vf:=(Zj hb)) (vc:=[]) rfl rfl rfl ?_
 have e:=yc [_,_,_,_,_,_] _ c
 refine clV (fi:=[]) (ca:=(Za3 b a)) rfl rfl rfl ent206 (siftU_ok b a hb n iv pv ps its pl p k (yd e (i:=0) rfl) hsm0.hp hsm0.plc (by first|assumption|omega) hA) ?_
 rintro _ l ⟨rfl,m,o,q,s,t,K,u,ht⟩
 have f:=(yp e ht)
 have d:=hsm0.trans t
 refine pLL f 5 ?_
 refine mkf (vf:=(Zj hb)) (vc:=[]) rfl rfl rfl ?_
 have g:=yc [_,_,_,_,_,_] _ f
 refine clV (fi:=[]) (ca:=(Za3 b a)) rfl rfl rfl ent206 (siftD_ok b a hb n iv pv o q s m l (yd g (i:=0) rfl) d.hp d.plc (by first|assumption|omega) u) ?_
 rintro _ L ⟨rfl,M,x,y,z,A,N,B,ht⟩
 have h:=(yp g ht)
 have C:=d.trans A
 refine pLQ h 1 ?_
 refine end0 Tryz.results159 ?_
 have D:=yj [2,3,4,5,0,1] h
 exact⟨rfl,x,y,z,C,B,yq (yc [_,_,_,_] _ D)⟩
end
section
open Go Go.Sx
theorem hfind0_ok(hb n:Nat)(iv pv:Value)(ps:List (Option Nat))(its:List Ent)(pl:List Nat)(w:World)(hO:Own (Zg hb n iv pv its ps pl) w)(hS:Hp n its pl)(hP:Plc n ps pl)(i:Nat)(hi:i<n)(h0:ndA pl i=0) :
 CR ya 158 (Zn hb i) w (fun r w' => r = .tuple #[.int .i64 0,.int .i64 5]/\Turn (Zg hb n iv pv its ps pl) w w' (Zg hb n iv pv its ps pl)):=by
 have hnn:=hP.n
 have hln:=hS.len
 have hvi:=hP.val i
 refine en Tryz.func158 Tryz.ntmps158 ?_
 have hst0:=(yz hO).unpack
 have a:=yc [_,_,_,_] _ hst0
 refine pPL hst0 11 ?_
 refine cl ent148 (hvalid_ok hb n iv pv ps its pl w (yd a (i:=0) rfl)) ?_
 rintro _ g ⟨rfl,ht⟩
 have b:=(yp a ht)
 have c:=yc [_,_,_,_] _ b
 refine pLL b 9 ?_
 refine cl ent160 (hhas_ok hb n iv pv ps its pl g (yd c (i:=0) rfl) i o_) ?_
 rintro _ h ⟨rfl,ht⟩
 have d:=(yp c ht)
 have e:=yc [_,_,_,_] _ d
 refine pLL d 9 ?_
 refine cl ent161 (hplace_ok hb n iv pv ps its pl h (yd e (i:=0) rfl) hP i o_) ?_
 rintro _ j ⟨rfl,ht⟩
 have f:=(yp e ht)
 refine cmp rfl rfl rfl (c_eq o_) (pLQ f 13 ?_)
 refine ret2 (v:=Zc) (v' := Zaw) Tryz.results158 rfl rfl ?_
 exact⟨rfl,yq (yc [_,_,_,_] _ f)⟩
theorem hkey0_ok(hb n:Nat)(iv pv:Value)(ps:List (Option Nat))(its:List Ent)(pl:List Nat)(w:World)(hO:Own (Zg hb n iv pv its ps pl) w)(hS:Hp n its pl)(hP:Plc n ps pl)(i:Nat)(hi:i<n)(h0:ndA pl i=0) :
 CR ya 157 (Zn hb i) w (fun r w' => r = .tuple Zch/\Turn (Zg hb n iv pv its ps pl) w w' (Zg hb n iv pv its ps pl)):=by
 have hnn:=hP.n
 have hln:=hS.len
 have hvi:=hP.val i
 refine en Tryz.func157 Tryz.ntmps157 ?_
 have hst0:=(yz hO).unpack
 have a:=yc [_,_,_,_] _ hst0
 refine pPL hst0 10 ?_
 refine cl ent158 (hfind0_ok hb n iv pv ps its pl w (yd a (i:=0) rfl) hS hP i hi h0) ?_
 rintro _ c ⟨rfl,ht⟩
 have b:=(yp a ht)
 refine pLQ b 23 ?_
 refine ret2 (v:=Zc) (v' := Zp) Tryz.results157 rfl rfl ?_
 exact⟨rfl,yq (yc [_,_,_,_] _ b)⟩
theorem hpush_ok(hb n:Nat)(iv pv:Value)(ps:List (Option Nat))(its:List Ent)(pl:List Nat)(w:World)(hO:Own (Zg hb n iv pv its ps pl) w)(hS:Hp n its pl)(hP:Plc n ps pl)(hOr:Ord its)(i:Nat)(hi:i<n)(h0:ndA pl i=0)(key:Int)(hk:InK .i64 key) :
 CR ya 110 (Z1 hb i key) w (fun r w' => r = .int .i64 0/\∃ jv qs ys zl,Hp n ys zl/\Plc n qs zl/\Ord ys/\(∀ e,e∈ys↔e∈its\/e=⟨i,key⟩)/\qs.length=ps.length/\ys.length=its.length+1/\Turn (Zg hb n iv pv its ps pl) w w' (Zg hb n jv pv ys qs zl)):=by
 have hnn:=hP.n
 have hln:=hS.len
 have hvi:=hP.val i
 have hS9:=hS.push hi h0 hk
 have hlen1:its.length+1<=n:=by have h7:=hS9.len;simpa using h7
 refine en Tryz.func110 Tryz.ntmps110 ?_
 have hst0:=(yz hO).unpack
 have f:=yc [_,_,_,_] _ hst0
 refine pPL hst0 10 ?_
 refine cl ent148 (hvalid_ok hb n iv pv ps its pl w (yd f (i:=0) rfl)) ?_
 rintro _ u ⟨rfl,ht⟩
 have g:=(yp f ht)
 have h:=yc [_,_,_,_] _ g
 refine pLL g 9 ?_
 refine cl ent160 (hhas_ok hb n iv pv ps its pl u (yd h (i:=0) rfl) i o_) ?_
 rintro _ y ⟨rfl,ht⟩
 have j:=(yp h ht)
 have k:=yc [_,_,_,_] _ j
 refine pLL j 9 ?_
 refine cl ent161 (hplace_ok hb n iv pv ps its pl y (yd k (i:=0) rfl) hP i o_) ?_
 rintro _ J ⟨rfl,ht⟩
 have c:=(yp k ht)
 refine cmp rfl rfl rfl (c_nne o_) (pLL c 13 ?_)
 refine lenR (m:=its.length) 1 rfl rfl yn c rfl (pLL c 12 ?_)
 refine bld (pvs:=[(0,(Za i)),(1,(Za key))]) (v:=.agg (Zah i key)) rfl rfl (buildS [(0,(Zd i)),(1,(Zd key))] ti111 pl111 rfl ⟨rfl,rfl,rfl,rfl,trivial⟩ rfl) (bsv (vs:=[(Zag i key)]) (cs:=(Zi i key)) rfl rfl yn ti111 rfl (by simp[Value.cells]) rfl rfl rfl c (fun z K L M l=>apdR (cf:=Ent.cells) (ys:=its) (zs:=[(⟨i,key⟩:Ent)]) (LL:=fun a=>[row (Zv z) 111 2 1 ((Zi i key)),blk hb 262 (Zac hb n iv pv),rowR Ent.cells a 111 2 (its++[(⟨i,key⟩:Ent)]),rowR pcf pv 277 1 ps,chk ncf 279 64 ps pl]) 2 rfl rfl rfl yn ti111 rfl d_ l rfl (yaq l (i:=0) rfl) (fun x hx=>zz.1 (show List.all _ _=true from rfl) x hx) (by simp only[zk,zq];omega) (by simp only[zk,zq];omega) f_ ?_))
 intro a N A O
 have d:=yj [1,2,3,4] A
 refine pLL d 2 ?_
 refine sto (L' := (Zat hb n a pv (its++[(⟨i,key⟩:Ent)]) ps pl)) 0 rfl rfl rfl (cells_one (ya0 d (i:=1) rfl)) ti260 rfl (all1 (ya0 d (i:=1) rfl) all0) d rfl rfl rfl rfl ?_
 intro B o
 have p:=yc [_,_,_,_] _ o
 refine pLL o 7 ?_
 refine cl ent162 (hput_ok hb n a pv ps (its++[(⟨i,key⟩:Ent)]) pl B (yd p (i:=0) rfl) hP i hi (its.length:Int) (its.length+1) o_ o_) ?_
 rintro _ C ⟨rfl,ps2₁,D,hP2₁,ht⟩
 have q:=(yp p ht)
 have hP9:=hP2₁
 have s:=yc [_,_,_,_] _ q
 refine pLL q 6 ?_
 refine cl ent159 (settle_ok hb n a pv ps2₁ (its++[(⟨i,key⟩:Ent)]) (putS pl i (its.length+1)) C (yd s (i:=0) rfl) hS9 hP9 its.length (by first|omega|(simp only[updA_len,zo,zk,zq];omega)) (push_atP hOr _)) ?_
 rintro _ P ⟨rfl,E,G,H,b,I,ht⟩
 have t:=(yp s ht)
 refine pLQ t 8 ?_
 refine ret1 (v:=Zc) Tryz.results110 rfl ?_
 exact⟨rfl,a,E,G,H,b.hp,b.plc,I,fun e=>(b.mem e).trans s_,by rw[b.psl,D],by rw[b.len];simp,yq (yc [_,_,_,_] _ t)⟩
theorem hpushed_ok(hb n:Nat)(iv pv:Value)(ps:List (Option Nat))(its:List Ent)(pl:List Nat)(w:World)(hO:Own (Zg hb n iv pv its ps pl) w)(hS:Hp n its pl)(hP:Plc n ps pl)(i:Nat)(hi:i<n)(p:Nat)(hp:ndA pl i=p+1)(key:Int) :
 CR ya 110 (Z1 hb i key) w (fun r w' => r = .int .i64 6/\Turn (Zg hb n iv pv its ps pl) w w' (Zg hb n iv pv its ps pl)):=by
 have hnn:=hP.n
 have hln:=hS.len
 have hvi:=hP.val i
 refine en Tryz.func110 Tryz.ntmps110 ?_
 have hst0:=(yz hO).unpack
 have a:=yc [_,_,_,_] _ hst0
 refine pPL hst0 10 ?_
 refine cl ent148 (hvalid_ok hb n iv pv ps its pl w (yd a (i:=0) rfl)) ?_
 rintro _ g ⟨rfl,ht⟩
 have b:=(yp a ht)
 have c:=yc [_,_,_,_] _ b
 refine pLL b 9 ?_
 refine cl ent160 (hhas_ok hb n iv pv ps its pl g (yd c (i:=0) rfl) i o_) ?_
 rintro _ h ⟨rfl,ht⟩
 have d:=(yp c ht)
 have e:=yc [_,_,_,_] _ d
 refine pLL d 9 ?_
 refine cl ent161 (hplace_ok hb n iv pv ps its pl h (yd e (i:=0) rfl) hP i o_) ?_
 rintro _ j ⟨rfl,ht⟩
 have f:=(yp e ht)
 refine cmp rfl rfl rfl (c_ne o_) (pLQ f 12 ?_)
 refine ret1 (v:=(.int .i64 6)) Tryz.results110 rfl ?_
 exact⟨rfl,yq (yc [_,_,_,_] _ f)⟩
theorem hdrop_ok(hb n:Nat)(iv pv:Value)(ps:List (Option Nat))(its:List Ent)(pl:List Nat)(w:World)(hO:Own (Zg hb n iv pv its ps pl) w)(hS:Hp n its pl)(hP:Plc n ps pl)(hOr:Ord its)(p:Nat)(hp:p<its.length) :
 CR ya 154 (Zn hb p) w (fun r w' => r = .tuple #[]/\∃ jv qs ys zl,Hp n ys zl/\Plc n qs zl/\Ord ys/\(∀ e,e∈ys↔e∈its/\e.ix≠(ndA its p).ix)/\qs.length=ps.length/\ys.length+1=its.length/\Turn (Zg hb n iv pv its ps pl) w w' (Zg hb n jv pv ys qs zl)):=by
 have hnn:=hP.n
 have hln:=hS.len
 obtain⟨k,hk⟩:∃ k,its.length=k+1:=⟨its.length-1,o_⟩
 have hsw:=hS.swap hp (show k<its.length by omega)
 have hsl:=swapS_len its p k
 have hct:=hsw.cut (m:=k) o_
 have hmm:=fun e=>(cut_mem hsw (m:=k) o_ e)
 have hsk:ndA (swapS its p k) k=ndA its p:=by rw[swapS_at hp o_,if_pos rfl]
 have htl:((swapS its p k).take k).length=k:=by rw[zaj];omega
 refine en Tryz.func154 Tryz.ntmps154 ?_
 have hst0:=(yz hO).unpack
 refine pPL hst0 6 ?_
 refine lenR (m:=its.length) 1 rfl rfl yn hst0 rfl (ar (e:=(k:Int)) rfl rfl rfl rfl (by rw[w64 o_];omega) ?_)
 have g:=yc [_,_,_,_] _ hst0
 refine pLL hst0 8 ?_
 refine cl ent204 (hswap_ok hb n iv pv ps its pl w (yd g (i:=0) rfl) hS hP p k hp o_) ?_
 rintro _ u ⟨rfl,v,j,x,ht⟩
 have a:=(yp g ht)
 refine pLL a 10 ?_
 refine ixR (cf:=Ent.cells) (k:=k) (i:=(k:Int)) rfl rfl rfl yn ti111 (yf a (i:=1) rfl f_) o_ o_ (nd_get om) (faR (cf:=Ent.cells) (off:=0) (off' := 0) rfl rfl yr rfl ti3 rfl (yf a (i:=1) rfl f_) (nd_get om) (ldR (cf:=Ent.cells) rfl rfl ye rfl (yf a (i:=1) rfl f_) (nd_get om) rfl ?_))
 have o:=yc [_,_,_,_] _ a
 refine cl ent162 (hput_ok hb n iv pv v (swapS its p k) (putS (putS pl (ndA (swapS its p k) p).ix (p+1)) (ndA (swapS its p k) k).ix (k+1)) u (yd o (i:=0) rfl) x ((ndA (swapS its p k) k).ix) (hsw.ix k o_) (-1) 0 o_ o_) ?_
 rintro _ y ⟨rfl,ps2₁,q,hP2₁,ht⟩
 have f:=(yp o ht)
 have hP9:=hP2₁
 refine pLL f 10 ?_
 refine slV (l:=0) (h:=k) rfl rfl yn ti111 (yf (cf:=Ent.cells) f (i:=1) rfl f_) rfl ⟨_,eqI o_⟩ o_ o_ ?_
 have d:St _ [blk hb 262 (Zac hb n iv pv),rowR Ent.cells (cutV 2 iv 0 k) 111 2 ((swapS its p k).take k),rowR pcf pv 277 1 ps2₁,chk ncf 279 64 ps2₁ (putS (putS (putS pl (ndA (swapS its p k) p).ix (p+1)) (ndA (swapS its p k) k).ix (k+1)) ((ndA (swapS its p k) k).ix) 0)] y:=St.rowTake f (i:=1) rfl f_ o_
 refine pLL d 2 ?_
 refine sto (L' := (Zat hb n (cutV 2 iv 0 k) pv ((swapS its p k).take k) ps2₁ (putS (putS (putS pl (ndA (swapS its p k) p).ix (p+1)) (ndA (swapS its p k) k).ix (k+1)) ((ndA (swapS its p k) k).ix) 0))) 0 rfl rfl rfl (cells_one (ya0 d (i:=1) rfl)) ti260 rfl (all1 (ya0 d (i:=1) rfl) all0) d rfl rfl rfl rfl (fun z b=>pLL b 6 ?_)
 by_cases E:((p:Int):Int)<((k:Int):Int)
 . have s:=yc [_,_,_,_] _ b
   refine pLL b 7 ?_
   refine cl ent159 (settle_ok hb n (cutV 2 iv 0 k) pv ps2₁ ((swapS its p k).take k) (putS (putS (putS pl (ndA (swapS its p k) p).ix (p+1)) (ndA (swapS its p k) k).ix (k+1)) ((ndA (swapS its p k) k).ix) 0) z (yd s (i:=0) rfl) hct hP9 p (by first|omega|(simp only[updA_len,zo,zk,zq];omega)) (hOr.cut hk o_)) ?_
   rintro _ G ⟨rfl,A,B,C,c,D,ht⟩
   have t:=(yp s ht)
   refine pLQ t 1 ?_
   refine end0 Tryz.results154 ?_
   exact⟨rfl,(cutV 2 iv 0 k),A,B,C,c.hp,c.plc,D,fun e=>(c.mem e).trans (by rw[hmm e,swapS_mem hp o_,hsk]),by rw[c.psl,q,j],by rw[c.len,htl];omega,yq (yc [_,_,_,_] _ t)⟩
 . refine pLQ b 5 ?_
   refine end0 Tryz.results154 ?_
   have hpk:p=k:=by omega
   exact⟨rfl,(cutV 2 iv 0 k),ps2₁,((swapS its p k).take k),putS (putS (putS pl (ndA (swapS its p k) p).ix (p+1)) (ndA (swapS its p k) k).ix (k+1)) ((ndA (swapS its p k) k).ix) 0,hct,hP9,by subst hpk;rw[swap_self hp];exact hOr.cutLast o_,fun e=>by rw[hmm e,swapS_mem hp o_,hsk],by rw[q,j],by rw[htl];omega,yq (yc [_,_,_,_] _ b)⟩
theorem hmin0_ok(hb n:Nat)(iv pv:Value)(ps:List (Option Nat))(its:List Ent)(pl:List Nat)(w:World)(hO:Own (Zg hb n iv pv its ps pl) w)(hS:Hp n its pl)(hP:Plc n ps pl)(h0:its.length=0) :
 CR ya 90 (Zk hb) w (fun r w' => r = .tuple Zbq/\Turn (Zg hb n iv pv its ps pl) w w' (Zg hb n iv pv its ps pl)):=by
 refine en Tryz.func90 Tryz.ntmps90 ?_
 have hst0:=(yz hO).unpack
 refine pPL hst0 2 ?_
 refine al (cs:=Z3) rfl ti111 rfl hst0 ?_
 intro g e h j b
 have f:=yj [1,2,3,4,0] b
 have c:=yc [_,_,_,_] _ f
 refine pLL b 7 ?_
 refine cl ent148 (hvalid_ok hb n iv pv ps its pl e (yd c (i:=0) rfl)) ?_
 rintro _ k ⟨rfl,ht⟩
 have a:=(yp c ht)
 refine pLL a 6 ?_
 refine lenR (m:=its.length) 1 rfl rfl yn a rfl (cmp rfl rfl rfl (c_eq o_) (pLL a 6 ?_))
 refine bld (pvs:=[]) (v:=.agg #[Zc,Zc]) rfl rfl (buildS [] ti111 pl111 rfl trivial rfl) (sLQ a 6 fun l d=>?_)
 refine retL2 (v:=Zcf) (v' := Zp) Tryz.results90 (rvA (cs:=Z3) rfl yr rfl ti111 rfl (yab d (i:=4) (o:=0) (vs:=Z3) rfl rfl)) (rvT rfl) ?_
 exact⟨rfl,yq (yc [_,_,_,_] _ d)⟩
theorem hmin1_ok(hb n:Nat)(iv pv:Value)(ps:List (Option Nat))(its:List Ent)(pl:List Nat)(w:World)(hO:Own (Zg hb n iv pv its ps pl) w)(hS:Hp n its pl)(hP:Plc n ps pl)(h0:0<its.length) :
 CR ya 90 (Zk hb) w (fun r w' => r = .tuple (Zbh ((ndA its 0).ix:Int) ((ndA its 0).key))/\Turn (Zg hb n iv pv its ps pl) w w' (Zg hb n iv pv its ps pl)):=by
 refine en Tryz.func90 Tryz.ntmps90 ?_
 have hst0:=(yz hO).unpack
 refine pPL hst0 2 ?_
 refine al (cs:=Z3) rfl ti111 rfl hst0 ?_
 intro g e h j b
 have f:=yj [1,2,3,4,0] b
 have c:=yc [_,_,_,_] _ f
 refine pLL b 7 ?_
 refine cl ent148 (hvalid_ok hb n iv pv ps its pl e (yd c (i:=0) rfl)) ?_
 rintro _ l ⟨rfl,ht⟩
 have a:=(yp c ht)
 refine pLL a 6 ?_
 refine lenR (m:=its.length) 1 rfl rfl yn a rfl (cmp rfl rfl rfl (c_neq o_) (pLL a 12 ?_))
 refine ixR (cf:=Ent.cells) (k:=0) (i:=0) rfl rfl rfl yn ti111 (yf a (i:=1) rfl f_) o_ o_ (nd_get om) (ldRA (cf:=Ent.cells) (cs:=(Zi ((ndA its 0).ix:Int) ((ndA its 0).key))) rfl rfl yr rfl ti111 (yf a (i:=1) rfl f_) (nd_get om) rfl rfl (sLQ a 5 fun p d=>?_))
 refine retL2 (v:=(Zag ((ndA its 0).ix:Int) ((ndA its 0).key))) (v' := Zf) Tryz.results90 (rvA (cs:=(Zi ((ndA its 0).ix:Int) ((ndA its 0).key))) rfl yr rfl ti111 rfl (yab d (i:=4) (o:=0) (vs:=(Zi ((ndA its 0).ix:Int) ((ndA its 0).key))) rfl rfl)) (rvT rfl) ?_
 exact⟨rfl,yq (yc [_,_,_,_] _ d)⟩
theorem hpop1_ok(hb n:Nat)(iv pv:Value)(ps:List (Option Nat))(its:List Ent)(pl:List Nat)(w:World)(hO:Own (Zg hb n iv pv its ps pl) w)(hS:Hp n its pl)(hP:Plc n ps pl)(hOr:Ord its)(h0:0<its.length) :
 CR ya 103 (Zk hb) w (fun r w' => r = .tuple (Zbh ((ndA its 0).ix:Int) ((ndA its 0).key))/\∃ jv qs ys zl,Hp n ys zl/\Plc n qs zl/\Ord ys/\(∀ e,e∈ys↔e∈its/\e.ix≠(ndA its 0).ix)/\qs.length=ps.length/\ys.length+1=its.length/\Turn (Zg hb n iv pv its ps pl) w w' (Zg hb n jv pv ys qs zl)):=by
 refine en Tryz.func103 Tryz.ntmps103 ?_
 have hst0:=(yz hO).unpack
 refine pPL hst0 2 ?_
 refine al (cs:=Z3) rfl ti111 rfl hst0 ?_
 intro x g y z a
 have h:=yj [1,2,3,4,0] a
 have b:=yc [_,_,_,_] _ h
 refine pLL a 6 ?_
 refine cl ent90 (hmin1_ok hb n iv pv ps its pl g (yd b (i:=0) rfl) hS hP h0) ?_
 rintro _ A ⟨rfl,ht⟩
 have c:=(yp b ht)
 refine pLL c 3 ?_
 refine al (cs:=Z3) rfl ti111 rfl c (fun B C D E j=>sLL j 13 fun k l=>?_)
 have m:=yj [1,2,3,4,0,5] l
 have d:=yc [_,_,_,_] _ m
 refine cl ent154 (hdrop_ok hb n iv pv ps its pl k (yd d (i:=0) rfl) hS hP hOr 0 h0) ?_
 rintro _ G ⟨rfl,p,q,s,t,a1₁,a2₁,a3₁,a4₁,a5₁,a6₁,ht⟩
 have u:=(yp d ht)
 refine sLQ u 11 fun H f=>?_
 refine retL2 (v:=(Zag ((ndA its 0).ix:Int) ((ndA its 0).key))) (v' := Zf) Tryz.results103 (rvA (cs:=(Zi ((ndA its 0).ix:Int) ((ndA its 0).key))) rfl yr rfl ti111 rfl (yab f (i:=5) (o:=0) (vs:=(Zi ((ndA its 0).ix:Int) ((ndA its 0).key))) rfl rfl)) (rvT rfl) ?_
 exact⟨rfl,p,q,s,t,a1₁,a2₁,a3₁,a4₁,a5₁,a6₁,yq (yc [_,_,_,_] _ f)⟩
theorem hpop0_ok(hb n:Nat)(iv pv:Value)(ps:List (Option Nat))(its:List Ent)(pl:List Nat)(w:World)(hO:Own (Zg hb n iv pv its ps pl) w)(hS:Hp n its pl)(hP:Plc n ps pl)(h0:its.length=0) :
 CR ya 103 (Zk hb) w (fun r w' => r = .tuple Zbq/\Turn (Zg hb n iv pv its ps pl) w w' (Zg hb n iv pv its ps pl)):=by
 refine en Tryz.func103 Tryz.ntmps103 ?_
 have hst0:=(yz hO).unpack
 refine pPL hst0 2 ?_
 refine al (cs:=Z3) rfl ti111 rfl hst0 ?_
 intro j e k l a
 have f:=yj [1,2,3,4,0] a
 have b:=yc [_,_,_,_] _ f
 refine pLL a 6 ?_
 refine cl ent90 (hmin0_ok hb n iv pv ps its pl e (yd b (i:=0) rfl) hS hP h0) ?_
 rintro _ m ⟨rfl,ht⟩
 have c:=(yp b ht)
 refine pLL c 3 ?_
 refine al (cs:=Z3) rfl ti111 rfl c (fun p q s t g=>sLQ g 22 fun u d=>?_)
 refine retL2 (v:=Zcf) (v' := Zp) Tryz.results103 (rvA (cs:=Z3) rfl yr rfl ti111 rfl (yab d (i:=5) (o:=0) (vs:=Z3) rfl rfl)) (rvT rfl) ?_
 have h:=yj [1,2,3,4,0,5] d
 exact⟨rfl,yq (yc [_,_,_,_] _ h)⟩
end
section
open Go Go.Sx
theorem cloneE_ok(v:Value)(xs:List Ent)(w:World)(hv:Recs 2 Ent.cells (fun _=>True) w v xs)(hl0:xs.length<=1000000) :
 CR ya 150 #[v] w (fun r w' => FreshR 2 Ent.cells w w' r 111 xs/\Chg [] w w'):=by
 refine en Tryz.func150 Tryz.ntmps150 ?_
 have hst0:=yaf w
 refine pPL hst0 9 ?_
 refine eqNilR (v:=v) rfl rfl rfl yn hv (pLP hst0 2 ?_)
 cases e:(nilR v:Bool)
 . skip
   refine pPL hst0 5 ?_
   refine bsv (vs:=[]) (cs:=[]) rfl rfl yn ti111 rfl (by intro v hv;simp at hv) rfl rfl rfl hst0 ?_
   intro f g h i c
   have d:=c
   refine pLL c 1 ?_
   refine apdR (cf:=Ent.cells) (ys:=[]) (zs:=xs) (LL:=fun a=>[rowR Ent.cells a 111 2 xs]) 0 rfl rfl rfl yn ti111 rfl d_ d rfl (Recs.src (yap d s_ d_ hv) f_) (flat_one f_ _) (by simp only[zq];omega) (by simp only[zq];omega) f_ (fun a j b k=>pLQ b 4 ?_)
   refine ret1 (v:=a) Tryz.results150 rfl ?_
   exact⟨ybk b s_,b.chg s_⟩
 . skip
   refine pPQ hst0 8 ?_
   refine ret1 (v:=Zl) Tryz.results150 rfl ?_
   obtain rfl:=nil_nil e hv
   exact⟨FreshR.nil', hst0.chg s_⟩
theorem hnew_ok(n:Nat)(w:World)(hn:n<=65536) :
 CR ya 82 (Zai n) w (fun r w' => ∃ hb pv,r = .tuple (Zae hb)/\Turn (allR []) w w' (allR [blk hb 262 [(Zb hb),(Za n),Zl,pv],rowR Ent.cells Zl 111 2 ([]),rowR pcf pv 277 1 (List.replicate ((n+63) / 64) none),chk ncf 279 64 (List.replicate ((n+63) / 64) none) (List.replicate (64*((n+63) / 64)) 0)])):=by
 refine en Tryz.func82 Tryz.ntmps82 ?_
 have hst0:=yaf w
 refine pPL hst0 10 ?_
 refine cmp rfl rfl rfl (c_nlt o_) (pLL hst0 2 ?_)
 refine cmp rfl rfl rfl (c_ngt o_) (pLL hst0 10 ?_)
 refine ar (e:=((n+64:Nat):Int)) rfl rfl rfl rfl (by rw[w64 o_];omega) (ar (e:=((n+63:Nat):Int)) rfl rfl rfl rfl (by rw[w64 o_];omega) (quo (a:=((n+63:Nat):Int)) (b:=64) (e:=(((n+63) / 64:Nat):Int)) rfl rfl rfl d_ (quoN 64 o_) (mksB (cf:=pcf) (z0:=none) (m:=((n+63) / 64)) (c:=((n+63) / 64)) rfl rfl rfl yag ti277 rfl f_ d_ (zp _) o_ o_ hst0 (fun d s t u j=>bld (pvs:=[(1,(Za n)),(3,(Zu d ((n+63) / 64)))]) (v:=.agg (Zdb n d ((n+63) / 64))) rfl rfl (buildS [(1,(Zd n)),(3,(Zcd d ((n+63) / 64)))] ti262 pl262 rfl ⟨rfl,rfl,rfl,rfl,trivial⟩ rfl) (bx (v:=(.agg (Zdb n d ((n+63) / 64)))) (cs:=[Z6,(Za n),Zl,(Zu d ((n+63) / 64))]) rfl rfl rfl j (fun f x y z k=>sLL k 14 fun g l=>?_))))))
 have o:=St.blkRow (cf:=pcf) l (i:=1) rfl f_ (zp _) (by simp only[maxLen];omega)
 have p:St _ [chk ncf 279 64 (List.replicate ((n+63) / 64) none) (List.replicate (64*((n+63) / 64)) 0),blk f 262 (Zdo f n d ((n+63) / 64)),rowR pcf (Zu d ((n+63) / 64)) 277 1 (List.replicate ((n+63) / 64) none)] g:=St.chkNil o ((n+63) / 64)
 have h:St _ [rowR Ent.cells Zl 111 2 ([]),chk ncf 279 64 (List.replicate ((n+63) / 64) none) (List.replicate (64*((n+63) / 64)) 0),blk f 262 (Zdo f n d ((n+63) / 64)),rowR pcf (Zu d ((n+63) / 64)) 277 1 (List.replicate ((n+63) / 64) none)] g:=ybd p 111 2
 refine pLQ h 6 ?_
 refine ret2 (v:=(Zb f)) (v' := Zc) Tryz.results82 rfl rfl ?_
 have q:=yj [2,0,3,1] h
 exact⟨f,(Zu d ((n+63) / 64)),rfl,St.eM (yc [_,_,_,_] [] q)⟩
abbrev prl96_3:List (List Nat):=[[],[0],[0,1],[0,1,2],[],[4],[4,5],[4,5,6],[4,5,6,7],[],[9],[9,10],[9,10,11],[9,10,11,12],[9,10,11,12,13],[0,1,2,3,4,5,6,7,8,9,10,11,12,13,14],[0,1,2,3,4,5,6,7,8,9,10,11,12,13,14,15],[0,1,2,3,4,5,6,7,8,9,10,11,12,13,14,15,16]]
theorem hcopy_ok(hb n:Nat)(iv pv:Value)(ps:List (Option Nat))(its:List Ent)(pl:List Nat)(w:World)(hO:Own (Zg hb n iv pv its ps pl) w)(hS:Hp n its pl)(hP:Plc n ps pl) :
 CR ya 96 (Zk hb) w (fun r w' => ∃ hb2 iv2 pv2 qs,r = .pointer (some ⟨hb2,0,none⟩)/\Plc n qs pl/\qs.length=ps.length/\Turn (Zg hb n iv pv its ps pl) w w' (allR [blk hb 262 (Zac hb n iv pv),rowR Ent.cells iv 111 2 its,rowR pcf pv 277 1 ps,chk ncf 279 64 ps pl,blk hb2 262 (Zac hb2 n iv2 pv2),rowR Ent.cells iv2 111 2 its,rowR pcf pv2 277 1 qs,chk ncf 279 64 qs pl])):=by
 have hnn:=hP.n
 have hln:=hS.len
 have hpll:=hP.len
 have hpr:=hP.room
 have hpsl:=hP.top
 refine enter (vs:=(Zj hb)) Tryz.func96 rfl Tryz.ntmps96 rfl ?_
 have hst0:=(yz hO).unpack
 have z:=yc [_,_,_,_] _ hst0
 refine pPL hst0 9 ?_
 refine clF (vl:=(Zj hb)) rfl rfl ent148 (hvalid_ok hb n iv pv ps its pl w (yd z (i:=0) rfl)) ?_
 rintro _ O ⟨rfl,ht⟩
 have s:=(St.turn (R' := (Zg hb n iv pv its ps pl)) 0 z rfl ht rfl).unpack
 refine pLP s 7 ?_
 refine rgs2 (Γ:=Value×Nat×Nat) mixed prl96_3 [8,14,16] k_ [fun(d,e,g)=>(Zb hb),fun(d,e,g)=>(Zb hb),fun(d,e,g)=>(Zbg hb),fun(d,e,g)=>(Za n),fun(d,e,g)=>(Zb hb),fun(d,e,g)=>(Zb hb),fun(d,e,g)=>(Zab hb),fun(d,e,g)=>iv,fun(d,e,g)=>d,fun(d,e,g)=>(Zb hb),fun(d,e,g)=>(Zb hb),fun(d,e,g)=>(Za4 hb),fun(d,e,g)=>pv,fun(d,e,g)=>(Za ps.length),fun(d,e,g)=>(Zu e ps.length),fun(d,e,g)=>(Zci n d e ps.length),fun(d,e,g)=>(Zb g),fun(d,e,g)=>(Zb g)] [([],(fun(d,e,g)=>(Zat hb n iv pv its ps pl),fun _ _=>True)),([8],(fun(d,e,g)=>[rowR Ent.cells d 111 2 its,blk hb 262 (Zac hb n iv pv),rowR Ent.cells iv 111 2 its,rowR pcf pv 277 1 ps,chk ncf 279 64 ps pl],fun _ _=>True)),([14],(fun(d,e,g)=>[blk e 277 ((List.replicate ps.length none).flatMap pcf),blk hb 262 (Zac hb n iv pv),rowR Ent.cells iv 111 2 its,rowR pcf pv 277 1 ps,chk ncf 279 64 ps pl],fun _ _=>True)),([8,14],(fun(d,e,g)=>[blk e 277 ((List.replicate ps.length none).flatMap pcf),rowR Ent.cells d 111 2 its,blk hb 262 (Zac hb n iv pv),rowR Ent.cells iv 111 2 its,rowR pcf pv 277 1 ps,chk ncf 279 64 ps pl],fun _ _=>True)),([8,14,16],(fun(d,e,g)=>[blk g 262 (Zdd n d e ps.length),blk e 277 ((List.replicate ps.length none).flatMap pcf),rowR Ent.cells d 111 2 its,blk hb 262 (Zac hb n iv pv),rowR Ent.cells iv 111 2 its,rowR pcf pv 277 1 ps,chk ncf 279 64 ps pl],fun _ _=>True))] (Zl,0,0) (fun(d,e,g)=>(3,(Zb g)) :: (26,(Zb g)) :: (25,(Zci n d e ps.length)) :: (24,(Zu e ps.length)) :: (23,(Za ps.length)) :: (22,pv) :: (21,(Za4 hb)) :: (20,(Zb hb)) :: (19,(Zb hb)) :: (18,d) :: (17,iv) :: (16,(Zab hb)) :: (15,(Zb hb)) :: (14,(Zb hb)) :: (13,(Za n)) :: (12,(Zbg hb)) :: (11,(Zb hb)) :: (10,(Zb hb)) :: _) rfl s (fun _ _=>trivial) ?_ (fun(d,e,g)=>rfl) rfl ?_
 . skip
   refine ob2_p rfl (fun(d,e,g) _ _=>qv rfl rfl (mv_r (v:=(Zb hb)) rfl)) (ob2_p rfl (fun(d,e,g) _ _=>qv rfl rfl (nilc_r (a:=⟨hb,0,none⟩) rfl)) (ob2_p rfl (fun(d,e,g) _ _=>qv rfl rfl (fa_r (o:=0) (o' := 1) rfl yaw rfl ti3 rfl)) (ob2_q rfl ⟨(fun(d,e,g) wq hM hF=>qv rfl rfl (ld_r (a:=⟨hb,1,none⟩) (v:=(Za n)) rfl ye rfl (yo hM (i:=0) rfl rfl))),(fun(d,e,g) wq hM hF=>qv rfl rfl (ld_r (a:=⟨hb,1,none⟩) (v:=(Za n)) rfl ye rfl (yo hM (i:=1) rfl rfl))),(fun(d,e,g) wq hM hF=>qv rfl rfl (ld_r (a:=⟨hb,1,none⟩) (v:=(Za n)) rfl ye rfl (yo hM (i:=1) rfl rfl))),(fun(d,e,g) wq hM hF=>qv rfl rfl (ld_r (a:=⟨hb,1,none⟩) (v:=(Za n)) rfl ye rfl (yo hM (i:=2) rfl rfl))),trivial,trivial⟩ (ob2_p rfl (fun(d,e,g) _ _=>qv rfl rfl (mv_r (v:=(Zb hb)) rfl)) (ob2_p rfl (fun(d,e,g) _ _=>qv rfl rfl (nilc_r (a:=⟨hb,0,none⟩) rfl)) (ob2_p rfl (fun(d,e,g) _ _=>qv rfl rfl (fa_r (o:=0) (o' := 2) rfl yaw rfl ti260 rfl)) (ob2_q rfl ⟨(fun(d,e,g) wq hM hF=>qv rfl rfl (ld_r (a:=⟨hb,2,none⟩) (v:=iv) rfl yn rfl (yo hM (i:=0) rfl rfl))),trivial,(fun(d,e,g) wq hM hF=>qv rfl rfl (ld_r (a:=⟨hb,2,none⟩) (v:=iv) rfl yn rfl (yo hM (i:=1) rfl rfl))),trivial,trivial,trivial⟩ ?_)))))))
   refine ob2_m rfl ⟨⟨_,_,rfl,fun(d,e,g) wq hM hF=>mcl rfl rfl (clF_r (vl:=[iv]) rfl ent150) (cloneE_ok iv its wq (yf hM (i:=1) rfl f_).any (by first|omega|(simp;omega))) (fun t _ hz=>⟨(t,e,g),⟨(ya8 hM hz.2 hz.1),trivial⟩,rfl,st_c rfl (st_c rfl (st_c rfl (st_c rfl (st_c rfl (st_c rfl (st_c rfl (st_c rfl (st_c trivial (st_c rfl (st_c rfl (st_c rfl (st_c rfl (st_c rfl (st_c rfl (st_c trivial (st_c trivial (st_c trivial (st_n))))))))))))))))))⟩)⟩,trivial,⟨_,_,rfl,fun(d,e,g) wq hM hF=>mcl rfl rfl (clF_r (vl:=[iv]) rfl ent150) (cloneE_ok iv its wq (yf hM (i:=2) rfl f_).any (by first|omega|(simp;omega))) (fun t _ hz=>⟨(t,e,g),⟨(ya7 (ya8 hM hz.2 hz.1) (List.Perm.swap _ _ _)),trivial⟩,rfl,st_c rfl (st_c rfl (st_c rfl (st_c rfl (st_c rfl (st_c rfl (st_c rfl (st_c rfl (st_c trivial (st_c rfl (st_c rfl (st_c rfl (st_c rfl (st_c rfl (st_c rfl (st_c trivial (st_c trivial (st_c trivial (st_n))))))))))))))))))⟩)⟩,trivial,trivial,trivial⟩ (ob2_p rfl (fun(d,e,g) _ _=>qv rfl rfl (mv_r (v:=(Zb hb)) rfl)) (ob2_p rfl (fun(d,e,g) _ _=>qv rfl rfl (nilc_r (a:=⟨hb,0,none⟩) rfl)) (ob2_p rfl (fun(d,e,g) _ _=>qv rfl rfl (fa_r (o:=0) (o' := 3) rfl yaw rfl ti259 rfl)) (ob2_q rfl ⟨(fun(d,e,g) wq hM hF=>qv rfl rfl (ld_r (a:=⟨hb,3,none⟩) (v:=pv) rfl yag rfl (yo hM (i:=0) rfl rfl))),(fun(d,e,g) wq hM hF=>qv rfl rfl (ld_r (a:=⟨hb,3,none⟩) (v:=pv) rfl yag rfl (yo hM (i:=1) rfl rfl))),trivial,trivial,trivial,trivial⟩ (ob2_p rfl (fun(d,e,g) _ _=>qv rfl rfl (lenI_r (v:=pv) rfl yag (yf (cf:=pcf) s (i:=2) rfl f_))) (ob2_m rfl ⟨⟨_,_,rfl,fun(d,e,g) wq hM hF=>m_mksB (cf:=pcf) (z0:=none) (m:=ps.length) (c:=ps.length) rfl rfl rfl yag ti277 rfl f_ d_ (zp _) o_ o_ hM (fun x _ h=>⟨(d,x,g),⟨h,trivial⟩,rfl,st_c rfl (st_c rfl (st_c rfl (st_c rfl (st_c rfl (st_c rfl (st_c rfl (st_c rfl (st_c rfl (st_c rfl (st_c rfl (st_c rfl (st_c rfl (st_c rfl (st_c trivial (st_c trivial (st_c trivial (st_c trivial (st_n))))))))))))))))))⟩)⟩,⟨_,_,rfl,fun(d,e,g) wq hM hF=>m_mksB (cf:=pcf) (z0:=none) (m:=ps.length) (c:=ps.length) rfl rfl rfl yag ti277 rfl f_ d_ (zp _) o_ o_ hM (fun x _ h=>⟨(d,x,g),⟨h,trivial⟩,rfl,st_c rfl (st_c rfl (st_c rfl (st_c rfl (st_c rfl (st_c rfl (st_c rfl (st_c rfl (st_c rfl (st_c rfl (st_c rfl (st_c rfl (st_c rfl (st_c rfl (st_c trivial (st_c trivial (st_c trivial (st_c trivial (st_n))))))))))))))))))⟩)⟩,trivial,trivial,trivial,trivial⟩ (ob2_q rfl ⟨trivial,trivial,trivial,(fun(d,e,g) wq hM hF=>qv rfl rfl (bld_r (pvs:=[(1,(Za n)),(2,d),(3,(Zu e ps.length))]) (v:=.agg #[Z6,(Za n),d,(Zu e ps.length)]) rfl (buildS [(1,(Zd n)),(2,[d]),(3,(Zcd e ps.length))] ti262 pl262 rfl ⟨rfl,rfl,rfl,(cells_one (ya0 hM (i:=1) rfl)),rfl,rfl,trivial⟩ rfl))),trivial,trivial⟩ ?_)))))))
   refine ob2_m rfl ⟨trivial,trivial,trivial,⟨_,_,rfl,fun(d,e,g) wq hM hF=>m_bx (v:=(Zci n d e ps.length)) (cs:=(Zdd n d e ps.length)) rfl rfl rfl hM (fun C _ h=>⟨(d,e,C),⟨h,trivial⟩,rfl,st_c rfl (st_c rfl (st_c rfl (st_c rfl (st_c rfl (st_c rfl (st_c rfl (st_c rfl (st_c rfl (st_c rfl (st_c rfl (st_c rfl (st_c rfl (st_c rfl (st_c rfl (st_c rfl (st_c trivial (st_c trivial (st_n))))))))))))))))))⟩)⟩,trivial,trivial⟩ (ob2_p rfl (fun(d,e,g) _ _=>qv rfl rfl (asg_r (v:=(Zb g)) rfl)) ?_)
   exact ob2_n
 rintro⟨d,e,g⟩ P D -
 refine sQL tt none D 13 fun E G=>?_
 have H:=St.blkRow (cf:=pcf) G (i:=1) rfl f_ (zp _) (by simp only[maxLen];omega)
 have I:St _ [chk ncf 279 64 (List.replicate ps.length none) pl,blk g 262 (Zcq g n d e ps.length),rowR pcf (Zu e ps.length) 277 1 (List.replicate ps.length none),rowR Ent.cells d 111 2 its,blk hb 262 (Zac hb n iv pv),rowR Ent.cells iv 111 2 its,rowR pcf pv 277 1 ps,chk ncf 279 64 ps pl] E:=St.chkNil H ps.length
 have p:=yj [4,5,6,7,1,3,2,0] I
 refine pLL p 4 ?_
 refine lenR (m:=ps.length) 2 rfl rfl yag p rfl (pLP p 4 ?_)
 refine lp (α:=Nat×List (Option Nat)) (fun(k,qs)=>[(3,(Zb g)),(34,pv),(35,(Za ps.length)),(36,(Za k))]) (fun(k,qs) w1=>St [(w,(Zg hb n iv pv its ps pl).foot)] (Zdc hb n iv pv its ps pl g d e ps.length qs) w1/\k<=ps.length/\CpI ps qs k) (fun(k,qs)=>ps.length-k) (0,(List.replicate ps.length none)) ⟨rfl,rfl,rfl,eqI (by first|rfl|omega),trivial⟩ (⟨p,o_,CpI.start ps⟩) ?_
 rintro⟨k,qs⟩ Q R ⟨hst6,hk6,hC⟩
 have hkn:=hP.len
 have hql:=hC.len
 refine pPL hst6 2 ?_
 by_cases S:((k:Int):Int)<((ps.length:Int):Int)
 . have hk:k<ps.length:=by omega
   refine pLL hst6 12 ?_
   refine ixR (cf:=pcf) (k:=k) (i:=(k:Int)) rfl rfl rfl yag ti277 (yf hst6 (i:=2) rfl f_) o_ o_ (nd_get om) (ldR (cf:=pcf) (u:=(.pointer ((ndA ps k).map fun b=>⟨b,0,none⟩))) rfl rfl yam rfl (yf hst6 (i:=2) rfl f_) (nd_get om) rfl ?_)
   obtain⟨J,l⟩:∃ q,(ndA ps k)=q:=⟨_,rfl⟩
   refine pLL hst6 7 ?_
   rcases J with _|A
   . skip
     refine neP (a:=(ndA ps k).map fun b=>⟨b,0,none⟩) (c:=false) rfl rfl rfl yam (by rw[l];rfl) (pLQ hst6 10 ?_)
     refine tN (?_)
     exact again ((k+1),qs) ⟨rfl,rfl,rfl,eqI (by first|rfl|omega),trivial⟩ (⟨hst6,o_,hC.skip ((nd_get hk).trans (congrArg some l))⟩) (by show (ps.length-(k+1):Nat)<ps.length-k;omega)
   . skip
     refine neP (a:=(ndA ps k).map fun b=>⟨b,0,none⟩) (c:=true) rfl rfl rfl yam (by rw[l];rfl) (pLL hst6 6 ?_)
     refine nilc (a:=⟨A,0,none⟩) rfl (ptr_some l) ?_
     have hcl:(((pl.drop (64*k)).take 64).flatMap ncf).length=64:=chunk_len (cf:=ncf) (sz:=1) f_ hP.len hk
     refine ldA (b:=A) (o:=0) (cs:=(((pl.drop (64*k)).take 64).flatMap ncf)) rfl rfl ybl rfl ti279 hcl (St.chkBlock hst6 (i:=3) rfl ((nd_get hk).trans (congrArg some l))) (al (cs:=Zcn) rfl ti279 rfl hst6 (fun j U V W K=>stoL (v:=.agg (((pl.drop (64*k)).take 64).flatMap ncf).toArray) (vs:=(((pl.drop (64*k)).take 64).flatMap ncf)) (L' := [blk j 279 (((pl.drop (64*k)).take 64).flatMap ncf),blk hb 262 (Zac hb n iv pv),rowR Ent.cells iv 111 2 its,rowR pcf pv 277 1 ps,chk ncf 279 64 ps pl,blk g 262 (Zcq g n d e ps.length),rowR Ent.cells d 111 2 its,rowR pcf (Zu e ps.length) 277 1 qs,chk ncf 279 64 qs pl]) 0 rfl rfl rfl rfl ti279 hcl (zz.2 (flat_one f_ _)) K rfl (by rw[hcl];decide) (setAt_all (by rw[hcl];rfl)) rfl (fun X y Y=>pLL y 8 ?_)))
     refine ixR (cf:=pcf) (k:=k) (i:=(k:Int)) rfl rfl rfl yag ti277 (yf y (i:=7) rfl f_) o_ o_ (nd_get om) (stoR (cf:=pcf) (ys:=qs) (k:=k) (off:=0) (f:=(fun _=>(some j))) (u:=(Zb j)) (vs:=(Zj j)) (L' := [blk j 279 (((pl.drop (64*k)).take 64).flatMap ncf),blk hb 262 (Zac hb n iv pv),rowR Ent.cells iv 111 2 its,rowR pcf pv 277 1 ps,chk ncf 279 64 ps pl,blk g 262 (Zcq g n d e ps.length),rowR Ent.cells d 111 2 its,rowR pcf (Zu e ps.length) 277 1 (updA qs k (fun _=>(some j))),chk ncf 279 64 qs pl]) 7 rfl rfl rfl rfl ti277 rfl rfl y rfl f_ om rfl rfl rfl (fun Z B=>pLQ B 7 ?_))
     refine tN (?_)
     have L:=yj [0,8,1,2,3,4,5,6,7] B
     have M:=St.chkSet L (hC.next hk) rfl
     have N:=yj [1,2,3,4,5,6,7,0] M
     exact again ((k+1),updA qs k (fun _=>(some j))) ⟨rfl,rfl,rfl,eqI (by first|rfl|omega),trivial⟩ (⟨N,o_,hC.set hk⟩) (by show (ps.length-(k+1):Nat)<ps.length-k;omega)
 . refine pLQ hst6 17 ?_
   refine ret1 (v:=(Zb g)) Tryz.results96 rfl ?_
   exact⟨g,d,(Zu e ps.length),qs,rfl,hP.copy hC o_,hC.len,yv (R' := (allR (Zdc hb n iv pv its ps pl g d e ps.length qs))) (yc [_,_,_,_,_,_,_,_] _ hst6) zh⟩
end
section
open Go Go.Sx
theorem avalid_ok(ab:Nat)(bv:Value)(cn cb cu cl:Int)(ps:List (Option Nat))(sl:List Slt)(w:World)(hO:Own (Za9 ab bv cn cb cu cl ps sl) w) :
 CR ya 114 (Zk ab) w (fun r w' => r = .bool true/\Turn (Za9 ab bv cn cb cu cl ps sl) w w' (Za9 ab bv cn cb cu cl ps sl)):=by
 refine en Tryz.func114 Tryz.ntmps114 ?_
 have hst0:=(yz hO).unpack
 refine pPL hst0 8 ?_
 refine neP (a:=some ⟨ab,0,none⟩) (c:=true) rfl rfl rfl ybj rfl (pLL hst0 6 ?_)
 refine eqPS (a:=⟨ab,0,none⟩) rfl rfl rfl ybj ti205 (pLQ hst0 5 ?_)
 refine ret1 (v:=Zf) Tryz.results114 rfl ?_
 exact⟨rfl,yq (yc [_,_,_] _ hst0)⟩
theorem aat_ok(ab:Nat)(bv:Value)(cn cb cu cl:Int)(ps:List (Option Nat))(sl:List Slt)(w:World)(hO:Own (Za9 ab bv cn cb cu cl ps sl) w)(i:Nat)(hi:i<=1000000)(b:Nat)(hb:ps[i / 64]? = some (some b)) :
 CR ya 152 (Zn ab i) w (fun r w' => r = .pointer (some ⟨b,i%64*3+0,none⟩)/\Turn (Za9 ab bv cn cb cu cl ps sl) w w' (Za9 ab bv cn cb cu cl ps sl)):=by
 have hij:i / 64<ps.length:=(zb.1 hb).1
 refine en Tryz.func152 Tryz.ntmps152 ?_
 have hst0:=(yz hO).unpack
 refine pPL hst0 12 ?_
 refine quo (a:=(i:Int)) (b:=64) (e:=((i / 64:Nat):Int)) rfl rfl rfl d_ (quoN 64 o_) (ixR (cf:=pcf) (k:=(i / 64)) (i:=((i / 64:Nat):Int)) rfl rfl rfl ya1 ti270 (yf hst0 (i:=1) rfl f_) o_ o_ (nd_get om) (ldR (cf:=pcf) rfl rfl Tryz.underlying270 rfl (yf hst0 (i:=1) rfl f_) (nd_get om) rfl (pLL hst0 1 ?_)))
 refine rem (a:=(i:Int)) (b:=64) (e:=((i%64:Nat):Int)) rfl rfl rfl d_ (remN 64) (nilc rfl (ptr_some (nd_of hb)) (ixArr (o:=0) (o' := i%64*3+0) (i:=((i%64:Nat):Int)) rfl rfl rfl Tryz.underlying274 ti272 o_ (by simp only[zbd];omega) (pLQ hst0 4 ?_)))
 refine ret1 (v:=(Z7 b (i%64*3+0))) Tryz.results152 rfl ?_
 exact⟨rfl,yq (yc [_,_,_] _ hst0)⟩
theorem astate_ok(ab:Nat)(bv:Value)(A:As)(w:World)(hO:Own (Zq ab bv A) w)(hA:A.ok)(i:Nat)(hi:i<=1000000) :
 CR ya 115 (Zn ab i) w (fun r w' => r = .int .i64 (if i<A.begun then(ndA A.sl i).st else 0)/\Turn (Zq ab bv A) w w' (Zq ab bv A)):=by
 refine en Tryz.func115 Tryz.ntmps115 ?_
 have hst0:=(yz hO).unpack
 refine pPL hst0 13 ?_
 by_cases d:((i:Int):Int)≥((A.begun:Int):Int)
 . refine pLQ hst0 11 ?_
   refine ret1 (v:=Zc) Tryz.results115 rfl ?_
   exact⟨eqI (by rw[if_neg o_]),yq (yc [_,_,_] _ hst0)⟩
 . have hib:i<A.begun:=by omega
   have hil:=(hA.room hib).1
   obtain⟨b,hb⟩:=hA.at hib
   have c:=yc [_,_,_] _ hst0
   refine pLL hst0 10 ?_
   refine cl ent152 (aat_ok ab bv (A.n:Int) (A.begun:Int) (A.used:Int) A.last A.ps A.sl w (yd c (i:=0) rfl) i o_ b hb) ?_
   rintro _ e ⟨rfl,ht⟩
   have a:=(yp c ht)
   refine pLL a 1 ?_
   refine fa (o' := i%64*3+0) rfl rfl yae rfl ti3 (by simp only[zae];rfl) (ld rfl rfl ye rfl (ybt a (i:=2) rfl f_ d_ hil hb rfl) (pLQ a 4 ?_))
   refine ret1 (v:=(Za ((ndA A.sl i).st))) Tryz.results115 rfl ?_
   exact⟨eqI (by rw[if_pos o_]),yq (yc [_,_,_] _ a)⟩
theorem alen_ok(ab:Nat)(bv:Value)(A:As)(w:World)(hO:Own (Zq ab bv A) w)(hA:A.ok) :
 CR ya 86 (Zk ab) w (fun r w' => r = .int .i64 (A.used:Int)/\Turn (Zq ab bv A) w w' (Zq ab bv A)):=by
 refine en Tryz.func86 Tryz.ntmps86 ?_
 have hst0:=(yz hO).unpack
 have a:=yc [_,_,_] _ hst0
 refine pPL hst0 9 ?_
 refine cl ent114 (avalid_ok ab bv (A.n:Int) (A.begun:Int) (A.used:Int) A.last A.ps A.sl w (yd a (i:=0) rfl)) ?_
 rintro _ c ⟨rfl,ht⟩
 have b:=(yp a ht)
 refine pLQ b 16 ?_
 refine ret1 (v:=(Za A.used)) Tryz.results86 rfl ?_
 exact⟨rfl,yq (yc [_,_,_] _ b)⟩
theorem anext1_ok(ab:Nat)(bv:Value)(A:As)(w:World)(hO:Own (Zq ab bv A) w)(hA:A.ok)(i:Nat)(hl:A.last=(i:Int)) :
 CR ya 156 (Zk ab) w (fun r w' => r = .tuple (Zbt i)/\Turn (Zq ab bv A) w w' (Zq ab bv A)):=by
 refine en Tryz.func156 Tryz.ntmps156 ?_
 have hst0:=(yz hO).unpack
 have b:=yc [_,_,_] _ hst0
 refine pPL hst0 11 ?_
 refine cl ent114 (avalid_ok ab bv (A.n:Int) (A.begun:Int) (A.used:Int) A.last A.ps A.sl w (yd b (i:=0) rfl)) ?_
 rintro _ c ⟨rfl,ht⟩
 have a:=(yp b ht)
 refine pLL a 11 ?_
 refine cmp rfl rfl rfl (c_ne o_) (pLQ a 17 ?_)
 refine ret2 (v:=(Za A.last)) (v' := Zf) Tryz.results156 rfl rfl ?_
 exact⟨by rw[hl],yq (yc [_,_,_] _ a)⟩
theorem anext2_ok(ab:Nat)(bv:Value)(A:As)(w:World)(hO:Own (Zq ab bv A) w)(hA:A.ok)(hl:A.last = -1)(hb:A.begun<A.n) :
 CR ya 156 (Zk ab) w (fun r w' => r = .tuple (Zbt A.begun)/\Turn (Zq ab bv A) w w' (Zq ab bv A)):=by
 refine en Tryz.func156 Tryz.ntmps156 ?_
 have hst0:=(yz hO).unpack
 have b:=yc [_,_,_] _ hst0
 refine pPL hst0 11 ?_
 refine cl ent114 (avalid_ok ab bv (A.n:Int) (A.begun:Int) (A.used:Int) A.last A.ps A.sl w (yd b (i:=0) rfl)) ?_
 rintro _ d ⟨rfl,ht⟩
 have a:=(yp b ht)
 refine pLL a 11 ?_
 refine cmp rfl rfl rfl (c_nne o_) (pLP a 5 ?_)
 refine dr0 a (fun e c=>?_) (hA:=by refine' dar 8 ?k0;case k0=>refine' dax (fun wq hM=>rv (cmp_r rfl rfl (c_lt o_))) ?k1;case k1=>exact run2)
 refine pQQ tt none c 15 ?_
 refine ret2 (v:=(Za A.begun)) (v' := Zf) Tryz.results156 rfl rfl ?_
 exact⟨rfl,yq (yc [_,_,_] _ c)⟩
end
section
open Go Go.Sx
theorem aalloc1_ok(ab:Nat)(bv:Value)(A:As)(w:World)(hO:Own (Zq ab bv A) w)(hA:A.ok)(i:Nat)(r:List Nat)(hf:A.fl=i :: r) :
 CR ya 105 (Zk ab) w (fun r w' => r = .tuple (Za8 i)/\∃ A2 bv2,As.ok A2/\(A2.n=A.n/\A2.begun=A.begun/\A2.used=A.used+1)/\(∀ j,A2.inU j↔A.inU j\/j=i)/\Turn (Zq ab bv A) w w' (Zq ab bv2 A2)):=by
 have hAn:=hA.n
 have hAle:=hA.le
 have hAu:=hA.used
 obtain⟨hok,hin,hni,hib,hl⟩:=hA.pop hf
 have hil:=(hA.room hib).1
 obtain⟨b,hb⟩:=hA.at hib
 refine en Tryz.func105 Tryz.ntmps105 ?_
 have hst0:=(yz hO).unpack
 have g:=yc [_,_,_] _ hst0
 refine pPL hst0 10 ?_
 refine cl ent114 (avalid_ok ab bv (A.n:Int) (A.begun:Int) (A.used:Int) A.last A.ps A.sl w (yd g (i:=0) rfl)) ?_
 rintro _ s ⟨rfl,ht⟩
 have h:=(yp g ht)
 have k:=yc [_,_,_] _ h
 refine pLL h 9 ?_
 refine cl ent156 (anext1_ok ab bv A s (yd k (i:=0) rfl) hA i hl) ?_
 rintro _ t ⟨rfl,ht⟩
 have c:=(yp k ht)
 refine pLL c 25 ?_
 refine cmp rfl rfl rfl (c_eq hl.symm) ?_
 have l:=yc [_,_,_] _ c
 refine pLL c 7 ?_
 refine cl ent152 (aat_ok ab bv (A.n:Int) (A.begun:Int) (A.used:Int) A.last A.ps A.sl t (yd l (i:=0) rfl) i o_ b hb) ?_
 rintro _ B ⟨rfl,ht⟩
 have d:=(yp l ht)
 refine pLL d 1 ?_
 refine fa (o' := i%64*3+1) rfl rfl yae rfl ti3 (by simp only[zae];rfl) (ld rfl rfl ye rfl (ybt d (i:=2) rfl f_ d_ (by first|exact hil|(simp only[updA_len];exact hil)) hb rfl) (sLL d 9 fun u y=>?_))
 have m:=yc [_,_,_] _ y
 refine cl ent152 (aat_ok ab bv (A.n:Int) (A.begun:Int) (A.used:Int) ((ndA A.sl i).after) A.ps A.sl u (yd m (i:=0) rfl) i o_ b hb) ?_
 rintro _ C ⟨rfl,ht⟩
 have o:=(yp m ht)
 refine pLL o 7 ?_
 refine fa (o' := i%64*3+0) rfl rfl yae rfl ti3 (by simp only[zae];rfl) (stoC (f:=(fun x=>{ x with st:=1 })) (L' := [blk ab 205 (Zcw ab bv A ((ndA A.sl i).after)),rowR pcf bv 270 1 A.ps,chk Slt.cells 274 64 A.ps (updA A.sl i (fun x=>{ x with st:=1 }))]) 2 rfl rfl rfl rfl ti3 rfl rfl o rfl f_ d_ (by first|exact hil|(simp only[updA_len];exact hil)) hb rfl rfl rfl (fun D p=>pLL p 6 ?_))
 refine fa (o' := i%64*3+1) rfl rfl yae rfl ti3 (by simp only[zae];rfl) (stoC (f:=(fun x=>{ x with after := -1 })) (L' := [blk ab 205 (Zcw ab bv A ((ndA A.sl i).after)),rowR pcf bv 270 1 A.ps,chk Slt.cells 274 64 A.ps (updA (updA A.sl i (fun x=>{ x with st:=1 })) i (fun x=>{ x with after := -1 }))]) 2 rfl rfl rfl rfl ti3 rfl rfl p rfl f_ d_ (by first|exact hil|(simp only[updA_len];exact hil)) hb rfl rfl rfl (fun E a=>pLL a 6 ?_))
 refine fa (o' := i%64*3+2) rfl rfl yae rfl ti30 (by simp only[zae];rfl) (ld rfl rfl yg rfl (ybt a (i:=2) rfl f_ d_ (by first|exact hil|(simp only[updA_len];exact hil)) hb rfl) (ar (e:=(IntKind.u64.wrap (((ndA (updA (updA A.sl i (fun x=>{ x with st:=1 })) i (fun x=>{ x with after := -1 })) i).times)+1))) rfl rfl rfl rfl rfl (pLL a 1 ?_)))
 refine fa (o' := i%64*3+2) rfl rfl yae rfl ti30 (by simp only[zae];rfl) (stoC (f:=(fun x=>{ x with times:=(IntKind.u64.wrap (((ndA (updA (updA A.sl i (fun x=>{ x with st:=1 })) i (fun x=>{ x with after := -1 })) i).times)+1)) })) (L' := [blk ab 205 (Zcw ab bv A ((ndA A.sl i).after)),rowR pcf bv 270 1 A.ps,chk Slt.cells 274 64 A.ps (updA (updA (updA A.sl i (fun x=>{ x with st:=1 })) i (fun x=>{ x with after := -1 })) i (fun x=>{ x with times:=(IntKind.u64.wrap (((ndA (updA (updA A.sl i (fun x=>{ x with st:=1 })) i (fun x=>{ x with after := -1 })) i).times)+1)) }))]) 2 rfl rfl rfl rfl ti30 rfl rfl a rfl f_ d_ (by first|exact hil|(simp only[updA_len];exact hil)) hb rfl rfl rfl (fun G q=>pLL q 8 ?_))
 refine ar (e:=((A.used+1:Nat):Int)) rfl rfl rfl rfl (by rw[w64 o_];omega) (sLQ q 13 fun H z=>?_)
 refine ret2 (v:=(Za i)) (v' := Zc) Tryz.results105 rfl rfl ?_
 have e9:updA (updA (updA A.sl i (fun x=>{ x with st:=1 })) i (fun x=>{ x with after := -1 })) i (fun x=>{ x with times:=(IntKind.u64.wrap (((ndA (updA (updA A.sl i (fun x=>{ x with st:=1 })) i (fun x=>{ x with after := -1 })) i).times)+1)) })=updA A.sl i tk:=tk3 hil (by rw[nd_upd_same (by rw[updA_len];exact hil),nd_upd_same hil])
 have hs9:=z
 rw[e9]at hs9
 exact⟨rfl,⟨A.n,A.begun,A.used+1,(ndA A.sl i).after,updA A.sl i tk,r,A.ps⟩,bv,hok,⟨rfl,rfl,rfl⟩,hin,yq (yc [_,_,_] _ hs9)⟩
theorem aalloc2_ok(ab:Nat)(bv:Value)(A:As)(w:World)(hO:Own (Zq ab bv A) w)(hA:A.ok)(hf:A.fl=[])(hlt:A.begun<A.n) :
 CR ya 105 (Zk ab) w (fun r w' => r = .tuple (Za8 A.begun)/\∃ A2 bv2,As.ok A2/\(A2.n=A.n/\A2.begun=A.begun+1/\A2.used=A.used+1)/\(∀ j,A2.inU j↔A.inU j\/j=A.begun)/\Turn (Zq ab bv A) w w' (Zq ab bv2 A2)):=by
 have hAn:=hA.n
 have hAle:=hA.le
 have hAu:=hA.used
 have hl:A.last = -1:=by have h7:=hA.chain;rw[hf]at h7;exact h7
 refine enter (vs:=(Zj ab)) Tryz.func105 rfl Tryz.ntmps105 rfl ?_
 have hst0:St _ (Zbi ab bv A) w:=(yz hO).unpack
 have y:=yc [_,_,_] _ hst0
 refine pPL hst0 10 ?_
 refine clF (vl:=(Zj ab)) rfl rfl ent114 (avalid_ok ab bv (A.n:Int) (A.begun:Int) (A.used:Int) A.last A.ps A.sl w (yd y (i:=0) rfl)) ?_
 rintro _ z ⟨rfl,ht⟩
 have B:St _ (Zbi ab bv A) z:=(St.turn (R' := (Zq ab bv A)) 0 y rfl ht rfl).unpack
 have C:=yc [_,_,_] _ B
 refine pLL B 9 ?_
 refine clF (vl:=(Zj ab)) rfl rfl ent156 (anext2_ok ab bv A z (yd C (i:=0) rfl) hA hl hlt) ?_
 rintro _ N ⟨rfl,ht⟩
 have h:St _ (Zbi ab bv A) N:=(St.turn (R' := (Zq ab bv A)) 0 C rfl ht rfl).unpack
 refine pLL h 25 ?_
 refine cmp (a:=(A.begun:Int)) (b:=A.last) rfl rfl rfl (c_neq o_) (pLL h 7 ?_)
 refine rem (a:=(A.begun:Int)) (b:=64) (e:=((A.begun%64:Nat):Int)) rfl rfl rfl d_ (remN 64) ?_
 by_cases af:(((A.begun%64:Nat):Int):Int)=(0:Int)
 . refine pLL h 10 ?_
   refine al (cs:=Zbz) rfl ti274 rfl h (fun d ag ah ai O=>bsv (vs:=(Zj d)) (cs:=(Zj d)) rfl rfl ya1 ti270 rfl (by simp[Value.cells]) rfl rfl rfl O ?_)
   intro s P aj ak l
   have l:St _ [row (Zv s) 270 1 1 ((Zj d)),blk d 274 Zbz,blk ab 205 (Zy ab bv A),rowR pcf bv 270 1 A.ps,chk Slt.cells 274 64 A.ps A.sl] P:=l
   refine apdR (cf:=pcf) (ys:=A.ps) (zs:=[(some d)]) (LL:=fun g=>(Zd0 (row (.slice (some ⟨s,0,none⟩) 1 1) 270 1 1 ([(.pointer (some ⟨d,0,none⟩))])) d ab bv A g (A.ps++[(some d)]))) 3 rfl rfl rfl ya1 ti270 rfl d_ l rfl (yaq l (i:=0) rfl) (fun x hx=>zz.1 (show List.all _ _=true from rfl) x hx) (by have h7:=hA.psl;simp only[zk,zq];omega) (by have h7:=hA.psl;simp only[zk,zq];omega) f_ ?_
   intro g Q t am
   have t:St _ (Zd0 (row (.slice (some ⟨s,0,none⟩) 1 1) 270 1 1 ([(.pointer (some ⟨d,0,none⟩))])) d ab bv A g (A.ps++[(some d)])) Q:=t
   have m:=yj [1,2,3,4] t
   refine pLL m 2 ?_
   refine sto (v:=g) (vs:=[g]) (cs' := (Zy ab g A)) (L' := [blk d 274 Zbz,blk ab 205 (Zy ab g A),rowR pcf g 270 1 (A.ps++[(some d)]),chk Slt.cells 274 64 A.ps A.sl]) 1 rfl rfl rfl (cells_one (ya0 m (i:=2) rfl)) ti203 rfl (all1 (ya0 m (i:=2) rfl) all0) m rfl rfl rfl rfl ?_
   intro R D
   have S:=yj [0,3,1,2] D
   have U:St _ [chk Slt.cells 274 64 (A.ps++[(some d)]) (A.sl++List.replicate 64 (⟨0,0,0⟩:Slt)),blk ab 205 (Zy ab g A),rowR pcf g 270 1 (A.ps++[(some d)])] R:=St.chkSnoc S hA.sl s_ rfl
   obtain⟨hok,hin,hni,hl9,hil,c,hc⟩:=hA.fresh hf hlt (ps2:=A.ps++[(some d)]) (sl2:=A.sl++List.replicate 64 (⟨0,0,0⟩:Slt)) (b:=d) (.inl ⟨o_,rfl,rfl⟩)
   refine pLL D 7 ?_
   refine ar (a:=(A.begun:Int)) (b:=1) (c:=(A.begun:Int)+1) (e:=((A.begun+1:Nat):Int)) rfl rfl rfl rfl (by rw[w64 o_];omega) (sLL U 9 fun V W=>?_)
   have X:=yj [1,2,0] W
   have E:=yc [_,_,_] _ X
   refine clF (vl:=(Za2 ab A.begun)) rfl rfl ent152 (aat_ok ab g (A.n:Int) ((A.begun+1:Nat):Int) (A.used:Int) A.last (A.ps++[(some d)]) (A.sl++List.replicate 64 (⟨0,0,0⟩:Slt)) V (yd E (i:=0) rfl) A.begun o_ c hc) ?_
   rintro _ Y ⟨rfl,ht⟩
   have G:St _ (Zeb ab g A ((A.begun+1:Nat):Int) (A.ps++[(some d)]) (A.sl++List.replicate 64 (⟨0,0,0⟩:Slt))) Y:=(St.turn (R' := (allR (Zeb ab g A ((A.begun+1:Nat):Int) (A.ps++[(some d)]) (A.sl++List.replicate 64 (⟨0,0,0⟩:Slt))))) 0 E rfl ht rfl).unpack
   refine pLL G 7 ?_
   refine fa (o:=A.begun%64*3+0) (o' := A.begun%64*3+0) rfl rfl yae rfl ti3 (by simp only[zae];rfl) (stoC (cf:=Slt.cells) (xs:=A.sl++List.replicate 64 (⟨0,0,0⟩:Slt)) (k:=A.begun) (off:=0) (f:=(fun x=>{ x with st:=1 })) (u:=Z5) (vs:=[Z5]) (L' := [blk ab 205 (Zbd ab g A ((A.begun+1:Nat):Int)),rowR pcf g 270 1 (A.ps++[(some d)]),chk Slt.cells 274 64 (A.ps++[(some d)]) (updA (A.sl++List.replicate 64 (⟨0,0,0⟩:Slt)) A.begun (fun x=>{ x with st:=1 }))]) 2 rfl rfl rfl rfl ti3 rfl rfl G rfl f_ d_ (by first|exact hil|(simp only[updA_len];exact hil)) hc rfl rfl rfl (fun an H=>pLL H 6 ?_))
   refine fa (o:=A.begun%64*3+0) (o' := A.begun%64*3+1) rfl rfl yae rfl ti3 (by simp only[zae];rfl) (stoC (cf:=Slt.cells) (xs:=updA (A.sl++List.replicate 64 (⟨0,0,0⟩:Slt)) A.begun (fun x=>{ x with st:=1 })) (k:=A.begun) (off:=1) (f:=(fun x=>{ x with after := -1 })) (u:=Zw) (vs:=[Zw]) (L' := [blk ab 205 (Zbd ab g A ((A.begun+1:Nat):Int)),rowR pcf g 270 1 (A.ps++[(some d)]),chk Slt.cells 274 64 (A.ps++[(some d)]) (updA (updA (A.sl++List.replicate 64 (⟨0,0,0⟩:Slt)) A.begun (fun x=>{ x with st:=1 })) A.begun (fun x=>{ x with after := -1 }))]) 2 rfl rfl rfl rfl ti3 rfl rfl H rfl f_ d_ (by first|exact hil|(simp only[updA_len];exact hil)) hc rfl rfl rfl (fun ao p=>pLL p 6 ?_))
   refine fa (o:=A.begun%64*3+0) (o' := A.begun%64*3+2) rfl rfl yae rfl ti30 (by simp only[zae];rfl) (ld (a:=⟨c,A.begun%64*3+2,none⟩) (v:=(.int .u64 ((ndA (updA (updA (A.sl++List.replicate 64 (⟨0,0,0⟩:Slt)) A.begun (fun x=>{ x with st:=1 })) A.begun (fun x=>{ x with after := -1 })) A.begun).times))) rfl rfl yg rfl (ybt p (i:=2) rfl f_ d_ (by first|exact hil|(simp only[updA_len];exact hil)) hc rfl) (ar (a:=(ndA (updA (updA (A.sl++List.replicate 64 (⟨0,0,0⟩:Slt)) A.begun (fun x=>{ x with st:=1 })) A.begun (fun x=>{ x with after := -1 })) A.begun).times) (b:=1) (c:=((ndA (updA (updA (A.sl++List.replicate 64 (⟨0,0,0⟩:Slt)) A.begun (fun x=>{ x with st:=1 })) A.begun (fun x=>{ x with after := -1 })) A.begun).times)+1) (e:=(IntKind.u64.wrap (((ndA (updA (updA (A.sl++List.replicate 64 (⟨0,0,0⟩:Slt)) A.begun (fun x=>{ x with st:=1 })) A.begun (fun x=>{ x with after := -1 })) A.begun).times)+1))) rfl rfl rfl rfl rfl (pLL p 1 ?_)))
   refine fa (o:=A.begun%64*3+0) (o' := A.begun%64*3+2) rfl rfl yae rfl ti30 (by simp only[zae];rfl) (stoC (cf:=Slt.cells) (xs:=updA (updA (A.sl++List.replicate 64 (⟨0,0,0⟩:Slt)) A.begun (fun x=>{ x with st:=1 })) A.begun (fun x=>{ x with after := -1 })) (k:=A.begun) (off:=2) (f:=(fun x=>{ x with times:=(IntKind.u64.wrap (((ndA (updA (updA (A.sl++List.replicate 64 (⟨0,0,0⟩:Slt)) A.begun (fun x=>{ x with st:=1 })) A.begun (fun x=>{ x with after := -1 })) A.begun).times)+1)) })) (u:=(.int .u64 (IntKind.u64.wrap (((ndA (updA (updA (A.sl++List.replicate 64 (⟨0,0,0⟩:Slt)) A.begun (fun x=>{ x with st:=1 })) A.begun (fun x=>{ x with after := -1 })) A.begun).times)+1)))) (vs:=[(.int .u64 (IntKind.u64.wrap (((ndA (updA (updA (A.sl++List.replicate 64 (⟨0,0,0⟩:Slt)) A.begun (fun x=>{ x with st:=1 })) A.begun (fun x=>{ x with after := -1 })) A.begun).times)+1)))]) (L' := [blk ab 205 (Zbd ab g A ((A.begun+1:Nat):Int)),rowR pcf g 270 1 (A.ps++[(some d)]),chk Slt.cells 274 64 (A.ps++[(some d)]) (updA (updA (updA (A.sl++List.replicate 64 (⟨0,0,0⟩:Slt)) A.begun (fun x=>{ x with st:=1 })) A.begun (fun x=>{ x with after := -1 })) A.begun (fun x=>{ x with times:=(IntKind.u64.wrap (((ndA (updA (updA (A.sl++List.replicate 64 (⟨0,0,0⟩:Slt)) A.begun (fun x=>{ x with st:=1 })) A.begun (fun x=>{ x with after := -1 })) A.begun).times)+1)) }))]) 2 rfl rfl rfl rfl ti30 rfl rfl p rfl f_ d_ (by first|exact hil|(simp only[updA_len];exact hil)) hc rfl rfl rfl (fun ap I=>pLL I 8 ?_))
   refine ar (a:=(A.used:Int)) (b:=1) (c:=(A.used:Int)+1) (e:=((A.used+1:Nat):Int)) rfl rfl rfl rfl (by rw[w64 o_];omega) (sLQ I 13 fun aq Z=>?_)
   refine ret2 (v:=(Za A.begun)) (v' := Zc) Tryz.results105 rfl rfl ?_
   have e9:updA (updA (updA (A.sl++List.replicate 64 (⟨0,0,0⟩:Slt)) A.begun (fun x=>{ x with st:=1 })) A.begun (fun x=>{ x with after := -1 })) A.begun (fun x=>{ x with times:=(IntKind.u64.wrap (((ndA (updA (updA (A.sl++List.replicate 64 (⟨0,0,0⟩:Slt)) A.begun (fun x=>{ x with st:=1 })) A.begun (fun x=>{ x with after := -1 })) A.begun).times)+1)) })=updA (A.sl++List.replicate 64 (⟨0,0,0⟩:Slt)) A.begun tk:=tk3 hil (by rw[nd_upd_same (by rw[updA_len];exact hil),nd_upd_same hil])
   have hs9:=Z
   rw[e9]at hs9
   exact⟨rfl,⟨A.n,A.begun+1,A.used+1,A.last,updA (A.sl++List.replicate 64 (⟨0,0,0⟩:Slt)) A.begun tk,[],A.ps++[(some d)]⟩,g,hok,⟨rfl,rfl,rfl⟩,hin,yv (R' := (Zdf ab g ((⟨A.n,A.begun+1,A.used+1,A.last,updA (A.sl++List.replicate 64 (⟨0,0,0⟩:Slt)) A.begun tk,[],A.ps++[(some d)]⟩:As).n:Int) ((⟨A.n,A.begun+1,A.used+1,A.last,updA (A.sl++List.replicate 64 (⟨0,0,0⟩:Slt)) A.begun tk,[],A.ps++[(some d)]⟩:As).begun:Int) ((⟨A.n,A.begun+1,A.used+1,A.last,updA (A.sl++List.replicate 64 (⟨0,0,0⟩:Slt)) A.begun tk,[],A.ps++[(some d)]⟩:As).used:Int) (⟨A.n,A.begun+1,A.used+1,A.last,updA (A.sl++List.replicate 64 (⟨0,0,0⟩:Slt)) A.begun tk,[],A.ps++[(some d)]⟩:As))) (yc [_,_,_] _ hs9) zh⟩
 . obtain⟨hok,hin,hni,hl9,hil,c,hc⟩:=hA.fresh hf hlt (ps2:=A.ps) (sl2:=A.sl) (b:=0) (.inr ⟨o_,rfl,rfl⟩)
   refine pLL h 11 ?_
   refine ar (a:=(A.begun:Int)) (b:=1) (c:=(A.begun:Int)+1) (e:=((A.begun+1:Nat):Int)) rfl rfl rfl rfl (by rw[w64 o_];omega) (sLL h 9 fun aa ac=>?_)
   have J:=yc [_,_,_] _ ac
   refine clF (vl:=(Za2 ab A.begun)) rfl rfl ent152 (aat_ok ab bv (A.n:Int) ((A.begun+1:Nat):Int) (A.used:Int) A.last A.ps A.sl aa (yd J (i:=0) rfl) A.begun o_ c hc) ?_
   rintro _ ad ⟨rfl,ht⟩
   have K:St _ (Zdg ab bv A ((A.begun+1:Nat):Int)) ad:=(St.turn (R' := (allR (Zdg ab bv A ((A.begun+1:Nat):Int)))) 0 J rfl ht rfl).unpack
   refine pLL K 7 ?_
   refine fa (o:=A.begun%64*3+0) (o' := A.begun%64*3+0) rfl rfl yae rfl ti3 (by simp only[zae];rfl) (stoC (cf:=Slt.cells) (xs:=A.sl) (k:=A.begun) (off:=0) (f:=(fun x=>{ x with st:=1 })) (u:=Z5) (vs:=[Z5]) (L' := [blk ab 205 (Zbd ab bv A ((A.begun+1:Nat):Int)),rowR pcf bv 270 1 A.ps,chk Slt.cells 274 64 A.ps (updA A.sl A.begun (fun x=>{ x with st:=1 }))]) 2 rfl rfl rfl rfl ti3 rfl rfl K rfl f_ d_ (by first|exact hil|(simp only[updA_len];exact hil)) hc rfl rfl rfl (fun au L=>pLL L 6 ?_))
   refine fa (o:=A.begun%64*3+0) (o' := A.begun%64*3+1) rfl rfl yae rfl ti3 (by simp only[zae];rfl) (stoC (cf:=Slt.cells) (xs:=updA A.sl A.begun (fun x=>{ x with st:=1 })) (k:=A.begun) (off:=1) (f:=(fun x=>{ x with after := -1 })) (u:=Zw) (vs:=[Zw]) (L' := [blk ab 205 (Zbd ab bv A ((A.begun+1:Nat):Int)),rowR pcf bv 270 1 A.ps,chk Slt.cells 274 64 A.ps (updA (updA A.sl A.begun (fun x=>{ x with st:=1 })) A.begun (fun x=>{ x with after := -1 }))]) 2 rfl rfl rfl rfl ti3 rfl rfl L rfl f_ d_ (by first|exact hil|(simp only[updA_len];exact hil)) hc rfl rfl rfl (fun av q=>pLL q 6 ?_))
   refine fa (o:=A.begun%64*3+0) (o' := A.begun%64*3+2) rfl rfl yae rfl ti30 (by simp only[zae];rfl) (ld (a:=⟨c,A.begun%64*3+2,none⟩) (v:=(.int .u64 ((ndA (updA (updA A.sl A.begun (fun x=>{ x with st:=1 })) A.begun (fun x=>{ x with after := -1 })) A.begun).times))) rfl rfl yg rfl (ybt q (i:=2) rfl f_ d_ (by first|exact hil|(simp only[updA_len];exact hil)) hc rfl) (ar (a:=(ndA (updA (updA A.sl A.begun (fun x=>{ x with st:=1 })) A.begun (fun x=>{ x with after := -1 })) A.begun).times) (b:=1) (c:=((ndA (updA (updA A.sl A.begun (fun x=>{ x with st:=1 })) A.begun (fun x=>{ x with after := -1 })) A.begun).times)+1) (e:=(IntKind.u64.wrap (((ndA (updA (updA A.sl A.begun (fun x=>{ x with st:=1 })) A.begun (fun x=>{ x with after := -1 })) A.begun).times)+1))) rfl rfl rfl rfl rfl (pLL q 1 ?_)))
   refine fa (o:=A.begun%64*3+0) (o' := A.begun%64*3+2) rfl rfl yae rfl ti30 (by simp only[zae];rfl) (stoC (cf:=Slt.cells) (xs:=updA (updA A.sl A.begun (fun x=>{ x with st:=1 })) A.begun (fun x=>{ x with after := -1 })) (k:=A.begun) (off:=2) (f:=(fun x=>{ x with times:=(IntKind.u64.wrap (((ndA (updA (updA A.sl A.begun (fun x=>{ x with st:=1 })) A.begun (fun x=>{ x with after := -1 })) A.begun).times)+1)) })) (u:=(.int .u64 (IntKind.u64.wrap (((ndA (updA (updA A.sl A.begun (fun x=>{ x with st:=1 })) A.begun (fun x=>{ x with after := -1 })) A.begun).times)+1)))) (vs:=[(.int .u64 (IntKind.u64.wrap (((ndA (updA (updA A.sl A.begun (fun x=>{ x with st:=1 })) A.begun (fun x=>{ x with after := -1 })) A.begun).times)+1)))]) (L' := [blk ab 205 (Zbd ab bv A ((A.begun+1:Nat):Int)),rowR pcf bv 270 1 A.ps,chk Slt.cells 274 64 A.ps (updA (updA (updA A.sl A.begun (fun x=>{ x with st:=1 })) A.begun (fun x=>{ x with after := -1 })) A.begun (fun x=>{ x with times:=(IntKind.u64.wrap (((ndA (updA (updA A.sl A.begun (fun x=>{ x with st:=1 })) A.begun (fun x=>{ x with after := -1 })) A.begun).times)+1)) }))]) 2 rfl rfl rfl rfl ti30 rfl rfl q rfl f_ d_ (by first|exact hil|(simp only[updA_len];exact hil)) hc rfl rfl rfl (fun aw M=>pLL M 8 ?_))
   refine ar (a:=(A.used:Int)) (b:=1) (c:=(A.used:Int)+1) (e:=((A.used+1:Nat):Int)) rfl rfl rfl rfl (by rw[w64 o_];omega) (sLQ M 13 fun ax ae=>?_)
   refine ret2 (v:=(Za A.begun)) (v' := Zc) Tryz.results105 rfl rfl ?_
   have e9:updA (updA (updA A.sl A.begun (fun x=>{ x with st:=1 })) A.begun (fun x=>{ x with after := -1 })) A.begun (fun x=>{ x with times:=(IntKind.u64.wrap (((ndA (updA (updA A.sl A.begun (fun x=>{ x with st:=1 })) A.begun (fun x=>{ x with after := -1 })) A.begun).times)+1)) })=updA A.sl A.begun tk:=tk3 hil (by rw[nd_upd_same (by rw[updA_len];exact hil),nd_upd_same hil])
   have hs9:=ae
   rw[e9]at hs9
   exact⟨rfl,⟨A.n,A.begun+1,A.used+1,A.last,updA A.sl A.begun tk,[],A.ps⟩,bv,hok,⟨rfl,rfl,rfl⟩,hin,yv (R' := (Zdf ab bv ((⟨A.n,A.begun+1,A.used+1,A.last,updA A.sl A.begun tk,[],A.ps⟩:As).n:Int) ((⟨A.n,A.begun+1,A.used+1,A.last,updA A.sl A.begun tk,[],A.ps⟩:As).begun:Int) ((⟨A.n,A.begun+1,A.used+1,A.last,updA A.sl A.begun tk,[],A.ps⟩:As).used:Int) (⟨A.n,A.begun+1,A.used+1,A.last,updA A.sl A.begun tk,[],A.ps⟩:As))) (yc [_,_,_] _ hs9) zh⟩
theorem afree_ok(ab:Nat)(bv:Value)(A:As)(w:World)(hO:Own (Zq ab bv A) w)(hA:A.ok)(i:Nat)(hi:A.inU i) :
 CR ya 98 (Zn ab i) w (fun r w' => r = .int .i64 0/\∃ A2,As.ok A2/\(A2.n=A.n/\A2.begun=A.begun/\A2.used=A.used-1)/\(∀ j,A2.inU j↔A.inU j/\j≠i)/\Turn (Zq ab bv A) w w' (Zq ab bv A2)):=by
 have hAn:=hA.n
 have hAle:=hA.le
 have hAu:=hA.used
 have hib:=hi.1
 have hif:=hi.2
 have hil:=(hA.room hib).1
 obtain⟨b,hb⟩:=hA.at hib
 have hu0:=(hA.free hi rfl).2.2
 refine en Tryz.func98 Tryz.ntmps98 ?_
 have hst0:=(yz hO).unpack
 have c:=yc [_,_,_] _ hst0
 refine pPL hst0 9 ?_
 refine cl ent114 (avalid_ok ab bv (A.n:Int) (A.begun:Int) (A.used:Int) A.last A.ps A.sl w (yd c (i:=0) rfl)) ?_
 rintro _ m ⟨rfl,ht⟩
 have a:=(yp c ht)
 refine pLL a 10 ?_
 refine cmp rfl rfl rfl (c_nlt o_) (pLL a 6 ?_)
 refine cmp rfl rfl rfl (c_nge o_) ?_
 have d:=yc [_,_,_] _ a
 refine pLL a 11 ?_
 refine cl ent115 (astate_ok ab bv A m (yd d (i:=0) rfl) hA i o_) ?_
 rintro _ o ⟨rfl,ht⟩
 have g:=(yp d ht)
 refine cmp rfl rfl rfl (c_nne (by rw[if_pos hib,hA.st i hib,if_neg hif])) ?_
 have h:=yc [_,_,_] _ g
 refine pLL g 9 ?_
 refine cl ent152 (aat_ok ab bv (A.n:Int) (A.begun:Int) (A.used:Int) A.last A.ps A.sl o (yd h (i:=0) rfl) i o_ b hb) ?_
 rintro _ t ⟨rfl,ht⟩
 have k:=(yp h ht)
 refine pLL k 7 ?_
 refine fa (o' := i%64*3+0) rfl rfl yae rfl ti3 (by simp only[zae];rfl) (stoC (f:=(fun x=>{ x with st:=2 })) (L' := [blk ab 205 (Zy ab bv A),rowR pcf bv 270 1 A.ps,chk Slt.cells 274 64 A.ps (updA A.sl i (fun x=>{ x with st:=2 }))]) 2 rfl rfl rfl rfl ti3 rfl rfl k rfl f_ d_ (by first|exact hil|(simp only[updA_len];exact hil)) hb rfl rfl rfl (fun u l=>pLL l 10 ?_))
 refine fa (o' := i%64*3+1) rfl rfl yae rfl ti3 (by simp only[zae];rfl) (stoC (f:=(fun x=>{ x with after:=A.last })) (L' := [blk ab 205 (Zy ab bv A),rowR pcf bv 270 1 A.ps,chk Slt.cells 274 64 A.ps (updA (updA A.sl i (fun x=>{ x with st:=2 })) i (fun x=>{ x with after:=A.last }))]) 2 rfl rfl rfl rfl ti3 rfl rfl l rfl f_ d_ (by first|exact hil|(simp only[updA_len];exact hil)) hb rfl rfl rfl (fun y p=>sLL p 17 fun z q=>?_))
 refine ar (e:=((A.used-1:Nat):Int)) rfl rfl rfl rfl (by rw[w64 o_];omega) (sLQ q 11 fun B s=>?_)
 refine ret1 (v:=Zc) Tryz.results98 rfl ?_
 exact⟨rfl,⟨A.n,A.begun,A.used-1,(i:Int),updA (updA A.sl i (fun x=>{ x with st:=2 })) i (fun x=>{ x with after:=A.last }),i :: A.fl,A.ps⟩,(hA.free hi rfl).1,⟨rfl,rfl,rfl⟩,(hA.free hi rfl).2.1,yq (yc [_,_,_] _ s)⟩
theorem alist_ok(ab:Nat)(bv:Value)(A:As)(w:World)(hO:Own (Zq ab bv A) w)(hA:A.ok) :
 CR ya 58 (Zk ab) w (fun r w' => ∃ lv,r=lv/\Turn (Zq ab bv A) w w' (allR (Zej ab bv A lv (natsI (A.list A.begun))))):=by
 have hAn:=hA.n
 have hAle:=hA.le
 have hAu:=hA.used
 refine en Tryz.func58 Tryz.ntmps58 ?_
 have hst0:=(yz hO).unpack
 have e:=yc [_,_,_] _ hst0
 refine pPL hst0 9 ?_
 refine cl ent114 (avalid_ok ab bv (A.n:Int) (A.begun:Int) (A.used:Int) A.last A.ps A.sl w (yd e (i:=0) rfl)) ?_
 rintro _ x ⟨rfl,ht⟩
 have f:=(yp e ht)
 refine pLL f 12 ?_
 refine mks (m:=0) (c:=A.used) rfl (eqI o_) rfl yh ti3 rfl o_ o_ o_ f ?_
 intro o y z B p
 have g:=St.toRow (i:=0) (m:=0) (c:=A.used) (sz:=1) p rfl s_ o_ (by simp only[maxLen];omega)
 have q:=yj [1,2,3,0] g
 refine pLP g 14 ?_
 refine lp (α:=Nat×Value) (fun(k,lv)=>[(0,(Zb ab)),(3,lv),(16,(Za A.begun)),(17,(Za k))]) (fun(k,lv) w1=>St [(w,(Zq ab bv A).foot)] (Zej ab bv A lv (natsI (A.list k))) w1/\k<=A.begun) (fun(k,lv)=>A.begun-k) (0,(.slice (some ⟨o,0,none⟩) 0 A.used)) ⟨rfl,rfl,rfl,eqI (by first|rfl|omega),trivial⟩ (⟨q,o_⟩) ?_
 rintro⟨k,lv⟩ C s ⟨hst2,hk2⟩
 refine pPL hst2 2 ?_
 by_cases D:((k:Int):Int)<((A.begun:Int):Int)
 . have hkb:k<A.begun:=by omega
   have h:=yc [_,_,_] _ hst2
   refine pLL hst2 19 ?_
   refine cl ent115 (astate_ok ab bv A s (yd h (i:=0) rfl) hA k o_) ?_
   rintro _ E ⟨rfl,ht⟩
   have a:=(yp h ht)
   by_cases b:((if k<A.begun then(ndA A.sl k).st else 0):Int)=(1:Int)
   . refine pLL a 1 ?_
     rw[if_pos hkb]at b
     refine pLL a 6 ?_
     refine bsv (vs:=(Zd k)) (cs:=(Zd k)) rfl rfl yh ti3 rfl (by simp[Value.cells]) rfl rfl rfl a (fun t G H I j=>apdI (k:=.i64) (ys:=natsI (A.list k)) (zs:=[(k:Int)]) (LL:=fun d=>[rowI .i64 (Zv t) 3 ([(k:Int)]),blk ab 205 (Zy ab bv A),rowR pcf bv 270 1 A.ps,chk Slt.cells 274 64 A.ps A.sl,rowI .i64 d 3 ((natsI (A.list k))++([(k:Int)]))]) 4 rfl rfl rfl yh ti3 rfl j rfl (yaq j (i:=0) rfl) (by have h7:=A.list_len k;simp only[natsI,zu,zk,zq];omega) (by have h7:=A.list_len k;simp only[natsI,zu,zk,zq];omega) f_ ?_)
     intro d J u K
     have l:=yj [1,2,3,4] u
     refine pLQ l 8 ?_
     refine tN (?_)
     exact again ((k+1),d) ⟨rfl,rfl,rfl,eqI (by first|rfl|omega),trivial⟩ (⟨by rw[As.list_succ,if_pos b];rw[natsI,za3];exact l,o_⟩) (by show (A.begun-(k+1):Nat)<A.begun-k;omega)
   . refine pLL a 1 ?_
     rw[if_pos hkb]at b
     refine pLQ a 10 ?_
     refine tN (?_)
     exact again ((k+1),lv) ⟨rfl,rfl,rfl,eqI (by first|rfl|omega),trivial⟩ (⟨by rw[As.list_succ,if_neg b];exact a,o_⟩) (by show (A.begun-(k+1):Nat)<A.begun-k;omega)
 . refine pLQ hst2 17 ?_
   refine ret1 (v:=lv) Tryz.results58 rfl ?_
   obtain rfl:k=A.begun:=by omega
   exact⟨lv,rfl,yq (yc [_,_,_,_] _ hst2)⟩
theorem anew_ok(n:Nat)(w:World)(hn:n<=65536) :
 CR ya 80 (Zai n) w (fun r w' => ∃ ab,r = .tuple (Zae ab)/\Turn (allR []) w w' (allR [blk ab 205 [(Zb ab),Zl,(Za ((As.new n).n:Int)),(Za ((As.new n).begun:Int)),(Za ((As.new n).used:Int)),(Za ((As.new n).last))],rowR pcf Zl 270 1 ((As.new n).ps),chk Slt.cells 274 64 ((As.new n).ps) ((As.new n).sl)])):=by
 refine en Tryz.func80 Tryz.ntmps80 ?_
 have hst0:=yaf w
 refine pPL hst0 10 ?_
 refine cmp rfl rfl rfl (c_nlt o_) (pLL hst0 2 ?_)
 refine cmp rfl rfl rfl (c_ngt o_) (pLL hst0 9 ?_)
 refine bld (pvs:=[(2,(Za n)),(5,Zw)]) (v:=.agg (Zc9 n)) rfl rfl (buildS [(2,(Zd n)),(5,[Zw])] ti205 pl205 rfl ⟨rfl,rfl,rfl,rfl,trivial⟩ rfl) (bx (v:=(.agg (Zc9 n))) (cs:=[Z6,Zl,(Za n),Zc,Zc,Zw]) rfl rfl rfl hst0 (fun a e f g b=>sLQ b 20 fun c d=>?_))
 refine ret2 (v:=(Zb a)) (v' := Zc) Tryz.results80 rfl rfl ?_
 have hs7:=ybd d 270 1
 have hs8:St _ (Zdp a n) c:=St.chkNil hs7 0
 have hs9:=ya7 hs8 (List.reverse_perm (Zdp a n)).symm
 exact⟨a,rfl,St.eM (yc [_,_,_] [] hs9)⟩
end
section
open Go Go.Sx
theorem acopy_ok(ab:Nat)(bv:Value)(A:As)(w:World)(hO:Own (Zq ab bv A) w)(hA:A.ok) :
 CR ya 91 (Zk ab) w (fun r w' => ∃ ab2 bv2 qs,r = .pointer (some ⟨ab2,0,none⟩)/\As.ok { A with ps:=qs }/\Turn (Zq ab bv A) w w' (Zeg ab bv A ab2 bv2 qs)):=by
 have hAn:=hA.n
 have hAle:=hA.le
 have hAu:=hA.used
 have hpl:=hA.psl
 refine enter (vs:=(Zj ab)) Tryz.func91 rfl Tryz.ntmps91 rfl ?_
 have hst0:=(yz hO).unpack
 have j:=yc [_,_,_] _ hst0
 refine pPL hst0 9 ?_
 refine clF (vl:=(Zj ab)) rfl rfl ent114 (avalid_ok ab bv (A.n:Int) (A.begun:Int) (A.used:Int) A.last A.ps A.sl w (yd j (i:=0) rfl)) ?_
 rintro _ L ⟨rfl,ht⟩
 have l:=(St.turn (R' := (Zq ab bv A)) 0 j rfl ht rfl).unpack
 refine pLP l 7 ?_
 refine dr1 l 17 ?_ (hA:=by refine' dar 16 ?k0;case k0=>refine' dax (fun wq hM=>rv (bld_r (pvs:=[(2,(Za A.n)),(3,(Za A.begun)),(4,(Za A.used)),(5,(Za A.last))]) (v:=.agg (Zd2 A)) rfl (buildS [(2,(Zd A.n)),(3,(Zd A.begun)),(4,(Zd A.used)),(5,(Zd A.last))] ti205 pl205 rfl ⟨rfl,rfl,rfl,rfl,rfl,rfl,rfl,rfl,trivial⟩ rfl))) ?k1;case k1=>exact run2)
 intro wq hM
 refine m_bx (v:=(.agg (Zd2 A))) (cs:=[Z6,Zl,(Za A.n),(Za A.begun),(Za A.used),(Za A.last)]) rfl rfl rfl hM (fun c _ h=>(aft h (fun M y=>?_)))
 refine sQL tt none y 13 fun p z=>?_
 have B:St _ [rowR pcf Zl 270 1 ([]),blk c 205 (Zdh c A),blk ab 205 (Zy ab bv A),rowR pcf bv 270 1 A.ps,chk Slt.cells 274 64 A.ps A.sl] p:=ybd z 270 1
 have f:St _ [chk Slt.cells 274 64 ([]) (A.sl.take (64*0)),rowR pcf Zl 270 1 ([]),blk c 205 (Zdh c A),blk ab 205 (Zy ab bv A),rowR pcf bv 270 1 A.ps,chk Slt.cells 274 64 A.ps A.sl] p:=St.chkNil B 0
 refine pLL f 4 ?_
 refine lenR (m:=A.ps.length) 4 rfl rfl ya1 f rfl ?_
 have C:=yj [3,4,5,2,1,0] f
 refine pLP f 4 ?_
 refine lp (α:=Nat×Value×List (Option Nat)) (fun(k,v2,qs)=>[(3,(Zb c)),(35,bv),(36,(Za A.ps.length)),(37,(Za k))]) (fun(k,v2,qs) w1=>St [(w,(Zq ab bv A).foot)] [blk ab 205 (Zy ab bv A),rowR pcf bv 270 1 A.ps,chk Slt.cells 274 64 A.ps A.sl,blk c 205 (Zy c v2 A),rowR pcf v2 270 1 qs,chk Slt.cells 274 64 qs (A.sl.take (64*k))] w1/\k<=A.ps.length/\CpA qs k) (fun(k,v2,qs)=>A.ps.length-k) (0,Zl,[]) ⟨rfl,rfl,rfl,eqI (by first|rfl|omega),trivial⟩ (⟨C,o_,CpA.start⟩) ?_
 rintro⟨k,v2,qs⟩ N O ⟨hst3,hk3,hC⟩
 have hql:=hC.len
 refine pPL hst3 2 ?_
 by_cases P:((k:Int):Int)<((A.ps.length:Int):Int)
 . have hk:k<A.ps.length:=by omega
   obtain⟨bq,hbq⟩:=hA.ps k hk
   refine pLL hst3 11 ?_
   refine ixR (cf:=pcf) (k:=k) (i:=(k:Int)) rfl rfl rfl ya1 ti270 (yf hst3 (i:=1) rfl f_) o_ o_ (nd_get om) (ldR (cf:=pcf) (u:=(.pointer ((ndA A.ps k).map fun b=>⟨b,0,none⟩))) rfl rfl Tryz.underlying270 rfl (yf hst3 (i:=1) rfl f_) (nd_get om) rfl (pLL hst3 6 ?_))
   refine nilc (a:=⟨bq,0,none⟩) rfl (ptr_some (nd_of hbq)) ?_
   have hcl:(((A.sl.drop (64*k)).take 64).flatMap Slt.cells).length=192:=chunk_len (cf:=Slt.cells) (sz:=3) f_ hA.sl hk
   refine ldA (b:=bq) (o:=0) (cs:=(((A.sl.drop (64*k)).take 64).flatMap Slt.cells)) rfl rfl Tryz.underlying274 rfl ti274 hcl (St.chkBlock hst3 (i:=2) rfl ((nd_get hk).trans (congrArg some (nd_of hbq)))) (al (cs:=Zbz) rfl ti274 rfl hst3 (fun d Q R S D=>stoL (v:=.agg (((A.sl.drop (64*k)).take 64).flatMap Slt.cells).toArray) (vs:=(((A.sl.drop (64*k)).take 64).flatMap Slt.cells)) (L' := [blk d 274 (((A.sl.drop (64*k)).take 64).flatMap Slt.cells),blk ab 205 (Zy ab bv A),rowR pcf bv 270 1 A.ps,chk Slt.cells 274 64 A.ps A.sl,blk c 205 (Zy c v2 A),rowR pcf v2 270 1 qs,chk Slt.cells 274 64 qs (A.sl.take (64*k))]) 0 rfl rfl rfl rfl ti274 hcl (zz.2 (flat_one f_ _)) D rfl (by rw[hcl];decide) (setAt_all (by rw[hcl];rfl)) rfl (fun U q V=>pLL q 8 ?_)))
   refine bsv (vs:=(Zj d)) (cs:=(Zj d)) rfl rfl ya1 ti270 rfl (by simp[Value.cells]) rfl rfl rfl q (fun E W X Y s=>apdR (cf:=pcf) (ys:=qs) (zs:=[(some d)]) (LL:=fun e=>[row (Zv E) 270 1 1 ((Zj d)),blk d 274 (((A.sl.drop (64*k)).take 64).flatMap Slt.cells),blk ab 205 (Zy ab bv A),rowR pcf bv 270 1 A.ps,chk Slt.cells 274 64 A.ps A.sl,blk c 205 (Zy c v2 A),rowR pcf e 270 1 (qs++[(some d)]),chk Slt.cells 274 64 qs (A.sl.take (64*k))]) 6 rfl rfl rfl ya1 ti270 rfl d_ s rfl (yaq s (i:=0) rfl) (fun x hx=>zz.1 (show List.all _ _=true from rfl) x hx) (by have h7:=hA.psl;simp only[zk,zq];omega) (by have h7:=hA.psl;simp only[zk,zq];omega) f_ ?_)
   intro e Z G aa
   have g:=yj [1,2,3,4,5,6,7] G
   refine pLL g 2 ?_
   refine sto (v:=e) (vs:=[e]) (L' := [blk d 274 (((A.sl.drop (64*k)).take 64).flatMap Slt.cells),blk ab 205 (Zy ab bv A),rowR pcf bv 270 1 A.ps,chk Slt.cells 274 64 A.ps A.sl,blk c 205 (Zy c e A),rowR pcf e 270 1 (qs++[(some d)]),chk Slt.cells 274 64 qs (A.sl.take (64*k))]) 4 rfl rfl rfl (cells_one (ya0 g (i:=5) rfl)) ti203 rfl (all1 (ya0 g (i:=5) rfl) all0) g rfl rfl rfl rfl (fun H t=>pLQ t 7 ?_)
   refine tN (?_)
   have I:=yj [0,6,1,2,3,4,5] t
   have hck:=chunkN hA.sl hk
   have J:St [(w,(Zq ab bv A).foot)] [chk Slt.cells 274 64 (qs++[(some d)]) (A.sl.take (64*(k+1))),blk ab 205 (Zy ab bv A),rowR pcf bv 270 1 A.ps,chk Slt.cells 274 64 A.ps A.sl,blk c 205 (Zy c e A),rowR pcf e 270 1 (qs++[(some d)])] H:=by rw[<-take_chunk];exact St.chkSnoc I (by rw[hck.2,hql]) hck.1 rfl
   have K:=yj [1,2,3,4,5,0] J
   exact again ((k+1),e,qs++[(some d)]) ⟨rfl,rfl,rfl,eqI (by first|rfl|omega),trivial⟩ (⟨K,o_,hC.next⟩) (by show (A.ps.length-(k+1):Nat)<A.ps.length-k;omega)
 . refine pLQ hst3 17 ?_
   refine ret1 (v:=(Zb c)) Tryz.results91 rfl ?_
   have hke:k=A.ps.length:=by omega
   have hs9:=hst3
   rw[zaq (show A.sl.length<=64*k by rw[hke];exact Nat.le_of_eq hA.sl)]at hs9
   exact⟨c,v2,qs,rfl,hA.copy o_ hC.all,yv (R' := (Zeg ab bv A c v2 qs)) (yc [_,_,_,_,_,_] _ hs9) zh⟩
end
section
open Go Go.Sx
def AW.R(ab:Nat)(v:AW):Res:=facR v.A.ok (Zq ab v.bv v.A)
abbrev Zau(a:Sto):=(AW.R a.aab a.aw:Res)
abbrev Zed(a:Nat) b (c:Nat) d:=(allR [AW.R a b,AW.R c d]:Res)
abbrev Zc5(a b:Nat) c (d:TW) e f:=([blk a 258 [.pointer (some ⟨a,0,none⟩),.pointer (some ⟨b,0,none⟩),c,d.cv],rowR ucf c 30 1 e,rowR ncf d.cv 3 1 d.cs,AW.R b f]:List Res)
abbrev Zcz(a b:Nat)(c:TW) d e f:=([blk a 258 (Zaf a b c),rowR ucf c.iv 30 1 d,rowR ncf c.cv 3 1 e,AW.R b f]:List Res)
theorem wlen_ok(ab:Nat)(v:AW)(w:World)(hO:Own (AW.R ab v) w) :
 CR ya 86 (Zk ab) w (fun r w' => r = .int .i64 (v.A.used:Int)/\Turn (AW.R ab v) w w' (AW.R ab v)):=by
 exact CR.mono (alen_ok ab v.bv v.A w hO.un hO.fact) fun r w' ⟨h1,ht⟩=>⟨h1,ht.wit hO.fact⟩
theorem walloc_ok(ab:Nat)(v:AW)(w:World)(hO:Own (AW.R ab v) w)(hu:v.A.used<v.A.n) :
 CR ya 105 (Zk ab) w (fun r w' => ∃ i v2,r = .tuple (Za8 ((i:Nat):Int))/\AW.put v.A v2.A i/\Turn (AW.R ab v) w w' (AW.R ab v2)):=by
 have hA:=hO.fact
 rcases hA.full hu with ⟨i,l,hf⟩|⟨hf,hlt⟩
 . have hp:=hA.pop hf
   exact CR.mono (aalloc1_ok ab v.bv v.A w hO.un hA i l hf) fun r w' ⟨h1,A2,bv2,hok,⟨e1,e2,e3⟩,hin,ht⟩=>⟨i,⟨bv2,A2⟩,h1,⟨e1,e3,hin,hp.2.2.1,.inl ⟨hp.2.2.2.1,e2⟩⟩,ht.wit hok⟩
 . exact CR.mono (aalloc2_ok ab v.bv v.A w hO.un hA hf hlt) fun r w' ⟨h1,A2,bv2,hok,⟨e1,e2,e3⟩,hin,ht⟩=>⟨v.A.begun,⟨bv2,A2⟩,h1,⟨e1,e3,hin,fun h=>Nat.lt_irrefl _ h.1,.inr ⟨rfl,e2⟩⟩,ht.wit hok⟩
theorem wfree_ok(ab:Nat)(v:AW)(w:World)(hO:Own (AW.R ab v) w)(i:Nat)(hi:v.A.inU i) :
 CR ya 98 (Zn ab i) w (fun r w' => ∃ v2,r = .int .i64 0/\AW.del v.A v2.A i/\Turn (AW.R ab v) w w' (AW.R ab v2)):=by
 exact CR.mono (afree_ok ab v.bv v.A w hO.un hO.fact i hi) fun r w' ⟨h1,A2,hok,⟨e1,e2,e3⟩,hin,ht⟩=>⟨⟨v.bv,A2⟩,h1,⟨e1,e2,e3,(hO.fact.free hi rfl).2.2,hin⟩,ht.wit hok⟩
theorem wnew_ok(n:Nat)(w:World)(hn:n<=65536) :
 CR ya 80 (Zai n) w (fun r w' => ∃ ab v,r = .tuple (Zae ab)/\v.A=As.new n/\Turn (allR []) w w' (AW.R ab v)):=by
 exact CR.mono (anew_ok n w hn) fun r w' ⟨ab,h1,ht⟩=>⟨ab,⟨.slice none 0 0,As.new n⟩,h1,rfl,ht.witr (As.new_ok hn)⟩
theorem wcopy_ok(ab:Nat)(v:AW)(w:World)(hO:Own (AW.R ab v) w) :
 CR ya 91 (Zk ab) w (fun r w' => ∃ ab2 v2,r = .pointer (some ⟨ab2,0,none⟩)/\(∃ qs,v2.A={ v.A with ps:=qs })/\Turn (AW.R ab v) w w' (Zed ab v ab2 v2)):=by
 refine CR.mono (acopy_ok ab v.bv v.A w hO.un hO.fact) fun r w' ⟨ab2,bv2,qs,h1,hok,ht⟩=>⟨ab2,⟨bv2,{ v.A with ps:=qs }⟩,h1,⟨qs,rfl⟩,(Turn.flat2 (A:=(Zbi ab v.bv v.A)) (B:=[blk ab2 205 (Zy ab2 bv2 v.A),rowR pcf bv2 270 1 qs,chk Slt.cells 274 64 qs v.A.sl]) ht).unL.mapR rfl (fun h=>?_)⟩
 intro Q hQ
 simp only[ze,zba,or_false]at hQ
 rcases hQ with rfl|rfl
 . exact⟨hO.fact,h _ s_⟩
 . exact⟨hok,h _ s_⟩
end
section
open Go Go.Sx
def TW.R(tb ab:Nat)(t:TW):Res:=facR t.ok (allR [blk tb 258 (Zaf tb ab t),rowR ucf t.iv 30 1 t.ids,rowR ncf t.cv 3 1 t.cs,(AW.R ab t.w)])
abbrev Zal(a:Sto) b:=(TW.R a.tb a.ab b:Res)
abbrev Z9(a:Sto):=(TW.R a.tb a.ab a.t:Res)
abbrev Zet a (b:Nat) (c:Lv) (d:Nat) (e f:Int) (g:Sto) h i j (k:Nat):=([famR 3 a,blk b 34 (Zr c),blk d 130 (Zaa e f g h),rowR Lv.cells g.lv 34 7 i,mapV g.mb .u64 p_ a,AW.R g.aab j,TW.R g.tb g.ab g.t,blk k 34 Zt]:List Res)
abbrev Zeu a b c (d:Nat) (e:Lv) (f:Nat) (g h:Int) (i:Sto) j k l m (n:Nat):=([rowI .i64 a 3 b,famR 3 c,blk d 34 (Zr e),blk f 130 (Zaa g h i j),rowR Lv.cells i.lv 34 7 k,mapV i.mb .u64 p_ l,AW.R i.aab m,TW.R i.tb i.ab i.t,blk n 34 Zt]:List Res)
abbrev Zen a (b:Nat) (c:Lv) (d:Nat) (e f:Int) (g:Sto) h i j k (l:Nat):=([famR 3 a,blk b 34 (Zr c),blk d 130 (Zaa e f g h),rowR Lv.cells g.lv 34 7 i,mapV g.mb .u64 p_ a,AW.R g.aab j,TW.R g.tb g.ab k,blk l 34 (Zr c)]:List Res)
abbrev Zem a b c d (e:Nat) (f g:Int) (h:Sto) i j k (l m n:Nat) o p q r s t (u:Nat) v:=([rowR ncf a 3 1 b,rowR ncf c 3 1 b,famR 3 d,blk e 130 (Zaa f g h i),rowR Lv.cells h.lv 34 7 h.live,j,famR 3 k,AW.R h.aab h.aw,TW.R h.tb h.ab h.t,blk l 130 (Zb3 f g h.last m n o p),rowR Lv.cells o 34 7 h.live,mapV q .u64 p_ r,famR 3 s,AW.R m t,TW.R n u v]:List Res)
abbrev Zew a (b:Nat) (c d:Int) (e:Lv) (f:Nat) (g h:Int) (i:Sto) j k l m n (o p:Nat):=([famR 3 a,blk b 34 (Z8 c d e),blk f 130 (Zb4 g h d i j k),rowR Lv.cells j 34 7 l,mapV i.mb .u64 p_ a,AW.R i.aab m,TW.R i.tb i.ab n,blk o 34 Zt,blk p 32 (Zo e)]:List Res)
abbrev Zer a (b:Nat) (c d:Int) (e:Lv) (f:Nat) (g h:Int) (i:Sto) j k l m (n o:Nat):=([famR 3 a,blk b 34 (Z8 c d e),blk f 130 (Zax g h d i j),rowR Lv.cells i.lv 34 7 k,mapV i.mb .u64 p_ a,AW.R i.aab l,TW.R i.tb i.ab m,blk n 34 Zt,blk o 32 (Zo e)]:List Res)
abbrev Zeo(a:Nat)(b c:Int)(d:Lv)(e:Nat)(f g:Int)(h:Sto) i j k l (m n:Nat):=([blk a 34 (Z8 b c d),blk e 130 (Zb4 f g c h i j),rowR Lv.cells i 34 7 k,mapV h.mb .u64 p_ h.im,famR 3 h.im,AW.R h.aab l,TW.R h.tb h.ab h.t,blk m 34 Zt,blk n 32 (Zo d)]:List Res)
abbrev Zeq(a:Nat)(b c:Int)(d:Lv)(e:Nat)(f g:Int)(h:Sto) i j (k l:Nat):=([blk a 34 (Z8 b c d),blk e 130 (Zax f g c h i),rowR Lv.cells h.lv 34 7 h.live,mapV h.mb .u64 p_ h.im,famR 3 h.im,AW.R h.aab j,TW.R h.tb h.ab h.t,blk k 34 Zt,blk l 32 (Zo d)]:List Res)
abbrev Zel(a:Nat) b c d e (f:Nat) (g h:Int) (i:Lv) (j:Nat) (k l:Int) (m:Sto) n o p q r s (t u:Nat):=([rowI .i64 (Zv a) 3 b,rowI .i64 c 3 d,famR 3 e,blk f 34 (Z8 g h i),blk j 130 (Zb4 k l h m n o),rowR Lv.cells n 34 7 p,mapV m.mb .u64 p_ q,AW.R m.aab r,TW.R m.tb m.ab s,blk t 34 Zt,blk u 32 (Zo i)]:List Res)
abbrev Zev(a:Nat) b c d e (f:Nat) (g h:Int) (i:Lv) (j:Nat) (k l:Int) (m:Sto) n o p q r (s t:Nat):=([rowI .i64 (Zv a) 3 b,rowI .i64 c 3 d,famR 3 e,blk f 34 (Z8 g h i),blk j 130 (Zb4 k l h m n o),rowR Lv.cells n 34 7 p,mapV m.mb .u64 p_ m.im,AW.R m.aab q,TW.R m.tb m.ab r,blk s 34 Zt,blk t 32 (Zo i)]:List Res)
abbrev Zek(a:Nat) b c d e (f:Nat) (g h:Int) (i:Lv) (j:Nat) (k l:Int) (m:Sto) n o p q r (s t:Nat):=([rowI .i64 (Zv a) 3 b,rowI .i64 c 3 d,famR 3 e,blk f 34 (Z8 g h i),blk j 130 (Zax k l h m n),rowR Lv.cells m.lv 34 7 o,mapV m.mb .u64 p_ p,AW.R m.aab q,TW.R m.tb m.ab r,blk s 34 Zt,blk t 32 (Zo i)]:List Res)
abbrev Zep(a:Nat) b c d e (f:Nat) (g h:Int) (i:Lv) (j:Nat) (k l:Int) (m:Sto) n o p q (r s:Nat):=([rowI .i64 (Zv a) 3 b,rowI .i64 c 3 d,famR 3 e,blk f 34 (Z8 g h i),blk j 130 (Zax k l h m n),rowR Lv.cells m.lv 34 7 o,mapV m.mb .u64 p_ m.im,AW.R m.aab p,TW.R m.tb m.ab q,blk r 34 Zt,blk s 32 (Zo i)]:List Res)
theorem thome_ok(tb ab:Nat)(t:TW)(w:World)(hO:Own (Z2 tb ab t) w)(hT:TW.Sz t.n)(id:Int) :
 CR ya 203 (Zad tb id) w (fun r w' => r = .int .i64 ((homeN t.n id:Nat):Int)/\Turn (Z2 tb ab t) w w' (Z2 tb ab t)):=by
 have hnl:t.cs.length=t.n:=rfl
 have h2t:=hT.two
 have htop:=hT.top
 have hpos:0<t.n:=by omega
 have hlt:=homeN_lt (id:=id) hpos
 refine en Tryz.func203 Tryz.ntmps203 ?_
 have hst0:=Own.of hO
 refine pPL hst0 9 ?_
 refine shr (a:=id) (b:=33) (e:=(id.fdiv (2 ^ 33))) rfl rfl rfl d_ rfl (bi (a:=id) (b:=(id.fdiv (2 ^ 33))) (e:=(xs33 id)) rfl rfl rfl (xs33_eq _) (pLL hst0 6 ?_))
 refine ar (e:=(muW 18397679294719823053 (xs33 id))) rfl rfl rfl rfl rfl (pLL hst0 7 ?_)
 refine shr (a:=(muW 18397679294719823053 (xs33 id))) (b:=33) (e:=((muW 18397679294719823053 (xs33 id)).fdiv (2 ^ 33))) rfl rfl rfl d_ rfl (bi (a:=(muW 18397679294719823053 (xs33 id))) (b:=((muW 18397679294719823053 (xs33 id)).fdiv (2 ^ 33))) (e:=(xs33 (muW 18397679294719823053 (xs33 id)))) rfl rfl rfl (xs33_eq _) (pLL hst0 6 ?_))
 refine ar (e:=(muW 14181476777654086739 (xs33 (muW 18397679294719823053 (xs33 id))))) rfl rfl rfl rfl rfl (pLL hst0 7 ?_)
 refine shr (a:=(muW 14181476777654086739 (xs33 (muW 18397679294719823053 (xs33 id))))) (b:=33) (e:=((muW 14181476777654086739 (xs33 (muW 18397679294719823053 (xs33 id)))).fdiv (2 ^ 33))) rfl rfl rfl d_ rfl (bi (a:=(muW 14181476777654086739 (xs33 (muW 18397679294719823053 (xs33 id))))) (b:=((muW 14181476777654086739 (xs33 (muW 18397679294719823053 (xs33 id)))).fdiv (2 ^ 33))) (e:=(xs33 (muW 14181476777654086739 (xs33 (muW 18397679294719823053 (xs33 id)))))) rfl rfl rfl (xs33_eq _) (pLL hst0 10 ?_))
 refine lenR (m:=t.cs.length) 2 rfl rfl yh hst0 rfl (pLL hst0 1 ?_)
 refine cv (a:=(t.cs.length:Int)-1) (e:=(t.cs.length:Int)-1) rfl rfl ye yg (w64u o_) (bi (a:=(xs33 (muW 14181476777654086739 (xs33 (muW 18397679294719823053 (xs33 id)))))) (b:=(t.cs.length:Int)-1) (e:=((homeN t.n id:Nat):Int)) rfl rfl rfl (hT.p2.home id) (cv (a:=((homeN t.n id:Nat):Int)) (e:=((homeN t.n id:Nat):Int)) rfl rfl yg ye (w64 o_) (pLQ hst0 4 ?_)))
 refine ret1 (v:=(Za ((homeN t.n id:Nat):Int))) Tryz.results203 rfl ?_
 exact⟨rfl,yq (yc [_,_,_] _ hst0)⟩
theorem tprobe_ok(tb:Nat)(id:Int)(w:World) :
 CR ya 202 (Zad tb id) w (fun r w' => ∃ xb yb,r = .func (.func 234) #[] (Zb6 xb yb)/\Turn (allR []) w w' (allR [blk xb 127 (Zj tb),blk yb 30 (Zz id)])):=by
 refine en Tryz.func202 Tryz.ntmps202 ?_
 have hst0:=yaf w
 refine pPL hst0 2 ?_
 refine bx (v:=(Zb tb)) (cs:=(Zj tb)) rfl rfl rfl hst0 (fun a f g h d=>bx (v:=(Ze id)) (cs:=(Zz id)) rfl rfl rfl d (fun b i j k c=>pLL c 5 ?_))
 refine mkf (vf:=[]) (vc:=(Za3 a b)) rfl rfl rfl (pLQ c 4 ?_)
 refine ret1 (v:=(.func (.func 234) #[] (Zb6 a b))) Tryz.results202 rfl ?_
 have e:=yj [1,0] c
 exact⟨a,b,rfl,St.eM (yc [_,_] _ e)⟩
theorem tprobe1_ok{γ:Type}(Cl:γ->Res)(Iv:γ->Nat->Nat->Prop)(Dn:γ->Prop)(z0:γ)(l xb yb tb ab:Nat)(t:TW)(id:Int)(w:World)(hy:∀ (z:γ) (k c:Nat) (bs:List (World×List Nat)) (L:List Res) (w:World),k<t.n->c<t.n->Iv z k c->St bs (Cl z :: (Zb9 tb ab t)++L) w->YR ya l (Zi c ((ndA t.cs c:Nat):Int)) w (fun v w' => ∃ z2 b,v = .bool b/\(b=true->Iv z2 (k+1) (nxC t.n c))/\(b=false->Dn z2)/\St bs (Cl z2 :: (Zb9 tb ab t)++L) w'))(hT:t.ok)(hz0:Iv z0 0 (homeN t.n id))(hO:Own (Zb0 (Cl z0) tb ab t xb yb id) w) :
 CR ya 234 (Zdw (.func (.yield l) #[] #[]) xb yb) w (fun r w' => ∃ z,((∃ c,Iv z t.n c)\/Dn z)/\r = .tuple #[]/\Turn (Zb0 (Cl z0) tb ab t xb yb id) w w' (Zb0 (Cl z) tb ab t xb yb id)):=by
 have hnl:t.cs.length=t.n:=rfl
 have h2t:=hT.two
 have htop:=hT.top
 have hpos:0<t.n:=by omega
 refine en Tryz.func234 Tryz.ntmps234 ?_
 have hst0:=Own.of hO
 have o:=yj [1,2,3,0,4,5] hst0
 have g:=yc [_,_,_] _ o
 refine pPL hst0 4 ?_
 refine cl ent203 (thome_ok tb ab t w (yd g (i:=0) rfl) hT.sz id) ?_
 rintro _ s ⟨rfl,ht⟩
 have f:=(yp g ht)
 refine pLL f 9 ?_
 refine lenR (m:=t.cs.length) 2 rfl rfl yh f rfl ?_
 have p:=yj [3,0,1,2,4,5] f
 refine pLP f 4 ?_
 refine lp (α:=γ×Nat×Nat) (fun(z,k,c)=>[(0,(.func (.yield l) #[] #[])),(1,(Zb xb)),(2,(Zb yb)),(4,(Za c)),(12,(Za t.cs.length)),(13,(Za k))]) (fun(z,k,c) w1=>St [(w,(Zb0 (Cl z0) tb ab t xb yb id).foot)] [(Cl z),blk tb 258 (Zaf tb ab t),rowR ucf t.iv 30 1 t.ids,rowR ncf t.cv 3 1 t.cs,blk xb 127 (Zj tb),blk yb 30 (Zz id)] w1/\k<=t.n/\c<t.n/\Iv z k c) (fun(z,k,c)=>t.n-k) (z0,0,(homeN t.n id)) ⟨rfl,rfl,rfl,eqI (by first|rfl|omega),rfl,eqI (by first|rfl|omega),trivial⟩ (⟨p,o_,homeN_lt hpos,hz0⟩) ?_
 rintro⟨z,k,c⟩ u x ⟨hst3,hk2,hc2,hIv⟩
 refine pPL hst3 2 ?_
 by_cases y:((k:Int):Int)<((t.cs.length:Int):Int)
 . refine pLL hst3 19 ?_
   refine ixR (cf:=ncf) (k:=c) (i:=(c:Int)) rfl rfl rfl yh ti3 (yf hst3 (i:=3) rfl f_) o_ o_ (nd_get om) (ldR (cf:=ncf) rfl rfl ye rfl (yf hst3 (i:=3) rfl f_) (nd_get om) rfl (yl (vl:=(Zi c (((ndA t.cs c):Nat):Int))) rfl rfl rfl (hy z k c _ _ _ o_ hc2 hIv hst3) ?_))
   rintro _ A ⟨h,q,rfl,hiv9,hdn9,d⟩
   refine pLP d 3 ?_
   cases j:(q:Bool)
   . skip
     subst j
     refine pPQ d 7 ?_
     refine ret0 Tryz.results234 ?_
     exact⟨h,.inr (hdn9 rfl),rfl,yq (yc [_,_,_,_,_,_] _ d)⟩
   . skip
     subst j
     refine pPL d 10 ?_
     refine lenR (m:=t.cs.length) 3 rfl rfl yh d rfl (pLL d 1 ?_)
     refine bi (a:=(c:Int)+1) (b:=(t.cs.length:Int)-1) (e:=((nxC t.n c:Nat):Int)) rfl rfl rfl (hT.p2.nx hc2) (pLQ d 8 ?_)
     refine tN (?_)
     exact again (h,(k+1),(nxC t.n c)) ⟨rfl,rfl,rfl,eqI (by first|rfl|omega),rfl,eqI (by first|rfl|omega),trivial⟩ (⟨d,o_,nxC_lt hc2,hiv9 rfl⟩) (by show t.n-(k+1)<t.n-k;omega)
 . refine pLQ hst3 9 ?_
   refine end0 Tryz.results234 ?_
   obtain rfl:k=t.n:=by omega
   exact⟨z,.inl ⟨c,hIv⟩,rfl,yq (yc [_,_,_,_,_,_] _ hst3)⟩
theorem tfind_ok(tb ab:Nat)(t:TW)(w:World)(hO:Own (Z2 tb ab t) w)(hT:t.ok)(id:Int) :
 CR ya 147 (Zad tb id) w (fun r w' => r = .tuple (Zaq ((t.find id).1:Int) ((t.find id).2))/\Turn (Z2 tb ab t) w w' (Z2 tb ab t)):=by
 have hnl:t.cs.length=t.n:=rfl
 have h2t:=hT.two
 have htop:=hT.top
 have hpos:0<t.n:=by omega
 refine enterM (vs:=[(Zb tb),(Ze id)]) Tryz.func147 rfl Tryz.ntmps147 rfl ?_
 have hst0:=Own.of hO
 refine pPL hst0 2 ?_
 refine bx (v:=(Zb tb)) (cs:=(Zj tb)) rfl rfl rfl hst0 (fun f W X Y C=>bx (v:=(Ze id)) (cs:=(Zz id)) rfl rfl rfl C (fun g Z aa ac D=>al (cs:=[Zc]) rfl ti3 rfl D (fun m ad ae af E=>al (cs:=[Zp]) rfl ti4 rfl E (fun o G ag ah x=>pLL x 7 ?_))))
 refine cl ent202 (tprobe_ok tb id G) ?_
 rintro _ ai ⟨p,q,rfl,ht⟩
 have y:=yan (ya9 x ht)
 have H:=yj [3,2,5,4,6,7,8,0,1] y
 refine pLP y 3 ?_
 refine rfx (α:=Bool×Int×Bool) (ps:=[11,12]) (fi:=[]) (ca:=(Za3 p q)) (fun(sp,a,b)=>[blk m 3 (Zd a),blk o 4 [(.bool b)],blk f 127 (Zj tb),blk g 30 (Zz id),blk tb 258 (Zaf tb ab t),rowR ucf t.iv 30 1 t.ids,rowR ncf t.cv 3 1 t.cs,blk p 127 (Zj tb),blk q 30 (Zz id)]) (fun(sp,a,b)=>(sp=false/\t.find id=(0,false))\/(sp=true/\a=((t.find id).1:Int)/\b=(t.find id).2)) (fun(sp,a,b)=>sp) H rfl ent234 ?_ ?_ ?_
 . intro fn dd l wl rc hrc hsl
   have I:=yj [0,2,3,4,5,6,7,8,9,10,1] hsl
   have hpk:=yc [lobj l rc,blk m 3 [Zc],blk o 4 [Zp],blk f 127 (Zj tb),blk g 30 (Zz id)] [blk tb 258 (Zaf tb ab t),rowR ucf t.iv 30 1 t.ids,rowR ncf t.cv 3 1 t.cs,blk p 127 (Zj tb),blk q 30 (Zz id),dobj dd (some [])] I
   have hr1:rc.state = .ready:=by rw[hrc]
   have hr2:rc.pending=none:=by rw[hrc]
   have hround:∀ (z:Bool×Int×Bool) (k c:Nat) (bs:List (World×List Nat)) (L:List Res) (w:World),k<t.n->c<t.n->(fun(z:Bool×Int×Bool) k c=>z.1=false/\t.rest id k c) z k c->St bs ((fun((sp,a,b):Bool×Int×Bool)=>allR (Zcp (lobj l (rcX sp rc)) m a o b f tb g id)) z :: (Zb9 tb ab t)++L) w->YR ya l (Zi c ((ndA t.cs c:Nat):Int)) w (fun v w' => ∃ z2 b,v = .bool b/\(b=true->(fun(z:Bool×Int×Bool) k c=>z.1=false/\t.rest id k c) z2 (k+1) (nxC t.n c))/\(b=false->(fun(z:Bool×Int×Bool)=>z.1=true/\z.2.1=((t.find id).1:Int)/\z.2.2=(t.find id).2) z2)/\St bs ((fun((sp,a,b):Bool×Int×Bool)=>allR (Zcp (lobj l (rcX sp rc)) m a o b f tb g id)) z2 :: (Zb9 tb ab t)++L) w'):=by
    rintro⟨sp,a,b⟩ k c bs LT wr hk hc ⟨rfl,hr9⟩ hsr
    have hsr:=hsr.unpack
    refine rnd (vl:=(Zi c ((ndA t.cs c:Nat):Int))) 0 hrc hsr rfl rfl rfl (pPQ hsr 8 ?_)
    refine tN (?_)
    refine begR 0 hsr rfl hr1 rfl (fun aj d=>pPL d 5 ?_)
    by_cases ak:(((ndA t.cs c:Nat):Int):Int)=(0:Int)
    . have hc0:ndA t.cs c=0:=by omega
      refine pLL d 1 ?_
      skip
      skip
      skip
      refine sLQ d 13 fun am J=>?_
      refine endX 0 J rfl rfl ?_
      intro ao K
      have hfd:t.find id=(c,false):=TW.rest_zero hr9 hk o_
      exact⟨_,rfl,(true,(c:Int),false),false,rfl,fun h=>(by cases h),fun _=>⟨rfl,by rw[hfd],by rw[hfd]⟩,yc [_,_,_,_,_] _ K⟩
    . obtain⟨j,hj⟩:∃ j,ndA t.cs c=j+1:=⟨ndA t.cs c-1,o_⟩
      have hjv:=hT.val hc hj
      have hjl:j<t.ids.length:=hjv.2.2.1
      have hjn:j<65536:=z6 hjv.2.2.2 hT.an
      refine pLP d 7 ?_
      by_cases s:((ndA t.ids j):Int)=(id:Int)
      . skip
        have hid:ndA t.ids j=id:=by have h7:=s;omega
        refine rgs (Γ:=Unit) mixed [[],[0],[0,1],[0,1,2],[],[4],[0,1,2,3,4,5],[0,1,2,3,4,5,6],[],[0,1,2,3,4,5,6,7,8]] [] d_ [fun _=>(Zb tb),fun _=>(Zb tb),fun _=>(Zab tb),fun _=>t.iv,fun _=>(Za ((ndA t.cs c:Nat):Int)),fun _=>(Za ((j:Nat):Int)),fun _=>(adrO 1 t.iv j 0),fun _=>(Ze (ndA t.ids j)),fun _=>(Ze id),fun _=>Zf] [(fun _=>(lobj l { rc with state:=.busy } :: blk m 3 (Zd a) :: blk o 4 [(.bool b)] :: blk f 127 (Zj tb) :: blk g 30 (Zz id) :: blk tb 258 (Zaf tb ab t) :: rowR ucf t.iv 30 1 t.ids :: rowR ncf t.cv 3 1 t.cs :: LT),fun _ _=>True)] () _ rfl d (fun _ _=>trivial) ?_ f_ rfl ?_
        . skip
          refine ob_q1 rfl rfl rfl rfl (fun _ wq hM hF=>qv rfl rfl (ld_r rfl ybb rfl (yo hM (i:=3) rfl rfl))) (obv (fun _ _=>nilc_r rfl) ?_)
          refine obv (fun _ _=>fa_r (o' := 2) rfl ya5 rfl ti44 rfl) ?_
          refine ob_q1 rfl rfl rfl rfl (fun _ wq hM hF=>qv rfl rfl (ld_r rfl yad rfl (yo hM (i:=5) rfl rfl))) (obv (fun _ _=>mv_r (v:=(Za ((ndA t.cs c:Nat):Int))) rfl) ?_)
          refine obv (fun _ _=>ar_r (e:=((j:Nat):Int)) rfl rfl rfl (by rw[w64 o_];omega)) ?_
          refine obv (fun _ _=>ixR_r (cf:=ucf) (k:=j) (i:=((j:Nat):Int)) rfl rfl yad ti30 (yf d (i:=6) rfl f_) o_ o_ (nd_get om)) ?_
          refine ob_q1 rfl rfl rfl rfl (fun _ wq hM hF=>qv rfl rfl (ldR_r (cf:=ucf) (u:=(Ze (ndA t.ids j))) rfl yg rfl (yf hM (i:=6) rfl f_) (nd_get om) rfl)) (ob_q1 rfl rfl rfl rfl (fun _ wq hM hF=>qv rfl rfl (ld_r rfl yg rfl (yo hM (i:=4) rfl rfl))) (obv (fun _ _=>cmp_r rfl rfl (c_eq s)) ?_))
          exact ob_n
        rintro-ap M -
        refine sQQ tt (some l) M 11 fun aq N=>?_
        refine endX 0 N rfl rfl ?_
        intro ar O
        have hfd:t.find id=(c,true):=TW.rest_hit hr9 hk hj hid
        exact⟨_,rfl,(true,(c:Int),true),false,rfl,fun h=>(by cases h),fun _=>⟨rfl,by rw[hfd],by rw[hfd]⟩,yc [_,_,_,_,_] _ O⟩
      . skip
        have hid:ndA t.ids j≠id:=by have h7:=s;omega
        refine rgs (Γ:=Unit) mixed [[],[0],[0,1],[0,1,2],[],[4],[0,1,2,3,4,5],[0,1,2,3,4,5,6],[],[0,1,2,3,4,5,6,7,8]] [] d_ [fun _=>(Zb tb),fun _=>(Zb tb),fun _=>(Zab tb),fun _=>t.iv,fun _=>(Za ((ndA t.cs c:Nat):Int)),fun _=>(Za ((j:Nat):Int)),fun _=>(adrO 1 t.iv j 0),fun _=>(Ze (ndA t.ids j)),fun _=>(Ze id),fun _=>Zp] [(fun _=>(lobj l { rc with state:=.busy } :: blk m 3 (Zd a) :: blk o 4 [(.bool b)] :: blk f 127 (Zj tb) :: blk g 30 (Zz id) :: blk tb 258 (Zaf tb ab t) :: rowR ucf t.iv 30 1 t.ids :: rowR ncf t.cv 3 1 t.cs :: LT),fun _ _=>True)] () _ rfl d (fun _ _=>trivial) ?_ f_ rfl ?_
        . skip
          refine ob_q1 rfl rfl rfl rfl (fun _ wq hM hF=>qv rfl rfl (ld_r rfl ybb rfl (yo hM (i:=3) rfl rfl))) (obv (fun _ _=>nilc_r rfl) ?_)
          refine obv (fun _ _=>fa_r (o' := 2) rfl ya5 rfl ti44 rfl) ?_
          refine ob_q1 rfl rfl rfl rfl (fun _ wq hM hF=>qv rfl rfl (ld_r rfl yad rfl (yo hM (i:=5) rfl rfl))) (obv (fun _ _=>mv_r (v:=(Za ((ndA t.cs c:Nat):Int))) rfl) ?_)
          refine obv (fun _ _=>ar_r (e:=((j:Nat):Int)) rfl rfl rfl (by rw[w64 o_];omega)) ?_
          refine obv (fun _ _=>ixR_r (cf:=ucf) (k:=j) (i:=((j:Nat):Int)) rfl rfl yad ti30 (yf d (i:=6) rfl f_) o_ o_ (nd_get om)) ?_
          refine ob_q1 rfl rfl rfl rfl (fun _ wq hM hF=>qv rfl rfl (ldR_r (cf:=ucf) (u:=(Ze (ndA t.ids j))) rfl yg rfl (yf hM (i:=6) rfl f_) (nd_get om) rfl)) (ob_q1 rfl rfl rfl rfl (fun _ wq hM hF=>qv rfl rfl (ld_r rfl yg rfl (yo hM (i:=4) rfl rfl))) (obv (fun _ _=>cmp_r rfl rfl (c_neq s)) ?_))
          exact ob_n
        rintro-au A -
        refine pQQ tt (some l) A 4 ?_
        refine endR 0 A rfl hr1 hr2 rfl ?_
        intro av P
        exact⟨_,rfl,(false,a,b),true,rfl,fun _=>⟨rfl,TW.rest_next hr9 hk hj hid⟩,fun h=>(by cases h),yc [_,_,_,_,_] _ P⟩
   have hpk2:=yc [_,_,_,_,_,_] _ hpk
   refine CR.mono (tprobe1_ok (fun((sp,a,b):Bool×Int×Bool)=>allR (Zcp (lobj l (rcX sp rc)) m a o b f tb g id)) (fun(z:Bool×Int×Bool) k c=>z.1=false/\t.rest id k c) (fun(z:Bool×Int×Bool)=>z.1=true/\z.2.1=((t.find id).1:Int)/\z.2.2=(t.find id).2) (false,0,false) l p q tb ab t id wl hround hT ⟨rfl,TW.rest_start t id⟩ (yd hpk2 (i:=0) rfl)) ?_
   rintro _ w9 ⟨⟨sp,a,b⟩,hz,-,hturn⟩
   have hs9:=(yp hpk2 hturn).unpack
   have Q:=yj [0,10,1,2,3,4,5,6,7,8,9] hs9
   refine⟨(sp,a,b),?_,Q⟩
   rcases hz with ⟨c,h1,h2⟩|h1
   . exact .inl ⟨h1,TW.rest_end h2⟩
   . exact .inr h1
 . rintro⟨sp,a,b⟩ dd aw hC hstop R
   have hf:t.find id=(0,false):=hC.elim (fun h=>h.2) (fun h=>absurd (h.1.symm.trans hstop) d_)
   refine sQQ tt none R 9 fun ax S=>?_
   refine leaveM 0 S rfl rfl ?_
   intro w8 hs8
   have U:=yj [5,6,7,0,1,2,3,4,8,9] hs8
   have hT9:Turn (Z2 tb ab t) w w8 (Z2 tb ab t):=yq (yc [_,_,_] _ U)
   exact⟨_,resL2 Tryz.results147 (rvC rfl ye rfl (yo hs8 (i:=1) rfl rfl)) (rvC rfl y9 rfl (yo hs8 (i:=2) rfl rfl)),_,rfl,by rw[hf];rfl,hT9⟩
 . rintro⟨sp,a,b⟩ dd ay hC hstop B
   have hf:a=((t.find id).1:Int)/\b=(t.find id).2:=hC.elim (fun h=>absurd (h.1.symm.trans hstop) d_) (fun h=>h.2)
   refine pQQ tt none B 2 ?_
   refine leaveM 0 B rfl rfl ?_
   intro w8 hs8
   have V:=yj [5,6,7,0,1,2,3,4,8,9] hs8
   have hT9:Turn (Z2 tb ab t) w w8 (Z2 tb ab t):=yq (yc [_,_,_] _ V)
   exact⟨_,resL2 Tryz.results147 (rvC rfl ye rfl (yo hs8 (i:=1) rfl rfl)) (rvC rfl y9 rfl (yo hs8 (i:=2) rfl rfl)),_,rfl,by rw[hf.1,hf.2],hT9⟩
end
section
open Go Go.Sx
theorem tfindat_ok(tb ab:Nat)(t:TW)(w:World)(hO:Own (Z2 tb ab t) w)(hT:t.ok)(id:Int)(p:Nat)(b:Bool)(hf:t.find id=(p,b)) :
 CR ya 147 (Zad tb id) w (fun r w' => r = .tuple (Zaq p b)/\Turn (Z2 tb ab t) w w' (Z2 tb ab t)):=by
 have h:=tfind_ok tb ab t w hO hT id
 rw[hf]at h
 exact h
theorem tvalid_ok(tb ab:Nat)(t:TW)(w:World)(hO:Own (Z2 tb ab t) w)(hT:t.ok) :
 CR ya 146 (Zk tb) w (fun r w' => r = .bool true/\Turn (Z2 tb ab t) w w' (Z2 tb ab t)):=by
 refine en Tryz.func146 Tryz.ntmps146 ?_
 have hst0:=Own.of hO
 refine pPL hst0 8 ?_
 refine neP (a:=some ⟨tb,0,none⟩) (c:=true) rfl rfl rfl ybb rfl (pLL hst0 6 ?_)
 refine eqPS (a:=⟨tb,0,none⟩) rfl rfl rfl ybb ti258 (pLQ hst0 5 ?_)
 refine ret1 (v:=Zf) Tryz.results146 rfl ?_
 exact⟨rfl,yq (yc [_,_,_] _ hst0)⟩
theorem tget1_ok(tb ab:Nat)(t:TW)(w:World)(hO:Own (TW.R tb ab t) w)(id:Int)(i:Nat)(hi:t.A.inU i)(hid:ndA t.ids i=id) :
 CR ya 88 (Zad tb id) w (fun r w' => r = .tuple (Zbt i)/\Turn (TW.R tb ab t) w w' (TW.R tb ab t)):=by
 have hnl:t.cs.length=t.n:=rfl
 have htop:=hO.fact.top
 obtain⟨p,hp,hc,hf⟩:=hO.fact.find_in hi
 rw[hid]at hf
 have hin:=(hO.fact.val hp hc).2.2.2
 have hin2:i<65536:=z6 hin hO.fact.an
 have hil:=(hO.fact.val hp hc).2.2.1
 refine en Tryz.func88 Tryz.ntmps88 ?_
 have hst0:=Own.of hO.un
 have hT:t.ok:=hO.fact
 have b:=yc [_,_,_] _ hst0
 refine pPL hst0 10 ?_
 refine cl ent146 (tvalid_ok tb ab t w (yd b (i:=0) rfl) hT) ?_
 rintro _ f ⟨rfl,ht⟩
 have c:=(yp b ht)
 have d:=yc [_,_,_] _ c
 refine pLL c 10 ?_
 refine cl ent147 (tfindat_ok tb ab t f (yd d (i:=0) rfl) hT id p true hf) ?_
 rintro _ g ⟨rfl,ht⟩
 have a:=(yp d ht)
 refine pLL a 24 ?_
 refine ixR (cf:=ncf) (k:=p) (i:=(p:Int)) rfl rfl rfl yh ti3 (yf a (i:=2) rfl f_) o_ o_ (nd_get om) (ldR (cf:=ncf) rfl rfl ye rfl (yf a (i:=2) rfl f_) (nd_get om) rfl (ar (e:=((i:Nat):Int)) rfl rfl rfl rfl (by rw[w64 o_];omega) (pLQ a 5 ?_)))
 refine ret2 (v:=(Za ((i:Nat):Int))) (v' := Zf) Tryz.results88 rfl rfl ?_
 exact⟨rfl,yv (yw (p:=(t:TW).ok) (yc [_,_,_,_] _ a) hT) zh⟩
theorem tget0_ok(tb ab:Nat)(t:TW)(w:World)(hO:Own (TW.R tb ab t) w)(id:Int)(hn:¬ t.mem id) :
 CR ya 88 (Zad tb id) w (fun r w' => r = .tuple Zch/\Turn (TW.R tb ab t) w w' (TW.R tb ab t)):=by
 have hnl:t.cs.length=t.n:=rfl
 have htop:=hO.fact.top
 obtain⟨p,hp,hf,h0,hw⟩:=hO.fact.find_out hn
 refine en Tryz.func88 Tryz.ntmps88 ?_
 have hst0:=Own.of hO.un
 have hT:t.ok:=hO.fact
 have a:=yc [_,_,_] _ hst0
 refine pPL hst0 10 ?_
 refine cl ent146 (tvalid_ok tb ab t w (yd a (i:=0) rfl) hT) ?_
 rintro _ e ⟨rfl,ht⟩
 have b:=(yp a ht)
 have c:=yc [_,_,_] _ b
 refine pLL b 10 ?_
 refine cl ent147 (tfindat_ok tb ab t e (yd c (i:=0) rfl) hT id p false hf) ?_
 rintro _ f ⟨rfl,ht⟩
 have d:=(yp c ht)
 refine pLQ d 23 ?_
 refine ret2 (v:=Zc) (v' := Zp) Tryz.results88 rfl rfl ?_
 exact⟨rfl,yv (yw (p:=(t:TW).ok) (yc [_,_,_,_] _ d) hT) zh⟩
theorem tget_ok(tb ab:Nat)(t:TW)(w:World)(hO:Own (TW.R tb ab t) w)(id:Int) :
 CR ya 88 (Zad tb id) w (fun r w' => ∃ (z:Nat) (b:Bool),r = .tuple (Zaq z b)/\TW.Got t id z b/\Turn (TW.R tb ab t) w w' (TW.R tb ab t)):=by
 by_cases hm:t.mem id
 . obtain⟨i,hi,hid⟩:=hm
   exact CR.mono (tget1_ok tb ab t w hO id i hi hid) fun r w' ⟨h1,h2⟩=>⟨i,true,h1,.inl ⟨rfl,hi,hid⟩,h2⟩
 . exact CR.mono (tget0_ok tb ab t w hO id hm) fun r w' ⟨h1,h2⟩=>⟨0,false,h1,.inr ⟨rfl,rfl,hm⟩,h2⟩
theorem tlen_ok(tb ab:Nat)(t:TW)(w:World)(hO:Own (TW.R tb ab t) w) :
 CR ya 87 (Zk tb) w (fun r w' => r = .int .i64 (t.A.used:Int)/\Turn (TW.R tb ab t) w w' (TW.R tb ab t)):=by
 have hT:=hO.fact
 refine en Tryz.func87 Tryz.ntmps87 ?_
 have hst0:=Own.of hO.un
 have hT:t.ok:=hO.fact
 have b:=yc [_,_,_] _ hst0
 refine pPL hst0 9 ?_
 refine cl ent146 (tvalid_ok tb ab t w (yd b (i:=0) rfl) hT) ?_
 rintro _ d ⟨rfl,ht⟩
 have a:=(yp b ht)
 refine pLL a 12 ?_
 refine cl ent86 (wlen_ok ab t.w d (yd a (i:=3) rfl)) ?_
 rintro _ e ⟨rfl,ht⟩
 have c:=yu 3 a ht
 refine pLQ c 4 ?_
 refine ret1 (v:=(Za t.A.used)) Tryz.results87 rfl ?_
 exact⟨rfl,yv (yw (p:=(t:TW).ok) (yc [_,_,_,_] _ c) hT) zh⟩
theorem tput1_ok(tb ab:Nat)(t:TW)(w:World)(hO:Own (TW.R tb ab t) w)(id:Int)(i:Nat)(hi:t.A.inU i)(hid:ndA t.ids i=id) :
 CR ya 106 (Zad tb id) w (fun r w' => r = .tuple #[.int .i64 (i:Int),.bool false,.int .i64 0]/\Turn (TW.R tb ab t) w w' (TW.R tb ab t)):=by
 have hnl:t.cs.length=t.n:=rfl
 have htop:=hO.fact.top
 obtain⟨p,hp,hc,hf⟩:=hO.fact.find_in hi
 rw[hid]at hf
 have hin:=(hO.fact.val hp hc).2.2.2
 have hin2:i<65536:=z6 hin hO.fact.an
 have hil:=(hO.fact.val hp hc).2.2.1
 refine en Tryz.func106 Tryz.ntmps106 ?_
 have hst0:=Own.of hO.un
 have hT:t.ok:=hO.fact
 have b:=yc [_,_,_] _ hst0
 refine pPL hst0 11 ?_
 refine cl ent146 (tvalid_ok tb ab t w (yd b (i:=0) rfl) hT) ?_
 rintro _ f ⟨rfl,ht⟩
 have c:=(yp b ht)
 have d:=yc [_,_,_] _ c
 refine pLL c 10 ?_
 refine cl ent147 (tfindat_ok tb ab t f (yd d (i:=0) rfl) hT id p true hf) ?_
 rintro _ g ⟨rfl,ht⟩
 have a:=(yp d ht)
 refine pLL a 21 ?_
 refine ixR (cf:=ncf) (k:=p) (i:=(p:Int)) rfl rfl rfl yh ti3 (yf a (i:=2) rfl f_) o_ o_ (nd_get om) (ldR (cf:=ncf) rfl rfl ye rfl (yf a (i:=2) rfl f_) (nd_get om) rfl (ar (e:=((i:Nat):Int)) rfl rfl rfl rfl (by rw[w64 o_];omega) (pLQ a 7 ?_)))
 refine ret3 (v:=(Za ((i:Nat):Int))) (v' := Zp) (v'' := Zc) Tryz.results106 rfl rfl rfl ?_
 exact⟨rfl,yv (yw (p:=(t:TW).ok) (yc [_,_,_,_] _ a) hT) zh⟩
theorem tput0_ok(tb ab:Nat)(t:TW)(w:World)(hO:Own (TW.R tb ab t) w)(id:Int)(hn:¬ t.mem id)(hid:InK .u64 id)(hu:t.A.used<t.A.n) :
 CR ya 106 (Zad tb id) w (fun r w' => ∃ (i:Nat) (t2:TW),r = .tuple #[.int .i64 (i:Int),.bool true,.int .i64 0]/\((∀ x,t2.mem x↔t.mem x\/x=id)/\t2.A.n=t.A.n/\t2.A.used=t.A.used+1)/\Turn (TW.R tb ab t) w w' (TW.R tb ab t2)):=by
 have hnl:t.cs.length=t.n:=rfl
 have htop:=hO.fact.top
 obtain⟨p,hp,hf,h0,hw⟩:=hO.fact.find_out hn
 have hil:t.ids.length=t.w.A.begun:=hO.fact.idl
 have hla:(t.ids++[0]).length=t.ids.length+1:=by simp
 have hbeg:t.w.A.begun<=t.w.A.n:=hO.fact.beg
 have han:t.w.A.n<=65536:=hO.fact.an
 refine en Tryz.func106 Tryz.ntmps106 ?_
 have hst0:=Own.of hO.un
 have hT:t.ok:=hO.fact
 have q:=yc [_,_,_] _ hst0
 refine pPL hst0 11 ?_
 refine cl ent146 (tvalid_ok tb ab t w (yd q (i:=0) rfl) hT) ?_
 rintro _ C ⟨rfl,ht⟩
 have s:=(yp q ht)
 have u:=yc [_,_,_] _ s
 refine pLL s 10 ?_
 refine cl ent147 (tfindat_ok tb ab t C (yd u (i:=0) rfl) hT id p false hf) ?_
 rintro _ D ⟨rfl,ht⟩
 have h:=(yp u ht)
 refine pLL h 22 ?_
 refine cl ent105 (walloc_ok ab t.w D (yd h (i:=3) rfl) hu) ?_
 rintro _ H ⟨a,b,rfl,e,ht⟩
 have d:=yu 3 h ht
 have hA9:=(yac d (i:=3) rfl:b.A.ok)
 have hib:a<=t.ids.length:=by rcases e.beg with h9|h9<;>omega
 have hib2:a<=65536:=by omega
 refine pLL d 25 ?_
 refine lenR (m:=t.ids.length) 1 rfl rfl yad d rfl ?_
 by_cases I:(((a:Nat):Int):Int)=((t.ids.length:Int):Int)
 . refine pLL d 10 ?_
   refine bsv (vs:=Zbp) (cs:=Zbp) rfl rfl yad ti30 rfl (by simp[Value.cells]) rfl rfl rfl d (fun E J K L y=>apdR (cf:=ucf) (ys:=t.ids) (zs:=[0]) (LL:=fun c=>[rowI .u64 (Zv E) 30 ([0]),blk tb 258 (Zaf tb ab t),rowR ucf c 30 1 (t.ids++[0]),rowR ncf t.cv 3 1 t.cs,(AW.R ab b)]) 2 rfl rfl rfl yad ti30 rfl d_ y rfl (yaq y (i:=0) rfl) (fun x hx=>zz.1 (show List.all _ _=true from rfl) x hx) (by simp only[zk,zq,maxLen];omega) (by simp only[zk,zq,maxLen];omega) f_ ?_)
   intro c M G N
   have g:=yj [1,2,3,4] G
   refine pLL g 2 ?_
   refine sto (L' := (Zc5 tb ab c t (t.ids++[0]) b)) 0 rfl rfl rfl (cells_one (ya0 g (i:=1) rfl)) ti44 rfl (all1 (ya0 g (i:=1) rfl) all0) g rfl rfl rfl rfl (fun O j=>pLL j 10 ?_)
   refine ixR (cf:=ucf) (k:=a) (i:=((a:Nat):Int)) rfl rfl rfl yad ti30 (yf j (i:=1) rfl f_) o_ o_ (nd_get om) (stoR (f:=(fun _=>id)) (L' := (Zc5 tb ab c t (updA (t.ids++[0]) a (fun _=>id)) b)) 1 rfl rfl rfl rfl ti30 rfl rfl j rfl f_ om rfl rfl rfl (fun P l=>pLL l 11 ?_))
   refine ixR (cf:=ncf) (k:=p) (i:=(p:Int)) rfl rfl rfl yh ti3 (yf l (i:=2) rfl f_) o_ o_ (nd_get om) (stoR (f:=(fun _=>(a+1))) (L' := [blk tb 258 [(Zb tb),(Zb ab),c,t.cv],rowR ucf c 30 1 (updA (t.ids++[0]) a (fun _=>id)),rowR ncf t.cv 3 1 (updA t.cs p (fun _=>(a+1))),(AW.R ab b)]) 2 rfl rfl rfl rfl ti3 rfl rfl l rfl f_ om rfl rfl rfl (fun Q z=>pLQ z 11 ?_))
   refine ret3 (v:=(Za ((a:Nat):Int))) (v' := Zf) (v'' := Zc) Tryz.results106 rfl rfl rfl ?_
   have hpo:=hT.put hn hid hA9 e hp h0 hw c t.cv (is2:=updA (t.ids++[0]) a (fun _=>id)) (cs2:=updA t.cs p (fun _=>(a+1))) (by unfold putI;rw[if_pos o_]) rfl
   exact⟨a,⟨c,t.cv,b,updA (t.ids++[0]) a (fun _=>id),updA t.cs p (fun _=>(a+1))⟩,rfl,⟨hpo.2,e.n,e.used⟩,yv (yw (p:=(⟨c,t.cv,b,updA (t.ids++[0]) a (fun _=>id),updA t.cs p (fun _=>(a+1))⟩:TW).ok) (yc [_,_,_,_] _ z) hpo.1) zh⟩
 . refine pLL d 14 ?_
   refine ixR (cf:=ucf) (k:=a) (i:=((a:Nat):Int)) rfl rfl rfl yad ti30 (yf d (i:=1) rfl f_) o_ o_ (nd_get om) (stoR (f:=(fun _=>id)) (L' := [blk tb 258 (Zaf tb ab t),rowR ucf t.iv 30 1 (updA t.ids a (fun _=>id)),rowR ncf t.cv 3 1 t.cs,(AW.R ab b)]) 1 rfl rfl rfl rfl ti30 rfl rfl d rfl f_ om rfl rfl rfl (fun S o=>pLL o 11 ?_))
   refine ixR (cf:=ncf) (k:=p) (i:=(p:Int)) rfl rfl rfl yh ti3 (yf o (i:=2) rfl f_) o_ o_ (nd_get om) (stoR (f:=(fun _=>(a+1))) (L' := (Zcz tb ab t (updA t.ids a (fun _=>id)) (updA t.cs p (fun _=>(a+1))) b)) 2 rfl rfl rfl rfl ti3 rfl rfl o rfl f_ om rfl rfl rfl (fun U B=>pLQ B 11 ?_))
   refine ret3 (v:=(Za ((a:Nat):Int))) (v' := Zf) (v'' := Zc) Tryz.results106 rfl rfl rfl ?_
   have hpo:=hT.put hn hid hA9 e hp h0 hw t.iv t.cv (is2:=updA t.ids a (fun _=>id)) (cs2:=updA t.cs p (fun _=>(a+1))) (by unfold putI;rw[if_neg o_]) rfl
   exact⟨a,⟨t.iv,t.cv,b,updA t.ids a (fun _=>id),updA t.cs p (fun _=>(a+1))⟩,rfl,⟨hpo.2,e.n,e.used⟩,yv (yw (p:=(⟨t.iv,t.cv,b,updA t.ids a (fun _=>id),updA t.cs p (fun _=>(a+1))⟩:TW).ok) (yc [_,_,_,_] _ B) hpo.1) zh⟩
end
section
open Go Go.Sx
theorem thome2_ok(tb ab:Nat)(t:TW)(cs2:List Nat)(hl:cs2.length=t.n)(w:World)(hO:Own (Zbu tb ab t cs2) w)(hT:TW.Sz t.n)(id:Int) :
 CR ya 203 (Zad tb id) w (fun r w' => r = .int .i64 ((homeN t.n id:Nat):Int)/\Turn (Zbu tb ab t cs2) w w' (Zbu tb ab t cs2)):=by
 have h9:TW.n ⟨t.iv,t.cv,t.w,t.ids,cs2⟩=t.n:=hl
 have h:=thome_ok tb ab ⟨t.iv,t.cv,t.w,t.ids,cs2⟩ w hO (by rw[h9];exact hT) id
 rw[h9]at h
 exact h
theorem tclear_ok(tb ab:Nat)(t:TW)(w:World)(hO:Own (Z2 tb ab t) w)(hT:t.ok)(p i:Nat)(hp:p<t.n)(hc:ndA t.cs p=i+1) :
 CR ya 153 (Zn tb ((p:Nat):Int)) w (fun r w' => r = .tuple #[]/\∃ cs2,cs2.length=t.n/\(Prb t.n cs2 (fun j=>homeN t.n (ndA t.ids j))/\(∀ p q,p<t.n->q<t.n->ndA cs2 p≠0->ndA cs2 p=ndA cs2 q->p=q)/\(∀ i2,(∃ p,p<t.n/\ndA cs2 p=i2+1)↔i2≠i/\∃ p,p<t.n/\ndA t.cs p=i2+1))/\Turn (Z2 tb ab t) w w' (Zbu tb ab t cs2)):=by
 have hnl:t.cs.length=t.n:=rfl
 have h2t:=hT.two
 have htop:=hT.top
 have hpos:0<t.n:=by omega
 obtain⟨z,hz,hz0⟩:=hT.zero
 have hC0:Clr t.n (fun j=>homeN t.n (ndA t.ids j)) i t.cs t.cs p p z:=Clr.start hT.prb rfl hp hc hz hz0 (fun q j _ _=>homeN_lt hpos) hT.inj
 refine en Tryz.func153 Tryz.ntmps153 ?_
 have hst0:=Own.of hO
 refine pPL hst0 7 ?_
 refine lenR (m:=t.cs.length) 2 rfl rfl yh hst0 rfl (pLP hst0 15 ?_)
 refine lp (α:=List Nat×Nat×Nat) (fun(cs,hole,c)=>[(0,(Zb tb)),(1,(Za ((hole:Nat):Int))),(4,(Za ((t.cs.length:Int)-1))),(5,(Za ((c:Nat):Int)))]) (fun(cs,hole,c) w1=>St [(w,(Z2 tb ab t).foot)] (Zcm tb ab t cs) w1/\Clr t.n (fun j=>homeN t.n (ndA t.ids j)) i t.cs cs hole c z) (fun(cs,hole,c)=>dst t.n c z) (t.cs,p,p) ⟨rfl,eqI (by first|rfl|omega),rfl,eqI (by first|rfl|omega),trivial⟩ (⟨hst0,hC0⟩) ?_
 rintro⟨cs,hole,c⟩ v u ⟨hst3,hC⟩
 have hnx:=hC.next
 have hxl:nxC t.n c<t.n:=hnx.1
 have hhl:=hC.holt
 have hcl:=hC.clt
 have hln:=hC.len
 refine pPL hst3 6 ?_
 refine bi (a:=((c:Nat):Int)+1) (b:=(t.cs.length:Int)-1) (e:=((nxC t.n c:Nat):Int)) rfl rfl rfl (hT.p2.nx hcl) (pLL hst3 10 ?_)
 refine ixR (cf:=ncf) (k:=(nxC t.n c)) (i:=((nxC t.n c:Nat):Int)) rfl rfl rfl yh ti3 (yf hst3 (i:=2) rfl f_) o_ o_ (nd_get om) (ldR (cf:=ncf) rfl rfl ye rfl (yf hst3 (i:=2) rfl f_) (nd_get om) rfl (pLL hst3 7 ?_))
 by_cases g:((((ndA cs (nxC t.n c)):Nat):Int):Int)=(0:Int)
 . have h00:ndA cs (nxC t.n c)=0:=by have h7:=@g;omega
   refine pLL hst3 16 ?_
   refine ixR (cf:=ncf) (k:=hole) (i:=((hole:Nat):Int)) rfl rfl rfl yh ti3 (yf hst3 (i:=2) rfl f_) o_ o_ (nd_get om) (stoR (f:=(fun _=>0)) (L' := (Zcm tb ab t (updA cs hole (fun _=>0)))) 2 rfl rfl rfl rfl ti3 rfl rfl hst3 rfl f_ om rfl rfl rfl (fun x h=>pLQ h 2 ?_))
   refine end0 Tryz.results153 ?_
   exact⟨rfl,updA cs hole (fun _=>0),by rw[updA_len];exact hC.len,hC.done h00 ⟨p,hp,hc⟩,yq (yc [_,_,_] _ h)⟩
 . obtain⟨j,hj⟩:∃ j,ndA cs (nxC t.n c)=j+1:=⟨ndA cs (nxC t.n c)-1,by have h7:=@g;omega⟩
   obtain⟨hji,q9,hq9,hcq⟩:=(hC.mem j).1 ⟨nxC t.n c,hxl,hnx.2.1,hj⟩
   have hjv:=hT.val hq9 hcq
   have hjl:j<t.ids.length:=hjv.2.2.1
   have hjn:j<65536:=z6 hjv.2.2.2 hT.an
   have hhj:=homeN_lt (id:=ndA t.ids j) hpos
   refine pLL hst3 1 ?_
   rw[hj]
   refine pLL hst3 15 ?_
   refine ar (e:=((j:Nat):Int)) rfl rfl rfl rfl (by rw[w64 o_];omega) (ixR (cf:=ucf) (k:=j) (i:=((j:Nat):Int)) rfl rfl rfl yad ti30 (yf hst3 (i:=1) rfl f_) o_ o_ (nd_get om) (ldR (cf:=ucf) rfl rfl yg rfl (yf hst3 (i:=1) rfl f_) (nd_get om) rfl ?_))
   have l:=yc [_,_,_] _ hst3
   refine cl ent203 (thome2_ok tb ab t cs hC.len u (yd l (i:=0) rfl) hT.sz (ndA t.ids j)) ?_
   rintro _ y ⟨rfl,ht⟩
   have d:=(yp l ht)
   refine pLL d 2 ?_
   refine bi (a:=((nxC t.n c:Nat):Int)-((homeN t.n (ndA t.ids j):Nat):Int)) (b:=(t.cs.length:Int)-1) (e:=((dst t.n (homeN t.n (ndA t.ids j)) (nxC t.n c):Nat):Int)) rfl rfl rfl (hT.p2.dst hhj hxl) (pLL d 4 ?_)
   refine bi (a:=((nxC t.n c:Nat):Int)-((hole:Nat):Int)) (b:=(t.cs.length:Int)-1) (e:=((dst t.n hole (nxC t.n c):Nat):Int)) rfl rfl rfl (hT.p2.dst hhl hxl) ?_
   by_cases o:(((dst t.n (homeN t.n (ndA t.ids j)) (nxC t.n c):Nat):Int):Int)<(((dst t.n hole (nxC t.n c):Nat):Int):Int)
   . have hlt:(dst t.n (homeN t.n (ndA t.ids j)) (nxC t.n c)<dst t.n hole (nxC t.n c)):=by have h7:=o;omega
     refine pLQ d 7 ?_
     refine tN (?_)
     exact again (cs,hole,(nxC t.n c)) ⟨rfl,rfl,rfl,eqI (by first|rfl|omega),trivial⟩ (⟨d,hC.skip hj hlt⟩) (by show dst t.n (nxC t.n c) z<dst t.n c z;exact hnx.2.2.2.2)
   . have hlt:¬ (dst t.n (homeN t.n (ndA t.ids j)) (nxC t.n c)<dst t.n hole (nxC t.n c)):=by have h7:=o;omega
     refine pLL d 14 ?_
     refine ixR (cf:=ncf) (k:=hole) (i:=((hole:Nat):Int)) rfl rfl rfl yh ti3 (yf d (i:=2) rfl f_) o_ o_ (nd_get om) (stoR (f:=(fun _=>(j+1))) (L' := (Zcm tb ab t (updA cs hole (fun _=>(j+1))))) 2 rfl rfl rfl rfl ti3 rfl rfl d rfl f_ om rfl rfl rfl (fun A s=>pLQ s 7 ?_))
     refine tN (?_)
     exact again (updA cs hole (fun _=>(j+1)),(nxC t.n c),(nxC t.n c)) ⟨rfl,eqI (by first|rfl|omega),rfl,eqI (by first|rfl|omega),trivial⟩ (⟨s,hC.move hj hlt⟩) (by show dst t.n (nxC t.n c) z<dst t.n c z;exact hnx.2.2.2.2)
end
end Go.Proofs.YtdopagghhibopaaGreat
