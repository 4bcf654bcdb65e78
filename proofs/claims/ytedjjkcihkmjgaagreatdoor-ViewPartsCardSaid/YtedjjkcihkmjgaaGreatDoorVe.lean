/- What the functions that the statements reach do: walks through the code of the program and of the references, one theorem a function; under what is said of its arguments. -/
import Derived.Test.YtedjjkcihkmjgaaGreatDoorFb
import Derived.Test.YtedjjkcihkmjgaaGreatDoorVa
import Derived.Test.YtedjjkcihkmjgaaGreatDoorFc
import Derived.Test.YtedjjkcihkmjgaaGreatDoorVd
import Derived.Test.YtedjjkcihkmjgaaGreatDoorVb
import Derived.Test.YtedjjkcihkmjgaaGreatDoorFd
import Derived.Shelf.SlSortCmp.Whole1
set_option linter.unusedVariables false
set_option linter.unusedSimpArgs false
set_option maxRecDepth 100000
set_option maxHeartbeats 4000000
namespace Go.Proofs.YtedjjkcihkmjgaaGreatDoor
section
open Go Go.Sx
theorem Us(ab:Nat)(v:AW)(w:World)(a:Own (AW.R ab v) w) :
 CR ya 84 (Zi ab) w (fun r w' => ∃ lv,r=lv/\fV (AW.R ab v) w w' (gm [AW.R ab v,fL fS lv 3 1 (v.A.list v.A.begun)])):=by
 refine CR.mono (U2 ab v.bv v.A w a.un a.fact) fun r w' ⟨lv,c,d⟩=>⟨lv,c,?_⟩
 refine((fV.EL (A:=(Al ab v.bv v.A)) (B:=[ig .i64 lv 3 (gz (v.A.list v.A.begun))]) d).LY.Ff (by have e:∀ l:List Nat,l++[]=l:=xq;simp only[AW.R,kO,gm,iZ,z7,List.flatMap_nil,e];rfl) fun h=>?_)
 intro Q b
 simp only[ze,oV,or_false]at b
 rcases b with rfl|rfl
 . exact⟨a.fact,h _ s_⟩
 . rw[CZ f_]
   exact h _ (oS _ za) _ s_
theorem agd(fO fN ub:Nat)(s:fU)(w:World)(Q:Own (fU.R fO fN ub s) w) :
 CR ya 41 (Zi ub) w (fun r w' => ∃ (v:Value) (ys:List Lv),r=v/\s.kL ys/\fV (fU.R fO fN ub s) w w' (G7 fO fN ub s v ys)):=by
 have am:s.t.A.used<=s.t.A.n:=Q.fact.tok.ul
 have Y:=Q.fact.n
 have ai:=Q.fact.tn
 have ah:=Q.fact.en
 have aj:=Q.fact.vn
 have af:s.A.used<=s.A.begun:=by have V:=Q.fact.lE.used;omega
 have ad:=Q.fact.lE.le
 have ab:s.live.length=s.A.begun:=Q.fact.ll
 have ag:(s.A.list s.A.begun).length=s.A.used:=Q.fact.lE.AU
 have ae:s.A.n=fN:=Y
 refine enter (vs:=(Zf ub)) Tryz.func41 rfl Tryz.ntmps41 rfl ?_
 have X:St _ (MZ ub fO fN s (some s.mb)) w:=Own.of Q.un
 have U:s.ok fO fN:=Q.fact
 have l:St _ [(fU.R fO fN ub s)] w:=yt (p:=s.ok fO fN) (yc [_,_,_,_,_,_] _ X) U
 refine fR X 9 ?_
 refine jO (vl:=(Zf ub)) rfl rfl AG (Bu fO fN ub s w (lJ l (i:=0) rfl)) ?_
 rintro _ e ⟨rfl,T⟩
 have B:St _ [(fU.R fO fN ub s)] e:=mh (R' := (fU.R fO fN ub s)) 0 l rfl T rfl
 have f:St _ (MZ ub fO fN s (some s.mb)) e:=(ku B).unpack
 refine fK f 18 ?_
 refine jO (vl:=(Zf s.jj)) rfl rfl PJ (Us s.jj s.aw e (lJ f (i:=4) rfl)) ?_
 rintro a o ⟨_,rfl,T⟩
 have C:=yg [4,0,1,2,3,5] f
 have g:St _ [(xC s),fL fS a 3 1 (s.A.list s.A.begun),blk ub 174 (pY fO fN s (some s.mb)),fL Lv.cells s.lv 43 7 s.live,ic s.mb .u64 p_ s.im,jE 3 s.im,(xD s)] o:=yv (mh (R' := (gm [(xC s),fL fS a 3 1 (s.A.list s.A.begun)])) 0 C rfl T rfl)
 refine iM (m:=(s.A.list s.A.begun).length) 1 rfl rfl yd g rfl ?_
 have D:St _ [fL Lv.cells Zg 43 7 (((s.A.list s.A.begun).take 0).map (fJ s.live)),(xC s),fL fS a 3 1 (s.A.list s.A.begun),blk ub 174 (pY fO fN s (some s.mb)),fL Lv.cells s.lv 43 7 s.live,ic s.mb .u64 p_ s.im,jE 3 s.im,(xD s)] o:=oQ g 43 7
 have E:=yg [3,4,5,6,1,7,2,0] D
 refine gD g 4 ?_
 refine lp (α:=Nat×Value) (fun(k,F)=>[(0,(Zb ub)),(3,F),(13,a),(14,(Za ((s.A.list s.A.begun).length:Int))),(15,(Za k))]) (fun(k,F) w1=>St [(w,(fU.R fO fN ub s).gH)] (MY ub fO fN s (some s.mb) a (s.A.list s.A.begun) F (((s.A.list s.A.begun).take k).map (fJ s.live))) w1/\k<=(s.A.list s.A.begun).length) (fun(k,F)=>(s.A.list s.A.begun).length-k) (0,Zg) ⟨rfl,rfl,rfl,rfl,gj (by first|rfl|omega),trivial⟩ (⟨E,o_⟩) ?_
 rintro⟨k,F⟩ L G ⟨S,al⟩
 refine fR S 2 ?_
 by_cases M:((k:Int):Int)<(((s.A.list s.A.begun).length:Int):Int)
 . have W:k<(s.A.list s.A.begun).length:=by omega
   have ak:fJ (s.A.list s.A.begun) k<s.live.length:=by rw[ab];exact((U.lE.pn _).1 (r6.2 ⟨k,W,rfl⟩)).1
   refine fK S 25 ?_
   refine jJ (vs:=[(Ak (fJ s.live (fJ (s.A.list s.A.begun) k)))]) (cs:=(Z6 (fJ s.live (fJ (s.A.list s.A.begun) k)))) rfl rfl qD mU rfl (by simp[Value.cells]) rfl rfl rfl S ?_
   intro h H N O b
   have b:St _ (Ht (row (.slice (some ⟨h,0,none⟩) 1 1) 43 7 1 ([(.int .i64 ((fJ s.live (fJ (s.A.list s.A.begun) k)).slot)),(.int .u64 ((fJ s.live (fJ (s.A.list s.A.begun) k)).seq)),(.int .u64 ((fJ s.live (fJ (s.A.list s.A.begun) k)).u)),(.int .u64 ((fJ s.live (fJ (s.A.list s.A.begun) k)).v)),(.int .i64 ((fJ s.live (fJ (s.A.list s.A.begun) k)).wt)),(.int .i64 ((fJ s.live (fJ (s.A.list s.A.begun) k)).t)),(.int .i64 ((fJ s.live (fJ (s.A.list s.A.begun) k)).exp))])) ub fO fN s (some s.mb) a (s.A.list s.A.begun) F (((s.A.list s.A.begun).take k).map (fJ s.live))) H:=b
   refine k8 (cf:=Lv.cells) (ys:=(((s.A.list s.A.begun).take k).map (fJ s.live))) (zs:=[(fJ s.live (fJ (s.A.list s.A.begun) k))]) (LL:=fun c=>(Ht (row (.slice (some ⟨h,0,none⟩) 1 1) 43 7 1 ([(.int .i64 ((fJ s.live (fJ (s.A.list s.A.begun) k)).slot)),(.int .u64 ((fJ s.live (fJ (s.A.list s.A.begun) k)).seq)),(.int .u64 ((fJ s.live (fJ (s.A.list s.A.begun) k)).u)),(.int .u64 ((fJ s.live (fJ (s.A.list s.A.begun) k)).v)),(.int .i64 ((fJ s.live (fJ (s.A.list s.A.begun) k)).wt)),(.int .i64 ((fJ s.live (fJ (s.A.list s.A.begun) k)).t)),(.int .i64 ((fJ s.live (fJ (s.A.list s.A.begun) k)).exp))])) ub fO fN s (some s.mb) a (s.A.list s.A.begun) c ((((s.A.list s.A.begun).take k).map (fJ s.live))++[(fJ s.live (fJ (s.A.list s.A.begun) k))]))) 8 rfl rfl rfl qD mU rfl d_ b rfl (kG b (i:=0) rfl) (fun x hx=>zk.1 (show List.all _ _=true from rfl) x hx) (by simp only[zp,zb,zg,zq,zw,maxLen];omega) (by simp only[zp,zb,zg,zq,zw,maxLen];omega) f_ ?_
   intro c I j P
   have j:St _ (Ht (row (.slice (some ⟨h,0,none⟩) 1 1) 43 7 1 ([(.int .i64 ((fJ s.live (fJ (s.A.list s.A.begun) k)).slot)),(.int .u64 ((fJ s.live (fJ (s.A.list s.A.begun) k)).seq)),(.int .u64 ((fJ s.live (fJ (s.A.list s.A.begun) k)).u)),(.int .u64 ((fJ s.live (fJ (s.A.list s.A.begun) k)).v)),(.int .i64 ((fJ s.live (fJ (s.A.list s.A.begun) k)).wt)),(.int .i64 ((fJ s.live (fJ (s.A.list s.A.begun) k)).t)),(.int .i64 ((fJ s.live (fJ (s.A.list s.A.begun) k)).exp))])) ub fO fN s (some s.mb) a (s.A.list s.A.begun) c ((((s.A.list s.A.begun).take k).map (fJ s.live))++[(fJ s.live (fJ (s.A.list s.A.begun) k))])) I:=j
   have q:=yg [1,2,3,4,5,6,7,8] j
   refine fP q 8 ?_
   refine tN (?_)
   exact again ((k+1),c) ⟨rfl,rfl,rfl,rfl,gj (by first|rfl|omega),trivial⟩ (⟨by rw[FZ _ W];exact q,o_⟩) (by show ((s.A.list s.A.begun).length-(k+1):Nat)<(s.A.list s.A.begun).length-k;omega)
 . refine fK S 13 ?_
   refine jO (vl:=[F,(.func (.func 86) #[] #[])]) rfl rfl YC (ae2 F (((s.A.list s.A.begun).take k).map (fJ s.live)) G (lJ S (i:=7) rfl) (by rw[zq,zw];omega)) ?_
   rintro _ J ⟨d,rfl,y,T⟩
   have z:St _ (MY ub fO fN s (some s.mb) a (s.A.list s.A.begun) F d) J:=mh (R' := fL Lv.cells F 43 7 d) 7 S rfl T rfl
   refine fP z 9 ?_
   refine gq (v:=F) Tryz.results41 rfl ?_
   have K:=yg [0,1,2,3,4,5,7,6] z
   have Z:k=(s.A.list s.A.begun).length:=by omega
   subst Z
   have aa:=fU.abu U (by have V:=y.1;rwa [tq]at V) y.2
   have ac:=yt (p:=fU.ok fO fN s) (yc [_,_,_,_,_,_] _ K) U
   exact⟨F,d,rfl,aa,ym (R' := (G7 fO fN ub s F d)) (yc [_,_] _ ac) za⟩
end
section
open Go Go.Sx
theorem Ks{fO fN ub:Nat}{s:fU}{w:World}(h:Own (fU.R fO fN ub s) w):s.t.A.ok :=
 (y8 (Own.of (lJ (Own.of h.un) (i:=5) rfl).un) (i:=3) rfl:s.t.w.A.ok)
theorem S4(sb hb n:Nat)(s:QS)(w:World)(c:Own (QS.SR sb hb n s) w)(now:Int)(d:n<=65536) :
 CR ya 73 (Zm sb now) w (fun r w' => ∃ v ds t,v=r/\rH n s t ds now/\fV (QS.SR sb hb n s) w w' (gm [QS.SR sb hb n t,fL fS v 3 1 ds])):=by
 refine CR.mono (aeE sb hb n s w c now d) fun r w' ⟨v,ds,t,a,b,e⟩=>⟨v,ds,t,a.symm,b,?_⟩
 rw[CZ f_]
 exact e
theorem Vx(cb:Nat)(win now:Int)(w:World)(c:Own (Zv cb win now) w)(h1:1<=win)(e:ia .i64 win)(t:Int)(d:ia .i64 t)(a:now<=t)(b : -9223372036854775808<=t+win/\t+win<=9223372036854775807) :
 CR ya 72 (Zm cb t) w (fun r w' => r = .int .i64 0/\fV (Zv cb win now) w w' (Zv cb win t)):=by
 have h:=Vy cb win now w c h1 e t d
 rw[Oe a b,if_pos rfl]at h
 exact h
theorem Uz(c:WC)(V:Nat)(s:WW)(w:World)(Z:Own (WW.R c V s) w)(T:Int)(hT:s.now<=T)(ad:T<=1000000) :
 CR ya 31 (Zm V T) w (fun r w' => ∃ (s2:WW),r = .int .i64 0/\(s2.now=T/\s2.added=s.added/\(∀ y,s2.u.has y↔s.u.has y/\T<y.exp)/\s2.u.last=s.u.last)/\fV (WW.R c V s) w w' (WW.R c V s2)):=by
 refine en Tryz.func31 Tryz.ntmps31 ?_
 have Y:=Own.of Z.un
 have F:s.ok c:=Z.fact
 have aj:=F.w1
 have am:=F.wi
 have an:=F.n0
 have ao:=F.n1
 have ac:fU.ok c.fO c.fN s.u:=(y8 Y (i:=2) rfl)
 have av:=F.en
 have au:=F.e1
 have ay:=F.v2
 have az:=F.vn
 have ap:=F.a0
 have aq:=F.a1
 have ax:=F.la
 have aw:=ac.sS
 have n:=yt (p:=s.ok c) (yc [_,_,_,_,_] _ Y) F
 refine fR Y 9 ?_
 refine cl vZ (xe c V s w (ye n 0 rfl)) ?_
 rintro _ z ⟨rfl,S⟩
 have A:=yj 0 n S
 have f:=(ku A).unpack
 refine fK f 14 ?_
 refine cl Yv (Vx s.cb c.win s.now z (ye f 1 rfl) aj (kR o_) T (kR o_) hT o_) ?_
 rintro _ B ⟨rfl,S⟩
 have h:=yj 1 f S
 refine fK h 20 ?_
 refine cl PF (S4 s.sb s.hb c.fN s.q B (ye h 3 rfl) T o_) ?_
 rintro _ K ⟨o,a,j,rfl,b,S⟩
 have C:=yg [3,0,1,2,4] h
 have l:=yv (yj 0 C S)
 have ak:a.length<=c.fN:=b.len
 refine iM (m:=a.length) 1 rfl rfl yd l rfl ?_
 have D:=yg [2,3,4,0,5,1] l
 refine gD l 4 ?_
 refine lp (α:=Nat×fU×GW×Int) (fun(k,U,g2,ex)=>[(0,(Zb V)),(25,o),(26,(Za a.length)),(27,(Za k))]) (fun(k,U,g2,ex) w1=>St [(w,(WW.R c V s).gH)] [blk V 118 [(Za c.win),(Za c.fN),(Za c.fO),(Za c.kW),(Zb s.cb),(Zb s.ub),(Zb s.sb),(Zb s.ob),(Zo s.added),(Zo ex)],(Zv s.cb c.win T),(fU.R c.fO c.fN s.ub U),(QS.SR s.sb s.hb c.fN j),(GW.R c.fO c.fN s.ob g2),fL fS o 3 1 a] w1/\pS s.u U (a.take k)/\ia .u64 ex/\k<=a.length) (fun(k,U,g2,ex)=>a.length-k) (0,s.u,s.g,s.jU) ⟨rfl,rfl,rfl,gj rO,trivial⟩ (⟨D,pS.start _,F.ex,o_⟩) ?_
 rintro⟨k,U,g2,ex⟩ L E ⟨X,W,af,al⟩
 refine fR X 2 ?_
 by_cases M:((k:Int):Int)<((a.length:Int):Int)
 . have ab:k<a.length:=by omega
   refine fK X 22 ?_
   refine cl Yw (ZS c.fO c.fN s.ob g2 E (ye X 4 rfl)) ?_
   rintro _ G ⟨H,N,O,rfl,S⟩
   have d:=yj 4 X S
   have ai:=(y8 d (i:=2) rfl:fU.ok c.fO c.fN U)
   have ae:=pS.can W F.Bn ai b (gy ab)
   refine fK d 9 ?_
   refine cl PG (Ud c.fO c.fN s.ub U G (ye d 2 rfl) (fJ a k) ae) ?_
   rintro _ P ⟨I,rfl,t,S⟩
   have x:=yj 2 d S
   refine fK x 7 ?_
   refine ar (e:=IntKind.u64.wrap (ex+1)) rfl rfl rfl rfl rfl (jV x 10 fun Q J=>?_)
   refine tN (?_)
   exact again ((k+1),I,H,IntKind.u64.wrap (ex+1)) ⟨rfl,rfl,rfl,gj rO,trivial⟩ (⟨J,by rw[oU,gy ab];exact W.next t.1 t.2.1,aan _,o_⟩) (by show (a.length-(k+1):Nat)<a.length-k;omega)
 . refine fP X 16 ?_
   refine gq (v:=Zc) Tryz.results31 rfl ?_
   have ag:k=a.length:=by omega
   rw[ag,tq]at W
   have aa:=W.fin F.Bn ac b
   have ah:=F.tick hT ad af b aa W.last (g2:=g2)
   exact⟨(⟨s.cb,s.ub,s.sb,s.hb,s.ob,T,j,U,g2,s.added,ex⟩:WW),rfl,⟨rfl,rfl,aa,W.last⟩,ym (yt (p:=WW.ok c (⟨s.cb,s.ub,s.sb,s.hb,s.ob,T,j,U,g2,s.added,ex⟩:WW)) (yc [_,_,_,_,_] _ X) ah) za⟩
end
section
open Go Go.Sx
theorem VD(cb:Nat)(win now:Int)(w:World)(b:Own (Zv cb win now) w)(h1:1<=win)(d:ia .i64 win)(t:Int)(c:ia .i64 t)(a : -9223372036854775808<=t+win/\t+win<=9223372036854775807) :
 CR ya 138 (Zm cb t) w (fun r w' => r = .tuple (xz (t+win))/\fV (Zv cb win now) w w' (Zv cb win now)):=by
 have h:=VE cb win now w b h1 d t c
 rw[Ao a]at h
 exact h
abbrev adu:List (List Nat):=[[],[0],[0,1],[0,1,2],[],[],[0,1,2,3,4,5],[0,1,2,3,4,5,6],[0,1,2,3,4,5,6,7],[0,1,2,3,4,5,6,7],[],[0,1,2,3,4,5,6,7,8,10],[0,1,2,3,4,5,6,7,8,9,10,11]]
theorem agI(c:WC)(T:Nat)(s:WW)(w:World)(hO:Own (WW.R c T s) w)(x:Lv)(au:x.ok)(az:x.t=s.now)(hc:s.u.gJ c.fO c.fN x.u x.v=0)(ha:s.added<1000000) :
 CR ya 79 (xB T x) w (fun r w' => ∃ (s2:WW),r = .tuple #[]/\(s2.now=s.now/\s2.added=s.added+1/\(∃ i:Nat,∀ y,s2.u.has y↔s.u.has y\/y=(⟨((i:Nat):Int),s.u.last+1,x.u,x.v,x.wt,x.t,x.t+c.win⟩:Lv))/\s2.u.last=s.u.last+1)/\fV (WW.R c T s) w w' (WW.R c T s2)):=by
 refine en Tryz.func79 Tryz.ntmps79 ?_
 have aw:=Own.of hO.un
 have hW:s.ok c:=hO.fact
 have aF:=hW.w1
 have aI:=hW.wi
 have aJ:=hW.n0
 have aK:=hW.n1
 have ay:fU.ok c.fO c.fN s.u:=(y8 aw (i:=2) rfl)
 have aO:=hW.en
 have aN:=hW.e1
 have aR:=hW.v2
 have aS:=hW.vn
 have aL:=hW.a0
 have aM:=hW.a1
 have aQ:=hW.la
 have aP:=ay.sS
 have aB:s.u.last<=9000000000000000000:=by omega
 have aT:=az
 have aC:Lv.ok (Lv.mk x.slot x.seq x.u x.v x.wt x.t (x.t+c.win)):=⟨au.slot,au.seq,au.u,au.v,au.wt,au.t,kR (by show _/\_;dsimp only;omega)⟩
 refine fR aw 2 ?_
 refine iC aw (fun f ae af ag M=>?_)
 refine gI M 10 fun N A=>?_
 refine cl W5 (VD s.cb c.win s.now N (ye A 2 rfl) aF (kR o_) x.t au.t o_) ?_
 rintro _ ah ⟨rfl,ht⟩
 have B:=yj 2 A ht
 refine gD B 8 ?_
 refine SS (Γ:=Nat×fU×Nat) mixed adu [6,10,11] k_ [fun(a,b,d)=>(Zb T),fun(a,b,d)=>(Zb T),fun(a,b,d)=>(.pointer (some ⟨T,5,none⟩)),fun(a,b,d)=>(Zb s.ub),fun(a,b,d)=>(D6 x),fun(a,b,d)=>(Za (x.t+c.win)),fun(a,b,d)=>(Cb ((a:Nat):Int) (s.u.last+1) x (x.t+c.win)),fun(a,b,d)=>(Cb ((a:Nat):Int) (s.u.last+1) x (x.t+c.win)),fun(a,b,d)=>(M6 ((a:Nat):Int) (s.u.last+1) x (x.t+c.win)),fun(a,b,d)=>Zc,fun(a,b,d)=>(Zb d),fun(a,b,d)=>undef,fun(a,b,d)=>Zc] [([],(fun(a,b,d)=>[blk f 41 (Z3 x),blk T 118 (xI c.win c.fN c.fO c.kW s),(Ai s c.win),(fU.R c.fO c.fN s.ub s.u),(B6 s c.fN),(GW.R c.fO c.fN s.ob s.g)],fun _ _=>True)),([6],(fun(a,b,d)=>[blk f 41 (Z3 x),blk T 118 (xI c.win c.fN c.fO c.kW s),(Ai s c.win),kO ((∀ y,fU.has b y↔s.u.has y\/y=(⟨((a:Nat):Int),s.u.last+1,x.u,x.v,x.wt,x.t,x.t+c.win⟩:Lv))/\fU.last b=s.u.last+1/\TW.Kp s.u.t (fU.t b)) (fU.R c.fO c.fN s.ub b),(B6 s c.fN),(GW.R c.fO c.fN s.ob s.g)],fun _ _=>True)),([10],(fun(a,b,d)=>[blk d 43 nD,blk f 41 (Z3 x),blk T 118 (xI c.win c.fN c.fO c.kW s),(Ai s c.win),(fU.R c.fO c.fN s.ub s.u),(B6 s c.fN),(GW.R c.fO c.fN s.ob s.g)],fun _ _=>True)),([6,10],(fun(a,b,d)=>[blk d 43 nD,blk f 41 (Z3 x),blk T 118 (xI c.win c.fN c.fO c.kW s),(Ai s c.win),kO ((∀ y,fU.has b y↔s.u.has y\/y=(⟨((a:Nat):Int),s.u.last+1,x.u,x.v,x.wt,x.t,x.t+c.win⟩:Lv))/\fU.last b=s.u.last+1/\TW.Kp s.u.t (fU.t b)) (fU.R c.fO c.fN s.ub b),(B6 s c.fN),(GW.R c.fO c.fN s.ob s.g)],fun _ _=>True)),([6,10,11],(fun(a,b,d)=>(MK d ((a:Nat):Int) (s.u.last+1) x (x.t+c.win) f T c.win c.fN c.fO c.kW s ((∀ y,fU.has b y↔s.u.has y\/y=(⟨((a:Nat):Int),s.u.last+1,x.u,x.v,x.wt,x.t,x.t+c.win⟩:Lv))/\fU.last b=s.u.last+1/\TW.Kp s.u.t (fU.t b)) b),fun _ _=>True))] (0,s.u,0) (fun(a,b,d)=>(7,Zc) :: (6,(Zb d)) :: (31,Zc) :: (30,(M6 ((a:Nat):Int) (s.u.last+1) x (x.t+c.win))) :: (22,(Cb ((a:Nat):Int) (s.u.last+1) x (x.t+c.win))) :: (29,(Cb ((a:Nat):Int) (s.u.last+1) x (x.t+c.win))) :: (28,(Za (x.t+c.win))) :: (27,(D6 x)) :: (26,(Zb s.ub)) :: (25,(.pointer (some ⟨T,5,none⟩))) :: (24,(Zb T)) :: (23,(Zb T)) :: _) rfl B (fun _ _=>trivial) ?_ (fun(a,b,d)=>rfl) rfl ?_
 . skip
   refine nJ rfl (fun(a,b,d) _ _=>qv rfl rfl (lI (v:=(Zb T)) rfl)) (nJ rfl (fun(a,b,d) _ _=>qv rfl rfl (yF rfl)) (nJ rfl (fun(a,b,d) _ _=>qv rfl rfl (uN (o' := 5) rfl Tryz.underlying118 rfl Lx rfl)) (Bc rfl ⟨(fun(a,b,d) wq F hF=>qv rfl rfl (mM rfl GA rfl (lT F 1 rfl rfl))),trivial,(fun(a,b,d) wq F hF=>qv rfl rfl (mM rfl GA rfl (lT F 2 rfl rfl))),trivial,trivial,trivial⟩ (Bc rfl ⟨(fun(a,b,d) wq F hF=>qv rfl rfl (tP (cs:=(Z3 x)) rfl Dm rfl vk rfl (me F (i:=0) (o:=0) (vs:=(Z3 x)) rfl rfl))),trivial,(fun(a,b,d) wq F hF=>qv rfl rfl (tP (cs:=(Z3 x)) rfl Dm rfl vk rfl (me F (i:=1) (o:=0) (vs:=(Z3 x)) rfl rfl))),trivial,trivial,trivial⟩ (nJ rfl (fun(a,b,d) _ _=>qv rfl rfl (lI (v:=(Za (x.t+c.win))) rfl)) (Bb rfl ⟨⟨_,_,rfl,fun(a,b,d) wq F hF=>Fi rfl rfl (sP rfl OS) (Ua c.fO c.fN s.ub s.u wq (ye F 3 rfl) (Lv.mk x.slot x.seq x.u x.v x.wt x.t (x.t+c.win)) aC hc aB) (fun _ _ hz=>by obtain⟨l,m,rfl,av,ax⟩:=hz;exact⟨(l,m,d),⟨(yj 3 F (ax.Gm av)),trivial⟩,rfl,lu rfl sT⟩)⟩,trivial,⟨_,_,rfl,fun(a,b,d) wq F hF=>Fi rfl rfl (sP rfl OS) (Ua c.fO c.fN s.ub s.u wq (ye F 4 rfl) (Lv.mk x.slot x.seq x.u x.v x.wt x.t (x.t+c.win)) aC hc aB) (fun _ _ hz=>by obtain⟨l,m,rfl,av,ax⟩:=hz;exact⟨(l,m,d),⟨(yj 4 F (ax.Gm av)),trivial⟩,rfl,lu rfl sT⟩)⟩,trivial,trivial,trivial⟩ (nJ rfl (fun(a,b,d) _ _=>qv rfl rfl (lI (v:=(Cb ((a:Nat):Int) (s.u.last+1) x (x.t+c.win))) rfl)) ?_)))))))
   refine nJ rfl (fun(a,b,d) _ _=>qv rfl rfl (EJ rfl rfl)) (nJ rfl (fun(a,b,d) _ _=>qv rfl rfl (EJ rfl rfl)) (Bb rfl ⟨⟨_,_,rfl,fun(a,b,d) wq F hF=>Fe (cs:=nD) rfl mU rfl F (fun n _ h=>⟨(a,b,n),⟨h,trivial⟩,rfl,lu rfl sT⟩)⟩,⟨_,_,rfl,fun(a,b,d) wq F hF=>Fe (cs:=nD) rfl mU rfl F (fun n _ h=>⟨(a,b,n),⟨h,trivial⟩,rfl,lu rfl sT⟩)⟩,trivial,trivial,trivial,trivial⟩ (Bb rfl ⟨trivial,trivial,trivial,⟨_,_,rfl,fun(a,b,d) wq F hF=>JT (L' := (MK d ((a:Nat):Int) (s.u.last+1) x (x.t+c.win) f T c.win c.fN c.fO c.kW s ((∀ y,fU.has b y↔s.u.has y\/y=(⟨((a:Nat):Int),s.u.last+1,x.u,x.v,x.wt,x.t,x.t+c.win⟩:Lv))/\fU.last b=s.u.last+1/\TW.Kp s.u.t (fU.t b)) b)) 0 rfl rfl rfl rfl mU rfl rfl F rfl rfl rfl rfl (fun _ h=>⟨(a,b,d),⟨h,trivial⟩,rfl,mq.refl _ _ _⟩)⟩,trivial,trivial⟩ (nJ rfl (fun(a,b,d) _ _=>qv rfl rfl (vS (v:=Zc) rfl)) ?_))))
   exact RH
 rintro⟨a,b,d⟩ ai O -
 have C:=yg [4,0,1,2,3,5,6] O
 have k:=sC C
 have D:=ku C
 have ar:=(y8 D (i:=0) rfl:fU.ok c.fO c.fN b)
 have aD:=hW.free ay ar (i:=a) (e:=(⟨((a:Nat):Int),s.u.last+1,x.u,x.v,x.wt,x.t,x.t+c.win⟩:Lv)) rfl rfl k.1
 have aA:a<c.fN:=by obtain⟨j,h7,_,_,h8⟩:=ar.AN ((k.1 _).2 (.inr rfl));have h9:((a:Nat):Int)=(j:Int):=h7;omega
 refine KZ tt none D 9 fun P E=>?_
 refine cl Ev (Gj c.fO c.fN s.ub b P (ye E 0 rfl) x.u) ?_
 rintro _ aj ⟨G,ak,rfl,Q,ht⟩
 have S:=yj 0 E ht
 have aG:G<c.fO:=by have h7:=TW.oD.lt Q ar.tok (by rw[ar.tn];omega);rw[ar.tn]at h7;exact h7
 refine gI S 15 fun U H=>?_
 refine cl Ev (Gj c.fO c.fN s.ub b U (ye H 0 rfl) x.v) ?_
 rintro _ al ⟨I,am,rfl,V,ht⟩
 have W:=yj 0 H ht
 have aH:I<c.fO:=by have h7:=TW.oD.lt V ar.tok (by rw[ar.tn];omega);rw[ar.tn]at h7;exact h7
 refine gI W 16 fun X J=>?_
 refine cl W7 (afb s.sb s.hb c.fN s.q X (ye J 5 rfl) a aA aD (x.t+c.win) (kR o_)) ?_
 rintro _ an ⟨K,rfl,Y,ht⟩
 have Z:=yj 5 J ht
 refine gI Z 13 fun aa L=>?_
 refine cl W8 (ZM c.fO c.fN s.ob s.g aa (ye L 6 rfl) a G I (x.t+c.win) aA aG aH (kR o_)) ?_
 rintro _ ao ⟨z,ap,rfl,ht⟩
 have ab:=yj 6 L ht
 refine jV ab 12 fun aq ac=>?_
 refine iS Tryz.results79 ?_
 have ad:=yg [3,4,0,5,6,1,2] ac
 have aE:=hW.ins ay (i:=a) (e:=(⟨((a:Nat):Int),s.u.last+1,x.u,x.v,x.wt,x.t,x.t+c.win⟩:Lv)) rfl rfl az (by show x.t+c.win=_;rw[az]) k.1 k.2.1 Y ha (g2:=z)
 exact⟨(⟨s.cb,s.ub,s.sb,s.hb,s.ob,s.now,K,b,z,s.added+1,s.jU⟩:WW),rfl,⟨rfl,rfl,⟨a,k.1⟩,k.2.1⟩,ym (yt (p:=WW.ok c (⟨s.cb,s.ub,s.sb,s.hb,s.ob,s.now,K,b,z,s.added+1,s.jU⟩:WW)) (yc [_,_,_,_,_] _ ad) aE) za⟩
end
section
open Go Go.Sx
theorem ag1(c:WC)(wb:Nat)(s:WW)(w:World)(hO:Own (WW.R c wb s) w)(x:Lv)(aY:x.ok) :
 CR ya 78 (xB wb x) w (fun r w' => ∃ (e:Int),r = .int .i64 e/\((e=0->Room c s x)/\(s.u.gJ c.fO c.fN x.u x.v=0->e=0))/\fV (WW.R c wb s) w w' (WW.R c wb s)):=by
 refine en Tryz.func78 Tryz.ntmps78 ?_
 have aM:=Own.of hO.un
 have F:s.ok c:=hO.fact
 have a3:=F.w1
 have a4:=F.wi
 have a5:=F.n0
 have a6:=F.n1
 have aP:fU.ok c.fO c.fN s.u:=(y8 aM (i:=2) rfl)
 have ba:=F.en
 have a9:=F.e1
 have bd:=F.v2
 have be:=F.vn
 have a7:=F.a0
 have a8:=F.a1
 have bc:=F.la
 have bb:=aP.sS
 have aT:=Ks (ye aM 2 rfl)
 have bf:=aY.t.i64
 refine fR aM 2 ?_
 refine iC aM (fun B al am an N=>?_)
 refine gI N 10 fun O C=>?_
 refine cl IE (LX c.fO c.fN s.ub s.u O (ye C 3 rfl) x) ?_
 rintro _ D ⟨rfl,T⟩
 have b:=yj 3 C T
 refine fK b 7 ?_
 by_cases E:(fU.gJ s.u c.fO c.fN x.u x.v:Int)=(0:Int)
 . have aL:=E
   refine fP b 11 ?_
   refine gq (v:=Zc) GJ rfl ?_
   have P:=yg [1,2,3,4,5,0] b
   exact⟨0,rfl,⟨(fun _=>Room.of aP aT aL fun y hy=>hy.1),fun _=>rfl⟩,ym (yt (p:=s.ok c) (yc [_,_,_,_,_] _ P) F) za⟩
 . have aL:=E
   obtain⟨Q,ao⟩:∃ q,BI s.q.fQ.length=q:=⟨_,rfl⟩
   refine fK b 13 ?_
   rcases Q with h0|h0
   . skip
     refine cl OR (aeU s.sb s.hb c.fN s.q D (ye b 4 rfl) h0) ?_
     rintro _ ap ⟨rfl,T⟩
     have G:=yj 4 b T
     refine fK G 3 ?_
     refine iE G (fun aq ar au av S=>?_)
     refine jV S 26 fun aw U=>?_
     refine gq (v:=(Za (fU.gJ s.u c.fO c.fN x.u x.v))) GJ rfl ?_
     have V:=yg [2,3,4,5,6,0,1] U
     exact⟨fU.gJ s.u c.fO c.fN x.u x.v,rfl,⟨(fun h7=>absurd h7 aL),fun h7=>absurd h7 aL⟩,ym (yt (p:=s.ok c) (yc [_,_,_,_,_] _ V) F) za⟩
   . skip
     refine cl OR (aeV s.sb s.hb c.fN s.q D (ye b 4 rfl) h0) ?_
     rintro _ ax ⟨rfl,T⟩
     have H:=yj 4 b T
     refine fK H 3 ?_
     refine iE H (fun ay az aA aB W=>?_)
     refine gI W 13 fun X d=>?_
     by_cases aC:((fJ s.q.fQ 0).key:Int)>(x.t:Int)
     . refine fP d 13 ?_
       refine gq (v:=(Za (fU.gJ s.u c.fO c.fN x.u x.v))) GJ rfl ?_
       have Y:=yg [2,3,4,5,6,0,1] d
       exact⟨fU.gJ s.u c.fO c.fN x.u x.v,rfl,⟨(fun h7=>absurd h7 aL),fun h7=>absurd h7 aL⟩,ym (yt (p:=s.ok c) (yc [_,_,_,_,_] _ Y) F) za⟩
     . refine fK d 13 ?_
       refine cl W3 (af7 c.fO c.fN s.ub s.u X (ye d 4 rfl)) ?_
       rintro _ aD ⟨f,h,rfl,n,T⟩
       have Z:=yg [4,0,1,2,3,5,6] d
       have I:=yv (yj 0 Z T)
       refine gD I 5 ?_
       refine kC mixed [([0,1,2,3,5,6,9,4],[6])] [7,8] I (fun aa o=>jA ?_)
       refine fK o 7 ?_
       refine cl W4 (aeC s.sb s.hb c.fN s.q aa (ye o 6 rfl)) ?_
       rintro _ ab ⟨ac,ad,ae,rfl,af,T⟩
       have ag:=yg [6,0,1,2,3,4,5,7] o
       have z:=yv (yj 0 ag T)
       refine fP z 1 ?_
       refine kn (kF ?_)
       refine cl PF (S4 ac ad c.fN ae ab (ye z 1 rfl) x.t o_) ?_
       rintro _ aE ⟨J,a,aF,rfl,ah,T⟩
       have ai:=yg [1,0,2,3,4,5,6,7,8] z
       have j:=yv (yj 0 ai T)
       have A:=rH.acz ah af
       refine iM (m:=a.length) 1 rfl rfl yd j rfl ?_
       have aZ:a.length<=c.fN:=A.len
       have aO:DN h s.q:=fun e=>(F.Bn e).trans ⟨fun⟨y,h1,h2⟩=>⟨y,(n.1 y).2 h1,h2⟩,fun⟨y,h1,h2⟩=>⟨y,(n.1 y).1 h1,h2⟩⟩
       have aW:=(y8 j (i:=4) rfl:fU.ok c.fO c.fN h)
       have aj:=yg [7,8,3,2,9,4,1,6] j
       refine gD j 3 ?_
       refine lp (α:=Nat×fU) (fun(k,u2)=>[(3,(Zb B)),(8,(Zb f)),(49,J),(50,(Za a.length)),(51,(Za k))]) (fun(k,u2) w1=>St [(w,(WW.R c wb s).gH)] [blk wb 118 (xI c.win c.fN c.fO c.kW s),(Ai s c.win),(fU.R c.fO c.fN s.ub s.u),(B6 s c.fN),(GW.R c.fO c.fN s.ob s.g),(fU.R c.fO c.fN f u2),fL fS J 3 1 a,blk B 41 (Z3 x)] w1/\pS h u2 (a.take k)/\k<=a.length) (fun(k,u2)=>a.length-k) (0,h) ⟨rfl,rfl,rfl,rfl,gj rO,trivial⟩ (⟨aj,pS.start _,o_⟩) ?_
       rintro⟨k,u2⟩ aG K ⟨aK,hR,a2⟩
       refine fR aK 2 ?_
       by_cases aH:((k:Int):Int)<((a.length:Int):Int)
       . have aN:k<a.length:=by omega
         have aV:=(y8 aK (i:=5) rfl:fU.ok c.fO c.fN u2)
         have aQ:=pS.can hR aO aV A (gy aN)
         refine fK aK 19 ?_
         refine cl PG (Ud c.fO c.fN f u2 K (ye aK 5 rfl) (fJ a k) aQ) ?_
         rintro _ aI ⟨ak,rfl,L,T⟩
         have M:=yj 5 aK T
         refine fP M 7 ?_
         refine tN (?_)
         exact again ((k+1),ak) ⟨rfl,rfl,rfl,rfl,gj rO,trivial⟩ (⟨M,by rw[oU,gy aN];exact hR.next L.1 L.2.1,o_⟩) (by show (a.length-(k+1):Nat)<a.length-k;omega)
       . refine fK aK 14 ?_
         refine cl IE (LX c.fO c.fN f u2 K (ye aK 5 rfl) x) ?_
         rintro _ aJ ⟨rfl,T⟩
         have l:=yj 5 aK T
         refine fP l 4 ?_
         refine gq (v:=(Za (fU.gJ u2 c.fO c.fN x.u x.v))) GJ rfl ?_
         have aX:=(y8 l (i:=5) rfl:fU.ok c.fO c.fN u2)
         have aU:=Ks (ye l 5 rfl)
         have aS:k=a.length:=by omega
         rw[aS,tq]at hR
         have aR:=hR.fin aO aW A
         exact⟨fU.gJ u2 c.fO c.fN x.u x.v,rfl,⟨(fun h7=>Room.of aX aU h7 fun y hy=>(aR y).2 ⟨(n.1 y).2 hy.1,hy.2⟩),fun h7=>absurd h7 aL⟩,ym (yt (p:=s.ok c) (yc [_,_,_,_,_] _ l) F) za⟩
end
section
open Go Go.Sx
theorem rj{c:WC}{a:Nat}{s:WW}{w:World}(h:Own (WW.R c a s) w):s.ok c/\s.u.ok c.fO c.fN/\s.u.t.A.ok :=
 ⟨h.fact,(y8 (Own.of h.un) (i:=2) rfl:fU.ok c.fO c.fN s.u),Ks (lJ (Own.of h.un) (i:=2) rfl)⟩
theorem VA(cb:Nat)(win now:Int)(w:World)(c:Own (Zv cb win now) w)(h1:1<=win)(e:ia .i64 win)(t:Int)(d:ia .i64 t)(a:now<=t)(b : -9223372036854775808<=t+win/\t+win<=9223372036854775807) :
 CR ya 77 (Zm cb t) w (fun r w' => r = .int .i64 0/\fV (Zv cb win now) w w' (Zv cb win now)):=by
 have h:=Oa cb win now w c h1 e t d
 rw[Oe a b]at h
 exact h
theorem Ui(c:WC)(T:Nat)(s:WW)(w:World)(Y:Own (WW.R c T s) w)(x:Lv)(W:x.ok)(ab:s.now<=x.t)(ai:x.t<=1000000)(ha:s.added<1000000) :
 CR ya 33 (xB T x) w (fun r w' => ∃ (e:Int) (s2:WW),r = .int .i64 e/\WW.UL c s s2 x e/\fV (WW.R c T s) w w' (WW.R c T s2)):=by
 refine en Tryz.func33 Tryz.ntmps33 ?_
 have V:=Own.of Y.un
 have F:s.ok c:=Y.fact
 have ag:=F.w1
 have ak:=F.wi
 have al:=F.n0
 have am:=F.n1
 have af:fU.ok c.fO c.fN s.u:=(y8 V (i:=2) rfl)
 have aq:=F.en
 have ap:=F.e1
 have av:=F.v2
 have aw:=F.vn
 have an:=F.a0
 have ao:=F.a1
 have au:=F.la
 have ar:=af.sS
 refine fR V 2 ?_
 refine iC V (fun L A M N l=>?_)
 have B:=yg [1,2,3,4,5,0] l
 have m:=yt (p:=s.ok c) (yc [_,_,_,_,_] _ B) F
 refine fK l 7 ?_
 refine cl vZ (xe c T s A (ye m 0 rfl)) ?_
 rintro _ O ⟨rfl,S⟩
 have C:=yj 0 m S
 have f:=(ku C).unpack
 refine fK f 13 ?_
 by_cases P:(x.u:Int)=(x.v:Int)
 . refine fP f 11 ?_
   refine gq (v:=xF) Tryz.results33 rfl ?_
   have D:=yt (p:=s.ok c) (yc [_,_,_,_,_] _ f) F
   exact⟨9,s,rfl,⟨WW.Step.same s x,fun U=>absurd U o_,fun U=>absurd o_ (fU.Ib U).1⟩,yi D⟩
 . refine gI f 15 fun E n=>?_
   refine cl PI (VA s.cb c.win s.now E (ye n 1 rfl) ag (kR o_) x.t W.t ab o_) ?_
   rintro _ G ⟨rfl,S⟩
   have k:=yj 1 n S
   refine fK k 19 ?_
   refine cmp rfl rfl rfl (p5 o_) ?_
   have o:=yt (p:=s.ok c) (yc [_,_,_,_,_] _ k) F
   refine fK k 10 ?_
   refine cl Yy (ag1 c T s G (ye o 0 rfl) x W) ?_
   rintro _ H ⟨g,rfl,q,S⟩
   have b:=yj 0 o S
   refine fK b 6 ?_
   by_cases I:(g:Int)=(0:Int)
   . have ae:g=0:=by have X:=@I;omega
     refine fK b 11 ?_
     refine cl Pu (Uz c T s H (ye b 0 rfl) x.t ab ai) ?_
     rintro _ J ⟨h,rfl,a,S⟩
     have j:=yj 0 b S
     have aa:=rj (ye j 0 rfl)
     have ad:=q.1 ae h.u aa.2.1 aa.2.2 a.2.2.1
     have ah:x.t=h.now:=a.1.symm
     have ac:h.added<1000000:=by rw[a.2.1];exact ha
     refine fK j 6 ?_
     refine cl Yz (agI c T h J (ye j 0 rfl) x W ah ad ac) ?_
     rintro _ Q ⟨K,rfl,d,S⟩
     have z:=yj 0 j S
     refine fP z 8 ?_
     refine gq (v:=Zc) Tryz.results33 rfl ?_
     obtain⟨aj,Z⟩:=d.2.2.1
     exact⟨0,K,rfl,⟨⟨.inr (d.1.trans a.1),by rw[d.2.1,a.2.1];exact BO _,fun y hy=>((Z y).1 hy).elim (fun X=>.inl ((a.2.2.1 y).1 X).1) (fun e9=>.inr (by rw[e9];exact⟨rfl,rfl,rfl⟩))⟩,fun _=>⟨⟨aj,fun y=>by rw[<-a.2.2.2];exact(Z y).trans (or_congr_left (a.2.2.1 y))⟩,d.2.2.2.trans (by rw[a.2.2.2]),d.1.trans a.1,d.2.1.trans (by rw[a.2.1])⟩,fun _=>rfl⟩,yi z⟩
   . refine fP b 12 ?_
     refine gq (v:=(Za g)) Tryz.results33 rfl ?_
     exact⟨g,s,rfl,⟨WW.Step.same s x,fun U=>absurd U o_,fun U=>q.2 U⟩,yi b⟩
theorem agy(c:WC)(a:Nat)(s:WW)(w:World)(g:Own (WW.R c a s) w)(x:Lv)(i:x.ok)(j:s.now<=x.t)(k:x.t<=1000000)(h:s.added<1000000) :
 CR ya 33 (xB a x) w (fun r w' => ∃ (e:Int) (s2:WW),r = .int .i64 e/\WW.Step s s2 x/\fV (WW.R c a s) w w' (WW.R c a s2)) :=
 CR.mono (Ui c a s w g x i j k h) fun r w' ⟨e,s2,b,d,f⟩=>⟨e,s2,b,d.step,f⟩
theorem agc(fO fN ub:Nat)(s:fU)(w:World)(c:Own (fU.R fO fN ub s) w) :
 CR ya 41 (Zi ub) w (fun r w' => ∃ (v:Value) (ys:List Lv),v=r/\s.kL ys/\fV (fU.R fO fN ub s) w w' (G7 fO fN ub s v ys)) :=
 CR.mono (agd fO fN ub s w c) fun r w' ⟨v,ys,a,b,d⟩=>⟨v,ys,a.symm,b,d⟩
theorem Ut(c:WC)(q:Nat)(s:WW)(w:World)(y:Own (WW.R c q s) w) :
 CR ya 9 (Zi q) w (fun r w' => ∃ (v:Value) (ys:List Lv),v=r/\s.u.kL ys/\fV (WW.R c q s) w w' (gm [(WW.R c q s),fL Lv.cells v 43 7 ys])):=by
 refine en Tryz.func9 Tryz.ntmps9 ?_
 have t:=Own.of y.un
 have o:s.ok c:=y.fact
 have A:=o.w1
 have B:=o.wi
 have C:=o.n0
 have D:=o.n1
 have z:fU.ok c.fO c.fN s.u:=(y8 t (i:=2) rfl)
 have H:=o.en
 have G:=o.e1
 have K:=o.v2
 have L:=o.vn
 have E:=o.a0
 have F:=o.a1
 have J:=o.la
 have I:=z.sS
 have b:=yt (p:=s.ok c) (yc [_,_,_,_,_] _ t) o
 refine fR t 9 ?_
 refine cl vZ (xe c q s w (ye b 0 rfl)) ?_
 rintro _ f ⟨rfl,x⟩
 have g:=yj 0 b x
 have a:=(ku g).unpack
 refine fK a 12 ?_
 refine cl Yh (agc c.fO c.fN s.ub s.u f (ye a 2 rfl)) ?_
 rintro _ n ⟨d,h,rfl,j,x⟩
 have k:=yg [2,0,1,3,4] a
 have e:=yv (yj 0 k x)
 refine fP e 4 ?_
 refine gq (v:=d) Tryz.results9 rfl ?_
 have l:=yg [2,3,0,4,5,1] e
 have m:=yt (p:=s.ok c) (yc [_,_,_,_,_] _ l) o
 exact⟨d,h,rfl,j,yi (yc [_,_] _ m)⟩
end
section
open Go Go.Sx
theorem agM(ab:Nat)(v:AW)(w:World)(a:Own (AW.R ab v) w) :
 CR ya 84 (Zi ab) w (fun r w' => ∃ lv,lv=r/\fV (AW.R ab v) w w' (gm [AW.R ab v,fL fS lv 3 1 (v.A.list v.A.begun)])) :=
 CR.mono (Us ab v w a) fun r w' ⟨lv,h,b⟩=>⟨lv,h.symm,b⟩
theorem afU(tb ab:Nat)(t:TW)(w:World)(hO:Own (TW.R tb ab t) w)(ak:t.A.used<=12) :
 CR ya 223 (Zi tb) w (fun r w' => ∃ (v:Value) (K:List Int),v=r/\((K.Pairwise fun a b=>a<b)/\∀ x,x∈K↔t.mem x)/\fV (TW.R tb ab t) w w' (gm [(TW.R tb ab t),fL gO v 39 1 K])):=by
 refine enter (vs:=(Zf tb)) Tryz.func223 rfl Tryz.ntmps223 rfl ?_
 have ad:St _ (Hz tb ab t) w:=Own.of hO.un
 have hT:t.ok:=hO.fact
 have aa:t.A.ok:=(y8 ad (i:=3) rfl:t.w.A.ok)
 have ah:(t.A.list t.A.begun).length=t.A.used:=aa.AU
 have s:=yc [_,_,_] _ ad
 refine fR ad 9 ?_
 refine jO (vl:=(Zf tb)) rfl rfl vY (w5 tb ab t w (lJ s (i:=0) rfl) hT) ?_
 rintro _ u ⟨rfl,T⟩
 have h:St _ (Hz tb ab t) u:=(mh (R' := (Zz tb ab t)) 0 s rfl T rfl).unpack
 refine fK h 12 ?_
 refine jO (vl:=(Zf ab)) rfl rfl Iw (L9 ab t.w u (lJ h (i:=3) rfl)) ?_
 rintro _ D ⟨rfl,T⟩
 have E:St _ (Hz tb ab t) D:=mh (R' := (AW.R ab t.w)) 3 h rfl T rfl
 refine nY (cf:=gO) (z0:=0) (m:=0) (c:=t.A.used) rfl rfl rfl yz jt rfl f_ d_ (lD _) o_ o_ E ?_
 intro j y Q S G
 have l:St _ [fL gO (Ea j t.A.used) 39 1 (((t.A.list t.A.begun).take 0).map (fJ t.ids)),blk tb 302 (o5 tb ab t),fL gO t.iv 39 1 t.ids,fL fS t.cv 3 1 t.cs,(AW.R ab t.w)] y:=kZ (cf:=gO) G (i:=0) rfl f_ (lD _) (by simp only[maxLen];omega)
 refine fK l 10 ?_
 refine jO (vl:=(Zf ab)) rfl rfl PJ (agM ab t.w y (lJ l (i:=4) rfl)) ?_
 rintro _ H ⟨d,rfl,T⟩
 have I:=yg [4,0,1,2,3] l
 have n:St _ [(AW.R ab t.w),fL fS d 3 1 (t.A.list t.A.begun),fL gO (Ea j t.A.used) 39 1 (((t.A.list t.A.begun).take 0).map (fJ t.ids)),blk tb 302 (o5 tb ab t),fL gO t.iv 39 1 t.ids,fL fS t.cv 3 1 t.cs] H:=yv (mh (R' := (gm [(AW.R ab t.w),fL fS d 3 1 (t.A.list t.A.begun)])) 0 I rfl T rfl)
 refine iM (m:=(t.A.list t.A.begun).length) 1 rfl rfl yd n rfl ?_
 have J:=yg [3,4,5,0,1,2] n
 refine gD n 4 ?_
 refine lp (α:=Nat×Value) (fun(k,F)=>[(0,(Zb tb)),(3,F),(19,d),(20,(Za ((t.A.list t.A.begun).length:Int))),(21,(Za k))]) (fun(k,F) w1=>St [(w,(TW.R tb ab t).gH)] (MH tb ab t d (t.A.list t.A.begun) F (((t.A.list t.A.begun).take k).map (fJ t.ids))) w1/\k<=(t.A.list t.A.begun).length) (fun(k,F)=>(t.A.list t.A.begun).length-k) (0,(Ea j t.A.used)) ⟨rfl,rfl,rfl,rfl,gj (by first|rfl|omega),trivial⟩ (⟨J,o_⟩) ?_
 rintro⟨k,F⟩ U L ⟨Z,aj⟩
 refine fR Z 2 ?_
 by_cases V:((k:Int):Int)<(((t.A.list t.A.begun).length:Int):Int)
 . have ae:k<(t.A.list t.A.begun).length:=by omega
   have ai:fJ (t.A.list t.A.begun) k<t.ids.length:=by rw[hT.tM];exact((aa.pn _).1 (r6.2 ⟨k,ae,rfl⟩)).1
   refine fK Z 25 ?_
   refine jJ (vs:=(Zq (fJ t.ids (fJ (t.A.list t.A.begun) k)))) (cs:=(Zq (fJ t.ids (fJ (t.A.list t.A.begun) k)))) rfl rfl yz jt rfl (by simp[Value.cells]) rfl rfl rfl Z ?_
   intro o M W X e
   have e:St _ (HB o ([(fJ t.ids (fJ (t.A.list t.A.begun) k))]) tb ab t d (t.A.list t.A.begun) F (((t.A.list t.A.begun).take k).map (fJ t.ids))) M:=e
   refine k8 (cf:=gO) (ys:=(((t.A.list t.A.begun).take k).map (fJ t.ids))) (zs:=[(fJ t.ids (fJ (t.A.list t.A.begun) k))]) (LL:=fun f=>(HB o ([(fJ t.ids (fJ (t.A.list t.A.begun) k))]) tb ab t d (t.A.list t.A.begun) f ((((t.A.list t.A.begun).take k).map (fJ t.ids))++[(fJ t.ids (fJ (t.A.list t.A.begun) k))]))) 6 rfl rfl rfl yz jt rfl d_ e rfl (kG e (i:=0) rfl) (fun x hx=>zk.1 (show List.all _ _=true from rfl) x hx) (by simp only[zp,zb,zg,zq,zw,maxLen];omega) (by simp only[zp,zb,zg,zq,zw,maxLen];omega) f_ ?_
   intro f N q Y
   have q:St _ (HB o ([(fJ t.ids (fJ (t.A.list t.A.begun) k))]) tb ab t d (t.A.list t.A.begun) f ((((t.A.list t.A.begun).take k).map (fJ t.ids))++[(fJ t.ids (fJ (t.A.list t.A.begun) k))])) N:=q
   have z:=yg [1,2,3,4,5,6] q
   refine fP z 8 ?_
   refine tN (?_)
   exact again ((k+1),f) ⟨rfl,rfl,rfl,rfl,gj (by first|rfl|omega),trivial⟩ (⟨by rw[FZ _ ae];exact z,o_⟩) (by show ((t.A.list t.A.begun).length-(k+1):Nat)<(t.A.list t.A.begun).length-k;omega)
 . refine fK Z 13 ?_
   refine jO (vl:=[F]) rfl rfl X3 (ae5 F (((t.A.list t.A.begun).take k).map (fJ t.ids)) L (lJ Z (i:=5) rfl) (by rw[zq,zw];omega)) ?_
   rintro _ O ⟨g,rfl,B,T⟩
   have C:St _ (MH tb ab t d (t.A.list t.A.begun) F g) O:=mh (R' := fL gO F 39 1 g) 5 Z rfl T rfl
   refine fP C 9 ?_
   refine gq (v:=F) Tryz.results223 rfl ?_
   have P:=yg [0,1,2,3,5,4] C
   have af:k=(t.A.list t.A.begun).length:=by omega
   subst af
   have ac:=B.1
   rw[tq]at ac
   have ag:=(ac.nodup_iff).2 (TW.Qu hT aa)
   exact⟨F,g,rfl,⟨B.2.lF ag,fun x=>ac.mem_iff.trans (TW.Jh aa x)⟩,ym (R' := (gm [(TW.R tb ab t),fL gO F 39 1 g])) (yc [_,_] _ (yt (p:=t.ok) (yc [_,_,_,_] _ P) hT)) za⟩
theorem agb(fO fN ub:Nat)(s:fU)(w:World)(n:Own (fU.R fO fN ub s) w)(y:fO<=12) :
 CR ya 148 (Zi ub) w (fun r w' => ∃ (v:Value) (K:List Int),v=r/\s.mo K/\fV (fU.R fO fN ub s) w w' (gm [(fU.R fO fN ub s),fL gO v 39 1 K])):=by
 refine en Tryz.func148 Tryz.ntmps148 ?_
 have o:=Own.of n.un
 have l:s.ok fO fN:=n.fact
 have q:s.t.A.used<=12:=by have u:=l.tok.ul;have x:=l.tn;omega
 have b:=yt (p:=s.ok fO fN) (yc [_,_,_,_,_,_] _ o) l
 refine fR o 9 ?_
 refine cl AG (Bu fO fN ub s w (ye b 0 rfl)) ?_
 rintro _ f ⟨rfl,m⟩
 have g:=yj 0 b m
 have a:=(ku g).unpack
 refine fK a 12 ?_
 refine cl XG (afU s.tb s.ab s.t f (ye a 5 rfl) q) ?_
 rintro _ k ⟨c,h,rfl,d,m⟩
 have i:=yg [5,0,1,2,3,4] a
 have e:=yv (yj 0 i m)
 refine fP e 4 ?_
 refine gq (v:=c) Tryz.results148 rfl ?_
 have j:=yg [2,3,4,5,6,0,1] e
 exact⟨c,h,rfl,⟨d.1,d.2⟩,ym (yc [_,_] _ (yt (p:=fU.ok fO fN s) (yc [_,_,_,_,_,_] _ j) l)) za⟩
theorem agH(c:WC)(q:Nat)(s:WW)(w:World)(y:Own (WW.R c q s) w)(A:c.fO<=12) :
 CR ya 81 (Zi q) w (fun r w' => ∃ (v:Value) (K:List Int),v=r/\s.u.mo K/\fV (WW.R c q s) w w' (gm [(WW.R c q s),fL gO v 39 1 K])):=by
 refine en Tryz.func81 Tryz.ntmps81 ?_
 have t:=Own.of y.un
 have o:s.ok c:=y.fact
 have B:=o.w1
 have C:=o.wi
 have D:=o.n0
 have E:=o.n1
 have z:fU.ok c.fO c.fN s.u:=(y8 t (i:=2) rfl)
 have I:=o.en
 have H:=o.e1
 have M:=o.v2
 have N:=o.vn
 have F:=o.a0
 have G:=o.a1
 have L:=o.la
 have J:=z.sS
 have b:=yt (p:=s.ok c) (yc [_,_,_,_,_] _ t) o
 refine fR t 9 ?_
 refine cl vZ (xe c q s w (ye b 0 rfl)) ?_
 rintro _ f ⟨rfl,x⟩
 have g:=yj 0 b x
 have a:=(ku g).unpack
 refine fK a 12 ?_
 refine cl Xe (agb c.fO c.fN s.ub s.u f (ye a 2 rfl) A) ?_
 rintro _ n ⟨d,h,rfl,j,x⟩
 have k:=yg [2,0,1,3,4] a
 have e:=yv (yj 0 k x)
 refine fP e 4 ?_
 refine gq (v:=d) Tryz.results81 rfl ?_
 have l:=yg [2,3,0,4,5,1] e
 have m:=yt (p:=s.ok c) (yc [_,_,_,_,_] _ l) o
 exact⟨d,h,rfl,j,yi (yc [_,_] _ m)⟩
theorem agE(c:WC)(t:Nat)(s:WW)(w:World)(u:Own (WW.R c t s) w) :
 CR ya 49 (Zi t) w (fun r w' => r=(DY c.win c.fN c.fO c.kW)/\fV (WW.R c t s) w w' (WW.R c t s)):=by
 refine en Tryz.func49 Tryz.ntmps49 ?_
 have x:=Own.of u.un
 have q:s.ok c:=u.fact
 have z:=q.w1
 have A:=q.wi
 have B:=q.n0
 have C:=q.n1
 refine fR x 2 ?_
 refine iE x (fun j e k l a=>?_)
 have f:=yg [1,2,3,4,5,0] a
 have b:=yt (p:=s.ok c) (yc [_,_,_,_,_] _ f) q
 refine fK a 6 ?_
 refine cl vZ (xe c t s e (ye b 0 rfl)) ?_
 rintro _ m ⟨rfl,y⟩
 have g:=yj 0 b y
 have h:=(ku g).unpack
 refine jV h 16 fun n d=>?_
 refine SM (v:=(DY c.win c.fN c.fO c.kW)) Tryz.results49 (oc (cs:=(HC c.win c.fN c.fO c.kW)) rfl Gq rfl Dd rfl (me d (i:=5) (o:=0) (vs:=(HC c.win c.fN c.fO c.kW)) rfl rfl)) ?_
 exact⟨rfl,ym (yt (p:=s.ok c) (yc [_,_,_,_,_] _ d) q) za⟩
end
section
open Go Go.Sx
theorem Bd(v:Value)(xs:List Int)(x:Int)(w:World)(hv:gY 1 gO (fun _=>True) w v xs)(hs:xs.Pairwise fun a b=>a<b)(h:xs.length<=1000000) :
 CR ya 61 #[v,(Zo x)] w (fun r w' => r = .int .i64 (gR xs x:Int)/\gw [] w w'):=by
 refine en Tryz.func61 Tryz.ntmps61 ?_
 have g:=yu w
 refine fR g 9 ?_
 refine cl WX (Vu v xs x w hv hs h) ?_
 rintro _ e ⟨f,rfl,d⟩
 have c:=yp g d
 refine fP c 14 ?_
 refine gq (v:=(Za (gR xs x:Int))) Tryz.results61 rfl ?_
 exact⟨rfl,c.gA s_⟩
theorem FA(c:WC)(F:Nat)(s:WW)(w:World)(hO:Own (WW.R c F s) w)(am:c.fO<=12) :
 CR ya 37 (Zi F) w (fun r w' => ∃ (iv ev lv:Value) (K:List Int) (L:List Lv) (es:List Ge),r = .tuple #[iv,ev,lv]/\(s.u.mo K/\s.u.kL L/\kN K L es L.length)/\fV (WW.R c F s) w w' (gm (D0 c F s iv K ev es lv L))):=by
 refine enter (vs:=(Zf F)) Tryz.func37 rfl Tryz.ntmps37 rfl ?_
 have aj:=yq hO
 have T:=rj hO
 have au:=T.1.en
 have ar:=T.1.w1
 refine fR aj 10 ?_
 refine jO (vl:=(Zf F)) rfl rfl YB (agH c F s w (lJ aj (i:=0) rfl) am) ?_
 rintro _ A ⟨d,b,rfl,g,ht⟩
 have p:St _ [(WW.R c F s),fL gO d 39 1 b] A:=yv (mh (R' := (gm [(WW.R c F s),fL gO d 39 1 b])) 0 aj rfl ht rfl)
 have an:=g.len T.2.1 T.2.2
 refine fK p 1 ?_
 refine jO (vl:=(Zf F)) rfl rfl PK (Ut c F s A (lJ p (i:=0) rfl)) ?_
 rintro _ D ⟨e,a,rfl,q,ht⟩
 have t:St _ [(WW.R c F s),fL Lv.cells e 43 7 a,fL gO d 39 1 b] D:=yv (mh (R' := (gm [(WW.R c F s),fL Lv.cells e 43 7 a])) 0 p rfl ht rfl)
 have ao:=q.len T.2.1
 refine fK t 7 ?_
 refine iM (m:=a.length) 1 rfl rfl qD t rfl (nY (cf:=Ge.cells) (z0:=⟨0,0,0⟩) (m:=a.length) (c:=a.length) rfl rfl rfl pJ yU rfl f_ d_ (zj _) o_ o_ t ?_)
 intro j l Y Z E
 have n:St _ [fL Ge.cells (Ze j a.length) 110 3 (List.replicate a.length ⟨0,0,0⟩),(WW.R c F s),fL Lv.cells e 43 7 a,fL gO d 39 1 b] l:=kZ (cf:=Ge.cells) E (i:=0) rfl f_ (zj _) (by simp only[maxLen];omega)
 refine fK n 7 ?_
 refine iM (m:=a.length) 2 rfl rfl qD n rfl ?_
 have G:St _ [(WW.R c F s),fL Ge.cells (Ze j a.length) 110 3 (List.replicate a.length ⟨0,0,0⟩),fL Lv.cells e 43 7 a,fL gO d 39 1 b] l:=lC n (List.Perm.swap _ _ _)
 have H:St _ [(WW.R c F s),fL Ge.cells (Ze j a.length) 110 3 (List.replicate a.length ⟨0,0,0⟩),fL gO d 39 1 b,fL Lv.cells e 43 7 a] l:=lC G (List.Perm.cons _ (List.Perm.cons _ (List.Perm.swap _ _ _)))
 have I:St _ [(WW.R c F s),fL gO d 39 1 b,fL Ge.cells (Ze j a.length) 110 3 (List.replicate a.length ⟨0,0,0⟩),fL Lv.cells e 43 7 a] l:=lC H (List.Perm.cons _ (List.Perm.swap _ _ _))
 refine gD n 4 ?_
 refine lp (α:=Nat×List Ge×Value) (fun(k,es,ev)=>[(5,d),(6,e),(7,ev),(17,e),(18,(Za a.length)),(19,(Za k))]) (fun(k,es,ev) w1=>St [(w,(WW.R c F s).gH)] (D0 c F s d b ev es e a) w1/\kN b a es k/\k<=a.length) (fun(k,es,ev)=>a.length-k) (0,(List.replicate a.length ⟨0,0,0⟩),(Ze j a.length)) ⟨rfl,rfl,rfl,rfl,rfl,gj (by first|rfl|omega),trivial⟩ (⟨I,kN.start,o_⟩) ?_
 rintro⟨k,es,ev⟩ aa ab ⟨ah,ai,aq⟩
 have ap:=ai.len
 refine fR ah 2 ?_
 by_cases ac:((k:Int):Int)<((a.length:Int):Int)
 . have ak:k<a.length:=by omega
   have hE:=g.ends T.2.1 q ak
   refine fK ah 14 ?_
   refine iE ah (fun h ad ae af J=>?_)
   refine vh J 4 fun ag M=>?_
   refine kC mixed [([0,1,2,3,4,5,7,8,9,10,12,13,14,6],[10,14]),([11],[14])] [15,16,17] M (fun N x=>jA ?_)
   refine fK x 13 ?_
   refine jO (vl:=[d,(Zo ((fJ a k).u))]) rfl rfl AF (Bd d b ((fJ a k).u) N (Sl.any (uk x (i:=2) rfl f_)) g.lF o_) ?_
   rintro _ B ⟨rfl,O⟩
   have y:St _ (ML h (fJ a k) c F s d b ev es e a) B:=yp x O
   refine fP y 1 ?_
   refine kn (jA ?_)
   refine jO (vl:=[d,(Zo ((fJ a k).v))]) rfl rfl AF (Bd d b ((fJ a k).v) B (Sl.any (uk y (i:=2) rfl f_)) g.lF o_) ?_
   rintro _ P ⟨rfl,Q⟩
   have z:St _ (ML h (fJ a k) c F s d b ev es e a) P:=yp y Q
   refine fP z 1 ?_
   refine kn (kF ?_)
   refine jc (pvs:=[(0,(Za (gR b ((fJ a k).u):Int))),(1,(Za (gR b ((fJ a k).v):Int))),(2,(Za ((fJ a k).wt)))]) (v:=.agg #[(Za (gR b ((fJ a k).u):Int)),(Za (gR b ((fJ a k).v):Int)),(Za ((fJ a k).wt))]) rfl rfl (jo [(0,(Zd (gR b ((fJ a k).u):Int))),(1,(Zd (gR b ((fJ a k).v):Int))),(2,(Zd ((fJ a k).wt)))] yU ac4 rfl ⟨rfl,rfl,rfl,rfl,rfl,rfl,trivial⟩ rfl) (fK z 1 ?_)
   refine iz (f:=(fun _=>(⟨(gR b ((fJ a k).u)),(gR b ((fJ a k).v)),(fJ a k).wt⟩:Ge))) 3 z (fun o C=>?_)
   refine fP C 7 ?_
   refine tN (?_)
   have S:St _ [(WW.R c F s),blk h 43 (Z6 (fJ a k)),fL gO d 39 1 b,fL Ge.cells ev 110 3 (fM es k (fun _=>(⟨(gR b ((fJ a k).u)),(gR b ((fJ a k).v)),(fJ a k).wt⟩:Ge))),fL Lv.cells e 43 7 a] o:=lC C (List.Perm.swap _ _ _)
   have U:St _ [(WW.R c F s),fL gO d 39 1 b,blk h 43 (Z6 (fJ a k)),fL Ge.cells ev 110 3 (fM es k (fun _=>(⟨(gR b ((fJ a k).u)),(gR b ((fJ a k).v)),(fJ a k).wt⟩:Ge))),fL Lv.cells e 43 7 a] o:=lC S (List.Perm.cons _ (List.Perm.swap _ _ _))
   have V:St _ [(WW.R c F s),fL gO d 39 1 b,fL Ge.cells ev 110 3 (fM es k (fun _=>(⟨(gR b ((fJ a k).u)),(gR b ((fJ a k).v)),(fJ a k).wt⟩:Ge))),blk h 43 (Z6 (fJ a k)),fL Lv.cells e 43 7 a] o:=lC U (List.Perm.cons _ (List.Perm.cons _ (List.Perm.swap _ _ _)))
   have W:St _ [(WW.R c F s),fL gO d 39 1 b,fL Ge.cells ev 110 3 (fM es k (fun _=>(⟨(gR b ((fJ a k).u)),(gR b ((fJ a k).v)),(fJ a k).wt⟩:Ge))),fL Lv.cells e 43 7 a,blk h 43 (Z6 (fJ a k))] o:=lC V (List.Perm.cons _ (List.Perm.cons _ (List.Perm.cons _ (List.Perm.swap _ _ _))))
   have X:=St.sub (L' := (D0 c F s d b ev (fM es k (fun _=>(⟨(gR b ((fJ a k).u)),(gR b ((fJ a k).v)),(fJ a k).wt⟩:Ge))) e a)) W (List.Sublist.cons_cons _ (List.Sublist.cons_cons _ (List.Sublist.cons_cons _ (List.Sublist.cons_cons _ (List.Sublist.cons _ (List.Sublist.refl _))))))
   exact again ((k+1),fM es k (fun _=>(⟨(gR b ((fJ a k).u)),(gR b ((fJ a k).v)),(fJ a k).wt⟩:Ge)),ev) ⟨rfl,rfl,rfl,rfl,rfl,gj (by first|rfl|omega),trivial⟩ (⟨X,ai.next ak g.lF hE.1 hE.2,o_⟩) (by show (a.length-(k+1):Nat)<a.length-k;omega)
 . refine fP ah 21 ?_
   refine tZ (v:=d) (v' := ev) (v'' := e) Tryz.results37 rfl rfl rfl ?_
   have al:k=a.length:=by omega
   exact⟨d,ev,e,b,a,es,rfl,⟨g,q,by rw[<-al];exact ai⟩,ym (R' := (gm (D0 c F s d b ev es e a))) (yc [_,_,_,_] _ ah) za⟩
theorem Ug(c:WC)(k:Nat)(s:WW)(w:World)(m:Own (WW.R c k s) w) :
 CR ya 35 (Zi k) w (fun r w' => ∃ (o:Nat),r = .tuple (Z0 o)/\fV (WW.R c k s) w w' (G9 c k s o)):=by
 refine en Tryz.func35 Tryz.ntmps35 ?_
 have l:=yq m
 have n:=rj m
 have t:=n.1.en
 have q:=n.1.w1
 refine fR l 10 ?_
 refine uM (a:=some ⟨k,0,none⟩) (c:=false) rfl rfl rfl By rfl (fK l 2 ?_)
 refine cl Yn (agE c k s w (ye l 0 rfl)) ?_
 rintro _ g ⟨rfl,p⟩
 have b:=yj 0 l p
 refine Qe (cs:=#[(Za c.win),(Za c.fN),(Za c.fO),(Za c.kW)]) (v:=(Za c.win)) rfl rfl Gq rfl vw rfl rfl (cmp rfl rfl rfl (lG o_) (fK b 9 ?_))
 refine jc (pvs:=[(0,(Zb k))]) (v:=.agg #[(Zb k),Zp,tH,Zg,Zc,Zg,Zg,Zg,Zg,Zg,Zt,Zt,Zc]) rfl rfl (jo [(0,(Zf k))] Tx ac3 rfl ⟨rfl,rfl,trivial⟩ rfl) (iC b (fun d h i j e=>?_))
 refine fP e 5 ?_
 refine iD (v:=(Zb d)) (v' := Zc) Tryz.results35 rfl rfl ?_
 have f:=yg [1,0] e
 exact⟨d,rfl,yi (yc [_,_] _ f)⟩
theorem Gk(b e:Nat)(w:World)(f:Own (Ag b e) w) :
 CR ya 36 (Zi b) w (fun r w' => r = .bool true/\fV (Ag b e) w w' (Ag b e)):=by
 refine en Tryz.func36 Tryz.ntmps36 ?_
 have d:=yq f
 refine fR d 8 ?_
 refine l9 (a:=some ⟨b,0,none⟩) (c:=true) rfl rfl rfl Tryz.underlying24 rfl (fK d 5 ?_)
 refine l9 (a:=some ⟨e,0,none⟩) (c:=true) rfl rfl rfl By rfl (fP d 5 ?_)
 refine gq (v:=Zh) Tryz.results36 rfl ?_
 exact⟨rfl,yi d⟩
theorem agr(c d:Nat)(w:World)(f:Own (Ag c d) w) :
 CR ya 16 (Zi c) w (fun r w' => r = .int .i64 0/\fV (Ag c d) w w' (Ag c d)):=by
 refine en Tryz.func16 Tryz.ntmps16 ?_
 have e:=yq f
 refine fR e 9 ?_
 refine cl uL (Gk c d w (ye e 0 rfl)) ?_
 rintro _ b ⟨rfl,g⟩
 have a:=yj 0 e g
 refine fP a 16 ?_
 refine gq (v:=Zc) Tryz.results16 rfl ?_
 exact⟨rfl,yi a⟩
theorem ZU(c:WC)(p q:Nat)(s:WW)(w:World)(y:Own (qu p q c s) w)(z:c.fO<=12) :
 CR ya 7 (Zi p) w (fun r w' => ∃ (iv ev lv:Value) (K:List Int) (L:List Lv) (es:List Ge),r = .tuple #[iv,ev]/\(s.u.mo K/\s.u.kL L/\kN K L es L.length)/\fV (qu p q c s) w w' (gm [(qu p q c s),fL gO iv 39 1 K,fL Ge.cells ev 110 3 es])):=by
 refine en Tryz.func7 Tryz.ntmps7 ?_
 have t:=(yq y).unpack
 refine fR t 10 ?_
 refine cl uL (Gk p q w (ye t 0 rfl)) ?_
 rintro _ f ⟨rfl,x⟩
 have a:=yj 0 t x
 refine fK a 12 ?_
 refine cl EE (FA c q s f (ye a 1 rfl) z) ?_
 rintro _ o ⟨b,d,g,h,i,j,rfl,k,x⟩
 have l:=yg [1,0] a
 have e:=yv (yj 0 l x)
 refine fP e 18 ?_
 refine iD (v:=b) (v' := d) Tryz.results7 rfl rfl ?_
 have m:=yg [4,0,1,2,3] e
 have n:=yc [_,_] _ m
 exact⟨b,d,g,h,i,j,rfl,k,yi (yc [_,_,_] _ n)⟩
end
section
open Go Go.Sx
def Ds.R(a n:Nat)(s:Ds):fT:=kO (s.ok n) (qN a s)
theorem OI(b n:Nat)(s:Ds)(w:World)(f:Own (qN b s) w)(d:Nat->Nat)(hd:s.wG d n)(h:n<=1000000) :
 CR ya 306 (Zi b) w (fun r w' => r = .bool true/\fV (qN b s) w w' (qN b s)):=by
 have j:=hd.ul
 have g:=hd.ll
 have i:=hd.sl
 refine en Tryz.func306 Tryz.ntmps306 ?_
 have e:=Own.of f
 refine fR e 8 ?_
 refine l9 (a:=some ⟨b,0,none⟩) (c:=true) rfl rfl rfl Tryz.underlying353 rfl (fK e 6 ?_)
 refine AH (a:=⟨b,0,none⟩) rfl rfl rfl Tryz.underlying353 LN (fP e 5 ?_)
 refine gq (v:=Zh) Tryz.results306 rfl ?_
 exact⟨rfl,yi (yc [_,_,_,_] _ e)⟩
theorem OA(e n:Nat)(s:Ds)(w:World)(g:Own (qN e s) w)(d:Nat->Nat)(hd:s.wG d n)(h:n<=1000000)(a0:Nat)(j:a0<n) :
 CR ya 307 (Zm e a0) w (fun r w' => r = .bool true/\fV (qN e s) w w' (qN e s)):=by
 have o:=hd.ul
 have k:=hd.ll
 have l:=hd.sl
 refine en Tryz.func307 Tryz.ntmps307 ?_
 have f:=Own.of g
 have b:=yc [_,_,_,_] _ f
 refine fR f 8 ?_
 refine cl Pq (OI e n s w (ye b 0 rfl) d hd h) ?_
 rintro _ c ⟨rfl,i⟩
 have a:=(yk b i)
 refine fK a 2 ?_
 refine cmp rfl rfl rfl (nG o_) (fK a 7 ?_)
 refine iM (m:=s.up.length) 1 rfl rfl yd a rfl (cmp rfl rfl rfl (pZ o_) (fP a 5 ?_))
 refine gq (v:=Zh) Tryz.results307 rfl ?_
 exact⟨rfl,yi (yc [_,_,_,_] _ a)⟩
theorem OG(k n:Nat)(s:Ds)(w:World)(p:Own (qN k s) w)(d:Nat->Nat)(hd:s.wG d n)(x:n<=1000000)(a0:Nat)(q:a0<n) :
 CR ya 308 (Zm k a0) w (fun r w' => ∃ (i:Nat) (up:List Nat),r = .int .i64 (i:Int)/\(qi d n s a0 up i/\fJ up i=i)/\fV (qN k s) w w' (Hf k s up)):=by
 have A:=hd.ul
 have u:=hd.ll
 have z:=hd.sl
 refine en Tryz.func308 Tryz.ntmps308 ?_
 have o:=Own.of p
 refine p8 o 11 ?_
 refine lp (α:=Nat×List Nat) (fun(i,up)=>[(0,(Zb k)),(1,(Za i)),(4,Zc)]) (fun(i,up) w1=>St [(w,(qN k s).gH)] (Eb k s up) w1/\qi d n s a0 up i) (fun(i,up)=>d i) (a0,s.up) ⟨rfl,gj rO,rfl,trivial⟩ (⟨o,qi.start hd q⟩) ?_
 rintro⟨i,up⟩ c e ⟨m,l⟩
 have B:up.length=n:=l.ok.ul
 have t:=l.an
 have y:fJ up i<n:=l.ok.ub i t
 refine fR m 18 ?_
 by_cases g:((((fJ up i):Nat):Int):Int)=((i:Int):Int)
 . refine fP m 18 ?_
   refine gq (v:=(Za i)) Tryz.results308 rfl ?_
   exact⟨i,up,rfl,⟨l,o_⟩,yi (yc [_,_,_,_] _ m)⟩
 . refine gI m 21 fun h b=>?_
   refine iz (f:=(fun _=>(fJ up (fJ up i)))) 1 b (fun j a=>?_)
   refine fP a 13 ?_
   refine tN (?_)
   exact again ((fJ (fM up i (fun _=>(fJ up (fJ up i)))) i),fM up i (fun _=>(fJ up (fJ up i)))) ⟨rfl,gj rO,rfl,trivial⟩ (⟨a,(l.Qn o_).1⟩) (l.Qn o_).2
theorem WI(F n:Nat)(s:Ds)(w:World)(hO:Own (Ds.R F n s) w)(hn:n<=1000000)(a b:Nat)(ha:a<n)(hb:b<n) :
 CR ya 246 (Zu F a b) w (fun r w' => ∃ s2:Ds,(r = .tuple #[.bool (decide (fJ s.lb a≠fJ s.lb b)),.int .i64 0])/\s2.lb=jQ s.lb (fJ s.lb a) (fJ s.lb b)/\fV (Ds.R F n s) w w' (Ds.R F n s2)):=by
 refine enter (vs:=(Aa F a b)) Tryz.func246 rfl Tryz.ntmps246 rfl ?_
 obtain⟨⟨d,hd⟩,aC⟩:=hO.fact
 have aE:=hd.ul
 have aD:=hd.ll
 have ax:=hd.sl
 have ay:St _ (Cd F s) w:=Own.of hO.un
 have q:=yc [_,_,_,_] _ ay
 refine fR ay 10 ?_
 refine jO (vl:=(Zf F)) rfl rfl Pq (OI F n s w (lJ q (i:=0) rfl) d hd hn) ?_
 rintro _ t ⟨rfl,T⟩
 have u:St _ (Cd F s) t:=(mh (R' := (qN F s)) 0 q rfl T rfl).unpack
 have x:=yc [_,_,_,_] _ u
 refine fK u 11 ?_
 refine jO (vl:=(tF F a)) rfl rfl Pr (OA F n s t (lJ x (i:=0) rfl) d hd hn a o_) ?_
 rintro _ y ⟨rfl,T⟩
 have z:St _ (Cd F s) y:=(mh (R' := (qN F s)) 0 x rfl T rfl).unpack
 have A:=yc [_,_,_,_] _ z
 refine fK z 4 ?_
 refine jO (vl:=(tF F b)) rfl rfl Pr (OA F n s y (lJ A (i:=0) rfl) d hd hn b o_) ?_
 rintro _ B ⟨rfl,T⟩
 have C:St _ (Cd F s) B:=(mh (R' := (qN F s)) 0 A rfl T rfl).unpack
 have D:=yc [_,_,_,_] _ C
 refine fK C 11 ?_
 refine jO (vl:=(tF F a)) rfl rfl Pt (OG F n s B (lJ D (i:=0) rfl) d hd hn a o_) ?_
 rintro _ E ⟨g,o,rfl,k,T⟩
 have G:St _ (Eb F s o) E:=(mh (R' := (Hf F s o)) 0 D rfl T rfl).unpack
 have P:=k.1.ok
 have au:=k.1.an
 have H:=yc [_,_,_,_] _ G
 refine fK G 2 ?_
 refine jO (vl:=(tF F b)) rfl rfl Pt (OG F n (s.wu o) E (lJ H (i:=0) rfl) d P hn b o_) ?_
 rintro _ Q ⟨h,j,rfl,I,T⟩
 have l:St _ (Eb F s j) Q:=(mh (R' := (Hf F s j)) 0 H rfl T rfl).unpack
 obtain⟨ap,az,aB,au,aA,av,aw,aq⟩:=k.1.two k.2 I.1 I.2
 have aF:j.length=n:=ap.ul
 refine fK l 9 ?_
 by_cases Z:((g:Int):Int)=((h:Int):Int)
 . refine fP l 12 ?_
   refine iD (v:=Zp) (v' := Zc) Tryz.results246 rfl rfl ?_
   exact⟨(s.wu j),congrArg (fun b=>Value.tuple #[.bool b,.int .i64 0]) (by rw[eq_comm,decide_eq_false_iff_not,Decidable.not_not];exact aq.1 o_),(by rw[aq.1 o_,Rv];rfl),ym (R' := (Ds.R F n (s.wu j))) (yt (p:=Ds.ok n (s.wu j)) (yc [_,_,_,_] _ l) (⟨⟨d,ap⟩,aC⟩)) za⟩
 . refine gI l 23 fun aa m=>?_
   by_cases ab:((fJ s.sz g):Int)<((fJ s.sz h):Int)
   . refine fK m 20 ?_
     refine iz (f:=(fun _=>h)) 1 m (fun ac S=>?_)
     refine gI S 18 fun ad J=>?_
     refine ar (a:=(fJ s.sz h)) (b:=(fJ s.sz g)) (c:=(fJ s.sz h)+(fJ s.sz g)) (e:=IntKind.i64.wrap ((fJ s.sz h)+(fJ s.sz g))) rfl rfl rfl rfl rfl (fK J 1 ?_)
     refine iz (f:=(fun _=>IntKind.i64.wrap ((fJ s.sz h)+(fJ s.sz g)))) 3 J (fun ae U=>?_)
     refine gI U 23 fun af K=>?_
     refine min2 (a:=(((fJ s.le h):Nat):Int)) (b:=(((fJ s.le g):Nat):Int)) (c:=((min (fJ s.le h) (fJ s.le g):Nat):Int)) rfl rfl rfl Fm (fK K 1 ?_)
     refine iz (f:=(fun _=>(min (fJ s.le h) (fJ s.le g)))) 2 K (fun ag L=>?_)
     refine fK L 8 ?_
     refine ar (a:=s.cnt) (b:=1) (c:=s.cnt-1) (e:=IntKind.i64.wrap (s.cnt-1)) rfl rfl rfl rfl rfl (jV L 12 fun ah V=>?_)
     refine iD (v:=Zh) (v' := Zc) Tryz.results246 rfl rfl ?_
     exact⟨(⟨s.uv,s.lv,s.sv,fM j g (fun _=>h),fM s.le h (fun _=>(min (fJ s.le h) (fJ s.le g))),fM s.sz h (fun _=>IntKind.i64.wrap ((fJ s.sz h)+(fJ s.sz g))),IntKind.i64.wrap (s.cnt-1),jQ s.lb (fJ s.lb h) (fJ s.lb g)⟩:Ds),congrArg (fun b=>Value.tuple #[.bool b,.int .i64 0]) (by rw[eq_comm,decide_eq_true_iff];exact fun e=>absurd (aq.2 e) o_),Rt.trans (Ru av aw),ym (R' := (Ds.R F n (⟨s.uv,s.lv,s.sv,fM j g (fun _=>h),fM s.le h (fun _=>(min (fJ s.le h) (fJ s.le g))),fM s.sz h (fun _=>IntKind.i64.wrap ((fJ s.sz h)+(fJ s.sz g))),IntKind.i64.wrap (s.cnt-1),jQ s.lb (fJ s.lb h) (fJ s.lb g)⟩:Ds))) (yt (p:=Ds.ok n (⟨s.uv,s.lv,s.sv,fM j g (fun _=>h),fM s.le h (fun _=>(min (fJ s.le h) (fJ s.le g))),fM s.sz h (fun _=>IntKind.i64.wrap ((fJ s.sz h)+(fJ s.sz g))),IntKind.i64.wrap (s.cnt-1),jQ s.lb (fJ s.lb h) (fJ s.lb g)⟩:Ds)) (yc [_,_,_,_] _ V) (Ds.join ap aA au aB az o_ (by rw[gx];exact ax) (Ub ap.Lq (Gn _)) rfl (Gn _))) za⟩
   . refine fK m 15 ?_
     refine iz (f:=(fun _=>g)) 1 m (fun ai W=>?_)
     refine gI W 18 fun aj M=>?_
     refine ar (a:=(fJ s.sz g)) (b:=(fJ s.sz h)) (c:=(fJ s.sz g)+(fJ s.sz h)) (e:=IntKind.i64.wrap ((fJ s.sz g)+(fJ s.sz h))) rfl rfl rfl rfl rfl (fK M 1 ?_)
     refine iz (f:=(fun _=>IntKind.i64.wrap ((fJ s.sz g)+(fJ s.sz h)))) 3 M (fun ak X=>?_)
     refine gI X 23 fun al N=>?_
     refine min2 (a:=(((fJ s.le g):Nat):Int)) (b:=(((fJ s.le h):Nat):Int)) (c:=((min (fJ s.le g) (fJ s.le h):Nat):Int)) rfl rfl rfl Fm (fK N 1 ?_)
     refine iz (f:=(fun _=>(min (fJ s.le g) (fJ s.le h)))) 2 N (fun am O=>?_)
     refine fK O 8 ?_
     refine ar (a:=s.cnt) (b:=1) (c:=s.cnt-1) (e:=IntKind.i64.wrap (s.cnt-1)) rfl rfl rfl rfl rfl (jV O 12 fun ao Y=>?_)
     refine iD (v:=Zh) (v' := Zc) Tryz.results246 rfl rfl ?_
     exact⟨(⟨s.uv,s.lv,s.sv,fM j h (fun _=>g),fM s.le g (fun _=>(min (fJ s.le g) (fJ s.le h))),fM s.sz g (fun _=>IntKind.i64.wrap ((fJ s.sz g)+(fJ s.sz h))),IntKind.i64.wrap (s.cnt-1),jQ s.lb (fJ s.lb g) (fJ s.lb h)⟩:Ds),congrArg (fun b=>Value.tuple #[.bool b,.int .i64 0]) (by rw[eq_comm,decide_eq_true_iff];exact fun e=>absurd (aq.2 e) o_),Ru av aw,ym (R' := (Ds.R F n (⟨s.uv,s.lv,s.sv,fM j h (fun _=>g),fM s.le g (fun _=>(min (fJ s.le g) (fJ s.le h))),fM s.sz g (fun _=>IntKind.i64.wrap ((fJ s.sz g)+(fJ s.sz h))),IntKind.i64.wrap (s.cnt-1),jQ s.lb (fJ s.lb g) (fJ s.lb h)⟩:Ds))) (yt (p:=Ds.ok n (⟨s.uv,s.lv,s.sv,fM j h (fun _=>g),fM s.le g (fun _=>(min (fJ s.le g) (fJ s.le h))),fM s.sz g (fun _=>IntKind.i64.wrap ((fJ s.sz g)+(fJ s.sz h))),IntKind.i64.wrap (s.cnt-1),jQ s.lb (fJ s.lb g) (fJ s.lb h)⟩:Ds)) (yc [_,_,_,_] _ Y) (Ds.join ap au aA az aB o_ (by rw[gx];exact ax) (Ub ap.Lq (Gn _)) rfl (Gn _))) za⟩
abbrev Ss:List (List Nat):=[[],[0],[],[2],[],[4],[],[0,1,2,3,4,5,6],[0,1,2,3,4,5,6,7],[0,1,2,3,4,5,6,7,8]]
abbrev DZ a b c d e f g:=([Ds.R a b c,fL fS d 3 1 e,ig .i64 f 3 g]:List fT)
abbrev HA(a:Nat) b c d e f g h i:=([ig .i64 (Zy a) 3 b,Ds.R c d e,fL fS f 3 1 g,ig .i64 h 3 i]:List fT)
theorem WB(n:Nat)(w:World)(hn:n<=65536) :
 CR ya 239 (Z4 n) w (fun r w' => ∃ (Z:Nat) (s:Ds),r = .tuple (Z0 Z)/\s.lb=List.range n/\fV (gm []) w w' (Ds.R Z n s)):=by
 refine en Tryz.func239 Tryz.ntmps239 ?_
 have V:=yu w
 refine fR V 10 ?_
 refine cmp rfl rfl rfl (lG o_) (fK V 2 ?_)
 refine cmp rfl rfl rfl (qx o_) (gD V 7 ?_)
 have t:AV Ss [1,3,5,8] [(5,fun a=>blk a 3 ((List.replicate n 0).flatMap fS)),(3,fun b=>blk b 3 ((List.replicate n 0).flatMap fS)),(1,fun e=>blk e 3 ((List.replicate n 0).flatMap fS))] 8:=J4 (is:=[5,3,1]) rfl d_
 refine KO mixed Ss [1,3,5,8] [(5,fun a=>blk a 3 ((List.replicate n 0).flatMap fS)),(3,fun b=>blk b 3 ((List.replicate n 0).flatMap fS)),(1,fun e=>blk e 3 ((List.replicate n 0).flatMap fS))] 8 k_ rfl [fun g=>(Za n),fun g=>(Ze (g 1) n),fun g=>(Za n),fun g=>(Ze (g 3) n),fun g=>(Za n),fun g=>(Ze (g 5) n),fun g=>(Za n),fun g=>(HL (g 1) n (g 3) (g 5)),fun g=>(Zb (g 8)),fun g=>(Zb (g 8))] (fun g=>[blk (g 8) 409 (MF (g 1) n (g 3) (g 5)),blk (g 5) 3 ((List.replicate n 0).flatMap fS),blk (g 3) 3 ((List.replicate n 0).flatMap fS),blk (g 1) 3 ((List.replicate n 0).flatMap fS)]) (fun g=>(4,(Zb (g 8))) :: (20,(Zb (g 8))) :: (19,(HL (g 1) n (g 3) (g 5))) :: (18,(Za n)) :: (17,(Ze (g 5) n)) :: (16,(Za n)) :: (15,(Ze (g 3) n)) :: (14,(Za n)) :: (13,(Ze (g 1) n)) :: (12,(Za n)) :: _) V ?_ f_ ?_
 . skip
   refine mR rfl (fun g _ _=>qv rfl rfl (lI (v:=(Za n)) rfl)) (sW t (R:=fun e=>blk e 3 ((List.replicate n 0).flatMap fS)) (val:=fun e=>(Ze e n)) s_ (fun _ _=>rfl) (fun g Y L F N T=>rZ (cf:=fS) (z0:=0) (m:=n) (c:=n) rfl rfl rfl yd gr rfl f_ d_ (zj _) o_ o_ F (fun aa _ h=>T aa _ h)) (fun _ _=>lu rfl sT) (mR rfl (fun g _ _=>qv rfl rfl (lI (v:=(Za n)) rfl)) (sW t (R:=fun b=>blk b 3 ((List.replicate n 0).flatMap fS)) (val:=fun b=>(Ze b n)) s_ (fun _ _=>rfl) (fun g Y L F N T=>rZ (cf:=fS) (z0:=0) (m:=n) (c:=n) rfl rfl rfl yd gr rfl f_ d_ (zj _) o_ o_ F (fun ab _ h=>T ab _ h)) (fun _ _=>lu rfl sT) (mR rfl (fun g _ _=>qv rfl rfl (lI (v:=(Za n)) rfl)) (sW t (R:=fun a=>blk a 3 ((List.replicate n 0).flatMap fS)) (val:=fun a=>(Ze a n)) s_ (fun _ _=>rfl) (fun g Y L F N T=>rZ (cf:=fS) (z0:=0) (m:=n) (c:=n) rfl rfl rfl yd gr rfl f_ d_ (zj _) o_ o_ F (fun ac _ h=>T ac _ h)) (fun _ _=>lu rfl sT) (mR rfl (fun g _ _=>qv rfl rfl (lI (v:=(Za n)) rfl)) (mR rfl (fun g _ _=>qv rfl rfl (Ck (pvs:=[(1,(Ze (g 1) n)),(2,(Ze (g 3) n)),(3,(Ze (g 5) n)),(4,(Za n))]) (v:=.agg #[Zt,(Ze (g 1) n),(Ze (g 3) n),(Ze (g 5) n),(Za n)]) rfl (jo [(1,(qq (g 1) n)),(2,(qq (g 3) n)),(3,(qq (g 5) n)),(4,(Zd n))] LN adq rfl ⟨rfl,rfl,rfl,rfl,rfl,rfl,rfl,rfl,trivial⟩ rfl))) ?_)))))))
   refine Kj t (val:=fun d=>(Zb d)) (fun _ _=>rfl) (fun g Y F N T=>JS (v:=(HL (g 1) n (g 3) (g 5))) (cs:=(MF (g 1) n (g 3) (g 5))) rfl rfl rfl F (fun ad _ h=>T ad _ h)) (fun _ _=>lu rfl sT) (mR rfl (fun g _ _=>qv rfl rfl (vS (v:=(Zb (g 8))) rfl)) ?_)
   exact Kk
 intro u x q
 generalize u 1=e at q ⊢
 generalize u 3=b at q ⊢
 generalize u 5=a at q ⊢
 generalize u 8=d at q ⊢
 have y:St _ [blk d 409 [(.pointer none),(.slice (some ⟨e,0,none⟩) n n),(.slice (some ⟨b,0,none⟩) n n),(.slice (some ⟨a,0,none⟩) n n),(.int .i64 n)],blk a 3 ((List.replicate n 0).flatMap fS),blk b 3 ((List.replicate n 0).flatMap fS),fL fS (.slice (some ⟨e,0,none⟩) n n) 3 1 (List.replicate n 0)] x:=kZ (cf:=fS) q (i:=3) rfl f_ (zj _) (by simp only[maxLen];omega)
 generalize (Value.slice (some ⟨e,0,none⟩) n n)=j at y ⊢
 have z:St _ [blk d 409 [(.pointer none),j,(.slice (some ⟨b,0,none⟩) n n),(.slice (some ⟨a,0,none⟩) n n),(.int .i64 n)],blk a 3 ((List.replicate n 0).flatMap fS),fL fS (.slice (some ⟨b,0,none⟩) n n) 3 1 (List.replicate n 0),fL fS j 3 1 (List.replicate n 0)] x:=kZ (cf:=fS) y (i:=2) rfl f_ (zj _) (by simp only[maxLen];omega)
 generalize (Value.slice (some ⟨b,0,none⟩) n n)=l at z ⊢
 have A:St _ [blk d 409 [(.pointer none),j,l,(.slice (some ⟨a,0,none⟩) n n),(.int .i64 n)],fL fS (.slice (some ⟨a,0,none⟩) n n) 3 1 (List.replicate n 0),fL fS l 3 1 (List.replicate n 0),fL fS j 3 1 (List.replicate n 0)] x:=kZ (cf:=fS) z (i:=1) rfl f_ (zj _) (by simp only[maxLen];omega)
 generalize (Value.slice (some ⟨a,0,none⟩) n n)=o at A ⊢
 refine sQP tt none A 18 fun E G=>?_
 have H:=yg [0,3,2,1] G
 have I:St _ [blk d 409 [(Zb d),j,l,o,(Za n)],fL fS j 3 1 (List.replicate n 0),fL fS l 3 1 (List.replicate n 0),fL fW o 3 1 (List.replicate n 0)] E:=ael o▸H
 refine lp (α:=Nat×List Nat×List Nat×List Int) (fun(k,up,le,sz)=>[(0,(Za n)),(2,Zt),(3,Zc),(4,(Zb d)),(25,(Za n)),(26,(Za k))]) (fun(k,up,le,sz) w1=>St [(w,[])] [blk d 409 [(Zb d),j,l,o,(Za n)],fL fS j 3 1 up,fL fS l 3 1 le,fL fW o 3 1 sz] w1/\sH n k up le sz/\k<=n) (fun(k,up,le,sz)=>n-k) (0,List.replicate n 0,List.replicate n 0,List.replicate n 0) ⟨rfl,rfl,rfl,rfl,rfl,gj rO,trivial⟩ (⟨I,sH.start,o_⟩) ?_
 rintro⟨k,up,le,sz⟩ K M ⟨W,X,ae⟩
 obtain⟨ah,af,ag⟩:=X.len ae
 refine fR W 2 ?_
 by_cases O:((k:Int):Int)<((n:Int):Int)
 . refine gI W 34 fun P J=>?_
   refine iz (f:=(fun _=>k)) 1 J (fun Q B=>?_)
   refine fK B 1 ?_
   refine iz (f:=(fun _=>k)) 2 B (fun S C=>?_)
   refine fK C 1 ?_
   refine iz (f:=(fun _=>1)) (cf:=fW) 3 C (fun U D=>?_)
   refine fP D 7 ?_
   refine tN (?_)
   exact again ((k+1),fM up k (fun _=>k),fM le k (fun _=>k),fM sz k (fun _=>1)) ⟨rfl,rfl,rfl,rfl,rfl,gj rO,trivial⟩ (⟨D,X.next o_,o_⟩) (by show (n-(k+1):Nat)<n-k;omega)
 . refine fP W 18 ?_
   refine iD (v:=(Zb d)) (v' := Zc) Tryz.results239 rfl rfl ?_
   obtain rfl:k=n:=by omega
   obtain⟨rfl,rfl,rfl⟩:=X.fin
   exact⟨d,(⟨j,l,o,List.range k,List.range k,List.replicate k 1,(k:Int),List.range k⟩:Ds),rfl,rfl,vz (yt (p:=Ds.ok k (⟨j,l,o,List.range k,List.range k,List.replicate k 1,(k:Int),List.range k⟩:Ds)) (yc [_,_,_,_] _ W) (Ds.tS (kR o_))) s_⟩
end
section
open Go Go.Sx
theorem Om(v:Value)(xs:List Ge)(w:World)(hv:gY 3 Ge.cells (fun _=>True) w v xs)(m:xs.length<=1000000) :
 CR ya 39 #[v] w (fun r w' => qj 3 Ge.cells w w' r 110 xs/\gw [] w w'):=by
 refine en Tryz.func39 Tryz.ntmps39 ?_
 have l:=yu w
 refine fR l 9 ?_
 refine CB (v:=v) rfl rfl rfl pJ hv (gD l 2 ?_)
 cases e:(wC v:Bool)
 . skip
   refine fR l 5 ?_
   refine jJ (vs:=[]) (cs:=[]) rfl rfl pJ yU rfl (by intro v hv;simp at hv) rfl rfl rfl l ?_
   intro f g h i c
   have d:=c
   refine fK c 1 ?_
   refine k8 (cf:=Ge.cells) (ys:=[]) (zs:=xs) (LL:=fun a=>[fL Ge.cells a 110 3 xs]) 0 rfl rfl rfl pJ yU rfl d_ d rfl (gY.src (yy d s_ d_ hv) f_) (xX f_ _) (by simp only[zg];omega) (by simp only[zg];omega) f_ (fun a j b k=>fP b 4 ?_)
   refine gq (v:=a) Tryz.results39 rfl ?_
   exact⟨Di b s_,b.gA s_⟩
 . skip
   refine iO l 8 ?_
   refine gq (v:=Zg) Tryz.results39 rfl ?_
   obtain rfl:=CO e hv
   exact⟨qj.CN, l.gA s_⟩
def Gr.R(a n:Nat)(r:Gr)(es:List Ge):fT:=gm (Hx a r.ev r.sv r.lv es (mA n es) (wv n es))
abbrev Su:List (List Nat):=[[],[],[1],[1,2],[],[4],[4,5],[4,5,6],[0,1,2,3,4,5,6,7],[0,1,2,3,4,5,6,7,8],[0,1,2,3,4,5,6,7,8,9]]
abbrev B7 a b c d (e:Nat) f:=(gm [Gr.R a b c d,blk e 37 [f],fL fW f 3 1 ([])]:fT)
abbrev DS a (b c:Nat) d e f:=(gm [a,blk b 31 (Zf c),Gr.R c d e f]:fT)
abbrev DT a (b c d:Nat) (e:Int) f g h:=(gm [a,blk b 31 (Zf c),blk d 3 (Zd e),Gr.R c f g h]:fT)
theorem ZN(v:Value)(n:Nat)(es:List Ge)(w:World)(hO:Own (B8 v es) w)(hg:mj n es)(hn:n<=65536)(hm:es.length<=65536) :
 CR ya 38 #[(Za n),v] w (fun r w' => ∃ (gb:Nat) (q:Gr),r = .pointer (some ⟨gb,0,none⟩)/\fV (B8 v es) w w' (Gr.R gb n q es)):=by
 refine en Tryz.func38 Tryz.ntmps38 ?_
 have a3:=yq hO
 refine p8 a3 6 ?_
 have y:AV Su [3,7,9] [(7,fun d=>blk d 3 ((List.replicate (2*es.length) 0).flatMap fS)),(3,fun j=>blk j 3 ((List.replicate (n+1) 0).flatMap fS))] 9:=J4 (is:=[7,3]) rfl d_
 refine KO mixed Su [3,7,9] [(7,fun d=>blk d 3 ((List.replicate (2*es.length) 0).flatMap fS)),(3,fun j=>blk j 3 ((List.replicate (n+1) 0).flatMap fS))] 9 k_ rfl [fun g=>v,fun g=>(Za n),fun g=>(Za ((n+1:Nat):Int)),fun g=>(Ze (g 3) (n+1)),fun g=>v,fun g=>(Za es.length),fun g=>(Za ((2*es.length:Nat):Int)),fun g=>(Ze (g 7) (2*es.length)),fun g=>(HM v (g 3) (n+1) (g 7) (2*es.length)),fun g=>(Zb (g 9)),fun g=>(Zb (g 9))] (fun g=>[blk (g 9) 167 (MG v (g 3) (n+1) (g 7) (2*es.length)),blk (g 7) 3 ((List.replicate (2*es.length) 0).flatMap fS),blk (g 3) 3 ((List.replicate (n+1) 0).flatMap fS),fL Ge.cells v 110 3 es]) (fun g=>(5,(Zb (g 9))) :: (23,(Zb (g 9))) :: (22,(HM v (g 3) (n+1) (g 7) (2*es.length))) :: (21,(Ze (g 7) (2*es.length))) :: (20,(Za ((2*es.length:Nat):Int))) :: (19,(Za es.length)) :: (18,v) :: (17,(Ze (g 3) (n+1))) :: (16,(Za ((n+1:Nat):Int))) :: (15,(Za n)) :: (14,v) :: _) a3 ?_ f_ ?_
 . skip
   refine mR rfl (fun g _ _=>qv rfl rfl (lI (v:=v) rfl)) (mR rfl (fun g _ _=>qv rfl rfl (lI (v:=(Za n)) rfl)) (mR rfl (fun g _ _=>qv rfl rfl (Eg (e:=((n+1:Nat):Int)) rfl rfl rfl iW)) (sW y (R:=fun j=>blk j 3 ((List.replicate (n+1) 0).flatMap fS)) (val:=fun j=>(Ze j (n+1))) s_ (fun _ _=>rfl) (fun g wq L hM N kM=>rZ (cf:=fS) (z0:=0) (m:=(n+1)) (c:=(n+1)) rfl rfl rfl yd gr rfl f_ d_ (zj _) o_ o_ hM (fun a7 _ h=>kM a7 _ h)) (fun _ _=>lu rfl sT) (mR rfl (fun g _ _=>qv rfl rfl (lI (v:=v) rfl)) (mR rfl (fun g _ _=>qv rfl rfl (JJ (v:=v) rfl pJ (y0 (cf:=Ge.cells) a3 0 rfl))) (mR rfl (fun g _ _=>qv rfl rfl (Eg (e:=((2*es.length:Nat):Int)) rfl rfl rfl iW)) (sW y (R:=fun d=>blk d 3 ((List.replicate (2*es.length) 0).flatMap fS)) (val:=fun d=>(Ze d (2*es.length))) s_ (fun _ _=>rfl) (fun g wq L hM N kM=>rZ (cf:=fS) (z0:=0) (m:=(2*es.length)) (c:=(2*es.length)) rfl rfl rfl yd gr rfl f_ d_ (zj _) o_ o_ hM (fun a8 _ h=>kM a8 _ h)) (fun _ _=>lu rfl sT) ?_)))))))
   refine mR rfl (fun g _ _=>qv rfl rfl (Ck (pvs:=[(1,v),(2,(Ze (g 3) (n+1))),(3,(Ze (g 7) (2*es.length)))]) (v:=.agg #[Zt,v,(Ze (g 3) (n+1)),(Ze (g 7) (2*es.length))]) rfl (jo [(1,[v]),(2,(qq (g 3) (n+1))),(3,(qq (g 7) (2*es.length)))] Lz ada rfl ⟨rfl,(cells_one (yr a3 (i:=0) rfl)),rfl,rfl,rfl,rfl,trivial⟩ rfl))) (Kj y (val:=fun b=>(Zb b)) (fun _ _=>rfl) (fun g wq hM N kM=>JS (v:=(HM v (g 3) (n+1) (g 7) (2*es.length))) (cs:=(MG v (g 3) (n+1) (g 7) (2*es.length))) rfl rfl rfl hM (fun a9 _ h=>kM a9 _ h)) (fun _ _=>lu rfl sT) (mR rfl (fun g _ _=>qv rfl rfl (vS (v:=(Zb (g 9))) rfl)) ?_))
   exact Kk
 intro A K p
 generalize A 3=j at p ⊢
 generalize A 7=d at p ⊢
 generalize A 9=b at p ⊢
 have M:St _ [blk b 167 [(.pointer none),v,(.slice (some ⟨j,0,none⟩) (n+1) (n+1)),(.slice (some ⟨d,0,none⟩) (2*es.length) (2*es.length))],blk d 3 ((List.replicate (2*es.length) 0).flatMap fS),fL fS (.slice (some ⟨j,0,none⟩) (n+1) (n+1)) 3 1 (List.replicate (n+1) 0),fL Ge.cells v 110 3 es] K:=kZ (cf:=fS) p (i:=2) rfl f_ (zj _) (by simp only[maxLen];omega)
 generalize (Value.slice (some ⟨j,0,none⟩) (n+1) (n+1))=a at M ⊢
 have O:St _ [blk b 167 [(.pointer none),v,a,(.slice (some ⟨d,0,none⟩) (2*es.length) (2*es.length))],fL fS (.slice (some ⟨d,0,none⟩) (2*es.length) (2*es.length)) 3 1 (List.replicate (2*es.length) 0),fL fS a 3 1 (List.replicate (n+1) 0),fL Ge.cells v 110 3 es] K:=kZ (cf:=fS) M (i:=1) rfl f_ (zj _) (by simp only[maxLen];omega)
 generalize (Value.slice (some ⟨d,0,none⟩) (2*es.length) (2*es.length))=l at O ⊢
 refine KZ tt none O 14 fun av B=>?_
 refine iM (m:=es.length) 3 rfl rfl pJ B rfl ?_
 have U:=yg [0,3,2,1] B
 have V:=yw 2 U rfl (congrArg (fL fS a 3 1) (aeL))
 refine gD B 4 ?_
 refine lp (α:=Nat) (fun i=>[(0,(Za n)),(1,v),(4,Zt),(5,(Zb b)),(28,v),(29,(Za es.length)),(30,(Za i))]) (fun i w1=>St [(w,(B8 v es).gH)] (Hx b v a l es (oe n (iY (es.take i))) (List.replicate (2*es.length) 0)) w1/\i<=es.length) (fun i=>es.length-i) 0 ⟨rfl,rfl,rfl,rfl,rfl,rfl,gj rO,trivial⟩ (⟨V,o_⟩) ?_
 rintro i aw ax ⟨aZ,hi⟩
 have bj:(iY (es.take i)).length<=2*i:=by rw[tL,zw];omega
 have bp:=wV (n:=n) (E:=iY (es.take i))
 refine fR aZ 2 ?_
 by_cases ay:((i:Int):Int)<((es.length:Int):Int)
 . have a5:i<es.length:=by omega
   have a4:=hg.at a5
   have bn:=Td (E:=iY (es.take i)) (show (fJ es i).u+1<=n by omega)
   refine fK aZ 13 ?_
   refine iE aZ (fun az aA aB aC W=>?_)
   refine gI W 11 fun aD C=>?_
   refine ar (e:=((((fJ es i).u)+1:Nat):Int)) rfl rfl rfl rfl iW (fK C 2 ?_)
   refine ar (e:=(((fJ (oe n (iY (es.take i))) (((fJ es i).u)+1))+1:Nat):Int)) rfl rfl rfl rfl iW (fK C 1 ?_)
   refine iz (f:=(fun _=>((fJ (oe n (iY (es.take i))) (((fJ es i).u)+1))+1))) 3 C (fun aE P=>?_)
   have X:=yw 3 P rfl (congrArg (fL fS a 3 1) (Tc a4.1))
   have ba:=Td (E:=iY (es.take i)++[(fJ es i).u]) (show (fJ es i).v+1<=n by omega)
   refine gD P 2 ?_
   rw[zp,Dx]at ba
   have bs:=wV (n:=n) (E:=iY (es.take i)++[(fJ es i).u])
   refine nN X 7 fun aF D=>?_
   refine ar (e:=((((fJ es i).v)+1:Nat):Int)) rfl rfl rfl rfl iW (fK D 2 ?_)
   refine ar (e:=(((fJ (oe n (iY (es.take i)++[(fJ es i).u])) (((fJ es i).v)+1))+1:Nat):Int)) rfl rfl rfl rfl iW (fK D 1 ?_)
   refine iz (f:=(fun _=>((fJ (oe n (iY (es.take i)++[(fJ es i).u])) (((fJ es i).v)+1))+1))) 3 D (fun aG Q=>?_)
   refine fP Q 7 ?_
   refine tN (?_)
   have Y:=yg [1,2,3,4] Q
   have Z:=yw 2 Y rfl (congrArg (fL fS a 3 1) ((Tc a4.2.1).trans (congrArg (oe n) (show iY (es.take i)++[(fJ es i).u]++[(fJ es i).v]=iY (es.take (i+1)) by rw[WN a5];simp))))
   exact again (i+1) ⟨rfl,rfl,rfl,rfl,rfl,rfl,gj rO,trivial⟩ (⟨Z,o_⟩) (by show (es.length-(i+1):Nat)<es.length-i;omega)
 . have bc:i=es.length:=by omega
   have bi:es.take i=es:=by rw[bc,tq]
   have aa:=yw 2 aZ rfl (congrArg (fL fS a 3 1) ((congrArg (fun z=>oe n (iY z)) bi).trans aeN))
   refine gD aZ 18 ?_
   refine lp (α:=Nat) (fun k=>[(0,(Za n)),(1,v),(4,Zt),(5,(Zb b)),(57,(Za n)),(58,(Za k))]) (fun k w1=>St [(w,(B8 v es).gH)] (Hx b v a l es (mS n (iY es) k) (List.replicate (2*es.length) 0)) w1/\k<=n) (fun k=>n-k) 0 ⟨rfl,rfl,rfl,rfl,rfl,gj rO,trivial⟩ (⟨aa,o_⟩) ?_
   rintro k aH ab ⟨a0,hk⟩
   have bk:=tL es
   have bt:=FQ (n:=n) (k:=k) (E:=iY es)
   refine fR a0 2 ?_
   by_cases aI:((k:Int):Int)<((n:Int):Int)
   . have bd:k<n:=by omega
     have bm:=Te (E:=iY es) (k:=k) (show k+1<=n by omega)
     have bl:=Te (E:=iY es) (k:=k) (show k<=n by omega)
     refine gI a0 21 fun aJ G=>?_
     refine ar (e:=((k+1:Nat):Int)) rfl rfl rfl rfl iW (fK G 9 ?_)
     refine ar (e:=(((fJ (mS n (iY es) k) (k+1))+(fJ (mS n (iY es) k) k):Nat):Int)) rfl rfl rfl rfl iW (fK G 1 ?_)
     refine iz (f:=(fun _=>((fJ (mS n (iY es) k) (k+1))+(fJ (mS n (iY es) k) k)))) 2 G (fun aK S=>?_)
     refine fP S 7 ?_
     refine tN (?_)
     have ac:=yw 2 S rfl (congrArg (fL fS a 3 1) (aeM bd))
     exact again (k+1) ⟨rfl,rfl,rfl,rfl,rfl,gj rO,trivial⟩ (⟨ac,o_⟩) (by show (n-(k+1):Nat)<n-k;omega)
   . refine fK a0 16 ?_
     refine cl IU (Ii a (mS n (iY es) k) ab (y0 a0 2 rfl).any (by first|omega|(simp;omega))) ?_
     rintro o ad hz
     have s:St _ [fL fS o 3 1 (mS n (iY es) k),blk b 167 (Ce b v a l),fL Ge.cells v 110 3 es,fL fS a 3 1 (mS n (iY es) k),fL fS l 3 1 (List.replicate (2*es.length) 0)] ad:=vr a0 hz.2 hz.1
     refine fK s 7 ?_
     refine iM (m:=es.length) 2 rfl rfl pJ s rfl ?_
     have ae:=yg [1,2,3,4,0] s
     have a6:k=n:=by omega
     have af:=yw 2 ae rfl (congrArg (fL fS a 3 1) (congrArg (mS n (iY es)) a6))
     have ag:=yw 4 af rfl (congrArg (fL fS o 3 1) ((congrArg (mS n (iY es)) a6).trans acs))
     have ah:=yw 3 ag rfl (congrArg (fL fS l 3 1) (congrArg (fun z=>List.replicate z 0) (tL es).symm))
     refine gD s 4 ?_
     refine lp (α:=Nat) (fun F=>[(0,(Za n)),(4,Zt),(5,(Zb b)),(9,o),(84,v),(85,(Za es.length)),(86,(Za F))]) (fun F w1=>St [(w,(B8 v es).gH)] [blk b 167 (Ce b v a l),fL Ge.cells v 110 3 es,fL fS a 3 1 (mA n es),fL fS l 3 1 (qy n (iY es) (2*F)),fL fS o 3 1 (oN n (iY es) (2*F))] w1/\F<=es.length) (fun F=>es.length-F) 0 ⟨rfl,rfl,rfl,rfl,rfl,rfl,gj rO,trivial⟩ (⟨ah,o_⟩) ?_
     rintro F aL aM ⟨a1,bo⟩
     have bf:=Fb (n:=n) (E:=iY es) (2*F)
     have br:=Fx (n:=n) (E:=iY es) (k:=2*F)
     rw[tL]at bf
     refine fR a1 2 ?_
     by_cases aN:((F:Int):Int)<((es.length:Int):Int)
     . have T:F<es.length:=by omega
       have a2:=hg.at T
       refine fK a1 14 ?_
       refine iE a1 (fun aO aP aQ aR ai=>?_)
       refine gI ai 10 fun aS t=>?_
       refine jc (pvs:=[(0,(Za ((fJ es F).u:Int))),(1,(Za ((fJ es F).v:Int)))]) (v:=.agg (Zx ((fJ es F).u:Int) ((fJ es F).v:Int))) rfl rfl (uJ [(0,(Zd ((fJ es F).u:Int))),(1,(Zd ((fJ es F).v:Int)))] F5 yo gr rfl ⟨rfl,rfl,rfl,rfl,trivial⟩ rfl s_) (gD t 4 ?_)
       refine ry 3 (iG (fR t 13 ?_))
       refine mL (i:=0) rfl rfl rfl yo yf rfl gr d_ rfl ?_
       have bh:=RE a2.1 (Az T).1
       refine gD t 4 ?_
       rw[tL]at bh
       refine nN t 11 fun aT aj=>?_
       refine iz (f:=(fun _=>F)) 4 aj (fun aU H=>?_)
       refine fK H 7 ?_
       refine ar (e:=(((fJ (oN n (iY es) (2*F)) ((fJ es F).u))+1:Nat):Int)) rfl rfl rfl rfl iW (fK H 1 ?_)
       refine iz (f:=(fun _=>((fJ (oN n (iY es) (2*F)) ((fJ es F).u))+1))) 5 H (fun aV x=>?_)
       refine fP x 7 ?_
       refine tN (?_)
       refine iG (fR x 13 ?_)
       refine mL (i:=1) rfl rfl rfl yo yf rfl gr d_ rfl ?_
       have ak:=yw 5 x rfl (congrArg (fL fS o 3 1) (RF a2.1 (Az T).1))
       have al:=yw 4 ak rfl (congrArg (fL fS l 3 1) ((abp T).symm))
       have bg:=RE a2.2.1 (Az T).2
       refine gD x 4 ?_
       rw[tL]at bg
       have be:=Fb (n:=n) (E:=iY es) (2*F+1)
       rw[tL]at be
       have bq:=Fx (n:=n) (E:=iY es) (k:=2*F+1)
       refine nN al 11 fun aW am=>?_
       refine iz (f:=(fun _=>F)) 4 am (fun aX I=>?_)
       refine fK I 7 ?_
       refine ar (e:=(((fJ (oN n (iY es) (2*F+1)) ((fJ es F).v))+1:Nat):Int)) rfl rfl rfl rfl iW (fK I 1 ?_)
       refine iz (f:=(fun _=>((fJ (oN n (iY es) (2*F+1)) ((fJ es F).v))+1))) 5 I (fun aY J=>?_)
       refine fP J 7 ?_
       refine tN (?_)
       refine iG (iO J 17 ?_)
       refine tN (?_)
       have an:=yg [1,2,3,4,5] J
       have ao:=yw 4 an rfl (congrArg (fL fS o 3 1) (RF a2.2.1 (Az T).2))
       have ap:=yw 3 ao rfl (congrArg (fL fS l 3 1) ((abq T).symm))
       exact again (F+1) ⟨rfl,rfl,rfl,rfl,rfl,rfl,gj rO,trivial⟩ (⟨ap,o_⟩) (by show (es.length-(F+1):Nat)<es.length-F;omega)
     . refine fP a1 17 ?_
       refine gq (v:=(Zb b)) Tryz.results38 rfl ?_
       have aq:=yg [0,1,2,3] a1
       have bb:F=es.length:=by omega
       have au:=yw 3 aq rfl (congrArg (fL fS l 3 1) (congrArg (fun z=>qy n (iY es) (2*z)) bb))
       exact⟨b,(⟨v,a,l⟩:Gr),rfl,yi (yc [_,_,_,_] _ au)⟩
theorem ER(v:Value)(n:Nat)(es:List Ge)(w:World)(hv:gY 3 Ge.cells (fun _=>True) w v es)(G:mj n es)(N:n<=4096)(hm:es.length<=16384) :
 CR ya 8 #[(Za n),v] w (fun r w' => ∃ (F:Nat) (q:Gr),r = .tuple (Z0 F)/\fV (gm []) w w' (Gr.R F n q es)):=by
 refine enter (vs:=[(Za n),v]) Tryz.func8 rfl Tryz.ntmps8 rfl ?_
 have C:=yu w
 refine fR C 10 ?_
 refine cmp (a:=(n:Int)) (b:=0) rfl rfl rfl (lG o_) (fK C 2 ?_)
 refine cmp (a:=(n:Int)) (b:=4096) rfl rfl rfl (qx o_) (fK C 3 ?_)
 refine j8 (v:=v) rfl rfl pJ hv (cmp (a:=(es.length:Int)) (b:=16384) rfl rfl rfl (qx o_) (fK C 10 ?_))
 refine j8 (v:=v) rfl rfl pJ hv (gD C 4 ?_)
 refine lp (α:=Nat) (fun i=>[(0,(Za n)),(1,v),(4,Zt),(5,Zc),(19,v),(20,(Za es.length)),(21,(Za i))]) (fun i w1=>St [(w,[])] [] w1/\i<=es.length) (fun i=>es.length-i) 0 ⟨rfl,rfl,rfl,rfl,rfl,rfl,gj (by first|rfl|omega),trivial⟩ (⟨C,o_⟩) ?_
 rintro i p k ⟨D,hi⟩
 refine fR D 2 ?_
 by_cases s:((i:Int):Int)<((es.length:Int):Int)
 . obtain⟨B,I⟩:=nW (show i<es.length by omega)
   have E:=G _ (zd I)
   have K:=E.1
   have L:=E.2.1
   have M:=E.2.2
   refine fK D 13 ?_
   refine iE D (fun t x y z l=>?_)
   refine gI l 8 fun A c=>?_
   refine cmp (a:=(B.u:Int)) (b:=0) rfl rfl rfl (lG o_) (fK c 4 ?_)
   refine cmp (a:=(B.u:Int)) (b:=(n:Int)) rfl rfl rfl (p5 o_) (fK c 4 ?_)
   refine cmp (a:=(B.v:Int)) (b:=0) rfl rfl rfl (lG o_) (fK c 5 ?_)
   refine cmp (a:=(B.v:Int)) (b:=(n:Int)) rfl rfl rfl (p5 o_) (fK c 12 ?_)
   refine cmp (a:=(B.u:Int)) (b:=(B.v:Int)) rfl rfl rfl (vU o_) (fP c 10 ?_)
   refine tN (?_)
   have m:=St.sub (L' := []) c (List.Sublist.cons _ (List.Sublist.refl _))
   exact again (i+1) ⟨rfl,rfl,rfl,rfl,rfl,rfl,gj (by first|rfl|omega),trivial⟩ (⟨m,o_⟩) (by show (es.length-(i+1):Nat)<es.length-i;omega)
 . refine fK D 14 ?_
   refine jO (vl:=[v]) rfl rfl PD (Om v es k ((yy D s_ d_ hv)).any (by first|omega|(simp;omega))) ?_
   rintro f g H
   have h:St _ [fL Ge.cells f 110 3 es] g:=vr D H.2 H.1
   refine jO (vl:=[(Za n),f]) rfl rfl Yg (ZN f n es g (lJ h (i:=0) rfl) G o_ o_) ?_
   rintro _ o ⟨d,e,rfl,J⟩
   have j:St _ [(Gr.R d n e es)] o:=mh (R' := (Gr.R d n e es)) 0 h rfl J rfl
   refine fP j 5 ?_
   refine iD (v:=(Zb d)) (v' := Zc) Tryz.results8 rfl rfl ?_
   exact⟨d,e,rfl,vz (R:=(Gr.R d n e es)) j s_⟩
end
section
open Go Go.Sx
open Go.Lib Go.Sort Go.RowKit in
theorem ab6(x:Int)(w:World):Calls ya 243 (Z4 x) w fun e w' => e = .returned Zp/\w' = w:=by
 go_enter Tryz.func243,Tryz.ntmps243
 go_wp2
 go_ret
 exact⟨s_,rfl⟩
open Go.Lib Go.Sort Go.RowKit in
theorem V4(x y:Int)(w:World):CR ya 172 (Zx x y) w (fun r w' => r = .int .i64 (jh x y)/\w' = w):=by
 have h:Calls ya 172 (Zx x y) w fun e w' => e = .returned (Za (jh x y))/\w' = w:=by
  go_enter Tryz.func172,Tryz.ntmps172
  go_wp2_with (go_at_call 243;refine(ab6 _ _).mono ?_;rintro e w' ⟨rfl,a⟩;rw[a])
  all_goals (go_ret;refine⟨?_,rfl⟩;unfold jh;(repeat' split)<;>first|rfl|(exfalso;omega))
 exact h.mono fun e w' h=>⟨_,h.1,rfl,h.2⟩
open Go.Lib Go.Sort Go.RowKit in
theorem ab5(x:Int)(w:World):Calls ya 237 (Z4 x) w fun e w' => e = .returned Zp/\w' = w:=by
 go_enter Tryz.func237,Tryz.ntmps237
 go_wp2
 go_ret
 exact⟨s_,rfl⟩
open Go.Lib Go.Sort Go.RowKit in
theorem V3(x y:Int)(w:World):CR ya 173 (Zx x y) w (fun r w' => r = .int .i64 (jh x y)/\w' = w):=by
 have h:Calls ya 173 (Zx x y) w fun e w' => e = .returned (Za (jh x y))/\w' = w:=by
  go_enter Tryz.func173,Tryz.ntmps173
  go_wp2_with (go_at_call 237;refine(ab5 _ _).mono ?_;rintro e w' ⟨rfl,a⟩;rw[a])
  all_goals (go_ret;refine⟨?_,rfl⟩;unfold jh;(repeat' split)<;>first|rfl|(exfalso;omega))
 exact h.mono fun e w' h=>⟨_,h.1,rfl,h.2⟩
theorem acI(v:Value)(xs:List Int)(w:World)(hv:Ints .i64 (fun _=>True) w v xs) :
 CR ya 171 #[v] w (fun r w' => r = .int .i64 (nk xs)/\w' = w):=by
 have y:=hv.len
 refine en Tryz.func171 Tryz.ntmps171 ?_
 have p:=yu w
 refine fR p 14 ?_
 refine j8 (v:=v) rfl rfl yd hv (gD p 4 ?_)
 refine lp (α:=Nat) (fun k=>[(3,Zc),(6,v),(7,(Za xs.length)),(8,(Za k))]) (fun k w1=>St [(w,[])] [] w1/\w1=w/\k<=xs.length/\∀ j x,j<k->xs[j]? = some x->x=0) (fun k=>xs.length-k) 0 ⟨rfl,rfl,rfl,gj rO,trivial⟩ (⟨p,rfl,o_,fun j x h=>absurd h o_⟩) ?_
 rintro k c d ⟨o,q,u,t⟩
 refine fR o 2 ?_
 by_cases e:((k:Int):Int)<((xs.length:Int):Int)
 . obtain⟨x,s⟩:=nW (show k<xs.length by omega)
   refine fK o 11 ?_
   refine CC (i:=(k:Int)) (el:=x) rfl rfl rfl yd gr (St.EV o s_ hv) o_ (by rw[show ((k:Nat):Int).toNat=k by omega];exact s) ?_
   intro f g a b l
   have m:=b.i64
   refine ld rfl rfl yf rfl a (fK o 7 ?_)
   by_cases n:(x:Int)=(0:Int)
   . refine fP o 11 ?_
     refine tN (?_)
     exact again (k+1) ⟨rfl,rfl,rfl,gj rO,trivial⟩ (⟨o,q,o_,RQ t s o_⟩) (by show (xs.length-(k+1):Nat)<xs.length-k;omega)
   . refine fP o 16 ?_
     refine gq (v:=(Za x)) Gs rfl ?_
     exact⟨gj (RN t s o_).symm,q⟩
 . refine fP o 17 ?_
   refine gq (v:=Zc) Gs rfl ?_
   exact⟨gj (RO t o_).symm,q⟩
theorem acG(es:List Ge)(lb:Nat)(ev:Value)(i j:Nat)(w:World)(hb:(blk lb 28 [ev]).holds w)(hv:gY 3 Ge.cells (fun _=>True) w ev es)(hi:i<es.length)(m:j<es.length)(hm:es.length<=16384) :
 CR ya 170 #[(Za i),(Za j),(Zb lb)] w (fun r w' => r = .int .i64 (qA (⟨i,(fJ es i).w⟩:gG) (⟨j,(fJ es j).w⟩:gG))/\Gw w w'):=by
 refine en Tryz.func170 Tryz.ntmps170 ?_
 have o:=yu w
 refine p8 o 6 ?_
 refine ad9 (Γ:=Nat) mixed [[],[],[0,1],[0,1,2],[0,1,2,3],[],[],[5,6],[5,6,7],[5,6,7,8],[0,1,2,3,4,5,6,7,8,9],[],[],[0,1,2,3,4,5,6,7,8,9,10,11,12],[0,1,2,3,4,5,6,7,8,9,10,11,12,13],[0,1,2,3,4,5,6,7,8,9,10,11,12,13,14],[0,1,2,3,4,5,6,7,8,9,10,11,12,13,14,15]] [14] d_ [fun _=>ev,fun _=>(Za i),fun _=>(jm 3 ev i 0),fun _=>(jm 3 ev i 2),fun _=>(Za ((fJ es i).w)),fun _=>ev,fun _=>(Za j),fun _=>(jm 3 ev j 0),fun _=>(jm 3 ev j 2),fun _=>(Za ((fJ es j).w)),fun _=>(Za (jh ((fJ es i).w) ((fJ es j).w))),fun _=>(Za i),fun _=>(Za j),fun _=>(Za (jh (i:Int) (j:Int))),fun a=>(xG a),fun _=>(Za (nk [jh ((fJ es i).w) ((fJ es j).w),jh (i:Int) (j:Int)])),fun _=>(Za (nk [jh ((fJ es i).w) ((fJ es j).w),jh (i:Int) (j:Int)]))] [(fun a=>[],fun _ n=>Gw w n),(fun a=>[ig .i64 (xG a) 3 ([jh ((fJ es i).w) ((fJ es j).w),jh (i:Int) (j:Int)])],fun _ n=>Gw w n)] 0 (fun a=>(5,(Za (nk [jh ((fJ es i).w) ((fJ es j).w),jh (i:Int) (j:Int)]))) :: (21,(Za (nk [jh ((fJ es i).w) ((fJ es j).w),jh (i:Int) (j:Int)]))) :: (20,(xG a)) :: (19,(Za (jh (i:Int) (j:Int)))) :: (18,(Za j)) :: (17,(Za i)) :: (16,(Za (jh ((fJ es i).w) ((fJ es j).w)))) :: (15,(Za ((fJ es j).w))) :: (14,(jm 3 ev j 2)) :: (13,(jm 3 ev j 0)) :: (12,(Za j)) :: (11,ev) :: (10,(Za ((fJ es i).w))) :: (9,(jm 3 ev i 2)) :: (8,(jm 3 ev i 0)) :: (7,(Za i)) :: (6,ev) :: _) rfl o (Gw.drew _) ?_ (fun a=>rfl) rfl ?_
 . skip
   refine wF rfl rfl rfl rfl (fun a l f g=>qv rfl rfl (mM rfl pJ rfl (kK f s_ hb rfl))) (u7 (fun a _=>lI (v:=(Za i)) rfl) ?_)
   refine u7 (fun a _=>CD (k:=i) (i:=(i:Int)) rfl rfl pJ yU hv o_ o_ (gy hi)) ?_
   refine u7 (fun a _=>EK (off:=0) (off' := 2) rfl Gz rfl ti2 rfl hv (gy hi)) ?_
   refine wF rfl rfl rfl rfl (fun a l f g=>qv rfl rfl (wo (u:=(Za ((fJ es i).w))) rfl vw rfl (yy f s_ d_ hv) (gy hi) rfl)) (wF rfl rfl rfl rfl (fun a l f g=>qv rfl rfl (mM rfl pJ rfl (kK f s_ hb rfl))) (u7 (fun a _=>lI (v:=(Za j)) rfl) ?_))
   refine u7 (fun a _=>CD (k:=j) (i:=(j:Int)) rfl rfl pJ yU hv o_ o_ (gy m)) ?_
   refine u7 (fun a _=>EK (off:=0) (off' := 2) rfl Gz rfl ti2 rfl hv (gy m)) ?_
   refine wF rfl rfl rfl rfl (fun a l f g=>qv rfl rfl (wo (u:=(Za ((fJ es j).w))) rfl vw rfl (yy f s_ d_ hv) (gy m) rfl)) (wF rfl rfl rfl rfl (fun a l f g=>qc rfl rfl (sP rfl OZ) (CR.mono (V4 ((fJ es i).w) ((fJ es j).w) l) fun _ _ h=>⟨h.1,(by obtain rfl:=h.2;exact⟨f,g⟩)⟩)) (u7 (fun a _=>lI (v:=(Za i)) rfl) ?_))
   refine u7 (fun a _=>lI (v:=(Za j)) rfl) ?_
   refine wF rfl rfl rfl rfl (fun a l f g=>qc rfl rfl (sP rfl O1) (CR.mono (V3 (i:Int) (j:Int) l) fun _ _ h=>⟨h.1,(by obtain rfl:=h.2;exact⟨f,g⟩)⟩)) (Kl rfl rfl rfl rfl (fun a l f g=>abz (vs:=(Zn (jh ((fJ es i).w) ((fJ es j).w)) (jh (i:Int) (j:Int)))) (cs:=(Zn (jh ((fJ es i).w) ((fJ es j).w)) (jh (i:Int) (j:Int)))) g rfl rfl yd gr rfl (by simp[Value.cells]) rfl rfl rfl f (fun b _ h q=>⟨b,⟨h,q⟩,rfl,lu rfl sT⟩)) (wF rfl rfl rfl rfl (fun a l f g=>qc rfl rfl (sP rfl OY) (CR.mono (acI (xG a) [jh ((fJ es i).w) ((fJ es j).w),jh (i:Int) (j:Int)] l (xm f (i:=0) rfl (fun y p=>by simp only[ze,oV,or_false]at p;rcases p with rfl|rfl<;>exact Oo _ _)).any) fun _ _ h=>⟨h.1,(by obtain rfl:=h.2;exact⟨f,g⟩)⟩)) (u7 (fun a _=>vS (v:=(Za (nk [jh ((fJ es i).w) ((fJ es j).w),jh (i:Int) (j:Int)]))) rfl) ?_)))
   exact RI
 rintro a e c d
 refine r8 tt none c 2 ?_
 refine gq (v:=(Za (nk [jh ((fJ es i).w) ((fJ es j).w),jh (i:Int) (j:Int)]))) Tryz.results170 rfl ?_
 exact⟨gj (RS (⟨i,(fJ es i).w⟩:gG) (⟨j,(fJ es j).w⟩:gG)),d⟩
end
end Go.Proofs.YtedjjkcihkmjgaaGreatDoor
namespace Go.Proofs
open Go.Shelf Go.Lib Go.Sort Go.RowKit in
def Tryz.aeZ:Go.Shelf.Ren:=⟨fun|6=>169|15=>92|14=>242|28=>162|29=>163|20=>298|21=>299|22=>300|23=>301|24=>302|25=>303|26=>304|27=>305|46=>335|47=>233|48=>234|49=>336|50=>337|57=>355|n=>n,fun|22=>37|24=>3|25=>216|3=>3|39=>193|0=>0|53=>289|55=>39|4=>4|46=>283|45=>282|50=>160|5=>5|9=>9|66=>348|70=>351|76=>406|77=>197|n=>n,fun|n=>n⟩
open Go.Shelf Go.Lib Go.Sort Go.RowKit in
theorem Tryz.aeX:Go.Proofs.SlLaysF.n6 Proofs.Tryz.prog Tryz.aeZ where
 mixed:=by kernel_rfl
 f6:=⟨Proofs.Tryz.f169.name,by(decide),Proofs.Tryz.func169.trans (congrArg some<|by kernel_rfl)⟩
 f14:=⟨Proofs.Tryz.f242.name,by(decide),Proofs.Tryz.func242.trans (congrArg some<|by kernel_rfl)⟩
 f15:=Proofs.Tryz.func92.trans (congrArg some<|by kernel_rfl)
 f20:=⟨Proofs.Tryz.f298.name,by(decide),Proofs.Tryz.func298.trans (congrArg some<|by kernel_rfl)⟩
 f21:=⟨Proofs.Tryz.f299.name,by(decide),Proofs.Tryz.func299.trans (congrArg some<|by kernel_rfl)⟩
 f22:=⟨Proofs.Tryz.f300.name,by(decide),Proofs.Tryz.func300.trans (congrArg some<|by kernel_rfl)⟩
 f23:=⟨Proofs.Tryz.f301.name,by(decide),Proofs.Tryz.func301.trans (congrArg some<|by kernel_rfl)⟩
 f24:=⟨Proofs.Tryz.f302.name,by(decide),Proofs.Tryz.func302.trans (congrArg some<|by kernel_rfl)⟩
 f25:=⟨Proofs.Tryz.f303.name,by(decide),Proofs.Tryz.func303.trans (congrArg some<|by kernel_rfl)⟩
 f26:=⟨Proofs.Tryz.f304.name,by(decide),Proofs.Tryz.func304.trans (congrArg some<|by kernel_rfl)⟩
 f27:=⟨Proofs.Tryz.f305.name,by(decide),Proofs.Tryz.func305.trans (congrArg some<|by kernel_rfl)⟩
 f28:=Proofs.Tryz.func162.trans (congrArg some<|by kernel_rfl)
 f29:=Proofs.Tryz.func163.trans (congrArg some<|by kernel_rfl)
 f46:=⟨Proofs.Tryz.f335.name,by(decide),Proofs.Tryz.func335.trans (congrArg some<|by kernel_rfl)⟩
 f47:=Proofs.Tryz.func233.trans (congrArg some<|by kernel_rfl)
 f48:=Proofs.Tryz.func234.trans (congrArg some<|by kernel_rfl)
 f49:=⟨Proofs.Tryz.f336.name,by(decide),Proofs.Tryz.func336.trans (congrArg some<|by kernel_rfl)⟩
 f50:=⟨Proofs.Tryz.f337.name,by(decide),Proofs.Tryz.func337.trans (congrArg some<|by kernel_rfl)⟩
 f57:=⟨Proofs.Tryz.f355.name,by(decide),Proofs.Tryz.func355.trans (congrArg some<|by kernel_rfl)⟩
 t0:=Proofs.Tryz.underlying0
 a0:=Proofs.Tryz.isAgg0
 z0:=Proofs.Tryz.sizeOf0
 v0:=Proofs.Tryz.zeroValue0
 t3:=Proofs.Tryz.underlying3
 a3:=Proofs.Tryz.isAgg3
 z3:=Proofs.Tryz.sizeOf3
 v3:=Proofs.Tryz.zeroValue3
 t4:=Proofs.Tryz.underlying4
 a4:=Proofs.Tryz.isAgg4
 z4:=Proofs.Tryz.sizeOf4
 v4:=Proofs.Tryz.zeroValue4
 t5:=Proofs.Tryz.underlying5
 a5:=Proofs.Tryz.isAgg5
 z5:=Proofs.Tryz.sizeOf5
 v5:=Proofs.Tryz.zeroValue5
 t9:=Proofs.Tryz.underlying9
 a9:=Proofs.Tryz.isAgg9
 z9:=Proofs.Tryz.sizeOf9
 v9:=Proofs.Tryz.zeroValue9
 t22:=Proofs.Tryz.underlying37
 a22:=Proofs.Tryz.isAgg37
 z22:=Proofs.Tryz.sizeOf37
 v22:=Proofs.Tryz.zeroValue37
 a24:=Proofs.Tryz.isAgg3
 z24:=Proofs.Tryz.sizeOf3
 t25:=Proofs.Tryz.underlying216
 a25:=Proofs.Tryz.isAgg216
 z25:=Proofs.Tryz.sizeOf216
 v25:=Proofs.Tryz.zeroValue216
 t39:=Proofs.Tryz.underlying193
 a39:=Proofs.Tryz.isAgg193
 z39:=Proofs.Tryz.sizeOf193
 v39:=Proofs.Tryz.zeroValue193
 t45:=Proofs.Tryz.underlying282
 a45:=Proofs.Tryz.isAgg282
 z45:=Proofs.Tryz.sizeOf282
 v45:=Proofs.Tryz.zeroValue282
 t46:=Proofs.Tryz.underlying283
 a46:=Proofs.Tryz.isAgg283
 z46:=Proofs.Tryz.sizeOf283
 v46:=Proofs.Tryz.zeroValue283
 t50:=Proofs.Tryz.underlying160
 a50:=Proofs.Tryz.isAgg160
 z50:=Proofs.Tryz.sizeOf160
 v50:=Proofs.Tryz.zeroValue160
 t53:=Proofs.Tryz.underlying289
 a53:=Proofs.Tryz.isAgg289
 z53:=Proofs.Tryz.sizeOf289
 v53:=Proofs.Tryz.zeroValue289
 t55:=Proofs.Tryz.underlying39
 a55:=Proofs.Tryz.isAgg39
 z55:=Proofs.Tryz.sizeOf39
 v55:=Proofs.Tryz.zeroValue39
 t66:=Proofs.Tryz.underlying348
 a66:=Proofs.Tryz.isAgg348
 z66:=Proofs.Tryz.sizeOf348
 v66:=Proofs.Tryz.zeroValue348
 t70:=Proofs.Tryz.underlying351
 a70:=Proofs.Tryz.isAgg351
 z70:=Proofs.Tryz.sizeOf351
 v70:=Proofs.Tryz.zeroValue351
 t76:=Proofs.Tryz.underlying406
 a76:=Proofs.Tryz.isAgg406
 z76:=Proofs.Tryz.sizeOf406
 v76:=Proofs.Tryz.zeroValue406
 t77:=Proofs.Tryz.underlying197
 a77:=Proofs.Tryz.isAgg197
 z77:=Proofs.Tryz.sizeOf197
 v77:=Proofs.Tryz.zeroValue197
end Go.Proofs
namespace Go.Proofs.YtedjjkcihkmjgaaGreatDoor
section
open Go Go.Sx Go.Lib Go.Sort Go.RowKit
theorem afm(es:List Ge)(n:Nat):SWO (ltOf fun x y:Fin n=>qA ⟨x.val,(fJ es x.val).w⟩ ⟨y.val,(fJ es y.val).w⟩) where
 irrefl x:=by unfold ltOf;rw[decide_eq_false_iff_not,nZ];exact CK _
 trans x y z h1 h2:=by unfold ltOf at *;rw[decide_eq_true_iff,nZ]at *;exact JQ h1 h2
 ntrans x y z h1 h2:=by unfold ltOf at *;rw[decide_eq_false_iff_not,nZ]at *;exact Fu h1 h2
theorem ae1(es:List Ge)(lb:Nat)(ev v:Value)(w:World)(s:Own (Z7 v (List.range es.length)) w)(hb:(blk lb 28 [ev]).holds w)(C:lb<w.heap.size)(n:lb∉(Z7 v (List.range es.length)).gH)(hv:gY 3 Ge.cells (fun b=>b∉(Z7 v (List.range es.length)).gH) w ev es)(D:0<es.length)(hm:es.length<=16384) :
 CR ya 169 #[v,.func (.func 170) #[] (Zi lb)] w (fun r w' => ∃ o:List Nat,r = .tuple #[]/\sI es o/\fV (Z7 v (List.range es.length)) w w' (Z7 v o)):=by
 refine CR.mono (ae4 (P:=ya) D (fun i j=>decide (qA ⟨i,(fJ es i).w⟩ ⟨j,(fJ es j).w⟩<0)) s o_ fun K f p d A q u G=>?_) ?_
 . rw[A]at n hv
   refine Any.slices_SortFunc (P:=ya) Tryz.aeX qV f_ (fun x y=>qA ⟨x.val,(fJ es x.val).w⟩ ⟨y.val,(fJ es y.val).w⟩) (afm es es.length) 170 (Zi lb) f 0 p d w (enters_of Tryz.func170 k_ rfl) (fun k os m hs x y=>?_) q u G
   have t:=(blk lb 28 [ev]).loc _ (sortWorld qV w f 0 k m os) (fun b h=>by simp[blk]at h;subst h;exact Th C (by simpa using n)) hb
   have I:=hv.to (w' := sortWorld qV w f 0 k m os) d_ fun b c g=>Th g (by simpa using c)
   exact Calls.mono (acG es lb ev x.val y.val _ t I.any x.2 y.2 hm) fun e w' ⟨r,z,F,B⟩=>⟨by rw[z,F],B⟩
 . rintro r w' ⟨rfl,ys,c,g,H⟩
   have E:ys.Nodup:=(c.nodup_iff).2 xw
   refine⟨ys,rfl,⟨c,(g.and E).imp fun {a b} h=>?_⟩,H⟩
   have l:=of_decide_eq_false h.1
   rw[nZ]at l
   have J:=h.2
   unfold iN at l
   unfold sR
   dsimp only at l
   omega
theorem aat(v fv:Value)(n:Nat)(w:World)(b:n=0) :
 CR ya 298 #[v,Zc,(Za n),fv] w (fun r w' => r = .tuple #[]/\gw [] w w'):=by
 refine en Tryz.func298 Tryz.ntmps298 ?_
 have a:=yu w
 refine p8 a 8 ?_
 refine ry 1 (iG (fR a 5 ?_))
 refine cmp rfl rfl rfl (lG o_) (fP a 7 ?_)
 refine iS Tryz.results298 ?_
 exact⟨rfl,a.gA s_⟩
theorem acV(v fv:Value)(n:Nat)(z:Int)(w:World)(e:n=0) :
 CR ya 242 #[v,Zc,(Za n),(Za z),fv] w (fun r w' => r = .tuple #[]/\gw [] w w'):=by
 refine en Tryz.func242 Tryz.ntmps242 ?_
 have d:=yu w
 refine p8 d 11 ?_
 refine ry 1 (iG (fR d 13 ?_))
 refine cmp rfl rfl rfl (xO o_) (fK d 9 ?_)
 refine cl X4 (aat v fv n w e) ?_
 rintro _ c ⟨rfl,b⟩
 have a:=yp d b
 refine fP a 7 ?_
 refine wN Tryz.results242 ?_
 exact⟨rfl,a.gA s_⟩
theorem aeW(v fv:Value)(xs:List Int)(w:World)(hv:Ints .i64 (fun _=>True) w v xs)(i:xs.length=0) :
 CR ya 169 #[v,fv] w (fun r w' => r = .tuple #[]/\gw [] w w'):=by
 refine en Tryz.func169 Tryz.ntmps169 ?_
 have h:=yu w
 refine fR h 3 ?_
 refine j8 (v:=v) rfl rfl yd hv (fK h 8 ?_)
 refine cl IV (HU xs.length w o_) ?_
 rintro _ c ⟨d,rfl,e⟩
 have a:=yp h e
 refine fK a 1 ?_
 refine cl XJ (acV v fv xs.length d c i) ?_
 rintro _ g ⟨rfl,f⟩
 have b:=yp a f
 refine fP b 1 ?_
 refine iS Tryz.results169 ?_
 exact⟨rfl,b.gA s_⟩
theorem ae0(es:List Ge)(lb:Nat)(ev v:Value)(w:World)(d:Own (Z7 v (List.range es.length)) w)(hb:(blk lb 28 [ev]).holds w)(l:lb<w.heap.size)(k:lb∉(Z7 v (List.range es.length)).gH)(hv:gY 3 Ge.cells (fun b=>b∉(Z7 v (List.range es.length)).gH) w ev es)(hm:es.length<=16384) :
 CR ya 169 #[v,.func (.func 170) #[] (Zi lb)] w (fun r w' => ∃ o:List Nat,r = .tuple #[]/\sI es o/\fV (Z7 v (List.range es.length)) w w' (Z7 v o)):=by
 rcases BI es.length with c|c
 . obtain rfl:=GO.1 c
   have f:=uk (yq d) (i:=0) rfl f_
   obtain⟨a,e,rfl,g,j,n⟩:=f
   refine CR.mono (aeW _ _ [] w ⟨a,e,rfl,g,j,fun i y m=>by simp at m⟩ rfl) fun r w' h=>⟨[],h.1,⟨List.Perm.refl _,List.Pairwise.nil⟩,ym ((yq d).grow h.2) za⟩
 . exact ae1 es lb ev v w d hb l k hv c hm
theorem acH(v:Value)(es:List Ge)(w:World)(hv:gY 3 Ge.cells (fun _=>True) w v es)(hm:es.length<=16384) :
 CR ya 100 #[v] w (fun r w' => ∃ (K:Value) (o:List Nat),K=r/\sI es o/\fV (gm []) w w' (Z7 K o)):=by
 refine en Tryz.func100 Tryz.ntmps100 ?_
 have J:=yu w
 refine fR J 2 ?_
 refine iC J (fun d z A B g=>?_) (hcs:=(cells_one (Sl.RM hv)))
 refine fK g 6 ?_
 refine j8 (v:=v) rfl rfl pJ hv (nY (cf:=fS) (z0:=0) (m:=es.length) (c:=es.length) rfl rfl rfl yd gr rfl f_ d_ (zj _) o_ o_ g ?_)
 intro h n C D p
 have e:St _ [fL fS (.slice (some ⟨h,0,none⟩) es.length es.length) 3 1 (List.replicate es.length 0),blk d 28 [v]] n:=kZ (cf:=fS) p (i:=0) rfl f_ (zj _) (by simp only[maxLen];omega)
 generalize (Value.slice (some ⟨h,0,none⟩) es.length es.length)=a at e ⊢
 refine fK e 7 ?_
 refine iM (m:=(List.replicate es.length 0).length) 0 rfl rfl yd e rfl ?_
 have O:(List.replicate es.length 0).length=es.length:=qh
 have q:=yw 0 e rfl (congrArg (fL fS a 3 1) (ad8))
 refine gD e 4 ?_
 refine lp (α:=Nat) (fun k=>[(1,(Zb d)),(2,Zg),(3,a),(9,(Za ((List.replicate es.length 0).length:Int))),(10,(Za k))]) (fun k w1=>St [(w,[])] [fL fS a 3 1 (r9 es.length k),blk d 28 [v]] w1/\k<=es.length) (fun k=>es.length-k) 0 ⟨rfl,rfl,rfl,rfl,gj rO,trivial⟩ (⟨q,o_⟩) ?_
 rintro k E s ⟨F,L⟩
 have P:=ad6 L
 refine fR F 2 ?_
 by_cases G:((k:Int):Int)<(((List.replicate es.length 0).length:Int):Int)
 . refine fK F 20 ?_
   refine iz (f:=(fun _=>k)) 0 F (fun H j=>?_)
   refine fP j 7 ?_
   refine tN (?_)
   have t:=yw 0 j rfl (congrArg (fL fS a 3 1) (ad7 o_))
   exact again (k+1) ⟨rfl,rfl,rfl,rfl,gj rO,trivial⟩ (⟨t,o_⟩) (by show (es.length-(k+1):Nat)<es.length-k;omega)
 . refine fK F 13 ?_
   refine mO (vf:=[]) (vc:=(Zf d)) rfl rfl rfl ?_
   have M:k=es.length:=by omega
   have b:=yw 0 F rfl (congrArg (fL fS a 3 1) ((congrArg (r9 es.length) M).trans ad5))
   refine cl Xk (ae0 es d v a s (ye b 0 rfl) (St.at b (i:=1) rfl) b.aam b.aco (b.adQ s_ d_ hv) hm) ?_
   rintro _ I ⟨u,rfl,x,N⟩
   have l:=yj 0 b N
   refine fP l 9 ?_
   refine gq (v:=a) Tryz.results100 rfl ?_
   have y:=yg [0] l
   exact⟨a,u,rfl,x,nS y⟩
theorem Qg(v:Value)(n:Nat)(es:List Ge)(w:World)(hv:gY 3 Ge.cells (fun _=>True) w v es)(hg:mj n es)(hn:n<=4096)(hm:es.length<=16384) :
 CR ya 252 #[(Za n),v] w (fun r w' => ∃ (fv:Value) (f:List Nat),r = .tuple #[fv,.int .i64 0]/\oC es n f/\fV (gm []) w w' (Z7 fv f)):=by
 refine enter (vs:=[(Za n),v]) Tryz.func252 rfl Tryz.ntmps252 rfl ?_
 have aj:=yu w
 refine fR aj 11 ?_
 refine jO (vl:=[(Za n),v]) rfl rfl EG (ER v n es w hv hg o_ hm) ?_
 rintro _ B ⟨g,h,rfl,F⟩
 have C:St _ [(Gr.R g n h es)] B:=(jR (R:=(Gr.R g n h es)) aj F)
 refine fK C 19 ?_
 refine jO (vl:=(Zd n)) rfl rfl XI (WB n B o_) ?_
 rintro _ D ⟨a,j,rfl,N,F⟩
 have t:St _ [(Ds.R a n j),(Gr.R g n h es)] D:=(jR (R:=(Ds.R a n j)) C F)
 refine fK t 26 ?_
 refine jO (vl:=[v]) rfl rfl WO (acH v es D (yy t s_ d_ hv).any hm) ?_
 rintro _ E ⟨b,d,rfl,p,F⟩
 have x:St _ [fL fS b 3 1 d,(Ds.R a n j),(Gr.R g n h es)] E:=(jR (R:=fL fS b 3 1 d) t F)
 refine iM (m:=d.length) 0 rfl rfl yd x rfl ?_
 have am:=p.len
 have O:St _ [ig .i64 Zg 3 (gz []),fL fS b 3 1 d,(Ds.R a n j),(Gr.R g n h es)] E:=oQ x 3 1
 have G:=yg [2,1,0] O
 obtain⟨o,ai⟩:∃ o,o=d:=⟨_,rfl⟩
 refine gD x 4 ?_
 rw[<-ai]at G p am
 have aq:d.length=o.length:=by rw[ai]
 refine lp (α:=Nat×Ds×Value) (fun(k,s,fv)=>[(0,(Za n)),(1,v),(4,Zg),(5,Zc),(8,(Zb a)),(10,fv),(33,b),(34,(Za d.length)),(35,(Za k))]) (fun(k,s,fv) w1=>St [(w,[])] (DZ a n s b o fv (gz (kq es n (o.take k)))) w1/\k<=o.length/\s.lb=iF es n (kq es n (o.take k))) (fun(k,s,fv)=>o.length-k) (0,j,Zg) ⟨rfl,rfl,rfl,rfl,rfl,rfl,rfl,rfl,gj (by first|rfl|omega),trivial⟩ (⟨G,o_,N⟩) ?_
 rintro⟨k,s,fv⟩ Y P ⟨ae,hk,ad⟩
 have an:(kq es n (o.take k)).length<=k:=by have h7:=(EN (es:=es) (n:=n) (o.take k)).length_le;rw[zw]at h7;omega
 refine fR ae 2 ?_
 by_cases Z:((k:Int):Int)<((d.length:Int):Int)
 . have af:=p
   have T:k<o.length:=by omega
   have al:fJ o k<es.length:=af.lt (zd (gy T))
   have ah:=hg.at al
   have ao:=ah.1
   have ap:=ah.2.1
   refine gI ae 29 fun Q H=>?_
   refine jO (vl:=(Aa a ((fJ es (fJ o k)).u:Int) ((fJ es (fJ o k)).v:Int))) rfl rfl XK (WI a n s Q (lJ H (i:=0) rfl) o_ ((fJ es (fJ o k)).u) ((fJ es (fJ o k)).v) o_ o_) ?_
   rintro _ I ⟨c,rfl,J,F⟩
   have l:St _ (DZ a n c b o fv (gz (kq es n (o.take k)))) I:=mh (R' := (Ds.R a n c)) 0 H rfl F rfl
   refine gD l 12 ?_
   cases K:(decide (fJ s.lb (fJ es (fJ o k)).u≠fJ s.lb (fJ es (fJ o k)).v):Bool)
   . skip
     refine iO l 8 ?_
     refine tN (?_)
     have ag:=J
     have S:St _ (DZ a n c b o fv (gz (kq es n (o.take (k+1))))) I:=yw 2 l rfl (congrArg (ig .i64 fv 3) (by rw[EO T,if_neg (by unfold mJ;rw[<-ad];exact of_decide_eq_false K)]))
     exact again ((k+1),c,fv) ⟨rfl,rfl,rfl,rfl,rfl,rfl,rfl,rfl,gj (by first|rfl|omega),trivial⟩ (⟨S,o_,ag.trans (by rw[EO T,QT,ad])⟩) (by show (o.length-(k+1):Nat)<o.length-k;omega)
   . skip
     refine fR l 4 ?_
     refine jJ (vs:=(Zd (((fJ o k):Nat):Int))) (cs:=(Zd (((fJ o k):Nat):Int))) rfl rfl yd gr rfl (by simp[Value.cells]) rfl rfl rfl l ?_
     intro y U aa ab q
     have q:St _ (HA y ([(((fJ o k):Nat):Int)]) a n c b o fv (gz (kq es n (o.take k)))) U:=q
     refine vQ (k:=.i64) (ys:=gz (kq es n (o.take k))) (zs:=[(((fJ o k):Nat):Int)]) (LL:=fun e=>(HA y ([(((fJ o k):Nat):Int)]) a n c b o e ((gz (kq es n (o.take k)))++([(((fJ o k):Nat):Int)])))) 3 rfl rfl rfl yd gr rfl q rfl (kG q (i:=0) rfl) (by simp only[gz,zq,zb,zg,zp,maxLen];omega) (by simp only[gz,zq,zb,zg,zp,maxLen];omega) f_ ?_
     intro e L A ac
     have A:St _ (HA y ([(((fJ o k):Nat):Int)]) a n c b o e ((gz (kq es n (o.take k)))++([(((fJ o k):Nat):Int)]))) L:=A
     have M:=yg [1,2,3] A
     refine fP M 8 ?_
     refine tN (?_)
     have ag:=J
     have V:St _ (DZ a n c b o e (gz (kq es n (o.take (k+1))))) L:=yw 2 M rfl (congrArg (ig .i64 e 3) (by rw[EO T,if_pos (by unfold mJ;rw[<-ad];exact of_decide_eq_true K),CM]))
     exact again ((k+1),c,e) ⟨rfl,rfl,rfl,rfl,rfl,rfl,rfl,rfl,gj (by first|rfl|omega),trivial⟩ (⟨V,o_,ag.trans (by rw[EO T,QT,ad])⟩) (by show (o.length-(k+1):Nat)<o.length-k;omega)
 . have af:=p
   refine fP ae 18 ?_
   refine iD (v:=fv) (v' := Zc) Tryz.results252 rfl rfl ?_
   have ak:k=o.length:=by omega
   have W:=yg [2] ae
   have X:St _ [fL fS fv 3 1 (kq es n o)] P:=yw 0 W rfl (((congrArg (fun z=>ig .i64 fv 3 (gz (kq es n z))) (by rw[ak,tq])).trans (CZ f_ _).symm))
   exact⟨fv,kq es n o,rfl,⟨o,af,rfl⟩,nS X⟩
end
end Go.Proofs.YtedjjkcihkmjgaaGreatDoor
