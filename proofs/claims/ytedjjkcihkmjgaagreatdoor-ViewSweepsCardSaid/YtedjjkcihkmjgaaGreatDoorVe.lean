/- Walks through the code, one theorem a function, under what is said of its arguments. -/
import Derived.Test.YtedjjkcihkmjgaaGreatDoorFb
import Derived.Test.YtedjjkcihkmjgaaGreatDoorVa
import Derived.Test.YtedjjkcihkmjgaaGreatDoorFd
import Derived.Test.YtedjjkcihkmjgaaGreatDoorVd
import Derived.Test.YtedjjkcihkmjgaaGreatDoorFc
import Derived.Test.YtedjjkcihkmjgaaGreatDoorVb
set_option linter.unusedVariables false
set_option linter.unusedSimpArgs false
set_option maxRecDepth 100000
set_option maxHeartbeats 4000000
namespace Go.Proofs.YtedjjkcihkmjgaaGreatDoor
open Go Go.Sx Go.Proofs.Tryz
variable(b db:Nat)(v:Value)(n:Nat)(l r:BT)(x y:Int)(w:World)
theorem TC(v:AW)(w:World)(a:Own (AW.R n v) w) :
 CR ya 84 (Zh n) w (fun r w' => ∃ lv,r=lv/\fV (AW.R n v) w w' (gh [AW.R n v,fL fU lv 3 1 (v.A.list v.A.begun)])):=by
 refine CR.mono (Up n v.bv v.A w a.un a.fact) fun r w' ⟨lv,c,ht⟩=>⟨lv,c,?_⟩
 refine((fV.Fi (A:=(AE n v.bv v.A)) (B:=[iz .i64 lv 3 (gy (v.A.list v.A.begun))]) ht).LP.CS (by have e:∀ l:List Nat,l++[]=l:=rJ;simp only[AW.R,lq,gh,iZ,kR,List.flatMap_nil,e];rfl) fun h=>?_)
 intro Q b
 simp only[zg,nr,or_false]at b
 rcases b with rfl|rfl
 . exact⟨a.fact,h _ s_⟩
 . rw[Dh f_]
   exact h _ (zw _ zd) _ s_
theorem ae9(fN fM db:Nat)(s:fW)(w:World)(Q:Own (fW.R fN fM db s) w) :
 CR ya 41 (Zh db) w (fun r w' => ∃ (v:Value) (ys:List Lv),r=v/\s.kn ys/\fV (fW.R fN fM db s) w w' (HO fN fM db s v ys)):=by
 have al:s.t.A.used<=s.t.A.n:=Q.fact.tok.ul
 have X:=Q.fact.n
 have ah:=Q.fact.tn
 have ag:=Q.fact.en
 have ai:=Q.fact.vn
 have ae:s.A.used<=s.A.begun:=by have U:=Q.fact.kV.used;omega
 have ac:=Q.fact.kV.le
 have aa:s.live.length=s.A.begun:=Q.fact.ll
 have af:(s.A.list s.A.begun).length=s.A.used:=Q.fact.kV.yE
 have ad:s.A.n=fM:=X
 refine enter (vs:=(Zf db)) func41 rfl ntmps41 rfl ?_
 have W:St _ (MH db fN fM s (some s.mb)) w:=Own.of Q.un
 have T:s.ok fN fM:=Q.fact
 have l:St _ [(fW.R fN fM db s)] w:=yn (p:=s.ok fN fM) (yc [_,_,_,_,_,_] _ W) T
 refine fR W 9 ?_
 refine jw (vl:=(Zf db)) rfl rfl eN (xd fN fM db s w (kU l (i:=0) rfl)) ?_
 rintro _ e ⟨rfl,ht⟩
 have B:St _ [(fW.R fN fM db s)] e:=l7 (R' := (fW.R fN fM db s)) 0 l rfl ht rfl
 have f:St _ (MH db fN fM s (some s.mb)) e:=(jM B).unpack
 refine fK f 18 ?_
 refine jw (vl:=(Zf s.jg)) rfl rfl eN (TC s.jg s.aw e (kU f (i:=4) rfl)) ?_
 rintro a o ⟨_,rfl,ht⟩
 have C:=yf [4,0,1,2,3,5] f
 have g:St _ [(xG s),fL fU a 3 1 (s.A.list s.A.begun),blk db 174 (pY fN fM s (some s.mb)),fL Lv.cells s.lv 43 7 s.live,ia s.mb .u64 p_ s.im,jF 3 s.im,(xH s)] o:=yy (l7 (R' := (gh [(xG s),fL fU a 3 1 (s.A.list s.A.begun)])) 0 C rfl ht rfl)
 refine iV (m:=(s.A.list s.A.begun).length) 1 rfl rfl yd g rfl ?_
 have D:St _ [fL Lv.cells Zi 43 7 (((s.A.list s.A.begun).take 0).map (fJ s.live)),(xG s),fL fU a 3 1 (s.A.list s.A.begun),blk db 174 (pY fN fM s (some s.mb)),fL Lv.cells s.lv 43 7 s.live,ia s.mb .u64 p_ s.im,jF 3 s.im,(xH s)] o:=qJ g 43 7
 have E:=yf [3,4,5,6,1,7,2,0] D
 refine gF g 4 ?_
 refine lp (α:=Nat×Value) (fun(k,F)=>[(0,(Zb db)),(3,F),(13,a),(14,(Za ((s.A.list s.A.begun).length:Int))),(15,(Za k))]) (fun(k,F) w1=>St [(w,(fW.R fN fM db s).gJ)] (MG db fN fM s (some s.mb) a (s.A.list s.A.begun) F (((s.A.list s.A.begun).take k).map (fJ s.live))) w1/\k<=(s.A.list s.A.begun).length) (fun(k,F)=>(s.A.list s.A.begun).length-k) (0,Zi) ⟨rfl,rfl,rfl,rfl,gm (by first|rfl|omega),trivial⟩ (⟨E,o_⟩) ?_
 rintro⟨k,F⟩ L G ⟨S,ak⟩
 refine fR S 2 ?_
 by_cases M:(k:Int)<((s.A.list s.A.begun).length:Int)
 . have V:k<(s.A.list s.A.begun).length:=by omega
   have aj:fJ (s.A.list s.A.begun) k<s.live.length:=by rw[aa];exact((T.kV.ox _).1 (ri.2 ⟨k,V,rfl⟩)).1
   refine fK S 25 ?_
   refine jW (vs:=[(An (fJ s.live (fJ (s.A.list s.A.begun) k)))]) (cs:=(oh (fJ s.live (fJ (s.A.list s.A.begun) k)))) rfl rfl sK o8 rfl (by simp[Value.cells]) rfl rfl rfl S ?_
   intro h H N O b
   have b:St _ (HX (row (.slice (some ⟨h,0,none⟩) 1 1) 43 7 1 ([(.int .i64 ((fJ s.live (fJ (s.A.list s.A.begun) k)).slot)),(.int .u64 ((fJ s.live (fJ (s.A.list s.A.begun) k)).seq)),(.int .u64 ((fJ s.live (fJ (s.A.list s.A.begun) k)).u)),(.int .u64 ((fJ s.live (fJ (s.A.list s.A.begun) k)).v)),(.int .i64 ((fJ s.live (fJ (s.A.list s.A.begun) k)).wt)),(.int .i64 ((fJ s.live (fJ (s.A.list s.A.begun) k)).t)),(.int .i64 ((fJ s.live (fJ (s.A.list s.A.begun) k)).exp))])) db fN fM s (some s.mb) a (s.A.list s.A.begun) F (((s.A.list s.A.begun).take k).map (fJ s.live))) H:=b
   refine lR (cf:=Lv.cells) (ys:=(((s.A.list s.A.begun).take k).map (fJ s.live))) (zs:=[(fJ s.live (fJ (s.A.list s.A.begun) k))]) (LL:=fun c=>(HX (row (.slice (some ⟨h,0,none⟩) 1 1) 43 7 1 ([(.int .i64 ((fJ s.live (fJ (s.A.list s.A.begun) k)).slot)),(.int .u64 ((fJ s.live (fJ (s.A.list s.A.begun) k)).seq)),(.int .u64 ((fJ s.live (fJ (s.A.list s.A.begun) k)).u)),(.int .u64 ((fJ s.live (fJ (s.A.list s.A.begun) k)).v)),(.int .i64 ((fJ s.live (fJ (s.A.list s.A.begun) k)).wt)),(.int .i64 ((fJ s.live (fJ (s.A.list s.A.begun) k)).t)),(.int .i64 ((fJ s.live (fJ (s.A.list s.A.begun) k)).exp))])) db fN fM s (some s.mb) a (s.A.list s.A.begun) c ((((s.A.list s.A.begun).take k).map (fJ s.live))++[(fJ s.live (fJ (s.A.list s.A.begun) k))]))) 8 rfl rfl rfl sK o8 rfl d_ b rfl (lF b (i:=0) rfl) (fun x hx=>z6.1 (show List.all _ _=true from rfl) x hx) (by simp only[zo,zh,zk,zu,k8,maxLen];omega) (by simp only[zo,zh,zk,zu,k8,maxLen];omega) f_ ?_
   intro c I j P
   have j:St _ (HX (row (.slice (some ⟨h,0,none⟩) 1 1) 43 7 1 ([(.int .i64 ((fJ s.live (fJ (s.A.list s.A.begun) k)).slot)),(.int .u64 ((fJ s.live (fJ (s.A.list s.A.begun) k)).seq)),(.int .u64 ((fJ s.live (fJ (s.A.list s.A.begun) k)).u)),(.int .u64 ((fJ s.live (fJ (s.A.list s.A.begun) k)).v)),(.int .i64 ((fJ s.live (fJ (s.A.list s.A.begun) k)).wt)),(.int .i64 ((fJ s.live (fJ (s.A.list s.A.begun) k)).t)),(.int .i64 ((fJ s.live (fJ (s.A.list s.A.begun) k)).exp))])) db fN fM s (some s.mb) a (s.A.list s.A.begun) c ((((s.A.list s.A.begun).take k).map (fJ s.live))++[(fJ s.live (fJ (s.A.list s.A.begun) k))])) I:=j
   have q:=yf [1,2,3,4,5,6,7,8] j
   refine fP q 8 ?_
   refine tN (?_)
   exact again ((k+1),c) ⟨rfl,rfl,rfl,rfl,gm (by first|rfl|omega),trivial⟩ (⟨by rw[GC _ V];exact q,o_⟩) (by show ((s.A.list s.A.begun).length-(k+1):Nat)<(s.A.list s.A.begun).length-k;omega)
 . refine fK S 13 ?_
   refine jw (vl:=[F,(.func (.func 86) #[] #[])]) rfl rfl eN (adB F (((s.A.list s.A.begun).take k).map (fJ s.live)) G (kU S (i:=7) rfl) (by rw[zu,k8];omega)) ?_
   rintro _ J ⟨d,rfl,y,ht⟩
   have z:St _ (MG db fN fM s (some s.mb) a (s.A.list s.A.begun) F d) J:=l7 (R' := fL Lv.cells F 43 7 d) 7 S rfl ht rfl
   refine fP z 9 ?_
   refine gf (v:=F) results41 rfl ?_
   have K:=yf [0,1,2,3,4,5,7,6] z
   have Y:k=(s.A.list s.A.begun).length:=by omega
   subst Y
   have Z:=fW.ZC T (by have U:=y.1;rwa [vL]at U) y.2
   have ab:=yn (p:=fW.ok fN fM s) (yc [_,_,_,_,_,_] _ K) T
   exact⟨F,d,rfl,Z,ym (R' := (HO fN fM db s F d)) (yc [_,_] _ ab) zd⟩
theorem Ko{fN fM ub:Nat}{s:fW}{w:World}(h:Own (fW.R fN fM ub s) w):s.t.A.ok :=
 (y9 (Own.of (kU (Own.of h.un) (i:=5) rfl).un) (i:=3) rfl:s.t.w.A.ok)
theorem RB(sb hb n:Nat)(s:QS)(w:World)(c:Own (QS.SR sb hb n s) w)(now:Int)(d:n<=65536) :
 CR ya 73 (Zm sb now) w (fun r w' => ∃ v ds t,v=r/\qx n s t ds now/\fV (QS.SR sb hb n s) w w' (gh [QS.SR sb hb n t,fL fU v 3 1 ds])):=by
 refine CR.mono (ac4 sb hb n s w c now d) fun r w' ⟨v,ds,t,a,b,ht⟩=>⟨v,ds,t,a.symm,b,?_⟩
 rw[Dh f_]
 exact ht
theorem Vf(c:Own (Zw n x y) w)(h1:1<=x)(e:gU .i64 x)(t:Int)(d:gU .i64 t)(a:y<=t)(b:-9223372036854775808<=t+x/\t+x<=9223372036854775807) :
 CR ya 72 (Zm n t) w (fun r w' => r = .int .i64 0/\fV (Zw n x y) w w' (Zw n x t)):=by
 have h:=Vg n x y w c h1 e t d
 rw[N3 a b,if_pos rfl]at h
 exact h
theorem TK(c:WC)(W:Nat)(s:WW)(w:World)(hO:Own (WW.R c W s) w)(T:Int)(hT:s.now<=T)(ah:T<=1000000) :
 CR ya 31 (Zm W T) w (fun r w' => ∃ (s2:WW),r = .int .i64 0/\(s2.now=T/\s2.added=s.added/\(∀ y,s2.u.has y↔s.u.has y/\T<y.exp)/\s2.u.last=s.u.last)/\fV (WW.R c W s) w w' (WW.R c W s2)):=by
 refine en func31 ntmps31 ?_
 have ab:=Own.of hO.un
 have F:s.ok c:=hO.fact
 have an:=F.w1
 have aq:=F.wi
 have au:=F.n0
 have av:=F.n1
 have Z:fW.ok c.fN c.fM s.u:=(y9 ab (i:=2) rfl)
 have az:=F.en
 have ay:=F.e1
 have aC:=F.v2
 have aD:=F.vn
 have aw:=F.a0
 have ax:=F.a1
 have aB:=F.la
 have aA:=Z.tB
 have o:=yn (p:=s.ok c) (yc [_,_,_,_,_] _ ab) F
 refine fR ab 9 ?_
 refine cl (vA c W s w (ye o 0 rfl)) ?_
 rintro _ D ⟨rfl,ht⟩
 have E:=yh 0 o ht
 have h:=(jM E).unpack
 refine fK h 14 ?_
 refine cl (Vf s.cb c.win s.now D (ye h 1 rfl) an (kY o_) T (kY o_) hT o_) ?_
 rintro _ G ⟨rfl,ht⟩
 have j:=yh 1 h ht
 refine fK j 20 ?_
 refine cl (RB s.sb s.hb c.fM s.q G (ye j 3 rfl) T o_) ?_
 rintro _ N ⟨z,a,l,rfl,b,ht⟩
 have H:=yf [3,0,1,2,4] j
 have n:=yy (yh 0 H ht)
 have ao:a.length<=c.fM:=b.len
 refine iV (m:=a.length) 1 rfl rfl yd n rfl ?_
 have I:=yf [2,3,4,0,5,1] n
 obtain⟨aj,ai⟩:=F.due b Z
 refine gF n 4 ?_
 refine lp (α:=Nat×fW×GW×Int) (fun(k,u2,g2,ex)=>[(0,(Zb W)),(25,z),(26,(Za a.length)),(27,(Za k))]) (fun(k,u2,g2,ex) w1=>St [(w,(WW.R c W s).gJ)] [blk W 118 [(Za c.win),(Za c.fM),(Za c.fN),(Za c.kN),(Zb s.cb),(Zb s.ub),(Zb s.sb),(Zb s.ob),(Zl s.added),(Zl ex)],(Zw s.cb c.win T),(fW.R c.fN c.fM s.ub u2),(QS.SR s.sb s.hb c.fM l),(GW.R c.fN c.fM s.ob g2),fL fU z 3 1 a] w1/\pE s.u u2 (a.take k)/\gU .u64 ex/\k<=a.length/\TW.Kp s.u.t u2.t/\sS s.g.m g2.m a k) (fun(k,u2,g2,ex)=>a.length-k) (0,s.u,s.g,s.jX) ⟨rfl,rfl,rfl,gm rO,trivial⟩ (⟨I,pE.start _,F.ex,o_,TW.Kp.refl _,aj⟩) ?_
 rintro⟨k,u2,g2,ex⟩ O J ⟨Y,X,al,ap,ad,hX⟩
 refine fR Y 2 ?_
 by_cases P:(k:Int)<(a.length:Int)
 . have aa:k<a.length:=by omega
   refine fK Y 22 ?_
   refine cl (Xv c.fN c.fM s.ob g2 J (ye Y 4 rfl)) ?_
   rintro _ K ⟨L,Q,S,rfl,M,ht⟩
   have d:=yh 4 Y ht
   have ag:=(y9 d (i:=2) rfl:fW.ok c.fN c.fM u2)
   have ak:=pE.can X F.uy ag b (gz aa)
   refine fK d 9 ?_
   refine cl (Ti c.fN c.fM s.ub u2 K (ye d 2 rfl) (fJ a k) ak) ?_
   rintro _ U ⟨A,rfl,f,ht⟩
   have B:=yh 2 d ht
   refine fK B 7 ?_
   refine ar (e:=IntKind.u64.wrap (ex+1)) rfl rfl rfl rfl rfl (jH B 10 fun V C=>?_)
   refine tN (?_)
   have ac:=(y9 C (i:=2) rfl:fW.ok c.fN c.fM A)
   exact again ((k+1),A,L,IntKind.u64.wrap (ex+1)) ⟨rfl,rfl,rfl,gm rO,trivial⟩ (⟨C,by rw[qu,gz aa];exact X.next f.1 f.2.1,XV _,o_,ad.trans f.2.2 (fun x _ h9=>ag.ZX ac (fun y hy=>((f.1 y).1 hy).1) x h9),hX.next aa b.nd ai M⟩) (by show (a.length-(k+1):Nat)<a.length-k;omega)
 . refine fP Y 16 ?_
   refine gf (v:=Zc) results31 rfl ?_
   have af:k=a.length:=by omega
   rw[af,vL]at X
   rw[af]at hX
   have ac:=(y9 Y (i:=2) rfl:fW.ok c.fN c.fM u2)
   have ae:=X.fin F.uy Z b
   have am:=F.tick hT ah al b ae X.last (g2:=g2) (F.aeC b Z ac X ad hX)
   exact⟨(⟨s.cb,s.ub,s.sb,s.hb,s.ob,T,l,u2,g2,s.added,ex⟩:WW),rfl,⟨rfl,rfl,ae,X.last⟩,ym (yn (p:=WW.ok c (⟨s.cb,s.ub,s.sb,s.hb,s.ob,T,l,u2,g2,s.added,ex⟩:WW)) (yc [_,_,_,_,_] _ Y) am) zd⟩
theorem Vm(b:Own (Zw n x y) w)(h1:1<=x)(d:gU .i64 x)(t:Int)(c:gU .i64 t)(a:-9223372036854775808<=t+x/\t+x<=9223372036854775807) :
 CR ya 138 (Zm n t) w (fun r w' => r = .tuple (uW (t+x))/\fV (Zw n x y) w w' (Zw n x y)):=by
 have h:=Vn n x y w b h1 d t c
 rw[AG a]at h
 exact h
theorem afG(c:WC)(wb:Nat)(s:WW)(w:World)(hO:Own (WW.R c wb s) w)(x:Lv)(az:x.ok)(aC:x.t=s.now)(hc:s.u.gN c.fN c.fM x.u x.v=0)(ha:s.added<1000000) :
 CR ya 79 (xF wb x) w (fun r w' => ∃ (s2:WW),r = .tuple #[]/\(s2.now=s.now/\s2.added=s.added+1/\(∃ i:Nat,∀ y,s2.u.has y↔s.u.has y\/y=(⟨((i:Nat):Int),s.u.last+1,x.u,x.v,x.wt,x.t,x.t+c.win⟩:Lv))/\s2.u.last=s.u.last+1)/\fV (WW.R c wb s) w w' (WW.R c wb s2)):=by
 refine en func79 ntmps79 ?_
 have aB:=Own.of hO.un
 have F:s.ok c:=hO.fact
 have aN:=F.w1
 have aR:=F.wi
 have aS:=F.n0
 have aT:=F.n1
 have aA:fW.ok c.fN c.fM s.u:=(y9 aB (i:=2) rfl)
 have aX:=F.en
 have aW:=F.e1
 have a2:=F.v2
 have a3:=F.vn
 have aU:=F.a0
 have aV:=F.a1
 have aZ:=F.la
 have aY:=aA.tB
 have aK:s.u.last<=9000000000000000000:=by omega
 have a4:=aC
 have aO:Lv.ok (Lv.mk x.slot x.seq x.u x.v x.wt x.t (x.t+c.win)):=⟨az.slot,az.seq,az.u,az.v,az.wt,az.t,kY (by show _/\_;dsimp only;omega)⟩
 refine fR aB 2 ?_
 refine ir aB (fun ah ai aj ak K=>?_)
 refine gC K 10 fun L l=>?_
 refine cl (Vm s.cb c.win s.now L (ye l 2 rfl) aN (kY o_) x.t az.t o_) ?_
 rintro _ am ⟨rfl,ht⟩
 have m:=yh 2 l ht
 refine gF m 8 ?_
 refine yT mixed [0,1,2,3,4,5] [6,10] [(10,[3,4])] [7,8,9,11,12] m (fun an n=>zJ ?_)
 refine fP n 7 ?_
 refine pe trivial ?_
 have M:=yf [3,0,1,2,4,5] n
 refine zI [⟨6,29,[],[(fW.R c.fN c.fM s.ub s.u)],Nat×fW,fun(a,b)=>(.tuple #[(.agg #[(Za ((a:Nat):Int)),(Zl (s.u.last+1)),(Zl x.u),(Zl x.v),(Za x.wt),(Za x.t),(Za (x.t+c.win))]),Zc]),fun(a,b)=>[lq ((∀ y,fW.has b y↔s.u.has y\/y=(⟨((a:Nat):Int),s.u.last+1,x.u,x.v,x.wt,x.t,x.t+c.win⟩:Lv))/\fW.last b=s.u.last+1/\TW.Kp s.u.t (fW.t b)) (fW.R c.fN c.fM s.ub b)]⟩,⟨10,6,[],[],Nat,fun f=>(Zb f),fun f=>[blk f 43 oQ]⟩] M ⟨nv (fun Z wq hM _=>cl (ae6 c.fN c.fM s.ub s.u wq (ye hM 0 rfl) (Lv.mk x.slot x.seq x.u x.v x.wt x.t (x.t+c.win)) aO hc aK) (fun _ _ hz=>by obtain⟨N,O,rfl,aI,aM⟩:=hz;exact have hK:=(yh 0 hM (aM.LU aI));nF ⟨(N,O),rfl,hK,trivial⟩)),nv (fun Z wq hM _=>al (cs:=oQ) rfl o8 rfl hM (fun P _ _ _ h=>have hK:=h;nF ⟨P,rfl,hK,trivial⟩))⟩ ?_
 rintro⟨a,b⟩ f ao Q
 refine jH Q 6 fun ap S=>?_
 have o:=yf [1,0,2,3,4,5,6] S
 have d:=sM o
 have z:=jM o
 have T:=(y9 z (i:=0) rfl:fW.ok c.fN c.fM b)
 have aF:=F.free aA T (i:=a) (e:=(⟨((a:Nat):Int),s.u.last+1,x.u,x.v,x.wt,x.t,x.t+c.win⟩:Lv)) rfl rfl d.1
 have aG:a<c.fM:=by obtain⟨j,h7,_,_,h8⟩:=T.wj ((d.1 _).2 (.inr rfl));have h9:((a:Nat):Int)=(j:Int):=h7;omega
 refine RA tt none z 9 fun U A=>?_
 refine cl (GX c.fN c.fM s.ub b U (ye A 0 rfl) x.u) ?_
 rintro _ aq ⟨B,ar,rfl,C,ht⟩
 have V:=yh 0 A ht
 have aP:B<c.fN:=by have h7:=TW.mR.lt C T.tok (by rw[T.tn];omega);rw[T.tn]at h7;exact h7
 refine gC V 15 fun W D=>?_
 refine cl (GX c.fN c.fM s.ub b W (ye D 0 rfl) x.v) ?_
 rintro _ au ⟨E,av,rfl,G,ht⟩
 have X:=yh 0 D ht
 have aQ:E<c.fN:=by have h7:=TW.mR.lt G T.tok (by rw[T.tn];omega);rw[T.tn]at h7;exact h7
 refine gC X 16 fun Y H=>?_
 refine cl (adJ s.sb s.hb c.fM s.q Y (ye H 5 rfl) a aG aF (x.t+c.win) (kY o_)) ?_
 rintro _ aw ⟨I,rfl,aa,ht⟩
 have ab:=yh 5 H ht
 have aJ:=fW.E5 hc
 have aH:=T.yK ((d.1 (⟨((a:Nat):Int),s.u.last+1,x.u,x.v,x.wt,x.t,x.t+c.win⟩:Lv)).2 (.inr rfl))
 have aD:=TW.mR.at C aH.1
 have aE:=TW.mR.at G aH.2
 refine gC ab 13 fun ac J=>?_
 refine cl (Xp c.fN c.fM s.ob s.g ac (ye J 6 rfl) a B E (x.t+c.win) aG aP aQ (kY o_) (fun e=>aJ.1 (aD.2.symm.trans (e▸aE.2))) (F.noE aF)) ?_
 rintro _ ax ⟨k,rfl,ad,ht⟩
 have ae:=yh 6 J ht
 refine jH ae 12 fun ay af=>?_
 refine jc results79 ?_
 have ag:=yf [3,4,0,5,6,1,2] af
 have aL:=F.ins aA (i:=a) (e:=(⟨((a:Nat):Int),s.u.last+1,x.u,x.v,x.wt,x.t,x.t+c.win⟩:Lv)) rfl rfl aC (by show x.t+c.win=_;rw[aC]) d.1 d.2.1 aa ha (g2:=k) (F.fr.ins aA T (e:=(⟨((a:Nat):Int),s.u.last+1,x.u,x.v,x.wt,x.t,x.t+c.win⟩:Lv)) rfl d.1 d.2.2 ad aD aE)
 exact⟨(⟨s.cb,s.ub,s.sb,s.hb,s.ob,s.now,I,b,k,s.added+1,s.jX⟩:WW),rfl,⟨rfl,rfl,⟨a,d.1⟩,d.2.1⟩,ym (yn (p:=WW.ok c (⟨s.cb,s.ub,s.sb,s.hb,s.ob,s.now,I,b,k,s.added+1,s.jX⟩:WW)) (yc [_,_,_,_,_] _ ag) aL) zd⟩
theorem af2(c:WC)(wb:Nat)(s:WW)(w:World)(hO:Own (WW.R c wb s) w)(x:Lv)(aY:x.ok) :
 CR ya 78 (xF wb x) w (fun r w' => ∃ (e:Int),r = .int .i64 e/\((e=0->Room c s x)/\(s.u.gN c.fN c.fM x.u x.v=0->e=0))/\fV (WW.R c wb s) w w' (WW.R c wb s)):=by
 refine en func78 ntmps78 ?_
 have aM:=Own.of hO.un
 have F:s.ok c:=hO.fact
 have a3:=F.w1
 have a4:=F.wi
 have a5:=F.n0
 have a6:=F.n1
 have aP:fW.ok c.fN c.fM s.u:=(y9 aM (i:=2) rfl)
 have ba:=F.en
 have a9:=F.e1
 have bd:=F.v2
 have be:=F.vn
 have a7:=F.a0
 have a8:=F.a1
 have bc:=F.la
 have bb:=aP.tB
 have aT:=Ko (ye aM 2 rfl)
 have bf:=aY.t.i64
 refine fR aM 2 ?_
 refine ir aM (fun B al am an N=>?_)
 refine gC N 10 fun O C=>?_
 refine cl (LO c.fN c.fM s.ub s.u O (ye C 3 rfl) x) ?_
 rintro _ D ⟨rfl,ht⟩
 have b:=yh 3 C ht
 refine fK b 7 ?_
 by_cases E:(fW.gN s.u c.fN c.fM x.u x.v:Int)=0
 . have aL:=E
   refine fP b 11 ?_
   refine gf (v:=Zc) Hl rfl ?_
   have P:=yf [1,2,3,4,5,0] b
   exact⟨0,rfl,⟨(fun _=>Room.of aP aT aL fun y hy=>hy.1),fun _=>rfl⟩,ym (yn (p:=s.ok c) (yc [_,_,_,_,_] _ P) F) zd⟩
 . have aL:=E
   obtain⟨Q,ao⟩:∃ q,BS s.q.fQ.length=q:=⟨_,rfl⟩
   refine fK b 13 ?_
   rcases Q with h0|h0
   . skip
     refine cl (adu s.sb s.hb c.fM s.q D (ye b 4 rfl) h0) ?_
     rintro _ ap ⟨rfl,ht⟩
     have G:=yh 4 b ht
     refine fK G 3 ?_
     refine iR G (fun aq ar au av S=>?_)
     refine jH S 26 fun aw U=>?_
     refine gf (v:=(Za (fW.gN s.u c.fN c.fM x.u x.v))) Hl rfl ?_
     have V:=yf [2,3,4,5,6,0,1] U
     exact⟨fW.gN s.u c.fN c.fM x.u x.v,rfl,⟨(fun T=>absurd T aL),fun T=>absurd T aL⟩,ym (yn (p:=s.ok c) (yc [_,_,_,_,_] _ V) F) zd⟩
   . skip
     refine cl (adv s.sb s.hb c.fM s.q D (ye b 4 rfl) h0) ?_
     rintro _ ax ⟨rfl,ht⟩
     have H:=yh 4 b ht
     refine fK H 3 ?_
     refine iR H (fun ay az aA aB W=>?_)
     refine gC W 13 fun X d=>?_
     by_cases aC:((fJ s.q.fQ 0).key:Int)>(x.t:Int)
     . refine fP d 13 ?_
       refine gf (v:=(Za (fW.gN s.u c.fN c.fM x.u x.v))) Hl rfl ?_
       have Y:=yf [2,3,4,5,6,0,1] d
       exact⟨fW.gN s.u c.fN c.fM x.u x.v,rfl,⟨(fun T=>absurd T aL),fun T=>absurd T aL⟩,ym (yn (p:=s.ok c) (yc [_,_,_,_,_] _ Y) F) zd⟩
     . refine fK d 13 ?_
       refine cl (ae1 c.fN c.fM s.ub s.u X (ye d 4 rfl)) ?_
       rintro _ aD ⟨f,h,rfl,n,ht⟩
       have Z:=yf [4,0,1,2,3,5,6] d
       have I:=yy (yh 0 Z ht)
       refine gF I 5 ?_
       refine kq mixed [([0,1,2,3,5,6,9,4],[6])] [7,8] I (fun aa o=>jx ?_)
       refine fK o 7 ?_
       refine cl (ac2 s.sb s.hb c.fM s.q aa (ye o 6 rfl)) ?_
       rintro _ ab ⟨ac,ad,ae,rfl,af,ht⟩
       have ag:=yf [6,0,1,2,3,4,5,7] o
       have z:=yy (yh 0 ag ht)
       refine fP z 1 ?_
       refine jZ (kE ?_)
       refine cl (RB ac ad c.fM ae ab (ye z 1 rfl) x.t o_) ?_
       rintro _ aE ⟨J,a,aF,rfl,ah,ht⟩
       have ai:=yf [1,0,2,3,4,5,6,7,8] z
       have j:=yy (yh 0 ai ht)
       have A:=qx.aaT ah af
       refine iV (m:=a.length) 1 rfl rfl yd j rfl ?_
       have aZ:a.length<=c.fM:=A.len
       have aO:Ek h s.q:=fun e=>(F.uy e).trans ⟨fun⟨y,h1,h2⟩=>⟨y,(n.1 y).2 h1,h2⟩,fun⟨y,h1,h2⟩=>⟨y,(n.1 y).1 h1,h2⟩⟩
       have aW:=(y9 j (i:=4) rfl:fW.ok c.fN c.fM h)
       have aj:=yf [7,8,3,2,9,4,1,6] j
       refine gF j 3 ?_
       refine lp (α:=Nat×fW) (fun(k,u2)=>[(3,(Zb B)),(8,(Zb f)),(49,J),(50,(Za a.length)),(51,(Za k))]) (fun(k,u2) w1=>St [(w,(WW.R c wb s).gJ)] [blk wb 118 (M8 c.win c.fM c.fN c.kN s),(blk s.cb 247 (Zr c.win s.now)),(fW.R c.fN c.fM s.ub s.u),(QS.SR s.sb s.hb c.fM s.q),(GW.R c.fN c.fM s.ob s.g),(fW.R c.fN c.fM f u2),fL fU J 3 1 a,blk B 41 (qU x)] w1/\pE h u2 (a.take k)/\k<=a.length) (fun(k,u2)=>a.length-k) (0,h) ⟨rfl,rfl,rfl,rfl,gm rO,trivial⟩ (⟨aj,pE.start _,o_⟩) ?_
       rintro⟨k,u2⟩ aG K ⟨aK,hR,a2⟩
       refine fR aK 2 ?_
       by_cases aH:(k:Int)<(a.length:Int)
       . have aN:k<a.length:=by omega
         have aV:=(y9 aK (i:=5) rfl:fW.ok c.fN c.fM u2)
         have aQ:=pE.can hR aO aV A (gz aN)
         refine fK aK 19 ?_
         refine cl (Ti c.fN c.fM f u2 K (ye aK 5 rfl) (fJ a k) aQ) ?_
         rintro _ aI ⟨ak,rfl,L,ht⟩
         have M:=yh 5 aK ht
         refine fP M 7 ?_
         refine tN (?_)
         exact again ((k+1),ak) ⟨rfl,rfl,rfl,rfl,gm rO,trivial⟩ (⟨M,by rw[qu,gz aN];exact hR.next L.1 L.2.1,o_⟩) (by show (a.length-(k+1):Nat)<a.length-k;omega)
       . refine fK aK 14 ?_
         refine cl (LO c.fN c.fM f u2 K (ye aK 5 rfl) x) ?_
         rintro _ aJ ⟨rfl,ht⟩
         have l:=yh 5 aK ht
         refine fP l 4 ?_
         refine gf (v:=(Za (fW.gN u2 c.fN c.fM x.u x.v))) Hl rfl ?_
         have aX:=(y9 l (i:=5) rfl:fW.ok c.fN c.fM u2)
         have aU:=Ko (ye l 5 rfl)
         have aS:k=a.length:=by omega
         rw[aS,vL]at hR
         have aR:=hR.fin aO aW A
         exact⟨fW.gN u2 c.fN c.fM x.u x.v,rfl,⟨(fun T=>Room.of aX aU T fun y hy=>(aR y).2 ⟨(n.1 y).2 hy.1,hy.2⟩),fun T=>absurd T aL⟩,ym (yn (p:=s.ok c) (yc [_,_,_,_,_] _ l) F) zd⟩
theorem o6{c:WC}{a:Nat}{s:WW}{w:World}(h:Own (WW.R c a s) w):s.ok c/\s.u.ok c.fN c.fM/\s.u.t.A.ok :=
 ⟨h.fact,(y9 (Own.of h.un) (i:=2) rfl:fW.ok c.fN c.fM s.u),Ko (kU (Own.of h.un) (i:=2) rfl)⟩
theorem Vi(c:Own (Zw n x y) w)(h1:1<=x)(e:gU .i64 x)(t:Int)(d:gU .i64 t)(a:y<=t)(b:-9223372036854775808<=t+x/\t+x<=9223372036854775807) :
 CR ya 77 (Zm n t) w (fun r w' => r = .int .i64 0/\fV (Zw n x y) w w' (Zw n x y)):=by
 have h:=NZ n x y w c h1 e t d
 rw[N3 a b]at h
 exact h
theorem Tt(c:WC)(S:Nat)(s:WW)(w:World)(X:Own (WW.R c S s) w)(x:Lv)(V:x.ok)(aa:s.now<=x.t)(ah:x.t<=1000000)(ha:s.added<1000000) :
 CR ya 33 (xF S x) w (fun r w' => ∃ (e:Int) (s2:WW),r = .int .i64 e/\WW.T2 c s s2 x e/\fV (WW.R c S s) w w' (WW.R c S s2)):=by
 refine en func33 ntmps33 ?_
 have U:=Own.of X.un
 have F:s.ok c:=X.fact
 have af:=F.w1
 have aj:=F.wi
 have ak:=F.n0
 have al:=F.n1
 have ae:fW.ok c.fN c.fM s.u:=(y9 U (i:=2) rfl)
 have ap:=F.en
 have ao:=F.e1
 have au:=F.v2
 have av:=F.vn
 have am:=F.a0
 have an:=F.a1
 have ar:=F.la
 have aq:=ae.tB
 refine fR U 2 ?_
 refine ir U (fun L A M N l=>?_)
 have B:=yf [1,2,3,4,5,0] l
 have m:=yn (p:=s.ok c) (yc [_,_,_,_,_] _ B) F
 refine fK l 7 ?_
 refine cl (vA c S s A (ye m 0 rfl)) ?_
 rintro _ O ⟨rfl,ht⟩
 have C:=yh 0 m ht
 have f:=(jM C).unpack
 refine fK f 13 ?_
 by_cases P:(x.u:Int)=(x.v:Int)
 . refine fP f 11 ?_
   refine gf (v:=AA) results33 rfl ?_
   have D:=yn (p:=s.ok c) (yc [_,_,_,_,_] _ f) F
   exact⟨9,s,rfl,⟨WW.Step.same s x,fun T=>absurd T o_,fun T=>absurd o_ (fW.E5 T).1⟩,yj D⟩
 . refine gC f 15 fun E n=>?_
   refine cl (Vi s.cb c.win s.now E (ye n 1 rfl) af (kY o_) x.t V.t aa o_) ?_
   rintro _ G ⟨rfl,ht⟩
   have k:=yh 1 n ht
   refine fK k 19 ?_
   refine cmp rfl rfl rfl (oS o_) ?_
   have o:=yn (p:=s.ok c) (yc [_,_,_,_,_] _ k) F
   refine fK k 10 ?_
   refine cl (af2 c S s G (ye o 0 rfl) x V) ?_
   rintro _ H ⟨g,rfl,q,ht⟩
   have b:=yh 0 o ht
   refine fK b 6 ?_
   by_cases I:(g:Int)=0
   . have ad:g=0:=by have W:=@I;omega
     refine fK b 11 ?_
     refine cl (TK c S s H (ye b 0 rfl) x.t aa ah) ?_
     rintro _ J ⟨h,rfl,a,ht⟩
     have j:=yh 0 b ht
     have Z:=o6 (ye j 0 rfl)
     have ac:=q.1 ad h.u Z.2.1 Z.2.2 a.2.2.1
     have ag:x.t=h.now:=a.1.symm
     have ab:h.added<1000000:=by rw[a.2.1];exact ha
     refine fK j 6 ?_
     refine cl (afG c S h J (ye j 0 rfl) x V ag ac ab) ?_
     rintro _ Q ⟨K,rfl,d,ht⟩
     have z:=yh 0 j ht
     refine fP z 8 ?_
     refine gf (v:=Zc) results33 rfl ?_
     obtain⟨ai,Y⟩:=d.2.2.1
     exact⟨0,K,rfl,⟨⟨.inr (d.1.trans a.1),by rw[d.2.1,a.2.1];exact Int.le_refl _,fun y hy=>((Y y).1 hy).elim (fun W=>.inl ((a.2.2.1 y).1 W).1) (fun e9=>.inr (by rw[e9];exact⟨rfl,rfl,rfl⟩))⟩,fun _=>⟨⟨ai,fun y=>by rw[<-a.2.2.2];exact(Y y).trans (or_congr_left (a.2.2.1 y))⟩,d.2.2.2.trans (by rw[a.2.2.2]),d.1.trans a.1,d.2.1.trans (by rw[a.2.1])⟩,fun _=>rfl⟩,yj z⟩
   . refine fP b 12 ?_
     refine gf (v:=(Za g)) results33 rfl ?_
     exact⟨g,s,rfl,⟨WW.Step.same s x,fun T=>absurd T o_,fun T=>q.2 T⟩,yj b⟩
theorem afv(c:WC)(a:Nat)(s:WW)(w:World)(g:Own (WW.R c a s) w)(x:Lv)(i:x.ok)(j:s.now<=x.t)(k:x.t<=1000000)(h:s.added<1000000) :
 CR ya 33 (xF a x) w (fun r w' => ∃ (e:Int) (s2:WW),r = .int .i64 e/\WW.Step s s2 x/\fV (WW.R c a s) w w' (WW.R c a s2)) :=
 CR.mono (Tt c a s w g x i j k h) fun r w' ⟨e,s2,b,d,f⟩=>⟨e,s2,b,d.step,f⟩
theorem ae8(fM db:Nat)(s:fW)(w:World)(c:Own (fW.R n fM db s) w) :
 CR ya 41 (Zh db) w (fun r w' => ∃ (v:Value) (ys:List Lv),v=r/\s.kn ys/\fV (fW.R n fM db s) w w' (HO n fM db s v ys)) :=
 CR.mono (ae9 n fM db s w c) fun r w' ⟨v,ys,a,b,ht⟩=>⟨v,ys,a.symm,b,ht⟩
theorem afO(c:WC)(q:Nat)(s:WW)(w:World)(x:Own (WW.R c q s) w) :
 CR ya 9 (Zh q) w (fun r w' => ∃ (v:Value) (ys:List Lv),v=r/\s.u.kn ys/\fV (WW.R c q s) w w' (gh [(WW.R c q s),fL Lv.cells v 43 7 ys])):=by
 refine en func9 ntmps9 ?_
 have t:=Own.of x.un
 have o:s.ok c:=x.fact
 have z:=o.w1
 have A:=o.wi
 have B:=o.n0
 have C:=o.n1
 have y:fW.ok c.fN c.fM s.u:=(y9 t (i:=2) rfl)
 have G:=o.en
 have F:=o.e1
 have J:=o.v2
 have K:=o.vn
 have D:=o.a0
 have E:=o.a1
 have I:=o.la
 have H:=y.tB
 have b:=yn (p:=s.ok c) (yc [_,_,_,_,_] _ t) o
 refine fR t 9 ?_
 refine cl (vA c q s w (ye b 0 rfl)) ?_
 rintro _ f ⟨rfl,ht⟩
 have g:=yh 0 b ht
 have a:=(jM g).unpack
 refine fK a 12 ?_
 refine cl (ae8 c.fN c.fM s.ub s.u f (ye a 2 rfl)) ?_
 rintro _ n ⟨d,h,rfl,j,ht⟩
 have k:=yf [2,0,1,3,4] a
 have e:=yy (yh 0 k ht)
 refine fP e 4 ?_
 refine gf (v:=d) results9 rfl ?_
 have l:=yf [2,3,0,4,5,1] e
 have m:=yn (p:=s.ok c) (yc [_,_,_,_,_] _ l) o
 exact⟨d,h,rfl,j,yj (yc [_,_] _ m)⟩
theorem afN(v:AW)(w:World)(a:Own (AW.R n v) w) :
 CR ya 84 (Zh n) w (fun r w' => ∃ lv,lv=r/\fV (AW.R n v) w w' (gh [AW.R n v,fL fU lv 3 1 (v.A.list v.A.begun)])) :=
 CR.mono (TC n v w a) fun r w' ⟨lv,h,ht⟩=>⟨lv,h.symm,ht⟩
theorem aeG(tb ab:Nat)(t:TW)(w:World)(hO:Own (TW.R tb ab t) w)(aj:t.A.used<=12) :
 CR ya 223 (Zh tb) w (fun r w' => ∃ (v:Value) (K:List Int),v=r/\((K.Pairwise fun a b=>a<b)/\∀ x,x∈K↔t.mem x)/\fV (TW.R tb ab t) w w' (gh [(TW.R tb ab t),fL gQ v 39 1 K])):=by
 refine enter (vs:=(Zf tb)) func223 rfl ntmps223 rfl ?_
 have ac:St _ (H8 tb ab t) w:=Own.of hO.un
 have hT:t.ok:=hO.fact
 have Z:t.A.ok:=(y9 ac (i:=3) rfl:t.w.A.ok)
 have ag:(t.A.list t.A.begun).length=t.A.used:=Z.yE
 have s:=yc [_,_,_] _ ac
 refine fR ac 9 ?_
 refine jw (vl:=(Zf tb)) rfl rfl eN (w6 tb ab t w (kU s (i:=0) rfl) hT) ?_
 rintro _ u ⟨rfl,ht⟩
 have h:St _ (H8 tb ab t) u:=(l7 (R' := (Z1 tb ab t)) 0 s rfl ht rfl).unpack
 refine fK h 12 ?_
 refine jw (vl:=(Zf ab)) rfl rfl eN (G1 ab t.w u (kU h (i:=3) rfl)) ?_
 rintro _ D ⟨rfl,ht⟩
 have E:St _ (H8 tb ab t) D:=l7 (R' := (AW.R ab t.w)) 3 h rfl ht rfl
 refine lN (cf:=gQ) (z0:=0) (m:=0) (c:=t.A.used) rfl rfl rfl yw iX rfl f_ d_ (mE _) o_ o_ E ?_
 intro j y Q S G
 have l:St _ [fL gQ (Es j t.A.used) 39 1 (((t.A.list t.A.begun).take 0).map (fJ t.ids)),blk tb 302 (pH tb ab t),fL gQ t.iv 39 1 t.ids,fL fU t.cv 3 1 t.cs,(AW.R ab t.w)] y:=lZ (cf:=gQ) G (i:=0) rfl f_ (mE _) (by simp only[maxLen];omega)
 refine fK l 10 ?_
 refine jw (vl:=(Zf ab)) rfl rfl eN (afN ab t.w y (kU l (i:=4) rfl)) ?_
 rintro _ H ⟨d,rfl,ht⟩
 have I:=yf [4,0,1,2,3] l
 have n:St _ [(AW.R ab t.w),fL fU d 3 1 (t.A.list t.A.begun),fL gQ (Es j t.A.used) 39 1 (((t.A.list t.A.begun).take 0).map (fJ t.ids)),blk tb 302 (pH tb ab t),fL gQ t.iv 39 1 t.ids,fL fU t.cv 3 1 t.cs] H:=yy (l7 (R' := (gh [(AW.R ab t.w),fL fU d 3 1 (t.A.list t.A.begun)])) 0 I rfl ht rfl)
 refine iV (m:=(t.A.list t.A.begun).length) 1 rfl rfl yd n rfl ?_
 have J:=yf [3,4,5,0,1,2] n
 refine gF n 4 ?_
 refine lp (α:=Nat×Value) (fun(k,F)=>[(0,(Zb tb)),(3,F),(19,d),(20,(Za ((t.A.list t.A.begun).length:Int))),(21,(Za k))]) (fun(k,F) w1=>St [(w,(TW.R tb ab t).gJ)] (MM tb ab t d (t.A.list t.A.begun) F (((t.A.list t.A.begun).take k).map (fJ t.ids))) w1/\k<=(t.A.list t.A.begun).length) (fun(k,F)=>(t.A.list t.A.begun).length-k) (0,(Es j t.A.used)) ⟨rfl,rfl,rfl,rfl,gm (by first|rfl|omega),trivial⟩ (⟨J,o_⟩) ?_
 rintro⟨k,F⟩ U L ⟨T,ai⟩
 refine fR T 2 ?_
 by_cases V:(k:Int)<((t.A.list t.A.begun).length:Int)
 . have ad:k<(t.A.list t.A.begun).length:=by omega
   have ah:fJ (t.A.list t.A.begun) k<t.ids.length:=by rw[hT.uc];exact((Z.ox _).1 (ri.2 ⟨k,ad,rfl⟩)).1
   refine fK T 25 ?_
   refine jW (vs:=(Zt (fJ t.ids (fJ (t.A.list t.A.begun) k)))) (cs:=(Zt (fJ t.ids (fJ (t.A.list t.A.begun) k)))) rfl rfl yw iX rfl (by simp[Value.cells]) rfl rfl rfl T ?_
   intro o M W X e
   have e:St _ (Ia o ([(fJ t.ids (fJ (t.A.list t.A.begun) k))]) tb ab t d (t.A.list t.A.begun) F (((t.A.list t.A.begun).take k).map (fJ t.ids))) M:=e
   refine lR (cf:=gQ) (ys:=(((t.A.list t.A.begun).take k).map (fJ t.ids))) (zs:=[(fJ t.ids (fJ (t.A.list t.A.begun) k))]) (LL:=fun f=>(Ia o ([(fJ t.ids (fJ (t.A.list t.A.begun) k))]) tb ab t d (t.A.list t.A.begun) f ((((t.A.list t.A.begun).take k).map (fJ t.ids))++[(fJ t.ids (fJ (t.A.list t.A.begun) k))]))) 6 rfl rfl rfl yw iX rfl d_ e rfl (lF e (i:=0) rfl) (fun x hx=>z6.1 (show List.all _ _=true from rfl) x hx) (by simp only[zo,zh,zk,zu,k8,maxLen];omega) (by simp only[zo,zh,zk,zu,k8,maxLen];omega) f_ ?_
   intro f N q Y
   have q:St _ (Ia o ([(fJ t.ids (fJ (t.A.list t.A.begun) k))]) tb ab t d (t.A.list t.A.begun) f ((((t.A.list t.A.begun).take k).map (fJ t.ids))++[(fJ t.ids (fJ (t.A.list t.A.begun) k))])) N:=q
   have z:=yf [1,2,3,4,5,6] q
   refine fP z 8 ?_
   refine tN (?_)
   exact again ((k+1),f) ⟨rfl,rfl,rfl,rfl,gm (by first|rfl|omega),trivial⟩ (⟨by rw[GC _ ad];exact z,o_⟩) (by show ((t.A.list t.A.begun).length-(k+1):Nat)<(t.A.list t.A.begun).length-k;omega)
 . refine fK T 13 ?_
   refine jw (vl:=[F]) rfl rfl eN (adE F (((t.A.list t.A.begun).take k).map (fJ t.ids)) L (kU T (i:=5) rfl) (by rw[zu,k8];omega)) ?_
   rintro _ O ⟨g,rfl,B,ht⟩
   have C:St _ (MM tb ab t d (t.A.list t.A.begun) F g) O:=l7 (R' := fL gQ F 39 1 g) 5 T rfl ht rfl
   refine fP C 9 ?_
   refine gf (v:=F) results223 rfl ?_
   have P:=yf [0,1,2,3,5,4] C
   have ae:k=(t.A.list t.A.begun).length:=by omega
   subst ae
   have aa:=B.1
   rw[vL]at aa
   have af:=(aa.nodup_iff).2 (TW.Jr hT Z)
   exact⟨F,g,rfl,⟨B.2.kF af,fun x=>aa.mem_iff.trans (TW.CG Z x)⟩,ym (R' := (gh [(TW.R tb ab t),fL gQ F 39 1 g])) (yc [_,_] _ (yn (p:=t.ok) (yc [_,_,_,_] _ P) hT)) zd⟩
theorem ae5(fN fM db:Nat)(s:fW)(w:World)(m:Own (fW.R fN fM db s) w)(x:fN<=12) :
 CR ya 148 (Zh db) w (fun r w' => ∃ (v:Value) (K:List Int),v=r/\s.k9 K/\fV (fW.R fN fM db s) w w' (gh [(fW.R fN fM db s),fL gQ v 39 1 K])):=by
 refine en func148 ntmps148 ?_
 have n:=Own.of m.un
 have l:s.ok fN fM:=m.fact
 have o:s.t.A.used<=12:=by have q:=l.tok.ul;have u:=l.tn;omega
 have b:=yn (p:=s.ok fN fM) (yc [_,_,_,_,_,_] _ n) l
 refine fR n 9 ?_
 refine cl (xd fN fM db s w (ye b 0 rfl)) ?_
 rintro _ f ⟨rfl,ht⟩
 have g:=yh 0 b ht
 have a:=(jM g).unpack
 refine fK a 12 ?_
 refine cl (aeG s.tb s.ab s.t f (ye a 5 rfl) o) ?_
 rintro _ k ⟨c,h,rfl,d,ht⟩
 have i:=yf [5,0,1,2,3,4] a
 have e:=yy (yh 0 i ht)
 refine fP e 4 ?_
 refine gf (v:=c) results148 rfl ?_
 have j:=yf [2,3,4,5,6,0,1] e
 exact⟨c,h,rfl,⟨d.1,d.2⟩,ym (yc [_,_] _ (yn (p:=fW.ok fN fM s) (yc [_,_,_,_,_,_] _ j) l)) zd⟩
theorem afF(c:WC)(q:Nat)(s:WW)(w:World)(x:Own (WW.R c q s) w)(z:c.fN<=12) :
 CR ya 81 (Zh q) w (fun r w' => ∃ (v:Value) (K:List Int),v=r/\s.u.k9 K/\fV (WW.R c q s) w w' (gh [(WW.R c q s),fL gQ v 39 1 K])):=by
 refine en func81 ntmps81 ?_
 have t:=Own.of x.un
 have o:s.ok c:=x.fact
 have A:=o.w1
 have B:=o.wi
 have C:=o.n0
 have D:=o.n1
 have y:fW.ok c.fN c.fM s.u:=(y9 t (i:=2) rfl)
 have H:=o.en
 have G:=o.e1
 have L:=o.v2
 have M:=o.vn
 have E:=o.a0
 have F:=o.a1
 have J:=o.la
 have I:=y.tB
 have b:=yn (p:=s.ok c) (yc [_,_,_,_,_] _ t) o
 refine fR t 9 ?_
 refine cl (vA c q s w (ye b 0 rfl)) ?_
 rintro _ f ⟨rfl,ht⟩
 have g:=yh 0 b ht
 have a:=(jM g).unpack
 refine fK a 12 ?_
 refine cl (ae5 c.fN c.fM s.ub s.u f (ye a 2 rfl) z) ?_
 rintro _ n ⟨d,h,rfl,j,ht⟩
 have k:=yf [2,0,1,3,4] a
 have e:=yy (yh 0 k ht)
 refine fP e 4 ?_
 refine gf (v:=d) results81 rfl ?_
 have l:=yf [2,3,0,4,5,1] e
 have m:=yn (p:=s.ok c) (yc [_,_,_,_,_] _ l) o
 exact⟨d,h,rfl,j,yj (yc [_,_] _ m)⟩
theorem Tw(c:WC)(t:Nat)(s:WW)(w:World)(u:Own (WW.R c t s) w) :
 CR ya 49 (Zh t) w (fun r w' => r=(EJ c.win c.fM c.fN c.kN)/\fV (WW.R c t s) w w' (WW.R c t s)):=by
 refine en func49 ntmps49 ?_
 have x:=Own.of u.un
 have q:s.ok c:=u.fact
 have y:=q.w1
 have z:=q.wi
 have A:=q.n0
 have B:=q.n1
 refine fR x 2 ?_
 refine iR x (fun j e k l a=>?_)
 have f:=yf [1,2,3,4,5,0] a
 have b:=yn (p:=s.ok c) (yc [_,_,_,_,_] _ f) q
 refine fK a 6 ?_
 refine cl (vA c t s e (ye b 0 rfl)) ?_
 rintro _ m ⟨rfl,ht⟩
 have g:=yh 0 b ht
 have h:=(jM g).unpack
 refine jH h 16 fun n d=>?_
 refine KF (v:=(EJ c.win c.fM c.fN c.kN)) results49 (nX (cs:=(tc c.win c.fM c.fN c.kN)) rfl DH rfl Dy rfl (mO d (i:=5) (o:=0) (vs:=(tc c.win c.fM c.fN c.kN)) rfl rfl)) ?_
 exact⟨rfl,ym (yn (p:=s.ok c) (yc [_,_,_,_,_] _ d) q) zd⟩
theorem Da(xs:List Int)(x:Int)(w:World)(hv:gY 1 gQ (fun _=>True) w v xs)(hs:xs.Pairwise fun a b=>a<b)(h:xs.length<=1000000) :
 CR ya 61 #[v,(Zl x)] w (fun r w' => r = .int .i64 (gP xs x:Int)/\gx [] w w'):=by
 refine en func61 ntmps61 ?_
 have g:=yu w
 refine fR g 9 ?_
 refine cl (U2 v xs x w hv hs h) ?_
 rintro _ e ⟨f,rfl,d⟩
 have c:=yr g d
 refine fP c 14 ?_
 refine gf (v:=(Za (gP xs x:Int))) results61 rfl ?_
 exact⟨rfl,c.gA s_⟩
theorem F8(c:WC)(F:Nat)(s:WW)(w:World)(hO:Own (WW.R c F s) w)(am:c.fN<=12) :
 CR ya 37 (Zh F) w (fun r w' => ∃ (iv ev lv:Value) (K:List Int) (L:List Lv) (es:List Ge),r = .tuple #[iv,ev,lv]/\(s.u.k9 K/\s.u.kn L/\kA K L es L.length)/\fV (WW.R c F s) w w' (gh (EB c F s iv K ev es lv L))):=by
 refine enter (vs:=(Zf F)) func37 rfl ntmps37 rfl ?_
 have aj:=yt hO
 have T:=o6 hO
 have au:=T.1.en
 have ar:=T.1.w1
 refine fR aj 10 ?_
 refine jw (vl:=(Zf F)) rfl rfl eN (afF c F s w (kU aj (i:=0) rfl) am) ?_
 rintro _ A ⟨d,b,rfl,g,ht⟩
 have p:St _ [(WW.R c F s),fL gQ d 39 1 b] A:=yy (l7 (R' := (gh [(WW.R c F s),fL gQ d 39 1 b])) 0 aj rfl ht rfl)
 have an:=g.len T.2.1 T.2.2
 refine fK p 1 ?_
 refine jw (vl:=(Zf F)) rfl rfl eN (afO c F s A (kU p (i:=0) rfl)) ?_
 rintro _ D ⟨e,a,rfl,q,ht⟩
 have t:St _ [(WW.R c F s),fL Lv.cells e 43 7 a,fL gQ d 39 1 b] D:=yy (l7 (R' := (gh [(WW.R c F s),fL Lv.cells e 43 7 a])) 0 p rfl ht rfl)
 have ao:=q.len T.2.1
 refine fK t 7 ?_
 refine iV (m:=a.length) 1 rfl rfl sK t rfl (lN (cf:=Ge.cells) (z0:=⟨0,0,0⟩) (m:=a.length) (c:=a.length) rfl rfl rfl pQ Du rfl f_ d_ (zm _) o_ o_ t ?_)
 intro j l Y Z E
 have n:St _ [fL Ge.cells (Zd j a.length) 110 3 (List.replicate a.length ⟨0,0,0⟩),(WW.R c F s),fL Lv.cells e 43 7 a,fL gQ d 39 1 b] l:=lZ (cf:=Ge.cells) E (i:=0) rfl f_ (zm _) (by simp only[maxLen];omega)
 refine fK n 7 ?_
 refine iV (m:=a.length) 2 rfl rfl sK n rfl ?_
 have G:St _ [(WW.R c F s),fL Ge.cells (Zd j a.length) 110 3 (List.replicate a.length ⟨0,0,0⟩),fL Lv.cells e 43 7 a,fL gQ d 39 1 b] l:=mP n (List.Perm.swap _ _ _)
 have H:St _ [(WW.R c F s),fL Ge.cells (Zd j a.length) 110 3 (List.replicate a.length ⟨0,0,0⟩),fL gQ d 39 1 b,fL Lv.cells e 43 7 a] l:=mP G (List.Perm.cons _ (List.Perm.cons _ (List.Perm.swap _ _ _)))
 have I:St _ [(WW.R c F s),fL gQ d 39 1 b,fL Ge.cells (Zd j a.length) 110 3 (List.replicate a.length ⟨0,0,0⟩),fL Lv.cells e 43 7 a] l:=mP H (List.Perm.cons _ (List.Perm.swap _ _ _))
 refine gF n 4 ?_
 refine lp (α:=Nat×List Ge×Value) (fun(k,es,ev)=>[(5,d),(6,e),(7,ev),(17,e),(18,(Za a.length)),(19,(Za k))]) (fun(k,es,ev) w1=>St [(w,(WW.R c F s).gJ)] (EB c F s d b ev es e a) w1/\kA b a es k/\k<=a.length) (fun(k,es,ev)=>a.length-k) (0,(List.replicate a.length ⟨0,0,0⟩),(Zd j a.length)) ⟨rfl,rfl,rfl,rfl,rfl,gm (by first|rfl|omega),trivial⟩ (⟨I,kA.start,o_⟩) ?_
 rintro⟨k,es,ev⟩ aa ab ⟨ah,ai,aq⟩
 have ap:=ai.len
 refine fR ah 2 ?_
 by_cases ac:(k:Int)<(a.length:Int)
 . have ak:k<a.length:=by omega
   have hE:=g.ends T.2.1 q ak
   refine fK ah 14 ?_
   refine iR ah (fun h ad ae af J=>?_)
   refine ux J 4 fun ag M=>?_
   refine kq mixed [([0,1,2,3,4,5,7,8,9,10,12,13,14,6],[10,14]),([11],[14])] [15,16,17] M (fun N x=>jx ?_)
   refine fK x 13 ?_
   refine jw (vl:=[d,(Zl ((fJ a k).u))]) rfl rfl eN (Da d b ((fJ a k).u) N (Sl.any (qt x (i:=2) rfl f_)) g.kF o_) ?_
   rintro _ B ⟨rfl,O⟩
   have y:St _ (Mq h (fJ a k) c F s d b ev es e a) B:=yr x O
   refine fP y 1 ?_
   refine jZ (jx ?_)
   refine jw (vl:=[d,(Zl ((fJ a k).v))]) rfl rfl eN (Da d b ((fJ a k).v) B (Sl.any (qt y (i:=2) rfl f_)) g.kF o_) ?_
   rintro _ P ⟨rfl,Q⟩
   have z:St _ (Mq h (fJ a k) c F s d b ev es e a) P:=yr y Q
   refine fP z 1 ?_
   refine jZ (kE ?_)
   refine iU (pvs:=[(0,(Za (gP b ((fJ a k).u):Int))),(1,(Za (gP b ((fJ a k).v):Int))),(2,(Za ((fJ a k).wt)))]) (v:=.agg (s9 (gP b ((fJ a k).u):Int) (gP b ((fJ a k).v):Int) ((fJ a k).wt))) rfl rfl (jj [(0,(Ze (gP b ((fJ a k).u):Int))),(1,(Ze (gP b ((fJ a k).v):Int))),(2,(Ze ((fJ a k).wt)))] Du abk rfl ⟨rfl,rfl,rfl,rfl,rfl,rfl,trivial⟩ rfl) (fK z 1 ?_)
   refine iQ (f:=(fun _=>(⟨(gP b ((fJ a k).u)),(gP b ((fJ a k).v)),(fJ a k).wt⟩:Ge))) 3 z (fun o C=>?_)
   refine fP C 7 ?_
   refine tN (?_)
   have S:St _ [(WW.R c F s),blk h 43 (oh (fJ a k)),fL gQ d 39 1 b,fL Ge.cells ev 110 3 (fO es k (fun _=>(⟨(gP b ((fJ a k).u)),(gP b ((fJ a k).v)),(fJ a k).wt⟩:Ge))),fL Lv.cells e 43 7 a] o:=mP C (List.Perm.swap _ _ _)
   have U:St _ [(WW.R c F s),fL gQ d 39 1 b,blk h 43 (oh (fJ a k)),fL Ge.cells ev 110 3 (fO es k (fun _=>(⟨(gP b ((fJ a k).u)),(gP b ((fJ a k).v)),(fJ a k).wt⟩:Ge))),fL Lv.cells e 43 7 a] o:=mP S (List.Perm.cons _ (List.Perm.swap _ _ _))
   have V:St _ [(WW.R c F s),fL gQ d 39 1 b,fL Ge.cells ev 110 3 (fO es k (fun _=>(⟨(gP b ((fJ a k).u)),(gP b ((fJ a k).v)),(fJ a k).wt⟩:Ge))),blk h 43 (oh (fJ a k)),fL Lv.cells e 43 7 a] o:=mP U (List.Perm.cons _ (List.Perm.cons _ (List.Perm.swap _ _ _)))
   have W:St _ [(WW.R c F s),fL gQ d 39 1 b,fL Ge.cells ev 110 3 (fO es k (fun _=>(⟨(gP b ((fJ a k).u)),(gP b ((fJ a k).v)),(fJ a k).wt⟩:Ge))),fL Lv.cells e 43 7 a,blk h 43 (oh (fJ a k))] o:=mP V (List.Perm.cons _ (List.Perm.cons _ (List.Perm.cons _ (List.Perm.swap _ _ _))))
   have X:=St.sub (L' := (EB c F s d b ev (fO es k (fun _=>(⟨(gP b ((fJ a k).u)),(gP b ((fJ a k).v)),(fJ a k).wt⟩:Ge))) e a)) W (List.Sublist.cons_cons _ (List.Sublist.cons_cons _ (List.Sublist.cons_cons _ (List.Sublist.cons_cons _ (List.Sublist.cons _ (List.Sublist.refl _))))))
   exact again ((k+1),fO es k (fun _=>(⟨(gP b ((fJ a k).u)),(gP b ((fJ a k).v)),(fJ a k).wt⟩:Ge)),ev) ⟨rfl,rfl,rfl,rfl,rfl,gm (by first|rfl|omega),trivial⟩ (⟨X,ai.next ak g.kF hE.1 hE.2,o_⟩) (by show (a.length-(k+1):Nat)<a.length-k;omega)
 . refine fP ah 21 ?_
   refine rq (v:=d) (v' := ev) (v'' := e) results37 rfl rfl rfl ?_
   have al:k=a.length:=by omega
   exact⟨d,ev,e,b,a,es,rfl,⟨g,q,by rw[<-al];exact ai⟩,ym (R' := (gh (EB c F s d b ev es e a))) (yc [_,_,_,_] _ ah) zd⟩
theorem Tm(c:WC)(k:Nat)(s:WW)(w:World)(m:Own (WW.R c k s) w) :
 CR ya 35 (Zh k) w (fun r w' => ∃ (o:Nat),r = .tuple (Zz o)/\fV (WW.R c k s) w w' (HQ c k s o)):=by
 refine en func35 ntmps35 ?_
 have l:=yt m
 have n:=o6 m
 have q:=n.1.en
 have p:=n.1.w1
 refine fR l 10 ?_
 refine mc (a:=some ⟨k,0,none⟩) (c:=false) rfl rfl rfl BC rfl (fK l 2 ?_)
 refine cl (Tw c k s w (ye l 0 rfl)) ?_
 rintro _ g ⟨rfl,ht⟩
 have b:=yh 0 l ht
 refine Jg (cs:=(xN c.win c.fM c.fN c.kN)) (v:=(Za c.win)) rfl rfl DH rfl zQ rfl rfl (cmp rfl rfl rfl (kG o_) (fK b 9 ?_))
 refine iU (pvs:=[(0,(Zb k))]) (v:=.agg #[(Zb k),Zn,Zy,Zi,Zc,Zi,Zi,Zi,Zi,Zi,Zp,Zp,Zc]) rfl rfl (jj [(0,(Zf k))] Ss abj rfl ⟨rfl,rfl,trivial⟩ rfl) (ir b (fun d h i j e=>?_))
 refine fP e 5 ?_
 refine gZ (v:=(Zb d)) (v' := Zc) results35 rfl rfl ?_
 have f:=yf [1,0] e
 exact⟨d,rfl,yj (yc [_,_] _ f)⟩
theorem G0(e:Nat)(w:World)(f:Own (Aj b e) w) :
 CR ya 36 (Zh b) w (fun r w' => r = .bool true/\fV (Aj b e) w w' (Aj b e)):=by
 refine en func36 ntmps36 ?_
 have d:=yt f
 refine fR d 8 ?_
 refine lI (a:=some ⟨b,0,none⟩) (c:=true) rfl rfl rfl underlying24 rfl (fK d 5 ?_)
 refine lI (a:=some ⟨e,0,none⟩) (c:=true) rfl rfl rfl BC rfl (fP d 5 ?_)
 refine gf (v:=Zg) results36 rfl ?_
 exact⟨rfl,yj d⟩
theorem afm(c d:Nat)(w:World)(f:Own (Aj c d) w) :
 CR ya 16 (Zh c) w (fun r w' => r = .int .i64 0/\fV (Aj c d) w w' (Aj c d)):=by
 refine en func16 ntmps16 ?_
 have e:=yt f
 refine fR e 9 ?_
 refine cl (G0 c d w (ye e 0 rfl)) ?_
 rintro _ b ⟨rfl,ht⟩
 have a:=yh 0 e ht
 refine fP a 16 ?_
 refine gf (v:=Zc) results16 rfl ?_
 exact⟨rfl,yj a⟩
theorem XC(c:WC)(p q:Nat)(s:WW)(w:World)(x:Own (tU p q c s) w)(y:c.fN<=12) :
 CR ya 7 (Zh p) w (fun r w' => ∃ (iv ev lv:Value) (K:List Int) (L:List Lv) (es:List Ge),r = .tuple #[iv,ev]/\(s.u.k9 K/\s.u.kn L/\kA K L es L.length)/\fV (tU p q c s) w w' (gh [(tU p q c s),fL gQ iv 39 1 K,fL Ge.cells ev 110 3 es])):=by
 refine en func7 ntmps7 ?_
 have t:=(yt x).unpack
 refine fR t 10 ?_
 refine cl (G0 p q w (ye t 0 rfl)) ?_
 rintro _ f ⟨rfl,ht⟩
 have a:=yh 0 t ht
 refine fK a 12 ?_
 refine cl (F8 c q s f (ye a 1 rfl) y) ?_
 rintro _ o ⟨b,d,g,h,i,j,rfl,k,ht⟩
 have l:=yf [1,0] a
 have e:=yy (yh 0 l ht)
 refine fP e 18 ?_
 refine gZ (v:=b) (v' := d) results7 rfl rfl ?_
 have m:=yf [4,0,1,2,3] e
 have n:=yc [_,_] _ m
 exact⟨b,d,g,h,i,j,rfl,k,yj (yc [_,_,_] _ n)⟩
def Ds.R(db n:Nat)(s:Ds):fT:=lq (s.ok n) (qV db s)
abbrev EA a b c d e f g:=([Ds.R a b c,fL fU d 3 1 e,iz .i64 f 3 g]:List fT)
abbrev H9(a:Nat) b c d e f g h i:=([iz .i64 (Z4 a) 3 b,Ds.R c d e,fL fU f 3 1 g,iz .i64 h 3 i]:List fT)
theorem Fe(s:Ds)(w:World)(e:Own (qV db s) w)(d:Nat->Nat)(hd:s.wQ d n)(g:n<=1000000) :
 CR ya 306 (Zh db) w (fun r w' => r = .bool true/\fV (qV db s) w w' (qV db s)):=by
 have i:=hd.ul
 have f:=hd.ll
 have h:=hd.sl
 refine en func306 ntmps306 ?_
 have b:=Own.of e
 refine fR b 8 ?_
 refine lI (a:=some ⟨db,0,none⟩) (c:=true) rfl rfl rfl underlying353 rfl (fK b 6 ?_)
 refine xV (a:=⟨db,0,none⟩) rfl rfl rfl underlying353 LC (fP b 5 ?_)
 refine gf (v:=Zg) results306 rfl ?_
 exact⟨rfl,yj (yc [_,_,_,_] _ b)⟩
theorem I4(s:Ds)(w:World)(f:Own (qV db s) w)(d:Nat->Nat)(hd:s.wQ d n)(g:n<=1000000)(a0:Nat)(h:a0<n) :
 CR ya 307 (Zm db a0) w (fun r w' => r = .bool true/\fV (qV db s) w w' (qV db s)):=by
 have k:=hd.ul
 have i:=hd.ll
 have j:=hd.sl
 refine en func307 ntmps307 ?_
 have e:=Own.of f
 have b:=yc [_,_,_,_] _ e
 refine fR e 8 ?_
 refine cl (Fe db n s w (ye b 0 rfl) d hd g) ?_
 rintro _ c ⟨rfl,ht⟩
 have a:=(yi b ht)
 refine fK a 2 ?_
 refine cmp rfl rfl rfl (ow o_) (fK a 7 ?_)
 refine iV (m:=s.up.length) 1 rfl rfl yd a rfl (cmp rfl rfl rfl (p8 o_) (fP a 5 ?_))
 refine gf (v:=Zg) results307 rfl ?_
 exact⟨rfl,yj (yc [_,_,_,_] _ a)⟩
theorem I6(s:Ds)(w:World)(o:Own (qV db s) w)(d:Nat->Nat)(hd:s.wQ d n)(u:n<=1000000)(a0:Nat)(p:a0<n) :
 CR ya 308 (Zm db a0) w (fun r w' => ∃ (i:Nat) (up:List Nat),r = .int .i64 (i:Int)/\(qw d n s a0 up i/\fJ up i=i)/\fV (qV db s) w w' (HR db s up)):=by
 have z:=hd.ul
 have t:=hd.ll
 have y:=hd.sl
 refine en func308 ntmps308 ?_
 have m:=Own.of o
 refine rm m 11 ?_
 refine lp (α:=Nat×List Nat) (fun(i,up)=>[(0,(Zb db)),(1,(Za i)),(4,Zc)]) (fun(i,up) w1=>St [(w,(qV db s).gJ)] (EO db s up) w1/\qw d n s a0 up i) (fun(i,up)=>d i) (a0,s.up) ⟨rfl,gm rO,rfl,trivial⟩ (⟨m,qw.start hd p⟩) ?_
 rintro⟨i,up⟩ c e ⟨l,k⟩
 have A:up.length=n:=k.ok.ul
 have q:=k.an
 have x:fJ up i<n:=k.ok.ub i q
 refine fR l 18 ?_
 by_cases g:(((fJ up i):Nat):Int)=(i:Int)
 . refine fP l 18 ?_
   refine gf (v:=(Za i)) results308 rfl ?_
   exact⟨i,up,rfl,⟨k,o_⟩,yj (yc [_,_,_,_] _ l)⟩
 . refine gC l 21 fun h b=>?_
   refine iQ (f:=(fun _=>(fJ up (fJ up i)))) 1 b (fun j a=>?_)
   refine fP a 13 ?_
   refine tN (?_)
   exact again ((fJ (fO up i (fun _=>(fJ up (fJ up i)))) i),fO up i (fun _=>(fJ up (fJ up i)))) ⟨rfl,gm rO,rfl,trivial⟩ (⟨a,(k.OW o_).1⟩) (k.OW o_).2
theorem I8(s:Ds)(w:World)(hO:Own (Ds.R db n s) w)(hn:n<=1000000)(a b:Nat)(ha:a<n)(hb:b<n) :
 CR ya 246 (Zv db a b) w (fun r w' => ∃ s2:Ds,(r = .tuple (Ag (decide (fJ s.lb a≠fJ s.lb b))))/\(s2.lb=iW s.lb (fJ s.lb a) (fJ s.lb b)/\s2.cnt=if fJ s.lb a=fJ s.lb b then s.cnt else IntKind.i64.wrap (s.cnt-1))/\fV (Ds.R db n s) w w' (Ds.R db n s2)):=by
 refine enter (vs:=(Av db a b)) func246 rfl ntmps246 rfl ?_
 obtain⟨⟨d,hd⟩,aA⟩:=hO.fact
 have aC:=hd.ul
 have aB:=hd.ll
 have av:=hd.sl
 have aw:St _ (B9 db s) w:=Own.of hO.un
 have q:=yc [_,_,_,_] _ aw
 refine fR aw 10 ?_
 refine jw (vl:=(Zf db)) rfl rfl eN (Fe db n s w (kU q (i:=0) rfl) d hd hn) ?_
 rintro _ t ⟨rfl,ht⟩
 have u:St _ (B9 db s) t:=(l7 (R' := (qV db s)) 0 q rfl ht rfl).unpack
 have x:=yc [_,_,_,_] _ u
 refine fK u 11 ?_
 refine jw (vl:=(tS db a)) rfl rfl eN (I4 db n s t (kU x (i:=0) rfl) d hd hn a o_) ?_
 rintro _ y ⟨rfl,ht⟩
 have z:St _ (B9 db s) y:=(l7 (R' := (qV db s)) 0 x rfl ht rfl).unpack
 have A:=yc [_,_,_,_] _ z
 refine fK z 4 ?_
 refine jw (vl:=(tS db b)) rfl rfl eN (I4 db n s y (kU A (i:=0) rfl) d hd hn b o_) ?_
 rintro _ B ⟨rfl,ht⟩
 have C:St _ (B9 db s) B:=(l7 (R' := (qV db s)) 0 A rfl ht rfl).unpack
 have D:=yc [_,_,_,_] _ C
 refine fK C 11 ?_
 refine jw (vl:=(tS db a)) rfl rfl eN (I6 db n s B (kU D (i:=0) rfl) d hd hn a o_) ?_
 rintro _ E ⟨g,o,rfl,k,ht⟩
 have G:St _ (EO db s o) E:=(l7 (R' := (HR db s o)) 0 D rfl ht rfl).unpack
 have P:=k.1.ok
 have ap:=k.1.an
 have H:=yc [_,_,_,_] _ G
 refine fK G 2 ?_
 refine jw (vl:=(tS db b)) rfl rfl eN (I6 db n (s.wu o) E (kU H (i:=0) rfl) d P hn b o_) ?_
 rintro _ Q ⟨h,j,rfl,I,ht⟩
 have l:St _ (EO db s j) Q:=(l7 (R' := (HR db s j)) 0 H rfl ht rfl).unpack
 obtain⟨T,ax,az,ap,ay,aq,au,F⟩:=k.1.two k.2 I.1 I.2
 have aD:j.length=n:=T.ul
 refine fK l 9 ?_
 by_cases Z:(g:Int)=(h:Int)
 . refine fP l 12 ?_
   refine gZ (v:=Zn) (v' := Zc) results246 rfl rfl ?_
   exact⟨(s.wu j),congrArg (fun b=>Value.tuple (Ag b)) (by rw[eq_comm,decide_eq_false_iff_not,Decidable.not_not];exact F.1 o_),⟨(by rw[F.1 o_,Ka];rfl),(if_pos (F.1 o_)).symm⟩,ym (R' := (Ds.R db n (s.wu j))) (yn (p:=Ds.ok n (s.wu j)) (yc [_,_,_,_] _ l) (⟨⟨d,T⟩,aA⟩)) zd⟩
 . refine gC l 23 fun aa m=>?_
   by_cases ab:((fJ s.sz g):Int)<((fJ s.sz h):Int)
   . refine fK m 20 ?_
     refine iQ (f:=(fun _=>h)) 1 m (fun ac S=>?_)
     refine gC S 18 fun ad J=>?_
     refine ar (a:=(fJ s.sz h)) (b:=(fJ s.sz g)) (c:=(fJ s.sz h)+(fJ s.sz g)) (e:=IntKind.i64.wrap ((fJ s.sz h)+(fJ s.sz g))) rfl rfl rfl rfl rfl (fK J 1 ?_)
     refine iQ (f:=(fun _=>IntKind.i64.wrap ((fJ s.sz h)+(fJ s.sz g)))) 3 J (fun ae U=>?_)
     refine gC U 23 fun af K=>?_
     refine min2 (a:=(((fJ s.le h):Nat):Int)) (b:=(((fJ s.le g):Nat):Int)) (c:=((min (fJ s.le h) (fJ s.le g):Nat):Int)) rfl rfl rfl FP (fK K 1 ?_)
     refine iQ (f:=(fun _=>(min (fJ s.le h) (fJ s.le g)))) 2 K (fun ag L=>?_)
     refine fK L 8 ?_
     refine ar (a:=s.cnt) (b:=1) (c:=s.cnt-1) (e:=IntKind.i64.wrap (s.cnt-1)) rfl rfl rfl rfl rfl (jH L 12 fun ah V=>?_)
     refine gZ (v:=Zg) (v' := Zc) results246 rfl rfl ?_
     exact⟨(⟨s.uv,s.lv,s.sv,fO j g (fun _=>h),fO s.le h (fun _=>(min (fJ s.le h) (fJ s.le g))),fO s.sz h (fun _=>IntKind.i64.wrap ((fJ s.sz h)+(fJ s.sz g))),IntKind.i64.wrap (s.cnt-1),iW s.lb (fJ s.lb h) (fJ s.lb g)⟩:Ds),congrArg (fun b=>Value.tuple (Ag b)) (by rw[eq_comm,decide_eq_true_iff];exact fun e=>absurd (F.2 e) o_),⟨J9.trans (Qc aq au),(if_neg (fun e9=>absurd (F.2 e9) o_)).symm⟩,ym (R' := (Ds.R db n (⟨s.uv,s.lv,s.sv,fO j g (fun _=>h),fO s.le h (fun _=>(min (fJ s.le h) (fJ s.le g))),fO s.sz h (fun _=>IntKind.i64.wrap ((fJ s.sz h)+(fJ s.sz g))),IntKind.i64.wrap (s.cnt-1),iW s.lb (fJ s.lb h) (fJ s.lb g)⟩:Ds))) (yn (p:=Ds.ok n (⟨s.uv,s.lv,s.sv,fO j g (fun _=>h),fO s.le h (fun _=>(min (fJ s.le h) (fJ s.le g))),fO s.sz h (fun _=>IntKind.i64.wrap ((fJ s.sz h)+(fJ s.sz g))),IntKind.i64.wrap (s.cnt-1),iW s.lb (fJ s.lb h) (fJ s.lb g)⟩:Ds)) (yc [_,_,_,_] _ V) (Ds.join T ay ap az ax o_ (by rw[gB];exact av) (Tg T.Lg (G2 _)) rfl (G2 _))) zd⟩
   . refine fK m 15 ?_
     refine iQ (f:=(fun _=>g)) 1 m (fun ai W=>?_)
     refine gC W 18 fun aj M=>?_
     refine ar (a:=(fJ s.sz g)) (b:=(fJ s.sz h)) (c:=(fJ s.sz g)+(fJ s.sz h)) (e:=IntKind.i64.wrap ((fJ s.sz g)+(fJ s.sz h))) rfl rfl rfl rfl rfl (fK M 1 ?_)
     refine iQ (f:=(fun _=>IntKind.i64.wrap ((fJ s.sz g)+(fJ s.sz h)))) 3 M (fun ak X=>?_)
     refine gC X 23 fun al N=>?_
     refine min2 (a:=(((fJ s.le g):Nat):Int)) (b:=(((fJ s.le h):Nat):Int)) (c:=((min (fJ s.le g) (fJ s.le h):Nat):Int)) rfl rfl rfl FP (fK N 1 ?_)
     refine iQ (f:=(fun _=>(min (fJ s.le g) (fJ s.le h)))) 2 N (fun am O=>?_)
     refine fK O 8 ?_
     refine ar (a:=s.cnt) (b:=1) (c:=s.cnt-1) (e:=IntKind.i64.wrap (s.cnt-1)) rfl rfl rfl rfl rfl (jH O 12 fun ao Y=>?_)
     refine gZ (v:=Zg) (v' := Zc) results246 rfl rfl ?_
     exact⟨(⟨s.uv,s.lv,s.sv,fO j h (fun _=>g),fO s.le g (fun _=>(min (fJ s.le g) (fJ s.le h))),fO s.sz g (fun _=>IntKind.i64.wrap ((fJ s.sz g)+(fJ s.sz h))),IntKind.i64.wrap (s.cnt-1),iW s.lb (fJ s.lb g) (fJ s.lb h)⟩:Ds),congrArg (fun b=>Value.tuple (Ag b)) (by rw[eq_comm,decide_eq_true_iff];exact fun e=>absurd (F.2 e) o_),⟨Qc aq au,(if_neg (fun e9=>absurd (F.2 e9) o_)).symm⟩,ym (R' := (Ds.R db n (⟨s.uv,s.lv,s.sv,fO j h (fun _=>g),fO s.le g (fun _=>(min (fJ s.le g) (fJ s.le h))),fO s.sz g (fun _=>IntKind.i64.wrap ((fJ s.sz g)+(fJ s.sz h))),IntKind.i64.wrap (s.cnt-1),iW s.lb (fJ s.lb g) (fJ s.lb h)⟩:Ds))) (yn (p:=Ds.ok n (⟨s.uv,s.lv,s.sv,fO j h (fun _=>g),fO s.le g (fun _=>(min (fJ s.le g) (fJ s.le h))),fO s.sz g (fun _=>IntKind.i64.wrap ((fJ s.sz g)+(fJ s.sz h))),IntKind.i64.wrap (s.cnt-1),iW s.lb (fJ s.lb g) (fJ s.lb h)⟩:Ds)) (yc [_,_,_,_] _ Y) (Ds.join T ap ay ax az o_ (by rw[gB];exact av) (Tg T.Lg (G2 _)) rfl (G2 _))) zd⟩
theorem WB(s:Ds)(w:World)(f:Own (Ds.R db n s) w)(h:n<=1000000)(a b:Nat)(g:a<n)(hb:b<n) :
 CR ya 246 (Zv db a b) w (fun r w' => ∃ s2:Ds,(r = .tuple (Ag (decide (fJ s.lb a≠fJ s.lb b))))/\s2.lb=iW s.lb (fJ s.lb a) (fJ s.lb b)/\fV (Ds.R db n s) w w' (Ds.R db n s2)) :=
 CR.mono (I8 db n s w f h a b g hb) fun r w' ⟨s2,c,d,e⟩=>⟨s2,c,d.1,e⟩
theorem Ol(hn:n<=65536) :
 CR ya 239 (Z2 n) w (fun r w' => ∃ (db:Nat) (s:Ds),r = .tuple (Zz db)/\(s.lb=List.range n/\s.cnt=(n:Int))/\fV (gh []) w w' (Ds.R db n s)):=by
 refine en func239 ntmps239 ?_
 have aa:=yu w
 refine fR aa 10 ?_
 refine cmp rfl rfl rfl (kG o_) (fK aa 2 ?_)
 refine cmp rfl rfl rfl (nN o_) (gF aa 7 ?_)
 refine yT mixed [0,2,4,6] [1,3,5] [] [7,8,9] aa (fun M q=>zJ ?_)
 refine fP q 5 ?_
 refine pe trivial (zI [⟨1,13,[],[],Nat,fun d=>(Zd d n),fun d=>[blk d 3 ((List.replicate n 0).flatMap fU)]⟩,⟨3,15,[],[],Nat,fun b=>(Zd b n),fun b=>[blk b 3 ((List.replicate n 0).flatMap fU)]⟩,⟨5,17,[],[],Nat,fun a=>(Zd a n),fun a=>[blk a 3 ((List.replicate n 0).flatMap fU)]⟩] q ⟨nv (fun Z wq T _=>lN (cf:=fU) (z0:=0) (m:=n) (c:=n) rfl rfl rfl yd gq rfl f_ d_ (zm _) o_ o_ T (fun C _ _ _ h=>have F:=h;nF ⟨C,rfl,F,trivial⟩)),nv (fun Z wq T _=>lN (cf:=fU) (z0:=0) (m:=n) (c:=n) rfl rfl rfl yd gq rfl f_ d_ (zm _) o_ o_ T (fun D _ _ _ h=>have F:=h;nF ⟨D,rfl,F,trivial⟩)),nv (fun Z wq T _=>lN (cf:=fU) (z0:=0) (m:=n) (c:=n) rfl rfl rfl yd gq rfl f_ d_ (zm _) o_ o_ T (fun E _ _ _ h=>have F:=h;nF ⟨E,rfl,F,trivial⟩))⟩ ?_)
 rintro d b a N G
 refine iU (pvs:=[(1,(Zd d n)),(2,(Zd b n)),(3,(Zd a n)),(4,(Za n))]) (v:=.agg (T6 d n b a)) rfl rfl (jj [(1,(Z5 d n)),(2,(Z5 b n)),(3,(Z5 a n)),(4,(Ze n))] LC abC rfl ⟨rfl,rfl,rfl,rfl,rfl,rfl,rfl,rfl,trivial⟩ rfl) (ir G (fun e o O P t=>?_))
 refine fP t 2 ?_
 have u:St _ [blk e 409 [(.pointer none),(.slice (some ⟨d,0,none⟩) n n),(.slice (some ⟨b,0,none⟩) n n),(.slice (some ⟨a,0,none⟩) n n),(.int .i64 n)],blk a 3 ((List.replicate n 0).flatMap fU),blk b 3 ((List.replicate n 0).flatMap fU),fL fU (.slice (some ⟨d,0,none⟩) n n) 3 1 (List.replicate n 0)] o:=lZ (cf:=fU) t (i:=3) rfl f_ (zm _) (by simp only[maxLen];omega)
 generalize (Value.slice (some ⟨d,0,none⟩) n n)=g at u ⊢
 have x:St _ [blk e 409 [(.pointer none),g,(.slice (some ⟨b,0,none⟩) n n),(.slice (some ⟨a,0,none⟩) n n),(.int .i64 n)],blk a 3 ((List.replicate n 0).flatMap fU),fL fU (.slice (some ⟨b,0,none⟩) n n) 3 1 (List.replicate n 0),fL fU g 3 1 (List.replicate n 0)] o:=lZ (cf:=fU) u (i:=2) rfl f_ (zm _) (by simp only[maxLen];omega)
 generalize (Value.slice (some ⟨b,0,none⟩) n n)=j at x ⊢
 have y:St _ [blk e 409 [(.pointer none),g,j,(.slice (some ⟨a,0,none⟩) n n),(.int .i64 n)],fL fU (.slice (some ⟨a,0,none⟩) n n) 3 1 (List.replicate n 0),fL fU j 3 1 (List.replicate n 0),fL fU g 3 1 (List.replicate n 0)] o:=lZ (cf:=fU) x (i:=1) rfl f_ (zm _) (by simp only[maxLen];omega)
 generalize (Value.slice (some ⟨a,0,none⟩) n n)=l at y ⊢
 refine sQP tt none y 18 fun H I=>?_
 have J:=yf [0,3,2,1] I
 have K:St _ [blk e 409 [(Zb e),g,j,l,(Za n)],fL fU g 3 1 (List.replicate n 0),fL fU j 3 1 (List.replicate n 0),fL gi l 3 1 (List.replicate n 0)] H:=acK l▸J
 refine lp (α:=Nat×List Nat×List Nat×List Int) (fun(k,up,le,sz)=>[(0,(Za n)),(2,Zp),(3,Zc),(4,(Zb e)),(25,(Za n)),(26,(Za k))]) (fun(k,up,le,sz) w1=>St [(w,[])] (T5 e g j l n up le sz) w1/\sR n k up le sz/\k<=n) (fun(k,up,le,sz)=>n-k) (0,List.replicate n 0,List.replicate n 0,List.replicate n 0) ⟨rfl,rfl,rfl,rfl,rfl,gm rO,trivial⟩ (⟨K,sR.start,o_⟩) ?_
 rintro⟨k,up,le,sz⟩ Q S ⟨ab,hN,ac⟩
 obtain⟨af,ad,ae⟩:=hN.len ac
 refine fR ab 2 ?_
 by_cases U:(k:Int)<(n:Int)
 . refine gC ab 34 fun V L=>?_
   refine iQ (f:=(fun _=>k)) 1 L (fun W z=>?_)
   refine fK z 1 ?_
   refine iQ (f:=(fun _=>k)) 2 z (fun X A=>?_)
   refine fK A 1 ?_
   refine iQ (f:=(fun _=>1)) (cf:=gi) 3 A (fun Y B=>?_)
   refine fP B 7 ?_
   refine tN (?_)
   exact again ((k+1),fO up k (fun _=>k),fO le k (fun _=>k),fO sz k (fun _=>1)) ⟨rfl,rfl,rfl,rfl,rfl,gm rO,trivial⟩ (⟨B,hN.next o_,o_⟩) (by show (n-(k+1):Nat)<n-k;omega)
 . refine fP ab 18 ?_
   refine gZ (v:=(Zb e)) (v' := Zc) results239 rfl rfl ?_
   obtain rfl:k=n:=by omega
   obtain⟨rfl,rfl,rfl⟩:=hN.fin
   exact⟨e,(⟨g,j,l,List.range k,List.range k,List.replicate k 1,(k:Int),List.range k⟩:Ds),rfl,⟨rfl,rfl⟩,uE (yn (p:=Ds.ok k (⟨g,j,l,List.range k,List.range k,List.replicate k 1,(k:Int),List.range k⟩:Ds)) (yc [_,_,_,_] _ ab) (Ds.uk (kY o_))) s_⟩
theorem Ws(d:n<=65536) :
 CR ya 239 (Z2 n) w (fun r w' => ∃ (db:Nat) (s:Ds),r = .tuple (Zz db)/\s.lb=List.range n/\fV (gh []) w w' (Ds.R db n s)) :=
 CR.mono (Ol n w d) fun r w' ⟨db,s,a,b,c⟩=>⟨db,s,a,b.1,c⟩
theorem Vz(xs:List Ge)(w:World)(hv:gY 3 Ge.cells (fun _=>True) w v xs)(m:xs.length<=1000000) :
 CR ya 39 #[v] w (fun r w' => qy 3 Ge.cells w w' r 110 xs/\gx [] w w'):=by
 refine en func39 ntmps39 ?_
 have l:=yu w
 refine fR l 9 ?_
 refine CC (v:=v) rfl rfl rfl pQ hv (gF l 2 ?_)
 cases e:(wM v:Bool)
 . skip
   refine fR l 5 ?_
   refine jW (vs:=[]) (cs:=[]) rfl rfl pQ Du rfl (by intro v hv;simp at hv) rfl rfl rfl l ?_
   intro f g h i c
   have d:=c
   refine fK c 1 ?_
   refine lR (cf:=Ge.cells) (ys:=[]) (zs:=xs) (LL:=fun a=>[fL Ge.cells a 110 3 xs]) 0 rfl rfl rfl pQ Du rfl d_ d rfl (gY.src (yz d s_ d_ hv) f_) (xY f_ _) (by simp only[zk];omega) (by simp only[zk];omega) f_ (fun a j b k=>fP b 4 ?_)
   refine gf (v:=a) results39 rfl ?_
   exact⟨DE b s_,b.gA s_⟩
 . skip
   refine iT l 8 ?_
   refine gf (v:=Zi) results39 rfl ?_
   obtain rfl:=C1 e hv
   exact⟨qy.C0, l.gA s_⟩
def Gr.R(a n:Nat)(r:Gr)(es:List Ge):fT:=gh (H7 a r.ev r.sv r.lv es (Br n es) (Y8 n es))
theorem Xq(es:List Ge)(w:World)(hO:Own (xI v es) w)(hg:lQ n es)(hn:n<=65536)(hm:es.length<=65536) :
 CR ya 38 (uR n v) w (fun r w' => ∃ (gb:Nat) (q:Gr),r = .pointer (some ⟨gb,0,none⟩)/\fV (xI v es) w w' (Gr.R gb n q es)):=by
 refine en func38 ntmps38 ?_
 have ba:=yt hO
 refine rm ba 6 ?_
 refine yT mixed [0,1,2,4,5,6] [3,7] [(3,[5])] [8,9,10] ba (fun av o=>zJ ?_)
 refine fK o 2 ?_
 refine ar (e:=((n+1:Nat):Int)) rfl rfl rfl rfl je (fK o 1 ?_)
 refine iV (m:=es.length) 0 rfl rfl pQ o rfl (ar (e:=((2*es.length:Nat):Int)) rfl rfl rfl rfl je (fP o 1 ?_))
 refine pe trivial (zI [⟨3,17,[],[],Nat,fun j=>(Zd j (n+1)),fun j=>[blk j 3 ((List.replicate (n+1) 0).flatMap fU)]⟩,⟨7,21,[],[],Nat,fun d=>(Zd d (2*es.length)),fun d=>[blk d 3 ((List.replicate (2*es.length) 0).flatMap fU)]⟩] o ⟨nv (fun Z wq hM _=>lN (cf:=fU) (z0:=0) (m:=(n+1)) (c:=(n+1)) rfl rfl rfl yd gq rfl f_ d_ (zm _) o_ o_ hM (fun P _ _ _ h=>have hK:=h;nF ⟨P,rfl,hK,trivial⟩ (hc:=kZ rfl (qo (PL (m:=es.length) 1 rfl pQ hK rfl) rfl rfl) (trivial)))),nv (fun Z wq hM _=>lN (cf:=fU) (z0:=0) (m:=(2*es.length)) (c:=(2*es.length)) rfl rfl rfl yd gq rfl f_ d_ (zm _) o_ o_ hM (fun Q _ _ _ h=>have hK:=h;nF ⟨Q,rfl,hK,trivial⟩))⟩ ?_)
 rintro j d aw H
 refine iU (pvs:=[(1,v),(2,(Zd j (n+1))),(3,(Zd d (2*es.length)))]) (v:=.agg #[Zp,v,(Zd j (n+1)),(Zd d (2*es.length))]) rfl rfl (jj [(1,[v]),(2,(Z5 j (n+1))),(3,(Z5 d (2*es.length)))] SB abp rfl ⟨rfl,(cells_one (yv H (i:=2) rfl)),rfl,rfl,rfl,rfl,trivial⟩ rfl) (ir H (fun b I ax ay J=>?_))
 refine fP J 2 ?_
 have K:St _ [blk b 167 [(.pointer none),v,(.slice (some ⟨j,0,none⟩) (n+1) (n+1)),(.slice (some ⟨d,0,none⟩) (2*es.length) (2*es.length))],blk d 3 ((List.replicate (2*es.length) 0).flatMap fU),fL fU (.slice (some ⟨j,0,none⟩) (n+1) (n+1)) 3 1 (List.replicate (n+1) 0),fL Ge.cells v 110 3 es] I:=lZ (cf:=fU) J (i:=2) rfl f_ (zm _) (by simp only[maxLen];omega)
 generalize (Value.slice (some ⟨j,0,none⟩) (n+1) (n+1))=a at K ⊢
 have L:St _ [blk b 167 [(.pointer none),v,a,(.slice (some ⟨d,0,none⟩) (2*es.length) (2*es.length))],fL fU (.slice (some ⟨d,0,none⟩) (2*es.length) (2*es.length)) 3 1 (List.replicate (2*es.length) 0),fL fU a 3 1 (List.replicate (n+1) 0),fL Ge.cells v 110 3 es] I:=lZ (cf:=fU) K (i:=1) rfl f_ (zm _) (by simp only[maxLen];omega)
 generalize (Value.slice (some ⟨d,0,none⟩) (2*es.length) (2*es.length))=g at L ⊢
 refine RA tt none L 14 fun az x=>?_
 refine iV (m:=es.length) 3 rfl rfl pQ x rfl ?_
 have S:=yf [0,3,2,1] x
 have U:=yx 2 S rfl (congrArg (fL fU a 3 1) (adg))
 refine gF x 4 ?_
 refine lp (α:=Nat) (fun i=>[(0,(Za n)),(1,v),(4,Zp),(5,(Zb b)),(28,v),(29,(Za es.length)),(30,(Za i))]) (fun i w1=>St [(w,(xI v es).gJ)] (H7 b v a g es (oG n (ja (es.take i))) (List.replicate (2*es.length) 0)) w1/\i<=es.length) (fun i=>es.length-i) 0 ⟨rfl,rfl,rfl,rfl,rfl,rfl,gm rO,trivial⟩ (⟨U,o_⟩) ?_
 rintro i aA aB ⟨a3,hi⟩
 have bk:(ja (es.take i)).length<=2*i:=by rw[xU,k8];omega
 have bq:=wY (n:=n) (E:=ja (es.take i))
 refine fR a3 2 ?_
 by_cases aC:(i:Int)<(es.length:Int)
 . have a8:i<es.length:=by omega
   have a7:=hg.at a8
   have bo:=RL (E:=ja (es.take i)) (show (fJ es i).u+1<=n by omega)
   refine fK a3 13 ?_
   refine iR a3 (fun aD aE aF aG V=>?_)
   refine gC V 11 fun aH y=>?_
   refine ar (e:=((((fJ es i).u)+1:Nat):Int)) rfl rfl rfl rfl je (fK y 2 ?_)
   refine ar (e:=(((fJ (oG n (ja (es.take i))) (((fJ es i).u)+1))+1:Nat):Int)) rfl rfl rfl rfl je (fK y 1 ?_)
   refine iQ (f:=(fun _=>((fJ (oG n (ja (es.take i))) (((fJ es i).u)+1))+1))) 3 y (fun aI M=>?_)
   have W:=yx 3 M rfl (congrArg (fL fU a 3 1) (RK a7.1))
   have bb:=RL (E:=ja (es.take i)++[(fJ es i).u]) (show (fJ es i).v+1<=n by omega)
   refine gF M 2 ?_
   rw[zo,zX]at bb
   have bt:=wY (n:=n) (E:=ja (es.take i)++[(fJ es i).u])
   refine ry W 7 fun aJ A=>?_
   refine ar (e:=((((fJ es i).v)+1:Nat):Int)) rfl rfl rfl rfl je (fK A 2 ?_)
   refine ar (e:=(((fJ (oG n (ja (es.take i)++[(fJ es i).u])) (((fJ es i).v)+1))+1:Nat):Int)) rfl rfl rfl rfl je (fK A 1 ?_)
   refine iQ (f:=(fun _=>((fJ (oG n (ja (es.take i)++[(fJ es i).u])) (((fJ es i).v)+1))+1))) 3 A (fun aK N=>?_)
   refine fP N 7 ?_
   refine tN (?_)
   have X:=yf [1,2,3,4] N
   have Y:=yx 2 X rfl (congrArg (fL fU a 3 1) ((RK a7.2.1).trans (congrArg (oG n) (show ja (es.take i)++[(fJ es i).u]++[(fJ es i).v]=ja (es.take (i+1)) by rw[WH a8];simp))))
   exact again (i+1) ⟨rfl,rfl,rfl,rfl,rfl,rfl,gm rO,trivial⟩ (⟨Y,o_⟩) (by show (es.length-(i+1):Nat)<es.length-i;omega)
 . have bd:i=es.length:=by omega
   have bj:es.take i=es:=by rw[bd,vL]
   have aa:=yx 2 a3 rfl (congrArg (fL fU a 3 1) ((congrArg (fun z=>oG n (ja z)) bj).trans adi))
   refine gF a3 18 ?_
   refine lp (α:=Nat) (fun k=>[(0,(Za n)),(1,v),(4,Zp),(5,(Zb b)),(57,(Za n)),(58,(Za k))]) (fun k w1=>St [(w,(xI v es).gJ)] (H7 b v a g es (nh n (ja es) k) (List.replicate (2*es.length) 0)) w1/\k<=n) (fun k=>n-k) 0 ⟨rfl,rfl,rfl,rfl,rfl,gm rO,trivial⟩ (⟨aa,o_⟩) ?_
   rintro k aL ab ⟨a4,hk⟩
   have bl:=xU es
   have bu:=Gs (n:=n) (k:=k) (E:=ja es)
   refine fR a4 2 ?_
   by_cases aM:(k:Int)<(n:Int)
   . have be:k<n:=by omega
     have bn:=RM (E:=ja es) (k:=k) (show k+1<=n by omega)
     have bm:=RM (E:=ja es) (k:=k) (show k<=n by omega)
     refine gC a4 21 fun aN B=>?_
     refine ar (e:=((k+1:Nat):Int)) rfl rfl rfl rfl je (fK B 9 ?_)
     refine ar (e:=(((fJ (nh n (ja es) k) (k+1))+(fJ (nh n (ja es) k) k):Nat):Int)) rfl rfl rfl rfl je (fK B 1 ?_)
     refine iQ (f:=(fun _=>((fJ (nh n (ja es) k) (k+1))+(fJ (nh n (ja es) k) k)))) 2 B (fun aO O=>?_)
     refine fP O 7 ?_
     refine tN (?_)
     have ac:=yx 2 O rfl (congrArg (fL fU a 3 1) (adh be))
     exact again (k+1) ⟨rfl,rfl,rfl,rfl,rfl,gm rO,trivial⟩ (⟨ac,o_⟩) (by show (n-(k+1):Nat)<n-k;omega)
   . refine fK a4 16 ?_
     refine cl (IS a (nh n (ja es) k) ab (iN a4 2 rfl).any (by first|omega|(simp;omega))) ?_
     rintro l ad hz
     have p:St _ [fL fU l 3 1 (nh n (ja es) k),blk b 167 [(Zb b),v,a,g],fL Ge.cells v 110 3 es,fL fU a 3 1 (nh n (ja es) k),fL fU g 3 1 (List.replicate (2*es.length) 0)] ad:=zR a4 hz.2 hz.1
     refine fK p 7 ?_
     refine iV (m:=es.length) 2 rfl rfl pQ p rfl ?_
     have ae:=yf [1,2,3,4,0] p
     have a9:k=n:=by omega
     have af:=yx 2 ae rfl (congrArg (fL fU a 3 1) (congrArg (nh n (ja es)) a9))
     have ag:=yx 4 af rfl (congrArg (fL fU l 3 1) ((congrArg (nh n (ja es)) a9).trans aaQ))
     have ah:=yx 3 ag rfl (congrArg (fL fU g 3 1) (congrArg (fun z=>List.replicate z 0) (xU es).symm))
     refine gF p 4 ?_
     refine lp (α:=Nat) (fun F=>[(0,(Za n)),(4,Zp),(5,(Zb b)),(9,l),(84,v),(85,(Za es.length)),(86,(Za F))]) (fun F w1=>St [(w,(xI v es).gJ)] [blk b 167 [(Zb b),v,a,g],fL Ge.cells v 110 3 es,fL fU a 3 1 (Br n es),fL fU g 3 1 (q7 n (ja es) (2*F)),fL fU l 3 1 (o5 n (ja es) (2*F))] w1/\F<=es.length) (fun F=>es.length-F) 0 ⟨rfl,rfl,rfl,rfl,rfl,rfl,gm rO,trivial⟩ (⟨ah,o_⟩) ?_
     rintro F aP aQ ⟨a5,bp⟩
     have bg:=JT (n:=n) (E:=ja es) (2*F)
     have bs:=F3 (n:=n) (E:=ja es) (k:=2*F)
     rw[xU]at bg
     refine fR a5 2 ?_
     by_cases aR:(F:Int)<(es.length:Int)
     . have T:F<es.length:=by omega
       have a6:=hg.at T
       refine fK a5 14 ?_
       refine iR a5 (fun aS aT aU aV ai=>?_)
       refine gC ai 10 fun aW s=>?_
       refine iU (pvs:=[(0,(Za ((fJ es F).u:Int))),(1,(Za ((fJ es F).v:Int)))]) (v:=.agg (Z0 ((fJ es F).u:Int) ((fJ es F).v:Int))) rfl rfl (tY [(0,(Ze ((fJ es F).u:Int))),(1,(Ze ((fJ es F).v:Int)))] GH yq gq rfl ⟨rfl,rfl,rfl,rfl,trivial⟩ rfl s_) (gF s 4 ?_)
       refine qq 3 (iB (fR s 13 ?_))
       refine mw (i:=0) rfl rfl rfl yq yg rfl gq d_ rfl ?_
       have bi:=Qp a6.1 (AQ T).1
       refine gF s 4 ?_
       rw[xU]at bi
       refine ry s 11 fun aX aj=>?_
       refine iQ (f:=(fun _=>F)) 4 aj (fun aY C=>?_)
       refine fK C 7 ?_
       refine ar (e:=(((fJ (o5 n (ja es) (2*F)) ((fJ es F).u))+1:Nat):Int)) rfl rfl rfl rfl je (fK C 1 ?_)
       refine iQ (f:=(fun _=>((fJ (o5 n (ja es) (2*F)) ((fJ es F).u))+1))) 5 C (fun aZ t=>?_)
       refine fP t 7 ?_
       refine tN (?_)
       refine iB (fR t 13 ?_)
       refine mw (i:=1) rfl rfl rfl yq yg rfl gq d_ rfl ?_
       have ak:=yx 5 t rfl (congrArg (fL fU l 3 1) (Qq a6.1 (AQ T).1))
       have al:=yx 4 ak rfl (congrArg (fL fU g 3 1) ((Y9 T).symm))
       have bh:=Qp a6.2.1 (AQ T).2
       refine gF t 4 ?_
       rw[xU]at bh
       have bf:=JT (n:=n) (E:=ja es) (2*F+1)
       rw[xU]at bf
       have br:=F3 (n:=n) (E:=ja es) (k:=2*F+1)
       refine ry al 11 fun a0 am=>?_
       refine iQ (f:=(fun _=>F)) 4 am (fun a1 D=>?_)
       refine fK D 7 ?_
       refine ar (e:=(((fJ (o5 n (ja es) (2*F+1)) ((fJ es F).v))+1:Nat):Int)) rfl rfl rfl rfl je (fK D 1 ?_)
       refine iQ (f:=(fun _=>((fJ (o5 n (ja es) (2*F+1)) ((fJ es F).v))+1))) 5 D (fun a2 G=>?_)
       refine fP G 7 ?_
       refine tN (?_)
       refine iB (iT G 17 ?_)
       refine tN (?_)
       have an:=yf [1,2,3,4,5] G
       have ao:=yx 4 an rfl (congrArg (fL fU l 3 1) (Qq a6.2.1 (AQ T).2))
       have ap:=yx 3 ao rfl (congrArg (fL fU g 3 1) ((Zo T).symm))
       exact again (F+1) ⟨rfl,rfl,rfl,rfl,rfl,rfl,gm rO,trivial⟩ (⟨ap,o_⟩) (by show (es.length-(F+1):Nat)<es.length-F;omega)
     . refine fP a5 17 ?_
       refine gf (v:=(Zb b)) results38 rfl ?_
       have aq:=yf [0,1,2,3] a5
       have bc:F=es.length:=by omega
       have au:=yx 3 aq rfl (congrArg (fL fU g 3 1) (congrArg (fun z=>q7 n (ja es) (2*z)) bc))
       exact⟨b,(⟨v,a,g⟩:Gr),rfl,yj (yc [_,_,_,_] _ au)⟩
theorem Fm(es:List Ge)(w:World)(hv:gY 3 Ge.cells (fun _=>True) w v es)(F:lQ n es)(L:n<=4096)(hm:es.length<=16384) :
 CR ya 8 (uR n v) w (fun r w' => ∃ (E:Nat) (q:Gr),r = .tuple (Zz E)/\fV (gh []) w w' (Gr.R E n q es)):=by
 refine enter (vs:=[(Za n),v]) func8 rfl ntmps8 rfl ?_
 have B:=yu w
 refine fR B 10 ?_
 refine cmp (a:=(n:Int)) (b:=0) rfl rfl rfl (kG o_) (fK B 2 ?_)
 refine cmp (a:=(n:Int)) (b:=4096) rfl rfl rfl (nN o_) (fK B 3 ?_)
 refine jY (v:=v) rfl rfl pQ hv (cmp (a:=(es.length:Int)) (b:=16384) rfl rfl rfl (nN o_) (fK B 10 ?_))
 refine jY (v:=v) rfl rfl pQ hv (gF B 4 ?_)
 refine lp (α:=Nat) (fun i=>[(0,(Za n)),(1,v),(4,Zp),(5,Zc),(19,v),(20,(Za es.length)),(21,(Za i))]) (fun i w1=>St [(w,[])] [] w1/\i<=es.length) (fun i=>es.length-i) 0 ⟨rfl,rfl,rfl,rfl,rfl,rfl,gm (by first|rfl|omega),trivial⟩ (⟨B,o_⟩) ?_
 rintro i p k ⟨C,hi⟩
 refine fR C 2 ?_
 by_cases s:(i:Int)<(es.length:Int)
 . obtain⟨el,H⟩:=oW (show i<es.length by omega)
   have D:=F _ (ze H)
   have I:=D.1
   have J:=D.2.1
   have K:=D.2.2
   refine fK C 13 ?_
   refine iR C (fun t x y z l=>?_)
   refine gC l 8 fun A c=>?_
   refine cmp (a:=(el.u:Int)) (b:=0) rfl rfl rfl (kG o_) (fK c 4 ?_)
   refine cmp (a:=(el.u:Int)) (b:=(n:Int)) rfl rfl rfl (oS o_) (fK c 4 ?_)
   refine cmp (a:=(el.v:Int)) (b:=0) rfl rfl rfl (kG o_) (fK c 5 ?_)
   refine cmp (a:=(el.v:Int)) (b:=(n:Int)) rfl rfl rfl (oS o_) (fK c 12 ?_)
   refine cmp (a:=(el.u:Int)) (b:=(el.v:Int)) rfl rfl rfl (tv o_) (fP c 10 ?_)
   refine tN (?_)
   have m:=St.sub (L' := []) c (List.Sublist.cons _ (List.Sublist.refl _))
   exact again (i+1) ⟨rfl,rfl,rfl,rfl,rfl,rfl,gm (by first|rfl|omega),trivial⟩ (⟨m,o_⟩) (by show (es.length-(i+1):Nat)<es.length-i;omega)
 . refine fK C 14 ?_
   refine jw (vl:=[v]) rfl rfl eN (Vz v es k ((yz C s_ d_ hv)).any (by first|omega|(simp;omega))) ?_
   rintro f g G
   have h:St _ [fL Ge.cells f 110 3 es] g:=zR C G.2 G.1
   refine jw (vl:=[(Za n),f]) rfl rfl eN (Xq f n es g (kU h (i:=0) rfl) F o_ o_) ?_
   rintro _ o ⟨d,e,rfl,ht⟩
   have j:St _ [(Gr.R d n e es)] o:=l7 (R' := (Gr.R d n e es)) 0 h rfl ht rfl
   refine fP j 5 ?_
   refine gZ (v:=(Zb d)) (v' := Zc) results8 rfl rfl ?_
   exact⟨d,e,rfl,uE (R:=(Gr.R d n e es)) j s_⟩
theorem BT.one(t:BT):t.ptr.oneCell' = true:=by cases t<;>rfl
theorem BT.F4{t:BT}(h:0<t.ht):∃ b l x k r,t=BT.nd b l x k r:=by
 rcases t with _|⟨b,l,x,k,r⟩
 . exact absurd h d_
 . exact⟨b,l,x,k,r,rfl⟩
theorem r6(t:BT)(w:World)(o:Own (gD 422 t) w) :
 CR ya 331 #[t.ptr] w (fun r w' => r = .tuple (s9 t.sz t.dc t.ht)/\fV (gD 422 t) w w' (gD 422 t)):=by
 refine en func331 ntmps331 ?_
 have n:=yt o
 refine fR n 10 ?_
 refine mv (v:=t.ptr) rfl rfl ?_
 obtain⟨f,e⟩:∃ q,t=q:=⟨_,rfl⟩
 rcases f with _|⟨g,b,l,h,d⟩
 . skip
   subst e
   refine mc (a:=none) (c:=true) rfl rfl rfl nj rfl (fP n 12 ?_)
   refine rq (v:=Zc) (v' := Zc) (v'' := Zc) results331 rfl rfl rfl ?_
   exact⟨rfl,yj n⟩
 . skip
   subst e
   have i:=pR n
   refine mc (a:=some ⟨g,0,none⟩) (c:=false) rfl rfl rfl nj rfl (jH i 25 fun m j=>?_)
   refine rq (v:=(Za ((h+b.sz+d.sz:Nat):Int))) (v' := (Za ((1+b.dc+d.dc:Nat):Int))) (v'' := (Za ((max b.ht d.ht+1:Nat):Int))) results331 rfl rfl rfl ?_
   have k:=sL j
   exact⟨rfl,yj k⟩
theorem AI(t:Nat)(s3 s1 s2:Value)(w:World)(I:Own (EF b l.ptr r.ptr x t s3 s1 s2 (gD 422 l) (gD 422 r)) w)(hs:t+l.sz+r.sz<=1000000)(hd:1+l.dc+r.dc<=1000000) :
 CR ya 332 (Zh b) w (fun L w' => L = .tuple #[]/\fV (EF b l.ptr r.ptr x t s3 s1 s2 (gD 422 l) (gD 422 r)) w w' (gD 422 (.nd b l x t r))):=by
 refine en func332 ntmps332 ?_
 have K:=Own.of I
 have M:=l.AY
 have N:=r.AY
 refine sPP K 31 fun k d=>?_
 refine qq 3 (iB (fR d 13 ?_))
 refine mw (i:=0) rfl rfl rfl yp nj rfl jJ d_ rfl (kM (v:=l.ptr) rfl rfl (fK d 4 ?_))
 refine mv (v:=l.ptr) rfl rfl (cl (r6 l k (ye d 1 rfl)) ?_)
 rintro _ z ⟨rfl,ht⟩
 have g:=yh 1 d ht
 refine fK g 16 ?_
 refine ar (e:=((t+l.sz:Nat):Int)) rfl rfl rfl rfl ((kP o_).trans o_) (gC g 12 fun A m=>?_)
 refine ar (e:=((1+l.dc:Nat):Int)) rfl rfl rfl rfl ((kP o_).trans o_) (gC m 12 fun B n=>?_)
 refine max2 (a:=0) (b:=(l.ht:Int)) (c:=((max 0 l.ht:Nat):Int)) rfl rfl rfl o_ (jH n 10 fun o f=>?_)
 refine tN (?_)
 refine iB (fR f 13 ?_)
 refine mw (i:=1) rfl rfl rfl yp nj rfl jJ d_ rfl (kM (v:=r.ptr) rfl rfl (fK f 4 ?_))
 refine mv (v:=r.ptr) rfl rfl (cl (r6 r o (ye f 2 rfl)) ?_)
 rintro _ C ⟨rfl,ht⟩
 have h:=yh 2 f ht
 refine fK h 16 ?_
 refine ar (e:=(((t+l.sz)+r.sz:Nat):Int)) rfl rfl rfl rfl ((kP o_).trans o_) (gC h 12 fun D p=>?_)
 refine ar (e:=(((1+l.dc)+r.dc:Nat):Int)) rfl rfl rfl rfl ((kP o_).trans o_) (gC p 12 fun E q=>?_)
 refine max2 (a:=((max 0 l.ht:Nat):Int)) (b:=(r.ht:Int)) (c:=((max (max 0 l.ht) r.ht:Nat):Int)) rfl rfl rfl o_ (jH q 10 fun G j=>?_)
 refine tN (?_)
 refine iB (fR j 17 ?_)
 refine ar (e:=(((max (max 0 l.ht) r.ht)+1:Nat):Int)) rfl rfl rfl rfl ((kP o_).trans o_) (jH j 4 fun H s=>?_)
 refine jc results332 ?_
 have J:max (max 0 l.ht) r.ht+1=max l.ht r.ht+1:=by omega
 have F:=s
 rw[J]at F
 have u:=F
 have y:=sL u
 exact⟨rfl,yj y⟩
theorem Iw(c:Nat)(l m r:BT)(x y:Int)(t u:Nat)(s3 s1 s2 D E F:Value)(w:World)(H:Own (MO b c r.ptr x t s3 s1 s2 l.ptr m.ptr y u D E F (gD 422 l) (gD 422 m) (gD 422 r)) w)(hs:t+u+l.sz+m.sz+r.sz<=1000000)(hd:2+l.dc+m.dc+r.dc<=1000000) :
 CR ya 354 (Zz b) w (fun I w' => I = .pointer (some ⟨c,0,none⟩)/\fV (MO b c r.ptr x t s3 s1 s2 l.ptr m.ptr y u D E F (gD 422 l) (gD 422 m) (gD 422 r)) w w' (gD 422 (BT.nd c l y u (BT.nd b m x t r)))):=by
 refine en func354 ntmps354 ?_
 have G:=Own.of H
 refine fR G 11 ?_
 refine ic (o:=0) (o' := 0) (i:=0) rfl rfl rfl yp jJ d_ rfl (gC G 13 fun A a=>?_)
 refine ic (o:=0) (o' := 1) (i:=1) rfl rfl rfl yp jJ d_ rfl (fK a 3 ?_)
 refine ic (o:=0) (o' := 0) (i:=0) rfl rfl rfl yp jJ d_ rfl (jt 0 a (fun B d=>?_) (hvs:=(cells_one (BT.one _))) (h1:=(gX (BT.one _) jV)))
 refine fK d 10 ?_
 refine ic (o:=0) (o' := 1) (i:=1) rfl rfl rfl yp jJ d_ rfl (gC d 6 fun j k=>?_)
 have n:=yf [0,3,4,1,2] k
 have e:=yc [_,_,_] _ n
 refine cl (AI b m r x t s3 s1 s2 j (ye e 0 rfl) (by(try simp only[BT.sz,BT.dc]);omega) (by(try simp only[BT.sz,BT.dc]);omega)) ?_
 rintro _ p ⟨rfl,q⟩
 have f:=(yh 0 e q)
 have s:=yf [1,2,0] f
 have g:=yc [_,_,_] _ s
 refine fK f 5 ?_
 refine cl (AI c l (BT.nd b m x t r) y u D E F p (ye g 0 rfl) (by(try simp only[BT.sz,BT.dc]);omega) (by(try simp only[BT.sz,BT.dc]);omega)) ?_
 rintro _ C ⟨rfl,z⟩
 have h:=(yh 0 g z)
 refine fP h 9 ?_
 refine gf (v:=(Zb c)) results354 rfl ?_
 exact⟨rfl,yj h⟩
theorem Ix(c:Nat)(l m r:BT)(x y:Int)(t u:Nat)(s3 s1 s2 D E F:Value)(w:World)(H:Own (MP b r.ptr c x t s3 s1 s2 l.ptr m.ptr y u D E F (gD 422 l) (gD 422 m) (gD 422 r)) w)(hs:t+u+l.sz+m.sz+r.sz<=1000000)(hd:2+l.dc+m.dc+r.dc<=1000000) :
 CR ya 354 #[(Zb b),pZ] w (fun I w' => I = .pointer (some ⟨c,0,none⟩)/\fV (MP b r.ptr c x t s3 s1 s2 l.ptr m.ptr y u D E F (gD 422 l) (gD 422 m) (gD 422 r)) w w' (gD 422 (BT.nd c (BT.nd b r x t l) y u m))):=by
 refine en func354 ntmps354 ?_
 have G:=Own.of H
 refine fR G 11 ?_
 refine ic (o:=0) (o' := 1) (i:=1) rfl rfl rfl yp jJ d_ rfl (gC G 13 fun A a=>?_)
 refine ic (o:=0) (o' := 0) (i:=0) rfl rfl rfl yp jJ d_ rfl (fK a 3 ?_)
 refine ic (o:=0) (o' := 1) (i:=1) rfl rfl rfl yp jJ d_ rfl (jt 0 a (fun B d=>?_) (hvs:=(cells_one (BT.one _))) (h1:=(gX (BT.one _) jV)))
 refine fK d 10 ?_
 refine ic (o:=0) (o' := 0) (i:=0) rfl rfl rfl yp jJ d_ rfl (gC d 6 fun j k=>?_)
 have n:=yf [0,4,2,1,3] k
 have e:=yc [_,_,_] _ n
 refine cl (AI b r l x t s3 s1 s2 j (ye e 0 rfl) (by(try simp only[BT.sz,BT.dc]);omega) (by(try simp only[BT.sz,BT.dc]);omega)) ?_
 rintro _ p ⟨rfl,q⟩
 have f:=(yh 0 e q)
 have s:=yf [1,0,2] f
 have g:=yc [_,_,_] _ s
 refine fK f 5 ?_
 refine cl (AI c (BT.nd b r x t l) m y u D E F p (ye g 0 rfl) (by(try simp only[BT.sz,BT.dc]);omega) (by(try simp only[BT.sz,BT.dc]);omega)) ?_
 rintro _ C ⟨rfl,z⟩
 have h:=(yh 0 g z)
 refine fP h 9 ?_
 refine gf (v:=(Zb c)) results354 rfl ?_
 exact⟨rfl,yj h⟩
theorem we(t:Nat)(s3 s1 s2:Value)(w:World)(hO:Own (EF b l.ptr r.ptr x t s3 s1 s2 (gD 422 l) (gD 422 r)) w)(hs:t+l.sz+r.sz<=1000000)(hd:1+l.dc+r.dc<=1000000) :
 CR ya 334 (Zh b) w (fun r' w' => ∃ T:BT,r' = T.ptr/\T.kv=l.kv++(x,t) :: r.kv/\fV (EF b l.ptr r.ptr x t s3 s1 s2 (gD 422 l) (gD 422 r)) w w' (gD 422 T)):=by
 refine en func334 ntmps334 ?_
 have F:=Own.of hO
 have a1:=l.AY
 have a2:=r.AY
 refine rm F 12 ?_
 refine qq 3 (iB (fR F 23 ?_))
 refine ic (o:=0) (o' := 0) (i:=0) rfl rfl rfl yp jJ d_ rfl (fK F 1 ?_)
 refine kM (v:=l.ptr) rfl rfl (fK F 4 ?_)
 refine mv (v:=l.ptr) rfl rfl (cl (r6 l w (ye F 1 rfl)) ?_)
 rintro _ af ⟨rfl,ht⟩
 have I:=yh 1 F ht
 refine fK I 16 ?_
 refine ic (o:=0) (o' := 1) (i:=1) rfl rfl rfl yp jJ d_ rfl (fK I 1 ?_)
 refine cl (r6 r af (ye I 2 rfl)) ?_
 rintro _ O ⟨rfl,ht⟩
 have k:=yh 2 I ht
 refine fK k 15 ?_
 by_cases aQ:(l.ht:Int)<=((r.ht:Int)+1:Int)
 . refine fP k 12 ?_
   refine tN (?_)
   refine iB (fR k 23 ?_)
   refine ic (o:=0) (o' := 1) (i:=1) rfl rfl rfl yp jJ d_ rfl (fK k 1 ?_)
   refine kM (v:=r.ptr) rfl rfl (fK k 4 ?_)
   refine mv (v:=r.ptr) rfl rfl (cl (r6 r O (ye k 2 rfl)) ?_)
   rintro _ ag ⟨rfl,ht⟩
   have J:=yh 2 k ht
   refine fK J 16 ?_
   refine ic (o:=0) (o' := 0) (i:=0) rfl rfl rfl yp jJ d_ rfl (fK J 1 ?_)
   refine cl (r6 l ag (ye J 1 rfl)) ?_
   rintro _ P ⟨rfl,ht⟩
   have C:=yh 1 J ht
   refine fK C 15 ?_
   by_cases aR:(r.ht:Int)<=((l.ht:Int)+1:Int)
   . refine fP C 12 ?_
     refine tN (?_)
     refine iB ?_
     have Q:=yc [_,_,_] _ C
     refine fR C 15 ?_
     refine cl (AI b l r x t s3 s1 s2 P (ye Q 0 rfl) (by(try simp only[BT.sz,BT.dc]);omega) (by(try simp only[BT.sz,BT.dc]);omega)) ?_
     rintro _ aS ⟨rfl,ah⟩
     have R:=(yh 0 Q ah)
     refine fP R 9 ?_
     refine gf (v:=(Zb b)) DI rfl ?_
     exact⟨(BT.nd b l x t r),rfl,by simp only[BT.kv,z7,nH,pg],yj R⟩
   . obtain⟨m,p,q,h,a,rfl⟩:=BT.F4 (show 0<r.ht by omega)
     have ai:=yf [2,0,1] C
     have K:=pR ai
     refine fK C 8 ?_
     (try simp only[BT.sz,BT.dc]at hs hd)
     refine fK K 5 ?_
     refine ic (o:=0) (o' := 0) (i:=0) rfl rfl rfl yp jJ d_ rfl (fK K 1 ?_)
     refine cl (r6 p P (ye K 1 rfl)) ?_
     rintro _ aj ⟨rfl,ht⟩
     have L:=yh 1 K ht
     refine fK L 15 ?_
     refine ic (o:=0) (o' := 1) (i:=1) rfl rfl rfl yp jJ d_ rfl (fK L 1 ?_)
     refine cl (r6 a aj (ye L 2 rfl)) ?_
     rintro _ ak ⟨rfl,ht⟩
     have G:=yh 2 L ht
     refine fK G 14 ?_
     by_cases aT:(p.ht:Int)>(a.ht:Int)
     . obtain⟨A,d,D,s,e,rfl⟩:=BT.F4 (show 0<p.ht by omega)
       have al:=yf [1,0,2,3,4] G
       have am:=pR al
       refine fK G 1 ?_
       (try simp only[BT.sz,BT.dc]at hs hd)
       refine gC am 9 fun an ao=>?_
       have ap:=yf [3,0,1,2,4,5,6] ao
       have S:=yc [_,_,_,_,_] _ ap
       refine cl (Iw m A d e a q D h s (Za ((h+(BT.nd A d D s e).sz+a.sz:Nat):Int)) (Za ((1+(BT.nd A d D s e).dc+a.dc:Nat):Int)) (Za ((max (BT.nd A d D s e).ht a.ht+1:Nat):Int)) (Za ((s+d.sz+e.sz:Nat):Int)) (Za ((1+d.dc+e.dc:Nat):Int)) (Za ((max d.ht e.ht+1:Nat):Int)) an (ye S 0 rfl) (by(try simp only[BT.sz,BT.dc]);omega) (by(try simp only[BT.sz,BT.dc]);omega)) ?_
       rintro _ aU ⟨rfl,aq⟩
       have U:=(yh 0 S aq)
       refine fK U 2 ?_
       refine ic (o:=0) (o' := 1) (i:=1) rfl rfl rfl yp jJ d_ rfl (gC U 7 fun ar au=>?_)
       have av:=pR au
       have aw:=yf [3,0,1,2,4] av
       have V:=yc [_,_,_,_,_] _ aw
       refine cl (Ix b A d (BT.nd m e q h a) l x D t s s3 s1 s2 (Za ((s+d.sz+(BT.nd m e q h a).sz:Nat):Int)) (Za ((1+d.dc+(BT.nd m e q h a).dc:Nat):Int)) (Za ((max d.ht (BT.nd m e q h a).ht+1:Nat):Int)) ar (ye V 0 rfl) (by(try simp only[BT.sz,BT.dc]);omega) (by(try simp only[BT.sz,BT.dc]);omega)) ?_
       rintro _ aV ⟨rfl,ax⟩
       have W:=(yh 0 V ax)
       refine fP W 9 ?_
       refine gf (v:=(Zb A)) DI rfl ?_
       exact⟨(BT.nd A (BT.nd b l x t d) D s (BT.nd m e q h a)),rfl,by simp only[BT.kv,z7,nH,pg],yj W⟩
     . skip
       have ay:=yf [3,0,1,2,4] G
       have X:=yc [_,_,_,_,_] _ ay
       refine fK G 10 ?_
       refine cl (Ix b m p a l x q t h s3 s1 s2 (Za ((h+p.sz+a.sz:Nat):Int)) (Za ((1+p.dc+a.dc:Nat):Int)) (Za ((max p.ht a.ht+1:Nat):Int)) ak (ye X 0 rfl) (by(try simp only[BT.sz,BT.dc]);omega) (by(try simp only[BT.sz,BT.dc]);omega)) ?_
       rintro _ aW ⟨rfl,az⟩
       have Y:=(yh 0 X az)
       refine fP Y 9 ?_
       refine gf (v:=(Zb m)) DI rfl ?_
       exact⟨(BT.nd m (BT.nd b l x t p) q h a),rfl,by simp only[BT.kv,z7,nH,pg],yj Y⟩
 . obtain⟨n,c,u,j,y,rfl⟩:=BT.F4 (show 0<l.ht by omega)
   have aA:=yf [1,0,2] k
   have M:=pR aA
   refine fK k 8 ?_
   (try simp only[BT.sz,BT.dc]at hs hd)
   refine fK M 5 ?_
   refine ic (o:=0) (o' := 1) (i:=1) rfl rfl rfl yp jJ d_ rfl (fK M 1 ?_)
   refine cl (r6 y O (ye M 2 rfl)) ?_
   rintro _ aB ⟨rfl,ht⟩
   have N:=yh 2 M ht
   refine fK N 15 ?_
   refine ic (o:=0) (o' := 0) (i:=0) rfl rfl rfl yp jJ d_ rfl (fK N 1 ?_)
   refine cl (r6 c aB (ye N 1 rfl)) ?_
   rintro _ aC ⟨rfl,ht⟩
   have H:=yh 1 N ht
   refine fK H 14 ?_
   by_cases aX:(y.ht:Int)>(c.ht:Int)
   . obtain⟨B,f,E,z,g,rfl⟩:=BT.F4 (show 0<y.ht by omega)
     have aD:=yf [2,0,1,3,4] H
     have aE:=pR aD
     refine fK H 1 ?_
     (try simp only[BT.sz,BT.dc]at hs hd)
     refine gC aE 9 fun aF aG=>?_
     have aH:=yf [3,0,1,2,4,5,6] aG
     have Z:=yc [_,_,_,_,_] _ aH
     refine cl (Ix n B f g c u E j z (Za ((j+c.sz+(BT.nd B f E z g).sz:Nat):Int)) (Za ((1+c.dc+(BT.nd B f E z g).dc:Nat):Int)) (Za ((max c.ht (BT.nd B f E z g).ht+1:Nat):Int)) (Za ((z+f.sz+g.sz:Nat):Int)) (Za ((1+f.dc+g.dc:Nat):Int)) (Za ((max f.ht g.ht+1:Nat):Int)) aF (ye Z 0 rfl) (by(try simp only[BT.sz,BT.dc]);omega) (by(try simp only[BT.sz,BT.dc]);omega)) ?_
     rintro _ aY ⟨rfl,aI⟩
     have aa:=(yh 0 Z aI)
     refine fK aa 2 ?_
     refine ic (o:=0) (o' := 0) (i:=0) rfl rfl rfl yp jJ d_ rfl (gC aa 7 fun aJ aK=>?_)
     have aL:=pR aK
     have aM:=yf [3,0,1,2,4] aL
     have ab:=yc [_,_,_,_,_] _ aM
     refine cl (Iw b B (BT.nd n c u j f) g r x E t z s3 s1 s2 (Za ((z+(BT.nd n c u j f).sz+g.sz:Nat):Int)) (Za ((1+(BT.nd n c u j f).dc+g.dc:Nat):Int)) (Za ((max (BT.nd n c u j f).ht g.ht+1:Nat):Int)) aJ (ye ab 0 rfl) (by(try simp only[BT.sz,BT.dc]);omega) (by(try simp only[BT.sz,BT.dc]);omega)) ?_
     rintro _ aZ ⟨rfl,aN⟩
     have ac:=(yh 0 ab aN)
     refine fP ac 9 ?_
     refine gf (v:=(Zb B)) DI rfl ?_
     exact⟨(BT.nd B (BT.nd n c u j f) E z (BT.nd b g x t r)),rfl,by simp only[BT.kv,z7,nH,pg],yj ac⟩
   . skip
     have aO:=yf [3,0,1,2,4] H
     have ad:=yc [_,_,_,_,_] _ aO
     refine fK H 10 ?_
     refine cl (Iw b n c y r x u t j s3 s1 s2 (Za ((j+c.sz+y.sz:Nat):Int)) (Za ((1+c.dc+y.dc:Nat):Int)) (Za ((max c.ht y.ht+1:Nat):Int)) aC (ye ad 0 rfl) (by(try simp only[BT.sz,BT.dc]);omega) (by(try simp only[BT.sz,BT.dc]);omega)) ?_
     rintro _ a0 ⟨rfl,aP⟩
     have ae:=(yh 0 ad aP)
     refine fP ae 9 ?_
     refine gf (v:=(Zb n)) DI rfl ?_
     exact⟨(BT.nd n c u j (BT.nd b y x t r)),rfl,by simp only[BT.kv,z7,nH,pg],yj ae⟩
def Eb(s:BT)(w:World)(r:Value)(w' : World):Prop:=∃ (b0:Nat) (c:Int) (b:Nat) (d e s1 s2 s3:Value) (a:BT),r = .tuple (vR b0 a.ptr)/\s.kv=(c,b) :: a.kv/\fV (gD 422 s) w w' (gh [blk b0 422 [d,e,.int .i64 c,.int .i64 (b:Int),s1,s2,s3],gD 422 a])
def vQ(f:Nat->Nat)(x:Int)(b:Nat)(t:BT)(w:World)(r:Value)(w' : World):Prop:=∃ a:BT,r=a.ptr/\a.kv=jO f x t.kv/\fV (tT (gD 422 t) b) w w' (tT (gD 422 a) b)
theorem Pr{s t:BT}{b:Int}{a:Nat}(h:s.kv=(b,a) :: t.kv):s.sz=a+t.sz/\s.dc=1+t.dc:=by
 rw[s.k6,s.xR,t.k6,t.xR,h]
 exact⟨rfl,Nat.add_comm _ _⟩
theorem BT.of_lt{t:BT}(h:0<t.dc):∃ b l x k r,t=BT.nd b l x k r:=by
 rcases t with _|⟨b,l,x,k,r⟩
 . exact absurd h d_
 . exact⟨b,l,x,k,r,rfl⟩
theorem UF(t:Nat)(w:World)(Y:Own (gD 422 (BT.nd b l x t r)) w)(hs:(BT.nd b l x t r).sz<=1000000)(hd:(BT.nd b l x t r).dc<=1000000)(ih:∀ (b2:Nat) (F S:BT) (T:Int) (t2:Nat) (U:World),Own (gD 422 (BT.nd b2 F T t2 S)) U->(BT.nd b2 F T t2 S).sz<=1000000->(BT.nd b2 F T t2 S).dc<=1000000->(BT.nd b2 F T t2 S).dc<(BT.nd b l x t r).dc->CR ya 353 (Zh b2) U (Eb (BT.nd b2 F T t2 S) U)) :
 CR ya 353 (Zh b) w (Eb (BT.nd b l x t r) w):=by
 refine en func353 ntmps353 ?_
 have ab:=yt Y
 have e:=pR ab
 have X:=hs
 have W:=hd
 simp only[BT.sz,BT.dc]at X W
 refine fR e 12 ?_
 refine ic (o:=0) (o' := 0) (i:=0) rfl rfl rfl yp jJ d_ rfl ?_
 obtain⟨C,s⟩:∃ q,l=q:=⟨_,rfl⟩
 refine fK e 1 ?_
 rcases C with _|⟨d,f,g,h,j⟩
 . skip
   subst s
   refine mc (a:=none) (c:=true) rfl rfl rfl nj rfl (gC e 9 fun P k=>?_)
   refine ic (o:=0) (o' := 1) (i:=1) rfl rfl rfl yp jJ d_ rfl (fK k 2 ?_)
   refine kM (v:=r.ptr) rfl rfl (fP k 4 ?_)
   refine gZ (v:=(Zb b)) (v' := r.ptr) results353 rfl rfl ?_
   have D:=yf [1,0,2] k
   have E:=St.U7 D
   exact⟨b,x,t,_,_,_,_,_,r,rfl,rfl,yj (yc [_,_] _ E)⟩
 . skip
   subst s
   have G:=yf [1,0,2] e
   have H:=pR G
   (try simp only[BT.sz,BT.dc]at X W)
   refine mc (a:=some ⟨d,0,none⟩) (c:=false) rfl rfl rfl nj rfl (gC H 11 fun I u=>?_)
   refine ic (o:=0) (o' := 0) (i:=0) rfl rfl rfl yp jJ d_ rfl ?_
   have y:=sL u
   refine fK u 1 ?_
   refine cl (ih d f j g h I (ye y 0 rfl) (by(try simp only[BT.sz,BT.dc]);omega) (by(try simp only[BT.sz,BT.dc]);omega) (by simp only[BT.dc];omega)) ?_
   rintro _ Q ⟨V,ad,ac,ae,af,ag,ah,ai,J,rfl,z,ht⟩
   have A:=yy (yh 0 y ht)
   refine fK A 6 ?_
   refine ic (o:=0) (o' := 0) (i:=0) rfl rfl rfl yp jJ d_ rfl (jt 2 A (fun K m=>?_) (hvs:=(cells_one (BT.one _))) (h1:=(gX (BT.one _) jV)))
   obtain⟨aa,Z⟩:=Pr z
   refine fK m 4 ?_
   (try simp only[BT.sz,BT.dc]at aa Z)
   have L:=yf [2,1,3,0] m
   have B:=yc [_,_,_] _ L
   refine fK m 2 ?_
   refine cl (we b J r x t (Za ((t+(BT.nd d f g h j).sz+r.sz:Nat):Int)) (Za ((1+(BT.nd d f g h j).dc+r.dc:Nat):Int)) (Za ((max (BT.nd d f g h j).ht r.ht+1:Nat):Int)) K (ye B 0 rfl) (by(try simp only[BT.sz,BT.dc]);omega) (by(try simp only[BT.sz,BT.dc]);omega)) ?_
   rintro _ R ⟨n,rfl,M,N⟩
   have p:=(yh 0 B N)
   refine fK p 1 ?_
   refine kM (v:=n.ptr) rfl rfl (fP p 3 ?_)
   refine gZ (v:=(Zb V)) (v' := n.ptr) results353 rfl rfl ?_
   have O:=yf [1,0] p
   exact⟨V,ad,ac,_,_,_,_,_,n,rfl,by rw[M,BT.kv,z];rfl,yj (yc [_,_] _ O)⟩
theorem UE(s:BT)(w:World)(a:Own (gD 422 s) w)(hs:s.sz<=1000000)(hd:s.dc<=1000000)(c:0<s.dc):CR ya 353 #[s.ptr] w (Eb s w):=by
 have key:∀ (n:Nat) (b:Nat) (l r:BT) (x:Int) (t:Nat) (w:World),Own (gD 422 (BT.nd b l x t r)) w->(BT.nd b l x t r).sz<=1000000->(BT.nd b l x t r).dc<=1000000->(BT.nd b l x t r).dc<n->CR ya 353 (Zh b) w (Eb (BT.nd b l x t r) w):=by
  intro n
  induction n with
  | zero=>exact fun _ _ _ _ _ _ _ _ _ h=>absurd h (BW _)
  | succ n g=>exact fun b l r x t w a hs hd p=>UF b l r x t w a hs hd fun b2 i j o k m d f e q=>g b2 i j o k m d f e o_
 obtain⟨b,l,x,t,r,rfl⟩:=BT.of_lt c
 exact key _ b l r x t w a hs hd (BV _)
theorem UX(a c:BT)(w:World)(U:Own (gh [gD 422 a,gD 422 c]) w)(hs:a.sz+c.sz<=1000000)(hd:a.dc+c.dc<=1000000) :
 CR ya 333 #[a.ptr,c.ptr] w (fun X w' => ∃ Q:BT,X = Q.ptr/\Q.kv=a.kv++c.kv/\fV (gh [gD 422 a,gD 422 c]) w w' (gD 422 Q)):=by
 refine en func333 ntmps333 ?_
 have F:=Own.of U
 have S:=hs
 have R:=hd
 refine fR F 8 ?_
 refine mv (v:=a.ptr) rfl rfl ?_
 obtain⟨x,h⟩:∃ q,a=q:=⟨_,rfl⟩
 rcases x with _|⟨b,i,j,k,l⟩
 . skip
   subst h
   refine mc (a:=none) (c:=true) rfl rfl rfl nj rfl (fK F 5 ?_)
   refine mv (v:=c.ptr) rfl rfl (kM (v:=c.ptr) rfl rfl (fP F 4 ?_))
   refine gf (v:=c.ptr) results333 rfl ?_
   have y:=yf [1] F
   exact⟨c,rfl,by simp only[BT.kv,rJ,pg],yj y⟩
 . skip
   subst h
   have f:=pR F
   (try simp only[BT.sz,BT.dc]at S R)
   refine mc (a:=some ⟨b,0,none⟩) (c:=false) rfl rfl rfl nj rfl (fK f 8 ?_)
   refine mv (v:=c.ptr) rfl rfl ?_
   obtain⟨z,m⟩:∃ q,c=q:=⟨_,rfl⟩
   rcases z with _|⟨n,A,B,C,D⟩
   . skip
     subst m
     refine mc (a:=none) (c:=true) rfl rfl rfl nj rfl (fP f 11 ?_)
     refine gf (v:=(Zb b)) results333 rfl ?_
     have E:=sL f
     have G:=yf [0] E
     exact⟨(BT.nd b i j k l),rfl,by simp only[BT.kv,rJ,pg],yj G⟩
   . skip
     subst m
     have H:=yf [3,0,1,2] f
     have o:=pR H
     (try simp only[BT.sz,BT.dc]at S R)
     refine mc (a:=some ⟨n,0,none⟩) (c:=false) rfl rfl rfl nj rfl ?_
     have p:=sL o
     refine fK o 8 ?_
     refine cl (UE (BT.nd n A B C D) w (ye p 0 rfl) (by(try simp only[BT.sz,BT.dc]);omega) (by(try simp only[BT.sz,BT.dc]);omega) (by simp only[BT.dc];omega)) ?_
     rintro _ O ⟨T,ac,ab,ad,ae,Y,Z,aa,d,rfl,r,ht⟩
     have e:=yy (yh 0 p ht)
     refine fK e 4 ?_
     refine kM (v:=d.ptr) rfl rfl ?_
     obtain⟨W,V⟩:=Pr r
     refine fK e 4 ?_
     (try simp only[BT.sz,BT.dc]at W V)
     refine fK e 2 ?_
     refine mv (v:=d.ptr) rfl rfl (iU (pvs:=[(0,(Zb b)),(1,d.ptr)]) (v:=.agg (vR b d.ptr)) rfl rfl (tY [(0,(Zf b)),(1,[d.ptr])] LF yp jJ rfl ⟨rfl,rfl,rfl,(cells_one (BT.one _)),trivial⟩ rfl s_) (fK e 2 ?_))
     refine jt 0 e (fun I s=>?_) (h1:=(gX rfl (gX (BT.one _) jV)))
     have J:=yf [2,3,4,0,1] s
     have K:=sL J
     have L:=yf [1,0,2] K
     have t:=yc [_,_,_] _ L
     refine fK s 5 ?_
     refine cl (we T (BT.nd b i j k l) d ac ab Y Z aa I (ye t 0 rfl) (by(try simp only[BT.sz,BT.dc]);omega) (by(try simp only[BT.sz,BT.dc]);omega)) ?_
     rintro _ P ⟨g,rfl,M,N⟩
     have u:=(yh 0 t N)
     refine kM (v:=g.ptr) rfl rfl (fP u 3 ?_)
     refine gf (v:=g.ptr) results333 rfl ?_
     exact⟨g,rfl,by rw[M,r],yj u⟩
theorem NK(a:Nat)(w:World)(c:Own (Ak a) w)(d:n<=1000000) :
 CR ya 297 (xD n a) w (fun r w' => r = .int .i64 ((n+1:Nat):Int)/\fV (Ak a) w w' (Ak a)):=by
 refine en func297 ntmps297 ?_
 have b:=yt c
 refine fR b 9 ?_
 refine ar (e:=((n+1:Nat):Int)) rfl rfl rfl rfl ((kP o_).trans o_) (fP b 4 ?_)
 refine gf (v:=(Za ((n+1:Nat):Int))) results297 rfl ?_
 exact⟨rfl,yj b⟩
theorem U5(a:Nat)(w:World)(c:Own (Ak a) w)(f:n<=1000000)(d:0<n) :
 CR ya 310 (xD n a) w (fun r w' => r = .int .i64 ((n-1:Nat):Int)/\fV (Ak a) w w' (Ak a)):=by
 refine en func310 ntmps310 ?_
 have b:=yt c
 refine fR b 9 ?_
 refine ar (e:=((n-1:Nat):Int)) rfl rfl rfl rfl ((kP o_).trans o_) (fP b 4 ?_)
 refine gf (v:=(Za ((n-1:Nat):Int))) results310 rfl ?_
 exact⟨rfl,yj b⟩
theorem yJ{x:Int}:∀ {L:List (Int×Nat)},mL (jO (· - 1) x L)<=mL L+1
 | []=>by rw[jO];exact mE _
 | p :: L=>by
  have a:=yJ (x:=x) (L:=L)
  unfold jO
  split
  . exact Nat.le_succ _
  . split
    . rw[q8,q8];omega
    . split
      . rw[q8];omega
      . rw[q8,q8];show p.2-1+_<=_;omega
theorem JU{x:Int}:∀ {L:List (Int×Nat)},mL (jO (· + 1) x L)<=mL L+1
 | []=>by rw[jO];exact zm _
 | p :: L=>by
  have a:=JU (x:=x) (L:=L)
  unfold jO
  split
  . rw[if_neg o_,q8];show 0+1+_<=_;omega
  . split
    . rw[q8,q8];omega
    . rw[if_neg o_,q8,q8];show p.2+1+_<=_;omega
theorem Va(t:BT)(x:Int)(F:Nat)(w:World)(hO:Own (tT (gD 422 t) F) w)(hb:jd t.kv)(hs:t.sz<=999000)(ih:∀ (t2:BT) (w2:World),t2.dc<t.dc->Own (tT (gD 422 t2) F) w2->jd t2.kv->t2.sz<=999000->CR ya 296 (Ey t2.ptr x F) w2 (vQ (· + 1) x F t2 w2)) :
 CR ya 296 (Ey t.ptr x F) w (vQ (· + 1) x F t w):=by
 refine en func296 ntmps296 ?_
 have aI:=Own.of hO
 have aN:=hs
 refine fR aI 8 ?_
 refine mv (v:=t.ptr) rfl rfl ?_
 obtain⟨W,B⟩:∃ q,t=q:=⟨_,rfl⟩
 rcases W with _|⟨l,b,g,h,d⟩
 . skip
   subst B
   refine mc (a:=none) (c:=true) rfl rfl rfl nj rfl (fK aI 6 ?_)
   refine mW (fi:=[]) (ca:=(Zf F)) rfl rfl rfl eN (NK 0 F w (ye aI 1 rfl) o_) ?_
   rintro _ aw ⟨rfl,ht⟩
   have p:=yh 1 aI ht
   refine fK p 7 ?_
   refine cmp rfl rfl rfl (tv o_) (fK p 9 ?_)
   refine iU (pvs:=[(1,(Za x)),(2,(Za ((0+1:Nat):Int)))]) (v:=.agg #[Zp,Zp,(Za x),(Za ((0+1:Nat):Int)),Zc,Zc,Zc]) rfl rfl (jj [(1,(Ze x)),(2,(Ze ((0+1:Nat):Int)))] S7 abE rfl ⟨rfl,rfl,rfl,rfl,trivial⟩ rfl) (ir p (fun k r ax ay C=>?_))
   have X:St _ [(gD 422 BT.nil),blk k 422 (Nf x ((0+1:Nat):Int)),(gD 422 BT.nil),blk F 3 xL] r:=St.Iz C
   have Y:St _ [(gD 422 BT.nil),(gD 422 BT.nil),blk k 422 (Nf x ((0+1:Nat):Int)),(gD 422 BT.nil),blk F 3 xL] r:=St.Iz X
   have Z:=yf [2,0,1,3,4] Y
   have D:=yc [_,_,_] _ Z
   refine fK C 6 ?_
   refine cl (AI k BT.nil BT.nil x (0+1) Zc Zc Zc r (ye D 0 rfl) (by(try simp only[BT.sz,BT.dc]);omega) (by(try simp only[BT.sz,BT.dc]);omega)) ?_
   rintro _ az ⟨rfl,aa⟩
   have E:=(yh 0 D aa)
   refine fP E 10 ?_
   refine gf (v:=(Zb k)) xo rfl ?_
   have ab:=yf [0,2] E
   exact⟨(BT.nd k BT.nil x (0+1) BT.nil),rfl,rfl,yj (yc [_,_] _ ab)⟩
 . skip
   subst B
   have j:=pR aI
   have T:jd (b.kv++(g,h) :: d.kv):=hb
   have aJ:=T.left
   have aK:=T.right
   have aP:=BT.qA aJ
   have aQ:=BT.qA aK
   have aR:0<h:=T.2 (g,h) s_
   (try simp only[BT.sz]at aN)
   refine mc (a:=some ⟨l,0,none⟩) (c:=false) rfl rfl rfl nj rfl (fK j 14 ?_)
   by_cases aA:(x:Int)<(g:Int)
   . refine gC j 10 fun ac G=>?_
     refine ic (o:=0) (o' := 0) (i:=0) rfl rfl rfl yp jJ d_ rfl ?_
     have ad:=yf [1,3,0,2] G
     have H:=yc [_,_] _ ad
     refine fK G 3 ?_
     refine cl (ih b ac (by simp only[BT.dc];omega) (ye H 0 rfl) aJ o_) ?_
     rintro _ aB ⟨m,rfl,s,ae⟩
     have I:=(yi H ae)
     have aL:jd m.kv:=s▸qC aJ
     have aM:=BT.qA aL
     have aO:m.sz<=b.sz+1:=by rw[m.k6,b.k6,s];exact JU
     refine fK I 2 ?_
     refine ic (o:=0) (o' := 0) (i:=0) rfl rfl rfl yp jJ d_ rfl (jt 2 I (fun af J=>?_) (hvs:=(cells_one (BT.one _))) (h1:=(gX (BT.one _) jV)))
     have ag:=yf [2,0,3,1] J
     have K:=yc [_,_,_] _ ag
     refine fK J 6 ?_
     refine cl (we l m d g h (Za ((h+b.sz+d.sz:Nat):Int)) (Za ((1+b.dc+d.dc:Nat):Int)) (Za ((max b.ht d.ht+1:Nat):Int)) af (ye K 0 rfl) (by(try simp only[BT.sz,BT.dc]);omega) (by(try simp only[BT.sz,BT.dc]);omega)) ?_
     rintro _ aC ⟨u,rfl,ah,ai⟩
     have L:=(yh 0 K ai)
     refine kM (v:=u.ptr) rfl rfl (fP L 3 ?_)
     refine gf (v:=u.ptr) xo rfl ?_
     exact⟨u,rfl,by rw[ah,s];exact(PZ T.lo (show x<g by omega)).symm,yj (yc [_,_] _ L)⟩
   . refine fK j 12 ?_
     by_cases aD:(x:Int)>(g:Int)
     . refine gC j 10 fun aj M=>?_
       refine ic (o:=0) (o' := 1) (i:=1) rfl rfl rfl yp jJ d_ rfl ?_
       have ak:=yf [2,3,0,1] M
       have N:=yc [_,_] _ ak
       refine fK M 3 ?_
       refine cl (ih d aj (by simp only[BT.dc];omega) (ye N 0 rfl) aK o_) ?_
       rintro _ aE ⟨n,rfl,y,al⟩
       have O:=(yi N al)
       have aL:jd n.kv:=y▸qC aK
       have aM:=BT.qA aL
       have aO:n.sz<=d.sz+1:=by rw[n.k6,d.k6,y];exact JU
       refine fK O 2 ?_
       refine ic (o:=0) (o' := 1) (i:=1) rfl rfl rfl yp jJ d_ rfl (jt 2 O (fun am P=>?_) (hvs:=(cells_one (BT.one _))) (h1:=(gX (BT.one _) jV)))
       have an:=yf [2,3,0,1] P
       have Q:=yc [_,_,_] _ an
       refine fK P 6 ?_
       refine cl (we l b n g h (Za ((h+b.sz+d.sz:Nat):Int)) (Za ((1+b.dc+d.dc:Nat):Int)) (Za ((max b.ht d.ht+1:Nat):Int)) am (ye Q 0 rfl) (by(try simp only[BT.sz,BT.dc]);omega) (by(try simp only[BT.sz,BT.dc]);omega)) ?_
       rintro _ aF ⟨z,rfl,ao,ap⟩
       have R:=(yh 0 Q ap)
       refine kM (v:=z.ptr) rfl rfl (fP R 3 ?_)
       refine gf (v:=z.ptr) xo rfl ?_
       exact⟨z,rfl,by rw[ao,y];exact(P5 (fun q hq=>Int.lt_trans (T.lo q hq) (show g<x by omega)) (show g<x by omega)).symm,yj (yc [_,_] _ R)⟩
     . refine fK j 13 ?_
       refine mW (fi:=[]) (ca:=(Zf F)) rfl rfl rfl eN (NK h F w (ye j 3 rfl) o_) ?_
       rintro _ aG ⟨rfl,ht⟩
       have aq:=yh 3 j ht
       refine gC aq 11 fun ar S=>?_
       refine cmp rfl rfl rfl (tv o_) ?_
       have U:=yc [_,_,_] _ S
       refine fK S 9 ?_
       refine cl (we l b d g (h+1) (Za ((h+b.sz+d.sz:Nat):Int)) (Za ((1+b.dc+d.dc:Nat):Int)) (Za ((max b.ht d.ht+1:Nat):Int)) ar (ye U 0 rfl) (by(try simp only[BT.sz,BT.dc]);omega) (by(try simp only[BT.sz,BT.dc]);omega)) ?_
       rintro _ aH ⟨A,rfl,au,av⟩
       have V:=(yh 0 U av)
       refine kM (v:=A.ptr) rfl rfl (fP V 3 ?_)
       refine gf (v:=A.ptr) xo rfl ?_
       exact⟨A,rfl,by have e:x=g:=o_;subst e;rw[au];exact(P4 (f:=(· + 1)) T.lo (by show (_:Nat)+1≠0;omega)).symm,yj (yc [_,_] _ V)⟩
theorem U9(a:Nat):∀ (t:BT) (w:World),Own (tT (gD 422 t) a) w->jd t.kv->t.sz<=999000->CR ya 296 (Ey t.ptr x a) w (vQ (· + 1) x a t w):=by
 have key:∀ (n:Nat) (t:BT) (w:World),t.dc<n->Own (tT (gD 422 t) a) w->jd t.kv->t.sz<=999000->CR ya 296 (Ey t.ptr x a) w (vQ (· + 1) x a t w):=by
  intro n
  induction n with
  | zero=>exact fun _ _ h=>absurd h (BW _)
  | succ n c=>exact fun t w g b hb hs=>Va t x a w b hb hs fun d e f=>c d e o_
 exact fun t w=>key _ t w (BV _)
theorem Vc(t:BT)(x:Int)(F:Nat)(w:World)(hO:Own (tT (gD 422 t) F) w)(hb:jd t.kv)(hs:t.sz<=999000)(hc:0<t.cnt x)(ih:∀ (t2:BT) (w2:World),t2.dc<t.dc->Own (tT (gD 422 t2) F) w2->jd t2.kv->t2.sz<=999000->0<t2.cnt x->CR ya 296 (Ez t2.ptr x F) w2 (vQ (· - 1) x F t2 w2)) :
 CR ya 296 (Ez t.ptr x F) w (vQ (· - 1) x F t w):=by
 refine en func296 ntmps296 ?_
 have aF:=Own.of hO
 have aH:=hs
 refine fR aF 8 ?_
 refine mv (v:=t.ptr) rfl rfl ?_
 obtain⟨k,b,g,h,d,rfl⟩:=BT.aaR hc
 have j:=pR aF
 have T:jd (b.kv++(g,h) :: d.kv):=hb
 have aC:=T.left
 have aD:=T.right
 have aJ:=BT.qA aC
 have aK:=BT.qA aD
 have aL:0<h:=T.2 (g,h) s_
 (try simp only[BT.sz]at aH)
 refine mc (a:=some ⟨k,0,none⟩) (c:=false) rfl rfl rfl nj rfl (fK j 14 ?_)
 by_cases aq:(x:Int)<(g:Int)
 . refine gC j 10 fun S B=>?_
   refine ic (o:=0) (o' := 0) (i:=0) rfl rfl rfl yp jJ d_ rfl ?_
   have U:=yf [1,3,0,2] B
   have C:=yc [_,_] _ U
   refine fK B 3 ?_
   refine cl (ih b S (by simp only[BT.dc];omega) (ye C 0 rfl) aC o_ (BT.VU hc (show x<g by omega))) ?_
   rintro _ ar ⟨l,rfl,n,V⟩
   have D:=(yi C V)
   have aE:jd l.kv:=n▸qC aC
   have aG:=BT.qA aE
   have aI:l.sz<=b.sz+1:=by rw[l.k6,b.k6,n];exact yJ
   refine fK D 2 ?_
   refine ic (o:=0) (o' := 0) (i:=0) rfl rfl rfl yp jJ d_ rfl (jt 2 D (fun W E=>?_) (hvs:=(cells_one (BT.one _))) (h1:=(gX (BT.one _) jV)))
   have X:=yf [2,0,3,1] E
   have G:=yc [_,_,_] _ X
   refine fK E 6 ?_
   refine cl (we k l d g h (Za ((h+b.sz+d.sz:Nat):Int)) (Za ((1+b.dc+d.dc:Nat):Int)) (Za ((max b.ht d.ht+1:Nat):Int)) W (ye G 0 rfl) (by(try simp only[BT.sz,BT.dc]);omega) (by(try simp only[BT.sz,BT.dc]);omega)) ?_
   rintro _ au ⟨p,rfl,Y,Z⟩
   have H:=(yh 0 G Z)
   refine kM (v:=p.ptr) rfl rfl (fP H 3 ?_)
   refine gf (v:=p.ptr) xo rfl ?_
   exact⟨p,rfl,by rw[Y,n];exact(PZ T.lo (show x<g by omega)).symm,yj (yc [_,_] _ H)⟩
 . refine fK j 12 ?_
   by_cases av:(x:Int)>(g:Int)
   . refine gC j 10 fun aa I=>?_
     refine ic (o:=0) (o' := 1) (i:=1) rfl rfl rfl yp jJ d_ rfl ?_
     have ab:=yf [2,3,0,1] I
     have J:=yc [_,_] _ ab
     refine fK I 3 ?_
     refine cl (ih d aa (by simp only[BT.dc];omega) (ye J 0 rfl) aD o_ (BT.VX hc (show g<x by omega))) ?_
     rintro _ aw ⟨m,rfl,r,ac⟩
     have K:=(yi J ac)
     have aE:jd m.kv:=r▸qC aD
     have aG:=BT.qA aE
     have aI:m.sz<=d.sz+1:=by rw[m.k6,d.k6,r];exact yJ
     refine fK K 2 ?_
     refine ic (o:=0) (o' := 1) (i:=1) rfl rfl rfl yp jJ d_ rfl (jt 2 K (fun ad L=>?_) (hvs:=(cells_one (BT.one _))) (h1:=(gX (BT.one _) jV)))
     have ae:=yf [2,3,0,1] L
     have M:=yc [_,_,_] _ ae
     refine fK L 6 ?_
     refine cl (we k b m g h (Za ((h+b.sz+d.sz:Nat):Int)) (Za ((1+b.dc+d.dc:Nat):Int)) (Za ((max b.ht d.ht+1:Nat):Int)) ad (ye M 0 rfl) (by(try simp only[BT.sz,BT.dc]);omega) (by(try simp only[BT.sz,BT.dc]);omega)) ?_
     rintro _ ax ⟨s,rfl,af,ag⟩
     have N:=(yh 0 M ag)
     refine kM (v:=s.ptr) rfl rfl (fP N 3 ?_)
     refine gf (v:=s.ptr) xo rfl ?_
     exact⟨s,rfl,by rw[af,r];exact(P5 (fun q hq=>Int.lt_trans (T.lo q hq) (show g<x by omega)) (show g<x by omega)).symm,yj (yc [_,_] _ N)⟩
   . refine fK j 13 ?_
     refine mW (fi:=[]) (ca:=(Zf F)) rfl rfl rfl eN (U5 h F w (ye j 3 rfl) o_ o_) ?_
     rintro _ ay ⟨rfl,ht⟩
     have ah:=yh 3 j ht
     refine gC ah 11 fun ai u=>?_
     by_cases az:((h-1:Nat):Int)=0
     . refine gC u 9 fun aj y=>?_
       refine ic (o:=0) (o' := 0) (i:=0) rfl rfl rfl yp jJ d_ rfl (fK y 4 ?_)
       refine ic (o:=0) (o' := 1) (i:=1) rfl rfl rfl yp jJ d_ rfl ?_
       have ak:=yf [1,2,0,3] y
       have O:=yc [_,_] _ ak
       refine fK y 1 ?_
       refine cl (UX b d aj (ye O 0 rfl) o_ o_) ?_
       rintro _ aA ⟨z,rfl,al,am⟩
       have P:=(yh 0 O am)
       refine kM (v:=z.ptr) rfl rfl (fP P 5 ?_)
       refine gf (v:=z.ptr) xo rfl ?_
       have an:=yf [0,2] P
       exact⟨z,rfl,by have e:x=g:=o_;subst e;rw[al];exact(ZE T.lo (by show _-1=0;omega)).symm,yj (yc [_,_] _ an)⟩
     . have Q:=yc [_,_,_] _ u
       refine fK u 10 ?_
       refine cl (we k b d g (h-1) (Za ((h+b.sz+d.sz:Nat):Int)) (Za ((1+b.dc+d.dc:Nat):Int)) (Za ((max b.ht d.ht+1:Nat):Int)) ai (ye Q 0 rfl) (by(try simp only[BT.sz,BT.dc]);omega) (by(try simp only[BT.sz,BT.dc]);omega)) ?_
       rintro _ aB ⟨A,rfl,ao,ap⟩
       have R:=(yh 0 Q ap)
       refine kM (v:=A.ptr) rfl rfl (fP R 3 ?_)
       refine gf (v:=A.ptr) xo rfl ?_
       exact⟨A,rfl,by have e:x=g:=o_;subst e;rw[ao];exact(P4 (f:=(· - 1)) T.lo (by show (_:Nat)-1≠0;omega)).symm,yj (yc [_,_] _ R)⟩
theorem Vb(a:Nat):∀ (t:BT) (w:World),Own (tT (gD 422 t) a) w->jd t.kv->t.sz<=999000->0<t.cnt x->CR ya 296 (Ez t.ptr x a) w (vQ (· - 1) x a t w):=by
 have key:∀ (n:Nat) (t:BT) (w:World),t.dc<n->Own (tT (gD 422 t) a) w->jd t.kv->t.sz<=999000->0<t.cnt x->CR ya 296 (Ez t.ptr x a) w (vQ (· - 1) x a t w):=by
  intro n
  induction n with
  | zero=>exact fun _ _ h=>absurd h (BW _)
  | succ n d=>exact fun t w i b hb hs c=>Vc t x a w b hb hs c fun e f g=>d e f o_
 exact fun t w=>key _ t w (BV _)
end Go.Proofs.YtedjjkcihkmjgaaGreatDoor
