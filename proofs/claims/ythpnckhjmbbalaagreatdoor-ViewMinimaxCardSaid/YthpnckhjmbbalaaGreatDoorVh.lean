/- What the functions that the statements reach do: walks through the code of the program and of the references, one theorem a function; under what is said of its arguments. -/
import Derived.Test.YthpnckhjmbbalaaGreatDoorFb
import Derived.Test.YthpnckhjmbbalaaGreatDoorVa
import Derived.Test.YthpnckhjmbbalaaGreatDoorFd
import Derived.Test.YthpnckhjmbbalaaGreatDoorVg
import Derived.Test.YthpnckhjmbbalaaGreatDoorVe
import Derived.Test.YthpnckhjmbbalaaGreatDoorFc
set_option linter.unusedVariables false
set_option linter.unusedSimpArgs false
set_option maxRecDepth 100000
set_option maxHeartbeats 4000000
namespace Go.Proofs.YthpnckhjmbbalaaGreatDoor
section
open Go Go.Sx
theorem Lz(c:WC)(a:Nat)(s:WW)(w:World)(h:Own (WW.R c a s) w)(x:Lv)(j:x.ok)(k:s.now<=x.t)(l:x.t<=1000000)(i:s.added<1000000)(d:s.u.gP c.fN c.fL x.u x.v=0) :
 CR ya 16 (xE a x) w (fun r w' => ∃ (s2:WW),r = .int .i64 0/\WW.Ins c s s2 x/\fZ (WW.R c a s) w w' (WW.R c a s2)) :=
 CR.mono (T5 c a s w h x j k l i) fun r w' ⟨e,s2,f,b,g⟩=>⟨s2,by rw[f,b.room d],b.ins (b.room d),g⟩
theorem JO{u v w t:Int}(h:0<=u/\u<=100/\0<=v/\v<=100/\0<=w/\w<=100/\0<=t/\t<=100):Lv.ok ⟨0,0,u,v,w,t,0⟩ :=
 ⟨kF (by show _/\_;dsimp only;omega),oV (by show _/\_;dsimp only;omega),oV (by show _/\_;dsimp only;omega),oV (by show _/\_;dsimp only;omega),kF (by show _/\_;dsimp only;omega),kF (by show _/\_;dsimp only;omega),kF (by show _/\_;dsimp only;omega)⟩
def Hv(s:WW):Prop:=∀ K L es,s.u.p8 K->s.u.mQ L->oP K L es L.length->K=[1,2,3]/\L.length=3/\es=l9
structure Vk.wk (s:WW) (k:Vk):Prop where
 of:Vk.of s k
 K:k.K=[1,2,3]
 es:k.es=l9
theorem Vk.of.wk{s:WW}{k:Vk}(h:Vk.of s k)(d:Hv s):Vk.wk s k:=by
 obtain⟨L,b,c⟩:=h.Kq
 obtain⟨e1,e,a⟩:=d _ _ _ h.ids b c
 exact⟨h,e1,a⟩
instance:DecidableEq ku:=fun a b=>by
 cases a with|mk a1 a2=>cases b with|mk b1 b2=>exact decidable_of_iff (a1=b1/\a2=b2) s_
abbrev wI:List ku:=[⟨1,2⟩,⟨1,3⟩]
abbrev wH:List Int:=[5,7]
theorem Vk.wk.VJ{s:WW}{k:Vk}(h:Vk.wk s k)(a:gQ k.es k.K.length k.c.f):fJ k.K (k.gM 7 (gH k.K 3))=1/\k.nN 7 (gH k.K 3)=3:=by
 obtain⟨_,e,g⟩:=h
 unfold Vk.gM Vk.nN Vk.top
 revert a
 rw[e,g]
 intro a
 obtain⟨b,d⟩:=Ul a
 obtain⟨b,d⟩:=Ul (f:=k.c.f) a
 rw[show gH [1,2,3] 3=2 by decide]
 refine⟨?_,d⟩
 show fJ [1,2,3] (Go.Sx.gM l9 3 k.c.f (jb (fU l9 3 k.c.f).p (fU l9 3 k.c.f).h 7 2))=1
 rw[b]
 rfl
theorem Vk.wk.mmx{s:WW}{k:Vk}(h:Vk.wk s k)(e:gQ k.es k.K.length k.q.f){x:Int×Bool}(c:k.mm (gH k.K 1) (gH k.K 3) x):x=(7,true):=by
 obtain⟨_,m,n⟩:=h
 unfold Vk.mm at c
 revert e c
 rw[m,n]
 intro e c
 obtain⟨z,g,j,o⟩:=c.2 d_
 rw[show gH [1,2,3] 1=0 by decide,show gH [1,2,3] 3=2 by decide]at g
 obtain⟨d,l⟩:=agn e g
 have i:=(j d).trans l
 obtain⟨a,b⟩:=x
 simp only at d i
 rw[d,i]
theorem Vk.wk.mg{s:WW}{k:Vk}(h:Vk.wk s k)(a:gQ k.es k.K.length k.f):k.mI k.mg.length=wI/\k.mH k.mg.length=wH:=by
 obtain⟨_,c,d⟩:=h
 unfold Vk.mI Vk.mH Vk.mg
 revert a
 rw[c,d]
 intro a
 obtain⟨b,e⟩:=agm a
 rw[b]
 exact⟨d_,d_⟩
theorem Vk.parts{k:Vk}{w:World}(h:Own (Vk.R k) w):k.ok/\gQ k.es k.K.length k.c.f/\gQ k.es k.K.length k.q.f:=by
 have a:=Own.of h.un
 exact⟨h.fact,(yy a (i:=6) rfl),(yy a (i:=7) rfl)⟩
theorem af0(c:WC)(a b:Nat)(s:WW)(w:World)(m:Own (D5 a b c s) w)(o:c.fN<=12)(l:Hv s)(n:s.u.t.cnt 3=0):CR ya 9 #[(Zb a),.int .u64 3,.int .i64 7] w (fun r w' => ∃ (k:Vk),r = .tuple #[.agg #[.int .u64 1,.int .i64 3],.int .i64 0]/\Vk.wk s k/\fZ (D5 a b c s) w w' (Na a b (IntKind.u64.wrap (s.added+s.jk)) k k.K.length c s)) :=
 CR.mono (afP c a b s w m o 3 7 n) fun r w' ⟨k,x,h,⟨j,d⟩,e⟩=>by
  have f:=j.wk l
  obtain⟨e1,g⟩:=f.VJ (Vk.parts (kY (Own.of e.own) (i:=1) rfl)).2.1
  rw[e1,g]at d
  subst d
  exact⟨k,h,f,e⟩
theorem agc{o:Obj}(c:WC)(a d:Nat)(s:WW)(k:Vk)(l:Vk.of s k)(b:Int)(w:World)(f:Own (rH a d (IntKind.u64.wrap (s.added+s.jk)) k k.K.length b c s (js o)) w)(hk:Vk.wk s k)(m:s.u.t.cnt 1=0)(n:s.u.t.cnt 3=0):CR ya 6 #[(Zb a),.int .u64 1,.int .u64 3] w (fun r w' => r = .tuple #[.int .i64 7,.bool true,.int .i64 0]/\fZ (rH a d (IntKind.u64.wrap (s.added+s.jk)) k k.K.length b c s (js o)) w w' (rH a d (IntKind.u64.wrap (s.added+s.jk)) k k.K.length b c s (js o))) :=
 CR.mono (TZ c a d s k l b w f 1 3 m n) fun r w' ⟨x,g,h,j⟩=>by
  have e:=hk.mmx (Vk.parts (kY (Own.of f) (i:=1) rfl)).2.2 h
  subst e
  exact⟨g,j⟩
theorem agb(c:WC)(a f:Nat)(s:WW)(k:Vk)(l:Vk.of s k)(b:Int)(w:World)(h:Own (tC a f (IntKind.u64.wrap (s.added+s.jk)) k k.K.length b c s) w)(hk:Vk.wk s k):CR ya 10 (Zh a) w (fun r w' => ∃ (d hv:Value),r = .tuple #[d,hv]/\fZ (tC a f (IntKind.u64.wrap (s.added+s.jk)) k k.K.length b c s) w w' (Nb a f (IntKind.u64.wrap (s.added+s.jk)) k k.K.length b c s d wI hv wH)) :=
 CR.mono (afQ c a f s k l b w h) fun r w' ⟨d,hv,j,g⟩=>by
  have e:=hk.mg (Vk.parts (kY (Own.of h) (i:=1) rfl)).1.fg
  rw[e.1,e.2]at g
  exact⟨d,hv,j,g⟩
theorem afL(d e:Nat)(k:Vk)(b g:Int)(w:World)(h:Own (HB d e g k k.K.length b) w) :
 CR ya 25 (Zh d) w (fun r w' => r = .int .i64 b/\fZ (HB d e g k k.K.length b) w w' (HB d e g k k.K.length b)):=by
 refine en Tryz.func25 Tryz.ntmps25 ?_
 have f:=yr h
 refine fR f 9 ?_
 refine cl uG (u7 d e _ w (ye f 0 rfl)) ?_
 rintro _ c ⟨rfl,i⟩
 have a:=yk 0 f i
 refine fQ a 16 ?_
 refine gp (v:=(Za b)) Tryz.results25 rfl ?_
 exact⟨rfl,yn a⟩
end
section
open Go Go.Sx
theorem fV.N6{fN fL:Nat}{s:fV}(h:s.ok fN fL){x:Lv}(b:s.has x){id:Int}(a:x.u=id\/x.v=id):s.t.cnt id=0:=by
 obtain⟨i,hi,rfl⟩:=b
 exact TW.xN ((h.mem id).2 ⟨i,hi,a⟩)
theorem fV.VY{fN fL:Nat}{s:fV}(h:s.ok fN fL){id:Int}(c:∀ x,s.has x->x.u≠id/\x.v≠id):s.t.cnt id≠0:=by
 rw[TW.tF fun hm=>?_]
 . decide
 . obtain⟨i,hi,b⟩:=(h.mem id).1 hm
   have a:=c _ ⟨i,hi,rfl⟩
   exact b.elim a.1 a.2
theorem YV:ya.eqGuardType ya.depth 46=false:=by kernel_rfl
theorem Yo(a b:Int)(w:World):(Op.equal 46 (H6 a b) (H6 a b)).run ya w = .ok true w:=by
 rw[ad1 oq yj jI]
 simp
theorem GO{o:Obj}(w:World)(hO:Own (js o) w) :
 CR ya 8 #[] w (fun r w' => r = .bool true/\fZ (js o) w w' (js o)):=by
 refine en Tryz.func8 Tryz.ntmps8 ?_
 have aL:=yr hO
 have aY:wI.length=2:=rfl
 have aX:wH.length=2:=rfl
 refine fR aL 7 ?_
 refine jh (pvs:=[(0,xH),(1,rK),(2,rK),(3,rK)]) (v:=.agg #[xH,rK,rK,rK]) rfl rfl (jx [(0,[xH]),(1,[rK]),(2,[rK]),(3,[rK])] DB RY rfl ⟨rfl,rfl,rfl,rfl,rfl,rfl,rfl,rfl,trivial⟩ rfl) (cl Om (Uh cW w d_ d_ d_ d_ d_ d_ d_) ?_)
 rintro _ P ⟨d,B,rfl,p,T⟩
 have g:=(kf aL T)
 have aG:=sX (ye g 0 rfl)
 have aK:=p.2.2
 have aD:=p.1
 have aC:=p.2.1
 have aR:B.u.last=0:=by have h7:=aG.1.la;have h8:=aG.2.1.sP;omega
 refine fK g 14 ?_
 refine uH (a:=some ⟨d,0,none⟩) (c:=false) rfl rfl rfl DH rfl (fK g 9 ?_)
 refine jh (pvs:=[(0,vI),(1,zX),(2,(.int .i64 5))]) (v:=.agg #[vI,zX,(.int .i64 5),Zc]) rfl rfl (jx [(0,[vI]),(1,[zX]),(2,[(.int .i64 5)])] u5 FZ rfl ⟨rfl,rfl,rfl,rfl,rfl,rfl,trivial⟩ rfl) ?_
 have aS:=fV.Ir aG.2.1 aG.2.2 (u:=1) (v:=2) d_ (L:=[]) (K:=[1,2]) d_ (fun x F=>absurd F (aK x)) (fun x F=>absurd F (aK x)) d_ d_ d_
 refine cl EX (Lz cW d B P (ye g 0 rfl) ⟨0,0,1,2,5,0,0⟩ (JO d_) (by rw[aD];decide) d_ (by rw[aC];decide) aS) ?_
 rintro _ Q ⟨C,rfl,q,T⟩
 have j:=yk 0 g T
 have aN:=sX (ye j 0 rfl)
 obtain⟨⟨i1,aI⟩,aP⟩:=agh aK aR q
 have aD:=q.now
 have aC:C.added=1:=q.added.trans (by rw[aC];rfl)
 refine fK j 6 ?_
 refine jh (pvs:=[(0,zX),(1,vJ),(2,(.int .i64 7)),(3,rK)]) (v:=.agg #[zX,vJ,(.int .i64 7),rK]) rfl rfl (jx [(0,[zX]),(1,[vJ]),(2,[(.int .i64 7)]),(3,[rK])] u5 FZ rfl ⟨rfl,rfl,rfl,rfl,rfl,rfl,rfl,rfl,trivial⟩ rfl) ?_
 have aT:=fV.Ir aN.2.1 aN.2.2 (u:=2) (v:=3) d_ (L:=[wE i1 1 1 2 5 0]) (K:=[1,2,3]) (by show (1:Nat)<4;decide) (fun x F=>by rw[(aI x).1 F];simp) (fun x F=>by rw[(aI x).1 F];simp) d_ d_ d_
 refine cl EX (Lz cW d C Q (ye j 0 rfl) ⟨0,0,2,3,7,4,0⟩ (JO d_) (by rw[aD];decide) d_ (by rw[aC];decide) aT) ?_
 rintro _ R ⟨D,rfl,s,T⟩
 have l:=yk 0 j T
 have aO:=sX (ye l 0 rfl)
 obtain⟨⟨i2,aJ⟩,aQ⟩:=agi aI aP s
 have aD:=s.now
 have aC:D.added=2:=s.added.trans (by rw[aC];rfl)
 refine fK l 6 ?_
 refine jh (pvs:=[(0,vI),(1,vJ),(2,zW),(3,BR)]) (v:=.agg #[vI,vJ,zW,BR]) rfl rfl (jx [(0,[vI]),(1,[vJ]),(2,[zW]),(3,[BR])] u5 FZ rfl ⟨rfl,rfl,rfl,rfl,rfl,rfl,rfl,rfl,trivial⟩ rfl) ?_
 have aU:=fV.Ir aO.2.1 aO.2.2 (u:=1) (v:=3) d_ (L:=[wE i1 1 1 2 5 0,wE i2 2 2 3 7 4]) (K:=[1,2,3]) (by show (2:Nat)<4;decide) (fun x F=>by rcases(aJ x).1 F with h|h<;>rw[h]<;>simp) (fun x F=>by rcases(aJ x).1 F with h|h<;>rw[h]<;>simp) d_ d_ d_
 refine cl EX (Lz cW d D R (ye l 0 rfl) ⟨0,0,1,3,9,6,0⟩ (JO d_) (by rw[aD];decide) d_ (by rw[aC];decide) aU) ?_
 rintro _ S ⟨e,rfl,y,T⟩
 have n:=yk 0 l T
 have aH:=sX (ye n 0 rfl)
 obtain⟨i3,aE⟩:=agj aJ aQ y
 have aD:=y.now
 have aC:e.added=3:=y.added.trans (by rw[aC];rfl)
 have hG:Hv e:=fun K L es h1 h2 h3=>agl aH.2.1 aE h1 h2 h3
 have aV:=fV.N6 aH.2.1 ((aE _).2 (.inl (.inl rfl))) (.inl rfl)
 have aM:=fV.N6 aH.2.1 ((aE _).2 (.inr rfl)) (.inr rfl)
 have aW:e.u.t.cnt 4≠0:=fV.VY aH.2.1 fun x F=>by rcases(aE x).1 F with (h|h)|h<;>rw[h]<;>simp
 refine fK n 6 ?_
 refine cl Oo (T2 cW d e S (ye n 0 rfl)) ?_
 rintro _ U ⟨f,rfl,T⟩
 have z:=y0 (yk 0 n T)
 refine fK z 26 ?_
 refine uH (a:=some ⟨f,0,none⟩) (c:=false) rfl rfl rfl Tryz.underlying24 rfl ?_
 have V:=yg [1,0,2] z
 have E:=yc [_,_] _ V
 refine fK z 9 ?_
 refine cl Ay (af0 cW f d e U (ye E 0 rfl) d_ hG aM) ?_
 rintro _ an ⟨A,rfl,W,X⟩
 have G:=(yi E X)
 have aF:=W
 refine fK G 3 ?_
 refine iO G (fun ao ap aq ar Y=>?_)
 refine gO Y 7 fun Z aa=>?_
 have ab:=yg [1,2,3,4,0] aa
 have H:=yc [_,_,_,_] _ ab
 refine cl Cz (agc cW f d e A aF.of 1 Z (ye H 0 rfl) aF aV aM) ?_
 rintro _ ac ⟨rfl,ad⟩
 have I:=(yi H ad)
 have ae:=yg [0,2,1,3,4] I
 have J:=yc [_,_] _ ae
 refine fK I 12 ?_
 refine cl Ay (afO cW f d e _ ac (ye J 0 rfl) 4 7 aW) ?_
 rintro _ au ⟨rfl,af⟩
 have M:=(yi J af)
 refine fK M 3 ?_
 refine iO M (fun av aw ax ay ag=>?_)
 refine gO ag 7 fun ah ai=>?_
 have aj:=yg [1,3,2,0,4,5] ai
 have N:=yc [_,_,_] _ aj
 refine cl Wz (agb cW f d e A aF.of 1 ah (ye N 0 rfl) aF) ?_
 rintro _ ak ⟨az,aA,rfl,al⟩
 have b:=(yi N al)
 refine fK b 38 ?_
 refine jA (m:=wI.length) 3 rfl rfl Bq b rfl (fK b 4 ?_)
 refine iX (cf:=ku.cells) (k:=1) (i:=1) rfl rfl rfl Bq ua (iW b 3 rfl) o_ o_ (gE om) (fK b 1 ?_)
 refine jh (pvs:=[(0,vI),(1,vJ)]) (v:=.agg HG) rfl rfl (uC [(0,[vI]),(1,[vJ])] ua oq jI rfl ⟨rfl,rfl,rfl,rfl,trivial⟩ rfl s_) (Yh (c:=true) (xs:=HG) (ys:=HG) rfl rfl rfl YV (fun w=>Yo _ _ w) (fK b 3 ?_))
 refine jA (m:=wH.length) 4 rfl rfl y9 b rfl (fK b 4 ?_)
 refine iX (cf:=gh) (k:=1) (i:=1) rfl rfl rfl y9 ti2 (iW b 4 rfl) o_ o_ (gE om) (fK b 5 ?_)
 refine cl XC (afL f d A 1 _ ak (ye b 0 rfl)) ?_
 rintro _ aB ⟨rfl,T⟩
 have O:=yk 0 b T
 refine fQ O 6 ?_
 refine gp (v:=Zf) Tryz.results8 rfl ?_
 have am:=yg [6,0,1,2,3,4,5,7] O
 exact⟨rfl,yn am⟩
end
section
open Go Go.Sx
theorem abE(lv:Value)(xs:List Mw)(w:World)(S:ir 5 Mw.cells (fun _=>True) w lv xs)(ae:∀ x∈xs,x.mv.ok) :
 CR ya 5 #[lv] w (fun r w' => ∃ (Y X:Nat) (s:WW),r = .tuple (UB Y X)/\(∃ k,rG cG s k)/\fZ (gq []) w w' (Mi cG Y s X)):=by
 refine en Tryz.func5 Tryz.ntmps5 ?_
 have W:=yt w
 have ai:=S.len
 refine fR W 9 ?_
 refine jh (pvs:=[(0,(.int .i64 20)),(1,(.int .i64 40)),(2,xH),(3,(.int .i64 60))]) (v:=.agg #[(.int .i64 20),(.int .i64 40),xH,(.int .i64 60)]) rfl rfl (jx [(0,[(.int .i64 20)]),(1,[(.int .i64 40)]),(2,[xH]),(3,[(.int .i64 60)])] DB RY rfl ⟨rfl,rfl,rfl,rfl,rfl,rfl,rfl,rfl,trivial⟩ rfl) (cl Om (Uh cG w d_ d_ d_ d_ d_ d_ d_) ?_)
 rintro _ q ⟨c,m,rfl,i,O⟩
 have j:=(kf W O)
 refine fK j 20 ?_
 refine cl Oo (T2 cG c m q (ye j 0 rfl)) ?_
 rintro _ D ⟨d,rfl,O⟩
 have n:=y0 (yk 0 j O)
 refine gJ n 24 ?_
 refine lp (α:=Nat×WW) (fun(k,s)=>[(0,lv),(5,(Zb c)),(7,(Zb d)),(8,(Za k))]) (fun(k,s) w1=>St [(w,[])] [(WW.R cG c s),blk d 102 [(Zb c),Zn,sK,Zg,Zc,Zg,Zg,Zg,Zg,Zg,Zs,Zs,Zc]] w1/\rG cG s k/\k<=xs.length/\k<=60) (fun(k,s)=>60-k) (0,m) ⟨rfl,rfl,rfl,gw rO,trivial⟩ (⟨n,rG.start i.1 i.2.1 i.2.2,o_,o_⟩) ?_
 rintro⟨k,s⟩ E G ⟨N,P,ag,ah⟩
 have ac:=(sX (ye N 0 rfl)).1
 have ab:=ac.n0
 have am:=P.now
 have an:=P.added
 refine fR N 5 ?_
 refine kU (v:=lv) rfl rfl Tryz.underlying22 S ?_
 by_cases H:((k:Int):Int)<((xs.length:Int):Int)
 . refine fK N 3 ?_
   by_cases I:((k:Int):Int)<(60:Int)
   . refine gJ N 10 ?_
     obtain⟨F,Z⟩:=pO (show k<xs.length by omega)
     have Q:=ae _ (ze Z)
     have U:=Q.u
     have V:=Q.v
     have aa:=Q.wt
     have T:=Q.af
     have ao : -128<=F.wt/\F.wt<=127:=aa
     have ad:=Q.tG ab o_
     have ak:0<=F.u/\F.u<=255:=U
     have al:0<=F.v/\F.v<=255:=V
     have aj:0<=F.af/\F.af<=255:=T
     refine kW mixed [([0,2,3,4,5,6,7,8,1],[6])] [9,10] N (fun t g=>j3 ?_)
     refine fK g 6 ?_
     refine rem (a:=F.af) (b:=4) (e:=F.af%4) rfl rfl rfl d_ (Bz T.1) (fK g 1 ?_)
     refine cl WX (agd cG c s t (ye g 0 rfl)) ?_
     rintro _ y ⟨rfl,O⟩
     have f:=yk 0 g O
     refine fQ f 1 ?_
     refine kR (lE ?_)
     refine gJ f 14 ?_
     cases J:(F.wa:Bool)
     . skip
       refine qu f 10 fun z h=>?_
       refine rem (a:=F.u) (b:=12) (e:=F.u%12) rfl rfl rfl d_ (Bz U.1) (fK h 6 ?_)
       refine rem (a:=F.v) (b:=12) (e:=F.v%12) rfl rfl rfl d_ (Bz V.1) (fK h 8 ?_)
       refine jh (pvs:=[(0,(Zo (F.u%12))),(1,(Zo (F.v%12))),(2,(Za F.wt)),(3,(Za (s.now+(F.af%4))))]) (v:=.agg #[(Zo (F.u%12)),(Zo (F.v%12)),(Za F.wt),(Za (s.now+(F.af%4)))]) rfl rfl (jx [(0,(Zt (F.u%12))),(1,(Zt (F.v%12))),(2,(Ze F.wt)),(3,(Ze (s.now+(F.af%4))))] u5 FZ rfl ⟨rfl,rfl,rfl,rfl,rfl,rfl,rfl,rfl,trivial⟩ rfl) (cl EX (afV cG c s z (ye h 0 rfl) (F.mv.tG s.now) ad (by show s.now<=s.now+F.af%4;omega) (by show s.now+F.af%4<=1000000;omega) o_) ?_)
       rintro _ K ⟨L,A,rfl,B,O⟩
       have o:=yk 0 h O
       refine fQ o 8 ?_
       refine tN (?_)
       exact again ((k+1),A) ⟨rfl,rfl,rfl,gw rO,trivial⟩ (⟨o,P.next B (by show s.now+F.af%4<=s.now+3;omega) (by show 0<=F.u%12/\F.u%12<12;omega) (by show 0<=F.v%12/\F.v%12<12;omega) (by show -128<=F.wt/\F.wt<=127;omega),o_,o_⟩) (by show (60-(k+1):Nat)<60-k;omega)
     . skip
       refine fR f 6 ?_
       refine cl Oz (Um cG c s y (ye f 0 rfl) (s.now+F.af%4) o_ o_) ?_
       rintro _ M ⟨C,rfl,l,O⟩
       have p:=yk 0 f O
       refine fQ p 15 ?_
       refine tN (?_)
       exact again ((k+1),C) ⟨rfl,rfl,rfl,gw rO,trivial⟩ (⟨p,P.tick l.1 o_ l.2.1 l.2.2.1,o_,o_⟩) (by show (60-(k+1):Nat)<60-k;omega)
   . refine fQ N 20 ?_
     refine qV (v:=(Zb c)) (v' := (Zb d)) (v'' := Zf) Tryz.results5 rfl rfl rfl ?_
     exact⟨c,d,s,rfl,⟨_,P⟩,St.eM (yc [_,_] _ N)⟩
 . refine fQ N 23 ?_
   refine qV (v:=(Zb c)) (v' := (Zb d)) (v'' := Zf) Tryz.results5 rfl rfl rfl ?_
   exact⟨c,d,s,rfl,⟨_,P⟩,St.eM (yc [_,_] _ N)⟩
end
section
open Go Go.Sx
theorem Vk.YC{k:Vk}{w:World}(a:Own (Vk.R k) w):k.ok/\gQ k.es k.K.length k.c.f/\k.q.f=k.c.f:=by
 have b:gQ k.es k.K.length k.c.f:=yy (jP (yr a)).unpack (i:=6) rfl
 have d:gQ k.es k.K.length k.q.f:=yy (jP (yr a)).unpack (i:=7) rfl
 exact⟨a.fact,b,nS.uniq d.2 b.2⟩
theorem Vk.abB{k:Vk}{u v:Nat}{x y:Int×Bool}(g:gQ k.es k.K.length k.q.f)(i:u<k.K.length)(hv:v<k.K.length)(h1:k.mm u v x)(a:k.mm v u y):x=y:=by
 have h:=(kX (es:=k.es) (n:=k.K.length) (f:=k.q.f)).2.2.1
 by_cases e:u=v
 . exact Prod.ext ((h1.1 e).1.trans (a.1 e.symm).1.symm) ((h1.1 e).2.trans (a.1 e.symm).2.symm)
 . obtain⟨z,a1,a2,a3⟩:=h1.2 e
   obtain⟨l, b1,b2,b3⟩:=a.2 (Ne.symm e)
   obtain⟨rfl,c⟩:=mP.both g.mj o_ o_ a1 b1
   obtain⟨j,b⟩:=x
   obtain⟨y1,y2⟩:=y
   have d:b=y2:=c
   subst d
   cases b with
   | false=>exact Prod.ext ((a3 rfl).trans (b3 rfl).symm) rfl
   | true=>exact Prod.ext ((a2 rfl).trans (b2 rfl).symm) rfl
theorem Vk.mm0{k:Vk}{u v:Nat}{z:Int}(h:k.mm u v (z,false)):z=0:=by
 by_cases e:u=v
 . exact absurd (h.1 e).2 Bool.false_ne_true
 . obtain⟨_,_,_,a⟩:=h.2 e
   exact a rfl
theorem Vk.abw{k:Vk}(r:k.ok)(a:gQ k.es k.K.length k.c.f)(s:k.q.f=k.c.f){u v:Nat}{z:Int}(b:u<k.K.length)(hv:v<k.K.length)(g:u≠v)(hm:k.mm u v (z,true)) :
 (∀ T,z<=T->k.gM T u=k.gM T v/\k.nN T u=k.nN T v)/\(∀ T,T<z->fJ k.K (k.gM T u)≠fJ k.K (k.gM T v))/\∃ e∈k.es,z=e.w:=by
 obtain⟨y,d,i,_⟩:=hm.2 g
 rw[s]at d i
 have n:z=fJ (fU k.es k.K.length k.c.f).h y:=i rfl
 refine⟨fun T o=>?_,fun T o e=>?_,?_⟩
 . have m:k.top T u=k.top T v:=(a.Fq b hv).1 (a.Ra b hv d (T:=T) o_)
   exact⟨by show Go.Sx.gM _ _ _ (k.top T u)=Go.Sx.gM _ _ _ (k.top T v);rw[m],by show fJ _ (k.top T u)=fJ _ (k.top T v);rw[m]⟩
 . have l:=a.abz b hv g d (T:=T) o_
   rw[Fs b,Fs hv]at l
   exact l (Nt r.j4 (Vk.CP a b) (Vk.CP a hv) e)
 . obtain⟨j,p,e⟩:=a.Q9 b hv g d
   exact⟨fJ k.es (fJ k.c.f j),ze (gE (a.2.lt (ze (gE p)))),n.trans e⟩
theorem Vk.abx{k:Vk}{c:WC}{s:WW}(A:gQ k.es k.K.length k.c.f)(B:k.q.f=k.c.f)(d:Vk.of s k)(C:s.ok c)(v:s.u.ok c.fN c.fL){a b:Int}{i j:Nat}(h:s.u.t.At i a)(hb:s.u.t.At j b){z:Int}{y:Bool}(hm:k.mm (gH k.K a) (gH k.K b) (z,y)) :
 Cn (vC (gF s.g.m)) i j↔y=true:=by
 obtain⟨L,n,o⟩:=d.Kq
 rw[C.fr.conn v d.ids n o h hb]
 have r:=oP.PN v n o
 have w:=(o6 d.ids.j4 ((d.ids.mem a).2 ⟨i,h.1,h.2⟩)).1
 have x:=(o6 d.ids.j4 ((d.ids.mem b).2 ⟨j,hb.1,hb.2⟩)).1
 rw[<-Y3 (fun e p=>⟨(r e p).1,(r e p).2.1⟩) w x]
 by_cases e:gH k.K a=gH k.K b
 . rw[e];exact⟨fun _=>(hm.1 e).2,fun _=>rfl⟩
 . obtain⟨D, l,_⟩:=hm.2 e
   rw[B]at l
   exact(A.aby w x e l).symm
theorem Vk.abC{k:Vk}{c:WC}{s:WW}(j:Vk.of s k){n:Nat}(g:rG c s n){e:Ge}(h:e∈k.es) : -128<=e.w/\e.w<=127:=by
 obtain⟨L,f,b⟩:=j.Kq
 obtain⟨i,hi,rfl⟩:=ue h
 have d:i<L.length:=by rw[<-b.len];exact hi
 have a:=(b.fst i d).w
 rw[iD (zk hi)]at a
 rw[a]
 exact g.wt _ ((f.mem _).1 (ze (gE d)))
theorem afU{o:Obj}(c:WC)(e g:Nat)(s:WW)(k:Vk)(d:Vk.of s k)(b:Int)(w:World)(m:Own (rH e g (IntKind.u64.wrap (s.added+s.jk)) k k.K.length b c s (js o)) w)(a a2:Int)(h:s.u.t.cnt a=0)(i:s.u.t.cnt a2=0)(n:gQ k.es k.K.length k.c.f)(p:k.q.f=k.c.f){z:Int}{y:Bool}(hm:k.mm (gH k.K a2) (gH k.K a) (z,y)) :
 CR ya 6 (tw e a a2) w (fun r w' => r = .tuple (Ei z y)/\fZ (rH e g (IntKind.u64.wrap (s.added+s.jk)) k k.K.length b c s (js o)) w w' (rH e g (IntKind.u64.wrap (s.added+s.jk)) k k.K.length b c s (js o))) :=
 CR.mono (TZ c e g s k d b w m a a2 h i) fun r w' ⟨x,j,l,v⟩=>⟨by rw[j,Vk.abB (by rw[p];exact n) (o6 d.ids.j4 (d.mem h)).1 (o6 d.ids.j4 (d.mem i)).1 l hm],v⟩
theorem GL(c:WC)(a d:Nat)(s:WW)(k:Vk)(h:Vk.of s k)(b:Int)(w:World)(g:Own (tC a d (IntKind.u64.wrap (s.added+s.jk)) k k.K.length b c s) w)(u T:Int)(j:s.u.t.cnt u=0) :
 CR ya 9 (Ev a u T) w (fun r w' => r = .tuple #[.agg (vM (fJ k.K (k.gM T (gH k.K u))) ((k.nN T (gH k.K u):Nat):Int)),.int .i64 0]/\fZ (tC a d (IntKind.u64.wrap (s.added+s.jk)) k k.K.length b c s) w w' (tC a d (IntKind.u64.wrap (s.added+s.jk)) k k.K.length b c s)) :=
 CR.mono (afN c a d s k h b w g u T j) fun r w' ⟨x,e,f,i⟩=>⟨by rw[e,f],i⟩
theorem af1(c:WC)(d:Nat)(s:WW)(w:World)(i:Own (WW.R c d s) w)(a b:Int)(j:¬ (s.u.t.cnt a=0/\s.u.t.cnt b=0)) :
 CR ya 7 (tw d a b) w (fun r w' => r = .tuple #[.bool false,.int .i64 13]/\fZ (WW.R c d s) w w' (WW.R c d s)) :=
 CR.mono (T8 c d s w i a b) fun r w' ⟨B,e,g,h,k⟩=>⟨by
  rcases h with ⟨_,l,m,f,g2,_⟩|⟨rfl,rfl,_⟩
  . exact absurd ⟨f.cnt,g2.cnt⟩ j
  . exact g,k⟩
theorem af2(c:WC)(d:Nat)(s:WW)(w:World)(p:Own (WW.R c d s) w)(a b:Int)(j:s.u.t.cnt a=0)(k:s.u.t.cnt b=0){y:Bool}(q:∀ f h,s.u.t.At f a->s.u.t.At h b->(Cn (vC (gF s.g.m)) f h↔y=true)) :
 CR ya 7 (tw d a b) w (fun r w' => r = .tuple (BV y)/\fZ (WW.R c d s) w w' (WW.R c d s)) :=
 CR.mono (T8 c d s w p a b) fun r w' ⟨B,e,n,o,v⟩=>⟨by
  rcases o with ⟨rfl,f,h,l,g2,i⟩|⟨_,_,i⟩
  . rw[n,Bool.eq_iff_iff.2 (i.trans (q f h (l.at (Iy j)) (g2.at (Iy k))))]
  . exact absurd ⟨j,k⟩ i,v⟩
theorem aeN:ya.stoodInHeld 35=false:=by kernel_rfl
theorem PK:ya.eqGuardType ya.depth 35=false:=by kernel_rfl
theorem Pf(a b c d:Int)(w:World):(Op.equal 35 (vL a c) (vL b d)).run ya w = .ok ((a==b)&&(c==d)) w :=
 SF Bp aeN d_ d_ (r0 yj _ 0 _ rfl) (r0 yj _ 0 _ rfl) (r0 yf _ 1 _ rfl) (r0 yf _ 1 _ rfl) (Dl 9998 yj a b) (Dl 9998 yf c d)
theorem Yk{a b c d:Int}(h1:a=b)(e:c=d)(w:World):(Op.equal 35 (vL a c) (vL b d)).run ya w = .ok true w:=by
 subst h1 e
 rw[Pf,beq_self_eq_true,beq_self_eq_true]
 rfl
theorem Yj{a b c d:Int}(h1:a≠b)(w:World):(Op.equal 35 (vL a c) (vL b d)).run ya w = .ok false w:=by
 rw[Pf,beq_eq_false_iff_ne.2 h1,Bool.false_and]
theorem abt(lv:Value)(xs:List Mw)(a0 b0:Int){o:Obj}(w:World)(hl:ir 5 Mw.cells (fun _=>True) w lv xs)(bg:∀ x∈xs,x.mv.ok)(ha:0<=a0/\a0<=255)(hb:0<=b0/\b0<=255)(hO:Own (js o) w) :
 CR ya 3 #[lv,(.int .u8 a0),(.int .u8 b0)] w (fun r w' => r = .bool true/\fZ (js o) w w' (js o)):=by
 refine en Tryz.func3 Tryz.ntmps3 ?_
 have a5:=yr hO
 refine fR a5 8 ?_
 refine cl XQ (abE lv xs w hl bg) ?_
 rintro _ z ⟨i,j,h,rfl,V,F⟩
 have k:=y0 (kf a5 F)
 refine fK k 22 ?_
 refine rem (a:=a0) (b:=12) (e:=(a0%12)) rfl rfl rfl d_ (Bz o_) (fK k 2 ?_)
 refine rem (a:=b0) (b:=12) (e:=(b0%12)) rfl rfl rfl d_ (Bz o_) ?_
 obtain⟨W,A⟩:∃ q,decide (h.u.t.cnt (a0%12)=0/\h.u.t.cnt (b0%12)=0)=q:=⟨_,rfl⟩
 refine fK k 10 ?_
 rcases W with _|_
 . skip
   have a1:=of_decide_eq_false A
   have X:=yg [1,0,2] k
   have B:=yc [_,_] _ X
   refine cl Cz (T1 cG j i h _ z (ye B 0 rfl) (a0%12) (b0%12) a1) ?_
   rintro _ Y ⟨rfl,Z⟩
   have C:=(yi B Z)
   have D:=yc [_,_] _ C
   refine fK C 14 ?_
   refine cl Cz (T1 cG j i h _ Y (ye D 0 rfl) (b0%12) (a0%12) (fun h9=>a1 h9.symm)) ?_
   rintro _ aa ⟨rfl,ab⟩
   have n:=(yi D ab)
   refine fK n 14 ?_
   refine cl O7 (af1 cG i h aa (ye n 1 rfl) (a0%12) (b0%12) a1) ?_
   rintro _ ac ⟨rfl,F⟩
   have l:=yk 1 n F
   refine fK l 26 ?_
   refine wD (c:=false) rfl rfl rfl yz rfl (fK l 4 ?_)
   refine wD (c:=false) rfl rfl rfl yz rfl (fK l 31 ?_)
   refine cl E1 (GO ac (ye l 2 rfl)) ?_
   rintro _ aG ⟨rfl,F⟩
   have E:=yk 2 l F
   refine fQ E 6 ?_
   refine gp (v:=Zf) Tryz.results3 rfl ?_
   have ad:=yg [2] E
   exact⟨rfl,yn ad⟩
 . skip
   have T:=of_decide_eq_true A
   have ae:=yg [1,0,2] k
   have G:=yc [_,_,_] _ ae
   refine cl Cz (afT cG j i h z (ye G 0 rfl) d_ (a0%12) (b0%12) T.1 T.2) ?_
   rintro _ af ⟨d,g,ag,rfl,ah,ai⟩
   have m:=(yi G ai)
   obtain⟨aX,aY⟩:=ah
   obtain⟨a8,aZ,a2⟩:=Vk.YC (ye m 1 rfl)
   have a6:=sX (ye m 2 rfl)
   have a3:=o6 aX.ids.j4 (aX.mem T.1)
   have a4:=o6 aX.ids.j4 (aX.mem T.2)
   have H:=yc [_,_,_,_] _ m
   refine fK m 14 ?_
   refine cl Cz (afU cG j i h d aX 1 af (ye H 0 rfl) (b0%12) (a0%12) T.2 T.1 aZ a2 aY) ?_
   rintro _ aj ⟨rfl,ak⟩
   have p:=(yi H ak)
   refine fK p 14 ?_
   refine cl O7 (af2 cG i h aj (ye p 2 rfl) (a0%12) (b0%12) T.1 T.2 (fun z1 z2 h1 h2=>Vk.abx aZ a2 aX a6.1 a6.2.1 h1 h2 aY)) ?_
   rintro _ s ⟨rfl,F⟩
   have f:=yk 2 p F
   refine fK f 21 ?_
   refine cmp rfl rfl rfl (qM (Eq.refl _)) (fK f 4 ?_)
   refine wD (c:=false) rfl rfl rfl yz (by rw[beq_self_eq_true];rfl) (fK f 4 ?_)
   refine wD (c:=false) rfl rfl rfl yz (by rw[beq_self_eq_true];rfl) (gJ f 17 ?_)
   cases I:(ag:Bool)
   . skip
     subst I
     refine fR f 11 ?_
     refine cmp rfl rfl rfl (qj (Vk.mm0 aY)) (fK f 2 ?_)
     refine cl E1 (GO s (ye f 3 rfl)) ?_
     rintro _ aH ⟨rfl,F⟩
     have J:=yk 3 f F
     refine fQ J 6 ?_
     refine gp (v:=Zf) Tryz.results3 rfl ?_
     have al:=yg [3] J
     exact⟨rfl,yn al⟩
   . skip
     subst I
     refine fR f 8 ?_
     by_cases aI:((a0%12):Int)=((b0%12):Int)
     . refine fK f 7 ?_
       refine cmp rfl rfl rfl (qj (aY.1 (congrArg (gH d.K) o_)).1) (fK f 1 ?_)
       refine cl E1 (GO s (ye f 3 rfl)) ?_
       rintro _ aJ ⟨rfl,F⟩
       have L:=yk 3 f F
       refine fQ L 6 ?_
       refine gp (v:=Zf) Tryz.results3 rfl ?_
       have am:=yg [3] L
       exact⟨rfl,yn am⟩
     . have bf:gH d.K (a0%12)≠gH d.K (b0%12):=fun h9=>by have h8:=a3.2;rw[h9,a4.2]at h8;omega
       obtain⟨bd,be,e9,a7,bi⟩:=Vk.abw a8 aZ a2 a3.1 a4.1 bf aY
       obtain⟨n9,a9⟩:=V
       have bh:=Vk.abC aX a9 a7
       obtain⟨ba,bb⟩:=bd g o_
       have bc:=be (g-1) o_
       have M:=yc [_,_,_] _ f
       refine fK f 11 ?_
       refine cl Ay (GL cG j i h d aX 1 s (ye M 0 rfl) (a0%12) g T.1) ?_
       rintro _ aK ⟨rfl,an⟩
       have N:=(yi M an)
       refine fK N 3 ?_
       refine iO N (fun aL aM aN aO ao=>?_)
       refine gO ao 9 fun ap aq=>?_
       have ar:=yg [1,2,3,0,4] aq
       have O:=yc [_,_,_] _ ar
       refine cl Ay (GL cG j i h d aX 1 ap (ye O 0 rfl) (b0%12) g T.2) ?_
       rintro _ aP ⟨rfl,au⟩
       have P:=(yi O au)
       refine fK P 3 ?_
       refine iO P (fun aQ aR aS aT av=>?_)
       refine gO av 16 fun aw Q=>?_
       refine FP (c:=true) (xs:=(vM (fJ d.K (d.gM g (gH d.K (a0%12)))) ((d.nN g (gH d.K (a0%12)):Nat):Int))) (ys:=(vM (fJ d.K (d.gM g (gH d.K (b0%12)))) ((d.nN g (gH d.K (b0%12)):Nat):Int))) rfl rfl rfl PK (fun w=>Yk (congrArg (fJ d.K) ba) (congrArg Int.ofNat bb) w) ?_
       have ax:=yg [1,2,3,0,4,5] Q
       have R:=yc [_,_,_] _ ax
       refine fK Q 12 ?_
       refine cl Ay (GL cG j i h d aX 1 aw (ye R 0 rfl) (a0%12) (g-1) T.1) ?_
       rintro _ aU ⟨rfl,ay⟩
       have az:=(yi R ay)
       refine gO az 13 fun aA aB=>?_
       have S:=yc [_,_,_] _ aB
       refine cl Ay (GL cG j i h d aX 1 aA (ye S 0 rfl) (b0%12) (g-1) T.2) ?_
       rintro _ aV ⟨rfl,aC⟩
       have aD:=(yi S aC)
       refine gO aD 18 fun aE y=>?_
       refine FP (c:=false) (xs:=(vM (fJ d.K (d.gM (g-1) (gH d.K (a0%12)))) ((d.nN (g-1) (gH d.K (a0%12)):Nat):Int))) (ys:=(vM (fJ d.K (d.gM (g-1) (gH d.K (b0%12)))) ((d.nN (g-1) (gH d.K (b0%12)):Nat):Int))) rfl rfl rfl PK (fun w=>Yj bc w) (fK y 2 ?_)
       refine cl E1 (GO aE (ye y 5 rfl)) ?_
       rintro _ aW ⟨rfl,F⟩
       have U:=yk 5 y F
       refine fQ U 5 ?_
       refine gp (v:=Zf) Tryz.results3 rfl ?_
       have aF:=yg [5] U
       exact⟨rfl,yn aF⟩
theorem QX(lv:Value)(xs:List Mw)(a0 b0:Int){o:Obj}(w:World)(e:ir 5 Mw.cells (fun _=>True) w lv xs)(f:∀ x∈xs,x.mv.ok)(d:0<=a0/\a0<=255)(hb:0<=b0/\b0<=255)(a:(js o).holds w):CR ya 3 #[lv,.int .u8 a0,.int .u8 b0] w (fun r w' => r = .bool true/\gz [] w w') :=
 CR.mono (abt lv xs a0 b0 w e f d hb (ae1 a)) fun r w' ⟨b,c⟩=>⟨b,aeZ a c⟩
end
end Go.Proofs.YthpnckhjmbbalaaGreatDoor
