/- Walks through code, under what is said of arguments. -/
import Derived.Test.YtedjjkcihkmjgaaGreatDoorVc
import Derived.Ground.SlmcProg
import Derived.Shelf.SlMaps.Clone
import Derived.Ground.SlsfProg
import Derived.Shelf.SlSortCmp.NoneTotal
set_option linter.unusedVariables false
set_option linter.unusedSimpArgs false
set_option maxRecDepth 100000
set_option maxHeartbeats 4000000
namespace Go.Proofs.YtedjjkcihkmjgaaGreatDoor
open Go Go.Sx Go.Proofs.Tryz
def QS.R(hb n:Nat)(s:QS):fJ:=lC (s.ok n) (fN [blk hb 385 (sI hb n s.iv s.pv),cL gC.cells s.iv 250 2 s.dQ,cL iT s.pv 399 1 s.ps,gO fL 401 64 s.ps s.pl])
def QS.SR(sb hb n:Nat)(s:QS):fJ:=fN [blk sb 318 (Bu n hb),(QS.R hb n s)]
abbrev Fp a (b c d:Nat) (e:Int) (f g:Nat) h:=(fN [a,blk b 115 (Ze c),blk d 2 (Zd e),blk c 318 (Bu f g),QS.R g f h]:fJ)
abbrev Bh(a b c:Nat)(d:Int)(e:Nat)(f:Int)(g h:Nat) i:=(fN [blk a 115 (Ze b),blk c 3 (Zd d),blk e 2 (Zd f),blk b 318 (Bu g h),QS.R h g i]:fJ)
variable(hb n de:Nat)(s:QS)(x y:Int)(w:World)
theorem Tk(a:n<=65536) :
 CR ya 220 (Z3 n) w (fun r w' => ∃ hb s,r = .tuple (Z1 hb)/\s.dQ=[]/\fP (fN []) w w' (QS.R hb n s)) :=
 CR.mono (aaa n w a) fun r w' ⟨hb,pv,b,ht⟩=>⟨hb,⟨.slice none 0 0,pv,List.replicate ((n+63) / 64) none,[],List.replicate (64*((n+63) / 64)) 0⟩,b,rfl,ht.M7 ⟨Hp.new rfl,jN.new a rfl,Ord.nil⟩⟩
theorem adY(a:Own (QS.R hb n s) w)(i:Nat)(hi:i<n)(c:∀ e∈s.dQ,e.ix≠i) :
 CQ ya 282 (Zk hb i) w (.tuple C9) (QS.R hb n s) :=
 CR.mono (Z8 hb n s.iv s.pv s.ps s.dQ s.pl w a.un a.fact.hp a.fact.gX i hi (a.fact.free hi c)) fun r w' ⟨b,ht⟩=>⟨b,ht.qS a.fact⟩
theorem ad1(f:Own (QS.R hb n s) w)(i:Nat)(hi:i<n)(h:∀ e∈s.dQ,e.ix≠i)(key:Int)(hk:ij .i64 key) :
 CR ya 214 (Zv hb i key) w (fun r w' => ∃ s2,r = .int .i64 0/\(∀ e,e∈s2.dQ↔e∈s.dQ\/e=⟨i,key⟩)/\fP (QS.R hb n s) w w' (QS.R hb n s2)) :=
 CR.mono (QV hb n s.iv s.pv s.ps s.dQ s.pl w f.un f.fact.hp f.fact.gX f.fact.ord i hi (f.fact.free hi h) key hk) fun r w' ⟨g,j,k,ys,l,a,b,c,d,_,_,ht⟩=>⟨⟨j,s.pv,k,ys,l⟩,g,d,ht.qS ⟨a,b,c⟩⟩
theorem ad2(e:Own (QS.R hb n s) w)(i:Nat)(hi:i<n)(key:Int)(hk:ij .i64 key) :
 CR ya 214 (Zv hb i key) w (fun r w' => ∃ z s2,r = .int .i64 z/\fP (QS.R hb n s) w w' (QS.R hb n s2)):=by
 rcases AL (cE s.pl i)with g|g
 . exact CR.mono (QV hb n s.iv s.pv s.ps s.dQ s.pl w e.un e.fact.hp e.fact.gX e.fact.ord i hi g key hk) fun r w' ⟨f,h,j,ys,k,a,b,c,d,_,_,ht⟩=>⟨0,⟨h,s.pv,j,ys,k⟩,f,ht.qS ⟨a,b,c⟩⟩
 . exact CR.mono (aai hb n s.iv s.pv s.ps s.dQ s.pl w e.un e.fact.hp e.fact.gX i hi (cE s.pl i-1) o_ key) fun r w' ⟨f,ht⟩=>⟨6,s,f,ht.qS e.fact⟩
theorem Ti(a:Own (QS.R hb n s) w)(b:s.dQ.length=0) :
 CQ ya 197 (Zg hb) w (.tuple C6) (QS.R hb n s) :=
 CR.mono (QT hb n s.iv s.pv s.ps s.dQ s.pl w a.un a.fact.hp a.fact.gX b) fun r w' ⟨c,ht⟩=>⟨c,ht.qS a.fact⟩
theorem Tj(a:Own (QS.R hb n s) w)(b:0<s.dQ.length) :
 CQ ya 197 (Zg hb) w (.tuple (C7 ((cE s.dQ 0).ix:Int) ((cE s.dQ 0).key))) (QS.R hb n s) :=
 CR.mono (QU hb n s.iv s.pv s.ps s.dQ s.pl w a.un a.fact.hp a.fact.gX b) fun r w' ⟨c,ht⟩=>⟨c,ht.qS a.fact⟩
theorem adZ(a:Own (QS.R hb n s) w)(b:s.dQ.length=0) :
 CQ ya 126 (Zg hb) w (.tuple C6) (QS.R hb n s) :=
 CR.mono (aag hb n s.iv s.pv s.ps s.dQ s.pl w a.un a.fact.hp a.fact.gX b) fun r w' ⟨c,ht⟩=>⟨c,ht.qS a.fact⟩
theorem Tm(g:Own (QS.R hb n s) w)(h:0<s.dQ.length) :
 CR ya 126 (Zg hb) w (fun r w' => ∃ s2,r = .tuple (C7 ((cE s.dQ 0).ix:Int) ((cE s.dQ 0).key))/\((∀ e,e∈s2.dQ↔e∈s.dQ/\e.ix≠(cE s.dQ 0).ix)/\s2.dQ.length+1=s.dQ.length)/\fP (QS.R hb n s) w w' (QS.R hb n s2)) :=
 CR.mono (aah hb n s.iv s.pv s.ps s.dQ s.pl w g.un g.fact.hp g.fact.gX g.fact.ord h) fun r w' ⟨i,j,k,ys,l,a,b,c,d,_,f,ht⟩=>⟨⟨j,s.pv,k,ys,l⟩,i,⟨d,f⟩,ht.qS ⟨a,b,c⟩⟩
theorem adX(a:Own (QS.R hb n s) w) :
 CR ya 208 (Zg hb) w (fun r w' => ∃ b s2,r = .pointer (some ⟨b,0,none⟩)/\s2.dQ=s.dQ/\fP (QS.R hb n s) w w' (fN [QS.R hb n s,QS.R b n s2])) :=
 CR.mono (ZQ hb n s.iv s.pv s.ps s.dQ s.pl w a.un a.fact.hp a.fact.gX) fun r w' ⟨b,c,d,e,g,i,_,ht⟩=>⟨b,⟨c,d,e,s.dQ,s.pl⟩,g,rfl,(fP.F8 (A:=[blk hb 385 [(.pointer (some ⟨hb,0,none⟩)),(.int .i64 n),s.iv,s.pv],cL gC.cells s.iv 250 2 s.dQ,cL iT s.pv 399 1 s.ps,gO fL 401 64 s.ps s.pl]) (B:=[blk b 385 [(.pointer (some ⟨b,0,none⟩)),(.int .i64 n),c,d],cL gC.cells c 250 2 s.dQ,cL iT d 399 1 e,gO fL 401 64 e s.pl]) ht).M0.GF rfl (fun h=>by
  intro Q f
  simp only[ze,pn,or_false]at f
  rcases f with rfl|rfl
  . exact⟨a.fact,h _ s_⟩
  . exact⟨⟨a.fact.hp,i,a.fact.ord⟩,h _ s_⟩)⟩
theorem D4(sb hb n:Nat)(s:QS)(w:World)(d:Own (QS.SR sb hb n s) w) :
 CQ ya 124 (Zg sb) w (.bool true) (QS.SR sb hb n s):=by
 refine gj func124 ?_
 have b:=Own.of d
 have e:=(j6 b (i:=1) rfl:s.ok n)
 refine fM b 8 ?_
 refine lF (a:=some ⟨sb,0,none⟩) (c:=true) rfl rfl rfl underlying115 rfl (cH b 5 ?_)
 refine lF (a:=some ⟨hb,0,none⟩) (c:=true) rfl rfl rfl HR rfl (fK b 5 ?_)
 refine gT (v:=Zi) results124 rfl ?_
 exact⟨rfl,yk b⟩
theorem afp(k:n<=65536) :
 CR ya 146 (Z3 n) w (fun r w' => ∃ sb hb s,r = .tuple (Z1 sb)/\s.dQ=[]/\fP (fN []) w w' (QS.SR sb hb n s)):=by
 refine iE func146 9 fun l=>?_
 refine cl (Tk n w k) ?_
 rintro _ g ⟨a,e,rfl,f,ht⟩
 have b:=(y9 l ht)
 refine cH b 21 ?_
 refine iL (pvs:=[(0,(Za n)),(1,(Zb a))]) (v:=.agg (yM n a)) rfl rfl (i6 [(0,(Zd n)),(1,(Ze a))] MI SY rfl oh rfl) (gN b (fun c h i j d=>?_))
 refine jk d 5 (Zb c) Zc ?_
 exact⟨c,a,e,rfl,f,me (yd [_,_] _ d)⟩
theorem afq(sb hb n:Nat)(s:QS)(w:World)(u:Own (QS.SR sb hb n s) w)(t:s.dQ.length=0) :
 CQ ya 135 (Zg sb) w (.tuple C6) (QS.SR sb hb n s):=by
 refine gj func135 ?_
 have r:=Own.of u
 have x:=(j6 r (i:=1) rfl:s.ok n)
 refine fM r 2 ?_
 refine ir r (fun k e l m b=>?_)
 have f:=ye [1,2,0] b
 have c:=yd [_,_] _ f
 refine cH b 7 ?_
 refine gF 0 c (D4 sb hb n s e ·) fun g h=>?_
 have a:=yp h
 refine cH a 12 ?_
 refine gF 1 a (Ti hb n s g · t) fun p j=>?_
 refine jI j 7 fun q d=>?_
 refine o5 (v:=IN) (v' := Zp) results135 (oI (cs:=wS) rfl x9 rfl qR rfl (mL d (i:=2) (o:=0) (vs:=wS) rfl rfl)) (qm rfl) ?_
 exact⟨rfl,yk d⟩
theorem afr(sb hb n:Nat)(s:QS)(w:World)(u:Own (QS.SR sb hb n s) w)(t:0<s.dQ.length) :
 CQ ya 135 (Zg sb) w (.tuple (C7 ((cE s.dQ 0).ix:Int) ((cE s.dQ 0).key))) (QS.SR sb hb n s):=by
 refine gj func135 ?_
 have r:=Own.of u
 have x:=(j6 r (i:=1) rfl:s.ok n)
 refine fM r 2 ?_
 refine ir r (fun k e l m b=>?_)
 have f:=ye [1,2,0] b
 have c:=yd [_,_] _ f
 refine cH b 7 ?_
 refine gF 0 c (D4 sb hb n s e ·) fun g h=>?_
 have a:=yp h
 refine cH a 12 ?_
 refine gF 1 a (Tj hb n s g · t) fun p j=>?_
 refine jI j 7 fun q d=>?_
 refine o5 (v:=(C4 ((cE s.dQ 0).ix:Int) ((cE s.dQ 0).key))) (v' := Zi) results135 (oI (cs:=(Zm ((cE s.dQ 0).ix:Int) ((cE s.dQ 0).key))) rfl x9 rfl qR rfl (mL d (i:=2) (o:=0) (vs:=(Zm ((cE s.dQ 0).ix:Int) ((cE s.dQ 0).key))) rfl rfl)) (qm rfl) ?_
 exact⟨rfl,yk d⟩
theorem afa(b1 hb de sb b2 n:Nat)(s:QS)(w:World)(i:Nat)(hi:i<n)(j:∀ e∈s.dQ,e.ix≠i)(key:Int)(hk:ij .i64 key)(h:Own (Bh b1 sb hb i de key n b2 s) w) :
 CR ya 212 #[Zp,(Zb b1),(Zb hb),(Zb de)] w (fun r w' => ∃ s2,r = .int .i64 0/\(∀ e,e∈s2.dQ↔e∈s.dQ\/e=⟨i,key⟩)/\fP (Bh b1 sb hb i de key n b2 s) w w' (Bh b1 sb hb i de key n b2 s2)):=by
 refine gj func212 ?_
 have k:=Own.of h
 refine ny k 22 fun c a=>?_
 refine cl (ad1 b2 n s c (yg a 4 rfl) i hi j key hk) ?_
 rintro _ g ⟨d,rfl,f,ht⟩
 have b:=yt 4 a ht
 refine gm b 4 Zc ?_
 exact⟨d,rfl,f,yk b⟩
theorem afX(b1 hb de sb b2 n:Nat)(s:QS)(w:World)(i:Nat)(hi:i<n)(t:∀ e∈s.dQ,e.ix≠i)(key:Int)(hk:ij .i64 key)(v:Own (Bh b1 sb hb i de key n b2 s) w) :
 CR ya 211 #[(Zb sb),(Za i),(.func (.func 212) #[] (E4 b1 hb de))] w (fun r w' => ∃ s2,r = .int .i64 0/\(∀ e,e∈s2.dQ↔e∈s.dQ\/e=⟨i,key⟩)/\fP (Bh b1 sb hb i de key n b2 s) w w' (Bh b1 sb hb i de key n b2 s2)):=by
 refine gj func211 ?_
 have u:=Own.of v
 have g:=ye [3,4,0,1,2] u
 have b:=yd [_,_] _ g
 refine fM u 9 ?_
 refine gF 0 b (D4 sb b2 n s w ·) fun h j=>?_
 have a:=yp j
 refine cH a 10 ?_
 refine gz rfl (kT o_) (cH a 6 ?_)
 refine gz rfl (p9 o_) (cH a 13 ?_)
 refine gF 1 a (adY b2 n s h · i hi t) fun k c=>?_
 have l:=ye [2,3,4,0,1] c
 have d:=yd [_,_,_,_,_] _ l
 refine cH c 11 ?_
 refine lR (fi:=[]) (ca:=(vC b1 hb de)) rfl rfl rfl eN (afa b1 hb de sb b2 n s k i hi t key hk (yg d 0 rfl)) ?_
 rintro _ q ⟨m,rfl,o,ht⟩
 have p:=yt 0 d ht
 have f:=yp p
 refine gm f 4 Zc ?_
 exact⟨m,rfl,o,yk f⟩
theorem afK(sb hb n:Nat)(s:QS)(w:World)(E:Own (QS.SR sb hb n s) w)(i:Nat)(hi:i<n)(F:∀ e∈s.dQ,e.ix≠i)(key:Int)(hk:ij .i64 key) :
 CR ya 141 (Zv sb i key) w (fun r w' => ∃ s2,r = .int .i64 0/\(∀ e,e∈s2.dQ↔e∈s.dQ\/e=⟨i,key⟩)/\fP (QS.SR sb hb n s) w w' (QS.SR sb hb n s2)):=by
 refine gj func141 ?_
 have v:=Own.of E
 have G:=(j6 v (i:=1) rfl:s.ok n)
 refine fM v 2 ?_
 refine gN v (fun a t u x h=>?_)
 refine gN h (fun b y z A j=>?_)
 refine gN j (fun c k B C d=>?_)
 refine cH d 7 ?_
 refine kW (vf:=[]) (vc:=(vC a b c)) rfl rfl rfl ?_
 have l:=ye [2,1,0,3,4] d
 have f:=yd [_,_,_,_,_] _ l
 refine cl (afX a b c sb hb n s k i hi F key hk (yg f 0 rfl)) ?_
 rintro _ D ⟨m,rfl,o,ht⟩
 have p:=yt 0 f ht
 have g:=yp p
 refine gm g 4 Zc ?_
 have q:=ye [3,4,0,1,2] g
 exact⟨m,rfl,o,yk q⟩
theorem Yo(now:Int)(w:World) :
 CR ya 125 (Zk n now) w (fun r w' => ∃ l tb,r = .func (.func 196) #[] (vE l tb)/\fP (fN []) w w' (fN [blk l 115 (Ze n),blk tb 2 (Zd now)])):=by
 refine iE func125 2 fun m=>?_
 refine gN m (fun a f g h d=>?_)
 refine gN d (fun b i j k c=>?_)
 refine cH c 5 ?_
 refine kW (vf:=[]) (vc:=(Zy a b)) rfl rfl rfl (fK c 4 ?_)
 refine gT (v:=(.func (.func 196) #[] (vE a b))) results125 rfl ?_
 have e:=ye [1,0] c
 exact⟨a,b,rfl,me (yd [_,_] _ e)⟩
theorem Yn{γ:Type}(T:γ->fJ)(F:γ->List Nat)(z0:γ)(l X tb sb hb n:Nat)(s:QS)(now:Int)(w:World)(hy:∀ (z:γ) (i:Nat) (bs:List (World×List Nat)) (L:List fJ) (w:World),i<n->(F z).length<=65536->St bs (T z :: L) w->YR ya l (Zd i) w (fun v w' => v = .bool true/\∃ z2,F z2=F z++[i]/\St bs (T z2 :: L) w'))(ai:(F z0).length=0)(hn:n<=65536)(hO:Own (Fp (T z0) X sb tb now n hb s) w) :
 CR ya 196 (IQ (.func (.yield l) #[] #[]) X tb) w (fun r w' => ∃ z s2 ds,r = .tuple #[]/\F z=F z0++ds/\sE n s s2 ds now/\fP (Fp (T z0) X sb tb now n hb s) w w' (Fp (T z) X sb tb now n hb s2)):=by
 refine gj func196 ?_
 have af:=Own.of hO
 have ae:=(j6 af (i:=4) rfl:s.ok n)
 refine oW af 1 ?_
 refine lp (α:=γ×QS) (fun(z,t)=>[(0,(.func (.yield l) #[] #[])),(1,(Zb X)),(2,(Zb tb))]) (fun(z,t) w1=>St [(w,(Fp (T z0) X sb tb now n hb s).gq)] [(T z),blk X 115 (Ze sb),blk tb 2 (Zd now),blk sb 318 (Bu n hb),(QS.R hb n t)] w1/\∃ ds,vt s.dQ t.dQ ds now/\F z=F z0++ds) (fun(z,t)=>t.dQ.length) (z0,s) oh (⟨af,[],vt.start _ _,by rw[sC]⟩) ?_
 rintro⟨z,t⟩ D c ⟨aa,ds,Y,Z⟩
 have ad:=(j6 aa (i:=4) rfl:t.ok n)
 obtain⟨k,E⟩:∃ q,AL t.dQ.length=q:=⟨_,rfl⟩
 refine fM aa 7 ?_
 rcases k with W|W
 . skip
   refine gF 4 aa (Ti hb n t c · W) fun G d=>?_
   refine cH d 3 ?_
   refine ir d (fun H I J K m=>?_)
   refine jI m 23 fun M o=>?_
   refine xH results196 ?_
   have p:=ye [1,2,3,4,5,0] o
   have ab:=Y.fin ae ad (Or.inl W)
   exact⟨z,t,ds,rfl,Z,ab,yk p⟩
 . skip
   refine gF 4 aa (Tj hb n t c · W) fun N e=>?_
   refine cH e 3 ?_
   refine ir e (fun O P Q S u=>?_)
   refine gh u 13 fun x a=>?_
   by_cases f:((cE t.dQ 0).key:Int)>(now:Int)
   . have ac:now<(cE t.dQ 0).key:=by have h7:=@f;omega
     refine fK a 10 ?_
     refine xH results196 ?_
     have y:=ye [1,2,3,4,5,0] a
     have ab:=Y.fin ae ad (Or.inr ac)
     exact⟨z,t,ds,rfl,Z,ab,yk y⟩
   . have ac:(cE t.dQ 0).key<=now:=by have h7:=@f;omega
     refine cH a 13 ?_
     refine cl (Tm hb n t x (yg a 5 rfl) W) ?_
     rintro _ U ⟨g,rfl,b,ht⟩
     have h:=yt 5 a ht
     have A:=ye [1,2,3,4,5,0] h
     have ah:=ad.lt (tf.2 ⟨0,W,rfl⟩)
     have ag:(F z).length<=65536:=by have h7:=Y.len;have h8:=ae.hp.len;rw[Z,zk,ai];omega
     refine cH h 7 ?_
     refine yl (vl:=(Zd ((cE t.dQ 0).ix:Int))) rfl rfl rfl (hy z (cE t.dQ 0).ix _ _ _ ah ag A) ?_
     rintro _ V ⟨rfl,B,aj,j⟩
     refine fK j 6 ?_
     have C:=ye [0,1,2,3,4] j
     exact gM (B,g) oh (⟨C,(ds++[(cE t.dQ 0).ix]),Y.step W ac b.1 b.2,by rw[aj,Z,z6]⟩) (by have h7:=b.2;show g.dQ.length<t.dQ.length;omega)
theorem acv(ds:List Nat)(i:Nat):gi (ds++[i])=gi ds++[(i:Int)]:=by simp[gi]
theorem ae7(sb hb n:Nat)(s:QS)(w:World)(hO:Own (QS.SR sb hb n s) w)(now:Int)(hn:n<=65536) :
 CR ya 73 (Zk sb now) w (fun r w' => ∃ v ds t,r=v/\sE n s t ds now/\fP (QS.SR sb hb n s) w w' (fN [(QS.SR sb hb n t),iD .i64 v 3 (gi ds)])):=by
 refine uc (vs:=(uI sb now)) func73 rfl ntmps73 rfl ?_
 have aa:=Own.of hO
 have aq:=(j6 aa (i:=1) rfl:s.ok n)
 have f:=yd [_,_] _ aa
 refine fM aa 9 ?_
 refine gF 0 f (D4 sb hb n s w ·) fun M u=>?_
 have g:=yp u
 refine cH g 8 ?_
 refine ir g (fun a x N O h=>?_)
 refine cH h 7 ?_
 refine cl (Yo sb now x) ?_
 rintro _ y ⟨b,c,rfl,ht⟩
 have j:=yp (y9 h ht)
 have A:=nU j 3 1
 have B:=ye [3,0,1,2,4,5] A
 have C:=B
 have D:=C
 refine fZ j 3 ?_
 refine rf (α:=Value×List Nat×QS) (ps:=[13]) (fi:=[]) (ca:=(Zy b c)) (fun(v,ds,t)=>[blk a 37 [v],iD .i64 v 3 (gi ds),blk b 115 (Ze sb),blk c 2 (Zd now),blk sb 318 (Bu n hb),(QS.R hb n t)]) (fun(v,ds,t)=>sE n s t ds now) D rfl eN ?_ ?_
 . intro fn dd l wl rc T an
   have E:=ye [0,2,3,4,5,6,7,1] an
   have ah:=yd [gK l rc,blk a 37 Z4,iD .i64 Zh 3 (gi ([]))] [blk b 115 (Ze sb),blk c 2 (Zd now),blk sb 318 (Bu n hb),(QS.R hb n s),jy dd (some [])] E
   have ac:rc.state = .ready:=by rw[T]
   have aj:rc.pending=none:=by rw[T]
   have ak:∀ (z:Value×List Nat) (i:Nat) (bs:List (World×List Nat)) (L:List fJ) (w:World),i<n->((Prod.snd:Value×List Nat->List Nat) z).length<=65536->St bs ((fun((v,ds):Value×List Nat)=>fN [gK l rc,blk a 37 [v],iD .i64 v 3 (gi ds)]) z :: L) w->YR ya l (Zd i) w (fun v w' => v = .bool true/\∃ z2,(Prod.snd:Value×List Nat->List Nat) z2=(Prod.snd:Value×List Nat->List Nat) z++[i]/\St bs ((fun((v,ds):Value×List Nat)=>fN [gK l rc,blk a 37 [v],iD .i64 v 3 (gi ds)]) z2 :: L) w'):=by
    intro z i bs LT wr hi ap F
    have F:=F.unpack
    refine tq (vl:=(Zd i)) 0 T F rfl rfl rfl (jh F 3 ?_)
    refine tN (tW 0 F rfl ac rfl (fun P m=>fM m 4 ?_))
    refine jB (vs:=(Zd i)) (cs:=(Zd i)) rfl rfl yc fU rfl (by simp[Value.cells]) rfl rfl rfl m (fun G Q S U o=>wX (k:=.i64) (ys:=gi z.2) (zs:=[(i:Int)]) (LL:=fun d=>(iD .i64 (Zu G) 3 ([(i:Int)]) :: gK l { rc with state:=.busy } :: blk a 37 [z.1] :: iD .i64 d 3 ((gi z.2)++([(i:Int)])) :: LT)) 3 rfl rfl rfl yc fU rfl o rfl (kG o (i:=0) rfl) (by simp only[gi,zm,zb,zd,maxLen];first|omega|skip) (by simp only[gi,zm,zb,zd,maxLen];first|omega|skip) f_ ?_)
    intro d V H W
    have e:=St.sub (L' := (gK l { rc with state:=.busy } :: blk a 37 [z.1] :: iD .i64 d 3 ((gi z.2)++([(i:Int)])) :: LT)) H (List.Sublist.cons _ (List.Sublist.refl _))
    refine iS 1 e (fun X p=>?_) (hvs:=(cells_one (yh e (i:=2) rfl))) (h1:=(gD (yh e (i:=2) rfl) je))
    refine fK p 2 ?_
    refine qa 0 p rfl ac aj rfl ?_
    intro Y I
    have ad:=I
    rw[<-acv]at ad
    exact⟨_,rfl,rfl,(d,z.2++[i]),rfl,yd [_,_,_] _ ad⟩
   have ab:=yd [_,_,_,_,_] _ ah
   refine CR.mono (Yn (fun((v,ds):Value×List Nat)=>fN [gK l rc,blk a 37 [v],iD .i64 v 3 (gi ds)]) Prod.snd (.slice none 0 0,[]) l b c sb hb n s now wl ak rfl hn (yg ab 0 rfl)) ?_
   rintro _ w9 ⟨z,t,ds,-,ai,ae,ao⟩
   have am:=(yw ab ao).unpack
   have J:=ye [0,7,1,2,3,4,5,6] am
   exact⟨(z.1,z.2,t),by rw[show z.2=ds by simpa using ai];exact ae,J⟩
 . rintro⟨v,ds,t⟩ dd Z hC q
   refine rX tt none q 9 ?_
   refine uU 0 q rfl rfl ?_
   intro w8 al
   have K:=ye [5,6,2,0,1,3,4] al
   have ag:=yd [_,_] _ K
   have af:St _ (fN [(QS.SR sb hb n t),iD .i64 v 3 (gi ds)] :: _) _:=yd [_,_] _ ag
   have hT:fP (QS.SR sb hb n s) w _ (fN [(QS.SR sb hb n t),iD .i64 v 3 (gi ds)]):=iM af
   exact⟨_,results_tmp results73 _ _ _,_,rfl,by rw[ox];exact⟨v,ds,t,rfl,hC,hT⟩⟩
theorem ae5(sb hb n:Nat)(s:QS)(w:World)(z:Own (QS.SR sb hb n s) w) :
 CR ya 137 (Zg sb) w (fun r w' => ∃ y C s2,r = .pointer (some ⟨y,0,none⟩)/\s2.dQ=s.dQ/\fP (QS.SR sb hb n s) w w' (fN [(QS.SR sb hb n s),(QS.SR y C n s2)])):=by
 refine gj func137 ?_
 have x:=Own.of z
 have E:=(j6 x (i:=1) rfl:s.ok n)
 have b:=yd [_,_] _ x
 refine fM x 9 ?_
 refine gF 0 b (D4 sb hb n s w ·) fun m g=>?_
 have c:=yp g
 refine fZ c 7 ?_
 refine jS mixed [([0,1,2,3,4,5,6,7,8],[3])] [9,10,11] c (fun h a=>iY ?_)
 refine cH a 8 ?_
 refine cl (adX hb n s h (yg a 1 rfl)) ?_
 rintro _ o ⟨u,D,rfl,j,ht⟩
 have k:=ye [1,0] a
 have d:=yp (yt 0 k ht)
 refine fK d 1 ?_
 refine jF (jX ?_)
 refine iL (pvs:=[(0,(Za n)),(1,(Zb u))]) (v:=.agg (yM n u)) rfl rfl (i6 [(0,(Zd n)),(1,(Ze u))] MI SY rfl oh rfl) (gN d (fun e p q t f=>?_))
 refine gm f 4 (Zb e) ?_
 have l:=ye [3,1,0,2] f
 exact⟨e,u,D,rfl,j,(fP.F8 (A:=[_,_]) (B:=[_,_]) (yk l))⟩
def GW.R(de cQ ob:Nat)(s:GW):fJ:=lC (s.ok de cQ) (fN [blk ob 214 (Bd de cQ s (some s.mb)),(kP s.fb s.nb (cQ+de+1)),(QS.R s.hb cQ s.q),gP s.mb .i64 Ed.enc s.m])
theorem Kj(hb de:Nat)(s:GW)(w:World)(d:Own (GW.R n hb de s) w) :
 CQ ya 105 (Zg de) w (.bool true) (GW.R n hb de s):=by
 refine gj func105 ?_
 have b:=Own.of d.un
 have e:s.ok n hb:=d.fact
 refine fM b 8 ?_
 refine lF (a:=some ⟨de,0,none⟩) (c:=true) rfl rfl rfl underlying116 rfl (cH b 5 ?_)
 refine Si (a:=some s.mb) (c:=true) rfl rfl rfl tC rfl (fK b 5 ?_)
 refine gT (v:=Zi) results105 rfl ?_
 exact⟨rfl,yj (yn (p:=s.ok n hb) (yd [_,_,_,_] _ b) e) za⟩
theorem Kf(hb de:Nat)(s:GW)(w:World)(e:Own (GW.R n hb de s) w)(v:Nat)(hv:v<n) :
 CQ ya 215 (Zk de v) w (.bool true) (GW.R n hb de s):=by
 have j:=e.fact.vn
 have i:=e.fact.v2
 have h:=e.fact.en
 refine gj func215 ?_
 have g:=Own.of e.un
 have f:s.ok n hb:=e.fact
 have b:=yn (p:=GW.ok n hb s) (yd [_,_,_,_] _ g) f
 refine fM g 8 ?_
 refine gF 0 b (Kj n hb de s w ·) fun d c=>?_
 have a:=(j7 c).unpack
 refine cH a 2 ?_
 refine gz rfl (ot o_) (cH a 7 ?_)
 refine gz rfl (pL o_) (fK a 5 ?_)
 refine gT (v:=Zi) results215 rfl ?_
 exact⟨rfl,yj (yn (p:=s.ok n hb) (yd [_,_,_,_] _ a) f) za⟩
theorem Ke(ob cQ de:Nat)(s:GW)(w:World)(F:Own (GW.R ob cQ de s) w)(k:Nat)(hk:k+1<(cQ+ob+1)) :
 CR ya 217 (Zk de k) w (fun r w' => ∃ (s2:GW),r = .tuple #[]/\fP (GW.R ob cQ de s) w w' (GW.R ob cQ de s2)):=by
 have U:=F.fact.vn
 have T:=F.fact.v2
 have P:=F.fact.en
 have M:=F.fact.get (k:Int)
 have Q:=M.a
 have S:=M.b
 refine gj func217 ?_
 have N:=Own.of F.un
 have O:s.ok ob cQ:=F.fact
 refine fM N 7 ?_
 refine qK (a:=(k:Int)) (mm:=s.m) (enc:=Ed.enc) (k:=.i64) 3 rfl rfl rfl tC yf An rfl N rfl (ir N (fun i A B C j=>?_))
 refine gh j 13 fun l f=>?_
 refine gF 2 f (RI s.fb s.nb (cQ+ob+1) l · o_ k hk ((fS s.m (k:Int)).exp) M.exp) fun D n=>?_
 refine gh n 16 fun o g=>?_
 refine gL (e:=(((cQ+(fS s.m (k:Int)).a):Nat):Int)) rfl iX (cl (RE s.fb s.nb (cQ+ob+1) o (yg g 2 rfl) o_ k (cQ+(fS s.m (k:Int)).a) hk o_) ?_)
 rintro _ E ⟨G,rfl,ht⟩
 have t:=yt 2 g ht
 refine gh t 16 fun u h=>?_
 refine gL (e:=(((cQ+(fS s.m (k:Int)).b):Nat):Int)) rfl iX (cl (RE s.fb s.nb (cQ+ob+1) u (yg h 2 rfl) o_ k (cQ+(fS s.m (k:Int)).b) hk o_) ?_)
 rintro _ H ⟨I,rfl,ht⟩
 have v:=yt 2 h ht
 refine gh v 16 fun J x=>?_
 refine rq (a:=(k:Int)) (c:=(⟨((fS s.m (k:Int)).a),((fS s.m (k:Int)).b),(fS s.m (k:Int)).exp,true⟩:Ed)) (mm:=s.m) (enc:=Ed.enc) (k:=.i64) (L' := [blk i 254 [(Za ((fS s.m (k:Int)).a:Int)),(Za ((fS s.m (k:Int)).b:Int)),(Za ((fS s.m (k:Int)).exp)),Zi],blk de 214 (Bd ob cQ s (some s.mb)),(kP s.fb s.nb (cQ+ob+1)),(QS.R s.hb cQ s.q),gP s.mb .i64 Ed.enc (gr s.m (k:Int) (⟨((fS s.m (k:Int)).a),((fS s.m (k:Int)).b),(fS s.m (k:Int)).exp,true⟩:Ed))]) 4 rfl rfl rfl rfl tC yf x rfl rfl (fun K d=>fK d 1 ?_)
 refine zX tt none d 6 ?_
 refine gL (e:=(IntKind.i64.wrap (s.trees+1))) rfl rfl (jI d 4 fun L y=>?_)
 refine lZ results217 ?_
 have z:=ye [1,2,3,4,0] y
 exact⟨(⟨s.fb,s.nb,s.hb,s.mb,(IntKind.i64.wrap (s.trees+1)),s.q,(gr s.m (k:Int) (⟨((fS s.m (k:Int)).a),((fS s.m (k:Int)).b),(fS s.m (k:Int)).exp,true⟩:Ed))⟩:GW),rfl,yj (yn (p:=GW.ok ob cQ (⟨s.fb,s.nb,s.hb,s.mb,(IntKind.i64.wrap (s.trees+1)),s.q,(gr s.m (k:Int) (⟨((fS s.m (k:Int)).a),((fS s.m (k:Int)).b),(fS s.m (k:Int)).exp,true⟩:Ed))⟩:GW)) (yd [_,_,_,_] _ z) (O.put (by exact⟨M.a,M.b,M.exp⟩))) za⟩
theorem Kg(ob cQ de:Nat)(s:GW)(w:World)(F:Own (GW.R ob cQ de s) w)(k:Nat)(hk:k+1<(cQ+ob+1)) :
 CR ya 127 (Zk de k) w (fun r w' => ∃ (s2:GW),r = .tuple #[]/\fP (GW.R ob cQ de s) w w' (GW.R ob cQ de s2)):=by
 have P:=F.fact.vn
 have O:=F.fact.v2
 have L:=F.fact.en
 have I:=F.fact.get (k:Int)
 have M:=I.a
 have N:=I.b
 refine gj func127 ?_
 have J:=Own.of F.un
 have K:s.ok ob cQ:=F.fact
 refine fM J 7 ?_
 refine qK (a:=(k:Int)) (mm:=s.m) (enc:=Ed.enc) (k:=.i64) 3 rfl rfl rfl tC yf An rfl J rfl (ir J (fun h x y z i=>?_))
 refine gh i 17 fun j f=>?_
 refine gL (e:=(((cQ+(fS s.m (k:Int)).a):Nat):Int)) rfl iX (cl (Rm s.fb s.nb (cQ+ob+1) j (yg f 2 rfl) o_ k (cQ+(fS s.m (k:Int)).a) hk o_) ?_)
 rintro _ A ⟨B,rfl,ht⟩
 have l:=yt 2 f ht
 refine gh l 16 fun n g=>?_
 refine gL (e:=(((cQ+(fS s.m (k:Int)).b):Nat):Int)) rfl iX (cl (Rm s.fb s.nb (cQ+ob+1) n (yg g 2 rfl) o_ k (cQ+(fS s.m (k:Int)).b) hk o_) ?_)
 rintro _ C ⟨D,rfl,ht⟩
 have o:=yt 2 g ht
 refine gh o 16 fun E t=>?_
 refine rq (a:=(k:Int)) (c:=(⟨((fS s.m (k:Int)).a),((fS s.m (k:Int)).b),(fS s.m (k:Int)).exp,false⟩:Ed)) (mm:=s.m) (enc:=Ed.enc) (k:=.i64) (L' := [blk h 254 [(Za ((fS s.m (k:Int)).a:Int)),(Za ((fS s.m (k:Int)).b:Int)),(Za ((fS s.m (k:Int)).exp)),Zp],blk de 214 (Bd ob cQ s (some s.mb)),(kP s.fb s.nb (cQ+ob+1)),(QS.R s.hb cQ s.q),gP s.mb .i64 Ed.enc (gr s.m (k:Int) (⟨((fS s.m (k:Int)).a),((fS s.m (k:Int)).b),(fS s.m (k:Int)).exp,false⟩:Ed))]) 4 rfl rfl rfl rfl tC yf t rfl rfl (fun G d=>fK d 1 ?_)
 refine zX tt none d 6 ?_
 refine gL (e:=(IntKind.i64.wrap (s.trees-1))) rfl rfl (jI d 4 fun H u=>?_)
 refine lZ results127 ?_
 have v:=ye [1,2,3,4,0] u
 exact⟨(⟨s.fb,s.nb,s.hb,s.mb,(IntKind.i64.wrap (s.trees-1)),s.q,(gr s.m (k:Int) (⟨((fS s.m (k:Int)).a),((fS s.m (k:Int)).b),(fS s.m (k:Int)).exp,false⟩:Ed))⟩:GW),rfl,yj (yn (p:=GW.ok ob cQ (⟨s.fb,s.nb,s.hb,s.mb,(IntKind.i64.wrap (s.trees-1)),s.q,(gr s.m (k:Int) (⟨((fS s.m (k:Int)).a),((fS s.m (k:Int)).b),(fS s.m (k:Int)).exp,false⟩:Ed))⟩:GW)) (yd [_,_,_,_] _ v) (K.put (by exact⟨I.a,I.b,I.exp⟩))) za⟩
theorem ad0(d:Own (QS.R hb n s) w) :
 CR ya 126 (Zg hb) w (fun r w' => ∃ (i:Nat) (k:Int) (b:Bool) (s2:QS),r = .tuple #[.agg (Zx i k),.bool b]/\(b=true->i<n)/\fP (QS.R hb n s) w w' (QS.R hb n s2)):=by
 rcases AL s.dQ.length with a|a
 . exact CR.mono (adZ hb n s w d a) fun r w' ⟨c,ht⟩=>⟨0,0,false,s,c,fun h=>(by cases h),ht⟩
 . exact CR.mono (Tm hb n s w d a) fun r w' ⟨s2,c,_,ht⟩=>⟨_,_,true,s2,c,fun _=>d.fact.hp.ix 0 a,ht⟩
theorem ZG(ob cQ de:Nat)(s:GW)(w:World)(F:Own (GW.R ob cQ de s) w) :
 CR ya 74 (Zg de) w (fun r w' => ∃ (s2:GW) (i:Nat) (b:Bool),r = .tuple (qG i b)/\fP (GW.R ob cQ de s) w w' (GW.R ob cQ de s2)):=by
 have ag:=F.fact.vn
 have af:=F.fact.v2
 have ad:=F.fact.en
 refine gj func74 ?_
 have ab:=Own.of F.un
 have T:s.ok ob cQ:=F.fact
 have j:=yn (p:=GW.ok ob cQ s) (yd [_,_,_,_] _ ab) T
 refine fM ab 10 ?_
 refine gF 0 j (Kj ob cQ de s w ·) fun A B=>?_
 have g:=(j7 B).unpack
 refine cH g 12 ?_
 refine cl (ad0 s.hb cQ s.q A (yg g 2 rfl)) ?_
 rintro _ O ⟨d,l,C,e,rfl,D,ht⟩
 have n:=yt 2 g ht
 have ac:=D
 refine cH n 3 ?_
 refine ir n (fun o P Q S E=>?_)
 refine r7 E 11 fun U h=>?_
 cases t:(C:Bool)
 . skip
   subst t
   refine G2 h 9 Zc Zp ?_
   have G:=ye [1,2,3,4,0] h
   exact⟨(⟨s.fb,s.nb,s.hb,s.mb,s.trees,e,s.m⟩:GW),0,false,rfl,yj (yn (p:=GW.ok ob cQ (⟨s.fb,s.nb,s.hb,s.mb,s.trees,e,s.m⟩:GW)) (yd [_,_,_,_] _ G) T.same) za⟩
 . skip
   subst t
   have ae:=ac rfl
   refine ny h 12 fun H f=>?_
   refine qK (a:=(d:Int)) (mm:=s.m) (enc:=Ed.enc) (k:=.i64) 4 rfl rfl rfl tC yf An rfl f rfl (J8 (cs:=#[(Za ((fS s.m (d:Int)).a:Int)),(Za ((fS s.m (d:Int)).b:Int)),(Za ((fS s.m (d:Int)).exp)),(.bool ((fS s.m (d:Int)).tree))]) (v:=(.bool ((fS s.m (d:Int)).tree))) rfl rfl underlying254 rfl nH rfl rfl (fZ f 2 ?_))
   cases V:((fS s.m (d:Int)).tree:Bool)
   . skip
     refine ny f 11 fun W I=>?_
     refine DC (a:=(d:Int)) (mm:=s.m) (enc:=Ed.enc) (k:=.i64) (L' := [blk o 250 (Zm d l),blk de 214 (Bd ob cQ s (some s.mb)),(kP s.fb s.nb (cQ+ob+1)),(QS.R s.hb cQ e),gP s.mb .i64 Ed.enc (jo s.m (d:Int))]) 4 rfl rfl rfl tC yf I rfl rfl (fun X u=>fK u 11 ?_)
     refine kC (v:=(Za d)) (v' := Zi) results74 rfl rfl ?_
     have J:=ye [1,2,3,4,0] u
     exact⟨(⟨s.fb,s.nb,s.hb,s.mb,s.trees,e,(jo s.m (d:Int))⟩:GW),d,true,rfl,yj (yn (p:=GW.ok ob cQ (⟨s.fb,s.nb,s.hb,s.mb,s.trees,e,(jo s.m (d:Int))⟩:GW)) (yd [_,_,_,_] _ J) T.del) za⟩
   . skip
     have K:=ye [1,2,3,4,0] f
     have x:=yn (p:=GW.ok ob cQ (⟨s.fb,s.nb,s.hb,s.mb,s.trees,e,s.m⟩:GW)) (yd [_,_,_,_] _ K) T.same
     refine fM f 5 ?_
     refine cl (Kg ob cQ de (⟨s.fb,s.nb,s.hb,s.mb,s.trees,e,s.m⟩:GW) H (yg x 0 rfl) d o_) ?_
     rintro _ Y ⟨c,rfl,ht⟩
     have y:=yt 0 x ht
     have L:GW.ok ob cQ c:=qT y
     have M:=(j7 y).unpack
     refine gh M 10 fun Z N=>?_
     refine DC (a:=(d:Int)) (mm:=c.m) (enc:=Ed.enc) (k:=.i64) (L' := [blk de 214 (Bd ob cQ c (some c.mb)),(kP c.fb c.nb (cQ+ob+1)),(QS.R c.hb cQ c.q),gP c.mb .i64 Ed.enc (jo c.m (d:Int)),blk o 250 (Zm d l)]) 3 rfl rfl rfl tC yf N rfl rfl (fun aa z=>fK z 11 ?_)
     refine kC (v:=(Za d)) (v' := Zi) results74 rfl rfl ?_
     exact⟨(⟨c.fb,c.nb,c.hb,c.mb,c.trees,c.q,(jo c.m (d:Int))⟩:GW),d,true,rfl,yj (yn (p:=GW.ok ob cQ (⟨c.fb,c.nb,c.hb,c.mb,c.trees,c.q,(jo c.m (d:Int))⟩:GW)) (yd [_,_,_,_] _ z) L.del) za⟩
theorem Y8(ob hb de:Nat)(s:GW)(w:World)(hO:Own (GW.R ob hb de s) w)(k a b:Nat)(exp:Int)(hk:k<hb)(ha:a<ob)(cQ:b<ob)(T:ij .i64 exp) :
 CR ya 142 #[(Zb de),(Za k),(Za a),(Za b),(Za exp)] w (fun r w' => ∃ (s2:GW) (e:Int),r = .int .i64 e/\fP (GW.R ob hb de s) w w' (GW.R ob hb de s2)):=by
 have aX:=hO.fact.vn
 have aW:=hO.fact.v2
 have aV:=hO.fact.en
 refine gj func142 ?_
 have ar:=Own.of hO.un
 have F:s.ok ob hb:=hO.fact
 have z:=yn (p:=GW.ok ob hb s) (yd [_,_,_,_] _ ar) F
 refine fM ar 9 ?_
 refine gF 0 z (Kj ob hb de s w ·) fun Y Z=>?_
 have l:=(j7 Z).unpack
 refine cH l 10 ?_
 refine gz rfl (kT o_) (cH l 6 ?_)
 refine gz rfl (p9 o_) ?_
 have A:=yn (p:=GW.ok ob hb s) (yd [_,_,_,_] _ l) F
 refine cH l 4 ?_
 refine gF 0 A (Kf ob hb de s Y · a o_) fun aa ab=>?_
 have B:=(j7 ab).unpack
 have C:=yn (p:=GW.ok ob hb s) (yd [_,_,_,_] _ B) F
 refine cH B 5 ?_
 refine gF 0 C (Kf ob hb de s aa · b o_) fun aB ac=>?_
 have g:=(j7 ac).unpack
 refine cH g 12 ?_
 by_cases aC:(a:Int)=(b:Int)
 . refine gm g 11 yR ?_
   exact⟨s,9,rfl,yj (yn (p:=GW.ok ob hb s) (yd [_,_,_,_] _ g) F) za⟩
 . refine cH g 14 ?_
   refine abl (a:=(k:Int)) (mm:=s.m) (enc:=Ed.enc) (k:=.i64) 3 rfl rfl rfl tC yf An rfl g rfl (cH g 3 ?_)
   refine ir g (fun ad aD aE aF ae=>?_)
   refine r7 ae 9 fun af j=>?_
   cases aG:((iC s.m (k:Int)).isSome:Bool)
   . skip
     refine fM j 11 ?_
     refine cl (ad2 s.hb hb s.q af (yg j 3 rfl) k o_ exp T) ?_
     rintro _ aH ⟨aI,d,rfl,ht⟩
     have D:=yt 3 j ht
     refine cH D 12 ?_
     refine iL (pvs:=[(0,(Za a)),(1,(Za b)),(2,(Za exp))]) (v:=.agg #[(Za a),(Za b),(Za exp),Zp]) rfl rfl (i6 [(0,(Zd a)),(1,(Zd b)),(2,(Zd exp))] An adD rfl oh rfl) (rq (a:=(k:Int)) (c:=(⟨a,b,exp,false⟩:Ed)) (mm:=s.m) (enc:=Ed.enc) (k:=.i64) (L' := [blk ad 254 [(Za ((fS s.m (k:Int)).a:Int)),(Za ((fS s.m (k:Int)).b:Int)),(Za ((fS s.m (k:Int)).exp)),(.bool ((fS s.m (k:Int)).tree))],blk de 214 (Bd ob hb s (some s.mb)),(kP s.fb s.nb (hb+ob+1)),(QS.R s.hb hb d),gP s.mb .i64 Ed.enc (gr s.m (k:Int) (⟨a,b,exp,false⟩:Ed))]) 4 rfl rfl rfl rfl tC yf D rfl rfl (fun aJ ag=>gh ag 15 fun ah n=>?_))
     refine gL (e:=((hb+a:Nat):Int)) rfl iX (cH n 5 ?_)
     refine gL (e:=((hb+b:Nat):Int)) rfl iX (cl (abn s.fb s.nb (hb+ob+1) ah (yg n 2 rfl) o_ (hb+a) (hb+b) o_ o_) ?_)
     rintro _ ai ⟨h,aj,rfl,aK,ht⟩
     have i:=yt 2 n ht
     refine fZ i 12 ?_
     cases E:(aj:Bool)
     . skip
       subst E
       have ak:=ye [1,2,3,4,0] i
       have G:=yn (p:=GW.ok ob hb (⟨s.fb,s.nb,s.hb,s.mb,s.trees,d,(gr s.m (k:Int) (⟨a,b,exp,false⟩:Ed))⟩:GW)) (yd [_,_,_,_] _ ak) (F.put (by exact⟨ha,cQ,T⟩))
       refine fM i 7 ?_
       refine cl (Ke ob hb de (⟨s.fb,s.nb,s.hb,s.mb,s.trees,d,(gr s.m (k:Int) (⟨a,b,exp,false⟩:Ed))⟩:GW) ai (yg G 0 rfl) k o_) ?_
       rintro _ aL ⟨o,rfl,ht⟩
       have H:=yt 0 G ht
       have al:GW.ok ob hb o:=qT H
       have I:=(j7 H).unpack
       refine gm I 8 Zc ?_
       exact⟨o,0,rfl,yj (yn (p:=GW.ok ob hb o) (yd [_,_,_,_] _ I) al) za⟩
     . skip
       subst E
       refine fM i 8 ?_
       refine qK (a:=(h:Int)) (mm:=(gr s.m (k:Int) (⟨a,b,exp,false⟩:Ed))) (enc:=Ed.enc) (k:=.i64) 4 rfl rfl rfl tC yf An rfl i rfl (ir i (fun aM aN aO aP am=>?_))
       refine gh am 9 fun J f=>?_
       by_cases aQ:((fS (gr s.m (k:Int) (⟨a,b,exp,false⟩:Ed)) (h:Int)).exp:Int)>(exp:Int)
       . refine gm f 23 Zc ?_
         have an:=ye [2,3,4,5,0,1] f
         exact⟨(⟨s.fb,s.nb,s.hb,s.mb,s.trees,d,(gr s.m (k:Int) (⟨a,b,exp,false⟩:Ed))⟩:GW),0,rfl,yj (yn (p:=GW.ok ob hb (⟨s.fb,s.nb,s.hb,s.mb,s.trees,d,(gr s.m (k:Int) (⟨a,b,exp,false⟩:Ed))⟩:GW)) (yd [_,_,_,_] _ an) (F.put (by exact⟨ha,cQ,T⟩))) za⟩
       . refine cH f 5 ?_
         by_cases aR:((fS (gr s.m (k:Int) (⟨a,b,exp,false⟩:Ed)) (h:Int)).exp:Int)=(exp:Int)
         . refine cH f 4 ?_
           by_cases aS:(h:Int)>(k:Int)
           . refine gm f 14 Zc ?_
             have ao:=ye [2,3,4,5,0,1] f
             exact⟨(⟨s.fb,s.nb,s.hb,s.mb,s.trees,d,(gr s.m (k:Int) (⟨a,b,exp,false⟩:Ed))⟩:GW),0,rfl,yj (yn (p:=GW.ok ob hb (⟨s.fb,s.nb,s.hb,s.mb,s.trees,d,(gr s.m (k:Int) (⟨a,b,exp,false⟩:Ed))⟩:GW)) (yd [_,_,_,_] _ ao) (F.put (by exact⟨ha,cQ,T⟩))) za⟩
           . skip
             have ap:=ye [2,3,4,5,0,1] f
             have K:=yn (p:=GW.ok ob hb (⟨s.fb,s.nb,s.hb,s.mb,s.trees,d,(gr s.m (k:Int) (⟨a,b,exp,false⟩:Ed))⟩:GW)) (yd [_,_,_,_] _ ap) (F.put (by exact⟨ha,cQ,T⟩))
             refine cH f 11 ?_
             refine cl (Kg ob hb de (⟨s.fb,s.nb,s.hb,s.mb,s.trees,d,(gr s.m (k:Int) (⟨a,b,exp,false⟩:Ed))⟩:GW) J (yg K 0 rfl) h o_) ?_
             rintro _ aq ⟨t,rfl,ht⟩
             have L:=yt 0 K ht
             have au:GW.ok ob hb t:=qT L
             have M:=(j7 L).unpack
             have N:=yn (p:=GW.ok ob hb t) (yd [_,_,_,_] _ M) au
             refine cH M 6 ?_
             refine cl (Ke ob hb de t aq (yg N 0 rfl) k o_) ?_
             rintro _ aT ⟨u,rfl,ht⟩
             have O:=yt 0 N ht
             have av:GW.ok ob hb u:=qT O
             have P:=(j7 O).unpack
             refine gm P 8 Zc ?_
             exact⟨u,0,rfl,yj (yn (p:=GW.ok ob hb u) (yd [_,_,_,_] _ P) av) za⟩
         . skip
           have aw:=ye [2,3,4,5,0,1] f
           have Q:=yn (p:=GW.ok ob hb (⟨s.fb,s.nb,s.hb,s.mb,s.trees,d,(gr s.m (k:Int) (⟨a,b,exp,false⟩:Ed))⟩:GW)) (yd [_,_,_,_] _ aw) (F.put (by exact⟨ha,cQ,T⟩))
           refine cH f 15 ?_
           refine cl (Kg ob hb de (⟨s.fb,s.nb,s.hb,s.mb,s.trees,d,(gr s.m (k:Int) (⟨a,b,exp,false⟩:Ed))⟩:GW) J (yg Q 0 rfl) h o_) ?_
           rintro _ ax ⟨x,rfl,ht⟩
           have S:=yt 0 Q ht
           have ay:GW.ok ob hb x:=qT S
           have U:=(j7 S).unpack
           have V:=yn (p:=GW.ok ob hb x) (yd [_,_,_,_] _ U) ay
           refine cH U 6 ?_
           refine cl (Ke ob hb de x ax (yg V 0 rfl) k o_) ?_
           rintro _ aU ⟨y,rfl,ht⟩
           have W:=yt 0 V ht
           have az:GW.ok ob hb y:=qT W
           have X:=(j7 W).unpack
           refine gm X 8 Zc ?_
           exact⟨y,0,rfl,yj (yn (p:=GW.ok ob hb y) (yd [_,_,_,_] _ X) az) za⟩
   . skip
     refine qP j 8 Bp ?_
     have aA:=ye [1,2,3,4,0] j
     exact⟨s,6,rfl,yj (yn (p:=GW.ok ob hb s) (yd [_,_,_,_] _ aA) F) za⟩
theorem abr(a:n<=65536) :
 CR ya 221 (Z3 n) w (fun r w' => ∃ fb nb,r = .tuple (Z1 fb)/\fP (fN []) w w' (kP fb nb (n+1))) :=
 CR.mono (aa5 n w a) fun r w' ⟨fb,nb,e,ht⟩=>⟨fb,nb,e,agV (ed:=0) (xs:=nu n n) (by simpa using ht) (uk n n) (Sk o_) (acI o_)⟩
theorem ZH(hb:Nat)(w:World)(M:2<=de)(hv:de<=4096)(N:hb<=16384) :
 CR ya 147 (Zx de hb) w (fun r w' => ∃ (ob:Nat) (s:GW),r = .tuple (Z1 ob)/\fP (fN []) w w' (GW.R de hb ob s)):=by
 refine enter (vs:=(Zm de hb)) func147 rfl ntmps147 rfl ?_
 have F:=k9 w
 refine fM F 10 ?_
 refine cmp (a:=(de:Int)) (b:=0) rfl rfl rfl (kT o_) (cH F 2 ?_)
 refine cmp (a:=(de:Int)) (b:=4096) rfl rfl rfl (ow o_) (cH F 3 ?_)
 refine cmp (a:=(hb:Int)) (b:=0) rfl rfl rfl (kT o_) (cH F 3 ?_)
 refine cmp (a:=(hb:Int)) (b:=16384) rfl rfl rfl (ow o_) (cH F 10 ?_)
 refine ar (a:=(hb:Int)) (b:=(de:Int)) (c:=(hb:Int)+(de:Int)) (e:=((hb+de:Nat):Int)) rfl rfl rfl rfl (by rw[kX o_];omega) (jG (vl:=(Zd ((hb+de:Nat):Int))) rfl rfl eN (abr (hb+de) w o_) ?_)
 rintro _ x ⟨d,f,rfl,ht⟩
 have o:St _ [(kP d f (hb+de+1))] x:=(y9 (R:=(kP d f (hb+de+1))) F ht)
 refine fZ o 25 ?_
 refine lp (α:=Nat) (fun k=>[(0,(Za de)),(1,(Za hb)),(4,Zq),(5,Zc),(6,(Zb d)),(7,Zc),(34,(Za de)),(35,(Za ((k:Nat):Int)))]) (fun k w1=>St [(w,[])] [(kP d f (hb+de+1))] w1/\k<=de) (fun k=>de-k) 0 oh (⟨o,o_⟩) ?_
 rintro k C q ⟨L,O⟩
 refine fM L 2 ?_
 by_cases D:((k:Nat):Int)<(de:Int)
 . refine cH L 19 ?_
   refine ar (a:=(hb:Int)) (b:=((k:Nat):Int)) (c:=(hb:Int)+((k:Nat):Int)) (e:=((hb+k:Nat):Int)) rfl rfl rfl rfl (by rw[kX o_];omega) (jG (vl:=[(Zb d),(Za ((hb+k:Nat):Int)),(.int .i64 9223372036854775807)]) rfl rfl eN (RI d f (hb+de+1) q (lq L (i:=0) rfl) o_ (hb+k) o_ 9223372036854775807 (kZ d_)) ?_)
   rintro _ y ⟨rfl,ht⟩
   have t:St _ [(kP d f (hb+de+1))] y:=mB (R' := (kP d f (hb+de+1))) 0 L rfl ht rfl
   refine fK t 7 ?_
   exact gM (k+1) oh (⟨t,o_⟩) o1
 . refine cH L 13 ?_
   refine jG (vl:=(Zd hb)) rfl rfl eN (Tk hb q o_) ?_
   rintro _ z ⟨g,j,rfl,E,ht⟩
   have l:St _ [(QS.R g hb j),(kP d f (hb+de+1))] z:=(y9 (R:=(QS.R g hb j)) L ht)
   refine cH l 22 ?_
   refine iL (pvs:=[(0,(Zb d))]) (v:=.agg (Zg d)) rfl rfl (i6 [(0,(Ze d))] MF adw rfl oh rfl) (cH l 1 ?_)
   refine mkV Ed.enc .i64 rfl rfl l ?_
   intro h A G H m
   have m:St _ [gP h .i64 Ed.enc ([]),(QS.R g hb j),(kP d f (hb+de+1))] A:=m
   refine iL (pvs:=[(0,(Za de)),(1,(Za hb)),(2,(.agg (Zg d))),(3,(Zb g)),(4,(.map (some h)))]) (v:=.agg #[(Za de),(Za hb),(Zb d),(Zb g),(.map (some h)),Zc]) rfl rfl (i6 [(0,(Zd de)),(1,(Zd hb)),(2,(Ze d)),(3,(Ze g)),(4,[(.map (some h))])] Ul adx rfl oh rfl) (gN m (fun n I J K u=>?_))
   refine jk u 5 (Zb n) Zc ?_
   have B:=ye [0,3,2,1] u
   exact⟨n,(⟨d,f,g,h,0,j,[]⟩:GW),rfl,uu (R:=(GW.R de hb n (⟨d,f,g,h,0,j,[]⟩:GW))) (yn (p:=GW.ok de hb (⟨d,f,g,h,0,j,[]⟩:GW)) (yd [_,_,_,_] _ B) ⟨M,hv,N,fun p hp=>by cases hp⟩) s_⟩
theorem ahy(c:Cf)(w:World)(h1:1<=c.win)(h:1<=c.cQ/\c.cQ<=16384)(i:2<=c.de/\c.de<=4096)(j:0<=c.lT/\c.lT<=16384) :
 CK ya 143 (N3 c.win c.cQ c.de c.lT) w (.bool true):=by
 refine iE func143 2 fun g=>?_
 refine gN g (fun b d e f a=>?_)
 refine cH a 7 ?_
 refine gz rfl (ot o_) (cH a 3 ?_)
 refine gz rfl (ot o_) (cH a 4 ?_)
 refine gz rfl (vH o_) (cH a 4 ?_)
 refine gz rfl (ot o_) (cH a 4 ?_)
 refine gz rfl (vH o_) (cH a 4 ?_)
 refine gz rfl (ot o_) (cH a 4 ?_)
 refine gz rfl (vH o_) (fK a 5 ?_)
 refine gT (v:=Zi) results143 rfl ?_
 exact⟨rfl,a.gf s_⟩
theorem OS(a b:Int)(w:World)(m:ij .i64 a)(hb:ij .i64 b) :
 CK ya 120 (Zx a b) w (.tuple (Zx ((qZ a b).1) ((qZ a b).2))):=by
 have o := m.i64
 have p := hb.i64
 obtain⟨s,hs⟩:∃ s,s=IntKind.i64.wrap (a+b):=⟨_,rfl⟩
 have n:=hs
 rw[IntKind.wrap_i64]at n
 refine iE func120 10 fun j=>?_
 refine gL (e:=s) rfl hs.symm (cH j 7 ?_)
 by_cases d:(a:Int)<0
 . refine cH j 2 ?_
   by_cases f:(b:Int)<0
   . refine cH j 1 ?_
     refine F6 (c:=true) rfl rfl rfl nH rfl (cH j 2 ?_)
     by_cases g:(s:Int)<0
     . refine cH j 3 ?_
       refine GQ (c:=false) rfl rfl rfl nH rfl (fK j 14 ?_)
       refine kC (v:=(Za s)) (v' := Zc) CB rfl rfl ?_
       have k:=yW (a:=a) (b:=b) o_
       have l:s=a+b:=by omega
       exact⟨by rw[k,l],j.gf s_⟩
     . refine cH j 3 ?_
       refine GQ (c:=true) rfl rfl rfl nH rfl (fK j 12 ?_)
       refine kC (v:=Zc) (v' := (.int .i64 7)) CB rfl rfl ?_
       have k:=OR (a:=a) (b:=b) o_
       exact⟨by rw[k],j.gf s_⟩
   . refine cH j 1 ?_
     refine F6 (c:=false) rfl rfl rfl nH rfl (fK j 20 ?_)
     refine kC (v:=(Za s)) (v' := Zc) CB rfl rfl ?_
     have k:=yW (a:=a) (b:=b) o_
     have l:s=a+b:=by omega
     exact⟨by rw[k,l],j.gf s_⟩
 . refine cH j 2 ?_
   by_cases h:(b:Int)<0
   . refine cH j 1 ?_
     refine F6 (c:=false) rfl rfl rfl nH rfl (fK j 20 ?_)
     refine kC (v:=(Za s)) (v' := Zc) CB rfl rfl ?_
     have k:=yW (a:=a) (b:=b) o_
     have l:s=a+b:=by omega
     exact⟨by rw[k,l],j.gf s_⟩
   . refine cH j 1 ?_
     refine F6 (c:=true) rfl rfl rfl nH rfl (cH j 2 ?_)
     by_cases i:(s:Int)<0
     . refine cH j 3 ?_
       refine GQ (c:=true) rfl rfl rfl nH rfl (fK j 12 ?_)
       refine kC (v:=Zc) (v' := (.int .i64 7)) CB rfl rfl ?_
       have k:=OR (a:=a) (b:=b) o_
       exact⟨by rw[k],j.gf s_⟩
     . refine cH j 3 ?_
       refine GQ (c:=false) rfl rfl rfl nH rfl (fK j 14 ?_)
       refine kC (v:=(Za s)) (v' := Zc) CB rfl rfl ?_
       have k:=yW (a:=a) (b:=b) o_
       have l:s=a+b:=by omega
       exact⟨by rw[k,l],j.gf s_⟩
theorem OW(t:Int)(w:World)(e:ij .i64 x)(d:ij .i64 t) :
 CK ya 133 (Zx x t) w (.tuple (Zx ((qZ t x).1) ((qZ t x).2))):=by
 refine iE func133 10 fun b=>?_
 refine ig b (OS t x w d e) fun c a=>?_
 refine jk a 7 (Za ((qZ t x).1)) (Za ((qZ t x).2)) ?_
 exact⟨rfl,a.gf s_⟩
theorem JQ(now:Int)(w:World)(d:Own (Z0 n x now) w)(h1:1<=x)(e:ij .i64 x) :
 CQ ya 132 (Zg n) w (.bool true) (Z0 n x now):=by
 refine gj func132 ?_
 have b:=yy d
 refine fM b 8 ?_
 refine lF (a:=some ⟨n,0,none⟩) (c:=true) rfl rfl rfl underlying113 rfl (cH b 5 ?_)
 refine gz rfl (ot o_) (fK b 5 ?_)
 refine gT (v:=Zi) results132 rfl ?_
 exact⟨rfl,iM b⟩
theorem XH(now:Int)(w:World)(d:Own (Z0 n x now) w)(h1:1<=x)(e:ij .i64 x) :
 CQ ya 76 (Zg n) w (.int .i64 now) (Z0 n x now):=by
 refine gj func76 ?_
 have c:=yy d
 refine fM c 9 ?_
 refine gF 0 c (JQ n x now w · h1 e) fun b a=>?_
 refine gm a 16 (Za now) ?_
 exact⟨rfl,iM a⟩
theorem PE(now:Int)(w:World)(h:Own (Z0 n x now) w)(h1:1<=x)(g:ij .i64 x)(t:Int)(i:ij .i64 t) :
 CQ ya 77 (Zk n t) w (.int .i64 (sX x now t)) (Z0 n x now):=by
 refine gj func77 ?_
 have d:=yy h
 refine fM d 9 ?_
 refine gF 0 d (JQ n x now w · h1 g) fun c a=>?_
 refine cH a 14 ?_
 by_cases e:(t:Int)<(now:Int)
 . refine gm a 11 yQ ?_
   exact⟨js (by unfold sX;rw[if_pos (by assumption)]),iM a⟩
 . refine cH a 13 ?_
   refine ig a (OW x t c g i) fun f b=>?_
   refine gm b 14 (Za ((qZ t x).2)) ?_
   exact⟨js (by unfold sX;rw[if_neg (by assumption)]),iM b⟩
theorem Xc(now:Int)(w:World)(g:Own (Z0 n x now) w)(h1:1<=x)(f:ij .i64 x)(t:Int)(h:ij .i64 t) :
 CQ ya 138 (Zk n t) w (.tuple (Zx ((qZ t x).1) ((qZ t x).2))) (Z0 n x now):=by
 refine gj func138 ?_
 have d:=yy g
 refine fM d 10 ?_
 refine gF 0 d (JQ n x now w · h1 f) fun c a=>?_
 refine cH a 13 ?_
 refine ig a (OW x t c f h) fun e b=>?_
 refine jk b 7 (Za ((qZ t x).1)) (Za ((qZ t x).2)) ?_
 exact⟨rfl,iM b⟩
theorem W6(now:Int)(w:World)(h:Own (Z0 n x now) w)(h1:1<=x)(j:ij .i64 x)(t:Int)(i:ij .i64 t) :
 CR ya 72 (Zk n t) w (fun r w' => r = .int .i64 (sX x now t)/\fP (Z0 n x now) w w' (Z0 n x (if sX x now t=0 then t else now))):=by
 refine gj func72 ?_
 have g:=yy h
 refine fM g 9 ?_
 refine gF 0 g (PE n x now w · h1 j t i) fun c a=>?_
 refine cH a 7 ?_
 by_cases d:(sX x now t:Int)=0
 . refine jI a 19 fun e b=>?_
   refine gT (v:=(Za (sX x now t))) results72 rfl ?_
   have f:(if sX x now t=0 then t else now)=t:=if_pos (by assumption)
   refine⟨rfl,?_⟩
   rw[f]
   exact iM b
 . refine gm a 13 (Za (sX x now t)) ?_
   have f:(if sX x now t=0 then t else now)=now:=if_neg (by assumption)
   refine⟨rfl,?_⟩
   rw[f]
   exact iM a
theorem XG(h1:1<=x) :
 CR ya 144 (Z3 x) w (fun r w' => ∃ cb,r = .tuple (Z1 cb)/\fP (fN []) w w' (blk cb 247 [(Za x),Zc])):=by
 refine iE func144 10 fun f=>?_
 refine gz rfl (kT o_) (cH f 8 ?_)
 refine iL (pvs:=[(0,(Za x))]) (v:=.agg (uL x)) rfl rfl (i6 [(0,(Zd x))] Uv adC rfl oh rfl) (gN f (fun a c d e b=>?_))
 refine jk b 5 (Zb a) Zc ?_
 exact⟨a,rfl,me b⟩
def WW.R(c:WC)(a:Nat)(s:WW):fJ:=lC (s.ok c) (fN [blk a 118 (OA c.win c.cQ c.de c.lT s),(blk s.cb 247 (Zm c.win s.now)),(fR.R c.de c.cQ s.ub s.u),(QS.SR s.sb s.hb c.cQ s.q),(GW.R c.de c.cQ s.ob s.g)])
abbrev Z2(a:Nat) b c (d:Nat) e:=(fN [blk a 108 b,WW.R c d e]:fJ)
abbrev Fb a (b:Nat) c d e f g h i:=([WW.R a b c,cL iB d 39 1 e,cL Ge.cells f 110 3 g,cL Lv.cells h 43 7 i]:List fJ)
abbrev NU(a:Nat)(b:Lv) c (d:Nat) e f g h i j k:=([blk a 43 (oM b),WW.R c d e,cL iB f 39 1 g,cL Ge.cells h 110 3 i,cL Lv.cells j 43 7 k]:List fJ)
abbrev NR a (b:Nat) c (d:Nat):=(fN [WW.R a b c,blk d 108 (yU b)]:fJ)
abbrev Z7(a b:Nat) c d:=(fN [blk a 108 (yU b),WW.R c b d]:fJ)
abbrev yK(a b:Nat) c d e:=(fN [blk a 108 (yU b),WW.R c b d,e]:fJ)
theorem xZ(c:WC)(e:Nat)(s:WW)(w:World)(f:Own (WW.R c e s) w) :
 CQ ya 40 (Zg e) w (.bool true) (WW.R c e s):=by
 refine gj func40 ?_
 have d:=Own.of f.un
 have b:s.ok c:=f.fact
 have g:=b.w1
 have h:=b.wi
 have i:=b.n0
 have j:=b.n1
 refine fM d 8 ?_
 refine lF (a:=some ⟨e,0,none⟩) (c:=true) rfl rfl rfl CA rfl (cH d 5 ?_)
 refine lF (a:=some ⟨s.cb,0,none⟩) (c:=true) rfl rfl rfl underlying113 rfl (fK d 5 ?_)
 refine gT (v:=Zi) results40 rfl ?_
 exact⟨rfl,yj (yn (p:=s.ok c) (yd [_,_,_,_,_] _ d) b) za⟩
theorem Nc(c:WC)(i:Nat)(s:WW)(w:World)(j:Own (WW.R c i s) w) :
 CQ ya 32 (Zg i) w (.int .i64 s.now) (WW.R c i s):=by
 refine gj func32 ?_
 have k:=Own.of j.un
 have h:s.ok c:=j.fact
 have l:=h.w1
 have m:=h.wi
 have n:=h.n0
 have o:=h.n1
 have b:=yn (p:=s.ok c) (yd [_,_,_,_,_] _ k) h
 refine fM k 9 ?_
 refine gF 0 b (xZ c i s w ·) fun e f=>?_
 have a:=(j7 f).unpack
 refine cH a 12 ?_
 refine gF 1 a (XH s.cb c.win s.now e · l (kZ o_)) fun g d=>?_
 refine gm d 4 (Za s.now) ?_
 exact⟨rfl,yj (yn (p:=s.ok c) (yd [_,_,_,_,_] _ d) h) za⟩
open Go.Shelf Go.Lib Go.Sort Go.RowKit in
def Tryz.aa4:Go.Shelf.Ren:=⟨fun|5=>207|7=>279|n=>n,fun|23=>172|25=>39|3=>37|4=>4|20=>20|n=>n,fun|n=>n⟩
open Go.Shelf Go.Lib Go.Sort Go.RowKit in
theorem Tryz.aa3:Go.Proofs.SlLaysW.n5 Proofs.Tryz.prog Tryz.aa4 where
 mixed:=by kernel_rfl
 f5:=⟨Proofs.Tryz.f207.name,by(decide),Proofs.Tryz.func207.trans (congrArg some<|by kernel_rfl)⟩
 f7:=Proofs.Tryz.func279.trans (congrArg some<|by kernel_rfl)
 t4:=Proofs.Tryz.underlying4
 a4:=Proofs.Tryz.isAgg4
 z4:=Proofs.Tryz.sizeOf4
 v4:=Proofs.Tryz.zeroValue4
 t20:=Proofs.Tryz.underlying20
 a20:=Proofs.Tryz.isAgg20
 z20:=Proofs.Tryz.sizeOf20
 v20:=Proofs.Tryz.zeroValue20
 t23:=Proofs.Tryz.underlying172
 a23:=Proofs.Tryz.isAgg172
 z23:=Proofs.Tryz.sizeOf172
 v23:=Proofs.Tryz.zeroValue172
theorem abY(b:Nat)(im:IM)(w:World)(c:Own (Oo b im) w) :
 CR ya 207 #[.map (some b)] w (fun r w' => ∃ b2,r = .map (some b2)/\fP (Oo b im) w w' (fN [gP b .u64 p_ im,gP b2 .u64 p_ im])) :=
 Xr c fun es a h=>AnyW.maps_Clone Tryz.aa3 b es a w h
theorem Xp(v:Value)(xs:List Lv)(w:World)(hv:gV 7 Lv.cells (fun _=>True) w v xs)(m:xs.length<=1000000) :
 CR ya 206 #[v] w (fun r w' => pY 7 Lv.cells w w' r 43 xs/\gE [] w w'):=by
 refine iE func206 9 fun l=>?_
 refine BJ (v:=v) rfl rfl rfl qu hv (fZ l 2 ?_)
 cases e:(vT v:Bool)
 . skip
   refine fM l 5 ?_
   refine jB (vs:=[]) (cs:=[]) rfl rfl qu o7 rfl (by intro v hv;simp at hv) rfl rfl rfl l ?_
   intro f g h i c
   have d:=c
   refine cH c 1 ?_
   refine kR (cf:=Lv.cells) (ys:=[]) (zs:=xs) (LL:=fun a=>[cL Lv.cells a 43 7 xs]) 0 rfl rfl rfl qu o7 rfl d_ d rfl (gV.src (yu d s_ d_ hv) f_) (xd f_ _) (by simp only[zd];omega) (by simp only[zd];omega) f_ (fun a j b k=>fK b 4 ?_)
   refine gT (v:=a) results206 rfl ?_
   exact⟨Ct b s_,b.gf s_⟩
 . skip
   refine qP l 8 Zh ?_
   obtain rfl:=B4 e hv
   exact⟨pY.B3, l.gf s_⟩
theorem ag0(ub hb de:Nat)(s:fR)(w:World)(F:Own (fR.R ub hb de s) w) :
 CR ya 136 (Zg de) w (fun r w' => ∃ (a0:Nat) (s2:fR),r = .pointer (some ⟨a0,0,none⟩)/\((∀ y,s2.has y↔s.has y)/\s2.last=s.last)/\fP (fR.R ub hb de s) w w' (fN [(fR.R ub hb de s),(fR.R ub hb a0 s2)])):=by
 have bf:s.t.A.used<=s.t.A.n:=F.fact.tok.ul
 have ba:=F.fact.n
 have bb:=F.fact.tn
 have a9:=F.fact.en
 have bc:=F.fact.vn
 have a8:s.A.used<=s.A.begun:=by have h7:=F.fact.lY.used;omega
 have a7:=F.fact.lY.le
 have bd:s.live.length=s.A.begun:=F.fact.ll
 have a3:∀ id,(fS s.im id).2.length<=65536:=fun id=>F.fact.Kv id
 refine gj func136 ?_
 have aZ:=Own.of F.un
 have hU:s.ok ub hb:=F.fact
 have K:=yn (p:=s.ok ub hb) (yd [_,_,_,_,_,_] _ aZ) hU
 refine fM aZ 9 ?_
 refine gF 0 K (Cp ub hb de s w ·) fun aG X=>?_
 have L:=(j7 X).unpack
 refine cH L 11 ?_
 refine ir L (fun h aH aI aJ M=>?_)
 refine iS 0 M (fun Y E=>?_) (h1:=(gD rfl (gD rfl (gD rfl (gD rfl (gD rfl (gD (yh M (i:=2) rfl) (gD rfl je))))))))
 refine cH E 8 ?_
 refine cl (U8 s.jx s.aw Y (yg E 5 rfl)) ?_
 rintro _ aK ⟨d,j,rfl,Z,ht⟩
 have aa:=ye [5,0,1,2,3,4,6] E
 have ac:=yp (yt 0 aa ht)
 refine gh ac 10 fun ad N=>?_
 refine cl (agh s.tb s.ab s.t ad (yg N 7 rfl)) ?_
 rintro _ aL ⟨e,l,m,rfl,O,ht⟩
 have ae:=ye [7,0,1,2,3,4,5,6] N
 have af:=yp (yt 0 ae ht)
 refine gh af 10 fun ag P=>?_
 refine cl (Xp s.lv s.live ag (yv P 6 rfl).any (by first|omega|(simp;omega))) ?_
 rintro g ah hz
 have D:=tB P hz.2 hz.1
 refine cH D 1 ?_
 refine iS 5 D (fun ai G=>?_) (hvs:=(cells_one (yh D (i:=0) rfl))) (h1:=(gD (yh D (i:=0) rfl) je))
 refine cH G 8 ?_
 refine cl (abY s.mb s.im ai (yg G 8 rfl)) ?_
 rintro _ aM ⟨f,rfl,ht⟩
 have aj:=ye [8,0,1,2,3,4,5,6,7,9] G
 have Q:=yp (yt 0 aj ht)
 refine cH Q 1 ?_
 refine iS 7 Q (fun aN H=>?_)
 refine cH H 8 ?_
 refine ld rfl rfl yz rfl (mC H 8 rfl rfl) (Tq (k:=.u64) (enc:=p_) (mm:=s.im) 0 rfl rfl yz H rfl ?_)
 intro u S U
 have ak:St _ [j4 3 [],mP s.mb u .u64 p_ s.im s.im none,gP f .u64 p_ s.im,cL Lv.cells g 43 7 s.live,(C2 s),(TW.R e l m),(C1 s),(AW.R d j),blk h 174 (FA ub hb s.last d e g (some f)),blk de 174 (rI ub hb s (some s.mb)),cL Lv.cells s.lv 43 7 s.live,j4 3 s.im] S:=St.J3 U
 have al:St _ [j4 3 [],j4 3 [],mP s.mb u .u64 p_ s.im s.im none,gP f .u64 p_ s.im,cL Lv.cells g 43 7 s.live,(C2 s),(TW.R e l m),(C1 s),(AW.R d j),blk h 174 (FA ub hb s.last d e g (some f)),blk de 174 (rI ub hb s (some s.mb)),cL Lv.cells s.lv 43 7 s.live,j4 3 s.im] S:=St.J3 ak
 have am:=ye [10,11,2,12,1,7,5,9,4,3,0,8,6] al
 refine fZ U 3 ?_
 refine lp (α:=IM×IM×IM×IM×(Option (Int×(Value×List Nat)))) (fun(dn,td,aU,T,cur)=>[(3,(Zb h)),(40,(Zb u))]) (fun(dn,td,aU,T,cur) w1=>St [(w,(fR.R ub hb de s).gq)] [blk de 174 (rI ub hb s (some s.mb)),cL Lv.cells s.lv 43 7 s.live,mP s.mb u .u64 p_ s.im td cur,j4 3 td,j4 3 dn,(C1 s),(C2 s),blk h 174 (FA ub hb s.last d e g (some f)),cL Lv.cells g 43 7 s.live,gP f .u64 p_ T,j4 3 aU,(AW.R d j),(TW.R e l m)] w1/\qD s.im dn td aU T) (fun(dn,td,aU,T,cur)=>td.length) ([],s.im,[],s.im,none) oh (⟨am,qD.start hU.keys⟩) ?_
 rintro⟨dn,td,aU,T,cur⟩ aO aP ⟨aW,aX⟩
 obtain⟨an,aQ⟩:∃ q,RX ya aW (i:=2) rfl=q:=⟨_,rfl⟩
 refine fM aW 2 ?_
 rcases an with ⟨V,ao⟩|⟨b,x,aR,z⟩
 . skip
   refine GY rfl rfl (ao _) ?_
   have aS:=V
   refine gm aW 16 (Zb h) ?_
   have aV:=aX.fin hU.keys V
   have ap:=St.RW aW (i:=2) rfl
   have aq:=ye [4,0,1,2,3,5,6,7,8,9,10,11,12] ap
   have ar:=St.zI aq aV.1
   have au:=ye [10,0,1,2,3,4,5,6,7,8,9,11,12] ar
   have av:=St.zI au aV.2.1
   have I:=ye [2,3,4,1,6,7,8,9,10,0,11,12] av
   have a1:=(j6 I (i:=10) rfl:j.A.ok)
   have a2:=(j6 I (i:=11) rfl:m.ok)
   have aY:=hU.copy Z a1 a2 O.1 O.2.1 aV.2.2.1 aV.2.2.2 d e l f g
   have a4:=yn (p:=fR.ok ub hb s) (yd [_,_,_,_,_,_] _ I) hU
   have a5:St _ (fN [_,_,_,_,_,_] :: [(fR.R ub hb de s)]) _:=yd [_,_,_,_,_,_] [(fR.R ub hb de s)] (lJ a4 (qx (l₁:=[_]) (l₂:=[_,_,_,_,_,_])))
   have a6:=lJ (yn (p:=fR.ok ub hb (⟨d,e,l,f,g,s.last,j,m,s.live,T⟩:fR)) a5 aY.1) (List.Perm.swap _ _ _)
   exact⟨h,(⟨d,e,l,f,g,s.last,j,m,s.live,T⟩:fR),rfl,⟨aY.2,rfl⟩,yk a6⟩
 . skip
   refine GY rfl rfl (z.run _) ?_
   have ax:=z.st
   have ay:=ye [3,0,1,2,4,5,6,7,8,9,10,11,12] ax
   have B:=St.aeH f_ (St.Qo (St.zI ay z.perm))
   have be:b.2.2.length<=65536:=by have h7:=a3 b.1;rw[aX.at hU.keys z.perm]at h7;exact h7
   refine cH B 10 ?_
   refine Qi (p:=b) 4 rfl rfl B rfl (cH B 3 ?_)
   refine kq (v:=b.2.1) rfl rfl (fZ B 2 ?_)
   refine jS mixed [([0,1,2,3,4],[1])] [5] B (fun az C=>iY ?_)
   refine cH C 1 ?_
   refine ld rfl rfl yz rfl (mC C 8 rfl rfl) (cH C 1 ?_)
   refine mv (v:=b.2.1) rfl rfl (cl (DA b.2.1 b.2.2 az (yv C 0 rfl).any (by first|omega|(simp;omega))) ?_)
   rintro o aA hz
   have J:=tB C hz.2 hz.1
   refine fK J 1 ?_
   refine nF (ku rfl (mZ (s8 rfl yz rfl (mC J 9 rfl rfl)) rfl rfl) (trivial)) (jX ?_)
   refine rq (a:=b.1) (c:=(o,b.2.2)) (mm:=T) (enc:=p_) (k:=.u64) (L' := (VG o b.2.2 b.2.1 x de ub hb s (some s.mb) (mP s.mb u .u64 p_ s.im x (some b)) dn h d e g (some f) f (gr T b.1 (o,b.2.2)) aU j l m)) 11 rfl rfl rfl rfl yz ym J rfl rfl (fun aT W=>fK W 2 ?_)
   have aB:=ye [1,6,0,2,3,4,5,7,8,9,10,11,12,13,14] W
   have aC:=((St.Tx f_ aB).JN (p:=b)).zI (qx (l₁:=[_]))
   have aD:=ye [1,11,0,2,3,4,5,6,7,8,9,10,12,13] aC
   have aE:=((St.Tx f_ aD).JN (p:=(b.1,(o,b.2.2)))).zI (qx (l₁:=[_]))
   have aF:=ye [3,4,5,2,1,6,7,8,9,10,0,11,12] aE
   exact gM ((dn++[b]),x,(aU++[(b.1,(o,b.2.2))]),(gr T b.1 (o,b.2.2)),(some b)) oh (⟨aF,aX.next hU.keys z.perm o⟩) (by have h7:=z.perm.length_eq;rw[zb]at h7;show x.length<td.length;omega)
theorem ZA:ya.eqGuardType ya.depth 267=false:=by kernel_rfl
theorem ahB(c:WC)(w:World)(w1:1<=c.win)(wi:c.win<=1000000)(e1:1<=c.cQ)(en:c.cQ<=16384)(v2:2<=c.de)(vn:c.de<=4096)(T:0<=c.lT/\c.lT<=16384) :
 CR ya 80 #[(Fy c.win c.cQ c.de c.lT),Z6] w (fun r w' => ∃ (F:Nat) (s:WW),r = .tuple (Z1 F)/\(s.now=0/\s.added=0/\∀ y,¬ s.u.has y)/\fP (fN []) w w' (WW.R c F s)):=by
 refine enter func80 rfl ntmps80 rfl ?_
 have B:=k9 w
 refine fM B 2 ?_
 refine gN B (fun W A X Y k=>?_)
 refine cH k 8 ?_
 refine ig k (ahy ⟨c.win,(c.cQ:Int),(c.de:Int),c.lT⟩ A w1 (by show _/\_;dsimp only;omega) (by show _/\_;dsimp only;omega) T) fun Z l=>cH l 8 ?_
 refine ir l (fun aa ab ac ad m=>?_)
 refine cH m 7 ?_
 refine iL (pvs:=[(0,(Fy c.win c.cQ c.de c.lT)),(5,Z6),(6,Z6)]) (v:=.agg #[(Za c.win),(Za c.cQ),(Za c.de),(Za c.lT),Zq,Zq,Zq,Zq,Z6,Z6]) rfl rfl (i6 [(0,(tQ c.win c.cQ c.de c.lT)),(5,Dh),(6,Dh)] Uf adn rfl oh rfl) (gN m (fun n C ae af q=>?_))
 refine cH q 8 ?_
 refine cl (XG c.win C w1) ?_
 rintro _ ag ⟨a,rfl,ht⟩
 have D:=(y9 q ht)
 refine gh D 6 fun ah E=>?_
 refine ia (o:=0) (o' := 0) (i:=0) rfl rfl rfl AD Ao d_ rfl (gh E 11 fun G H=>?_)
 refine cl (ag3 c.de c.cQ G vn en) ?_
 rintro _ ai ⟨b,t,rfl,d,ht⟩
 have I:=(y9 H ht)
 refine gh I 6 fun aj J=>?_
 refine ia (o:=0) (o' := 1) (i:=1) rfl rfl rfl AD Ao d_ rfl (gh J 8 fun K L=>?_)
 refine cl (afp c.cQ K o_) ?_
 rintro _ ak ⟨e,f,x,rfl,M,ht⟩
 have N:=(y9 L ht)
 refine gh N 6 fun al O=>?_
 refine ia (o:=0) (o' := 2) (i:=2) rfl rfl rfl AD Ao d_ rfl (gh O 10 fun P Q=>?_)
 refine cl (ZH c.de c.cQ P v2 vn en) ?_
 rintro _ am ⟨h,j,rfl,ht⟩
 have S:=(y9 Q ht)
 refine gh S 6 fun an U=>?_
 refine ia (o:=0) (o' := 3) (i:=3) rfl rfl rfl AD Ao d_ rfl (gh U 7 fun ao z=>?_)
 refine iL (pvs:=[]) (v:=.agg #[Zc,Zc,Zc,Zc]) rfl rfl (uN [] Uw AD Ao rfl trivial rfl s_) (acz (c:=false) rfl rfl rfl AD underlying32 Ao ZA rfl (fK z 13 ?_))
 refine kC (v:=(Zb n)) (v' := Zc) results80 rfl rfl ?_
 have V:=ye [4,3,2,1,0] z
 have ap:=WW.uX w1 wi e1 en v2 vn (g:=j) d.1 d.2 M a b e f h
 exact⟨n,(⟨a,b,e,f,h,0,x,t,j,0,0⟩:WW),rfl,⟨rfl,rfl,d.1⟩,uu (yn (p:=WW.ok c (⟨a,b,e,f,h,0,x,t,j,0,0⟩:WW)) (yd [_,_,_,_,_] _ V) ap) s_⟩
theorem Vf(c:WC)(w:World)(w1:1<=c.win)(wi:c.win<=1000000)(e1:1<=c.cQ)(en:c.cQ<=16384)(v2:2<=c.de)(vn:c.de<=4096)(n:0<=c.lT/\c.lT<=16384) :
 CR ya 34 (N3 c.win c.cQ c.de c.lT) w (fun r w' => ∃ (m:Nat) (s:WW),r = .tuple (Z1 m)/\(s.now=0/\s.added=0/\∀ y,¬ s.u.has y)/\fP (fN []) w w' (WW.R c m s)):=by
 refine enter func34 rfl ntmps34 rfl ?_
 have l:=k9 w
 refine fM l 2 ?_
 refine gN l (fun h e i j a=>?_)
 refine cH a 7 ?_
 refine cl (ahB c e w1 wi e1 en v2 vn n) ?_
 rintro _ k ⟨b,f,rfl,g,ht⟩
 have d:=(y9 a ht)
 refine jk d 7 (Zb b) Zc ?_
 exact⟨b,f,rfl,g,me d⟩
section
open Go.Shelf Go.Lib Go.Sort Go.RowKit in
def Tryz.afy:Go.Shelf.Ren:=⟨fun|6=>85|15=>92|14=>151|28=>162|29=>163|20=>224|21=>225|22=>226|23=>227|24=>228|25=>229|26=>230|27=>231|46=>290|47=>233|48=>234|49=>291|50=>292|57=>329|n=>n,fun|22=>35|24=>43|25=>178|3=>3|39=>193|0=>0|53=>289|55=>39|4=>4|46=>283|45=>282|50=>160|5=>5|9=>9|66=>348|70=>351|76=>406|77=>197|n=>n,fun|n=>n⟩
open Go.Shelf Go.Lib Go.Sort Go.RowKit in
theorem Tryz.TQ:Go.Proofs.SlLaysF0.n6 Proofs.Tryz.prog Tryz.afy where
 mixed:=by kernel_rfl
 f6:=⟨Proofs.Tryz.f85.name,by(decide),Proofs.Tryz.func85.trans (congrArg some<|by kernel_rfl)⟩
 f14:=⟨Proofs.Tryz.f151.name,by(decide),Proofs.Tryz.func151.trans (congrArg some<|by kernel_rfl)⟩
 f15:=Proofs.Tryz.func92.trans (congrArg some<|by kernel_rfl)
 f20:=⟨Proofs.Tryz.f224.name,by(decide),Proofs.Tryz.func224.trans (congrArg some<|by kernel_rfl)⟩
 f21:=⟨Proofs.Tryz.f225.name,by(decide),Proofs.Tryz.func225.trans (congrArg some<|by kernel_rfl)⟩
 f22:=⟨Proofs.Tryz.f226.name,by(decide),Proofs.Tryz.func226.trans (congrArg some<|by kernel_rfl)⟩
 f23:=⟨Proofs.Tryz.f227.name,by(decide),Proofs.Tryz.func227.trans (congrArg some<|by kernel_rfl)⟩
 f24:=⟨Proofs.Tryz.f228.name,by(decide),Proofs.Tryz.func228.trans (congrArg some<|by kernel_rfl)⟩
 f25:=⟨Proofs.Tryz.f229.name,by(decide),Proofs.Tryz.func229.trans (congrArg some<|by kernel_rfl)⟩
 f26:=⟨Proofs.Tryz.f230.name,by(decide),Proofs.Tryz.func230.trans (congrArg some<|by kernel_rfl)⟩
 f27:=⟨Proofs.Tryz.f231.name,by(decide),Proofs.Tryz.func231.trans (congrArg some<|by kernel_rfl)⟩
 f28:=Proofs.Tryz.func162.trans (congrArg some<|by kernel_rfl)
 f29:=Proofs.Tryz.func163.trans (congrArg some<|by kernel_rfl)
 f46:=⟨Proofs.Tryz.f290.name,by(decide),Proofs.Tryz.func290.trans (congrArg some<|by kernel_rfl)⟩
 f47:=Proofs.Tryz.func233.trans (congrArg some<|by kernel_rfl)
 f48:=Proofs.Tryz.func234.trans (congrArg some<|by kernel_rfl)
 f49:=⟨Proofs.Tryz.f291.name,by(decide),Proofs.Tryz.func291.trans (congrArg some<|by kernel_rfl)⟩
 f50:=⟨Proofs.Tryz.f292.name,by(decide),Proofs.Tryz.func292.trans (congrArg some<|by kernel_rfl)⟩
 f57:=⟨Proofs.Tryz.f329.name,by(decide),Proofs.Tryz.func329.trans (congrArg some<|by kernel_rfl)⟩
 t0:=Proofs.Tryz.underlying0
 a0:=Proofs.Tryz.isAgg0
 z0:=Proofs.Tryz.sizeOf0
 v0:=Proofs.Tryz.zeroValue0
 t3:=Proofs.Tryz.underlying3
 a3:=Proofs.Tryz.isAgg3
 z3:=Proofs.Tryz.sizeOf3
 v3:=Proofs.Tryz.zeroValue3
 t4:=Proofs.Tryz.underlying4
 a4:=Proofs.Tryz.isAgg4
 z4:=Proofs.Tryz.sizeOf4
 v4:=Proofs.Tryz.zeroValue4
 t5:=Proofs.Tryz.underlying5
 a5:=Proofs.Tryz.isAgg5
 z5:=Proofs.Tryz.sizeOf5
 v5:=Proofs.Tryz.zeroValue5
 t9:=Proofs.Tryz.underlying9
 a9:=Proofs.Tryz.isAgg9
 z9:=Proofs.Tryz.sizeOf9
 v9:=Proofs.Tryz.zeroValue9
 t22:=Proofs.Tryz.underlying35
 a22:=Proofs.Tryz.isAgg35
 z22:=Proofs.Tryz.sizeOf35
 v22:=Proofs.Tryz.zeroValue35
 t25:=Proofs.Tryz.underlying178
 a25:=Proofs.Tryz.isAgg178
 z25:=Proofs.Tryz.sizeOf178
 v25:=Proofs.Tryz.zeroValue178
 t39:=Proofs.Tryz.underlying193
 a39:=Proofs.Tryz.isAgg193
 z39:=Proofs.Tryz.sizeOf193
 v39:=Proofs.Tryz.zeroValue193
 t45:=Proofs.Tryz.underlying282
 a45:=Proofs.Tryz.isAgg282
 z45:=Proofs.Tryz.sizeOf282
 v45:=Proofs.Tryz.zeroValue282
 t46:=Proofs.Tryz.underlying283
 a46:=Proofs.Tryz.isAgg283
 z46:=Proofs.Tryz.sizeOf283
 v46:=Proofs.Tryz.zeroValue283
 t50:=Proofs.Tryz.underlying160
 a50:=Proofs.Tryz.isAgg160
 z50:=Proofs.Tryz.sizeOf160
 v50:=Proofs.Tryz.zeroValue160
 t53:=Proofs.Tryz.underlying289
 a53:=Proofs.Tryz.isAgg289
 z53:=Proofs.Tryz.sizeOf289
 v53:=Proofs.Tryz.zeroValue289
 t55:=Proofs.Tryz.underlying39
 a55:=Proofs.Tryz.isAgg39
 z55:=Proofs.Tryz.sizeOf39
 v55:=Proofs.Tryz.zeroValue39
 t66:=Proofs.Tryz.underlying348
 a66:=Proofs.Tryz.isAgg348
 z66:=Proofs.Tryz.sizeOf348
 v66:=Proofs.Tryz.zeroValue348
 t70:=Proofs.Tryz.underlying351
 a70:=Proofs.Tryz.isAgg351
 z70:=Proofs.Tryz.sizeOf351
 v70:=Proofs.Tryz.zeroValue351
 t76:=Proofs.Tryz.underlying406
 a76:=Proofs.Tryz.isAgg406
 z76:=Proofs.Tryz.sizeOf406
 v76:=Proofs.Tryz.zeroValue406
 t77:=Proofs.Tryz.underlying197
 a77:=Proofs.Tryz.isAgg197
 z77:=Proofs.Tryz.sizeOf197
 v77:=Proofs.Tryz.zeroValue197
open Go Go.Sx Go.Lib Go.Sort Go.RowKit
theorem aco:Calls ya 152 (yN x) w fun e w' => e = .returned Zp/\w' = w:=by
 go_enter func152,ntmps152
 go_wp2
 go_ret
 exact⟨s_,rfl⟩
theorem XB:Calls ya 87 (vA x y) w fun e w' => e = .returned (Za (compareInt x y))/\w' = w:=by
 go_enter func87,ntmps87
 go_wp2_with (go_at_call 152;refine(aco _ _).mono ?_;rintro e w' ⟨rfl,a⟩;rw[a])
 all_goals (go_ret;refine⟨?_,rfl⟩;unfold compareInt;(repeat' split)<;>first|rfl|(exfalso;omega))
def Ag(x y:Lv):Int:=compareInt x.seq y.seq
theorem Xs(x y:Lv)(w:World):Calls ya 86 #[.agg x.cells.toArray,.agg y.cells.toArray] w fun e w' => e = .returned (Za (Ag x y))/\∃ q c, w' = grow (w.drewN q) c := by
 have a:=fun b => XB x.seq y.seq b
 unfold Ag
 generalize compareInt x.seq y.seq=r at a ⊢
 obtain⟨d,f,g,h,i,j,k⟩:=x
 obtain⟨y1,y2,l,m,n,o,p⟩:=y
 simp only[Lv.cells]at a ⊢
 go_enter func86,ntmps86
 go_wp2_with (go_at_call 87;refine(a _).mono ?_;rintro e w' ⟨rfl,rfl⟩)
 go_ret
 exact⟨rfl,0,_,by rw[alloc_eq_grow,alloc_eq_grow,grow_grow];rfl⟩
theorem GD(x y:Lv):ltOf Ag x y=decide (x.seq<y.seq):=by
 unfold ltOf Ag compareInt
 by_cases h1:x.seq<y.seq
 . simp[h1]
 . by_cases h2:y.seq<x.seq<;>simp[h1,h2]
theorem af0:SWO (ltOf Ag) where
 irrefl x:=by rw[GD];simp
 trans x y z h1 h2:=by rw[GD]at *;simp at *;omega
 ntrans x y z h1 h2:=by rw[GD]at *;simp at *;omega
theorem afx(v:Value)(xs:List Lv)(w:World)(i:Own (cL Lv.cells v 43 7 xs) w)(l:xs.length<=1000000) :
 CR ya 85 #[v,.func (.func 86) #[] #[]] w (fun r w' => ∃ ys:List Lv,r = .tuple #[]/\(ys.Perm xs/\ys.Pairwise fun a b=>a.seq<=b.seq)/\fP (cL Lv.cells v 43 7 xs) w w' (cL Lv.cells v 43 7 ys)):=by
 refine CR.mono (afB (cf:=Lv.cells) (k:=7) (xs:=xs) (lt:=ltOf Ag) f_ d_ i o_ (AnyF.slices_SortFunc_none (P:=ya) Tryz.TQ none 0 _ w) fun blk c d g hb j=>?_) ?_
 . exact AnyQ.slices_SortFunc (P:=ya) Tryz.TQ 7 Tryz.isAgg43 Tryz.sizeOf43 Lv.cells f_ (fun x v hv=>by simp[Lv.cells]at hv;rcases hv with rfl|rfl|rfl|rfl|rfl|rfl|rfl<;>rfl) Ag af0 86 #[] blk 0 c d w (enters_of func86 k_ rfl) (fun _ _ _ _ x y=>Xs x y _) g hb j
 . rintro r w' ⟨rfl,ys,e,f,ht⟩
   exact⟨ys,rfl,⟨e,f.imp fun {a b} h=>by rw[GD]at h;simpa using h⟩,ht⟩
end
theorem Ve(v:AW)(w:World)(a:Own (AW.R n v) w) :
 CR ya 84 (Zg n) w (fun r w' => ∃ lv,r=lv/\fP (AW.R n v) w w' (fN [AW.R n v,cL fL lv 3 1 (v.A.list v.A.begun)])):=by
 refine CR.mono (V0 n v.bv v.A w a.un a.fact) fun r w' ⟨lv,c,ht⟩=>⟨lv,c,?_⟩
 refine((fP.F8 (A:=(Dc n v.bv v.A)) (B:=[iD .i64 lv 3 (gi (v.A.list v.A.begun))]) ht).M0.GF (by have e:∀ l:List Nat,l++[]=l:=sC;simp only[AW.R,lC,fN,jb,zz,List.flatMap_nil,e];rfl) fun h=>?_)
 intro Q b
 simp only[ze,pn,or_false]at b
 rcases b with rfl|rfl
 . exact⟨a.fact,h _ s_⟩
 . rw[D0 f_]
   exact h _ (zx _ za) _ s_
theorem ag7(ub hb de:Nat)(s:fR)(w:World)(Q:Own (fR.R ub hb de s) w) :
 CR ya 41 (Zg de) w (fun r w' => ∃ (v:Value) (ys:List Lv),r=v/\s.lX ys/\fP (fR.R ub hb de s) w w' (I5 ub hb de s v ys)):=by
 have al:s.t.A.used<=s.t.A.n:=Q.fact.tok.ul
 have X:=Q.fact.n
 have ah:=Q.fact.tn
 have ag:=Q.fact.en
 have ai:=Q.fact.vn
 have ae:s.A.used<=s.A.begun:=by have U:=Q.fact.lY.used;omega
 have ac:=Q.fact.lY.le
 have aa:s.live.length=s.A.begun:=Q.fact.ll
 have af:(s.A.list s.A.begun).length=s.A.used:=Q.fact.lY.BX
 have ad:s.A.n=hb:=X
 refine enter (vs:=(Ze de)) func41 rfl ntmps41 rfl ?_
 have W:St _ (Od de ub hb s (some s.mb)) w:=Own.of Q.un
 have T:s.ok ub hb:=Q.fact
 have l:St _ [(fR.R ub hb de s)] w:=yn (p:=s.ok ub hb) (yd [_,_,_,_,_,_] _ W) T
 refine fM W 9 ?_
 refine jG (vl:=(Ze de)) rfl rfl eN (Cp ub hb de s w (lq l (i:=0) rfl)) ?_
 rintro _ e ⟨rfl,ht⟩
 have B:St _ [(fR.R ub hb de s)] e:=mB (R' := (fR.R ub hb de s)) 0 l rfl ht rfl
 have f:St _ (Od de ub hb s (some s.mb)) e:=(j7 B).unpack
 refine cH f 18 ?_
 refine jG (vl:=(Ze s.jx)) rfl rfl eN (Ve s.jx s.aw e (lq f (i:=4) rfl)) ?_
 rintro a o ⟨_,rfl,ht⟩
 have C:=ye [4,0,1,2,3,5] f
 have g:St _ [(C1 s),cL fL a 3 1 (s.A.list s.A.begun),blk de 174 (rI ub hb s (some s.mb)),cL Lv.cells s.lv 43 7 s.live,gP s.mb .u64 p_ s.im,j4 3 s.im,(C2 s)] o:=yp (mB (R' := (fN [(C1 s),cL fL a 3 1 (s.A.list s.A.begun)])) 0 C rfl ht rfl)
 refine iA (m:=(s.A.list s.A.begun).length) 1 rfl rfl yc g rfl ?_
 have D:=nU g 43 7
 have E:=ye [3,4,5,6,1,7,2,0] D
 refine fZ g 4 ?_
 refine lp (α:=Nat×Value) (fun(k,F)=>[(0,(Zb de)),(3,F),(13,a),(14,(Za ((s.A.list s.A.begun).length:Int))),(15,(Za k))]) (fun(k,F) w1=>St [(w,(fR.R ub hb de s).gq)] (Oc de ub hb s (some s.mb) a (s.A.list s.A.begun) F (((s.A.list s.A.begun).take k).map (cE s.live))) w1/\k<=(s.A.list s.A.begun).length) (fun(k,F)=>(s.A.list s.A.begun).length-k) (0,Zh) oh (⟨E,o_⟩) ?_
 rintro⟨k,F⟩ L G ⟨S,ak⟩
 refine fM S 2 ?_
 by_cases M:(k:Int)<((s.A.list s.A.begun).length:Int)
 . have V:k<(s.A.list s.A.begun).length:=by omega
   have aj:cE (s.A.list s.A.begun) k<s.live.length:=by rw[aa];exact((T.lY.qh _).1 (tf.2 ⟨k,V,rfl⟩)).1
   refine cH S 25 ?_
   refine jB (vs:=[(wU (cE s.live (cE (s.A.list s.A.begun) k)))]) (cs:=(oM (cE s.live (cE (s.A.list s.A.begun) k)))) rfl rfl qu o7 rfl (by simp[Value.cells]) rfl rfl rfl S ?_
   intro h H N O b
   have b:St _ (IS (row (.slice (some ⟨h,0,none⟩) 1 1) 43 7 1 ([(.int .i64 ((cE s.live (cE (s.A.list s.A.begun) k)).slot)),(.int .u64 ((cE s.live (cE (s.A.list s.A.begun) k)).seq)),(.int .u64 ((cE s.live (cE (s.A.list s.A.begun) k)).u)),(.int .u64 ((cE s.live (cE (s.A.list s.A.begun) k)).v)),(.int .i64 ((cE s.live (cE (s.A.list s.A.begun) k)).wt)),(.int .i64 ((cE s.live (cE (s.A.list s.A.begun) k)).t)),(.int .i64 ((cE s.live (cE (s.A.list s.A.begun) k)).exp))])) de ub hb s (some s.mb) a (s.A.list s.A.begun) F (((s.A.list s.A.begun).take k).map (cE s.live))) H:=b
   refine kR (cf:=Lv.cells) (ys:=(((s.A.list s.A.begun).take k).map (cE s.live))) (zs:=[(cE s.live (cE (s.A.list s.A.begun) k))]) (LL:=fun c=>(IS (row (.slice (some ⟨h,0,none⟩) 1 1) 43 7 1 ([(.int .i64 ((cE s.live (cE (s.A.list s.A.begun) k)).slot)),(.int .u64 ((cE s.live (cE (s.A.list s.A.begun) k)).seq)),(.int .u64 ((cE s.live (cE (s.A.list s.A.begun) k)).u)),(.int .u64 ((cE s.live (cE (s.A.list s.A.begun) k)).v)),(.int .i64 ((cE s.live (cE (s.A.list s.A.begun) k)).wt)),(.int .i64 ((cE s.live (cE (s.A.list s.A.begun) k)).t)),(.int .i64 ((cE s.live (cE (s.A.list s.A.begun) k)).exp))])) de ub hb s (some s.mb) a (s.A.list s.A.begun) c ((((s.A.list s.A.begun).take k).map (cE s.live))++[(cE s.live (cE (s.A.list s.A.begun) k))]))) 8 rfl rfl rfl qu o7 rfl d_ b rfl (kG b (i:=0) rfl) (fun x hx=>zr.1 (show List.all _ _=true from rfl) x hx) (by simp only[zk,zb,zd,zm,zw,maxLen];omega) (by simp only[zk,zb,zd,zm,zw,maxLen];omega) f_ ?_
   intro c I j P
   have j:St _ (IS (row (.slice (some ⟨h,0,none⟩) 1 1) 43 7 1 ([(.int .i64 ((cE s.live (cE (s.A.list s.A.begun) k)).slot)),(.int .u64 ((cE s.live (cE (s.A.list s.A.begun) k)).seq)),(.int .u64 ((cE s.live (cE (s.A.list s.A.begun) k)).u)),(.int .u64 ((cE s.live (cE (s.A.list s.A.begun) k)).v)),(.int .i64 ((cE s.live (cE (s.A.list s.A.begun) k)).wt)),(.int .i64 ((cE s.live (cE (s.A.list s.A.begun) k)).t)),(.int .i64 ((cE s.live (cE (s.A.list s.A.begun) k)).exp))])) de ub hb s (some s.mb) a (s.A.list s.A.begun) c ((((s.A.list s.A.begun).take k).map (cE s.live))++[(cE s.live (cE (s.A.list s.A.begun) k))])) I:=j
   have q:=ye [1,2,3,4,5,6,7,8] j
   refine fK q 8 ?_
   exact gM ((k+1),c) oh (⟨by rw[Cj _ V];exact q,o_⟩) o1
 . refine cH S 13 ?_
   refine jG (vl:=[F,(.func (.func 86) #[] #[])]) rfl rfl eN (afx F (((s.A.list s.A.begun).take k).map (cE s.live)) G (lq S (i:=7) rfl) (by rw[zm,zw];omega)) ?_
   rintro _ J ⟨d,rfl,y,ht⟩
   have z:St _ (Oc de ub hb s (some s.mb) a (s.A.list s.A.begun) F d) J:=mB (R' := cL Lv.cells F 43 7 d) 7 S rfl ht rfl
   refine gm z 9 F ?_
   have K:=ye [0,1,2,3,4,5,7,6] z
   have Y:k=(s.A.list s.A.begun).length:=by omega
   subst Y
   have Z:=fR.abN T (by have U:=y.1;rwa [sB]at U) y.2
   have ab:=yn (p:=fR.ok ub hb s) (yd [_,_,_,_,_,_] _ K) T
   exact⟨F,d,rfl,Z,yj (R' := (I5 ub hb de s F d)) (yd [_,_] _ ab) za⟩
theorem Lw{de cQ ub:Nat}{s:fR}{w:World}(h:Own (fR.R de cQ ub s) w):s.t.A.ok :=
 (j6 (Own.of (lq (Own.of h.un) (i:=5) rfl).un) (i:=3) rfl:s.t.w.A.ok)
theorem TD(sb hb n:Nat)(s:QS)(w:World)(c:Own (QS.SR sb hb n s) w)(now:Int)(d:n<=65536) :
 CR ya 73 (Zk sb now) w (fun r w' => ∃ v ds t,v=r/\sE n s t ds now/\fP (QS.SR sb hb n s) w w' (fN [QS.SR sb hb n t,cL fL v 3 1 ds])):=by
 refine CR.mono (ae7 sb hb n s w c now d) fun r w' ⟨v,ds,t,a,b,ht⟩=>⟨v,ds,t,a.symm,b,?_⟩
 rw[D0 f_]
 exact ht
theorem W5(now:Int)(w:World)(c:Own (Z0 n x now) w)(h1:1<=x)(e:ij .i64 x)(t:Int)(d:ij .i64 t)(a:now<=t)(b:-9223372036854775808<=t+x/\t+x<=9223372036854775807) :
 CR ya 72 (Zk n t) w (fun r w' => r = .int .i64 0/\fP (Z0 n x now) w w' (Z0 n x t)):=by
 have h:=W6 n x now w c h1 e t d
 rw[PJ a b,if_pos rfl]at h
 exact h
theorem Nh(c:WC)(S:Nat)(s:WW)(w:World)(Y:Own (WW.R c S s) w)(T:Int)(Z:s.now<=T)(ae:T<=1000000) :
 CR ya 31 (Zk S T) w (fun r w' => ∃ (s2:WW),r = .int .i64 0/\((s2.now=T/\s2.added=s.added/\(∀ y,s2.u.has y↔s.u.has y/\T<y.exp)/\s2.u.last=s.u.last)/\WW.p5 16384 s s2)/\fP (WW.R c S s) w w' (WW.R c S s2)):=by
 refine gj func31 ?_
 have X:=Own.of Y.un
 have v:s.ok c:=Y.fact
 have ak:=v.w1
 have an:=v.wi
 have ao:=v.n0
 have ap:=v.n1
 have ad:fR.ok c.de c.cQ s.u:=(j6 X (i:=2) rfl)
 have al:=v.en
 have au:=v.e1
 have ax:=v.v2
 have ay:=v.vn
 have aq:=v.a0
 have ar:=v.a1
 have aw:=v.la
 have av:=ad.ug
 have n:=yn (p:=s.ok c) (yd [_,_,_,_,_] _ X) v
 refine fM X 9 ?_
 refine gF 0 n (xZ c S s w ·) fun z A=>?_
 have f:=(j7 A).unpack
 refine cH f 14 ?_
 refine gF 1 f (W5 s.cb c.win s.now z · ak (kZ o_) T (kZ o_) Z o_) fun B h=>?_
 refine cH h 20 ?_
 refine cl (TD s.sb s.hb c.cQ s.q B (yg h 3 rfl) T o_) ?_
 rintro _ K ⟨o,a,j,rfl,b,ht⟩
 have C:=ye [3,0,1,2,4] h
 have l:=yp (yt 0 C ht)
 have ag:a.length<=c.cQ:=b.len
 refine iA (m:=a.length) 1 rfl rfl yc l rfl ?_
 have D:=ye [2,3,4,0,5,1] l
 refine fZ l 4 ?_
 refine lp (α:=Nat×fR×GW×Int) (fun(k,F,g2,ex)=>[(0,(Zb S)),(25,o),(26,(Za a.length)),(27,(Za k))]) (fun(k,F,g2,ex) w1=>St [(w,(WW.R c S s).gq)] [blk S 118 [(Za c.win),(Za c.cQ),(Za c.de),(Za c.lT),(Zb s.cb),(Zb s.ub),(Zb s.sb),(Zb s.ob),(Zo s.added),(Zo ex)],(Z0 s.cb c.win T),(fR.R c.de c.cQ s.ub F),(QS.SR s.sb s.hb c.cQ j),(GW.R c.de c.cQ s.ob g2),cL fL o 3 1 a] w1/\pH s.u F (a.take k)/\ij .u64 ex/\k<=a.length/\ex=IntKind.u64.wrap (s.oS+(k:Int))) (fun(k,F,g2,ex)=>a.length-k) (0,s.u,s.g,s.oS) oh (⟨D,pH.start _,v.ex,o_,ahO v.ex⟩) ?_
 rintro⟨k,F,g2,ex⟩ L E ⟨V,U,ah,am,W⟩
 refine fM V 2 ?_
 by_cases M:(k:Int)<(a.length:Int)
 . have ac:k<a.length:=by omega
   refine cH V 22 ?_
   refine cl (ZG c.de c.cQ s.ob g2 E (yg V 4 rfl)) ?_
   rintro _ G ⟨H,N,O,rfl,ht⟩
   have d:=yt 4 V ht
   have aj:=(j6 d (i:=2) rfl:fR.ok c.de c.cQ F)
   have af:=pH.can U v.Cg aj b (fW ac)
   refine cH d 9 ?_
   refine cl (US c.de c.cQ s.ub F G (yg d 2 rfl) (cE a k) af) ?_
   rintro _ P ⟨I,rfl,t,ht⟩
   have x:=yt 2 d ht
   refine cH x 7 ?_
   refine gL (e:=IntKind.u64.wrap (ex+1)) rfl rfl (jI x 10 fun Q J=>?_)
   exact gM ((k+1),I,H,IntKind.u64.wrap (ex+1)) oh (⟨J,by rw[nY,fW ac];exact U.next t.1 t.2.1,aao _,o_,by rw[W];exact ahP⟩) o1
 . refine gm V 16 Zc ?_
   have ab:k=a.length:=by omega
   rw[ab,sB]at U
   rw[ab]at W
   have aa:=U.fin v.Cg ad b
   have ai:=v.tick Z ae ah b aa U.last (g2:=g2)
   exact⟨(⟨s.cb,s.ub,s.sb,s.hb,s.ob,T,j,F,g2,s.added,ex⟩:WW),rfl,⟨⟨rfl,rfl,aa,U.last⟩,U.HM rfl W (kS ag al)⟩,yj (yn (p:=WW.ok c (⟨s.cb,s.ub,s.sb,s.hb,s.ob,T,j,F,g2,s.added,ex⟩:WW)) (yd [_,_,_,_,_] _ V) ai) za⟩
theorem ah1(c:WC)(a:Nat)(s:WW)(w:World)(f:Own (WW.R c a s) w)(T:Int)(g:s.now<=T)(h:T<=1000000) :
 CR ya 31 (Zk a T) w (fun r w' => ∃ (s2:WW),r = .int .i64 0/\(s2.now=T/\s2.added=s.added/\(∀ y,s2.u.has y↔s.u.has y/\T<y.exp)/\s2.u.last=s.u.last)/\fP (WW.R c a s) w w' (WW.R c a s2)) :=
 CR.mono (Nh c a s w f T g h) fun r w' ⟨s2,b,d,e⟩=>⟨s2,b,d.1,e⟩
theorem Xb(now:Int)(w:World)(b:Own (Z0 n x now) w)(h1:1<=x)(d:ij .i64 x)(t:Int)(c:ij .i64 t)(a:-9223372036854775808<=t+x/\t+x<=9223372036854775807) :
 CQ ya 138 (Zk n t) w (.tuple (uL (t+x))) (Z0 n x now):=by
 have h:=Xc n x now w b h1 d t c
 rw[yW a]at h
 exact h
theorem ahD(c:WC)(wb:Nat)(s:WW)(w:World)(hO:Own (WW.R c wb s) w)(x:Lv)(az:x.ok)(aC:x.t=s.now)(hc:s.u.gO c.de c.cQ x.u x.v=0)(ha:s.added<1000000) :
 CR ya 79 (wR wb x) w (fun r w' => ∃ (s2:WW),r = .tuple #[]/\(s2.now=s.now/\s2.added=s.added+1/\(∃ i:Nat,∀ y,s2.u.has y↔s.u.has y\/y=(⟨((i:Nat):Int),s.u.last+1,x.u,x.v,x.wt,x.t,x.t+c.win⟩:Lv))/\s2.u.last=s.u.last+1/\s2.oS=s.oS)/\fP (WW.R c wb s) w w' (WW.R c wb s2)):=by
 refine gj func79 ?_
 have aA:=Own.of hO.un
 have F:s.ok c:=hO.fact
 have aJ:=F.w1
 have aN:=F.wi
 have aO:=F.n0
 have aP:=F.n1
 have aB:fR.ok c.de c.cQ s.u:=(j6 aA (i:=2) rfl)
 have aT:=F.en
 have aS:=F.e1
 have aW:=F.v2
 have aX:=F.vn
 have aQ:=F.a0
 have aR:=F.a1
 have aV:=F.la
 have aU:=aB.ug
 have aG:s.u.last<=9000000000000000000:=by omega
 have aY:=aC
 have aK:Lv.ok (Lv.mk x.slot x.seq x.u x.v x.wt x.t (x.t+c.win)):=⟨az.slot,az.seq,az.u,az.v,az.wt,az.t,kZ (by show _/\_;dsimp only;omega)⟩
 refine fM aA 2 ?_
 refine gN aA (fun ag ah ai aj I=>?_)
 refine gh I 10 fun J l=>?_
 refine gF 2 l (Xb s.cb c.win s.now J · aJ (kZ o_) x.t az.t o_) fun ak m=>?_
 refine fZ m 8 ?_
 refine xI mixed [0,1,2,3,4,5] [6,10] [(10,[3,4])] [7,8,9,11,12] m (fun am n=>xY ?_)
 refine fK n 7 ?_
 refine nF trivial ?_
 have K:=ye [3,0,1,2,4,5] n
 refine xW [⟨6,29,[],[(fR.R c.de c.cQ s.ub s.u)],Nat×fR,fun(a,b)=>(.tuple #[(.agg #[(Za ((a:Nat):Int)),(Zo (s.u.last+1)),(Zo x.u),(Zo x.v),(Za x.wt),(Za x.t),(Za (x.t+c.win))]),Zc]),fun(a,b)=>[lC ((∀ y,fR.has b y↔s.u.has y\/y=(⟨((a:Nat):Int),s.u.last+1,x.u,x.v,x.wt,x.t,x.t+c.win⟩:Lv))/\fR.last b=s.u.last+1/\TW.Kp s.u.t (fR.t b)) (fR.R c.de c.cQ s.ub b)]⟩,⟨10,6,[],[],Nat,fun f=>(Zb f),fun f=>[blk f 43 pK]⟩] K ⟨mT (fun Z wq hM _=>cl (ag5 c.de c.cQ s.ub s.u wq (yg hM 0 rfl) (Lv.mk x.slot x.seq x.u x.v x.wt x.t (x.t+c.win)) aK hc aG) (fun _ _ hz=>by obtain⟨L,M,rfl,aE,aI⟩:=hz;exact have hK:=(yt 0 hM (aI.M7 aE));nh ⟨(L,M),rfl,hK,trivial⟩)),mT (fun Z wq hM _=>al (cs:=pK) rfl o7 rfl hM (fun N _ _ _ h=>have hK:=h;nh ⟨N,rfl,hK,trivial⟩))⟩ ?_
 rintro⟨a,b⟩ f an O
 refine jI O 6 fun ao P=>?_
 have o:=ye [1,0,2,3,4,5,6] P
 have d:=qT o
 have z:=j7 o
 have T:=(j6 z (i:=0) rfl:fR.ok c.de c.cQ b)
 have aF:=F.free aB T (i:=a) (e:=(⟨((a:Nat):Int),s.u.last+1,x.u,x.v,x.wt,x.t,x.t+c.win⟩:Lv)) rfl rfl d.1
 have aD:a<c.cQ:=by obtain⟨j,h7,_,_,h8⟩:=T.BO ((d.1 _).2 (.inr rfl));have h9:((a:Nat):Int)=(j:Int):=h7;omega
 refine TC tt none z 9 fun Q A=>?_
 refine cl (HK c.de c.cQ s.ub b Q (yg A 0 rfl) x.u) ?_
 rintro _ ap ⟨B,aq,rfl,S,ht⟩
 have U:=yt 0 A ht
 have aL:B<c.de:=by have h7:=TW.pE.lt S T.tok (by rw[T.tn];omega);rw[T.tn]at h7;exact h7
 refine gh U 15 fun V C=>?_
 refine cl (HK c.de c.cQ s.ub b V (yg C 0 rfl) x.v) ?_
 rintro _ ar ⟨D,au,rfl,W,ht⟩
 have X:=yt 0 C ht
 have aM:D<c.de:=by have h7:=TW.pE.lt W T.tok (by rw[T.tn];omega);rw[T.tn]at h7;exact h7
 refine gh X 16 fun Y E=>?_
 refine cl (afK s.sb s.hb c.cQ s.q Y (yg E 5 rfl) a aD aF (x.t+c.win) (kZ o_)) ?_
 rintro _ av ⟨G,rfl,aa,ht⟩
 have ab:=yt 5 E ht
 refine gh ab 13 fun ac H=>?_
 refine cl (Y8 c.de c.cQ s.ob s.g ac (yg H 6 rfl) a B D (x.t+c.win) aD aL aM (kZ o_)) ?_
 rintro _ aw ⟨k,ax,rfl,ht⟩
 have ad:=yt 6 H ht
 refine jI ad 12 fun ay ae=>?_
 refine lZ results79 ?_
 have af:=ye [3,4,0,5,6,1,2] ae
 have aH:=F.ins aB (i:=a) (e:=(⟨((a:Nat):Int),s.u.last+1,x.u,x.v,x.wt,x.t,x.t+c.win⟩:Lv)) rfl rfl aC (by show x.t+c.win=_;rw[aC]) d.1 d.2.1 aa ha (g2:=k)
 exact⟨(⟨s.cb,s.ub,s.sb,s.hb,s.ob,s.now,G,b,k,s.added+1,s.oS⟩:WW),rfl,⟨rfl,rfl,⟨a,d.1⟩,d.2.1,rfl⟩,yj (yn (p:=WW.ok c (⟨s.cb,s.ub,s.sb,s.hb,s.ob,s.now,G,b,k,s.added+1,s.oS⟩:WW)) (yd [_,_,_,_,_] _ af) aH) za⟩
theorem ahZ(c:WC)(wb:Nat)(s:WW)(w:World)(hO:Own (WW.R c wb s) w)(x:Lv)(aY:x.ok) :
 CR ya 78 (wR wb x) w (fun r w' => ∃ (e:Int),r = .int .i64 e/\((e=0->Room c s x)/\(s.u.gO c.de c.cQ x.u x.v=0->e=0))/\fP (WW.R c wb s) w w' (WW.R c wb s)):=by
 refine gj func78 ?_
 have aM:=Own.of hO.un
 have F:s.ok c:=hO.fact
 have a3:=F.w1
 have a4:=F.wi
 have a5:=F.n0
 have a6:=F.n1
 have aP:fR.ok c.de c.cQ s.u:=(j6 aM (i:=2) rfl)
 have ba:=F.en
 have a9:=F.e1
 have bd:=F.v2
 have be:=F.vn
 have a7:=F.a0
 have a8:=F.a1
 have bc:=F.la
 have bb:=aP.ug
 have aT:=Lw (yg aM 2 rfl)
 have bf:=aY.t.i64
 refine fM aM 2 ?_
 refine gN aM (fun B al am an N=>?_)
 refine gh N 10 fun O C=>?_
 refine gF 3 C (MZ c.de c.cQ s.ub s.u O · x) fun D b=>?_
 refine cH b 7 ?_
 by_cases E:(fR.gO s.u c.de c.cQ x.u x.v:Int)=0
 . have aK:=E
   refine gm b 11 Zc ?_
   have P:=ye [1,2,3,4,5,0] b
   exact⟨0,rfl,⟨(fun _=>Room.of aP aT aK fun y hy=>hy.1),fun _=>rfl⟩,yj (yn (p:=s.ok c) (yd [_,_,_,_,_] _ P) F) za⟩
 . have aK:=E
   obtain⟨Q,ao⟩:∃ q,AL s.q.dQ.length=q:=⟨_,rfl⟩
   refine cH b 13 ?_
   rcases Q with h0|h0
   . skip
     refine gF 4 b (afq s.sb s.hb c.cQ s.q D · h0) fun ap G=>?_
     refine cH G 3 ?_
     refine ir G (fun aq ar au av S=>?_)
     refine jI S 26 fun aw U=>?_
     refine gT (v:=(Za (fR.gO s.u c.de c.cQ x.u x.v))) results78 rfl ?_
     have V:=ye [2,3,4,5,6,0,1] U
     exact⟨fR.gO s.u c.de c.cQ x.u x.v,rfl,⟨(fun T=>absurd T aK),fun T=>absurd T aK⟩,yj (yn (p:=s.ok c) (yd [_,_,_,_,_] _ V) F) za⟩
   . skip
     refine gF 4 b (afr s.sb s.hb c.cQ s.q D · h0) fun ax H=>?_
     refine cH H 3 ?_
     refine ir H (fun ay az aA aB W=>?_)
     refine gh W 13 fun X d=>?_
     by_cases aC:((cE s.q.dQ 0).key:Int)>(x.t:Int)
     . refine gm d 13 (Za (fR.gO s.u c.de c.cQ x.u x.v)) ?_
       have Y:=ye [2,3,4,5,6,0,1] d
       exact⟨fR.gO s.u c.de c.cQ x.u x.v,rfl,⟨(fun T=>absurd T aK),fun T=>absurd T aK⟩,yj (yn (p:=s.ok c) (yd [_,_,_,_,_] _ Y) F) za⟩
     . refine cH d 13 ?_
       refine cl (ag0 c.de c.cQ s.ub s.u X (yg d 4 rfl)) ?_
       rintro _ aD ⟨f,h,rfl,n,ht⟩
       have Z:=ye [4,0,1,2,3,5,6] d
       have I:=yp (yt 0 Z ht)
       refine fZ I 5 ?_
       refine jS mixed [([0,1,2,3,5,6,9,4],[6])] [7,8] I (fun aa o=>iY ?_)
       refine cH o 7 ?_
       refine cl (ae5 s.sb s.hb c.cQ s.q aa (yg o 6 rfl)) ?_
       rintro _ ab ⟨ac,ad,ae,rfl,af,ht⟩
       have ag:=ye [6,0,1,2,3,4,5,7] o
       have z:=yp (yt 0 ag ht)
       refine fK z 1 ?_
       refine jF (jX ?_)
       refine cl (TD ac ad c.cQ ae ab (yg z 1 rfl) x.t o_) ?_
       rintro _ aE ⟨J,a,aF,rfl,ah,ht⟩
       have ai:=ye [1,0,2,3,4,5,6,7,8] z
       have j:=yp (yt 0 ai ht)
       have A:=sE.acU ah af
       refine iA (m:=a.length) 1 rfl rfl yc j rfl ?_
       have aZ:a.length<=c.cQ:=A.len
       have aO:EY h s.q:=fun e=>(F.Cg e).trans ⟨fun⟨y,h1,h2⟩=>⟨y,(n.1 y).2 h1,h2⟩,fun⟨y,h1,h2⟩=>⟨y,(n.1 y).1 h1,h2⟩⟩
       have aW:=(j6 j (i:=4) rfl:fR.ok c.de c.cQ h)
       have aj:=ye [7,8,3,2,9,4,1,6] j
       refine fZ j 3 ?_
       refine lp (α:=Nat×fR) (fun(k,u2)=>[(3,(Zb B)),(8,(Zb f)),(49,J),(50,(Za a.length)),(51,(Za k))]) (fun(k,u2) w1=>St [(w,(WW.R c wb s).gq)] [blk wb 118 (OA c.win c.cQ c.de c.lT s),(blk s.cb 247 (Zm c.win s.now)),(fR.R c.de c.cQ s.ub s.u),(QS.SR s.sb s.hb c.cQ s.q),(GW.R c.de c.cQ s.ob s.g),(fR.R c.de c.cQ f u2),cL fL J 3 1 a,blk B 41 (rK x)] w1/\pH h u2 (a.take k)/\k<=a.length) (fun(k,u2)=>a.length-k) (0,h) oh (⟨aj,pH.start _,o_⟩) ?_
       rintro⟨k,u2⟩ aG K ⟨aL,hR,a2⟩
       refine fM aL 2 ?_
       by_cases aH:(k:Int)<(a.length:Int)
       . have aN:k<a.length:=by omega
         have aV:=(j6 aL (i:=5) rfl:fR.ok c.de c.cQ u2)
         have aQ:=pH.can hR aO aV A (fW aN)
         refine cH aL 19 ?_
         refine cl (US c.de c.cQ f u2 K (yg aL 5 rfl) (cE a k) aQ) ?_
         rintro _ aI ⟨ak,rfl,L,ht⟩
         have M:=yt 5 aL ht
         refine fK M 7 ?_
         exact gM ((k+1),ak) oh (⟨M,by rw[nY,fW aN];exact hR.next L.1 L.2.1,o_⟩) o1
       . refine cH aL 14 ?_
         refine gF 5 aL (MZ c.de c.cQ f u2 K · x) fun aJ l=>?_
         refine gm l 4 (Za (fR.gO u2 c.de c.cQ x.u x.v)) ?_
         have aX:=(j6 l (i:=5) rfl:fR.ok c.de c.cQ u2)
         have aU:=Lw (yg l 5 rfl)
         have aS:k=a.length:=by omega
         rw[aS,sB]at hR
         have aR:=hR.fin aO aW A
         exact⟨fR.gO u2 c.de c.cQ x.u x.v,rfl,⟨(fun T=>Room.of aX aU T fun y hy=>(aR y).2 ⟨(n.1 y).2 hy.1,hy.2⟩),fun T=>absurd T aK⟩,yj (yn (p:=s.ok c) (yd [_,_,_,_,_] _ l) F) za⟩
theorem oV{c:WC}{a:Nat}{s:WW}{w:World}(h:Own (WW.R c a s) w):s.ok c/\s.u.ok c.de c.cQ/\s.u.t.A.ok :=
 ⟨h.fact,(j6 (Own.of h.un) (i:=2) rfl:fR.ok c.de c.cQ s.u),Lw (lq (Own.of h.un) (i:=2) rfl)⟩
theorem W8(now:Int)(w:World)(c:Own (Z0 n x now) w)(h1:1<=x)(e:ij .i64 x)(t:Int)(d:ij .i64 t)(a:now<=t)(b:-9223372036854775808<=t+x/\t+x<=9223372036854775807) :
 CQ ya 77 (Zk n t) w (.int .i64 0) (Z0 n x now):=by
 have h:=PE n x now w c h1 e t d
 rw[PJ a b]at h
 exact h
theorem U3(c:WC)(T:Nat)(s:WW)(w:World)(Y:Own (WW.R c T s) w)(x:Lv)(W:x.ok)(ab:s.now<=x.t)(aj:x.t<=1000000)(ha:s.added<1000000) :
 CR ya 33 (wR T x) w (fun r w' => ∃ (e:Int) (s2:WW),r = .int .i64 e/\(WW.NG c s s2 x e/\WW.p5 (16384+1) s s2)/\fP (WW.R c T s) w w' (WW.R c T s2)):=by
 refine gj func33 ?_
 have V:=Own.of Y.un
 have F:s.ok c:=Y.fact
 have ah:=F.w1
 have al:=F.wi
 have am:=F.n0
 have an:=F.n1
 have ag:fR.ok c.de c.cQ s.u:=(j6 V (i:=2) rfl)
 have ar:=F.en
 have aq:=F.e1
 have aw:=F.v2
 have ax:=F.vn
 have ao:=F.a0
 have ap:=F.a1
 have av:=F.la
 have au:=ag.ug
 refine fM V 2 ?_
 refine gN V (fun L z M N k=>?_)
 have A:=ye [1,2,3,4,5,0] k
 have l:=yn (p:=s.ok c) (yd [_,_,_,_,_] _ A) F
 refine cH k 7 ?_
 refine gF 0 l (xZ c T s z ·) fun O B=>?_
 have d:=(j7 B).unpack
 refine cH d 13 ?_
 by_cases P:(x.u:Int)=(x.v:Int)
 . refine gm d 11 yR ?_
   have C:=yn (p:=s.ok c) (yd [_,_,_,_,_] _ d) F
   exact⟨9,s,rfl,⟨⟨WW.Step.same s x,fun U=>absurd U o_,fun U=>absurd o_ (fR.JI U).1⟩,WW.p5.refl _ _⟩,iM C⟩
 . refine gh d 15 fun D m=>?_
   refine gF 1 m (W8 s.cb c.win s.now D · ah (kZ o_) x.t W.t ab o_) fun E j=>?_
   refine cH j 19 ?_
   refine gz rfl (p9 o_) ?_
   have n:=yn (p:=s.ok c) (yd [_,_,_,_,_] _ j) F
   refine cH j 10 ?_
   refine cl (ahZ c T s E (yg n 0 rfl) x W) ?_
   rintro _ G ⟨f,rfl,o,ht⟩
   have b:=yt 0 n ht
   refine cH b 6 ?_
   by_cases H:(f:Int)=0
   . have af:f=0:=by have X:=@H;omega
     refine cH b 11 ?_
     refine cl (Nh c T s G (yg b 0 rfl) x.t ab aj) ?_
     rintro _ I ⟨g,rfl,J,ht⟩
     have h:=yt 0 b ht
     obtain⟨S,ac⟩:=J
     have aa:=oV (yg h 0 rfl)
     have ae:=o.1 af g.u aa.2.1 aa.2.2 S.2.2.1
     have ai:x.t=g.now:=S.1.symm
     have ad:g.added<1000000:=by rw[S.2.1];exact ha
     refine cH h 6 ?_
     refine cl (ahD c T g I (yg h 0 rfl) x W ai ae ad) ?_
     rintro _ Q ⟨K,rfl,a,ht⟩
     have q:=yt 0 h ht
     refine gm q 8 Zc ?_
     obtain⟨ak,Z⟩:=a.2.2.1
     exact⟨0,K,rfl,⟨⟨⟨.inr (a.1.trans S.1),by rw[a.2.1,S.2.1];exact AV _,fun y hy=>((Z y).1 hy).elim (fun X=>.inl ((S.2.2.1 y).1 X).1) (fun e9=>.inr (by rw[e9];exact⟨rfl,rfl,rfl⟩))⟩,fun _=>⟨⟨ak,fun y=>by rw[<-S.2.2.2];exact(Z y).trans (or_congr_left (S.2.2.1 y))⟩,a.2.2.2.1.trans (by rw[S.2.2.2]),a.1.trans S.1,a.2.1.trans (by rw[S.2.1])⟩,fun _=>rfl⟩,ac.trans (WW.p5.ins a.2.1 a.2.2.2.2)⟩,iM q⟩
   . refine gm b 12 (Za f) ?_
     exact⟨f,s,rfl,⟨⟨WW.Step.same s x,fun U=>absurd U o_,fun U=>o.2 U⟩,WW.p5.refl _ _⟩,iM b⟩
theorem U4(c:WC)(a:Nat)(s:WW)(w:World)(g:Own (WW.R c a s) w)(x:Lv)(i:x.ok)(j:s.now<=x.t)(k:x.t<=1000000)(h:s.added<1000000) :
 CR ya 33 (wR a x) w (fun r w' => ∃ (e:Int) (s2:WW),r = .int .i64 e/\WW.NG c s s2 x e/\fP (WW.R c a s) w w' (WW.R c a s2)) :=
 CR.mono (U3 c a s w g x i j k h) fun r w' ⟨e,s2,b,d,f⟩=>⟨e,s2,b,d.1,f⟩
theorem ahu(c:WC)(a:Nat)(s:WW)(w:World)(g:Own (WW.R c a s) w)(x:Lv)(i:x.ok)(j:s.now<=x.t)(k:x.t<=1000000)(h:s.added<1000000) :
 CR ya 33 (wR a x) w (fun r w' => ∃ (e:Int) (s2:WW),r = .int .i64 e/\WW.Step s s2 x/\fP (WW.R c a s) w w' (WW.R c a s2)) :=
 CR.mono (U4 c a s w g x i j k h) fun r w' ⟨e,s2,b,d,f⟩=>⟨e,s2,b,d.step,f⟩
theorem ag6(hb de:Nat)(s:fR)(w:World)(c:Own (fR.R n hb de s) w) :
 CR ya 41 (Zg de) w (fun r w' => ∃ (v:Value) (ys:List Lv),v=r/\s.lX ys/\fP (fR.R n hb de s) w w' (I5 n hb de s v ys)) :=
 CR.mono (ag7 n hb de s w c) fun r w' ⟨v,ys,a,b,ht⟩=>⟨v,ys,a.symm,b,ht⟩
theorem Nb(c:WC)(q:Nat)(s:WW)(w:World)(x:Own (WW.R c q s) w) :
 CR ya 9 (Zg q) w (fun r w' => ∃ (v:Value) (ys:List Lv),v=r/\s.u.lX ys/\fP (WW.R c q s) w w' (fN [(WW.R c q s),cL Lv.cells v 43 7 ys])):=by
 refine gj func9 ?_
 have t:=Own.of x.un
 have o:s.ok c:=x.fact
 have z:=o.w1
 have A:=o.wi
 have B:=o.n0
 have C:=o.n1
 have y:fR.ok c.de c.cQ s.u:=(j6 t (i:=2) rfl)
 have G:=o.en
 have F:=o.e1
 have J:=o.v2
 have K:=o.vn
 have D:=o.a0
 have E:=o.a1
 have I:=o.la
 have H:=y.ug
 have b:=yn (p:=s.ok c) (yd [_,_,_,_,_] _ t) o
 refine fM t 9 ?_
 refine gF 0 b (xZ c q s w ·) fun f g=>?_
 have a:=(j7 g).unpack
 refine cH a 12 ?_
 refine cl (ag6 c.de c.cQ s.ub s.u f (yg a 2 rfl)) ?_
 rintro _ n ⟨d,h,rfl,j,ht⟩
 have k:=ye [2,0,1,3,4] a
 have e:=yp (yt 0 k ht)
 refine gm e 4 d ?_
 have l:=ye [2,3,0,4,5,1] e
 have m:=yn (p:=s.ok c) (yd [_,_,_,_,_] _ l) o
 exact⟨d,h,rfl,j,yk m⟩
theorem ahK(v:AW)(w:World)(a:Own (AW.R n v) w) :
 CR ya 84 (Zg n) w (fun r w' => ∃ lv,lv=r/\fP (AW.R n v) w w' (fN [AW.R n v,cL fL lv 3 1 (v.A.list v.A.begun)])) :=
 CR.mono (Ve n v w a) fun r w' ⟨lv,h,ht⟩=>⟨lv,h.symm,ht⟩
theorem agJ(tb hb:Nat)(t:TW)(w:World)(hO:Own (TW.R tb hb t) w)(aj:t.A.used<=12) :
 CR ya 223 (Zg tb) w (fun r w' => ∃ (v:Value) (K:List Int),v=r/\((K.Pairwise fun a b=>a<b)/\∀ x,x∈K↔t.mem x)/\fP (TW.R tb hb t) w w' (fN [(TW.R tb hb t),cL iB v 39 1 K])):=by
 refine enter (vs:=(Ze tb)) func223 rfl ntmps223 rfl ?_
 have ac:=Own.of hO.un
 have hT:t.ok:=hO.fact
 have Z:t.A.ok:=(j6 ac (i:=3) rfl:t.w.A.ok)
 have ag:(t.A.list t.A.begun).length=t.A.used:=Z.BX
 have s:=yd [_,_,_] _ ac
 refine fM ac 9 ?_
 refine jG (vl:=(Ze tb)) rfl rfl eN (xU tb hb t w (lq s (i:=0) rfl) hT) ?_
 rintro _ u ⟨rfl,ht⟩
 have h:St _ (NN tb hb t) u:=(mB (R' := (Z5 tb hb t)) 0 s rfl ht rfl).unpack
 refine cH h 12 ?_
 refine jG (vl:=(Ze hb)) rfl rfl eN (Na hb t.w u (lq h (i:=3) rfl)) ?_
 rintro _ D ⟨rfl,ht⟩
 have E:St _ (NN tb hb t) D:=mB (R' := (AW.R hb t.w)) 3 h rfl ht rfl
 refine kA (cf:=iB) (z0:=0) (m:=0) (c:=t.A.used) rfl rfl rfl yx jm rfl f_ d_ (ko _) o_ o_ E ?_
 intro j y Q S G
 have l:=St.bZ (cf:=iB) 0 G
 refine cH l 10 ?_
 refine jG (vl:=(Ze hb)) rfl rfl eN (ahK hb t.w y (lq l (i:=4) rfl)) ?_
 rintro _ H ⟨d,rfl,ht⟩
 have I:=ye [4,0,1,2,3] l
 have n:St _ [(AW.R hb t.w),cL fL d 3 1 (t.A.list t.A.begun),cL iB (CZ j t.A.used) 39 1 (((t.A.list t.A.begun).take 0).map (cE t.ids)),blk tb 302 (rH tb hb t),cL iB t.iv 39 1 t.ids,cL fL t.cv 3 1 t.cs] H:=yp (mB (R' := (fN [(AW.R hb t.w),cL fL d 3 1 (t.A.list t.A.begun)])) 0 I rfl ht rfl)
 refine iA (m:=(t.A.list t.A.begun).length) 1 rfl rfl yc n rfl ?_
 have J:=ye [3,4,5,0,1,2] n
 refine fZ n 4 ?_
 refine lp (α:=Nat×Value) (fun(k,F)=>[(0,(Zb tb)),(3,F),(19,d),(20,(Za ((t.A.list t.A.begun).length:Int))),(21,(Za k))]) (fun(k,F) w1=>St [(w,(TW.R tb hb t).gq)] (Oj tb hb t d (t.A.list t.A.begun) F (((t.A.list t.A.begun).take k).map (cE t.ids))) w1/\k<=(t.A.list t.A.begun).length) (fun(k,F)=>(t.A.list t.A.begun).length-k) (0,(CZ j t.A.used)) oh (⟨J,o_⟩) ?_
 rintro⟨k,F⟩ U L ⟨T,ai⟩
 refine fM T 2 ?_
 by_cases V:(k:Int)<((t.A.list t.A.begun).length:Int)
 . have ad:k<(t.A.list t.A.begun).length:=by omega
   have ah:cE (t.A.list t.A.begun) k<t.ids.length:=by rw[hT.uR];exact((Z.qh _).1 (tf.2 ⟨k,ad,rfl⟩)).1
   refine cH T 25 ?_
   refine jB (vs:=(Zw (cE t.ids (cE (t.A.list t.A.begun) k)))) (cs:=(Zw (cE t.ids (cE (t.A.list t.A.begun) k)))) rfl rfl yx jm rfl (by simp[Value.cells]) rfl rfl rfl T ?_
   intro o M W X e
   have e:St _ (I3 o ([(cE t.ids (cE (t.A.list t.A.begun) k))]) tb hb t d (t.A.list t.A.begun) F (((t.A.list t.A.begun).take k).map (cE t.ids))) M:=e
   refine kR (cf:=iB) (ys:=(((t.A.list t.A.begun).take k).map (cE t.ids))) (zs:=[(cE t.ids (cE (t.A.list t.A.begun) k))]) (LL:=fun f=>(I3 o ([(cE t.ids (cE (t.A.list t.A.begun) k))]) tb hb t d (t.A.list t.A.begun) f ((((t.A.list t.A.begun).take k).map (cE t.ids))++[(cE t.ids (cE (t.A.list t.A.begun) k))]))) 6 rfl rfl rfl yx jm rfl d_ e rfl (kG e (i:=0) rfl) (fun x hx=>zr.1 (show List.all _ _=true from rfl) x hx) (by simp only[zk,zb,zd,zm,zw,maxLen];omega) (by simp only[zk,zb,zd,zm,zw,maxLen];omega) f_ ?_
   intro f N q Y
   have q:St _ (I3 o ([(cE t.ids (cE (t.A.list t.A.begun) k))]) tb hb t d (t.A.list t.A.begun) f ((((t.A.list t.A.begun).take k).map (cE t.ids))++[(cE t.ids (cE (t.A.list t.A.begun) k))])) N:=q
   have z:=ye [1,2,3,4,5,6] q
   refine fK z 8 ?_
   exact gM ((k+1),f) oh (⟨by rw[Cj _ ad];exact z,o_⟩) o1
 . refine cH T 13 ?_
   refine jG (vl:=[F]) rfl rfl eN (afA F (((t.A.list t.A.begun).take k).map (cE t.ids)) L (lq T (i:=5) rfl) (by rw[zm,zw];omega)) ?_
   rintro _ O ⟨g,rfl,B,ht⟩
   have C:St _ (Oj tb hb t d (t.A.list t.A.begun) F g) O:=mB (R' := cL iB F 39 1 g) 5 T rfl ht rfl
   refine gm C 9 F ?_
   have P:=ye [0,1,2,3,5,4] C
   have ae:k=(t.A.list t.A.begun).length:=by omega
   subst ae
   have aa:=B.1
   rw[sB]at aa
   have af:=(aa.nodup_iff).2 (TW.QX hT Z)
   exact⟨F,g,rfl,⟨B.2.kN af,fun x=>aa.mem_iff.trans (TW.Kr Z x)⟩,yj (R' := (fN [(TW.R tb hb t),cL iB F 39 1 g])) (yd [_,_] _ (yn (p:=t.ok) (yd [_,_,_,_] _ P) hT)) za⟩
theorem ag4(ub hb de:Nat)(s:fR)(w:World)(m:Own (fR.R ub hb de s) w)(x:ub<=12) :
 CR ya 148 (Zg de) w (fun r w' => ∃ (v:Value) (K:List Int),v=r/\s.oc K/\fP (fR.R ub hb de s) w w' (fN [(fR.R ub hb de s),cL iB v 39 1 K])):=by
 refine gj func148 ?_
 have n:=Own.of m.un
 have l:s.ok ub hb:=m.fact
 have o:s.t.A.used<=12:=by have q:=l.tok.ul;have u:=l.tn;omega
 have b:=yn (p:=s.ok ub hb) (yd [_,_,_,_,_,_] _ n) l
 refine fM n 9 ?_
 refine gF 0 b (Cp ub hb de s w ·) fun f g=>?_
 have a:=(j7 g).unpack
 refine cH a 12 ?_
 refine cl (agJ s.tb s.ab s.t f (yg a 5 rfl) o) ?_
 rintro _ k ⟨c,h,rfl,d,ht⟩
 have i:=ye [5,0,1,2,3,4] a
 have e:=yp (yt 0 i ht)
 refine gm e 4 c ?_
 have j:=ye [2,3,4,5,6,0,1] e
 exact⟨c,h,rfl,⟨d.1,d.2⟩,yj (yd [_,_] _ (yn (p:=fR.ok ub hb s) (yd [_,_,_,_,_,_] _ j) l)) za⟩
theorem ahC(c:WC)(q:Nat)(s:WW)(w:World)(x:Own (WW.R c q s) w)(z:c.de<=12) :
 CR ya 81 (Zg q) w (fun r w' => ∃ (v:Value) (K:List Int),v=r/\s.u.oc K/\fP (WW.R c q s) w w' (fN [(WW.R c q s),cL iB v 39 1 K])):=by
 refine gj func81 ?_
 have t:=Own.of x.un
 have o:s.ok c:=x.fact
 have A:=o.w1
 have B:=o.wi
 have C:=o.n0
 have D:=o.n1
 have y:fR.ok c.de c.cQ s.u:=(j6 t (i:=2) rfl)
 have H:=o.en
 have G:=o.e1
 have L:=o.v2
 have M:=o.vn
 have E:=o.a0
 have F:=o.a1
 have J:=o.la
 have I:=y.ug
 have b:=yn (p:=s.ok c) (yd [_,_,_,_,_] _ t) o
 refine fM t 9 ?_
 refine gF 0 b (xZ c q s w ·) fun f g=>?_
 have a:=(j7 g).unpack
 refine cH a 12 ?_
 refine cl (ag4 c.de c.cQ s.ub s.u f (yg a 2 rfl) z) ?_
 rintro _ n ⟨d,h,rfl,j,ht⟩
 have k:=ye [2,0,1,3,4] a
 have e:=yp (yt 0 k ht)
 refine gm e 4 d ?_
 have l:=ye [2,3,0,4,5,1] e
 have m:=yn (p:=s.ok c) (yd [_,_,_,_,_] _ l) o
 exact⟨d,h,rfl,j,yk m⟩
theorem U7(c:WC)(r:Nat)(s:WW)(w:World)(t:Own (WW.R c r s) w) :
 CQ ya 49 (Zg r) w (Fy c.win c.cQ c.de c.lT) (WW.R c r s):=by
 refine gj func49 ?_
 have u:=Own.of t.un
 have q:s.ok c:=t.fact
 have x:=q.w1
 have y:=q.wi
 have z:=q.n0
 have A:=q.n1
 refine fM u 2 ?_
 refine ir u (fun j e k l a=>?_)
 have f:=ye [1,2,3,4,5,0] a
 have b:=yn (p:=s.ok c) (yd [_,_,_,_,_] _ f) q
 refine cH a 6 ?_
 refine gF 0 b (xZ c r s e ·) fun m g=>?_
 have h:=(j7 g).unpack
 refine jI h 16 fun n d=>?_
 refine LP (v:=(Fy c.win c.cQ c.de c.lT)) results49 (oI (cs:=(tQ c.win c.cQ c.de c.lT)) rfl Es rfl Ec rfl (mL d (i:=5) (o:=0) (vs:=(tQ c.win c.cQ c.de c.lT)) rfl rfl)) ?_
 exact⟨rfl,yj (yn (p:=s.ok c) (yd [_,_,_,_,_] _ d) q) za⟩
theorem DV(v:Value)(xs:List Int)(x:Int)(w:World)(hv:gV 1 iB (fun _=>True) w v xs)(hs:xs.Pairwise fun a b=>a<b)(g:xs.length<=1000000) :
 CK ya 61 #[v,(Zo x)] w (.int .i64 (gX xs x:Int)):=by
 refine iE func61 9 fun h=>?_
 refine cl (WI v xs x w hv hs g) ?_
 rintro _ e ⟨f,rfl,d⟩
 have c:=lI h d
 refine gm c 14 (Za (gX xs x:Int)) ?_
 exact⟨rfl,c.gf s_⟩
theorem B8(c:WC)(F:Nat)(s:WW)(w:World)(hO:Own (WW.R c F s) w)(am:c.de<=12) :
 CR ya 37 (Zg F) w (fun r w' => ∃ (iv ev lv:Value) (K:List Int) (L:List Lv) (es:List Ge),r = .tuple #[iv,ev,lv]/\(s.u.oc K/\s.u.lX L/\mE K L es L.length)/\fP (WW.R c F s) w w' (fN (Fb c F s iv K ev es lv L))):=by
 refine enter (vs:=(Ze F)) func37 rfl ntmps37 rfl ?_
 have aj:=yy hO
 have T:=oV hO
 have au:=T.1.en
 have ar:=T.1.w1
 refine fM aj 10 ?_
 refine jG (vl:=(Ze F)) rfl rfl eN (ahC c F s w (lq aj (i:=0) rfl) am) ?_
 rintro _ A ⟨d,b,rfl,g,ht⟩
 have p:St _ [(WW.R c F s),cL iB d 39 1 b] A:=yp (mB (R' := (fN [(WW.R c F s),cL iB d 39 1 b])) 0 aj rfl ht rfl)
 have an:=g.len T.2.1 T.2.2
 refine cH p 1 ?_
 refine jG (vl:=(Ze F)) rfl rfl eN (Nb c F s A (lq p (i:=0) rfl)) ?_
 rintro _ D ⟨e,a,rfl,q,ht⟩
 have t:St _ [(WW.R c F s),cL Lv.cells e 43 7 a,cL iB d 39 1 b] D:=yp (mB (R' := (fN [(WW.R c F s),cL Lv.cells e 43 7 a])) 0 p rfl ht rfl)
 have ao:=q.len T.2.1
 refine cH t 7 ?_
 refine iA (m:=a.length) 1 rfl rfl qu t rfl (kA (cf:=Ge.cells) (z0:=⟨0,0,0⟩) (m:=a.length) (c:=a.length) rfl rfl rfl qt D7 rfl f_ d_ (zh _) o_ o_ t ?_)
 intro j l Y Z E
 have n:St _ [cL Ge.cells (Zf j a.length) 110 3 (List.replicate a.length ⟨0,0,0⟩),(WW.R c F s),cL Lv.cells e 43 7 a,cL iB d 39 1 b] l:=mR (cf:=Ge.cells) E (i:=0) rfl f_ (zh _) (by simp only[maxLen];omega)
 refine cH n 7 ?_
 refine iA (m:=a.length) 2 rfl rfl qu n rfl ?_
 have G:St _ [(WW.R c F s),cL Ge.cells (Zf j a.length) 110 3 (List.replicate a.length ⟨0,0,0⟩),cL Lv.cells e 43 7 a,cL iB d 39 1 b] l:=lJ n (List.Perm.swap _ _ _)
 have H:St _ [(WW.R c F s),cL Ge.cells (Zf j a.length) 110 3 (List.replicate a.length ⟨0,0,0⟩),cL iB d 39 1 b,cL Lv.cells e 43 7 a] l:=lJ G (List.Perm.cons _ (List.Perm.cons _ (List.Perm.swap _ _ _)))
 have I:St _ [(WW.R c F s),cL iB d 39 1 b,cL Ge.cells (Zf j a.length) 110 3 (List.replicate a.length ⟨0,0,0⟩),cL Lv.cells e 43 7 a] l:=lJ H (List.Perm.cons _ (List.Perm.swap _ _ _))
 refine fZ n 4 ?_
 refine lp (α:=Nat×List Ge×Value) (fun(k,es,ev)=>[(5,d),(6,e),(7,ev),(17,e),(18,(Za a.length)),(19,(Za k))]) (fun(k,es,ev) w1=>St [(w,(WW.R c F s).gq)] (Fb c F s d b ev es e a) w1/\mE b a es k/\k<=a.length) (fun(k,es,ev)=>a.length-k) (0,(List.replicate a.length ⟨0,0,0⟩),(Zf j a.length)) oh (⟨I,mE.start,o_⟩) ?_
 rintro⟨k,es,ev⟩ aa ab ⟨ah,ai,aq⟩
 have ap:=ai.len
 refine fM ah 2 ?_
 by_cases ac:(k:Int)<(a.length:Int)
 . have ak:k<a.length:=by omega
   have hE:=g.ends T.2.1 q ak
   refine cH ah 14 ?_
   refine ir ah (fun h ad ae af J=>?_)
   refine r7 J 4 fun ag M=>?_
   refine jS mixed [([0,1,2,3,4,5,7,8,9,10,12,13,14,6],[10,14]),([11],[14])] [15,16,17] M (fun N x=>iY ?_)
   refine cH x 13 ?_
   refine jG (vl:=[d,(Zo ((cE a k).u))]) rfl rfl eN (DV d b ((cE a k).u) N (Sl.any (qv x (i:=2) rfl f_)) g.kN o_) ?_
   rintro _ B ⟨rfl,O⟩
   have y:St _ (NU h (cE a k) c F s d b ev es e a) B:=lI x O
   refine fK y 1 ?_
   refine jF (iY ?_)
   refine jG (vl:=[d,(Zo ((cE a k).v))]) rfl rfl eN (DV d b ((cE a k).v) B (Sl.any (qv y (i:=2) rfl f_)) g.kN o_) ?_
   rintro _ P ⟨rfl,Q⟩
   have z:St _ (NU h (cE a k) c F s d b ev es e a) P:=lI y Q
   refine fK z 1 ?_
   refine jF (jX ?_)
   refine iL (pvs:=[(0,(Za (gX b ((cE a k).u):Int))),(1,(Za (gX b ((cE a k).v):Int))),(2,(Za ((cE a k).wt)))]) (v:=.agg (C5 (gX b ((cE a k).u):Int) (gX b ((cE a k).v):Int) ((cE a k).wt))) rfl rfl (i6 [(0,(Zd (gX b ((cE a k).u):Int))),(1,(Zd (gX b ((cE a k).v):Int))),(2,(Zd ((cE a k).wt)))] D7 adm rfl oh rfl) (cH z 1 ?_)
   refine iz (f:=(fun _=>(⟨(gX b ((cE a k).u)),(gX b ((cE a k).v)),(cE a k).wt⟩:Ge))) 3 z (fun o C=>?_)
   refine fK C 7 ?_
   have S:St _ [(WW.R c F s),blk h 43 (oM (cE a k)),cL iB d 39 1 b,cL Ge.cells ev 110 3 (cO es k (fun _=>(⟨(gX b ((cE a k).u)),(gX b ((cE a k).v)),(cE a k).wt⟩:Ge))),cL Lv.cells e 43 7 a] o:=lJ C (List.Perm.swap _ _ _)
   have U:St _ [(WW.R c F s),cL iB d 39 1 b,blk h 43 (oM (cE a k)),cL Ge.cells ev 110 3 (cO es k (fun _=>(⟨(gX b ((cE a k).u)),(gX b ((cE a k).v)),(cE a k).wt⟩:Ge))),cL Lv.cells e 43 7 a] o:=lJ S (List.Perm.cons _ (List.Perm.swap _ _ _))
   have V:St _ [(WW.R c F s),cL iB d 39 1 b,cL Ge.cells ev 110 3 (cO es k (fun _=>(⟨(gX b ((cE a k).u)),(gX b ((cE a k).v)),(cE a k).wt⟩:Ge))),blk h 43 (oM (cE a k)),cL Lv.cells e 43 7 a] o:=lJ U (List.Perm.cons _ (List.Perm.cons _ (List.Perm.swap _ _ _)))
   have W:St _ [(WW.R c F s),cL iB d 39 1 b,cL Ge.cells ev 110 3 (cO es k (fun _=>(⟨(gX b ((cE a k).u)),(gX b ((cE a k).v)),(cE a k).wt⟩:Ge))),cL Lv.cells e 43 7 a,blk h 43 (oM (cE a k))] o:=lJ V (List.Perm.cons _ (List.Perm.cons _ (List.Perm.cons _ (List.Perm.swap _ _ _))))
   have X:=St.sub (L' := (Fb c F s d b ev (cO es k (fun _=>(⟨(gX b ((cE a k).u)),(gX b ((cE a k).v)),(cE a k).wt⟩:Ge))) e a)) W (List.Sublist.cons_cons _ (List.Sublist.cons_cons _ (List.Sublist.cons_cons _ (List.Sublist.cons_cons _ (List.Sublist.cons _ (List.Sublist.refl _))))))
   exact gM ((k+1),cO es k (fun _=>(⟨(gX b ((cE a k).u)),(gX b ((cE a k).v)),(cE a k).wt⟩:Ge)),ev) oh (⟨X,ai.next ak g.kN hE.1 hE.2,o_⟩) o1
 . refine fK ah 21 ?_
   refine r0 (v:=d) (v' := ev) (v'' := e) results37 rfl rfl rfl ?_
   have al:k=a.length:=by omega
   exact⟨d,ev,e,b,a,es,rfl,⟨g,q,by rw[<-al];exact ai⟩,yj (R' := (fN (Fb c F s d b ev es e a))) (yd [_,_,_,_] _ ah) za⟩
theorem U0(c:WC)(k:Nat)(s:WW)(w:World)(m:Own (WW.R c k s) w) :
 CR ya 35 (Zg k) w (fun r w' => ∃ (o:Nat),r = .tuple (Z1 o)/\fP (WW.R c k s) w w' (NR c k s o)):=by
 refine gj func35 ?_
 have l:=yy m
 have n:=oV m
 have q:=n.1.en
 have p:=n.1.w1
 refine fM l 10 ?_
 refine mG (a:=some ⟨k,0,none⟩) (c:=false) rfl rfl rfl CA rfl (cH l 2 ?_)
 refine gF 0 l (U7 c k s w ·) fun g b=>?_
 refine J8 (cs:=(yS c.win c.cQ c.de c.lT)) (v:=(Za c.win)) rfl rfl Es rfl ur rfl rfl (gz rfl (kT o_) (cH b 9 ?_))
 refine iL (pvs:=[(0,(Zb k))]) (v:=.agg #[(Zb k),Zp,Z6,Zh,Zc,Zh,Zh,Zh,Zh,Zh,Zq,Zq,Zc]) rfl rfl (i6 [(0,(Ze k))] Ua adl rfl oh rfl) (gN b (fun d h i j e=>?_))
 refine jk e 5 (Zb d) Zc ?_
 have f:=ye [1,0] e
 exact⟨d,rfl,yk f⟩
theorem Cq(d e:Nat)(w:World)(f:Own (E1 d e) w) :
 CQ ya 36 (Zg d) w (.bool true) (E1 d e):=by
 refine gj func36 ?_
 have b:=yy f
 refine fM b 8 ?_
 refine lF (a:=some ⟨d,0,none⟩) (c:=true) rfl rfl rfl underlying24 rfl (cH b 5 ?_)
 refine lF (a:=some ⟨e,0,none⟩) (c:=true) rfl rfl rfl CA rfl (fK b 5 ?_)
 refine gT (v:=Zi) results36 rfl ?_
 exact⟨rfl,iM b⟩
theorem ahi(c d:Nat)(w:World)(f:Own (E1 c d) w) :
 CQ ya 16 (Zg c) w (.int .i64 0) (E1 c d):=by
 refine gj func16 ?_
 have e:=yy f
 refine fM e 9 ?_
 refine gF 0 e (Cq c d w ·) fun b a=>?_
 refine gm a 16 Zc ?_
 exact⟨rfl,iM a⟩
theorem ZJ(c:WC)(p q:Nat)(s:WW)(w:World)(t:Own (Z7 p q c s) w)(x:c.de<=12) :
 CR ya 7 (Zg p) w (fun r w' => ∃ (iv ev lv:Value) (K:List Int) (L:List Lv) (es:List Ge),r = .tuple #[iv,ev]/\(s.u.oc K/\s.u.lX L/\mE K L es L.length)/\fP (Z7 p q c s) w w' (fN [(Z7 p q c s),cL iB iv 39 1 K,cL Ge.cells ev 110 3 es])):=by
 refine ja func7 t 10 fun v=>?_
 refine gF 0 v (Cq p q w ·) fun f a=>?_
 refine cH a 12 ?_
 refine cl (B8 c q s f (yg a 1 rfl) x) ?_
 rintro _ o ⟨b,d,g,h,i,j,rfl,k,ht⟩
 have l:=ye [1,0] a
 have e:=yp (yt 0 l ht)
 refine jk e 18 b d ?_
 have m:=ye [4,0,1,2,3] e
 have n:=yd [_,_] _ m
 exact⟨b,d,g,h,i,j,rfl,k,yk n⟩
end Go.Proofs.YtedjjkcihkmjgaaGreatDoor
