/- Walks through code, under what is said of arguments. -/
import Derived.Test.YtedjjkcihkmjgaaGreatDoorVd
set_option linter.unusedVariables false
set_option linter.unusedSimpArgs false
set_option maxRecDepth 100000
set_option maxHeartbeats 4000000
namespace Go.Proofs.YtedjjkcihkmjgaaGreatDoor
open Go Go.Sx Go.Proofs.Tryz
def Ds.R(db n:Nat)(s:Ds):fJ:=lC (s.ok n) (tP db s)
abbrev E8 a b c d e f g:=([Ds.R a b c,cL fL d 3 1 e,iD .i64 f 3 g]:List fJ)
abbrev I2(a:Nat) b c d e f g h i:=([iD .i64 (Zu a) 3 b,Ds.R c d e,cL fL f 3 1 g,iD .i64 h 3 i]:List fJ)
variable{l:List (Value×List Nat)}{k:Nat}(v:Value)(es:List Ge)(db:Nat)(fv:Value)(n:Nat)(lb:List Nat)(x:Int)(s:Ds)(w:World)
theorem F4(e:Own (tP db s) w)(d:Nat->Nat)(hd:s.xC d n)(g:n<=1000000) :
 CQ ya 306 (Zg db) w (.bool true) (tP db s):=by
 have i:=hd.ul
 have f:=hd.ll
 have h:=hd.sl
 refine ja func306 e 8 fun b=>?_
 refine lF (a:=some ⟨db,0,none⟩) (c:=true) rfl rfl rfl underlying353 rfl (cH b 6 ?_)
 refine w6 (a:=⟨db,0,none⟩) rfl rfl rfl underlying353 MP (fK b 5 ?_)
 refine gT (v:=Zi) results306 rfl ?_
 exact⟨rfl,yk b⟩
theorem JV(e:Own (tP db s) w)(d:Nat->Nat)(hd:s.xC d n)(f:n<=1000000)(a0:Nat)(g:a0<n) :
 CQ ya 307 (Zk db a0) w (.bool true) (tP db s):=by
 have j:=hd.ul
 have h:=hd.ll
 have i:=hd.sl
 refine gj func307 ?_
 have b:=Own.of e
 refine fM b 8 ?_
 refine gy (F4 db n s w · d hd f) b fun c a=>cH a 2 ?_
 refine gz rfl (ot o_) (cH a 7 ?_)
 refine iA (m:=s.up.length) 1 rfl rfl yc a rfl (gz rfl (pL o_) (fK a 5 ?_))
 refine gT (v:=Zi) results307 rfl ?_
 exact⟨rfl,yk a⟩
theorem JX(o:Own (tP db s) w)(d:Nat->Nat)(hd:s.xC d n)(u:n<=1000000)(a0:Nat)(p:a0<n) :
 CR ya 308 (Zk db a0) w (fun r w' => ∃ (i:Nat) (up:List Nat),r = .int .i64 (i:Int)/\(qW d n s a0 up i/\cE up i=i)/\fP (tP db s) w w' (II db s up)):=by
 have y:=hd.ul
 have t:=hd.ll
 have x:=hd.sl
 refine gj func308 ?_
 have m:=Own.of o
 refine oW m 11 ?_
 refine lp (α:=Nat×List Nat) (fun(i,up)=>[(0,(Zb db)),(1,(Za i)),(4,Zc)]) (fun(i,up) w1=>St [(w,(tP db s).gq)] (Fz db s up) w1/\qW d n s a0 up i) (fun(i,up)=>d i) (a0,s.up) oh (⟨m,qW.start hd p⟩) ?_
 rintro⟨i,up⟩ c e ⟨l,k⟩
 have z:up.length=n:=k.ok.ul
 have q:=k.an
 have v:cE up i<n:=k.ok.ub i q
 refine fM l 18 ?_
 by_cases g:(((cE up i):Nat):Int)=(i:Int)
 . refine gm l 18 (Za i) ?_
   exact⟨i,up,rfl,⟨k,o_⟩,yk l⟩
 . refine gh l 21 fun h b=>?_
   refine iz (f:=(fun _=>(cE up (cE up i)))) 1 b (fun j a=>?_)
   refine fK a 13 ?_
   exact gM ((cE (cO up i (fun _=>(cE up (cE up i)))) i),cO up i (fun _=>(cE up (cE up i)))) oh (⟨a,(k.QM o_).1⟩) (k.QM o_).2
theorem JZ(hO:Own (Ds.R db n s) w)(hn:n<=1000000)(a b:Nat)(ha:a<n)(hb:b<n) :
 CR ya 246 (Zv db a b) w (fun r w' => ∃ s2:Ds,(r = .tuple (Bl (decide (cE s.lb a≠cE s.lb b))))/\(s2.lb=jg s.lb (cE s.lb a) (cE s.lb b)/\s2.cnt=if cE s.lb a=cE s.lb b then s.cnt else IntKind.i64.wrap (s.cnt-1))/\fP (Ds.R db n s) w w' (Ds.R db n s2)):=by
 refine enter (vs:=(Be db a b)) func246 rfl ntmps246 rfl ?_
 obtain⟨⟨d,hd⟩,aA⟩:=hO.fact
 have aC:=hd.ul
 have aB:=hd.ll
 have av:=hd.sl
 have aw:=Own.of hO.un
 have q:=yd [_,_,_,_] _ aw
 refine fM aw 10 ?_
 refine jG (vl:=(Ze db)) rfl rfl eN (F4 db n s w (lq q (i:=0) rfl) d hd hn) ?_
 rintro _ t ⟨rfl,ht⟩
 have u:St _ (Fh db s) t:=(mB (R' := (tP db s)) 0 q rfl ht rfl).unpack
 have x:=yd [_,_,_,_] _ u
 refine cH u 11 ?_
 refine jG (vl:=(uI db a)) rfl rfl eN (JV db n s t (lq x (i:=0) rfl) d hd hn a o_) ?_
 rintro _ y ⟨rfl,ht⟩
 have z:St _ (Fh db s) y:=(mB (R' := (tP db s)) 0 x rfl ht rfl).unpack
 have A:=yd [_,_,_,_] _ z
 refine cH z 4 ?_
 refine jG (vl:=(uI db b)) rfl rfl eN (JV db n s y (lq A (i:=0) rfl) d hd hn b o_) ?_
 rintro _ B ⟨rfl,ht⟩
 have C:St _ (Fh db s) B:=(mB (R' := (tP db s)) 0 A rfl ht rfl).unpack
 have D:=yd [_,_,_,_] _ C
 refine cH C 11 ?_
 refine jG (vl:=(uI db a)) rfl rfl eN (JX db n s B (lq D (i:=0) rfl) d hd hn a o_) ?_
 rintro _ E ⟨g,o,rfl,k,ht⟩
 have G:St _ (Fz db s o) E:=(mB (R' := (II db s o)) 0 D rfl ht rfl).unpack
 have P:=k.1.ok
 have ap:=k.1.an
 have H:=yd [_,_,_,_] _ G
 refine cH G 2 ?_
 refine jG (vl:=(uI db b)) rfl rfl eN (JX db n (s.wu o) E (lq H (i:=0) rfl) d P hn b o_) ?_
 rintro _ Q ⟨h,j,rfl,I,ht⟩
 have l:St _ (Fz db s j) Q:=(mB (R' := (II db s j)) 0 H rfl ht rfl).unpack
 obtain⟨T,ax,az,ap,ay,aq,au,F⟩:=k.1.two k.2 I.1 I.2
 have aD:j.length=n:=T.ul
 refine cH l 9 ?_
 by_cases Z:(g:Int)=(h:Int)
 . refine jk l 12 Zp Zc ?_
   exact⟨(s.wu j),congrArg (fun b=>Value.tuple (Bl b)) (by rw[eq_comm,decide_eq_false_iff_not,Decidable.not_not];exact F.1 o_),⟨(by rw[F.1 o_,Le];rfl),(if_pos (F.1 o_)).symm⟩,yj (R' := (Ds.R db n (s.wu j))) (yn (p:=Ds.ok n (s.wu j)) (yd [_,_,_,_] _ l) (⟨⟨d,T⟩,aA⟩)) za⟩
 . refine gh l 23 fun aa m=>?_
   by_cases ab:((cE s.sz g):Int)<((cE s.sz h):Int)
   . refine cH m 20 ?_
     refine iz (f:=(fun _=>h)) 1 m (fun ac S=>?_)
     refine gh S 18 fun ad J=>?_
     refine ar (a:=(cE s.sz h)) (b:=(cE s.sz g)) (c:=(cE s.sz h)+(cE s.sz g)) (e:=IntKind.i64.wrap ((cE s.sz h)+(cE s.sz g))) rfl rfl rfl rfl rfl (cH J 1 ?_)
     refine iz (f:=(fun _=>IntKind.i64.wrap ((cE s.sz h)+(cE s.sz g)))) 3 J (fun ae U=>?_)
     refine gh U 23 fun af K=>?_
     refine min2 (a:=(((cE s.le h):Nat):Int)) (b:=(((cE s.le g):Nat):Int)) (c:=((min (cE s.le h) (cE s.le g):Nat):Int)) rfl rfl rfl GL (cH K 1 ?_)
     refine iz (f:=(fun _=>(min (cE s.le h) (cE s.le g)))) 2 K (fun ag L=>?_)
     refine cH L 8 ?_
     refine ar (a:=s.cnt) (b:=1) (c:=s.cnt-1) (e:=IntKind.i64.wrap (s.cnt-1)) rfl rfl rfl rfl rfl (jI L 12 fun ah V=>?_)
     refine kC (v:=Zi) (v' := Zc) results246 rfl rfl ?_
     exact⟨(⟨s.uv,s.lv,s.sv,cO j g (fun _=>h),cO s.le h (fun _=>(min (cE s.le h) (cE s.le g))),cO s.sz h (fun _=>IntKind.i64.wrap ((cE s.sz h)+(cE s.sz g))),IntKind.i64.wrap (s.cnt-1),jg s.lb (cE s.lb h) (cE s.lb g)⟩:Ds),congrArg (fun b=>Value.tuple (Bl b)) (by rw[eq_comm,decide_eq_true_iff];exact fun e=>absurd (F.2 e) o_),⟨Ld.trans (Sd aq au),(if_neg (fun e9=>absurd (F.2 e9) o_)).symm⟩,yj (R' := (Ds.R db n (⟨s.uv,s.lv,s.sv,cO j g (fun _=>h),cO s.le h (fun _=>(min (cE s.le h) (cE s.le g))),cO s.sz h (fun _=>IntKind.i64.wrap ((cE s.sz h)+(cE s.sz g))),IntKind.i64.wrap (s.cnt-1),jg s.lb (cE s.lb h) (cE s.lb g)⟩:Ds))) (yn (p:=Ds.ok n (⟨s.uv,s.lv,s.sv,cO j g (fun _=>h),cO s.le h (fun _=>(min (cE s.le h) (cE s.le g))),cO s.sz h (fun _=>IntKind.i64.wrap ((cE s.sz h)+(cE s.sz g))),IntKind.i64.wrap (s.cnt-1),jg s.lb (cE s.lb h) (cE s.lb g)⟩:Ds)) (yd [_,_,_,_] _ V) (Ds.join T ay ap az ax o_ (by rw[gd];exact av) (UQ T.Mx (HO _)) rfl (HO _))) za⟩
   . refine cH m 15 ?_
     refine iz (f:=(fun _=>g)) 1 m (fun ai W=>?_)
     refine gh W 18 fun aj M=>?_
     refine ar (a:=(cE s.sz g)) (b:=(cE s.sz h)) (c:=(cE s.sz g)+(cE s.sz h)) (e:=IntKind.i64.wrap ((cE s.sz g)+(cE s.sz h))) rfl rfl rfl rfl rfl (cH M 1 ?_)
     refine iz (f:=(fun _=>IntKind.i64.wrap ((cE s.sz g)+(cE s.sz h)))) 3 M (fun ak X=>?_)
     refine gh X 23 fun al N=>?_
     refine min2 (a:=(((cE s.le g):Nat):Int)) (b:=(((cE s.le h):Nat):Int)) (c:=((min (cE s.le g) (cE s.le h):Nat):Int)) rfl rfl rfl GL (cH N 1 ?_)
     refine iz (f:=(fun _=>(min (cE s.le g) (cE s.le h)))) 2 N (fun am O=>?_)
     refine cH O 8 ?_
     refine ar (a:=s.cnt) (b:=1) (c:=s.cnt-1) (e:=IntKind.i64.wrap (s.cnt-1)) rfl rfl rfl rfl rfl (jI O 12 fun ao Y=>?_)
     refine kC (v:=Zi) (v' := Zc) results246 rfl rfl ?_
     exact⟨(⟨s.uv,s.lv,s.sv,cO j h (fun _=>g),cO s.le g (fun _=>(min (cE s.le g) (cE s.le h))),cO s.sz g (fun _=>IntKind.i64.wrap ((cE s.sz g)+(cE s.sz h))),IntKind.i64.wrap (s.cnt-1),jg s.lb (cE s.lb g) (cE s.lb h)⟩:Ds),congrArg (fun b=>Value.tuple (Bl b)) (by rw[eq_comm,decide_eq_true_iff];exact fun e=>absurd (F.2 e) o_),⟨Sd aq au,(if_neg (fun e9=>absurd (F.2 e9) o_)).symm⟩,yj (R' := (Ds.R db n (⟨s.uv,s.lv,s.sv,cO j h (fun _=>g),cO s.le g (fun _=>(min (cE s.le g) (cE s.le h))),cO s.sz g (fun _=>IntKind.i64.wrap ((cE s.sz g)+(cE s.sz h))),IntKind.i64.wrap (s.cnt-1),jg s.lb (cE s.lb g) (cE s.lb h)⟩:Ds))) (yn (p:=Ds.ok n (⟨s.uv,s.lv,s.sv,cO j h (fun _=>g),cO s.le g (fun _=>(min (cE s.le g) (cE s.le h))),cO s.sz g (fun _=>IntKind.i64.wrap ((cE s.sz g)+(cE s.sz h))),IntKind.i64.wrap (s.cnt-1),jg s.lb (cE s.lb g) (cE s.lb h)⟩:Ds)) (yd [_,_,_,_] _ Y) (Ds.join T ap ay ax az o_ (by rw[gd];exact av) (UQ T.Mx (HO _)) rfl (HO _))) za⟩
theorem Yp(f:Own (Ds.R db n s) w)(h:n<=1000000)(a b:Nat)(g:a<n)(hb:b<n) :
 CR ya 246 (Zv db a b) w (fun r w' => ∃ s2:Ds,(r = .tuple (Bl (decide (cE s.lb a≠cE s.lb b))))/\s2.lb=jg s.lb (cE s.lb a) (cE s.lb b)/\fP (Ds.R db n s) w w' (Ds.R db n s2)) :=
 CR.mono (JZ db n s w f h a b g hb) fun r w' ⟨s2,c,d,e⟩=>⟨s2,c,d.1,e⟩
theorem Qb(hn:n<=65536) :
 CR ya 239 (Z3 n) w (fun r w' => ∃ (db:Nat) (s:Ds),r = .tuple (Z1 db)/\(s.lb=List.range n/\s.cnt=(n:Int))/\fP (fN []) w w' (Ds.R db n s)):=by
 refine iE func239 10 fun ab=>?_
 refine gz rfl (kT o_) (cH ab 2 ?_)
 refine gz rfl (ow o_) (fZ ab 7 ?_)
 refine xI mixed [0,2,4,6] [1,3,5] [] [7,8,9] ab (fun M q=>xY ?_)
 refine fK q 5 ?_
 refine nF trivial (xW [⟨1,13,[],[],Nat,fun d=>(Zf d n),fun d=>[blk d 3 ((List.replicate n 0).flatMap fL)]⟩,⟨3,15,[],[],Nat,fun b=>(Zf b n),fun b=>[blk b 3 ((List.replicate n 0).flatMap fL)]⟩,⟨5,17,[],[],Nat,fun a=>(Zf a n),fun a=>[blk a 3 ((List.replicate n 0).flatMap fL)]⟩] q ⟨mT (fun Z wq T _=>kA (cf:=fL) (z0:=0) (m:=n) (c:=n) rfl rfl rfl yc fU rfl f_ d_ (zh _) o_ o_ T (fun C _ _ _ h=>have F:=h;nh ⟨C,rfl,F,trivial⟩)),mT (fun Z wq T _=>kA (cf:=fL) (z0:=0) (m:=n) (c:=n) rfl rfl rfl yc fU rfl f_ d_ (zh _) o_ o_ T (fun D _ _ _ h=>have F:=h;nh ⟨D,rfl,F,trivial⟩)),mT (fun Z wq T _=>kA (cf:=fL) (z0:=0) (m:=n) (c:=n) rfl rfl rfl yc fU rfl f_ d_ (zh _) o_ o_ T (fun E _ _ _ h=>have F:=h;nh ⟨E,rfl,F,trivial⟩))⟩ ?_)
 rintro d b a N G
 refine iL (pvs:=[(1,(Zf d n)),(2,(Zf b n)),(3,(Zf a n)),(4,(Za n))]) (v:=.agg #[Zq,(Zf d n),(Zf b n),(Zf a n),(Za n)]) rfl rfl (i6 [(1,(p6 d n)),(2,(p6 b n)),(3,(p6 a n)),(4,(Zd n))] MP adI rfl oh rfl) (gN G (fun e o O P t=>?_))
 refine fK t 2 ?_
 have u:St _ [blk e 409 [(.pointer none),(.slice (some ⟨d,0,none⟩) n n),(.slice (some ⟨b,0,none⟩) n n),(.slice (some ⟨a,0,none⟩) n n),(.int .i64 n)],blk a 3 ((List.replicate n 0).flatMap fL),blk b 3 ((List.replicate n 0).flatMap fL),cL fL (.slice (some ⟨d,0,none⟩) n n) 3 1 (List.replicate n 0)] o:=mR (cf:=fL) t (i:=3) rfl f_ (zh _) (by simp only[maxLen];omega)
 generalize (Value.slice (some ⟨d,0,none⟩) n n)=g at u ⊢
 have x:St _ [blk e 409 [(.pointer none),g,(.slice (some ⟨b,0,none⟩) n n),(.slice (some ⟨a,0,none⟩) n n),(.int .i64 n)],blk a 3 ((List.replicate n 0).flatMap fL),cL fL (.slice (some ⟨b,0,none⟩) n n) 3 1 (List.replicate n 0),cL fL g 3 1 (List.replicate n 0)] o:=mR (cf:=fL) u (i:=2) rfl f_ (zh _) (by simp only[maxLen];omega)
 generalize (Value.slice (some ⟨b,0,none⟩) n n)=j at x ⊢
 have y:St _ [blk e 409 [(.pointer none),g,j,(.slice (some ⟨a,0,none⟩) n n),(.int .i64 n)],cL fL (.slice (some ⟨a,0,none⟩) n n) 3 1 (List.replicate n 0),cL fL j 3 1 (List.replicate n 0),cL fL g 3 1 (List.replicate n 0)] o:=mR (cf:=fL) x (i:=1) rfl f_ (zh _) (by simp only[maxLen];omega)
 generalize (Value.slice (some ⟨a,0,none⟩) n n)=l at y ⊢
 refine sQP tt none y 18 fun H I=>?_
 have J:=ye [0,3,2,1] I
 have K:St _ [blk e 409 [(Zb e),g,j,l,(Za n)],cL fL g 3 1 (List.replicate n 0),cL fL j 3 1 (List.replicate n 0),cL fQ l 3 1 (List.replicate n 0)] H:=aeI l▸J
 refine lp (α:=Nat×List Nat×List Nat×List Int) (fun(k,up,le,sz)=>[(0,(Za n)),(2,Zq),(3,Zc),(4,(Zb e)),(25,(Za n)),(26,(Za k))]) (fun(k,up,le,sz) w1=>St [(w,[])] [blk e 409 [(Zb e),g,j,l,(Za n)],cL fL g 3 1 up,cL fL j 3 1 le,cL fQ l 3 1 sz] w1/\tI n k up le sz/\k<=n) (fun(k,up,le,sz)=>n-k) (0,List.replicate n 0,List.replicate n 0,List.replicate n 0) oh (⟨K,tI.start,o_⟩) ?_
 rintro⟨k,up,le,sz⟩ Q S ⟨aa,hN,ac⟩
 obtain⟨af,ad,ae⟩:=hN.len ac
 refine fM aa 2 ?_
 by_cases U:(k:Int)<(n:Int)
 . refine gh aa 34 fun V L=>?_
   refine iz (f:=(fun _=>k)) 1 L (fun W z=>?_)
   refine cH z 1 ?_
   refine iz (f:=(fun _=>k)) 2 z (fun X A=>?_)
   refine cH A 1 ?_
   refine iz (f:=(fun _=>1)) (cf:=fQ) 3 A (fun Y B=>?_)
   refine fK B 7 ?_
   exact gM ((k+1),cO up k (fun _=>k),cO le k (fun _=>k),cO sz k (fun _=>1)) oh (⟨B,hN.next o_,o_⟩) o1
 . refine jk aa 18 (Zb e) Zc ?_
   obtain rfl:k=n:=by omega
   obtain⟨rfl,rfl,rfl⟩:=hN.fin
   exact⟨e,(⟨g,j,l,List.range k,List.range k,List.replicate k 1,(k:Int),List.range k⟩:Ds),rfl,⟨rfl,rfl⟩,uu (yn (p:=Ds.ok k (⟨g,j,l,List.range k,List.range k,List.replicate k 1,(k:Int),List.range k⟩:Ds)) (yd [_,_,_,_] _ aa) (Ds.uX (kZ o_))) s_⟩
theorem Yf(d:n<=65536) :
 CR ya 239 (Z3 n) w (fun r w' => ∃ (db:Nat) (s:Ds),r = .tuple (Z1 db)/\s.lb=List.range n/\fP (fN []) w w' (Ds.R db n s)) :=
 CR.mono (Qb n w d) fun r w' ⟨db,s,a,b,c⟩=>⟨db,s,a,b.1,c⟩
theorem PS(xs:List Ge)(w:World)(hv:gV 3 Ge.cells (fun _=>True) w v xs)(m:xs.length<=1000000) :
 CR ya 39 #[v] w (fun r w' => pY 3 Ge.cells w w' r 110 xs/\gE [] w w'):=by
 refine iE func39 9 fun l=>?_
 refine BJ (v:=v) rfl rfl rfl qt hv (fZ l 2 ?_)
 cases e:(vT v:Bool)
 . skip
   refine fM l 5 ?_
   refine jB (vs:=[]) (cs:=[]) rfl rfl qt D7 rfl (by intro v hv;simp at hv) rfl rfl rfl l ?_
   intro f g h i c
   have d:=c
   refine cH c 1 ?_
   refine kR (cf:=Ge.cells) (ys:=[]) (zs:=xs) (LL:=fun a=>[cL Ge.cells a 110 3 xs]) 0 rfl rfl rfl qt D7 rfl d_ d rfl (gV.src (yu d s_ d_ hv) f_) (xd f_ _) (by simp only[zd];omega) (by simp only[zd];omega) f_ (fun a j b k=>fK b 4 ?_)
   refine gT (v:=a) results39 rfl ?_
   exact⟨Ct b s_,b.gf s_⟩
 . skip
   refine qP l 8 Zh ?_
   obtain rfl:=B4 e hv
   exact⟨pY.B3, l.gf s_⟩
def Gr.R(a n:Nat)(r:Gr)(es:List Ge):fJ:=fN (IX a r.ev r.sv r.lv es (nD n es) (zR n es))
abbrev Di a b c d (e:Nat) f:=(fN [Gr.R a b c d,blk e 37 [f],cL fQ f 3 1 ([])]:fJ)
abbrev Fs a (b c:Nat) d e f:=(fN [a,blk b 31 (Ze c),Gr.R c d e f]:fJ)
abbrev Ft a (b c d:Nat) (e:Int) f g h:=(fN [a,blk b 31 (Ze c),blk d 3 (Zd e),Gr.R c f g h]:fJ)
theorem Y9(es:List Ge)(w:World)(hO:Own (yP v es) w)(hg:lP n es)(hn:n<=65536)(hm:es.length<=65536) :
 CR ya 38 #[(Za n),v] w (fun r w' => ∃ (gb:Nat) (q:Gr),r = .pointer (some ⟨gb,0,none⟩)/\fP (yP v es) w w' (Gr.R gb n q es)):=by
 refine gj func38 ?_
 have a9:=yy hO
 refine oW a9 6 ?_
 refine xI mixed [0,1,2,4,5,6] [3,7] [(3,[5])] [8,9,10] a9 (fun av o=>xY ?_)
 refine cH o 2 ?_
 refine gL (e:=((n+1:Nat):Int)) rfl iX (cH o 1 ?_)
 refine iA (m:=es.length) 0 rfl rfl qt o rfl (gL (e:=((2*es.length:Nat):Int)) rfl iX (fK o 1 ?_))
 refine nF trivial (xW [⟨3,17,[],[],Nat,fun j=>(Zf j (n+1)),fun j=>[blk j 3 ((List.replicate (n+1) 0).flatMap fL)]⟩,⟨7,21,[],[],Nat,fun d=>(Zf d (2*es.length)),fun d=>[blk d 3 ((List.replicate (2*es.length) 0).flatMap fL)]⟩] o ⟨mT (fun Z wq hM _=>kA (cf:=fL) (z0:=0) (m:=(n+1)) (c:=(n+1)) rfl rfl rfl yc fU rfl f_ d_ (zh _) o_ o_ hM (fun P _ _ _ h=>have hK:=h;nh ⟨P,rfl,hK,trivial⟩ (hc:=ku rfl (mZ (RA (m:=es.length) 1 rfl qt hK rfl) rfl rfl) (trivial)))),mT (fun Z wq hM _=>kA (cf:=fL) (z0:=0) (m:=(2*es.length)) (c:=(2*es.length)) rfl rfl rfl yc fU rfl f_ d_ (zh _) o_ o_ hM (fun Q _ _ _ h=>have hK:=h;nh ⟨Q,rfl,hK,trivial⟩))⟩ ?_)
 rintro j d aw H
 refine iL (pvs:=[(1,v),(2,(Zf j (n+1))),(3,(Zf d (2*es.length)))]) (v:=.agg #[Zq,v,(Zf j (n+1)),(Zf d (2*es.length))]) rfl rfl (i6 [(1,[v]),(2,(p6 j (n+1))),(3,(p6 d (2*es.length)))] MC ads rfl ⟨rfl,(cells_one (yh H (i:=2) rfl)),rfl,rfl,rfl,rfl,trivial⟩ rfl) (gN H (fun b I ax ay J=>?_))
 refine fK J 2 ?_
 have K:St _ [blk b 167 [(.pointer none),v,(.slice (some ⟨j,0,none⟩) (n+1) (n+1)),(.slice (some ⟨d,0,none⟩) (2*es.length) (2*es.length))],blk d 3 ((List.replicate (2*es.length) 0).flatMap fL),cL fL (.slice (some ⟨j,0,none⟩) (n+1) (n+1)) 3 1 (List.replicate (n+1) 0),cL Ge.cells v 110 3 es] I:=mR (cf:=fL) J (i:=2) rfl f_ (zh _) (by simp only[maxLen];omega)
 generalize (Value.slice (some ⟨j,0,none⟩) (n+1) (n+1))=a at K ⊢
 have L:St _ [blk b 167 [(.pointer none),v,a,(.slice (some ⟨d,0,none⟩) (2*es.length) (2*es.length))],cL fL (.slice (some ⟨d,0,none⟩) (2*es.length) (2*es.length)) 3 1 (List.replicate (2*es.length) 0),cL fL a 3 1 (List.replicate (n+1) 0),cL Ge.cells v 110 3 es] I:=mR (cf:=fL) K (i:=1) rfl f_ (zh _) (by simp only[maxLen];omega)
 generalize (Value.slice (some ⟨d,0,none⟩) (2*es.length) (2*es.length))=g at L ⊢
 refine TC tt none L 14 fun az x=>?_
 refine iA (m:=es.length) 3 rfl rfl qt x rfl ?_
 have S:=ye [0,3,2,1] x
 have U:=y0 2 S rfl (afd)
 refine fZ x 4 ?_
 refine lp (α:=Nat) (fun i=>[(0,(Za n)),(1,v),(4,Zq),(5,(Zb b)),(28,v),(29,(Za es.length)),(30,(Za i))]) (fun i w1=>St [(w,(yP v es).gq)] (IX b v a g es (o6 n (ji (es.take i))) (List.replicate (2*es.length) 0)) w1/\i<=es.length) (fun i=>es.length-i) 0 oh (⟨U,o_⟩) ?_
 rintro i aA aB ⟨ar,hi⟩
 have bj:(ji (es.take i)).length<=2*i:=by rw[uQ,zw];omega
 have bp:=xN (n:=n) (E:=ji (es.take i))
 refine fM ar 2 ?_
 by_cases aC:(i:Int)<(es.length:Int)
 . have a7:i<es.length:=by omega
   have a6:=hg.at a7
   have bn:=TM (E:=ji (es.take i)) (show (cE es i).u+1<=n by omega)
   refine cH ar 13 ?_
   refine ir ar (fun aD aE aF aG V=>?_)
   refine gh V 11 fun aH y=>?_
   refine gL (e:=((((cE es i).u)+1:Nat):Int)) rfl iX (cH y 2 ?_)
   refine gL (e:=(((cE (o6 n (ji (es.take i))) (((cE es i).u)+1))+1:Nat):Int)) rfl iX (cH y 1 ?_)
   refine iz (f:=(fun _=>((cE (o6 n (ji (es.take i))) (((cE es i).u)+1))+1))) 3 y (fun aI M=>?_)
   have W:=y0 3 M rfl (TL a6.1)
   have ba:=TM (E:=ji (es.take i)++[(cE es i).u]) (show (cE es i).v+1<=n by omega)
   refine fZ M 2 ?_
   rw[zk,CD]at ba
   have bs:=xN (n:=n) (E:=ji (es.take i)++[(cE es i).u])
   refine ny W 7 fun aJ A=>?_
   refine gL (e:=((((cE es i).v)+1:Nat):Int)) rfl iX (cH A 2 ?_)
   refine gL (e:=(((cE (o6 n (ji (es.take i)++[(cE es i).u])) (((cE es i).v)+1))+1:Nat):Int)) rfl iX (cH A 1 ?_)
   refine iz (f:=(fun _=>((cE (o6 n (ji (es.take i)++[(cE es i).u])) (((cE es i).v)+1))+1))) 3 A (fun aK N=>?_)
   refine fK N 7 ?_
   have X:=ye [1,2,3,4] N
   have Y:=y0 2 X rfl ((TL a6.2.1).trans (congrArg (o6 n) (show ji (es.take i)++[(cE es i).u]++[(cE es i).v]=ji (es.take (i+1)) by rw[Ys a7];simp)))
   exact gM (i+1) oh (⟨Y,o_⟩) o1
 . have bc:i=es.length:=by omega
   have bi:es.take i=es:=by rw[bc,sB]
   have aa:=y0 2 ar rfl ((congrArg (fun z=>o6 n (ji z)) bi).trans aff)
   refine fZ ar 18 ?_
   refine lp (α:=Nat) (fun k=>[(0,(Za n)),(1,v),(4,Zq),(5,(Zb b)),(57,(Za n)),(58,(Za k))]) (fun k w1=>St [(w,(yP v es).gq)] (IX b v a g es (oJ n (ji es) k) (List.replicate (2*es.length) 0)) w1/\k<=n) (fun k=>n-k) 0 oh (⟨aa,o_⟩) ?_
   rintro k aL ab ⟨a3,hk⟩
   have bk:=uQ es
   have bt:=Hj (n:=n) (k:=k) (E:=ji es)
   refine fM a3 2 ?_
   by_cases aM:(k:Int)<(n:Int)
   . have bd:k<n:=by omega
     have bm:=TN (E:=ji es) (k:=k) (show k+1<=n by omega)
     have bl:=TN (E:=ji es) (k:=k) (show k<=n by omega)
     refine gh a3 21 fun aN B=>?_
     refine gL (e:=((k+1:Nat):Int)) rfl iX (cH B 9 ?_)
     refine gL (e:=(((cE (oJ n (ji es) k) (k+1))+(cE (oJ n (ji es) k) k):Nat):Int)) rfl iX (cH B 1 ?_)
     refine iz (f:=(fun _=>((cE (oJ n (ji es) k) (k+1))+(cE (oJ n (ji es) k) k)))) 2 B (fun aO O=>?_)
     refine fK O 7 ?_
     have ac:=y0 2 O rfl (afe bd)
     exact gM (k+1) oh (⟨ac,o_⟩) o1
   . refine cH a3 16 ?_
     refine cl (DA a (oJ n (ji es) k) ab (yv a3 2 rfl).any (by first|omega|(simp;omega))) ?_
     rintro l ad hz
     have p:=tB a3 hz.2 hz.1
     refine cH p 7 ?_
     refine iA (m:=es.length) 2 rfl rfl qt p rfl ?_
     have ae:=ye [1,2,3,4,0] p
     have a8:k=n:=by omega
     have af:=y0 2 ae rfl (congrArg (oJ n (ji es)) a8)
     have ag:=y0 4 af rfl ((congrArg (oJ n (ji es)) a8).trans acQ)
     have ah:=y0 3 ag rfl (congrArg (fun z=>List.replicate z 0) (uQ es).symm)
     refine fZ p 4 ?_
     refine lp (α:=Nat) (fun F=>[(0,(Za n)),(4,Zq),(5,(Zb b)),(9,l),(84,v),(85,(Za es.length)),(86,(Za F))]) (fun F w1=>St [(w,(yP v es).gq)] [blk b 167 (IE b v a g),cL Ge.cells v 110 3 es,cL fL a 3 1 (nD n es),cL fL g 3 1 (ri n (ji es) (2*F)),cL fL l 3 1 (pS n (ji es) (2*F))] w1/\F<=es.length) (fun F=>es.length-F) 0 oh (⟨ah,o_⟩) ?_
     rintro F aP aQ ⟨a4,bo⟩
     have bf:=GC (n:=n) (E:=ji es) (2*F)
     have br:=GX (n:=n) (E:=ji es) (k:=2*F)
     rw[uQ]at bf
     refine fM a4 2 ?_
     by_cases aR:(F:Int)<(es.length:Int)
     . have T:F<es.length:=by omega
       have a5:=hg.at T
       refine cH a4 14 ?_
       refine ir a4 (fun aS aT aU aV ai=>?_)
       refine gh ai 10 fun aW s=>?_
       refine iL (pvs:=[(0,(Za ((cE es F).u:Int))),(1,(Za ((cE es F).v:Int)))]) (v:=.agg (Zx ((cE es F).u:Int) ((cE es F).v:Int))) rfl rfl (uN [(0,(Zd ((cE es F).u:Int))),(1,(Zd ((cE es F).v:Int)))] Hv yq fU rfl oh rfl s_) (fZ s 4 ?_)
       refine qn 3 (iF (fM s 13 ?_))
       refine mO (i:=0) rfl rfl rfl yq yf rfl fU d_ rfl ?_
       have bh:=Sp a5.1 (BI T).1
       refine fZ s 4 ?_
       rw[uQ]at bh
       refine ny s 11 fun aX aj=>?_
       refine iz (f:=(fun _=>F)) 4 aj (fun aY C=>?_)
       refine cH C 7 ?_
       refine gL (e:=(((cE (pS n (ji es) (2*F)) ((cE es F).u))+1:Nat):Int)) rfl iX (cH C 1 ?_)
       refine iz (f:=(fun _=>((cE (pS n (ji es) (2*F)) ((cE es F).u))+1))) 5 C (fun aZ t=>?_)
       refine fK t 7 ?_
       refine tN (iF (fM t 13 ?_))
       refine mO (i:=1) rfl rfl rfl yq yf rfl fU d_ rfl ?_
       have ak:=y0 5 t rfl (Sq a5.1 (BI T).1)
       have al:=y0 4 ak rfl ((abI T).symm)
       have bg:=Sp a5.2.1 (BI T).2
       refine fZ t 4 ?_
       rw[uQ]at bg
       have be:=GC (n:=n) (E:=ji es) (2*F+1)
       rw[uQ]at be
       have bq:=GX (n:=n) (E:=ji es) (k:=2*F+1)
       refine ny al 11 fun a0 am=>?_
       refine iz (f:=(fun _=>F)) 4 am (fun a1 D=>?_)
       refine cH D 7 ?_
       refine gL (e:=(((cE (pS n (ji es) (2*F+1)) ((cE es F).v))+1:Nat):Int)) rfl iX (cH D 1 ?_)
       refine iz (f:=(fun _=>((cE (pS n (ji es) (2*F+1)) ((cE es F).v))+1))) 5 D (fun a2 G=>?_)
       refine fK G 7 ?_
       refine tN (iF (jh G 17 ?_))
       have an:=ye [1,2,3,4,5] G
       have ao:=y0 4 an rfl (Sq a5.2.1 (BI T).2)
       have ap:=y0 3 ao rfl ((abJ T).symm)
       exact gM (F+1) oh (⟨ap,o_⟩) o1
     . refine gm a4 17 (Zb b) ?_
       have aq:=ye [0,1,2,3] a4
       have bb:F=es.length:=by omega
       have au:=y0 3 aq rfl (congrArg (fun z=>ri n (ji es) (2*z)) bb)
       exact⟨b,(⟨v,a,g⟩:Gr),rfl,yk au⟩
theorem DF(es:List Ge)(w:World)(hv:gV 3 Ge.cells (fun _=>True) w v es)(F:lP n es)(L:n<=4096)(hm:es.length<=16384) :
 CR ya 8 #[(Za n),v] w (fun r w' => ∃ (E:Nat) (q:Gr),r = .tuple (Z1 E)/\fP (fN []) w w' (Gr.R E n q es)):=by
 refine enter (vs:=[(Za n),v]) func8 rfl ntmps8 rfl ?_
 have B:=k9 w
 refine fM B 10 ?_
 refine cmp (a:=(n:Int)) (b:=0) rfl rfl rfl (kT o_) (cH B 2 ?_)
 refine cmp (a:=(n:Int)) (b:=4096) rfl rfl rfl (ow o_) (cH B 3 ?_)
 refine jO (v:=v) rfl rfl qt hv (cmp (a:=(es.length:Int)) (b:=16384) rfl rfl rfl (ow o_) (cH B 10 ?_))
 refine jO (v:=v) rfl rfl qt hv (fZ B 4 ?_)
 refine lp (α:=Nat) (fun i=>[(0,(Za n)),(1,v),(4,Zq),(5,Zc),(19,v),(20,(Za es.length)),(21,(Za i))]) (fun i w1=>St [(w,[])] [] w1/\i<=es.length) (fun i=>es.length-i) 0 oh (⟨B,o_⟩) ?_
 rintro i p k ⟨C,hi⟩
 refine fM C 2 ?_
 by_cases s:(i:Int)<(es.length:Int)
 . obtain⟨el,H⟩:=oT (show i<es.length by omega)
   have D:=F _ (zg H)
   have I:=D.1
   have J:=D.2.1
   have K:=D.2.2
   refine cH C 13 ?_
   refine ir C (fun t x y z l=>?_)
   refine gh l 8 fun A c=>?_
   refine cmp (a:=(el.u:Int)) (b:=0) rfl rfl rfl (kT o_) (cH c 4 ?_)
   refine cmp (a:=(el.u:Int)) (b:=(n:Int)) rfl rfl rfl (p9 o_) (cH c 4 ?_)
   refine cmp (a:=(el.v:Int)) (b:=0) rfl rfl rfl (kT o_) (cH c 5 ?_)
   refine cmp (a:=(el.v:Int)) (b:=(n:Int)) rfl rfl rfl (p9 o_) (cH c 12 ?_)
   refine cmp (a:=(el.u:Int)) (b:=(el.v:Int)) rfl rfl rfl (uO o_) (fK c 10 ?_)
   have m:=St.sub (L' := []) c (List.Sublist.cons _ (List.Sublist.refl _))
   exact gM (i+1) oh (⟨m,o_⟩) o1
 . refine cH C 14 ?_
   refine jG (vl:=[v]) rfl rfl eN (PS v es k ((yu C s_ d_ hv)).any (by first|omega|(simp;omega))) ?_
   rintro f g G
   have h:=tB C G.2 G.1
   refine jG (vl:=[(Za n),f]) rfl rfl eN (Y9 f n es g (lq h (i:=0) rfl) F o_ o_) ?_
   rintro _ o ⟨d,e,rfl,ht⟩
   have j:St _ [(Gr.R d n e es)] o:=mB (R' := (Gr.R d n e es)) 0 h rfl ht rfl
   refine jk j 5 (Zb d) Zc ?_
   exact⟨d,e,rfl,uu (R:=(Gr.R d n e es)) j s_⟩
section
open Go.Lib Go.Sort Go.RowKit in
theorem acs:Calls ya 243 (Z3 x) w fun e w' => e = .returned Zp/\w' = w:=by
 go_enter func243,ntmps243
 go_wp2
 go_ret
 exact⟨s_,rfl⟩
open Go.Lib Go.Sort Go.RowKit in
theorem XF(y:Int)(w:World):CR ya 172 (Zx x y) w (fun r w' => r = .int .i64 (kI x y)/\w' = w):=by
 have h:Calls ya 172 (Zx x y) w fun e w' => e = .returned (Za (kI x y))/\w' = w:=by
  go_enter func172,ntmps172
  go_wp2_with (go_at_call 243;refine(acs _ _).mono ?_;rintro e w' ⟨rfl,a⟩;rw[a])
  all_goals (go_ret;refine⟨?_,rfl⟩;unfold kI;(repeat' split)<;>first|rfl|(exfalso;omega))
 exact h.mono fun e w' h=>⟨_,h.1,rfl,h.2⟩
open Go.Lib Go.Sort Go.RowKit in
theorem acr:Calls ya 237 (Z3 x) w fun e w' => e = .returned Zp/\w' = w:=by
 go_enter func237,ntmps237
 go_wp2
 go_ret
 exact⟨s_,rfl⟩
open Go.Lib Go.Sort Go.RowKit in
theorem XE(y:Int)(w:World):CR ya 173 (Zx x y) w (fun r w' => r = .int .i64 (kI x y)/\w' = w):=by
 have h:Calls ya 173 (Zx x y) w fun e w' => e = .returned (Za (kI x y))/\w' = w:=by
  go_enter func173,ntmps173
  go_wp2_with (go_at_call 237;refine(acr _ _).mono ?_;rintro e w' ⟨rfl,a⟩;rw[a])
  all_goals (go_ret;refine⟨?_,rfl⟩;unfold kI;(repeat' split)<;>first|rfl|(exfalso;omega))
 exact h.mono fun e w' h=>⟨_,h.1,rfl,h.2⟩
theorem ac3(xs:List Int)(w:World)(hv:Ints .i64 (fun _=>True) w v xs) :
 CR ya 171 #[v] w (fun r w' => r = .int .i64 (qN xs)/\w' = w):=by
 have y:=hv.len
 refine iE func171 14 fun t=>?_
 refine jO (v:=v) rfl rfl yc hv (fZ t 4 ?_)
 refine lp (α:=Nat) (fun k=>[(3,Zc),(6,v),(7,(Za xs.length)),(8,(Za k))]) (fun k w1=>St [(w,[])] [] w1/\w1=w/\k<=xs.length/\∀ j x,j<k->xs[j]? = some x->x=0) (fun k=>xs.length-k) 0 oh (⟨t,rfl,o_,fun j x h=>absurd h o_⟩) ?_
 rintro k c d ⟨o,p,u,s⟩
 refine fM o 2 ?_
 by_cases e:(k:Int)<(xs.length:Int)
 . obtain⟨x,q⟩:=oT (show k<xs.length by omega)
   refine cH o 11 ?_
   refine DG (i:=(k:Int)) (el:=x) rfl rfl rfl yc fU (St.Gh o s_ hv) o_ (by rw[show ((k:Nat):Int).toNat=k by omega];exact q) ?_
   intro f g a b l
   have m:=b.i64
   refine ld rfl rfl yf rfl a (cH o 7 ?_)
   by_cases n:(x:Int)=0
   . refine fK o 11 ?_
     exact gM (k+1) oh (⟨o,p,o_,SA s q o_⟩) o1
   . refine gm o 16 (Za x) ?_
     exact⟨js (Sv s q o_).symm,p⟩
 . refine gm o 17 Zc ?_
   exact⟨js (Sw s o_).symm,p⟩
theorem ac2(v:Value)(i j:Nat)(w:World)(hb:(blk n 28 [v]).holds w)(hv:gV 3 Ge.cells (fun _=>True) w v es)(hi:i<es.length)(k:j<es.length)(hm:es.length<=16384) :
 CR ya 170 #[(Za i),(Za j),(Zb n)] w (fun r w' => r = .int .i64 (ry (⟨i,(cE es i).w⟩:gC) (⟨j,(cE es j).w⟩:gC))/\Gw w w'):=by
 refine gj func170 ?_
 have g:=k9 w
 refine oW g 6 ?_
 refine aem mixed [] [] [] [0,1,2,3,4,5,6,7,8,9,10,11,12,13,14,15,16] g (fun a=>⟨nF trivial (U2 ?_)⟩)
 have c:=Gw.drew w
 refine cH a 10 ?_
 refine cl (XF ((cE es i).w) ((cE es j).w) w.drew) ?_
 rintro _ _ ⟨rfl,rfl⟩
 refine cH a 2 ?_
 refine cl (XE (i:Int) (j:Int) w.drew) ?_
 rintro _ _ ⟨rfl,rfl⟩
 refine WO (vs:=(Zm (kI ((cE es i).w) ((cE es j).w)) (kI (i:Int) (j:Int)))) (cs:=(Zm (kI ((cE es i).w) ((cE es j).w)) (kI (i:Int) (j:Int)))) c rfl rfl yc fU rfl (by simp[Value.cells]) rfl rfl rfl a (fun d e b f=>cl (ac3 (yL d) [kI ((cE es i).w) ((cE es j).w),kI (i:Int) (j:Int)] e (yA b (i:=0) rfl (fun y h=>by simp only[ze,pn,or_false]at h;rcases h with rfl|rfl<;>exact PV _ _)).any) ?_)
 rintro _ _ ⟨rfl,rfl⟩
 refine gm b 4 (Za (qN [kI ((cE es i).w) ((cE es j).w),kI (i:Int) (j:Int)])) ?_
 exact⟨js (SB (⟨i,(cE es i).w⟩:gC) (⟨j,(cE es j).w⟩:gC)),f⟩
open Go.Shelf Go.Lib Go.Sort Go.RowKit in
def Tryz.afu:Go.Shelf.Ren:=⟨fun|6=>169|15=>92|14=>242|28=>162|29=>163|20=>298|21=>299|22=>300|23=>301|24=>302|25=>303|26=>304|27=>305|46=>335|47=>233|48=>234|49=>336|50=>337|57=>355|n=>n,fun|22=>37|24=>3|25=>216|3=>3|39=>193|0=>0|53=>289|55=>39|4=>4|46=>283|45=>282|50=>160|5=>5|9=>9|66=>348|70=>351|76=>406|77=>197|n=>n,fun|n=>n⟩
open Go.Shelf Go.Lib Go.Sort Go.RowKit in
theorem Tryz.aft:Go.Proofs.SlLaysF.n6 Proofs.Tryz.prog Tryz.afu where
 mixed:=by kernel_rfl
 f6:=⟨Proofs.Tryz.f169.name,by(decide),Proofs.Tryz.func169.trans (congrArg some<|by kernel_rfl)⟩
 f14:=⟨Proofs.Tryz.f242.name,by(decide),Proofs.Tryz.func242.trans (congrArg some<|by kernel_rfl)⟩
 f15:=Proofs.Tryz.func92.trans (congrArg some<|by kernel_rfl)
 f20:=⟨Proofs.Tryz.f298.name,by(decide),Proofs.Tryz.func298.trans (congrArg some<|by kernel_rfl)⟩
 f21:=⟨Proofs.Tryz.f299.name,by(decide),Proofs.Tryz.func299.trans (congrArg some<|by kernel_rfl)⟩
 f22:=⟨Proofs.Tryz.f300.name,by(decide),Proofs.Tryz.func300.trans (congrArg some<|by kernel_rfl)⟩
 f23:=⟨Proofs.Tryz.f301.name,by(decide),Proofs.Tryz.func301.trans (congrArg some<|by kernel_rfl)⟩
 f24:=⟨Proofs.Tryz.f302.name,by(decide),Proofs.Tryz.func302.trans (congrArg some<|by kernel_rfl)⟩
 f25:=⟨Proofs.Tryz.f303.name,by(decide),Proofs.Tryz.func303.trans (congrArg some<|by kernel_rfl)⟩
 f26:=⟨Proofs.Tryz.f304.name,by(decide),Proofs.Tryz.func304.trans (congrArg some<|by kernel_rfl)⟩
 f27:=⟨Proofs.Tryz.f305.name,by(decide),Proofs.Tryz.func305.trans (congrArg some<|by kernel_rfl)⟩
 f28:=Proofs.Tryz.func162.trans (congrArg some<|by kernel_rfl)
 f29:=Proofs.Tryz.func163.trans (congrArg some<|by kernel_rfl)
 f46:=⟨Proofs.Tryz.f335.name,by(decide),Proofs.Tryz.func335.trans (congrArg some<|by kernel_rfl)⟩
 f47:=Proofs.Tryz.func233.trans (congrArg some<|by kernel_rfl)
 f48:=Proofs.Tryz.func234.trans (congrArg some<|by kernel_rfl)
 f49:=⟨Proofs.Tryz.f336.name,by(decide),Proofs.Tryz.func336.trans (congrArg some<|by kernel_rfl)⟩
 f50:=⟨Proofs.Tryz.f337.name,by(decide),Proofs.Tryz.func337.trans (congrArg some<|by kernel_rfl)⟩
 f57:=⟨Proofs.Tryz.f355.name,by(decide),Proofs.Tryz.func355.trans (congrArg some<|by kernel_rfl)⟩
 t0:=Proofs.Tryz.underlying0
 a0:=Proofs.Tryz.isAgg0
 z0:=Proofs.Tryz.sizeOf0
 v0:=Proofs.Tryz.zeroValue0
 t3:=Proofs.Tryz.underlying3
 a3:=Proofs.Tryz.isAgg3
 z3:=Proofs.Tryz.sizeOf3
 v3:=Proofs.Tryz.zeroValue3
 t4:=Proofs.Tryz.underlying4
 a4:=Proofs.Tryz.isAgg4
 z4:=Proofs.Tryz.sizeOf4
 v4:=Proofs.Tryz.zeroValue4
 t5:=Proofs.Tryz.underlying5
 a5:=Proofs.Tryz.isAgg5
 z5:=Proofs.Tryz.sizeOf5
 v5:=Proofs.Tryz.zeroValue5
 t9:=Proofs.Tryz.underlying9
 a9:=Proofs.Tryz.isAgg9
 z9:=Proofs.Tryz.sizeOf9
 v9:=Proofs.Tryz.zeroValue9
 t22:=Proofs.Tryz.underlying37
 a22:=Proofs.Tryz.isAgg37
 z22:=Proofs.Tryz.sizeOf37
 v22:=Proofs.Tryz.zeroValue37
 a24:=Proofs.Tryz.isAgg3
 z24:=Proofs.Tryz.sizeOf3
 t25:=Proofs.Tryz.underlying216
 a25:=Proofs.Tryz.isAgg216
 z25:=Proofs.Tryz.sizeOf216
 v25:=Proofs.Tryz.zeroValue216
 t39:=Proofs.Tryz.underlying193
 a39:=Proofs.Tryz.isAgg193
 z39:=Proofs.Tryz.sizeOf193
 v39:=Proofs.Tryz.zeroValue193
 t45:=Proofs.Tryz.underlying282
 a45:=Proofs.Tryz.isAgg282
 z45:=Proofs.Tryz.sizeOf282
 v45:=Proofs.Tryz.zeroValue282
 t46:=Proofs.Tryz.underlying283
 a46:=Proofs.Tryz.isAgg283
 z46:=Proofs.Tryz.sizeOf283
 v46:=Proofs.Tryz.zeroValue283
 t50:=Proofs.Tryz.underlying160
 a50:=Proofs.Tryz.isAgg160
 z50:=Proofs.Tryz.sizeOf160
 v50:=Proofs.Tryz.zeroValue160
 t53:=Proofs.Tryz.underlying289
 a53:=Proofs.Tryz.isAgg289
 z53:=Proofs.Tryz.sizeOf289
 v53:=Proofs.Tryz.zeroValue289
 t55:=Proofs.Tryz.underlying39
 a55:=Proofs.Tryz.isAgg39
 z55:=Proofs.Tryz.sizeOf39
 v55:=Proofs.Tryz.zeroValue39
 t66:=Proofs.Tryz.underlying348
 a66:=Proofs.Tryz.isAgg348
 z66:=Proofs.Tryz.sizeOf348
 v66:=Proofs.Tryz.zeroValue348
 t70:=Proofs.Tryz.underlying351
 a70:=Proofs.Tryz.isAgg351
 z70:=Proofs.Tryz.sizeOf351
 v70:=Proofs.Tryz.zeroValue351
 t76:=Proofs.Tryz.underlying406
 a76:=Proofs.Tryz.isAgg406
 z76:=Proofs.Tryz.sizeOf406
 v76:=Proofs.Tryz.zeroValue406
 t77:=Proofs.Tryz.underlying197
 a77:=Proofs.Tryz.isAgg197
 z77:=Proofs.Tryz.sizeOf197
 v77:=Proofs.Tryz.zeroValue197
open Go Go.Sx Go.Lib Go.Sort Go.RowKit
theorem afZ:SWO (ltOf fun x y:Fin n=>ry ⟨x.val,(cE es x.val).w⟩ ⟨y.val,(cE es y.val).w⟩) where
 irrefl x:=by unfold ltOf;rw[decide_eq_false_iff_not,oU];exact DL _
 trans x y z h1 h2:=by unfold ltOf at *;rw[decide_eq_true_iff,oU]at *;exact KY h1 h2
 ntrans x y z h1 h2:=by unfold ltOf at *;rw[decide_eq_false_iff_not,oU]at *;exact GS h1 h2
theorem afw(lb:Nat)(ev v:Value)(w:World)(s:Own (Z9 v (List.range es.length)) w)(hb:(blk lb 28 [ev]).holds w)(C:lb<w.heap.size)(n:lb∉(Z9 v (List.range es.length)).gq)(hv:gV 3 Ge.cells (fun b=>b∉(Z9 v (List.range es.length)).gq) w ev es)(D:0<es.length)(hm:es.length<=16384) :
 CR ya 169 #[v,.func (.func 170) #[] (Zg lb)] w (fun r w' => ∃ o:List Nat,r = .tuple #[]/\rE es o/\fP (Z9 v (List.range es.length)) w w' (Z9 v o)):=by
 refine CR.mono (afz (P:=ya) D (fun i j=>decide (ry ⟨i,(cE es i).w⟩ ⟨j,(cE es j).w⟩<0)) s o_ fun J f p d A q u G=>?_) ?_
 . rw[A]at n hv
   refine Any.slices_SortFunc (P:=ya) Tryz.aft rQ f_ (fun x y=>ry ⟨x.val,(cE es x.val).w⟩ ⟨y.val,(cE es y.val).w⟩) (afZ es es.length) 170 (Zg lb) f 0 p d w (enters_of func170 k_ rfl) (fun k os m hs x y=>?_) q u G
   have t:=(blk lb 28 [ev]).loc _ (sortWorld rQ w f 0 k m os) (fun b h=>by simp[blk]at h;subst h;exact TR C (by simpa using n)) hb
   have H:=hv.to (w' := sortWorld rQ w f 0 k m os) d_ fun b c g=>TR g (by simpa using c)
   exact Calls.mono (ac2 es lb ev x.val y.val _ t H.any x.2 y.2 hm) fun e w' ⟨r,z,F,B⟩=>⟨by rw[z,F],B⟩
 . rintro r w' ⟨rfl,ys,c,g,ht⟩
   have E:ys.Nodup:=(c.nodup_iff).2 uy
   refine⟨ys,rfl,⟨c,(g.and E).imp fun {a b} h=>?_⟩,ht⟩
   have l:=of_decide_eq_false h.1
   rw[oU]at l
   have I:=h.2
   unfold iQ at l
   unfold uf
   dsimp only at l
   omega
theorem aau(b:n=0) :
 CK ya 298 #[v,Zc,(Za n),fv] w (.tuple #[]):=by
 refine gj func298 ?_
 have a:=k9 w
 refine oW a 8 ?_
 refine qn 1 (iF (fM a 5 ?_))
 refine gz rfl (kT o_) (fK a 7 ?_)
 refine lZ results298 ?_
 exact⟨rfl,a.gf s_⟩
theorem adb(d:n=0) :
 CK ya 242 #[v,Zc,(Za n),(Za x),fv] w (.tuple #[]):=by
 refine gj func242 ?_
 have b:=k9 w
 refine oW b 11 ?_
 refine qn 1 (iF (fM b 13 ?_))
 refine gz rfl (vH o_) (cH b 9 ?_)
 refine ig b (aau v fv n w d) fun c a=>fK a 7 ?_
 refine xH results242 ?_
 exact⟨rfl,a.gf s_⟩
theorem afs(xs:List Int)(w:World)(hv:Ints .i64 (fun _=>True) w v xs)(h:xs.length=0) :
 CK ya 169 #[v,fv] w (.tuple #[]):=by
 refine iE func169 3 fun f=>?_
 refine jO (v:=v) rfl rfl yc hv (cH f 8 ?_)
 refine cl (Jp xs.length w o_) ?_
 rintro _ c ⟨d,rfl,e⟩
 have a:=lI f e
 refine cH a 1 ?_
 refine ig a (adb v fv xs.length d c h) fun g b=>?_
 refine jU b 1 ?_
 exact⟨rfl,b.gf s_⟩
theorem afv(lb:Nat)(ev v:Value)(w:World)(d:Own (Z9 v (List.range es.length)) w)(hb:(blk lb 28 [ev]).holds w)(l:lb<w.heap.size)(k:lb∉(Z9 v (List.range es.length)).gq)(hv:gV 3 Ge.cells (fun b=>b∉(Z9 v (List.range es.length)).gq) w ev es)(hm:es.length<=16384) :
 CR ya 169 #[v,.func (.func 170) #[] (Zg lb)] w (fun r w' => ∃ o:List Nat,r = .tuple #[]/\rE es o/\fP (Z9 v (List.range es.length)) w w' (Z9 v o)):=by
 rcases AL es.length with c|c
 . obtain rfl:=Ey.1 c
   have f:=qv (yy d) (i:=0) rfl f_
   obtain⟨a,e,rfl,g,j,n⟩:=f
   refine CR.mono (afs _ _ [] w ⟨a,e,rfl,g,j,fun i y m=>by simp at m⟩ rfl) fun r w' h=>⟨[],h.1,⟨List.Perm.refl _,List.Pairwise.nil⟩,yj ((yy d).grow h.2) za⟩
 . exact afw es lb ev v w d hb l k hv c hm
theorem SC(hv:gV 3 Ge.cells (fun _=>True) w v es)(hm:es.length<=16384) :
 CR ya 100 #[v] w (fun r w' => ∃ (J:Value) (o:List Nat),J=r/\rE es o/\fP (fN []) w w' (Z9 J o)):=by
 refine iE func100 2 fun M=>?_
 refine gN M (fun d z A B g=>?_) (hcs:=(cells_one (Sl.Su hv)))
 refine cH g 6 ?_
 refine jO (v:=v) rfl rfl qt hv (kA (cf:=fL) (z0:=0) (m:=es.length) (c:=es.length) rfl rfl rfl yc fU rfl f_ d_ (zh _) o_ o_ g ?_)
 intro h n C D p
 have e:=St.bR (cf:=fL) 0 p
 generalize (Value.slice (some ⟨h,0,none⟩) es.length es.length)=a at e ⊢
 refine cH e 7 ?_
 refine iA (m:=(List.replicate es.length 0).length) 0 rfl rfl yc e rfl ?_
 have N:(List.replicate es.length 0).length=es.length:=oK
 have q:=y0 0 e rfl (aeu)
 refine fZ e 4 ?_
 refine lp (α:=Nat) (fun k=>[(1,(Zb d)),(2,Zh),(3,a),(9,(Za ((List.replicate es.length 0).length:Int))),(10,(Za k))]) (fun k w1=>St [(w,[])] [cL fL a 3 1 (tj es.length k),blk d 28 [v]] w1/\k<=es.length) (fun k=>es.length-k) 0 oh (⟨q,o_⟩) ?_
 rintro k E s ⟨F,K⟩
 have O:=aes K
 refine fM F 2 ?_
 by_cases G:(k:Int)<((List.replicate es.length 0).length:Int)
 . refine cH F 20 ?_
   refine iz (f:=(fun _=>k)) 0 F (fun H j=>?_)
   refine fK j 7 ?_
   have t:=y0 0 j rfl (aet o_)
   exact gM (k+1) oh (⟨t,o_⟩) o1
 . refine cH F 13 ?_
   refine kW (vf:=[]) (vc:=(Ze d)) rfl rfl rfl ?_
   have L:k=es.length:=by omega
   have b:=y0 0 F rfl ((congrArg (tj es.length) L).trans aer)
   refine cl (afv es d v a s (yg b 0 rfl) (nV b (i:=1) rfl) b.aan b.acM (b.ad7 s_ d_ hv) hm) ?_
   rintro _ I ⟨u,rfl,x,ht⟩
   have l:=yt 0 b ht
   refine gm l 9 a ?_
   have y:=ye [0] l
   exact⟨a,u,rfl,x,me y⟩
theorem QF(es:List Ge)(w:World)(hv:gV 3 Ge.cells (fun _=>True) w v es)(hg:lP n es)(hn:n<=4096)(hm:es.length<=16384) :
 CR ya 252 #[(Za n),v] w (fun r w' => ∃ (fv:Value) (f:List Nat),r = .tuple (vD fv)/\pq es n f/\fP (fN []) w w' (Z9 fv f)):=by
 refine enter (vs:=[(Za n),v]) func252 rfl ntmps252 rfl ?_
 have ai:=k9 w
 refine fM ai 11 ?_
 refine jG (vl:=[(Za n),v]) rfl rfl eN (DF v n es w hv hg o_ hm) ?_
 rintro _ B ⟨g,h,rfl,ht⟩
 have C:St _ [(Gr.R g n h es)] B:=(y9 (R:=(Gr.R g n h es)) ai ht)
 refine cH C 19 ?_
 refine jG (vl:=(Zd n)) rfl rfl eN (Yf n B o_) ?_
 rintro _ D ⟨a,j,rfl,N,ht⟩
 have t:St _ [(Ds.R a n j),(Gr.R g n h es)] D:=(y9 (R:=(Ds.R a n j)) C ht)
 refine cH t 26 ?_
 refine jG (vl:=[v]) rfl rfl eN (SC v es D (yu t s_ d_ hv).any hm) ?_
 rintro _ E ⟨b,d,rfl,p,ht⟩
 have x:St _ [cL fL b 3 1 d,(Ds.R a n j),(Gr.R g n h es)] E:=(y9 (R:=cL fL b 3 1 d) t ht)
 refine iA (m:=d.length) 0 rfl rfl yc x rfl ?_
 have al:=p.len
 have O:=nU x 3 1
 have G:=ye [2,1,0] O
 obtain⟨o,ah⟩:∃ o,o=d:=⟨_,rfl⟩
 refine fZ x 4 ?_
 rw[<-ah]at G p al
 have ap:d.length=o.length:=by rw[ah]
 refine lp (α:=Nat×Ds×Value) (fun(k,s,fv)=>[(0,(Za n)),(1,v),(4,Zh),(5,Zc),(8,(Zb a)),(10,fv),(33,b),(34,(Za d.length)),(35,(Za k))]) (fun(k,s,fv) w1=>St [(w,[])] (E8 a n s b o fv (gi (kO es n (o.take k)))) w1/\k<=o.length/\s.lb=ic es n (kO es n (o.take k))) (fun(k,s,fv)=>o.length-k) (0,j,Zh) oh (⟨G,o_,N⟩) ?_
 rintro⟨k,s,fv⟩ Y P ⟨ad,hk,T⟩
 have am:(kO es n (o.take k)).length<=k:=by have h7:=(Ga (es:=es) (n:=n) (o.take k)).length_le;rw[zw]at h7;omega
 refine fM ad 2 ?_
 by_cases Z:(k:Int)<(d.length:Int)
 . have ae:=p
   have F:k<o.length:=by omega
   have ak:cE o k<es.length:=ae.lt (zg (fW F))
   have ag:=hg.at ak
   have an:=ag.1
   have ao:=ag.2.1
   refine gh ad 29 fun Q H=>?_
   refine jG (vl:=(Be a ((cE es (cE o k)).u:Int) ((cE es (cE o k)).v:Int))) rfl rfl eN (Yp a n s Q (lq H (i:=0) rfl) o_ ((cE es (cE o k)).u) ((cE es (cE o k)).v) o_ o_) ?_
   rintro _ I ⟨c,rfl,J,ht⟩
   have l:St _ (E8 a n c b o fv (gi (kO es n (o.take k)))) I:=mB (R' := (Ds.R a n c)) 0 H rfl ht rfl
   refine fZ l 12 ?_
   cases K:(decide (cE s.lb (cE es (cE o k)).u≠cE s.lb (cE es (cE o k)).v):Bool)
   . skip
     refine jh l 8 ?_
     have af:=J
     have S:St _ (E8 a n c b o fv (gi (kO es n (o.take (k+1))))) I:=St.u6 2 l rfl (congrArg (iD .i64 fv 3) (by rw[Gb F,if_neg (by unfold nt;rw[<-T];exact of_decide_eq_false K)]))
     exact gM ((k+1),c,fv) oh (⟨S,o_,af.trans (by rw[Gb F,Rl,T])⟩) o1
   . skip
     refine fM l 4 ?_
     refine jB (vs:=(Zd (((cE o k):Nat):Int))) (cs:=(Zd (((cE o k):Nat):Int))) rfl rfl yc fU rfl (by simp[Value.cells]) rfl rfl rfl l ?_
     intro y U aa ab q
     have q:St _ (I2 y ([(((cE o k):Nat):Int)]) a n c b o fv (gi (kO es n (o.take k)))) U:=q
     refine wX (k:=.i64) (ys:=gi (kO es n (o.take k))) (zs:=[(((cE o k):Nat):Int)]) (LL:=fun e=>(I2 y ([(((cE o k):Nat):Int)]) a n c b o e ((gi (kO es n (o.take k)))++([(((cE o k):Nat):Int)])))) 3 rfl rfl rfl yc fU rfl q rfl (kG q (i:=0) rfl) (by simp only[gi,zm,zb,zd,zk,maxLen];omega) (by simp only[gi,zm,zb,zd,zk,maxLen];omega) f_ ?_
     intro e L A ac
     have A:St _ (I2 y ([(((cE o k):Nat):Int)]) a n c b o e ((gi (kO es n (o.take k)))++([(((cE o k):Nat):Int)]))) L:=A
     have M:=ye [1,2,3] A
     refine fK M 8 ?_
     have af:=J
     have V:St _ (E8 a n c b o e (gi (kO es n (o.take (k+1))))) L:=St.u6 2 M rfl (congrArg (iD .i64 e 3) (by rw[Gb F,if_pos (by unfold nt;rw[<-T];exact of_decide_eq_true K),DN]))
     exact gM ((k+1),c,e) oh (⟨V,o_,af.trans (by rw[Gb F,Rl,T])⟩) o1
 . have ae:=p
   refine jk ad 18 fv Zc ?_
   have aj:k=o.length:=by omega
   have W:=ye [2] ad
   have X:St _ [cL fL fv 3 1 (kO es n o)] P:=St.u6 0 W rfl (((congrArg (fun z=>iD .i64 fv 3 (gi (kO es n z))) (by rw[aj,sB])).trans (D0 f_ _).symm))
   exact⟨fv,kO es n o,rfl,⟨o,ae,rfl⟩,me X⟩
end
theorem ag2(uv:Value)(n:Nat)(lb:List Nat)(p:List jr)(w:World)(t:Own (Dk uv p) w)(u:Un n lb p)(A:n<=1000000)(a0:Nat)(v:a0<n) :
 CR ya 253 #[uv,(Za a0)] w (fun r w' => ∃ xs:List jr,r = .int .i64 ((cE lb a0:Nat):Int)/\(Un n lb xs/\∀ j,(cE xs j).b=(cE p j).b)/\fP (Dk uv p) w w' (Dk uv xs)):=by
 refine gj func253 ?_
 have s:=yy t
 refine oW s 7 ?_
 refine lp (α:=Nat×List jr) (fun(i,xs)=>[(0,uv),(1,(Za i)),(4,Zc)]) (fun(i,xs) w1=>St [(w,(Dk uv p).gq)] [cL jr.cells uv 169 2 xs] w1/\vz n lb p a0 xs i) (fun(i,xs)=>i) (a0,p) oh (⟨s,vz.start u v⟩) ?_
 rintro⟨i,xs⟩ e g ⟨q,o⟩
 have C:=o.un.len
 have z:=o.lt
 have B:=o.un.le i z
 refine fM q 6 ?_
 refine vO (cf:=jr.cells) (k:=i) (off:=0) (off' := 0) (i:=0) rfl rfl rfl yq fU d_ rfl (yv q 0 rfl) (fW om) (cH q 2 ?_)
 by_cases h:((cE xs i).a:Int)=(i:Int)
 . refine gm q 16 (Za i) ?_
   have y:=o.fin o_
   exact⟨xs,by rw[<-y],⟨o.un,o.nd⟩,iM q⟩
 . refine gh q 15 fun l c=>?_
   refine vO (cf:=jr.cells) (k:=i) (off:=0) (off' := 0) (i:=0) rfl rfl rfl yq fU d_ rfl (yv c 0 rfl) (fW om) (cH c 2 ?_)
   refine vO (cf:=jr.cells) (k:=((cE xs i).a)) (off:=0) (off' := 0) (i:=0) rfl rfl rfl yq fU d_ rfl (yv c 0 rfl) (fW om) (cH c 2 ?_)
   refine vO (cf:=jr.cells) (k:=i) (off:=0) (off' := 0) (i:=0) rfl rfl rfl yq fU d_ rfl (yv c 0 rfl) (fW om) (iz (f:=(fun x:jr=>{ x with a:=((cE xs ((cE xs i).a)).a) })) 0 c (fun m d=>?_))
   refine cH d 6 ?_
   refine vO (cf:=jr.cells) (k:=i) (off:=0) (off' := 0) (i:=0) rfl rfl rfl yq fU d_ rfl (yv d 0 rfl) (fW om) (fK d 4 ?_)
   exact gM (((cE (cO xs i (fun x=>{ x with a:=((cE xs ((cE xs i).a)).a) })) i).a),cO xs i (fun x=>{ x with a:=((cE xs ((cE xs i).a)).a) })) oh (⟨d,(o.half (us2:=cO xs i (fun x=>{ x with a:=((cE xs ((cE xs i).a)).a) })) o_ rfl).1⟩) (o.half (us2:=cO xs i (fun x=>{ x with a:=((cE xs ((cE xs i).a)).a) })) o_ rfl).2
def Un.R(uv:Value)(n:Nat)(lb d:List Nat)(a:List jr):fJ:=lC (Un n lb a/\∀ j,j<n->(cE a j).b=cE d j) (Dk uv a)
theorem ag1(d:List Nat)(b:List jr)(w:World)(a:Own (Un.R v n lb d b) w)(h:n<=1000000)(a0:Nat)(f:a0<n) :
 CR ya 253 #[v,.int .i64 (a0:Int)] w (fun r w' => ∃ xs:List jr,r = .int .i64 ((cE lb a0:Nat):Int)/\fP (Un.R v n lb d b) w w' (Un.R v n lb d xs)) :=
 CR.mono (ag2 v n lb b w a.un a.fact.1 h a0 f) fun r w' ⟨xs,e,c,ht⟩=>⟨xs,e,ht.qS ⟨c.1,fun j g=>(c.2 j).trans (a.fact.2 j g)⟩⟩
theorem UP(d:List Nat)(a:List jr)(w:World)(b:Own (Un.R v n lb d a) w)(e:n<=1000000)(a0:Nat)(c:a0<n){x:Nat}(f:cE lb a0=x) :
 CR ya 253 #[v,.int .i64 (a0:Int)] w (fun r w' => ∃ xs:List jr,r = .int .i64 (x:Int)/\fP (Un.R v n lb d a) w w' (Un.R v n lb d xs)):=by
 subst f
 exact ag1 v n lb d a w b e a0 c
theorem LI(es:List Ge)(w:World)(hv:gV 3 Ge.cells (fun _=>True) w v es)(hg:lP n es)(hn:n<=4096)(hm:es.length<=16384) :
 CR ya 182 #[(Za n),v] w (fun r w' => ∃ (f:List Nat) (lv rv pv cg sv:Value),r = .tuple #[.agg #[.int .i64 (n:Int),lv,rv,pv,cg,sv],.int .i64 0]/\pq es n f/\fP (fN []) w w' (Dj lv (fO es n f) rv pv cg sv)):=by
 refine iE func182 2 fun cn=>?_
 refine ir cn (fun E az bt bu S=>?_)
 refine cH S 7 ?_
 refine cl (QF v n es az (yu S s_ d_ hv).any hg hn hm) ?_
 rintro _ bv ⟨fv,f,rfl,aA,ht⟩
 have Q:=(y9 S ht)
 have bk:=aA
 have cq:=bk.len
 refine cH Q 21 ?_
 refine iA (m:=f.length) 0 rfl rfl yc Q rfl (gL (e:=((n+f.length:Nat):Int)) rfl iX (fZ Q 4 ?_))
 refine xI mixed [0,1,3,5,7,9] [2,4,6,8,10,12] [] [11,13] Q (fun bw ag=>xY ?_)
 refine fK ag 7 ?_
 refine nF trivial (xW [⟨2,36,[],[],Nat,fun I=>(Zf I (n+f.length)),fun I=>[blk I 3 ((List.replicate (n+f.length) 0).flatMap fQ)]⟩,⟨4,38,[],[],Nat,fun G=>(Zf G (n+f.length)),fun G=>[blk G 3 ((List.replicate (n+f.length) 0).flatMap fQ)]⟩,⟨6,40,[],[],Nat,fun D=>(Zf D (n+f.length)),fun D=>[blk D 3 ((List.replicate (n+f.length) 0).flatMap fQ)]⟩,⟨8,42,[],[],Nat,fun C=>(Zf C (n+f.length)),fun C=>[blk C 2 ((List.replicate (n+f.length) 0).flatMap fQ)]⟩,⟨10,44,[],[],Nat,fun A=>(Zf A (n+f.length)),fun A=>[blk A 3 ((List.replicate (n+f.length) 0).flatMap fL)]⟩,⟨12,9,[],[],Nat,fun B=>(Zb B),fun B=>[blk B 102 Ba]⟩] ag ⟨mT (fun Z wq hM _=>kA (cf:=fQ) (z0:=0) (m:=(n+f.length)) (c:=(n+f.length)) rfl rfl rfl yc fU rfl f_ d_ (zh _) o_ o_ hM (fun aB _ _ _ h=>have hK:=h;nh ⟨aB,rfl,hK,trivial⟩)),mT (fun Z wq hM _=>kA (cf:=fQ) (z0:=0) (m:=(n+f.length)) (c:=(n+f.length)) rfl rfl rfl yc fU rfl f_ d_ (zh _) o_ o_ hM (fun aC _ _ _ h=>have hK:=h;nh ⟨aC,rfl,hK,trivial⟩)),mT (fun Z wq hM _=>kA (cf:=fQ) (z0:=0) (m:=(n+f.length)) (c:=(n+f.length)) rfl rfl rfl yc fU rfl f_ d_ (zh _) o_ o_ hM (fun aD _ _ _ h=>have hK:=h;nh ⟨aD,rfl,hK,trivial⟩)),mT (fun Z wq hM _=>kA (cf:=fQ) (z0:=0) (m:=(n+f.length)) (c:=(n+f.length)) rfl rfl rfl yr ti2 rfl f_ d_ (zh _) o_ o_ hM (fun aE _ _ _ h=>have hK:=h;nh ⟨aE,rfl,hK,trivial⟩)),mT (fun Z wq hM _=>kA (cf:=fL) (z0:=0) (m:=(n+f.length)) (c:=(n+f.length)) rfl rfl rfl yc fU rfl f_ d_ (zh _) o_ o_ hM (fun aF _ _ _ h=>have hK:=h;nh ⟨aF,rfl,hK,trivial⟩)),mT (fun Z wq hM _=>al (cs:=Ba) rfl Al rfl hM (fun aG _ _ _ h=>have hK:=h;nh ⟨aG,rfl,hK,trivial⟩))⟩ ?_)
 rintro I G D C A B bx aH
 refine iL (pvs:=[(0,(Za n)),(1,(Zf I (n+f.length))),(2,(Zf G (n+f.length))),(3,(Zf D (n+f.length))),(4,(Zf C (n+f.length))),(5,(Zf A (n+f.length)))]) (v:=.agg #[(Za n),(Zf I (n+f.length)),(Zf G (n+f.length)),(Zf D (n+f.length)),(Zf C (n+f.length)),(Zf A (n+f.length))]) rfl rfl (i6 [(0,(Zd n)),(1,(p6 I (n+f.length))),(2,(p6 G (n+f.length))),(3,(p6 D (n+f.length))),(4,(p6 C (n+f.length))),(5,(p6 A (n+f.length)))] Al adj rfl oh rfl) (jI aH 2 fun K aI=>?_)
 have ah:St _ [blk B 102 [(.int .i64 n),(.slice (some ⟨I,0,none⟩) (n+f.length) (n+f.length)),(.slice (some ⟨G,0,none⟩) (n+f.length) (n+f.length)),(.slice (some ⟨D,0,none⟩) (n+f.length) (n+f.length)),(.slice (some ⟨C,0,none⟩) (n+f.length) (n+f.length)),(.slice (some ⟨A,0,none⟩) (n+f.length) (n+f.length))],blk A 3 ((List.replicate (n+f.length) 0).flatMap fL),blk C 2 ((List.replicate (n+f.length) 0).flatMap fQ),blk D 3 ((List.replicate (n+f.length) 0).flatMap fQ),blk G 3 ((List.replicate (n+f.length) 0).flatMap fQ),cL fQ (.slice (some ⟨I,0,none⟩) (n+f.length) (n+f.length)) 3 1 (List.replicate (n+f.length) 0),cL fL fv 3 1 f,blk E 102 [(.int .i64 0),(.slice none 0 0),(.slice none 0 0),(.slice none 0 0),(.slice none 0 0),(.slice none 0 0)]] K:=mR (cf:=fQ) aI (i:=5) rfl f_ (zh _) (by simp only[maxLen];omega)
 generalize (Value.slice (some ⟨I,0,none⟩) (n+f.length) (n+f.length))=g at ah ⊢
 have ai:St _ [blk B 102 [(.int .i64 n),g,(.slice (some ⟨G,0,none⟩) (n+f.length) (n+f.length)),(.slice (some ⟨D,0,none⟩) (n+f.length) (n+f.length)),(.slice (some ⟨C,0,none⟩) (n+f.length) (n+f.length)),(.slice (some ⟨A,0,none⟩) (n+f.length) (n+f.length))],blk A 3 ((List.replicate (n+f.length) 0).flatMap fL),blk C 2 ((List.replicate (n+f.length) 0).flatMap fQ),blk D 3 ((List.replicate (n+f.length) 0).flatMap fQ),cL fQ (.slice (some ⟨G,0,none⟩) (n+f.length) (n+f.length)) 3 1 (List.replicate (n+f.length) 0),cL fQ g 3 1 (List.replicate (n+f.length) 0),cL fL fv 3 1 f,blk E 102 [(.int .i64 0),(.slice none 0 0),(.slice none 0 0),(.slice none 0 0),(.slice none 0 0),(.slice none 0 0)]] K:=mR (cf:=fQ) ah (i:=4) rfl f_ (zh _) (by simp only[maxLen];omega)
 generalize (Value.slice (some ⟨G,0,none⟩) (n+f.length) (n+f.length))=j at ai ⊢
 have aj:St _ [blk B 102 [(.int .i64 n),g,j,(.slice (some ⟨D,0,none⟩) (n+f.length) (n+f.length)),(.slice (some ⟨C,0,none⟩) (n+f.length) (n+f.length)),(.slice (some ⟨A,0,none⟩) (n+f.length) (n+f.length))],blk A 3 ((List.replicate (n+f.length) 0).flatMap fL),blk C 2 ((List.replicate (n+f.length) 0).flatMap fQ),cL fQ (.slice (some ⟨D,0,none⟩) (n+f.length) (n+f.length)) 3 1 (List.replicate (n+f.length) 0),cL fQ j 3 1 (List.replicate (n+f.length) 0),cL fQ g 3 1 (List.replicate (n+f.length) 0),cL fL fv 3 1 f,blk E 102 [(.int .i64 0),(.slice none 0 0),(.slice none 0 0),(.slice none 0 0),(.slice none 0 0),(.slice none 0 0)]] K:=mR (cf:=fQ) ai (i:=3) rfl f_ (zh _) (by simp only[maxLen];omega)
 generalize (Value.slice (some ⟨D,0,none⟩) (n+f.length) (n+f.length))=q at aj ⊢
 have ak:St _ [blk B 102 [(.int .i64 n),g,j,q,(.slice (some ⟨C,0,none⟩) (n+f.length) (n+f.length)),(.slice (some ⟨A,0,none⟩) (n+f.length) (n+f.length))],blk A 3 ((List.replicate (n+f.length) 0).flatMap fL),cL fQ (.slice (some ⟨C,0,none⟩) (n+f.length) (n+f.length)) 2 1 (List.replicate (n+f.length) 0),cL fQ q 3 1 (List.replicate (n+f.length) 0),cL fQ j 3 1 (List.replicate (n+f.length) 0),cL fQ g 3 1 (List.replicate (n+f.length) 0),cL fL fv 3 1 f,blk E 102 [(.int .i64 0),(.slice none 0 0),(.slice none 0 0),(.slice none 0 0),(.slice none 0 0),(.slice none 0 0)]] K:=mR (cf:=fQ) aj (i:=2) rfl f_ (zh _) (by simp only[maxLen];omega)
 generalize (Value.slice (some ⟨C,0,none⟩) (n+f.length) (n+f.length))=t at ak ⊢
 have U:St _ [blk B 102 [(.int .i64 n),g,j,q,t,(.slice (some ⟨A,0,none⟩) (n+f.length) (n+f.length))],cL fL (.slice (some ⟨A,0,none⟩) (n+f.length) (n+f.length)) 3 1 (List.replicate (n+f.length) 0),cL fQ t 2 1 (List.replicate (n+f.length) 0),cL fQ q 3 1 (List.replicate (n+f.length) 0),cL fQ j 3 1 (List.replicate (n+f.length) 0),cL fQ g 3 1 (List.replicate (n+f.length) 0),cL fL fv 3 1 f,blk E 102 [(.int .i64 0),(.slice none 0 0),(.slice none 0 0),(.slice none 0 0),(.slice none 0 0),(.slice none 0 0)]] K:=mR (cf:=fL) ak (i:=1) rfl f_ (zh _) (by simp only[maxLen];omega)
 generalize (Value.slice (some ⟨A,0,none⟩) (n+f.length) (n+f.length))=z at U ⊢
 refine zX tt none U 4 ?_
 refine kA (cf:=jr.cells) (z0:=(⟨0,0⟩:jr)) (m:=n) (c:=n) rfl rfl rfl underlying368 Hv rfl f_ d_ (zh _) o_ o_ U ?_
 intro am aJ bz bA aK
 have V:St _ [cL jr.cells (.slice (some ⟨am,0,none⟩) n n) 169 2 (List.replicate n (⟨0,0⟩:jr)),blk B 102 [(.int .i64 n),g,j,q,t,z],cL fL z 3 1 (List.replicate (n+f.length) 0),cL fQ t 2 1 (List.replicate (n+f.length) 0),cL fQ q 3 1 (List.replicate (n+f.length) 0),cL fQ j 3 1 (List.replicate (n+f.length) 0),cL fQ g 3 1 (List.replicate (n+f.length) 0),cL fL fv 3 1 f,blk E 102 [(.int .i64 0),(.slice none 0 0),(.slice none 0 0),(.slice none 0 0),(.slice none 0 0),(.slice none 0 0)]] aJ:=mR (cf:=jr.cells) aK (i:=0) rfl f_ (zh _) (by simp only[maxLen];omega)
 generalize (Value.slice (some ⟨am,0,none⟩) n n)=H at V ⊢
 have aL:=ye [1,6,5,4,3,2,0,7,8] V
 have aM:=y0 1 aL rfl (G8 (x := -1))
 have aN:=y0 2 aM rfl (G8 (x := -1))
 have aO:=y0 3 aN rfl (G8 (x := -1))
 refine fZ V 11 ?_
 refine lp (α:=Nat) (fun k=>[(0,(Za n)),(1,v),(4,(Zb E)),(5,Zc),(6,fv),(8,(Za ((n+f.length:Nat):Int))),(9,(Zb B)),(10,H),(48,(Za ((n+f.length:Nat):Int))),(49,(Za k))]) (fun k w1=>St [(w,[])] [blk B 102 (Zs n g j q t z),cL fQ g 3 1 (oH (-1) 0 (n+f.length) k),cL fQ j 3 1 (oH (-1) 0 (n+f.length) k),cL fQ q 3 1 (oH (-1) 0 (n+f.length) k),cL fQ t 2 1 (List.replicate (n+f.length) 0),cL fL z 3 1 (List.replicate (n+f.length) 0),cL jr.cells H 169 2 (List.replicate n (⟨0,0⟩:jr)),cL fL fv 3 1 f,blk E 102 Ba] w1/\k<=n+f.length) (fun k=>n+f.length-k) 0 oh (⟨aO,o_⟩) ?_
 rintro k bB bC ⟨ca,hk⟩
 have cz:=Ty (x:=(-1:Int)) (y:=0) hk
 refine fM ca 2 ?_
 by_cases bD:(k:Int)<((n+f.length:Nat):Int)
 . refine fZ ca 15 ?_
   refine jS mixed [([0,1,2,3,4,5,6,7,8,9,10],[4,7]),([11,12],[7])] [13,14] ca (fun bE an=>iY ?_)
   refine cH an 10 ?_
   refine iz (f:=(fun _ => -1)) (cf:=fQ) 1 an (fun bF W=>?_)
   refine fK W 1 ?_
   refine jF (iY ?_)
   refine cH W 1 ?_
   refine iz (f:=(fun _ => -1)) (cf:=fQ) 2 W (fun bG X=>?_)
   refine fK X 1 ?_
   refine jF (jX ?_)
   refine cH X 1 ?_
   refine iz (f:=(fun _ => -1)) (cf:=fQ) 3 X (fun bH ao=>?_)
   refine fK ao 7 ?_
   have aP:=y0 1 ao rfl (G7 o_)
   have aQ:=y0 2 aP rfl (G7 o_)
   have aR:=y0 3 aQ rfl (G7 o_)
   exact gM (k+1) oh (⟨aR,o_⟩) o1
 . have cb:k=n+f.length:=by omega
   have aS:=y0 1 ca rfl ((congrArg (oH (-1) 0 (n+f.length)) cb).trans LX)
   have aT:=y0 2 aS rfl ((congrArg (oH (-1) 0 (n+f.length)) cb).trans LX)
   have aU:=y0 3 aT rfl ((congrArg (oH (-1) 0 (n+f.length)) cb).trans LX)
   have aV:=y0 5 aU rfl (G8 (x:=1))
   have aW:=y0 6 aV rfl (ahg)
   refine fZ ca 18 ?_
   refine lp (α:=Nat) (fun F=>[(0,(Za n)),(1,v),(4,(Zb E)),(5,Zc),(6,fv),(8,(Za ((n+f.length:Nat):Int))),(9,(Zb B)),(10,H),(65,(Za n)),(66,(Za F))]) (fun F w1=>St [(w,[])] [blk B 102 (Zs n g j q t z),cL fQ g 3 1 (List.replicate (n+f.length) (-1)),cL fQ j 3 1 (List.replicate (n+f.length) (-1)),cL fQ q 3 1 (List.replicate (n+f.length) (-1)),cL fQ t 2 1 (List.replicate (n+f.length) 0),cL fL z 3 1 (oH 1 0 (n+f.length) F),cL jr.cells H 169 2 (tw n F),cL fL fv 3 1 f,blk E 102 Ba] w1/\F<=n) (fun F=>n-F) 0 oh (⟨aW,o_⟩) ?_
   rintro F bI bJ ⟨b8,cm⟩
   have cA:=Ty (x:=(1:Nat)) (y:=0) (show F<=n+f.length by omega)
   have cC:=ahe cm
   refine fM b8 2 ?_
   by_cases bK:(F:Int)<(n:Int)
   . refine cH b8 21 ?_
     refine iz (f:=(fun _=>1)) (cf:=fL) 5 b8 (fun bL Y=>?_)
     refine cH Y 7 ?_
     refine iL (pvs:=[(0,(Za F)),(1,(Za F))]) (v:=.agg #[(Za F),(Za F)]) rfl rfl (uN [(0,(Zd F)),(1,(Zd F))] Hv yq fU rfl oh rfl s_) (cH Y 1 ?_)
     refine iz (f:=(fun _=>(⟨F,F⟩:jr))) 6 Y (fun bM ap=>?_)
     refine fK ap 7 ?_
     have aX:=y0 5 ap rfl (G7 o_)
     have aY:=y0 6 aX rfl (ahf o_)
     exact gM (F+1) oh (⟨aY,o_⟩) o1
   . refine cH b8 14 ?_
     refine iA (m:=f.length) 7 rfl rfl yc b8 rfl ?_
     have ce:F=n:=by omega
     have aZ:=y0 5 b8 rfl (((congrArg (oH 1 0 (n+f.length)) ce).trans (by unfold oH;rfl)))
     have a0:=y0 6 aZ rfl ((congrArg (tw n) ce).trans ahd)
     have a1:=y0 1 a0 rfl (rfl)
     have a2:=y0 2 a1 rfl (rfl)
     have a3:=y0 3 a2 rfl (rfl)
     have a4:=y0 4 a3 rfl (rfl)
     refine fZ b8 4 ?_
     refine lp (α:=Nat×List jr) (fun(i,us)=>[(0,(Za n)),(1,v),(4,(Zb E)),(5,Zc),(6,fv),(9,(Zb B)),(10,H),(80,fv),(81,(Za f.length)),(82,(Za i))]) (fun(i,us) w1=>St [(w,[])] [blk B 102 (Zs n g j q t z),cL fQ g 3 1 ((gG es n f i).l),cL fQ j 3 1 ((gG es n f i).r),cL fQ q 3 1 ((gG es n f i).p),cL fQ t 2 1 ((gG es n f i).h),cL fL z 3 1 ((gG es n f i).s),cL jr.cells H 169 2 us,cL fL fv 3 1 f,blk E 102 Ba] w1/\i<=f.length/\rG es n f i us) (fun(i,us)=>f.length-i) (0,((List.range n).map fun i=>⟨i,i⟩)) oh (⟨a4,o_,rG.start⟩) ?_
     rintro⟨i,us⟩ bN a5 ⟨ar,hi,hT⟩
     obtain⟨cr,ct,cu,cv,cw,cx⟩:=Co (es:=es) (n:=n) (f:=f) i
     have cB:=hT.un.len
     refine fM ar 2 ?_
     by_cases bO:(i:Int)<(f.length:Int)
     . have b7:i<f.length:=by omega
       have cy:cE f i<es.length:=bk.lt (zg (fW b7))
       obtain⟨co,cp,ch,ci,cc⟩:=hT.at hg b7 (fun k hk=>bk.lt hk) (bk.nt b7)
       obtain⟨T,b5⟩:∃ x,(cE (ic es n (f.take i)) (cE es (cE f i)).u)=x:=⟨_,rfl⟩
       obtain⟨y7,b6⟩:∃ x,(cE (ic es n (f.take i)) (cE es (cE f i)).v)=x:=⟨_,rfl⟩
       refine cH ar 1 ?_
       rw[b5]at ch cc
       rw[b6]at ci cc
       obtain⟨cj,ck,cd⟩:=hT.two hg b7 (fun k hk=>bk.lt hk) (bk.nt b7) b5 b6
       refine cH ar 21 ?_
       refine gL (e:=((n+i:Nat):Int)) rfl iX (fZ ar 4 ?_)
       have a6:=ye [6,0,1,2,3,4,5,7,8] ar
       have a7:St _ [(Un.R H n (ic es n (f.take i)) (gG es n f i).d us),blk B 102 (Zs n g j q t z),cL fQ g 3 1 ((gG es n f i).l),cL fQ j 3 1 ((gG es n f i).r),cL fQ q 3 1 ((gG es n f i).p),cL fQ t 2 1 ((gG es n f i).h),cL fL z 3 1 ((gG es n f i).s),cL fL fv 3 1 f,blk E 102 Ba] a5:=yn a6 ⟨hT.un,hT.dd⟩
       refine jS mixed [([0,1,2,3,4,5,7,8,9,10,11,12,6],[12])] [13,14,15] a7 (fun a8 aa=>iY ?_)
       refine cH aa 12 ?_
       refine cl (UP H n (ic es n (f.take i)) (gG es n f i).d us a8 (yg aa 0 rfl) o_ ((cE es (cE f i)).u) o_ b5) ?_
       rintro _ a9 ⟨ba,rfl,ht⟩
       have ab:=yt 0 aa ht
       refine fK ab 1 ?_
       refine jF (jX ?_)
       refine cl (UP H n (ic es n (f.take i)) (gG es n f i).d ba a9 (yg ab 0 rfl) o_ ((cE es (cE f i)).v) o_ b6) ?_
       rintro _ bP ⟨J,rfl,ht⟩
       have L:=yt 0 ab ht
       refine cH L 8 ?_
       refine min2 (a:=(T:Int)) (b:=(y7:Int)) (c:=((min T y7:Nat):Int)) rfl rfl rfl GL (cH L 2 ?_)
       refine max2 (a:=(T:Int)) (b:=(y7:Int)) (c:=((max T y7:Nat):Int)) rfl rfl rfl RZ ?_
       have M:=qT L
       have bb:=j7 L
       have N:=M.2 (min T y7) o_
       have O:=M.2 (max T y7) o_
       have cD:=M.1.len
       refine fZ L 5 ?_
       rw[<-N]at cj cd
       rw[<-O]at ck cd
       refine ny bb 4 fun bQ P=>?_
       refine vO (cf:=jr.cells) (k:=(min T y7)) (off:=0) (off' := 1) (i:=1) rfl rfl rfl yq fU d_ rfl (yv P 0 rfl) (fW om) (cH P 4 ?_)
       refine vO (cf:=jr.cells) (k:=(max T y7)) (off:=0) (off' := 1) (i:=1) rfl rfl rfl yq fU d_ rfl (yv P 0 rfl) (fW om) (fZ P 6 ?_)
       refine jS mixed [([0,1,2,3,4,5,6,7,8,9],[4])] [10,11] P (fun bR aq=>iY ?_)
       refine cH aq 9 ?_
       refine iz (f:=(fun _=>((cE J (min T y7)).b:Int))) 2 aq (fun bS ac=>?_)
       refine fK ac 1 ?_
       refine jF (jX ?_)
       refine cH ac 1 ?_
       refine iz (f:=(fun _=>((cE J (max T y7)).b:Int))) 3 ac (fun bT au=>?_)
       refine fZ au 3 ?_
       refine jS mixed [([0,1,2,3,4,5,6,7,8,9],[4])] [10,11] au (fun bU av=>iY ?_)
       refine cH av 9 ?_
       refine iz (f:=(fun _=>((n+i:Nat):Int))) 4 av (fun bV ad=>?_)
       refine fK ad 1 ?_
       refine jF (jX ?_)
       refine cH ad 1 ?_
       refine iz (f:=(fun _=>((n+i:Nat):Int))) 4 ad (fun bW bc=>?_)
       refine gh bc 13 fun bX bd=>?_
       refine iz (f:=(fun _=>(cE es (cE f i)).w)) 5 bd (fun bY be=>?_)
       refine gh be 17 fun bZ aw=>?_
       refine gL (e:=(((cE ((gG es n f i).s) ((cE J (min T y7)).b))+(cE ((gG es n f i).s) ((cE J (max T y7)).b)):Nat):Int)) rfl iX (cH aw 1 ?_)
       refine iz (f:=(fun _=>((cE ((gG es n f i).s) ((cE J (min T y7)).b))+(cE ((gG es n f i).s) ((cE J (max T y7)).b))))) 6 aw (fun b0 bf=>?_)
       refine gh bf 10 fun b1 ax=>?_
       refine vO (cf:=jr.cells) (k:=(max T y7)) (off:=0) (off' := 0) (i:=0) rfl rfl rfl yq fU d_ rfl (yv ax 0 rfl) (fW om) (iz (f:=(fun x:jr=>{ x with a:=(min T y7) })) 0 ax (fun b2 ae=>?_))
       refine cH ae 1 ?_
       refine vO (cf:=jr.cells) (k:=(min T y7)) (off:=0) (off' := 1) (i:=1) rfl rfl rfl yq fU d_ rfl (yv ae 0 rfl) (fW om) (iz (f:=(fun x:jr=>{ x with b:=(n+i) })) 0 ae (fun b3 ay=>?_))
       refine fK ay 7 ?_
       have bg:=ye [1,2,3,4,5,6,0,7,8] ay
       have bh:=y0 1 bg rfl (by subst b5 b6;simp only[N,O];rfl)
       have bi:=y0 2 bh rfl (by subst b5 b6;simp only[N,O];rfl)
       have bj:=y0 3 bi rfl (by subst b5 b6;simp only[N,O];rfl)
       have bl:=y0 4 bj rfl (rfl)
       have bm:=y0 5 bl rfl (by subst b5 b6;simp only[N,O];rfl)
       exact gM ((i+1),cO (cO J (max T y7) (fun x=>{ x with a:=(min T y7) })) (min T y7) (fun x=>{ x with b:=(n+i) })) oh (⟨bm,o_,hT.next hg b7 (fun k hk=>bk.lt hk) (bk.nt b7) M.1 M.2 (by subst b5 b6;rfl)⟩) o1
     . refine cH ar 13 ?_
       refine iS 8 ar (fun b4 af=>?_) (h1:=(gD rfl (gD (yh ar (i:=1) rfl) (gD (yh ar (i:=2) rfl) (gD (yh ar (i:=3) rfl) (gD (yh ar (i:=4) rfl) (gD (yh ar (i:=5) rfl) je)))))))
       refine fK af 4 ?_
       refine o5 (v:=(Bo n g j q t z)) (v' := Zc) results182 (oI (cs:=(Zs n g j q t z)) rfl underlying102 rfl Al rfl (mL af (i:=8) (o:=0) (vs:=(Zs n g j q t z)) rfl rfl)) (qm rfl) ?_
       have b9:i=f.length:=by omega
       have bn:=y0 1 af rfl (by rw[b9]<;>rfl)
       have bo:=y0 2 bn rfl (by rw[b9]<;>rfl)
       have bp:=y0 3 bo rfl (by rw[b9]<;>rfl)
       have bq:=y0 4 bp rfl (by rw[b9]<;>rfl)
       have br:=y0 5 bq rfl (by rw[b9]<;>rfl)
       have bs:=ye [1,2,3,4,5] br
       exact⟨f,g,j,q,t,z,rfl,bk,me (yd [_,_,_,_,_] _ bs)⟩
structure nK (w:World) (es:List Ge) (n:Nat) (f:List Nat) (tl tr tp th ts:Value):Prop where
 l:gV 1 fQ (fun _=>True) w tl (fO es n f).l
 r:gV 1 fQ (fun _=>True) w tr (fO es n f).r
 p:gV 1 fQ (fun _=>True) w tp (fO es n f).p
 h:gV 1 fQ (fun _=>True) w th (fO es n f).h
 s:gV 1 fL (fun _=>True) w ts (fO es n f).s
theorem nK.to{bs:List (World×List Nat)}{L:List fJ}{w w0:World}{es:List Ge}{n:Nat}{f:List Nat}{a c b th d:Value}(h:nK w0 es n f a c b th d)(hs:St bs L w)(hb:(w0,[])∈bs):nK w es n f a c b th d :=
 ⟨yu hs hb d_ h.l,yu hs hb d_ h.r,yu hs hb d_ h.p,yu hs hb d_ h.h,yu hs hb d_ h.s⟩
theorem aba(f:List Nat)(o:iN es n f)(H:n<=4096)(q u t th y:Value)(w:World)(m:nK w es n f q u t th y)(x:Nat)(z:x<n) :
 CK ya 262 (Bk n q u t th y x) w (.bool true):=by
 obtain⟨C,D,E,F,G⟩:=mK (es:=es) (n:=n) (f:=f)
 have B:=o.f.room o.g
 refine gj func262 ?_
 have p:=k9 w
 obtain⟨a1,a2,a3,A⟩:cE (fO es n f).l x = -1/\cE (fO es n f).r x = -1/\cE (fO es n f).h x=0/\cE (fO es n f).s x=1:=o.v.a x z
 refine fM p 2 ?_
 refine gN p (fun c d e j b=>?_)
 refine cH b 8 ?_
 refine iH (k:=x) (i:=(x:Int)) rfl rfl rfl yc fU m.l o_ o_ (fW o_) (jf rfl rfl yf rfl (yu b s_ d_ m.l) (fW o_) rfl (gz rfl (sW o_) (cH b 4 ?_)))
 refine iH (k:=x) (i:=(x:Int)) rfl rfl rfl yc fU m.r o_ o_ (fW o_) (jf rfl rfl yf rfl (yu b s_ d_ m.r) (fW o_) rfl (gz rfl (sW o_) (cH b 5 ?_)))
 refine iH (k:=x) (i:=(x:Int)) rfl rfl rfl yr ti2 m.h o_ o_ (fW o_) (jf rfl rfl ur rfl (yu b s_ d_ m.h) (fW o_) rfl (gz rfl (sW o_) (cH b 5 ?_)))
 refine iH (k:=x) (i:=(x:Int)) rfl rfl rfl yc fU m.s o_ o_ (fW o_) (jf rfl rfl yf rfl (yu b s_ d_ m.s) (fW o_) rfl (gz rfl (sW o_) (fK b 5 ?_)))
 refine gT (v:=Zi) results262 rfl ?_
 exact⟨rfl,b.gf s_⟩
theorem aas(f:List Nat)(D:iN es n f)(hn:n<=4096)(K M L th N:Value)(w:World)(C:nK w es n f K M L th N)(i:Nat)(hi:i<f.length)(ev:Value)(le:List Nat)(Y:gV 1 fL (fun _=>True) w ev le)(P:le[nL es n f i]? = some (gJ es n f (nL es n f i)))(Q:le[nR es n f i]? = some (gJ es n f (nR es n f i))) :
 CK ya 264 #[(Bo n K M L th N),ev,(Za ((n+i:Nat):Int))] w (.bool true):=by
 obtain⟨aa,ab,ac,ad,ae⟩:=mK (es:=es) (n:=n) (f:=f)
 have Z:=D.f.room D.g
 refine gj func264 ?_
 have J:=k9 w
 obtain⟨e1,F,G,H,I,T,U,V,W,R⟩:=D.inner hi
 obtain⟨k1,k2,k3⟩:=D.xm hi
 have s1:=(D.st hi).1
 have af:cE (fO es n f).s (nL es n f i)<=n:=by omega
 have ag:cE (fO es n f).s (nR es n f i)<=n:=by omega
 refine fM J 2 ?_
 refine gN J (fun o q t u j=>?_)
 refine gh j 8 fun x a=>?_
 refine iH (k:=(n+i)) (i:=((n+i:Nat):Int)) rfl rfl rfl yc fU C.l o_ o_ e1 (jf rfl rfl yf rfl (yu a s_ d_ C.l) e1 rfl (cH a 3 ?_))
 refine iH (k:=(n+i)) (i:=((n+i:Nat):Int)) rfl rfl rfl yc fU C.r o_ o_ F (jf rfl rfl yf rfl (yu a s_ d_ C.r) F rfl (cH a 8 ?_))
 refine gz rfl (kT o_) (cH a 3 ?_)
 refine gz rfl (p9 o_) (cH a 3 ?_)
 refine gz rfl (kT o_) (cH a 4 ?_)
 refine gz rfl (p9 o_) (cH a 4 ?_)
 refine gz rfl (uO o_) (gh a 12 fun z c=>?_)
 refine iH (k:=(nL es n f i)) (i:=(((nL es n f i):Nat):Int)) rfl rfl rfl yc fU C.p o_ o_ H (jf rfl rfl yf rfl (yu c s_ d_ C.p) H rfl (cH c 1 ?_))
 refine gz rfl (q7 o_) (cH c 4 ?_)
 refine iH (k:=(nR es n f i)) (i:=(((nR es n f i):Nat):Int)) rfl rfl rfl yc fU C.p o_ o_ I (jf rfl rfl yf rfl (yu c s_ d_ C.p) I rfl (cH c 1 ?_))
 refine gz rfl (q7 o_) (cH c 10 ?_)
 refine gz rfl (p9 o_) (gh c 12 fun A d=>?_)
 refine iH (k:=(n+i)) (i:=((n+i:Nat):Int)) rfl rfl rfl yc fU C.s o_ o_ (fW o_) (jf rfl rfl yf rfl (yu d s_ d_ C.s) (fW o_) rfl (cH d 3 ?_))
 refine iH (k:=(nL es n f i)) (i:=(((nL es n f i):Nat):Int)) rfl rfl rfl yc fU C.s o_ o_ (fW o_) (jf rfl rfl yf rfl (yu d s_ d_ C.s) (fW o_) rfl (cH d 3 ?_))
 refine iH (k:=(nR es n f i)) (i:=(((nR es n f i):Nat):Int)) rfl rfl rfl yc fU C.s o_ o_ (fW o_) (jf rfl rfl yf rfl (yu d s_ d_ C.s) (fW o_) rfl (gL (e:=(((cE (fO es n f).s (nL es n f i))+(cE (fO es n f).s (nR es n f i)):Nat):Int)) rfl iX (gz rfl (q7 o_) ?_)))
 have O:¬ ((n+i:Nat):Int)=(n:Int)->∃ y,(fO es n f).h[n+i-1]? = some y/\y<=(cE es (cE f i)).w:=fun X=>⟨_,by have e:=(D.inner (show i-1<f.length by omega)).2.2.1;rwa [show n+(i-1)=n+i-1 by omega]at e,by have e:=D.f.kN (i:=i-1) o_;rwa [show i-1+1=i by omega]at e⟩
 refine gh d 10 fun B b=>?_
 by_cases m:((n+i:Nat):Int)=(n:Int)
 . refine gm b 19 Zi ?_
   exact⟨rfl,b.gf s_⟩
 . obtain⟨ah,E,S⟩:=O m
   refine cH b 5 ?_
   refine iH (k:=(n+i)) (i:=((n+i:Nat):Int)) rfl rfl rfl yr ti2 C.h o_ o_ G (jf rfl rfl ur rfl (yu b s_ d_ C.h) G rfl (cH b 3 ?_))
   refine gL (e:=((n+i-1:Nat):Int)) rfl iX (iH (k:=(n+i-1)) (i:=((n+i-1:Nat):Int)) rfl rfl rfl yr ti2 C.h o_ o_ E (jf rfl rfl ur rfl (yu b s_ d_ C.h) E rfl (gz rfl (ot o_) (fK b 5 ?_))))
   refine gT (v:=Zi) results264 rfl ?_
   exact⟨rfl,b.gf s_⟩
theorem Wi(f:List Nat)(h:iN es n f)(B:n<=4096)(l o m th q:Value)(w:World)(j:nK w es n f l o m th q)(y:Nat)(C:y<n+f.length)(h1:(fO es n f).p[y]? = some (-1)) :
 CK ya 266 (Bk n l o m th q y) w (.bool true):=by
 obtain⟨t,u,x,z,A⟩:=mK (es:=es) (n:=n) (f:=f)
 have s:=h.f.room h.g
 refine iE func266 2 fun r=>?_
 refine gN r (fun b c d e a=>?_)
 refine cH a 8 ?_
 refine iH (k:=y) (i:=(y:Int)) rfl rfl rfl yc fU j.p o_ o_ h1 (jf rfl rfl yf rfl (yu a s_ d_ j.p) h1 rfl (cH a 7 ?_))
 refine gz rfl (sW o_) (fK a 10 ?_)
 refine gT (v:=Zi) results266 rfl ?_
 exact⟨rfl,a.gf s_⟩
theorem Wl(f:List Nat)(j:iN es n f)(M:n<=4096)(q r m th s:Value)(w:World)(h:nK w es n f q r m th s)(y i:Nat)(hi:i<f.length)(h1:(fO es n f).p[y]? = some ((n+i:Nat):Int))(F:y=nL es n f i) :
 CK ya 266 (Bk n q r m th s y) w (.bool true):=by
 obtain⟨H,I,J,K,L⟩:=mK (es:=es) (n:=n) (f:=f)
 have G:=j.f.room j.g
 have N:y<n+f.length:=by obtain⟨_,_,_,_,_,_,_,t,u,_⟩:=j.inner hi;omega
 refine gj func266 ?_
 have o:=k9 w
 obtain⟨e1,z,A,B,C,D,E,t,u,x⟩:=j.inner hi
 refine fM o 2 ?_
 refine gN o (fun b c d e a=>?_)
 refine cH a 8 ?_
 refine iH (k:=y) (i:=(y:Int)) rfl rfl rfl yc fU h.p o_ o_ h1 (jf rfl rfl yf rfl (yu a s_ d_ h.p) h1 rfl (cH a 7 ?_))
 refine gz rfl (uO o_) (cH a 8 ?_)
 refine gz rfl (ot o_) (cH a 4 ?_)
 refine jO (v:=m) rfl rfl yc h.p (gz rfl (pL o_) (cH a 5 ?_))
 refine iH (k:=(n+i)) (i:=((n+i:Nat):Int)) rfl rfl rfl yc fU h.l o_ o_ e1 (jf rfl rfl yf rfl (yu a s_ d_ h.l) e1 rfl (cH a 1 ?_))
 refine gz rfl (sW o_) (fK a 14 ?_)
 refine gT (v:=Zi) results266 rfl ?_
 exact⟨rfl,a.gf s_⟩
theorem Wm(f:List Nat)(j:iN es n f)(N:n<=4096)(s t m th u:Value)(w:World)(h:nK w es n f s t m th u)(y i:Nat)(hi:i<f.length)(h1:(fO es n f).p[y]? = some ((n+i:Nat):Int))(G:y=nR es n f i) :
 CK ya 266 (Bk n s t m th u y) w (.bool true):=by
 obtain⟨I,J,K,L,M⟩:=mK (es:=es) (n:=n) (f:=f)
 have H:=j.f.room j.g
 have O:y<n+f.length:=by obtain⟨_,_,_,_,_,_,_,x,z,_⟩:=j.inner hi;omega
 refine gj func266 ?_
 have q:=k9 w
 obtain⟨e1,o,B,C,D,E,F,x,z,A⟩:=j.inner hi
 refine fM q 2 ?_
 refine gN q (fun b c d e a=>?_)
 refine cH a 8 ?_
 refine iH (k:=y) (i:=(y:Int)) rfl rfl rfl yc fU h.p o_ o_ h1 (jf rfl rfl yf rfl (yu a s_ d_ h.p) h1 rfl (cH a 7 ?_))
 refine gz rfl (uO o_) (cH a 8 ?_)
 refine gz rfl (ot o_) (cH a 4 ?_)
 refine jO (v:=m) rfl rfl yc h.p (gz rfl (pL o_) (cH a 5 ?_))
 refine iH (k:=(n+i)) (i:=((n+i:Nat):Int)) rfl rfl rfl yc fU h.l o_ o_ e1 (jf rfl rfl yf rfl (yu a s_ d_ h.l) e1 rfl (cH a 1 ?_))
 refine gz rfl (uO o_) (cH a 4 ?_)
 refine iH (k:=(n+i)) (i:=((n+i:Nat):Int)) rfl rfl rfl yc fU h.r o_ o_ o (jf rfl rfl yf rfl (yu a s_ d_ h.r) o rfl (cH a 1 ?_))
 refine gz rfl (sW o_) (fK a 6 ?_)
 refine gT (v:=Zi) results266 rfl ?_
 exact⟨rfl,a.gf s_⟩
theorem Wn(f:List Nat)(g:iN es n f)(k:n<=4096)(a c b th d:Value)(w:World)(j:nK w es n f a c b th d)(y:Nat)(m:y<n+f.length) :
 CK ya 266 (Bk n a c b th d y) w (.bool true):=by
 rcases g.par m with e|⟨i,e,l,h|h⟩
 . exact Wi es n f g k a c b th d w j y m e
 . exact Wl es n f g k a c b th d w j y i e l h
 . exact Wm es n f g k a c b th d w j y i e l h
theorem aar(f:List Nat)(e:iN es n f)(o:n<=4096)(a c b th d:Value)(w:World)(l:nK w es n f a c b th d)(x:Nat)(p:n<=x)(q:x<n+f.length)(ev:Value)(le:List Nat)(m:gV 1 fL (fun _=>True) w ev le)(g:∀ k,k<x->le[k]? = some (gJ es n f k)) :
 CK ya 264 #[(Bo n a c b th d),ev,(Za x)] w (.bool true):=by
 obtain⟨i,rfl⟩:∃ i,x=n+i:=⟨x-n,o_⟩
 obtain⟨_,_,_,_,_,_,_,h,j,_⟩:=e.inner (show i<f.length by omega)
 exact aas es n f e o a c b th d w l i o_ ev le m (g _ h) (g _ j)
theorem XR(f:List Nat)(j:iN es n f)(l:n<=4096)(e h g th i:Value)(w:World)(k:nK w es n f e h g th i)(tb:Nat)(hb:(blk tb 102 (Zs n e h g th i)).holds w)(x:Nat)(m:x<n+f.length) :
 CK ya 261 (yM x tb) w (.bool true):=by
 refine iE func261 10 fun b=>?_
 by_cases c:(x:Int)≥(n:Int)
 . refine gm b 10 Zi ?_
   exact⟨rfl,b.gf s_⟩
 . refine cH b 4 ?_
   refine ig b (aba es n f j l e h g th i w k x o_) fun d a=>?_
   refine gm a 5 Zi ?_
   exact⟨rfl,a.gf s_⟩
theorem XS(f:List Nat)(j:iN es n f)(p:n<=4096)(e h g th i:Value)(w:World)(l:nK w es n f e h g th i)(tb:Nat)(hb:(blk tb 102 (Zs n e h g th i)).holds w)(lb:Nat)(ev:Value)(le:List Nat)(r:(blk lb 37 [ev]).holds w)(m:gV 1 fL (fun _=>True) w ev le)(x:Nat)(q:x<n+f.length)(o:∀ k,k<x->le[k]? = some (gJ es n f k)) :
 CK ya 263 (N6 x tb lb) w (.bool true):=by
 refine iE func263 10 fun b=>?_
 by_cases c:(x:Int)<(n:Int)
 . refine gm b 11 Zi ?_
   exact⟨rfl,b.gf s_⟩
 . refine cH b 5 ?_
   refine ig b (aar es n f j p e h g th i w l x o_ q ev le m o) fun d a=>?_
   refine gm a 5 Zi ?_
   exact⟨rfl,a.gf s_⟩
theorem XT(f:List Nat)(h:iN es n f)(j:n<=4096)(b e d th g:Value)(w:World)(i:nK w es n f b e d th g)(tb:Nat)(hb:(blk tb 102 (Zs n b e d th g)).holds w)(x:Nat)(l:x<n+f.length) :
 CK ya 265 (yM x tb) w (.bool true):=by
 refine iE func265 9 fun k=>?_
 refine ig k (Wn es n f h j b e d th g w i x l) fun c a=>?_
 refine gm a 4 Zi ?_
 exact⟨rfl,a.gf s_⟩
theorem aad(f:List Nat)(t:iN es n f)(y:n<=4096)(p r q th s:Value)(w:World)(u:nK w es n f p r q th s)(tb:Nat)(hb:(blk tb 102 (Zs n p r q th s)).holds w)(lb:Nat)(ev:Value)(le:List Nat)(B:(blk lb 37 [ev]).holds w)(A:gV 1 fL (fun _=>True) w ev le)(cb:Nat)(cv:Value)(D:(blk cb 381 [cv]).holds w)(m:gV 1 Qu (fun _=>True) w cv (Dg tb lb))(x:Nat)(z:x<n+f.length)(C:∀ k,k<x->le[k]? = some (gJ es n f k)) :
 CK ya 267 (yM x cb) w (.bool true):=by
 refine iE func267 9 fun o=>?_
 refine jO (v:=cv) rfl rfl Cz m (fZ o 4 ?_)
 refine qn 4 (iF (fM o 2 ?_))
 refine gz rfl (pL s_) (cH o 10 ?_)
 refine iH (k:=0) (i:=0) rfl rfl rfl Cz D9 m o_ o_ rfl (jf rfl rfl underlying227 rfl m rfl rfl (cH o 7 ?_))
 refine lR (fi:=[]) (ca:=(Ze tb)) rfl rfl rfl eN (XR es n f t y p r q th s w u tb hb x z) ?_
 rintro _ d ⟨rfl,e⟩
 have a:=lI o e
 refine fK a 11 ?_
 refine tN (iF (fM a 2 ?_))
 refine gz rfl (pL s_) (cH a 10 ?_)
 refine iH (k:=1) (i:=1) rfl rfl rfl Cz D9 m o_ o_ rfl (jf rfl rfl underlying227 rfl (yu a s_ d_ m) rfl rfl (cH a 7 ?_))
 refine lR (fi:=[]) (ca:=(Zy tb lb)) rfl rfl rfl eN (XS es n f t y p r q th s d (u.to a s_) tb (vo a s_ hb) lb ev le (vo a s_ B) (yu a s_ d_ A) x z C) ?_
 rintro _ g ⟨rfl,h⟩
 have b:=lI a h
 refine fK b 11 ?_
 refine tN (iF (fM b 2 ?_))
 refine gz rfl (pL s_) (cH b 10 ?_)
 refine iH (k:=2) (i:=2) rfl rfl rfl Cz D9 m o_ o_ rfl (jf rfl rfl underlying227 rfl (yu b s_ d_ m) rfl rfl (cH b 7 ?_))
 refine lR (fi:=[]) (ca:=(Ze tb)) rfl rfl rfl eN (XT es n f t y p r q th s g (u.to b s_) tb (vo b s_ hb) x z) ?_
 rintro _ l ⟨rfl,j⟩
 have c:=lI b j
 refine fK c 11 ?_
 refine tN (iF (fM c 2 ?_))
 refine gz rfl (kT s_) (fK c 15 ?_)
 refine gT (v:=Zi) results267 rfl ?_
 exact⟨rfl,c.gf s_⟩
theorem KP(f:List Nat)(hF:iN es n f)(hn:n<=4096)(tl tr tp th ts:Value)(w:World)(F:nK w es n f tl tr tp th ts) :
 CR ya 195 (C8 n tl tr tp th ts) w (fun r w' => ∃ (v:Value),r = .tuple #[v,.bool true]/\fP (fN []) w w' (Z9 v ((List.range (n+f.length)).map (gJ es n f)))):=by
 obtain⟨az,aA,av,aB,aC⟩:=mK (es:=es) (n:=n) (f:=f)
 have ax:=hF.f.room hF.g
 refine iE func195 2 fun aw=>?_
 refine gN aw (fun b S U V a=>?_)
 refine cH a 8 ?_
 refine jO (v:=tp) rfl rfl yc F.p (cH a 8 ?_)
 refine gz rfl (kT o_) (cH a 3 ?_)
 refine gz rfl (ow o_) (cH a 5 ?_)
 refine gz rfl (kT o_) (cH a 6 ?_)
 refine gz rfl (ow o_) (cH a 11 ?_)
 refine jO (v:=tl) rfl rfl yc F.l (cH a 1 ?_)
 refine gz rfl (q7 o_) (cH a 3 ?_)
 refine jO (v:=tr) rfl rfl yc F.r (cH a 1 ?_)
 refine gz rfl (q7 o_) (cH a 4 ?_)
 refine jO (v:=th) rfl rfl yr F.h (cH a 1 ?_)
 refine gz rfl (q7 o_) (cH a 4 ?_)
 refine jO (v:=ts) rfl rfl yc F.s (cH a 1 ?_)
 refine gz rfl (q7 o_) (cH a 9 ?_)
 refine kA (cf:=fL) (z0:=0) (m:=((fO es n f).p.length)) (c:=((fO es n f).p.length)) rfl rfl rfl yc fU rfl f_ d_ (zh _) o_ o_ a ?_
 intro A G W X H
 have B:=St.bR (cf:=fL) 0 H
 generalize (Value.slice (some ⟨A,0,none⟩) ((fO es n f).p.length) ((fO es n f).p.length))=d at B ⊢
 refine ir B (fun e Y Z aa u=>?_)
 refine iS 0 u (fun ab C=>?_) (hvs:=(cells_one (yh u (i:=1) rfl))) (h1:=(gD (yh u (i:=1) rfl) je))
 refine cH C 4 ?_
 refine kW (vf:=[]) (vc:=(Ze b)) rfl rfl rfl (kW (vf:=[]) (vc:=(Zy b e)) rfl rfl rfl (kW (vf:=[]) (vc:=(Ze b)) rfl rfl rfl (jB (vs:=(Dg b e)) (cs:=(Dg b e)) rfl rfl Cz D9 rfl (by simp[Value.cells]) rfl rfl rfl C (fun x ac ad ae I=>ir I (fun q af ag ah J=>?_)))))
 refine gh J 5 fun ai D=>?_
 refine kW (vf:=[]) (vc:=(Ze q)) rfl rfl rfl ?_
 have K:=ye [3,4,2,0,1] D
 have L:=y0 0 K rfl (aa9 (es:=es) (n:=n) (f:=f))
 refine fZ D 11 ?_
 refine lp (α:=Nat) (fun k=>[(1,(Zb b)),(2,Zh),(3,Zp),(5,(Zb e)),(6,(Zb q)),(7,(.func (.func 267) #[] (Zg q))),(66,(Za (((fO es n f).p).length:Int))),(67,(Za k))]) (fun k w1=>St [(w,[])] [cL fL d 3 1 (oD es n f (fO es n f).p.length k),blk b 102 (Zs n tl tr tp th ts),blk e 37 [d],blk q 381 [(Jd x)],row (Jd x) 227 1 3 ((Dg b e))] w1/\k<=(fO es n f).p.length) (fun k=>(fO es n f).p.length-k) 0 oh (⟨L,o_⟩) ?_
 rintro k aj ak ⟨aq,hk⟩
 have aD:=aa7 (es:=es) (n:=n) (f:=f) hk
 refine fM aq 2 ?_
 by_cases al:(k:Int)<(((fO es n f).p).length:Int)
 . have ay:k<(fO es n f).p.length:=by omega
   refine cH aq 21 ?_
   refine iz (f:=(fun _=>k)) 0 aq (fun M o=>?_)
   refine cH o 7 ?_
   refine lR (fi:=[]) (ca:=(Ze q)) rfl rfl rfl eN (aad es n f hF hn tl tr tp th ts M (F.to o s_) b (nV o (i:=1) rfl) e d (cO (oD es n f (fO es n f).p.length k) k (fun _=>k)) (nV o (i:=2) rfl) (yv o 0 rfl).any q (Jd x) (nV o (i:=3) rfl) (Sl.any (qv (cf:=Qu) (xs:=(Dg b e)) o (i:=4) rfl f_)) k o_ (fun j hj=>Ru hk hj)) ?_
   rintro _ am ⟨rfl,N⟩
   have t:=lI o N
   refine cH t 11 ?_
   by_cases an:(k:Int)≥(n:Int)
   . obtain⟨T,ar⟩:∃ T,k=n+T:=⟨k-n,o_⟩
     obtain⟨e1,_,_,_,_,_,_,e8,_,_⟩:=hF.inner (show T<f.length by omega)
     obtain⟨q1,q2,q3⟩:=hF.xm (show T<f.length by omega)
     refine gh t 11 fun ao y=>?_
     refine iH (k:=k) (i:=(k:Int)) rfl rfl rfl yc fU F.l o_ o_ (by rw[ar];exact e1) (jf rfl rfl yf rfl (yu y s_ d_ F.l) (by rw[ar];exact e1) rfl (cH y 3 ?_))
     refine iz (f:=(fun _=>(cE (cO (oD es n f (fO es n f).p.length k) k (fun _=>k)) (nL es n f T)))) 0 y (fun ap E=>?_)
     refine fK E 7 ?_
     have O:=y0 0 E rfl (aa8 o_ (by rw[iW (Ru hk (show nL es n f T<k by omega)),ar,q3];exact q1))
     exact gM (k+1) oh (⟨O,o_⟩) o1
   . refine fK t 11 ?_
     have P:=y0 0 t rfl (Rv o_ (by unfold gJ;rw[if_pos o_]))
     exact gM (k+1) oh (⟨P,o_⟩) o1
 . refine jk aq 18 d Zi ?_
   have Q:=ye [0] aq
   have au:k=n+f.length:=by omega
   have R:=y0 0 Q rfl ((congrArg (fun z=>oD es n f z k) av).trans ((congrArg (oD es n f (n+f.length)) au).trans aa6))
   exact⟨d,rfl,me R⟩
theorem ad4(f:List Nat)(p:iN es n f)(r:n<=4096)(k m l th o:Value)(w:World)(q:nK w es n f k m l th o) :
 CK ya 122 (C8 n k m l th o) w (.int .i64 0):=by
 refine iE func122 2 fun s=>?_
 refine gN s (fun e c g h a=>?_)
 refine cH a 7 ?_
 refine cl (KP es n f p r k m l th o c (q.to a s_)) ?_
 rintro _ i ⟨j,rfl,ht⟩
 have b:=(y9 a ht)
 refine gm b 22 Zc ?_
 have d:=ye [] b
 exact⟨rfl,d.gf s_⟩
theorem Tt(f:List Nat)(o:iN es n f)(q:n<=4096)(j l k th m:Value)(w:World)(p:nK w es n f j l k th m) :
 CR ya 123 (C8 n j l k th m) w (fun r w' => ∃ (v:Value),v=r/\fP (fN []) w w' (Z9 v ((List.range (n+f.length)).map (gJ es n f)))):=by
 refine iE func123 2 fun s=>?_
 refine gN s (fun e d g h a=>?_)
 refine cH a 6 ?_
 refine cl (KP es n f o q j l k th m d (p.to a s_)) ?_
 rintro _ i ⟨b,rfl,ht⟩
 have c:=(y9 a ht)
 refine gm c 24 b ?_
 exact⟨b,rfl,me c⟩
theorem Ye(f:List Nat)(hF:iN es n f)(hn:n<=4096)(T Z F th ts:Value)(w:World)(hR:nK w es n f T Z F th ts) :
 CR ya 70 (C8 n T Z F th ts) w (fun r w' => ∃ (v:Value),r = .tuple (vD v)/\fP (fN []) w w' (cL Mg.cells v 158 5 (pR es n f f.length))):=by
 obtain⟨ag,ah,ai,aj,ak⟩:=mK (es:=es) (n:=n) (f:=f)
 have af:=hF.f.room hF.g
 refine enter (vs:=(Fi n T Z F th ts)) func70 rfl ntmps70 rfl ?_
 have ac:=k9 w
 refine fM ac 2 ?_
 refine gN ac (fun d H P Q t=>?_)
 refine cH t 8 ?_
 refine jG (vl:=(Fi n T Z F th ts)) rfl rfl eN (ad4 es n f hF hn T Z F th ts H (hR.to t s_)) ?_
 rintro _ C ⟨rfl,I⟩
 have y:St _ [blk d 102 (Zs n T Z F th ts)] C:=lI t I
 refine cH y 15 ?_
 refine jG (vl:=(Fi n T Z F th ts)) rfl rfl eN (Tt es n f hF hn T Z F th ts C (hR.to y s_)) ?_
 rintro _ D ⟨j,rfl,ht⟩
 have E:St _ [cL fL j 3 1 ((List.range (n+f.length)).map (gJ es n f)),blk d 102 (Zs n T Z F th ts)] D:=(y9 (R:=cL fL j 3 1 ((List.range (n+f.length)).map (gJ es n f))) y ht)
 have J:=nU E 158 5
 refine fZ E 17 ?_
 refine lp (α:=Nat×Value) (fun(i,mv)=>[(1,(Zb d)),(2,Zh),(3,Zc),(5,j),(6,mv),(7,(Za ((n+i:Nat):Int)))]) (fun(i,mv) w1=>St [(w,[])] [cL Mg.cells mv 158 5 (pR es n f i),cL fL j 3 1 ((List.range (n+f.length)).map (gJ es n f)),blk d 102 (Zs n T Z F th ts)] w1/\i<=f.length) (fun(i,mv)=>f.length-i) (0,Zh) oh (⟨J,o_⟩) ?_
 rintro⟨i,mv⟩ S K ⟨aa,hi⟩
 have am:=R7 (es:=es) (n:=n) (f:=f) (k:=i)
 refine fM aa 6 ?_
 refine jO (v:=F) rfl rfl yc hR.p ?_
 by_cases U:((n+i:Nat):Int)<(((fO es n f).p).length:Int)
 . have ab:i<f.length:=by omega
   obtain⟨e1,e2,e3,e4,e5,e6,e7,e8,e9,ae⟩:=hF.inner ab
   obtain⟨q1,q2,q3⟩:=hF.xm ab
   have al:((List.range (n+f.length)).map (gJ es n f)).length=n+f.length:=by simp
   refine gh aa 14 fun V m=>?_
   refine iH (k:=(n+i)) (i:=((n+i:Nat):Int)) rfl rfl rfl yc fU hR.l o_ o_ e1 (jf (u:=(Za (((nL es n f i):Nat):Int))) rfl rfl yf rfl (yu m s_ d_ hR.l) e1 rfl (cH m 6 ?_))
   refine iH (k:=(n+i)) (i:=((n+i:Nat):Int)) rfl rfl rfl yc fU hR.r o_ o_ e2 (jf (u:=(Za (((nR es n f i):Nat):Int))) rfl rfl yf rfl (yu m s_ d_ hR.r) e2 rfl (cH m 5 ?_))
   refine iH (k:=(n+i)) (i:=((n+i:Nat):Int)) rfl rfl rfl yr ti2 hR.h o_ o_ e3 (jf (u:=(Za ((cE es (cE f i)).w))) rfl rfl ur rfl (yu m s_ d_ hR.h) e3 rfl (iL (pvs:=[(0,(Za ((cE es (cE f i)).w))),(1,qY)]) (v:=.agg #[(Za ((cE es (cE f i)).w)),qY]) rfl rfl (i6 [(0,(Zd ((cE es (cE f i)).w))),(1,yT)] MB adp rfl oh rfl) (cH m 3 ?_)))
   refine iH (k:=(n+i)) (i:=((n+i:Nat):Int)) rfl rfl rfl yc fU hR.s o_ o_ (fW o_) (jf (u:=(Za (((cE (fO es n f).s (n+i)):Nat):Int))) rfl rfl yf rfl (yu m s_ d_ hR.s) (fW o_) rfl (iL (pvs:=[(0,(Za (((cE ((List.range (n+f.length)).map (gJ es n f)) (nL es n f i)):Nat):Int))),(1,(Za (((cE ((List.range (n+f.length)).map (gJ es n f)) (nR es n f i)):Nat):Int))),(2,(.agg #[(Za ((cE es (cE f i)).w)),qY])),(3,(Za (((cE (fO es n f).s (n+i)):Nat):Int)))]) (v:=.agg (N5 (((cE ((List.range (n+f.length)).map (gJ es n f)) (nL es n f i)):Nat):Int) (((cE ((List.range (n+f.length)).map (gJ es n f)) (nR es n f i)):Nat):Int) ((cE es (cE f i)).w) (((cE (fO es n f).s (n+i)):Nat):Int))) rfl rfl (i6 [(0,(Zd (((cE ((List.range (n+f.length)).map (gJ es n f)) (nL es n f i)):Nat):Int))),(1,(Zd (((cE ((List.range (n+f.length)).map (gJ es n f)) (nR es n f i)):Nat):Int))),(2,[(Za ((cE es (cE f i)).w)),qY]),(3,(Zd (((cE (fO es n f).s (n+i)):Nat):Int)))] Hu adq rfl oh rfl) (jB (vs:=[(.agg (N5 (((cE ((List.range (n+f.length)).map (gJ es n f)) (nL es n f i)):Nat):Int) (((cE ((List.range (n+f.length)).map (gJ es n f)) (nR es n f i)):Nat):Int) ((cE es (cE f i)).w) (((cE (fO es n f).s (n+i)):Nat):Int)))]) (cs:=(Dp (((cE ((List.range (n+f.length)).map (gJ es n f)) (nL es n f i)):Nat):Int) (((cE ((List.range (n+f.length)).map (gJ es n f)) (nR es n f i)):Nat):Int) ((cE es (cE f i)).w) (((cE (fO es n f).s (n+i)):Nat):Int))) rfl rfl HP Hu rfl (by simp[Value.cells]) rfl rfl rfl m ?_)))
   intro z L W X q
   have q:St _ (IW (row (.slice (some ⟨z,0,none⟩) 1 1) 158 5 1 ([(.int .i64 (((cE ((List.range (n+f.length)).map (gJ es n f)) (nL es n f i)):Nat):Int)),(.int .i64 (((cE ((List.range (n+f.length)).map (gJ es n f)) (nR es n f i)):Nat):Int)),(.int .i64 ((cE es (cE f i)).w)),(.int .i64 1),(.int .i64 (((cE (fO es n f).s (n+i)):Nat):Int))])) mv (pR es n f i) j ((List.range (n+f.length)).map (gJ es n f)) d n T Z F th ts) L:=q
   refine kR (cf:=Mg.cells) (ys:=(pR es n f i)) (zs:=[(⟨(cE ((List.range (n+f.length)).map (gJ es n f)) (nL es n f i)),(cE ((List.range (n+f.length)).map (gJ es n f)) (nR es n f i)),(cE es (cE f i)).w,(cE (fO es n f).s (n+i))⟩:Mg)]) (LL:=fun o=>(IW (row (.slice (some ⟨z,0,none⟩) 1 1) 158 5 1 ([(.int .i64 (((cE ((List.range (n+f.length)).map (gJ es n f)) (nL es n f i)):Nat):Int)),(.int .i64 (((cE ((List.range (n+f.length)).map (gJ es n f)) (nR es n f i)):Nat):Int)),(.int .i64 ((cE es (cE f i)).w)),(.int .i64 1),(.int .i64 (((cE (fO es n f).s (n+i)):Nat):Int))])) o ((pR es n f i)++[(⟨(cE ((List.range (n+f.length)).map (gJ es n f)) (nL es n f i)),(cE ((List.range (n+f.length)).map (gJ es n f)) (nR es n f i)),(cE es (cE f i)).w,(cE (fO es n f).s (n+i))⟩:Mg)]) j ((List.range (n+f.length)).map (gJ es n f)) d n T Z F th ts)) 1 rfl rfl rfl HP Hu rfl d_ q rfl (kG q (i:=0) rfl) (fun x hx=>zr.1 (show List.all _ _=true from rfl) x hx) (by simp only[zb,zd];omega) (by simp only[zb,zd];omega) f_ ?_
   intro o G A Y
   have A:St _ (IW (row (.slice (some ⟨z,0,none⟩) 1 1) 158 5 1 ([(.int .i64 (((cE ((List.range (n+f.length)).map (gJ es n f)) (nL es n f i)):Nat):Int)),(.int .i64 (((cE ((List.range (n+f.length)).map (gJ es n f)) (nR es n f i)):Nat):Int)),(.int .i64 ((cE es (cE f i)).w)),(.int .i64 1),(.int .i64 (((cE (fO es n f).s (n+i)):Nat):Int))])) o ((pR es n f i)++[(⟨(cE ((List.range (n+f.length)).map (gJ es n f)) (nL es n f i)),(cE ((List.range (n+f.length)).map (gJ es n f)) (nR es n f i)),(cE es (cE f i)).w,(cE (fO es n f).s (n+i))⟩:Mg)]) j ((List.range (n+f.length)).map (gJ es n f)) d n T Z F th ts) G:=A
   have B:=ye [1,2,3] A
   refine cH B 6 ?_
   refine ar (a:=((n+i:Nat):Int)) (b:=1) (c:=((n+i:Nat):Int)+1) (e:=((n+(i+1):Nat):Int)) rfl rfl rfl rfl (by rw[kX o_];omega) (fK B 2 ?_)
   have M:St _ [cL Mg.cells o 158 5 (pR es n f (i+1)),cL fL j 3 1 ((List.range (n+f.length)).map (gJ es n f)),blk d 102 (Zs n T Z F th ts)] G:=y0 0 B rfl (show _=(pR es n f (i+1)) by rw[iW (Rw (show nL es n f i<n+f.length by omega)),iW (Rw (show nR es n f i<n+f.length by omega)),q1,q2,ab5];rfl)
   exact gM ((i+1),o) oh (⟨M,o_⟩) o1
 . refine jk aa 17 mv Zc ?_
   have N:=ye [0] aa
   have ad:i=f.length:=by omega
   have O:St _ [cL Mg.cells mv 158 5 (pR es n f f.length)] K:=y0 0 N rfl (show _=(pR es n f f.length) by rw[ad])
   exact⟨mv,rfl,me O⟩
theorem aaO{ps:List Int}(a:∀ i,i<ps.length->(cE l i).2=j9 ps k i)(b:cE ps k<0):∀ i,i<ps.length->(cE l i).2=j9 ps (k+1) i :=
 fun i hi=>by rw[aaN b];exact a i hi
theorem aaQ{ps:List Int}{p:Nat}{v:Value}(c:l.length=ps.length)(a:∀ i,i<ps.length->(cE l i).2=j9 ps k i)(hp:p<ps.length)(b:cE ps k=(p:Int)) :
 ∀ i,i<ps.length->(cE (cO l p (fun _=>(v,(cE l p).2++[k]))) i).2=j9 ps (k+1) i:=fun i hi=>by
 rw[jH o_,Rg]
 split
 . rename_i h;subst h;rw[if_pos b];show (cE l p).2++[k]=_;rw[a p hp]
 . rename_i h;rw[if_neg o_];exact a i hi
theorem aaP{ps:List Int}{n:Nat}:∀ i,i<ps.length->(cE (List.replicate n ((.slice none 0 0,[]):Value×List Nat)) i).2=j9 ps 0 i:=fun i hi=>by
 have h:j9 ps 0 i=[]:=by simp[j9]
 rw[h,cE,sw]
 split<;>rfl
theorem X7(ps:List Int)(w:World)(hv:gV 1 fQ (fun _=>True) w v ps)(hP:kM ps)(hn:ps.length<=8192) :
 CR ya 317 #[v] w (fun r w' => ∃ (dv:Value),r = .tuple #[dv,.bool true]/\fP (fN []) w w' (Z9 dv ((List.range ps.length).map (fV ps)))):=by
 refine iE func317 9 fun a3=>?_
 refine jO (v:=v) rfl rfl yc hv (cH a3 6 ?_)
 refine kA (cf:=jd) (z0:=((.slice none 0 0,[]):Value×List Nat)) (m:=ps.length) (c:=ps.length) rfl rfl rfl HS kF rfl f_ d_ (zh _) o_ o_ a3 ?_
 intro y K aj ak L
 have o:=St.bR (cf:=jd) 0 L
 generalize (Value.slice (some ⟨y,0,none⟩) ps.length ps.length)=b at o ⊢
 refine cH o 6 ?_
 refine kA (cf:=fL) (z0:=0) (m:=ps.length) (c:=ps.length) rfl rfl rfl yc fU rfl f_ d_ (zh _) o_ o_ o ?_
 intro z q al am M
 have d:=St.bR (cf:=fL) 0 M
 generalize (Value.slice (some ⟨z,0,none⟩) ps.length ps.length)=a at d ⊢
 refine cH d 12 ?_
 refine jO (v:=v) rfl rfl yc hv ?_
 have N:=nU d 3 1
 have O:St _ [(zK 3 (List.replicate ps.length ((.slice none 0 0,[]):Value×List Nat))),cL fL Zh 3 1 (pU ps 0),cL fL a 3 1 (List.replicate ps.length 0),cL jd b 37 1 (List.replicate ps.length ((.slice none 0 0,[]):Value×List Nat))] q:=St.Gm ps.length N
 have P:=ye [3,0,2,1] O
 refine fZ d 4 ?_
 refine lp (α:=Nat×List (Value×List Nat)×Value) (fun(k,l,rv)=>[(4,(Za ps.length)),(5,b),(6,a),(7,rv),(20,v),(21,(Za ps.length)),(22,(Za k))]) (fun(k,l,rv) w1=>St [(w,[])] [cL jd b 37 1 l,(zK 3 l),cL fL a 3 1 (List.replicate ps.length 0),cL fL rv 3 1 (pU ps k)] w1/\l.length=ps.length/\(∀ i,i<ps.length->(cE l i).2=j9 ps k i)/\k<=ps.length) (fun(k,l,rv)=>ps.length-k) (0,(List.replicate ps.length (.slice none 0 0,[])),Zh) oh (⟨P,s_,aaP,o_⟩) ?_
 rintro⟨k,l,rv⟩ an ao ⟨aR,aX,hl,hk⟩
 have bj:=aey (ps:=ps) (k:=k)
 refine fM aR 2 ?_
 by_cases ap:(k:Int)<(ps.length:Int)
 . obtain⟨s,A⟩:=oT (show k<ps.length by omega)
   refine cH aR 21 ?_
   by_cases aq:(s:Int)<0
   . have a2:=iW A
     refine cH aR 7 ?_
     refine jB (vs:=(Zd k)) (cs:=(Zd k)) rfl rfl yc fU rfl (by simp[Value.cells]) rfl rfl rfl aR (fun Q au av aw B=>kR (cf:=fL) (ys:=(pU ps k)) (zs:=[k]) (LL:=fun g=>[iD .i64 (Zu Q) 3 ([(k:Int)]),cL jd b 37 1 l,(zK 3 l),cL fL a 3 1 (List.replicate ps.length 0),cL fL g 3 1 ((pU ps k)++[k])]) 4 rfl rfl rfl yc fU rfl d_ B rfl (kG B (i:=0) rfl) (fun x hx=>zr.1 (show List.all _ _=true from rfl) x hx) (by simp only[zb,zd];omega) (by simp only[zb,zd];omega) f_ ?_)
     intro g ax R ay
     have C:=ye [1,2,3,4] R
     refine fK C 8 ?_
     have S:=y0 3 C rfl ((aeB o_).symm)
     exact gM ((k+1),l,g) oh (⟨S,aX,aaO hl o_,o_⟩) o1
   . obtain⟨p,a9⟩:∃ p:Nat,s=(p:Int):=⟨s.toNat,o_⟩
     refine cH aR 1 ?_
     subst a9
     have a2:=iW A
     have a1:p<ps.length:=by have:=hP.up k o_;omega
     have aZ:=Rf (ps:=ps) (k:=k) (i:=p)
     rw[<-hl p a1]at aZ
     have U:=ye [1,0,2,3] aR
     have D:=vm p U o_
     refine cH D 11 ?_
     refine jB (vs:=(Zd k)) (cs:=(Zd k)) rfl rfl yc fU rfl (by simp[Value.cells]) rfl rfl rfl D (fun V az aA aB E=>kR (cf:=fL) (ys:=(cE l p).2) (zs:=[k]) (LL:=fun h=>(N0 V ([(k:Int)]) h (((cE l p).2)++[k]) (zK 3 (l.eraseIdx p)) (cL jd b 37 1 l) a (List.replicate ps.length 0) rv (pU ps k))) 1 rfl rfl rfl yc fU rfl d_ E rfl (kG E (i:=0) rfl) (fun x hx=>zr.1 (show List.all _ _=true from rfl) x hx) (by simp only[zb,zd];omega) (by simp only[zb,zd];omega) f_ ?_)
     intro h aC W aD
     have n:=ye [1,2,3,4,5] W
     refine cH n 1 ?_
     refine iz (f:=(fun _=>(h,(cE l p).2++[k]))) 2 n (fun aE G=>?_) (hvs:=(cells_one (yh n (i:=0) rfl))) (h1:=(gD (yh n (i:=0) rfl) je))
     refine fK G 7 ?_
     have X:=St.DH G o_
     have Y:=ye [1,0,2,3] X
     have Z:=y0 3 Y rfl ((aeA o_).symm)
     exact gM ((k+1),cO l p (fun _=>(h,(cE l p).2++[k])),rv) oh (⟨Z,(by rw[gd];exact aX),aaQ aX hl a1 a2,o_⟩) o1
 . have a7:k=ps.length:=by omega
   refine fZ aR 17 ?_
   subst a7
   refine lp (α:=Nat×Value×List Nat×List Nat) (fun(i,ov,od,dp)=>[(4,(Za ps.length)),(5,b),(6,a),(7,ov),(10,(Za i))]) (fun(i,ov,od,dp) w1=>St [(w,[])] [cL jd b 37 1 l,(zK 3 l),cL fL a 3 1 dp,cL fL ov 3 1 od] w1/\Bf ps i 0 od dp) (fun(i,ov,od,dp)=>ps.length-i) (0,rv,(pU ps ps.length),(List.replicate ps.length 0)) oh (⟨aR,Bf.start⟩) ?_
   rintro⟨i,ov,od,dp⟩ aF aG ⟨ar,hB⟩
   have bh:=hB.Ls
   have bd:=hB.len
   refine fM ar 5 ?_
   refine iA (m:=od.length) 3 rfl rfl yc ar rfl ?_
   by_cases aH:(i:Int)<(od.length:Int)
   . have hi:i<od.length:=by omega
     have a8:=zg (fW hi)
     have a0:=hB.lt _ a8
     have aa:=ye [1,0,2,3] ar
     have ab:=vm (cE od i) aa o_
     have t:=y0 0 ab rfl (hl _ a0)
     have aZ:=Rf (ps:=ps) (k:=ps.length) (i:=cE od i)
     refine cH ar 23 ?_
     refine iA (m:=(j9 ps ps.length (cE od i)).length) 0 rfl rfl yc t rfl (fZ t 4 ?_)
     refine lp (α:=Nat×Value×List Nat×List Nat) (fun(j,aV,T,F)=>[(4,(Za ps.length)),(5,b),(6,a),(7,aV),(10,(Za i)),(11,(Za (((cE od i):Nat):Int))),(57,((cE l (cE od i)).1)),(58,(Za ((j9 ps ps.length (cE od i)).length:Int))),(59,(Za j))]) (fun(j,aV,T,F) w1=>St [(w,[])] [cL fL ((cE l (cE od i)).1) 3 1 (j9 ps ps.length (cE od i)),(zK 3 (l.eraseIdx (cE od i))),cL jd b 37 1 l,cL fL a 3 1 F,cL fL aV 3 1 T] w1/\Bf ps i j T F/\i<T.length/\cE T i=cE od i/\j<=(j9 ps ps.length (cE od i)).length) (fun(j,aV,T,F)=>(j9 ps ps.length (cE od i)).length-j) (0,ov,od,dp) oh (⟨t,hB,hi,rfl,o_⟩) ?_
     rintro⟨j,aV,T,F⟩ aI aJ ⟨aU,aS,aT,aW,hj⟩
     have bi:=aS.Ls
     have be:=aS.len
     refine fM aU 2 ?_
     by_cases aK:(j:Int)<((j9 ps ps.length (cE od i)).length:Int)
     . have a6:j<(j9 ps ps.length (cE od i)).length:=by omega
       have aY:(j9 ps ps.length (cE T i))[j]? = some (cE (j9 ps ps.length (cE od i)) j):=by rw[aW];exact fW a6
       obtain⟨ba,bb,bc⟩:=aS.new aT aY
       have bf:cE F (cE od i)<=ps.length:=by rw[<-aW,aS.dep _ (zg (fW aT))];exact kS JS (Nat.sub_le _ _)
       refine cH aU 24 ?_
       refine gL (e:=(((cE F (cE od i))+1:Nat):Int)) rfl iX (cH aU 1 ?_)
       refine iz (f:=(fun _=>((cE F (cE od i))+1))) 3 aU (fun aL H=>?_)
       refine cH H 5 ?_
       refine jB (vs:=(Zd (((cE (j9 ps ps.length (cE od i)) j):Nat):Int))) (cs:=(Zd (((cE (j9 ps ps.length (cE od i)) j):Nat):Int))) rfl rfl yc fU rfl (by simp[Value.cells]) rfl rfl rfl H (fun ac aM aN aO I=>kR (cf:=fL) (ys:=T) (zs:=[(cE (j9 ps ps.length (cE od i)) j)]) (LL:=fun u=>(N0 ac ([(((cE (j9 ps ps.length (cE od i)) j):Nat):Int)]) ((cE l (cE od i)).1) (j9 ps ps.length (cE od i)) (zK 3 (l.eraseIdx (cE od i))) (cL jd b 37 1 l) a (cO F (cE (j9 ps ps.length (cE od i)) j) (fun _=>((cE F (cE od i))+1))) u (T++[(cE (j9 ps ps.length (cE od i)) j)]))) 5 rfl rfl rfl yc fU rfl d_ I rfl (kG I (i:=0) rfl) (fun x hx=>zr.1 (show List.all _ _=true from rfl) x hx) (by simp only[zb,zd];omega) (by simp only[zb,zd];omega) f_ ?_)
       intro u aP ad aQ
       have J:=ye [1,2,3,4,5] ad
       refine fK J 8 ?_
       exact gM ((j+1),u,T++[(cE (j9 ps ps.length (cE od i)) j)],cO F (cE (j9 ps ps.length (cE od i)) j) (fun _=>((cE F (cE od i))+1))) oh (⟨J,by have h9:=aS.xm hP aT aY;rw[aW]at h9;exact h9,by rw[zk];omega,(iW (by rw[Ev aT];exact fW aT)).trans aW,o_⟩) o1
     . refine fK aU 16 ?_
       have ae:=y0 0 aU rfl ((hl _ a0).symm)
       have af:=St.Gl ae o_
       have ag:=ye [1,0,2,3] af
       exact gM ((i+1),aV,T,F) oh (⟨ag,aS.next aT (by rw[aW];omega)⟩) o1
   . have a5:i=od.length:=by have:=hB.Kt;omega
     refine cH ar 1 ?_
     subst a5
     obtain⟨bg,a4⟩:=hB.fin hP
     refine cH ar 12 ?_
     refine iA (m:=od.length) 3 rfl rfl yc ar rfl (cH ar 1 ?_)
     refine gz rfl (sW o_) (fK ar 5 ?_)
     refine kC (v:=a) (v' := Zi) results317 rfl rfl ?_
     have ah:=ye [2] ar
     have ai:=y0 0 ah rfl (a4)
     exact⟨a,rfl,me ai⟩
end Go.Proofs.YtedjjkcihkmjgaaGreatDoor
