/- Walks through code, under what is said of arguments. -/
import Derived.Test.YtedjjkcihkmjgaaGreatDoorVg
import Derived.Laws.Bits64b
set_option linter.unusedVariables false
set_option linter.unusedSimpArgs false
set_option maxRecDepth 100000
set_option maxHeartbeats 4000000
namespace Go.Proofs.YtedjjkcihkmjgaaGreatDoor
open Go Go.Sx Go.Proofs.Tryz
def Pl.cells(x:Pl):List Value:=[.int .i64 (x.v:Int),.int .i64 x.e,.int .i64 (x.nx:Int)]
abbrev OK(a:Nat)(b:iK)(c:Nat) d (e:Nat) f (g:Nat) h:=(fN [blk a 3 (Zd b.count),blk c 37 [d],cL fL d 3 1 b.found,blk e 37 [f],cL fL f 3 1 b.low,blk g 183 [h],cL Pl.cells h 185 3 b.stk]:fJ)
abbrev IZ(a:Nat)(b:iK)(c:Nat) d (e:Nat) f (g:Nat) h i j k (l:Nat) m n o p q:=([blk a 3 (Zd b.count),blk c 37 [d],cL fL d 3 1 b.found,blk e 37 [f],cL fL f 3 1 b.low,blk g 183 [h],cL Pl.cells h 185 3 b.stk,cL yZ i 4 1 b.met,j,k,blk l 37 [m],cL fQ m 3 1 b.out,Gr.R n o p q]:List fJ)
theorem KH{α:Type}[Inhabited α]{cf:α->List Value}{sz:Nat}{bs:List (World×List Nat)}{L:List fJ}{w:World}{e:TypeId}{H:List (Value×List α)}{A:List (List α)}{i j:Nat}(h:St bs L w)(hi:L[i]? = some (l7 cf e sz H))(g:∀ x:α,(cf x).length=sz)(f:H.map (·.2)=A)(a:j<H.length):gV sz cf (fun _=>True) w (cE H j).1 (cE A j):=by
 have b:=yy (h.Lu (i:=i) hi)
 have c:=vm j b a
 have d:=(qv c (i:=0) rfl g).any
 have e1:cE A j=(cE H j).2:=by
  subst f
  exact iW (by rw[lU,fW a];rfl)
 rw[e1]
 exact d
variable{H:List (Value×List Nat)}{k:Nat}{ys:List Int}{s:BT}(bb n b:Nat)(l r:BT)(x:Int)(s1:Value)(w:World)
theorem Pc(fb lb sb:Nat)(s1 s2 s3:Value)(N:iK)(v:Nat)(e:Int)(w:World)(C:Own (OK bb N fb s1 lb s2 sb s3) w)(hv:v<N.found.length)(G:v<N.low.length)(hc:N.count<=1000000)(F:N.stk.length<=1000000) :
 CR ya 90 #[(Za v),(Za e),(Zb bb),(Zb fb),(Zb lb),(Zb sb)] w (fun r w' => ∃ B,r = .tuple #[]/\fP (OK bb N fb s1 lb s2 sb s3) w w' (fN [blk bb 3 (Zd ((N.enter v e).count:Int)),blk fb 37 [s1],cL fL s1 3 1 ((N.enter v e).found),blk lb 37 [s2],cL fL s2 3 1 ((N.enter v e).low),blk sb 183 [B],cL Pl.cells B 185 3 ((N.enter v e).stk)])):=by
 refine ja func90 C 3 fun D=>?_
 refine gL (e:=((N.count+1:Nat):Int)) rfl iX (r7 D 4 fun n k=>?_)
 refine jS mixed [([0,1,2,3,4,5,6,7],[2,5])] [8,9] k (fun o d=>iY ?_)
 refine cH d 7 ?_
 refine iz (f:=(fun _=>(N.count+1))) 2 d (fun p a=>?_)
 refine fK a 1 ?_
 refine jF (jX ?_)
 refine cH a 1 ?_
 refine iz (f:=(fun _=>(N.count+1))) 4 a (fun q g=>?_)
 refine cH g 6 ?_
 refine iL (pvs:=[(0,(Za v)),(1,(Za e)),(2,Zc)]) (v:=.agg #[(Za v),(Za e),Zc]) rfl rfl (i6 [(0,(Zd v)),(1,(Zd e)),(2,Bt)] D8 adu rfl oh rfl) (jB (vs:=[(.agg #[(Za v),(Za e),Zc])]) (cs:=[(Za v),(Za e),Zc]) rfl rfl wj D8 rfl (by simp[Value.cells]) rfl rfl rfl g (fun l s t u h=>kR (cf:=Pl.cells) (ys:=N.stk) (zs:=[(⟨v,e,0⟩:Pl)]) (LL:=fun b=>[row (Zu l) 185 3 1 ([(Za v),(Za e),Zc]),blk bb 3 (Zd ((N.count+1:Nat):Int)),blk fb 37 [s1],cL fL s1 3 1 (cO N.found v (fun _=>(N.count+1))),blk lb 37 [s2],cL fL s2 3 1 (cO N.low v (fun _=>(N.count+1))),blk sb 183 [s3],cL Pl.cells b 185 3 (N.stk++[(⟨v,e,0⟩:Pl)])]) 7 rfl rfl rfl wj D8 rfl d_ h rfl (kG h (i:=0) rfl) (fun x E=>zr.1 (show List.all _ _=true from rfl) x E) (by simp only[zb,zd,maxLen];omega) (by simp only[zb,zd,maxLen];omega) f_ ?_))
 intro b y m z
 have c:=ye [1,2,3,4,5,6,7] m
 refine iS 5 c (fun A j=>?_) (hvs:=(cells_one (yh c (i:=6) rfl))) (h1:=(gD (yh c (i:=6) rfl) je))
 refine jU j 1 ?_
 exact⟨b,rfl,yk j⟩
theorem WD(out:List Int)(u v:Nat)(e:Int)(b c:Bool)(w:World)(E:Own (IG bb s1 out) w)(I:out.length<=1000000) :
 CR ya 44 #[(.agg #[(Za u),(Za v),(Za e),(.bool b),(.bool c)]),(Zb bb)] w (fun r w' => ∃ H,r = .tuple #[]/\fP (IG bb s1 out) w w' (IG bb H (bif b then out else out++[e]))):=by
 refine ja func44 E 2 fun F=>?_
 refine gN F (fun k p q s a=>?_)
 refine fZ a 9 ?_
 cases g:(b:Bool)
 . skip
   subst g
   refine fM a 5 ?_
   refine jB (vs:=(Zd e)) (cs:=(Zd e)) rfl rfl yc fU rfl (by simp[Value.cells]) rfl rfl rfl a (fun l t y z h=>kR (cf:=fQ) (ys:=out) (zs:=[e]) (LL:=fun d=>[iD .i64 (Zu l) 3 ([e]),blk k 122 [(Za u),(Za v),(Za e),Zp,(.bool c)],blk bb 37 [s1],cL fQ d 3 1 (out++[e])]) 3 rfl rfl rfl yc fU rfl d_ h rfl (kG h (i:=0) rfl) (fun x G=>zr.1 (show List.all _ _=true from rfl) x G) (by simp only[zb,zd,maxLen];omega) (by simp only[zb,zd,maxLen];omega) f_ ?_)
   intro d A m B
   have f:=ye [1,2,3] m
   refine iS 1 f (fun C j=>?_) (hvs:=(cells_one (yh f (i:=2) rfl))) (h1:=(gD (yh f (i:=2) rfl) je))
   refine jU j 1 ?_
   have n:=ye [1,2] j
   exact⟨d,rfl,yk n⟩
 . skip
   subst g
   refine jh a 2 ?_
   refine lZ results44 ?_
   have o:=ye [1,2] a
   exact⟨s1,rfl,yk o⟩
theorem WG(e:Nat)(w:World) :
 CK ya 43 (Z3 e) w (.tuple #[]):=by
 refine gj func43 ?_
 have a:=k9 w
 refine jh a 1 ?_
 refine lZ results43 ?_
 exact⟨rfl,a.gf s_⟩
theorem WJ(ob T n:Nat)(q:Gr)(es:List Ge)(s1:Value)(w:World)(hO:Own (Di T n q es ob s1) w)(hn:n<=4096)(hg:lP n es)(hm:es.length<=16384) :
 CR ya 42 #[(Zb T),E9,(Fa ob)] w (fun r w' => ∃ (ov:Value) (l:List Int),r = .tuple #[]/\(Nz n es l/\(∀ x∈l,0<=x/\x<(es.length:Int))/\l.length<=n)/\fP (Di T n q es ob s1) w w' (fN [(Gr.R T n q es),blk ob 37 [ov],cL fQ ov 3 1 l])):=by
 refine gj func42 ?_
 have b3:=Own.of hO
 have bU:=OU hg
 refine fM b3 3 ?_
 refine cl (abk T n q es w (yg b3 0 rfl) hn hg hm) ?_
 rintro _ wL ⟨hv,H,rfl,bZ,ck⟩
 have b1:=yp (yt 0 b3 ck)
 have co:H.length=n:=by have:=congrArg List.length bZ;rwa [zm,OT]at this
 have b5:=fun j (hj:j<n)=>KH b1 (i:=2) rfl f_ bZ (show j<H.length by omega)
 refine cH b1 6 ?_
 refine cl (ZE T n q es wL (yg b1 0 rfl) hm) ?_
 rintro _ aZ ⟨B,rfl,ht⟩
 have W:=yp (yt 0 b1 ht)
 refine iA (m:=es.length) 1 rfl rfl qt W rfl (kA (cf:=yZ) (z0:=false) (m:=es.length) (c:=es.length) rfl rfl rfl underlying181 xS rfl f_ d_ (zh _) o_ o_ W ?_)
 intro X Y a0 a1 ap
 have C:=St.bR (cf:=yZ) 0 ap
 generalize (Value.slice (some ⟨X,0,none⟩) es.length es.length)=D at C ⊢
 refine cH C 6 ?_
 refine gF 1 C (BM T n q es Y · hn) fun a2 aq=>?_
 refine kA (cf:=fL) (z0:=0) (m:=n) (c:=n) rfl rfl rfl yc fU rfl f_ d_ (zh _) o_ o_ aq ?_
 intro Z au a3 a4 av
 have aa:=St.bR (cf:=fL) 0 av
 generalize (Value.slice (some ⟨Z,0,none⟩) n n)=s at aa ⊢
 refine ir aa (fun E a5 a6 a7 J=>?_)
 refine iS 0 J (fun aw K=>?_) (hvs:=(cells_one (yh J (i:=1) rfl))) (h1:=(gD (yh J (i:=1) rfl) je))
 refine cH K 5 ?_
 refine gF 3 K (BM T n q es aw · hn) fun a8 ax=>?_
 refine kA (cf:=fL) (z0:=0) (m:=n) (c:=n) rfl rfl rfl yc fU rfl f_ d_ (zh _) o_ o_ ax ?_
 intro ab ay a9 ba az
 have ac:=St.bR (cf:=fL) 0 az
 generalize (Value.slice (some ⟨ab,0,none⟩) n n)=L at ac ⊢
 refine ir ac (fun O bb bc bd P=>?_)
 refine iS 0 P (fun be ad=>?_) (hvs:=(cells_one (yh P (i:=1) rfl))) (h1:=(gD (yh P (i:=1) rfl) je))
 refine cH ad 4 ?_
 refine ir ad (fun S bf bg bh aA=>?_)
 refine gh aA 5 fun bi aB=>?_
 refine ir aB (fun U aC bj bl y=>?_)
 refine cH y 4 ?_
 refine kW (vf:=[]) (vc:=(C0 S E O U)) rfl rfl rfl (cH y 6 ?_)
 refine iA (m:=(List.replicate n 0).length) 5 rfl rfl yc y rfl ?_
 have cx:(List.replicate n (0:Nat)).length=n:=oK
 have aD:=nU y 185 3
 have aE:=ye [2,5,6,3,4,1,0,7,10,11,12,13,8] aD
 refine fZ y 4 ?_
 refine lp (α:=Nat×iK×Value×Value×Value×Value×Value×Nat×Nat×Nat×Nat) (fun(r,N,sv,ov,fv,lv,bk,cb,fb,lb,sb)=>[(1,E9),(2,(Fa ob)),(6,hv),(7,bk),(8,(Zb fb)),(9,(Zb lb)),(10,(Zb cb)),(11,(Zb sb)),(12,(Jc cb fb lb sb)),(33,(Za n)),(34,(Za r))]) (fun(r,N,sv,ov,fv,lv,bk,cb,fb,lb,sb) w1=>St [(w,(Di T n q es ob s1).gq)] (IZ cb N fb fv lb lv sb sv bk (cL jd hv 188 1 H) (l7 Lk.cells 190 2 H) ob ov T n q es) w1/\qB n es.length (gU n es) r N/\N.stk.length=0/\r<=n) (fun(r,N,sv,ov,fv,lv,bk,cb,fb,lb,sb)=>n-r) (0,(iK.init n es.length),Zh,s1,s,L,D,S,E,O,U) oh (⟨aE,qB.start,rfl,o_⟩) ?_
 rintro⟨r,N,sv,ov,fv,lv,bk,cb,fb,lb,sb⟩ bm aF ⟨bS,hI,h0,hr⟩
 have ar:=hI.2
 have cc:=ar.fl
 have cd:=ar.ll
 have ce:=ar.ml
 have b7:=ar.FQ
 have b8:=ar.st
 refine fM bS 2 ?_
 by_cases bn:(r:Int)<(n:Int)
 . refine cH bS 23 ?_
   by_cases bo:(((cE N.found r):Nat):Int)>0
   . refine fK bS 13 ?_
     exact gM ((r+1),N,sv,ov,fv,lv,bk,cb,fb,lb,sb) oh (⟨bS,hI.skip h0 o_ o_,h0,o_⟩) o1
   . have ae:=yd [_,_,_,_,_,_,_] _ bS
     refine cH bS 10 ?_
     refine lR (fi:=[]) (ca:=(C0 cb fb lb sb)) rfl rfl rfl eN (Pc cb fb lb sb fv lv sv N r (-1) aF (yg ae 0 rfl) (show r<N.found.length by omega) (show r<N.low.length by omega) (show N.count<=1000000 by omega) (show N.stk.length<=1000000 by first|omega|(rw[gd];omega))) ?_
     rintro _ bp ⟨aG,rfl,aH⟩
     have af:=(yw ae aH)
     refine fZ af 6 ?_
     refine lp (α:=iK×Value×Value) (fun(M,F,bP)=>[(1,E9),(2,(Fa ob)),(6,hv),(7,bk),(8,(Zb fb)),(9,(Zb lb)),(10,(Zb cb)),(11,(Zb sb)),(12,(Jc cb fb lb sb)),(33,(Za n)),(34,(Za r))]) (fun(M,F,bP) w1=>St [(w,(Di T n q es ob s1).gq)] (IZ cb M fb fv lb lv sb F bk (cL jd hv 188 1 H) (l7 Lk.cells 190 2 H) ob bP T n q es) w1/\qB n es.length (gU n es) (r+1) M) (fun(M,F,bP)=>2*(n-M.count)+M.stk.length) ((N.enter r (-1)),aG,ov) oh (⟨af,hI.root h0 o_ o_⟩) ?_
     rintro⟨M,F,bP⟩ bq br ⟨bT,b0⟩
     refine fM bT 4 ?_
     refine iA (m:=M.stk.length) 6 rfl rfl wj bT rfl ?_
     by_cases bs:(M.stk.length:Int)>0
     . obtain⟨k,hk⟩:∃ k,M.stk.length=k+1:=⟨M.stk.length-1,o_⟩
       have ct:=b0.2.st
       have cu:=b0.2.FQ
       refine cH bT 11 ?_
       refine iA (m:=M.stk.length) 6 rfl rfl wj bT rfl (gL (e:=(k:Int)) rfl iX (cH bT 1 ?_))
       refine kq (v:=(j8 3 F k 0)) rfl rfl (gh bT 4 fun bt z=>?_)
       refine mv (v:=(j8 3 F k 0)) rfl rfl (B6 (cf:=Pl.cells) (off:=0) rfl rfl (yv z 6 rfl) (fW om) (cH z 2 ?_))
       refine mv (v:=(j8 3 F k 0)) rfl rfl (B6 (cf:=Pl.cells) (off:=0) rfl rfl (yv z 6 rfl) (fW om) ?_)
       obtain⟨vv,cm⟩:∃ vv,(cE M.stk k).v=vv:=⟨_,rfl⟩
       obtain⟨ee,b9⟩:∃ ee,(cE M.stk k).e=ee:=⟨_,rfl⟩
       refine fZ z 8 ?_
       refine lp (α:=iK) (fun Q=>[(1,E9),(2,(Fa ob)),(6,hv),(7,bk),(8,(Zb fb)),(9,(Zb lb)),(10,(Zb cb)),(11,(Zb sb)),(12,(Jc cb fb lb sb)),(14,(j8 3 F k 0)),(15,(Za vv)),(16,(Za ee)),(33,(Za n)),(34,(Za r))]) (fun Q w1=>St [(w,(Di T n q es ob s1).gq)] (IZ cb Q fb fv lb lv sb F bk (cL jd hv 188 1 H) (l7 Lk.cells 190 2 H) ob bP T n q es) w1/\qB n es.length (gU n es) (r+1) Q/\uC (gU n es) Q k vv ee/\Q.count=M.count) (fun Q=>(cE (gU n es) vv).length-(cE Q.stk k).nx) M oh (⟨z,b0,⟨hk,cm,b9⟩,rfl⟩) ?_
       rintro Q bu bv ⟨cj,bV,hV,b6⟩
       have ar:=bV.2
       have cc:=ar.fl
       have cd:=ar.ll
       have ce:=ar.ml
       have b7:=ar.FQ
       have b8:=ar.st
       have cw:=hV.l
       have b4:=ar.sv _ (mu (show k<Q.stk.length by omega))
       rw[hV.v]at b4
       have bY:=b4.1
       have cy:=b4.2.1
       have cn:(cE (gU n es) vv).length<=2*es.length:=by rw[Bw bY,yX,By bY];have:=v8 (es:=es) bY;omega
       refine ny cj 3 fun aI d=>?_
       refine mv (v:=(j8 3 F k 0)) rfl rfl (B6 (cf:=Pl.cells) (off:=0) rfl rfl (yv d 6 rfl) (fW om) (cH d 4 ?_))
       refine iH (cf:=jd) (k:=vv) (i:=(vv:Int)) rfl rfl rfl En Hx (yv d 8 rfl) o_ o_ (fW om) (jf (cf:=jd) rfl rfl x8 rfl (yv d 8 rfl) (fW om) rfl (jO (v:=((cE H vv).1)) rfl rfl x8 (b5 vv o_) ?_))
       by_cases bw:((cE Q.stk k).nx:Int)<((cE (gU n es) vv).length:Int)
       . have cg:(cE Q.stk k).nx<(cE (gU n es) vv).length:=by omega
         obtain⟨⟨le,lt⟩,bQ⟩:=oT cg
         have cq:le<es.length:=bU.e vv bY _ (zg bQ)
         have cr:lt<n:=bU.t vv bY _ (zg bQ)
         refine fZ d 8 ?_
         refine jS mixed [([0,1,2,3,4,5,6,7,8,9,10],[3,7,9])] [11] d (fun bx o=>iY ?_)
         refine cH o 2 ?_
         refine iH (cf:=jd) (k:=vv) (i:=(vv:Int)) rfl rfl rfl En Hx (yv o 8 rfl) o_ o_ (fW om) (jf (cf:=jd) rfl rfl x8 rfl (yv o 8 rfl) (fW om) rfl (mv (v:=(j8 3 F k 0)) rfl rfl (B6 (cf:=Pl.cells) (off:=0) rfl rfl (yv o 6 rfl) (fW om) (cH o 2 ?_))))
         refine iH (k:=((cE Q.stk k).nx)) (i:=((cE Q.stk k).nx:Int)) rfl rfl rfl x8 Am (b5 vv o_) o_ o_ bQ (Gs (cs:=(Zm le lt)) rfl rfl HQ rfl Am (KH o (i:=9) rfl f_ bZ o_) bQ rfl rfl (ir o (fun bz bA bB bC G=>?_)))
         refine fK G 1 ?_
         refine nF (ku rfl (mZ (BW (cf:=jd) (u:=((cE H vv).1)) rfl x8 rfl (yv G 9 rfl) (fW om) rfl) rfl rfl) (ku rfl oF (ku rfl (mZ (Gt (cs:=(Zm le lt)) rfl HQ rfl Am (KH G (i:=10) rfl f_ bZ o_) bQ rfl rfl) rfl rfl) (trivial)))) (jX ?_)
         refine gh G 5 fun bD A=>?_
         refine mv (v:=(j8 3 F k 0)) rfl rfl (B6 (cf:=Pl.cells) (off:=0) rfl rfl (yv A 7 rfl) (fW om) (cH A 2 ?_))
         refine gL (e:=(((cE Q.stk k).nx+1:Nat):Int)) rfl iX (B6 (cf:=Pl.cells) (off:=0) rfl rfl (yv A 7 rfl) (fW om) (cH A 1 ?_))
         refine iz (f:=(fun x:Pl=>{ x with nx:=((cE Q.stk k).nx+1) })) 7 A (fun bE g=>?_)
         refine cH g 8 ?_
         refine iH (cf:=yZ) (k:=le) (i:=(le:Int)) rfl rfl rfl underlying181 xS (yv g 8 rfl) o_ o_ (fW om) (jf (cf:=yZ) rfl rfl nH rfl (yv g 8 rfl) (fW om) rfl (fZ g 2 ?_))
         cases bF:(cE Q.met le:Bool)
         . skip
           refine fM g 8 ?_
           refine iH (cf:=yZ) (k:=le) (i:=(le:Int)) rfl rfl rfl underlying181 xS (yv g 8 rfl) o_ o_ (fW om) (iz (f:=(fun _=>true)) 8 g (fun aJ ag=>?_))
           refine cH ag 7 ?_
           refine lR (fi:=[]) (ca:=[]) rfl rfl rfl eN (WG le aJ) ?_
           rintro _ aK ⟨rfl,aL⟩
           have I:=lI ag aL
           refine cH I 10 ?_
           by_cases bG:(((cE Q.found lt):Nat):Int)=0
           . skip
             have aM:=ye [1,2,3,4,5,6,7,0,8,9,10,11,12,13] I
             have ah:=yd [_,_,_,_,_,_,_] _ aM
             refine cH I 11 ?_
             refine lR (fi:=[]) (ca:=(C0 cb fb lb sb)) rfl rfl rfl eN (Pc cb fb lb sb fv lv F (⟨cO Q.met le (fun _=>true),Q.found,Q.low,Q.count,cO Q.stk k (fun x=>{ x with nx:=((cE Q.stk k).nx+1) }),Q.out⟩:iK) lt (le:Int) aK (yg ah 0 rfl) (show lt<Q.found.length by omega) (show lt<Q.low.length by omega) (show Q.count<=1000000 by omega) (show (cO Q.stk k (fun x=>{ x with nx:=((cE Q.stk k).nx+1) })).length<=1000000 by first|omega|(rw[gd];omega))) ?_
             rintro _ bH ⟨aN,rfl,aO⟩
             have ai:=(yw ah aO)
             refine fK ai 9 ?_
             have aP:=ye [0,1,2,3,4,5,6,8,9,10,11,12,13] ai
             have bW:=bV.tk bU hV.l (agy hV bQ (by simp[*]) o_)
             have cp:Q.count+1<=n:=bW.2.FQ
             exact gM (((⟨cO Q.met le (fun _=>true),Q.found,Q.low,Q.count,cO Q.stk k (fun x=>{ x with nx:=((cE Q.stk k).nx+1) }),Q.out⟩:iK).enter lt (le:Int)),aN,bP) oh (⟨aP,bW⟩) (by show 2*(n-(Q.count+1))+(_++[_]).length<2*(n-M.count)+M.stk.length;rw[zk,gd,CD];omega)
           . refine gh I 18 fun bI aj=>?_
             refine min2 (a:=(((cE Q.low vv):Nat):Int)) (b:=(((cE Q.found lt):Nat):Int)) (c:=((min (cE Q.low vv) (cE Q.found lt):Nat):Int)) rfl rfl rfl o_ (cH aj 1 ?_)
             refine iz (f:=(fun _=>(min (cE Q.low vv) (cE Q.found lt)))) 5 aj (fun bJ ak=>?_)
             refine fK ak 2 ?_
             have aQ:=ye [1,2,3,4,5,6,7,8,9,10,11,12,13] ak
             have b2:=bV.tk bU hV.l (agz hV bQ (by simp[*]) o_)
             exact gM (⟨cO Q.met le (fun _=>true),Q.found,cO Q.low vv (fun _=>(min (cE Q.low vv) (cE Q.found lt))),Q.count,cO Q.stk k (fun x=>{ x with nx:=((cE Q.stk k).nx+1) }),Q.out⟩:iK) oh (⟨aQ,b2,hV.bump,b6⟩) (by show (cE (gU n es) vv).length-(cE (cO Q.stk k (fun x=>{ x with nx:=(cE Q.stk k).nx+1 })) k).nx<_;rw[jQ o_];show (cE (gU n es) vv).length-((cE Q.stk k).nx+1)<_;omega)
         . skip
           refine jh g 4 ?_
           have aR:=ye [1,2,3,4,5,6,7,8,9,10,11,12,13] g
           have b2:=bV.tk bU hV.l (agA hV bQ (by simp[*]))
           exact gM (⟨Q.met,Q.found,Q.low,Q.count,cO Q.stk k (fun x=>{ x with nx:=((cE Q.stk k).nx+1) }),Q.out⟩:iK) oh (⟨aR,b2,hV.bump,b6⟩) (by show (cE (gU n es) vv).length-(cE (cO Q.stk k (fun x=>{ x with nx:=(cE Q.stk k).nx+1 })) k).nx<_;rw[jQ o_];show (cE (gU n es) vv).length-((cE Q.stk k).nx+1)<_;omega)
       . have cz:(Q.stk.take k).length=k:=by rw[zw];omega
         refine cH d 13 ?_
         refine iA (m:=Q.stk.length) 6 rfl rfl wj d rfl (gL (e:=(k:Int)) rfl iX (D3 (l:=0) (h:=k) rfl rfl wj D8 (yv (cf:=Pl.cells) d 6 rfl) rfl ⟨_,js o_⟩ o_ o_ ?_))
         have V:St _ [blk cb 3 (Zd Q.count),blk fb 37 [fv],cL fL fv 3 1 Q.found,blk lb 37 [lv],cL fL lv 3 1 Q.low,blk sb 183 [F],cL Pl.cells (jL 3 F 0 k) 185 3 (Q.stk.take k),cL yZ bk 4 1 Q.met,cL jd hv 188 1 H,(l7 Lk.cells 190 2 H),blk ob 37 [bP],cL fQ bP 3 1 Q.out,(Gr.R T n q es)] aI:=St.G6 d (i:=6) rfl f_ o_
         refine iS 5 V (fun bK p=>?_) (hvs:=(cells_one (yh V (i:=6) rfl))) (h1:=(gD (yh V (i:=6) rfl) je))
         refine cH p 5 ?_
         refine iA (m:=(Q.stk.take k).length) 6 rfl rfl wj p rfl ?_
         by_cases bL:((Q.stk.take k).length:Int)>0
         . have cA:(cE (Q.stk.take k) (k-1)).v<n:=(ar.sv _ (Nw (mu (show k-1<(Q.stk.take k).length by omega)))).1
           refine cH p 8 ?_
           refine iA (m:=(Q.stk.take k).length) 6 rfl rfl wj p rfl (gL (e:=((k-1:Nat):Int)) rfl iX (gh p 18 fun bM al=>?_))
           refine min2 (a:=(((cE Q.low ((cE (Q.stk.take k) (k-1)).v)):Nat):Int)) (b:=(((cE Q.low vv):Nat):Int)) (c:=((min (cE Q.low ((cE (Q.stk.take k) (k-1)).v)) (cE Q.low vv):Nat):Int)) rfl rfl rfl o_ (cH al 1 ?_)
           refine iz (f:=(fun _=>(min (cE Q.low ((cE (Q.stk.take k) (k-1)).v)) (cE Q.low vv)))) 4 al (fun bN aS=>?_)
           refine gh aS 15 fun aT am=>?_
           refine cmp (c:=decide ((((cE (cO Q.low ((cE (Q.stk.take k) (k-1)).v) (fun _=>(min (cE Q.low ((cE (Q.stk.take k) (k-1)).v)) (cE Q.low vv)))) vv):Nat):Int)<=(((cE Q.found ((cE (Q.stk.take k) (k-1)).v)):Nat):Int))) rfl rfl rfl rfl (cH am 8 ?_)
           refine cmp (c:=decide ((((cE (cO Q.low ((cE (Q.stk.take k) (k-1)).v) (fun _=>(min (cE Q.low ((cE (Q.stk.take k) (k-1)).v)) (cE Q.low vv)))) vv):Nat):Int)<(((cE Q.found ((cE (Q.stk.take k) (k-1)).v)):Nat):Int))) rfl rfl rfl rfl (iL (pvs:=[(0,(Za ((cE (Q.stk.take k) (k-1)).v:Int))),(1,(Za vv)),(2,(Za ee)),(3,(.bool (decide ((((cE (cO Q.low ((cE (Q.stk.take k) (k-1)).v) (fun _=>(min (cE Q.low ((cE (Q.stk.take k) (k-1)).v)) (cE Q.low vv)))) vv):Nat):Int)<=(((cE Q.found ((cE (Q.stk.take k) (k-1)).v)):Nat):Int))))),(4,(.bool (decide ((((cE (cO Q.low ((cE (Q.stk.take k) (k-1)).v) (fun _=>(min (cE Q.low ((cE (Q.stk.take k) (k-1)).v)) (cE Q.low vv)))) vv):Nat):Int)<(((cE Q.found ((cE (Q.stk.take k) (k-1)).v)):Nat):Int)))))]) (v:=.agg #[(Za ((cE (Q.stk.take k) (k-1)).v:Int)),(Za vv),(Za ee),(.bool (decide ((((cE (cO Q.low ((cE (Q.stk.take k) (k-1)).v) (fun _=>(min (cE Q.low ((cE (Q.stk.take k) (k-1)).v)) (cE Q.low vv)))) vv):Nat):Int)<=(((cE Q.found ((cE (Q.stk.take k) (k-1)).v)):Nat):Int)))),(.bool (decide ((((cE (cO Q.low ((cE (Q.stk.take k) (k-1)).v) (fun _=>(min (cE Q.low ((cE (Q.stk.take k) (k-1)).v)) (cE Q.low vv)))) vv):Nat):Int)<(((cE Q.found ((cE (Q.stk.take k) (k-1)).v)):Nat):Int))))]) rfl rfl (i6 [(0,(Zd ((cE (Q.stk.take k) (k-1)).v:Int))),(1,(Zd vv)),(2,(Zd ee)),(3,[(.bool (decide ((((cE (cO Q.low ((cE (Q.stk.take k) (k-1)).v) (fun _=>(min (cE Q.low ((cE (Q.stk.take k) (k-1)).v)) (cE Q.low vv)))) vv):Nat):Int)<=(((cE Q.found ((cE (Q.stk.take k) (k-1)).v)):Nat):Int))))]),(4,[(.bool (decide ((((cE (cO Q.low ((cE (Q.stk.take k) (k-1)).v) (fun _=>(min (cE Q.low ((cE (Q.stk.take k) (k-1)).v)) (cE Q.low vv)))) vv):Nat):Int)<(((cE Q.found ((cE (Q.stk.take k) (k-1)).v)):Nat):Int))))])] Ug ado rfl oh rfl) ?_)
           have aU:=ye [10,11,0,1,2,3,4,5,6,7,8,9,12] am
           have an:=yd [_,_] _ aU
           refine lR (fi:=[]) (ca:=(Ze ob)) rfl rfl rfl eN (WD ob bP Q.out ((cE (Q.stk.take k) (k-1)).v) vv ee (decide ((((cE (cO Q.low ((cE (Q.stk.take k) (k-1)).v) (fun _=>(min (cE Q.low ((cE (Q.stk.take k) (k-1)).v)) (cE Q.low vv)))) vv):Nat):Int)<=(((cE Q.found ((cE (Q.stk.take k) (k-1)).v)):Nat):Int))) (decide ((((cE (cO Q.low ((cE (Q.stk.take k) (k-1)).v) (fun _=>(min (cE Q.low ((cE (Q.stk.take k) (k-1)).v)) (cE Q.low vv)))) vv):Nat):Int)<(((cE Q.found ((cE (Q.stk.take k) (k-1)).v)):Nat):Int))) aT (yg an 0 rfl) (show Q.out.length<=1000000 by omega)) ?_
           rintro _ bO ⟨aV,rfl,aW⟩
           have ao:=(yw an aW)
           refine fK ao 2 ?_
           have aX:=ye [2,3,4,5,6,7,8,9,10,11,0,1,12] ao
           have bW:=bV.tk bU hV.l (agB (b:=decide ((((cE (cO Q.low ((cE (Q.stk.take k) (k-1)).v) (fun _=>(min (cE Q.low ((cE (Q.stk.take k) (k-1)).v)) (cE Q.low vv)))) vv):Nat):Int)<=(((cE Q.found ((cE (Q.stk.take k) (k-1)).v)):Nat):Int))) hV o_ o_ (by rw[abG o_];exact decide_eq_decide.2 Int.ofNat_le))
           exact gM ((⟨Q.met,Q.found,cO Q.low ((cE (Q.stk.take k) (k-1)).v) (fun _=>(min (cE Q.low ((cE (Q.stk.take k) (k-1)).v)) (cE Q.low vv))),Q.count,(Q.stk.take k),(bif decide ((((cE (cO Q.low ((cE (Q.stk.take k) (k-1)).v) (fun _=>(min (cE Q.low ((cE (Q.stk.take k) (k-1)).v)) (cE Q.low vv)))) vv):Nat):Int)<=(((cE Q.found ((cE (Q.stk.take k) (k-1)).v)):Nat):Int))then Q.out else Q.out++[ee])⟩:iK),(jL 3 F 0 k),aV) oh (⟨aX,bW⟩) (by show 2*(n-Q.count)+(Q.stk.take k).length<2*(n-M.count)+M.stk.length;omega)
         . refine fK p 6 ?_
           have bW:=bV.tk bU hV.l (agC hV o_ o_)
           exact gM ((⟨Q.met,Q.found,Q.low,Q.count,(Q.stk.take k),Q.out⟩:iK),(jL 3 F 0 k),bP) oh (⟨p,bW⟩) (by show 2*(n-Q.count)+(Q.stk.take k).length<2*(n-M.count)+M.stk.length;omega)
     . refine fK bT 15 ?_
       exact gM ((r+1),M,F,bP,fv,lv,bk,cb,fb,lb,sb) oh (⟨bT,b0,o_,o_⟩) o1
 . refine jU bS 9 ?_
   have aY:=ye [12,10,11] bS
   have ci:r=n:=by omega
   rw[ci]at hI
   have ch:=hI.2.ou
   have cv:=hI.2.st
   exact⟨ov,N.out,rfl,⟨⟨N,hI.1,h0,rfl⟩,ch,o_⟩,yk aY⟩
structure Bq where
 dv:Value
 mv:Value
 gQ:List Int
 H:List (Value×List Nat)
 low:Nat
def Bq.m(q:Bq):gx:=⟨q.gQ,q.H.map (·.2),q.low⟩
def Bq.R(bb:Nat)(q:Bq):fJ:=fN [blk bb 293 [q.dv,q.mv,(Za q.low)],cL fQ q.dv 3 1 q.gQ,cL jd q.mv 37 1 q.H,(qd fL 3 q.H)]
abbrev Ff a (b c:Nat) d:=([a,blk b 195 (Ze c),Bq.R c d]:List fJ)
theorem RY{d:Nat}{sv:Value}{xs:List Nat}:(cO H d fun _=>(sv,xs)).map (·.2)=cO (H.map (·.2)) d fun _=>xs:=List.map_set ..
theorem GO{d:Nat}(h:d<H.length):cE (H.map (·.2)) d=(cE H d).2:=iW (by rw[lU,fW h];rfl)
theorem abB(c:Nat)(q:Bq)(w:World)(V:Own (Bq.R bb q) w)(P:q.m.ok n c)(hn:n<=4096)(hc:c<=1000000000)(v:Nat)(hv:v<n) :
 CR ya 98 (Zk bb v) w (fun r w' => ∃ T:Bq,r = .tuple #[]/\T.m=q.m.lose v/\fP (Bq.R bb q) w w' (Bq.R bb T)):=by
 have aa:q.gQ.length=n:=P.dl
 have S:q.m.mem.length=q.H.length:=zm _
 have Q:=P.dv _ (show cE q.gQ v∈q.m.gQ from mu (show v<q.gQ.length by omega))
 refine ja func98 V 10 fun F=>?_
 by_cases C:((cE q.gQ v):Int)<=0
 . refine fK F 6 ?_
   refine xH results98 ?_
   exact⟨q,rfl,(gx.abA (B:=q.m) (by show cE q.gQ v<=0;omega)).symm,yk F⟩
 . obtain⟨d,hd⟩:∃ d:Nat,cE q.gQ v=(d:Int)+1:=⟨(cE q.gQ v-1).toNat,o_⟩
   have O:d<q.H.length:=by have:=Q.2;rw[S]at this;omega
   have ab:(cE q.H d).2.length<=n+c:=by have U:=(P.mv (cE q.H d).2 (by rw[<-GO O];exact mu (show d<q.m.mem.length by rw[S];exact O))).1;exact U
   have Z:=(yv F 2 rfl).len
   refine cH F 15 ?_
   refine gL (e:=(d:Int)) rfl (by rw[kX (by have:=Q.2;omega)];omega) (cH F 1 ?_)
   refine iz (f:=(fun _=>(d:Int))) 1 F (fun D j=>?_)
   have W:cE (cO q.gQ v (fun _=>(d:Int))) v=(d:Int):=jQ o_
   refine cH j 10 ?_
   refine jf (cf:=fQ) rfl rfl yf rfl (yv j 1 rfl) (fW om) rfl ?_
   rw[W]
   refine fZ j 4 ?_
   have p:=ye [3,0,1,2] j
   have s:=vm d p o_
   refine jS mixed [([0,1,2,3,4,5,6,7,8,9,10,11,12,13],[3,8,11]),([14],[3])] [15,16] s (fun E l=>iY ?_)
   refine cH l 13 ?_
   refine jB (vs:=(Zd v)) (cs:=(Zd v)) rfl rfl yc fU rfl (by simp[Value.cells]) rfl rfl rfl l (fun t G I J k=>fK k 1 ?_)
   refine jF (iY ?_)
   refine kR (cf:=fL) (ys:=(cE q.H d).2) (zs:=[v]) (LL:=fun g=>[iD .i64 (Zu t) 3 ([(v:Int)]),cL fL g 3 1 (((cE q.H d).2)++[v]),(qd fL 3 (q.H.eraseIdx d)),blk bb 293 [q.dv,q.mv,(Za q.low)],cL fQ q.dv 3 1 (cO q.gQ v (fun _=>(d:Int))),cL jd q.mv 37 1 q.H]) 1 rfl rfl rfl yc fU rfl d_ k rfl (kG k (i:=0) rfl) (fun x Y=>zr.1 (show List.all _ _=true from rfl) x Y) (by simp only[zb,zd,maxLen];omega) (by simp only[zb,zd,maxLen];omega) f_ ?_
   intro g K u L
   have h:=ye [1,2,3,4,5] u
   refine fK h 1 ?_
   refine jF (jX ?_)
   refine cH h 1 ?_
   refine iz (f:=(fun _=>(g,(cE q.H d).2++[v]))) 4 h (fun M o=>?_) (hvs:=(cells_one (yh h (i:=0) rfl))) (h1:=(gD (yh h (i:=0) rfl) je))
   refine cH o 9 ?_
   refine min2 (a:=(q.low:Int)) (b:=(d:Int)) (c:=((min q.low d:Nat):Int)) rfl rfl rfl o_ (jI o 4 fun N y=>?_)
   refine lZ results98 ?_
   have z:=St.DH y o_
   have A:=ye [1,2,3,0] z
   have X:Bq.m (⟨q.dv,q.mv,cO q.gQ v (fun _=>(d:Int)),(cO q.H d (fun _=>(g,(cE q.H d).2++[v]))),min q.low d⟩:Bq)=q.m.lose v:=by
    rw[gx.abC (B:=q.m) (v:=v) (d:=d) (by show ¬ cE q.gQ v<=0;omega) hd]
    show gx.mk _ _ _=gx.mk _ _ _
    congr 1
    rw[RY,<-GO O]
    rfl
   exact⟨(⟨q.dv,q.mv,cO q.gQ v (fun _=>(d:Int)),(cO q.H d (fun _=>(g,(cE q.H d).2++[v]))),min q.low d⟩:Bq),rfl,X,yk A⟩
theorem agd(c:Nat)(q:Bq)(w:World)(hO:Own (Bq.R bb q) w)(aE:q.m.ok n c)(hn:n<=4096)(hc:c<=1000000000) :
 CR ya 96 (Zg bb) w (fun r w' => (∃ (v:Nat) (q2:Bq),r = .tuple (Zx v q2.low)/\q.m.take=(q2.m,some v)/\fP (Bq.R bb q) w w' (Bq.R bb q2))\/∃ q2:Bq,r = .tuple #[.int .i64 (-1),.int .i64 0]/\q.m.take=(q2.m,none)/\fP (Bq.R bb q) w w' (Bq.R bb q2)):=by
 have aR:q.gQ.length=n:=aE.dl
 refine gj func96 ?_
 have aG:=Own.of hO
 refine oW aG 17 ?_
 refine lp (α:=List (Value×List Nat)×Nat) (fun(H,low)=>[(0,(Zb bb)),(2,Zz)]) (fun(H,low) w1=>St [(w,(Bq.R bb q).gq)] [blk bb 293 [q.dv,q.mv,(Za low)],cL fQ q.dv 3 1 q.gQ,cL jd q.mv 37 1 H,(qd fL 3 H)] w1/\q.m.scan (q.m.mem.length-q.m.low)=(⟨q.gQ,H.map (·.2),low⟩:gx).scan ((H.map (·.2)).length-low)/\gx.ok n (⟨q.gQ,H.map (·.2),low⟩:gx) c/\H.length=q.H.length) (fun(H,low)=>H.length-low) (q.H,q.low) oh (⟨aG,rfl,aE,rfl⟩) ?_
 rintro⟨H,low⟩ N O ⟨aH,ay,aF,aI⟩
 have aQ:(H.map (·.2)).length=H.length:=zm _
 have aP:=(yv aH 2 rfl).len
 refine ny aH 11 fun Q d=>?_
 refine iA (m:=H.length) 2 rfl rfl HS d rfl ?_
 by_cases S:(low:Int)<(H.length:Int)
 . have aB:low<H.length:=by omega
   have aD:=aF.mv (cE H low).2 (by show _∈H.map (·.2);rw[<-GO aB];exact mu o_)
   refine fZ d 9 ?_
   have y:=ye [3,0,1,2] d
   have z:=vm low y o_
   refine ny z 11 fun U o=>?_
   refine D3 (l:=0) (h:=0) rfl rfl yc fU (yv (cf:=fL) o 0 rfl) rfl ⟨_,js o_⟩ o_ o_ (kq (v:=(jL 1 ((cE H low).1) 0 0)) rfl rfl (gh o 15 fun V j=>?_))
   refine iA (m:=((cE H low).2).length) 0 rfl rfl yc j rfl ?_
   have A:=ye [2,3,4,0,1] j
   refine fZ j 4 ?_
   refine lp (α:=Nat×Nat×List Nat×Int) (fun(i,k,zs,m)=>[(0,(Zb bb)),(2,(Za m)),(4,(jL 1 (cE H low).1 0 k)),(44,((cE H low).1)),(45,(Za ((cE H low).2.length:Int))),(46,(Za i))]) (fun(i,k,zs,m) w1=>St [(w,(Bq.R bb q).gq)] [blk bb 293 [q.dv,q.mv,(Za low)],cL fQ q.dv 3 1 q.gQ,cL jd q.mv 37 1 H,cL fL ((cE H low).1) 3 1 zs,(qd fL 3 (H.eraseIdx low))] w1/\pZ (fun u=>decide (cE q.gQ u=(low:Int))) (cE H low).2 i k zs/\m=l9 (((cE H low).2.take i).filter (fun u=>decide (cE q.gQ u=(low:Int))))) (fun(i,k,zs,m)=>(cE H low).2.length-i) (0,0,(cE H low).2,(-1)) oh (⟨A,pZ.start,by rw[List.take_zero];rfl⟩) ?_
   rintro⟨i,k,zs,m⟩ W C ⟨au,T,aq⟩
   have aY:=T.len
   have aX:=T.ki
   have aW:=T.il
   refine fM au 2 ?_
   by_cases X:(i:Int)<((cE H low).2.length:Int)
   . have an:i<(cE H low).2.length:=by omega
     have F:=T.at_ an
     have aV:cE zs i<n:=by rw[F];exact aD.2 _ (mu an)
     refine gh au 30 fun Y e=>?_
     by_cases Z:((cE q.gQ (cE zs i)):Int)=(low:Int)
     . refine cH e 8 ?_
       refine mv (v:=(jL 1 (cE H low).1 0 k)) rfl rfl (cH e 1 ?_)
       refine jB (vs:=(Zd (((cE zs i):Nat):Int))) (cs:=(Zd (((cE zs i):Nat):Int))) rfl rfl yc fU rfl (by simp[Value.cells]) rfl rfl rfl e (fun aa ab ac ad s=>Wa (cf:=fL) (k:=k) (c:=(cE zs i)) 4 rfl rfl rfl yc fU s rfl (kG s (i:=0) rfl) d_ (fun x hx=>zr.1 (show List.all _ _=true from rfl) x hx) f_ o_ rfl (fun ae D=>?_))
       have a:=ye [1,2,3,4,5] D
       refine kq (v:=(jL 1 ((cE H low).1) 0 (k+1))) rfl rfl (cH a 5 ?_)
       by_cases af:(m:Int)<0
       . refine fK a 19 ?_
         refine tN (?_)
         have ap:=T.keep an (P:=(fun u=>decide (cE q.gQ u=(low:Int)))) (by rw[<-F];exact decide_eq_true o_) F
         have ao:l9 (((cE H low).2.take (i+1)).filter (fun u=>decide (cE q.gQ u=(low:Int))))=if l9 (((cE H low).2.take i).filter (fun u=>decide (cE q.gQ u=(low:Int))))<0\/((cE zs i:Nat):Int)<l9 (((cE H low).2.take i).filter (fun u=>decide (cE q.gQ u=(low:Int))))then((cE zs i:Nat):Int)else l9 (((cE H low).2.take i).filter (fun u=>decide (cE q.gQ u=(low:Int)))):=by rw[Ck an,qy,<-F,show List.filter (fun u=>decide (cE q.gQ u=(low:Int))) [cE zs i]=[cE zs i] by rw[Ia (p:=(fun u=>decide (cE q.gQ u=(low:Int)))) (decide_eq_true o_)];rfl];exact KW
         rw[<-aq,if_pos o_]at ao
         exact again ((i+1),(k+1),cO zs k (fun _=>(cE zs i)),(((cE zs i):Nat):Int)) oh (⟨a,ap,ao.symm⟩) o1
       . refine cH a 4 ?_
         by_cases ag:(((cE zs i):Nat):Int)<(m:Int)
         . refine fK a 15 ?_
           refine tN (?_)
           have ap:=T.keep an (P:=(fun u=>decide (cE q.gQ u=(low:Int)))) (by rw[<-F];exact decide_eq_true o_) F
           have ao:l9 (((cE H low).2.take (i+1)).filter (fun u=>decide (cE q.gQ u=(low:Int))))=if l9 (((cE H low).2.take i).filter (fun u=>decide (cE q.gQ u=(low:Int))))<0\/((cE zs i:Nat):Int)<l9 (((cE H low).2.take i).filter (fun u=>decide (cE q.gQ u=(low:Int))))then((cE zs i:Nat):Int)else l9 (((cE H low).2.take i).filter (fun u=>decide (cE q.gQ u=(low:Int)))):=by rw[Ck an,qy,<-F,show List.filter (fun u=>decide (cE q.gQ u=(low:Int))) [cE zs i]=[cE zs i] by rw[Ia (p:=(fun u=>decide (cE q.gQ u=(low:Int)))) (decide_eq_true o_)];rfl];exact KW
           rw[<-aq,if_pos o_]at ao
           exact again ((i+1),(k+1),cO zs k (fun _=>(cE zs i)),(((cE zs i):Nat):Int)) oh (⟨a,ap,ao.symm⟩) o1
         . refine fK a 12 ?_
           refine tN (?_)
           have ap:=T.keep an (P:=(fun u=>decide (cE q.gQ u=(low:Int)))) (by rw[<-F];exact decide_eq_true o_) F
           have ao:l9 (((cE H low).2.take (i+1)).filter (fun u=>decide (cE q.gQ u=(low:Int))))=if l9 (((cE H low).2.take i).filter (fun u=>decide (cE q.gQ u=(low:Int))))<0\/((cE zs i:Nat):Int)<l9 (((cE H low).2.take i).filter (fun u=>decide (cE q.gQ u=(low:Int))))then((cE zs i:Nat):Int)else l9 (((cE H low).2.take i).filter (fun u=>decide (cE q.gQ u=(low:Int)))):=by rw[Ck an,qy,<-F,show List.filter (fun u=>decide (cE q.gQ u=(low:Int))) [cE zs i]=[cE zs i] by rw[Ia (p:=(fun u=>decide (cE q.gQ u=(low:Int)))) (decide_eq_true o_)];rfl];exact KW
           rw[<-aq,if_neg o_]at ao
           exact again ((i+1),(k+1),cO zs k (fun _=>(cE zs i)),m) oh (⟨a,ap,ao.symm⟩) o1
     . refine fK e 12 ?_
       have ap:=T.skip an (P:=(fun u=>decide (cE q.gQ u=(low:Int)))) (by rw[<-F];exact decide_eq_false o_)
       have ao:l9 (((cE H low).2.take (i+1)).filter (fun u=>decide (cE q.gQ u=(low:Int))))=l9 (((cE H low).2.take i).filter (fun u=>decide (cE q.gQ u=(low:Int)))):=by rw[Ck an,qy,<-F,show List.filter (fun u=>decide (cE q.gQ u=(low:Int))) [cE zs i]=[] by rw[List.filter_cons_of_neg (p:=(fun u=>decide (cE q.gQ u=(low:Int)))) (by rw[decide_eq_true_iff];omega)];rfl,sC]
       exact gM ((i+1),k,zs,m) oh (⟨e,ap,aq.trans ao.symm⟩) o1
   . have aA:i=(cE H low).2.length:=by omega
     refine cH au 1 ?_
     rw[aA]at T
     have aJ:=T.done
     have aT:=T.aaU
     rw[aA,sB]at aq
     have aS:=qU (fun u=>decide (cE q.gQ u=(low:Int))) (cE H low).2
     have aK:k<=zs.length:=by omega
     refine fZ au 10 ?_
     have E:St _ [blk bb 293 [q.dv,q.mv,(Za low)],cL fQ q.dv 3 1 q.gQ,cL jd q.mv 37 1 H,cL fL (jL 1 (cE H low).1 0 k) 3 1 (zs.take k),(qd fL 3 (H.eraseIdx low))] C:=St.G6 au (i:=3) rfl f_ aK
     refine ny E 9 fun ah g=>?_
     refine mv (v:=(jL 1 (cE H low).1 0 k)) rfl rfl (cH g 1 ?_)
     refine iz (f:=(fun _=>((jL 1 (cE H low).1 0 k),zs.take k))) 2 g (fun ai t=>?_) (hvs:=(cells_one (yh g (i:=3) rfl))) (h1:=(gD (yh g (i:=3) rfl) je))
     refine cH t 4 ?_
     have G:=ye [3,4,0,1,2] t
     have b:=St.DH G o_
     have ar:gx.left (⟨q.gQ,H.map (·.2),low⟩:gx) low=((cE H low).2.filter (fun u=>decide (cE q.gQ u=(low:Int)))):=by unfold gx.left;show List.filter _ (cE (H.map (·.2)) low)=_;rw[GO aB]
     have av:(cO H low (fun _=>((jL 1 (cE H low).1 0 k),zs.take k))).map (·.2)=cO (H.map (·.2)) low (fun _=>gx.left (⟨q.gQ,H.map (·.2),low⟩:gx) low):=by rw[RY,ar,aJ]
     have ax:gx.ok n ⟨q.gQ,(cO H low (fun _=>((jL 1 (cE H low).1 0 k),zs.take k))).map (·.2),low⟩ c:=by rw[av];exact aF.clean
     refine cH b 1 ?_
     by_cases aj:(m:Int)≥0
     . have aw:((cE H low).2.filter (fun u=>decide (cE q.gQ u=(low:Int)))).length≠0:=fun h=>by have:=KV.2 h;omega
       have az:=ay.trans (gx.ae2 (B:=(⟨q.gQ,H.map (·.2),low⟩:gx)) (by show low<(H.map (·.2)).length;omega) (by rw[ar];exact aw))
       refine cH b 1 ?_
       rw[ar]at az
       have aM:=KO aw
       have aN:qg ((cE H low).2.filter (fun u=>decide (cE q.gQ u=(low:Int))))<n:=aD.2 _ (z7.1 aM).1
       have aC:l9 ((cE H low).2.filter (fun u=>decide (cE q.gQ u=(low:Int))))=((qg ((cE H low).2.filter (fun u=>decide (cE q.gQ u=(low:Int)))):Nat):Int):=if_neg aw
       generalize qg ((cE H low).2.filter (fun u=>decide (cE q.gQ u=(low:Int))))=v at az aN aC
       obtain rfl:m=(v:Int):=aq.trans aC
       refine cH b 13 ?_
       refine gz rfl (kT o_) (cH b 13 ?_)
       refine iz (f:=(fun _ => -1)) (cf:=fQ) 2 b (fun ak I=>?_)
       refine jI I 15 fun al J=>?_
       refine kC (v:=(Za v)) (v' := (Za low)) results96 rfl rfl ?_
       have K:=ye [1,2,3,0] J
       exact .inl ⟨v,(⟨q.dv,q.mv,cO q.gQ v (fun _=>(-1:Int)),(cO H low (fun _=>((jL 1 (cE H low).1 0 k),zs.take k))),low⟩:Bq),rfl,(gx.age az).trans (by rw[ar]at av;rw[<-av];rfl),yk K⟩
     . have aU:m = -1:=by rw[aq];exact if_pos (KV.1 o_)
       have aL:(gx.left (⟨q.gQ,H.map (·.2),low⟩:gx) low).length=0:=by rw[ar];exact KV.1 o_
       have aO:gx.ok n ⟨q.gQ,(cO H low (fun _=>((jL 1 (cE H low).1 0 k),zs.take k))).map (·.2),low+1⟩ c:=⟨ax.dl,ax.dv,ax.mv,by show low+1<=((cO H low (fun _=>((jL 1 (cE H low).1 0 k),zs.take k))).map (·.2)).length;rw[zm,gd];omega⟩
       refine jI b 17 fun am L=>?_
       have M:=ye [1,2,3,0] L
       exact gM ((cO H low (fun _=>((jL 1 (cE H low).1 0 k),zs.take k))),(low+1)) oh (⟨M,ay.trans (gx.ae3 (B:=(⟨q.gQ,H.map (·.2),low⟩:gx)) (by show low<(H.map (·.2)).length;omega) aL |>.trans (by show _=(⟨q.gQ,(cO H low (fun _=>((jL 1 (cE H low).1 0 k),zs.take k))).map (·.2),(low+1)⟩:gx).scan (((cO H low (fun _=>((jL 1 (cE H low).1 0 k),zs.take k))).map (·.2)).length-(low+1));rw[<-av];first|done|rfl)),aO,by rw[gd];exact aI⟩) (by show (cO H low _).length-(low+1)<H.length-low;rw[gd];omega)
 . refine jk d 26 Zz Zc ?_
   exact .inr ⟨(⟨q.dv,q.mv,q.gQ,H,low⟩:Bq),rfl,gx.agc (ay.trans (gx.ae1 (B:=(⟨q.gQ,H.map (·.2),low⟩:gx)) (by show ¬ low<(H.map (·.2)).length;omega))),yk d⟩
theorem afC(F n:Nat)(q:Gr)(es:List Ge)(w:World)(hO:Own (Gr.R F n q es) w)(hn:n<=4096)(hg:lP n es)(hm:es.length<=16384) :
 CR ya 95 (Zg F) w (fun r w' => ∃ (bb:Nat) (q2:Bq),r = .pointer (some ⟨bb,0,none⟩)/\q2.m=gx.init (gU n es) n/\fP (Gr.R F n q es) w w' (fN [(Gr.R F n q es),(Bq.R bb q2)])):=by
 refine gj func95 ?_
 have aE:=yy hO
 refine fM aE 8 ?_
 refine gF 0 aE (BM F n q es w · hn) fun ac J=>?_
 refine kA (cf:=fQ) (z0:=0) (m:=n) (c:=n) rfl rfl rfl yc fU rfl f_ d_ (zh _) o_ o_ J ?_
 intro C K ad ae L
 have t:=St.bR (cf:=fQ) 0 L
 generalize (Value.slice (some ⟨C,0,none⟩) n n)=d at t ⊢
 refine iL (pvs:=[(0,d)]) (v:=.agg #[d,Zh,Zc]) rfl rfl (i6 [(0,[d])] UA adE rfl ⟨rfl,(cells_one (yh t (i:=0) rfl)),trivial⟩ rfl) (gN t (fun g af ag ah o=>?_))
 refine cH o 15 ?_
 refine iA (m:=(List.replicate n 0).length) 1 rfl rfl yc o rfl ?_
 have M:=y0 1 o rfl ((Yb (A:=(gU n es)) (n:=n)).symm)
 have aN:(List.replicate n (0:Int)).length=n:=oK
 refine fZ o 4 ?_
 refine lp (α:=Nat) (fun v=>[(0,(Zb F)),(3,(Zb g)),(4,(Za (lH (gU n es) v:Int))),(17,(Za n)),(18,(Za v))]) (fun v w1=>St [(w,(Gr.R F n q es).gq)] [blk g 293 [d,Zh,Zc],cL fQ d 3 1 (nN (gU n es) n v),(Gr.R F n q es)] w1/\v<=n) (fun v=>n-v) 0 oh (⟨M,o_⟩) ?_
 rintro v ai aj ⟨aC,hv⟩
 have aI:=JU (A:=(gU n es)) (n:=n) (v:=v)
 refine fM aC 2 ?_
 by_cases ak:(v:Int)<(n:Int)
 . have T:v<n:=by omega
   refine fZ aC 16 ?_
   refine jS mixed [([0,1,2,3,4,5,6,7],[3])] [8,9] aC (fun N u=>iY ?_)
   refine cH u 7 ?_
   refine gF 2 u (ZD F n q es N · hn hm v T) fun al y=>?_
   refine fK y 1 ?_
   refine jF (jX ?_)
   refine cH y 1 ?_
   refine iz (f:=(fun _=>((cE (gU n es) v).length:Int))) 1 y (fun am D=>?_)
   refine cH D 3 ?_
   have z:=y0 1 D rfl (Ya (A:=(gU n es)) (n:=n) T)
   have aJ:=JU (A:=(gU n es)) (n:=n) (v:=v+1)
   refine cH z 8 ?_
   refine max2 (a:=(lH (gU n es) v:Int)) (b:=(cE (nN (gU n es) n (v+1)) v)) (c:=(lH (gU n es) (v+1):Int)) rfl rfl rfl (by rw[P9 T,HH];exact RZ) (fK z 8 ?_)
   have aP:=HH (A:=(gU n es)) (v:=v)
   have aH:=P9 (A:=(gU n es)) T
   exact gM (v+1) oh (⟨z,o_⟩) o1
 . have aD:n=v:=by omega
   refine cH aC 1 ?_
   subst aD
   have aO:=MV (A:=(gU n es)) (n:=n) (m:=32768) (fun j hj=>by rw[Bw hj,yX,By hj];have:=v8 (es:=es) hj;omega) (zh n)
   refine cH aC 13 ?_
   refine gL (e:=((lH (gU n es) n+1:Nat):Int)) rfl iX (kA (cf:=jd) (z0:=((.slice none 0 0,[]):Value×List Nat)) (m:=(lH (gU n es) n+1)) (c:=(lH (gU n es) n+1)) rfl rfl rfl HS kF rfl f_ d_ (zh _) o_ o_ aC ?_)
   intro E O an ao P
   have k:=St.bR (cf:=jd) 0 P
   generalize (Value.slice (some ⟨E,0,none⟩) (lH (gU n es) n+1) (lH (gU n es) n+1))=h at k ⊢
   refine cH k 2 ?_
   refine iS 1 k (fun Q p=>?_) (hvs:=(cells_one (yh k (i:=0) rfl))) (h1:=(gD (yh k (i:=0) rfl) je))
   refine cH p 9 ?_
   refine iA (m:=(nN (gU n es) n n).length) 2 rfl rfl yc p rfl ?_
   have S:St _ [(qd fL 3 (List.replicate (lH (gU n es) n+1) ((.slice none 0 0,[]):Value×List Nat))),cL jd h 37 1 (List.replicate (lH (gU n es) n+1) ((.slice none 0 0,[]):Value×List Nat)),blk g 293 [d,h,Zc],cL fQ d 3 1 (nN (gU n es) n n),(Gr.R F n q es)] Q:=St.Gm (lH (gU n es) n+1) p
   have U:=ye [2,3,1,0,4] S
   refine fZ p 4 ?_
   refine lp (α:=Nat×List (Value×List Nat)) (fun(v,H)=>[(3,(Zb g)),(49,d),(50,(Za n)),(51,(Za v))]) (fun(v,H) w1=>St [(w,(Gr.R F n q es).gq)] [blk g 293 [d,h,Zc],cL fQ d 3 1 (nN (gU n es) n n),cL jd h 37 1 H,(qd fL 3 H),(Gr.R F n q es)] w1/\tL (gU n es) n v H/\v<=n) (fun(v,H)=>n-v) (0,(List.replicate (lH (gU n es) n+1) ((.slice none 0 0,[]):Value×List Nat))) oh (⟨U,tL.start,o_⟩) ?_
   rintro⟨v,H⟩ ap aq ⟨ar,hM,hv⟩
   have aG:=hM.1
   have aK:=JU (A:=(gU n es)) (n:=n) (v:=n)
   refine fM ar 2 ?_
   by_cases au:(v:Int)<(n:Int)
   . have T:v<n:=by omega
     have aF:=X9 (A:=(gU n es)) T
     have aL:=HG (A:=(gU n es)) T
     have aM:=hM.len (show (cE (gU n es) v).length<lH (gU n es) n+1 by omega)
     refine cH ar 13 ?_
     refine jf (cf:=fQ) rfl rfl yf rfl (yv ar 1 rfl) (fW om) rfl ?_
     rw[aF]
     refine fZ ar 4 ?_
     have V:=ye [3,0,1,2,4] ar
     have W:=vm ((cE (gU n es) v).length) V o_
     refine jS mixed [([0,1,2,3,4,5,6,7,8,9,10,11,12,13],[3,8,11]),([14],[3])] [15,16] W (fun av G=>iY ?_)
     refine cH G 13 ?_
     refine jB (vs:=(Zd v)) (cs:=(Zd v)) rfl rfl yc fU rfl (by simp[Value.cells]) rfl rfl rfl G (fun X aw ax ay B=>fK B 1 ?_)
     refine jF (iY ?_)
     refine kR (cf:=fL) (ys:=(cE H ((cE (gU n es) v).length)).2) (zs:=[v]) (LL:=fun s=>[iD .i64 (Zu X) 3 ([(v:Int)]),cL fL s 3 1 (((cE H ((cE (gU n es) v).length)).2)++[v]),(qd fL 3 (H.eraseIdx ((cE (gU n es) v).length))),blk g 293 [d,h,Zc],cL fQ d 3 1 (nN (gU n es) n n),cL jd h 37 1 H,(Gr.R F n q es)]) 1 rfl rfl rfl yc fU rfl d_ B rfl (kG B (i:=0) rfl) (fun x hx=>zr.1 (show List.all _ _=true from rfl) x hx) (by simp only[zb,zd,maxLen];omega) (by simp only[zb,zd,maxLen];omega) f_ ?_
     intro s az Y aA
     have l:=ye [1,2,3,4,5,6] Y
     refine fK l 1 ?_
     refine jF (jX ?_)
     refine cH l 1 ?_
     refine iz (f:=(fun _=>(s,(cE H ((cE (gU n es) v).length)).2++[v]))) 4 l (fun aB I=>?_) (hvs:=(cells_one (yh l (i:=0) rfl))) (h1:=(gD (yh l (i:=0) rfl) je))
     refine fK I 7 ?_
     have Z:=St.DH I o_
     have aa:=ye [1,2,3,0,4] Z
     exact gM ((v+1),(cO H ((cE (gU n es) v).length) (fun _=>(s,(cE H ((cE (gU n es) v).length)).2++[v])))) oh (⟨aa,hM.next T rfl,o_⟩) o1
   . refine gm ar 17 (Zb g) ?_
     have aD:n=v:=by omega
     subst aD
     have ab:=yd [_,_,_,_] _ ar
     exact⟨g,(⟨d,h,nN (gU n es) n n,H,0⟩:Bq),rfl,(show gx.mk _ _ _=gx.mk _ _ _ by rw[X8,hM.all];rfl),yj (yd [_,_] _ (lJ ab (List.Perm.swap _ _ _))) za⟩
def Ax:Option Nat->Int
 | none => -1
 | some v=>(v:Int)
def UK(q:Bq):Option Nat->Int
 | none=>0
 | some _=>(q.low:Int)
theorem agD{o:Option Nat}(h:Ax o<0):o=none:=by
 cases o with
 | none=>rfl
 | some v=>exact absurd h (by show ¬ (v:Int)<0;omega)
theorem agE{o:Option Nat}(h:¬ Ax o<0):∃ v,o=some v:=by
 cases o with
 | none=>exact absurd (show (-1:Int)<0 by omega) h
 | some v=>exact⟨v,rfl⟩
abbrev NF(n:Nat)(es:List Ge)(v:Nat)(a:gx)(c:Nat)(x:Nat×Bq):Prop:=x.2.m=a.rS ((cE (gU n es) v).take x.1)/\x.2.m.ok n (c+x.1)/\x.1<=(cE (gU n es) v).length
abbrev yJ(n:Nat)(es:List Ge)(v:Nat)(a:gx)(c:Nat):Type:={x:Nat×Bq // NF n es v a c x}
theorem af8(c:Nat)(q:Bq)(w:World)(e:Own (Bq.R bb q) w)(g:q.m.ok n c)(f:n<=4096)(hc:c<=1000000000) :
 CR ya 96 (Zg bb) w (fun r w' => ∃ (o:Option Nat) (a:Bq),r = .tuple (Zx (Ax o) (UK a o))/\q.m.take=(a.m,o)/\fP (Bq.R bb q) w w' (Bq.R bb a)) :=
 CR.mono (agd bb n c q w e g f hc) fun r w' h=>by
  rcases h with ⟨v,a,rfl,b,d⟩|⟨a,rfl,b,d⟩
  . exact⟨some v,a,rfl,b,d⟩
  . exact⟨none,a,rfl,b,d⟩
theorem aec(f:Nat)(w:World) :
 CR ya 47 (Zg f) w (fun r w' => ∃ g,r = .func (.func 94) #[] (Zg g)/\fP (fN []) w w' (blk g 31 (Ze f))):=by
 refine iE func47 2 fun h=>?_
 refine gN h (fun a c d e b=>?_)
 refine cH b 5 ?_
 refine kW (vf:=[]) (vc:=(Ze a)) rfl rfl rfl (fK b 4 ?_)
 refine gT (v:=(.func (.func 94) #[] (Zg a))) results47 rfl ?_
 exact⟨a,rfl,me b⟩
theorem aeb{γ:Type}(Cl:γ->fJ)(pr:γ->gx)(ct:γ->Nat)(z0:γ)(l kr F n:Nat)(q:Gr)(es:List Ge)(w:World)(hy:∀ (z:γ) (B:gx) (v:Nat) (bs:List (World×List Nat)) (L:List fJ) (w1:World),ct z<n->(pr z).take=(B,some v)->v<n->B.low<=40000->St bs (Cl z :: L) w1->YR ya l (Zm v B.low) w1 (fun v' w' => v' = .bool true/\∃ z2,pr z2=B.rS (cE (gU n es) v)/\ct z2=ct z+1/\St bs (Cl z2 :: L) w'))(a9:ct z0=0)(aX:pr z0=gx.init (gU n es) n)(hO:Own (Fs (Cl z0) kr F n q es) w)(hn:n<=4096)(hg:lP n es)(hm:es.length<=16384) :
 CR ya 94 (Da (.func (.yield l) #[] #[]) kr) w (fun r w' => ∃ z:γ,r = .tuple #[]/\(ct z=n\/∃ B,(pr z).take=(B,none))/\fP (Fs (Cl z0) kr F n q es) w w' (Fs (Cl z) kr F n q es)):=by
 have aT:=OU hg
 have aV:(gx.init (gU n es) n).mem.length<=32769:=by have:=MV (A:=gU n es) (n:=n) (m:=32768) (fun j hj=>by rw[Bw hj,yX,By hj];have:=v8 (es:=es) hj;omega) (zh n);have h2:(gx.init (gU n es) n).mem.length=lH (gU n es) n+1:=(by simp[gx.init,MU,lH]);omega
 refine uc (vs:=[(.func (.yield l) #[] #[]),(Zb kr)]) func94 rfl ntmps94 rfl ?_
 have aJ:=Own.of hO
 refine fM aJ 3 ?_
 refine cl (afC F n q es w (yg aJ 2 rfl) hn hg hm) ?_
 rintro _ al ⟨b,K,rfl,k,ht⟩
 have M:=ye [2,0,1] aJ
 have N:=yp (yt 0 M ht)
 refine ir N (fun d am an ao O=>?_)
 refine gh O 6 fun P C=>?_
 refine gF 1 C (BM F n q es P · hn) fun ap D=>?_
 have Q:=St.Qc D
 have S:=ye [4,5,2,1,3,0] Q
 refine fZ D 4 ?_
 refine RG (α:=Nat×γ×Bq×List Nat) (fun(i,z,q1,dl)=>dl) (fun(i,z,q1,dl)=>[(0,(.func (.yield l) #[] #[])),(1,(Zb kr)),(3,(Zb d)),(11,(Za n)),(12,(Za i))]) (fun(i,z,q1,dl) w1=>St [(w,(Fs (Cl z0) kr F n q es).gq)] [(Cl z),blk kr 31 (Ze F),(Gr.R F n q es),blk d 195 (Ze b),(Bq.R b q1),(ua dl)] w1/\ct z=i/\pr z=q1.m/\q1.m.ok n (32768*i)/\q1.m.mem.length<=32769/\i<=n) (fun(i,z,q1,dl)=>n-i) (0,z0,K,[]) oh (⟨S,a9,aX.trans k.symm,by rw[k,Nat.mul_zero];exact gx.Ky,by rw[k];exact aV,o_⟩) ?_
 rintro⟨i,z,q1,dl⟩ aq U ⟨aB,bc,aP,aH,bf,bd⟩
 refine fM aB 2 ?_
 by_cases ar:(i:Int)<(n:Int)
 . refine cH aB 12 ?_
   refine cl (af8 b n (32768*i) q1 U (yg aB 4 rfl) aH hn o_) ?_
   rintro _ au ⟨o,a,rfl,p,ht⟩
   have f:=yt 4 aB ht
   refine cH f 11 ?_
   by_cases av:(Ax o:Int)<0
   . have aW:=agD (by omega:Ax o<0)
     have V:=ye [5,0,1,2,3,4] f
     refine fK f 17 ?_
     refine Gv _ V ?_
     intro w8 aF
     have W:=ye [0,1,2] aF
     have aM:=p
     rw[aW,<-aP]at aM
     exact⟨_,results_none results94 _ _ _,_,rfl,⟨z,rfl,.inr ⟨_,aM⟩,yk W⟩⟩
   . obtain⟨v,rfl⟩:=agE (by omega:¬ Ax o<0)
     refine cH f 1 ?_
     rw[show Ax (some v)=(v:Int) from rfl,show UK a (some v)=(a.low:Int) from rfl]
     have aK:=aH.take
     have aR:=aH.take_len
     rw[p]at aK aR
     have a6:v<n/\a.low<q1.m.mem.length:=aK.2 v rfl
     have aC:=a6.1
     have aN:a.m.ok n (32768*i):=aK.1
     obtain⟨T,aL⟩:∃ c,32768*i=c:=⟨_,rfl⟩
     rw[aL]at aN
     have bb:T<=200000000:=by omega
     have ba:NF n es v a.m T (0,a):=⟨rfl,aN,ko _⟩
     have bg:a.m.mem.length=q1.m.mem.length:=aR
     have aZ:(pr z).take=(a.m,some v):=by rw[aP];exact p
     refine cH f 4 ?_
     refine yl (vl:=(Zm v a.low)) rfl rfl rfl (hy z a.m v _ _ _ o_ aZ aC (show a.low<=40000 by omega) f) ?_
     rintro _ X ⟨rfl,s,Y,aw,E⟩
     refine cH E 11 ?_
     refine cl (QH F v X) ?_
     rintro _ ax ⟨g,h,rfl,ht⟩
     have G:=yp (y9 E ht)
     have aD:(cE (gU n es) v)=iZ n es v:=Bw aC
     have be:(cE (gU n es) v).length<=32768:=by rw[aD,yX,By aC];have:=v8 (es:=es) aC;omega
     have Z:=ye [5,6,0,1,4,2,3,7] G
     refine fZ G 3 ?_
     refine rf (α:=yJ n es v a.m T) (ps:=[31,32]) (fi:=[]) (ca:=(Zy g h)) (fun x=>[blk d 195 (Ze b),(Bq.R b x.1.2),blk g 31 (Ze F),blk h 3 (Zd v),(Gr.R F n q es),(Cl s),blk kr 31 (Ze F),(ua dl)]) (fun x=>x.1.1=(iZ n es v).length) Z rfl eN ?_ ?_
     . intro fn dd l wl rc aI a4
       have aa:=ye [0,2,3,1,4,5,6,7,8,9] a4
       have aY:=yd (Ff (gK l rc) d b a) [jy dd (some []),blk g 31 (Ze F),blk h 3 (Zd v),(Gr.R F n q es),(Cl s),blk kr 31 (Ze F),(ua dl)] aa
       have aQ:rc.state = .ready:=by rw[aI]
       have a1:rc.pending=none:=by rw[aI]
       have a2:∀ (z:yJ n es v a.m T) (bs:List (World×List Nat)) (L:List fJ) (w1:World),z.1.1<(iZ n es v).length->St bs ((fN (Ff (gK l rc) d b z.1.2)) :: L) w1->YR ya l (Zm (((cE (iZ n es v) (z.1.1)).e:Nat):Int) (((cE (iZ n es v) (z.1.1)).t:Nat):Int)) w1 (fun rv w' => rv = .bool true/\∃ z2:yJ n es v a.m T,z2.1.1=z.1.1+1/\St bs ((fN (Ff (gK l rc) d b z2.1.2)) :: L) w'):=by
        intro x bs LT wr aE aG
        have aG:=aG.unpack
        have aU:(cE (gU n es) v).length=(iZ n es v).length:=congrArg List.length aD
        have aE:x.1.1<(cE (gU n es) v).length:=Nat.lt_of_lt_of_eq aE aU.symm
        have bh:=x.2.2.2
        have aS:(cE (iZ n es v) x.1.1).t<n:=(congrArg (fun l:List Lk=>(cE l x.1.1).t) aD)▸aT.t v aC _ (mu aE)
        refine tq (vl:=(Zm (((cE (iZ n es v) x.1.1).e:Nat):Int) (((cE (iZ n es v) x.1.1).t:Nat):Int))) 0 aI aG rfl rfl rfl (jh aG 3 ?_)
        refine tN (tW 0 aG rfl aQ rfl (fun ab u=>fM u 4 ?_))
        refine cl (abB b n (T+x.1.1) x.1.2 ab (yg u 2 rfl) x.2.2.1 hn o_ ((cE (iZ n es v) x.1.1).t) aS) ?_
        rintro _ ay ⟨y,rfl,H,ht⟩
        have I:=yt 2 u ht
        refine fK I 2 ?_
        refine qa 0 I rfl aQ a1 rfl ?_
        intro az ac
        have a7:y.m=gx.rS a.m ((cE (gU n es) v).take (x.1.1+1)):=by rw[gx.abE aE,<-x.2.1,show cE (cE (gU n es) v) x.1.1=cE (iZ n es v) x.1.1 from congrArg (fun l:List Lk=>cE l x.1.1) aD];exact H
        have a8:y.m.ok n (T+(x.1.1+1)):=by rw[H];exact x.2.2.1.lose aS
        exact⟨_,rfl,rfl,(⟨(x.1.1+1,y),a7,a8,aE⟩:yJ n es v a.m T),rfl,yd [_,_,_] _ ac⟩
       have ad:=lJ aY (List.Perm.cons _ (List.Perm.swap _ _ _))
       have ae:=ye [0,1,3,4,2,5,6,7] ad
       have aO:=yd [_,_,_,_] _ ae
       refine CR.mono (QG (fun(x:yJ n es v a.m T)=>fN (Ff (gK l rc) d b x.1.2)) (fun x:yJ n es v a.m T=>x.1.1) (⟨(0,a),ba⟩:yJ n es v a.m T) l g h F n q es v wl a2 rfl (yg aO 0 rfl) hn hg hm aC) ?_
       rintro _ w9 ⟨x,-,a0,a5⟩
       have aF:=yp (yw aO a5)
       have a3:=aF
       have af:=ye [0,6,1,2,3,4,5,7,8,9] a3
       exact⟨x,a0,af⟩
     . rintro x dd aA hC J
       refine rX tt none J 7 ?_
       refine tN (?_)
       have ag:=ye [0,8,1,2,3,4,5,6,7] J
       have ah:=St.Qd ag
       have ai:=ye [6,7,5,1,2,0] ah
       exact OX ((i+1),s,x.1.2,(dd :: dl)) oh (⟨ai,o_,(Y.trans (by rw[x.2.1,hC,<-aD,sB])),(x.2.2.1.more (by rw[Nat.mul_succ,aL];omega)),(by rw[x.2.1,gx.RF];omega),o_⟩) o1
 . skip
   have aj:=ye [5,0,1,2,3,4] aB
   refine fK aB 9 ?_
   refine Gv _ aj ?_
   intro w8 aF
   have ak:=ye [0,1,2] aF
   exact⟨_,results_none results94 _ _ _,_,rfl,⟨z,rfl,.inl o_,yk ak⟩⟩
theorem acO(F n:Nat)(q:Gr)(es:List Ge)(w:World)(hO:Own (Gr.R F n q es) w)(hn:n<=4096)(hg:lP n es)(hm:es.length<=16384) :
 CR ya 15 (Zg F) w (fun r w' => ∃ v:Value,v=r/\fP (Gr.R F n q es) w w' (fN [(Gr.R F n q es),cL fL v 3 1 (zW (gU n es) n)])):=by
 refine uc (vs:=(Ze F)) func15 rfl ntmps15 rfl ?_
 have aq:=yy hO
 refine fM aq 8 ?_
 refine gF 0 aq (BM F n q es w · hn) fun U A=>?_
 refine kA (cf:=fL) (z0:=0) (m:=n) (c:=n) rfl rfl rfl yc fU rfl f_ d_ (zh _) o_ o_ A ?_
 intro o C V W D
 have p:St _ [cL fL (.slice (some ⟨o,0,none⟩) n n) 3 1 (List.replicate n 0),(Gr.R F n q es)] C:=mR (cf:=fL) D (i:=0) rfl f_ (zh _) (by simp only[maxLen];omega)
 generalize (Value.slice (some ⟨o,0,none⟩) n n)=d at p ⊢
 refine ir p (fun e X Y Z k=>?_)
 refine iS 0 k (fun aa s=>?_) (hvs:=(cells_one (yh k (i:=1) rfl))) (h1:=(gD (yh k (i:=1) rfl) je))
 refine cH s 4 ?_
 refine ir s (fun g ab ac ad E=>?_)
 refine gh E 7 fun G H=>?_
 refine cl (aec F G) ?_
 rintro _ ae ⟨j,rfl,ht⟩
 have t:=(y9 H ht)
 have I:=ye [2,3,1,0,4] t
 refine fZ t 3 ?_
 refine rf (α:={z:Nat×lQ // nj (gU n es) n z.1 z.2/\z.2.top<=40000}) (ps:=[12,13]) (fi:=[]) (ca:=(Ze j)) (fun z=>[blk e 37 [d],cL fL d 3 1 z.1.2.num,blk g 3 (Zd z.1.2.top),blk j 31 (Ze F),(Gr.R F n q es)]) (fun z=>z.1.1=n\/∃ B,z.1.2.b.take=(B,none)) I rfl eN ?_ ?_
 . intro fn dd l wl rc al az
   have J:=ye [0,2,3,4,1,5,6] az
   have au:=yd [gK l rc,blk e 37 [d],cL fL d 3 1 (List.replicate n 0),blk g 3 Bt] [jy dd (some []),blk j 31 (Ze F),(Gr.R F n q es)] J
   have ap:rc.state = .ready:=by rw[al]
   have aw:rc.pending=none:=by rw[al]
   have ax:∀ (z:{z:Nat×lQ // nj (gU n es) n z.1 z.2/\z.2.top<=40000}) (B:gx) (v:Nat) (bs:List (World×List Nat)) (L:List fJ) (w1:World),z.1.1<n->(z.1.2.b).take=(B,some v)->v<n->B.low<=40000->St bs ((fN (IU (gK l rc) e d z.1.2 g)) :: L) w1->YR ya l (Zm v B.low) w1 (fun v' w' => v' = .bool true/\∃ z2:{z:Nat×lQ // nj (gU n es) n z.1 z.2/\z.2.top<=40000},z2.1.2.b=B.rS (cE (gU n es) v)/\z2.1.1=z.1.1+1/\St bs ((fN (IU (gK l rc) e d z2.1.2 g)) :: L) w'):=by
    intro z B v bs LT wr ak an aD aB T
    have T:=T.unpack
    have aC:=z.2.1.2.2
    have ak:z.1.1<n:=ak
    have an:z.1.2.b.take=(B,some v):=an
    refine tq (vl:=(Zm v B.low)) 0 al T rfl rfl rfl (jh T 8 ?_)
    refine tN (tW 0 T rfl ap rfl (fun af u=>fM u 5 ?_))
    refine max2 (a:=(z.1.2.top:Int)) (b:=(B.low:Int)) (c:=((max z.1.2.top B.low:Nat):Int)) rfl rfl rfl o_ (gh u 8 fun ag K=>?_)
    refine iz (f:=(fun _=>(max z.1.2.top B.low))) 2 K (fun ah x=>?_)
    refine fK x 2 ?_
    refine qa 0 x rfl ap aw rfl ?_
    intro ai M
    exact⟨_,rfl,rfl,(⟨(z.1.1+1,⟨B.rS (cE (gU n es) v),max z.1.2.top B.low,cO z.1.2.num v (fun _=>max z.1.2.top B.low)⟩),nj.next z.2.1 ak an,by have:=z.2.2;show max z.1.2.top B.low<=40000;omega⟩:{z:Nat×lQ // nj (gU n es) n z.1 z.2/\z.2.top<=40000}),rfl,rfl,yd [_,_,_,_] _ M⟩
   have N:=lJ au (List.Perm.cons _ (List.Perm.swap _ _ _))
   have O:=ye [0,1,3,2] N
   have ao:=yd [_,_,_] _ O
   refine CR.mono (aeb (fun(z:{z:Nat×lQ // nj (gU n es) n z.1 z.2/\z.2.top<=40000})=>fN (IU (gK l rc) e d z.1.2 g)) (fun z:{z:Nat×lQ // nj (gU n es) n z.1 z.2/\z.2.top<=40000}=>z.1.2.b) (fun z:{z:Nat×lQ // nj (gU n es) n z.1 z.2/\z.2.top<=40000}=>z.1.1) (⟨(0,⟨gx.init (gU n es) n,0,List.replicate n 0⟩),nj.start,ko _⟩:{z:Nat×lQ // nj (gU n es) n z.1 z.2/\z.2.top<=40000}) l j F n q es wl ax rfl rfl (yg ao 0 rfl) hn hg hm) ?_
   rintro _ w9 ⟨z,-,av,aA⟩
   have am:=yp (yw ao aA)
   have ay:=am
   have P:=ye [0,6,1,2,3,4,5] ay
   exact⟨z,av,P⟩
 . rintro z dd aj hC y
   have ar:z.1.2.num=zW (gU n es) n:=hC.elim (fun h=>nj.all (show nj (gU n es) n n z.1.2 from by have h9:=z.2.1;rw[h]at h9;exact h9)) (fun⟨B,h⟩=>z.2.1.stop h)
   refine rX tt none y 9 ?_
   refine uU 0 y rfl rfl ?_
   intro w8 am
   have Q:=ye [5,2] am
   have S:=y0 1 Q rfl (ar)
   exact⟨_,results_tmp results15 _ _ _,_,rfl,by rw[ox];exact⟨d,rfl,yk S⟩⟩
def A7(n:Nat)(es:List Ge)(ys:List Int):Prop:=∃ l,(Nz n es l/\(∀ x∈l,0<=x/\x<(es.length:Int))/\l.length<=n)/\ys.Perm l/\nr ys ys.length
theorem A7.uS{n:Nat}{es:List Ge}(h:A7 n es ys)(hk:k<ys.length):0<=cE ys k/\cE ys k<(es.length:Int):=by
 obtain⟨l,a,b,_⟩:=h
 exact a.2.1 _ (b.subset (mu hk))
theorem A7.len{n:Nat}{es:List Ge}(h:A7 n es ys):ys.length<=n:=by
 obtain⟨l,a,b,_⟩:=h
 rw[b.length_eq];exact a.2.2
def vh(L:List Lv)(ys:List Int)(k:Nat):List Int:=(ys.take k).map fun i=>(cE L i.toNat).seq
theorem afF{L:List Lv}(h:k<ys.length):vh L ys (k+1)=vh L ys k++[(cE L (cE ys k).toNat).seq]:=by
 unfold vh
 rw[nY,fW h,ni]
 rfl
theorem afE{L:List Lv}:(vh L ys k).length<=k:=by
 unfold vh
 rw[zm,zw]
 omega
theorem WH(x n:Nat)(q:Gr)(es:List Ge)(w:World)(z:Own (Gr.R x n q es) w)(E:n<=12)(A:lP n es)(hm:es.length<=16384) :
 CR ya 10 (Zg x) w (fun r w' => ∃ (v:Value) (ys:List Int),v=r/\A7 n es ys/\fP (Gr.R x n q es) w w' (fN [(Gr.R x n q es),cL fQ v 3 1 ys])):=by
 refine gj func10 ?_
 have y:=yy z
 have B:n<=4096:=by omega
 refine fM y 7 ?_
 refine ir y (fun a d s t e=>?_)
 refine cH e 5 ?_
 refine kW (vf:=[]) (vc:=(Ze a)) rfl rfl rfl ?_
 have i:=nU e 3 1
 have j:=ye [2,1,0] i
 have f:=yd [_,_,_] _ j
 refine cl (WJ a x n q es Zh d (yg f 0 rfl) B A hm) ?_
 rintro _ k ⟨b,C,rfl,g,l⟩
 have c:=(yw f l)
 have D:=g.2.2
 refine cH c 5 ?_
 refine cl (TP b C k (yg c 2 rfl) o_) ?_
 rintro _ u ⟨m,rfl,o,ht⟩
 have h:=yt 2 c ht
 refine gm h 9 b ?_
 have p:=ye [0,2] h
 exact⟨b,m,rfl,⟨_,g,o⟩,yk p⟩
theorem ahh(c:WC)(T F:Nat)(s:WW)(w:World)(hO:Own (Z7 T F c s) w)(aj:c.de<=12) :
 CR ya 13 (Zg T) w (fun r w' => ∃ (v:Value) (K:List Int) (L:List Lv) (es:List Ge) (ys:List Int),v=r/\((s.u.oc K/\s.u.lX L/\mE K L es L.length)/\A7 K.length es ys)/\fP (Z7 T F c s) w w' (fN [(Z7 T F c s),cL iB v 39 1 (vh L ys ys.length)])):=by
 refine ja func13 hO 9 fun ai=>?_
 refine gF 0 ai (Cq T F w ·) fun z l=>?_
 refine cH l 12 ?_
 refine cl (B8 c F s z (yg l 1 rfl) aj) ?_
 rintro _ A ⟨U,B,f,g,b,n,rfl,d,ht⟩
 have C:=ye [1,0] l
 have e:=yp (yt 0 C ht)
 have ae:=oV (yg e 0 rfl)
 have af:=mE.DE ae.2.1 d.2.1 d.2.2
 have ao:=d.1.len ae.2.1 ae.2.2
 have ap:=d.2.1.len ae.2.1
 have an:=d.2.2.len
 have am:=ae.1.en
 refine cH e 12 ?_
 refine iA (m:=g.length) 1 rfl rfl yx e rfl (cH e 1 ?_)
 refine cl (DF B g.length n A (yv e 2 rfl).any af o_ o_) ?_
 rintro _ D ⟨E,G,rfl,ht⟩
 have o:=(y9 e ht)
 refine cH o 16 ?_
 refine cl (WH E g.length G n D (yg o 0 rfl) o_ af o_) ?_
 rintro _ H ⟨h,a,rfl,p,ht⟩
 have q:=yp (yt 0 o ht)
 refine iA (m:=a.length) 1 rfl rfl yc q rfl ?_
 have I:=ye [6,2,5,1] q
 have ak:=p.len
 have J:=nU I 39 1
 refine fZ q 4 ?_
 refine lp (α:=Nat×Value) (fun(k,uv)=>[(5,f),(8,uv),(31,h),(32,(Za a.length)),(33,(Za k))]) (fun(k,uv) w1=>St [(w,(Z7 T F c s).gq)] [cL iB uv 39 1 (vh b a k),blk T 108 (yU F),(WW.R c F s),cL Lv.cells f 43 7 b,cL fQ h 3 1 a] w1/\k<=a.length) (fun(k,uv)=>a.length-k) (0,Zh) oh (⟨J,o_⟩) ?_
 rintro⟨k,uv⟩ V W ⟨ad,hk⟩
 have aq:=afE (L:=b) (ys:=a) (k:=k)
 refine fM ad 2 ?_
 by_cases X:(k:Int)<(a.length:Int)
 . have ag:k<a.length:=by omega
   have al:=p.uS ag
   refine cH ad 20 ?_
   refine iH (cf:=Lv.cells) (k:=(cE a k).toNat) (i:=(cE a k)) rfl rfl rfl qu o7 (yv ad 3 rfl) o_ o_ (fW om) (cH ad 2 ?_)
   refine jB (vs:=(Zw ((cE b ((cE a k).toNat)).seq))) (cs:=(Zw ((cE b ((cE a k).toNat)).seq))) rfl rfl yx jm rfl (by simp[Value.cells]) rfl rfl rfl ad (fun M Y Z aa t=>kR (cf:=iB) (ys:=(vh b a k)) (zs:=[(cE b ((cE a k).toNat)).seq]) (LL:=fun j=>[iD .u64 (Zu M) 39 ([(cE b ((cE a k).toNat)).seq]),cL iB j 39 1 ((vh b a k)++[(cE b ((cE a k).toNat)).seq]),blk T 108 (yU F),(WW.R c F s),cL Lv.cells f 43 7 b,cL fQ h 3 1 a]) 1 rfl rfl rfl yx jm rfl d_ t rfl (kG t (i:=0) rfl) (fun x hx=>zr.1 (show List.all _ _=true from rfl) x hx) (by simp only[zb,zd,maxLen];omega) (by simp only[zb,zd,maxLen];omega) f_ ?_)
   intro j ab N ac
   have y:=ye [1,2,3,4,5] N
   refine fK y 8 ?_
   have O:=y0 0 y rfl ((afF ag).symm)
   exact gM ((k+1),j) oh (⟨O,o_⟩) o1
 . refine gm ad 17 uv ?_
   have ah:k=a.length:=by omega
   have P:=ye [1,2,0] ad
   have Q:=y0 2 P rfl (show _=(vh b a a.length) by rw[ah])
   have S:=yd [_,_] _ Q
   exact⟨uv,g,b,n,a,rfl,⟨d,p⟩,yk S⟩
theorem ahl(c:WC)(bb E:Nat)(s:WW)(w:World)(H:Own (Z7 bb E c s) w)(J:c.de<=12) :
 CR ya 11 (Zg bb) w (fun r w' => ∃ (v G:Value) (K:List Int) (L:List Lv) (es:List Ge),r = .tuple #[v,G]/\(s.u.oc K/\s.u.lX L/\mE K L es L.length)/\fP (Z7 bb E c s) w w' (fN [(Z7 bb E c s),cL iB v 39 1 K,cL fL G 3 1 (zW (gU K.length es) K.length)])):=by
 refine ja func11 H 10 fun I=>?_
 refine gF 0 I (Cq bb E w ·) fun k e=>?_
 refine cH e 12 ?_
 refine cl (B8 c E s k (yg e 1 rfl) J) ?_
 rintro _ l ⟨h,n,A,d,o,f,rfl,a,ht⟩
 have p:=ye [1,0] e
 have b:=yp (yt 0 p ht)
 have C:=oV (yg b 0 rfl)
 have F:=mE.DE C.2.1 a.2.1 a.2.2
 have O:=a.1.len C.2.1 C.2.2
 have P:=a.2.1.len C.2.1
 have N:=a.2.2.len
 have M:=C.1.en
 refine cH b 12 ?_
 refine iA (m:=d.length) 1 rfl rfl yx b rfl (cH b 1 ?_)
 refine cl (DF n d.length f l (yv b 2 rfl).any F o_ o_) ?_
 rintro _ q ⟨t,x,rfl,ht⟩
 have g:=(y9 b ht)
 refine cH g 11 ?_
 refine cl (acO t d.length x f q (yg g 0 rfl) o_ F o_) ?_
 rintro _ B ⟨i,rfl,ht⟩
 have j:=yp (yt 0 g ht)
 refine jk j 5 h i ?_
 have y:=ye [6,2,3,1] j
 have z:=yd [_,_] _ y
 exact⟨h,i,d,o,f,rfl,a,yk z⟩
theorem BT.one(t:BT):t.ptr.oneCell' = true:=by cases t<;>rfl
theorem BT.GZ{t:BT}(h:0<t.ht):∃ b l x k r,t=BT.nd b l x k r:=by
 rcases t with _|⟨b,l,x,k,r⟩
 . exact absurd h d_
 . exact⟨b,l,x,k,r,rfl⟩
theorem sV(t:BT)(w:World)(o:Own (gw 422 t) w) :
 CQ ya 331 #[t.ptr] w (.tuple (C5 t.sz t.dc t.ht)) (gw 422 t):=by
 refine gj func331 ?_
 have n:=yy o
 refine fM n 10 ?_
 refine mv (v:=t.ptr) rfl rfl ?_
 obtain⟨f,e⟩:∃ q,t=q:=⟨_,rfl⟩
 rcases f with _|⟨g,b,l,h,d⟩
 . skip
   subst e
   refine mG (a:=none) (c:=true) rfl rfl rfl nG rfl (fK n 12 ?_)
   refine r0 (v:=Zc) (v' := Zc) (v'' := Zc) results331 rfl rfl rfl ?_
   exact⟨rfl,iM n⟩
 . skip
   subst e
   have i:=qo n
   refine mG (a:=some ⟨g,0,none⟩) (c:=false) rfl rfl rfl nG rfl (jI i 25 fun m j=>?_)
   refine r0 (v:=(Za ((h+b.sz+d.sz:Nat):Int))) (v' := (Za ((1+b.dc+d.dc:Nat):Int))) (v'' := (Za ((max b.ht d.ht+1:Nat):Int))) results331 rfl rfl rfl ?_
   have k:=tD j
   exact⟨rfl,iM k⟩
theorem Bz(t:Nat)(s1 s2 s3:Value)(w:World)(I:Own (Fu b l.ptr r.ptr x t s1 s2 s3 (gw 422 l) (gw 422 r)) w)(hs:t+l.sz+r.sz<=1000000)(hd:1+l.dc+r.dc<=1000000) :
 CR ya 332 (Zg b) w (fun L w' => L = .tuple #[]/\fP (Fu b l.ptr r.ptr x t s1 s2 s3 (gw 422 l) (gw 422 r)) w w' (gw 422 (.nd b l x t r))):=by
 refine gj func332 ?_
 have K:=Own.of I
 have M:=l.BR
 have N:=r.BR
 refine sPP K 31 fun k d=>?_
 refine qn 3 (iF (fM d 13 ?_))
 refine mO (i:=0) rfl rfl rfl yo nG rfl jW d_ rfl (kq (v:=l.ptr) rfl rfl (cH d 4 ?_))
 refine mv (v:=l.ptr) rfl rfl (cl (sV l k (yg d 1 rfl)) ?_)
 rintro _ z ⟨rfl,ht⟩
 have g:=yt 1 d ht
 refine cH g 16 ?_
 refine gL (e:=((t+l.sz:Nat):Int)) rfl ((kX o_).trans o_) (gh g 12 fun A m=>?_)
 refine gL (e:=((1+l.dc:Nat):Int)) rfl ((kX o_).trans o_) (gh m 12 fun B n=>?_)
 refine max2 (a:=0) (b:=(l.ht:Int)) (c:=((max 0 l.ht:Nat):Int)) rfl rfl rfl o_ (jI n 10 fun o f=>?_)
 refine tN (iF (fM f 13 ?_))
 refine mO (i:=1) rfl rfl rfl yo nG rfl jW d_ rfl (kq (v:=r.ptr) rfl rfl (cH f 4 ?_))
 refine mv (v:=r.ptr) rfl rfl (cl (sV r o (yg f 2 rfl)) ?_)
 rintro _ C ⟨rfl,ht⟩
 have h:=yt 2 f ht
 refine cH h 16 ?_
 refine gL (e:=(((t+l.sz)+r.sz:Nat):Int)) rfl ((kX o_).trans o_) (gh h 12 fun D p=>?_)
 refine gL (e:=(((1+l.dc)+r.dc:Nat):Int)) rfl ((kX o_).trans o_) (gh p 12 fun E q=>?_)
 refine max2 (a:=((max 0 l.ht:Nat):Int)) (b:=(r.ht:Int)) (c:=((max (max 0 l.ht) r.ht:Nat):Int)) rfl rfl rfl o_ (jI q 10 fun G j=>?_)
 refine tN (iF (fM j 17 ?_))
 refine gL (e:=(((max (max 0 l.ht) r.ht)+1:Nat):Int)) rfl ((kX o_).trans o_) (jI j 4 fun H s=>?_)
 refine lZ results332 ?_
 have J:max (max 0 l.ht) r.ht+1=max l.ht r.ht+1:=by omega
 have F:=s
 rw[J]at F
 have u:=F
 have y:=tD u
 exact⟨rfl,iM y⟩
theorem Js(c:Nat)(l m r:BT)(x y:Int)(t u:Nat)(s1 s2 s3 q v z:Value)(w:World)(D:Own (Ol b c r.ptr x t s1 s2 s3 l.ptr m.ptr y u q v z (gw 422 l) (gw 422 m) (gw 422 r)) w)(hs:t+u+l.sz+m.sz+r.sz<=1000000)(hd:2+l.dc+m.dc+r.dc<=1000000) :
 CR ya 354 (Z1 b) w (fun F w' => F = .pointer (some ⟨c,0,none⟩)/\fP (Ol b c r.ptr x t s1 s2 s3 l.ptr m.ptr y u q v z (gw 422 l) (gw 422 m) (gw 422 r)) w w' (gw 422 (BT.nd c l y u (BT.nd b m x t r)))):=by
 refine ja func354 D 11 fun E=>?_
 refine ia (o:=0) (o' := 0) (i:=0) rfl rfl rfl yo jW d_ rfl (gh E 13 fun A a=>?_)
 refine ia (o:=0) (o' := 1) (i:=1) rfl rfl rfl yo jW d_ rfl (cH a 3 ?_)
 refine ia (o:=0) (o' := 0) (i:=0) rfl rfl rfl yo jW d_ rfl (iS 0 a (fun B d=>?_) (hvs:=(cells_one (BT.one _))) (h1:=(gD (BT.one _) je)))
 refine cH d 10 ?_
 refine ia (o:=0) (o' := 1) (i:=1) rfl rfl rfl yo jW d_ rfl (gh d 6 fun j k=>?_)
 have n:=ye [0,3,4,1,2] k
 have e:=yd [_,_,_] _ n
 refine gF 0 e (Bz b m r x t s1 s2 s3 j · (by(try simp only[BT.sz,BT.dc]);omega) (by(try simp only[BT.sz,BT.dc]);omega)) fun p f=>?_
 have s:=ye [1,2,0] f
 have g:=yd [_,_,_] _ s
 refine cH f 5 ?_
 refine gF 0 g (Bz c l (BT.nd b m x t r) y u q v z p · (by(try simp only[BT.sz,BT.dc]);omega) (by(try simp only[BT.sz,BT.dc]);omega)) fun C h=>?_
 refine gm h 9 (Zb c) ?_
 exact⟨rfl,iM h⟩
theorem Jt(c:Nat)(l m r:BT)(x y:Int)(t u:Nat)(s1 s2 s3 q v z:Value)(w:World)(D:Own (Om b r.ptr c x t s1 s2 s3 l.ptr m.ptr y u q v z (gw 422 l) (gw 422 m) (gw 422 r)) w)(hs:t+u+l.sz+m.sz+r.sz<=1000000)(hd:2+l.dc+m.dc+r.dc<=1000000) :
 CR ya 354 #[(Zb b),qY] w (fun F w' => F = .pointer (some ⟨c,0,none⟩)/\fP (Om b r.ptr c x t s1 s2 s3 l.ptr m.ptr y u q v z (gw 422 l) (gw 422 m) (gw 422 r)) w w' (gw 422 (BT.nd c (BT.nd b r x t l) y u m))):=by
 refine ja func354 D 11 fun E=>?_
 refine ia (o:=0) (o' := 1) (i:=1) rfl rfl rfl yo jW d_ rfl (gh E 13 fun A a=>?_)
 refine ia (o:=0) (o' := 0) (i:=0) rfl rfl rfl yo jW d_ rfl (cH a 3 ?_)
 refine ia (o:=0) (o' := 1) (i:=1) rfl rfl rfl yo jW d_ rfl (iS 0 a (fun B d=>?_) (hvs:=(cells_one (BT.one _))) (h1:=(gD (BT.one _) je)))
 refine cH d 10 ?_
 refine ia (o:=0) (o' := 0) (i:=0) rfl rfl rfl yo jW d_ rfl (gh d 6 fun j k=>?_)
 have n:=ye [0,4,2,1,3] k
 have e:=yd [_,_,_] _ n
 refine gF 0 e (Bz b r l x t s1 s2 s3 j · (by(try simp only[BT.sz,BT.dc]);omega) (by(try simp only[BT.sz,BT.dc]);omega)) fun p f=>?_
 have s:=ye [1,0,2] f
 have g:=yd [_,_,_] _ s
 refine cH f 5 ?_
 refine gF 0 g (Bz c (BT.nd b r x t l) m y u q v z p · (by(try simp only[BT.sz,BT.dc]);omega) (by(try simp only[BT.sz,BT.dc]);omega)) fun C h=>?_
 refine gm h 9 (Zb c) ?_
 exact⟨rfl,iM h⟩
theorem wZ(t:Nat)(s1 s2 s3:Value)(w:World)(hO:Own (Fu b l.ptr r.ptr x t s1 s2 s3 (gw 422 l) (gw 422 r)) w)(hs:t+l.sz+r.sz<=1000000)(hd:1+l.dc+r.dc<=1000000) :
 CR ya 334 (Zg b) w (fun r' w' => ∃ T:BT,r' = T.ptr/\T.kv=l.kv++(x,t) :: r.kv/\fP (Fu b l.ptr r.ptr x t s1 s2 s3 (gw 422 l) (gw 422 r)) w w' (gw 422 T)):=by
 refine gj func334 ?_
 have F:=Own.of hO
 have ah:=l.BR
 have aq:=r.BR
 refine oW F 12 ?_
 refine qn 3 (iF (fM F 23 ?_))
 refine ia (o:=0) (o' := 0) (i:=0) rfl rfl rfl yo jW d_ rfl (cH F 1 ?_)
 refine kq (v:=l.ptr) rfl rfl (cH F 4 ?_)
 refine mv (v:=l.ptr) rfl rfl (cl (sV l w (yg F 1 rfl)) ?_)
 rintro _ af ⟨rfl,ht⟩
 have I:=yt 1 F ht
 refine cH I 16 ?_
 refine ia (o:=0) (o' := 1) (i:=1) rfl rfl rfl yo jW d_ rfl (cH I 1 ?_)
 refine gF 2 I (sV r af ·) fun O k=>?_
 refine cH k 15 ?_
 by_cases aQ:(l.ht:Int)<=((r.ht:Int)+1:Int)
 . refine fK k 12 ?_
   refine tN (iF (fM k 23 ?_))
   refine ia (o:=0) (o' := 1) (i:=1) rfl rfl rfl yo jW d_ rfl (cH k 1 ?_)
   refine kq (v:=r.ptr) rfl rfl (cH k 4 ?_)
   refine mv (v:=r.ptr) rfl rfl (cl (sV r O (yg k 2 rfl)) ?_)
   rintro _ ag ⟨rfl,ht⟩
   have J:=yt 2 k ht
   refine cH J 16 ?_
   refine ia (o:=0) (o' := 0) (i:=0) rfl rfl rfl yo jW d_ rfl (cH J 1 ?_)
   refine gF 1 J (sV l ag ·) fun P C=>?_
   refine cH C 15 ?_
   by_cases aR:(r.ht:Int)<=((l.ht:Int)+1:Int)
   . refine fK C 12 ?_
     refine tN (iF ?_)
     have Q:=yd [_,_,_] _ C
     refine fM C 15 ?_
     refine gF 0 Q (Bz b l r x t s1 s2 s3 P · (by(try simp only[BT.sz,BT.dc]);omega) (by(try simp only[BT.sz,BT.dc]);omega)) fun aS R=>?_
     refine gm R 9 (Zb b) ?_
     exact⟨(BT.nd b l x t r),rfl,by simp only[BT.kv,z6,pW,pX],iM R⟩
   . obtain⟨m,p,q,h,a,rfl⟩:=BT.GZ (show 0<r.ht by omega)
     have ai:=ye [2,0,1] C
     have K:=qo ai
     refine cH C 8 ?_
     (try simp only[BT.sz,BT.dc]at hs hd)
     refine cH K 5 ?_
     refine ia (o:=0) (o' := 0) (i:=0) rfl rfl rfl yo jW d_ rfl (cH K 1 ?_)
     refine gF 1 K (sV p P ·) fun aj L=>?_
     refine cH L 15 ?_
     refine ia (o:=0) (o' := 1) (i:=1) rfl rfl rfl yo jW d_ rfl (cH L 1 ?_)
     refine gF 2 L (sV a aj ·) fun ak G=>?_
     refine cH G 14 ?_
     by_cases aT:(p.ht:Int)>(a.ht:Int)
     . obtain⟨A,d,D,s,e,rfl⟩:=BT.GZ (show 0<p.ht by omega)
       have al:=ye [1,0,2,3,4] G
       have am:=qo al
       refine cH G 1 ?_
       (try simp only[BT.sz,BT.dc]at hs hd)
       refine gh am 9 fun an ao=>?_
       have ap:=ye [3,0,1,2,4,5,6] ao
       have S:=yd [_,_,_,_,_] _ ap
       refine gF 0 S (Js m A d e a q D h s (Za ((h+(BT.nd A d D s e).sz+a.sz:Nat):Int)) (Za ((1+(BT.nd A d D s e).dc+a.dc:Nat):Int)) (Za ((max (BT.nd A d D s e).ht a.ht+1:Nat):Int)) (Za ((s+d.sz+e.sz:Nat):Int)) (Za ((1+d.dc+e.dc:Nat):Int)) (Za ((max d.ht e.ht+1:Nat):Int)) an · (by(try simp only[BT.sz,BT.dc]);omega) (by(try simp only[BT.sz,BT.dc]);omega)) fun aU U=>?_
       refine cH U 2 ?_
       refine ia (o:=0) (o' := 1) (i:=1) rfl rfl rfl yo jW d_ rfl (gh U 7 fun ar au=>?_)
       have av:=qo au
       have aw:=ye [3,0,1,2,4] av
       have V:=yd [_,_,_,_,_] _ aw
       refine gF 0 V (Jt b A d (BT.nd m e q h a) l x D t s s1 s2 s3 (Za ((s+d.sz+(BT.nd m e q h a).sz:Nat):Int)) (Za ((1+d.dc+(BT.nd m e q h a).dc:Nat):Int)) (Za ((max d.ht (BT.nd m e q h a).ht+1:Nat):Int)) ar · (by(try simp only[BT.sz,BT.dc]);omega) (by(try simp only[BT.sz,BT.dc]);omega)) fun aV W=>?_
       refine gm W 9 (Zb A) ?_
       exact⟨(BT.nd A (BT.nd b l x t d) D s (BT.nd m e q h a)),rfl,by simp only[BT.kv,z6,pW,pX],iM W⟩
     . skip
       have ay:=ye [3,0,1,2,4] G
       have X:=yd [_,_,_,_,_] _ ay
       refine cH G 10 ?_
       refine gF 0 X (Jt b m p a l x q t h s1 s2 s3 (Za ((h+p.sz+a.sz:Nat):Int)) (Za ((1+p.dc+a.dc:Nat):Int)) (Za ((max p.ht a.ht+1:Nat):Int)) ak · (by(try simp only[BT.sz,BT.dc]);omega) (by(try simp only[BT.sz,BT.dc]);omega)) fun aW Y=>?_
       refine gm Y 9 (Zb m) ?_
       exact⟨(BT.nd m (BT.nd b l x t p) q h a),rfl,by simp only[BT.kv,z6,pW,pX],iM Y⟩
 . obtain⟨n,c,u,j,y,rfl⟩:=BT.GZ (show 0<l.ht by omega)
   have aA:=ye [1,0,2] k
   have M:=qo aA
   refine cH k 8 ?_
   (try simp only[BT.sz,BT.dc]at hs hd)
   refine cH M 5 ?_
   refine ia (o:=0) (o' := 1) (i:=1) rfl rfl rfl yo jW d_ rfl (cH M 1 ?_)
   refine gF 2 M (sV y O ·) fun aB N=>?_
   refine cH N 15 ?_
   refine ia (o:=0) (o' := 0) (i:=0) rfl rfl rfl yo jW d_ rfl (cH N 1 ?_)
   refine gF 1 N (sV c aB ·) fun aC H=>?_
   refine cH H 14 ?_
   by_cases aX:(y.ht:Int)>(c.ht:Int)
   . obtain⟨B,f,E,z,g,rfl⟩:=BT.GZ (show 0<y.ht by omega)
     have aD:=ye [2,0,1,3,4] H
     have aE:=qo aD
     refine cH H 1 ?_
     (try simp only[BT.sz,BT.dc]at hs hd)
     refine gh aE 9 fun aF aG=>?_
     have aH:=ye [3,0,1,2,4,5,6] aG
     have Z:=yd [_,_,_,_,_] _ aH
     refine gF 0 Z (Jt n B f g c u E j z (Za ((j+c.sz+(BT.nd B f E z g).sz:Nat):Int)) (Za ((1+c.dc+(BT.nd B f E z g).dc:Nat):Int)) (Za ((max c.ht (BT.nd B f E z g).ht+1:Nat):Int)) (Za ((z+f.sz+g.sz:Nat):Int)) (Za ((1+f.dc+g.dc:Nat):Int)) (Za ((max f.ht g.ht+1:Nat):Int)) aF · (by(try simp only[BT.sz,BT.dc]);omega) (by(try simp only[BT.sz,BT.dc]);omega)) fun aY aa=>?_
     refine cH aa 2 ?_
     refine ia (o:=0) (o' := 0) (i:=0) rfl rfl rfl yo jW d_ rfl (gh aa 7 fun aJ aK=>?_)
     have aL:=qo aK
     have aM:=ye [3,0,1,2,4] aL
     have ab:=yd [_,_,_,_,_] _ aM
     refine gF 0 ab (Js b B (BT.nd n c u j f) g r x E t z s1 s2 s3 (Za ((z+(BT.nd n c u j f).sz+g.sz:Nat):Int)) (Za ((1+(BT.nd n c u j f).dc+g.dc:Nat):Int)) (Za ((max (BT.nd n c u j f).ht g.ht+1:Nat):Int)) aJ · (by(try simp only[BT.sz,BT.dc]);omega) (by(try simp only[BT.sz,BT.dc]);omega)) fun aZ ac=>?_
     refine gm ac 9 (Zb B) ?_
     exact⟨(BT.nd B (BT.nd n c u j f) E z (BT.nd b g x t r)),rfl,by simp only[BT.kv,z6,pW,pX],iM ac⟩
   . skip
     have aO:=ye [3,0,1,2,4] H
     have ad:=yd [_,_,_,_,_] _ aO
     refine cH H 10 ?_
     refine gF 0 ad (Js b n c y r x u t j s1 s2 s3 (Za ((j+c.sz+y.sz:Nat):Int)) (Za ((1+c.dc+y.dc:Nat):Int)) (Za ((max c.ht y.ht+1:Nat):Int)) aC · (by(try simp only[BT.sz,BT.dc]);omega) (by(try simp only[BT.sz,BT.dc]);omega)) fun a0 ae=>?_
     refine gm ae 9 (Zb n) ?_
     exact⟨(BT.nd n c u j (BT.nd b y x t r)),rfl,by simp only[BT.kv,z6,pW,pX],iM ae⟩
def ET(s:BT)(w:World)(r:Value)(w' : World):Prop:=∃ (b0:Nat) (c:Int) (b:Nat) (d e s1 s2 s3:Value) (a:BT),r = .tuple (yO b0 a.ptr)/\s.kv=(c,b) :: a.kv/\fP (gw 422 s) w w' (fN [blk b0 422 [d,e,.int .i64 c,.int .i64 (b:Int),s1,s2,s3],gw 422 a])
def wM(f:Nat->Nat)(x:Int)(b:Nat)(t:BT)(w:World)(r:Value)(w' : World):Prop:=∃ a:BT,r=a.ptr/\a.kv=j5 f x t.kv/\fP (uJ (gw 422 t) b) w w' (uJ (gw 422 a) b)
theorem Rh{t:BT}{b:Int}{a:Nat}(h:s.kv=(b,a) :: t.kv):s.sz=a+t.sz/\s.dc=1+t.dc:=by
 rw[s.lG,s.zB,t.lG,t.zB,h]
 exact⟨rfl,Nat.add_comm _ _⟩
theorem BT.of_lt{t:BT}(h:0<t.dc):∃ b l x k r,t=BT.nd b l x k r:=by
 rcases t with _|⟨b,l,x,k,r⟩
 . exact absurd h d_
 . exact⟨b,l,x,k,r,rfl⟩
theorem Wh(t:Nat)(w:World)(Z:Own (gw 422 (BT.nd b l x t r)) w)(hs:(BT.nd b l x t r).sz<=1000000)(hd:(BT.nd b l x t r).dc<=1000000)(ih:∀ (b2:Nat) (F S:BT) (U:Int) (T:Nat) (V:World),Own (gw 422 (BT.nd b2 F U T S)) V->(BT.nd b2 F U T S).sz<=1000000->(BT.nd b2 F U T S).dc<=1000000->(BT.nd b2 F U T S).dc<(BT.nd b l x t r).dc->CR ya 353 (Zg b2) V (ET (BT.nd b2 F U T S) V)) :
 CR ya 353 (Zg b) w (ET (BT.nd b l x t r) w):=by
 refine gj func353 ?_
 have ac:=yy Z
 have e:=qo ac
 have Y:=hs
 have X:=hd
 simp only[BT.sz,BT.dc]at Y X
 refine fM e 12 ?_
 refine ia (o:=0) (o' := 0) (i:=0) rfl rfl rfl yo jW d_ rfl ?_
 obtain⟨C,s⟩:∃ q,l=q:=⟨_,rfl⟩
 refine cH e 1 ?_
 rcases C with _|⟨d,f,g,h,j⟩
 . skip
   subst s
   refine mG (a:=none) (c:=true) rfl rfl rfl nG rfl (gh e 9 fun P k=>?_)
   refine ia (o:=0) (o' := 1) (i:=1) rfl rfl rfl yo jW d_ rfl (cH k 2 ?_)
   refine kq (v:=r.ptr) rfl rfl (fK k 4 ?_)
   refine kC (v:=(Zb b)) (v' := r.ptr) results353 rfl rfl ?_
   have D:=ye [1,0,2] k
   have E:=St.WQ D
   exact⟨b,x,t,_,_,_,_,_,r,rfl,rfl,yk E⟩
 . skip
   subst s
   have G:=ye [1,0,2] e
   have H:=qo G
   (try simp only[BT.sz,BT.dc]at Y X)
   refine mG (a:=some ⟨d,0,none⟩) (c:=false) rfl rfl rfl nG rfl (gh H 11 fun I u=>?_)
   refine ia (o:=0) (o' := 0) (i:=0) rfl rfl rfl yo jW d_ rfl ?_
   have y:=tD u
   refine cH u 1 ?_
   refine cl (ih d f j g h I (yg y 0 rfl) (by(try simp only[BT.sz,BT.dc]);omega) (by(try simp only[BT.sz,BT.dc]);omega) (by simp only[BT.dc];omega)) ?_
   rintro _ Q ⟨W,ae,ad,af,ag,ah,ai,aj,J,rfl,z,ht⟩
   have A:=yp (yt 0 y ht)
   refine cH A 6 ?_
   refine ia (o:=0) (o' := 0) (i:=0) rfl rfl rfl yo jW d_ rfl (iS 2 A (fun K m=>?_) (hvs:=(cells_one (BT.one _))) (h1:=(gD (BT.one _) je)))
   obtain⟨ab,aa⟩:=Rh z
   refine cH m 4 ?_
   (try simp only[BT.sz,BT.dc]at ab aa)
   have L:=ye [2,1,3,0] m
   have B:=yd [_,_,_] _ L
   refine cH m 2 ?_
   refine cl (wZ b J r x t (Za ((t+(BT.nd d f g h j).sz+r.sz:Nat):Int)) (Za ((1+(BT.nd d f g h j).dc+r.dc:Nat):Int)) (Za ((max (BT.nd d f g h j).ht r.ht+1:Nat):Int)) K (yg B 0 rfl) (by(try simp only[BT.sz,BT.dc]);omega) (by(try simp only[BT.sz,BT.dc]);omega)) ?_
   rintro _ R ⟨n,rfl,M,N⟩
   have p:=(yt 0 B N)
   refine cH p 1 ?_
   refine kq (v:=n.ptr) rfl rfl (fK p 3 ?_)
   refine kC (v:=(Zb W)) (v' := n.ptr) results353 rfl rfl ?_
   have O:=ye [1,0] p
   exact⟨W,ae,ad,_,_,_,_,_,n,rfl,by rw[M,BT.kv,z];rfl,yk O⟩
theorem Wg(s:BT)(w:World)(a:Own (gw 422 s) w)(hs:s.sz<=1000000)(hd:s.dc<=1000000)(c:0<s.dc):CR ya 353 #[s.ptr] w (ET s w):=by
 have key:∀ (n:Nat) (b:Nat) (l r:BT) (x:Int) (t:Nat) (w:World),Own (gw 422 (BT.nd b l x t r)) w->(BT.nd b l x t r).sz<=1000000->(BT.nd b l x t r).dc<=1000000->(BT.nd b l x t r).dc<n->CR ya 353 (Zg b) w (ET (BT.nd b l x t r) w):=by
  intro n
  induction n with
  | zero=>exact fun _ _ _ _ _ _ _ _ _ h=>absurd h (wF _)
  | succ n g=>exact fun b l r x t w a hs hd p=>Wh b l r x t w a hs hd fun b2 i j o k m d f e q=>g b2 i j o k m d f e o_
 obtain⟨b,l,x,t,r,rfl⟩:=BT.of_lt c
 exact key _ b l r x t w a hs hd (AX _)
theorem Wy(a c:BT)(w:World)(U:Own (fN [gw 422 a,gw 422 c]) w)(hs:a.sz+c.sz<=1000000)(hd:a.dc+c.dc<=1000000) :
 CR ya 333 #[a.ptr,c.ptr] w (fun X w' => ∃ Q:BT,X = Q.ptr/\Q.kv=a.kv++c.kv/\fP (fN [gw 422 a,gw 422 c]) w w' (gw 422 Q)):=by
 refine gj func333 ?_
 have F:=Own.of U
 have S:=hs
 have R:=hd
 refine fM F 8 ?_
 refine mv (v:=a.ptr) rfl rfl ?_
 obtain⟨x,h⟩:∃ q,a=q:=⟨_,rfl⟩
 rcases x with _|⟨b,i,j,k,l⟩
 . skip
   subst h
   refine mG (a:=none) (c:=true) rfl rfl rfl nG rfl (cH F 5 ?_)
   refine mv (v:=c.ptr) rfl rfl (kq (v:=c.ptr) rfl rfl (fK F 4 ?_))
   refine gT (v:=c.ptr) results333 rfl ?_
   have y:=ye [1] F
   exact⟨c,rfl,by simp only[BT.kv,sC,pX],iM y⟩
 . skip
   subst h
   have f:=qo F
   (try simp only[BT.sz,BT.dc]at S R)
   refine mG (a:=some ⟨b,0,none⟩) (c:=false) rfl rfl rfl nG rfl (cH f 8 ?_)
   refine mv (v:=c.ptr) rfl rfl ?_
   obtain⟨z,m⟩:∃ q,c=q:=⟨_,rfl⟩
   rcases z with _|⟨n,A,B,C,D⟩
   . skip
     subst m
     refine mG (a:=none) (c:=true) rfl rfl rfl nG rfl (fK f 11 ?_)
     refine gT (v:=(Zb b)) results333 rfl ?_
     have E:=tD f
     have G:=ye [0] E
     exact⟨(BT.nd b i j k l),rfl,by simp only[BT.kv,sC,pX],iM G⟩
   . skip
     subst m
     have H:=ye [3,0,1,2] f
     have o:=qo H
     (try simp only[BT.sz,BT.dc]at S R)
     refine mG (a:=some ⟨n,0,none⟩) (c:=false) rfl rfl rfl nG rfl ?_
     have p:=tD o
     refine cH o 8 ?_
     refine cl (Wg (BT.nd n A B C D) w (yg p 0 rfl) (by(try simp only[BT.sz,BT.dc]);omega) (by(try simp only[BT.sz,BT.dc]);omega) (by simp only[BT.dc];omega)) ?_
     rintro _ O ⟨T,ac,ab,ad,ae,Y,Z,aa,d,rfl,r,ht⟩
     have e:=yp (yt 0 p ht)
     refine cH e 4 ?_
     refine kq (v:=d.ptr) rfl rfl ?_
     obtain⟨W,V⟩:=Rh r
     refine cH e 4 ?_
     (try simp only[BT.sz,BT.dc]at W V)
     refine cH e 2 ?_
     refine mv (v:=d.ptr) rfl rfl (iL (pvs:=[(0,(Zb b)),(1,d.ptr)]) (v:=.agg (yO b d.ptr)) rfl rfl (uN [(0,(Ze b)),(1,[d.ptr])] MR yo jW rfl ⟨rfl,rfl,rfl,(cells_one (BT.one _)),trivial⟩ rfl s_) (cH e 2 ?_))
     refine iS 0 e (fun I s=>?_) (h1:=(gD rfl (gD (BT.one _) je)))
     have J:=ye [2,3,4,0,1] s
     have K:=tD J
     have L:=ye [1,0,2] K
     have t:=yd [_,_,_] _ L
     refine cH s 5 ?_
     refine cl (wZ T (BT.nd b i j k l) d ac ab Y Z aa I (yg t 0 rfl) (by(try simp only[BT.sz,BT.dc]);omega) (by(try simp only[BT.sz,BT.dc]);omega)) ?_
     rintro _ P ⟨g,rfl,M,N⟩
     have u:=(yt 0 t N)
     refine kq (v:=g.ptr) rfl rfl (fK u 3 ?_)
     refine gT (v:=g.ptr) results333 rfl ?_
     exact⟨g,rfl,by rw[M,r],iM u⟩
theorem Pa(c:Own (E2 b) w)(d:bb<=1000000) :
 CQ ya 297 (yM bb b) w (.int .i64 ((bb+1:Nat):Int)) (E2 b):=by
 refine gj func297 ?_
 have a:=yy c
 refine fM a 9 ?_
 refine gL (e:=((bb+1:Nat):Int)) rfl ((kX o_).trans o_) (fK a 4 ?_)
 refine gT (v:=(Za ((bb+1:Nat):Int))) results297 rfl ?_
 exact⟨rfl,iM a⟩
theorem WN(c:Own (E2 b) w)(f:bb<=1000000)(d:0<bb) :
 CQ ya 310 (yM bb b) w (.int .i64 ((bb-1:Nat):Int)) (E2 b):=by
 refine gj func310 ?_
 have a:=yy c
 refine fM a 9 ?_
 refine gL (e:=((bb-1:Nat):Int)) rfl ((kX o_).trans o_) (fK a 4 ?_)
 refine gT (v:=(Za ((bb-1:Nat):Int))) results310 rfl ?_
 exact⟨rfl,iM a⟩
theorem zS{x:Int}:∀ {L:List (Int×Nat)},mW (j5 (· - 1) x L)<=mW L+1
 | []=>by rw[j5];exact ko _
 | p :: L=>by
  have a:=zS (x:=x) (L:=L)
  unfold j5
  split
  . exact Nat.le_succ _
  . split
    . rw[rU,rU];omega
    . split
      . rw[rU];omega
      . rw[rU,rU];show p.2-1+_<=_;omega
theorem KX{x:Int}:∀ {L:List (Int×Nat)},mW (j5 (· + 1) x L)<=mW L+1
 | []=>by rw[j5];exact zh _
 | p :: L=>by
  have a:=KX (x:=x) (L:=L)
  unfold j5
  split
  . rw[if_neg o_,rU];show 0+1+_<=_;omega
  . split
    . rw[rU,rU];omega
    . rw[if_neg o_,rU,rU];show p.2+1+_<=_;omega
theorem WU(t:BT)(x:Int)(F:Nat)(w:World)(hO:Own (uJ (gw 422 t) F) w)(hb:jq t.kv)(hs:t.sz<=999000)(ih:∀ (t2:BT) (w2:World),t2.dc<t.dc->Own (uJ (gw 422 t2) F) w2->jq t2.kv->t2.sz<=999000->CR ya 296 (E6 t2.ptr x F) w2 (wM (· + 1) x F t2 w2)) :
 CR ya 296 (E6 t.ptr x F) w (wM (· + 1) x F t w):=by
 refine gj func296 ?_
 have aa:=Own.of hO
 have aM:=hs
 refine fM aa 8 ?_
 refine mv (v:=t.ptr) rfl rfl ?_
 obtain⟨W,B⟩:∃ q,t=q:=⟨_,rfl⟩
 rcases W with _|⟨l,b,g,h,d⟩
 . skip
   subst B
   refine mG (a:=none) (c:=true) rfl rfl rfl nG rfl (cH aa 6 ?_)
   refine lR (fi:=[]) (ca:=(Ze F)) rfl rfl rfl eN (Pa 0 F w (yg aa 1 rfl) o_) ?_
   rintro _ aw ⟨rfl,ht⟩
   have p:=yt 1 aa ht
   refine cH p 7 ?_
   refine gz rfl (uO o_) (cH p 9 ?_)
   refine iL (pvs:=[(1,(Za x)),(2,(Za ((0+1:Nat):Int)))]) (v:=.agg #[Zq,Zq,(Za x),(Za ((0+1:Nat):Int)),Zc,Zc,Zc]) rfl rfl (i6 [(1,(Zd x)),(2,(Zd ((0+1:Nat):Int)))] UJ adK rfl oh rfl) (gN p (fun k r ax ay C=>?_))
   have X:St _ [(gw 422 BT.nil),blk k 422 (OB x ((0+1:Nat):Int)),(gw 422 BT.nil),blk F 3 yT] r:=St.Jv C
   have Y:St _ [(gw 422 BT.nil),(gw 422 BT.nil),blk k 422 (OB x ((0+1:Nat):Int)),(gw 422 BT.nil),blk F 3 yT] r:=St.Jv X
   have Z:=ye [2,0,1,3,4] Y
   have D:=yd [_,_,_] _ Z
   refine cH C 6 ?_
   refine gF 0 D (Bz k BT.nil BT.nil x (0+1) Zc Zc Zc r · (by(try simp only[BT.sz,BT.dc]);omega) (by(try simp only[BT.sz,BT.dc]);omega)) fun az E=>?_
   refine gm E 10 (Zb k) ?_
   have ab:=ye [0,2] E
   exact⟨(BT.nd k BT.nil x (0+1) BT.nil),rfl,rfl,yk ab⟩
 . skip
   subst B
   have j:=qo aa
   have T:jq (b.kv++(g,h) :: d.kv):=hb
   have aI:=T.left
   have aJ:=T.right
   have aO:=BT.q8 aI
   have aP:=BT.q8 aJ
   have aQ:0<h:=T.2 (g,h) s_
   (try simp only[BT.sz]at aM)
   refine mG (a:=some ⟨l,0,none⟩) (c:=false) rfl rfl rfl nG rfl (cH j 14 ?_)
   by_cases aA:(x:Int)<(g:Int)
   . refine gh j 10 fun ac G=>?_
     refine ia (o:=0) (o' := 0) (i:=0) rfl rfl rfl yo jW d_ rfl ?_
     have ad:=ye [1,3,0,2] G
     have H:=yd [_,_] _ ad
     refine cH G 3 ?_
     refine cl (ih b ac (by simp only[BT.dc];omega) (yg H 0 rfl) aI o_) ?_
     rintro _ aB ⟨m,rfl,s,ae⟩
     have I:=(yw H ae)
     have aK:jq m.kv:=s▸rj aI
     have aL:=BT.q8 aK
     have aN:m.sz<=b.sz+1:=by rw[m.lG,b.lG,s];exact KX
     refine cH I 2 ?_
     refine ia (o:=0) (o' := 0) (i:=0) rfl rfl rfl yo jW d_ rfl (iS 2 I (fun af J=>?_) (hvs:=(cells_one (BT.one _))) (h1:=(gD (BT.one _) je)))
     have ag:=ye [2,0,3,1] J
     have K:=yd [_,_,_] _ ag
     refine cH J 6 ?_
     refine cl (wZ l m d g h (Za ((h+b.sz+d.sz:Nat):Int)) (Za ((1+b.dc+d.dc:Nat):Int)) (Za ((max b.ht d.ht+1:Nat):Int)) af (yg K 0 rfl) (by(try simp only[BT.sz,BT.dc]);omega) (by(try simp only[BT.sz,BT.dc]);omega)) ?_
     rintro _ aC ⟨u,rfl,ah,ai⟩
     have L:=(yt 0 K ai)
     refine kq (v:=u.ptr) rfl rfl (fK L 3 ?_)
     refine gT (v:=u.ptr) AJ rfl ?_
     exact⟨u,rfl,by rw[ah,s];exact(RM T.lo (show x<g by omega)).symm,yk L⟩
   . refine cH j 12 ?_
     by_cases aD:(x:Int)>(g:Int)
     . refine gh j 10 fun aj M=>?_
       refine ia (o:=0) (o' := 1) (i:=1) rfl rfl rfl yo jW d_ rfl ?_
       have ak:=ye [2,3,0,1] M
       have N:=yd [_,_] _ ak
       refine cH M 3 ?_
       refine cl (ih d aj (by simp only[BT.dc];omega) (yg N 0 rfl) aJ o_) ?_
       rintro _ aE ⟨n,rfl,y,al⟩
       have O:=(yw N al)
       have aK:jq n.kv:=y▸rj aJ
       have aL:=BT.q8 aK
       have aN:n.sz<=d.sz+1:=by rw[n.lG,d.lG,y];exact KX
       refine cH O 2 ?_
       refine ia (o:=0) (o' := 1) (i:=1) rfl rfl rfl yo jW d_ rfl (iS 2 O (fun am P=>?_) (hvs:=(cells_one (BT.one _))) (h1:=(gD (BT.one _) je)))
       have an:=ye [2,3,0,1] P
       have Q:=yd [_,_,_] _ an
       refine cH P 6 ?_
       refine cl (wZ l b n g h (Za ((h+b.sz+d.sz:Nat):Int)) (Za ((1+b.dc+d.dc:Nat):Int)) (Za ((max b.ht d.ht+1:Nat):Int)) am (yg Q 0 rfl) (by(try simp only[BT.sz,BT.dc]);omega) (by(try simp only[BT.sz,BT.dc]);omega)) ?_
       rintro _ aF ⟨z,rfl,ao,ap⟩
       have R:=(yt 0 Q ap)
       refine kq (v:=z.ptr) rfl rfl (fK R 3 ?_)
       refine gT (v:=z.ptr) AJ rfl ?_
       exact⟨z,rfl,by rw[ao,y];exact(RQ (fun q hq=>Int.lt_trans (T.lo q hq) (show g<x by omega)) (show g<x by omega)).symm,yk R⟩
     . refine cH j 13 ?_
       refine lR (fi:=[]) (ca:=(Ze F)) rfl rfl rfl eN (Pa h F w (yg j 3 rfl) o_) ?_
       rintro _ aG ⟨rfl,ht⟩
       have aq:=yt 3 j ht
       refine gh aq 11 fun ar S=>?_
       refine gz rfl (uO o_) ?_
       have U:=yd [_,_,_] _ S
       refine cH S 9 ?_
       refine cl (wZ l b d g (h+1) (Za ((h+b.sz+d.sz:Nat):Int)) (Za ((1+b.dc+d.dc:Nat):Int)) (Za ((max b.ht d.ht+1:Nat):Int)) ar (yg U 0 rfl) (by(try simp only[BT.sz,BT.dc]);omega) (by(try simp only[BT.sz,BT.dc]);omega)) ?_
       rintro _ aH ⟨A,rfl,au,av⟩
       have V:=(yt 0 U av)
       refine kq (v:=A.ptr) rfl rfl (fK V 3 ?_)
       refine gT (v:=A.ptr) AJ rfl ?_
       exact⟨A,rfl,by have e:x=g:=o_;subst e;rw[au];exact(RP (f:=(· + 1)) T.lo (by show (_:Nat)+1≠0;omega)).symm,yk V⟩
theorem WT(a:Nat):∀ (t:BT) (w:World),Own (uJ (gw 422 t) a) w->jq t.kv->t.sz<=999000->CR ya 296 (E6 t.ptr x a) w (wM (· + 1) x a t w):=by
 have key:∀ (n:Nat) (t:BT) (w:World),t.dc<n->Own (uJ (gw 422 t) a) w->jq t.kv->t.sz<=999000->CR ya 296 (E6 t.ptr x a) w (wM (· + 1) x a t w):=by
  intro n
  induction n with
  | zero=>exact fun _ _ h=>absurd h (wF _)
  | succ n c=>exact fun t w g b hb hs=>WU t x a w b hb hs fun d e f=>c d e o_
 exact fun t w=>key _ t w (AX _)
theorem W2(t:BT)(x:Int)(F:Nat)(w:World)(hO:Own (uJ (gw 422 t) F) w)(hb:jq t.kv)(hs:t.sz<=999000)(hc:0<t.cnt x)(ih:∀ (t2:BT) (w2:World),t2.dc<t.dc->Own (uJ (gw 422 t2) F) w2->jq t2.kv->t2.sz<=999000->0<t2.cnt x->CR ya 296 (E7 t2.ptr x F) w2 (wM (· - 1) x F t2 w2)) :
 CR ya 296 (E7 t.ptr x F) w (wM (· - 1) x F t w):=by
 refine gj func296 ?_
 have aF:=Own.of hO
 have aH:=hs
 refine fM aF 8 ?_
 refine mv (v:=t.ptr) rfl rfl ?_
 obtain⟨k,b,g,h,d,rfl⟩:=BT.acR hc
 have j:=qo aF
 have T:jq (b.kv++(g,h) :: d.kv):=hb
 have aC:=T.left
 have aD:=T.right
 have aJ:=BT.q8 aC
 have aK:=BT.q8 aD
 have aL:0<h:=T.2 (g,h) s_
 (try simp only[BT.sz]at aH)
 refine mG (a:=some ⟨k,0,none⟩) (c:=false) rfl rfl rfl nG rfl (cH j 14 ?_)
 by_cases aq:(x:Int)<(g:Int)
 . refine gh j 10 fun S B=>?_
   refine ia (o:=0) (o' := 0) (i:=0) rfl rfl rfl yo jW d_ rfl ?_
   have U:=ye [1,3,0,2] B
   have C:=yd [_,_] _ U
   refine cH B 3 ?_
   refine cl (ih b S (by simp only[BT.dc];omega) (yg C 0 rfl) aC o_ (BT.XK hc (show x<g by omega))) ?_
   rintro _ ar ⟨l,rfl,n,V⟩
   have D:=(yw C V)
   have aE:jq l.kv:=n▸rj aC
   have aG:=BT.q8 aE
   have aI:l.sz<=b.sz+1:=by rw[l.lG,b.lG,n];exact zS
   refine cH D 2 ?_
   refine ia (o:=0) (o' := 0) (i:=0) rfl rfl rfl yo jW d_ rfl (iS 2 D (fun W E=>?_) (hvs:=(cells_one (BT.one _))) (h1:=(gD (BT.one _) je)))
   have X:=ye [2,0,3,1] E
   have G:=yd [_,_,_] _ X
   refine cH E 6 ?_
   refine cl (wZ k l d g h (Za ((h+b.sz+d.sz:Nat):Int)) (Za ((1+b.dc+d.dc:Nat):Int)) (Za ((max b.ht d.ht+1:Nat):Int)) W (yg G 0 rfl) (by(try simp only[BT.sz,BT.dc]);omega) (by(try simp only[BT.sz,BT.dc]);omega)) ?_
   rintro _ au ⟨p,rfl,Y,Z⟩
   have H:=(yt 0 G Z)
   refine kq (v:=p.ptr) rfl rfl (fK H 3 ?_)
   refine gT (v:=p.ptr) AJ rfl ?_
   exact⟨p,rfl,by rw[Y,n];exact(RM T.lo (show x<g by omega)).symm,yk H⟩
 . refine cH j 12 ?_
   by_cases av:(x:Int)>(g:Int)
   . refine gh j 10 fun aa I=>?_
     refine ia (o:=0) (o' := 1) (i:=1) rfl rfl rfl yo jW d_ rfl ?_
     have ab:=ye [2,3,0,1] I
     have J:=yd [_,_] _ ab
     refine cH I 3 ?_
     refine cl (ih d aa (by simp only[BT.dc];omega) (yg J 0 rfl) aD o_ (BT.XM hc (show g<x by omega))) ?_
     rintro _ aw ⟨m,rfl,r,ac⟩
     have K:=(yw J ac)
     have aE:jq m.kv:=r▸rj aD
     have aG:=BT.q8 aE
     have aI:m.sz<=d.sz+1:=by rw[m.lG,d.lG,r];exact zS
     refine cH K 2 ?_
     refine ia (o:=0) (o' := 1) (i:=1) rfl rfl rfl yo jW d_ rfl (iS 2 K (fun ad L=>?_) (hvs:=(cells_one (BT.one _))) (h1:=(gD (BT.one _) je)))
     have ae:=ye [2,3,0,1] L
     have M:=yd [_,_,_] _ ae
     refine cH L 6 ?_
     refine cl (wZ k b m g h (Za ((h+b.sz+d.sz:Nat):Int)) (Za ((1+b.dc+d.dc:Nat):Int)) (Za ((max b.ht d.ht+1:Nat):Int)) ad (yg M 0 rfl) (by(try simp only[BT.sz,BT.dc]);omega) (by(try simp only[BT.sz,BT.dc]);omega)) ?_
     rintro _ ax ⟨s,rfl,af,ag⟩
     have N:=(yt 0 M ag)
     refine kq (v:=s.ptr) rfl rfl (fK N 3 ?_)
     refine gT (v:=s.ptr) AJ rfl ?_
     exact⟨s,rfl,by rw[af,r];exact(RQ (fun q hq=>Int.lt_trans (T.lo q hq) (show g<x by omega)) (show g<x by omega)).symm,yk N⟩
   . refine cH j 13 ?_
     refine lR (fi:=[]) (ca:=(Ze F)) rfl rfl rfl eN (WN h F w (yg j 3 rfl) o_ o_) ?_
     rintro _ ay ⟨rfl,ht⟩
     have ah:=yt 3 j ht
     refine gh ah 11 fun ai u=>?_
     by_cases az:((h-1:Nat):Int)=0
     . refine gh u 9 fun aj y=>?_
       refine ia (o:=0) (o' := 0) (i:=0) rfl rfl rfl yo jW d_ rfl (cH y 4 ?_)
       refine ia (o:=0) (o' := 1) (i:=1) rfl rfl rfl yo jW d_ rfl ?_
       have ak:=ye [1,2,0,3] y
       have O:=yd [_,_] _ ak
       refine cH y 1 ?_
       refine cl (Wy b d aj (yg O 0 rfl) o_ o_) ?_
       rintro _ aA ⟨z,rfl,al,am⟩
       have P:=(yt 0 O am)
       refine kq (v:=z.ptr) rfl rfl (fK P 5 ?_)
       refine gT (v:=z.ptr) AJ rfl ?_
       have an:=ye [0,2] P
       exact⟨z,rfl,by have e:x=g:=o_;subst e;rw[al];exact(abP T.lo (by show _-1=0;omega)).symm,yk an⟩
     . have Q:=yd [_,_,_] _ u
       refine cH u 10 ?_
       refine cl (wZ k b d g (h-1) (Za ((h+b.sz+d.sz:Nat):Int)) (Za ((1+b.dc+d.dc:Nat):Int)) (Za ((max b.ht d.ht+1:Nat):Int)) ai (yg Q 0 rfl) (by(try simp only[BT.sz,BT.dc]);omega) (by(try simp only[BT.sz,BT.dc]);omega)) ?_
       rintro _ aB ⟨A,rfl,ao,ap⟩
       have R:=(yt 0 Q ap)
       refine kq (v:=A.ptr) rfl rfl (fK R 3 ?_)
       refine gT (v:=A.ptr) AJ rfl ?_
       exact⟨A,rfl,by have e:x=g:=o_;subst e;rw[ao];exact(RP (f:=(· - 1)) T.lo (by show (_:Nat)-1≠0;omega)).symm,yk R⟩
theorem W1(a:Nat):∀ (t:BT) (w:World),Own (uJ (gw 422 t) a) w->jq t.kv->t.sz<=999000->0<t.cnt x->CR ya 296 (E7 t.ptr x a) w (wM (· - 1) x a t w):=by
 have key:∀ (n:Nat) (t:BT) (w:World),t.dc<n->Own (uJ (gw 422 t) a) w->jq t.kv->t.sz<=999000->0<t.cnt x->CR ya 296 (E7 t.ptr x a) w (wM (· - 1) x a t w):=by
  intro n
  induction n with
  | zero=>exact fun _ _ h=>absurd h (wF _)
  | succ n d=>exact fun t w i b hb hs c=>W2 t x a w b hb hs c fun e f g=>d e f o_
 exact fun t w=>key _ t w (AX _)
theorem FK(t:BT)(w:World)(d:Own (Zr bb t.ptr (gw 422 t)) w) :
 CQ ya 294 (Zg bb) w (.bool true) (Zr bb t.ptr (gw 422 t)):=by
 refine ja func294 d 8 fun b=>?_
 refine lF (a:=some ⟨bb,0,none⟩) (c:=true) rfl rfl rfl underlying356 rfl (cH b 6 ?_)
 refine w6 (a:=⟨bb,0,none⟩) rfl rfl rfl underlying356 MQ (fK b 5 ?_)
 refine gT (v:=Zi) results294 rfl ?_
 exact⟨rfl,yk b⟩
theorem FJ(t:BT)(w:World)(c:Own (Zr bb t.ptr (gw 422 t)) w) :
 CQ ya 330 (Zg bb) w t.ptr (Zr bb t.ptr (gw 422 t)):=by
 refine gj func330 ?_
 have b:=Own.of c
 refine fM b 9 ?_
 refine gy (FK bb t w ·) b fun d a=>cH a 12 ?_
 refine kq (v:=t.ptr) rfl rfl (fK a 3 ?_)
 refine gT (v:=t.ptr) results330 rfl ?_
 exact⟨rfl,yk a⟩
theorem FI(t:BT)(w:World)(e:Own (Zr bb t.ptr (gw 422 t)) w) :
 CQ ya 295 (Zg bb) w (.int .i64 (t.sz:Int)) (Zr bb t.ptr (gw 422 t)):=by
 refine gj func295 ?_
 have a:=Own.of e
 refine fM a 8 ?_
 refine gy (FJ bb t w ·) a fun d b=>?_
 refine gF 1 b (sV t d ·) fun f c=>?_
 refine gm c 16 (Za t.sz) ?_
 exact⟨rfl,yk c⟩
theorem Wp(t:BT)(w:World)(W:Own (Zr bb t.ptr (gw 422 t)) w)(x:Int) :
 CQ ya 309 (Zk bb x) w (.int .i64 (t.cnt x:Int)) (Zr bb t.ptr (gw 422 t)):=by
 refine gj func309 ?_
 have T:=Own.of W
 refine fM T 8 ?_
 refine gy (FJ bb t w ·) T fun Q k=>?_
 refine kq (v:=t.ptr) rfl rfl ?_
 have n:=ye [1,0] k
 have p:=St.Vo n
 have u:=ye [2,0,1] p
 refine fZ k 4 ?_
 refine lp (α:=List BF×BT) (fun(c,s)=>[(0,(Zb bb)),(1,(Za x)),(4,Zc),(5,s.ptr)]) (fun(c,s) w1=>St [(w,(Zr bb t.ptr (gw 422 t)).gq)] [blk bb 412 [(Zb bb),t.ptr],(qJ 422 c s),(gw 422 s)] w1/\FM c s=t/\s.cnt x=t.cnt x) (fun(c,s)=>s.dc) ([],t) oh (⟨u,rfl,rfl⟩) ?_
 rintro⟨c,s⟩ R S ⟨j,m,r⟩
 refine fM j 3 ?_
 refine mv (v:=s.ptr) rfl rfl ?_
 obtain⟨y,l⟩:∃ q,s=q:=⟨_,rfl⟩
 rcases y with _|⟨d,g,e,f,h⟩
 . skip
   subst l
   refine lF (a:=none) (c:=false) rfl rfl rfl nG rfl (cH j 20 ?_)
   refine mG (a:=none) (c:=true) rfl rfl rfl nG rfl (fK j 10 ?_)
   refine gT (v:=Zc) results309 rfl ?_
   have z:=ye [1,2,0] j
   have A:=m▸St.EN z
   have B:=ye [1,0] A
   have F:t.cnt x=0:=by rw[<-r];rfl
   exact⟨by rw[F];first|done|rfl,yk B⟩
 . skip
   subst l
   have C:=ye [2,0,1] j
   have b:=qo C
   refine lF (a:=some ⟨d,0,none⟩) (c:=true) rfl rfl rfl nG rfl (cH b 6 ?_)
   by_cases U:(e:Int)=(x:Int)
   . refine cH b 14 ?_
     refine mG (a:=some ⟨d,0,none⟩) (c:=false) rfl rfl rfl nG rfl (fK b 15 ?_)
     refine gT (v:=(Za f)) results309 rfl ?_
     have D:=tD b
     have E:=ye [2,0,1] D
     have G:=m▸St.EN E
     have H:=ye [1,0] G
     have F:t.cnt x=f:=by rw[<-r,BT.cnt,if_pos o_]
     exact⟨by rw[F];first|done|rfl,yk H⟩
   . refine cH b 15 ?_
     by_cases V:(x:Int)<(e:Int)
     . refine cH b 8 ?_
       refine ia (o:=0) (o' := 0) (i:=0) rfl rfl rfl yo jW d_ rfl (cH b 1 ?_)
       refine kq (v:=g.ptr) rfl rfl (fK b 2 ?_)
       have I:=tD b
       have J:=ye [2,0,1] I
       have K:=St.ah6 J
       have L:=ye [2,0,1] K
       exact gM ((BF.fl d e f h :: c),g) oh (⟨L,m,by rw[<-r,BT.cnt,if_neg o_,if_pos o_]⟩) (by show _<(BT.nd _ _ _ _ _).dc;simp only[BT.dc];omega)
     . refine cH b 8 ?_
       refine ia (o:=0) (o' := 1) (i:=1) rfl rfl rfl yo jW d_ rfl (cH b 1 ?_)
       refine kq (v:=h.ptr) rfl rfl (fK b 2 ?_)
       have M:=tD b
       have N:=ye [2,0,1] M
       have O:=St.Vp N
       have P:=ye [2,0,1] O
       exact gM ((BF.fr d g e f :: c),h) oh (⟨P,m,by rw[<-r,BT.cnt,if_neg o_,if_neg o_]⟩) (by show _<(BT.nd _ _ _ _ _).dc;simp only[BT.dc];omega)
theorem Wr(t:BT)(w:World)(P:Own (Zr bb t.ptr (gw 422 t)) w)(U:0<t.sz)(hb:jq t.kv)(hs:t.sz<=1000000) :
 CQ ya 311 (Zk bb ((t.sz:Int)-1)) w (.tuple (Bi t.mx)) (Zr bb t.ptr (gw 422 t)):=by
 refine gj func311 ?_
 have r:=Own.of P
 refine fM r 9 ?_
 refine gy (FJ bb t w ·) r fun p k=>?_
 refine kq (v:=t.ptr) rfl rfl (cH k 6 ?_)
 refine gz rfl (kT o_) (cH k 3 ?_)
 refine gy (FI bb t p ·) k fun L n=>?_
 refine gz rfl (p9 o_) ?_
 have x:=ye [1,0] n
 have y:=St.Vo x
 have z:=ye [2,0,1] y
 refine fZ n 8 ?_
 refine lp (α:=List BF×BT) (fun(c,s)=>[(0,(Zb bb)),(1,(Za ((s.sz:Int)-1))),(4,Zc),(5,Zp),(6,s.ptr)]) (fun(c,s) w1=>St [(w,(Zr bb t.ptr (gw 422 t)).gq)] [blk bb 412 [(Zb bb),t.ptr],(qJ 422 c s),(gw 422 s)] w1/\FM c s=t/\s.mx=t.mx/\0<s.sz/\jq s.kv/\s.sz<=1000000) (fun(c,s)=>s.dc) ([],t) oh (⟨z,rfl,rfl,U,hb,hs⟩) ?_
 rintro⟨c,s⟩ M A ⟨S,l,m,Q,u,F⟩
 obtain⟨j,e,f,b,g,rfl⟩:=BT.acV Q
 have B:=ye [2,0,1] S
 have h:=qo B
 have q:jq (e.kv++(f,b) :: g.kv):=u
 have V:0<b:=q.2 (f,b) s_
 have T:(BT.nd j e f b g).sz=b+e.sz+g.sz:=rfl
 rw[T]at F
 refine fM h 4 ?_
 refine lF (a:=some ⟨j,0,none⟩) (c:=true) rfl rfl rfl nG rfl (cH h 11 ?_)
 refine ia (o:=0) (o' := 0) (i:=0) rfl rfl rfl yo jW d_ rfl (cH h 1 ?_)
 refine gF 1 h (sV e A ·) fun N d=>?_
 refine cH d 14 ?_
 refine gz rfl (kT o_) (cH d 13 ?_)
 by_cases O:((((BT.nd j e f b g).sz:Int)-1):Int)<((e.sz:Int)+(b:Int):Int)
 . refine jk d 21 (Za f) Zi ?_
   have C:=tD d
   have D:=ye [2,0,1] C
   have E:=l▸St.EN D
   have G:=ye [1,0] E
   have R:t.mx=f:=by rw[<-m,BT.mx,if_pos o_]
   exact⟨by rw[R],yk G⟩
 . refine cH d 22 ?_
   refine ia (o:=0) (o' := 1) (i:=1) rfl rfl rfl yo jW d_ rfl (cH d 1 ?_)
   refine kq (v:=g.ptr) rfl rfl (fK d 3 ?_)
   have H:=tD d
   have I:=ye [2,0,1] H
   have J:=St.Vp I
   have K:=ye [2,0,1] J
   exact gM ((BF.fr j e f b :: c),g) oh (⟨K,l,by rw[<-m,BT.mx,if_neg o_],o_,q.right,o_⟩) (by show _<(BT.nd _ _ _ _ _).dc;simp only[BT.dc];omega)
theorem Wq(t:BT)(w:World)(c:Own (Zr bb t.ptr (gw 422 t)) w) :
 CQ ya 311 #[(Zb bb),Zz] w (.tuple C9) (Zr bb t.ptr (gw 422 t)):=by
 refine gj func311 ?_
 have b:=Own.of c
 refine fM b 9 ?_
 refine gy (FJ bb t w ·) b fun d a=>?_
 refine kq (v:=t.ptr) rfl rfl (cH a 6 ?_)
 refine gz rfl (pL o_) (fK a 17 ?_)
 refine kC (v:=Zc) (v' := Zp) results311 rfl rfl ?_
 exact⟨rfl,yk a⟩
theorem Wt(t:BT)(w:World)(c:Own (Zr bb t.ptr (gw 422 t)) w)(f:0<t.sz)(hb:jq t.kv)(hs:t.sz<=1000000) :
 CQ ya 248 (Zg bb) w (.tuple (Bi t.mx)) (Zr bb t.ptr (gw 422 t)):=by
 refine gj func248 ?_
 have a:=Own.of c
 refine fM a 10 ?_
 refine gy (FI bb t w ·) a fun e b=>cH b 1 ?_
 refine gy (Wr bb t e · f hb hs) b fun h d=>?_
 refine jk d 7 (Za t.mx) Zi ?_
 exact⟨rfl,yk d⟩
theorem Ws(t:BT)(w:World)(b:Own (Zr bb t.ptr (gw 422 t)) w)(f:t.sz=0) :
 CQ ya 248 (Zg bb) w (.tuple C9) (Zr bb t.ptr (gw 422 t)):=by
 refine gj func248 ?_
 have a:=Own.of b
 refine fM a 10 ?_
 refine gy (FI bb t w ·) a fun d g=>?_
 refine gL (e:=(-1)) rfl ((kX o_).trans o_) (gy (Wq bb t d ·) g fun i c=>?_)
 refine jk c 7 Zc Zp ?_
 exact⟨rfl,yk c⟩
theorem BT.mx0{t:BT}(h:jq t.kv)(c:t.sz=0):t.mx=0:=by
 rcases t with _|⟨b,l,x,k,r⟩
 . rfl
 . have a:=BT.q8 h
   rw[c]at a
   simp only[BT.dc]at a
   omega
theorem Wu(t:BT)(w:World)(c:Own (Zr bb t.ptr (gw 422 t)) w)(hb:jq t.kv)(hs:t.sz<=1000000):CR ya 248 (Zg bb) w (fun r w' => ∃ o:Bool,r = .tuple (qG t.mx o)/\fP (Zr bb t.ptr (gw 422 t)) w w' (Zr bb t.ptr (gw 422 t))):=by
 rcases AL t.sz with h|h
 . exact CR.mono (Ws bb t w c h) fun r w' ⟨a,b⟩=>⟨false,by rw[a,BT.mx0 hb h],b⟩
 . exact CR.mono (Wt bb t w c h hb hs) fun r w' ⟨a,b⟩=>⟨true,a,b⟩
theorem Jo(t:BT)(w:World)(g:Own (Zr bb t.ptr (gw 422 t)) w)(x:Int)(hb:jq t.kv)(hs:t.sz<=999000) :
 CR ya 241 (ID bb x) w (fun r w' => ∃ d:BT,r = .int .i64 0/\d.kv=j5 (· + 1) x t.kv/\fP (Zr bb t.ptr (gw 422 t)) w w' (Zr bb d.ptr (gw 422 d))):=by
 refine ja func241 g 2 fun m=>?_
 refine gN m (fun b k A B c=>?_)
 have l:=ye [1,2,0] c
 refine cH c 8 ?_
 refine gy (FK bb t k ·) l fun C e=>fZ e 14 ?_
 refine jS mixed [([0,1,2],[0])] [3,4,5] e (fun n f=>iY ?_)
 refine cH f 2 ?_
 refine gy (FI bb t n ·) f fun o a=>fK a 1 ?_
 refine jF (jX ?_)
 refine cH a 1 ?_
 refine gz rfl (ow o_) (cH a 15 ?_)
 refine kW (vf:=[]) (vc:=(Ze b)) rfl rfl rfl ?_
 have q:=ye [1,2,0] a
 have h:=yd [_,_] _ q
 refine cl (WT x b t o (yg h 0 rfl) hb hs) ?_
 rintro _ D ⟨s,rfl,u,y⟩
 have i:=(yw h y)
 refine cH i 2 ?_
 refine iS 2 i (fun E j=>?_) (hvs:=(cells_one (BT.one _))) (h1:=(gD (BT.one _) je))
 refine gm j 8 Zc ?_
 have z:=ye [2,0] j
 exact⟨s,rfl,u,yk z⟩
theorem FH(t:BT)(w:World)(g:Own (Zr bb t.ptr (gw 422 t)) w)(x:Int)(hb:jq t.kv)(hs:t.sz<=999000)(hc:0<t.cnt x) :
 CR ya 247 (ID bb x) w (fun r w' => ∃ d:BT,r = .int .i64 0/\d.kv=j5 (· - 1) x t.kv/\fP (Zr bb t.ptr (gw 422 t)) w w' (Zr bb d.ptr (gw 422 d))):=by
 refine ja func247 g 2 fun m=>?_
 refine gN m (fun b k A B c=>?_)
 have l:=ye [1,2,0] c
 refine cH c 8 ?_
 refine gy (FK bb t k ·) l fun C e=>fZ e 14 ?_
 refine jS mixed [([0,1,2,3],[0])] [4,5] e (fun n f=>iY ?_)
 refine cH f 3 ?_
 refine gy (Wp bb t n · x) f fun o a=>fK a 1 ?_
 refine jF (jX ?_)
 refine gz rfl (ow o_) (cH a 15 ?_)
 refine kW (vf:=[]) (vc:=(Ze b)) rfl rfl rfl ?_
 have q:=ye [1,2,0] a
 have h:=yd [_,_] _ q
 refine cl (W1 x b t o (yg h 0 rfl) hb hs hc) ?_
 rintro _ D ⟨s,rfl,u,y⟩
 have i:=(yw h y)
 refine cH i 2 ?_
 refine iS 2 i (fun E j=>?_) (hvs:=(cells_one (BT.one _))) (h1:=(gD (BT.one _) je))
 refine gm j 8 Zc ?_
 have z:=ye [2,0] j
 exact⟨s,rfl,u,yk z⟩
theorem Wv :
 CR ya 240 #[] w (fun r w' => ∃ bb:Nat,r = .pointer (some ⟨bb,0,none⟩)/\fP (fN []) w w' (NJ bb (gw 422 BT.nil))):=by
 refine iE func240 7 fun j=>?_
 refine iL (pvs:=[]) (v:=.agg #[Zq,Zq]) rfl rfl (i6 [] MQ adJ rfl trivial rfl) (gN j (fun a g h i b=>?_))
 refine jI b 19 fun c d=>?_
 refine gT (v:=(Zb a)) results240 rfl ?_
 have e:St _ [(gw 422 BT.nil),blk a 412 [(Zb a),Zq]] c:=St.Jv d
 have f:=ye [1,0] e
 exact⟨a,rfl,me (yd [_,_] _ f)⟩
end Go.Proofs.YtedjjkcihkmjgaaGreatDoor
