/- What the functions that the statements reach do: walks through the code of the program and of the references, one theorem a function; under what is said of its arguments. -/
import Derived.Test.YtedjjkcihkmjgaaGreatDoorFb
import Derived.Test.YtedjjkcihkmjgaaGreatDoorVa
import Derived.Test.YtedjjkcihkmjgaaGreatDoorFc
import Derived.Test.YtedjjkcihkmjgaaGreatDoorVg
import Derived.Test.YtedjjkcihkmjgaaGreatDoorVe
set_option linter.unusedVariables false
set_option linter.unusedSimpArgs false
set_option maxRecDepth 100000
set_option maxHeartbeats 4000000
namespace Go.Proofs.YtedjjkcihkmjgaaGreatDoor
section
open Go Go.Sx
def Pl.cells(x:Pl):List Value:=[.int .i64 (x.v:Int),.int .i64 x.e,.int .i64 (x.nx:Int)]
abbrev NC(a:Nat)(b:ij)(c:Nat) d (e:Nat) f (g:Nat) h:=(gm [blk a 3 (Zd b.count),blk c 37 [d],fL fS d 3 1 b.found,blk e 37 [f],fL fS f 3 1 b.low,blk g 183 [h],fL Pl.cells h 185 3 b.stk]:fT)
abbrev Hy(a:Nat)(b:ij)(c:Nat) d (e:Nat) f (g:Nat) h i j k (l:Nat) m n o p q:=([blk a 3 (Zd b.count),blk c 37 [d],fL fS d 3 1 b.found,blk e 37 [f],fL fS f 3 1 b.low,blk g 183 [h],fL Pl.cells h 185 3 b.stk,fL sO i 4 1 b.met,j,k,blk l 37 [m],fL fW m 3 1 b.out,Gr.R n o p q]:List fT)
theorem Jx{α:Type}[Inhabited α]{cf:α->List Value}{sz:Nat}{bs:List (World×List Nat)}{L:List fT}{w:World}{e:TypeId}{H:List (Value×List α)}{A:List (List α)}{i j:Nat}(h:St bs L w)(hi:L[i]? = some (kI cf e sz H))(g:∀ x:α,(cf x).length=sz)(f:H.map (·.2)=A)(a:j<H.length):gY sz cf (fun _=>True) w (fJ H j).1 (fJ A j):=by
 have b:=yq (h.Kr (i:=i) hi)
 have c:=ug j b a
 have d:=(uk c (i:=0) rfl g).any
 have e1:fJ A j=(fJ H j).2:=by
  subst f
  exact iK (by rw[zx,gy a];rfl)
 rw[e1]
 exact d
theorem NX(cb fb lb sb:Nat)(fv lv sv:Value)(N:ij)(v:Nat)(e:Int)(w:World)(D:Own (NC cb N fb fv lb lv sb sv) w)(hv:v<N.found.length)(H:v<N.low.length)(F:N.count<=1000000)(G:N.stk.length<=1000000) :
 CR ya 90 #[(Za v),(Za e),(Zb cb),(Zb fb),(Zb lb),(Zb sb)] w (fun r w' => ∃ C,r = .tuple #[]/\fV (NC cb N fb fv lb lv sb sv) w w' (gm [blk cb 3 (Zd ((N.enter v e).count:Int)),blk fb 37 [fv],fL fS fv 3 1 ((N.enter v e).found),blk lb 37 [lv],fL fS lv 3 1 ((N.enter v e).low),blk sb 183 [C],fL Pl.cells C 185 3 ((N.enter v e).stk)])):=by
 refine en Tryz.func90 Tryz.ntmps90 ?_
 have B:=Own.of D
 refine fR B 3 ?_
 refine ar (e:=((N.count+1:Nat):Int)) rfl rfl rfl rfl iW (vh B 4 fun n k=>?_)
 refine kC mixed [([0,1,2,3,4,5,6,7],[2,5])] [8,9] k (fun o d=>jA ?_)
 refine fK d 7 ?_
 refine iz (f:=(fun _=>(N.count+1))) 2 d (fun p a=>?_)
 refine fP a 1 ?_
 refine kn (kF ?_)
 refine fK a 1 ?_
 refine iz (f:=(fun _=>(N.count+1))) 4 a (fun q g=>?_)
 refine fK g 6 ?_
 refine jc (pvs:=[(0,(Za v)),(1,(Za e)),(2,Zc)]) (v:=.agg #[(Za v),(Za e),Zc]) rfl rfl (jo [(0,(Zd v)),(1,(Zd e)),(2,Am)] C8 ade rfl ⟨rfl,rfl,rfl,rfl,rfl,rfl,trivial⟩ rfl) (jJ (vs:=[(.agg #[(Za v),(Za e),Zc])]) (cs:=[(Za v),(Za e),Zc]) rfl rfl vt C8 rfl (by simp[Value.cells]) rfl rfl rfl g (fun l s t u h=>k8 (cf:=Pl.cells) (ys:=N.stk) (zs:=[(⟨v,e,0⟩:Pl)]) (LL:=fun b=>[row (Zy l) 185 3 1 ([(Za v),(Za e),Zc]),blk cb 3 (Zd ((N.count+1:Nat):Int)),blk fb 37 [fv],fL fS fv 3 1 (fM N.found v (fun _=>(N.count+1))),blk lb 37 [lv],fL fS lv 3 1 (fM N.low v (fun _=>(N.count+1))),blk sb 183 [sv],fL Pl.cells b 185 3 (N.stk++[(⟨v,e,0⟩:Pl)])]) 7 rfl rfl rfl vt C8 rfl d_ h rfl (kG h (i:=0) rfl) (fun x E=>zk.1 (show List.all _ _=true from rfl) x E) (by simp only[zb,zg,maxLen];omega) (by simp only[zb,zg,maxLen];omega) f_ ?_))
 intro b y m z
 have c:=yg [1,2,3,4,5,6,7] m
 refine jM 5 c (fun A j=>?_) (hvs:=(cells_one (yr c (i:=6) rfl))) (h1:=(gX (yr c (i:=6) rfl) j4))
 refine fP j 1 ?_
 refine iS Tryz.results90 ?_
 exact⟨b,rfl,yi (yc [_,_,_,_,_,_,_] _ j)⟩
theorem Vq(ob:Nat)(D:Value)(out:List Int)(u v:Nat)(e:Int)(b c:Bool)(w:World)(F:Own (He ob D out) w)(I:out.length<=1000000) :
 CR ya 44 #[(.agg #[(Za u),(Za v),(Za e),(.bool b),(.bool c)]),(Zb ob)] w (fun r w' => ∃ H,r = .tuple #[]/\fV (He ob D out) w w' (He ob H (bif b then out else out++[e]))):=by
 refine en Tryz.func44 Tryz.ntmps44 ?_
 have E:=Own.of F
 refine fR E 2 ?_
 refine iC E (fun k p q s a=>?_)
 refine gD a 9 ?_
 cases g:(b:Bool)
 . skip
   subst g
   refine fR a 5 ?_
   refine jJ (vs:=(Zd e)) (cs:=(Zd e)) rfl rfl yd gr rfl (by simp[Value.cells]) rfl rfl rfl a (fun l t y z h=>k8 (cf:=fW) (ys:=out) (zs:=[e]) (LL:=fun d=>[ig .i64 (Zy l) 3 ([e]),blk k 122 [(Za u),(Za v),(Za e),Zp,(.bool c)],blk ob 37 [D],fL fW d 3 1 (out++[e])]) 3 rfl rfl rfl yd gr rfl d_ h rfl (kG h (i:=0) rfl) (fun x G=>zk.1 (show List.all _ _=true from rfl) x G) (by simp only[zb,zg,maxLen];omega) (by simp only[zb,zg,maxLen];omega) f_ ?_)
   intro d A m B
   have f:=yg [1,2,3] m
   refine jM 1 f (fun C j=>?_) (hvs:=(cells_one (yr f (i:=2) rfl))) (h1:=(gX (yr f (i:=2) rfl) j4))
   refine fP j 1 ?_
   refine iS Tryz.results44 ?_
   have n:=yg [1,2] j
   exact⟨d,rfl,yi (yc [_,_] _ n)⟩
 . skip
   subst g
   refine iO a 2 ?_
   refine iS Tryz.results44 ?_
   have o:=yg [1,2] a
   exact⟨D,rfl,yi (yc [_,_] _ o)⟩
theorem Vt(e:Nat)(w:World) :
 CR ya 43 (Z4 e) w (fun r w' => r = .tuple #[]/\gw [] w w'):=by
 refine en Tryz.func43 Tryz.ntmps43 ?_
 have a:=yu w
 refine iO a 1 ?_
 refine iS Tryz.results43 ?_
 exact⟨rfl,a.gA s_⟩
theorem Vv(ob F n:Nat)(q:Gr)(es:List Ge)(bk:Value)(w:World)(hO:Own (B7 F n q es ob bk) w)(hn:n<=4096)(hg:mj n es)(hm:es.length<=16384) :
 CR ya 42 #[(Zb F),D8,(D9 ob)] w (fun r w' => ∃ (ov:Value) (l:List Int),r = .tuple #[]/\(BQ n es l/\(∀ x∈l,0<=x/\x<(es.length:Int))/\l.length<=n)/\fV (B7 F n q es ob bk) w w' (gm [(Gr.R F n q es),blk ob 37 [ov],fL fW ov 3 1 l])):=by
 refine en Tryz.func42 Tryz.ntmps42 ?_
 have b3:=Own.of hO
 have bV:=NJ hg
 refine fR b3 3 ?_
 refine cl YD (aa9 F n q es w (ye b3 0 rfl) hn hg hm) ?_
 rintro _ wL ⟨hv,H,rfl,bZ,ck⟩
 have b1:=yv (yj 0 b3 ck)
 have co:H.length=n:=by have:=congrArg List.length bZ;rwa [zq,NI]at this
 have b5:=fun j (hj:j<n)=>Jx b1 (i:=2) rfl f_ bZ (show j<H.length by omega)
 refine fK b1 6 ?_
 refine cl YE (ZR F n q es wL (ye b1 0 rfl) hm) ?_
 rintro _ aZ ⟨B,rfl,ht⟩
 have W:=yv (yj 0 b1 ht)
 refine iM (m:=es.length) 1 rfl rfl pJ W rfl (nY (cf:=sO) (z0:=false) (m:=es.length) (c:=es.length) rfl rfl rfl Tryz.underlying181 wZ rfl f_ d_ (zj _) o_ o_ W ?_)
 intro X Y a0 a1 ap
 have C:St _ [fL sO (.slice (some ⟨X,0,none⟩) es.length es.length) 4 1 (List.replicate es.length false),(Gr.R F n q es),fL Ge.cells B 110 3 es,fL iH hv 188 1 H,(kI Lk.cells 190 2 H),blk ob 37 [bk],fL fW bk 3 1 ([])] Y:=kZ (cf:=sO) ap (i:=0) rfl f_ (zj _) (by simp only[maxLen];omega)
 generalize (Value.slice (some ⟨X,0,none⟩) es.length es.length)=D at C ⊢
 refine fK C 6 ?_
 refine cl AE (AK F n q es Y (ye C 1 rfl) hn) ?_
 rintro _ a2 ⟨rfl,ht⟩
 have aq:=yj 1 C ht
 refine nY (cf:=fS) (z0:=0) (m:=n) (c:=n) rfl rfl rfl yd gr rfl f_ d_ (zj _) o_ o_ aq ?_
 intro Z au a3 a4 av
 have aa:St _ [fL fS (.slice (some ⟨Z,0,none⟩) n n) 3 1 (List.replicate n 0),fL sO D 4 1 (List.replicate es.length false),(Gr.R F n q es),fL Ge.cells B 110 3 es,fL iH hv 188 1 H,(kI Lk.cells 190 2 H),blk ob 37 [bk],fL fW bk 3 1 ([])] au:=kZ (cf:=fS) av (i:=0) rfl f_ (zj _) (by simp only[maxLen];omega)
 generalize (Value.slice (some ⟨Z,0,none⟩) n n)=s at aa ⊢
 refine iE aa (fun E a5 a6 a7 J=>?_)
 refine jM 0 J (fun aw K=>?_) (hvs:=(cells_one (yr J (i:=1) rfl))) (h1:=(gX (yr J (i:=1) rfl) j4))
 refine fK K 5 ?_
 refine cl AE (AK F n q es aw (ye K 3 rfl) hn) ?_
 rintro _ a8 ⟨rfl,ht⟩
 have ax:=yj 3 K ht
 refine nY (cf:=fS) (z0:=0) (m:=n) (c:=n) rfl rfl rfl yd gr rfl f_ d_ (zj _) o_ o_ ax ?_
 intro ab ay a9 ba az
 have ac:St _ [fL fS (.slice (some ⟨ab,0,none⟩) n n) 3 1 (List.replicate n 0),blk E 37 [s],fL fS s 3 1 (List.replicate n 0),fL sO D 4 1 (List.replicate es.length false),(Gr.R F n q es),fL Ge.cells B 110 3 es,fL iH hv 188 1 H,(kI Lk.cells 190 2 H),blk ob 37 [bk],fL fW bk 3 1 ([])] ay:=kZ (cf:=fS) az (i:=0) rfl f_ (zj _) (by simp only[maxLen];omega)
 generalize (Value.slice (some ⟨ab,0,none⟩) n n)=L at ac ⊢
 refine iE ac (fun O bb bc bd P=>?_)
 refine jM 0 P (fun be ad=>?_) (hvs:=(cells_one (yr P (i:=1) rfl))) (h1:=(gX (yr P (i:=1) rfl) j4))
 refine fK ad 4 ?_
 refine iE ad (fun S bf bg bh aA=>?_)
 refine gI aA 5 fun bi aB=>?_
 refine iE aB (fun U aC bj bl y=>?_)
 refine fK y 4 ?_
 refine mO (vf:=[]) (vc:=(B5 S E O U)) rfl rfl rfl (fK y 6 ?_)
 refine iM (m:=(List.replicate n 0).length) 5 rfl rfl yd y rfl ?_
 have cx:(List.replicate n (0:Nat)).length=n:=qh
 have aD:St _ [fL Pl.cells Zg 185 3 ([]),blk U 183 o4,blk S 3 Am,blk O 37 [L],fL fS L 3 1 (List.replicate n 0),blk E 37 [s],fL fS s 3 1 (List.replicate n 0),fL sO D 4 1 (List.replicate es.length false),(Gr.R F n q es),fL Ge.cells B 110 3 es,fL iH hv 188 1 H,(kI Lk.cells 190 2 H),blk ob 37 [bk],fL fW bk 3 1 ([])] aC:=oQ y 185 3
 have aE:=yg [2,5,6,3,4,1,0,7,10,11,12,13,8] aD
 refine gD y 4 ?_
 refine lp (α:=Nat×ij×Value×Value×Value×Value×Value×Nat×Nat×Nat×Nat) (fun(r,N,sv,ov,fv,lv,bQ,cb,fb,lb,sb)=>[(1,D8),(2,(D9 ob)),(6,hv),(7,bQ),(8,(Zb fb)),(9,(Zb lb)),(10,(Zb cb)),(11,(Zb sb)),(12,(HN cb fb lb sb)),(33,(Za n)),(34,(Za r))]) (fun(r,N,sv,ov,fv,lv,bQ,cb,fb,lb,sb) w1=>St [(w,(B7 F n q es ob bk).gH)] (Hy cb N fb fv lb lv sb sv bQ (fL iH hv 188 1 H) (kI Lk.cells 190 2 H) ob ov F n q es) w1/\pN n es.length (gK n es) r N/\N.stk.length=0/\r<=n) (fun(r,N,sv,ov,fv,lv,bQ,cb,fb,lb,sb)=>n-r) (0,(ij.init n es.length),Zg,bk,s,L,D,S,E,O,U) ⟨rfl,rfl,rfl,rfl,rfl,rfl,rfl,rfl,rfl,gj rO,gj rO,trivial⟩ (⟨aE,pN.start,rfl,o_⟩) ?_
 rintro⟨r,N,sv,ov,fv,lv,bQ,cb,fb,lb,sb⟩ bm aF ⟨bT,hI,h0,hr⟩
 have bP:=hI.2
 have cc:=bP.fl
 have cd:=bP.ll
 have ce:=bP.ml
 have b7:=bP.En
 have b8:=bP.st
 refine fR bT 2 ?_
 by_cases bn:((r:Int):Int)<((n:Int):Int)
 . refine fK bT 23 ?_
   by_cases bo:((((fJ N.found r):Nat):Int):Int)>(0:Int)
   . refine fP bT 13 ?_
     refine tN (?_)
     exact again ((r+1),N,sv,ov,fv,lv,bQ,cb,fb,lb,sb) ⟨rfl,rfl,rfl,rfl,rfl,rfl,rfl,rfl,rfl,rfl,gj rO,trivial⟩ (⟨bT,hI.skip h0 o_ o_,h0,o_⟩) (by show (n-(r+1):Nat)<n-r;omega)
   . have ae:=yc [_,_,_,_,_,_,_] _ bT
     refine fK bT 10 ?_
     refine nV (fi:=[]) (ca:=(B5 cb fb lb sb)) rfl rfl rfl PL (NX cb fb lb sb fv lv sv N r (-1) aF (ye ae 0 rfl) (show r<N.found.length by omega) (show r<N.low.length by omega) (show N.count<=1000000 by omega) (show N.stk.length<=1000000 by first|omega|(rw[gx];omega))) ?_
     rintro _ bp ⟨aG,rfl,aH⟩
     have af:=(yk ae aH)
     refine gD af 6 ?_
     refine lp (α:=ij×Value×Value) (fun(M,T,bR)=>[(1,D8),(2,(D9 ob)),(6,hv),(7,bQ),(8,(Zb fb)),(9,(Zb lb)),(10,(Zb cb)),(11,(Zb sb)),(12,(HN cb fb lb sb)),(33,(Za n)),(34,(Za r))]) (fun(M,T,bR) w1=>St [(w,(B7 F n q es ob bk).gH)] (Hy cb M fb fv lb lv sb T bQ (fL iH hv 188 1 H) (kI Lk.cells 190 2 H) ob bR F n q es) w1/\pN n es.length (gK n es) (r+1) M) (fun(M,T,bR)=>2*(n-M.count)+M.stk.length) ((N.enter r (-1)),aG,ov) ⟨rfl,rfl,rfl,rfl,rfl,rfl,rfl,rfl,rfl,rfl,rfl,trivial⟩ (⟨af,hI.root h0 o_ o_⟩) ?_
     rintro⟨M,T,bR⟩ bq br ⟨bU,b0⟩
     refine fR bU 4 ?_
     refine iM (m:=M.stk.length) 6 rfl rfl vt bU rfl ?_
     by_cases bs:((M.stk.length:Int):Int)>(0:Int)
     . obtain⟨k,hk⟩:∃ k,M.stk.length=k+1:=⟨M.stk.length-1,o_⟩
       have ct:=b0.2.st
       have cu:=b0.2.En
       refine fK bU 11 ?_
       refine iM (m:=M.stk.length) 6 rfl rfl vt bU rfl (ar (e:=(k:Int)) rfl rfl rfl rfl iW (fK bU 1 ?_))
       refine rS (v:=(jm 3 T k 0)) rfl rfl (gI bU 4 fun bt z=>?_)
       refine mv (v:=(jm 3 T k 0)) rfl rfl (A8 (cf:=Pl.cells) (off:=0) rfl rfl (y0 z 6 rfl) (gy om) (fK z 2 ?_))
       refine mv (v:=(jm 3 T k 0)) rfl rfl (A8 (cf:=Pl.cells) (off:=0) rfl rfl (y0 z 6 rfl) (gy om) ?_)
       obtain⟨vv,cm⟩:∃ vv,(fJ M.stk k).v=vv:=⟨_,rfl⟩
       obtain⟨ee,b9⟩:∃ ee,(fJ M.stk k).e=ee:=⟨_,rfl⟩
       refine gD z 8 ?_
       refine lp (α:=ij) (fun Q=>[(1,D8),(2,(D9 ob)),(6,hv),(7,bQ),(8,(Zb fb)),(9,(Zb lb)),(10,(Zb cb)),(11,(Zb sb)),(12,(HN cb fb lb sb)),(14,(jm 3 T k 0)),(15,(Za vv)),(16,(Za ee)),(33,(Za n)),(34,(Za r))]) (fun Q w1=>St [(w,(B7 F n q es ob bk).gH)] (Hy cb Q fb fv lb lv sb T bQ (fL iH hv 188 1 H) (kI Lk.cells 190 2 H) ob bR F n q es) w1/\pN n es.length (gK n es) (r+1) Q/\tw (gK n es) Q k vv ee/\Q.count=M.count) (fun Q=>(fJ (gK n es) vv).length-(fJ Q.stk k).nx) M ⟨rfl,rfl,rfl,rfl,rfl,rfl,rfl,rfl,rfl,rfl,gj rO,gj rO,rfl,rfl,trivial⟩ (⟨z,b0,⟨hk,cm,b9⟩,rfl⟩) ?_
       rintro Q bu bv ⟨cj,bW,hV,b6⟩
       have bP:=bW.2
       have cc:=bP.fl
       have cd:=bP.ll
       have ce:=bP.ml
       have b7:=bP.En
       have b8:=bP.st
       have cw:=hV.l
       have b4:=bP.sv _ (nj (show k<Q.stk.length by omega))
       rw[hV.v]at b4
       have bY:=b4.1
       have cy:=b4.2.1
       have cn:(fJ (gK n es) vv).length<=2*es.length:=by rw[Aq bY,xL,Ar bY];have:=vj (es:=es) bY;omega
       refine nN cj 3 fun aI d=>?_
       refine mv (v:=(jm 3 T k 0)) rfl rfl (A8 (cf:=Pl.cells) (off:=0) rfl rfl (y0 d 6 rfl) (gy om) (fK d 4 ?_))
       refine iJ (cf:=iH) (k:=vv) (i:=(vv:Int)) rfl rfl rfl Dj F7 (y0 d 8 rfl) o_ o_ (gy om) (jd (cf:=iH) rfl rfl xh rfl (y0 d 8 rfl) (gy om) rfl (j8 (v:=((fJ H vv).1)) rfl rfl xh (b5 vv o_) ?_))
       by_cases bw:(((fJ Q.stk k).nx:Int):Int)<(((fJ (gK n es) vv).length:Int):Int)
       . have cg:(fJ Q.stk k).nx<(fJ (gK n es) vv).length:=by omega
         obtain⟨⟨le,lt⟩,bS⟩:=nW cg
         have cq:le<es.length:=bV.e vv bY _ (zd bS)
         have cr:lt<n:=bV.t vv bY _ (zd bS)
         refine gD d 8 ?_
         refine kC mixed [([0,1,2,3,4,5,6,7,8,9,10],[3,7,9])] [11] d (fun bx o=>jA ?_)
         refine fK o 2 ?_
         refine iJ (cf:=iH) (k:=vv) (i:=(vv:Int)) rfl rfl rfl Dj F7 (y0 o 8 rfl) o_ o_ (gy om) (jd (cf:=iH) rfl rfl xh rfl (y0 o 8 rfl) (gy om) rfl (mv (v:=(jm 3 T k 0)) rfl rfl (A8 (cf:=Pl.cells) (off:=0) rfl rfl (y0 o 6 rfl) (gy om) (fK o 2 ?_))))
         refine iJ (k:=((fJ Q.stk k).nx)) (i:=((fJ Q.stk k).nx:Int)) rfl rfl rfl xh yV (b5 vv o_) o_ o_ bS (E3 (cs:=(Zn le lt)) rfl rfl GC rfl yV (Jx o (i:=9) rfl f_ bZ o_) bS rfl rfl (iE o (fun bz bA bB bC G=>?_)))
         refine fP G 1 ?_
         refine uf (lq rfl (p9 (wo (cf:=iH) (u:=((fJ H vv).1)) rfl xh rfl (y0 G 9 rfl) (gy om) rfl) rfl rfl) (lq rfl pG (lq rfl (p9 (E4 (cs:=(Zn le lt)) rfl GC rfl yV (Jx G (i:=10) rfl f_ bZ o_) bS rfl rfl) rfl rfl) (trivial)))) (kF ?_)
         refine gI G 5 fun bD A=>?_
         refine mv (v:=(jm 3 T k 0)) rfl rfl (A8 (cf:=Pl.cells) (off:=0) rfl rfl (y0 A 7 rfl) (gy om) (fK A 2 ?_))
         refine ar (e:=(((fJ Q.stk k).nx+1:Nat):Int)) rfl rfl rfl rfl iW (A8 (cf:=Pl.cells) (off:=0) rfl rfl (y0 A 7 rfl) (gy om) (fK A 1 ?_))
         refine iz (f:=(fun x:Pl=>{ x with nx:=((fJ Q.stk k).nx+1) })) 7 A (fun bE g=>?_)
         refine fK g 8 ?_
         refine iJ (cf:=sO) (k:=le) (i:=(le:Int)) rfl rfl rfl Tryz.underlying181 wZ (y0 g 8 rfl) o_ o_ (gy om) (jd (cf:=sO) rfl rfl y9 rfl (y0 g 8 rfl) (gy om) rfl (gD g 2 ?_))
         cases bF:(fJ Q.met le:Bool)
         . skip
           refine fR g 8 ?_
           refine iJ (cf:=sO) (k:=le) (i:=(le:Int)) rfl rfl rfl Tryz.underlying181 wZ (y0 g 8 rfl) o_ o_ (gy om) (iz (f:=(fun _=>true)) 8 g (fun aJ ag=>?_))
           refine fK ag 7 ?_
           refine nV (fi:=[]) (ca:=[]) rfl rfl rfl Yj (Vt le aJ) ?_
           rintro _ aK ⟨rfl,aL⟩
           have I:=yp ag aL
           refine fK I 10 ?_
           by_cases bG:((((fJ Q.found lt):Nat):Int):Int)=(0:Int)
           . skip
             have aM:=yg [1,2,3,4,5,6,7,0,8,9,10,11,12,13] I
             have ah:=yc [_,_,_,_,_,_,_] _ aM
             refine fK I 11 ?_
             refine nV (fi:=[]) (ca:=(B5 cb fb lb sb)) rfl rfl rfl PL (NX cb fb lb sb fv lv T (⟨fM Q.met le (fun _=>true),Q.found,Q.low,Q.count,fM Q.stk k (fun x=>{ x with nx:=((fJ Q.stk k).nx+1) }),Q.out⟩:ij) lt (le:Int) aK (ye ah 0 rfl) (show lt<Q.found.length by omega) (show lt<Q.low.length by omega) (show Q.count<=1000000 by omega) (show (fM Q.stk k (fun x=>{ x with nx:=((fJ Q.stk k).nx+1) })).length<=1000000 by first|omega|(rw[gx];omega))) ?_
             rintro _ bH ⟨aN,rfl,aO⟩
             have ai:=(yk ah aO)
             refine fP ai 9 ?_
             refine tN (?_)
             have aP:=yg [0,1,2,3,4,5,6,8,9,10,11,12,13] ai
             have bX:=bW.tk bV hV.l (afM hV bS (by simp[*]) o_)
             have cp:Q.count+1<=n:=bX.2.En
             exact again (((⟨fM Q.met le (fun _=>true),Q.found,Q.low,Q.count,fM Q.stk k (fun x=>{ x with nx:=((fJ Q.stk k).nx+1) }),Q.out⟩:ij).enter lt (le:Int)),aN,bR) ⟨rfl,rfl,rfl,rfl,rfl,rfl,rfl,rfl,rfl,rfl,rfl,trivial⟩ (⟨aP,bX⟩) (by show 2*(n-(Q.count+1))+(_++[_]).length<2*(n-M.count)+M.stk.length;rw[zp,gx,Dx];omega)
           . refine gI I 18 fun bI aj=>?_
             refine min2 (a:=(((fJ Q.low vv):Nat):Int)) (b:=(((fJ Q.found lt):Nat):Int)) (c:=((min (fJ Q.low vv) (fJ Q.found lt):Nat):Int)) rfl rfl rfl o_ (fK aj 1 ?_)
             refine iz (f:=(fun _=>(min (fJ Q.low vv) (fJ Q.found lt)))) 5 aj (fun bJ ak=>?_)
             refine fP ak 2 ?_
             refine tN (?_)
             have aQ:=yg [1,2,3,4,5,6,7,8,9,10,11,12,13] ak
             have b2:=bW.tk bV hV.l (afN hV bS (by simp[*]) o_)
             exact again (⟨fM Q.met le (fun _=>true),Q.found,fM Q.low vv (fun _=>(min (fJ Q.low vv) (fJ Q.found lt))),Q.count,fM Q.stk k (fun x=>{ x with nx:=((fJ Q.stk k).nx+1) }),Q.out⟩:ij) ⟨rfl,rfl,rfl,rfl,rfl,rfl,rfl,rfl,rfl,rfl,rfl,rfl,rfl,rfl,trivial⟩ (⟨aQ,b2,hV.bump,b6⟩) (by show (fJ (gK n es) vv).length-(fJ (fM Q.stk k (fun x=>{ x with nx:=(fJ Q.stk k).nx+1 })) k).nx<_;rw[jS o_];show (fJ (gK n es) vv).length-((fJ Q.stk k).nx+1)<_;omega)
         . skip
           refine iO g 4 ?_
           refine tN (?_)
           have aR:=yg [1,2,3,4,5,6,7,8,9,10,11,12,13] g
           have b2:=bW.tk bV hV.l (afO hV bS (by simp[*]))
           exact again (⟨Q.met,Q.found,Q.low,Q.count,fM Q.stk k (fun x=>{ x with nx:=((fJ Q.stk k).nx+1) }),Q.out⟩:ij) ⟨rfl,rfl,rfl,rfl,rfl,rfl,rfl,rfl,rfl,rfl,rfl,rfl,rfl,rfl,trivial⟩ (⟨aR,b2,hV.bump,b6⟩) (by show (fJ (gK n es) vv).length-(fJ (fM Q.stk k (fun x=>{ x with nx:=(fJ Q.stk k).nx+1 })) k).nx<_;rw[jS o_];show (fJ (gK n es) vv).length-((fJ Q.stk k).nx+1)<_;omega)
       . have cz:(Q.stk.take k).length=k:=by rw[zw];omega
         refine fK d 13 ?_
         refine iM (m:=Q.stk.length) 6 rfl rfl vt d rfl (ar (e:=(k:Int)) rfl rfl rfl rfl iW (FV (l:=0) (h:=k) rfl rfl vt C8 (y0 (cf:=Pl.cells) d 6 rfl) rfl ⟨_,gj o_⟩ o_ o_ ?_))
         have V:St _ [blk cb 3 (Zd Q.count),blk fb 37 [fv],fL fS fv 3 1 Q.found,blk lb 37 [lv],fL fS lv 3 1 Q.low,blk sb 183 [T],fL Pl.cells (jB 3 T 0 k) 185 3 (Q.stk.take k),fL sO bQ 4 1 Q.met,fL iH hv 188 1 H,(kI Lk.cells 190 2 H),blk ob 37 [bR],fL fW bR 3 1 Q.out,(Gr.R F n q es)] aI:=St.KT d (i:=6) rfl f_ o_
         refine jM 5 V (fun bK p=>?_) (hvs:=(cells_one (yr V (i:=6) rfl))) (h1:=(gX (yr V (i:=6) rfl) j4))
         refine fK p 5 ?_
         refine iM (m:=(Q.stk.take k).length) 6 rfl rfl vt p rfl ?_
         by_cases bL:(((Q.stk.take k).length:Int):Int)>(0:Int)
         . have cA:(fJ (Q.stk.take k) (k-1)).v<n:=(bP.sv _ (Mu (nj (show k-1<(Q.stk.take k).length by omega)))).1
           refine fK p 8 ?_
           refine iM (m:=(Q.stk.take k).length) 6 rfl rfl vt p rfl (ar (e:=((k-1:Nat):Int)) rfl rfl rfl rfl iW (gI p 18 fun bM al=>?_))
           refine min2 (a:=(((fJ Q.low ((fJ (Q.stk.take k) (k-1)).v)):Nat):Int)) (b:=(((fJ Q.low vv):Nat):Int)) (c:=((min (fJ Q.low ((fJ (Q.stk.take k) (k-1)).v)) (fJ Q.low vv):Nat):Int)) rfl rfl rfl o_ (fK al 1 ?_)
           refine iz (f:=(fun _=>(min (fJ Q.low ((fJ (Q.stk.take k) (k-1)).v)) (fJ Q.low vv)))) 4 al (fun bN aS=>?_)
           refine gI aS 15 fun aT am=>?_
           refine cmp (c:=decide ((((fJ (fM Q.low ((fJ (Q.stk.take k) (k-1)).v) (fun _=>(min (fJ Q.low ((fJ (Q.stk.take k) (k-1)).v)) (fJ Q.low vv)))) vv):Nat):Int)<=(((fJ Q.found ((fJ (Q.stk.take k) (k-1)).v)):Nat):Int))) rfl rfl rfl rfl (fK am 8 ?_)
           refine cmp (c:=decide ((((fJ (fM Q.low ((fJ (Q.stk.take k) (k-1)).v) (fun _=>(min (fJ Q.low ((fJ (Q.stk.take k) (k-1)).v)) (fJ Q.low vv)))) vv):Nat):Int)<(((fJ Q.found ((fJ (Q.stk.take k) (k-1)).v)):Nat):Int))) rfl rfl rfl rfl (jc (pvs:=[(0,(Za ((fJ (Q.stk.take k) (k-1)).v:Int))),(1,(Za vv)),(2,(Za ee)),(3,(.bool (decide ((((fJ (fM Q.low ((fJ (Q.stk.take k) (k-1)).v) (fun _=>(min (fJ Q.low ((fJ (Q.stk.take k) (k-1)).v)) (fJ Q.low vv)))) vv):Nat):Int)<=(((fJ Q.found ((fJ (Q.stk.take k) (k-1)).v)):Nat):Int))))),(4,(.bool (decide ((((fJ (fM Q.low ((fJ (Q.stk.take k) (k-1)).v) (fun _=>(min (fJ Q.low ((fJ (Q.stk.take k) (k-1)).v)) (fJ Q.low vv)))) vv):Nat):Int)<(((fJ Q.found ((fJ (Q.stk.take k) (k-1)).v)):Nat):Int)))))]) (v:=.agg #[(Za ((fJ (Q.stk.take k) (k-1)).v:Int)),(Za vv),(Za ee),(.bool (decide ((((fJ (fM Q.low ((fJ (Q.stk.take k) (k-1)).v) (fun _=>(min (fJ Q.low ((fJ (Q.stk.take k) (k-1)).v)) (fJ Q.low vv)))) vv):Nat):Int)<=(((fJ Q.found ((fJ (Q.stk.take k) (k-1)).v)):Nat):Int)))),(.bool (decide ((((fJ (fM Q.low ((fJ (Q.stk.take k) (k-1)).v) (fun _=>(min (fJ Q.low ((fJ (Q.stk.take k) (k-1)).v)) (fJ Q.low vv)))) vv):Nat):Int)<(((fJ Q.found ((fJ (Q.stk.take k) (k-1)).v)):Nat):Int))))]) rfl rfl (jo [(0,(Zd ((fJ (Q.stk.take k) (k-1)).v:Int))),(1,(Zd vv)),(2,(Zd ee)),(3,[(.bool (decide ((((fJ (fM Q.low ((fJ (Q.stk.take k) (k-1)).v) (fun _=>(min (fJ Q.low ((fJ (Q.stk.take k) (k-1)).v)) (fJ Q.low vv)))) vv):Nat):Int)<=(((fJ Q.found ((fJ (Q.stk.take k) (k-1)).v)):Nat):Int))))]),(4,[(.bool (decide ((((fJ (fM Q.low ((fJ (Q.stk.take k) (k-1)).v) (fun _=>(min (fJ Q.low ((fJ (Q.stk.take k) (k-1)).v)) (fJ Q.low vv)))) vv):Nat):Int)<(((fJ Q.found ((fJ (Q.stk.take k) (k-1)).v)):Nat):Int))))])] TC ac6 rfl ⟨rfl,rfl,rfl,rfl,rfl,rfl,rfl,rfl,rfl,rfl,trivial⟩ rfl) ?_)
           have aU:=yg [10,11,0,1,2,3,4,5,6,7,8,9,12] am
           have an:=yc [_,_] _ aU
           refine nV (fi:=[]) (ca:=(Zf ob)) rfl rfl rfl Yk (Vq ob bR Q.out ((fJ (Q.stk.take k) (k-1)).v) vv ee (decide ((((fJ (fM Q.low ((fJ (Q.stk.take k) (k-1)).v) (fun _=>(min (fJ Q.low ((fJ (Q.stk.take k) (k-1)).v)) (fJ Q.low vv)))) vv):Nat):Int)<=(((fJ Q.found ((fJ (Q.stk.take k) (k-1)).v)):Nat):Int))) (decide ((((fJ (fM Q.low ((fJ (Q.stk.take k) (k-1)).v) (fun _=>(min (fJ Q.low ((fJ (Q.stk.take k) (k-1)).v)) (fJ Q.low vv)))) vv):Nat):Int)<(((fJ Q.found ((fJ (Q.stk.take k) (k-1)).v)):Nat):Int))) aT (ye an 0 rfl) (show Q.out.length<=1000000 by omega)) ?_
           rintro _ bO ⟨aV,rfl,aW⟩
           have ao:=(yk an aW)
           refine fP ao 2 ?_
           refine tN (?_)
           have aX:=yg [2,3,4,5,6,7,8,9,10,11,0,1,12] ao
           have bX:=bW.tk bV hV.l (afP (b:=decide ((((fJ (fM Q.low ((fJ (Q.stk.take k) (k-1)).v) (fun _=>(min (fJ Q.low ((fJ (Q.stk.take k) (k-1)).v)) (fJ Q.low vv)))) vv):Nat):Int)<=(((fJ Q.found ((fJ (Q.stk.take k) (k-1)).v)):Nat):Int))) hV o_ o_ (by rw[abn o_];exact decide_eq_decide.2 Int.ofNat_le))
           exact again ((⟨Q.met,Q.found,fM Q.low ((fJ (Q.stk.take k) (k-1)).v) (fun _=>(min (fJ Q.low ((fJ (Q.stk.take k) (k-1)).v)) (fJ Q.low vv))),Q.count,(Q.stk.take k),(bif decide ((((fJ (fM Q.low ((fJ (Q.stk.take k) (k-1)).v) (fun _=>(min (fJ Q.low ((fJ (Q.stk.take k) (k-1)).v)) (fJ Q.low vv)))) vv):Nat):Int)<=(((fJ Q.found ((fJ (Q.stk.take k) (k-1)).v)):Nat):Int))then Q.out else Q.out++[ee])⟩:ij),(jB 3 T 0 k),aV) ⟨rfl,rfl,rfl,rfl,rfl,rfl,rfl,rfl,rfl,rfl,rfl,trivial⟩ (⟨aX,bX⟩) (by show 2*(n-Q.count)+(Q.stk.take k).length<2*(n-M.count)+M.stk.length;omega)
         . refine fP p 6 ?_
           refine tN (?_)
           have bX:=bW.tk bV hV.l (afQ hV o_ o_)
           exact again ((⟨Q.met,Q.found,Q.low,Q.count,(Q.stk.take k),Q.out⟩:ij),(jB 3 T 0 k),bR) ⟨rfl,rfl,rfl,rfl,rfl,rfl,rfl,rfl,rfl,rfl,rfl,trivial⟩ (⟨p,bX⟩) (by show 2*(n-Q.count)+(Q.stk.take k).length<2*(n-M.count)+M.stk.length;omega)
     . refine fP bU 15 ?_
       refine tN (?_)
       exact again ((r+1),M,T,bR,fv,lv,bQ,cb,fb,lb,sb) ⟨rfl,rfl,rfl,rfl,rfl,rfl,rfl,rfl,rfl,rfl,gj rO,trivial⟩ (⟨bU,b0,o_,o_⟩) (by show (n-(r+1):Nat)<n-r;omega)
 . refine fP bT 9 ?_
   refine iS Tryz.results42 ?_
   have aY:=yg [12,10,11] bT
   have ci:r=n:=by omega
   rw[ci]at hI
   have ch:=hI.2.ou
   have cv:=hI.2.st
   exact⟨ov,N.out,rfl,⟨⟨N,hI.1,h0,rfl⟩,ch,o_⟩,yi (yc [_,_,_] _ aY)⟩
end
section
open Go Go.Sx
structure Bq where
 dv:Value
 mv:Value
 gN:List Int
 H:List (Value×List Nat)
 low:Nat
def Bq.m(q:Bq):gE:=⟨q.gN,q.H.map (·.2),q.low⟩
def Bq.R(a:Nat)(q:Bq):fT:=gm [blk a 293 [q.dv,q.mv,(Za q.low)],fL fW q.dv 3 1 q.gN,fL iH q.mv 37 1 q.H,(oK fS 3 q.H)]
abbrev D2 a (b c:Nat) d:=([a,blk b 195 (Zf c),Bq.R c d]:List fT)
theorem Rc{H:List (Value×List Nat)}{d:Nat}{sv:Value}{xs:List Nat}:(fM H d fun _=>(sv,xs)).map (·.2)=fM (H.map (·.2)) d fun _=>xs:=List.map_set ..
theorem Fs{H:List (Value×List Nat)}{d:Nat}(h:d<H.length):fJ (H.map (·.2)) d=(fJ H d).2:=iK (by rw[zx,gy h];rfl)
theorem abi(O n c:Nat)(q:Bq)(w:World)(W:Own (Bq.R O q) w)(Q:q.m.ok n c)(hn:n<=4096)(hc:c<=1000000000)(v:Nat)(hv:v<n) :
 CR ya 98 (Zm O v) w (fun r w' => ∃ U:Bq,r = .tuple #[]/\U.m=q.m.lose v/\fV (Bq.R O q) w w' (Bq.R O U)):=by
 have ab:q.gN.length=n:=Q.dl
 have T:q.m.mem.length=q.H.length:=zq _
 have S:=Q.dv _ (show fJ q.gN v∈q.m.gN from nj (show v<q.gN.length by omega))
 refine en Tryz.func98 Tryz.ntmps98 ?_
 have F:=Own.of W
 refine fR F 10 ?_
 by_cases C:((fJ q.gN v):Int)<=(0:Int)
 . refine fP F 6 ?_
   refine wN Tryz.results98 ?_
   exact⟨q,rfl,(gE.abh (B:=q.m) (by show fJ q.gN v<=0;omega)).symm,yi (yc [_,_,_,_] _ F)⟩
 . obtain⟨d,hd⟩:∃ d:Nat,fJ q.gN v=(d:Int)+1:=⟨(fJ q.gN v-1).toNat,o_⟩
   have P:d<q.H.length:=by have:=S.2;rw[T]at this;omega
   have ac:(fJ q.H d).2.length<=n+c:=by have V:=(Q.mv (fJ q.H d).2 (by rw[<-Fs P];exact nj (show d<q.m.mem.length by rw[T];exact P))).1;exact V
   have aa:=(y0 F 2 rfl).len
   refine fK F 15 ?_
   refine ar (e:=(d:Int)) rfl rfl rfl rfl (by rw[oh (by have:=S.2;omega)];omega) (fK F 1 ?_)
   refine iz (f:=(fun _=>(d:Int))) 1 F (fun D j=>?_)
   have X:fJ (fM q.gN v (fun _=>(d:Int))) v=(d:Int):=jS o_
   refine fK j 10 ?_
   refine jd (cf:=fW) rfl rfl yf rfl (y0 j 1 rfl) (gy om) rfl ?_
   rw[X]
   refine gD j 4 ?_
   have p:=yg [3,0,1,2] j
   have s:=ug d p o_
   refine kC mixed [([0,1,2,3,4,5,6,7,8,9,10,11,12,13],[3,8,11]),([14],[3])] [15,16] s (fun E l=>jA ?_)
   refine fK l 13 ?_
   refine jJ (vs:=(Zd v)) (cs:=(Zd v)) rfl rfl yd gr rfl (by simp[Value.cells]) rfl rfl rfl l (fun t G I J k=>fP k 1 ?_)
   refine kn (jA ?_)
   refine k8 (cf:=fS) (ys:=(fJ q.H d).2) (zs:=[v]) (LL:=fun g=>[ig .i64 (Zy t) 3 ([(v:Int)]),fL fS g 3 1 (((fJ q.H d).2)++[v]),(oK fS 3 (q.H.eraseIdx d)),blk O 293 [q.dv,q.mv,(Za q.low)],fL fW q.dv 3 1 (fM q.gN v (fun _=>(d:Int))),fL iH q.mv 37 1 q.H]) 1 rfl rfl rfl yd gr rfl d_ k rfl (kG k (i:=0) rfl) (fun x Z=>zk.1 (show List.all _ _=true from rfl) x Z) (by simp only[zb,zg,maxLen];omega) (by simp only[zb,zg,maxLen];omega) f_ ?_
   intro g K u L
   have h:=yg [1,2,3,4,5] u
   refine fP h 1 ?_
   refine kn (kF ?_)
   refine fK h 1 ?_
   refine iz (f:=(fun _=>(g,(fJ q.H d).2++[v]))) 4 h (fun M o=>?_) (hvs:=(cells_one (yr h (i:=0) rfl))) (h1:=(gX (yr h (i:=0) rfl) j4))
   refine fK o 9 ?_
   refine min2 (a:=(q.low:Int)) (b:=(d:Int)) (c:=((min q.low d:Nat):Int)) rfl rfl rfl o_ (jV o 4 fun N y=>?_)
   refine iS Tryz.results98 ?_
   have z:=St.CE y o_
   have A:=yg [1,2,3,0] z
   have Y:Bq.m (⟨q.dv,q.mv,fM q.gN v (fun _=>(d:Int)),(fM q.H d (fun _=>(g,(fJ q.H d).2++[v]))),min q.low d⟩:Bq)=q.m.lose v:=by
    rw[gE.abj (B:=q.m) (v:=v) (d:=d) (by show ¬ fJ q.gN v<=0;omega) hd]
    show gE.mk _ _ _=gE.mk _ _ _
    congr 1
    rw[Rc,<-Fs P]
    rfl
   exact⟨(⟨q.dv,q.mv,fM q.gN v (fun _=>(d:Int)),(fM q.H d (fun _=>(g,(fJ q.H d).2++[v]))),min q.low d⟩:Bq),rfl,Y,yi (yc [_,_,_,_] _ A)⟩
theorem afw(F n c:Nat)(q:Bq)(w:World)(hO:Own (Bq.R F q) w)(aE:q.m.ok n c)(hn:n<=4096)(hc:c<=1000000000) :
 CR ya 96 (Zi F) w (fun r w' => (∃ (v:Nat) (q2:Bq),r = .tuple (Zx v q2.low)/\q.m.take=(q2.m,some v)/\fV (Bq.R F q) w w' (Bq.R F q2))\/∃ q2:Bq,r = .tuple #[.int .i64 (-1),.int .i64 0]/\q.m.take=(q2.m,none)/\fV (Bq.R F q) w w' (Bq.R F q2)):=by
 have aR:q.gN.length=n:=aE.dl
 refine en Tryz.func96 Tryz.ntmps96 ?_
 have aG:=Own.of hO
 refine p8 aG 17 ?_
 refine lp (α:=List (Value×List Nat)×Nat) (fun(H,low)=>[(0,(Zb F)),(2,Zw)]) (fun(H,low) w1=>St [(w,(Bq.R F q).gH)] [blk F 293 [q.dv,q.mv,(Za low)],fL fW q.dv 3 1 q.gN,fL iH q.mv 37 1 H,(oK fS 3 H)] w1/\q.m.scan (q.m.mem.length-q.m.low)=(⟨q.gN,H.map (·.2),low⟩:gE).scan ((H.map (·.2)).length-low)/\gE.ok n (⟨q.gN,H.map (·.2),low⟩:gE) c/\H.length=q.H.length) (fun(H,low)=>H.length-low) (q.H,q.low) ⟨rfl,rfl,trivial⟩ (⟨aG,rfl,aE,rfl⟩) ?_
 rintro⟨H,low⟩ N O ⟨aH,ay,aF,aI⟩
 have aQ:(H.map (·.2)).length=H.length:=zq _
 have aP:=(y0 aH 2 rfl).len
 refine nN aH 11 fun Q d=>?_
 refine iM (m:=H.length) 2 rfl rfl GF d rfl ?_
 by_cases S:((low:Int):Int)<((H.length:Int):Int)
 . have aB:low<H.length:=by omega
   have aD:=aF.mv (fJ H low).2 (by show _∈H.map (·.2);rw[<-Fs aB];exact nj o_)
   refine gD d 9 ?_
   have y:=yg [3,0,1,2] d
   have z:=ug low y o_
   refine nN z 11 fun U o=>?_
   refine FV (l:=0) (h:=0) rfl rfl yd gr (y0 (cf:=fS) o 0 rfl) rfl ⟨_,gj o_⟩ o_ o_ (rS (v:=(jB 1 ((fJ H low).1) 0 0)) rfl rfl (gI o 15 fun V j=>?_))
   refine iM (m:=((fJ H low).2).length) 0 rfl rfl yd j rfl ?_
   have A:=yg [2,3,4,0,1] j
   refine gD j 4 ?_
   refine lp (α:=Nat×Nat×List Nat×Int) (fun(i,k,zs,m)=>[(0,(Zb F)),(2,(Za m)),(4,(jB 1 (fJ H low).1 0 k)),(44,((fJ H low).1)),(45,(Za ((fJ H low).2.length:Int))),(46,(Za i))]) (fun(i,k,zs,m) w1=>St [(w,(Bq.R F q).gH)] [blk F 293 [q.dv,q.mv,(Za low)],fL fW q.dv 3 1 q.gN,fL iH q.mv 37 1 H,fL fS ((fJ H low).1) 3 1 zs,(oK fS 3 (H.eraseIdx low))] w1/\oZ (fun u=>decide (fJ q.gN u=(low:Int))) (fJ H low).2 i k zs/\m=lH (((fJ H low).2.take i).filter (fun u=>decide (fJ q.gN u=(low:Int))))) (fun(i,k,zs,m)=>(fJ H low).2.length-i) (0,0,(fJ H low).2,(-1)) ⟨rfl,gj rO,rfl,rfl,gj rO,gj rO,trivial⟩ (⟨A,oZ.start,by rw[List.take_zero];rfl⟩) ?_
   rintro⟨i,k,zs,m⟩ W C ⟨au,hT,aq⟩
   have aY:=hT.len
   have aX:=hT.ki
   have aW:=hT.il
   refine fR au 2 ?_
   by_cases X:((i:Int):Int)<(((fJ H low).2.length:Int):Int)
   . have an:i<(fJ H low).2.length:=by omega
     have T:=hT.at_ an
     have aV:fJ zs i<n:=by rw[T];exact aD.2 _ (nj an)
     refine gI au 30 fun Y e=>?_
     by_cases Z:((fJ q.gN (fJ zs i)):Int)=((low:Int):Int)
     . refine fK e 8 ?_
       refine mv (v:=(jB 1 (fJ H low).1 0 k)) rfl rfl (fK e 1 ?_)
       refine jJ (vs:=(Zd (((fJ zs i):Nat):Int))) (cs:=(Zd (((fJ zs i):Nat):Int))) rfl rfl yd gr rfl (by simp[Value.cells]) rfl rfl rfl e (fun aa ab ac ad s=>Vb (cf:=fS) (k:=k) (c:=(fJ zs i)) 4 rfl rfl rfl yd gr s rfl (kG s (i:=0) rfl) d_ (fun x hx=>zk.1 (show List.all _ _=true from rfl) x hx) f_ o_ rfl (fun ae D=>?_))
       have a:=yg [1,2,3,4,5] D
       refine rS (v:=(jB 1 ((fJ H low).1) 0 (k+1))) rfl rfl (fK a 5 ?_)
       by_cases af:(m:Int)<(0:Int)
       . refine fP a 19 ?_
         refine tN (?_)
         have ap:=hT.keep an (P:=(fun u=>decide (fJ q.gN u=(low:Int)))) (by rw[<-T];exact decide_eq_true o_) T
         have ao:lH (((fJ H low).2.take (i+1)).filter (fun u=>decide (fJ q.gN u=(low:Int))))=if lH (((fJ H low).2.take i).filter (fun u=>decide (fJ q.gN u=(low:Int))))<0\/((fJ zs i:Nat):Int)<lH (((fJ H low).2.take i).filter (fun u=>decide (fJ q.gN u=(low:Int))))then((fJ zs i:Nat):Int)else lH (((fJ H low).2.take i).filter (fun u=>decide (fJ q.gN u=(low:Int)))):=by rw[Br an,qI,<-T,show List.filter (fun u=>decide (fJ q.gN u=(low:Int))) [fJ zs i]=[fJ zs i] by rw[GN (p:=(fun u=>decide (fJ q.gN u=(low:Int)))) (decide_eq_true o_)];rfl];exact JP
         rw[<-aq,if_pos o_]at ao
         exact again ((i+1),(k+1),fM zs k (fun _=>(fJ zs i)),(((fJ zs i):Nat):Int)) ⟨rfl,gj rO,rfl,rfl,rfl,gj rO,trivial⟩ (⟨a,ap,ao.symm⟩) (by show ((fJ H low).2.length-(i+1):Nat)<(fJ H low).2.length-i;omega)
       . refine fK a 4 ?_
         by_cases ag:((((fJ zs i):Nat):Int):Int)<(m:Int)
         . refine fP a 15 ?_
           refine tN (?_)
           have ap:=hT.keep an (P:=(fun u=>decide (fJ q.gN u=(low:Int)))) (by rw[<-T];exact decide_eq_true o_) T
           have ao:lH (((fJ H low).2.take (i+1)).filter (fun u=>decide (fJ q.gN u=(low:Int))))=if lH (((fJ H low).2.take i).filter (fun u=>decide (fJ q.gN u=(low:Int))))<0\/((fJ zs i:Nat):Int)<lH (((fJ H low).2.take i).filter (fun u=>decide (fJ q.gN u=(low:Int))))then((fJ zs i:Nat):Int)else lH (((fJ H low).2.take i).filter (fun u=>decide (fJ q.gN u=(low:Int)))):=by rw[Br an,qI,<-T,show List.filter (fun u=>decide (fJ q.gN u=(low:Int))) [fJ zs i]=[fJ zs i] by rw[GN (p:=(fun u=>decide (fJ q.gN u=(low:Int)))) (decide_eq_true o_)];rfl];exact JP
           rw[<-aq,if_pos o_]at ao
           exact again ((i+1),(k+1),fM zs k (fun _=>(fJ zs i)),(((fJ zs i):Nat):Int)) ⟨rfl,gj rO,rfl,rfl,rfl,gj rO,trivial⟩ (⟨a,ap,ao.symm⟩) (by show ((fJ H low).2.length-(i+1):Nat)<(fJ H low).2.length-i;omega)
         . refine fP a 12 ?_
           refine tN (?_)
           have ap:=hT.keep an (P:=(fun u=>decide (fJ q.gN u=(low:Int)))) (by rw[<-T];exact decide_eq_true o_) T
           have ao:lH (((fJ H low).2.take (i+1)).filter (fun u=>decide (fJ q.gN u=(low:Int))))=if lH (((fJ H low).2.take i).filter (fun u=>decide (fJ q.gN u=(low:Int))))<0\/((fJ zs i:Nat):Int)<lH (((fJ H low).2.take i).filter (fun u=>decide (fJ q.gN u=(low:Int))))then((fJ zs i:Nat):Int)else lH (((fJ H low).2.take i).filter (fun u=>decide (fJ q.gN u=(low:Int)))):=by rw[Br an,qI,<-T,show List.filter (fun u=>decide (fJ q.gN u=(low:Int))) [fJ zs i]=[fJ zs i] by rw[GN (p:=(fun u=>decide (fJ q.gN u=(low:Int)))) (decide_eq_true o_)];rfl];exact JP
           rw[<-aq,if_neg o_]at ao
           exact again ((i+1),(k+1),fM zs k (fun _=>(fJ zs i)),m) ⟨rfl,rfl,rfl,rfl,rfl,gj rO,trivial⟩ (⟨a,ap,ao.symm⟩) (by show ((fJ H low).2.length-(i+1):Nat)<(fJ H low).2.length-i;omega)
     . refine fP e 12 ?_
       refine tN (?_)
       have ap:=hT.skip an (P:=(fun u=>decide (fJ q.gN u=(low:Int)))) (by rw[<-T];exact decide_eq_false o_)
       have ao:lH (((fJ H low).2.take (i+1)).filter (fun u=>decide (fJ q.gN u=(low:Int))))=lH (((fJ H low).2.take i).filter (fun u=>decide (fJ q.gN u=(low:Int)))):=by rw[Br an,qI,<-T,show List.filter (fun u=>decide (fJ q.gN u=(low:Int))) [fJ zs i]=[] by rw[List.filter_cons_of_neg (p:=(fun u=>decide (fJ q.gN u=(low:Int)))) (by rw[decide_eq_true_iff];omega)];rfl,xq]
       exact again ((i+1),k,zs,m) ⟨rfl,rfl,rfl,rfl,rfl,gj rO,trivial⟩ (⟨e,ap,aq.trans ao.symm⟩) (by show ((fJ H low).2.length-(i+1):Nat)<(fJ H low).2.length-i;omega)
   . have aA:i=(fJ H low).2.length:=by omega
     refine fK au 1 ?_
     rw[aA]at hT
     have aJ:=hT.done
     have aT:=hT.aaP
     rw[aA,tq]at aq
     have aS:=tc (fun u=>decide (fJ q.gN u=(low:Int))) (fJ H low).2
     have aK:k<=zs.length:=by omega
     refine gD au 10 ?_
     have E:St _ [blk F 293 [q.dv,q.mv,(Za low)],fL fW q.dv 3 1 q.gN,fL iH q.mv 37 1 H,fL fS (jB 1 (fJ H low).1 0 k) 3 1 (zs.take k),(oK fS 3 (H.eraseIdx low))] C:=St.KT au (i:=3) rfl f_ aK
     refine nN E 9 fun ah g=>?_
     refine mv (v:=(jB 1 (fJ H low).1 0 k)) rfl rfl (fK g 1 ?_)
     refine iz (f:=(fun _=>((jB 1 (fJ H low).1 0 k),zs.take k))) 2 g (fun ai t=>?_) (hvs:=(cells_one (yr g (i:=3) rfl))) (h1:=(gX (yr g (i:=3) rfl) j4))
     refine fK t 4 ?_
     have G:=yg [3,4,0,1,2] t
     have b:=St.CE G o_
     have ar:gE.left (⟨q.gN,H.map (·.2),low⟩:gE) low=((fJ H low).2.filter (fun u=>decide (fJ q.gN u=(low:Int)))):=by unfold gE.left;show List.filter _ (fJ (H.map (·.2)) low)=_;rw[Fs aB]
     have av:(fM H low (fun _=>((jB 1 (fJ H low).1 0 k),zs.take k))).map (·.2)=fM (H.map (·.2)) low (fun _=>gE.left (⟨q.gN,H.map (·.2),low⟩:gE) low):=by rw[Rc,ar,aJ]
     have ax:gE.ok n ⟨q.gN,(fM H low (fun _=>((jB 1 (fJ H low).1 0 k),zs.take k))).map (·.2),low⟩ c:=by rw[av];exact aF.clean
     refine fK b 1 ?_
     by_cases aj:(m:Int)≥(0:Int)
     . have aw:((fJ H low).2.filter (fun u=>decide (fJ q.gN u=(low:Int)))).length≠0:=fun h=>by have:=JO.2 h;omega
       have az:=ay.trans (gE.aez (B:=(⟨q.gN,H.map (·.2),low⟩:gE)) (by show low<(H.map (·.2)).length;omega) (by rw[ar];exact aw))
       refine fK b 1 ?_
       rw[ar]at az
       have aM:=JI aw
       have aN:pe ((fJ H low).2.filter (fun u=>decide (fJ q.gN u=(low:Int))))<n:=aD.2 _ (z6.1 aM).1
       have aC:lH ((fJ H low).2.filter (fun u=>decide (fJ q.gN u=(low:Int))))=((pe ((fJ H low).2.filter (fun u=>decide (fJ q.gN u=(low:Int)))):Nat):Int):=if_neg aw
       generalize pe ((fJ H low).2.filter (fun u=>decide (fJ q.gN u=(low:Int))))=v at az aN aC
       obtain rfl:m=(v:Int):=aq.trans aC
       refine fK b 13 ?_
       refine cmp rfl rfl rfl (lG o_) (fK b 13 ?_)
       refine iz (f:=(fun _ => -1)) (cf:=fW) 2 b (fun ak I=>?_)
       refine jV I 15 fun al J=>?_
       refine iD (v:=(Za v)) (v' := (Za low)) Tryz.results96 rfl rfl ?_
       have K:=yg [1,2,3,0] J
       exact .inl ⟨v,(⟨q.dv,q.mv,fM q.gN v (fun _=>(-1:Int)),(fM H low (fun _=>((jB 1 (fJ H low).1 0 k),zs.take k))),low⟩:Bq),rfl,(gE.afx az).trans (by rw[ar]at av;rw[<-av];rfl),yi (yc [_,_,_,_] _ K)⟩
     . have aU:m = -1:=by rw[aq];exact if_pos (JO.1 o_)
       have aL:(gE.left (⟨q.gN,H.map (·.2),low⟩:gE) low).length=0:=by rw[ar];exact JO.1 o_
       have aO:gE.ok n ⟨q.gN,(fM H low (fun _=>((jB 1 (fJ H low).1 0 k),zs.take k))).map (·.2),low+1⟩ c:=⟨ax.dl,ax.dv,ax.mv,by show low+1<=((fM H low (fun _=>((jB 1 (fJ H low).1 0 k),zs.take k))).map (·.2)).length;rw[zq,gx];omega⟩
       refine jV b 17 fun am L=>?_
       refine tN (?_)
       have M:=yg [1,2,3,0] L
       exact again ((fM H low (fun _=>((jB 1 (fJ H low).1 0 k),zs.take k))),(low+1)) ⟨rfl,gj rO,trivial⟩ (⟨M,ay.trans (gE.aeA (B:=(⟨q.gN,H.map (·.2),low⟩:gE)) (by show low<(H.map (·.2)).length;omega) aL |>.trans (by show _=(⟨q.gN,(fM H low (fun _=>((jB 1 (fJ H low).1 0 k),zs.take k))).map (·.2),(low+1)⟩:gE).scan (((fM H low (fun _=>((jB 1 (fJ H low).1 0 k),zs.take k))).map (·.2)).length-(low+1));rw[<-av];first|done|rfl)),aO,by rw[gx];exact aI⟩) (by show (fM H low _).length-(low+1)<H.length-low;rw[gx];omega)
 . refine fP d 26 ?_
   refine iD (v:=Zw) (v' := Zc) Tryz.results96 rfl rfl ?_
   exact .inr ⟨(⟨q.dv,q.mv,q.gN,H,low⟩:Bq),rfl,gE.afv (ay.trans (gE.aey (B:=(⟨q.gN,H.map (·.2),low⟩:gE)) (by show ¬ low<(H.map (·.2)).length;omega))),yi (yc [_,_,_,_] _ d)⟩
theorem ae7(F n:Nat)(q:Gr)(es:List Ge)(w:World)(hO:Own (Gr.R F n q es) w)(hn:n<=4096)(hg:mj n es)(hm:es.length<=16384) :
 CR ya 95 (Zi F) w (fun r w' => ∃ (bb:Nat) (q2:Bq),r = .pointer (some ⟨bb,0,none⟩)/\q2.m=gE.init (gK n es) n/\fV (Gr.R F n q es) w w' (gm [(Gr.R F n q es),(Bq.R bb q2)])):=by
 refine en Tryz.func95 Tryz.ntmps95 ?_
 have aF:=yq hO
 refine fR aF 8 ?_
 refine cl AE (AK F n q es w (ye aF 0 rfl) hn) ?_
 rintro _ ac ⟨rfl,ht⟩
 have J:=yj 0 aF ht
 refine nY (cf:=fW) (z0:=0) (m:=n) (c:=n) rfl rfl rfl yd gr rfl f_ d_ (zj _) o_ o_ J ?_
 intro C K ad ae L
 have t:St _ [fL fW (.slice (some ⟨C,0,none⟩) n n) 3 1 (List.replicate n 0),(Gr.R F n q es)] K:=kZ (cf:=fW) L (i:=0) rfl f_ (zj _) (by simp only[maxLen];omega)
 generalize (Value.slice (some ⟨C,0,none⟩) n n)=d at t ⊢
 refine jc (pvs:=[(0,d)]) (v:=.agg #[d,Zg,Zc]) rfl rfl (jo [(0,[d])] TV adn rfl ⟨rfl,(cells_one (yr t (i:=0) rfl)),trivial⟩ rfl) (iC t (fun g af ag ah o=>?_))
 refine fK o 15 ?_
 refine iM (m:=(List.replicate n 0).length) 1 rfl rfl yd o rfl ?_
 have M:=yw 1 o rfl (congrArg (fL fW d 3 1) ((Ww (A:=(gK n es)) (n:=n)).symm))
 have aO:(List.replicate n (0:Int)).length=n:=qh
 refine gD o 4 ?_
 refine lp (α:=Nat) (fun v=>[(0,(Zb F)),(3,(Zb g)),(4,(Za (kD (gK n es) v:Int))),(17,(Za n)),(18,(Za v))]) (fun v w1=>St [(w,(Gr.R F n q es).gH)] [blk g 293 [d,Zg,Zc],fL fW d 3 1 (mK (gK n es) n v),(Gr.R F n q es)] w1/\v<=n) (fun v=>n-v) 0 ⟨rfl,rfl,gj rO,gj rO,gj rO,trivial⟩ (⟨M,o_⟩) ?_
 rintro v ai aj ⟨aD,hv⟩
 have aJ:=Is (A:=(gK n es)) (n:=n) (v:=v)
 refine fR aD 2 ?_
 by_cases ak:((v:Int):Int)<((n:Int):Int)
 . have T:v<n:=by omega
   refine gD aD 16 ?_
   refine kC mixed [([0,1,2,3,4,5,6,7],[3])] [8,9] aD (fun N u=>jA ?_)
   refine fK u 7 ?_
   refine cl Xj (ZQ F n q es N (ye u 2 rfl) hn hm v T) ?_
   rintro _ al ⟨rfl,ht⟩
   have y:=yj 2 u ht
   refine fP y 1 ?_
   refine kn (kF ?_)
   refine fK y 1 ?_
   refine iz (f:=(fun _=>((fJ (gK n es) v).length:Int))) 1 y (fun am D=>?_)
   refine fK D 3 ?_
   have z:=yw 1 D rfl (congrArg (fL fW d 3 1) (Wv (A:=(gK n es)) (n:=n) T))
   have aK:=Is (A:=(gK n es)) (n:=n) (v:=v+1)
   refine fK z 8 ?_
   refine max2 (a:=(kD (gK n es) v:Int)) (b:=(fJ (mK (gK n es) n (v+1)) v)) (c:=(kD (gK n es) (v+1):Int)) rfl rfl rfl (by rw[Oz T,Gg];exact Re) (fP z 8 ?_)
   refine tN (?_)
   have aQ:=Gg (A:=(gK n es)) (v:=v)
   have aI:=Oz (A:=(gK n es)) T
   exact again (v+1) ⟨rfl,rfl,gj rO,rfl,gj rO,trivial⟩ (⟨z,o_⟩) (by show (n-(v+1):Nat)<n-v;omega)
 . have aE:n=v:=by omega
   refine fK aD 1 ?_
   subst aE
   have aP:=LR (A:=(gK n es)) (n:=n) (m:=32768) (fun j hj=>by rw[Aq hj,xL,Ar hj];have:=vj (es:=es) hj;omega) (zj n)
   refine fK aD 13 ?_
   refine ar (e:=((kD (gK n es) n+1:Nat):Int)) rfl rfl rfl rfl iW (nY (cf:=iH) (z0:=((.slice none 0 0,[]):Value×List Nat)) (m:=(kD (gK n es) n+1)) (c:=(kD (gK n es) n+1)) rfl rfl rfl GF j3 rfl f_ d_ (zj _) o_ o_ aD ?_)
   intro E O an ao P
   have k:St _ [fL iH (.slice (some ⟨E,0,none⟩) (kD (gK n es) n+1) (kD (gK n es) n+1)) 37 1 (List.replicate (kD (gK n es) n+1) ((.slice none 0 0,[]):Value×List Nat)),blk g 293 [d,(.slice none 0 0),(.int .i64 0)],fL fW d 3 1 (mK (gK n es) n n),(Gr.R F n q es)] O:=kZ (cf:=iH) P (i:=0) rfl f_ (zj _) (by simp only[maxLen];omega)
   generalize (Value.slice (some ⟨E,0,none⟩) (kD (gK n es) n+1) (kD (gK n es) n+1))=h at k ⊢
   refine fK k 2 ?_
   refine jM 1 k (fun Q p=>?_) (hvs:=(cells_one (yr k (i:=0) rfl))) (h1:=(gX (yr k (i:=0) rfl) j4))
   refine fK p 9 ?_
   refine iM (m:=(mK (gK n es) n n).length) 2 rfl rfl yd p rfl ?_
   have S:St _ [(oK fS 3 (List.replicate (kD (gK n es) n+1) ((.slice none 0 0,[]):Value×List Nat))),fL iH h 37 1 (List.replicate (kD (gK n es) n+1) ((.slice none 0 0,[]):Value×List Nat)),blk g 293 [d,h,Zc],fL fW d 3 1 (mK (gK n es) n n),(Gr.R F n q es)] Q:=St.E1 (kD (gK n es) n+1) p
   have U:=yg [2,3,1,0,4] S
   refine gD p 4 ?_
   refine lp (α:=Nat×List (Value×List Nat)) (fun(v,H)=>[(3,(Zb g)),(49,d),(50,(Za n)),(51,(Za v))]) (fun(v,H) w1=>St [(w,(Gr.R F n q es).gH)] [blk g 293 [d,h,Zc],fL fW d 3 1 (mK (gK n es) n n),fL iH h 37 1 H,(oK fS 3 H),(Gr.R F n q es)] w1/\sJ (gK n es) n v H/\v<=n) (fun(v,H)=>n-v) (0,(List.replicate (kD (gK n es) n+1) ((.slice none 0 0,[]):Value×List Nat))) ⟨rfl,rfl,gj rO,gj rO,trivial⟩ (⟨U,sJ.start,o_⟩) ?_
   rintro⟨v,H⟩ ap aq ⟨aC,hM,hv⟩
   have aH:=hM.1
   have aL:=Is (A:=(gK n es)) (n:=n) (v:=n)
   refine fR aC 2 ?_
   by_cases au:((v:Int):Int)<((n:Int):Int)
   . have T:v<n:=by omega
     have aG:=Wu (A:=(gK n es)) T
     have aM:=Gf (A:=(gK n es)) T
     have aN:=hM.len (show (fJ (gK n es) v).length<kD (gK n es) n+1 by omega)
     refine fK aC 13 ?_
     refine jd (cf:=fW) rfl rfl yf rfl (y0 aC 1 rfl) (gy om) rfl ?_
     rw[aG]
     refine gD aC 4 ?_
     have V:=yg [3,0,1,2,4] aC
     have W:=ug ((fJ (gK n es) v).length) V o_
     refine kC mixed [([0,1,2,3,4,5,6,7,8,9,10,11,12,13],[3,8,11]),([14],[3])] [15,16] W (fun av G=>jA ?_)
     refine fK G 13 ?_
     refine jJ (vs:=(Zd v)) (cs:=(Zd v)) rfl rfl yd gr rfl (by simp[Value.cells]) rfl rfl rfl G (fun X aw ax ay B=>fP B 1 ?_)
     refine kn (jA ?_)
     refine k8 (cf:=fS) (ys:=(fJ H ((fJ (gK n es) v).length)).2) (zs:=[v]) (LL:=fun s=>[ig .i64 (Zy X) 3 ([(v:Int)]),fL fS s 3 1 (((fJ H ((fJ (gK n es) v).length)).2)++[v]),(oK fS 3 (H.eraseIdx ((fJ (gK n es) v).length))),blk g 293 [d,h,Zc],fL fW d 3 1 (mK (gK n es) n n),fL iH h 37 1 H,(Gr.R F n q es)]) 1 rfl rfl rfl yd gr rfl d_ B rfl (kG B (i:=0) rfl) (fun x hx=>zk.1 (show List.all _ _=true from rfl) x hx) (by simp only[zb,zg,maxLen];omega) (by simp only[zb,zg,maxLen];omega) f_ ?_
     intro s az Y aA
     have l:=yg [1,2,3,4,5,6] Y
     refine fP l 1 ?_
     refine kn (kF ?_)
     refine fK l 1 ?_
     refine iz (f:=(fun _=>(s,(fJ H ((fJ (gK n es) v).length)).2++[v]))) 4 l (fun aB I=>?_) (hvs:=(cells_one (yr l (i:=0) rfl))) (h1:=(gX (yr l (i:=0) rfl) j4))
     refine fP I 7 ?_
     refine tN (?_)
     have Z:=St.CE I o_
     have aa:=yg [1,2,3,0,4] Z
     exact again ((v+1),(fM H ((fJ (gK n es) v).length) (fun _=>(s,(fJ H ((fJ (gK n es) v).length)).2++[v])))) ⟨rfl,rfl,rfl,gj rO,trivial⟩ (⟨aa,hM.next T rfl,o_⟩) (by show (n-(v+1):Nat)<n-v;omega)
   . refine fP aC 17 ?_
     refine gq (v:=(Zb g)) Tryz.results95 rfl ?_
     have aE:n=v:=by omega
     subst aE
     have ab:=yc [_,_,_,_] _ aC
     exact⟨g,(⟨d,h,mK (gK n es) n n,H,0⟩:Bq),rfl,(show gE.mk _ _ _=gE.mk _ _ _ by rw[Wt,hM.all];rfl),ym (yc [_,_] _ (lC ab (List.Perm.swap _ _ _))) za⟩
end
section
open Go Go.Sx
def yZ:Option Nat->Int
 | none => -1
 | some v=>(v:Int)
def T6(q:Bq):Option Nat->Int
 | none=>0
 | some _=>(q.low:Int)
theorem afR{o:Option Nat}(h:yZ o<0):o=none:=by
 cases o with
 | none=>rfl
 | some v=>exact absurd h (by show ¬ (v:Int)<0;omega)
theorem afS{o:Option Nat}(h:¬ yZ o<0):∃ v,o=some v:=by
 cases o with
 | none=>exact absurd (show (-1:Int)<0 by omega) h
 | some v=>exact⟨v,rfl⟩
abbrev MD(n:Nat)(es:List Ge)(v:Nat)(a:gE)(c:Nat)(x:Nat×Bq):Prop:=x.2.m=a.q7 ((fJ (gK n es) v).take x.1)/\x.2.m.ok n (c+x.1)/\x.1<=(fJ (gK n es) v).length
abbrev qL(n:Nat)(es:List Ge)(v:Nat)(a:gE)(c:Nat):Type:={x:Nat×Bq // MD n es v a c x}
theorem aft(b n c:Nat)(q:Bq)(w:World)(f:Own (Bq.R b q) w)(j:q.m.ok n c)(i:n<=4096)(g:c<=1000000000) :
 CR ya 96 (Zi b) w (fun r w' => ∃ (o:Option Nat) (a:Bq),r = .tuple (Zx (yZ o) (T6 a o))/\q.m.take=(a.m,o)/\fV (Bq.R b q) w w' (Bq.R b a)) :=
 CR.mono (afw b n c q w f j i g) fun r w' h=>by
  rcases h with ⟨v,a,rfl,d,e⟩|⟨a,rfl,d,e⟩
  . exact⟨some v,a,rfl,d,e⟩
  . exact⟨none,a,rfl,d,e⟩
theorem adU(f:Nat)(w:World) :
 CR ya 47 (Zi f) w (fun r w' => ∃ h,r = .func (.func 94) #[] (Zi h)/\fV (gm []) w w' (blk h 31 (Zf f))):=by
 refine en Tryz.func47 Tryz.ntmps47 ?_
 have g:=yu w
 refine fR g 2 ?_
 refine iC g (fun a c d e b=>?_)
 refine fK b 5 ?_
 refine mO (vf:=[]) (vc:=(Zf a)) rfl rfl rfl (fP b 4 ?_)
 refine gq (v:=(.func (.func 94) #[] (Zi a))) Tryz.results47 rfl ?_
 exact⟨a,rfl,nS b⟩
theorem adT{γ:Type}(Cl:γ->fT)(pr:γ->gE)(ct:γ->Nat)(z0:γ)(l kr T n:Nat)(q:Gr)(es:List Ge)(w:World)(hy:∀ (z:γ) (B:gE) (v:Nat) (bs:List (World×List Nat)) (L:List fT) (w1:World),ct z<n->(pr z).take=(B,some v)->v<n->B.low<=40000->St bs (Cl z :: L) w1->YR ya l (Zn v B.low) w1 (fun v' w' => v' = .bool true/\∃ z2,pr z2=B.q7 (fJ (gK n es) v)/\ct z2=ct z+1/\St bs (Cl z2 :: L) w'))(a9:ct z0=0)(aX:pr z0=gE.init (gK n es) n)(hO:Own (DS (Cl z0) kr T n q es) w)(hn:n<=4096)(hg:mj n es)(hm:es.length<=16384) :
 CR ya 94 (G6 (.func (.yield l) #[] #[]) kr) w (fun r w' => ∃ z:γ,r = .tuple #[]/\(ct z=n\/∃ B,(pr z).take=(B,none))/\fV (DS (Cl z0) kr T n q es) w w' (DS (Cl z) kr T n q es)):=by
 have aT:=NJ hg
 have aV:(gE.init (gK n es) n).mem.length<=32769:=by have:=LR (A:=gK n es) (n:=n) (m:=32768) (fun j hj=>by rw[Aq hj,xL,Ar hj];have:=vj (es:=es) hj;omega) (zj n);have h2:(gE.init (gK n es) n).mem.length=kD (gK n es) n+1:=(by simp[gE.init,LQ,kD]);omega
 refine xU (vs:=[(.func (.yield l) #[] #[]),(Zb kr)]) Tryz.func94 rfl Tryz.ntmps94 rfl ?_
 have aJ:=Own.of hO
 refine fR aJ 3 ?_
 refine cl YH (ae7 T n q es w (ye aJ 2 rfl) hn hg hm) ?_
 rintro _ al ⟨b,K,rfl,k,ht⟩
 have M:=yg [2,0,1] aJ
 have N:=yv (yj 0 M ht)
 refine iE N (fun d am an ao O=>?_)
 refine gI O 6 fun P C=>?_
 refine cl AE (AK T n q es P (ye C 1 rfl) hn) ?_
 rintro _ ap ⟨rfl,ht⟩
 have D:=yj 1 C ht
 have Q:=St.OB D
 have S:=yg [4,5,2,1,3,0] Q
 refine gD D 4 ?_
 refine Q8 (α:=Nat×γ×Bq×List Nat) (fun(i,z,q1,dl)=>dl) (fun(i,z,q1,dl)=>[(0,(.func (.yield l) #[] #[])),(1,(Zb kr)),(3,(Zb d)),(11,(Za n)),(12,(Za i))]) (fun(i,z,q1,dl) w1=>St [(w,(DS (Cl z0) kr T n q es).gH)] [(Cl z),blk kr 31 (Zf T),(Gr.R T n q es),blk d 195 (Zf b),(Bq.R b q1),(sQ dl)] w1/\ct z=i/\pr z=q1.m/\q1.m.ok n (32768*i)/\q1.m.mem.length<=32769/\i<=n) (fun(i,z,q1,dl)=>n-i) (0,z0,K,[]) ⟨rfl,rfl,rfl,rfl,gj rO,trivial⟩ (⟨S,a9,aX.trans k.symm,by rw[k,Nat.mul_zero];exact gE.Jo,by rw[k];exact aV,o_⟩) ?_
 rintro⟨i,z,q1,dl⟩ aq U ⟨aB,bc,aP,aH,bf,bd⟩
 refine fR aB 2 ?_
 by_cases ar:((i:Int):Int)<((n:Int):Int)
 . refine fK aB 12 ?_
   refine cl YI (aft b n (32768*i) q1 U (ye aB 4 rfl) aH hn o_) ?_
   rintro _ au ⟨o,a,rfl,p,ht⟩
   have f:=yj 4 aB ht
   refine fK f 11 ?_
   by_cases av:(yZ o:Int)<(0:Int)
   . have aW:=afR (by omega:yZ o<0)
     have V:=yg [5,0,1,2,3,4] f
     refine fP f 17 ?_
     refine E7 _ V ?_
     intro w8 aF
     have W:=yg [0,1,2] aF
     have aM:=p
     rw[aW,<-aP]at aM
     exact⟨_,results_none Tryz.results94 _ _ _,_,rfl,⟨z,rfl,.inr ⟨_,aM⟩,yi (yc [_,_,_] _ W)⟩⟩
   . obtain⟨v,rfl⟩:=afS (by omega:¬ yZ o<0)
     refine fK f 1 ?_
     rw[show yZ (some v)=(v:Int) from rfl,show T6 a (some v)=(a.low:Int) from rfl]
     have aK:=aH.take
     have aR:=aH.take_len
     rw[p]at aK aR
     have a6:v<n/\a.low<q1.m.mem.length:=aK.2 v rfl
     have aC:=a6.1
     have aN:a.m.ok n (32768*i):=aK.1
     obtain⟨F,aL⟩:∃ c,32768*i=c:=⟨_,rfl⟩
     rw[aL]at aN
     have bb:F<=200000000:=by omega
     have ba:MD n es v a.m F (0,a):=⟨rfl,aN,lD _⟩
     have bg:a.m.mem.length=q1.m.mem.length:=aR
     have aZ:(pr z).take=(a.m,some v):=by rw[aP];exact p
     refine fK f 4 ?_
     refine yl (vl:=(Zn v a.low)) rfl rfl rfl (hy z a.m v _ _ _ o_ aZ aC (show a.low<=40000 by omega) f) ?_
     rintro _ X ⟨rfl,s,Y,aw,E⟩
     refine fK E 11 ?_
     refine cl PM (Qi T v X) ?_
     rintro _ ax ⟨g,h,rfl,ht⟩
     have G:=yv (jR E ht)
     have aD:(fJ (gK n es) v)=iV n es v:=Aq aC
     have be:(fJ (gK n es) v).length<=32768:=by rw[aD,xL,Ar aC];have:=vj (es:=es) aC;omega
     have Z:=yg [5,6,0,1,4,2,3,7] G
     refine gD G 3 ?_
     refine rf (α:=qL n es v a.m F) (ps:=[31,32]) (fi:=[]) (ca:=(qp g h)) (fun x=>[blk d 195 (Zf b),(Bq.R b x.1.2),blk g 31 (Zf T),blk h 3 (Zd v),(Gr.R T n q es),(Cl s),blk kr 31 (Zf T),(sQ dl)]) (fun x=>x.1.1=(iV n es v).length) Z rfl OW ?_ ?_
     . intro fn dd l wl rc aI a4
       have aa:=yg [0,2,3,1,4,5,6,7,8,9] a4
       have aY:=yc (D2 (iT l rc) d b a) [jK dd (some []),blk g 31 (Zf T),blk h 3 (Zd v),(Gr.R T n q es),(Cl s),blk kr 31 (Zf T),(sQ dl)] aa
       have aQ:rc.state = .ready:=by rw[aI]
       have a1:rc.pending=none:=by rw[aI]
       have a2:∀ (z:qL n es v a.m F) (bs:List (World×List Nat)) (L:List fT) (w1:World),(fun x:qL n es v a.m F=>x.1.1) z<(iV n es v).length->St bs ((fun(x:qL n es v a.m F)=>gm (D2 (iT l rc) d b x.1.2)) z :: L) w1->YR ya l (Zn (((fJ (iV n es v) ((fun x:qL n es v a.m F=>x.1.1) z)).e:Nat):Int) (((fJ (iV n es v) ((fun x:qL n es v a.m F=>x.1.1) z)).t:Nat):Int)) w1 (fun rv w' => rv = .bool true/\∃ z2,(fun x:qL n es v a.m F=>x.1.1) z2=(fun x:qL n es v a.m F=>x.1.1) z+1/\St bs ((fun(x:qL n es v a.m F)=>gm (D2 (iT l rc) d b x.1.2)) z2 :: L) w'):=by
        intro x bs LT wr aE aG
        have aG:=aG.unpack
        have aU:(fJ (gK n es) v).length=(iV n es v).length:=congrArg List.length aD
        have aE:x.1.1<(fJ (gK n es) v).length:=Nat.lt_of_lt_of_eq aE aU.symm
        have bh:=x.2.2.2
        have aS:(fJ (iV n es v) x.1.1).t<n:=(congrArg (fun l:List Lk=>(fJ l x.1.1).t) aD)▸aT.t v aC _ (nj aE)
        refine wO (vl:=(Zn (((fJ (iV n es v) x.1.1).e:Nat):Int) (((fJ (iV n es v) x.1.1).t:Nat):Int))) 0 aI aG rfl rfl rfl (iO aG 3 ?_)
        refine tN (?_)
        refine xN 0 aG rfl aQ rfl (fun ab u=>fR u 4 ?_)
        refine cl YJ (abi b n (F+x.1.1) x.1.2 ab (ye u 2 rfl) x.2.2.1 hn o_ ((fJ (iV n es v) x.1.1).t) aS) ?_
        rintro _ ay ⟨y,rfl,H,ht⟩
        have I:=yj 2 u ht
        refine fP I 2 ?_
        refine xR 0 I rfl aQ a1 rfl ?_
        intro az ac
        have a7:y.m=gE.q7 a.m ((fJ (gK n es) v).take (x.1.1+1)):=by rw[gE.abl aE,<-x.2.1,show fJ (fJ (gK n es) v) x.1.1=fJ (iV n es v) x.1.1 from congrArg (fun l:List Lk=>fJ l x.1.1) aD];exact H
        have a8:y.m.ok n (F+(x.1.1+1)):=by rw[H];exact x.2.2.1.lose aS
        exact⟨_,rfl,rfl,(⟨(x.1.1+1,y),a7,a8,aE⟩:qL n es v a.m F),rfl,yc [_,_,_] _ ac⟩
       have ad:=lC aY (List.Perm.cons _ (List.Perm.swap _ _ _))
       have ae:=yg [0,1,3,4,2,5,6,7] ad
       have aO:=yc [_,_,_,_] _ ae
       refine CR.mono (Qh (fun(x:qL n es v a.m F)=>gm (D2 (iT l rc) d b x.1.2)) (fun x:qL n es v a.m F=>x.1.1) (⟨(0,a),ba⟩:qL n es v a.m F) l g h T n q es v wl a2 rfl (ye aO 0 rfl) hn hg hm aC) ?_
       rintro _ w9 ⟨x,-,a0,a5⟩
       have aF:=yv (yk aO a5)
       have a3:=aF
       have af:=yg [0,6,1,2,3,4,5,7,8,9] a3
       exact⟨x,a0,af⟩
     . rintro x dd aA hC J
       refine r8 tt none J 7 ?_
       refine tN (?_)
       have ag:=yg [0,8,1,2,3,4,5,6,7] J
       have ah:=St.OC ag
       have ai:=yg [6,7,5,1,2,0] ah
       exact NM ((i+1),s,x.1.2,(dd :: dl)) ⟨rfl,rfl,rfl,rfl,gj rO,trivial⟩ (⟨ai,o_,(Y.trans (by rw[x.2.1,hC,<-aD,tq])),(x.2.2.1.more (by rw[Nat.mul_succ,aL];omega)),(by rw[x.2.1,gE.Q7];omega),o_⟩) (by show (n-(i+1):Nat)<n-i;omega)
 . skip
   have aj:=yg [5,0,1,2,3,4] aB
   refine fP aB 9 ?_
   refine E7 _ aj ?_
   intro w8 aF
   have ak:=yg [0,1,2] aF
   exact⟨_,results_none Tryz.results94 _ _ _,_,rfl,⟨z,rfl,.inl o_,yi (yc [_,_,_] _ ak)⟩⟩
theorem RD(F n:Nat)(q:Gr)(es:List Ge)(w:World)(hO:Own (Gr.R F n q es) w)(hn:n<=4096)(hg:mj n es)(hm:es.length<=16384) :
 CR ya 15 (Zi F) w (fun r w' => ∃ v:Value,v=r/\fV (Gr.R F n q es) w w' (gm [(Gr.R F n q es),fL fS v 3 1 (tT (gK n es) n)])):=by
 refine xU (vs:=(Zf F)) Tryz.func15 rfl Tryz.ntmps15 rfl ?_
 have an:=yq hO
 refine fR an 8 ?_
 refine cl AE (AK F n q es w (ye an 0 rfl) hn) ?_
 rintro _ U ⟨rfl,ht⟩
 have A:=yj 0 an ht
 refine nY (cf:=fS) (z0:=0) (m:=n) (c:=n) rfl rfl rfl yd gr rfl f_ d_ (zj _) o_ o_ A ?_
 intro o C V W D
 have p:St _ [fL fS (.slice (some ⟨o,0,none⟩) n n) 3 1 (List.replicate n 0),(Gr.R F n q es)] C:=kZ (cf:=fS) D (i:=0) rfl f_ (zj _) (by simp only[maxLen];omega)
 generalize (Value.slice (some ⟨o,0,none⟩) n n)=d at p ⊢
 refine iE p (fun e X Y Z k=>?_)
 refine jM 0 k (fun aa s=>?_) (hvs:=(cells_one (yr k (i:=1) rfl))) (h1:=(gX (yr k (i:=1) rfl) j4))
 refine fK s 4 ?_
 refine iE s (fun g ab ac ad E=>?_)
 refine gI E 7 fun G H=>?_
 refine cl Ym (adU F G) ?_
 rintro _ ae ⟨j,rfl,ht⟩
 have t:=(jR H ht)
 have I:=yg [2,3,1,0,4] t
 refine gD t 3 ?_
 refine rf (α:={z:Nat×jN // k7 (gK n es) n z.1 z.2/\z.2.top<=40000}) (ps:=[12,13]) (fi:=[]) (ca:=(Zf j)) (fun z=>[blk e 37 [d],fL fS d 3 1 z.1.2.num,blk g 3 (Zd z.1.2.top),blk j 31 (Zf F),(Gr.R F n q es)]) (fun z=>z.1.1=n\/∃ B,z.1.2.b.take=(B,none)) I rfl YG ?_ ?_
 . intro fn dd l wl rc al az
   have J:=yg [0,2,3,4,1,5,6] az
   have au:=yc [iT l rc,blk e 37 [d],fL fS d 3 1 (List.replicate n 0),blk g 3 Am] [jK dd (some []),blk j 31 (Zf F),(Gr.R F n q es)] J
   have aq:rc.state = .ready:=by rw[al]
   have aw:rc.pending=none:=by rw[al]
   have ax:∀ (z:{z:Nat×jN // k7 (gK n es) n z.1 z.2/\z.2.top<=40000}) (B:gE) (v:Nat) (bs:List (World×List Nat)) (L:List fT) (w1:World),(fun z:{z:Nat×jN // k7 (gK n es) n z.1 z.2/\z.2.top<=40000}=>z.1.1) z<n->((fun z:{z:Nat×jN // k7 (gK n es) n z.1 z.2/\z.2.top<=40000}=>z.1.2.b) z).take=(B,some v)->v<n->B.low<=40000->St bs ((fun(z:{z:Nat×jN // k7 (gK n es) n z.1 z.2/\z.2.top<=40000})=>gm (Hv (iT l rc) e d z.1.2 g)) z :: L) w1->YR ya l (Zn v B.low) w1 (fun v' w' => v' = .bool true/\∃ z2,(fun z:{z:Nat×jN // k7 (gK n es) n z.1 z.2/\z.2.top<=40000}=>z.1.2.b) z2=B.q7 (fJ (gK n es) v)/\(fun z:{z:Nat×jN // k7 (gK n es) n z.1 z.2/\z.2.top<=40000}=>z.1.1) z2=(fun z:{z:Nat×jN // k7 (gK n es) n z.1 z.2/\z.2.top<=40000}=>z.1.1) z+1/\St bs ((fun(z:{z:Nat×jN // k7 (gK n es) n z.1 z.2/\z.2.top<=40000})=>gm (Hv (iT l rc) e d z.1.2 g)) z2 :: L) w'):=by
    intro z B v bs LT wr ak ao aD aB T
    have T:=T.unpack
    have aC:=z.2.1.2.2
    have ak:z.1.1<n:=ak
    have ao:z.1.2.b.take=(B,some v):=ao
    refine wO (vl:=(Zn v B.low)) 0 al T rfl rfl rfl (iO T 8 ?_)
    refine tN (?_)
    refine xN 0 T rfl aq rfl (fun af u=>fR u 5 ?_)
    refine max2 (a:=(z.1.2.top:Int)) (b:=(B.low:Int)) (c:=((max z.1.2.top B.low:Nat):Int)) rfl rfl rfl o_ (gI u 8 fun ag K=>?_)
    refine iz (f:=(fun _=>(max z.1.2.top B.low))) 2 K (fun ah x=>?_)
    refine fP x 2 ?_
    refine xR 0 x rfl aq aw rfl ?_
    intro ai M
    exact⟨_,rfl,rfl,(⟨(z.1.1+1,⟨B.q7 (fJ (gK n es) v),max z.1.2.top B.low,fM z.1.2.num v (fun _=>max z.1.2.top B.low)⟩),k7.next z.2.1 ak ao,by have:=z.2.2;show max z.1.2.top B.low<=40000;omega⟩:{z:Nat×jN // k7 (gK n es) n z.1 z.2/\z.2.top<=40000}),rfl,rfl,yc [_,_,_,_] _ M⟩
   have N:=lC au (List.Perm.cons _ (List.Perm.swap _ _ _))
   have O:=yg [0,1,3,2] N
   have ap:=yc [_,_,_] _ O
   refine CR.mono (adT (fun(z:{z:Nat×jN // k7 (gK n es) n z.1 z.2/\z.2.top<=40000})=>gm (Hv (iT l rc) e d z.1.2 g)) (fun z:{z:Nat×jN // k7 (gK n es) n z.1 z.2/\z.2.top<=40000}=>z.1.2.b) (fun z:{z:Nat×jN // k7 (gK n es) n z.1 z.2/\z.2.top<=40000}=>z.1.1) (⟨(0,⟨gE.init (gK n es) n,0,List.replicate n 0⟩),k7.start,lD _⟩:{z:Nat×jN // k7 (gK n es) n z.1 z.2/\z.2.top<=40000}) l j F n q es wl ax rfl rfl (ye ap 0 rfl) hn hg hm) ?_
   rintro _ w9 ⟨z,-,av,aA⟩
   have am:=yv (yk ap aA)
   have ay:=am
   have P:=yg [0,6,1,2,3,4,5] ay
   exact⟨z,av,P⟩
 . rintro z dd aj hC y
   have ar:z.1.2.num=tT (gK n es) n:=hC.elim (fun h=>k7.all (show k7 (gK n es) n n z.1.2 from by have h9:=z.2.1;rw[h]at h9;exact h9)) (fun⟨B,h⟩=>z.2.1.stop h)
   refine r8 tt none y 9 ?_
   refine AT 0 y rfl rfl ?_
   intro w8 am
   have Q:=yg [5,2] am
   have S:=yw 1 Q rfl (congrArg (fL fS d 3 1) (ar))
   exact⟨_,results_tmp Tryz.results15 _ _ _,_,rfl,by rw[qW];exact⟨d,rfl,yi (yc [_,_] _ S)⟩⟩
end
section
open Go Go.Sx
def sF(n:Nat)(es:List Ge)(ys:List Int):Prop:=∃ l,(BQ n es l/\(∀ x∈l,0<=x/\x<(es.length:Int))/\l.length<=n)/\ys.Perm l/\lZ ys ys.length
theorem lZ.pw{ys:List Int}(h:lZ ys ys.length):ys.Pairwise (· <= ·):=by
 rw[uq]
 intro i j hi a b
 have:=h i j b a
 rwa [iK (zm hi),iK (zm a)]at this
theorem sF.uniq{n:Nat}{es:List Ge}{ys zs:List Int}(h:sF n es ys)(c:sF n es zs):ys=zs:=by
 obtain⟨l,e,f,g⟩:=h
 obtain⟨m,i,j,k⟩:=c
 obtain rfl:=e.1.uniq i.1
 exact List.Perm.eq_of_pairwise (fun a b _ _ d c=>Int.le_antisymm d c) (lZ.pw g) (lZ.pw k) (f.trans j.symm)
theorem sF.AQ{n:Nat}{es:List Ge}{ys:List Int}(h:sF n es ys){k:Nat}(hk:k<ys.length):0<=fJ ys k/\fJ ys k<(es.length:Int):=by
 obtain⟨l,a,b,_⟩:=h
 exact a.2.1 _ (b.subset (nj hk))
theorem sF.len{n:Nat}{es:List Ge}{ys:List Int}(h:sF n es ys):ys.length<=n:=by
 obtain⟨l,a,b,_⟩:=h
 rw[b.length_eq];exact a.2.2
def nO(L:List Lv)(ys:List Int)(k:Nat):List Int:=(ys.take k).map fun i=>(fJ L i.toNat).seq
theorem Tk{L:List Lv}{ys:List Int}{k:Nat}(h:k<ys.length):nO L ys (k+1)=nO L ys k++[(fJ L (fJ ys k).toNat).seq]:=by
 unfold nO
 rw[oU,gy h,qd]
 rfl
theorem Lg{L:List Lv}{ys:List Int}{k:Nat}:(nO L ys k).length<=k:=by
 unfold nO
 rw[zq,zw]
 omega
theorem N1(x n:Nat)(q:Gr)(es:List Ge)(w:World)(z:Own (Gr.R x n q es) w)(F:n<=12)(A:mj n es)(hm:es.length<=16384) :
 CR ya 10 (Zi x) w (fun r w' => ∃ (v:Value) (ys:List Int),v=r/\sF n es ys/\fV (Gr.R x n q es) w w' (gm [(Gr.R x n q es),fL fW v 3 1 ys])):=by
 refine en Tryz.func10 Tryz.ntmps10 ?_
 have y:=yq z
 have B:n<=4096:=by omega
 refine fR y 7 ?_
 refine iE y (fun a d s t e=>?_)
 refine fK e 5 ?_
 refine mO (vf:=[]) (vc:=(Zf a)) rfl rfl rfl ?_
 have i:St _ [fL fW Zg 3 1 ([]),blk a 37 o4,(Gr.R x n q es)] d:=oQ e 3 1
 have j:=yg [2,1,0] i
 have f:=yc [_,_,_] _ j
 refine cl Yi (Vv a x n q es Zg d (ye f 0 rfl) B A hm) ?_
 rintro _ k ⟨b,D,rfl,g,l⟩
 have c:=(yk f l)
 have E:=g.2.2
 refine fK c 5 ?_
 refine cl Yl (aeY b D k (ye c 2 rfl) o_) ?_
 rintro _ u ⟨m,rfl,o,C⟩
 have h:=yj 2 c C
 refine fP h 9 ?_
 refine gq (v:=b) Tryz.results10 rfl ?_
 have p:=yg [0,2] h
 exact⟨b,m,rfl,⟨_,g,o⟩,yi (yc [_,_] _ p)⟩
theorem agp(c:WC)(T F:Nat)(s:WW)(w:World)(hO:Own (qu T F c s) w)(aj:c.fO<=12) :
 CR ya 13 (Zi T) w (fun r w' => ∃ (v:Value) (K:List Int) (L:List Lv) (es:List Ge) (ys:List Int),v=r/\((s.u.mo K/\s.u.kL L/\kN K L es L.length)/\sF K.length es ys)/\fV (qu T F c s) w w' (gm [(qu T F c s),fL gO v 39 1 (nO L ys ys.length)])):=by
 refine en Tryz.func13 Tryz.ntmps13 ?_
 have af:=(yq hO).unpack
 refine fR af 9 ?_
 refine cl uL (Gk T F w (ye af 0 rfl)) ?_
 rintro _ z ⟨rfl,ht⟩
 have l:=yj 0 af ht
 refine fK l 12 ?_
 refine cl EE (FA c F s z (ye l 1 rfl) aj) ?_
 rintro _ A ⟨U,B,f,g,b,n,rfl,d,ht⟩
 have C:=yg [1,0] l
 have e:=yv (yj 0 C ht)
 have ae:=rj (ye e 0 rfl)
 have ag:=kN.EP ae.2.1 d.2.1 d.2.2
 have ao:=d.1.len ae.2.1 ae.2.2
 have ap:=d.2.1.len ae.2.1
 have an:=d.2.2.len
 have am:=ae.1.en
 refine fK e 12 ?_
 refine iM (m:=g.length) 1 rfl rfl yz e rfl (fK e 1 ?_)
 refine cl EG (ER B g.length n A (y0 e 2 rfl).any ag o_ o_) ?_
 rintro _ D ⟨E,G,rfl,ht⟩
 have o:=(jR e ht)
 refine fK o 16 ?_
 refine cl OL (N1 E g.length G n D (ye o 0 rfl) o_ ag o_) ?_
 rintro _ H ⟨h,a,rfl,p,ht⟩
 have q:=yv (yj 0 o ht)
 refine iM (m:=a.length) 1 rfl rfl yd q rfl ?_
 have I:=yg [6,2,5,1] q
 have ak:=p.len
 have J:St _ [fL gO Zg 39 1 (nO b a 0),blk T 108 (sL F),(WW.R c F s),fL Lv.cells f 43 7 b,fL fW h 3 1 a] H:=oQ I 39 1
 refine gD q 4 ?_
 refine lp (α:=Nat×Value) (fun(k,uv)=>[(5,f),(8,uv),(31,h),(32,(Za a.length)),(33,(Za k))]) (fun(k,uv) w1=>St [(w,(qu T F c s).gH)] [fL gO uv 39 1 (nO b a k),blk T 108 (sL F),(WW.R c F s),fL Lv.cells f 43 7 b,fL fW h 3 1 a] w1/\k<=a.length) (fun(k,uv)=>a.length-k) (0,Zg) ⟨rfl,rfl,rfl,rfl,gj rO,trivial⟩ (⟨J,o_⟩) ?_
 rintro⟨k,uv⟩ V W ⟨ad,hk⟩
 have aq:=Lg (L:=b) (ys:=a) (k:=k)
 refine fR ad 2 ?_
 by_cases X:((k:Int):Int)<((a.length:Int):Int)
 . have ah:k<a.length:=by omega
   have al:=p.AQ ah
   refine fK ad 20 ?_
   refine iJ (cf:=Lv.cells) (k:=(fJ a k).toNat) (i:=(fJ a k)) rfl rfl rfl qD mU (y0 ad 3 rfl) o_ o_ (gy om) (fK ad 2 ?_)
   refine jJ (vs:=(Zq ((fJ b ((fJ a k).toNat)).seq))) (cs:=(Zq ((fJ b ((fJ a k).toNat)).seq))) rfl rfl yz jt rfl (by simp[Value.cells]) rfl rfl rfl ad (fun M Y Z aa t=>k8 (cf:=gO) (ys:=(nO b a k)) (zs:=[(fJ b ((fJ a k).toNat)).seq]) (LL:=fun j=>[ig .u64 (Zy M) 39 ([(fJ b ((fJ a k).toNat)).seq]),fL gO j 39 1 ((nO b a k)++[(fJ b ((fJ a k).toNat)).seq]),blk T 108 (sL F),(WW.R c F s),fL Lv.cells f 43 7 b,fL fW h 3 1 a]) 1 rfl rfl rfl yz jt rfl d_ t rfl (kG t (i:=0) rfl) (fun x hx=>zk.1 (show List.all _ _=true from rfl) x hx) (by simp only[zb,zg,maxLen];omega) (by simp only[zb,zg,maxLen];omega) f_ ?_)
   intro j ab N ac
   have y:=yg [1,2,3,4,5] N
   refine fP y 8 ?_
   refine tN (?_)
   have O:=yw 0 y rfl (congrArg (fL gO j 39 1) ((Tk ah).symm))
   exact again ((k+1),j) ⟨rfl,rfl,rfl,rfl,gj rO,trivial⟩ (⟨O,o_⟩) (by show (a.length-(k+1):Nat)<a.length-k;omega)
 . refine fP ad 17 ?_
   refine gq (v:=uv) Tryz.results13 rfl ?_
   have ai:k=a.length:=by omega
   have P:=yg [1,2,0] ad
   have Q:=yw 2 P rfl (congrArg (fL gO uv 39 1) (show _=(nO b a a.length) by rw[ai]))
   have S:=yc [_,_] _ Q
   exact⟨uv,g,b,n,a,rfl,⟨d,p⟩,yi (yc [_,_] _ S)⟩
theorem agu(c:WC)(E F:Nat)(s:WW)(w:World)(J:Own (qu E F c s) w)(M:c.fO<=12) :
 CR ya 11 (Zi E) w (fun r w' => ∃ (v I:Value) (K:List Int) (L:List Lv) (es:List Ge),r = .tuple #[v,I]/\(s.u.mo K/\s.u.kL L/\kN K L es L.length)/\fV (qu E F c s) w w' (gm [(qu E F c s),fL gO v 39 1 K,fL fS I 3 1 (tT (gK K.length es) K.length)])):=by
 refine en Tryz.func11 Tryz.ntmps11 ?_
 have G:=(yq J).unpack
 refine fR G 10 ?_
 refine cl uL (Gk E F w (ye G 0 rfl)) ?_
 rintro _ k ⟨rfl,C⟩
 have e:=yj 0 G C
 refine fK e 12 ?_
 refine cl EE (FA c F s k (ye e 1 rfl) M) ?_
 rintro _ l ⟨h,n,A,d,o,f,rfl,a,C⟩
 have p:=yg [1,0] e
 have b:=yv (yj 0 p C)
 have D:=rj (ye b 0 rfl)
 have H:=kN.EP D.2.1 a.2.1 a.2.2
 have P:=a.1.len D.2.1 D.2.2
 have Q:=a.2.1.len D.2.1
 have O:=a.2.2.len
 have N:=D.1.en
 refine fK b 12 ?_
 refine iM (m:=d.length) 1 rfl rfl yz b rfl (fK b 1 ?_)
 refine cl EG (ER n d.length f l (y0 b 2 rfl).any H o_ o_) ?_
 rintro _ q ⟨t,x,rfl,C⟩
 have g:=(jR b C)
 refine fK g 11 ?_
 refine cl OT (RD t d.length x f q (ye g 0 rfl) o_ H o_) ?_
 rintro _ B ⟨i,rfl,C⟩
 have j:=yv (yj 0 g C)
 refine fP j 5 ?_
 refine iD (v:=h) (v' := i) Tryz.results11 rfl rfl ?_
 have y:=yg [6,2,3,1] j
 have z:=yc [_,_] _ y
 exact⟨h,i,d,o,f,rfl,a,yi (yc [_,_,_] _ z)⟩
end
section
open Go Go.Sx
theorem PS(h l:Value)(ys:List Int)(w:World)(m:gY 1 gO (fun _=>True) w h ys)(hb:gY 1 gO (fun _=>True) w l ys)(n:ys.length<=1000000) :
 CR ya 12 #[h,l] w (fun r w' => r = .bool true/\gw [] w w'):=by
 refine en Tryz.func12 Tryz.ntmps12 ?_
 have k:=yu w
 refine fR k 9 ?_
 refine j8 (v:=h) rfl rfl yz m (fK k 1 ?_)
 refine j8 (v:=l) rfl rfl yz hb (cmp rfl rfl rfl (o7 (Eq.refl _)) (gD k 12 ?_))
 refine lp (α:=Nat) (fun i=>[(0,h),(1,l),(5,(Za i))]) (fun i w1=>St [(w,[])] [] w1/\i<=ys.length) (fun i=>ys.length-i) 0 ⟨rfl,rfl,gj rO,trivial⟩ (⟨k,o_⟩) ?_
 rintro i b c ⟨j,hi⟩
 refine fR j 5 ?_
 refine j8 (v:=h) rfl rfl yz m ?_
 by_cases d:((i:Int):Int)<((ys.length:Int):Int)
 . obtain⟨e,f⟩:=nW (show i<ys.length by omega)
   refine gI j 18 fun g a=>?_
   refine cmp rfl rfl rfl (o7 (Eq.refl _)) (fP a 11 ?_)
   refine tN (?_)
   exact again (i+1) ⟨rfl,rfl,gj rO,trivial⟩ (⟨a,o_⟩) (by show (ys.length-(i+1):Nat)<ys.length-i;omega)
 . refine fP j 15 ?_
   refine gq (v:=Zh) Tryz.results12 rfl ?_
   exact⟨rfl,j.gA s_⟩
theorem abY(lv:Value)(xs:List Mw)(w:World)(S:gY 5 Mw.cells (fun _=>True) w lv xs)(ae:∀ x∈xs,x.mv.ok) :
 CR ya 6 #[lv] w (fun r w' => ∃ (Y X:Nat) (s:WW),r = .tuple (MR Y X)/\(∃ k,sK cG s k)/\fV (gm []) w w' (G9 cG Y s X)):=by
 refine en Tryz.func6 Tryz.ntmps6 ?_
 have W:=yu w
 have ai:=S.len
 refine fR W 9 ?_
 refine jc (pvs:=[(0,(.int .i64 20)),(1,(.int .i64 40)),(2,xE),(3,(.int .i64 60))]) (v:=.agg #[(.int .i64 20),(.int .i64 40),xE,(.int .i64 60)]) rfl rfl (jo [(0,[(.int .i64 20)]),(1,[(.int .i64 40)]),(2,[xE]),(3,[(.int .i64 60)])] Dd Sp rfl ⟨rfl,rfl,rfl,rfl,rfl,rfl,rfl,rfl,trivial⟩ rfl) (cl PB (Uu cG w d_ d_ d_ d_ d_ d_ d_) ?_)
 rintro _ q ⟨c,m,rfl,i,O⟩
 have j:=(jR W O)
 refine fK j 20 ?_
 refine cl PC (Ug cG c m q (ye j 0 rfl)) ?_
 rintro _ D ⟨d,rfl,O⟩
 have n:=yv (yj 0 j O)
 refine gD n 24 ?_
 refine lp (α:=Nat×WW) (fun(k,s)=>[(0,lv),(5,(Zb c)),(7,(Zb d)),(8,(Za k))]) (fun(k,s) w1=>St [(w,[])] [(WW.R cG c s),blk d 108 (sL c)] w1/\sK cG s k/\k<=xs.length/\k<=60) (fun(k,s)=>60-k) (0,m) ⟨rfl,rfl,rfl,gj rO,trivial⟩ (⟨n,sK.start i.1 i.2.1 i.2.2,o_,o_⟩) ?_
 rintro⟨k,s⟩ E G ⟨N,P,ag,ah⟩
 have ac:=(rj (ye N 0 rfl)).1
 have ab:=ac.n0
 have am:=P.now
 have an:=P.added
 refine fR N 5 ?_
 refine j8 (v:=lv) rfl rfl Tryz.underlying22 S ?_
 by_cases H:((k:Int):Int)<((xs.length:Int):Int)
 . refine fK N 3 ?_
   by_cases I:((k:Int):Int)<(60:Int)
   . refine gD N 10 ?_
     obtain⟨F,Z⟩:=nW (show k<xs.length by omega)
     have Q:=ae _ (zd Z)
     have U:=Q.u
     have V:=Q.v
     have aa:=Q.wt
     have T:=Q.af
     have ao : -128<=F.wt/\F.wt<=127:=aa
     have ad:=Q.Ct ab o_
     have ak:0<=F.u/\F.u<=255:=U
     have al:0<=F.v/\F.v<=255:=V
     have aj:0<=F.af/\F.af<=255:=T
     refine kC mixed [([0,2,3,4,5,6,7,8,1],[6])] [9,10] N (fun t g=>jA ?_)
     refine fK g 6 ?_
     refine rem (a:=F.af) (b:=4) (e:=F.af%4) rfl rfl rfl d_ (Me T.1) (fK g 1 ?_)
     refine cl X7 (agP cG c s t (ye g 0 rfl)) ?_
     rintro _ y ⟨rfl,O⟩
     have f:=yj 0 g O
     refine fP f 1 ?_
     refine kn (kF ?_)
     refine gD f 14 ?_
     cases J:(F.wa:Bool)
     . skip
       refine nN f 10 fun z h=>?_
       refine rem (a:=F.u) (b:=12) (e:=F.u%12) rfl rfl rfl d_ (Me U.1) (fK h 6 ?_)
       refine rem (a:=F.v) (b:=12) (e:=F.v%12) rfl rfl rfl d_ (Me V.1) (fK h 8 ?_)
       refine jc (pvs:=[(0,(Zo (F.u%12))),(1,(Zo (F.v%12))),(2,(Za F.wt)),(3,(Za (s.now+(F.af%4))))]) (v:=.agg #[(Zo (F.u%12)),(Zo (F.v%12)),(Za F.wt),(Za (s.now+(F.af%4)))]) rfl rfl (jo [(0,(Zq (F.u%12))),(1,(Zq (F.v%12))),(2,(Zd F.wt)),(3,(Zd (s.now+(F.af%4))))] vk FB rfl ⟨rfl,rfl,rfl,rfl,rfl,rfl,rfl,rfl,trivial⟩ rfl) (cl ED (agy cG c s z (ye h 0 rfl) (F.mv.Ct s.now) ad (by show s.now<=s.now+F.af%4;omega) (by show s.now+F.af%4<=1000000;omega) o_) ?_)
       rintro _ K ⟨L,A,rfl,B,O⟩
       have o:=yj 0 h O
       refine fP o 8 ?_
       refine tN (?_)
       exact again ((k+1),A) ⟨rfl,rfl,rfl,gj rO,trivial⟩ (⟨o,P.next B (by show s.now+F.af%4<=s.now+3;omega) (by show 0<=F.u%12/\F.u%12<12;omega) (by show 0<=F.v%12/\F.v%12<12;omega) (by show -128<=F.wt/\F.wt<=127;omega),o_,o_⟩) (by show (60-(k+1):Nat)<60-k;omega)
     . skip
       refine fR f 6 ?_
       refine cl Pu (Uz cG c s y (ye f 0 rfl) (s.now+F.af%4) o_ o_) ?_
       rintro _ M ⟨C,rfl,l,O⟩
       have p:=yj 0 f O
       refine fP p 15 ?_
       refine tN (?_)
       exact again ((k+1),C) ⟨rfl,rfl,rfl,gj rO,trivial⟩ (⟨p,P.tick l.1 o_ l.2.1 l.2.2.1,o_,o_⟩) (by show (60-(k+1):Nat)<60-k;omega)
   . refine fP N 20 ?_
     refine tZ (v:=(Zb c)) (v' := (Zb d)) (v'' := Zh) Tryz.results6 rfl rfl rfl ?_
     exact⟨c,d,s,rfl,⟨_,P⟩,nS (yc [_,_] _ N)⟩
 . refine fP N 23 ?_
   refine tZ (v:=(Zb c)) (v' := (Zb d)) (v'' := Zh) Tryz.results6 rfl rfl rfl ?_
   exact⟨c,d,s,rfl,⟨_,P⟩,nS (yc [_,_] _ N)⟩
theorem abX(lv:Value)(xs:List Mw)(w:World)(e:gY 5 Mw.cells (fun _=>True) w lv xs)(f:∀ x∈xs,x.mv.ok) :
 CR ya 6 #[lv] w (fun r w' => ∃ (b a:Nat) (s:WW),r = .tuple (MR b a)/\fV (gm []) w w' (G9 cG b s a)) :=
 CR.mono (abY lv xs w e f) fun r w' ⟨b,a,s,c,_,d⟩=>⟨b,a,s,c,d⟩
end
section
open Go Go.Sx
theorem fU.Ou{fO fN:Nat}{s:fU}(h:s.ok fO fN){x:Lv}(b:s.has x){id:Int}(a:x.u=id\/x.v=id):s.t.cnt id=0:=by
 obtain⟨i,hi,rfl⟩:=b
 exact TW.Ax ((h.mem id).2 ⟨i,hi,a⟩)
theorem fU.Wa{fO fN:Nat}{s:fU}(h:s.ok fO fN){id:Int}(c:∀ x,s.has x->x.u≠id/\x.v≠id):s.t.cnt id≠0:=by
 rw[TW.tK fun hm=>?_]
 . decide
 . obtain⟨i,hi,b⟩:=(h.mem id).1 hm
   have a:=c _ ⟨i,hi,rfl⟩
   exact b.elim a.1 a.2
theorem ZP:ya.eqGuardType ya.depth 128=false:=by kernel_rfl
theorem YS(a b:Int)(w:World):(Op.equal 128 (HJ a b) (HJ a b)).run ya w = .ok true w:=by
 rw[aet oq yn jt]
 simp
theorem agR{o:Obj}(w:World)(hO:Own (jW o) w) :
 CR ya 17 #[] w (fun r w' => r = .bool true/\fV (jW o) w w' (jW o)):=by
 refine en Tryz.func17 Tryz.ntmps17 ?_
 have aL:=yq hO
 have aY:wI.length=2:=rfl
 have aX:wH.length=2:=rfl
 refine fR aL 7 ?_
 refine jc (pvs:=[(0,xE),(1,rQ),(2,rQ),(3,rQ)]) (v:=.agg #[xE,rQ,rQ,rQ]) rfl rfl (jo [(0,[xE]),(1,[rQ]),(2,[rQ]),(3,[rQ])] Dd Sp rfl ⟨rfl,rfl,rfl,rfl,rfl,rfl,rfl,rfl,trivial⟩ rfl) (cl PB (Uu cW w d_ d_ d_ d_ d_ d_ d_) ?_)
 rintro _ P ⟨d,B,rfl,p,T⟩
 have g:=(jR aL T)
 have aG:=rj (ye g 0 rfl)
 have aK:=p.2.2
 have aD:=p.1
 have aC:=p.2.1
 have aR:B.u.last=0:=by have h7:=aG.1.la;have h8:=aG.2.1.sS;omega
 refine fK g 14 ?_
 refine uM (a:=some ⟨d,0,none⟩) (c:=false) rfl rfl rfl By rfl (fK g 9 ?_)
 refine jc (pvs:=[(0,vM),(1,zX),(2,(.int .i64 5))]) (v:=.agg #[vM,zX,(.int .i64 5),Zc]) rfl rfl (jo [(0,[vM]),(1,[zX]),(2,[(.int .i64 5)])] vk FB rfl ⟨rfl,rfl,rfl,rfl,rfl,rfl,trivial⟩ rfl) ?_
 have aS:=fU.Ia aG.2.1 aG.2.2 (u:=1) (v:=2) d_ (L:=[]) (K:=[1,2]) d_ (fun x F=>absurd F (aK x)) (fun x F=>absurd F (aK x)) d_ d_ d_
 refine cl ED (L5 cW d B P (ye g 0 rfl) ⟨0,0,1,2,5,0,0⟩ (JR d_) (by rw[aD];decide) d_ (by rw[aC];decide) aS) ?_
 rintro _ Q ⟨C,rfl,q,T⟩
 have j:=yj 0 g T
 have aN:=rj (ye j 0 rfl)
 obtain⟨⟨i1,aI⟩,aP⟩:=agU aK aR q
 have aD:=q.now
 have aC:C.added=1:=q.added.trans (by rw[aC];rfl)
 refine fK j 6 ?_
 refine jc (pvs:=[(0,zX),(1,vN),(2,(.int .i64 7)),(3,rQ)]) (v:=.agg #[zX,vN,(.int .i64 7),rQ]) rfl rfl (jo [(0,[zX]),(1,[vN]),(2,[(.int .i64 7)]),(3,[rQ])] vk FB rfl ⟨rfl,rfl,rfl,rfl,rfl,rfl,rfl,rfl,trivial⟩ rfl) ?_
 have aT:=fU.Ia aN.2.1 aN.2.2 (u:=2) (v:=3) d_ (L:=[wE i1 1 1 2 5 0]) (K:=[1,2,3]) (by show (1:Nat)<4;decide) (fun x F=>by rw[(aI x).1 F];simp) (fun x F=>by rw[(aI x).1 F];simp) d_ d_ d_
 refine cl ED (L5 cW d C Q (ye j 0 rfl) ⟨0,0,2,3,7,4,0⟩ (JR d_) (by rw[aD];decide) d_ (by rw[aC];decide) aT) ?_
 rintro _ R ⟨D,rfl,s,T⟩
 have l:=yj 0 j T
 have aO:=rj (ye l 0 rfl)
 obtain⟨⟨i2,aJ⟩,aQ⟩:=agV aI aP s
 have aD:=s.now
 have aC:D.added=2:=s.added.trans (by rw[aC];rfl)
 refine fK l 6 ?_
 refine jc (pvs:=[(0,vM),(1,vN),(2,xF),(3,zW)]) (v:=.agg #[vM,vN,xF,zW]) rfl rfl (jo [(0,[vM]),(1,[vN]),(2,[xF]),(3,[zW])] vk FB rfl ⟨rfl,rfl,rfl,rfl,rfl,rfl,rfl,rfl,trivial⟩ rfl) ?_
 have aU:=fU.Ia aO.2.1 aO.2.2 (u:=1) (v:=3) d_ (L:=[wE i1 1 1 2 5 0,wE i2 2 2 3 7 4]) (K:=[1,2,3]) (by show (2:Nat)<4;decide) (fun x F=>by rcases(aJ x).1 F with h|h<;>rw[h]<;>simp) (fun x F=>by rcases(aJ x).1 F with h|h<;>rw[h]<;>simp) d_ d_ d_
 refine cl ED (L5 cW d D R (ye l 0 rfl) ⟨0,0,1,3,9,6,0⟩ (JR d_) (by rw[aD];decide) d_ (by rw[aC];decide) aU) ?_
 rintro _ S ⟨e,rfl,y,T⟩
 have n:=yj 0 l T
 have aH:=rj (ye n 0 rfl)
 obtain⟨i3,aE⟩:=agW aJ aQ y
 have aD:=y.now
 have aC:e.added=3:=y.added.trans (by rw[aC];rfl)
 have hG:G5 e:=fun K L es h1 h2 h3=>agY aH.2.1 aE h1 h2 h3
 have aV:=fU.Ou aH.2.1 ((aE _).2 (.inl (.inl rfl))) (.inl rfl)
 have aM:=fU.Ou aH.2.1 ((aE _).2 (.inr rfl)) (.inr rfl)
 have aW:e.u.t.cnt 4≠0:=fU.Wa aH.2.1 fun x F=>by rcases(aE x).1 F with (h|h)|h<;>rw[h]<;>simp
 refine fK n 6 ?_
 refine cl PC (Ug cW d e S (ye n 0 rfl)) ?_
 rintro _ U ⟨f,rfl,T⟩
 have z:=yv (yj 0 n T)
 refine fK z 26 ?_
 refine uM (a:=some ⟨f,0,none⟩) (c:=false) rfl rfl rfl Tryz.underlying24 rfl ?_
 have V:=yg [1,0,2] z
 have E:=yc [_,_] _ V
 refine fK z 9 ?_
 refine cl Pd (agD cW f d e U (ye E 0 rfl) d_ hG aM) ?_
 rintro _ an ⟨A,rfl,W,X⟩
 have G:=(yk E X)
 have aF:=W
 refine fK G 3 ?_
 refine iE G (fun ao ap aq ar Y=>?_)
 refine gI Y 7 fun Z aa=>?_
 have ab:=yg [1,2,3,4,0] aa
 have H:=yc [_,_,_,_] _ ab
 refine cl XN (agO cW f d e A aF.of 1 Z (ye H 0 rfl) aF aV aM) ?_
 rintro _ ac ⟨rfl,ad⟩
 have I:=(yk H ad)
 have ae:=yg [0,2,1,3,4] I
 have J:=yc [_,_] _ ae
 refine fK I 12 ?_
 refine cl Pd (ags cW f d e _ ac (ye J 0 rfl) 4 7 aW) ?_
 rintro _ au ⟨rfl,af⟩
 have M:=(yk J af)
 refine fK M 3 ?_
 refine iE M (fun av aw ax ay ag=>?_)
 refine gI ag 7 fun ah ai=>?_
 have aj:=yg [1,3,2,0,4,5] ai
 have N:=yc [_,_,_] _ aj
 refine cl XY (agN cW f d e A aF.of 1 ah (ye N 0 rfl) aF) ?_
 rintro _ ak ⟨az,aA,rfl,al⟩
 have b:=(yk N al)
 refine fK b 38 ?_
 refine iM (m:=wI.length) 3 rfl rfl Bz b rfl (fK b 4 ?_)
 refine iJ (cf:=kH.cells) (k:=1) (i:=1) rfl rfl rfl Bz uc (y0 b 3 rfl) o_ o_ (gy om) (fK b 1 ?_)
 refine jc (pvs:=[(0,vM),(1,vN)]) (v:=.agg Hq) rfl rfl (uJ [(0,[vM]),(1,[vN])] uc oq jt rfl ⟨rfl,rfl,rfl,rfl,trivial⟩ rfl s_) (YL (c:=true) (xs:=Hq) (ys:=Hq) rfl rfl rfl ZP (fun w=>YS _ _ w) (fK b 3 ?_))
 refine iM (m:=wH.length) 4 rfl rfl ow b rfl (fK b 4 ?_)
 refine iJ (cf:=fW) (k:=1) (i:=1) rfl rfl rfl ow ti2 (y0 b 4 rfl) o_ o_ (gy om) (fK b 5 ?_)
 refine cl OV (ago f d A 1 _ ak (ye b 0 rfl)) ?_
 rintro _ aB ⟨rfl,T⟩
 have O:=yj 0 b T
 refine fP O 6 ?_
 refine gq (v:=Zh) Tryz.results17 rfl ?_
 have am:=yg [6,0,1,2,3,4,5,7] O
 exact⟨rfl,yi am⟩
theorem agQ{o:Obj}(w:World)(a:(jW o).holds w):CR ya 17 #[] w (fun r w' => r = .bool true/\gw [] w w') :=
 CR.mono (agR w (afs a)) fun r w' ⟨b,c⟩=>⟨b,afq a c⟩
end
section
open Go Go.Sx
theorem adv{u:fU}{K a:List Int}{L L2:List Lv}{es c:List Ge}{ys b:List Int}(d:u.mo K)(k:u.kL L)(l:kN K L es L.length)(j:sF K.length es ys)(e:(u.mo a/\u.kL L2/\kN a L2 c L2.length)/\sF a.length c b):nO L2 b b.length=nO L ys ys.length:=by
 obtain⟨⟨f,g,h⟩,i⟩:=e
 obtain rfl:=fU.mo.uniq f d
 obtain rfl:=fU.kL.uniq g k
 obtain rfl:=kN.uniq d.lF h l
 obtain rfl:=i.uniq j
 rfl
theorem adw{u:fU}{K a:List Int}{L L2:List Lv}{es b:List Ge}(c:u.mo K)(h:u.kL L)(i:kN K L es L.length)(d:u.mo a/\u.kL L2/\kN a L2 b L2.length):a=K/\b=es:=by
 obtain⟨e,f,g⟩:=d
 obtain rfl:=fU.mo.uniq e c
 obtain rfl:=fU.kL.uniq f h
 exact⟨rfl,kN.uniq c.lF g i⟩
theorem jN.S2{A:List (List Lk)}:∀ (k:Nat) (N:jN),(jN.run A k N).num.length=N.num.length
 | 0,_=>rfl
 | k+1,N=>by
  unfold jN.run jN.step
  rcases N.b.take with ⟨B,_|v⟩
  . rfl
  . refine(jN.S2 k _).trans ?_
    simp only[gx]
theorem acq{A:List (List Lk)}{n:Nat}:(tT A n).length=n:=(jN.S2 n _).trans qh
theorem YO(h l:Value)(ys:List Nat)(w:World)(m:gY 1 fS (fun _=>True) w h ys)(hb:gY 1 fS (fun _=>True) w l ys)(n:ys.length<=1000000) :
 CR ya 14 #[h,l] w (fun r w' => r = .bool true/\gw [] w w'):=by
 refine en Tryz.func14 Tryz.ntmps14 ?_
 have k:=yu w
 refine fR k 9 ?_
 refine j8 (v:=h) rfl rfl yd m (fK k 1 ?_)
 refine j8 (v:=l) rfl rfl yd hb (cmp rfl rfl rfl (o7 (Eq.refl _)) (gD k 12 ?_))
 refine lp (α:=Nat) (fun i=>[(0,h),(1,l),(5,(Za i))]) (fun i w1=>St [(w,[])] [] w1/\i<=ys.length) (fun i=>ys.length-i) 0 ⟨rfl,rfl,gj rO,trivial⟩ (⟨k,o_⟩) ?_
 rintro i b c ⟨j,hi⟩
 refine fR j 5 ?_
 refine j8 (v:=h) rfl rfl yd m ?_
 by_cases d:((i:Int):Int)<((ys.length:Int):Int)
 . obtain⟨e,f⟩:=nW (show i<ys.length by omega)
   refine gI j 18 fun g a=>?_
   refine cmp rfl rfl rfl (o7 (Eq.refl _)) (fP a 11 ?_)
   refine tN (?_)
   exact again (i+1) ⟨rfl,rfl,gj rO,trivial⟩ (⟨a,o_⟩) (by show (ys.length-(i+1):Nat)<ys.length-i;omega)
 . refine fP j 15 ?_
   refine gq (v:=Zh) Tryz.results14 rfl ?_
   exact⟨rfl,j.gA s_⟩
theorem R4(lv:Value)(xs:List Mw){o:Obj}(w:World)(hl:gY 5 Mw.cells (fun _=>True) w lv xs)(bh:∀ x∈xs,x.mv.ok)(hT:(jW o).holds w) :
 CR ya 3 #[lv] w (fun r w' => r = .bool true/\gw [] w w'):=by
 refine en Tryz.func3 Tryz.ntmps3 ?_
 have bd:=yu w
 refine fR bd 8 ?_
 refine cl Yp (abX lv xs w hl bh) ?_
 rintro _ W ⟨d,e,g,rfl,F⟩
 have H:=yv (jR bd F)
 have Y:=yg [1,0] H
 have I:=yc [_,_] _ Y
 refine fK H 22 ?_
 refine cl Yt (ZU cG e d g W (ye I 0 rfl) d_) ?_
 rintro _ Z ⟨l,aa,aP,c,b,f,rfl,z,F⟩
 have ab:=yv (yj 0 I F)
 have h:=yv ab
 have a7:=z.1
 have a6:=z.2.1
 have a8:=z.2.2
 have a9:=rj (ye h 1 rfl)
 have bl:b.length<=40:=a6.len a9.2.1
 have bk:c.length<=10:=a7.len a9.2.1 a9.2.2
 have bj:=a8.len
 refine fK h 10 ?_
 refine iM (m:=c.length) 2 rfl rfl yz h rfl ?_
 have ba:=kN.EP a9.2.1 a6 a8
 have bm:=a7.lF
 refine fK h 1 ?_
 refine cl EG (ER aa c.length f Z (Sl.any (y0 h 3 rfl)) ba o_ o_) ?_
 rintro _ ac ⟨j,n,rfl,F⟩
 have A:=(jR h F)
 refine fK A 20 ?_
 refine cl PK (Ut cG d g ac (ye A 2 rfl)) ?_
 rintro _ ad ⟨p,aQ,rfl,ae,F⟩
 have af:=yg [2,0,1,3,4] A
 have ag:=yv (yj 0 af F)
 have bg:=fU.kL.uniq ae a6
 have q:=ag
 rw[bg]at q
 refine fK q 6 ?_
 refine cl OL (N1 j c.length n f ad (ye q 2 rfl) o_ ba o_) ?_
 rintro _ ah ⟨s,a,rfl,B,F⟩
 have ai:=yg [2,0,1,3,4,5] q
 have J:=yv (yj 0 ai F)
 have bi:=B.len
 have aj:=yg [4,2,0,5,3,1] J
 have ak:St _ [fL gO Zg 39 1 (nO b a 0),blk e 108 (sL d),(WW.R cG d g),(Gr.R j c.length n f),fL gO l 39 1 c,fL Lv.cells p 43 7 b,fL fW s 3 1 a] ah:=oQ aj 39 1
 refine gD J 15 ?_
 refine lp (α:=Nat×Value) (fun(k,uv)=>[(4,(Zb e)),(6,l),(8,(Zb j)),(10,p),(11,s),(12,uv),(13,(Za k))]) (fun(k,uv) w1=>St [(w,[])] [fL gO uv 39 1 (nO b a k),blk e 108 (sL d),(WW.R cG d g),(Gr.R j c.length n f),fL gO l 39 1 c,fL Lv.cells p 43 7 b,fL fW s 3 1 a] w1/\k<=a.length) (fun(k,uv)=>a.length-k) (0,Zg) ⟨rfl,rfl,rfl,rfl,rfl,rfl,gj rO,trivial⟩ (⟨ak,o_⟩) ?_
 rintro⟨k,uv⟩ aR al ⟨T,hk⟩
 have bo:=Lg (L:=b) (ys:=a) (k:=k)
 refine fR T 5 ?_
 refine iM (m:=a.length) 6 rfl rfl yd T rfl ?_
 by_cases aS:((k:Int):Int)<((a.length:Int):Int)
 . have bc:k<a.length:=by omega
   have bn:=B.AQ bc
   refine fK T 15 ?_
   refine iJ (cf:=Lv.cells) (k:=(fJ a k).toNat) (i:=(fJ a k)) rfl rfl rfl qD mU (y0 T 5 rfl) o_ o_ (gy om) (fK T 2 ?_)
   refine jJ (vs:=(Zq ((fJ b ((fJ a k).toNat)).seq))) (cs:=(Zq ((fJ b ((fJ a k).toNat)).seq))) rfl rfl yz jt rfl (by simp[Value.cells]) rfl rfl rfl T (fun am aT aU aV K=>k8 (cf:=gO) (ys:=(nO b a k)) (zs:=[(fJ b ((fJ a k).toNat)).seq]) (LL:=fun t=>[ig .u64 (Zy am) 39 ([(fJ b ((fJ a k).toNat)).seq]),fL gO t 39 1 ((nO b a k)++[(fJ b ((fJ a k).toNat)).seq]),blk e 108 (sL d),(WW.R cG d g),(Gr.R j c.length n f),fL gO l 39 1 c,fL Lv.cells p 43 7 b,fL fW s 3 1 a]) 1 rfl rfl rfl yz jt rfl d_ K rfl (kG K (i:=0) rfl) (fun x hx=>zk.1 (show List.all _ _=true from rfl) x hx) (by simp only[zb,zg,maxLen];omega) (by simp only[zb,zg,maxLen];omega) f_ ?_)
   intro t aW an aX
   have M:=yg [1,2,3,4,5,6,7] an
   refine fP M 9 ?_
   refine tN (?_)
   have ao:=yw 0 M rfl (congrArg (fL gO t 39 1) ((Tk bc).symm))
   exact again ((k+1),t) ⟨rfl,rfl,rfl,rfl,rfl,rfl,gj rO,trivial⟩ (⟨ao,o_⟩) (by show (a.length-(k+1):Nat)<a.length-k;omega)
 . skip
   have ap:=yg [1,2,0,3,4,5,6] T
   have bf:k=a.length:=by omega
   have aq:=yw 2 ap rfl (congrArg (fL gO uv 39 1) (show _=(nO b a a.length) by rw[bf]))
   have N:=yc [_,_] _ aq
   refine fK T 12 ?_
   refine cl WT (agu cG e d g al (ye N 0 rfl) d_) ?_
   rintro _ ar ⟨O,P,aY,aZ,a0,rfl,au,av⟩
   have aw:=(yk N av)
   have ax:=yv aw
   obtain⟨bb,be⟩:=adw a7 a6 a8 au
   have ay:=yw 2 ax rfl (congrArg (fL gO O 39 1) (bb))
   have Q:=yw 3 ay rfl (congrArg (fL fS P 3 1) (show _=(tT (gK c.length f) c.length) by rw[bb,be]))
   have S:=yc [_,_] _ Q
   refine fK Q 10 ?_
   refine cl W2 (agp cG e d g ar (ye S 0 rfl) d_) ?_
   rintro _ az ⟨U,a1,a2,a3,a4,rfl,aA,aB⟩
   have aC:=(yk S aB)
   have aD:=yv aC
   have u:=yw 2 aD rfl (congrArg (fL gO U 39 1) (adv a7 a6 a8 B aA))
   have bp:=Lg (L:=b) (ys:=a) (k:=a.length)
   refine fK u 1 ?_
   refine cl OM (PS U uv (nO b a a.length) az (Sl.any (y0 u 2 rfl)) (Sl.any (y0 u 5 rfl)) o_) ?_
   rintro _ aE ⟨rfl,aF⟩
   have y:=yp u aF
   refine fK y 3 ?_
   refine cl OM (PS O l c aE (Sl.any (y0 y 3 rfl)) (Sl.any (y0 y 7 rfl)) o_) ?_
   rintro _ aG ⟨rfl,aH⟩
   have C:=yp y aH
   refine fK C 4 ?_
   refine cl OT (RD j c.length n f aG (ye C 6 rfl) o_ ba o_) ?_
   rintro _ aI ⟨aJ,rfl,F⟩
   have aK:=yg [6,0,1,2,3,4,5,7,8,9] C
   have D:=yv (yj 0 aK F)
   refine cl W6 (YO P aJ (tT (gK c.length f) c.length) aI (Sl.any (y0 D 6 rfl)) (Sl.any (y0 D 1 rfl)) (by rw[acq];omega)) ?_
   rintro _ aL ⟨rfl,aM⟩
   have E:=yp D aM
   refine fK E 3 ?_
   refine cl OV (agr e d aL (ye E 2 rfl)) ?_
   rintro _ aN ⟨rfl,F⟩
   have G:=yj 2 E F
   refine fK G 3 ?_
   refine cl Xl (agQ aN (St.x8 G (X:=[]) s_ hT s_)) ?_
   rintro _ a5 ⟨rfl,aO⟩
   have V:=yp G aO
   refine fP V 5 ?_
   refine gq (v:=Zh) Tryz.results3 rfl ?_
   exact⟨rfl,V.gA s_⟩
end
end Go.Proofs.YtedjjkcihkmjgaaGreatDoor
