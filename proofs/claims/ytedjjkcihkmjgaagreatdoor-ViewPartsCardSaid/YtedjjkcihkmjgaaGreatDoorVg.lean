/- What the functions that the statements reach do: walks through the code of the program and of the references, one theorem a function; under what is said of its arguments. -/
import Derived.Test.YtedjjkcihkmjgaaGreatDoorFb
import Derived.Test.YtedjjkcihkmjgaaGreatDoorVa
import Derived.Test.YtedjjkcihkmjgaaGreatDoorFc
import Derived.Test.YtedjjkcihkmjgaaGreatDoorVf
import Derived.Test.YtedjjkcihkmjgaaGreatDoorVd
import Derived.Test.YtedjjkcihkmjgaaGreatDoorVe
set_option linter.unusedVariables false
set_option linter.unusedSimpArgs false
set_option maxRecDepth 100000
set_option maxHeartbeats 4000000
namespace Go.Proofs.YtedjjkcihkmjgaaGreatDoor
section
open Go Go.Sx
theorem aay(tb:Nat)(ps:List Int)(t:Lt)(w:World)(F:nw w tb ps t)(Q:ko ps)(Y:ps.length<=8192){o:Obj}(hT:(jW o).holds w)(an:∀ i,i<ps.length -> -1<=fJ ps i)(a b:Nat)(S:a<ps.length)(hb:b<ps.length) :
 CR ya 189 (Zu tb a b) w (fun r w' => ∃ (z:Nat) (B:Bool),r = .tuple (qo z B)/\sG ps a b z B/\gw [] w w'):=by
 have ax:((List.range ps.length).map (gp ps)).length=ps.length:=by simp
 have aq:=Iq (ps:=ps) (i:=a)
 have av:=Iq (ps:=ps) (i:=b)
 have au:=Ir Q S
 have aw:=Ir Q hb
 refine enter (vs:=(Aa tb a b)) Tryz.func189 rfl Tryz.ntmps189 rfl ?_
 have ag:=yu w
 have V:((List.range ps.length).map (gp ps))[a]? = some (gp ps a):=by simp[S]
 have W:((List.range ps.length).map (gp ps))[b]? = some (gp ps b):=by simp[hb]
 refine fR ag 11 ?_
 refine jO (vl:=(tF tb a)) rfl rfl Ez (EY tb ps t w F Q Y a o_) ?_
 rintro _ n ⟨rfl,y⟩
 have m:St _ [] n:=yp ag y
 refine fK m 4 ?_
 refine jO (vl:=(tF tb b)) rfl rfl Ez (EY tb ps t n (F.to m s_) Q Y b o_) ?_
 rintro _ C ⟨rfl,D⟩
 have E:St _ [] C:=yp m D
 refine gI E 12 fun G f=>?_
 refine ld (a:=⟨tb,1,none⟩) (v:=t.dv) rfl rfl yd rfl (kK f s_ F.b rfl) (fK f 1 ?_)
 refine iJ (k:=a) (i:=(a:Int)) rfl rfl rfl yd gr F.d o_ o_ V (jd (u:=(Za (((gp ps a):Nat):Int))) rfl rfl yf rfl (yy f s_ d_ F.d) V rfl (fK f 3 ?_))
 refine ld (a:=⟨tb,1,none⟩) (v:=t.dv) rfl rfl yd rfl (kK f s_ F.b rfl) (fK f 1 ?_)
 refine iJ (k:=b) (i:=(b:Int)) rfl rfl rfl yd gr F.d o_ o_ W (jd (u:=(Za (((gp ps b):Nat):Int))) rfl rfl yf rfl (yy f s_ d_ F.d) W rfl (min2 (a:=(((gp ps a):Nat):Int)) (b:=(((gp ps b):Nat):Int)) (c:=(((min (gp ps a) (gp ps b)):Nat):Int)) rfl rfl rfl Fm (fK f 10 ?_)))
 refine ld (a:=⟨tb,1,none⟩) (v:=t.dv) rfl rfl yd rfl (kK f s_ F.b rfl) (fK f 1 ?_)
 refine iJ (k:=a) (i:=(a:Int)) rfl rfl rfl yd gr F.d o_ o_ V (jd (u:=(Za (((gp ps a):Nat):Int))) rfl rfl yf rfl (yy f s_ d_ F.d) V rfl (fK f 1 ?_))
 refine ar (a:=(((gp ps a):Nat):Int)) (b:=(((min (gp ps a) (gp ps b)):Nat):Int)) (c:=(((gp ps a):Nat):Int)-(((min (gp ps a) (gp ps b)):Nat):Int)) (e:=((gp ps a-(min (gp ps a) (gp ps b)):Nat):Int)) rfl rfl rfl rfl (by rw[oh o_];omega) (jO (vl:=(Aa tb a ((gp ps a-(min (gp ps a) (gp ps b)):Nat):Int))) rfl rfl Pj (QJ tb ps t G (F.to f s_) Q Y (St.x8 f (X:=[]) s_ hT s_) a (gp ps a-(min (gp ps a) (gp ps b))) o_ o_) ?_)
 rintro _ q ⟨rfl,H⟩
 have h:St _ [] q:=yp f H
 refine fK h 13 ?_
 refine ld (a:=⟨tb,1,none⟩) (v:=t.dv) rfl rfl yd rfl (kK h s_ F.b rfl) (fK h 1 ?_)
 refine iJ (k:=b) (i:=(b:Int)) rfl rfl rfl yd gr F.d o_ o_ W (jd (u:=(Za (((gp ps b):Nat):Int))) rfl rfl yf rfl (yy h s_ d_ F.d) W rfl (fK h 1 ?_))
 refine ar (a:=(((gp ps b):Nat):Int)) (b:=(((min (gp ps a) (gp ps b)):Nat):Int)) (c:=(((gp ps b):Nat):Int)-(((min (gp ps a) (gp ps b)):Nat):Int)) (e:=((gp ps b-(min (gp ps a) (gp ps b)):Nat):Int)) rfl rfl rfl rfl (by rw[oh o_];omega) (jO (vl:=(Aa tb b ((gp ps b-(min (gp ps a) (gp ps b)):Nat):Int))) rfl rfl Pj (QJ tb ps t q (F.to h s_) Q Y (St.x8 h (X:=[]) s_ hT s_) b (gp ps b-(min (gp ps a) (gp ps b))) o_ o_) ?_)
 rintro _ I ⟨rfl,J⟩
 have l:St _ [] I:=yp h J
 refine fK l 11 ?_
 by_cases K:(((gM ps (gp ps a-(min (gp ps a) (gp ps b))) a:Nat):Int):Int)=(((gM ps (gp ps b-(min (gp ps a) (gp ps b))) b:Nat):Int):Int)
 . refine fP l 13 ?_
   refine iD (v:=(Za ((gM ps (gp ps a-(min (gp ps a) (gp ps b))) a:Nat):Int))) (v' := Zh) Tryz.results189 rfl rfl ?_
   exact⟨_,true,rfl,VX Q S hb o_,l.gA s_⟩
 . obtain⟨U,ah,_⟩:=qC Q S (k:=gp ps a-(min (gp ps a) (gp ps b))) o_
   obtain⟨aa,ai,_⟩:=qC Q hb (k:=gp ps b-(min (gp ps a) (gp ps b))) o_
   have ad:gM ps (gp ps a-(min (gp ps a) (gp ps b))) a≠gM ps (gp ps b-(min (gp ps a) (gp ps b))) b:=by omega
   obtain⟨A,Z⟩:∃ A,A=gM ps (gp ps a-(min (gp ps a) (gp ps b))) a:=⟨_,rfl⟩
   obtain⟨B,ab⟩:∃ B,B=gM ps (gp ps b-(min (gp ps a) (gp ps b))) b:=⟨_,rfl⟩
   refine fK l 1 ?_
   rw[<-Z]at U ah ad ⊢
   rw[<-ab]at aa ai ad ⊢
   refine gD l 12 ?_
   refine lp (α:=Nat×Nat) (fun(j,s)=>[(0,(Zb tb)),(1,(Za ((gM ps s A:Nat):Int))),(2,(Za ((gM ps s B:Nat):Int))),(9,(Za ((j:Int)-1)))]) (fun(j,s) w1=>St [(w,[])] [] w1/\pQ ps A B (min (gp ps a) (gp ps b)) j s/\j<=13) (fun(j,s)=>j) (13,0) ⟨rfl,gj (by first|rfl|omega),gj (by first|rfl|omega),gj (by first|rfl|omega),trivial⟩ (⟨l,pQ.start ad o_,o_⟩) ?_
   rintro⟨j,s⟩ L M ⟨R,T,ay⟩
   have aA:=T.le
   obtain⟨aD,aE,_⟩:=qC Q U (k:=s) o_
   obtain⟨aF,aG,_⟩:=qC Q aa (k:=s) o_
   refine fR R 4 ?_
   by_cases N:(((j:Int)-1):Int)≥(0:Int)
   . have az:=AR (ps:=ps) (k:=j-1)
     have ae:(jw ps (j-1))[(gM ps s A)]? = some (fJ (jw ps (j-1)) (gM ps s A)):=gy o_
     have af:(jw ps (j-1))[(gM ps s B)]? = some (fJ (jw ps (j-1)) (gM ps s B)):=gy o_
     have aj:pQ ps A B (min (gp ps a) (gp ps b)) (j-1+1) s:=by rw[Nat.sub_add_cancel o_];exact T
     obtain⟨ao,ap⟩:=aj.next Q an U aa o_ o_
     refine gI R 14 fun O g=>?_
     refine jL (o:=2) (o' := 2+(j-1)) (i:=((j:Int)-1)) rfl rfl rfl rA j3 o_ (by first|omega|(simp only[nT];omega)) (ld (a:=⟨tb,2+(j-1),none⟩) (v:=((fJ t.jl (j-1)).1)) rfl rfl yd rfl (kK g s_ F.b2 (wg (by rw[F.ok.len];omega) rfl)) (fK g 1 ?_))
     refine iJ (k:=(gM ps s A)) (i:=((gM ps s A:Nat):Int)) rfl rfl rfl yd gr (F.r (j-1) o_) o_ o_ ae (jd (u:=(Za (fJ (jw ps (j-1)) (gM ps s A)))) rfl rfl yf rfl (yy g s_ d_ (F.r (j-1) o_)) ae rfl (fK g 4 ?_))
     refine jL (o:=2) (o' := 2+(j-1)) (i:=((j:Int)-1)) rfl rfl rfl rA j3 o_ (by first|omega|(simp only[nT];omega)) (ld (a:=⟨tb,2+(j-1),none⟩) (v:=((fJ t.jl (j-1)).1)) rfl rfl yd rfl (kK g s_ F.b2 (wg (by rw[F.ok.len];omega) rfl)) (fK g 1 ?_))
     refine iJ (k:=(gM ps s B)) (i:=((gM ps s B:Nat):Int)) rfl rfl rfl yd gr (F.r (j-1) o_) o_ o_ af (jd (u:=(Za (fJ (jw ps (j-1)) (gM ps s B)))) rfl rfl yf rfl (yy g s_ d_ (F.r (j-1) o_)) af rfl (fK g 8 ?_))
     by_cases x:((fJ (jw ps (j-1)) (gM ps s A)):Int)=((fJ (jw ps (j-1)) (gM ps s B)):Int)
     . have ac:=ao x
       refine fK g 9 ?_
       refine ar (a:=((j:Int)-1)) (b:=1) (c:=((j:Int)-1)-1) (e:=((j:Int)-1-1)) rfl rfl rfl rfl (oh o_) (fP g 2 ?_)
       refine tN (?_)
       exact again ((j-1),s) ⟨rfl,rfl,rfl,gj (by first|rfl|omega),trivial⟩ (⟨g,ac,o_⟩) (by show ((j-1):Nat)<j;omega)
     . obtain⟨ac,aB,aC⟩:=ap x
       refine fK g 14 ?_
       refine ar (a:=((j:Int)-1)) (b:=1) (c:=((j:Int)-1)-1) (e:=((j:Int)-1-1)) rfl rfl rfl rfl (oh o_) (fP g 2 ?_)
       refine tN (?_)
       exact again ((j-1),(s+2 ^ (j-1))) ⟨rfl,gj (by first|rfl|omega),gj (by first|rfl|omega),gj (by first|rfl|omega),trivial⟩ (⟨g,ac,o_⟩) (by show ((j-1):Nat)<j;omega)
   . have am:j=0:=by omega
     refine fK R 1 ?_
     subst am
     obtain⟨ak,al⟩:=T.fin Q U o_
     refine fK R 14 ?_
     refine jL (o:=2) (o' := 2) (i:=0) rfl rfl rfl rA j3 d_ rfl (ld (a:=⟨tb,2,none⟩) (v:=((fJ t.jl 0).1)) rfl rfl yd rfl (kK R s_ F.b rfl) (fK R 1 ?_))
     refine iJ (k:=(gM ps s A)) (i:=((gM ps s A:Nat):Int)) rfl rfl rfl yd gr F.p o_ o_ (gy o_) (jd (u:=(Za (fJ ps (gM ps s A)))) rfl rfl yf rfl (yy R s_ d_ F.p) (gy o_) rfl ?_)
     by_cases P:((fJ ps (gM ps s A)):Int)<(0:Int)
     . refine fP R 12 ?_
       refine iD (v:=Zc) (v' := Zp) Tryz.results189 rfl rfl ?_
       exact⟨0,false,rfl,VY Q S hb Z ab T (ak o_),R.gA s_⟩
     . refine fK R 11 ?_
       refine jL (o:=2) (o' := 2) (i:=0) rfl rfl rfl rA j3 d_ rfl (ld (a:=⟨tb,2,none⟩) (v:=((fJ t.jl 0).1)) rfl rfl yd rfl (kK R s_ F.b rfl) (fK R 1 ?_))
       refine iJ (k:=(gM ps s A)) (i:=((gM ps s A:Nat):Int)) rfl rfl rfl yd gr F.p o_ o_ (gy o_) (jd (u:=(Za (fJ ps (gM ps s A)))) rfl rfl yf rfl (yy R s_ d_ F.p) (gy o_) rfl (fP R 5 ?_))
       refine iD (v:=(Za (fJ ps (gM ps s A)))) (v' := Zh) Tryz.results189 rfl rfl ?_
       obtain⟨f1,f2,f3⟩:=al o_
       exact⟨gM ps (s+1) A,true,by rw[f2],VZ Q S hb Z ab T f1 f3,R.gA s_⟩
end
section
open Go Go.Sx
structure Mf where
 bt:Nat
 tb:Nat
 t:Lt
 f:List Nat
 lv:Value
 rv:Value
 pv:Value
 hv:Value
 sv:Value
 fv:Value
 mp:Nat
def Mf.R(mb n:Nat)(es:List Ge)(q:Mf):fT:=kO (iU es n q.f) (gm [blk mb 234 (Zf q.bt),blk q.bt 231 [(Zb q.tb),(Za n),q.lv,q.rv,q.pv,q.hv,q.sv,q.fv,(.map (some q.mp))],(Lt.R q.tb (gf es n q.f).p q.t),fL fW q.lv 3 1 ((gf es n q.f).l),fL fW q.rv 3 1 ((gf es n q.f).r),fL fW q.pv 3 1 ((gf es n q.f).p),fL fW q.hv 2 1 ((gf es n q.f).h),fL fS q.sv 3 1 ((gf es n q.f).s)])
theorem abJ(v:Value)(n:Nat)(es:List Ge)(w:World)(hv:gY 3 Ge.cells (fun _=>True) w v es)(hg:mj n es)(hn:n<=4096)(hm:es.length<=16384) :
 CR ya 184 #[(Za n),v] w (fun r w' => ∃ (mb:Nat) (q:Mf),r = .tuple (Z0 mb)/\fV (gm []) w w' (Mf.R mb n es q)):=by
 refine en Tryz.func184 Tryz.ntmps184 ?_
 have a7:=yu w
 refine fR a7 10 ?_
 refine cl IF (KG v n es w hv hg hn hm) ?_
 rintro _ aw ⟨d,t,y,o,T,z,rfl,ac,ht⟩
 have P:=yv (jR a7 ht)
 have a1:iU es n d:=⟨hg,ac⟩
 have be:=a1.f.room a1.g
 obtain⟨bh,bi,bj,bk,bl⟩:=nQ (es:=es) (n:=n) (f:=d)
 have a9:=a1.u9
 have a8:=a1.Kx
 refine fK P 3 ?_
 refine iE P (fun G ax ay az H=>?_)
 refine jM 0 H (fun ad N=>?_) (h1:=(gX rfl (gX (yr H (i:=1) rfl) (gX (yr H (i:=2) rfl) (gX (yr H (i:=3) rfl) (gX (yr H (i:=4) rfl) (gX (yr H (i:=5) rfl) j4)))))))
 refine fK N 17 ?_
 refine cl Pe (Qg v n es ad (yy N s_ d_ hv) hg hn hm) ?_
 rintro _ ae ⟨A,b,rfl,af,ht⟩
 have O:=(jR N ht)
 have a5:=af
 have bd:=a5.len
 refine fK O 21 ?_
 refine cl Pg (QG o (gf es n d).p ae (y0 O 4 rfl).any a9 a8 o_) ?_
 rintro _ aA ⟨B,D,rfl,ht⟩
 have Q:=(jR O ht)
 refine fK Q 22 ?_
 refine mkV (Prod.fst:Value×List jI->Value) .i64 rfl rfl Q (fun j aB aC aD S=>jc (pvs:=[(0,(Zb B)),(1,(B0 n t y o T z)),(2,A),(3,(.map (some j)))]) (v:=.agg #[(Zb B),(Za n),t,y,o,T,z,A,(.map (some j))]) rfl rfl (jo [(0,(Zf B)),(1,(Zr n t y o T z)),(2,[A]),(3,[(.map (some j))])] TL adj rfl ⟨rfl,rfl,rfl,rfl,rfl,(cells_one (yr S (i:=2) rfl)),rfl,rfl,trivial⟩ rfl) (iC S (fun C ag aE aF I=>?_)))
 refine fK I 7 ?_
 refine iM (m:=b.length) 3 rfl rfl yd I rfl ?_
 have ah:St _ [oH jI.cells 2 373 ([]),blk C 231 [(Zb B),(Za n),t,y,o,T,z,A,(.map (some j))],ic j .i64 (Prod.fst:Value×List jI->Value) ([]),(Lt.R B (gf es n d).p D),fL fS A 3 1 b,blk G 102 (Zr n t y o T z),fL fW t 3 1 ((gf es n d).l),fL fW y 3 1 ((gf es n d).r),fL fW o 3 1 ((gf es n d).p),fL fW T 2 1 ((gf es n d).h),fL fS z 3 1 ((gf es n d).s)] ag:=St.Y2 I
 have ai:=yg [1,4,2,0,3,5,6,7,8,9,10] ah
 refine gD I 4 ?_
 refine lp (α:=Nat×AM) (fun(k,F)=>[(1,v),(10,(Zb C)),(48,A),(49,(Za b.length)),(50,(Za k))]) (fun(k,F) w1=>St [(w,[])] [blk C 231 [(Zb B),(Za n),t,y,o,T,z,A,(.map (some j))],fL fS A 3 1 b,ic j .i64 (Prod.fst:Value×List jI->Value) F,oH jI.cells 2 373 F,(Lt.R B (gf es n d).p D),blk G 102 (Zr n t y o T z),fL fW t 3 1 ((gf es n d).l),fL fW y 3 1 ((gf es n d).r),fL fW o 3 1 ((gf es n d).p),fL fW T 2 1 ((gf es n d).h),fL fS z 3 1 ((gf es n d).s)] w1/\k<=b.length/\∀ c,(gh F c).2.length<=2*k) (fun(k,F)=>b.length-k) (0,[]) ⟨rfl,rfl,rfl,rfl,gj rO,trivial⟩ (⟨ai,o_,Y5⟩) ?_
 rintro⟨k,F⟩ aG aH ⟨a2,hk,a3⟩
 refine fR a2 2 ?_
 by_cases aI:((k:Int):Int)<((b.length:Int):Int)
 . have ba:k<b.length:=by omega
   have bc:fJ b k<es.length:=a5.lt (zd (gy ba))
   have a6:=hg.at bc
   have bf:=a6.1
   have bg:=a6.2.1
   refine vh a2 33 fun aJ aj=>?_
   have ak:=yg [3,0,1,2,4,5,6,7,8,9,10] aj
   have al:=St.P3 ((fJ es (fJ b k)).u:Int) ak
   refine kC mixed [([0,1,2,3,4,5,6,7,8,9,10,11,12,13,14],[3,8,10]),([15],[3])] [16] al (fun aK J=>jA ?_)
   refine fK J 10 ?_
   refine qZ (a:=((fJ es (fJ b k)).u:Int)) (mm:=F) (enc:=(Prod.fst:Value×List jI->Value)) (k:=.i64) 4 rfl rfl rfl zC yf Da rfl J rfl (fK J 2 ?_)
   refine jc (pvs:=[(0,(Za (((fJ b k):Nat):Int))),(1,(Za ((fJ es (fJ b k)).v:Int)))]) (v:=.agg (Zx (((fJ b k):Nat):Int) ((fJ es (fJ b k)).v:Int))) rfl rfl (jo [(0,(Zd (((fJ b k):Nat):Int))),(1,(Zd ((fJ es (fJ b k)).v:Int)))] yY Sm rfl ⟨rfl,rfl,rfl,rfl,trivial⟩ rfl) (jJ (vs:=(D3 (((fJ b k):Nat):Int) ((fJ es (fJ b k)).v:Int))) (cs:=(Zn (((fJ b k):Nat):Int) ((fJ es (fJ b k)).v:Int))) rfl rfl GG yY rfl (by simp[Value.cells]) rfl rfl rfl J (fun an aL aM aN K=>fP K 1 ?_))
   refine uf (lq rfl pG (lq rfl pG (lq rfl (p9 (yB (a:=((fJ es (fJ b k)).u:Int)) (mm:=F) (enc:=(Prod.fst:Value×List jI->Value)) (k:=.i64) 5 rfl rfl zC yf Da rfl K rfl) rfl rfl) (trivial)))) (jA ?_)
   refine k8 (cf:=jI.cells) (ys:=(gh F ((fJ es (fJ b k)).u:Int)).2) (zs:=[(tG b k es)]) (LL:=fun e=>(MW (row (.slice (some ⟨an,0,none⟩) 1 1) 373 2 1 ([(.int .i64 (((fJ b k):Nat):Int)),(.int .i64 ((fJ es (fJ b k)).v:Int))])) e (((gh F ((fJ es (fJ b k)).u:Int)).2)++[(⟨(fJ b k),((fJ es (fJ b k)).v)⟩:jI)]) (oH jI.cells 2 373 (je F ((fJ es (fJ b k)).u:Int))) C B n t y o T z A (some j) b j F (gf es n d) D G)) 1 rfl rfl rfl GG yY rfl d_ K rfl (kG K (i:=0) rfl) (fun x hx=>zk.1 (show List.all _ _=true from rfl) x hx) (by simp only[zb,zg,maxLen];have h7:=a3 ((fJ es (fJ b k)).u:Int);omega) (by simp only[zb,zg,maxLen];have h7:=a3 ((fJ es (fJ b k)).u:Int);omega) f_ ?_
   intro e aO ao aP
   have U:=yg [1,2,3,4,5,6,7,8,9,10,11,12] ao
   refine fP U 1 ?_
   refine kn (kF ?_)
   refine ri (a:=((fJ es (fJ b k)).u:Int)) (c:=(e,((gh F ((fJ es (fJ b k)).u:Int)).2)++[(tG b k es)])) (mm:=F) (enc:=(Prod.fst:Value×List jI->Value)) (k:=.i64) (L' := (Nn e (((gh F ((fJ es (fJ b k)).u:Int)).2)++[(⟨(fJ b k),((fJ es (fJ b k)).v)⟩:jI)]) (oH jI.cells 2 373 (je F ((fJ es (fJ b k)).u:Int))) C B n t y o T z A (some j) b j (gF F ((fJ es (fJ b k)).u:Int) (e,((gh F ((fJ es (fJ b k)).u:Int)).2)++[(⟨(fJ b k),((fJ es (fJ b k)).v)⟩:jI)])) (gf es n d) D G)) 4 rfl rfl rfl rfl zC yf U rfl rfl (fun aQ V=>fP V 1 ?_)
   have W:=St.P0 V
   have a4:=P4 a3 ((fJ es (fJ b k)).u:Int) e (tG b k es)
   refine Kv tt none W 1 ?_
   have ap:=St.P3 ((fJ es (fJ b k)).v:Int) W
   refine kC mixed [([0,1,2,3,4,5,6,7,8,9,10,11,12,13,14],[3,8,10]),([15],[3])] [16] ap (fun aR L=>jA ?_)
   refine fK L 10 ?_
   refine qZ (a:=((fJ es (fJ b k)).v:Int)) (mm:=(gF F ((fJ es (fJ b k)).u:Int) (e,((gh F ((fJ es (fJ b k)).u:Int)).2)++[(tG b k es)]))) (enc:=(Prod.fst:Value×List jI->Value)) (k:=.i64) 4 rfl rfl rfl zC yf Da rfl L rfl (fK L 2 ?_)
   refine jc (pvs:=[(0,(Za (((fJ b k):Nat):Int))),(1,(Za ((fJ es (fJ b k)).u:Int)))]) (v:=.agg (Zx (((fJ b k):Nat):Int) ((fJ es (fJ b k)).u:Int))) rfl rfl (jo [(0,(Zd (((fJ b k):Nat):Int))),(1,(Zd ((fJ es (fJ b k)).u:Int)))] yY Sm rfl ⟨rfl,rfl,rfl,rfl,trivial⟩ rfl) (jJ (vs:=(D3 (((fJ b k):Nat):Int) ((fJ es (fJ b k)).u:Int))) (cs:=(Zn (((fJ b k):Nat):Int) ((fJ es (fJ b k)).u:Int))) rfl rfl GG yY rfl (by simp[Value.cells]) rfl rfl rfl L (fun aq aS aT aU M=>fP M 1 ?_))
   refine uf (lq rfl pG (lq rfl pG (lq rfl (p9 (yB (a:=((fJ es (fJ b k)).v:Int)) (mm:=(gF F ((fJ es (fJ b k)).u:Int) (e,((gh F ((fJ es (fJ b k)).u:Int)).2)++[(tG b k es)]))) (enc:=(Prod.fst:Value×List jI->Value)) (k:=.i64) 5 rfl rfl zC yf Da rfl M rfl) rfl rfl) (trivial)))) (jA ?_)
   refine k8 (cf:=jI.cells) (ys:=(gh (gF F ((fJ es (fJ b k)).u:Int) (e,((gh F ((fJ es (fJ b k)).u:Int)).2)++[(tG b k es)])) ((fJ es (fJ b k)).v:Int)).2) (zs:=[(DW b k es)]) (LL:=fun E=>(MW (row (.slice (some ⟨aq,0,none⟩) 1 1) 373 2 1 ([(.int .i64 (((fJ b k):Nat):Int)),(.int .i64 ((fJ es (fJ b k)).u:Int))])) E (((gh (gF F ((fJ es (fJ b k)).u:Int) (e,((gh F ((fJ es (fJ b k)).u:Int)).2)++[(⟨(fJ b k),((fJ es (fJ b k)).v)⟩:jI)])) ((fJ es (fJ b k)).v:Int)).2)++[(⟨(fJ b k),((fJ es (fJ b k)).u)⟩:jI)]) (oH jI.cells 2 373 (je (gF F ((fJ es (fJ b k)).u:Int) (e,((gh F ((fJ es (fJ b k)).u:Int)).2)++[(⟨(fJ b k),((fJ es (fJ b k)).v)⟩:jI)])) ((fJ es (fJ b k)).v:Int))) C B n t y o T z A (some j) b j (gF F ((fJ es (fJ b k)).u:Int) (e,((gh F ((fJ es (fJ b k)).u:Int)).2)++[(⟨(fJ b k),((fJ es (fJ b k)).v)⟩:jI)])) (gf es n d) D G)) 1 rfl rfl rfl GG yY rfl d_ M rfl (kG M (i:=0) rfl) (fun x hx=>zk.1 (show List.all _ _=true from rfl) x hx) (by simp only[zb,zg,maxLen];have h7:=a4 ((fJ es (fJ b k)).v:Int);omega) (by simp only[zb,zg,maxLen];have h7:=a4 ((fJ es (fJ b k)).v:Int);omega) f_ ?_
   intro E aV ar aW
   have X:=yg [1,2,3,4,5,6,7,8,9,10,11,12] ar
   refine fP X 1 ?_
   refine kn (kF ?_)
   refine ri (a:=((fJ es (fJ b k)).v:Int)) (c:=(E,((gh (gF F ((fJ es (fJ b k)).u:Int) (e,((gh F ((fJ es (fJ b k)).u:Int)).2)++[(tG b k es)])) ((fJ es (fJ b k)).v:Int)).2)++[(DW b k es)])) (mm:=(gF F ((fJ es (fJ b k)).u:Int) (e,((gh F ((fJ es (fJ b k)).u:Int)).2)++[(tG b k es)]))) (enc:=(Prod.fst:Value×List jI->Value)) (k:=.i64) (L' := (Nn E (((gh (gF F ((fJ es (fJ b k)).u:Int) (e,((gh F ((fJ es (fJ b k)).u:Int)).2)++[(⟨(fJ b k),((fJ es (fJ b k)).v)⟩:jI)])) ((fJ es (fJ b k)).v:Int)).2)++[(⟨(fJ b k),((fJ es (fJ b k)).u)⟩:jI)]) (oH jI.cells 2 373 (je (gF F ((fJ es (fJ b k)).u:Int) (e,((gh F ((fJ es (fJ b k)).u:Int)).2)++[(⟨(fJ b k),((fJ es (fJ b k)).v)⟩:jI)])) ((fJ es (fJ b k)).v:Int))) C B n t y o T z A (some j) b j (gF (gF F ((fJ es (fJ b k)).u:Int) (e,((gh F ((fJ es (fJ b k)).u:Int)).2)++[(⟨(fJ b k),((fJ es (fJ b k)).v)⟩:jI)])) ((fJ es (fJ b k)).v:Int) (E,((gh (gF F ((fJ es (fJ b k)).u:Int) (e,((gh F ((fJ es (fJ b k)).u:Int)).2)++[(⟨(fJ b k),((fJ es (fJ b k)).v)⟩:jI)])) ((fJ es (fJ b k)).v:Int)).2)++[(⟨(fJ b k),((fJ es (fJ b k)).u)⟩:jI)])) (gf es n d) D G)) 4 rfl rfl rfl rfl zC yf X rfl rfl (fun aX Y=>fP Y 1 ?_)
   have Z:=St.P0 Y
   have bb:=P4 a4 ((fJ es (fJ b k)).v:Int) E (DW b k es)
   refine r8 tt none Z 6 ?_
   refine tN (?_)
   have au:=yg [1,2,3,0,4,5,6,7,8,9,10] Z
   exact again ((k+1),(gF (gF F ((fJ es (fJ b k)).u:Int) (e,((gh F ((fJ es (fJ b k)).u:Int)).2)++[(tG b k es)])) ((fJ es (fJ b k)).v:Int) (E,((gh (gF F ((fJ es (fJ b k)).u:Int) (e,((gh F ((fJ es (fJ b k)).u:Int)).2)++[(tG b k es)])) ((fJ es (fJ b k)).v:Int)).2)++[(DW b k es)]))) ⟨rfl,rfl,rfl,rfl,gj rO,trivial⟩ (⟨au,o_,bb⟩) (by show (b.length-(k+1):Nat)<b.length-k;omega)
 . refine fK a2 13 ?_
   refine jc (pvs:=[(0,(Zb C))]) (v:=.agg (Zi C)) rfl rfl (jo [(0,(Zf C))] TN adk rfl ⟨rfl,rfl,trivial⟩ rfl) (iC a2 (fun aa aY aZ a0 ab=>?_))
   refine fP ab 5 ?_
   refine iD (v:=(Zb aa)) (v' := Zc) Tryz.results184 rfl rfl ?_
   have av:=yg [0,1,5,7,8,9,10,11] ab
   exact⟨aa,(⟨C,B,D,d,t,y,o,T,z,A,j⟩:Mf),rfl,vz (yt (p:=iU es n d) (yc [_,_,_,_,_,_,_,_] _ av) a1) s_⟩
structure uD (w:World) (mb n:Nat) (es:List Ge) (q:Mf):Prop where
 fg:iU es n q.f
 b1:(blk mb 234 (Zf q.bt)).holds w
 b2:(blk q.bt 231 [(Zb q.tb),(Za n),q.lv,q.rv,q.pv,q.hv,q.sv,q.fv,(.map (some q.mp))]).holds w
 t:nw w q.tb (gf es n q.f).p q.t
 r:mY w es n q.f q.lv q.rv q.pv q.hv q.sv
theorem uD.of{w:World}{mb n:Nat}{es:List Ge}{q:Mf}(a:Own (Mf.R mb n es q) w):uD w mb n es q:=by
 have h:=Own.of a.un
 exact⟨a.fact,St.at h (i:=0) rfl,St.at h (i:=1) rfl,nw.of (ye h 2 rfl),⟨(y0 h 3 rfl).any,(y0 h 4 rfl).any,(y0 h 5 rfl).any,(y0 h 6 rfl).any,(y0 h 7 rfl).any⟩⟩
theorem uD.to{bs:List (World×List Nat)}{L:List fT}{w w0:World}{mb n:Nat}{es:List Ge}{q:Mf}(h:uD w0 mb n es q)(hs:St bs L w)(hb:(w0,[])∈bs):uD w mb n es q :=
 ⟨h.fg,St.xZ hs hb h.b1,St.xZ hs hb h.b2,h.t.to hs hb,h.r.to hs hb⟩
theorem JZ(mb n:Nat)(es:List Ge)(q:Mf)(w:World)(d:uD w mb n es q)(m:n<=4096)(x:Nat)(o:x<n) :
 CR ya 113 (Zm mb x) w (fun r w' => r = .bool true/\gw [] w w'):=by
 obtain⟨h,i,j,k,l⟩:=nQ (es:=es) (n:=n) (f:=q.f)
 have e:=d.fg.f.room d.fg.g
 refine en Tryz.func113 Tryz.ntmps113 ?_
 have b:=yu w
 refine fR b 8 ?_
 refine l9 (a:=some ⟨mb,0,none⟩) (c:=true) rfl rfl rfl Tryz.underlying104 rfl (fK b 4 ?_)
 refine ld rfl rfl Dk rfl (kK b s_ d.b1 rfl) (l9 (a:=some ⟨q.bt,0,none⟩) (c:=true) rfl rfl rfl Dk rfl (fK b 3 ?_))
 refine cmp rfl rfl rfl (nG o_) (fK b 6 ?_)
 refine ld rfl rfl Dk rfl (kK b s_ d.b1 rfl) (fK b 3 ?_)
 refine ld rfl rfl yf rfl (kK b s_ d.b2 rfl) (cmp rfl rfl rfl (pZ o_) (fP b 5 ?_))
 refine gq (v:=Zh) Tryz.results113 rfl ?_
 exact⟨rfl,b.gA s_⟩
theorem abK(mb n:Nat)(es:List Ge)(q:Mf)(w:World)(y:uD w mb n es q)(C:n<=4096){o:Obj}(E:(jW o).holds w)(u v:Nat)(L:u<n)(hv:v<n) :
 CR ya 114 (Zu mb u v) w (fun r w' => ∃ (z:Nat) (B:Bool),r = .tuple (qo z B)/\((u=v->z=0/\B=false)/\(u≠v->sG (gf es n q.f).p u v z B))/\gw [] w w'):=by
 obtain⟨G,H,I,J,K⟩:=nQ (es:=es) (n:=n) (f:=q.f)
 have F:=y.fg.f.room y.fg.g
 refine en Tryz.func114 Tryz.ntmps114 ?_
 have D:=yu w
 refine fR D 11 ?_
 refine cl Iy (JZ mb n es q w y C u o_) ?_
 rintro _ h ⟨rfl,i⟩
 have b:=yp D i
 refine fK b 4 ?_
 refine cl Iy (JZ mb n es q h (y.to b s_) C v o_) ?_
 rintro _ j ⟨rfl,k⟩
 have a:=yp b k
 refine fK a 5 ?_
 by_cases s:((u:Int):Int)=((v:Int):Int)
 . refine fP a 13 ?_
   refine iD (v:=Zc) (v' := Zp) Tryz.results114 rfl rfl ?_
   exact⟨0,false,rfl,⟨fun _=>⟨rfl,rfl⟩,fun A=>absurd o_ A⟩,a.gA s_⟩
 . refine fK a 12 ?_
   refine ld rfl rfl Dk rfl (kK a s_ y.b1 rfl) (fK a 2 ?_)
   refine ld rfl rfl zB rfl (kK a s_ y.b2 rfl) (fK a 2 ?_)
   refine cl Xt (aay q.tb (gf es n q.f).p q.t j (y.to a s_).t y.fg.u9 o_ (St.x8 a (X:=[]) s_ E s_) y.fg.Kx u v o_ o_) ?_
   rintro _ x ⟨c,d,rfl,l,m⟩
   have e:=yp a m
   refine fP e 7 ?_
   refine iD (v:=(Za c)) (v' := (.bool d)) Tryz.results114 rfl rfl ?_
   exact⟨c,d,rfl,⟨fun A=>absurd A o_,fun _=>l⟩,e.gA s_⟩
theorem sG.lt{ps:List Int}{a b z:Nat}{B:Bool}(hp:ko ps)(h:sG ps a b z B)(e:a<ps.length)(hb:0<ps.length):z<ps.length:=by
 rcases h with ⟨_,s,t,c,_,d,_⟩|⟨_,h,_⟩
 . rw[<-d]
   exact(qC hp e c).1
 . omega
theorem abM(mb n:Nat)(es:List Ge)(q:Mf)(w:World)(A:uD w mb n es q)(C:n<=4096){o:Obj}(E:(jW o).holds w)(u v:Nat)(F:u<n)(hv:v<n) :
 CR ya 63 (Zu mb u v) w (fun r w' => ∃ (θ:Int) (B:Bool),r = .tuple (qo θ B)/\((u=v->θ = -9223372036854775808/\B=true)/\(u≠v->∃ z,sG (gf es n q.f).p u v z B/\(B=true->θ=fJ (gf es n q.f).h z)/\(B=false->θ=0)))/\gw [] w w'):=by
 obtain⟨I,J,K,L,M⟩:=nQ (es:=es) (n:=n) (f:=q.f)
 have H:=A.fg.f.room A.fg.g
 refine en Tryz.func63 Tryz.ntmps63 ?_
 have D:=yu w
 refine fR D 11 ?_
 refine cl Iy (JZ mb n es q w A C u o_) ?_
 rintro _ j ⟨rfl,l⟩
 have b:=yp D l
 refine fK b 3 ?_
 by_cases t:((u:Int):Int)=((v:Int):Int)
 . refine fP b 13 ?_
   refine iD (v:=(Za (-9223372036854775808))) (v' := Zh) Tryz.results63 rfl rfl ?_
   exact⟨_,true,rfl,⟨fun _=>⟨rfl,rfl⟩,fun y=>absurd o_ y⟩,b.gA s_⟩
 . refine fK b 12 ?_
   refine cl WY (abK mb n es q j (A.to b s_) C (St.x8 b (X:=[]) s_ E s_) u v F hv) ?_
   rintro _ x ⟨c,m,rfl,d,s⟩
   have a:=yp b s
   refine gD a 14 ?_
   cases e:(m:Bool)
   . skip
     subst e
     refine iO a 9 ?_
     refine iD (v:=Zc) (v' := Zp) Tryz.results63 rfl rfl ?_
     exact⟨0,false,rfl,⟨fun y=>absurd y o_,fun y=>⟨_,d.2 y,fun h=>absurd h d_,fun _=>rfl⟩⟩,a.gA s_⟩
   . skip
     subst e
     have N:c<n+q.f.length:=by have G:=sG.lt A.fg.u9 (d.2 o_) o_ o_;omega
     refine fR a 8 ?_
     refine ld rfl rfl Dk rfl (kK a s_ A.b1 rfl) (fK a 3 ?_)
     refine ld rfl rfl ow rfl (kK a s_ A.b2 rfl) (fK a 1 ?_)
     refine iJ (k:=c) (i:=(c:Int)) rfl rfl rfl ow ti2 A.r.h o_ o_ (gy o_) (jd rfl rfl vw rfl (yy a s_ d_ A.r.h) (gy o_) rfl (fP a 5 ?_))
     refine iD (v:=(Za (fJ (gf es n q.f).h c))) (v' := Zh) Tryz.results63 rfl rfl ?_
     exact⟨_,true,rfl,⟨fun y=>absurd y o_,fun y=>⟨_,d.2 y,fun _=>rfl,fun h=>absurd h d_⟩⟩,a.gA s_⟩
end
section
open Go Go.Sx
theorem UK(fb nb m:Nat)(ed:Int)(xs:List Nd)(w:World)(t:Own (Zk fb nb m ed xs) w)(hm:xs.length=m)(hb:m<=1000001)(s:fZ xs)(F:FT)(q:Fo xs F)(v:Nat)(hv:v+1<m) :
 CR ya 251 (Zm fb v) w (fun r w' => ∃ (d:Int) (zs:List Nd) (F2:FT),r = .int .i64 d/\Fo zs F2/\fZ zs/\zs.length=m/\fV (Zk fb nb m ed xs) w w' (Zk fb nb m ed zs)):=by
 refine en Tryz.func251 Tryz.ntmps251 ?_
 have p:=(yq t).unpack
 refine fR p 10 ?_
 refine cl EB (AL fb nb m ed w (p.at (i:=0) rfl) hb v o_) ?_
 rintro _ g ⟨rfl,h⟩
 have e:=yp p h
 have f:=yc [_,_] _ e
 refine fK e 11 ?_
 refine cl xS (xV fb nb m ed xs g (ye f 0 rfl) (by first|exact hm|omega) hb s F q (v+1) o_ o_) ?_
 rintro _ k ⟨x,rfl,a,l,n,b,j,u⟩
 have c:=(yk f u)
 have o:a.length=m:=by have:=b.len;omega
 refine fK c 10 ?_
 refine jq (o' := (v+1)*9+0) (i:=(v:Int)+1) rfl rfl rfl yh jk (o9 (show (v+1)<(a).length from om)) o_ (fP c 6 ?_)
 refine gq (v:=(Za ((fJ a (v+1)).total))) Tryz.results251 rfl ?_
 exact⟨(fJ a (v+1)).total,a,_,rfl,b.fo,j,by have:=b.len;omega,yi (yc [_,_] _ c)⟩
end
section
open Go Go.Sx
theorem abr(fb nb m:Nat)(w:World)(j:Own (j7 fb nb m) w)(hb:m<=1000001)(a:Nat)(l:a+1<m) :
 CR ya 251 (Zm fb a) w (fun r w' => ∃ d:Int,r = .int .i64 d/\fV (j7 fb nb m) w w' (j7 fb nb m)):=by
 obtain⟨ed,xs,F,b,c,f,k⟩:=CT j
 exact CR.mono (UK fb nb m ed xs w k b hb c F f a l) fun r w' ⟨d,zs,F2,e,g,h,i,n⟩=>⟨d,e,Df n i h g⟩
theorem ZW(fO fN ob:Nat)(s:GW)(w:World)(n:Own (GW.R fO fN ob s) w)(v:Nat)(hv:v<fO) :
 CR ya 181 (Zm ob v) w (fun r w' => ∃ d:Int,r = .int .i64 d/\fV (GW.R fO fN ob s) w w' (GW.R fO fN ob s)):=by
 have y:=n.fact.vn
 have x:=n.fact.v2
 have u:=n.fact.en
 refine en Tryz.func181 Tryz.ntmps181 ?_
 have t:=Own.of n.un
 have q:s.ok fO fN:=n.fact
 have f:=yt (p:=GW.ok fO fN s) (yc [_,_,_,_] _ t) q
 refine fR t 10 ?_
 refine cl IG (I7 fO fN ob s w (ye f 0 rfl) v o_) ?_
 rintro _ l ⟨rfl,o⟩
 have i:=yj 0 f o
 have j:=(ku i).unpack
 refine gI j 18 fun k g=>?_
 refine ar (e:=((fN+v:Nat):Int)) rfl rfl rfl rfl iW (cl XL (abr s.fb s.nb (fN+fO+1) k (ye g 1 rfl) o_ (fN+v) o_) ?_)
 rintro _ m ⟨c,rfl,o⟩
 have h:=yj 1 g o
 refine ar (e:=(IntKind.i64.wrap (c+1))) rfl rfl rfl rfl rfl (quo (a:=(IntKind.i64.wrap (c+1))) (b:=2) (e:=(IntKind.i64.wrap ((IntKind.i64.wrap (c+1)).tdiv 2))) rfl rfl rfl d_ rfl (fP h 4 ?_))
 refine gq (v:=(Za (IntKind.i64.wrap ((IntKind.i64.wrap (c+1)).tdiv 2)))) Tryz.results181 rfl ?_
 exact⟨_,rfl,ym (yt (p:=s.ok fO fN) (yc [_,_,_,_] _ h) q) za⟩
end
section
open Go Go.Sx
theorem I9{t:TW}{a b:Int}{c d:Nat}{p q:Bool}(h1:t.oD a c p)(e:t.oD b d q):(p&&q)=true/\t.oD a c true/\t.oD b d true\/(p&&q)=false/\¬ (t.cnt a=0/\t.cnt b=0):=by
 have e1:=h1.cnt
 have f:=e.cnt
 cases p<;>cases q<;>simp_all
theorem agF(c:WC)(F:Nat)(s:WW)(w:World)(H:Own (WW.R c F s) w)(a b:Int) :
 CR ya 180 #[(Zb F),(Zo a),(Zo b)] w (fun r w' => ∃ (J K:Nat) (e:Int),r = .tuple #[.int .i64 (J:Int),.int .i64 (K:Int),.int .i64 e]/\(e=0/\s.u.t.oD a J true/\s.u.t.oD b K true\/e=13/\¬ (s.u.t.cnt a=0/\s.u.t.cnt b=0))/\fV (WW.R c F s) w w' (WW.R c F s)):=by
 refine en Tryz.func180 Tryz.ntmps180 ?_
 have I:=Own.of H.un
 have D:s.ok c:=H.fact
 have L:=D.w1
 have M:=D.wi
 have N:=D.n0
 have O:=D.n1
 have j:=yt (p:=s.ok c) (yc [_,_,_,_,_] _ I) D
 refine fR I 11 ?_
 refine cl vZ (xe c F s w (ye j 0 rfl)) ?_
 rintro _ o ⟨rfl,E⟩
 have q:=yj 0 j E
 have f:=(ku q).unpack
 refine fK f 13 ?_
 refine cl Ev (Gj c.fO c.fN s.ub s.u o (ye f 2 rfl) a) ?_
 rintro _ x ⟨k,y,rfl,g,E⟩
 have h:=yj 2 f E
 refine fK h 14 ?_
 refine cl Ev (Gj c.fO c.fN s.ub s.u x (ye h 2 rfl) b) ?_
 rintro _ A ⟨l,z,rfl,i,E⟩
 have d:=yj 2 h E
 refine fK d 13 ?_
 cases m:(y:Bool)
 . skip
   subst m
   refine fP d 15 ?_
   refine tZ (v:=Zc) (v' := Zc) (v'' := (.int .i64 13)) Tryz.results180 rfl rfl rfl ?_
   rcases I9 g i with ⟨B,C,G⟩|⟨B,C⟩
   . exact absurd B (by simp_all)
   . exact⟨0,0,13,rfl,.inr ⟨rfl,C⟩,ym (yt (p:=s.ok c) (yc [_,_,_,_,_] _ d) D) za⟩
 . skip
   subst m
   refine gD d 5 ?_
   cases n:(z:Bool)
   . skip
     subst n
     refine iO d 10 ?_
     refine tZ (v:=Zc) (v' := Zc) (v'' := (.int .i64 13)) Tryz.results180 rfl rfl rfl ?_
     rcases I9 g i with ⟨B,C,G⟩|⟨B,C⟩
     . exact absurd B (by simp_all)
     . exact⟨0,0,13,rfl,.inr ⟨rfl,C⟩,ym (yt (p:=s.ok c) (yc [_,_,_,_,_] _ d) D) za⟩
   . skip
     subst n
     refine iO d 13 ?_
     refine tZ (v:=(Za ((k:Nat):Int))) (v' := (Za ((l:Nat):Int))) (v'' := Zc) Tryz.results180 rfl rfl rfl ?_
     rcases I9 g i with ⟨B,C,G⟩|⟨B,C⟩
     . exact⟨k,l,0,rfl,.inl ⟨rfl,C,G⟩,ym (yt (p:=s.ok c) (yc [_,_,_,_,_] _ d) D) za⟩
     . exact absurd B (by simp_all)
theorem ag2(c:WC)(A:Nat)(s:WW)(w:World)(E:Own (WW.R c A s) w)(id:Int) :
 CR ya 109 (Z2 A id) w (fun r w' => ∃ (d e:Int),r = .tuple (Zx d e)/\(e=0↔s.u.t.cnt id=0)/\fV (WW.R c A s) w w' (WW.R c A s)):=by
 refine en Tryz.func109 Tryz.ntmps109 ?_
 have F:=Own.of E.un
 have z:s.ok c:=E.fact
 have K:=z.w1
 have L:=z.wi
 have M:=z.n0
 have N:=z.n1
 have h:=yt (p:=s.ok c) (yc [_,_,_,_,_] _ F) z
 refine fR F 11 ?_
 refine cl Xm (agF c A s w (ye h 0 rfl) id id) ?_
 rintro _ l ⟨f,m,b,rfl,j,C⟩
 have n:=yj 0 h C
 have a:=(ku n).unpack
 refine fK a 13 ?_
 by_cases q:(b:Int)=(0:Int)
 . have D:fU.ok c.fO c.fN s.u:=(y8 a (i:=2) rfl)
   have J:=z.v2
   have G:b=0/\s.u.t.oD id f true/\s.u.t.oD id m true:=j.elim (fun y=>y) (fun y=>by exfalso;omega)
   have O:f<c.fO:=by have y:=TW.oD.lt G.2.1 D.tok (by rw[D.tn];omega);rw[D.tn]at y;exact y
   refine fK a 13 ?_
   refine cl Xn (ZW c.fO c.fN s.ob s.g l (ye a 4 rfl) f o_) ?_
   rintro _ x ⟨o,rfl,C⟩
   have k:=yj 4 a C
   refine fP k 5 ?_
   refine iD (v:=(Za o)) (v' := Zc) Tryz.results109 rfl rfl ?_
   have I:=G.2.1.cnt
   exact⟨_,0,rfl,⟨fun _=>by rw[I];rfl,fun _=>rfl⟩,ym (yt (p:=s.ok c) (yc [_,_,_,_,_] _ k) z) za⟩
 . refine fP a 13 ?_
   refine iD (v:=Zc) (v' := (Za b)) Tryz.results109 rfl rfl ?_
   have H:b=13/\¬ (s.u.t.cnt id=0/\s.u.t.cnt id=0):=j.elim (fun y=>by exfalso;omega) (fun y=>y)
   exact⟨_,_,rfl,⟨fun B=>(by exfalso;omega),fun B=>absurd ⟨B,B⟩ H.2⟩,ym (yt (p:=s.ok c) (yc [_,_,_,_,_] _ a) z) za⟩
end
section
open Go Go.Sx
theorem UA(c:WC)(j:Nat)(s:WW)(w:World)(k:Own (WW.R c j s) w) :
 CR ya 24 (Zi j) w (fun r w' => r = .int .u64 (IntKind.u64.wrap (s.added+s.jU))/\fV (WW.R c j s) w w' (WW.R c j s)):=by
 refine en Tryz.func24 Tryz.ntmps24 ?_
 have l:=Own.of k.un
 have i:s.ok c:=k.fact
 have n:=i.w1
 have o:=i.wi
 have q:=i.n0
 have t:=i.n1
 have a:=yt (p:=s.ok c) (yc [_,_,_,_,_] _ l) i
 refine fR l 9 ?_
 refine cl vZ (xe c j s w (ye a 0 rfl)) ?_
 rintro _ g ⟨rfl,m⟩
 have d:=yj 0 a m
 have f:=(ku d).unpack
 refine gI f 16 fun h b=>?_
 refine ar (e:=IntKind.u64.wrap (s.added+s.jU)) rfl rfl rfl rfl rfl (fP b 4 ?_)
 refine gq (v:=(Zo (IntKind.u64.wrap (s.added+s.jU)))) Tryz.results24 rfl ?_
 exact⟨rfl,ym (yt (p:=s.ok c) (yc [_,_,_,_,_] _ b) i) za⟩
structure Vk where
 iv:Value
 K:List Int
 es:List Ge
 f:List Nat
 lv:Value
 rv:Value
 pv:Value
 hv:Value
 sv:Value
 cb:Nat
 c:Cv
 mb:Nat
 q:Mf
structure Vk.ok (k:Vk):Prop where
 fg:iU k.es k.K.length k.f
 lF:k.K.Pairwise fun a b=>a<b
 n:k.K.length<=12
def Vk.R(k:Vk):fT:=kO k.ok (gm [fL gO k.iv 39 1 k.K,fL fW k.lv 3 1 ((gf k.es k.K.length k.f).l),fL fW k.rv 3 1 ((gf k.es k.K.length k.f).r),fL fW k.pv 3 1 ((gf k.es k.K.length k.f).p),fL fW k.hv 2 1 ((gf k.es k.K.length k.f).h),fL fS k.sv 3 1 ((gf k.es k.K.length k.f).s),(Cv.R k.cb k.K.length k.es k.c),(Mf.R k.mb k.K.length k.es k.q)])
abbrev Vk.v(k:Vk):Value:=.agg #[k.iv,(Za k.K.length),k.lv,k.rv,k.pv,k.hv,k.sv,(Zb k.cb),(Zb k.mb)]
structure Vk.of (s:WW) (k:Vk):Prop where
 ids:s.u.mo k.K
 pic:∃ L,s.u.kL L/\kN k.K L k.es L.length
abbrev Ad a b:=(gm [Vk.R a,b]:fT)
abbrev sM(a:Vk) b:=(Cv.R a.cb b a.es a.c:fT)
abbrev qt(a:Vk) b:=(Mf.R a.mb b a.es a.q:fT)
abbrev Zl(a:Vk):=gf a.es a.K.length a.f
abbrev G8 a (b c:Nat):=(gm [Vk.R a,gm [blk b 81 o4,blk c 78 o4]]:fT)
abbrev Nt a (b:Nat) (c:Int) (d:Nat) (e:Int) (f:Nat):=(gm [Vk.R a,gm [blk b 39 (Zq c),blk d 2 (Zd e),blk f 73 xJ]]:fT)
abbrev rL(a:Vk)(b:Int):=([a.iv,.int .i64 b,a.lv,a.rv,a.pv,a.hv,a.sv,.pointer (some ⟨a.cb,0,none⟩),.pointer (some ⟨a.mb,0,none⟩)]:List Value)
abbrev Nu a (b:Nat) (c:Int) (d:Nat) (e:Int) (f g:Nat) h:=(gm [Vk.R a,gm [blk b 39 (Zq c),blk d 39 (Zq e),blk f 2 Am,blk g 4 [.bool false],h]]:fT)
abbrev D7(a:Vk)(b:Int):=(.agg #[a.iv,.int .i64 b,a.lv,a.rv,a.pv,a.hv,a.sv,.pointer (some ⟨a.cb,0,none⟩),.pointer (some ⟨a.mb,0,none⟩)]:Value)
abbrev Hh(a b:Nat)(c:Int)(d:Vk)(e f:Int):=(blk a 108 [.pointer (some ⟨b,0,none⟩),.bool true,.int .u64 c,d.iv,.int .i64 e,d.lv,d.rv,d.pv,d.hv,d.sv,.pointer (some ⟨d.cb,0,none⟩),.pointer (some ⟨d.mb,0,none⟩),.int .i64 f]:fT)
abbrev Ny(a b:Nat)(c:Int)(d:Vk)(e:Int) f g:=(gm [blk a 108 [.pointer (some ⟨b,0,none⟩),.bool true,.int .u64 c,d.iv,.int .i64 e,d.lv,d.rv,d.pv,d.hv,d.sv,.pointer (some ⟨d.cb,0,none⟩),.pointer (some ⟨d.mb,0,none⟩),.int .i64 1],Vk.R d,WW.R f b g]:fT)
abbrev DU(a b:Nat)(c:Int)(d:Vk)(e f:Int) g h:=(gm [blk a 108 [.pointer (some ⟨b,0,none⟩),.bool true,.int .u64 c,d.iv,.int .i64 e,d.lv,d.rv,d.pv,d.hv,d.sv,.pointer (some ⟨d.cb,0,none⟩),.pointer (some ⟨d.mb,0,none⟩),.int .i64 f],Vk.R d,WW.R g b h]:fT)
abbrev uG(a b:Nat)(c:Int)(d:Vk)(e f:Int) g h i:=(gm [blk a 108 [.pointer (some ⟨b,0,none⟩),.bool true,.int .u64 c,d.iv,.int .i64 e,d.lv,d.rv,d.pv,d.hv,d.sv,.pointer (some ⟨d.cb,0,none⟩),.pointer (some ⟨d.mb,0,none⟩),.int .i64 f],Vk.R d,WW.R g b h,i]:fT)
theorem kN.EP{s:fU}{fO fN:Nat}{K:List Int}{L:List Lv}{es:List Ge}(j:s.ok fO fN)(g:s.kL L)(h:kN K L es L.length):mj K.length es:=fun e f=>by
 obtain⟨i,hi,e1⟩:=zP f
 have b:i<L.length:=by rw[<-h.len];exact hi
 have a:=h.fst i b
 have d:fJ es i=e:=iK (by rw[zm hi,e1])
 rw[d]at a
 refine⟨a.ul,a.vl,fun c=>(j.AL ((g.mem _).1 (zd (gy b)))).2 ?_⟩
 rw[<-a.u,<-a.v,c]
theorem agq(c:WC)(wb:Nat)(s:WW)(w:World)(hO:Own (WW.R c wb s) w)(am:c.fO<=12) :
 CR ya 110 (Zi wb) w (fun r w' => ∃ (k:Vk),r=k.v/\Vk.of s k/\fV (WW.R c wb s) w w' (gm [(WW.R c wb s),Vk.R k])):=by
 refine en Tryz.func110 Tryz.ntmps110 ?_
 have al:=yq hO
 have F:=rj hO
 have au:=F.1.en
 have ar:=F.1.w1
 refine fR al 2 ?_
 refine iE al (fun U K V W A=>?_)
 refine fK A 5 ?_
 refine cl EE (FA c wb s K (ye A 1 rfl) am) ?_
 rintro _ X ⟨d,B,Y,a,Z,g,rfl,b,T⟩
 have L:=yg [1,0] A
 have z:=yv (yj 0 L T)
 have F:=rj (ye z 0 rfl)
 have ak:=kN.EP F.2.1 b.2.1 b.2.2
 have ap:=b.1.len F.2.1 F.2.2
 have aq:=b.2.1.len F.2.1
 have ao:=b.2.2.len
 have an:=F.1.en
 refine fK z 12 ?_
 refine jc (pvs:=[(0,d)]) (v:=.agg #[d,Zc,Zg,Zg,Zg,Zg,Zg,Zt,Zt]) rfl rfl (jo [(0,[d])] C6 ac2 rfl ⟨rfl,(cells_one (yr z (i:=1) rfl)),trivial⟩ rfl) (iE z (fun aa ab ac ad D=>?_))
 refine jM 0 D (fun M h=>?_) (h1:=(gX (yr D (i:=2) rfl) (gX rfl (gX rfl (gX rfl (gX rfl (gX rfl (gX rfl (gX rfl (gX rfl j4))))))))))
 refine fK h 5 ?_
 refine iM (m:=a.length) 2 rfl rfl yz h rfl (fK h 1 ?_)
 refine cl IF (KG B a.length g M (y0 h 3 rfl).any ak o_ o_) ?_
 rintro _ ae ⟨E,j,l,n,aj,q,rfl,N,T⟩
 have f:=yv (jR h T)
 refine fK f 4 ?_
 refine jM 5 f (fun O t=>?_) (h1:=(gX rfl (gX (yr f (i:=0) rfl) (gX (yr f (i:=1) rfl) (gX (yr f (i:=2) rfl) (gX (yr f (i:=3) rfl) (gX (yr f (i:=4) rfl) j4)))))))
 refine fK t 5 ?_
 refine iM (m:=a.length) 7 rfl rfl yz t rfl (fK t 1 ?_)
 refine cl Xo (VV B a.length g O (y0 t 8 rfl).any ak o_ o_) ?_
 rintro _ af ⟨u,G,rfl,T⟩
 have H:=(jR t T)
 refine fK H 4 ?_
 refine jM 6 H (fun P x=>?_)
 refine fK x 5 ?_
 refine iM (m:=a.length) 8 rfl rfl yz x rfl (fK x 1 ?_)
 refine cl Xp (abJ B a.length g P (y0 x 9 rfl).any ak o_ o_) ?_
 rintro _ ag ⟨y,I,rfl,T⟩
 have J:=(jR x T)
 refine fK J 4 ?_
 refine jM 7 J (fun ah e=>?_)
 refine fK e 5 ?_
 refine jM 12 e (fun ai C=>?_) (h1:=(gX (yr e (i:=9) rfl) (gX rfl (gX (yr e (i:=2) rfl) (gX (yr e (i:=3) rfl) (gX (yr e (i:=4) rfl) (gX (yr e (i:=5) rfl) (gX (yr e (i:=6) rfl) (gX rfl (gX rfl j4))))))))))
 refine fP C 3 ?_
 refine SM (v:=(.agg #[d,(Za a.length),j,l,n,aj,q,(Zb u),(Zb y)])) Tryz.results110 (oc (cs:=(Ci d a.length j l n aj q u y)) rfl Gy rfl C6 rfl (me C (i:=12) (o:=0) (vs:=(Ci d a.length j l n aj q u y)) rfl rfl)) ?_
 have Q:=yg [8,9,2,3,4,5,6,1,0] C
 have S:=(yc [_,_,_,_,_,_,_,_] _ (Q.perm (qG (l₁:=[_]) (l₂:=[_,_,_,_,_,_,_,_])))).swap
 exact⟨(⟨d,a,g,E,j,l,n,aj,q,u,G,y,I⟩:Vk),rfl,⟨b.1,_,b.2.1,b.2.2⟩,ym (yc [_,_] [] (St.swap (yt (p:=Vk.ok (⟨d,a,g,E,j,l,n,aj,q,u,G,y,I⟩:Vk)) S.swap ⟨⟨ak,N⟩,b.1.lF,by show a.length<=12;omega⟩))) za⟩
theorem Dg(b e:Nat)(cs:List Value)(w:World)(f:Own (blk b 108 ((Zb e) :: cs)) w) :
 CR ya 36 (Zi b) w (fun r w' => r = .bool true/\fV (blk b 108 ((Zb e) :: cs)) w w' (blk b 108 ((Zb e) :: cs))):=by
 refine en Tryz.func36 Tryz.ntmps36 ?_
 have d:=yq f
 refine fR d 8 ?_
 refine l9 (a:=some ⟨b,0,none⟩) (c:=true) rfl rfl rfl Tryz.underlying24 rfl (fK d 5 ?_)
 refine l9 (a:=some ⟨e,0,none⟩) (c:=true) rfl rfl rfl By rfl (fP d 5 ?_)
 refine gq (v:=Zh) Tryz.results36 rfl ?_
 exact⟨rfl,yi d⟩
theorem Uf(c:WC)(j i:Nat)(s:WW)(cs:List Value)(w:World)(l:Own (rM j ((.pointer (some ⟨i,0,none⟩)) :: cs) c i s) w)(id:Int) :
 CR ya 57 (Z2 j id) w (fun r w' => ∃ B:Bool,r = .bool B/\(B=true↔s.u.t.cnt id=0)/\fV (rM j ((.pointer (some ⟨i,0,none⟩)) :: cs) c i s) w w' (rM j ((.pointer (some ⟨i,0,none⟩)) :: cs) c i s)):=by
 refine en Tryz.func57 Tryz.ntmps57 ?_
 have k:=(yq l).unpack
 refine fR k 12 ?_
 refine cl WR (ag2 c i s w (ye k 1 rfl) id) ?_
 rintro _ e ⟨f,d,rfl,b,m⟩
 have a:=yj 1 k m
 refine fK a 10 ?_
 by_cases g:(d:Int)=(0:Int)
 . refine fP a 5 ?_
   refine gq (v:=Zh) Tryz.results57 rfl ?_
   exact⟨true,rfl,⟨fun h=>(by first|exact b.1 o_|cases h),fun h=>(by first|rfl|(exact absurd (b.2 h) o_))⟩,yi (yc [_,_] _ a)⟩
 . refine fP a 5 ?_
   refine gq (v:=Zp) Tryz.results57 rfl ?_
   exact⟨false,rfl,⟨fun h=>(by first|exact b.1 o_|cases h),fun h=>(by first|rfl|(exact absurd (b.2 h) o_))⟩,yi (yc [_,_] _ a)⟩
theorem afg:ya.stoodInHeld 100=false:=by kernel_rfl
theorem Qk:ya.eqGuardType ya.depth 100=false:=by kernel_rfl
theorem PO(a b:Bool)(c d:Int)(w:World):(Op.equal 100 (.agg #[.bool a,.int .u64 c]) (.agg #[.bool b,.int .u64 d])).run ya w = .ok ((a==b)&&(c==d)) w :=
 aev Gx afg d_ d_ (S3 y9 _ 0 _ rfl) (S3 y9 _ 0 _ rfl) (wT yn _ 1 _ rfl) (wT yn _ 1 _ rfl) (KV 9998 y9 a b) (KW 9998 yn c d)
theorem YN(a:Bool)(c:Int)(w:World):(Op.equal 100 (.agg #[.bool a,.int .u64 c]) (.agg #[.bool a,.int .u64 c])).run ya w = .ok true w:=by
 rw[PO,beq_self_eq_true,beq_self_eq_true]
 rfl
theorem agJ(c:WC)(T F:Nat)(s:WW)(w:World){α:Type}(S:fT)(X : α->fT)(Φ : Vk->α->Prop)(W:Nat)(cap:List Value)(Z:gi ya W)(hq:∀ (k:Vk) (w1:World),Vk.of s k->Own (Ad k S) w1->CR ya W (k.v :: cap).toArray w1 (fun r w' => r = .tuple #[]/\∃ x,Φ k x/\fV (Ad k S) w1 w' (Ad k (X x))))(Y:Own (Nw T F c s S) w)(ab:c.fO<=12) :
 CR ya 58 (Hr T (.func (.func W) #[] cap.toArray)) w (fun r w' => ∃ (k:Vk) (x:α),r = .tuple #[]/\(Vk.of s k /\ Φ k x)/\fV (Nw T F c s S) w w' (gm [blk T 108 [(Zb F),Zh,(Zo (IntKind.u64.wrap (s.added+s.jU))),k.iv,(Za k.K.length),k.lv,k.rv,k.pv,k.hv,k.sv,(Zb k.cb),(Zb k.mb),qn],Vk.R k,(WW.R c F s),X x])):=by
 refine en Tryz.func58 Tryz.ntmps58 ?_
 have U:=(yq Y).unpack
 refine fR U 6 ?_
 refine cl Pb (UA c F s w (ye U 1 rfl)) ?_
 rintro _ H ⟨rfl,V⟩
 have n:=yj 1 U V
 refine jc (pvs:=[(0,Zh),(1,(Zo (IntKind.u64.wrap (s.added+s.jU))))]) (v:=.agg (BW (IntKind.u64.wrap (s.added+s.jU)))) rfl rfl (jo [(0,[Zh]),(1,(Zq (IntKind.u64.wrap (s.added+s.jU))))] C5 Sg rfl ⟨rfl,rfl,rfl,rfl,trivial⟩ rfl) (iE n (fun I J L M q=>?_))
 refine gI q 11 fun t f=>?_
 refine Rx (c:=false) (xs:=#[Zp,tH]) (ys:=(BW (IntKind.u64.wrap (s.added+s.jU)))) rfl rfl rfl Qk (fun w=>PO _ _ _ _ w) (fK f 10 ?_)
 refine cl WU (agq c F s t (ye f 2 rfl) ab) ?_
 rintro _ N ⟨b,rfl,h,V⟩
 have u:=yg [2,0,1,3] f
 have y:=yv (yj 0 u V)
 have j:=yg [1,0,2,3,4] y
 have aa:=sC j
 have a:=(ku j).unpack
 refine fK a 2 ?_
 refine jM 10 a (fun O d=>?_) (h1:=(gX (yr a (i:=0) rfl) (gX rfl (gX (yr a (i:=1) rfl) (gX (yr a (i:=2) rfl) (gX (yr a (i:=3) rfl) (gX (yr a (i:=4) rfl) (gX (yr a (i:=5) rfl) (gX rfl (gX rfl j4))))))))))
 refine fK d 5 ?_
 refine uU (cs:=[Zh,(Zo (IntKind.u64.wrap (s.added+s.jU)))]) rfl rfl Gx rfl C5 rfl (me d (i:=9) (o:=0) (vs:=[Zh,(Zo (IntKind.u64.wrap (s.added+s.jU)))]) rfl rfl) (fK d 2 ?_)
 refine jM 10 d (fun P e=>?_)
 refine fK e 6 ?_
 refine ld rfl rfl yf rfl (lT e 10 rfl rfl) (fK e 3 ?_)
 refine jM 10 e (fun z g=>?_)
 refine fK g 7 ?_
 refine uU (cs:=(rL b b.K.length)) rfl rfl Gy rfl C6 rfl (me g (i:=10) (o:=3) (vs:=(rL b b.K.length)) rfl rfl) ?_
 have A:=yt (p:=Vk.ok b) (yc [_,_,_,_,_,_,_,_] _ g) aa
 have B:=yg [0,4,1,2,3] A
 have l:=yc [_,_] _ B
 refine nV (fi:=[]) (ca:=cap) rfl rfl rfl Z (hq b z h (ye l 0 rfl)) ?_
 rintro _ Q ⟨rfl,C,D,E⟩
 have m:=(yk l E)
 refine fP m 1 ?_
 refine iS Tryz.results58 ?_
 have G:=yg [4,0,2,1] m
 exact⟨b,C,rfl,⟨h,D⟩,yi (yc [_,_,_,_] _ G)⟩
theorem Uo(c:WC)(A B:Nat)(s:WW)(w:World){α:Type}(z:fT)(E : α->fT)(Φ : Vk->α->Prop)(D:Nat)(cap:List Value)(G:gi ya D)(I:∀ (k:Vk) (w1:World),Vk.of s k->Own (Ad k z) w1->CR ya D (k.v :: cap).toArray w1 (fun r w' => r = .tuple #[]/\∃ x,Φ k x/\fV (Ad k z) w1 w' (Ad k (E x))))(k:Vk)(H:Vk.of s k)(b:Int)(F:Own (uG A B (IntKind.u64.wrap (s.added+s.jU)) k k.K.length b c s z) w) :
 CR ya 58 (Hr A (.func (.func D) #[] cap.toArray)) w (fun r w' => ∃ (x:α),r = .tuple #[] /\ Φ k x/\fV (uG A B (IntKind.u64.wrap (s.added+s.jU)) k k.K.length b c s z) w w' (uG A B (IntKind.u64.wrap (s.added+s.jU)) k k.K.length b c s (E x))):=by
 refine en Tryz.func58 Tryz.ntmps58 ?_
 have C:=(yq F).unpack
 refine fR C 6 ?_
 refine cl Pb (UA c B s w (ye C 2 rfl)) ?_
 rintro _ o ⟨rfl,J⟩
 have f:=yj 2 C J
 refine jc (pvs:=[(0,Zh),(1,(Zo (IntKind.u64.wrap (s.added+s.jU))))]) (v:=.agg (BW (IntKind.u64.wrap (s.added+s.jU)))) rfl rfl (jo [(0,[Zh]),(1,(Zq (IntKind.u64.wrap (s.added+s.jU))))] C5 Sg rfl ⟨rfl,rfl,rfl,rfl,trivial⟩ rfl) (iE f (fun p q t u g=>?_))
 refine gI g 11 fun h a=>?_
 refine Rx (c:=true) (xs:=(BW (IntKind.u64.wrap (s.added+s.jU)))) (ys:=(BW (IntKind.u64.wrap (s.added+s.jU)))) rfl rfl rfl Qk (fun w=>YN _ _ w) ?_
 have i:=yg [2,4,0,1,3] a
 have d:=yc [_,_] _ i
 refine fK a 11 ?_
 refine nV (fi:=[]) (ca:=cap) rfl rfl rfl G (I k h H (ye d 0 rfl)) ?_
 rintro _ y ⟨rfl,j,l,m⟩
 have e:=(yk d m)
 refine fP e 1 ?_
 refine iS Tryz.results58 ?_
 have n:=yg [3,0,4,1] e
 exact⟨j,rfl,l,yi (yc [_,_,_,_] _ n)⟩
end
section
open Go Go.Sx
abbrev Vk.top(k:Vk)(T:Int)(x:Nat):Nat:=jP (gf k.es k.K.length k.c.f).p (gf k.es k.K.length k.c.f).h T x
abbrev Vk.gQ(k:Vk)(T:Int)(x:Nat):Nat:=Go.Sx.gQ k.es k.K.length k.c.f (k.top T x)
abbrev Vk.ua(k:Vk)(T:Int)(x:Nat):Nat:=fJ (gf k.es k.K.length k.c.f).s (k.top T x)
theorem iU.JH{es:List Ge}{n:Nat}{f:List Nat}(h:iU es n f){y:Nat}(a:y<n+f.length):gQ es n f y<n:=by
 unfold gQ
 split
 . assumption
 . have:=h.st (i:=y-n) o_
   omega
theorem Vk.JH{k:Vk}(h:iU k.es k.K.length k.c.f){T:Int}{x:Nat}(i:x<k.K.length):k.gQ T x<k.K.length:=by
 obtain⟨a,b,d,e,g⟩:=nQ (es:=k.es) (n:=k.K.length) (f:=k.c.f)
 refine iU.JH h ?_
 have:=Oj (hs:=(gf k.es k.K.length k.c.f).h) (T:=T) (x:=x) (ps:=(gf k.es k.K.length k.c.f).p) o_ h.u9
 show jP _ _ _ _<_
 omega
theorem V9{t:TW}{id:Int}(h:t.cnt id=0):t.mem id:=by
 apply Classical.byContradiction
 intro a
 rw[TW.tK a]at h
 cases h
theorem Vk.of.mem{s:WW}{k:Vk}(h:Vk.of s k){u:Int}(a:s.u.t.cnt u=0):u∈k.K:=(h.ids.mem u).2 (V9 a)
theorem VU(N O P:Nat)(u T:Int)(k:Vk)(w:World)(X:Own (Nt k N u O T P) w)(Z:u∈k.K) :
 CR ya 59 #[(D7 k k.K.length),(Zb N),(Zb O),(Zb P)] w (fun r w' => r = .tuple #[]/\∃ x:Int×Nat,x=(fJ k.K (k.gQ T (gR k.K u)),k.ua T (gR k.K u))/\fV (Nt k N u O T P) w w' (gm [Vk.R k,(gm [blk N 39 (Zq u),blk O 2 (Zd T),blk P 73 (D5 x.1 x.2)])])):=by
 refine en Tryz.func59 Tryz.ntmps59 ?_
 have V:=Own.of X
 have S:=sC V
 have aa:=S.n
 have W:=(ku V).unpack
 have j:=yg [8,0,1,2,3,4,5,6,7] W
 have d:=yv j
 have Y:iU k.es k.K.length k.c.f:=(y8 W (i:=6) rfl)
 have U:=(yI S.lF Z).1
 have ab:=Vk.JH Y (T:=T) U
 refine fR d 2 ?_
 refine iC d (fun b C D E e=>?_)
 refine gD e 3 ?_
 refine rgs (Γ:=Nat) mixed [[],[0],[],[2],[],[2,3,4],[],[0,1,2,3,4,5,6],[0,1,2,3,4,5,6,7],[0,1,2,3,4,5,6,7,8],[0,1,2,3,4,5,6,7,8],[],[0,1,2,3,4,5,6,7,8,9,11],[0,1,2,3,4,5,6,7,8,9,10,11,12]] [11,12] d_ [fun _=>(.pointer (some ⟨b,7,none⟩)),fun _=>(Zb k.cb),fun _=>(Zb b),fun _=>k.iv,fun _=>(Zo u),fun _=>(Za (gR k.K u:Int)),fun _=>(Za T),fun _=>(Nb ((k.gQ T (gR k.K u):Nat):Int) ((k.ua T (gR k.K u):Nat):Int)),fun _=>(Nb ((k.gQ T (gR k.K u):Nat):Int) ((k.ua T (gR k.K u):Nat):Int)),fun _=>(Ca ((k.gQ T (gR k.K u):Nat):Int) ((k.ua T (gR k.K u):Nat):Int)),fun _=>Zc,fun a=>(Zb a),fun _=>undef,fun _=>Zc] [(fun a=>[blk b 106 (rL k k.K.length),blk N 39 (Zq u),blk O 2 (Zd T),blk P 73 xJ,fL gO k.iv 39 1 k.K,fL fW k.lv 3 1 ((Zl k).l),fL fW k.rv 3 1 ((Zl k).r),fL fW k.pv 3 1 ((Zl k).p),fL fW k.hv 2 1 ((Zl k).h),fL fS k.sv 3 1 ((Zl k).s),(sM k k.K.length),(qt k k.K.length)],fun _ _=>True),(fun a=>[blk a 138 vJ,blk b 106 (rL k k.K.length),blk N 39 (Zq u),blk O 2 (Zd T),blk P 73 xJ,fL gO k.iv 39 1 k.K,fL fW k.lv 3 1 ((Zl k).l),fL fW k.rv 3 1 ((Zl k).r),fL fW k.pv 3 1 ((Zl k).p),fL fW k.hv 2 1 ((Zl k).h),fL fS k.sv 3 1 ((Zl k).s),(sM k k.K.length),(qt k k.K.length)],fun _ _=>True),(fun a=>[blk a 138 (Zn ((k.gQ T (gR k.K u):Nat):Int) ((k.ua T (gR k.K u):Nat):Int)),blk b 106 (rL k k.K.length),blk N 39 (Zq u),blk O 2 (Zd T),blk P 73 xJ,fL gO k.iv 39 1 k.K,fL fW k.lv 3 1 ((Zl k).l),fL fW k.rv 3 1 ((Zl k).r),fL fW k.pv 3 1 ((Zl k).p),fL fW k.hv 2 1 ((Zl k).h),fL fS k.sv 3 1 ((Zl k).s),(sM k k.K.length),(qt k k.K.length)],fun _ _=>True)] 0 _ rfl e (fun _ _=>trivial) ?_ (fun a=>rfl) rfl ?_
 . skip
   refine' Fy 5 ?_
   refine Km rfl rfl rfl rfl rfl (fun a M F Q=>qc rfl rfl (sP rfl AF) (CR.mono (Bd k.iv k.K u M (Sl.any (y0 F 4 rfl)) S.lF o_) fun _ _ h=>⟨h.1,⟨F.grow h.2,trivial⟩⟩)) (fun a M F Q=>qc rfl rfl (sP rfl AF) (CR.mono (Bd k.iv k.K u M (Sl.any (y0 F 5 rfl)) S.lF o_) fun _ _ h=>⟨h.1,⟨F.grow h.2,trivial⟩⟩)) ?_
   refine' Fy 1 ?_
   refine Km rfl rfl rfl rfl rfl (fun a M F Q=>qc rfl rfl (sP rfl PE) (CR.mono (Ov k.cb k.K.length k.es k.c M (tA.of (ye F 10 rfl)) o_ (gR k.K u) U T) fun _ _ h=>⟨h.1,⟨F.grow h.2,trivial⟩⟩)) (fun a M F Q=>qc rfl rfl (sP rfl PE) (CR.mono (Ov k.cb k.K.length k.es k.c M (tA.of (ye F 11 rfl)) o_ (gR k.K u) U T) fun _ _ h=>⟨h.1,⟨F.grow h.2,trivial⟩⟩)) ?_
   refine' Fy 3 ?_
   refine Kl rfl rfl rfl rfl (fun a M F Q=>Fe (cs:=vJ) rfl C7 rfl F (fun m _ h=>⟨m,⟨h,trivial⟩,rfl,lu rfl sT⟩)) (Kl rfl rfl rfl rfl (fun a M F Q=>JT 0 rfl rfl rfl rfl C7 rfl rfl F rfl rfl rfl rfl (fun _ h=>⟨a,⟨h,trivial⟩,rfl,mq.refl _ _ _⟩)) ?_)
   refine' Fy 1 ?_
   exact RI
 rintro a G g -
 refine Kv tt none g 1 ?_
 refine kC mixed [([0,1,2,3,4,5,6,7,8],[1,3,5,7]),([9,10],[7])] [11,12] g (fun H o=>jA ?_)
 refine jV o 10 fun I q=>?_
 refine kn (jA ?_)
 refine jV q 3 fun J t=>?_
 refine kn (kF ?_)
 refine jV t 3 fun L v=>?_
 refine iS Tryz.results59 ?_
 have y:=yg [2,3,4,0,1,5,6,7,8,9,10,11,12] v
 have z:=yc [_,_,_] _ y
 have A:=yg [3,4,5,6,7,8,9,10,0,1,2] z
 have B:=yt (p:=Vk.ok k) (yc [_,_,_,_,_,_,_,_] _ A) S
 exact⟨rfl,(fJ k.K (k.gQ T (gR k.K u)),k.ua T (gR k.K u)),rfl,yi (yc [_,_] _ B)⟩
theorem L4(c:WC)(b a:Nat)(s:WW)(cs:List Value)(w:World)(g:Own (rM b ((.pointer (some ⟨a,0,none⟩)) :: cs) c a s) w)(id:Int)(h:s.u.t.cnt id=0):CR ya 57 (Z2 b id) w (fun r w' => r = .bool true/\fV (rM b ((.pointer (some ⟨a,0,none⟩)) :: cs) c a s) w w' (rM b ((.pointer (some ⟨a,0,none⟩)) :: cs) c a s)) :=
 CR.mono (Uf c b a s cs w g id) fun r w' ⟨B,d,e,f⟩=>⟨by rw[d,e.2 h],f⟩
theorem agv(c:WC)(b a:Nat)(s:WW)(cs:List Value)(w:World)(g:Own (rM b ((.pointer (some ⟨a,0,none⟩)) :: cs) c a s) w)(id:Int)(i:s.u.t.cnt id≠0):CR ya 57 (Z2 b id) w (fun r w' => r = .bool false/\fV (rM b ((.pointer (some ⟨a,0,none⟩)) :: cs) c a s) w w' (rM b ((.pointer (some ⟨a,0,none⟩)) :: cs) c a s)) :=
 CR.mono (Uf c b a s cs w g id) fun r w' ⟨B,d,e,f⟩=>⟨by rw[d,Bool.eq_false_iff.2 (fun h=>i (e.1 h))],f⟩
theorem agt(c:WC)(F wb:Nat)(s:WW)(w:World)(hO:Own (qu F wb c s) w)(ag:c.fO<=12)(u T:Int)(hu:s.u.t.cnt u=0) :
 CR ya 25 #[(Zb F),(Zo u),(Za T)] w (fun r w' => ∃ (k:Vk) (x:Int×Nat),r = .tuple #[.agg #[.int .u64 x.1,.int .i64 (x.2:Int)],.int .i64 0]/\(Vk.of s k/\x=(fJ k.K (k.gQ T (gR k.K u)),k.ua T (gR k.K u)))/\fV (qu F wb c s) w w' (Ny F wb (IntKind.u64.wrap (s.added+s.jU)) k k.K.length c s)):=by
 refine en Tryz.func25 Tryz.ntmps25 ?_
 have ae:=(yq hO).unpack
 refine fR ae 2 ?_
 refine iC ae (fun b P Q R q=>?_)
 refine iC q (fun d S U V y=>?_)
 refine iE y (fun W z X Y f=>?_)
 refine fK f 7 ?_
 refine cl uL (Dg F wb _ z (ye f 3 rfl)) ?_
 rintro _ A ⟨rfl,ht⟩
 have h:=yj 3 f ht
 have B:=yg [3,4,0,1,2] h
 have j:=yc [_,_] _ B
 refine fK h 11 ?_
 refine cl EF (L4 c F wb s _ A (ye j 0 rfl) u hu) ?_
 rintro _ Z ⟨rfl,C⟩
 have l:=(yk j C)
 refine fK l 8 ?_
 refine iE l (fun e D aa ab m=>?_)
 refine fK m 5 ?_
 refine mO (vf:=[]) (vc:=(Ab b d e)) rfl rfl rfl ?_
 have E:=yg [5,4,0,1,2,3] m
 have G:=yc [_,_,_] _ E
 have H:=yg [1,2,0,3] G
 have n:=yc [_,_,_] _ H
 refine cl IT (agJ c F wb s D (gm [blk b 39 (Zq u),blk d 2 (Zd T),blk e 73 xJ]) (fun x:Int×Nat=>gm [blk b 39 (Zq u),blk d 2 (Zd T),blk e 73 (D5 x.1 x.2)]) (fun k x=>x=(fJ k.K (k.gQ T (gR k.K u)),k.ua T (gR k.K u))) 59 (Ab b d e) Yo (fun k w1 af hO=>VU b d e u T k w1 hO (af.mem hu)) (ye n 0 rfl) ag) ?_
 rintro _ ac ⟨I,a,rfl,J,L⟩
 have M:=(yk n L)
 have N:=yg [3,0,1,2,4] M
 have p:=yv N
 refine fK p 5 ?_
 refine jM 6 p (fun ad g=>?_)
 refine fP g 4 ?_
 refine oO (v:=(.agg #[(Zo a.1),(Za a.2)])) (v' := Zc) Tryz.results25 (oc (cs:=(D5 a.1 a.2)) rfl Gp rfl Gc rfl (me g (i:=6) (o:=0) (vs:=(D5 a.1 a.2)) rfl rfl)) (pH rfl) ?_
 have O:=yg [3,4,5] g
 exact⟨I,a,rfl,J,yi (yc [_,_,_] _ O)⟩
theorem ags(c:WC)(I F:Nat)(s:WW)(cs:List Value)(w:World)(K:Own (rM I ((.pointer (some ⟨F,0,none⟩)) :: cs) c F s) w)(u T:Int)(M:s.u.t.cnt u≠0) :
 CR ya 25 #[(Zb I),(Zo u),(Za T)] w (fun r w' => r = .tuple #[.agg Ho,.int .i64 13]/\fV (rM I ((.pointer (some ⟨F,0,none⟩)) :: cs) c F s) w w' (rM I ((.pointer (some ⟨F,0,none⟩)) :: cs) c F s)):=by
 refine en Tryz.func25 Tryz.ntmps25 ?_
 have J:=(yq K).unpack
 refine fR J 2 ?_
 refine iC J (fun n p q x g=>?_)
 refine iC g (fun y z A B h=>?_)
 refine iE h (fun C j D E a=>?_)
 refine fK a 7 ?_
 refine cl uL (Dg I F _ j (ye a 3 rfl)) ?_
 rintro _ k ⟨rfl,L⟩
 have b:=yj 3 a L
 have l:=yg [3,4,0,1,2] b
 have d:=yc [_,_] _ l
 refine fK b 11 ?_
 refine cl EF (agv c I F s _ k (ye d 0 rfl) u M) ?_
 rintro _ G ⟨rfl,m⟩
 have e:=(yk d m)
 refine fK e 6 ?_
 refine jc (pvs:=[]) (v:=.agg Ho) rfl rfl (jo [] Gc ads rfl trivial rfl) (jV e 6 fun H f=>?_)
 refine oO (v:=(.agg Ho)) (v' := (.int .i64 13)) Tryz.results25 (oc (cs:=xJ) rfl Gp rfl Gc rfl (me f (i:=2) (o:=0) (vs:=xJ) rfl rfl)) (pH rfl) ?_
 exact⟨rfl,yi (yc [_,_] _ f)⟩
end
section
open Go Go.Sx
theorem Own.still{R:fT}{w w' : World}(h:Own R w)(a:gw [] w w'):fV R w w' R:=ym (yp (yq h) a) za
def Vk.mm(k:Vk)(u v:Nat)(x:Int×Bool):Prop:=(u=v->x.1 = -9223372036854775808/\x.2=true) /\
 (u≠v->∃ z,sG (gf k.es k.K.length k.q.f).p u v z x.2/\(x.2=true->x.1=fJ (gf k.es k.K.length k.q.f).h z)/\(x.2=false->x.1=0))
theorem abL(k:Vk)(w:World)(a:Own (qt k k.K.length) w)(f:k.K.length<=4096){o:Obj}(e:(jW o).holds w)(u v:Nat)(g:u<k.K.length)(hv:v<k.K.length) :
 CR ya 63 (Zu k.mb u v) w (fun r w' => ∃ (z:Int) (y:Bool),r = .tuple (qo z y)/\k.mm u v (z,y)/\fV (qt k k.K.length) w w' (qt k k.K.length)) :=
 CR.mono (abM k.mb k.K.length k.es k.q w (uD.of a) f e u v g hv) fun r w' ⟨z,y,b,c,d⟩=>⟨z,y,b,c,Own.still a d⟩
theorem abV(M N O L:Nat){o:Obj}(a a2:Int)(k:Vk)(w:World)(Q:Own (Nu k M a N a2 O L (jW o)) w)(S:a∈k.K)(T:a2∈k.K) :
 CR ya 62 #[(D7 k k.K.length),(Zb M),(Zb N),(Zb O),(Zb L)] w (fun r w' => r = .tuple #[]/\∃ x:Int×Bool,k.mm (gR k.K a) (gR k.K a2) x/\fV (Nu k M a N a2 O L (jW o)) w w' (gm [Vk.R k,(gm [blk M 39 (Zq a),blk N 39 (Zq a2),blk O 2 (Zd x.1),blk L 4 [(.bool x.2)],(jW o)])])):=by
 refine en Tryz.func62 Tryz.ntmps62 ?_
 have P:=Own.of Q
 have F:=sC P
 have Y:=F.n
 have W:=(ku P).unpack
 have g:=yg [8,0,1,2,3,4,5,6,7] W
 have e:=yv g
 have U:=(yI F.lF S).1
 have V:=(yI F.lF T).1
 refine fR e 2 ?_
 refine iC e (fun D E G H f=>?_)
 refine gD f 2 ?_
 refine kC mixed [([0,1,2,3,4,6,7,8,5],[1,7,8]),([9],[1])] [10,11,12,13,14,15] f (fun h c=>jA ?_)
 refine fK c 8 ?_
 refine cl AF (Bd k.iv k.K a h (Sl.any (y0 c 6 rfl)) F.lF o_) ?_
 rintro _ j ⟨rfl,l⟩
 have d:=yp c l
 refine fP d 1 ?_
 refine kn (jA ?_)
 refine cl AF (Bd k.iv k.K a2 j (Sl.any (y0 d 6 rfl)) F.lF o_) ?_
 rintro _ m ⟨rfl,q⟩
 have b:=yp d q
 refine fP b 1 ?_
 refine kn (kF ?_)
 refine cl Yr (abL k m (ye b 13 rfl) o_ (St.at b (i:=5) rfl) (gR k.K a) (gR k.K a2) U V) ?_
 rintro _ I ⟨s,t,rfl,u,X⟩
 have v:=yj 13 b X
 refine jV v 6 fun J y=>?_
 refine iS Tryz.results62 ?_
 have z:=yg [1,2,3,4,5,0,6,7,8,9,10,11,12,13] y
 have A:=yc [_,_,_,_,_] _ z
 have B:=yg [2,3,4,5,6,7,8,9,0,1] A
 have C:=yt (p:=Vk.ok k) (yc [_,_,_,_,_,_,_,_] _ B) F
 exact⟨rfl,(s,t),u,yi (yc [_,_] _ C)⟩
theorem agx{o:Obj}(c:WC)(F T:Nat)(s:WW)(k:Vk)(ai:Vk.of s k)(b:Int)(w:World)(hO:Own (uG F T (IntKind.u64.wrap (s.added+s.jU)) k k.K.length b c s (jW o)) w)(a a2:Int)(hu:s.u.t.cnt a=0)(ak:s.u.t.cnt a2=0) :
 CR ya 26 #[(Zb F),(Zo a),(Zo a2)] w (fun r w' => ∃ (x:Int×Bool),r = .tuple #[.int .i64 x.1,.bool x.2,.int .i64 0]/\k.mm (gR k.K a) (gR k.K a2) x/\fV (uG F T (IntKind.u64.wrap (s.added+s.jU)) k k.K.length b c s (jW o)) w w' (uG F T (IntKind.u64.wrap (s.added+s.jU)) k k.K.length b c s (jW o))):=by
 refine en Tryz.func26 Tryz.ntmps26 ?_
 have aj:=(yq hO).unpack
 refine fR aj 2 ?_
 refine iC aj (fun d V W X A=>?_)
 refine iC A (fun e B Y Z h=>?_)
 refine fK h 9 ?_
 refine cl uL (Dg F T _ B (ye h 2 rfl)) ?_
 rintro _ C ⟨rfl,ht⟩
 have j:=yj 2 h ht
 have D:=yg [2,4,0,1,3,5] j
 have l:=yc [_,_] _ D
 refine fK j 11 ?_
 refine cl EF (L4 c F T s _ C (ye l 0 rfl) a hu) ?_
 rintro _ E ⟨rfl,G⟩
 have m:=(yk l G)
 have n:=yc [_,_] _ m
 refine fK m 4 ?_
 refine cl EF (L4 c F T s _ E (ye n 0 rfl) a2 ak) ?_
 rintro _ aa ⟨rfl,H⟩
 have p:=(yk n H)
 refine fK p 9 ?_
 refine iE p (fun f ab ac ad q=>?_)
 refine fK q 4 ?_
 refine iE q (fun g I ae af y=>?_)
 refine fK y 5 ?_
 refine mO (vf:=[]) (vc:=(B5 d e f g)) rfl rfl rfl ?_
 have J:=yg [5,4,1,0,7,2,3,6] y
 have L:=yc [_,_,_,_,_] _ J
 have M:=yg [1,3,2,0] L
 have z:=yc [_,_,_,_] _ M
 refine cl IT (Uo c F T s I (gm [blk d 39 (Zq a),blk e 39 (Zq a2),blk f 2 Am,blk g 4 [Zp],(jW o)]) (fun x:Int×Bool=>gm [blk d 39 (Zq a),blk e 39 (Zq a2),blk f 2 (Zd x.1),blk g 4 [(.bool x.2)],(jW o)]) (fun k x=>k.mm (gR k.K a) (gR k.K a2) x) 62 (B5 d e f g) Yq (fun k w1 ai hO=>abV d e f g a a2 k w1 hO (ai.mem hu) (ai.mem ak)) k ai b (ye z 0 rfl)) ?_
 rintro _ ag ⟨i,rfl,N,O⟩
 have P:=(yk z O)
 have Q:=yg [3,0,1,2] P
 have R:=yv Q
 refine jV R 12 fun ah S=>?_
 refine tZ (v:=(Za i.1)) (v' := (.bool i.2)) (v'' := Zc) Tryz.results26 rfl rfl rfl ?_
 have U:=yg [5,6,7,4] S
 exact⟨i,rfl,N,yi (yc [_,_,_,_] _ U)⟩
end
section
open Go Go.Sx
structure kH where
 a:Int
 b:Int
instance:Inhabited kH:=⟨⟨0,0⟩⟩
def kH.cells(x:kH):List Value:=[.int .u64 x.a,.int .u64 x.b]
abbrev Vk.mg(k:Vk):List Mg:=nX k.es k.K.length k.f k.f.length
def Vk.mI(k:Vk)(j:Nat):List kH:=(k.mg.take j).map fun m=>⟨fJ k.K m.a,fJ k.K m.b⟩
def Vk.mH(k:Vk)(j:Nat):List Int:=(k.mg.take j).map Mg.h
abbrev Nv a (b:Nat) c (d:Nat) e f g:=(gm [Vk.R a,gm [blk b 81 [c],blk d 78 [e],fL kH.cells c 128 2 f,fL fW e 2 1 g]]:fT)
abbrev Nz(a b:Nat)(c:Int)(d:Vk)(e f:Int) g h i j k l:=(gm [blk a 108 [.pointer (some ⟨b,0,none⟩),.bool true,.int .u64 c,d.iv,.int .i64 e,d.lv,d.rv,d.pv,d.hv,d.sv,.pointer (some ⟨d.cb,0,none⟩),.pointer (some ⟨d.mb,0,none⟩),.int .i64 f],Vk.R d,WW.R g b h,fL kH.cells i 128 2 j,fL fW k 2 1 l]:fT)
abbrev B1(a:Nat) b (c:Nat) d e f g h (i:Nat) j (k:Nat) l m n o p (q r:Nat) s (t:nC) u v x:=([blk a 81 [b],blk c 78 [d],fL kH.cells b 128 2 e,fL fW d 2 1 f,fL Mg.cells g 158 5 h,blk i 106 (Ci j k l m n o p q r),fL gO j 39 1 s,fL fW l 3 1 t.l,fL fW m 3 1 t.r,fL fW n 3 1 t.p,fL fW o 2 1 t.h,fL fS p 3 1 t.s,Cv.R q k u v,Mf.R r k u x]:List fT)
abbrev MU a (b:Nat) (c d e f:Int) (g:Nat) h (i:Nat) j k l m n o (p:Nat) q (r:Nat) s t u v x (y z:Nat) aa (ab:nC) ac ad ae:=([a,blk b 158 (Cg c d e f),blk g 81 [h],blk i 78 [j],fL kH.cells k 128 2 l,fL fW j 2 1 m,fL Mg.cells n 158 5 o,blk p 106 (Ci q r s t u v x y z),fL gO q 39 1 aa,fL fW s 3 1 ab.l,fL fW t 3 1 ab.r,fL fW u 3 1 ab.p,fL fW v 2 1 ab.h,fL fS x 3 1 ab.s,Cv.R y r ac ad,Mf.R z r ac ae]:List fT)
abbrev Nh(a:Nat) b (c:Nat) (d e f g:Int) (h:Nat) i (j:Nat) k l m n o p (q:Nat) r (s:Nat) t u v x y (z A:Nat) ab (w:nC) ad ae af:=([ig .i64 (Zy a) 2 b,blk c 158 (Cg d e f g),blk h 81 [i],blk j 78 [k],fL kH.cells i 128 2 l,fL fW m 2 1 n,fL Mg.cells o 158 5 p,blk q 106 (Ci r s t u v x y z A),fL gO r 39 1 ab,fL fW t 3 1 w.l,fL fW u 3 1 w.r,fL fW v 3 1 w.p,fL fW x 2 1 w.h,fL fS y 3 1 w.s,Cv.R z s ad ae,Mf.R A s ad af]:List fT)
theorem Vk.abO{k:Vk}(h:iU k.es k.K.length k.f){i:Nat}(hi:i<k.f.length):(fJ k.mg i).a<k.K.length/\(fJ k.mg i).b<k.K.length:=by
 rw[iK (show k.mg[i]? = some (J1 k.es k.K.length k.f i) by show ((List.range k.f.length).map _)[i]? = _;simp[hi])]
 have:=h.st hi
 show nA _ _ _ _<_/\nB _ _ _ _<_
 omega
theorem Vk.aby{k:Vk}{j:Nat}(h:j<k.mg.length):k.mI (j+1)=k.mI j++[⟨fJ k.K (fJ k.mg j).a,fJ k.K (fJ k.mg j).b⟩]:=FZ _ h
theorem Vk.abw{k:Vk}{j:Nat}(h:j<k.mg.length):k.mH (j+1)=k.mH j++[(fJ k.mg j).h]:=FZ _ h
theorem Vk.abx{k:Vk}{j:Nat}:(k.mI j).length<=j:=by simp[Vk.mI];omega
theorem Vk.abv{k:Vk}{j:Nat}:(k.mH j).length<=j:=by simp[Vk.mH];omega
theorem abH(b2 b3:Nat)(k:Vk)(w:World)(hO:Own (G8 k b2 b3) w) :
 CR ya 69 #[(D7 k k.K.length),(Zb b2),(Zb b3)] w (fun r w' => r = .tuple #[]/\∃ x:Value×Value×List kH×List Int,(x.2.2.1=k.mI k.mg.length/\x.2.2.2=k.mH k.mg.length)/\fV (G8 k b2 b3) w w' (Nv k b2 x.1 b3 x.2.1 x.2.2.1 x.2.2.2)):=by
 refine enter (vs:=[(D7 k k.K.length),(Zb b2),(Zb b3)]) Tryz.func69 rfl Tryz.ntmps69 rfl ?_
 have aI:St _ [Vk.R k,(Hg b2 b3)] w:=Own.of hO
 have T:=sC aI
 have aR:=T.n
 have aL:St _ [fL gO k.iv 39 1 k.K,fL fW k.lv 3 1 ((gf k.es k.K.length k.f).l),fL fW k.rv 3 1 ((gf k.es k.K.length k.f).r),fL fW k.pv 3 1 ((gf k.es k.K.length k.f).p),fL fW k.hv 2 1 ((gf k.es k.K.length k.f).h),fL fS k.sv 3 1 ((gf k.es k.K.length k.f).s),(sM k k.K.length),(qt k k.K.length),(Hg b2 b3)] w:=(ku aI).unpack
 have S:=yg [8,0,1,2,3,4,5,6,7] aL
 have M:St _ [blk b2 81 o4,blk b3 78 o4,fL gO k.iv 39 1 k.K,fL fW k.lv 3 1 ((gf k.es k.K.length k.f).l),fL fW k.rv 3 1 ((gf k.es k.K.length k.f).r),fL fW k.pv 3 1 ((gf k.es k.K.length k.f).p),fL fW k.hv 2 1 ((gf k.es k.K.length k.f).h),fL fS k.sv 3 1 ((gf k.es k.K.length k.f).s),(sM k k.K.length),(qt k k.K.length)] w:=yv S
 have aK:k.mg.length=k.f.length:=Ri
 have aO:=T.fg.f.room T.fg.g
 refine fR M 2 ?_
 refine iC M (fun e U am an t=>?_)
 refine fK t 6 ?_
 refine jO (vl:=(D4 k.K.length k.lv k.rv k.pv k.hv k.sv)) rfl rfl Yu (Wz k.es k.K.length k.f T.fg o_ k.lv k.rv k.pv k.hv k.sv U ⟨(uk t (i:=4) rfl f_).any,(uk t (i:=5) rfl f_).any,(uk t (i:=6) rfl f_).any,(uk t (i:=7) rfl f_).any,(uk t (i:=8) rfl f_).any⟩) ?_
 rintro _ D ⟨d,rfl,ht⟩
 have A:St _ [fL Mg.cells d 158 5 k.mg,blk e 106 (rL k k.K.length),blk b2 81 o4,blk b3 78 o4,fL gO k.iv 39 1 k.K,fL fW k.lv 3 1 ((gf k.es k.K.length k.f).l),fL fW k.rv 3 1 ((gf k.es k.K.length k.f).r),fL fW k.pv 3 1 ((gf k.es k.K.length k.f).p),fL fW k.hv 2 1 ((gf k.es k.K.length k.f).h),fL fS k.sv 3 1 ((gf k.es k.K.length k.f).s),(sM k k.K.length),(qt k k.K.length)] D:=(jR (R:=fL Mg.cells d 158 5 k.mg) t ht)
 refine fK A 10 ?_
 refine iM (m:=k.mg.length) 0 rfl rfl GB A rfl ?_
 have V:St _ [fL kH.cells Zg 128 2 (k.mI 0),fL Mg.cells d 158 5 k.mg,blk e 106 (rL k k.K.length),blk b2 81 o4,blk b3 78 o4,fL gO k.iv 39 1 k.K,fL fW k.lv 3 1 ((gf k.es k.K.length k.f).l),fL fW k.rv 3 1 ((gf k.es k.K.length k.f).r),fL fW k.pv 3 1 ((gf k.es k.K.length k.f).p),fL fW k.hv 2 1 ((gf k.es k.K.length k.f).h),fL fS k.sv 3 1 ((gf k.es k.K.length k.f).s),(sM k k.K.length),(qt k k.K.length)] D:=oQ A 128 2
 have W:St _ [fL fW Zg 2 1 (k.mH 0),fL kH.cells Zg 128 2 (k.mI 0),fL Mg.cells d 158 5 k.mg,blk e 106 (rL k k.K.length),blk b2 81 o4,blk b3 78 o4,fL gO k.iv 39 1 k.K,fL fW k.lv 3 1 ((gf k.es k.K.length k.f).l),fL fW k.rv 3 1 ((gf k.es k.K.length k.f).r),fL fW k.pv 3 1 ((gf k.es k.K.length k.f).p),fL fW k.hv 2 1 ((gf k.es k.K.length k.f).h),fL fS k.sv 3 1 ((gf k.es k.K.length k.f).s),(sM k k.K.length),(qt k k.K.length)] D:=oQ V 2 1
 have X:=yg [4,5,1,0,2,3,6,7,8,9,10,11,12,13] W
 refine gD A 4 ?_
 refine lp (α:=Nat×Value×Value) (fun(i,F,hv)=>[(1,(Zb b2)),(2,(Zb b3)),(3,(Zb e)),(14,d),(15,(Za k.mg.length)),(16,(Za i))]) (fun(i,F,hv) w1=>St [(w,(G8 k b2 b3).gH)] (B1 b2 F b3 hv (k.mI i) (k.mH i) d k.mg e k.iv k.K.length k.lv k.rv k.pv k.hv k.sv k.cb k.mb k.K (gf k.es k.K.length k.f) k.es k.c k.q) w1/\i<=k.mg.length) (fun(i,F,hv)=>k.mg.length-i) (0,Zg,Zg) ⟨rfl,rfl,rfl,rfl,rfl,gj (by first|rfl|omega),trivial⟩ (⟨X,o_⟩) ?_
 rintro⟨i,F,hv⟩ ao B ⟨aF,hi⟩
 have aQ:=Vk.abx (k:=k) (j:=i)
 have aP:=Vk.abv (k:=k) (j:=i)
 refine fR aF 2 ?_
 by_cases ap:((i:Int):Int)<((k.mg.length:Int):Int)
 . have aJ:i<k.f.length:=by have h7:=aK;omega
   have aG:=Vk.abO T.fg aJ
   have aM:=aG.1
   have aN:=aG.2
   refine fK aF 13 ?_
   refine iE aF (fun y aq ar au Y=>?_)
   refine vh Y 4 fun aw Z=>?_
   refine kC mixed [([0,1,2,3,4,5,6,7,8,9,10,11,12,13,14],[0])] [15,16] Z (fun ax N=>jA ?_)
   refine fK N 13 ?_
   refine jc (pvs:=[(0,(Zo (fJ k.K ((fJ k.mg i).a)))),(1,(Zo (fJ k.K ((fJ k.mg i).b))))]) (v:=.agg (vI (fJ k.K ((fJ k.mg i).a)) (fJ k.K ((fJ k.mg i).b)))) rfl rfl (uJ [(0,(Zq (fJ k.K ((fJ k.mg i).a)))),(1,(Zq (fJ k.K ((fJ k.mg i).b))))] uc oq jt rfl ⟨rfl,rfl,rfl,rfl,trivial⟩ rfl s_) (jJ (vs:=[(HJ (fJ k.K ((fJ k.mg i).a)) (fJ k.K ((fJ k.mg i).b)))]) (cs:=[(Zo (fJ k.K ((fJ k.mg i).a))),(Zo (fJ k.K ((fJ k.mg i).b)))]) rfl rfl Bz uc rfl (by simp[Value.cells]) rfl rfl rfl N ?_)
   intro E aa ay az z
   have z:St _ [row (Zy E) 128 2 1 ([(Zo (fJ k.K ((fJ k.mg i).a))),(Zo (fJ k.K ((fJ k.mg i).b)))]),blk y 158 (Cg ((fJ k.mg i).a:Int) ((fJ k.mg i).b:Int) ((fJ k.mg i).h) ((fJ k.mg i).s:Int)),blk b2 81 [F],blk b3 78 [hv],fL kH.cells F 128 2 (k.mI i),fL fW hv 2 1 (k.mH i),fL Mg.cells d 158 5 k.mg,blk e 106 (rL k k.K.length),fL gO k.iv 39 1 k.K,fL fW k.lv 3 1 ((gf k.es k.K.length k.f).l),fL fW k.rv 3 1 ((gf k.es k.K.length k.f).r),fL fW k.pv 3 1 ((gf k.es k.K.length k.f).p),fL fW k.hv 2 1 ((gf k.es k.K.length k.f).h),fL fS k.sv 3 1 ((gf k.es k.K.length k.f).s),(sM k k.K.length),(qt k k.K.length)] aa:=z
   refine fP z 1 ?_
   refine kn (kF ?_)
   refine k8 (cf:=kH.cells) (ys:=(k.mI i)) (zs:=[(⟨(fJ k.K ((fJ k.mg i).a)),(fJ k.K ((fJ k.mg i).b))⟩:kH)]) (LL:=fun o=>(MU (row (.slice (some ⟨E,0,none⟩) 1 1) 128 2 1 ([(.int .u64 (fJ k.K ((fJ k.mg i).a))),(.int .u64 (fJ k.K ((fJ k.mg i).b)))])) y ((fJ k.mg i).a:Int) ((fJ k.mg i).b:Int) ((fJ k.mg i).h) ((fJ k.mg i).s:Int) b2 F b3 hv o ((k.mI i)++[(⟨(fJ k.K ((fJ k.mg i).a)),(fJ k.K ((fJ k.mg i).b))⟩:kH)]) (k.mH i) d k.mg e k.iv k.K.length k.lv k.rv k.pv k.hv k.sv k.cb k.mb k.K (gf k.es k.K.length k.f) k.es k.c k.q)) 4 rfl rfl rfl Bz uc rfl d_ z rfl (kG z (i:=0) rfl) (fun x hx=>zk.1 (show List.all _ _=true from rfl) x hx) (by simp only[zb,zg,maxLen];omega) (by simp only[zb,zg,maxLen];omega) f_ ?_
   intro o ab G aA
   have G:St _ (MU (row (.slice (some ⟨E,0,none⟩) 1 1) 128 2 1 ([(.int .u64 (fJ k.K ((fJ k.mg i).a))),(.int .u64 (fJ k.K ((fJ k.mg i).b)))])) y ((fJ k.mg i).a:Int) ((fJ k.mg i).b:Int) ((fJ k.mg i).h) ((fJ k.mg i).s:Int) b2 F b3 hv o ((k.mI i)++[(⟨(fJ k.K ((fJ k.mg i).a)),(fJ k.K ((fJ k.mg i).b))⟩:kH)]) (k.mH i) d k.mg e k.iv k.K.length k.lv k.rv k.pv k.hv k.sv k.cb k.mb k.K (gf k.es k.K.length k.f) k.es k.c k.q) ab:=G
   have H:=yg [1,2,3,4,5,6,7,8,9,10,11,12,13,14,15] G
   refine jM 1 H (fun aB O=>?_) (hvs:=(cells_one (yr H (i:=3) rfl))) (h1:=(gX (yr H (i:=3) rfl) j4))
   refine fK O 7 ?_
   refine jJ (vs:=(Zd ((fJ k.mg i).h))) (cs:=(Zd ((fJ k.mg i).h))) rfl rfl ow ti2 rfl (by simp[Value.cells]) rfl rfl rfl O ?_
   intro I ac aC aD C
   have C:St _ [ig .i64 (Zy I) 2 ([(fJ k.mg i).h]),blk y 158 (Cg ((fJ k.mg i).a:Int) ((fJ k.mg i).b:Int) ((fJ k.mg i).h) ((fJ k.mg i).s:Int)),blk b2 81 [o],blk b3 78 [hv],fL kH.cells o 128 2 ((k.mI i)++[(⟨(fJ k.K ((fJ k.mg i).a)),(fJ k.K ((fJ k.mg i).b))⟩:kH)]),fL fW hv 2 1 (k.mH i),fL Mg.cells d 158 5 k.mg,blk e 106 (rL k k.K.length),fL gO k.iv 39 1 k.K,fL fW k.lv 3 1 ((gf k.es k.K.length k.f).l),fL fW k.rv 3 1 ((gf k.es k.K.length k.f).r),fL fW k.pv 3 1 ((gf k.es k.K.length k.f).p),fL fW k.hv 2 1 ((gf k.es k.K.length k.f).h),fL fS k.sv 3 1 ((gf k.es k.K.length k.f).s),(sM k k.K.length),(qt k k.K.length)] ac:=C
   refine k8 (cf:=fW) (ys:=(k.mH i)) (zs:=[(fJ k.mg i).h]) (LL:=fun u=>(Nh I ([(fJ k.mg i).h]) y ((fJ k.mg i).a:Int) ((fJ k.mg i).b:Int) ((fJ k.mg i).h) ((fJ k.mg i).s:Int) b2 o b3 hv ((k.mI i)++[(⟨(fJ k.K ((fJ k.mg i).a)),(fJ k.K ((fJ k.mg i).b))⟩:kH)]) u ((k.mH i)++[(fJ k.mg i).h]) d k.mg e k.iv k.K.length k.lv k.rv k.pv k.hv k.sv k.cb k.mb k.K (gf k.es k.K.length k.f) k.es k.c k.q)) 5 rfl rfl rfl ow ti2 rfl d_ C rfl (kG C (i:=0) rfl) (fun x hx=>zk.1 (show List.all _ _=true from rfl) x hx) (by simp only[zb,zg,maxLen];omega) (by simp only[zb,zg,maxLen];omega) f_ ?_
   intro u ad J aE
   have J:St _ (Nh I ([(fJ k.mg i).h]) y ((fJ k.mg i).a:Int) ((fJ k.mg i).b:Int) ((fJ k.mg i).h) ((fJ k.mg i).s:Int) b2 o b3 hv ((k.mI i)++[(⟨(fJ k.K ((fJ k.mg i).a)),(fJ k.K ((fJ k.mg i).b))⟩:kH)]) u ((k.mH i)++[(fJ k.mg i).h]) d k.mg e k.iv k.K.length k.lv k.rv k.pv k.hv k.sv k.cb k.mb k.K (gf k.es k.K.length k.f) k.es k.c k.q) ad:=J
   have L:=yg [1,2,3,4,5,6,7,8,9,10,11,12,13,14,15] J
   refine jM 2 L (fun P Q=>?_) (hvs:=(cells_one (yr L (i:=4) rfl))) (h1:=(gX (yr L (i:=4) rfl) j4))
   refine fP Q 7 ?_
   refine tN (?_)
   have ae:=yg [1,2,3,4,5,6,7,8,9,10,11,12,13,14] Q
   have af:St _ (B1 b2 o b3 u (k.mI (i+1)) ((k.mH i)++[(fJ k.mg i).h]) d k.mg e k.iv k.K.length k.lv k.rv k.pv k.hv k.sv k.cb k.mb k.K (gf k.es k.K.length k.f) k.es k.c k.q) P:=yw 2 ae rfl (congrArg (fL kH.cells o 128 2) ((Vk.aby o_).symm))
   have ag:St _ (B1 b2 o b3 u (k.mI (i+1)) (k.mH (i+1)) d k.mg e k.iv k.K.length k.lv k.rv k.pv k.hv k.sv k.cb k.mb k.K (gf k.es k.K.length k.f) k.es k.c k.q) P:=yw 3 af rfl (congrArg (fL fW u 2 1) ((Vk.abw o_).symm))
   exact again ((i+1),o,u) ⟨rfl,rfl,rfl,rfl,rfl,gj (by first|rfl|omega),trivial⟩ (⟨ag,o_⟩) (by show (k.mg.length-(i+1):Nat)<k.mg.length-i;omega)
 . refine fP aF 9 ?_
   refine iS Tryz.results69 ?_
   have aH:i=k.mg.length:=by omega
   have ah:St _ (B1 b2 F b3 hv (k.mI k.mg.length) (k.mH i) d k.mg e k.iv k.K.length k.lv k.rv k.pv k.hv k.sv k.cb k.mb k.K (gf k.es k.K.length k.f) k.es k.c k.q) B:=yw 2 aF rfl (congrArg (fL kH.cells F 128 2) (congrArg k.mI aH))
   have ai:St _ (B1 b2 F b3 hv (k.mI k.mg.length) (k.mH k.mg.length) d k.mg e k.iv k.K.length k.lv k.rv k.pv k.hv k.sv k.cb k.mb k.K (gf k.es k.K.length k.f) k.es k.c k.q) B:=yw 3 ah rfl (congrArg (fL fW hv 2 1) (congrArg k.mH aH))
   have aj:St _ [(gm [blk b2 81 [F],blk b3 78 [hv],fL kH.cells F 128 2 (k.mI k.mg.length),fL fW hv 2 1 (k.mH k.mg.length)]),fL Mg.cells d 158 5 k.mg,blk e 106 (rL k k.K.length),fL gO k.iv 39 1 k.K,fL fW k.lv 3 1 ((gf k.es k.K.length k.f).l),fL fW k.rv 3 1 ((gf k.es k.K.length k.f).r),fL fW k.pv 3 1 ((gf k.es k.K.length k.f).p),fL fW k.hv 2 1 ((gf k.es k.K.length k.f).h),fL fS k.sv 3 1 ((gf k.es k.K.length k.f).s),(sM k k.K.length),(qt k k.K.length)] B:=yc [_,_,_,_] _ ai
   have ak:=yg [3,4,5,6,7,8,9,10,0,1,2] aj
   have al:St _ [(Vk.R k),(gm [blk b2 81 [F],blk b3 78 [hv],fL kH.cells F 128 2 (k.mI k.mg.length),fL fW hv 2 1 (k.mH k.mg.length)]),fL Mg.cells d 158 5 k.mg,blk e 106 (rL k k.K.length)] B:=yt (p:=Vk.ok k) (yc [_,_,_,_,_,_,_,_] _ ak) T
   exact⟨rfl,(F,hv,k.mI k.mg.length,k.mH k.mg.length),⟨rfl,rfl⟩,ym (R' := (Nv k b2 F b3 hv (k.mI k.mg.length) (k.mH k.mg.length))) (yc [_,_] _ al) za⟩
theorem agw(c:WC)(F Q:Nat)(s:WW)(k:Vk)(T:Vk.of s k)(b:Int)(w:World)(R:Own (DU F Q (IntKind.u64.wrap (s.added+s.jU)) k k.K.length b c s) w) :
 CR ya 28 (Zi F) w (fun r w' => ∃ (S hv:Value),r = .tuple #[S,hv]/\fV (DU F Q (IntKind.u64.wrap (s.added+s.jU)) k k.K.length b c s) w w' (Nz F Q (IntKind.u64.wrap (s.added+s.jU)) k k.K.length b c s S (k.mI k.mg.length) hv (k.mH k.mg.length))):=by
 refine en Tryz.func28 Tryz.ntmps28 ?_
 have U:=(yq R).unpack
 refine fR U 2 ?_
 refine iE U (fun a G H I p=>?_)
 refine iE p (fun d q J L j=>?_)
 refine fK j 6 ?_
 refine cl uL (Dg F Q _ q (ye j 2 rfl)) ?_
 rintro _ t ⟨rfl,V⟩
 have l:=yj 2 j V
 refine fK l 9 ?_
 refine mO (vf:=[]) (vc:=(qp a d)) rfl rfl rfl ?_
 have u:=yg [1,0,2,3,4] l
 have y:=yc [_,_] _ u
 have z:=yg [1,2,3,0] y
 have m:=yc [_,_,_,_] _ z
 refine cl IT (Uo c F Q s t (Hg a d) (fun x:Value×Value×List kH×List Int=>gm [blk a 81 [x.1],blk d 78 [x.2.1],fL kH.cells x.1 128 2 x.2.2.1,fL fW x.2.1 2 1 x.2.2.2]) (fun k x=>x.2.2.1=k.mI k.mg.length/\x.2.2.2=k.mH k.mg.length) 69 (qp a d) Ys (fun k w1 T R=>abH a d k w1 R) k T b (ye m 0 rfl)) ?_
 rintro _ M ⟨e,rfl,A,B⟩
 have C:=(yk m B)
 have D:=yg [3,0,1,2] C
 have n:=yv D
 refine gD n 3 ?_
 refine kC mixed [([0,1,2],[1])] [3] n (fun N f=>jA ?_)
 refine fK f 2 ?_
 refine jM 0 f (fun O g=>?_) (hvs:=(cells_one (yr f (i:=2) rfl))) (h1:=(gX (yr f (i:=2) rfl) j4))
 refine fP g 1 ?_
 refine kn (kF ?_)
 refine jM 1 g (fun P h=>?_) (hvs:=(cells_one (yr g (i:=3) rfl))) (h1:=(gX (yr g (i:=3) rfl) j4))
 refine fP h 3 ?_
 refine oO (v:=e.1) (v' := e.2.1) Tryz.results28 (Bm rfl Bz rfl (lT h 0 rfl rfl)) (Bm rfl ow rfl (lT h 1 rfl rfl)) ?_
 have E:=yg [4,5,6,2,3] h
 obtain⟨W,X⟩:=A
 have o:=E
 rw[W,X]at o
 exact⟨e.1,e.2.1,rfl,yi (yc [_,_,_,_,_] _ o)⟩
end
section
open Go Go.Sx
theorem L5(c:WC)(a:Nat)(s:WW)(w:World)(h:Own (WW.R c a s) w)(x:Lv)(j:x.ok)(k:s.now<=x.t)(l:x.t<=1000000)(i:s.added<1000000)(d:s.u.gJ c.fO c.fN x.u x.v=0) :
 CR ya 33 (xB a x) w (fun r w' => ∃ (s2:WW),r = .int .i64 0/\WW.Ins c s s2 x/\fV (WW.R c a s) w w' (WW.R c a s2)) :=
 CR.mono (Ui c a s w h x j k l i) fun r w' ⟨e,s2,f,b,g⟩=>⟨s2,by rw[f,b.room d],b.ins (b.room d),g⟩
theorem JR{u v w t:Int}(h:0<=u/\u<=100/\0<=v/\v<=100/\0<=w/\w<=100/\0<=t/\t<=100):Lv.ok ⟨0,0,u,v,w,t,0⟩ :=
 ⟨kR (by show _/\_;dsimp only;omega),o8 (by show _/\_;dsimp only;omega),o8 (by show _/\_;dsimp only;omega),o8 (by show _/\_;dsimp only;omega),kR (by show _/\_;dsimp only;omega),kR (by show _/\_;dsimp only;omega),kR (by show _/\_;dsimp only;omega)⟩
def G5(s:WW):Prop:=∀ K L es,s.u.mo K->s.u.kL L->kN K L es L.length->K=[1,2,3]/\L.length=3/\es=mu
structure Vk.wk (s:WW) (k:Vk):Prop where
 of:Vk.of s k
 K:k.K=[1,2,3]
 es:k.es=mu
theorem Vk.of.wk{s:WW}{k:Vk}(h:Vk.of s k)(d:G5 s):Vk.wk s k:=by
 obtain⟨L,b,c⟩:=h.pic
 obtain⟨e1,e,a⟩:=d _ _ _ h.ids b c
 exact⟨h,e1,a⟩
instance:DecidableEq kH:=fun a b=>by
 cases a with|mk a1 a2=>cases b with|mk b1 b2=>exact decidable_of_iff (a1=b1/\a2=b2) s_
abbrev wI:List kH:=[⟨1,2⟩,⟨1,3⟩]
abbrev wH:List Int:=[5,7]
theorem Vk.wk.VT{s:WW}{k:Vk}(h:Vk.wk s k)(a:iU k.es k.K.length k.c.f):fJ k.K (k.gQ 7 (gR k.K 3))=1/\k.ua 7 (gR k.K 3)=3:=by
 obtain⟨_,e,g⟩:=h
 unfold Vk.gQ Vk.ua Vk.top
 revert a
 rw[e,g]
 intro a
 obtain⟨b,d⟩:=Uy a
 obtain⟨b,d⟩:=Uy (f:=k.c.f) a
 rw[show gR [1,2,3] 3=2 by decide]
 refine⟨?_,d⟩
 show fJ [1,2,3] (Go.Sx.gQ mu 3 k.c.f (jP (gf mu 3 k.c.f).p (gf mu 3 k.c.f).h 7 2))=1
 rw[b]
 rfl
theorem Vk.wk.mmx{s:WW}{k:Vk}(h:Vk.wk s k)(e:iU k.es k.K.length k.q.f){x:Int×Bool}(c:k.mm (gR k.K 1) (gR k.K 3) x):x=(7,true):=by
 obtain⟨_,m,n⟩:=h
 unfold Vk.mm at c
 revert e c
 rw[m,n]
 intro e c
 obtain⟨z,g,j,o⟩:=c.2 d_
 rw[show gR [1,2,3] 1=0 by decide,show gR [1,2,3] 3=2 by decide]at g
 obtain⟨d,l⟩:=ag0 e g
 have i:=(j d).trans l
 obtain⟨a,b⟩:=x
 simp only at d i
 rw[d,i]
theorem Vk.wk.mg{s:WW}{k:Vk}(h:Vk.wk s k)(a:iU k.es k.K.length k.f):k.mI k.mg.length=wI/\k.mH k.mg.length=wH:=by
 obtain⟨_,c,d⟩:=h
 unfold Vk.mI Vk.mH Vk.mg
 revert a
 rw[c,d]
 intro a
 obtain⟨b,e⟩:=agZ a
 rw[b]
 exact⟨d_,d_⟩
theorem Vk.parts{k:Vk}{w:World}(h:Own (Vk.R k) w):k.ok/\iU k.es k.K.length k.c.f/\iU k.es k.K.length k.q.f:=by
 have a:=Own.of h.un
 exact⟨h.fact,(y8 a (i:=6) rfl),(y8 a (i:=7) rfl)⟩
theorem agD(c:WC)(a b:Nat)(s:WW)(w:World)(m:Own (qu a b c s) w)(o:c.fO<=12)(l:G5 s)(n:s.u.t.cnt 3=0):CR ya 25 #[(Zb a),.int .u64 3,.int .i64 7] w (fun r w' => ∃ (k:Vk),r = .tuple #[.agg #[.int .u64 1,.int .i64 3],.int .i64 0]/\Vk.wk s k/\fV (qu a b c s) w w' (Ny a b (IntKind.u64.wrap (s.added+s.jU)) k k.K.length c s)) :=
 CR.mono (agt c a b s w m o 3 7 n) fun r w' ⟨k,x,h,⟨j,d⟩,e⟩=>by
  have f:=j.wk l
  obtain⟨e1,g⟩:=f.VT (Vk.parts (lJ (Own.of e.own) (i:=1) rfl)).2.1
  rw[e1,g]at d
  subst d
  exact⟨k,h,f,e⟩
theorem agO{o:Obj}(c:WC)(a d:Nat)(s:WW)(k:Vk)(l:Vk.of s k)(b:Int)(w:World)(f:Own (uG a d (IntKind.u64.wrap (s.added+s.jU)) k k.K.length b c s (jW o)) w)(hk:Vk.wk s k)(m:s.u.t.cnt 1=0)(n:s.u.t.cnt 3=0):CR ya 26 #[(Zb a),.int .u64 1,.int .u64 3] w (fun r w' => r = .tuple #[.int .i64 7,.bool true,.int .i64 0]/\fV (uG a d (IntKind.u64.wrap (s.added+s.jU)) k k.K.length b c s (jW o)) w w' (uG a d (IntKind.u64.wrap (s.added+s.jU)) k k.K.length b c s (jW o))) :=
 CR.mono (agx c a d s k l b w f 1 3 m n) fun r w' ⟨x,g,h,j⟩=>by
  have e:=hk.mmx (Vk.parts (lJ (Own.of f) (i:=1) rfl)).2.2 h
  subst e
  exact⟨g,j⟩
theorem agN(c:WC)(a f:Nat)(s:WW)(k:Vk)(l:Vk.of s k)(b:Int)(w:World)(h:Own (DU a f (IntKind.u64.wrap (s.added+s.jU)) k k.K.length b c s) w)(hk:Vk.wk s k):CR ya 28 (Zi a) w (fun r w' => ∃ (d hv:Value),r = .tuple #[d,hv]/\fV (DU a f (IntKind.u64.wrap (s.added+s.jU)) k k.K.length b c s) w w' (Nz a f (IntKind.u64.wrap (s.added+s.jU)) k k.K.length b c s d wI hv wH)) :=
 CR.mono (agw c a f s k l b w h) fun r w' ⟨d,hv,j,g⟩=>by
  have e:=hk.mg (Vk.parts (lJ (Own.of h) (i:=1) rfl)).1.fg
  rw[e.1,e.2]at g
  exact⟨d,hv,j,g⟩
theorem ago(d e:Nat)(k:Vk)(b g:Int)(w:World)(h:Own (Hh d e g k k.K.length b) w) :
 CR ya 16 (Zi d) w (fun r w' => r = .int .i64 b/\fV (Hh d e g k k.K.length b) w w' (Hh d e g k k.K.length b)):=by
 refine en Tryz.func16 Tryz.ntmps16 ?_
 have f:=yq h
 refine fR f 9 ?_
 refine cl uL (Dg d e _ w (ye f 0 rfl)) ?_
 rintro _ c ⟨rfl,i⟩
 have a:=yj 0 f i
 refine fP a 16 ?_
 refine gq (v:=(Za b)) Tryz.results16 rfl ?_
 exact⟨rfl,yi a⟩
end
section
open Go Go.Sx

end
section
open Go Go.Sx
theorem aa5(x y:Int)(w:World) :
 CR ya 159 (Zx x y) w (fun r w' => r = .bool (decide (x<y))/\gw [] w w'):=by
 refine en Tryz.func159 Tryz.ntmps159 ?_
 have e:=yu w
 refine fR e 8 ?_
 refine cl IJ (J7 x w) ?_
 rintro _ c ⟨rfl,b⟩
 have a:=yp e b
 refine fK a 8 ?_
 by_cases d:(x:Int)<(y:Int)
 . refine fP a 6 ?_
   refine gq (v:=Zh) Tryz.results159 rfl ?_
   exact⟨congrArg Value.bool (decide_eq_true o_).symm,a.gA s_⟩
 . refine fP a 6 ?_
   refine gq (v:=Zp) Tryz.results159 rfl ?_
   exact⟨congrArg Value.bool (decide_eq_false o_).symm,a.gA s_⟩
theorem aau(v:Value)(xs:List Int)(w:World)(J:Own (rN v xs) w)(M:xs.length<=1000000) :
 CR ya 153 #[v,Zc,(Za xs.length)] w (fun r w' => ∃ ys:List Int,r = .tuple #[]/\(ys.Perm xs/\lZ ys ys.length)/\fV (rN v xs) w w' (rN v ys)):=by
 refine en Tryz.func153 Tryz.ntmps153 ?_
 have H:=yq J
 refine p8 H 8 ?_
 refine lp (α:=Nat×List Int) (fun(i,ys)=>[(0,v),(1,Zc),(2,(Za xs.length)),(6,(Za i))]) (fun(i,ys) w1=>St [(w,(rN v xs).gH)] [fL fW v 3 1 ys] w1/\ys.Perm xs/\lZ ys i/\1<=i) (fun(i,ys)=>xs.length+1-i) (1,xs) ⟨rfl,rfl,rfl,gj rO,trivial⟩ (⟨H,List.Perm.refl _,lZ.zero,o_⟩) ?_
 rintro⟨i,ys⟩ m n ⟨B,E,F,hi⟩
 have N:=E.length_eq
 refine fR B 5 ?_
 by_cases o:((i:Int):Int)<((xs.length:Int):Int)
 . refine gD B 15 ?_
   refine lp (α:=Nat×List Int) (fun(j,zs)=>[(0,v),(1,Zc),(2,(Za xs.length)),(6,(Za i)),(7,(Za j))]) (fun(j,zs) w1=>St [(w,(rN v xs).gH)] [fL fW v 3 1 zs] w1/\zs.Perm xs/\tC zs i j/\j<=i) (fun(j,zs)=>j) (i,ys) ⟨rfl,rfl,rfl,rfl,gj rO,trivial⟩ (⟨B,E,F.at,o_⟩) ?_
   rintro⟨j,zs⟩ s t ⟨K,D,C,G⟩
   have O:=D.length_eq
   refine nN K 5 fun h a=>?_
   by_cases u:((j:Int):Int)>(0:Int)
   . refine fK a 9 ?_
     refine iJ (cf:=fW) (k:=(j-1)) (i:=(j:Int)-1) rfl rfl rfl yd gr (y0 a 0 rfl) o_ o_ (gy om) (fK a 1 ?_)
     refine cl Xh (aa5 (fJ zs j) (fJ zs (j-1)) h) ?_
     rintro _ x ⟨rfl,l⟩
     have b:=yp a l
     refine gD b 3 ?_
     cases d:(decide ((fJ zs j)<(fJ zs (j-1))):Bool)
     . skip
       refine iO b 12 ?_
       refine tN (?_)
       exact again ((i+1),zs) ⟨rfl,rfl,rfl,gj rO,trivial⟩ (⟨b,D,C.done o_ G (of_decide_eq_false d),o_⟩) (by show (xs.length+1-(i+1):Nat)<xs.length+1-i;omega)
     . skip
       refine nN b 14 fun y c=>?_
       refine iJ (cf:=fW) (k:=(j-1)) (i:=(j:Int)-1) rfl rfl rfl yd gr (y0 c 0 rfl) o_ o_ (gy om) (fK c 6 ?_)
       refine iz (f:=(fun _=>(fJ zs (j-1)))) 0 c (fun z e=>?_)
       refine iJ (cf:=fW) (k:=(j-1)) (i:=(j:Int)-1) rfl rfl rfl yd gr (y0 e 0 rfl) o_ o_ (gy om) (iz (f:=(fun _=>(fJ zs j))) 0 e (fun A g=>?_))
       refine fP g 8 ?_
       refine tN (?_)
       exact again ((j-1),fM (fM zs j (fun _=>(fJ zs (j-1)))) (j-1) (fun _=>(fJ zs j))) ⟨rfl,rfl,rfl,rfl,gj rO,trivial⟩ (⟨g,(Tp o_ o_).trans D,C.swap o_ G o_ (of_decide_eq_true d),o_⟩) (by show ((j-1):Nat)<j;omega)
   . refine fP a 27 ?_
     refine tN (?_)
     exact again ((i+1),zs) ⟨rfl,rfl,rfl,gj rO,trivial⟩ (⟨a,D,(by rw[show j=0 by omega]at C;exact C.OD),o_⟩) (by show (xs.length+1-(i+1):Nat)<xs.length+1-i;omega)
 . refine fP B 8 ?_
   refine iS Tryz.results153 ?_
   exact⟨ys,rfl,⟨E,fun p q I L=>F p q I o_⟩,yi B⟩
theorem acW(v:Value)(xs:List Int)(w:World)(i:Own (rN v xs) w)(z:Int)(l:xs.length<=12) :
 CR ya 91 (MT v xs.length z) w (fun r w' => ∃ ys:List Int,r = .tuple #[]/\(ys.Perm xs/\lZ ys ys.length)/\fV (rN v xs) w w' (rN v ys)):=by
 refine en Tryz.func91 Tryz.ntmps91 ?_
 have h:=yq i
 refine p8 h 11 ?_
 refine lp (α:=Nat) (fun k=>[(0,v),(1,Zc),(2,(Za xs.length)),(3,(Za z)),(8,Zh),(9,Zh)]) (fun k w1=>St [(w,(rN v xs).gH)] [fL fW v 3 1 xs] w1) (fun k=>0) 0 ⟨rfl,rfl,rfl,rfl,rfl,rfl,trivial⟩ h ?_
 rintro k e b g
 refine fR g 13 ?_
 refine cmp rfl rfl rfl (xO o_) (fK g 8 ?_)
 refine cl Xg (aau v xs b (ye g 0 rfl) o_) ?_
 rintro _ f ⟨c,rfl,d,j⟩
 have a:=yj 0 g j
 refine fP a 7 ?_
 refine wN Tryz.results91 ?_
 exact⟨c,rfl,d,yi a⟩
theorem aeY(v:Value)(xs:List Int)(w:World)(j:Own (rN v xs) w)(k:xs.length<=12) :
 CR ya 45 #[v] w (fun r w' => ∃ ys:List Int,r = .tuple #[]/\(ys.Perm xs/\lZ ys ys.length)/\fV (rN v xs) w w' (rN v ys)):=by
 refine en Tryz.func45 Tryz.ntmps45 ?_
 have i:=yq j
 refine fR i 3 ?_
 refine iM (m:=xs.length) 0 rfl rfl yd i rfl (fK i 8 ?_)
 refine cl IV (HU xs.length w o_) ?_
 rintro _ c ⟨d,rfl,e⟩
 have a:=yp i e
 refine cl YF (acW v xs c (ye a 0 rfl) d k) ?_
 rintro _ h ⟨f,rfl,g,l⟩
 have b:=yj 0 a l
 refine fP b 1 ?_
 refine iS Tryz.results45 ?_
 exact⟨f,rfl,g,yi b⟩
end
section
open Go Go.Sx
theorem Ja(b n:Nat)(q:Gr)(es:List Ge)(w:World)(e:Own (Gr.R b n q es) w) :
 CR ya 93 (Zi b) w (fun r w' => r = .bool true/\fV (Gr.R b n q es) w w' (Gr.R b n q es)):=by
 refine en Tryz.func93 Tryz.ntmps93 ?_
 have d:=Own.of e
 have f:=wW (n:=n) (es:=es)
 refine fR d 8 ?_
 refine l9 (a:=some ⟨b,0,none⟩) (c:=true) rfl rfl rfl Tryz.underlying31 rfl (fK d 6 ?_)
 refine AH (a:=⟨b,0,none⟩) rfl rfl rfl Tryz.underlying31 Lz (fP d 5 ?_)
 refine gq (v:=Zh) Tryz.results93 rfl ?_
 exact⟨rfl,yi (yc [_,_,_,_] _ d)⟩
theorem AK(f n:Nat)(q:Gr)(es:List Ge)(w:World)(h:Own (Gr.R f n q es) w)(i:n<=4096) :
 CR ya 46 (Zi f) w (fun r w' => r = .int .i64 (n:Int)/\fV (Gr.R f n q es) w w' (Gr.R f n q es)):=by
 refine en Tryz.func46 Tryz.ntmps46 ?_
 have g:=Own.of h
 have j:=wW (n:=n) (es:=es)
 have b:=yc [_,_,_,_] _ g
 refine fR g 9 ?_
 refine cl IW (Ja f n q es w (ye b 0 rfl)) ?_
 rintro _ d ⟨rfl,c⟩
 have a:=(yk b c)
 refine fK a 12 ?_
 refine iM (m:=(mA n es).length) 2 rfl rfl yd a rfl (ar (e:=(n:Int)) rfl rfl rfl rfl iW (fP a 4 ?_))
 refine gq (v:=(Za n)) Tryz.results46 rfl ?_
 exact⟨rfl,yi (yc [_,_,_,_] _ a)⟩
theorem ZV(e n:Nat)(q:Gr)(es:List Ge)(w:World)(g:Own (Gr.R e n q es) w)(h:n<=4096)(hm:es.length<=16384)(v:Nat)(hv:v<n) :
 CR ya 238 (Zm e v) w (fun r w' => r = .bool true/\fV (Gr.R e n q es) w w' (Gr.R e n q es)):=by
 refine en Tryz.func238 Tryz.ntmps238 ?_
 have f:=Own.of g
 have i:=wW (n:=n) (es:=es)
 have b:=yc [_,_,_,_] _ f
 refine fR f 8 ?_
 refine cl IW (Ja e n q es w (ye b 0 rfl)) ?_
 rintro _ d ⟨rfl,c⟩
 have a:=(yk b c)
 refine fK a 2 ?_
 refine cmp rfl rfl rfl (nG o_) (fK a 7 ?_)
 refine iM (m:=(mA n es).length) 2 rfl rfl yd a rfl (fK a 1 ?_)
 refine cmp rfl rfl rfl (pZ o_) (fP a 5 ?_)
 refine gq (v:=Zh) Tryz.results238 rfl ?_
 exact⟨rfl,yi (yc [_,_,_,_] _ a)⟩
abbrev xM(n:Nat)(es:List Ge)(lv:Value)(v:Nat):Value:=jB 1 lv (fJ (mA n es) v) (fJ (mA n es) (v+1))
theorem HS{ok:Nat->Prop}{w:World}{lv:Value}{n v:Nat}{es:List Ge}(h:gY 1 fS ok w lv (wv n es))(hv:v<n):gY 1 fS ok w (xM n es lv v) (kV n es v):=by
 have hm:=vj (es:=es) hv
 have a:=Sl.jB h hm.1 (by rw[JN];exact hm.2)
 rw[List.drop_take]at a
 exact a
theorem Qj(g n:Nat)(q:Gr)(es:List Ge)(w:World)(o:Own (Gr.R g n q es) w)(p:n<=4096)(hm:es.length<=16384)(v:Nat)(hv:v<n) :
 CR ya 166 (Zm g v) w (fun r w' => r=(xM n es q.lv v)/\fV (Gr.R g n q es) w w' (Gr.R g n q es)):=by
 refine en Tryz.func166 Tryz.ntmps166 ?_
 have m:=Own.of o
 have s:=wW (n:=n) (es:=es)
 have j:=vj (es:=es) hv
 have b:=yc [_,_,_,_] _ m
 refine fR m 10 ?_
 refine cl XH (ZV g n q es w (ye b 0 rfl) p hm v o_) ?_
 rintro _ e ⟨rfl,c⟩
 have d:=(yk b c)
 refine gI d 25 fun f a=>?_
 refine iJ (cf:=fS) (k:=(v+1)) (i:=(v:Int)+1) rfl rfl rfl yd gr (y0 a 2 rfl) o_ o_ (gy om) (fK a 1 ?_)
 refine FV (l:=(fJ (mA n es) v)) (h:=(fJ (mA n es) (v+1))) rfl rfl yd gr (y0 (cf:=fS) a 3 rfl) ⟨_,gj o_⟩ ⟨_,gj o_⟩ j.1 (by rw[JN];exact j.2) (rS (v:=(xM n es q.lv v)) rfl rfl (fP a 3 ?_))
 refine gq (v:=(xM n es q.lv v)) Tryz.results166 rfl ?_
 exact⟨rfl,yi (yc [_,_,_,_] _ a)⟩
theorem ZQ(f n:Nat)(q:Gr)(es:List Ge)(w:World)(h:Own (Gr.R f n q es) w)(i:n<=4096)(hm:es.length<=16384)(v:Nat)(hv:v<n) :
 CR ya 164 (Zm f v) w (fun r w' => r = .int .i64 ((fJ (gK n es) v).length:Int)/\fV (Gr.R f n q es) w w' (Gr.R f n q es)):=by
 refine en Tryz.func164 Tryz.ntmps164 ?_
 have g:=Own.of h
 have j:=wW (n:=n) (es:=es)
 have b:=yc [_,_,_,_] _ g
 refine fR g 9 ?_
 refine cl OX (Qj f n q es w (ye b 0 rfl) i hm v (show v<n by omega)) ?_
 rintro _ e ⟨rfl,c⟩
 have a:=(yk b c)
 have d:=HS (y0 a 3 rfl) (show v<n by omega)
 refine j8 (v:=(xM n es q.lv v)) rfl rfl yd d (fP a 4 ?_)
 refine gq (v:=(Za ((kV n es v).length:Int))) Tryz.results164 rfl ?_
 exact⟨by rw[Aq hv,xL],yi (yc [_,_,_,_] _ a)⟩
theorem ZR(i n:Nat)(q:Gr)(es:List Ge)(w:World)(l:Own (Gr.R i n q es) w)(hm:es.length<=16384) :
 CR ya 89 (Zi i) w (fun r w' => ∃ v:Value,v=r/\fV (Gr.R i n q es) w w' (gm [(Gr.R i n q es),fL Ge.cells v 110 3 es])):=by
 refine en Tryz.func89 Tryz.ntmps89 ?_
 have j:=Own.of l
 have m:=wW (n:=n) (es:=es)
 have c:=yc [_,_,_,_] _ j
 refine fR j 9 ?_
 refine cl IW (Ja i n q es w (ye c 0 rfl)) ?_
 rintro _ e ⟨rfl,f⟩
 have a:=(yk c f)
 refine fK a 12 ?_
 refine cl PD (Om q.ev es e (y0 a 1 rfl).any (by first|omega|(simp;omega))) ?_
 rintro b g k
 have d:St _ [fL Ge.cells b 110 3 es,blk i 167 (Ce i q.ev q.sv q.lv),fL Ge.cells q.ev 110 3 es,fL fS q.sv 3 1 (mA n es),fL fS q.lv 3 1 (wv n es)] g:=vr a k.2 k.1
 refine fP d 4 ?_
 refine gq (v:=b) Tryz.results89 rfl ?_
 have h:=yg [1,2,3,4,0] d
 exact⟨b,rfl,ym (yc [_,_] _ (yc [_,_,_,_] _ h)) za⟩
theorem Qi(l v:Nat)(w:World) :
 CR ya 97 (Zm l v) w (fun r w' => ∃ n o,r = .func (.func 165) #[] (xH n o)/\fV (gm []) w w' (gm [blk n 31 (Zf l),blk o 3 (Zd v)])):=by
 refine en Tryz.func97 Tryz.ntmps97 ?_
 have m:=yu w
 refine fR m 2 ?_
 refine iC m (fun a f g h d=>?_)
 refine iC d (fun b i j k c=>?_)
 refine fK c 5 ?_
 refine mO (vf:=[]) (vc:=(qp a b)) rfl rfl rfl (fP c 4 ?_)
 refine gq (v:=(.func (.func 165) #[] (xH a b))) Tryz.results97 rfl ?_
 have e:=yg [1,0] c
 exact⟨a,b,rfl,nS (yc [_,_] _ e)⟩
theorem Qh{γ:Type}(Q:γ->fT)(U:γ->Nat)(z0:γ)(l S T F n:Nat)(q:Gr)(es:List Ge)(v:Nat)(w:World)(hy:∀ (z:γ) (bs:List (World×List Nat)) (L:List fT) (w1:World),U z<(iV n es v).length->St bs (Q z :: L) w1->YR ya l (Zn (((fJ (iV n es v) (U z)).e:Nat):Int) (((fJ (iV n es v) (U z)).t:Nat):Int)) w1 (fun rv w' => rv = .bool true/\∃ z2,U z2=U z+1/\St bs (Q z2 :: L) w'))(ae:U z0=0)(hO:Own (DT (Q z0) S F T v n q es) w)(hn:n<=4096)(hg:mj n es)(hm:es.length<=16384)(hv:v<n) :
 CR ya 165 (Hs (.func (.yield l) #[] #[]) S T) w (fun r w' => ∃ z:γ,r = .tuple #[]/\U z=(iV n es v).length/\fV (DT (Q z0) S F T v n q es) w w' (DT (Q z) S F T v n q es)):=by
 refine en Tryz.func165 Tryz.ntmps165 ?_
 have ad:=Own.of hO
 have ab:=yv (lC ad (qG (l₁:=[(Q z0),blk S 31 (Zf F),blk T 3 (Zd v)]) (l₂:=[(Gr.R F n q es)])))
 have ak:=wW (n:=n) (es:=es)
 have af:=xL (n:=n) (es:=es) (v:=v)
 have c:=yc [_,_,_,_] _ ab
 refine fR ab 4 ?_
 refine cl OX (Qj F n q es w (ye c 0 rfl) hn hm v (show v<n by omega)) ?_
 rintro _ A ⟨rfl,g⟩
 have b:=(yk c g)
 have h:=HS (y0 b 3 rfl) (show v<n by omega)
 refine j8 (v:=(xM n es q.lv v)) rfl rfl yd h (gD b 4 ?_)
 refine lp (α:=Nat×γ) (fun(k,z)=>[(0,(.func (.yield l) #[] #[])),(1,(Zb S)),(2,(Zb T)),(10,(xM n es q.lv v)),(11,(Za ((kV n es v).length:Int))),(12,(Za k))]) (fun(k,z) w1=>St [(w,(DT (Q z0) S F T v n q es).gH)] [blk F 167 (Ce F q.ev q.sv q.lv),fL Ge.cells q.ev 110 3 es,fL fS q.sv 3 1 (mA n es),fL fS q.lv 3 1 (wv n es),(Q z),blk S 31 (Zf F),blk T 3 (Zd v)] w1/\k<=(kV n es v).length/\U z=k) (fun(k,z)=>(kV n es v).length-k) (0,z0) ⟨rfl,rfl,rfl,rfl,rfl,gj rO,trivial⟩ (⟨b,o_,ae⟩) ?_
 rintro⟨k,z⟩ B C ⟨V,hk,aa⟩
 refine fR V 2 ?_
 by_cases D:((k:Int):Int)<(((kV n es v).length:Int):Int)
 . have X:k<(kV n es v).length:=by omega
   have ag:(kV n es v).length<=32768:=by rw[Ar hv];have:=vj (es:=es) hv;omega
   have aj:k<(iV n es v).length:=by omega
   have Z:=UY X
   have ac:=NS (nj X)
   have Y:=hg.at ac
   have ah:=Y.1
   have ai:=Y.2.1
   refine fK V 12 ?_
   refine jd rfl rfl yf rfl (HS (y0 V 3 rfl) (show v<n by omega)) (gy X) rfl (fK V 12 ?_)
   refine iE V (fun E G H I i=>?_)
   refine gI i 15 fun J a=>?_
   by_cases K:(((fJ es (fJ (kV n es v) k)).v:Int):Int)=((v:Int):Int)
   . skip
     have j:=yg [5,0,1,2,3,4,6,7] a
     have W:=hy z _ _ _ o_ j
     refine fK a 15 ?_
     rw[aa,Z]at W
     rw[show (((E9 es v (fJ (kV n es v) k)).t:Nat):Int)=((fJ es (fJ (kV n es v) k)).u:Int) by show (((if _=v then _ else _:Nat)):Int)=_;first|rw[if_pos o_]|rw[if_neg o_]]at W
     refine yl (vl:=(Zn (((fJ (kV n es v) k):Nat):Int) ((fJ es (fJ (kV n es v) k)).u:Int))) rfl rfl rfl W ?_
     rintro _ M ⟨rfl,m,N,d⟩
     refine fP d 11 ?_
     refine tN (?_)
     have o:=yg [2,3,4,5,0,6,7] d
     exact again ((k+1),m) ⟨rfl,rfl,rfl,rfl,rfl,gj rO,trivial⟩ (⟨o,o_,o_⟩) (by show ((kV n es v).length-(k+1):Nat)<(kV n es v).length-k;omega)
   . skip
     have p:=yg [5,0,1,2,3,4,6,7] a
     have W:=hy z _ _ _ o_ p
     refine fK a 11 ?_
     rw[aa,Z]at W
     rw[show (((E9 es v (fJ (kV n es v) k)).t:Nat):Int)=((fJ es (fJ (kV n es v) k)).v:Int) by show (((if _=v then _ else _:Nat)):Int)=_;first|rw[if_pos o_]|rw[if_neg o_]]at W
     refine yl (vl:=(Zn (((fJ (kV n es v) k):Nat):Int) ((fJ es (fJ (kV n es v) k)).v:Int))) rfl rfl rfl W ?_
     rintro _ O ⟨rfl,s,P,f⟩
     refine fP f 11 ?_
     refine tN (?_)
     have x:=yg [2,3,4,5,0,6,7] f
     exact again ((k+1),s) ⟨rfl,rfl,rfl,rfl,rfl,gj rO,trivial⟩ (⟨x,o_,o_⟩) (by show ((kV n es v).length-(k+1):Nat)<(kV n es v).length-k;omega)
 . refine fP V 9 ?_
   refine iS Tryz.results165 ?_
   have y:=V
   exact⟨z,rfl,o_,ym (yc [_,_,_,_] _ (lC (yc [_,_,_,_] _ y) (qG (l₁:=[(Gr.R F n q es)]) (l₂:=[(Q z),blk S 31 (Zf F),blk T 3 (Zd v)])))) za⟩
end
section
open Go Go.Sx
def Lk.cells(x:Lk):List Value:=[.int .i64 (x.e:Int),.int .i64 (x.t:Int)]
def tD(n:Nat)(es:List Ge)(v:Nat)(H:List (Value×List Lk)):Prop:=H.length=n/\∀ j,j<n->(fJ H j).2=if j<v then iV n es j else[]
def tE(n:Nat)(es:List Ge)(v:Nat)(a:List (Value×List Lk))(k:Nat)(H:List (Value×List Lk)):Prop:=H.length=n/\k<=(iV n es v).length/\(fJ H v).2=(iV n es v).take k/\H.eraseIdx v=a.eraseIdx v/\∀ j,j≠v->fJ H j=fJ a j
theorem wA{α:Type}[Inhabited α]{n j:Nat}{x:α}(h:j<n):fJ (List.replicate n x) j=x:=iK (by rw[rD,if_pos h])
theorem tD.start{n:Nat}{es:List Ge}:tD n es 0 (List.replicate n ((.slice none 0 0,[]):Value×List Lk)):=⟨qh,fun j a=>by rw[wA a,if_neg (G1 _)]⟩
theorem YX{α:Type}[Inhabited α](l:List α)(i:Nat)(f:α->α):(fM l i f).eraseIdx i=l.eraseIdx i:=List.eraseIdx_set_eq
theorem tE.start{n v:Nat}{es:List Ge}{H:List (Value×List Lk)}(h:tD n es v H)(hv:v<n):tE n es v H 0 H:=⟨h.1,lD _,by rw[h.2 v hv,if_neg (Nat.lt_irrefl _)];rfl,rfl,fun _ _=>rfl⟩
theorem tE.next{n v k:Nat}{es:List Ge}{a H:List (Value×List Lk)}{sv:Value}(h:tE n es v a k H)(hv:v<n)(hk:k<(iV n es v).length):tE n es v a (k+1) (fM H v fun _=>(sv,(fJ H v).2++[fJ (iV n es v) k])):=by
 refine⟨gx.trans h.1,hk,?_,(YX _ _ _).trans h.2.2.2.1,fun j b=>?_⟩
 . rw[jS (by rw[h.1];exact hv)]
   show (fJ H v).2++_=_
   rw[h.2.2.1,oU,gy hk]
   rfl
 . rw[kS (fun e=>b e.symm)];exact h.2.2.2.2 j b
theorem tE.done{n v:Nat}{es:List Ge}{a H:List (Value×List Lk)}(b:tD n es v a)(h:tE n es v a (iV n es v).length H):tD n es (v+1) H:=by
 refine⟨h.1,fun j c=>?_⟩
 by_cases e:j=v
 . subst e
   rw[h.2.2.1,tq,if_pos (Nat.lt_succ_self _)]
 . rw[h.2.2.2.2 j e,b.2 j c]
   by_cases q:j<v
   . rw[if_pos q,if_pos o_]
   . rw[if_neg q,if_neg o_]
theorem tD.all{n:Nat}{es:List Ge}{H:List (Value×List Lk)}(h:tD n es n H):H.map (·.2)=gK n es:=by
 apply mW
 intro j
 unfold gK
 rw[zx,zx]
 by_cases hj:j<n
 . rw[gy (by rw[h.1];exact hj),ox hj]
   show some (fJ H j).2=_
   rw[h.2 j hj,if_pos hj]
   rfl
 . rw[pK (by rw[h.1];omega),pK (by rw[nu];omega)]
   rfl
abbrev qK(n:Nat)(es:List Ge)(v:Nat)(a:List (Value×List Lk)):Type:={z:Nat×List (Value×List Lk) // tE n es v a z.1 z.2}
abbrev D1 a (b:Nat) c d e f (g:Nat) (h:Int):=([a,blk b 179 [c],d,fL Lk.cells e 190 2 f,blk g 3 (Zd h)]:List fT)
theorem aa9(F n:Nat)(q:Gr)(es:List Ge)(w:World)(hO:Own (Gr.R F n q es) w)(hn:n<=4096)(hg:mj n es)(hm:es.length<=16384) :
 CR ya 88 (Zi F) w (fun r w' => ∃ (v:Value) (H:List (Value×List Lk)),v=r/\H.map (·.2)=gK n es/\fV (Gr.R F n q es) w w' (gm [(Gr.R F n q es),fL iH v 188 1 H,(kI Lk.cells 190 2 H)])):=by
 refine xU (vs:=(Zf F)) Tryz.func88 rfl Tryz.ntmps88 rfl ?_
 have aT:=yq hO
 refine fR aT 8 ?_
 refine cl AE (AK F n q es w (ye aT 0 rfl) hn) ?_
 rintro _ ao ⟨rfl,ht⟩
 have I:=yj 0 aT ht
 refine nY (cf:=iH) (z0:=((.slice none 0 0,[]):Value×List Lk)) (m:=n) (c:=n) rfl rfl rfl Dj F7 rfl f_ d_ (zj _) o_ o_ I ?_
 intro u J ap aq K
 have y:St _ [fL iH (.slice (some ⟨u,0,none⟩) n n) 188 1 (List.replicate n ((.slice none 0 0,[]):Value×List Lk)),(Gr.R F n q es)] J:=kZ (cf:=iH) K (i:=0) rfl f_ (zj _) (by simp only[maxLen];omega)
 generalize (Value.slice (some ⟨u,0,none⟩) n n)=a at y ⊢
 refine iE y (fun b ar au av p=>?_)
 refine jM 0 p (fun M o=>?_) (hvs:=(cells_one (yr p (i:=1) rfl))) (h1:=(gX (yr p (i:=1) rfl) j4))
 refine fK o 6 ?_
 refine iM (m:=(List.replicate n ((.slice none 0 0,[]):Value×List Lk)).length) 1 rfl rfl Dj o rfl ?_
 have N:St _ [(kI Lk.cells 190 2 (List.replicate n ((.slice none 0 0,[]):Value×List Lk))),blk b 179 [a],fL iH a 188 1 (List.replicate n ((.slice none 0 0,[]):Value×List Lk)),(Gr.R F n q es)] M:=St.E1 n o
 have O:=St.OB N
 have P:=yg [2,3,1,0,4] O
 refine gD o 4 ?_
 refine Q8 (α:=Nat×List (Value×List Lk)×List Nat) (fun(v,H,dl)=>dl) (fun(v,H,dl)=>[(0,(Zb F)),(3,(Zb b)),(11,(Za ((List.replicate n ((.slice none 0 0,[]):Value×List Lk)).length:Int))),(12,(Za v))]) (fun(v,H,dl) w1=>St [(w,(Gr.R F n q es).gH)] [blk b 179 [a],fL iH a 188 1 H,(kI Lk.cells 190 2 H),(sQ dl),(Gr.R F n q es)] w1/\tD n es v H/\v<=n) (fun(v,H,dl)=>n-v) (0,(List.replicate n ((.slice none 0 0,[]):Value×List Lk)),[]) ⟨rfl,rfl,rfl,gj rO,trivial⟩ (⟨P,tD.start,o_⟩) ?_
 rintro⟨v,H,dl⟩ aw ax ⟨aM,aO,bf⟩
 have a9:=aO.1
 have bd:(List.replicate n ((.slice none 0 0,[]):Value×List Lk)).length=n:=qh
 refine fR aM 2 ?_
 by_cases ay:((v:Int):Int)<(((List.replicate n ((.slice none 0 0,[]):Value×List Lk)).length:Int):Int)
 . refine fK aM 12 ?_
   refine iE aM (fun g az aA aB Q=>?_)
   refine gI Q 7 fun S U=>?_
   refine cl PM (Qi F v S) ?_
   rintro _ aC ⟨h,j,rfl,ht⟩
   have A:=yv (jR U ht)
   have V:=yg [5,0,1,2,3,4,6,7] A
   have W:=ug v V o_
   have aN:v<n:=by omega
   have X:=yg [5,6,0,4,1,2,3,8,7] W
   refine gD A 3 ?_
   refine rf (α:=qK n es v H) (ps:=[18,19]) (fi:=[]) (ca:=(qp h j)) (fun z=>[blk b 179 [a],fL iH a 188 1 z.1.2,fL Lk.cells ((fJ z.1.2 v).1) 190 2 ((fJ z.1.2 v).2),blk g 3 (Zd v),(kI Lk.cells 190 2 (H.eraseIdx v)),blk h 31 (Zf F),blk j 3 (Zd v),(Gr.R F n q es),(sQ dl)]) (fun z=>z.1.1=(iV n es v).length) X rfl OW ?_ ?_
   . intro fn dd l wl rc aR a5
     have Y:=yg [0,2,3,4,5,1,6,7,8,9,10] a5
     have aZ:=yc (D1 (iT l rc) b a (fL iH a 188 1 H) ((fJ H v).1) ((fJ H v).2) g v) [jK dd (some []),(kI Lk.cells 190 2 (H.eraseIdx v)),blk h 31 (Zf F),blk j 3 (Zd v),(Gr.R F n q es),(sQ dl)] Y
     have aV:rc.state = .ready:=by rw[aR]
     have a1:rc.pending=none:=by rw[aR]
     have a3:∀ (z:qK n es v H) (bs:List (World×List Nat)) (L:List fT) (w1:World),(fun z:qK n es v H=>z.1.1) z<(iV n es v).length->St bs ((fun(z:qK n es v H)=>gm (D1 (iT l rc) b a (fL iH a 188 1 z.1.2) ((fJ z.1.2 v).1) ((fJ z.1.2 v).2) g v)) z :: L) w1->YR ya l (Zn (((fJ (iV n es v) ((fun z:qK n es v H=>z.1.1) z)).e:Nat):Int) (((fJ (iV n es v) ((fun z:qK n es v H=>z.1.1) z)).t:Nat):Int)) w1 (fun rv w' => rv = .bool true/\∃ z2,(fun z:qK n es v H=>z.1.1) z2=(fun z:qK n es v H=>z.1.1) z+1/\St bs ((fun(z:qK n es v H)=>gm (D1 (iT l rc) b a (fL iH a 188 1 z.1.2) ((fJ z.1.2 v).1) ((fJ z.1.2 v).2) g v)) z2 :: L) w'):=by
      intro z bs LT wr aQ T
      have T:=T.unpack
      have bg:=z.2.1
      have a8:=z.2.2.2.1
      have aQ:z.1.1<(iV n es v).length:=aQ
      have be:(fJ z.1.2 v).2.length=z.1.1:=by rw[a8,zw];omega
      have ba:=xL (n:=n) (es:=es) (v:=v)
      have bb:=Ar (es:=es) aN
      have bc:=vj (es:=es) aN
      refine wO (vl:=(Zn (((fJ (iV n es v) z.1.1).e:Nat):Int) (((fJ (iV n es v) z.1.1).t:Nat):Int))) 0 aR T rfl rfl rfl (iO T 8 ?_)
      refine tN (?_)
      refine xN 0 T rfl aV rfl (fun aD B=>p8 B 1 ?_)
      refine kC mixed [([0,1,2,3,4,5,6,7,8,9],[0,1,2,3,5]),([10],[0,1])] [11,12] B (fun aE C=>jA ?_)
      refine fK C 8 ?_
      refine jc (pvs:=[(0,(Za (((fJ (iV n es v) z.1.1).e:Nat):Int))),(1,(Za (((fJ (iV n es v) z.1.1).t:Nat):Int)))]) (v:=.agg (Zx (((fJ (iV n es v) z.1.1).e:Nat):Int) (((fJ (iV n es v) z.1.1).t:Nat):Int))) rfl rfl (jo [(0,(Zd (((fJ (iV n es v) z.1.1).e:Nat):Int))),(1,(Zd (((fJ (iV n es v) z.1.1).t:Nat):Int)))] yV adf rfl ⟨rfl,rfl,rfl,rfl,trivial⟩ rfl) (jJ (vs:=(D3 (((fJ (iV n es v) z.1.1).e:Nat):Int) (((fJ (iV n es v) z.1.1).t:Nat):Int))) (cs:=(Zn (((fJ (iV n es v) z.1.1).e:Nat):Int) (((fJ (iV n es v) z.1.1).t:Nat):Int))) rfl rfl xh yV rfl (by simp[Value.cells]) rfl rfl rfl C (fun Z aF aG aH s=>fP s 1 ?_))
      refine kn (jA ?_)
      refine k8 (cf:=Lk.cells) (ys:=(fJ z.1.2 v).2) (zs:=[(⟨((fJ (iV n es v) z.1.1).e),((fJ (iV n es v) z.1.1).t)⟩:Lk)]) (LL:=fun d=>(row (Zy Z) 190 2 1 ((Zn (((fJ (iV n es v) z.1.1).e:Nat):Int) (((fJ (iV n es v) z.1.1).t:Nat):Int))) :: iT l { rc with state:=.busy } :: blk b 179 [a] :: fL iH a 188 1 z.1.2 :: fL Lk.cells d 190 2 (((fJ z.1.2 v).2)++[(⟨((fJ (iV n es v) z.1.1).e),((fJ (iV n es v) z.1.1).t)⟩:Lk)]) :: blk g 3 (Zd v) :: LT)) 4 rfl rfl rfl xh yV rfl d_ s rfl (kG s (i:=0) rfl) (fun x hx=>zk.1 (show List.all _ _=true from rfl) x hx) (by simp only[zb,zg,maxLen];omega) (by simp only[zb,zg,maxLen];omega) f_ ?_
      intro d aI aa aJ
      have k:=St.sub (L' := (iT l { rc with state:=.busy } :: blk b 179 [a] :: fL iH a 188 1 z.1.2 :: fL Lk.cells d 190 2 (((fJ z.1.2 v).2)++[(⟨((fJ (iV n es v) z.1.1).e),((fJ (iV n es v) z.1.1).t)⟩:Lk)]) :: blk g 3 (Zd v) :: LT)) aa (List.Sublist.cons _ (List.Sublist.refl _))
      refine fP k 1 ?_
      refine kn (kF ?_)
      refine fK k 1 ?_
      refine iz (f:=(fun _=>(d,((fJ z.1.2 v).2++[fJ (iV n es v) z.1.1])))) 2 k (fun aK D=>?_) (hvs:=(cells_one (yr k (i:=3) rfl))) (h1:=(gX (yr k (i:=3) rfl) j4))
      refine fP D 2 ?_
      refine xR 0 D rfl aV a1 rfl ?_
      intro aL ab
      have aY:=jS (f:=fun _=>(d,(fJ z.1.2 v).2++[fJ (iV n es v) z.1.1])) (show v<z.1.2.length by omega)
      have ac:=ab
      have a2:fL Lk.cells d 190 2 (((fJ z.1.2 v).2)++[(⟨((fJ (iV n es v) z.1.1).e),((fJ (iV n es v) z.1.1).t)⟩:Lk)])=fL Lk.cells ((fJ (fM z.1.2 v (fun _=>(d,(fJ z.1.2 v).2++[fJ (iV n es v) z.1.1]))) v).1) 190 2 ((fJ (fM z.1.2 v (fun _=>(d,(fJ z.1.2 v).2++[fJ (iV n es v) z.1.1]))) v).2):=by rw[aY]
      exact⟨_,rfl,rfl,(⟨(z.1.1+1,fM z.1.2 v (fun _=>(d,(fJ z.1.2 v).2++[fJ (iV n es v) z.1.1]))),z.2.next aN aQ⟩:qK n es v H),rfl,yc [_,_,_,_,_] _ (yw 3 ac rfl a2)⟩
     have ad:=lC aZ (List.Perm.cons _ (List.Perm.cons _ (List.Perm.swap _ _ _)))
     have ae:=yg [0,2,4,5,1,3,6] ad
     have aU:=yc [_,_,_,_] _ ae
     refine CR.mono (Qh (fun(z:qK n es v H)=>gm (D1 (iT l rc) b a (fL iH a 188 1 z.1.2) ((fJ z.1.2 v).1) ((fJ z.1.2 v).2) g v)) (fun z:qK n es v H=>z.1.1) (⟨(0,H),tE.start aO aN⟩:qK n es v H) l h j F n q es v wl a3 rfl (ye aU 0 rfl) hn hg hm aN) ?_
     rintro _ w9 ⟨z,-,a0,a6⟩
     have aS:=yv (yk aU a6)
     have a4:=aS
     have af:=yg [0,8,1,2,3,4,9,5,6,7,10] a4
     exact⟨z,a0,af⟩
   . rintro z dd ag hC ah
     have aP:=z.2
     rw[hC]at aP
     have aW:=tE.done aO aP
     have ai:=yg [3,5,0,1,2,4,6,7,8,9] ah
     have aX:=aP.2.2.2.1
     have E:=ai
     rw[<-aX]at E
     have G:St _ [(kI Lk.cells 190 2 z.1.2),jK dd (some []),blk b 179 [a],fL iH a 188 1 z.1.2,blk g 3 (Zd v),blk h 31 (Zf F),blk j 3 (Zd v),(Gr.R F n q es),(sQ dl)] ag:=St.E0 E (by have:=aP.1;omega)
     refine r8 tt none G 7 ?_
     refine tN (?_)
     have aj:=yg [1,8,0,2,3,4,5,6,7] G
     have ak:=St.OC aj
     have al:=yg [2,3,1,0,7] ak
     exact NM ((v+1),z.1.2,(dd :: dl)) ⟨rfl,rfl,rfl,gj rO,trivial⟩ (⟨al,aW,o_⟩) (by show (n-(v+1):Nat)<n-v;omega)
 . skip
   have am:=yg [3,0,1,2,4] aM
   refine fP aM 17 ?_
   refine E7 _ am ?_
   intro w8 aS
   have a7:n=v:=by omega
   subst a7
   have an:=yg [3,1,2] aS
   exact⟨_,results_tmp Tryz.results88 _ _ _,_,rfl,by rw[qW];exact⟨a,H,rfl,tD.all aO,yi (yc [_,_,_] _ an)⟩⟩
end
end Go.Proofs.YtedjjkcihkmjgaaGreatDoor
