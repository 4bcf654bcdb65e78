/- Walks through the code, one theorem a function, under what is said of its arguments. -/
import Derived.Test.YtedjjkcihkmjgaaGreatDoorFb
import Derived.Test.YtedjjkcihkmjgaaGreatDoorVa
import Derived.Test.YtedjjkcihkmjgaaGreatDoorFd
import Derived.Test.YtedjjkcihkmjgaaGreatDoorVg
import Derived.Test.YtedjjkcihkmjgaaGreatDoorFc
import Derived.Test.YtedjjkcihkmjgaaGreatDoorVd
import Derived.Test.YtedjjkcihkmjgaaGreatDoorVe
import Derived.Test.YtedjjkcihkmjgaaGreatDoorVf
set_option linter.unusedVariables false
set_option linter.unusedSimpArgs false
set_option maxRecDepth 100000
set_option maxHeartbeats 4000000
namespace Go.Proofs.YtedjjkcihkmjgaaGreatDoor
open Go Go.Sx Go.Proofs.Tryz
variable{j n:Nat}{o:Obj}{u:Int}{w0:World}(fN fM F:Nat)(lv:Value)(w:World)
theorem Yd(ps:List Int)(t:Lt)(w:World)(F:nI w fN ps t)(Q:ko ps)(Y:ps.length<=8192)(hT:(j5 o).holds w)(an:∀ i,i<ps.length -> -1<=fJ ps i)(a b:Nat)(S:a<ps.length)(hb:b<ps.length) :
 CR ya 189 (Zv fN a b) w (fun r w' => ∃ (z:Nat) (B:Bool),r = .tuple (Z9 z B)/\sQ ps a b z B/\gx [] w w'):=by
 have ax:((List.range ps.length).map (gj ps)).length=ps.length:=by simp
 have aq:=I2 (ps:=ps) (i:=a)
 have av:=I2 (ps:=ps) (i:=b)
 have au:=I3 Q S
 have aw:=I3 Q hb
 refine enter (vs:=(Av fN a b)) func189 rfl ntmps189 rfl ?_
 have ag:=yu w
 have V:((List.range ps.length).map (gj ps))[a]? = some (gj ps a):=by simp[S]
 have W:((List.range ps.length).map (gj ps))[b]? = some (gj ps b):=by simp[hb]
 refine fR ag 11 ?_
 refine jw (vl:=(tS fN a)) rfl rfl eN (Fw fN ps t w F Q Y a o_) ?_
 rintro _ n ⟨rfl,y⟩
 have m:St _ [] n:=yr ag y
 refine fK m 4 ?_
 refine jw (vl:=(tS fN b)) rfl rfl eN (Fw fN ps t n (F.to m s_) Q Y b o_) ?_
 rintro _ C ⟨rfl,D⟩
 have E:St _ [] C:=yr m D
 refine gC E 12 fun G f=>?_
 refine ld (a:=⟨fN,1,none⟩) (v:=t.dv) rfl rfl yd rfl (lE f s_ F.b rfl) (fK f 1 ?_)
 refine iY (k:=a) (i:=(a:Int)) rfl rfl rfl yd gq F.d o_ o_ V (jk (u:=(Za (((gj ps a):Nat):Int))) rfl rfl yg rfl (yz f s_ d_ F.d) V rfl (fK f 3 ?_))
 refine ld (a:=⟨fN,1,none⟩) (v:=t.dv) rfl rfl yd rfl (lE f s_ F.b rfl) (fK f 1 ?_)
 refine iY (k:=b) (i:=(b:Int)) rfl rfl rfl yd gq F.d o_ o_ W (jk (u:=(Za (((gj ps b):Nat):Int))) rfl rfl yg rfl (yz f s_ d_ F.d) W rfl (min2 (a:=(((gj ps a):Nat):Int)) (b:=(((gj ps b):Nat):Int)) (c:=(((min (gj ps a) (gj ps b)):Nat):Int)) rfl rfl rfl FP (fK f 10 ?_)))
 refine ld (a:=⟨fN,1,none⟩) (v:=t.dv) rfl rfl yd rfl (lE f s_ F.b rfl) (fK f 1 ?_)
 refine iY (k:=a) (i:=(a:Int)) rfl rfl rfl yd gq F.d o_ o_ V (jk (u:=(Za (((gj ps a):Nat):Int))) rfl rfl yg rfl (yz f s_ d_ F.d) V rfl (fK f 1 ?_))
 refine ar (a:=(((gj ps a):Nat):Int)) (b:=(((min (gj ps a) (gj ps b)):Nat):Int)) (c:=(((gj ps a):Nat):Int)-(((min (gj ps a) (gj ps b)):Nat):Int)) (e:=((gj ps a-(min (gj ps a) (gj ps b)):Nat):Int)) rfl rfl rfl rfl (by rw[kP o_];omega) (jw (vl:=(Av fN a ((gj ps a-(min (gj ps a) (gj ps b)):Nat):Int))) rfl rfl eN (Ph fN ps t G (F.to f s_) Q Y (St.wA f (X:=[]) s_ hT s_) a (gj ps a-(min (gj ps a) (gj ps b))) o_ o_) ?_)
 rintro _ q ⟨rfl,H⟩
 have h:St _ [] q:=yr f H
 refine fK h 13 ?_
 refine ld (a:=⟨fN,1,none⟩) (v:=t.dv) rfl rfl yd rfl (lE h s_ F.b rfl) (fK h 1 ?_)
 refine iY (k:=b) (i:=(b:Int)) rfl rfl rfl yd gq F.d o_ o_ W (jk (u:=(Za (((gj ps b):Nat):Int))) rfl rfl yg rfl (yz h s_ d_ F.d) W rfl (fK h 1 ?_))
 refine ar (a:=(((gj ps b):Nat):Int)) (b:=(((min (gj ps a) (gj ps b)):Nat):Int)) (c:=(((gj ps b):Nat):Int)-(((min (gj ps a) (gj ps b)):Nat):Int)) (e:=((gj ps b-(min (gj ps a) (gj ps b)):Nat):Int)) rfl rfl rfl rfl (by rw[kP o_];omega) (jw (vl:=(Av fN b ((gj ps b-(min (gj ps a) (gj ps b)):Nat):Int))) rfl rfl eN (Ph fN ps t q (F.to h s_) Q Y (St.wA h (X:=[]) s_ hT s_) b (gj ps b-(min (gj ps a) (gj ps b))) o_ o_) ?_)
 rintro _ I ⟨rfl,J⟩
 have l:St _ [] I:=yr h J
 refine fK l 11 ?_
 by_cases K:((gM ps (gj ps a-(min (gj ps a) (gj ps b))) a:Nat):Int)=((gM ps (gj ps b-(min (gj ps a) (gj ps b))) b:Nat):Int)
 . refine fP l 13 ?_
   refine gZ (v:=(Za ((gM ps (gj ps a-(min (gj ps a) (gj ps b))) a:Nat):Int))) (v' := Zg) results189 rfl rfl ?_
   exact⟨_,true,rfl,VI Q S hb o_,l.gA s_⟩
 . obtain⟨U,ah,_⟩:=qI Q S (k:=gj ps a-(min (gj ps a) (gj ps b))) o_
   obtain⟨aa,ai,_⟩:=qI Q hb (k:=gj ps b-(min (gj ps a) (gj ps b))) o_
   have ad:gM ps (gj ps a-(min (gj ps a) (gj ps b))) a≠gM ps (gj ps b-(min (gj ps a) (gj ps b))) b:=by omega
   obtain⟨A,Z⟩:∃ A,A=gM ps (gj ps a-(min (gj ps a) (gj ps b))) a:=⟨_,rfl⟩
   obtain⟨B,ab⟩:∃ B,B=gM ps (gj ps b-(min (gj ps a) (gj ps b))) b:=⟨_,rfl⟩
   refine fK l 1 ?_
   rw[<-Z]at U ah ad ⊢
   rw[<-ab]at aa ai ad ⊢
   refine gF l 12 ?_
   refine lp (α:=Nat×Nat) (fun(j,s)=>[(0,(Zb fN)),(1,(Za ((gM ps s A:Nat):Int))),(2,(Za ((gM ps s B:Nat):Int))),(9,(Za ((j:Int)-1)))]) (fun(j,s) w1=>St [(w,[])] [] w1/\pW ps A B (min (gj ps a) (gj ps b)) j s/\j<=13) (fun(j,s)=>j) (13,0) ⟨rfl,gm (by first|rfl|omega),gm (by first|rfl|omega),gm (by first|rfl|omega),trivial⟩ (⟨l,pW.start ad o_,o_⟩) ?_
   rintro⟨j,s⟩ L M ⟨R,T,ay⟩
   have aA:=T.le
   obtain⟨aD,aE,_⟩:=qI Q U (k:=s) o_
   obtain⟨aF,aG,_⟩:=qI Q aa (k:=s) o_
   refine fR R 4 ?_
   by_cases N:(((j:Int)-1):Int)≥0
   . have az:=AZ (ps:=ps) (k:=j-1)
     have ae:(jy ps (j-1))[(gM ps s A)]? = some (fJ (jy ps (j-1)) (gM ps s A)):=gz o_
     have af:(jy ps (j-1))[(gM ps s B)]? = some (fJ (jy ps (j-1)) (gM ps s B)):=gz o_
     have aj:pW ps A B (min (gj ps a) (gj ps b)) (j-1+1) s:=by rw[Nat.sub_add_cancel o_];exact T
     obtain⟨ao,ap⟩:=aj.next Q an U aa o_ o_
     refine gC R 14 fun O g=>?_
     refine ic (o:=2) (o' := 2+(j-1)) (i:=((j:Int)-1)) rfl rfl rfl rE kz o_ (by first|omega|(simp only[nG];omega)) (ld (a:=⟨fN,2+(j-1),none⟩) (v:=((fJ t.jl (j-1)).1)) rfl rfl yd rfl (lE g s_ F.b2 (wz (by rw[F.ok.len];omega) rfl)) (fK g 1 ?_))
     refine iY (k:=(gM ps s A)) (i:=((gM ps s A:Nat):Int)) rfl rfl rfl yd gq (F.r (j-1) o_) o_ o_ ae (jk (u:=(Za (fJ (jy ps (j-1)) (gM ps s A)))) rfl rfl yg rfl (yz g s_ d_ (F.r (j-1) o_)) ae rfl (fK g 4 ?_))
     refine ic (o:=2) (o' := 2+(j-1)) (i:=((j:Int)-1)) rfl rfl rfl rE kz o_ (by first|omega|(simp only[nG];omega)) (ld (a:=⟨fN,2+(j-1),none⟩) (v:=((fJ t.jl (j-1)).1)) rfl rfl yd rfl (lE g s_ F.b2 (wz (by rw[F.ok.len];omega) rfl)) (fK g 1 ?_))
     refine iY (k:=(gM ps s B)) (i:=((gM ps s B:Nat):Int)) rfl rfl rfl yd gq (F.r (j-1) o_) o_ o_ af (jk (u:=(Za (fJ (jy ps (j-1)) (gM ps s B)))) rfl rfl yg rfl (yz g s_ d_ (F.r (j-1) o_)) af rfl (fK g 8 ?_))
     by_cases x:((fJ (jy ps (j-1)) (gM ps s A)):Int)=((fJ (jy ps (j-1)) (gM ps s B)):Int)
     . have ac:=ao x
       refine fK g 9 ?_
       refine ar (a:=((j:Int)-1)) (b:=1) (c:=((j:Int)-1)-1) (e:=((j:Int)-1-1)) rfl rfl rfl rfl (kP o_) (fP g 2 ?_)
       refine tN (?_)
       exact again ((j-1),s) ⟨rfl,rfl,rfl,gm (by first|rfl|omega),trivial⟩ (⟨g,ac,o_⟩) (by show ((j-1):Nat)<j;omega)
     . obtain⟨ac,aB,aC⟩:=ap x
       refine fK g 14 ?_
       refine ar (a:=((j:Int)-1)) (b:=1) (c:=((j:Int)-1)-1) (e:=((j:Int)-1-1)) rfl rfl rfl rfl (kP o_) (fP g 2 ?_)
       refine tN (?_)
       exact again ((j-1),(s+2 ^ (j-1))) ⟨rfl,gm (by first|rfl|omega),gm (by first|rfl|omega),gm (by first|rfl|omega),trivial⟩ (⟨g,ac,o_⟩) (by show ((j-1):Nat)<j;omega)
   . have am:j=0:=by omega
     refine fK R 1 ?_
     subst am
     obtain⟨ak,al⟩:=T.fin Q U o_
     refine fK R 14 ?_
     refine ic (o:=2) (o' := 2) (i:=0) rfl rfl rfl rE kz d_ rfl (ld (a:=⟨fN,2,none⟩) (v:=((fJ t.jl 0).1)) rfl rfl yd rfl (lE R s_ F.b rfl) (fK R 1 ?_))
     refine iY (k:=(gM ps s A)) (i:=((gM ps s A:Nat):Int)) rfl rfl rfl yd gq F.p o_ o_ (gz o_) (jk (u:=(Za (fJ ps (gM ps s A)))) rfl rfl yg rfl (yz R s_ d_ F.p) (gz o_) rfl ?_)
     by_cases P:((fJ ps (gM ps s A)):Int)<0
     . refine fP R 12 ?_
       refine gZ (v:=Zc) (v' := Zn) results189 rfl rfl ?_
       exact⟨0,false,rfl,VJ Q S hb Z ab T (ak o_),R.gA s_⟩
     . refine fK R 11 ?_
       refine ic (o:=2) (o' := 2) (i:=0) rfl rfl rfl rE kz d_ rfl (ld (a:=⟨fN,2,none⟩) (v:=((fJ t.jl 0).1)) rfl rfl yd rfl (lE R s_ F.b rfl) (fK R 1 ?_))
       refine iY (k:=(gM ps s A)) (i:=((gM ps s A:Nat):Int)) rfl rfl rfl yd gq F.p o_ o_ (gz o_) (jk (u:=(Za (fJ ps (gM ps s A)))) rfl rfl yg rfl (yz R s_ d_ F.p) (gz o_) rfl (fP R 5 ?_))
       refine gZ (v:=(Za (fJ ps (gM ps s A)))) (v' := Zg) results189 rfl rfl ?_
       obtain⟨f1,f2,f3⟩:=al o_
       exact⟨gM ps (s+1) A,true,by rw[f2],VK Q S hb Z ab T f1 f3,R.gA s_⟩
structure Mf where
 bt:Nat
 tb:Nat
 t:Lt
 f:List Nat
 lv:Value
 rv:Value
 pv:Value
 hv:Value
 sv:Value
 fv:Value
 mp:Nat
def Mf.R(mb n:Nat)(es:List Ge)(q:Mf):fT:=lq (iE es n q.f) (gh [blk mb 234 (Zf q.bt),blk q.bt 231 [(Zb q.tb),(Za n),q.lv,q.rv,q.pv,q.hv,q.sv,q.fv,(.map (some q.mp))],(Lt.R q.tb (gd es n q.f).p q.t),fL gi q.lv 3 1 ((gd es n q.f).l),fL gi q.rv 3 1 ((gd es n q.f).r),fL gi q.pv 3 1 ((gd es n q.f).p),fL gi q.hv 2 1 ((gd es n q.f).h),fL fU q.sv 3 1 ((gd es n q.f).s)])
theorem ZY(v:Value)(n:Nat)(es:List Ge)(w:World)(hv:gY 3 Ge.cells (fun _=>True) w v es)(hg:lQ n es)(hn:n<=4096)(hm:es.length<=16384) :
 CR ya 184 (uR n v) w (fun r w' => ∃ (mb:Nat) (q:Mf),r = .tuple (Zz mb)/\fV (gh []) w w' (Mf.R mb n es q)):=by
 refine en func184 ntmps184 ?_
 have a7:=yu w
 refine fR a7 10 ?_
 refine cl (Ky v n es w hv hg hn hm) ?_
 rintro _ aw ⟨d,t,y,o,T,z,rfl,ac,ht⟩
 have P:=yy (jm a7 ht)
 have a1:iE es n d:=⟨hg,ac⟩
 have be:=a1.f.room a1.g
 obtain⟨bh,bi,bj,bk,bl⟩:=nY (es:=es) (n:=n) (f:=d)
 have a9:=a1.vp
 have a8:=a1.Kr
 refine fK P 3 ?_
 refine iR P (fun G ax ay az H=>?_)
 refine jt 0 H (fun ad N=>?_) (h1:=(gX rfl (gX (yv H (i:=1) rfl) (gX (yv H (i:=2) rfl) (gX (yv H (i:=3) rfl) (gX (yv H (i:=4) rfl) (gX (yv H (i:=5) rfl) jV)))))))
 refine fK N 17 ?_
 refine cl (OR v n es ad (yz N s_ d_ hv) hg hn hm) ?_
 rintro _ ae ⟨A,b,rfl,af,ht⟩
 have O:=(jm N ht)
 have a5:=af
 have bd:=a5.len
 refine fK O 21 ?_
 refine cl (Pe o (gd es n d).p ae (iN O 4 rfl).any a9 a8 o_) ?_
 rintro _ aA ⟨B,D,rfl,ht⟩
 have Q:=(jm O ht)
 refine fK Q 22 ?_
 refine mkV (Prod.fst:Value×List jN->Value) .i64 rfl rfl Q (fun j aB aC aD S=>iU (pvs:=[(0,(Zb B)),(1,(B5 n t y o T z)),(2,A),(3,(.map (some j)))]) (v:=.agg #[(Zb B),(Za n),t,y,o,T,z,A,(.map (some j))]) rfl rfl (jj [(0,(Zf B)),(1,(Zs n t y o T z)),(2,[A]),(3,[(.map (some j))])] SK abv rfl ⟨rfl,rfl,rfl,rfl,rfl,(cells_one (yv S (i:=2) rfl)),rfl,rfl,trivial⟩ rfl) (ir S (fun C ag aE aF I=>?_)))
 refine fK I 7 ?_
 refine iV (m:=b.length) 3 rfl rfl yd I rfl ?_
 have ah:St _ [oU jN.cells 2 373 ([]),blk C 231 [(Zb B),(Za n),t,y,o,T,z,A,(.map (some j))],ia j .i64 (Prod.fst:Value×List jN->Value) ([]),(Lt.R B (gd es n d).p D),fL fU A 3 1 b,blk G 102 (Zs n t y o T z),fL gi t 3 1 ((gd es n d).l),fL gi y 3 1 ((gd es n d).r),fL gi o 3 1 ((gd es n d).p),fL gi T 2 1 ((gd es n d).h),fL fU z 3 1 ((gd es n d).s)] ag:=St.W4 I
 have ai:=yf [1,4,2,0,3,5,6,7,8,9,10] ah
 refine gF I 4 ?_
 refine lp (α:=Nat×AM) (fun(k,F)=>[(1,v),(10,(Zb C)),(48,A),(49,(Za b.length)),(50,(Za k))]) (fun(k,F) w1=>St [(w,[])] [blk C 231 [(Zb B),(Za n),t,y,o,T,z,A,(.map (some j))],fL fU A 3 1 b,ia j .i64 (Prod.fst:Value×List jN->Value) F,oU jN.cells 2 373 F,(Lt.R B (gd es n d).p D),blk G 102 (Zs n t y o T z),fL gi t 3 1 ((gd es n d).l),fL gi y 3 1 ((gd es n d).r),fL gi o 3 1 ((gd es n d).p),fL gi T 2 1 ((gd es n d).h),fL fU z 3 1 ((gd es n d).s)] w1/\k<=b.length/\∀ c,(fS F c).2.length<=2*k) (fun(k,F)=>b.length-k) (0,[]) ⟨rfl,rfl,rfl,rfl,gm rO,trivial⟩ (⟨ai,o_,W7⟩) ?_
 rintro⟨k,F⟩ aG aH ⟨a2,hk,a3⟩
 refine fR a2 2 ?_
 by_cases aI:(k:Int)<(b.length:Int)
 . have ba:k<b.length:=by omega
   have bc:fJ b k<es.length:=a5.lt (ze (gz ba))
   have a6:=hg.at bc
   have bf:=a6.1
   have bg:=a6.2.1
   refine ux a2 33 fun aJ aj=>?_
   have ak:=yf [3,0,1,2,4,5,6,7,8,9,10] aj
   have al:=St.OC ((fJ es (fJ b k)).u:Int) ak
   refine kq mixed [([0,1,2,3,4,5,6,7,8,9,10,11,12,13,14],[3,8,10]),([15],[3])] [16] al (fun aK J=>jx ?_)
   refine fK J 10 ?_
   refine qh (a:=((fJ es (fJ b k)).u:Int)) (mm:=F) (enc:=(Prod.fst:Value×List jN->Value)) (k:=.i64) 4 rfl rfl rfl zL yg Dw rfl J rfl (fK J 2 ?_)
   refine iU (pvs:=[(0,(Za (((fJ b k):Nat):Int))),(1,(Za ((fJ es (fJ b k)).v:Int)))]) (v:=.agg (Z0 (((fJ b k):Nat):Int) ((fJ es (fJ b k)).v:Int))) rfl rfl (jj [(0,(Ze (((fJ b k):Nat):Int))),(1,(Ze ((fJ es (fJ b k)).v:Int)))] zF QW rfl ⟨rfl,rfl,rfl,rfl,trivial⟩ rfl) (jW (vs:=(Ib (((fJ b k):Nat):Int) ((fJ es (fJ b k)).v:Int))) (cs:=(Zr (((fJ b k):Nat):Int) ((fJ es (fJ b k)).v:Int))) rfl rfl Hi zF rfl (by simp[Value.cells]) rfl rfl rfl J (fun an aL aM aN K=>fP K 1 ?_))
   refine pe (kZ rfl oE (kZ rfl oE (kZ rfl (qo (yG (a:=((fJ es (fJ b k)).u:Int)) (mm:=F) (enc:=(Prod.fst:Value×List jN->Value)) (k:=.i64) 5 rfl rfl zL yg Dw rfl K rfl) rfl rfl) (trivial)))) (jx ?_)
   refine lR (cf:=jN.cells) (ys:=(fS F ((fJ es (fJ b k)).u:Int)).2) (zs:=[(tV b k es)]) (LL:=fun e=>(MF (row (.slice (some ⟨an,0,none⟩) 1 1) 373 2 1 ([(.int .i64 (((fJ b k):Nat):Int)),(.int .i64 ((fJ es (fJ b k)).v:Int))])) e (((fS F ((fJ es (fJ b k)).u:Int)).2)++[(⟨(fJ b k),((fJ es (fJ b k)).v)⟩:jN)]) (oU jN.cells 2 373 (iL F ((fJ es (fJ b k)).u:Int))) C B n t y o T z A (some j) b j F (gd es n d) D G)) 1 rfl rfl rfl Hi zF rfl d_ K rfl (lF K (i:=0) rfl) (fun x hx=>z6.1 (show List.all _ _=true from rfl) x hx) (by simp only[zh,zk,maxLen];have h7:=a3 ((fJ es (fJ b k)).u:Int);omega) (by simp only[zh,zk,maxLen];have h7:=a3 ((fJ es (fJ b k)).u:Int);omega) f_ ?_
   intro e aO ao aP
   have U:=yf [1,2,3,4,5,6,7,8,9,10,11,12] ao
   refine fP U 1 ?_
   refine jZ (kE ?_)
   refine qD (a:=((fJ es (fJ b k)).u:Int)) (c:=(e,((fS F ((fJ es (fJ b k)).u:Int)).2)++[(tV b k es)])) (mm:=F) (enc:=(Prod.fst:Value×List jN->Value)) (k:=.i64) (L' := (M5 e (((fS F ((fJ es (fJ b k)).u:Int)).2)++[(⟨(fJ b k),((fJ es (fJ b k)).v)⟩:jN)]) (oU jN.cells 2 373 (iL F ((fJ es (fJ b k)).u:Int))) C B n t y o T z A (some j) b j (gr F ((fJ es (fJ b k)).u:Int) (e,((fS F ((fJ es (fJ b k)).u:Int)).2)++[(⟨(fJ b k),((fJ es (fJ b k)).v)⟩:jN)])) (gd es n d) D G)) 4 rfl rfl rfl rfl zL yg U rfl rfl (fun aQ V=>fP V 1 ?_)
   have W:=St.OB V
   have a4:=OD a3 ((fJ es (fJ b k)).u:Int) e (tV b k es)
   refine QD tt none W 1 ?_
   have ap:=St.OC ((fJ es (fJ b k)).v:Int) W
   refine kq mixed [([0,1,2,3,4,5,6,7,8,9,10,11,12,13,14],[3,8,10]),([15],[3])] [16] ap (fun aR L=>jx ?_)
   refine fK L 10 ?_
   refine qh (a:=((fJ es (fJ b k)).v:Int)) (mm:=(gr F ((fJ es (fJ b k)).u:Int) (e,((fS F ((fJ es (fJ b k)).u:Int)).2)++[(tV b k es)]))) (enc:=(Prod.fst:Value×List jN->Value)) (k:=.i64) 4 rfl rfl rfl zL yg Dw rfl L rfl (fK L 2 ?_)
   refine iU (pvs:=[(0,(Za (((fJ b k):Nat):Int))),(1,(Za ((fJ es (fJ b k)).u:Int)))]) (v:=.agg (Z0 (((fJ b k):Nat):Int) ((fJ es (fJ b k)).u:Int))) rfl rfl (jj [(0,(Ze (((fJ b k):Nat):Int))),(1,(Ze ((fJ es (fJ b k)).u:Int)))] zF QW rfl ⟨rfl,rfl,rfl,rfl,trivial⟩ rfl) (jW (vs:=(Ib (((fJ b k):Nat):Int) ((fJ es (fJ b k)).u:Int))) (cs:=(Zr (((fJ b k):Nat):Int) ((fJ es (fJ b k)).u:Int))) rfl rfl Hi zF rfl (by simp[Value.cells]) rfl rfl rfl L (fun aq aS aT aU M=>fP M 1 ?_))
   refine pe (kZ rfl oE (kZ rfl oE (kZ rfl (qo (yG (a:=((fJ es (fJ b k)).v:Int)) (mm:=(gr F ((fJ es (fJ b k)).u:Int) (e,((fS F ((fJ es (fJ b k)).u:Int)).2)++[(tV b k es)]))) (enc:=(Prod.fst:Value×List jN->Value)) (k:=.i64) 5 rfl rfl zL yg Dw rfl M rfl) rfl rfl) (trivial)))) (jx ?_)
   refine lR (cf:=jN.cells) (ys:=(fS (gr F ((fJ es (fJ b k)).u:Int) (e,((fS F ((fJ es (fJ b k)).u:Int)).2)++[(tV b k es)])) ((fJ es (fJ b k)).v:Int)).2) (zs:=[(EH b k es)]) (LL:=fun E=>(MF (row (.slice (some ⟨aq,0,none⟩) 1 1) 373 2 1 ([(.int .i64 (((fJ b k):Nat):Int)),(.int .i64 ((fJ es (fJ b k)).u:Int))])) E (((fS (gr F ((fJ es (fJ b k)).u:Int) (e,((fS F ((fJ es (fJ b k)).u:Int)).2)++[(⟨(fJ b k),((fJ es (fJ b k)).v)⟩:jN)])) ((fJ es (fJ b k)).v:Int)).2)++[(⟨(fJ b k),((fJ es (fJ b k)).u)⟩:jN)]) (oU jN.cells 2 373 (iL (gr F ((fJ es (fJ b k)).u:Int) (e,((fS F ((fJ es (fJ b k)).u:Int)).2)++[(⟨(fJ b k),((fJ es (fJ b k)).v)⟩:jN)])) ((fJ es (fJ b k)).v:Int))) C B n t y o T z A (some j) b j (gr F ((fJ es (fJ b k)).u:Int) (e,((fS F ((fJ es (fJ b k)).u:Int)).2)++[(⟨(fJ b k),((fJ es (fJ b k)).v)⟩:jN)])) (gd es n d) D G)) 1 rfl rfl rfl Hi zF rfl d_ M rfl (lF M (i:=0) rfl) (fun x hx=>z6.1 (show List.all _ _=true from rfl) x hx) (by simp only[zh,zk,maxLen];have h7:=a4 ((fJ es (fJ b k)).v:Int);omega) (by simp only[zh,zk,maxLen];have h7:=a4 ((fJ es (fJ b k)).v:Int);omega) f_ ?_
   intro E aV ar aW
   have X:=yf [1,2,3,4,5,6,7,8,9,10,11,12] ar
   refine fP X 1 ?_
   refine jZ (kE ?_)
   refine qD (a:=((fJ es (fJ b k)).v:Int)) (c:=(E,((fS (gr F ((fJ es (fJ b k)).u:Int) (e,((fS F ((fJ es (fJ b k)).u:Int)).2)++[(tV b k es)])) ((fJ es (fJ b k)).v:Int)).2)++[(EH b k es)])) (mm:=(gr F ((fJ es (fJ b k)).u:Int) (e,((fS F ((fJ es (fJ b k)).u:Int)).2)++[(tV b k es)]))) (enc:=(Prod.fst:Value×List jN->Value)) (k:=.i64) (L' := (M5 E (((fS (gr F ((fJ es (fJ b k)).u:Int) (e,((fS F ((fJ es (fJ b k)).u:Int)).2)++[(⟨(fJ b k),((fJ es (fJ b k)).v)⟩:jN)])) ((fJ es (fJ b k)).v:Int)).2)++[(⟨(fJ b k),((fJ es (fJ b k)).u)⟩:jN)]) (oU jN.cells 2 373 (iL (gr F ((fJ es (fJ b k)).u:Int) (e,((fS F ((fJ es (fJ b k)).u:Int)).2)++[(⟨(fJ b k),((fJ es (fJ b k)).v)⟩:jN)])) ((fJ es (fJ b k)).v:Int))) C B n t y o T z A (some j) b j (gr (gr F ((fJ es (fJ b k)).u:Int) (e,((fS F ((fJ es (fJ b k)).u:Int)).2)++[(⟨(fJ b k),((fJ es (fJ b k)).v)⟩:jN)])) ((fJ es (fJ b k)).v:Int) (E,((fS (gr F ((fJ es (fJ b k)).u:Int) (e,((fS F ((fJ es (fJ b k)).u:Int)).2)++[(⟨(fJ b k),((fJ es (fJ b k)).v)⟩:jN)])) ((fJ es (fJ b k)).v:Int)).2)++[(⟨(fJ b k),((fJ es (fJ b k)).u)⟩:jN)])) (gd es n d) D G)) 4 rfl rfl rfl rfl zL yg X rfl rfl (fun aX Y=>fP Y 1 ?_)
   have Z:=St.OB Y
   have bb:=OD a4 ((fJ es (fJ b k)).v:Int) E (EH b k es)
   refine wR tt none Z 6 ?_
   refine tN (?_)
   have au:=yf [1,2,3,0,4,5,6,7,8,9,10] Z
   exact again ((k+1),(gr (gr F ((fJ es (fJ b k)).u:Int) (e,((fS F ((fJ es (fJ b k)).u:Int)).2)++[(tV b k es)])) ((fJ es (fJ b k)).v:Int) (E,((fS (gr F ((fJ es (fJ b k)).u:Int) (e,((fS F ((fJ es (fJ b k)).u:Int)).2)++[(tV b k es)])) ((fJ es (fJ b k)).v:Int)).2)++[(EH b k es)]))) ⟨rfl,rfl,rfl,rfl,gm rO,trivial⟩ (⟨au,o_,bb⟩) (by show (b.length-(k+1):Nat)<b.length-k;omega)
 . refine fK a2 13 ?_
   refine iU (pvs:=[(0,(Zb C))]) (v:=.agg (Zh C)) rfl rfl (jj [(0,(Zf C))] SN abw rfl ⟨rfl,rfl,trivial⟩ rfl) (ir a2 (fun aa aY aZ a0 ab=>?_))
   refine fP ab 5 ?_
   refine gZ (v:=(Zb aa)) (v' := Zc) results184 rfl rfl ?_
   have av:=yf [0,1,5,7,8,9,10,11] ab
   exact⟨aa,(⟨C,B,D,d,t,y,o,T,z,A,j⟩:Mf),rfl,uE (yn (p:=iE es n d) (yc [_,_,_,_,_,_,_,_] _ av) a1) s_⟩
structure uP (w:World) (mb n:Nat) (es:List Ge) (q:Mf):Prop where
 fg:iE es n q.f
 b1:(blk mb 234 (Zf q.bt)).holds w
 b2:(blk q.bt 231 [(Zb q.tb),(Za n),q.lv,q.rv,q.pv,q.hv,q.sv,q.fv,(.map (some q.mp))]).holds w
 t:nI w q.tb (gd es n q.f).p q.t
 r:nu w es n q.f q.lv q.rv q.pv q.hv q.sv
theorem uP.of{w:World}{es:List Ge}{q:Mf}(a:Own (Mf.R j n es q) w):uP w j n es q:=by
 have h:=Own.of a.un
 exact⟨a.fact,St.at h (i:=0) rfl,St.at h (i:=1) rfl,nI.of (ye h 2 rfl),⟨(iN h 3 rfl).any,(iN h 4 rfl).any,(iN h 5 rfl).any,(iN h 6 rfl).any,(iN h 7 rfl).any⟩⟩
theorem uP.to{bs:List (World×List Nat)}{L:List fT}{w:World}{es:List Ge}{q:Mf}(h:uP w0 j n es q)(hs:St bs L w)(hb:(w0,[])∈bs):uP w j n es q :=
 ⟨h.fg,St.x8 hs hb h.b1,St.x8 hs hb h.b2,h.t.to hs hb,h.r.to hs hb⟩
theorem J5(n:Nat)(es:List Ge)(q:Mf)(w:World)(d:uP w fN n es q)(m:n<=4096)(x:Nat)(o:x<n) :
 CR ya 113 (Zm fN x) w (fun r w' => r = .bool true/\gx [] w w'):=by
 obtain⟨h,i,j,k,l⟩:=nY (es:=es) (n:=n) (f:=q.f)
 have e:=d.fg.f.room d.fg.g
 refine en func113 ntmps113 ?_
 have b:=yu w
 refine fR b 8 ?_
 refine lI (a:=some ⟨fN,0,none⟩) (c:=true) rfl rfl rfl underlying104 rfl (fK b 4 ?_)
 refine ld rfl rfl DG rfl (lE b s_ d.b1 rfl) (lI (a:=some ⟨q.bt,0,none⟩) (c:=true) rfl rfl rfl DG rfl (fK b 3 ?_))
 refine cmp rfl rfl rfl (ow o_) (fK b 6 ?_)
 refine ld rfl rfl DG rfl (lE b s_ d.b1 rfl) (fK b 3 ?_)
 refine ld rfl rfl yg rfl (lE b s_ d.b2 rfl) (cmp rfl rfl rfl (p8 o_) (fP b 5 ?_))
 refine gf (v:=Zg) results113 rfl ?_
 exact⟨rfl,b.gA s_⟩
theorem ZZ(n:Nat)(es:List Ge)(q:Mf)(w:World)(y:uP w fN n es q)(C:n<=4096)(E:(j5 o).holds w)(u v:Nat)(L:u<n)(hv:v<n) :
 CR ya 114 (Zv fN u v) w (fun r w' => ∃ (z:Nat) (B:Bool),r = .tuple (Z9 z B)/\((u=v->z=0/\B=false)/\(u≠v->sQ (gd es n q.f).p u v z B))/\gx [] w w'):=by
 obtain⟨G,H,I,J,K⟩:=nY (es:=es) (n:=n) (f:=q.f)
 have F:=y.fg.f.room y.fg.g
 refine en func114 ntmps114 ?_
 have D:=yu w
 refine fR D 11 ?_
 refine cl (J5 fN n es q w y C u o_) ?_
 rintro _ h ⟨rfl,i⟩
 have b:=yr D i
 refine fK b 4 ?_
 refine cl (J5 fN n es q h (y.to b s_) C v o_) ?_
 rintro _ j ⟨rfl,k⟩
 have a:=yr b k
 refine fK a 5 ?_
 by_cases s:(u:Int)=(v:Int)
 . refine fP a 13 ?_
   refine gZ (v:=Zc) (v' := Zn) results114 rfl rfl ?_
   exact⟨0,false,rfl,⟨fun _=>⟨rfl,rfl⟩,fun A=>absurd o_ A⟩,a.gA s_⟩
 . refine fK a 12 ?_
   refine ld rfl rfl DG rfl (lE a s_ y.b1 rfl) (fK a 2 ?_)
   refine ld rfl rfl zK rfl (lE a s_ y.b2 rfl) (fK a 2 ?_)
   refine cl (Yd q.tb (gd es n q.f).p q.t j (y.to a s_).t y.fg.vp o_ (St.wA a (X:=[]) s_ E s_) y.fg.Kr u v o_ o_) ?_
   rintro _ x ⟨c,d,rfl,l,m⟩
   have e:=yr a m
   refine fP e 7 ?_
   refine gZ (v:=(Za c)) (v' := (.bool d)) results114 rfl rfl ?_
   exact⟨c,d,rfl,⟨fun A=>absurd A o_,fun _=>l⟩,e.gA s_⟩
theorem sQ.lt{ps:List Int}{a b z:Nat}{B:Bool}(hp:ko ps)(h:sQ ps a b z B)(e:a<ps.length)(hb:0<ps.length):z<ps.length:=by
 rcases h with ⟨_,s,t,c,_,d,_⟩|⟨_,h,_⟩
 . rw[<-d]
   exact(qI hp e c).1
 . omega
theorem aaa(n:Nat)(es:List Ge)(q:Mf)(w:World)(A:uP w fN n es q)(C:n<=4096)(E:(j5 o).holds w)(u v:Nat)(F:u<n)(hv:v<n) :
 CR ya 63 (Zv fN u v) w (fun r w' => ∃ (θ:Int) (B:Bool),r = .tuple (Z9 θ B)/\((u=v->θ = -9223372036854775808/\B=true)/\(u≠v->∃ z,sQ (gd es n q.f).p u v z B/\(B=true->θ=fJ (gd es n q.f).h z)/\(B=false->θ=0)))/\gx [] w w'):=by
 obtain⟨I,J,K,L,M⟩:=nY (es:=es) (n:=n) (f:=q.f)
 have H:=A.fg.f.room A.fg.g
 refine en func63 ntmps63 ?_
 have D:=yu w
 refine fR D 11 ?_
 refine cl (J5 fN n es q w A C u o_) ?_
 rintro _ j ⟨rfl,l⟩
 have b:=yr D l
 refine fK b 3 ?_
 by_cases t:(u:Int)=(v:Int)
 . refine fP b 13 ?_
   refine gZ (v:=(Za (-9223372036854775808))) (v' := Zg) results63 rfl rfl ?_
   exact⟨_,true,rfl,⟨fun _=>⟨rfl,rfl⟩,fun y=>absurd o_ y⟩,b.gA s_⟩
 . refine fK b 12 ?_
   refine cl (ZZ fN n es q j (A.to b s_) C (St.wA b (X:=[]) s_ E s_) u v F hv) ?_
   rintro _ x ⟨c,m,rfl,d,s⟩
   have a:=yr b s
   refine gF a 14 ?_
   cases e:(m:Bool)
   . skip
     subst e
     refine iT a 9 ?_
     refine gZ (v:=Zc) (v' := Zn) results63 rfl rfl ?_
     exact⟨0,false,rfl,⟨fun y=>absurd y o_,fun y=>⟨_,d.2 y,fun h=>absurd h d_,fun _=>rfl⟩⟩,a.gA s_⟩
   . skip
     subst e
     have N:c<n+q.f.length:=by have G:=sQ.lt A.fg.vp (d.2 o_) o_ o_;omega
     refine fR a 8 ?_
     refine ld rfl rfl DG rfl (lE a s_ A.b1 rfl) (fK a 3 ?_)
     refine ld rfl rfl n9 rfl (lE a s_ A.b2 rfl) (fK a 1 ?_)
     refine iY (k:=c) (i:=(c:Int)) rfl rfl rfl n9 ti2 A.r.h o_ o_ (gz o_) (jk rfl rfl zQ rfl (yz a s_ d_ A.r.h) (gz o_) rfl (fP a 5 ?_))
     refine gZ (v:=(Za (fJ (gd es n q.f).h c))) (v' := Zg) results63 rfl rfl ?_
     exact⟨_,true,rfl,⟨fun y=>absurd y o_,fun y=>⟨_,d.2 y,fun _=>rfl,fun h=>absurd h d_⟩⟩,a.gA s_⟩
theorem T1(m:Nat)(ed:Int)(xs:List Nd)(w:World)(x:Own (Zk fN fM m ed xs) w)(hm:xs.length=m)(hb:m<=1000001)(t:fZ xs)(F:FT)(s:Fo xs F)(v:Nat)(hv:v+1<m) :
 CR ya 251 (Zm fN v) w (fun r w' => ∃ (d:Int) (zs:List Nd) (F2:FT),r = .int .i64 d/\Fo zs F2/\fZ zs/\zs.length=m/\(∀ u v,Ad (gw zs F2) u v↔Ad (gw xs F) u v)/\(∀ k,(fJ zs k).key=(fJ xs k).key)/\fV (Zk fN fM m ed xs) w w' (Zk fN fM m ed zs)):=by
 refine en func251 ntmps251 ?_
 have q:=(yt x).unpack
 refine fR q 10 ?_
 refine cl (AV fN fM m ed w (q.at (i:=0) rfl) hb v o_) ?_
 rintro _ g ⟨rfl,h⟩
 have e:=yr q h
 have f:=yc [_,_] _ e
 refine fK e 11 ?_
 refine cl (xW fN fM m ed xs g (ye f 0 rfl) (by first|exact hm|omega) hb t F s (v+1) o_ o_) ?_
 rintro _ l ⟨y,rfl,a,n,o,b,j,ht⟩
 have c:=(yi f ht)
 have p:a.length=m:=by have:=b.len;omega
 refine fK c 10 ?_
 refine jq (o' := (v+1)*9+0) (i:=(v:Int)+1) rfl rfl rfl yk jo (o9 (show (v+1)<(a).length from om)) o_ (fP c 6 ?_)
 refine gf (v:=(Za ((fJ a (v+1)).total))) results251 rfl ?_
 exact⟨(fJ a (v+1)).total,a,_,rfl,b.fo,j,by have:=b.len;omega,fun u v=>b.ad u v,fun k=>b.key k,yj (yc [_,_] _ c)⟩
theorem ZA(m:Nat)(A:Nat->Nat->Prop)(key:Nat->Int)(w:World)(o:Own (jR fN fM m A key) w)(hb:m<=1000001)(a:Nat)(q:a+1<m) :
 CR ya 251 (Zm fN a) w (fun r w' => ∃ d:Int,r = .int .i64 d/\fV (jR fN fM m A key) w w' (jR fN fM m A key)):=by
 obtain⟨ed,xs,F,b,p⟩:=C7 o
 exact CR.mono (T1 fN fM m ed xs w p b.len hb b.CH F b.fo a q) fun r w' ⟨d,zs,F2,e,c,f,g,l,n,ht⟩=>⟨d,e,DA ht ⟨g,f,c,fun i j=>(l _ _).trans (b.j9 i j),fun k h=>(n _).trans (b.key k h)⟩⟩
theorem Xz(s:GW)(A:Nat->Nat->Prop)(key:Nat->Int)(w:World)(n:Own (GI.R fN fM F s A key) w)(v:Nat)(hv:v<fN) :
 CR ya 181 (Zm F v) w (fun r w' => ∃ d:Int,r = .int .i64 d/\fV (GI.R fN fM F s A key) w w' (GI.R fN fM F s A key)):=by
 have x:=n.fact.vn
 have u:=n.fact.v2
 have t:=n.fact.en
 refine en func181 ntmps181 ?_
 have q:=Own.of n.un
 have o:s.ok fN fM:=n.fact
 have f:=yn (p:=GW.ok fN fM s) (yc [_,_,_,_] _ q) o
 refine fR q 10 ?_
 refine cl (Jj fN fM F s A key w (ye f 0 rfl) v o_) ?_
 rintro _ l ⟨rfl,ht⟩
 have i:=yh 0 f ht
 have j:=(jM i).unpack
 refine gC j 18 fun k g=>?_
 refine ar (e:=((fM+v:Nat):Int)) rfl rfl rfl rfl je (cl (ZA s.fb s.nb (fM+fN+1) A key k (ye g 1 rfl) o_ (fM+v) o_) ?_)
 rintro _ m ⟨c,rfl,ht⟩
 have h:=yh 1 g ht
 refine ar (e:=(IntKind.i64.wrap (c+1))) rfl rfl rfl rfl rfl (quo (a:=(IntKind.i64.wrap (c+1))) (b:=2) (e:=(IntKind.i64.wrap ((IntKind.i64.wrap (c+1)).tdiv 2))) rfl rfl rfl d_ rfl (fP h 4 ?_))
 refine gf (v:=(Za (IntKind.i64.wrap ((IntKind.i64.wrap (c+1)).tdiv 2)))) results181 rfl ?_
 exact⟨_,rfl,ym (yn (p:=GW.ok fN fM s) (yc [_,_,_,_] _ h) o) zd⟩
theorem XD(s:GW)(w:World)(b:Own (GW.R fN fM F s) w)(v:Nat)(hv:v<fN) :
 CR ya 181 (Zm F v) w (fun r w' => ∃ d:Int,r = .int .i64 d/\fV (GW.R fN fM F s) w w' (GW.R fN fM F s)):=by
 obtain⟨A,key,⟨a,g,f⟩,c⟩:=C6 b
 exact CR.mono (Xz fN fM F s A key w c v hv) fun r w' ⟨d,e,ht⟩=>⟨d,e,GV ht ⟨a,g,f⟩⟩
theorem Jm{t:TW}{a b:Int}{c d:Nat}{p q:Bool}(h1:t.mR a c p)(e:t.mR b d q):(p&&q)=true/\t.mR a c true/\t.mR b d true\/(p&&q)=false/\¬ (t.cnt a=0/\t.cnt b=0):=by
 have e1:=h1.cnt
 have f:=e.cnt
 cases p<;>cases q<;>simp_all
theorem afD(c:WC)(E:Nat)(s:WW)(w:World)(G:Own (WW.R c E s) w)(a b:Int) :
 CR ya 180 #[(Zb E),(Zl a),(Zl b)] w (fun r w' => ∃ (I J:Nat) (e:Int),r = .tuple (s9 I J e)/\(e=0/\s.u.t.mR a I true/\s.u.t.mR b J true\/e=13/\¬ (s.u.t.cnt a=0/\s.u.t.cnt b=0))/\fV (WW.R c E s) w w' (WW.R c E s)):=by
 refine en func180 ntmps180 ?_
 have H:=Own.of G.un
 have D:s.ok c:=G.fact
 have K:=D.w1
 have L:=D.wi
 have M:=D.n0
 have N:=D.n1
 have j:=yn (p:=s.ok c) (yc [_,_,_,_,_] _ H) D
 refine fR H 11 ?_
 refine cl (vA c E s w (ye j 0 rfl)) ?_
 rintro _ o ⟨rfl,ht⟩
 have q:=yh 0 j ht
 have f:=(jM q).unpack
 refine fK f 13 ?_
 refine cl (GX c.fN c.fM s.ub s.u o (ye f 2 rfl) a) ?_
 rintro _ x ⟨k,y,rfl,g,ht⟩
 have h:=yh 2 f ht
 refine fK h 14 ?_
 refine cl (GX c.fN c.fM s.ub s.u x (ye h 2 rfl) b) ?_
 rintro _ A ⟨l,z,rfl,i,ht⟩
 have d:=yh 2 h ht
 refine fK d 13 ?_
 cases m:(y:Bool)
 . skip
   subst m
   refine fP d 15 ?_
   refine rq (v:=Zc) (v' := Zc) (v'' := (.int .i64 13)) results180 rfl rfl rfl ?_
   rcases Jm g i with ⟨B,C,F⟩|⟨B,C⟩
   . exact absurd B (by simp_all)
   . exact⟨0,0,13,rfl,.inr ⟨rfl,C⟩,ym (yn (p:=s.ok c) (yc [_,_,_,_,_] _ d) D) zd⟩
 . skip
   subst m
   refine gF d 5 ?_
   cases n:(z:Bool)
   . skip
     subst n
     refine iT d 10 ?_
     refine rq (v:=Zc) (v' := Zc) (v'' := (.int .i64 13)) results180 rfl rfl rfl ?_
     rcases Jm g i with ⟨B,C,F⟩|⟨B,C⟩
     . exact absurd B (by simp_all)
     . exact⟨0,0,13,rfl,.inr ⟨rfl,C⟩,ym (yn (p:=s.ok c) (yc [_,_,_,_,_] _ d) D) zd⟩
   . skip
     subst n
     refine iT d 13 ?_
     refine rq (v:=(Za ((k:Nat):Int))) (v' := (Za ((l:Nat):Int))) (v'' := Zc) results180 rfl rfl rfl ?_
     rcases Jm g i with ⟨B,C,F⟩|⟨B,C⟩
     . exact⟨k,l,0,rfl,.inl ⟨rfl,C,F⟩,ym (yn (p:=s.ok c) (yc [_,_,_,_,_] _ d) D) zd⟩
     . exact absurd B (by simp_all)
theorem af3(c:WC)(A:Nat)(s:WW)(w:World)(D:Own (WW.R c A s) w)(id:Int) :
 CR ya 109 (Z7 A id) w (fun r w' => ∃ (d e:Int),r = .tuple (Z0 d e)/\(e=0↔s.u.t.cnt id=0)/\fV (WW.R c A s) w w' (WW.R c A s)):=by
 refine en func109 ntmps109 ?_
 have E:=Own.of D.un
 have z:s.ok c:=D.fact
 have J:=z.w1
 have K:=z.wi
 have L:=z.n0
 have M:=z.n1
 have h:=yn (p:=s.ok c) (yc [_,_,_,_,_] _ E) z
 refine fR E 11 ?_
 refine cl (afD c A s w (ye h 0 rfl) id id) ?_
 rintro _ l ⟨f,m,b,rfl,j,ht⟩
 have n:=yh 0 h ht
 have a:=(jM n).unpack
 refine fK a 13 ?_
 by_cases q:(b:Int)=0
 . have C:fW.ok c.fN c.fM s.u:=(y9 a (i:=2) rfl)
   have I:=z.v2
   have F:b=0/\s.u.t.mR id f true/\s.u.t.mR id m true:=j.elim (fun y=>y) (fun y=>by exfalso;omega)
   have N:f<c.fN:=by have y:=TW.mR.lt F.2.1 C.tok (by rw[C.tn];omega);rw[C.tn]at y;exact y
   refine fK a 13 ?_
   refine cl (XD c.fN c.fM s.ob s.g l (ye a 4 rfl) f o_) ?_
   rintro _ x ⟨o,rfl,ht⟩
   have k:=yh 4 a ht
   refine fP k 5 ?_
   refine gZ (v:=(Za o)) (v' := Zc) results109 rfl rfl ?_
   have H:=F.2.1.cnt
   exact⟨_,0,rfl,⟨fun _=>by rw[H];rfl,fun _=>rfl⟩,ym (yn (p:=s.ok c) (yc [_,_,_,_,_] _ k) z) zd⟩
 . refine fP a 13 ?_
   refine gZ (v:=Zc) (v' := (Za b)) results109 rfl rfl ?_
   have G:b=13/\¬ (s.u.t.cnt id=0/\s.u.t.cnt id=0):=j.elim (fun y=>by exfalso;omega) (fun y=>y)
   exact⟨_,_,rfl,⟨fun B=>(by exfalso;omega),fun B=>absurd ⟨B,B⟩ G.2⟩,ym (yn (p:=s.ok c) (yc [_,_,_,_,_] _ a) z) zd⟩
theorem TL(c:WC)(j:Nat)(s:WW)(w:World)(k:Own (WW.R c j s) w) :
 CR ya 24 (Zh j) w (fun r w' => r = .int .u64 (IntKind.u64.wrap (s.added+s.jX))/\fV (WW.R c j s) w w' (WW.R c j s)):=by
 refine en func24 ntmps24 ?_
 have l:=Own.of k.un
 have i:s.ok c:=k.fact
 have m:=i.w1
 have n:=i.wi
 have o:=i.n0
 have q:=i.n1
 have a:=yn (p:=s.ok c) (yc [_,_,_,_,_] _ l) i
 refine fR l 9 ?_
 refine cl (vA c j s w (ye a 0 rfl)) ?_
 rintro _ g ⟨rfl,ht⟩
 have d:=yh 0 a ht
 have f:=(jM d).unpack
 refine gC f 16 fun h b=>?_
 refine ar (e:=IntKind.u64.wrap (s.added+s.jX)) rfl rfl rfl rfl rfl (fP b 4 ?_)
 refine gf (v:=(Zl (IntKind.u64.wrap (s.added+s.jX)))) results24 rfl ?_
 exact⟨rfl,ym (yn (p:=s.ok c) (yc [_,_,_,_,_] _ b) i) zd⟩
structure Vk where
 iv:Value
 K:List Int
 es:List Ge
 f:List Nat
 lv:Value
 rv:Value
 pv:Value
 hv:Value
 sv:Value
 cb:Nat
 c:Cv
 mb:Nat
 q:Mf
structure Vk.ok (k:Vk):Prop where
 fg:iE k.es k.K.length k.f
 kF:k.K.Pairwise fun a b=>a<b
 n:k.K.length<=12
def Vk.R(k:Vk):fT:=lq k.ok (gh [fL gQ k.iv 39 1 k.K,fL gi k.lv 3 1 ((gd k.es k.K.length k.f).l),fL gi k.rv 3 1 ((gd k.es k.K.length k.f).r),fL gi k.pv 3 1 ((gd k.es k.K.length k.f).p),fL gi k.hv 2 1 ((gd k.es k.K.length k.f).h),fL fU k.sv 3 1 ((gd k.es k.K.length k.f).s),(Cv.R k.cb k.K.length k.es k.c),(Mf.R k.mb k.K.length k.es k.q)])
abbrev Vk.v(k:Vk):Value:=.agg #[k.iv,(Za k.K.length),k.lv,k.rv,k.pv,k.hv,k.sv,(Zb k.cb),(Zb k.mb)]
structure Vk.of (s:WW) (k:Vk):Prop where
 ids:s.u.k9 k.K
 pic:∃ L,s.u.kn L/\kA k.K L k.es L.length
abbrev Ay a b:=(gh [Vk.R a,b]:fT)
abbrev vT(a:Vk) b:=(Cv.R a.cb b a.es a.c:fT)
abbrev sZ(a:Vk) b:=(Mf.R a.mb b a.es a.q:fT)
abbrev HP a (b c:Nat):=(gh [Vk.R a,gh [blk b 81 oP,blk c 78 oP]]:fT)
abbrev Ng a (b:Nat) (c:Int) (d:Nat) (e:Int) (f:Nat):=(gh [Vk.R a,gh [blk b 39 (Zt c),blk d 2 (Ze e),blk f 73 [.int .u64 0,.int .i64 0]]]:fT)
abbrev uV(a:Vk)(b:Int):=([a.iv,.int .i64 b,a.lv,a.rv,a.pv,a.hv,a.sv,.pointer (some ⟨a.cb,0,none⟩),.pointer (some ⟨a.mb,0,none⟩)]:List Value)
abbrev Nh a (b:Nat) (c:Int) (d:Nat) (e:Int) (f g:Nat) h:=(gh [Vk.R a,gh [blk b 39 (Zt c),blk d 39 (Zt e),blk f 2 [.int .i64 0],blk g 4 [.bool false],h]]:fT)
abbrev EK(a:Vk)(b:Int):=(.agg #[a.iv,.int .i64 b,a.lv,a.rv,a.pv,a.hv,a.sv,.pointer (some ⟨a.cb,0,none⟩),.pointer (some ⟨a.mb,0,none⟩)]:Value)
abbrev Ic(a b:Nat)(c:Int)(d:Vk)(e f:Int):=(blk a 108 [.pointer (some ⟨b,0,none⟩),.bool true,.int .u64 c,d.iv,.int .i64 e,d.lv,d.rv,d.pv,d.hv,d.sv,.pointer (some ⟨d.cb,0,none⟩),.pointer (some ⟨d.mb,0,none⟩),.int .i64 f]:fT)
abbrev Nk(a b:Nat)(c:Int)(d:Vk)(e:Int) f g:=(gh [blk a 108 [.pointer (some ⟨b,0,none⟩),.bool true,.int .u64 c,d.iv,.int .i64 e,d.lv,d.rv,d.pv,d.hv,d.sv,.pointer (some ⟨d.cb,0,none⟩),.pointer (some ⟨d.mb,0,none⟩),.int .i64 1],Vk.R d,WW.R f b g]:fT)
abbrev ED(a b:Nat)(c:Int)(d:Vk)(e f:Int) g h:=(gh [blk a 108 [.pointer (some ⟨b,0,none⟩),.bool true,.int .u64 c,d.iv,.int .i64 e,d.lv,d.rv,d.pv,d.hv,d.sv,.pointer (some ⟨d.cb,0,none⟩),.pointer (some ⟨d.mb,0,none⟩),.int .i64 f],Vk.R d,WW.R g b h]:fT)
abbrev u5(a b:Nat)(c:Int)(d:Vk)(e f:Int) g h i:=(gh [blk a 108 [.pointer (some ⟨b,0,none⟩),.bool true,.int .u64 c,d.iv,.int .i64 e,d.lv,d.rv,d.pv,d.hv,d.sv,.pointer (some ⟨d.cb,0,none⟩),.pointer (some ⟨d.mb,0,none⟩),.int .i64 f],Vk.R d,WW.R g b h,i]:fT)
theorem kA.Fl{s:fW}{fN:Nat}{K:List Int}{L:List Lv}{es:List Ge}(j:s.ok fN n)(g:s.kn L)(h:kA K L es L.length):lQ K.length es:=fun e f=>by
 obtain⟨i,hi,e1⟩:=vH f
 have b:i<L.length:=by rw[<-h.len];exact hi
 have a:=h.fst i b
 have d:fJ es i=e:=iS (by rw[z8 hi,e1])
 rw[d]at a
 refine⟨a.ul,a.vl,fun c=>(j.AV ((g.mem _).1 (ze (gz b)))).2 ?_⟩
 rw[<-a.u,<-a.v,c]
theorem afl(c:WC)(wb:Nat)(s:WW)(w:World)(hO:Own (WW.R c wb s) w)(al:c.fN<=12) :
 CR ya 110 (Zh wb) w (fun r w' => ∃ (k:Vk),r=k.v/\Vk.of s k/\fV (WW.R c wb s) w w' (gh [(WW.R c wb s),Vk.R k])):=by
 refine en func110 ntmps110 ?_
 have ak:=yt hO
 have F:=o6 hO
 have ar:=F.1.en
 have aq:=F.1.w1
 refine fR ak 2 ?_
 refine iR ak (fun U K V W A=>?_)
 refine fK A 5 ?_
 refine cl (F8 c wb s K (ye A 1 rfl) al) ?_
 rintro _ X ⟨d,B,Y,a,Z,g,rfl,b,ht⟩
 have L:=yf [1,0] A
 have z:=yy (yh 0 L ht)
 have F:=o6 (ye z 0 rfl)
 have aj:=kA.Fl F.2.1 b.2.1 b.2.2
 have ao:=b.1.len F.2.1 F.2.2
 have ap:=b.2.1.len F.2.1
 have an:=b.2.2.len
 have am:=F.1.en
 refine fK z 12 ?_
 refine iU (pvs:=[(0,d)]) (v:=.agg #[d,Zc,Zi,Zi,Zi,Zi,Zi,Zp,Zp]) rfl rfl (jj [(0,[d])] Dt abi rfl ⟨rfl,(cells_one (yv z (i:=1) rfl)),trivial⟩ rfl) (iR z (fun aa ab ac ad D=>?_))
 refine jt 0 D (fun M h=>?_) (h1:=(gX (yv D (i:=2) rfl) (gX rfl (gX rfl (gX rfl (gX rfl (gX rfl (gX rfl (gX rfl (gX rfl jV))))))))))
 refine fK h 5 ?_
 refine iV (m:=a.length) 2 rfl rfl yw h rfl (fK h 1 ?_)
 refine cl (Ky B a.length g M (iN h 3 rfl).any aj o_ o_) ?_
 rintro _ ae ⟨E,j,l,n,T,q,rfl,N,ht⟩
 have f:=yy (jm h ht)
 refine fK f 4 ?_
 refine jt 5 f (fun O t=>?_) (h1:=(gX rfl (gX (yv f (i:=0) rfl) (gX (yv f (i:=1) rfl) (gX (yv f (i:=2) rfl) (gX (yv f (i:=3) rfl) (gX (yv f (i:=4) rfl) jV)))))))
 refine fK t 5 ?_
 refine iV (m:=a.length) 7 rfl rfl yw t rfl (fK t 1 ?_)
 refine cl (VG B a.length g O (iN t 8 rfl).any aj o_ o_) ?_
 rintro _ af ⟨u,G,rfl,ht⟩
 have H:=(jm t ht)
 refine fK H 4 ?_
 refine jt 6 H (fun P x=>?_)
 refine fK x 5 ?_
 refine iV (m:=a.length) 8 rfl rfl yw x rfl (fK x 1 ?_)
 refine cl (ZY B a.length g P (iN x 9 rfl).any aj o_ o_) ?_
 rintro _ ag ⟨y,I,rfl,ht⟩
 have J:=(jm x ht)
 refine fK J 4 ?_
 refine jt 7 J (fun ah e=>?_)
 refine fK e 5 ?_
 refine jt 12 e (fun ai C=>?_) (h1:=(gX (yv e (i:=9) rfl) (gX rfl (gX (yv e (i:=2) rfl) (gX (yv e (i:=3) rfl) (gX (yv e (i:=4) rfl) (gX (yv e (i:=5) rfl) (gX (yv e (i:=6) rfl) (gX rfl (gX rfl jV))))))))))
 refine fP C 3 ?_
 refine KF (v:=(.agg #[d,(Za a.length),j,l,n,T,q,(Zb u),(Zb y)])) results110 (nX (cs:=(Cq d a.length j l n T q u y)) rfl Hf rfl Dt rfl (mO C (i:=12) (o:=0) (vs:=(Cq d a.length j l n T q u y)) rfl rfl)) ?_
 have Q:=yf [8,9,2,3,4,5,6,1,0] C
 have S:=(yc [_,_,_,_,_,_,_,_] _ (Q.perm (qM (l₁:=[_]) (l₂:=[_,_,_,_,_,_,_,_])))).swap
 exact⟨(⟨d,a,g,E,j,l,n,T,q,u,G,y,I⟩:Vk),rfl,⟨b.1,_,b.2.1,b.2.2⟩,ym (yc [_,_] [] (St.swap (yn (p:=Vk.ok (⟨d,a,g,E,j,l,n,T,q,u,G,y,I⟩:Vk)) S.swap ⟨⟨aj,N⟩,b.1.kF,by show a.length<=12;omega⟩))) zd⟩
theorem DB(b e:Nat)(cs:List Value)(w:World)(f:Own (blk b 108 ((Zb e) :: cs)) w) :
 CR ya 36 (Zh b) w (fun r w' => r = .bool true/\fV (blk b 108 ((Zb e) :: cs)) w w' (blk b 108 ((Zb e) :: cs))):=by
 refine en func36 ntmps36 ?_
 have d:=yt f
 refine fR d 8 ?_
 refine lI (a:=some ⟨b,0,none⟩) (c:=true) rfl rfl rfl underlying24 rfl (fK d 5 ?_)
 refine lI (a:=some ⟨e,0,none⟩) (c:=true) rfl rfl rfl BC rfl (fP d 5 ?_)
 refine gf (v:=Zg) results36 rfl ?_
 exact⟨rfl,yj d⟩
theorem Tk(c:WC)(j i:Nat)(s:WW)(cs:List Value)(w:World)(l:Own (rQ j ((.pointer (some ⟨i,0,none⟩)) :: cs) c i s) w)(id:Int) :
 CR ya 57 (Z7 j id) w (fun r w' => ∃ B:Bool,r = .bool B/\(B=true↔s.u.t.cnt id=0)/\fV (rQ j ((.pointer (some ⟨i,0,none⟩)) :: cs) c i s) w w' (rQ j ((.pointer (some ⟨i,0,none⟩)) :: cs) c i s)):=by
 refine en func57 ntmps57 ?_
 have k:=(yt l).unpack
 refine fR k 12 ?_
 refine cl (af3 c i s w (ye k 1 rfl) id) ?_
 rintro _ e ⟨f,d,rfl,b,ht⟩
 have a:=yh 1 k ht
 refine fK a 10 ?_
 by_cases g:(d:Int)=0
 . refine fP a 5 ?_
   refine gf (v:=Zg) results57 rfl ?_
   exact⟨true,rfl,⟨fun h=>(by first|exact b.1 o_|cases h),fun h=>(by first|rfl|(exact absurd (b.2 h) o_))⟩,yj (yc [_,_] _ a)⟩
 . refine fP a 5 ?_
   refine gf (v:=Zn) results57 rfl ?_
   exact⟨false,rfl,⟨fun h=>(by first|exact b.1 o_|cases h),fun h=>(by first|rfl|(exact absurd (b.2 h) o_))⟩,yj (yc [_,_] _ a)⟩
theorem adP:ya.stoodInHeld 100=false:=by kernel_rfl
theorem OS:ya.eqGuardType ya.depth 100=false:=by kernel_rfl
theorem Ot(a b:Bool)(c d:Int)(w:World):(Op.equal 100 (.agg #[.bool a,.int .u64 c]) (.agg #[.bool b,.int .u64 d])).run ya w = .ok ((a==b)&&(c==d)) w :=
 acX He adP d_ d_ (Rz mC _ 0 _ rfl) (Rz mC _ 0 _ rfl) (tH yo _ 1 _ rfl) (tH yo _ 1 _ rfl) (KS 9998 mC a b) (Bp 9998 yo c d)
theorem WN(a:Bool)(c:Int)(w:World):(Op.equal 100 (.agg #[.bool a,.int .u64 c]) (.agg #[.bool a,.int .u64 c])).run ya w = .ok true w:=by
 rw[Ot,beq_self_eq_true,beq_self_eq_true]
 rfl
theorem afH(c:WC)(T F:Nat)(s:WW)(w:World){α:Type}(S:fT)(W:α->fT)(Φ:Vk->α->Prop)(V:Nat)(cap:List Value)(Y:xA ya V)(hq:∀ (k:Vk) (w1:World),Vk.of s k->Own (Ay k S) w1->CR ya V (k.v :: cap).toArray w1 (fun r w' => r = .tuple #[]/\∃ x,Φ k x/\fV (Ay k S) w1 w' (Ay k (W x))))(X:Own (s8 T F c s S) w)(aa:c.fN<=12) :
 CR ya 58 (vR T (.func (.func V) #[] cap.toArray)) w (fun r w' => ∃ (k:Vk) (x:α),r = .tuple #[]/\(Vk.of s k /\ Φ k x)/\fV (s8 T F c s S) w w' (gh [blk T 108 [(Zb F),Zg,(Zl (IntKind.u64.wrap (s.added+s.jX))),k.iv,(Za k.K.length),k.lv,k.rv,k.pv,k.hv,k.sv,(Zb k.cb),(Zb k.mb),pZ],Vk.R k,(WW.R c F s),W x])):=by
 refine en func58 ntmps58 ?_
 have U:=(yt X).unpack
 refine fR U 6 ?_
 refine cl (TL c F s w (ye U 1 rfl)) ?_
 rintro _ H ⟨rfl,ht⟩
 have n:=yh 1 U ht
 refine iU (pvs:=[(0,Zg),(1,(Zl (IntKind.u64.wrap (s.added+s.jX))))]) (v:=.agg (Cc (IntKind.u64.wrap (s.added+s.jX)))) rfl rfl (jj [(0,[Zg]),(1,(Zt (IntKind.u64.wrap (s.added+s.jX))))] Dr QN rfl ⟨rfl,rfl,rfl,rfl,trivial⟩ rfl) (iR n (fun I J L M q=>?_))
 refine gC q 11 fun t f=>?_
 refine FU (c:=false) (xs:=#[Zn,Zy]) (ys:=(Cc (IntKind.u64.wrap (s.added+s.jX)))) rfl rfl rfl OS (fun w=>Ot _ _ _ _ w) (fK f 10 ?_)
 refine cl (afl c F s t (ye f 2 rfl) aa) ?_
 rintro _ N ⟨b,rfl,h,ht⟩
 have u:=yf [2,0,1,3] f
 have y:=yy (yh 0 u ht)
 have j:=yf [1,0,2,3,4] y
 have Z:=sM j
 have a:=(jM j).unpack
 refine fK a 2 ?_
 refine jt 10 a (fun O d=>?_) (h1:=(gX (yv a (i:=0) rfl) (gX rfl (gX (yv a (i:=1) rfl) (gX (yv a (i:=2) rfl) (gX (yv a (i:=3) rfl) (gX (yv a (i:=4) rfl) (gX (yv a (i:=5) rfl) (gX rfl (gX rfl jV))))))))))
 refine fK d 5 ?_
 refine wF (cs:=[Zg,(Zl (IntKind.u64.wrap (s.added+s.jX)))]) rfl rfl He rfl Dr rfl (mO d (i:=9) (o:=0) (vs:=[Zg,(Zl (IntKind.u64.wrap (s.added+s.jX)))]) rfl rfl) (fK d 2 ?_)
 refine jt 10 d (fun P e=>?_)
 refine fK e 6 ?_
 refine ld rfl rfl yg rfl (St.bc e 10 rfl rfl) (fK e 3 ?_)
 refine jt 10 e (fun z g=>?_)
 refine fK g 7 ?_
 refine wF (cs:=(uV b b.K.length)) rfl rfl Hf rfl Dt rfl (mO g (i:=10) (o:=3) (vs:=(uV b b.K.length)) rfl rfl) ?_
 have A:=yn (p:=Vk.ok b) (yc [_,_,_,_,_,_,_,_] _ g) Z
 have B:=yf [0,4,1,2,3] A
 have l:=yc [_,_] _ B
 refine mW (fi:=[]) (ca:=cap) rfl rfl rfl Y (hq b z h (ye l 0 rfl)) ?_
 rintro _ Q ⟨rfl,C,D,E⟩
 have m:=(yi l E)
 refine fP m 1 ?_
 refine jc results58 ?_
 have G:=yf [4,0,2,1] m
 exact⟨b,C,rfl,⟨h,D⟩,yj (yc [_,_,_,_] _ G)⟩
theorem Tz(c:WC)(A B:Nat)(s:WW)(w:World){α:Type}(z:fT)(E:α->fT)(Φ:Vk->α->Prop)(D:Nat)(cap:List Value)(G:xA ya D)(I:∀ (k:Vk) (w1:World),Vk.of s k->Own (Ay k z) w1->CR ya D (k.v :: cap).toArray w1 (fun r w' => r = .tuple #[]/\∃ x,Φ k x/\fV (Ay k z) w1 w' (Ay k (E x))))(k:Vk)(H:Vk.of s k)(b:Int)(F:Own (u5 A B (IntKind.u64.wrap (s.added+s.jX)) k k.K.length b c s z) w) :
 CR ya 58 (vR A (.func (.func D) #[] cap.toArray)) w (fun r w' => ∃ (x:α),r = .tuple #[] /\ Φ k x/\fV (u5 A B (IntKind.u64.wrap (s.added+s.jX)) k k.K.length b c s z) w w' (u5 A B (IntKind.u64.wrap (s.added+s.jX)) k k.K.length b c s (E x))):=by
 refine en func58 ntmps58 ?_
 have C:=(yt F).unpack
 refine fR C 6 ?_
 refine cl (TL c B s w (ye C 2 rfl)) ?_
 rintro _ o ⟨rfl,ht⟩
 have f:=yh 2 C ht
 refine iU (pvs:=[(0,Zg),(1,(Zl (IntKind.u64.wrap (s.added+s.jX))))]) (v:=.agg (Cc (IntKind.u64.wrap (s.added+s.jX)))) rfl rfl (jj [(0,[Zg]),(1,(Zt (IntKind.u64.wrap (s.added+s.jX))))] Dr QN rfl ⟨rfl,rfl,rfl,rfl,trivial⟩ rfl) (iR f (fun p q t u g=>?_))
 refine gC g 11 fun h a=>?_
 refine FU (c:=true) (xs:=(Cc (IntKind.u64.wrap (s.added+s.jX)))) (ys:=(Cc (IntKind.u64.wrap (s.added+s.jX)))) rfl rfl rfl OS (fun w=>WN _ _ w) ?_
 have i:=yf [2,4,0,1,3] a
 have d:=yc [_,_] _ i
 refine fK a 11 ?_
 refine mW (fi:=[]) (ca:=cap) rfl rfl rfl G (I k h H (ye d 0 rfl)) ?_
 rintro _ y ⟨rfl,j,l,m⟩
 have e:=(yi d m)
 refine fP e 1 ?_
 refine jc results58 ?_
 have n:=yf [3,0,4,1] e
 exact⟨j,rfl,l,yj (yc [_,_,_,_] _ n)⟩
theorem afq(c:WC)(D E:Nat)(s:WW)(w:World)(G:Own (tU D E c s) w)(I:c.fN<=12) :
 CR ya 18 (Zh D) w (fun r w' => ∃ (v:Value) (K:List Int) (L:List Lv) (es:List Ge) (o:List Nat),v=r/\((s.u.k9 K/\s.u.kn L/\kA K L es L.length)/\oN es o)/\fV (tU D E c s) w w' (gh [(tU D E c s),fL i6.cells v 62 4 (iG es K.length o (o.length+1))])):=by
 refine en func18 ntmps18 ?_
 have F:=(yt G).unpack
 have C:=o6 (ye F 1 rfl)
 refine fR F 9 ?_
 refine cl (G0 D E w (ye F 0 rfl)) ?_
 rintro _ i ⟨rfl,ht⟩
 have d:=yh 0 F ht
 refine fK d 12 ?_
 refine cl (F8 c E s i (ye d 1 rfl) I) ?_
 rintro _ j ⟨z,k,A,e,l,f,rfl,a,ht⟩
 have n:=yf [1,0] d
 have b:=yy (yh 0 n ht)
 have C:=o6 (ye b 0 rfl)
 have H:=kA.Fl C.2.1 a.2.1 a.2.2
 have N:=a.1.len C.2.1 C.2.2
 have O:=a.2.1.len C.2.1
 have M:=a.2.2.len
 have J:=C.1.en
 refine fK b 12 ?_
 refine iV (m:=e.length) 1 rfl rfl yw b rfl (fK b 1 ?_)
 refine cl (ad4 e.length f k j (ye b 2 rfl) o_ H o_) ?_
 rintro _ B ⟨g,p,rfl,q,ht⟩
 have t:=yf [2,0,1,3,4] b
 have h:=yy (yh 0 t ht)
 refine fP h 14 ?_
 refine gf (v:=g) results18 rfl ?_
 have x:=yf [5,2,1] h
 have y:=yc [_,_] _ x
 exact⟨g,e,l,f,p,rfl,⟨a,q⟩,yj (yc [_,_] _ y)⟩
theorem Tn(c:WC)(M F:Nat)(s:WW)(lv:Value)(ds:List Int)(R:fT)(P:∀ w,R.holds w->gY 1 gQ (fun _=>True) w lv ds)(w:World)(S:Own (s8 M F c s R) w)(V:c.fN<=12)(T:∀ x∈ds,gU .u64 x) :
 CR ya 19 (vR M lv) w (fun r w' => (∃ (K:List Int) (L:List Lv) (es:List Ge),(s.u.k9 K/\s.u.kn L/\kA K L es L.length)/\(ds.length+1<es.length\/c.kN<(ds.length:Int))/\r = .tuple #[.slice none 0 0,.int .i64 14]/\fV (s8 M F c s R) w w' (s8 M F c s R))\/∃ (rv:Value) (K:List Int) (L:List Lv) (es:List Ge),(s.u.k9 K/\s.u.kn L/\kA K L es L.length)/\(¬ (ds.length+1<es.length\/c.kN<(ds.length:Int)))/\r = .tuple (uX rv)/\fV (s8 M F c s R) w w' (Nj M F c s R rv (kr es K.length (mu es.length ds) (es.length+1)))):=by
 refine en func19 ntmps19 ?_
 have O:=Own.of S
 have N:=o6 (ye O 1 rfl)
 have Q:=P _ (St.at O (i:=2) rfl)
 refine fR O 10 ?_
 refine cl (G0 M F w (ye O 0 rfl)) ?_
 rintro _ n ⟨rfl,ht⟩
 have g:=yh 0 O ht
 refine fK g 12 ?_
 refine cl (F8 c F s n (ye g 1 rfl) V) ?_
 rintro _ o ⟨E,p,G,f,h,d,rfl,b,ht⟩
 have q:=yf [1,0,2] g
 have a:=yy (yh 0 q ht)
 have N:=o6 (ye a 0 rfl)
 have U:=kA.Fl N.2.1 b.2.1 b.2.2
 have Y:=b.1.len N.2.1 N.2.2
 have Z:=b.2.1.len N.2.1
 have X:=b.2.2.len
 have W:=N.1.en
 refine fK a 13 ?_
 refine jY (v:=lv) rfl rfl yw Q (fK a 1 ?_)
 refine iV (m:=d.length) 2 rfl rfl pQ a rfl (fK a 1 ?_)
 by_cases H:(ds.length:Int)<((d.length:Int)-1:Int)
 . refine fP a 23 ?_
   refine gZ (v:=Zi) (v' := (.int .i64 14)) results19 rfl rfl ?_
   have t:=yf [4,0,5] a
   exact .inl ⟨f,h,d,b,o_,rfl,yj (yc [_,_,_] _ t)⟩
 . refine fK a 3 ?_
   refine jY (v:=lv) rfl rfl yw Q (fK a 4 ?_)
   refine cl (Tw c F s o (ye a 0 rfl)) ?_
   rintro _ y ⟨rfl,ht⟩
   have e:=yh 0 a ht
   refine Jg (cs:=(xN c.win c.fM c.fN c.kN)) (v:=(Za c.kN)) rfl rfl DH rfl yg rfl rfl ?_
   by_cases I:(ds.length:Int)>(c.kN:Int)
   . refine fP e 13 ?_
     refine gZ (v:=Zi) (v' := (.int .i64 14)) results19 rfl rfl ?_
     have z:=yf [4,0,5] e
     exact .inl ⟨f,h,d,b,o_,rfl,yj (yc [_,_,_] _ z)⟩
   . refine fK e 10 ?_
     refine iV (m:=f.length) 1 rfl rfl yw e rfl ?_
     have A:=yf [2,5,0,1,3,4] e
     have j:=yc [_,_] _ A
     refine fK e 2 ?_
     refine cl (ad8 f.length d p lv ds R P y (ye j 0 rfl) T o_ U o_ o_) ?_
     rintro _ J ⟨k,rfl,B⟩
     have l:=(yi j B)
     refine fP l 7 ?_
     refine gZ (v:=k) (v' := Zc) results19 rfl rfl ?_
     have C:=yf [6,3,1,2] l
     have D:=yc [_,_,_] _ C
     exact .inr ⟨k,f,h,d,b,o_,rfl,yj (yc [_,_] _ D)⟩
theorem ad2(m:Nat)(v:Value)(zs:List Nat)(w:World)(hv:gY 1 fU (fun _=>True) w v zs)(y:zs.Nodup)(z:∀ i∈zs,i<m)(B:zs.length<=m)(hm:m<=16384) :
 CR ya 55 (uR m v) w (fun r w' => r = .bool true/\gx [] w w'):=by
 refine en func55 ntmps55 ?_
 have s:=yu w
 refine fR s 9 ?_
 refine jY (v:=v) rfl rfl yd hv (fK s 1 ?_)
 refine cmp rfl rfl rfl (nN o_) (fK s 8 ?_)
 refine jY (v:=v) rfl rfl yd hv (aai (a:=(zs.length:Int)) (fun x:Nat=>Value.int .i64 (x:Int)) .i64 rfl rfl DF s (fun b f g h d=>fK d 7 ?_))
 refine jY (v:=v) rfl rfl yd hv (gF d 4 ?_)
 refine lp (α:=Nat×List (Int×Nat)) (fun(k,mm)=>[(0,(Za m)),(1,v),(5,(.map (some b))),(15,v),(16,(Za zs.length)),(17,(Za k))]) (fun(k,mm) w1=>St [(w,[])] [ia b .i64 (fun x:Nat=>Value.int .i64 (x:Int)) mm] w1/\k<=zs.length/\∀ j,k<=j->j<zs.length->fS mm ((fJ zs j:Nat):Int)=0) (fun(k,mm)=>zs.length-k) (0,[]) ⟨rfl,rfl,rfl,rfl,rfl,gm rO,trivial⟩ (⟨d,o_,fun _ _ _=>rfl⟩) ?_
 rintro⟨k,mm⟩ l n ⟨q,A,u⟩
 refine fR q 2 ?_
 by_cases o:(k:Int)<(zs.length:Int)
 . have t:k<zs.length:=by omega
   have D:fJ zs k<m:=z _ (Bb t)
   have C:=u k (zm k) t
   refine fK q 11 ?_
   refine iY (k:=k) (i:=(k:Int)) rfl rfl rfl yd gq hv o_ o_ (gz (show k<zs.length by omega)) (jk rfl rfl yg rfl (yz q s_ d_ hv) (gz (show k<zs.length by omega)) rfl (fK q 7 ?_))
   refine cmp rfl rfl rfl (kG o_) (fK q 3 ?_)
   refine cmp rfl rfl rfl (oS o_) (fK q 4 ?_)
   refine qh (a:=((fJ zs k:Nat):Int)) (mm:=mm) (enc:=(fun x:Nat=>Value.int .i64 (x:Int))) (k:=.i64) 0 rfl rfl rfl DF yg gq rfl q rfl (cmp rfl rfl rfl (nN o_) (fK q 9 ?_))
   refine qh (a:=((fJ zs k:Nat):Int)) (mm:=mm) (enc:=(fun x:Nat=>Value.int .i64 (x:Int))) (k:=.i64) 0 rfl rfl rfl DF yg gq rfl q rfl (fK q 1 ?_)
   refine qD (a:=((fJ zs k:Nat):Int)) (c:=(fS mm ((fJ zs k:Nat):Int)+1)) (mm:=mm) (enc:=(fun x:Nat=>Value.int .i64 (x:Int))) (k:=.i64) (L' := [ia b .i64 (fun x:Nat=>Value.int .i64 (x:Int)) (MS mm zs k)]) 0 rfl rfl rfl rfl DF yg q rfl rfl (fun p e=>fP e 7 ?_)
   refine tN (?_)
   exact again ((k+1),(MS mm zs k)) ⟨rfl,rfl,rfl,rfl,rfl,gm rO,trivial⟩ (⟨e,o_,aa1 y t u⟩) (by show (zs.length-(k+1):Nat)<zs.length-k;omega)
 . refine fP q 16 ?_
   refine gf (v:=Zg) results55 rfl ?_
   exact⟨rfl,q.gA s_⟩
theorem RZ(n:Nat)(es:List Ge)(o:List Nat)(lv t:Value)(w:World)(z:Own (EG lv es t o) w)(C:n<=100)(x:lQ n es)(D:o.Nodup)(y:∀ i∈o,i<es.length)(B:o.length<=es.length)(A:es.length<=16384) :
 CR ya 22 #[(Za n),lv,t] w (fun r w' => ∃ rv:Value,r = .tuple (uX rv)/\fV (EG lv es t o) w w' (MQ lv es t o rv (kr es n o (o.length+1)))):=by
 refine en func22 ntmps22 ?_
 have u:=Own.of z
 refine fR u 11 ?_
 refine cl (Fm lv n es w (Sl.any (iN u 0 rfl)) x o_ o_) ?_
 rintro _ f ⟨p,q,rfl,ht⟩
 have a:=(jm u ht)
 refine fK a 20 ?_
 refine iV (m:=es.length) 1 rfl rfl pQ a rfl (fK a 1 ?_)
 refine cl (ad2 es.length t o f (Sl.any (iN a 2 rfl)) D y B A) ?_
 rintro _ g ⟨rfl,h⟩
 have b:=yr a h
 have j:=yf [1,2,0] b
 have c:=yc [_,_] _ j
 refine fK b 11 ?_
 refine cl (Sf n es o lv t g (ye c 0 rfl) C x y o_) ?_
 rintro _ s ⟨d,rfl,k⟩
 have e:=(yi c k)
 refine fP e 7 ?_
 refine gZ (v:=d) (v' := Zc) results22 rfl rfl ?_
 have l:=yf [0,1,2] e
 exact⟨d,rfl,yj (yc [_,_,_] _ l)⟩
theorem adQ:ya.stoodInHeld 60=false:=by kernel_rfl
theorem OT:ya.eqGuardType ya.depth 60=false:=by kernel_rfl
theorem Ov(a b c:Int)(w:World):(Op.equal 60 (xJ a b c) (xJ a b c)).run ya w = .ok true w :=
 acY G3 adQ d_ d_ d_ rfl rfl rfl yg yg yg
theorem Ou(k n:Value)(ys:List kB)(w:World)(o:gY 3 kB.cells (fun _=>True) w k ys)(hb:gY 3 kB.cells (fun _=>True) w n ys)(p:ys.length<=1000000) :
 CR ya 23 #[k,n] w (fun r w' => r = .bool true/\gx [] w w'):=by
 refine en func23 ntmps23 ?_
 have m:=yu w
 refine fR m 9 ?_
 refine jY (v:=k) rfl rfl xh o (fK m 1 ?_)
 refine jY (v:=n) rfl rfl xh hb (cmp rfl rfl rfl (qa (Eq.refl _)) (gF m 12 ?_))
 refine lp (α:=Nat) (fun i=>[(0,k),(1,n),(5,(Za i))]) (fun i w1=>St [(w,[])] [] w1/\i<=ys.length) (fun i=>ys.length-i) 0 ⟨rfl,rfl,gm rO,trivial⟩ (⟨m,o_⟩) ?_
 rintro i e f ⟨l,hi⟩
 refine fR l 5 ?_
 refine jY (v:=k) rfl rfl xh o ?_
 by_cases g:(i:Int)<(ys.length:Int)
 . obtain⟨b,h⟩:=oW (show i<ys.length by omega)
   refine gC l 18 fun j d=>?_
   refine FU (c:=true) (xs:=(s9 b.a b.c b.s)) (ys:=(s9 b.a b.c b.s)) rfl rfl rfl OT (fun w=>Ov _ _ _ w) (fP d 11 ?_)
   refine tN (?_)
   exact again (i+1) ⟨rfl,rfl,gm rO,trivial⟩ (⟨d,o_⟩) (by show (ys.length-(i+1):Nat)<ys.length-i;omega)
 . refine fP l 15 ?_
   refine gf (v:=Zg) results23 rfl ?_
   exact⟨rfl,l.gA s_⟩
theorem aap(xs:List Mw)(w:World)(P:gY 5 Mw.cells (fun _=>True) w lv xs)(ac:∀ x∈xs,x.mv.ok) :
 CR ya 6 #[lv] w (fun r w' => ∃ (W V:Nat) (s:WW),r = .tuple (MA W V)/\(∃ k,sX cG s k)/\fV (gh []) w w' (HQ cG W s V)):=by
 refine en func6 ntmps6 ?_
 have U:=yu w
 have ag:=P.len
 refine fR U 9 ?_
 refine iU (pvs:=[(0,(.int .i64 20)),(1,(.int .i64 40)),(2,xK),(3,(.int .i64 60))]) (v:=.agg #[(.int .i64 20),(.int .i64 40),xK,(.int .i64 60)]) rfl rfl (jj [(0,[(.int .i64 20)]),(1,[(.int .i64 40)]),(2,[xK]),(3,[(.int .i64 60)])] Dy QZ rfl ⟨rfl,rfl,rfl,rfl,rfl,rfl,rfl,rfl,trivial⟩ rfl) (cl (TD cG w d_ d_ d_ d_ d_ d_ d_) ?_)
 rintro _ q ⟨c,m,rfl,i,ht⟩
 have j:=(jm U ht)
 refine fK j 20 ?_
 refine cl (Tm cG c m q (ye j 0 rfl)) ?_
 rintro _ D ⟨d,rfl,ht⟩
 have n:=yy (yh 0 j ht)
 refine gF n 24 ?_
 refine lp (α:=Nat×WW) (fun(k,s)=>[(0,lv),(5,(Zb c)),(7,(Zb d)),(8,(Za k))]) (fun(k,s) w1=>St [(w,[])] [(WW.R cG c s),blk d 108 [(Zb c),Zn,Zy,Zi,Zc,Zi,Zi,Zi,Zi,Zi,Zp,Zp,Zc]] w1/\sX cG s k/\k<=xs.length/\k<=60) (fun(k,s)=>60-k) (0,m) ⟨rfl,rfl,rfl,gm rO,trivial⟩ (⟨n,sX.start i.1 i.2.1 i.2.2,o_,o_⟩) ?_
 rintro⟨k,s⟩ E G ⟨F,N,ad,ae⟩
 have aa:=(o6 (ye F 0 rfl)).1
 have Z:=aa.n0
 have ak:=N.now
 have al:=N.added
 refine fR F 5 ?_
 refine jY (v:=lv) rfl rfl underlying22 P ?_
 by_cases H:(k:Int)<(xs.length:Int)
 . refine fK F 3 ?_
   by_cases I:(k:Int)<60
   . refine gF F 10 ?_
     obtain⟨el,X⟩:=oW (show k<xs.length by omega)
     have O:=ac _ (ze X)
     have S:=O.u
     have T:=O.v
     have Y:=O.wt
     have Q:=O.af
     have am : -128<=el.wt/\el.wt<=127:=Y
     have ab:=O.ua Z o_
     have ai:0<=el.u/\el.u<=255:=S
     have aj:0<=el.v/\el.v<=255:=T
     have ah:0<=el.af/\el.af<=255:=Q
     refine kq mixed [([0,2,3,4,5,6,7,8,1],[6])] [9,10] F (fun t g=>jx ?_)
     refine fK g 6 ?_
     refine rem (a:=el.af) (b:=4) (e:=el.af%4) rfl rfl rfl d_ (Hu Q.1) (fK g 1 ?_)
     refine cl (afR cG c s t (ye g 0 rfl)) ?_
     rintro _ y ⟨rfl,ht⟩
     have f:=yh 0 g ht
     refine fP f 1 ?_
     refine jZ (kE ?_)
     refine gF f 14 ?_
     cases J:(el.wa:Bool)
     . skip
       refine ry f 10 fun z h=>?_
       refine rem (a:=el.u) (b:=12) (e:=el.u%12) rfl rfl rfl d_ (Hu S.1) (fK h 6 ?_)
       refine rem (a:=el.v) (b:=12) (e:=el.v%12) rfl rfl rfl d_ (Hu T.1) (fK h 8 ?_)
       refine iU (pvs:=[(0,(Zl (el.u%12))),(1,(Zl (el.v%12))),(2,(Za el.wt)),(3,(Za (s.now+(el.af%4))))]) (v:=.agg #[(Zl (el.u%12)),(Zl (el.v%12)),(Za el.wt),(Za (s.now+(el.af%4)))]) rfl rfl (jj [(0,(Zt (el.u%12))),(1,(Zt (el.v%12))),(2,(Ze el.wt)),(3,(Ze (s.now+(el.af%4))))] zG F9 rfl ⟨rfl,rfl,rfl,rfl,rfl,rfl,rfl,rfl,trivial⟩ rfl) (cl (afv cG c s z (ye h 0 rfl) (el.mv.ua s.now) ab (by show s.now<=s.now+el.af%4;omega) (by show s.now+el.af%4<=1000000;omega) o_) ?_)
       rintro _ K ⟨L,A,rfl,B,ht⟩
       have o:=yh 0 h ht
       refine fP o 8 ?_
       refine tN (?_)
       exact again ((k+1),A) ⟨rfl,rfl,rfl,gm rO,trivial⟩ (⟨o,N.next B (by show s.now+el.af%4<=s.now+3;omega) (by show 0<=el.u%12/\el.u%12<12;omega) (by show 0<=el.v%12/\el.v%12<12;omega) (by show -128<=el.wt/\el.wt<=127;omega),o_,o_⟩) (by show (60-(k+1):Nat)<60-k;omega)
     . skip
       refine fR f 6 ?_
       refine cl (TK cG c s y (ye f 0 rfl) (s.now+el.af%4) o_ o_) ?_
       rintro _ M ⟨C,rfl,l,ht⟩
       have p:=yh 0 f ht
       refine fP p 15 ?_
       refine tN (?_)
       exact again ((k+1),C) ⟨rfl,rfl,rfl,gm rO,trivial⟩ (⟨p,N.tick l.1 o_ l.2.1 l.2.2.1,o_,o_⟩) (by show (60-(k+1):Nat)<60-k;omega)
   . refine fP F 20 ?_
     refine rq (v:=(Zb c)) (v' := (Zb d)) (v'' := Zg) results6 rfl rfl rfl ?_
     exact⟨c,d,s,rfl,⟨_,N⟩,mD (yc [_,_] _ F)⟩
 . refine fP F 23 ?_
   refine rq (v:=(Zb c)) (v' := (Zb d)) (v'' := Zg) results6 rfl rfl rfl ?_
   exact⟨c,d,s,rfl,⟨_,N⟩,mD (yc [_,_] _ F)⟩
theorem aao(xs:List Mw)(w:World)(e:gY 5 Mw.cells (fun _=>True) w lv xs)(f:∀ x∈xs,x.mv.ok) :
 CR ya 6 #[lv] w (fun r w' => ∃ (b a:Nat) (s:WW),r = .tuple (MA b a)/\fV (gh []) w w' (HQ cG b s a)) :=
 CR.mono (aap lv xs w e f) fun r w' ⟨b,a,s,c,_,d⟩=>⟨b,a,s,c,d⟩
abbrev Vk.top(k:Vk)(T:Int)(x:Nat):Nat:=jP (gd k.es k.K.length k.c.f).p (gd k.es k.K.length k.c.f).h T x
abbrev Vk.gW(k:Vk)(T:Int)(x:Nat):Nat:=Go.Sx.gW k.es k.K.length k.c.f (k.top T x)
abbrev Vk.yZ(k:Vk)(T:Int)(x:Nat):Nat:=fJ (gd k.es k.K.length k.c.f).s (k.top T x)
theorem iE.JO{es:List Ge}{f:List Nat}(h:iE es n f){y:Nat}(a:y<n+f.length):gW es n f y<n:=by
 unfold gW
 split
 . assumption
 . have:=h.st (i:=y-n) o_
   omega
variable{k:Vk}
theorem Vk.JO(h:iE k.es k.K.length k.c.f){T:Int}{x:Nat}(i:x<k.K.length):k.gW T x<k.K.length:=by
 obtain⟨a,b,d,e,g⟩:=nY (es:=k.es) (n:=k.K.length) (f:=k.c.f)
 refine iE.JO h ?_
 have:=N9 (hs:=(gd k.es k.K.length k.c.f).h) (T:=T) (x:=x) (ps:=(gd k.es k.K.length k.c.f).p) o_ h.vp
 show jP _ _ _ _<_
 omega
theorem VV{t:TW}{id:Int}(h:t.cnt id=0):t.mem id:=by
 apply Classical.byContradiction
 intro a
 rw[TW.tZ a]at h
 cases h
theorem Vk.of.mem{s:WW}(h:Vk.of s k)(a:s.u.t.cnt u=0):u∈k.K:=(h.ids.mem u).2 (VV a)
theorem VF(P Q S:Nat)(u T:Int)(k:Vk)(w:World)(hO:Own (Ng k P u Q T S) w)(hu:u∈k.K) :
 CR ya 59 #[(EK k k.K.length),(Zb P),(Zb Q),(Zb S)] w (fun r w' => r = .tuple #[]/\∃ x:Int×Nat,x=(fJ k.K (k.gW T (gP k.K u)),k.yZ T (gP k.K u))/\fV (Ng k P u Q T S) w w' (gh [Vk.R k,(gh [blk P 39 (Zt u),blk Q 2 (Ze T),blk S 73 (Em x.1 x.2)])])):=by
 refine en func59 ntmps59 ?_
 have Y:=Own.of hO
 have U:=sM Y
 have ac:=U.n
 have aa:=(jM Y).unpack
 have g:=yf [8,0,1,2,3,4,5,6,7] aa
 have b:=yy g
 have ab:iE k.es k.K.length k.c.f:=(y9 aa (i:=6) rfl)
 have X:=(sB U.kF hu).1
 have ad:=Vk.JO ab (T:=T) X
 refine fR b 2 ?_
 refine ir b (fun B C D E d=>?_)
 refine gF d 3 ?_
 refine yT mixed [0,1,2,3,4,6] [5,7,11] [(5,[1,6]),(11,[1,3,4,6])] [8,9,10,12,13] d (fun G e=>zJ ?_)
 refine fP e 7 ?_
 refine pe trivial (zI [⟨5,13,[],[],Unit,fun _=>(Za (gP k.K u:Int)),fun _=>[]⟩,⟨7,15,[(13,(Za (gP k.K u:Int)))],[],Unit,fun _=>(.tuple #[(Ck ((k.gW T (gP k.K u):Nat):Int) ((k.yZ T (gP k.K u):Nat):Int)),Zc]),fun _=>[]⟩,⟨11,5,[],[],Nat,fun a=>(Zb a),fun a=>[blk a 138 vS]⟩] e ⟨nv (fun Z V F _=>cl (Da k.iv k.K u V (Sl.any (iN F 4 rfl)) U.kF o_) (fun _ _ h=>by obtain⟨rfl,W⟩:=h;exact have O:=(F.grow W);nF ⟨(),rfl,O,trivial⟩)),nv (fun Z V F _=>cl (V1 k.cb k.K.length k.es k.c V (uK.of (ye F 10 rfl)) o_ (gP k.K u) X T) (fun _ _ h=>by obtain⟨rfl,W⟩:=h;exact have O:=(F.grow W);nF ⟨(),rfl,O,trivial⟩)) (hd:=by intro p hp;first|(rcases zg.1 hp with rfl|hp;exact⟨_,by first|exact .head _|exact .tail _ (.head _),rfl,fun _=>rfl,by kernel_rfl⟩;cases hp)),nv (fun Z V F _=>al (cs:=vS) rfl GF rfl F (fun j _ _ _ h=>have O:=h;nF ⟨j,rfl,O,trivial⟩))⟩ ?_)
 rintro _ _ a H l
 refine ux l 7 fun I m=>?_
 refine kq mixed [([0,1,2,3,4,5,6,7,8],[1,3,5,7]),([9,10],[7])] [11,12] m (fun J o=>jx ?_)
 refine jH o 10 fun L q=>?_
 refine jZ (jx ?_)
 refine jH q 3 fun M s=>?_
 refine jZ (kE ?_)
 refine jH s 3 fun N t=>?_
 refine jc results59 ?_
 have v:=yf [2,3,4,0,1,5,6,7,8,9,10,11,12] t
 have y:=yc [_,_,_] _ v
 have z:=yf [3,4,5,6,7,8,9,10,0,1,2] y
 have A:=yn (p:=Vk.ok k) (yc [_,_,_,_,_,_,_,_] _ z) U
 exact⟨rfl,(fJ k.K (k.gW T (gP k.K u)),k.yZ T (gP k.K u)),rfl,yj (yc [_,_] _ A)⟩
theorem LQ(c:WC)(b a:Nat)(s:WW)(cs:List Value)(w:World)(g:Own (rQ b ((.pointer (some ⟨a,0,none⟩)) :: cs) c a s) w)(id:Int)(h:s.u.t.cnt id=0):CR ya 57 (Z7 b id) w (fun r w' => r = .bool true/\fV (rQ b ((.pointer (some ⟨a,0,none⟩)) :: cs) c a s) w w' (rQ b ((.pointer (some ⟨a,0,none⟩)) :: cs) c a s)) :=
 CR.mono (Tk c b a s cs w g id) fun r w' ⟨B,d,e,f⟩=>⟨by rw[d,e.2 h],f⟩
theorem afp(c:WC)(b a:Nat)(s:WW)(cs:List Value)(w:World)(g:Own (rQ b ((.pointer (some ⟨a,0,none⟩)) :: cs) c a s) w)(id:Int)(i:s.u.t.cnt id≠0):CR ya 57 (Z7 b id) w (fun r w' => r = .bool false/\fV (rQ b ((.pointer (some ⟨a,0,none⟩)) :: cs) c a s) w w' (rQ b ((.pointer (some ⟨a,0,none⟩)) :: cs) c a s)) :=
 CR.mono (Tk c b a s cs w g id) fun r w' ⟨B,d,e,f⟩=>⟨by rw[d,Bool.eq_false_iff.2 (fun h=>i (e.1 h))],f⟩
theorem afo(c:WC)(F fM:Nat)(s:WW)(w:World)(hO:Own (tU F fM c s) w)(ag:c.fN<=12)(u T:Int)(hu:s.u.t.cnt u=0) :
 CR ya 25 #[(Zb F),(Zl u),(Za T)] w (fun r w' => ∃ (k:Vk) (x:Int×Nat),r = .tuple #[.agg #[.int .u64 x.1,.int .i64 (x.2:Int)],.int .i64 0]/\(Vk.of s k/\x=(fJ k.K (k.gW T (gP k.K u)),k.yZ T (gP k.K u)))/\fV (tU F fM c s) w w' (Nk F fM (IntKind.u64.wrap (s.added+s.jX)) k k.K.length c s)):=by
 refine en func25 ntmps25 ?_
 have ae:=(yt hO).unpack
 refine fR ae 2 ?_
 refine ir ae (fun b P Q R q=>?_)
 refine ir q (fun d S U V y=>?_)
 refine iR y (fun W z X Y f=>?_)
 refine fK f 7 ?_
 refine cl (DB F fM _ z (ye f 3 rfl)) ?_
 rintro _ A ⟨rfl,ht⟩
 have h:=yh 3 f ht
 have B:=yf [3,4,0,1,2] h
 have j:=yc [_,_] _ B
 refine fK h 11 ?_
 refine cl (LQ c F fM s _ A (ye j 0 rfl) u hu) ?_
 rintro _ Z ⟨rfl,C⟩
 have l:=(yi j C)
 refine fK l 8 ?_
 refine iR l (fun e D aa ab m=>?_)
 refine fK m 5 ?_
 refine mX (vf:=[]) (vc:=(uU b d e)) rfl rfl rfl ?_
 have E:=yf [5,4,0,1,2,3] m
 have G:=yc [_,_,_] _ E
 have H:=yf [1,2,0,3] G
 have n:=yc [_,_,_] _ H
 refine cl (afH c F fM s D (gh [blk b 39 (Zt u),blk d 2 (Ze T),blk e 73 [Zy,Zc]]) (fun x:Int×Nat=>gh [blk b 39 (Zt u),blk d 2 (Ze T),blk e 73 (Em x.1 x.2)]) (fun k x=>x=(fJ k.K (k.gW T (gP k.K u)),k.yZ T (gP k.K u))) 59 (uU b d e) eN (fun k w1 af hO=>VF b d e u T k w1 hO (af.mem hu)) (ye n 0 rfl) ag) ?_
 rintro _ ac ⟨I,a,rfl,J,L⟩
 have M:=(yi n L)
 have N:=yf [3,0,1,2,4] M
 have p:=yy N
 refine fK p 5 ?_
 refine jt 6 p (fun ad g=>?_)
 refine fP g 4 ?_
 refine o7 (v:=(.agg #[(Zl a.1),(Za a.2)])) (v' := Zc) results25 (nX (cs:=(Em a.1 a.2)) rfl G4 rfl GQ rfl (mO g (i:=6) (o:=0) (vs:=(Em a.1 a.2)) rfl rfl)) (pN rfl) ?_
 have O:=yf [3,4,5] g
 exact⟨I,a,rfl,J,yj (yc [_,_,_] _ O)⟩
theorem afn(c:WC)(fN F:Nat)(s:WW)(cs:List Value)(w:World)(K:Own (rQ fN ((.pointer (some ⟨F,0,none⟩)) :: cs) c F s) w)(u T:Int)(L:s.u.t.cnt u≠0) :
 CR ya 25 #[(Zb fN),(Zl u),(Za T)] w (fun r w' => r = .tuple #[.agg HV,.int .i64 13]/\fV (rQ fN ((.pointer (some ⟨F,0,none⟩)) :: cs) c F s) w w' (rQ fN ((.pointer (some ⟨F,0,none⟩)) :: cs) c F s)):=by
 refine en func25 ntmps25 ?_
 have J:=(yt K).unpack
 refine fR J 2 ?_
 refine ir J (fun n p q x g=>?_)
 refine ir g (fun y z A B h=>?_)
 refine iR h (fun C j D E a=>?_)
 refine fK a 7 ?_
 refine cl (DB fN F _ j (ye a 3 rfl)) ?_
 rintro _ k ⟨rfl,ht⟩
 have b:=yh 3 a ht
 have l:=yf [3,4,0,1,2] b
 have d:=yc [_,_] _ l
 refine fK b 11 ?_
 refine cl (afp c fN F s _ k (ye d 0 rfl) u L) ?_
 rintro _ G ⟨rfl,m⟩
 have e:=(yi d m)
 refine fK e 6 ?_
 refine iU (pvs:=[]) (v:=.agg HV) rfl rfl (jj [] GQ abG rfl trivial rfl) (jH e 6 fun H f=>?_)
 refine o7 (v:=(.agg HV)) (v' := (.int .i64 13)) results25 (nX (cs:=[Zy,Zc]) rfl G4 rfl GQ rfl (mO f (i:=2) (o:=0) (vs:=[Zy,Zc]) rfl rfl)) (pN rfl) ?_
 exact⟨rfl,yj (yc [_,_] _ f)⟩
theorem Own.still{R:fT}{w w':World}(h:Own R w)(hc:gx [] w w'):fV R w w' R:=ym (yr (yt h) hc) zd
def Vk.mm(k:Vk)(u v:Nat)(x:Int×Bool):Prop:=(u=v->x.1 = -9223372036854775808/\x.2=true) /\
 (u≠v->∃ z,sQ (gd k.es k.K.length k.q.f).p u v z x.2/\(x.2=true->x.1=fJ (gd k.es k.K.length k.q.f).h z)/\(x.2=false->x.1=0))
theorem Z3(k:Vk)(w:World)(a:Own (sZ k k.K.length) w)(f:k.K.length<=4096)(e:(j5 o).holds w)(u v:Nat)(g:u<k.K.length)(hv:v<k.K.length) :
 CR ya 63 (Zv k.mb u v) w (fun r w' => ∃ (z:Int) (y:Bool),r = .tuple (Z9 z y)/\k.mm u v (z,y)/\fV (sZ k k.K.length) w w' (sZ k k.K.length)) :=
 CR.mono (aaa k.mb k.K.length k.es k.q w (uP.of a) f e u v g hv) fun r w' ⟨z,y,b,c,d⟩=>⟨z,y,b,c,Own.still a d⟩
theorem aam(M fM O L:Nat)(a ed:Int)(k:Vk)(w:World)(Q:Own (Nh k M a fM ed O L (j5 o)) w)(S:a∈k.K)(T:ed∈k.K) :
 CR ya 62 #[(EK k k.K.length),(Zb M),(Zb fM),(Zb O),(Zb L)] w (fun r w' => r = .tuple #[]/\∃ x:Int×Bool,k.mm (gP k.K a) (gP k.K ed) x/\fV (Nh k M a fM ed O L (j5 o)) w w' (gh [Vk.R k,(gh [blk M 39 (Zt a),blk fM 39 (Zt ed),blk O 2 (Ze x.1),blk L 4 [(.bool x.2)],(j5 o)])])):=by
 refine en func62 ntmps62 ?_
 have P:=Own.of Q
 have F:=sM P
 have X:=F.n
 have W:=(jM P).unpack
 have g:=yf [8,0,1,2,3,4,5,6,7] W
 have e:=yy g
 have U:=(sB F.kF S).1
 have V:=(sB F.kF T).1
 refine fR e 2 ?_
 refine ir e (fun D E G H f=>?_)
 refine gF f 2 ?_
 refine kq mixed [([0,1,2,3,4,6,7,8,5],[1,7,8]),([9],[1])] [10,11,12,13,14,15] f (fun h c=>jx ?_)
 refine fK c 8 ?_
 refine cl (Da k.iv k.K a h (Sl.any (iN c 6 rfl)) F.kF o_) ?_
 rintro _ j ⟨rfl,l⟩
 have d:=yr c l
 refine fP d 1 ?_
 refine jZ (jx ?_)
 refine cl (Da k.iv k.K ed j (Sl.any (iN d 6 rfl)) F.kF o_) ?_
 rintro _ m ⟨rfl,q⟩
 have b:=yr d q
 refine fP b 1 ?_
 refine jZ (kE ?_)
 refine cl (Z3 k m (ye b 13 rfl) o_ (St.at b (i:=5) rfl) (gP k.K a) (gP k.K ed) U V) ?_
 rintro _ I ⟨s,t,rfl,u,ht⟩
 have v:=yh 13 b ht
 refine jH v 6 fun J y=>?_
 refine jc results62 ?_
 have z:=yf [1,2,3,4,5,0,6,7,8,9,10,11,12,13] y
 have A:=yc [_,_,_,_,_] _ z
 have B:=yf [2,3,4,5,6,7,8,9,0,1] A
 have C:=yn (p:=Vk.ok k) (yc [_,_,_,_,_,_,_,_] _ B) F
 exact⟨rfl,(s,t),u,yj (yc [_,_] _ C)⟩
theorem afs(c:WC)(F T:Nat)(s:WW)(k:Vk)(ai:Vk.of s k)(b:Int)(w:World)(hO:Own (u5 F T (IntKind.u64.wrap (s.added+s.jX)) k k.K.length b c s (j5 o)) w)(a a2:Int)(hu:s.u.t.cnt a=0)(ak:s.u.t.cnt a2=0) :
 CR ya 26 #[(Zb F),(Zl a),(Zl a2)] w (fun r w' => ∃ (x:Int×Bool),r = .tuple #[.int .i64 x.1,.bool x.2,.int .i64 0]/\k.mm (gP k.K a) (gP k.K a2) x/\fV (u5 F T (IntKind.u64.wrap (s.added+s.jX)) k k.K.length b c s (j5 o)) w w' (u5 F T (IntKind.u64.wrap (s.added+s.jX)) k k.K.length b c s (j5 o))):=by
 refine en func26 ntmps26 ?_
 have aj:=(yt hO).unpack
 refine fR aj 2 ?_
 refine ir aj (fun d V W X A=>?_)
 refine ir A (fun e B Y Z h=>?_)
 refine fK h 9 ?_
 refine cl (DB F T _ B (ye h 2 rfl)) ?_
 rintro _ C ⟨rfl,ht⟩
 have j:=yh 2 h ht
 have D:=yf [2,4,0,1,3,5] j
 have l:=yc [_,_] _ D
 refine fK j 11 ?_
 refine cl (LQ c F T s _ C (ye l 0 rfl) a hu) ?_
 rintro _ E ⟨rfl,G⟩
 have m:=(yi l G)
 have n:=yc [_,_] _ m
 refine fK m 4 ?_
 refine cl (LQ c F T s _ E (ye n 0 rfl) a2 ak) ?_
 rintro _ aa ⟨rfl,H⟩
 have p:=(yi n H)
 refine fK p 9 ?_
 refine iR p (fun f ab ac ad q=>?_)
 refine fK q 4 ?_
 refine iR q (fun g I ae af y=>?_)
 refine fK y 5 ?_
 refine mX (vf:=[]) (vc:=(Nb d e f g)) rfl rfl rfl ?_
 have J:=yf [5,4,1,0,7,2,3,6] y
 have L:=yc [_,_,_,_,_] _ J
 have M:=yf [1,3,2,0] L
 have z:=yc [_,_,_,_] _ M
 refine cl (Tz c F T s I (gh [blk d 39 (Zt a),blk e 39 (Zt a2),blk f 2 [Zc],blk g 4 [Zn],(j5 o)]) (fun x:Int×Bool=>gh [blk d 39 (Zt a),blk e 39 (Zt a2),blk f 2 (Ze x.1),blk g 4 [(.bool x.2)],(j5 o)]) (fun k x=>k.mm (gP k.K a) (gP k.K a2) x) 62 (Nb d e f g) eN (fun k w1 ai hO=>aam d e f g a a2 k w1 hO (ai.mem hu) (ai.mem ak)) k ai b (ye z 0 rfl)) ?_
 rintro _ ag ⟨i,rfl,N,O⟩
 have P:=(yi z O)
 have Q:=yf [3,0,1,2] P
 have R:=yy Q
 refine jH R 12 fun ah S=>?_
 refine rq (v:=(Za i.1)) (v' := (.bool i.2)) (v'' := Zc) results26 rfl rfl rfl ?_
 have U:=yf [5,6,7,4] S
 exact⟨i,rfl,N,yj (yc [_,_,_,_] _ U)⟩
structure kS where
 a:Int
 b:Int
instance:Inhabited kS:=⟨⟨0,0⟩⟩
def kS.cells(x:kS):List Value:=[.int .u64 x.a,.int .u64 x.b]
abbrev Vk.mg(k:Vk):List Mg:=oB k.es k.K.length k.f k.f.length
def Vk.mI(k:Vk)(j:Nat):List kS:=(k.mg.take j).map fun m=>⟨fJ k.K m.a,fJ k.K m.b⟩
def Vk.mH(k:Vk)(j:Nat):List Int:=(k.mg.take j).map Mg.h
abbrev Ni a (b:Nat) c (d:Nat) e f g:=(gh [Vk.R a,gh [blk b 81 [c],blk d 78 [e],fL kS.cells c 128 2 f,fL gi e 2 1 g]]:fT)
abbrev Nl(a b:Nat)(c:Int)(d:Vk)(e f:Int) g h i j k l:=(gh [blk a 108 [.pointer (some ⟨b,0,none⟩),.bool true,.int .u64 c,d.iv,.int .i64 e,d.lv,d.rv,d.pv,d.hv,d.sv,.pointer (some ⟨d.cb,0,none⟩),.pointer (some ⟨d.mb,0,none⟩),.int .i64 f],Vk.R d,WW.R g b h,fL kS.cells i 128 2 j,fL gi k 2 1 l]:fT)
abbrev Cg(a:Nat) b (c:Nat) d e f g h (i:Nat) j (k:Nat) l m n o p (q r:Nat) s (t:nK) u v x:=([blk a 81 [b],blk c 78 [d],fL kS.cells b 128 2 e,fL gi d 2 1 f,fL Mg.cells g 158 5 h,blk i 106 (Cq j k l m n o p q r),fL gQ j 39 1 s,fL gi l 3 1 t.l,fL gi m 3 1 t.r,fL gi n 3 1 t.p,fL gi o 2 1 t.h,fL fU p 3 1 t.s,Cv.R q k u v,Mf.R r k u x]:List fT)
abbrev MD a (b:Nat) (c d e f:Int) (g:Nat) h (i:Nat) j k l m n o (p:Nat) q (r:Nat) s t u v x (y z:Nat) aa (ab:nK) ac ad ae:=([a,blk b 158 (Cp c d e f),blk g 81 [h],blk i 78 [j],fL kS.cells k 128 2 l,fL gi j 2 1 m,fL Mg.cells n 158 5 o,blk p 106 (Cq q r s t u v x y z),fL gQ q 39 1 aa,fL gi s 3 1 ab.l,fL gi t 3 1 ab.r,fL gi u 3 1 ab.p,fL gi v 2 1 ab.h,fL fU x 3 1 ab.s,Cv.R y r ac ad,Mf.R z r ac ae]:List fT)
abbrev MY(a:Nat) b (c:Nat) (d e f g:Int) (h:Nat) i (j:Nat) k l m n o p (q:Nat) r (s:Nat) t u v x y (z A:Nat) ab (w:nK) ad ae af:=([iz .i64 (Z4 a) 2 b,blk c 158 (Cp d e f g),blk h 81 [i],blk j 78 [k],fL kS.cells i 128 2 l,fL gi m 2 1 n,fL Mg.cells o 158 5 p,blk q 106 (Cq r s t u v x y z A),fL gQ r 39 1 ab,fL gi t 3 1 w.l,fL gi u 3 1 w.r,fL gi v 3 1 w.p,fL gi x 2 1 w.h,fL fU y 3 1 w.s,Cv.R z s ad ae,Mf.R A s ad af]:List fT)
theorem Vk.aad(h:iE k.es k.K.length k.f){i:Nat}(hi:i<k.f.length):(fJ k.mg i).a<k.K.length/\(fJ k.mg i).b<k.K.length:=by
 rw[iS (show k.mg[i]? = some (J6 k.es k.K.length k.f i) by show ((List.range k.f.length).map _)[i]? = _;simp[hi])]
 have:=h.st hi
 show nA _ _ _ _<_/\nB _ _ _ _<_
 omega
theorem Vk.ZM(h:j<k.mg.length):k.mI (j+1)=k.mI j++[⟨fJ k.K (fJ k.mg j).a,fJ k.K (fJ k.mg j).b⟩]:=GC _ h
theorem Vk.ZK(h:j<k.mg.length):k.mH (j+1)=k.mH j++[(fJ k.mg j).h]:=GC _ h
theorem Vk.ZL:(k.mI j).length<=j:=by simp[Vk.mI];omega
theorem Vk.ZJ:(k.mH j).length<=j:=by simp[Vk.mH];omega
theorem ZV(k:Vk)(w:World)(hO:Own (HP k fN fM) w) :
 CR ya 69 #[(EK k k.K.length),(Zb fN),(Zb fM)] w (fun r w' => r = .tuple #[]/\∃ x:Value×Value×List kS×List Int,(x.2.2.1=k.mI k.mg.length/\x.2.2.2=k.mH k.mg.length)/\fV (HP k fN fM) w w' (Ni k fN x.1 fM x.2.1 x.2.2.1 x.2.2.2)):=by
 refine enter (vs:=[(EK k k.K.length),(Zb fN),(Zb fM)]) func69 rfl ntmps69 rfl ?_
 have aI:St _ [Vk.R k,(HT fN fM)] w:=Own.of hO
 have T:=sM aI
 have aR:=T.n
 have aL:St _ [fL gQ k.iv 39 1 k.K,fL gi k.lv 3 1 ((gd k.es k.K.length k.f).l),fL gi k.rv 3 1 ((gd k.es k.K.length k.f).r),fL gi k.pv 3 1 ((gd k.es k.K.length k.f).p),fL gi k.hv 2 1 ((gd k.es k.K.length k.f).h),fL fU k.sv 3 1 ((gd k.es k.K.length k.f).s),(vT k k.K.length),(sZ k k.K.length),(HT fN fM)] w:=(jM aI).unpack
 have S:=yf [8,0,1,2,3,4,5,6,7] aL
 have M:St _ [blk fN 81 oP,blk fM 78 oP,fL gQ k.iv 39 1 k.K,fL gi k.lv 3 1 ((gd k.es k.K.length k.f).l),fL gi k.rv 3 1 ((gd k.es k.K.length k.f).r),fL gi k.pv 3 1 ((gd k.es k.K.length k.f).p),fL gi k.hv 2 1 ((gd k.es k.K.length k.f).h),fL fU k.sv 3 1 ((gd k.es k.K.length k.f).s),(vT k k.K.length),(sZ k k.K.length)] w:=yy S
 have aK:k.mg.length=k.f.length:=P8
 have aO:=T.fg.f.room T.fg.g
 refine fR M 2 ?_
 refine ir M (fun e U am an t=>?_)
 refine fK t 6 ?_
 refine jw (vl:=(El k.K.length k.lv k.rv k.pv k.hv k.sv)) rfl rfl eN (Wr k.es k.K.length k.f T.fg o_ k.lv k.rv k.pv k.hv k.sv U ⟨(qt t (i:=4) rfl f_).any,(qt t (i:=5) rfl f_).any,(qt t (i:=6) rfl f_).any,(qt t (i:=7) rfl f_).any,(qt t (i:=8) rfl f_).any⟩) ?_
 rintro _ D ⟨d,rfl,ht⟩
 have A:St _ [fL Mg.cells d 158 5 k.mg,blk e 106 (uV k k.K.length),blk fN 81 oP,blk fM 78 oP,fL gQ k.iv 39 1 k.K,fL gi k.lv 3 1 ((gd k.es k.K.length k.f).l),fL gi k.rv 3 1 ((gd k.es k.K.length k.f).r),fL gi k.pv 3 1 ((gd k.es k.K.length k.f).p),fL gi k.hv 2 1 ((gd k.es k.K.length k.f).h),fL fU k.sv 3 1 ((gd k.es k.K.length k.f).s),(vT k k.K.length),(sZ k k.K.length)] D:=(jm (R:=fL Mg.cells d 158 5 k.mg) t ht)
 refine fK A 10 ?_
 refine iV (m:=k.mg.length) 0 rfl rfl Hg A rfl ?_
 have V:St _ [fL kS.cells Zi 128 2 (k.mI 0),fL Mg.cells d 158 5 k.mg,blk e 106 (uV k k.K.length),blk fN 81 oP,blk fM 78 oP,fL gQ k.iv 39 1 k.K,fL gi k.lv 3 1 ((gd k.es k.K.length k.f).l),fL gi k.rv 3 1 ((gd k.es k.K.length k.f).r),fL gi k.pv 3 1 ((gd k.es k.K.length k.f).p),fL gi k.hv 2 1 ((gd k.es k.K.length k.f).h),fL fU k.sv 3 1 ((gd k.es k.K.length k.f).s),(vT k k.K.length),(sZ k k.K.length)] D:=qJ A 128 2
 have W:St _ [fL gi Zi 2 1 (k.mH 0),fL kS.cells Zi 128 2 (k.mI 0),fL Mg.cells d 158 5 k.mg,blk e 106 (uV k k.K.length),blk fN 81 oP,blk fM 78 oP,fL gQ k.iv 39 1 k.K,fL gi k.lv 3 1 ((gd k.es k.K.length k.f).l),fL gi k.rv 3 1 ((gd k.es k.K.length k.f).r),fL gi k.pv 3 1 ((gd k.es k.K.length k.f).p),fL gi k.hv 2 1 ((gd k.es k.K.length k.f).h),fL fU k.sv 3 1 ((gd k.es k.K.length k.f).s),(vT k k.K.length),(sZ k k.K.length)] D:=qJ V 2 1
 have X:=yf [4,5,1,0,2,3,6,7,8,9,10,11,12,13] W
 refine gF A 4 ?_
 refine lp (α:=Nat×Value×Value) (fun(i,F,hv)=>[(1,(Zb fN)),(2,(Zb fM)),(3,(Zb e)),(14,d),(15,(Za k.mg.length)),(16,(Za i))]) (fun(i,F,hv) w1=>St [(w,(HP k fN fM).gJ)] (Cg fN F fM hv (k.mI i) (k.mH i) d k.mg e k.iv k.K.length k.lv k.rv k.pv k.hv k.sv k.cb k.mb k.K (gd k.es k.K.length k.f) k.es k.c k.q) w1/\i<=k.mg.length) (fun(i,F,hv)=>k.mg.length-i) (0,Zi,Zi) ⟨rfl,rfl,rfl,rfl,rfl,gm (by first|rfl|omega),trivial⟩ (⟨X,o_⟩) ?_
 rintro⟨i,F,hv⟩ ao B ⟨aF,hi⟩
 have aQ:=Vk.ZL (k:=k) (j:=i)
 have aP:=Vk.ZJ (k:=k) (j:=i)
 refine fR aF 2 ?_
 by_cases ap:(i:Int)<(k.mg.length:Int)
 . have aJ:i<k.f.length:=by have h7:=aK;omega
   have aG:=Vk.aad T.fg aJ
   have aM:=aG.1
   have aN:=aG.2
   refine fK aF 13 ?_
   refine iR aF (fun y aq ar au Y=>?_)
   refine ux Y 4 fun aw Z=>?_
   refine kq mixed [([0,1,2,3,4,5,6,7,8,9,10,11,12,13,14],[0])] [15,16] Z (fun ax N=>jx ?_)
   refine fK N 13 ?_
   refine iU (pvs:=[(0,(Zl (fJ k.K ((fJ k.mg i).a)))),(1,(Zl (fJ k.K ((fJ k.mg i).b))))]) (v:=.agg (uS (fJ k.K ((fJ k.mg i).a)) (fJ k.K ((fJ k.mg i).b)))) rfl rfl (tY [(0,(Zt (fJ k.K ((fJ k.mg i).a)))),(1,(Zt (fJ k.K ((fJ k.mg i).b))))] uA y8 iX rfl ⟨rfl,rfl,rfl,rfl,trivial⟩ rfl s_) (jW (vs:=[(Ij (fJ k.K ((fJ k.mg i).a)) (fJ k.K ((fJ k.mg i).b)))]) (cs:=[(Zl (fJ k.K ((fJ k.mg i).a))),(Zl (fJ k.K ((fJ k.mg i).b)))]) rfl rfl BD uA rfl (by simp[Value.cells]) rfl rfl rfl N ?_)
   intro E aa ay az z
   have z:St _ [row (Z4 E) 128 2 1 ([(Zl (fJ k.K ((fJ k.mg i).a))),(Zl (fJ k.K ((fJ k.mg i).b)))]),blk y 158 (Cp ((fJ k.mg i).a:Int) ((fJ k.mg i).b:Int) ((fJ k.mg i).h) ((fJ k.mg i).s:Int)),blk fN 81 [F],blk fM 78 [hv],fL kS.cells F 128 2 (k.mI i),fL gi hv 2 1 (k.mH i),fL Mg.cells d 158 5 k.mg,blk e 106 (uV k k.K.length),fL gQ k.iv 39 1 k.K,fL gi k.lv 3 1 ((gd k.es k.K.length k.f).l),fL gi k.rv 3 1 ((gd k.es k.K.length k.f).r),fL gi k.pv 3 1 ((gd k.es k.K.length k.f).p),fL gi k.hv 2 1 ((gd k.es k.K.length k.f).h),fL fU k.sv 3 1 ((gd k.es k.K.length k.f).s),(vT k k.K.length),(sZ k k.K.length)] aa:=z
   refine fP z 1 ?_
   refine jZ (kE ?_)
   refine lR (cf:=kS.cells) (ys:=(k.mI i)) (zs:=[(⟨(fJ k.K ((fJ k.mg i).a)),(fJ k.K ((fJ k.mg i).b))⟩:kS)]) (LL:=fun o=>(MD (row (.slice (some ⟨E,0,none⟩) 1 1) 128 2 1 ([(.int .u64 (fJ k.K ((fJ k.mg i).a))),(.int .u64 (fJ k.K ((fJ k.mg i).b)))])) y ((fJ k.mg i).a:Int) ((fJ k.mg i).b:Int) ((fJ k.mg i).h) ((fJ k.mg i).s:Int) fN F fM hv o ((k.mI i)++[(⟨(fJ k.K ((fJ k.mg i).a)),(fJ k.K ((fJ k.mg i).b))⟩:kS)]) (k.mH i) d k.mg e k.iv k.K.length k.lv k.rv k.pv k.hv k.sv k.cb k.mb k.K (gd k.es k.K.length k.f) k.es k.c k.q)) 4 rfl rfl rfl BD uA rfl d_ z rfl (lF z (i:=0) rfl) (fun x hx=>z6.1 (show List.all _ _=true from rfl) x hx) (by simp only[zh,zk,maxLen];omega) (by simp only[zh,zk,maxLen];omega) f_ ?_
   intro o ab G aA
   have G:St _ (MD (row (.slice (some ⟨E,0,none⟩) 1 1) 128 2 1 ([(.int .u64 (fJ k.K ((fJ k.mg i).a))),(.int .u64 (fJ k.K ((fJ k.mg i).b)))])) y ((fJ k.mg i).a:Int) ((fJ k.mg i).b:Int) ((fJ k.mg i).h) ((fJ k.mg i).s:Int) fN F fM hv o ((k.mI i)++[(⟨(fJ k.K ((fJ k.mg i).a)),(fJ k.K ((fJ k.mg i).b))⟩:kS)]) (k.mH i) d k.mg e k.iv k.K.length k.lv k.rv k.pv k.hv k.sv k.cb k.mb k.K (gd k.es k.K.length k.f) k.es k.c k.q) ab:=G
   have H:=yf [1,2,3,4,5,6,7,8,9,10,11,12,13,14,15] G
   refine jt 1 H (fun aB O=>?_) (hvs:=(cells_one (yv H (i:=3) rfl))) (h1:=(gX (yv H (i:=3) rfl) jV))
   refine fK O 7 ?_
   refine jW (vs:=(Ze ((fJ k.mg i).h))) (cs:=(Ze ((fJ k.mg i).h))) rfl rfl n9 ti2 rfl (by simp[Value.cells]) rfl rfl rfl O ?_
   intro I ac aC aD C
   have C:St _ [iz .i64 (Z4 I) 2 ([(fJ k.mg i).h]),blk y 158 (Cp ((fJ k.mg i).a:Int) ((fJ k.mg i).b:Int) ((fJ k.mg i).h) ((fJ k.mg i).s:Int)),blk fN 81 [o],blk fM 78 [hv],fL kS.cells o 128 2 ((k.mI i)++[(⟨(fJ k.K ((fJ k.mg i).a)),(fJ k.K ((fJ k.mg i).b))⟩:kS)]),fL gi hv 2 1 (k.mH i),fL Mg.cells d 158 5 k.mg,blk e 106 (uV k k.K.length),fL gQ k.iv 39 1 k.K,fL gi k.lv 3 1 ((gd k.es k.K.length k.f).l),fL gi k.rv 3 1 ((gd k.es k.K.length k.f).r),fL gi k.pv 3 1 ((gd k.es k.K.length k.f).p),fL gi k.hv 2 1 ((gd k.es k.K.length k.f).h),fL fU k.sv 3 1 ((gd k.es k.K.length k.f).s),(vT k k.K.length),(sZ k k.K.length)] ac:=C
   refine lR (cf:=gi) (ys:=(k.mH i)) (zs:=[(fJ k.mg i).h]) (LL:=fun u=>(MY I ([(fJ k.mg i).h]) y ((fJ k.mg i).a:Int) ((fJ k.mg i).b:Int) ((fJ k.mg i).h) ((fJ k.mg i).s:Int) fN o fM hv ((k.mI i)++[(⟨(fJ k.K ((fJ k.mg i).a)),(fJ k.K ((fJ k.mg i).b))⟩:kS)]) u ((k.mH i)++[(fJ k.mg i).h]) d k.mg e k.iv k.K.length k.lv k.rv k.pv k.hv k.sv k.cb k.mb k.K (gd k.es k.K.length k.f) k.es k.c k.q)) 5 rfl rfl rfl n9 ti2 rfl d_ C rfl (lF C (i:=0) rfl) (fun x hx=>z6.1 (show List.all _ _=true from rfl) x hx) (by simp only[zh,zk,maxLen];omega) (by simp only[zh,zk,maxLen];omega) f_ ?_
   intro u ad J aE
   have J:St _ (MY I ([(fJ k.mg i).h]) y ((fJ k.mg i).a:Int) ((fJ k.mg i).b:Int) ((fJ k.mg i).h) ((fJ k.mg i).s:Int) fN o fM hv ((k.mI i)++[(⟨(fJ k.K ((fJ k.mg i).a)),(fJ k.K ((fJ k.mg i).b))⟩:kS)]) u ((k.mH i)++[(fJ k.mg i).h]) d k.mg e k.iv k.K.length k.lv k.rv k.pv k.hv k.sv k.cb k.mb k.K (gd k.es k.K.length k.f) k.es k.c k.q) ad:=J
   have L:=yf [1,2,3,4,5,6,7,8,9,10,11,12,13,14,15] J
   refine jt 2 L (fun P Q=>?_) (hvs:=(cells_one (yv L (i:=4) rfl))) (h1:=(gX (yv L (i:=4) rfl) jV))
   refine fP Q 7 ?_
   refine tN (?_)
   have ae:=yf [1,2,3,4,5,6,7,8,9,10,11,12,13,14] Q
   have af:St _ (Cg fN o fM u (k.mI (i+1)) ((k.mH i)++[(fJ k.mg i).h]) d k.mg e k.iv k.K.length k.lv k.rv k.pv k.hv k.sv k.cb k.mb k.K (gd k.es k.K.length k.f) k.es k.c k.q) P:=yx 2 ae rfl (congrArg (fL kS.cells o 128 2) ((Vk.ZM o_).symm))
   have ag:St _ (Cg fN o fM u (k.mI (i+1)) (k.mH (i+1)) d k.mg e k.iv k.K.length k.lv k.rv k.pv k.hv k.sv k.cb k.mb k.K (gd k.es k.K.length k.f) k.es k.c k.q) P:=yx 3 af rfl (congrArg (fL gi u 2 1) ((Vk.ZK o_).symm))
   exact again ((i+1),o,u) ⟨rfl,rfl,rfl,rfl,rfl,gm (by first|rfl|omega),trivial⟩ (⟨ag,o_⟩) (by show (k.mg.length-(i+1):Nat)<k.mg.length-i;omega)
 . refine fP aF 9 ?_
   refine jc results69 ?_
   have aH:i=k.mg.length:=by omega
   have ah:St _ (Cg fN F fM hv (k.mI k.mg.length) (k.mH i) d k.mg e k.iv k.K.length k.lv k.rv k.pv k.hv k.sv k.cb k.mb k.K (gd k.es k.K.length k.f) k.es k.c k.q) B:=yx 2 aF rfl (congrArg (fL kS.cells F 128 2) (congrArg k.mI aH))
   have ai:St _ (Cg fN F fM hv (k.mI k.mg.length) (k.mH k.mg.length) d k.mg e k.iv k.K.length k.lv k.rv k.pv k.hv k.sv k.cb k.mb k.K (gd k.es k.K.length k.f) k.es k.c k.q) B:=yx 3 ah rfl (congrArg (fL gi hv 2 1) (congrArg k.mH aH))
   have aj:St _ [(gh [blk fN 81 [F],blk fM 78 [hv],fL kS.cells F 128 2 (k.mI k.mg.length),fL gi hv 2 1 (k.mH k.mg.length)]),fL Mg.cells d 158 5 k.mg,blk e 106 (uV k k.K.length),fL gQ k.iv 39 1 k.K,fL gi k.lv 3 1 ((gd k.es k.K.length k.f).l),fL gi k.rv 3 1 ((gd k.es k.K.length k.f).r),fL gi k.pv 3 1 ((gd k.es k.K.length k.f).p),fL gi k.hv 2 1 ((gd k.es k.K.length k.f).h),fL fU k.sv 3 1 ((gd k.es k.K.length k.f).s),(vT k k.K.length),(sZ k k.K.length)] B:=yc [_,_,_,_] _ ai
   have ak:=yf [3,4,5,6,7,8,9,10,0,1,2] aj
   have al:St _ [(Vk.R k),(gh [blk fN 81 [F],blk fM 78 [hv],fL kS.cells F 128 2 (k.mI k.mg.length),fL gi hv 2 1 (k.mH k.mg.length)]),fL Mg.cells d 158 5 k.mg,blk e 106 (uV k k.K.length)] B:=yn (p:=Vk.ok k) (yc [_,_,_,_,_,_,_,_] _ ak) T
   exact⟨rfl,(F,hv,k.mI k.mg.length,k.mH k.mg.length),⟨rfl,rfl⟩,ym (R' := (Ni k fN F fM hv (k.mI k.mg.length) (k.mH k.mg.length))) (yc [_,_] _ al) zd⟩
theorem afr(c:WC)(F Q:Nat)(s:WW)(k:Vk)(T:Vk.of s k)(b:Int)(w:World)(R:Own (ED F Q (IntKind.u64.wrap (s.added+s.jX)) k k.K.length b c s) w) :
 CR ya 28 (Zh F) w (fun r w' => ∃ (S hv:Value),r = .tuple #[S,hv]/\fV (ED F Q (IntKind.u64.wrap (s.added+s.jX)) k k.K.length b c s) w w' (Nl F Q (IntKind.u64.wrap (s.added+s.jX)) k k.K.length b c s S (k.mI k.mg.length) hv (k.mH k.mg.length))):=by
 refine en func28 ntmps28 ?_
 have U:=(yt R).unpack
 refine fR U 2 ?_
 refine iR U (fun a G H I p=>?_)
 refine iR p (fun d q J L j=>?_)
 refine fK j 6 ?_
 refine cl (DB F Q _ q (ye j 2 rfl)) ?_
 rintro _ t ⟨rfl,ht⟩
 have l:=yh 2 j ht
 refine fK l 9 ?_
 refine mX (vf:=[]) (vc:=(sY a d)) rfl rfl rfl ?_
 have u:=yf [1,0,2,3,4] l
 have y:=yc [_,_] _ u
 have z:=yf [1,2,3,0] y
 have m:=yc [_,_,_,_] _ z
 refine cl (Tz c F Q s t (HT a d) (fun x:Value×Value×List kS×List Int=>gh [blk a 81 [x.1],blk d 78 [x.2.1],fL kS.cells x.1 128 2 x.2.2.1,fL gi x.2.1 2 1 x.2.2.2]) (fun k x=>x.2.2.1=k.mI k.mg.length/\x.2.2.2=k.mH k.mg.length) 69 (sY a d) eN (fun k w1 T R=>ZV a d k w1 R) k T b (ye m 0 rfl)) ?_
 rintro _ M ⟨e,rfl,A,B⟩
 have C:=(yi m B)
 have D:=yf [3,0,1,2] C
 have n:=yy D
 refine gF n 3 ?_
 refine kq mixed [([0,1,2],[1])] [3] n (fun N f=>jx ?_)
 refine fK f 2 ?_
 refine jt 0 f (fun O g=>?_) (hvs:=(cells_one (yv f (i:=2) rfl))) (h1:=(gX (yv f (i:=2) rfl) jV))
 refine fP g 1 ?_
 refine jZ (kE ?_)
 refine jt 1 g (fun P h=>?_) (hvs:=(cells_one (yv g (i:=3) rfl))) (h1:=(gX (yv g (i:=3) rfl) jV))
 refine fP h 3 ?_
 refine o7 (v:=e.1) (v' := e.2.1) results28 (Bq rfl BD rfl (St.bc h 0 rfl rfl)) (Bq rfl n9 rfl (St.bc h 1 rfl rfl)) ?_
 have E:=yf [4,5,6,2,3] h
 obtain⟨V,W⟩:=A
 have o:=E
 rw[V,W]at o
 exact⟨e.1,e.2.1,rfl,yj (yc [_,_,_,_,_] _ o)⟩
theorem LR(c:WC)(a:Nat)(s:WW)(w:World)(h:Own (WW.R c a s) w)(x:Lv)(j:x.ok)(k:s.now<=x.t)(l:x.t<=1000000)(i:s.added<1000000)(d:s.u.gN c.fN c.fM x.u x.v=0) :
 CR ya 33 (xF a x) w (fun r w' => ∃ (s2:WW),r = .int .i64 0/\WW.Ins c s s2 x/\fV (WW.R c a s) w w' (WW.R c a s2)) :=
 CR.mono (Tt c a s w h x j k l i) fun r w' ⟨e,s2,f,b,g⟩=>⟨s2,by rw[f,b.room d],b.ins (b.room d),g⟩
theorem JY{v w t:Int}(h:0<=u/\u<=100/\0<=v/\v<=100/\0<=w/\w<=100/\0<=t/\t<=100):Lv.ok ⟨0,0,u,v,w,t,0⟩ :=
 ⟨kY (by show _/\_;dsimp only;omega),pJ (by show _/\_;dsimp only;omega),pJ (by show _/\_;dsimp only;omega),pJ (by show _/\_;dsimp only;omega),kY (by show _/\_;dsimp only;omega),kY (by show _/\_;dsimp only;omega),kY (by show _/\_;dsimp only;omega)⟩
def HM(s:WW):Prop:=∀ K L es,s.u.k9 K->s.u.kn L->kA K L es L.length->K=[1,2,3]/\L.length=3/\es=mJ
structure Vk.wk (s:WW) (k:Vk):Prop where
 of:Vk.of s k
 K:k.K=[1,2,3]
 es:k.es=mJ
theorem Vk.of.wk{s:WW}(h:Vk.of s k)(d:HM s):Vk.wk s k:=by
 obtain⟨L,b,c⟩:=h.pic
 obtain⟨e1,e,a⟩:=d _ _ _ h.ids b c
 exact⟨h,e1,a⟩
instance:DecidableEq kS:=fun a b=>by
 cases a with|mk a1 a2=>cases b with|mk b1 b2=>exact decidable_of_iff (a1=b1/\a2=b2) s_
abbrev wI:List kS:=[⟨1,2⟩,⟨1,3⟩]
abbrev wH:List Int:=[5,7]
theorem Vk.wk.VE{s:WW}(h:Vk.wk s k)(hc:iE k.es k.K.length k.c.f):fJ k.K (k.gW 7 (gP k.K 3))=1/\k.yZ 7 (gP k.K 3)=3:=by
 obtain⟨_,d,e⟩:=h
 unfold Vk.gW Vk.yZ Vk.top
 revert hc
 rw[d,e]
 intro hc
 obtain⟨a,b⟩:=TJ hc
 obtain⟨a,b⟩:=TJ (f:=k.c.f) hc
 rw[show gP [1,2,3] 3=2 by decide]
 refine⟨?_,b⟩
 show fJ [1,2,3] (Go.Sx.gW mJ 3 k.c.f (jP (gd mJ 3 k.c.f).p (gd mJ 3 k.c.f).h 7 2))=1
 rw[a]
 rfl
theorem Vk.wk.mmx{s:WW}(h:Vk.wk s k)(hc:iE k.es k.K.length k.q.f){x:Int×Bool}(c:k.mm (gP k.K 1) (gP k.K 3) x):x=(7,true):=by
 obtain⟨_,l,m⟩:=h
 unfold Vk.mm at c
 revert hc c
 rw[l,m]
 intro hc c
 obtain⟨z,e,i,n⟩:=c.2 d_
 rw[show gP [1,2,3] 1=0 by decide,show gP [1,2,3] 3=2 by decide]at e
 obtain⟨d,j⟩:=af1 hc e
 have g:=(i d).trans j
 obtain⟨a,b⟩:=x
 simp only at d g
 rw[d,g]
theorem Vk.wk.mg{s:WW}(h:Vk.wk s k)(hc:iE k.es k.K.length k.f):k.mI k.mg.length=wI/\k.mH k.mg.length=wH:=by
 obtain⟨_,b,c⟩:=h
 unfold Vk.mI Vk.mH Vk.mg
 revert hc
 rw[b,c]
 intro hc
 obtain⟨a,d⟩:=af0 hc
 rw[a]
 exact⟨d_,d_⟩
theorem Vk.parts{w:World}(h:Own (Vk.R k) w):k.ok/\iE k.es k.K.length k.c.f/\iE k.es k.K.length k.q.f:=by
 have a:=Own.of h.un
 exact⟨h.fact,(y9 a (i:=6) rfl),(y9 a (i:=7) rfl)⟩
theorem afA(c:WC)(a b:Nat)(s:WW)(w:World)(m:Own (tU a b c s) w)(o:c.fN<=12)(l:HM s)(n:s.u.t.cnt 3=0):CR ya 25 #[(Zb a),.int .u64 3,.int .i64 7] w (fun r w' => ∃ (k:Vk),r = .tuple #[.agg #[.int .u64 1,.int .i64 3],.int .i64 0]/\Vk.wk s k/\fV (tU a b c s) w w' (Nk a b (IntKind.u64.wrap (s.added+s.jX)) k k.K.length c s)) :=
 CR.mono (afo c a b s w m o 3 7 n) fun r w' ⟨k,x,h,⟨j,d⟩,e⟩=>by
  have f:=j.wk l
  obtain⟨e1,g⟩:=f.VE (Vk.parts (kU (Own.of e.own) (i:=1) rfl)).2.1
  rw[e1,g]at d
  subst d
  exact⟨k,h,f,e⟩
theorem afQ(c:WC)(a d:Nat)(s:WW)(k:Vk)(l:Vk.of s k)(b:Int)(w:World)(f:Own (u5 a d (IntKind.u64.wrap (s.added+s.jX)) k k.K.length b c s (j5 o)) w)(hk:Vk.wk s k)(m:s.u.t.cnt 1=0)(n:s.u.t.cnt 3=0):CR ya 26 #[(Zb a),.int .u64 1,.int .u64 3] w (fun r w' => r = .tuple #[.int .i64 7,.bool true,.int .i64 0]/\fV (u5 a d (IntKind.u64.wrap (s.added+s.jX)) k k.K.length b c s (j5 o)) w w' (u5 a d (IntKind.u64.wrap (s.added+s.jX)) k k.K.length b c s (j5 o))) :=
 CR.mono (afs c a d s k l b w f 1 3 m n) fun r w' ⟨x,g,h,j⟩=>by
  have e:=hk.mmx (Vk.parts (kU (Own.of f) (i:=1) rfl)).2.2 h
  subst e
  exact⟨g,j⟩
theorem afP(c:WC)(a f:Nat)(s:WW)(k:Vk)(l:Vk.of s k)(b:Int)(w:World)(h:Own (ED a f (IntKind.u64.wrap (s.added+s.jX)) k k.K.length b c s) w)(hk:Vk.wk s k):CR ya 28 (Zh a) w (fun r w' => ∃ (d hv:Value),r = .tuple #[d,hv]/\fV (ED a f (IntKind.u64.wrap (s.added+s.jX)) k k.K.length b c s) w w' (Nl a f (IntKind.u64.wrap (s.added+s.jX)) k k.K.length b c s d wI hv wH)) :=
 CR.mono (afr c a f s k l b w h) fun r w' ⟨d,hv,j,g⟩=>by
  have e:=hk.mg (Vk.parts (kU (Own.of h) (i:=1) rfl)).1.fg
  rw[e.1,e.2]at g
  exact⟨d,hv,j,g⟩
theorem afk(d e:Nat)(k:Vk)(b g:Int)(w:World)(h:Own (Ic d e g k k.K.length b) w) :
 CR ya 16 (Zh d) w (fun r w' => r = .int .i64 b/\fV (Ic d e g k k.K.length b) w w' (Ic d e g k k.K.length b)):=by
 refine en func16 ntmps16 ?_
 have f:=yt h
 refine fR f 9 ?_
 refine cl (DB d e _ w (ye f 0 rfl)) ?_
 rintro _ c ⟨rfl,ht⟩
 have a:=yh 0 f ht
 refine fP a 16 ?_
 refine gf (v:=(Za b)) results16 rfl ?_
 exact⟨rfl,yj a⟩

theorem fW.Oe{s:fW}(h:s.ok j n){x:Lv}(b:s.has x){id:Int}(a:x.u=id\/x.v=id):s.t.cnt id=0:=by
 obtain⟨i,hi,rfl⟩:=b
 exact TW.AK ((h.mem id).2 ⟨i,hi,a⟩)
theorem fW.VW{s:fW}(h:s.ok j n){id:Int}(c:∀ x,s.has x->x.u≠id/\x.v≠id):s.t.cnt id≠0:=by
 rw[TW.tZ fun hm=>?_]
 . decide
 . obtain⟨i,hi,b⟩:=(h.mem id).1 hm
   have a:=c _ ⟨i,hi,rfl⟩
   exact b.elim a.1 a.2
theorem Xt:ya.eqGuardType ya.depth 128=false:=by kernel_rfl
theorem WR(a b:Int)(w:World):(Op.equal 128 (Ij a b) (Ij a b)).run ya w = .ok true w:=by
 rw[acV y8 yo iX]
 simp
theorem afS(hO:Own (j5 o) w) :
 CR ya 17 #[] w (fun r w' => r = .bool true/\fV (j5 o) w w' (j5 o)):=by
 refine en func17 ntmps17 ?_
 have aK:=yt hO
 have aX:wI.length=2:=rfl
 have aW:wH.length=2:=rfl
 refine fR aK 7 ?_
 refine iU (pvs:=[(0,xK),(1,rR),(2,rR),(3,rR)]) (v:=.agg #[xK,rR,rR,rR]) rfl rfl (jj [(0,[xK]),(1,[rR]),(2,[rR]),(3,[rR])] Dy QZ rfl ⟨rfl,rfl,rfl,rfl,rfl,rfl,rfl,rfl,trivial⟩ rfl) (cl (TD cW w d_ d_ d_ d_ d_ d_ d_) ?_)
 rintro _ P ⟨d,B,rfl,p,ht⟩
 have g:=(jm aK ht)
 have aF:=o6 (ye g 0 rfl)
 have aJ:=p.2.2
 have aC:=p.1
 have T:=p.2.1
 have aQ:B.u.last=0:=by have h7:=aF.1.la;have h8:=aF.2.1.tB;omega
 refine fK g 14 ?_
 refine mc (a:=some ⟨d,0,none⟩) (c:=false) rfl rfl rfl BC rfl (fK g 9 ?_)
 refine iU (pvs:=[(0,vV),(1,AB),(2,(.int .i64 5))]) (v:=.agg #[vV,AB,(.int .i64 5),Zc]) rfl rfl (jj [(0,[vV]),(1,[AB]),(2,[(.int .i64 5)])] zG F9 rfl ⟨rfl,rfl,rfl,rfl,rfl,rfl,trivial⟩ rfl) ?_
 have aR:=fW.IK aF.2.1 aF.2.2 (u:=1) (v:=2) d_ (L:=[]) (K:=[1,2]) d_ (fun x F=>absurd F (aJ x)) (fun x F=>absurd F (aJ x)) d_ d_ d_
 refine cl (LR cW d B P (ye g 0 rfl) ⟨0,0,1,2,5,0,0⟩ (JY d_) (by rw[aC];decide) d_ (by rw[T];decide) aR) ?_
 rintro _ Q ⟨C,rfl,q,ht⟩
 have j:=yh 0 g ht
 have aM:=o6 (ye j 0 rfl)
 obtain⟨⟨i1,aH⟩,aO⟩:=afV aJ aQ q
 have aC:=q.now
 have T:C.added=1:=q.added.trans (by rw[T];rfl)
 refine fK j 6 ?_
 refine iU (pvs:=[(0,AB),(1,vW),(2,(.int .i64 7)),(3,rR)]) (v:=.agg #[AB,vW,(.int .i64 7),rR]) rfl rfl (jj [(0,[AB]),(1,[vW]),(2,[(.int .i64 7)]),(3,[rR])] zG F9 rfl ⟨rfl,rfl,rfl,rfl,rfl,rfl,rfl,rfl,trivial⟩ rfl) ?_
 have aS:=fW.IK aM.2.1 aM.2.2 (u:=2) (v:=3) d_ (L:=[wE i1 1 1 2 5 0]) (K:=[1,2,3]) (by show (1:Nat)<4;decide) (fun x F=>by rw[(aH x).1 F];simp) (fun x F=>by rw[(aH x).1 F];simp) d_ d_ d_
 refine cl (LR cW d C Q (ye j 0 rfl) ⟨0,0,2,3,7,4,0⟩ (JY d_) (by rw[aC];decide) d_ (by rw[T];decide) aS) ?_
 rintro _ R ⟨D,rfl,s,ht⟩
 have l:=yh 0 j ht
 have aN:=o6 (ye l 0 rfl)
 obtain⟨⟨i2,aI⟩,aP⟩:=afW aH aO s
 have aC:=s.now
 have T:D.added=2:=s.added.trans (by rw[T];rfl)
 refine fK l 6 ?_
 refine iU (pvs:=[(0,vV),(1,vW),(2,AA),(3,B6)]) (v:=.agg #[vV,vW,AA,B6]) rfl rfl (jj [(0,[vV]),(1,[vW]),(2,[AA]),(3,[B6])] zG F9 rfl ⟨rfl,rfl,rfl,rfl,rfl,rfl,rfl,rfl,trivial⟩ rfl) ?_
 have aT:=fW.IK aN.2.1 aN.2.2 (u:=1) (v:=3) d_ (L:=[wE i1 1 1 2 5 0,wE i2 2 2 3 7 4]) (K:=[1,2,3]) (by show (2:Nat)<4;decide) (fun x F=>by rcases(aI x).1 F with h|h<;>rw[h]<;>simp) (fun x F=>by rcases(aI x).1 F with h|h<;>rw[h]<;>simp) d_ d_ d_
 refine cl (LR cW d D R (ye l 0 rfl) ⟨0,0,1,3,9,6,0⟩ (JY d_) (by rw[aC];decide) d_ (by rw[T];decide) aT) ?_
 rintro _ S ⟨e,rfl,y,ht⟩
 have n:=yh 0 l ht
 have aG:=o6 (ye n 0 rfl)
 obtain⟨i3,aD⟩:=afX aI aP y
 have aC:=y.now
 have T:e.added=3:=y.added.trans (by rw[T];rfl)
 have hG:HM e:=fun K L es h1 h2 h3=>afZ aG.2.1 aD h1 h2 h3
 have aU:=fW.Oe aG.2.1 ((aD _).2 (.inl (.inl rfl))) (.inl rfl)
 have aL:=fW.Oe aG.2.1 ((aD _).2 (.inr rfl)) (.inr rfl)
 have aV:e.u.t.cnt 4≠0:=fW.VW aG.2.1 fun x F=>by rcases(aD x).1 F with (h|h)|h<;>rw[h]<;>simp
 refine fK n 6 ?_
 refine cl (Tm cW d e S (ye n 0 rfl)) ?_
 rintro _ U ⟨f,rfl,ht⟩
 have z:=yy (yh 0 n ht)
 refine fK z 26 ?_
 refine mc (a:=some ⟨f,0,none⟩) (c:=false) rfl rfl rfl underlying24 rfl ?_
 have V:=yf [1,0,2] z
 have E:=yc [_,_] _ V
 refine fK z 9 ?_
 refine cl (afA cW f d e U (ye E 0 rfl) d_ hG aL) ?_
 rintro _ an ⟨A,rfl,W,X⟩
 have G:=(yi E X)
 have aE:=W
 refine fK G 3 ?_
 refine iR G (fun ao ap aq ar Y=>?_)
 refine gC Y 7 fun Z aa=>?_
 have ab:=yf [1,2,3,4,0] aa
 have H:=yc [_,_,_,_] _ ab
 refine cl (afQ cW f d e A aE.of 1 Z (ye H 0 rfl) aE aU aL) ?_
 rintro _ ac ⟨rfl,ad⟩
 have I:=(yi H ad)
 have ae:=yf [0,2,1,3,4] I
 have J:=yc [_,_] _ ae
 refine fK I 12 ?_
 refine cl (afn cW f d e _ ac (ye J 0 rfl) 4 7 aV) ?_
 rintro _ au ⟨rfl,af⟩
 have M:=(yi J af)
 refine fK M 3 ?_
 refine iR M (fun av aw ax ay ag=>?_)
 refine gC ag 7 fun ah ai=>?_
 have aj:=yf [1,3,2,0,4,5] ai
 have N:=yc [_,_,_] _ aj
 refine cl (afP cW f d e A aE.of 1 ah (ye N 0 rfl) aE) ?_
 rintro _ ak ⟨az,aA,rfl,al⟩
 have b:=(yi N al)
 refine fK b 38 ?_
 refine iV (m:=wI.length) 3 rfl rfl BD b rfl (fK b 4 ?_)
 refine iY (cf:=kS.cells) (k:=1) (i:=1) rfl rfl rfl BD uA (iN b 3 rfl) o_ o_ (gz om) (fK b 1 ?_)
 refine iU (pvs:=[(0,vV),(1,vW)]) (v:=.agg HW) rfl rfl (tY [(0,[vV]),(1,[vW])] uA y8 iX rfl ⟨rfl,rfl,rfl,rfl,trivial⟩ rfl s_) (WK (c:=true) (xs:=HW) (ys:=HW) rfl rfl rfl Xt (fun w=>WR _ _ w) (fK b 3 ?_))
 refine iV (m:=wH.length) 4 rfl rfl n9 b rfl (fK b 4 ?_)
 refine iY (cf:=gi) (k:=1) (i:=1) rfl rfl rfl n9 ti2 (iN b 4 rfl) o_ o_ (gz om) (fK b 5 ?_)
 refine cl (afk f d A 1 _ ak (ye b 0 rfl)) ?_
 rintro _ aB ⟨rfl,ht⟩
 have O:=yh 0 b ht
 refine fP O 6 ?_
 refine gf (v:=Zg) results17 rfl ?_
 have am:=yf [6,0,1,2,3,4,5,7] O
 exact⟨rfl,yj am⟩
theorem TF(a:(j5 o).holds w):CR ya 17 #[] w (fun r w' => r = .bool true/\gx [] w w') :=
 CR.mono (afS w (aed a)) fun r w' ⟨b,c⟩=>⟨b,aeb a c⟩
theorem Xx(s:GW)(A:Nat->Nat->Prop)(key:Nat->Int)(w:World)(h:Own (GI.R fN fM F s A key) w) :
 CR ya 53 (Zh F) w (fun r w' => r = .int .i64 (IntKind.i64.wrap ((fN:Int)-s.trees))/\fV (GI.R fN fM F s A key) w w' (GI.R fN fM F s A key)):=by
 have m:=h.fact.vn
 have l:=h.fact.v2
 have k:=h.fact.en
 refine en func53 ntmps53 ?_
 have j:=Own.of h.un
 have i:s.ok fN fM:=h.fact
 have a:=yn (p:=GW.ok fN fM s) (yc [_,_,_,_] _ j) i
 refine fR j 9 ?_
 refine cl (Fp fN fM F s A key w (ye a 0 rfl)) ?_
 rintro _ f ⟨rfl,ht⟩
 have c:=yh 0 a ht
 have d:=(jM c).unpack
 refine gC d 16 fun g b=>?_
 refine ar (e:=(IntKind.i64.wrap ((fN:Int)-s.trees))) rfl rfl rfl rfl rfl (fP b 4 ?_)
 refine gf (v:=(Za (IntKind.i64.wrap ((fN:Int)-s.trees)))) results53 rfl ?_
 exact⟨rfl,ym (yn (p:=GW.ok fN fM s) (yc [_,_,_,_] _ b) i) zd⟩
theorem Xr(s:GW)(w:World)(b:Own (GW.R fN fM F s) w) :
 CR ya 53 (Zh F) w (fun r w' => r = .int .i64 (IntKind.i64.wrap ((fN:Int)-s.trees))/\fV (GW.R fN fM F s) w w' (GW.R fN fM F s)):=by
 obtain⟨A,key,⟨a,f,d⟩,c⟩:=C6 b
 exact CR.mono (Xx fN fM F s A key w c) fun r w' ⟨e,ht⟩=>⟨e,GV ht ⟨a,f,d⟩⟩
theorem ae7(s:fW)(w:World)(g:Own (fW.R fN fM F s) w) :
 CR ya 52 (Zh F) w (fun r w' => r = .int .i64 (s.A.used:Int)/\fV (fW.R fN fM F s) w w' (fW.R fN fM F s)):=by
 refine en func52 ntmps52 ?_
 have i:=Own.of g.un
 have h:s.ok fN fM:=g.fact
 have b:=yn (p:=s.ok fN fM) (yc [_,_,_,_,_,_] _ i) h
 refine fR i 9 ?_
 refine cl (xd fN fM F s w (ye b 0 rfl)) ?_
 rintro _ d ⟨rfl,ht⟩
 have e:=yh 0 b ht
 have a:=(jM e).unpack
 refine fK a 12 ?_
 refine cl (G1 s.jg s.aw d (ye a 4 rfl)) ?_
 rintro _ f ⟨rfl,ht⟩
 have c:=yh 4 a ht
 refine fP c 4 ?_
 refine gf (v:=(Za s.A.used)) results52 rfl ?_
 exact⟨rfl,ym (yn (p:=fW.ok fN fM s) (yc [_,_,_,_,_,_] _ c) h) zd⟩
theorem afj(s:fW)(w:World)(g:Own (fW.R fN fM F s) w) :
 CR ya 51 (Zh F) w (fun r w' => r = .int .i64 (s.t.A.used:Int)/\fV (fW.R fN fM F s) w w' (fW.R fN fM F s)):=by
 refine en func51 ntmps51 ?_
 have i:=Own.of g.un
 have h:s.ok fN fM:=g.fact
 have b:=yn (p:=s.ok fN fM) (yc [_,_,_,_,_,_] _ i) h
 refine fR i 9 ?_
 refine cl (xd fN fM F s w (ye b 0 rfl)) ?_
 rintro _ d ⟨rfl,ht⟩
 have e:=yh 0 b ht
 have a:=(jM e).unpack
 refine fK a 12 ?_
 refine cl (S9 s.tb s.ab s.t d (ye a 5 rfl)) ?_
 rintro _ f ⟨rfl,ht⟩
 have c:=yh 5 a ht
 refine fP c 4 ?_
 refine gf (v:=(Za s.t.A.used)) results51 rfl ?_
 exact⟨rfl,ym (yn (p:=fW.ok fN fM s) (yc [_,_,_,_,_,_] _ c) h) zd⟩
theorem afC(c:WC)(y:Nat)(s:WW)(w:World)(B:Own (WW.R c y s) w) :
 CR ya 20 (Zh y) w (fun r w' => r = .tuple (s9 s.u.A.used s.u.t.A.used (IntKind.i64.wrap ((IntKind.i64.wrap ((c.fN:Int)-s.g.trees))-((c.fN:Int)-(s.u.t.A.used:Int)))))/\fV (WW.R c y s) w w' (WW.R c y s)):=by
 refine en func20 ntmps20 ?_
 have z:=Own.of B.un
 have x:s.ok c:=B.fact
 have G:=x.w1
 have H:=x.wi
 have I:=x.n0
 have J:=x.n1
 have C:fW.ok c.fN c.fM s.u:=(y9 z (i:=2) rfl)
 have F:=C.tok.ul
 have E:=C.tn
 have D:=x.vn
 have h:=yn (p:=s.ok c) (yc [_,_,_,_,_] _ z) x
 refine fR z 11 ?_
 refine cl (vA c y s w (ye h 0 rfl)) ?_
 rintro _ k ⟨rfl,ht⟩
 have l:=yh 0 h ht
 have a:=(jM l).unpack
 refine fK a 12 ?_
 refine cl (afj c.fN c.fM s.ub s.u k (ye a 2 rfl)) ?_
 rintro _ o ⟨rfl,ht⟩
 have b:=yh 2 a ht
 refine fK b 11 ?_
 refine ar (e:=((c.fN:Int)-(s.u.t.A.used:Int))) rfl rfl rfl rfl (kP o_) (gF b 4 ?_)
 refine kq mixed [([0,1,2,3,5,6,7,8,9,11,4],[9])] [10,12,13,14,15] b (fun m d=>jx ?_)
 refine fK d 10 ?_
 refine cl (ae7 c.fN c.fM s.ub s.u m (ye d 2 rfl)) ?_
 rintro _ n ⟨rfl,ht⟩
 have f:=yh 2 d ht
 refine fP f 1 ?_
 refine jZ (kE ?_)
 refine cl (Xr c.fN c.fM s.ob s.g n (ye f 4 rfl)) ?_
 rintro _ q ⟨rfl,ht⟩
 have j:=yh 4 f ht
 refine ar (e:=(IntKind.i64.wrap ((IntKind.i64.wrap ((c.fN:Int)-s.g.trees))-((c.fN:Int)-(s.u.t.A.used:Int))))) rfl rfl rfl rfl rfl (fP j 6 ?_)
 refine rq (v:=(Za s.u.A.used)) (v' := (Za s.u.t.A.used)) (v'' := (Za (IntKind.i64.wrap ((IntKind.i64.wrap ((c.fN:Int)-s.g.trees))-((c.fN:Int)-(s.u.t.A.used:Int)))))) results20 rfl rfl rfl ?_
 exact⟨rfl,ym (yn (p:=s.ok c) (yc [_,_,_,_,_] _ j) x) zd⟩
end Go.Proofs.YtedjjkcihkmjgaaGreatDoor
