/- Walks through the code, one theorem a function, under what is said of its arguments. -/
import Derived.Test.YtedjjkcihkmjgaaGreatDoorFb
import Derived.Test.YtedjjkcihkmjgaaGreatDoorVa
import Derived.Test.YtedjjkcihkmjgaaGreatDoorFd
import Derived.Test.YtedjjkcihkmjgaaGreatDoorVc
import Derived.Test.YtedjjkcihkmjgaaGreatDoorFc
import Derived.Test.YtedjjkcihkmjgaaGreatDoorFa
import Derived.Test.YtedjjkcihkmjgaaGreatDoorVb
import Derived.Ground.SlmcProg
import Derived.Shelf.SlMaps.Clone
import Derived.Ground.SlsfProg
import Derived.Shelf.SlSortCmp.NoneTotal
import Derived.Test.YtedjjkcihkmjgaaGreatDoorProg
set_option linter.unusedVariables false
set_option linter.unusedSimpArgs false
set_option maxRecDepth 100000
set_option maxHeartbeats 4000000
namespace Go.Proofs.YtedjjkcihkmjgaaGreatDoor
open Go Go.Sx Go.Proofs.Tryz
variable(fb hb n:Nat)(ed x:Int)(s:QS)(w:World)
theorem HJ(m:Nat)(ed:Int)(xs:List Nd)(w:World)(Q:Own (Zk fb hb m ed xs) w)(hm:xs.length=m)(nb:m<=1000001)(P:fZ xs)(F:FT)(M:Fo xs F)(a b:Nat)(S:a+1<m)(T:b+1<m) :
 CR ya 286 (Zv fb a b) w (fun r w' => ∃ B zs F2,r = .bool B/\(B=true↔Joined xs F (a+1) (b+1))/\Fo zs F2/\fZ zs/\zs.length=m/\(∀ u v,Joined zs F2 u v↔Joined xs F u v)/\(∀ k,(fJ zs k).key=(fJ xs k).key)/\(∀ u v,Ad (gw zs F2) u v↔Ad (gw xs F) u v)/\fV (Zk fb hb m ed xs) w w' (Zk fb hb m ed zs)):=by
 refine en func286 ntmps286 ?_
 have O:=(yt Q).unpack
 refine fR O 10 ?_
 refine cl (AV fb hb m ed w (O.at (i:=0) rfl) nb a o_) ?_
 rintro _ q ⟨rfl,s⟩
 have h:=yr O s
 refine fK h 4 ?_
 refine cl (AV fb hb m ed q (h.at (i:=0) rfl) nb b o_) ?_
 rintro _ t ⟨rfl,x⟩
 have f:=yr h x
 refine fK f 12 ?_
 by_cases D:(a:Int)=(b:Int)
 . refine fP f 11 ?_
   refine gf (v:=Zg) results286 rfl ?_
   have R:a=b:=by omega
   subst R
   exact⟨true,xs,F,rfl,⟨fun _=>M.JG o_ o_,fun _=>rfl⟩,M,P,hm,fun _ _=>Iff.rfl,fun _=>rfl,fun _ _=>Iff.rfl,yj (yc [_,_] _ f)⟩
 . have j:=yc [_,_] _ f
   refine fK f 11 ?_
   refine cl (xW fb hb m ed xs t (ye j 0 rfl) (by first|exact hm|omega) nb P F M (a+1) o_ o_) ?_
   rintro _ y ⟨U,rfl,l,z,A,d,C,ht⟩
   have n:=(yi j ht)
   have E:l.length=m:=by have:=d.len;omega
   have o:=yc [_,_] _ n
   refine fK n 7 ?_
   refine cl (xW fb hb m ed l y (ye o 0 rfl) (by first|exact hm|omega) nb C ((.nd z (a+1) .nil,0) :: A) d.fo (b+1) o_ o_) ?_
   rintro _ G ⟨V,rfl,g,H,I,c,p,ht⟩
   have e:=(yi o ht)
   have J:g.length=m:=by have:=c.len;omega
   refine fK e 10 ?_
   refine jq (o' := (a+1)*9+0) (i:=(a:Int)+1) rfl rfl rfl yk jo (o9 (show (a+1)<(g).length from om)) o_ (fK e 2 ?_)
   by_cases K:((fJ g (a+1)).up:Int)=0
   . refine fP e 5 ?_
     refine gf (v:=Zn) results286 rfl ?_
     have N:=Pg d c (show a+1≠b+1 by omega)
     exact⟨false,g,_,rfl,⟨fun L=>(by cases L),fun L=>absurd (N.2 L) o_⟩,c.fo,p,by have:=c.len;omega,fun u v=>(c.joined u v).trans (d.joined u v),fun k=>(c.key k).trans (d.key k),fun u v=>(c.ad u v).trans (d.ad u v),yj (yc [_,_] _ e)⟩
   . refine fP e 5 ?_
     refine gf (v:=Zg) results286 rfl ?_
     have N:=Pg d c (show a+1≠b+1 by omega)
     exact⟨true,g,_,rfl,⟨fun _=>N.1 o_,fun _=>rfl⟩,c.fo,p,by have:=c.len;omega,fun u v=>(c.joined u v).trans (d.joined u v),fun k=>(c.key k).trans (d.key k),fun u v=>(c.ad u v).trans (d.ad u v),yj (yc [_,_] _ e)⟩
theorem TZ(m:Nat)(ed:Int)(xs:List Nd)(w:World)(X:Own (Zk fb hb m ed xs) w)(hm:xs.length=m)(nb:m<=1000001)(W:fZ xs)(F:FT)(V:Fo xs F)(v:Nat)(hv:v+1<m)(key:Int)(hk:gU .i64 key) :
 CR ya 222 (Zv fb v key) w (fun r w' => r = .int .i64 0/\∃ zs F2,Fo zs F2/\fZ zs/\zs.length=m/\(∀ u v,Ad (gw zs F2) u v↔Ad (gw xs F) u v)/\(∀ k,(fJ zs k).key=if k=v+1 then key else(fJ xs k).key)/\fV (Zk fb hb m ed xs) w w' (Zk fb hb m ed zs)):=by
 refine en func222 ntmps222 ?_
 have T:=(yt X).unpack
 refine fR T 10 ?_
 refine jW (vs:=(Ze v)) (cs:=(Ze v)) rfl rfl yd gq rfl (by simp[Value.cells]) rfl rfl rfl T (fun z A I J l=>cl (IJ fb hb m ed A (l.at (i:=1) rfl) nb (Z4 z) [v] (xq l (i:=0) rfl (FR (m:=m) (P:=[v]) (by intro j R;simp at R;omega) nb)).any (by intro j R;simp at R;omega)) ?_)
 rintro _ B ⟨rfl,C⟩
 have o:=yr l C
 have D:=yf [1,2,0] o
 have p:=yc [_,_] _ D
 refine fK o 17 ?_
 refine cl (xW fb hb m ed xs B (ye p 0 rfl) (by first|exact hm|omega) nb W F V (v+1) o_ o_) ?_
 rintro _ K ⟨Y,rfl,g,L,M,h,E,ht⟩
 have n:=(yi p ht)
 have N:g.length=m:=by have:=h.len;omega
 refine fK n 11 ?_
 refine jq (o' := (v+1)*9+0) (i:=(v:Int)+1) rfl rfl rfl yk jo (o9 (show (v+1)<(g).length from om)) o_ (fK n 1 ?_)
 refine j8 (f:=(fun x:Nd=>{ x with key:=key })) 1 n (fun G q O=>?_)
 have s:fZ (fO g (v+1) (fun x=>{ x with key:=key })):=fZ.iP E om (fun x a b c d e=>⟨a,b,c,d,hk⟩)
 have t:=yc [_,_] _ q
 refine fK q 7 ?_
 refine cl (mB fb hb m ed (fO g (v+1) (fun x=>{ x with key:=key })) G (ye t 0 rfl) oa nb s (v+1) om) ?_
 rintro _ Q ⟨rfl,ht⟩
 have y:=(yi t ht)
 have H:fZ (iJ (fO g (v+1) (fun x=>{ x with key:=key })) (v+1)):=fZ.mh s om
 refine fP y 8 ?_
 refine gf (v:=Zc) results222 rfl ?_
 have U:rA g (v+1) key=iJ (fO g (v+1) (fun x=>{ x with key:=key })) (v+1):=rfl
 have S:=adf (c:=key) h.fo
 exact⟨rfl,iJ (fO g (v+1) (fun x=>{ x with key:=key })) (v+1),_,S.1,H,by rw[<-U,S.2.1];have:=h.len;omega,fun u v=>adb h key u v,fun k=>ade h key k,yj (yc [_,_] _ y)⟩
theorem TQ(m:Nat)(ed:Int)(xs:List Nd)(w:World)(V:Own (Zk fb hb m ed xs) w)(hm:xs.length=m)(nb:m<=1000001)(T:fZ xs)(F:FT)(P:Fo xs F)(a b:Nat)(X:a+1<m)(Y:b+1<m) :
 CR ya 273 (Zv fb a b) w (fun r w' => ∃ d zs F2,r = .int .i64 d/\Fo zs F2/\fZ zs/\zs.length=m/\(d=1->∃ O R,F2=(.nd O (b+1) .nil,0) :: R/\gp zs false (.nd O (b+1) .nil)=[a+1,b+1])/\(Ad (gw xs F) (a+1) (b+1)->d=1)/\(∀ u v,Ad (gw zs F2) u v↔Ad (gw xs F) u v)/\(∀ k,(fJ zs k).key=(fJ xs k).key)/\fV (Zk fb hb m ed xs) w w' (Zk fb hb m ed zs)):=by
 refine en func273 ntmps273 ?_
 have Q:=(yt V).unpack
 have n:=yc [_,_] _ Q
 refine fR Q 11 ?_
 refine cl (HJ fb hb m ed xs w (ye n 0 rfl) (by first|exact hm|omega) nb T F P a b o_ o_) ?_
 rintro _ z ⟨A,o,S,rfl,p,h,q,B,C,s,j,ht⟩
 have g:=(yi n ht)
 refine gF g 3 ?_
 cases t:(A:Bool)
 . skip
   subst t
   refine iT g 8 ?_
   refine gf (v:=Zx) results273 rfl ?_
   exact⟨-1,o,_,rfl,h,q,B,fun N=>absurd N d_,fun N=>(by have M:=p.2 (Uc P N);cases M),j,s,yj (yc [_,_] _ g)⟩
 . skip
   subst t
   have x:=yc [_,_] _ g
   refine fR g 10 ?_
   refine cl (Ks fb hb m ed o z (ye x 0 rfl) (by first|exact hm|omega) nb q S h (a+1) (b+1) o_ o_ o_ o_) ?_
   rintro _ G ⟨rfl,H,I,J,e,y,D,f,c,E,ht⟩
   have l:=(yi x ht)
   have K:e.length=m:=by have L:=c.len;have M:=f.len;rw[tC]at L;omega
   have Z:0<=(fJ e (b+1)).size/\(fJ e (b+1)).size<=1000000:=by have L:=(c.fo.rep (.nd y (b+1) .nil,0) s_).2.2.1.size;have M:=c.fo.count;simp only[Tr.mem]at L M;rw[L];omega
   refine fK l 10 ?_
   refine jq (o' := (b+1)*9+0) (i:=(b:Int)+1) rfl rfl rfl yk jo (o9 (show (b+1)<(e).length from om)) o_ (fP l 7 ?_)
   refine gf (v:=(Za (((fJ e (b+1)).size)-1))) results273 rfl ?_
   have U:=(C (a+1) (b+1)).2 (p.1 rfl)
   have W:=fun hs=>Wp h U f c hs
   skip
   exact⟨(fJ e (b+1)).size-1,e,_,rfl,c.fo,E,by have L:=c.len;have M:=f.len;rw[tC]at L;omega,fun N=>⟨y,D,rfl,W o_⟩,fun N=>(by have M:=Ud f c ((j _ _).2 N);omega),fun u v=>(F6 f c u v).trans (j u v),fun k=>(F7 f c k).trans (s k),yj (yc [_,_] _ l)⟩
theorem TV(m:Nat)(ed:Int)(xs:List Nd)(w:World)(V:Own (Zk fb hb m ed xs) w)(hm:xs.length=m)(nb:m<=1000001)(U:fZ xs)(F:FT)(T:Fo xs F)(a b:Nat)(Z:a+1<m)(aa:b+1<m) :
 CR ya 216 (Zv fb a b) w (fun r w' => ∃ (f:Nat) (B:Bool),∃ zs F2,r = .tuple (Z9 f B)/\f+1<m/\Fo zs F2/\fZ zs/\zs.length=m/\(B=true↔Joined xs F (a+1) (b+1))/\(B=true->∀ key,(∀ x,x+1<m->(fJ xs (x+1)).key=key x)->∃ q,Pm (vO xs F) key a b f q)/\(∀ u v,Ad (gw zs F2) u v↔Ad (gw xs F) u v)/\(∀ k,(fJ zs k).key=(fJ xs k).key)/\fV (Zk fb hb m ed xs) w w' (Zk fb hb m ed zs)):=by
 refine en func216 ntmps216 ?_
 have R:=(yt V).unpack
 have p:=yc [_,_] _ R
 refine fR R 12 ?_
 refine cl (HJ fb hb m ed xs w (ye p 0 rfl) (by first|exact hm|omega) nb U F T a b o_ o_) ?_
 rintro _ C ⟨D,s,S,rfl,h,j,t,E,G,l,n,ht⟩
 have e:=(yi p ht)
 refine gF e 3 ?_
 cases y:(D:Bool)
 . skip
   subst y
   refine iT e 9 ?_
   refine gZ (v:=Zc) (v' := Zn) results216 rfl rfl ?_
   exact⟨0,false,s,_,rfl,o_,j,t,E,h,fun Q=>(by cases Q),n,l,yj (yc [_,_] _ e)⟩
 . skip
   subst y
   have z:=yc [_,_] _ e
   refine fR e 10 ?_
   refine cl (Ks fb hb m ed s C (ye z 0 rfl) (by first|exact hm|omega) nb t S j (a+1) (b+1) o_ o_ o_ o_) ?_
   rintro _ I ⟨rfl,J,K,L,c,H,M,g,d,A,ht⟩
   have o:=(yi z ht)
   have N:c.length=m:=by have O:=d.len;have P:=g.len;rw[tC]at O;omega
   have ab:(fJ c (b+1)).first≠0/\(fJ c (b+1)).first<m:=by have O:=d.fo.rep (.nd H (b+1) .nil,0) s_;have P:=O.pK _ O.2.2.1.first.1;have Q:=A.first (b+1) o_;omega
   refine fK o 10 ?_
   refine jq (o' := (b+1)*9+0) (i:=(b:Int)+1) rfl rfl rfl yk jo (o9 (show (b+1)<(c).length from om)) o_ (fP o 8 ?_)
   refine gZ (v:=(Za (((fJ c (b+1)).first:Int)-1))) (v' := Zg) results216 rfl rfl ?_
   exact⟨(fJ c (b+1)).first-1,true,c,_,by rw[show (((fJ c (b+1)).first-1:Nat):Int)=((fJ c (b+1)).first:Int)-1 by omega],o_,d.fo,A,by have O:=d.len;have P:=g.len;rw[tC]at O;omega,h,fun _ key W=>(by obtain⟨Y,X⟩:=aba j g d ((G _ _).2 (h.1 rfl)) (key:=key) (fun x O=>(l _).trans (W x o_));exact⟨Y,X.mono fun u v O=>(n _ _).1 O⟩),fun u v=>(F6 g d u v).trans (n u v),fun k=>(F7 g d k).trans (l k),yj (yc [_,_] _ o)⟩
theorem TU(m:Nat)(ed:Int)(xs:List Nd)(w:World)(hO:Own (Zk fb hb m ed xs) w)(hm:xs.length=m)(nb:m<=1000001)(hI:fZ xs)(F:FT)(hF:Fo xs F)(a b:Nat)(ha:a+1<m)(aJ:b+1<m) :
 CR ya 287 (Zv fb a b) w (fun r w' => ∃ e ed', ∃ zs F2,r = .int .i64 e/\Fo zs F2/\fZ zs/\zs.length=m/\(¬ Joined xs F (a+1) (b+1)->∀ u v,Ad (gw zs F2) u v↔Ad (gw xs F) u v\/(u=a+1/\v=b+1)\/(u=b+1/\v=a+1))/\(∀ k,(fJ zs k).key=(fJ xs k).key)/\fV (Zk fb hb m ed xs) w w' (Zk fb hb m ed' zs)):=by
 refine en func287 ntmps287 ?_
 have aH:=(yt hO).unpack
 refine fR aH 11 ?_
 refine jW (vs:=(Zr a b)) (cs:=(Zr a b)) rfl rfl yd gq rfl (by simp[Value.cells]) rfl rfl rfl aH (fun N O am an t=>cl (IJ fb hb m ed O (t.at (i:=1) rfl) nb (EL N) [a,b] (xq t (i:=0) rfl (FR (m:=m) (P:=[a,b]) (by intro j hj;simp at hj;omega) nb)).any (by intro j hj;simp at hj;omega)) ?_)
 rintro _ Q ⟨rfl,R⟩
 have n:=yr t R
 refine fK n 17 ?_
 by_cases ao:(a:Int)=(b:Int)
 . refine fP n 11 ?_
   refine gf (v:=AA) results287 rfl ?_
   have S:=yf [1,2,0] n
   have aI:a=b:=by omega
   subst aI
   exact⟨_,ed,xs,F,rfl,hF,hI,hm,fun T=>absurd (hF.JG o_ o_) T,fun _=>rfl,yj (yc [_,_] _ S)⟩
 . skip
   have U:=yf [1,2,0] n
   have A:=yc [_,_] _ U
   refine fK n 12 ?_
   refine cl (HJ fb hb m ed xs Q (ye A 0 rfl) (by first|exact hm|omega) nb hI F hF a b o_ o_) ?_
   rintro _ V ⟨W,y,aD,rfl,B,p,C,X,Y,D,Z,ht⟩
   have o:=(yi A ht)
   refine gF o 2 ?_
   cases E:(W:Bool)
   . skip
     subst E
     have G:=yc [_,_] _ o
     refine fR o 8 ?_
     refine cl (PG fb hb m ed y V (ye G 0 rfl) (by first|exact hm|omega) nb C aD p (a+1) o_ o_) ?_
     rintro _ aa ⟨rfl,q,ab,ac,h,ad,ht⟩
     have H:=(yi G ht)
     have ae:q.length=m:=by have:=h.len;omega
     have af:fZ (jC q (a+1)):=ad.lead o_
     have ap:(jC q (a+1)).length=m:=(tC _ _).trans ae
     have I:=yc [_,_] _ H
     refine fK H 7 ?_
     refine cl (xW fb hb m ed (jC q (a+1)) aa (ye I 0 rfl) (by first|exact hm|omega) nb af ((.nd ab (a+1) .nil,0) :: ac) h.uf.fo (b+1) o_ o_) ?_
     rintro _ aq ⟨l₁,rfl,g,au,av,l,ag,ht⟩
     have z:=(yi I ht)
     have aw:g.length=m:=by have:=l.len;omega
     refine fK z 12 ?_
     refine jq (o' := (a+1)*9+0) (i:=(a:Int)+1) rfl rfl rfl yk jo (o9 (show (a+1)<(g).length from om)) o_ (fK z 1 ?_)
     refine j8 (f:=(fun x:Nd=>{ x with up:=(b+1) })) 1 z (fun ax ah ay=>?_)
     have ai:fZ (fO g (a+1) (fun x=>{ x with up:=(b+1) })):=fZ.iP ag om (fun x a b c d e=>⟨a,b,om,d,e⟩)
     refine gC ah 10 fun az s=>?_
     refine jq (o' := (b+1)*9+0) (i:=(b:Int)+1) rfl rfl rfl yk jo (o9 (show (b+1)<(fO g (a+1) (fun x=>{ x with up:=(b+1) })).length from om)) o_ (fK s 8 ?_)
     refine jq (o' := (a+1)*9+0) (i:=(a:Int)+1) rfl rfl rfl yk jo (o9 (show (a+1)<(fO g (a+1) (fun x=>{ x with up:=(b+1) })).length from om)) o_ (fK s 2 ?_)
     refine ar (e:=(IntKind.i64.wrap ((fJ (fO g (a+1) (fun x=>{ x with up:=(b+1) })) (b+1)).iO+(fJ (fO g (a+1) (fun x=>{ x with up:=(b+1) })) (a+1)).total))) rfl rfl rfl rfl rfl (jq (o' := (b+1)*9+0) (i:=(b:Int)+1) rfl rfl rfl yk jo (o9 (show (b+1)<(fO g (a+1) (fun x=>{ x with up:=(b+1) })).length from om)) o_ (fK s 1 ?_))
     refine j8 (f:=(fun x:Nd=>{ x with iO:=(IntKind.i64.wrap ((fJ (fO g (a+1) (fun x=>{ x with up:=(b+1) })) (b+1)).iO+(fJ (fO g (a+1) (fun x=>{ x with up:=(b+1) })) (a+1)).total)) })) 1 s (fun aj J aA=>?_)
     have K:fZ (fO (fO g (a+1) (fun x=>{ x with up:=(b+1) })) (b+1) (fun x=>{ x with iO:=(IntKind.i64.wrap ((fJ (fO g (a+1) (fun x=>{ x with up:=(b+1) })) (b+1)).iO+(fJ (fO g (a+1) (fun x=>{ x with up:=(b+1) })) (a+1)).total)) })):=fZ.iP ai om (fun x a b c d e=>⟨a,b,c,d,e⟩)
     have L:=yc [_,_] _ J
     refine fK J 7 ?_
     refine cl (mB fb hb m ed (fO (fO g (a+1) (fun x=>{ x with up:=(b+1) })) (b+1) (fun x=>{ x with iO:=(IntKind.i64.wrap ((fJ (fO g (a+1) (fun x=>{ x with up:=(b+1) })) (b+1)).iO+(fJ (fO g (a+1) (fun x=>{ x with up:=(b+1) })) (a+1)).total)) })) aj (ye L 0 rfl) oa nb K (b+1) om) ?_
     rintro _ aB ⟨rfl,ht⟩
     have M:=(yi L ht)
     have ak:fZ (iJ (fO (fO g (a+1) (fun x=>{ x with up:=(b+1) })) (b+1) (fun x=>{ x with iO:=(IntKind.i64.wrap ((fJ (fO g (a+1) (fun x=>{ x with up:=(b+1) })) (b+1)).iO+(fJ (fO g (a+1) (fun x=>{ x with up:=(b+1) })) (a+1)).total)) })) (b+1)):=fZ.mh K om
     refine fK M 8 ?_
     refine ar (e:=(IntKind.i64.wrap (ed+1))) rfl rfl rfl rfl rfl (jH M 11 fun aC al=>?_)
     refine gf (v:=Zc) results287 rfl ?_
     have aG:¬ Joined y aD (a+1) (b+1):=fun T=>by have h8:=B.2 ((Y _ _).1 T);cases h8
     obtain⟨R3,aE⟩:=YS p h l aG o_ o_ o_ o_
     have aF:=YT (l.fo.perm (aE.cons _))
     have e9:mz g (a+1) (b+1)=iJ (fO (fO g (a+1) (fun x=>{ x with up:=(b+1) })) (b+1) (fun x=>{ x with iO:=(IntKind.i64.wrap ((fJ (fO g (a+1) (fun x=>{ x with up:=(b+1) })) (b+1)).iO+(fJ (fO g (a+1) (fun x=>{ x with up:=(b+1) })) (a+1)).total)) })) (b+1):=rfl
     exact⟨_,_,iJ (fO (fO g (a+1) (fun x=>{ x with up:=(b+1) })) (b+1) (fun x=>{ x with iO:=(IntKind.i64.wrap ((fJ (fO g (a+1) (fun x=>{ x with up:=(b+1) })) (b+1)).iO+(fJ (fO g (a+1) (fun x=>{ x with up:=(b+1) })) (a+1)).total)) })) (b+1),_,rfl,aF.1,ak,by rw[<-e9,aF.2.1];have h7:=l.len;have h8:=h.len;rw[tC]at h7;omega,fun _ u v=>(YO p h l aG o_ o_ o_ o_ aE u v).trans (or_congr (Z u v) Iff.rfl),fun k=>(YQ h l k).trans (D k),yj (yc [_,_] _ al)⟩
   . skip
     subst E
     refine iT o 8 ?_
     refine gf (v:=B6) results287 rfl ?_
     exact⟨_,ed,y,_,rfl,p,C,X,fun T=>absurd (B.1 rfl) T,D,yj (yc [_,_] _ o)⟩
theorem TP(m:Nat)(ed:Int)(xs:List Nd)(w:World)(hO:Own (Zk fb hb m ed xs) w)(hm:xs.length=m)(nb:m<=1000001)(hI:fZ xs)(F:FT)(hF:Fo xs F)(a b:Nat)(ha:a+1<m)(aB:b+1<m) :
 CR ya 199 (Zv fb a b) w (fun r w' => ∃ e ed', ∃ zs F2,r = .int .i64 e/\Fo zs F2/\fZ zs/\zs.length=m/\(Ad (gw xs F) (a+1) (b+1)->(∀ u v,Ad (gw zs F2) u v↔Ad (gw xs F) u v/\¬ ((u=a+1/\v=b+1)\/(u=b+1/\v=a+1)))/\¬ Joined zs F2 (a+1) (b+1))/\(∀ k,(fJ zs k).key=(fJ xs k).key)/\fV (Zk fb hb m ed xs) w w' (Zk fb hb m ed' zs)):=by
 refine en func199 ntmps199 ?_
 have av:=(yt hO).unpack
 refine fR av 11 ?_
 refine jW (vs:=(Zr a b)) (cs:=(Zr a b)) rfl rfl yd gq rfl (by simp[Value.cells]) rfl rfl rfl av (fun J K aa ab p=>cl (IJ fb hb m ed K (p.at (i:=1) rfl) nb (EL J) [a,b] (xq p (i:=0) rfl (FR (m:=m) (P:=[a,b]) (by intro j hj;simp at hj;omega) nb)).any (by intro j hj;simp at hj;omega)) ?_)
 rintro _ L ⟨rfl,M⟩
 have y:=yr p M
 have N:=yf [1,2,0] y
 have z:=yc [_,_] _ N
 refine fK y 18 ?_
 refine cl (TQ fb hb m ed xs L (ye z 0 rfl) (by first|exact hm|omega) nb hI F hF a b o_ o_) ?_
 rintro _ O ⟨Q,A,aw,rfl,q,B,R,S,ax,U,C,ht⟩
 have n:=(yi z ht)
 by_cases ac:(Q:Int)=1
 . have D:=yc [_,_] _ n
   refine fK n 13 ?_
   refine cl (Ks fb hb m ed A O (ye D 0 rfl) (by first|exact hm|omega) nb B aw q (a+1) (b+1) o_ o_ o_ o_) ?_
   rintro _ ad ⟨rfl,ae,af,ag,g,ah,ai,l,h,V,ht⟩
   have s:=(yi D ht)
   have aj:g.length=m:=by have T:=h.len;have h8:=l.len;rw[tC]at T;omega
   refine fK s 10 ?_
   refine jq (o' := (a+1)*9+0) (i:=(a:Int)+1) rfl rfl rfl yk jo (o9 (show (a+1)<(g).length from om)) o_ (fK s 1 ?_)
   refine j8 (f:=(fun x:Nd=>{ x with up:=0 })) 1 s (fun ak t al=>?_)
   have W:fZ (fO g (a+1) (fun x=>{ x with up:=0 })):=fZ.iP V om (fun x a b c d e=>⟨a,b,om,d,e⟩)
   refine fK t 10 ?_
   refine jq (o' := (b+1)*9+0) (i:=(b:Int)+1) rfl rfl rfl yk jo (o9 (show (b+1)<(fO g (a+1) (fun x=>{ x with up:=0 })).length from om)) o_ (fK t 1 ?_)
   refine ic (o:=(b+1)*9+0) (o' := (b+1)*9+0) (i:=0) rfl rfl rfl yq gq d_ rfl (j8 (f:=(fun x:Nd=>{ x with k0:=0 })) 1 t (fun X E am=>?_))
   have G:fZ (fO (fO g (a+1) (fun x=>{ x with up:=0 })) (b+1) (fun x=>{ x with k0:=0 })):=fZ.iP W om (fun x a b c d e=>⟨om,b,c,d,e⟩)
   have H:=yc [_,_] _ E
   refine fK E 7 ?_
   refine cl (mB fb hb m ed (fO (fO g (a+1) (fun x=>{ x with up:=0 })) (b+1) (fun x=>{ x with k0:=0 })) X (ye H 0 rfl) oa nb G (b+1) om) ?_
   rintro _ an ⟨rfl,ht⟩
   have I:=(yi H ht)
   have Y:fZ (iJ (fO (fO g (a+1) (fun x=>{ x with up:=0 })) (b+1) (fun x=>{ x with k0:=0 })) (b+1)):=fZ.mh G om
   refine fK I 8 ?_
   refine ar (e:=(IntKind.i64.wrap (ed-1))) rfl rfl rfl rfl rfl (jH I 11 fun ao Z=>?_)
   refine gf (v:=Zc) results199 rfl ?_
   obtain⟨b9,R9,ay,az⟩:=S o_
   subst ay
   obtain⟨ap,aA⟩:=abb q az l h
   have aq:=h.fo
   rw[ap]at aq
   have au:=afa aq
   have e9:nZ g (a+1) (b+1)=iJ (fO (fO g (a+1) (fun x=>{ x with up:=0 })) (b+1) (fun x=>{ x with k0:=0 })) (b+1):=rfl
   exact⟨_,_,iJ (fO (fO g (a+1) (fun x=>{ x with up:=0 })) (b+1) (fun x=>{ x with k0:=0 })) (b+1),_,rfl,au.1,Y,by rw[<-e9,au.2.1];have T:=h.len;have h8:=l.len;rw[tC]at T;omega,fun _=>⟨fun u v=>(Wd aq (Wh (ap▸h)) u v).trans (and_congr ((by have T:=F6 l h u v;rw[ap]at T;exact T.trans (U u v))) Iff.rfl),We au.1⟩,fun k=>((Tf o_ o_ k).2.trans (F7 l h k)).trans (C k),yj (yc [_,_] _ Z)⟩
 . refine fP n 11 ?_
   refine gf (v:=(.int .i64 5)) results199 rfl ?_
   exact⟨_,ed,A,_,rfl,q,B,R,fun h9=>absurd (ax h9) o_,C,yj (yc [_,_] _ n)⟩
theorem YD(D:n<=65536) :
 CR ya 221 (Z2 n) w (fun r w' => ∃ fb nb,r = .tuple (Zz fb)/\fV (gh []) w w' (gh (Mp fb nb (n+1) (lV n n)))):=by
 refine en func221 ntmps221 ?_
 have B:=yu w
 refine fR B 10 ?_
 refine cmp rfl rfl rfl (kG o_) (fK B 2 ?_)
 refine cmp rfl rfl rfl (nN o_) (fK B 10 ?_)
 refine lN (cf:=Nd.cells) (z0:=pL) (m:=n+1) (c:=n+1) rfl (gm o_) (gm o_) yk jo rfl f_ d_ (zm _) o_ o_ B ?_
 intro a f o p g
 have h:St [(w,[])] [blk a 388 ((lV n 0).flatMap Nd.cells)] f:=by rw[aaI];exact g
 refine iU (pvs:=[(1,(Zd a (n+1)))]) (v:=.agg #[Zp,(Zd a (n+1)),Zc]) rfl rfl (jj [(1,(Z5 a (n+1)))] Lz abB rfl ⟨rfl,rfl,trivial⟩ rfl) (ir h (fun b q s t i=>?_))
 refine ux i 20 fun u j=>?_
 refine lp (α:=Nat) (fun k=>[(4,(Zb b)),(21,(Za n)),(22,(Za k))]) (fun k w1=>St [(w,[])] (Mp b a (n+1) (lV n k)) w1/\k<=n) (fun k=>n-k) 0 ⟨rfl,rfl,gm rO,trivial⟩ (⟨j,o_⟩) ?_
 rintro k x l ⟨A,C⟩
 refine fR A 2 ?_
 by_cases y:(k:Int)<(n:Int)
 . have d:=yc [_,_] [] A
   refine fK A 19 ?_
   refine cl (mB b a (n+1) 0 (lV n k) l (ye d 0 rfl) (tF n k) o_ (Qm o_) (k+1) o_) ?_
   rintro _ z ⟨rfl,ht⟩
   rw[aaH (show k<n by omega)]at ht
   have e:=(yi d ht)
   refine fP e 7 ?_
   refine tN (?_)
   exact again (k+1) ⟨rfl,rfl,gm rO,trivial⟩ (⟨e,o_⟩) (by show (n-(k+1):Nat)<n-k;omega)
 . refine fP A 18 ?_
   refine gZ (v:=(Zb b)) (v' := Zc) results221 rfl rfl ?_
   obtain rfl:k=n:=by omega
   exact⟨b,a,rfl,mD (yc [_,_] [] A)⟩
structure xC (m:Nat) (A:Nat->Nat->Prop) (key:Nat->Int) (xs:List Nd) (F:FT):Prop where
 len:xs.length=m
 CH:fZ xs
 fo:Fo xs F
 j9:∀ i j,vO xs F i j↔A i j
 key:∀ k,k+1<m->(fJ xs (k+1)).key=key k
def jR(fb nb m:Nat)(A:Nat->Nat->Prop)(key:Nat->Int):fT where
 gJ:=[fb,nb]
 holds w:=∃ (ed:Int) (xs:List Nd) (F:FT),xC m A key xs F/\(Zk fb nb m ed xs).holds w
 loc w w' h hh:=by
  obtain⟨ed,xs,F,a,c⟩:=hh
  exact⟨ed,xs,F,a,(Zk fb nb m ed xs).loc w w' (fun b hb=>h b (by simpa[gh,iZ,blk]using hb)) c⟩
section
variable {fb nb m:Nat} {A A' : Nat->Nat->Prop} {key key' : Nat->Int} {w w' : World} {ed ed' : Int} {xs zs:List Nd} {F F2:FT}
theorem wD:(Zk fb nb m ed xs).gJ=(jR fb nb m A key).gJ:=by simp[gh,iZ,blk,jR]
theorem C7(h:Own (jR fb nb m A key) w):∃ (ed:Int) (xs:List Nd) (F:FT),xC m A key xs F/\Own (Zk fb nb m ed xs) w:=by
 obtain⟨ed,xs,F,a,c⟩:=h.holds
 exact⟨ed,xs,F,a,c,by rw[wD (A:=A) (key:=key)];exact h.nodup,fun b hb=>h.lt b (by rw[wD (A:=A) (key:=key)]at hb;exact hb)⟩
theorem DA(h:fV (Zk fb nb m ed xs) w w' (Zk fb nb m ed' zs))(h1:xC m A' key' zs F2):fV (jR fb nb m A key) w w' (jR fb nb m A' key') :=
 ⟨⟨ed', zs,F2,h1,h.holds⟩,by have:=h.gA;rw[wD (A:=A) (key:=key)]at this;exact this,fun b hb=>by have:=h.place b (by rw[wD (A:=A') (key:=key')];exact hb);rw[wD (A:=A) (key:=key)]at this;exact this,by have:=h.nodup;rw[wD (A:=A') (key:=key')]at this;exact this,fun b hb=>h.lt b (by rw[wD (A:=A') (key:=key')];exact hb)⟩
theorem aeU(h:fV (gh []) w w' (Zk fb nb m ed xs))(h1:xC m A key xs F):fV (gh []) w w' (jR fb nb m A key) :=
 h.CS (wD (ed:=ed) (xs:=xs)).symm fun a=>⟨ed,xs,F,h1,a⟩
theorem CM{bs:List (World×List Nat)}{L:List fT}(h:St bs (jR fb nb m A key :: L) w)(a:∀ i j,A i j↔A' i j)(hk:∀ k,key k=key' k):St bs (jR fb nb m A' key' :: L) w:=by
 rwa [show A' = A from funext fun i=>funext fun j=>propext (a i j).symm,show key' = key from funext fun k=>(hk k).symm]
theorem xC.cn(h:xC m A key xs F){a b:Nat}(c:a+1<m)(hb:b+1<m):Joined xs F (a+1) (b+1)↔Cn A a b:=by
 rw[Yj h.fo (by rw[h.len];exact c) (by rw[h.len];exact hb)]
 exact⟨fun t=>t.mono fun i j=>(h.j9 i j).1,fun t=>t.mono fun i j=>(h.j9 i j).2⟩
end
theorem ND(m:Nat)(A:Nat->Nat->Prop)(key:Nat->Int)(w:World)(n:Own (jR fb hb m A key) w)(nb:m<=1000001)(a:Nat)(p:a+1<m)(k:Int)(hk:gU .i64 k) :
 CR ya 222 (Zv fb a k) w (fun r w' => r = .int .i64 0/\fV (jR fb hb m A key) w w' (jR fb hb m A (fun x=>if x=a then k else key x))):=by
 obtain⟨ed,xs,F,b,o⟩:=C7 n
 exact CR.mono (TZ fb hb m ed xs w o b.len nb b.CH F b.fo a p k hk) fun r w' ⟨e,zs,F2,c,d,f,h,l,ht⟩=>⟨e,DA ht ⟨f,d,c,fun i j=>(h _ _).trans (b.j9 i j),fun x g=>by rw[l,b.key x g];simp⟩⟩
theorem Uq(m:Nat)(A:Nat->Nat->Prop)(key:Nat->Int)(w:World)(v:Own (jR fb hb m A key) w)(nb:m<=1000001)(a b:Nat)(g:a+1<m)(h:b+1<m) :
 CR ya 216 (Zv fb a b) w (fun r w' => ∃ (f:Nat) (B:Bool),r = .tuple (Z9 f B)/\(f+1<m/\(B=true↔Cn A a b)/\(B=true->∃ q,Pm A key a b f q))/\fV (jR fb hb m A key) w w' (jR fb hb m A key)):=by
 obtain⟨ed,xs,F,c,x⟩:=C7 v
 exact CR.mono (TV fb hb m ed xs w x c.len nb c.CH F c.fo a b g h) fun r w' ⟨f,B,zs,F2,e,z,l,n,o,t,y,s,u,ht⟩=>⟨f,B,e,⟨z,t.trans (c.cn g h),fun d=>(y d key c.key).imp fun q p=>p.mono fun i j=>(c.j9 i j).1⟩,DA ht ⟨o,n,l,fun i j=>(s _ _).trans (c.j9 i j),fun k d=>(u _).trans (c.key k d)⟩⟩
theorem Nz(m:Nat)(A:Nat->Nat->Prop)(key:Nat->Int)(w:World)(s:Own (jR fb hb m A key) w)(nb:m<=1000001)(a b:Nat)(f:a+1<m)(g:b+1<m)(v:¬ Cn A a b) :
 CR ya 287 (Zv fb a b) w (fun r w' => ∃ e:Int,r = .int .i64 e/\fV (jR fb hb m A key) w w' (jR fb hb m (fun i j=>A i j\/(i=a/\j=b)\/(i=b/\j=a)) key)):=by
 obtain⟨ed,xs,F,c,t⟩:=C7 s
 refine CR.mono (TU fb hb m ed xs w t c.len nb c.CH F c.fo a b f g) fun r w' ⟨e,ed', zs,F2,u,h,l,n,p,q,ht⟩=>⟨e,u,DA ht ⟨n,l,h,fun i j=>?_,fun k d=>(q _).trans (c.key k d)⟩⟩
 have o:=p (fun d=>v ((c.cn f g).1 d)) (i+1) (j+1)
 exact o.trans (or_congr (c.j9 i j) o_)
theorem Nq(m:Nat)(A:Nat->Nat->Prop)(key:Nat->Int)(w:World)(x:Own (jR fb hb m A key) w)(nb:m<=1000001)(a b:Nat)(g:a+1<m)(h:b+1<m)(s:A a b) :
 CR ya 199 (Zv fb a b) w (fun r w' => ∃ e:Int,r = .int .i64 e/\¬ Cn (fun i j=>A i j/\¬ ((i=a/\j=b)\/(i=b/\j=a))) a b/\fV (jR fb hb m A key) w w' (jR fb hb m (fun i j=>A i j/\¬ ((i=a/\j=b)\/(i=b/\j=a))) key)):=by
 obtain⟨ed,xs,F,c,y⟩:=C7 x
 refine CR.mono (TP fb hb m ed xs w y c.len nb c.CH F c.fo a b g h) fun r w' ⟨e,ed', zs,F2,z,l,n,o,t,v,ht⟩=>?_
 obtain⟨q,u⟩:=t ((c.j9 a b).2 s)
 have f:xC m (fun i j=>A i j/\¬ ((i=a/\j=b)\/(i=b/\j=a))) key zs F2:=⟨o,n,l,fun i j=>by
  have p:=q (i+1) (j+1)
  exact p.trans (and_congr (c.j9 i j) o_),fun k d=>(v _).trans (c.key k d)⟩
 exact⟨e,z,fun d=>u ((f.cn g h).2 d),DA ht f⟩
def QS.R(hb n:Nat)(s:QS):fT:=lq (s.ok n) (gh [blk hb 385 (rN hb n s.iv s.pv),fL gH.cells s.iv 250 2 s.fQ,fL iI s.pv 399 1 s.ps,gN fU 401 64 s.ps s.pl])
def QS.SR(sb hb n:Nat)(s:QS):fT:=gh [blk sb 318 (xM n hb),(QS.R hb n s)]
abbrev Ep a (b c d:Nat) (e:Int) (f g:Nat) h:=(gh [a,blk b 115 (Zf c),blk d 2 (Ze e),blk c 318 (xM f g),QS.R g f h]:fT)
abbrev Az(a b c:Nat)(d:Int)(e:Nat)(f:Int)(g h:Nat) i:=(gh [blk a 115 (Zf b),blk c 3 (Ze d),blk e 2 (Ze f),blk b 318 (xM g h),QS.R h g i]:fT)
theorem Rj(a:n<=65536) :
 CR ya 220 (Z2 n) w (fun r w' => ∃ hb s,r = .tuple (Zz hb)/\s.fQ=[]/\fV (gh []) w w' (QS.R hb n s)) :=
 CR.mono (XI n w a) fun r w' ⟨hb,pv,b,ht⟩=>⟨hb,⟨.slice none 0 0,pv,List.replicate ((n+63) / 64) none,[],List.replicate (64*((n+63) / 64)) 0⟩,b,rfl,ht.LU ⟨Hp.new rfl,jA.new a rfl,Ord.nil⟩⟩
theorem abW(a:Own (QS.R hb n s) w)(i:Nat)(hi:i<n)(c:∀ e∈s.fQ,e.ix≠i) :
 CR ya 282 (Zm hb i) w (fun r w' => r = .tuple Cd/\fV (QS.R hb n s) w w' (QS.R hb n s)) :=
 CR.mono (XH hb n s.iv s.pv s.ps s.fQ s.pl w a.un a.fact.hp a.fact.gP i hi (a.fact.free hi c)) fun r w' ⟨b,ht⟩=>⟨b,ht.rD a.fact⟩
theorem Rm(f:Own (QS.R hb n s) w)(i:Nat)(hi:i<n)(h:∀ e∈s.fQ,e.ix≠i)(key:Int)(hk:gU .i64 key) :
 CR ya 214 (Zv hb i key) w (fun r w' => ∃ s2,r = .int .i64 0/\(∀ e,e∈s2.fQ↔e∈s.fQ\/e=⟨i,key⟩)/\fV (QS.R hb n s) w w' (QS.R hb n s2)) :=
 CR.mono (XP hb n s.iv s.pv s.ps s.fQ s.pl w f.un f.fact.hp f.fact.gP f.fact.ord i hi (f.fact.free hi h) key hk) fun r w' ⟨g,j,k,ys,l,a,b,c,d,_,_,ht⟩=>⟨⟨j,s.pv,k,ys,l⟩,g,d,ht.rD ⟨a,b,c⟩⟩
theorem Rh(a:Own (QS.R hb n s) w)(b:s.fQ.length=0) :
 CR ya 197 (Zh hb) w (fun r w' => r = .tuple Ca/\fV (QS.R hb n s) w w' (QS.R hb n s)) :=
 CR.mono (O1 hb n s.iv s.pv s.ps s.fQ s.pl w a.un a.fact.hp a.fact.gP b) fun r w' ⟨c,ht⟩=>⟨c,ht.rD a.fact⟩
theorem Ri(a:Own (QS.R hb n s) w)(b:0<s.fQ.length) :
 CR ya 197 (Zh hb) w (fun r w' => r = .tuple (Cb ((fJ s.fQ 0).ix:Int) ((fJ s.fQ 0).key))/\fV (QS.R hb n s) w w' (QS.R hb n s)) :=
 CR.mono (O2 hb n s.iv s.pv s.ps s.fQ s.pl w a.un a.fact.hp a.fact.gP b) fun r w' ⟨c,ht⟩=>⟨c,ht.rD a.fact⟩
theorem abX(a:Own (QS.R hb n s) w)(b:s.fQ.length=0) :
 CR ya 126 (Zh hb) w (fun r w' => r = .tuple Ca/\fV (QS.R hb n s) w w' (QS.R hb n s)) :=
 CR.mono (XN hb n s.iv s.pv s.ps s.fQ s.pl w a.un a.fact.hp a.fact.gP b) fun r w' ⟨c,ht⟩=>⟨c,ht.rD a.fact⟩
theorem Rl(g:Own (QS.R hb n s) w)(h:0<s.fQ.length) :
 CR ya 126 (Zh hb) w (fun r w' => ∃ s2,r = .tuple (Cb ((fJ s.fQ 0).ix:Int) ((fJ s.fQ 0).key))/\((∀ e,e∈s2.fQ↔e∈s.fQ/\e.ix≠(fJ s.fQ 0).ix)/\s2.fQ.length+1=s.fQ.length)/\fV (QS.R hb n s) w w' (QS.R hb n s2)) :=
 CR.mono (XO hb n s.iv s.pv s.ps s.fQ s.pl w g.un g.fact.hp g.fact.gP g.fact.ord h) fun r w' ⟨i,j,k,ys,l,a,b,c,d,_,f,ht⟩=>⟨⟨j,s.pv,k,ys,l⟩,i,⟨d,f⟩,ht.rD ⟨a,b,c⟩⟩
theorem abV(a:Own (QS.R hb n s) w) :
 CR ya 208 (Zh hb) w (fun r w' => ∃ b s2,r = .pointer (some ⟨b,0,none⟩)/\s2.fQ=s.fQ/\fV (QS.R hb n s) w w' (gh [QS.R hb n s,QS.R b n s2])) :=
 CR.mono (XE hb n s.iv s.pv s.ps s.fQ s.pl w a.un a.fact.hp a.fact.gP) fun r w' ⟨b,c,d,e,g,i,_,ht⟩=>⟨b,⟨c,d,e,s.fQ,s.pl⟩,g,rfl,(fV.Fi (A:=[blk hb 385 [(.pointer (some ⟨hb,0,none⟩)),(.int .i64 n),s.iv,s.pv],fL gH.cells s.iv 250 2 s.fQ,fL iI s.pv 399 1 s.ps,gN fU 401 64 s.ps s.pl]) (B:=[blk b 385 [(.pointer (some ⟨b,0,none⟩)),(.int .i64 n),c,d],fL gH.cells c 250 2 s.fQ,fL iI d 399 1 e,gN fU 401 64 e s.pl]) ht).LP.CS rfl (fun h=>by
  intro Q f
  simp only[zg,nr,or_false]at f
  rcases f with rfl|rfl
  . exact⟨a.fact,h _ s_⟩
  . exact⟨⟨a.fact.hp,i,a.fact.ord⟩,h _ s_⟩)⟩
theorem Dm(sb hb n:Nat)(s:QS)(w:World)(d:Own (QS.SR sb hb n s) w) :
 CR ya 124 (Zh sb) w (fun r w' => r = .bool true/\fV (QS.SR sb hb n s) w w' (QS.SR sb hb n s)):=by
 refine en func124 ntmps124 ?_
 have b:=Own.of d
 have e:=(y9 b (i:=1) rfl:s.ok n)
 refine fR b 8 ?_
 refine lI (a:=some ⟨sb,0,none⟩) (c:=true) rfl rfl rfl underlying115 rfl (fK b 5 ?_)
 refine lI (a:=some ⟨hb,0,none⟩) (c:=true) rfl rfl rfl Hh rfl (fP b 5 ?_)
 refine gf (v:=Zg) results124 rfl ?_
 exact⟨rfl,yj (yc [_,_] _ b)⟩
theorem adt(l:n<=65536) :
 CR ya 146 (Z2 n) w (fun r w' => ∃ sb hb s,r = .tuple (Zz sb)/\s.fQ=[]/\fV (gh []) w w' (QS.SR sb hb n s)):=by
 refine en func146 ntmps146 ?_
 have k:=yu w
 refine fR k 9 ?_
 refine cl (Rj n w l) ?_
 rintro _ g ⟨a,e,rfl,f,ht⟩
 have b:=(jm k ht)
 refine fK b 21 ?_
 refine iU (pvs:=[(0,(Za n)),(1,(Zb a))]) (v:=.agg (xD n a)) rfl rfl (jj [(0,(Ze n)),(1,(Zf a))] Lu QV rfl ⟨rfl,rfl,rfl,rfl,trivial⟩ rfl) (ir b (fun c h i j d=>?_))
 refine fP d 5 ?_
 refine gZ (v:=(Zb c)) (v' := Zc) results146 rfl rfl ?_
 exact⟨c,a,e,rfl,f,mD (yc [_,_] _ d)⟩
theorem adu(sb hb n:Nat)(s:QS)(w:World)(x:Own (QS.SR sb hb n s) w)(u:s.fQ.length=0) :
 CR ya 135 (Zh sb) w (fun r w' => r = .tuple Ca/\fV (QS.SR sb hb n s) w w' (QS.SR sb hb n s)):=by
 refine en func135 ntmps135 ?_
 have t:=Own.of x
 have y:=(y9 t (i:=1) rfl:s.ok n)
 refine fR t 2 ?_
 refine iR t (fun k e l m b=>?_)
 have f:=yf [1,2,0] b
 have c:=yc [_,_] _ f
 refine fK b 7 ?_
 refine cl (Dm sb hb n s e (ye c 0 rfl)) ?_
 rintro _ g ⟨rfl,ht⟩
 have h:=yh 0 c ht
 have a:=yy h
 refine fK a 12 ?_
 refine cl (Rh hb n s g (ye a 1 rfl) u) ?_
 rintro _ p ⟨rfl,ht⟩
 have j:=yh 1 a ht
 refine jH j 7 fun q d=>?_
 refine o7 (v:=Ih) (v' := Zn) results135 (nX (cs:=vS) rfl xl rfl qp rfl (mO d (i:=2) (o:=0) (vs:=vS) rfl rfl)) (pN rfl) ?_
 exact⟨rfl,yj (yc [_,_] _ d)⟩
theorem adv(sb hb n:Nat)(s:QS)(w:World)(x:Own (QS.SR sb hb n s) w)(u:0<s.fQ.length) :
 CR ya 135 (Zh sb) w (fun r w' => r = .tuple (Cb ((fJ s.fQ 0).ix:Int) ((fJ s.fQ 0).key))/\fV (QS.SR sb hb n s) w w' (QS.SR sb hb n s)):=by
 refine en func135 ntmps135 ?_
 have t:=Own.of x
 have y:=(y9 t (i:=1) rfl:s.ok n)
 refine fR t 2 ?_
 refine iR t (fun k e l m b=>?_)
 have f:=yf [1,2,0] b
 have c:=yc [_,_] _ f
 refine fK b 7 ?_
 refine cl (Dm sb hb n s e (ye c 0 rfl)) ?_
 rintro _ g ⟨rfl,ht⟩
 have h:=yh 0 c ht
 have a:=yy h
 refine fK a 12 ?_
 refine cl (Ri hb n s g (ye a 1 rfl) u) ?_
 rintro _ p ⟨rfl,ht⟩
 have j:=yh 1 a ht
 refine jH j 7 fun q d=>?_
 refine o7 (v:=(Ck ((fJ s.fQ 0).ix:Int) ((fJ s.fQ 0).key))) (v' := Zg) results135 (nX (cs:=(Zr ((fJ s.fQ 0).ix:Int) ((fJ s.fQ 0).key))) rfl xl rfl qp rfl (mO d (i:=2) (o:=0) (vs:=(Zr ((fJ s.fQ 0).ix:Int) ((fJ s.fQ 0).key))) rfl rfl)) (pN rfl) ?_
 exact⟨rfl,yj (yc [_,_] _ d)⟩
theorem ac8(b1 hb fb sb b2 n:Nat)(s:QS)(w:World)(i:Nat)(hi:i<n)(j:∀ e∈s.fQ,e.ix≠i)(key:Int)(hk:gU .i64 key)(h:Own (Az b1 sb hb i fb key n b2 s) w) :
 CR ya 212 #[Zn,(Zb b1),(Zb hb),(Zb fb)] w (fun r w' => ∃ s2,r = .int .i64 0/\(∀ e,e∈s2.fQ↔e∈s.fQ\/e=⟨i,key⟩)/\fV (Az b1 sb hb i fb key n b2 s) w w' (Az b1 sb hb i fb key n b2 s2)):=by
 refine en func212 ntmps212 ?_
 have k:=Own.of h
 refine ry k 22 fun c a=>?_
 refine cl (Rm b2 n s c (ye a 4 rfl) i hi j key hk) ?_
 rintro _ g ⟨d,rfl,f,ht⟩
 have b:=yh 4 a ht
 refine fP b 4 ?_
 refine gf (v:=Zc) results212 rfl ?_
 exact⟨d,rfl,f,yj (yc [_,_,_,_,_] _ b)⟩
theorem ad3(b1 hb fb sb b2 n:Nat)(s:QS)(w:World)(i:Nat)(hi:i<n)(t:∀ e∈s.fQ,e.ix≠i)(key:Int)(hk:gU .i64 key)(x:Own (Az b1 sb hb i fb key n b2 s) w) :
 CR ya 211 #[(Zb sb),(Za i),(.func (.func 212) #[] (Ev b1 hb fb))] w (fun r w' => ∃ s2,r = .int .i64 0/\(∀ e,e∈s2.fQ↔e∈s.fQ\/e=⟨i,key⟩)/\fV (Az b1 sb hb i fb key n b2 s) w w' (Az b1 sb hb i fb key n b2 s2)):=by
 refine en func211 ntmps211 ?_
 have u:=Own.of x
 have g:=yf [3,4,0,1,2] u
 have b:=yc [_,_] _ g
 refine fR u 9 ?_
 refine cl (Dm sb b2 n s w (ye b 0 rfl)) ?_
 rintro _ h ⟨rfl,ht⟩
 have j:=yh 0 b ht
 have a:=yy j
 refine fK a 10 ?_
 refine cmp rfl rfl rfl (kG o_) (fK a 6 ?_)
 refine cmp rfl rfl rfl (oS o_) (fK a 13 ?_)
 refine cl (abW b2 n s h (ye a 1 rfl) i hi t) ?_
 rintro _ k ⟨rfl,ht⟩
 have c:=yh 1 a ht
 have l:=yf [2,3,4,0,1] c
 have d:=yc [_,_,_,_,_] _ l
 refine fK c 11 ?_
 refine mW (fi:=[]) (ca:=(uU b1 hb fb)) rfl rfl rfl eN (ac8 b1 hb fb sb b2 n s k i hi t key hk (ye d 0 rfl)) ?_
 rintro _ q ⟨m,rfl,o,ht⟩
 have p:=yh 0 d ht
 have f:=yy p
 refine fP f 4 ?_
 refine gf (v:=Zc) results211 rfl ?_
 exact⟨m,rfl,o,yj (yc [_,_,_,_,_] _ f)⟩
theorem adJ(sb hb n:Nat)(s:QS)(w:World)(F:Own (QS.SR sb hb n s) w)(i:Nat)(hi:i<n)(G:∀ e∈s.fQ,e.ix≠i)(key:Int)(hk:gU .i64 key) :
 CR ya 141 (Zv sb i key) w (fun r w' => ∃ s2,r = .int .i64 0/\(∀ e,e∈s2.fQ↔e∈s.fQ\/e=⟨i,key⟩)/\fV (QS.SR sb hb n s) w w' (QS.SR sb hb n s2)):=by
 refine en func141 ntmps141 ?_
 have E:=Own.of F
 have H:=(y9 E (i:=1) rfl:s.ok n)
 refine fR E 2 ?_
 refine ir E (fun a t u x h=>?_)
 refine ir h (fun b y z A j=>?_)
 refine ir j (fun c k B C d=>?_)
 refine fK d 7 ?_
 refine mX (vf:=[]) (vc:=(uU a b c)) rfl rfl rfl ?_
 have l:=yf [2,1,0,3,4] d
 have f:=yc [_,_,_,_,_] _ l
 refine cl (ad3 a b c sb hb n s k i hi G key hk (ye f 0 rfl)) ?_
 rintro _ D ⟨m,rfl,o,ht⟩
 have p:=yh 0 f ht
 have g:=yy p
 refine fP g 4 ?_
 refine gf (v:=Zc) results141 rfl ?_
 have q:=yf [3,4,0,1,2] g
 exact⟨m,rfl,o,yj (yc [_,_] _ q)⟩
theorem Wz :
 CR ya 125 (Zm n ed) w (fun r w' => ∃ m tb,r = .func (.func 196) #[] (AD m tb)/\fV (gh []) w w' (gh [blk m 115 (Zf n),blk tb 2 (Ze ed)])):=by
 refine en func125 ntmps125 ?_
 have l:=yu w
 refine fR l 2 ?_
 refine ir l (fun a f g h d=>?_)
 refine ir d (fun b i j k c=>?_)
 refine fK c 5 ?_
 refine mX (vf:=[]) (vc:=(sY a b)) rfl rfl rfl (fP c 4 ?_)
 refine gf (v:=(.func (.func 196) #[] (AD a b))) results125 rfl ?_
 have e:=yf [1,0] c
 exact⟨a,b,rfl,mD (yc [_,_] _ e)⟩
theorem Wy{γ:Type}(T:γ->fT)(F:γ->List Nat)(z0:γ)(l X tb sb hb n:Nat)(s:QS)(now:Int)(w:World)(hy:∀ (z:γ) (i:Nat) (bs:List (World×List Nat)) (L:List fT) (w:World),i<n->(F z).length<=65536->St bs (T z :: L) w->YR ya l (Ze i) w (fun v w' => v = .bool true/\∃ z2,F z2=F z++[i]/\St bs (T z2 :: L) w'))(ai:(F z0).length=0)(hn:n<=65536)(hO:Own (Ep (T z0) X sb tb now n hb s) w) :
 CR ya 196 (MB (.func (.yield l) #[] #[]) X tb) w (fun r w' => ∃ z s2 ds,r = .tuple #[]/\F z=F z0++ds/\qx n s s2 ds now/\fV (Ep (T z0) X sb tb now n hb s) w w' (Ep (T z) X sb tb now n hb s2)):=by
 refine en func196 ntmps196 ?_
 have af:=Own.of hO
 have ae:=(y9 af (i:=4) rfl:s.ok n)
 refine rm af 1 ?_
 refine lp (α:=γ×QS) (fun(z,t)=>[(0,(.func (.yield l) #[] #[])),(1,(Zb X)),(2,(Zb tb))]) (fun(z,t) w1=>St [(w,(Ep (T z0) X sb tb now n hb s).gJ)] [(T z),blk X 115 (Zf sb),blk tb 2 (Ze now),blk sb 318 (xM n hb),(QS.R hb n t)] w1/\∃ ds,uM s.fQ t.fQ ds now/\F z=F z0++ds) (fun(z,t)=>t.fQ.length) (z0,s) ⟨rfl,rfl,rfl,trivial⟩ (⟨af,[],uM.start _ _,by rw[rJ]⟩) ?_
 rintro⟨z,t⟩ D c ⟨Y,ds,Z,aa⟩
 have ad:=(y9 Y (i:=4) rfl:t.ok n)
 obtain⟨k,E⟩:∃ q,BS t.fQ.length=q:=⟨_,rfl⟩
 refine fR Y 7 ?_
 rcases k with W|W
 . skip
   refine cl (Rh hb n t c (ye Y 4 rfl) W) ?_
   rintro _ G ⟨rfl,ht⟩
   have d:=yh 4 Y ht
   refine fK d 3 ?_
   refine iR d (fun H I J K m=>?_)
   refine jH m 23 fun M o=>?_
   refine Bm results196 ?_
   have p:=yf [1,2,3,4,5,0] o
   have ab:=Z.fin ae ad (Or.inl W)
   exact⟨z,t,ds,rfl,aa,ab,yj (yc [_,_,_,_,_] _ p)⟩
 . skip
   refine cl (Ri hb n t c (ye Y 4 rfl) W) ?_
   rintro _ N ⟨rfl,ht⟩
   have e:=yh 4 Y ht
   refine fK e 3 ?_
   refine iR e (fun O P Q S u=>?_)
   refine gC u 13 fun x a=>?_
   by_cases f:((fJ t.fQ 0).key:Int)>(now:Int)
   . have ac:now<(fJ t.fQ 0).key:=by have h7:=@f;omega
     refine fP a 10 ?_
     refine Bm results196 ?_
     have y:=yf [1,2,3,4,5,0] a
     have ab:=Z.fin ae ad (Or.inr ac)
     exact⟨z,t,ds,rfl,aa,ab,yj (yc [_,_,_,_,_] _ y)⟩
   . have ac:(fJ t.fQ 0).key<=now:=by have h7:=@f;omega
     refine fK a 13 ?_
     refine cl (Rl hb n t x (ye a 5 rfl) W) ?_
     rintro _ U ⟨g,rfl,b,ht⟩
     have h:=yh 5 a ht
     have A:=yf [1,2,3,4,5,0] h
     have ah:=ad.lt (ri.2 ⟨0,W,rfl⟩)
     have ag:(F z).length<=65536:=by have h7:=Z.len;have h8:=ae.hp.len;rw[aa,zo,ai];omega
     refine fK h 7 ?_
     refine yl (vl:=(Ze ((fJ t.fQ 0).ix:Int))) rfl rfl rfl (hy z (fJ t.fQ 0).ix _ _ _ ah ag A) ?_
     rintro _ V ⟨rfl,B,aj,j⟩
     refine fP j 6 ?_
     refine tN (?_)
     have C:=yf [0,1,2,3,4] j
     exact again (B,g) ⟨rfl,rfl,rfl,trivial⟩ (⟨C,(ds++[(fJ t.fQ 0).ix]),Z.step W ac b.1 b.2,by rw[aj,aa,z7]⟩) (by have h7:=b.2;show g.fQ.length<t.fQ.length;omega)
theorem aaz(ds:List Nat)(i:Nat):gy (ds++[i])=gy ds++[(i:Int)]:=by simp[gy]
theorem ac4(sb hb n:Nat)(s:QS)(w:World)(hO:Own (QS.SR sb hb n s) w)(now:Int)(hn:n<=65536) :
 CR ya 73 (Zm sb now) w (fun r w' => ∃ v ds t,r=v/\qx n s t ds now/\fV (QS.SR sb hb n s) w w' (gh [(QS.SR sb hb n t),iz .i64 v 3 (gy ds)])):=by
 refine AR (vs:=(tS sb now)) func73 rfl ntmps73 rfl ?_
 have aa:=Own.of hO
 have aq:=(y9 aa (i:=1) rfl:s.ok n)
 have f:=yc [_,_] _ aa
 refine fR aa 9 ?_
 refine cl (Dm sb hb n s w (ye f 0 rfl)) ?_
 rintro _ M ⟨rfl,ht⟩
 have u:=yh 0 f ht
 have g:=yy u
 refine fK g 8 ?_
 refine iR g (fun a x N O h=>?_)
 refine fK h 7 ?_
 refine cl (Wz sb now x) ?_
 rintro _ y ⟨b,c,rfl,ht⟩
 have j:=yy (jm h ht)
 have A:St _ [iz .i64 Zi 3 ([]),blk b 115 (Zf sb),blk c 2 (Ze now),blk a 37 oP,blk sb 318 (xM n hb),(QS.R hb n s)] y:=qJ j 3 1
 have B:=yf [3,0,1,2,4,5] A
 have C:=B
 have D:=C
 refine gF j 3 ?_
 refine rf (α:=Value×List Nat×QS) (ps:=[13]) (fi:=[]) (ca:=(sY b c)) (fun(v,ds,t)=>[blk a 37 [v],iz .i64 v 3 (gy ds),blk b 115 (Zf sb),blk c 2 (Ze now),blk sb 318 (xM n hb),(QS.R hb n t)]) (fun(v,ds,t)=>qx n s t ds now) D rfl eN ?_ ?_
 . intro fn dd l wl rc T an
   have E:=yf [0,2,3,4,5,6,7,1] an
   have ah:=yc [iw l rc,blk a 37 oP,iz .i64 Zi 3 (gy ([]))] [blk b 115 (Zf sb),blk c 2 (Ze now),blk sb 318 (xM n hb),(QS.R hb n s),j6 dd (some [])] E
   have ac:rc.state = .ready:=by rw[T]
   have aj:rc.pending=none:=by rw[T]
   have ak:∀ (z:Value×List Nat) (i:Nat) (bs:List (World×List Nat)) (L:List fT) (w:World),i<n->((Prod.snd:Value×List Nat->List Nat) z).length<=65536->St bs ((fun((v,ds):Value×List Nat)=>gh [iw l rc,blk a 37 [v],iz .i64 v 3 (gy ds)]) z :: L) w->YR ya l (Ze i) w (fun v w' => v = .bool true/\∃ z2,(Prod.snd:Value×List Nat->List Nat) z2=(Prod.snd:Value×List Nat->List Nat) z++[i]/\St bs ((fun((v,ds):Value×List Nat)=>gh [iw l rc,blk a 37 [v],iz .i64 v 3 (gy ds)]) z2 :: L) w'):=by
    intro z i bs LT wr hi ap F
    have F:=F.unpack
    refine yU (vl:=(Ze i)) 0 T F rfl rfl rfl (iT F 3 ?_)
    refine tN (?_)
    refine AH 0 F rfl ac rfl (fun P m=>fR m 4 ?_)
    refine jW (vs:=(Ze i)) (cs:=(Ze i)) rfl rfl yd gq rfl (by simp[Value.cells]) rfl rfl rfl m (fun G Q S U o=>vZ (k:=.i64) (ys:=gy z.2) (zs:=[(i:Int)]) (LL:=fun d=>(iz .i64 (Z4 G) 3 ([(i:Int)]) :: iw l { rc with state:=.busy } :: blk a 37 [z.1] :: iz .i64 d 3 ((gy z.2)++([(i:Int)])) :: LT)) 3 rfl rfl rfl yd gq rfl o rfl (lF o (i:=0) rfl) (by simp only[gy,zu,zh,zk,maxLen];first|omega|skip) (by simp only[gy,zu,zh,zk,maxLen];first|omega|skip) f_ ?_)
    intro d V H W
    have e:=St.sub (L' := (iw l { rc with state:=.busy } :: blk a 37 [z.1] :: iz .i64 d 3 ((gy z.2)++([(i:Int)])) :: LT)) H (List.Sublist.cons _ (List.Sublist.refl _))
    refine jt 1 e (fun X p=>?_) (hvs:=(cells_one (yv e (i:=2) rfl))) (h1:=(gX (yv e (i:=2) rfl) jV))
    refine fP p 2 ?_
    refine u9 0 p rfl ac aj rfl ?_
    intro Y I
    have ad:=I
    rw[<-aaz]at ad
    exact⟨_,rfl,rfl,(d,z.2++[i]),rfl,yc [_,_,_] _ ad⟩
   have ab:=yc [_,_,_,_,_] _ ah
   refine CR.mono (Wy (fun((v,ds):Value×List Nat)=>gh [iw l rc,blk a 37 [v],iz .i64 v 3 (gy ds)]) Prod.snd (.slice none 0 0,[]) l b c sb hb n s now wl ak rfl hn (ye ab 0 rfl)) ?_
   rintro _ w9 ⟨z,t,ds,-,ai,ae,ao⟩
   have am:=(yi ab ao).unpack
   have J:=yf [0,7,1,2,3,4,5,6] am
   exact⟨(z.1,z.2,t),by rw[show z.2=ds by simpa using ai];exact ae,J⟩
 . rintro⟨v,ds,t⟩ dd Z hC q
   refine wR tt none q 9 ?_
   refine yC 0 q rfl rfl ?_
   intro w8 al
   have K:=yf [5,6,2,0,1,3,4] al
   have ag:=yc [_,_] _ K
   have af:St _ (gh [(QS.SR sb hb n t),iz .i64 v 3 (gy ds)] :: _) _:=yc [_,_] _ ag
   have hT:fV (QS.SR sb hb n s) w _ (gh [(QS.SR sb hb n t),iz .i64 v 3 (gy ds)]):=yj af
   exact⟨_,results_tmp results73 _ _ _,_,rfl,by rw[qB];exact⟨v,ds,t,rfl,hC,hT⟩⟩
theorem ac2(sb hb n:Nat)(s:QS)(w:World)(z:Own (QS.SR sb hb n s) w) :
 CR ya 137 (Zh sb) w (fun r w' => ∃ y C s2,r = .pointer (some ⟨y,0,none⟩)/\s2.fQ=s.fQ/\fV (QS.SR sb hb n s) w w' (gh [(QS.SR sb hb n s),(QS.SR y C n s2)])):=by
 refine en func137 ntmps137 ?_
 have x:=Own.of z
 have E:=(y9 x (i:=1) rfl:s.ok n)
 have b:=yc [_,_] _ x
 refine fR x 9 ?_
 refine cl (Dm sb hb n s w (ye b 0 rfl)) ?_
 rintro _ m ⟨rfl,ht⟩
 have g:=yh 0 b ht
 have c:=yy g
 refine gF c 7 ?_
 refine kq mixed [([0,1,2,3,4,5,6,7,8],[3])] [9,10,11] c (fun h a=>jx ?_)
 refine fK a 8 ?_
 refine cl (abV hb n s h (ye a 1 rfl)) ?_
 rintro _ o ⟨u,D,rfl,j,ht⟩
 have k:=yf [1,0] a
 have d:=yy (yh 0 k ht)
 refine fP d 1 ?_
 refine jZ (kE ?_)
 refine iU (pvs:=[(0,(Za n)),(1,(Zb u))]) (v:=.agg (xD n u)) rfl rfl (jj [(0,(Ze n)),(1,(Zf u))] Lu QV rfl ⟨rfl,rfl,rfl,rfl,trivial⟩ rfl) (ir d (fun e p q t f=>?_))
 refine fP f 4 ?_
 refine gf (v:=(Zb e)) results137 rfl ?_
 have l:=yf [3,1,0,2] f
 exact⟨e,u,D,rfl,j,(fV.Fi (A:=[_,_]) (B:=[_,_]) (yj (yc [_,_,_,_] _ l)))⟩
def GI.R(fN fM ob:Nat)(s:GW)(A:Nat->Nat->Prop)(key:Nat->Int):fT:=lq (s.ok fN fM) (gh [blk ob 214 (Au fN fM s (some s.mb)),(jR s.fb s.nb (fM+fN+1) A key),(QS.R s.hb fM s.q),ia s.mb .i64 Ed.enc s.m])
theorem Fp(hb fb:Nat)(s:GW)(A:Nat->Nat->Prop)(key:Nat->Int)(w:World)(d:Own (GI.R n hb fb s A key) w) :
 CR ya 105 (Zh fb) w (fun r w' => r = .bool true/\fV (GI.R n hb fb s A key) w w' (GI.R n hb fb s A key)):=by
 refine en func105 ntmps105 ?_
 have b:=Own.of d.un
 have e:s.ok n hb:=d.fact
 refine fR b 8 ?_
 refine lI (a:=some ⟨fb,0,none⟩) (c:=true) rfl rfl rfl underlying116 rfl (fK b 5 ?_)
 refine Qk (a:=some s.mb) (c:=true) rfl rfl rfl sJ rfl (fP b 5 ?_)
 refine gf (v:=Zg) results105 rfl ?_
 exact⟨rfl,ym (yn (p:=GW.ok n hb s) (yc [_,_,_,_] _ b) e) zd⟩
theorem Jj(hb fb:Nat)(s:GW)(A:Nat->Nat->Prop)(key:Nat->Int)(w:World)(e:Own (GI.R n hb fb s A key) w)(v:Nat)(hv:v<n) :
 CR ya 215 (Zm fb v) w (fun r w' => r = .bool true/\fV (GI.R n hb fb s A key) w w' (GI.R n hb fb s A key)):=by
 have j:=e.fact.vn
 have i:=e.fact.v2
 have h:=e.fact.en
 refine en func215 ntmps215 ?_
 have g:=Own.of e.un
 have f:s.ok n hb:=e.fact
 have b:=yn (p:=GW.ok n hb s) (yc [_,_,_,_] _ g) f
 refine fR g 8 ?_
 refine cl (Fp n hb fb s A key w (ye b 0 rfl)) ?_
 rintro _ d ⟨rfl,ht⟩
 have c:=yh 0 b ht
 have a:=(jM c).unpack
 refine fK a 2 ?_
 refine cmp rfl rfl rfl (ow o_) (fK a 7 ?_)
 refine cmp rfl rfl rfl (p8 o_) (fP a 5 ?_)
 refine gf (v:=Zg) results215 rfl ?_
 exact⟨rfl,ym (yn (p:=GW.ok n hb s) (yc [_,_,_,_] _ a) f) zd⟩
theorem Ji(fN fM ob:Nat)(s:GW)(A:Nat->Nat->Prop)(key:Nat->Int)(w:World)(F:Own (GI.R fN fM ob s A key) w)(k:Nat)(hk:k<fM)(V:∀ i,¬ A k i/\¬ A i k)(Y:¬ Cn A (fM+(fS s.m (k:Int)).a) (fM+(fS s.m (k:Int)).b)) :
 CR ya 217 (Zm ob k) w (fun r w' => ∃ s2:GW,r = .tuple #[]/\(s2.q=s.q/\s2.m=gr s.m (k:Int) (⟨(fS s.m (k:Int)).a,(fS s.m (k:Int)).b,(fS s.m (k:Int)).exp,true⟩:Ed)/\s2.trees=IntKind.i64.wrap (s.trees+1))/\fV (GI.R fN fM ob s A key) w w' (GI.R fN fM ob s2 (fun i j=>A i j\/nU fM k (fS s.m (k:Int)) i j) (fun x=>if x=k then(fS s.m (k:Int)).exp else key x))):=by
 have ae:=F.fact.vn
 have ad:=F.fact.v2
 have aa:=F.fact.en
 have T:=F.fact.get (k:Int)
 have ab:=T.a
 have ac:=T.b
 refine en func217 ntmps217 ?_
 have U:=Own.of F.un
 have X:s.ok fN fM:=F.fact
 refine fR U 7 ?_
 refine qh (a:=(k:Int)) (mm:=s.m) (enc:=Ed.enc) (k:=.i64) 3 rfl rfl rfl sJ yg zC rfl U rfl (iR U (fun l H I J n=>?_))
 refine gC n 13 fun o f=>?_
 refine cl (ND s.fb s.nb (fM+fN+1) A key o (ye f 2 rfl) o_ k o_ ((fS s.m (k:Int)).exp) T.exp) ?_
 rintro _ K ⟨rfl,ht⟩
 have t:=yh 2 f ht
 refine gC t 16 fun u g=>?_
 refine ar (e:=(((fM+(fS s.m (k:Int)).a):Nat):Int)) rfl rfl rfl rfl je (cl (Nz s.fb s.nb (fM+fN+1) A (fun x=>if x=k then(fS s.m (k:Int)).exp else key x) u (ye g 2 rfl) o_ k (fM+(fS s.m (k:Int)).a) o_ o_ (fun W=>by have Z:=X3 V W;omega)) ?_)
 rintro _ L ⟨M,rfl,ht⟩
 have v:=yh 2 g ht
 refine gC v 16 fun y h=>?_
 refine ar (e:=(((fM+(fS s.m (k:Int)).b):Nat):Int)) rfl rfl rfl rfl je (cl (Nz s.fb s.nb (fM+fN+1) (fun i j=>A i j\/(i=k/\j=fM+(fS s.m (k:Int)).a)\/(i=fM+(fS s.m (k:Int)).a/\j=k)) (fun x=>if x=k then(fS s.m (k:Int)).exp else key x) y (ye h 2 rfl) o_ k (fM+(fS s.m (k:Int)).b) o_ o_ (X4 V Y o_)) ?_)
 rintro _ N ⟨O,rfl,ht⟩
 have z:=yh 2 h ht
 refine gC z 16 fun P B=>?_
 refine qD (a:=(k:Int)) (c:=(⟨((fS s.m (k:Int)).a),((fS s.m (k:Int)).b),(fS s.m (k:Int)).exp,true⟩:Ed)) (mm:=s.m) (enc:=Ed.enc) (k:=.i64) (L' := [blk l 254 [(Za ((fS s.m (k:Int)).a:Int)),(Za ((fS s.m (k:Int)).b:Int)),(Za ((fS s.m (k:Int)).exp)),Zg],blk ob 214 (Au fN fM s (some s.mb)),(jR s.fb s.nb (fM+fN+1) (fun i j=>(fun i j=>A i j\/(i=k/\j=fM+(fS s.m (k:Int)).a)\/(i=fM+(fS s.m (k:Int)).a/\j=k)) i j\/(i=k/\j=fM+(fS s.m (k:Int)).b)\/(i=fM+(fS s.m (k:Int)).b/\j=k)) (fun x=>if x=k then(fS s.m (k:Int)).exp else key x)),(QS.R s.hb fM s.q),ia s.mb .i64 Ed.enc (gr s.m (k:Int) (⟨((fS s.m (k:Int)).a),((fS s.m (k:Int)).b),(fS s.m (k:Int)).exp,true⟩:Ed))]) 4 rfl rfl rfl rfl sJ yg B rfl rfl (fun Q d=>fP d 1 ?_)
 refine Bg tt none d 6 ?_
 refine ar (e:=(IntKind.i64.wrap (s.trees+1))) rfl rfl rfl rfl rfl (jH d 4 fun S C=>?_)
 refine jc results217 ?_
 have D:=yf [2,0,1,3,4] C
 have E:=CM D (fun i j=>aaA _ i j) f_
 have G:=yf [2,0,3,4,1] E
 exact⟨(⟨s.fb,s.nb,s.hb,s.mb,(IntKind.i64.wrap (s.trees+1)),s.q,(gr s.m (k:Int) (⟨((fS s.m (k:Int)).a),((fS s.m (k:Int)).b),(fS s.m (k:Int)).exp,true⟩:Ed))⟩:GW),rfl,⟨rfl,rfl,rfl⟩,ym (yn (p:=GW.ok fN fM (⟨s.fb,s.nb,s.hb,s.mb,(IntKind.i64.wrap (s.trees+1)),s.q,(gr s.m (k:Int) (⟨((fS s.m (k:Int)).a),((fS s.m (k:Int)).b),(fS s.m (k:Int)).exp,true⟩:Ed))⟩:GW)) (yc [_,_,_,_] _ G) (X.put (by exact⟨T.a,T.b,T.exp⟩))) zd⟩
theorem Jl(fN fM ob:Nat)(s:GW)(A:Nat->Nat->Prop)(key:Nat->Int)(w:World)(F:Own (GI.R fN fM ob s A key) w)(k:Nat)(hk:k<fM)(X:∀ i j,A i j->A j i)(V:A k (fM+(fS s.m (k:Int)).a))(S:A k (fM+(fS s.m (k:Int)).b))(Y:(fS s.m (k:Int)).a≠(fS s.m (k:Int)).b) :
 CR ya 127 (Zm ob k) w (fun r w' => ∃ s2:GW,r = .tuple #[]/\(s2.q=s.q/\s2.m=gr s.m (k:Int) (⟨(fS s.m (k:Int)).a,(fS s.m (k:Int)).b,(fS s.m (k:Int)).exp,false⟩:Ed)/\¬ Cn (fun i j=>A i j/\¬ nU fM k (fS s.m (k:Int)) i j) (fM+(fS s.m (k:Int)).a) (fM+(fS s.m (k:Int)).b)/\s2.trees=IntKind.i64.wrap (s.trees-1))/\fV (GI.R fN fM ob s A key) w w' (GI.R fN fM ob s2 (fun i j=>A i j/\¬ nU fM k (fS s.m (k:Int)) i j) key)):=by
 have ad:=F.fact.vn
 have ac:=F.fact.v2
 have Z:=F.fact.en
 have P:=F.fact.get (k:Int)
 have aa:=P.a
 have ab:=P.b
 refine en func127 ntmps127 ?_
 have Q:=Own.of F.un
 have W:s.ok fN fM:=F.fact
 refine fR Q 7 ?_
 refine qh (a:=(k:Int)) (mm:=s.m) (enc:=Ed.enc) (k:=.i64) 3 rfl rfl rfl sJ yg zC rfl Q rfl (iR Q (fun h D E G l=>?_))
 refine gC l 17 fun n f=>?_
 refine ar (e:=(((fM+(fS s.m (k:Int)).a):Nat):Int)) rfl rfl rfl rfl je (cl (Nq s.fb s.nb (fM+fN+1) A key n (ye f 2 rfl) o_ k (fM+(fS s.m (k:Int)).a) o_ o_ V) ?_)
 rintro _ H ⟨I,rfl,o,ht⟩
 have t:=yh 2 f ht
 refine gC t 16 fun u g=>?_
 refine ar (e:=(((fM+(fS s.m (k:Int)).b):Nat):Int)) rfl rfl rfl rfl je (cl (Nq s.fb s.nb (fM+fN+1) (fun i j=>A i j/\¬ ((i=k/\j=fM+(fS s.m (k:Int)).a)\/(i=fM+(fS s.m (k:Int)).a/\j=k))) key u (ye g 2 rfl) o_ k (fM+(fS s.m (k:Int)).b) o_ o_ ⟨S,o_⟩) ?_)
 rintro _ J ⟨K,rfl,L,ht⟩
 have v:=yh 2 g ht
 refine gC v 16 fun M x=>?_
 refine qD (a:=(k:Int)) (c:=(⟨((fS s.m (k:Int)).a),((fS s.m (k:Int)).b),(fS s.m (k:Int)).exp,false⟩:Ed)) (mm:=s.m) (enc:=Ed.enc) (k:=.i64) (L' := [blk h 254 [(Za ((fS s.m (k:Int)).a:Int)),(Za ((fS s.m (k:Int)).b:Int)),(Za ((fS s.m (k:Int)).exp)),Zn],blk ob 214 (Au fN fM s (some s.mb)),(jR s.fb s.nb (fM+fN+1) (fun i j=>(fun i j=>A i j/\¬ ((i=k/\j=fM+(fS s.m (k:Int)).a)\/(i=fM+(fS s.m (k:Int)).a/\j=k))) i j/\¬ ((i=k/\j=fM+(fS s.m (k:Int)).b)\/(i=fM+(fS s.m (k:Int)).b/\j=k))) key),(QS.R s.hb fM s.q),ia s.mb .i64 Ed.enc (gr s.m (k:Int) (⟨((fS s.m (k:Int)).a),((fS s.m (k:Int)).b),(fS s.m (k:Int)).exp,false⟩:Ed))]) 4 rfl rfl rfl rfl sJ yg x rfl rfl (fun N d=>fP d 1 ?_)
 refine Bg tt none d 6 ?_
 refine ar (e:=(IntKind.i64.wrap (s.trees-1))) rfl rfl rfl rfl rfl (jH d 4 fun O y=>?_)
 refine jc results127 ?_
 have z:=yf [2,0,1,3,4] y
 have B:=CM z (fun i j=>Qi _ i j) f_
 have C:=yf [2,0,3,4,1] B
 exact⟨(⟨s.fb,s.nb,s.hb,s.mb,(IntKind.i64.wrap (s.trees-1)),s.q,(gr s.m (k:Int) (⟨((fS s.m (k:Int)).a),((fS s.m (k:Int)).b),(fS s.m (k:Int)).exp,false⟩:Ed))⟩:GW),rfl,⟨rfl,rfl,fun U=>Wf X S o_ o_ o (U.mono fun i j T=>(Qi _ i j).2 T),rfl⟩,ym (yn (p:=GW.ok fN fM (⟨s.fb,s.nb,s.hb,s.mb,(IntKind.i64.wrap (s.trees-1)),s.q,(gr s.m (k:Int) (⟨((fS s.m (k:Int)).a),((fS s.m (k:Int)).b),(fS s.m (k:Int)).exp,false⟩:Ed))⟩:GW)) (yc [_,_,_,_] _ C) (W.put (by exact⟨P.a,P.b,P.exp⟩))) zd⟩
theorem abY(c:Own (QS.R hb n s) w) :
 CR ya 126 (Zh hb) w (fun r w' => ∃ (i:Nat) (k:Int) (b:Bool) (s2:QS),r = .tuple #[.agg (Z0 i k),.bool b]/\((b=false/\s.fQ=[]/\s2.fQ=[])\/(b=true/\i<n/\(⟨i,k⟩:gH)∈s.fQ/\(∀ e,e∈s2.fQ↔e∈s.fQ/\e.ix≠i)/\∀ e∈s.fQ,¬ iF e ⟨i,k⟩))/\fV (QS.R hb n s) w w' (QS.R hb n s2)):=by
 rcases BS s.fQ.length with a|a
 . exact CR.mono (abX hb n s w c a) fun r w' ⟨d,ht⟩=>⟨0,0,false,s,d,.inl ⟨rfl,zU.1 a,zU.1 a⟩,ht⟩
 . exact CR.mono (Rl hb n s w c a) fun r w' ⟨s2,d,f,ht⟩=>⟨_,_,true,s2,d,.inr ⟨rfl,c.fact.hp.ix 0 a,ri.2 ⟨0,a,rfl⟩,f.1,fun e g=>c.fact.ord.min g⟩,ht⟩
theorem Xy(fN fM ob:Nat)(s:GW)(A:Nat->Nat->Prop)(key:Nat->Int)(w:World)(hO:Own (GI.R fN fM ob s A key) w)(hF:iC fN fM (gE s.m) A key)(hq:s.qd)(ai:kJ s.m s.trees) :
 CR ya 74 (Zh ob) w (fun r w' => ∃ (s2:GW) (A2:Nat->Nat->Prop) (i:Nat) (b:Bool),r = .tuple (Z9 i b)/\((iC fN fM (gE s2.m) A2 key/\s2.qd/\kJ s2.m s2.trees)/\((b=false/\s.q.fQ=[]/\gE s2.m=gE s.m)\/(b=true/\(∃ o,gE s.m i=some o/\∀ j e,gE s.m j=some e->j=i\/o.exp<e.exp\/(o.exp=e.exp/\i<j))/\gE s2.m=(gE s.m).set i none)))/\fV (GI.R fN fM ob s A key) w w' (GI.R fN fM ob s2 A2 key)):=by
 have aC:=hO.fact.vn
 have aB:=hO.fact.v2
 have aA:=hO.fact.en
 refine en func74 ntmps74 ?_
 have ao:=Own.of hO.un
 have hG:s.ok fN fM:=hO.fact
 have u:=yn (p:=GW.ok fN fM s) (yc [_,_,_,_] _ ao) hG
 refine fR ao 10 ?_
 refine cl (Fp fN fM ob s A key w (ye u 0 rfl)) ?_
 rintro _ I ⟨rfl,ht⟩
 have J:=yh 0 u ht
 have l:=(jM J).unpack
 refine fK l 12 ?_
 refine cl (abY s.hb fM s.q I (ye l 2 rfl)) ?_
 rintro _ W ⟨d,y,K,f,rfl,n,ht⟩
 have z:=yh 2 l ht
 refine fK z 3 ?_
 refine iR z (fun B X Y Z L=>?_)
 refine ux L 11 fun aa t=>?_
 cases C:(K:Bool)
 . skip
   subst C
   refine iT t 9 ?_
   refine gZ (v:=Zc) (v' := Zn) results74 rfl rfl ?_
   have M:=yf [1,2,3,4,0] t
   obtain⟨_,an,ay⟩:=n.resolve_right (fun h9=>(by cases h9.1))
   exact⟨(⟨s.fb,s.nb,s.hb,s.mb,s.trees,f,s.m⟩:GW),A,0,false,rfl,⟨⟨hF,fun x=>(by show x∈f.fQ↔_;rw[ay,<-an];exact hq x),ai⟩,.inl ⟨rfl,an,rfl⟩⟩,ym (yn (p:=GW.ok fN fM (⟨s.fb,s.nb,s.hb,s.mb,s.trees,f,s.m⟩:GW)) (yc [_,_,_,_] _ M) hG.same) zd⟩
 . skip
   subst C
   refine ry t 12 fun N g=>?_
   refine qh (a:=(d:Int)) (mm:=s.m) (enc:=Ed.enc) (k:=.i64) 4 rfl rfl rfl sJ yg zC rfl g rfl (Jg (cs:=#[(Za ((fS s.m (d:Int)).a:Int)),(Za ((fS s.m (d:Int)).b:Int)),(Za ((fS s.m (d:Int)).exp)),(.bool ((fS s.m (d:Int)).tree))]) (v:=(.bool ((fS s.m (d:Int)).tree))) rfl rfl underlying254 rfl mC rfl rfl (gF g 2 ?_))
   cases ab:((fS s.m (d:Int)).tree:Bool)
   . skip
     refine ry g 11 fun ac O=>?_
     refine CB (a:=(d:Int)) (mm:=s.m) (enc:=Ed.enc) (k:=.i64) (L' := [blk B 250 (Zr d y),blk ob 214 (Au fN fM s (some s.mb)),(jR s.fb s.nb (fM+fN+1) A key),(QS.R s.hb fM f),ia s.mb .i64 Ed.enc (iL s.m (d:Int))]) 4 rfl rfl rfl sJ yg O rfl rfl (fun ad D=>fP D 11 ?_)
     refine gZ (v:=(Za d)) (v' := Zg) results74 rfl rfl ?_
     have P:=yf [1,2,3,4,0] D
     obtain⟨ap,az,ak,al,am⟩:=n.resolve_left (fun h9=>(by cases h9.1))
     obtain⟨o9,F,ax,ah⟩:=GW.Rf (s:=s) hq ak am
     have aj:=xz F
     have T:gE (iL s.m (d:Int))=(gE s.m).set d none:=Mk ai.1
     subst aj
     exact⟨(⟨s.fb,s.nb,s.hb,s.mb,s.trees,f,(iL s.m (d:Int))⟩:GW),A,d,true,rfl,⟨⟨(by rw[show gE ((⟨s.fb,s.nb,s.hb,s.mb,s.trees,f,(iL s.m (d:Int))⟩:GW):GW).m=_ from T];exact hF.abH F ah (by first|assumption|simp_all)),GW.Rg (s:=s) hq T al,ai.del F (by first|assumption|simp_all)⟩,.inr ⟨rfl,⟨_,F,ah⟩,T⟩⟩,ym (yn (p:=GW.ok fN fM (⟨s.fb,s.nb,s.hb,s.mb,s.trees,f,(iL s.m (d:Int))⟩:GW)) (yc [_,_,_,_] _ P) hG.del) zd⟩
   . skip
     obtain⟨ap,az,ak,al,am⟩:=n.resolve_left (fun h9=>(by cases h9.1))
     obtain⟨o9,F,ax,ah⟩:=GW.Rf (s:=s) hq ak am
     have aj:=xz F
     obtain⟨aq,ar,au,av⟩:=hF.own F (by first|assumption|simp_all)
     have Q:=yf [1,2,3,4,0] g
     have E:=yn (p:=GW.ok fN fM (⟨s.fb,s.nb,s.hb,s.mb,s.trees,f,s.m⟩:GW)) (yc [_,_,_,_] _ Q) hG.same
     refine fR g 5 ?_
     refine cl (Jl fN fM ob (⟨s.fb,s.nb,s.hb,s.mb,s.trees,f,s.m⟩:GW) A key N (ye E 0 rfl) d aq (fun i j=>hF.uz) ar au av) ?_
     rintro _ ae ⟨c,rfl,h,ht⟩
     have G:=yh 0 E ht
     have S:GW.ok fN fM c:=sM G
     have U:=(jM G).unpack
     refine gC U 10 fun af V=>?_
     refine CB (a:=(d:Int)) (mm:=c.m) (enc:=Ed.enc) (k:=.i64) (L' := [blk ob 214 (Au fN fM c (some c.mb)),(jR c.fb c.nb (fM+fN+1) (sw fM A d (fS s.m (d:Int))) key),(QS.R c.hb fM c.q),ia c.mb .i64 Ed.enc (iL c.m (d:Int)),blk B 250 (Zr d y)]) 3 rfl rfl rfl sJ yg V rfl rfl (fun ag H=>fP H 11 ?_)
     refine gZ (v:=(Za d)) (v' := Zg) results74 rfl rfl ?_
     have aw:(c.m.map Prod.fst).Nodup:=by rw[h.2.1];exact wP ai.1 _ _
     have T:gE (iL c.m (d:Int))=(gE s.m).set d none:=by rw[Mk aw,h.2.1,oL,EM.set_set]
     subst aj
     exact⟨(⟨c.fb,c.nb,c.hb,c.mb,c.trees,c.q,(iL c.m (d:Int))⟩:GW),(sw fM A d (fS s.m (d:Int))),d,true,rfl,⟨⟨(by rw[show gE ((⟨c.fb,c.nb,c.hb,c.mb,c.trees,c.q,(iL c.m (d:Int))⟩:GW):GW).m=_ from T];exact hF.abI F ah (by first|assumption|simp_all)),GW.Rg (s:=s) hq T (by rw[show ((⟨c.fb,c.nb,c.hb,c.mb,c.trees,c.q,(iL c.m (d:Int))⟩:GW):GW).q=_ from h.1];exact al),(by show kJ (iL c.m (d:Int)) c.trees;rw[h.2.1,h.2.2.2];exact ai.pop F (by first|assumption|simp_all) rfl)⟩,.inr ⟨rfl,⟨_,F,ah⟩,T⟩⟩,ym (yn (p:=GW.ok fN fM (⟨c.fb,c.nb,c.hb,c.mb,c.trees,c.q,(iL c.m (d:Int))⟩:GW)) (yc [_,_,_,_] _ H) S.del) zd⟩
theorem Xw(fN hb ob:Nat)(s:GW)(A:Nat->Nat->Prop)(key:Nat->Int)(w:World)(hO:Own (GI.R fN hb ob s A key) w)(k a b:Nat)(exp:Int)(hk:k<hb)(ha:a<fN)(fM:b<fN)(hx:gU .i64 exp)(a4:a≠b)(F:gE s.m k=none)(hF:iC fN hb (gE s.m) A key)(hq:s.qd)(bb:kJ s.m s.trees) :
 CR ya 142 (Mz ob k a b exp) w (fun r w' => ∃ (s2:GW) (A2:Nat->Nat->Prop) (key2:Nat->Int),r = .int .i64 0/\((iC fN hb (gE s2.m) A2 key2/\s2.qd/\kJ s2.m s2.trees)/\xB s.m s2.m k (some (a,b,exp)))/\fV (GI.R fN hb ob s A key) w w' (GI.R fN hb ob s2 A2 key2)):=by
 have bm:=hO.fact.vn
 have bl:=hO.fact.v2
 have bk:=hO.fact.en
 have bh:∀ e∈s.q.fQ,e.ix≠k:=fun e he h9=>by obtain⟨o,h7,_⟩:=(hq e).1 he;rw[h9,F]at h7;cases h7
 have bj:exp<=tE:=hx.2
 have hl:=And.intro hk (And.intro ha (And.intro fM (And.intro a4 bj)))
 refine en func142 ntmps142 ?_
 have bg:=Own.of hO.un
 have hG:s.ok fN hb:=hO.fact
 have L:=yn (p:=GW.ok fN hb s) (yc [_,_,_,_] _ bg) hG
 refine fR bg 9 ?_
 refine cl (Fp fN hb ob s A key w (ye L 0 rfl)) ?_
 rintro _ aj ⟨rfl,ht⟩
 have ak:=yh 0 L ht
 have B:=(jM ak).unpack
 refine fK B 10 ?_
 refine cmp rfl rfl rfl (kG o_) (fK B 6 ?_)
 refine cmp rfl rfl rfl (oS o_) ?_
 have M:=yn (p:=GW.ok fN hb s) (yc [_,_,_,_] _ B) hG
 refine fK B 4 ?_
 refine cl (Jj fN hb ob s A key aj (ye M 0 rfl) a o_) ?_
 rintro _ al ⟨rfl,ht⟩
 have am:=yh 0 M ht
 have N:=(jM am).unpack
 have O:=yn (p:=GW.ok fN hb s) (yc [_,_,_,_] _ N) hG
 refine fK N 5 ?_
 refine cl (Jj fN hb ob s A key al (ye O 0 rfl) b o_) ?_
 rintro _ aL ⟨rfl,ht⟩
 have an:=yh 0 O ht
 have t:=(jM an).unpack
 refine fK t 12 ?_
 refine cmp rfl rfl rfl (tv o_) (fK t 13 ?_)
 refine YU (a:=(k:Int)) (mm:=s.m) (enc:=Ed.enc) (k:=.i64) 3 rfl rfl rfl sJ yg zC rfl t rfl (fK t 3 ?_)
 refine iR t (fun ao aM aN aO ap=>?_)
 refine ux ap 9 fun aq C=>?_
 cases aP:((ig s.m (k:Int)).isSome:Bool)
 . skip
   refine fR C 11 ?_
   refine cl (Rm s.hb hb s.q aq (ye C 3 rfl) k hk bh exp hx) ?_
   rintro _ aQ ⟨f,rfl,u,ht⟩
   have P:=yh 3 C ht
   refine fK P 12 ?_
   refine iU (pvs:=[(0,(Za a)),(1,(Za b)),(2,(Za exp))]) (v:=.agg #[(Za a),(Za b),(Za exp),Zn]) rfl rfl (jj [(0,(Ze a)),(1,(Ze b)),(2,(Ze exp))] zC aby rfl ⟨rfl,rfl,rfl,rfl,rfl,rfl,trivial⟩ rfl) (qD (a:=(k:Int)) (c:=(⟨a,b,exp,false⟩:Ed)) (mm:=s.m) (enc:=Ed.enc) (k:=.i64) (L' := [blk ao 254 [(Za ((fS s.m (k:Int)).a:Int)),(Za ((fS s.m (k:Int)).b:Int)),(Za ((fS s.m (k:Int)).exp)),(.bool ((fS s.m (k:Int)).tree))],blk ob 214 (Au fN hb s (some s.mb)),(jR s.fb s.nb (hb+fN+1) A key),(QS.R s.hb hb f),ia s.mb .i64 Ed.enc (gr s.m (k:Int) (⟨a,b,exp,false⟩:Ed))]) 4 rfl rfl rfl rfl sJ yg P rfl rfl (fun aR au=>gC au 15 fun av H=>?_))
   refine ar (e:=((hb+a:Nat):Int)) rfl rfl rfl rfl je (fK H 5 ?_)
   refine ar (e:=((hb+b:Nat):Int)) rfl rfl rfl rfl je (cl (Uq s.fb s.nb (hb+fN+1) A key av (ye H 2 rfl) o_ (hb+a) (hb+b) o_ o_) ?_)
   rintro _ aw ⟨d,ax,rfl,x,ht⟩
   have n:=yh 2 H ht
   refine gF n 12 ?_
   cases Q:(ax:Bool)
   . skip
     subst Q
     have bi:fS (gr s.m (k:Int) (⟨a,b,exp,false⟩:Ed)) (k:Int)=(⟨a,b,exp,false⟩:Ed):=xz (by rw[oL,EM.kO])
     have bf:¬ Cn A (hb+a) (hb+b):=fun h9=>by have h8:=x.2.1.2 h9;cases h8
     have ay:=yf [1,2,3,4,0] n
     have S:=yn (p:=GW.ok fN hb (⟨s.fb,s.nb,s.hb,s.mb,s.trees,f,(gr s.m (k:Int) (⟨a,b,exp,false⟩:Ed))⟩:GW)) (yc [_,_,_,_] _ ay) (hG.put (by exact⟨ha,fM,hx⟩))
     refine fR n 7 ?_
     refine cl (Ji fN hb ob (⟨s.fb,s.nb,s.hb,s.mb,s.trees,f,(gr s.m (k:Int) (⟨a,b,exp,false⟩:Ed))⟩:GW) A key aw (ye S 0 rfl) k hk (fun i=>hF.JA F hk i) (by show ¬ Cn A (hb+(fS (gr s.m (k:Int) (⟨a,b,exp,false⟩:Ed)) (k:Int)).a) (hb+(fS (gr s.m (k:Int) (⟨a,b,exp,false⟩:Ed)) (k:Int)).b);rw[bi];exact bf)) ?_
     rintro _ aS ⟨I,rfl,D,ht⟩
     have U:=yh 0 S ht
     have az:GW.ok fN hb I:=sM U
     have V:=(jM U).unpack
     refine fP V 8 ?_
     refine gf (v:=Zc) BG rfl ?_
     obtain⟨a2,T⟩:=hF.Uj F hl bf (m1:=(gr s.m (k:Int) (⟨a,b,exp,false⟩:Ed))) rfl D.2.1
     exact⟨I,(CY hb A k (fS (gr s.m (k:Int) (⟨a,b,exp,false⟩:Ed)) (k:Int))),(CK key k (fS (gr s.m (k:Int) (⟨a,b,exp,false⟩:Ed)) (k:Int)).exp),rfl,⟨⟨a2,GW.Dd (s:=s) hq F T (by rw[D.1];exact u),by rw[D.2.1,D.2.2];exact(bb.put F rfl).OF (o:=(⟨a,b,exp,false⟩:Ed)) (by rw[oL,EM.kO]) rfl rfl⟩,T⟩,ym (yn (p:=GW.ok fN hb I) (yc [_,_,_,_] _ V) az) zd⟩
   . skip
     subst Q
     refine fR n 8 ?_
     refine qh (a:=(d:Int)) (mm:=(gr s.m (k:Int) (⟨a,b,exp,false⟩:Ed))) (enc:=Ed.enc) (k:=.i64) 4 rfl rfl rfl sJ yg zC rfl n rfl (iR n (fun aT aU aV aW aA=>?_))
     refine gC aA 9 fun W g=>?_
     by_cases aX:((fS (gr s.m (k:Int) (⟨a,b,exp,false⟩:Ed)) (d:Int)).exp:Int)>(exp:Int)
     . refine fP g 23 ?_
       refine gf (v:=Zc) BG rfl ?_
       have aB:=yf [2,3,4,5,0,1] g
       obtain⟨q9,P9⟩:=x.2.2 rfl
       obtain⟨a5,a6,a3,a7,a8,a9,ba⟩:=hF.first F a4 P9 (m1:=(gr s.m (k:Int) (⟨a,b,exp,false⟩:Ed))) rfl
       obtain⟨a2,T⟩:=hF.Nu F hl P9 (fun o ho=>by rw[a3]at ho;cases ho;unfold nQ;omega) (m1:=(gr s.m (k:Int) (⟨a,b,exp,false⟩:Ed))) rfl
       exact⟨(⟨s.fb,s.nb,s.hb,s.mb,s.trees,f,(gr s.m (k:Int) (⟨a,b,exp,false⟩:Ed))⟩:GW),A,key,rfl,⟨⟨a2,GW.Dd (s:=s) hq F T u,bb.put F rfl⟩,T⟩,ym (yn (p:=GW.ok fN hb (⟨s.fb,s.nb,s.hb,s.mb,s.trees,f,(gr s.m (k:Int) (⟨a,b,exp,false⟩:Ed))⟩:GW)) (yc [_,_,_,_] _ aB) (hG.put (by exact⟨ha,fM,hx⟩))) zd⟩
     . refine fK g 5 ?_
       by_cases aY:((fS (gr s.m (k:Int) (⟨a,b,exp,false⟩:Ed)) (d:Int)).exp:Int)=(exp:Int)
       . refine fK g 4 ?_
         by_cases aZ:(d:Int)>(k:Int)
         . refine fP g 14 ?_
           refine gf (v:=Zc) BG rfl ?_
           have aC:=yf [2,3,4,5,0,1] g
           obtain⟨q9,P9⟩:=x.2.2 rfl
           obtain⟨a5,a6,a3,a7,a8,a9,ba⟩:=hF.first F a4 P9 (m1:=(gr s.m (k:Int) (⟨a,b,exp,false⟩:Ed))) rfl
           obtain⟨a2,T⟩:=hF.Nu F hl P9 (fun o ho=>by rw[a3]at ho;cases ho;unfold nQ;omega) (m1:=(gr s.m (k:Int) (⟨a,b,exp,false⟩:Ed))) rfl
           exact⟨(⟨s.fb,s.nb,s.hb,s.mb,s.trees,f,(gr s.m (k:Int) (⟨a,b,exp,false⟩:Ed))⟩:GW),A,key,rfl,⟨⟨a2,GW.Dd (s:=s) hq F T u,bb.put F rfl⟩,T⟩,ym (yn (p:=GW.ok fN hb (⟨s.fb,s.nb,s.hb,s.mb,s.trees,f,(gr s.m (k:Int) (⟨a,b,exp,false⟩:Ed))⟩:GW)) (yc [_,_,_,_] _ aC) (hG.put (by exact⟨ha,fM,hx⟩))) zd⟩
         . obtain⟨q9,P9⟩:=x.2.2 rfl
           obtain⟨a5,a6,a3,a7,a8,a9,ba⟩:=hF.first F a4 P9 (m1:=(gr s.m (k:Int) (⟨a,b,exp,false⟩:Ed))) rfl
           have aD:=yf [2,3,4,5,0,1] g
           have X:=yn (p:=GW.ok fN hb (⟨s.fb,s.nb,s.hb,s.mb,s.trees,f,(gr s.m (k:Int) (⟨a,b,exp,false⟩:Ed))⟩:GW)) (yc [_,_,_,_] _ aD) (hG.put (by exact⟨ha,fM,hx⟩))
           refine fK g 11 ?_
           refine cl (Jl fN hb ob (⟨s.fb,s.nb,s.hb,s.mb,s.trees,f,(gr s.m (k:Int) (⟨a,b,exp,false⟩:Ed))⟩:GW) A key W (ye X 0 rfl) d a5 (fun i j=>hF.uz) a8 a9 ba) ?_
           rintro _ aE ⟨h,rfl,y,ht⟩
           have Y:=yh 0 X ht
           have aF:GW.ok fN hb h:=sM Y
           have Z:=(jM Y).unpack
           obtain⟨bc,bd,be⟩:=hF.Nv F hl P9 (m1:=(gr s.m (k:Int) (⟨a,b,exp,false⟩:Ed))) (m3:=h.m) (m4:=gr h.m (k:Int) ⟨(fS h.m (k:Int)).a,(fS h.m (k:Int)).b,(fS h.m (k:Int)).exp,true⟩) rfl (by unfold nQ;omega) y.2.1 y.2.2.1
           have aa:=yn (p:=GW.ok fN hb h) (yc [_,_,_,_] _ Z) aF
           refine fK Z 6 ?_
           refine cl (Ji fN hb ob h (sw hb A d (fS (gr s.m (k:Int) (⟨a,b,exp,false⟩:Ed)) (d:Int))) key aE (ye aa 0 rfl) k hk bc bd) ?_
           rintro _ a0 ⟨J,rfl,E,ht⟩
           have ab:=yh 0 aa ht
           have aG:GW.ok fN hb J:=sM ab
           have ac:=(jM ab).unpack
           refine fP ac 8 ?_
           refine gf (v:=Zc) BG rfl ?_
           obtain⟨a2,T⟩:=be rfl
           rw[<-E.2.1]at a2 T
           exact⟨J,(CY hb (sw hb A d (fS (gr s.m (k:Int) (⟨a,b,exp,false⟩:Ed)) (d:Int))) k (fS h.m (k:Int))),(CK key k (fS h.m (k:Int)).exp),rfl,⟨⟨a2,GW.Dd (s:=s) hq F T (by rw[E.1,y.1];exact u),by rw[E.2.1,E.2.2,y.2.1,y.2.2.2];exact bb.swap F a6 a3 a7 rfl rfl rfl⟩,T⟩,ym (yn (p:=GW.ok fN hb J) (yc [_,_,_,_] _ ac) aG) zd⟩
       . obtain⟨q9,P9⟩:=x.2.2 rfl
         obtain⟨a5,a6,a3,a7,a8,a9,ba⟩:=hF.first F a4 P9 (m1:=(gr s.m (k:Int) (⟨a,b,exp,false⟩:Ed))) rfl
         have aH:=yf [2,3,4,5,0,1] g
         have ad:=yn (p:=GW.ok fN hb (⟨s.fb,s.nb,s.hb,s.mb,s.trees,f,(gr s.m (k:Int) (⟨a,b,exp,false⟩:Ed))⟩:GW)) (yc [_,_,_,_] _ aH) (hG.put (by exact⟨ha,fM,hx⟩))
         refine fK g 15 ?_
         refine cl (Jl fN hb ob (⟨s.fb,s.nb,s.hb,s.mb,s.trees,f,(gr s.m (k:Int) (⟨a,b,exp,false⟩:Ed))⟩:GW) A key W (ye ad 0 rfl) d a5 (fun i j=>hF.uz) a8 a9 ba) ?_
         rintro _ aI ⟨l,rfl,z,ht⟩
         have ae:=yh 0 ad ht
         have aJ:GW.ok fN hb l:=sM ae
         have af:=(jM ae).unpack
         obtain⟨bc,bd,be⟩:=hF.Nv F hl P9 (m1:=(gr s.m (k:Int) (⟨a,b,exp,false⟩:Ed))) (m3:=l.m) (m4:=gr l.m (k:Int) ⟨(fS l.m (k:Int)).a,(fS l.m (k:Int)).b,(fS l.m (k:Int)).exp,true⟩) rfl (by unfold nQ;omega) z.2.1 z.2.2.1
         have ag:=yn (p:=GW.ok fN hb l) (yc [_,_,_,_] _ af) aJ
         refine fK af 6 ?_
         refine cl (Ji fN hb ob l (sw hb A d (fS (gr s.m (k:Int) (⟨a,b,exp,false⟩:Ed)) (d:Int))) key aI (ye ag 0 rfl) k hk bc bd) ?_
         rintro _ a1 ⟨K,rfl,G,ht⟩
         have ah:=yh 0 ag ht
         have aK:GW.ok fN hb K:=sM ah
         have ai:=(jM ah).unpack
         refine fP ai 8 ?_
         refine gf (v:=Zc) BG rfl ?_
         obtain⟨a2,T⟩:=be rfl
         rw[<-G.2.1]at a2 T
         exact⟨K,(CY hb (sw hb A d (fS (gr s.m (k:Int) (⟨a,b,exp,false⟩:Ed)) (d:Int))) k (fS l.m (k:Int))),(CK key k (fS l.m (k:Int)).exp),rfl,⟨⟨a2,GW.Dd (s:=s) hq F T (by rw[G.1,z.1];exact u),by rw[G.2.1,G.2.2,z.2.1,z.2.2.2];exact bb.swap F a6 a3 a7 rfl rfl rfl⟩,T⟩,ym (yn (p:=GW.ok fN hb K) (yc [_,_,_,_] _ ai) aK) zd⟩
 . skip
   refine iT C 8 ?_
   refine gf (v:=B6) BG rfl ?_
   exact absurd (show ig s.m (k:Int)=none from F) (by intro h7;simp_all)
def GW.R(fN fM ob:Nat)(s:GW):fT where
 gJ:=(GI.R fN fM ob s (fun _ _=>False) (fun _=>0)).gJ
 holds w:=∃ A key,(iC fN fM (gE s.m) A key/\s.qd/\kJ s.m s.trees)/\(GI.R fN fM ob s A key).holds w
 loc w w' h hh:=by
  obtain⟨A,key,a,b⟩:=hh
  exact⟨A,key,a,(GI.R fN fM ob s A key).loc w w' h b⟩
section
variable {fN fM ob:Nat} {s s2:GW} {w w' : World} {A A2:Nat->Nat->Prop} {key key2:Nat->Int}
theorem C6(h:Own (GW.R fN fM ob s) w):∃ A key,(iC fN fM (gE s.m) A key/\s.qd/\kJ s.m s.trees)/\Own (GI.R fN fM ob s A key) w:=by
 obtain⟨A,key,a,b⟩:=h.holds
 exact⟨A,key,a,b,h.nodup,h.lt⟩
theorem GV(h:fV (GI.R fN fM ob s A key) w w' (GI.R fN fM ob s2 A2 key2))(h1:iC fN fM (gE s2.m) A2 key2/\s2.qd/\kJ s2.m s2.trees):fV (GW.R fN fM ob s) w w' (GW.R fN fM ob s2) :=
 ⟨⟨A2,key2,h1,h.holds⟩,h.gA,h.place,h.nodup,h.lt⟩
theorem aeT(h:fV (gh []) w w' (GI.R fN fM ob s A key))(h1:iC fN fM (gE s.m) A key/\s.qd/\kJ s.m s.trees):fV (gh []) w w' (GW.R fN fM ob s) :=
 h.CS rfl fun a=>⟨A,key,h1,a⟩
end
theorem Xp(fN hb fb:Nat)(s:GW)(w:World)(g:Own (GW.R fN hb fb s) w)(k a b:Nat)(exp:Int)(hk:k<hb)(i:a<fN)(fM:b<fN)(p:gU .i64 exp)(j:a≠b)(l:gE s.m k=none) :
 CR ya 142 (Mz fb k a b exp) w (fun r w' => ∃ (s2:GW),r = .int .i64 0/\xB s.m s2.m k (some (a,b,exp))/\fV (GW.R fN hb fb s) w w' (GW.R fN hb fb s2)):=by
 obtain⟨A,key,⟨f,o,n⟩,h⟩:=C6 g
 exact CR.mono (Xw fN hb fb s A key w h k a b exp hk i fM p j l f o n) fun r w' ⟨s2,A2,key2,e,⟨c,d⟩,ht⟩=>⟨s2,e,d,GV ht c⟩
theorem Xv(hb fb:Nat)(s:GW)(w:World)(g:Own (GW.R n hb fb s) w) :
 CR ya 74 (Zh fb) w (fun r w' => ∃ (s2:GW) (i:Nat) (b:Bool),r = .tuple (Z9 i b)/\((b=false/\(∀ k,gE s.m k=none)/\gE s2.m=gE s.m)\/(b=true/\(∃ o,gE s.m i=some o/\∀ j e,gE s.m j=some e->j=i\/o.exp<e.exp\/(o.exp=e.exp/\i<j))/\gE s2.m=(gE s.m).set i none))/\fV (GW.R n hb fb s) w w' (GW.R n hb fb s2)):=by
 obtain⟨A,key,⟨f,a,l⟩,h⟩:=C6 g
 refine CR.mono (Xy n hb fb s A key w h f a l) fun r w' ⟨s2,A2,i,b,e,⟨c,d⟩,ht⟩=>⟨s2,i,b,e,d.imp (fun⟨a1,a2,a3⟩=>⟨a1,fun k=>?_,a3⟩) id,GV ht c⟩
 cases he:gE s.m k with
 | none=>rfl
 | some e=>exact absurd ((a ⟨k,e.exp⟩).2 ⟨e,he,rfl⟩) (by rw[a2];exact nr)
theorem Yw(a:n<=65536) :
 CR ya 221 (Z2 n) w (fun r w' => ∃ fb nb,r = .tuple (Zz fb)/\fV (gh []) w w' (jR fb nb (n+1) (fun _ _=>False) (fun _=>0))) :=
 CR.mono (YD n w a) fun r w' ⟨fb,nb,e,ht⟩=>⟨fb,nb,e,aeU (ed:=0) (xs:=lV n n) (by simpa using ht) ⟨tF n n,Qm o_,aaL o_,fun i j=>⟨fun h=>absurd h aaJ,fun h=>h.elim⟩,fun k h=>aaK o_⟩⟩
theorem XB(fN hb:Nat)(w:World)(U:2<=fN)(hv:fN<=4096)(V:hb<=16384) :
 CR ya 147 (Z0 fN hb) w (fun r w' => ∃ (ob:Nat) (s:GW),r = .tuple (Zz ob)/\s.m=[]/\fV (gh []) w w' (GW.R fN hb ob s)):=by
 refine enter (vs:=(Zr fN hb)) func147 rfl ntmps147 rfl ?_
 have F:=yu w
 refine fR F 10 ?_
 refine cmp (a:=(fN:Int)) (b:=0) rfl rfl rfl (kG o_) (fK F 2 ?_)
 refine cmp (a:=(fN:Int)) (b:=4096) rfl rfl rfl (nN o_) (fK F 3 ?_)
 refine cmp (a:=(hb:Int)) (b:=0) rfl rfl rfl (kG o_) (fK F 3 ?_)
 refine cmp (a:=(hb:Int)) (b:=16384) rfl rfl rfl (nN o_) (fK F 10 ?_)
 refine ar (a:=(hb:Int)) (b:=(fN:Int)) (c:=(hb:Int)+(fN:Int)) (e:=((hb+fN:Nat):Int)) rfl rfl rfl rfl (by rw[kP o_];omega) (jw (vl:=(Ze ((hb+fN:Nat):Int))) rfl rfl eN (Yw (hb+fN) w o_) ?_)
 rintro _ t ⟨d,f,rfl,ht⟩
 have u:St _ [(jR d f (hb+fN+1) (fun _ _=>False) (fun _=>0))] t:=(jm (R:=(jR d f (hb+fN+1) (fun _ _=>False) (fun _=>0))) F ht)
 have C:St _ [(jR d f (hb+fN+1) (fun _ _=>False) (qc hb 0))] t:=CM u (fun _ _=>Iff.rfl) (fun x=>(if_neg o_).symm)
 refine gF u 25 ?_
 refine lp (α:=Nat) (fun k=>[(0,(Za fN)),(1,(Za hb)),(4,Zp),(5,Zc),(6,(Zb d)),(7,Zc),(34,(Za fN)),(35,(Za ((k:Nat):Int)))]) (fun k w1=>St [(w,[])] [(jR d f (hb+fN+1) (fun _ _=>False) (qc hb k))] w1/\k<=fN) (fun k=>fN-k) 0 ⟨rfl,rfl,rfl,rfl,rfl,rfl,rfl,gm (by first|rfl|omega),trivial⟩ (⟨C,o_⟩) ?_
 rintro k M y ⟨T,Y⟩
 refine fR T 2 ?_
 by_cases N:((k:Nat):Int)<(fN:Int)
 . refine fK T 19 ?_
   refine ar (a:=(hb:Int)) (b:=((k:Nat):Int)) (c:=(hb:Int)+((k:Nat):Int)) (e:=((hb+k:Nat):Int)) rfl rfl rfl rfl (by rw[kP o_];omega) (jw (vl:=[(Zb d),(Za ((hb+k:Nat):Int)),(.int .i64 9223372036854775807)]) rfl rfl eN (ND d f (hb+fN+1) (fun _ _=>False) (qc hb k) y (kU T (i:=0) rfl) o_ (hb+k) o_ 9223372036854775807 (kY d_)) ?_)
   rintro _ z ⟨rfl,ht⟩
   have A:St _ [(jR d f (hb+fN+1) (fun _ _=>False) (fun x=>if x=hb+k then(9223372036854775807:Int)else(qc hb k) x))] z:=l7 (R' := (jR d f (hb+fN+1) (fun _ _=>False) (fun x=>if x=hb+k then(9223372036854775807:Int)else(qc hb k) x))) 0 T rfl ht rfl
   refine fP A 7 ?_
   refine tN (?_)
   have D:St _ [(jR d f (hb+fN+1) (fun _ _=>False) (qc hb (k+1)))] z:=CM A (fun _ _=>Iff.rfl) (fun x=>Yk)
   exact again (k+1) ⟨rfl,rfl,rfl,rfl,rfl,rfl,rfl,gm (by first|rfl|omega),trivial⟩ (⟨D,o_⟩) (by show (fN-(k+1):Nat)<fN-k;omega)
 . refine fK T 13 ?_
   refine jw (vl:=(Ze hb)) rfl rfl eN (Rj hb y o_) ?_
   rintro _ E ⟨g,l,rfl,G,ht⟩
   have o:St _ [(QS.R g hb l),(jR d f (hb+fN+1) (fun _ _=>False) (qc hb k))] E:=(jm (R:=(QS.R g hb l)) T ht)
   refine fK o 22 ?_
   refine iU (pvs:=[(0,(Zb d))]) (v:=.agg (Zh d)) rfl rfl (jj [(0,(Zf d))] Lq abr rfl ⟨rfl,rfl,trivial⟩ rfl) (fK o 1 ?_)
   refine mkV Ed.enc .i64 rfl rfl o ?_
   intro j H O P q
   have q:St _ [ia j .i64 Ed.enc ([]),(QS.R g hb l),(jR d f (hb+fN+1) (fun _ _=>False) (qc hb k))] H:=q
   refine iU (pvs:=[(0,(Za fN)),(1,(Za hb)),(2,(.agg (Zh d))),(3,(Zb g)),(4,(.map (some j)))]) (v:=.agg #[(Za fN),(Za hb),(Zb d),(Zb g),(.map (some j)),Zc]) rfl rfl (jj [(0,(Ze fN)),(1,(Ze hb)),(2,(Zf d)),(3,(Zf g)),(4,[(.map (some j))])] SG abt rfl ⟨rfl,rfl,rfl,rfl,rfl,rfl,rfl,rfl,rfl,rfl,trivial⟩ rfl) (ir q (fun n I Q S B=>?_))
   refine fP B 5 ?_
   refine gZ (v:=(Zb n)) (v' := Zc) results147 rfl rfl ?_
   have W:k=fN:=by omega
   have J:=yf [3,0,1,2] B
   have K:St _ [(jR d f (hb+fN+1) (fun _ _=>False) (qc hb fN)),blk n 214 [(Za fN),(Za hb),(Zb d),(Zb g),(.map (some j)),Zc],ia j .i64 Ed.enc ([]),(QS.R g hb l)] I:=CM J (fun _ _=>Iff.rfl) (fun x=>by rw[W])
   have L:=yf [1,0,3,2] K
   have X:fV (gh []) w _ (GI.R fN hb n (⟨d,f,g,j,0,l,[]⟩:GW) (fun _ _=>False) (qc hb fN)):=uE (R:=(GI.R fN hb n (⟨d,f,g,j,0,l,[]⟩:GW) (fun _ _=>False) (qc hb fN))) (yn (p:=GW.ok fN hb (⟨d,f,g,j,0,l,[]⟩:GW)) (yc [_,_,_,_] _ L) ⟨U,hv,V,fun p hp=>by cases hp⟩) s_
   exact⟨n,(⟨d,f,g,j,0,l,[]⟩:GW),rfl,rfl,aeT X ⟨iC.new,fun x=>by show x∈l.fQ↔_;rw[G];exact⟨fun h=>absurd h nr,fun⟨e,h,_⟩=>by cases h⟩,kJ.nil⟩⟩
theorem afz(c:Cf)(w:World)(h1:1<=c.win)(h:1<=c.fM/\c.fM<=16384)(i:2<=c.fN/\c.fN<=4096)(j:0<=c.kN/\c.kN<=16384) :
 CR ya 143 (Mx c.win c.fM c.fN c.kN) w (fun r w' => r = .bool true/\gx [] w w'):=by
 refine en func143 ntmps143 ?_
 have g:=yu w
 refine fR g 2 ?_
 refine ir g (fun b d e f a=>?_)
 refine fK a 7 ?_
 refine cmp rfl rfl rfl (ow o_) (fK a 3 ?_)
 refine cmp rfl rfl rfl (ow o_) (fK a 4 ?_)
 refine cmp rfl rfl rfl (xO o_) (fK a 4 ?_)
 refine cmp rfl rfl rfl (ow o_) (fK a 4 ?_)
 refine cmp rfl rfl rfl (xO o_) (fK a 4 ?_)
 refine cmp rfl rfl rfl (ow o_) (fK a 4 ?_)
 refine cmp rfl rfl rfl (xO o_) (fP a 5 ?_)
 refine gf (v:=Zg) results143 rfl ?_
 exact⟨rfl,a.gA s_⟩
theorem Uk(a b:Int)(w:World)(m:gU .i64 a)(hb:gU .i64 b) :
 CR ya 120 (Z0 a b) w (fun r w' => r = .tuple (Z0 ((qz a b).1) ((qz a b).2))/\gx [] w w'):=by
 have o := m.i64
 have p := hb.i64
 obtain⟨s,hs⟩:∃ s,s=IntKind.i64.wrap (a+b):=⟨_,rfl⟩
 have n:=hs
 rw[IntKind.wrap_i64]at n
 refine en func120 ntmps120 ?_
 have j:=yu w
 refine fR j 10 ?_
 refine ar (e:=s) rfl rfl rfl rfl hs.symm (fK j 7 ?_)
 by_cases d:(a:Int)<0
 . refine fK j 2 ?_
   by_cases f:(b:Int)<0
   . refine fK j 1 ?_
     refine AS (c:=true) rfl rfl rfl mC rfl (fK j 2 ?_)
     by_cases g:(s:Int)<0
     . refine fK j 3 ?_
       refine CZ (c:=false) rfl rfl rfl mC rfl (fP j 14 ?_)
       refine gZ (v:=(Za s)) (v' := Zc) BE rfl rfl ?_
       have k:=AG (a:=a) (b:=b) o_
       have l:s=a+b:=by omega
       exact⟨by rw[k,l],j.gA s_⟩
     . refine fK j 3 ?_
       refine CZ (c:=true) rfl rfl rfl mC rfl (fP j 12 ?_)
       refine gZ (v:=Zc) (v' := (.int .i64 7)) BE rfl rfl ?_
       have k:=Nt (a:=a) (b:=b) o_
       exact⟨by rw[k],j.gA s_⟩
   . refine fK j 1 ?_
     refine AS (c:=false) rfl rfl rfl mC rfl (fP j 20 ?_)
     refine gZ (v:=(Za s)) (v' := Zc) BE rfl rfl ?_
     have k:=AG (a:=a) (b:=b) o_
     have l:s=a+b:=by omega
     exact⟨by rw[k,l],j.gA s_⟩
 . refine fK j 2 ?_
   by_cases h:(b:Int)<0
   . refine fK j 1 ?_
     refine AS (c:=false) rfl rfl rfl mC rfl (fP j 20 ?_)
     refine gZ (v:=(Za s)) (v' := Zc) BE rfl rfl ?_
     have k:=AG (a:=a) (b:=b) o_
     have l:s=a+b:=by omega
     exact⟨by rw[k,l],j.gA s_⟩
   . refine fK j 1 ?_
     refine AS (c:=true) rfl rfl rfl mC rfl (fK j 2 ?_)
     by_cases i:(s:Int)<0
     . refine fK j 3 ?_
       refine CZ (c:=true) rfl rfl rfl mC rfl (fP j 12 ?_)
       refine gZ (v:=Zc) (v' := (.int .i64 7)) BE rfl rfl ?_
       have k:=Nt (a:=a) (b:=b) o_
       exact⟨by rw[k],j.gA s_⟩
     . refine fK j 3 ?_
       refine CZ (c:=false) rfl rfl rfl mC rfl (fP j 14 ?_)
       refine gZ (v:=(Za s)) (v' := Zc) BE rfl rfl ?_
       have k:=AG (a:=a) (b:=b) o_
       have l:s=a+b:=by omega
       exact⟨by rw[k,l],j.gA s_⟩
theorem Ny(t:Int)(w:World)(f:gU .i64 ed)(e:gU .i64 t) :
 CR ya 133 (Z0 ed t) w (fun r w' => r = .tuple (Z0 ((qz t ed).1) ((qz t ed).2))/\gx [] w w'):=by
 refine en func133 ntmps133 ?_
 have d:=yu w
 refine fR d 10 ?_
 refine cl (Uk t ed w e f) ?_
 rintro _ c ⟨rfl,b⟩
 have a:=yr d b
 refine fP a 7 ?_
 refine gZ (v:=(Za ((qz t ed).1))) (v' := (Za ((qz t ed).2))) results133 rfl rfl ?_
 exact⟨rfl,a.gA s_⟩
theorem IY(d:Own (Zw n ed x) w)(h1:1<=ed)(e:gU .i64 ed) :
 CR ya 132 (Zh n) w (fun r w' => r = .bool true/\fV (Zw n ed x) w w' (Zw n ed x)):=by
 refine en func132 ntmps132 ?_
 have b:=yt d
 refine fR b 8 ?_
 refine lI (a:=some ⟨n,0,none⟩) (c:=true) rfl rfl rfl underlying113 rfl (fK b 5 ?_)
 refine cmp rfl rfl rfl (ow o_) (fP b 5 ?_)
 refine gf (v:=Zg) results132 rfl ?_
 exact⟨rfl,yj b⟩
theorem VR(d:Own (Zw n ed x) w)(h1:1<=ed)(e:gU .i64 ed) :
 CR ya 76 (Zh n) w (fun r w' => r = .int .i64 x/\fV (Zw n ed x) w w' (Zw n ed x)):=by
 refine en func76 ntmps76 ?_
 have c:=yt d
 refine fR c 9 ?_
 refine cl (IY n ed x w (ye c 0 rfl) h1 e) ?_
 rintro _ b ⟨rfl,ht⟩
 have a:=yh 0 c ht
 refine fP a 16 ?_
 refine gf (v:=(Za x)) results76 rfl ?_
 exact⟨rfl,yj a⟩
theorem NZ(i:Own (Zw n ed x) w)(h1:1<=ed)(h:gU .i64 ed)(t:Int)(j:gU .i64 t) :
 CR ya 77 (Zm n t) w (fun r w' => r = .int .i64 (r8 ed x t)/\fV (Zw n ed x) w w' (Zw n ed x)):=by
 refine en func77 ntmps77 ?_
 have g:=yt i
 refine fR g 9 ?_
 refine cl (IY n ed x w (ye g 0 rfl) h1 h) ?_
 rintro _ c ⟨rfl,ht⟩
 have a:=yh 0 g ht
 refine fK a 14 ?_
 by_cases e:(t:Int)<(x:Int)
 . refine fP a 11 ?_
   refine gf (v:=xK) results77 rfl ?_
   exact⟨gm (by unfold r8;rw[if_pos (by assumption)]),yj a⟩
 . refine fK a 13 ?_
   refine cl (Ny ed t c h j) ?_
   rintro _ f ⟨rfl,d⟩
   have b:=yr a d
   refine fP b 14 ?_
   refine gf (v:=(Za ((qz t ed).2))) results77 rfl ?_
   exact⟨gm (by unfold r8;rw[if_neg (by assumption)]),yj b⟩
theorem Vn(h:Own (Zw n ed x) w)(h1:1<=ed)(g:gU .i64 ed)(t:Int)(i:gU .i64 t) :
 CR ya 138 (Zm n t) w (fun r w' => r = .tuple (Z0 ((qz t ed).1) ((qz t ed).2))/\fV (Zw n ed x) w w' (Zw n ed x)):=by
 refine en func138 ntmps138 ?_
 have f:=yt h
 refine fR f 10 ?_
 refine cl (IY n ed x w (ye f 0 rfl) h1 g) ?_
 rintro _ c ⟨rfl,ht⟩
 have a:=yh 0 f ht
 refine fK a 13 ?_
 refine cl (Ny ed t c g i) ?_
 rintro _ e ⟨rfl,d⟩
 have b:=yr a d
 refine fP b 7 ?_
 refine gZ (v:=(Za ((qz t ed).1))) (v' := (Za ((qz t ed).2))) results138 rfl rfl ?_
 exact⟨rfl,yj b⟩
theorem Vg(h:Own (Zw n ed x) w)(h1:1<=ed)(j:gU .i64 ed)(t:Int)(i:gU .i64 t) :
 CR ya 72 (Zm n t) w (fun r w' => r = .int .i64 (r8 ed x t)/\fV (Zw n ed x) w w' (Zw n ed (if r8 ed x t=0 then t else x))):=by
 refine en func72 ntmps72 ?_
 have g:=yt h
 refine fR g 9 ?_
 refine cl (NZ n ed x w (ye g 0 rfl) h1 j t i) ?_
 rintro _ c ⟨rfl,ht⟩
 have a:=yh 0 g ht
 refine fK a 7 ?_
 by_cases d:(r8 ed x t:Int)=0
 . refine jH a 19 fun e b=>?_
   refine gf (v:=(Za (r8 ed x t))) results72 rfl ?_
   have f:(if r8 ed x t=0 then t else x)=t:=if_pos (by assumption)
   refine⟨rfl,?_⟩
   rw[f]
   exact yj b
 . refine fP a 13 ?_
   refine gf (v:=(Za (r8 ed x t))) results72 rfl ?_
   have f:(if r8 ed x t=0 then t else x)=x:=if_neg (by assumption)
   refine⟨rfl,?_⟩
   rw[f]
   exact yj a
theorem VQ(h1:1<=ed) :
 CR ya 144 (Z2 ed) w (fun r w' => ∃ cb,r = .tuple (Zz cb)/\fV (gh []) w w' (blk cb 247 [(Za ed),Zc])):=by
 refine en func144 ntmps144 ?_
 have f:=yu w
 refine fR f 10 ?_
 refine cmp rfl rfl rfl (kG o_) (fK f 8 ?_)
 refine iU (pvs:=[(0,(Za ed))]) (v:=.agg (uW ed)) rfl rfl (jj [(0,(Ze ed))] SS abx rfl ⟨rfl,rfl,trivial⟩ rfl) (ir f (fun a c d e b=>?_))
 refine fP b 5 ?_
 refine gZ (v:=(Zb a)) (v' := Zc) results144 rfl rfl ?_
 exact⟨a,rfl,mD b⟩
def WW.R(c:WC)(a:Nat)(s:WW):fT:=lq (s.ok c) (gh [blk a 118 (M8 c.win c.fM c.fN c.kN s),(blk s.cb 247 (Zr c.win s.now)),(fW.R c.fN c.fM s.ub s.u),(QS.SR s.sb s.hb c.fM s.q),(GW.R c.fN c.fM s.ob s.g)])
abbrev rQ(a:Nat) b c (d:Nat) e:=(gh [blk a 108 b,WW.R c d e]:fT)
abbrev EB a (b:Nat) c d e f g h i:=([WW.R a b c,fL gQ d 39 1 e,fL Ge.cells f 110 3 g,fL Lv.cells h 43 7 i]:List fT)
abbrev Mq(a:Nat)(b:Lv) c (d:Nat) e f g h i j k:=([blk a 43 (oh b),WW.R c d e,fL gQ f 39 1 g,fL Ge.cells h 110 3 i,fL Lv.cells j 43 7 k]:List fT)
abbrev HQ a (b:Nat) c (d:Nat):=(gh [WW.R a b c,blk d 108 [.pointer (some ⟨b,0,none⟩),.bool false,.int .u64 0,.slice none 0 0,.int .i64 0,.slice none 0 0,.slice none 0 0,.slice none 0 0,.slice none 0 0,.slice none 0 0,.pointer none,.pointer none,.int .i64 0]]:fT)
abbrev tU(a b:Nat) c d:=(gh [blk a 108 [.pointer (some ⟨b,0,none⟩),.bool false,.int .u64 0,.slice none 0 0,.int .i64 0,.slice none 0 0,.slice none 0 0,.slice none 0 0,.slice none 0 0,.slice none 0 0,.pointer none,.pointer none,.int .i64 0],WW.R c b d]:fT)
abbrev s8(a b:Nat) c d e:=(gh [blk a 108 [.pointer (some ⟨b,0,none⟩),.bool false,.int .u64 0,.slice none 0 0,.int .i64 0,.slice none 0 0,.slice none 0 0,.slice none 0 0,.slice none 0 0,.slice none 0 0,.pointer none,.pointer none,.int .i64 0],WW.R c b d,e]:fT)
abbrev Nj(a b:Nat) c d e f g:=(gh [gh [blk a 108 [.pointer (some ⟨b,0,none⟩),.bool false,.int .u64 0,.slice none 0 0,.int .i64 0,.slice none 0 0,.slice none 0 0,.slice none 0 0,.slice none 0 0,.slice none 0 0,.pointer none,.pointer none,.int .i64 0],WW.R c b d,e],fL kB.cells f 60 3 g]:fT)
theorem vA(c:WC)(d:Nat)(s:WW)(w:World)(f:Own (WW.R c d s) w) :
 CR ya 40 (Zh d) w (fun r w' => r = .bool true/\fV (WW.R c d s) w w' (WW.R c d s)):=by
 refine en func40 ntmps40 ?_
 have e:=Own.of f.un
 have b:s.ok c:=f.fact
 have g:=b.w1
 have h:=b.wi
 have i:=b.n0
 have j:=b.n1
 refine fR e 8 ?_
 refine lI (a:=some ⟨d,0,none⟩) (c:=true) rfl rfl rfl BC rfl (fK e 5 ?_)
 refine lI (a:=some ⟨s.cb,0,none⟩) (c:=true) rfl rfl rfl underlying113 rfl (fP e 5 ?_)
 refine gf (v:=Zg) results40 rfl ?_
 exact⟨rfl,ym (yn (p:=s.ok c) (yc [_,_,_,_,_] _ e) b) zd⟩
theorem afR(c:WC)(i:Nat)(s:WW)(w:World)(j:Own (WW.R c i s) w) :
 CR ya 32 (Zh i) w (fun r w' => r = .int .i64 s.now/\fV (WW.R c i s) w w' (WW.R c i s)):=by
 refine en func32 ntmps32 ?_
 have k:=Own.of j.un
 have h:s.ok c:=j.fact
 have l:=h.w1
 have m:=h.wi
 have n:=h.n0
 have o:=h.n1
 have b:=yn (p:=s.ok c) (yc [_,_,_,_,_] _ k) h
 refine fR k 9 ?_
 refine cl (vA c i s w (ye b 0 rfl)) ?_
 rintro _ e ⟨rfl,ht⟩
 have f:=yh 0 b ht
 have a:=(jM f).unpack
 refine fK a 12 ?_
 refine cl (VR s.cb c.win s.now e (ye a 1 rfl) l (kY o_)) ?_
 rintro _ g ⟨rfl,ht⟩
 have d:=yh 1 a ht
 refine fP d 4 ?_
 refine gf (v:=(Za s.now)) results32 rfl ?_
 exact⟨rfl,ym (yn (p:=s.ok c) (yc [_,_,_,_,_] _ d) h) zd⟩
open Go.Shelf Go.Lib Go.Sort Go.RowKit in
def Tryz.YA:Go.Shelf.Ren:=⟨fun|5=>207|7=>279|n=>n,fun|23=>172|25=>39|3=>37|4=>4|20=>20|n=>n,fun|n=>n⟩
open Go.Shelf Go.Lib Go.Sort Go.RowKit in
theorem Tryz.Yz:Go.Proofs.SlLaysW.n5 Proofs.Tryz.prog Tryz.YA where
 mixed:=by kernel_rfl
 f5:=⟨Proofs.Tryz.f207.name,by(decide),Proofs.Tryz.func207.trans (congrArg some<|by kernel_rfl)⟩
 f7:=Proofs.Tryz.func279.trans (congrArg some<|by kernel_rfl)
 t4:=Proofs.Tryz.underlying4
 a4:=Proofs.Tryz.isAgg4
 z4:=Proofs.Tryz.sizeOf4
 v4:=Proofs.Tryz.zeroValue4
 t20:=Proofs.Tryz.underlying20
 a20:=Proofs.Tryz.isAgg20
 z20:=Proofs.Tryz.sizeOf20
 v20:=Proofs.Tryz.zeroValue20
 t23:=Proofs.Tryz.underlying172
 a23:=Proofs.Tryz.isAgg172
 z23:=Proofs.Tryz.sizeOf172
 v23:=Proofs.Tryz.zeroValue172
theorem ZU(b:Nat)(im:IM)(w:World)(c:Own (MR b im) w) :
 CR ya 207 #[.map (some b)] w (fun r w' => ∃ b2,r = .map (some b2)/\fV (MR b im) w w' (gh [ia b .u64 p_ im,ia b2 .u64 p_ im])) :=
 VC c fun es a h=>AnyW.maps_Clone Tryz.Yz b es a w h
theorem VA(v:Value)(xs:List Lv)(w:World)(hv:gY 7 Lv.cells (fun _=>True) w v xs)(m:xs.length<=1000000) :
 CR ya 206 #[v] w (fun r w' => qy 7 Lv.cells w w' r 43 xs/\gx [] w w'):=by
 refine en func206 ntmps206 ?_
 have l:=yu w
 refine fR l 9 ?_
 refine CC (v:=v) rfl rfl rfl sK hv (gF l 2 ?_)
 cases e:(wM v:Bool)
 . skip
   refine fR l 5 ?_
   refine jW (vs:=[]) (cs:=[]) rfl rfl sK o8 rfl (by intro v hv;simp at hv) rfl rfl rfl l ?_
   intro f g h i c
   have d:=c
   refine fK c 1 ?_
   refine lR (cf:=Lv.cells) (ys:=[]) (zs:=xs) (LL:=fun a=>[fL Lv.cells a 43 7 xs]) 0 rfl rfl rfl sK o8 rfl d_ d rfl (gY.src (yz d s_ d_ hv) f_) (xY f_ _) (by simp only[zk];omega) (by simp only[zk];omega) f_ (fun a j b k=>fP b 4 ?_)
   refine gf (v:=a) results206 rfl ?_
   exact⟨DE b s_,b.gA s_⟩
 . skip
   refine iT l 8 ?_
   refine gf (v:=Zi) results206 rfl ?_
   obtain rfl:=C1 e hv
   exact⟨qy.C0, l.gA s_⟩
theorem ae1(fN hb fb:Nat)(s:fW)(w:World)(F:Own (fW.R fN hb fb s) w) :
 CR ya 136 (Zh fb) w (fun r w' => ∃ (a0:Nat) (s2:fW),r = .pointer (some ⟨a0,0,none⟩)/\((∀ y,s2.has y↔s.has y)/\s2.last=s.last)/\fV (fW.R fN hb fb s) w w' (gh [(fW.R fN hb fb s),(fW.R fN hb a0 s2)])):=by
 have bg:s.t.A.used<=s.t.A.n:=F.fact.tok.ul
 have ba:=F.fact.n
 have bb:=F.fact.tn
 have a9:=F.fact.en
 have bd:=F.fact.vn
 have a8:s.A.used<=s.A.begun:=by have h7:=F.fact.kV.used;omega
 have a7:=F.fact.kV.le
 have be:s.live.length=s.A.begun:=F.fact.ll
 have a3:∀ id,(fS s.im id).2.length<=65536:=fun id=>F.fact.Jv id
 refine en func136 ntmps136 ?_
 have aZ:=Own.of F.un
 have hU:s.ok fN hb:=F.fact
 have K:=yn (p:=s.ok fN hb) (yc [_,_,_,_,_,_] _ aZ) hU
 refine fR aZ 9 ?_
 refine cl (xd fN hb fb s w (ye K 0 rfl)) ?_
 rintro _ aG ⟨rfl,ht⟩
 have X:=yh 0 K ht
 have L:=(jM X).unpack
 refine fK L 11 ?_
 refine iR L (fun h aH aI aJ M=>?_)
 refine jt 0 M (fun Y E=>?_) (h1:=(gX rfl (gX rfl (gX rfl (gX rfl (gX rfl (gX (yv M (i:=2) rfl) (gX rfl jV))))))))
 refine fK E 8 ?_
 refine cl (Tx s.jg s.aw Y (ye E 5 rfl)) ?_
 rintro _ aK ⟨d,j,rfl,Z,ht⟩
 have aa:=yf [5,0,1,2,3,4,6] E
 have ac:=yy (yh 0 aa ht)
 refine gC ac 10 fun ad N=>?_
 refine cl (aeh s.tb s.ab s.t ad (ye N 7 rfl)) ?_
 rintro _ aL ⟨e,l,m,rfl,O,ht⟩
 have ae:=yf [7,0,1,2,3,4,5,6] N
 have af:=yy (yh 0 ae ht)
 refine gC af 10 fun ag P=>?_
 refine cl (VA s.lv s.live ag (iN P 6 rfl).any (by first|omega|(simp;omega))) ?_
 rintro g ah hz
 have D:St _ [fL Lv.cells g 43 7 s.live,(xH s),(TW.R e l m),(xG s),(AW.R d j),blk h 174 [(Za fN),(Za hb),(Zl s.last),(Zb d),(Zb e),s.lv,(.map (some s.mb))],blk fb 174 (pY fN hb s (some s.mb)),fL Lv.cells s.lv 43 7 s.live,ia s.mb .u64 p_ s.im,jF 3 s.im] ah:=zR P hz.2 hz.1
 refine fK D 1 ?_
 refine jt 5 D (fun ai G=>?_) (hvs:=(cells_one (yv D (i:=0) rfl))) (h1:=(gX (yv D (i:=0) rfl) jV))
 refine fK G 8 ?_
 refine cl (ZU s.mb s.im ai (ye G 8 rfl)) ?_
 rintro _ aM ⟨f,rfl,ht⟩
 have aj:=yf [8,0,1,2,3,4,5,6,7,9] G
 have Q:=yy (yh 0 aj ht)
 refine fK Q 1 ?_
 refine jt 7 Q (fun aN H=>?_)
 refine fK H 8 ?_
 refine ld rfl rfl y0 rfl (St.bc H 8 rfl rfl) (rgM (k:=.u64) (enc:=p_) (mm:=s.im) 0 rfl rfl y0 H rfl ?_)
 intro u S U
 have ak:St _ [jF 3 [],mA s.mb u .u64 p_ s.im s.im none,ia f .u64 p_ s.im,fL Lv.cells g 43 7 s.live,(xH s),(TW.R e l m),(xG s),(AW.R d j),blk h 174 (EC fN hb s.last d e g (some f)),blk fb 174 (pY fN hb s (some s.mb)),fL Lv.cells s.lv 43 7 s.live,jF 3 s.im] S:=St.Jb U
 have al:St _ [jF 3 [],jF 3 [],mA s.mb u .u64 p_ s.im s.im none,ia f .u64 p_ s.im,fL Lv.cells g 43 7 s.live,(xH s),(TW.R e l m),(xG s),(AW.R d j),blk h 174 (EC fN hb s.last d e g (some f)),blk fb 174 (pY fN hb s (some s.mb)),fL Lv.cells s.lv 43 7 s.live,jF 3 s.im] S:=St.Jb ak
 have am:=yf [10,11,2,12,1,7,5,9,4,3,0,8,6] al
 refine gF U 3 ?_
 refine lp (α:=IM×IM×IM×IM×(Option (Int×(Value×List Nat)))) (fun(dn,td,aU,T,cur)=>[(3,(Zb h)),(40,(Zb u))]) (fun(dn,td,aU,T,cur) w1=>St [(w,(fW.R fN hb fb s).gJ)] [blk fb 174 (pY fN hb s (some s.mb)),fL Lv.cells s.lv 43 7 s.live,mA s.mb u .u64 p_ s.im td cur,jF 3 td,jF 3 dn,(xG s),(xH s),blk h 174 (EC fN hb s.last d e g (some f)),fL Lv.cells g 43 7 s.live,ia f .u64 p_ T,jF 3 aU,(AW.R d j),(TW.R e l m)] w1/\pV s.im dn td aU T) (fun(dn,td,aU,T,cur)=>td.length) ([],s.im,[],s.im,none) ⟨rfl,rfl,trivial⟩ (⟨am,pV.start hU.keys⟩) ?_
 rintro⟨dn,td,aU,T,cur⟩ aO aP ⟨aW,aX⟩
 obtain⟨an,aQ⟩:∃ q,ZQ ya aW (i:=2) rfl=q:=⟨_,rfl⟩
 refine fR aW 2 ?_
 rcases an with ⟨V,ao⟩|⟨b,x,aR,z⟩
 . skip
   refine Qr rfl rfl (ao _) ?_
   have aS:=V
   refine fP aW 16 ?_
   refine gf (v:=(Zb h)) results136 rfl ?_
   have aV:=aX.fin hU.keys V
   have ap:=St.ZP aW (i:=2) rfl
   have aq:=yf [4,0,1,2,3,5,6,7,8,9,10,11,12] ap
   have ar:=St.xX aq aV.1
   have au:=yf [10,0,1,2,3,4,5,6,7,8,9,11,12] ar
   have av:=St.xX au aV.2.1
   have I:=yf [2,3,4,1,6,7,8,9,10,0,11,12] av
   have a1:=(y9 I (i:=10) rfl:j.A.ok)
   have a2:=(y9 I (i:=11) rfl:m.ok)
   have aY:=hU.copy Z a1 a2 O.1 O.2.1 aV.2.2.1 aV.2.2.2 d e l f g
   have a4:=yn (p:=fW.ok fN hb s) (yc [_,_,_,_,_,_] _ I) hU
   have a5:St _ (gh [_,_,_,_,_,_] :: [(fW.R fN hb fb s)]) _:=yc [_,_,_,_,_,_] [(fW.R fN hb fb s)] (mP a4 (qM (l₁:=[_]) (l₂:=[_,_,_,_,_,_])))
   have a6:=mP (yn (p:=fW.ok fN hb (⟨d,e,l,f,g,s.last,j,m,s.live,T⟩:fW)) a5 aY.1) (List.Perm.swap _ _ _)
   exact⟨h,(⟨d,e,l,f,g,s.last,j,m,s.live,T⟩:fW),rfl,⟨aY.2,rfl⟩,yj (yc [_,_] _ a6)⟩
 . skip
   refine Qr rfl rfl (z.run _) ?_
   have ax:=z.st
   have ay:=yf [3,0,1,2,4,5,6,7,8,9,10,11,12] ax
   have B:=St.acJ f_ (St.Oz (St.xX ay z.perm))
   have bf:b.2.2.length<=65536:=by have h7:=a3 b.1;rw[aX.at hU.keys z.perm]at h7;exact h7
   refine fK B 10 ?_
   refine WD (p:=b) 4 rfl rfl B rfl (fK B 3 ?_)
   refine kM (v:=b.2.1) rfl rfl (gF B 2 ?_)
   refine kq mixed [([0,1,2,3,4],[1])] [5] B (fun az C=>jx ?_)
   refine fK C 1 ?_
   refine ld rfl rfl y0 rfl (St.bc C 8 rfl rfl) (fK C 1 ?_)
   refine mv (v:=b.2.1) rfl rfl (cl (IS b.2.1 b.2.2 az (iN C 0 rfl).any (by first|omega|(simp;omega))) ?_)
   rintro o aA hz
   have J:St _ (M6 o b.2.2 b.2.1 x fb fN hb s (some s.mb) (mA s.mb u .u64 p_ s.im x (some b)) dn h d e g (some f) f T aU j l m) aA:=zR C hz.2 hz.1
   refine fP J 1 ?_
   refine pe (kZ rfl (qo (wJ rfl y0 rfl (St.bc J 9 rfl rfl)) rfl rfl) (trivial)) (kE ?_)
   refine qD (a:=b.1) (c:=(o,b.2.2)) (mm:=T) (enc:=p_) (k:=.u64) (L' := (M6 o b.2.2 b.2.1 x fb fN hb s (some s.mb) (mA s.mb u .u64 p_ s.im x (some b)) dn h d e g (some f) f (gr T b.1 (o,b.2.2)) aU j l m)) 11 rfl rfl rfl rfl y0 yo J rfl rfl (fun aT W=>fP W 2 ?_)
   refine tN (?_)
   have aB:=yf [1,6,0,2,3,4,5,7,8,9,10,11,12,13,14] W
   have aC:=((St.Rv f_ aB).IU (p:=b)).xX (qM (l₁:=[_]))
   have aD:=yf [1,11,0,2,3,4,5,6,7,8,9,10,12,13] aC
   have aE:=((St.Rv f_ aD).IU (p:=(b.1,(o,b.2.2)))).xX (qM (l₁:=[_]))
   have aF:=yf [3,4,5,2,1,6,7,8,9,10,0,11,12] aE
   exact again ((dn++[b]),x,(aU++[(b.1,(o,b.2.2))]),(gr T b.1 (o,b.2.2)),(some b)) ⟨rfl,rfl,trivial⟩ (⟨aF,aX.next hU.keys z.perm o⟩) (by have h7:=z.perm.length_eq;rw[zh]at h7;show x.length<td.length;omega)
theorem Xs:ya.eqGuardType ya.depth 267=false:=by kernel_rfl
theorem afE(c:WC)(w:World)(w1:1<=c.win)(wi:c.win<=1000000)(e1:1<=c.fM)(en:c.fM<=16384)(v2:2<=c.fN)(vn:c.fN<=4096)(d0:0<=c.kN/\c.kN<=16384) :
 CR ya 80 #[(EJ c.win c.fM c.fN c.kN),Zy] w (fun r w' => ∃ (T:Nat) (s:WW),r = .tuple (Zz T)/\(s.now=0/\s.added=0/\∀ y,¬ s.u.has y)/\fV (gh []) w w' (WW.R c T s)):=by
 refine enter func80 rfl ntmps80 rfl ?_
 have F:=yu w
 refine fR F 2 ?_
 refine ir F (fun X A Y Z k=>?_)
 refine fK k 8 ?_
 refine cl (afz ⟨c.win,(c.fM:Int),(c.fN:Int),c.kN⟩ A w1 (by show _/\_;dsimp only;omega) (by show _/\_;dsimp only;omega) d0) ?_
 rintro _ aa ⟨rfl,B⟩
 have l:=yr k B
 refine fK l 8 ?_
 refine iR l (fun ab ac ad ae m=>?_)
 refine fK m 7 ?_
 refine iU (pvs:=[(0,(EJ c.win c.fM c.fN c.kN)),(5,Zy),(6,Zy)]) (v:=.agg #[(Za c.win),(Za c.fM),(Za c.fN),(Za c.kN),Zp,Zp,Zp,Zp,Zy,Zy]) rfl rfl (jj [(0,(tc c.win c.fM c.fN c.kN)),(5,uT),(6,uT)] SA abl rfl ⟨rfl,rfl,rfl,rfl,rfl,rfl,trivial⟩ rfl) (ir m (fun n C af ag q=>?_))
 refine fK q 8 ?_
 refine cl (VQ c.win C w1) ?_
 rintro _ ah ⟨a,rfl,ht⟩
 have D:=(jm q ht)
 refine gC D 6 fun ai E=>?_
 refine ic (o:=0) (o' := 0) (i:=0) rfl rfl rfl zM zD d_ rfl (gC E 11 fun G H=>?_)
 refine cl (ae4 c.fN c.fM G vn en) ?_
 rintro _ aj ⟨b,t,rfl,d,ht⟩
 have I:=(jm H ht)
 refine gC I 6 fun ak J=>?_
 refine ic (o:=0) (o' := 1) (i:=1) rfl rfl rfl zM zD d_ rfl (gC J 8 fun K L=>?_)
 refine cl (adt c.fM K o_) ?_
 rintro _ al ⟨e,f,x,rfl,M,ht⟩
 have N:=(jm L ht)
 refine gC N 6 fun am O=>?_
 refine ic (o:=0) (o' := 2) (i:=2) rfl rfl rfl zM zD d_ rfl (gC O 10 fun P Q=>?_)
 refine cl (XB c.fN c.fM P v2 vn en) ?_
 rintro _ an ⟨h,j,rfl,S,ht⟩
 have U:=(jm Q ht)
 refine gC U 6 fun ao V=>?_
 refine ic (o:=0) (o' := 3) (i:=3) rfl rfl rfl zM zD d_ rfl (gC V 7 fun ap z=>?_)
 refine iU (pvs:=[]) (v:=.agg #[Zc,Zc,Zc,Zc]) rfl rfl (tY [] SU zM zD rfl trivial rfl s_) (aaC (c:=false) rfl rfl rfl zM underlying32 zD Xs rfl (fP z 13 ?_))
 refine gZ (v:=(Zb n)) (v' := Zc) results80 rfl rfl ?_
 have W:=yf [4,3,2,1,0] z
 have aq:=WW.uk w1 wi e1 en v2 vn (g:=j) d.1 d.2 M S a b e f h
 exact⟨n,(⟨a,b,e,f,h,0,x,t,j,0,0⟩:WW),rfl,⟨rfl,rfl,d.1⟩,uE (yn (p:=WW.ok c (⟨a,b,e,f,h,0,x,t,j,0,0⟩:WW)) (yc [_,_,_,_,_] _ W) aq) s_⟩
theorem TD(c:WC)(w:World)(w1:1<=c.win)(wi:c.win<=1000000)(e1:1<=c.fM)(en:c.fM<=16384)(v2:2<=c.fN)(vn:c.fN<=4096)(n:0<=c.kN/\c.kN<=16384) :
 CR ya 34 (Mx c.win c.fM c.fN c.kN) w (fun r w' => ∃ (m:Nat) (s:WW),r = .tuple (Zz m)/\(s.now=0/\s.added=0/\∀ y,¬ s.u.has y)/\fV (gh []) w w' (WW.R c m s)):=by
 refine enter func34 rfl ntmps34 rfl ?_
 have l:=yu w
 refine fR l 2 ?_
 refine ir l (fun h e i j a=>?_)
 refine fK a 7 ?_
 refine cl (afE c e w1 wi e1 en v2 vn n) ?_
 rintro _ k ⟨b,f,rfl,g,ht⟩
 have d:=(jm a ht)
 refine fP d 7 ?_
 refine gZ (v:=(Zb b)) (v' := Zc) results34 rfl rfl ?_
 exact⟨b,f,rfl,g,mD d⟩
section
open Go.Shelf Go.Lib Go.Sort Go.RowKit in
def Tryz.adC:Go.Shelf.Ren:=⟨fun|6=>85|15=>92|14=>151|28=>162|29=>163|20=>224|21=>225|22=>226|23=>227|24=>228|25=>229|26=>230|27=>231|46=>290|47=>233|48=>234|49=>291|50=>292|57=>329|n=>n,fun|22=>35|24=>43|25=>178|3=>3|39=>193|0=>0|53=>289|55=>39|4=>4|46=>283|45=>282|50=>160|5=>5|9=>9|66=>348|70=>351|76=>406|77=>197|n=>n,fun|n=>n⟩
open Go.Shelf Go.Lib Go.Sort Go.RowKit in
theorem Tryz.RO:Go.Proofs.SlLaysF0.n6 Proofs.Tryz.prog Tryz.adC where
 mixed:=by kernel_rfl
 f6:=⟨Proofs.Tryz.f85.name,by(decide),Proofs.Tryz.func85.trans (congrArg some<|by kernel_rfl)⟩
 f14:=⟨Proofs.Tryz.f151.name,by(decide),Proofs.Tryz.func151.trans (congrArg some<|by kernel_rfl)⟩
 f15:=Proofs.Tryz.func92.trans (congrArg some<|by kernel_rfl)
 f20:=⟨Proofs.Tryz.f224.name,by(decide),Proofs.Tryz.func224.trans (congrArg some<|by kernel_rfl)⟩
 f21:=⟨Proofs.Tryz.f225.name,by(decide),Proofs.Tryz.func225.trans (congrArg some<|by kernel_rfl)⟩
 f22:=⟨Proofs.Tryz.f226.name,by(decide),Proofs.Tryz.func226.trans (congrArg some<|by kernel_rfl)⟩
 f23:=⟨Proofs.Tryz.f227.name,by(decide),Proofs.Tryz.func227.trans (congrArg some<|by kernel_rfl)⟩
 f24:=⟨Proofs.Tryz.f228.name,by(decide),Proofs.Tryz.func228.trans (congrArg some<|by kernel_rfl)⟩
 f25:=⟨Proofs.Tryz.f229.name,by(decide),Proofs.Tryz.func229.trans (congrArg some<|by kernel_rfl)⟩
 f26:=⟨Proofs.Tryz.f230.name,by(decide),Proofs.Tryz.func230.trans (congrArg some<|by kernel_rfl)⟩
 f27:=⟨Proofs.Tryz.f231.name,by(decide),Proofs.Tryz.func231.trans (congrArg some<|by kernel_rfl)⟩
 f28:=Proofs.Tryz.func162.trans (congrArg some<|by kernel_rfl)
 f29:=Proofs.Tryz.func163.trans (congrArg some<|by kernel_rfl)
 f46:=⟨Proofs.Tryz.f290.name,by(decide),Proofs.Tryz.func290.trans (congrArg some<|by kernel_rfl)⟩
 f47:=Proofs.Tryz.func233.trans (congrArg some<|by kernel_rfl)
 f48:=Proofs.Tryz.func234.trans (congrArg some<|by kernel_rfl)
 f49:=⟨Proofs.Tryz.f291.name,by(decide),Proofs.Tryz.func291.trans (congrArg some<|by kernel_rfl)⟩
 f50:=⟨Proofs.Tryz.f292.name,by(decide),Proofs.Tryz.func292.trans (congrArg some<|by kernel_rfl)⟩
 f57:=⟨Proofs.Tryz.f329.name,by(decide),Proofs.Tryz.func329.trans (congrArg some<|by kernel_rfl)⟩
 t0:=Proofs.Tryz.underlying0
 a0:=Proofs.Tryz.isAgg0
 z0:=Proofs.Tryz.sizeOf0
 v0:=Proofs.Tryz.zeroValue0
 t3:=Proofs.Tryz.underlying3
 a3:=Proofs.Tryz.isAgg3
 z3:=Proofs.Tryz.sizeOf3
 v3:=Proofs.Tryz.zeroValue3
 t4:=Proofs.Tryz.underlying4
 a4:=Proofs.Tryz.isAgg4
 z4:=Proofs.Tryz.sizeOf4
 v4:=Proofs.Tryz.zeroValue4
 t5:=Proofs.Tryz.underlying5
 a5:=Proofs.Tryz.isAgg5
 z5:=Proofs.Tryz.sizeOf5
 v5:=Proofs.Tryz.zeroValue5
 t9:=Proofs.Tryz.underlying9
 a9:=Proofs.Tryz.isAgg9
 z9:=Proofs.Tryz.sizeOf9
 v9:=Proofs.Tryz.zeroValue9
 t22:=Proofs.Tryz.underlying35
 a22:=Proofs.Tryz.isAgg35
 z22:=Proofs.Tryz.sizeOf35
 v22:=Proofs.Tryz.zeroValue35
 t25:=Proofs.Tryz.underlying178
 a25:=Proofs.Tryz.isAgg178
 z25:=Proofs.Tryz.sizeOf178
 v25:=Proofs.Tryz.zeroValue178
 t39:=Proofs.Tryz.underlying193
 a39:=Proofs.Tryz.isAgg193
 z39:=Proofs.Tryz.sizeOf193
 v39:=Proofs.Tryz.zeroValue193
 t45:=Proofs.Tryz.underlying282
 a45:=Proofs.Tryz.isAgg282
 z45:=Proofs.Tryz.sizeOf282
 v45:=Proofs.Tryz.zeroValue282
 t46:=Proofs.Tryz.underlying283
 a46:=Proofs.Tryz.isAgg283
 z46:=Proofs.Tryz.sizeOf283
 v46:=Proofs.Tryz.zeroValue283
 t50:=Proofs.Tryz.underlying160
 a50:=Proofs.Tryz.isAgg160
 z50:=Proofs.Tryz.sizeOf160
 v50:=Proofs.Tryz.zeroValue160
 t53:=Proofs.Tryz.underlying289
 a53:=Proofs.Tryz.isAgg289
 z53:=Proofs.Tryz.sizeOf289
 v53:=Proofs.Tryz.zeroValue289
 t55:=Proofs.Tryz.underlying39
 a55:=Proofs.Tryz.isAgg39
 z55:=Proofs.Tryz.sizeOf39
 v55:=Proofs.Tryz.zeroValue39
 t66:=Proofs.Tryz.underlying348
 a66:=Proofs.Tryz.isAgg348
 z66:=Proofs.Tryz.sizeOf348
 v66:=Proofs.Tryz.zeroValue348
 t70:=Proofs.Tryz.underlying351
 a70:=Proofs.Tryz.isAgg351
 z70:=Proofs.Tryz.sizeOf351
 v70:=Proofs.Tryz.zeroValue351
 t76:=Proofs.Tryz.underlying406
 a76:=Proofs.Tryz.isAgg406
 z76:=Proofs.Tryz.sizeOf406
 v76:=Proofs.Tryz.zeroValue406
 t77:=Proofs.Tryz.underlying197
 a77:=Proofs.Tryz.isAgg197
 z77:=Proofs.Tryz.sizeOf197
 v77:=Proofs.Tryz.zeroValue197
open Go Go.Sx Go.Lib Go.Sort Go.RowKit
theorem aat:Calls ya 152 (xE x) w fun e w' => e = .returned Zn/\w' = w:=by
 go_enter func152,ntmps152
 go_wp2
 go_ret
 exact⟨s_,rfl⟩
theorem VL(y:Int)(w:World):Calls ya 87 (uS x y) w fun e w' => e = .returned (Za (compareInt x y))/\w' = w:=by
 go_enter func87,ntmps87
 go_wp2_with (go_at_call 152;refine(aat _ _).mono ?_;rintro e w' ⟨rfl,a⟩;rw[a])
 all_goals (go_ret;refine⟨?_,rfl⟩;unfold compareInt;(repeat' split)<;>first|rfl|(exfalso;omega))
def yY(x y:Lv):Int:=compareInt x.seq y.seq
theorem VD(x y:Lv)(w:World):Calls ya 86 #[.agg x.cells.toArray,.agg y.cells.toArray] w fun e w' => e = .returned (Za (yY x y))/\∃ q c, w' = grow (w.drewN q) c := by
 have a:=fun b => VL x.seq y.seq b
 unfold yY
 generalize compareInt x.seq y.seq=r at a ⊢
 obtain⟨d,f,g,h,i,j,k⟩:=x
 obtain⟨y1,y2,l,m,n,o,p⟩:=y
 simp only[Lv.cells]at a ⊢
 go_enter func86,ntmps86
 go_wp2_with (go_at_call 87;refine(a _).mono ?_;rintro e w' ⟨rfl,rfl⟩)
 go_ret
 exact⟨rfl,0,_,by rw[alloc_eq_grow,alloc_eq_grow,grow_grow];rfl⟩
theorem FG(x y:Lv):ltOf yY x y=decide (x.seq<y.seq):=by
 unfold ltOf yY compareInt
 by_cases h1:x.seq<y.seq
 . simp[h1]
 . by_cases h2:y.seq<x.seq<;>simp[h1,h2]
theorem ad6:SWO (ltOf yY) where
 irrefl x:=by rw[FG];simp
 trans x y z h1 h2:=by rw[FG]at *;simp at *;omega
 ntrans x y z h1 h2:=by rw[FG]at *;simp at *;omega
theorem adB(v:Value)(xs:List Lv)(w:World)(i:Own (fL Lv.cells v 43 7 xs) w)(l:xs.length<=1000000) :
 CR ya 85 #[v,.func (.func 86) #[] #[]] w (fun r w' => ∃ ys:List Lv,r = .tuple #[]/\(ys.Perm xs/\ys.Pairwise fun a b=>a.seq<=b.seq)/\fV (fL Lv.cells v 43 7 xs) w w' (fL Lv.cells v 43 7 ys)):=by
 refine CR.mono (adF (cf:=Lv.cells) (k:=7) (xs:=xs) (lt:=ltOf yY) f_ d_ i o_ (AnyF.slices_SortFunc_none (P:=ya) Tryz.RO none 0 _ w) fun blk c d g hb j=>?_) ?_
 . exact AnyQ.slices_SortFunc (P:=ya) Tryz.RO 7 Tryz.isAgg43 Tryz.sizeOf43 Lv.cells f_ (fun x v hv=>by simp[Lv.cells]at hv;rcases hv with rfl|rfl|rfl|rfl|rfl|rfl|rfl<;>rfl) yY ad6 86 #[] blk 0 c d w (enters_of func86 k_ rfl) (fun _ _ _ _ x y=>VD x y _) g hb j
 . rintro r w' ⟨rfl,ys,e,f,ht⟩
   exact⟨ys,rfl,⟨e,f.imp fun {a b} h=>by rw[FG]at h;simpa using h⟩,ht⟩
end
end Go.Proofs.YtedjjkcihkmjgaaGreatDoor
