/- What the functions that the statements reach do: walks through the code of the program and of the references, one theorem a function; under what is said of its arguments. -/
import Derived.Test.YthpnckhjmbbalaaGreatDoorFb
import Derived.Test.YthpnckhjmbbalaaGreatDoorVa
import Derived.Test.YthpnckhjmbbalaaGreatDoorFd
import Derived.Test.YthpnckhjmbbalaaGreatDoorVc
import Derived.Test.YthpnckhjmbbalaaGreatDoorFc
import Derived.Test.YthpnckhjmbbalaaGreatDoorFa
import Derived.Test.YthpnckhjmbbalaaGreatDoorVb
import Derived.Ground.SlmcProg
import Derived.Shelf.SlMaps.Clone
set_option linter.unusedVariables false
set_option linter.unusedSimpArgs false
set_option maxRecDepth 100000
set_option maxHeartbeats 4000000
namespace Go.Proofs.YthpnckhjmbbalaaGreatDoor
section
open Go Go.Sx
theorem xW(fb nb m:Nat)(ed:Int)(xs:List Nd)(w:World)(hO:Own (Zk fb nb m ed xs) w)(hm:xs.length=m)(hb:m<=1000001)(hI:gf xs)(F:FT)(hF:Fo xs F)(i:Nat)(hi:i≠0)(aI:i<m) :
 CR ya 93 (Zm fb i) w (fun r w' => ∃ l:Nat,r = .int .i64 (l:Int)/\∃ ys a R,ja xs F ys i a R/\gf ys/\fZ (Zk fb nb m ed xs) w w' (Zk fb nb m ed ys)):=by
 obtain⟨k0,aD⟩:=Ex.init hF (i:=i) o_
 refine en Tryz.func93 Tryz.ntmps93 ?_
 have aB:=(yr hO).unpack
 refine s9 aB 18 ?_
 refine lp (α:=List Nd×Nat×Nat×Nat×FT×Tr) (fun(zs,below,j,k,R,B)=>[(0,(Zb fb)),(1,(Za i)),(5,(Za below)),(6,(Za j))]) (fun(zs,below,j,k,R,B) w1=>St [(w,(Zk fb nb m ed xs).gJ)] [blk fb 195 (vT fb nb m ed),blk nb 192 (zs.flatMap Nd.cells)] w1/\Ex xs F i zs below j k R B/\gf zs/\zs.length=m) (fun(zs,below,j,k,R,B)=>k) (xs,0,i,k0,F,.nil) ⟨rfl,rfl,gr rO,gr rO,trivial⟩ (⟨aB,aD,hI,hm⟩) ?_
 rintro⟨zs,below,j,k,R,B⟩ ac D ⟨ap,hE,aA,aL⟩
 have aH:below<m:=by have h7:=hE.rep.Bd o_;rw[hE.root]at h7;omega
 have aJ:j<m:=by have h7:=hE.lt;omega
 refine fR ap 4 ?_
 by_cases Q:((j:Int):Int)=(0:Int)
 . have aG:j=0:=by omega
   refine fK ap 1 ?_
   subst aG
   obtain⟨au,av,aw,ax,ay,az⟩:=hE.fin hi
   have E:=yc [_,_] _ ap
   refine fK ap 12 ?_
   refine cl Ox (S0 fb nb m ed zs D (ye E 0 rfl) (by first|exact hm|omega) hb aA i 0 B au av aw ax ay) ?_
   rintro _ ad ⟨rfl,u,G,S,H,I,U,ht⟩
   have J:=(ym E ht)
   have ae:u.length=m:=by have:=H.kl.len;omega
   refine fQ J 9 ?_
   refine gp (v:=(Za below)) Tryz.results93 rfl ?_
   obtain⟨aE,h1,h2,h3,h4,h5⟩:=az u G S H I
   subst aE
   exact⟨below,rfl,u,G,R,⟨h1,I,h2,h3,h4,h5⟩,U,yo (yc [_,_] [] J)⟩
 . have aF:j≠0:=fun h7=>Q o_
   obtain⟨T,q,au,av,aw,ax,ay,az⟩:=hE.go aF
   have K:=yc [_,_] _ ap
   refine fK ap 12 ?_
   refine cl Ox (S0 fb nb m ed zs D (ye K 0 rfl) (by first|exact hm|omega) hb aA j q T au av aw ax ay) ?_
   rintro _ af ⟨rfl,g,L,V,M,W,y,ht⟩
   have N:=(ym K ht)
   have ag:g.length=m:=by have:=M.kl.len;omega
   refine fK N 9 ?_
   refine jk (o' := j*9+0) (i:=(j:Int)) rfl rfl rfl yh jj (o9 (show j<(g).length from om)) o_ (gO N 16 fun ah h=>?_)
   refine jL (o:=j*9+0) (o' := j*9+1) (i:=1) rfl rfl rfl yn gy d_ rfl (fK h 1 ?_)
   refine jk (o' := ((fJ g j).k1)*9+0) (i:=((fJ g j).k1:Int)) rfl rfl rfl yh jj (o9 (show ((fJ g j).k1)<(g).length from(o9 (y.k1 j om)))) o_ (fK h 1 ?_)
   refine ld rfl rfl yf rfl (mR h (i:=1) rfl f_ (o9 (y.k1 j om)) rfl) (fK h 5 ?_)
   refine jk (o' := below*9+0) (i:=(below:Int)) rfl rfl rfl yh jj (o9 (show below<(g).length from om)) o_ (fK h 2 ?_)
   refine ar (e:=(IntKind.i64.wrap ((fJ g ((fJ g j).k1)).total-(fJ g below).total))) rfl rfl rfl rfl rfl (ar (e:=(IntKind.i64.wrap ((fJ g j).iL+(IntKind.i64.wrap ((fJ g ((fJ g j).k1)).total-(fJ g below).total))))) rfl rfl rfl rfl rfl (fK h 2 ?_))
   refine j3 (f:=(fun x:Nd=>{ x with iL:=(IntKind.i64.wrap ((fJ g j).iL+(IntKind.i64.wrap ((fJ g ((fJ g j).k1)).total-(fJ g below).total)))) })) 1 h (fun ai p aj=>?_)
   have z:gf (fO g j (fun x=>{ x with iL:=(IntKind.i64.wrap ((fJ g j).iL+(IntKind.i64.wrap ((fJ g ((fJ g j).k1)).total-(fJ g below).total)))) })):=gf.iN y om (fun x a b c d e=>⟨a,b,c,d,e⟩)
   obtain⟨X,Y,ak,z,p⟩:=iE (m:=m) z p
   refine fK p 8 ?_
   refine jL (o:=j*9+0) (o' := j*9+1) (i:=1) rfl rfl rfl yn gy d_ rfl (j3 (f:=(fun x:Nd=>{ x with k1:=below })) 1 p (fun Z s al=>?_))
   have t:gf (fO X j (fun x=>{ x with k1:=below })):=gf.iN z om (fun x a b c d e=>⟨a,om,c,d,e⟩)
   obtain⟨O,aa,am,t,s⟩:=iE (m:=m) t s
   have P:=yc [_,_] _ s
   refine fK s 6 ?_
   refine cl lV (lY fb nb m ed O Z (ye P 0 rfl) oa hb t j o_) ?_
   rintro _ an ⟨rfl,ht⟩
   have n:=(ym P ht)
   have A:gf (iG O j):=gf.lP t o_
   obtain⟨C,ab,ao,A,n⟩:=iE (m:=m) A n
   refine fK n 14 ?_
   refine jk (o' := j*9+0) (i:=(j:Int)) rfl rfl rfl yh jj om o_ (fQ n 4 ?_)
   refine tN (?_)
   have e9:lD g j below=C:=by rw[ab,aa,Y];rfl
   obtain⟨aC,aK,k', R', hk,aq⟩:=az g L V M W
   rw[e9]at aC aq
   rw[<-aC]at aq
   exact again (C,j,(fJ C j).up,k', R', (.nd L j B)) ⟨rfl,rfl,gr rO,gr rO,trivial⟩ (⟨n,aq,A,o_⟩) (by subst hk;exact Nat.lt_succ_self _)
end
section
open Go Go.Sx
theorem TV(fb nb m:Nat)(ed:Int)(w:World)(d:(Ao fb nb m ed).holds w)(hb:m<=1000001) :
 CR ya 136 (Zh fb) w (fun r w' => r = .bool true/\gA [] w w'):=by
 refine en Tryz.func136 Tryz.ntmps136 ?_
 have b:=yt w
 refine fR b 8 ?_
 refine nh (a:=some ⟨fb,0,none⟩) (c:=true) rfl rfl rfl Tryz.underlying126 rfl (fK b 6 ?_)
 refine Cu (a:=⟨fb,0,none⟩) rfl rfl rfl Tryz.underlying126 Li (fQ b 5 ?_)
 refine gp (v:=Zf) Tryz.results136 rfl ?_
 exact⟨rfl,b.gD s_⟩
theorem AJ(fb nb m:Nat)(ed:Int)(w:World)(f:(Ao fb nb m ed).holds w)(hb:m<=1000001)(v:Nat)(hv:v+1<m) :
 CR ya 92 (Zm fb v) w (fun r w' => r = .bool true/\gA [] w w'):=by
 refine en Tryz.func92 Tryz.ntmps92 ?_
 have e:=yt w
 refine fR e 8 ?_
 refine cl Ow (TV fb nb m ed w (St.KG e s_ f) hb) ?_
 rintro _ d ⟨rfl,b⟩
 have a:=yq e b
 refine fK a 2 ?_
 refine cmp rfl rfl rfl (nY o_) (fK a 7 ?_)
 refine Fk (m:=m) (c:=m) rfl rfl yh (fK a 1 ?_)
 refine cmp rfl rfl rfl (qo o_) (fQ a 5 ?_)
 refine gp (v:=Zf) Tryz.results92 rfl ?_
 exact⟨rfl,a.gD s_⟩
theorem Io(fb nb m:Nat)(ed:Int)(w:World)(y:(Ao fb nb m ed).holds w)(hb:m<=1000001)(v:Value)(vs:List Nat)(hv:Ints .i64 (fun _=>True) w v (gB vs))(A:∀ x∈vs,x+1<m) :
 CR ya 148 (HE fb v) w (fun r w' => r = .int .i64 0/\gA [] w w'):=by
 have C:(gB vs).length=vs.length:=by simp[gB]
 have D:=hv.len
 refine en Tryz.func148 Tryz.ntmps148 ?_
 have u:=yt w
 refine fR u 9 ?_
 refine cl Ow (TV fb nb m ed w (St.KG u s_ y) hb) ?_
 rintro _ h ⟨rfl,c⟩
 have a:=yq u c
 refine fK a 10 ?_
 refine k6 (v:=v) rfl rfl yd hv (gH a 4 ?_)
 refine lp (α:=Nat) (fun k=>[(0,(Zb fb)),(10,v),(11,(Za ((gB vs).length:Int))),(12,(Za k))]) (fun k w1=>St [(w,[])] [] w1/\k<=vs.length) (fun k=>vs.length-k) 0 ⟨rfl,rfl,rfl,gr rO,trivial⟩ (⟨a,o_⟩) ?_
 rintro k j d ⟨t,B⟩
 refine fR t 2 ?_
 by_cases l:((k:Int):Int)<(((gB vs).length:Int):Int)
 . obtain⟨x,z⟩:=pS (show k<vs.length by omega)
   refine fK t 11 ?_
   refine CB (i:=(k:Int)) (el:=(x:Int)) rfl rfl rfl yd gy (St.Fb t s_ hv) o_ (by rw[show ((k:Nat):Int).toNat=k by omega];simp[gB,z]) ?_
   intro n o e f p
   have q:=f.i64
   refine ld rfl rfl yf rfl e (fK t 7 ?_)
   refine cl EW (AJ fb nb m ed d (St.KG t s_ y) hb x (by first|omega|exact A _ (zd z))) ?_
   rintro _ s ⟨rfl,g⟩
   have b:=yq t g
   refine fQ b 11 ?_
   refine tN (?_)
   exact again (k+1) ⟨rfl,rfl,rfl,gr rO,trivial⟩ (⟨b,o_⟩) (by show (vs.length-(k+1):Nat)<vs.length-k;omega)
 . refine fQ t 16 ?_
   refine gp (v:=Zc) Tryz.results148 rfl ?_
   exact⟨rfl,t.gD s_⟩
theorem Qv(fb nb m:Nat)(ed:Int)(xs:List Nd)(w:World)(B:Own (Zk fb nb m ed xs) w)(hm:xs.length=m)(hb:m<=1000001)(A:gf xs)(F:FT)(z:Fo xs F)(i:Nat)(hi:i≠0)(E:i<m) :
 CR ya 182 (Zm fb i) w (fun r w' => r = .tuple #[]/\∃ ys a R,ja xs F ys i a R/\gf ys/\fZ (Zk fb nb m ed xs) w w' (Zk fb nb m ed (jC ys i))):=by
 refine en Tryz.func182 Tryz.ntmps182 ?_
 have y:=(yr B).unpack
 have j:=yc [_,_] _ y
 refine fR y 4 ?_
 refine cl xV (xW fb nb m ed xs w (ye j 0 rfl) (by first|exact hm|omega) hb A F z i o_ o_) ?_
 rintro _ q ⟨G,rfl,g,o,p,k,l,C⟩
 have h:=(ym j C)
 have s:g.length=m:=by have:=k.len;omega
 refine fK h 8 ?_
 refine jk (o' := i*9+0) (i:=(i:Int)) rfl rfl rfl yh jj (o9 (show i<(g).length from om)) o_ (fK h 1 ?_)
 refine j3 (f:=(fun x:Nd=>{ x with flip:=true })) 1 h (fun t n u=>?_)
 have v:gf (fO g i (fun x=>{ x with flip:=true })):=gf.iN l om (fun x a b c d e=>⟨a,b,c,d,e⟩)
 refine fQ n 1 ?_
 refine iZ Tryz.results182 ?_
 have D:jC g i=fO g i (fun x=>{ x with flip:=true }):=rfl
 exact⟨rfl,g,o,p,k,l,yo (yc [_,_] [] n)⟩
theorem Ks(fb nb m:Nat)(ed:Int)(xs:List Nd)(w:World)(G:Own (Zk fb nb m ed xs) w)(hm:xs.length=m)(hb:m<=1000001)(E:gf xs)(F:FT)(D:Fo xs F)(i j:Nat)(hi:i≠0)(H:i<m)(I:j≠0)(J:j<m) :
 CR ya 154 (Zr fb i j) w (fun r w' => r = .tuple #[]/\∃ ys a R zs b R2,ja xs F ys i a R/\ja (jC ys i) ((.nd a i .nil,0) :: R) zs j b R2/\gf zs/\fZ (Zk fb nb m ed xs) w w' (Zk fb nb m ed zs)):=by
 refine en Tryz.func154 Tryz.ntmps154 ?_
 have C:=(yr G).unpack
 have e:=yc [_,_] _ C
 refine fR C 4 ?_
 refine cl OL (Qv fb nb m ed xs w (ye e 0 rfl) (by first|exact hm|omega) hb E F D i o_ o_) ?_
 rintro _ p ⟨rfl,c,f,g,d,q,B⟩
 have h:=(ym e B)
 have s:c.length=m:=by have:=d.len;omega
 have t:gf (jC c i):=q.lead o_
 have y:(jC c i).length=m:=(sW _ _).trans s
 have k:=yc [_,_] _ h
 refine fK h 5 ?_
 refine cl xV (xW fb nb m ed (jC c i) p (ye k 0 rfl) (by first|exact hm|omega) hb t ((.nd f i .nil,0) :: g) d.tO.fo j o_ o_) ?_
 rintro _ z ⟨K,rfl,l,u,v,n,x,B⟩
 have o:=(ym k B)
 have A:l.length=m:=by have:=n.len;omega
 refine fQ o 1 ?_
 refine iZ Tryz.results154 ?_
 exact⟨rfl,c,f,g,l,u,v,d,n,x,yo (yc [_,_] [] o)⟩
end
section
open Go Go.Sx
theorem Hl(fb nb m:Nat)(ed:Int)(xs:List Nd)(w:World)(R:Own (Zk fb nb m ed xs) w)(hm:xs.length=m)(hb:m<=1000001)(Q:gf xs)(F:FT)(M:Fo xs F)(a b:Nat)(T:a+1<m)(U:b+1<m) :
 CR ya 52 (Zr fb a b) w (fun r w' => ∃ B zs F2,r = .bool B/\(B=true↔Joined xs F (a+1) (b+1))/\Fo zs F2/\gf zs/\zs.length=m/\(∀ u v,Joined zs F2 u v↔Joined xs F u v)/\(∀ k,(fJ zs k).key=(fJ xs k).key)/\(∀ u v,Ad (gw zs F2) u v↔Ad (gw xs F) u v)/\fZ (Zk fb nb m ed xs) w w' (Zk fb nb m ed zs)):=by
 refine en Tryz.func52 Tryz.ntmps52 ?_
 have O:=(yr R).unpack
 refine fR O 10 ?_
 refine cl EW (AJ fb nb m ed w (O.at (i:=0) rfl) hb a o_) ?_
 rintro _ q ⟨rfl,s⟩
 have h:=yq O s
 refine fK h 4 ?_
 refine cl EW (AJ fb nb m ed q (h.at (i:=0) rfl) hb b o_) ?_
 rintro _ t ⟨rfl,x⟩
 have f:=yq h x
 refine fK f 12 ?_
 by_cases D:((a:Int):Int)=((b:Int):Int)
 . refine fQ f 11 ?_
   refine gp (v:=Zf) Tryz.results52 rfl ?_
   have S:a=b:=by omega
   subst S
   exact⟨true,xs,F,rfl,⟨fun _=>M.Jt o_ o_,fun _=>rfl⟩,M,Q,hm,fun _ _=>Iff.rfl,fun _=>rfl,fun _ _=>Iff.rfl,yo (yc [_,_] _ f)⟩
 . have j:=yc [_,_] _ f
   refine fK f 11 ?_
   refine cl xV (xW fb nb m ed xs t (ye j 0 rfl) (by first|exact hm|omega) hb Q F M (a+1) o_ o_) ?_
   rintro _ y ⟨V,rfl,l,z,A,d,C,P⟩
   have n:=(ym j P)
   have E:l.length=m:=by have:=d.len;omega
   have o:=yc [_,_] _ n
   refine fK n 7 ?_
   refine cl xV (xW fb nb m ed l y (ye o 0 rfl) (by first|exact hm|omega) hb C ((.nd z (a+1) .nil,0) :: A) d.fo (b+1) o_ o_) ?_
   rintro _ G ⟨W,rfl,g,H,I,c,p,P⟩
   have e:=(ym o P)
   have J:g.length=m:=by have:=c.len;omega
   refine fK e 10 ?_
   refine jk (o' := (a+1)*9+0) (i:=(a:Int)+1) rfl rfl rfl yh jj (o9 (show (a+1)<(g).length from om)) o_ (fK e 2 ?_)
   by_cases K:(((fJ g (a+1)).up:Int):Int)=(0:Int)
   . refine fQ e 5 ?_
     refine gp (v:=Zn) Tryz.results52 rfl ?_
     have N:=Qd d c (show a+1≠b+1 by omega)
     exact⟨false,g,_,rfl,⟨fun L=>(by cases L),fun L=>absurd (N.2 L) o_⟩,c.fo,p,by have:=c.len;omega,fun u v=>(c.joined u v).trans (d.joined u v),fun k=>(c.key k).trans (d.key k),fun u v=>(c.ad u v).trans (d.ad u v),yo (yc [_,_] _ e)⟩
   . refine fQ e 5 ?_
     refine gp (v:=Zf) Tryz.results52 rfl ?_
     have N:=Qd d c (show a+1≠b+1 by omega)
     exact⟨true,g,_,rfl,⟨fun _=>N.1 o_,fun _=>rfl⟩,c.fo,p,by have:=c.len;omega,fun u v=>(c.joined u v).trans (d.joined u v),fun k=>(c.key k).trans (d.key k),fun u v=>(c.ad u v).trans (d.ad u v),yo (yc [_,_] _ e)⟩
theorem Ux(fb nb m:Nat)(ed:Int)(xs:List Nd)(w:World)(Y:Own (Zk fb nb m ed xs) w)(hm:xs.length=m)(hb:m<=1000001)(X:gf xs)(F:FT)(W:Fo xs F)(v:Nat)(hv:v+1<m)(key:Int)(hk:gZ .i64 key) :
 CR ya 103 (Zr fb v key) w (fun r w' => r = .int .i64 0/\∃ zs F2,Fo zs F2/\gf zs/\zs.length=m/\(∀ u v,Ad (gw zs F2) u v↔Ad (gw xs F) u v)/\(∀ k,(fJ zs k).key=if k=v+1 then key else(fJ xs k).key)/\fZ (Zk fb nb m ed xs) w w' (Zk fb nb m ed zs)):=by
 refine en Tryz.func103 Tryz.ntmps103 ?_
 have U:=(yr Y).unpack
 refine fR U 10 ?_
 refine kj (vs:=(Ze v)) (cs:=(Ze v)) rfl rfl yd gy rfl (by simp[Value.cells]) rfl rfl rfl U (fun z A I J l=>cl IJ (Io fb nb m ed A (l.at (i:=1) rfl) hb (Z6 z) [v] (xl l (i:=0) rfl (FG (m:=m) (P:=[v]) (by intro j R;simp at R;omega) hb)).any (by intro j R;simp at R;omega)) ?_)
 rintro _ B ⟨rfl,C⟩
 have o:=yq l C
 have D:=yg [1,2,0] o
 have p:=yc [_,_] _ D
 refine fK o 17 ?_
 refine cl xV (xW fb nb m ed xs B (ye p 0 rfl) (by first|exact hm|omega) hb X F W (v+1) o_ o_) ?_
 rintro _ K ⟨Z,rfl,g,L,M,h,E,S⟩
 have n:=(ym p S)
 have N:g.length=m:=by have:=h.len;omega
 refine fK n 11 ?_
 refine jk (o' := (v+1)*9+0) (i:=(v:Int)+1) rfl rfl rfl yh jj (o9 (show (v+1)<(g).length from om)) o_ (fK n 1 ?_)
 refine j3 (f:=(fun x:Nd=>{ x with key:=key })) 1 n (fun G q O=>?_)
 have s:gf (fO g (v+1) (fun x=>{ x with key:=key })):=gf.iN E om (fun x a b c d e=>⟨a,b,c,d,hk⟩)
 have t:=yc [_,_] _ q
 refine fK q 7 ?_
 refine cl lV (lY fb nb m ed (fO g (v+1) (fun x=>{ x with key:=key })) G (ye t 0 rfl) oa hb s (v+1) om) ?_
 rintro _ Q ⟨rfl,S⟩
 have y:=(ym t S)
 have H:gf (iG (fO g (v+1) (fun x=>{ x with key:=key })) (v+1)):=gf.lP s om
 refine fQ y 8 ?_
 refine gp (v:=Zc) Tryz.results103 rfl ?_
 have V:ri g (v+1) key=iG (fO g (v+1) (fun x=>{ x with key:=key })) (v+1):=rfl
 have T:=aeu (c:=key) h.fo
 exact⟨rfl,iG (fO g (v+1) (fun x=>{ x with key:=key })) (v+1),_,T.1,H,by rw[<-V,T.2.1];have:=h.len;omega,fun u v=>aes h key u v,fun k=>aet h key k,yo (yc [_,_] _ y)⟩
theorem Up(fb nb m:Nat)(ed:Int)(xs:List Nd)(w:World)(W:Own (Zk fb nb m ed xs) w)(hm:xs.length=m)(hb:m<=1000001)(U:gf xs)(F:FT)(Q:Fo xs F)(a b:Nat)(Y:a+1<m)(Z:b+1<m) :
 CR ya 153 (Zr fb a b) w (fun r w' => ∃ d zs F2,r = .int .i64 d/\Fo zs F2/\gf zs/\zs.length=m/\(d=1->∃ P R,F2=(.nd P (b+1) .nil,0) :: R/\gm zs false (.nd P (b+1) .nil)=[a+1,b+1])/\(Ad (gw xs F) (a+1) (b+1)->d=1)/\(∀ u v,Ad (gw zs F2) u v↔Ad (gw xs F) u v)/\(∀ k,(fJ zs k).key=(fJ xs k).key)/\fZ (Zk fb nb m ed xs) w w' (Zk fb nb m ed zs)):=by
 refine en Tryz.func153 Tryz.ntmps153 ?_
 have S:=(yr W).unpack
 have n:=yc [_,_] _ S
 refine fR S 11 ?_
 refine cl IQ (Hl fb nb m ed xs w (ye n 0 rfl) (by first|exact hm|omega) hb U F Q a b o_ o_) ?_
 rintro _ z ⟨A,o,T,rfl,p,h,q,B,C,s,j,O⟩
 have g:=(ym n O)
 refine gH g 3 ?_
 cases t:(A:Bool)
 . skip
   subst t
   refine iS g 8 ?_
   refine gp (v:=Zw) Tryz.results153 rfl ?_
   exact⟨-1,o,_,rfl,h,q,B,fun N=>absurd N d_,fun N=>(by have M:=p.2 (UK Q N);cases M),j,s,yo (yc [_,_] _ g)⟩
 . skip
   subst t
   have x:=yc [_,_] _ g
   refine fR g 10 ?_
   refine cl IL (Ks fb nb m ed o z (ye x 0 rfl) (by first|exact hm|omega) hb q T h (a+1) (b+1) o_ o_ o_ o_) ?_
   rintro _ G ⟨rfl,H,I,J,e,y,D,f,c,E,O⟩
   have l:=(ym x O)
   have K:e.length=m:=by have L:=c.len;have M:=f.len;rw[sW]at L;omega
   have aa:0<=(fJ e (b+1)).size/\(fJ e (b+1)).size<=1000000:=by have L:=(c.fo.rep (.nd y (b+1) .nil,0) s_).2.2.1.size;have M:=c.fo.count;simp only[Tr.mem]at L M;rw[L];omega
   refine fK l 10 ?_
   refine jk (o' := (b+1)*9+0) (i:=(b:Int)+1) rfl rfl rfl yh jj (o9 (show (b+1)<(e).length from om)) o_ (fQ l 7 ?_)
   refine gp (v:=(Za (((fJ e (b+1)).size)-1))) Tryz.results153 rfl ?_
   have V:=(C (a+1) (b+1)).2 (p.1 rfl)
   have X:=fun hs=>Wq h V f c hs
   skip
   exact⟨(fJ e (b+1)).size-1,e,_,rfl,c.fo,E,by have L:=c.len;have M:=f.len;rw[sW]at L;omega,fun N=>⟨y,D,rfl,X o_⟩,fun N=>(by have M:=UL f c ((j _ _).2 N);omega),fun u v=>(FL f c u v).trans (j u v),fun k=>(FM f c k).trans (s k),yo (yc [_,_] _ l)⟩
theorem Ut(fb nb m:Nat)(ed:Int)(xs:List Nd)(w:World)(W:Own (Zk fb nb m ed xs) w)(hm:xs.length=m)(hb:m<=1000001)(V:gf xs)(F:FT)(U:Fo xs F)(a b:Nat)(ha:a+1<m)(aa:b+1<m) :
 CR ya 125 (Zr fb a b) w (fun r w' => ∃ (f:Nat) (B:Bool),∃ zs F2,r = .tuple (Z7 f B)/\f+1<m/\Fo zs F2/\gf zs/\zs.length=m/\(B=true↔Joined xs F (a+1) (b+1))/\(B=true->∀ key,(∀ x,x+1<m->(fJ xs (x+1)).key=key x)->∃ q,Pm (vJ xs F) key a b f q)/\(∀ u v,Ad (gw zs F2) u v↔Ad (gw xs F) u v)/\(∀ k,(fJ zs k).key=(fJ xs k).key)/\fZ (Zk fb nb m ed xs) w w' (Zk fb nb m ed zs)):=by
 refine en Tryz.func125 Tryz.ntmps125 ?_
 have S:=(yr W).unpack
 have p:=yc [_,_] _ S
 refine fR S 12 ?_
 refine cl IQ (Hl fb nb m ed xs w (ye p 0 rfl) (by first|exact hm|omega) hb V F U a b o_ o_) ?_
 rintro _ C ⟨D,s,T,rfl,h,j,t,E,G,l,n,P⟩
 have e:=(ym p P)
 refine gH e 3 ?_
 cases y:(D:Bool)
 . skip
   subst y
   refine iS e 9 ?_
   refine iH (v:=Zc) (v' := Zn) Tryz.results125 rfl rfl ?_
   exact⟨0,false,s,_,rfl,o_,j,t,E,h,fun R=>(by cases R),n,l,yo (yc [_,_] _ e)⟩
 . skip
   subst y
   have z:=yc [_,_] _ e
   refine fR e 10 ?_
   refine cl IL (Ks fb nb m ed s C (ye z 0 rfl) (by first|exact hm|omega) hb t T j (a+1) (b+1) o_ o_ o_ o_) ?_
   rintro _ I ⟨rfl,J,K,L,c,H,M,g,d,A,P⟩
   have o:=(ym z P)
   have N:c.length=m:=by have O:=d.len;have Q:=g.len;rw[sW]at O;omega
   have ab:(fJ c (b+1)).first≠0/\(fJ c (b+1)).first<m:=by have O:=d.fo.rep (.nd H (b+1) .nil,0) s_;have Q:=O.o8 _ O.2.2.1.first.1;have R:=A.first (b+1) o_;omega
   refine fK o 10 ?_
   refine jk (o' := (b+1)*9+0) (i:=(b:Int)+1) rfl rfl rfl yh jj (o9 (show (b+1)<(c).length from om)) o_ (fQ o 8 ?_)
   refine iH (v:=(Za (((fJ c (b+1)).first:Int)-1))) (v' := Zf) Tryz.results125 rfl rfl ?_
   exact⟨(fJ c (b+1)).first-1,true,c,_,by rw[show (((fJ c (b+1)).first-1:Nat):Int)=((fJ c (b+1)).first:Int)-1 by omega],o_,d.fo,A,by have O:=d.len;have Q:=g.len;rw[sW]at O;omega,h,fun _ key X=>(by obtain⟨Z,Y⟩:=acG j g d ((G _ _).2 (h.1 rfl)) (key:=key) (fun x O=>(l _).trans (X x o_));exact⟨Z,Y.mono fun u v O=>(n _ _).1 O⟩),fun u v=>(FL g d u v).trans (n u v),fun k=>(FM g d k).trans (l k),yo (yc [_,_] _ o)⟩
theorem Us(fb nb m:Nat)(ed:Int)(xs:List Nd)(w:World)(hO:Own (Zk fb nb m ed xs) w)(hm:xs.length=m)(hb:m<=1000001)(hI:gf xs)(F:FT)(hF:Fo xs F)(a b:Nat)(ha:a+1<m)(aJ:b+1<m) :
 CR ya 165 (Zr fb a b) w (fun r w' => ∃ e ed', ∃ zs F2,r = .int .i64 e/\Fo zs F2/\gf zs/\zs.length=m/\(¬ Joined xs F (a+1) (b+1)->∀ u v,Ad (gw zs F2) u v↔Ad (gw xs F) u v\/(u=a+1/\v=b+1)\/(u=b+1/\v=a+1))/\(∀ k,(fJ zs k).key=(fJ xs k).key)/\fZ (Zk fb nb m ed xs) w w' (Zk fb nb m ed' zs)):=by
 refine en Tryz.func165 Tryz.ntmps165 ?_
 have aH:=(yr hO).unpack
 refine fR aH 11 ?_
 refine kj (vs:=(Zp a b)) (cs:=(Zp a b)) rfl rfl yd gy rfl (by simp[Value.cells]) rfl rfl rfl aH (fun N O am an t=>cl IJ (Io fb nb m ed O (t.at (i:=1) rfl) hb (xO N) [a,b] (xl t (i:=0) rfl (FG (m:=m) (P:=[a,b]) (by intro j hj;simp at hj;omega) hb)).any (by intro j hj;simp at hj;omega)) ?_)
 rintro _ Q ⟨rfl,R⟩
 have n:=yq t R
 refine fK n 17 ?_
 by_cases ao:((a:Int):Int)=((b:Int):Int)
 . refine fQ n 11 ?_
   refine gp (v:=Ac) Tryz.results165 rfl ?_
   have S:=yg [1,2,0] n
   have aI:a=b:=by omega
   subst aI
   exact⟨_,ed,xs,F,rfl,hF,hI,hm,fun h9=>absurd (hF.Jt o_ o_) h9,fun _=>rfl,yo (yc [_,_] _ S)⟩
 . skip
   have U:=yg [1,2,0] n
   have A:=yc [_,_] _ U
   refine fK n 12 ?_
   refine cl IQ (Hl fb nb m ed xs Q (ye A 0 rfl) (by first|exact hm|omega) hb hI F hF a b o_ o_) ?_
   rintro _ V ⟨W,y,aD,rfl,B,p,C,X,Y,D,Z,T⟩
   have o:=(ym A T)
   refine gH o 2 ?_
   cases E:(W:Bool)
   . skip
     subst E
     have G:=yc [_,_] _ o
     refine fR o 8 ?_
     refine cl OL (Qv fb nb m ed y V (ye G 0 rfl) (by first|exact hm|omega) hb C aD p (a+1) o_ o_) ?_
     rintro _ aa ⟨rfl,q,ab,ac,h,ad,T⟩
     have H:=(ym G T)
     have ae:q.length=m:=by have:=h.len;omega
     have af:gf (jC q (a+1)):=ad.lead o_
     have ap:(jC q (a+1)).length=m:=(sW _ _).trans ae
     have I:=yc [_,_] _ H
     refine fK H 7 ?_
     refine cl xV (xW fb nb m ed (jC q (a+1)) aa (ye I 0 rfl) (by first|exact hm|omega) hb af ((.nd ab (a+1) .nil,0) :: ac) h.tO.fo (b+1) o_ o_) ?_
     rintro _ aq ⟨l₁,rfl,g,au,av,l,ag,T⟩
     have z:=(ym I T)
     have aw:g.length=m:=by have:=l.len;omega
     refine fK z 12 ?_
     refine jk (o' := (a+1)*9+0) (i:=(a:Int)+1) rfl rfl rfl yh jj (o9 (show (a+1)<(g).length from om)) o_ (fK z 1 ?_)
     refine j3 (f:=(fun x:Nd=>{ x with up:=(b+1) })) 1 z (fun ax ah ay=>?_)
     have ai:gf (fO g (a+1) (fun x=>{ x with up:=(b+1) })):=gf.iN ag om (fun x a b c d e=>⟨a,b,om,d,e⟩)
     refine gO ah 10 fun az s=>?_
     refine jk (o' := (b+1)*9+0) (i:=(b:Int)+1) rfl rfl rfl yh jj (o9 (show (b+1)<(fO g (a+1) (fun x=>{ x with up:=(b+1) })).length from om)) o_ (fK s 8 ?_)
     refine jk (o' := (a+1)*9+0) (i:=(a:Int)+1) rfl rfl rfl yh jj (o9 (show (a+1)<(fO g (a+1) (fun x=>{ x with up:=(b+1) })).length from om)) o_ (fK s 2 ?_)
     refine ar (e:=(IntKind.i64.wrap ((fJ (fO g (a+1) (fun x=>{ x with up:=(b+1) })) (b+1)).iL+(fJ (fO g (a+1) (fun x=>{ x with up:=(b+1) })) (a+1)).total))) rfl rfl rfl rfl rfl (jk (o' := (b+1)*9+0) (i:=(b:Int)+1) rfl rfl rfl yh jj (o9 (show (b+1)<(fO g (a+1) (fun x=>{ x with up:=(b+1) })).length from om)) o_ (fK s 1 ?_))
     refine j3 (f:=(fun x:Nd=>{ x with iL:=(IntKind.i64.wrap ((fJ (fO g (a+1) (fun x=>{ x with up:=(b+1) })) (b+1)).iL+(fJ (fO g (a+1) (fun x=>{ x with up:=(b+1) })) (a+1)).total)) })) 1 s (fun aj J aA=>?_)
     have K:gf (fO (fO g (a+1) (fun x=>{ x with up:=(b+1) })) (b+1) (fun x=>{ x with iL:=(IntKind.i64.wrap ((fJ (fO g (a+1) (fun x=>{ x with up:=(b+1) })) (b+1)).iL+(fJ (fO g (a+1) (fun x=>{ x with up:=(b+1) })) (a+1)).total)) })):=gf.iN ai om (fun x a b c d e=>⟨a,b,c,d,e⟩)
     have L:=yc [_,_] _ J
     refine fK J 7 ?_
     refine cl lV (lY fb nb m ed (fO (fO g (a+1) (fun x=>{ x with up:=(b+1) })) (b+1) (fun x=>{ x with iL:=(IntKind.i64.wrap ((fJ (fO g (a+1) (fun x=>{ x with up:=(b+1) })) (b+1)).iL+(fJ (fO g (a+1) (fun x=>{ x with up:=(b+1) })) (a+1)).total)) })) aj (ye L 0 rfl) oa hb K (b+1) om) ?_
     rintro _ aB ⟨rfl,T⟩
     have M:=(ym L T)
     have ak:gf (iG (fO (fO g (a+1) (fun x=>{ x with up:=(b+1) })) (b+1) (fun x=>{ x with iL:=(IntKind.i64.wrap ((fJ (fO g (a+1) (fun x=>{ x with up:=(b+1) })) (b+1)).iL+(fJ (fO g (a+1) (fun x=>{ x with up:=(b+1) })) (a+1)).total)) })) (b+1)):=gf.lP K om
     refine fK M 8 ?_
     refine ar (e:=(D3 ed)) rfl rfl rfl rfl rfl (j7 M 11 fun aC al=>?_)
     refine gp (v:=Zc) Tryz.results165 rfl ?_
     have aG:¬ Joined y aD (a+1) (b+1):=fun h9=>by have h8:=B.2 ((Y _ _).1 h9);cases h8
     obtain⟨R3,aE⟩:=aaV p h l aG o_ o_ o_ o_
     have aF:=aaW (l.fo.perm (aE.cons _))
     have e9:lF g (a+1) (b+1)=iG (fO (fO g (a+1) (fun x=>{ x with up:=(b+1) })) (b+1) (fun x=>{ x with iL:=(IntKind.i64.wrap ((fJ (fO g (a+1) (fun x=>{ x with up:=(b+1) })) (b+1)).iL+(fJ (fO g (a+1) (fun x=>{ x with up:=(b+1) })) (a+1)).total)) })) (b+1):=rfl
     exact⟨_,_,iG (fO (fO g (a+1) (fun x=>{ x with up:=(b+1) })) (b+1) (fun x=>{ x with iL:=(IntKind.i64.wrap ((fJ (fO g (a+1) (fun x=>{ x with up:=(b+1) })) (b+1)).iL+(fJ (fO g (a+1) (fun x=>{ x with up:=(b+1) })) (a+1)).total)) })) (b+1),_,rfl,aF.1,ak,by rw[<-e9,aF.2.1];have h7:=l.len;have h8:=h.len;rw[sW]at h7;omega,fun _ u v=>(aaS p h l aG o_ o_ o_ o_ aE u v).trans (or_congr (Z u v) Iff.rfl),fun k=>(aaU h l k).trans (D k),yo (yc [_,_] _ al)⟩
   . skip
     subst E
     refine iS o 8 ?_
     refine gp (v:=BQ) Tryz.results165 rfl ?_
     exact⟨_,ed,y,_,rfl,p,C,X,fun h9=>absurd (B.1 rfl) h9,D,yo (yc [_,_] _ o)⟩
theorem Uo(fb nb m:Nat)(ed:Int)(xs:List Nd)(w:World)(hO:Own (Zk fb nb m ed xs) w)(hm:xs.length=m)(hb:m<=1000001)(hI:gf xs)(F:FT)(hF:Fo xs F)(a b:Nat)(ha:a+1<m)(aB:b+1<m) :
 CR ya 107 (Zr fb a b) w (fun r w' => ∃ e ed', ∃ zs F2,r = .int .i64 e/\Fo zs F2/\gf zs/\zs.length=m/\(Ad (gw xs F) (a+1) (b+1)->(∀ u v,Ad (gw zs F2) u v↔Ad (gw xs F) u v/\¬ ((u=a+1/\v=b+1)\/(u=b+1/\v=a+1)))/\¬ Joined zs F2 (a+1) (b+1))/\(∀ k,(fJ zs k).key=(fJ xs k).key)/\fZ (Zk fb nb m ed xs) w w' (Zk fb nb m ed' zs)):=by
 refine en Tryz.func107 Tryz.ntmps107 ?_
 have av:=(yr hO).unpack
 refine fR av 11 ?_
 refine kj (vs:=(Zp a b)) (cs:=(Zp a b)) rfl rfl yd gy rfl (by simp[Value.cells]) rfl rfl rfl av (fun J K aa ab p=>cl IJ (Io fb nb m ed K (p.at (i:=1) rfl) hb (xO J) [a,b] (xl p (i:=0) rfl (FG (m:=m) (P:=[a,b]) (by intro j hj;simp at hj;omega) hb)).any (by intro j hj;simp at hj;omega)) ?_)
 rintro _ L ⟨rfl,M⟩
 have y:=yq p M
 have N:=yg [1,2,0] y
 have z:=yc [_,_] _ N
 refine fK y 18 ?_
 refine cl Xb (Up fb nb m ed xs L (ye z 0 rfl) (by first|exact hm|omega) hb hI F hF a b o_ o_) ?_
 rintro _ O ⟨Q,A,aw,rfl,q,B,R,S,ax,U,C,ht⟩
 have n:=(ym z ht)
 by_cases ac:(Q:Int)=(1:Int)
 . have D:=yc [_,_] _ n
   refine fK n 13 ?_
   refine cl IL (Ks fb nb m ed A O (ye D 0 rfl) (by first|exact hm|omega) hb B aw q (a+1) (b+1) o_ o_ o_ o_) ?_
   rintro _ ad ⟨rfl,ae,af,ag,g,ah,ai,l,h,V,ht⟩
   have s:=(ym D ht)
   have aj:g.length=m:=by have T:=h.len;have h8:=l.len;rw[sW]at T;omega
   refine fK s 10 ?_
   refine jk (o' := (a+1)*9+0) (i:=(a:Int)+1) rfl rfl rfl yh jj (o9 (show (a+1)<(g).length from om)) o_ (fK s 1 ?_)
   refine j3 (f:=(fun x:Nd=>{ x with up:=0 })) 1 s (fun ak t al=>?_)
   have W:gf (fO g (a+1) (fun x=>{ x with up:=0 })):=gf.iN V om (fun x a b c d e=>⟨a,b,om,d,e⟩)
   refine fK t 10 ?_
   refine jk (o' := (b+1)*9+0) (i:=(b:Int)+1) rfl rfl rfl yh jj (o9 (show (b+1)<(fO g (a+1) (fun x=>{ x with up:=0 })).length from om)) o_ (fK t 1 ?_)
   refine jL (o:=(b+1)*9+0) (o' := (b+1)*9+0) (i:=0) rfl rfl rfl yn gy d_ rfl (j3 (f:=(fun x:Nd=>{ x with k0:=0 })) 1 t (fun X E am=>?_))
   have G:gf (fO (fO g (a+1) (fun x=>{ x with up:=0 })) (b+1) (fun x=>{ x with k0:=0 })):=gf.iN W om (fun x a b c d e=>⟨om,b,c,d,e⟩)
   have H:=yc [_,_] _ E
   refine fK E 7 ?_
   refine cl lV (lY fb nb m ed (fO (fO g (a+1) (fun x=>{ x with up:=0 })) (b+1) (fun x=>{ x with k0:=0 })) X (ye H 0 rfl) oa hb G (b+1) om) ?_
   rintro _ an ⟨rfl,ht⟩
   have I:=(ym H ht)
   have Y:gf (iG (fO (fO g (a+1) (fun x=>{ x with up:=0 })) (b+1) (fun x=>{ x with k0:=0 })) (b+1)):=gf.lP G om
   refine fK I 8 ?_
   refine ar (e:=(IntKind.i64.wrap (ed-1))) rfl rfl rfl rfl rfl (j7 I 11 fun ao Z=>?_)
   refine gp (v:=Zc) Tryz.results107 rfl ?_
   obtain⟨b9,R9,ay,az⟩:=S o_
   subst ay
   obtain⟨ap,aA⟩:=acH q az l h
   have aq:=h.fo
   rw[ap]at aq
   have au:=afO aq
   have e9:nT g (a+1) (b+1)=iG (fO (fO g (a+1) (fun x=>{ x with up:=0 })) (b+1) (fun x=>{ x with k0:=0 })) (b+1):=rfl
   exact⟨_,_,iG (fO (fO g (a+1) (fun x=>{ x with up:=0 })) (b+1) (fun x=>{ x with k0:=0 })) (b+1),_,rfl,au.1,Y,by rw[<-e9,au.2.1];have T:=h.len;have h8:=l.len;rw[sW]at T;omega,fun _=>⟨fun u v=>(Wf aq (Wj (ap▸h)) u v).trans (and_congr ((by have T:=FL l h u v;rw[ap]at T;exact T.trans (U u v))) Iff.rfl),Wg au.1⟩,fun k=>((TQ o_ o_ k).2.trans (FM l h k)).trans (C k),yo (yc [_,_] _ Z)⟩
 . refine fQ n 11 ?_
   refine gp (v:=(.int .i64 5)) Tryz.results107 rfl ?_
   exact⟨_,ed,A,_,rfl,q,B,R,fun h9=>absurd (ax h9) o_,C,yo (yc [_,_] _ n)⟩
end
section
open Go Go.Sx
theorem aaJ(n:Nat)(w:World)(E:n<=65536) :
 CR ya 102 (Z8 n) w (fun r w' => ∃ fb nb,r = .tuple (Z2 fb)/\fZ (gq []) w w' (gq (ML fb nb (n+1) (lH n n)))):=by
 refine en Tryz.func102 Tryz.ntmps102 ?_
 have B:=yt w
 refine fR B 10 ?_
 refine cmp rfl rfl rfl (lC o_) (fK B 2 ?_)
 refine cmp rfl rfl rfl (pR o_) (fK B 10 ?_)
 refine rZ (cf:=Nd.cells) (z0:=uU) (m:=n+1) (c:=n+1) rfl (gr o_) (gr o_) yh jj rfl f_ d_ (zo _) o_ o_ B ?_
 intro a f o p g
 have h:St [(w,[])] [blk a 192 ((lH n 0).flatMap Nd.cells)] f:=by rw[ab7];exact g
 refine ji (pvs:=[(1,(Zd a (n+1)))]) (v:=.agg #[Zs,(Zd a (n+1)),Zc]) rfl rfl (jA [(1,(qi a (n+1)))] Li acX rfl ⟨rfl,rfl,trivial⟩ rfl) (iF h (fun b q s t i=>?_))
 refine wX i 20 fun u j=>?_
 refine lp (α:=Nat) (fun k=>[(4,(Zb b)),(21,(Za n)),(22,(Za k))]) (fun k w1=>St [(w,[])] (ML b a (n+1) (lH n k)) w1/\k<=n) (fun k=>n-k) 0 ⟨rfl,rfl,gr rO,trivial⟩ (⟨j,o_⟩) ?_
 rintro k x l ⟨A,D⟩
 refine fR A 2 ?_
 by_cases y:((k:Int):Int)<((n:Int):Int)
 . have d:=yc [_,_] [] A
   refine fK A 19 ?_
   refine cl lV (lY b a (n+1) 0 (lH n k) l (ye d 0 rfl) (sZ n k) o_ (Rh o_) (k+1) o_) ?_
   rintro _ z ⟨rfl,C⟩
   rw[ab6 (show k<n by omega)]at C
   have e:=(ym d C)
   refine fQ e 7 ?_
   refine tN (?_)
   exact again (k+1) ⟨rfl,rfl,gr rO,trivial⟩ (⟨e,o_⟩) (by show (n-(k+1):Nat)<n-k;omega)
 . refine fQ A 18 ?_
   refine iH (v:=(Zb b)) (v' := Zc) Tryz.results102 rfl rfl ?_
   obtain rfl:k=n:=by omega
   exact⟨b,a,rfl,St.eM (yc [_,_] [] A)⟩
end
section
open Go Go.Sx
structure xG (m:Nat) (A:Nat->Nat->Prop) (key:Nat->Int) (xs:List Nd) (F:FT):Prop where
 len:xs.length=m
 CA:gf xs
 fo:Fo xs F
 j4:∀ i j,vJ xs F i j↔A i j
 key:∀ k,k+1<m->(fJ xs (k+1)).key=key k
def jN(fb nb m:Nat)(A:Nat->Nat->Prop)(key:Nat->Int):fS where
 gJ:=[fb,nb]
 holds w:=∃ (ed:Int) (xs:List Nd) (F:FT),xG m A key xs F/\(Zk fb nb m ed xs).holds w
 loc w w' h hh:=by
  obtain⟨ed,xs,F,a,c⟩:=hh
  exact⟨ed,xs,F,a,(Zk fb nb m ed xs).loc w w' (fun b hb=>h b (by simpa[gq,iT,blk]using hb)) c⟩
section
variable {fb nb m:Nat} {A A' : Nat->Nat->Prop} {key key' : Nat->Int} {w w' : World} {ed ed' : Int} {xs zs:List Nd} {F F2:FT}
theorem wD:(Zk fb nb m ed xs).gJ=(jN fb nb m A key).gJ:=by simp[gq,iT,blk,jN]
theorem C3(h:Own (jN fb nb m A key) w):∃ (ed:Int) (xs:List Nd) (F:FT),xG m A key xs F/\Own (Zk fb nb m ed xs) w:=by
 obtain⟨ed,xs,F,a,c⟩:=h.holds
 exact⟨ed,xs,F,a,c,by rw[wD (A:=A) (key:=key)];exact h.nodup,fun b hb=>h.lt b (by rw[wD (A:=A) (key:=key)]at hb;exact hb)⟩
theorem Dv(h:fZ (Zk fb nb m ed xs) w w' (Zk fb nb m ed' zs))(h1:xG m A' key' zs F2):fZ (jN fb nb m A key) w w' (jN fb nb m A' key') :=
 ⟨⟨ed', zs,F2,h1,h.holds⟩,by have:=h.gD;rw[wD (A:=A) (key:=key)]at this;exact this,fun b hb=>by have:=h.place b (by rw[wD (A:=A') (key:=key')];exact hb);rw[wD (A:=A) (key:=key)]at this;exact this,by have:=h.nodup;rw[wD (A:=A') (key:=key')]at this;exact this,fun b hb=>h.lt b (by rw[wD (A:=A') (key:=key')];exact hb)⟩
theorem afA(h:fZ (gq []) w w' (Zk fb nb m ed xs))(h1:xG m A key xs F):fZ (gq []) w w' (jN fb nb m A key) :=
 h.CO (wD (ed:=ed) (xs:=xs)).symm fun a=>⟨ed,xs,F,h1,a⟩
theorem CH{bs:List (World×List Nat)}{L:List fS}(h:St bs (jN fb nb m A key :: L) w)(a:∀ i j,A i j↔A' i j)(hk:∀ k,key k=key' k):St bs (jN fb nb m A' key' :: L) w:=by
 rwa [show A' = A from funext fun i=>funext fun j=>propext (a i j).symm,show key' = key from funext fun k=>(hk k).symm]
theorem xG.cn(h:xG m A key xs F){a b:Nat}(c:a+1<m)(hb:b+1<m):Joined xs F (a+1) (b+1)↔Cn A a b:=by
 rw[aao h.fo (by rw[h.len];exact c) (by rw[h.len];exact hb)]
 exact⟨fun t=>t.mono fun i j=>(h.j4 i j).1,fun t=>t.mono fun i j=>(h.j4 i j).2⟩
end
theorem Nu(fb nb m:Nat)(A:Nat->Nat->Prop)(key:Nat->Int)(w:World)(n:Own (jN fb nb m A key) w)(hb:m<=1000001)(a:Nat)(p:a+1<m)(k:Int)(hk:gZ .i64 k) :
 CR ya 103 (Zr fb a k) w (fun r w' => r = .int .i64 0/\fZ (jN fb nb m A key) w w' (jN fb nb m A (fun x=>if x=a then k else key x))):=by
 obtain⟨ed,xs,F,b,o⟩:=C3 n
 exact CR.mono (Ux fb nb m ed xs w o b.len hb b.CA F b.fo a p k hk) fun r w' ⟨e,zs,F2,c,d,f,h,l,q⟩=>⟨e,Dv q ⟨f,d,c,fun i j=>(h _ _).trans (b.j4 i j),fun x g=>by rw[l,b.key x g];simp⟩⟩
theorem UW(fb nb m:Nat)(A:Nat->Nat->Prop)(key:Nat->Int)(w:World)(v:Own (jN fb nb m A key) w)(hb:m<=1000001)(a b:Nat)(g:a+1<m)(h:b+1<m) :
 CR ya 125 (Zr fb a b) w (fun r w' => ∃ (f:Nat) (B:Bool),r = .tuple (Z7 f B)/\(f+1<m/\(B=true↔Cn A a b)/\(B=true->∃ q,Pm A key a b f q))/\fZ (jN fb nb m A key) w w' (jN fb nb m A key)):=by
 obtain⟨ed,xs,F,c,x⟩:=C3 v
 exact CR.mono (Ut fb nb m ed xs w x c.len hb c.CA F c.fo a b g h) fun r w' ⟨f,B,zs,F2,e,z,l,n,o,t,y,s,u,C⟩=>⟨f,B,e,⟨z,t.trans (c.cn g h),fun d=>(y d key c.key).imp fun q p=>p.mono fun i j=>(c.j4 i j).1⟩,Dv C ⟨o,n,l,fun i j=>(s _ _).trans (c.j4 i j),fun k d=>(u _).trans (c.key k d)⟩⟩
theorem Nr(fb nb m:Nat)(A:Nat->Nat->Prop)(key:Nat->Int)(w:World)(s:Own (jN fb nb m A key) w)(hb:m<=1000001)(a b:Nat)(f:a+1<m)(g:b+1<m)(v:¬ Cn A a b) :
 CR ya 165 (Zr fb a b) w (fun r w' => ∃ e:Int,r = .int .i64 e/\fZ (jN fb nb m A key) w w' (jN fb nb m (fun i j=>A i j\/(i=a/\j=b)\/(i=b/\j=a)) key)):=by
 obtain⟨ed,xs,F,c,t⟩:=C3 s
 refine CR.mono (Us fb nb m ed xs w t c.len hb c.CA F c.fo a b f g) fun r w' ⟨e,ed', zs,F2,u,h,l,n,p,q,x⟩=>⟨e,u,Dv x ⟨n,l,h,fun i j=>?_,fun k d=>(q _).trans (c.key k d)⟩⟩
 have o:=p (fun d=>v ((c.cn f g).1 d)) (i+1) (j+1)
 exact o.trans (or_congr (c.j4 i j) o_)
theorem Nj(fb nb m:Nat)(A:Nat->Nat->Prop)(key:Nat->Int)(w:World)(x:Own (jN fb nb m A key) w)(hb:m<=1000001)(a b:Nat)(g:a+1<m)(h:b+1<m)(s:A a b) :
 CR ya 107 (Zr fb a b) w (fun r w' => ∃ e:Int,r = .int .i64 e/\¬ Cn (fun i j=>A i j/\¬ ((i=a/\j=b)\/(i=b/\j=a))) a b/\fZ (jN fb nb m A key) w w' (jN fb nb m (fun i j=>A i j/\¬ ((i=a/\j=b)\/(i=b/\j=a))) key)):=by
 obtain⟨ed,xs,F,c,y⟩:=C3 x
 refine CR.mono (Uo fb nb m ed xs w y c.len hb c.CA F c.fo a b g h) fun r w' ⟨e,ed', zs,F2,z,l,n,o,t,v,B⟩=>?_
 obtain⟨q,u⟩:=t ((c.j4 a b).2 s)
 have f:xG m (fun i j=>A i j/\¬ ((i=a/\j=b)\/(i=b/\j=a))) key zs F2:=⟨o,n,l,fun i j=>by
  have p:=q (i+1) (j+1)
  exact p.trans (and_congr (c.j4 i j) o_),fun k d=>(v _).trans (c.key k d)⟩
 exact⟨e,z,fun d=>u ((f.cn g h).2 d),Dv B f⟩
end
section
open Go Go.Sx
def QS.R(hb n:Nat)(s:QS):fS:=kE (s.ok n) (gq [blk hb 255 (pP hb n s.iv s.pv),fM gG.cells s.iv 161 2 s.fP,fM iA s.pv 269 1 s.ps,gN fW 271 64 s.ps s.pl])
def QS.SR(sb hb n:Nat)(s:QS):fS:=gq [blk sb 211 (xQ n hb),(QS.R hb n s)]
abbrev BP(a:WW)(b:Nat):=(QS.SR a.sb a.hb b a.q:fS)
abbrev Ef a (b c d:Nat) (e:Int) (f g:Nat) h:=(gq [a,blk b 80 (Zi c),blk d 2 (Ze e),blk c 211 (xQ f g),QS.R g f h]:fS)
abbrev An(a b c:Nat)(d:Int)(e:Nat)(f:Int)(g h:Nat) i:=(gq [blk a 80 (Zi b),blk c 3 (Ze d),blk e 2 (Ze f),blk b 211 (xQ g h),QS.R h g i]:fS)
theorem Sf(n:Nat)(w:World)(a:n<=65536) :
 CR ya 101 (Z8 n) w (fun r w' => ∃ hb s,r = .tuple (Z2 hb)/\s.fP=[]/\fZ (gq []) w w' (QS.R hb n s)) :=
 CR.mono (ZJ n w a) fun r w' ⟨hb,pv,b,c⟩=>⟨hb,⟨.slice none 0 0,pv,List.replicate ((n+63) / 64) none,[],List.replicate (64*((n+63) / 64)) 0⟩,b,rfl,c.GB ⟨Hp.new rfl,jy.new a rfl,Ord.nil⟩⟩
theorem adt(hb n:Nat)(s:QS)(w:World)(a:Own (QS.R hb n s) w)(i:Nat)(hi:i<n)(c:∀ e∈s.fP,e.ix≠i) :
 CR ya 161 (Zm hb i) w (fun r w' => r = .tuple Hz/\fZ (QS.R hb n s) w w' (QS.R hb n s)) :=
 CR.mono (ZI hb n s.iv s.pv s.ps s.fP s.pl w a.un a.fact.hp a.fact.gK i hi (a.fact.free hi c)) fun r w' ⟨b,d⟩=>⟨b,d.rz a.fact⟩
theorem Sh(hb n:Nat)(s:QS)(w:World)(f:Own (QS.R hb n s) w)(i:Nat)(hi:i<n)(h:∀ e∈s.fP,e.ix≠i)(key:Int)(hk:gZ .i64 key) :
 CR ya 124 (Zr hb i key) w (fun r w' => ∃ s2,r = .int .i64 0/\(∀ e,e∈s2.fP↔e∈s.fP\/e=⟨i,key⟩)/\fZ (QS.R hb n s) w w' (QS.R hb n s2)) :=
 CR.mono (ZQ hb n s.iv s.pv s.ps s.fP s.pl w f.un f.fact.hp f.fact.gK f.fact.ord i hi (f.fact.free hi h) key hk) fun r w' ⟨g,k,l,ys,m,a,b,c,d,_,_,j⟩=>⟨⟨k,s.pv,l,ys,m⟩,g,d,j.rz ⟨a,b,c⟩⟩
theorem Sd(hb n:Nat)(s:QS)(w:World)(a:Own (QS.R hb n s) w)(b:s.fP.length=0) :
 CR ya 105 (Zh hb) w (fun r w' => r = .tuple BR/\fZ (QS.R hb n s) w w' (QS.R hb n s)) :=
 CR.mono (PS hb n s.iv s.pv s.ps s.fP s.pl w a.un a.fact.hp a.fact.gK b) fun r w' ⟨c,d⟩=>⟨c,d.rz a.fact⟩
theorem Se(hb n:Nat)(s:QS)(w:World)(a:Own (QS.R hb n s) w)(b:0<s.fP.length) :
 CR ya 105 (Zh hb) w (fun r w' => r = .tuple (BS ((fJ s.fP 0).ix:Int) ((fJ s.fP 0).key))/\fZ (QS.R hb n s) w w' (QS.R hb n s)) :=
 CR.mono (PT hb n s.iv s.pv s.ps s.fP s.pl w a.un a.fact.hp a.fact.gK b) fun r w' ⟨c,d⟩=>⟨c,d.rz a.fact⟩
theorem adu(hb n:Nat)(s:QS)(w:World)(a:Own (QS.R hb n s) w)(b:s.fP.length=0) :
 CR ya 68 (Zh hb) w (fun r w' => r = .tuple BR/\fZ (QS.R hb n s) w w' (QS.R hb n s)) :=
 CR.mono (ZO hb n s.iv s.pv s.ps s.fP s.pl w a.un a.fact.hp a.fact.gK b) fun r w' ⟨c,d⟩=>⟨c,d.rz a.fact⟩
theorem Sg(hb n:Nat)(s:QS)(w:World)(g:Own (QS.R hb n s) w)(h:0<s.fP.length) :
 CR ya 68 (Zh hb) w (fun r w' => ∃ s2,r = .tuple (BS ((fJ s.fP 0).ix:Int) ((fJ s.fP 0).key))/\((∀ e,e∈s2.fP↔e∈s.fP/\e.ix≠(fJ s.fP 0).ix)/\s2.fP.length+1=s.fP.length)/\fZ (QS.R hb n s) w w' (QS.R hb n s2)) :=
 CR.mono (ZP hb n s.iv s.pv s.ps s.fP s.pl w g.un g.fact.hp g.fact.gK g.fact.ord h) fun r w' ⟨i,k,l,ys,m,a,b,c,d,_,f,j⟩=>⟨⟨k,s.pv,l,ys,m⟩,i,⟨d,f⟩,j.rz ⟨a,b,c⟩⟩
theorem ads(hb n:Nat)(s:QS)(w:World)(a:Own (QS.R hb n s) w) :
 CR ya 118 (Zh hb) w (fun r w' => ∃ b s2,r = .pointer (some ⟨b,0,none⟩)/\s2.fP=s.fP/\fZ (QS.R hb n s) w w' (gq [QS.R hb n s,QS.R b n s2])) :=
 CR.mono (ZF hb n s.iv s.pv s.ps s.fP s.pl w a.un a.fact.hp a.fact.gK) fun r w' ⟨b,c,d,e,g,i,_,j⟩=>⟨b,⟨c,d,e,s.fP,s.pl⟩,g,rfl,(fZ.E4 (A:=[blk hb 255 [(.pointer (some ⟨hb,0,none⟩)),(.int .i64 n),s.iv,s.pv],fM gG.cells s.iv 161 2 s.fP,fM iA s.pv 269 1 s.ps,gN fW 271 64 s.ps s.pl]) (B:=[blk b 255 [(.pointer (some ⟨b,0,none⟩)),(.int .i64 n),c,d],fM gG.cells c 161 2 s.fP,fM iA d 269 1 e,gN fW 271 64 e s.pl]) j).LB.CO rfl (fun h=>by
  intro Q f
  simp only[zg,mz,or_false]at f
  rcases f with rfl|rfl
  . exact⟨a.fact,h _ s_⟩
  . exact⟨⟨a.fact.hp,i,a.fact.ord⟩,h _ s_⟩)⟩
end
section
open Go Go.Sx
theorem Dh(sb hb n:Nat)(s:QS)(w:World)(d:Own (QS.SR sb hb n s) w) :
 CR ya 66 (Zh sb) w (fun r w' => r = .bool true/\fZ (QS.SR sb hb n s) w w' (QS.SR sb hb n s)):=by
 refine en Tryz.func66 Tryz.ntmps66 ?_
 have b:=Own.of d
 have e:=(yy b (i:=1) rfl:s.ok n)
 refine fR b 8 ?_
 refine nh (a:=some ⟨sb,0,none⟩) (c:=true) rfl rfl rfl Tryz.underlying80 rfl (fK b 5 ?_)
 refine nh (a:=some ⟨hb,0,none⟩) (c:=true) rfl rfl rfl GN rfl (fQ b 5 ?_)
 refine gp (v:=Zf) Tryz.results66 rfl ?_
 exact⟨rfl,yo (yc [_,_] _ b)⟩
theorem aeD(n:Nat)(w:World)(l:n<=65536) :
 CR ya 63 (Z8 n) w (fun r w' => ∃ sb hb s,r = .tuple (Z2 sb)/\s.fP=[]/\fZ (gq []) w w' (QS.SR sb hb n s)):=by
 refine en Tryz.func63 Tryz.ntmps63 ?_
 have k:=yt w
 refine fR k 9 ?_
 refine cl Of (Sf n w l) ?_
 rintro _ g ⟨a,e,rfl,f,m⟩
 have b:=(ki k m)
 refine fK b 21 ?_
 refine ji (pvs:=[(0,(Za n)),(1,(Zb a))]) (v:=.agg (BV n a)) rfl rfl (jA [(0,(Ze n)),(1,(Zi a))] Lj RP rfl ⟨rfl,rfl,rfl,rfl,trivial⟩ rfl) (iF b (fun c h i j d=>?_))
 refine fQ d 5 ?_
 refine iH (v:=(Zb c)) (v' := Zc) Tryz.results63 rfl rfl ?_
 exact⟨c,a,e,rfl,f,St.eM (yc [_,_] _ d)⟩
theorem aeE(sb hb n:Nat)(s:QS)(w:World)(y:Own (QS.SR sb hb n s) w)(x:s.fP.length=0) :
 CR ya 76 (Zh sb) w (fun r w' => r = .tuple BR/\fZ (QS.SR sb hb n s) w w' (QS.SR sb hb n s)):=by
 refine en Tryz.func76 Tryz.ntmps76 ?_
 have t:=Own.of y
 have z:=(yy t (i:=1) rfl:s.ok n)
 refine fR t 2 ?_
 refine iR t (fun k e l m b=>?_)
 have f:=yg [1,2,0] b
 have c:=yc [_,_] _ f
 refine fK b 7 ?_
 refine cl Cr (Dh sb hb n s e (ye c 0 rfl)) ?_
 rintro _ g ⟨rfl,u⟩
 have h:=yk 0 c u
 have a:=yz h
 refine fK a 12 ?_
 refine cl AD (Sd hb n s g (ye a 1 rfl) x) ?_
 rintro _ p ⟨rfl,u⟩
 have j:=yk 1 a u
 refine j7 j 7 fun q d=>?_
 refine og (v:=HU) (v' := Zn) Tryz.results76 (oq (cs:=vO) rfl xh rfl pY rfl (lZ d (i:=2) (o:=0) (vs:=vO) rfl rfl)) (pg rfl) ?_
 exact⟨rfl,yo (yc [_,_] _ d)⟩
theorem aeF(sb hb n:Nat)(s:QS)(w:World)(y:Own (QS.SR sb hb n s) w)(x:0<s.fP.length) :
 CR ya 76 (Zh sb) w (fun r w' => r = .tuple (BS ((fJ s.fP 0).ix:Int) ((fJ s.fP 0).key))/\fZ (QS.SR sb hb n s) w w' (QS.SR sb hb n s)):=by
 refine en Tryz.func76 Tryz.ntmps76 ?_
 have t:=Own.of y
 have z:=(yy t (i:=1) rfl:s.ok n)
 refine fR t 2 ?_
 refine iR t (fun k e l m b=>?_)
 have f:=yg [1,2,0] b
 have c:=yc [_,_] _ f
 refine fK b 7 ?_
 refine cl Cr (Dh sb hb n s e (ye c 0 rfl)) ?_
 rintro _ g ⟨rfl,u⟩
 have h:=yk 0 c u
 have a:=yz h
 refine fK a 12 ?_
 refine cl AD (Se hb n s g (ye a 1 rfl) x) ?_
 rintro _ p ⟨rfl,u⟩
 have j:=yk 1 a u
 refine j7 j 7 fun q d=>?_
 refine og (v:=(B2 ((fJ s.fP 0).ix:Int) ((fJ s.fP 0).key))) (v' := Zf) Tryz.results76 (oq (cs:=(Zp ((fJ s.fP 0).ix:Int) ((fJ s.fP 0).key))) rfl xh rfl pY rfl (lZ d (i:=2) (o:=0) (vs:=(Zp ((fJ s.fP 0).ix:Int) ((fJ s.fP 0).key))) rfl rfl)) (pg rfl) ?_
 exact⟨rfl,yo (yc [_,_] _ d)⟩
theorem aep(b1 b2 b3 sb hb n:Nat)(s:QS)(w:World)(i:Nat)(hi:i<n)(j:∀ e∈s.fP,e.ix≠i)(key:Int)(hk:gZ .i64 key)(h:Own (An b1 sb b2 i b3 key n hb s) w) :
 CR ya 122 #[Zn,(Zb b1),(Zb b2),(Zb b3)] w (fun r w' => ∃ s2,r = .int .i64 0/\(∀ e,e∈s2.fP↔e∈s.fP\/e=⟨i,key⟩)/\fZ (An b1 sb b2 i b3 key n hb s) w w' (An b1 sb b2 i b3 key n hb s2)):=by
 refine en Tryz.func122 Tryz.ntmps122 ?_
 have k:=Own.of h
 refine q7 k 22 fun c a=>?_
 refine cl On (Sh hb n s c (ye a 4 rfl) i hi j key hk) ?_
 rintro _ g ⟨d,rfl,f,l⟩
 have b:=yk 4 a l
 refine fQ b 4 ?_
 refine gp (v:=Zc) Tryz.results122 rfl ?_
 exact⟨d,rfl,f,yo (yc [_,_,_,_,_] _ b)⟩
theorem ae4(b1 b2 b3 sb hb n:Nat)(s:QS)(w:World)(i:Nat)(hi:i<n)(u:∀ e∈s.fP,e.ix≠i)(key:Int)(hk:gZ .i64 key)(y:Own (An b1 sb b2 i b3 key n hb s) w) :
 CR ya 121 #[(Zb sb),(Za i),(.func (.func 122) #[] (MB b1 b2 b3))] w (fun r w' => ∃ s2,r = .int .i64 0/\(∀ e,e∈s2.fP↔e∈s.fP\/e=⟨i,key⟩)/\fZ (An b1 sb b2 i b3 key n hb s) w w' (An b1 sb b2 i b3 key n hb s2)):=by
 refine en Tryz.func121 Tryz.ntmps121 ?_
 have x:=Own.of y
 have g:=yg [3,4,0,1,2] x
 have b:=yc [_,_] _ g
 refine fR x 9 ?_
 refine cl Cr (Dh sb hb n s w (ye b 0 rfl)) ?_
 rintro _ h ⟨rfl,t⟩
 have j:=yk 0 b t
 have a:=yz j
 refine fK a 10 ?_
 refine cmp rfl rfl rfl (lC o_) (fK a 6 ?_)
 refine cmp rfl rfl rfl (oG o_) (fK a 13 ?_)
 refine cl Xe (adt hb n s h (ye a 1 rfl) i hi u) ?_
 rintro _ k ⟨rfl,t⟩
 have c:=yk 1 a t
 have l:=yg [2,3,4,0,1] c
 have d:=yc [_,_,_,_,_] _ l
 refine fK c 11 ?_
 refine qp (fi:=[]) (ca:=(Ai b1 b2 b3)) rfl rfl rfl WV (aep b1 b2 b3 sb hb n s k i hi u key hk (ye d 0 rfl)) ?_
 rintro _ q ⟨m,rfl,o,t⟩
 have p:=yk 0 d t
 have f:=yz p
 refine fQ f 4 ?_
 refine gp (v:=Zc) Tryz.results121 rfl ?_
 exact⟨m,rfl,o,yo (yc [_,_,_,_,_] _ f)⟩
theorem aeT(sb hb n:Nat)(s:QS)(w:World)(F:Own (QS.SR sb hb n s) w)(i:Nat)(hi:i<n)(G:∀ e∈s.fP,e.ix≠i)(key:Int)(hk:gZ .i64 key) :
 CR ya 81 (Zr sb i key) w (fun r w' => ∃ s2,r = .int .i64 0/\(∀ e,e∈s2.fP↔e∈s.fP\/e=⟨i,key⟩)/\fZ (QS.SR sb hb n s) w w' (QS.SR sb hb n s2)):=by
 refine en Tryz.func81 Tryz.ntmps81 ?_
 have E:=Own.of F
 have I:=(yy E (i:=1) rfl:s.ok n)
 refine fR E 2 ?_
 refine iF E (fun a t u x h=>?_)
 refine iF h (fun b y z A j=>?_)
 refine iF j (fun c k B C d=>?_)
 refine fK d 7 ?_
 refine oc (vf:=[]) (vc:=(Ai a b c)) rfl rfl rfl ?_
 have l:=yg [2,1,0,3,4] d
 have f:=yc [_,_,_,_,_] _ l
 refine cl WU (ae4 a b c sb hb n s k i hi G key hk (ye f 0 rfl)) ?_
 rintro _ D ⟨m,rfl,o,H⟩
 have p:=yk 0 f H
 have g:=yz p
 refine fQ g 4 ?_
 refine gp (v:=Zc) Tryz.results81 rfl ?_
 have q:=yg [3,4,0,1,2] g
 exact⟨m,rfl,o,yo (yc [_,_] _ q)⟩
end
section
open Go Go.Sx
theorem Wy(sb:Nat)(now:Int)(w:World) :
 CR ya 67 (Zm sb now) w (fun r w' => ∃ m tb,r = .func (.func 104) #[] (B4 m tb)/\fZ (gq []) w w' (gq [blk m 80 (Zi sb),blk tb 2 (Ze now)])):=by
 refine en Tryz.func67 Tryz.ntmps67 ?_
 have l:=yt w
 refine fR l 2 ?_
 refine iF l (fun a f g h d=>?_)
 refine iF d (fun b i j k c=>?_)
 refine fK c 5 ?_
 refine oc (vf:=[]) (vc:=(qI a b)) rfl rfl rfl (fQ c 4 ?_)
 refine gp (v:=(.func (.func 104) #[] (B4 a b))) Tryz.results67 rfl ?_
 have e:=yg [1,0] c
 exact⟨a,b,rfl,St.eM (yc [_,_] _ e)⟩
theorem Wx{γ:Type}(T:γ->fS)(F:γ->List Nat)(z0:γ)(l X tb sb hb n:Nat)(s:QS)(now:Int)(w:World)(hy:∀ (z:γ) (i:Nat) (bs:List (World×List Nat)) (L:List fS) (w:World),i<n->(F z).length<=65536->St bs (T z :: L) w->YR ya l (Ze i) w (fun v w' => v = .bool true/\∃ z2,F z2=F z++[i]/\St bs (T z2 :: L) w'))(ai:(F z0).length=0)(hn:n<=65536)(hO:Own (Ef (T z0) X sb tb now n hb s) w) :
 CR ya 104 (MC (.func (.yield l) #[] #[]) X tb) w (fun r w' => ∃ z s2 ds,r = .tuple #[]/\F z=F z0++ds/\qa n s s2 ds now/\fZ (Ef (T z0) X sb tb now n hb s) w w' (Ef (T z) X sb tb now n hb s2)):=by
 refine en Tryz.func104 Tryz.ntmps104 ?_
 have af:=Own.of hO
 have ae:=(yy af (i:=4) rfl:s.ok n)
 refine s9 af 1 ?_
 refine lp (α:=γ×QS) (fun(z,t)=>[(0,(.func (.yield l) #[] #[])),(1,(Zb X)),(2,(Zb tb))]) (fun(z,t) w1=>St [(w,(Ef (T z0) X sb tb now n hb s).gJ)] [(T z),blk X 80 (Zi sb),blk tb 2 (Ze now),blk sb 211 (xQ n hb),(QS.R hb n t)] w1/\∃ ds,uw s.fP t.fP ds now/\F z=F z0++ds) (fun(z,t)=>t.fP.length) (z0,s) ⟨rfl,rfl,rfl,trivial⟩ (⟨af,[],uw.start _ _,by rw[vH]⟩) ?_
 rintro⟨z,t⟩ D c ⟨Y,ds,hI,aa⟩
 have ad:=(yy Y (i:=4) rfl:t.ok n)
 obtain⟨k,E⟩:∃ q,xx t.fP.length=q:=⟨_,rfl⟩
 refine fR Y 7 ?_
 rcases k with W|W
 . skip
   refine cl AD (Sd hb n t c (ye Y 4 rfl) W) ?_
   rintro _ G ⟨rfl,Z⟩
   have d:=yk 4 Y Z
   refine fK d 3 ?_
   refine iR d (fun H I J K m=>?_)
   refine j7 m 23 fun M o=>?_
   refine Bb Tryz.results104 ?_
   have p:=yg [1,2,3,4,5,0] o
   have ab:=hI.fin ae ad (Or.inl W)
   exact⟨z,t,ds,rfl,aa,ab,yo (yc [_,_,_,_,_] _ p)⟩
 . skip
   refine cl AD (Se hb n t c (ye Y 4 rfl) W) ?_
   rintro _ N ⟨rfl,Z⟩
   have e:=yk 4 Y Z
   refine fK e 3 ?_
   refine iR e (fun O P Q S u=>?_)
   refine gO u 13 fun x a=>?_
   by_cases f:((fJ t.fP 0).key:Int)>(now:Int)
   . have ac:now<(fJ t.fP 0).key:=by have h7:=@f;omega
     refine fQ a 10 ?_
     refine Bb Tryz.results104 ?_
     have y:=yg [1,2,3,4,5,0] a
     have ab:=hI.fin ae ad (Or.inr ac)
     exact⟨z,t,ds,rfl,aa,ab,yo (yc [_,_,_,_,_] _ y)⟩
   . have ac:(fJ t.fP 0).key<=now:=by have h7:=@f;omega
     refine fK a 13 ?_
     refine cl O5 (Sg hb n t x (ye a 5 rfl) W) ?_
     rintro _ U ⟨g,rfl,b,Z⟩
     have h:=yk 5 a Z
     have A:=yg [1,2,3,4,5,0] h
     have ah:=ad.lt (qV.2 ⟨0,W,rfl⟩)
     have ag:(F z).length<=65536:=by have h7:=hI.len;have h8:=ae.hp.len;rw[aa,zw,ai];omega
     refine fK h 7 ?_
     refine yl (vl:=(Ze ((fJ t.fP 0).ix:Int))) rfl rfl rfl (hy z (fJ t.fP 0).ix _ _ _ ah ag A) ?_
     rintro _ V ⟨rfl,B,aj,j⟩
     refine fQ j 6 ?_
     refine tN (?_)
     have C:=yg [0,1,2,3,4] j
     exact again (B,g) ⟨rfl,rfl,rfl,trivial⟩ (⟨C,(ds++[(fJ t.fP 0).ix]),hI.step W ac b.1 b.2,by rw[aj,aa,nu]⟩) (by have h7:=b.2;show g.fP.length<t.fP.length;omega)
theorem abX(ds:List Nat)(i:Nat):gB (ds++[i])=gB ds++[(i:Int)]:=by simp[gB]
theorem ael(sb hb n:Nat)(s:QS)(w:World)(hO:Own (QS.SR sb hb n s) w)(now:Int)(hn:n<=65536) :
 CR ya 38 (Zm sb now) w (fun r w' => ∃ v ds t,r=v/\qa n s t ds now/\fZ (QS.SR sb hb n s) w w' (gq [(QS.SR sb hb n t),ir .i64 v 3 (gB ds)])):=by
 refine EX (vs:=(tD sb now)) Tryz.func38 rfl Tryz.ntmps38 rfl ?_
 have aa:=Own.of hO
 have aq:=(yy aa (i:=1) rfl:s.ok n)
 have f:=yc [_,_] _ aa
 refine fR aa 9 ?_
 refine cl Cr (Dh sb hb n s w (ye f 0 rfl)) ?_
 rintro _ M ⟨rfl,ht⟩
 have u:=yk 0 f ht
 have g:=yz u
 refine fK g 8 ?_
 refine iR g (fun a x N O h=>?_)
 refine fK h 7 ?_
 refine cl X9 (Wy sb now x) ?_
 rintro _ y ⟨b,c,rfl,ht⟩
 have j:=yz (ki h ht)
 have A:St _ [ir .i64 Zg 3 ([]),blk b 80 (Zi sb),blk c 2 (Ze now),blk a 65 qm,blk sb 211 (xQ n hb),(QS.R hb n s)] y:=rA j 3 1
 have B:=yg [3,0,1,2,4,5] A
 have C:=B
 have D:=C
 refine gH j 3 ?_
 refine rf (α:=Value×List Nat×QS) (ps:=[13]) (fi:=[]) (ca:=(qI b c)) (fun(v,ds,t)=>[blk a 65 [v],ir .i64 v 3 (gB ds),blk b 80 (Zi sb),blk c 2 (Ze now),blk sb 211 (xQ n hb),(QS.R hb n t)]) (fun(v,ds,t)=>qa n s t ds now) D rfl WI ?_ ?_
 . intro fn dd l wl rc T an
   have E:=yg [0,2,3,4,5,6,7,1] an
   have ah:=yc [jr l rc,blk a 65 qm,ir .i64 Zg 3 (gB ([]))] [blk b 80 (Zi sb),blk c 2 (Ze now),blk sb 211 (xQ n hb),(QS.R hb n s),ku dd (some [])] E
   have ac:rc.state = .ready:=by rw[T]
   have aj:rc.pending=none:=by rw[T]
   have ak:∀ (z:Value×List Nat) (i:Nat) (bs:List (World×List Nat)) (L:List fS) (w:World),i<n->((Prod.snd:Value×List Nat->List Nat) z).length<=65536->St bs ((fun((v,ds):Value×List Nat)=>gq [jr l rc,blk a 65 [v],ir .i64 v 3 (gB ds)]) z :: L) w->YR ya l (Ze i) w (fun v w' => v = .bool true/\∃ z2,(Prod.snd:Value×List Nat->List Nat) z2=(Prod.snd:Value×List Nat->List Nat) z++[i]/\St bs ((fun((v,ds):Value×List Nat)=>gq [jr l rc,blk a 65 [v],ir .i64 v 3 (gB ds)]) z2 :: L) w'):=by
    intro z i bs LT wr hi ap F
    have F:=F.unpack
    refine Db (vl:=(Ze i)) 0 T F rfl rfl rfl (iS F 3 ?_)
    refine tN (?_)
    refine Ew 0 F rfl ac rfl (fun P m=>fR m 4 ?_)
    refine kj (vs:=(Ze i)) (cs:=(Ze i)) rfl rfl yd gy rfl (by simp[Value.cells]) rfl rfl rfl m (fun G Q S U o=>vU (k:=.i64) (ys:=gB z.2) (zs:=[(i:Int)]) (LL:=fun d=>(ir .i64 (Z6 G) 3 ([(i:Int)]) :: jr l { rc with state:=.busy } :: blk a 65 [z.1] :: ir .i64 d 3 ((gB z.2)++([(i:Int)])) :: LT)) 3 rfl rfl rfl yd gy rfl o rfl (l7 o (i:=0) rfl) (by simp only[gB,zq,zh,zn,maxLen];first|omega|skip) (by simp only[gB,zq,zh,zn,maxLen];first|omega|skip) f_ ?_)
    intro d V H W
    have e:=St.sub (L' := (jr l { rc with state:=.busy } :: blk a 65 [z.1] :: ir .i64 d 3 ((gB z.2)++([(i:Int)])) :: LT)) H (List.Sublist.cons _ (List.Sublist.refl _))
    refine j8 1 e (fun X p=>?_) (hvs:=(cells_one (yu e (i:=2) rfl))) (h1:=(ic (yu e (i:=2) rfl) lB))
    refine fQ p 2 ?_
    refine EH 0 p rfl ac aj rfl ?_
    intro Y I
    have ad:=I
    rw[<-abX]at ad
    exact⟨_,rfl,rfl,(d,z.2++[i]),rfl,yc [_,_,_] _ ad⟩
   have ab:=yc [_,_,_,_,_] _ ah
   refine CR.mono (Wx (fun((v,ds):Value×List Nat)=>gq [jr l rc,blk a 65 [v],ir .i64 v 3 (gB ds)]) Prod.snd (.slice none 0 0,[]) l b c sb hb n s now wl ak rfl hn (ye ab 0 rfl)) ?_
   rintro _ w9 ⟨z,t,ds,-,ai,ae,ao⟩
   have am:=(ym ab ao).unpack
   have J:=yg [0,7,1,2,3,4,5,6] am
   exact⟨(z.1,z.2,t),by rw[show z.2=ds by simpa using ai];exact ae,J⟩
 . rintro⟨v,ds,t⟩ dd Z hC q
   refine uZ tt none q 9 ?_
   refine CI 0 q rfl rfl ?_
   intro w8 al
   have K:=yg [5,6,2,0,1,3,4] al
   have ag:=yc [_,_] _ K
   have af:St _ (gq [(QS.SR sb hb n t),ir .i64 v 3 (gB ds)] :: _) _:=yc [_,_] _ ag
   have hT:fZ (QS.SR sb hb n s) w _ (gq [(QS.SR sb hb n t),ir .i64 v 3 (gB ds)]):=yo af
   exact⟨_,results_tmp Tryz.results38 _ _ _,_,rfl,by rw[sS];exact⟨v,ds,t,rfl,hC,hT⟩⟩
theorem aej(sb hb n:Nat)(s:QS)(w:World)(C:Own (QS.SR sb hb n s) w) :
 CR ya 78 (Zh sb) w (fun r w' => ∃ z D s2,r = .pointer (some ⟨z,0,none⟩)/\s2.fP=s.fP/\fZ (QS.SR sb hb n s) w w' (gq [(QS.SR sb hb n s),(QS.SR z D n s2)])):=by
 refine en Tryz.func78 Tryz.ntmps78 ?_
 have x:=Own.of C
 have F:=(yy x (i:=1) rfl:s.ok n)
 have b:=yc [_,_] _ x
 refine fR x 9 ?_
 refine cl Cr (Dh sb hb n s w (ye b 0 rfl)) ?_
 rintro _ m ⟨rfl,y⟩
 have g:=yk 0 b y
 have c:=yz g
 refine gH c 7 ?_
 refine kO mixed [([0,1,2,3,4,5,6,7,8],[3])] [9,10,11] c (fun h a=>jR ?_)
 refine fK a 8 ?_
 refine cl WT (ads hb n s h (ye a 1 rfl)) ?_
 rintro _ o ⟨u,E,rfl,j,y⟩
 have k:=yg [1,0] a
 have d:=yz (yk 0 k y)
 refine fQ d 1 ?_
 refine kJ (kU ?_)
 refine ji (pvs:=[(0,(Za n)),(1,(Zb u))]) (v:=.agg (BV n u)) rfl rfl (jA [(0,(Ze n)),(1,(Zi u))] Lj RP rfl ⟨rfl,rfl,rfl,rfl,trivial⟩ rfl) (iF d (fun e p q t f=>?_))
 refine fQ f 4 ?_
 refine gp (v:=(Zb e)) Tryz.results78 rfl ?_
 have l:=yg [3,1,0,2] f
 exact⟨e,u,E,rfl,j,(fZ.E4 (A:=[_,_]) (B:=[_,_]) (yo (yc [_,_,_,_] _ l)))⟩
end
section
open Go Go.Sx
def GI.R(fN fL ob:Nat)(s:GW)(A:Nat->Nat->Prop)(key:Nat->Int):fS:=kE (s.ok fN fL) (gq [blk ob 132 (Ag fN fL s (some s.mb)),(jN s.fb s.nb (fL+fN+1) A key),(QS.R s.hb fL s.q),gY s.mb .i64 Ed.enc s.m])
theorem E7(fN fL ob:Nat)(s:GW)(A:Nat->Nat->Prop)(key:Nat->Int)(w:World)(d:Own (GI.R fN fL ob s A key) w) :
 CR ya 59 (Zh ob) w (fun r w' => r = .bool true/\fZ (GI.R fN fL ob s A key) w w' (GI.R fN fL ob s A key)):=by
 refine en Tryz.func59 Tryz.ntmps59 ?_
 have b:=Own.of d.un
 have e:s.ok fN fL:=d.fact
 refine fR b 8 ?_
 refine nh (a:=some ⟨ob,0,none⟩) (c:=true) rfl rfl rfl Tryz.underlying81 rfl (fK b 5 ?_)
 refine Re (a:=some s.mb) (c:=true) rfl rfl rfl sD rfl (fQ b 5 ?_)
 refine gp (v:=Zf) Tryz.results59 rfl ?_
 exact⟨rfl,yj (yp (p:=GW.ok fN fL s) (yc [_,_,_,_] _ b) e) ze⟩
theorem I7(fN fL ob:Nat)(s:GW)(A:Nat->Nat->Prop)(key:Nat->Int)(w:World)(e:Own (GI.R fN fL ob s A key) w)(v:Nat)(hv:v<fN) :
 CR ya 51 (Zm ob v) w (fun r w' => r = .bool true/\fZ (GI.R fN fL ob s A key) w w' (GI.R fN fL ob s A key)):=by
 have k:=e.fact.vn
 have j:=e.fact.v2
 have i:=e.fact.en
 refine en Tryz.func51 Tryz.ntmps51 ?_
 have g:=Own.of e.un
 have f:s.ok fN fL:=e.fact
 have b:=yp (p:=GW.ok fN fL s) (yc [_,_,_,_] _ g) f
 refine fR g 8 ?_
 refine cl EU (E7 fN fL ob s A key w (ye b 0 rfl)) ?_
 rintro _ d ⟨rfl,h⟩
 have c:=yk 0 b h
 have a:=(jP c).unpack
 refine fK a 2 ?_
 refine cmp rfl rfl rfl (nY o_) (fK a 7 ?_)
 refine cmp rfl rfl rfl (qo o_) (fQ a 5 ?_)
 refine gp (v:=Zf) Tryz.results51 rfl ?_
 exact⟨rfl,yj (yp (p:=GW.ok fN fL s) (yc [_,_,_,_] _ a) f) ze⟩
theorem I6(fN fL ob:Nat)(s:GW)(A:Nat->Nat->Prop)(key:Nat->Int)(w:World)(F:Own (GI.R fN fL ob s A key) w)(k:Nat)(hk:k<fL)(W:∀ i,¬ A k i/\¬ A i k)(Z:¬ Cn A (fL+(fT s.m (k:Int)).a) (fL+(fT s.m (k:Int)).b)) :
 CR ya 126 (Zm ob k) w (fun r w' => ∃ s2:GW,r = .tuple #[]/\(s2.q=s.q/\s2.m=gx s.m (k:Int) (⟨(fT s.m (k:Int)).a,(fT s.m (k:Int)).b,(fT s.m (k:Int)).exp,true⟩:Ed)/\s2.trees=IntKind.i64.wrap (s.trees+1))/\fZ (GI.R fN fL ob s A key) w w' (GI.R fN fL ob s2 (fun i j=>A i j\/nK fL k (fT s.m (k:Int)) i j) (fun x=>if x=k then(fT s.m (k:Int)).exp else key x))):=by
 have ae:=F.fact.vn
 have ad:=F.fact.v2
 have aa:=F.fact.en
 have T:=F.fact.get (k:Int)
 have ab:=T.a
 have ac:=T.b
 refine en Tryz.func126 Tryz.ntmps126 ?_
 have V:=Own.of F.un
 have Y:s.ok fN fL:=F.fact
 refine fR V 7 ?_
 refine qT (a:=(k:Int)) (mm:=s.m) (enc:=Ed.enc) (k:=.i64) 3 rfl rfl rfl sD yf zB rfl V rfl (iR V (fun l H I J n=>?_))
 refine gO n 13 fun o f=>?_
 refine cl Og (Nu s.fb s.nb (fL+fN+1) A key o (ye f 2 rfl) o_ k o_ ((fT s.m (k:Int)).exp) T.exp) ?_
 rintro _ K ⟨rfl,U⟩
 have t:=yk 2 f U
 refine gO t 16 fun u g=>?_
 refine ar (e:=(((fL+(fT s.m (k:Int)).a):Nat):Int)) rfl rfl rfl rfl i7 (cl OH (Nr s.fb s.nb (fL+fN+1) A (fun x=>if x=k then(fT s.m (k:Int)).exp else key x) u (ye g 2 rfl) o_ k (fL+(fT s.m (k:Int)).a) o_ o_ (fun X=>by have h8:=aac W X;omega)) ?_)
 rintro _ L ⟨M,rfl,U⟩
 have v:=yk 2 g U
 refine gO v 16 fun y h=>?_
 refine ar (e:=(((fL+(fT s.m (k:Int)).b):Nat):Int)) rfl rfl rfl rfl i7 (cl OH (Nr s.fb s.nb (fL+fN+1) (fun i j=>A i j\/(i=k/\j=fL+(fT s.m (k:Int)).a)\/(i=fL+(fT s.m (k:Int)).a/\j=k)) (fun x=>if x=k then(fT s.m (k:Int)).exp else key x) y (ye h 2 rfl) o_ k (fL+(fT s.m (k:Int)).b) o_ o_ (aad W Z o_)) ?_)
 rintro _ N ⟨O,rfl,U⟩
 have z:=yk 2 h U
 refine gO z 16 fun P B=>?_
 refine qX (a:=(k:Int)) (c:=(D1 s k)) (mm:=s.m) (enc:=Ed.enc) (k:=.i64) (L' := [blk l 165 [(Za ((fT s.m (k:Int)).a:Int)),(Za ((fT s.m (k:Int)).b:Int)),(Za ((fT s.m (k:Int)).exp)),Zf],blk ob 132 (Ag fN fL s (some s.mb)),(jN s.fb s.nb (fL+fN+1) (fun i j=>(fun i j=>A i j\/(i=k/\j=fL+(fT s.m (k:Int)).a)\/(i=fL+(fT s.m (k:Int)).a/\j=k)) i j\/(i=k/\j=fL+(fT s.m (k:Int)).b)\/(i=fL+(fT s.m (k:Int)).b/\j=k)) (fun x=>if x=k then(fT s.m (k:Int)).exp else key x)),(QS.R s.hb fL s.q),gY s.mb .i64 Ed.enc (gx s.m (k:Int) (D1 s k))]) 4 rfl rfl rfl rfl sD yf B rfl rfl (fun Q d=>fQ d 1 ?_)
 refine Ko tt none d 6 ?_
 refine ar (e:=(HQ s)) rfl rfl rfl rfl rfl (j7 d 4 fun S C=>?_)
 refine iZ Tryz.results126 ?_
 have D:=yg [2,0,1,3,4] C
 have E:=CH D (fun i j=>abY _ i j) f_
 have G:=yg [2,0,3,4,1] E
 exact⟨(⟨s.fb,s.nb,s.hb,s.mb,(HQ s),s.q,(gx s.m (k:Int) (D1 s k))⟩:GW),rfl,⟨rfl,rfl,rfl⟩,yj (yp (p:=GW.ok fN fL (⟨s.fb,s.nb,s.hb,s.mb,(HQ s),s.q,(gx s.m (k:Int) (D1 s k))⟩:GW)) (yc [_,_,_,_] _ G) (Y.put (by exact⟨T.a,T.b,T.exp⟩))) ze⟩
theorem I9(fN fL ob:Nat)(s:GW)(A:Nat->Nat->Prop)(key:Nat->Int)(w:World)(F:Own (GI.R fN fL ob s A key) w)(k:Nat)(hk:k<fL)(Y:∀ i j,A i j->A j i)(W:A k (fL+(fT s.m (k:Int)).a))(T:A k (fL+(fT s.m (k:Int)).b))(Z:(fT s.m (k:Int)).a≠(fT s.m (k:Int)).b) :
 CR ya 69 (Zm ob k) w (fun r w' => ∃ s2:GW,r = .tuple #[]/\(s2.q=s.q/\s2.m=gx s.m (k:Int) (⟨(fT s.m (k:Int)).a,(fT s.m (k:Int)).b,(fT s.m (k:Int)).exp,false⟩:Ed)/\¬ Cn (fun i j=>A i j/\¬ nK fL k (fT s.m (k:Int)) i j) (fL+(fT s.m (k:Int)).a) (fL+(fT s.m (k:Int)).b)/\s2.trees=IntKind.i64.wrap (s.trees-1))/\fZ (GI.R fN fL ob s A key) w w' (GI.R fN fL ob s2 (fun i j=>A i j/\¬ nK fL k (fT s.m (k:Int)) i j) key)):=by
 have ae:=F.fact.vn
 have ad:=F.fact.v2
 have aa:=F.fact.en
 have P:=F.fact.get (k:Int)
 have ab:=P.a
 have ac:=P.b
 refine en Tryz.func69 Tryz.ntmps69 ?_
 have Q:=Own.of F.un
 have X:s.ok fN fL:=F.fact
 refine fR Q 7 ?_
 refine qT (a:=(k:Int)) (mm:=s.m) (enc:=Ed.enc) (k:=.i64) 3 rfl rfl rfl sD yf zB rfl Q rfl (iR Q (fun h D E G l=>?_))
 refine gO l 17 fun n f=>?_
 refine ar (e:=(((fL+(fT s.m (k:Int)).a):Nat):Int)) rfl rfl rfl rfl i7 (cl Oh (Nj s.fb s.nb (fL+fN+1) A key n (ye f 2 rfl) o_ k (fL+(fT s.m (k:Int)).a) o_ o_ W) ?_)
 rintro _ H ⟨I,rfl,o,S⟩
 have t:=yk 2 f S
 refine gO t 16 fun u g=>?_
 refine ar (e:=(((fL+(fT s.m (k:Int)).b):Nat):Int)) rfl rfl rfl rfl i7 (cl Oh (Nj s.fb s.nb (fL+fN+1) (fun i j=>A i j/\¬ ((i=k/\j=fL+(fT s.m (k:Int)).a)\/(i=fL+(fT s.m (k:Int)).a/\j=k))) key u (ye g 2 rfl) o_ k (fL+(fT s.m (k:Int)).b) o_ o_ ⟨T,o_⟩) ?_)
 rintro _ J ⟨K,rfl,L,S⟩
 have v:=yk 2 g S
 refine gO v 16 fun M x=>?_
 refine qX (a:=(k:Int)) (c:=(D0 s k)) (mm:=s.m) (enc:=Ed.enc) (k:=.i64) (L' := [blk h 165 [(Za ((fT s.m (k:Int)).a:Int)),(Za ((fT s.m (k:Int)).b:Int)),(Za ((fT s.m (k:Int)).exp)),Zn],blk ob 132 (Ag fN fL s (some s.mb)),(jN s.fb s.nb (fL+fN+1) (fun i j=>(fun i j=>A i j/\¬ ((i=k/\j=fL+(fT s.m (k:Int)).a)\/(i=fL+(fT s.m (k:Int)).a/\j=k))) i j/\¬ ((i=k/\j=fL+(fT s.m (k:Int)).b)\/(i=fL+(fT s.m (k:Int)).b/\j=k))) key),(QS.R s.hb fL s.q),gY s.mb .i64 Ed.enc (gx s.m (k:Int) (D0 s k))]) 4 rfl rfl rfl rfl sD yf x rfl rfl (fun N d=>fQ d 1 ?_)
 refine Ko tt none d 6 ?_
 refine ar (e:=(HR s)) rfl rfl rfl rfl rfl (j7 d 4 fun O y=>?_)
 refine iZ Tryz.results69 ?_
 have z:=yg [2,0,1,3,4] y
 have B:=CH z (fun i j=>Ra _ i j) f_
 have C:=yg [2,0,3,4,1] B
 exact⟨(⟨s.fb,s.nb,s.hb,s.mb,(HR s),s.q,(gx s.m (k:Int) (D0 s k))⟩:GW),rfl,⟨rfl,rfl,fun V=>Wh Y T o_ o_ o (V.mono fun i j U=>(Ra _ i j).2 U),rfl⟩,yj (yp (p:=GW.ok fN fL (⟨s.fb,s.nb,s.hb,s.mb,(HR s),s.q,(gx s.m (k:Int) (D0 s k))⟩:GW)) (yc [_,_,_,_] _ C) (X.put (by exact⟨P.a,P.b,P.exp⟩))) ze⟩
end
section
open Go Go.Sx
theorem adv(hb n:Nat)(s:QS)(w:World)(c:Own (QS.R hb n s) w) :
 CR ya 68 (Zh hb) w (fun r w' => ∃ (i:Nat) (k:Int) (b:Bool) (s2:QS),r = .tuple #[.agg (Zz i k),.bool b]/\((b=false/\s.fP=[]/\s2.fP=[])\/(b=true/\i<n/\(⟨i,k⟩:gG)∈s.fP/\(∀ e,e∈s2.fP↔e∈s.fP/\e.ix≠i)/\∀ e∈s.fP,¬ iC e ⟨i,k⟩))/\fZ (QS.R hb n s) w w' (QS.R hb n s2)):=by
 rcases xx s.fP.length with a|a
 . exact CR.mono (adu hb n s w c a) fun r w' ⟨d,f⟩=>⟨0,0,false,s,d,.inl ⟨rfl,Bz.1 a,Bz.1 a⟩,f⟩
 . exact CR.mono (Sg hb n s w c a) fun r w' ⟨s2,d,g,f⟩=>⟨_,_,true,s2,d,.inr ⟨rfl,c.fact.hp.ix 0 a,qV.2 ⟨0,a,rfl⟩,g.1,fun e h=>c.fact.ord.min h⟩,f⟩
theorem Y9(fN fL ob:Nat)(s:GW)(A:Nat->Nat->Prop)(key:Nat->Int)(w:World)(hO:Own (GI.R fN fL ob s A key) w)(hF:iB fN fL (gF s.m) A key)(hq:s.qd)(ai:kq s.m s.trees) :
 CR ya 39 (Zh ob) w (fun r w' => ∃ (s2:GW) (A2:Nat->Nat->Prop) (i:Nat) (b:Bool),r = .tuple (Z7 i b)/\((iB fN fL (gF s2.m) A2 key/\s2.qd/\kq s2.m s2.trees)/\((b=false/\s.q.fP=[]/\gF s2.m=gF s.m)\/(b=true/\(∃ o,gF s.m i=some o/\∀ j e,gF s.m j=some e->j=i\/o.exp<e.exp\/(o.exp=e.exp/\i<j))/\gF s2.m=(gF s.m).set i none)))/\fZ (GI.R fN fL ob s A key) w w' (GI.R fN fL ob s2 A2 key)):=by
 have aC:=hO.fact.vn
 have aB:=hO.fact.v2
 have aA:=hO.fact.en
 refine en Tryz.func39 Tryz.ntmps39 ?_
 have ao:=Own.of hO.un
 have hG:s.ok fN fL:=hO.fact
 have u:=yp (p:=GW.ok fN fL s) (yc [_,_,_,_] _ ao) hG
 refine fR ao 10 ?_
 refine cl EU (E7 fN fL ob s A key w (ye u 0 rfl)) ?_
 rintro _ I ⟨rfl,ht⟩
 have J:=yk 0 u ht
 have l:=(jP J).unpack
 refine fK l 12 ?_
 refine cl O5 (adv s.hb fL s.q I (ye l 2 rfl)) ?_
 rintro _ W ⟨d,y,K,f,rfl,n,ht⟩
 have z:=yk 2 l ht
 refine fK z 3 ?_
 refine iR z (fun B X Y Z L=>?_)
 refine wX L 11 fun aa t=>?_
 cases C:(K:Bool)
 . skip
   subst C
   refine iS t 9 ?_
   refine iH (v:=Zc) (v' := Zn) Tryz.results39 rfl rfl ?_
   have M:=yg [1,2,3,4,0] t
   obtain⟨_,an,ay⟩:=n.resolve_right (fun h9=>(by cases h9.1))
   exact⟨(⟨s.fb,s.nb,s.hb,s.mb,s.trees,f,s.m⟩:GW),A,0,false,rfl,⟨⟨hF,fun x=>(by show x∈f.fP↔_;rw[ay,<-an];exact hq x),ai⟩,.inl ⟨rfl,an,rfl⟩⟩,yj (yp (p:=GW.ok fN fL (⟨s.fb,s.nb,s.hb,s.mb,s.trees,f,s.m⟩:GW)) (yc [_,_,_,_] _ M) hG.same) ze⟩
 . skip
   subst C
   refine q7 t 12 fun N g=>?_
   refine qT (a:=(d:Int)) (mm:=s.m) (enc:=Ed.enc) (k:=.i64) 4 rfl rfl rfl sD yf zB rfl g rfl (PE (cs:=#[(Za ((fT s.m (d:Int)).a:Int)),(Za ((fT s.m (d:Int)).b:Int)),(Za ((fT s.m (d:Int)).exp)),(.bool ((fT s.m (d:Int)).tree))]) (v:=(.bool ((fT s.m (d:Int)).tree))) rfl rfl Tryz.underlying165 rfl nr rfl rfl (gH g 2 ?_))
   cases ab:((fT s.m (d:Int)).tree:Bool)
   . skip
     refine q7 g 11 fun ac O=>?_
     refine Cj (a:=(d:Int)) (mm:=s.m) (enc:=Ed.enc) (k:=.i64) (L' := [blk B 161 (Zp d y),blk ob 132 (Ag fN fL s (some s.mb)),(jN s.fb s.nb (fL+fN+1) A key),(QS.R s.hb fL f),gY s.mb .i64 Ed.enc (iJ s.m (d:Int))]) 4 rfl rfl rfl sD yf O rfl rfl (fun ad D=>fQ D 11 ?_)
     refine iH (v:=(Za d)) (v' := Zf) Tryz.results39 rfl rfl ?_
     have P:=yg [1,2,3,4,0] D
     obtain⟨ap,az,ak,al,am⟩:=n.resolve_left (fun h9=>(by cases h9.1))
     obtain⟨o9,F,ax,ah⟩:=GW.Sb (s:=s) hq ak am
     have aj:=xE F
     have T:gF (iJ s.m (d:Int))=(gF s.m).set d none:=L8 ai.1
     subst aj
     exact⟨(⟨s.fb,s.nb,s.hb,s.mb,s.trees,f,(iJ s.m (d:Int))⟩:GW),A,d,true,rfl,⟨⟨(by rw[show gF ((⟨s.fb,s.nb,s.hb,s.mb,s.trees,f,(iJ s.m (d:Int))⟩:GW):GW).m=_ from T];exact hF.ac9 F ah (by first|assumption|simp_all)),GW.Sc (s:=s) hq T al,ai.del F (by first|assumption|simp_all)⟩,.inr ⟨rfl,⟨_,F,ah⟩,T⟩⟩,yj (yp (p:=GW.ok fN fL (⟨s.fb,s.nb,s.hb,s.mb,s.trees,f,(iJ s.m (d:Int))⟩:GW)) (yc [_,_,_,_] _ P) hG.del) ze⟩
   . skip
     obtain⟨ap,az,ak,al,am⟩:=n.resolve_left (fun h9=>(by cases h9.1))
     obtain⟨o9,F,ax,ah⟩:=GW.Sb (s:=s) hq ak am
     have aj:=xE F
     obtain⟨aq,ar,au,av⟩:=hF.own F (by first|assumption|simp_all)
     have Q:=yg [1,2,3,4,0] g
     have E:=yp (p:=GW.ok fN fL (⟨s.fb,s.nb,s.hb,s.mb,s.trees,f,s.m⟩:GW)) (yc [_,_,_,_] _ Q) hG.same
     refine fR g 5 ?_
     refine cl IU (I9 fN fL ob (⟨s.fb,s.nb,s.hb,s.mb,s.trees,f,s.m⟩:GW) A key N (ye E 0 rfl) d aq (fun i j=>hF.uc) ar au av) ?_
     rintro _ ae ⟨c,rfl,h,ht⟩
     have G:=yk 0 E ht
     have S:GW.ok fN fL c:=sG G
     have U:=(jP G).unpack
     refine gO U 10 fun af V=>?_
     refine Cj (a:=(d:Int)) (mm:=c.m) (enc:=Ed.enc) (k:=.i64) (L' := [blk ob 132 (Ag fN fL c (some c.mb)),(jN c.fb c.nb (fL+fN+1) (r0 fL A d (fT s.m (d:Int))) key),(QS.R c.hb fL c.q),gY c.mb .i64 Ed.enc (iJ c.m (d:Int)),blk B 161 (Zp d y)]) 3 rfl rfl rfl sD yf V rfl rfl (fun ag H=>fQ H 11 ?_)
     refine iH (v:=(Za d)) (v' := Zf) Tryz.results39 rfl rfl ?_
     have aw:(c.m.map Prod.fst).Nodup:=by rw[h.2.1];exact wL ai.1 _ _
     have T:gF (iJ c.m (d:Int))=(gF s.m).set d none:=by rw[L8 aw,h.2.1,oE,EM.set_set]
     subst aj
     exact⟨(⟨c.fb,c.nb,c.hb,c.mb,c.trees,c.q,(iJ c.m (d:Int))⟩:GW),(r0 fL A d (fT s.m (d:Int))),d,true,rfl,⟨⟨(by rw[show gF ((⟨c.fb,c.nb,c.hb,c.mb,c.trees,c.q,(iJ c.m (d:Int))⟩:GW):GW).m=_ from T];exact hF.ada F ah (by first|assumption|simp_all)),GW.Sc (s:=s) hq T (by rw[show ((⟨c.fb,c.nb,c.hb,c.mb,c.trees,c.q,(iJ c.m (d:Int))⟩:GW):GW).q=_ from h.1];exact al),(by show kq (iJ c.m (d:Int)) c.trees;rw[h.2.1,h.2.2.2];exact ai.pop F (by first|assumption|simp_all) rfl)⟩,.inr ⟨rfl,⟨_,F,ah⟩,T⟩⟩,yj (yp (p:=GW.ok fN fL (⟨c.fb,c.nb,c.hb,c.mb,c.trees,c.q,(iJ c.m (d:Int))⟩:GW)) (yc [_,_,_,_] _ H) S.del) ze⟩
theorem Y7(fN fL ob:Nat)(s:GW)(A:Nat->Nat->Prop)(key:Nat->Int)(w:World)(hO:Own (GI.R fN fL ob s A key) w)(k a b:Nat)(exp:Int)(hk:k<fL)(ha:a<fN)(hb:b<fN)(hx:gZ .i64 exp)(a5:a≠b)(F:gF s.m k=none)(hF:iB fN fL (gF s.m) A key)(hq:s.qd)(bc:kq s.m s.trees) :
 CR ya 82 (MA ob k a b exp) w (fun r w' => ∃ (s2:GW) (A2:Nat->Nat->Prop) (key2:Nat->Int),r = .int .i64 0/\((iB fN fL (gF s2.m) A2 key2/\s2.qd/\kq s2.m s2.trees)/\xF s.m s2.m k (some (a,b,exp)))/\fZ (GI.R fN fL ob s A key) w w' (GI.R fN fL ob s2 A2 key2)):=by
 have bn:=hO.fact.vn
 have bm:=hO.fact.v2
 have bl:=hO.fact.en
 have bi:∀ e∈s.q.fP,e.ix≠k:=fun e he h9=>by obtain⟨o,h7,_⟩:=(hq e).1 he;rw[h9,F]at h7;cases h7
 have bk:exp<=sY:=hx.2
 have hl:=And.intro hk (And.intro ha (And.intro hb (And.intro a5 bk)))
 refine en Tryz.func82 Tryz.ntmps82 ?_
 have bh:=Own.of hO.un
 have hG:s.ok fN fL:=hO.fact
 have L:=yp (p:=GW.ok fN fL s) (yc [_,_,_,_] _ bh) hG
 refine fR bh 9 ?_
 refine cl EU (E7 fN fL ob s A key w (ye L 0 rfl)) ?_
 rintro _ aj ⟨rfl,T⟩
 have ak:=yk 0 L T
 have B:=(jP ak).unpack
 refine fK B 10 ?_
 refine cmp rfl rfl rfl (lC o_) (fK B 6 ?_)
 refine cmp rfl rfl rfl (oG o_) ?_
 have M:=yp (p:=GW.ok fN fL s) (yc [_,_,_,_] _ B) hG
 refine fK B 4 ?_
 refine cl IP (I7 fN fL ob s A key aj (ye M 0 rfl) a o_) ?_
 rintro _ al ⟨rfl,T⟩
 have am:=yk 0 M T
 have N:=(jP am).unpack
 have O:=yp (p:=GW.ok fN fL s) (yc [_,_,_,_] _ N) hG
 refine fK N 5 ?_
 refine cl IP (I7 fN fL ob s A key al (ye O 0 rfl) b o_) ?_
 rintro _ aL ⟨rfl,T⟩
 have an:=yk 0 O T
 have t:=(jP an).unpack
 refine fK t 12 ?_
 refine cmp rfl rfl rfl (uH o_) (fK t 13 ?_)
 refine aaX (a:=(k:Int)) (mm:=s.m) (enc:=Ed.enc) (k:=.i64) 3 rfl rfl rfl sD yf zB rfl t rfl (fK t 3 ?_)
 refine iR t (fun ao aM aN aO ap=>?_)
 refine wX ap 9 fun aq C=>?_
 cases aP:((gV s.m (k:Int)).isSome:Bool)
 . skip
   refine fR C 11 ?_
   refine cl On (Sh s.hb fL s.q aq (ye C 3 rfl) k hk bi exp hx) ?_
   rintro _ aQ ⟨f,rfl,u,T⟩
   have P:=yk 3 C T
   refine fK P 12 ?_
   refine ji (pvs:=[(0,(Za a)),(1,(Za b)),(2,(Za exp))]) (v:=.agg #[(Za a),(Za b),(Za exp),Zn]) rfl rfl (jA [(0,(Ze a)),(1,(Ze b)),(2,(Ze exp))] zB acW rfl ⟨rfl,rfl,rfl,rfl,rfl,rfl,trivial⟩ rfl) (qX (a:=(k:Int)) (c:=(⟨a,b,exp,false⟩:Ed)) (mm:=s.m) (enc:=Ed.enc) (k:=.i64) (L' := [blk ao 165 [(Za ((fT s.m (k:Int)).a:Int)),(Za ((fT s.m (k:Int)).b:Int)),(Za ((fT s.m (k:Int)).exp)),(.bool ((fT s.m (k:Int)).tree))],blk ob 132 (Ag fN fL s (some s.mb)),(jN s.fb s.nb (fL+fN+1) A key),(QS.R s.hb fL f),gY s.mb .i64 Ed.enc (gx s.m (k:Int) (⟨a,b,exp,false⟩:Ed))]) 4 rfl rfl rfl rfl sD yf P rfl rfl (fun aR au=>gO au 15 fun av H=>?_))
   refine ar (e:=((fL+a:Nat):Int)) rfl rfl rfl rfl i7 (fK H 5 ?_)
   refine ar (e:=((fL+b:Nat):Int)) rfl rfl rfl rfl i7 (cl WX (UW s.fb s.nb (fL+fN+1) A key av (ye H 2 rfl) o_ (fL+a) (fL+b) o_ o_) ?_)
   rintro _ aw ⟨d,ax,rfl,x,T⟩
   have n:=yk 2 H T
   refine gH n 12 ?_
   cases Q:(ax:Bool)
   . skip
     subst Q
     have bj:fT (gx s.m (k:Int) (⟨a,b,exp,false⟩:Ed)) (k:Int)=(⟨a,b,exp,false⟩:Ed):=xE (by rw[oE,EM.kz])
     have bg:¬ Cn A (fL+a) (fL+b):=fun h9=>by have h8:=x.2.1.2 h9;cases h8
     have ay:=yg [1,2,3,4,0] n
     have S:=yp (p:=GW.ok fN fL (⟨s.fb,s.nb,s.hb,s.mb,s.trees,f,(gx s.m (k:Int) (⟨a,b,exp,false⟩:Ed))⟩:GW)) (yc [_,_,_,_] _ ay) (hG.put (by exact⟨ha,hb,hx⟩))
     refine fR n 7 ?_
     refine cl II (I6 fN fL ob (⟨s.fb,s.nb,s.hb,s.mb,s.trees,f,(gx s.m (k:Int) (⟨a,b,exp,false⟩:Ed))⟩:GW) A key aw (ye S 0 rfl) k hk (fun i=>hF.Jo F hk i) (by show ¬ Cn A (fL+(fT (gx s.m (k:Int) (⟨a,b,exp,false⟩:Ed)) (k:Int)).a) (fL+(fT (gx s.m (k:Int) (⟨a,b,exp,false⟩:Ed)) (k:Int)).b);rw[bj];exact bg)) ?_
     rintro _ aS ⟨I,rfl,D,T⟩
     have U:=yk 0 S T
     have az:GW.ok fN fL I:=sG U
     have V:=(jP U).unpack
     refine fQ V 8 ?_
     refine gp (v:=Zc) Bq rfl ?_
     obtain⟨a3,a2⟩:=hF.UP F hl bg (m1:=(gx s.m (k:Int) (⟨a,b,exp,false⟩:Ed))) rfl D.2.1
     exact⟨I,(CV fL A k (fT (gx s.m (k:Int) (⟨a,b,exp,false⟩:Ed)) (k:Int))),(CE key k (fT (gx s.m (k:Int) (⟨a,b,exp,false⟩:Ed)) (k:Int)).exp),rfl,⟨⟨a3,GW.C8 (s:=s) hq F a2 (by rw[D.1];exact u),by rw[D.2.1,D.2.2];exact(bc.put F rfl).Pv (o:=(⟨a,b,exp,false⟩:Ed)) (by rw[oE,EM.kz]) rfl rfl⟩,a2⟩,yj (yp (p:=GW.ok fN fL I) (yc [_,_,_,_] _ V) az) ze⟩
   . skip
     subst Q
     refine fR n 8 ?_
     refine qT (a:=(d:Int)) (mm:=(gx s.m (k:Int) (⟨a,b,exp,false⟩:Ed))) (enc:=Ed.enc) (k:=.i64) 4 rfl rfl rfl sD yf zB rfl n rfl (iR n (fun aT aU aV aW aA=>?_))
     refine gO aA 9 fun W g=>?_
     by_cases aX:((fT (gx s.m (k:Int) (⟨a,b,exp,false⟩:Ed)) (d:Int)).exp:Int)>(exp:Int)
     . refine fQ g 23 ?_
       refine gp (v:=Zc) Bq rfl ?_
       have aB:=yg [2,3,4,5,0,1] g
       obtain⟨q9,P9⟩:=x.2.2 rfl
       obtain⟨a6,a7,a4,a8,a9,ba,bb⟩:=hF.first F a5 P9 (m1:=(gx s.m (k:Int) (⟨a,b,exp,false⟩:Ed))) rfl
       obtain⟨a3,a2⟩:=hF.Nn F hl P9 (fun o ho=>by rw[a4]at ho;cases ho;unfold nH;omega) (m1:=(gx s.m (k:Int) (⟨a,b,exp,false⟩:Ed))) rfl
       exact⟨(⟨s.fb,s.nb,s.hb,s.mb,s.trees,f,(gx s.m (k:Int) (⟨a,b,exp,false⟩:Ed))⟩:GW),A,key,rfl,⟨⟨a3,GW.C8 (s:=s) hq F a2 u,bc.put F rfl⟩,a2⟩,yj (yp (p:=GW.ok fN fL (⟨s.fb,s.nb,s.hb,s.mb,s.trees,f,(gx s.m (k:Int) (⟨a,b,exp,false⟩:Ed))⟩:GW)) (yc [_,_,_,_] _ aB) (hG.put (by exact⟨ha,hb,hx⟩))) ze⟩
     . refine fK g 5 ?_
       by_cases aY:((fT (gx s.m (k:Int) (⟨a,b,exp,false⟩:Ed)) (d:Int)).exp:Int)=(exp:Int)
       . refine fK g 4 ?_
         by_cases aZ:((d:Int):Int)>((k:Int):Int)
         . refine fQ g 14 ?_
           refine gp (v:=Zc) Bq rfl ?_
           have aC:=yg [2,3,4,5,0,1] g
           obtain⟨q9,P9⟩:=x.2.2 rfl
           obtain⟨a6,a7,a4,a8,a9,ba,bb⟩:=hF.first F a5 P9 (m1:=(gx s.m (k:Int) (⟨a,b,exp,false⟩:Ed))) rfl
           obtain⟨a3,a2⟩:=hF.Nn F hl P9 (fun o ho=>by rw[a4]at ho;cases ho;unfold nH;omega) (m1:=(gx s.m (k:Int) (⟨a,b,exp,false⟩:Ed))) rfl
           exact⟨(⟨s.fb,s.nb,s.hb,s.mb,s.trees,f,(gx s.m (k:Int) (⟨a,b,exp,false⟩:Ed))⟩:GW),A,key,rfl,⟨⟨a3,GW.C8 (s:=s) hq F a2 u,bc.put F rfl⟩,a2⟩,yj (yp (p:=GW.ok fN fL (⟨s.fb,s.nb,s.hb,s.mb,s.trees,f,(gx s.m (k:Int) (⟨a,b,exp,false⟩:Ed))⟩:GW)) (yc [_,_,_,_] _ aC) (hG.put (by exact⟨ha,hb,hx⟩))) ze⟩
         . obtain⟨q9,P9⟩:=x.2.2 rfl
           obtain⟨a6,a7,a4,a8,a9,ba,bb⟩:=hF.first F a5 P9 (m1:=(gx s.m (k:Int) (⟨a,b,exp,false⟩:Ed))) rfl
           have aD:=yg [2,3,4,5,0,1] g
           have X:=yp (p:=GW.ok fN fL (⟨s.fb,s.nb,s.hb,s.mb,s.trees,f,(gx s.m (k:Int) (⟨a,b,exp,false⟩:Ed))⟩:GW)) (yc [_,_,_,_] _ aD) (hG.put (by exact⟨ha,hb,hx⟩))
           refine fK g 11 ?_
           refine cl IU (I9 fN fL ob (⟨s.fb,s.nb,s.hb,s.mb,s.trees,f,(gx s.m (k:Int) (⟨a,b,exp,false⟩:Ed))⟩:GW) A key W (ye X 0 rfl) d a6 (fun i j=>hF.uc) a9 ba bb) ?_
           rintro _ aE ⟨h,rfl,y,T⟩
           have Y:=yk 0 X T
           have aF:GW.ok fN fL h:=sG Y
           have Z:=(jP Y).unpack
           obtain⟨bd,be,bf⟩:=hF.No F hl P9 (m1:=(gx s.m (k:Int) (⟨a,b,exp,false⟩:Ed))) (m3:=h.m) (m4:=gx h.m (k:Int) ⟨(fT h.m (k:Int)).a,(fT h.m (k:Int)).b,(fT h.m (k:Int)).exp,true⟩) rfl (by unfold nH;omega) y.2.1 y.2.2.1
           have aa:=yp (p:=GW.ok fN fL h) (yc [_,_,_,_] _ Z) aF
           refine fK Z 6 ?_
           refine cl II (I6 fN fL ob h (r0 fL A d (fT (gx s.m (k:Int) (⟨a,b,exp,false⟩:Ed)) (d:Int))) key aE (ye aa 0 rfl) k hk bd be) ?_
           rintro _ a0 ⟨J,rfl,E,T⟩
           have ab:=yk 0 aa T
           have aG:GW.ok fN fL J:=sG ab
           have ac:=(jP ab).unpack
           refine fQ ac 8 ?_
           refine gp (v:=Zc) Bq rfl ?_
           obtain⟨a3,a2⟩:=bf rfl
           rw[<-E.2.1]at a3 a2
           exact⟨J,(CV fL (r0 fL A d (fT (gx s.m (k:Int) (⟨a,b,exp,false⟩:Ed)) (d:Int))) k (fT h.m (k:Int))),(CE key k (fT h.m (k:Int)).exp),rfl,⟨⟨a3,GW.C8 (s:=s) hq F a2 (by rw[E.1,y.1];exact u),by rw[E.2.1,E.2.2,y.2.1,y.2.2.2];exact bc.swap F a7 a4 a8 rfl rfl rfl⟩,a2⟩,yj (yp (p:=GW.ok fN fL J) (yc [_,_,_,_] _ ac) aG) ze⟩
       . obtain⟨q9,P9⟩:=x.2.2 rfl
         obtain⟨a6,a7,a4,a8,a9,ba,bb⟩:=hF.first F a5 P9 (m1:=(gx s.m (k:Int) (⟨a,b,exp,false⟩:Ed))) rfl
         have aH:=yg [2,3,4,5,0,1] g
         have ad:=yp (p:=GW.ok fN fL (⟨s.fb,s.nb,s.hb,s.mb,s.trees,f,(gx s.m (k:Int) (⟨a,b,exp,false⟩:Ed))⟩:GW)) (yc [_,_,_,_] _ aH) (hG.put (by exact⟨ha,hb,hx⟩))
         refine fK g 15 ?_
         refine cl IU (I9 fN fL ob (⟨s.fb,s.nb,s.hb,s.mb,s.trees,f,(gx s.m (k:Int) (⟨a,b,exp,false⟩:Ed))⟩:GW) A key W (ye ad 0 rfl) d a6 (fun i j=>hF.uc) a9 ba bb) ?_
         rintro _ aI ⟨l,rfl,z,T⟩
         have ae:=yk 0 ad T
         have aJ:GW.ok fN fL l:=sG ae
         have af:=(jP ae).unpack
         obtain⟨bd,be,bf⟩:=hF.No F hl P9 (m1:=(gx s.m (k:Int) (⟨a,b,exp,false⟩:Ed))) (m3:=l.m) (m4:=gx l.m (k:Int) ⟨(fT l.m (k:Int)).a,(fT l.m (k:Int)).b,(fT l.m (k:Int)).exp,true⟩) rfl (by unfold nH;omega) z.2.1 z.2.2.1
         have ag:=yp (p:=GW.ok fN fL l) (yc [_,_,_,_] _ af) aJ
         refine fK af 6 ?_
         refine cl II (I6 fN fL ob l (r0 fL A d (fT (gx s.m (k:Int) (⟨a,b,exp,false⟩:Ed)) (d:Int))) key aI (ye ag 0 rfl) k hk bd be) ?_
         rintro _ a1 ⟨K,rfl,G,T⟩
         have ah:=yk 0 ag T
         have aK:GW.ok fN fL K:=sG ah
         have ai:=(jP ah).unpack
         refine fQ ai 8 ?_
         refine gp (v:=Zc) Bq rfl ?_
         obtain⟨a3,a2⟩:=bf rfl
         rw[<-G.2.1]at a3 a2
         exact⟨K,(CV fL (r0 fL A d (fT (gx s.m (k:Int) (⟨a,b,exp,false⟩:Ed)) (d:Int))) k (fT l.m (k:Int))),(CE key k (fT l.m (k:Int)).exp),rfl,⟨⟨a3,GW.C8 (s:=s) hq F a2 (by rw[G.1,z.1];exact u),by rw[G.2.1,G.2.2,z.2.1,z.2.2.2];exact bc.swap F a7 a4 a8 rfl rfl rfl⟩,a2⟩,yj (yp (p:=GW.ok fN fL K) (yc [_,_,_,_] _ ai) aK) ze⟩
 . skip
   refine iS C 8 ?_
   refine gp (v:=BQ) Bq rfl ?_
   exact absurd (show gV s.m (k:Int)=none from F) (by intro h7;simp_all)
end
section
open Go Go.Sx
def GW.R(fN fL ob:Nat)(s:GW):fS where
 gJ:=(GI.R fN fL ob s (fun _ _=>False) (fun _=>0)).gJ
 holds w:=∃ A key,(iB fN fL (gF s.m) A key/\s.qd/\kq s.m s.trees)/\(GI.R fN fL ob s A key).holds w
 loc w w' h hh:=by
  obtain⟨A,key,a,b⟩:=hh
  exact⟨A,key,a,(GI.R fN fL ob s A key).loc w w' h b⟩
section
variable {fN fL ob:Nat} {s s2:GW} {w w' : World} {A A2:Nat->Nat->Prop} {key key2:Nat->Int}
abbrev BO(a b:Nat)(c:WW):=(GW.R a b c.ob c.g:fS)
abbrev MG(a:Nat)(b c:Int)(d:Lv)(e:Int)(f g:Nat)(h:Int)(i j:Nat)(k:Int)(l:WW) m n:=([blk a 107 [.int .i64 b,.int .u64 c,.int .u64 d.u,.int .u64 d.v,.int .i64 d.wt,.int .i64 d.t,.int .i64 e],blk f 61 (Z0 d),blk g 83 (xI h i j k l),blk l.cb 156 (Zp h l.now),kE m (fU.R j i l.ub n),QS.SR l.sb l.hb i l.q,GW.R j i l.ob l.g]:List fS)
theorem C2(h:Own (GW.R fN fL ob s) w):∃ A key,(iB fN fL (gF s.m) A key/\s.qd/\kq s.m s.trees)/\Own (GI.R fN fL ob s A key) w:=by
 obtain⟨A,key,a,b⟩:=h.holds
 exact⟨A,key,a,b,h.nodup,h.lt⟩
theorem Gv(h:fZ (GI.R fN fL ob s A key) w w' (GI.R fN fL ob s2 A2 key2))(h1:iB fN fL (gF s2.m) A2 key2/\s2.qd/\kq s2.m s2.trees):fZ (GW.R fN fL ob s) w w' (GW.R fN fL ob s2) :=
 ⟨⟨A2,key2,h1,h.holds⟩,h.gD,h.place,h.nodup,h.lt⟩
theorem afz(h:fZ (gq []) w w' (GI.R fN fL ob s A key))(h1:iB fN fL (gF s.m) A key/\s.qd/\kq s.m s.trees):fZ (gq []) w w' (GW.R fN fL ob s) :=
 h.CO rfl fun a=>⟨A,key,h1,a⟩
end
theorem YZ(fN fL ob:Nat)(s:GW)(w:World)(g:Own (GW.R fN fL ob s) w)(k a b:Nat)(exp:Int)(hk:k<fL)(i:a<fN)(hb:b<fN)(q:gZ .i64 exp)(j:a≠b)(l:gF s.m k=none) :
 CR ya 82 (MA ob k a b exp) w (fun r w' => ∃ (s2:GW),r = .int .i64 0/\xF s.m s2.m k (some (a,b,exp))/\fZ (GW.R fN fL ob s) w w' (GW.R fN fL ob s2)):=by
 obtain⟨A,key,⟨f,o,n⟩,h⟩:=C2 g
 exact CR.mono (Y7 fN fL ob s A key w h k a b exp hk i hb q j l f o n) fun r w' ⟨s2,A2,key2,e,⟨c,d⟩,p⟩=>⟨s2,e,d,Gv p c⟩
theorem Y6(fN fL ob:Nat)(s:GW)(w:World)(g:Own (GW.R fN fL ob s) w) :
 CR ya 39 (Zh ob) w (fun r w' => ∃ (s2:GW) (i:Nat) (b:Bool),r = .tuple (Z7 i b)/\((b=false/\(∀ k,gF s.m k=none)/\gF s2.m=gF s.m)\/(b=true/\(∃ o,gF s.m i=some o/\∀ j e,gF s.m j=some e->j=i\/o.exp<e.exp\/(o.exp=e.exp/\i<j))/\gF s2.m=(gF s.m).set i none))/\fZ (GW.R fN fL ob s) w w' (GW.R fN fL ob s2)):=by
 obtain⟨A,key,⟨f,a,l⟩,h⟩:=C2 g
 refine CR.mono (Y9 fN fL ob s A key w h f a l) fun r w' ⟨s2,A2,i,b,e,⟨c,d⟩,n⟩=>⟨s2,i,b,e,d.imp (fun⟨a1,a2,a3⟩=>⟨a1,fun k=>?_,a3⟩) id,Gv n c⟩
 cases he:gF s.m k with
 | none=>rfl
 | some e=>exact absurd ((a ⟨k,e.exp⟩).2 ⟨e,he,rfl⟩) (by rw[a2];exact mz)
end
section
open Go Go.Sx
theorem aaC(n:Nat)(w:World)(a:n<=65536) :
 CR ya 102 (Z8 n) w (fun r w' => ∃ fb nb,r = .tuple (Z2 fb)/\fZ (gq []) w w' (jN fb nb (n+1) (fun _ _=>False) (fun _=>0))) :=
 CR.mono (aaJ n w a) fun r w' ⟨fb,nb,e,b⟩=>⟨fb,nb,e,afA (ed:=0) (xs:=lH n n) (by simpa using b) ⟨sZ n n,Rh o_,acd o_,fun i j=>⟨fun h=>absurd h ab8,fun h=>h.elim⟩,fun k h=>ab9 o_⟩⟩
theorem ZB(fN fL:Nat)(w:World)(V:2<=fN)(hv:fN<=4096)(W:fL<=16384) :
 CR ya 64 (Zz fN fL) w (fun r w' => ∃ (ob:Nat) (s:GW),r = .tuple (Z2 ob)/\s.m=[]/\fZ (gq []) w w' (GW.R fN fL ob s)):=by
 refine enter (vs:=(Zp fN fL)) Tryz.func64 rfl Tryz.ntmps64 rfl ?_
 have F:=yt w
 refine fR F 10 ?_
 refine cmp (a:=(fN:Int)) (b:=0) rfl rfl rfl (lC o_) (fK F 2 ?_)
 refine cmp (a:=(fN:Int)) (b:=4096) rfl rfl rfl (pR o_) (fK F 3 ?_)
 refine cmp (a:=(fL:Int)) (b:=0) rfl rfl rfl (lC o_) (fK F 3 ?_)
 refine cmp (a:=(fL:Int)) (b:=16384) rfl rfl rfl (pR o_) (fK F 10 ?_)
 refine ar (a:=(fL:Int)) (b:=(fN:Int)) (c:=(fL:Int)+(fN:Int)) (e:=((fL+fN:Nat):Int)) rfl rfl rfl rfl (by rw[ox o_];omega) (jM (vl:=(Ze ((fL+fN:Nat):Int))) rfl rfl WH (aaC (fL+fN) w o_) ?_)
 rintro _ t ⟨d,f,rfl,U⟩
 have u:St _ [(jN d f (fL+fN+1) (fun _ _=>False) (fun _=>0))] t:=(ki (R:=(jN d f (fL+fN+1) (fun _ _=>False) (fun _=>0))) F U)
 have C:St _ [(jN d f (fL+fN+1) (fun _ _=>False) (pU fL 0))] t:=CH u (fun _ _=>Iff.rfl) (fun x=>(if_neg o_).symm)
 refine gH u 25 ?_
 refine lp (α:=Nat) (fun k=>[(0,(Za fN)),(1,(Za fL)),(4,Zs),(5,Zc),(6,(Zb d)),(7,Zc),(34,(Za fN)),(35,(Za ((k:Nat):Int)))]) (fun k w1=>St [(w,[])] [(jN d f (fL+fN+1) (fun _ _=>False) (pU fL k))] w1/\k<=fN) (fun k=>fN-k) 0 ⟨rfl,rfl,rfl,rfl,rfl,rfl,rfl,gr (by first|rfl|omega),trivial⟩ (⟨C,o_⟩) ?_
 rintro k M y ⟨T,Z⟩
 refine fR T 2 ?_
 by_cases N:(((k:Nat):Int):Int)<((fN:Int):Int)
 . refine fK T 19 ?_
   refine ar (a:=(fL:Int)) (b:=((k:Nat):Int)) (c:=(fL:Int)+((k:Nat):Int)) (e:=((fL+k:Nat):Int)) rfl rfl rfl rfl (by rw[ox o_];omega) (jM (vl:=[(Zb d),(Za ((fL+k:Nat):Int)),(.int .i64 9223372036854775807)]) rfl rfl Og (Nu d f (fL+fN+1) (fun _ _=>False) (pU fL k) y (kV T (i:=0) rfl) o_ (fL+k) o_ 9223372036854775807 (kH d_)) ?_)
   rintro _ z ⟨rfl,U⟩
   have A:St _ [(jN d f (fL+fN+1) (fun _ _=>False) (fun x=>if x=fL+k then(9223372036854775807:Int)else(pU fL k) x))] z:=l8 (R' := (jN d f (fL+fN+1) (fun _ _=>False) (fun x=>if x=fL+k then(9223372036854775807:Int)else(pU fL k) x))) 0 T rfl U rfl
   refine fQ A 7 ?_
   refine tN (?_)
   have D:St _ [(jN d f (fL+fN+1) (fun _ _=>False) (pU fL (k+1)))] z:=CH A (fun _ _=>Iff.rfl) (fun x=>aap)
   exact again (k+1) ⟨rfl,rfl,rfl,rfl,rfl,rfl,rfl,gr (by first|rfl|omega),trivial⟩ (⟨D,o_⟩) (by show (fN-(k+1):Nat)<fN-k;omega)
 . refine fK T 13 ?_
   refine jM (vl:=(Ze fL)) rfl rfl Of (Sf fL y o_) ?_
   rintro _ E ⟨g,l,rfl,G,U⟩
   have o:St _ [(QS.R g fL l),(jN d f (fL+fN+1) (fun _ _=>False) (pU fL k))] E:=(ki (R:=(QS.R g fL l)) T U)
   refine fK o 22 ?_
   refine ji (pvs:=[(0,(Zb d))]) (v:=.agg (Zh d)) rfl rfl (jA [(0,(Zi d))] Lg acR rfl ⟨rfl,rfl,trivial⟩ rfl) (fK o 1 ?_)
   refine mkV Ed.enc .i64 rfl rfl o ?_
   intro j H O P q
   have q:St _ [gY j .i64 Ed.enc ([]),(QS.R g fL l),(jN d f (fL+fN+1) (fun _ _=>False) (pU fL k))] H:=q
   refine ji (pvs:=[(0,(Za fN)),(1,(Za fL)),(2,(.agg (Zh d))),(3,(Zb g)),(4,(.map (some j)))]) (v:=.agg #[(Za fN),(Za fL),(Zb d),(Zb g),(.map (some j)),Zc]) rfl rfl (jA [(0,(Ze fN)),(1,(Ze fL)),(2,(Zi d)),(3,(Zi g)),(4,[(.map (some j))])] Tj acS rfl ⟨rfl,rfl,rfl,rfl,rfl,rfl,rfl,rfl,rfl,rfl,trivial⟩ rfl) (iF q (fun n I Q S B=>?_))
   refine fQ B 5 ?_
   refine iH (v:=(Zb n)) (v' := Zc) Tryz.results64 rfl rfl ?_
   have X:k=fN:=by omega
   have J:=yg [3,0,1,2] B
   have K:St _ [(jN d f (fL+fN+1) (fun _ _=>False) (pU fL fN)),blk n 132 [(Za fN),(Za fL),(Zb d),(Zb g),(.map (some j)),Zc],gY j .i64 Ed.enc ([]),(QS.R g fL l)] I:=CH J (fun _ _=>Iff.rfl) (fun x=>by rw[X])
   have L:=yg [1,0,3,2] K
   have Y:fZ (gq []) w _ (GI.R fN fL n (⟨d,f,g,j,0,l,[]⟩:GW) (fun _ _=>False) (pU fL fN)):=vq (R:=(GI.R fN fL n (⟨d,f,g,j,0,l,[]⟩:GW) (fun _ _=>False) (pU fL fN))) (yp (p:=GW.ok fN fL (⟨d,f,g,j,0,l,[]⟩:GW)) (yc [_,_,_,_] _ L) ⟨V,hv,W,fun p hp=>by cases hp⟩) s_
   exact⟨n,(⟨d,f,g,j,0,l,[]⟩:GW),rfl,rfl,afz Y ⟨iB.new,fun x=>by show x∈l.fP↔_;rw[G];exact⟨fun h=>absurd h mz,fun⟨e,h,_⟩=>by cases h⟩,kq.nil⟩⟩
end
section
open Go Go.Sx
theorem af8(c:Cf)(w:World)(h1:1<=c.win)(h:1<=c.fL/\c.fL<=16384)(i:2<=c.fN/\c.fN<=4096)(j:0<=c.kK/\c.kK<=16384) :
 CR ya 60 (My c.win c.fL c.fN c.kK) w (fun r w' => r = .bool true/\gA [] w w'):=by
 refine en Tryz.func60 Tryz.ntmps60 ?_
 have g:=yt w
 refine fR g 2 ?_
 refine iF g (fun b d e f a=>?_)
 refine fK a 7 ?_
 refine cmp rfl rfl rfl (nY o_) (fK a 3 ?_)
 refine cmp rfl rfl rfl (nY o_) (fK a 4 ?_)
 refine cmp rfl rfl rfl (Ax o_) (fK a 4 ?_)
 refine cmp rfl rfl rfl (nY o_) (fK a 4 ?_)
 refine cmp rfl rfl rfl (Ax o_) (fK a 4 ?_)
 refine cmp rfl rfl rfl (nY o_) (fK a 4 ?_)
 refine cmp rfl rfl rfl (Ax o_) (fQ a 5 ?_)
 refine gp (v:=Zf) Tryz.results60 rfl ?_
 exact⟨rfl,a.gD s_⟩
end
section
open Go Go.Sx
theorem UQ(a b:Int)(w:World)(m:gZ .i64 a)(hb:gZ .i64 b) :
 CR ya 112 (Zz a b) w (fun r w' => r = .tuple (Zz ((qn a b).1) ((qn a b).2))/\gA [] w w'):=by
 have o := m.i64
 have p := hb.i64
 obtain⟨s,hs⟩:∃ s,s=IntKind.i64.wrap (a+b):=⟨_,rfl⟩
 have n:=hs
 rw[IntKind.wrap_i64]at n
 refine en Tryz.func112 Tryz.ntmps112 ?_
 have j:=yt w
 refine fR j 10 ?_
 refine ar (e:=s) rfl rfl rfl rfl hs.symm (fK j 7 ?_)
 by_cases d:(a:Int)<(0:Int)
 . refine fK j 2 ?_
   by_cases f:(b:Int)<(0:Int)
   . refine fK j 1 ?_
     refine EZ (c:=true) rfl rfl rfl nr rfl (fK j 2 ?_)
     by_cases g:(s:Int)<(0:Int)
     . refine fK j 3 ?_
       refine FH (c:=false) rfl rfl rfl nr rfl (fQ j 14 ?_)
       refine iH (v:=(Za s)) (v' := Zc) Bp rfl rfl ?_
       have k:=Av (a:=a) (b:=b) o_
       have l:s=a+b:=by omega
       exact⟨by rw[k,l],j.gD s_⟩
     . refine fK j 3 ?_
       refine FH (c:=true) rfl rfl rfl nr rfl (fQ j 12 ?_)
       refine iH (v:=Zc) (v' := (.int .i64 7)) Bp rfl rfl ?_
       have k:=Nl (a:=a) (b:=b) o_
       exact⟨by rw[k],j.gD s_⟩
   . refine fK j 1 ?_
     refine EZ (c:=false) rfl rfl rfl nr rfl (fQ j 20 ?_)
     refine iH (v:=(Za s)) (v' := Zc) Bp rfl rfl ?_
     have k:=Av (a:=a) (b:=b) o_
     have l:s=a+b:=by omega
     exact⟨by rw[k,l],j.gD s_⟩
 . refine fK j 2 ?_
   by_cases h:(b:Int)<(0:Int)
   . refine fK j 1 ?_
     refine EZ (c:=false) rfl rfl rfl nr rfl (fQ j 20 ?_)
     refine iH (v:=(Za s)) (v' := Zc) Bp rfl rfl ?_
     have k:=Av (a:=a) (b:=b) o_
     have l:s=a+b:=by omega
     exact⟨by rw[k,l],j.gD s_⟩
   . refine fK j 1 ?_
     refine EZ (c:=true) rfl rfl rfl nr rfl (fK j 2 ?_)
     by_cases i:(s:Int)<(0:Int)
     . refine fK j 3 ?_
       refine FH (c:=true) rfl rfl rfl nr rfl (fQ j 12 ?_)
       refine iH (v:=Zc) (v' := (.int .i64 7)) Bp rfl rfl ?_
       have k:=Nl (a:=a) (b:=b) o_
       exact⟨by rw[k],j.gD s_⟩
     . refine fK j 3 ?_
       refine FH (c:=false) rfl rfl rfl nr rfl (fQ j 14 ?_)
       refine iH (v:=(Za s)) (v' := Zc) Bp rfl rfl ?_
       have k:=Av (a:=a) (b:=b) o_
       have l:s=a+b:=by omega
       exact⟨by rw[k,l],j.gD s_⟩
theorem Nq(win t:Int)(w:World)(f:gZ .i64 win)(e:gZ .i64 t) :
 CR ya 74 (Zz win t) w (fun r w' => r = .tuple (Zz ((qn t win).1) ((qn t win).2))/\gA [] w w'):=by
 refine en Tryz.func74 Tryz.ntmps74 ?_
 have d:=yt w
 refine fR d 10 ?_
 refine cl WN (UQ t win w e f) ?_
 rintro _ c ⟨rfl,b⟩
 have a:=yq d b
 refine fQ a 7 ?_
 refine iH (v:=(Za ((qn t win).1))) (v' := (Za ((qn t win).2))) Tryz.results74 rfl rfl ?_
 exact⟨rfl,a.gD s_⟩
theorem IA(cb:Nat)(win now:Int)(w:World)(d:Own (Zu cb win now) w)(h1:1<=win)(e:gZ .i64 win) :
 CR ya 65 (Zh cb) w (fun r w' => r = .bool true/\fZ (Zu cb win now) w w' (Zu cb win now)):=by
 refine en Tryz.func65 Tryz.ntmps65 ?_
 have b:=yr d
 refine fR b 8 ?_
 refine nh (a:=some ⟨cb,0,none⟩) (c:=true) rfl rfl rfl Tryz.underlying78 rfl (fK b 5 ?_)
 refine cmp rfl rfl rfl (nY o_) (fQ b 5 ?_)
 refine gp (v:=Zf) Tryz.results65 rfl ?_
 exact⟨rfl,yo b⟩
theorem VY(cb:Nat)(win now:Int)(w:World)(d:Own (Zu cb win now) w)(h1:1<=win)(f:gZ .i64 win) :
 CR ya 36 (Zh cb) w (fun r w' => r = .int .i64 now/\fZ (Zu cb win now) w w' (Zu cb win now)):=by
 refine en Tryz.func36 Tryz.ntmps36 ?_
 have c:=yr d
 refine fR c 9 ?_
 refine cl IT (IA cb win now w (ye c 0 rfl) h1 f) ?_
 rintro _ b ⟨rfl,e⟩
 have a:=yk 0 c e
 refine fQ a 16 ?_
 refine gp (v:=(Za now)) Tryz.results36 rfl ?_
 exact⟨rfl,yo a⟩
theorem NO(cb:Nat)(win now:Int)(w:World)(i:Own (Zu cb win now) w)(h1:1<=win)(h:gZ .i64 win)(t:Int)(k:gZ .i64 t) :
 CR ya 41 (Zm cb t) w (fun r w' => r = .int .i64 (rS win now t)/\fZ (Zu cb win now) w w' (Zu cb win now)):=by
 refine en Tryz.func41 Tryz.ntmps41 ?_
 have g:=yr i
 refine fR g 9 ?_
 refine cl IT (IA cb win now w (ye g 0 rfl) h1 h) ?_
 rintro _ c ⟨rfl,j⟩
 have a:=yk 0 g j
 refine fK a 14 ?_
 by_cases e:(t:Int)<(now:Int)
 . refine fQ a 11 ?_
   refine gp (v:=xN) Tryz.results41 rfl ?_
   exact⟨gr (by unfold rS;rw[if_pos (by assumption)]),yo a⟩
 . refine fK a 13 ?_
   refine cl O7 (Nq win t c h k) ?_
   rintro _ f ⟨rfl,d⟩
   have b:=yq a d
   refine fQ b 14 ?_
   refine gp (v:=(Za ((qn t win).2))) Tryz.results41 rfl ?_
   exact⟨gr (by unfold rS;rw[if_neg (by assumption)]),yo b⟩
theorem Vv(cb:Nat)(win now:Int)(w:World)(h:Own (Zu cb win now) w)(h1:1<=win)(g:gZ .i64 win)(t:Int)(j:gZ .i64 t) :
 CR ya 79 (Zm cb t) w (fun r w' => r = .tuple (Zz ((qn t win).1) ((qn t win).2))/\fZ (Zu cb win now) w w' (Zu cb win now)):=by
 refine en Tryz.func79 Tryz.ntmps79 ?_
 have f:=yr h
 refine fR f 10 ?_
 refine cl IT (IA cb win now w (ye f 0 rfl) h1 g) ?_
 rintro _ c ⟨rfl,i⟩
 have a:=yk 0 f i
 refine fK a 13 ?_
 refine cl O7 (Nq win t c g j) ?_
 rintro _ e ⟨rfl,d⟩
 have b:=yq a d
 refine fQ b 7 ?_
 refine iH (v:=(Za ((qn t win).1))) (v' := (Za ((qn t win).2))) Tryz.results79 rfl rfl ?_
 exact⟨rfl,yo b⟩
theorem Vp(cb:Nat)(win now:Int)(w:World)(h:Own (Zu cb win now) w)(h1:1<=win)(k:gZ .i64 win)(t:Int)(j:gZ .i64 t) :
 CR ya 37 (Zm cb t) w (fun r w' => r = .int .i64 (rS win now t)/\fZ (Zu cb win now) w w' (Zu cb win (if rS win now t=0 then t else now))):=by
 refine en Tryz.func37 Tryz.ntmps37 ?_
 have g:=yr h
 refine fR g 9 ?_
 refine cl O1 (NO cb win now w (ye g 0 rfl) h1 k t j) ?_
 rintro _ c ⟨rfl,i⟩
 have a:=yk 0 g i
 refine fK a 7 ?_
 by_cases d:(rS win now t:Int)=(0:Int)
 . refine j7 a 19 fun e b=>?_
   refine gp (v:=(Za (rS win now t))) Tryz.results37 rfl ?_
   have f:(if rS win now t=0 then t else now)=t:=if_pos (by assumption)
   refine⟨rfl,?_⟩
   rw[f]
   exact yo b
 . refine fQ a 13 ?_
   refine gp (v:=(Za (rS win now t))) Tryz.results37 rfl ?_
   have f:(if rS win now t=0 then t else now)=now:=if_neg (by assumption)
   refine⟨rfl,?_⟩
   rw[f]
   exact yo a
theorem VX(win:Int)(w:World)(h1:1<=win) :
 CR ya 61 (Z8 win) w (fun r w' => ∃ cb,r = .tuple (Z2 cb)/\fZ (gq []) w w' (blk cb 156 [(Za win),Zc])):=by
 refine en Tryz.func61 Tryz.ntmps61 ?_
 have f:=yt w
 refine fR f 10 ?_
 refine cmp rfl rfl rfl (lC o_) (fK f 8 ?_)
 refine ji (pvs:=[(0,(Za win))]) (v:=.agg (xH win)) rfl rfl (jA [(0,(Ze win))] Ts acV rfl ⟨rfl,rfl,trivial⟩ rfl) (iF f (fun a c d e b=>?_))
 refine fQ b 5 ?_
 refine iH (v:=(Zb a)) (v' := Zc) Tryz.results61 rfl rfl ?_
 exact⟨a,rfl,St.eM b⟩
end
section
open Go Go.Sx
def WW.R(c:WC)(a:Nat)(s:WW):fS:=kE (s.ok c) (gq [blk a 83 (xI c.win c.fL c.fN c.kK s),(zZ s c.win),(fU.R c.fN c.fL s.ub s.u),(QS.SR s.sb s.hb c.fL s.q),(GW.R c.fN c.fL s.ob s.g)])
abbrev Zy(a:Nat) b c (d:Nat) e:=(gq [blk a 102 b,WW.R c d e]:fS)
abbrev D8 a (b:Nat) c d e f g h i:=([WW.R a b c,fM iw d 27 1 e,fM Ge.cells f 235 3 g,fM Lv.cells h 107 7 i]:List fS)
abbrev MH(a:Nat)(b:Lv) c (d:Nat) e f g h i j k:=([blk a 107 (Z9 b),WW.R c d e,fM iw f 27 1 g,fM Ge.cells h 235 3 i,fM Lv.cells j 107 7 k]:List fS)
abbrev Mk a (b:Nat) c (d:Nat):=(gq [WW.R a b c,blk d 102 [.pointer (some ⟨b,0,none⟩),.bool false,.int .u64 0,.slice none 0 0,.int .i64 0,.slice none 0 0,.slice none 0 0,.slice none 0 0,.slice none 0 0,.slice none 0 0,.pointer none,.pointer none,.int .i64 0]]:fS)
abbrev Al(a b:Nat) c d:=(gq [blk a 102 [.pointer (some ⟨b,0,none⟩),.bool false,.int .u64 0,.slice none 0 0,.int .i64 0,.slice none 0 0,.slice none 0 0,.slice none 0 0,.slice none 0 0,.slice none 0 0,.pointer none,.pointer none,.int .i64 0],WW.R c b d]:fS)
abbrev Md(a b:Nat) c d e:=(gq [blk a 102 [.pointer (some ⟨b,0,none⟩),.bool false,.int .u64 0,.slice none 0 0,.int .i64 0,.slice none 0 0,.slice none 0 0,.slice none 0 0,.slice none 0 0,.slice none 0 0,.pointer none,.pointer none,.int .i64 0],WW.R c b d,e]:fS)
theorem vj(c:WC)(d:Nat)(s:WW)(w:World)(f:Own (WW.R c d s) w) :
 CR ya 30 (Zh d) w (fun r w' => r = .bool true/\fZ (WW.R c d s) w w' (WW.R c d s)):=by
 refine en Tryz.func30 Tryz.ntmps30 ?_
 have e:=Own.of f.un
 have b:s.ok c:=f.fact
 have g:=b.w1
 have h:=b.wi
 have i:=b.n0
 have j:=b.n1
 refine fR e 8 ?_
 refine nh (a:=some ⟨d,0,none⟩) (c:=true) rfl rfl rfl Dz rfl (fK e 5 ?_)
 refine nh (a:=some ⟨s.cb,0,none⟩) (c:=true) rfl rfl rfl Tryz.underlying78 rfl (fQ e 5 ?_)
 refine gp (v:=Zf) Tryz.results30 rfl ?_
 exact⟨rfl,yj (yp (p:=s.ok c) (yc [_,_,_,_,_] _ e) b) ze⟩
theorem agn(c:WC)(i:Nat)(s:WW)(w:World)(k:Own (WW.R c i s) w) :
 CR ya 14 (Zh i) w (fun r w' => r = .int .i64 s.now/\fZ (WW.R c i s) w w' (WW.R c i s)):=by
 refine en Tryz.func14 Tryz.ntmps14 ?_
 have l:=Own.of k.un
 have h:s.ok c:=k.fact
 have m:=h.w1
 have n:=h.wi
 have o:=h.n0
 have q:=h.n1
 have b:=yp (p:=s.ok c) (yc [_,_,_,_,_] _ l) h
 refine fR l 9 ?_
 refine cl uK (vj c i s w (ye b 0 rfl)) ?_
 rintro _ e ⟨rfl,j⟩
 have f:=yk 0 b j
 have a:=(jP f).unpack
 refine fK a 12 ?_
 refine cl XQ (VY s.cb c.win s.now e (ye a 1 rfl) m (kH o_)) ?_
 rintro _ g ⟨rfl,j⟩
 have d:=yk 1 a j
 refine fQ d 4 ?_
 refine gp (v:=(Za s.now)) Tryz.results14 rfl ?_
 exact⟨rfl,yj (yp (p:=s.ok c) (yc [_,_,_,_,_] _ d) h) ze⟩
end
section
open Go Go.Sx
end
end Go.Proofs.YthpnckhjmbbalaaGreatDoor
namespace Go.Proofs
open Go.Shelf Go.Lib Go.Sort Go.RowKit in
def Tryz.aaG:Go.Shelf.Ren:=⟨fun|5=>116|7=>158|n=>n,fun|23=>141|25=>27|3=>65|4=>4|20=>20|n=>n,fun|n=>n⟩
open Go.Shelf Go.Lib Go.Sort Go.RowKit in
theorem Tryz.aaF:Go.Proofs.SlLaysW.n5 Proofs.Tryz.prog Tryz.aaG where
 mixed:=by kernel_rfl
 f5:=⟨Proofs.Tryz.f116.name,by(decide),Proofs.Tryz.func116.trans (congrArg some<|by kernel_rfl)⟩
 f7:=Proofs.Tryz.func158.trans (congrArg some<|by kernel_rfl)
 t4:=Proofs.Tryz.underlying4
 a4:=Proofs.Tryz.isAgg4
 z4:=Proofs.Tryz.sizeOf4
 v4:=Proofs.Tryz.zeroValue4
 t20:=Proofs.Tryz.underlying20
 a20:=Proofs.Tryz.isAgg20
 z20:=Proofs.Tryz.sizeOf20
 v20:=Proofs.Tryz.zeroValue20
 t23:=Proofs.Tryz.underlying141
 a23:=Proofs.Tryz.isAgg141
 z23:=Proofs.Tryz.sizeOf141
 v23:=Proofs.Tryz.zeroValue141
end Go.Proofs
namespace Go.Proofs.YthpnckhjmbbalaaGreatDoor
section
open Go Go.Sx
theorem abl(b:Nat)(im:IM)(w:World)(c:Own (Ni b im) w) :
 CR ya 116 #[.map (some b)] w (fun r w' => ∃ b2,r = .map (some b2)/\fZ (Ni b im) w w' (gq [gY b .u64 p_ im,gY b2 .u64 p_ im])) :=
 VJ c fun es a h=>AnyW.maps_Clone Tryz.aaF b es a w h
theorem VH(v:Value)(xs:List Lv)(w:World)(hv:iz 7 Lv.cells (fun _=>True) w v xs)(m:xs.length<=1000000) :
 CR ya 115 #[v] w (fun r w' => qb 7 Lv.cells w w' r 107 xs/\gA [] w w'):=by
 refine en Tryz.func115 Tryz.ntmps115 ?_
 have l:=yt w
 refine fR l 9 ?_
 refine Ct (v:=v) rfl rfl rfl sF hv (gH l 2 ?_)
 cases e:(wK v:Bool)
 . skip
   refine fR l 5 ?_
   refine kj (vs:=[]) (cs:=[]) rfl rfl sF nS rfl (by intro v hv;simp at hv) rfl rfl rfl l ?_
   intro f g h i c
   have d:=c
   refine fK c 1 ?_
   refine mW (cf:=Lv.cells) (ys:=[]) (zs:=xs) (LL:=fun a=>[fM Lv.cells a 107 7 xs]) 0 rfl rfl rfl sF nS rfl d_ d rfl (iz.src (yw d s_ d_ hv) f_) (xY f_ _) (by simp only[zn];omega) (by simp only[zn];omega) f_ (fun a j b k=>fQ b 4 ?_)
   refine gp (v:=a) Tryz.results115 rfl ?_
   exact⟨DD b s_,b.gD s_⟩
 . skip
   refine iS l 8 ?_
   refine gp (v:=Zg) Tryz.results115 rfl ?_
   obtain rfl:=CX e hv
   exact⟨qb.CW, l.gD s_⟩
theorem afG(fN fL ub:Nat)(s:fU)(w:World)(F:Own (fU.R fN fL ub s) w) :
 CR ya 77 (Zh ub) w (fun r w' => ∃ (a0:Nat) (s2:fU),r = .pointer (some ⟨a0,0,none⟩)/\((∀ y,s2.has y↔s.has y)/\s2.last=s.last)/\fZ (fU.R fN fL ub s) w w' (gq [(fU.R fN fL ub s),(fU.R fN fL a0 s2)])):=by
 have bf:s.t.A.used<=s.t.A.n:=F.fact.tok.ul
 have ba:=F.fact.n
 have bb:=F.fact.tn
 have a9:=F.fact.en
 have bc:=F.fact.vn
 have a8:s.A.used<=s.A.begun:=by have h7:=F.fact.kW.used;omega
 have a7:=F.fact.kW.le
 have bd:s.live.length=s.A.begun:=F.fact.ll
 have a3:∀ id,(fT s.im id).2.length<=65536:=fun id=>F.fact.Jj id
 refine en Tryz.func77 Tryz.ntmps77 ?_
 have aZ:=Own.of F.un
 have hU:s.ok fN fL:=F.fact
 have K:=yp (p:=s.ok fN fL) (yc [_,_,_,_,_,_] _ aZ) hU
 refine fR aZ 9 ?_
 refine cl wg (xd fN fL ub s w (ye K 0 rfl)) ?_
 rintro _ aG ⟨rfl,ht⟩
 have X:=yk 0 K ht
 have L:=(jP X).unpack
 refine fK L 11 ?_
 refine iR L (fun h aH aI aJ M=>?_)
 refine j8 0 M (fun Y E=>?_) (h1:=(ic rfl (ic rfl (ic rfl (ic rfl (ic rfl (ic (yu M (i:=2) rfl) (ic rfl lB))))))))
 refine fK E 8 ?_
 refine cl Oj (T7 s.jb s.aw Y (ye E 5 rfl)) ?_
 rintro _ aK ⟨d,j,rfl,Z,ht⟩
 have aa:=yg [5,0,1,2,3,4,6] E
 have ac:=yz (yk 0 aa ht)
 refine gO ac 10 fun ad N=>?_
 refine cl WO (aff s.tb s.ab s.t ad (ye N 7 rfl)) ?_
 rintro _ aL ⟨e,l,m,rfl,O,ht⟩
 have ae:=yg [7,0,1,2,3,4,5,6] N
 have af:=yz (yk 0 ae ht)
 refine gO af 10 fun ag P=>?_
 refine cl WQ (VH s.lv s.live ag (iO P 6 rfl).any (by first|omega|(simp;omega))) ?_
 rintro g ah hz
 have D:St _ [fM Lv.cells g 107 7 s.live,(xM s),(TW.R e l m),(xL s),(AW.R d j),blk h 143 [(Za fN),(Za fL),(Zo s.last),(Zb d),(Zb e),s.lv,(.map (some s.mb))],blk ub 143 (pQ fN fL s (some s.mb)),fM Lv.cells s.lv 107 7 s.live,gY s.mb .u64 p_ s.im,jF 3 s.im] ah:=xe P hz.2 hz.1
 refine fK D 1 ?_
 refine j8 5 D (fun ai G=>?_) (hvs:=(cells_one (yu D (i:=0) rfl))) (h1:=(ic (yu D (i:=0) rfl) lB))
 refine fK G 8 ?_
 refine cl WR (abl s.mb s.im ai (ye G 8 rfl)) ?_
 rintro _ aM ⟨f,rfl,ht⟩
 have aj:=yg [8,0,1,2,3,4,5,6,7,9] G
 have Q:=yz (yk 0 aj ht)
 refine fK Q 1 ?_
 refine j8 7 Q (fun aN H=>?_)
 refine fK H 8 ?_
 refine ld rfl rfl yv rfl (k8 H 8 rfl rfl) (rgM (k:=.u64) (enc:=p_) (mm:=s.im) 0 rfl rfl yv H rfl ?_)
 intro u S U
 have ak:St _ [jF 3 [],lX s.mb u .u64 p_ s.im s.im none,gY f .u64 p_ s.im,fM Lv.cells g 107 7 s.live,(xM s),(TW.R e l m),(xL s),(AW.R d j),blk h 143 (El fN fL s.last d e g (some f)),blk ub 143 (pQ fN fL s (some s.mb)),fM Lv.cells s.lv 107 7 s.live,jF 3 s.im] S:=St.I1 U
 have al:St _ [jF 3 [],jF 3 [],lX s.mb u .u64 p_ s.im s.im none,gY f .u64 p_ s.im,fM Lv.cells g 107 7 s.live,(xM s),(TW.R e l m),(xL s),(AW.R d j),blk h 143 (El fN fL s.last d e g (some f)),blk ub 143 (pQ fN fL s (some s.mb)),fM Lv.cells s.lv 107 7 s.live,jF 3 s.im] S:=St.I1 ak
 have am:=yg [10,11,2,12,1,7,5,9,4,3,0,8,6] al
 refine gH U 3 ?_
 refine lp (α:=IM×IM×IM×IM×(Option (Int×(Value×List Nat)))) (fun(dn,td,aU,T,cur)=>[(3,(Zb h)),(40,(Zb u))]) (fun(dn,td,aU,T,cur) w1=>St [(w,(fU.R fN fL ub s).gJ)] [blk ub 143 (pQ fN fL s (some s.mb)),fM Lv.cells s.lv 107 7 s.live,lX s.mb u .u64 p_ s.im td cur,jF 3 td,jF 3 dn,(xL s),(xM s),blk h 143 (El fN fL s.last d e g (some f)),fM Lv.cells g 107 7 s.live,gY f .u64 p_ T,jF 3 aU,(AW.R d j),(TW.R e l m)] w1/\pH s.im dn td aU T) (fun(dn,td,aU,T,cur)=>td.length) ([],s.im,[],s.im,none) ⟨rfl,rfl,trivial⟩ (⟨am,pH.start hU.keys⟩) ?_
 rintro⟨dn,td,aU,T,cur⟩ aO aP ⟨aW,aX⟩
 obtain⟨an,aQ⟩:∃ q,abh ya aW (i:=2) rfl=q:=⟨_,rfl⟩
 refine fR aW 2 ?_
 rcases an with ⟨V,ao⟩|⟨b,x,aR,z⟩
 . skip
   refine Rm rfl rfl (ao _) ?_
   have aS:=V
   refine fQ aW 16 ?_
   refine gp (v:=(Zb h)) Tryz.results77 rfl ?_
   have aV:=aX.fin hU.keys V
   have ap:=St.abg aW (i:=2) rfl
   have aq:=yg [4,0,1,2,3,5,6,7,8,9,10,11,12] ap
   have ar:=St.xX aq aV.1
   have au:=yg [10,0,1,2,3,4,5,6,7,8,9,11,12] ar
   have av:=St.xX au aV.2.1
   have I:=yg [2,3,4,1,6,7,8,9,10,0,11,12] av
   have a1:=(yy I (i:=10) rfl:j.A.ok)
   have a2:=(yy I (i:=11) rfl:m.ok)
   have aY:=hU.copy Z a1 a2 O.1 O.2.1 aV.2.2.1 aV.2.2.2 d e l f g
   have a4:=yp (p:=fU.ok fN fL s) (yc [_,_,_,_,_,_] _ I) hU
   have a5:St _ (gq [_,_,_,_,_,_] :: [(fU.R fN fL ub s)]) _:=yc [_,_,_,_,_,_] [(fU.R fN fL ub s)] (mS a4 (rD (l₁:=[_]) (l₂:=[_,_,_,_,_,_])))
   have a6:=mS (yp (p:=fU.ok fN fL (⟨d,e,l,f,g,s.last,j,m,s.live,T⟩:fU)) a5 aY.1) (List.Perm.swap _ _ _)
   exact⟨h,(⟨d,e,l,f,g,s.last,j,m,s.live,T⟩:fU),rfl,⟨aY.2,rfl⟩,yo (yc [_,_] _ a6)⟩
 . skip
   refine Rm rfl rfl (z.run _) ?_
   have ax:=z.st
   have ay:=yg [3,0,1,2,4,5,6,7,8,9,10,11,12] ax
   have B:=St.ad2 f_ (St.Po (St.xX ay z.perm))
   have be:b.2.2.length<=65536:=by have h7:=a3 b.1;rw[aX.at hU.keys z.perm]at h7;exact h7
   refine fK B 10 ?_
   refine WA (p:=b) 4 rfl rfl B rfl (fK B 3 ?_)
   refine vW (v:=b.2.1) rfl rfl (gH B 2 ?_)
   refine kO mixed [([0,1,2,3,4],[1])] [5] B (fun az C=>jR ?_)
   refine fK C 1 ?_
   refine ld rfl rfl yv rfl (k8 C 8 rfl rfl) (fK C 1 ?_)
   refine mv (v:=b.2.1) rfl rfl (cl IG (It b.2.1 b.2.2 az (iO C 0 rfl).any (by first|omega|(simp;omega))) ?_)
   rintro o aA hz
   have J:St _ (M4 o b.2.2 b.2.1 x ub fN fL s (some s.mb) (lX s.mb u .u64 p_ s.im x (some b)) dn h d e g (some f) f T aU j l m) aA:=xe C hz.2 hz.1
   refine fQ J 1 ?_
   refine vi (lN rfl (qY (mK rfl yv rfl (k8 J 9 rfl rfl)) rfl rfl) (trivial)) (kU ?_)
   refine qX (a:=b.1) (c:=(o,b.2.2)) (mm:=T) (enc:=p_) (k:=.u64) (L' := (M4 o b.2.2 b.2.1 x ub fN fL s (some s.mb) (lX s.mb u .u64 p_ s.im x (some b)) dn h d e g (some f) f (gx T b.1 (o,b.2.2)) aU j l m)) 11 rfl rfl rfl rfl yv yi J rfl rfl (fun aT W=>fQ W 2 ?_)
   refine tN (?_)
   have aB:=yg [1,6,0,2,3,4,5,7,8,9,10,11,12,13,14] W
   have aC:=((St.SA f_ aB).Iw (p:=b)).xX (rD (l₁:=[_]))
   have aD:=yg [1,11,0,2,3,4,5,6,7,8,9,10,12,13] aC
   have aE:=((St.SA f_ aD).Iw (p:=(b.1,(o,b.2.2)))).xX (rD (l₁:=[_]))
   have aF:=yg [3,4,5,2,1,6,7,8,9,10,0,11,12] aE
   exact again ((dn++[b]),x,(aU++[(b.1,(o,b.2.2))]),(gx T b.1 (o,b.2.2)),(some b)) ⟨rfl,rfl,trivial⟩ (⟨aF,aX.next hU.keys z.perm o⟩) (by have h7:=z.perm.length_eq;rw[zh]at h7;show x.length<td.length;omega)
end
end Go.Proofs.YthpnckhjmbbalaaGreatDoor
