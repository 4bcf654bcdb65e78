/- What the functions that the statements reach do: walks through the code of the program and of the references, one theorem a function; under what is said of its arguments. -/
import Derived.Test.YtedjjkcihkmjgaaGreatDoorFb
import Derived.Test.YtedjjkcihkmjgaaGreatDoorVa
import Derived.Test.YtedjjkcihkmjgaaGreatDoorFc
import Derived.Test.YtedjjkcihkmjgaaGreatDoorVc
import Derived.Test.YtedjjkcihkmjgaaGreatDoorFa
import Derived.Test.YtedjjkcihkmjgaaGreatDoorVb
import Derived.Ground.SlmcProg
import Derived.Shelf.SlMaps.Clone
import Derived.Ground.SlsfProg
import Derived.Shelf.SlSortCmp.NoneTotal
import Derived.Test.YtedjjkcihkmjgaaGreatDoorProg
import Derived.Test.YtedjjkcihkmjgaaGreatDoorFd
set_option linter.unusedVariables false
set_option linter.unusedSimpArgs false
set_option maxRecDepth 100000
set_option maxHeartbeats 4000000
namespace Go.Proofs.YtedjjkcihkmjgaaGreatDoor
section
open Go Go.Sx
theorem xV(fb nb m:Nat)(ed:Int)(xs:List Nd)(w:World)(hO:Own (Zk fb nb m ed xs) w)(hm:xs.length=m)(hb:m<=1000001)(hI:fZ xs)(F:FT)(hF:Fo xs F)(i:Nat)(hi:i≠0)(aI:i<m) :
 CR ya 288 (Zm fb i) w (fun r w' => ∃ l:Nat,r = .int .i64 (l:Int)/\∃ ys a R,kU xs F ys i a R/\fZ ys/\fV (Zk fb nb m ed xs) w w' (Zk fb nb m ed ys)):=by
 obtain⟨k0,aD⟩:=Ex.init hF (i:=i) o_
 refine en Tryz.func288 Tryz.ntmps288 ?_
 have aB:=(yq hO).unpack
 refine p8 aB 18 ?_
 refine lp (α:=List Nd×Nat×Nat×Nat×FT×Tr) (fun(zs,below,j,k,R,B)=>[(0,(Zb fb)),(1,(Za i)),(5,(Za below)),(6,(Za j))]) (fun(zs,below,j,k,R,B) w1=>St [(w,(Zk fb nb m ed xs).gH)] [blk fb 391 (vP fb nb m ed),blk nb 388 (zs.flatMap Nd.cells)] w1/\Ex xs F i zs below j k R B/\fZ zs/\zs.length=m) (fun(zs,below,j,k,R,B)=>k) (xs,0,i,k0,F,.nil) ⟨rfl,rfl,gj rO,gj rO,trivial⟩ (⟨aB,aD,hI,hm⟩) ?_
 rintro⟨zs,below,j,k,R,B⟩ ac D ⟨ap,hE,aA,aL⟩
 have aH:below<m:=by have h7:=hE.rep.Bk o_;rw[hE.root]at h7;omega
 have aJ:j<m:=by have h7:=hE.lt;omega
 refine fR ap 4 ?_
 by_cases Q:((j:Int):Int)=(0:Int)
 . have aG:j=0:=by omega
   refine fK ap 1 ?_
   subst aG
   obtain⟨au,av,aw,ax,ay,az⟩:=hE.fin hi
   have E:=yc [_,_] _ ap
   refine fK ap 12 ?_
   refine cl PA (Tj fb nb m ed zs D (ye E 0 rfl) (by first|exact hm|omega) hb aA i 0 B au av aw ax ay) ?_
   rintro _ ad ⟨rfl,u,G,S,H,I,U,ht⟩
   have J:=(yk E ht)
   have ae:u.length=m:=by have:=H.kl.len;omega
   refine fP J 9 ?_
   refine gq (v:=(Za below)) Tryz.results288 rfl ?_
   obtain⟨aE,h1,h2,h3,h4,h5⟩:=az u G S H I
   subst aE
   exact⟨below,rfl,u,G,R,⟨h1,I,h2,h3,h4,h5⟩,U,yi (yc [_,_] [] J)⟩
 . have aF:j≠0:=fun h7=>Q o_
   obtain⟨T,q,au,av,aw,ax,ay,az⟩:=hE.go aF
   have K:=yc [_,_] _ ap
   refine fK ap 12 ?_
   refine cl PA (Tj fb nb m ed zs D (ye K 0 rfl) (by first|exact hm|omega) hb aA j q T au av aw ax ay) ?_
   rintro _ af ⟨rfl,g,L,V,M,W,y,ht⟩
   have N:=(yk K ht)
   have ag:g.length=m:=by have:=M.kl.len;omega
   refine fK N 9 ?_
   refine jq (o' := j*9+0) (i:=(j:Int)) rfl rfl rfl yh jk (o9 (show j<(g).length from om)) o_ (gI N 16 fun ah h=>?_)
   refine jL (o:=j*9+0) (o' := j*9+1) (i:=1) rfl rfl rfl yo gr d_ rfl (fK h 1 ?_)
   refine jq (o' := ((fJ g j).k1)*9+0) (i:=((fJ g j).k1:Int)) rfl rfl rfl yh jk (o9 (show ((fJ g j).k1)<(g).length from(o9 (y.k1 j om)))) o_ (fK h 1 ?_)
   refine ld rfl rfl yf rfl (mV h (i:=1) rfl f_ (o9 (y.k1 j om)) rfl) (fK h 5 ?_)
   refine jq (o' := below*9+0) (i:=(below:Int)) rfl rfl rfl yh jk (o9 (show below<(g).length from om)) o_ (fK h 2 ?_)
   refine ar (e:=(IntKind.i64.wrap ((fJ g ((fJ g j).k1)).total-(fJ g below).total))) rfl rfl rfl rfl rfl (ar (e:=(IntKind.i64.wrap ((fJ g j).iX+(IntKind.i64.wrap ((fJ g ((fJ g j).k1)).total-(fJ g below).total))))) rfl rfl rfl rfl rfl (fK h 2 ?_))
   refine jZ (f:=(fun x:Nd=>{ x with iX:=(IntKind.i64.wrap ((fJ g j).iX+(IntKind.i64.wrap ((fJ g ((fJ g j).k1)).total-(fJ g below).total)))) })) 1 h (fun ai p aj=>?_)
   have z:fZ (fM g j (fun x=>{ x with iX:=(IntKind.i64.wrap ((fJ g j).iX+(IntKind.i64.wrap ((fJ g ((fJ g j).k1)).total-(fJ g below).total)))) })):=fZ.iR y om (fun x a b c d e=>⟨a,b,c,d,e⟩)
   obtain⟨X,Y,ak,z,p⟩:=iI (m:=m) z p
   refine fK p 8 ?_
   refine jL (o:=j*9+0) (o' := j*9+1) (i:=1) rfl rfl rfl yo gr d_ rfl (jZ (f:=(fun x:Nd=>{ x with k1:=below })) 1 p (fun Z s al=>?_))
   have t:fZ (fM X j (fun x=>{ x with k1:=below })):=fZ.iR z om (fun x a b c d e=>⟨a,om,c,d,e⟩)
   obtain⟨O,aa,am,t,s⟩:=iI (m:=m) t s
   have P:=yc [_,_] _ s
   refine fK s 6 ?_
   refine cl l7 (mc fb nb m ed O Z (ye P 0 rfl) oa hb t j o_) ?_
   rintro _ an ⟨rfl,ht⟩
   have n:=(yk P ht)
   have A:fZ (iQ O j):=fZ.lS t o_
   obtain⟨C,ab,ao,A,n⟩:=iI (m:=m) A n
   refine fK n 14 ?_
   refine jq (o' := j*9+0) (i:=(j:Int)) rfl rfl rfl yh jk om o_ (fP n 4 ?_)
   refine tN (?_)
   have e9:lM g j below=C:=by rw[ab,aa,Y];rfl
   obtain⟨aC,aK,k', R', hk,aq⟩:=az g L V M W
   rw[e9]at aC aq
   rw[<-aC]at aq
   exact again (C,j,(fJ C j).up,k', R', (.nd L j B)) ⟨rfl,rfl,gj rO,gj rO,trivial⟩ (⟨n,aq,A,o_⟩) (by subst hk;exact Nat.lt_succ_self _)
end
section
open Go Go.Sx
theorem Ue(fb nb m:Nat)(ed:Int)(w:World)(d:(Ah fb nb m ed).holds w)(hb:m<=1000001) :
 CR ya 323 (Zi fb) w (fun r w' => r = .bool true/\gw [] w w'):=by
 refine en Tryz.func323 Tryz.ntmps323 ?_
 have b:=yu w
 refine fR b 8 ?_
 refine l9 (a:=some ⟨fb,0,none⟩) (c:=true) rfl rfl rfl Tryz.underlying208 rfl (fK b 6 ?_)
 refine AH (a:=⟨fb,0,none⟩) rfl rfl rfl Tryz.underlying208 LJ (fP b 5 ?_)
 refine gq (v:=Zh) Tryz.results323 rfl ?_
 exact⟨rfl,b.gA s_⟩
theorem AL(fb nb m:Nat)(ed:Int)(w:World)(f:(Ah fb nb m ed).holds w)(hb:m<=1000001)(v:Nat)(hv:v+1<m) :
 CR ya 316 (Zm fb v) w (fun r w' => r = .bool true/\gw [] w w'):=by
 refine en Tryz.func316 Tryz.ntmps316 ?_
 have e:=yu w
 refine fR e 8 ?_
 refine cl Py (Ue fb nb m ed w (St.KP e s_ f) hb) ?_
 rintro _ d ⟨rfl,b⟩
 have a:=yp e b
 refine fK a 2 ?_
 refine cmp rfl rfl rfl (nG o_) (fK a 7 ?_)
 refine E8 (m:=m) (c:=m) rfl rfl yh (fK a 1 ?_)
 refine cmp rfl rfl rfl (pZ o_) (fP a 5 ?_)
 refine gq (v:=Zh) Tryz.results316 rfl ?_
 exact⟨rfl,a.gA s_⟩
theorem H9(fb nb m:Nat)(ed:Int)(w:World)(y:(Ah fb nb m ed).holds w)(hb:m<=1000001)(v:Value)(vs:List Nat)(hv:Ints .i64 (fun _=>True) w v (gz vs))(A:∀ x∈vs,x+1<m) :
 CR ya 272 (Hr fb v) w (fun r w' => r = .int .i64 0/\gw [] w w'):=by
 have C:(gz vs).length=vs.length:=by simp[gz]
 have D:=hv.len
 refine en Tryz.func272 Tryz.ntmps272 ?_
 have u:=yu w
 refine fR u 9 ?_
 refine cl Py (Ue fb nb m ed w (St.KP u s_ y) hb) ?_
 rintro _ h ⟨rfl,c⟩
 have a:=yp u c
 refine fK a 10 ?_
 refine j8 (v:=v) rfl rfl yd hv (gD a 4 ?_)
 refine lp (α:=Nat) (fun k=>[(0,(Zb fb)),(10,v),(11,(Za ((gz vs).length:Int))),(12,(Za k))]) (fun k w1=>St [(w,[])] [] w1/\k<=vs.length) (fun k=>vs.length-k) 0 ⟨rfl,rfl,rfl,gj rO,trivial⟩ (⟨a,o_⟩) ?_
 rintro k j d ⟨t,B⟩
 refine fR t 2 ?_
 by_cases l:((k:Int):Int)<(((gz vs).length:Int):Int)
 . obtain⟨x,z⟩:=nW (show k<vs.length by omega)
   refine fK t 11 ?_
   refine CC (i:=(k:Int)) (el:=(x:Int)) rfl rfl rfl yd gr (St.EV t s_ hv) o_ (by rw[show ((k:Nat):Int).toNat=k by omega];simp[gz,z]) ?_
   intro n o e f p
   have q:=f.i64
   refine ld rfl rfl yf rfl e (fK t 7 ?_)
   refine cl EB (AL fb nb m ed d (St.KP t s_ y) hb x (by first|omega|exact A _ (zd z))) ?_
   rintro _ s ⟨rfl,g⟩
   have b:=yp t g
   refine fP b 11 ?_
   refine tN (?_)
   exact again (k+1) ⟨rfl,rfl,rfl,gj rO,trivial⟩ (⟨b,o_⟩) (by show (vs.length-(k+1):Nat)<vs.length-k;omega)
 . refine fP t 16 ?_
   refine gq (v:=Zc) Tryz.results272 rfl ?_
   exact⟨rfl,t.gA s_⟩
theorem QZ(fb nb m:Nat)(ed:Int)(xs:List Nd)(w:World)(B:Own (Zk fb nb m ed xs) w)(hm:xs.length=m)(hb:m<=1000001)(A:fZ xs)(F:FT)(z:Fo xs F)(i:Nat)(hi:i≠0)(E:i<m) :
 CR ya 324 (Zm fb i) w (fun r w' => r = .tuple #[]/\∃ ys a R,kU xs F ys i a R/\fZ ys/\fV (Zk fb nb m ed xs) w w' (Zk fb nb m ed (kB ys i))):=by
 refine en Tryz.func324 Tryz.ntmps324 ?_
 have y:=(yq B).unpack
 have j:=yc [_,_] _ y
 refine fR y 4 ?_
 refine cl xS (xV fb nb m ed xs w (ye j 0 rfl) (by first|exact hm|omega) hb A F z i o_ o_) ?_
 rintro _ q ⟨G,rfl,g,o,p,k,l,C⟩
 have h:=(yk j C)
 have s:g.length=m:=by have:=k.len;omega
 refine fK h 8 ?_
 refine jq (o' := i*9+0) (i:=(i:Int)) rfl rfl rfl yh jk (o9 (show i<(g).length from om)) o_ (fK h 1 ?_)
 refine jZ (f:=(fun x:Nd=>{ x with flip:=true })) 1 h (fun t n u=>?_)
 have v:fZ (fM g i (fun x=>{ x with flip:=true })):=fZ.iR l om (fun x a b c d e=>⟨a,b,c,d,e⟩)
 refine fP n 1 ?_
 refine iS Tryz.results324 ?_
 have D:kB g i=fM g i (fun x=>{ x with flip:=true }):=rfl
 exact⟨rfl,g,o,p,k,l,yi (yc [_,_] [] n)⟩
theorem KA(fb nb m:Nat)(ed:Int)(xs:List Nd)(w:World)(G:Own (Zk fb nb m ed xs) w)(hm:xs.length=m)(hb:m<=1000001)(E:fZ xs)(F:FT)(D:Fo xs F)(i j:Nat)(hi:i≠0)(H:i<m)(I:j≠0)(J:j<m) :
 CR ya 274 (Zu fb i j) w (fun r w' => r = .tuple #[]/\∃ ys a R zs b R2,kU xs F ys i a R/\kU (kB ys i) ((.nd a i .nil,0) :: R) zs j b R2/\fZ zs/\fV (Zk fb nb m ed xs) w w' (Zk fb nb m ed zs)):=by
 refine en Tryz.func274 Tryz.ntmps274 ?_
 have C:=(yq G).unpack
 have e:=yc [_,_] _ C
 refine fR C 4 ?_
 refine cl Pz (QZ fb nb m ed xs w (ye e 0 rfl) (by first|exact hm|omega) hb E F D i o_ o_) ?_
 rintro _ p ⟨rfl,c,f,g,d,q,B⟩
 have h:=(yk e B)
 have s:c.length=m:=by have:=d.len;omega
 have t:fZ (kB c i):=q.lead o_
 have y:(kB c i).length=m:=(uV _ _).trans s
 have k:=yc [_,_] _ h
 refine fK h 5 ?_
 refine cl xS (xV fb nb m ed (kB c i) p (ye k 0 rfl) (by first|exact hm|omega) hb t ((.nd f i .nil,0) :: g) d.CG.fo j o_ o_) ?_
 rintro _ z ⟨K,rfl,l,u,v,n,x,B⟩
 have o:=(yk k B)
 have A:l.length=m:=by have:=n.len;omega
 refine fP o 1 ?_
 refine iS Tryz.results274 ?_
 exact⟨rfl,c,f,g,l,u,v,d,n,x,yi (yc [_,_] [] o)⟩
end
section
open Go Go.Sx
theorem G2(fb nb m:Nat)(ed:Int)(xs:List Nd)(w:World)(R:Own (Zk fb nb m ed xs) w)(hm:xs.length=m)(hb:m<=1000001)(Q:fZ xs)(F:FT)(M:Fo xs F)(a b:Nat)(T:a+1<m)(U:b+1<m) :
 CR ya 286 (Zu fb a b) w (fun r w' => ∃ B zs F2,r = .bool B/\(B=true↔Joined xs F (a+1) (b+1))/\Fo zs F2/\fZ zs/\zs.length=m/\(∀ u v,Joined zs F2 u v↔Joined xs F u v)/\(∀ k,(fJ zs k).key=(fJ xs k).key)/\fV (Zk fb nb m ed xs) w w' (Zk fb nb m ed zs)):=by
 refine en Tryz.func286 Tryz.ntmps286 ?_
 have O:=(yq R).unpack
 refine fR O 10 ?_
 refine cl EB (AL fb nb m ed w (O.at (i:=0) rfl) hb a o_) ?_
 rintro _ q ⟨rfl,s⟩
 have h:=yp O s
 refine fK h 4 ?_
 refine cl EB (AL fb nb m ed q (h.at (i:=0) rfl) hb b o_) ?_
 rintro _ t ⟨rfl,x⟩
 have f:=yp h x
 refine fK f 12 ?_
 by_cases D:((a:Int):Int)=((b:Int):Int)
 . refine fP f 11 ?_
   refine gq (v:=Zh) Tryz.results286 rfl ?_
   have S:a=b:=by omega
   subst S
   exact⟨true,xs,F,rfl,⟨fun _=>M.aaE o_ o_,fun _=>rfl⟩,M,Q,hm,fun _ _=>Iff.rfl,fun _=>rfl,yi (yc [_,_] _ f)⟩
 . have j:=yc [_,_] _ f
   refine fK f 11 ?_
   refine cl xS (xV fb nb m ed xs t (ye j 0 rfl) (by first|exact hm|omega) hb Q F M (a+1) o_ o_) ?_
   rintro _ y ⟨V,rfl,l,z,A,d,C,P⟩
   have n:=(yk j P)
   have E:l.length=m:=by have:=d.len;omega
   have o:=yc [_,_] _ n
   refine fK n 7 ?_
   refine cl xS (xV fb nb m ed l y (ye o 0 rfl) (by first|exact hm|omega) hb C ((.nd z (a+1) .nil,0) :: A) d.fo (b+1) o_ o_) ?_
   rintro _ G ⟨W,rfl,g,H,I,c,p,P⟩
   have e:=(yk o P)
   have J:g.length=m:=by have:=c.len;omega
   refine fK e 10 ?_
   refine jq (o' := (a+1)*9+0) (i:=(a:Int)+1) rfl rfl rfl yh jk (o9 (show (a+1)<(g).length from om)) o_ (fK e 2 ?_)
   by_cases K:(((fJ g (a+1)).up:Int):Int)=(0:Int)
   . refine fP e 5 ?_
     refine gq (v:=Zp) Tryz.results286 rfl ?_
     have N:=QI d c (show a+1≠b+1 by omega)
     exact⟨false,g,_,rfl,⟨fun L=>(by cases L),fun L=>absurd (N.2 L) o_⟩,c.fo,p,by have:=c.len;omega,fun u v=>(c.joined u v).trans (d.joined u v),fun k=>(c.key k).trans (d.key k),yi (yc [_,_] _ e)⟩
   . refine fP e 5 ?_
     refine gq (v:=Zh) Tryz.results286 rfl ?_
     have N:=QI d c (show a+1≠b+1 by omega)
     exact⟨true,g,_,rfl,⟨fun _=>N.1 o_,fun _=>rfl⟩,c.fo,p,by have:=c.len;omega,fun u v=>(c.joined u v).trans (d.joined u v),fun k=>(c.key k).trans (d.key k),yi (yc [_,_] _ e)⟩
theorem UJ(fb nb m:Nat)(ed:Int)(xs:List Nd)(w:World)(W:Own (Zk fb nb m ed xs) w)(hm:xs.length=m)(hb:m<=1000001)(V:fZ xs)(F:FT)(U:Fo xs F)(v:Nat)(hv:v+1<m)(key:Int)(hk:ia .i64 key) :
 CR ya 222 (Zu fb v key) w (fun r w' => r = .int .i64 0/\∃ zs F2,Fo zs F2/\fZ zs/\zs.length=m/\fV (Zk fb nb m ed xs) w w' (Zk fb nb m ed zs)):=by
 refine en Tryz.func222 Tryz.ntmps222 ?_
 have S:=(yq W).unpack
 refine fR S 10 ?_
 refine jJ (vs:=(Zd v)) (cs:=(Zd v)) rfl rfl yd gr rfl (by simp[Value.cells]) rfl rfl rfl S (fun u y G H h=>cl IL (H9 fb nb m ed y (h.at (i:=1) rfl) hb (Zy u) [v] (xm h (i:=0) rfl (Fq (m:=m) (P:=[v]) (by intro j O;simp at O;omega) hb)).any (by intro j O;simp at O;omega)) ?_)
 rintro _ z ⟨rfl,A⟩
 have n:=yp h A
 have B:=yg [1,2,0] n
 have o:=yc [_,_] _ B
 refine fK n 17 ?_
 refine cl xS (xV fb nb m ed xs z (ye o 0 rfl) (by first|exact hm|omega) hb V F U (v+1) o_ o_) ?_
 rintro _ I ⟨X,rfl,g,J,K,k,C,Q⟩
 have l:=(yk o Q)
 have L:g.length=m:=by have:=k.len;omega
 refine fK l 11 ?_
 refine jq (o' := (v+1)*9+0) (i:=(v:Int)+1) rfl rfl rfl yh jk (o9 (show (v+1)<(g).length from om)) o_ (fK l 1 ?_)
 refine jZ (f:=(fun x:Nd=>{ x with key:=key })) 1 l (fun D p M=>?_)
 have q:fZ (fM g (v+1) (fun x=>{ x with key:=key })):=fZ.iR C om (fun x a b c d e=>⟨a,b,c,d,hk⟩)
 have s:=yc [_,_] _ p
 refine fK p 7 ?_
 refine cl l7 (mc fb nb m ed (fM g (v+1) (fun x=>{ x with key:=key })) D (ye s 0 rfl) oa hb q (v+1) om) ?_
 rintro _ N ⟨rfl,Q⟩
 have t:=(yk s Q)
 have E:fZ (iQ (fM g (v+1) (fun x=>{ x with key:=key })) (v+1)):=fZ.lS q om
 refine fP t 8 ?_
 refine gq (v:=Zc) Tryz.results222 rfl ?_
 have T:wU g (v+1) key=iQ (fM g (v+1) (fun x=>{ x with key:=key })) (v+1):=rfl
 have R:=aeK (c:=key) k.fo
 exact⟨rfl,iQ (fM g (v+1) (fun x=>{ x with key:=key })) (v+1),_,R.1,E,by rw[<-T,R.2.1];have:=k.len;omega,yi (yc [_,_] _ t)⟩
theorem UD(fb nb m:Nat)(ed:Int)(xs:List Nd)(w:World)(T:Own (Zk fb nb m ed xs) w)(hm:xs.length=m)(hb:m<=1000001)(Q:fZ xs)(F:FT)(P:Fo xs F)(a b:Nat)(V:a+1<m)(W:b+1<m) :
 CR ya 273 (Zu fb a b) w (fun r w' => ∃ d zs F2,r = .int .i64 d/\Fo zs F2/\fZ zs/\zs.length=m/\(d=1->∃ L R,F2=(.nd L (b+1) .nil,0) :: R/\gB zs false (.nd L (b+1) .nil)=[a+1,b+1])/\fV (Zk fb nb m ed xs) w w' (Zk fb nb m ed zs)):=by
 refine en Tryz.func273 Tryz.ntmps273 ?_
 have N:=(yq T).unpack
 have k:=yc [_,_] _ N
 refine fR N 11 ?_
 refine cl IS (G2 fb nb m ed xs w (ye k 0 rfl) (by first|exact hm|omega) hb Q F P a b o_ o_) ?_
 rintro _ s ⟨t,l,O,rfl,u,g,n,x,y,B,K⟩
 have f:=(yk k K)
 refine gD f 3 ?_
 cases o:(t:Bool)
 . skip
   subst o
   refine iO f 8 ?_
   refine gq (v:=Zw) Tryz.results273 rfl ?_
   exact⟨-1,l,_,rfl,g,n,x,fun M=>absurd M d_,yi (yc [_,_] _ f)⟩
 . skip
   subst o
   have p:=yc [_,_] _ f
   refine fR f 10 ?_
   refine cl IN (KA fb nb m ed l s (ye p 0 rfl) (by first|exact hm|omega) hb n O g (a+1) (b+1) o_ o_ o_ o_) ?_
   rintro _ C ⟨rfl,D,E,G,c,q,z,h,e,A,K⟩
   have j:=(yk p K)
   have H:c.length=m:=by have I:=e.len;have J:=h.len;rw[uV]at I;omega
   have X:0<=(fJ c (b+1)).size/\(fJ c (b+1)).size<=1000000:=by have I:=(e.fo.rep (.nd q (b+1) .nil,0) s_).2.2.1.size;have J:=e.fo.count;simp only[Tr.mem]at I J;rw[I];omega
   refine fK j 10 ?_
   refine jq (o' := (b+1)*9+0) (i:=(b:Int)+1) rfl rfl rfl yh jk (o9 (show (b+1)<(c).length from om)) o_ (fP j 7 ?_)
   refine gq (v:=(Za (((fJ c (b+1)).size)-1))) Tryz.results273 rfl ?_
   have S:=(y (a+1) (b+1)).2 (u.1 rfl)
   have U:=fun hs=>Wx g S h e hs
   skip
   exact⟨(fJ c (b+1)).size-1,c,_,rfl,e.fo,A,by have I:=e.len;have J:=h.len;rw[uV]at I;omega,fun M=>⟨q,z,rfl,U o_⟩,yi (yc [_,_] _ j)⟩
theorem UG(fb nb m:Nat)(ed:Int)(xs:List Nd)(w:World)(Q:Own (Zk fb nb m ed xs) w)(hm:xs.length=m)(hb:m<=1000001)(P:fZ xs)(F:FT)(O:Fo xs F)(a b:Nat)(S:a+1<m)(T:b+1<m) :
 CR ya 216 (Zu fb a b) w (fun r w' => ∃ (f:Nat) (B:Bool),∃ zs F2,r = .tuple (qo f B)/\f+1<m/\Fo zs F2/\fZ zs/\zs.length=m/\fV (Zk fb nb m ed xs) w w' (Zk fb nb m ed zs)):=by
 refine en Tryz.func216 Tryz.ntmps216 ?_
 have M:=(yq Q).unpack
 have h:=yc [_,_] _ M
 refine fR M 12 ?_
 refine cl IS (G2 fb nb m ed xs w (ye h 0 rfl) (by first|exact hm|omega) hb P F O a b o_ o_) ?_
 rintro _ s ⟨t,j,N,rfl,y,k,l,u,z,A,K⟩
 have d:=(yk h K)
 refine gD d 3 ?_
 cases n:(t:Bool)
 . skip
   subst n
   refine iO d 9 ?_
   refine iD (v:=Zc) (v' := Zp) Tryz.results216 rfl rfl ?_
   exact⟨0,false,j,_,rfl,o_,k,l,u,yi (yc [_,_] _ d)⟩
 . skip
   subst n
   have o:=yc [_,_] _ d
   refine fR d 10 ?_
   refine cl IN (KA fb nb m ed j s (ye o 0 rfl) (by first|exact hm|omega) hb l N k (a+1) (b+1) o_ o_ o_ o_) ?_
   rintro _ C ⟨rfl,D,E,G,c,x,H,p,e,q,K⟩
   have g:=(yk o K)
   have I:c.length=m:=by have J:=e.len;have L:=p.len;rw[uV]at J;omega
   have U:(fJ c (b+1)).first≠0/\(fJ c (b+1)).first<m:=by have J:=e.fo.rep (.nd x (b+1) .nil,0) s_;have L:=J.qz _ J.2.2.1.first.1;have R:=q.first (b+1) o_;omega
   refine fK g 10 ?_
   refine jq (o' := (b+1)*9+0) (i:=(b:Int)+1) rfl rfl rfl yh jk (o9 (show (b+1)<(c).length from om)) o_ (fP g 8 ?_)
   refine iD (v:=(Za (((fJ c (b+1)).first:Int)-1))) (v' := Zh) Tryz.results216 rfl rfl ?_
   exact⟨(fJ c (b+1)).first-1,true,c,_,by rw[show (((fJ c (b+1)).first-1:Nat):Int)=((fJ c (b+1)).first:Int)-1 by omega],o_,e.fo,q,by have J:=e.len;have L:=p.len;rw[uV]at J;omega,yi (yc [_,_] _ g)⟩
theorem UF(fb nb m:Nat)(ed:Int)(xs:List Nd)(w:World)(hO:Own (Zk fb nb m ed xs) w)(hm:xs.length=m)(hb:m<=1000001)(hI:fZ xs)(F:FT)(hF:Fo xs F)(a b:Nat)(ha:a+1<m)(aG:b+1<m) :
 CR ya 287 (Zu fb a b) w (fun r w' => ∃ e aD, ∃ zs F2,r = .int .i64 e/\Fo zs F2/\fZ zs/\zs.length=m/\fV (Zk fb nb m ed xs) w w' (Zk fb nb m aD zs)):=by
 refine en Tryz.func287 Tryz.ntmps287 ?_
 have aC:=(yq hO).unpack
 refine fR aC 11 ?_
 refine jJ (vs:=(Zn a b)) (cs:=(Zn a b)) rfl rfl yd gr rfl (by simp[Value.cells]) rfl rfl rfl aC (fun J K ai aj q=>cl IL (H9 fb nb m ed K (q.at (i:=1) rfl) hb (xG J) [a,b] (xm q (i:=0) rfl (Fq (m:=m) (P:=[a,b]) (by intro j hj;simp at hj;omega) hb)).any (by intro j hj;simp at hj;omega)) ?_)
 rintro _ L ⟨rfl,M⟩
 have h:=yp q M
 refine fK h 17 ?_
 by_cases ak:((a:Int):Int)=((b:Int):Int)
 . refine fP h 11 ?_
   refine gq (v:=xF) Tryz.results287 rfl ?_
   have N:=yg [1,2,0] h
   exact⟨_,ed,xs,F,rfl,hF,hI,hm,yi (yc [_,_] _ N)⟩
 . skip
   have O:=yg [1,2,0] h
   have y:=yc [_,_] _ O
   refine fK h 12 ?_
   refine cl IS (G2 fb nb m ed xs L (ye y 0 rfl) (by first|exact hm|omega) hb hI F hF a b o_ o_) ?_
   rintro _ Q ⟨R,s,aA,rfl,S,t,z,U,V,al,T⟩
   have k:=(yk y T)
   refine gD k 2 ?_
   cases A:(R:Bool)
   . skip
     subst A
     have B:=yc [_,_] _ k
     refine fR k 8 ?_
     refine cl Pz (QZ fb nb m ed s Q (ye B 0 rfl) (by first|exact hm|omega) hb z aA t (a+1) o_ o_) ?_
     rintro _ W ⟨rfl,l,X,Y,n,Z,T⟩
     have C:=(yk B T)
     have aa:l.length=m:=by have:=n.len;omega
     have ab:fZ (kB l (a+1)):=Z.lead o_
     have am:(kB l (a+1)).length=m:=(uV _ _).trans aa
     have D:=yc [_,_] _ C
     refine fK C 7 ?_
     refine cl xS (xV fb nb m ed (kB l (a+1)) W (ye D 0 rfl) (by first|exact hm|omega) hb ab ((.nd X (a+1) .nil,0) :: Y) n.CG.fo (b+1) o_ o_) ?_
     rintro _ an ⟨l₁,rfl,g,ao,ap,o,ac,T⟩
     have u:=(yk D T)
     have aq:g.length=m:=by have:=o.len;omega
     refine fK u 12 ?_
     refine jq (o' := (a+1)*9+0) (i:=(a:Int)+1) rfl rfl rfl yh jk (o9 (show (a+1)<(g).length from om)) o_ (fK u 1 ?_)
     refine jZ (f:=(fun x:Nd=>{ x with up:=(b+1) })) 1 u (fun au ad av=>?_)
     have ae:fZ (fM g (a+1) (fun x=>{ x with up:=(b+1) })):=fZ.iR ac om (fun x a b c d e=>⟨a,b,om,d,e⟩)
     refine gI ad 10 fun aw p=>?_
     refine jq (o' := (b+1)*9+0) (i:=(b:Int)+1) rfl rfl rfl yh jk (o9 (show (b+1)<(fM g (a+1) (fun x=>{ x with up:=(b+1) })).length from om)) o_ (fK p 8 ?_)
     refine jq (o' := (a+1)*9+0) (i:=(a:Int)+1) rfl rfl rfl yh jk (o9 (show (a+1)<(fM g (a+1) (fun x=>{ x with up:=(b+1) })).length from om)) o_ (fK p 2 ?_)
     refine ar (e:=(IntKind.i64.wrap ((fJ (fM g (a+1) (fun x=>{ x with up:=(b+1) })) (b+1)).iX+(fJ (fM g (a+1) (fun x=>{ x with up:=(b+1) })) (a+1)).total))) rfl rfl rfl rfl rfl (jq (o' := (b+1)*9+0) (i:=(b:Int)+1) rfl rfl rfl yh jk (o9 (show (b+1)<(fM g (a+1) (fun x=>{ x with up:=(b+1) })).length from om)) o_ (fK p 1 ?_))
     refine jZ (f:=(fun x:Nd=>{ x with iX:=(IntKind.i64.wrap ((fJ (fM g (a+1) (fun x=>{ x with up:=(b+1) })) (b+1)).iX+(fJ (fM g (a+1) (fun x=>{ x with up:=(b+1) })) (a+1)).total)) })) 1 p (fun af E ax=>?_)
     have G:fZ (fM (fM g (a+1) (fun x=>{ x with up:=(b+1) })) (b+1) (fun x=>{ x with iX:=(IntKind.i64.wrap ((fJ (fM g (a+1) (fun x=>{ x with up:=(b+1) })) (b+1)).iX+(fJ (fM g (a+1) (fun x=>{ x with up:=(b+1) })) (a+1)).total)) })):=fZ.iR ae om (fun x a b c d e=>⟨a,b,c,d,e⟩)
     have H:=yc [_,_] _ E
     refine fK E 7 ?_
     refine cl l7 (mc fb nb m ed (fM (fM g (a+1) (fun x=>{ x with up:=(b+1) })) (b+1) (fun x=>{ x with iX:=(IntKind.i64.wrap ((fJ (fM g (a+1) (fun x=>{ x with up:=(b+1) })) (b+1)).iX+(fJ (fM g (a+1) (fun x=>{ x with up:=(b+1) })) (a+1)).total)) })) af (ye H 0 rfl) oa hb G (b+1) om) ?_
     rintro _ ay ⟨rfl,T⟩
     have I:=(yk H T)
     have ag:fZ (iQ (fM (fM g (a+1) (fun x=>{ x with up:=(b+1) })) (b+1) (fun x=>{ x with iX:=(IntKind.i64.wrap ((fJ (fM g (a+1) (fun x=>{ x with up:=(b+1) })) (b+1)).iX+(fJ (fM g (a+1) (fun x=>{ x with up:=(b+1) })) (a+1)).total)) })) (b+1)):=fZ.lS G om
     refine fK I 8 ?_
     refine ar (e:=(IntKind.i64.wrap (ed+1))) rfl rfl rfl rfl rfl (jV I 11 fun az ah=>?_)
     refine gq (v:=Zc) Tryz.results287 rfl ?_
     have aF:¬ Joined s aA (a+1) (b+1):=fun h9=>by have h8:=S.2 ((V _ _).1 h9);cases h8
     obtain⟨R3,aE⟩:=aa7 t n o aF o_ o_ o_ o_
     have aB:=aa8 (o.fo.perm (aE.cons _))
     have e9:qY g (a+1) (b+1)=iQ (fM (fM g (a+1) (fun x=>{ x with up:=(b+1) })) (b+1) (fun x=>{ x with iX:=(IntKind.i64.wrap ((fJ (fM g (a+1) (fun x=>{ x with up:=(b+1) })) (b+1)).iX+(fJ (fM g (a+1) (fun x=>{ x with up:=(b+1) })) (a+1)).total)) })) (b+1):=rfl
     exact⟨_,_,iQ (fM (fM g (a+1) (fun x=>{ x with up:=(b+1) })) (b+1) (fun x=>{ x with iX:=(IntKind.i64.wrap ((fJ (fM g (a+1) (fun x=>{ x with up:=(b+1) })) (b+1)).iX+(fJ (fM g (a+1) (fun x=>{ x with up:=(b+1) })) (a+1)).total)) })) (b+1),_,rfl,aB.1,ag,by rw[<-e9,aB.2.1];have h7:=o.len;have h8:=n.len;rw[uV]at h7;omega,yi (yc [_,_] _ ah)⟩
   . skip
     subst A
     refine iO k 8 ?_
     refine gq (v:=zW) Tryz.results287 rfl ?_
     exact⟨_,ed,s,_,rfl,t,z,U,yi (yc [_,_] _ k)⟩
theorem UC(fb nb m:Nat)(ed:Int)(xs:List Nd)(w:World)(hO:Own (Zk fb nb m ed xs) w)(hm:xs.length=m)(hb:m<=1000001)(hI:fZ xs)(F:FT)(hF:Fo xs F)(a b:Nat)(ha:a+1<m)(ax:b+1<m) :
 CR ya 199 (Zu fb a b) w (fun r w' => ∃ e ap, ∃ zs F2,r = .int .i64 e/\Fo zs F2/\fZ zs/\zs.length=m/\fV (Zk fb nb m ed xs) w w' (Zk fb nb m ap zs)):=by
 refine en Tryz.func199 Tryz.ntmps199 ?_
 have am:=(yq hO).unpack
 refine fR am 11 ?_
 refine jJ (vs:=(Zn a b)) (cs:=(Zn a b)) rfl rfl yd gr rfl (by simp[Value.cells]) rfl rfl rfl am (fun G H W X l=>cl IL (H9 fb nb m ed H (l.at (i:=1) rfl) hb (xG G) [a,b] (xm l (i:=0) rfl (Fq (m:=m) (P:=[a,b]) (by intro j hj;simp at hj;omega) hb)).any (by intro j hj;simp at hj;omega)) ?_)
 rintro _ I ⟨rfl,J⟩
 have t:=yp l J
 have K:=yg [1,2,0] t
 have u:=yc [_,_] _ K
 refine fK t 18 ?_
 refine cl XV (UD fb nb m ed xs I (ye u 0 rfl) (by first|exact hm|omega) hb hI F hF a b o_ o_) ?_
 rintro _ L ⟨M,y,ao,rfl,n,z,N,O,T⟩
 have h:=(yk u T)
 by_cases Y:(M:Int)=(1:Int)
 . have A:=yc [_,_] _ h
   refine fK h 13 ?_
   refine cl IN (KA fb nb m ed y L (ye A 0 rfl) (by first|exact hm|omega) hb z ao n (a+1) (b+1) o_ o_ o_ o_) ?_
   rintro _ Z ⟨rfl,aa,ab,ac,g,ad,ae,p,k,Q,T⟩
   have q:=(yk A T)
   have af:g.length=m:=by have h7:=k.len;have h8:=p.len;rw[uV]at h7;omega
   refine fK q 10 ?_
   refine jq (o' := (a+1)*9+0) (i:=(a:Int)+1) rfl rfl rfl yh jk (o9 (show (a+1)<(g).length from om)) o_ (fK q 1 ?_)
   refine jZ (f:=(fun x:Nd=>{ x with up:=0 })) 1 q (fun ag s ah=>?_)
   have R:fZ (fM g (a+1) (fun x=>{ x with up:=0 })):=fZ.iR Q om (fun x a b c d e=>⟨a,b,om,d,e⟩)
   refine fK s 10 ?_
   refine jq (o' := (b+1)*9+0) (i:=(b:Int)+1) rfl rfl rfl yh jk (o9 (show (b+1)<(fM g (a+1) (fun x=>{ x with up:=0 })).length from om)) o_ (fK s 1 ?_)
   refine jL (o:=(b+1)*9+0) (o' := (b+1)*9+0) (i:=0) rfl rfl rfl yo gr d_ rfl (jZ (f:=(fun x:Nd=>{ x with k0:=0 })) 1 s (fun S B ai=>?_))
   have C:fZ (fM (fM g (a+1) (fun x=>{ x with up:=0 })) (b+1) (fun x=>{ x with k0:=0 })):=fZ.iR R om (fun x a b c d e=>⟨om,b,c,d,e⟩)
   have D:=yc [_,_] _ B
   refine fK B 7 ?_
   refine cl l7 (mc fb nb m ed (fM (fM g (a+1) (fun x=>{ x with up:=0 })) (b+1) (fun x=>{ x with k0:=0 })) S (ye D 0 rfl) oa hb C (b+1) om) ?_
   rintro _ aj ⟨rfl,T⟩
   have E:=(yk D T)
   have U:fZ (iQ (fM (fM g (a+1) (fun x=>{ x with up:=0 })) (b+1) (fun x=>{ x with k0:=0 })) (b+1)):=fZ.lS C om
   refine fK E 8 ?_
   refine ar (e:=(IntKind.i64.wrap (ed-1))) rfl rfl rfl rfl rfl (jV E 11 fun ak V=>?_)
   refine gq (v:=Zc) Tryz.results199 rfl ?_
   obtain⟨b9,R9,aq,av⟩:=O o_
   subst aq
   obtain⟨au,aw⟩:=acU n av p k
   have al:=k.fo
   rw[au]at al
   have an:=age al
   have e9:vm g (a+1) (b+1)=iQ (fM (fM g (a+1) (fun x=>{ x with up:=0 })) (b+1) (fun x=>{ x with k0:=0 })) (b+1):=rfl
   exact⟨_,_,iQ (fM (fM g (a+1) (fun x=>{ x with up:=0 })) (b+1) (fun x=>{ x with k0:=0 })) (b+1),_,rfl,an.1,U,by rw[<-e9,an.2.1];have h7:=k.len;have h8:=p.len;rw[uV]at h7;omega,yi (yc [_,_] _ V)⟩
 . refine fP h 11 ?_
   refine gq (v:=(.int .i64 5)) Tryz.results199 rfl ?_
   exact⟨_,ed,y,_,rfl,n,z,N,yi (yc [_,_] _ h)⟩
end
section
open Go Go.Sx
theorem aaW(n:Nat)(w:World)(E:n<=65536) :
 CR ya 221 (Z4 n) w (fun r w' => ∃ fb nb,r = .tuple (Z0 fb)/\fV (gm []) w w' (gm (MJ fb nb (n+1) (mP n n)))):=by
 refine en Tryz.func221 Tryz.ntmps221 ?_
 have B:=yu w
 refine fR B 10 ?_
 refine cmp rfl rfl rfl (lG o_) (fK B 2 ?_)
 refine cmp rfl rfl rfl (qx o_) (fK B 10 ?_)
 refine nY (cf:=Nd.cells) (z0:=pq) (m:=n+1) (c:=n+1) rfl (gj o_) (gj o_) yh jk rfl f_ d_ (zj _) o_ o_ B ?_
 intro a f o p g
 have h:St [(w,[])] [blk a 388 ((mP n 0).flatMap Nd.cells)] f:=by rw[acj];exact g
 refine jc (pvs:=[(1,(Ze a (n+1)))]) (v:=.agg #[Zt,(Ze a (n+1)),Zc]) rfl rfl (jo [(1,(qq a (n+1)))] LJ adp rfl ⟨rfl,rfl,trivial⟩ rfl) (iC h (fun b q s t i=>?_))
 refine vh i 20 fun u j=>?_
 refine lp (α:=Nat) (fun k=>[(4,(Zb b)),(21,(Za n)),(22,(Za k))]) (fun k w1=>St [(w,[])] (MJ b a (n+1) (mP n k)) w1/\k<=n) (fun k=>n-k) 0 ⟨rfl,rfl,gj rO,trivial⟩ (⟨j,o_⟩) ?_
 rintro k x l ⟨A,D⟩
 refine fR A 2 ?_
 by_cases y:((k:Int):Int)<((n:Int):Int)
 . have d:=yc [_,_] [] A
   refine fK A 19 ?_
   refine cl l7 (mc b a (n+1) 0 (mP n k) l (ye d 0 rfl) (sV n k) o_ (RA o_) (k+1) o_) ?_
   rintro _ z ⟨rfl,C⟩
   rw[aci (show k<n by omega)]at C
   have e:=(yk d C)
   refine fP e 7 ?_
   refine tN (?_)
   exact again (k+1) ⟨rfl,rfl,gj rO,trivial⟩ (⟨e,o_⟩) (by show (n-(k+1):Nat)<n-k;omega)
 . refine fP A 18 ?_
   refine iD (v:=(Zb b)) (v' := Zc) Tryz.results221 rfl rfl ?_
   obtain rfl:k=n:=by omega
   exact⟨b,a,rfl,nS (yc [_,_] [] A)⟩
end
section
open Go Go.Sx
def j7(fb nb m:Nat):fT where
 gH:=[fb,nb]
 holds w:=∃ (ed:Int) (xs:List Nd) (F:FT),(xs.length=m/\fZ xs/\Fo xs F)/\(Zk fb nb m ed xs).holds w
 loc w w' h hh:=by
  obtain⟨ed,xs,F,a,c⟩:=hh
  exact⟨ed,xs,F,a,(Zk fb nb m ed xs).loc w w' (fun b hb=>h b (by simpa[gm,iZ,blk]using hb)) c⟩
theorem wm(fb nb m:Nat)(ed:Int)(xs:List Nd):(Zk fb nb m ed xs).gH=(j7 fb nb m).gH:=by simp[gm,iZ,blk,j7]
theorem CT{fb nb m:Nat}{w:World}(h:Own (j7 fb nb m) w):∃ (ed:Int) (xs:List Nd) (F:FT),xs.length=m/\fZ xs/\Fo xs F/\Own (Zk fb nb m ed xs) w:=by
 obtain⟨ed,xs,F,⟨a,c,d⟩,e⟩:=h.holds
 exact⟨ed,xs,F,a,c,d,e,by rw[wm];exact h.nodup,fun b hb=>h.lt b (by rw[wm]at hb;exact hb)⟩
theorem Df{fb nb m:Nat}{w w' : World}{ed a : Int}{xs zs:List Nd}{F:FT}(h:fV (Zk fb nb m ed xs) w w' (Zk fb nb m a zs))(h1:zs.length=m)(c:fZ zs)(d:Fo zs F):fV (j7 fb nb m) w w' (j7 fb nb m) :=
 ⟨⟨a, zs,F,⟨h1,c,d⟩,h.holds⟩,by have:=h.gA;rw[wm]at this;exact this,fun b hb=>by have:=h.place b (by rw[wm];exact hb);rw[wm]at this;exact this,by have:=h.nodup;rw[wm]at this;exact this,fun b hb=>h.lt b (by rw[wm];exact hb)⟩
theorem af2{fb nb m:Nat}{w w' : World}{ed:Int}{xs:List Nd}{F:FT}(h:fV (gm []) w w' (Zk fb nb m ed xs))(h1:xs.length=m)(a:fZ xs)(b:Fo xs F):fV (gm []) w w' (j7 fb nb m) :=
 h.Ff (wm fb nb m ed xs).symm fun c=>⟨ed,xs,F,⟨h1,a,b⟩,c⟩
theorem Ra(fb nb m:Nat)(w:World)(i:Own (j7 fb nb m) w)(hb:m<=1000001)(a:Nat)(k:a+1<m)(key:Int)(hk:ia .i64 key) :
 CR ya 222 (Zu fb a key) w (fun r w' => r = .int .i64 0/\fV (j7 fb nb m) w w' (j7 fb nb m)):=by
 obtain⟨ed,xs,F,b,c,d,j⟩:=CT i
 exact CR.mono (UJ fb nb m ed xs w j b hb c F d a k key hk) fun r w' ⟨e,zs,F2,f,g,h,l⟩=>⟨e,Df l h g f⟩
theorem abc(fb nb m:Nat)(w:World)(k:Own (j7 fb nb m) w)(hb:m<=1000001)(a b:Nat)(n:a+1<m)(o:b+1<m) :
 CR ya 216 (Zu fb a b) w (fun r w' => ∃ (f:Nat) (B:Bool),r = .tuple (qo f B)/\f+1<m/\fV (j7 fb nb m) w w' (j7 fb nb m)):=by
 obtain⟨ed,xs,F,c,d,g,l⟩:=CT k
 exact CR.mono (UG fb nb m ed xs w l c hb d F g a b n o) fun r w' ⟨f,B,zs,F2,e,p,h,i,j,q⟩=>⟨f,B,e,p,Df q j i h⟩
theorem Q6(fb nb m:Nat)(w:World)(j:Own (j7 fb nb m) w)(hb:m<=1000001)(a b:Nat)(l:a+1<m)(n:b+1<m) :
 CR ya 287 (Zu fb a b) w (fun r w' => ∃ e:Int,r = .int .i64 e/\fV (j7 fb nb m) w w' (j7 fb nb m)):=by
 obtain⟨ed,xs,F,c,d,f,k⟩:=CT j
 exact CR.mono (UF fb nb m ed xs w k c hb d F f a b l n) fun r w' ⟨e,q, zs,F2,o,g,h,i,p⟩=>⟨e,o,Df p i h g⟩
theorem QU(fb nb m:Nat)(w:World)(j:Own (j7 fb nb m) w)(hb:m<=1000001)(a b:Nat)(l:a+1<m)(n:b+1<m) :
 CR ya 199 (Zu fb a b) w (fun r w' => ∃ e:Int,r = .int .i64 e/\fV (j7 fb nb m) w w' (j7 fb nb m)):=by
 obtain⟨ed,xs,F,c,d,f,k⟩:=CT j
 exact CR.mono (UC fb nb m ed xs w k c hb d F f a b l n) fun r w' ⟨e,q, zs,F2,o,g,h,i,p⟩=>⟨e,o,Df p i h g⟩
end
section
open Go Go.Sx
def QS.R(hb n:Nat)(s:QS):fT:=kO (s.ok n) (gm [blk hb 385 (pX hb n s.iv s.pv),fL gG.cells s.iv 250 2 s.fQ,fL iw s.pv 399 1 s.ps,gJ fS 401 64 s.ps s.pl])
def QS.SR(sb hb n:Nat)(s:QS):fT:=gm [blk sb 318 (xK n hb),(QS.R hb n s)]
abbrev B6(a:WW)(b:Nat):=(QS.SR a.sb a.hb b a.q:fT)
abbrev DQ a (b c d:Nat) (e:Int) (f g:Nat) h:=(gm [a,blk b 115 (Zf c),blk d 2 (Zd e),blk c 318 (xK f g),QS.R g f h]:fT)
abbrev Ae(a b c:Nat)(d:Int)(e:Nat)(f:Int)(g h:Nat) i:=(gm [blk a 115 (Zf b),blk c 3 (Zd d),blk e 2 (Zd f),blk b 318 (xK g h),QS.R h g i]:fT)
theorem SG(n:Nat)(w:World)(a:n<=65536) :
 CR ya 220 (Z4 n) w (fun r w' => ∃ hb s,r = .tuple (Z0 hb)/\s.fQ=[]/\fV (gm []) w w' (QS.R hb n s)) :=
 CR.mono (Z8 n w a) fun r w' ⟨hb,pv,b,c⟩=>⟨hb,⟨.slice none 0 0,pv,List.replicate ((n+63) / 64) none,[],List.replicate (64*((n+63) / 64)) 0⟩,b,rfl,c.Gm ⟨Hp.new rfl,jx.new a rfl,Ord.nil⟩⟩
theorem adH(hb n:Nat)(s:QS)(w:World)(a:Own (QS.R hb n s) w)(i:Nat)(hi:i<n)(c:∀ e∈s.fQ,e.ix≠i) :
 CR ya 282 (Zm hb i) w (fun r w' => r = .tuple Hj/\fV (QS.R hb n s) w w' (QS.R hb n s)) :=
 CR.mono (Z1 hb n s.iv s.pv s.ps s.fQ s.pl w a.un a.fact.hp a.fact.gR i hi (a.fact.free hi c)) fun r w' ⟨b,d⟩=>⟨b,d.qb a.fact⟩
theorem adK(hb n:Nat)(s:QS)(w:World)(f:Own (QS.R hb n s) w)(i:Nat)(hi:i<n)(h:∀ e∈s.fQ,e.ix≠i)(key:Int)(hk:ia .i64 key) :
 CR ya 214 (Zu hb i key) w (fun r w' => ∃ s2,r = .int .i64 0/\(∀ e,e∈s2.fQ↔e∈s.fQ\/e=⟨i,key⟩)/\fV (QS.R hb n s) w w' (QS.R hb n s2)) :=
 CR.mono (Qs hb n s.iv s.pv s.ps s.fQ s.pl w f.un f.fact.hp f.fact.gR f.fact.ord i hi (f.fact.free hi h) key hk) fun r w' ⟨g,k,l,ys,m,a,b,c,d,_,_,j⟩=>⟨⟨k,s.pv,l,ys,m⟩,g,d,j.qb ⟨a,b,c⟩⟩
theorem adL(hb n:Nat)(s:QS)(w:World)(e:Own (QS.R hb n s) w)(i:Nat)(hi:i<n)(key:Int)(hk:ia .i64 key) :
 CR ya 214 (Zu hb i key) w (fun r w' => ∃ z s2,r = .int .i64 z/\fV (QS.R hb n s) w w' (QS.R hb n s2)):=by
 rcases BI (fJ s.pl i)with h|h
 . exact CR.mono (Qs hb n s.iv s.pv s.ps s.fQ s.pl w e.un e.fact.hp e.fact.gR e.fact.ord i hi h key hk) fun r w' ⟨f,j,k,ys,l,a,b,c,d,_,_,g⟩=>⟨0,⟨j,s.pv,k,ys,l⟩,f,g.qb ⟨a,b,c⟩⟩
 . exact CR.mono (aah hb n s.iv s.pv s.ps s.fQ s.pl w e.un e.fact.hp e.fact.gR i hi (fJ s.pl i-1) o_ key) fun r w' ⟨f,g⟩=>⟨6,s,f,g.qb e.fact⟩
theorem SE(hb n:Nat)(s:QS)(w:World)(a:Own (QS.R hb n s) w)(b:s.fQ.length=0) :
 CR ya 197 (Zi hb) w (fun r w' => r = .tuple BU/\fV (QS.R hb n s) w w' (QS.R hb n s)) :=
 CR.mono (Qq hb n s.iv s.pv s.ps s.fQ s.pl w a.un a.fact.hp a.fact.gR b) fun r w' ⟨c,d⟩=>⟨c,d.qb a.fact⟩
theorem SF(hb n:Nat)(s:QS)(w:World)(a:Own (QS.R hb n s) w)(b:0<s.fQ.length) :
 CR ya 197 (Zi hb) w (fun r w' => r = .tuple (BV ((fJ s.fQ 0).ix:Int) ((fJ s.fQ 0).key))/\fV (QS.R hb n s) w w' (QS.R hb n s)) :=
 CR.mono (Qr hb n s.iv s.pv s.ps s.fQ s.pl w a.un a.fact.hp a.fact.gR b) fun r w' ⟨c,d⟩=>⟨c,d.qb a.fact⟩
theorem adI(hb n:Nat)(s:QS)(w:World)(a:Own (QS.R hb n s) w)(b:s.fQ.length=0) :
 CR ya 126 (Zi hb) w (fun r w' => r = .tuple BU/\fV (QS.R hb n s) w w' (QS.R hb n s)) :=
 CR.mono (aaf hb n s.iv s.pv s.ps s.fQ s.pl w a.un a.fact.hp a.fact.gR b) fun r w' ⟨c,d⟩=>⟨c,d.qb a.fact⟩
theorem SH(hb n:Nat)(s:QS)(w:World)(g:Own (QS.R hb n s) w)(h:0<s.fQ.length) :
 CR ya 126 (Zi hb) w (fun r w' => ∃ s2,r = .tuple (BV ((fJ s.fQ 0).ix:Int) ((fJ s.fQ 0).key))/\((∀ e,e∈s2.fQ↔e∈s.fQ/\e.ix≠(fJ s.fQ 0).ix)/\s2.fQ.length+1=s.fQ.length)/\fV (QS.R hb n s) w w' (QS.R hb n s2)) :=
 CR.mono (aag hb n s.iv s.pv s.ps s.fQ s.pl w g.un g.fact.hp g.fact.gR g.fact.ord h) fun r w' ⟨i,k,l,ys,m,a,b,c,d,_,f,j⟩=>⟨⟨k,s.pv,l,ys,m⟩,i,⟨d,f⟩,j.qb ⟨a,b,c⟩⟩
theorem adG(hb n:Nat)(s:QS)(w:World)(a:Own (QS.R hb n s) w) :
 CR ya 208 (Zi hb) w (fun r w' => ∃ b s2,r = .pointer (some ⟨b,0,none⟩)/\s2.fQ=s.fQ/\fV (QS.R hb n s) w w' (gm [QS.R hb n s,QS.R b n s2])) :=
 CR.mono (ZX hb n s.iv s.pv s.ps s.fQ s.pl w a.un a.fact.hp a.fact.gR) fun r w' ⟨b,c,d,e,g,i,_,j⟩=>⟨b,⟨c,d,e,s.fQ,s.pl⟩,g,rfl,(fV.EL (A:=[blk hb 385 [(.pointer (some ⟨hb,0,none⟩)),(.int .i64 n),s.iv,s.pv],fL gG.cells s.iv 250 2 s.fQ,fL iw s.pv 399 1 s.ps,gJ fS 401 64 s.ps s.pl]) (B:=[blk b 385 [(.pointer (some ⟨b,0,none⟩)),(.int .i64 n),c,d],fL gG.cells c 250 2 s.fQ,fL iw d 399 1 e,gJ fS 401 64 e s.pl]) j).LY.Ff rfl (fun h=>by
  intro Q f
  simp only[ze,oV,or_false]at f
  rcases f with rfl|rfl
  . exact⟨a.fact,h _ s_⟩
  . exact⟨⟨a.fact.hp,i,a.fact.ord⟩,h _ s_⟩)⟩
end
section
open Go Go.Sx
theorem C2(sb hb n:Nat)(s:QS)(w:World)(d:Own (QS.SR sb hb n s) w) :
 CR ya 124 (Zi sb) w (fun r w' => r = .bool true/\fV (QS.SR sb hb n s) w w' (QS.SR sb hb n s)):=by
 refine en Tryz.func124 Tryz.ntmps124 ?_
 have b:=Own.of d
 have e:=(y8 b (i:=1) rfl:s.ok n)
 refine fR b 8 ?_
 refine l9 (a:=some ⟨sb,0,none⟩) (c:=true) rfl rfl rfl Tryz.underlying115 rfl (fK b 5 ?_)
 refine l9 (a:=some ⟨hb,0,none⟩) (c:=true) rfl rfl rfl GD rfl (fP b 5 ?_)
 refine gq (v:=Zh) Tryz.results124 rfl ?_
 exact⟨rfl,yi (yc [_,_] _ b)⟩
theorem aeT(n:Nat)(w:World)(l:n<=65536) :
 CR ya 146 (Z4 n) w (fun r w' => ∃ sb hb s,r = .tuple (Z0 sb)/\s.fQ=[]/\fV (gm []) w w' (QS.SR sb hb n s)):=by
 refine en Tryz.func146 Tryz.ntmps146 ?_
 have k:=yu w
 refine fR k 9 ?_
 refine cl O9 (SG n w l) ?_
 rintro _ g ⟨a,e,rfl,f,m⟩
 have b:=(jR k m)
 refine fK b 21 ?_
 refine jc (pvs:=[(0,(Za n)),(1,(Zb a))]) (v:=.agg (BX n a)) rfl rfl (jo [(0,(Zd n)),(1,(Zf a))] LG Sk rfl ⟨rfl,rfl,rfl,rfl,trivial⟩ rfl) (iC b (fun c h i j d=>?_))
 refine fP d 5 ?_
 refine iD (v:=(Zb c)) (v' := Zc) Tryz.results146 rfl rfl ?_
 exact⟨c,a,e,rfl,f,nS (yc [_,_] _ d)⟩
theorem aeU(sb hb n:Nat)(s:QS)(w:World)(y:Own (QS.SR sb hb n s) w)(x:s.fQ.length=0) :
 CR ya 135 (Zi sb) w (fun r w' => r = .tuple BU/\fV (QS.SR sb hb n s) w w' (QS.SR sb hb n s)):=by
 refine en Tryz.func135 Tryz.ntmps135 ?_
 have t:=Own.of y
 have z:=(y8 t (i:=1) rfl:s.ok n)
 refine fR t 2 ?_
 refine iE t (fun k e l m b=>?_)
 have f:=yg [1,2,0] b
 have c:=yc [_,_] _ f
 refine fK b 7 ?_
 refine cl Cu (C2 sb hb n s e (ye c 0 rfl)) ?_
 rintro _ g ⟨rfl,u⟩
 have h:=yj 0 c u
 have a:=yv h
 refine fK a 12 ?_
 refine cl AA (SE hb n s g (ye a 1 rfl) x) ?_
 rintro _ p ⟨rfl,u⟩
 have j:=yj 1 a u
 refine jV j 7 fun q d=>?_
 refine oO (v:=HH) (v' := Zp) Tryz.results135 (oc (cs:=vJ) rfl xl rfl qa rfl (me d (i:=2) (o:=0) (vs:=vJ) rfl rfl)) (pH rfl) ?_
 exact⟨rfl,yi (yc [_,_] _ d)⟩
theorem aeV(sb hb n:Nat)(s:QS)(w:World)(y:Own (QS.SR sb hb n s) w)(x:0<s.fQ.length) :
 CR ya 135 (Zi sb) w (fun r w' => r = .tuple (BV ((fJ s.fQ 0).ix:Int) ((fJ s.fQ 0).key))/\fV (QS.SR sb hb n s) w w' (QS.SR sb hb n s)):=by
 refine en Tryz.func135 Tryz.ntmps135 ?_
 have t:=Own.of y
 have z:=(y8 t (i:=1) rfl:s.ok n)
 refine fR t 2 ?_
 refine iE t (fun k e l m b=>?_)
 have f:=yg [1,2,0] b
 have c:=yc [_,_] _ f
 refine fK b 7 ?_
 refine cl Cu (C2 sb hb n s e (ye c 0 rfl)) ?_
 rintro _ g ⟨rfl,u⟩
 have h:=yj 0 c u
 have a:=yv h
 refine fK a 12 ?_
 refine cl AA (SF hb n s g (ye a 1 rfl) x) ?_
 rintro _ p ⟨rfl,u⟩
 have j:=yj 1 a u
 refine jV j 7 fun q d=>?_
 refine oO (v:=(Ca ((fJ s.fQ 0).ix:Int) ((fJ s.fQ 0).key))) (v' := Zh) Tryz.results135 (oc (cs:=(Zn ((fJ s.fQ 0).ix:Int) ((fJ s.fQ 0).key))) rfl xl rfl qa rfl (me d (i:=2) (o:=0) (vs:=(Zn ((fJ s.fQ 0).ix:Int) ((fJ s.fQ 0).key))) rfl rfl)) (pH rfl) ?_
 exact⟨rfl,yi (yc [_,_] _ d)⟩
theorem aeI(b1 b2 b3 sb hb n:Nat)(s:QS)(w:World)(i:Nat)(hi:i<n)(j:∀ e∈s.fQ,e.ix≠i)(key:Int)(hk:ia .i64 key)(h:Own (Ae b1 sb b2 i b3 key n hb s) w) :
 CR ya 212 #[Zp,(Zb b1),(Zb b2),(Zb b3)] w (fun r w' => ∃ s2,r = .int .i64 0/\(∀ e,e∈s2.fQ↔e∈s.fQ\/e=⟨i,key⟩)/\fV (Ae b1 sb b2 i b3 key n hb s) w w' (Ae b1 sb b2 i b3 key n hb s2)):=by
 refine en Tryz.func212 Tryz.ntmps212 ?_
 have k:=Own.of h
 refine nN k 22 fun c a=>?_
 refine cl O7 (adK hb n s c (ye a 4 rfl) i hi j key hk) ?_
 rintro _ g ⟨d,rfl,f,l⟩
 have b:=yj 4 a l
 refine fP b 4 ?_
 refine gq (v:=Zc) Tryz.results212 rfl ?_
 exact⟨d,rfl,f,yi (yc [_,_,_,_,_] _ b)⟩
theorem afl(b1 b2 b3 sb hb n:Nat)(s:QS)(w:World)(i:Nat)(hi:i<n)(u:∀ e∈s.fQ,e.ix≠i)(key:Int)(hk:ia .i64 key)(y:Own (Ae b1 sb b2 i b3 key n hb s) w) :
 CR ya 211 #[(Zb sb),(Za i),(.func (.func 212) #[] (MS b1 b2 b3))] w (fun r w' => ∃ s2,r = .int .i64 0/\(∀ e,e∈s2.fQ↔e∈s.fQ\/e=⟨i,key⟩)/\fV (Ae b1 sb b2 i b3 key n hb s) w w' (Ae b1 sb b2 i b3 key n hb s2)):=by
 refine en Tryz.func211 Tryz.ntmps211 ?_
 have x:=Own.of y
 have g:=yg [3,4,0,1,2] x
 have b:=yc [_,_] _ g
 refine fR x 9 ?_
 refine cl Cu (C2 sb hb n s w (ye b 0 rfl)) ?_
 rintro _ h ⟨rfl,t⟩
 have j:=yj 0 b t
 have a:=yv j
 refine fK a 10 ?_
 refine cmp rfl rfl rfl (lG o_) (fK a 6 ?_)
 refine cmp rfl rfl rfl (p5 o_) (fK a 13 ?_)
 refine cl XZ (adH hb n s h (ye a 1 rfl) i hi u) ?_
 rintro _ k ⟨rfl,t⟩
 have c:=yj 1 a t
 have l:=yg [2,3,4,0,1] c
 have d:=yc [_,_,_,_,_] _ l
 refine fK c 11 ?_
 refine nV (fi:=[]) (ca:=(Ab b1 b2 b3)) rfl rfl rfl XC (aeI b1 b2 b3 sb hb n s k i hi u key hk (ye d 0 rfl)) ?_
 rintro _ q ⟨m,rfl,o,t⟩
 have p:=yj 0 d t
 have f:=yv p
 refine fP f 4 ?_
 refine gq (v:=Zc) Tryz.results211 rfl ?_
 exact⟨m,rfl,o,yi (yc [_,_,_,_,_] _ f)⟩
theorem afb(sb hb n:Nat)(s:QS)(w:World)(F:Own (QS.SR sb hb n s) w)(i:Nat)(hi:i<n)(G:∀ e∈s.fQ,e.ix≠i)(key:Int)(hk:ia .i64 key) :
 CR ya 141 (Zu sb i key) w (fun r w' => ∃ s2,r = .int .i64 0/\(∀ e,e∈s2.fQ↔e∈s.fQ\/e=⟨i,key⟩)/\fV (QS.SR sb hb n s) w w' (QS.SR sb hb n s2)):=by
 refine en Tryz.func141 Tryz.ntmps141 ?_
 have E:=Own.of F
 have I:=(y8 E (i:=1) rfl:s.ok n)
 refine fR E 2 ?_
 refine iC E (fun a t u x h=>?_)
 refine iC h (fun b y z A j=>?_)
 refine iC j (fun c k B C d=>?_)
 refine fK d 7 ?_
 refine mO (vf:=[]) (vc:=(Ab a b c)) rfl rfl rfl ?_
 have l:=yg [2,1,0,3,4] d
 have f:=yc [_,_,_,_,_] _ l
 refine cl XB (afl a b c sb hb n s k i hi G key hk (ye f 0 rfl)) ?_
 rintro _ D ⟨m,rfl,o,H⟩
 have p:=yj 0 f H
 have g:=yv p
 refine fP g 4 ?_
 refine gq (v:=Zc) Tryz.results141 rfl ?_
 have q:=yg [3,4,0,1,2] g
 exact⟨m,rfl,o,yi (yc [_,_] _ q)⟩
end
section
open Go Go.Sx
theorem WH(sb:Nat)(now:Int)(w:World) :
 CR ya 125 (Zm sb now) w (fun r w' => ∃ m tb,r = .func (.func 196) #[] (xH m tb)/\fV (gm []) w w' (gm [blk m 115 (Zf sb),blk tb 2 (Zd now)])):=by
 refine en Tryz.func125 Tryz.ntmps125 ?_
 have l:=yu w
 refine fR l 2 ?_
 refine iC l (fun a f g h d=>?_)
 refine iC d (fun b i j k c=>?_)
 refine fK c 5 ?_
 refine mO (vf:=[]) (vc:=(qp a b)) rfl rfl rfl (fP c 4 ?_)
 refine gq (v:=(.func (.func 196) #[] (xH a b))) Tryz.results125 rfl ?_
 have e:=yg [1,0] c
 exact⟨a,b,rfl,nS (yc [_,_] _ e)⟩
theorem WG{γ:Type}(T:γ->fT)(F:γ->List Nat)(z0:γ)(l X tb sb hb n:Nat)(s:QS)(now:Int)(w:World)(hy:∀ (z:γ) (i:Nat) (bs:List (World×List Nat)) (L:List fT) (w:World),i<n->(F z).length<=65536->St bs (T z :: L) w->YR ya l (Zd i) w (fun v w' => v = .bool true/\∃ z2,F z2=F z++[i]/\St bs (T z2 :: L) w'))(ai:(F z0).length=0)(hn:n<=65536)(hO:Own (DQ (T z0) X sb tb now n hb s) w) :
 CR ya 196 (Hs (.func (.yield l) #[] #[]) X tb) w (fun r w' => ∃ z s2 ds,r = .tuple #[]/\F z=F z0++ds/\rH n s s2 ds now/\fV (DQ (T z0) X sb tb now n hb s) w w' (DQ (T z) X sb tb now n hb s2)):=by
 refine en Tryz.func196 Tryz.ntmps196 ?_
 have af:=Own.of hO
 have ae:=(y8 af (i:=4) rfl:s.ok n)
 refine p8 af 1 ?_
 refine lp (α:=γ×QS) (fun(z,t)=>[(0,(.func (.yield l) #[] #[])),(1,(Zb X)),(2,(Zb tb))]) (fun(z,t) w1=>St [(w,(DQ (T z0) X sb tb now n hb s).gH)] [(T z),blk X 115 (Zf sb),blk tb 2 (Zd now),blk sb 318 (xK n hb),(QS.R hb n t)] w1/\∃ ds,uC s.fQ t.fQ ds now/\F z=F z0++ds) (fun(z,t)=>t.fQ.length) (z0,s) ⟨rfl,rfl,rfl,trivial⟩ (⟨af,[],uC.start _ _,by rw[xq]⟩) ?_
 rintro⟨z,t⟩ D c ⟨Y,ds,hI,aa⟩
 have ad:=(y8 Y (i:=4) rfl:t.ok n)
 obtain⟨k,E⟩:∃ q,BI t.fQ.length=q:=⟨_,rfl⟩
 refine fR Y 7 ?_
 rcases k with W|W
 . skip
   refine cl AA (SE hb n t c (ye Y 4 rfl) W) ?_
   rintro _ G ⟨rfl,Z⟩
   have d:=yj 4 Y Z
   refine fK d 3 ?_
   refine iE d (fun H I J K m=>?_)
   refine jV m 23 fun M o=>?_
   refine wN Tryz.results196 ?_
   have p:=yg [1,2,3,4,5,0] o
   have ab:=hI.fin ae ad (Or.inl W)
   exact⟨z,t,ds,rfl,aa,ab,yi (yc [_,_,_,_,_] _ p)⟩
 . skip
   refine cl AA (SF hb n t c (ye Y 4 rfl) W) ?_
   rintro _ N ⟨rfl,Z⟩
   have e:=yj 4 Y Z
   refine fK e 3 ?_
   refine iE e (fun O P Q S u=>?_)
   refine gI u 13 fun x a=>?_
   by_cases f:((fJ t.fQ 0).key:Int)>(now:Int)
   . have ac:now<(fJ t.fQ 0).key:=by have h7:=@f;omega
     refine fP a 10 ?_
     refine wN Tryz.results196 ?_
     have y:=yg [1,2,3,4,5,0] a
     have ab:=hI.fin ae ad (Or.inr ac)
     exact⟨z,t,ds,rfl,aa,ab,yi (yc [_,_,_,_,_] _ y)⟩
   . have ac:(fJ t.fQ 0).key<=now:=by have h7:=@f;omega
     refine fK a 13 ?_
     refine cl OO (SH hb n t x (ye a 5 rfl) W) ?_
     rintro _ U ⟨g,rfl,b,Z⟩
     have h:=yj 5 a Z
     have A:=yg [1,2,3,4,5,0] h
     have ah:=ad.lt (r6.2 ⟨0,W,rfl⟩)
     have ag:(F z).length<=65536:=by have h7:=hI.len;have h8:=ae.hp.len;rw[aa,zp,ai];omega
     refine fK h 7 ?_
     refine yl (vl:=(Zd ((fJ t.fQ 0).ix:Int))) rfl rfl rfl (hy z (fJ t.fQ 0).ix _ _ _ ah ag A) ?_
     rintro _ V ⟨rfl,B,aj,j⟩
     refine fP j 6 ?_
     refine tN (?_)
     have C:=yg [0,1,2,3,4] j
     exact again (B,g) ⟨rfl,rfl,rfl,trivial⟩ (⟨C,(ds++[(fJ t.fQ 0).ix]),hI.step W ac b.1 b.2,by rw[aj,aa,oT]⟩) (by have h7:=b.2;show g.fQ.length<t.fQ.length;omega)
theorem ab8(ds:List Nat)(i:Nat):gz (ds++[i])=gz ds++[(i:Int)]:=by simp[gz]
theorem aeE(sb hb n:Nat)(s:QS)(w:World)(hO:Own (QS.SR sb hb n s) w)(now:Int)(hn:n<=65536) :
 CR ya 73 (Zm sb now) w (fun r w' => ∃ v ds t,r=v/\rH n s t ds now/\fV (QS.SR sb hb n s) w w' (gm [(QS.SR sb hb n t),ig .i64 v 3 (gz ds)])):=by
 refine xU (vs:=(tF sb now)) Tryz.func73 rfl Tryz.ntmps73 rfl ?_
 have aa:=Own.of hO
 have aq:=(y8 aa (i:=1) rfl:s.ok n)
 have f:=yc [_,_] _ aa
 refine fR aa 9 ?_
 refine cl Cu (C2 sb hb n s w (ye f 0 rfl)) ?_
 rintro _ M ⟨rfl,ht⟩
 have u:=yj 0 f ht
 have g:=yv u
 refine fK g 8 ?_
 refine iE g (fun a x N O h=>?_)
 refine fK h 7 ?_
 refine cl W1 (WH sb now x) ?_
 rintro _ y ⟨b,c,rfl,ht⟩
 have j:=yv (jR h ht)
 have A:St _ [ig .i64 Zg 3 ([]),blk b 115 (Zf sb),blk c 2 (Zd now),blk a 37 o4,blk sb 318 (xK n hb),(QS.R hb n s)] y:=oQ j 3 1
 have B:=yg [3,0,1,2,4,5] A
 have C:=B
 have D:=C
 refine gD j 3 ?_
 refine rf (α:=Value×List Nat×QS) (ps:=[13]) (fi:=[]) (ca:=(qp b c)) (fun(v,ds,t)=>[blk a 37 [v],ig .i64 v 3 (gz ds),blk b 115 (Zf sb),blk c 2 (Zd now),blk sb 318 (xK n hb),(QS.R hb n t)]) (fun(v,ds,t)=>rH n s t ds now) D rfl Xu ?_ ?_
 . intro fn dd l wl rc T an
   have E:=yg [0,2,3,4,5,6,7,1] an
   have ah:=yc [iT l rc,blk a 37 o4,ig .i64 Zg 3 (gz ([]))] [blk b 115 (Zf sb),blk c 2 (Zd now),blk sb 318 (xK n hb),(QS.R hb n s),jK dd (some [])] E
   have ac:rc.state = .ready:=by rw[T]
   have aj:rc.pending=none:=by rw[T]
   have ak:∀ (z:Value×List Nat) (i:Nat) (bs:List (World×List Nat)) (L:List fT) (w:World),i<n->((Prod.snd:Value×List Nat->List Nat) z).length<=65536->St bs ((fun((v,ds):Value×List Nat)=>gm [iT l rc,blk a 37 [v],ig .i64 v 3 (gz ds)]) z :: L) w->YR ya l (Zd i) w (fun v w' => v = .bool true/\∃ z2,(Prod.snd:Value×List Nat->List Nat) z2=(Prod.snd:Value×List Nat->List Nat) z++[i]/\St bs ((fun((v,ds):Value×List Nat)=>gm [iT l rc,blk a 37 [v],ig .i64 v 3 (gz ds)]) z2 :: L) w'):=by
    intro z i bs LT wr hi ap F
    have F:=F.unpack
    refine wO (vl:=(Zd i)) 0 T F rfl rfl rfl (iO F 3 ?_)
    refine tN (?_)
    refine xN 0 F rfl ac rfl (fun P m=>fR m 4 ?_)
    refine jJ (vs:=(Zd i)) (cs:=(Zd i)) rfl rfl yd gr rfl (by simp[Value.cells]) rfl rfl rfl m (fun G Q S U o=>vQ (k:=.i64) (ys:=gz z.2) (zs:=[(i:Int)]) (LL:=fun d=>(ig .i64 (Zy G) 3 ([(i:Int)]) :: iT l { rc with state:=.busy } :: blk a 37 [z.1] :: ig .i64 d 3 ((gz z.2)++([(i:Int)])) :: LT)) 3 rfl rfl rfl yd gr rfl o rfl (kG o (i:=0) rfl) (by simp only[gz,zq,zb,zg,maxLen];first|omega|skip) (by simp only[gz,zq,zb,zg,maxLen];first|omega|skip) f_ ?_)
    intro d V H W
    have e:=St.sub (L' := (iT l { rc with state:=.busy } :: blk a 37 [z.1] :: ig .i64 d 3 ((gz z.2)++([(i:Int)])) :: LT)) H (List.Sublist.cons _ (List.Sublist.refl _))
    refine jM 1 e (fun X p=>?_) (hvs:=(cells_one (yr e (i:=2) rfl))) (h1:=(gX (yr e (i:=2) rfl) j4))
    refine fP p 2 ?_
    refine xR 0 p rfl ac aj rfl ?_
    intro Y I
    have ad:=I
    rw[<-ab8]at ad
    exact⟨_,rfl,rfl,(d,z.2++[i]),rfl,yc [_,_,_] _ ad⟩
   have ab:=yc [_,_,_,_,_] _ ah
   refine CR.mono (WG (fun((v,ds):Value×List Nat)=>gm [iT l rc,blk a 37 [v],ig .i64 v 3 (gz ds)]) Prod.snd (.slice none 0 0,[]) l b c sb hb n s now wl ak rfl hn (ye ab 0 rfl)) ?_
   rintro _ w9 ⟨z,t,ds,-,ai,ae,ao⟩
   have am:=(yk ab ao).unpack
   have J:=yg [0,7,1,2,3,4,5,6] am
   exact⟨(z.1,z.2,t),by rw[show z.2=ds by simpa using ai];exact ae,J⟩
 . rintro⟨v,ds,t⟩ dd Z hC q
   refine r8 tt none q 9 ?_
   refine AT 0 q rfl rfl ?_
   intro w8 al
   have K:=yg [5,6,2,0,1,3,4] al
   have ag:=yc [_,_] _ K
   have af:St _ (gm [(QS.SR sb hb n t),ig .i64 v 3 (gz ds)] :: _) _:=yc [_,_] _ ag
   have hT:fV (QS.SR sb hb n s) w _ (gm [(QS.SR sb hb n t),ig .i64 v 3 (gz ds)]):=yi af
   exact⟨_,results_tmp Tryz.results73 _ _ _,_,rfl,by rw[qW];exact⟨v,ds,t,rfl,hC,hT⟩⟩
theorem aeC(sb hb n:Nat)(s:QS)(w:World)(C:Own (QS.SR sb hb n s) w) :
 CR ya 137 (Zi sb) w (fun r w' => ∃ z D s2,r = .pointer (some ⟨z,0,none⟩)/\s2.fQ=s.fQ/\fV (QS.SR sb hb n s) w w' (gm [(QS.SR sb hb n s),(QS.SR z D n s2)])):=by
 refine en Tryz.func137 Tryz.ntmps137 ?_
 have x:=Own.of C
 have F:=(y8 x (i:=1) rfl:s.ok n)
 have b:=yc [_,_] _ x
 refine fR x 9 ?_
 refine cl Cu (C2 sb hb n s w (ye b 0 rfl)) ?_
 rintro _ m ⟨rfl,y⟩
 have g:=yj 0 b y
 have c:=yv g
 refine gD c 7 ?_
 refine kC mixed [([0,1,2,3,4,5,6,7,8],[3])] [9,10,11] c (fun h a=>jA ?_)
 refine fK a 8 ?_
 refine cl XA (adG hb n s h (ye a 1 rfl)) ?_
 rintro _ o ⟨u,E,rfl,j,y⟩
 have k:=yg [1,0] a
 have d:=yv (yj 0 k y)
 refine fP d 1 ?_
 refine kn (kF ?_)
 refine jc (pvs:=[(0,(Za n)),(1,(Zb u))]) (v:=.agg (BX n u)) rfl rfl (jo [(0,(Zd n)),(1,(Zf u))] LG Sk rfl ⟨rfl,rfl,rfl,rfl,trivial⟩ rfl) (iC d (fun e p q t f=>?_))
 refine fP f 4 ?_
 refine gq (v:=(Zb e)) Tryz.results137 rfl ?_
 have l:=yg [3,1,0,2] f
 exact⟨e,u,E,rfl,j,(fV.EL (A:=[_,_]) (B:=[_,_]) (yi (yc [_,_,_,_] _ l)))⟩
end
section
open Go Go.Sx
def GW.R(fO fN ob:Nat)(s:GW):fT:=kO (s.ok fO fN) (gm [blk ob 214 (zZ fO fN s (some s.mb)),(j7 s.fb s.nb (fN+fO+1)),(QS.R s.hb fN s.q),ic s.mb .i64 Ed.enc s.m])
abbrev MK(a:Nat)(b c:Int)(d:Lv)(e:Int)(f g:Nat)(h:Int)(i j:Nat)(k:Int)(l:WW) m n:=([blk a 43 [.int .i64 b,.int .u64 c,.int .u64 d.u,.int .u64 d.v,.int .i64 d.wt,.int .i64 d.t,.int .i64 e],blk f 41 (Z3 d),blk g 118 (xI h i j k l),blk l.cb 247 (Zn h l.now),kO m (fU.R j i l.ub n),QS.SR l.sb l.hb i l.q,GW.R j i l.ob l.g]:List fT)
theorem Jb(fO fN ob:Nat)(s:GW)(w:World)(d:Own (GW.R fO fN ob s) w) :
 CR ya 105 (Zi ob) w (fun r w' => r = .bool true/\fV (GW.R fO fN ob s) w w' (GW.R fO fN ob s)):=by
 refine en Tryz.func105 Tryz.ntmps105 ?_
 have b:=Own.of d.un
 have e:s.ok fO fN:=d.fact
 refine fR b 8 ?_
 refine l9 (a:=some ⟨ob,0,none⟩) (c:=true) rfl rfl rfl Tryz.underlying116 rfl (fK b 5 ?_)
 refine Ry (a:=some s.mb) (c:=true) rfl rfl rfl sB rfl (fP b 5 ?_)
 refine gq (v:=Zh) Tryz.results105 rfl ?_
 exact⟨rfl,ym (yt (p:=s.ok fO fN) (yc [_,_,_,_] _ b) e) za⟩
theorem I7(fO fN ob:Nat)(s:GW)(w:World)(e:Own (GW.R fO fN ob s) w)(v:Nat)(hv:v<fO) :
 CR ya 215 (Zm ob v) w (fun r w' => r = .bool true/\fV (GW.R fO fN ob s) w w' (GW.R fO fN ob s)):=by
 have k:=e.fact.vn
 have j:=e.fact.v2
 have i:=e.fact.en
 refine en Tryz.func215 Tryz.ntmps215 ?_
 have g:=Own.of e.un
 have f:s.ok fO fN:=e.fact
 have b:=yt (p:=GW.ok fO fN s) (yc [_,_,_,_] _ g) f
 refine fR g 8 ?_
 refine cl Ix (Jb fO fN ob s w (ye b 0 rfl)) ?_
 rintro _ d ⟨rfl,h⟩
 have c:=yj 0 b h
 have a:=(ku c).unpack
 refine fK a 2 ?_
 refine cmp rfl rfl rfl (nG o_) (fK a 7 ?_)
 refine cmp rfl rfl rfl (pZ o_) (fP a 5 ?_)
 refine gq (v:=Zh) Tryz.results215 rfl ?_
 exact⟨rfl,ym (yt (p:=s.ok fO fN) (yc [_,_,_,_] _ a) f) za⟩
theorem I6(fO fN ob:Nat)(s:GW)(w:World)(F:Own (GW.R fO fN ob s) w)(k:Nat)(hk:k+1<(fN+fO+1)) :
 CR ya 217 (Zm ob k) w (fun r w' => ∃ (s2:GW),r = .tuple #[]/\fV (GW.R fO fN ob s) w w' (GW.R fO fN ob s2)):=by
 have V:=F.fact.vn
 have U:=F.fact.v2
 have Q:=F.fact.en
 have M:=F.fact.get (k:Int)
 have S:=M.a
 have T:=M.b
 refine en Tryz.func217 Tryz.ntmps217 ?_
 have O:=Own.of F.un
 have P:s.ok fO fN:=F.fact
 refine fR O 7 ?_
 refine qZ (a:=(k:Int)) (mm:=s.m) (enc:=Ed.enc) (k:=.i64) 3 rfl rfl rfl sB yf yW rfl O rfl (iE O (fun i A B C j=>?_))
 refine gI j 13 fun l f=>?_
 refine cl Pa (Ra s.fb s.nb (fN+fO+1) l (ye f 2 rfl) o_ k hk ((gh s.m (k:Int)).exp) M.exp) ?_
 rintro _ D ⟨rfl,N⟩
 have n:=yj 2 f N
 refine gI n 16 fun o g=>?_
 refine ar (e:=(((fN+(gh s.m (k:Int)).a):Nat):Int)) rfl rfl rfl rfl iW (cl Pp (Q6 s.fb s.nb (fN+fO+1) o (ye g 2 rfl) o_ k (fN+(gh s.m (k:Int)).a) hk o_) ?_)
 rintro _ E ⟨G,rfl,N⟩
 have t:=yj 2 g N
 refine gI t 16 fun u h=>?_
 refine ar (e:=(((fN+(gh s.m (k:Int)).b):Nat):Int)) rfl rfl rfl rfl iW (cl Pp (Q6 s.fb s.nb (fN+fO+1) u (ye h 2 rfl) o_ k (fN+(gh s.m (k:Int)).b) hk o_) ?_)
 rintro _ H ⟨I,rfl,N⟩
 have v:=yj 2 h N
 refine gI v 16 fun J x=>?_
 refine ri (a:=(k:Int)) (c:=(⟨((gh s.m (k:Int)).a),((gh s.m (k:Int)).b),(gh s.m (k:Int)).exp,true⟩:Ed)) (mm:=s.m) (enc:=Ed.enc) (k:=.i64) (L' := [blk i 254 [(Za ((gh s.m (k:Int)).a:Int)),(Za ((gh s.m (k:Int)).b:Int)),(Za ((gh s.m (k:Int)).exp)),Zh],blk ob 214 (zZ fO fN s (some s.mb)),(j7 s.fb s.nb (fN+fO+1)),(QS.R s.hb fN s.q),ic s.mb .i64 Ed.enc (gF s.m (k:Int) (⟨((gh s.m (k:Int)).a),((gh s.m (k:Int)).b),(gh s.m (k:Int)).exp,true⟩:Ed))]) 4 rfl rfl rfl rfl sB yf x rfl rfl (fun K d=>fP d 1 ?_)
 refine Ku tt none d 6 ?_
 refine ar (e:=(IntKind.i64.wrap (s.trees+1))) rfl rfl rfl rfl rfl (jV d 4 fun L y=>?_)
 refine iS Tryz.results217 ?_
 have z:=yg [1,2,3,4,0] y
 exact⟨(⟨s.fb,s.nb,s.hb,s.mb,(IntKind.i64.wrap (s.trees+1)),s.q,(gF s.m (k:Int) (⟨((gh s.m (k:Int)).a),((gh s.m (k:Int)).b),(gh s.m (k:Int)).exp,true⟩:Ed))⟩:GW),rfl,ym (yt (p:=GW.ok fO fN (⟨s.fb,s.nb,s.hb,s.mb,(IntKind.i64.wrap (s.trees+1)),s.q,(gF s.m (k:Int) (⟨((gh s.m (k:Int)).a),((gh s.m (k:Int)).b),(gh s.m (k:Int)).exp,true⟩:Ed))⟩:GW)) (yc [_,_,_,_] _ z) (P.put (by exact⟨M.a,M.b,M.exp⟩))) za⟩
theorem I8(fO fN ob:Nat)(s:GW)(w:World)(F:Own (GW.R fO fN ob s) w)(k:Nat)(hk:k+1<(fN+fO+1)) :
 CR ya 127 (Zm ob k) w (fun r w' => ∃ (s2:GW),r = .tuple #[]/\fV (GW.R fO fN ob s) w w' (GW.R fO fN ob s2)):=by
 have Q:=F.fact.vn
 have P:=F.fact.v2
 have M:=F.fact.en
 have I:=F.fact.get (k:Int)
 have N:=I.a
 have O:=I.b
 refine en Tryz.func127 Tryz.ntmps127 ?_
 have J:=Own.of F.un
 have L:s.ok fO fN:=F.fact
 refine fR J 7 ?_
 refine qZ (a:=(k:Int)) (mm:=s.m) (enc:=Ed.enc) (k:=.i64) 3 rfl rfl rfl sB yf yW rfl J rfl (iE J (fun h x y z i=>?_))
 refine gI i 17 fun j f=>?_
 refine ar (e:=(((fN+(gh s.m (k:Int)).a):Nat):Int)) rfl rfl rfl rfl iW (cl O4 (QU s.fb s.nb (fN+fO+1) j (ye f 2 rfl) o_ k (fN+(gh s.m (k:Int)).a) hk o_) ?_)
 rintro _ A ⟨B,rfl,K⟩
 have l:=yj 2 f K
 refine gI l 16 fun n g=>?_
 refine ar (e:=(((fN+(gh s.m (k:Int)).b):Nat):Int)) rfl rfl rfl rfl iW (cl O4 (QU s.fb s.nb (fN+fO+1) n (ye g 2 rfl) o_ k (fN+(gh s.m (k:Int)).b) hk o_) ?_)
 rintro _ C ⟨D,rfl,K⟩
 have o:=yj 2 g K
 refine gI o 16 fun E t=>?_
 refine ri (a:=(k:Int)) (c:=(⟨((gh s.m (k:Int)).a),((gh s.m (k:Int)).b),(gh s.m (k:Int)).exp,false⟩:Ed)) (mm:=s.m) (enc:=Ed.enc) (k:=.i64) (L' := [blk h 254 [(Za ((gh s.m (k:Int)).a:Int)),(Za ((gh s.m (k:Int)).b:Int)),(Za ((gh s.m (k:Int)).exp)),Zp],blk ob 214 (zZ fO fN s (some s.mb)),(j7 s.fb s.nb (fN+fO+1)),(QS.R s.hb fN s.q),ic s.mb .i64 Ed.enc (gF s.m (k:Int) (⟨((gh s.m (k:Int)).a),((gh s.m (k:Int)).b),(gh s.m (k:Int)).exp,false⟩:Ed))]) 4 rfl rfl rfl rfl sB yf t rfl rfl (fun G d=>fP d 1 ?_)
 refine Ku tt none d 6 ?_
 refine ar (e:=(IntKind.i64.wrap (s.trees-1))) rfl rfl rfl rfl rfl (jV d 4 fun H u=>?_)
 refine iS Tryz.results127 ?_
 have v:=yg [1,2,3,4,0] u
 exact⟨(⟨s.fb,s.nb,s.hb,s.mb,(IntKind.i64.wrap (s.trees-1)),s.q,(gF s.m (k:Int) (⟨((gh s.m (k:Int)).a),((gh s.m (k:Int)).b),(gh s.m (k:Int)).exp,false⟩:Ed))⟩:GW),rfl,ym (yt (p:=GW.ok fO fN (⟨s.fb,s.nb,s.hb,s.mb,(IntKind.i64.wrap (s.trees-1)),s.q,(gF s.m (k:Int) (⟨((gh s.m (k:Int)).a),((gh s.m (k:Int)).b),(gh s.m (k:Int)).exp,false⟩:Ed))⟩:GW)) (yc [_,_,_,_] _ v) (L.put (by exact⟨I.a,I.b,I.exp⟩))) za⟩
end
section
open Go Go.Sx
theorem adJ(hb n:Nat)(s:QS)(w:World)(d:Own (QS.R hb n s) w) :
 CR ya 126 (Zi hb) w (fun r w' => ∃ (i:Nat) (k:Int) (b:Bool) (s2:QS),r = .tuple #[.agg (Zx i k),.bool b]/\(b=true->i<n)/\fV (QS.R hb n s) w w' (QS.R hb n s2)):=by
 rcases BI s.fQ.length with a|a
 . exact CR.mono (adI hb n s w d a) fun r w' ⟨c,e⟩=>⟨0,0,false,s,c,fun h=>(by cases h),e⟩
 . exact CR.mono (SH hb n s w d a) fun r w' ⟨s2,c,_,e⟩=>⟨_,_,true,s2,c,fun _=>d.fact.hp.ix 0 a,e⟩
theorem ZS(fO fN ob:Nat)(s:GW)(w:World)(F:Own (GW.R fO fN ob s) w) :
 CR ya 74 (Zi ob) w (fun r w' => ∃ (s2:GW) (i:Nat) (b:Bool),r = .tuple (qo i b)/\fV (GW.R fO fN ob s) w w' (GW.R fO fN ob s2)):=by
 have ag:=F.fact.vn
 have af:=F.fact.v2
 have ad:=F.fact.en
 refine en Tryz.func74 Tryz.ntmps74 ?_
 have ab:=Own.of F.un
 have hG:s.ok fO fN:=F.fact
 have j:=yt (p:=GW.ok fO fN s) (yc [_,_,_,_] _ ab) hG
 refine fR ab 10 ?_
 refine cl Ix (Jb fO fN ob s w (ye j 0 rfl)) ?_
 rintro _ A ⟨rfl,T⟩
 have B:=yj 0 j T
 have g:=(ku B).unpack
 refine fK g 12 ?_
 refine cl OO (adJ s.hb fN s.q A (ye g 2 rfl)) ?_
 rintro _ O ⟨d,l,C,e,rfl,D,T⟩
 have n:=yj 2 g T
 have ac:=D
 refine fK n 3 ?_
 refine iE n (fun o P Q S E=>?_)
 refine vh E 11 fun U h=>?_
 cases t:(C:Bool)
 . skip
   subst t
   refine iO h 9 ?_
   refine iD (v:=Zc) (v' := Zp) Tryz.results74 rfl rfl ?_
   have G:=yg [1,2,3,4,0] h
   exact⟨(⟨s.fb,s.nb,s.hb,s.mb,s.trees,e,s.m⟩:GW),0,false,rfl,ym (yt (p:=GW.ok fO fN (⟨s.fb,s.nb,s.hb,s.mb,s.trees,e,s.m⟩:GW)) (yc [_,_,_,_] _ G) hG.same) za⟩
 . skip
   subst t
   have ae:=ac rfl
   refine nN h 12 fun H f=>?_
   refine qZ (a:=(d:Int)) (mm:=s.m) (enc:=Ed.enc) (k:=.i64) 4 rfl rfl rfl sB yf yW rfl f rfl (Qe (cs:=#[(Za ((gh s.m (d:Int)).a:Int)),(Za ((gh s.m (d:Int)).b:Int)),(Za ((gh s.m (d:Int)).exp)),(.bool ((gh s.m (d:Int)).tree))]) (v:=(.bool ((gh s.m (d:Int)).tree))) rfl rfl Tryz.underlying254 rfl y9 rfl rfl (gD f 2 ?_))
   cases V:((gh s.m (d:Int)).tree:Bool)
   . skip
     refine nN f 11 fun W I=>?_
     refine Cs (a:=(d:Int)) (mm:=s.m) (enc:=Ed.enc) (k:=.i64) (L' := [blk o 250 (Zn d l),blk ob 214 (zZ fO fN s (some s.mb)),(j7 s.fb s.nb (fN+fO+1)),(QS.R s.hb fN e),ic s.mb .i64 Ed.enc (je s.m (d:Int))]) 4 rfl rfl rfl sB yf I rfl rfl (fun X u=>fP u 11 ?_)
     refine iD (v:=(Za d)) (v' := Zh) Tryz.results74 rfl rfl ?_
     have J:=yg [1,2,3,4,0] u
     exact⟨(⟨s.fb,s.nb,s.hb,s.mb,s.trees,e,(je s.m (d:Int))⟩:GW),d,true,rfl,ym (yt (p:=GW.ok fO fN (⟨s.fb,s.nb,s.hb,s.mb,s.trees,e,(je s.m (d:Int))⟩:GW)) (yc [_,_,_,_] _ J) hG.del) za⟩
   . skip
     have K:=yg [1,2,3,4,0] f
     have x:=yt (p:=GW.ok fO fN (⟨s.fb,s.nb,s.hb,s.mb,s.trees,e,s.m⟩:GW)) (yc [_,_,_,_] _ K) hG.same
     refine fR f 5 ?_
     refine cl Iz (I8 fO fN ob (⟨s.fb,s.nb,s.hb,s.mb,s.trees,e,s.m⟩:GW) H (ye x 0 rfl) d o_) ?_
     rintro _ Y ⟨c,rfl,T⟩
     have y:=yj 0 x T
     have L:GW.ok fO fN c:=sC y
     have M:=(ku y).unpack
     refine gI M 10 fun Z N=>?_
     refine Cs (a:=(d:Int)) (mm:=c.m) (enc:=Ed.enc) (k:=.i64) (L' := [blk ob 214 (zZ fO fN c (some c.mb)),(j7 c.fb c.nb (fN+fO+1)),(QS.R c.hb fN c.q),ic c.mb .i64 Ed.enc (je c.m (d:Int)),blk o 250 (Zn d l)]) 3 rfl rfl rfl sB yf N rfl rfl (fun aa z=>fP z 11 ?_)
     refine iD (v:=(Za d)) (v' := Zh) Tryz.results74 rfl rfl ?_
     exact⟨(⟨c.fb,c.nb,c.hb,c.mb,c.trees,c.q,(je c.m (d:Int))⟩:GW),d,true,rfl,ym (yt (p:=GW.ok fO fN (⟨c.fb,c.nb,c.hb,c.mb,c.trees,c.q,(je c.m (d:Int))⟩:GW)) (yc [_,_,_,_] _ z) L.del) za⟩
theorem ZM(fO fN ob:Nat)(s:GW)(w:World)(hO:Own (GW.R fO fN ob s) w)(k a b:Nat)(exp:Int)(hk:k<fN)(ha:a<fO)(hb:b<fO)(hx:ia .i64 exp) :
 CR ya 142 #[(Zb ob),(Za k),(Za a),(Za b),(Za exp)] w (fun r w' => ∃ (s2:GW) (e:Int),r = .int .i64 e/\fV (GW.R fO fN ob s) w w' (GW.R fO fN ob s2)):=by
 have aY:=hO.fact.vn
 have aX:=hO.fact.v2
 have aW:=hO.fact.en
 refine en Tryz.func142 Tryz.ntmps142 ?_
 have aV:=Own.of hO.un
 have T:s.ok fO fN:=hO.fact
 have z:=yt (p:=GW.ok fO fN s) (yc [_,_,_,_] _ aV) T
 refine fR aV 9 ?_
 refine cl Ix (Jb fO fN ob s w (ye z 0 rfl)) ?_
 rintro _ Y ⟨rfl,F⟩
 have Z:=yj 0 z F
 have l:=(ku Z).unpack
 refine fK l 10 ?_
 refine cmp rfl rfl rfl (lG o_) (fK l 6 ?_)
 refine cmp rfl rfl rfl (p5 o_) ?_
 have A:=yt (p:=GW.ok fO fN s) (yc [_,_,_,_] _ l) T
 refine fK l 4 ?_
 refine cl IG (I7 fO fN ob s Y (ye A 0 rfl) a o_) ?_
 rintro _ aa ⟨rfl,F⟩
 have ab:=yj 0 A F
 have B:=(ku ab).unpack
 have C:=yt (p:=GW.ok fO fN s) (yc [_,_,_,_] _ B) T
 refine fK B 5 ?_
 refine cl IG (I7 fO fN ob s aa (ye C 0 rfl) b o_) ?_
 rintro _ aB ⟨rfl,F⟩
 have ac:=yj 0 C F
 have g:=(ku ac).unpack
 refine fK g 12 ?_
 by_cases aC:((a:Int):Int)=((b:Int):Int)
 . refine fP g 11 ?_
   refine gq (v:=xF) zI rfl ?_
   exact⟨s,9,rfl,ym (yt (p:=GW.ok fO fN s) (yc [_,_,_,_] _ g) T) za⟩
 . refine fK g 14 ?_
   refine aba (a:=(k:Int)) (mm:=s.m) (enc:=Ed.enc) (k:=.i64) 3 rfl rfl rfl sB yf yW rfl g rfl (fK g 3 ?_)
   refine iE g (fun ad aD aE aF ae=>?_)
   refine vh ae 9 fun af j=>?_
   cases aG:((ir s.m (k:Int)).isSome:Bool)
   . skip
     refine fR j 11 ?_
     refine cl O7 (adL s.hb fN s.q af (ye j 3 rfl) k o_ exp hx) ?_
     rintro _ aH ⟨aI,d,rfl,F⟩
     have D:=yj 3 j F
     refine fK D 12 ?_
     refine jc (pvs:=[(0,(Za a)),(1,(Za b)),(2,(Za exp))]) (v:=.agg #[(Za a),(Za b),(Za exp),Zp]) rfl rfl (jo [(0,(Zd a)),(1,(Zd b)),(2,(Zd exp))] yW adm rfl ⟨rfl,rfl,rfl,rfl,rfl,rfl,trivial⟩ rfl) (ri (a:=(k:Int)) (c:=(⟨a,b,exp,false⟩:Ed)) (mm:=s.m) (enc:=Ed.enc) (k:=.i64) (L' := [blk ad 254 [(Za ((gh s.m (k:Int)).a:Int)),(Za ((gh s.m (k:Int)).b:Int)),(Za ((gh s.m (k:Int)).exp)),(.bool ((gh s.m (k:Int)).tree))],blk ob 214 (zZ fO fN s (some s.mb)),(j7 s.fb s.nb (fN+fO+1)),(QS.R s.hb fN d),ic s.mb .i64 Ed.enc (gF s.m (k:Int) (⟨a,b,exp,false⟩:Ed))]) 4 rfl rfl rfl rfl sB yf D rfl rfl (fun aJ ag=>gI ag 15 fun ah n=>?_))
     refine ar (e:=((fN+a:Nat):Int)) rfl rfl rfl rfl iW (fK n 5 ?_)
     refine ar (e:=((fN+b:Nat):Int)) rfl rfl rfl rfl iW (cl XD (abc s.fb s.nb (fN+fO+1) ah (ye n 2 rfl) o_ (fN+a) (fN+b) o_ o_) ?_)
     rintro _ ai ⟨h,aj,rfl,aK,F⟩
     have i:=yj 2 n F
     refine gD i 12 ?_
     cases E:(aj:Bool)
     . skip
       subst E
       have ak:=yg [1,2,3,4,0] i
       have G:=yt (p:=GW.ok fO fN (⟨s.fb,s.nb,s.hb,s.mb,s.trees,d,(gF s.m (k:Int) (⟨a,b,exp,false⟩:Ed))⟩:GW)) (yc [_,_,_,_] _ ak) (T.put (by exact⟨ha,hb,hx⟩))
       refine fR i 7 ?_
       refine cl II (I6 fO fN ob (⟨s.fb,s.nb,s.hb,s.mb,s.trees,d,(gF s.m (k:Int) (⟨a,b,exp,false⟩:Ed))⟩:GW) ai (ye G 0 rfl) k o_) ?_
       rintro _ aL ⟨o,rfl,F⟩
       have H:=yj 0 G F
       have al:GW.ok fO fN o:=sC H
       have I:=(ku H).unpack
       refine fP I 8 ?_
       refine gq (v:=Zc) zI rfl ?_
       exact⟨o,0,rfl,ym (yt (p:=GW.ok fO fN o) (yc [_,_,_,_] _ I) al) za⟩
     . skip
       subst E
       refine fR i 8 ?_
       refine qZ (a:=(h:Int)) (mm:=(gF s.m (k:Int) (⟨a,b,exp,false⟩:Ed))) (enc:=Ed.enc) (k:=.i64) 4 rfl rfl rfl sB yf yW rfl i rfl (iE i (fun aM aN aO aP am=>?_))
       refine gI am 9 fun J f=>?_
       by_cases aQ:((gh (gF s.m (k:Int) (⟨a,b,exp,false⟩:Ed)) (h:Int)).exp:Int)>(exp:Int)
       . refine fP f 23 ?_
         refine gq (v:=Zc) zI rfl ?_
         have an:=yg [2,3,4,5,0,1] f
         exact⟨(⟨s.fb,s.nb,s.hb,s.mb,s.trees,d,(gF s.m (k:Int) (⟨a,b,exp,false⟩:Ed))⟩:GW),0,rfl,ym (yt (p:=GW.ok fO fN (⟨s.fb,s.nb,s.hb,s.mb,s.trees,d,(gF s.m (k:Int) (⟨a,b,exp,false⟩:Ed))⟩:GW)) (yc [_,_,_,_] _ an) (T.put (by exact⟨ha,hb,hx⟩))) za⟩
       . refine fK f 5 ?_
         by_cases aR:((gh (gF s.m (k:Int) (⟨a,b,exp,false⟩:Ed)) (h:Int)).exp:Int)=(exp:Int)
         . refine fK f 4 ?_
           by_cases aS:((h:Int):Int)>((k:Int):Int)
           . refine fP f 14 ?_
             refine gq (v:=Zc) zI rfl ?_
             have ao:=yg [2,3,4,5,0,1] f
             exact⟨(⟨s.fb,s.nb,s.hb,s.mb,s.trees,d,(gF s.m (k:Int) (⟨a,b,exp,false⟩:Ed))⟩:GW),0,rfl,ym (yt (p:=GW.ok fO fN (⟨s.fb,s.nb,s.hb,s.mb,s.trees,d,(gF s.m (k:Int) (⟨a,b,exp,false⟩:Ed))⟩:GW)) (yc [_,_,_,_] _ ao) (T.put (by exact⟨ha,hb,hx⟩))) za⟩
           . skip
             have ap:=yg [2,3,4,5,0,1] f
             have K:=yt (p:=GW.ok fO fN (⟨s.fb,s.nb,s.hb,s.mb,s.trees,d,(gF s.m (k:Int) (⟨a,b,exp,false⟩:Ed))⟩:GW)) (yc [_,_,_,_] _ ap) (T.put (by exact⟨ha,hb,hx⟩))
             refine fK f 11 ?_
             refine cl Iz (I8 fO fN ob (⟨s.fb,s.nb,s.hb,s.mb,s.trees,d,(gF s.m (k:Int) (⟨a,b,exp,false⟩:Ed))⟩:GW) J (ye K 0 rfl) h o_) ?_
             rintro _ aq ⟨t,rfl,F⟩
             have L:=yj 0 K F
             have au:GW.ok fO fN t:=sC L
             have M:=(ku L).unpack
             have N:=yt (p:=GW.ok fO fN t) (yc [_,_,_,_] _ M) au
             refine fK M 6 ?_
             refine cl II (I6 fO fN ob t aq (ye N 0 rfl) k o_) ?_
             rintro _ aT ⟨u,rfl,F⟩
             have O:=yj 0 N F
             have av:GW.ok fO fN u:=sC O
             have P:=(ku O).unpack
             refine fP P 8 ?_
             refine gq (v:=Zc) zI rfl ?_
             exact⟨u,0,rfl,ym (yt (p:=GW.ok fO fN u) (yc [_,_,_,_] _ P) av) za⟩
         . skip
           have aw:=yg [2,3,4,5,0,1] f
           have Q:=yt (p:=GW.ok fO fN (⟨s.fb,s.nb,s.hb,s.mb,s.trees,d,(gF s.m (k:Int) (⟨a,b,exp,false⟩:Ed))⟩:GW)) (yc [_,_,_,_] _ aw) (T.put (by exact⟨ha,hb,hx⟩))
           refine fK f 15 ?_
           refine cl Iz (I8 fO fN ob (⟨s.fb,s.nb,s.hb,s.mb,s.trees,d,(gF s.m (k:Int) (⟨a,b,exp,false⟩:Ed))⟩:GW) J (ye Q 0 rfl) h o_) ?_
           rintro _ ax ⟨x,rfl,F⟩
           have S:=yj 0 Q F
           have ay:GW.ok fO fN x:=sC S
           have U:=(ku S).unpack
           have V:=yt (p:=GW.ok fO fN x) (yc [_,_,_,_] _ U) ay
           refine fK U 6 ?_
           refine cl II (I6 fO fN ob x ax (ye V 0 rfl) k o_) ?_
           rintro _ aU ⟨y,rfl,F⟩
           have W:=yj 0 V F
           have az:GW.ok fO fN y:=sC W
           have X:=(ku W).unpack
           refine fP X 8 ?_
           refine gq (v:=Zc) zI rfl ?_
           exact⟨y,0,rfl,ym (yt (p:=GW.ok fO fN y) (yc [_,_,_,_] _ X) az) za⟩
   . skip
     refine iO j 8 ?_
     refine gq (v:=zW) zI rfl ?_
     have aA:=yg [1,2,3,4,0] j
     exact⟨s,6,rfl,ym (yt (p:=GW.ok fO fN s) (yc [_,_,_,_] _ aA) T) za⟩
end
section
open Go Go.Sx
theorem abd(n:Nat)(w:World)(a:n<=65536) :
 CR ya 221 (Z4 n) w (fun r w' => ∃ fb nb,r = .tuple (Z0 fb)/\fV (gm []) w w' (j7 fb nb (n+1))) :=
 CR.mono (aaW n w a) fun r w' ⟨fb,nb,e,b⟩=>⟨fb,nb,e,af2 (ed:=0) (xs:=mP n n) (by simpa using b) (sV n n) (RA o_) (ack o_)⟩
theorem ZT(fO fN:Nat)(w:World)(N:2<=fO)(hv:fO<=4096)(O:fN<=16384) :
 CR ya 147 (Zx fO fN) w (fun r w' => ∃ (ob:Nat) (s:GW),r = .tuple (Z0 ob)/\fV (gm []) w w' (GW.R fO fN ob s)):=by
 refine enter (vs:=(Zn fO fN)) Tryz.func147 rfl Tryz.ntmps147 rfl ?_
 have F:=yu w
 refine fR F 10 ?_
 refine cmp (a:=(fO:Int)) (b:=0) rfl rfl rfl (lG o_) (fK F 2 ?_)
 refine cmp (a:=(fO:Int)) (b:=4096) rfl rfl rfl (qx o_) (fK F 3 ?_)
 refine cmp (a:=(fN:Int)) (b:=0) rfl rfl rfl (lG o_) (fK F 3 ?_)
 refine cmp (a:=(fN:Int)) (b:=16384) rfl rfl rfl (qx o_) (fK F 10 ?_)
 refine ar (a:=(fN:Int)) (b:=(fO:Int)) (c:=(fN:Int)+(fO:Int)) (e:=((fN+fO:Nat):Int)) rfl rfl rfl rfl (by rw[oh o_];omega) (jO (vl:=(Zd ((fN+fO:Nat):Int))) rfl rfl XF (abd (fN+fO) w o_) ?_)
 rintro _ x ⟨d,f,rfl,M⟩
 have o:St _ [(j7 d f (fN+fO+1))] x:=(jR (R:=(j7 d f (fN+fO+1))) F M)
 refine gD o 25 ?_
 refine lp (α:=Nat) (fun k=>[(0,(Za fO)),(1,(Za fN)),(4,Zt),(5,Zc),(6,(Zb d)),(7,Zc),(34,(Za fO)),(35,(Za ((k:Nat):Int)))]) (fun k w1=>St [(w,[])] [(j7 d f (fN+fO+1))] w1/\k<=fO) (fun k=>fO-k) 0 ⟨rfl,rfl,rfl,rfl,rfl,rfl,rfl,gj (by first|rfl|omega),trivial⟩ (⟨o,o_⟩) ?_
 rintro k C q ⟨L,P⟩
 refine fR L 2 ?_
 by_cases D:(((k:Nat):Int):Int)<((fO:Int):Int)
 . refine fK L 19 ?_
   refine ar (a:=(fN:Int)) (b:=((k:Nat):Int)) (c:=(fN:Int)+((k:Nat):Int)) (e:=((fN+k:Nat):Int)) rfl rfl rfl rfl (by rw[oh o_];omega) (jO (vl:=[(Zb d),(Za ((fN+k:Nat):Int)),(.int .i64 9223372036854775807)]) rfl rfl Pa (Ra d f (fN+fO+1) q (lJ L (i:=0) rfl) o_ (fN+k) o_ 9223372036854775807 (kR d_)) ?_)
   rintro _ y ⟨rfl,M⟩
   have t:St _ [(j7 d f (fN+fO+1))] y:=mh (R' := (j7 d f (fN+fO+1))) 0 L rfl M rfl
   refine fP t 7 ?_
   refine tN (?_)
   exact again (k+1) ⟨rfl,rfl,rfl,rfl,rfl,rfl,rfl,gj (by first|rfl|omega),trivial⟩ (⟨t,o_⟩) (by show (fO-(k+1):Nat)<fO-k;omega)
 . refine fK L 13 ?_
   refine jO (vl:=(Zd fN)) rfl rfl O9 (SG fN q o_) ?_
   rintro _ z ⟨g,j,rfl,E,M⟩
   have l:St _ [(QS.R g fN j),(j7 d f (fN+fO+1))] z:=(jR (R:=(QS.R g fN j)) L M)
   refine fK l 22 ?_
   refine jc (pvs:=[(0,(Zb d))]) (v:=.agg (Zi d)) rfl rfl (jo [(0,(Zf d))] LC adg rfl ⟨rfl,rfl,trivial⟩ rfl) (fK l 1 ?_)
   refine mkV Ed.enc .i64 rfl rfl l ?_
   intro h A G H m
   have m:St _ [ic h .i64 Ed.enc ([]),(QS.R g fN j),(j7 d f (fN+fO+1))] A:=m
   refine jc (pvs:=[(0,(Za fO)),(1,(Za fN)),(2,(.agg (Zi d))),(3,(Zb g)),(4,(.map (some h)))]) (v:=.agg #[(Za fO),(Za fN),(Zb d),(Zb g),(.map (some h)),Zc]) rfl rfl (jo [(0,(Zd fO)),(1,(Zd fN)),(2,(Zf d)),(3,(Zf g)),(4,[(.map (some h))])] TG adh rfl ⟨rfl,rfl,rfl,rfl,rfl,rfl,rfl,rfl,rfl,rfl,trivial⟩ rfl) (iC m (fun n I J K u=>?_))
   refine fP u 5 ?_
   refine iD (v:=(Zb n)) (v' := Zc) Tryz.results147 rfl rfl ?_
   have B:=yg [0,3,2,1] u
   exact⟨n,(⟨d,f,g,h,0,j,[]⟩:GW),rfl,vz (R:=(GW.R fO fN n (⟨d,f,g,h,0,j,[]⟩:GW))) (yt (p:=GW.ok fO fN (⟨d,f,g,h,0,j,[]⟩:GW)) (yc [_,_,_,_] _ B) ⟨N,hv,O,fun p hp=>by cases hp⟩) s_⟩
end
section
open Go Go.Sx
theorem agC(c:Cf)(w:World)(h1:1<=c.win)(h:1<=c.fN/\c.fN<=16384)(i:2<=c.fO/\c.fO<=4096)(j:0<=c.kW/\c.kW<=16384) :
 CR ya 143 (MP c.win c.fN c.fO c.kW) w (fun r w' => r = .bool true/\gw [] w w'):=by
 refine en Tryz.func143 Tryz.ntmps143 ?_
 have g:=yu w
 refine fR g 2 ?_
 refine iC g (fun b d e f a=>?_)
 refine fK a 7 ?_
 refine cmp rfl rfl rfl (nG o_) (fK a 3 ?_)
 refine cmp rfl rfl rfl (nG o_) (fK a 4 ?_)
 refine cmp rfl rfl rfl (xO o_) (fK a 4 ?_)
 refine cmp rfl rfl rfl (nG o_) (fK a 4 ?_)
 refine cmp rfl rfl rfl (xO o_) (fK a 4 ?_)
 refine cmp rfl rfl rfl (nG o_) (fK a 4 ?_)
 refine cmp rfl rfl rfl (xO o_) (fP a 5 ?_)
 refine gq (v:=Zh) Tryz.results143 rfl ?_
 exact⟨rfl,a.gA s_⟩
end
section
open Go Go.Sx
theorem UX(a b:Int)(w:World)(m:ia .i64 a)(hb:ia .i64 b) :
 CR ya 120 (Zx a b) w (fun r w' => r = .tuple (Zx ((qw a b).1) ((qw a b).2))/\gw [] w w'):=by
 have o := m.i64
 have p := hb.i64
 obtain⟨s,hs⟩:∃ s,s=IntKind.i64.wrap (a+b):=⟨_,rfl⟩
 have n:=hs
 rw[IntKind.wrap_i64]at n
 refine en Tryz.func120 Tryz.ntmps120 ?_
 have j:=yu w
 refine fR j 10 ?_
 refine ar (e:=s) rfl rfl rfl rfl hs.symm (fK j 7 ?_)
 by_cases d:(a:Int)<(0:Int)
 . refine fK j 2 ?_
   by_cases f:(b:Int)<(0:Int)
   . refine fK j 1 ?_
     refine EI (c:=true) rfl rfl rfl y9 rfl (fK j 2 ?_)
     by_cases g:(s:Int)<(0:Int)
     . refine fK j 3 ?_
       refine Ft (c:=false) rfl rfl rfl y9 rfl (fP j 14 ?_)
       refine iD (v:=(Za s)) (v' := Zc) BA rfl rfl ?_
       have k:=Ao (a:=a) (b:=b) o_
       have l:s=a+b:=by omega
       exact⟨by rw[k,l],j.gA s_⟩
     . refine fK j 3 ?_
       refine Ft (c:=true) rfl rfl rfl y9 rfl (fP j 12 ?_)
       refine iD (v:=Zc) (v' := (.int .i64 7)) BA rfl rfl ?_
       have k:=NH (a:=a) (b:=b) o_
       exact⟨by rw[k],j.gA s_⟩
   . refine fK j 1 ?_
     refine EI (c:=false) rfl rfl rfl y9 rfl (fP j 20 ?_)
     refine iD (v:=(Za s)) (v' := Zc) BA rfl rfl ?_
     have k:=Ao (a:=a) (b:=b) o_
     have l:s=a+b:=by omega
     exact⟨by rw[k,l],j.gA s_⟩
 . refine fK j 2 ?_
   by_cases h:(b:Int)<(0:Int)
   . refine fK j 1 ?_
     refine EI (c:=false) rfl rfl rfl y9 rfl (fP j 20 ?_)
     refine iD (v:=(Za s)) (v' := Zc) BA rfl rfl ?_
     have k:=Ao (a:=a) (b:=b) o_
     have l:s=a+b:=by omega
     exact⟨by rw[k,l],j.gA s_⟩
   . refine fK j 1 ?_
     refine EI (c:=true) rfl rfl rfl y9 rfl (fK j 2 ?_)
     by_cases i:(s:Int)<(0:Int)
     . refine fK j 3 ?_
       refine Ft (c:=true) rfl rfl rfl y9 rfl (fP j 12 ?_)
       refine iD (v:=Zc) (v' := (.int .i64 7)) BA rfl rfl ?_
       have k:=NH (a:=a) (b:=b) o_
       exact⟨by rw[k],j.gA s_⟩
     . refine fK j 3 ?_
       refine Ft (c:=false) rfl rfl rfl y9 rfl (fP j 14 ?_)
       refine iD (v:=(Za s)) (v' := Zc) BA rfl rfl ?_
       have k:=Ao (a:=a) (b:=b) o_
       have l:s=a+b:=by omega
       exact⟨by rw[k,l],j.gA s_⟩
theorem NL(win t:Int)(w:World)(f:ia .i64 win)(e:ia .i64 t) :
 CR ya 133 (Zx win t) w (fun r w' => r = .tuple (Zx ((qw t win).1) ((qw t win).2))/\gw [] w w'):=by
 refine en Tryz.func133 Tryz.ntmps133 ?_
 have d:=yu w
 refine fR d 10 ?_
 refine cl WZ (UX t win w e f) ?_
 rintro _ c ⟨rfl,b⟩
 have a:=yp d b
 refine fP a 7 ?_
 refine iD (v:=(Za ((qw t win).1))) (v' := (Za ((qw t win).2))) Tryz.results133 rfl rfl ?_
 exact⟨rfl,a.gA s_⟩
theorem Io(cb:Nat)(win now:Int)(w:World)(d:Own (Zv cb win now) w)(h1:1<=win)(e:ia .i64 win) :
 CR ya 132 (Zi cb) w (fun r w' => r = .bool true/\fV (Zv cb win now) w w' (Zv cb win now)):=by
 refine en Tryz.func132 Tryz.ntmps132 ?_
 have b:=yq d
 refine fR b 8 ?_
 refine l9 (a:=some ⟨cb,0,none⟩) (c:=true) rfl rfl rfl Tryz.underlying113 rfl (fK b 5 ?_)
 refine cmp rfl rfl rfl (nG o_) (fP b 5 ?_)
 refine gq (v:=Zh) Tryz.results132 rfl ?_
 exact⟨rfl,yi b⟩
theorem V6(cb:Nat)(win now:Int)(w:World)(d:Own (Zv cb win now) w)(h1:1<=win)(f:ia .i64 win) :
 CR ya 76 (Zi cb) w (fun r w' => r = .int .i64 now/\fV (Zv cb win now) w w' (Zv cb win now)):=by
 refine en Tryz.func76 Tryz.ntmps76 ?_
 have c:=yq d
 refine fR c 9 ?_
 refine cl ID (Io cb win now w (ye c 0 rfl) h1 f) ?_
 rintro _ b ⟨rfl,e⟩
 have a:=yj 0 c e
 refine fP a 16 ?_
 refine gq (v:=(Za now)) Tryz.results76 rfl ?_
 exact⟨rfl,yi a⟩
theorem Oa(cb:Nat)(win now:Int)(w:World)(i:Own (Zv cb win now) w)(h1:1<=win)(h:ia .i64 win)(t:Int)(k:ia .i64 t) :
 CR ya 77 (Zm cb t) w (fun r w' => r = .int .i64 (rW win now t)/\fV (Zv cb win now) w w' (Zv cb win now)):=by
 refine en Tryz.func77 Tryz.ntmps77 ?_
 have g:=yq i
 refine fR g 9 ?_
 refine cl ID (Io cb win now w (ye g 0 rfl) h1 h) ?_
 rintro _ c ⟨rfl,j⟩
 have a:=yj 0 g j
 refine fK a 14 ?_
 by_cases e:(t:Int)<(now:Int)
 . refine fP a 11 ?_
   refine gq (v:=xE) Tryz.results77 rfl ?_
   exact⟨gj (by unfold rW;rw[if_pos (by assumption)]),yi a⟩
 . refine fK a 13 ?_
   refine cl OQ (NL win t c h k) ?_
   rintro _ f ⟨rfl,d⟩
   have b:=yp a d
   refine fP b 14 ?_
   refine gq (v:=(Za ((qw t win).2))) Tryz.results77 rfl ?_
   exact⟨gj (by unfold rW;rw[if_neg (by assumption)]),yi b⟩
theorem VE(cb:Nat)(win now:Int)(w:World)(h:Own (Zv cb win now) w)(h1:1<=win)(g:ia .i64 win)(t:Int)(j:ia .i64 t) :
 CR ya 138 (Zm cb t) w (fun r w' => r = .tuple (Zx ((qw t win).1) ((qw t win).2))/\fV (Zv cb win now) w w' (Zv cb win now)):=by
 refine en Tryz.func138 Tryz.ntmps138 ?_
 have f:=yq h
 refine fR f 10 ?_
 refine cl ID (Io cb win now w (ye f 0 rfl) h1 g) ?_
 rintro _ c ⟨rfl,i⟩
 have a:=yj 0 f i
 refine fK a 13 ?_
 refine cl OQ (NL win t c g j) ?_
 rintro _ e ⟨rfl,d⟩
 have b:=yp a d
 refine fP b 7 ?_
 refine iD (v:=(Za ((qw t win).1))) (v' := (Za ((qw t win).2))) Tryz.results138 rfl rfl ?_
 exact⟨rfl,yi b⟩
theorem Vy(cb:Nat)(win now:Int)(w:World)(h:Own (Zv cb win now) w)(h1:1<=win)(k:ia .i64 win)(t:Int)(j:ia .i64 t) :
 CR ya 72 (Zm cb t) w (fun r w' => r = .int .i64 (rW win now t)/\fV (Zv cb win now) w w' (Zv cb win (if rW win now t=0 then t else now))):=by
 refine en Tryz.func72 Tryz.ntmps72 ?_
 have g:=yq h
 refine fR g 9 ?_
 refine cl PI (Oa cb win now w (ye g 0 rfl) h1 k t j) ?_
 rintro _ c ⟨rfl,i⟩
 have a:=yj 0 g i
 refine fK a 7 ?_
 by_cases d:(rW win now t:Int)=(0:Int)
 . refine jV a 19 fun e b=>?_
   refine gq (v:=(Za (rW win now t))) Tryz.results72 rfl ?_
   have f:(if rW win now t=0 then t else now)=t:=if_pos (by assumption)
   refine⟨rfl,?_⟩
   rw[f]
   exact yi b
 . refine fP a 13 ?_
   refine gq (v:=(Za (rW win now t))) Tryz.results72 rfl ?_
   have f:(if rW win now t=0 then t else now)=now:=if_neg (by assumption)
   refine⟨rfl,?_⟩
   rw[f]
   exact yi a
theorem V5(win:Int)(w:World)(h1:1<=win) :
 CR ya 144 (Z4 win) w (fun r w' => ∃ cb,r = .tuple (Z0 cb)/\fV (gm []) w w' (blk cb 247 [(Za win),Zc])):=by
 refine en Tryz.func144 Tryz.ntmps144 ?_
 have f:=yu w
 refine fR f 10 ?_
 refine cmp rfl rfl rfl (lG o_) (fK f 8 ?_)
 refine jc (pvs:=[(0,(Za win))]) (v:=.agg (xz win)) rfl rfl (jo [(0,(Zd win))] TP adl rfl ⟨rfl,rfl,trivial⟩ rfl) (iC f (fun a c d e b=>?_))
 refine fP b 5 ?_
 refine iD (v:=(Zb a)) (v' := Zc) Tryz.results144 rfl rfl ?_
 exact⟨a,rfl,nS b⟩
end
section
open Go Go.Sx
def WW.R(c:WC)(a:Nat)(s:WW):fT:=kO (s.ok c) (gm [blk a 118 (xI c.win c.fN c.fO c.kW s),(Ai s c.win),(fU.R c.fO c.fN s.ub s.u),(QS.SR s.sb s.hb c.fN s.q),(GW.R c.fO c.fN s.ob s.g)])
abbrev rM(a:Nat) b c (d:Nat) e:=(gm [blk a 108 b,WW.R c d e]:fT)
abbrev D0 a (b:Nat) c d e f g h i:=([WW.R a b c,fL gO d 39 1 e,fL Ge.cells f 110 3 g,fL Lv.cells h 43 7 i]:List fT)
abbrev ML(a:Nat)(b:Lv) c (d:Nat) e f g h i j k:=([blk a 43 (Z6 b),WW.R c d e,fL gO f 39 1 g,fL Ge.cells h 110 3 i,fL Lv.cells j 43 7 k]:List fT)
abbrev G9 a (b:Nat) c (d:Nat):=(gm [WW.R a b c,blk d 108 (sL b)]:fT)
abbrev qu(a b:Nat) c d:=(gm [blk a 108 (sL b),WW.R c b d]:fT)
abbrev Nw(a b:Nat) c d e:=(gm [blk a 108 (sL b),WW.R c b d,e]:fT)
theorem xe(c:WC)(d:Nat)(s:WW)(w:World)(f:Own (WW.R c d s) w) :
 CR ya 40 (Zi d) w (fun r w' => r = .bool true/\fV (WW.R c d s) w w' (WW.R c d s)):=by
 refine en Tryz.func40 Tryz.ntmps40 ?_
 have e:=Own.of f.un
 have b:s.ok c:=f.fact
 have g:=b.w1
 have h:=b.wi
 have i:=b.n0
 have j:=b.n1
 refine fR e 8 ?_
 refine l9 (a:=some ⟨d,0,none⟩) (c:=true) rfl rfl rfl By rfl (fK e 5 ?_)
 refine l9 (a:=some ⟨s.cb,0,none⟩) (c:=true) rfl rfl rfl Tryz.underlying113 rfl (fP e 5 ?_)
 refine gq (v:=Zh) Tryz.results40 rfl ?_
 exact⟨rfl,ym (yt (p:=s.ok c) (yc [_,_,_,_,_] _ e) b) za⟩
theorem agP(c:WC)(i:Nat)(s:WW)(w:World)(k:Own (WW.R c i s) w) :
 CR ya 32 (Zi i) w (fun r w' => r = .int .i64 s.now/\fV (WW.R c i s) w w' (WW.R c i s)):=by
 refine en Tryz.func32 Tryz.ntmps32 ?_
 have l:=Own.of k.un
 have h:s.ok c:=k.fact
 have m:=h.w1
 have n:=h.wi
 have o:=h.n0
 have q:=h.n1
 have b:=yt (p:=s.ok c) (yc [_,_,_,_,_] _ l) h
 refine fR l 9 ?_
 refine cl vZ (xe c i s w (ye b 0 rfl)) ?_
 rintro _ e ⟨rfl,j⟩
 have f:=yj 0 b j
 have a:=(ku f).unpack
 refine fK a 12 ?_
 refine cl Yx (V6 s.cb c.win s.now e (ye a 1 rfl) m (kR o_)) ?_
 rintro _ g ⟨rfl,j⟩
 have d:=yj 1 a j
 refine fP d 4 ?_
 refine gq (v:=(Za s.now)) Tryz.results32 rfl ?_
 exact⟨rfl,ym (yt (p:=s.ok c) (yc [_,_,_,_,_] _ d) h) za⟩
end
section
open Go Go.Sx
end
end Go.Proofs.YtedjjkcihkmjgaaGreatDoor
namespace Go.Proofs
open Go.Shelf Go.Lib Go.Sort Go.RowKit in
def Tryz.aaV:Go.Shelf.Ren:=⟨fun|5=>207|7=>279|n=>n,fun|23=>172|25=>39|3=>37|4=>4|20=>20|n=>n,fun|n=>n⟩
open Go.Shelf Go.Lib Go.Sort Go.RowKit in
theorem Tryz.aaU:Go.Proofs.SlLaysW.n5 Proofs.Tryz.prog Tryz.aaV where
 mixed:=by kernel_rfl
 f5:=⟨Proofs.Tryz.f207.name,by(decide),Proofs.Tryz.func207.trans (congrArg some<|by kernel_rfl)⟩
 f7:=Proofs.Tryz.func279.trans (congrArg some<|by kernel_rfl)
 t4:=Proofs.Tryz.underlying4
 a4:=Proofs.Tryz.isAgg4
 z4:=Proofs.Tryz.sizeOf4
 v4:=Proofs.Tryz.zeroValue4
 t20:=Proofs.Tryz.underlying20
 a20:=Proofs.Tryz.isAgg20
 z20:=Proofs.Tryz.sizeOf20
 v20:=Proofs.Tryz.zeroValue20
 t23:=Proofs.Tryz.underlying172
 a23:=Proofs.Tryz.isAgg172
 z23:=Proofs.Tryz.sizeOf172
 v23:=Proofs.Tryz.zeroValue172
end Go.Proofs
namespace Go.Proofs.YtedjjkcihkmjgaaGreatDoor
section
open Go Go.Sx
theorem abG(b:Nat)(im:IM)(w:World)(c:Own (ND b im) w) :
 CR ya 207 #[.map (some b)] w (fun r w' => ∃ b2,r = .map (some b2)/\fV (ND b im) w w' (gm [ic b .u64 p_ im,ic b2 .u64 p_ im])) :=
 VR c fun es a h=>AnyW.maps_Clone Tryz.aaU b es a w h
theorem VP(v:Value)(xs:List Lv)(w:World)(hv:gY 7 Lv.cells (fun _=>True) w v xs)(m:xs.length<=1000000) :
 CR ya 206 #[v] w (fun r w' => qj 7 Lv.cells w w' r 43 xs/\gw [] w w'):=by
 refine en Tryz.func206 Tryz.ntmps206 ?_
 have l:=yu w
 refine fR l 9 ?_
 refine CB (v:=v) rfl rfl rfl qD hv (gD l 2 ?_)
 cases e:(wC v:Bool)
 . skip
   refine fR l 5 ?_
   refine jJ (vs:=[]) (cs:=[]) rfl rfl qD mU rfl (by intro v hv;simp at hv) rfl rfl rfl l ?_
   intro f g h i c
   have d:=c
   refine fK c 1 ?_
   refine k8 (cf:=Lv.cells) (ys:=[]) (zs:=xs) (LL:=fun a=>[fL Lv.cells a 43 7 xs]) 0 rfl rfl rfl qD mU rfl d_ d rfl (gY.src (yy d s_ d_ hv) f_) (xX f_ _) (by simp only[zg];omega) (by simp only[zg];omega) f_ (fun a j b k=>fP b 4 ?_)
   refine gq (v:=a) Tryz.results206 rfl ?_
   exact⟨Di b s_,b.gA s_⟩
 . skip
   refine iO l 8 ?_
   refine gq (v:=Zg) Tryz.results206 rfl ?_
   obtain rfl:=CO e hv
   exact⟨qj.CN, l.gA s_⟩
theorem af7(fO fN ub:Nat)(s:fU)(w:World)(F:Own (fU.R fO fN ub s) w) :
 CR ya 136 (Zi ub) w (fun r w' => ∃ (a0:Nat) (s2:fU),r = .pointer (some ⟨a0,0,none⟩)/\((∀ y,s2.has y↔s.has y)/\s2.last=s.last)/\fV (fU.R fO fN ub s) w w' (gm [(fU.R fO fN ub s),(fU.R fO fN a0 s2)])):=by
 have bf:s.t.A.used<=s.t.A.n:=F.fact.tok.ul
 have ba:=F.fact.n
 have bb:=F.fact.tn
 have a9:=F.fact.en
 have bc:=F.fact.vn
 have a8:s.A.used<=s.A.begun:=by have h7:=F.fact.lE.used;omega
 have a7:=F.fact.lE.le
 have bd:s.live.length=s.A.begun:=F.fact.ll
 have a3:∀ id,(gh s.im id).2.length<=65536:=fun id=>F.fact.Jl id
 refine en Tryz.func136 Tryz.ntmps136 ?_
 have aZ:=Own.of F.un
 have hU:s.ok fO fN:=F.fact
 have K:=yt (p:=s.ok fO fN) (yc [_,_,_,_,_,_] _ aZ) hU
 refine fR aZ 9 ?_
 refine cl AG (Bu fO fN ub s w (ye K 0 rfl)) ?_
 rintro _ aG ⟨rfl,ht⟩
 have X:=yj 0 K ht
 have L:=(ku X).unpack
 refine fK L 11 ?_
 refine iE L (fun h aH aI aJ M=>?_)
 refine jM 0 M (fun Y E=>?_) (h1:=(gX rfl (gX rfl (gX rfl (gX rfl (gX rfl (gX (yr M (i:=2) rfl) (gX rfl j4))))))))
 refine fK E 8 ?_
 refine cl O5 (Ul s.jj s.aw Y (ye E 5 rfl)) ?_
 rintro _ aK ⟨d,j,rfl,Z,ht⟩
 have aa:=yg [5,0,1,2,3,4,6] E
 have ac:=yv (yj 0 aa ht)
 refine gI ac 10 fun ad N=>?_
 refine cl Xx (afz s.tb s.ab s.t ad (ye N 7 rfl)) ?_
 rintro _ aL ⟨e,l,m,rfl,O,ht⟩
 have ae:=yg [7,0,1,2,3,4,5,6] N
 have af:=yv (yj 0 ae ht)
 refine gI af 10 fun ag P=>?_
 refine cl Xy (VP s.lv s.live ag (y0 P 6 rfl).any (by first|omega|(simp;omega))) ?_
 rintro g ah hz
 have D:St _ [fL Lv.cells g 43 7 s.live,(xD s),(TW.R e l m),(xC s),(AW.R d j),blk h 174 [(Za fO),(Za fN),(Zo s.last),(Zb d),(Zb e),s.lv,(.map (some s.mb))],blk ub 174 (pY fO fN s (some s.mb)),fL Lv.cells s.lv 43 7 s.live,ic s.mb .u64 p_ s.im,jE 3 s.im] ah:=vr P hz.2 hz.1
 refine fK D 1 ?_
 refine jM 5 D (fun ai G=>?_) (hvs:=(cells_one (yr D (i:=0) rfl))) (h1:=(gX (yr D (i:=0) rfl) j4))
 refine fK G 8 ?_
 refine cl Xz (abG s.mb s.im ai (ye G 8 rfl)) ?_
 rintro _ aM ⟨f,rfl,ht⟩
 have aj:=yg [8,0,1,2,3,4,5,6,7,9] G
 have Q:=yv (yj 0 aj ht)
 refine fK Q 1 ?_
 refine jM 7 Q (fun aN H=>?_)
 refine fK H 8 ?_
 refine ld rfl rfl yx rfl (lT H 8 rfl rfl) (rgM (k:=.u64) (enc:=p_) (mm:=s.im) 0 rfl rfl yx H rfl ?_)
 intro u S U
 have ak:St _ [jE 3 [],l8 s.mb u .u64 p_ s.im s.im none,ic f .u64 p_ s.im,fL Lv.cells g 43 7 s.live,(xD s),(TW.R e l m),(xC s),(AW.R d j),blk h 174 (Ec fO fN s.last d e g (some f)),blk ub 174 (pY fO fN s (some s.mb)),fL Lv.cells s.lv 43 7 s.live,jE 3 s.im] S:=St.IY U
 have al:St _ [jE 3 [],jE 3 [],l8 s.mb u .u64 p_ s.im s.im none,ic f .u64 p_ s.im,fL Lv.cells g 43 7 s.live,(xD s),(TW.R e l m),(xC s),(AW.R d j),blk h 174 (Ec fO fN s.last d e g (some f)),blk ub 174 (pY fO fN s (some s.mb)),fL Lv.cells s.lv 43 7 s.live,jE 3 s.im] S:=St.IY ak
 have am:=yg [10,11,2,12,1,7,5,9,4,3,0,8,6] al
 refine gD U 3 ?_
 refine lp (α:=IM×IM×IM×IM×(Option (Int×(Value×List Nat)))) (fun(dn,td,aU,T,cur)=>[(3,(Zb h)),(40,(Zb u))]) (fun(dn,td,aU,T,cur) w1=>St [(w,(fU.R fO fN ub s).gH)] [blk ub 174 (pY fO fN s (some s.mb)),fL Lv.cells s.lv 43 7 s.live,l8 s.mb u .u64 p_ s.im td cur,jE 3 td,jE 3 dn,(xC s),(xD s),blk h 174 (Ec fO fN s.last d e g (some f)),fL Lv.cells g 43 7 s.live,ic f .u64 p_ T,jE 3 aU,(AW.R d j),(TW.R e l m)] w1/\pP s.im dn td aU T) (fun(dn,td,aU,T,cur)=>td.length) ([],s.im,[],s.im,none) ⟨rfl,rfl,trivial⟩ (⟨am,pP.start hU.keys⟩) ?_
 rintro⟨dn,td,aU,T,cur⟩ aO aP ⟨aW,aX⟩
 obtain⟨an,aQ⟩:∃ q,abD ya aW (i:=2) rfl=q:=⟨_,rfl⟩
 refine fR aW 2 ?_
 rcases an with ⟨V,ao⟩|⟨b,x,aR,z⟩
 . skip
   refine RG rfl rfl (ao _) ?_
   have aS:=V
   refine fP aW 16 ?_
   refine gq (v:=(Zb h)) Tryz.results136 rfl ?_
   have aV:=aX.fin hU.keys V
   have ap:=St.abC aW (i:=2) rfl
   have aq:=yg [4,0,1,2,3,5,6,7,8,9,10,11,12] ap
   have ar:=St.xW aq aV.1
   have au:=yg [10,0,1,2,3,4,5,6,7,8,9,11,12] ar
   have av:=St.xW au aV.2.1
   have I:=yg [2,3,4,1,6,7,8,9,10,0,11,12] av
   have a1:=(y8 I (i:=10) rfl:j.A.ok)
   have a2:=(y8 I (i:=11) rfl:m.ok)
   have aY:=hU.copy Z a1 a2 O.1 O.2.1 aV.2.2.1 aV.2.2.2 d e l f g
   have a4:=yt (p:=fU.ok fO fN s) (yc [_,_,_,_,_,_] _ I) hU
   have a5:St _ (gm [_,_,_,_,_,_] :: [(fU.R fO fN ub s)]) _:=yc [_,_,_,_,_,_] [(fU.R fO fN ub s)] (lC a4 (qG (l₁:=[_]) (l₂:=[_,_,_,_,_,_])))
   have a6:=lC (yt (p:=fU.ok fO fN (⟨d,e,l,f,g,s.last,j,m,s.live,T⟩:fU)) a5 aY.1) (List.Perm.swap _ _ _)
   exact⟨h,(⟨d,e,l,f,g,s.last,j,m,s.live,T⟩:fU),rfl,⟨aY.2,rfl⟩,yi (yc [_,_] _ a6)⟩
 . skip
   refine RG rfl rfl (z.run _) ?_
   have ax:=z.st
   have ay:=yg [3,0,1,2,4,5,6,7,8,9,10,11,12] ax
   have B:=St.aek f_ (St.PY (St.xW ay z.perm))
   have be:b.2.2.length<=65536:=by have h7:=a3 b.1;rw[aX.at hU.keys z.perm]at h7;exact h7
   refine fK B 10 ?_
   refine WJ (p:=b) 4 rfl rfl B rfl (fK B 3 ?_)
   refine rS (v:=b.2.1) rfl rfl (gD B 2 ?_)
   refine kC mixed [([0,1,2,3,4],[1])] [5] B (fun az C=>jA ?_)
   refine fK C 1 ?_
   refine ld rfl rfl yx rfl (lT C 8 rfl rfl) (fK C 1 ?_)
   refine mv (v:=b.2.1) rfl rfl (cl IU (Ii b.2.1 b.2.2 az (y0 C 0 rfl).any (by first|omega|(simp;omega))) ?_)
   rintro o aA hz
   have J:St _ (No o b.2.2 b.2.1 x ub fO fN s (some s.mb) (l8 s.mb u .u64 p_ s.im x (some b)) dn h d e g (some f) f T aU j l m) aA:=vr C hz.2 hz.1
   refine fP J 1 ?_
   refine uf (lq rfl (p9 (mM rfl yx rfl (lT J 9 rfl rfl)) rfl rfl) (trivial)) (kF ?_)
   refine ri (a:=b.1) (c:=(o,b.2.2)) (mm:=T) (enc:=p_) (k:=.u64) (L' := (No o b.2.2 b.2.1 x ub fO fN s (some s.mb) (l8 s.mb u .u64 p_ s.im x (some b)) dn h d e g (some f) f (gF T b.1 (o,b.2.2)) aU j l m)) 11 rfl rfl rfl rfl yx yn J rfl rfl (fun aT W=>fP W 2 ?_)
   refine tN (?_)
   have aB:=yg [1,6,0,2,3,4,5,7,8,9,10,11,12,13,14] W
   have aC:=((St.SZ f_ aB).Ik (p:=b)).xW (qG (l₁:=[_]))
   have aD:=yg [1,11,0,2,3,4,5,6,7,8,9,10,12,13] aC
   have aE:=((St.SZ f_ aD).Ik (p:=(b.1,(o,b.2.2)))).xW (qG (l₁:=[_]))
   have aF:=yg [3,4,5,2,1,6,7,8,9,10,0,11,12] aE
   exact again ((dn++[b]),x,(aU++[(b.1,(o,b.2.2))]),(gF T b.1 (o,b.2.2)),(some b)) ⟨rfl,rfl,trivial⟩ (⟨aF,aX.next hU.keys z.perm o⟩) (by have h7:=z.perm.length_eq;rw[zb]at h7;show x.length<td.length;omega)
end
section
open Go Go.Sx
theorem ZO:ya.eqGuardType ya.depth 267=false:=by kernel_rfl
theorem agG(c:WC)(w:World)(w1:1<=c.win)(wi:c.win<=1000000)(e1:1<=c.fN)(en:c.fN<=16384)(v2:2<=c.fO)(vn:c.fO<=4096)(d0:0<=c.kW/\c.kW<=16384) :
 CR ya 80 #[(DY c.win c.fN c.fO c.kW),tH] w (fun r w' => ∃ (wb:Nat) (s:WW),r = .tuple (Z0 wb)/\(s.now=0/\s.added=0/\∀ y,¬ s.u.has y)/\fV (gm []) w w' (WW.R c wb s)):=by
 refine enter Tryz.func80 rfl Tryz.ntmps80 rfl ?_
 have T:=yu w
 refine fR T 2 ?_
 refine iC T (fun W A X Y k=>?_)
 refine fK k 8 ?_
 refine cl W9 (agC ⟨c.win,(c.fN:Int),(c.fO:Int),c.kW⟩ A w1 (by show _/\_;dsimp only;omega) (by show _/\_;dsimp only;omega) d0) ?_
 rintro _ Z ⟨rfl,B⟩
 have l:=yp k B
 refine fK l 8 ?_
 refine iE l (fun aa ab ac ad m=>?_)
 refine fK m 7 ?_
 refine jc (pvs:=[(0,(DY c.win c.fN c.fO c.kW)),(5,tH),(6,tH)]) (v:=.agg #[(Za c.win),(Za c.fN),(Za c.fO),(Za c.kW),Zt,Zt,Zt,Zt,tH,tH]) rfl rfl (jo [(0,(HC c.win c.fN c.fO c.kW)),(5,B4),(6,B4)] TB ac5 rfl ⟨rfl,rfl,rfl,rfl,rfl,rfl,trivial⟩ rfl) (iC m (fun n C ae af q=>?_))
 refine fK q 8 ?_
 refine cl Xa (V5 c.win C w1) ?_
 rintro _ ag ⟨a,rfl,F⟩
 have D:=(jR q F)
 refine gI D 6 fun ah E=>?_
 refine jL (o:=0) (o' := 0) (i:=0) rfl rfl rfl zD yX d_ rfl (gI E 11 fun G H=>?_)
 refine cl Xb (aga c.fO c.fN G vn en) ?_
 rintro _ ai ⟨b,t,rfl,d,F⟩
 have I:=(jR H F)
 refine gI I 6 fun aj J=>?_
 refine jL (o:=0) (o' := 1) (i:=1) rfl rfl rfl zD yX d_ rfl (gI J 8 fun K L=>?_)
 refine cl Xc (aeT c.fN K o_) ?_
 rintro _ ak ⟨e,f,x,rfl,M,F⟩
 have N:=(jR L F)
 refine gI N 6 fun al O=>?_
 refine jL (o:=0) (o' := 2) (i:=2) rfl rfl rfl zD yX d_ rfl (gI O 10 fun P Q=>?_)
 refine cl Xd (ZT c.fO c.fN P v2 vn en) ?_
 rintro _ am ⟨h,j,rfl,F⟩
 have S:=(jR Q F)
 refine gI S 6 fun an U=>?_
 refine jL (o:=0) (o' := 3) (i:=3) rfl rfl rfl zD yX d_ rfl (gI U 7 fun ao z=>?_)
 refine jc (pvs:=[]) (v:=.agg #[Zc,Zc,Zc,Zc]) rfl rfl (uJ [] TQ zD yX rfl trivial rfl s_) (acd (c:=false) rfl rfl rfl zD Tryz.underlying32 yX ZO rfl (fP z 13 ?_))
 refine iD (v:=(Zb n)) (v' := Zc) Tryz.results80 rfl rfl ?_
 have V:=yg [4,3,2,1,0] z
 have ap:=WW.tS w1 wi e1 en v2 vn (g:=j) d.1 d.2 M a b e f h
 exact⟨n,(⟨a,b,e,f,h,0,x,t,j,0,0⟩:WW),rfl,⟨rfl,rfl,d.1⟩,vz (yt (p:=WW.ok c (⟨a,b,e,f,h,0,x,t,j,0,0⟩:WW)) (yc [_,_,_,_,_] _ V) ap) s_⟩
theorem Uu(c:WC)(w:World)(w1:1<=c.win)(wi:c.win<=1000000)(e1:1<=c.fN)(en:c.fN<=16384)(v2:2<=c.fO)(vn:c.fO<=4096)(n:0<=c.kW/\c.kW<=16384) :
 CR ya 34 (MP c.win c.fN c.fO c.kW) w (fun r w' => ∃ (m:Nat) (s:WW),r = .tuple (Z0 m)/\(s.now=0/\s.added=0/\∀ y,¬ s.u.has y)/\fV (gm []) w w' (WW.R c m s)):=by
 refine enter Tryz.func34 rfl Tryz.ntmps34 rfl ?_
 have l:=yu w
 refine fR l 2 ?_
 refine iC l (fun h e i j a=>?_)
 refine fK a 7 ?_
 refine cl YA (agG c e w1 wi e1 en v2 vn n) ?_
 rintro _ k ⟨b,f,rfl,g,o⟩
 have d:=(jR a o)
 refine fP d 7 ?_
 refine iD (v:=(Zb b)) (v' := Zc) Tryz.results34 rfl rfl ?_
 exact⟨b,f,rfl,g,nS d⟩
end
section
open Go Go.Sx
end
end Go.Proofs.YtedjjkcihkmjgaaGreatDoor
namespace Go.Proofs
open Go.Shelf Go.Lib Go.Sort Go.RowKit in
def Tryz.ae3:Go.Shelf.Ren:=⟨fun|6=>85|15=>92|14=>151|28=>162|29=>163|20=>224|21=>225|22=>226|23=>227|24=>228|25=>229|26=>230|27=>231|46=>290|47=>233|48=>234|49=>291|50=>292|57=>329|n=>n,fun|22=>35|24=>43|25=>178|3=>3|39=>193|0=>0|53=>289|55=>39|4=>4|46=>283|45=>282|50=>160|5=>5|9=>9|66=>348|70=>351|76=>406|77=>197|n=>n,fun|n=>n⟩
open Go.Shelf Go.Lib Go.Sort Go.RowKit in
theorem Tryz.Tg:Go.Proofs.SlLaysF0.n6 Proofs.Tryz.prog Tryz.ae3 where
 mixed:=by kernel_rfl
 f6:=⟨Proofs.Tryz.f85.name,by(decide),Proofs.Tryz.func85.trans (congrArg some<|by kernel_rfl)⟩
 f14:=⟨Proofs.Tryz.f151.name,by(decide),Proofs.Tryz.func151.trans (congrArg some<|by kernel_rfl)⟩
 f15:=Proofs.Tryz.func92.trans (congrArg some<|by kernel_rfl)
 f20:=⟨Proofs.Tryz.f224.name,by(decide),Proofs.Tryz.func224.trans (congrArg some<|by kernel_rfl)⟩
 f21:=⟨Proofs.Tryz.f225.name,by(decide),Proofs.Tryz.func225.trans (congrArg some<|by kernel_rfl)⟩
 f22:=⟨Proofs.Tryz.f226.name,by(decide),Proofs.Tryz.func226.trans (congrArg some<|by kernel_rfl)⟩
 f23:=⟨Proofs.Tryz.f227.name,by(decide),Proofs.Tryz.func227.trans (congrArg some<|by kernel_rfl)⟩
 f24:=⟨Proofs.Tryz.f228.name,by(decide),Proofs.Tryz.func228.trans (congrArg some<|by kernel_rfl)⟩
 f25:=⟨Proofs.Tryz.f229.name,by(decide),Proofs.Tryz.func229.trans (congrArg some<|by kernel_rfl)⟩
 f26:=⟨Proofs.Tryz.f230.name,by(decide),Proofs.Tryz.func230.trans (congrArg some<|by kernel_rfl)⟩
 f27:=⟨Proofs.Tryz.f231.name,by(decide),Proofs.Tryz.func231.trans (congrArg some<|by kernel_rfl)⟩
 f28:=Proofs.Tryz.func162.trans (congrArg some<|by kernel_rfl)
 f29:=Proofs.Tryz.func163.trans (congrArg some<|by kernel_rfl)
 f46:=⟨Proofs.Tryz.f290.name,by(decide),Proofs.Tryz.func290.trans (congrArg some<|by kernel_rfl)⟩
 f47:=Proofs.Tryz.func233.trans (congrArg some<|by kernel_rfl)
 f48:=Proofs.Tryz.func234.trans (congrArg some<|by kernel_rfl)
 f49:=⟨Proofs.Tryz.f291.name,by(decide),Proofs.Tryz.func291.trans (congrArg some<|by kernel_rfl)⟩
 f50:=⟨Proofs.Tryz.f292.name,by(decide),Proofs.Tryz.func292.trans (congrArg some<|by kernel_rfl)⟩
 f57:=⟨Proofs.Tryz.f329.name,by(decide),Proofs.Tryz.func329.trans (congrArg some<|by kernel_rfl)⟩
 t0:=Proofs.Tryz.underlying0
 a0:=Proofs.Tryz.isAgg0
 z0:=Proofs.Tryz.sizeOf0
 v0:=Proofs.Tryz.zeroValue0
 t3:=Proofs.Tryz.underlying3
 a3:=Proofs.Tryz.isAgg3
 z3:=Proofs.Tryz.sizeOf3
 v3:=Proofs.Tryz.zeroValue3
 t4:=Proofs.Tryz.underlying4
 a4:=Proofs.Tryz.isAgg4
 z4:=Proofs.Tryz.sizeOf4
 v4:=Proofs.Tryz.zeroValue4
 t5:=Proofs.Tryz.underlying5
 a5:=Proofs.Tryz.isAgg5
 z5:=Proofs.Tryz.sizeOf5
 v5:=Proofs.Tryz.zeroValue5
 t9:=Proofs.Tryz.underlying9
 a9:=Proofs.Tryz.isAgg9
 z9:=Proofs.Tryz.sizeOf9
 v9:=Proofs.Tryz.zeroValue9
 t22:=Proofs.Tryz.underlying35
 a22:=Proofs.Tryz.isAgg35
 z22:=Proofs.Tryz.sizeOf35
 v22:=Proofs.Tryz.zeroValue35
 t25:=Proofs.Tryz.underlying178
 a25:=Proofs.Tryz.isAgg178
 z25:=Proofs.Tryz.sizeOf178
 v25:=Proofs.Tryz.zeroValue178
 t39:=Proofs.Tryz.underlying193
 a39:=Proofs.Tryz.isAgg193
 z39:=Proofs.Tryz.sizeOf193
 v39:=Proofs.Tryz.zeroValue193
 t45:=Proofs.Tryz.underlying282
 a45:=Proofs.Tryz.isAgg282
 z45:=Proofs.Tryz.sizeOf282
 v45:=Proofs.Tryz.zeroValue282
 t46:=Proofs.Tryz.underlying283
 a46:=Proofs.Tryz.isAgg283
 z46:=Proofs.Tryz.sizeOf283
 v46:=Proofs.Tryz.zeroValue283
 t50:=Proofs.Tryz.underlying160
 a50:=Proofs.Tryz.isAgg160
 z50:=Proofs.Tryz.sizeOf160
 v50:=Proofs.Tryz.zeroValue160
 t53:=Proofs.Tryz.underlying289
 a53:=Proofs.Tryz.isAgg289
 z53:=Proofs.Tryz.sizeOf289
 v53:=Proofs.Tryz.zeroValue289
 t55:=Proofs.Tryz.underlying39
 a55:=Proofs.Tryz.isAgg39
 z55:=Proofs.Tryz.sizeOf39
 v55:=Proofs.Tryz.zeroValue39
 t66:=Proofs.Tryz.underlying348
 a66:=Proofs.Tryz.isAgg348
 z66:=Proofs.Tryz.sizeOf348
 v66:=Proofs.Tryz.zeroValue348
 t70:=Proofs.Tryz.underlying351
 a70:=Proofs.Tryz.isAgg351
 z70:=Proofs.Tryz.sizeOf351
 v70:=Proofs.Tryz.zeroValue351
 t76:=Proofs.Tryz.underlying406
 a76:=Proofs.Tryz.isAgg406
 z76:=Proofs.Tryz.sizeOf406
 v76:=Proofs.Tryz.zeroValue406
 t77:=Proofs.Tryz.underlying197
 a77:=Proofs.Tryz.isAgg197
 z77:=Proofs.Tryz.sizeOf197
 v77:=Proofs.Tryz.zeroValue197
end Go.Proofs
namespace Go.Proofs.YtedjjkcihkmjgaaGreatDoor
section
open Go Go.Sx Go.Lib Go.Sort Go.RowKit
theorem ab1(x:Int)(w:World):Calls ya 152 (xA x) w fun e w' => e = .returned Zp/\w' = w:=by
 go_enter Tryz.func152,Tryz.ntmps152
 go_wp2
 go_ret
 exact⟨s_,rfl⟩
theorem V0(x y:Int)(w:World):Calls ya 87 (vI x y) w fun e w' => e = .returned (Za (compareInt x y))/\w' = w:=by
 go_enter Tryz.func87,Tryz.ntmps87
 go_wp2_with (go_at_call 152;refine(ab1 _ _).mono ?_;rintro e w' ⟨rfl,a⟩;rw[a])
 all_goals (go_ret;refine⟨?_,rfl⟩;unfold compareInt;(repeat' split)<;>first|rfl|(exfalso;omega))
def yR(x y:Lv):Int:=compareInt x.seq y.seq
theorem VS(x y:Lv)(W:World):Calls ya 86 #[.agg x.cells.toArray,.agg y.cells.toArray] W fun e w' => e = .returned (Za (yR x y))/\∃ q c, w' = grow (W.drewN q) c := by
 have a:=fun b => V0 x.seq y.seq b
 unfold yR
 generalize compareInt x.seq y.seq=r at a ⊢
 obtain⟨d,f,g,h,i,j,k⟩:=x
 obtain⟨y1,y2,l,m,n,o,p⟩:=y
 simp only[Lv.cells]at a ⊢
 go_enter Tryz.func86,Tryz.ntmps86
 go_wp2_with (go_at_call 87;refine(a _).mono ?_;rintro e w' ⟨rfl,rfl⟩)
 go_ret
 exact⟨rfl,0,_,by rw[alloc_eq_grow,alloc_eq_grow,grow_grow];rfl⟩
theorem Fc(x y:Lv):ltOf yR x y=decide (x.seq<y.seq):=by
 unfold ltOf yR compareInt
 by_cases h1:x.seq<y.seq
 . simp[h1]
 . by_cases h2:y.seq<x.seq<;>simp[h1,h2]
theorem afn:SWO (ltOf yR) where
 irrefl x:=by rw[Fc];simp
 trans x y z h1 h2:=by rw[Fc]at *;simp at *;omega
 ntrans x y z h1 h2:=by rw[Fc]at *;simp at *;omega
theorem ae2(v:Value)(xs:List Lv)(w:World)(i:Own (fL Lv.cells v 43 7 xs) w)(m:xs.length<=1000000) :
 CR ya 85 #[v,.func (.func 86) #[] #[]] w (fun r w' => ∃ ys:List Lv,r = .tuple #[]/\(ys.Perm xs/\ys.Pairwise fun a b=>a.seq<=b.seq)/\fV (fL Lv.cells v 43 7 xs) w w' (fL Lv.cells v 43 7 ys)):=by
 refine CR.mono (ae6 (cf:=Lv.cells) (k:=7) (xs:=xs) (lt:=ltOf yR) f_ d_ i o_ (AnyF.slices_SortFunc_none (P:=ya) Tryz.Tg none 0 _ w) fun blk c d g hb j=>?_) ?_
 . exact AnyQ.slices_SortFunc (P:=ya) Tryz.Tg 7 Tryz.isAgg43 Tryz.sizeOf43 Lv.cells f_ (fun x v hv=>by simp[Lv.cells]at hv;rcases hv with rfl|rfl|rfl|rfl|rfl|rfl|rfl<;>rfl) yR afn 86 #[] blk 0 c d w (enters_of Tryz.func86 k_ rfl) (fun _ _ _ _ x y=>VS x y _) g hb j
 . rintro r w' ⟨rfl,ys,e,f,l⟩
   exact⟨ys,rfl,⟨e,f.imp fun {a b} h=>by rw[Fc]at h;simpa using h⟩,l⟩
end
end Go.Proofs.YtedjjkcihkmjgaaGreatDoor
