/- What the functions that the statements reach do: walks through the code of the program and of the references, one theorem a function; under what is said of its arguments. -/
import Derived.Test.YtoceanggliccgaaGreatDoorFb
import Derived.Test.YtoceanggliccgaaGreatDoorVa
import Derived.Test.YtoceanggliccgaaGreatDoorFd
import Derived.Test.YtoceanggliccgaaGreatDoorFc
import Derived.Test.YtoceanggliccgaaGreatDoorFa
set_option linter.unusedVariables false
set_option linter.unusedSimpArgs false
set_option maxRecDepth 100000
set_option maxHeartbeats 4000000
namespace Go.Proofs.YtoceanggliccgaaGreatDoor
section
open Go Go.Sx
theorem aea(D E hb n:Nat)(iv pv:Value)(ps:List (Option Nat))(fP:List gE)(pl:List Nat)(p:Nat)(w:World)(Q:Own (vz D p E hb n iv pv fP ps pl) w)(S:Hp n fP pl)(R:js n ps pl)(hp:p<fP.length)(hA:s8 fP p) :
 CR ya 274 #[(M1 hb),(Zb D),(Zb E)] w (fun r w' => r = .tuple #[]/\∃ (p2:Nat),∃ C ys B,og n fP ys ps C B/\p2<ys.length/\ua ys p2/\fZ (vz D p E hb n iv pv fP ps pl) w w' (vz D p2 E hb n iv pv ys C B)):=by
 refine en Tryz.func274 Tryz.ntmps274 ?_
 have N:=(yp Q).unpack
 have K:=og.refl S R
 have i:=yg [2,3,4,5,0,1] N
 have b:=yc [_,_,_,_] _ i
 refine fS N 4 ?_
 refine qg (fi:=(Zh hb)) (ca:=[]) rfl rfl rfl OS (PJ hb n iv pv ps fP pl w (ye b 0 rfl) K.hp K.gN p (by first|omega|(rw[mJ];omega))) ?_
 rintro _ x ⟨rfl,G⟩
 have c:=(yi b G)
 have j:=yg [4,5,0,1,2,3] c
 refine gF c 4 ?_
 refine lp (α:=List gE×List (Option Nat)×List Nat×Nat×Int) (fun(ys,C,B,p2,q)=>[(0,(M1 hb)),(1,(Zb D)),(2,(Zb E)),(4,(Za q))]) (fun(ys,C,B,p2,q) w1=>St [(w,(vz D p E hb n iv pv fP ps pl).gG)] (Ht D p2 E hb n iv pv ys C B) w1/\og n fP ys ps C B/\p2<ys.length/\s8 ys p2/\q=rG ys p2) (fun(ys,C,B,p2,q)=>p2) (fP,ps,pl,p,(rG fP p)) ⟨rfl,rfl,rfl,gm rO,trivial⟩ (⟨j,K,hp,hA,rfl⟩) ?_
 rintro⟨ys,C,B,p2,q⟩ y k ⟨F,H,M,L,J⟩
 refine fS F 4 ?_
 by_cases d:(q:Int)=(-1:Int)
 . have T:=L.stop (Uq (J.symm.trans d))
   refine fQ F 8 ?_
   refine iQ Tryz.results274 ?_
   exact⟨rfl,p2,C,ys,B,H,M,T,yj (yc [_,_,_,_,_,_] _ F)⟩
 . have I:=Up (fun P=>@d (J.trans P))
   refine fK F 1 ?_
   obtain rfl:q=((pa p2:Nat):Int):=J.trans I.1
   have O:=I.2.1
   have U:pa p2<ys.length:=by simp only[pa];omega
   have l:=yg [2,3,4,5,0,1] F
   have e:=yc [_,_,_,_] _ l
   refine fK F 12 ?_
   refine cl IK (Ja hb n iv pv C ys B k (ye e 0 rfl) H.hp H.gN p2 (pa p2) o_ o_) ?_
   rintro _ z ⟨rfl,f,m,o,G⟩
   have s:=(yi e G)
   have a:=H.swap (p:=p2) (q:=(pa p2)) o_ o_ m o
   refine gJ s 11 fun t u=>?_
   have g:=yc [_,_,_,_] _ u
   refine qg (fi:=(Zh hb)) (ca:=[]) rfl rfl rfl OS (PJ hb n iv pv f (iF ys p2 (pa p2)) (jc (jc B (fJ (iF ys p2 (pa p2)) p2).ix (p2+1)) (fJ (iF ys p2 (pa p2)) (pa p2)).ix ((pa p2)+1)) t (ye g 0 rfl) a.hp a.gN (pa p2) (by first|omega|(rw[mJ];omega))) ?_
   rintro _ A ⟨rfl,G⟩
   have h:=(yi g G)
   refine fQ h 2 ?_
   refine tN (?_)
   have v:=yg [4,5,0,1,2,3] h
   exact again (iF ys p2 (pa p2),f,jc (jc B (fJ (iF ys p2 (pa p2)) p2).ix (p2+1)) (fJ (iF ys p2 (pa p2)) (pa p2)).ix ((pa p2)+1),(pa p2),rG (iF ys p2 (pa p2)) (pa p2)) ⟨rfl,rfl,rfl,gm rO,trivial⟩ (⟨v,a,by rw[mJ];omega,L.up O M I.2.2,rfl⟩) (by show pa p2<p2;simp only[pa];omega)
theorem ad9(D E hb n:Nat)(iv pv:Value)(ps:List (Option Nat))(fP:List gE)(pl:List Nat)(p:Nat)(w:World)(O:Own (vz D p E hb n iv pv fP ps pl) w)(Q:Hp n fP pl)(P:js n ps pl)(hp:p<fP.length)(hA:ua fP p) :
 CR ya 274 #[(M3 hb),(Zb D),(Zb E)] w (fun r w' => r = .tuple #[]/\∃ (p2:Nat),∃ C ys B,og n fP ys ps C B/\p2<ys.length/\Ord ys/\fZ (vz D p E hb n iv pv fP ps pl) w w' (vz D p2 E hb n iv pv ys C B)):=by
 refine en Tryz.func274 Tryz.ntmps274 ?_
 have M:=(yp O).unpack
 have K:=og.refl Q P
 have i:=yg [2,3,4,5,0,1] M
 have b:=yc [_,_,_,_] _ i
 refine fS M 4 ?_
 refine qg (fi:=(Zh hb)) (ca:=[]) rfl rfl rfl OT (PM hb n iv pv ps fP pl w (ye b 0 rfl) K.hp K.gN p (by first|omega|(rw[mJ];omega))) ?_
 rintro _ x ⟨rfl,G⟩
 have c:=(yi b G)
 have j:=yg [4,5,0,1,2,3] c
 refine gF c 4 ?_
 refine lp (α:=List gE×List (Option Nat)×List Nat×Nat×Int) (fun(ys,C,B,p2,q)=>[(0,(M3 hb)),(1,(Zb D)),(2,(Zb E)),(4,(Za q))]) (fun(ys,C,B,p2,q) w1=>St [(w,(vz D p E hb n iv pv fP ps pl).gG)] (Ht D p2 E hb n iv pv ys C B) w1/\og n fP ys ps C B/\p2<ys.length/\ua ys p2/\q=nK ys p2) (fun(ys,C,B,p2,q)=>ys.length-p2) (fP,ps,pl,p,(nK fP p)) ⟨rfl,rfl,rfl,gm rO,trivial⟩ (⟨j,K,hp,hA,rfl⟩) ?_
 rintro⟨ys,C,B,p2,q⟩ y k ⟨F,H,S,L,J⟩
 refine fS F 4 ?_
 by_cases d:(q:Int)=(-1:Int)
 . have T:=L.stop (UR (J.symm.trans d))
   refine fQ F 8 ?_
   refine iQ Tryz.results274 ?_
   exact⟨rfl,p2,C,ys,B,H,S,T,yj (yc [_,_,_,_,_,_] _ F)⟩
 . have I:=UQ (fun N=>@d (J.trans N))
   refine fK F 1 ?_
   obtain rfl:q=((jy ys p2:Nat):Int):=J.trans I.1
   have R:=Nl I.2
   have U:=R.1
   have l:=yg [2,3,4,5,0,1] F
   have e:=yc [_,_,_,_] _ l
   refine fK F 12 ?_
   refine cl IK (Ja hb n iv pv C ys B k (ye e 0 rfl) H.hp H.gN p2 (jy ys p2) o_ o_) ?_
   rintro _ z ⟨rfl,f,m,o,G⟩
   have s:=(yi e G)
   have a:=H.swap (p:=p2) (q:=(jy ys p2)) o_ o_ m o
   refine gJ s 11 fun t u=>?_
   have g:=yc [_,_,_,_] _ u
   refine qg (fi:=(Zh hb)) (ca:=[]) rfl rfl rfl OT (PM hb n iv pv f (iF ys p2 (jy ys p2)) (jc (jc B (fJ (iF ys p2 (jy ys p2)) p2).ix (p2+1)) (MX ys p2).ix ((jy ys p2)+1)) t (ye g 0 rfl) a.hp a.gN (jy ys p2) (by first|omega|(rw[mJ];omega))) ?_
   rintro _ A ⟨rfl,G⟩
   have h:=(yi g G)
   refine fQ h 2 ?_
   refine tN (?_)
   have v:=yg [4,5,0,1,2,3] h
   exact again (iF ys p2 (jy ys p2),f,jc (jc B (fJ (iF ys p2 (jy ys p2)) p2).ix (p2+1)) (MX ys p2).ix ((jy ys p2)+1),(jy ys p2),nK (iF ys p2 (jy ys p2)) (jy ys p2)) ⟨rfl,rfl,rfl,gm rO,trivial⟩ (⟨v,a,by rw[mJ];omega,L.down rfl I.2,rfl⟩) (by show (iF ys p2 (jy ys p2)).length-jy ys p2<ys.length-p2;rw[mJ];omega)
theorem SA(hb n:Nat)(iv pv:Value)(ps:List (Option Nat))(fP:List gE)(pl:List Nat)(w:World)(Q:Own (Zk hb n iv pv fP ps pl) w)(S:Hp n fP pl)(R:js n ps pl)(p:Nat)(hp:p<fP.length)(hA:s8 fP p) :
 CR ya 232 (Zm hb p) w (fun r w' => r = .tuple #[]/\∃ O ys P,og n fP ys ps O P/\Ord ys/\fZ (Zk hb n iv pv fP ps pl) w w' (Zk hb n iv pv ys O P)):=by
 refine en Tryz.func232 Tryz.ntmps232 ?_
 have N:=(yp Q).unpack
 have F:=og.refl S R
 refine fS N 2 ?_
 refine ij N (fun a C D E i=>?_)
 refine ij i (fun b j G H c=>?_)
 refine fK c 4 ?_
 refine mD (vf:=[]) (vc:=(Z5 b a)) rfl rfl rfl (fK c 7 ?_)
 refine mD (vf:=(Zh hb)) (vc:=[]) rfl rfl rfl ?_
 have e:=yc [_,_,_,_,_,_] _ c
 refine qg (fi:=[]) (ca:=(Z5 b a)) rfl rfl rfl OR (aea b a hb n iv pv ps fP pl p j (ye e 0 rfl) F.hp F.gN (by first|assumption|omega) hA) ?_
 rintro _ k ⟨rfl,l,m,o,q,s,I,t,M⟩
 have f:=(yi e M)
 have d:=F.trans s
 refine fK f 5 ?_
 refine mD (vf:=(Zh hb)) (vc:=[]) rfl rfl rfl ?_
 have g:=yc [_,_,_,_,_,_] _ f
 refine qg (fi:=[]) (ca:=(Z5 b a)) rfl rfl rfl OR (ad9 b a hb n iv pv m o q l k (ye g 0 rfl) d.hp d.gN (by first|assumption|omega) t) ?_
 rintro _ J ⟨rfl,K,u,v,x,y,L,z,M⟩
 have h:=(yi g M)
 have A:=d.trans y
 refine fQ h 1 ?_
 refine iQ Tryz.results232 ?_
 have B:=yg [2,3,4,5,0,1] h
 exact⟨rfl,u,v,x,A,z,yj (yc [_,_,_,_] _ B)⟩
end
section
open Go Go.Sx
theorem ZF(hb n:Nat)(iv pv:Value)(ps:List (Option Nat))(fP:List gE)(pl:List Nat)(w:World)(o:Own (Zk hb n iv pv fP ps pl) w)(p:Hp n fP pl)(l:js n ps pl)(i:Nat)(hi:i<n)(q:fJ pl i=0) :
 CR ya 242 (Zm hb i) w (fun r w' => r = .tuple #[.int .i64 0,.int .i64 5]/\fZ (Zk hb n iv pv fP ps pl) w w' (Zk hb n iv pv fP ps pl)):=by
 have t:=l.n
 have s:=p.len
 have u:=l.val i
 refine en Tryz.func242 Tryz.ntmps242 ?_
 have m:=(yp o).unpack
 have a:=yc [_,_,_,_] _ m
 refine fS m 11 ?_
 refine cl Ai (Av hb n iv pv ps fP pl w (ye a 0 rfl)) ?_
 rintro _ g ⟨rfl,k⟩
 have b:=(yi a k)
 have c:=yc [_,_,_,_] _ b
 refine fK b 9 ?_
 refine cl IN (I8 hb n iv pv ps fP pl g (ye c 0 rfl) i o_) ?_
 rintro _ h ⟨rfl,k⟩
 have d:=(yi c k)
 have e:=yc [_,_,_,_] _ d
 refine fK d 9 ?_
 refine cl IP (I9 hb n iv pv ps fP pl h (ye e 0 rfl) l i o_) ?_
 rintro _ j ⟨rfl,k⟩
 have f:=(yi e k)
 refine cmp rfl rfl rfl (oM o_) (fQ f 13 ?_)
 refine iC (v:=Zc) (v' := (.int .i64 5)) Tryz.results242 rfl rfl ?_
 exact⟨rfl,yj (yc [_,_,_,_] _ f)⟩
theorem ZG(hb n:Nat)(iv pv:Value)(ps:List (Option Nat))(fP:List gE)(pl:List Nat)(w:World)(h:Own (Zk hb n iv pv fP ps pl) w)(e:Hp n fP pl)(d:js n ps pl)(i:Nat)(hi:i<n)(g:fJ pl i=0) :
 CR ya 241 (Zm hb i) w (fun r w' => r = .tuple G7/\fZ (Zk hb n iv pv fP ps pl) w w' (Zk hb n iv pv fP ps pl)):=by
 have l:=d.n
 have k:=e.len
 have m:=d.val i
 refine en Tryz.func241 Tryz.ntmps241 ?_
 have f:=(yp h).unpack
 have a:=yc [_,_,_,_] _ f
 refine fS f 10 ?_
 refine cl Xp (ZF hb n iv pv ps fP pl w (ye a 0 rfl) e d i hi g) ?_
 rintro _ c ⟨rfl,j⟩
 have b:=(yi a j)
 refine fQ b 23 ?_
 refine iC (v:=Zc) (v' := Zp) Tryz.results241 rfl rfl ?_
 exact⟨rfl,yj (yc [_,_,_,_] _ b)⟩
theorem PS(hb n:Nat)(iv pv:Value)(ps:List (Option Nat))(fP:List gE)(pl:List Nat)(w:World)(Y:Own (Zk hb n iv pv fP ps pl) w)(T:Hp n fP pl)(Q:js n ps pl)(Z:Ord fP)(i:Nat)(hi:i<n)(W:fJ pl i=0)(key:Int)(hk:gX .i64 key) :
 CR ya 195 (Zu hb i key) w (fun r w' => r = .int .i64 0/\∃ jv R ys S,Hp n ys S/\js n R S/\Ord ys/\(∀ e,e∈ys↔e∈fP\/e=⟨i,key⟩)/\R.length=ps.length/\ys.length=fP.length+1/\fZ (Zk hb n iv pv fP ps pl) w w' (Zk hb n jv pv ys R S)):=by
 have af:=Q.n
 have ae:=T.len
 have ag:=Q.val i
 have U:=T.push hi W hk
 have ad:fP.length+1<=n:=by have X:=U.len;simpa using X
 refine en Tryz.func195 Tryz.ntmps195 ?_
 have V:=(yp Y).unpack
 have f:=yc [_,_,_,_] _ V
 refine fS V 10 ?_
 refine cl Ai (Av hb n iv pv ps fP pl w (ye f 0 rfl)) ?_
 rintro _ u ⟨rfl,F⟩
 have g:=(yi f F)
 have h:=yc [_,_,_,_] _ g
 refine fK g 9 ?_
 refine cl IN (I8 hb n iv pv ps fP pl u (ye h 0 rfl) i o_) ?_
 rintro _ y ⟨rfl,F⟩
 have j:=(yi h F)
 have k:=yc [_,_,_,_] _ j
 refine fK j 9 ?_
 refine cl IP (I9 hb n iv pv ps fP pl y (ye k 0 rfl) Q i o_) ?_
 rintro _ J ⟨rfl,F⟩
 have c:=(yi k F)
 refine cmp rfl rfl rfl (qd o_) (fK c 13 ?_)
 refine iL (m:=fP.length) 1 rfl rfl nU c rfl (fK c 12 ?_)
 refine ja (pvs:=[(0,(Za i)),(1,(Za key))]) (v:=.agg (Zx i key)) rfl rfl (jq [(0,(Ze i)),(1,(Ze key))] pV RE rfl ⟨rfl,rfl,rfl,rfl,trivial⟩ rfl) (jL (vs:=(D7 i key)) (cs:=(Zo i key)) rfl rfl nU pV rfl (by simp[Value.cells]) rfl rfl rfl c (fun z K L M l=>lF (cf:=gE.cells) (ys:=fP) (zs:=[(⟨i,key⟩:gE)]) (LL:=fun a=>[row (Z3 z) 224 2 1 ((Zo i key)),blk hb 346 (pG hb n iv pv),fL gE.cells a 224 2 (fP++[(⟨i,key⟩:gE)]),fL ir pv 361 1 ps,gK fR 363 64 ps pl]) 2 rfl rfl rfl nU pV rfl d_ l rfl (kO l (i:=0) rfl) (fun x hx=>zn.1 (show List.all _ _=true from rfl) x hx) (by simp only[ze,zh];omega) (by simp only[ze,zh];omega) f_ ?_))
 intro a N A O
 have d:=yg [1,2,3,4] A
 refine fK d 2 ?_
 refine jM 0 d (fun B o=>?_) (hvs:=(cells_one (yu d (i:=1) rfl))) (h1:=(ia (yu d (i:=1) rfl) kT))
 have p:=yc [_,_,_,_] _ o
 refine fK o 7 ?_
 refine cl EE (EX hb n a pv ps (fP++[(⟨i,key⟩:gE)]) pl B (ye p 0 rfl) Q i hi (fP.length:Int) (fP.length+1) o_ o_) ?_
 rintro _ C ⟨rfl,ac,D,aa,F⟩
 have q:=(yi p F)
 have ab:=aa
 have s:=yc [_,_,_,_] _ q
 refine fK q 6 ?_
 refine cl OH (SA hb n a pv ac (fP++[(⟨i,key⟩:gE)]) (jc pl i (fP.length+1)) C (ye s 0 rfl) U ab fP.length (by first|omega|(simp only[gC,zq,ze,zh];omega)) (acL Z _)) ?_
 rintro _ P ⟨rfl,E,G,H,b,I,F⟩
 have t:=(yi s F)
 refine fQ t 8 ?_
 refine gq (v:=Zc) Tryz.results195 rfl ?_
 exact⟨rfl,a,E,G,H,b.hp,b.gN,I,fun e=>(b.mem e).trans s_,by rw[b.oS,D],by rw[b.len];simp,yj (yc [_,_,_,_] _ t)⟩
theorem ZO(hb n:Nat)(iv pv:Value)(ps:List (Option Nat))(fP:List gE)(pl:List Nat)(w:World)(o:Own (Zk hb n iv pv fP ps pl) w)(q:Hp n fP pl)(l:js n ps pl)(i:Nat)(hi:i<n)(p:Nat)(hp:fJ pl i=p+1)(key:Int) :
 CR ya 195 (Zu hb i key) w (fun r w' => r = .int .i64 6/\fZ (Zk hb n iv pv fP ps pl) w w' (Zk hb n iv pv fP ps pl)):=by
 have t:=l.n
 have s:=q.len
 have u:=l.val i
 refine en Tryz.func195 Tryz.ntmps195 ?_
 have m:=(yp o).unpack
 have a:=yc [_,_,_,_] _ m
 refine fS m 10 ?_
 refine cl Ai (Av hb n iv pv ps fP pl w (ye a 0 rfl)) ?_
 rintro _ g ⟨rfl,k⟩
 have b:=(yi a k)
 have c:=yc [_,_,_,_] _ b
 refine fK b 9 ?_
 refine cl IN (I8 hb n iv pv ps fP pl g (ye c 0 rfl) i o_) ?_
 rintro _ h ⟨rfl,k⟩
 have d:=(yi c k)
 have e:=yc [_,_,_,_] _ d
 refine fK d 9 ?_
 refine cl IP (I9 hb n iv pv ps fP pl h (ye e 0 rfl) l i o_) ?_
 rintro _ j ⟨rfl,k⟩
 have f:=(yi e k)
 refine cmp rfl rfl rfl (Eo o_) (fQ f 12 ?_)
 refine gq (v:=zK) Tryz.results195 rfl ?_
 exact⟨rfl,yj (yc [_,_,_,_] _ f)⟩
theorem ZE(hb n:Nat)(iv pv:Value)(ps:List (Option Nat))(fP:List gE)(pl:List Nat)(w:World)(U:Own (Zk hb n iv pv fP ps pl) w)(J:Hp n fP pl)(O:js n ps pl)(N:Ord fP)(p:Nat)(hp:p<fP.length) :
 CR ya 178 (Zm hb p) w (fun r w' => r = .tuple #[]/\∃ Y L ys M,Hp n ys M/\js n L M/\Ord ys/\(∀ e,e∈ys↔e∈fP/\e.ix≠(fJ fP p).ix)/\L.length=ps.length/\ys.length+1=fP.length/\fZ (Zk hb n iv pv fP ps pl) w w' (Zk hb n Y pv ys L M)):=by
 have aa:=O.n
 have Z:=J.len
 obtain⟨k,W⟩:∃ k,fP.length=k+1:=⟨fP.length-1,o_⟩
 have K:=J.swap hp (show k<fP.length by omega)
 have ab:=mJ fP p k
 have Q:=K.cut (m:=k) o_
 have R:=fun e=>(V8 K (m:=k) o_ e)
 have S:fJ (iF fP p k) k=fJ fP p:=by rw[Ba hp o_,if_pos rfl]
 have T:((iF fP p k).take k).length=k:=by rw[zx];omega
 refine en Tryz.func178 Tryz.ntmps178 ?_
 have H:=(yp U).unpack
 refine fS H 6 ?_
 refine iL (m:=fP.length) 1 rfl rfl nU H rfl (ar (e:=(k:Int)) rfl rfl rfl rfl iT ?_)
 have f:=yc [_,_,_,_] _ H
 refine fK H 8 ?_
 refine cl IK (Ja hb n iv pv ps fP pl w (ye f 0 rfl) J O p k hp o_) ?_
 rintro _ u ⟨rfl,v,g,x,F⟩
 have j:=(yi f F)
 have o:=yc [_,_,_,_] _ j
 refine fK j 13 ?_
 refine cl EE (EX hb n iv pv v (iF fP p k) (jc (jc pl (fJ (iF fP p k) p).ix (p+1)) (fJ (iF fP p k) k).ix (k+1)) u (ye o 0 rfl) x ((fJ (iF fP p k) k).ix) (K.ix k o_) (-1) 0 o_ o_) ?_
 rintro _ y ⟨rfl,I,q,V,F⟩
 have d:=(yi o F)
 have P:=V
 refine fK d 10 ?_
 refine SF (l:=0) (h:=k) rfl rfl nU pV (y8 (cf:=gE.cells) d 1 rfl) rfl ⟨_,gm o_⟩ o_ o_ ?_
 have c:St _ [blk hb 346 (pG hb n iv pv),fL gE.cells (mR 2 iv 0 k) 224 2 ((iF fP p k).take k),fL ir pv 361 1 I,gK fR 363 64 I (jc (jc (jc pl (fJ (iF fP p k) p).ix (p+1)) (fJ (iF fP p k) k).ix (k+1)) ((fJ (iF fP p k) k).ix) 0)] y:=St.Sh d (i:=1) rfl f_ o_
 refine fK c 2 ?_
 refine jM 0 c (fun z a=>?_) (hvs:=(cells_one (yu c (i:=1) rfl))) (h1:=(ia (yu c (i:=1) rfl) kT))
 refine fK a 6 ?_
 by_cases E:((p:Int):Int)<((k:Int):Int)
 . have s:=yc [_,_,_,_] _ a
   refine fK a 7 ?_
   refine cl OH (SA hb n (mR 2 iv 0 k) pv I ((iF fP p k).take k) (jc (jc (jc pl (fJ (iF fP p k) p).ix (p+1)) (fJ (iF fP p k) k).ix (k+1)) ((fJ (iF fP p k) k).ix) 0) z (ye s 0 rfl) Q P p (by first|omega|(simp only[gC,zq,ze,zh];omega)) (N.cut W o_)) ?_
   rintro _ G ⟨rfl,A,B,C,b,D,F⟩
   have t:=(yi s F)
   refine fQ t 1 ?_
   refine iQ Tryz.results178 ?_
   exact⟨rfl,(mR 2 iv 0 k),A,B,C,b.hp,b.gN,D,fun e=>(b.mem e).trans (by rw[R e,KS hp o_,S]),by rw[b.oS,q,g],by rw[b.len,T];omega,yj (yc [_,_,_,_] _ t)⟩
 . refine fQ a 5 ?_
   refine iQ Tryz.results178 ?_
   have X:p=k:=by omega
   exact⟨rfl,(mR 2 iv 0 k),I,((iF fP p k).take k),jc (jc (jc pl (fJ (iF fP p k) p).ix (p+1)) (fJ (iF fP p k) k).ix (k+1)) ((fJ (iF fP p k) k).ix) 0,Q,P,by subst X;rw[aeG hp];exact N.V6 o_,fun e=>by rw[R e,KS hp o_,S],by rw[q,g],by rw[T];omega,yj (yc [_,_,_,_] _ a)⟩
theorem PN(hb n:Nat)(iv pv:Value)(ps:List (Option Nat))(fP:List gE)(pl:List Nat)(w:World)(q:Own (Zk hb n iv pv fP ps pl) w)(x:Hp n fP pl)(u:js n ps pl)(t:fP.length=0) :
 CR ya 177 (Zi hb) w (fun r w' => r = .tuple BE/\fZ (Zk hb n iv pv fP ps pl) w w' (Zk hb n iv pv fP ps pl)):=by
 refine en Tryz.func177 Tryz.ntmps177 ?_
 have p:=(yp q).unpack
 refine fS p 2 ?_
 refine iH p (fun g e h j b=>?_)
 have f:=yg [1,2,3,4,0] b
 have c:=yc [_,_,_,_] _ f
 refine fK b 7 ?_
 refine cl Ai (Av hb n iv pv ps fP pl e (ye c 0 rfl)) ?_
 rintro _ k ⟨rfl,s⟩
 have a:=(yi c s)
 refine fK a 6 ?_
 refine iL (m:=fP.length) 1 rfl rfl nU a rfl (cmp rfl rfl rfl (oM o_) (fK a 6 ?_))
 refine ja (pvs:=[]) (v:=.agg #[Zc,Zc]) rfl rfl (jq [] pV RE rfl trivial rfl) (jZ a 6 fun l d=>?_)
 refine nO (v:=Hz) (v' := Zp) Tryz.results177 (nE (cs:=vt) rfl wR rfl pV rfl (lM d (i:=4) (o:=0) (vs:=vt) rfl rfl)) (oC rfl) ?_
 exact⟨rfl,yj (yc [_,_,_,_] _ d)⟩
theorem PO(hb n:Nat)(iv pv:Value)(ps:List (Option Nat))(fP:List gE)(pl:List Nat)(w:World)(s:Own (Zk hb n iv pv fP ps pl) w)(y:Hp n fP pl)(x:js n ps pl)(u:0<fP.length) :
 CR ya 177 (Zi hb) w (fun r w' => r = .tuple (BF ((fJ fP 0).ix:Int) ((fJ fP 0).key))/\fZ (Zk hb n iv pv fP ps pl) w w' (Zk hb n iv pv fP ps pl)):=by
 refine en Tryz.func177 Tryz.ntmps177 ?_
 have q:=(yp s).unpack
 refine fS q 2 ?_
 refine iH q (fun g e h j b=>?_)
 have f:=yg [1,2,3,4,0] b
 have c:=yc [_,_,_,_] _ f
 refine fK b 7 ?_
 refine cl Ai (Av hb n iv pv ps fP pl e (ye c 0 rfl)) ?_
 rintro _ l ⟨rfl,t⟩
 have a:=(yi c t)
 refine fK a 6 ?_
 refine iL (m:=fP.length) 1 rfl rfl nU a rfl (cmp rfl rfl rfl (uu o_) (fK a 12 ?_))
 refine iK (cf:=gE.cells) (k:=0) (i:=0) rfl rfl rfl nU pV (y8 a 1 rfl) o_ o_ (gy om) (jZ a 6 fun p d=>?_)
 refine nO (v:=(BQ ((fJ fP 0).ix:Int) ((fJ fP 0).key))) (v' := Zf) Tryz.results177 (nE (cs:=(Zo ((fJ fP 0).ix:Int) ((fJ fP 0).key))) rfl wR rfl pV rfl (lM d (i:=4) (o:=0) (vs:=(Zo ((fJ fP 0).ix:Int) ((fJ fP 0).key))) rfl rfl)) (oC rfl) ?_
 exact⟨rfl,yj (yc [_,_,_,_] _ d)⟩
theorem ZN(hb n:Nat)(iv pv:Value)(ps:List (Option Nat))(fP:List gE)(pl:List Nat)(w:World)(U:Own (Zk hb n iv pv fP ps pl) w)(M:Hp n fP pl)(L:js n ps pl)(V:Ord fP)(K:0<fP.length) :
 CR ya 115 (Zi hb) w (fun r w' => r = .tuple (BF ((fJ fP 0).ix:Int) ((fJ fP 0).key))/\∃ W I ys J,Hp n ys J/\js n I J/\Ord ys/\(∀ e,e∈ys↔e∈fP/\e.ix≠(fJ fP 0).ix)/\I.length=ps.length/\ys.length+1=fP.length/\fZ (Zk hb n iv pv fP ps pl) w w' (Zk hb n W pv ys I J)):=by
 refine en Tryz.func115 Tryz.ntmps115 ?_
 have N:=(yp U).unpack
 refine fS N 2 ?_
 refine iH N (fun x g y z a=>?_)
 have h:=yg [1,2,3,4,0] a
 have b:=yc [_,_,_,_] _ h
 refine fK a 6 ?_
 refine cl Af (PO hb n iv pv ps fP pl g (ye b 0 rfl) M L K) ?_
 rintro _ A ⟨rfl,F⟩
 have c:=(yi b F)
 refine fK c 3 ?_
 refine iH c (fun B C D E j=>?_)
 refine gJ j 13 fun k l=>?_
 have m:=yg [1,2,3,4,0,5] l
 have d:=yc [_,_,_,_] _ m
 refine cl W4 (ZE hb n iv pv ps fP pl k (ye d 0 rfl) M L V 0 K) ?_
 rintro _ G ⟨rfl,p,q,s,t,O,P,Q,R,S,T,F⟩
 have u:=(yi d F)
 refine jZ u 11 fun H f=>?_
 refine nO (v:=(BQ ((fJ fP 0).ix:Int) ((fJ fP 0).key))) (v' := Zf) Tryz.results115 (nE (cs:=(Zo ((fJ fP 0).ix:Int) ((fJ fP 0).key))) rfl wR rfl pV rfl (lM f (i:=5) (o:=0) (vs:=(Zo ((fJ fP 0).ix:Int) ((fJ fP 0).key))) rfl rfl)) (oC rfl) ?_
 exact⟨rfl,p,q,s,t,O,P,Q,R,S,T,yj (yc [_,_,_,_] _ f)⟩
theorem ZM(hb n:Nat)(iv pv:Value)(ps:List (Option Nat))(fP:List gE)(pl:List Nat)(w:World)(z:Own (Zk hb n iv pv fP ps pl) w)(B:Hp n fP pl)(A:js n ps pl)(y:fP.length=0) :
 CR ya 115 (Zi hb) w (fun r w' => r = .tuple BE/\fZ (Zk hb n iv pv fP ps pl) w w' (Zk hb n iv pv fP ps pl)):=by
 refine en Tryz.func115 Tryz.ntmps115 ?_
 have x:=(yp z).unpack
 refine fS x 2 ?_
 refine iH x (fun j e k l a=>?_)
 have f:=yg [1,2,3,4,0] a
 have b:=yc [_,_,_,_] _ f
 refine fK a 6 ?_
 refine cl Af (PN hb n iv pv ps fP pl e (ye b 0 rfl) B A y) ?_
 rintro _ m ⟨rfl,C⟩
 have c:=(yi b C)
 refine fK c 3 ?_
 refine iH c (fun p q s t g=>?_)
 refine jZ g 22 fun u d=>?_
 refine nO (v:=Hz) (v' := Zp) Tryz.results115 (nE (cs:=vt) rfl wR rfl pV rfl (lM d (i:=5) (o:=0) (vs:=vt) rfl rfl)) (oC rfl) ?_
 have h:=yg [1,2,3,4,0,5] d
 exact⟨rfl,yj (yc [_,_,_,_] _ h)⟩
end
section
open Go Go.Sx
theorem NI(v:Value)(xs:List gE)(w:World)(hv:iw 2 gE.cells (fun _=>True) w v xs)(m:xs.length<=1000000) :
 CR ya 239 #[v] w (fun r w' => p5 2 gE.cells w w' r 224 xs/\gx [] w w'):=by
 refine en Tryz.func239 Tryz.ntmps239 ?_
 have l:=yt w
 refine fS l 9 ?_
 refine Ci (v:=v) rfl rfl rfl nU hv (gF l 2 ?_)
 cases e:(wo v:Bool)
 . skip
   refine fS l 5 ?_
   refine jL (vs:=[]) (cs:=[]) rfl rfl nU pV rfl (by intro v hv;simp at hv) rfl rfl rfl l ?_
   intro f g h i c
   have d:=c
   refine fK c 1 ?_
   refine lF (cf:=gE.cells) (ys:=[]) (zs:=xs) (LL:=fun a=>[fL gE.cells a 224 2 xs]) 0 rfl rfl rfl nU pV rfl d_ d rfl (iw.src (yw d s_ d_ hv) f_) (xH f_ _) (by simp only[zh];omega) (by simp only[zh];omega) f_ (fun a j b k=>fQ b 4 ?_)
   refine gq (v:=a) Tryz.results239 rfl ?_
   exact⟨Di b s_,b.gz s_⟩
 . skip
   refine iN l 8 ?_
   refine gq (v:=Zg) Tryz.results239 rfl ?_
   obtain rfl:=CI e hv
   exact⟨p5.CH, l.gz s_⟩
theorem ZH(n:Nat)(w:World)(B:n<=65536) :
 CR ya 173 (Z8 n) w (fun r w' => ∃ hb pv,r = .tuple (Zy hb)/\fZ (gj []) w w' (gj [blk hb 346 [(Zb hb),(Za n),Zg,pv],fL gE.cells Zg 224 2 ([]),fL ir pv 361 1 (List.replicate ((n+63) / 64) none),gK fR 363 64 (List.replicate ((n+63) / 64) none) (List.replicate (64*((n+63) / 64)) 0)])):=by
 refine en Tryz.func173 Tryz.ntmps173 ?_
 have A:=yt w
 refine fS A 10 ?_
 refine cmp rfl rfl rfl (kV o_) (fK A 2 ?_)
 refine cmp rfl rfl rfl (pJ o_) (fK A 10 ?_)
 refine ar (e:=((n+64:Nat):Int)) rfl rfl rfl rfl iT (ar (e:=((n+63:Nat):Int)) rfl rfl rfl rfl iT (quo (a:=((n+63:Nat):Int)) (b:=64) (e:=(((n+63) / 64:Nat):Int)) rfl rfl rfl d_ (wD 64 o_) (qU (cf:=ir) (z0:=none) (m:=((n+63) / 64)) (c:=((n+63) / 64)) rfl rfl rfl uX Da rfl f_ d_ (zk _) o_ o_ A (fun d s t u j=>ja (pvs:=[(1,(Za n)),(3,(Zd d ((n+63) / 64)))]) (v:=.agg #[Zt,(Za n),Zg,(Zd d ((n+63) / 64))]) rfl rfl (jq [(1,(Ze n)),(3,(p7 d ((n+63) / 64)))] F7 RJ rfl ⟨rfl,rfl,rfl,rfl,trivial⟩ rfl) (ij j (fun f x y z k=>?_))))))
 refine gJ k 14 fun g l=>?_
 have o:=lU (cf:=ir) l (i:=1) rfl f_ (zk _) (by simp only[maxLen];omega)
 have p:St _ [gK fR 363 64 (List.replicate ((n+63) / 64) none) (List.replicate (64*((n+63) / 64)) 0),blk f 346 (MS f n d ((n+63) / 64)),fL ir (Zd d ((n+63) / 64)) 361 1 (List.replicate ((n+63) / 64) none)] g:=St.Ep o ((n+63) / 64)
 have h:St _ [fL gE.cells Zg 224 2 ([]),gK fR 363 64 (List.replicate ((n+63) / 64) none) (List.replicate (64*((n+63) / 64)) 0),blk f 346 (MS f n d ((n+63) / 64)),fL ir (Zd d ((n+63) / 64)) 361 1 (List.replicate ((n+63) / 64) none)] g:=oU p 224 2
 refine fQ h 6 ?_
 refine iC (v:=(Zb f)) (v' := Zc) Tryz.results173 rfl rfl ?_
 have q:=yg [2,0,3,1] h
 exact⟨f,(Zd d ((n+63) / 64)),rfl,nV (yc [_,_,_,_] [] q)⟩
abbrev acH:List (List Nat):=[[],[0],[0,1],[0,1,2],[],[4],[4,5],[4,5,6],[4,5,6,7],[],[9],[9,10],[9,10,11],[9,10,11,12],[9,10,11,12,13],[0,1,2,3,4,5,6,7,8,9,10,11,12,13,14],[0,1,2,3,4,5,6,7,8,9,10,11,12,13,14,15],[0,1,2,3,4,5,6,7,8,9,10,11,12,13,14,15,16]]
theorem ZD(hb n:Nat)(iv pv:Value)(ps:List (Option Nat))(fP:List gE)(pl:List Nat)(w:World)(hO:Own (Zk hb n iv pv fP ps pl) w)(hS:Hp n fP pl)(hP:js n ps pl) :
 CR ya 189 (Zi hb) w (fun r w' => ∃ ac ae af T,r = .pointer (some ⟨ac,0,none⟩)/\js n T pl/\T.length=ps.length/\fZ (Zk hb n iv pv fP ps pl) w w' (gj [blk hb 346 (pG hb n iv pv),fL gE.cells iv 224 2 fP,fL ir pv 361 1 ps,gK fR 363 64 ps pl,blk ac 346 (pG ac n ae af),fL gE.cells ae 224 2 fP,fL ir af 361 1 T,gK fR 363 64 T pl])):=by
 have aj:=hP.n
 have ai:=hS.len
 have ak:=hP.len
 have al:=hP.room
 have am:=hP.top
 refine enter (vs:=(Zh hb)) Tryz.func189 rfl Tryz.ntmps189 rfl ?_
 have ad:=(yp hO).unpack
 have x:=yc [_,_,_,_] _ ad
 refine fS ad 9 ?_
 refine jI (vl:=(Zh hb)) rfl rfl Ai (Av hb n iv pv ps fP pl w (ye x 0 rfl)) ?_
 rintro _ N ⟨rfl,ht⟩
 have p:=(lP (R' := (Zk hb n iv pv fP ps pl)) 0 x rfl ht rfl).unpack
 refine gF p 7 ?_
 refine Sb (Γ:=Value×Nat×Nat) mixed acH [8,14,16] k_ [fun(e,d,g)=>(Zb hb),fun(e,d,g)=>(Zb hb),fun(e,d,g)=>(.pointer (some ⟨hb,1,none⟩)),fun(e,d,g)=>(Za n),fun(e,d,g)=>(Zb hb),fun(e,d,g)=>(Zb hb),fun(e,d,g)=>(.pointer (some ⟨hb,2,none⟩)),fun(e,d,g)=>iv,fun(e,d,g)=>e,fun(e,d,g)=>(Zb hb),fun(e,d,g)=>(Zb hb),fun(e,d,g)=>(Ee hb),fun(e,d,g)=>pv,fun(e,d,g)=>(Za ps.length),fun(e,d,g)=>(Zd d ps.length),fun(e,d,g)=>(HC n e d ps.length),fun(e,d,g)=>(Zb g),fun(e,d,g)=>(Zb g)] [([],(fun(e,d,g)=>(Hu hb n iv pv fP ps pl),fun _ _=>True)),([8],(fun(e,d,g)=>[fL gE.cells e 224 2 fP,blk hb 346 (pG hb n iv pv),fL gE.cells iv 224 2 fP,fL ir pv 361 1 ps,gK fR 363 64 ps pl],fun _ _=>True)),([14],(fun(e,d,g)=>[blk d 361 ((List.replicate ps.length none).flatMap ir),blk hb 346 (pG hb n iv pv),fL gE.cells iv 224 2 fP,fL ir pv 361 1 ps,gK fR 363 64 ps pl],fun _ _=>True)),([8,14],(fun(e,d,g)=>[blk d 361 ((List.replicate ps.length none).flatMap ir),fL gE.cells e 224 2 fP,blk hb 346 (pG hb n iv pv),fL gE.cells iv 224 2 fP,fL ir pv 361 1 ps,gK fR 363 64 ps pl],fun _ _=>True)),([8,14,16],(fun(e,d,g)=>[blk g 346 (MV n e d ps.length),blk d 361 ((List.replicate ps.length none).flatMap ir),fL gE.cells e 224 2 fP,blk hb 346 (pG hb n iv pv),fL gE.cells iv 224 2 fP,fL ir pv 361 1 ps,gK fR 363 64 ps pl],fun _ _=>True))] (Zg,0,0) (fun(e,d,g)=>(3,(Zb g)) :: (26,(Zb g)) :: (25,(HC n e d ps.length)) :: (24,(Zd d ps.length)) :: (23,(Za ps.length)) :: (22,pv) :: (21,(Ee hb)) :: (20,(Zb hb)) :: (19,(Zb hb)) :: (18,e) :: (17,iv) :: (16,(.pointer (some ⟨hb,2,none⟩))) :: (15,(Zb hb)) :: (14,(Zb hb)) :: (13,(Za n)) :: (12,(.pointer (some ⟨hb,1,none⟩))) :: (11,(Zb hb)) :: (10,(Zb hb)) :: _) rfl p (fun _ _=>trivial) ?_ (fun(e,d,g)=>rfl) rfl ?_
 . skip
   refine ny rfl (fun(e,d,g) _ _=>qv rfl rfl (kI (v:=(Zb hb)) rfl)) (ny rfl (fun(e,d,g) _ _=>qv rfl rfl (wv (a:=⟨hb,0,none⟩) rfl)) (ny rfl (fun(e,d,g) _ _=>qv rfl rfl (sM (o:=0) (o' := 1) rfl Dk rfl gr rfl)) (AL rfl ⟨(fun(e,d,g) Z F hF=>qv rfl rfl (kW (a:=⟨hb,1,none⟩) (v:=(Za n)) rfl yf rfl (kQ F 0 rfl rfl))),(fun(e,d,g) Z F hF=>qv rfl rfl (kW (a:=⟨hb,1,none⟩) (v:=(Za n)) rfl yf rfl (kQ F 1 rfl rfl))),(fun(e,d,g) Z F hF=>qv rfl rfl (kW (a:=⟨hb,1,none⟩) (v:=(Za n)) rfl yf rfl (kQ F 1 rfl rfl))),(fun(e,d,g) Z F hF=>qv rfl rfl (kW (a:=⟨hb,1,none⟩) (v:=(Za n)) rfl yf rfl (kQ F 2 rfl rfl))),trivial,trivial⟩ (ny rfl (fun(e,d,g) _ _=>qv rfl rfl (kI (v:=(Zb hb)) rfl)) (ny rfl (fun(e,d,g) _ _=>qv rfl rfl (wv (a:=⟨hb,0,none⟩) rfl)) (ny rfl (fun(e,d,g) _ _=>qv rfl rfl (sM (o:=0) (o' := 2) rfl Dk rfl Lb rfl)) (AL rfl ⟨(fun(e,d,g) Z F hF=>qv rfl rfl (kW (a:=⟨hb,2,none⟩) (v:=iv) rfl nU rfl (kQ F 0 rfl rfl))),trivial,(fun(e,d,g) Z F hF=>qv rfl rfl (kW (a:=⟨hb,2,none⟩) (v:=iv) rfl nU rfl (kQ F 1 rfl rfl))),trivial,trivial,trivial⟩ ?_)))))))
   refine AK rfl ⟨⟨_,_,rfl,fun(e,d,g) Z F hF=>AE rfl rfl (oN (vl:=[iv]) rfl OJ) (NI iv fP Z (y8 F 1 rfl).any (by first|omega|(simp;omega))) (fun s _ hz=>⟨(s,d,g),⟨(tQ F hz.2 hz.1),trivial⟩,rfl,kC rfl sT⟩)⟩,trivial,⟨_,_,rfl,fun(e,d,g) Z F hF=>AE rfl rfl (oN (vl:=[iv]) rfl OJ) (NI iv fP Z (y8 F 2 rfl).any (by first|omega|(simp;omega))) (fun s _ hz=>⟨(s,d,g),⟨(lN (tQ F hz.2 hz.1) (List.Perm.swap _ _ _)),trivial⟩,rfl,kC rfl sT⟩)⟩,trivial,trivial,trivial⟩ (ny rfl (fun(e,d,g) _ _=>qv rfl rfl (kI (v:=(Zb hb)) rfl)) (ny rfl (fun(e,d,g) _ _=>qv rfl rfl (wv (a:=⟨hb,0,none⟩) rfl)) (ny rfl (fun(e,d,g) _ _=>qv rfl rfl (sM (o:=0) (o' := 3) rfl Dk rfl La rfl)) (AL rfl ⟨(fun(e,d,g) Z F hF=>qv rfl rfl (kW (a:=⟨hb,3,none⟩) (v:=pv) rfl uX rfl (kQ F 0 rfl rfl))),(fun(e,d,g) Z F hF=>qv rfl rfl (kW (a:=⟨hb,3,none⟩) (v:=pv) rfl uX rfl (kQ F 1 rfl rfl))),trivial,trivial,trivial,trivial⟩ (ny rfl (fun(e,d,g) _ _=>qv rfl rfl (Jy (v:=pv) rfl uX (y8 (cf:=ir) p 2 rfl))) (AK rfl ⟨⟨_,_,rfl,fun(e,d,g) Z F hF=>rN (cf:=ir) (z0:=none) (m:=ps.length) (c:=ps.length) rfl rfl rfl uX Da rfl f_ d_ (zk _) o_ o_ F (fun t _ h=>⟨(e,t,g),⟨h,trivial⟩,rfl,kC rfl sT⟩)⟩,⟨_,_,rfl,fun(e,d,g) Z F hF=>rN (cf:=ir) (z0:=none) (m:=ps.length) (c:=ps.length) rfl rfl rfl uX Da rfl f_ d_ (zk _) o_ o_ F (fun t _ h=>⟨(e,t,g),⟨h,trivial⟩,rfl,kC rfl sT⟩)⟩,trivial,trivial,trivial,trivial⟩ (AL rfl ⟨trivial,trivial,trivial,(fun(e,d,g) Z F hF=>qv rfl rfl (BZ (pvs:=[(1,(Za n)),(2,e),(3,(Zd d ps.length))]) (v:=.agg #[Zt,(Za n),e,(Zd d ps.length)]) rfl (jq [(1,(Ze n)),(2,[e]),(3,(p7 d ps.length))] F7 RJ rfl ⟨rfl,rfl,rfl,(cells_one (yu F (i:=1) rfl)),rfl,rfl,trivial⟩ rfl))),trivial,trivial⟩ ?_)))))))
   refine AK rfl ⟨trivial,trivial,trivial,⟨_,_,rfl,fun(e,d,g) Z F hF=>JE (v:=(HC n e d ps.length)) (cs:=(MV n e d ps.length)) rfl rfl rfl F (fun B _ h=>⟨(e,d,B),⟨h,trivial⟩,rfl,kC rfl sT⟩)⟩,trivial,trivial⟩ (ny rfl (fun(e,d,g) _ _=>qv rfl rfl (vL (v:=(Zb g)) rfl)) ?_)
   exact Q8
 rintro⟨e,d,g⟩ O C -
 refine Kz tt none C 13 fun D E=>?_
 have G:=lU (cf:=ir) E (i:=1) rfl f_ (zk _) (by simp only[maxLen];omega)
 have H:St _ [gK fR 363 64 (List.replicate ps.length none) pl,blk g 346 (HH g n e d ps.length),fL ir (Zd d ps.length) 361 1 (List.replicate ps.length none),fL gE.cells e 224 2 fP,blk hb 346 (pG hb n iv pv),fL gE.cells iv 224 2 fP,fL ir pv 361 1 ps,gK fR 363 64 ps pl] D:=St.Ep G ps.length
 have l:=yg [4,5,6,7,1,3,2,0] H
 refine fK l 4 ?_
 refine iL (m:=ps.length) 2 rfl rfl uX l rfl (gF l 4 ?_)
 refine lp (α:=Nat×List (Option Nat)) (fun(k,T)=>[(3,(Zb g)),(34,pv),(35,(Za ps.length)),(36,(Za k))]) (fun(k,T) w1=>St [(w,(Zk hb n iv pv fP ps pl).gG)] (Mc hb n iv pv fP ps pl g e d ps.length T) w1/\k<=ps.length/\qD ps T k) (fun(k,T)=>ps.length-k) (0,(List.replicate ps.length none)) ⟨rfl,rfl,rfl,gm rO,trivial⟩ (⟨l,o_,qD.start ps⟩) ?_
 rintro⟨k,T⟩ P Q ⟨aa,ag,hC⟩
 have ah:=hP.len
 have an:=hC.len
 refine fS aa 2 ?_
 by_cases R:((k:Int):Int)<((ps.length:Int):Int)
 . have hk:k<ps.length:=by omega
   obtain⟨I,j⟩:∃ q,(fJ ps k)=q:=⟨_,rfl⟩
   refine fK aa 21 ?_
   rcases I with _|y
   . skip
     refine lS (a:=(fJ ps k).map fun b=>⟨b,0,none⟩) (c:=false) rfl rfl rfl yT (by rw[j];rfl) (fQ aa 10 ?_)
     refine tN (?_)
     exact again ((k+1),T) ⟨rfl,rfl,rfl,gm rO,trivial⟩ (⟨aa,o_,hC.skip ((gy hk).trans (congrArg some j))⟩) (by show (ps.length-(k+1):Nat)<ps.length-k;omega)
   . skip
     refine lS (a:=(fJ ps k).map fun b=>⟨b,0,none⟩) (c:=true) rfl rfl rfl yT (by rw[j];rfl) (fK aa 6 ?_)
     refine rR (a:=⟨y,0,none⟩) rfl (AQ j) ?_
     have ab:(((pl.drop (64*k)).take 64).flatMap fR).length=64:=NF (cf:=fR) (sz:=1) f_ hP.len hk
     refine sO (b:=y) (o:=0) (cs:=(((pl.drop (64*k)).take 64).flatMap fR)) rfl rfl Dl rfl Le ab (St.Ny aa (i:=3) rfl ((gy hk).trans (congrArg some j))) (iH aa (fun u S U V J=>?_))
     refine FV (v:=.agg (((pl.drop (64*k)).take 64).flatMap fR).toArray) (vs:=(((pl.drop (64*k)).take 64).flatMap fR)) (L' := [blk u 363 (((pl.drop (64*k)).take 64).flatMap fR),blk hb 346 (pG hb n iv pv),fL gE.cells iv 224 2 fP,fL ir pv 361 1 ps,gK fR 363 64 ps pl,blk g 346 (HH g n e d ps.length),fL gE.cells e 224 2 fP,fL ir (Zd d ps.length) 361 1 T,gK fR 363 64 T pl]) 0 rfl rfl rfl rfl Le ab (zn.2 (xH f_ _)) J rfl (by rw[ab];decide) (Sv (by rw[ab];rfl)) rfl (fun W z X=>fK z 9 ?_)
     refine iO (f:=(fun _=>(some u))) 7 z (fun Y A=>?_) (v:=(Zd d ps.length)) (k:=k) (off:=0) (sz:=1)
     refine fQ A 7 ?_
     refine tN (?_)
     have K:=yg [0,8,1,2,3,4,5,6,7] A
     have L:=St.Nz K (hC.next hk) rfl
     have M:=yg [1,2,3,4,5,6,7,0] L
     exact again ((k+1),fN T k (fun _=>(some u))) ⟨rfl,rfl,rfl,gm rO,trivial⟩ (⟨M,o_,hC.set hk⟩) (by show (ps.length-(k+1):Nat)<ps.length-k;omega)
 . refine fQ aa 17 ?_
   refine gq (v:=(Zb g)) Tryz.results189 rfl ?_
   exact⟨g,e,(Zd d ps.length),T,rfl,hP.copy hC o_,hC.len,yo (R' := (gj (Mc hb n iv pv fP ps pl g e d ps.length T))) (yc [_,_,_,_,_,_,_,_] _ aa) za⟩
end
section
open Go Go.Sx
theorem vM(ab:Nat)(bv:Value)(d cb e cl:Int)(ps:List (Option Nat))(sl:List gP)(w:World)(f:Own (zU ab bv d cb e cl ps sl) w) :
 CR ya 153 (Zi ab) w (fun r w' => r = .bool true/\fZ (zU ab bv d cb e cl ps sl) w w' (zU ab bv d cb e cl ps sl)):=by
 refine en Tryz.func153 Tryz.ntmps153 ?_
 have b:=(yp f).unpack
 refine fS b 8 ?_
 refine lS (a:=some ⟨ab,0,none⟩) (c:=true) rfl rfl rfl Tryz.underlying165 rfl (fK b 6 ?_)
 refine Am (a:=⟨ab,0,none⟩) rfl rfl rfl Tryz.underlying165 F6 (fQ b 5 ?_)
 refine gq (v:=Zf) Tryz.results153 rfl ?_
 exact⟨rfl,yj (yc [_,_,_] _ b)⟩
theorem zX(ab:Nat)(bv:Value)(d cb f cl:Int)(ps:List (Option Nat))(sl:List gP)(w:World)(g:Own (zU ab bv d cb f cl ps sl) w)(i:Nat)(hi:i<=1000000)(b:Nat)(hb:ps[i / 64]? = some (some b)) :
 CR ya 180 (Zm ab i) w (fun r w' => r = .pointer (some ⟨b,i%64*3+0,none⟩)/\fZ (zU ab bv d cb f cl ps sl) w w' (zU ab bv d cb f cl ps sl)):=by
 have h:i / 64<ps.length:=(zg.1 hb).1
 refine en Tryz.func180 Tryz.ntmps180 ?_
 have c:=(yp g).unpack
 refine fS c 12 ?_
 refine quo (a:=(i:Int)) (b:=64) (e:=((i / 64:Nat):Int)) rfl rfl rfl d_ (wD 64 o_) (fK c 3 ?_)
 refine rem (a:=(i:Int)) (b:=64) (e:=((i%64:Nat):Int)) rfl rfl rfl d_ (CV 64) (rR rfl (AQ (iE hb)) (jB (o:=0) (o' := i%64*3+0) (i:=((i%64:Nat):Int)) rfl rfl rfl Tryz.underlying357 Tk o_ (by simp only[mj];omega) (fQ c 4 ?_)))
 refine gq (v:=(.pointer (some ⟨b,i%64*3+0,none⟩))) Tryz.results180 rfl ?_
 exact⟨rfl,yj (yc [_,_,_] _ c)⟩
theorem Nh(ab:Nat)(bv:Value)(A:As)(w:World)(h:Own (Zs ab bv A) w)(hA:A.ok)(i:Nat)(hi:i<=1000000) :
 CR ya 154 (Zm ab i) w (fun r w' => r = .int .i64 (if i<A.begun then(fJ A.sl i).st else 0)/\fZ (Zs ab bv A) w w' (Zs ab bv A)):=by
 refine en Tryz.func154 Tryz.ntmps154 ?_
 have f:=(yp h).unpack
 refine fS f 13 ?_
 by_cases d:((i:Int):Int)≥((A.begun:Int):Int)
 . refine fQ f 11 ?_
   refine gq (v:=Zc) Tryz.results154 rfl ?_
   exact⟨gm (by rw[if_neg o_]),yj (yc [_,_,_] _ f)⟩
 . have g:i<A.begun:=by omega
   have j:=(hA.room g).1
   obtain⟨b,hb⟩:=hA.at g
   have c:=yc [_,_,_] _ f
   refine fK f 10 ?_
   refine cl Ag (zX ab bv (A.n:Int) (A.begun:Int) (A.used:Int) A.last A.ps A.sl w (ye c 0 rfl) i o_ b hb) ?_
   rintro _ e ⟨rfl,k⟩
   have a:=(yi c k)
   refine fK a 1 ?_
   refine fa (o' := i%64*3+0) rfl rfl oG rfl gr (by simp only[kD];rfl) (ld rfl rfl yf rfl (Bj a (i:=2) rfl f_ d_ j hb rfl) (fQ a 4 ?_))
   refine gq (v:=(Za ((fJ A.sl i).st))) Tryz.results154 rfl ?_
   exact⟨gm (by rw[if_pos o_]),yj (yc [_,_,_] _ a)⟩
theorem Ux(ab:Nat)(bv:Value)(A:As)(w:World)(e:Own (Zs ab bv A) w)(hA:A.ok) :
 CR ya 145 (Zi ab) w (fun r w' => r = .int .i64 (A.used:Int)/\fZ (Zs ab bv A) w w' (Zs ab bv A)):=by
 refine en Tryz.func145 Tryz.ntmps145 ?_
 have d:=(yp e).unpack
 have a:=yc [_,_,_] _ d
 refine fS d 9 ?_
 refine cl vT (vM ab bv (A.n:Int) (A.begun:Int) (A.used:Int) A.last A.ps A.sl w (ye a 0 rfl)) ?_
 rintro _ c ⟨rfl,f⟩
 have b:=(yi a f)
 refine fQ b 16 ?_
 refine gq (v:=(Za A.used)) Tryz.results145 rfl ?_
 exact⟨rfl,yj (yc [_,_,_] _ b)⟩
theorem UG(ab:Nat)(bv:Value)(A:As)(w:World)(e:Own (Zs ab bv A) w)(hA:A.ok)(i:Nat)(f:A.last=(i:Int)) :
 CR ya 240 (Zi ab) w (fun r w' => r = .tuple (D2 i)/\fZ (Zs ab bv A) w w' (Zs ab bv A)):=by
 refine en Tryz.func240 Tryz.ntmps240 ?_
 have d:=(yp e).unpack
 have b:=yc [_,_,_] _ d
 refine fS d 11 ?_
 refine cl vT (vM ab bv (A.n:Int) (A.begun:Int) (A.used:Int) A.last A.ps A.sl w (ye b 0 rfl)) ?_
 rintro _ c ⟨rfl,g⟩
 have a:=(yi b g)
 refine fK a 11 ?_
 refine cmp rfl rfl rfl (Eo o_) (fQ a 17 ?_)
 refine iC (v:=(Za A.last)) (v' := Zf) Tryz.results240 rfl rfl ?_
 exact⟨by rw[f],yj (yc [_,_,_] _ a)⟩
theorem UH(ab:Nat)(bv:Value)(A:As)(w:World)(g:Own (Zs ab bv A) w)(hA:A.ok)(i:A.last = -1)(hb:A.begun<A.n) :
 CR ya 240 (Zi ab) w (fun r w' => r = .tuple (D2 A.begun)/\fZ (Zs ab bv A) w w' (Zs ab bv A)):=by
 refine en Tryz.func240 Tryz.ntmps240 ?_
 have f:=(yp g).unpack
 have a:=yc [_,_,_] _ f
 refine fS f 11 ?_
 refine cl vT (vM ab bv (A.n:Int) (A.begun:Int) (A.used:Int) A.last A.ps A.sl w (ye a 0 rfl)) ?_
 rintro _ d ⟨rfl,h⟩
 have b:=(yi a h)
 refine fK b 11 ?_
 refine cmp rfl rfl rfl (qd o_) (gJ b 14 fun e c=>?_)
 refine cmp rfl rfl rfl (pI o_) (fQ c 17 ?_)
 refine iC (v:=(Za A.begun)) (v' := Zf) Tryz.results240 rfl rfl ?_
 exact⟨rfl,yj (yc [_,_,_] _ c)⟩
end
section
open Go Go.Sx
theorem Um(ab:Nat)(bv:Value)(A:As)(w:World)(Q:Own (Zs ab bv A) w)(hA:A.ok)(i:Nat)(r:List Nat)(R:A.fl=i :: r) :
 CR ya 190 (Zi ab) w (fun r w' => r = .tuple (xl i)/\∃ J O,As.ok J/\(J.n=A.n/\J.begun=A.begun/\J.used=A.used+1)/\(∀ j,J.gY j↔A.gY j\/j=i)/\fZ (Zs ab bv A) w w' (Zs ab O J)):=by
 have V:=hA.n
 have U:=hA.le
 have W:=hA.used
 obtain⟨T,S,X,K,L⟩:=hA.pop R
 have F:=(hA.room K).1
 obtain⟨b,hb⟩:=hA.at K
 refine en Tryz.func190 Tryz.ntmps190 ?_
 have N:=(yp Q).unpack
 have g:=yc [_,_,_] _ N
 refine fS N 10 ?_
 refine cl vT (vM ab bv (A.n:Int) (A.begun:Int) (A.used:Int) A.last A.ps A.sl w (ye g 0 rfl)) ?_
 rintro _ s ⟨rfl,I⟩
 have h:=(yi g I)
 have k:=yc [_,_,_] _ h
 refine fK h 9 ?_
 refine cl OK (UG ab bv A s (ye k 0 rfl) hA i L) ?_
 rintro _ t ⟨rfl,I⟩
 have c:=(yi k I)
 refine fK c 25 ?_
 refine cmp rfl rfl rfl (oM L.symm) ?_
 have l:=yc [_,_,_] _ c
 refine fK c 7 ?_
 refine cl Ag (zX ab bv (A.n:Int) (A.begun:Int) (A.used:Int) A.last A.ps A.sl t (ye l 0 rfl) i o_ b hb) ?_
 rintro _ B ⟨rfl,I⟩
 have d:=(yi l I)
 refine fK d 1 ?_
 refine fa (o' := i%64*3+1) rfl rfl oG rfl gr (by simp only[kD];rfl) (ld rfl rfl yf rfl (Bj d (i:=2) rfl f_ d_ (by first|exact F|(simp only[gC];exact F)) hb rfl) (gJ d 9 fun u y=>?_))
 have m:=yc [_,_,_] _ y
 refine cl Ag (zX ab bv (A.n:Int) (A.begun:Int) (A.used:Int) ((fJ A.sl i).after) A.ps A.sl u (ye m 0 rfl) i o_ b hb) ?_
 rintro _ C ⟨rfl,I⟩
 have o:=(yi m I)
 refine fK o 7 ?_
 refine fa (o' := i%64*3+0) rfl rfl oG rfl gr (by simp only[kD];rfl) (qZ (f:=(fun x=>{ x with st:=1 })) (L' := [blk ab 275 (Hs ab bv A ((fJ A.sl i).after)),fL ir bv 354 1 A.ps,gK gP.cells 357 64 A.ps (fN A.sl i (fun x=>{ x with st:=1 }))]) 2 rfl rfl rfl rfl gr rfl rfl o rfl f_ d_ (by first|exact F|(simp only[gC];exact F)) hb rfl rfl rfl (fun D p=>fK p 6 ?_))
 refine fa (o' := i%64*3+1) rfl rfl oG rfl gr (by simp only[kD];rfl) (qZ (f:=(fun x=>{ x with after := -1 })) (L' := [blk ab 275 (Hs ab bv A ((fJ A.sl i).after)),fL ir bv 354 1 A.ps,gK gP.cells 357 64 A.ps (fN (fN A.sl i (fun x=>{ x with st:=1 })) i (fun x=>{ x with after := -1 }))]) 2 rfl rfl rfl rfl gr rfl rfl p rfl f_ d_ (by first|exact F|(simp only[gC];exact F)) hb rfl rfl rfl (fun E a=>fK a 6 ?_))
 refine fa (o' := i%64*3+2) rfl rfl oG rfl jD (by simp only[kD];rfl) (ld rfl rfl yk rfl (Bj a (i:=2) rfl f_ d_ (by first|exact F|(simp only[gC];exact F)) hb rfl) (ar (e:=(IntKind.u64.wrap (((fJ (fN (fN A.sl i (fun x=>{ x with st:=1 })) i (fun x=>{ x with after := -1 })) i).times)+1))) rfl rfl rfl rfl rfl (fK a 1 ?_)))
 refine fa (o' := i%64*3+2) rfl rfl oG rfl jD (by simp only[kD];rfl) (qZ (f:=(fun x=>{ x with times:=(IntKind.u64.wrap (((fJ (fN (fN A.sl i (fun x=>{ x with st:=1 })) i (fun x=>{ x with after := -1 })) i).times)+1)) })) (L' := [blk ab 275 (Hs ab bv A ((fJ A.sl i).after)),fL ir bv 354 1 A.ps,gK gP.cells 357 64 A.ps (fN (fN (fN A.sl i (fun x=>{ x with st:=1 })) i (fun x=>{ x with after := -1 })) i (fun x=>{ x with times:=(IntKind.u64.wrap (((fJ (fN (fN A.sl i (fun x=>{ x with st:=1 })) i (fun x=>{ x with after := -1 })) i).times)+1)) }))]) 2 rfl rfl rfl rfl jD rfl rfl a rfl f_ d_ (by first|exact F|(simp only[gC];exact F)) hb rfl rfl rfl (fun G q=>fK q 8 ?_))
 refine ar (e:=((A.used+1:Nat):Int)) rfl rfl rfl rfl iT (jZ q 13 fun H z=>?_)
 refine iC (v:=(Za i)) (v' := Zc) Tryz.results190 rfl rfl ?_
 have P:fN (fN (fN A.sl i (fun x=>{ x with st:=1 })) i (fun x=>{ x with after := -1 })) i (fun x=>{ x with times:=(IntKind.u64.wrap (((fJ (fN (fN A.sl i (fun x=>{ x with st:=1 })) i (fun x=>{ x with after := -1 })) i).times)+1)) })=fN A.sl i tk:=Lg F (by rw[j9 (by rw[gC];exact F),j9 F])
 have M:=z
 rw[P]at M
 exact⟨rfl,⟨A.n,A.begun,A.used+1,(fJ A.sl i).after,fN A.sl i tk,r,A.ps⟩,bv,T,⟨rfl,rfl,rfl⟩,S,yj (yc [_,_,_] _ M)⟩
theorem Uo(ab:Nat)(bv:Value)(A:As)(w:World)(hO:Own (Zs ab bv A) w)(hA:A.ok)(hf:A.fl=[])(az:A.begun<A.n) :
 CR ya 190 (Zi ab) w (fun r w' => r = .tuple (xl A.begun)/\∃ A2 aC,As.ok A2/\(A2.n=A.n/\A2.begun=A.begun+1/\A2.used=A.used+1)/\(∀ j,A2.gY j↔A.gY j\/j=A.begun)/\fZ (Zs ab bv A) w w' (Zs ab aC A2)):=by
 have aG:=hA.n
 have aF:=hA.le
 have aH:=hA.used
 have hl:A.last = -1:=by have h7:=hA.chain;rw[hf]at h7;exact h7
 refine enter (vs:=(Zh ab)) Tryz.func190 rfl Tryz.ntmps190 rfl ?_
 have aB:St _ (zW ab bv A) w:=(yp hO).unpack
 have y:=yc [_,_,_] _ aB
 refine fS aB 10 ?_
 refine jI (vl:=(Zh ab)) rfl rfl vT (vM ab bv (A.n:Int) (A.begun:Int) (A.used:Int) A.last A.ps A.sl w (kP y (i:=0) rfl)) ?_
 rintro _ z ⟨rfl,ht⟩
 have B:St _ (zW ab bv A) z:=(lP (R' := (Zs ab bv A)) 0 y rfl ht rfl).unpack
 have C:=yc [_,_,_] _ B
 refine fK B 9 ?_
 refine jI (vl:=(Zh ab)) rfl rfl OK (UH ab bv A z (kP C (i:=0) rfl) hA hl az) ?_
 rintro _ N ⟨rfl,ht⟩
 have h:St _ (zW ab bv A) N:=(lP (R' := (Zs ab bv A)) 0 C rfl ht rfl).unpack
 refine fK h 25 ?_
 refine cmp (a:=(A.begun:Int)) (b:=A.last) rfl rfl rfl (uu o_) (fK h 7 ?_)
 refine rem (a:=(A.begun:Int)) (b:=64) (e:=((A.begun%64:Nat):Int)) rfl rfl rfl d_ (CV 64) ?_
 by_cases af:(((A.begun%64:Nat):Int):Int)=(0:Int)
 . refine fK h 10 ?_
   refine iH h (fun d ag ah ai O=>?_)
   refine jL (vs:=(Zh d)) (cs:=(Zh d)) rfl rfl Bk C9 rfl (by simp[Value.cells]) rfl rfl rfl O ?_
   intro s P aj ak l
   have l:St _ [row (Z3 s) 354 1 1 ((Zh d)),blk d 357 M6,blk ab 275 (Z7 ab bv A),fL ir bv 354 1 A.ps,gK gP.cells 357 64 A.ps A.sl] P:=l
   refine lF (cf:=ir) (ys:=A.ps) (zs:=[(some d)]) (LL:=fun g=>(Mo (row (.slice (some ⟨s,0,none⟩) 1 1) 354 1 1 ([(.pointer (some ⟨d,0,none⟩))])) d ab bv A g (A.ps++[(some d)]))) 3 rfl rfl rfl Bk C9 rfl d_ l rfl (kO l (i:=0) rfl) (fun x hx=>zn.1 (show List.all _ _=true from rfl) x hx) (by have h7:=hA.oS;simp only[ze,zh];omega) (by have h7:=hA.oS;simp only[ze,zh];omega) f_ ?_
   intro g Q t al
   have t:St _ (Mo (row (.slice (some ⟨s,0,none⟩) 1 1) 354 1 1 ([(.pointer (some ⟨d,0,none⟩))])) d ab bv A g (A.ps++[(some d)])) Q:=t
   have m:=yg [1,2,3,4] t
   refine fK m 2 ?_
   refine jM 1 m (fun R D=>?_) (hvs:=(cells_one (yu m (i:=2) rfl))) (h1:=(ia (yu m (i:=2) rfl) kT))
   have S:=yg [0,3,1,2] D
   have U:St _ [gK gP.cells 357 64 (A.ps++[(some d)]) (A.sl++List.replicate 64 (⟨0,0,0⟩:gP)),blk ab 275 (Z7 ab g A),fL ir g 354 1 (A.ps++[(some d)])] R:=St.NA S hA.sl s_ rfl
   obtain⟨aA,ay,aE,aD,F,c,T⟩:=hA.fresh hf az (ps2:=A.ps++[(some d)]) (sl2:=A.sl++List.replicate 64 (⟨0,0,0⟩:gP)) (b:=d) (.inl ⟨o_,rfl,rfl⟩)
   refine fK D 7 ?_
   refine ar (a:=(A.begun:Int)) (b:=1) (c:=(A.begun:Int)+1) (e:=((A.begun+1:Nat):Int)) rfl rfl rfl rfl (by rw[oT o_];omega) (gJ U 9 fun V W=>?_)
   have X:=yg [1,2,0] W
   have E:=yc [_,_,_] _ X
   refine jI (vl:=(sI ab A.begun)) rfl rfl Ag (zX ab g (A.n:Int) ((A.begun+1:Nat):Int) (A.used:Int) A.last (A.ps++[(some d)]) (A.sl++List.replicate 64 (⟨0,0,0⟩:gP)) V (kP E (i:=0) rfl) A.begun o_ c T) ?_
   rintro _ Y ⟨rfl,ht⟩
   have G:St _ (Mb ab g A ((A.begun+1:Nat):Int) (A.ps++[(some d)]) (A.sl++List.replicate 64 (⟨0,0,0⟩:gP))) Y:=(lP (R' := (gj (Mb ab g A ((A.begun+1:Nat):Int) (A.ps++[(some d)]) (A.sl++List.replicate 64 (⟨0,0,0⟩:gP))))) 0 E rfl ht rfl).unpack
   refine fK G 7 ?_
   refine fa (o:=A.begun%64*3+0) (o' := A.begun%64*3+0) rfl rfl oG rfl gr (by simp only[kD];rfl) (qZ (cf:=gP.cells) (xs:=A.sl++List.replicate 64 (⟨0,0,0⟩:gP)) (k:=A.begun) (off:=0) (f:=(fun x=>{ x with st:=1 })) (u:=qH) (vs:=[qH]) (L' := [blk ab 275 (vG ab g A ((A.begun+1:Nat):Int)),fL ir g 354 1 (A.ps++[(some d)]),gK gP.cells 357 64 (A.ps++[(some d)]) (fN (A.sl++List.replicate 64 (⟨0,0,0⟩:gP)) A.begun (fun x=>{ x with st:=1 }))]) 2 rfl rfl rfl rfl gr rfl rfl G rfl f_ d_ (by first|exact F|(simp only[gC];exact F)) T rfl rfl rfl (fun am H=>fK H 6 ?_))
   refine fa (o:=A.begun%64*3+0) (o' := A.begun%64*3+1) rfl rfl oG rfl gr (by simp only[kD];rfl) (qZ (cf:=gP.cells) (xs:=fN (A.sl++List.replicate 64 (⟨0,0,0⟩:gP)) A.begun (fun x=>{ x with st:=1 })) (k:=A.begun) (off:=1) (f:=(fun x=>{ x with after := -1 })) (u:=Zw) (vs:=[Zw]) (L' := [blk ab 275 (vG ab g A ((A.begun+1:Nat):Int)),fL ir g 354 1 (A.ps++[(some d)]),gK gP.cells 357 64 (A.ps++[(some d)]) (fN (fN (A.sl++List.replicate 64 (⟨0,0,0⟩:gP)) A.begun (fun x=>{ x with st:=1 })) A.begun (fun x=>{ x with after := -1 }))]) 2 rfl rfl rfl rfl gr rfl rfl H rfl f_ d_ (by first|exact F|(simp only[gC];exact F)) T rfl rfl rfl (fun an p=>fK p 6 ?_))
   refine fa (o:=A.begun%64*3+0) (o' := A.begun%64*3+2) rfl rfl oG rfl jD (by simp only[kD];rfl) (ld (a:=⟨c,A.begun%64*3+2,none⟩) (v:=(.int .u64 ((fJ (fN (fN (A.sl++List.replicate 64 (⟨0,0,0⟩:gP)) A.begun (fun x=>{ x with st:=1 })) A.begun (fun x=>{ x with after := -1 })) A.begun).times))) rfl rfl yk rfl (Bj p (i:=2) rfl f_ d_ (by first|exact F|(simp only[gC];exact F)) T rfl) (ar (a:=(fJ (fN (fN (A.sl++List.replicate 64 (⟨0,0,0⟩:gP)) A.begun (fun x=>{ x with st:=1 })) A.begun (fun x=>{ x with after := -1 })) A.begun).times) (b:=1) (c:=((fJ (fN (fN (A.sl++List.replicate 64 (⟨0,0,0⟩:gP)) A.begun (fun x=>{ x with st:=1 })) A.begun (fun x=>{ x with after := -1 })) A.begun).times)+1) (e:=(IntKind.u64.wrap (((fJ (fN (fN (A.sl++List.replicate 64 (⟨0,0,0⟩:gP)) A.begun (fun x=>{ x with st:=1 })) A.begun (fun x=>{ x with after := -1 })) A.begun).times)+1))) rfl rfl rfl rfl rfl (fK p 1 ?_)))
   refine fa (o:=A.begun%64*3+0) (o' := A.begun%64*3+2) rfl rfl oG rfl jD (by simp only[kD];rfl) (qZ (cf:=gP.cells) (xs:=fN (fN (A.sl++List.replicate 64 (⟨0,0,0⟩:gP)) A.begun (fun x=>{ x with st:=1 })) A.begun (fun x=>{ x with after := -1 })) (k:=A.begun) (off:=2) (f:=(fun x=>{ x with times:=(IntKind.u64.wrap (((fJ (fN (fN (A.sl++List.replicate 64 (⟨0,0,0⟩:gP)) A.begun (fun x=>{ x with st:=1 })) A.begun (fun x=>{ x with after := -1 })) A.begun).times)+1)) })) (u:=(.int .u64 (IntKind.u64.wrap (((fJ (fN (fN (A.sl++List.replicate 64 (⟨0,0,0⟩:gP)) A.begun (fun x=>{ x with st:=1 })) A.begun (fun x=>{ x with after := -1 })) A.begun).times)+1)))) (vs:=[(.int .u64 (IntKind.u64.wrap (((fJ (fN (fN (A.sl++List.replicate 64 (⟨0,0,0⟩:gP)) A.begun (fun x=>{ x with st:=1 })) A.begun (fun x=>{ x with after := -1 })) A.begun).times)+1)))]) (L' := [blk ab 275 (vG ab g A ((A.begun+1:Nat):Int)),fL ir g 354 1 (A.ps++[(some d)]),gK gP.cells 357 64 (A.ps++[(some d)]) (fN (fN (fN (A.sl++List.replicate 64 (⟨0,0,0⟩:gP)) A.begun (fun x=>{ x with st:=1 })) A.begun (fun x=>{ x with after := -1 })) A.begun (fun x=>{ x with times:=(IntKind.u64.wrap (((fJ (fN (fN (A.sl++List.replicate 64 (⟨0,0,0⟩:gP)) A.begun (fun x=>{ x with st:=1 })) A.begun (fun x=>{ x with after := -1 })) A.begun).times)+1)) }))]) 2 rfl rfl rfl rfl jD rfl rfl p rfl f_ d_ (by first|exact F|(simp only[gC];exact F)) T rfl rfl rfl (fun ao I=>fK I 8 ?_))
   refine ar (a:=(A.used:Int)) (b:=1) (c:=(A.used:Int)+1) (e:=((A.used+1:Nat):Int)) rfl rfl rfl rfl (by rw[oT o_];omega) (jZ I 13 fun ap Z=>?_)
   refine iC (v:=(Za A.begun)) (v' := Zc) Tryz.results190 rfl rfl ?_
   have e9:fN (fN (fN (A.sl++List.replicate 64 (⟨0,0,0⟩:gP)) A.begun (fun x=>{ x with st:=1 })) A.begun (fun x=>{ x with after := -1 })) A.begun (fun x=>{ x with times:=(IntKind.u64.wrap (((fJ (fN (fN (A.sl++List.replicate 64 (⟨0,0,0⟩:gP)) A.begun (fun x=>{ x with st:=1 })) A.begun (fun x=>{ x with after := -1 })) A.begun).times)+1)) })=fN (A.sl++List.replicate 64 (⟨0,0,0⟩:gP)) A.begun tk:=Lg F (by rw[j9 (by rw[gC];exact F),j9 F])
   have ax:=Z
   rw[e9]at ax
   exact⟨rfl,⟨A.n,A.begun+1,A.used+1,A.last,fN (A.sl++List.replicate 64 (⟨0,0,0⟩:gP)) A.begun tk,[],A.ps++[(some d)]⟩,g,aA,⟨rfl,rfl,rfl⟩,ay,yo (R' := (Mx ab g ((⟨A.n,A.begun+1,A.used+1,A.last,fN (A.sl++List.replicate 64 (⟨0,0,0⟩:gP)) A.begun tk,[],A.ps++[(some d)]⟩:As).n:Int) ((⟨A.n,A.begun+1,A.used+1,A.last,fN (A.sl++List.replicate 64 (⟨0,0,0⟩:gP)) A.begun tk,[],A.ps++[(some d)]⟩:As).begun:Int) ((⟨A.n,A.begun+1,A.used+1,A.last,fN (A.sl++List.replicate 64 (⟨0,0,0⟩:gP)) A.begun tk,[],A.ps++[(some d)]⟩:As).used:Int) (⟨A.n,A.begun+1,A.used+1,A.last,fN (A.sl++List.replicate 64 (⟨0,0,0⟩:gP)) A.begun tk,[],A.ps++[(some d)]⟩:As))) (yc [_,_,_] _ ax) za⟩
 . obtain⟨aA,ay,aE,aD,F,c,T⟩:=hA.fresh hf az (ps2:=A.ps) (sl2:=A.sl) (b:=0) (.inr ⟨o_,rfl,rfl⟩)
   refine fK h 11 ?_
   refine ar (a:=(A.begun:Int)) (b:=1) (c:=(A.begun:Int)+1) (e:=((A.begun+1:Nat):Int)) rfl rfl rfl rfl (by rw[oT o_];omega) (gJ h 9 fun aa ac=>?_)
   have J:=yc [_,_,_] _ ac
   refine jI (vl:=(sI ab A.begun)) rfl rfl Ag (zX ab bv (A.n:Int) ((A.begun+1:Nat):Int) (A.used:Int) A.last A.ps A.sl aa (kP J (i:=0) rfl) A.begun o_ c T) ?_
   rintro _ ad ⟨rfl,ht⟩
   have K:St _ (Ma ab bv A ((A.begun+1:Nat):Int)) ad:=(lP (R' := (gj (Ma ab bv A ((A.begun+1:Nat):Int)))) 0 J rfl ht rfl).unpack
   refine fK K 7 ?_
   refine fa (o:=A.begun%64*3+0) (o' := A.begun%64*3+0) rfl rfl oG rfl gr (by simp only[kD];rfl) (qZ (cf:=gP.cells) (xs:=A.sl) (k:=A.begun) (off:=0) (f:=(fun x=>{ x with st:=1 })) (u:=qH) (vs:=[qH]) (L' := [blk ab 275 (vG ab bv A ((A.begun+1:Nat):Int)),fL ir bv 354 1 A.ps,gK gP.cells 357 64 A.ps (fN A.sl A.begun (fun x=>{ x with st:=1 }))]) 2 rfl rfl rfl rfl gr rfl rfl K rfl f_ d_ (by first|exact F|(simp only[gC];exact F)) T rfl rfl rfl (fun aq L=>fK L 6 ?_))
   refine fa (o:=A.begun%64*3+0) (o' := A.begun%64*3+1) rfl rfl oG rfl gr (by simp only[kD];rfl) (qZ (cf:=gP.cells) (xs:=fN A.sl A.begun (fun x=>{ x with st:=1 })) (k:=A.begun) (off:=1) (f:=(fun x=>{ x with after := -1 })) (u:=Zw) (vs:=[Zw]) (L' := [blk ab 275 (vG ab bv A ((A.begun+1:Nat):Int)),fL ir bv 354 1 A.ps,gK gP.cells 357 64 A.ps (fN (fN A.sl A.begun (fun x=>{ x with st:=1 })) A.begun (fun x=>{ x with after := -1 }))]) 2 rfl rfl rfl rfl gr rfl rfl L rfl f_ d_ (by first|exact F|(simp only[gC];exact F)) T rfl rfl rfl (fun au q=>fK q 6 ?_))
   refine fa (o:=A.begun%64*3+0) (o' := A.begun%64*3+2) rfl rfl oG rfl jD (by simp only[kD];rfl) (ld (a:=⟨c,A.begun%64*3+2,none⟩) (v:=(.int .u64 ((fJ (fN (fN A.sl A.begun (fun x=>{ x with st:=1 })) A.begun (fun x=>{ x with after := -1 })) A.begun).times))) rfl rfl yk rfl (Bj q (i:=2) rfl f_ d_ (by first|exact F|(simp only[gC];exact F)) T rfl) (ar (a:=(fJ (fN (fN A.sl A.begun (fun x=>{ x with st:=1 })) A.begun (fun x=>{ x with after := -1 })) A.begun).times) (b:=1) (c:=((fJ (fN (fN A.sl A.begun (fun x=>{ x with st:=1 })) A.begun (fun x=>{ x with after := -1 })) A.begun).times)+1) (e:=(IntKind.u64.wrap (((fJ (fN (fN A.sl A.begun (fun x=>{ x with st:=1 })) A.begun (fun x=>{ x with after := -1 })) A.begun).times)+1))) rfl rfl rfl rfl rfl (fK q 1 ?_)))
   refine fa (o:=A.begun%64*3+0) (o' := A.begun%64*3+2) rfl rfl oG rfl jD (by simp only[kD];rfl) (qZ (cf:=gP.cells) (xs:=fN (fN A.sl A.begun (fun x=>{ x with st:=1 })) A.begun (fun x=>{ x with after := -1 })) (k:=A.begun) (off:=2) (f:=(fun x=>{ x with times:=(IntKind.u64.wrap (((fJ (fN (fN A.sl A.begun (fun x=>{ x with st:=1 })) A.begun (fun x=>{ x with after := -1 })) A.begun).times)+1)) })) (u:=(.int .u64 (IntKind.u64.wrap (((fJ (fN (fN A.sl A.begun (fun x=>{ x with st:=1 })) A.begun (fun x=>{ x with after := -1 })) A.begun).times)+1)))) (vs:=[(.int .u64 (IntKind.u64.wrap (((fJ (fN (fN A.sl A.begun (fun x=>{ x with st:=1 })) A.begun (fun x=>{ x with after := -1 })) A.begun).times)+1)))]) (L' := [blk ab 275 (vG ab bv A ((A.begun+1:Nat):Int)),fL ir bv 354 1 A.ps,gK gP.cells 357 64 A.ps (fN (fN (fN A.sl A.begun (fun x=>{ x with st:=1 })) A.begun (fun x=>{ x with after := -1 })) A.begun (fun x=>{ x with times:=(IntKind.u64.wrap (((fJ (fN (fN A.sl A.begun (fun x=>{ x with st:=1 })) A.begun (fun x=>{ x with after := -1 })) A.begun).times)+1)) }))]) 2 rfl rfl rfl rfl jD rfl rfl q rfl f_ d_ (by first|exact F|(simp only[gC];exact F)) T rfl rfl rfl (fun av M=>fK M 8 ?_))
   refine ar (a:=(A.used:Int)) (b:=1) (c:=(A.used:Int)+1) (e:=((A.used+1:Nat):Int)) rfl rfl rfl rfl (by rw[oT o_];omega) (jZ M 13 fun aw ae=>?_)
   refine iC (v:=(Za A.begun)) (v' := Zc) Tryz.results190 rfl rfl ?_
   have e9:fN (fN (fN A.sl A.begun (fun x=>{ x with st:=1 })) A.begun (fun x=>{ x with after := -1 })) A.begun (fun x=>{ x with times:=(IntKind.u64.wrap (((fJ (fN (fN A.sl A.begun (fun x=>{ x with st:=1 })) A.begun (fun x=>{ x with after := -1 })) A.begun).times)+1)) })=fN A.sl A.begun tk:=Lg F (by rw[j9 (by rw[gC];exact F),j9 F])
   have ax:=ae
   rw[e9]at ax
   exact⟨rfl,⟨A.n,A.begun+1,A.used+1,A.last,fN A.sl A.begun tk,[],A.ps⟩,bv,aA,⟨rfl,rfl,rfl⟩,ay,yo (R' := (Mx ab bv ((⟨A.n,A.begun+1,A.used+1,A.last,fN A.sl A.begun tk,[],A.ps⟩:As).n:Int) ((⟨A.n,A.begun+1,A.used+1,A.last,fN A.sl A.begun tk,[],A.ps⟩:As).begun:Int) ((⟨A.n,A.begun+1,A.used+1,A.last,fN A.sl A.begun tk,[],A.ps⟩:As).used:Int) (⟨A.n,A.begun+1,A.used+1,A.last,fN A.sl A.begun tk,[],A.ps⟩:As))) (yc [_,_,_] _ ax) za⟩
theorem Uw(ab:Nat)(bv:Value)(A:As)(w:World)(H:Own (Zs ab bv A) w)(hA:A.ok)(i:Nat)(hi:A.gY i) :
 CR ya 117 (Zm ab i) w (fun r w' => r = .int .i64 0/\∃ C,As.ok C/\(C.n=A.n/\C.begun=A.begun/\C.used=A.used-1)/\(∀ j,C.gY j↔A.gY j/\j≠i)/\fZ (Zs ab bv A) w w' (Zs ab bv C)):=by
 have K:=hA.n
 have J:=hA.le
 have L:=hA.used
 have E:=hi.1
 have I:=hi.2
 have F:=(hA.room E).1
 obtain⟨b,hb⟩:=hA.at E
 have M:=(hA.free hi rfl).2.2
 refine en Tryz.func117 Tryz.ntmps117 ?_
 have G:=(yp H).unpack
 have c:=yc [_,_,_] _ G
 refine fS G 9 ?_
 refine cl vT (vM ab bv (A.n:Int) (A.begun:Int) (A.used:Int) A.last A.ps A.sl w (ye c 0 rfl)) ?_
 rintro _ m ⟨rfl,D⟩
 have a:=(yi c D)
 refine fK a 10 ?_
 refine cmp rfl rfl rfl (kV o_) (fK a 6 ?_)
 refine cmp rfl rfl rfl (oh o_) ?_
 have d:=yc [_,_,_] _ a
 refine fK a 11 ?_
 refine cl Ou (Nh ab bv A m (ye d 0 rfl) hA i o_) ?_
 rintro _ o ⟨rfl,D⟩
 have g:=(yi d D)
 refine cmp rfl rfl rfl (qd (by rw[if_pos E,hA.st i E,if_neg I])) ?_
 have h:=yc [_,_,_] _ g
 refine fK g 9 ?_
 refine cl Ag (zX ab bv (A.n:Int) (A.begun:Int) (A.used:Int) A.last A.ps A.sl o (ye h 0 rfl) i o_ b hb) ?_
 rintro _ t ⟨rfl,D⟩
 have k:=(yi h D)
 refine fK k 7 ?_
 refine fa (o' := i%64*3+0) rfl rfl oG rfl gr (by simp only[kD];rfl) (qZ (f:=(fun x=>{ x with st:=2 })) (L' := [blk ab 275 (Z7 ab bv A),fL ir bv 354 1 A.ps,gK gP.cells 357 64 A.ps (fN A.sl i (fun x=>{ x with st:=2 }))]) 2 rfl rfl rfl rfl gr rfl rfl k rfl f_ d_ (by first|exact F|(simp only[gC];exact F)) hb rfl rfl rfl (fun u l=>fK l 10 ?_))
 refine fa (o' := i%64*3+1) rfl rfl oG rfl gr (by simp only[kD];rfl) (qZ (f:=(fun x=>{ x with after:=A.last })) (L' := [blk ab 275 (Z7 ab bv A),fL ir bv 354 1 A.ps,gK gP.cells 357 64 A.ps (fN (fN A.sl i (fun x=>{ x with st:=2 })) i (fun x=>{ x with after:=A.last }))]) 2 rfl rfl rfl rfl gr rfl rfl l rfl f_ d_ (by first|exact F|(simp only[gC];exact F)) hb rfl rfl rfl (fun y p=>gJ p 17 fun z q=>?_))
 refine ar (e:=((A.used-1:Nat):Int)) rfl rfl rfl rfl iT (jZ q 11 fun B s=>?_)
 refine gq (v:=Zc) Tryz.results117 rfl ?_
 exact⟨rfl,⟨A.n,A.begun,A.used-1,(i:Int),fN (fN A.sl i (fun x=>{ x with st:=2 })) i (fun x=>{ x with after:=A.last }),i :: A.fl,A.ps⟩,(hA.free hi rfl).1,⟨rfl,rfl,rfl⟩,(hA.free hi rfl).2.1,yj (yc [_,_,_] _ s)⟩
theorem Uy(ab:Nat)(bv:Value)(A:As)(w:World)(P:Own (Zs ab bv A) w)(hA:A.ok) :
 CR ya 92 (Zi ab) w (fun r w' => ∃ lv,r=lv/\fZ (Zs ab bv A) w w' (gj (L8 ab bv A lv (gw (A.list A.begun))))):=by
 have R:=hA.n
 have Q:=hA.le
 have S:=hA.used
 refine en Tryz.func92 Tryz.ntmps92 ?_
 have N:=(yp P).unpack
 have e:=yc [_,_,_] _ N
 refine fS N 9 ?_
 refine cl vT (vM ab bv (A.n:Int) (A.begun:Int) (A.used:Int) A.last A.ps A.sl w (ye e 0 rfl)) ?_
 rintro _ x ⟨rfl,L⟩
 have f:=(yi e L)
 refine fK f 12 ?_
 refine i7 (m:=0) (c:=A.used) rfl (gm o_) rfl yd gr rfl o_ o_ o_ f ?_
 intro o y z B p
 have g:=St.Ty (i:=0) (m:=0) (c:=A.used) (sz:=1) p rfl s_ o_ (by simp only[maxLen];omega)
 have q:=yg [1,2,3,0] g
 refine gF g 14 ?_
 refine lp (α:=Nat×Value) (fun(k,lv)=>[(0,(Zb ab)),(3,lv),(16,(Za A.begun)),(17,(Za k))]) (fun(k,lv) w1=>St [(w,(Zs ab bv A).gG)] (L8 ab bv A lv (gw (A.list k))) w1/\k<=A.begun) (fun(k,lv)=>A.begun-k) (0,(zM o A.used)) ⟨rfl,rfl,rfl,gm rO,trivial⟩ (⟨q,o_⟩) ?_
 rintro⟨k,lv⟩ C s ⟨F,T⟩
 refine fS F 2 ?_
 by_cases D:((k:Int):Int)<((A.begun:Int):Int)
 . have M:k<A.begun:=by omega
   have h:=yc [_,_,_] _ F
   refine fK F 19 ?_
   refine cl Ou (Nh ab bv A s (ye h 0 rfl) hA k o_) ?_
   rintro _ E ⟨rfl,L⟩
   have a:=(yi h L)
   by_cases b:((if k<A.begun then(fJ A.sl k).st else 0):Int)=(1:Int)
   . refine fK a 1 ?_
     rw[if_pos M]at b
     refine fK a 6 ?_
     refine jL (vs:=(Ze k)) (cs:=(Ze k)) rfl rfl yd gr rfl (by simp[Value.cells]) rfl rfl rfl a (fun t G H I j=>vI (k:=.i64) (ys:=gw (A.list k)) (zs:=[(k:Int)]) (LL:=fun d=>[ig .i64 (Z3 t) 3 ([(k:Int)]),blk ab 275 (Z7 ab bv A),fL ir bv 354 1 A.ps,gK gP.cells 357 64 A.ps A.sl,ig .i64 d 3 ((gw (A.list k))++([(k:Int)]))]) 4 rfl rfl rfl yd gr rfl j rfl (kO j (i:=0) rfl) (by have O:=A.Qw k;simp only[gw,zo,ze,zh];omega) (by have O:=A.Qw k;simp only[gw,zo,ze,zh];omega) f_ ?_)
     intro d J u K
     have l:=yg [1,2,3,4] u
     refine fQ l 8 ?_
     refine tN (?_)
     exact again ((k+1),d) ⟨rfl,rfl,rfl,gm rO,trivial⟩ (⟨by rw[As.Qx,if_pos b];rw[gw,sw];exact l,o_⟩) (by show (A.begun-(k+1):Nat)<A.begun-k;omega)
   . refine fK a 1 ?_
     rw[if_pos M]at b
     refine fQ a 10 ?_
     refine tN (?_)
     exact again ((k+1),lv) ⟨rfl,rfl,rfl,gm rO,trivial⟩ (⟨by rw[As.Qx,if_neg b];exact a,o_⟩) (by show (A.begun-(k+1):Nat)<A.begun-k;omega)
 . refine fQ F 17 ?_
   refine gq (v:=lv) Tryz.results92 rfl ?_
   obtain rfl:k=A.begun:=by omega
   exact⟨lv,rfl,yj (yc [_,_,_,_] _ F)⟩
theorem UE(n:Nat)(w:World)(l:n<=65536) :
 CR ya 171 (Z8 n) w (fun r w' => ∃ ab,r = .tuple (Zy ab)/\fZ (gj []) w w' (gj [blk ab 275 [(Zb ab),Zg,(Za ((As.new n).n:Int)),(Za ((As.new n).begun:Int)),(Za ((As.new n).used:Int)),(Za ((As.new n).last))],fL ir Zg 354 1 ((As.new n).ps),gK gP.cells 357 64 ((As.new n).ps) ((As.new n).sl)])):=by
 refine en Tryz.func171 Tryz.ntmps171 ?_
 have h:=yt w
 refine fS h 10 ?_
 refine cmp rfl rfl rfl (kV o_) (fK h 2 ?_)
 refine cmp rfl rfl rfl (pJ o_) (fK h 9 ?_)
 refine ja (pvs:=[(2,(Za n)),(5,Zw)]) (v:=.agg #[Zt,Zg,(Za n),Zc,Zc,Zw]) rfl rfl (jq [(2,(Ze n)),(5,[Zw])] F6 RG rfl ⟨rfl,rfl,rfl,rfl,trivial⟩ rfl) (ij h (fun a e f g b=>?_))
 refine jZ b 20 fun c d=>?_
 refine iC (v:=(Zb a)) (v' := Zc) Tryz.results171 rfl rfl ?_
 have i:=oU d 354 1
 have j:St _ (MG a n) c:=St.Ep i 0
 have k:=lN j (List.reverse_perm (MG a n)).symm
 exact⟨a,rfl,nV (yc [_,_,_] [] k)⟩
end
section
open Go Go.Sx
theorem Ur(ab:Nat)(bv:Value)(A:As)(w:World)(hO:Own (Zs ab bv A) w)(hA:A.ok) :
 CR ya 185 (Zi ab) w (fun r w' => ∃ af ak F,r = .pointer (some ⟨af,0,none⟩)/\As.ok { A with ps:=F }/\fZ (Zs ab bv A) w w' (My ab bv A af ak F)):=by
 have ao:=hA.n
 have an:=hA.le
 have ap:=hA.used
 have ar:=hA.oS
 refine enter (vs:=(Zh ab)) Tryz.func185 rfl Tryz.ntmps185 rfl ?_
 have aj:=(yp hO).unpack
 have h:=yc [_,_,_] _ aj
 refine fS aj 9 ?_
 refine jI (vl:=(Zh ab)) rfl rfl vT (vM ab bv (A.n:Int) (A.begun:Int) (A.used:Int) A.last A.ps A.sl w (ye h 0 rfl)) ?_
 rintro _ K ⟨rfl,ht⟩
 have s:=(lP (R' := (Zs ab bv A)) 0 h rfl ht rfl).unpack
 refine gJ s 24 fun L t=>?_
 refine ja (pvs:=[(2,(Za A.n)),(3,(Za A.begun)),(4,(Za A.used)),(5,(Za A.last))]) (v:=.agg #[Zt,Zg,(Za A.n),(Za A.begun),(Za A.used),(Za A.last)]) rfl rfl (jq [(2,(Ze A.n)),(3,(Ze A.begun)),(4,(Ze A.used)),(5,(Ze A.last))] F6 RG rfl ⟨rfl,rfl,rfl,rfl,rfl,rfl,rfl,rfl,trivial⟩ rfl) (ij t (fun c M N O u=>?_))
 refine gJ u 15 fun j y=>?_
 have z:St _ [fL ir Zg 354 1 ([]),blk c 275 (MU c A),blk ab 275 (Z7 ab bv A),fL ir bv 354 1 A.ps,gK gP.cells 357 64 A.ps A.sl] j:=oU y 354 1
 have f:St _ [gK gP.cells 357 64 ([]) (A.sl.take (64*0)),fL ir Zg 354 1 ([]),blk c 275 (MU c A),blk ab 275 (Z7 ab bv A),fL ir bv 354 1 A.ps,gK gP.cells 357 64 A.ps A.sl] j:=St.Ep z 0
 refine fK f 4 ?_
 refine iL (m:=A.ps.length) 4 rfl rfl Bk f rfl ?_
 have B:=yg [3,4,5,2,1,0] f
 refine gF f 4 ?_
 refine lp (α:=Nat×Value×List (Option Nat)) (fun(k,v2,F)=>[(3,(Zb c)),(35,bv),(36,(Za A.ps.length)),(37,(Za k))]) (fun(k,v2,F) w1=>St [(w,(Zs ab bv A).gG)] [blk ab 275 (Z7 ab bv A),fL ir bv 354 1 A.ps,gK gP.cells 357 64 A.ps A.sl,blk c 275 (Z7 c v2 A),fL ir v2 354 1 F,gK gP.cells 357 64 F (A.sl.take (64*k))] w1/\k<=A.ps.length/\xe F k) (fun(k,v2,F)=>A.ps.length-k) (0,Zg,[]) ⟨rfl,rfl,rfl,gm rO,trivial⟩ (⟨B,o_,xe.start⟩) ?_
 rintro⟨k,v2,F⟩ P Q ⟨T,aq,hC⟩
 have am:=hC.len
 refine fS T 2 ?_
 by_cases R:((k:Int):Int)<((A.ps.length:Int):Int)
 . have hk:k<A.ps.length:=by omega
   obtain⟨bq,ag⟩:=hA.ps k hk
   refine fK T 19 ?_
   refine rR (a:=⟨bq,0,none⟩) rfl (AQ (iE ag)) ?_
   have ae:(((A.sl.drop (64*k)).take 64).flatMap gP.cells).length=192:=NF (cf:=gP.cells) (sz:=3) f_ hA.sl hk
   refine sO (b:=bq) (o:=0) (cs:=(((A.sl.drop (64*k)).take 64).flatMap gP.cells)) rfl rfl Tryz.underlying357 rfl Ld ae (St.Ny T (i:=2) rfl ((gy hk).trans (congrArg some (iE ag)))) (iH T (fun d S U V C=>?_))
   refine FV (v:=.agg (((A.sl.drop (64*k)).take 64).flatMap gP.cells).toArray) (vs:=(((A.sl.drop (64*k)).take 64).flatMap gP.cells)) (L' := [blk d 357 (((A.sl.drop (64*k)).take 64).flatMap gP.cells),blk ab 275 (Z7 ab bv A),fL ir bv 354 1 A.ps,gK gP.cells 357 64 A.ps A.sl,blk c 275 (Z7 c v2 A),fL ir v2 354 1 F,gK gP.cells 357 64 F (A.sl.take (64*k))]) 0 rfl rfl rfl rfl Ld ae (zn.2 (xH f_ _)) C rfl (by rw[ae];decide) (Sv (by rw[ae];rfl)) rfl (fun W l X=>fK l 8 ?_)
   refine jL (vs:=(Zh d)) (cs:=(Zh d)) rfl rfl Bk C9 rfl (by simp[Value.cells]) rfl rfl rfl l (fun D Y Z aa p=>lF (cf:=ir) (ys:=F) (zs:=[(some d)]) (LL:=fun e=>[row (Z3 D) 354 1 1 ((Zh d)),blk d 357 (((A.sl.drop (64*k)).take 64).flatMap gP.cells),blk ab 275 (Z7 ab bv A),fL ir bv 354 1 A.ps,gK gP.cells 357 64 A.ps A.sl,blk c 275 (Z7 c v2 A),fL ir e 354 1 (F++[(some d)]),gK gP.cells 357 64 F (A.sl.take (64*k))]) 6 rfl rfl rfl Bk C9 rfl d_ p rfl (kO p (i:=0) rfl) (fun x hx=>zn.1 (show List.all _ _=true from rfl) x hx) (by have h7:=hA.oS;simp only[ze,zh];omega) (by have h7:=hA.oS;simp only[ze,zh];omega) f_ ?_)
   intro e ac E ad
   have g:=yg [1,2,3,4,5,6,7] E
   refine fK g 2 ?_
   refine jM 4 g (fun G q=>?_) (hvs:=(cells_one (yu g (i:=5) rfl))) (h1:=(ia (yu g (i:=5) rfl) kT))
   refine fQ q 7 ?_
   refine tN (?_)
   have H:=yg [0,6,1,2,3,4,5] q
   have ah:=Vh hA.sl hk
   have I:St [(w,(Zs ab bv A).gG)] [gK gP.cells 357 64 (F++[(some d)]) (A.sl.take (64*(k+1))),blk ab 275 (Z7 ab bv A),fL ir bv 354 1 A.ps,gK gP.cells 357 64 A.ps A.sl,blk c 275 (Z7 c e A),fL ir e 354 1 (F++[(some d)])] G:=by rw[<-aeS];exact St.NA H (by rw[ah.2,am]) ah.1 rfl
   have J:=yg [1,2,3,4,5,0] I
   exact again ((k+1),e,F++[(some d)]) ⟨rfl,rfl,rfl,gm rO,trivial⟩ (⟨J,o_,hC.next⟩) (by show (A.ps.length-(k+1):Nat)<A.ps.length-k;omega)
 . refine fQ T 17 ?_
   refine gq (v:=(Zb c)) Tryz.results185 rfl ?_
   have al:k=A.ps.length:=by omega
   have ai:=T
   rw[u6 (show A.sl.length<=64*k by rw[al];exact Nat.le_of_eq hA.sl)]at ai
   exact⟨c,v2,F,rfl,hA.copy o_ hC.all,yo (R' := (My ab bv A c v2 F)) (yc [_,_,_,_,_,_] _ ai) za⟩
end
section
open Go Go.Sx
def AW.R(ab:Nat)(v:AW):fU:=j7 v.A.ok (Zs ab v.bv v.A)
abbrev xq(a:fW):=(AW.R a.jd a.aw:fU)
abbrev Hj(a b:Nat)(c:TW):=([blk a 261 (oL a b c),fL gW c.iv 40 1 c.ids,fL fR c.cv 3 1 c.cs,AW.R b c.w]:List fU)
abbrev L7(a b:Nat)(c:TW) d e f g:=([blk a 261 (oL a b c),fL gW c.iv 40 1 c.ids,fL fR c.cv 3 1 c.cs,AW.R b c.w,fL fR d 3 1 e,fL gW f 40 1 g]:List fU)
abbrev Hq(a:Nat) b (c d:Nat) (e:TW) f g h i:=([ig .u64 (Z3 a) 40 b,blk c 261 (oL c d e),fL gW e.iv 40 1 e.ids,fL fR e.cv 3 1 e.cs,AW.R d e.w,fL fR f 3 1 g,fL gW h 40 1 i]:List fU)
theorem Lq(ab:Nat)(v:AW)(w:World)(a:Own (AW.R ab v) w) :
 CR ya 145 (Zi ab) w (fun r w' => r = .int .i64 (v.A.used:Int)/\fZ (AW.R ab v) w w' (AW.R ab v)):=by
 exact CR.mono (Ux ab v.bv v.A w a.un a.fact) fun r w' ⟨b,c⟩=>⟨b,c.pW a.fact⟩
theorem TM(ab:Nat)(v:AW)(w:World)(j:Own (AW.R ab v) w)(q:v.A.used<v.A.n) :
 CR ya 190 (Zi ab) w (fun r w' => ∃ i v2,r = .tuple (xl ((i:Nat):Int))/\AW.put v.A v2.A i/\fZ (AW.R ab v) w w' (AW.R ab v2)):=by
 have a:=j.fact
 rcases a.full q with ⟨i,l,b⟩|⟨b,p⟩
 . have hp:=a.pop b
   exact CR.mono (Um ab v.bv v.A w j.un a i l b) fun r w' ⟨g,c,d,m,⟨e1,e,f⟩,k,o⟩=>⟨i,⟨d,c⟩,g,⟨e1,f,k,hp.2.2.1,.inl ⟨hp.2.2.2.1,e⟩⟩,o.pW m⟩
 . exact CR.mono (Uo ab v.bv v.A w j.un a b p) fun r w' ⟨g,c,d,m,⟨e1,e,f⟩,k,o⟩=>⟨v.A.begun,⟨d,c⟩,g,⟨e1,f,k,fun h=>Nat.lt_irrefl _ h.1,.inr ⟨rfl,e⟩⟩,o.pW m⟩
theorem TP(ab:Nat)(v:AW)(w:World)(a:Own (AW.R ab v) w)(i:Nat)(hi:v.A.gY i) :
 CR ya 117 (Zm ab i) w (fun r w' => ∃ v2,r = .int .i64 0/\AW.del v.A v2.A i/\fZ (AW.R ab v) w w' (AW.R ab v2)):=by
 exact CR.mono (Uw ab v.bv v.A w a.un a.fact i hi) fun r w' ⟨e,b,g,⟨e1,c,d⟩,f,h⟩=>⟨⟨v.bv,b⟩,e,⟨e1,c,d,(a.fact.free hi rfl).2.2,f⟩,h.pW g⟩
theorem TZ(n:Nat)(w:World)(a:n<=65536) :
 CR ya 171 (Z8 n) w (fun r w' => ∃ ab v,r = .tuple (Zy ab)/\v.A=As.new n/\fZ (gj []) w w' (AW.R ab v)):=by
 exact CR.mono (UE n w a) fun r w' ⟨ab,b,c⟩=>⟨ab,⟨.slice none 0 0,As.new n⟩,b,rfl,c.Be (As.tG a)⟩
theorem TO(ab:Nat)(v:AW)(w:World)(d:Own (AW.R ab v) w) :
 CR ya 185 (Zi ab) w (fun r w' => ∃ a v2,r = .pointer (some ⟨a,0,none⟩)/\(∃ b,v2.A={ v.A with ps:=b })/\fZ (AW.R ab v) w w' (gj [AW.R ab v,AW.R a v2])):=by
 refine CR.mono (Ur ab v.bv v.A w d.un d.fact) fun r w' ⟨a,c,b,f,g,i⟩=>⟨a,⟨c,{ v.A with ps:=b }⟩,f,⟨b,rfl⟩,(fZ.ER (A:=(zW ab v.bv v.A)) (B:=[blk a 275 (Z7 a c v.A),fL ir c 354 1 b,gK gP.cells 357 64 b v.A.sl]) i).Gd.Fh rfl (fun h=>?_)⟩
 intro Q e
 simp only[zb,nI,or_false]at e
 rcases e with rfl|rfl
 . exact⟨d.fact,h _ s_⟩
 . exact⟨g,h _ s_⟩
end
section
open Go Go.Sx
def TW.R(tb ab:Nat)(t:TW):fU:=j7 t.ok (gj [blk tb 261 (oL tb ab t),fL gW t.iv 40 1 t.ids,fL fR t.cv 3 1 t.cs,(AW.R ab t.w)])
abbrev zR(a:fW) b:=(TW.R a.tb a.ab b:fU)
abbrev xu(a:fW):=(TW.R a.tb a.ab a.t:fU)
abbrev Mr(a:Nat)(b c:Int)(d:fW) e:=([blk a 169 (pg b c d e),fL Lv.cells d.lv 59 7 d.live,gM d.mb .u64 p_ d.im,jA 3 d.im,AW.R d.jd d.aw,TW.R d.tb d.ab d.t]:List fU)
abbrev Mq(a:Nat)(b c:Int)(d:fW) e f g h i:=([blk a 169 (pg b c d e),fL Lv.cells d.lv 59 7 d.live,gM d.mb .u64 p_ d.im,jA 3 d.im,AW.R d.jd d.aw,TW.R d.tb d.ab d.t,fL fR f 3 1 g,fL Lv.cells h 59 7 i]:List fU)
abbrev Hg a (b:Nat) (c d:Int) (e:fW) f g h i j:=([a,blk b 169 (pg c d e f),fL Lv.cells e.lv 59 7 e.live,gM e.mb .u64 p_ e.im,jA 3 e.im,AW.R e.jd e.aw,TW.R e.tb e.ab e.t,fL fR g 3 1 h,fL Lv.cells i 59 7 j]:List fU)
abbrev MJ a (b:Nat) (c:Lv) (d:Nat) (e f:Int) (g:fW) h i j (k:Nat):=([jA 3 a,blk b 59 (Z9 c),blk d 169 (pg e f g h),fL Lv.cells g.lv 59 7 i,gM g.mb .u64 p_ a,AW.R g.jd j,TW.R g.tb g.ab g.t,blk k 59 nr]:List fU)
abbrev MO a b c (d:Nat) (e:Lv) (f:Nat) (g h:Int) (i:fW) j k l m (n:Nat):=([ig .i64 a 3 b,jA 3 c,blk d 59 (Z9 e),blk f 169 (pg g h i j),fL Lv.cells i.lv 59 7 k,gM i.mb .u64 p_ l,AW.R i.jd m,TW.R i.tb i.ab i.t,blk n 59 nr]:List fU)
abbrev MQ a b c d (e:Nat) (f g:Int) (h:fW) i j k (l m n:Nat) o p q r s t (u:Nat) v:=([fL fR a 3 1 b,fL fR c 3 1 b,jA 3 d,blk e 169 (pg f g h i),fL Lv.cells h.lv 59 7 h.live,j,jA 3 k,AW.R h.jd h.aw,TW.R h.tb h.ab h.t,blk l 169 (Ef f g h.last m n o p),fL Lv.cells o 59 7 h.live,gM q .u64 p_ r,jA 3 s,AW.R m t,TW.R n u v]:List fU)
abbrev MI a (b:Nat) (c d:Int) (e:Lv) (f:Nat) (g h:Int) (i:fW) j k l m n (o p:Nat):=([jA 3 a,blk b 59 (qG c d e),blk f 169 (Eg g h d i j k),fL Lv.cells j 59 7 l,gM i.mb .u64 p_ a,AW.R i.jd m,TW.R i.tb i.ab n,blk o 59 nr,blk p 57 (Zz e)]:List fU)
abbrev MH a (b:Nat) (c d:Int) (e:Lv) (f:Nat) (g h:Int) (i:fW) j k l m (n o:Nat):=([jA 3 a,blk b 59 (qG c d e),blk f 169 (BW g h d i j),fL Lv.cells i.lv 59 7 k,gM i.mb .u64 p_ a,AW.R i.jd l,TW.R i.tb i.ab m,blk n 59 nr,blk o 57 (Zz e)]:List fU)
abbrev MN a b c (d:Nat) (e f:Int) (g:Lv) (h:Nat) (i j:Int) (k:fW) l m n o p q (r s:Nat):=([ig .i64 a 3 b,jA 3 c,blk d 59 (qG e f g),blk h 169 (Eg i j f k l m),fL Lv.cells l 59 7 n,gM k.mb .u64 p_ o,AW.R k.jd p,TW.R k.tb k.ab q,blk r 59 nr,blk s 57 (Zz g)]:List fU)
abbrev MM a b c (d:Nat) (e f:Int) (g:Lv) (h:Nat) (i j:Int) (k:fW) l m n o p (q r:Nat):=([ig .i64 a 3 b,jA 3 c,blk d 59 (qG e f g),blk h 169 (BW i j f k l),fL Lv.cells k.lv 59 7 m,gM k.mb .u64 p_ n,AW.R k.jd o,TW.R k.tb k.ab p,blk q 59 nr,blk r 57 (Zz g)]:List fU)
theorem S0(tb ab:Nat)(t:TW)(w:World)(f:Own (Z0 tb ab t) w)(d:TW.Sz t.n)(id:Int) :
 CR ya 236 (Z4 tb id) w (fun r w' => r = .int .i64 ((kz t.n id:Nat):Int)/\fZ (Z0 tb ab t) w w' (Z0 tb ab t)):=by
 have j:t.cs.length=t.n:=rfl
 have h:=d.two
 have k:=d.top
 have g:0<t.n:=by omega
 have i:=xJ (id:=id) g
 refine en Tryz.func236 Tryz.ntmps236 ?_
 have c:=Own.of f
 refine fS c 9 ?_
 refine shr (a:=id) (b:=33) (e:=(id.fdiv (2 ^ 33))) rfl rfl rfl d_ rfl (bi (a:=id) (b:=(id.fdiv (2 ^ 33))) (e:=(kK id)) rfl rfl rfl (Lw _) (fK c 6 ?_))
 refine ar (e:=(l8 18397679294719823053 (kK id))) rfl rfl rfl rfl rfl (fK c 7 ?_)
 refine shr (a:=(l8 18397679294719823053 (kK id))) (b:=33) (e:=((l8 18397679294719823053 (kK id)).fdiv (2 ^ 33))) rfl rfl rfl d_ rfl (bi (a:=(l8 18397679294719823053 (kK id))) (b:=((l8 18397679294719823053 (kK id)).fdiv (2 ^ 33))) (e:=(kK (l8 18397679294719823053 (kK id)))) rfl rfl rfl (Lw _) (fK c 6 ?_))
 refine ar (e:=(l8 14181476777654086739 (kK (l8 18397679294719823053 (kK id))))) rfl rfl rfl rfl rfl (fK c 7 ?_)
 refine shr (a:=(l8 14181476777654086739 (kK (l8 18397679294719823053 (kK id))))) (b:=33) (e:=((l8 14181476777654086739 (kK (l8 18397679294719823053 (kK id)))).fdiv (2 ^ 33))) rfl rfl rfl d_ rfl (bi (a:=(l8 14181476777654086739 (kK (l8 18397679294719823053 (kK id))))) (b:=((l8 14181476777654086739 (kK (l8 18397679294719823053 (kK id)))).fdiv (2 ^ 33))) (e:=(kK (l8 14181476777654086739 (kK (l8 18397679294719823053 (kK id)))))) rfl rfl rfl (Lw _) (fK c 10 ?_))
 refine iL (m:=t.cs.length) 2 rfl rfl yd c rfl (fK c 2 ?_)
 refine bi (a:=(kK (l8 14181476777654086739 (kK (l8 18397679294719823053 (kK id)))))) (b:=(t.cs.length:Int)-1) (e:=((kz t.n id:Nat):Int)) rfl rfl rfl (d.p2.home id) (fQ c 5 ?_)
 refine gq (v:=(Za ((kz t.n id:Nat):Int))) Tryz.results236 rfl ?_
 exact⟨rfl,yj (yc [_,_,_] _ c)⟩
theorem agJ(tb:Nat)(id:Int)(w:World) :
 CR ya 235 (Z4 tb id) w (fun r w' => ∃ m n,r = .func (.func 278) #[] (BS m n)/\fZ (gj []) w w' (gj [blk m 166 (Zh tb),blk n 40 (Zq id)])):=by
 refine en Tryz.func235 Tryz.ntmps235 ?_
 have l:=yt w
 refine fS l 2 ?_
 refine ij l (fun a f g h d=>?_)
 refine ij d (fun b i j k c=>?_)
 refine fK c 5 ?_
 refine mD (vf:=[]) (vc:=(Z5 a b)) rfl rfl rfl (fQ c 4 ?_)
 refine gq (v:=(.func (.func 278) #[] (BS a b))) Tryz.results235 rfl ?_
 have e:=yg [1,0] c
 exact⟨a,b,rfl,nV (yc [_,_] _ e)⟩
theorem agI{γ:Type}(A:γ->fU)(D:γ->Nat->Nat->Prop)(I:γ->Prop)(z0:γ)(l B C tb ab:Nat)(t:TW)(id:Int)(w:World)(R:∀ (z:γ) (k c:Nat) (bs:List (World×List Nat)) (L:List fU) (w:World),k<t.n->c<t.n->D z k c->St bs (A z :: (BT tb ab t)++L) w->YR ya l (Zo c ((fJ t.cs c:Nat):Int)) w (fun v w' => ∃ H b,v = .bool b/\(b=true->D H (k+1) (ic t.n c))/\(b=false->I H)/\St bs (A H :: (BT tb ab t)++L) w'))(F:t.ok)(S:D z0 0 (kz t.n id))(M:Own (DW (A z0) tb ab t B C id) w) :
 CR ya 278 (Ml (.func (.yield l) #[] #[]) B C) w (fun r w' => ∃ z,((∃ c,D z t.n c)\/I z)/\r = .tuple #[]/\fZ (DW (A z0) tb ab t B C id) w w' (DW (A z) tb ab t B C id)):=by
 have V:t.cs.length=t.n:=rfl
 have T:=F.two
 have W:=F.top
 have P:0<t.n:=by omega
 refine en Tryz.func278 Tryz.ntmps278 ?_
 have K:=Own.of M
 have j:=yg [1,2,3,0,4,5] K
 have g:=yc [_,_,_] _ j
 refine fS K 4 ?_
 refine cl OI (S0 tb ab t w (ye g 0 rfl) F.sz id) ?_
 rintro _ q ⟨rfl,Q⟩
 have f:=(yi g Q)
 refine fK f 9 ?_
 refine iL (m:=t.cs.length) 2 rfl rfl yd f rfl ?_
 have o:=yg [3,0,1,2,4,5] f
 refine gF f 4 ?_
 refine lp (α:=γ×Nat×Nat) (fun(z,k,c)=>[(0,(.func (.yield l) #[] #[])),(1,(Zb B)),(2,(Zb C)),(4,(Za c)),(12,(Za t.cs.length)),(13,(Za k))]) (fun(z,k,c) w1=>St [(w,(DW (A z0) tb ab t B C id).gG)] [(A z),blk tb 261 (oL tb ab t),fL gW t.iv 40 1 t.ids,fL fR t.cv 3 1 t.cs,blk B 166 (Zh tb),blk C 40 (Zq id)] w1/\k<=t.n/\c<t.n/\D z k c) (fun(z,k,c)=>t.n-k) (z0,0,(kz t.n id)) ⟨rfl,rfl,rfl,gm rO,rfl,gm rO,trivial⟩ (⟨o,o_,xJ P,S⟩) ?_
 rintro⟨z,k,c⟩ s u ⟨E,U,G,J⟩
 refine fS E 2 ?_
 by_cases x:((k:Int):Int)<((t.cs.length:Int):Int)
 . refine fK E 21 ?_
   refine yl (vl:=(Zo c (((fJ t.cs c):Nat):Int))) rfl rfl rfl (R z k c _ _ _ o_ G J E) ?_
   rintro _ y ⟨h,p,rfl,O,N,d⟩
   refine gF d 3 ?_
   cases i:(p:Bool)
   . skip
     subst i
     refine iN d 7 ?_
     refine yC Tryz.results278 ?_
     exact⟨h,.inr (N rfl),rfl,yj (yc [_,_,_,_,_,_] _ d)⟩
   . skip
     subst i
     refine fS d 10 ?_
     refine iL (m:=t.cs.length) 3 rfl rfl yd d rfl (fK d 1 ?_)
     refine bi (a:=(c:Int)+1) (b:=(t.cs.length:Int)-1) (e:=((ic t.n c:Nat):Int)) rfl rfl rfl (F.p2.nx G) (fQ d 8 ?_)
     refine tN (?_)
     exact again (h,(k+1),(ic t.n c)) ⟨rfl,rfl,rfl,gm rO,rfl,gm rO,trivial⟩ (⟨d,o_,J2 G,O rfl⟩) (by show t.n-(k+1)<t.n-k;omega)
 . refine fQ E 9 ?_
   refine iQ Tryz.results278 ?_
   obtain rfl:k=t.n:=by omega
   exact⟨z,.inl ⟨c,J⟩,rfl,yj (yc [_,_,_,_,_,_] _ E)⟩
theorem aeV(tb ab:Nat)(t:TW)(w:World)(hO:Own (Z0 tb ab t) w)(T:t.ok)(id:Int) :
 CR ya 181 (Z4 tb id) w (fun r w' => r = .tuple (p8 ((t.find id).1:Int) ((t.find id).2))/\fZ (Z0 tb ab t) w w' (Z0 tb ab t)):=by
 have aQ:t.cs.length=t.n:=rfl
 have aM:=T.two
 have aS:=T.top
 have aR:0<t.n:=by omega
 refine Al (vs:=[(Zb tb),(Zn id)]) Tryz.func181 rfl Tryz.ntmps181 rfl ?_
 have aF:=Own.of hO
 refine fS aF 2 ?_
 refine ij aF (fun d S U V A=>?_)
 refine ij A (fun f W X Y B=>?_)
 refine iH B (fun g Z aa ac C=>?_)
 refine iH C (fun i D ad ae s=>?_)
 refine fK s 7 ?_
 refine cl Xl (agJ tb id D) ?_
 rintro _ af ⟨m,o,rfl,ht⟩
 have u:=yy (jJ s ht)
 have E:=yg [3,2,5,4,6,7,8,0,1] u
 refine gF u 3 ?_
 refine rfx (α:=Bool×Int×Bool) (ps:=[11,12]) (fi:=[]) (ca:=(Z5 m o)) (fun(sp,a,b)=>[blk g 3 (Ze a),blk i 4 [(.bool b)],blk d 166 (Zh tb),blk f 40 (Zq id),blk tb 261 (oL tb ab t),fL gW t.iv 40 1 t.ids,fL fR t.cv 3 1 t.cs,blk m 166 (Zh tb),blk o 40 (Zq id)]) (fun(sp,a,b)=>(sp=false/\t.find id=(0,false))\/(sp=true/\a=((t.find id).1:Int)/\b=(t.find id).2)) (fun(sp,a,b)=>sp) E rfl XC ?_ ?_ ?_
 . intro fn dd l wl rc aA aK
   have G:=yg [0,2,3,4,5,6,7,8,9,10,1] aK
   have aG:=yc [iR l rc,blk g 3 [Zc],blk i 4 [Zp],blk d 166 (Zh tb),blk f 40 (Zq id)] [blk tb 261 (oL tb ab t),fL gW t.iv 40 1 t.ids,fL fR t.cv 3 1 t.cs,blk m 166 (Zh tb),blk o 40 (Zq id),jW dd (some [])] G
   have aE:rc.state = .ready:=by rw[aA]
   have aH:rc.pending=none:=by rw[aA]
   have aI:∀ (z:Bool×Int×Bool) (k c:Nat) (bs:List (World×List Nat)) (L:List fU) (w:World),k<t.n->c<t.n->(fun(z:Bool×Int×Bool) k c=>z.1=false/\t.rest id k c) z k c->St bs ((fun((sp,a,b):Bool×Int×Bool)=>gj (Hh (iR l (yA sp rc)) g a i b d tb f id)) z :: (BT tb ab t)++L) w->YR ya l (Zo c ((fJ t.cs c:Nat):Int)) w (fun v w' => ∃ z2 b,v = .bool b/\(b=true->(fun(z:Bool×Int×Bool) k c=>z.1=false/\t.rest id k c) z2 (k+1) (ic t.n c))/\(b=false->(fun(z:Bool×Int×Bool)=>z.1=true/\z.2.1=((t.find id).1:Int)/\z.2.2=(t.find id).2) z2)/\St bs ((fun((sp,a,b):Bool×Int×Bool)=>gj (Hh (iR l (yA sp rc)) g a i b d tb f id)) z2 :: (BT tb ab t)++L) w'):=by
    rintro⟨sp,a,b⟩ k c bs LT wr hk hc ⟨rfl,az⟩ aw
    have aw:=aw.unpack
    refine yD (vl:=(Zo c ((fJ t.cs c:Nat):Int))) 0 aA aw rfl rfl rfl (iN aw 8 ?_)
    refine tN (?_)
    refine Aa 0 aw rfl aE rfl (fun ag p=>fS p 5 ?_)
    by_cases ah:(((fJ t.cs c:Nat):Int):Int)=(0:Int)
    . have aN:fJ t.cs c=0:=by omega
      refine fK p 1 ?_
      skip
      skip
      skip
      refine jZ p 13 fun ai H=>?_
      refine Of 0 H rfl rfl ?_
      intro aj I
      have av:t.find id=(c,false):=TW.adh az hk o_
      exact⟨_,rfl,(true,(c:Int),false),false,rfl,fun h=>(by cases h),fun _=>⟨rfl,by rw[av],by rw[av]⟩,yc [_,_,_,_,_] _ I⟩
    . obtain⟨j,hj⟩:∃ j,fJ t.cs c=j+1:=⟨fJ t.cs c-1,o_⟩
      have aC:=T.val hc hj
      have aO:j<t.ids.length:=aC.2.2.1
      have aP:j<65536:=nX aC.2.2.2 T.an
      refine gJ p 13 fun ak q=>?_
      refine ar (e:=((j:Nat):Int)) rfl rfl rfl rfl iT (fK q 3 ?_)
      by_cases x:((fJ t.ids j):Int)=(id:Int)
      . have ay:fJ t.ids j=id:=by have h7:=x;omega
        refine jZ q 13 fun al J=>?_
        refine Of 0 J rfl rfl ?_
        intro am K
        have av:t.find id=(c,true):=TW.ade az hk hj ay
        exact⟨_,rfl,(true,(c:Int),true),false,rfl,fun h=>(by cases h),fun _=>⟨rfl,by rw[av],by rw[av]⟩,yc [_,_,_,_,_] _ K⟩
      . have ay:fJ t.ids j≠id:=by have h7:=x;omega
        refine fQ q 6 ?_
        refine vR 0 q rfl aE aH rfl ?_
        intro ao M
        exact⟨_,rfl,(false,a,b),true,rfl,fun _=>⟨rfl,TW.adf az hk hj ay⟩,fun h=>(by cases h),yc [_,_,_,_,_] _ M⟩
   have aD:=yc [_,_,_,_,_,_] _ aG
   refine CR.mono (agI (fun((sp,a,b):Bool×Int×Bool)=>gj (Hh (iR l (yA sp rc)) g a i b d tb f id)) (fun(z:Bool×Int×Bool) k c=>z.1=false/\t.rest id k c) (fun(z:Bool×Int×Bool)=>z.1=true/\z.2.1=((t.find id).1:Int)/\z.2.2=(t.find id).2) (false,0,false) l m o tb ab t id wl aI T ⟨rfl,TW.adg t id⟩ (ye aD 0 rfl)) ?_
   rintro _ w9 ⟨⟨sp,a,b⟩,hz,-,aL⟩
   have aJ:=(yi aD aL).unpack
   have N:=yg [0,10,1,2,3,4,5,6,7,8,9] aJ
   refine⟨(sp,a,b),?_,N⟩
   rcases hz with ⟨c,h1,h2⟩|h1
   . exact .inl ⟨h1,TW.adb h2⟩
   . exact .inr h1
 . rintro⟨sp,a,b⟩ dd ap hC aB O
   have hf:t.find id=(0,false):=hC.elim (fun h=>h.2) (fun h=>absurd (h.1.symm.trans aB) d_)
   refine sQQ tt none O 9 fun aq P=>?_
   refine xP 0 P rfl rfl ?_
   intro w8 F
   have Q:=yg [5,6,7,0,1,2,3,4,8,9] F
   have ax:fZ (Z0 tb ab t) w w8 (Z0 tb ab t):=yj (yc [_,_,_] _ Q)
   exact⟨_,Kn Tryz.results181 (AY rfl yf rfl (kQ F 1 rfl rfl)) (AY rfl mY rfl (kQ F 2 rfl rfl)),_,rfl,by rw[hf];rfl,ax⟩
 . rintro⟨sp,a,b⟩ dd au hC aB y
   have hf:a=((t.find id).1:Int)/\b=(t.find id).2:=hC.elim (fun h=>absurd (h.1.symm.trans aB) d_) (fun h=>h.2)
   refine rS tt none y 2 ?_
   refine xP 0 y rfl rfl ?_
   intro w8 F
   have R:=yg [5,6,7,0,1,2,3,4,8,9] F
   have ax:fZ (Z0 tb ab t) w w8 (Z0 tb ab t):=yj (yc [_,_,_] _ R)
   exact⟨_,Kn Tryz.results181 (AY rfl yf rfl (kQ F 1 rfl rfl)) (AY rfl mY rfl (kQ F 2 rfl rfl)),_,rfl,by rw[hf.1,hf.2],ax⟩
end
section
open Go Go.Sx
theorem C6(tb ab:Nat)(t:TW)(w:World)(a:Own (Z0 tb ab t) w)(c:t.ok)(id:Int)(p:Nat)(b:Bool)(d:t.find id=(p,b)) :
 CR ya 181 (Z4 tb id) w (fun r w' => r = .tuple (p8 p b)/\fZ (Z0 tb ab t) w w' (Z0 tb ab t)):=by
 have h:=aeV tb ab t w a c id
 rw[d]at h
 exact h
theorem wP(tb ab:Nat)(t:TW)(w:World)(d:Own (Z0 tb ab t) w)(e:t.ok) :
 CR ya 144 (Zi tb) w (fun r w' => r = .bool true/\fZ (Z0 tb ab t) w w' (Z0 tb ab t)):=by
 refine en Tryz.func144 Tryz.ntmps144 ?_
 have b:=Own.of d
 refine fS b 8 ?_
 refine lS (a:=some ⟨tb,0,none⟩) (c:=true) rfl rfl rfl Tryz.underlying166 rfl (fK b 6 ?_)
 refine Am (a:=⟨tb,0,none⟩) rfl rfl rfl Tryz.underlying166 F5 (fQ b 5 ?_)
 refine gq (v:=Zf) Tryz.results144 rfl ?_
 exact⟨rfl,yj (yc [_,_,_] _ b)⟩
theorem aeY(tb ab:Nat)(t:TW)(w:World)(h:Own (TW.R tb ab t) w)(id:Int)(i:Nat)(hi:t.A.gY i)(q:fJ t.ids i=id) :
 CR ya 184 (Z4 tb id) w (fun r w' => r = .tuple (D2 i)/\fZ (TW.R tb ab t) w w' (TW.R tb ab t)):=by
 have y:t.cs.length=t.n:=rfl
 have z:=h.fact.top
 obtain⟨p,hp,l,m⟩:=h.fact.IX hi
 rw[q]at m
 have s:=(h.fact.val hp l).2.2.2
 have x:i<65536:=nX s h.fact.an
 have u:=(h.fact.val hp l).2.2.1
 refine en Tryz.func184 Tryz.ntmps184 ?_
 have o:=Own.of h.un
 have j:t.ok:=h.fact
 have b:=yc [_,_,_] _ o
 refine fS o 10 ?_
 refine cl vS (wP tb ab t w (ye b 0 rfl) j) ?_
 rintro _ f ⟨rfl,k⟩
 have c:=(yi b k)
 have d:=yc [_,_,_] _ c
 refine fK c 10 ?_
 refine cl Ca (C6 tb ab t f (ye d 0 rfl) j id p true m) ?_
 rintro _ g ⟨rfl,k⟩
 have a:=(yi d k)
 refine fK a 26 ?_
 refine ar (e:=((i:Nat):Int)) rfl rfl rfl rfl iT (fQ a 5 ?_)
 refine iC (v:=(Za ((i:Nat):Int))) (v' := Zf) Tryz.results184 rfl rfl ?_
 exact⟨rfl,yo (yr (p:=(t:TW).ok) (yc [_,_,_,_] _ a) j) za⟩
theorem aeX(tb ab:Nat)(t:TW)(w:World)(g:Own (TW.R tb ab t) w)(id:Int)(l:¬ t.mem id) :
 CR ya 184 (Z4 tb id) w (fun r w' => r = .tuple G7/\fZ (TW.R tb ab t) w w' (TW.R tb ab t)):=by
 have o:t.cs.length=t.n:=rfl
 have q:=g.fact.top
 obtain⟨p,hp,k,m,s⟩:=g.fact.Pw l
 refine en Tryz.func184 Tryz.ntmps184 ?_
 have j:=Own.of g.un
 have h:t.ok:=g.fact
 have a:=yc [_,_,_] _ j
 refine fS j 10 ?_
 refine cl vS (wP tb ab t w (ye a 0 rfl) h) ?_
 rintro _ e ⟨rfl,i⟩
 have b:=(yi a i)
 have c:=yc [_,_,_] _ b
 refine fK b 10 ?_
 refine cl Ca (C6 tb ab t e (ye c 0 rfl) h id p false k) ?_
 rintro _ f ⟨rfl,i⟩
 have d:=(yi c i)
 refine fQ d 23 ?_
 refine iC (v:=Zc) (v' := Zp) Tryz.results184 rfl rfl ?_
 exact⟨rfl,yo (yr (p:=(t:TW).ok) (yc [_,_,_,_] _ d) h) za⟩
theorem FX(tb ab:Nat)(t:TW)(w:World)(d:Own (TW.R tb ab t) w)(id:Int) :
 CR ya 184 (Z4 tb id) w (fun r w' => ∃ (z:Nat) (b:Bool),r = .tuple (p8 z b)/\TW.oc t id z b/\fZ (TW.R tb ab t) w w' (TW.R tb ab t)):=by
 by_cases hm:t.mem id
 . obtain⟨i,hi,e⟩:=hm
   exact CR.mono (aeY tb ab t w d id i hi e) fun r w' ⟨a,c⟩=>⟨i,true,a,.inl ⟨rfl,hi,e⟩,c⟩
 . exact CR.mono (aeX tb ab t w d id hm) fun r w' ⟨a,c⟩=>⟨0,false,a,.inr ⟨rfl,rfl,hm⟩,c⟩
theorem agE(tb ab:Nat)(t:TW)(w:World)(f:Own (TW.R tb ab t) w) :
 CR ya 183 (Zi tb) w (fun r w' => r = .int .i64 (t.A.used:Int)/\fZ (TW.R tb ab t) w w' (TW.R tb ab t)):=by
 have g:=f.fact
 refine en Tryz.func183 Tryz.ntmps183 ?_
 have i:=Own.of f.un
 have g:t.ok:=f.fact
 have b:=yc [_,_,_] _ i
 refine fS i 9 ?_
 refine cl vS (wP tb ab t w (ye b 0 rfl) g) ?_
 rintro _ d ⟨rfl,h⟩
 have a:=(yi b h)
 refine fK a 12 ?_
 refine cl IC (Lq ab t.w d (ye a 3 rfl)) ?_
 rintro _ e ⟨rfl,h⟩
 have c:=ym 3 a h
 refine fQ c 4 ?_
 refine gq (v:=(Za t.A.used)) Tryz.results183 rfl ?_
 exact⟨rfl,yo (yr (p:=(t:TW).ok) (yc [_,_,_,_] _ c) g) za⟩
theorem agL(tb ab:Nat)(t:TW)(w:World)(h:Own (TW.R tb ab t) w)(id:Int)(i:Nat)(hi:t.A.gY i)(q:fJ t.ids i=id) :
 CR ya 191 (Z4 tb id) w (fun r w' => r = .tuple #[.int .i64 (i:Int),.bool false,.int .i64 0]/\fZ (TW.R tb ab t) w w' (TW.R tb ab t)):=by
 have y:t.cs.length=t.n:=rfl
 have z:=h.fact.top
 obtain⟨p,hp,l,m⟩:=h.fact.IX hi
 rw[q]at m
 have s:=(h.fact.val hp l).2.2.2
 have x:i<65536:=nX s h.fact.an
 have u:=(h.fact.val hp l).2.2.1
 refine en Tryz.func191 Tryz.ntmps191 ?_
 have o:=Own.of h.un
 have j:t.ok:=h.fact
 have b:=yc [_,_,_] _ o
 refine fS o 11 ?_
 refine cl vS (wP tb ab t w (ye b 0 rfl) j) ?_
 rintro _ f ⟨rfl,k⟩
 have c:=(yi b k)
 have d:=yc [_,_,_] _ c
 refine fK c 10 ?_
 refine cl Ca (C6 tb ab t f (ye d 0 rfl) j id p true m) ?_
 rintro _ g ⟨rfl,k⟩
 have a:=(yi d k)
 refine fK a 23 ?_
 refine ar (e:=((i:Nat):Int)) rfl rfl rfl rfl iT (fQ a 7 ?_)
 refine tK (v:=(Za ((i:Nat):Int))) (v' := Zp) (v'' := Zc) Tryz.results191 rfl rfl rfl ?_
 exact⟨rfl,yo (yr (p:=(t:TW).ok) (yc [_,_,_,_] _ a) j) za⟩
theorem agK(tb ab:Nat)(t:TW)(w:World)(F:Own (TW.R tb ab t) w)(id:Int)(X:¬ t.mem id)(aa:gX .u64 id)(hu:t.A.used<t.A.n) :
 CR ya 191 (Z4 tb id) w (fun r w' => ∃ (i:Nat) (W:TW),r = .tuple #[.int .i64 (i:Int),.bool true,.int .i64 0]/\((∀ x,W.mem x↔t.mem x\/x=id)/\W.A.n=t.A.n/\W.A.used=t.A.used+1)/\fZ (TW.R tb ab t) w w' (TW.R tb ab W)):=by
 have aj:t.cs.length=t.n:=rfl
 have ak:=F.fact.top
 obtain⟨p,hp,hf,Y,hw⟩:=F.fact.Pw X
 have ah:t.ids.length=t.w.A.begun:=F.fact.vY
 have ai:(t.ids++[0]).length=t.ids.length+1:=by simp
 have ae:t.w.A.begun<=t.w.A.n:=F.fact.pH
 have ad:t.w.A.n<=65536:=F.fact.an
 refine en Tryz.func191 Tryz.ntmps191 ?_
 have ac:=Own.of F.un
 have V:t.ok:=F.fact
 have j:=yc [_,_,_] _ ac
 refine fS ac 11 ?_
 refine cl vS (wP tb ab t w (ye j 0 rfl) V) ?_
 rintro _ B ⟨rfl,U⟩
 have k:=(yi j U)
 have l:=yc [_,_,_] _ k
 refine fK k 10 ?_
 refine cl Ca (C6 tb ab t B (ye l 0 rfl) V id p false hf) ?_
 rintro _ C ⟨rfl,U⟩
 have h:=(yi l U)
 refine fK h 22 ?_
 refine cl OA (TM ab t.w C (ye h 3 rfl) hu) ?_
 rintro _ G ⟨a,d,rfl,b,U⟩
 have c:=ym 3 h U
 have Z:=(y0 c (i:=3) rfl:d.A.ok)
 have af:a<=t.ids.length:=by rcases b.pH with h9|h9<;>omega
 have ag:a<=65536:=by omega
 refine fK c 25 ?_
 refine iL (m:=t.ids.length) 1 rfl rfl yz c rfl ?_
 by_cases H:(((a:Nat):Int):Int)=((t.ids.length:Int):Int)
 . refine fK c 10 ?_
   refine jL (vs:=BM) (cs:=BM) rfl rfl yz jD rfl (by simp[Value.cells]) rfl rfl rfl c (fun D I J K o=>lF (cf:=gW) (ys:=t.ids) (zs:=[0]) (LL:=fun e=>[ig .u64 (Z3 D) 40 ([0]),blk tb 261 (oL tb ab t),fL gW e 40 1 (t.ids++[0]),fL fR t.cv 3 1 t.cs,(AW.R ab d)]) 2 rfl rfl rfl yz jD rfl d_ o rfl (kO o (i:=0) rfl) (fun x hx=>zn.1 (show List.all _ _=true from rfl) x hx) (by simp only[ze,zh,maxLen];omega) (by simp only[ze,zh,maxLen];omega) f_ ?_)
   intro e L E M
   have g:=yg [1,2,3,4] E
   refine fK g 2 ?_
   refine jM 0 g (fun N q=>?_) (hvs:=(cells_one (yu g (i:=1) rfl))) (h1:=(ia (yu g (i:=1) rfl) kT))
   refine fK q 11 ?_
   refine iO (f:=(fun _=>id)) 1 q (fun O s=>?_)
   refine fK s 12 ?_
   refine iO (f:=(fun _=>(a+1))) 2 s (fun P u=>?_)
   refine fQ u 11 ?_
   refine tK (v:=(Za ((a:Nat):Int))) (v' := Zf) (v'' := Zc) Tryz.results191 rfl rfl rfl ?_
   have T:=V.put X aa Z b hp Y hw e t.cv (is2:=fN (t.ids++[0]) a (fun _=>id)) (cs2:=fN t.cs p (fun _=>(a+1))) (by unfold xZ;rw[if_pos o_]) rfl
   exact⟨a,⟨e,t.cv,d,fN (t.ids++[0]) a (fun _=>id),fN t.cs p (fun _=>(a+1))⟩,rfl,⟨T.2,b.n,b.used⟩,yo (yr (p:=(⟨e,t.cv,d,fN (t.ids++[0]) a (fun _=>id),fN t.cs p (fun _=>(a+1))⟩:TW).ok) (yc [_,_,_,_] _ u) T.1) za⟩
 . refine fK c 15 ?_
   refine iO (f:=(fun _=>id)) 1 c (fun Q y=>?_)
   refine fK y 12 ?_
   refine iO (f:=(fun _=>(a+1))) 2 y (fun S z=>?_)
   refine fQ z 11 ?_
   refine tK (v:=(Za ((a:Nat):Int))) (v' := Zf) (v'' := Zc) Tryz.results191 rfl rfl rfl ?_
   have T:=V.put X aa Z b hp Y hw t.iv t.cv (is2:=fN t.ids a (fun _=>id)) (cs2:=fN t.cs p (fun _=>(a+1))) (by unfold xZ;rw[if_neg o_]) rfl
   exact⟨a,⟨t.iv,t.cv,d,fN t.ids a (fun _=>id),fN t.cs p (fun _=>(a+1))⟩,rfl,⟨T.2,b.n,b.used⟩,yo (yr (p:=(⟨t.iv,t.cv,d,fN t.ids a (fun _=>id),fN t.cs p (fun _=>(a+1))⟩:TW).ok) (yc [_,_,_,_] _ z) T.1) za⟩
end
section
open Go Go.Sx
theorem aeZ(tb ab:Nat)(t:TW)(cs2:List Nat)(d:cs2.length=t.n)(w:World)(b:Own (DY tb ab t cs2) w)(c:TW.Sz t.n)(id:Int) :
 CR ya 236 (Z4 tb id) w (fun r w' => r = .int .i64 ((kz t.n id:Nat):Int)/\fZ (DY tb ab t cs2) w w' (DY tb ab t cs2)):=by
 have a:TW.n ⟨t.iv,t.cv,t.w,t.ids,cs2⟩=t.n:=d
 have h:=S0 tb ab ⟨t.iv,t.cv,t.w,t.ids,cs2⟩ w b (by rw[a];exact c) id
 rw[a]at h
 exact h
theorem aeT(tb ab:Nat)(t:TW)(w:World)(Q:Own (Z0 tb ab t) w)(A:t.ok)(p i:Nat)(hp:p<t.n)(L:fJ t.cs p=i+1) :
 CR ya 182 (Zm tb ((p:Nat):Int)) w (fun r w' => r = .tuple #[]/\∃ D,D.length=t.n/\(rA t.n D (fun j=>kz t.n (fJ t.ids j))/\(∀ p q,p<t.n->q<t.n->fJ D p≠0->fJ D p=fJ D q->p=q)/\(∀ K,(∃ p,p<t.n/\fJ D p=K+1)↔K≠i/\∃ p,p<t.n/\fJ t.cs p=K+1))/\fZ (Z0 tb ab t) w w' (DY tb ab t D)):=by
 have af:t.cs.length=t.n:=rfl
 have Z:=A.two
 have ag:=A.top
 have N:0<t.n:=by omega
 obtain⟨z,X,Y⟩:=A.zero
 have P:o4 t.n (fun j=>kz t.n (fJ t.ids j)) i t.cs t.cs p p z:=o4.start A.FC rfl hp L X Y (fun q j _ _=>xJ N) A.inj
 refine en Tryz.func182 Tryz.ntmps182 ?_
 have G:=Own.of Q
 refine fS G 7 ?_
 refine iL (m:=t.cs.length) 2 rfl rfl yd G rfl (gF G 15 ?_)
 refine lp (α:=List Nat×Nat×Nat) (fun(cs,hole,c)=>[(0,(Zb tb)),(1,(Za ((hole:Nat):Int))),(4,(Za ((t.cs.length:Int)-1))),(5,(Za ((c:Nat):Int)))]) (fun(cs,hole,c) w1=>St [(w,(Z0 tb ab t).gG)] [blk tb 261 (oL tb ab t),fL gW t.iv 40 1 t.ids,fL fR t.cv 3 1 cs] w1/\o4 t.n (fun j=>kz t.n (fJ t.ids j)) i t.cs cs hole c z) (fun(cs,hole,c)=>dst t.n c z) (t.cs,p,p) ⟨rfl,gm rO,rfl,gm rO,trivial⟩ (⟨G,P⟩) ?_
 rintro⟨cs,hole,c⟩ u s ⟨C,B⟩
 have F:=B.next
 have J:ic t.n c<t.n:=F.1
 have U:=B.vX
 have R:=B.NJ
 have ae:=B.len
 refine fS C 6 ?_
 refine bi (a:=((c:Nat):Int)+1) (b:=(t.cs.length:Int)-1) (e:=((ic t.n c:Nat):Int)) rfl rfl rfl (A.p2.nx R) (fK C 19 ?_)
 by_cases g:((((fJ cs (ic t.n c)):Nat):Int):Int)=(0:Int)
 . have O:fJ cs (ic t.n c)=0:=by have H:=@g;omega
   refine fK C 17 ?_
   refine iO (f:=(fun _=>0)) (cf:=fR) 2 C (fun v h=>?_)
   refine fQ h 2 ?_
   refine iQ Tryz.results182 ?_
   exact⟨rfl,fN cs hole (fun _=>0),by rw[gC];exact B.len,B.done O ⟨p,hp,L⟩,yj (yc [_,_,_] _ h)⟩
 . obtain⟨j,E⟩:∃ j,fJ cs (ic t.n c)=j+1:=⟨fJ cs (ic t.n c)-1,by have H:=@g;omega⟩
   obtain⟨aa,q9,V,S⟩:=(B.mem j).1 ⟨ic t.n c,J,F.2.1,E⟩
   have M:=A.val V S
   have ac:j<t.ids.length:=M.2.2.1
   have ad:j<65536:=nX M.2.2.2 A.an
   have T:=xJ (id:=fJ t.ids j) N
   refine fK C 1 ?_
   rw[E]
   refine fK C 15 ?_
   refine ar (e:=((j:Nat):Int)) rfl rfl rfl rfl iT ?_
   have k:=yc [_,_,_] _ C
   refine fK C 2 ?_
   refine cl OI (aeZ tb ab t cs B.len s (ye k 0 rfl) A.sz (fJ t.ids j)) ?_
   rintro _ x ⟨rfl,W⟩
   have d:=(yi k W)
   refine fK d 2 ?_
   refine bi (a:=((ic t.n c:Nat):Int)-((kz t.n (fJ t.ids j):Nat):Int)) (b:=(t.cs.length:Int)-1) (e:=((dst t.n (kz t.n (fJ t.ids j)) (ic t.n c):Nat):Int)) rfl rfl rfl (A.p2.dst T J) (fK d 4 ?_)
   refine bi (a:=((ic t.n c:Nat):Int)-((hole:Nat):Int)) (b:=(t.cs.length:Int)-1) (e:=((dst t.n hole (ic t.n c):Nat):Int)) rfl rfl rfl (A.p2.dst U J) ?_
   by_cases l:(((dst t.n (kz t.n (fJ t.ids j)) (ic t.n c):Nat):Int):Int)<(((dst t.n hole (ic t.n c):Nat):Int):Int)
   . have I:(dst t.n (kz t.n (fJ t.ids j)) (ic t.n c)<dst t.n hole (ic t.n c)):=by have H:=l;omega
     refine fQ d 7 ?_
     refine tN (?_)
     exact again (cs,hole,(ic t.n c)) ⟨rfl,rfl,rfl,gm rO,trivial⟩ (⟨d,B.skip E I⟩) (by show dst t.n (ic t.n c) z<dst t.n c z;exact F.2.2.2.2)
   . have I:¬ (dst t.n (kz t.n (fJ t.ids j)) (ic t.n c)<dst t.n hole (ic t.n c)):=by have H:=l;omega
     refine fK d 15 ?_
     refine iO (f:=(fun _=>(j+1))) 2 d (fun y o=>?_)
     refine fQ o 7 ?_
     refine tN (?_)
     exact again (fN cs hole (fun _=>(j+1)),(ic t.n c),(ic t.n c)) ⟨rfl,gm rO,rfl,gm rO,trivial⟩ (⟨o,B.move E I⟩) (by show dst t.n (ic t.n c) z<dst t.n c z;exact F.2.2.2.2)
end
section
open Go Go.Sx
theorem KX(tb ab:Nat)(t:TW)(w:World)(B:Own (TW.R tb ab t) w)(id:Int)(i:Nat)(hi:t.A.gY i)(I:fJ t.ids i=id) :
 CR ya 120 (Z4 tb id) w (fun r w' => ∃ (E:TW),r = .int .i64 0/\((∀ x,E.mem x↔t.mem x/\x≠id)/\E.A.n=t.A.n/\E.A.used=t.A.used-1/\0<t.A.used)/\fZ (TW.R tb ab t) w w' (TW.R tb ab E)):=by
 have Q:t.cs.length=t.n:=rfl
 have S:=B.fact.top
 obtain⟨p,hp,F,H⟩:=B.fact.IX hi
 rw[I]at H
 have M:=(B.fact.val hp F).2.2.2
 have P:i<65536:=nX M B.fact.an
 have O:=(B.fact.val hp F).2.2.1
 refine en Tryz.func120 Tryz.ntmps120 ?_
 have J:=Own.of B.un
 have D:t.ok:=B.fact
 have g:=yc [_,_,_] _ J
 refine fS J 9 ?_
 refine cl vS (wP tb ab t w (ye g 0 rfl) D) ?_
 rintro _ q ⟨rfl,C⟩
 have h:=(yi g C)
 have j:=yc [_,_,_] _ h
 refine fK h 10 ?_
 refine cl Ca (C6 tb ab t q (ye j 0 rfl) D id p true H) ?_
 rintro _ s ⟨rfl,C⟩
 have a:=(yi j C)
 refine fK a 26 ?_
 refine ar (e:=((i:Nat):Int)) rfl rfl rfl rfl iT (fK a 11 ?_)
 refine cl Oh (TP ab t.w s (ye a 3 rfl) i hi) ?_
 rintro _ u ⟨c,rfl,b,C⟩
 have d:=ym 3 a C
 have K:=(y0 d (i:=3) rfl:c.A.ok)
 have k:=yc [_,_,_] _ d
 refine fK d 16 ?_
 refine cl W5 (aeT tb ab t u (ye k 0 rfl) D p i hp F) ?_
 rintro _ y ⟨rfl,l,N,L,C⟩
 have m:=(yi k C)
 refine fK m 10 ?_
 refine iO (f:=(fun _=>0)) (cf:=gW) 1 m (fun z o=>?_)
 refine fQ o 8 ?_
 refine gq (v:=Zc) Tryz.results120 rfl ?_
 have G:=D.del hi K b N L t.iv t.cv (is2:=fN t.ids i (fun _=>0)) rfl
 rw[I]at G
 exact⟨⟨t.iv,t.cv,c,fN t.ids i (fun _=>0),l⟩,rfl,⟨G.2,b.n,b.used,b.pos⟩,yo (yr (p:=(⟨t.iv,t.cv,c,fN t.ids i (fun _=>0),l⟩:TW).ok) (yc [_,_,_,_] _ o) G.1) za⟩
theorem Vr(v:Value)(xs:List Int)(w:World)(hv:iw 1 gW (fun _=>True) w v xs)(m:xs.length<=1000000) :
 CR ya 237 #[v] w (fun r w' => p5 1 gW w w' r 40 xs/\gx [] w w'):=by
 refine en Tryz.func237 Tryz.ntmps237 ?_
 have l:=yt w
 refine fS l 9 ?_
 refine Ci (v:=v) rfl rfl rfl yz hv (gF l 2 ?_)
 cases e:(wo v:Bool)
 . skip
   refine fS l 5 ?_
   refine jL (vs:=[]) (cs:=[]) rfl rfl yz jD rfl (by intro v hv;simp at hv) rfl rfl rfl l ?_
   intro f g h i c
   have d:=c
   refine fK c 1 ?_
   refine lF (cf:=gW) (ys:=[]) (zs:=xs) (LL:=fun a=>[fL gW a 40 1 xs]) 0 rfl rfl rfl yz jD rfl d_ d rfl (iw.src (yw d s_ d_ hv) f_) (xH f_ _) (by simp only[zh];omega) (by simp only[zh];omega) f_ (fun a j b k=>fQ b 4 ?_)
   refine gq (v:=a) Tryz.results237 rfl ?_
   exact⟨Di b s_,b.gz s_⟩
 . skip
   refine iN l 8 ?_
   refine gq (v:=Zg) Tryz.results237 rfl ?_
   obtain rfl:=CI e hv
   exact⟨p5.CH, l.gz s_⟩
theorem B6(v:Value)(xs:List Nat)(w:World)(hv:iw 1 fR (fun _=>True) w v xs)(m:xs.length<=1000000) :
 CR ya 69 #[v] w (fun r w' => p5 1 fR w w' r 3 xs/\gx [] w w'):=by
 refine en Tryz.func69 Tryz.ntmps69 ?_
 have l:=yt w
 refine fS l 9 ?_
 refine Ci (v:=v) rfl rfl rfl yd hv (gF l 2 ?_)
 cases e:(wo v:Bool)
 . skip
   refine fS l 5 ?_
   refine jL (vs:=[]) (cs:=[]) rfl rfl yd gr rfl (by intro v hv;simp at hv) rfl rfl rfl l ?_
   intro f g h i c
   have d:=c
   refine fK c 1 ?_
   refine lF (cf:=fR) (ys:=[]) (zs:=xs) (LL:=fun a=>[fL fR a 3 1 xs]) 0 rfl rfl rfl yd gr rfl d_ d rfl (iw.src (yw d s_ d_ hv) f_) (xH f_ _) (by simp only[zh];omega) (by simp only[zh];omega) f_ (fun a j b k=>fQ b 4 ?_)
   refine gq (v:=a) Tryz.results69 rfl ?_
   exact⟨Di b s_,b.gz s_⟩
 . skip
   refine iN l 8 ?_
   refine gq (v:=Zg) Tryz.results69 rfl ?_
   obtain rfl:=CI e hv
   exact⟨p5.CH, l.gz s_⟩
theorem aeU(tb ab:Nat)(t:TW)(w:World)(F:Own (TW.R tb ab t) w) :
 CR ya 186 (Zi tb) w (fun r w' => ∃ (Q S:Nat) (K:TW),r = .pointer (some ⟨Q,0,none⟩)/\((∀ x,K.mem x↔t.mem x)/\K.A.n=t.A.n/\K.A.used=t.A.used)/\fZ (TW.R tb ab t) w w' (gj [(TW.R tb ab t),(TW.R Q S K)])):=by
 have Z:t.cs.length=t.n:=rfl
 have aa:=F.fact.top
 have Y:t.ids.length=t.w.A.begun:=F.fact.vY
 have X:t.w.A.begun<=t.w.A.n:=F.fact.pH
 have W:t.w.A.n<=65536:=F.fact.an
 refine en Tryz.func186 Tryz.ntmps186 ?_
 have P:=Own.of F.un
 have L:t.ok:=F.fact
 have j:=yc [_,_,_] _ P
 refine fS P 9 ?_
 refine cl vS (wP tb ab t w (ye j 0 rfl) L) ?_
 rintro _ D ⟨rfl,N⟩
 have k:=(yi j N)
 refine gF k 7 ?_
 refine kY mixed [([0,1,2,3,5,6,7,8,10,11,12,13,4],[8,13]),([9],[13])] [14,15,16,17] k (fun o e=>jO ?_)
 refine fK e 12 ?_
 refine cl Oz (TO ab t.w o (ye e 3 rfl)) ?_
 rintro _ q ⟨c,d,rfl,s,N⟩
 have u:=yg [3,0,1,2] e
 have f:=yy (ym 0 u N)
 refine fQ f 1 ?_
 refine kJ (jO ?_)
 refine cl Xm (Vr t.iv t.ids q (y8 f 3 rfl).any (by first|omega|(simp;omega))) ?_
 rintro a l J
 have g:St _ [fL gW a 40 1 t.ids,(AW.R ab t.w),(AW.R c d),blk tb 261 (oL tb ab t),fL gW t.iv 40 1 t.ids,fL fR t.cv 3 1 t.cs] l:=tQ f J.2 J.1
 refine fQ g 1 ?_
 refine kJ (kZ ?_)
 refine cl Cg (B6 t.cv t.cs l (y8 g 5 rfl).any (by first|omega|(simp;omega))) ?_
 rintro b y J
 have h:St _ [fL fR b 3 1 t.cs,fL gW a 40 1 t.ids,(AW.R ab t.w),(AW.R c d),blk tb 261 (oL tb ab t),fL gW t.iv 40 1 t.ids,fL fR t.cv 3 1 t.cs] y:=tQ g J.2 J.1
 refine ja (pvs:=[(1,(Zb c)),(2,a),(3,b)]) (v:=.agg #[Zt,(Zb c),a,b]) rfl rfl (jq [(1,(Zh c)),(2,[a]),(3,[b])] F5 RF rfl ⟨rfl,rfl,rfl,(cells_one (yu h (i:=1) rfl)),rfl,(cells_one (yu h (i:=0) rfl)),trivial⟩ rfl) (ij h (fun m E G H z=>?_))
 refine jZ z 19 fun I B=>?_
 refine gq (v:=(Zb m)) Tryz.results186 rfl ?_
 have C:=yg [5,6,7,3,0,2,1,4] B
 obtain⟨ac,M⟩:=s
 have O:=L.copy M a b
 have V:=yr (p:=t.ok) (yc [_,_,_,_] _ C) L
 have T:=yr (p:=(⟨a,b,d,t.ids,t.cs⟩:TW).ok) (yc [_,_,_,_] _ (lN V (qB (l₁:=[_]) (l₂:=[_,_,_,_]) |>.append_right _))) O.1
 have U:=lN T (List.Perm.swap _ _ _)
 exact⟨m,c,⟨a,b,d,t.ids,t.cs⟩,rfl,⟨O.2,by rw[show TW.A ⟨a,b,d,t.ids,t.cs⟩=_ from M],by rw[show TW.A ⟨a,b,d,t.ids,t.cs⟩=_ from M]⟩,yj (yc [_,_] _ U)⟩
theorem agG(m:Nat)(w:World)(hm:m<=65536) :
 CR ya 172 (Z8 ((m:Nat):Int)) w (fun r w' => ∃ (tb ab:Nat) (t:TW),r = .tuple (Zy tb)/\((∀ x,¬ t.mem x)/\t.A.n=m/\t.A.used=0)/\fZ (gj []) w w' (TW.R tb ab t)):=by
 refine en Tryz.func172 Tryz.ntmps172 ?_
 have N:=yt w
 refine fS N 9 ?_
 refine cl Ov (TZ m w hm) ?_
 rintro _ z ⟨b,d,rfl,g,P⟩
 have h:=(jJ N P)
 refine gF h 24 ?_
 refine lp (α:=Nat) (fun k=>[(0,(Za ((m:Nat):Int))),(2,Zt),(3,Zc),(4,(Zb b)),(5,Zc),(6,(Za ((k:Nat):Int)))]) (fun k w1=>St [(w,[])] [(AW.R b d)] w1/\P2 k/\2<=k/\(k=2\/k<4*m)) (fun k=>4*m-k) 2 ⟨rfl,rfl,rfl,rfl,rfl,gm rO,trivial⟩ (⟨h,P2.two,o_,.inl rfl⟩) ?_
 rintro k B C ⟨F,L,O,Q⟩
 have S:k<=262144:=by omega
 refine fS F 6 ?_
 by_cases D:(((k:Nat):Int):Int)<(2*((m:Nat):Int):Int)
 . refine fK F 9 ?_
   refine ar (e:=((k*2:Nat):Int)) rfl rfl rfl rfl iT (fQ F 3 ?_)
   refine tN (?_)
   exact again (k*2) ⟨rfl,rfl,rfl,rfl,rfl,gm rO,trivial⟩ (⟨F,L.Wa o_,o_,o_⟩) o_
 . refine fK F 13 ?_
   refine qU (cf:=fR) (z0:=0) (m:=k) (c:=k) rfl rfl rfl yd gr rfl f_ d_ (zk _) o_ o_ F (fun a E G H j=>ja (pvs:=[(1,(Zb b)),(3,(Zd a k))]) (v:=.agg #[Zt,(Zb b),Zg,(Zd a k)]) rfl rfl (jq [(1,(Zh b)),(3,(p7 a k))] F5 RF rfl ⟨rfl,rfl,rfl,rfl,trivial⟩ rfl) (ij j (fun f I J K l=>?_)))
   refine jZ l 20 fun o q=>?_
   refine iC (v:=(Zb f)) (v' := Zc) Tryz.results172 rfl rfl ?_
   have s:=lU (cf:=fR) q (i:=1) rfl f_ (zk _) (by simp only[maxLen];omega)
   have u:St _ [fL gW Zg 40 1 ([]),blk f 261 [(Zb f),(Zb b),Zg,(Zd a k)],fL fR (Zd a k) 3 1 (List.replicate k 0),(AW.R b d)] o:=oU s 40 1
   have y:=yg [1,0,2,3] u
   have M:=TW.tG g hm L O o_ o_ Zg (Zd a k)
   exact⟨f,b,⟨.slice none 0 0,(Zd a k),d,[],List.replicate k 0⟩,rfl,⟨M.2,by rw[show TW.A ⟨.slice none 0 0,(Zd a k),d,[],List.replicate k 0⟩=_ from g];rfl,by rw[show TW.A ⟨.slice none 0 0,(Zd a k),d,[],List.replicate k 0⟩=_ from g];rfl⟩,uY (yr (p:=(⟨.slice none 0 0,(Zd a k),d,[],List.replicate k 0⟩:TW).ok) (yc [_,_,_,_] _ y) M.1) s_⟩
end
end Go.Proofs.YtoceanggliccgaaGreatDoor
