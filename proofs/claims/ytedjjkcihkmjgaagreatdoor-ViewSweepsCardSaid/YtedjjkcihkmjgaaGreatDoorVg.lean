/- Walks through the code, one theorem a function, under what is said of its arguments. -/
import Derived.Test.YtedjjkcihkmjgaaGreatDoorFb
import Derived.Test.YtedjjkcihkmjgaaGreatDoorVa
import Derived.Test.YtedjjkcihkmjgaaGreatDoorFd
import Derived.Test.YtedjjkcihkmjgaaGreatDoorVf
import Derived.Test.YtedjjkcihkmjgaaGreatDoorFc
import Derived.Shelf.Spec.TrailingZeros
import Derived.Shelf.Lays7
import Derived.Test.YtedjjkcihkmjgaaGreatDoorFa
set_option linter.unusedVariables false
set_option linter.unusedSimpArgs false
set_option maxRecDepth 100000
set_option maxHeartbeats 4000000
namespace Go.Proofs.YtedjjkcihkmjgaaGreatDoor
open Go Go.Sx Go.Proofs.Tryz
theorem ae3(uv:Value)(n:Nat)(lb:List Nat)(us:List i7)(w:World)(s:Own (Cj uv us) w)(t:Un n lb us)(A:n<=1000000)(a0:Nat)(u:a0<n) :
 CR ya 253 #[uv,(Za a0)] w (fun r w' => ∃ xs:List i7,r = .int .i64 ((fJ lb a0:Nat):Int)/\(Un n lb xs/\∀ j,(fJ xs j).b=(fJ us j).b)/\fV (Cj uv us) w w' (Cj uv xs)):=by
 refine en func253 ntmps253 ?_
 have q:=yt s
 refine rm q 7 ?_
 refine lp (α:=Nat×List i7) (fun(i,xs)=>[(0,uv),(1,(Za i)),(4,Zc)]) (fun(i,xs) w1=>St [(w,(Cj uv us).gJ)] [fL i7.cells uv 169 2 xs] w1/\uQ n lb us a0 xs i) (fun(i,xs)=>i) (a0,us) ⟨rfl,gm rO,rfl,trivial⟩ (⟨q,uQ.start t u⟩) ?_
 rintro⟨i,xs⟩ e g ⟨p,o⟩
 have C:=o.un.len
 have z:=o.lt
 have B:=o.un.le i z
 refine fR p 6 ?_
 refine vh (cf:=i7.cells) (k:=i) (off:=0) (off' := 0) (i:=0) rfl rfl rfl yq gq d_ rfl (iN p 0 rfl) (gz om) (fK p 2 ?_)
 by_cases h:((fJ xs i).a:Int)=(i:Int)
 . refine fP p 16 ?_
   refine gf (v:=(Za i)) results253 rfl ?_
   have y:=o.fin o_
   exact⟨xs,by rw[<-y],⟨o.un,o.nd⟩,yj p⟩
 . refine gC p 15 fun l c=>?_
   refine vh (cf:=i7.cells) (k:=i) (off:=0) (off' := 0) (i:=0) rfl rfl rfl yq gq d_ rfl (iN c 0 rfl) (gz om) (fK c 2 ?_)
   refine vh (cf:=i7.cells) (k:=((fJ xs i).a)) (off:=0) (off' := 0) (i:=0) rfl rfl rfl yq gq d_ rfl (iN c 0 rfl) (gz om) (fK c 2 ?_)
   refine vh (cf:=i7.cells) (k:=i) (off:=0) (off' := 0) (i:=0) rfl rfl rfl yq gq d_ rfl (iN c 0 rfl) (gz om) (iQ (f:=(fun x:i7=>{ x with a:=((fJ xs ((fJ xs i).a)).a) })) 0 c (fun m d=>?_))
   refine fK d 6 ?_
   refine vh (cf:=i7.cells) (k:=i) (off:=0) (off' := 0) (i:=0) rfl rfl rfl yq gq d_ rfl (iN d 0 rfl) (gz om) (fP d 4 ?_)
   refine tN (?_)
   exact again (((fJ (fO xs i (fun x=>{ x with a:=((fJ xs ((fJ xs i).a)).a) })) i).a),fO xs i (fun x=>{ x with a:=((fJ xs ((fJ xs i).a)).a) })) ⟨rfl,gm rO,rfl,trivial⟩ (⟨d,(o.half (us2:=fO xs i (fun x=>{ x with a:=((fJ xs ((fJ xs i).a)).a) })) o_ rfl).1⟩) (o.half (us2:=fO xs i (fun x=>{ x with a:=((fJ xs ((fJ xs i).a)).a) })) o_ rfl).2
def Un.R(uv:Value)(n:Nat)(lb d:List Nat)(us:List i7):fT:=lq (Un n lb us/\∀ j,j<n->(fJ us j).b=fJ d j) (Cj uv us)
variable{w0 w':World}{bs:List (World×List Nat)}{ps:List Int}{tb:Nat}{o:Obj}{l:List (Value×List Nat)}{L:List fT}(cb:Nat)(v:Value)(es:List Ge)(n:Nat)(lb:List Nat)(w:World)
theorem ae2(d:List Nat)(us:List i7)(w:World)(a:Own (Un.R v n lb d us) w)(g:n<=1000000)(a0:Nat)(e:a0<n) :
 CR ya 253 #[v,.int .i64 (a0:Int)] w (fun r w' => ∃ xs:List i7,r = .int .i64 ((fJ lb a0:Nat):Int)/\fV (Un.R v n lb d us) w w' (Un.R v n lb d xs)) :=
 CR.mono (ae3 v n lb us w a.un a.fact.1 g a0 e) fun r w' ⟨xs,c,b,ht⟩=>⟨xs,c,ht.rD ⟨b.1,fun j f=>(b.2 j).trans (a.fact.2 j f)⟩⟩
theorem Te(d:List Nat)(us:List i7)(w:World)(a:Own (Un.R v n lb d us) w)(c:n<=1000000)(a0:Nat)(b:a0<n){x:Nat}(e:fJ lb a0=x) :
 CR ya 253 #[v,.int .i64 (a0:Int)] w (fun r w' => ∃ xs:List i7,r = .int .i64 (x:Int)/\fV (Un.R v n lb d us) w w' (Un.R v n lb d xs)):=by
 subst e
 exact ae2 v n lb d us w a c a0 b
theorem Ky(es:List Ge)(w:World)(hv:gY 3 Ge.cells (fun _=>True) w v es)(hg:lQ n es)(hn:n<=4096)(hm:es.length<=16384) :
 CR ya 182 (uR n v) w (fun r w' => ∃ (f:List Nat) (lv rv pv ci sv:Value),r = .tuple #[.agg #[.int .i64 (n:Int),lv,rv,pv,ci,sv],.int .i64 0]/\oM es n f/\fV (gh []) w w' (T4 lv (gd es n f) rv pv ci sv)):=by
 refine en func182 ntmps182 ?_
 have ch:=yu w
 refine fR ch 2 ?_
 refine iR ch (fun E az bt bu S=>?_)
 refine fK S 7 ?_
 refine cl (OR v n es az (yz S s_ d_ hv).any hg hn hm) ?_
 rintro _ bv ⟨fv,f,rfl,aA,ht⟩
 have Q:=(jm S ht)
 have b5:=aA
 have cr:=b5.len
 refine fK Q 21 ?_
 refine iV (m:=f.length) 0 rfl rfl yd Q rfl (ar (e:=((n+f.length:Nat):Int)) rfl rfl rfl rfl je (gF Q 4 ?_))
 refine yT mixed [0,1,3,5,7,9] [2,4,6,8,10,12] [] [11,13] Q (fun bw ag=>zJ ?_)
 refine fP ag 7 ?_
 refine pe trivial (zI [⟨2,36,[],[],Nat,fun I=>(Zd I (n+f.length)),fun I=>[blk I 3 ((List.replicate (n+f.length) 0).flatMap gi)]⟩,⟨4,38,[],[],Nat,fun G=>(Zd G (n+f.length)),fun G=>[blk G 3 ((List.replicate (n+f.length) 0).flatMap gi)]⟩,⟨6,40,[],[],Nat,fun D=>(Zd D (n+f.length)),fun D=>[blk D 3 ((List.replicate (n+f.length) 0).flatMap gi)]⟩,⟨8,42,[],[],Nat,fun C=>(Zd C (n+f.length)),fun C=>[blk C 2 ((List.replicate (n+f.length) 0).flatMap gi)]⟩,⟨10,44,[],[],Nat,fun A=>(Zd A (n+f.length)),fun A=>[blk A 3 ((List.replicate (n+f.length) 0).flatMap fU)]⟩,⟨12,9,[],[],Nat,fun B=>(Zb B),fun B=>[blk B 102 Ah]⟩] ag ⟨nv (fun Z wq hM _=>lN (cf:=gi) (z0:=0) (m:=(n+f.length)) (c:=(n+f.length)) rfl rfl rfl yd gq rfl f_ d_ (zm _) o_ o_ hM (fun aB _ _ _ h=>have hK:=h;nF ⟨aB,rfl,hK,trivial⟩)),nv (fun Z wq hM _=>lN (cf:=gi) (z0:=0) (m:=(n+f.length)) (c:=(n+f.length)) rfl rfl rfl yd gq rfl f_ d_ (zm _) o_ o_ hM (fun aC _ _ _ h=>have hK:=h;nF ⟨aC,rfl,hK,trivial⟩)),nv (fun Z wq hM _=>lN (cf:=gi) (z0:=0) (m:=(n+f.length)) (c:=(n+f.length)) rfl rfl rfl yd gq rfl f_ d_ (zm _) o_ o_ hM (fun aD _ _ _ h=>have hK:=h;nF ⟨aD,rfl,hK,trivial⟩)),nv (fun Z wq hM _=>lN (cf:=gi) (z0:=0) (m:=(n+f.length)) (c:=(n+f.length)) rfl rfl rfl n9 ti2 rfl f_ d_ (zm _) o_ o_ hM (fun aE _ _ _ h=>have hK:=h;nF ⟨aE,rfl,hK,trivial⟩)),nv (fun Z wq hM _=>lN (cf:=fU) (z0:=0) (m:=(n+f.length)) (c:=(n+f.length)) rfl rfl rfl yd gq rfl f_ d_ (zm _) o_ o_ hM (fun aF _ _ _ h=>have hK:=h;nF ⟨aF,rfl,hK,trivial⟩)),nv (fun Z wq hM _=>al (cs:=Ah) rfl zB rfl hM (fun aG _ _ _ h=>have hK:=h;nF ⟨aG,rfl,hK,trivial⟩))⟩ ?_)
 rintro I G D C A B bx aH
 refine iU (pvs:=[(0,(Za n)),(1,(Zd I (n+f.length))),(2,(Zd G (n+f.length))),(3,(Zd D (n+f.length))),(4,(Zd C (n+f.length))),(5,(Zd A (n+f.length)))]) (v:=.agg #[(Za n),(Zd I (n+f.length)),(Zd G (n+f.length)),(Zd D (n+f.length)),(Zd C (n+f.length)),(Zd A (n+f.length))]) rfl rfl (jj [(0,(Ze n)),(1,(Z5 I (n+f.length))),(2,(Z5 G (n+f.length))),(3,(Z5 D (n+f.length))),(4,(Z5 C (n+f.length))),(5,(Z5 A (n+f.length)))] zB abh rfl ⟨rfl,rfl,rfl,rfl,rfl,rfl,rfl,rfl,rfl,rfl,rfl,rfl,trivial⟩ rfl) (jH aH 2 fun K aI=>?_)
 have ah:St _ [blk B 102 [(.int .i64 n),(.slice (some ⟨I,0,none⟩) (n+f.length) (n+f.length)),(.slice (some ⟨G,0,none⟩) (n+f.length) (n+f.length)),(.slice (some ⟨D,0,none⟩) (n+f.length) (n+f.length)),(.slice (some ⟨C,0,none⟩) (n+f.length) (n+f.length)),(.slice (some ⟨A,0,none⟩) (n+f.length) (n+f.length))],blk A 3 ((List.replicate (n+f.length) 0).flatMap fU),blk C 2 ((List.replicate (n+f.length) 0).flatMap gi),blk D 3 ((List.replicate (n+f.length) 0).flatMap gi),blk G 3 ((List.replicate (n+f.length) 0).flatMap gi),fL gi (.slice (some ⟨I,0,none⟩) (n+f.length) (n+f.length)) 3 1 (List.replicate (n+f.length) 0),fL fU fv 3 1 f,blk E 102 [(.int .i64 0),(.slice none 0 0),(.slice none 0 0),(.slice none 0 0),(.slice none 0 0),(.slice none 0 0)]] K:=lZ (cf:=gi) aI (i:=5) rfl f_ (zm _) (by simp only[maxLen];omega)
 generalize (Value.slice (some ⟨I,0,none⟩) (n+f.length) (n+f.length))=g at ah ⊢
 have ai:St _ [blk B 102 [(.int .i64 n),g,(.slice (some ⟨G,0,none⟩) (n+f.length) (n+f.length)),(.slice (some ⟨D,0,none⟩) (n+f.length) (n+f.length)),(.slice (some ⟨C,0,none⟩) (n+f.length) (n+f.length)),(.slice (some ⟨A,0,none⟩) (n+f.length) (n+f.length))],blk A 3 ((List.replicate (n+f.length) 0).flatMap fU),blk C 2 ((List.replicate (n+f.length) 0).flatMap gi),blk D 3 ((List.replicate (n+f.length) 0).flatMap gi),fL gi (.slice (some ⟨G,0,none⟩) (n+f.length) (n+f.length)) 3 1 (List.replicate (n+f.length) 0),fL gi g 3 1 (List.replicate (n+f.length) 0),fL fU fv 3 1 f,blk E 102 [(.int .i64 0),(.slice none 0 0),(.slice none 0 0),(.slice none 0 0),(.slice none 0 0),(.slice none 0 0)]] K:=lZ (cf:=gi) ah (i:=4) rfl f_ (zm _) (by simp only[maxLen];omega)
 generalize (Value.slice (some ⟨G,0,none⟩) (n+f.length) (n+f.length))=j at ai ⊢
 have aj:St _ [blk B 102 [(.int .i64 n),g,j,(.slice (some ⟨D,0,none⟩) (n+f.length) (n+f.length)),(.slice (some ⟨C,0,none⟩) (n+f.length) (n+f.length)),(.slice (some ⟨A,0,none⟩) (n+f.length) (n+f.length))],blk A 3 ((List.replicate (n+f.length) 0).flatMap fU),blk C 2 ((List.replicate (n+f.length) 0).flatMap gi),fL gi (.slice (some ⟨D,0,none⟩) (n+f.length) (n+f.length)) 3 1 (List.replicate (n+f.length) 0),fL gi j 3 1 (List.replicate (n+f.length) 0),fL gi g 3 1 (List.replicate (n+f.length) 0),fL fU fv 3 1 f,blk E 102 [(.int .i64 0),(.slice none 0 0),(.slice none 0 0),(.slice none 0 0),(.slice none 0 0),(.slice none 0 0)]] K:=lZ (cf:=gi) ai (i:=3) rfl f_ (zm _) (by simp only[maxLen];omega)
 generalize (Value.slice (some ⟨D,0,none⟩) (n+f.length) (n+f.length))=q at aj ⊢
 have ak:St _ [blk B 102 [(.int .i64 n),g,j,q,(.slice (some ⟨C,0,none⟩) (n+f.length) (n+f.length)),(.slice (some ⟨A,0,none⟩) (n+f.length) (n+f.length))],blk A 3 ((List.replicate (n+f.length) 0).flatMap fU),fL gi (.slice (some ⟨C,0,none⟩) (n+f.length) (n+f.length)) 2 1 (List.replicate (n+f.length) 0),fL gi q 3 1 (List.replicate (n+f.length) 0),fL gi j 3 1 (List.replicate (n+f.length) 0),fL gi g 3 1 (List.replicate (n+f.length) 0),fL fU fv 3 1 f,blk E 102 [(.int .i64 0),(.slice none 0 0),(.slice none 0 0),(.slice none 0 0),(.slice none 0 0),(.slice none 0 0)]] K:=lZ (cf:=gi) aj (i:=2) rfl f_ (zm _) (by simp only[maxLen];omega)
 generalize (Value.slice (some ⟨C,0,none⟩) (n+f.length) (n+f.length))=t at ak ⊢
 have U:St _ [blk B 102 [(.int .i64 n),g,j,q,t,(.slice (some ⟨A,0,none⟩) (n+f.length) (n+f.length))],fL fU (.slice (some ⟨A,0,none⟩) (n+f.length) (n+f.length)) 3 1 (List.replicate (n+f.length) 0),fL gi t 2 1 (List.replicate (n+f.length) 0),fL gi q 3 1 (List.replicate (n+f.length) 0),fL gi j 3 1 (List.replicate (n+f.length) 0),fL gi g 3 1 (List.replicate (n+f.length) 0),fL fU fv 3 1 f,blk E 102 [(.int .i64 0),(.slice none 0 0),(.slice none 0 0),(.slice none 0 0),(.slice none 0 0),(.slice none 0 0)]] K:=lZ (cf:=fU) ak (i:=1) rfl f_ (zm _) (by simp only[maxLen];omega)
 generalize (Value.slice (some ⟨A,0,none⟩) (n+f.length) (n+f.length))=z at U ⊢
 refine Bg tt none U 4 ?_
 refine lN (cf:=i7.cells) (z0:=(⟨0,0⟩:i7)) (m:=n) (c:=n) rfl rfl rfl underlying368 GH rfl f_ d_ (zm _) o_ o_ U ?_
 intro am aJ bz bA aK
 have V:St _ [fL i7.cells (.slice (some ⟨am,0,none⟩) n n) 169 2 (List.replicate n (⟨0,0⟩:i7)),blk B 102 [(.int .i64 n),g,j,q,t,z],fL fU z 3 1 (List.replicate (n+f.length) 0),fL gi t 2 1 (List.replicate (n+f.length) 0),fL gi q 3 1 (List.replicate (n+f.length) 0),fL gi j 3 1 (List.replicate (n+f.length) 0),fL gi g 3 1 (List.replicate (n+f.length) 0),fL fU fv 3 1 f,blk E 102 [(.int .i64 0),(.slice none 0 0),(.slice none 0 0),(.slice none 0 0),(.slice none 0 0),(.slice none 0 0)]] aJ:=lZ (cf:=i7.cells) aK (i:=0) rfl f_ (zm _) (by simp only[maxLen];omega)
 generalize (Value.slice (some ⟨am,0,none⟩) n n)=H at V ⊢
 have aL:=yf [1,6,5,4,3,2,0,7,8] V
 have aM:=yx 1 aL rfl (congrArg (fL gi g 3 1) (Gh (x := -1)))
 have aN:=yx 2 aM rfl (congrArg (fL gi j 3 1) (Gh (x := -1)))
 have aO:=yx 3 aN rfl (congrArg (fL gi q 3 1) (Gh (x := -1)))
 refine gF V 11 ?_
 refine lp (α:=Nat) (fun k=>[(0,(Za n)),(1,v),(4,(Zb E)),(5,Zc),(6,fv),(8,(Za ((n+f.length:Nat):Int))),(9,(Zb B)),(10,H),(48,(Za ((n+f.length:Nat):Int))),(49,(Za k))]) (fun k w1=>St [(w,[])] [blk B 102 (Zs n g j q t z),fL gi g 3 1 (nW (-1) 0 (n+f.length) k),fL gi j 3 1 (nW (-1) 0 (n+f.length) k),fL gi q 3 1 (nW (-1) 0 (n+f.length) k),fL gi t 2 1 (List.replicate (n+f.length) 0),fL fU z 3 1 (List.replicate (n+f.length) 0),fL i7.cells H 169 2 (List.replicate n (⟨0,0⟩:i7)),fL fU fv 3 1 f,blk E 102 Ah] w1/\k<=n+f.length) (fun k=>n+f.length-k) 0 ⟨rfl,rfl,rfl,rfl,rfl,rfl,rfl,rfl,rfl,gm rO,trivial⟩ (⟨aO,o_⟩) ?_
 rintro k bB bC ⟨cb,hk⟩
 have cA:=Rx (x:=(-1:Int)) (y:=0) hk
 refine fR cb 2 ?_
 by_cases bD:(k:Int)<((n+f.length:Nat):Int)
 . refine gF cb 15 ?_
   refine kq mixed [([0,1,2,3,4,5,6,7,8,9,10],[4,7]),([11,12],[7])] [13,14] cb (fun bE an=>jx ?_)
   refine fK an 10 ?_
   refine iQ (f:=(fun _ => -1)) (cf:=gi) 1 an (fun bF W=>?_)
   refine fP W 1 ?_
   refine jZ (jx ?_)
   refine fK W 1 ?_
   refine iQ (f:=(fun _ => -1)) (cf:=gi) 2 W (fun bG X=>?_)
   refine fP X 1 ?_
   refine jZ (kE ?_)
   refine fK X 1 ?_
   refine iQ (f:=(fun _ => -1)) (cf:=gi) 3 X (fun bH ao=>?_)
   refine fP ao 7 ?_
   refine tN (?_)
   have aP:=yx 1 ao rfl (congrArg (fL gi g 3 1) (Gg o_))
   have aQ:=yx 2 aP rfl (congrArg (fL gi j 3 1) (Gg o_))
   have aR:=yx 3 aQ rfl (congrArg (fL gi q 3 1) (Gg o_))
   exact again (k+1) ⟨rfl,rfl,rfl,rfl,rfl,rfl,rfl,rfl,rfl,gm rO,trivial⟩ (⟨aR,o_⟩) (by show (n+f.length-(k+1):Nat)<n+f.length-k;omega)
 . have cc:k=n+f.length:=by omega
   have aS:=yx 1 cb rfl (congrArg (fL gi g 3 1) ((congrArg (nW (-1) 0 (n+f.length)) cc).trans KN))
   have aT:=yx 2 aS rfl (congrArg (fL gi j 3 1) ((congrArg (nW (-1) 0 (n+f.length)) cc).trans KN))
   have aU:=yx 3 aT rfl (congrArg (fL gi q 3 1) ((congrArg (nW (-1) 0 (n+f.length)) cc).trans KN))
   have aV:=yx 5 aU rfl (congrArg (fL fU z 3 1) (Gh (x:=1)))
   have aW:=yx 6 aV rfl (congrArg (fL i7.cells H 169 2) (afi))
   refine gF cb 18 ?_
   refine lp (α:=Nat) (fun F=>[(0,(Za n)),(1,v),(4,(Zb E)),(5,Zc),(6,fv),(8,(Za ((n+f.length:Nat):Int))),(9,(Zb B)),(10,H),(65,(Za n)),(66,(Za F))]) (fun F w1=>St [(w,[])] [blk B 102 (Zs n g j q t z),fL gi g 3 1 (List.replicate (n+f.length) (-1)),fL gi j 3 1 (List.replicate (n+f.length) (-1)),fL gi q 3 1 (List.replicate (n+f.length) (-1)),fL gi t 2 1 (List.replicate (n+f.length) 0),fL fU z 3 1 (nW 1 0 (n+f.length) F),fL i7.cells H 169 2 (sH n F),fL fU fv 3 1 f,blk E 102 Ah] w1/\F<=n) (fun F=>n-F) 0 ⟨rfl,rfl,rfl,rfl,rfl,rfl,rfl,rfl,rfl,gm rO,trivial⟩ (⟨aW,o_⟩) ?_
   rintro F bI bJ ⟨b9,co⟩
   have cB:=Rx (x:=(1:Nat)) (y:=0) (show F<=n+f.length by omega)
   have cD:=afg co
   refine fR b9 2 ?_
   by_cases bK:(F:Int)<(n:Int)
   . refine fK b9 21 ?_
     refine iQ (f:=(fun _=>1)) (cf:=fU) 5 b9 (fun bL Y=>?_)
     refine fK Y 7 ?_
     refine iU (pvs:=[(0,(Za F)),(1,(Za F))]) (v:=.agg #[(Za F),(Za F)]) rfl rfl (tY [(0,(Ze F)),(1,(Ze F))] GH yq gq rfl ⟨rfl,rfl,rfl,rfl,trivial⟩ rfl s_) (fK Y 1 ?_)
     refine iQ (f:=(fun _=>(⟨F,F⟩:i7))) 6 Y (fun bM ap=>?_)
     refine fP ap 7 ?_
     refine tN (?_)
     have aX:=yx 5 ap rfl (congrArg (fL fU z 3 1) (Gg o_))
     have aY:=yx 6 aX rfl (congrArg (fL i7.cells H 169 2) (afh o_))
     exact again (F+1) ⟨rfl,rfl,rfl,rfl,rfl,rfl,rfl,rfl,rfl,gm rO,trivial⟩ (⟨aY,o_⟩) (by show (n-(F+1):Nat)<n-F;omega)
   . refine fK b9 14 ?_
     refine iV (m:=f.length) 7 rfl rfl yd b9 rfl ?_
     have cg:F=n:=by omega
     have aZ:=yx 5 b9 rfl (congrArg (fL fU z 3 1) (((congrArg (nW 1 0 (n+f.length)) cg).trans (by unfold nW;rfl))))
     have a0:=yx 6 aZ rfl (congrArg (fL i7.cells H 169 2) ((congrArg (sH n) cg).trans aff))
     have a1:=yx 1 a0 rfl (congrArg (fL gi g 3 1) (rfl))
     have a2:=yx 2 a1 rfl (congrArg (fL gi j 3 1) (rfl))
     have a3:=yx 3 a2 rfl (congrArg (fL gi q 3 1) (rfl))
     have a4:=yx 4 a3 rfl (congrArg (fL gi t 2 1) (rfl))
     refine gF b9 4 ?_
     refine lp (α:=Nat×List i7) (fun(i,us)=>[(0,(Za n)),(1,v),(4,(Zb E)),(5,Zc),(6,fv),(9,(Zb B)),(10,H),(80,fv),(81,(Za f.length)),(82,(Za i))]) (fun(i,us) w1=>St [(w,[])] [blk B 102 (Zs n g j q t z),fL gi g 3 1 ((gL es n f i).l),fL gi j 3 1 ((gL es n f i).r),fL gi q 3 1 ((gL es n f i).p),fL gi t 2 1 ((gL es n f i).h),fL fU z 3 1 ((gL es n f i).s),fL i7.cells H 169 2 us,fL fU fv 3 1 f,blk E 102 Ah] w1/\i<=f.length/\qR es n f i us) (fun(i,us)=>f.length-i) (0,((List.range n).map fun i=>⟨i,i⟩)) ⟨rfl,rfl,rfl,rfl,rfl,rfl,rfl,rfl,rfl,gm rO,trivial⟩ (⟨a4,o_,qR.start⟩) ?_
     rintro⟨i,us⟩ bN a5 ⟨bk,hi,hT⟩
     obtain⟨ct,cu,cv,cw,cx,cy⟩:=Bw (es:=es) (n:=n) (f:=f) i
     have cC:=hT.un.len
     refine fR bk 2 ?_
     by_cases bO:(i:Int)<(f.length:Int)
     . have b8:i<f.length:=by omega
       have cz:fJ f i<es.length:=b5.lt (ze (gz b8))
       obtain⟨cp,cq,cj,ck,cd⟩:=hT.at hg b8 (fun k hk=>b5.lt hk) (b5.mG b8)
       obtain⟨T,b6⟩:∃ x,(fJ (gR es n (f.take i)) (fJ es (fJ f i)).u)=x:=⟨_,rfl⟩
       obtain⟨y7,b7⟩:∃ x,(fJ (gR es n (f.take i)) (fJ es (fJ f i)).v)=x:=⟨_,rfl⟩
       refine fK bk 1 ?_
       rw[b6]at cj cd
       rw[b7]at ck cd
       obtain⟨cm,cn,ce⟩:=hT.two hg b8 (fun k hk=>b5.lt hk) (b5.mG b8) b6 b7
       refine fK bk 21 ?_
       refine ar (e:=((n+i:Nat):Int)) rfl rfl rfl rfl je (gF bk 4 ?_)
       have a6:=yf [6,0,1,2,3,4,5,7,8] bk
       have a7:St _ [(Un.R H n (gR es n (f.take i)) (gL es n f i).d us),blk B 102 (Zs n g j q t z),fL gi g 3 1 ((gL es n f i).l),fL gi j 3 1 ((gL es n f i).r),fL gi q 3 1 ((gL es n f i).p),fL gi t 2 1 ((gL es n f i).h),fL fU z 3 1 ((gL es n f i).s),fL fU fv 3 1 f,blk E 102 Ah] a5:=yn a6 ⟨hT.un,hT.dd⟩
       refine kq mixed [([0,1,2,3,4,5,7,8,9,10,11,12,6],[12])] [13,14,15] a7 (fun a8 aa=>jx ?_)
       refine fK aa 12 ?_
       refine cl (Te H n (gR es n (f.take i)) (gL es n f i).d us a8 (ye aa 0 rfl) o_ ((fJ es (fJ f i)).u) o_ b6) ?_
       rintro _ a9 ⟨ba,rfl,ht⟩
       have ab:=yh 0 aa ht
       refine fP ab 1 ?_
       refine jZ (kE ?_)
       refine cl (Te H n (gR es n (f.take i)) (gL es n f i).d ba a9 (ye ab 0 rfl) o_ ((fJ es (fJ f i)).v) o_ b7) ?_
       rintro _ bP ⟨J,rfl,ht⟩
       have L:=yh 0 ab ht
       refine fK L 8 ?_
       refine min2 (a:=(T:Int)) (b:=(y7:Int)) (c:=((min T y7:Nat):Int)) rfl rfl rfl FP (fK L 2 ?_)
       refine max2 (a:=(T:Int)) (b:=(y7:Int)) (c:=((max T y7:Nat):Int)) rfl rfl rfl ZT ?_
       have M:=sM L
       have bb:=jM L
       have N:=M.2 (min T y7) o_
       have O:=M.2 (max T y7) o_
       have cE:=M.1.len
       refine gF L 5 ?_
       rw[<-N]at cm ce
       rw[<-O]at cn ce
       refine ry bb 4 fun bQ P=>?_
       refine vh (cf:=i7.cells) (k:=(min T y7)) (off:=0) (off' := 1) (i:=1) rfl rfl rfl yq gq d_ rfl (iN P 0 rfl) (gz om) (fK P 4 ?_)
       refine vh (cf:=i7.cells) (k:=(max T y7)) (off:=0) (off' := 1) (i:=1) rfl rfl rfl yq gq d_ rfl (iN P 0 rfl) (gz om) (gF P 6 ?_)
       refine kq mixed [([0,1,2,3,4,5,6,7,8,9],[4])] [10,11] P (fun bR aq=>jx ?_)
       refine fK aq 9 ?_
       refine iQ (f:=(fun _=>((fJ J (min T y7)).b:Int))) 2 aq (fun bS ac=>?_)
       refine fP ac 1 ?_
       refine jZ (kE ?_)
       refine fK ac 1 ?_
       refine iQ (f:=(fun _=>((fJ J (max T y7)).b:Int))) 3 ac (fun bT au=>?_)
       refine gF au 3 ?_
       refine kq mixed [([0,1,2,3,4,5,6,7,8,9],[4])] [10,11] au (fun bU av=>jx ?_)
       refine fK av 9 ?_
       refine iQ (f:=(fun _=>((n+i:Nat):Int))) 4 av (fun bV ad=>?_)
       refine fP ad 1 ?_
       refine jZ (kE ?_)
       refine fK ad 1 ?_
       refine iQ (f:=(fun _=>((n+i:Nat):Int))) 4 ad (fun bW bc=>?_)
       refine gC bc 13 fun bX bd=>?_
       refine iQ (f:=(fun _=>(fJ es (fJ f i)).w)) 5 bd (fun bY be=>?_)
       refine gC be 17 fun bZ aw=>?_
       refine ar (e:=(((fJ ((gL es n f i).s) ((fJ J (min T y7)).b))+(fJ ((gL es n f i).s) ((fJ J (max T y7)).b)):Nat):Int)) rfl rfl rfl rfl je (fK aw 1 ?_)
       refine iQ (f:=(fun _=>((fJ ((gL es n f i).s) ((fJ J (min T y7)).b))+(fJ ((gL es n f i).s) ((fJ J (max T y7)).b))))) 6 aw (fun b0 bf=>?_)
       refine gC bf 10 fun b1 ax=>?_
       refine vh (cf:=i7.cells) (k:=(max T y7)) (off:=0) (off' := 0) (i:=0) rfl rfl rfl yq gq d_ rfl (iN ax 0 rfl) (gz om) (iQ (f:=(fun x:i7=>{ x with a:=(min T y7) })) 0 ax (fun b2 ae=>?_))
       refine fK ae 1 ?_
       refine vh (cf:=i7.cells) (k:=(min T y7)) (off:=0) (off' := 1) (i:=1) rfl rfl rfl yq gq d_ rfl (iN ae 0 rfl) (gz om) (iQ (f:=(fun x:i7=>{ x with b:=(n+i) })) 0 ae (fun b3 ay=>?_))
       refine fP ay 7 ?_
       refine tN (?_)
       have bg:=yf [1,2,3,4,5,6,0,7,8] ay
       have bh:=yx 1 bg rfl (congrArg (fL gi g 3 1) (by subst b6 b7;simp only[N,O];rfl))
       have bi:=yx 2 bh rfl (congrArg (fL gi j 3 1) (by subst b6 b7;simp only[N,O];rfl))
       have bj:=yx 3 bi rfl (congrArg (fL gi q 3 1) (by subst b6 b7;simp only[N,O];rfl))
       have bl:=yx 4 bj rfl (congrArg (fL gi t 2 1) (rfl))
       have bm:=yx 5 bl rfl (congrArg (fL fU z 3 1) (by subst b6 b7;simp only[N,O];rfl))
       exact again ((i+1),fO (fO J (max T y7) (fun x=>{ x with a:=(min T y7) })) (min T y7) (fun x=>{ x with b:=(n+i) })) ⟨rfl,rfl,rfl,rfl,rfl,rfl,rfl,rfl,rfl,gm rO,trivial⟩ (⟨bm,o_,hT.next hg b8 (fun k hk=>b5.lt hk) (b5.mG b8) M.1 M.2 (by subst b6 b7;rfl)⟩) (by show (f.length-(i+1):Nat)<f.length-i;omega)
     . refine fK bk 13 ?_
       refine jt 8 bk (fun b4 af=>?_) (h1:=(gX rfl (gX (yv bk (i:=1) rfl) (gX (yv bk (i:=2) rfl) (gX (yv bk (i:=3) rfl) (gX (yv bk (i:=4) rfl) (gX (yv bk (i:=5) rfl) jV)))))))
       refine fP af 4 ?_
       refine o7 (v:=(B5 n g j q t z)) (v' := Zc) results182 (nX (cs:=(Zs n g j q t z)) rfl underlying102 rfl zB rfl (mO af (i:=8) (o:=0) (vs:=(Zs n g j q t z)) rfl rfl)) (pN rfl) ?_
       have ca:i=f.length:=by omega
       have bn:=yx 1 af rfl (congrArg (fL gi g 3 1) (by rw[ca]<;>rfl))
       have bo:=yx 2 bn rfl (congrArg (fL gi j 3 1) (by rw[ca]<;>rfl))
       have bp:=yx 3 bo rfl (congrArg (fL gi q 3 1) (by rw[ca]<;>rfl))
       have bq:=yx 4 bp rfl (congrArg (fL gi t 2 1) (by rw[ca]<;>rfl))
       have br:=yx 5 bq rfl (congrArg (fL fU z 3 1) (by rw[ca]<;>rfl))
       have bs:=yf [1,2,3,4,5] br
       exact⟨f,g,j,q,t,z,rfl,b5,mD (yc [_,_,_,_,_] _ bs)⟩
structure nu (w:World) (es:List Ge) (n:Nat) (f:List Nat) (tl tr tp th ts:Value):Prop where
 l:gY 1 gi (fun _=>True) w tl (gd es n f).l
 r:gY 1 gi (fun _=>True) w tr (gd es n f).r
 p:gY 1 gi (fun _=>True) w tp (gd es n f).p
 h:gY 1 gi (fun _=>True) w th (gd es n f).h
 s:gY 1 fU (fun _=>True) w ts (gd es n f).s
theorem nu.to{w:World}{es:List Ge}{n:Nat}{f:List Nat}{a c b th d:Value}(h:nu w0 es n f a c b th d)(hs:St bs L w)(hb:(w0,[])∈bs):nu w es n f a c b th d :=
 ⟨yz hs hb d_ h.l,yz hs hb d_ h.r,yz hs hb d_ h.p,yz hs hb d_ h.h,yz hs hb d_ h.s⟩
theorem YI(f:List Nat)(o:iE es n f)(H:n<=4096)(q u t th y:Value)(w:World)(m:nu w es n f q u t th y)(x:Nat)(z:x<n) :
 CR ya 262 (B7 n q u t th y x) w (fun r w' => r = .bool true/\gx [] w w'):=by
 obtain⟨C,D,E,F,G⟩:=nY (es:=es) (n:=n) (f:=f)
 have B:=o.f.room o.g
 refine en func262 ntmps262 ?_
 have p:=yu w
 obtain⟨a1,a2,a3,A⟩:fJ (gd es n f).l x = -1/\fJ (gd es n f).r x = -1/\fJ (gd es n f).h x=0/\fJ (gd es n f).s x=1:=o.v.a x z
 refine fR p 2 ?_
 refine ir p (fun c d e j b=>?_)
 refine fK b 8 ?_
 refine iY (k:=x) (i:=(x:Int)) rfl rfl rfl yd gq m.l o_ o_ (gz o_) (jk rfl rfl yg rfl (yz b s_ d_ m.l) (gz o_) rfl (cmp rfl rfl rfl (r7 o_) (fK b 4 ?_)))
 refine iY (k:=x) (i:=(x:Int)) rfl rfl rfl yd gq m.r o_ o_ (gz o_) (jk rfl rfl yg rfl (yz b s_ d_ m.r) (gz o_) rfl (cmp rfl rfl rfl (r7 o_) (fK b 5 ?_)))
 refine iY (k:=x) (i:=(x:Int)) rfl rfl rfl n9 ti2 m.h o_ o_ (gz o_) (jk rfl rfl zQ rfl (yz b s_ d_ m.h) (gz o_) rfl (cmp rfl rfl rfl (r7 o_) (fK b 5 ?_)))
 refine iY (k:=x) (i:=(x:Int)) rfl rfl rfl yd gq m.s o_ o_ (gz o_) (jk rfl rfl yg rfl (yz b s_ d_ m.s) (gz o_) rfl (cmp rfl rfl rfl (r7 o_) (fP b 5 ?_)))
 refine gf (v:=Zg) results262 rfl ?_
 exact⟨rfl,b.gA s_⟩
theorem XZ(f:List Nat)(D:iE es n f)(hn:n<=4096)(K M L th N:Value)(w:World)(C:nu w es n f K M L th N)(i:Nat)(hi:i<f.length)(ev:Value)(le:List Nat)(Y:gY 1 fU (fun _=>True) w ev le)(P:le[nL es n f i]? = some (gW es n f (nL es n f i)))(Q:le[nR es n f i]? = some (gW es n f (nR es n f i))) :
 CR ya 264 #[(B5 n K M L th N),ev,(Za ((n+i:Nat):Int))] w (fun r w' => r = .bool true/\gx [] w w'):=by
 obtain⟨aa,ab,ac,ad,ae⟩:=nY (es:=es) (n:=n) (f:=f)
 have Z:=D.f.room D.g
 refine en func264 ntmps264 ?_
 have J:=yu w
 obtain⟨e1,F,G,H,I,T,U,V,W,R⟩:=D.inner hi
 obtain⟨k1,k2,k3⟩:=D.wB hi
 have s1:=(D.st hi).1
 have af:fJ (gd es n f).s (nL es n f i)<=n:=by omega
 have ag:fJ (gd es n f).s (nR es n f i)<=n:=by omega
 refine fR J 2 ?_
 refine ir J (fun o q t u j=>?_)
 refine gC j 8 fun x a=>?_
 refine iY (k:=(n+i)) (i:=((n+i:Nat):Int)) rfl rfl rfl yd gq C.l o_ o_ e1 (jk rfl rfl yg rfl (yz a s_ d_ C.l) e1 rfl (fK a 3 ?_))
 refine iY (k:=(n+i)) (i:=((n+i:Nat):Int)) rfl rfl rfl yd gq C.r o_ o_ F (jk rfl rfl yg rfl (yz a s_ d_ C.r) F rfl (fK a 8 ?_))
 refine cmp rfl rfl rfl (kG o_) (fK a 3 ?_)
 refine cmp rfl rfl rfl (oS o_) (fK a 3 ?_)
 refine cmp rfl rfl rfl (kG o_) (fK a 4 ?_)
 refine cmp rfl rfl rfl (oS o_) (fK a 4 ?_)
 refine cmp rfl rfl rfl (tv o_) (gC a 12 fun z c=>?_)
 refine iY (k:=(nL es n f i)) (i:=(((nL es n f i):Nat):Int)) rfl rfl rfl yd gq C.p o_ o_ H (jk rfl rfl yg rfl (yz c s_ d_ C.p) H rfl (fK c 1 ?_))
 refine cmp rfl rfl rfl (qa o_) (fK c 4 ?_)
 refine iY (k:=(nR es n f i)) (i:=(((nR es n f i):Nat):Int)) rfl rfl rfl yd gq C.p o_ o_ I (jk rfl rfl yg rfl (yz c s_ d_ C.p) I rfl (fK c 1 ?_))
 refine cmp rfl rfl rfl (qa o_) (fK c 10 ?_)
 refine cmp rfl rfl rfl (oS o_) (gC c 12 fun A d=>?_)
 refine iY (k:=(n+i)) (i:=((n+i:Nat):Int)) rfl rfl rfl yd gq C.s o_ o_ (gz o_) (jk rfl rfl yg rfl (yz d s_ d_ C.s) (gz o_) rfl (fK d 3 ?_))
 refine iY (k:=(nL es n f i)) (i:=(((nL es n f i):Nat):Int)) rfl rfl rfl yd gq C.s o_ o_ (gz o_) (jk rfl rfl yg rfl (yz d s_ d_ C.s) (gz o_) rfl (fK d 3 ?_))
 refine iY (k:=(nR es n f i)) (i:=(((nR es n f i):Nat):Int)) rfl rfl rfl yd gq C.s o_ o_ (gz o_) (jk rfl rfl yg rfl (yz d s_ d_ C.s) (gz o_) rfl (ar (e:=(((fJ (gd es n f).s (nL es n f i))+(fJ (gd es n f).s (nR es n f i)):Nat):Int)) rfl rfl rfl rfl je (cmp rfl rfl rfl (qa o_) ?_)))
 have O:¬ ((n+i:Nat):Int)=(n:Int)->∃ y,(gd es n f).h[n+i-1]? = some y/\y<=(fJ es (fJ f i)).w:=fun X=>⟨_,by have e:=(D.inner (show i-1<f.length by omega)).2.2.1;rwa [show n+(i-1)=n+i-1 by omega]at e,by have e:=D.f.kF (i:=i-1) o_;rwa [show i-1+1=i by omega]at e⟩
 refine gC d 10 fun B b=>?_
 by_cases m:((n+i:Nat):Int)=(n:Int)
 . refine fP b 19 ?_
   refine gf (v:=Zg) results264 rfl ?_
   exact⟨rfl,b.gA s_⟩
 . obtain⟨ah,E,S⟩:=O m
   refine fK b 5 ?_
   refine iY (k:=(n+i)) (i:=((n+i:Nat):Int)) rfl rfl rfl n9 ti2 C.h o_ o_ G (jk rfl rfl zQ rfl (yz b s_ d_ C.h) G rfl (fK b 3 ?_))
   refine ar (e:=((n+i-1:Nat):Int)) rfl rfl rfl rfl je (iY (k:=(n+i-1)) (i:=((n+i-1:Nat):Int)) rfl rfl rfl n9 ti2 C.h o_ o_ E (jk rfl rfl zQ rfl (yz b s_ d_ C.h) E rfl (cmp rfl rfl rfl (ow o_) (fP b 5 ?_))))
   refine gf (v:=Zg) results264 rfl ?_
   exact⟨rfl,b.gA s_⟩
theorem UG(f:List Nat)(h:iE es n f)(C:n<=4096)(m q o th s:Value)(w:World)(j:nu w es n f m q o th s)(y:Nat)(D:y<n+f.length)(h1:(gd es n f).p[y]? = some (-1)) :
 CR ya 266 (B7 n m q o th s y) w (fun r w' => r = .bool true/\gx [] w w'):=by
 obtain⟨u,x,z,A,B⟩:=nY (es:=es) (n:=n) (f:=f)
 have t:=h.f.room h.g
 refine en func266 ntmps266 ?_
 have l:=yu w
 refine fR l 2 ?_
 refine ir l (fun b c d e a=>?_)
 refine fK a 8 ?_
 refine iY (k:=y) (i:=(y:Int)) rfl rfl rfl yd gq j.p o_ o_ h1 (jk rfl rfl yg rfl (yz a s_ d_ j.p) h1 rfl (fK a 7 ?_))
 refine cmp rfl rfl rfl (r7 o_) (fP a 10 ?_)
 refine gf (v:=Zg) results266 rfl ?_
 exact⟨rfl,a.gA s_⟩
theorem UJ(f:List Nat)(j:iE es n f)(N:n<=4096)(q s m th t:Value)(w:World)(h:nu w es n f q s m th t)(y i:Nat)(hi:i<f.length)(h1:(gd es n f).p[y]? = some ((n+i:Nat):Int))(G:y=nL es n f i) :
 CR ya 266 (B7 n q s m th t y) w (fun r w' => r = .bool true/\gx [] w w'):=by
 obtain⟨I,J,K,L,M⟩:=nY (es:=es) (n:=n) (f:=f)
 have H:=j.f.room j.g
 have O:y<n+f.length:=by obtain⟨_,_,_,_,_,_,_,u,x,_⟩:=j.inner hi;omega
 refine en func266 ntmps266 ?_
 have o:=yu w
 obtain⟨e1,A,B,C,D,E,F,u,x,z⟩:=j.inner hi
 refine fR o 2 ?_
 refine ir o (fun b c d e a=>?_)
 refine fK a 8 ?_
 refine iY (k:=y) (i:=(y:Int)) rfl rfl rfl yd gq h.p o_ o_ h1 (jk rfl rfl yg rfl (yz a s_ d_ h.p) h1 rfl (fK a 7 ?_))
 refine cmp rfl rfl rfl (tv o_) (fK a 8 ?_)
 refine cmp rfl rfl rfl (ow o_) (fK a 4 ?_)
 refine jY (v:=m) rfl rfl yd h.p (cmp rfl rfl rfl (p8 o_) (fK a 5 ?_))
 refine iY (k:=(n+i)) (i:=((n+i:Nat):Int)) rfl rfl rfl yd gq h.l o_ o_ e1 (jk rfl rfl yg rfl (yz a s_ d_ h.l) e1 rfl (fK a 1 ?_))
 refine cmp rfl rfl rfl (r7 o_) (fP a 14 ?_)
 refine gf (v:=Zg) results266 rfl ?_
 exact⟨rfl,a.gA s_⟩
theorem UK(f:List Nat)(j:iE es n f)(N:n<=4096)(s t m th u:Value)(w:World)(h:nu w es n f s t m th u)(y i:Nat)(hi:i<f.length)(h1:(gd es n f).p[y]? = some ((n+i:Nat):Int))(G:y=nR es n f i) :
 CR ya 266 (B7 n s t m th u y) w (fun r w' => r = .bool true/\gx [] w w'):=by
 obtain⟨I,J,K,L,M⟩:=nY (es:=es) (n:=n) (f:=f)
 have H:=j.f.room j.g
 have O:y<n+f.length:=by obtain⟨_,_,_,_,_,_,_,x,z,_⟩:=j.inner hi;omega
 refine en func266 ntmps266 ?_
 have q:=yu w
 obtain⟨e1,o,B,C,D,E,F,x,z,A⟩:=j.inner hi
 refine fR q 2 ?_
 refine ir q (fun b c d e a=>?_)
 refine fK a 8 ?_
 refine iY (k:=y) (i:=(y:Int)) rfl rfl rfl yd gq h.p o_ o_ h1 (jk rfl rfl yg rfl (yz a s_ d_ h.p) h1 rfl (fK a 7 ?_))
 refine cmp rfl rfl rfl (tv o_) (fK a 8 ?_)
 refine cmp rfl rfl rfl (ow o_) (fK a 4 ?_)
 refine jY (v:=m) rfl rfl yd h.p (cmp rfl rfl rfl (p8 o_) (fK a 5 ?_))
 refine iY (k:=(n+i)) (i:=((n+i:Nat):Int)) rfl rfl rfl yd gq h.l o_ o_ e1 (jk rfl rfl yg rfl (yz a s_ d_ h.l) e1 rfl (fK a 1 ?_))
 refine cmp rfl rfl rfl (tv o_) (fK a 4 ?_)
 refine iY (k:=(n+i)) (i:=((n+i:Nat):Int)) rfl rfl rfl yd gq h.r o_ o_ o (jk rfl rfl yg rfl (yz a s_ d_ h.r) o rfl (fK a 1 ?_))
 refine cmp rfl rfl rfl (r7 o_) (fP a 6 ?_)
 refine gf (v:=Zg) results266 rfl ?_
 exact⟨rfl,a.gA s_⟩
theorem UL(f:List Nat)(g:iE es n f)(k:n<=4096)(a c b th d:Value)(w:World)(j:nu w es n f a c b th d)(y:Nat)(m:y<n+f.length) :
 CR ya 266 (B7 n a c b th d y) w (fun r w' => r = .bool true/\gx [] w w'):=by
 rcases g.par m with e|⟨i,e,l,h|h⟩
 . exact UG es n f g k a c b th d w j y m e
 . exact UJ es n f g k a c b th d w j y i e l h
 . exact UK es n f g k a c b th d w j y i e l h
theorem XY(f:List Nat)(e:iE es n f)(o:n<=4096)(a c b th d:Value)(w:World)(l:nu w es n f a c b th d)(x:Nat)(p:n<=x)(q:x<n+f.length)(ev:Value)(le:List Nat)(m:gY 1 fU (fun _=>True) w ev le)(g:∀ k,k<x->le[k]? = some (gW es n f k)) :
 CR ya 264 #[(B5 n a c b th d),ev,(Za x)] w (fun r w' => r = .bool true/\gx [] w w'):=by
 obtain⟨i,rfl⟩:∃ i,x=n+i:=⟨x-n,o_⟩
 obtain⟨_,_,_,_,_,_,_,h,j,_⟩:=e.inner (show i<f.length by omega)
 exact XZ es n f e o a c b th d w l i o_ ev le m (g _ h) (g _ j)
theorem V2(f:List Nat)(k:iE es n f)(m:n<=4096)(g i h th j:Value)(w:World)(l:nu w es n f g i h th j)(tb:Nat)(hb:(blk tb 102 (Zs n g i h th j)).holds w)(x:Nat)(o:x<n+f.length) :
 CR ya 261 (xD x tb) w (fun r w' => r = .bool true/\gx [] w w'):=by
 refine en func261 ntmps261 ?_
 have e:=yu w
 refine fR e 10 ?_
 by_cases c:(x:Int)≥(n:Int)
 . refine fP e 10 ?_
   refine gf (v:=Zg) results261 rfl ?_
   exact⟨rfl,e.gA s_⟩
 . refine fK e 4 ?_
   refine cl (YI es n f k m g i h th j w l x o_) ?_
   rintro _ d ⟨rfl,b⟩
   have a:=yr e b
   refine fP a 5 ?_
   refine gf (v:=Zg) results261 rfl ?_
   exact⟨rfl,a.gA s_⟩
theorem V3(f:List Nat)(l:iE es n f)(q:n<=4096)(g i h th j:Value)(w:World)(m:nu w es n f g i h th j)(tb:Nat)(hb:(blk tb 102 (Zs n g i h th j)).holds w)(lb:Nat)(ev:Value)(le:List Nat)(t:(blk lb 37 [ev]).holds w)(o:gY 1 fU (fun _=>True) w ev le)(x:Nat)(s:x<n+f.length)(p:∀ k,k<x->le[k]? = some (gW es n f k)) :
 CR ya 263 #[(Za x),(Zb tb),(Zb lb)] w (fun r w' => r = .bool true/\gx [] w w'):=by
 refine en func263 ntmps263 ?_
 have e:=yu w
 refine fR e 10 ?_
 by_cases c:(x:Int)<(n:Int)
 . refine fP e 11 ?_
   refine gf (v:=Zg) results263 rfl ?_
   exact⟨rfl,e.gA s_⟩
 . refine fK e 5 ?_
   refine cl (XY es n f l q g i h th j w m x o_ s ev le o p) ?_
   rintro _ d ⟨rfl,b⟩
   have a:=yr e b
   refine fP a 5 ?_
   refine gf (v:=Zg) results263 rfl ?_
   exact⟨rfl,a.gA s_⟩
theorem V4(f:List Nat)(j:iE es n f)(l:n<=4096)(d g e th h:Value)(w:World)(k:nu w es n f d g e th h)(tb:Nat)(hb:(blk tb 102 (Zs n d g e th h)).holds w)(x:Nat)(m:x<n+f.length) :
 CR ya 265 (xD x tb) w (fun r w' => r = .bool true/\gx [] w w'):=by
 refine en func265 ntmps265 ?_
 have i:=yu w
 refine fR i 9 ?_
 refine cl (UL es n f j l d g e th h w k x m) ?_
 rintro _ c ⟨rfl,b⟩
 have a:=yr i b
 refine fP a 4 ?_
 refine gf (v:=Zg) results265 rfl ?_
 exact⟨rfl,a.gA s_⟩
theorem XK(f:List Nat)(u:iE es n f)(z:n<=4096)(p s q th t:Value)(w:World)(y:nu w es n f p s q th t)(tb:Nat)(hb:(blk tb 102 (Zs n p s q th t)).holds w)(lb:Nat)(ev:Value)(le:List Nat)(C:(blk lb 37 [ev]).holds w)(B:gY 1 fU (fun _=>True) w ev le)(cb:Nat)(cv:Value)(E:(blk cb 381 [cv]).holds w)(m:gY 1 OG (fun _=>True) w cv (Ci tb lb))(x:Nat)(A:x<n+f.length)(D:∀ k,k<x->le[k]? = some (gW es n f k)) :
 CR ya 267 (xD x cb) w (fun r w' => r = .bool true/\gx [] w w'):=by
 refine en func267 ntmps267 ?_
 have o:=yu w
 refine fR o 9 ?_
 refine jY (v:=cv) rfl rfl BB m (gF o 4 ?_)
 refine qq 4 (iB (fR o 2 ?_))
 refine cmp rfl rfl rfl (p8 s_) (fK o 10 ?_)
 refine iY (k:=0) (i:=0) rfl rfl rfl BB Dv m o_ o_ rfl (jk rfl rfl underlying227 rfl m rfl rfl (fK o 7 ?_))
 refine mW (fi:=[]) (ca:=(Zf tb)) rfl rfl rfl eN (V2 es n f u z p s q th t w y tb hb x A) ?_
 rintro _ d ⟨rfl,e⟩
 have a:=yr o e
 refine fP a 11 ?_
 refine tN (?_)
 refine iB (fR a 2 ?_)
 refine cmp rfl rfl rfl (p8 s_) (fK a 10 ?_)
 refine iY (k:=1) (i:=1) rfl rfl rfl BB Dv m o_ o_ rfl (jk rfl rfl underlying227 rfl (yz a s_ d_ m) rfl rfl (fK a 7 ?_))
 refine mW (fi:=[]) (ca:=(sY tb lb)) rfl rfl rfl eN (V3 es n f u z p s q th t d (y.to a s_) tb (St.x8 a s_ hb) lb ev le (St.x8 a s_ C) (yz a s_ d_ B) x A D) ?_
 rintro _ g ⟨rfl,h⟩
 have b:=yr a h
 refine fP b 11 ?_
 refine tN (?_)
 refine iB (fR b 2 ?_)
 refine cmp rfl rfl rfl (p8 s_) (fK b 10 ?_)
 refine iY (k:=2) (i:=2) rfl rfl rfl BB Dv m o_ o_ rfl (jk rfl rfl underlying227 rfl (yz b s_ d_ m) rfl rfl (fK b 7 ?_))
 refine mW (fi:=[]) (ca:=(Zf tb)) rfl rfl rfl eN (V4 es n f u z p s q th t g (y.to b s_) tb (St.x8 b s_ hb) x A) ?_
 rintro _ l ⟨rfl,j⟩
 have c:=yr b j
 refine fP c 11 ?_
 refine tN (?_)
 refine iB (fR c 2 ?_)
 refine cmp rfl rfl rfl (kG s_) (fP c 15 ?_)
 refine gf (v:=Zg) results267 rfl ?_
 exact⟨rfl,c.gA s_⟩
theorem PI(f:List Nat)(hF:iE es n f)(hn:n<=4096)(tl tr tp th ts:Value)(w:World)(F:nu w es n f tl tr tp th ts) :
 CR ya 195 (Eu n tl tr tp th ts) w (fun r w' => ∃ (v:Value),r = .tuple #[v,.bool true]/\fV (gh []) w w' (Z6 v ((List.range (n+f.length)).map (gW es n f)))):=by
 obtain⟨az,aA,aw,aB,aC⟩:=nY (es:=es) (n:=n) (f:=f)
 have ax:=hF.f.room hF.g
 refine en func195 ntmps195 ?_
 have au:=yu w
 refine fR au 2 ?_
 refine ir au (fun b S U V a=>?_)
 refine fK a 8 ?_
 refine jY (v:=tp) rfl rfl yd F.p (fK a 8 ?_)
 refine cmp rfl rfl rfl (kG o_) (fK a 3 ?_)
 refine cmp rfl rfl rfl (nN o_) (fK a 5 ?_)
 refine cmp rfl rfl rfl (kG o_) (fK a 6 ?_)
 refine cmp rfl rfl rfl (nN o_) (fK a 11 ?_)
 refine jY (v:=tl) rfl rfl yd F.l (fK a 1 ?_)
 refine cmp rfl rfl rfl (qa o_) (fK a 3 ?_)
 refine jY (v:=tr) rfl rfl yd F.r (fK a 1 ?_)
 refine cmp rfl rfl rfl (qa o_) (fK a 4 ?_)
 refine jY (v:=th) rfl rfl n9 F.h (fK a 1 ?_)
 refine cmp rfl rfl rfl (qa o_) (fK a 4 ?_)
 refine jY (v:=ts) rfl rfl yd F.s (fK a 1 ?_)
 refine cmp rfl rfl rfl (qa o_) (fK a 9 ?_)
 refine lN (cf:=fU) (z0:=0) (m:=((gd es n f).p.length)) (c:=((gd es n f).p.length)) rfl rfl rfl yd gq rfl f_ d_ (zm _) o_ o_ a ?_
 intro A G W X H
 have B:St _ [fL fU (.slice (some ⟨A,0,none⟩) ((gd es n f).p.length) ((gd es n f).p.length)) 3 1 (List.replicate ((gd es n f).p.length) 0),blk b 102 [(.int .i64 n),tl,tr,tp,th,ts]] G:=lZ (cf:=fU) H (i:=0) rfl f_ (zm _) (by simp only[maxLen];omega)
 generalize (Value.slice (some ⟨A,0,none⟩) ((gd es n f).p.length) ((gd es n f).p.length))=d at B ⊢
 refine iR B (fun e Y Z aa u=>?_)
 refine jt 0 u (fun ab C=>?_) (hvs:=(cells_one (yv u (i:=1) rfl))) (h1:=(gX (yv u (i:=1) rfl) jV))
 refine fK C 4 ?_
 refine mX (vf:=[]) (vc:=(Zf b)) rfl rfl rfl (mX (vf:=[]) (vc:=(sY b e)) rfl rfl rfl (mX (vf:=[]) (vc:=(Zf b)) rfl rfl rfl (jW (vs:=(Ci b e)) (cs:=(Ci b e)) rfl rfl BB Dv rfl (by simp[Value.cells]) rfl rfl rfl C (fun x ac ad ae I=>iR I (fun q af ag ah J=>?_)))))
 refine gC J 5 fun ai D=>?_
 refine mX (vf:=[]) (vc:=(Zf q)) rfl rfl rfl ?_
 have K:=yf [3,4,2,0,1] D
 have L:=yx 0 K rfl (congrArg (fL fU d 3 1) (YH (es:=es) (n:=n) (f:=f)))
 refine gF D 11 ?_
 refine lp (α:=Nat) (fun k=>[(1,(Zb b)),(2,Zi),(3,Zn),(5,(Zb e)),(6,(Zb q)),(7,(.func (.func 267) #[] (Zh q))),(66,(Za (((gd es n f).p).length:Int))),(67,(Za k))]) (fun k w1=>St [(w,[])] [fL fU d 3 1 (nS es n f (gd es n f).p.length k),blk b 102 (Zs n tl tr tp th ts),blk e 37 [d],blk q 381 [(Ik x)],row (Ik x) 227 1 3 ((Ci b e))] w1/\k<=(gd es n f).p.length) (fun k=>(gd es n f).p.length-k) 0 ⟨rfl,rfl,rfl,rfl,rfl,rfl,rfl,gm rO,trivial⟩ (⟨L,o_⟩) ?_
 rintro k aj ak ⟨aq,hk⟩
 have aD:=YF (es:=es) (n:=n) (f:=f) hk
 refine fR aq 2 ?_
 by_cases al:(k:Int)<(((gd es n f).p).length:Int)
 . have ay:k<(gd es n f).p.length:=by omega
   refine fK aq 21 ?_
   refine iQ (f:=(fun _=>k)) 0 aq (fun M o=>?_)
   refine fK o 7 ?_
   refine mW (fi:=[]) (ca:=(Zf q)) rfl rfl rfl eN (XK es n f hF hn tl tr tp th ts M (F.to o s_) b (St.at o (i:=1) rfl) e d (fO (nS es n f (gd es n f).p.length k) k (fun _=>k)) (St.at o (i:=2) rfl) (iN o 0 rfl).any q (Ik x) (St.at o (i:=3) rfl) (Sl.any (qt (cf:=OG) (xs:=(Ci b e)) o (i:=4) rfl f_)) k o_ (fun j hj=>PD hk hj)) ?_
   rintro _ am ⟨rfl,N⟩
   have t:=yr o N
   refine fK t 11 ?_
   by_cases an:(k:Int)≥(n:Int)
   . obtain⟨T,ar⟩:∃ T,k=n+T:=⟨k-n,o_⟩
     obtain⟨e1,_,_,_,_,_,_,e8,_,_⟩:=hF.inner (show T<f.length by omega)
     obtain⟨q1,q2,q3⟩:=hF.wB (show T<f.length by omega)
     refine gC t 11 fun ao y=>?_
     refine iY (k:=k) (i:=(k:Int)) rfl rfl rfl yd gq F.l o_ o_ (by rw[ar];exact e1) (jk rfl rfl yg rfl (yz y s_ d_ F.l) (by rw[ar];exact e1) rfl (fK y 3 ?_))
     refine iQ (f:=(fun _=>(fJ (fO (nS es n f (gd es n f).p.length k) k (fun _=>k)) (nL es n f T)))) 0 y (fun ap E=>?_)
     refine fP E 7 ?_
     refine tN (?_)
     have O:=yx 0 E rfl (congrArg (fL fU d 3 1) (YG o_ (by rw[iS (PD hk (show nL es n f T<k by omega)),ar,q3];exact q1)))
     exact again (k+1) ⟨rfl,rfl,rfl,rfl,rfl,rfl,rfl,gm rO,trivial⟩ (⟨O,o_⟩) (by show ((gd es n f).p.length-(k+1):Nat)<(gd es n f).p.length-k;omega)
   . refine fP t 11 ?_
     refine tN (?_)
     have P:=yx 0 t rfl (congrArg (fL fU d 3 1) (PE o_ (by unfold gW;rw[if_pos o_])))
     exact again (k+1) ⟨rfl,rfl,rfl,rfl,rfl,rfl,rfl,gm rO,trivial⟩ (⟨P,o_⟩) (by show ((gd es n f).p.length-(k+1):Nat)<(gd es n f).p.length-k;omega)
 . refine fP aq 18 ?_
   refine gZ (v:=d) (v' := Zg) results195 rfl rfl ?_
   have Q:=yf [0] aq
   have av:k=n+f.length:=by omega
   have R:=yx 0 Q rfl (congrArg (fL fU d 3 1) ((congrArg (fun z=>nS es n f z k) aw).trans ((congrArg (nS es n f (n+f.length)) av).trans YE)))
   exact⟨d,rfl,mD R⟩
theorem ab0(f:List Nat)(q:iE es n f)(t:n<=4096)(k m l th o:Value)(w:World)(s:nu w es n f k m l th o) :
 CR ya 122 (Eu n k m l th o) w (fun r w' => r = .int .i64 0/\gx [] w w'):=by
 refine en func122 ntmps122 ?_
 have p:=yu w
 refine fR p 2 ?_
 refine ir p (fun e c g h a=>?_)
 refine fK a 7 ?_
 refine cl (PI es n f q t k m l th o c (s.to a s_)) ?_
 rintro _ i ⟨j,rfl,ht⟩
 have b:=(jm a ht)
 refine fP b 22 ?_
 refine gf (v:=Zc) results122 rfl ?_
 have d:=yf [] b
 exact⟨rfl,d.gA s_⟩
theorem Rr(f:List Nat)(p:iE es n f)(s:n<=4096)(j l k th m:Value)(w:World)(q:nu w es n f j l k th m) :
 CR ya 123 (Eu n j l k th m) w (fun r w' => ∃ (v:Value),v=r/\fV (gh []) w w' (Z6 v ((List.range (n+f.length)).map (gW es n f)))):=by
 refine en func123 ntmps123 ?_
 have o:=yu w
 refine fR o 2 ?_
 refine ir o (fun e d g h a=>?_)
 refine fK a 6 ?_
 refine cl (PI es n f p s j l k th m d (q.to a s_)) ?_
 rintro _ i ⟨b,rfl,ht⟩
 have c:=(jm a ht)
 refine fP c 24 ?_
 refine gf (v:=b) results123 rfl ?_
 exact⟨b,rfl,mD c⟩
theorem Wr(f:List Nat)(hF:iE es n f)(hn:n<=4096)(T Z F th ts:Value)(w:World)(hR:nu w es n f T Z F th ts) :
 CR ya 70 (Eu n T Z F th ts) w (fun r w' => ∃ (v:Value),r = .tuple (uX v)/\fV (gh []) w w' (fL Mg.cells v 158 5 (oB es n f f.length))):=by
 obtain⟨ag,ah,ai,aj,ak⟩:=nY (es:=es) (n:=n) (f:=f)
 have af:=hF.f.room hF.g
 refine enter (vs:=(El n T Z F th ts)) func70 rfl ntmps70 rfl ?_
 have ac:=yu w
 refine fR ac 2 ?_
 refine ir ac (fun d H P Q t=>?_)
 refine fK t 8 ?_
 refine jw (vl:=(El n T Z F th ts)) rfl rfl eN (ab0 es n f hF hn T Z F th ts H (hR.to t s_)) ?_
 rintro _ C ⟨rfl,I⟩
 have y:St _ [blk d 102 (Zs n T Z F th ts)] C:=yr t I
 refine fK y 15 ?_
 refine jw (vl:=(El n T Z F th ts)) rfl rfl eN (Rr es n f hF hn T Z F th ts C (hR.to y s_)) ?_
 rintro _ D ⟨j,rfl,ht⟩
 have E:St _ [fL fU j 3 1 ((List.range (n+f.length)).map (gW es n f)),blk d 102 (Zs n T Z F th ts)] D:=(jm (R:=fL fU j 3 1 ((List.range (n+f.length)).map (gW es n f))) y ht)
 have J:St _ [fL Mg.cells Zi 158 5 (oB es n f 0),fL fU j 3 1 ((List.range (n+f.length)).map (gW es n f)),blk d 102 (Zs n T Z F th ts)] D:=qJ E 158 5
 refine gF E 17 ?_
 refine lp (α:=Nat×Value) (fun(i,mv)=>[(1,(Zb d)),(2,Zi),(3,Zc),(5,j),(6,mv),(7,(Za ((n+i:Nat):Int)))]) (fun(i,mv) w1=>St [(w,[])] [fL Mg.cells mv 158 5 (oB es n f i),fL fU j 3 1 ((List.range (n+f.length)).map (gW es n f)),blk d 102 (Zs n T Z F th ts)] w1/\i<=f.length) (fun(i,mv)=>f.length-i) (0,Zi) ⟨rfl,rfl,rfl,rfl,rfl,gm (by first|rfl|omega),trivial⟩ (⟨J,o_⟩) ?_
 rintro⟨i,mv⟩ S K ⟨aa,hi⟩
 have am:=P8 (es:=es) (n:=n) (f:=f) (k:=i)
 refine fR aa 6 ?_
 refine jY (v:=F) rfl rfl yd hR.p ?_
 by_cases U:((n+i:Nat):Int)<(((gd es n f).p).length:Int)
 . have ab:i<f.length:=by omega
   obtain⟨e1,e2,e3,e4,e5,e6,e7,e8,e9,ae⟩:=hF.inner ab
   obtain⟨q1,q2,q3⟩:=hF.wB ab
   have al:((List.range (n+f.length)).map (gW es n f)).length=n+f.length:=by simp
   refine gC aa 14 fun V m=>?_
   refine iY (k:=(n+i)) (i:=((n+i:Nat):Int)) rfl rfl rfl yd gq hR.l o_ o_ e1 (jk (u:=(Za (((nL es n f i):Nat):Int))) rfl rfl yg rfl (yz m s_ d_ hR.l) e1 rfl (fK m 6 ?_))
   refine iY (k:=(n+i)) (i:=((n+i:Nat):Int)) rfl rfl rfl yd gq hR.r o_ o_ e2 (jk (u:=(Za (((nR es n f i):Nat):Int))) rfl rfl yg rfl (yz m s_ d_ hR.r) e2 rfl (fK m 5 ?_))
   refine iY (k:=(n+i)) (i:=((n+i:Nat):Int)) rfl rfl rfl n9 ti2 hR.h o_ o_ e3 (jk (u:=(Za ((fJ es (fJ f i)).w))) rfl rfl zQ rfl (yz m s_ d_ hR.h) e3 rfl (iU (pvs:=[(0,(Za ((fJ es (fJ f i)).w))),(1,pZ)]) (v:=.agg #[(Za ((fJ es (fJ f i)).w)),pZ]) rfl rfl (jj [(0,(Ze ((fJ es (fJ f i)).w))),(1,xL)] Ln abn rfl ⟨rfl,rfl,rfl,rfl,trivial⟩ rfl) (fK m 3 ?_)))
   refine iY (k:=(n+i)) (i:=((n+i:Nat):Int)) rfl rfl rfl yd gq hR.s o_ o_ (gz o_) (jk (u:=(Za (((fJ (gd es n f).s (n+i)):Nat):Int))) rfl rfl yg rfl (yz m s_ d_ hR.s) (gz o_) rfl (iU (pvs:=[(0,(Za (((fJ ((List.range (n+f.length)).map (gW es n f)) (nL es n f i)):Nat):Int))),(1,(Za (((fJ ((List.range (n+f.length)).map (gW es n f)) (nR es n f i)):Nat):Int))),(2,(.agg #[(Za ((fJ es (fJ f i)).w)),pZ])),(3,(Za (((fJ (gd es n f).s (n+i)):Nat):Int)))]) (v:=.agg (My (((fJ ((List.range (n+f.length)).map (gW es n f)) (nL es n f i)):Nat):Int) (((fJ ((List.range (n+f.length)).map (gW es n f)) (nR es n f i)):Nat):Int) ((fJ es (fJ f i)).w) (((fJ (gd es n f).s (n+i)):Nat):Int))) rfl rfl (jj [(0,(Ze (((fJ ((List.range (n+f.length)).map (gW es n f)) (nL es n f i)):Nat):Int))),(1,(Ze (((fJ ((List.range (n+f.length)).map (gW es n f)) (nR es n f i)):Nat):Int))),(2,[(Za ((fJ es (fJ f i)).w)),pZ]),(3,(Ze (((fJ (gd es n f).s (n+i)):Nat):Int)))] GG abo rfl ⟨rfl,rfl,rfl,rfl,rfl,rfl,rfl,rfl,trivial⟩ rfl) (jW (vs:=[(.agg (My (((fJ ((List.range (n+f.length)).map (gW es n f)) (nL es n f i)):Nat):Int) (((fJ ((List.range (n+f.length)).map (gW es n f)) (nR es n f i)):Nat):Int) ((fJ es (fJ f i)).w) (((fJ (gd es n f).s (n+i)):Nat):Int)))]) (cs:=(Cp (((fJ ((List.range (n+f.length)).map (gW es n f)) (nL es n f i)):Nat):Int) (((fJ ((List.range (n+f.length)).map (gW es n f)) (nR es n f i)):Nat):Int) ((fJ es (fJ f i)).w) (((fJ (gd es n f).s (n+i)):Nat):Int))) rfl rfl Hg GG rfl (by simp[Value.cells]) rfl rfl rfl m ?_)))
   intro z L W X q
   have q:St _ (H6 (row (.slice (some ⟨z,0,none⟩) 1 1) 158 5 1 ([(.int .i64 (((fJ ((List.range (n+f.length)).map (gW es n f)) (nL es n f i)):Nat):Int)),(.int .i64 (((fJ ((List.range (n+f.length)).map (gW es n f)) (nR es n f i)):Nat):Int)),(.int .i64 ((fJ es (fJ f i)).w)),(.int .i64 1),(.int .i64 (((fJ (gd es n f).s (n+i)):Nat):Int))])) mv (oB es n f i) j ((List.range (n+f.length)).map (gW es n f)) d n T Z F th ts) L:=q
   refine lR (cf:=Mg.cells) (ys:=(oB es n f i)) (zs:=[(⟨(fJ ((List.range (n+f.length)).map (gW es n f)) (nL es n f i)),(fJ ((List.range (n+f.length)).map (gW es n f)) (nR es n f i)),(fJ es (fJ f i)).w,(fJ (gd es n f).s (n+i))⟩:Mg)]) (LL:=fun o=>(H6 (row (.slice (some ⟨z,0,none⟩) 1 1) 158 5 1 ([(.int .i64 (((fJ ((List.range (n+f.length)).map (gW es n f)) (nL es n f i)):Nat):Int)),(.int .i64 (((fJ ((List.range (n+f.length)).map (gW es n f)) (nR es n f i)):Nat):Int)),(.int .i64 ((fJ es (fJ f i)).w)),(.int .i64 1),(.int .i64 (((fJ (gd es n f).s (n+i)):Nat):Int))])) o ((oB es n f i)++[(⟨(fJ ((List.range (n+f.length)).map (gW es n f)) (nL es n f i)),(fJ ((List.range (n+f.length)).map (gW es n f)) (nR es n f i)),(fJ es (fJ f i)).w,(fJ (gd es n f).s (n+i))⟩:Mg)]) j ((List.range (n+f.length)).map (gW es n f)) d n T Z F th ts)) 1 rfl rfl rfl Hg GG rfl d_ q rfl (lF q (i:=0) rfl) (fun x hx=>z6.1 (show List.all _ _=true from rfl) x hx) (by simp only[zh,zk];omega) (by simp only[zh,zk];omega) f_ ?_
   intro o G A Y
   have A:St _ (H6 (row (.slice (some ⟨z,0,none⟩) 1 1) 158 5 1 ([(.int .i64 (((fJ ((List.range (n+f.length)).map (gW es n f)) (nL es n f i)):Nat):Int)),(.int .i64 (((fJ ((List.range (n+f.length)).map (gW es n f)) (nR es n f i)):Nat):Int)),(.int .i64 ((fJ es (fJ f i)).w)),(.int .i64 1),(.int .i64 (((fJ (gd es n f).s (n+i)):Nat):Int))])) o ((oB es n f i)++[(⟨(fJ ((List.range (n+f.length)).map (gW es n f)) (nL es n f i)),(fJ ((List.range (n+f.length)).map (gW es n f)) (nR es n f i)),(fJ es (fJ f i)).w,(fJ (gd es n f).s (n+i))⟩:Mg)]) j ((List.range (n+f.length)).map (gW es n f)) d n T Z F th ts) G:=A
   have B:=yf [1,2,3] A
   refine fK B 6 ?_
   refine ar (a:=((n+i:Nat):Int)) (b:=1) (c:=((n+i:Nat):Int)+1) (e:=((n+(i+1):Nat):Int)) rfl rfl rfl rfl (by rw[kP o_];omega) (fP B 2 ?_)
   refine tN (?_)
   have M:St _ [fL Mg.cells o 158 5 (oB es n f (i+1)),fL fU j 3 1 ((List.range (n+f.length)).map (gW es n f)),blk d 102 (Zs n T Z F th ts)] G:=yx 0 B rfl (congrArg (fL Mg.cells o 158 5) (show _=(oB es n f (i+1)) by rw[iS (PF (show nL es n f i<n+f.length by omega)),iS (PF (show nR es n f i<n+f.length by omega)),q1,q2,aac];rfl))
   exact again ((i+1),o) ⟨rfl,rfl,rfl,rfl,rfl,gm (by first|rfl|omega),trivial⟩ (⟨M,o_⟩) (by show (f.length-(i+1):Nat)<f.length-i;omega)
 . refine fP aa 17 ?_
   refine gZ (v:=mv) (v' := Zc) results70 rfl rfl ?_
   have N:=yf [0] aa
   have ad:i=f.length:=by omega
   have O:St _ [fL Mg.cells mv 158 5 (oB es n f f.length)] K:=yx 0 N rfl (congrArg (fL Mg.cells mv 158 5) (show _=(oB es n f f.length) by rw[ad]))
   exact⟨mv,rfl,mD O⟩
theorem Yp{k:Nat}(a:∀ i,i<ps.length->(fJ l i).2=jL ps k i)(b:fJ ps k<0):∀ i,i<ps.length->(fJ l i).2=jL ps (k+1) i :=
 fun i hi=>by rw[Yo b];exact a i hi
theorem Yr{k p:Nat}{v:Value}(c:l.length=ps.length)(a:∀ i,i<ps.length->(fJ l i).2=jL ps k i)(hp:p<ps.length)(b:fJ ps k=(p:Int)) :
 ∀ i,i<ps.length->(fJ (fO l p (fun _=>(v,(fJ l p).2++[k]))) i).2=jL ps (k+1) i:=fun i hi=>by
 rw[jG o_,Pn]
 split
 . rename_i h;subst h;rw[if_pos b];show (fJ l p).2++[k]=_;rw[a p hp]
 . rename_i h;rw[if_neg o_];exact a i hi
theorem Yq{n:Nat}:∀ i,i<ps.length->(fJ (List.replicate n ((.slice none 0 0,[]):Value×List Nat)) i).2=jL ps 0 i:=fun i hi=>by
 have h:jL ps 0 i=[]:=by simp[jL]
 rw[h,fJ,uH]
 split<;>rfl
theorem Wo(ps:List Int)(w:World)(hv:gY 1 gi (fun _=>True) w v ps)(hP:ko ps)(hn:ps.length<=8192) :
 CR ya 317 #[v] w (fun r w' => ∃ (dv:Value),r = .tuple #[dv,.bool true]/\fV (gh []) w w' (Z6 dv ((List.range ps.length).map (gj ps)))):=by
 refine en func317 ntmps317 ?_
 have aZ:=yu w
 refine fR aZ 9 ?_
 refine jY (v:=v) rfl rfl yd hv (fK aZ 6 ?_)
 refine lN (cf:=lB) (z0:=((.slice none 0 0,[]):Value×List Nat)) (m:=ps.length) (c:=ps.length) rfl rfl rfl underlying291 kz rfl f_ d_ (zm _) o_ o_ aZ ?_
 intro y K aj ak L
 have o:St _ [fL lB (.slice (some ⟨y,0,none⟩) ps.length ps.length) 37 1 (List.replicate ps.length ((.slice none 0 0,[]):Value×List Nat))] K:=lZ (cf:=lB) L (i:=0) rfl f_ (zm _) (by simp only[maxLen];omega)
 generalize (Value.slice (some ⟨y,0,none⟩) ps.length ps.length)=b at o ⊢
 refine fK o 6 ?_
 refine lN (cf:=fU) (z0:=0) (m:=ps.length) (c:=ps.length) rfl rfl rfl yd gq rfl f_ d_ (zm _) o_ o_ o ?_
 intro z q al am M
 have d:St _ [fL fU (.slice (some ⟨z,0,none⟩) ps.length ps.length) 3 1 (List.replicate ps.length 0),fL lB b 37 1 (List.replicate ps.length ((.slice none 0 0,[]):Value×List Nat))] q:=lZ (cf:=fU) M (i:=0) rfl f_ (zm _) (by simp only[maxLen];omega)
 generalize (Value.slice (some ⟨z,0,none⟩) ps.length ps.length)=a at d ⊢
 refine fK d 12 ?_
 refine jY (v:=v) rfl rfl yd hv ?_
 have N:St _ [fL fU Zi 3 1 (oF ps 0),fL fU a 3 1 (List.replicate ps.length 0),fL lB b 37 1 (List.replicate ps.length ((.slice none 0 0,[]):Value×List Nat))] q:=qJ d 3 1
 have O:St _ [(x9 3 (List.replicate ps.length ((.slice none 0 0,[]):Value×List Nat))),fL fU Zi 3 1 (oF ps 0),fL fU a 3 1 (List.replicate ps.length 0),fL lB b 37 1 (List.replicate ps.length ((.slice none 0 0,[]):Value×List Nat))] q:=St.Po ps.length N
 have P:=yf [3,0,2,1] O
 refine gF d 4 ?_
 refine lp (α:=Nat×List (Value×List Nat)×Value) (fun(k,l,rv)=>[(4,(Za ps.length)),(5,b),(6,a),(7,rv),(20,v),(21,(Za ps.length)),(22,(Za k))]) (fun(k,l,rv) w1=>St [(w,[])] [fL lB b 37 1 l,(x9 3 l),fL fU a 3 1 (List.replicate ps.length 0),fL fU rv 3 1 (oF ps k)] w1/\l.length=ps.length/\(∀ i,i<ps.length->(fJ l i).2=jL ps k i)/\k<=ps.length) (fun(k,l,rv)=>ps.length-k) (0,(List.replicate ps.length (.slice none 0 0,[])),Zi) ⟨rfl,rfl,rfl,rfl,rfl,rfl,gm rO,trivial⟩ (⟨P,s_,Yq,o_⟩) ?_
 rintro⟨k,l,rv⟩ an ao ⟨aS,aY,hl,hk⟩
 have bk:=acz (ps:=ps) (k:=k)
 refine fR aS 2 ?_
 by_cases ap:(k:Int)<(ps.length:Int)
 . obtain⟨s,A⟩:=oW (show k<ps.length by omega)
   refine fK aS 21 ?_
   by_cases aq:(s:Int)<0
   . have a4:=iS A
     refine fK aS 7 ?_
     refine jW (vs:=(Ze k)) (cs:=(Ze k)) rfl rfl yd gq rfl (by simp[Value.cells]) rfl rfl rfl aS (fun Q au av aw B=>lR (cf:=fU) (ys:=(oF ps k)) (zs:=[k]) (LL:=fun g=>[iz .i64 (Z4 Q) 3 ([(k:Int)]),fL lB b 37 1 l,(x9 3 l),fL fU a 3 1 (List.replicate ps.length 0),fL fU g 3 1 ((oF ps k)++[k])]) 4 rfl rfl rfl yd gq rfl d_ B rfl (lF B (i:=0) rfl) (fun x hx=>z6.1 (show List.all _ _=true from rfl) x hx) (by simp only[zh,zk];omega) (by simp only[zh,zk];omega) f_ ?_)
     intro g ax R ay
     have C:=yf [1,2,3,4] R
     refine fP C 8 ?_
     refine tN (?_)
     have S:=yx 3 C rfl (congrArg (fL fU g 3 1) ((acD o_).symm))
     exact again ((k+1),l,g) ⟨rfl,rfl,rfl,rfl,rfl,rfl,gm rO,trivial⟩ (⟨S,aY,Yp hl o_,o_⟩) (by show (ps.length-(k+1):Nat)<ps.length-k;omega)
   . obtain⟨p,ba⟩:∃ p:Nat,s=(p:Int):=⟨s.toNat,o_⟩
     refine fK aS 1 ?_
     subst ba
     have a4:=iS A
     have a3:p<ps.length:=by have:=hP.up k o_;omega
     have a1:=Pk (ps:=ps) (k:=k) (i:=p)
     rw[<-hl p a3]at a1
     have U:=yf [1,0,2,3] aS
     have D:=St.CJ p U o_
     refine fK D 11 ?_
     refine jW (vs:=(Ze k)) (cs:=(Ze k)) rfl rfl yd gq rfl (by simp[Value.cells]) rfl rfl rfl D (fun V az aA aB E=>lR (cf:=fU) (ys:=(fJ l p).2) (zs:=[k]) (LL:=fun h=>(MZ V ([(k:Int)]) h (((fJ l p).2)++[k]) (x9 3 (l.eraseIdx p)) (fL lB b 37 1 l) a (List.replicate ps.length 0) rv (oF ps k))) 1 rfl rfl rfl yd gq rfl d_ E rfl (lF E (i:=0) rfl) (fun x hx=>z6.1 (show List.all _ _=true from rfl) x hx) (by simp only[zh,zk];omega) (by simp only[zh,zk];omega) f_ ?_)
     intro h aC W aD
     have n:=yf [1,2,3,4,5] W
     refine fK n 1 ?_
     refine iQ (f:=(fun _=>(h,(fJ l p).2++[k]))) 2 n (fun aE G=>?_) (hvs:=(cells_one (yv n (i:=0) rfl))) (h1:=(gX (yv n (i:=0) rfl) jV))
     refine fP G 7 ?_
     refine tN (?_)
     have X:=St.Pp G o_
     have Y:=yf [1,0,2,3] X
     have Z:=yx 3 Y rfl (congrArg (fL fU rv 3 1) ((acC o_).symm))
     exact again ((k+1),fO l p (fun _=>(h,(fJ l p).2++[k])),rv) ⟨rfl,rfl,rfl,rfl,rfl,rfl,gm rO,trivial⟩ (⟨Z,(by rw[gB];exact aY),Yr aY hl a3 a4,o_⟩) (by show (ps.length-(k+1):Nat)<ps.length-k;omega)
 . have a8:k=ps.length:=by omega
   refine gF aS 17 ?_
   subst a8
   refine lp (α:=Nat×Value×List Nat×List Nat) (fun(i,ov,od,dp)=>[(4,(Za ps.length)),(5,b),(6,a),(7,ov),(10,(Za i))]) (fun(i,ov,od,dp) w1=>St [(w,[])] [fL lB b 37 1 l,(x9 3 l),fL fU a 3 1 dp,fL fU ov 3 1 od] w1/\Bf ps i 0 od dp) (fun(i,ov,od,dp)=>ps.length-i) (0,rv,(oF ps ps.length),(List.replicate ps.length 0)) ⟨rfl,rfl,rfl,rfl,gm rO,trivial⟩ (⟨aS,Bf.start⟩) ?_
   rintro⟨i,ov,od,dp⟩ aF aG ⟨aR,hB⟩
   have bi:=hB.Kn
   have be:=hB.len
   refine fR aR 5 ?_
   refine iV (m:=od.length) 3 rfl rfl yd aR rfl ?_
   by_cases aH:(i:Int)<(od.length:Int)
   . have hi:i<od.length:=by omega
     have a9:=ze (gz hi)
     have a2:=hB.lt _ a9
     have aa:=yf [1,0,2,3] aR
     have ab:=St.CJ (fJ od i) aa o_
     have t:=yx 0 ab rfl (congrArg (fL fU ((fJ l (fJ od i)).1) 3 1) (hl _ a2))
     have a1:=Pk (ps:=ps) (k:=ps.length) (i:=fJ od i)
     refine fK aR 23 ?_
     refine iV (m:=(jL ps ps.length (fJ od i)).length) 0 rfl rfl yd t rfl (gF t 4 ?_)
     refine lp (α:=Nat×Value×List Nat×List Nat) (fun(j,aW,T,F)=>[(4,(Za ps.length)),(5,b),(6,a),(7,aW),(10,(Za i)),(11,(Za (((fJ od i):Nat):Int))),(57,((fJ l (fJ od i)).1)),(58,(Za ((jL ps ps.length (fJ od i)).length:Int))),(59,(Za j))]) (fun(j,aW,T,F) w1=>St [(w,[])] [fL fU ((fJ l (fJ od i)).1) 3 1 (jL ps ps.length (fJ od i)),(x9 3 (l.eraseIdx (fJ od i))),fL lB b 37 1 l,fL fU a 3 1 F,fL fU aW 3 1 T] w1/\Bf ps i j T F/\i<T.length/\fJ T i=fJ od i/\j<=(jL ps ps.length (fJ od i)).length) (fun(j,aW,T,F)=>(jL ps ps.length (fJ od i)).length-j) (0,ov,od,dp) ⟨rfl,rfl,rfl,rfl,rfl,rfl,rfl,rfl,gm rO,trivial⟩ (⟨t,hB,hi,rfl,o_⟩) ?_
     rintro⟨j,aW,T,F⟩ aI aJ ⟨aV,aT,aU,aX,hj⟩
     have bj:=aT.Kn
     have bf:=aT.len
     refine fR aV 2 ?_
     by_cases aK:(j:Int)<((jL ps ps.length (fJ od i)).length:Int)
     . have a7:j<(jL ps ps.length (fJ od i)).length:=by omega
       have a0:(jL ps ps.length (fJ T i))[j]? = some (fJ (jL ps ps.length (fJ od i)) j):=by rw[aX];exact gz a7
       obtain⟨bb,bc,bd⟩:=aT.new aU a0
       have bg:fJ F (fJ od i)<=ps.length:=by rw[<-aX,aT.dep _ (ze (gz aU))];exact mF I2 (Nat.sub_le _ _)
       refine fK aV 24 ?_
       refine ar (e:=(((fJ F (fJ od i))+1:Nat):Int)) rfl rfl rfl rfl je (fK aV 1 ?_)
       refine iQ (f:=(fun _=>((fJ F (fJ od i))+1))) 3 aV (fun aL H=>?_)
       refine fK H 5 ?_
       refine jW (vs:=(Ze (((fJ (jL ps ps.length (fJ od i)) j):Nat):Int))) (cs:=(Ze (((fJ (jL ps ps.length (fJ od i)) j):Nat):Int))) rfl rfl yd gq rfl (by simp[Value.cells]) rfl rfl rfl H (fun ac aM aN aO I=>lR (cf:=fU) (ys:=T) (zs:=[(fJ (jL ps ps.length (fJ od i)) j)]) (LL:=fun u=>(MZ ac ([(((fJ (jL ps ps.length (fJ od i)) j):Nat):Int)]) ((fJ l (fJ od i)).1) (jL ps ps.length (fJ od i)) (x9 3 (l.eraseIdx (fJ od i))) (fL lB b 37 1 l) a (fO F (fJ (jL ps ps.length (fJ od i)) j) (fun _=>((fJ F (fJ od i))+1))) u (T++[(fJ (jL ps ps.length (fJ od i)) j)]))) 5 rfl rfl rfl yd gq rfl d_ I rfl (lF I (i:=0) rfl) (fun x hx=>z6.1 (show List.all _ _=true from rfl) x hx) (by simp only[zh,zk];omega) (by simp only[zh,zk];omega) f_ ?_)
       intro u aP ad aQ
       have J:=yf [1,2,3,4,5] ad
       refine fP J 8 ?_
       refine tN (?_)
       exact again ((j+1),u,T++[(fJ (jL ps ps.length (fJ od i)) j)],fO F (fJ (jL ps ps.length (fJ od i)) j) (fun _=>((fJ F (fJ od i))+1))) ⟨rfl,rfl,rfl,rfl,rfl,rfl,rfl,rfl,gm rO,trivial⟩ (⟨J,by have h9:=aT.wB hP aU a0;rw[aX]at h9;exact h9,by rw[zo];omega,(iS (by rw[DK aU];exact gz aU)).trans aX,o_⟩) (by show ((jL ps ps.length (fJ od i)).length-(j+1):Nat)<(jL ps ps.length (fJ od i)).length-j;omega)
     . refine fP aV 16 ?_
       refine tN (?_)
       have ae:=yx 0 aV rfl (congrArg (fL fU ((fJ l (fJ od i)).1) 3 1) ((hl _ a2).symm))
       have af:=St.JJ ae o_
       have ag:=yf [1,0,2,3] af
       exact again ((i+1),aW,T,F) ⟨rfl,rfl,rfl,rfl,gm rO,trivial⟩ (⟨ag,aT.next aU (by rw[aX];omega)⟩) (by show (ps.length-(i+1):Nat)<ps.length-i;omega)
   . have a6:i=od.length:=by have:=hB.Jt;omega
     refine fK aR 1 ?_
     subst a6
     obtain⟨bh,a5⟩:=hB.fin hP
     refine fK aR 12 ?_
     refine iV (m:=od.length) 3 rfl rfl yd aR rfl (fK aR 1 ?_)
     refine cmp rfl rfl rfl (r7 o_) (fP aR 5 ?_)
     refine gZ (v:=a) (v' := Zg) results317 rfl rfl ?_
     have ah:=yf [2] aR
     have ai:=yx 0 ah rfl (congrArg (fL fU a 3 1) (a5))
     exact⟨a,rfl,mD ai⟩
structure Lt where
 dv:Value
 jl:List (Value×List Int)
structure Lt.ok (ps:List Int) (t:Lt):Prop where
 len:t.jl.length=13
 row:∀ q,q<13->(fJ t.jl q).2=jy ps q
def Lt.R(tb:Nat)(ps:List Int)(t:Lt):fT:=lq (t.ok ps) (gh [blk tb 376 (Zg :: t.dv :: (t.jl).flatMap lB),(vj gi 3 t.jl),fL fU t.dv 3 1 ((List.range ps.length).map (gj ps))])
abbrev M5 a b c (d e:Nat) (f:Int) g h i j k l m n o p (q:nK) r (s:Nat):=([fL jN.cells a 373 2 b,c,blk d 231 [.pointer (some ⟨e,0,none⟩),.int .i64 f,g,h,i,j,k,l,.map m],fL fU l 3 1 n,ia o .i64 (Prod.fst:Value×List jN->Value) p,Lt.R e q.p r,blk s 102 (Zs f g h i j k),fL gi g 3 1 q.l,fL gi h 3 1 q.r,fL gi i 3 1 q.p,fL gi j 2 1 q.h,fL fU k 3 1 q.s]:List fT)
abbrev MF a b c d (e f:Nat) (g:Int) h i j k l m n o p q (r:nK) s (t:Nat):=([a,fL jN.cells b 373 2 c,d,blk e 231 [.pointer (some ⟨f,0,none⟩),.int .i64 g,h,i,j,k,l,m,.map n],fL fU m 3 1 o,ia p .i64 (Prod.fst:Value×List jN->Value) q,Lt.R f r.p s,blk t 102 (Zs g h i j k l),fL gi h 3 1 r.l,fL gi i 3 1 r.r,fL gi j 3 1 r.p,fL gi k 2 1 r.h,fL fU l 3 1 r.s]:List fT)
theorem Pe(ps:List Int)(w:World)(hv:gY 1 gi (fun _=>True) w v ps)(hP:ko ps)(aR:∀ i,i<ps.length -> -1<=fJ ps i)(hn:ps.length<=8192) :
 CR ya 254 #[v] w (fun r w' => ∃ (tb:Nat) (t:Lt),r = .tuple (Zz tb)/\fV (gh []) w w' (Lt.R tb ps t)):=by
 refine enter (vs:=[v]) func254 rfl ntmps254 rfl ?_
 have aL:=yu w
 refine fR aL 9 ?_
 refine jY (v:=v) rfl rfl yd hv (fK aL 7 ?_)
 refine cmp (a:=(ps.length:Int)) (b:=8192) rfl rfl rfl (nN o_) (fK aL 9 ?_)
 refine jY (v:=v) rfl rfl yd hv (gF aL 4 ?_)
 refine lp (α:=Nat) (fun i=>[(0,v),(2,Zp),(3,Zc),(4,(Za ps.length)),(17,v),(18,(Za ps.length)),(19,(Za i))]) (fun i w1=>St [(w,[])] [] w1/\i<=ps.length) (fun i=>ps.length-i) 0 ⟨rfl,rfl,rfl,rfl,rfl,rfl,gm rO,trivial⟩ (⟨aL,o_⟩) ?_
 rintro i am D ⟨T,hi⟩
 refine fR T 2 ?_
 by_cases an:(i:Int)<(ps.length:Int)
 . have a3:=hP.up i o_
   refine fK T 19 ?_
   refine cmp (a:=(fJ ps i)) (b := -1) rfl rfl rfl (kG (by have h7:=aR i o_;omega)) (fK T 3 ?_)
   refine cmp (a:=(fJ ps i)) (b:=(ps.length:Int)) rfl rfl rfl (oS (by have h7:=aR i o_;omega)) (fP T 11 ?_)
   refine tN (?_)
   exact again (i+1) ⟨rfl,rfl,rfl,rfl,rfl,rfl,gm rO,trivial⟩ (⟨T,o_⟩) (by show (ps.length-(i+1):Nat)<ps.length-i;omega)
 . refine fK T 13 ?_
   refine jw (vl:=[v]) rfl rfl eN (Wo v ps D (yz T s_ d_ hv) hP hn) ?_
   rintro _ ao ⟨d,rfl,ht⟩
   have n:=(jm (R:=fL fU d 3 1 ((List.range ps.length).map (gj ps))) T ht)
   refine fK n 20 ?_
   refine iU (pvs:=[(0,Zg),(1,d)]) (v:=.agg #[Zg,d,Zi,Zi,Zi,Zi,Zi,Zi,Zi,Zi,Zi,Zi,Zi,Zi,Zi]) rfl rfl (jj [(0,[Zg]),(1,[d])] S3 abA rfl ⟨rfl,rfl,rfl,(cells_one (yv n (i:=0) rfl)),trivial⟩ rfl) (ir n (fun h E ap aq u=>?_))
   have G:St _ [(vj gi 3 (List.replicate 13 ((.slice none 0 0,[]):Value×List Int))),blk h 376 [Zg,d,Zi,Zi,Zi,Zi,Zi,Zi,Zi,Zi,Zi,Zi,Zi,Zi,Zi],fL fU d 3 1 ((List.range ps.length).map (gj ps))] E:=St.Po 13 u
   have H:=yf [1,0,2] G
   have I:=H
   refine gF u 10 ?_
   refine lp (α:=Nat×List (Value×List Int)) (fun(F,jl)=>[(0,v),(4,(Za ps.length)),(9,(Zb h)),(41,(Za F))]) (fun(F,jl) w1=>St [(w,[])] [blk h 376 (Zg :: d :: (jl).flatMap lB),(vj gi 3 jl),fL fU d 3 1 ((List.range ps.length).map (gj ps))] w1/\jl.length=13/\(∀ q,q<F->(fJ jl q).2=jy ps q)/\F<=13) (fun(F,jl)=>13-F) (0,(List.replicate 13 ((.slice none 0 0,[]):Value×List Int))) ⟨rfl,rfl,rfl,gm rO,trivial⟩ (⟨I,s_,fun q hq=>absurd hq (BW _),o_⟩) ?_
   rintro⟨F,jl⟩ au av ⟨aM,aN,aO,a2⟩
   refine fR aM 2 ?_
   by_cases aw:(F:Int)<13
   . refine gC aM 20 fun ax J=>?_
     refine lN (cf:=gi) (z0:=0) (m:=ps.length) (c:=ps.length) rfl rfl rfl yd gq rfl f_ d_ (zm _) o_ o_ J ?_
     intro y K ay az L
     have l:St _ [fL gi (.slice (some ⟨y,0,none⟩) ps.length ps.length) 3 1 (List.replicate ps.length 0),blk h 376 ((.bool true) :: d :: (jl).flatMap lB),(vj gi 3 jl),fL fU d 3 1 ((List.range ps.length).map (gj ps))] K:=lZ (cf:=gi) L (i:=0) rfl f_ (zm _) (by simp only[maxLen];omega)
     generalize (Value.slice (some ⟨y,0,none⟩) ps.length ps.length)=g at l ⊢
     refine fK l 2 ?_
     refine ic (o:=2) (o' := 2+F) (i:=(F:Int)) rfl rfl rfl rE kz o_ (by first|omega|(simp only[nG];omega)) (Gz (v:=g) (vs:=[g]) (L' := [fL gi g 3 1 (List.replicate ps.length 0),blk h 376 (setAt (Zg :: d :: (jl).flatMap lB) (2+F) [g]),(vj gi 3 jl),fL fU d 3 1 ((List.range ps.length).map (gj ps))]) 1 rfl rfl rfl (cells_one (yv l (i:=0) rfl)) kz rfl (gX (yv l (i:=0) rfl) jV) l rfl (Ye o_) rfl rfl ?_)
     intro M z aA
     have N:=yf [1,0,2,3] z
     have O:St _ [blk h 376 (Zg :: d :: ((fO jl F (fun _=>(g,[])))).flatMap lB),fL gi g 3 1 (List.replicate ps.length 0),(vj gi 3 jl),fL fU d 3 1 ((List.range ps.length).map (gj ps))] M:=yx 0 N rfl (congrArg (blk h 376) (JH o_))
     have P:=yx 1 O rfl (congrArg (fL gi g 3 1) (show _=oV (kI ps F) ps.length 0 from Xe.symm))
     have Q:=yf [2,0,1,3] P
     have S:=St.CJ F Q o_
     have U:=yf [2,3,1,4] S
     refine gF z 9 ?_
     refine lp (α:=Nat) (fun x=>[(0,v),(4,(Za ps.length)),(9,(Zb h)),(10,(Za F)),(41,(Za F)),(51,(Za ps.length)),(52,(Za x))]) (fun x w1=>St [(w,[])] [blk h 376 (Zg :: d :: ((fO jl F (fun _=>(g,[])))).flatMap lB),fL gi g 3 1 (oV (kI ps F) ps.length x),(vj gi 3 (jl.eraseIdx F)),fL fU d 3 1 ((List.range ps.length).map (gj ps))] w1/\x<=ps.length) (fun x=>ps.length-x) 0 ⟨rfl,rfl,rfl,rfl,rfl,rfl,gm rO,trivial⟩ (⟨U,o_⟩) ?_
     rintro x aB V ⟨aJ,aV⟩
     have aX:=Xc (f:=kI ps F) aV
     refine fR aJ 2 ?_
     by_cases aC:(x:Int)<(ps.length:Int)
     . have aK:x<ps.length:=by omega
       refine fK aJ 19 ?_
       by_cases aD:(F:Int)=0
       . have aS:F=0:=by omega
         refine gC aJ 10 fun aE s=>?_
         refine ic (o:=2) (o' := 2+F) (i:=(F:Int)) rfl rfl rfl rE kz o_ (by first|omega|(simp only[nG];omega)) (ld (a:=⟨h,2+F,none⟩) (v:=g) rfl rfl yd rfl (St.tq s (i:=0) rfl (wz (by first|omega|(rw[gB];omega)) (by rw[jS o_]))) (fK s 6 ?_))
         refine iQ (f:=(fun _=>(fJ ps x))) 1 s (fun aF A=>?_)
         refine fP A 10 ?_
         refine tN (?_)
         have W:=yx 1 A rfl (congrArg (fL gi g 3 1) (show _=oV (kI ps F) ps.length (x+1) from Jc aK (by rw[aS];rfl)))
         exact again (x+1) ⟨rfl,rfl,rfl,rfl,rfl,rfl,gm rO,trivial⟩ (⟨W,o_⟩) (by show (ps.length-(x+1):Nat)<ps.length-x;omega)
       . obtain⟨q,hq⟩:∃ q,F=q+1:=⟨F-1,o_⟩
         have aQ:fJ (jl.eraseIdx F) q=fJ jl q:=WV o_
         have aP:(fJ (jl.eraseIdx F) q).2=jy ps q:=by rw[aQ];exact aO q o_
         have aW:(jl.eraseIdx F).length=12:=by rw[List.length_eraseIdx,if_pos o_];omega
         have a0:=JD hP (k:=q) aK
         have aZ:=vi (k:=q) aK
         have aY:=AZ (ps:=ps) (k:=q)
         have X:=yf [2,0,1,3] aJ
         have Y:=St.CJ q X o_
         have j:=yx 0 Y rfl (congrArg (fL gi ((fJ (jl.eraseIdx F) q).1) 3 1) (aP))
         refine fK aJ 10 ?_
         refine ar (a:=(F:Int)) (b:=1) (c:=(F:Int)-1) (e:=((q:Nat):Int)) rfl rfl rfl rfl je (fK j 2 ?_)
         refine ic (o:=2) (o' := 2+q) (i:=((q:Nat):Int)) rfl rfl rfl rE kz o_ (by first|omega|(simp only[nG];omega)) (ld (a:=⟨h,2+q,none⟩) (v:=((fJ (jl.eraseIdx F) q).1)) rfl rfl yd rfl (St.tq j (i:=2) rfl (wz (by first|omega|(rw[gB];omega)) (by rw[kD o_,aQ]))) (fK j 10 ?_))
         by_cases aG:((fJ (jy ps q) x):Int)≥0
         . refine fK j 7 ?_
           refine ar (a:=(F:Int)) (b:=1) (c:=(F:Int)-1) (e:=((q:Nat):Int)) rfl rfl rfl rfl je (fK j 2 ?_)
           refine ic (o:=2) (o' := 2+q) (i:=((q:Nat):Int)) rfl rfl rfl rE kz o_ (by first|omega|(simp only[nG];omega)) (ld (a:=⟨h,2+q,none⟩) (v:=((fJ (jl.eraseIdx F) q).1)) rfl rfl yd rfl (St.tq j (i:=2) rfl (wz (by first|omega|(rw[gB];omega)) (by rw[kD o_,aQ]))) (fK j 1 ?_))
           refine iY (cf:=gi) (k:=(fJ (jy ps q) x).toNat) (i:=(fJ (jy ps q) x)) rfl rfl rfl yd gq (iN j 0 rfl) o_ o_ (gz om) (fK j 9 ?_)
           refine ic (o:=2) (o' := 2+F) (i:=(F:Int)) rfl rfl rfl rE kz o_ (by first|omega|(simp only[nG];omega)) (ld (a:=⟨h,2+F,none⟩) (v:=g) rfl rfl yd rfl (St.tq j (i:=2) rfl (wz (by first|omega|(rw[gB];omega)) (by rw[jS o_]))) (fK j 3 ?_))
           refine iQ (f:=(fun _=>(fJ (jy ps q) ((fJ (jy ps q) x).toNat)))) 3 j (fun aH B=>?_)
           refine fP B 7 ?_
           refine tN (?_)
           have Z:=yx 0 B rfl (congrArg (fL gi ((fJ (jl.eraseIdx F) q).1) 3 1) (aP.symm))
           have aa:=St.JJ Z o_
           have ab:=yf [1,2,0,3] aa
           have ac:=yx 1 ab rfl (congrArg (fL gi g 3 1) (show _=oV (kI ps F) ps.length (x+1) from Jc aK (by rw[hq];exact Yi hP aK o_)))
           exact again (x+1) ⟨rfl,rfl,rfl,rfl,rfl,rfl,gm rO,trivial⟩ (⟨ac,o_⟩) (by show (ps.length-(x+1):Nat)<ps.length-x;omega)
         . refine fK j 11 ?_
           refine ic (o:=2) (o' := 2+F) (i:=(F:Int)) rfl rfl rfl rE kz o_ (by first|omega|(simp only[nG];omega)) (ld (a:=⟨h,2+F,none⟩) (v:=g) rfl rfl yd rfl (St.tq j (i:=2) rfl (wz (by first|omega|(rw[gB];omega)) (by rw[jS o_]))) (fK j 3 ?_))
           refine iQ (f:=(fun _=>(fJ (jy ps q) x))) 3 j (fun aI C=>?_)
           refine fP C 7 ?_
           refine tN (?_)
           have ad:=yx 0 C rfl (congrArg (fL gi ((fJ (jl.eraseIdx F) q).1) 3 1) (aP.symm))
           have ae:=St.JJ ad o_
           have af:=yf [1,2,0,3] ae
           have ag:=yx 1 af rfl (congrArg (fL gi g 3 1) (show _=oV (kI ps F) ps.length (x+1) from Jc aK (by rw[hq];exact Yh aK o_)))
           exact again (x+1) ⟨rfl,rfl,rfl,rfl,rfl,rfl,gm rO,trivial⟩ (⟨ag,o_⟩) (by show (ps.length-(x+1):Nat)<ps.length-x;omega)
     . refine fP aJ 15 ?_
       refine tN (?_)
       have aU:x=ps.length:=by omega
       have ah:=yx 1 aJ rfl (congrArg (fL gi g 3 1) (show _=(jy ps F) from(congrArg (oV (kI ps F) ps.length) aU).trans Xb))
       have ai:=yf [1,2,0,3] ah
       have aj:=St.Pp ai o_
       have ak:=yf [1,0,2] aj
       have al:St _ [blk h 376 (Zg :: d :: ((fO jl F (fun _=>(g,jy ps F)))).flatMap lB),(vj gi 3 (fO jl F (fun _=>(g,jy ps F)))),fL fU d 3 1 ((List.range ps.length).map (gj ps))] V:=yx 0 ak rfl (congrArg (blk h 376) ((JH o_).symm.trans (JH o_)))
       exact again ((F+1),(fO jl F (fun _=>(g,jy ps F)))) ⟨rfl,rfl,rfl,gm rO,trivial⟩ (⟨al,by rw[gB];exact aN,Yf aN o_ aO,o_⟩) (by show (13-(F+1):Nat)<13-F;omega)
   . refine fP aM 18 ?_
     refine gZ (v:=(Zb h)) (v' := Zc) results254 rfl rfl ?_
     have a1:F=13:=by omega
     have aT:Lt.ok ps (⟨d,jl⟩:Lt):=⟨aN,fun q hq=>aO q o_⟩
     exact⟨h,(⟨d,jl⟩:Lt),rfl,uE (yn (p:=Lt.ok ps (⟨d,jl⟩:Lt)) (yc [_,_,_] _ aM) aT) s_⟩
structure nI (w:World) (tb:Nat) (ps:List Int) (t:Lt):Prop where
 ok:t.ok ps
 b:(blk tb 376 [.bool true,t.dv,(fJ t.jl 0).1,(fJ t.jl 1).1,(fJ t.jl 2).1,(fJ t.jl 3).1,(fJ t.jl 4).1,(fJ t.jl 5).1,(fJ t.jl 6).1,(fJ t.jl 7).1,(fJ t.jl 8).1,(fJ t.jl 9).1,(fJ t.jl 10).1,(fJ t.jl 11).1,(fJ t.jl 12).1]).holds w
 d:gY 1 fU (fun _=>True) w t.dv ((List.range ps.length).map (gj ps))
 r:∀ q,q<13->gY 1 gi (fun _=>True) w (fJ t.jl q).1 (jy ps q)
theorem nI.of{w:World}{t:Lt}(d:Own (Lt.R tb ps t) w):nI w tb ps t:=by
 have h:=Own.of d.un
 have a:t.ok ps:=d.fact
 refine⟨a,?_,(iN h 2 rfl).any,fun q e=>?_⟩
 . have b:=St.at h (i:=0) rfl
   rw[O9 a.len]at b
   exact b
 . have f:=St.CJ q (h.perm (List.Perm.swap _ _ _)) (by rw[a.len];exact e)
   have c:=(iN f 0 rfl).any
   rw[a.row q e]at c
   exact c
theorem nI.to{w:World}{t:Lt}(h:nI w0 tb ps t)(hs:St bs L w)(hb:(w0,[])∈bs):nI w tb ps t :=
 ⟨h.ok,St.x8 hs hb h.b,yz hs hb d_ h.d,fun q a=>yz hs hb d_ (h.r q a)⟩
theorem nI.p{w:World}{t:Lt}(h:nI w tb ps t):gY 1 gi (fun _=>True) w (fJ t.jl 0).1 ps:=by
 have:=h.r 0 o_
 rw[Yg]at this
 exact this
theorem Pa(ps:List Int)(t:Lt)(w:World)(f:nI w n ps t)(h:ko ps)(i:ps.length<=8192) :
 CR ya 256 (Zh n) w (fun r w' => r = .int .i64 (ps.length:Int)/\gx [] w w'):=by
 have g:((List.range ps.length).map (gj ps)).length=ps.length:=by simp
 refine en func256 ntmps256 ?_
 have e:=yu w
 refine fR e 9 ?_
 refine mc (a:=some ⟨n,0,none⟩) (c:=false) rfl rfl rfl zK rfl (fK e 4 ?_)
 refine ld rfl rfl mC rfl (lE e s_ f.b rfl) (fK e 12 ?_)
 refine ld rfl rfl yd rfl (lE e s_ f.b rfl) (jY (v:=t.dv) rfl rfl yd f.d (fP e 4 ?_))
 refine gf (v:=(Za (((List.range ps.length).map (gj ps)).length:Int))) results256 rfl ?_
 exact⟨by rw[g],e.gA s_⟩
theorem Fw(ps:List Int)(t:Lt)(w:World)(f:nI w n ps t)(e:ko ps)(g:ps.length<=8192)(x:Nat)(i:x<ps.length) :
 CR ya 255 (Zm n x) w (fun r w' => r = .bool true/\gx [] w w'):=by
 have h:((List.range ps.length).map (gj ps)).length=ps.length:=by simp
 refine en func255 ntmps255 ?_
 have d:=yu w
 refine fR d 8 ?_
 refine cmp rfl rfl rfl (ow o_) (fK d 3 ?_)
 refine cl (Pa n ps t w f e g) ?_
 rintro _ c ⟨rfl,b⟩
 have a:=yr d b
 refine cmp rfl rfl rfl (p8 o_) (fP a 5 ?_)
 refine gf (v:=Zg) results255 rfl ?_
 exact⟨rfl,a.gA s_⟩
theorem Vv(tb:Nat)(ps:List Int)(t:Lt)(w:World)(h:nI w tb ps t)(n:ko ps)(A:ps.length<=8192)(hv:Value)(hs:List Int)(q:gY 1 gi (fun _=>True) w hv hs)(C:hs.length=ps.length)(T:Int)(j l m:Nat)(h1:(blk j 223 (Zf tb)).holds w)(u:(blk l 78 [hv]).holds w)(y:(blk m 2 (Ze T)).holds w)(x:Nat)(s:x<ps.length) :
 CR ya 257 #[(Za x),(Zb j),(Zb l),(Zb m)] w (fun r w' => ∃ B:Bool,r = .bool B/\(B=true↔0<=fJ ps x/\fJ hs (fJ ps x).toNat<=T)/\gx [] w w'):=by
 have z:((List.range ps.length).map (gj ps)).length=ps.length:=by simp
 refine en func257 ntmps257 ?_
 have g:=yu w
 have D:=n.up x s
 refine fR g 10 ?_
 refine ic (o:=2) (o' := 2) (i:=0) rfl rfl rfl rE kz d_ rfl (ld rfl rfl yd rfl (lE g s_ h.b rfl) (fK g 1 ?_))
 refine iY (k:=x) (i:=(x:Int)) rfl rfl rfl yd gq h.p o_ o_ (gz o_) (jk rfl rfl yg rfl h.p (gz o_) rfl (gC g 6 fun c a=>?_))
 by_cases d:((fJ ps x):Int)≥0
 . refine fK a 4 ?_
   refine iY (k:=(fJ ps x).toNat) (i:=(fJ ps x)) rfl rfl rfl n9 ti2 q o_ o_ (gz o_) (fK a 2 ?_)
   by_cases e:((fJ hs (fJ ps x).toNat):Int)<=(T:Int)
   . refine fP a 6 ?_
     refine gf (v:=Zg) results257 rfl ?_
     exact⟨true,rfl,⟨fun f=>by first|omega|(cases f),fun f=>by first|rfl|(exfalso;omega)⟩,a.gA s_⟩
   . refine fP a 6 ?_
     refine gf (v:=Zn) results257 rfl ?_
     exact⟨false,rfl,⟨fun f=>by first|omega|(cases f),fun f=>by first|rfl|(exfalso;omega)⟩,a.gA s_⟩
 . refine fP a 13 ?_
   refine gf (v:=Zn) results257 rfl ?_
   exact⟨false,rfl,⟨fun f=>by first|omega|(cases f),fun f=>by first|rfl|(exfalso;omega)⟩,a.gA s_⟩
theorem Vx(tb:Nat)(ps:List Int)(t:Lt)(w:World)(F:nI w tb ps t)(W:ko ps)(Y:ps.length<=8192)(hv:Value)(hs:List Int)(X:gY 1 gi (fun _=>True) w hv hs)(ad:hs.length=ps.length)(T:Int)(V:Nat)(ae:V<ps.length) :
 CR ya 186 #[(Zb tb),(Za V),hv,(Za T)] w (fun r w' => r = .tuple (uW ((jP ps hs T V:Nat):Int))/\gx [] w w'):=by
 have af:((List.range ps.length).map (gj ps)).length=ps.length:=by simp
 refine en func186 ntmps186 ?_
 have ab:=yu w
 refine fR ab 2 ?_
 refine ir ab (fun e H I J s=>?_)
 refine ir s (fun g K L M u=>?_) (hcs:=(cells_one (Sl.Qu X)))
 refine ir u (fun h y N O f=>?_)
 refine fK f 8 ?_
 refine mc (a:=some ⟨tb,0,none⟩) (c:=false) rfl rfl rfl zK rfl (fK f 4 ?_)
 refine ld rfl rfl mC rfl (lE f s_ F.b rfl) (fK f 12 ?_)
 refine cl (Fw tb ps t y (F.to f s_) W Y V o_) ?_
 rintro _ P ⟨rfl,z⟩
 have m:=yr f z
 refine gF m 8 ?_
 refine kq mixed [([0,1,2,3],[0,1])] [4] m (fun A j=>jx ?_)
 refine fK j 1 ?_
 refine jY (v:=hv) rfl rfl n9 X (fK j 1 ?_)
 refine cl (Pa tb ps t A (F.to j s_) W Y) ?_
 rintro _ Q ⟨rfl,B⟩
 have l:=yr j B
 refine fP l 1 ?_
 refine pe (kZ rfl oE (kZ rfl (qo (YJ (v:=hv) rfl n9 X) rfl rfl) (trivial))) (kE ?_)
 refine cmp rfl rfl rfl (qa o_) (fK l 7 ?_)
 refine mX (vf:=[]) (vc:=(uU e g h)) rfl rfl rfl (gF l 5 ?_)
 refine lp (α:=Nat) (fun x=>[(1,(Za x)),(4,(Zb e)),(10,(.func (.func 257) #[] (Ev e g h)))]) (fun x w1=>St [(w,[])] [blk h 2 (Ze T),blk g 78 [hv],blk e 223 (Zf tb)] w1/\x<ps.length/\jP ps hs T x=jP ps hs T V) (fun x=>ps.length-x) V ⟨gm rO,rfl,rfl,trivial⟩ (⟨l,ae,rfl⟩) ?_
 rintro x R C ⟨U,Z,hc⟩
 have ag:=W.up x Z
 refine fR U 5 ?_
 refine mW (fi:=[]) (ca:=(uU e g h)) rfl rfl rfl eN (Vv tb ps t C (F.to U s_) W Y hv hs (yz U s_ d_ X) ad T e g h (St.at U (i:=2) rfl) (St.at U (i:=1) rfl) (St.at U (i:=0) rfl) x Z) ?_
 rintro _ S ⟨D,rfl,n,E⟩
 have d:=yr U E
 refine gF d 2 ?_
 cases q:(D:Bool)
 . skip
   subst q
   refine iT d 14 ?_
   refine gZ (v:=(Za x)) (v' := Zc) results186 rfl rfl ?_
   have G:=yf [] d
   have ac:¬ (0<=fJ ps x/\fJ hs (fJ ps x).toNat<=T):=fun h9=>(by have h8:=n.2 h9;cases h8)
   exact⟨by rw[<-hc,IP ac],G.gA s_⟩
 . skip
   subst q
   refine fR d 8 ?_
   refine ic (o:=2) (o' := 2) (i:=0) rfl rfl rfl rE kz d_ rfl (ld rfl rfl yd rfl (lE d s_ F.b rfl) (fK d 1 ?_))
   refine iY (k:=x) (i:=(x:Int)) rfl rfl rfl yd gq F.p o_ o_ (gz o_) (jk rfl rfl yg rfl (yz d s_ d_ F.p) (gz o_) rfl (fP d 3 ?_))
   refine tN (?_)
   have aa:=n.1 rfl
   exact again ((fJ ps x).toNat) ⟨gm rO,rfl,rfl,trivial⟩ (⟨d,o_,(IQ W Z aa.1 aa.2).symm.trans hc⟩) (by show (ps.length-((fJ ps x).toNat):Nat)<ps.length-x;omega)
structure Cv where
 tb:Nat
 t:Lt
 f:List Nat
 lv:Value
 rv:Value
 pv:Value
 hv:Value
 sv:Value
 ev:Value
def Cv.R(cb n:Nat)(es:List Ge)(c:Cv):fT:=lq (iE es n c.f) (gh [blk cb 225 [(Zb c.tb),(Za n),c.lv,c.rv,c.pv,c.hv,c.sv,c.ev],(Lt.R c.tb (gd es n c.f).p c.t),fL gi c.lv 3 1 ((gd es n c.f).l),fL gi c.rv 3 1 ((gd es n c.f).r),fL gi c.pv 3 1 ((gd es n c.f).p),fL gi c.hv 2 1 ((gd es n c.f).h),fL fU c.sv 3 1 ((gd es n c.f).s),fL fU c.ev 3 1 ((List.range (n+(c.f).length)).map (gW es n (c.f)))])
theorem VG(es:List Ge)(w:World)(hv:gY 3 Ge.cells (fun _=>True) w v es)(P:lQ n es)(Q:n<=4096)(hm:es.length<=16384) :
 CR ya 183 (uR n v) w (fun r w' => ∃ (cb:Nat) (c:Cv),r = .tuple (Zz cb)/\fV (gh []) w w' (Cv.R cb n es c)):=by
 refine en func183 ntmps183 ?_
 have S:=yu w
 refine fR S 10 ?_
 refine cl (Ky v n es w hv P Q hm) ?_
 rintro _ D ⟨b,h,j,d,O,k,rfl,y,ht⟩
 have s:=yy (jm S ht)
 have F:iE es n b:=⟨P,y⟩
 have V:=F.f.room F.g
 obtain⟨W,X,Y,Z,aa⟩:=nY (es:=es) (n:=n) (f:=b)
 have U:=F.vp
 have T:=F.Kr
 refine fK s 3 ?_
 refine iR s (fun E G H I e=>?_)
 refine jt 0 e (fun z o=>?_) (h1:=(gX rfl (gX (yv e (i:=1) rfl) (gX (yv e (i:=2) rfl) (gX (yv e (i:=3) rfl) (gX (yv e (i:=4) rfl) (gX (yv e (i:=5) rfl) jV)))))))
 refine fK o 17 ?_
 refine cl (Pe d (gd es n b).p z (iN o 3 rfl).any U T o_) ?_
 rintro _ J ⟨l,A,rfl,ht⟩
 have t:=(jm o ht)
 refine gF t 18 ?_
 refine kq mixed [([0,1,2,3],[1])] [4,5,6,7] t (fun B a=>jx ?_)
 refine fK a 3 ?_
 refine cl (Rr es n b F Q h j d O k B ⟨(iN a 2 rfl).any,(iN a 3 rfl).any,(iN a 4 rfl).any,(iN a 5 rfl).any,(iN a 6 rfl).any⟩) ?_
 rintro _ K ⟨m,rfl,ht⟩
 have q:=(jm a ht)
 refine fP q 1 ?_
 refine jZ (kE ?_)
 refine iU (pvs:=[(0,(Zb l)),(1,(B5 n h j d O k)),(2,m)]) (v:=.agg #[(Zb l),(Za n),h,j,d,O,k,m]) rfl rfl (jj [(0,(Zf l)),(1,(Zs n h j d O k)),(2,[m])] SH abu rfl ⟨rfl,rfl,rfl,rfl,rfl,(cells_one (yv q (i:=0) rfl)),trivial⟩ rfl) (ir q (fun u L M N x=>?_))
 refine fP x 5 ?_
 refine gZ (v:=(Zb u)) (v' := Zc) results183 rfl rfl ?_
 have C:=yf [0,2,4,5,6,7,8,1] x
 exact⟨u,(⟨l,A,b,h,j,d,O,k,m⟩:Cv),rfl,uE (yn (p:=iE es n b) (yc [_,_,_,_,_,_,_,_] _ C) F) s_⟩
structure uK (w:World) (cb n:Nat) (es:List Ge) (c:Cv):Prop where
 fg:iE es n c.f
 b:(blk cb 225 [(Zb c.tb),(Za n),c.lv,c.rv,c.pv,c.hv,c.sv,c.ev]).holds w
 t:nI w c.tb (gd es n c.f).p c.t
 r:nu w es n c.f c.lv c.rv c.pv c.hv c.sv
 e:gY 1 fU (fun _=>True) w c.ev ((List.range (n+(c.f).length)).map (gW es n (c.f)))
theorem uK.of{w:World}{n:Nat}{es:List Ge}{c:Cv}(a:Own (Cv.R tb n es c) w):uK w tb n es c:=by
 have h:=Own.of a.un
 exact⟨a.fact,St.at h (i:=0) rfl,nI.of (ye h 1 rfl),⟨(iN h 2 rfl).any,(iN h 3 rfl).any,(iN h 4 rfl).any,(iN h 5 rfl).any,(iN h 6 rfl).any⟩,(iN h 7 rfl).any⟩
theorem uK.to{w:World}{n:Nat}{es:List Ge}{c:Cv}(h:uK w0 tb n es c)(hs:St bs L w)(hb:(w0,[])∈bs):uK w tb n es c :=
 ⟨h.fg,St.x8 hs hb h.b,h.t.to hs hb,h.r.to hs hb,yz hs hb d_ h.e⟩
theorem Wj(es:List Ge)(c:Cv)(w:World)(e:uK w cb n es c)(o:n<=4096) :
 CR ya 185 (Zh cb) w (fun r w' => r = .bool true/\gx [] w w'):=by
 obtain⟨i,j,k,l,m⟩:=nY (es:=es) (n:=n) (f:=c.f)
 have h:=e.fg.f.room e.fg.g
 refine en func185 ntmps185 ?_
 have d:=yu w
 refine fR d 8 ?_
 refine lI (a:=some ⟨cb,0,none⟩) (c:=true) rfl rfl rfl underlying103 rfl (fK d 4 ?_)
 refine ld rfl rfl zK rfl (lE d s_ e.b rfl) (lI (a:=some ⟨c.tb,0,none⟩) (c:=true) rfl rfl rfl zK rfl (fP d 5 ?_))
 refine gf (v:=Zg) results185 rfl ?_
 exact⟨rfl,d.gA s_⟩
theorem V9(es:List Ge)(c:Cv)(w:World)(o:uK w cb n es c)(s:n<=4096)(x:Nat)(D:x<n)(T:Int) :
 CR ya 111 (Zv cb x T) w (fun r w' => r = .tuple (uW ((jP (gd es n c.f).p (gd es n c.f).h T x:Nat):Int))/\gx [] w w'):=by
 obtain⟨y,z,A,B,C⟩:=nY (es:=es) (n:=n) (f:=c.f)
 have u:=o.fg.f.room o.fg.g
 refine en func111 ntmps111 ?_
 have q:=yu w
 refine fR q 10 ?_
 refine cl (Wj cb n es c w o s) ?_
 rintro _ l ⟨rfl,i⟩
 have d:=yr q i
 refine fK d 10 ?_
 refine cmp rfl rfl rfl (kG o_) (fK d 6 ?_)
 refine ld rfl rfl yg rfl (lE d s_ o.b rfl) (cmp rfl rfl rfl (oS o_) (gC d 11 fun j a=>?_))
 refine ld rfl rfl zK rfl (lE a s_ o.b rfl) (fK a 5 ?_)
 refine ld rfl rfl n9 rfl (lE a s_ o.b rfl) (fK a 1 ?_)
 refine cl (Vx c.tb (gd es n c.f).p c.t j (o.to a s_).t o.fg.vp o_ c.hv (gd es n c.f).h (o.to a s_).r.h o_ T x o_) ?_
 rintro _ m ⟨rfl,k⟩
 have e:=yr a k
 refine fP e 7 ?_
 refine gZ (v:=(Za ((jP (gd es n c.f).p (gd es n c.f).h T x:Nat):Int))) (v' := Zc) results111 rfl rfl ?_
 exact⟨rfl,e.gA s_⟩
theorem V1(es:List Ge)(c:Cv)(w:World)(C:uK w cb n es c)(G:n<=4096)(x:Nat)(H:x<n)(T:Int) :
 CR ya 60 (Zv cb x T) w (fun r w' => r = .tuple #[.agg (Z0 ((gW es n c.f (jP (gd es n c.f).p (gd es n c.f).h T x):Nat):Int) ((fJ (gd es n c.f).s (jP (gd es n c.f).p (gd es n c.f).h T x):Nat):Int)),.int .i64 0]/\gx [] w w'):=by
 obtain⟨J,K,L,M,N⟩:=nY (es:=es) (n:=n) (f:=c.f)
 have I:=C.fg.f.room C.fg.g
 have F:(jP (gd es n c.f).p (gd es n c.f).h T x)<n+c.f.length:=by have:=N9 (hs:=(gd es n c.f).h) (T:=T) (x:=x) (ps:=(gd es n c.f).p) o_ C.fg.vp;omega
 have O:((List.range (n+(c.f).length)).map (gW es n (c.f))).length=n+c.f.length:=by simp
 have D:((List.range (n+(c.f).length)).map (gW es n (c.f)))[(jP (gd es n c.f).p (gd es n c.f).h T x)]? = some (gW es n c.f (jP (gd es n c.f).p (gd es n c.f).h T x)):=by simp[F]
 refine en func60 ntmps60 ?_
 have E:=yu w
 refine fR E 2 ?_
 refine iR E (fun t l u y d=>?_)
 refine fK d 8 ?_
 refine cl (V9 cb n es c l (C.to d s_) G x H T) ?_
 rintro _ z ⟨rfl,m⟩
 have q:=yr d m
 refine gC q 22 fun A a=>?_
 refine ld rfl rfl yd rfl (lE a s_ C.b rfl) (fK a 1 ?_)
 refine iY (k:=(jP (gd es n c.f).p (gd es n c.f).h T x)) (i:=((jP (gd es n c.f).p (gd es n c.f).h T x:Nat):Int)) rfl rfl rfl yd gq C.e o_ o_ D (jk rfl rfl yg rfl (yz a s_ d_ C.e) D rfl (fK a 4 ?_))
 refine ld rfl rfl yd rfl (lE a s_ C.b rfl) (fK a 1 ?_)
 refine iY (k:=(jP (gd es n c.f).p (gd es n c.f).h T x)) (i:=((jP (gd es n c.f).p (gd es n c.f).h T x:Nat):Int)) rfl rfl rfl yd gq C.r.s o_ o_ (gz o_) (jk rfl rfl yg rfl (yz a s_ d_ C.r.s) (gz o_) rfl (iU (pvs:=[(0,(Za (((gW es n c.f (jP (gd es n c.f).p (gd es n c.f).h T x)):Nat):Int))),(1,(Za (((fJ (gd es n c.f).s (jP (gd es n c.f).p (gd es n c.f).h T x)):Nat):Int)))]) (v:=.agg (Z0 (((gW es n c.f (jP (gd es n c.f).p (gd es n c.f).h T x)):Nat):Int) (((fJ (gd es n c.f).s (jP (gd es n c.f).p (gd es n c.f).h T x)):Nat):Int))) rfl rfl (jj [(0,(Ze (((gW es n c.f (jP (gd es n c.f).p (gd es n c.f).h T x)):Nat):Int))),(1,(Ze (((fJ (gd es n c.f).s (jP (gd es n c.f).p (gd es n c.f).h T x)):Nat):Int)))] GF abm rfl ⟨rfl,rfl,rfl,rfl,trivial⟩ rfl) (jH a 5 fun B j=>?_)))
 refine o7 (v:=(Ck (((gW es n c.f (jP (gd es n c.f).p (gd es n c.f).h T x)):Nat):Int) (((fJ (gd es n c.f).s (jP (gd es n c.f).p (gd es n c.f).h T x)):Nat):Int))) (v' := Zc) results60 (nX (cs:=(Zr (((gW es n c.f (jP (gd es n c.f).p (gd es n c.f).h T x)):Nat):Int) (((fJ (gd es n c.f).s (jP (gd es n c.f).p (gd es n c.f).h T x)):Nat):Int))) rfl underlying138 rfl GF rfl (mO j (i:=0) (o:=0) (vs:=(Zr (((gW es n c.f (jP (gd es n c.f).p (gd es n c.f).h T x)):Nat):Int) (((fJ (gd es n c.f).s (jP (gd es n c.f).p (gd es n c.f).h T x)):Nat):Int))) rfl rfl)) (pN rfl) ?_
 exact⟨rfl,j.gA s_⟩
open Go.Shelf Go.Lib in
def Tryz.aeW:Go.Shelf.Ren:=⟨fun|27=>339|28=>356|29=>357|n=>n,fun|25=>193|3=>3|27=>289|22=>39|4=>4|53=>453|0=>0|5=>5|54=>454|n=>n,fun|0=>0|1=>1|n=>n⟩
open Go.Shelf Go.Lib in
theorem Tryz.tzI:Go.Proofs.Lays7.n27 Proofs.Tryz.prog Tryz.aeW where
 mixed:=by kernel_rfl
 f27:=Proofs.Tryz.func339.trans (congrArg some<|by kernel_rfl)
 f28:=Proofs.Tryz.func356.trans (congrArg some<|by kernel_rfl)
 f29:=Proofs.Tryz.func357.trans (congrArg some<|by kernel_rfl)
 t0:=Proofs.Tryz.underlying0
 a0:=Proofs.Tryz.isAgg0
 z0:=Proofs.Tryz.sizeOf0
 v0:=Proofs.Tryz.zeroValue0
 i0:=by kernel_rfl
 t3:=Proofs.Tryz.underlying3
 a3:=Proofs.Tryz.isAgg3
 z3:=Proofs.Tryz.sizeOf3
 v3:=Proofs.Tryz.zeroValue3
 i3:=by kernel_rfl
 t4:=Proofs.Tryz.underlying4
 a4:=Proofs.Tryz.isAgg4
 z4:=Proofs.Tryz.sizeOf4
 v4:=Proofs.Tryz.zeroValue4
 i4:=by kernel_rfl
 t5:=Proofs.Tryz.underlying5
 a5:=Proofs.Tryz.isAgg5
 z5:=Proofs.Tryz.sizeOf5
 v5:=Proofs.Tryz.zeroValue5
 i5:=by kernel_rfl
 t22:=Proofs.Tryz.underlying39
 a22:=Proofs.Tryz.isAgg39
 z22:=Proofs.Tryz.sizeOf39
 v22:=Proofs.Tryz.zeroValue39
 i22:=by kernel_rfl
 t25:=Proofs.Tryz.underlying193
 a25:=Proofs.Tryz.isAgg193
 z25:=Proofs.Tryz.sizeOf193
 v25:=Proofs.Tryz.zeroValue193
 i25:=by kernel_rfl
 t27:=Proofs.Tryz.underlying289
 a27:=Proofs.Tryz.isAgg289
 z27:=Proofs.Tryz.sizeOf289
 v27:=Proofs.Tryz.zeroValue289
 i27:=by kernel_rfl
 t53:=Proofs.Tryz.underlying453
 a53:=Proofs.Tryz.isAgg453
 z53:=Proofs.Tryz.sizeOf453
 v53:=Proofs.Tryz.zeroValue453
 i53:=by kernel_rfl
 t54:=Proofs.Tryz.underlying454
 a54:=Proofs.Tryz.isAgg454
 z54:=Proofs.Tryz.sizeOf454
 g0:=by kernel_rfl
 g1:=by kernel_rfl
def aea(o:Obj):Prop:=∀ w:World,w.heap[1]? = some o->∀ j,j<64->w.cell? ⟨1,j,none⟩=some (.int .u8 ((Go.Lib.deBruijn64tab.getD j 0:Nat):Int))
def j5(o:Obj):fT where
 gJ:=[1]
 holds w:=w.heap[1]? = some o/\aea o
 loc w w' h hh:=⟨(h 1 s_).trans hh.1,hh.2⟩
theorem Lh{w:World}(h:(j5 o).holds w):1<w.heap.size:=(rG.1 h.1).1
theorem aed{w:World}(h:(j5 o).holds w):Own (j5 o) w:=⟨h,by simp[j5],fun b hb=>by simp[j5]at hb;subst hb;exact Lh h⟩
theorem St.wA{w:World}{X:List Nat}(h:St bs L w)(hb:(w0,X)∈bs)(a:(j5 o).holds w0)(b:1∉X):(j5 o).holds w :=
 ⟨(h.keep hb (Lh a) b).trans a.1,a.2⟩
theorem aeb{w:World}(a:(j5 o).holds w)(h:fV (j5 o) w w' (j5 o)):gx [] w w' :=
 ⟨h.gA.os,h.gA.tape,h.gA.output,h.gA.size,fun b hb _=>by
  by_cases e:b=1
  . subst e
    exact h.holds.1.trans a.1.symm
  . exact h.gA.block b hb (by simp[j5,e])⟩
theorem aec{w:World}(h:∀ j,j<64->w.cell? ⟨1,j,none⟩=some (.int .u8 ((Go.Lib.deBruijn64tab.getD j 0:Nat):Int))):∃ o,(j5 o).holds w:=by
 have a:=World.block_lt_of_cell? w _ (h 0 d_)
 refine⟨w.heap[1],uF a,fun d b j c=>?_⟩
 rw[<-h j c]
 exact World.cell?_of_block (b.trans (uF a).symm)
theorem aeX(a:(j5 o).holds w)(d:Nat)(hd:d<18446744073709551616) :
 CR ya 339 (xE d) w (fun r w' => r = .int .i64 ((Go.Lib.ctz 64 d:Nat):Int)/\w' = w):=by
 have h:=Go.Proofs.Any7.bits_TrailingZeros Tryz.tzI d hd w (fun _ j c=>a.2 w a.1 j c)
 exact Calls.mono h fun e w' b=>⟨_,b.1,rfl,b.2⟩
theorem aaY(d:Nat)(w:World) :
 CR ya 318 (Z2 d) w (fun r w' => ∃ h,w.heap.size<=h/\r = .func (.func 338) #[] (Zh h)/\(blk h 3 (Ze d)).holds w' /\ gx [] w w'):=by
 refine en func318 ntmps318 ?_
 have g:=yu w
 refine fR g 2 ?_
 refine ir g (fun b e c f a=>?_)
 refine fK a 5 ?_
 refine mX (vf:=[]) (vc:=(Zf b)) rfl rfl rfl (fP a 4 ?_)
 refine gf (v:=(.func (.func 338) #[] (Zh b))) results318 rfl ?_
 exact⟨_,mF (g.size zd) c,rfl,a.at (i:=0) rfl,a.gA s_⟩
theorem aeY(a:(j5 o).holds w)(d:Nat)(hd:d<18446744073709551616) :
 CR ya 339 (xE d) w (fun r w' => r = .int .i64 ((Go.Lib.ctz 64 d:Nat):Int)/\gx [] w w') :=
 CR.mono (aeX w a d hd) fun r w' h=>⟨h.1,h.2▸gx.refl _ _⟩
theorem aaX(p:Nat->fT)(l t n:Nat)(w:World)(B:∀ (d:Nat) (bs:List (World×List Nat)) (L:List fT) (w1:World),d≠0->d<=n->(w,(p n).gJ)∈bs->St bs (p d :: L) w1->YR ya l (Ze ((Go.Lib.ctz 64 d:Nat):Int)) w1 (fun v w' => v = .bool true/\St bs (p (d &&& (d-1)) :: L) w'))(y:Own (p n) w)(A:(blk t 3 (Ze n)).holds w)(E:t∉(p n).gJ)(z:(j5 o).holds w)(u:1∉(p n).gJ)(C:n<8192) :
 CR ya 338 (Mo (.func (.yield l) #[] #[]) t) w (fun r w' => r = .tuple #[]/\fV (p n) w w' (p 0)):=by
 refine en func338 ntmps338 ?_
 have s:=yt y
 refine fR s 2 ?_
 refine ld rfl rfl yg rfl (Ct A (o:=0) rfl) (gF s 5 ?_)
 refine lp (α:=Nat) (fun d=>[(0,(.func (.yield l) #[] #[])),(3,(Zl d))]) (fun d w1=>St [(w,(p n).gJ)] [p d] w1/\d<=n) (fun d=>d) n ⟨rfl,gm rO,trivial⟩ (⟨s,o_⟩) ?_
 rintro d i f ⟨q,D⟩
 refine fR q 4 ?_
 by_cases j:(d:Int)=0
 . refine fP q 8 ?_
   refine jc results338 ?_
   obtain rfl:d=0:=by omega
   exact⟨rfl,ym (R:=p n) q s_⟩
 . refine fK q 12 ?_
   refine cl (aeY f (St.wA q (X:=(p n).gJ) s_ z u) d o_) ?_
   rintro _ k ⟨rfl,g⟩
   have h:=yr q g
   refine yl (vl:=(Ze ((Go.Lib.ctz 64 d:Nat):Int))) rfl rfl rfl (B d _ _ _ o_ o_ s_ h) ?_
   rintro _ m ⟨rfl,c⟩
   refine fK c 10 ?_
   refine ar (e:=((d-1:Nat):Int)) rfl rfl rfl rfl (by rw[DC o_];omega) (bi (a:=(d:Int)) (b:=((d-1:Nat):Int)) (e:=((d &&& (d-1):Nat):Int)) rfl rfl rfl (congrArg some (Go.bits_and_u64_nat d (d-1) o_ o_)) (fP c 2 ?_))
   refine tN (?_)
   obtain⟨F,G⟩:=IW (x:=d) o_ o_
   have H:0<2 ^ Go.Lib.ctz 64 d:=Nat.pow_pos d_
   exact again (d &&& (d-1)) ⟨rfl,gm rO,trivial⟩ (⟨c,o_⟩) (by show ((d &&& (d-1)):Nat)<d;omega)
theorem nI.b2{w:World}{t:Lt}(h:nI w tb ps t):(blk tb 376 (.bool true :: t.dv :: t.jl.flatMap lB)).holds w:=by
 rw[O9 h.ok.len]
 exact h.b
theorem Ph(tb:Nat)(ps:List Int)(t:Lt)(w:World)(T:nI w tb ps t)(hP:ko ps)(hn:ps.length<=8192)(hT:(j5 o).holds w)(x F:Nat)(hx:x<ps.length)(hd:F<=gj ps x) :
 CR ya 258 (Zv tb x F) w (fun r w' => r = .tuple (Ao ((gM ps F x:Nat):Int))/\gx [] w w'):=by
 have ag:((List.range ps.length).map (gj ps)).length=ps.length:=by simp
 have ay:=I3 hP hx
 have an:F<8192:=by omega
 refine AR (vs:=(Av tb x F)) func258 rfl ntmps258 rfl ?_
 have am:=yu w
 have ah:((List.range ps.length).map (gj ps))[x]? = some (gj ps x):=by simp[hx]
 refine fR am 2 ?_
 refine ir am (fun c N O P n=>?_)
 refine ir n (fun e Q R S p=>?_)
 refine gC p 9 fun q h=>?_
 refine cl (Fw tb ps t q (T.to h s_) hP hn x o_) ?_
 rintro _ s ⟨rfl,u⟩
 have a:=yr h u
 refine fK a 3 ?_
 by_cases U:(F:Int)<0
 . refine fP a 24 ?_
   exfalso
   omega
 . refine fK a 7 ?_
   refine ld rfl rfl yd rfl (lE a s_ T.b rfl) (fK a 1 ?_)
   refine iY (k:=x) (i:=(x:Int)) rfl rfl rfl yd gq T.d o_ o_ ah (jk rfl rfl yg rfl (yz a s_ d_ T.d) ah rfl ?_)
   by_cases V:(F:Int)>(((gj ps x):Nat):Int)
   . refine fP a 13 ?_
     exfalso
     omega
   . refine fK a 11 ?_
     refine cl (aaY F s) ?_
     rintro _ y ⟨f,A,rfl,B,C⟩
     have j:=St.Ns a C A B
     have D:=yf [2,1,0] j
     have E:St [(w,[])] [blk c 223 (Zf tb),blk e 3 (Ze ((gM ps (F-F) x:Nat):Int)),blk f 3 (Ze F)] y:=by rw[Nat.sub_self];exact D
     refine gF j 3 ?_
     refine rf (α:=Nat) (ps:=[30]) (fi:=[]) (ca:=(Zf f)) (fun z=>[blk c 223 (Zf tb),blk e 3 (Ze ((gM ps (F-z) x:Nat):Int)),blk f 3 (Ze F)]) (fun z=>z=0) E rfl eN ?_ ?_
     . intro fn dd l wl rc ae al
       have G:=yf [0,2,3,1,4] al
       have ad:=yc (Ce (iw l rc) c tb e ((gM ps (F-F) x:Nat):Int)) [j6 dd (some []),blk f 3 (Ze F)] G
       have aj:rc.state = .ready:=by rw[ae]
       have aq:rc.pending=none:=by rw[ae]
       have ar:∀ (d:Nat) (bs:List (World×List Nat)) (L:List fT) (w1:World),d≠0->d<=F->(wl,((fun(z:Nat)=>gh (Ce (iw l rc) c tb e ((gM ps (F-z) x:Nat):Int))) F).gJ)∈bs->St bs ((fun(z:Nat)=>gh (Ce (iw l rc) c tb e ((gM ps (F-z) x:Nat):Int))) d :: L) w1->YR ya l (Ze ((Go.Lib.ctz 64 d:Nat):Int)) w1 (fun v w' => v = .bool true/\St bs ((fun(z:Nat)=>gh (Ce (iw l rc) c tb e ((gM ps (F-z) x:Nat):Int))) (d &&& (d-1)) :: L) w'):=by
        intro d bs LT wr af ag ap ac
        have ac:=ac.unpack
        have ac:=St.under ad (w:=w) s_ (fun b hb=>by rw[nw];exact zn.2 (.inl hb)) ac ap
        have hU:=B4.next hP hx hd an (⟨ag,rfl⟩:B4 ps x F d (gM ps (F-d) x)) af
        have ao:=hU.1
        have ax:=Wa af o_
        refine yU (vl:=(Ze ((Go.Lib.ctz 64 d:Nat):Int))) 0 ae ac rfl rfl rfl (iT ac 3 ?_)
        refine tN (?_)
        refine AH 0 ac rfl aj rfl ?_
        intro W H
        have ai:(jy ps (Go.Lib.ctz 64 d))[(gM ps (F-d) x)]? = some ((gM ps (2 ^ Go.Lib.ctz 64 d) (gM ps (F-d) x):Nat):Int):=by rw[<-hU.2.1];exact gz (by rw[AZ];exact ao)
        have az:=AZ (ps:=ps) (k:=Go.Lib.ctz 64 d)
        refine ry H 6 fun Y g=>?_
        refine ic (o:=2) (o' := 2+(Go.Lib.ctz 64 d)) (i:=((Go.Lib.ctz 64 d:Nat):Int)) rfl rfl rfl rE kz o_ (by first|omega|(simp only[nG];omega)) (ld rfl rfl yd rfl (lE g s_ T.b2 (wz (by rw[T.ok.len];omega) rfl)) (fK g 1 ?_))
        refine iY (k:=(gM ps (F-d) x)) (i:=((gM ps (F-d) x:Nat):Int)) rfl rfl rfl yd gq (T.r (Go.Lib.ctz 64 d) o_) o_ o_ ai (jk rfl rfl yg rfl (yz g s_ d_ (T.r (Go.Lib.ctz 64 d) o_)) ai rfl (jH g 3 fun Z I=>?_))
        refine u9 0 I rfl aj aq rfl ?_
        intro aa J
        have ak:=J
        rw[hU.2.2.at_]at ak
        exact⟨_,rfl,rfl,yc [_,_,_] _ ak.Wv⟩
       refine CR.mono (aaX (fun(z:Nat)=>gh (Ce (iw l rc) c tb e ((gM ps (F-z) x:Nat):Int))) l f F wl ar (ye ad 0 rfl) (ad.at (i:=2) rfl) (ad.Qo (by simp[iZ,blk,j6])) (St.wA al (X:=[]) s_ hT s_) (ad.aaW (w0:=w) s_ (Lh hT)) o_) ?_
       rintro _ w9 ⟨-,aw⟩
       have av:=(yi ad aw)
       have K:=yf [0,3,1,2,4] av
       exact⟨_,rfl,K⟩
     . rintro z dd ab hC m
       refine wR tt none m 10 ?_
       refine yC 0 m rfl rfl ?_
       intro w8 au
       have M:=yf [] au
       exact⟨_,results_tmp2 results258 _ _ _,_,rfl,by rw[qB,qB];exact⟨by subst hC;rfl,M.gA s_⟩⟩
end Go.Proofs.YtedjjkcihkmjgaaGreatDoor
