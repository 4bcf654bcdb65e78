/- What the functions that the statements reach do: walks through the code of the program and of the references, one theorem a function; under what is said of its arguments. -/
import Derived.Test.YtedjjkcihkmjgaaGreatDoorFb
import Derived.Test.YtedjjkcihkmjgaaGreatDoorVa
import Derived.Test.YtedjjkcihkmjgaaGreatDoorFc
import Derived.Test.YtedjjkcihkmjgaaGreatDoorVe
import Derived.Shelf.Spec.TrailingZeros
import Derived.Shelf.Lays7
import Derived.Test.YtedjjkcihkmjgaaGreatDoorFa
import Derived.Test.YtedjjkcihkmjgaaGreatDoorFd
set_option linter.unusedVariables false
set_option linter.unusedSimpArgs false
set_option maxRecDepth 100000
set_option maxHeartbeats 4000000
namespace Go.Proofs.YtedjjkcihkmjgaaGreatDoor
section
open Go Go.Sx
theorem af9(uv:Value)(n:Nat)(lb:List Nat)(p:List i6)(w:World)(t:Own (B9 uv p) w)(u:Un n lb p)(B:n<=1000000)(a0:Nat)(y:a0<n) :
 CR ya 253 #[uv,(Za a0)] w (fun r w' => ∃ xs:List i6,r = .int .i64 ((fJ lb a0:Nat):Int)/\(Un n lb xs/\∀ j,(fJ xs j).b=(fJ p j).b)/\fV (B9 uv p) w w' (B9 uv xs)):=by
 refine en Tryz.func253 Tryz.ntmps253 ?_
 have s:=yq t
 refine p8 s 7 ?_
 refine lp (α:=Nat×List i6) (fun(i,xs)=>[(0,uv),(1,(Za i)),(4,Zc)]) (fun(i,xs) w1=>St [(w,(B9 uv p).gH)] [fL i6.cells uv 169 2 xs] w1/\uE n lb p a0 xs i) (fun(i,xs)=>i) (a0,p) ⟨rfl,gj rO,rfl,trivial⟩ (⟨s,uE.start u y⟩) ?_
 rintro⟨i,xs⟩ e g ⟨q,o⟩
 have D:=o.un.len
 have A:=o.lt
 have C:=o.un.le i A
 refine fR q 6 ?_
 refine uS (cf:=i6.cells) (k:=i) (off:=0) (off' := 0) (i:=0) rfl rfl rfl yo gr d_ rfl (y0 q 0 rfl) (gy om) (fK q 2 ?_)
 by_cases h:(((fJ xs i).a:Int):Int)=((i:Int):Int)
 . refine fP q 16 ?_
   refine gq (v:=(Za i)) Tryz.results253 rfl ?_
   have z:=o.fin o_
   exact⟨xs,by rw[<-z],⟨o.un,o.nd⟩,yi q⟩
 . refine gI q 15 fun l c=>?_
   refine uS (cf:=i6.cells) (k:=i) (off:=0) (off' := 0) (i:=0) rfl rfl rfl yo gr d_ rfl (y0 c 0 rfl) (gy om) (fK c 2 ?_)
   refine uS (cf:=i6.cells) (k:=((fJ xs i).a)) (off:=0) (off' := 0) (i:=0) rfl rfl rfl yo gr d_ rfl (y0 c 0 rfl) (gy om) (fK c 2 ?_)
   refine uS (cf:=i6.cells) (k:=i) (off:=0) (off' := 0) (i:=0) rfl rfl rfl yo gr d_ rfl (y0 c 0 rfl) (gy om) (iz (f:=(fun x:i6=>{ x with a:=((fJ xs ((fJ xs i).a)).a) })) 0 c (fun m d=>?_))
   refine fK d 6 ?_
   refine uS (cf:=i6.cells) (k:=i) (off:=0) (off' := 0) (i:=0) rfl rfl rfl yo gr d_ rfl (y0 d 0 rfl) (gy om) (fP d 4 ?_)
   refine tN (?_)
   exact again (((fJ (fM xs i (fun x=>{ x with a:=((fJ xs ((fJ xs i).a)).a) })) i).a),fM xs i (fun x=>{ x with a:=((fJ xs ((fJ xs i).a)).a) })) ⟨rfl,gj rO,rfl,trivial⟩ (⟨d,(o.half (us2:=fM xs i (fun x=>{ x with a:=((fJ xs ((fJ xs i).a)).a) })) o_ rfl).1⟩) (o.half (us2:=fM xs i (fun x=>{ x with a:=((fJ xs ((fJ xs i).a)).a) })) o_ rfl).2
def Un.R(uv:Value)(n:Nat)(lb d:List Nat)(a:List i6):fT:=kO (Un n lb a/\∀ j,j<n->(fJ a j).b=fJ d j) (B9 uv a)
theorem af8(uv:Value)(n:Nat)(lb d:List Nat)(b:List i6)(w:World)(a:Own (Un.R uv n lb d b) w)(h:n<=1000000)(a0:Nat)(f:a0<n) :
 CR ya 253 #[uv,.int .i64 (a0:Int)] w (fun r w' => ∃ xs:List i6,r = .int .i64 ((fJ lb a0:Nat):Int)/\fV (Un.R uv n lb d b) w w' (Un.R uv n lb d xs)) :=
 CR.mono (af9 uv n lb b w a.un a.fact.1 h a0 f) fun r w' ⟨xs,e,c,i⟩=>⟨xs,e,i.qb ⟨c.1,fun j g=>(c.2 j).trans (a.fact.2 j g)⟩⟩
theorem T9(uv:Value)(n:Nat)(lb d:List Nat)(a:List i6)(w:World)(b:Own (Un.R uv n lb d a) w)(e:n<=1000000)(a0:Nat)(c:a0<n){x:Nat}(f:fJ lb a0=x) :
 CR ya 253 #[uv,.int .i64 (a0:Int)] w (fun r w' => ∃ xs:List i6,r = .int .i64 (x:Int)/\fV (Un.R uv n lb d a) w w' (Un.R uv n lb d xs)):=by
 subst f
 exact af8 uv n lb d a w b e a0 c
abbrev Sr:List (List Nat):=[[],[],[1],[],[3],[],[5],[],[7],[],[9],[0,1,2,3,4,5,6,7,8,9,10],[],[0,1,2,3,4,5,6,7,8,9,10,11,12]]
theorem KG(v:Value)(n:Nat)(es:List Ge)(w:World)(hv:gY 3 Ge.cells (fun _=>True) w v es)(hg:mj n es)(hn:n<=4096)(hm:es.length<=16384) :
 CR ya 182 #[(Za n),v] w (fun r w' => ∃ (f:List Nat) (lv rv pv cb sv:Value),r = .tuple #[.agg #[.int .i64 (n:Int),lv,rv,pv,cb,sv],.int .i64 0]/\oC es n f/\fV (gm []) w w' (UN lv (gf es n f) rv pv cb sv)):=by
 refine en Tryz.func182 Tryz.ntmps182 ?_
 have ca:=yu w
 refine fR ca 2 ?_
 refine iE ca (fun E aC bo bp Z=>?_)
 refine fK Z 7 ?_
 refine cl Pe (Qg v n es aC (yy Z s_ d_ hv).any hg hn hm) ?_
 rintro _ bq ⟨fv,f,rfl,aD,ht⟩
 have Y:=(jR Z ht)
 have bY:=aD
 have cr:=bY.len
 refine fK Y 21 ?_
 refine iM (m:=f.length) 0 rfl rfl yd Y rfl (ar (e:=((n+f.length:Nat):Int)) rfl rfl rfl rfl iW (gD Y 4 ?_))
 have K:AV Sr [2,4,6,8,10,12,13] [(12,fun z=>blk z 102 uF),(10,fun A=>blk A 3 ((List.replicate (n+f.length) 0).flatMap fS)),(8,fun D=>blk D 2 ((List.replicate (n+f.length) 0).flatMap fW)),(6,fun G=>blk G 3 ((List.replicate (n+f.length) 0).flatMap fW)),(4,fun H=>blk H 3 ((List.replicate (n+f.length) 0).flatMap fW)),(2,fun J=>blk J 3 ((List.replicate (n+f.length) 0).flatMap fW))] 13:=J4 (is:=[12,10,8,6,4,2]) rfl d_
 refine KO mixed Sr [2,4,6,8,10,12,13] [(12,fun z=>blk z 102 uF),(10,fun A=>blk A 3 ((List.replicate (n+f.length) 0).flatMap fS)),(8,fun D=>blk D 2 ((List.replicate (n+f.length) 0).flatMap fW)),(6,fun G=>blk G 3 ((List.replicate (n+f.length) 0).flatMap fW)),(4,fun H=>blk H 3 ((List.replicate (n+f.length) 0).flatMap fW)),(2,fun J=>blk J 3 ((List.replicate (n+f.length) 0).flatMap fW))] 13 k_ rfl [fun g=>(Za n),fun g=>(Za ((n+f.length:Nat):Int)),fun g=>(Ze (g 2) (n+f.length)),fun g=>(Za ((n+f.length:Nat):Int)),fun g=>(Ze (g 4) (n+f.length)),fun g=>(Za ((n+f.length:Nat):Int)),fun g=>(Ze (g 6) (n+f.length)),fun g=>(Za ((n+f.length:Nat):Int)),fun g=>(Ze (g 8) (n+f.length)),fun g=>(Za ((n+f.length:Nat):Int)),fun g=>(Ze (g 10) (n+f.length)),fun g=>(M7 n (g 2) (n+f.length) (g 4) (g 6) (g 8) (g 10)),fun g=>(Zb (g 12)),fun g=>undef] (fun g=>(MX (g 12) n (g 2) (n+f.length) (g 4) (g 6) (g 8) (g 10) ((List.replicate (n+f.length) 0).flatMap fS) ((List.replicate (n+f.length) 0).flatMap fW) fv f E)) (fun g=>(9,(Zb (g 12))) :: (45,(M7 n (g 2) (n+f.length) (g 4) (g 6) (g 8) (g 10))) :: (44,(Ze (g 10) (n+f.length))) :: (43,(Za ((n+f.length:Nat):Int))) :: (42,(Ze (g 8) (n+f.length))) :: (41,(Za ((n+f.length:Nat):Int))) :: (40,(Ze (g 6) (n+f.length))) :: (39,(Za ((n+f.length:Nat):Int))) :: (38,(Ze (g 4) (n+f.length))) :: (37,(Za ((n+f.length:Nat):Int))) :: (36,(Ze (g 2) (n+f.length))) :: (35,(Za ((n+f.length:Nat):Int))) :: (34,(Za n)) :: _) Y ?_ f_ ?_
 . skip
   refine mR rfl (fun g _ _=>qv rfl rfl (lI (v:=(Za n)) rfl)) (mR rfl (fun g _ _=>qv rfl rfl (lI (v:=(Za ((n+f.length:Nat):Int))) rfl)) (sW K (R:=fun J=>blk J 3 ((List.replicate (n+f.length) 0).flatMap fW)) (val:=fun J=>(Ze J (n+f.length))) s_ (fun _ _=>rfl) (fun g wq L hM N kM=>rZ (cf:=fW) (z0:=0) (m:=(n+f.length)) (c:=(n+f.length)) rfl rfl rfl yd gr rfl f_ d_ (zj _) o_ o_ hM (fun cc _ h=>kM cc _ h)) (fun _ _=>lu rfl sT) (mR rfl (fun g _ _=>qv rfl rfl (lI (v:=(Za ((n+f.length:Nat):Int))) rfl)) (sW K (R:=fun H=>blk H 3 ((List.replicate (n+f.length) 0).flatMap fW)) (val:=fun H=>(Ze H (n+f.length))) s_ (fun _ _=>rfl) (fun g wq L hM N kM=>rZ (cf:=fW) (z0:=0) (m:=(n+f.length)) (c:=(n+f.length)) rfl rfl rfl yd gr rfl f_ d_ (zj _) o_ o_ hM (fun cd _ h=>kM cd _ h)) (fun _ _=>lu rfl sT) (mR rfl (fun g _ _=>qv rfl rfl (lI (v:=(Za ((n+f.length:Nat):Int))) rfl)) (sW K (R:=fun G=>blk G 3 ((List.replicate (n+f.length) 0).flatMap fW)) (val:=fun G=>(Ze G (n+f.length))) s_ (fun _ _=>rfl) (fun g wq L hM N kM=>rZ (cf:=fW) (z0:=0) (m:=(n+f.length)) (c:=(n+f.length)) rfl rfl rfl yd gr rfl f_ d_ (zj _) o_ o_ hM (fun ce _ h=>kM ce _ h)) (fun _ _=>lu rfl sT) (mR rfl (fun g _ _=>qv rfl rfl (lI (v:=(Za ((n+f.length:Nat):Int))) rfl)) ?_)))))))
   refine sW K (R:=fun D=>blk D 2 ((List.replicate (n+f.length) 0).flatMap fW)) (val:=fun D=>(Ze D (n+f.length))) s_ (fun _ _=>rfl) (fun g wq L hM N kM=>rZ (cf:=fW) (z0:=0) (m:=(n+f.length)) (c:=(n+f.length)) rfl rfl rfl ow ti2 rfl f_ d_ (zj _) o_ o_ hM (fun cg _ h=>kM cg _ h)) (fun _ _=>lu rfl sT) (mR rfl (fun g _ _=>qv rfl rfl (lI (v:=(Za ((n+f.length:Nat):Int))) rfl)) (sW K (R:=fun A=>blk A 3 ((List.replicate (n+f.length) 0).flatMap fS)) (val:=fun A=>(Ze A (n+f.length))) s_ (fun _ _=>rfl) (fun g wq L hM N kM=>rZ (cf:=fS) (z0:=0) (m:=(n+f.length)) (c:=(n+f.length)) rfl rfl rfl yd gr rfl f_ d_ (zj _) o_ o_ hM (fun ch _ h=>kM ch _ h)) (fun _ _=>lu rfl sT) (mR rfl (fun g _ _=>qv rfl rfl (Ck (pvs:=[(0,(Za n)),(1,(Ze (g 2) (n+f.length))),(2,(Ze (g 4) (n+f.length))),(3,(Ze (g 6) (n+f.length))),(4,(Ze (g 8) (n+f.length))),(5,(Ze (g 10) (n+f.length)))]) (v:=.agg (Nc n (g 2) (n+f.length) (g 4) (g 6) (g 8) (g 10))) rfl (jo [(0,(Zd n)),(1,(qq (g 2) (n+f.length))),(2,(qq (g 4) (n+f.length))),(3,(qq (g 6) (n+f.length))),(4,(qq (g 8) (n+f.length))),(5,(qq (g 10) (n+f.length)))] wY ac1 rfl ⟨rfl,rfl,rfl,rfl,rfl,rfl,rfl,rfl,rfl,rfl,rfl,rfl,trivial⟩ rfl))) (sW K (R:=fun z=>blk z 102 uF) (val:=fun z=>(Zb z)) s_ (fun _ _=>rfl) (fun g wq L hM N kM=>Fe (cs:=uF) rfl wY rfl hM (fun ci _ h=>kM ci _ h)) (fun _ _=>lu rfl sT) (Kj K (val:=fun b9=>undef) (fun _ _=>rfl) (fun g wq hM N kM=>JT (L' := (MX (g 12) n (g 2) (n+f.length) (g 4) (g 6) (g 8) (g 10) ((List.replicate (n+f.length) 0).flatMap fS) ((List.replicate (n+f.length) 0).flatMap fW) fv f E)) 0 rfl rfl rfl rfl wY rfl rfl hM rfl rfl rfl rfl (fun _ h=>kM 0 _ h)) (fun _ _=>lu rfl sT) ?_)))))
   exact Kk
 intro P Q M
 generalize P 2=J at M ⊢
 generalize P 4=H at M ⊢
 generalize P 6=G at M ⊢
 generalize P 8=D at M ⊢
 generalize P 10=A at M ⊢
 generalize P 12=z at M ⊢
 have al:St _ [blk z 102 [(.int .i64 n),(.slice (some ⟨J,0,none⟩) (n+f.length) (n+f.length)),(.slice (some ⟨H,0,none⟩) (n+f.length) (n+f.length)),(.slice (some ⟨G,0,none⟩) (n+f.length) (n+f.length)),(.slice (some ⟨D,0,none⟩) (n+f.length) (n+f.length)),(.slice (some ⟨A,0,none⟩) (n+f.length) (n+f.length))],blk A 3 ((List.replicate (n+f.length) 0).flatMap fS),blk D 2 ((List.replicate (n+f.length) 0).flatMap fW),blk G 3 ((List.replicate (n+f.length) 0).flatMap fW),blk H 3 ((List.replicate (n+f.length) 0).flatMap fW),fL fW (.slice (some ⟨J,0,none⟩) (n+f.length) (n+f.length)) 3 1 (List.replicate (n+f.length) 0),fL fS fv 3 1 f,blk E 102 [(.int .i64 0),(.slice none 0 0),(.slice none 0 0),(.slice none 0 0),(.slice none 0 0),(.slice none 0 0)]] Q:=kZ (cf:=fW) M (i:=5) rfl f_ (zj _) (by simp only[maxLen];omega)
 generalize (Value.slice (some ⟨J,0,none⟩) (n+f.length) (n+f.length))=j at al ⊢
 have am:St _ [blk z 102 [(.int .i64 n),j,(.slice (some ⟨H,0,none⟩) (n+f.length) (n+f.length)),(.slice (some ⟨G,0,none⟩) (n+f.length) (n+f.length)),(.slice (some ⟨D,0,none⟩) (n+f.length) (n+f.length)),(.slice (some ⟨A,0,none⟩) (n+f.length) (n+f.length))],blk A 3 ((List.replicate (n+f.length) 0).flatMap fS),blk D 2 ((List.replicate (n+f.length) 0).flatMap fW),blk G 3 ((List.replicate (n+f.length) 0).flatMap fW),fL fW (.slice (some ⟨H,0,none⟩) (n+f.length) (n+f.length)) 3 1 (List.replicate (n+f.length) 0),fL fW j 3 1 (List.replicate (n+f.length) 0),fL fS fv 3 1 f,blk E 102 [(.int .i64 0),(.slice none 0 0),(.slice none 0 0),(.slice none 0 0),(.slice none 0 0),(.slice none 0 0)]] Q:=kZ (cf:=fW) al (i:=4) rfl f_ (zj _) (by simp only[maxLen];omega)
 generalize (Value.slice (some ⟨H,0,none⟩) (n+f.length) (n+f.length))=q at am ⊢
 have an:St _ [blk z 102 [(.int .i64 n),j,q,(.slice (some ⟨G,0,none⟩) (n+f.length) (n+f.length)),(.slice (some ⟨D,0,none⟩) (n+f.length) (n+f.length)),(.slice (some ⟨A,0,none⟩) (n+f.length) (n+f.length))],blk A 3 ((List.replicate (n+f.length) 0).flatMap fS),blk D 2 ((List.replicate (n+f.length) 0).flatMap fW),fL fW (.slice (some ⟨G,0,none⟩) (n+f.length) (n+f.length)) 3 1 (List.replicate (n+f.length) 0),fL fW q 3 1 (List.replicate (n+f.length) 0),fL fW j 3 1 (List.replicate (n+f.length) 0),fL fS fv 3 1 f,blk E 102 [(.int .i64 0),(.slice none 0 0),(.slice none 0 0),(.slice none 0 0),(.slice none 0 0),(.slice none 0 0)]] Q:=kZ (cf:=fW) am (i:=3) rfl f_ (zj _) (by simp only[maxLen];omega)
 generalize (Value.slice (some ⟨G,0,none⟩) (n+f.length) (n+f.length))=t at an ⊢
 have ao:St _ [blk z 102 [(.int .i64 n),j,q,t,(.slice (some ⟨D,0,none⟩) (n+f.length) (n+f.length)),(.slice (some ⟨A,0,none⟩) (n+f.length) (n+f.length))],blk A 3 ((List.replicate (n+f.length) 0).flatMap fS),fL fW (.slice (some ⟨D,0,none⟩) (n+f.length) (n+f.length)) 2 1 (List.replicate (n+f.length) 0),fL fW t 3 1 (List.replicate (n+f.length) 0),fL fW q 3 1 (List.replicate (n+f.length) 0),fL fW j 3 1 (List.replicate (n+f.length) 0),fL fS fv 3 1 f,blk E 102 [(.int .i64 0),(.slice none 0 0),(.slice none 0 0),(.slice none 0 0),(.slice none 0 0),(.slice none 0 0)]] Q:=kZ (cf:=fW) an (i:=2) rfl f_ (zj _) (by simp only[maxLen];omega)
 generalize (Value.slice (some ⟨D,0,none⟩) (n+f.length) (n+f.length))=B at ao ⊢
 have aa:St _ [blk z 102 [(.int .i64 n),j,q,t,B,(.slice (some ⟨A,0,none⟩) (n+f.length) (n+f.length))],fL fS (.slice (some ⟨A,0,none⟩) (n+f.length) (n+f.length)) 3 1 (List.replicate (n+f.length) 0),fL fW B 2 1 (List.replicate (n+f.length) 0),fL fW t 3 1 (List.replicate (n+f.length) 0),fL fW q 3 1 (List.replicate (n+f.length) 0),fL fW j 3 1 (List.replicate (n+f.length) 0),fL fS fv 3 1 f,blk E 102 [(.int .i64 0),(.slice none 0 0),(.slice none 0 0),(.slice none 0 0),(.slice none 0 0),(.slice none 0 0)]] Q:=kZ (cf:=fS) ao (i:=1) rfl f_ (zj _) (by simp only[maxLen];omega)
 generalize (Value.slice (some ⟨A,0,none⟩) (n+f.length) (n+f.length))=C at aa ⊢
 refine Ku tt none aa 4 ?_
 refine nY (cf:=i6.cells) (z0:=(⟨0,0⟩:i6)) (m:=n) (c:=n) rfl rfl rfl Tryz.underlying368 F5 rfl f_ d_ (zj _) o_ o_ aa ?_
 intro ap aE br bs aF
 have ab:St _ [fL i6.cells (.slice (some ⟨ap,0,none⟩) n n) 169 2 (List.replicate n (⟨0,0⟩:i6)),blk z 102 [(.int .i64 n),j,q,t,B,C],fL fS C 3 1 (List.replicate (n+f.length) 0),fL fW B 2 1 (List.replicate (n+f.length) 0),fL fW t 3 1 (List.replicate (n+f.length) 0),fL fW q 3 1 (List.replicate (n+f.length) 0),fL fW j 3 1 (List.replicate (n+f.length) 0),fL fS fv 3 1 f,blk E 102 [(.int .i64 0),(.slice none 0 0),(.slice none 0 0),(.slice none 0 0),(.slice none 0 0),(.slice none 0 0)]] aE:=kZ (cf:=i6.cells) aF (i:=0) rfl f_ (zj _) (by simp only[maxLen];omega)
 generalize (Value.slice (some ⟨ap,0,none⟩) n n)=I at ab ⊢
 have aG:=yg [1,6,5,4,3,2,0,7,8] ab
 have aH:=yw 1 aG rfl (congrArg (fL fW j 3 1) (FL (x := -1)))
 have aI:=yw 2 aH rfl (congrArg (fL fW q 3 1) (FL (x := -1)))
 have aJ:=yw 3 aI rfl (congrArg (fL fW t 3 1) (FL (x := -1)))
 refine gD ab 11 ?_
 refine lp (α:=Nat) (fun k=>[(0,(Za n)),(1,v),(4,(Zb E)),(5,Zc),(6,fv),(8,(Za ((n+f.length:Nat):Int))),(9,(Zb z)),(10,I),(48,(Za ((n+f.length:Nat):Int))),(49,(Za k))]) (fun k w1=>St [(w,[])] [blk z 102 (Zr n j q t B C),fL fW j 3 1 (nM (-1) 0 (n+f.length) k),fL fW q 3 1 (nM (-1) 0 (n+f.length) k),fL fW t 3 1 (nM (-1) 0 (n+f.length) k),fL fW B 2 1 (List.replicate (n+f.length) 0),fL fS C 3 1 (List.replicate (n+f.length) 0),fL i6.cells I 169 2 (List.replicate n (⟨0,0⟩:i6)),fL fS fv 3 1 f,blk E 102 uF] w1/\k<=n+f.length) (fun k=>n+f.length-k) 0 ⟨rfl,rfl,rfl,rfl,rfl,rfl,rfl,rfl,rfl,gj rO,trivial⟩ (⟨aJ,o_⟩) ?_
 rintro k bt bu ⟨b4,hk⟩
 have cA:=S0 (x:=(-1:Int)) (y:=0) hk
 refine fR b4 2 ?_
 by_cases bv:((k:Int):Int)<(((n+f.length:Nat):Int):Int)
 . refine gD b4 15 ?_
   refine kC mixed [([0,1,2,3,4,5,6,7,8,9,10],[4,7]),([11,12],[7])] [13,14] b4 (fun bw aq=>jA ?_)
   refine fK aq 10 ?_
   refine iz (f:=(fun _ => -1)) (cf:=fW) 1 aq (fun bx ac=>?_)
   refine fP ac 1 ?_
   refine kn (jA ?_)
   refine fK ac 1 ?_
   refine iz (f:=(fun _ => -1)) (cf:=fW) 2 ac (fun bz ad=>?_)
   refine fP ad 1 ?_
   refine kn (kF ?_)
   refine fK ad 1 ?_
   refine iz (f:=(fun _ => -1)) (cf:=fW) 3 ad (fun bA au=>?_)
   refine fP au 7 ?_
   refine tN (?_)
   have aK:=yw 1 au rfl (congrArg (fL fW j 3 1) (FK o_))
   have aL:=yw 2 aK rfl (congrArg (fL fW q 3 1) (FK o_))
   have aM:=yw 3 aL rfl (congrArg (fL fW t 3 1) (FK o_))
   exact again (k+1) ⟨rfl,rfl,rfl,rfl,rfl,rfl,rfl,rfl,rfl,gj rO,trivial⟩ (⟨aM,o_⟩) (by show (n+f.length-(k+1):Nat)<n+f.length-k;omega)
 . have b5:k=n+f.length:=by omega
   have aN:=yw 1 b4 rfl (congrArg (fL fW j 3 1) ((congrArg (nM (-1) 0 (n+f.length)) b5).trans KU))
   have aO:=yw 2 aN rfl (congrArg (fL fW q 3 1) ((congrArg (nM (-1) 0 (n+f.length)) b5).trans KU))
   have aP:=yw 3 aO rfl (congrArg (fL fW t 3 1) ((congrArg (nM (-1) 0 (n+f.length)) b5).trans KU))
   have aQ:=yw 5 aP rfl (congrArg (fL fS C 3 1) (FL (x:=1)))
   have aR:=yw 6 aQ rfl (congrArg (fL i6.cells I 169 2) (agn))
   refine gD b4 18 ?_
   refine lp (α:=Nat) (fun F=>[(0,(Za n)),(1,v),(4,(Zb E)),(5,Zc),(6,fv),(8,(Za ((n+f.length:Nat):Int))),(9,(Zb z)),(10,I),(65,(Za n)),(66,(Za F))]) (fun F w1=>St [(w,[])] [blk z 102 (Zr n j q t B C),fL fW j 3 1 (List.replicate (n+f.length) (-1)),fL fW q 3 1 (List.replicate (n+f.length) (-1)),fL fW t 3 1 (List.replicate (n+f.length) (-1)),fL fW B 2 1 (List.replicate (n+f.length) 0),fL fS C 3 1 (nM 1 0 (n+f.length) F),fL i6.cells I 169 2 (su n F),fL fS fv 3 1 f,blk E 102 uF] w1/\F<=n) (fun F=>n-F) 0 ⟨rfl,rfl,rfl,rfl,rfl,rfl,rfl,rfl,rfl,gj rO,trivial⟩ (⟨aR,o_⟩) ?_
   rintro F bB bC ⟨b2,co⟩
   have cB:=S0 (x:=(1:Nat)) (y:=0) (show F<=n+f.length by omega)
   have cD:=agl co
   refine fR b2 2 ?_
   by_cases bD:((F:Int):Int)<((n:Int):Int)
   . refine fK b2 21 ?_
     refine iz (f:=(fun _=>1)) (cf:=fS) 5 b2 (fun bE ae=>?_)
     refine fK ae 7 ?_
     refine jc (pvs:=[(0,(Za F)),(1,(Za F))]) (v:=.agg #[(Za F),(Za F)]) rfl rfl (uJ [(0,(Zd F)),(1,(Zd F))] F5 yo gr rfl ⟨rfl,rfl,rfl,rfl,trivial⟩ rfl s_) (fK ae 1 ?_)
     refine iz (f:=(fun _=>(⟨F,F⟩:i6))) 6 ae (fun bF av=>?_)
     refine fP av 7 ?_
     refine tN (?_)
     have aS:=yw 5 av rfl (congrArg (fL fS C 3 1) (FK o_))
     have aT:=yw 6 aS rfl (congrArg (fL i6.cells I 169 2) (agm o_))
     exact again (F+1) ⟨rfl,rfl,rfl,rfl,rfl,rfl,rfl,rfl,rfl,gj rO,trivial⟩ (⟨aT,o_⟩) (by show (n-(F+1):Nat)<n-F;omega)
   . refine fK b2 14 ?_
     refine iM (m:=f.length) 7 rfl rfl yd b2 rfl ?_
     have b8:F=n:=by omega
     have aU:=yw 5 b2 rfl (congrArg (fL fS C 3 1) (((congrArg (nM 1 0 (n+f.length)) b8).trans (by unfold nM;rfl))))
     have aV:=yw 6 aU rfl (congrArg (fL i6.cells I 169 2) ((congrArg (su n) b8).trans agk))
     have aW:=yw 1 aV rfl (congrArg (fL fW j 3 1) (rfl))
     have aX:=yw 2 aW rfl (congrArg (fL fW q 3 1) (rfl))
     have aY:=yw 3 aX rfl (congrArg (fL fW t 3 1) (rfl))
     have aZ:=yw 4 aY rfl (congrArg (fL fW B 2 1) (rfl))
     refine gD b2 4 ?_
     refine lp (α:=Nat×List i6) (fun(i,us)=>[(0,(Za n)),(1,v),(4,(Zb E)),(5,Zc),(6,fv),(9,(Zb z)),(10,I),(80,fv),(81,(Za f.length)),(82,(Za i))]) (fun(i,us) w1=>St [(w,[])] [blk z 102 (Zr n j q t B C),fL fW j 3 1 ((gL es n f i).l),fL fW q 3 1 ((gL es n f i).r),fL fW t 3 1 ((gL es n f i).p),fL fW B 2 1 ((gL es n f i).h),fL fS C 3 1 ((gL es n f i).s),fL i6.cells I 169 2 us,fL fS fv 3 1 f,blk E 102 uF] w1/\i<=f.length/\qM es n f i us) (fun(i,us)=>f.length-i) (0,((List.range n).map fun i=>⟨i,i⟩)) ⟨rfl,rfl,rfl,rfl,rfl,rfl,rfl,rfl,rfl,gj rO,trivial⟩ (⟨aZ,o_,qM.start⟩) ?_
     rintro⟨i,us⟩ bG a0 ⟨bk,hi,hT⟩
     obtain⟨ct,cu,cv,cw,cx,cy⟩:=Bt (es:=es) (n:=n) (f:=f) i
     have cC:=hT.un.len
     refine fR bk 2 ?_
     by_cases bH:((i:Int):Int)<((f.length:Int):Int)
     . have b1:i<f.length:=by omega
       have cz:fJ f i<es.length:=bY.lt (zd (gy b1))
       obtain⟨cp,cq,cj,ck,b6⟩:=hT.at hg b1 (fun k hk=>bY.lt hk) (bY.mJ b1)
       obtain⟨T,bZ⟩:∃ x,(fJ (iF es n (f.take i)) (fJ es (fJ f i)).u)=x:=⟨_,rfl⟩
       obtain⟨y7,b0⟩:∃ x,(fJ (iF es n (f.take i)) (fJ es (fJ f i)).v)=x:=⟨_,rfl⟩
       refine fK bk 1 ?_
       rw[bZ]at cj b6
       rw[b0]at ck b6
       obtain⟨cm,cn,b7⟩:=hT.two hg b1 (fun k hk=>bY.lt hk) (bY.mJ b1) bZ b0
       refine fK bk 21 ?_
       refine ar (e:=((n+i:Nat):Int)) rfl rfl rfl rfl iW (gD bk 4 ?_)
       have a1:=yg [6,0,1,2,3,4,5,7,8] bk
       have a2:St _ [(Un.R I n (iF es n (f.take i)) (gL es n f i).d us),blk z 102 (Zr n j q t B C),fL fW j 3 1 ((gL es n f i).l),fL fW q 3 1 ((gL es n f i).r),fL fW t 3 1 ((gL es n f i).p),fL fW B 2 1 ((gL es n f i).h),fL fS C 3 1 ((gL es n f i).s),fL fS fv 3 1 f,blk E 102 uF] a0:=yt a1 ⟨hT.un,hT.dd⟩
       refine kC mixed [([0,1,2,3,4,5,7,8,9,10,11,12,6],[12])] [13,14,15] a2 (fun a3 af=>jA ?_)
       refine fK af 12 ?_
       refine cl Pf (T9 I n (iF es n (f.take i)) (gL es n f i).d us a3 (ye af 0 rfl) o_ ((fJ es (fJ f i)).u) o_ bZ) ?_
       rintro _ a4 ⟨a5,rfl,ht⟩
       have ag:=yj 0 af ht
       refine fP ag 1 ?_
       refine kn (kF ?_)
       refine cl Pf (T9 I n (iF es n (f.take i)) (gL es n f i).d a5 a4 (ye ag 0 rfl) o_ ((fJ es (fJ f i)).v) o_ b0) ?_
       rintro _ bI ⟨O,rfl,ht⟩
       have S:=yj 0 ag ht
       refine fK S 8 ?_
       refine min2 (a:=(T:Int)) (b:=(y7:Int)) (c:=((min T y7:Nat):Int)) rfl rfl rfl Fm (fK S 2 ?_)
       refine max2 (a:=(T:Int)) (b:=(y7:Int)) (c:=((max T y7:Nat):Int)) rfl rfl rfl Re ?_
       have U:=sC S
       have a6:=ku S
       have V:=U.2 (min T y7) o_
       have W:=U.2 (max T y7) o_
       have cE:=U.1.len
       refine gD S 5 ?_
       rw[<-V]at cm b7
       rw[<-W]at cn b7
       refine nN a6 4 fun bJ X=>?_
       refine uS (cf:=i6.cells) (k:=(min T y7)) (off:=0) (off' := 1) (i:=1) rfl rfl rfl yo gr d_ rfl (y0 X 0 rfl) (gy om) (fK X 4 ?_)
       refine uS (cf:=i6.cells) (k:=(max T y7)) (off:=0) (off' := 1) (i:=1) rfl rfl rfl yo gr d_ rfl (y0 X 0 rfl) (gy om) (gD X 6 ?_)
       refine kC mixed [([0,1,2,3,4,5,6,7,8,9],[4])] [10,11] X (fun bK aw=>jA ?_)
       refine fK aw 9 ?_
       refine iz (f:=(fun _=>((fJ O (min T y7)).b:Int))) 2 aw (fun bL ah=>?_)
       refine fP ah 1 ?_
       refine kn (kF ?_)
       refine fK ah 1 ?_
       refine iz (f:=(fun _=>((fJ O (max T y7)).b:Int))) 3 ah (fun bM ax=>?_)
       refine gD ax 3 ?_
       refine kC mixed [([0,1,2,3,4,5,6,7,8,9],[4])] [10,11] ax (fun bN ay=>jA ?_)
       refine fK ay 9 ?_
       refine iz (f:=(fun _=>((n+i:Nat):Int))) 4 ay (fun bO ai=>?_)
       refine fP ai 1 ?_
       refine kn (kF ?_)
       refine fK ai 1 ?_
       refine iz (f:=(fun _=>((n+i:Nat):Int))) 4 ai (fun bP a7=>?_)
       refine gI a7 13 fun bQ a8=>?_
       refine iz (f:=(fun _=>(fJ es (fJ f i)).w)) 5 a8 (fun bR a9=>?_)
       refine gI a9 17 fun bS az=>?_
       refine ar (e:=(((fJ ((gL es n f i).s) ((fJ O (min T y7)).b))+(fJ ((gL es n f i).s) ((fJ O (max T y7)).b)):Nat):Int)) rfl rfl rfl rfl iW (fK az 1 ?_)
       refine iz (f:=(fun _=>((fJ ((gL es n f i).s) ((fJ O (min T y7)).b))+(fJ ((gL es n f i).s) ((fJ O (max T y7)).b))))) 6 az (fun bT ba=>?_)
       refine gI ba 10 fun bU aA=>?_
       refine uS (cf:=i6.cells) (k:=(max T y7)) (off:=0) (off' := 0) (i:=0) rfl rfl rfl yo gr d_ rfl (y0 aA 0 rfl) (gy om) (iz (f:=(fun x:i6=>{ x with a:=(min T y7) })) 0 aA (fun bV aj=>?_))
       refine fK aj 1 ?_
       refine uS (cf:=i6.cells) (k:=(min T y7)) (off:=0) (off' := 1) (i:=1) rfl rfl rfl yo gr d_ rfl (y0 aj 0 rfl) (gy om) (iz (f:=(fun x:i6=>{ x with b:=(n+i) })) 0 aj (fun bW aB=>?_))
       refine fP aB 7 ?_
       refine tN (?_)
       have bb:=yg [1,2,3,4,5,6,0,7,8] aB
       have bc:=yw 1 bb rfl (congrArg (fL fW j 3 1) (by subst bZ b0;simp only[V,W];rfl))
       have bd:=yw 2 bc rfl (congrArg (fL fW q 3 1) (by subst bZ b0;simp only[V,W];rfl))
       have be:=yw 3 bd rfl (congrArg (fL fW t 3 1) (by subst bZ b0;simp only[V,W];rfl))
       have bf:=yw 4 be rfl (congrArg (fL fW B 2 1) (rfl))
       have bg:=yw 5 bf rfl (congrArg (fL fS C 3 1) (by subst bZ b0;simp only[V,W];rfl))
       exact again ((i+1),fM (fM O (max T y7) (fun x=>{ x with a:=(min T y7) })) (min T y7) (fun x=>{ x with b:=(n+i) })) ⟨rfl,rfl,rfl,rfl,rfl,rfl,rfl,rfl,rfl,gj rO,trivial⟩ (⟨bg,o_,hT.next hg b1 (fun k hk=>bY.lt hk) (bY.mJ b1) U.1 U.2 (by subst bZ b0;rfl)⟩) (by show (f.length-(i+1):Nat)<f.length-i;omega)
     . refine fK bk 13 ?_
       refine jM 8 bk (fun bX ak=>?_) (h1:=(gX rfl (gX (yr bk (i:=1) rfl) (gX (yr bk (i:=2) rfl) (gX (yr bk (i:=3) rfl) (gX (yr bk (i:=4) rfl) (gX (yr bk (i:=5) rfl) j4)))))))
       refine fP ak 4 ?_
       refine oO (v:=(B0 n j q t B C)) (v' := Zc) Tryz.results182 (oc (cs:=(Zr n j q t B C)) rfl Tryz.underlying102 rfl wY rfl (me ak (i:=8) (o:=0) (vs:=(Zr n j q t B C)) rfl rfl)) (pH rfl) ?_
       have b3:i=f.length:=by omega
       have bh:=yw 1 ak rfl (congrArg (fL fW j 3 1) (by rw[b3]<;>rfl))
       have bi:=yw 2 bh rfl (congrArg (fL fW q 3 1) (by rw[b3]<;>rfl))
       have bj:=yw 3 bi rfl (congrArg (fL fW t 3 1) (by rw[b3]<;>rfl))
       have bl:=yw 4 bj rfl (congrArg (fL fW B 2 1) (by rw[b3]<;>rfl))
       have bm:=yw 5 bl rfl (congrArg (fL fS C 3 1) (by rw[b3]<;>rfl))
       have bn:=yg [1,2,3,4,5] bm
       exact⟨f,j,q,t,B,C,rfl,bY,nS (yc [_,_,_,_,_] _ bn)⟩
end
section
open Go Go.Sx
structure mY (w:World) (es:List Ge) (n:Nat) (f:List Nat) (tl tr tp th ts:Value):Prop where
 l:gY 1 fW (fun _=>True) w tl (gf es n f).l
 r:gY 1 fW (fun _=>True) w tr (gf es n f).r
 p:gY 1 fW (fun _=>True) w tp (gf es n f).p
 h:gY 1 fW (fun _=>True) w th (gf es n f).h
 s:gY 1 fS (fun _=>True) w ts (gf es n f).s
theorem mY.to{bs:List (World×List Nat)}{L:List fT}{w w0:World}{es:List Ge}{n:Nat}{f:List Nat}{b d c a e:Value}(h:mY w0 es n f b d c a e)(hs:St bs L w)(hb:(w0,[])∈bs):mY w es n f b d c a e :=
 ⟨yy hs hb d_ h.l,yy hs hb d_ h.r,yy hs hb d_ h.p,yy hs hb d_ h.h,yy hs hb d_ h.s⟩
theorem aa1(es:List Ge)(n:Nat)(f:List Nat)(o:iU es n f)(I:n<=4096)(t y u q z:Value)(w:World)(m:mY w es n f t y u q z)(x:Nat)(A:x<n) :
 CR ya 262 (BZ n t y u q z x) w (fun r w' => r = .bool true/\gw [] w w'):=by
 obtain⟨D,E,F,G,H⟩:=nQ (es:=es) (n:=n) (f:=f)
 have C:=o.f.room o.g
 refine en Tryz.func262 Tryz.ntmps262 ?_
 have p:=yu w
 obtain⟨a1,a2,a3,B⟩:fJ (gf es n f).l x = -1/\fJ (gf es n f).r x = -1/\fJ (gf es n f).h x=0/\fJ (gf es n f).s x=1:=o.v.a x A
 refine fR p 2 ?_
 refine iC p (fun c d e j b=>?_)
 refine fK b 8 ?_
 refine iJ (k:=x) (i:=(x:Int)) rfl rfl rfl yd gr m.l o_ o_ (gy o_) (jd rfl rfl yf rfl (yy b s_ d_ m.l) (gy o_) rfl (cmp rfl rfl rfl (rV o_) (fK b 4 ?_)))
 refine iJ (k:=x) (i:=(x:Int)) rfl rfl rfl yd gr m.r o_ o_ (gy o_) (jd rfl rfl yf rfl (yy b s_ d_ m.r) (gy o_) rfl (cmp rfl rfl rfl (rV o_) (fK b 5 ?_)))
 refine iJ (k:=x) (i:=(x:Int)) rfl rfl rfl ow ti2 m.h o_ o_ (gy o_) (jd rfl rfl vw rfl (yy b s_ d_ m.h) (gy o_) rfl (cmp rfl rfl rfl (rV o_) (fK b 5 ?_)))
 refine iJ (k:=x) (i:=(x:Int)) rfl rfl rfl yd gr m.s o_ o_ (gy o_) (jd rfl rfl yf rfl (yy b s_ d_ m.s) (gy o_) rfl (cmp rfl rfl rfl (rV o_) (fP b 5 ?_)))
 refine gq (v:=Zh) Tryz.results262 rfl ?_
 exact⟨rfl,b.gA s_⟩
theorem aar(es:List Ge)(n:Nat)(f:List Nat)(D:iU es n f)(hn:n<=4096)(L N M K O:Value)(w:World)(C:mY w es n f L N M K O)(i:Nat)(hi:i<f.length)(ev:Value)(le:List Nat)(Z:gY 1 fS (fun _=>True) w ev le)(Q:le[nL es n f i]? = some (gQ es n f (nL es n f i)))(R:le[nR es n f i]? = some (gQ es n f (nR es n f i))) :
 CR ya 264 #[(B0 n L N M K O),ev,(Za ((n+i:Nat):Int))] w (fun r w' => r = .bool true/\gw [] w w'):=by
 obtain⟨ab,ac,ad,ae,af⟩:=nQ (es:=es) (n:=n) (f:=f)
 have aa:=D.f.room D.g
 refine en Tryz.func264 Tryz.ntmps264 ?_
 have J:=yu w
 obtain⟨e1,F,G,H,I,U,V,W,X,S⟩:=D.inner hi
 obtain⟨k1,k2,k3⟩:=D.wh hi
 have s1:=(D.st hi).1
 have ag:fJ (gf es n f).s (nL es n f i)<=n:=by omega
 have ah:fJ (gf es n f).s (nR es n f i)<=n:=by omega
 refine fR J 2 ?_
 refine iC J (fun o q t u j=>?_)
 refine gI j 8 fun x a=>?_
 refine iJ (k:=(n+i)) (i:=((n+i:Nat):Int)) rfl rfl rfl yd gr C.l o_ o_ e1 (jd rfl rfl yf rfl (yy a s_ d_ C.l) e1 rfl (fK a 3 ?_))
 refine iJ (k:=(n+i)) (i:=((n+i:Nat):Int)) rfl rfl rfl yd gr C.r o_ o_ F (jd rfl rfl yf rfl (yy a s_ d_ C.r) F rfl (fK a 8 ?_))
 refine cmp rfl rfl rfl (lG o_) (fK a 3 ?_)
 refine cmp rfl rfl rfl (p5 o_) (fK a 3 ?_)
 refine cmp rfl rfl rfl (lG o_) (fK a 4 ?_)
 refine cmp rfl rfl rfl (p5 o_) (fK a 4 ?_)
 refine cmp rfl rfl rfl (vU o_) (gI a 12 fun z c=>?_)
 refine iJ (k:=(nL es n f i)) (i:=(((nL es n f i):Nat):Int)) rfl rfl rfl yd gr C.p o_ o_ H (jd rfl rfl yf rfl (yy c s_ d_ C.p) H rfl (fK c 1 ?_))
 refine cmp rfl rfl rfl (o7 o_) (fK c 4 ?_)
 refine iJ (k:=(nR es n f i)) (i:=(((nR es n f i):Nat):Int)) rfl rfl rfl yd gr C.p o_ o_ I (jd rfl rfl yf rfl (yy c s_ d_ C.p) I rfl (fK c 1 ?_))
 refine cmp rfl rfl rfl (o7 o_) (fK c 10 ?_)
 refine cmp rfl rfl rfl (p5 o_) (gI c 12 fun A d=>?_)
 refine iJ (k:=(n+i)) (i:=((n+i:Nat):Int)) rfl rfl rfl yd gr C.s o_ o_ (gy o_) (jd rfl rfl yf rfl (yy d s_ d_ C.s) (gy o_) rfl (fK d 3 ?_))
 refine iJ (k:=(nL es n f i)) (i:=(((nL es n f i):Nat):Int)) rfl rfl rfl yd gr C.s o_ o_ (gy o_) (jd rfl rfl yf rfl (yy d s_ d_ C.s) (gy o_) rfl (fK d 3 ?_))
 refine iJ (k:=(nR es n f i)) (i:=(((nR es n f i):Nat):Int)) rfl rfl rfl yd gr C.s o_ o_ (gy o_) (jd rfl rfl yf rfl (yy d s_ d_ C.s) (gy o_) rfl (ar (e:=(((fJ (gf es n f).s (nL es n f i))+(fJ (gf es n f).s (nR es n f i)):Nat):Int)) rfl rfl rfl rfl iW (cmp rfl rfl rfl (o7 o_) ?_)))
 have P:¬ ((n+i:Nat):Int)=(n:Int)->∃ y,(gf es n f).h[n+i-1]? = some y/\y<=(fJ es (fJ f i)).w:=fun Y=>⟨_,by have e:=(D.inner (show i-1<f.length by omega)).2.2.1;rwa [show n+(i-1)=n+i-1 by omega]at e,by have e:=D.f.lF (i:=i-1) o_;rwa [show i-1+1=i by omega]at e⟩
 refine gI d 10 fun B b=>?_
 by_cases m:(((n+i:Nat):Int):Int)=((n:Int):Int)
 . refine fP b 19 ?_
   refine gq (v:=Zh) Tryz.results264 rfl ?_
   exact⟨rfl,b.gA s_⟩
 . obtain⟨ai,E,T⟩:=P m
   refine fK b 5 ?_
   refine iJ (k:=(n+i)) (i:=((n+i:Nat):Int)) rfl rfl rfl ow ti2 C.h o_ o_ G (jd rfl rfl vw rfl (yy b s_ d_ C.h) G rfl (fK b 3 ?_))
   refine ar (e:=((n+i-1:Nat):Int)) rfl rfl rfl rfl iW (iJ (k:=(n+i-1)) (i:=((n+i-1:Nat):Int)) rfl rfl rfl ow ti2 C.h o_ o_ E (jd rfl rfl vw rfl (yy b s_ d_ C.h) E rfl (cmp rfl rfl rfl (nG o_) (fP b 5 ?_))))
   refine gq (v:=Zh) Tryz.results264 rfl ?_
   exact⟨rfl,b.gA s_⟩
theorem Vh(es:List Ge)(n:Nat)(f:List Nat)(h:iU es n f)(D:n<=4096)(o s q m t:Value)(w:World)(j:mY w es n f o s q m t)(y:Nat)(E:y<n+f.length)(h1:(gf es n f).p[y]? = some (-1)) :
 CR ya 266 (BZ n o s q m t y) w (fun r w' => r = .bool true/\gw [] w w'):=by
 obtain⟨x,z,A,B,C⟩:=nQ (es:=es) (n:=n) (f:=f)
 have u:=h.f.room h.g
 refine en Tryz.func266 Tryz.ntmps266 ?_
 have l:=yu w
 refine fR l 2 ?_
 refine iC l (fun b c d e a=>?_)
 refine fK a 8 ?_
 refine iJ (k:=y) (i:=(y:Int)) rfl rfl rfl yd gr j.p o_ o_ h1 (jd rfl rfl yf rfl (yy a s_ d_ j.p) h1 rfl (fK a 7 ?_))
 refine cmp rfl rfl rfl (rV o_) (fP a 10 ?_)
 refine gq (v:=Zh) Tryz.results266 rfl ?_
 exact⟨rfl,a.gA s_⟩
theorem Vl(es:List Ge)(n:Nat)(f:List Nat)(j:iU es n f)(O:n<=4096)(s t m q u:Value)(w:World)(h:mY w es n f s t m q u)(y i:Nat)(hi:i<f.length)(h1:(gf es n f).p[y]? = some ((n+i:Nat):Int))(H:y=nL es n f i) :
 CR ya 266 (BZ n s t m q u y) w (fun r w' => r = .bool true/\gw [] w w'):=by
 obtain⟨J,K,L,M,N⟩:=nQ (es:=es) (n:=n) (f:=f)
 have I:=j.f.room j.g
 have P:y<n+f.length:=by obtain⟨_,_,_,_,_,_,_,x,z,_⟩:=j.inner hi;omega
 refine en Tryz.func266 Tryz.ntmps266 ?_
 have o:=yu w
 obtain⟨e1,B,C,D,E,F,G,x,z,A⟩:=j.inner hi
 refine fR o 2 ?_
 refine iC o (fun b c d e a=>?_)
 refine fK a 8 ?_
 refine iJ (k:=y) (i:=(y:Int)) rfl rfl rfl yd gr h.p o_ o_ h1 (jd rfl rfl yf rfl (yy a s_ d_ h.p) h1 rfl (fK a 7 ?_))
 refine cmp rfl rfl rfl (vU o_) (fK a 8 ?_)
 refine cmp rfl rfl rfl (nG o_) (fK a 4 ?_)
 refine j8 (v:=m) rfl rfl yd h.p (cmp rfl rfl rfl (pZ o_) (fK a 5 ?_))
 refine iJ (k:=(n+i)) (i:=((n+i:Nat):Int)) rfl rfl rfl yd gr h.l o_ o_ e1 (jd rfl rfl yf rfl (yy a s_ d_ h.l) e1 rfl (fK a 1 ?_))
 refine cmp rfl rfl rfl (rV o_) (fP a 14 ?_)
 refine gq (v:=Zh) Tryz.results266 rfl ?_
 exact⟨rfl,a.gA s_⟩
theorem Vm(es:List Ge)(n:Nat)(f:List Nat)(j:iU es n f)(O:n<=4096)(t u m s x:Value)(w:World)(h:mY w es n f t u m s x)(y i:Nat)(hi:i<f.length)(h1:(gf es n f).p[y]? = some ((n+i:Nat):Int))(H:y=nR es n f i) :
 CR ya 266 (BZ n t u m s x y) w (fun r w' => r = .bool true/\gw [] w w'):=by
 obtain⟨J,K,L,M,N⟩:=nQ (es:=es) (n:=n) (f:=f)
 have I:=j.f.room j.g
 have P:y<n+f.length:=by obtain⟨_,_,_,_,_,_,_,z,A,_⟩:=j.inner hi;omega
 refine en Tryz.func266 Tryz.ntmps266 ?_
 have q:=yu w
 obtain⟨e1,o,C,D,E,F,G,z,A,B⟩:=j.inner hi
 refine fR q 2 ?_
 refine iC q (fun b c d e a=>?_)
 refine fK a 8 ?_
 refine iJ (k:=y) (i:=(y:Int)) rfl rfl rfl yd gr h.p o_ o_ h1 (jd rfl rfl yf rfl (yy a s_ d_ h.p) h1 rfl (fK a 7 ?_))
 refine cmp rfl rfl rfl (vU o_) (fK a 8 ?_)
 refine cmp rfl rfl rfl (nG o_) (fK a 4 ?_)
 refine j8 (v:=m) rfl rfl yd h.p (cmp rfl rfl rfl (pZ o_) (fK a 5 ?_))
 refine iJ (k:=(n+i)) (i:=((n+i:Nat):Int)) rfl rfl rfl yd gr h.l o_ o_ e1 (jd rfl rfl yf rfl (yy a s_ d_ h.l) e1 rfl (fK a 1 ?_))
 refine cmp rfl rfl rfl (vU o_) (fK a 4 ?_)
 refine iJ (k:=(n+i)) (i:=((n+i:Nat):Int)) rfl rfl rfl yd gr h.r o_ o_ o (jd rfl rfl yf rfl (yy a s_ d_ h.r) o rfl (fK a 1 ?_))
 refine cmp rfl rfl rfl (rV o_) (fP a 6 ?_)
 refine gq (v:=Zh) Tryz.results266 rfl ?_
 exact⟨rfl,a.gA s_⟩
theorem Vn(es:List Ge)(n:Nat)(f:List Nat)(h:iU es n f)(l:n<=4096)(b d c a e:Value)(w:World)(k:mY w es n f b d c a e)(y:Nat)(o:y<n+f.length) :
 CR ya 266 (BZ n b d c a e y) w (fun r w' => r = .bool true/\gw [] w w'):=by
 rcases h.par o with g|⟨i,g,m,j|j⟩
 . exact Vh es n f h l b d c a e w k y o g
 . exact Vl es n f h l b d c a e w k y i g m j
 . exact Vm es n f h l b d c a e w k y i g m j
theorem aaq(es:List Ge)(n:Nat)(f:List Nat)(g:iU es n f)(p:n<=4096)(b d c a e:Value)(w:World)(m:mY w es n f b d c a e)(x:Nat)(q:n<=x)(s:x<n+f.length)(ev:Value)(le:List Nat)(o:gY 1 fS (fun _=>True) w ev le)(h:∀ k,k<x->le[k]? = some (gQ es n f k)) :
 CR ya 264 #[(B0 n b d c a e),ev,(Za x)] w (fun r w' => r = .bool true/\gw [] w w'):=by
 obtain⟨i,rfl⟩:∃ i,x=n+i:=⟨x-n,o_⟩
 obtain⟨_,_,_,_,_,_,_,j,l,_⟩:=g.inner (show i<f.length by omega)
 exact aar es n f g p b d c a e w m i o_ ev le o (h _ j) (h _ l)
theorem Wd(es:List Ge)(n:Nat)(f:List Nat)(l:iU es n f)(o:n<=4096)(h j i g k:Value)(w:World)(m:mY w es n f h j i g k)(tb:Nat) (hb:(blk tb 102 (Zr n h j i g k)).holds w) (x:Nat) (p:x<n+f.length) :
 CR ya 261 (BX x tb) w (fun r w' => r = .bool true/\gw [] w w'):=by
 refine en Tryz.func261 Tryz.ntmps261 ?_
 have e:=yu w
 refine fR e 10 ?_
 by_cases c:((x:Int):Int)≥((n:Int):Int)
 . refine fP e 10 ?_
   refine gq (v:=Zh) Tryz.results261 rfl ?_
   exact⟨rfl,e.gA s_⟩
 . refine fK e 4 ?_
   refine cl XP (aa1 es n f l o h j i g k w m x o_) ?_
   rintro _ d ⟨rfl,b⟩
   have a:=yp e b
   refine fP a 5 ?_
   refine gq (v:=Zh) Tryz.results261 rfl ?_
   exact⟨rfl,a.gA s_⟩
theorem We(es:List Ge)(n:Nat)(f:List Nat)(m:iU es n f)(s:n<=4096)(h j i g l:Value)(w:World)(o:mY w es n f h j i g l)(tb:Nat) (hb:(blk tb 102 (Zr n h j i g l)).holds w)(lb:Nat) (ev:Value) (le:List Nat) (u:(blk lb 37 [ev]).holds w) (p:gY 1 fS (fun _=>True) w ev le) (x:Nat) (t:x<n+f.length) (q:∀ k,k<x->le[k]? = some (gQ es n f k)) :
 CR ya 263 #[(Za x),(Zb tb),(Zb lb)] w (fun r w' => r = .bool true/\gw [] w w'):=by
 refine en Tryz.func263 Tryz.ntmps263 ?_
 have e:=yu w
 refine fR e 10 ?_
 by_cases c:((x:Int):Int)<((n:Int):Int)
 . refine fP e 11 ?_
   refine gq (v:=Zh) Tryz.results263 rfl ?_
   exact⟨rfl,e.gA s_⟩
 . refine fK e 5 ?_
   refine cl XR (aaq es n f m s h j i g l w o x o_ t ev le p q) ?_
   rintro _ d ⟨rfl,b⟩
   have a:=yp e b
   refine fP a 5 ?_
   refine gq (v:=Zh) Tryz.results263 rfl ?_
   exact⟨rfl,a.gA s_⟩
theorem Wf(es:List Ge)(n:Nat)(f:List Nat)(k:iU es n f)(m:n<=4096)(e h g d i:Value)(w:World)(l:mY w es n f e h g d i)(tb:Nat) (hb:(blk tb 102 (Zr n e h g d i)).holds w) (x:Nat) (o:x<n+f.length) :
 CR ya 265 (BX x tb) w (fun r w' => r = .bool true/\gw [] w w'):=by
 refine en Tryz.func265 Tryz.ntmps265 ?_
 have j:=yu w
 refine fR j 9 ?_
 refine cl XT (Vn es n f k m e h g d i w l x o) ?_
 rintro _ c ⟨rfl,b⟩
 have a:=yp j b
 refine fP a 4 ?_
 refine gq (v:=Zh) Tryz.results265 rfl ?_
 exact⟨rfl,a.gA s_⟩
theorem aac(es:List Ge)(n:Nat)(f:List Nat)(y:iU es n f)(A:n<=4096)(q t s p u:Value)(w:World)(z:mY w es n f q t s p u)(tb:Nat) (hb:(blk tb 102 (Zr n q t s p u)).holds w)(lb:Nat) (ev:Value) (le:List Nat) (D:(blk lb 37 [ev]).holds w) (C:gY 1 fS (fun _=>True) w ev le)(cb:Nat) (cv:Value) (F:(blk cb 381 [cv]).holds w) (m:gY 1 P6 (fun _=>True) w cv (B3 tb lb)) (x:Nat) (B:x<n+f.length) (E:∀ k,k<x->le[k]? = some (gQ es n f k)) :
 CR ya 267 (BX x cb) w (fun r w' => r = .bool true/\gw [] w w'):=by
 refine en Tryz.func267 Tryz.ntmps267 ?_
 have o:=yu w
 refine fR o 9 ?_
 refine j8 (v:=cv) rfl rfl Bx m (gD o 4 ?_)
 refine ry 4 (iG (fR o 2 ?_))
 refine cmp rfl rfl rfl (pZ s_) (fK o 10 ?_)
 refine iJ (k:=0) (i:=0) rfl rfl rfl Bx C9 m o_ o_ rfl (jd rfl rfl Tryz.underlying227 rfl m rfl rfl (fK o 7 ?_))
 refine nV (fi:=[]) (ca:=(Zf tb)) rfl rfl rfl XO (Wd es n f y A q t s p u w z tb hb x B) ?_
 rintro _ d ⟨rfl,e⟩
 have a:=yp o e
 refine fP a 11 ?_
 refine tN (?_)
 refine iG (fR a 2 ?_)
 refine cmp rfl rfl rfl (pZ s_) (fK a 10 ?_)
 refine iJ (k:=1) (i:=1) rfl rfl rfl Bx C9 m o_ o_ rfl (jd rfl rfl Tryz.underlying227 rfl (yy a s_ d_ m) rfl rfl (fK a 7 ?_))
 refine nV (fi:=[]) (ca:=(qp tb lb)) rfl rfl rfl XQ (We es n f y A q t s p u d (z.to a s_) tb (St.xZ a s_ hb) lb ev le (St.xZ a s_ D) (yy a s_ d_ C) x B E) ?_
 rintro _ g ⟨rfl,h⟩
 have b:=yp a h
 refine fP b 11 ?_
 refine tN (?_)
 refine iG (fR b 2 ?_)
 refine cmp rfl rfl rfl (pZ s_) (fK b 10 ?_)
 refine iJ (k:=2) (i:=2) rfl rfl rfl Bx C9 m o_ o_ rfl (jd rfl rfl Tryz.underlying227 rfl (yy b s_ d_ m) rfl rfl (fK b 7 ?_))
 refine nV (fi:=[]) (ca:=(Zf tb)) rfl rfl rfl XS (Wf es n f y A q t s p u g (z.to b s_) tb (St.xZ b s_ hb) x B) ?_
 rintro _ l ⟨rfl,j⟩
 have c:=yp b j
 refine fP c 11 ?_
 refine tN (?_)
 refine iG (fR c 2 ?_)
 refine cmp rfl rfl rfl (lG s_) (fP c 15 ?_)
 refine gq (v:=Zh) Tryz.results267 rfl ?_
 exact⟨rfl,c.gA s_⟩
theorem Q1(es:List Ge)(n:Nat)(f:List Nat)(hF:iU es n f)(hn:n<=4096)(tl tr tp th ts:Value)(w:World)(F:mY w es n f tl tr tp th ts) :
 CR ya 195 (DO n tl tr tp th ts) w (fun r w' => ∃ (v:Value),r = .tuple #[v,.bool true]/\fV (gm []) w w' (Z7 v ((List.range (n+f.length)).map (gQ es n f)))):=by
 obtain⟨az,aA,aw,aB,aC⟩:=nQ (es:=es) (n:=n) (f:=f)
 have ax:=hF.f.room hF.g
 refine en Tryz.func195 Tryz.ntmps195 ?_
 have au:=yu w
 refine fR au 2 ?_
 refine iC au (fun b S U V a=>?_)
 refine fK a 8 ?_
 refine j8 (v:=tp) rfl rfl yd F.p (fK a 8 ?_)
 refine cmp rfl rfl rfl (lG o_) (fK a 3 ?_)
 refine cmp rfl rfl rfl (qx o_) (fK a 5 ?_)
 refine cmp rfl rfl rfl (lG o_) (fK a 6 ?_)
 refine cmp rfl rfl rfl (qx o_) (fK a 11 ?_)
 refine j8 (v:=tl) rfl rfl yd F.l (fK a 1 ?_)
 refine cmp rfl rfl rfl (o7 o_) (fK a 3 ?_)
 refine j8 (v:=tr) rfl rfl yd F.r (fK a 1 ?_)
 refine cmp rfl rfl rfl (o7 o_) (fK a 4 ?_)
 refine j8 (v:=th) rfl rfl ow F.h (fK a 1 ?_)
 refine cmp rfl rfl rfl (o7 o_) (fK a 4 ?_)
 refine j8 (v:=ts) rfl rfl yd F.s (fK a 1 ?_)
 refine cmp rfl rfl rfl (o7 o_) (fK a 9 ?_)
 refine nY (cf:=fS) (z0:=0) (m:=((gf es n f).p.length)) (c:=((gf es n f).p.length)) rfl rfl rfl yd gr rfl f_ d_ (zj _) o_ o_ a ?_
 intro A G W X H
 have B:St _ [fL fS (.slice (some ⟨A,0,none⟩) ((gf es n f).p.length) ((gf es n f).p.length)) 3 1 (List.replicate ((gf es n f).p.length) 0),blk b 102 [(.int .i64 n),tl,tr,tp,th,ts]] G:=kZ (cf:=fS) H (i:=0) rfl f_ (zj _) (by simp only[maxLen];omega)
 generalize (Value.slice (some ⟨A,0,none⟩) ((gf es n f).p.length) ((gf es n f).p.length))=d at B ⊢
 refine iE B (fun e Y Z aa u=>?_)
 refine jM 0 u (fun ab C=>?_) (hvs:=(cells_one (yr u (i:=1) rfl))) (h1:=(gX (yr u (i:=1) rfl) j4))
 refine fK C 4 ?_
 refine mO (vf:=[]) (vc:=(Zf b)) rfl rfl rfl (mO (vf:=[]) (vc:=(qp b e)) rfl rfl rfl (mO (vf:=[]) (vc:=(Zf b)) rfl rfl rfl (jJ (vs:=(B3 b e)) (cs:=(B3 b e)) rfl rfl Bx C9 rfl (by simp[Value.cells]) rfl rfl rfl C (fun x ac ad ae I=>iE I (fun q af ag ah J=>?_)))))
 refine gI J 5 fun ai D=>?_
 refine mO (vf:=[]) (vc:=(Zf q)) rfl rfl rfl ?_
 have K:=yg [3,4,2,0,1] D
 have L:=yw 0 K rfl (congrArg (fL fS d 3 1) (aa0 (es:=es) (n:=n) (f:=f)))
 refine gD D 11 ?_
 refine lp (α:=Nat) (fun k=>[(1,(Zb b)),(2,Zg),(3,Zp),(5,(Zb e)),(6,(Zb q)),(7,(.func (.func 267) #[] (Zi q))),(66,(Za (((gf es n f).p).length:Int))),(67,(Za k))]) (fun k w1=>St [(w,[])] [fL fS d 3 1 (nH es n f (gf es n f).p.length k),blk b 102 (Zr n tl tr tp th ts),blk e 37 [d],blk q 381 [(HO x)],row (HO x) 227 1 3 ((B3 b e))] w1/\k<=(gf es n f).p.length) (fun k=>(gf es n f).p.length-k) 0 ⟨rfl,rfl,rfl,rfl,rfl,rfl,rfl,gj rO,trivial⟩ (⟨L,o_⟩) ?_
 rintro k aj ak ⟨aq,hk⟩
 have aD:=aaY (es:=es) (n:=n) (f:=f) hk
 refine fR aq 2 ?_
 by_cases al:((k:Int):Int)<((((gf es n f).p).length:Int):Int)
 . have ay:k<(gf es n f).p.length:=by omega
   refine fK aq 21 ?_
   refine iz (f:=(fun _=>k)) 0 aq (fun M o=>?_)
   refine fK o 7 ?_
   refine nV (fi:=[]) (ca:=(Zf q)) rfl rfl rfl XU (aac es n f hF hn tl tr tp th ts M (F.to o s_) b (St.at o (i:=1) rfl) e d (fM (nH es n f (gf es n f).p.length k) k (fun _=>k)) (St.at o (i:=2) rfl) (y0 o 0 rfl).any q (HO x) (St.at o (i:=3) rfl) (Sl.any (uk (cf:=P6) (xs:=(B3 b e)) o (i:=4) rfl f_)) k o_ (fun j hj=>QW hk hj)) ?_
   rintro _ am ⟨rfl,N⟩
   have t:=yp o N
   refine fK t 11 ?_
   by_cases an:((k:Int):Int)≥((n:Int):Int)
   . obtain⟨T,ar⟩:∃ T,k=n+T:=⟨k-n,o_⟩
     obtain⟨e1,_,_,_,_,_,_,e8,_,_⟩:=hF.inner (show T<f.length by omega)
     obtain⟨q1,q2,q3⟩:=hF.wh (show T<f.length by omega)
     refine gI t 11 fun ao y=>?_
     refine iJ (k:=k) (i:=(k:Int)) rfl rfl rfl yd gr F.l o_ o_ (by rw[ar];exact e1) (jd rfl rfl yf rfl (yy y s_ d_ F.l) (by rw[ar];exact e1) rfl (fK y 3 ?_))
     refine iz (f:=(fun _=>(fJ (fM (nH es n f (gf es n f).p.length k) k (fun _=>k)) (nL es n f T)))) 0 y (fun ap E=>?_)
     refine fP E 7 ?_
     refine tN (?_)
     have O:=yw 0 E rfl (congrArg (fL fS d 3 1) (aaZ o_ (by rw[iK (QW hk (show nL es n f T<k by omega)),ar,q3];exact q1)))
     exact again (k+1) ⟨rfl,rfl,rfl,rfl,rfl,rfl,rfl,gj rO,trivial⟩ (⟨O,o_⟩) (by show ((gf es n f).p.length-(k+1):Nat)<(gf es n f).p.length-k;omega)
   . refine fP t 11 ?_
     refine tN (?_)
     have P:=yw 0 t rfl (congrArg (fL fS d 3 1) (QX o_ (by unfold gQ;rw[if_pos o_])))
     exact again (k+1) ⟨rfl,rfl,rfl,rfl,rfl,rfl,rfl,gj rO,trivial⟩ (⟨P,o_⟩) (by show ((gf es n f).p.length-(k+1):Nat)<(gf es n f).p.length-k;omega)
 . refine fP aq 18 ?_
   refine iD (v:=d) (v' := Zh) Tryz.results195 rfl rfl ?_
   have Q:=yg [0] aq
   have av:k=n+f.length:=by omega
   have R:=yw 0 Q rfl (congrArg (fL fS d 3 1) ((congrArg (fun z=>nH es n f z k) aw).trans ((congrArg (nH es n f (n+f.length)) av).trans aaX)))
   exact⟨d,rfl,nS R⟩
end
section
open Go Go.Sx
theorem adN(es:List Ge)(n:Nat)(f:List Nat)(s:iU es n f)(u:n<=4096)(l o m k p:Value)(w:World)(t:mY w es n f l o m k p) :
 CR ya 122 (DO n l o m k p) w (fun r w' => r = .int .i64 0/\gw [] w w'):=by
 refine en Tryz.func122 Tryz.ntmps122 ?_
 have q:=yu w
 refine fR q 2 ?_
 refine iC q (fun e c g h a=>?_)
 refine fK a 7 ?_
 refine cl O3 (Q1 es n f s u l o m k p c (t.to a s_)) ?_
 rintro _ i ⟨j,rfl,x⟩
 have b:=(jR a x)
 refine fP b 22 ?_
 refine gq (v:=Zc) Tryz.results122 rfl ?_
 have d:=yg [] b
 exact⟨rfl,d.gA s_⟩
theorem SU(es:List Ge)(n:Nat)(f:List Nat)(q:iU es n f)(t:n<=4096)(k m l j o:Value)(w:World)(s:mY w es n f k m l j o) :
 CR ya 123 (DO n k m l j o) w (fun r w' => ∃ (v:Value),v=r/\fV (gm []) w w' (Z7 v ((List.range (n+f.length)).map (gQ es n f)))):=by
 refine en Tryz.func123 Tryz.ntmps123 ?_
 have p:=yu w
 refine fR p 2 ?_
 refine iC p (fun e d g h a=>?_)
 refine fK a 6 ?_
 refine cl O3 (Q1 es n f q t k m l j o d (s.to a s_)) ?_
 rintro _ i ⟨b,rfl,u⟩
 have c:=(jR a u)
 refine fP c 24 ?_
 refine gq (v:=b) Tryz.results123 rfl ?_
 exact⟨b,rfl,nS c⟩
theorem Wz(es:List Ge)(n:Nat)(f:List Nat)(hF:iU es n f)(hn:n<=4096)(Z tr F T ts:Value)(w:World)(hR:mY w es n f Z tr F T ts) :
 CR ya 70 (DO n Z tr F T ts) w (fun r w' => ∃ (v:Value),r = .tuple #[v,.int .i64 0]/\fV (gm []) w w' (fL Mg.cells v 158 5 (nX es n f f.length))):=by
 obtain⟨ag,ah,ai,aj,ak⟩:=nQ (es:=es) (n:=n) (f:=f)
 have af:=hF.f.room hF.g
 refine enter (vs:=(D4 n Z tr F T ts)) Tryz.func70 rfl Tryz.ntmps70 rfl ?_
 have ac:=yu w
 refine fR ac 2 ?_
 refine iC ac (fun d H P Q t=>?_)
 refine fK t 8 ?_
 refine jO (vl:=(D4 n Z tr F T ts)) rfl rfl W0 (adN es n f hF hn Z tr F T ts H (hR.to t s_)) ?_
 rintro _ C ⟨rfl,I⟩
 have y:St _ [blk d 102 (Zr n Z tr F T ts)] C:=yp t I
 refine fK y 15 ?_
 refine jO (vl:=(D4 n Z tr F T ts)) rfl rfl ON (SU es n f hF hn Z tr F T ts C (hR.to y s_)) ?_
 rintro _ D ⟨j,rfl,ht⟩
 have E:St _ [fL fS j 3 1 ((List.range (n+f.length)).map (gQ es n f)),blk d 102 (Zr n Z tr F T ts)] D:=(jR (R:=fL fS j 3 1 ((List.range (n+f.length)).map (gQ es n f))) y ht)
 have J:St _ [fL Mg.cells Zg 158 5 (nX es n f 0),fL fS j 3 1 ((List.range (n+f.length)).map (gQ es n f)),blk d 102 (Zr n Z tr F T ts)] D:=oQ E 158 5
 refine gD E 17 ?_
 refine lp (α:=Nat×Value) (fun(i,mv)=>[(1,(Zb d)),(2,Zg),(3,Zc),(5,j),(6,mv),(7,(Za ((n+i:Nat):Int)))]) (fun(i,mv) w1=>St [(w,[])] [fL Mg.cells mv 158 5 (nX es n f i),fL fS j 3 1 ((List.range (n+f.length)).map (gQ es n f)),blk d 102 (Zr n Z tr F T ts)] w1/\i<=f.length) (fun(i,mv)=>f.length-i) (0,Zg) ⟨rfl,rfl,rfl,rfl,rfl,gj (by first|rfl|omega),trivial⟩ (⟨J,o_⟩) ?_
 rintro⟨i,mv⟩ S K ⟨aa,hi⟩
 have am:=Ri (es:=es) (n:=n) (f:=f) (k:=i)
 refine fR aa 6 ?_
 refine j8 (v:=F) rfl rfl yd hR.p ?_
 by_cases U:(((n+i:Nat):Int):Int)<((((gf es n f).p).length:Int):Int)
 . have ab:i<f.length:=by omega
   obtain⟨e1,e2,e3,e4,e5,e6,e7,e8,e9,ae⟩:=hF.inner ab
   obtain⟨q1,q2,q3⟩:=hF.wh ab
   have al:((List.range (n+f.length)).map (gQ es n f)).length=n+f.length:=by simp
   refine gI aa 14 fun V m=>?_
   refine iJ (k:=(n+i)) (i:=((n+i:Nat):Int)) rfl rfl rfl yd gr hR.l o_ o_ e1 (jd (u:=(Za (((nL es n f i):Nat):Int))) rfl rfl yf rfl (yy m s_ d_ hR.l) e1 rfl (fK m 6 ?_))
   refine iJ (k:=(n+i)) (i:=((n+i:Nat):Int)) rfl rfl rfl yd gr hR.r o_ o_ e2 (jd (u:=(Za (((nR es n f i):Nat):Int))) rfl rfl yf rfl (yy m s_ d_ hR.r) e2 rfl (fK m 5 ?_))
   refine iJ (k:=(n+i)) (i:=((n+i:Nat):Int)) rfl rfl rfl ow ti2 hR.h o_ o_ e3 (jd (u:=(Za ((fJ es (fJ f i)).w))) rfl rfl vw rfl (yy m s_ d_ hR.h) e3 rfl (jc (pvs:=[(0,(Za ((fJ es (fJ f i)).w))),(1,qn)]) (v:=.agg #[(Za ((fJ es (fJ f i)).w)),qn]) rfl rfl (jo [(0,(Zd ((fJ es (fJ f i)).w))),(1,[qn])] Ly ac8 rfl ⟨rfl,rfl,rfl,rfl,trivial⟩ rfl) (fK m 3 ?_)))
   refine iJ (k:=(n+i)) (i:=((n+i:Nat):Int)) rfl rfl rfl yd gr hR.s o_ o_ (gy o_) (jd (u:=(Za (((fJ (gf es n f).s (n+i)):Nat):Int))) rfl rfl yf rfl (yy m s_ d_ hR.s) (gy o_) rfl (jc (pvs:=[(0,(Za (((fJ ((List.range (n+f.length)).map (gQ es n f)) (nL es n f i)):Nat):Int))),(1,(Za (((fJ ((List.range (n+f.length)).map (gQ es n f)) (nR es n f i)):Nat):Int))),(2,(.agg #[(Za ((fJ es (fJ f i)).w)),qn])),(3,(Za (((fJ (gf es n f).s (n+i)):Nat):Int)))]) (v:=.agg (MQ (((fJ ((List.range (n+f.length)).map (gQ es n f)) (nL es n f i)):Nat):Int) (((fJ ((List.range (n+f.length)).map (gQ es n f)) (nR es n f i)):Nat):Int) ((fJ es (fJ f i)).w) (((fJ (gf es n f).s (n+i)):Nat):Int))) rfl rfl (jo [(0,(Zd (((fJ ((List.range (n+f.length)).map (gQ es n f)) (nL es n f i)):Nat):Int))),(1,(Zd (((fJ ((List.range (n+f.length)).map (gQ es n f)) (nR es n f i)):Nat):Int))),(2,[(Za ((fJ es (fJ f i)).w)),qn]),(3,(Zd (((fJ (gf es n f).s (n+i)):Nat):Int)))] F4 ac9 rfl ⟨rfl,rfl,rfl,rfl,rfl,rfl,rfl,rfl,trivial⟩ rfl) (jJ (vs:=[(.agg (MQ (((fJ ((List.range (n+f.length)).map (gQ es n f)) (nL es n f i)):Nat):Int) (((fJ ((List.range (n+f.length)).map (gQ es n f)) (nR es n f i)):Nat):Int) ((fJ es (fJ f i)).w) (((fJ (gf es n f).s (n+i)):Nat):Int)))]) (cs:=(Cg (((fJ ((List.range (n+f.length)).map (gQ es n f)) (nL es n f i)):Nat):Int) (((fJ ((List.range (n+f.length)).map (gQ es n f)) (nR es n f i)):Nat):Int) ((fJ es (fJ f i)).w) (((fJ (gf es n f).s (n+i)):Nat):Int))) rfl rfl GB F4 rfl (by simp[Value.cells]) rfl rfl rfl m ?_)))
   intro z L W X q
   have q:St _ (Hw (row (.slice (some ⟨z,0,none⟩) 1 1) 158 5 1 ([(.int .i64 (((fJ ((List.range (n+f.length)).map (gQ es n f)) (nL es n f i)):Nat):Int)),(.int .i64 (((fJ ((List.range (n+f.length)).map (gQ es n f)) (nR es n f i)):Nat):Int)),(.int .i64 ((fJ es (fJ f i)).w)),(.int .i64 1),(.int .i64 (((fJ (gf es n f).s (n+i)):Nat):Int))])) mv (nX es n f i) j ((List.range (n+f.length)).map (gQ es n f)) d n Z tr F T ts) L:=q
   refine k8 (cf:=Mg.cells) (ys:=(nX es n f i)) (zs:=[(⟨(fJ ((List.range (n+f.length)).map (gQ es n f)) (nL es n f i)),(fJ ((List.range (n+f.length)).map (gQ es n f)) (nR es n f i)),(fJ es (fJ f i)).w,(fJ (gf es n f).s (n+i))⟩:Mg)]) (LL:=fun o=>(Hw (row (.slice (some ⟨z,0,none⟩) 1 1) 158 5 1 ([(.int .i64 (((fJ ((List.range (n+f.length)).map (gQ es n f)) (nL es n f i)):Nat):Int)),(.int .i64 (((fJ ((List.range (n+f.length)).map (gQ es n f)) (nR es n f i)):Nat):Int)),(.int .i64 ((fJ es (fJ f i)).w)),(.int .i64 1),(.int .i64 (((fJ (gf es n f).s (n+i)):Nat):Int))])) o ((nX es n f i)++[(⟨(fJ ((List.range (n+f.length)).map (gQ es n f)) (nL es n f i)),(fJ ((List.range (n+f.length)).map (gQ es n f)) (nR es n f i)),(fJ es (fJ f i)).w,(fJ (gf es n f).s (n+i))⟩:Mg)]) j ((List.range (n+f.length)).map (gQ es n f)) d n Z tr F T ts)) 1 rfl rfl rfl GB F4 rfl d_ q rfl (kG q (i:=0) rfl) (fun x hx=>zk.1 (show List.all _ _=true from rfl) x hx) (by simp only[zb,zg];omega) (by simp only[zb,zg];omega) f_ ?_
   intro o G A Y
   have A:St _ (Hw (row (.slice (some ⟨z,0,none⟩) 1 1) 158 5 1 ([(.int .i64 (((fJ ((List.range (n+f.length)).map (gQ es n f)) (nL es n f i)):Nat):Int)),(.int .i64 (((fJ ((List.range (n+f.length)).map (gQ es n f)) (nR es n f i)):Nat):Int)),(.int .i64 ((fJ es (fJ f i)).w)),(.int .i64 1),(.int .i64 (((fJ (gf es n f).s (n+i)):Nat):Int))])) o ((nX es n f i)++[(⟨(fJ ((List.range (n+f.length)).map (gQ es n f)) (nL es n f i)),(fJ ((List.range (n+f.length)).map (gQ es n f)) (nR es n f i)),(fJ es (fJ f i)).w,(fJ (gf es n f).s (n+i))⟩:Mg)]) j ((List.range (n+f.length)).map (gQ es n f)) d n Z tr F T ts) G:=A
   have B:=yg [1,2,3] A
   refine fK B 6 ?_
   refine ar (a:=((n+i:Nat):Int)) (b:=1) (c:=((n+i:Nat):Int)+1) (e:=((n+(i+1):Nat):Int)) rfl rfl rfl rfl (by rw[oh o_];omega) (fP B 2 ?_)
   refine tN (?_)
   have M:St _ [fL Mg.cells o 158 5 (nX es n f (i+1)),fL fS j 3 1 ((List.range (n+f.length)).map (gQ es n f)),blk d 102 (Zr n Z tr F T ts)] G:=yw 0 B rfl (congrArg (fL Mg.cells o 158 5) (show _=(nX es n f (i+1)) by rw[iK (QY (show nL es n f i<n+f.length by omega)),iK (QY (show nR es n f i<n+f.length by omega)),q1,q2,abN];rfl))
   exact again ((i+1),o) ⟨rfl,rfl,rfl,rfl,rfl,gj (by first|rfl|omega),trivial⟩ (⟨M,o_⟩) (by show (f.length-(i+1):Nat)<f.length-i;omega)
 . refine fP aa 17 ?_
   refine iD (v:=mv) (v' := Zc) Tryz.results70 rfl rfl ?_
   have N:=yg [0] aa
   have ad:i=f.length:=by omega
   have O:St _ [fL Mg.cells mv 158 5 (nX es n f f.length)] K:=yw 0 N rfl (congrArg (fL Mg.cells mv 158 5) (show _=(nX es n f f.length) by rw[ad]))
   exact⟨mv,rfl,nS O⟩
end
section
open Go Go.Sx
theorem aaJ{l:List (Value×List Nat)}{ps:List Int}{k:Nat}(a:∀ i,i<ps.length->(fJ l i).2=jH ps k i)(b:fJ ps k<0):∀ i,i<ps.length->(fJ l i).2=jH ps (k+1) i :=
 fun i hi=>by rw[aaI b];exact a i hi
theorem aaL{l:List (Value×List Nat)}{ps:List Int}{k p:Nat}{v:Value}(c:l.length=ps.length)(a:∀ i,i<ps.length->(fJ l i).2=jH ps k i)(hp:p<ps.length)(b:fJ ps k=(p:Int)) :
 ∀ i,i<ps.length->(fJ (fM l p (fun _=>(v,(fJ l p).2++[k]))) i).2=jH ps (k+1) i:=fun i hi=>by
 rw[jy o_,QM]
 split
 . rename_i h;subst h;rw[if_pos b];show (fJ l p).2++[k]=_;rw[a p hp]
 . rename_i h;rw[if_neg o_];exact a i hi
theorem aaK{ps:List Int}{n:Nat}:∀ i,i<ps.length->(fJ (List.replicate n ((.slice none 0 0,[]):Value×List Nat)) i).2=jH ps 0 i:=fun i hi=>by
 have h:jH ps 0 i=[]:=by simp[jH]
 rw[h,fJ,rD]
 split<;>rfl
theorem Ws(v:Value)(ps:List Int)(w:World)(hv:gY 1 fW (fun _=>True) w v ps)(hP:ko ps)(hn:ps.length<=8192) :
 CR ya 317 #[v] w (fun r w' => ∃ (dv:Value),r = .tuple #[dv,.bool true]/\fV (gm []) w w' (Z7 dv ((List.range ps.length).map (gp ps)))):=by
 refine en Tryz.func317 Tryz.ntmps317 ?_
 have aZ:=yu w
 refine fR aZ 9 ?_
 refine j8 (v:=v) rfl rfl yd hv (fK aZ 6 ?_)
 refine nY (cf:=iH) (z0:=((.slice none 0 0,[]):Value×List Nat)) (m:=ps.length) (c:=ps.length) rfl rfl rfl GF j3 rfl f_ d_ (zj _) o_ o_ aZ ?_
 intro y K aj ak L
 have o:St _ [fL iH (.slice (some ⟨y,0,none⟩) ps.length ps.length) 37 1 (List.replicate ps.length ((.slice none 0 0,[]):Value×List Nat))] K:=kZ (cf:=iH) L (i:=0) rfl f_ (zj _) (by simp only[maxLen];omega)
 generalize (Value.slice (some ⟨y,0,none⟩) ps.length ps.length)=b at o ⊢
 refine fK o 6 ?_
 refine nY (cf:=fS) (z0:=0) (m:=ps.length) (c:=ps.length) rfl rfl rfl yd gr rfl f_ d_ (zj _) o_ o_ o ?_
 intro z q al am M
 have d:St _ [fL fS (.slice (some ⟨z,0,none⟩) ps.length ps.length) 3 1 (List.replicate ps.length 0),fL iH b 37 1 (List.replicate ps.length ((.slice none 0 0,[]):Value×List Nat))] q:=kZ (cf:=fS) M (i:=0) rfl f_ (zj _) (by simp only[maxLen];omega)
 generalize (Value.slice (some ⟨z,0,none⟩) ps.length ps.length)=a at d ⊢
 refine fK d 12 ?_
 refine j8 (v:=v) rfl rfl yd hv ?_
 have N:St _ [fL fS Zg 3 1 (n9 ps 0),fL fS a 3 1 (List.replicate ps.length 0),fL iH b 37 1 (List.replicate ps.length ((.slice none 0 0,[]):Value×List Nat))] q:=oQ d 3 1
 have O:St _ [(x9 3 (List.replicate ps.length ((.slice none 0 0,[]):Value×List Nat))),fL fS Zg 3 1 (n9 ps 0),fL fS a 3 1 (List.replicate ps.length 0),fL iH b 37 1 (List.replicate ps.length ((.slice none 0 0,[]):Value×List Nat))] q:=St.E1 ps.length N
 have P:=yg [3,0,2,1] O
 refine gD d 4 ?_
 refine lp (α:=Nat×List (Value×List Nat)×Value) (fun(k,l,rv)=>[(4,(Za ps.length)),(5,b),(6,a),(7,rv),(20,v),(21,(Za ps.length)),(22,(Za k))]) (fun(k,l,rv) w1=>St [(w,[])] [fL iH b 37 1 l,(x9 3 l),fL fS a 3 1 (List.replicate ps.length 0),fL fS rv 3 1 (n9 ps k)] w1/\l.length=ps.length/\(∀ i,i<ps.length->(fJ l i).2=jH ps k i)/\k<=ps.length) (fun(k,l,rv)=>ps.length-k) (0,(List.replicate ps.length (.slice none 0 0,[])),Zg) ⟨rfl,rfl,rfl,rfl,rfl,rfl,gj rO,trivial⟩ (⟨P,s_,aaK,o_⟩) ?_
 rintro⟨k,l,rv⟩ an ao ⟨aS,aY,hl,hk⟩
 have bk:=aec (ps:=ps) (k:=k)
 refine fR aS 2 ?_
 by_cases ap:((k:Int):Int)<((ps.length:Int):Int)
 . obtain⟨s,A⟩:=nW (show k<ps.length by omega)
   refine fK aS 21 ?_
   by_cases aq:(s:Int)<(0:Int)
   . have a4:=iK A
     refine fK aS 7 ?_
     refine jJ (vs:=(Zd k)) (cs:=(Zd k)) rfl rfl yd gr rfl (by simp[Value.cells]) rfl rfl rfl aS (fun Q au av aw B=>k8 (cf:=fS) (ys:=(n9 ps k)) (zs:=[k]) (LL:=fun g=>[ig .i64 (Zy Q) 3 ([(k:Int)]),fL iH b 37 1 l,(x9 3 l),fL fS a 3 1 (List.replicate ps.length 0),fL fS g 3 1 ((n9 ps k)++[k])]) 4 rfl rfl rfl yd gr rfl d_ B rfl (kG B (i:=0) rfl) (fun x hx=>zk.1 (show List.all _ _=true from rfl) x hx) (by simp only[zb,zg];omega) (by simp only[zb,zg];omega) f_ ?_)
     intro g ax R ay
     have C:=yg [1,2,3,4] R
     refine fP C 8 ?_
     refine tN (?_)
     have S:=yw 3 C rfl (congrArg (fL fS g 3 1) ((aef o_).symm))
     exact again ((k+1),l,g) ⟨rfl,rfl,rfl,rfl,rfl,rfl,gj rO,trivial⟩ (⟨S,aY,aaJ hl o_,o_⟩) (by show (ps.length-(k+1):Nat)<ps.length-k;omega)
   . obtain⟨p,ba⟩:∃ p:Nat,s=(p:Int):=⟨s.toNat,o_⟩
     refine fK aS 1 ?_
     subst ba
     have a4:=iK A
     have a3:p<ps.length:=by have:=hP.up k o_;omega
     have a1:=QL (ps:=ps) (k:=k) (i:=p)
     rw[<-hl p a3]at a1
     have U:=yg [1,0,2,3] aS
     have D:=ug p U o_
     refine fK D 11 ?_
     refine jJ (vs:=(Zd k)) (cs:=(Zd k)) rfl rfl yd gr rfl (by simp[Value.cells]) rfl rfl rfl D (fun V az aA aB E=>k8 (cf:=fS) (ys:=(fJ l p).2) (zs:=[k]) (LL:=fun h=>(Ni V ([(k:Int)]) h (((fJ l p).2)++[k]) (x9 3 (l.eraseIdx p)) (fL iH b 37 1 l) a (List.replicate ps.length 0) rv (n9 ps k))) 1 rfl rfl rfl yd gr rfl d_ E rfl (kG E (i:=0) rfl) (fun x hx=>zk.1 (show List.all _ _=true from rfl) x hx) (by simp only[zb,zg];omega) (by simp only[zb,zg];omega) f_ ?_)
     intro h aC W aD
     have n:=yg [1,2,3,4,5] W
     refine fK n 1 ?_
     refine iz (f:=(fun _=>(h,(fJ l p).2++[k]))) 2 n (fun aE G=>?_) (hvs:=(cells_one (yr n (i:=0) rfl))) (h1:=(gX (yr n (i:=0) rfl) j4))
     refine fP G 7 ?_
     refine tN (?_)
     have X:=St.CE G o_
     have Y:=yg [1,0,2,3] X
     have Z:=yw 3 Y rfl (congrArg (fL fS rv 3 1) ((aee o_).symm))
     exact again ((k+1),fM l p (fun _=>(h,(fJ l p).2++[k])),rv) ⟨rfl,rfl,rfl,rfl,rfl,rfl,gj rO,trivial⟩ (⟨Z,(by rw[gx];exact aY),aaL aY hl a3 a4,o_⟩) (by show (ps.length-(k+1):Nat)<ps.length-k;omega)
 . have a8:k=ps.length:=by omega
   refine gD aS 17 ?_
   subst a8
   refine lp (α:=Nat×Value×List Nat×List Nat) (fun(i,ov,od,dp)=>[(4,(Za ps.length)),(5,b),(6,a),(7,ov),(10,(Za i))]) (fun(i,ov,od,dp) w1=>St [(w,[])] [fL iH b 37 1 l,(x9 3 l),fL fS a 3 1 dp,fL fS ov 3 1 od] w1/\Bf ps i 0 od dp) (fun(i,ov,od,dp)=>ps.length-i) (0,rv,(n9 ps ps.length),(List.replicate ps.length 0)) ⟨rfl,rfl,rfl,rfl,gj rO,trivial⟩ (⟨aS,Bf.start⟩) ?_
   rintro⟨i,ov,od,dp⟩ aF aG ⟨aR,hB⟩
   have bi:=hB.Kq
   have be:=hB.len
   refine fR aR 5 ?_
   refine iM (m:=od.length) 3 rfl rfl yd aR rfl ?_
   by_cases aH:((i:Int):Int)<((od.length:Int):Int)
   . have hi:i<od.length:=by omega
     have a9:=zd (gy hi)
     have a2:=hB.lt _ a9
     have aa:=yg [1,0,2,3] aR
     have ab:=ug (fJ od i) aa o_
     have t:=yw 0 ab rfl (congrArg (fL fS ((fJ l (fJ od i)).1) 3 1) (hl _ a2))
     have a1:=QL (ps:=ps) (k:=ps.length) (i:=fJ od i)
     refine fK aR 23 ?_
     refine iM (m:=(jH ps ps.length (fJ od i)).length) 0 rfl rfl yd t rfl (gD t 4 ?_)
     refine lp (α:=Nat×Value×List Nat×List Nat) (fun(j,aW,T,F)=>[(4,(Za ps.length)),(5,b),(6,a),(7,aW),(10,(Za i)),(11,(Za (((fJ od i):Nat):Int))),(57,((fJ l (fJ od i)).1)),(58,(Za ((jH ps ps.length (fJ od i)).length:Int))),(59,(Za j))]) (fun(j,aW,T,F) w1=>St [(w,[])] [fL fS ((fJ l (fJ od i)).1) 3 1 (jH ps ps.length (fJ od i)),(x9 3 (l.eraseIdx (fJ od i))),fL iH b 37 1 l,fL fS a 3 1 F,fL fS aW 3 1 T] w1/\Bf ps i j T F/\i<T.length/\fJ T i=fJ od i/\j<=(jH ps ps.length (fJ od i)).length) (fun(j,aW,T,F)=>(jH ps ps.length (fJ od i)).length-j) (0,ov,od,dp) ⟨rfl,rfl,rfl,rfl,rfl,rfl,rfl,rfl,gj rO,trivial⟩ (⟨t,hB,hi,rfl,o_⟩) ?_
     rintro⟨j,aW,T,F⟩ aI aJ ⟨aV,aT,aU,aX,hj⟩
     have bj:=aT.Kq
     have bf:=aT.len
     refine fR aV 2 ?_
     by_cases aK:((j:Int):Int)<(((jH ps ps.length (fJ od i)).length:Int):Int)
     . have a7:j<(jH ps ps.length (fJ od i)).length:=by omega
       have a0:(jH ps ps.length (fJ T i))[j]? = some (fJ (jH ps ps.length (fJ od i)) j):=by rw[aX];exact gy a7
       obtain⟨bb,bc,bd⟩:=aT.new aU a0
       have bg:fJ F (fJ od i)<=ps.length:=by rw[<-aX,aT.dep _ (zd (gy aU))];exact kz Iq (Nat.sub_le _ _)
       refine fK aV 24 ?_
       refine ar (e:=(((fJ F (fJ od i))+1:Nat):Int)) rfl rfl rfl rfl iW (fK aV 1 ?_)
       refine iz (f:=(fun _=>((fJ F (fJ od i))+1))) 3 aV (fun aL H=>?_)
       refine fK H 5 ?_
       refine jJ (vs:=(Zd (((fJ (jH ps ps.length (fJ od i)) j):Nat):Int))) (cs:=(Zd (((fJ (jH ps ps.length (fJ od i)) j):Nat):Int))) rfl rfl yd gr rfl (by simp[Value.cells]) rfl rfl rfl H (fun ac aM aN aO I=>k8 (cf:=fS) (ys:=T) (zs:=[(fJ (jH ps ps.length (fJ od i)) j)]) (LL:=fun u=>(Ni ac ([(((fJ (jH ps ps.length (fJ od i)) j):Nat):Int)]) ((fJ l (fJ od i)).1) (jH ps ps.length (fJ od i)) (x9 3 (l.eraseIdx (fJ od i))) (fL iH b 37 1 l) a (fM F (fJ (jH ps ps.length (fJ od i)) j) (fun _=>((fJ F (fJ od i))+1))) u (T++[(fJ (jH ps ps.length (fJ od i)) j)]))) 5 rfl rfl rfl yd gr rfl d_ I rfl (kG I (i:=0) rfl) (fun x hx=>zk.1 (show List.all _ _=true from rfl) x hx) (by simp only[zb,zg];omega) (by simp only[zb,zg];omega) f_ ?_)
       intro u aP ad aQ
       have J:=yg [1,2,3,4,5] ad
       refine fP J 8 ?_
       refine tN (?_)
       exact again ((j+1),u,T++[(fJ (jH ps ps.length (fJ od i)) j)],fM F (fJ (jH ps ps.length (fJ od i)) j) (fun _=>((fJ F (fJ od i))+1))) ⟨rfl,rfl,rfl,rfl,rfl,rfl,rfl,rfl,gj rO,trivial⟩ (⟨J,by have h9:=aT.wh hP aU a0;rw[aX]at h9;exact h9,by rw[zp];omega,(iK (by rw[Dq aU];exact gy aU)).trans aX,o_⟩) (by show ((jH ps ps.length (fJ od i)).length-(j+1):Nat)<(jH ps ps.length (fJ od i)).length-j;omega)
     . refine fP aV 16 ?_
       refine tN (?_)
       have ae:=yw 0 aV rfl (congrArg (fL fS ((fJ l (fJ od i)).1) 3 1) ((hl _ a2).symm))
       have af:=St.E0 ae o_
       have ag:=yg [1,0,2,3] af
       exact again ((i+1),aW,T,F) ⟨rfl,rfl,rfl,rfl,gj rO,trivial⟩ (⟨ag,aT.next aU (by rw[aX];omega)⟩) (by show (ps.length-(i+1):Nat)<ps.length-i;omega)
   . have a6:i=od.length:=by have:=hB.Jj;omega
     refine fK aR 1 ?_
     subst a6
     obtain⟨bh,a5⟩:=hB.fin hP
     refine fK aR 12 ?_
     refine iM (m:=od.length) 3 rfl rfl yd aR rfl (fK aR 1 ?_)
     refine cmp rfl rfl rfl (rV o_) (fP aR 5 ?_)
     refine iD (v:=a) (v' := Zh) Tryz.results317 rfl rfl ?_
     have ah:=yg [2] aR
     have ai:=yw 0 ah rfl (congrArg (fL fS a 3 1) (a5))
     exact⟨a,rfl,nS ai⟩
end
section
open Go Go.Sx
structure Lt where
 dv:Value
 jl:List (Value×List Int)
structure Lt.ok (ps:List Int) (t:Lt):Prop where
 len:t.jl.length=13
 row:∀ q,q<13->(fJ t.jl q).2=jw ps q
def Lt.R(tb:Nat)(ps:List Int)(t:Lt):fT:=kO (t.ok ps) (gm [blk tb 376 (Zh :: t.dv :: (t.jl).flatMap iH),(oK fW 3 t.jl),fL fS t.dv 3 1 ((List.range ps.length).map (gp ps))])
abbrev Nn a b c (d e:Nat) (f:Int) g h i j k l m n o p (q:nC) r (s:Nat):=([fL jI.cells a 373 2 b,c,blk d 231 [.pointer (some ⟨e,0,none⟩),.int .i64 f,g,h,i,j,k,l,.map m],fL fS l 3 1 n,ic o .i64 (Prod.fst:Value×List jI->Value) p,Lt.R e q.p r,blk s 102 (Zr f g h i j k),fL fW g 3 1 q.l,fL fW h 3 1 q.r,fL fW i 3 1 q.p,fL fW j 2 1 q.h,fL fS k 3 1 q.s]:List fT)
abbrev MW a b c d (e f:Nat) (g:Int) h i j k l m n o p q (r:nC) s (t:Nat):=([a,fL jI.cells b 373 2 c,d,blk e 231 [.pointer (some ⟨f,0,none⟩),.int .i64 g,h,i,j,k,l,m,.map n],fL fS m 3 1 o,ic p .i64 (Prod.fst:Value×List jI->Value) q,Lt.R f r.p s,blk t 102 (Zr g h i j k l),fL fW h 3 1 r.l,fL fW i 3 1 r.r,fL fW j 3 1 r.p,fL fW k 2 1 r.h,fL fS l 3 1 r.s]:List fT)
theorem QG(v:Value)(ps:List Int)(w:World)(hv:gY 1 fW (fun _=>True) w v ps)(hP:ko ps)(aR:∀ i,i<ps.length -> -1<=fJ ps i)(hn:ps.length<=8192) :
 CR ya 254 #[v] w (fun r w' => ∃ (tb:Nat) (t:Lt),r = .tuple (Z0 tb)/\fV (gm []) w w' (Lt.R tb ps t)):=by
 refine enter (vs:=[v]) Tryz.func254 rfl Tryz.ntmps254 rfl ?_
 have aL:=yu w
 refine fR aL 9 ?_
 refine j8 (v:=v) rfl rfl yd hv (fK aL 7 ?_)
 refine cmp (a:=(ps.length:Int)) (b:=8192) rfl rfl rfl (qx o_) (fK aL 9 ?_)
 refine j8 (v:=v) rfl rfl yd hv (gD aL 4 ?_)
 refine lp (α:=Nat) (fun i=>[(0,v),(2,Zt),(3,Zc),(4,(Za ps.length)),(17,v),(18,(Za ps.length)),(19,(Za i))]) (fun i w1=>St [(w,[])] [] w1/\i<=ps.length) (fun i=>ps.length-i) 0 ⟨rfl,rfl,rfl,rfl,rfl,rfl,gj rO,trivial⟩ (⟨aL,o_⟩) ?_
 rintro i am D ⟨T,hi⟩
 refine fR T 2 ?_
 by_cases an:((i:Int):Int)<((ps.length:Int):Int)
 . have a3:=hP.up i o_
   refine fK T 19 ?_
   refine cmp (a:=(fJ ps i)) (b := -1) rfl rfl rfl (lG (by have h7:=aR i o_;omega)) (fK T 3 ?_)
   refine cmp (a:=(fJ ps i)) (b:=(ps.length:Int)) rfl rfl rfl (p5 (by have h7:=aR i o_;omega)) (fP T 11 ?_)
   refine tN (?_)
   exact again (i+1) ⟨rfl,rfl,rfl,rfl,rfl,rfl,gj rO,trivial⟩ (⟨T,o_⟩) (by show (ps.length-(i+1):Nat)<ps.length-i;omega)
 . refine fK T 13 ?_
   refine jO (vl:=[v]) rfl rfl X5 (Ws v ps D (yy T s_ d_ hv) hP hn) ?_
   rintro _ ao ⟨d,rfl,ht⟩
   have n:=(jR (R:=fL fS d 3 1 ((List.range ps.length).map (gp ps))) T ht)
   refine fK n 20 ?_
   refine jc (pvs:=[(0,Zh),(1,d)]) (v:=.agg #[Zh,d,Zg,Zg,Zg,Zg,Zg,Zg,Zg,Zg,Zg,Zg,Zg,Zg,Zg]) rfl rfl (jo [(0,[Zh]),(1,[d])] T3 ado rfl ⟨rfl,rfl,rfl,(cells_one (yr n (i:=0) rfl)),trivial⟩ rfl) (iC n (fun h E ap aq u=>?_))
   have G:St _ [(oK fW 3 (List.replicate 13 ((.slice none 0 0,[]):Value×List Int))),blk h 376 [Zh,d,Zg,Zg,Zg,Zg,Zg,Zg,Zg,Zg,Zg,Zg,Zg,Zg,Zg],fL fS d 3 1 ((List.range ps.length).map (gp ps))] E:=St.E1 13 u
   have H:=yg [1,0,2] G
   have I:=H
   refine gD u 10 ?_
   refine lp (α:=Nat×List (Value×List Int)) (fun(F,jl)=>[(0,v),(4,(Za ps.length)),(9,(Zb h)),(41,(Za F))]) (fun(F,jl) w1=>St [(w,[])] [blk h 376 (Zh :: d :: (jl).flatMap iH),(oK fW 3 jl),fL fS d 3 1 ((List.range ps.length).map (gp ps))] w1/\jl.length=13/\(∀ q,q<F->(fJ jl q).2=jw ps q)/\F<=13) (fun(F,jl)=>13-F) (0,(List.replicate 13 ((.slice none 0 0,[]):Value×List Int))) ⟨rfl,rfl,rfl,gj rO,trivial⟩ (⟨I,s_,fun q hq=>absurd hq (G1 _),o_⟩) ?_
   rintro⟨F,jl⟩ au av ⟨aM,aN,aO,a2⟩
   refine fR aM 2 ?_
   by_cases aw:((F:Int):Int)<(13:Int)
   . refine gI aM 20 fun ax J=>?_
     refine nY (cf:=fW) (z0:=0) (m:=ps.length) (c:=ps.length) rfl rfl rfl yd gr rfl f_ d_ (zj _) o_ o_ J ?_
     intro y K ay az L
     have l:St _ [fL fW (.slice (some ⟨y,0,none⟩) ps.length ps.length) 3 1 (List.replicate ps.length 0),blk h 376 ((.bool true) :: d :: (jl).flatMap iH),(oK fW 3 jl),fL fS d 3 1 ((List.range ps.length).map (gp ps))] K:=kZ (cf:=fW) L (i:=0) rfl f_ (zj _) (by simp only[maxLen];omega)
     generalize (Value.slice (some ⟨y,0,none⟩) ps.length ps.length)=g at l ⊢
     refine fK l 2 ?_
     refine jL (o:=2) (o' := 2+F) (i:=(F:Int)) rfl rfl rfl rA j3 o_ (by first|omega|(simp only[nT];omega)) (FY (v:=g) (vs:=[g]) (L' := [fL fW g 3 1 (List.replicate ps.length 0),blk h 376 (setAt (Zh :: d :: (jl).flatMap iH) (2+F) [g]),(oK fW 3 jl),fL fS d 3 1 ((List.range ps.length).map (gp ps))]) 1 rfl rfl rfl (cells_one (yr l (i:=0) rfl)) j3 rfl (gX (yr l (i:=0) rfl) j4) l rfl (aaz o_) rfl rfl ?_)
     intro M z aA
     have N:=yg [1,0,2,3] z
     have O:St _ [blk h 376 (Zh :: d :: ((fM jl F (fun _=>(g,[])))).flatMap iH),fL fW g 3 1 (List.replicate ps.length 0),(oK fW 3 jl),fL fS d 3 1 ((List.range ps.length).map (gp ps))] M:=yw 0 N rfl (congrArg (blk h 376) (Jv o_))
     have P:=yw 1 O rfl (congrArg (fL fW g 3 1) (show _=oI (kA ps F) ps.length 0 from ZC.symm))
     have Q:=yg [2,0,1,3] P
     have S:=ug F Q o_
     have U:=yg [2,3,1,4] S
     refine gD z 9 ?_
     refine lp (α:=Nat) (fun x=>[(0,v),(4,(Za ps.length)),(9,(Zb h)),(10,(Za F)),(41,(Za F)),(51,(Za ps.length)),(52,(Za x))]) (fun x w1=>St [(w,[])] [blk h 376 (Zh :: d :: ((fM jl F (fun _=>(g,[])))).flatMap iH),fL fW g 3 1 (oI (kA ps F) ps.length x),(oK fW 3 (jl.eraseIdx F)),fL fS d 3 1 ((List.range ps.length).map (gp ps))] w1/\x<=ps.length) (fun x=>ps.length-x) 0 ⟨rfl,rfl,rfl,rfl,rfl,rfl,gj rO,trivial⟩ (⟨U,o_⟩) ?_
     rintro x aB V ⟨aJ,aV⟩
     have aX:=ZA (f:=kA ps F) aV
     refine fR aJ 2 ?_
     by_cases aC:((x:Int):Int)<((ps.length:Int):Int)
     . have aK:x<ps.length:=by omega
       refine fK aJ 19 ?_
       by_cases aD:((F:Int):Int)=(0:Int)
       . have aS:F=0:=by omega
         refine gI aJ 10 fun aE s=>?_
         refine jL (o:=2) (o' := 2+F) (i:=(F:Int)) rfl rfl rfl rA j3 o_ (by first|omega|(simp only[nT];omega)) (ld (a:=⟨h,2+F,none⟩) (v:=g) rfl rfl yd rfl (St.rU s (i:=0) rfl (wg (by first|omega|(rw[gx];omega)) (by rw[jS o_]))) (fK s 6 ?_))
         refine iz (f:=(fun _=>(fJ ps x))) 1 s (fun aF A=>?_)
         refine fP A 10 ?_
         refine tN (?_)
         have W:=yw 1 A rfl (congrArg (fL fW g 3 1) (show _=oI (kA ps F) ps.length (x+1) from IZ aK (by rw[aS];rfl)))
         exact again (x+1) ⟨rfl,rfl,rfl,rfl,rfl,rfl,gj rO,trivial⟩ (⟨W,o_⟩) (by show (ps.length-(x+1):Nat)<ps.length-x;omega)
       . obtain⟨q,hq⟩:∃ q,F=q+1:=⟨F-1,o_⟩
         have aQ:fJ (jl.eraseIdx F) q=fJ jl q:=YV o_
         have aP:(fJ (jl.eraseIdx F) q).2=jw ps q:=by rw[aQ];exact aO q o_
         have aW:(jl.eraseIdx F).length=12:=by rw[List.length_eraseIdx,if_pos o_];omega
         have a0:=Js hP (k:=q) aK
         have aZ:=uT (k:=q) aK
         have aY:=AR (ps:=ps) (k:=q)
         have X:=yg [2,0,1,3] aJ
         have Y:=ug q X o_
         have j:=yw 0 Y rfl (congrArg (fL fW ((fJ (jl.eraseIdx F) q).1) 3 1) (aP))
         refine fK aJ 10 ?_
         refine ar (a:=(F:Int)) (b:=1) (c:=(F:Int)-1) (e:=((q:Nat):Int)) rfl rfl rfl rfl iW (fK j 2 ?_)
         refine jL (o:=2) (o' := 2+q) (i:=((q:Nat):Int)) rfl rfl rfl rA j3 o_ (by first|omega|(simp only[nT];omega)) (ld (a:=⟨h,2+q,none⟩) (v:=((fJ (jl.eraseIdx F) q).1)) rfl rfl yd rfl (St.rU j (i:=2) rfl (wg (by first|omega|(rw[gx];omega)) (by rw[kS o_,aQ]))) (fK j 10 ?_))
         by_cases aG:((fJ (jw ps q) x):Int)≥(0:Int)
         . refine fK j 7 ?_
           refine ar (a:=(F:Int)) (b:=1) (c:=(F:Int)-1) (e:=((q:Nat):Int)) rfl rfl rfl rfl iW (fK j 2 ?_)
           refine jL (o:=2) (o' := 2+q) (i:=((q:Nat):Int)) rfl rfl rfl rA j3 o_ (by first|omega|(simp only[nT];omega)) (ld (a:=⟨h,2+q,none⟩) (v:=((fJ (jl.eraseIdx F) q).1)) rfl rfl yd rfl (St.rU j (i:=2) rfl (wg (by first|omega|(rw[gx];omega)) (by rw[kS o_,aQ]))) (fK j 1 ?_))
           refine iJ (cf:=fW) (k:=(fJ (jw ps q) x).toNat) (i:=(fJ (jw ps q) x)) rfl rfl rfl yd gr (y0 j 0 rfl) o_ o_ (gy om) (fK j 9 ?_)
           refine jL (o:=2) (o' := 2+F) (i:=(F:Int)) rfl rfl rfl rA j3 o_ (by first|omega|(simp only[nT];omega)) (ld (a:=⟨h,2+F,none⟩) (v:=g) rfl rfl yd rfl (St.rU j (i:=2) rfl (wg (by first|omega|(rw[gx];omega)) (by rw[jS o_]))) (fK j 3 ?_))
           refine iz (f:=(fun _=>(fJ (jw ps q) ((fJ (jw ps q) x).toNat)))) 3 j (fun aH B=>?_)
           refine fP B 7 ?_
           refine tN (?_)
           have Z:=yw 0 B rfl (congrArg (fL fW ((fJ (jl.eraseIdx F) q).1) 3 1) (aP.symm))
           have aa:=St.E0 Z o_
           have ab:=yg [1,2,0,3] aa
           have ac:=yw 1 ab rfl (congrArg (fL fW g 3 1) (show _=oI (kA ps F) ps.length (x+1) from IZ aK (by rw[hq];exact aaD hP aK o_)))
           exact again (x+1) ⟨rfl,rfl,rfl,rfl,rfl,rfl,gj rO,trivial⟩ (⟨ac,o_⟩) (by show (ps.length-(x+1):Nat)<ps.length-x;omega)
         . refine fK j 11 ?_
           refine jL (o:=2) (o' := 2+F) (i:=(F:Int)) rfl rfl rfl rA j3 o_ (by first|omega|(simp only[nT];omega)) (ld (a:=⟨h,2+F,none⟩) (v:=g) rfl rfl yd rfl (St.rU j (i:=2) rfl (wg (by first|omega|(rw[gx];omega)) (by rw[jS o_]))) (fK j 3 ?_))
           refine iz (f:=(fun _=>(fJ (jw ps q) x))) 3 j (fun aI C=>?_)
           refine fP C 7 ?_
           refine tN (?_)
           have ad:=yw 0 C rfl (congrArg (fL fW ((fJ (jl.eraseIdx F) q).1) 3 1) (aP.symm))
           have ae:=St.E0 ad o_
           have af:=yg [1,2,0,3] ae
           have ag:=yw 1 af rfl (congrArg (fL fW g 3 1) (show _=oI (kA ps F) ps.length (x+1) from IZ aK (by rw[hq];exact aaC aK o_)))
           exact again (x+1) ⟨rfl,rfl,rfl,rfl,rfl,rfl,gj rO,trivial⟩ (⟨ag,o_⟩) (by show (ps.length-(x+1):Nat)<ps.length-x;omega)
     . refine fP aJ 15 ?_
       refine tN (?_)
       have aU:x=ps.length:=by omega
       have ah:=yw 1 aJ rfl (congrArg (fL fW g 3 1) (show _=(jw ps F) from(congrArg (oI (kA ps F) ps.length) aU).trans Y9))
       have ai:=yg [1,2,0,3] ah
       have aj:=St.CE ai o_
       have ak:=yg [1,0,2] aj
       have al:St _ [blk h 376 (Zh :: d :: ((fM jl F (fun _=>(g,jw ps F)))).flatMap iH),(oK fW 3 (fM jl F (fun _=>(g,jw ps F)))),fL fS d 3 1 ((List.range ps.length).map (gp ps))] V:=yw 0 ak rfl (congrArg (blk h 376) ((Jv o_).symm.trans (Jv o_)))
       exact again ((F+1),(fM jl F (fun _=>(g,jw ps F)))) ⟨rfl,rfl,rfl,gj rO,trivial⟩ (⟨al,by rw[gx];exact aN,aaA aN o_ aO,o_⟩) (by show (13-(F+1):Nat)<13-F;omega)
   . refine fP aM 18 ?_
     refine iD (v:=(Zb h)) (v' := Zc) Tryz.results254 rfl rfl ?_
     have a1:F=13:=by omega
     have aT:Lt.ok ps (⟨d,jl⟩:Lt):=⟨aN,fun q hq=>aO q o_⟩
     exact⟨h,(⟨d,jl⟩:Lt),rfl,vz (yt (p:=Lt.ok ps (⟨d,jl⟩:Lt)) (yc [_,_,_] _ aM) aT) s_⟩
end
section
open Go Go.Sx
structure nw (w:World) (tb:Nat) (ps:List Int) (t:Lt):Prop where
 ok:t.ok ps
 b:(blk tb 376 [.bool true,t.dv,(fJ t.jl 0).1,(fJ t.jl 1).1,(fJ t.jl 2).1,(fJ t.jl 3).1,(fJ t.jl 4).1,(fJ t.jl 5).1,(fJ t.jl 6).1,(fJ t.jl 7).1,(fJ t.jl 8).1,(fJ t.jl 9).1,(fJ t.jl 10).1,(fJ t.jl 11).1,(fJ t.jl 12).1]).holds w
 d:gY 1 fS (fun _=>True) w t.dv ((List.range ps.length).map (gp ps))
 r:∀ q,q<13->gY 1 fW (fun _=>True) w (fJ t.jl q).1 (jw ps q)
theorem nw.of{w:World}{tb:Nat}{ps:List Int}{t:Lt}(d:Own (Lt.R tb ps t) w):nw w tb ps t:=by
 have h:=Own.of d.un
 have a:t.ok ps:=d.fact
 refine⟨a,?_,(y0 h 2 rfl).any,fun q e=>?_⟩
 . have b:=St.at h (i:=0) rfl
   rw[QB a.len]at b
   exact b
 . have f:=ug q (h.perm (List.Perm.swap _ _ _)) (by rw[a.len];exact e)
   have c:=(y0 f 0 rfl).any
   rw[a.row q e]at c
   exact c
theorem nw.to{bs:List (World×List Nat)}{L:List fT}{w w0:World}{tb:Nat}{ps:List Int}{t:Lt}(h:nw w0 tb ps t)(hs:St bs L w)(hb:(w0,[])∈bs):nw w tb ps t :=
 ⟨h.ok,St.xZ hs hb h.b,yy hs hb d_ h.d,fun q a=>yy hs hb d_ (h.r q a)⟩
theorem nw.p{w:World}{tb:Nat}{ps:List Int}{t:Lt}(h:nw w tb ps t):gY 1 fW (fun _=>True) w (fJ t.jl 0).1 ps:=by
 have:=h.r 0 o_
 rw[aaB]at this
 exact this
theorem QC(tb:Nat)(ps:List Int)(t:Lt)(w:World)(f:nw w tb ps t)(h:ko ps)(i:ps.length<=8192) :
 CR ya 256 (Zi tb) w (fun r w' => r = .int .i64 (ps.length:Int)/\gw [] w w'):=by
 have g:((List.range ps.length).map (gp ps)).length=ps.length:=by simp
 refine en Tryz.func256 Tryz.ntmps256 ?_
 have e:=yu w
 refine fR e 9 ?_
 refine uM (a:=some ⟨tb,0,none⟩) (c:=false) rfl rfl rfl zB rfl (fK e 4 ?_)
 refine ld rfl rfl y9 rfl (kK e s_ f.b rfl) (fK e 12 ?_)
 refine ld rfl rfl yd rfl (kK e s_ f.b rfl) (j8 (v:=t.dv) rfl rfl yd f.d (fP e 4 ?_))
 refine gq (v:=(Za (((List.range ps.length).map (gp ps)).length:Int))) Tryz.results256 rfl ?_
 exact⟨by rw[g],e.gA s_⟩
theorem EY(tb:Nat)(ps:List Int)(t:Lt)(w:World)(f:nw w tb ps t)(e:ko ps)(g:ps.length<=8192)(x:Nat)(i:x<ps.length) :
 CR ya 255 (Zm tb x) w (fun r w' => r = .bool true/\gw [] w w'):=by
 have h:((List.range ps.length).map (gp ps)).length=ps.length:=by simp
 refine en Tryz.func255 Tryz.ntmps255 ?_
 have d:=yu w
 refine fR d 8 ?_
 refine cmp rfl rfl rfl (nG o_) (fK d 3 ?_)
 refine cl Ph (QC tb ps t w f e g) ?_
 rintro _ c ⟨rfl,b⟩
 have a:=yp d b
 refine cmp rfl rfl rfl (pZ o_) (fP a 5 ?_)
 refine gq (v:=Zh) Tryz.results255 rfl ?_
 exact⟨rfl,a.gA s_⟩
theorem VM(tb:Nat)(ps:List Int)(t:Lt)(w:World)(h:nw w tb ps t)(n:ko ps)(A:ps.length<=8192)(hv:Value)(hs:List Int)(q:gY 1 fW (fun _=>True) w hv hs)(C:hs.length=ps.length)(T:Int)(j l m:Nat)(h1:(blk j 223 (Zf tb)).holds w)(u:(blk l 78 [hv]).holds w)(y:(blk m 2 (Zd T)).holds w)(x:Nat)(s:x<ps.length) :
 CR ya 257 #[(Za x),(Zb j),(Zb l),(Zb m)] w (fun r w' => ∃ B:Bool,r = .bool B/\(B=true↔0<=fJ ps x/\fJ hs (fJ ps x).toNat<=T)/\gw [] w w'):=by
 have z:((List.range ps.length).map (gp ps)).length=ps.length:=by simp
 refine en Tryz.func257 Tryz.ntmps257 ?_
 have g:=yu w
 have D:=n.up x s
 refine fR g 10 ?_
 refine jL (o:=2) (o' := 2) (i:=0) rfl rfl rfl rA j3 d_ rfl (ld rfl rfl yd rfl (kK g s_ h.b rfl) (fK g 1 ?_))
 refine iJ (k:=x) (i:=(x:Int)) rfl rfl rfl yd gr h.p o_ o_ (gy o_) (jd rfl rfl yf rfl h.p (gy o_) rfl (gI g 6 fun c a=>?_))
 by_cases d:((fJ ps x):Int)≥(0:Int)
 . refine fK a 4 ?_
   refine iJ (k:=(fJ ps x).toNat) (i:=(fJ ps x)) rfl rfl rfl ow ti2 q o_ o_ (gy o_) (fK a 2 ?_)
   by_cases e:((fJ hs (fJ ps x).toNat):Int)<=(T:Int)
   . refine fP a 6 ?_
     refine gq (v:=Zh) Tryz.results257 rfl ?_
     exact⟨true,rfl,⟨fun f=>by first|omega|(cases f),fun f=>by first|rfl|(exfalso;omega)⟩,a.gA s_⟩
   . refine fP a 6 ?_
     refine gq (v:=Zp) Tryz.results257 rfl ?_
     exact⟨false,rfl,⟨fun f=>by first|omega|(cases f),fun f=>by first|rfl|(exfalso;omega)⟩,a.gA s_⟩
 . refine fP a 13 ?_
   refine gq (v:=Zp) Tryz.results257 rfl ?_
   exact⟨false,rfl,⟨fun f=>by first|omega|(cases f),fun f=>by first|rfl|(exfalso;omega)⟩,a.gA s_⟩
theorem VO(tb:Nat)(ps:List Int)(t:Lt)(w:World)(F:nw w tb ps t)(W:ko ps)(Y:ps.length<=8192)(hv:Value)(hs:List Int)(X:gY 1 fW (fun _=>True) w hv hs)(ad:hs.length=ps.length)(T:Int)(V:Nat)(ae:V<ps.length) :
 CR ya 186 #[(Zb tb),(Za V),hv,(Za T)] w (fun r w' => r = .tuple (xz ((jP ps hs T V:Nat):Int))/\gw [] w w'):=by
 have af:((List.range ps.length).map (gp ps)).length=ps.length:=by simp
 refine en Tryz.func186 Tryz.ntmps186 ?_
 have ab:=yu w
 refine fR ab 2 ?_
 refine iC ab (fun e H I J s=>?_)
 refine iC s (fun g K L M u=>?_) (hcs:=(cells_one (Sl.RM X)))
 refine iC u (fun h y N O f=>?_)
 refine fK f 8 ?_
 refine uM (a:=some ⟨tb,0,none⟩) (c:=false) rfl rfl rfl zB rfl (fK f 4 ?_)
 refine ld rfl rfl y9 rfl (kK f s_ F.b rfl) (fK f 12 ?_)
 refine cl Ez (EY tb ps t y (F.to f s_) W Y V o_) ?_
 rintro _ P ⟨rfl,z⟩
 have m:=yp f z
 refine gD m 8 ?_
 refine kC mixed [([0,1,2,3],[0,1])] [4] m (fun A j=>jA ?_)
 refine fK j 1 ?_
 refine j8 (v:=hv) rfl rfl ow X (fK j 1 ?_)
 refine cl Ph (QC tb ps t A (F.to j s_) W Y) ?_
 rintro _ Q ⟨rfl,B⟩
 have l:=yp j B
 refine fP l 1 ?_
 refine uf (lq rfl pG (lq rfl (p9 (JJ (v:=hv) rfl ow X) rfl rfl) (trivial))) (kF ?_)
 refine cmp rfl rfl rfl (o7 o_) (fK l 7 ?_)
 refine mO (vf:=[]) (vc:=(Ab e g h)) rfl rfl rfl (gD l 5 ?_)
 refine lp (α:=Nat) (fun x=>[(1,(Za x)),(4,(Zb e)),(10,(.func (.func 257) #[] (MS e g h)))]) (fun x w1=>St [(w,[])] [blk h 2 (Zd T),blk g 78 [hv],blk e 223 (Zf tb)] w1/\x<ps.length/\jP ps hs T x=jP ps hs T V) (fun x=>ps.length-x) V ⟨gj rO,rfl,rfl,trivial⟩ (⟨l,ae,rfl⟩) ?_
 rintro x R C ⟨U,Z,hc⟩
 have ag:=W.up x Z
 refine fR U 5 ?_
 refine nV (fi:=[]) (ca:=(Ab e g h)) rfl rfl rfl XM (VM tb ps t C (F.to U s_) W Y hv hs (yy U s_ d_ X) ad T e g h (St.at U (i:=2) rfl) (St.at U (i:=1) rfl) (St.at U (i:=0) rfl) x Z) ?_
 rintro _ S ⟨D,rfl,n,E⟩
 have d:=yp U E
 refine gD d 2 ?_
 cases q:(D:Bool)
 . skip
   subst q
   refine iO d 14 ?_
   refine iD (v:=(Za x)) (v' := Zc) Tryz.results186 rfl rfl ?_
   have G:=yg [] d
   have ac:¬ (0<=fJ ps x/\fJ hs (fJ ps x).toNat<=T):=fun h9=>(by have h8:=n.2 h9;cases h8)
   exact⟨by rw[<-hc,Ig ac],G.gA s_⟩
 . skip
   subst q
   refine fR d 8 ?_
   refine jL (o:=2) (o' := 2) (i:=0) rfl rfl rfl rA j3 d_ rfl (ld rfl rfl yd rfl (kK d s_ F.b rfl) (fK d 1 ?_))
   refine iJ (k:=x) (i:=(x:Int)) rfl rfl rfl yd gr F.p o_ o_ (gy o_) (jd rfl rfl yf rfl (yy d s_ d_ F.p) (gy o_) rfl (fP d 3 ?_))
   refine tN (?_)
   have aa:=n.1 rfl
   exact again ((fJ ps x).toNat) ⟨gj rO,rfl,rfl,trivial⟩ (⟨d,o_,(Ih W Z aa.1 aa.2).symm.trans hc⟩) (by show (ps.length-((fJ ps x).toNat):Nat)<ps.length-x;omega)
end
section
open Go Go.Sx
structure Cv where
 tb:Nat
 t:Lt
 f:List Nat
 lv:Value
 rv:Value
 pv:Value
 hv:Value
 sv:Value
 ev:Value
def Cv.R(cb n:Nat)(es:List Ge)(c:Cv):fT:=kO (iU es n c.f) (gm [blk cb 225 [(Zb c.tb),(Za n),c.lv,c.rv,c.pv,c.hv,c.sv,c.ev],(Lt.R c.tb (gf es n c.f).p c.t),fL fW c.lv 3 1 ((gf es n c.f).l),fL fW c.rv 3 1 ((gf es n c.f).r),fL fW c.pv 3 1 ((gf es n c.f).p),fL fW c.hv 2 1 ((gf es n c.f).h),fL fS c.sv 3 1 ((gf es n c.f).s),fL fS c.ev 3 1 ((List.range (n+(c.f).length)).map (gQ es n (c.f)))])
theorem VV(v:Value)(n:Nat)(es:List Ge)(w:World)(hv:gY 3 Ge.cells (fun _=>True) w v es)(Q:mj n es)(S:n<=4096)(hm:es.length<=16384) :
 CR ya 183 #[(Za n),v] w (fun r w' => ∃ (cb:Nat) (c:Cv),r = .tuple (Z0 cb)/\fV (gm []) w w' (Cv.R cb n es c)):=by
 refine en Tryz.func183 Tryz.ntmps183 ?_
 have T:=yu w
 refine fR T 10 ?_
 refine cl IF (KG v n es w hv Q S hm) ?_
 rintro _ D ⟨b,h,j,d,P,k,rfl,y,O⟩
 have s:=yv (jR T O)
 have F:iU es n b:=⟨Q,y⟩
 have W:=F.f.room F.g
 obtain⟨X,Y,Z,aa,ab⟩:=nQ (es:=es) (n:=n) (f:=b)
 have V:=F.u9
 have U:=F.Kx
 refine fK s 3 ?_
 refine iE s (fun E G H I e=>?_)
 refine jM 0 e (fun z o=>?_) (h1:=(gX rfl (gX (yr e (i:=1) rfl) (gX (yr e (i:=2) rfl) (gX (yr e (i:=3) rfl) (gX (yr e (i:=4) rfl) (gX (yr e (i:=5) rfl) j4)))))))
 refine fK o 17 ?_
 refine cl Pg (QG d (gf es n b).p z (y0 o 3 rfl).any V U o_) ?_
 rintro _ J ⟨l,A,rfl,O⟩
 have t:=(jR o O)
 refine gD t 18 ?_
 refine kC mixed [([0,1,2,3],[1])] [4,5,6,7] t (fun B a=>jA ?_)
 refine fK a 3 ?_
 refine cl ON (SU es n b F S h j d P k B ⟨(y0 a 2 rfl).any,(y0 a 3 rfl).any,(y0 a 4 rfl).any,(y0 a 5 rfl).any,(y0 a 6 rfl).any⟩) ?_
 rintro _ K ⟨m,rfl,O⟩
 have q:=(jR a O)
 refine fP q 1 ?_
 refine kn (kF ?_)
 refine jc (pvs:=[(0,(Zb l)),(1,(B0 n h j d P k)),(2,m)]) (v:=.agg #[(Zb l),(Za n),h,j,d,P,k,m]) rfl rfl (jo [(0,(Zf l)),(1,(Zr n h j d P k)),(2,[m])] TH adi rfl ⟨rfl,rfl,rfl,rfl,rfl,(cells_one (yr q (i:=0) rfl)),trivial⟩ rfl) (iC q (fun u L M N x=>?_))
 refine fP x 5 ?_
 refine iD (v:=(Zb u)) (v' := Zc) Tryz.results183 rfl rfl ?_
 have C:=yg [0,2,4,5,6,7,8,1] x
 exact⟨u,(⟨l,A,b,h,j,d,P,k,m⟩:Cv),rfl,vz (yt (p:=iU es n b) (yc [_,_,_,_,_,_,_,_] _ C) F) s_⟩
end
section
open Go Go.Sx
structure tA (w:World) (cb n:Nat) (es:List Ge) (c:Cv):Prop where
 fg:iU es n c.f
 b:(blk cb 225 [(Zb c.tb),(Za n),c.lv,c.rv,c.pv,c.hv,c.sv,c.ev]).holds w
 t:nw w c.tb (gf es n c.f).p c.t
 r:mY w es n c.f c.lv c.rv c.pv c.hv c.sv
 e:gY 1 fS (fun _=>True) w c.ev ((List.range (n+(c.f).length)).map (gQ es n (c.f)))
theorem tA.of{w:World}{cb n:Nat}{es:List Ge}{c:Cv}(a:Own (Cv.R cb n es c) w):tA w cb n es c:=by
 have h:=Own.of a.un
 exact⟨a.fact,St.at h (i:=0) rfl,nw.of (ye h 1 rfl),⟨(y0 h 2 rfl).any,(y0 h 3 rfl).any,(y0 h 4 rfl).any,(y0 h 5 rfl).any,(y0 h 6 rfl).any⟩,(y0 h 7 rfl).any⟩
theorem tA.to{bs:List (World×List Nat)}{L:List fT}{w w0:World}{cb n:Nat}{es:List Ge}{c:Cv}(h:tA w0 cb n es c)(hs:St bs L w)(hb:(w0,[])∈bs):tA w cb n es c :=
 ⟨h.fg,St.xZ hs hb h.b,h.t.to hs hb,h.r.to hs hb,yy hs hb d_ h.e⟩
theorem Wo(cb n:Nat)(es:List Ge)(c:Cv)(w:World)(e:tA w cb n es c)(o:n<=4096) :
 CR ya 185 (Zi cb) w (fun r w' => r = .bool true/\gw [] w w'):=by
 obtain⟨i,j,k,l,m⟩:=nQ (es:=es) (n:=n) (f:=c.f)
 have h:=e.fg.f.room e.fg.g
 refine en Tryz.func185 Tryz.ntmps185 ?_
 have d:=yu w
 refine fR d 8 ?_
 refine l9 (a:=some ⟨cb,0,none⟩) (c:=true) rfl rfl rfl Tryz.underlying103 rfl (fK d 4 ?_)
 refine ld rfl rfl zB rfl (kK d s_ e.b rfl) (l9 (a:=some ⟨c.tb,0,none⟩) (c:=true) rfl rfl rfl zB rfl (fP d 5 ?_))
 refine gq (v:=Zh) Tryz.results185 rfl ?_
 exact⟨rfl,d.gA s_⟩
theorem Wi(cb n:Nat)(es:List Ge)(c:Cv)(w:World)(o:tA w cb n es c)(s:n<=4096)(x:Nat)(D:x<n)(T:Int) :
 CR ya 111 (Zu cb x T) w (fun r w' => r = .tuple (xz ((jP (gf es n c.f).p (gf es n c.f).h T x:Nat):Int))/\gw [] w w'):=by
 obtain⟨y,z,A,B,C⟩:=nQ (es:=es) (n:=n) (f:=c.f)
 have u:=o.fg.f.room o.fg.g
 refine en Tryz.func111 Tryz.ntmps111 ?_
 have q:=yu w
 refine fR q 10 ?_
 refine cl Xq (Wo cb n es c w o s) ?_
 rintro _ l ⟨rfl,i⟩
 have d:=yp q i
 refine fK d 10 ?_
 refine cmp rfl rfl rfl (lG o_) (fK d 6 ?_)
 refine ld rfl rfl yf rfl (kK d s_ o.b rfl) (cmp rfl rfl rfl (p5 o_) (gI d 11 fun j a=>?_))
 refine ld rfl rfl zB rfl (kK a s_ o.b rfl) (fK a 5 ?_)
 refine ld rfl rfl ow rfl (kK a s_ o.b rfl) (fK a 1 ?_)
 refine cl Xr (VO c.tb (gf es n c.f).p c.t j (o.to a s_).t o.fg.u9 o_ c.hv (gf es n c.f).h (o.to a s_).r.h o_ T x o_) ?_
 rintro _ m ⟨rfl,k⟩
 have e:=yp a k
 refine fP e 7 ?_
 refine iD (v:=(Za ((jP (gf es n c.f).p (gf es n c.f).h T x:Nat):Int))) (v' := Zc) Tryz.results111 rfl rfl ?_
 exact⟨rfl,e.gA s_⟩
theorem Ov(cb n:Nat)(es:List Ge)(c:Cv)(w:World)(C:tA w cb n es c)(G:n<=4096)(x:Nat)(H:x<n)(T:Int) :
 CR ya 60 (Zu cb x T) w (fun r w' => r = .tuple #[.agg (Zx ((gQ es n c.f (jP (gf es n c.f).p (gf es n c.f).h T x):Nat):Int) ((fJ (gf es n c.f).s (jP (gf es n c.f).p (gf es n c.f).h T x):Nat):Int)),.int .i64 0]/\gw [] w w'):=by
 obtain⟨J,K,L,M,N⟩:=nQ (es:=es) (n:=n) (f:=c.f)
 have I:=C.fg.f.room C.fg.g
 have F:(jP (gf es n c.f).p (gf es n c.f).h T x)<n+c.f.length:=by have:=Oj (hs:=(gf es n c.f).h) (T:=T) (x:=x) (ps:=(gf es n c.f).p) o_ C.fg.u9;omega
 have O:((List.range (n+(c.f).length)).map (gQ es n (c.f))).length=n+c.f.length:=by simp
 have D:((List.range (n+(c.f).length)).map (gQ es n (c.f)))[(jP (gf es n c.f).p (gf es n c.f).h T x)]? = some (gQ es n c.f (jP (gf es n c.f).p (gf es n c.f).h T x)):=by simp[F]
 refine en Tryz.func60 Tryz.ntmps60 ?_
 have E:=yu w
 refine fR E 2 ?_
 refine iE E (fun t l u y d=>?_)
 refine fK d 8 ?_
 refine cl WV (Wi cb n es c l (C.to d s_) G x H T) ?_
 rintro _ z ⟨rfl,m⟩
 have q:=yp d m
 refine gI q 22 fun A a=>?_
 refine ld rfl rfl yd rfl (kK a s_ C.b rfl) (fK a 1 ?_)
 refine iJ (k:=(jP (gf es n c.f).p (gf es n c.f).h T x)) (i:=((jP (gf es n c.f).p (gf es n c.f).h T x:Nat):Int)) rfl rfl rfl yd gr C.e o_ o_ D (jd rfl rfl yf rfl (yy a s_ d_ C.e) D rfl (fK a 4 ?_))
 refine ld rfl rfl yd rfl (kK a s_ C.b rfl) (fK a 1 ?_)
 refine iJ (k:=(jP (gf es n c.f).p (gf es n c.f).h T x)) (i:=((jP (gf es n c.f).p (gf es n c.f).h T x:Nat):Int)) rfl rfl rfl yd gr C.r.s o_ o_ (gy o_) (jd rfl rfl yf rfl (yy a s_ d_ C.r.s) (gy o_) rfl (jc (pvs:=[(0,(Za (((gQ es n c.f (jP (gf es n c.f).p (gf es n c.f).h T x)):Nat):Int))),(1,(Za (((fJ (gf es n c.f).s (jP (gf es n c.f).p (gf es n c.f).h T x)):Nat):Int)))]) (v:=.agg (Zx (((gQ es n c.f (jP (gf es n c.f).p (gf es n c.f).h T x)):Nat):Int) (((fJ (gf es n c.f).s (jP (gf es n c.f).p (gf es n c.f).h T x)):Nat):Int))) rfl rfl (jo [(0,(Zd (((gQ es n c.f (jP (gf es n c.f).p (gf es n c.f).h T x)):Nat):Int))),(1,(Zd (((fJ (gf es n c.f).s (jP (gf es n c.f).p (gf es n c.f).h T x)):Nat):Int)))] C7 ac7 rfl ⟨rfl,rfl,rfl,rfl,trivial⟩ rfl) (jV a 5 fun B j=>?_)))
 refine oO (v:=(Ca (((gQ es n c.f (jP (gf es n c.f).p (gf es n c.f).h T x)):Nat):Int) (((fJ (gf es n c.f).s (jP (gf es n c.f).p (gf es n c.f).h T x)):Nat):Int))) (v' := Zc) Tryz.results60 (oc (cs:=(Zn (((gQ es n c.f (jP (gf es n c.f).p (gf es n c.f).h T x)):Nat):Int) (((fJ (gf es n c.f).s (jP (gf es n c.f).p (gf es n c.f).h T x)):Nat):Int))) rfl Tryz.underlying138 rfl C7 rfl (me j (i:=0) (o:=0) (vs:=(Zn (((gQ es n c.f (jP (gf es n c.f).p (gf es n c.f).h T x)):Nat):Int) (((fJ (gf es n c.f).s (jP (gf es n c.f).p (gf es n c.f).h T x)):Nat):Int))) rfl rfl)) (pH rfl) ?_
 exact⟨rfl,j.gA s_⟩
end
section
open Go Go.Sx
end
end Go.Proofs.YtedjjkcihkmjgaaGreatDoor
namespace Go.Proofs
open Go.Shelf Go.Lib in
def Tryz.af3:Go.Shelf.Ren:=⟨fun|27=>339|28=>356|29=>357|n=>n,fun|25=>193|3=>3|27=>289|22=>39|4=>4|53=>453|0=>0|5=>5|54=>454|n=>n,fun|0=>0|1=>1|n=>n⟩
open Go.Shelf Go.Lib in
theorem Tryz.tzI:Go.Proofs.Lays7.n27 Proofs.Tryz.prog Tryz.af3 where
 mixed:=by kernel_rfl
 f27:=Proofs.Tryz.func339.trans (congrArg some<|by kernel_rfl)
 f28:=Proofs.Tryz.func356.trans (congrArg some<|by kernel_rfl)
 f29:=Proofs.Tryz.func357.trans (congrArg some<|by kernel_rfl)
 t0:=Proofs.Tryz.underlying0
 a0:=Proofs.Tryz.isAgg0
 z0:=Proofs.Tryz.sizeOf0
 v0:=Proofs.Tryz.zeroValue0
 i0:=by kernel_rfl
 t3:=Proofs.Tryz.underlying3
 a3:=Proofs.Tryz.isAgg3
 z3:=Proofs.Tryz.sizeOf3
 v3:=Proofs.Tryz.zeroValue3
 i3:=by kernel_rfl
 t4:=Proofs.Tryz.underlying4
 a4:=Proofs.Tryz.isAgg4
 z4:=Proofs.Tryz.sizeOf4
 v4:=Proofs.Tryz.zeroValue4
 i4:=by kernel_rfl
 t5:=Proofs.Tryz.underlying5
 a5:=Proofs.Tryz.isAgg5
 z5:=Proofs.Tryz.sizeOf5
 v5:=Proofs.Tryz.zeroValue5
 i5:=by kernel_rfl
 t22:=Proofs.Tryz.underlying39
 a22:=Proofs.Tryz.isAgg39
 z22:=Proofs.Tryz.sizeOf39
 v22:=Proofs.Tryz.zeroValue39
 i22:=by kernel_rfl
 t25:=Proofs.Tryz.underlying193
 a25:=Proofs.Tryz.isAgg193
 z25:=Proofs.Tryz.sizeOf193
 v25:=Proofs.Tryz.zeroValue193
 i25:=by kernel_rfl
 t27:=Proofs.Tryz.underlying289
 a27:=Proofs.Tryz.isAgg289
 z27:=Proofs.Tryz.sizeOf289
 v27:=Proofs.Tryz.zeroValue289
 i27:=by kernel_rfl
 t53:=Proofs.Tryz.underlying453
 a53:=Proofs.Tryz.isAgg453
 z53:=Proofs.Tryz.sizeOf453
 v53:=Proofs.Tryz.zeroValue453
 i53:=by kernel_rfl
 t54:=Proofs.Tryz.underlying454
 a54:=Proofs.Tryz.isAgg454
 z54:=Proofs.Tryz.sizeOf454
 g0:=by kernel_rfl
 g1:=by kernel_rfl
end Go.Proofs
namespace Go.Proofs.YtedjjkcihkmjgaaGreatDoor
section
open Go Go.Sx
def afp(o:Obj):Prop:=∀ w:World,w.heap[1]? = some o->∀ j,j<64->w.cell? ⟨1,j,none⟩=some (.int .u8 ((Go.Lib.deBruijn64tab.getD j 0:Nat):Int))
def jW(o:Obj):fT where
 gH:=[1]
 holds w:=w.heap[1]? = some o/\afp o
 loc w w' h hh:=⟨(h 1 s_).trans hh.1,hh.2⟩
theorem Lr{o:Obj}{w:World}(h:(jW o).holds w):1<w.heap.size:=(qg.1 h.1).1
theorem afs{o:Obj}{w:World}(h:(jW o).holds w):Own (jW o) w:=⟨h,by simp[jW],fun b hb=>by simp[jW]at hb;subst hb;exact Lr h⟩
theorem St.x8{bs:List (World×List Nat)}{L:List fT}{w w0:World}{o:Obj}{X:List Nat}(h:St bs L w)(hb:(w0,X)∈bs)(a:(jW o).holds w0)(b:1∉X):(jW o).holds w :=
 ⟨(h.keep hb (Lr a) b).trans a.1,a.2⟩
theorem afq{o:Obj}{w w' : World}(a:(jW o).holds w)(h:fV (jW o) w w' (jW o)):gw [] w w' :=
 ⟨h.gA.os,h.gA.tape,h.gA.output,h.gA.size,fun b hb _=>by
  by_cases e:b=1
  . subst e
    exact h.holds.1.trans a.1.symm
  . exact h.gA.block b hb (by simp[jW,e])⟩
theorem afr{w:World}(h:∀ j,j<64->w.cell? ⟨1,j,none⟩=some (.int .u8 ((Go.Lib.deBruijn64tab.getD j 0:Nat):Int))):∃ o,(jW o).holds w:=by
 have a:=World.block_lt_of_cell? w _ (h 0 d_)
 refine⟨w.heap[1],uo a,fun d b j c=>?_⟩
 rw[<-h j c]
 exact World.cell?_of_block (b.trans (uo a).symm)
theorem af4{o:Obj}(w:World)(a:(jW o).holds w)(d:Nat)(hd:d<18446744073709551616) :
 CR ya 339 (xA d) w (fun r w' => r = .int .i64 ((Go.Lib.ctz 64 d:Nat):Int)/\w' = w):=by
 have h:=Go.Proofs.Any7.bits_TrailingZeros Tryz.tzI d hd w (fun _ j c=>a.2 w a.1 j c)
 exact Calls.mono h fun e w' b=>⟨_,b.1,rfl,b.2⟩
end
section
open Go Go.Sx
theorem acD(d:Nat)(w:World) :
 CR ya 318 (Z4 d) w (fun r w' => ∃ h,w.heap.size<=h/\r = .func (.func 338) #[] (Zi h)/\(blk h 3 (Zd d)).holds w' /\ gw [] w w'):=by
 refine en Tryz.func318 Tryz.ntmps318 ?_
 have g:=yu w
 refine fR g 2 ?_
 refine iC g (fun b e c f a=>?_)
 refine fK a 5 ?_
 refine mO (vf:=[]) (vc:=(Zf b)) rfl rfl rfl (fP a 4 ?_)
 refine gq (v:=(.func (.func 338) #[] (Zi b))) Tryz.results318 rfl ?_
 exact⟨_,kz (g.size za) c,rfl,a.at (i:=0) rfl,a.gA s_⟩
theorem af5{o:Obj}(w:World)(a:(jW o).holds w)(d:Nat)(hd:d<18446744073709551616) :
 CR ya 339 (xA d) w (fun r w' => r = .int .i64 ((Go.Lib.ctz 64 d:Nat):Int)/\gw [] w w') :=
 CR.mono (af4 w a d hd) fun r w' h=>⟨h.1,h.2▸gw.refl _ _⟩
theorem acC(p:Nat->fT)(l t n:Nat)(w:World)(B:∀ (d:Nat) (bs:List (World×List Nat)) (L:List fT) (w1:World),d≠0->d<=n->(w,(p n).gH)∈bs->St bs (p d :: L) w1->YR ya l (Zd ((Go.Lib.ctz 64 d:Nat):Int)) w1 (fun v w' => v = .bool true/\St bs (p (d &&& (d-1)) :: L) w'))(y:Own (p n) w)(A:(blk t 3 (Zd n)).holds w)(E:t∉(p n).gH){o:Obj}(z:(jW o).holds w)(u:1∉(p n).gH)(C:n<8192) :
 CR ya 338 (G6 (.func (.yield l) #[] #[]) t) w (fun r w' => r = .tuple #[]/\fV (p n) w w' (p 0)):=by
 refine en Tryz.func338 Tryz.ntmps338 ?_
 have s:=yq y
 refine fR s 2 ?_
 refine ld rfl rfl yf rfl (Cn A (o:=0) rfl) (gD s 5 ?_)
 refine lp (α:=Nat) (fun d=>[(0,(.func (.yield l) #[] #[])),(3,(Zo d))]) (fun d w1=>St [(w,(p n).gH)] [p d] w1/\d<=n) (fun d=>d) n ⟨rfl,gj rO,trivial⟩ (⟨s,o_⟩) ?_
 rintro d i f ⟨q,D⟩
 refine fR q 4 ?_
 by_cases j:((d:Int):Int)=(0:Int)
 . refine fP q 8 ?_
   refine iS Tryz.results338 ?_
   obtain rfl:d=0:=by omega
   exact⟨rfl,ym (R:=p n) q s_⟩
 . refine fK q 12 ?_
   refine cl Yb (af5 f (St.x8 q (X:=(p n).gH) s_ z u) d o_) ?_
   rintro _ k ⟨rfl,g⟩
   have h:=yp q g
   refine yl (vl:=(Zd ((Go.Lib.ctz 64 d:Nat):Int))) rfl rfl rfl (B d _ _ _ o_ o_ s_ h) ?_
   rintro _ m ⟨rfl,c⟩
   refine fK c 10 ?_
   refine ar (e:=((d-1:Nat):Int)) rfl rfl rfl rfl (by rw[Gl o_];omega) (bi (a:=(d:Int)) (b:=((d-1:Nat):Int)) (e:=((d &&& (d-1):Nat):Int)) rfl rfl rfl (congrArg some (Go.bits_and_u64_nat d (d-1) o_ o_)) (fP c 2 ?_))
   refine tN (?_)
   obtain⟨F,G⟩:=Im (x:=d) o_ o_
   have H:0<2 ^ Go.Lib.ctz 64 d:=Nat.pow_pos d_
   exact again (d &&& (d-1)) ⟨rfl,gj rO,trivial⟩ (⟨c,o_⟩) (by show ((d &&& (d-1)):Nat)<d;omega)
end
section
open Go Go.Sx
theorem nw.b2{w:World}{tb:Nat}{ps:List Int}{t:Lt}(h:nw w tb ps t):(blk tb 376 (.bool true :: t.dv :: t.jl.flatMap iH)).holds w:=by
 rw[QB h.ok.len]
 exact h.b
theorem QJ(tb:Nat)(ps:List Int)(t:Lt)(w:World)(T:nw w tb ps t)(hP:ko ps)(hn:ps.length<=8192){o:Obj}(hT:(jW o).holds w)(x F:Nat)(hx:x<ps.length)(hd:F<=gp ps x) :
 CR ya 258 (Zu tb x F) w (fun r w' => r = .tuple (DP ((gM ps F x:Nat):Int))/\gw [] w w'):=by
 have ag:((List.range ps.length).map (gp ps)).length=ps.length:=by simp
 have ay:=Ir hP hx
 have an:F<8192:=by omega
 refine xU (vs:=(Aa tb x F)) Tryz.func258 rfl Tryz.ntmps258 rfl ?_
 have am:=yu w
 have ah:((List.range ps.length).map (gp ps))[x]? = some (gp ps x):=by simp[hx]
 refine fR am 2 ?_
 refine iC am (fun c N O P n=>?_)
 refine iC n (fun e Q R S p=>?_)
 refine gI p 9 fun q h=>?_
 refine cl Ez (EY tb ps t q (T.to h s_) hP hn x o_) ?_
 rintro _ s ⟨rfl,u⟩
 have a:=yp h u
 refine fK a 3 ?_
 by_cases U:((F:Int):Int)<(0:Int)
 . refine fP a 24 ?_
   exfalso
   omega
 . refine fK a 7 ?_
   refine ld rfl rfl yd rfl (kK a s_ T.b rfl) (fK a 1 ?_)
   refine iJ (k:=x) (i:=(x:Int)) rfl rfl rfl yd gr T.d o_ o_ ah (jd rfl rfl yf rfl (yy a s_ d_ T.d) ah rfl ?_)
   by_cases V:((F:Int):Int)>((((gp ps x):Nat):Int):Int)
   . refine fP a 13 ?_
     exfalso
     omega
   . refine fK a 11 ?_
     refine cl X6 (acD F s) ?_
     rintro _ y ⟨f,A,rfl,B,C⟩
     have j:=St.NG a C A B
     have D:=yg [2,1,0] j
     have E:St [(w,[])] [blk c 223 (Zf tb),blk e 3 (Zd ((gM ps (F-F) x:Nat):Int)),blk f 3 (Zd F)] y:=by rw[Nat.sub_self];exact D
     refine gD j 3 ?_
     refine rf (α:=Nat) (ps:=[30]) (fi:=[]) (ca:=(Zf f)) (fun z=>[blk c 223 (Zf tb),blk e 3 (Zd ((gM ps (F-z) x:Nat):Int)),blk f 3 (Zd F)]) (fun z=>z=0) E rfl Ya ?_ ?_
     . intro fn dd l wl rc ae al
       have G:=yg [0,2,3,1,4] al
       have ad:=yc (BY (iT l rc) c tb e ((gM ps (F-F) x:Nat):Int)) [jK dd (some []),blk f 3 (Zd F)] G
       have aj:rc.state = .ready:=by rw[ae]
       have aq:rc.pending=none:=by rw[ae]
       have ar:∀ (d:Nat) (bs:List (World×List Nat)) (L:List fT) (w1:World),d≠0->d<=F->(wl,((fun(z:Nat)=>gm (BY (iT l rc) c tb e ((gM ps (F-z) x:Nat):Int))) F).gH)∈bs->St bs ((fun(z:Nat)=>gm (BY (iT l rc) c tb e ((gM ps (F-z) x:Nat):Int))) d :: L) w1->YR ya l (Zd ((Go.Lib.ctz 64 d:Nat):Int)) w1 (fun v w' => v = .bool true/\St bs ((fun(z:Nat)=>gm (BY (iT l rc) c tb e ((gM ps (F-z) x:Nat):Int))) (d &&& (d-1)) :: L) w'):=by
        intro d bs LT wr af ag ap ac
        have ac:=ac.unpack
        have ac:=St.under ad (w:=w) s_ (fun b hb=>by rw[ng];exact zn.2 (.inl hb)) ac ap
        have hU:=BT.next hP hx hd an (⟨ag,rfl⟩:BT ps x F d (gM ps (F-d) x)) af
        have ao:=hU.1
        have ax:=Wj af o_
        refine wO (vl:=(Zd ((Go.Lib.ctz 64 d:Nat):Int))) 0 ae ac rfl rfl rfl (iO ac 3 ?_)
        refine tN (?_)
        refine xN 0 ac rfl aj rfl ?_
        intro W H
        have ai:(jw ps (Go.Lib.ctz 64 d))[(gM ps (F-d) x)]? = some ((gM ps (2 ^ Go.Lib.ctz 64 d) (gM ps (F-d) x):Nat):Int):=by rw[<-hU.2.1];exact gy (by rw[AR];exact ao)
        have az:=AR (ps:=ps) (k:=Go.Lib.ctz 64 d)
        refine nN H 6 fun Y g=>?_
        refine jL (o:=2) (o' := 2+(Go.Lib.ctz 64 d)) (i:=((Go.Lib.ctz 64 d:Nat):Int)) rfl rfl rfl rA j3 o_ (by first|omega|(simp only[nT];omega)) (ld rfl rfl yd rfl (kK g s_ T.b2 (wg (by rw[T.ok.len];omega) rfl)) (fK g 1 ?_))
        refine iJ (k:=(gM ps (F-d) x)) (i:=((gM ps (F-d) x:Nat):Int)) rfl rfl rfl yd gr (T.r (Go.Lib.ctz 64 d) o_) o_ o_ ai (jd rfl rfl yf rfl (yy g s_ d_ (T.r (Go.Lib.ctz 64 d) o_)) ai rfl (jV g 3 fun Z I=>?_))
        refine xR 0 I rfl aj aq rfl ?_
        intro aa J
        have ak:=J
        rw[hU.2.2.at_]at ak
        exact⟨_,rfl,rfl,yc [_,_,_] _ ak.WD⟩
       refine CR.mono (acC (fun(z:Nat)=>gm (BY (iT l rc) c tb e ((gM ps (F-z) x:Nat):Int))) l f F wl ar (ye ad 0 rfl) (ad.at (i:=2) rfl) (ad.RC (by simp[iZ,blk,jK])) (St.x8 al (X:=[]) s_ hT s_) (ad.acB (w0:=w) s_ (Lr hT)) o_) ?_
       rintro _ w9 ⟨-,aw⟩
       have av:=(yk ad aw)
       have K:=yg [0,3,1,2,4] av
       exact⟨_,rfl,K⟩
     . rintro z dd ab hC m
       refine r8 tt none m 10 ?_
       refine AT 0 m rfl rfl ?_
       intro w8 au
       have M:=yg [] au
       exact⟨_,results_tmp2 Tryz.results258 _ _ _,_,rfl,by rw[qW,qW];exact⟨by subst hC;rfl,M.gA s_⟩⟩
end
end Go.Proofs.YtedjjkcihkmjgaaGreatDoor
