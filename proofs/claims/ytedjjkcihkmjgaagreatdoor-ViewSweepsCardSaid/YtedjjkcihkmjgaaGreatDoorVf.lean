/- Walks through the code, one theorem a function, under what is said of its arguments. -/
import Derived.Test.YtedjjkcihkmjgaaGreatDoorFb
import Derived.Test.YtedjjkcihkmjgaaGreatDoorVa
import Derived.Test.YtedjjkcihkmjgaaGreatDoorFd
import Derived.Test.YtedjjkcihkmjgaaGreatDoorVe
import Derived.Laws.Bits64b
import Derived.Test.YtedjjkcihkmjgaaGreatDoorFc
import Derived.Shelf.Spec.BitsCarry
import Derived.Shelf.Lays7
import Derived.Test.YtedjjkcihkmjgaaGreatDoorVd
import Derived.Shelf.SlSortCmp.Whole1
set_option linter.unusedVariables false
set_option linter.unusedSimpArgs false
set_option maxRecDepth 100000
set_option maxHeartbeats 4000000
namespace Go.Proofs.YtedjjkcihkmjgaaGreatDoor
open Go Go.Sx Go.Proofs.Tryz
variable{k x:Nat}{o:List Nat}(bb:Nat)(v fv:Value)(n:Nat)(es:List Ge)(i:Int)(w:World)
theorem E0(t:BT)(w:World)(d:Own (Zq n t.ptr (gD 422 t)) w) :
 CR ya 294 (Zh n) w (fun r w' => r = .bool true/\fV (Zq n t.ptr (gD 422 t)) w w' (Zq n t.ptr (gD 422 t))):=by
 refine en func294 ntmps294 ?_
 have b:=Own.of d
 refine fR b 8 ?_
 refine lI (a:=some ⟨n,0,none⟩) (c:=true) rfl rfl rfl underlying356 rfl (fK b 6 ?_)
 refine xV (a:=⟨n,0,none⟩) rfl rfl rfl underlying356 LD (fP b 5 ?_)
 refine gf (v:=Zg) results294 rfl ?_
 exact⟨rfl,yj (yc [_,_] _ b)⟩
theorem EZ(t:BT)(w:World)(f:Own (Zq n t.ptr (gD 422 t)) w) :
 CR ya 330 (Zh n) w (fun r w' => r=t.ptr/\fV (Zq n t.ptr (gD 422 t)) w w' (Zq n t.ptr (gD 422 t))):=by
 refine en func330 ntmps330 ?_
 have e:=Own.of f
 have b:=yc [_,_] _ e
 refine fR e 9 ?_
 refine cl (E0 n t w (ye b 0 rfl)) ?_
 rintro _ d ⟨rfl,c⟩
 have a:=(yi b c)
 refine fK a 12 ?_
 refine kM (v:=t.ptr) rfl rfl (fP a 3 ?_)
 refine gf (v:=t.ptr) results330 rfl ?_
 exact⟨rfl,yj (yc [_,_] _ a)⟩
theorem EY(t:BT)(w:World)(h:Own (Zq n t.ptr (gD 422 t)) w) :
 CR ya 295 (Zh n) w (fun r w' => r = .int .i64 (t.sz:Int)/\fV (Zq n t.ptr (gD 422 t)) w w' (Zq n t.ptr (gD 422 t))):=by
 refine en func295 ntmps295 ?_
 have g:=Own.of h
 have a:=yc [_,_] _ g
 refine fR g 8 ?_
 refine cl (EZ n t w (ye a 0 rfl)) ?_
 rintro _ d ⟨rfl,e⟩
 have b:=(yi a e)
 refine cl (r6 t d (ye b 1 rfl)) ?_
 rintro _ f ⟨rfl,ht⟩
 have c:=yh 1 b ht
 refine fP c 16 ?_
 refine gf (v:=(Za t.sz)) results295 rfl ?_
 exact⟨rfl,yj (yc [_,_] _ c)⟩
theorem UN(t:BT)(w:World)(Z:Own (Zq bb t.ptr (gD 422 t)) w)(x:Int) :
 CR ya 309 (Zm bb x) w (fun r w' => r = .int .i64 (t.cnt x:Int)/\fV (Zq bb t.ptr (gD 422 t)) w w' (Zq bb t.ptr (gD 422 t))):=by
 refine en func309 ntmps309 ?_
 have Y:=Own.of Z
 have j:=yc [_,_] _ Y
 refine fR Y 8 ?_
 refine cl (EZ bb t w (ye j 0 rfl)) ?_
 rintro _ Q ⟨rfl,m⟩
 have k:=(yi j m)
 refine kM (v:=t.ptr) rfl rfl ?_
 have n:=yf [1,0] k
 have p:=St.TN n
 have u:=yf [2,0,1] p
 refine gF k 4 ?_
 refine lp (α:=List BF×BT) (fun(c,s)=>[(0,(Zb bb)),(1,(Za x)),(4,Zc),(5,s.ptr)]) (fun(c,s) w1=>St [(w,(Zq bb t.ptr (gD 422 t)).gJ)] [blk bb 412 [(Zb bb),t.ptr],(p7 422 c s),(gD 422 s)] w1/\E1 c s=t/\s.cnt x=t.cnt x) (fun(c,s)=>s.dc) ([],t) ⟨rfl,rfl,rfl,rfl,trivial⟩ (⟨u,rfl,rfl⟩) ?_
 rintro⟨c,s⟩ R S ⟨F,T,W⟩
 refine fR F 3 ?_
 refine mv (v:=s.ptr) rfl rfl ?_
 obtain⟨y,l⟩:∃ q,s=q:=⟨_,rfl⟩
 rcases y with _|⟨d,g,e,f,h⟩
 . skip
   subst l
   refine lI (a:=none) (c:=false) rfl rfl rfl nj rfl (fK F 20 ?_)
   refine mc (a:=none) (c:=true) rfl rfl rfl nj rfl (fP F 10 ?_)
   refine gf (v:=Zc) results309 rfl ?_
   have z:=yf [1,2,0] F
   have A:=T▸St.D5 z
   have B:=yf [1,0] A
   have X:t.cnt x=0:=by rw[<-W];rfl
   exact⟨by rw[X];first|done|rfl,yj (yc [_,_] _ B)⟩
 . skip
   subst l
   have C:=yf [2,0,1] F
   have b:=pR C
   refine lI (a:=some ⟨d,0,none⟩) (c:=true) rfl rfl rfl nj rfl (fK b 6 ?_)
   by_cases U:(e:Int)=(x:Int)
   . refine fK b 14 ?_
     refine mc (a:=some ⟨d,0,none⟩) (c:=false) rfl rfl rfl nj rfl (fP b 15 ?_)
     refine gf (v:=(Za f)) results309 rfl ?_
     have D:=sL b
     have E:=yf [2,0,1] D
     have G:=T▸St.D5 E
     have H:=yf [1,0] G
     have X:t.cnt x=f:=by rw[<-W,BT.cnt,if_pos o_]
     exact⟨by rw[X];first|done|rfl,yj (yc [_,_] _ H)⟩
   . refine fK b 15 ?_
     by_cases V:(x:Int)<(e:Int)
     . refine fK b 8 ?_
       refine ic (o:=0) (o' := 0) (i:=0) rfl rfl rfl yp jJ d_ rfl (fK b 1 ?_)
       refine kM (v:=g.ptr) rfl rfl (fP b 2 ?_)
       refine tN (?_)
       have I:=sL b
       have J:=yf [2,0,1] I
       have K:=St.af8 J
       have L:=yf [2,0,1] K
       exact again ((BF.fl d e f h :: c),g) ⟨rfl,rfl,rfl,rfl,trivial⟩ (⟨L,T,by rw[<-W,BT.cnt,if_neg o_,if_pos o_]⟩) (by show _<(BT.nd _ _ _ _ _).dc;simp only[BT.dc];omega)
     . refine fK b 8 ?_
       refine ic (o:=0) (o' := 1) (i:=1) rfl rfl rfl yp jJ d_ rfl (fK b 1 ?_)
       refine kM (v:=h.ptr) rfl rfl (fP b 2 ?_)
       refine tN (?_)
       have M:=sL b
       have N:=yf [2,0,1] M
       have O:=St.TO N
       have P:=yf [2,0,1] O
       exact again ((BF.fr d g e f :: c),h) ⟨rfl,rfl,rfl,rfl,trivial⟩ (⟨P,T,by rw[<-W,BT.cnt,if_neg o_,if_neg o_]⟩) (by show _<(BT.nd _ _ _ _ _).dc;simp only[BT.dc];omega)
theorem UP(t:BT)(w:World)(U:Own (Zq bb t.ptr (gD 422 t)) w)(Z:0<t.sz)(hb:jd t.kv)(hs:t.sz<=1000000) :
 CR ya 311 (Zm bb ((t.sz:Int)-1)) w (fun r w' => r = .tuple (Ao t.mx)/\fV (Zq bb t.ptr (gD 422 t)) w w' (Zq bb t.ptr (gD 422 t))):=by
 refine en func311 ntmps311 ?_
 have R:=Own.of U
 have l:=yc [_,_] _ R
 refine fR R 9 ?_
 refine cl (EZ bb t w (ye l 0 rfl)) ?_
 rintro _ p ⟨rfl,q⟩
 have k:=(yi l q)
 refine kM (v:=t.ptr) rfl rfl (fK k 6 ?_)
 refine cmp rfl rfl rfl (kG o_) ?_
 have m:=yc [_,_] _ k
 refine fK k 3 ?_
 refine cl (EY bb t p (ye m 0 rfl)) ?_
 rintro _ L ⟨rfl,u⟩
 have n:=(yi m u)
 refine cmp rfl rfl rfl (oS o_) ?_
 have x:=yf [1,0] n
 have y:=St.TN x
 have z:=yf [2,0,1] y
 refine gF n 8 ?_
 refine lp (α:=List BF×BT) (fun(c,s)=>[(0,(Zb bb)),(1,(Za ((s.sz:Int)-1))),(4,Zc),(5,Zn),(6,s.ptr)]) (fun(c,s) w1=>St [(w,(Zq bb t.ptr (gD 422 t)).gJ)] [blk bb 412 [(Zb bb),t.ptr],(p7 422 c s),(gD 422 s)] w1/\E1 c s=t/\s.mx=t.mx/\0<s.sz/\jd s.kv/\s.sz<=1000000) (fun(c,s)=>s.dc) ([],t) ⟨rfl,gm rO,rfl,rfl,rfl,trivial⟩ (⟨z,rfl,rfl,Z,hb,hs⟩) ?_
 rintro⟨c,s⟩ M A ⟨X,F,P,V,S,T⟩
 obtain⟨j,e,f,b,g,rfl⟩:=BT.aaU V
 have B:=yf [2,0,1] X
 have h:=pR B
 have Q:jd (e.kv++(f,b) :: g.kv):=S
 have aa:0<b:=Q.2 (f,b) s_
 have Y:(BT.nd j e f b g).sz=b+e.sz+g.sz:=rfl
 rw[Y]at T
 refine fR h 4 ?_
 refine lI (a:=some ⟨j,0,none⟩) (c:=true) rfl rfl rfl nj rfl (fK h 11 ?_)
 refine ic (o:=0) (o' := 0) (i:=0) rfl rfl rfl yp jJ d_ rfl (fK h 1 ?_)
 refine cl (r6 e A (ye h 1 rfl)) ?_
 rintro _ N ⟨rfl,ht⟩
 have d:=yh 1 h ht
 refine fK d 14 ?_
 refine cmp rfl rfl rfl (kG o_) (fK d 13 ?_)
 by_cases O:((((BT.nd j e f b g).sz:Int)-1):Int)<((e.sz:Int)+(b:Int):Int)
 . refine fP d 21 ?_
   refine gZ (v:=(Za f)) (v' := Zg) results311 rfl rfl ?_
   have C:=sL d
   have D:=yf [2,0,1] C
   have E:=F▸St.D5 D
   have G:=yf [1,0] E
   have W:t.mx=f:=by rw[<-P,BT.mx,if_pos o_]
   exact⟨by rw[W],yj (yc [_,_] _ G)⟩
 . refine fK d 22 ?_
   refine ic (o:=0) (o' := 1) (i:=1) rfl rfl rfl yp jJ d_ rfl (fK d 1 ?_)
   refine kM (v:=g.ptr) rfl rfl (fP d 3 ?_)
   refine tN (?_)
   have H:=sL d
   have I:=yf [2,0,1] H
   have J:=St.TO I
   have K:=yf [2,0,1] J
   exact again ((BF.fr j e f b :: c),g) ⟨rfl,gm rO,rfl,rfl,rfl,trivial⟩ (⟨K,F,by rw[<-P,BT.mx,if_neg o_],o_,Q.right,o_⟩) (by show _<(BT.nd _ _ _ _ _).dc;simp only[BT.dc];omega)
theorem UO(t:BT)(w:World)(f:Own (Zq n t.ptr (gD 422 t)) w) :
 CR ya 311 #[(Zb n),Zx] w (fun r w' => r = .tuple Cd/\fV (Zq n t.ptr (gD 422 t)) w w' (Zq n t.ptr (gD 422 t))):=by
 refine en func311 ntmps311 ?_
 have e:=Own.of f
 have b:=yc [_,_] _ e
 refine fR e 9 ?_
 refine cl (EZ n t w (ye b 0 rfl)) ?_
 rintro _ d ⟨rfl,c⟩
 have a:=(yi b c)
 refine kM (v:=t.ptr) rfl rfl (fK a 6 ?_)
 refine cmp rfl rfl rfl (p8 o_) (fP a 17 ?_)
 refine gZ (v:=Zc) (v' := Zn) results311 rfl rfl ?_
 exact⟨rfl,yj (yc [_,_] _ a)⟩
theorem UR(t:BT)(w:World)(j:Own (Zq n t.ptr (gD 422 t)) w)(k:0<t.sz)(hb:jd t.kv)(hs:t.sz<=1000000) :
 CR ya 248 (Zh n) w (fun r w' => r = .tuple (Ao t.mx)/\fV (Zq n t.ptr (gD 422 t)) w w' (Zq n t.ptr (gD 422 t))):=by
 refine en func248 ntmps248 ?_
 have i:=Own.of j
 have a:=yc [_,_] _ i
 refine fR i 10 ?_
 refine cl (EY n t w (ye a 0 rfl)) ?_
 rintro _ e ⟨rfl,f⟩
 have b:=(yi a f)
 have c:=yc [_,_] _ b
 refine fK b 1 ?_
 refine cl (UP n t e (ye c 0 rfl) k hb hs) ?_
 rintro _ h ⟨rfl,g⟩
 have d:=(yi c g)
 refine fP d 7 ?_
 refine gZ (v:=(Za t.mx)) (v' := Zg) results248 rfl rfl ?_
 exact⟨rfl,yj (yc [_,_] _ d)⟩
theorem UQ(t:BT)(w:World)(k:Own (Zq n t.ptr (gD 422 t)) w)(l:t.sz=0) :
 CR ya 248 (Zh n) w (fun r w' => r = .tuple Cd/\fV (Zq n t.ptr (gD 422 t)) w w' (Zq n t.ptr (gD 422 t))):=by
 refine en func248 ntmps248 ?_
 have j:=Own.of k
 have a:=yc [_,_] _ j
 refine fR j 10 ?_
 refine cl (EY n t w (ye a 0 rfl)) ?_
 rintro _ d ⟨rfl,f⟩
 have g:=(yi a f)
 refine ar (e:=(-1)) rfl rfl rfl rfl ((kP o_).trans o_) ?_
 have b:=yc [_,_] _ g
 refine cl (UO n t d (ye b 0 rfl)) ?_
 rintro _ i ⟨rfl,h⟩
 have c:=(yi b h)
 refine fP c 7 ?_
 refine gZ (v:=Zc) (v' := Zn) results248 rfl rfl ?_
 exact⟨rfl,yj (yc [_,_] _ c)⟩
theorem BT.mx0{t:BT}(h:jd t.kv)(c:t.sz=0):t.mx=0:=by
 rcases t with _|⟨b,l,x,k,r⟩
 . rfl
 . have a:=BT.qA h
   rw[c]at a
   simp only[BT.dc]at a
   omega
theorem US(t:BT)(w:World)(c:Own (Zq n t.ptr (gD 422 t)) w)(hb:jd t.kv)(hs:t.sz<=1000000):CR ya 248 (Zh n) w (fun r w' => ∃ o:Bool,r = .tuple (Z9 t.mx o)/\fV (Zq n t.ptr (gD 422 t)) w w' (Zq n t.ptr (gD 422 t))):=by
 rcases BS t.sz with h|h
 . exact CR.mono (UQ n t w c h) fun r w' ⟨a,b⟩=>⟨false,by rw[a,BT.mx0 hb h],b⟩
 . exact CR.mono (UR n t w c h hb hs) fun r w' ⟨a,b⟩=>⟨true,a,b⟩
theorem Is(t:BT)(w:World)(H:Own (Zq bb t.ptr (gD 422 t)) w)(x:Int)(hb:jd t.kv)(hs:t.sz<=999000) :
 CR ya 241 #[(Zb bb),(Za x),pZ] w (fun r w' => ∃ F:BT,r = .int .i64 0/\F.kv=jO (· + 1) x t.kv/\fV (Zq bb t.ptr (gD 422 t)) w w' (Zq bb F.ptr (gD 422 F))):=by
 refine en func241 ntmps241 ?_
 have G:=Own.of H
 refine fR G 2 ?_
 refine ir G (fun b k A B c=>?_)
 have l:=yf [1,2,0] c
 have d:=yc [_,_] _ l
 refine fK c 8 ?_
 refine cl (E0 bb t k (ye d 0 rfl)) ?_
 rintro _ C ⟨rfl,m⟩
 have e:=(yi d m)
 refine gF e 14 ?_
 refine kq mixed [([0,1,2],[0])] [3,4,5] e (fun n f=>jx ?_)
 have g:=yc [_,_] _ f
 refine fK f 2 ?_
 refine cl (EY bb t n (ye g 0 rfl)) ?_
 rintro _ o ⟨rfl,p⟩
 have a:=(yi g p)
 refine fP a 1 ?_
 refine jZ (kE ?_)
 refine fK a 1 ?_
 refine cmp rfl rfl rfl (nN o_) (fK a 15 ?_)
 refine mX (vf:=[]) (vc:=(Zf b)) rfl rfl rfl ?_
 have q:=yf [1,2,0] a
 have h:=yc [_,_] _ q
 refine cl (U9 x b t o (ye h 0 rfl) hb hs) ?_
 rintro _ D ⟨s,rfl,u,y⟩
 have i:=(yi h y)
 refine fK i 2 ?_
 refine jt 2 i (fun E j=>?_) (hvs:=(cells_one (BT.one _))) (h1:=(gX (BT.one _) jV))
 refine fP j 8 ?_
 refine gf (v:=Zc) results241 rfl ?_
 have z:=yf [2,0] j
 exact⟨s,rfl,u,yj (yc [_,_] _ z)⟩
theorem EX(t:BT)(w:World)(H:Own (Zq bb t.ptr (gD 422 t)) w)(x:Int)(hb:jd t.kv)(hs:t.sz<=999000)(hc:0<t.cnt x) :
 CR ya 247 #[(Zb bb),(Za x),pZ] w (fun r w' => ∃ F:BT,r = .int .i64 0/\F.kv=jO (· - 1) x t.kv/\fV (Zq bb t.ptr (gD 422 t)) w w' (Zq bb F.ptr (gD 422 F))):=by
 refine en func247 ntmps247 ?_
 have G:=Own.of H
 refine fR G 2 ?_
 refine ir G (fun b k A B c=>?_)
 have l:=yf [1,2,0] c
 have d:=yc [_,_] _ l
 refine fK c 8 ?_
 refine cl (E0 bb t k (ye d 0 rfl)) ?_
 rintro _ C ⟨rfl,m⟩
 have e:=(yi d m)
 refine gF e 14 ?_
 refine kq mixed [([0,1,2,3],[0])] [4,5] e (fun n f=>jx ?_)
 have g:=yc [_,_] _ f
 refine fK f 3 ?_
 refine cl (UN bb t n (ye g 0 rfl) x) ?_
 rintro _ o ⟨rfl,p⟩
 have a:=(yi g p)
 refine fP a 1 ?_
 refine jZ (kE ?_)
 refine cmp rfl rfl rfl (nN o_) (fK a 15 ?_)
 refine mX (vf:=[]) (vc:=(Zf b)) rfl rfl rfl ?_
 have q:=yf [1,2,0] a
 have h:=yc [_,_] _ q
 refine cl (Vb x b t o (ye h 0 rfl) hb hs hc) ?_
 rintro _ D ⟨s,rfl,u,y⟩
 have i:=(yi h y)
 refine fK i 2 ?_
 refine jt 2 i (fun E j=>?_) (hvs:=(cells_one (BT.one _))) (h1:=(gX (BT.one _) jV))
 refine fP j 8 ?_
 refine gf (v:=Zc) results247 rfl ?_
 have z:=yf [2,0] j
 exact⟨s,rfl,u,yj (yc [_,_] _ z)⟩
theorem UT :
 CR ya 240 #[] w (fun r w' => ∃ bb:Nat,r = .pointer (some ⟨bb,0,none⟩)/\fV (gh []) w w' (Mn bb (gD 422 BT.nil))):=by
 refine en func240 ntmps240 ?_
 have j:=yu w
 refine fR j 7 ?_
 refine iU (pvs:=[]) (v:=.agg #[Zp,Zp]) rfl rfl (jj [] LD abD rfl trivial rfl) (ir j (fun a g h i b=>?_))
 refine jH b 19 fun c d=>?_
 refine gf (v:=(Zb a)) results240 rfl ?_
 have e:St _ [(gD 422 BT.nil),blk a 412 [(Zb a),Zp]] c:=St.Iz d
 have f:=yf [1,0] e
 exact⟨a,rfl,mD (yc [_,_] _ f)⟩
open Go.Shelf Go.Lib Go.Sort Go.RowKit in
def Tryz.Uh:Go.Shelf.Ren:=⟨fun|25=>315|n=>n,fun|22=>39|n=>n,fun|n=>n⟩
open Go.Shelf Go.Lib Go.Sort Go.RowKit in
theorem Tryz.Ug:Go.Proofs.Lays7.n25 Proofs.Tryz.prog Tryz.Uh where
 mixed:=by kernel_rfl
 f25:=Proofs.Tryz.func315.trans (congrArg some<|by kernel_rfl)
 t22:=Proofs.Tryz.underlying39
 a22:=Proofs.Tryz.isAgg39
 z22:=Proofs.Tryz.sizeOf39
 v22:=Proofs.Tryz.zeroValue39
 i22:=by kernel_rfl
theorem Nr(x y:Nat)(h:x+y<18446744073709551616)(w:World):(callFunc 315 #[.int .u64 (x:Int),.int .u64 (y:Int),.int .u64 0]).run ya w = .ok (.value (.tuple #[.int .u64 ((x+y:Nat):Int),.int .u64 0])) w:=by
 have a:=Go.Proofs.Any7.bits_Add64 Tryz.Ug x y 0 d_ w
 rw[tM,Nat.mod_eq_of_lt h,Nat.div_eq_of_lt h]at a
 exact a
theorem andM(h:x<4294967296):tj .and .u64 (x:Int) 4294967295=some (x:Int):=by
 have a:=bits_and_u64_nat x 4294967295 o_ o_
 rw[show x &&& 4294967295=x%4294967296 from Nat.and_two_pow_sub_one_eq_mod x 32,Nat.mod_eq_of_lt h]at a
 exact congrArg some a
theorem K6(h:x<4294967296):(x:Int).fdiv (2 ^ (min (Int.toNat 32) IntKind.u64.bits))=0:=by
 show (x:Int).fdiv 4294967296=0
 rw[Int.fdiv_eq_ediv_of_nonneg _ o_]
 omega
theorem mulM{y:Nat}(h:x*y<18446744073709551616):IntKind.u64.wrap ((x:Int)*(y:Int))=((x*y:Nat):Int):=by
 rw[<-Int.natCast_mul]
 exact DC o_
theorem Qd(x y:Nat)(w:World)(d:x<65536)(f:y<65536) :
 CR ya 314 (uS x y) w (fun r w' => r = .tuple #[.int .u64 0,.int .u64 ((x*y:Nat):Int)]/\gx [] w w'):=by
 have g:x*y<65536*65536:=Nat.mul_lt_mul'' d f
 refine en func314 ntmps314 ?_
 have c:=yu w
 refine fR c 9 ?_
 refine bi (a:=(x:Int)) (b:=4294967295) (e:=(x:Int)) rfl rfl rfl (andM o_) (fK c 6 ?_)
 refine shr (a:=(x:Int)) (b:=32) (e:=0) rfl rfl rfl d_ (K6 o_) (fK c 6 ?_)
 refine bi (a:=(y:Int)) (b:=4294967295) (e:=(y:Int)) rfl rfl rfl (andM o_) (fK c 6 ?_)
 refine shr (a:=(y:Int)) (b:=32) (e:=0) rfl rfl rfl d_ (K6 o_) (fK c 7 ?_)
 refine ar (e:=((x*y:Nat):Int)) rfl rfl rfl rfl (mulM o_) (fK c 7 ?_)
 refine ar (e:=0) rfl rfl rfl rfl (congrArg _ (Int.zero_mul _)) (fK c 1 ?_)
 refine shr (a:=((x*y:Nat):Int)) (b:=32) (e:=0) rfl rfl rfl d_ (K6 o_) (fK c 7 ?_)
 refine bi (a:=0) (b:=4294967295) (e:=0) rfl rfl rfl rfl (fK c 6 ?_)
 refine shr (a:=0) (b:=32) (e:=0) rfl rfl rfl d_ rfl (fK c 8 ?_)
 refine ar (e:=0) rfl rfl rfl rfl (congrArg _ (Int.mul_zero _)) (fK c 8 ?_)
 refine ar (e:=0) rfl rfl rfl rfl (congrArg _ (Int.zero_mul _)) (fK c 3 ?_)
 refine shr (a:=0) (b:=32) (e:=0) rfl rfl rfl d_ rfl (fK c 8 ?_)
 refine ar (e:=((x*y:Nat):Int)) rfl rfl rfl rfl (mulM o_) (fP c 4 ?_)
 refine gZ (v:=Zy) (v' := (Zl ((x*y:Nat):Int))) results314 rfl rfl ?_
 exact⟨rfl,c.gA s_⟩
theorem U4(nb m:Nat)(l r:BT)(x t S:Nat)(w:World)(q:Own (HS nb l.ptr r.ptr x t ((t+l.sz+r.sz:Nat):Int) ((1+l.dc+r.dc:Nat):Int) ((max l.ht r.ht+1:Nat):Int) m ((S:Nat):Int)) w)(p:x<=100)(ht:t<=1000)(y:S<=1000000000000) :
 CR ya 313 (AD nb m) w (fun u w' => u = .bool true/\fV (HS nb l.ptr r.ptr x t ((t+l.sz+r.sz:Nat):Int) ((1+l.dc+r.dc:Nat):Int) ((max l.ht r.ht+1:Nat):Int) m ((S:Nat):Int)) w w' (HS nb l.ptr r.ptr x t ((t+l.sz+r.sz:Nat):Int) ((1+l.dc+r.dc:Nat):Int) ((max l.ht r.ht+1:Nat):Int) m ((S+x*x*t:Nat):Int))):=by
 have s:x*x<=100*100:=BP p p
 have z:x*x*t<=100*100*1000:=BP s ht
 refine en func313 ntmps313 ?_
 have n:=Own.of q
 refine fR n 22 ?_
 refine cmp rfl rfl rfl (kG o_) (fK n 9 ?_)
 refine cl (Qd x x w o_ o_) ?_
 rintro _ e ⟨rfl,f⟩
 have d:=yr n f
 refine fK d 25 ?_
 refine cl (Qd (x*x) t e o_ o_) ?_
 rintro _ g ⟨rfl,h⟩
 have a:=yr d h
 refine fK a 14 ?_
 refine ic (o:=0) (o' := 1) (i:=1) rfl rfl rfl y8 iX d_ rfl (fK a 2 ?_)
 refine N7 (vl:=[(Zl ((S:Nat):Int)),(Zl (((x*x)*t:Nat):Int)),Zy]) (v:=(.tuple #[(Zl ((S+((x*x)*t):Nat):Int)),Zy])) rfl rfl (Nr S ((x*x)*t) o_ g) (fK a 3 ?_)
 refine ic (o:=0) (o' := 1) (i:=1) rfl rfl rfl y8 iX d_ rfl (gC a 6 fun j c=>?_)
 refine ic (o:=0) (o' := 0) (i:=0) rfl rfl rfl y8 iX d_ rfl (fK c 3 ?_)
 refine N7 (vl:=[Zy,Zy,Zy]) (v:=(.tuple #[Zy,Zy])) rfl rfl (Nr 0 0 o_ j) (fK c 3 ?_)
 refine ic (o:=0) (o' := 0) (i:=0) rfl rfl rfl y8 iX d_ rfl (gC c 5 fun k b=>?_)
 refine ic (o:=0) (o' := 0) (i:=0) rfl rfl rfl y8 iX d_ rfl (fK b 3 ?_)
 refine ic (o:=0) (o' := 1) (i:=1) rfl rfl rfl y8 iX d_ rfl (fK b 1 ?_)
 refine cmp rfl rfl rfl (xO o_) (fP b 5 ?_)
 refine gf (v:=Zg) results313 rfl ?_
 exact⟨rfl,yj (yc [_,_] _ b)⟩
theorem afI{s a b:Nat}(h:s+10000000*(1+a+b)<=1000000000000):s+10000000*a<=1000000000000:=by omega
theorem afJ{s a b l:Nat}(h:s+10000000*(1+a+b)<=1000000000000)(c:l<=10000000*a):s+l<=1000000000000:=by omega
theorem afK{s a b l q:Nat}(h:s+10000000*(1+a+b)<=1000000000000)(c:l<=10000000*a)(d:q<=100*100*1000):s+l+q+10000000*b<=1000000000000:=by omega
theorem NR{L:List (Int×Nat)}(h:∀ p∈L,0<=p.1/\p.1<=100/\p.2<=1000):mK L<=10000000*L.length:=by
 induction L with
 | nil=>exact zm _
 | cons p L d =>
  have e:=d fun q c=>h q (zw _ c)
  have a:=h p zd
  have b:p.1.toNat*p.1.toNat<=100*100:=BP o_ o_
  have f:p.1.toNat*p.1.toNat*p.2<=100*100*1000:=BP b a.2.2
  rw[PV,zh]
  omega
theorem Ve(t:BT)(F bb:Nat)(w:World)(Y:Own (rP (gD 422 t) F ((bb:Nat):Int)) w)(hb:∀ p∈t.kv,0<=p.1/\p.1<=100/\p.2<=1000)(M:bb+10000000*t.dc<=1000000000000)(X:∀ (t2:BT) (L:Nat) (T:World),t2.dc<t.dc->Own (rP (gD 422 t2) F ((L:Nat):Int)) T->(∀ p∈t2.kv,0<=p.1/\p.1<=100/\p.2<=1000)->L+10000000*t2.dc<=1000000000000->CR ya 312 (Ew t2.ptr F) T (fun r w' => r = .bool true/\fV (rP (gD 422 t2) F ((L:Nat):Int)) T w' (rP (gD 422 t2) F ((L+mK t2.kv:Nat):Int)))) :
 CR ya 312 (Ew t.ptr F) w (fun r w' => r = .bool true/\fV (rP (gD 422 t) F ((bb:Nat):Int)) w w' (rP (gD 422 t) F ((bb+mK t.kv:Nat):Int))):=by
 refine en func312 ntmps312 ?_
 have N:=Own.of Y
 refine fR N 7 ?_
 refine mv (v:=t.ptr) rfl rfl ?_
 obtain⟨y,k⟩:∃ q,t=q:=⟨_,rfl⟩
 rcases y with _|⟨g,e,l,d,f⟩
 . skip
   subst k
   refine mc (a:=none) (c:=true) rfl rfl rfl nj rfl (fP N 27 ?_)
   refine gf (v:=Zg) results312 rfl ?_
   exact⟨rfl,yj (yc [_,_] _ N)⟩
 . skip
   subst k
   have h:=pR N
   have O:∀ p∈e.kv++(l,d) :: f.kv,0<=p.1/\p.1<=100/\p.2<=1000:=hb
   have V:=fun p hp=>O p (sN _ hp)
   have Z:=fun p hp=>O p (vG _ (zw _ hp))
   have P:=O (l,d) s_
   obtain⟨b,rfl⟩:=Int.eq_ofNat_of_zero_le P.1
   have R:b<=100:=Int.ofNat_le.1 P.2.1
   have W:d<=1000:=P.2.2
   simp only[BT.dc]at M
   have Q:=NR V
   rw[<-BT.xR]at Q
   have aa:b*b*d<=100*100*1000:=BP (BP R R) W
   refine mc (a:=some ⟨g,0,none⟩) (c:=false) rfl rfl rfl nj rfl (fK h 4 ?_)
   refine ic (o:=0) (o' := 0) (i:=0) rfl rfl rfl yp jJ d_ rfl ?_
   have z:=yf [1,3,0,2] h
   have m:=yc [_,_] _ z
   refine fK h 2 ?_
   refine cl (X e bb w (by simp only[BT.dc];omega) (ye m 0 rfl) V (afI M)) ?_
   rintro _ A ⟨rfl,B⟩
   have n:=(yi m B)
   have C:=yf [2,1,0,3] n
   have s:=yc [_,_] _ C
   refine fK n 3 ?_
   refine mW (fi:=[]) (ca:=(Zf F)) rfl rfl rfl eN (U4 g F e f b d (bb+mK e.kv) A (ye s 0 rfl) R W (afJ M Q)) ?_
   rintro _ D ⟨rfl,E⟩
   have j:=(yi s E)
   refine fK j 5 ?_
   refine ic (o:=0) (o' := 1) (i:=1) rfl rfl rfl yp jJ d_ rfl ?_
   have G:=yf [3,1,0,2] j
   have u:=yc [_,_] _ G
   refine fK j 2 ?_
   refine cl (X f ((bb+mK e.kv)+b*b*d) D (by simp only[BT.dc];omega) (ye u 0 rfl) Z (afK M Q aa)) ?_
   rintro _ K ⟨rfl,H⟩
   have x:=(yi u H)
   refine fP x 6 ?_
   refine gf (v:=Zg) results312 rfl ?_
   have I:=yf [2,3,0,1] x
   have J:=sL I
   have ab:bb+mK e.kv+b*b*d+mK f.kv=bb+mK (BT.nd g e (b:Int) d f).kv:=by show _=bb+mK (e.kv++((b:Int),d) :: f.kv);rw[ZB,PV,<-lJ,<-lJ];rfl
   have U:=J
   rw[ab]at U
   exact⟨rfl,yj (yc [_,_] _ U)⟩
theorem Vd(t:BT)(a bb:Nat)(w:World)(b:Own (rP (gD 422 t) a ((bb:Nat):Int)) w)(hb:∀ p∈t.kv,0<=p.1/\p.1<=100/\p.2<=1000)(c:bb+10000000*t.dc<=1000000000000):CR ya 312 (Ew t.ptr a) w (fun r w' => r = .bool true/\fV (rP (gD 422 t) a ((bb:Nat):Int)) w w' (rP (gD 422 t) a ((bb+mK t.kv:Nat):Int))):=by
 have key:∀ (n:Nat) (t:BT) (bb:Nat) (w:World),t.dc<n->Own (rP (gD 422 t) a ((bb:Nat):Int)) w->(∀ p∈t.kv,0<=p.1/\p.1<=100/\p.2<=1000)->bb+10000000*t.dc<=1000000000000->CR ya 312 (Ew t.ptr a) w (fun r w' => r = .bool true/\fV (rP (gD 422 t) a ((bb:Nat):Int)) w w' (rP (gD 422 t) a ((bb+mK t.kv:Nat):Int))):=by
  intro n
  induction n with
  | zero=>exact fun _ _ _ h=>absurd h (BW _)
  | succ n e=>exact fun t bb w j b hb c=>Ve t a bb w b hb c fun f d g i=>e f d g o_
 exact key _ t bb w (BV _) b hb c
theorem UU(t:BT)(w:World)(x:Own (Zq bb t.ptr (gD 422 t)) w)(hb:∀ p∈t.kv,0<=p.1/\p.1<=100/\p.2<=1000)(hd:t.dc<=1000) :
 CR ya 250 (Zh bb) w (fun r w' => r = .tuple (uW (mK t.kv:Int))/\fV (Zq bb t.ptr (gD 422 t)) w w' (Zq bb t.ptr (gD 422 t))):=by
 have y:=NR hb
 rw[<-BT.xR]at y
 refine en func250 ntmps250 ?_
 have u:=Own.of x
 have b:=yc [_,_] _ u
 refine fR u 10 ?_
 refine cl (E0 bb t w (ye b 0 rfl)) ?_
 rintro _ m ⟨rfl,g⟩
 have c:=(yi b g)
 refine fK c 8 ?_
 refine iR c (fun d h n q e=>?_)
 refine fK e 8 ?_
 refine mX (vf:=[]) (vc:=(Zf d)) rfl rfl rfl ?_
 have j:=yf [2,0,1] e
 have f:=yc [_,_] _ j
 refine cl (Vd t d 0 h (ye f 0 rfl) hb o_) ?_
 rintro _ s ⟨rfl,k⟩
 have a:=(yi f k)
 refine fK a 15 ?_
 refine ic (o:=0) (o' := 1) (i:=1) rfl rfl rfl y8 iX d_ rfl (fP a 7 ?_)
 refine gZ (v:=(Za ((0+mK t.kv:Nat):Int))) (v' := Zc) results250 rfl rfl ?_
 have l:=yf [2,0] a
 exact⟨by rw[tO],yj (yc [_,_] _ l)⟩
theorem Oj(db n:Nat)(s:Ds)(w:World)(z:Own (Ds.R db n s) w)(y:n<=1000000)(a:Nat)(E:a<n) :
 CR ya 245 (Zm db a) w (fun r w' => ∃ (x:Nat) (s2:Ds),r = .tuple (uW x)/\(x=fJ s.lb a/\s2.lb=s.lb/\s2.cnt=s.cnt)/\fV (Ds.R db n s) w w' (Ds.R db n s2)):=by
 refine en func245 ntmps245 ?_
 obtain⟨⟨d,hd⟩,B⟩:=z.fact
 have I:=hd.ul
 have F:=hd.ll
 have H:=hd.sl
 have A:=Own.of z.un
 have f:=yc [_,_,_,_] _ A
 refine fR A 10 ?_
 refine cl (Fe db n s w (ye f 0 rfl) d hd y) ?_
 rintro _ m ⟨rfl,ht⟩
 have g:=(yi f ht)
 have h:=yc [_,_,_,_] _ g
 refine fK g 11 ?_
 refine cl (I4 db n s m (ye h 0 rfl) d hd y a o_) ?_
 rintro _ q ⟨rfl,ht⟩
 have i:=(yi h ht)
 refine gF i 7 ?_
 refine kq mixed [([0,1,2,3,4,5,6],[3])] [7,8,9,10] i (fun o j=>jx ?_)
 have k:=yc [_,_,_,_] _ j
 refine fK j 6 ?_
 refine cl (I6 db n s o (ye k 0 rfl) d hd y a o_) ?_
 rintro _ t ⟨b,l,rfl,c,ht⟩
 have e:=(yi k ht)
 have u:=c.1.ok
 have C:=c.1.an
 have G:=u.ll
 have D:fJ s.le b=fJ s.lb a:=(u.gW b C c.2).trans c.1.la
 refine fP e 1 ?_
 refine jZ (kE ?_)
 refine fP e 7 ?_
 refine gZ (v:=(Za (((fJ s.le b):Nat):Int))) (v' := Zc) results245 rfl rfl ?_
 exact⟨fJ s.le b,(s.wu l),rfl,⟨D,rfl,rfl⟩,ym (yn (p:=Ds.ok n (s.wu l)) (yc [_,_,_,_] _ e) ⟨⟨d,u⟩,B⟩) zd⟩
theorem Wl(db n:Nat)(s:Ds)(w:World)(e:Own (Ds.R db n s) w)(h:n<=1000000) :
 CR ya 249 (Zh db) w (fun r w' => r = .int .i64 s.cnt/\fV (Ds.R db n s) w w' (Ds.R db n s)):=by
 refine en func249 ntmps249 ?_
 obtain⟨⟨d,hd⟩,g⟩:=e.fact
 have k:=hd.ul
 have i:=hd.ll
 have j:=hd.sl
 have f:=Own.of e.un
 have a:=yc [_,_,_,_] _ f
 refine fR f 9 ?_
 refine cl (Fe db n s w (ye a 0 rfl) d hd h) ?_
 rintro _ c ⟨rfl,ht⟩
 have b:=(yi a ht)
 refine fP b 16 ?_
 refine gf (v:=(Za s.cnt)) results249 rfl ?_
 exact⟨rfl,ym (yn (p:=Ds.ok n s) (yc [_,_,_,_] _ b) ⟨⟨d,hd⟩,g⟩) zd⟩
structure Tl where
 db:Nat
 wv:Value
 bb:Nat
 s:Ds
 W:List Int
 t:BT
def Tl.ok(n:Nat)(q:Tl):Prop:=nJ n q.s.lb q.W q.t.kv/\q.s.cnt=((rts q.s.lb n).length:Int)
def Tl.R(tb n:Nat)(q:Tl):fT:=lq (q.ok n) (gh [blk tb 359 [(Zb tb),(Zb q.db),q.wv,(Zb q.bb)],(Ds.R q.db n q.s),fL gi q.wv 2 1 q.W,blk q.bb 412 [(Zb q.bb),q.t.ptr],(gD 422 q.t)])
abbrev MC(a:Nat) b c d e f g h (i j k:Nat):=([Tl.R a b c,d,fL Ge.cells e 110 3 f,fL fU g 3 1 h,blk i 37 [g],blk j 200 (Zf a),blk k 28 [e]]:List fT)
abbrev En a (b:Nat) c d e f g h (i j k:Nat):=(gh [a,Tl.R b c d,fL Ge.cells e 110 3 f,fL fU g 3 1 h,blk i 37 [g],blk j 200 (Zf b),blk k 28 [e]]:fT)
theorem GR(tb n:Nat)(q:Tl)(w:World)(f:Own (Tl.R tb n q) w)(j:n<=100) :
 CR ya 244 (Zh tb) w (fun r w' => r = .bool true/\fV (Tl.R tb n q) w w' (Tl.R tb n q)):=by
 refine en func244 ntmps244 ?_
 have e:=f.fact
 have d:=e.1
 have h:=e.2
 have b:=Own.of f.un
 have g:=d.sz
 rw[<-BT.k6]at g
 have i:=BT.qA d.bo
 have k:=d.wl
 refine fR b 8 ?_
 refine lI (a:=some ⟨tb,0,none⟩) (c:=true) rfl rfl rfl underlying200 rfl (fK b 6 ?_)
 refine xV (a:=⟨tb,0,none⟩) rfl rfl rfl underlying200 Ly (fP b 5 ?_)
 refine gf (v:=Zg) results244 rfl ?_
 exact⟨rfl,ym (yn (p:=Tl.ok n q) (yc [_,_,_,_,_] _ b) e) zd⟩
theorem aeH(tb n:Nat)(q:Tl)(w:World)(o:Own (Tl.R tb n q) w)(x:n<=100) :
 CR ya 176 (Zh tb) w (fun r w' => r = .int .i64 (gG n q.s.lb).a/\fV (Tl.R tb n q) w w' (Tl.R tb n q)):=by
 refine en func176 ntmps176 ?_
 have m:=o.fact
 have l:=m.1
 have z:=m.2
 have u:=Own.of o.un
 have y:=l.sz
 rw[<-BT.k6]at y
 have A:=BT.qA l.bo
 have B:=l.wl
 have b:St _ [(Tl.R tb n q)] w:=yn (p:=Tl.ok n q) (yc [_,_,_,_,_] _ u) m
 refine fR u 9 ?_
 refine cl (GR tb n q w (ye b 0 rfl) x) ?_
 rintro _ f ⟨rfl,ht⟩
 have c:=yy (jM (yh 0 b ht))
 have g:=yf [3,4,0,1,2] c
 have d:=yc [_,_] _ g
 refine fK c 12 ?_
 refine cl (US q.bb q.t f (ye d 0 rfl) l.bo o_) ?_
 rintro _ j ⟨k,rfl,h⟩
 have e:=(yi d h)
 refine fP e 14 ?_
 refine gf (v:=(Za q.t.mx)) results176 rfl ?_
 have i:=yf [2,3,4,0,1] e
 exact⟨by rw[BT.Qf l.bo,l.mx];rfl,ym (yn (p:=Tl.ok n q) (yc [_,_,_,_,_] _ i) m) zd⟩
theorem aeI(tb n:Nat)(q:Tl)(w:World)(l:Own (Tl.R tb n q) w)(o:n<=100) :
 CR ya 178 (Zh tb) w (fun r w' => r = .int .i64 ((gG n q.s.lb).s:Int)/\fV (Tl.R tb n q) w w' (Tl.R tb n q)):=by
 refine en func178 ntmps178 ?_
 have k:=l.fact
 have j:=k.1
 have x:=k.2
 have m:=Own.of l.un
 have u:=j.sz
 rw[<-BT.k6]at u
 have y:=BT.qA j.bo
 have z:=j.wl
 have a:St _ [(Tl.R tb n q)] w:=yn (p:=Tl.ok n q) (yc [_,_,_,_,_] _ m) k
 refine fR m 9 ?_
 refine cl (GR tb n q w (ye a 0 rfl) o) ?_
 rintro _ e ⟨rfl,ht⟩
 have b:=yy (jM (yh 0 a ht))
 have f:=yf [3,4,0,1,2] b
 have c:=yc [_,_] _ f
 refine fK b 12 ?_
 refine cl (UU q.bb q.t e (ye c 0 rfl) (fun p hp=>by have:=j.el p hp;omega) o_) ?_
 rintro _ i ⟨rfl,g⟩
 have d:=(yi c g)
 refine fP d 14 ?_
 refine gf (v:=(Za (mK q.t.kv:Int))) results178 rfl ?_
 have h:=yf [2,3,4,0,1] d
 exact⟨by rw[j.sq];first|done|rfl,ym (yn (p:=Tl.ok n q) (yc [_,_,_,_,_] _ h) k) zd⟩
theorem aeE(tb n:Nat)(q:Tl)(w:World)(i:Own (Tl.R tb n q) w)(l:n<=100) :
 CR ya 177 (Zh tb) w (fun r w' => r = .int .i64 ((gG n q.s.lb).c:Int)/\fV (Tl.R tb n q) w w' (Tl.R tb n q)):=by
 refine en func177 ntmps177 ?_
 have g:=i.fact
 have h:=g.1
 have k:=g.2
 have j:=Own.of i.un
 have m:=h.sz
 rw[<-BT.k6]at m
 have o:=BT.qA h.bo
 have t:=h.wl
 have b:St _ [(Tl.R tb n q)] w:=yn (p:=Tl.ok n q) (yc [_,_,_,_,_] _ j) g
 refine fR j 9 ?_
 refine cl (GR tb n q w (ye b 0 rfl) l) ?_
 rintro _ e ⟨rfl,ht⟩
 have a:=yy (jM (yh 0 b ht))
 refine fK a 12 ?_
 refine cl (Wl q.db n q.s e (ye a 1 rfl) o_) ?_
 rintro _ f ⟨rfl,ht⟩
 have d:=yh 1 a ht
 refine fP d 4 ?_
 refine gf (v:=(Za q.s.cnt)) results177 rfl ?_
 exact⟨by rw[k];first|done|rfl,ym (yn (p:=Tl.ok n q) (yc [_,_,_,_,_] _ d) g) zd⟩
theorem aeJ(tb n:Nat)(q:Tl)(w:World)(hO:Own (Tl.R tb n q) w)(hn:n<=100)(a b:Nat)(ha:a<n)(hb:b<n) :
 CR ya 175 (Zv tb a b) w (fun r w' => ∃ (o:Bool) (q2:Tl),r = .tuple (Ag o)/\q2.s.lb=iW q.s.lb (fJ q.s.lb a) (fJ q.s.lb b)/\fV (Tl.R tb n q) w w' (Tl.R tb n q2)):=by
 refine en func175 ntmps175 ?_
 have bf:=hO.fact
 have F:=bf.1
 have a9:=bf.2
 have bi:=Own.of hO.un
 have bt:=F.sz
 rw[<-BT.k6]at bt
 have bw:=BT.qA F.bo
 have bj:=F.wl
 have G:St _ [(Tl.R tb n q)] w:=yn (p:=Tl.ok n q) (yc [_,_,_,_,_] _ bi) bf
 refine fR bi 10 ?_
 refine cl (GR tb n q w (ye G 0 rfl) hn) ?_
 rintro _ Z ⟨rfl,ht⟩
 have x:=yy (jM (yh 0 G ht))
 refine fK x 13 ?_
 refine cl (Oj q.db n q.s Z (ye x 1 rfl) o_ a o_) ?_
 rintro _ aa ⟨c,ab,rfl,H,ht⟩
 have y:=yh 1 x ht
 have a7:=H.1
 have bg:=H.2
 refine fK y 14 ?_
 refine cl (Oj q.db n ab aa (ye y 1 rfl) o_ b o_) ?_
 rintro _ I ⟨d,g,rfl,J,ht⟩
 have e:=yh 1 y ht
 have a6:=J.1
 rw[bg.1]at a6
 have a2:=J.2
 rw[bg.1,bg.2]at a2
 have bn:=F.ok.low a o_
 have ba:=F.ok.me a o_
 rw[<-a7]at bn ba
 have bp:=F.ok.low b o_
 have bc:=F.ok.me b o_
 rw[<-a6]at bp bc
 refine fK e 26 ?_
 by_cases aK:(c:Int)=(d:Int)
 . refine fP e 12 ?_
   refine gZ (v:=Zn) (v' := Zc) results175 rfl rfl ?_
   have a5:Tl.ok n (⟨q.db,q.wv,q.bb,g,q.W,q.t⟩:Tl):=⟨by show nJ n g.lb _ _;rw[a2.1];exact F,by show g.cnt=((rts g.lb n).length:Int);rw[a2.1,a2.2];exact a9⟩
   exact⟨false,(⟨q.db,q.wv,q.bb,g,q.W,q.t⟩:Tl),rfl,by show g.lb=_;rw[a2.1,<-a7,<-a6,show c=d by omega,Ka],ym (yn (p:=Tl.ok n (⟨q.db,q.wv,q.bb,g,q.W,q.t⟩:Tl)) (yc [_,_,_,_,_] _ e) a5) zd⟩
 . refine fK e 11 ?_
   by_cases aL:(c:Int)>(d:Int)
   . have a0:c<n:=by omega
     have a1:d<c:=by omega
     have T:fJ q.s.lb d=d:=bc
     have eY:fJ q.s.lb c=c:=ba
     have bm:=KQ F.ok (show d<n by omega) a0 T eY (zZ a1)
     have bk:=F.wt d o_ T
     have bl:=F.wt c a0 eY
     have bu:q.s.lb.count d<=n:=F.ok.len▸BJ
     have bv:q.s.lb.count c<=n:=F.ok.len▸BJ
     have bq:=KP (lab:=q.s.lb) (i:=n)
     refine fK e 19 ?_
     refine cl (I8 q.db n g I (ye e 1 rfl) o_ d c o_ a0) ?_
     rintro _ aM ⟨h,rfl,K,ht⟩
     have ac:=yh 1 e ht
     have aY:=K.1
     have aZ:=K.2
     rw[a2.1]at aY aZ
     rw[T,eY]at aY aZ
     rw[if_neg (zZ a1),a2.2]at aZ
     rw[a9,kP o_]at aZ
     have bd:=F.wo (show d<n by omega) T
     have a3:=F.bo
     refine gC ac 15 fun ad ae=>?_
     have af:=yf [3,4,0,1,2] ae
     have L:=yc [_,_] _ af
     refine cl (EX q.bb q.t ad (ye L 0 rfl) (fJ q.W d) a3 o_ (BT.AL a3 bd)) ?_
     rintro _ aN ⟨k,rfl,m,ag⟩
     have ah:=(yi L ag)
     have a4:jd k.kv:=m▸qC a3
     have be:fJ q.W c∈lex k.kv:=m▸F.sub a0 T eY a1
     have br:k.sz<=q.t.sz+1:=by rw[BT.k6,BT.k6,m];exact yJ
     refine gC ah 15 fun ai aj=>?_
     have M:=yc [_,_] _ aj
     refine cl (EX q.bb k ai (ye M 0 rfl) (fJ q.W c) a4 o_ (BT.AL a4 be)) ?_
     rintro _ aO ⟨z,rfl,A,ak⟩
     have al:=(yi M ak)
     have a8:jd z.kv:=A▸qC a4
     have bs:z.sz<=k.sz+1:=by rw[BT.k6,BT.k6,A];exact yJ
     refine gC al 20 fun aP am=>?_
     refine iQ (f:=(fun _=>(fJ q.W d)+(fJ q.W c))) 4 am (fun aQ an=>?_)
     refine gC an 15 fun ao ap=>?_
     have N:=yc [_,_] _ ap
     refine cl (Is q.bb z ao (ye N 0 rfl) (fJ (fO q.W d (fun _=>(fJ q.W d)+(fJ q.W c))) d) a8 o_) ?_
     rintro _ aR ⟨B,rfl,O,aq⟩
     have P:=(yi N aq)
     have bh:(fJ (fO q.W d (fun _=>(fJ q.W d)+(fJ q.W c))) d)=fJ q.W d+fJ q.W c:=jS (by rw[bj];omega)
     rw[bh]at O
     refine fP P 9 ?_
     refine gZ (v:=Zg) (v' := Zc) results175 rfl rfl ?_
     have ar:=yf [2,3,4,0,1] P
     have hj:=F.join a0 T eY a1
     rw[<-m,<-A,<-O,<-aY]at hj
     have a5:Tl.ok n (⟨q.db,q.wv,q.bb,h,fO q.W d (fun _=>(fJ q.W d)+(fJ q.W c)),B⟩:Tl):=⟨hj,by show h.cnt=((rts h.lb n).length:Int);rw[aY,aZ];omega⟩
     exact⟨true,(⟨q.db,q.wv,q.bb,h,fO q.W d (fun _=>(fJ q.W d)+(fJ q.W c)),B⟩:Tl),rfl,by show h.lb=_;rw[aY,a7,a6,J9],ym (yn (p:=Tl.ok n (⟨q.db,q.wv,q.bb,h,fO q.W d (fun _=>(fJ q.W d)+(fJ q.W c)),B⟩:Tl)) (yc [_,_,_,_,_] _ ar) a5) zd⟩
   . have a0:d<n:=by omega
     have a1:c<d:=by omega
     have T:fJ q.s.lb c=c:=ba
     have eY:fJ q.s.lb d=d:=bc
     have bm:=KQ F.ok (show c<n by omega) a0 T eY (zZ a1)
     have bk:=F.wt c o_ T
     have bl:=F.wt d a0 eY
     have bu:q.s.lb.count c<=n:=F.ok.len▸BJ
     have bv:q.s.lb.count d<=n:=F.ok.len▸BJ
     have bq:=KP (lab:=q.s.lb) (i:=n)
     refine fK e 14 ?_
     refine cl (I8 q.db n g I (ye e 1 rfl) o_ c d o_ a0) ?_
     rintro _ aS ⟨j,rfl,Q,ht⟩
     have au:=yh 1 e ht
     have aY:=Q.1
     have aZ:=Q.2
     rw[a2.1]at aY aZ
     rw[T,eY]at aY aZ
     rw[if_neg (zZ a1),a2.2]at aZ
     rw[a9,kP o_]at aZ
     have bd:=F.wo (show c<n by omega) T
     have a3:=F.bo
     refine gC au 15 fun av aw=>?_
     have ax:=yf [3,4,0,1,2] aw
     have S:=yc [_,_] _ ax
     refine cl (EX q.bb q.t av (ye S 0 rfl) (fJ q.W c) a3 o_ (BT.AL a3 bd)) ?_
     rintro _ aT ⟨l,rfl,u,ay⟩
     have az:=(yi S ay)
     have a4:jd l.kv:=u▸qC a3
     have be:fJ q.W d∈lex l.kv:=u▸F.sub a0 T eY a1
     have br:l.sz<=q.t.sz+1:=by rw[BT.k6,BT.k6,u];exact yJ
     refine gC az 15 fun aA aB=>?_
     have U:=yc [_,_] _ aB
     refine cl (EX q.bb l aA (ye U 0 rfl) (fJ q.W d) a4 o_ (BT.AL a4 be)) ?_
     rintro _ aU ⟨C,rfl,D,aC⟩
     have aD:=(yi U aC)
     have a8:jd C.kv:=D▸qC a4
     have bs:C.sz<=l.sz+1:=by rw[BT.k6,BT.k6,D];exact yJ
     refine gC aD 20 fun aV aE=>?_
     refine iQ (f:=(fun _=>(fJ q.W c)+(fJ q.W d))) 4 aE (fun aW aF=>?_)
     refine gC aF 15 fun aG aH=>?_
     have V:=yc [_,_] _ aH
     refine cl (Is q.bb C aG (ye V 0 rfl) (fJ (fO q.W c (fun _=>(fJ q.W c)+(fJ q.W d))) c) a8 o_) ?_
     rintro _ aX ⟨E,rfl,X,aI⟩
     have Y:=(yi V aI)
     have bh:(fJ (fO q.W c (fun _=>(fJ q.W c)+(fJ q.W d))) c)=fJ q.W c+fJ q.W d:=jS (by rw[bj];omega)
     rw[bh]at X
     refine fP Y 9 ?_
     refine gZ (v:=Zg) (v' := Zc) results175 rfl rfl ?_
     have aJ:=yf [2,3,4,0,1] Y
     have hj:=F.join a0 T eY a1
     rw[<-u,<-D,<-X,<-aY]at hj
     have a5:Tl.ok n (⟨q.db,q.wv,q.bb,j,fO q.W c (fun _=>(fJ q.W c)+(fJ q.W d)),E⟩:Tl):=⟨hj,by show j.cnt=((rts j.lb n).length:Int);rw[aY,aZ];omega⟩
     exact⟨true,(⟨q.db,q.wv,q.bb,j,fO q.W c (fun _=>(fJ q.W c)+(fJ q.W d)),E⟩:Tl),rfl,by show j.lb=_;rw[aY,a7,a6],ym (yn (p:=Tl.ok n (⟨q.db,q.wv,q.bb,j,fO q.W c (fun _=>(fJ q.W c)+(fJ q.W d)),E⟩:Tl)) (yc [_,_,_,_,_] _ aJ) a5) zd⟩
theorem aeF :
 CR ya 168 (Z2 i) w (fun r w' => r = .int .i64 1/\gx [] w w'):=by
 refine en func168 ntmps168 ?_
 have a:=yu w
 refine iT a 11 ?_
 refine gf (v:=pZ) results168 rfl ?_
 exact⟨rfl,a.gA s_⟩
theorem qQ.rts:(rts (List.range n) n).length=n:=by
 have a:Go.Sx.rts (List.range n) n=List.range n:=qN.2 fun i hi=>decide_eq_true (lU (l8.1 hi))
 rw[a,mQ]
theorem aeD(hn:n<=100) :
 CR ya 167 #[(Za n),(.func (.func 168) #[] #[])] w (fun r w' => ∃ (tb:Nat) (q:Tl),r = .tuple (Zz tb)/\q.s.lb=List.range n/\fV (gh []) w w' (Tl.R tb n q)):=by
 refine en func167 ntmps167 ?_
 have am:=yu w
 refine fR am 9 ?_
 refine cl (Ol n w o_) ?_
 rintro _ aa ⟨b,e,rfl,l,ht⟩
 have x:=(jm am ht)
 refine gF x 18 ?_
 refine yT mixed [0,1] [2,3] [] [4,5,6] x (fun ab y=>zJ ?_)
 refine fP y 3 ?_
 refine pe trivial (zI [⟨2,21,[],[],Nat,fun d=>(Zd d n),fun d=>[blk d 2 ((List.replicate n 0).flatMap gi)]⟩,⟨3,22,[],[],Nat,fun a=>(Zb a),fun a=>[(Mn a (gD 422 BT.nil))]⟩] y ⟨nv (fun Z wq hM _=>lN (cf:=gi) (z0:=0) (m:=n) (c:=n) rfl rfl rfl n9 ti2 rfl f_ d_ (zm _) o_ o_ hM (fun E _ _ _ h=>have hK:=h;nF ⟨E,rfl,hK,trivial⟩)),nv (fun Z wq hM _=>cl (UT wq) (fun _ _ hz=>by obtain⟨G,rfl,ao⟩:=hz;exact have hK:=(jm hM ao);nF ⟨G,rfl,hK,trivial⟩))⟩ ?_)
 rintro d a ac H
 refine iU (pvs:=[(1,(Zb b)),(2,(Zd d n)),(3,(Zb a))]) (v:=.agg #[Zp,(Zb b),(Zd d n),(Zb a)]) rfl rfl (jj [(1,(Zf b)),(2,(Z5 d n)),(3,(Zf a))] Ly abz rfl ⟨rfl,rfl,rfl,rfl,rfl,rfl,trivial⟩ rfl) (ir H (fun g I ad ae z=>?_))
 refine fP z 2 ?_
 have o:St _ [blk g 359 [(.pointer none),(.pointer (some ⟨b,0,none⟩)),(.slice (some ⟨d,0,none⟩) n n),(.pointer (some ⟨a,0,none⟩))],(gh [blk a 412 [(.pointer (some ⟨a,0,none⟩)),(.pointer none)],(gD 422 BT.nil)]),fL gi (.slice (some ⟨d,0,none⟩) n n) 2 1 (List.replicate n 0),(Ds.R b n e)] I:=lZ (cf:=gi) z (i:=2) rfl f_ (zm _) (by simp only[maxLen];omega)
 generalize (Value.slice (some ⟨d,0,none⟩) n n)=j at o ⊢
 refine Bg tt none o 3 ?_
 have J:=yf [1,0,2,3] o
 have K:=yy J
 refine ux K 15 fun af L=>?_
 have M:=yf [2,4,3,0,1] L
 refine lp (α:=Nat×List Int×BT) (fun(k,W,t)=>[(0,(Za n)),(1,(.func (.func 168) #[] #[])),(4,Zp),(5,Zc),(8,(Zb g)),(29,(Za n)),(30,(Za k))]) (fun(k,W,t) w1=>St [(w,[])] [blk g 359 [(Zb g),(Zb b),j,(Zb a)],(Ds.R b n e),fL gi j 2 1 W,blk a 412 [(Zb a),t.ptr],(gD 422 t)] w1/\qQ n k W t.kv/\k<=n) (fun(k,W,t)=>n-k) (0,List.replicate n 0,BT.nil) ⟨rfl,rfl,rfl,rfl,rfl,rfl,gm rO,trivial⟩ (⟨M,qQ.start,o_⟩) ?_
 rintro⟨k,W,t⟩ ag ah ⟨T,F,ar⟩
 have aq:=F.wl
 have an:=F.sz
 rw[<-BT.k6]at an
 refine fR T 2 ?_
 by_cases ai:(k:Int)<(n:Int)
 . refine gF T 16 ?_
   refine kq mixed [([0,1,2,3,4,5,6,7],[3])] [8,9] T (fun N A=>jx ?_)
   refine fK A 7 ?_
   refine mW (fi:=[]) (ca:=[]) rfl rfl rfl eN (aeF (k:Int) N) ?_
   rintro _ aj ⟨rfl,O⟩
   have u:=yr A O
   refine fP u 1 ?_
   refine jZ (kE ?_)
   refine fK u 1 ?_
   refine iQ (f:=(fun _=>1)) (cf:=gi) 2 u (fun ak P=>?_)
   have ap:(fJ (fO W k (fun _=>1)) k)=1:=jS (by rw[aq];omega)
   refine gC P 15 fun Q S=>?_
   have U:=yf [3,4,0,1,2] S
   have B:=yc [_,_] _ U
   refine cl (Is a t Q (ye B 0 rfl) (fJ (fO W k (fun _=>1)) k) F.bo o_) ?_
   rintro _ al ⟨V,rfl,C,X⟩
   have D:=(yi B X)
   rw[ap]at C
   refine fP D 17 ?_
   refine tN (?_)
   have Y:=yf [2,3,4,0,1] D
   exact again ((k+1),fO W k (fun _=>1),V) ⟨rfl,rfl,rfl,rfl,rfl,rfl,gm rO,trivial⟩ (⟨Y,by rw[C];exact F.next o_,o_⟩) (by show (n-(k+1):Nat)<n-k;omega)
 . refine fP T 18 ?_
   refine gZ (v:=(Zb g)) (v' := Zc) results167 rfl rfl ?_
   obtain rfl:k=n:=by omega
   have hq:Tl.ok k (⟨b,j,a,e,W,t⟩:Tl):=⟨by show nJ k e.lb _ _;rw[l.1];exact F.fin,by show e.cnt=((rts e.lb k).length:Int);rw[l.1,l.2];exact congrArg _ (qQ.rts k).symm⟩
   exact⟨g,(⟨b,j,a,e,W,t⟩:Tl),rfl,l.1,uE (yn (p:=Tl.ok k (⟨b,j,a,e,W,t⟩:Tl)) (yc [_,_,_,_,_] _ T) hq) s_⟩
theorem adl(x:Int)(w:World) :
 CR ya 107 (Z0 i x) w (fun r w' => r = .int .i64 i/\gx [] w w'):=by
 refine en func107 ntmps107 ?_
 have a:=yu w
 refine iT a 12 ?_
 refine gf (v:=(Za i)) results107 rfl ?_
 exact⟨rfl,a.gA s_⟩
theorem adk(zs:List Nat)(w:World)(hv:gY 1 fU (fun _=>True) w v zs)(I:zs.length<=16384) :
 CR ya 106 #[v,(.func (.func 107) #[] #[])] w (fun r w' => ∃ pv,pv=r/\fV (gh []) w w' (Z6 pv (List.range zs.length))):=by
 refine en func106 ntmps106 ?_
 have E:=yu w
 refine fR E 8 ?_
 refine jY (v:=v) rfl rfl yd hv (lN (cf:=fU) (z0:=0) (m:=zs.length) (c:=zs.length) rfl rfl rfl yd gq rfl f_ d_ (zm _) o_ o_ E ?_)
 intro d h t u j
 have b:St _ [fL fU (.slice (some ⟨d,0,none⟩) zs.length zs.length) 3 1 (List.replicate zs.length 0)] h:=lZ (cf:=fU) j (i:=0) rfl f_ (zm _) (by simp only[maxLen];omega)
 generalize (Value.slice (some ⟨d,0,none⟩) zs.length zs.length)=a at b ⊢
 refine fK b 7 ?_
 refine jY (v:=v) rfl rfl yd hv ?_
 have l:=yx 0 b rfl (congrArg (fL fU a 3 1) (acp.symm))
 refine gF b 4 ?_
 refine lp (α:=Nat) (fun k=>[(1,(.func (.func 107) #[] #[])),(5,a),(11,v),(12,(Za zs.length)),(13,(Za k))]) (fun k w1=>St [(w,[])] [fL fU a 3 1 (vu zs.length k)] w1/\k<=zs.length) (fun k=>zs.length-k) 0 ⟨rfl,rfl,rfl,rfl,gm rO,trivial⟩ (⟨l,o_⟩) ?_
 rintro k x o ⟨C,H⟩
 have G:=acn (n:=zs.length) (k:=k) o_
 refine fR C 2 ?_
 by_cases y:(k:Int)<(zs.length:Int)
 . obtain⟨p,z⟩:=oW (show k<zs.length by omega)
   refine fK C 24 ?_
   refine mW (fi:=[]) (ca:=[]) rfl rfl rfl eN (adl (k:Int) (p:Int) o) ?_
   rintro _ A ⟨rfl,q⟩
   have e:=yr C q
   refine fK e 1 ?_
   refine iQ (f:=(fun _=>k)) 0 e (fun B g=>?_)
   refine fP g 7 ?_
   refine tN (?_)
   have s:=yx 0 g rfl (congrArg (fL fU a 3 1) (aco o_))
   exact again (k+1) ⟨rfl,rfl,rfl,rfl,gm rO,trivial⟩ (⟨s,o_⟩) (by show (zs.length-(k+1):Nat)<zs.length-k;omega)
 . refine fP C 17 ?_
   refine gf (v:=a) results106 rfl ?_
   have F:k=zs.length:=by omega
   have D:=C
   rw[F,acm]at D
   exact⟨a,rfl,mD D⟩
theorem adm(s:n<=16384) :
 CR ya 54 (Z2 n) w (fun r w' => ∃ pv,pv=r/\fV (gh []) w w' (Z6 pv (List.range n))):=by
 refine en func54 ntmps54 ?_
 have q:=yu w
 refine fR q 8 ?_
 refine lN (cf:=fU) (z0:=0) (m:=n) (c:=n) rfl rfl rfl yd gq rfl f_ d_ (zm _) o_ o_ q ?_
 intro b d k l g
 have a:St _ [fL fU (.slice (some ⟨b,0,none⟩) n n) 3 1 (List.replicate n 0)] d:=lZ (cf:=fU) g (i:=0) rfl f_ (zm _) (by simp only[maxLen];omega)
 generalize (Value.slice (some ⟨b,0,none⟩) n n)=h at a ⊢
 refine cl (adk h (List.replicate n 0) d (Sl.any (iN a 0 rfl)) (by rw[qL];exact s)) ?_
 rintro _ o ⟨e,rfl,ht⟩
 have f:=(jm a ht)
 refine fP f 4 ?_
 refine gf (v:=e) results54 rfl ?_
 have j:=yf [0] f
 have p:=j
 rw[qL]at p
 exact⟨e,rfl,mD p⟩
theorem K5(dv:Value)(ds:List Int)(w:World)(hd:gY 1 gQ (fun _=>True) w dv ds)(F:∀ x∈ds,gU .u64 x)(G:n<=16384)(M:n<=ds.length+1) :
 CR ya 21 (uR n dv) w (fun r w' => ∃ pv,r = .tuple (uX pv)/\fV (gh []) w w' (Z6 pv (mu n ds))):=by
 refine en func21 ntmps21 ?_
 have A:=yu w
 refine fR A 10 ?_
 refine cmp rfl rfl rfl (kG o_) (fK A 2 ?_)
 refine cmp rfl rfl rfl (nN o_) (fK A 10 ?_)
 refine jY (v:=dv) rfl rfl yw hd (fK A 2 ?_)
 refine cmp rfl rfl rfl (kG o_) (fK A 8 ?_)
 refine cl (adm n w G) ?_
 rintro _ o ⟨c,rfl,ht⟩
 have d:=(jm A ht)
 have j:=yx 0 d rfl (congrArg (fL fU c 3 1) (rfl))
 refine gF d 12 ?_
 refine lp (α:=Nat) (fun k=>[(0,(Za n)),(1,dv),(5,Zc),(6,c),(23,(Za ((n:Int)-1))),(24,(Za k))]) (fun k w1=>St [(w,[])] [fL fU c 3 1 (u7 n ds k)] w1/\(k=0\/k<n)) (fun k=>n-k) 0 ⟨rfl,rfl,rfl,rfl,rfl,gm rO,trivial⟩ (⟨j,o_⟩) ?_
 rintro k p q ⟨z,L⟩
 have I:=Wu (n:=n) (ds:=ds) (k:=k) o_
 refine fR z 2 ?_
 by_cases s:(k:Int)<((n:Int)-1:Int)
 . have D:k<n:=by omega
   have C:=F _ (Bb (show k<ds.length by omega))
   have E:0<=fJ ds k:=C.1
   have H:fJ ds k<=18446744073709551615:=C.2
   have K:=On (ds:=ds) D
   have J:AO n ds k=k+(fJ ds k).toNat%(n-k):=rfl
   refine fK z 20 ?_
   refine iY (k:=k) (i:=(k:Int)) rfl rfl rfl yw iX hd o_ o_ (gz (show k<ds.length by omega)) (jk rfl rfl yo rfl (yz z s_ d_ hd) (gz (show k<ds.length by omega)) rfl (fK z 4 ?_))
   refine rem (a:=(fJ ds k)) (b:=(n:Int)-(k:Int)) (e:=(((fJ ds k).toNat%(n-k):Nat):Int)) rfl rfl rfl o_ (ab6 E D) (fK z 1 ?_)
   refine ar (e:=(AO n ds k:Int)) rfl rfl rfl rfl ((kP o_).trans o_) (gC z 17 fun t l=>?_)
   refine iQ (f:=(fun _=>(fJ (u7 n ds k) (AO n ds k)))) 0 l (fun u g=>?_)
   refine fK g 1 ?_
   refine iQ (f:=(fun _=>(fJ (u7 n ds k) k))) 0 g (fun y h=>?_)
   refine fP h 7 ?_
   refine tN (?_)
   have m:=yx 0 h rfl (congrArg (fL fU c 3 1) (rfl))
   exact again (k+1) ⟨rfl,rfl,rfl,rfl,rfl,gm rO,trivial⟩ (⟨m,o_⟩) (by show (n-(k+1):Nat)<n-k;omega)
 . refine fP z 18 ?_
   refine gZ (v:=c) (v' := Zc) results21 rfl rfl ?_
   have B:=z
   rw[show u7 n ds k=mu n ds from(show k=n-1 by omega)▸rfl]at B
   exact⟨c,rfl,mD B⟩
theorem Lf(tb n:Nat)(q:Tl)(w:World)(A:Own (Tl.R tb n q) w)(y:n<=100) :
 CR ya 102 (Zh tb) w (fun r w' => r=(xJ ((gG n q.s.lb).a) ((gG n q.s.lb).c:Int) ((gG n q.s.lb).s:Int))/\fV (Tl.R tb n q) w w' (Tl.R tb n q)):=by
 refine en func102 ntmps102 ?_
 have z:=yt A
 refine fR z 2 ?_
 refine iR z (fun m g p t b=>?_)
 refine fK b 5 ?_
 refine cl (aeH tb n q g (ye b 1 rfl) y) ?_
 rintro _ h ⟨rfl,ht⟩
 have d:=yh 1 b ht
 refine fK d 1 ?_
 refine cl (aeE tb n q h (ye d 1 rfl) y) ?_
 rintro _ j ⟨rfl,ht⟩
 have e:=yh 1 d ht
 refine fK e 1 ?_
 refine cl (aeI tb n q j (ye e 1 rfl) y) ?_
 rintro _ u ⟨rfl,ht⟩
 have k:=yh 1 e ht
 refine iU (pvs:=[(0,(Za ((gG n q.s.lb).a))),(1,(Za ((gG n q.s.lb).c:Int))),(2,(Za ((gG n q.s.lb).s:Int)))]) (v:=.agg (s9 ((gG n q.s.lb).a) ((gG n q.s.lb).c:Int) ((gG n q.s.lb).s:Int))) rfl rfl (jj [(0,(Ze ((gG n q.s.lb).a))),(1,(Ze ((gG n q.s.lb).c:Int))),(2,(Ze ((gG n q.s.lb).s:Int)))] zH abF rfl ⟨rfl,rfl,rfl,rfl,rfl,rfl,trivial⟩ rfl) (jH k 4 fun x f=>?_)
 refine KF (v:=(xJ ((gG n q.s.lb).a) ((gG n q.s.lb).c:Int) ((gG n q.s.lb).s:Int))) results102 (nX (cs:=(Ar ((gG n q.s.lb).a) ((gG n q.s.lb).c:Int) ((gG n q.s.lb).s:Int))) rfl G3 rfl zH rfl (mO f (i:=0) (o:=0) (vs:=(Ar ((gG n q.s.lb).a) ((gG n q.s.lb).c:Int) ((gG n q.s.lb).s:Int))) rfl rfl)) ?_
 have l:=yf [1] f
 exact⟨rfl,yj l⟩
theorem Sh(tb:Nat)(ev q:Value)(w:World)(h1:ev.oneCell' = true)(x:q.oneCell' = true) :
 CR ya 101 #[(Zb tb),ev,q] w (fun r w' => ∃ ob u s:Nat,r = .func (.func 174) #[] (Ev ob u s)/\fV (gh []) w w' (gh [blk ob 37 [q],blk u 200 (Zf tb),blk s 28 [ev]])):=by
 refine en func101 ntmps101 ?_
 have t:=yu w
 refine fR t 2 ?_
 refine ir t (fun a h i j e=>?_)
 refine ir e (fun b k l m f=>?_) (hcs:=(cells_one h1))
 refine ir f (fun c n o p d=>?_) (hcs:=(cells_one x))
 refine fK d 5 ?_
 refine mX (vf:=[]) (vc:=(uU c a b)) rfl rfl rfl (fP d 4 ?_)
 refine gf (v:=(.func (.func 174) #[] (Ev c a b))) results101 rfl ?_
 have g:=yf [0,2,1] d
 exact⟨c,a,b,rfl,mD (yc [_,_,_] _ g)⟩
theorem aee{l:List Nat}(h:k<l.length):l.take (k+1)=l.take k++[fJ l k]:=by
 rw[qu,gz h]
 rfl
theorem Sg{γ:Type}(J:γ->fT)(I:γ->Nat)(z0:γ)(l ob M K tb n:Nat)(N:Tl)(es:List Ge)(o:List Nat)(ev F:Value)(w:World)(X:∀ (z:γ) (q:Tl) (bs:List (World×List Nat)) (L:List fT) (w1:World),I z<=o.length->q.s.lb=gR es n (o.take (I z))->St bs (J z :: (Tl.R tb n q) :: fL Ge.cells ev 110 3 es :: fL fU F 3 1 o :: L) w1->YR ya l (Ze ((I z:Nat):Int)) w1 (fun rv w' => rv = .bool true/\∃ Z,I Z=I z+1/\St bs (J Z :: (Tl.R tb n q) :: fL Ge.cells ev 110 3 es :: fL fU F 3 1 o :: L) w'))(Y:I z0=0)(T:N.s.lb=gR es n (o.take 0))(hO:Own (En (J z0) tb n N ev es F o ob M K) w)(hn:n<=100)(hg:lQ n es)(ho:∀ i∈o,i<es.length)(hm:o.length<=16384) :
 CR ya 174 #[(.func (.yield l) #[] #[]),(Zb ob),(Zb M),(Zb K)] w (fun r w' => ∃ (z:γ) (q:Tl),r = .tuple #[]/\(I z=o.length+1/\q.s.lb=gR es n o)/\fV (En (J z0) tb n N ev es F o ob M K) w w' (En (J z) tb n q ev es F o ob M K)):=by
 refine en func174 ntmps174 ?_
 have W:=Own.of hO
 have O:=X z0 N _ _ _ o_ (by rw[Y];exact T) W
 refine fR W 4 ?_
 rw[Y]at O
 refine yl (vl:=[Zc]) rfl rfl rfl O ?_
 rintro _ x ⟨rfl,h,y,a⟩
 refine fK a 9 ?_
 refine iV (m:=o.length) 3 rfl rfl yd a rfl (gF a 4 ?_)
 refine lp (α:=Nat×γ×Tl) (fun(k,z,q)=>[(0,(.func (.yield l) #[] #[])),(1,(Zb ob)),(2,(Zb M)),(3,(Zb K)),(10,F),(11,(Za o.length)),(12,(Za k))]) (fun(k,z,q) w1=>St [(w,(En (J z0) tb n N ev es F o ob M K).gJ)] [(J z),(Tl.R tb n q),fL Ge.cells ev 110 3 es,fL fU F 3 1 o,blk ob 37 [F],blk M 200 (Zf tb),blk K 28 [ev]] w1/\k<=o.length/\I z=k+1/\q.s.lb=(gR es n (o.take k))) (fun(k,z,q)=>o.length-k) (0,h,N) ⟨rfl,rfl,rfl,rfl,rfl,rfl,gm rO,trivial⟩ (⟨a,o_,o_,T⟩) ?_
 rintro⟨k,z,q⟩ A B ⟨P,hk,V,U⟩
 refine fR P 2 ?_
 by_cases C:(k:Int)<(o.length:Int)
 . have S:k<o.length:=by omega
   have aa:fJ o k<es.length:=ho _ (Bb S)
   have Q:=hg.at aa
   have ab:=Q.1
   have ac:=Q.2.1
   refine gC P 31 fun j c=>?_
   refine cl (aeJ tb n q j (ye c 1 rfl) hn ((fJ es (fJ o k)).u) ((fJ es (fJ o k)).v) o_ o_) ?_
   rintro _ D ⟨E,b,rfl,p,ht⟩
   have d:=yh 1 c ht
   have f:b.s.lb=(gR es n (o.take (k+1))):=by rw[p,U,aee S,CL]
   refine fK d 6 ?_
   refine ar (e:=((k+1:Nat):Int)) rfl rfl rfl rfl ((kP o_).trans o_) ?_
   have O:=X z b _ _ _ o_ (by rw[V];exact f) d
   rw[V]at O
   refine yl (vl:=(Ze ((k+1:Nat):Int))) rfl rfl rfl O ?_
   rintro _ G ⟨rfl,t,H,g⟩
   refine fP g 11 ?_
   refine tN (?_)
   exact again ((k+1),t,b) ⟨rfl,rfl,rfl,rfl,rfl,rfl,gm rO,trivial⟩ (⟨g,o_,o_,f⟩) (by show (o.length-(k+1):Nat)<o.length-k;omega)
 . refine fP P 9 ?_
   refine jc results174 ?_
   exact⟨z,q,rfl,⟨o_,by rw[U,vF o_]⟩,yj (yc [_,_,_,_,_,_,_] _ P)⟩
def kr(es:List Ge)(n:Nat)(o:List Nat)(k:Nat):List kB:=(List.range k).map fun i=>gG n (gR es n (o.take i))
theorem acQ{es:List Ge}{n:Nat}:kr es n o (k+1)=kr es n o k++[gG n (gR es n (o.take k))]:=by
 unfold kr
 rw[sP,nt]
 rfl
theorem Rw{es:List Ge}{n:Nat}:(kr es n o k).length=k:=by simp[kr]
abbrev kL(m:Nat):Type:={z:Nat×Value // z.1<=m+1}
theorem adW(tb n:Nat)(q0:Tl)(es:List Ge)(o:List Nat)(ev F:Value)(w:World)(aK:q0.s.lb=gR es n (o.take 0))(hO:Own (gh [(Tl.R tb n q0),fL Ge.cells ev 110 3 es,fL fU F 3 1 o]) w)(hn:n<=100)(hg:lQ n es)(ho:∀ i∈o,i<es.length)(hm:o.length<=16384) :
 CR ya 108 #[(Zb tb),ev,F,(.func (.func 102) #[] #[])] w (fun r w' => ∃ (rv:Value) (T:Tl),rv=r/\fV (gh [(Tl.R tb n q0),fL Ge.cells ev 110 3 es,fL fU F 3 1 o]) w w' (gh [(Tl.R tb n T),fL Ge.cells ev 110 3 es,fL fU F 3 1 o,fL kB.cells rv 60 3 (kr es n o (o.length+1))])):=by
 refine AR (vs:=[(Zb tb),ev,F,(.func (.func 102) #[] #[])]) func108 rfl ntmps108 rfl ?_
 have aJ:=Own.of hO
 refine fR aJ 2 ?_
 refine ir aJ (fun b ae af ag M=>?_)
 refine ir M (fun d ah ai aj g=>?_)
 refine fK g 6 ?_
 refine iV (m:=o.length) 4 rfl rfl yd g rfl (fK g 1 ?_)
 refine lN (cf:=kB.cells) (z0:=(default:kB)) (m:=0) (c:=(o.length+1)) rfl rfl (gm o_) xh zH rfl f_ d_ (mE _) o_ o_ g ?_
 intro E N ak al O
 have G:St _ [fL kB.cells (.slice (some ⟨E,0,none⟩) 0 (o.length+1)) 60 3 ([]),blk d 207 [(.func (.func 102) #[] #[])],blk b 200 [(.pointer (some ⟨tb,0,none⟩))],(Tl.R tb n q0),fL Ge.cells ev 110 3 es,fL fU F 3 1 o] N:=lZ (cf:=kB.cells) (m:=0) O (i:=0) rfl f_ (mE _) (by simp only[maxLen];omega)
 generalize (Value.slice (some ⟨E,0,none⟩) 0 (o.length+1))=u at G ⊢
 refine iR G (fun e am an ao y=>?_)
 refine jt 0 y (fun P h=>?_) (hvs:=(cells_one (yv y (i:=1) rfl))) (h1:=(gX (yv y (i:=1) rfl) jV))
 refine fK h 8 ?_
 refine cl (Sh tb ev F P (yv h (i:=5) rfl) (yv h (i:=6) rfl)) ?_
 rintro _ ap ⟨j,p,t,rfl,ht⟩
 have H:=yy (jm h ht)
 have Q:=yf [3,4,5,6,7,8,9,0,1,2] H
 refine gF H 3 ?_
 refine rf (α:=kL o.length×Tl) (ps:=[18]) (fi:=[]) (ca:=(uU j p t)) (fun(z,T)=>[blk e 54 [z.1.2],fL kB.cells z.1.2 60 3 (kr es n o z.1.1),blk d 207 Ch,blk b 200 (Zf tb),(Tl.R tb n T),fL Ge.cells ev 110 3 es,fL fU F 3 1 o,blk j 37 [F],blk p 200 (Zf tb),blk t 28 [ev]]) (fun(z,T)=>z.1.1=o.length+1/\T.s.lb=gR es n o) Q rfl eN ?_ ?_
 . intro fn dd l wl rc aE aQ
   have S:=yf [0,2,3,4,5,6,1,7,8,9,10,11] aQ
   have aL:=yc [iw l rc,blk e 54 [u],fL kB.cells u 60 3 ([]),blk d 207 Ch,blk b 200 (Zf tb)] (MC tb n q0 (j6 dd (some [])) ev es F o j p t) S
   have aI:rc.state = .ready:=by rw[aE]
   have aN:rc.pending=none:=by rw[aE]
   have aO:∀ (z:kL o.length) (q:Tl) (bs:List (World×List Nat)) (L:List fT) (w1:World),(fun z:kL o.length=>z.1.1) z<=o.length->q.s.lb=gR es n (o.take ((fun z:kL o.length=>z.1.1) z))->St bs ((fun(z:kL o.length)=>gh (HZ (iw l rc) e z.1.2 (kr es n o z.1.1) d b tb)) z :: (Tl.R tb n q) :: fL Ge.cells ev 110 3 es :: fL fU F 3 1 o :: L) w1->YR ya l (Ze (((fun z:kL o.length=>z.1.1) z:Nat):Int)) w1 (fun rv w' => rv = .bool true/\∃ z2,(fun z:kL o.length=>z.1.1) z2=(fun z:kL o.length=>z.1.1) z+1/\St bs ((fun(z:kL o.length)=>gh (HZ (iw l rc) e z.1.2 (kr es n o z.1.1) d b tb)) z2 :: (Tl.R tb n q) :: fL Ge.cells ev 110 3 es :: fL fU F 3 1 o :: L) w'):=by
    intro z q bs LT wr aG aD aC
    have aC:=aC.unpack
    have aG:z.1.1<=o.length:=aG
    have aD:q.s.lb=gR es n (o.take z.1.1):=aD
    have aU:=Rw (es:=es) (n:=n) (o:=o) (k:=z.1.1)
    refine yU (vl:=(Ze ((z.1.1:Nat):Int))) 0 aE aC rfl rfl rfl (iT aC 1 ?_)
    refine tN (?_)
    refine AH 0 aC rfl aI rfl (fun aq I=>rm I 1 ?_)
    refine kq mixed [([0,1,2,3],[0]),([4],[0])] [5,6] I (fun U A=>jx ?_)
    refine fK A 3 ?_
    refine mW (fi:=[]) (ca:=[]) rfl rfl rfl eN (Lf tb n q U (ye A 5 rfl) hn) ?_
    rintro _ ar ⟨rfl,ht⟩
    have J:=yh 5 A ht
    refine fP J 1 ?_
    refine jZ (jx ?_)
    refine jW (vs:=[(xJ ((gG n q.s.lb).a) ((gG n q.s.lb).c:Int) ((gG n q.s.lb).s:Int))]) (cs:=(Ar ((gG n q.s.lb).a) ((gG n q.s.lb).c:Int) ((gG n q.s.lb).s:Int))) rfl rfl xh zH rfl (by simp[Value.cells]) rfl rfl rfl J (fun V au av aw B=>fP B 1 ?_)
    refine jZ (kE ?_)
    refine lR (cf:=kB.cells) (ys:=(kr es n o z.1.1)) (zs:=[(⟨(gG n q.s.lb).a,((gG n q.s.lb).c),((gG n q.s.lb).s)⟩:kB)]) (LL:=fun f=>(row (Z4 V) 60 3 1 ((Ar ((gG n q.s.lb).a) ((gG n q.s.lb).c:Int) ((gG n q.s.lb).s:Int))) :: iw l { rc with state:=.busy } :: blk e 54 [z.1.2] :: fL kB.cells f 60 3 ((kr es n o z.1.1)++[(⟨(gG n q.s.lb).a,((gG n q.s.lb).c),((gG n q.s.lb).s)⟩:kB)]) :: blk d 207 Ch :: blk b 200 (Zf tb) :: (Tl.R tb n q) :: fL Ge.cells ev 110 3 es :: fL fU F 3 1 o :: LT)) 3 rfl rfl rfl xh zH rfl d_ B rfl (lF B (i:=0) rfl) (fun x hx=>z6.1 (show List.all _ _=true from rfl) x hx) (by simp only[zh,zk,maxLen];omega) (by simp only[zh,zk,maxLen];omega) f_ ?_
    intro f ax W ay
    have C:=St.sub (L' := (iw l { rc with state:=.busy } :: blk e 54 [z.1.2] :: fL kB.cells f 60 3 ((kr es n o z.1.1)++[(⟨(gG n q.s.lb).a,((gG n q.s.lb).c),((gG n q.s.lb).s)⟩:kB)]) :: blk d 207 Ch :: blk b 200 (Zf tb) :: (Tl.R tb n q) :: fL Ge.cells ev 110 3 es :: fL fU F 3 1 o :: LT)) W (List.Sublist.cons _ (List.Sublist.refl _))
    refine jt 1 C (fun az K=>?_) (hvs:=(cells_one (yv C (i:=2) rfl))) (h1:=(gX (yv C (i:=2) rfl) jV))
    refine fP K 2 ?_
    refine u9 0 K rfl aI aN rfl ?_
    intro aA X
    have Y:=yx 2 X rfl (congrArg (fL kB.cells f 60 3) (show _=(kr es n o (z.1.1+1)) by rw[acQ,<-aD]))
    exact⟨_,rfl,rfl,(⟨(z.1.1+1,f),by show z.1.1+1<=_;omega⟩:kL o.length),rfl,yc [_,_,_,_,_] _ Y⟩
   have Z:=mP aL (List.Perm.cons _ (List.Perm.cons _ (List.Perm.swap _ _ _)))
   have aa:=yf [0,1,2,4,5,6,7,3] Z
   have aH:=yc [_,_,_,_,_,_,_] _ aa
   refine CR.mono (Sg (fun(z:kL o.length)=>gh (HZ (iw l rc) e z.1.2 (kr es n o z.1.1) d b tb)) (fun z:kL o.length=>z.1.1) (⟨(0,u),mE _⟩:kL o.length) l j p t tb n q0 es o ev F wl aO rfl aK (ye aH 0 rfl) hn hg ho hm) ?_
   rintro _ w9 ⟨z,T,-,aM,aR⟩
   have aF:=yy (yi aH aR)
   have aP:=aF
   have ab:=yf [0,11,1,2,3,4,5,6,7,8,9,10] aP
   exact⟨(z,T),aM,ab⟩
 . rintro⟨z,T⟩ dd aB hC D
   have aS:=hC.1
   have aT:=hC.2
   refine Bg tt none D 5 ?_
   refine kM (v:=z.1.2) rfl rfl (fP D 3 ?_)
   refine yC 0 D rfl rfl ?_
   intro w8 aF
   have ac:=yf [5,6,7,2] aF
   have ad:=yx 3 ac rfl (congrArg (fL kB.cells z.1.2 60 3) (show _=(kr es n o (o.length+1)) by rw[aS]))
   exact⟨_,results_tmp results108 _ _ _,_,rfl,by rw[qB];exact⟨z.1.2,T,rfl,yj (yc [_,_,_,_] _ ad)⟩⟩
section
open Go.Lib Go.Sort Go.RowKit in
theorem aax(x:Int)(w:World):Calls ya 243 (Z2 x) w fun e w' => e = .returned Zn/\w' = w:=by
 go_enter func243,ntmps243
 go_wp2
 go_ret
 exact⟨s_,rfl⟩
open Go.Lib Go.Sort Go.RowKit in
theorem VP(x y:Int)(w:World):CR ya 172 (Z0 x y) w (fun r w' => r = .int .i64 (kg x y)/\w' = w):=by
 have h:Calls ya 172 (Z0 x y) w fun e w' => e = .returned (Za (kg x y))/\w' = w:=by
  go_enter func172,ntmps172
  go_wp2_with (go_at_call 243;refine(aax _ _).mono ?_;rintro e w' ⟨rfl,a⟩;rw[a])
  all_goals (go_ret;refine⟨?_,rfl⟩;unfold kg;(repeat' split)<;>first|rfl|(exfalso;omega))
 exact h.mono fun e w' h=>⟨_,h.1,rfl,h.2⟩
open Go.Lib Go.Sort Go.RowKit in
theorem aaw(x:Int)(w:World):Calls ya 237 (Z2 x) w fun e w' => e = .returned Zn/\w' = w:=by
 go_enter func237,ntmps237
 go_wp2
 go_ret
 exact⟨s_,rfl⟩
open Go.Lib Go.Sort Go.RowKit in
theorem VO(x y:Int)(w:World):CR ya 173 (Z0 x y) w (fun r w' => r = .int .i64 (kg x y)/\w' = w):=by
 have h:Calls ya 173 (Z0 x y) w fun e w' => e = .returned (Za (kg x y))/\w' = w:=by
  go_enter func173,ntmps173
  go_wp2_with (go_at_call 237;refine(aaw _ _).mono ?_;rintro e w' ⟨rfl,a⟩;rw[a])
  all_goals (go_ret;refine⟨?_,rfl⟩;unfold kg;(repeat' split)<;>first|rfl|(exfalso;omega))
 exact h.mono fun e w' h=>⟨_,h.1,rfl,h.2⟩
theorem aa3(xs:List Int)(w:World)(hv:Ints .i64 (fun _=>True) w v xs) :
 CR ya 171 #[v] w (fun r w' => r = .int .i64 (qm xs)/\w' = w):=by
 have y:=hv.len
 refine en func171 ntmps171 ?_
 have p:=yu w
 refine fR p 14 ?_
 refine jY (v:=v) rfl rfl yd hv (gF p 4 ?_)
 refine lp (α:=Nat) (fun k=>[(3,Zc),(6,v),(7,(Za xs.length)),(8,(Za k))]) (fun k w1=>St [(w,[])] [] w1/\w1=w/\k<=xs.length/\∀ j x,j<k->xs[j]? = some x->x=0) (fun k=>xs.length-k) 0 ⟨rfl,rfl,rfl,gm rO,trivial⟩ (⟨p,rfl,o_,fun j x h=>absurd h o_⟩) ?_
 rintro k c d ⟨o,q,u,t⟩
 refine fR o 2 ?_
 by_cases e:(k:Int)<(xs.length:Int)
 . obtain⟨x,s⟩:=oW (show k<xs.length by omega)
   refine fK o 11 ?_
   refine CI (i:=(k:Int)) (el:=x) rfl rfl rfl yd gq (St.Fu o s_ hv) o_ (by rw[show ((k:Nat):Int).toNat=k by omega];exact s) ?_
   intro f g a b l
   have m:=b.i64
   refine ld rfl rfl yg rfl a (fK o 7 ?_)
   by_cases n:(x:Int)=0
   . refine fP o 11 ?_
     refine tN (?_)
     exact again (k+1) ⟨rfl,rfl,rfl,gm rO,trivial⟩ (⟨o,q,o_,Qy t s o_⟩) (by show (xs.length-(k+1):Nat)<xs.length-k;omega)
   . refine fP o 16 ?_
     refine gf (v:=(Za x)) G5 rfl ?_
     exact⟨gm (Qv t s o_).symm,q⟩
 . refine fP o 17 ?_
   refine gf (v:=Zc) G5 rfl ?_
   exact⟨gm (Qw t o_).symm,q⟩
theorem aa2(n:Nat)(ev:Value)(i j:Nat)(w:World)(hb:(blk n 28 [ev]).holds w)(hv:gY 3 Ge.cells (fun _=>True) w ev es)(hi:i<es.length)(k:j<es.length)(hm:es.length<=16384) :
 CR ya 170 #[(Za i),(Za j),(Zb n)] w (fun r w' => r = .int .i64 (qF (⟨i,(fJ es i).w⟩:gH) (⟨j,(fJ es j).w⟩:gH))/\Gw w w'):=by
 refine en func170 ntmps170 ?_
 have g:=yu w
 refine rm g 6 ?_
 refine ack mixed [] [] [] [0,1,2,3,4,5,6,7,8,9,10,11,12,13,14,15,16] g (fun a=>⟨pe trivial (Tq ?_)⟩)
 have c:=Gw.drew w
 refine fK a 10 ?_
 refine cl (VP ((fJ es i).w) ((fJ es j).w) w.drew) ?_
 rintro _ _ ⟨rfl,rfl⟩
 refine fK a 2 ?_
 refine cl (VO (i:Int) (j:Int) w.drew) ?_
 rintro _ _ ⟨rfl,rfl⟩
 refine U6 (vs:=(Zr (kg ((fJ es i).w) ((fJ es j).w)) (kg (i:Int) (j:Int)))) (cs:=(Zr (kg ((fJ es i).w) ((fJ es j).w)) (kg (i:Int) (j:Int)))) c rfl rfl yd gq rfl (by simp[Value.cells]) rfl rfl rfl a (fun d e b f=>cl (aa3 (EL d) [kg ((fJ es i).w) ((fJ es j).w),kg (i:Int) (j:Int)] e (xq b (i:=0) rfl (fun y h=>by simp only[zg,nr,or_false]at h;rcases h with rfl|rfl<;>exact Ob _ _)).any) ?_)
 rintro _ _ ⟨rfl,rfl⟩
 refine fP b 4 ?_
 refine gf (v:=(Za (qm [kg ((fJ es i).w) ((fJ es j).w),kg (i:Int) (j:Int)]))) results170 rfl ?_
 exact⟨gm (Qz (⟨i,(fJ es i).w⟩:gH) (⟨j,(fJ es j).w⟩:gH)),f⟩
open Go.Shelf Go.Lib Go.Sort Go.RowKit in
def Tryz.ady:Go.Shelf.Ren:=⟨fun|6=>169|15=>92|14=>242|28=>162|29=>163|20=>298|21=>299|22=>300|23=>301|24=>302|25=>303|26=>304|27=>305|46=>335|47=>233|48=>234|49=>336|50=>337|57=>355|n=>n,fun|22=>37|24=>3|25=>216|3=>3|39=>193|0=>0|53=>289|55=>39|4=>4|46=>283|45=>282|50=>160|5=>5|9=>9|66=>348|70=>351|76=>406|77=>197|n=>n,fun|n=>n⟩
open Go.Shelf Go.Lib Go.Sort Go.RowKit in
theorem Tryz.adx:Go.Proofs.SlLaysF.n6 Proofs.Tryz.prog Tryz.ady where
 mixed:=by kernel_rfl
 f6:=⟨Proofs.Tryz.f169.name,by(decide),Proofs.Tryz.func169.trans (congrArg some<|by kernel_rfl)⟩
 f14:=⟨Proofs.Tryz.f242.name,by(decide),Proofs.Tryz.func242.trans (congrArg some<|by kernel_rfl)⟩
 f15:=Proofs.Tryz.func92.trans (congrArg some<|by kernel_rfl)
 f20:=⟨Proofs.Tryz.f298.name,by(decide),Proofs.Tryz.func298.trans (congrArg some<|by kernel_rfl)⟩
 f21:=⟨Proofs.Tryz.f299.name,by(decide),Proofs.Tryz.func299.trans (congrArg some<|by kernel_rfl)⟩
 f22:=⟨Proofs.Tryz.f300.name,by(decide),Proofs.Tryz.func300.trans (congrArg some<|by kernel_rfl)⟩
 f23:=⟨Proofs.Tryz.f301.name,by(decide),Proofs.Tryz.func301.trans (congrArg some<|by kernel_rfl)⟩
 f24:=⟨Proofs.Tryz.f302.name,by(decide),Proofs.Tryz.func302.trans (congrArg some<|by kernel_rfl)⟩
 f25:=⟨Proofs.Tryz.f303.name,by(decide),Proofs.Tryz.func303.trans (congrArg some<|by kernel_rfl)⟩
 f26:=⟨Proofs.Tryz.f304.name,by(decide),Proofs.Tryz.func304.trans (congrArg some<|by kernel_rfl)⟩
 f27:=⟨Proofs.Tryz.f305.name,by(decide),Proofs.Tryz.func305.trans (congrArg some<|by kernel_rfl)⟩
 f28:=Proofs.Tryz.func162.trans (congrArg some<|by kernel_rfl)
 f29:=Proofs.Tryz.func163.trans (congrArg some<|by kernel_rfl)
 f46:=⟨Proofs.Tryz.f335.name,by(decide),Proofs.Tryz.func335.trans (congrArg some<|by kernel_rfl)⟩
 f47:=Proofs.Tryz.func233.trans (congrArg some<|by kernel_rfl)
 f48:=Proofs.Tryz.func234.trans (congrArg some<|by kernel_rfl)
 f49:=⟨Proofs.Tryz.f336.name,by(decide),Proofs.Tryz.func336.trans (congrArg some<|by kernel_rfl)⟩
 f50:=⟨Proofs.Tryz.f337.name,by(decide),Proofs.Tryz.func337.trans (congrArg some<|by kernel_rfl)⟩
 f57:=⟨Proofs.Tryz.f355.name,by(decide),Proofs.Tryz.func355.trans (congrArg some<|by kernel_rfl)⟩
 t0:=Proofs.Tryz.underlying0
 a0:=Proofs.Tryz.isAgg0
 z0:=Proofs.Tryz.sizeOf0
 v0:=Proofs.Tryz.zeroValue0
 t3:=Proofs.Tryz.underlying3
 a3:=Proofs.Tryz.isAgg3
 z3:=Proofs.Tryz.sizeOf3
 v3:=Proofs.Tryz.zeroValue3
 t4:=Proofs.Tryz.underlying4
 a4:=Proofs.Tryz.isAgg4
 z4:=Proofs.Tryz.sizeOf4
 v4:=Proofs.Tryz.zeroValue4
 t5:=Proofs.Tryz.underlying5
 a5:=Proofs.Tryz.isAgg5
 z5:=Proofs.Tryz.sizeOf5
 v5:=Proofs.Tryz.zeroValue5
 t9:=Proofs.Tryz.underlying9
 a9:=Proofs.Tryz.isAgg9
 z9:=Proofs.Tryz.sizeOf9
 v9:=Proofs.Tryz.zeroValue9
 t22:=Proofs.Tryz.underlying37
 a22:=Proofs.Tryz.isAgg37
 z22:=Proofs.Tryz.sizeOf37
 v22:=Proofs.Tryz.zeroValue37
 a24:=Proofs.Tryz.isAgg3
 z24:=Proofs.Tryz.sizeOf3
 t25:=Proofs.Tryz.underlying216
 a25:=Proofs.Tryz.isAgg216
 z25:=Proofs.Tryz.sizeOf216
 v25:=Proofs.Tryz.zeroValue216
 t39:=Proofs.Tryz.underlying193
 a39:=Proofs.Tryz.isAgg193
 z39:=Proofs.Tryz.sizeOf193
 v39:=Proofs.Tryz.zeroValue193
 t45:=Proofs.Tryz.underlying282
 a45:=Proofs.Tryz.isAgg282
 z45:=Proofs.Tryz.sizeOf282
 v45:=Proofs.Tryz.zeroValue282
 t46:=Proofs.Tryz.underlying283
 a46:=Proofs.Tryz.isAgg283
 z46:=Proofs.Tryz.sizeOf283
 v46:=Proofs.Tryz.zeroValue283
 t50:=Proofs.Tryz.underlying160
 a50:=Proofs.Tryz.isAgg160
 z50:=Proofs.Tryz.sizeOf160
 v50:=Proofs.Tryz.zeroValue160
 t53:=Proofs.Tryz.underlying289
 a53:=Proofs.Tryz.isAgg289
 z53:=Proofs.Tryz.sizeOf289
 v53:=Proofs.Tryz.zeroValue289
 t55:=Proofs.Tryz.underlying39
 a55:=Proofs.Tryz.isAgg39
 z55:=Proofs.Tryz.sizeOf39
 v55:=Proofs.Tryz.zeroValue39
 t66:=Proofs.Tryz.underlying348
 a66:=Proofs.Tryz.isAgg348
 z66:=Proofs.Tryz.sizeOf348
 v66:=Proofs.Tryz.zeroValue348
 t70:=Proofs.Tryz.underlying351
 a70:=Proofs.Tryz.isAgg351
 z70:=Proofs.Tryz.sizeOf351
 v70:=Proofs.Tryz.zeroValue351
 t76:=Proofs.Tryz.underlying406
 a76:=Proofs.Tryz.isAgg406
 z76:=Proofs.Tryz.sizeOf406
 v76:=Proofs.Tryz.zeroValue406
 t77:=Proofs.Tryz.underlying197
 a77:=Proofs.Tryz.isAgg197
 z77:=Proofs.Tryz.sizeOf197
 v77:=Proofs.Tryz.zeroValue197
open Go Go.Sx Go.Lib Go.Sort Go.RowKit
theorem ad5(n:Nat):SWO (ltOf fun x y:Fin n=>qF ⟨x.val,(fJ es x.val).w⟩ ⟨y.val,(fJ es y.val).w⟩) where
 irrefl x:=by unfold ltOf;rw[decide_eq_false_iff_not,oC];exact CQ _
 trans x y z h1 h2:=by unfold ltOf at *;rw[decide_eq_true_iff,oC]at *;exact JV h1 h2
 ntrans x y z h1 h2:=by unfold ltOf at *;rw[decide_eq_false_iff_not,oC]at *;exact FX h1 h2
theorem adA(lb:Nat)(ev v:Value)(w:World)(s:Own (Z6 v (List.range es.length)) w)(hb:(blk lb 28 [ev]).holds w)(C:lb<w.heap.size)(n:lb∉(Z6 v (List.range es.length)).gJ)(hv:gY 3 Ge.cells (fun b=>b∉(Z6 v (List.range es.length)).gJ) w ev es)(D:0<es.length)(hm:es.length<=16384) :
 CR ya 169 #[v,.func (.func 170) #[] (Zh lb)] w (fun r w' => ∃ o:List Nat,r = .tuple #[]/\oN es o/\fV (Z6 v (List.range es.length)) w w' (Z6 v o)):=by
 refine CR.mono (adD (P:=ya) D (fun i j=>decide (qF ⟨i,(fJ es i).w⟩ ⟨j,(fJ es j).w⟩<0)) s o_ fun J f p d A q u G=>?_) ?_
 . rw[A]at n hv
   refine Any.slices_SortFunc (P:=ya) Tryz.adx qX f_ (fun x y=>qF ⟨x.val,(fJ es x.val).w⟩ ⟨y.val,(fJ es y.val).w⟩) (ad5 es es.length) 170 (Zh lb) f 0 p d w (enters_of func170 k_ rfl) (fun k os m hs x y=>?_) q u G
   have t:=(blk lb 28 [ev]).loc _ (sortWorld qX w f 0 k m os) (fun b h=>by simp[blk]at h;subst h;exact RP C (by simpa using n)) hb
   have H:=hv.to (w' := sortWorld qX w f 0 k m os) d_ fun b c g=>RP g (by simpa using c)
   exact Calls.mono (aa2 es lb ev x.val y.val _ t H.any x.2 y.2 hm) fun e w' ⟨r,z,F,B⟩=>⟨by rw[z,F],B⟩
 . rintro r w' ⟨rfl,ys,c,g,ht⟩
   have E:ys.Nodup:=(c.nodup_iff).2 rI
   refine⟨ys,rfl,⟨c,(g.and E).imp fun {a b} h=>?_⟩,ht⟩
   have l:=of_decide_eq_false h.1
   rw[oC]at l
   have I:=h.2
   unfold iF at l
   unfold qZ
   dsimp only at l
   omega
theorem X5(b:n=0) :
 CR ya 298 #[v,Zc,(Za n),fv] w (fun r w' => r = .tuple #[]/\gx [] w w'):=by
 refine en func298 ntmps298 ?_
 have a:=yu w
 refine rm a 8 ?_
 refine qq 1 (iB (fR a 5 ?_))
 refine cmp rfl rfl rfl (kG o_) (fP a 7 ?_)
 refine jc results298 ?_
 exact⟨rfl,a.gA s_⟩
theorem abc(e:n=0) :
 CR ya 242 #[v,Zc,(Za n),(Za i),fv] w (fun r w' => r = .tuple #[]/\gx [] w w'):=by
 refine en func242 ntmps242 ?_
 have d:=yu w
 refine rm d 11 ?_
 refine qq 1 (iB (fR d 13 ?_))
 refine cmp rfl rfl rfl (xO o_) (fK d 9 ?_)
 refine cl (X5 v fv n w e) ?_
 rintro _ c ⟨rfl,b⟩
 have a:=yr d b
 refine fP a 7 ?_
 refine Bm results242 ?_
 exact⟨rfl,a.gA s_⟩
theorem adw(xs:List Int)(w:World)(hv:Ints .i64 (fun _=>True) w v xs)(i:xs.length=0) :
 CR ya 169 #[v,fv] w (fun r w' => r = .tuple #[]/\gx [] w w'):=by
 refine en func169 ntmps169 ?_
 have h:=yu w
 refine fR h 3 ?_
 refine jY (v:=v) rfl rfl yd hv (fK h 8 ?_)
 refine cl (NM xs.length w o_) ?_
 rintro _ c ⟨d,rfl,e⟩
 have a:=yr h e
 refine fK a 1 ?_
 refine cl (abc v fv xs.length d c i) ?_
 rintro _ g ⟨rfl,f⟩
 have b:=yr a f
 refine fP b 1 ?_
 refine jc results169 ?_
 exact⟨rfl,b.gA s_⟩
theorem adz(lb:Nat)(ev v:Value)(w:World)(d:Own (Z6 v (List.range es.length)) w)(hb:(blk lb 28 [ev]).holds w)(l:lb<w.heap.size)(k:lb∉(Z6 v (List.range es.length)).gJ)(hv:gY 3 Ge.cells (fun b=>b∉(Z6 v (List.range es.length)).gJ) w ev es)(hm:es.length<=16384) :
 CR ya 169 #[v,.func (.func 170) #[] (Zh lb)] w (fun r w' => ∃ o:List Nat,r = .tuple #[]/\oN es o/\fV (Z6 v (List.range es.length)) w w' (Z6 v o)):=by
 rcases BS es.length with c|c
 . obtain rfl:=zU.1 c
   have f:=qt (yt d) (i:=0) rfl f_
   obtain⟨a,e,rfl,g,j,n⟩:=f
   refine CR.mono (adw _ _ [] w ⟨a,e,rfl,g,j,fun i y m=>by simp at m⟩ rfl) fun r w' h=>⟨[],h.1,⟨List.Perm.refl _,List.Pairwise.nil⟩,ym ((yt d).grow h.2) zd⟩
 . exact adA es lb ev v w d hb l k hv c hm
theorem QA(hv:gY 3 Ge.cells (fun _=>True) w v es)(hm:es.length<=16384) :
 CR ya 100 #[v] w (fun r w' => ∃ (K:Value) (o:List Nat),K=r/\oN es o/\fV (gh []) w w' (Z6 K o)):=by
 refine en func100 ntmps100 ?_
 have J:=yu w
 refine fR J 2 ?_
 refine ir J (fun d z A B g=>?_) (hcs:=(cells_one (Sl.Qu hv)))
 refine fK g 6 ?_
 refine jY (v:=v) rfl rfl pQ hv (lN (cf:=fU) (z0:=0) (m:=es.length) (c:=es.length) rfl rfl rfl yd gq rfl f_ d_ (zm _) o_ o_ g ?_)
 intro h n C D p
 have e:St _ [fL fU (.slice (some ⟨h,0,none⟩) es.length es.length) 3 1 (List.replicate es.length 0),blk d 28 [v]] n:=lZ (cf:=fU) p (i:=0) rfl f_ (zm _) (by simp only[maxLen];omega)
 generalize (Value.slice (some ⟨h,0,none⟩) es.length es.length)=a at e ⊢
 refine fK e 7 ?_
 refine iV (m:=(List.replicate es.length 0).length) 0 rfl rfl yd e rfl ?_
 have N:(List.replicate es.length 0).length=es.length:=qL
 have q:=yx 0 e rfl (congrArg (fL fU a 3 1) (acu))
 refine gF e 4 ?_
 refine lp (α:=Nat) (fun k=>[(1,(Zb d)),(2,Zi),(3,a),(9,(Za ((List.replicate es.length 0).length:Int))),(10,(Za k))]) (fun k w1=>St [(w,[])] [fL fU a 3 1 (sC es.length k),blk d 28 [v]] w1/\k<=es.length) (fun k=>es.length-k) 0 ⟨rfl,rfl,rfl,rfl,gm rO,trivial⟩ (⟨q,o_⟩) ?_
 rintro k E s ⟨F,L⟩
 have O:=acr L
 refine fR F 2 ?_
 by_cases G:(k:Int)<((List.replicate es.length 0).length:Int)
 . refine fK F 20 ?_
   refine iQ (f:=(fun _=>k)) 0 F (fun H j=>?_)
   refine fP j 7 ?_
   refine tN (?_)
   have t:=yx 0 j rfl (congrArg (fL fU a 3 1) (acs o_))
   exact again (k+1) ⟨rfl,rfl,rfl,rfl,gm rO,trivial⟩ (⟨t,o_⟩) (by show (es.length-(k+1):Nat)<es.length-k;omega)
 . refine fK F 13 ?_
   refine mX (vf:=[]) (vc:=(Zf d)) rfl rfl rfl ?_
   have M:k=es.length:=by omega
   have b:=yx 0 F rfl (congrArg (fL fU a 3 1) ((congrArg (sC es.length) M).trans acq))
   refine cl (adz es d v a s (ye b 0 rfl) (St.at b (i:=1) rfl) b.XU b.aaN (b.ab4 s_ d_ hv) hm) ?_
   rintro _ I ⟨u,rfl,x,ht⟩
   have l:=yh 0 b ht
   refine fP l 9 ?_
   refine gf (v:=a) results100 rfl ?_
   have y:=yf [0] l
   exact⟨a,u,rfl,x,mD y⟩
theorem OR(hv:gY 3 Ge.cells (fun _=>True) w v es)(hg:lQ n es)(hn:n<=4096)(hm:es.length<=16384) :
 CR ya 252 (uR n v) w (fun r w' => ∃ (fv:Value) (f:List Nat),r = .tuple (uX fv)/\oM es n f/\fV (gh []) w w' (Z6 fv f)):=by
 refine enter (vs:=[(Za n),v]) func252 rfl ntmps252 rfl ?_
 have ai:=yu w
 refine fR ai 11 ?_
 refine jw (vl:=[(Za n),v]) rfl rfl eN (Fm v n es w hv hg o_ hm) ?_
 rintro _ B ⟨g,h,rfl,ht⟩
 have C:St _ [(Gr.R g n h es)] B:=(jm (R:=(Gr.R g n h es)) ai ht)
 refine fK C 19 ?_
 refine jw (vl:=(Ze n)) rfl rfl eN (Ws n B o_) ?_
 rintro _ D ⟨a,j,rfl,N,ht⟩
 have t:St _ [(Ds.R a n j),(Gr.R g n h es)] D:=(jm (R:=(Ds.R a n j)) C ht)
 refine fK t 26 ?_
 refine jw (vl:=[v]) rfl rfl eN (QA v es D (yz t s_ d_ hv).any hm) ?_
 rintro _ E ⟨b,d,rfl,p,ht⟩
 have x:St _ [fL fU b 3 1 d,(Ds.R a n j),(Gr.R g n h es)] E:=(jm (R:=fL fU b 3 1 d) t ht)
 refine iV (m:=d.length) 0 rfl rfl yd x rfl ?_
 have al:=p.len
 have O:St _ [iz .i64 Zi 3 (gy []),fL fU b 3 1 d,(Ds.R a n j),(Gr.R g n h es)] E:=qJ x 3 1
 have G:=yf [2,1,0] O
 obtain⟨o,ah⟩:∃ o,o=d:=⟨_,rfl⟩
 refine gF x 4 ?_
 rw[<-ah]at G p al
 have ap:d.length=o.length:=by rw[ah]
 refine lp (α:=Nat×Ds×Value) (fun(k,s,fv)=>[(0,(Za n)),(1,v),(4,Zi),(5,Zc),(8,(Zb a)),(10,fv),(33,b),(34,(Za d.length)),(35,(Za k))]) (fun(k,s,fv) w1=>St [(w,[])] (EA a n s b o fv (gy (jB es n (o.take k)))) w1/\k<=o.length/\s.lb=gR es n (jB es n (o.take k))) (fun(k,s,fv)=>o.length-k) (0,j,Zi) ⟨rfl,rfl,rfl,rfl,rfl,rfl,rfl,rfl,gm (by first|rfl|omega),trivial⟩ (⟨G,o_,N⟩) ?_
 rintro⟨k,s,fv⟩ Y P ⟨ad,hk,T⟩
 have am:(jB es n (o.take k)).length<=k:=by have h7:=(CE (es:=es) (n:=n) (o.take k)).length_le;rw[k8]at h7;omega
 refine fR ad 2 ?_
 by_cases Z:(k:Int)<(d.length:Int)
 . have ae:=p
   have F:k<o.length:=by omega
   have ak:fJ o k<es.length:=ae.lt (ze (gz F))
   have ag:=hg.at ak
   have an:=ag.1
   have ao:=ag.2.1
   refine gC ad 29 fun Q H=>?_
   refine jw (vl:=(Av a ((fJ es (fJ o k)).u:Int) ((fJ es (fJ o k)).v:Int))) rfl rfl eN (WB a n s Q (kU H (i:=0) rfl) o_ ((fJ es (fJ o k)).u) ((fJ es (fJ o k)).v) o_ o_) ?_
   rintro _ I ⟨c,rfl,J,ht⟩
   have l:St _ (EA a n c b o fv (gy (jB es n (o.take k)))) I:=l7 (R' := (Ds.R a n c)) 0 H rfl ht rfl
   refine gF l 12 ?_
   cases K:(decide (fJ s.lb (fJ es (fJ o k)).u≠fJ s.lb (fJ es (fJ o k)).v):Bool)
   . skip
     refine iT l 8 ?_
     refine tN (?_)
     have af:=J
     have S:St _ (EA a n c b o fv (gy (jB es n (o.take (k+1))))) I:=yx 2 l rfl (congrArg (iz .i64 fv 3) (by rw[Fk F,if_neg (by unfold mG;rw[<-T];exact of_decide_eq_false K)]))
     exact again ((k+1),c,fv) ⟨rfl,rfl,rfl,rfl,rfl,rfl,rfl,rfl,gm (by first|rfl|omega),trivial⟩ (⟨S,o_,af.trans (by rw[Fk F,JL,T])⟩) (by show (o.length-(k+1):Nat)<o.length-k;omega)
   . skip
     refine fR l 4 ?_
     refine jW (vs:=(Ze (((fJ o k):Nat):Int))) (cs:=(Ze (((fJ o k):Nat):Int))) rfl rfl yd gq rfl (by simp[Value.cells]) rfl rfl rfl l ?_
     intro y U aa ab q
     have q:St _ (H9 y ([(((fJ o k):Nat):Int)]) a n c b o fv (gy (jB es n (o.take k)))) U:=q
     refine vZ (k:=.i64) (ys:=gy (jB es n (o.take k))) (zs:=[(((fJ o k):Nat):Int)]) (LL:=fun e=>(H9 y ([(((fJ o k):Nat):Int)]) a n c b o e ((gy (jB es n (o.take k)))++([(((fJ o k):Nat):Int)])))) 3 rfl rfl rfl yd gq rfl q rfl (lF q (i:=0) rfl) (by simp only[gy,zu,zh,zk,zo,maxLen];omega) (by simp only[gy,zu,zh,zk,zo,maxLen];omega) f_ ?_
     intro e L A ac
     have A:St _ (H9 y ([(((fJ o k):Nat):Int)]) a n c b o e ((gy (jB es n (o.take k)))++([(((fJ o k):Nat):Int)]))) L:=A
     have M:=yf [1,2,3] A
     refine fP M 8 ?_
     refine tN (?_)
     have af:=J
     have V:St _ (EA a n c b o e (gy (jB es n (o.take (k+1))))) L:=yx 2 M rfl (congrArg (iz .i64 e 3) (by rw[Fk F,if_pos (by unfold mG;rw[<-T];exact of_decide_eq_true K),CX]))
     exact again ((k+1),c,e) ⟨rfl,rfl,rfl,rfl,rfl,rfl,rfl,rfl,gm (by first|rfl|omega),trivial⟩ (⟨V,o_,af.trans (by rw[Fk F,JL,T])⟩) (by show (o.length-(k+1):Nat)<o.length-k;omega)
 . have ae:=p
   refine fP ad 18 ?_
   refine gZ (v:=fv) (v' := Zc) results252 rfl rfl ?_
   have aj:k=o.length:=by omega
   have W:=yf [2] ad
   have X:St _ [fL fU fv 3 1 (jB es n o)] P:=yx 0 W rfl (((congrArg (fun z=>iz .i64 fv 3 (gy (jB es n z))) (by rw[aj,vL])).trans (Dh f_ _).symm))
   exact⟨fv,jB es n o,rfl,⟨o,ae,rfl⟩,mD X⟩
end
theorem Ta(g:n<=100) :
 CR ya 99 (Z2 n) w (fun r w' => ∃ (tb:Nat) (q:Tl),r = .tuple (Zz tb)/\q.s.lb=List.range n/\fV (gh []) w w' (Tl.R tb n q)):=by
 refine en func99 ntmps99 ?_
 have f:=yu w
 refine fR f 9 ?_
 refine cl (aeD n w g) ?_
 rintro _ e ⟨a,c,rfl,d,ht⟩
 have b:=(jm f ht)
 refine fP b 7 ?_
 refine gZ (v:=(Zb a)) (v' := Zc) results99 rfl rfl ?_
 exact⟨a,c,rfl,d,mD b⟩
theorem Sf(o:List Nat)(ev p:Value)(w:World)(u:Own (EG ev es p o) w)(q:n<=100)(x:lQ n es)(z:∀ i∈o,i<es.length)(hm:o.length<=16384) :
 CR ya 56 #[(Za n),ev,p] w (fun r w' => ∃ rv:Value,r = .tuple (uX rv)/\fV (EG ev es p o) w w' (MQ ev es p o rv (kr es n o (o.length+1)))):=by
 refine en func56 ntmps56 ?_
 have t:=Own.of u
 refine fR t 9 ?_
 refine cl (Ta n w q) ?_
 rintro _ f ⟨g,a,rfl,h,ht⟩
 have b:=(jm t ht)
 have y:a.s.lb=gR es n (o.take 0):=h
 have c:=yc [_,_,_] _ b
 refine fK b 22 ?_
 refine cl (adW g n a es o ev p f y (ye c 0 rfl) q x z hm) ?_
 rintro _ l ⟨d,m,rfl,j⟩
 have e:=(yi c j)
 refine fP e 5 ?_
 refine gZ (v:=d) (v' := Zc) results56 rfl rfl ?_
 have k:=yf [1,2,3] e
 exact⟨d,rfl,yj (yc [_,_,_] _ k)⟩
theorem ad8(ev fv:Value)(ds:List Int)(R:fT)(u:∀ w,R.holds w->gY 1 gQ (fun _=>True) w fv ds)(w:World)(B:Own (gh [fL Ge.cells ev 110 3 es,R]) w)(C:∀ x∈ds,gU .u64 x)(E:n<=100)(A:lQ n es)(hm:es.length<=16384)(D:es.length<=ds.length+1) :
 CR ya 50 #[(Za n),ev,fv] w (fun r w' => ∃ rv:Value,r = .tuple (uX rv)/\fV (gh [fL Ge.cells ev 110 3 es,R]) w w' (gh [fL Ge.cells ev 110 3 es,R,fL kB.cells rv 60 3 (kr es n (mu es.length ds) (es.length+1))])):=by
 refine en func50 ntmps50 ?_
 have t:=Own.of B
 have F:=u _ (St.at t (i:=1) rfl)
 refine fR t 11 ?_
 refine cl (Fm ev n es w (Sl.any (iN t 0 rfl)) A o_ o_) ?_
 rintro _ f ⟨p,q,rfl,ht⟩
 have a:=(jm t ht)
 refine fK a 20 ?_
 refine jY (v:=fv) rfl rfl yw F (fK a 1 ?_)
 refine iV (m:=es.length) 1 rfl rfl pQ a rfl (fK a 1 ?_)
 refine cmp rfl rfl rfl (kG o_) (fK a 8 ?_)
 refine iV (m:=es.length) 1 rfl rfl pQ a rfl (fK a 1 ?_)
 refine cl (K5 es.length fv ds f (u _ (St.at a (i:=2) rfl)) C o_ D) ?_
 rintro _ g ⟨h,rfl,ht⟩
 have c:=(jm a ht)
 have z:=E9 (n:=es.length) (ds:=ds)
 have y:=z.length_eq
 refine fK c 22 ?_
 rw[mQ]at y
 have j:=yf [2,0,1,3] c
 have d:=yc [_,_] _ j
 refine cl (Sf n es (mu es.length ds) ev h g (ye d 0 rfl) E A (fun i hi=>l8.1 (z.mem_iff.1 hi)) o_) ?_
 rintro _ s ⟨b,rfl,k⟩
 have e:=(yi d k)
 refine fP e 7 ?_
 refine gZ (v:=b) (v' := Zc) results50 rfl rfl ?_
 have l:=yf [0,4,2] e
 have o:=yx 2 l rfl (congrArg (fL kB.cells b 60 3) (show _=(kr es n (mu es.length ds) (es.length+1)) by rw[y]))
 exact⟨b,rfl,yj (yc [_,_,_] _ o)⟩
structure i6 where
 th:Int
 a:Int
 c:Nat
 s:Nat
instance:Inhabited i6:=⟨⟨0,0,0,0⟩⟩
def i6.cells(x:i6):List Value:=[.int .i64 x.th,.int .i64 x.a,.int .i64 (x.c:Int),.int .i64 (x.s:Int)]
def FH(t:Int)(r:kB):i6:=⟨t,r.a,r.c,r.s⟩
def iG(es:List Ge)(n:Nat)(o:List Nat):Nat->List i6
 | 0=>[]
 | 1=>[]
 | k+2=>iG es n o (k+1)++if k+1=o.length\/(fJ es (fJ o (k+1))).w≠(fJ es (fJ o k)).w then[FH (fJ es (fJ o k)).w (gG n (gR es n (o.take (k+1))))]else[]
abbrev EN a (b:Nat) c d (e:Nat) f (g h i:Nat) j:=([a,blk b 52 [c],fL i6.cells c 62 4 d,blk e 28 [f],blk g 200 (Zf h),blk i 37 [j]]:List fT)
abbrev M4(a:Nat) b (c d:Nat) e f g h i j k l m n o p q r s:=([iz .u64 (Z4 a) 39 b,blk c 108 [.pointer (some ⟨d,0,none⟩),.bool false,.int .u64 0,.slice none 0 0,.int .i64 0,.slice none 0 0,.slice none 0 0,.slice none 0 0,.slice none 0 0,.slice none 0 0,.pointer none,.pointer none,.int .i64 0],WW.R e d f,fL gQ g 39 1 h,fL Ge.cells i 110 3 j,fL fU k 3 1 l,fL kB.cells m 60 3 n,fL kB.cells o 60 3 n,fL i6.cells p 62 4 q,fL gQ r 39 1 s]:List fT)
theorem JW{es:List Ge}{n:Nat}{o:List Nat}:∀ {k:Nat},(iG es n o k).length<=k
 | 0=>zm _
 | 1=>mE _
 | k+2=>by
  have a:=JW (es:=es) (n:=n) (o:=o) (k:=k+1)
  unfold iG
  rw[zo]
  split
  . rw[zX];omega
  . rw[zk];omega
theorem JX{es:List Ge}{n:Nat}(h:k+1=o.length\/(fJ es (fJ o (k+1))).w≠(fJ es (fJ o k)).w):iG es n o (k+1+1)=iG es n o (k+1)++[FH (fJ es (fJ o k)).w (gG n (gR es n (o.take (k+1))))]:=by rw[iG,if_pos h]
theorem ZG{es:List Ge}{n:Nat}(h:¬ (k+1=o.length\/(fJ es (fJ o (k+1))).w≠(fJ es (fJ o k)).w)):iG es n o (k+1+1)=iG es n o (k+1):=by rw[iG,if_neg h,rJ]
theorem ZF{es:List Ge}{n:Nat}(h:o.length≠0):∃ l t,iG es n o (o.length+1)=l++[FH t (gG n (gR es n o))]:=by
 obtain⟨k,a⟩:=Nat.exists_eq_succ_of_ne_zero h
 refine⟨iG es n o (k+1),(fJ es (fJ o k)).w,?_⟩
 have b:=JX (es:=es) (n:=n) (o:=o) (k:=k) (.inl a.symm)
 rw[a]
 rw[vF (DX a)]at b
 exact b
theorem ad4(ev:Value)(w:World)(hO:Own (xI ev es) w)(hn:n<=100)(hg:lQ n es)(hm:es.length<=16384) :
 CR ya 48 (uR n ev) w (fun r w' => ∃ (lv:Value) (o:List Nat),r = .tuple (uX lv)/\oN es o/\fV (xI ev es) w w' (gh [fL Ge.cells ev 110 3 es,fL i6.cells lv 62 4 (iG es n o (o.length+1))])):=by
 refine AR (vs:=[(Za n),ev]) func48 rfl ntmps48 rfl ?_
 have bD:=yt hO
 refine fR bD 2 ?_
 refine ir bD (fun p aB a4 a5 Q=>?_) (hcs:=(cells_one (yv bD (i:=0) rfl)))
 refine fK Q 9 ?_
 refine jw (vl:=[(Za n),ev]) rfl rfl eN (Fm ev n es aB (Sl.any (qt Q (i:=1) rfl f_)) hg o_ o_) ?_
 rintro _ aj ⟨J,K,rfl,ht⟩
 have ak:St _ [(Gr.R J n K es),blk p 28 [ev],fL Ge.cells ev 110 3 es] aj:=(jm (R:=(Gr.R J n K es)) Q ht)
 refine fK ak 19 ?_
 refine jw (vl:=(Ze n)) rfl rfl eN (Ta n aj hn) ?_
 rintro _ aC ⟨f,I,rfl,aD,ht⟩
 have al:St _ [(Tl.R f n I),(Gr.R J n K es),blk p 28 [ev],fL Ge.cells ev 110 3 es] aC:=(jm (R:=(Tl.R f n I)) ak ht)
 have bN:=aD
 refine fK al 3 ?_
 refine iR al (fun t a6 a7 a8 aE=>?_)
 refine gC aE 17 fun aF am=>?_
 refine jw (vl:=[ev]) rfl rfl eN (QA ev es aF (Sl.any (qt am (i:=4) rfl f_)) o_) ?_
 rintro _ aG ⟨g,d,rfl,S,ht⟩
 have aH:St _ [fL fU g 3 1 d,blk t 200 (Zf f),(Tl.R f n I),(Gr.R J n K es),blk p 28 [ev],fL Ge.cells ev 110 3 es] aG:=(jm (R:=fL fU g 3 1 d) am ht)
 refine iR aH (fun y a9 ba bb U=>?_)
 refine jt 0 U (fun bc an=>?_) (hvs:=(cells_one (yv U (i:=1) rfl))) (h1:=(gX (yv U (i:=1) rfl) jV))
 have bV:=S.len
 have bz:=fun i hi=>S.lt (i:=i) hi
 refine fK an 4 ?_
 refine iR an (fun A aI bd be P=>?_)
 have bJ:=S
 have bK:I.s.lb=gR es n (d.take 0):=bN
 refine fK P 8 ?_
 refine jw (vl:=[(Zb f),ev,g]) rfl rfl eN (Sh f ev g aI (yv P (i:=7) rfl) (yv P (i:=2) rfl)) ?_
 rintro _ ao ⟨C,D,E,rfl,ht⟩
 have ap:St _ [blk C 37 [g],blk D 200 (Zf f),blk E 28 [ev],blk A 52 oP,blk y 37 [g],fL fU g 3 1 d,blk t 200 (Zf f),(Tl.R f n I),(Gr.R J n K es),blk p 28 [ev],fL Ge.cells ev 110 3 es] ao:=yy (jm (R:=(gh [blk C 37 [g],blk D 200 (Zf f),blk E 28 [ev]])) P ht)
 have aJ:St _ [fL i6.cells Zi 62 4 (iG es n d 0),blk C 37 [g],blk D 200 (Zf f),blk E 28 [ev],blk A 52 oP,blk y 37 [g],fL fU g 3 1 d,blk t 200 (Zf f),(Tl.R f n I),(Gr.R J n K es),blk p 28 [ev],fL Ge.cells ev 110 3 es] ao:=qJ ap 62 4
 have aK:=yf [4,0,10,7,5,8,11,6,1,2,3] aJ
 refine gF ap 3 ?_
 refine rf (α:=kL d.length×Tl) (ps:=[37]) (fi:=[]) (ca:=(uU C D E)) (fun(z,T)=>[blk A 52 [z.1.2],fL i6.cells z.1.2 62 4 (iG es n d z.1.1),blk p 28 [ev],blk t 200 (Zf f),blk y 37 [g],(Tl.R f n T),fL Ge.cells ev 110 3 es,fL fU g 3 1 d,blk C 37 [g],blk D 200 (Zf f),blk E 28 [ev]]) (fun(z,T)=>z.1.1=d.length+1/\T.s.lb=gR es n d) aK rfl eN ?_ ?_
 . intro fn dd l wl rc bC bQ
   have aL:=yf [0,2,3,4,5,6,7,1,8,9,10,11,12] bQ
   have bL:=yc [iw l rc,blk A 52 oP,fL i6.cells Zi 62 4 (iG es n d 0),blk p 28 [ev],blk t 200 (Zf f),blk y 37 [g]] (MC f n I (j6 dd (some [])) ev es g d C D E) aL
   have bv:rc.state = .ready:=by rw[bC]
   have bA:rc.pending=none:=by rw[bC]
   have bO:∀ (z:kL d.length) (q:Tl) (bs:List (World×List Nat)) (L:List fT) (w1:World),(fun z:kL d.length=>z.1.1) z<=d.length->q.s.lb=gR es n (d.take ((fun z:kL d.length=>z.1.1) z))->St bs ((fun(z:kL d.length)=>gh (EN (iw l rc) A z.1.2 (iG es n d z.1.1) p ev t f y g)) z :: (Tl.R f n q) :: fL Ge.cells ev 110 3 es :: fL fU g 3 1 d :: L) w1->YR ya l (Ze (((fun z:kL d.length=>z.1.1) z:Nat):Int)) w1 (fun rv w' => rv = .bool true/\∃ z2,(fun z:kL d.length=>z.1.1) z2=(fun z:kL d.length=>z.1.1) z+1/\St bs ((fun(z:kL d.length)=>gh (EN (iw l rc) A z.1.2 (iG es n d z.1.1) p ev t f y g)) z2 :: (Tl.R f n q) :: fL Ge.cells ev 110 3 es :: fL fU g 3 1 d :: L) w'):=by
    intro z q bs F wr bF bx bk
    have bk:=bk.unpack
    have bk:St _ (iw l rc :: blk A 52 [z.1.2] :: fL i6.cells z.1.2 62 4 (iG es n d z.1.1) :: blk p 28 [ev] :: blk t 200 (Zf f) :: blk y 37 [g] :: (Tl.R f n q) :: fL Ge.cells ev 110 3 es :: fL fU g 3 1 d :: F) wr:=bk
    have bF:z.1.1<=d.length:=bF
    have bx:q.s.lb=gR es n (d.take z.1.1):=bx
    have bW:=JW (es:=es) (n:=n) (o:=d) (k:=z.1.1)
    refine yU (vl:=(Ze ((z.1.1:Nat):Int))) 0 bC bk rfl rfl rfl (iT bk 3 ?_)
    refine tN (?_)
    refine AH 0 bk rfl bv rfl ?_
    intro aM M
    have M:St _ (iw l { rc with state:=.busy } :: blk A 52 [z.1.2] :: fL i6.cells z.1.2 62 4 (iG es n d z.1.1) :: blk p 28 [ev] :: blk t 200 (Zf f) :: blk y 37 [g] :: (Tl.R f n q) :: fL Ge.cells ev 110 3 es :: fL fU g 3 1 d :: F) aM:=M
    refine fR M 5 ?_
    by_cases bf:((z.1.1:Nat):Int)=0
    . refine fP M 7 ?_
      refine u9 0 M rfl bv bA rfl ?_
      intro aq V
      have V:St _ (iw l rc :: blk A 52 [z.1.2] :: fL i6.cells z.1.2 62 4 (iG es n d z.1.1) :: blk p 28 [ev] :: blk t 200 (Zf f) :: blk y 37 [g] :: (Tl.R f n q) :: fL Ge.cells ev 110 3 es :: fL fU g 3 1 d :: F) aq:=V
      have aN:St _ (iw l rc :: blk A 52 [z.1.2] :: fL i6.cells z.1.2 62 4 (iG es n d (z.1.1+1)) :: blk p 28 [ev] :: blk t 200 (Zf f) :: blk y 37 [g] :: (Tl.R f n q) :: fL Ge.cells ev 110 3 es :: fL fU g 3 1 d :: F) aq:=yx 2 V rfl (congrArg (fL i6.cells z.1.2 62 4) ((by rw[show z.1.1=0 by omega];rfl)))
      exact⟨_,rfl,rfl,(⟨(z.1.1+1,z.1.2),by show z.1.1+1<=_;omega⟩:kL d.length),rfl,yc [_,_,_,_,_,_] _ aN⟩
    . obtain⟨j,hj⟩:∃ j,z.1.1=j+1:=⟨z.1.1-1,o_⟩
      have bI:j<d.length:=by omega
      have bU:fJ d j<es.length:=bz _ (Bb bI)
      refine gC M 11 fun bg W=>?_
      refine ar (a:=((z.1.1:Nat):Int)) (b:=1) (c:=((z.1.1:Nat):Int)-1) (e:=(j:Int)) rfl rfl rfl rfl ((kP o_).trans o_) (iY (cf:=fU) (k:=j) (i:=(j:Int)) rfl rfl rfl yd gq (qt W (i:=8) rfl f_) o_ o_ (gz om) (jk (cf:=fU) (u:=(Za (((fJ d j):Nat):Int))) rfl rfl yg rfl (qt W (i:=8) rfl f_) (gz om) rfl (gC W 10 fun bh B=>?_)))
      refine iV (m:=d.length) 8 rfl rfl yd B rfl ?_
      by_cases bi:((z.1.1:Nat):Int)=(d.length:Int)
      . refine gF B 16 ?_
        refine kq mixed [([0,1,2,3],[0]),([4,5],[0])] [6,7] B (fun aO X=>jx ?_)
        refine fK X 3 ?_
        refine jw (vl:=(Zf f)) rfl rfl eN (Lf f n q aO (kU X (i:=6) rfl) hn) ?_
        rintro _ aP ⟨rfl,ht⟩
        have au:St _ (iw l { rc with state:=.busy } :: blk A 52 [z.1.2] :: fL i6.cells z.1.2 62 4 (iG es n d z.1.1) :: blk p 28 [ev] :: blk t 200 (Zf f) :: blk y 37 [g] :: (Tl.R f n q) :: fL Ge.cells ev 110 3 es :: fL fU g 3 1 d :: F) aP:=l7 (R' := (Tl.R f n q)) 6 X rfl ht rfl
        refine fP au 1 ?_
        refine jZ (jx ?_)
        refine iU (pvs:=[(0,(Za ((fJ es (fJ d j)).w))),(1,(xJ ((gG n q.s.lb).a) ((gG n q.s.lb).c:Int) ((gG n q.s.lb).s:Int)))]) (v:=.agg (xN ((fJ es (fJ d j)).w) ((gG n q.s.lb).a) ((gG n q.s.lb).c:Int) ((gG n q.s.lb).s:Int))) rfl rfl (jj [(0,(Ze ((fJ es (fJ d j)).w))),(1,(Ar ((gG n q.s.lb).a) ((gG n q.s.lb).c:Int) ((gG n q.s.lb).s:Int)))] w5 QY rfl ⟨rfl,rfl,rfl,rfl,trivial⟩ rfl) (jW (vs:=(M7 ((fJ es (fJ d j)).w) ((gG n q.s.lb).a) ((gG n q.s.lb).c:Int) ((gG n q.s.lb).s:Int))) (cs:=(tc ((fJ es (fJ d j)).w) ((gG n q.s.lb).a) ((gG n q.s.lb).c:Int) ((gG n q.s.lb).s:Int))) rfl rfl xg w5 rfl (by simp[Value.cells]) rfl rfl rfl au ?_)
        intro Y aQ bj bl N
        have N:St _ (row (Z4 Y) 62 4 1 ((tc ((fJ es (fJ d j)).w) ((gG n q.s.lb).a) ((gG n q.s.lb).c:Int) ((gG n q.s.lb).s:Int))) :: iw l { rc with state:=.busy } :: blk A 52 [z.1.2] :: fL i6.cells z.1.2 62 4 (iG es n d z.1.1) :: blk p 28 [ev] :: blk t 200 (Zf f) :: blk y 37 [g] :: (Tl.R f n q) :: fL Ge.cells ev 110 3 es :: fL fU g 3 1 d :: F) aQ:=N
        refine fP N 1 ?_
        refine jZ (kE ?_)
        refine lR (cf:=i6.cells) (ys:=(iG es n d z.1.1)) (zs:=[(⟨(fJ es (fJ d j)).w,(gG n q.s.lb).a,((gG n q.s.lb).c),((gG n q.s.lb).s)⟩:i6)]) (LL:=fun G=>(row (Z4 Y) 62 4 1 ((tc ((fJ es (fJ d j)).w) ((gG n q.s.lb).a) ((gG n q.s.lb).c:Int) ((gG n q.s.lb).s:Int))) :: iw l { rc with state:=.busy } :: blk A 52 [z.1.2] :: fL i6.cells G 62 4 ((iG es n d z.1.1)++[(⟨(fJ es (fJ d j)).w,(gG n q.s.lb).a,((gG n q.s.lb).c),((gG n q.s.lb).s)⟩:i6)]) :: blk p 28 [ev] :: blk t 200 (Zf f) :: blk y 37 [g] :: (Tl.R f n q) :: fL Ge.cells ev 110 3 es :: fL fU g 3 1 d :: F)) 3 rfl rfl rfl xg w5 rfl d_ N rfl (lF N (i:=0) rfl) (fun x hx=>z6.1 (show List.all _ _=true from rfl) x hx) (by simp only[zh,zk,maxLen];omega) (by simp only[zh,zk,maxLen];omega) f_ ?_
        intro G aR Z bm
        have Z:St _ (row (Z4 Y) 62 4 1 ((tc ((fJ es (fJ d j)).w) ((gG n q.s.lb).a) ((gG n q.s.lb).c:Int) ((gG n q.s.lb).s:Int))) :: iw l { rc with state:=.busy } :: blk A 52 [z.1.2] :: fL i6.cells G 62 4 ((iG es n d z.1.1)++[(⟨(fJ es (fJ d j)).w,(gG n q.s.lb).a,((gG n q.s.lb).c),((gG n q.s.lb).s)⟩:i6)]) :: blk p 28 [ev] :: blk t 200 (Zf f) :: blk y 37 [g] :: (Tl.R f n q) :: fL Ge.cells ev 110 3 es :: fL fU g 3 1 d :: F) aR:=Z
        have aa:=St.sub (L' := (iw l { rc with state:=.busy } :: blk A 52 [z.1.2] :: fL i6.cells G 62 4 ((iG es n d z.1.1)++[(⟨(fJ es (fJ d j)).w,(gG n q.s.lb).a,((gG n q.s.lb).c),((gG n q.s.lb).s)⟩:i6)]) :: blk p 28 [ev] :: blk t 200 (Zf f) :: blk y 37 [g] :: (Tl.R f n q) :: fL Ge.cells ev 110 3 es :: fL fU g 3 1 d :: F)) Z (List.Sublist.cons _ (List.Sublist.refl _))
        refine jt 1 aa (fun bn av=>?_) (hvs:=(cells_one (yv aa (i:=2) rfl))) (h1:=(gX (yv aa (i:=2) rfl) jV))
        refine fP av 2 ?_
        refine u9 0 av rfl bv bA rfl ?_
        intro aw ab
        have ab:St _ (iw l rc :: blk A 52 [G] :: fL i6.cells G 62 4 ((iG es n d z.1.1)++[(⟨(fJ es (fJ d j)).w,(gG n q.s.lb).a,((gG n q.s.lb).c),((gG n q.s.lb).s)⟩:i6)]) :: blk p 28 [ev] :: blk t 200 (Zf f) :: blk y 37 [g] :: (Tl.R f n q) :: fL Ge.cells ev 110 3 es :: fL fU g 3 1 d :: F) aw:=ab
        have bB:j+1=d.length\/(fJ es (fJ d (j+1))).w≠(fJ es (fJ d j)).w:=by rw[<-hj];first|exact .inl o_|exact .inr o_
        have aS:St _ (iw l rc :: blk A 52 [G] :: fL i6.cells G 62 4 (iG es n d (z.1.1+1)) :: blk p 28 [ev] :: blk t 200 (Zf f) :: blk y 37 [g] :: (Tl.R f n q) :: fL Ge.cells ev 110 3 es :: fL fU g 3 1 d :: F) aw:=yx 2 ab rfl (congrArg (fL i6.cells G 62 4) ((by rw[bx,hj,JX bB];first|done|rfl)))
        exact⟨_,rfl,rfl,(⟨(z.1.1+1,G),by show z.1.1+1<=_;omega⟩:kL d.length),rfl,yc [_,_,_,_,_,_] _ aS⟩
      . have bE:z.1.1<d.length:=by omega
        have bS:fJ d z.1.1<es.length:=bz _ (Bb bE)
        refine fK B 5 ?_
        refine iY (cf:=fU) (k:=z.1.1) (i:=((z.1.1:Nat):Int)) rfl rfl rfl yd gq (qt B (i:=8) rfl f_) o_ o_ (gz om) (jk (cf:=fU) (u:=(Za (((fJ d z.1.1):Nat):Int))) rfl rfl yg rfl (qt B (i:=8) rfl f_) (gz om) rfl (fK B 4 ?_))
        by_cases bo:((fJ es (fJ d z.1.1)).w:Int)=((fJ es (fJ d j)).w:Int)
        . refine fP B 7 ?_
          refine u9 0 B rfl bv bA rfl ?_
          intro ax ac
          have ac:St _ (iw l rc :: blk A 52 [z.1.2] :: fL i6.cells z.1.2 62 4 (iG es n d z.1.1) :: blk p 28 [ev] :: blk t 200 (Zf f) :: blk y 37 [g] :: (Tl.R f n q) :: fL Ge.cells ev 110 3 es :: fL fU g 3 1 d :: F) ax:=ac
          have bH:¬ (j+1=d.length\/(fJ es (fJ d (j+1))).w≠(fJ es (fJ d j)).w):=by rw[<-hj];rintro(h|h)<;>omega
          have aT:St _ (iw l rc :: blk A 52 [z.1.2] :: fL i6.cells z.1.2 62 4 (iG es n d (z.1.1+1)) :: blk p 28 [ev] :: blk t 200 (Zf f) :: blk y 37 [g] :: (Tl.R f n q) :: fL Ge.cells ev 110 3 es :: fL fU g 3 1 d :: F) ax:=yx 2 ac rfl (congrArg (fL i6.cells z.1.2 62 4) ((by rw[hj,ZG bH])))
          exact⟨_,rfl,rfl,(⟨(z.1.1+1,z.1.2),by show z.1.1+1<=_;omega⟩:kL d.length),rfl,yc [_,_,_,_,_,_] _ aT⟩
        . have bE:z.1.1<d.length:=by omega
          have bS:fJ d z.1.1<es.length:=bz _ (Bb bE)
          refine gF B 5 ?_
          refine kq mixed [([0,1,2,3],[0]),([4,5],[0])] [6,7] B (fun aU ad=>jx ?_)
          refine fK ad 3 ?_
          refine jw (vl:=(Zf f)) rfl rfl eN (Lf f n q aU (kU ad (i:=6) rfl) hn) ?_
          rintro _ aV ⟨rfl,ht⟩
          have ay:St _ (iw l { rc with state:=.busy } :: blk A 52 [z.1.2] :: fL i6.cells z.1.2 62 4 (iG es n d z.1.1) :: blk p 28 [ev] :: blk t 200 (Zf f) :: blk y 37 [g] :: (Tl.R f n q) :: fL Ge.cells ev 110 3 es :: fL fU g 3 1 d :: F) aV:=l7 (R' := (Tl.R f n q)) 6 ad rfl ht rfl
          refine fP ay 1 ?_
          refine jZ (jx ?_)
          refine iU (pvs:=[(0,(Za ((fJ es (fJ d j)).w))),(1,(xJ ((gG n q.s.lb).a) ((gG n q.s.lb).c:Int) ((gG n q.s.lb).s:Int)))]) (v:=.agg (xN ((fJ es (fJ d j)).w) ((gG n q.s.lb).a) ((gG n q.s.lb).c:Int) ((gG n q.s.lb).s:Int))) rfl rfl (jj [(0,(Ze ((fJ es (fJ d j)).w))),(1,(Ar ((gG n q.s.lb).a) ((gG n q.s.lb).c:Int) ((gG n q.s.lb).s:Int)))] w5 QY rfl ⟨rfl,rfl,rfl,rfl,trivial⟩ rfl) (jW (vs:=(M7 ((fJ es (fJ d j)).w) ((gG n q.s.lb).a) ((gG n q.s.lb).c:Int) ((gG n q.s.lb).s:Int))) (cs:=(tc ((fJ es (fJ d j)).w) ((gG n q.s.lb).a) ((gG n q.s.lb).c:Int) ((gG n q.s.lb).s:Int))) rfl rfl xg w5 rfl (by simp[Value.cells]) rfl rfl rfl ay ?_)
          intro ae aW bp bq O
          have O:St _ (row (Z4 ae) 62 4 1 ((tc ((fJ es (fJ d j)).w) ((gG n q.s.lb).a) ((gG n q.s.lb).c:Int) ((gG n q.s.lb).s:Int))) :: iw l { rc with state:=.busy } :: blk A 52 [z.1.2] :: fL i6.cells z.1.2 62 4 (iG es n d z.1.1) :: blk p 28 [ev] :: blk t 200 (Zf f) :: blk y 37 [g] :: (Tl.R f n q) :: fL Ge.cells ev 110 3 es :: fL fU g 3 1 d :: F) aW:=O
          refine fP O 1 ?_
          refine jZ (kE ?_)
          refine lR (cf:=i6.cells) (ys:=(iG es n d z.1.1)) (zs:=[(⟨(fJ es (fJ d j)).w,(gG n q.s.lb).a,((gG n q.s.lb).c),((gG n q.s.lb).s)⟩:i6)]) (LL:=fun H=>(row (Z4 ae) 62 4 1 ((tc ((fJ es (fJ d j)).w) ((gG n q.s.lb).a) ((gG n q.s.lb).c:Int) ((gG n q.s.lb).s:Int))) :: iw l { rc with state:=.busy } :: blk A 52 [z.1.2] :: fL i6.cells H 62 4 ((iG es n d z.1.1)++[(⟨(fJ es (fJ d j)).w,(gG n q.s.lb).a,((gG n q.s.lb).c),((gG n q.s.lb).s)⟩:i6)]) :: blk p 28 [ev] :: blk t 200 (Zf f) :: blk y 37 [g] :: (Tl.R f n q) :: fL Ge.cells ev 110 3 es :: fL fU g 3 1 d :: F)) 3 rfl rfl rfl xg w5 rfl d_ O rfl (lF O (i:=0) rfl) (fun x hx=>z6.1 (show List.all _ _=true from rfl) x hx) (by simp only[zh,zk,maxLen];omega) (by simp only[zh,zk,maxLen];omega) f_ ?_
          intro H aX af br
          have af:St _ (row (Z4 ae) 62 4 1 ((tc ((fJ es (fJ d j)).w) ((gG n q.s.lb).a) ((gG n q.s.lb).c:Int) ((gG n q.s.lb).s:Int))) :: iw l { rc with state:=.busy } :: blk A 52 [z.1.2] :: fL i6.cells H 62 4 ((iG es n d z.1.1)++[(⟨(fJ es (fJ d j)).w,(gG n q.s.lb).a,((gG n q.s.lb).c),((gG n q.s.lb).s)⟩:i6)]) :: blk p 28 [ev] :: blk t 200 (Zf f) :: blk y 37 [g] :: (Tl.R f n q) :: fL Ge.cells ev 110 3 es :: fL fU g 3 1 d :: F) aX:=af
          have ag:=St.sub (L' := (iw l { rc with state:=.busy } :: blk A 52 [z.1.2] :: fL i6.cells H 62 4 ((iG es n d z.1.1)++[(⟨(fJ es (fJ d j)).w,(gG n q.s.lb).a,((gG n q.s.lb).c),((gG n q.s.lb).s)⟩:i6)]) :: blk p 28 [ev] :: blk t 200 (Zf f) :: blk y 37 [g] :: (Tl.R f n q) :: fL Ge.cells ev 110 3 es :: fL fU g 3 1 d :: F)) af (List.Sublist.cons _ (List.Sublist.refl _))
          refine jt 1 ag (fun bt az=>?_) (hvs:=(cells_one (yv ag (i:=2) rfl))) (h1:=(gX (yv ag (i:=2) rfl) jV))
          refine fP az 2 ?_
          refine u9 0 az rfl bv bA rfl ?_
          intro aA ah
          have ah:St _ (iw l rc :: blk A 52 [H] :: fL i6.cells H 62 4 ((iG es n d z.1.1)++[(⟨(fJ es (fJ d j)).w,(gG n q.s.lb).a,((gG n q.s.lb).c),((gG n q.s.lb).s)⟩:i6)]) :: blk p 28 [ev] :: blk t 200 (Zf f) :: blk y 37 [g] :: (Tl.R f n q) :: fL Ge.cells ev 110 3 es :: fL fU g 3 1 d :: F) aA:=ah
          have bB:j+1=d.length\/(fJ es (fJ d (j+1))).w≠(fJ es (fJ d j)).w:=by rw[<-hj];first|exact .inl o_|exact .inr o_
          have aY:St _ (iw l rc :: blk A 52 [H] :: fL i6.cells H 62 4 (iG es n d (z.1.1+1)) :: blk p 28 [ev] :: blk t 200 (Zf f) :: blk y 37 [g] :: (Tl.R f n q) :: fL Ge.cells ev 110 3 es :: fL fU g 3 1 d :: F) aA:=yx 2 ah rfl (congrArg (fL i6.cells H 62 4) ((by rw[bx,hj,JX bB];first|done|rfl)))
          exact⟨_,rfl,rfl,(⟨(z.1.1+1,H),by show z.1.1+1<=_;omega⟩:kL d.length),rfl,yc [_,_,_,_,_,_] _ aY⟩
   have aZ:St _ [((fun(z:kL d.length)=>gh (EN (iw l rc) A z.1.2 (iG es n d z.1.1) p ev t f y g)) (⟨(0,Zi),mE _⟩:kL d.length)),(Tl.R f n I),fL Ge.cells ev 110 3 es,j6 dd (some []),fL fU g 3 1 d,blk C 37 [g],blk D 200 (Zf f),blk E 28 [ev]] wl:=mP bL (List.Perm.cons _ (List.Perm.cons _ (List.Perm.swap _ _ _)))
   have a0:=yf [0,1,2,4,5,6,7,3] aZ
   have bG:=yc [_,_,_,_,_,_,_] _ a0
   refine CR.mono (Sg (fun(z:kL d.length)=>gh (EN (iw l rc) A z.1.2 (iG es n d z.1.1) p ev t f y g)) (fun z:kL d.length=>z.1.1) (⟨(0,Zi),mE _⟩:kL d.length) l C D E f n I es d ev g wl bO rfl bK (kU bG (i:=0) rfl) hn hg bz o_) ?_
   rintro _ w9 ⟨z,T,-,bM,bR⟩
   have bw:=yy (yi bG bR)
   have bP:St _ [iw l rc,blk A 52 [z.1.2],fL i6.cells z.1.2 62 4 (iG es n d z.1.1),blk p 28 [ev],blk t 200 (Zf f),blk y 37 [g],(Tl.R f n T),fL Ge.cells ev 110 3 es,fL fU g 3 1 d,blk C 37 [g],blk D 200 (Zf f),blk E 28 [ev],j6 dd (some [])] w9:=bw
   have a1:=yf [0,12,1,2,3,4,5,6,7,8,9,10,11] bP
   exact⟨(z,T),bM,a1⟩
 . rintro⟨z,T⟩ dd bu hC ai
   have bT:=hC.1
   refine Bg tt none ai 5 ?_
   refine kM (v:=z.1.2) rfl rfl (fP ai 4 ?_)
   refine yC 0 ai rfl rfl ?_
   intro w8 bw
   have bw:St _ [j6 dd none,blk A 52 [z.1.2],fL i6.cells z.1.2 62 4 (iG es n d z.1.1),blk p 28 [ev],blk t 200 (Zf f),blk y 37 [g],(Tl.R f n T),fL Ge.cells ev 110 3 es,fL fU g 3 1 d,blk C 37 [g],blk D 200 (Zf f),blk E 28 [ev]] w8:=bw
   have a2:=yf [7,2] bw
   have a3:St _ [fL Ge.cells ev 110 3 es,fL i6.cells z.1.2 62 4 (iG es n d (d.length+1))] w8:=yx 1 a2 rfl (congrArg (fL i6.cells z.1.2 62 4) (show _=(iG es n d (d.length+1)) by rw[bT]))
   exact⟨_,results_tmp2 results48 _ _ _,_,rfl,by rw[qB,qB];exact⟨z.1.2,d,rfl,bJ,ym (R' := (gh [fL Ge.cells ev 110 3 es,fL i6.cells z.1.2 62 4 (iG es n d (d.length+1))])) (yc [_,_] _ a3) zd⟩⟩
end Go.Proofs.YtedjjkcihkmjgaaGreatDoor
