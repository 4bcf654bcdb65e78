/- Walks through code, under what is said of arguments. -/
import Derived.Test.YtedjjkcihkmjgaaGreatDoorVh
import Derived.Shelf.Spec.BitsCarry
set_option linter.unusedVariables false
set_option linter.unusedSimpArgs false
set_option maxRecDepth 100000
set_option maxHeartbeats 4000000
namespace Go.Proofs.YtedjjkcihkmjgaaGreatDoor
open Go Go.Sx Go.Proofs.Tryz
open Go.Shelf Go.Lib Go.Sort Go.RowKit in
def Tryz.VU:Go.Shelf.Ren:=⟨fun|25=>315|n=>n,fun|22=>39|n=>n,fun|n=>n⟩
open Go.Shelf Go.Lib Go.Sort Go.RowKit in
theorem Tryz.VT:Go.Proofs.Lays7.n25 Proofs.Tryz.prog Tryz.VU where
 mixed:=by kernel_rfl
 f25:=Proofs.Tryz.func315.trans (congrArg some<|by kernel_rfl)
 t22:=Proofs.Tryz.underlying39
 a22:=Proofs.Tryz.isAgg39
 z22:=Proofs.Tryz.sizeOf39
 v22:=Proofs.Tryz.zeroValue39
 i22:=by kernel_rfl
theorem OP(x y:Nat)(h:x+y<18446744073709551616)(w:World):(callFunc 315 #[.int .u64 (x:Int),.int .u64 (y:Int),.int .u64 0]).run ya w = .ok (.value (.tuple #[.int .u64 ((x+y:Nat):Int),.int .u64 0])) w:=by
 have a:=Go.Proofs.Any7.bits_Add64 Tryz.VT x y 0 d_ w
 rw[sD,Nat.mod_eq_of_lt h,Nat.div_eq_of_lt h]at a
 exact a
variable{k x s:Nat}{o:List Nat}{es:List Ge}{w':World}{A:fJ}(tb n:Nat)(dv v:Value)(w:World)
theorem andM(h:x<4294967296):tY .and .u64 (x:Int) 4294967295=some (x:Int):=by
 have a:=bits_and_u64_nat x 4294967295 o_ o_
 rw[show x &&& 4294967295=x%4294967296 from Nat.and_two_pow_sub_one_eq_mod x 32,Nat.mod_eq_of_lt h]at a
 exact congrArg some a
theorem Mk(h:x<4294967296):(x:Int).fdiv (2 ^ (min (Int.toNat 32) IntKind.u64.bits))=0:=by
 show (x:Int).fdiv 4294967296=0
 rw[Int.fdiv_eq_ediv_of_nonneg _ o_]
 omega
theorem mulM{y:Nat}(h:x*y<18446744073709551616):IntKind.u64.wrap ((x:Int)*(y:Int))=((x*y:Nat):Int):=by
 rw[<-Int.natCast_mul]
 exact Ej o_
theorem Se(x y:Nat)(w:World)(d:x<65536)(f:y<65536) :
 CK ya 314 (vA x y) w (.tuple #[.int .u64 0,.int .u64 ((x*y:Nat):Int)]):=by
 have g:x*y<65536*65536:=Nat.mul_lt_mul'' d f
 refine iE func314 9 fun c=>?_
 refine bi (a:=(x:Int)) (b:=4294967295) (e:=(x:Int)) rfl rfl rfl (andM o_) (cH c 6 ?_)
 refine shr (a:=(x:Int)) (b:=32) (e:=0) rfl rfl rfl d_ (Mk o_) (cH c 6 ?_)
 refine bi (a:=(y:Int)) (b:=4294967295) (e:=(y:Int)) rfl rfl rfl (andM o_) (cH c 6 ?_)
 refine shr (a:=(y:Int)) (b:=32) (e:=0) rfl rfl rfl d_ (Mk o_) (cH c 7 ?_)
 refine gL (e:=((x*y:Nat):Int)) rfl (mulM o_) (cH c 7 ?_)
 refine gL (e:=0) rfl (congrArg _ (Int.zero_mul _)) (cH c 1 ?_)
 refine shr (a:=((x*y:Nat):Int)) (b:=32) (e:=0) rfl rfl rfl d_ (Mk o_) (cH c 7 ?_)
 refine bi (a:=0) (b:=4294967295) (e:=0) rfl rfl rfl rfl (cH c 6 ?_)
 refine shr (a:=0) (b:=32) (e:=0) rfl rfl rfl d_ rfl (cH c 8 ?_)
 refine gL (e:=0) rfl (congrArg _ (Int.mul_zero _)) (cH c 8 ?_)
 refine gL (e:=0) rfl (congrArg _ (Int.zero_mul _)) (cH c 3 ?_)
 refine shr (a:=0) (b:=32) (e:=0) rfl rfl rfl d_ rfl (cH c 8 ?_)
 refine gL (e:=((x*y:Nat):Int)) rfl (mulM o_) (fK c 4 ?_)
 refine kC (v:=Z6) (v' := (Zo ((x*y:Nat):Int))) results314 rfl rfl ?_
 exact⟨rfl,c.gf s_⟩
theorem WM(nb f:Nat)(l r:BT)(x t S:Nat)(w:World)(n:Own (IJ nb l.ptr r.ptr x t ((t+l.sz+r.sz:Nat):Int) ((1+l.dc+r.dc:Nat):Int) ((max l.ht r.ht+1:Nat):Int) f ((S:Nat):Int)) w)(m:x<=100)(ht:t<=1000)(s:S<=1000000000000) :
 CR ya 313 (vE nb f) w (fun q w' => q = .bool true/\fP (IJ nb l.ptr r.ptr x t ((t+l.sz+r.sz:Nat):Int) ((1+l.dc+r.dc:Nat):Int) ((max l.ht r.ht+1:Nat):Int) f ((S:Nat):Int)) w w' (IJ nb l.ptr r.ptr x t ((t+l.sz+r.sz:Nat):Int) ((1+l.dc+r.dc:Nat):Int) ((max l.ht r.ht+1:Nat):Int) f ((S+x*x*t:Nat):Int))):=by
 have p:x*x<=100*100:=CP m m
 have u:x*x*t<=100*100*1000:=CP p ht
 refine ja func313 n 22 fun h=>?_
 refine gz rfl (kT o_) (cH h 9 ?_)
 refine ig h (Se x x w o_ o_) fun e d=>cH d 25 ?_
 refine ig d (Se (x*x) t e o_ o_) fun g a=>cH a 14 ?_
 refine ia (o:=0) (o' := 1) (i:=1) rfl rfl rfl y8 jm d_ rfl (cH a 2 ?_)
 refine PN (vl:=[(Zo ((S:Nat):Int)),(Zo (((x*x)*t:Nat):Int)),Z6]) (v:=(.tuple #[(Zo ((S+((x*x)*t):Nat):Int)),Z6])) rfl rfl (OP S ((x*x)*t) o_ g) (cH a 3 ?_)
 refine ia (o:=0) (o' := 1) (i:=1) rfl rfl rfl y8 jm d_ rfl (gh a 6 fun j c=>?_)
 refine ia (o:=0) (o' := 0) (i:=0) rfl rfl rfl y8 jm d_ rfl (cH c 3 ?_)
 refine PN (vl:=[Z6,Z6,Z6]) (v:=(.tuple #[Z6,Z6])) rfl rfl (OP 0 0 o_ j) (cH c 3 ?_)
 refine ia (o:=0) (o' := 0) (i:=0) rfl rfl rfl y8 jm d_ rfl (gh c 5 fun k b=>?_)
 refine ia (o:=0) (o' := 0) (i:=0) rfl rfl rfl y8 jm d_ rfl (cH b 3 ?_)
 refine ia (o:=0) (o' := 1) (i:=1) rfl rfl rfl y8 jm d_ rfl (cH b 1 ?_)
 refine gz rfl (vH o_) (fK b 5 ?_)
 refine gT (v:=Zi) results313 rfl ?_
 exact⟨rfl,yk b⟩
theorem ahF{a b:Nat}(h:s+10000000*(1+a+b)<=1000000000000):s+10000000*a<=1000000000000:=by omega
theorem ahG{a b l:Nat}(h:s+10000000*(1+a+b)<=1000000000000)(c:l<=10000000*a):s+l<=1000000000000:=by omega
theorem ahH{a b l q:Nat}(h:s+10000000*(1+a+b)<=1000000000000)(c:l<=10000000*a)(d:q<=100*100*1000):s+l+q+10000000*b<=1000000000000:=by omega
theorem Pw{L:List (Int×Nat)}(h:∀ p∈L,0<=p.1/\p.1<=100/\p.2<=1000):mV L<=10000000*L.length:=by
 induction L with
 | nil=>exact zh _
 | cons p L d =>
  have e:=d fun q c=>h q (zx _ c)
  have a:=h p za
  have b:p.1.toNat*p.1.toNat<=100*100:=CP o_ o_
  have f:p.1.toNat*p.1.toNat*p.2<=100*100*1000:=CP b a.2.2
  rw[RJ,zb]
  omega
theorem W4(t:BT)(m tb:Nat)(w:World)(V:Own (sJ (gw 422 t) m ((tb:Nat):Int)) w)(hb:∀ p∈t.kv,0<=p.1/\p.1<=100/\p.2<=1000)(F:tb+10000000*t.dc<=1000000000000)(U:∀ (u:BT) (B:Nat) (P:World),u.dc<t.dc->Own (sJ (gw 422 u) m ((B:Nat):Int)) P->(∀ p∈u.kv,0<=p.1/\p.1<=100/\p.2<=1000)->B+10000000*u.dc<=1000000000000->CR ya 312 (E5 u.ptr m) P (fun r w' => r = .bool true/\fP (sJ (gw 422 u) m ((B:Nat):Int)) P w' (sJ (gw 422 u) m ((B+mV u.kv:Nat):Int)))) :
 CR ya 312 (E5 t.ptr m) w (fun r w' => r = .bool true/\fP (sJ (gw 422 t) m ((tb:Nat):Int)) w w' (sJ (gw 422 t) m ((tb+mV t.kv:Nat):Int))):=by
 refine ja func312 V 7 fun N=>?_
 refine mv (v:=t.ptr) rfl rfl ?_
 obtain⟨y,k⟩:∃ q,t=q:=⟨_,rfl⟩
 rcases y with _|⟨g,e,l,d,f⟩
 . skip
   subst k
   refine mG (a:=none) (c:=true) rfl rfl rfl nG rfl (fK N 27 ?_)
   refine gT (v:=Zi) results312 rfl ?_
   exact⟨rfl,yk N⟩
 . skip
   subst k
   have h:=qo N
   have H:∀ p∈e.kv++(l,d) :: f.kv,0<=p.1/\p.1<=100/\p.2<=1000:=hb
   have R:=fun p hp=>H p (sj _ hp)
   have W:=fun p hp=>H p (yC _ (zx _ hp))
   have L:=H (l,d) s_
   obtain⟨b,rfl⟩:=Int.eq_ofNat_of_zero_le L.1
   have O:b<=100:=Int.ofNat_le.1 L.2.1
   have T:d<=1000:=L.2.2
   simp only[BT.dc]at F
   have M:=Pw R
   rw[<-BT.zB]at M
   have X:b*b*d<=100*100*1000:=CP (CP O O) T
   refine mG (a:=some ⟨g,0,none⟩) (c:=false) rfl rfl rfl nG rfl (cH h 4 ?_)
   refine ia (o:=0) (o' := 0) (i:=0) rfl rfl rfl yo jW d_ rfl ?_
   have z:=ye [1,3,0,2] h
   refine cH h 2 ?_
   refine gy (U e tb w (by simp only[BT.dc];omega) · R (ahF F)) z fun A n=>?_
   have C:=ye [2,1,0,3] n
   have s:=yd [_,_] _ C
   refine cH n 3 ?_
   refine lR (fi:=[]) (ca:=(Ze m)) rfl rfl rfl eN (WM g m e f b d (tb+mV e.kv) A (yg s 0 rfl) O T (ahG F M)) ?_
   rintro _ D ⟨rfl,E⟩
   have j:=(yw s E)
   refine cH j 5 ?_
   refine ia (o:=0) (o' := 1) (i:=1) rfl rfl rfl yo jW d_ rfl ?_
   have G:=ye [3,1,0,2] j
   refine cH j 2 ?_
   refine gy (U f ((tb+mV e.kv)+b*b*d) D (by simp only[BT.dc];omega) · W (ahH F M X)) G fun K x=>?_
   refine gm x 6 Zi ?_
   have I:=ye [2,3,0,1] x
   have J:=tD I
   have Y:tb+mV e.kv+b*b*d+mV f.kv=tb+mV (BT.nd g e (b:Int) d f).kv:=by show _=tb+mV (e.kv++((b:Int),d) :: f.kv);rw[abL,RJ,<-lW,<-lW];rfl
   have Q:=J
   rw[Y]at Q
   exact⟨rfl,yk Q⟩
theorem W3(t:BT)(a tb:Nat)(w:World)(b:Own (sJ (gw 422 t) a ((tb:Nat):Int)) w)(hb:∀ p∈t.kv,0<=p.1/\p.1<=100/\p.2<=1000)(c:tb+10000000*t.dc<=1000000000000):CR ya 312 (E5 t.ptr a) w (fun r w' => r = .bool true/\fP (sJ (gw 422 t) a ((tb:Nat):Int)) w w' (sJ (gw 422 t) a ((tb+mV t.kv:Nat):Int))):=by
 have key:∀ (n:Nat) (t:BT) (tb:Nat) (w:World),t.dc<n->Own (sJ (gw 422 t) a ((tb:Nat):Int)) w->(∀ p∈t.kv,0<=p.1/\p.1<=100/\p.2<=1000)->tb+10000000*t.dc<=1000000000000->CR ya 312 (E5 t.ptr a) w (fun r w' => r = .bool true/\fP (sJ (gw 422 t) a ((tb:Nat):Int)) w w' (sJ (gw 422 t) a ((tb+mV t.kv:Nat):Int))):=by
  intro n
  induction n with
  | zero=>exact fun _ _ _ h=>absurd h (wF _)
  | succ n e=>exact fun t tb w j b hb c=>W4 t a tb w b hb c fun f d g i=>e f d g o_
 exact key _ t tb w (AX _) b hb c
theorem Ww(bb:Nat)(t:BT)(w:World)(f:Own (Zr bb t.ptr (gw 422 t)) w)(hb:∀ p∈t.kv,0<=p.1/\p.1<=100/\p.2<=1000)(hd:t.dc<=1000) :
 CQ ya 250 (Zg bb) w (.tuple (uL (mV t.kv:Int))) (Zr bb t.ptr (gw 422 t)):=by
 have g:=Pw hb
 rw[<-BT.zB]at g
 refine gj func250 ?_
 have b:=Own.of f
 refine fM b 10 ?_
 refine gy (FK bb t w ·) b fun m c=>cH c 8 ?_
 refine ir c (fun d h n q e=>?_)
 refine cH e 8 ?_
 refine kW (vf:=[]) (vc:=(Ze d)) rfl rfl rfl ?_
 have j:=ye [2,0,1] e
 refine gy (W3 t d 0 h · hb o_) j fun s a=>cH a 15 ?_
 refine ia (o:=0) (o' := 1) (i:=1) rfl rfl rfl y8 jm d_ rfl (fK a 7 ?_)
 refine kC (v:=(Za ((0+mV t.kv:Nat):Int))) (v' := Zc) results250 rfl rfl ?_
 have l:=ye [2,0] a
 exact⟨by rw[uA],yk l⟩
theorem Qa(db n:Nat)(s:Ds)(w:World)(u:Own (Ds.R db n s) w)(h:n<=1000000)(a:Nat)(B:a<n) :
 CR ya 245 (Zk db a) w (fun r w' => ∃ (x:Nat) (s2:Ds),r = .tuple (uL x)/\(x=cE s.lb a/\s2.lb=s.lb/\s2.cnt=s.cnt)/\fP (Ds.R db n s) w w' (Ds.R db n s2)):=by
 refine gj func245 ?_
 obtain⟨⟨d,hd⟩,y⟩:=u.fact
 have F:=hd.ul
 have C:=hd.ll
 have E:=hd.sl
 have v:=Own.of u.un
 refine fM v 10 ?_
 refine gy (F4 db n s w · d hd h) v fun m g=>cH g 11 ?_
 refine gy (JV db n s m · d hd h a o_) g fun q i=>fZ i 7 ?_
 refine jS mixed [([0,1,2,3,4,5,6],[3])] [7,8,9,10] i (fun o j=>iY ?_)
 have k:=yd [_,_,_,_] _ j
 refine cH j 6 ?_
 refine cl (JX db n s o (yg k 0 rfl) d hd h a o_) ?_
 rintro _ t ⟨b,l,rfl,c,ht⟩
 have e:=(yw k ht)
 have f:=c.1.ok
 have z:=c.1.an
 have D:=f.ll
 have A:cE s.le b=cE s.lb a:=(f.gJ b z c.2).trans c.1.la
 refine fK e 1 ?_
 refine jF (jX ?_)
 refine jk e 7 (Za (((cE s.le b):Nat):Int)) Zc ?_
 exact⟨cE s.le b,(s.wu l),rfl,⟨A,rfl,rfl⟩,yj (yn (p:=Ds.ok n (s.wu l)) (yd [_,_,_,_] _ e) ⟨⟨d,f⟩,y⟩) za⟩
theorem X4(db n:Nat)(s:Ds)(w:World)(a:Own (Ds.R db n s) w)(g:n<=1000000) :
 CQ ya 249 (Zg db) w (.int .i64 s.cnt) (Ds.R db n s):=by
 refine gj func249 ?_
 obtain⟨⟨d,hd⟩,f⟩:=a.fact
 have j:=hd.ul
 have h:=hd.ll
 have i:=hd.sl
 have e:=Own.of a.un
 refine fM e 9 ?_
 refine gy (F4 db n s w · d hd g) e fun c b=>?_
 refine gm b 16 (Za s.cnt) ?_
 exact⟨rfl,yj (yn (p:=Ds.ok n s) (yd [_,_,_,_] _ b) ⟨⟨d,hd⟩,f⟩) za⟩
structure Tl where
 db:Nat
 wv:Value
 bb:Nat
 s:Ds
 W:List Int
 t:BT
def Tl.ok(n:Nat)(q:Tl):Prop:=oq n q.s.lb q.W q.t.kv/\q.s.cnt=((rts q.s.lb n).length:Int)
def Tl.R(tb n:Nat)(q:Tl):fJ:=lC (q.ok n) (fN [blk tb 359 [(Zb tb),(Zb q.db),q.wv,(Zb q.bb)],(Ds.R q.db n q.s),cL fQ q.wv 2 1 q.W,blk q.bb 412 [(Zb q.bb),q.t.ptr],(gw 422 q.t)])
abbrev N8(a:Nat) b c d e f g h (i j k:Nat):=([Tl.R a b c,d,cL Ge.cells e 110 3 f,cL fL g 3 1 h,blk i 37 [g],blk j 200 (Ze a),blk k 28 [e]]:List fJ)
abbrev Fl a (b:Nat) c d e f g h (i j k:Nat):=(fN [a,Tl.R b c d,cL Ge.cells e 110 3 f,cL fL g 3 1 h,blk i 37 [g],blk j 200 (Ze b),blk k 28 [e]]:fJ)
variable(q:Tl)
theorem HE(w:World)(f:Own (Tl.R tb n q) w)(j:n<=100) :
 CQ ya 244 (Zg tb) w (.bool true) (Tl.R tb n q):=by
 refine gj func244 ?_
 have e:=f.fact
 have d:=e.1
 have h:=e.2
 have b:=Own.of f.un
 have g:=d.sz
 rw[<-BT.lG]at g
 have i:=BT.q8 d.bo
 have k:=d.wl
 refine fM b 8 ?_
 refine lF (a:=some ⟨tb,0,none⟩) (c:=true) rfl rfl rfl underlying200 rfl (cH b 6 ?_)
 refine w6 (a:=⟨tb,0,none⟩) rfl rfl rfl underlying200 ML (fK b 5 ?_)
 refine gT (v:=Zi) results244 rfl ?_
 exact⟨rfl,yj (yn (p:=Tl.ok n q) (yd [_,_,_,_,_] _ b) e) za⟩
theorem agK(w:World)(o:Own (Tl.R tb n q) w)(u:n<=100) :
 CQ ya 176 (Zg tb) w (.int .i64 (gB n q.s.lb).a) (Tl.R tb n q):=by
 refine gj func176 ?_
 have m:=o.fact
 have l:=m.1
 have x:=m.2
 have r:=Own.of o.un
 have v:=l.sz
 rw[<-BT.lG]at v
 have y:=BT.q8 l.bo
 have z:=l.wl
 have b:St _ [(Tl.R tb n q)] w:=yn (p:=Tl.ok n q) (yd [_,_,_,_,_] _ r) m
 refine fM r 9 ?_
 refine cl (HE tb n q w (yg b 0 rfl) u) ?_
 rintro _ f ⟨rfl,ht⟩
 have c:=yp (j7 (yt 0 b ht))
 have g:=ye [3,4,0,1,2] c
 have d:=yd [_,_] _ g
 refine cH c 12 ?_
 refine cl (Wu q.bb q.t f (yg d 0 rfl) l.bo o_) ?_
 rintro _ j ⟨k,rfl,h⟩
 have e:=(yw d h)
 refine gm e 14 (Za q.t.mx) ?_
 have i:=ye [2,3,4,0,1] e
 exact⟨by rw[BT.Sg l.bo,l.mx];rfl,yj (yn (p:=Tl.ok n q) (yd [_,_,_,_,_] _ i) m) za⟩
theorem agL(w:World)(j:Own (Tl.R tb n q) w)(l:n<=100) :
 CQ ya 178 (Zg tb) w (.int .i64 ((gB n q.s.lb).s:Int)) (Tl.R tb n q):=by
 refine gj func178 ?_
 have g:=j.fact
 have c:=g.1
 have o:=g.2
 have k:=Own.of j.un
 have m:=c.sz
 rw[<-BT.lG]at m
 have r:=BT.q8 c.bo
 have u:=c.wl
 have a:St _ [(Tl.R tb n q)] w:=yn (p:=Tl.ok n q) (yd [_,_,_,_,_] _ k) g
 refine fM k 9 ?_
 refine cl (HE tb n q w (yg a 0 rfl) l) ?_
 rintro _ e ⟨rfl,ht⟩
 have b:=yp (j7 (yt 0 a ht))
 have f:=ye [3,4,0,1,2] b
 refine cH b 12 ?_
 refine gy (Ww q.bb q.t e · (fun p hp=>by have:=c.el p hp;omega) o_) f fun i d=>?_
 refine gm d 14 (Za (mV q.t.kv:Int)) ?_
 have h:=ye [2,3,4,0,1] d
 exact⟨by rw[c.sq];first|done|rfl,yj (yn (p:=Tl.ok n q) (yd [_,_,_,_,_] _ h) g) za⟩
theorem agG(w:World)(i:Own (Tl.R tb n q) w)(l:n<=100) :
 CQ ya 177 (Zg tb) w (.int .i64 ((gB n q.s.lb).c:Int)) (Tl.R tb n q):=by
 refine gj func177 ?_
 have g:=i.fact
 have h:=g.1
 have k:=g.2
 have j:=Own.of i.un
 have m:=h.sz
 rw[<-BT.lG]at m
 have o:=BT.q8 h.bo
 have r:=h.wl
 have b:St _ [(Tl.R tb n q)] w:=yn (p:=Tl.ok n q) (yd [_,_,_,_,_] _ j) g
 refine fM j 9 ?_
 refine cl (HE tb n q w (yg b 0 rfl) l) ?_
 rintro _ e ⟨rfl,ht⟩
 have a:=yp (j7 (yt 0 b ht))
 refine cH a 12 ?_
 refine gF 1 a (X4 q.db n q.s e · o_) fun f d=>?_
 refine gm d 4 (Za q.s.cnt) ?_
 exact⟨by rw[k];first|done|rfl,yj (yn (p:=Tl.ok n q) (yd [_,_,_,_,_] _ d) g) za⟩
theorem agM(w:World)(hO:Own (Tl.R tb n q) w)(hn:n<=100)(a b:Nat)(ha:a<n)(hb:b<n) :
 CR ya 175 (Zv tb a b) w (fun r w' => ∃ (o:Bool) (q2:Tl),r = .tuple (Bl o)/\q2.s.lb=jg q.s.lb (cE q.s.lb a) (cE q.s.lb b)/\fP (Tl.R tb n q) w w' (Tl.R tb n q2)):=by
 refine gj func175 ?_
 have bf:=hO.fact
 have v:=bf.1
 have a9:=bf.2
 have bi:=Own.of hO.un
 have bt:=v.sz
 rw[<-BT.lG]at bt
 have bw:=BT.q8 v.bo
 have bj:=v.wl
 have G:St _ [(Tl.R tb n q)] w:=yn (p:=Tl.ok n q) (yd [_,_,_,_,_] _ bi) bf
 refine fM bi 10 ?_
 refine cl (HE tb n q w (yg G 0 rfl) hn) ?_
 rintro _ Z ⟨rfl,ht⟩
 have x:=yp (j7 (yt 0 G ht))
 refine cH x 13 ?_
 refine cl (Qa q.db n q.s Z (yg x 1 rfl) o_ a o_) ?_
 rintro _ aa ⟨c,ab,rfl,H,ht⟩
 have y:=yt 1 x ht
 have a7:=H.1
 have bg:=H.2
 refine cH y 14 ?_
 refine cl (Qa q.db n ab aa (yg y 1 rfl) o_ b o_) ?_
 rintro _ I ⟨d,g,rfl,J,ht⟩
 have e:=yt 1 y ht
 have a6:=J.1
 rw[bg.1]at a6
 have a2:=J.2
 rw[bg.1,bg.2]at a2
 have bn:=v.ok.low a o_
 have ba:=v.ok.oB a o_
 rw[<-a7]at bn ba
 have bp:=v.ok.low b o_
 have bc:=v.ok.oB b o_
 rw[<-a6]at bp bc
 refine cH e 26 ?_
 by_cases aK:(c:Int)=(d:Int)
 . refine jk e 12 Zp Zc ?_
   have a5:Tl.ok n (⟨q.db,q.wv,q.bb,g,q.W,q.t⟩:Tl):=⟨by show oq n g.lb _ _;rw[a2.1];exact v,by show g.cnt=((rts g.lb n).length:Int);rw[a2.1,a2.2];exact a9⟩
   exact⟨false,(⟨q.db,q.wv,q.bb,g,q.W,q.t⟩:Tl),rfl,by show g.lb=_;rw[a2.1,<-a7,<-a6,show c=d by omega,Le],yj (yn (p:=Tl.ok n (⟨q.db,q.wv,q.bb,g,q.W,q.t⟩:Tl)) (yd [_,_,_,_,_] _ e) a5) za⟩
 . refine cH e 11 ?_
   by_cases aL:(c:Int)>(d:Int)
   . have a0:c<n:=by omega
     have a1:d<c:=by omega
     have F:cE q.s.lb d=d:=bc
     have T:cE q.s.lb c=c:=ba
     have bm:=Tz v.ok (show d<n by omega) a0 F T (AY a1)
     have bk:=v.wt d o_ F
     have bl:=v.wt c a0 T
     have bu:q.s.lb.count d<=n:=v.ok.len▸AR
     have bv:q.s.lb.count c<=n:=v.ok.len▸AR
     have bq:=LY (lab:=q.s.lb) (i:=n)
     refine cH e 19 ?_
     refine cl (JZ q.db n g I (yg e 1 rfl) o_ d c o_ a0) ?_
     rintro _ aM ⟨h,rfl,K,ht⟩
     have ac:=yt 1 e ht
     have aY:=K.1
     have aZ:=K.2
     rw[a2.1]at aY aZ
     rw[F,T]at aY aZ
     rw[if_neg (AY a1),a2.2]at aZ
     rw[a9,kX o_]at aZ
     have bd:=v.uS (show d<n by omega) F
     have a3:=v.bo
     refine gh ac 15 fun ad ae=>?_
     have af:=ye [3,4,0,1,2] ae
     have L:=yd [_,_] _ af
     refine cl (FH q.bb q.t ad (yg L 0 rfl) (cE q.W d) a3 o_ (BT.BD a3 bd)) ?_
     rintro _ aN ⟨k,rfl,m,ag⟩
     have ah:=(yw L ag)
     have a4:jq k.kv:=m▸rj a3
     have be:cE q.W c∈lex k.kv:=m▸v.sub a0 F T a1
     have br:k.sz<=q.t.sz+1:=by rw[BT.lG,BT.lG,m];exact zS
     refine gh ah 15 fun ai aj=>?_
     have M:=yd [_,_] _ aj
     refine cl (FH q.bb k ai (yg M 0 rfl) (cE q.W c) a4 o_ (BT.BD a4 be)) ?_
     rintro _ aO ⟨z,rfl,A,ak⟩
     have al:=(yw M ak)
     have a8:jq z.kv:=A▸rj a4
     have bs:z.sz<=k.sz+1:=by rw[BT.lG,BT.lG,A];exact zS
     refine gh al 20 fun aP am=>?_
     refine iz (f:=(fun _=>(cE q.W d)+(cE q.W c))) 4 am (fun aQ an=>?_)
     refine gh an 15 fun ao ap=>?_
     have N:=yd [_,_] _ ap
     refine cl (Jo q.bb z ao (yg N 0 rfl) (cE (cO q.W d (fun _=>(cE q.W d)+(cE q.W c))) d) a8 o_) ?_
     rintro _ aR ⟨B,rfl,O,aq⟩
     have P:=(yw N aq)
     have bh:(cE (cO q.W d (fun _=>(cE q.W d)+(cE q.W c))) d)=cE q.W d+cE q.W c:=jQ (by rw[bj];omega)
     rw[bh]at O
     refine jk P 9 Zi Zc ?_
     have ar:=ye [2,3,4,0,1] P
     have hj:=v.join a0 F T a1
     rw[<-m,<-A,<-O,<-aY]at hj
     have a5:Tl.ok n (⟨q.db,q.wv,q.bb,h,cO q.W d (fun _=>(cE q.W d)+(cE q.W c)),B⟩:Tl):=⟨hj,by show h.cnt=((rts h.lb n).length:Int);rw[aY,aZ];omega⟩
     exact⟨true,(⟨q.db,q.wv,q.bb,h,cO q.W d (fun _=>(cE q.W d)+(cE q.W c)),B⟩:Tl),rfl,by show h.lb=_;rw[aY,a7,a6,Ld],yj (yn (p:=Tl.ok n (⟨q.db,q.wv,q.bb,h,cO q.W d (fun _=>(cE q.W d)+(cE q.W c)),B⟩:Tl)) (yd [_,_,_,_,_] _ ar) a5) za⟩
   . have a0:d<n:=by omega
     have a1:c<d:=by omega
     have F:cE q.s.lb c=c:=ba
     have T:cE q.s.lb d=d:=bc
     have bm:=Tz v.ok (show c<n by omega) a0 F T (AY a1)
     have bk:=v.wt c o_ F
     have bl:=v.wt d a0 T
     have bu:q.s.lb.count c<=n:=v.ok.len▸AR
     have bv:q.s.lb.count d<=n:=v.ok.len▸AR
     have bq:=LY (lab:=q.s.lb) (i:=n)
     refine cH e 14 ?_
     refine cl (JZ q.db n g I (yg e 1 rfl) o_ c d o_ a0) ?_
     rintro _ aS ⟨j,rfl,Q,ht⟩
     have au:=yt 1 e ht
     have aY:=Q.1
     have aZ:=Q.2
     rw[a2.1]at aY aZ
     rw[F,T]at aY aZ
     rw[if_neg (AY a1),a2.2]at aZ
     rw[a9,kX o_]at aZ
     have bd:=v.uS (show c<n by omega) F
     have a3:=v.bo
     refine gh au 15 fun av aw=>?_
     have ax:=ye [3,4,0,1,2] aw
     have S:=yd [_,_] _ ax
     refine cl (FH q.bb q.t av (yg S 0 rfl) (cE q.W c) a3 o_ (BT.BD a3 bd)) ?_
     rintro _ aT ⟨l,rfl,u,ay⟩
     have az:=(yw S ay)
     have a4:jq l.kv:=u▸rj a3
     have be:cE q.W d∈lex l.kv:=u▸v.sub a0 F T a1
     have br:l.sz<=q.t.sz+1:=by rw[BT.lG,BT.lG,u];exact zS
     refine gh az 15 fun aA aB=>?_
     have U:=yd [_,_] _ aB
     refine cl (FH q.bb l aA (yg U 0 rfl) (cE q.W d) a4 o_ (BT.BD a4 be)) ?_
     rintro _ aU ⟨C,rfl,D,aC⟩
     have aD:=(yw U aC)
     have a8:jq C.kv:=D▸rj a4
     have bs:C.sz<=l.sz+1:=by rw[BT.lG,BT.lG,D];exact zS
     refine gh aD 20 fun aV aE=>?_
     refine iz (f:=(fun _=>(cE q.W c)+(cE q.W d))) 4 aE (fun aW aF=>?_)
     refine gh aF 15 fun aG aH=>?_
     have V:=yd [_,_] _ aH
     refine cl (Jo q.bb C aG (yg V 0 rfl) (cE (cO q.W c (fun _=>(cE q.W c)+(cE q.W d))) c) a8 o_) ?_
     rintro _ aX ⟨E,rfl,X,aI⟩
     have Y:=(yw V aI)
     have bh:(cE (cO q.W c (fun _=>(cE q.W c)+(cE q.W d))) c)=cE q.W c+cE q.W d:=jQ (by rw[bj];omega)
     rw[bh]at X
     refine jk Y 9 Zi Zc ?_
     have aJ:=ye [2,3,4,0,1] Y
     have hj:=v.join a0 F T a1
     rw[<-u,<-D,<-X,<-aY]at hj
     have a5:Tl.ok n (⟨q.db,q.wv,q.bb,j,cO q.W c (fun _=>(cE q.W c)+(cE q.W d)),E⟩:Tl):=⟨hj,by show j.cnt=((rts j.lb n).length:Int);rw[aY,aZ];omega⟩
     exact⟨true,(⟨q.db,q.wv,q.bb,j,cO q.W c (fun _=>(cE q.W c)+(cE q.W d)),E⟩:Tl),rfl,by show j.lb=_;rw[aY,a7,a6],yj (yn (p:=Tl.ok n (⟨q.db,q.wv,q.bb,j,cO q.W c (fun _=>(cE q.W c)+(cE q.W d)),E⟩:Tl)) (yd [_,_,_,_,_] _ aJ) a5) za⟩
theorem agI(i:Int)(w:World) :
 CK ya 168 (Z3 i) w (.int .i64 1):=by
 refine gj func168 ?_
 have a:=k9 w
 refine qP a 11 qY ?_
 exact⟨rfl,a.gf s_⟩
theorem rF.rts:(rts (List.range n) n).length=n:=by
 have a:Go.Sx.rts (List.range n) n=List.range n:=vq.2 fun i hi=>decide_eq_true (mY (lV.1 hi))
 rw[a,mD]
theorem agF(hn:n<=100) :
 CR ya 167 #[(Za n),(.func (.func 168) #[] #[])] w (fun r w' => ∃ (tb:Nat) (q:Tl),r = .tuple (Z1 tb)/\q.s.lb=List.range n/\fP (fN []) w w' (Tl.R tb n q)):=by
 refine iE func167 9 fun am=>?_
 refine cl (Qb n w o_) ?_
 rintro _ aa ⟨b,e,rfl,l,ht⟩
 have x:=(y9 am ht)
 refine fZ x 18 ?_
 refine xI mixed [0,1] [2,3] [] [4,5,6] x (fun ab y=>xY ?_)
 refine fK y 3 ?_
 refine nF trivial (xW [⟨2,21,[],[],Nat,fun d=>(Zf d n),fun d=>[blk d 2 ((List.replicate n 0).flatMap fQ)]⟩,⟨3,22,[],[],Nat,fun a=>(Zb a),fun a=>[(NJ a (gw 422 BT.nil))]⟩] y ⟨mT (fun Z wq hM _=>kA (cf:=fQ) (z0:=0) (m:=n) (c:=n) rfl rfl rfl yr ti2 rfl f_ d_ (zh _) o_ o_ hM (fun E _ _ _ h=>have hK:=h;nh ⟨E,rfl,hK,trivial⟩)),mT (fun Z wq hM _=>cl (Wv wq) (fun _ _ hz=>by obtain⟨G,rfl,ao⟩:=hz;exact have hK:=(y9 hM ao);nh ⟨G,rfl,hK,trivial⟩))⟩ ?_)
 rintro d a ac H
 refine iL (pvs:=[(1,(Zb b)),(2,(Zf d n)),(3,(Zb a))]) (v:=.agg #[Zq,(Zb b),(Zf d n),(Zb a)]) rfl rfl (i6 [(1,(Ze b)),(2,(p6 d n)),(3,(Ze a))] ML adF rfl oh rfl) (gN H (fun g I ad ae z=>?_))
 refine fK z 2 ?_
 have o:St _ [blk g 359 [(.pointer none),(.pointer (some ⟨b,0,none⟩)),(.slice (some ⟨d,0,none⟩) n n),(.pointer (some ⟨a,0,none⟩))],(fN [blk a 412 [(.pointer (some ⟨a,0,none⟩)),(.pointer none)],(gw 422 BT.nil)]),cL fQ (.slice (some ⟨d,0,none⟩) n n) 2 1 (List.replicate n 0),(Ds.R b n e)] I:=mR (cf:=fQ) z (i:=2) rfl f_ (zh _) (by simp only[maxLen];omega)
 generalize (Value.slice (some ⟨d,0,none⟩) n n)=j at o ⊢
 refine zX tt none o 3 ?_
 have J:=ye [1,0,2,3] o
 have K:=yp J
 refine r7 K 15 fun af L=>?_
 have M:=ye [2,4,3,0,1] L
 refine lp (α:=Nat×List Int×BT) (fun(k,W,t)=>[(0,(Za n)),(1,(.func (.func 168) #[] #[])),(4,Zq),(5,Zc),(8,(Zb g)),(29,(Za n)),(30,(Za k))]) (fun(k,W,t) w1=>St [(w,[])] [blk g 359 [(Zb g),(Zb b),j,(Zb a)],(Ds.R b n e),cL fQ j 2 1 W,blk a 412 [(Zb a),t.ptr],(gw 422 t)] w1/\rF n k W t.kv/\k<=n) (fun(k,W,t)=>n-k) (0,List.replicate n 0,BT.nil) oh (⟨M,rF.start,o_⟩) ?_
 rintro⟨k,W,t⟩ ag ah ⟨T,F,ar⟩
 have aq:=F.wl
 have an:=F.sz
 rw[<-BT.lG]at an
 refine fM T 2 ?_
 by_cases ai:(k:Int)<(n:Int)
 . refine fZ T 16 ?_
   refine jS mixed [([0,1,2,3,4,5,6,7],[3])] [8,9] T (fun N A=>iY ?_)
   refine cH A 7 ?_
   refine lR (fi:=[]) (ca:=[]) rfl rfl rfl eN (agI (k:Int) N) ?_
   rintro _ aj ⟨rfl,O⟩
   have u:=lI A O
   refine fK u 1 ?_
   refine jF (jX ?_)
   refine cH u 1 ?_
   refine iz (f:=(fun _=>1)) (cf:=fQ) 2 u (fun ak P=>?_)
   have ap:(cE (cO W k (fun _=>1)) k)=1:=jQ (by rw[aq];omega)
   refine gh P 15 fun Q S=>?_
   have U:=ye [3,4,0,1,2] S
   have B:=yd [_,_] _ U
   refine cl (Jo a t Q (yg B 0 rfl) (cE (cO W k (fun _=>1)) k) F.bo o_) ?_
   rintro _ al ⟨V,rfl,C,X⟩
   have D:=(yw B X)
   rw[ap]at C
   refine fK D 17 ?_
   have Y:=ye [2,3,4,0,1] D
   exact gM ((k+1),cO W k (fun _=>1),V) oh (⟨Y,by rw[C];exact F.next o_,o_⟩) o1
 . refine jk T 18 (Zb g) Zc ?_
   obtain rfl:k=n:=by omega
   have hq:Tl.ok k (⟨b,j,a,e,W,t⟩:Tl):=⟨by show oq k e.lb _ _;rw[l.1];exact F.fin,by show e.cnt=((rts e.lb k).length:Int);rw[l.1,l.2];exact congrArg _ (rF.rts k).symm⟩
   exact⟨g,(⟨b,j,a,e,W,t⟩:Tl),rfl,l.1,uu (yn (p:=Tl.ok k (⟨b,j,a,e,W,t⟩:Tl)) (yd [_,_,_,_,_] _ T) hq) s_⟩
theorem afi(i x:Int)(w:World) :
 CK ya 107 (Zx i x) w (.int .i64 i):=by
 refine gj func107 ?_
 have a:=k9 w
 refine qP a 12 (Za i) ?_
 exact⟨rfl,a.gf s_⟩
theorem afh(zs:List Nat)(w:World)(hv:gV 1 fL (fun _=>True) w v zs)(I:zs.length<=16384) :
 CR ya 106 #[v,(.func (.func 107) #[] #[])] w (fun r w' => ∃ pv,pv=r/\fP (fN []) w w' (Z9 pv (List.range zs.length))):=by
 refine iE func106 8 fun F=>?_
 refine jO (v:=v) rfl rfl yc hv (kA (cf:=fL) (z0:=0) (m:=zs.length) (c:=zs.length) rfl rfl rfl yc fU rfl f_ d_ (zh _) o_ o_ F ?_)
 intro d h t u j
 have b:St _ [cL fL (.slice (some ⟨d,0,none⟩) zs.length zs.length) 3 1 (List.replicate zs.length 0)] h:=mR (cf:=fL) j (i:=0) rfl f_ (zh _) (by simp only[maxLen];omega)
 generalize (Value.slice (some ⟨d,0,none⟩) zs.length zs.length)=a at b ⊢
 refine cH b 7 ?_
 refine jO (v:=v) rfl rfl yc hv ?_
 have l:=y0 0 b rfl (aeq.symm)
 refine fZ b 4 ?_
 refine lp (α:=Nat) (fun k=>[(1,(.func (.func 107) #[] #[])),(5,a),(11,v),(12,(Za zs.length)),(13,(Za k))]) (fun k w1=>St [(w,[])] [cL fL a 3 1 (vX zs.length k)] w1/\k<=zs.length) (fun k=>zs.length-k) 0 oh (⟨l,o_⟩) ?_
 rintro k x o ⟨C,H⟩
 have G:=aeo (n:=zs.length) (k:=k) o_
 refine fM C 2 ?_
 by_cases y:(k:Int)<(zs.length:Int)
 . obtain⟨p,z⟩:=oT (show k<zs.length by omega)
   refine cH C 24 ?_
   refine lR (fi:=[]) (ca:=[]) rfl rfl rfl eN (afi (k:Int) (p:Int) o) ?_
   rintro _ A ⟨rfl,q⟩
   have e:=lI C q
   refine cH e 1 ?_
   refine iz (f:=(fun _=>k)) 0 e (fun B g=>?_)
   refine fK g 7 ?_
   have s:=y0 0 g rfl (aep o_)
   exact gM (k+1) oh (⟨s,o_⟩) o1
 . refine gm C 17 a ?_
   have E:k=zs.length:=by omega
   have D:=C
   rw[E,aen]at D
   exact⟨a,rfl,me D⟩
theorem afj(q:n<=16384) :
 CR ya 54 (Z3 n) w (fun r w' => ∃ pv,pv=r/\fP (fN []) w w' (Z9 pv (List.range n))):=by
 refine iE func54 8 fun s=>?_
 refine kA (cf:=fL) (z0:=0) (m:=n) (c:=n) rfl rfl rfl yc fU rfl f_ d_ (zh _) o_ o_ s ?_
 intro b d k l g
 have a:St _ [cL fL (.slice (some ⟨b,0,none⟩) n n) 3 1 (List.replicate n 0)] d:=mR (cf:=fL) g (i:=0) rfl f_ (zh _) (by simp only[maxLen];omega)
 generalize (Value.slice (some ⟨b,0,none⟩) n n)=h at a ⊢
 refine cl (afh h (List.replicate n 0) d (Sl.any (yv a 0 rfl)) (by rw[oK];exact q)) ?_
 rintro _ o ⟨e,rfl,ht⟩
 have f:=(y9 a ht)
 refine gm f 4 e ?_
 have j:=ye [0] f
 have p:=j
 rw[oK]at p
 exact⟨e,rfl,me p⟩
theorem afg(ds:List Int)(w:World)(hd:gV 1 iB (fun _=>True) w dv ds)(F:∀ x∈ds,ij .u64 x)(G:n<=16384)(M:n<=ds.length+1) :
 CR ya 21 #[(Za n),dv] w (fun r w' => ∃ pv,r = .tuple (vD pv)/\fP (fN []) w w' (Z9 pv (zC n ds))):=by
 refine iE func21 10 fun A=>?_
 refine gz rfl (kT o_) (cH A 2 ?_)
 refine gz rfl (ow o_) (cH A 10 ?_)
 refine jO (v:=dv) rfl rfl yx hd (cH A 2 ?_)
 refine gz rfl (kT o_) (cH A 8 ?_)
 refine cl (afj n w G) ?_
 rintro _ o ⟨c,rfl,ht⟩
 have d:=(y9 A ht)
 have j:=y0 0 d rfl (rfl)
 refine fZ d 12 ?_
 refine lp (α:=Nat) (fun k=>[(0,(Za n)),(1,dv),(5,Zc),(6,c),(23,(Za ((n:Int)-1))),(24,(Za k))]) (fun k w1=>St [(w,[])] [cL fL c 3 1 (vI n ds k)] w1/\(k=0\/k<n)) (fun k=>n-k) 0 oh (⟨j,o_⟩) ?_
 rintro k p q ⟨z,L⟩
 have I:=Yj (n:=n) (ds:=ds) (k:=k) o_
 refine fM z 2 ?_
 by_cases s:(k:Int)<((n:Int)-1:Int)
 . have D:k<n:=by omega
   have C:=F _ (mu (show k<ds.length by omega))
   have E:0<=cE ds k:=C.1
   have H:cE ds k<=18446744073709551615:=C.2
   have K:=Qg (ds:=ds) D
   have J:BG n ds k=k+(cE ds k).toNat%(n-k):=rfl
   refine cH z 20 ?_
   refine iH (k:=k) (i:=(k:Int)) rfl rfl rfl yx jm hd o_ o_ (fW (show k<ds.length by omega)) (jf rfl rfl ym rfl (yu z s_ d_ hd) (fW (show k<ds.length by omega)) rfl (cH z 4 ?_))
   refine rem (a:=(cE ds k)) (b:=(n:Int)-(k:Int)) (e:=(((cE ds k).toNat%(n-k):Nat):Int)) rfl rfl rfl o_ (ad9 E D) (cH z 1 ?_)
   refine gL (e:=(BG n ds k:Int)) rfl ((kX o_).trans o_) (gh z 17 fun t l=>?_)
   refine iz (f:=(fun _=>(cE (vI n ds k) (BG n ds k)))) 0 l (fun u g=>?_)
   refine cH g 1 ?_
   refine iz (f:=(fun _=>(cE (vI n ds k) k))) 0 g (fun y h=>?_)
   refine fK h 7 ?_
   have m:=y0 0 h rfl (rfl)
   exact gM (k+1) oh (⟨m,o_⟩) o1
 . refine jk z 18 c Zc ?_
   have B:=z
   rw[show vI n ds k=zC n ds from(show k=n-1 by omega)▸rfl]at B
   exact⟨c,rfl,me B⟩
theorem Mu(w:World)(z:Own (Tl.R tb n q) w)(r:n<=100) :
 CQ ya 102 (Zg tb) w (C3 ((gB n q.s.lb).a) ((gB n q.s.lb).c:Int) ((gB n q.s.lb).s:Int)) (Tl.R tb n q):=by
 refine gj func102 ?_
 have y:=yy z
 refine fM y 2 ?_
 refine ir y (fun m g p t b=>?_)
 refine cH b 5 ?_
 refine gF 1 b (agK tb n q g · r) fun h d=>?_
 refine cH d 1 ?_
 refine gF 1 d (agG tb n q h · r) fun j e=>?_
 refine cH e 1 ?_
 refine gF 1 e (agL tb n q j · r) fun u k=>?_
 refine iL (pvs:=[(0,(Za ((gB n q.s.lb).a))),(1,(Za ((gB n q.s.lb).c:Int))),(2,(Za ((gB n q.s.lb).s:Int)))]) (v:=.agg (C5 ((gB n q.s.lb).a) ((gB n q.s.lb).c:Int) ((gB n q.s.lb).s:Int))) rfl rfl (i6 [(0,(Zd ((gB n q.s.lb).a))),(1,(Zd ((gB n q.s.lb).c:Int))),(2,(Zd ((gB n q.s.lb).s:Int)))] Ar adL rfl oh rfl) (jI k 4 fun x f=>?_)
 refine LP (v:=(C3 ((gB n q.s.lb).a) ((gB n q.s.lb).c:Int) ((gB n q.s.lb).s:Int))) results102 (oI (cs:=(Bc ((gB n q.s.lb).a) ((gB n q.s.lb).c:Int) ((gB n q.s.lb).s:Int))) rfl underlying60 rfl Ar rfl (mL f (i:=0) (o:=0) (vs:=(Bc ((gB n q.s.lb).a) ((gB n q.s.lb).c:Int) ((gB n q.s.lb).s:Int))) rfl rfl)) ?_
 have l:=ye [1] f
 exact⟨rfl,iM l⟩
theorem T4(q:Value)(w:World)(h1:dv.oneCell' = true)(u:q.oneCell' = true) :
 CR ya 101 #[(Zb tb),dv,q] w (fun r w' => ∃ ob t s:Nat,r = .func (.func 174) #[] (E4 ob t s)/\fP (fN []) w w' (OL ob q t tb s dv)):=by
 refine iE func101 2 fun x=>?_
 refine gN x (fun a h i j e=>?_)
 refine gN e (fun b k l m f=>?_) (hcs:=(cells_one h1))
 refine gN f (fun c n o p d=>?_) (hcs:=(cells_one u))
 refine cH d 5 ?_
 refine kW (vf:=[]) (vc:=(vC c a b)) rfl rfl rfl (fK d 4 ?_)
 refine gT (v:=(.func (.func 174) #[] (E4 c a b))) results101 rfl ?_
 have g:=ye [0,2,1] d
 exact⟨c,a,b,rfl,me (yd [_,_,_] _ g)⟩
theorem aga{l:List Nat}(h:k<l.length):l.take (k+1)=l.take k++[cE l k]:=by
 rw[nY,fW h]
 rfl
theorem T3{γ:Type}(J:γ->fJ)(I:γ->Nat)(z0:γ)(l ob M K tb n:Nat)(N:Tl)(es:List Ge)(o:List Nat)(ev F:Value)(w:World)(X:∀ (z:γ) (q:Tl) (bs:List (World×List Nat)) (L:List fJ) (w1:World),I z<=o.length->q.s.lb=ic es n (o.take (I z))->St bs (J z :: (Tl.R tb n q) :: cL Ge.cells ev 110 3 es :: cL fL F 3 1 o :: L) w1->YR ya l (Zd ((I z:Nat):Int)) w1 (fun rv w' => rv = .bool true/\∃ Z,I Z=I z+1/\St bs (J Z :: (Tl.R tb n q) :: cL Ge.cells ev 110 3 es :: cL fL F 3 1 o :: L) w'))(Y:I z0=0)(T:N.s.lb=ic es n (o.take 0))(hO:Own (Fl (J z0) tb n N ev es F o ob M K) w)(hn:n<=100)(hg:lP n es)(ho:∀ i∈o,i<es.length)(hm:o.length<=16384) :
 CR ya 174 #[(.func (.yield l) #[] #[]),(Zb ob),(Zb M),(Zb K)] w (fun r w' => ∃ (z:γ) (q:Tl),r = .tuple #[]/\(I z=o.length+1/\q.s.lb=ic es n o)/\fP (Fl (J z0) tb n N ev es F o ob M K) w w' (Fl (J z) tb n q ev es F o ob M K)):=by
 refine gj func174 ?_
 have W:=Own.of hO
 have O:=X z0 N _ _ _ o_ (by rw[Y];exact T) W
 refine fM W 4 ?_
 rw[Y]at O
 refine yl (vl:=Bt) rfl rfl rfl O ?_
 rintro _ x ⟨rfl,h,y,a⟩
 refine cH a 9 ?_
 refine iA (m:=o.length) 3 rfl rfl yc a rfl (fZ a 4 ?_)
 refine lp (α:=Nat×γ×Tl) (fun(k,z,q)=>[(0,(.func (.yield l) #[] #[])),(1,(Zb ob)),(2,(Zb M)),(3,(Zb K)),(10,F),(11,(Za o.length)),(12,(Za k))]) (fun(k,z,q) w1=>St [(w,(Fl (J z0) tb n N ev es F o ob M K).gq)] [(J z),(Tl.R tb n q),cL Ge.cells ev 110 3 es,cL fL F 3 1 o,blk ob 37 [F],blk M 200 (Ze tb),blk K 28 [ev]] w1/\k<=o.length/\I z=k+1/\q.s.lb=(ic es n (o.take k))) (fun(k,z,q)=>o.length-k) (0,h,N) oh (⟨a,o_,o_,T⟩) ?_
 rintro⟨k,z,q⟩ A B ⟨P,hk,V,U⟩
 refine fM P 2 ?_
 by_cases C:(k:Int)<(o.length:Int)
 . have S:k<o.length:=by omega
   have aa:cE o k<es.length:=ho _ (mu S)
   have Q:=hg.at aa
   have ab:=Q.1
   have ac:=Q.2.1
   refine gh P 31 fun j c=>?_
   refine cl (agM tb n q j (yg c 1 rfl) hn ((cE es (cE o k)).u) ((cE es (cE o k)).v) o_ o_) ?_
   rintro _ D ⟨E,b,rfl,p,ht⟩
   have d:=yt 1 c ht
   have f:b.s.lb=(ic es n (o.take (k+1))):=by rw[p,U,aga S,Gq]
   refine cH d 6 ?_
   refine gL (e:=((k+1:Nat):Int)) rfl ((kX o_).trans o_) ?_
   have O:=X z b _ _ _ o_ (by rw[V];exact f) d
   rw[V]at O
   refine yl (vl:=(Zd ((k+1:Nat):Int))) rfl rfl rfl O ?_
   rintro _ G ⟨rfl,t,H,g⟩
   refine fK g 11 ?_
   exact gM ((k+1),t,b) oh (⟨g,o_,o_,f⟩) o1
 . refine jU P 9 ?_
   exact⟨z,q,rfl,⟨o_,by rw[U,AP o_]⟩,yk P⟩
def oG(es:List Ge)(n:Nat)(o:List Nat)(k:Nat):List mM:=(List.range k).map fun i=>gB n (ic es n (o.take i))
theorem aeO{n:Nat}:oG es n o (k+1)=oG es n o k++[gB n (ic es n (o.take k))]:=by
 unfold oG
 rw[rA,ni]
 rfl
theorem aeN{n:Nat}:(oG es n o k).length=k:=by simp[oG]
abbrev og(m:Nat):Type:={z:Nat×Value // z.1<=m+1}
theorem afW(q0:Tl)(es:List Ge)(o:List Nat)(dv F:Value)(w:World)(aK:q0.s.lb=ic es n (o.take 0))(hO:Own (fN [(Tl.R tb n q0),cL Ge.cells dv 110 3 es,cL fL F 3 1 o]) w)(hn:n<=100)(hg:lP n es)(ho:∀ i∈o,i<es.length)(hm:o.length<=16384) :
 CR ya 108 #[(Zb tb),dv,F,(.func (.func 102) #[] #[])] w (fun r w' => ∃ (rv:Value) (T:Tl),rv=r/\fP (fN [(Tl.R tb n q0),cL Ge.cells dv 110 3 es,cL fL F 3 1 o]) w w' (fN [(Tl.R tb n T),cL Ge.cells dv 110 3 es,cL fL F 3 1 o,cL mM.cells rv 60 3 (oG es n o (o.length+1))])):=by
 refine uc (vs:=[(Zb tb),dv,F,(.func (.func 102) #[] #[])]) func108 rfl ntmps108 rfl ?_
 have aJ:=Own.of hO
 refine fM aJ 2 ?_
 refine gN aJ (fun b ae af ag M=>?_)
 refine gN M (fun d ah ai aj g=>?_)
 refine cH g 6 ?_
 refine iA (m:=o.length) 4 rfl rfl yc g rfl (cH g 1 ?_)
 refine kA (cf:=mM.cells) (z0:=(default:mM)) (m:=0) (c:=(o.length+1)) rfl rfl (js o_) HV Ar rfl f_ d_ (ko _) o_ o_ g ?_
 intro E N ak al O
 have G:St _ [cL mM.cells (.slice (some ⟨E,0,none⟩) 0 (o.length+1)) 60 3 ([]),blk d 207 [(.func (.func 102) #[] #[])],blk b 200 [(.pointer (some ⟨tb,0,none⟩))],(Tl.R tb n q0),cL Ge.cells dv 110 3 es,cL fL F 3 1 o] N:=mR (cf:=mM.cells) (m:=0) O (i:=0) rfl f_ (ko _) (by simp only[maxLen];omega)
 generalize (Value.slice (some ⟨E,0,none⟩) 0 (o.length+1))=u at G ⊢
 refine ir G (fun e am an ao y=>?_)
 refine iS 0 y (fun P h=>?_) (hvs:=(cells_one (yh y (i:=1) rfl))) (h1:=(gD (yh y (i:=1) rfl) je))
 refine cH h 8 ?_
 refine cl (T4 tb dv F P (yh h (i:=5) rfl) (yh h (i:=6) rfl)) ?_
 rintro _ ap ⟨j,p,t,rfl,ht⟩
 have H:=yp (y9 h ht)
 have Q:=ye [3,4,5,6,7,8,9,0,1,2] H
 refine fZ H 3 ?_
 refine rf (α:=og o.length×Tl) (ps:=[18]) (fi:=[]) (ca:=(vC j p t)) (fun(z,T)=>[blk e 54 [z.1.2],cL mM.cells z.1.2 60 3 (oG es n o z.1.1),blk d 207 Df,blk b 200 (Ze tb),(Tl.R tb n T),cL Ge.cells dv 110 3 es,cL fL F 3 1 o,blk j 37 [F],blk p 200 (Ze tb),blk t 28 [dv]]) (fun(z,T)=>z.1.1=o.length+1/\T.s.lb=ic es n o) Q rfl eN ?_ ?_
 . intro fn dd l wl rc aE aQ
   have S:=ye [0,2,3,4,5,6,1,7,8,9,10,11] aQ
   have aL:=yd [gK l rc,blk e 54 [u],cL mM.cells u 60 3 ([]),blk d 207 Df,blk b 200 (Ze tb)] (N8 tb n q0 (jy dd (some [])) dv es F o j p t) S
   have aI:rc.state = .ready:=by rw[aE]
   have aN:rc.pending=none:=by rw[aE]
   have aO:∀ (z:og o.length) (q:Tl) (bs:List (World×List Nat)) (L:List fJ) (w1:World),z.1.1<=o.length->q.s.lb=ic es n (o.take (z.1.1))->St bs ((fN (IV (gK l rc) e z.1.2 (oG es n o z.1.1) d b tb)) :: (Tl.R tb n q) :: cL Ge.cells dv 110 3 es :: cL fL F 3 1 o :: L) w1->YR ya l (Zd ((z.1.1:Nat):Int)) w1 (fun rv w' => rv = .bool true/\∃ z2:og o.length,z2.1.1=z.1.1+1/\St bs ((fN (IV (gK l rc) e z2.1.2 (oG es n o z2.1.1) d b tb)) :: (Tl.R tb n q) :: cL Ge.cells dv 110 3 es :: cL fL F 3 1 o :: L) w'):=by
    intro z q bs LT wr aG aD aC
    have aC:=aC.unpack
    have aG:z.1.1<=o.length:=aG
    have aD:q.s.lb=ic es n (o.take z.1.1):=aD
    have aU:=aeN (es:=es) (n:=n) (o:=o) (k:=z.1.1)
    refine tq (vl:=(Zd ((z.1.1:Nat):Int))) 0 aE aC rfl rfl rfl (jh aC 1 ?_)
    refine tN (tW 0 aC rfl aI rfl (fun aq I=>oW I 1 ?_))
    refine jS mixed [([0,1,2,3],[0]),([4],[0])] [5,6] I (fun U A=>iY ?_)
    refine cH A 3 ?_
    refine lR (fi:=[]) (ca:=[]) rfl rfl rfl eN (Mu tb n q U (yg A 5 rfl) hn) ?_
    rintro _ ar ⟨rfl,ht⟩
    have J:=yt 5 A ht
    refine fK J 1 ?_
    refine jF (iY ?_)
    refine jB (vs:=[(C3 ((gB n q.s.lb).a) ((gB n q.s.lb).c:Int) ((gB n q.s.lb).s:Int))]) (cs:=(Bc ((gB n q.s.lb).a) ((gB n q.s.lb).c:Int) ((gB n q.s.lb).s:Int))) rfl rfl HV Ar rfl (by simp[Value.cells]) rfl rfl rfl J (fun V au av aw B=>fK B 1 ?_)
    refine jF (jX ?_)
    refine kR (cf:=mM.cells) (ys:=(oG es n o z.1.1)) (zs:=[(⟨(gB n q.s.lb).a,((gB n q.s.lb).c),((gB n q.s.lb).s)⟩:mM)]) (LL:=fun f=>(row (Zu V) 60 3 1 ((Bc ((gB n q.s.lb).a) ((gB n q.s.lb).c:Int) ((gB n q.s.lb).s:Int))) :: gK l { rc with state:=.busy } :: blk e 54 [z.1.2] :: cL mM.cells f 60 3 ((oG es n o z.1.1)++[(⟨(gB n q.s.lb).a,((gB n q.s.lb).c),((gB n q.s.lb).s)⟩:mM)]) :: blk d 207 Df :: blk b 200 (Ze tb) :: (Tl.R tb n q) :: cL Ge.cells dv 110 3 es :: cL fL F 3 1 o :: LT)) 3 rfl rfl rfl HV Ar rfl d_ B rfl (kG B (i:=0) rfl) (fun x hx=>zr.1 (show List.all _ _=true from rfl) x hx) (by simp only[zb,zd,maxLen];omega) (by simp only[zb,zd,maxLen];omega) f_ ?_
    intro f ax W ay
    have C:=St.sub (L' := (gK l { rc with state:=.busy } :: blk e 54 [z.1.2] :: cL mM.cells f 60 3 ((oG es n o z.1.1)++[(⟨(gB n q.s.lb).a,((gB n q.s.lb).c),((gB n q.s.lb).s)⟩:mM)]) :: blk d 207 Df :: blk b 200 (Ze tb) :: (Tl.R tb n q) :: cL Ge.cells dv 110 3 es :: cL fL F 3 1 o :: LT)) W (List.Sublist.cons _ (List.Sublist.refl _))
    refine iS 1 C (fun az K=>?_) (hvs:=(cells_one (yh C (i:=2) rfl))) (h1:=(gD (yh C (i:=2) rfl) je))
    refine fK K 2 ?_
    refine qa 0 K rfl aI aN rfl ?_
    intro aA X
    have Y:=y0 2 X rfl (show _=(oG es n o (z.1.1+1)) by rw[aeO,<-aD])
    exact⟨_,rfl,rfl,(⟨(z.1.1+1,f),by show z.1.1+1<=_;omega⟩:og o.length),rfl,yd [_,_,_,_,_] _ Y⟩
   have Z:=lJ aL (List.Perm.cons _ (List.Perm.cons _ (List.Perm.swap _ _ _)))
   have aa:=ye [0,1,2,4,5,6,7,3] Z
   have aH:=yd [_,_,_,_,_,_,_] _ aa
   refine CR.mono (T3 (fun(z:og o.length)=>fN (IV (gK l rc) e z.1.2 (oG es n o z.1.1) d b tb)) (fun z:og o.length=>z.1.1) (⟨(0,u),ko _⟩:og o.length) l j p t tb n q0 es o dv F wl aO rfl aK (yg aH 0 rfl) hn hg ho hm) ?_
   rintro _ w9 ⟨z,T,-,aM,aR⟩
   have aF:=yp (yw aH aR)
   have aP:=aF
   have ab:=ye [0,11,1,2,3,4,5,6,7,8,9,10] aP
   exact⟨(z,T),aM,ab⟩
 . rintro⟨z,T⟩ dd aB hC D
   have aS:=hC.1
   have aT:=hC.2
   refine zX tt none D 5 ?_
   refine kq (v:=z.1.2) rfl rfl (fK D 3 ?_)
   refine uU 0 D rfl rfl ?_
   intro w8 aF
   have ac:=ye [5,6,7,2] aF
   have ad:=y0 3 ac rfl (show _=(oG es n o (o.length+1)) by rw[aS])
   exact⟨_,results_tmp results108 _ _ _,_,rfl,by rw[ox];exact⟨z.1.2,T,rfl,yk ad⟩⟩
theorem UM(f:n<=100) :
 CR ya 99 (Z3 n) w (fun r w' => ∃ (tb:Nat) (q:Tl),r = .tuple (Z1 tb)/\q.s.lb=List.range n/\fP (fN []) w w' (Tl.R tb n q)):=by
 refine iE func99 9 fun g=>?_
 refine cl (agF n w f) ?_
 rintro _ e ⟨a,c,rfl,d,ht⟩
 have b:=(y9 g ht)
 refine jk b 7 (Zb a) Zc ?_
 exact⟨a,c,rfl,d,me b⟩
theorem af2(es:List Ge)(o:List Nat)(dv p:Value)(w:World)(t:Own (fN [cL Ge.cells dv 110 3 es,cL fL p 3 1 o]) w)(q:n<=100)(u:lP n es)(x:∀ i∈o,i<es.length)(hm:o.length<=16384) :
 CR ya 56 #[(Za n),dv,p] w (fun r w' => ∃ rv:Value,r = .tuple (vD rv)/\fP (fN [cL Ge.cells dv 110 3 es,cL fL p 3 1 o]) w w' (fN [cL Ge.cells dv 110 3 es,cL fL p 3 1 o,cL mM.cells rv 60 3 (oG es n o (o.length+1))])):=by
 refine ja func56 t 9 fun y=>?_
 refine cl (UM n w q) ?_
 rintro _ f ⟨g,a,rfl,h,ht⟩
 have b:=(y9 y ht)
 have v:a.s.lb=ic es n (o.take 0):=h
 have c:=yd [_,_,_] _ b
 refine cH b 22 ?_
 refine cl (afW g n a es o dv p f v (yg c 0 rfl) q u x hm) ?_
 rintro _ l ⟨d,m,rfl,j⟩
 have e:=(yw c j)
 refine jk e 5 d Zc ?_
 have k:=ye [1,2,3] e
 exact⟨d,rfl,yk k⟩
theorem af1(es:List Ge)(dv ev:Value)(ds:List Int)(R:fJ)(u:∀ w,R.holds w->gV 1 iB (fun _=>True) w ev ds)(w:World)(B:Own (fN [cL Ge.cells dv 110 3 es,R]) w)(C:∀ x∈ds,ij .u64 x)(E:n<=100)(A:lP n es)(hm:es.length<=16384)(D:es.length<=ds.length+1) :
 CR ya 50 #[(Za n),dv,ev] w (fun r w' => ∃ rv:Value,r = .tuple (vD rv)/\fP (fN [cL Ge.cells dv 110 3 es,R]) w w' (fN [cL Ge.cells dv 110 3 es,R,cL mM.cells rv 60 3 (oG es n (zC es.length ds) (es.length+1))])):=by
 refine gj func50 ?_
 have t:=Own.of B
 have F:=u _ (nV t (i:=1) rfl)
 refine fM t 11 ?_
 refine cl (DF dv n es w (Sl.any (yv t 0 rfl)) A o_ o_) ?_
 rintro _ f ⟨p,q,rfl,ht⟩
 have a:=(y9 t ht)
 refine cH a 20 ?_
 refine jO (v:=ev) rfl rfl yx F (cH a 1 ?_)
 refine iA (m:=es.length) 1 rfl rfl qt a rfl (cH a 1 ?_)
 refine gz rfl (kT o_) (cH a 8 ?_)
 refine iA (m:=es.length) 1 rfl rfl qt a rfl (cH a 1 ?_)
 refine cl (afg es.length ev ds f (u _ (nV a (i:=2) rfl)) C o_ D) ?_
 rintro _ g ⟨h,rfl,ht⟩
 have c:=(y9 a ht)
 have z:=Yi (n:=es.length) (ds:=ds)
 have y:=z.length_eq
 refine cH c 22 ?_
 rw[mD]at y
 have j:=ye [2,0,1,3] c
 have d:=yd [_,_] _ j
 refine cl (af2 n es (zC es.length ds) dv h g (yg d 0 rfl) E A (fun i hi=>lV.1 (z.mem_iff.1 hi)) o_) ?_
 rintro _ s ⟨b,rfl,k⟩
 have e:=(yw d k)
 refine jk e 7 b Zc ?_
 have l:=ye [0,4,2] e
 have o:=y0 2 l rfl (show _=(oG es n (zC es.length ds) (es.length+1)) by rw[y])
 exact⟨b,rfl,yk o⟩
structure jJ where
 th:Int
 a:Int
 c:Nat
 s:Nat
instance:Inhabited jJ:=⟨⟨0,0,0,0⟩⟩
def jJ.cells(x:jJ):List Value:=[.int .i64 x.th,.int .i64 x.a,.int .i64 (x.c:Int),.int .i64 (x.s:Int)]
def RU(t:Int)(r:mM):jJ:=⟨t,r.a,r.c,r.s⟩
def jP(es:List Ge)(n:Nat)(o:List Nat):Nat->List jJ
 | 0=>[]
 | 1=>[]
 | k+2=>jP es n o (k+1)++if k+1=o.length\/(cE es (cE o (k+1))).w≠(cE es (cE o k)).w then[RU (cE es (cE o k)).w (gB n (ic es n (o.take (k+1))))]else[]
abbrev On a b c d:=(fN [cL Ge.cells a 110 3 b,cL jJ.cells c 62 4 d]:fJ)
abbrev Fg a (b:Nat) c d (e:Nat) f (g h i:Nat) j:=([a,blk b 52 [c],cL jJ.cells c 62 4 d,blk e 28 [f],blk g 200 (Ze h),blk i 37 [j]]:List fJ)
theorem RS{es:List Ge}{n:Nat}{o:List Nat}:∀ {k:Nat},(jP es n o k).length<=k
 | 0=>zh _
 | 1=>ko _
 | k+2=>by
  have a:=RS (es:=es) (n:=n) (o:=o) (k:=k+1)
  unfold jP
  rw[zk]
  split
  . rw[CD];omega
  . rw[zd];omega
theorem RT{n:Nat}(h:k+1=o.length\/(cE es (cE o (k+1))).w≠(cE es (cE o k)).w):jP es n o (k+1+1)=jP es n o (k+1)++[RU (cE es (cE o k)).w (gB n (ic es n (o.take (k+1))))]:=by rw[jP,if_pos h]
theorem abQ{n:Nat}(h:¬ (k+1=o.length\/(cE es (cE o (k+1))).w≠(cE es (cE o k)).w)):jP es n o (k+1+1)=jP es n o (k+1):=by rw[jP,if_neg h,sC]
theorem afY(es:List Ge)(dv:Value)(w:World)(hO:Own (yP dv es) w)(hn:n<=100)(hg:lP n es)(hm:es.length<=16384) :
 CR ya 48 #[(Za n),dv] w (fun r w' => ∃ (lv:Value) (o:List Nat),r = .tuple (vD lv)/\rE es o/\fP (yP dv es) w w' (On dv es lv (jP es n o (o.length+1)))):=by
 refine uc (vs:=[(Za n),dv]) func48 rfl ntmps48 rfl ?_
 have bD:=yy hO
 refine fM bD 2 ?_
 refine gN bD (fun p aB a4 a5 Q=>?_) (hcs:=(cells_one (yh bD (i:=0) rfl)))
 refine cH Q 9 ?_
 refine jG (vl:=[(Za n),dv]) rfl rfl eN (DF dv n es aB (Sl.any (qv Q (i:=1) rfl f_)) hg o_ o_) ?_
 rintro _ aj ⟨J,K,rfl,ht⟩
 have ak:St _ [(Gr.R J n K es),blk p 28 [dv],cL Ge.cells dv 110 3 es] aj:=(y9 (R:=(Gr.R J n K es)) Q ht)
 refine cH ak 19 ?_
 refine jG (vl:=(Zd n)) rfl rfl eN (UM n aj hn) ?_
 rintro _ aC ⟨f,I,rfl,aD,ht⟩
 have al:St _ [(Tl.R f n I),(Gr.R J n K es),blk p 28 [dv],cL Ge.cells dv 110 3 es] aC:=(y9 (R:=(Tl.R f n I)) ak ht)
 have bN:=aD
 refine cH al 3 ?_
 refine ir al (fun t a6 a7 a8 aE=>?_)
 refine gh aE 17 fun aF am=>?_
 refine jG (vl:=[dv]) rfl rfl eN (SC dv es aF (Sl.any (qv am (i:=4) rfl f_)) o_) ?_
 rintro _ aG ⟨g,d,rfl,S,ht⟩
 have aH:St _ [cL fL g 3 1 d,blk t 200 (Ze f),(Tl.R f n I),(Gr.R J n K es),blk p 28 [dv],cL Ge.cells dv 110 3 es] aG:=(y9 (R:=cL fL g 3 1 d) am ht)
 refine ir aH (fun y a9 ba bb U=>?_)
 refine iS 0 U (fun bc an=>?_) (hvs:=(cells_one (yh U (i:=1) rfl))) (h1:=(gD (yh U (i:=1) rfl) je))
 have bV:=S.len
 have bz:=fun i hi=>S.lt (i:=i) hi
 refine cH an 4 ?_
 refine ir an (fun A aI bd be P=>?_)
 have bJ:=S
 have bK:I.s.lb=ic es n (d.take 0):=bN
 refine cH P 8 ?_
 refine jG (vl:=[(Zb f),dv,g]) rfl rfl eN (T4 f dv g aI (yh P (i:=7) rfl) (yh P (i:=2) rfl)) ?_
 rintro _ ao ⟨C,D,E,rfl,ht⟩
 have ap:St _ [blk C 37 [g],blk D 200 (Ze f),blk E 28 [dv],blk A 52 Z4,blk y 37 [g],cL fL g 3 1 d,blk t 200 (Ze f),(Tl.R f n I),(Gr.R J n K es),blk p 28 [dv],cL Ge.cells dv 110 3 es] ao:=yp (y9 (R:=(OL C g D f E dv)) P ht)
 have aJ:St _ [cL jJ.cells Zh 62 4 (jP es n d 0),blk C 37 [g],blk D 200 (Ze f),blk E 28 [dv],blk A 52 Z4,blk y 37 [g],cL fL g 3 1 d,blk t 200 (Ze f),(Tl.R f n I),(Gr.R J n K es),blk p 28 [dv],cL Ge.cells dv 110 3 es] ao:=nU ap 62 4
 have aK:=ye [4,0,10,7,5,8,11,6,1,2,3] aJ
 refine fZ ap 3 ?_
 refine rf (α:=og d.length×Tl) (ps:=[37]) (fi:=[]) (ca:=(vC C D E)) (fun(z,T)=>[blk A 52 [z.1.2],cL jJ.cells z.1.2 62 4 (jP es n d z.1.1),blk p 28 [dv],blk t 200 (Ze f),blk y 37 [g],(Tl.R f n T),cL Ge.cells dv 110 3 es,cL fL g 3 1 d,blk C 37 [g],blk D 200 (Ze f),blk E 28 [dv]]) (fun(z,T)=>z.1.1=d.length+1/\T.s.lb=ic es n d) aK rfl eN ?_ ?_
 . intro fn dd l wl rc bC bQ
   have aL:=ye [0,2,3,4,5,6,7,1,8,9,10,11,12] bQ
   have bL:=yd [gK l rc,blk A 52 Z4,cL jJ.cells Zh 62 4 (jP es n d 0),blk p 28 [dv],blk t 200 (Ze f),blk y 37 [g]] (N8 f n I (jy dd (some [])) dv es g d C D E) aL
   have bv:rc.state = .ready:=by rw[bC]
   have bA:rc.pending=none:=by rw[bC]
   have bO:∀ (z:og d.length) (q:Tl) (bs:List (World×List Nat)) (L:List fJ) (w1:World),z.1.1<=d.length->q.s.lb=ic es n (d.take (z.1.1))->St bs ((fN (Fg (gK l rc) A z.1.2 (jP es n d z.1.1) p dv t f y g)) :: (Tl.R f n q) :: cL Ge.cells dv 110 3 es :: cL fL g 3 1 d :: L) w1->YR ya l (Zd ((z.1.1:Nat):Int)) w1 (fun rv w' => rv = .bool true/\∃ z2:og d.length,z2.1.1=z.1.1+1/\St bs ((fN (Fg (gK l rc) A z2.1.2 (jP es n d z2.1.1) p dv t f y g)) :: (Tl.R f n q) :: cL Ge.cells dv 110 3 es :: cL fL g 3 1 d :: L) w'):=by
    intro z q bs F wr bF bx bk
    have bk:=bk.unpack
    have bk:St _ (gK l rc :: blk A 52 [z.1.2] :: cL jJ.cells z.1.2 62 4 (jP es n d z.1.1) :: blk p 28 [dv] :: blk t 200 (Ze f) :: blk y 37 [g] :: (Tl.R f n q) :: cL Ge.cells dv 110 3 es :: cL fL g 3 1 d :: F) wr:=bk
    have bF:z.1.1<=d.length:=bF
    have bx:q.s.lb=ic es n (d.take z.1.1):=bx
    have bW:=RS (es:=es) (n:=n) (o:=d) (k:=z.1.1)
    refine tq (vl:=(Zd ((z.1.1:Nat):Int))) 0 bC bk rfl rfl rfl (jh bk 3 ?_)
    refine tN (tW 0 bk rfl bv rfl ?_)
    intro aM M
    have M:St _ (gK l { rc with state:=.busy } :: blk A 52 [z.1.2] :: cL jJ.cells z.1.2 62 4 (jP es n d z.1.1) :: blk p 28 [dv] :: blk t 200 (Ze f) :: blk y 37 [g] :: (Tl.R f n q) :: cL Ge.cells dv 110 3 es :: cL fL g 3 1 d :: F) aM:=M
    refine fM M 5 ?_
    by_cases bf:((z.1.1:Nat):Int)=0
    . refine fK M 7 ?_
      refine qa 0 M rfl bv bA rfl ?_
      intro aq V
      have V:St _ (gK l rc :: blk A 52 [z.1.2] :: cL jJ.cells z.1.2 62 4 (jP es n d z.1.1) :: blk p 28 [dv] :: blk t 200 (Ze f) :: blk y 37 [g] :: (Tl.R f n q) :: cL Ge.cells dv 110 3 es :: cL fL g 3 1 d :: F) aq:=V
      have aN:St _ (gK l rc :: blk A 52 [z.1.2] :: cL jJ.cells z.1.2 62 4 (jP es n d (z.1.1+1)) :: blk p 28 [dv] :: blk t 200 (Ze f) :: blk y 37 [g] :: (Tl.R f n q) :: cL Ge.cells dv 110 3 es :: cL fL g 3 1 d :: F) aq:=y0 2 V rfl ((by rw[show z.1.1=0 by omega];rfl))
      exact⟨_,rfl,rfl,(⟨(z.1.1+1,z.1.2),by show z.1.1+1<=_;omega⟩:og d.length),rfl,yd [_,_,_,_,_,_] _ aN⟩
    . obtain⟨j,hj⟩:∃ j,z.1.1=j+1:=⟨z.1.1-1,o_⟩
      have bI:j<d.length:=by omega
      have bU:cE d j<es.length:=bz _ (mu bI)
      refine gh M 11 fun bg W=>?_
      refine ar (a:=((z.1.1:Nat):Int)) (b:=1) (c:=((z.1.1:Nat):Int)-1) (e:=(j:Int)) rfl rfl rfl rfl ((kX o_).trans o_) (iH (cf:=fL) (k:=j) (i:=(j:Int)) rfl rfl rfl yc fU (qv W (i:=8) rfl f_) o_ o_ (fW om) (jf (cf:=fL) (u:=(Za (((cE d j):Nat):Int))) rfl rfl yf rfl (qv W (i:=8) rfl f_) (fW om) rfl (gh W 10 fun bh B=>?_)))
      refine iA (m:=d.length) 8 rfl rfl yc B rfl ?_
      by_cases bi:((z.1.1:Nat):Int)=(d.length:Int)
      . refine fZ B 16 ?_
        refine jS mixed [([0,1,2,3],[0]),([4,5],[0])] [6,7] B (fun aO X=>iY ?_)
        refine cH X 3 ?_
        refine jG (vl:=(Ze f)) rfl rfl eN (Mu f n q aO (lq X (i:=6) rfl) hn) ?_
        rintro _ aP ⟨rfl,ht⟩
        have au:St _ (gK l { rc with state:=.busy } :: blk A 52 [z.1.2] :: cL jJ.cells z.1.2 62 4 (jP es n d z.1.1) :: blk p 28 [dv] :: blk t 200 (Ze f) :: blk y 37 [g] :: (Tl.R f n q) :: cL Ge.cells dv 110 3 es :: cL fL g 3 1 d :: F) aP:=mB (R' := (Tl.R f n q)) 6 X rfl ht rfl
        refine fK au 1 ?_
        refine jF (iY ?_)
        refine iL (pvs:=[(0,(Za ((cE es (cE d j)).w))),(1,(C3 ((gB n q.s.lb).a) ((gB n q.s.lb).c:Int) ((gB n q.s.lb).s:Int)))]) (v:=.agg (yS ((cE es (cE d j)).w) ((gB n q.s.lb).a) ((gB n q.s.lb).c:Int) ((gB n q.s.lb).s:Int))) rfl rfl (i6 [(0,(Zd ((cE es (cE d j)).w))),(1,(Bc ((gB n q.s.lb).a) ((gB n q.s.lb).c:Int) ((gB n q.s.lb).s:Int)))] Au S1 rfl oh rfl) (jB (vs:=(Oz ((cE es (cE d j)).w) ((gB n q.s.lb).a) ((gB n q.s.lb).c:Int) ((gB n q.s.lb).s:Int))) (cs:=(tQ ((cE es (cE d j)).w) ((gB n q.s.lb).a) ((gB n q.s.lb).c:Int) ((gB n q.s.lb).s:Int))) rfl rfl Er Au rfl (by simp[Value.cells]) rfl rfl rfl au ?_)
        intro Y aQ bj bl N
        have N:St _ (row (Zu Y) 62 4 1 ((tQ ((cE es (cE d j)).w) ((gB n q.s.lb).a) ((gB n q.s.lb).c:Int) ((gB n q.s.lb).s:Int))) :: gK l { rc with state:=.busy } :: blk A 52 [z.1.2] :: cL jJ.cells z.1.2 62 4 (jP es n d z.1.1) :: blk p 28 [dv] :: blk t 200 (Ze f) :: blk y 37 [g] :: (Tl.R f n q) :: cL Ge.cells dv 110 3 es :: cL fL g 3 1 d :: F) aQ:=N
        refine fK N 1 ?_
        refine jF (jX ?_)
        refine kR (cf:=jJ.cells) (ys:=(jP es n d z.1.1)) (zs:=[(⟨(cE es (cE d j)).w,(gB n q.s.lb).a,((gB n q.s.lb).c),((gB n q.s.lb).s)⟩:jJ)]) (LL:=fun G=>(row (Zu Y) 62 4 1 ((tQ ((cE es (cE d j)).w) ((gB n q.s.lb).a) ((gB n q.s.lb).c:Int) ((gB n q.s.lb).s:Int))) :: gK l { rc with state:=.busy } :: blk A 52 [z.1.2] :: cL jJ.cells G 62 4 ((jP es n d z.1.1)++[(⟨(cE es (cE d j)).w,(gB n q.s.lb).a,((gB n q.s.lb).c),((gB n q.s.lb).s)⟩:jJ)]) :: blk p 28 [dv] :: blk t 200 (Ze f) :: blk y 37 [g] :: (Tl.R f n q) :: cL Ge.cells dv 110 3 es :: cL fL g 3 1 d :: F)) 3 rfl rfl rfl Er Au rfl d_ N rfl (kG N (i:=0) rfl) (fun x hx=>zr.1 (show List.all _ _=true from rfl) x hx) (by simp only[zb,zd,maxLen];omega) (by simp only[zb,zd,maxLen];omega) f_ ?_
        intro G aR Z bm
        have Z:St _ (row (Zu Y) 62 4 1 ((tQ ((cE es (cE d j)).w) ((gB n q.s.lb).a) ((gB n q.s.lb).c:Int) ((gB n q.s.lb).s:Int))) :: gK l { rc with state:=.busy } :: blk A 52 [z.1.2] :: cL jJ.cells G 62 4 ((jP es n d z.1.1)++[(⟨(cE es (cE d j)).w,(gB n q.s.lb).a,((gB n q.s.lb).c),((gB n q.s.lb).s)⟩:jJ)]) :: blk p 28 [dv] :: blk t 200 (Ze f) :: blk y 37 [g] :: (Tl.R f n q) :: cL Ge.cells dv 110 3 es :: cL fL g 3 1 d :: F) aR:=Z
        have aa:=St.sub (L' := (gK l { rc with state:=.busy } :: blk A 52 [z.1.2] :: cL jJ.cells G 62 4 ((jP es n d z.1.1)++[(⟨(cE es (cE d j)).w,(gB n q.s.lb).a,((gB n q.s.lb).c),((gB n q.s.lb).s)⟩:jJ)]) :: blk p 28 [dv] :: blk t 200 (Ze f) :: blk y 37 [g] :: (Tl.R f n q) :: cL Ge.cells dv 110 3 es :: cL fL g 3 1 d :: F)) Z (List.Sublist.cons _ (List.Sublist.refl _))
        refine iS 1 aa (fun bn av=>?_) (hvs:=(cells_one (yh aa (i:=2) rfl))) (h1:=(gD (yh aa (i:=2) rfl) je))
        refine fK av 2 ?_
        refine qa 0 av rfl bv bA rfl ?_
        intro aw ab
        have ab:St _ (gK l rc :: blk A 52 [G] :: cL jJ.cells G 62 4 ((jP es n d z.1.1)++[(⟨(cE es (cE d j)).w,(gB n q.s.lb).a,((gB n q.s.lb).c),((gB n q.s.lb).s)⟩:jJ)]) :: blk p 28 [dv] :: blk t 200 (Ze f) :: blk y 37 [g] :: (Tl.R f n q) :: cL Ge.cells dv 110 3 es :: cL fL g 3 1 d :: F) aw:=ab
        have bB:j+1=d.length\/(cE es (cE d (j+1))).w≠(cE es (cE d j)).w:=by rw[<-hj];first|exact .inl o_|exact .inr o_
        have aS:St _ (gK l rc :: blk A 52 [G] :: cL jJ.cells G 62 4 (jP es n d (z.1.1+1)) :: blk p 28 [dv] :: blk t 200 (Ze f) :: blk y 37 [g] :: (Tl.R f n q) :: cL Ge.cells dv 110 3 es :: cL fL g 3 1 d :: F) aw:=y0 2 ab rfl ((by rw[bx,hj,RT bB];first|done|rfl))
        exact⟨_,rfl,rfl,(⟨(z.1.1+1,G),by show z.1.1+1<=_;omega⟩:og d.length),rfl,yd [_,_,_,_,_,_] _ aS⟩
      . have bE:z.1.1<d.length:=by omega
        have bS:cE d z.1.1<es.length:=bz _ (mu bE)
        refine cH B 5 ?_
        refine iH (cf:=fL) (k:=z.1.1) (i:=((z.1.1:Nat):Int)) rfl rfl rfl yc fU (qv B (i:=8) rfl f_) o_ o_ (fW om) (jf (cf:=fL) (u:=(Za (((cE d z.1.1):Nat):Int))) rfl rfl yf rfl (qv B (i:=8) rfl f_) (fW om) rfl (cH B 4 ?_))
        by_cases bo:((cE es (cE d z.1.1)).w:Int)=((cE es (cE d j)).w:Int)
        . refine fK B 7 ?_
          refine qa 0 B rfl bv bA rfl ?_
          intro ax ac
          have ac:St _ (gK l rc :: blk A 52 [z.1.2] :: cL jJ.cells z.1.2 62 4 (jP es n d z.1.1) :: blk p 28 [dv] :: blk t 200 (Ze f) :: blk y 37 [g] :: (Tl.R f n q) :: cL Ge.cells dv 110 3 es :: cL fL g 3 1 d :: F) ax:=ac
          have bH:¬ (j+1=d.length\/(cE es (cE d (j+1))).w≠(cE es (cE d j)).w):=by rw[<-hj];rintro(h|h)<;>omega
          have aT:St _ (gK l rc :: blk A 52 [z.1.2] :: cL jJ.cells z.1.2 62 4 (jP es n d (z.1.1+1)) :: blk p 28 [dv] :: blk t 200 (Ze f) :: blk y 37 [g] :: (Tl.R f n q) :: cL Ge.cells dv 110 3 es :: cL fL g 3 1 d :: F) ax:=y0 2 ac rfl ((by rw[hj,abQ bH]))
          exact⟨_,rfl,rfl,(⟨(z.1.1+1,z.1.2),by show z.1.1+1<=_;omega⟩:og d.length),rfl,yd [_,_,_,_,_,_] _ aT⟩
        . have bE:z.1.1<d.length:=by omega
          have bS:cE d z.1.1<es.length:=bz _ (mu bE)
          refine fZ B 5 ?_
          refine jS mixed [([0,1,2,3],[0]),([4,5],[0])] [6,7] B (fun aU ad=>iY ?_)
          refine cH ad 3 ?_
          refine jG (vl:=(Ze f)) rfl rfl eN (Mu f n q aU (lq ad (i:=6) rfl) hn) ?_
          rintro _ aV ⟨rfl,ht⟩
          have ay:St _ (gK l { rc with state:=.busy } :: blk A 52 [z.1.2] :: cL jJ.cells z.1.2 62 4 (jP es n d z.1.1) :: blk p 28 [dv] :: blk t 200 (Ze f) :: blk y 37 [g] :: (Tl.R f n q) :: cL Ge.cells dv 110 3 es :: cL fL g 3 1 d :: F) aV:=mB (R' := (Tl.R f n q)) 6 ad rfl ht rfl
          refine fK ay 1 ?_
          refine jF (iY ?_)
          refine iL (pvs:=[(0,(Za ((cE es (cE d j)).w))),(1,(C3 ((gB n q.s.lb).a) ((gB n q.s.lb).c:Int) ((gB n q.s.lb).s:Int)))]) (v:=.agg (yS ((cE es (cE d j)).w) ((gB n q.s.lb).a) ((gB n q.s.lb).c:Int) ((gB n q.s.lb).s:Int))) rfl rfl (i6 [(0,(Zd ((cE es (cE d j)).w))),(1,(Bc ((gB n q.s.lb).a) ((gB n q.s.lb).c:Int) ((gB n q.s.lb).s:Int)))] Au S1 rfl oh rfl) (jB (vs:=(Oz ((cE es (cE d j)).w) ((gB n q.s.lb).a) ((gB n q.s.lb).c:Int) ((gB n q.s.lb).s:Int))) (cs:=(tQ ((cE es (cE d j)).w) ((gB n q.s.lb).a) ((gB n q.s.lb).c:Int) ((gB n q.s.lb).s:Int))) rfl rfl Er Au rfl (by simp[Value.cells]) rfl rfl rfl ay ?_)
          intro ae aW bp bq O
          have O:St _ (row (Zu ae) 62 4 1 ((tQ ((cE es (cE d j)).w) ((gB n q.s.lb).a) ((gB n q.s.lb).c:Int) ((gB n q.s.lb).s:Int))) :: gK l { rc with state:=.busy } :: blk A 52 [z.1.2] :: cL jJ.cells z.1.2 62 4 (jP es n d z.1.1) :: blk p 28 [dv] :: blk t 200 (Ze f) :: blk y 37 [g] :: (Tl.R f n q) :: cL Ge.cells dv 110 3 es :: cL fL g 3 1 d :: F) aW:=O
          refine fK O 1 ?_
          refine jF (jX ?_)
          refine kR (cf:=jJ.cells) (ys:=(jP es n d z.1.1)) (zs:=[(⟨(cE es (cE d j)).w,(gB n q.s.lb).a,((gB n q.s.lb).c),((gB n q.s.lb).s)⟩:jJ)]) (LL:=fun H=>(row (Zu ae) 62 4 1 ((tQ ((cE es (cE d j)).w) ((gB n q.s.lb).a) ((gB n q.s.lb).c:Int) ((gB n q.s.lb).s:Int))) :: gK l { rc with state:=.busy } :: blk A 52 [z.1.2] :: cL jJ.cells H 62 4 ((jP es n d z.1.1)++[(⟨(cE es (cE d j)).w,(gB n q.s.lb).a,((gB n q.s.lb).c),((gB n q.s.lb).s)⟩:jJ)]) :: blk p 28 [dv] :: blk t 200 (Ze f) :: blk y 37 [g] :: (Tl.R f n q) :: cL Ge.cells dv 110 3 es :: cL fL g 3 1 d :: F)) 3 rfl rfl rfl Er Au rfl d_ O rfl (kG O (i:=0) rfl) (fun x hx=>zr.1 (show List.all _ _=true from rfl) x hx) (by simp only[zb,zd,maxLen];omega) (by simp only[zb,zd,maxLen];omega) f_ ?_
          intro H aX af br
          have af:St _ (row (Zu ae) 62 4 1 ((tQ ((cE es (cE d j)).w) ((gB n q.s.lb).a) ((gB n q.s.lb).c:Int) ((gB n q.s.lb).s:Int))) :: gK l { rc with state:=.busy } :: blk A 52 [z.1.2] :: cL jJ.cells H 62 4 ((jP es n d z.1.1)++[(⟨(cE es (cE d j)).w,(gB n q.s.lb).a,((gB n q.s.lb).c),((gB n q.s.lb).s)⟩:jJ)]) :: blk p 28 [dv] :: blk t 200 (Ze f) :: blk y 37 [g] :: (Tl.R f n q) :: cL Ge.cells dv 110 3 es :: cL fL g 3 1 d :: F) aX:=af
          have ag:=St.sub (L' := (gK l { rc with state:=.busy } :: blk A 52 [z.1.2] :: cL jJ.cells H 62 4 ((jP es n d z.1.1)++[(⟨(cE es (cE d j)).w,(gB n q.s.lb).a,((gB n q.s.lb).c),((gB n q.s.lb).s)⟩:jJ)]) :: blk p 28 [dv] :: blk t 200 (Ze f) :: blk y 37 [g] :: (Tl.R f n q) :: cL Ge.cells dv 110 3 es :: cL fL g 3 1 d :: F)) af (List.Sublist.cons _ (List.Sublist.refl _))
          refine iS 1 ag (fun bt az=>?_) (hvs:=(cells_one (yh ag (i:=2) rfl))) (h1:=(gD (yh ag (i:=2) rfl) je))
          refine fK az 2 ?_
          refine qa 0 az rfl bv bA rfl ?_
          intro aA ah
          have ah:St _ (gK l rc :: blk A 52 [H] :: cL jJ.cells H 62 4 ((jP es n d z.1.1)++[(⟨(cE es (cE d j)).w,(gB n q.s.lb).a,((gB n q.s.lb).c),((gB n q.s.lb).s)⟩:jJ)]) :: blk p 28 [dv] :: blk t 200 (Ze f) :: blk y 37 [g] :: (Tl.R f n q) :: cL Ge.cells dv 110 3 es :: cL fL g 3 1 d :: F) aA:=ah
          have bB:j+1=d.length\/(cE es (cE d (j+1))).w≠(cE es (cE d j)).w:=by rw[<-hj];first|exact .inl o_|exact .inr o_
          have aY:St _ (gK l rc :: blk A 52 [H] :: cL jJ.cells H 62 4 (jP es n d (z.1.1+1)) :: blk p 28 [dv] :: blk t 200 (Ze f) :: blk y 37 [g] :: (Tl.R f n q) :: cL Ge.cells dv 110 3 es :: cL fL g 3 1 d :: F) aA:=y0 2 ah rfl ((by rw[bx,hj,RT bB];first|done|rfl))
          exact⟨_,rfl,rfl,(⟨(z.1.1+1,H),by show z.1.1+1<=_;omega⟩:og d.length),rfl,yd [_,_,_,_,_,_] _ aY⟩
   have aZ:St _ [((fun(z:og d.length)=>fN (Fg (gK l rc) A z.1.2 (jP es n d z.1.1) p dv t f y g)) (⟨(0,Zh),ko _⟩:og d.length)),(Tl.R f n I),cL Ge.cells dv 110 3 es,jy dd (some []),cL fL g 3 1 d,blk C 37 [g],blk D 200 (Ze f),blk E 28 [dv]] wl:=lJ bL (List.Perm.cons _ (List.Perm.cons _ (List.Perm.swap _ _ _)))
   have a0:=ye [0,1,2,4,5,6,7,3] aZ
   have bG:=yd [_,_,_,_,_,_,_] _ a0
   refine CR.mono (T3 (fun(z:og d.length)=>fN (Fg (gK l rc) A z.1.2 (jP es n d z.1.1) p dv t f y g)) (fun z:og d.length=>z.1.1) (⟨(0,Zh),ko _⟩:og d.length) l C D E f n I es d dv g wl bO rfl bK (lq bG (i:=0) rfl) hn hg bz o_) ?_
   rintro _ w9 ⟨z,T,-,bM,bR⟩
   have bw:=yp (yw bG bR)
   have bP:St _ [gK l rc,blk A 52 [z.1.2],cL jJ.cells z.1.2 62 4 (jP es n d z.1.1),blk p 28 [dv],blk t 200 (Ze f),blk y 37 [g],(Tl.R f n T),cL Ge.cells dv 110 3 es,cL fL g 3 1 d,blk C 37 [g],blk D 200 (Ze f),blk E 28 [dv],jy dd (some [])] w9:=bw
   have a1:=ye [0,12,1,2,3,4,5,6,7,8,9,10,11] bP
   exact⟨(z,T),bM,a1⟩
 . rintro⟨z,T⟩ dd bu hC ai
   have bT:=hC.1
   refine zX tt none ai 5 ?_
   refine kq (v:=z.1.2) rfl rfl (fK ai 4 ?_)
   refine uU 0 ai rfl rfl ?_
   intro w8 bw
   have bw:St _ [jy dd none,blk A 52 [z.1.2],cL jJ.cells z.1.2 62 4 (jP es n d z.1.1),blk p 28 [dv],blk t 200 (Ze f),blk y 37 [g],(Tl.R f n T),cL Ge.cells dv 110 3 es,cL fL g 3 1 d,blk C 37 [g],blk D 200 (Ze f),blk E 28 [dv]] w8:=bw
   have a2:=ye [7,2] bw
   have a3:St _ [cL Ge.cells dv 110 3 es,cL jJ.cells z.1.2 62 4 (jP es n d (d.length+1))] w8:=y0 1 a2 rfl (show _=(jP es n d (d.length+1)) by rw[bT])
   exact⟨_,results_tmp2 results48 _ _ _,_,rfl,by rw[ox,ox];exact⟨z.1.2,d,rfl,bJ,yj (R' := (On dv es z.1.2 (jP es n d (d.length+1)))) (yd [_,_] _ a3) za⟩⟩
theorem aho(c:WC)(D E:Nat)(s:WW)(w:World)(G:Own (Z7 D E c s) w)(I:c.de<=12) :
 CR ya 18 (Zg D) w (fun r w' => ∃ (v:Value) (K:List Int) (L:List Lv) (es:List Ge) (o:List Nat),v=r/\((s.u.oc K/\s.u.lX L/\mE K L es L.length)/\rE es o)/\fP (Z7 D E c s) w w' (fN [(Z7 D E c s),cL jJ.cells v 62 4 (jP es K.length o (o.length+1))])):=by
 refine gj func18 ?_
 have F:=(yy G).unpack
 have C:=oV (yg F 1 rfl)
 refine fM F 9 ?_
 refine gF 0 F (Cq D E w ·) fun i d=>?_
 refine cH d 12 ?_
 refine cl (B8 c E s i (yg d 1 rfl) I) ?_
 rintro _ j ⟨z,k,A,e,l,f,rfl,a,ht⟩
 have n:=ye [1,0] d
 have b:=yp (yt 0 n ht)
 have C:=oV (yg b 0 rfl)
 have H:=mE.DE C.2.1 a.2.1 a.2.2
 have N:=a.1.len C.2.1 C.2.2
 have O:=a.2.1.len C.2.1
 have M:=a.2.2.len
 have J:=C.1.en
 refine cH b 12 ?_
 refine iA (m:=e.length) 1 rfl rfl yx b rfl (cH b 1 ?_)
 refine cl (afY e.length f k j (yg b 2 rfl) o_ H o_) ?_
 rintro _ B ⟨g,p,rfl,q,ht⟩
 have t:=ye [2,0,1,3,4] b
 have h:=yp (yt 0 t ht)
 refine gm h 14 g ?_
 have x:=ye [5,2,1] h
 have y:=yd [_,_] _ x
 exact⟨g,e,l,f,p,rfl,⟨a,q⟩,yk y⟩
theorem ahs(c:WC)(M F:Nat)(s:WW)(dv:Value)(ds:List Int)(R:fJ)(P:∀ w,R.holds w->gV 1 iB (fun _=>True) w dv ds)(w:World)(S:Own (yK M F c s R) w)(V:c.de<=12)(T:∀ x∈ds,ij .u64 x) :
 CR ya 19 (yO M dv) w (fun r w' => (∃ (K:List Int) (L:List Lv) (es:List Ge),(s.u.oc K/\s.u.lX L/\mE K L es L.length)/\(ds.length+1<es.length\/c.lT<(ds.length:Int))/\r = .tuple #[.slice none 0 0,.int .i64 14]/\fP (yK M F c s R) w w' (yK M F c s R))\/∃ (rv:Value) (K:List Int) (L:List Lv) (es:List Ge),(s.u.oc K/\s.u.lX L/\mE K L es L.length)/\(¬ (ds.length+1<es.length\/c.lT<(ds.length:Int)))/\r = .tuple (vD rv)/\fP (yK M F c s R) w w' (fN [(yK M F c s R),cL mM.cells rv 60 3 (oG es K.length (zC es.length ds) (es.length+1))])):=by
 refine gj func19 ?_
 have O:=Own.of S
 have N:=oV (yg O 1 rfl)
 have Q:=P _ (nV O (i:=2) rfl)
 refine fM O 10 ?_
 refine gF 0 O (Cq M F w ·) fun n g=>?_
 refine cH g 12 ?_
 refine cl (B8 c F s n (yg g 1 rfl) V) ?_
 rintro _ o ⟨E,p,G,f,h,d,rfl,b,ht⟩
 have q:=ye [1,0,2] g
 have a:=yp (yt 0 q ht)
 have N:=oV (yg a 0 rfl)
 have U:=mE.DE N.2.1 b.2.1 b.2.2
 have Y:=b.1.len N.2.1 N.2.2
 have Z:=b.2.1.len N.2.1
 have X:=b.2.2.len
 have W:=N.1.en
 refine cH a 13 ?_
 refine jO (v:=dv) rfl rfl yx Q (cH a 1 ?_)
 refine iA (m:=d.length) 2 rfl rfl qt a rfl (cH a 1 ?_)
 by_cases H:(ds.length:Int)<((d.length:Int)-1:Int)
 . refine jk a 23 Zh (.int .i64 14) ?_
   have t:=ye [4,0,5] a
   exact .inl ⟨f,h,d,b,o_,rfl,yk t⟩
 . refine cH a 3 ?_
   refine jO (v:=dv) rfl rfl yx Q (cH a 4 ?_)
   refine gF 0 a (U7 c F s o ·) fun y e=>?_
   refine J8 (cs:=(yS c.win c.cQ c.de c.lT)) (v:=(Za c.lT)) rfl rfl Es rfl yf rfl rfl ?_
   by_cases I:(ds.length:Int)>(c.lT:Int)
   . refine jk e 13 Zh (.int .i64 14) ?_
     have z:=ye [4,0,5] e
     exact .inl ⟨f,h,d,b,o_,rfl,yk z⟩
   . refine cH e 10 ?_
     refine iA (m:=f.length) 1 rfl rfl yx e rfl ?_
     have A:=ye [2,5,0,1,3,4] e
     have j:=yd [_,_] _ A
     refine cH e 2 ?_
     refine cl (af1 f.length d p dv ds R P y (yg j 0 rfl) T o_ U o_ o_) ?_
     rintro _ J ⟨k,rfl,B⟩
     have l:=(yw j B)
     refine jk l 7 k Zc ?_
     have C:=ye [6,3,1,2] l
     have D:=yd [_,_,_] _ C
     exact .inr ⟨k,f,h,d,b,o_,rfl,yk D⟩
theorem ahr(c:WC)(k e:Nat)(s:WW)(cs:List Value)(w:World)(r:Own (Z2 k ((.pointer (some ⟨e,0,none⟩)) :: cs) c e s) w)(a a2:Int)(A:s.u.t.cnt a≠0) :
 CQ ya 26 (Iy k a a2) w (.tuple VB) (Z2 k ((.pointer (some ⟨e,0,none⟩)) :: cs) c e s):=by
 refine ja func26 r 2 fun z=>?_
 refine gN z (fun l m n o g=>?_)
 refine gN g (fun p h q x b=>?_)
 refine cH b 9 ?_
 refine gF 2 b (uq k e _ h ·) fun i d=>?_
 have j:=ye [2,3,0,1] d
 refine cH d 11 ?_
 refine gy (UY c k e s _ i · a A) j fun y f=>fK f 19 ?_
 refine r0 (v:=Zc) (v' := Zp) (v'' := E3) results26 rfl rfl rfl ?_
 exact⟨rfl,yk f⟩
theorem Eh{R:fJ}{B:List fJ}{w:World}(h:fP R w w' (fN (A :: B))):fP R w w' A :=
 ⟨h.holds A za,h.gf,fun b hb=>h.place b (qw.2 ⟨A,za,hb⟩),Hs (x:=A) h.nodup za,fun b hb=>h.lt b (qw.2 ⟨A,za,hb⟩)⟩
theorem Ay{R:fJ}{A B:List fJ}{w:World}(h:fP R w w' (fN (A++B))):fP R w w' (fN A):=by
 have a:∀ b∈jb A,b∈jb (A++B):=fun b hb=>by rw[J4];exact sj _ hb
 have c:(jb (A++B)).Nodup:=h.nodup
 rw[J4]at c
 exact⟨fun Q d=>h.holds Q (sj _ d),h.gf,fun b hb=>h.place b (a b hb),(zo.1 c).1,fun b hb=>h.lt b (a b hb)⟩
theorem rM{P:Program}{f:Nat}{args:Array Value}{w:World}{F:Value->World->Prop}(h:CR P f args w F)(hp:∀ r w', F r w' -> fP A w w' A):CR P f args w (fun r w' => ∃ rv:Value,rv=r/\fP A w w' A) :=
 CR.mono h fun r w' h=>⟨r,rfl,hp r w' h⟩
theorem R5{v e:Nat}{u a:fR}(h:u.ok v e)(b:a.ok v e)(f:∀ y,a.has y->u.has y)(x:Int)(k:a.t.mem x):u.t.mem x:=by
 obtain⟨i,hi,c⟩:=(b.mem x).1 k
 obtain⟨j,g,d⟩:=f _ ⟨i,hi,rfl⟩
 exact(h.mem x).2 ⟨j,g,by rw[d];exact c⟩
theorem Vk.acT{s s2:WW}{k:Vk}{v e:Nat}(h:Vk.of s k)(d:s.u.ok v e)(f:s2.u.ok v e)(b:∀ y,s2.u.has y↔s.u.has y):Vk.of s2 k:=by
 obtain⟨L,c,g⟩:=h.SN
 exact⟨⟨h.ids.kN,fun x=>(h.ids.mem x).trans ⟨fun a=>R5 f d (fun y=>(b y).2) x a,fun a=>R5 d f (fun y=>(b y).1) x a⟩⟩,⟨L,⟨fun x=>(c.mem x).trans (b x).symm,c.kN⟩,g⟩⟩
theorem qX.acK{c:WC}{s:WW}{n v e:Nat}(d:qX c s n)(f:s.u.ok v e):s.u.t.cnt 99≠0:=fun h=>by
 obtain⟨i,hi,a⟩:=(f.mem 99).1 (PY h)
 have b:=d.ids _ ⟨i,hi,rfl⟩
 rcases a with a|a<;>rw[a]at b<;>omega
theorem afP:ya.stoodInHeld 43=false:=by kernel_rfl
theorem afO:ya.stoodInHeld 41=false:=by kernel_rfl
theorem ZB:ya.eqGuardType ya.depth 43=false:=by kernel_rfl
theorem Yx(x:Lv)(w:World):(Op.equal 43 (wU x) (wU x)).run ya w = .ok true w :=
 aeW wm afP d_ d_ d_ d_ rfl rfl rfl rfl yf ym Ep we ur
  (aeV 9997 Ep afO d_ d_ d_ d_ rfl rfl rfl rfl ym ym ur ur)
theorem Yw(j l:Value)(ys:List Lv)(w:World)(n:gV 7 Lv.cells (fun _=>True) w j ys)(hb:gV 7 Lv.cells (fun _=>True) w l ys)(o:ys.length<=1000000) :
 CK ya 30 #[j,l] w (.bool true):=by
 refine iE func30 9 fun m=>?_
 refine jO (v:=j) rfl rfl qu n (cH m 1 ?_)
 refine jO (v:=l) rfl rfl qu hb (gz rfl (q7 (Eq.refl _)) (fZ m 12 ?_))
 refine lp (α:=Nat) (fun i=>[(0,j),(1,l),(5,(Za i))]) (fun i w1=>St [(w,[])] [] w1/\i<=ys.length) (fun i=>ys.length-i) 0 oh (⟨m,o_⟩) ?_
 rintro i d e ⟨k,hi⟩
 refine fM k 5 ?_
 refine jO (v:=j) rfl rfl qu n ?_
 by_cases f:(i:Int)<(ys.length:Int)
 . obtain⟨a,g⟩:=oT (show i<ys.length by omega)
   refine gh k 18 fun h b=>?_
   refine GP (c:=true) (xs:=(Je a)) (ys:=(Je a)) rfl rfl rfl ZB (fun w=>Yx a w) (fK b 11 ?_)
   exact gM (i+1) oh (⟨b,o_⟩) o1
 . refine gm k 15 Zi ?_
   exact⟨rfl,k.gf s_⟩
theorem FD{P:Program}{f:Nat}{args:Array Value}{w:World}{R:fJ}{v:Value}(h:Own R w->CR P f args w (fun r w' => r=v/\fP R w w' R))(a:Own (fN [R]) w):CR P f args w (fun r w' => r=v/\fP (fN [R]) w w' (fN [R])) :=
 CR.mono (h (lq (L:=[R]) (i:=0) (Own.of a) rfl)) fun r w' ⟨b,c⟩=>⟨b,yj (yd [_] _ (yt 0 (Own.of a) c)) za⟩
theorem Pn(xs:List Mw)(T:Int)(more:Mw){o:Obj}(w:World)(hl:gV 5 Mw.cells (fun _=>True) w dv xs)(cD:∀ x∈xs,x.mv.ok)(hm:more.mv.ok)(hT:(kE o).holds w) :
 CK ya 5 #[dv,(Za T),(.agg #[(.bool more.wa),(.int .u8 more.u),(.int .u8 more.v),(.int .i8 more.wt),(.int .u8 more.af)])] w (.bool true):=by
 refine gj func5 ?_
 have bk:=k9 w
 have aR:0<=more.u/\more.u<=255:=hm.u
 have bc:0<=more.v/\more.v<=255:=hm.v
 have b3 : -128<=more.wt/\more.wt<=127:=hm.wt
 have bV:0<=more.af/\more.af<=255:=hm.af
 refine fM bk 2 ?_
 refine gN bk (fun Q aT b5 b6 E=>?_)
 refine cH E 6 ?_
 refine cl (acj dv xs aT (yu E s_ d_ hl) cD) ?_
 rintro _ aU ⟨d,g,f,rfl,aV,ht⟩
 have z:=yp (y9 E ht)
 obtain⟨kk,hS,cK⟩:=aV
 have F:=oV (yg z 0 rfl)
 have aA:=qX.acK hS F.2.1
 have cO:=hS.now
 have cN:=hS.added
 have cM:=F.1.n0
 refine cH z 22 ?_
 refine gF 0 z (Cs cG d f aU ·) fun aW G=>?_
 refine cH G 1 ?_
 refine cl (Nb cG d f aW (yg G 0 rfl)) ?_
 rintro _ aX ⟨H,I,rfl,aY,ht⟩
 have S:=yp (yt 0 G ht)
 have aK:=aY
 have cE:=aK.len F.2.1
 have cJ:cG.cQ<=1000000:=by decide
 have aZ:=ye [2,0,1,3] S
 have U:=yd [_,_] _ aZ
 refine cH S 7 ?_
 refine cl (rM (ZJ cG g d f aX (yg U 0 rfl) d_) (fun r w' ⟨_,_,_,_,_,_,_,_,h⟩=>Eh h)) ?_
 rintro _ a0 ⟨b7,rfl,a1⟩
 have V:=(yw U a1)
 have W:=yd [_,_] _ V
 refine cH V 5 ?_
 refine cl (rM (aho cG g d f a0 (yg W 0 rfl) d_) (fun r w' ⟨_,_,_,_,_,_,_,h⟩=>Eh h)) ?_
 rintro _ a2 ⟨b8,rfl,a3⟩
 have Y:=(yw W a3)
 have Z:=yd [_,_] _ Y
 refine cH Y 5 ?_
 refine cl (rM (ahh cG g d f a2 (yg Z 0 rfl) d_) (fun r w' ⟨_,_,_,_,_,_,_,h⟩=>Eh h)) ?_
 rintro _ a4 ⟨b9,rfl,a5⟩
 have aa:=(yw Z a5)
 have ab:=yd [_,_] _ aa
 refine cH aa 5 ?_
 refine cl (rM (ahl cG g d f a4 (yg ab 0 rfl) d_) (fun r w' ⟨_,_,_,_,_,_,_,h⟩=>Eh h)) ?_
 rintro _ ca ⟨cc,rfl,a6⟩
 have ac:=(yw ab a6)
 refine cH ac 5 ?_
 refine kA (cf:=iB) (z0:=(0:Int)) (m:=60) (c:=60) rfl rfl rfl yx jm rfl f_ d_ (zh _) o_ o_ ac ?_
 intro ad ae cd ce a7
 have ag:=St.bR (cf:=iB) 0 a7
 generalize (Value.slice (some ⟨ad,0,none⟩) 60 60)=J at ag ⊢
 have a8:=ye [1,2,0,3,4] ag
 have ah:=yd [_,_,_] _ a8
 refine cl (rM (ahs cG g d f J (List.replicate 60 0) (rL J (List.replicate 60 (0:Int))) (fun _ h=>aeK h fun _=>rfl) ae (yg ah 0 rfl) d_ (fun x hx=>by rw[List.eq_of_mem_replicate hx];exact And.intro d_ d_)) (fun r w' h=>h.elim (fun⟨_,_,_,_,_,_,h⟩=>h) (fun⟨_,_,_,_,_,_,_,h⟩=>Eh h))) ?_
 rintro _ a9 ⟨cg,rfl,ba⟩
 have ai:=(yw ah ba)
 have aj:=yd [_,_] _ ai
 refine cH ai 6 ?_
 refine cl (rM (UX cG g d f _ a9 (yg aj 0 rfl) 99 T aA) (fun r w' ⟨_,h⟩=>h)) ?_
 rintro _ bb ⟨ch,rfl,bd⟩
 have ak:=(yw aj bd)
 have al:=yd [_,_] _ ak
 refine cH ak 5 ?_
 refine cl (rM (ahr cG g d f _ bb (yg al 0 rfl) 99 99 aA) (fun r w' ⟨_,h⟩=>h)) ?_
 rintro _ ci ⟨cj,rfl,be⟩
 have am:=(yw al be)
 refine cH am 6 ?_
 refine jB (vs:=[(.int .i64 2),qY]) (cs:=[(.int .i64 2),qY]) rfl rfl yr ti2 rfl (by simp[Value.cells]) rfl rfl rfl am ?_
 intro L bf ck cm bg
 have bh:=St.u6 0 bg rfl (aeE (yL L) 2 ([2,1]))
 have bi:=ye [1,0,2,3,4,5] bh
 have an:=yd [_,_] _ bi
 refine cl (rM (ahn g d _ (yL L) [2,1] bf (yg an 0 rfl) rfl d_ T) (fun r w' ⟨_,h⟩=>h)) ?_
 rintro _ bj ⟨cn,rfl,bl⟩
 have ao:=(yw an bl)
 refine cH ao 6 ?_
 refine gy (FD (fun h=>ahi g d bj h) ·) ao fun bm aq=>?_
 have bo:=ye [0,2,1,3,4,5] aq
 have ar:=yd [_,_] _ bo
 refine cH aq 9 ?_
 refine cl (CR.mono (ahp cG g d f bm (yg ar 0 rfl) d_) fun r w' ⟨k,_,_,_,h1,h2⟩=>(⟨k,r,rfl,h1,Ay (A:=[_,_,_]) (B:=[_,_]) h2⟩:∃ (k:Vk) (rv:Value),rv=r/\Vk.of f k/\fP _ _ w' (I8 g d (Vr f) k k.K.length cG f))) ?_
 rintro _ bp ⟨l,co,rfl,bq,br⟩
 have au:=(yw ar br)
 have ap:=bq
 have av:=yd [_,_,_] _ au
 refine cH au 6 ?_
 refine cl (rM (UW cG g d f l ap 1 bp (yg av 0 rfl) T) (fun r w' ⟨_,_,h⟩=>Ay (A:=[_,_,_]) (B:=[_]) h)) ?_
 rintro _ aw ⟨cp,rfl,bs⟩
 have ax:=(yw av bs)
 have bt:=nU ax 2 1
 have bu:=ye [1,2,3,0,4,5,6,7] bt
 have ay:=yd [_,_,_,_] _ bu
 refine cH ax 6 ?_
 refine cl (rM (ahm cG g d f l ap 1 Zh [] aw (yg ay 0 rfl) .nil d_ T) (fun r w' ⟨_,_,h⟩=>Ay (A:=[_,_,_,_]) (B:=[_]) h)) ?_
 rintro _ bv ⟨cq,rfl,bw⟩
 have az:=(yw ay bw)
 refine cH az 6 ?_
 refine gy (FD (fun h=>HL g d l 1 (Vr f) bv h) ·) az fun bx M=>cH M 3 ?_
 refine gF 2 M (Cs cG d f bx ·) fun bA C=>?_
 refine cH C 1 ?_
 refine gz rfl (q7 (Eq.refl _)) (cH C 3 ?_)
 refine cl (Nb cG d f bA (yg C 2 rfl)) ?_
 rintro _ bB ⟨aB,cr,rfl,bC,ht⟩
 have bD:=ye [2,0,1,3,4,5,6,7] C
 have bE:=yp (yt 0 bD ht)
 have D:=y0 1 bE rfl (fR.lX.uniq bC aK)
 refine cH D 1 ?_
 refine ig D (Yw aB H I bB (yv D 1 rfl).any (yv D 7 rfl).any o_) fun ct aC=>fZ aC 8 ?_
 refine jS mixed [([0,1,3,4,5,6,2],[4])] [7,8] aC (fun bG t=>iY ?_)
 refine cH t 3 ?_
 refine ld rfl rfl AI rfl (mC t 8 rfl rfl) (rem (a:=more.af) (b:=30) (e:=more.af%30) rfl rfl rfl d_ (AO bV.1) (cH t 1 ?_))
 refine gF 0 t (Nc cG d f bG ·) fun bH y=>?_
 refine fK y 1 ?_
 refine nF (ku rfl (mZ (s8 rfl AI rfl (mC y 8 rfl rfl)) rfl rfl) (trivial)) (jX ?_)
 refine cH y 1 ?_
 refine cl (Nh cG d f bH (yg y 0 rfl) (f.now+more.af%30) o_ o_) ?_
 rintro _ cu ⟨n,rfl,bI,ht⟩
 have aD:=yt 0 y ht
 obtain⟨⟨cI,cF,_,_⟩,bz⟩:=bI
 refine fZ aD 3 ?_
 refine jS mixed [([0,1,2,3,4,5,6,7,8,9,10,11,12,13],[2,6,10])] [14,15] aD (fun bJ p=>iY ?_)
 refine cH p 2 ?_
 refine ld rfl rfl AI rfl (mC p 8 rfl rfl) (rem (a:=more.u) (b:=12) (e:=more.u%12) rfl rfl rfl d_ (AO aR.1) (cH p 2 ?_))
 refine ld rfl rfl AI rfl (mC p 8 rfl rfl) (rem (a:=more.v) (b:=12) (e:=more.v%12) rfl rfl rfl d_ (AO bc.1) (cH p 2 ?_))
 refine ld rfl rfl underlying68 rfl (mC p 8 rfl rfl) (cH p 2 ?_)
 refine gF 0 p (Nc cG d n bJ ·) fun bK q=>?_
 refine fK q 1 ?_
 refine nF (ku rfl (mZ (s8 rfl AI rfl (mC q 8 rfl rfl)) rfl rfl) (ku rfl (mZ (s8 rfl AI rfl (mC q 8 rfl rfl)) rfl rfl) (ku rfl (mZ (s8 rfl underlying68 rfl (mC q 8 rfl rfl)) rfl rfl) (trivial)))) (jX ?_)
 refine iL (pvs:=[(0,(Zo (more.u%12))),(1,(Zo (more.v%12))),(2,(Za more.wt)),(3,(Za n.now))]) (v:=.agg #[(Zo (more.u%12)),(Zo (more.v%12)),(Za more.wt),(Za n.now)]) rfl rfl (i6 [(0,(Zw (more.u%12))),(1,(Zw (more.v%12))),(2,(Zd more.wt)),(3,(Zd n.now))] we DU rfl oh rfl) ?_
 have b4:Lv.ok (⟨0,0,more.u%12,more.v%12,more.wt,n.now,0⟩:Lv):=by have h9:=Mv.ok.zF (x:=⟨more.u,more.v,more.wt,0⟩) ⟨aR,bc,b3,by show (0:Int)<=0/\(0:Int)<=255;decide⟩ (now:=n.now) o_ o_;simpa[Mv.zF]using h9
 refine cl (U3 cG d n bK (yg q 0 rfl) (⟨0,0,more.u%12,more.v%12,more.wt,n.now,0⟩:Lv) b4 (AV _) (by show n.now<=1000000;omega) o_) ?_
 rintro _ bL ⟨cv,j,rfl,bM,ht⟩
 have N:=yt 0 q ht
 have bF:=bM.2
 refine cH N 11 ?_
 refine gF 0 N (Cs cG d j bL ·) fun aE s=>?_
 refine cH s 1 ?_
 by_cases aF:(Vr j:Int)=(Vr f:Int)
 . have bn:Vr j=Vr f:=by have h9:=aF;omega
   have bU:=(bz.trans bF).eq d_ bn
   have i:=Vk.acT ap F.2.1 (oV (yg s 0 rfl)).2.1 bU
   have bN:=St.u6 2 s rfl (show _=blk g 108 (Dm d (Vr j) l l.K.length) by rw[bn])
   have bO:=ye [2,3,0,1,4,5,6,7,8] bN
   have aG:=yd [_,_,_] _ bO
   refine cH s 10 ?_
   refine cl (rM (UW cG g d j l i 1 aE (yg aG 0 rfl) T) (fun r w' ⟨_,_,h⟩=>Ay (A:=[_,_,_]) (B:=[_]) h)) ?_
   rintro _ bP ⟨cw,rfl,bQ⟩
   have aH:=(yw aG bQ)
   have aI:=yd [_,_,_] _ aH
   refine cH aH 5 ?_
   refine cl (rM (M4 cG g d j l i 1 bP (yg aI 0 rfl)) (fun r w' ⟨_,_,_,h⟩=>Ay (A:=[_,_,_]) (B:=[_,_]) h)) ?_
   rintro _ bR ⟨cx,rfl,bS⟩
   have aJ:=(yw aI bS)
   refine cH aJ 5 ?_
   refine gy (FD (fun h=>HL g d l 1 (Vr j) bR h) ·) aJ fun bT O=>cH O 3 ?_
   refine ig O (Vi bT (St.xl O (X:=[]) s_ hT s_)) fun cy aL=>?_
   refine gm aL 5 Zi ?_
   exact⟨rfl,aL.gf s_⟩
 . have cC:Vr f≠Vr j:=by have h9:=aF;omega
   have bW:=ye [2,3,0,1,4,5,6,7,8] s
   have aM:=yd [_,_,_] _ bW
   refine cH s 12 ?_
   refine cl (CR.mono (ahj cG g d j l 1 (Vr f) aE (yg aM 0 rfl) d_ cC d_ T) fun r w' ⟨k,_,h0,h1,h2⟩=>(⟨k,r,rfl,h1,Ay (A:=[_,_,_]) (B:=[_]) h2⟩:∃ (k:Vk) (rv:Value),rv=r/\Vk.of j k/\fP _ _ w' (fN [blk g 108 [(Zb d),Zi,(Zo (Vr j)),k.iv,(Za k.K.length),k.lv,k.rv,k.pv,k.hv,k.sv,(Zb k.cb),(Zb k.mb),(.int .i64 2)],Vk.R k,(WW.R cG d j)]))) ?_
   rintro _ bX ⟨aN,cz,rfl,bY,bZ⟩
   have aO:=(yw aM bZ)
   have i:=bY
   have aP:=yd [_,_,_] _ aO
   refine cH aO 5 ?_
   refine cl (rM (M4 cG g d j aN i 2 bX (yg aP 0 rfl)) (fun r w' ⟨_,_,_,h⟩=>Ay (A:=[_,_,_]) (B:=[_,_]) h)) ?_
   rintro _ b0 ⟨cA,rfl,b1⟩
   have aQ:=(yw aP b1)
   refine cH aQ 5 ?_
   refine gy (FD (fun h=>HL g d aN 2 (Vr j) b0 h) ·) aQ fun b2 P=>cH P 3 ?_
   refine ig P (Vi b2 (St.xl P (X:=[]) s_ hT s_)) fun cB aS=>?_
   refine gm aS 5 Zi ?_
   exact⟨rfl,aS.gf s_⟩
end Go.Proofs.YtedjjkcihkmjgaaGreatDoor
