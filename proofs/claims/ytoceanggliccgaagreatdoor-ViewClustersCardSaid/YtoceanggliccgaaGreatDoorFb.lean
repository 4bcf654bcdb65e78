/- Plain lemmas: rules for walking through code, one for each operation, over any program; an evaluator of closed calls with its soundness; and plain mathematics. No conditions. -/
import Derived.Test.YtoceanggliccgaaGreatDoorFa
import Derived.KernelRfl
import Derived.Laws.BitsAllLaws
import Derived.Sort.Row
import Derived.Maps.RangeRun
set_option linter.unusedVariables false
set_option linter.unusedSectionVars false
set_option linter.unusedSimpArgs false
namespace Go.Sx
open Go
def HJ(P:Program):List (Nat×TypeDesc)->Prop
 | []=>True
 | p :: l=>P.underlying p.1=some p.2/\HJ P l
def allI(P:Program):List (Nat×Nat×Nat×Value)->Prop
 | []=>True
 | p :: l=>TI P p.1 p.2.1 p.2.2.1 p.2.2.2/\allI P l
class TT (P:Program) where
 mx:P.follows .mixedOrders=true
 u:List (Nat×TypeDesc)
 i:List (Nat×Nat×Nat×Value)
 kN:HJ P u
 mT:allI P i
def iY{α:Type}:List (Nat×α)->Nat->Option α
 | [],_=>none
 | p :: l,t=>bif Nat.beq p.1 t then some p.2 else iY l t
theorem kH{P:Program}:∀ {l:List (Nat×TypeDesc)} {t:Nat} {u:TypeDesc},HJ P l->iY l t=some u->P.underlying t=some u
 | [],_,_,_,h=>by simp[iY]at h
 | p :: l,t,u,hl,h=>by
  simp only[iY]at h
  cases hb:Nat.beq p.1 t with
  | true=>rw[hb]at h;simp at h;rw[<-Br hb,<-h];exact hl.1
  | false=>rw[hb]at h;exact kH hl.2 h
theorem mC{P:Program}:∀ {l:List (Nat×Nat×Nat×Value)} {t a b:Nat} {z:Value},allI P l->iY l t=some (a,b,z)->TI P t a b z
 | [],_,_,_,_,_,h=>by simp[iY]at h
 | p :: l,t,a,b,z,hl,h=>by
  simp only[iY]at h
  cases hb:Nat.beq p.1 t with
  | true=>rw[hb]at h;simp at h;have c:=hl.1;rw[h,Br hb]at c;exact c
  | false=>rw[hb]at h;exact mC hl.2 h
section
variable {P:Program}
structure SL (T:TT P) (J:World->Prop) (bs:List (World×List Nat)) (L:List fU) (N:Nat) (r:Option Nat) (ops:Array Oper) (Q:Exit->Act->World->Prop) (l:List Oper) (a:Act):Prop where
 out:∀ w,J w->St bs L w->WL r P ops Q l a w
structure SP (T:TT P) (J:World->Prop) (bs:List (World×List Nat)) (L:List fU) (N:Nat) (r:Option Nat) (Q:Exit->Act->World->Prop) (c:Code) (a:Act):Prop where
 out:∀ w,J w->St bs L w->WP r P c Q a w
structure SQ (T:TT P) (J:World->Prop) (bs:List (World×List Nat)) (L:List fU) (N:Nat) (r:Option Nat) (Q:Exit->Act->World->Prop) (e:Exit) (a:Act):Prop where
 out:∀ w,J w->St bs L w->Q e a w
def Kc(r:Option Nat)(P:Program)(Y:Code)(Q:Exit->Act->World->Prop):Act->World->Prop:=fun a w=>WP r P Y Q a w
variable {T:TT P} {J:World->Prop} {bs:List (World×List Nat)} {L L' : List fU} {r:Option Nat} {ops:Array Oper} {Q:Exit->Act->World->Prop} {rest:List Oper} {n:Nat} {s:List (Nat×Value)} {ds:List Deferred} {w w' w0:World}
variable {N d i j:Nat} {ty t:TypeId} {pos:String} {af:Array Edge} {g:Option (Nat×Bool)} {v u:Value} {x y z:Operand} {X Y:Code} {a:Act} {K' : Act->World->Prop} {l:List Oper}
theorem SP.sq(K:SP T J bs L N r (Exit.then (Kc r P Y Q) Q) X a):SP T J bs L (N+1) r Q (.seq X Y) a:=⟨fun w j h=>wpIn_seq (K.out w j h)⟩
theorem SP.rg{id:Nat}(K:SL T J bs L N r l.toArray Q l (Fr n s ds)):SP T J bs L (N+1) r Q (.region id l.toArray false) (Fr n s ds):=⟨fun w j h=>Go.Sx.rg (K.out w j h)⟩
theorem SP.Kp{id:Nat}(K:SL T (fun _=>True) bs L N r l.toArray Q l (Fr n s ds))(b:Fz l=true:=by kernel_rfl)(a:xI l=false\/NP Q:=by first|exact .inr inferInstance|exact .inl (by kernel_rfl)):SP T (fun _=>True) bs L (N+1) r Q (.region id l.toArray true) (Fr n s ds):=⟨fun w _ h=>Go.Sx.Kp T.mx h (fun w' hs=>K.out w' trivial hs) b a⟩
theorem SP.cT{c:Operand}(K:SP T J bs L N r Q X (Fr n s ds))(a:ev n s c = .bool true:=by exact rfl):SP T J bs L (N+1) r Q (.cond c X Y) (Fr n s ds):=⟨fun w j h=>U9 a (K.out w j h)⟩
theorem SP.cF{c:Operand}(K:SP T J bs L N r Q Y (Fr n s ds))(a:ev n s c = .bool false:=by exact rfl):SP T J bs L (N+1) r Q (.cond c X Y) (Fr n s ds):=⟨fun w j h=>U8 a (K.out w j h)⟩
theorem SP.bk{id:Nat}(K:SP T J bs L N r (Exit.inBlock id Q) X (Fr n s ds)):SP T J bs L (N+1) r Q (.block id X) (Fr n s ds):=⟨fun w j h=>Go.Sx.bk (K.out w j h)⟩
theorem SP.sp(K:SQ T J bs L N r Q .normal (Fr n s ds)):SP T J bs L (N+1) r Q .skip (Fr n s ds):=⟨fun w j h=>Go.Sx.sp (K.out w j h)⟩
theorem SP.xt{id:Nat}(K:SQ T J bs L N r Q (.exit id) (Fr n s ds)):SP T J bs L (N+1) r Q (.exit id) (Fr n s ds):=⟨fun w j h=>Go.Sx.xt (K.out w j h)⟩
theorem SP.rt(K:SQ T J bs L N r Q .ret (Fr n s ds)):SP T J bs L (N+1) r Q .ret (Fr n s ds):=⟨fun w j h=>Go.Sx.rt (K.out w j h)⟩
theorem SQ.tN(K:SP T J bs L N r Q Y a):SQ T J bs L (N+1) r (Exit.then (Kc r P Y Q) Q) .normal a:=⟨fun w j h=>K.out w j h⟩
theorem SQ.tX(K:SQ T J bs L N r Q (.exit j) a):SQ T J bs L (N+1) r (Exit.then K' Q) (.exit j) a:=⟨fun w j h=>K.out w j h⟩
theorem SQ.tR(K:SQ T J bs L N r Q .ret a):SQ T J bs L (N+1) r (Exit.then K' Q) .ret a:=⟨fun w j h=>K.out w j h⟩
theorem SQ.bN(K:SQ T J bs L N r Q .normal a):SQ T J bs L (N+1) r (Exit.inBlock i Q) .normal a:=⟨fun w j h=>K.out w j h⟩
theorem SQ.bR(K:SQ T J bs L N r Q .ret a):SQ T J bs L (N+1) r (Exit.inBlock i Q) .ret a:=⟨fun w j h=>K.out w j h⟩
theorem SQ.bX(K:SQ T J bs L N r Q .normal a):SQ T J bs L (N+1) r (Exit.inBlock i Q) (.exit i) a:=⟨fun w j h=>Go.Sx.bX (K.out w j h)⟩
theorem SQ.HM(K:SQ T J bs L N r Q (.exit j) a)(b:Nat.beq j i=false:=by exact rfl):SQ T J bs L (N+1) r (Exit.inBlock i Q) (.exit j) a:=⟨fun w j h=>Go.Sx.HM b (K.out w j h)⟩
theorem SQ.KB(K:SQ T J bs L N r Q .normal a):SQ T J bs L (N+1) r (xV Q) .normal a:=⟨fun w j h=>Go.Sx.KB (K.out w j h)⟩
theorem SQ.KC(K:SQ T J bs L N r Q .ret a):SQ T J bs L (N+1) r (xV Q) .ret a:=⟨fun w j h=>Go.Sx.KC (K.out w j h)⟩
theorem SP.scp(K:SP T J bs L N r (xV Q) X a):SP T J bs L (N+1) r Q (.scope X) a:=⟨fun w j h=>Go.Sx.scp (K.out w j h)⟩
theorem SP.Jv{l:Nat}(K:SQ T J bs L N r Q .normal a):SP T J bs L (N+1) r Q (.label l) a:=⟨fun w j h=>Go.Sx.Jv (K.out w j h)⟩
theorem SL.nil(K:SQ T J bs L N r Q .normal (Fr n s ds)):SL T J bs L (N+1) r ops Q [] (Fr n s ds):=⟨fun w j h=>ahu (K.out w j h)⟩
theorem SL.sk{op:Op}{g:Nat×Bool}(K:SL T J bs L N r ops Q rest (Fr n ((d,undef) :: s) ds))(a:gB ops n s (some g)=false:=by exact rfl):SL T J bs L (N+1) r ops Q (⟨some d,op,ty,pos,af,some g⟩ :: rest) (Fr n s ds):=⟨fun w j h=>Go.Sx.sk a (K.out w j h)⟩
theorem qI{R:fU}{L:List fU}:(R :: L)[0]? = some R:=rfl
theorem qJ{R a:fU}{L:List fU}:(a :: R :: L)[1]? = some R:=rfl
theorem nt{R a b:fU}{L:List fU}:(a :: b :: R :: L)[2]? = some R:=rfl
theorem nu{R a b c:fU}{L:List fU}:(a :: b :: c :: R :: L)[3]? = some R:=rfl
theorem qK{R a b c d:fU}{L:List fU}:(a :: b :: c :: d :: R :: L)[4]? = some R:=rfl
theorem qL{R a b c d e:fU}{L:List fU}:(a :: b :: c :: d :: e :: R :: L)[5]? = some R:=rfl
theorem Nt{k:IntKind}{a:Int}:(Value.int k a).cells.toList=[Value.int k a]:=rfl
theorem Ns{a:Bool}:(Value.bool a).cells.toList=[Value.bool a]:=rfl
theorem Nu{a:Option Addr}:(Value.pointer a).cells.toList=[Value.pointer a]:=rfl
theorem Nv{a:Option Addr}{m c:Nat}:(Value.slice a m c).cells.toList=[Value.slice a m c]:=rfl
theorem Nr{l:List Value}:(Value.agg l.toArray).cells.toList=l:=by simp[Value.cells]
theorem qM{R a b c d e f:fU}{L:List fU}:(a :: b :: c :: d :: e :: f :: R :: L)[6]? = some R:=rfl
theorem qN{R a b c d e f g:fU}{L:List fU}:(a :: b :: c :: d :: e :: f :: g :: R :: L)[7]? = some R:=rfl
def Bb:List Value->Nat->(List Value->Option (List Value))->Option (List Value)
 | _,0,k=>k []
 | v :: l,m+1,k=>Bb l m fun r=>k (v :: r)
 | [],_+1,_=>none
def sub' (l:List Value)(o m:Nat):Option (List Value):=Bb (l.drop o) m some
theorem KW:∀ (l:List Value) (m:Nat) (k:List Value->Option (List Value)),Bb l m k=if m<=l.length then k (l.take m)else none
 | l,0,k=>by simp[Bb]
 | v :: l,m+1,k=>by simp[Bb,KW l m]
 | [],m+1,k=>by simp[Bb]
theorem wM{l vs:List Value}{o m:Nat}(h:sub' l o m=some vs):vs.length=m:=by
 unfold sub' at h
 rw[KW]at h
 split at h
 . rename_i a
   simp at h
   rw[<-h,zx]
   omega
 . cases h
theorem yK{l vs:List Value}{o m:Nat}(h:sub' l o m=some vs):(l.drop o).take vs.length=vs:=by
 rw[wM h]
 unfold sub' at h
 rw[KW]at h
 split at h
 . simpa using h
 . cases h
theorem SL.mv  (K:SL T J bs L N r ops Q rest (Fr n ((d,v) :: s) ds)) (b:ev n s x=v:=by conv=>lhs;whnf) (a:gB ops n s g=true:=by exact rfl):SL T J bs L (N+1) r ops Q (⟨some d,.move x,ty,pos,af,g⟩ :: rest) (Fr n s ds):=⟨fun w j h=>pw a (fun _=>kI b) (K.out w j h)⟩
theorem SL.E4{α:Type}{cf:α->List Value}{xs:List α}{e e' : TypeId}{kk:IntKind}{k sz by_ i:Nat}{o:Value}(K:SL T J bs L N r ops Q rest (Fr n ((d,jQ sz v k 0) :: s) ds))(l:ev n s x=v:=by conv=>lhs;whnf)(m:ev n s y = .int kk (k:Nat):=by exact rfl)(a:iY T.u t=some (.slice e):=by exact rfl)(f:iY T.i e=some (sz,by_,o):=by exact rfl)(hi:L[i]? = some (fL cf v e' sz xs):=by first|exact qI|exact qJ|exact nt|exact nu|exact qK|exact qL|exact qM|exact qN)(p:Inhabited α:=by infer_instance)(c:∀ x:α,(cf x).length=sz:=by exact fun _=>rfl)(hk:k<xs.length:=by first|omega|(simp only[gC];omega))(b:gB ops n s g=true:=by exact rfl):SL T J bs L (N+1) r ops Q (⟨some d,.indexAddr t x y,ty,pos,af,g⟩ :: rest) (Fr n s ds):=⟨fun w j h=>pw b (fun _=>xK l m (kH T.kN a) (mC T.mT f) (St.yF h hi c) o_ o_ (gy hk)) (K.out w j h)⟩
theorem SL.EP{α:Type}{cf:α->List Value}{xs:List α}{e' : TypeId}{i q k sz off off' szf byf:Nat}{zf:Value}{fields:Array Field}{f:Field}(K:SL T J bs L N r ops Q rest (Fr n ((d,jQ sz v k off') :: s) ds))(o:ev n s x=jQ sz v k off:=by exact rfl)(a:iY T.u t=some (.struct fields):=by exact rfl)(b:fields[i]? = some f:=by exact rfl)(m:iY T.i f.type=some (szf+1,byf,zf):=by exact rfl)(l:off+f.offset=off' := by conv=>lhs;whnf)(hi:L[q]? = some (fL cf v e' sz xs):=by first|exact qI|exact qJ|exact nt|exact nu|exact qK|exact qL|exact qM|exact qN)(p:Inhabited α:=by infer_instance)(e:∀ x:α,(cf x).length=sz:=by exact fun _=>rfl)(hk:k<xs.length:=by first|omega|(simp only[gC];omega))(c:gB ops n s g=true:=by exact rfl):SL T J bs L (N+1) r ops Q (⟨some d,.fieldAddr t x i,ty,pos,af,g⟩ :: rest) (Fr n s ds):=⟨fun w j h=>pw c (fun _=>EO o (kH T.kN a) b (mC T.mT m) l (St.yF h hi e) (gy hk)) (K.out w j h)⟩
theorem SL.AB{α:Type}{cf:α->List Value}{xs:List α}{e' : TypeId}{q k sz off:Nat}{ud:TypeDesc}{u:Value}(K:SL T J bs L N r ops Q rest (Fr n ((d,v) :: s) ds))(f:ev n s x=jQ sz u k off:=by exact rfl)(a:iY T.u t=some ud:=by exact rfl)(e:j4 ud=false:=by exact rfl)(hi:L[q]? = some (fL cf u e' sz xs):=by first|exact qI|exact qJ|exact nt|exact nu|exact qK|exact qL|exact qM|exact qN)(i:Inhabited α:=by infer_instance)(c:∀ x:α,(cf x).length=sz:=by exact fun _=>rfl)(hk:k<xs.length:=by first|omega|(simp only[gC];omega))(hv:(cf (fJ xs k))[off]? = some v:=by exact rfl)(b:gB ops n s g=true:=by exact rfl):SL T J bs L (N+1) r ops Q (⟨some d,.load t x,ty,pos,af,g⟩ :: rest) (Fr n s ds):=⟨fun w j h=>pv b rfl (uE f (kH T.kN a) e (St.yF h hi c) (gy hk) hv) (K.out w j h)⟩
theorem SL.EM{i b k sz off off' szf byf:Nat}{zf:Value}{fields:Array Field}{f:Field}(K:SL T J bs L N r ops Q rest (Fr n ((d,.pointer (some ⟨b,k*sz+off', none⟩)) :: s) ds))(o:ev n s x = .pointer (some ⟨b,k*sz+off,none⟩):=by exact rfl)(a:iY T.u t=some (.struct fields):=by exact rfl)(c:fields[i]? = some f:=by exact rfl)(m:iY T.i f.type=some (szf+1,byf,zf):=by exact rfl)(l:off+f.offset=off' := by conv=>lhs;whnf)(e:gB ops n s g=true:=by exact rfl):SL T J bs L (N+1) r ops Q (⟨some d,.fieldAddr t x i,ty,pos,af,g⟩ :: rest) (Fr n s ds):=⟨fun w j h=>pw e (fun _=>sM o (kH T.kN a) c (mC T.mT m) (by rw[<-l,kD])) (K.out w j h)⟩
theorem SL.fa{i b o o' szf byf:Nat}{zf:Value}{fields:Array Field}{f:Field}(K:SL T J bs L N r ops Q rest (Fr n ((d,.pointer (some ⟨b,o', none⟩)) :: s) ds))(m:ev n s x = .pointer (some ⟨b,o,none⟩):=by exact rfl)(a:iY T.u t=some (.struct fields):=by exact rfl)(c:fields[i]? = some f:=by exact rfl)(l:iY T.i f.type=some (szf+1,byf,zf):=by exact rfl)(k:o+f.offset=o' := by conv=>lhs;whnf)(e:gB ops n s g=true:=by exact rfl):SL T J bs L (N+1) r ops Q (⟨some d,.fieldAddr t x i,ty,pos,af,g⟩ :: rest) (Fr n s ds):=⟨fun w j h=>pw e (fun _=>sM m (kH T.kN a) c (mC T.mT l) k) (K.out w j h)⟩
theorem SL.ld{b o i:Nat}{a:TypeId}{cs:List Value}{ud:TypeDesc}(K:SL T J bs L N r ops Q rest (Fr n ((d,v) :: s) ds))(k:ev n s x = .pointer (some ⟨b,o,none⟩):=by exact rfl)(c:iY T.u t=some ud:=by exact rfl)(f:j4 ud=false:=by exact rfl)(hi:L[i]? = some (blk b a cs):=by first|exact qI|exact qJ|exact nt|exact nu|exact qK|exact qL|exact qM|exact qN)(hv:cs[o]? = some v:=by exact rfl)(e:gB ops n s g=true:=by exact rfl):SL T J bs L (N+1) r ops Q (⟨some d,.load t x,ty,pos,af,g⟩ :: rest) (Fr n s ds):=⟨fun w j h=>pv e rfl (kW k (kH T.kN c) f (h.rH hi hv)) (K.out w j h)⟩
theorem SL.Cq{α:Type}{cf:α->List Value}{xs:List α}{b k sz off i:Nat}{a:TypeId}{ud:TypeDesc}(K:SL T J bs L N r ops Q rest (Fr n ((d,v) :: s) ds))(m:ev n s x = .pointer (some ⟨b,k*sz+off,none⟩):=by exact rfl)(c:iY T.u t=some ud:=by exact rfl)(l:j4 ud=false:=by exact rfl)(hi:L[i]? = some (blk b a (xs.flatMap cf)):=by first|exact qI|exact qJ|exact nt|exact nu|exact qK|exact qL|exact qM|exact qN)(o:Inhabited α:=by infer_instance)(f:∀ x:α,(cf x).length=sz:=by exact fun _=>rfl)(hk:k<xs.length:=by first|omega|(simp only[gC];omega))(hv:(cf (fJ xs k))[off]? = some v:=by exact rfl)(e:gB ops n s g=true:=by exact rfl):SL T J bs L (N+1) r ops Q (⟨some d,.load t x,ty,pos,af,g⟩ :: rest) (Fr n s ds):=⟨fun w j h=>pv e rfl (kW m (kH T.kN c) l (St.Kk h hi f hk hv)) (K.out w j h)⟩
theorem SL.Cs{b o:Nat}{a:TypeId}{cs:List Value}{ud:TypeDesc}(K:SL T J bs L N r ops Q rest (Fr n ((d,v) :: s) ds))(i:ev n s x = .pointer (some ⟨b,o,none⟩):=by exact rfl)(c:iY T.u t=some ud:=by exact rfl)(f:j4 ud=false:=by exact rfl)(hi:(blk b a cs).holds w0:=by assumption)(hb:(w0,[])∈bs:=by simp)(hv:cs[o]? = some v:=by exact rfl)(e:gB ops n s g=true:=by exact rfl):SL T J bs L (N+1) r ops Q (⟨some d,.load t x,ty,pos,af,g⟩ :: rest) (Fr n s ds):=⟨fun w j h=>pv e rfl (kW i (kH T.kN c) f (St.Kt h hb hi hv)) (K.out w j h)⟩
theorem SL.Cu{α:Type}{cf:α->List Value}{xs:List α}{b k sz off:Nat}{a:TypeId}{ud:TypeDesc}(K:SL T J bs L N r ops Q rest (Fr n ((d,v) :: s) ds))(l:ev n s x = .pointer (some ⟨b,k*sz+off,none⟩):=by exact rfl)(c:iY T.u t=some ud:=by exact rfl)(i:j4 ud=false:=by exact rfl)(hi:(blk b a (xs.flatMap cf)).holds w0:=by assumption)(m:Inhabited α:=by infer_instance)(hb:(w0,[])∈bs:=by simp)(f:∀ x:α,(cf x).length=sz:=by exact fun _=>rfl)(hk:k<xs.length:=by first|omega|(simp only[gC];omega))(hv:(cf (fJ xs k))[off]? = some v:=by exact rfl)(e:gB ops n s g=true:=by exact rfl):SL T J bs L (N+1) r ops Q (⟨some d,.load t x,ty,pos,af,g⟩ :: rest) (Fr n s ds):=⟨fun w j h=>pv e rfl (kW l (kH T.kN c) i (St.Sd h hb hi f hk hv)) (K.out w j h)⟩
theorem SL.sL  (K:SL T J bs L N r ops Q rest (Fr n ((d,v) :: s) ds)) (b:ev n s x=v:=by conv=>lhs;whnf) (a:gB ops n s g=true:=by exact rfl):SL T J bs L (N+1) r ops Q (⟨some d,.assign x,ty,pos,af,g⟩ :: rest) (Fr n s ds):=⟨fun w j h=>pw a (fun _=>vL b) (K.out w j h)⟩
theorem SL.rR{p:Addr}(K:SL T J bs L N r ops Q rest (Fr n ((d,.pointer (some p)) :: s) ds))(b:ev n s x = .pointer (some p):=by exact rfl)(a:gB ops n s g=true:=by exact rfl):SL T J bs L (N+1) r ops Q (⟨some d,.nilCheck x,ty,pos,af,g⟩ :: rest) (Fr n s ds):=⟨fun w j h=>pw a (fun _=>wv b) (K.out w j h)⟩
theorem SL.cmp{op:BinOp}{t' : TypeId}{k:IntKind}{a b:Int}{c:Bool}(K:SL T J bs L N r ops Q rest (Fr n ((d,.bool c) :: s) ds))(i:ev n s x = .int k a:=by exact rfl)(l:ev n s y = .int k b:=by exact rfl)(e:kF op a b=some c:=by first|exact oM (by first|assumption|exact rfl|decide)|exact uu (by first|assumption|exact rfl|decide)|exact pI (by first|assumption|exact rfl|decide)|exact kV (by first|assumption|exact rfl|decide)|exact vN (by first|assumption|exact rfl|decide)|exact HP (by first|assumption|exact rfl|decide)|exact Eo (by first|assumption|exact rfl|decide)|exact qd (by first|assumption|exact rfl|decide)|exact c_gt (by first|assumption|exact rfl|decide)|exact pJ (by first|assumption|exact rfl|decide)|exact nv (by first|assumption|exact rfl|decide)|exact oh (by first|assumption|exact rfl|decide))(f:gB ops n s g=true:=by exact rfl):SL T J bs L (N+1) r ops Q (⟨some d,.binOp op t x y t', ty,pos,af,g⟩ :: rest) (Fr n s ds):=⟨fun w j h=>pw f (fun _=>Ib i l e) (K.out w j h)⟩
theorem SL.ar{op:BinOp}{t' : TypeId}{k:IntKind}{a b c e:Int}(K:SL T J bs L N r ops Q rest (Fr n ((d,.int k e) :: s) ds))(m:ev n s x = .int k a:=by exact rfl)(o:ev n s y = .int k b:=by exact rfl)(f:BY op a b=some c:=by exact rfl)(l:k.wrap c=e:=by first|exact oT o_|exact Gg o_|exact TK o_|exact w32u o_)(i:gB ops n s g=true:=by exact rfl):SL T J bs L (N+1) r ops Q (⟨some d,.binOp op t x y t', ty,pos,af,g⟩ :: rest) (Fr n s ds):=⟨fun w j h=>pw i (fun _=>Ei m o f l) (K.out w j h)⟩
theorem SL.ex{i:Nat}{vs:Array Value}(K:SL T J bs L N r ops Q rest (Fr n ((d,v) :: s) ds))(b:ev n s x = .tuple vs:=by exact rfl)(hv:vs[i]? = some v:=by exact rfl)(a:gB ops n s g=true:=by exact rfl):SL T J bs L (N+1) r ops Q (⟨some d,.extract x i,ty,pos,af,g⟩ :: rest) (Fr n s ds):=⟨fun w j h=>pw a (fun _=>EL b hv) (K.out w j h)⟩
theorem SL.E3{e:TypeId}{kk:IntKind}{b m c k sz by_:Nat}{v:Value}(K:SL T J bs L N r ops Q rest (Fr n ((d,.pointer (some ⟨b,k*sz+0,none⟩)) :: s) ds))(p:ev n s x = .slice (some ⟨b,0,none⟩) m c:=by exact rfl)(q:ev n s y = .int kk (k:Nat):=by exact rfl)(f:iY T.u t=some (.slice e):=by exact rfl)(o:iY T.i e=some (sz,by_,v):=by exact rfl)(a:(k:Int)<m:=by first|omega|(simp only[gC];omega))(l:gB ops n s g=true:=by exact rfl):SL T J bs L (N+1) r ops Q (⟨some d,.indexAddr t x y,ty,pos,af,g⟩ :: rest) (Fr n s ds):=⟨fun w j h=>pw l (fun _=>Jl p q (kH T.kN f) (mC T.mT o) ⟨o_,a⟩ s_) (K.out w j h)⟩
theorem SL.iK{α:Type}{cf:α->List Value}{xs:List α}{ok:Nat->Prop}{c:α}{e:TypeId}{kk:IntKind}{k sz by_:Nat}{o:Value}(K:SL T J bs L N r ops Q rest (Fr n ((d,jQ sz v k 0) :: s) ds))(l:ev n s x=v:=by conv=>lhs;whnf)(m:ev n s y = .int kk (k:Nat):=by exact rfl)(a:iY T.u t=some (.slice e):=by exact rfl)(f:iY T.i e=some (sz,by_,o):=by exact rfl)(hi:iw sz cf ok w0 v xs:=by assumption)(hk:xs[k]? = some c:=by first|assumption|exact rfl|exact gy (by first|omega|(simp only[gC];omega)))(b:gB ops n s g=true:=by exact rfl):SL T J bs L (N+1) r ops Q (⟨some d,.indexAddr t x y,ty,pos,af,g⟩ :: rest) (Fr n s ds):=⟨fun w j h=>pw b (fun _=>xK l m (kH T.kN a) (mC T.mT f) hi o_ o_ hk) (K.out w j h)⟩
theorem SL.EN{α:Type}{cf:α->List Value}{xs:List α}{ok:Nat->Prop}{c:α}{i k sz off off' szf byf:Nat}{zf:Value}{fields:Array Field}{f:Field}(K:SL T J bs L N r ops Q rest (Fr n ((d,jQ sz v k off') :: s) ds))(o:ev n s x=jQ sz v k off:=by exact rfl)(a:iY T.u t=some (.struct fields):=by exact rfl)(b:fields[i]? = some f:=by exact rfl)(m:iY T.i f.type=some (szf+1,byf,zf):=by exact rfl)(l:off+f.offset=off' := by conv=>lhs;whnf)(hi:iw sz cf ok w0 v xs:=by assumption)(hk:xs[k]? = some c:=by first|assumption|exact rfl|exact gy (by first|omega|(simp only[gC];omega)))(e:gB ops n s g=true:=by exact rfl):SL T J bs L (N+1) r ops Q (⟨some d,.fieldAddr t x i,ty,pos,af,g⟩ :: rest) (Fr n s ds):=⟨fun w j h=>pw e (fun _=>EO o (kH T.kN a) b (mC T.mT m) l hi hk) (K.out w j h)⟩
theorem SL.jk{α:Type}{cf:α->List Value}{xs:List α}{ok:Nat->Prop}{c:α}{k sz off:Nat}{ud:TypeDesc}{u:Value}(K:SL T J bs L N r ops Q rest (Fr n ((d,v) :: s) ds))(f:ev n s x=jQ sz u k off:=by exact rfl)(a:iY T.u t=some ud:=by exact rfl)(e:j4 ud=false:=by exact rfl)(hi:iw sz cf ok w0 u xs:=by assumption)(hb:(w0,[])∈bs:=by simp)(i:0<sz:=by decide)(hk:xs[k]? = some c:=by first|assumption|exact rfl|exact gy (by first|omega|(simp only[gC];omega)))(hv:(cf c)[off]? = some v:=by exact rfl)(b:gB ops n s g=true:=by exact rfl):SL T J bs L (N+1) r ops Q (⟨some d,.load t x,ty,pos,af,g⟩ :: rest) (Fr n s ds):=⟨fun w j h=>pv b rfl (uE f (kH T.kN a) e (St.CU h hb i hi) hk hv) (K.out w j h)⟩
theorem SL.sO{b o i sz by_:Nat}{m:Value}{a:TypeId}{cs vs:List Value}{ud:TypeDesc}(K:SL T J bs L N r ops Q rest (Fr n ((d,.agg vs.toArray) :: s) ds))(l:ev n s x = .pointer (some ⟨b,o,none⟩):=by exact rfl)(c:iY T.u t=some ud:=by exact rfl)(f:j4 ud=true:=by exact rfl)(k:iY T.i t=some (sz,by_,m):=by exact rfl)(hi:L[i]? = some (blk b a cs):=by first|exact qI|exact qJ|exact nt|exact nu|exact qK|exact qL|exact qM|exact qN)(hv:sub' cs o sz=some vs:=by exact rfl)(e:gB ops n s g=true:=by exact rfl):SL T J bs L (N+1) r ops Q (⟨some d,.load t x,ty,pos,af,g⟩ :: rest) (Fr n s ds):=⟨fun w j h=>pv e rfl (tE l (kH T.kN c) f (mC T.mT k) (wM hv) (h.HO hi (yK hv))) (K.out w j h)⟩
theorem SL.Ct{b o sz by_:Nat}{m:Value}{a:TypeId}{cs vs:List Value}{ud:TypeDesc}(K:SL T J bs L N r ops Q rest (Fr n ((d,.agg vs.toArray) :: s) ds))(l:ev n s x = .pointer (some ⟨b,o,none⟩):=by exact rfl)(c:iY T.u t=some ud:=by exact rfl)(f:j4 ud=true:=by exact rfl)(k:iY T.i t=some (sz,by_,m):=by exact rfl)(hi:(blk b a cs).holds w0:=by assumption)(hb:(w0,[])∈bs:=by simp)(hv:sub' cs o sz=some vs:=by exact rfl)(e:gB ops n s g=true:=by exact rfl):SL T J bs L (N+1) r ops Q (⟨some d,.load t x,ty,pos,af,g⟩ :: rest) (Fr n s ds):=⟨fun w j h=>pv e rfl (tE l (kH T.kN c) f (mC T.mT k) (wM hv) (St.ads h hb hi (yK hv))) (K.out w j h)⟩
theorem SL.Cr{α:Type}{cf:α->List Value}{xs:List α}{b k sz off i a by_:Nat}{q:Value}{c:TypeId}{vs:List Value}{ud:TypeDesc}(K:SL T J bs L N r ops Q rest (Fr n ((d,.agg vs.toArray) :: s) ds))(p:ev n s x = .pointer (some ⟨b,k*sz+off,none⟩):=by exact rfl)(e:iY T.u t=some ud:=by exact rfl)(m:j4 ud=true:=by exact rfl)(o:iY T.i t=some (a, by_,q):=by exact rfl)(hi:L[i]? = some (blk b c (xs.flatMap cf)):=by first|exact qI|exact qJ|exact nt|exact nu|exact qK|exact qL|exact qM|exact qN)(v:Inhabited α:=by infer_instance)(l:∀ x:α,(cf x).length=sz:=by exact fun _=>rfl)(hk:k<xs.length:=by first|omega|(simp only[gC];omega))(hv:sub' (cf (fJ xs k)) off a = some vs:=by exact rfl)(f:gB ops n s g=true:=by exact rfl):SL T J bs L (N+1) r ops Q (⟨some d,.load t x,ty,pos,af,g⟩ :: rest) (Fr n s ds):=⟨fun w j h=>pv f rfl (tE p (kH T.kN e) m (mC T.mT o) (wM hv) (St.ac3 h hi l hk (yK hv))) (K.out w j h)⟩
theorem SL.Cw{α:Type}{cf:α->List Value}{xs:List α}{b k sz off a by_:Nat}{q:Value}{c:TypeId}{vs:List Value}{ud:TypeDesc}(K:SL T J bs L N r ops Q rest (Fr n ((d,.agg vs.toArray) :: s) ds))(p:ev n s x = .pointer (some ⟨b,k*sz+off,none⟩):=by exact rfl)(e:iY T.u t=some ud:=by exact rfl)(m:j4 ud=true:=by exact rfl)(o:iY T.i t=some (a, by_,q):=by exact rfl)(hi:(blk b c (xs.flatMap cf)).holds w0:=by assumption)(v:Inhabited α:=by infer_instance)(hb:(w0,[])∈bs:=by simp)(l:∀ x:α,(cf x).length=sz:=by exact fun _=>rfl)(hk:k<xs.length:=by first|omega|(simp only[gC];omega))(hv:sub' (cf (fJ xs k)) off a = some vs:=by exact rfl)(f:gB ops n s g=true:=by exact rfl):SL T J bs L (N+1) r ops Q (⟨some d,.load t x,ty,pos,af,g⟩ :: rest) (Fr n s ds):=⟨fun w j h=>pv f rfl (tE p (kH T.kN e) m (mC T.mT o) (wM hv) (St.adt h hb hi l hk (yK hv))) (K.out w j h)⟩
theorem SL.Fa{α:Type}{cf:α->List Value}{xs:List α}{e' : TypeId}{q k sz off a by_:Nat}{o:Value}{vs:List Value}{ud:TypeDesc}{u:Value}(K:SL T J bs L N r ops Q rest (Fr n ((d,.agg vs.toArray) :: s) ds))(m:ev n s x=jQ sz u k off:=by exact rfl)(b:iY T.u t=some ud:=by exact rfl)(f:j4 ud=true:=by exact rfl)(l:iY T.i t=some (a, by_,o):=by exact rfl)(hi:L[q]? = some (fL cf u e' sz xs):=by first|exact qI|exact qJ|exact nt|exact nu|exact qK|exact qL|exact qM|exact qN)(p:Inhabited α:=by infer_instance)(e:∀ x:α,(cf x).length=sz:=by exact fun _=>rfl)(hk:k<xs.length:=by first|omega|(simp only[gC];omega))(hv:sub' (cf (fJ xs k)) off a = some vs:=by exact rfl)(c:gB ops n s g=true:=by exact rfl):SL T J bs L (N+1) r ops Q (⟨some d,.load t x,ty,pos,af,g⟩ :: rest) (Fr n s ds):=⟨fun w j h=>pv c rfl (Qq m (kH T.kN b) f (mC T.mT l) (St.yF h hi e) (gy hk) (wM hv) (yK hv)) (K.out w j h)⟩
theorem SL.E9{α:Type}{cf:α->List Value}{xs:List α}{ok:Nat->Prop}{c:α}{k sz off a by_:Nat}{p:Value}{vs:List Value}{ud:TypeDesc}{u:Value}(K:SL T J bs L N r ops Q rest (Fr n ((d,.agg vs.toArray) :: s) ds))(m:ev n s x=jQ sz u k off:=by exact rfl)(b:iY T.u t=some ud:=by exact rfl)(f:j4 ud=true:=by exact rfl)(l:iY T.i t=some (a, by_,p):=by exact rfl)(hi:iw sz cf ok w0 u xs:=by assumption)(hb:(w0,[])∈bs:=by simp)(o:0<sz:=by decide)(hk:xs[k]? = some c:=by first|assumption|exact rfl|exact gy (by first|omega|(simp only[gC];omega)))(hv:sub' (cf c) off a = some vs:=by exact rfl)(e:gB ops n s g=true:=by exact rfl):SL T J bs L (N+1) r ops Q (⟨some d,.load t x,ty,pos,af,g⟩ :: rest) (Fr n s ds):=⟨fun w j h=>pv e rfl (Qq m (kH T.kN b) f (mC T.mT l) (St.CU h hb o hi) hk (wM hv) (yK hv)) (K.out w j h)⟩
theorem SL.cv{k k' : IntKind}{ud:TypeDesc}{a e:Int}{t' : TypeId}(K:SL T J bs L N r ops Q rest (Fr n ((d,.int k' e) :: s) ds))(l:ev n s x = .int k a:=by exact rfl)(b:iY T.u t=some ud:=by exact rfl)(c:iY T.u t' = some (.int k'):=by exact rfl)(i:k'.wrap a=e:=by first|exact oT o_|exact Gg o_|exact TK o_|exact w32u o_)(f:gB ops n s g=true:=by exact rfl):SL T J bs L (N+1) r ops Q (⟨some d,.convert t t' x,ty,pos,af,g⟩ :: rest) (Fr n s ds):=⟨fun w j h=>pw f (fun _=>V9 l (kH T.kN b) (kH T.kN c) i) (K.out w j h)⟩
theorem SL.not{b:Bool}(K:SL T J bs L N r ops Q rest (Fr n ((d,.bool !b) :: s) ds))(c:ev n s x = .bool b:=by exact rfl)(a:gB ops n s g=true:=by exact rfl):SL T J bs L (N+1) r ops Q (⟨some d,.unOp .not t x,ty,pos,af,g⟩ :: rest) (Fr n s ds):=⟨fun w j h=>pw a (fun _=>Q5 c rfl) (K.out w j h)⟩
theorem SL.pT  (K:SL T J bs L N r ops Q rest (Fr n ((d,v) :: s) ds)) (a:ev n s x = .bool true:=by exact rfl) (c:ev n s y=v:=by conv=>lhs;whnf) (b:gB ops n s g=true:=by exact rfl):SL T J bs L (N+1) r ops Q (⟨some d,.pick x y z,ty,pos,af,g⟩ :: rest) (Fr n s ds):=⟨fun w j h=>pw b (fun _=>RC a c) (K.out w j h)⟩
theorem SL.pF  (K:SL T J bs L N r ops Q rest (Fr n ((d,v) :: s) ds)) (a:ev n s x = .bool false:=by exact rfl) (c:ev n s z=v:=by conv=>lhs;whnf) (b:gB ops n s g=true:=by exact rfl):SL T J bs L (N+1) r ops Q (⟨some d,.pick x y z,ty,pos,af,g⟩ :: rest) (Fr n s ds):=⟨fun w j h=>pw b (fun _=>RB a c) (K.out w j h)⟩
theorem SL.FU{b o i sz by_:Nat}{q:Value}{a:TypeId}{cs cs' vs:List Value}(K:SL T (fun _=>True) bs L' N r ops Q rest (Fr n s ds))(m:ev n s x = .pointer (some ⟨b,o,none⟩):=by exact rfl)
 (hv:ev n s y=v:=by conv=>lhs;whnf) (p:v.cells.toList=vs:=by first|exact Nt|exact Ns|exact Nu|exact Nv|exact Nr|exact cNilF|exact cMap|exact rfl) (l:iY T.i t=some (sz,by_,q):=by exact rfl) (k:vs.length=sz:=by exact rfl) (h1:vs.all (·.oneCell')=true:=by exact rfl) (hi:L[i]? = some (blk b a cs):=by first|exact qI|exact qJ|exact nt|exact nu|exact qK|exact qL|exact qM|exact qN)
 (e:Nat.ble (o+vs.length) cs.length=true:=by exact rfl) (hcs:setAt cs o vs=cs' := by dsimp only[setAt,List.take,List.drop,List.length,List.append,HAppend.hAppend,Append.append]<;>exact rfl) (d:L.set i (blk b a cs')=L' := by dsimp only[List.set]<;>exact rfl) (f:gB ops n s g=true:=by exact rfl) :
 SL T (fun _=>True) bs L (N+1) r ops Q (⟨none,.store t x y,ty,pos,af,g⟩ :: rest) (Fr n s ds):=⟨fun w j h=>Go.Sx.FU i f m hv p (mC T.mT l) k h1 h hi e hcs d fun w' c => K.out w' trivial c⟩
theorem run{p q:Prop} (h:p->q:=by
 intro h
 repeat (first
  | refine SP.sq ?_|refine SP.rg ?_|refine SP.Kp ?_|refine SL.mv ?_|refine SL.nil ?_|refine SQ.tN ?_|refine SL.E4 ?_|refine SL.EP ?_|refine SL.AB ?_|refine SL.EM ?_|refine SL.fa ?_|refine SL.ld ?_|refine SL.Cq ?_|refine SL.Cs ?_|refine SL.Cu ?_|refine SL.sL ?_|refine SL.rR ?_|refine SL.cmp ?_|refine SP.cT ?_|refine SP.cF ?_|refine SL.ar ?_|refine SL.ex ?_|refine SL.E3 ?_|refine SL.iK ?_|refine SL.EN ?_|refine SL.jk ?_|refine SL.sO ?_|refine SL.Ct ?_|refine SL.Cr ?_|refine SL.Cw ?_|refine SL.Fa ?_|refine SL.E9 ?_|refine SL.cv ?_|refine SL.not ?_|refine SL.pT ?_|refine SL.pF ?_|refine SL.jB ?_|refine SL.ixG ?_|refine SL.fldG ?_|refine SL.len ?_|refine SL.nP ?_|refine SL.eP ?_|refine SL.FU ?_|refine SL.sk ?_|refine SL.skN ?_|refine SP.bk ?_|refine SP.sp ?_|refine SP.xt ?_|refine SP.rt ?_|refine SQ.tX ?_|refine SQ.tR ?_|refine SQ.bN ?_|refine SQ.bR ?_|refine SQ.bX ?_|refine SQ.HM ?_|refine SP.scp ?_|refine SQ.KB ?_|refine SQ.scX ?_|refine SQ.KC ?_|refine SP.Jv ?_)
 exact h):p->q:=h
variable {ops' : Array Oper} {Q' : Exit->Act->World->Prop} {l' : List Oper} {a' : Act} {c c' : Code} {e e' : Exit}
theorem gJ[T:TT P](b:St bs L w)(N:Nat)(k:∀ w', St bs L' w' -> WL r P ops' Q' l' a' w')(h:SL T (fun _=>True) bs L' 0 r ops' Q' l' a' -> SL T (fun _=>True) bs L N r ops Q l a:=by exact run):WL r P ops Q l a w:=(h ⟨fun w' _ hs=>k w' hs⟩).out w trivial b
theorem fK[T:TT P](b:St bs L w)(N:Nat)(k:WL r P ops' Q' l' a' w)(h:SL T (fun x=>x=w) bs L 0 r ops' Q' l' a' -> SL T (fun x=>x=w) bs L N r ops Q l a:=by exact run):WL r P ops Q l a w:=(h ⟨fun w' j _=>by subst j;exact k⟩).out w rfl b
theorem tL[T:TT P](b:St bs L w)(N:Nat)(k:∀ w', St bs L' w' -> WP r P c' Q' a' w')(h:SP T (fun _=>True) bs L' 0 r Q' c' a' -> SL T (fun _=>True) bs L N r ops Q l a:=by exact run):WL r P ops Q l a w:=(h ⟨fun w' _ hs=>k w' hs⟩).out w trivial b
theorem gF[T:TT P](b:St bs L w)(N:Nat)(k:WP r P c' Q' a' w)(h:SP T (fun x=>x=w) bs L 0 r Q' c' a' -> SL T (fun x=>x=w) bs L N r ops Q l a:=by exact run):WL r P ops Q l a w:=(h ⟨fun w' j _=>by subst j;exact k⟩).out w rfl b
theorem jZ[T:TT P](b:St bs L w)(N:Nat)(k:∀ w', St bs L' w' -> Q' e' a' w')(h:SQ T (fun _=>True) bs L' 0 r Q' e' a' -> SL T (fun _=>True) bs L N r ops Q l a:=by exact run):WL r P ops Q l a w:=(h ⟨fun w' _ hs=>k w' hs⟩).out w trivial b
theorem fQ[T:TT P](b:St bs L w)(N:Nat)(k:Q' e' a' w)(h:SQ T (fun x=>x=w) bs L 0 r Q' e' a' -> SL T (fun x=>x=w) bs L N r ops Q l a:=by exact run):WL r P ops Q l a w:=(h ⟨fun w' j _=>by subst j;exact k⟩).out w rfl b
theorem oD[T:TT P](b:St bs L w)(N:Nat)(k:∀ w', St bs L' w' -> WL r P ops' Q' l' a' w')(h:SL T (fun _=>True) bs L' 0 r ops' Q' l' a' -> SP T (fun _=>True) bs L N r Q c a:=by exact run):WP r P c Q a w:=(h ⟨fun w' _ hs=>k w' hs⟩).out w trivial b
theorem fS[T:TT P](b:St bs L w)(N:Nat)(k:WL r P ops' Q' l' a' w)(h:SL T (fun x=>x=w) bs L 0 r ops' Q' l' a' -> SP T (fun x=>x=w) bs L N r Q c a:=by exact run):WP r P c Q a w:=(h ⟨fun w' j _=>by subst j;exact k⟩).out w rfl b
theorem qV[T:TT P](b:St bs L w)(N:Nat)(k:WP r P c' Q' a' w)(h:SP T (fun x=>x=w) bs L 0 r Q' c' a' -> SP T (fun x=>x=w) bs L N r Q c a:=by exact run):WP r P c Q a w:=(h ⟨fun w' j _=>by subst j;exact k⟩).out w rfl b
theorem iN[T:TT P](b:St bs L w)(N:Nat)(k:Q' e' a' w)(h:SQ T (fun x=>x=w) bs L 0 r Q' e' a' -> SP T (fun x=>x=w) bs L N r Q c a:=by exact run):WP r P c Q a w:=(h ⟨fun w' j _=>by subst j;exact k⟩).out w rfl b
theorem Kz(T:TT P)(r:Option Nat)(b:St bs L w)(N:Nat)(k:∀ w', St bs L' w' -> WL r P ops' Q' l' a' w')(h:SL T (fun _=>True) bs L' 0 r ops' Q' l' a' -> SQ T (fun _=>True) bs L N r Q e a:=by exact run):Q e a w:=(h ⟨fun w' _ hs=>k w' hs⟩).out w trivial b
theorem CQ(T:TT P)(r:Option Nat)(b:St bs L w)(N:Nat)(k:WL r P ops' Q' l' a' w)(h:SL T (fun x=>x=w) bs L 0 r ops' Q' l' a' -> SQ T (fun x=>x=w) bs L N r Q e a:=by exact run):Q e a w:=(h ⟨fun w' j _=>by subst j;exact k⟩).out w rfl b
theorem sQP(T:TT P)(r:Option Nat)(b:St bs L w)(N:Nat)(k:∀ w', St bs L' w' -> WP r P c' Q' a' w')(h:SP T (fun _=>True) bs L' 0 r Q' c' a' -> SQ T (fun _=>True) bs L N r Q e a:=by exact run):Q e a w:=(h ⟨fun w' _ hs=>k w' hs⟩).out w trivial b
theorem FA(T:TT P)(r:Option Nat)(b:St bs L w)(N:Nat)(k:WP r P c' Q' a' w)(h:SP T (fun x=>x=w) bs L 0 r Q' c' a' -> SQ T (fun x=>x=w) bs L N r Q e a:=by exact run):Q e a w:=(h ⟨fun w' j _=>by subst j;exact k⟩).out w rfl b
theorem sQQ(T:TT P)(r:Option Nat)(b:St bs L w)(N:Nat)(k:∀ w', St bs L' w' -> Q' e' a' w')(h:SQ T (fun _=>True) bs L' 0 r Q' e' a' -> SQ T (fun _=>True) bs L N r Q e a:=by exact run):Q e a w:=(h ⟨fun w' _ hs=>k w' hs⟩).out w trivial b
theorem rS(T:TT P)(r:Option Nat)(b:St bs L w)(N:Nat)(k:Q' e' a' w)(h:SQ T (fun x=>x=w) bs L 0 r Q' e' a' -> SQ T (fun x=>x=w) bs L N r Q e a:=by exact run):Q e a w:=(h ⟨fun w' j _=>by subst j;exact k⟩).out w rfl b
end
end Go.Sx
namespace Go.Sx
open Go
section
variable {P:Program} {ops:Array Oper} {n:Nat} {o:Oper} {s sA sE:List (Nat×Value)} {v:Value} {w w0 w1:World} {C:World->Prop}
def Rd(P:Program)(ops:Array Oper)(n:Nat)(o:Oper)(s:List (Nat×Value))(v:Value)(I:World->Prop):Prop:=∀ w,I w->mu P ops n o s v I w
def RA(P:Program)(ops:Array Oper)(n:Nat)(I:World->Prop):Nat->List Oper->List (Nat×Value)->List Value->List (Nat×Value)->List Oper->Prop
 | 0,l,s,[],sE,R=>s=sE/\l=R
 | m+1,o :: l,s,v :: vs,sE,R=>Rd P ops n o s v I/\RA P ops n I m l (kj o.dst v s) vs sE R
 | _,_,_,_,_,_=>False
def UY(e:Edge):Bool:=match e.ground with
 | .textOnly _=>false
 | .gcOnly _=>false
 | _=>true
def Er(l:List Oper):List (List Nat) :=
 l.foldl (fun b o=>b++[o.after.toList.foldl (fun a e=>bif UY e then a++(e.on :: b.getD e.on []).filter (fun x => !a.contains x)else a) []]) []
end
section
variable {Γ:Type} {r:Option Nat} {P:Program} {Q:Exit->Act->World->Prop} {n:Nat} {ds:List Deferred} {l l0:List Oper} {ops:Array Oper} {pre:List (List Nat)}
theorem aec{S:Nat->Bool}{v:Value}{vs:List Value}{o:Oper}{l:List Oper}{s:List (Nat×Value)}(h:∀ i,S i=true):∀ i,iM S i (o :: l) (v :: vs) s=iM S (i+1) l vs (kj o.dst v s):=by
 intro i;simp[iM,h i]
theorem RA.sl{I:World->Prop}:∀ {m:Nat} {l:List Oper} {s:List (Nat×Value)} {vs vr:List Value} {sE:List (Nat×Value)} {R:List Oper} {i:Nat},RA P ops n I m l s vs sE R->iM (fun _=>true) i l (vs++vr) s=iM (fun _=>true) (i+m) R vr sE
 | 0,l,s,[],vr,sE,R,i,h=>by rw[h.1,h.2];rfl
 | m+1,o :: l,s,v :: vs,vr,sE,R,i,h=>by
  rw[ng,aec (fun _=>rfl),RA.sl h.2,show i+1+m=i+(m+1) by omega]
 | 0,_,_,_ :: _,_,_,_,_,h=>h.elim
 | m+1,[],_,_,_,_,_,_,h=>h.elim
 | m+1,_ :: _,_,[],_,_,_,_,h=>h.elim
theorem Wj{id:Nat}{w:World}{a:World->Prop}{s sE:List (Nat×Value)}{vA:List Value}(f:P.follows .mixedOrders=true)(j:AS l (Er l) []=true)(d:a w.drew)(hA:RA P l.toArray n a l.length l s vA sE [])(h:∀ w', a w' -> Q .normal (Fr n sE ds) w') :
 WP r P (.region id l.toArray true) Q (Fr n s ds) w:=by
 let M:Nat->Unit->World->Prop:=fun p g=>match p with
  | 0=>a
  | _=>fun _=>False
 have key:∀ (l' : List Oper) (i:Nat) (c : List (Nat×Value)) (vs:List Value),RA P l.toArray n a l'.length l' c vs sE []->lE P l.toArray Q n ds s l (Er l) [] (vA.map (fun v _=>v)) M i (fun _=>c) l' (vs.map (fun v _=>v)):=by
  intro l'
  induction l' with
  | nil=>intro i c vs h;cases vs with|nil=>trivial|cons v vs=>exact h.elim
  | cons o l' k =>
   intro i c vs h
   cases vs with
   | nil=>exact h.elim
   | cons v vs =>
    refine⟨?_,k (i+1) _ vs h.2⟩
    show ∀ p g w', _->_->M p g w' -> _
    intro p g w' _ _ b
    match p with
    | 0=>exact h.1 w' b
    | p+1=>exact b.elim
 refine Kq f (Er l) [] j (vA.map (fun v _=>v)) M () (fun _=>sE) d (key l 0 s vA hA) (fun g=>?_) fun g w' b=>h w' b
 have:=hA.sl (i:=0) (vr:=[])
 rw[qA]at this
 rw[List.map_map]
 have e:vA.map ((fun x=>x g)∘fun v (_:Unit)=>v)=vA:=by
  conv=>rhs;rw[<-List.map_id vA]
  rfl
 rw[e,this]
 simp[iM]
end
end Go.Sx
namespace Go.Sx
open Go
section
variable {P:Program}
def Rw(P:Program)(n:Nat)(s:List (Nat×Value))(o:Oper)(v:Value)(C:World->Prop)(w:World):Prop:=(execOp (ev n s) o).run P w = .ok (.value v) w\/∃ f args,(execOp (ev n s) o).run P w = .ok (.enter f args) w/\CR P f args w (fun v' w' => v' = v/\C w')
theorem rv{o:Oper}{v:Value}{n:Nat}{s:List (Nat×Value)}{C:World->Prop}{w:World}(h:(execOp (ev n s) o).run P w = .ok (.value v) w):Rw P n s o v C w:=.inl h
theorem rc{o:Oper}{v:Value}{n:Nat}{s:List (Nat×Value)}{C:World->Prop}{w:World}{f:FuncId}{args:Array Value}(h:(execOp (ev n s) o).run P w = .ok (.enter f args) w)(a:CR P f args w (fun v' w' => v' = v/\C w')):Rw P n s o v C w:=.inr ⟨f,args,h,a⟩
structure Rf (T:TT P) (bs:List (World×List Nat)) (L:List fU) (ops:Array Oper) (n:Nat) (o:Oper) (s:List (Nat×Value)) (v:Value):Prop where
 out:Rd P ops n o s v (St bs L)
structure DA (T:TT P) (bs:List (World×List Nat)) (L:List fU) (ops:Array Oper) (n m:Nat) (l:List Oper) (s:List (Nat×Value)) (vs:List Value) (sE:List (Nat×Value)) (R:List Oper):Prop where
 out:RA P ops n (St bs L) m l s vs sE R
variable {T:TT P} {bs bs' : List (World×List Nat)} {L L1:List fU} {r:Option Nat} {ops:Array Oper} {Q:Exit->Act->World->Prop} {n m:Nat} {s sA sE:List (Nat×Value)} {ds:List Deferred} {w w' w0 w1:World}
variable {d i j:Nat} {ty t:TypeId} {pos:String} {af:Array Edge} {g:Option (Nat×Bool)} {v u:Value} {x y z:Operand} {l B:List Oper} {o:Oper} {vs vA vB:List Value} {cs:List (Option Value)} {k:List Nat} {R:List Oper} {op:Op} {dd:Option Nat}
theorem Rf.sk{a:Nat×Bool}(b:gB ops n s (some a)=false:=by exact rfl):Rf T bs L ops n ⟨dd,op,ty,pos,af,some a⟩ s undef:=⟨fun w h=>.inr ⟨b,rfl⟩⟩
theorem Rf.mv  (b:ev n s x=v:=by conv=>lhs;whnf) (a:gB ops n s g=true:=by exact rfl):Rf T bs L ops n ⟨some d,.move x,ty,pos,af,g⟩ s (v):=⟨fun w h=>.inl ⟨a,rfl,.inl (kI b)⟩⟩
theorem Rf.fa{i b o o' szf byf:Nat}{zf:Value}{fields:Array Field}{f:Field}(l:ev n s x = .pointer (some ⟨b,o,none⟩):=by exact rfl)(a:iY T.u t=some (.struct fields):=by exact rfl)(c:fields[i]? = some f:=by exact rfl)(k:iY T.i f.type=some (szf+1,byf,zf):=by exact rfl)(j:o+f.offset=o' := by conv=>lhs;whnf)(e:gB ops n s g=true:=by exact rfl):Rf T bs L ops n ⟨some d,.fieldAddr t x i,ty,pos,af,g⟩ s (.pointer (some ⟨b,o', none⟩)):=⟨fun w h=>.inl ⟨e,rfl,.inl (sM l (kH T.kN a) c (mC T.mT k) j)⟩⟩
theorem Rf.ld{b o i:Nat}{a:TypeId}{cs:List Value}{ud:TypeDesc}(j:ev n s x = .pointer (some ⟨b,o,none⟩):=by exact rfl)(c:iY T.u t=some ud:=by exact rfl)(f:j4 ud=false:=by exact rfl)(hi:L[i]? = some (blk b a cs):=by first|exact qI|exact qJ|exact nt|exact nu|exact qK|exact qL|exact qM|exact qN)(hv:cs[o]? = some v:=by exact rfl)(e:gB ops n s g=true:=by exact rfl):Rf T bs L ops n ⟨some d,.load t x,ty,pos,af,g⟩ s (v):=⟨fun w h=>.inl ⟨e,rfl,.inl (kW j (kH T.kN c) f (h.rH hi hv))⟩⟩
theorem Rf.sL  (b:ev n s x=v:=by conv=>lhs;whnf) (a:gB ops n s g=true:=by exact rfl):Rf T bs L ops n ⟨some d,.assign x,ty,pos,af,g⟩ s (v):=⟨fun w h=>.inl ⟨a,rfl,.inl (vL b)⟩⟩
theorem Rf.rR{p:Addr}(b:ev n s x = .pointer (some p):=by exact rfl)(a:gB ops n s g=true:=by exact rfl):Rf T bs L ops n ⟨some d,.nilCheck x,ty,pos,af,g⟩ s (.pointer (some p)):=⟨fun w h=>.inl ⟨a,rfl,.inl (wv b)⟩⟩
theorem Rf.cmp{op:BinOp}{t' : TypeId}{k:IntKind}{a b:Int}{c:Bool}(i:ev n s x = .int k a:=by exact rfl)(j:ev n s y = .int k b:=by exact rfl)(e:kF op a b=some c:=by first|exact oM (by first|assumption|exact rfl|decide)|exact uu (by first|assumption|exact rfl|decide)|exact pI (by first|assumption|exact rfl|decide)|exact kV (by first|assumption|exact rfl|decide)|exact vN (by first|assumption|exact rfl|decide)|exact HP (by first|assumption|exact rfl|decide)|exact Eo (by first|assumption|exact rfl|decide)|exact qd (by first|assumption|exact rfl|decide)|exact c_gt (by first|assumption|exact rfl|decide)|exact pJ (by first|assumption|exact rfl|decide)|exact nv (by first|assumption|exact rfl|decide)|exact oh (by first|assumption|exact rfl|decide))(f:gB ops n s g=true:=by exact rfl):Rf T bs L ops n ⟨some d,.binOp op t x y t', ty,pos,af,g⟩ s (.bool c):=⟨fun w h=>.inl ⟨f,rfl,.inl (Ib i j e)⟩⟩
theorem Rf.ex{i:Nat}{vs:Array Value}(b:ev n s x = .tuple vs:=by exact rfl)(hv:vs[i]? = some v:=by exact rfl)(a:gB ops n s g=true:=by exact rfl):Rf T bs L ops n ⟨some d,.extract x i,ty,pos,af,g⟩ s (v):=⟨fun w h=>.inl ⟨a,rfl,.inl (EL b hv)⟩⟩
theorem Rf.not{b:Bool}(c:ev n s x = .bool b:=by exact rfl)(a:gB ops n s g=true:=by exact rfl):Rf T bs L ops n ⟨some d,.unOp .not t x,ty,pos,af,g⟩ s (.bool !b):=⟨fun w h=>.inl ⟨a,rfl,.inl (Q5 c rfl)⟩⟩
theorem Rf.pT  (a:ev n s x = .bool true:=by exact rfl) (c:ev n s y=v:=by conv=>lhs;whnf) (b:gB ops n s g=true:=by exact rfl):Rf T bs L ops n ⟨some d,.pick x y z,ty,pos,af,g⟩ s (v):=⟨fun w h=>.inl ⟨b,rfl,.inl (RC a c)⟩⟩
theorem Rf.pF  (a:ev n s x = .bool false:=by exact rfl) (c:ev n s z=v:=by conv=>lhs;whnf) (b:gB ops n s g=true:=by exact rfl):Rf T bs L ops n ⟨some d,.pick x y z,ty,pos,af,g⟩ s (v):=⟨fun w h=>.inl ⟨b,rfl,.inl (RB a c)⟩⟩
theorem DA.nil:DA T bs L ops n 0 l s [] s l:=⟨⟨rfl,rfl⟩⟩
theorem DA.c(hv:Rf T bs L ops n ⟨some d,op,ty,pos,af,g⟩ s v)(K:DA T bs L ops n m l ((d,v) :: s) vs sE R):DA T bs L ops n (m+1) (⟨some d,op,ty,pos,af,g⟩ :: l) s (v :: vs) sE R:=⟨⟨hv.out,K.out⟩⟩
theorem FM{p:Prop} (h:p:=by
 repeat (first|exact DA.nil|exact DC.nil|exact DU.nil|((first|apply DA.c|apply DA.cN|apply DC.c|apply DU.c);(first|exact Rf.sk|exact Rf.mv|exact Rf.E4|exact Rf.EP|exact Rf.AB|exact Rf.EM|exact Rf.fa|exact Rf.ld|exact Rf.Cq|exact Rf.Cs|exact Rf.Cu|exact Rf.sL|exact Rf.rR|exact Rf.cmp|exact Rf.ar|exact Rf.ex|exact Rf.E3|exact Rf.iK|exact Rf.EN|exact Rf.jk|exact Rf.sO|exact Rf.Ct|exact Rf.Cr|exact Rf.Cw|exact Rf.Fa|exact Rf.E9|exact Rf.cv|exact Rf.not|exact Rf.pT|exact Rf.pF|exact Rf.jB|exact Rf.ixG|exact Rf.fldG|exact Rf.len|exact Rf.nP|exact Rf.eP))|refine DC.sk ?_|(apply DU.gb;intro _))):p:=h
theorem Im[T:TT P]{id:Nat}(b:St bs L w)(h:∀ w', St bs L w' -> Q .normal (Fr n sE ds) w')(a:AS l (Er l) []=true:=by kernel_rfl)
 (hA:DA T bs L l.toArray n l.length l s vA sE []:=by exact FM):WP r P (.region id l.toArray true) Q (Fr n s ds) w :=
 Wj T.mx a b.drew hA.out h
structure DF (T:TT P) (bs:List (World×List Nat)) (L:List fU) (ops:Array Oper) (n N m:Nat) (l:List Oper) (s:List (Nat×Value)) (vs:List Value) (sE:List (Nat×Value)) (R:List Oper):Prop where
 out:DA T bs L ops n m l s vs sE R
variable {N:Nat}
theorem DF.c(hv:Rf T bs L ops n ⟨some d,op,ty,pos,af,g⟩ s v)(K:DF T bs L ops n N m l ((d,v) :: s) vs sE R):DF T bs L ops n (N+1) (m+1) (⟨some d,op,ty,pos,af,g⟩ :: l) s (v :: vs) sE R:=⟨.c hv K.out⟩
theorem adK{p q:Prop} (h:p->q:=by
 intro h
 repeat (first|((first|apply DF.c|apply DF.cN|apply CF.c|apply UF.c);(first|exact Rf.sk|exact Rf.mv|exact Rf.E4|exact Rf.EP|exact Rf.AB|exact Rf.EM|exact Rf.fa|exact Rf.ld|exact Rf.Cq|exact Rf.Cs|exact Rf.Cu|exact Rf.sL|exact Rf.rR|exact Rf.cmp|exact Rf.ar|exact Rf.ex|exact Rf.E3|exact Rf.iK|exact Rf.EN|exact Rf.jk|exact Rf.sO|exact Rf.Ct|exact Rf.Cr|exact Rf.Cw|exact Rf.Fa|exact Rf.E9|exact Rf.cv|exact Rf.not|exact Rf.pT|exact Rf.pF|exact Rf.jB|exact Rf.ixG|exact Rf.fldG|exact Rf.len|exact Rf.nP|exact Rf.eP))|refine CF.sk ?_|(apply UF.gb;intro _))
 exact h):p->q:=h
theorem xC{a : Nat}{l' : List Oper}{s' : List (Nat×Value)}{b : List Value}(N:Nat)(K:DA T bs L ops n a l' s' b sE R)(h:DF T bs L ops n 0 a l' s' b sE R->DF T bs L ops n N m l s vs sE R:=by exact adK):DA T bs L ops n m l s vs sE R:=(h ⟨K⟩).out
theorem ux(hv:∀ a,St bs L a->Rw P n s ⟨some d,op,ty,pos,af,g⟩ v (St bs L) a)(K:DA T bs L ops n m l ((d,v) :: s) vs sE R)(b:gB ops n s g=true:=by exact rfl)(hd:mc op=true:=by exact rfl):DA T bs L ops n (m+1) (⟨some d,op,ty,pos,af,g⟩ :: l) s (v :: vs) sE R:=.c ⟨fun w h=>.inl ⟨b,hd,hv w h⟩⟩ K
end
end Go.Sx
namespace Go.Sx
open Go
structure Nd where
 k0:Nat
 k1:Nat
 up:Nat
 flip:Bool
 key:Int
 size:Int
 first:Nat
 iP:Int
 total:Int
 deriving Inhabited
def Nd.cells(x:Nd):List Value:=[.int .i64 x.k0,.int .i64 x.k1,.int .i64 x.up,.bool x.flip,.int .i64 x.key,.int .i64 x.size,.int .i64 x.first,.int .i64 x.iP,.int .i64 x.total]
def jC(xs:List Nd)(i:Nat):Nat×Bool :=
 if (fJ xs i).up=0 then(0,false)else if (fJ xs (fJ xs i).up).k0=i then(0,true)else if (fJ xs (fJ xs i).up).k1=i then(1,true)else(0,false)
def k8(xs:List Nd)(i j:Nat):Bool:=decide ((fJ xs i).key<(fJ xs j).key\/(fJ xs i).key=(fJ xs j).key/\i<j)
def iX(xs:List Nd)(i s k:Nat):List Nd :=
 let ys:=if s=0 then fN xs i (fun x=>{ x with k0:=k })else fN xs i (fun x=>{ x with k1:=k })
 if k=0 then ys else fN ys k (fun x=>{ x with up:=i })
def jT(xs:List Nd)(i:Nat):List Nd :=
 if (fJ xs i).flip=true then
  let y0:=fN xs i (fun x=>{ x with flip:=false })
  let y1:=fN y0 i (fun x=>{ x with k0:=(fJ y0 i).k1 })
  let y2:=fN y1 i (fun x=>{ x with k1:=(fJ y0 i).k0 })
  let a:=if (fJ y2 i).k0=0 then y2 else fN y2 (fJ y2 i).k0 (fun x=>{ x with flip := !(fJ y2 (fJ y2 i).k0).flip })
  if (fJ y2 i).k1=0 then a else fN a (fJ y2 i).k1 (fun x=>{ x with flip := !(fJ a (fJ y2 i).k1).flip })
 else xs
structure gf (xs:List Nd):Prop where
 k0:∀ i,i<xs.length->(fJ xs i).k0<xs.length
 k1:∀ i,i<xs.length->(fJ xs i).k1<xs.length
 up:∀ i,i<xs.length->(fJ xs i).up<xs.length
 first:∀ i,i<xs.length->(fJ xs i).first<xs.length
 key:∀ i,i<xs.length->gX .i64 (fJ xs i).key
theorem gf.iJ{xs:List Nd}{k:Nat}{f:Nd->Nd}(h:gf xs)(hk:k<xs.length)
 (a:∀ x:Nd,x.k0<xs.length->x.k1<xs.length->x.up<xs.length->x.first<xs.length->gX .i64 x.key->(f x).k0<xs.length/\(f x).k1<xs.length/\(f x).up<xs.length/\(f x).first<xs.length/\gX .i64 (f x).key):gf (fN xs k f):=by
 have key:∀ i,i<xs.length->(fJ (fN xs k f) i).k0<xs.length/\(fJ (fN xs k f) i).k1<xs.length/\(fJ (fN xs k f) i).up<xs.length/\(fJ (fN xs k f) i).first<xs.length/\gX .i64 (fJ (fN xs k f) i).key:=by
  intro i hi
  rw[iS hk]
  split
  . exact a _ (h.k0 k hk) (h.k1 k hk) (h.up k hk) (h.first k hk) (h.key k hk)
  . exact⟨h.k0 i hi,h.k1 i hi,h.up i hi,h.first i hi,h.key i hi⟩
 refine⟨fun i hi=>?_,fun i hi=>?_,fun i hi=>?_,fun i hi=>?_,fun i hi=>?_⟩<;>(rw[gC]at hi;try rw[gC])
 . exact(key i hi).1
 . exact(key i hi).2.1
 . exact(key i hi).2.2.1
 . exact(key i hi).2.2.2.1
 . exact(key i hi).2.2.2.2
end Go.Sx
namespace Go.Sx
open Go
inductive Tr where
 | nil:Tr
 | nd (l:Tr) (i:Nat) (r:Tr):Tr
namespace Tr
def root:Tr->Nat
 | .nil=>0
 | .nd _ i _=>i
def mem:Tr->List Nat
 | .nil=>[]
 | .nd l i r=>l.mem++i :: r.mem
end Tr
def jf(xs:List Nd)(d:Bool)(i:Nat):Nat:=bif d then(fJ xs i).k0 else(fJ xs i).k1
def nT(xs:List Nd)(L:List Nat):Int:=(L.map fun j=>1+(fJ xs j).iP).sum
def GX(xs:List Nd)(m:Nat)(L:List Nat):Prop:=m∈L/\∀ j∈L,j=m\/k8 xs m j=true
structure pe (xs:List Nd) (i:Nat) (L:List Nat):Prop where
 size:(fJ xs i).size=(L.length:Int)
 total:(fJ xs i).total=IntKind.i64.wrap (nT xs L)
 first:GX xs (fJ xs i).first L
def gO(xs:List Nd):Tr->Nat->Prop
 | .nil,_=>True
 | .nd l i r,p=>(i≠0/\i<xs.length)/\((fJ xs i).k0=l.root/\(fJ xs i).k1=r.root/\(fJ xs i).up=p)/\pe xs i (l.mem++i :: r.mem)/\gO xs l i/\gO xs r i
abbrev Cx:=List (Bool×Nat×Tr)
def l9(d:Bool)(t:Tr)(g:Nat)(s:Tr):Tr:=bif d then .nd t g s else .nd s g t
def jR(d:Bool)(L:List Nat)(g:Nat)(s:Tr):List Nat:=bif d then L++g :: s.mem else s.mem++g :: L
def jY:Cx->Tr->Tr
 | [],t=>t
 | (d,g,s) :: c,t=>jY c (l9 d t g s)
def lq:Cx->List Nat->List Nat
 | [],L=>L
 | (d,g,s) :: c,L=>lq c (jR d L g s)
def wA:Cx->Nat->Nat
 | [],p=>p
 | (_,g,_) :: _,_=>g
def jS:Cx->List Nat
 | []=>[]
 | (_,g,s) :: c=>g :: s.mem++jS c
def mw(xs:List Nd):Cx->Nat->List Nat->Nat->Prop
 | [],_,_,_=>True
 | (d,g,s) :: c,h,L,p=>(g≠0/\g<xs.length)/\(jf xs d g=h/\jf xs (!d) g=s.root/\(fJ xs g).up=wA c p)/\pe xs g (jR d L g s)/\gO xs s g/\mw xs c g (jR d L g s) p
theorem Sf(d:Bool)(t:Tr)(g:Nat)(s:Tr):(l9 d t g s).root=g:=by cases d<;>rfl
theorem JJ(d:Bool)(t:Tr)(g:Nat)(s:Tr):(l9 d t g s).mem=jR d t.mem g s:=by cases d<;>rfl
theorem pO:∀ (c:Cx) (t:Tr),(jY c t).mem=lq c t.mem
 | [],t=>rfl
 | (d,g,s) :: c,t=>by rw[jY,pO c,JJ,lq]
theorem ac8{xs:List Nd}{d:Bool}{t s:Tr}{g p:Nat}:gO xs (l9 d t g s) p↔(g≠0/\g<xs.length)/\(jf xs d g=t.root/\jf xs (!d) g=s.root/\(fJ xs g).up=p)/\pe xs g (jR d t.mem g s)/\gO xs t g/\gO xs s g:=by
 cases d
 . simp only[l9,cond_false,gO,jf,Bool.not_false,cond_true,jR]
   constructor
   . rintro⟨a,⟨b,c,e⟩,f,h,i⟩;exact⟨a,⟨c,b,e⟩,f,i,h⟩
   . rintro⟨a,⟨b,c,e⟩,f,h,i⟩;exact⟨a,⟨c,b,e⟩,f,i,h⟩
 . simp only[l9,cond_true,gO,jf,DK,cond_false,jR]
theorem yB{xs:List Nd}:∀ (c:Cx) (t:Tr) (p:Nat),gO xs (jY c t) p↔gO xs t (wA c p)/\mw xs c t.root t.mem p
 | [],t,p=>by simp[jY,wA,mw]
 | (d,g,s) :: c,t,p=>by
  rw[jY,yB c,ac8,Sf,JJ]
  simp only[wA,mw]
  constructor
  . rintro⟨⟨a,b,e,f,h⟩,i⟩;exact⟨f,a,b,e,h,i⟩
  . rintro⟨f,a,b,e,h,i⟩;exact⟨⟨a,b,e,f,h⟩,i⟩
structure KL (xs ys:List Nd):Prop where
 len:ys.length=xs.length
 key:∀ j,(fJ ys j).key=(fJ xs j).key
 iP:∀ j,(fJ ys j).iP=(fJ xs j).iP
theorem KL.refl(xs:List Nd):KL xs xs:=⟨rfl,fun _=>rfl,fun _=>rfl⟩
theorem KL.trans{xs ys zs:List Nd}(h:KL xs ys)(k:KL ys zs):KL xs zs:=⟨k.len.trans h.len,fun j=>(k.key j).trans (h.key j),fun j=>(k.iP j).trans (h.iP j)⟩
theorem KL.before{xs ys:List Nd}(h:KL xs ys)(i j:Nat):k8 ys i j=k8 xs i j:=by simp[k8,h.key]
theorem KL.Gb{xs ys:List Nd}(h:KL xs ys)(L:List Nat):nT ys L=nT xs L:=by simp[nT,h.iP]
theorem KL.Jk{xs ys:List Nd}(h:KL xs ys){m:Nat}{L:List Nat}(k:GX xs m L):GX ys m L:=⟨k.1,fun j a=>by rw[h.before];exact k.2 j a⟩
theorem pe.to{xs ys:List Nd}{i:Nat}{L:List Nat}(h:pe xs i L)(k:KL xs ys)(hs:(fJ ys i).size=(fJ xs i).size)(b:(fJ ys i).total=(fJ xs i).total)(a:(fJ ys i).first=(fJ xs i).first):pe ys i L :=
 ⟨hs.trans h.size,by rw[b,h.total,k.Gb],by rw[a];exact k.Jk h.first⟩
theorem gO.to{xs ys:List Nd}(k:KL xs ys):∀ {t:Tr} {p:Nat},gO xs t p->(∀ j∈t.mem,fJ ys j=fJ xs j)->gO ys t p
 | .nil,_,_,_=>trivial
 | .nd l i r,p,h,hs=>by
  obtain⟨⟨b,c⟩,⟨d,e,f⟩,g,m,n⟩:=h
  have hi:=hs i (by simp[Tr.mem])
  refine⟨⟨b,by rw[k.len];exact c⟩,⟨by rw[hi];exact d,by rw[hi];exact e,by rw[hi];exact f⟩,g.to k (by rw[hi]) (by rw[hi]) (by rw[hi]),gO.to k m fun j a=>hs j (by simp[Tr.mem,a]),gO.to k n fun j a=>hs j (by simp[Tr.mem,a])⟩
theorem gO.up{xs ys:List Nd}(k:KL xs ys){t:Tr}{p q:Nat}(h:gO xs t p)(hs:∀ j∈t.mem,j≠t.root->fJ ys j=fJ xs j)(a:fJ ys t.root={ fJ xs t.root with up:=q })(c:t.mem.Nodup):gO ys t q:=by
 cases t with
 | nil=>trivial
 | nd l i r =>
  obtain⟨⟨e,f⟩,⟨g,m,v⟩,n,o,s⟩:=h
  simp only[Tr.root]at a hs
  simp only[Tr.mem]at c hs
  rw[zr]at c
  obtain⟨n1,d,u⟩:=c
  rw[zu]at d
  refine⟨⟨e,by rw[k.len];exact f⟩,⟨by rw[a];exact g,by rw[a];exact m,by rw[a]⟩,n.to k (by rw[a]) (by rw[a]) (by rw[a]),gO.to k o fun j b=>hs j (by simp[b]) ?_,gO.to k s fun j b=>hs j (by simp[b]) ?_⟩
  . rintro rfl;exact u j b j s_ rfl
  . rintro rfl;exact d.1 b
theorem mw.to{xs ys:List Nd}(k:KL xs ys):∀ {c:Cx} {r p:Nat} {L:List Nat},mw xs c r L p->(∀ j∈jS c,fJ ys j=fJ xs j)->mw ys c r L p
 | [],_,_,_,_,_=>trivial
 | (d,g,s) :: c,r,p,L,h,hs=>by
  obtain⟨⟨i,l⟩,⟨e,f,m⟩,n,o,q⟩:=h
  have a:=hs g (by simp[jS])
  refine⟨⟨i,by rw[k.len];exact l⟩,⟨by simp only[jf,a]at e ⊢;exact e,by simp only[jf,a]at f ⊢;exact f,by rw[a];exact m⟩,n.to k (by rw[a]) (by rw[a]) (by rw[a]),gO.to k o fun j b=>hs j (by simp[jS,b]),mw.to k q fun j b=>hs j (by simp[jS,b])⟩
theorem mw.v8{xs ys:List Nd}(k:KL xs ys){d:Bool}{g r e p:Nat}{s:Tr}{c:Cx}{L:List Nat}(h:mw xs ((d,g,s) :: c) r L p)(hs:∀ j∈s.mem++jS c,fJ ys j=fJ xs j)
 (a:fJ ys g=bif d then { fJ xs g with k0:=e } else { fJ xs g with k1:=e }):mw ys ((d,g,s) :: c) e L p:=by
 obtain⟨⟨i,l⟩,⟨t,f,m⟩,n,o,q⟩:=h
 refine⟨⟨i,by rw[k.len];exact l⟩,⟨?_,?_,?_⟩,n.to k ?_ ?_ ?_,gO.to k o fun j b=>hs j (by simp[b]),mw.to k q fun j b=>hs j (by simp[b])⟩
 . cases d<;>simp[jf,a]
 . cases d<;>simp[jf,a]at f ⊢ <;> exact f
 all_goals cases d<;>simp[a]<;>exact m
theorem CE:∀ {c:Cx} {L:List Nat} {j:Nat},j∈lq c L↔j∈L\/j∈jS c
 | [],L,j=>by simp[lq,jS]
 | (d,g,s) :: c,L,j=>by
  rw[lq,CE (c:=c)]
  cases d<;>simp only[jR,jS,cond_true,cond_false,zm,zb]<;>simp only[or_assoc,or_left_comm,or_comm]
theorem CK:∀ {c:Cx} {L:List Nat},(lq c L).Nodup->L.Nodup/\(jS c).Nodup/\∀ j∈L,j∉jS c
 | [],L,h=>⟨h,by simp[jS],by simp[jS]⟩
 | (d,g,s) :: c,L,h=>by
  obtain⟨n,t,o⟩:=CK (c:=c) h
  have key:L.Nodup/\s.mem.Nodup/\g∉L/\g∉s.mem/\∀ j∈L,j∉s.mem:=by
   cases d
   . simp only[jR,cond_false,zr,zu,zb]at n
     obtain⟨k1,⟨l,m⟩,i⟩:=n
     exact⟨m,k1,l,fun q=>i g q g (.inl rfl) rfl,fun j f hs=>i j hs j (.inr f) rfl⟩
   . simp only[jR,cond_true,zr,zu,zb]at n
     obtain⟨k1,⟨l,m⟩,i⟩:=n
     exact⟨k1,m,fun q=>i g q g (.inl rfl) rfl,l,fun j f hs=>i j f j (.inr hs) rfl⟩
  obtain⟨k1,l,m,i,u⟩:=key
  have r:∀ j,j∈jR d L g s↔j∈L\/j=g\/j∈s.mem:=fun j=>by cases d<;>simp only[jR,cond_true,cond_false,zm,zb,or_assoc,or_left_comm,or_comm]
  refine⟨k1,?_,fun j f k=>?_⟩
  . rw[jS,zr,zu]
    refine⟨⟨i,l⟩,t,fun a p b hb e=>?_⟩
    subst e
    rcases zb.1 p with rfl|p
    . exact o a ((r a).2 (.inr (.inl rfl))) hb
    . exact o a ((r a).2 (.inr (.inr p))) hb
  . rw[jS,zm,zb]at k
    rcases k with (rfl|k)|k
    . exact m f
    . exact u j f k
    . exact o j ((r j).2 (.inl f)) k
end Go.Sx
namespace Go.Sx
open Go
theorem aeD{l l' : List Int}(h:l.Perm l'):l.sum=l'.sum:=by
 induction h with
 | nil=>rfl
 | cons x _ c=>simp only[DL,c]
 | swap x y l=>simp only[DL];omega
 | trans _ _ a b=>exact a.trans b
theorem agN{xs:List Nd}{L L' : List Nat}(h:L.Perm L'):nT xs L=nT xs L' := aeD (h.map _)
theorem pe.perm{xs:List Nd}{i:Nat}{L L' : List Nat}(h:pe xs i L)(k:L.Perm L'):pe xs i L' := by
 refine⟨by rw[h.size,k.length_eq],?_,⟨k.mem_iff.1 h.first.1,fun j a=>h.first.2 j (k.mem_iff.2 a)⟩⟩
 rw[h.total,agN k]
theorem agM(xs:List Nd)(L M:List Nat):nT xs (L++M)=nT xs L+nT xs M:=by simp[nT]
theorem Lr(x:Int):IntKind.i64.wrap x=if 9223372036854775808<=x%18446744073709551616 then x%18446744073709551616-18446744073709551616 else x%18446744073709551616:=by
 show (if (true&&decide (x%18446744073709551616≥9223372036854775808))=true then x%18446744073709551616-18446744073709551616 else x%18446744073709551616)=_
 simp
theorem T1(x:Int):IntKind.i64.wrap x=(x+9223372036854775808)%18446744073709551616-9223372036854775808:=by
 rw[Lr];split<;>omega
theorem ahE(a b:Int):IntKind.i64.wrap (IntKind.i64.wrap a+IntKind.i64.wrap b)=IntKind.i64.wrap (a+b):=by
 simp only[T1];omega
theorem ahF{x:Int}(h : -9223372036854775808<=x)(a : x<=9223372036854775807):IntKind.i64.wrap x=x:=by rw[T1];omega
def mh(xs:List Nd)(i k:Nat):List Nd :=
 if k=0 then xs else
  let y0:=fN xs i (fun x=>{ x with size:=IntKind.i64.wrap (x.size+(fJ xs k).size) })
  let y1:=fN y0 i (fun x=>{ x with total:=IntKind.i64.wrap (x.total+(fJ y0 k).total) })
  if k8 y1 (fJ y1 k).first (fJ y1 i).first then fN y1 i (fun x=>{ x with first:=(fJ y1 k).first })else y1
def iI(xs:List Nd)(i:Nat):List Nd :=
 let y:=fN xs i (fun x=>{ x with size:=1,first:=i,total:=IntKind.i64.wrap (1+x.iP) })
 mh (mh y i (fJ xs i).k0) i (fJ xs i).k1
structure oe (xs ys:List Nd) (i:Nat):Prop where
 len:ys.length=xs.length
 other:∀ j,j≠i->fJ ys j=fJ xs j
 here:∃ s t f,fJ ys i={ fJ xs i with size:=s,total:=t,first:=f }
theorem oe.refl(xs:List Nd)(i:Nat):oe xs xs i:=⟨rfl,fun _ _=>rfl,_,_,_,rfl⟩
theorem oe.trans{xs ys zs:List Nd}{i:Nat}(h:oe xs ys i)(k:oe ys zs i):oe xs zs i:=by
 obtain⟨s,t,f,e⟩:=h.here
 obtain⟨c, t', b, e'⟩:=k.here
 exact⟨k.len.trans h.len,fun j a=>(k.other j a).trans (h.other j a),c, t', b, by rw[e', e]⟩
theorem oe.kl{xs ys:List Nd}{i:Nat}(h:oe xs ys i):KL xs ys:=by
 obtain⟨s,t,f,e⟩:=h.here
 refine⟨h.len,fun j=>?_,fun j=>?_⟩<;>(by_cases hj:j=i)
 . subst hj;rw[e]
 . rw[h.other j hj]
 . subst hj;rw[e]
 . rw[h.other j hj]
theorem oe.flip{xs ys:List Nd}{i:Nat}(h:oe xs ys i)(j:Nat):(fJ ys j).flip=(fJ xs j).flip:=by
 obtain⟨s,t,f,e⟩:=h.here
 by_cases hj:j=i
 . subst hj;rw[e]
 . rw[h.other j hj]
theorem R1{xs:List Nd}{i k:Nat}{L M:List Nat}(hi:i<xs.length)(hk:k<xs.length)(h:pe xs i L)(w:k≠0->k≠i/\pe xs k M)(u:k=0->M=[])(A:L.length+M.length<=1000001) :
 oe xs (mh xs i k) i/\pe (mh xs i k) i (L++M):=by
 unfold mh
 by_cases hk0:k=0
 . rw[if_pos hk0,u hk0,qA];exact⟨oe.refl _ _,h⟩
 . rw[if_neg hk0]
   obtain⟨p,hv⟩:=w hk0
   obtain⟨y0,f⟩:∃ y,y=fN xs i (fun x=>{ x with size:=IntKind.i64.wrap (x.size+(fJ xs k).size) }):=⟨_,rfl⟩
   obtain⟨y1,e1⟩:∃ y,y=fN y0 i (fun x=>{ x with total:=IntKind.i64.wrap (x.total+(fJ y0 k).total) }):=⟨_,rfl⟩
   simp only[<-f,<-e1]
   have l0:y0.length=xs.length:=by rw[f,gC]
   have r:y1.length=xs.length:=by rw[e1,gC,l0]
   have a0:fJ y0 i={ fJ xs i with size:=IntKind.i64.wrap ((fJ xs i).size+(fJ xs k).size) }:=by rw[f,j9 hi]
   have b0:∀ j,j≠i->fJ y0 j=fJ xs j:=fun j d=>by rw[f,jX (fun e=>d e.symm)]
   have a1:fJ y1 i={ fJ xs i with size:=IntKind.i64.wrap ((fJ xs i).size+(fJ xs k).size),total:=IntKind.i64.wrap ((fJ xs i).total+(fJ xs k).total) }:=by
    rw[e1,j9 o_,a0,b0 k p]
   have b1:∀ j,j≠i->fJ y1 j=fJ xs j:=fun j d=>by rw[e1,jX (fun e=>d e.symm),b0 j d]
   have l:oe xs y1 i:=⟨r,b1,_,_,_,a1⟩
   have hs:IntKind.i64.wrap ((fJ xs i).size+(fJ xs k).size)=((L++M).length:Int):=by
    rw[h.size,hv.size,ahF o_ o_,zq];omega
   have q:IntKind.i64.wrap ((fJ xs i).total+(fJ xs k).total)=IntKind.i64.wrap (nT xs (L++M)):=by
    rw[h.total,hv.total,ahE,agM]
   have hb:∀ a b,k8 y1 a b=k8 xs a b:=l.kl.before
   have t:(fJ y1 k).first=(fJ xs k).first:=by rw[b1 k p]
   have o:(fJ y1 i).first=(fJ xs i).first:=by rw[a1]
   have s:∀ a b c,k8 xs a b=true->k8 xs b c=true->k8 xs a c=true:=by
    intro a b c m v
    simp only[k8,decide_eq_true_eq]at m v ⊢;omega
   have z:∀ a b,k8 xs a b=false->a=b\/k8 xs b a=true:=by
    intro a b m
    simp only[k8,decide_eq_true_eq,decide_eq_false_iff_not]at m ⊢;omega
   rw[t,o,hb]
   cases hc:k8 xs (fJ xs k).first (fJ xs i).first with
   | true =>
    rw[if_pos rfl]
    have g:fJ (fN y1 i (fun x=>{ x with first:=(fJ xs k).first })) i={ fJ xs i with size:=IntKind.i64.wrap ((fJ xs i).size+(fJ xs k).size),total:=IntKind.i64.wrap ((fJ xs i).total+(fJ xs k).total),first:=(fJ xs k).first }:=by
     rw[j9 o_,a1]
    have n:oe xs (fN y1 i (fun x=>{ x with first:=(fJ xs k).first })) i:=⟨by rw[gC,r],fun j d=>by rw[jX (fun e=>d e.symm),b1 j d],_,_,_,g⟩
    refine⟨n,⟨by rw[g];exact hs,by rw[g,n.kl.Gb];exact q,?_⟩⟩
    rw[g]
    refine n.kl.Jk ⟨wW _ hv.first.1,fun j d=>?_⟩
    rcases zm.1 d with d|d
    . rcases h.first.2 j d with rfl|d
      . exact .inr hc
      . exact .inr (s _ _ _ hc d)
    . exact hv.first.2 j d
   | false =>
    rw[if_neg s_]
    refine⟨l,⟨by rw[a1];exact hs,by rw[a1,l.kl.Gb];exact q,?_⟩⟩
    rw[o]
    refine l.kl.Jk ⟨wX _ h.first.1,fun j d=>?_⟩
    rcases zm.1 d with d|d
    . exact h.first.2 j d
    . rcases z _ _ hc with e|e
      . rw[<-e];exact hv.first.2 j d
      . rcases hv.first.2 j d with rfl|d
        . exact .inr e
        . exact .inr (s _ _ _ e d)
theorem gO.vals{xs:List Nd}{t:Tr}{p:Nat}(h:gO xs t p):t.root≠0->pe xs t.root t.mem:=by
 cases t with
 | nil=>intro h;exact absurd rfl h
 | nd l i r=>intro _;exact h.2.2.1
theorem gO.mV{xs:List Nd}{t:Tr}{p:Nat}(h:gO xs t p):t.root≠0->t.root∈t.mem:=by
 cases t with
 | nil=>intro h;exact absurd rfl h
 | nd l i r=>intro _;simp[Tr.root,Tr.mem]
theorem gO.Ku{xs:List Nd}{t:Tr}{p:Nat}(h:gO xs t p):t.root=0->t.mem=[]:=by
 cases t with
 | nil=>intro _;rfl
 | nd l i r=>intro e;exact absurd e h.1.1
theorem gO.AV{xs:List Nd}{t:Tr}{p:Nat}(h:gO xs t p)(a:0<xs.length):t.root<xs.length:=by
 cases t with
 | nil=>exact a
 | nd l i r=>exact h.1.2
theorem gO.qj{xs:List Nd}:∀ {t:Tr} {p:Nat},gO xs t p->∀ j∈t.mem,j≠0/\j<xs.length
 | .nil,_,_,j,a=>by simp[Tr.mem]at a
 | .nd l i r,p,h,j,a=>by
  obtain⟨b,_,_,c,d⟩:=h
  simp only[Tr.mem,zm,zb]at a
  rcases a with a|rfl|a
  . exact gO.qj c j a
  . exact b
  . exact gO.qj d j a
theorem AR{xs:List Nd}{i:Nat}{l r:Tr}(hi:i≠0/\i<xs.length)(z:gO xs l i)(B:gO xs r i)(w:(fJ xs i).k0=l.root)(h1:(fJ xs i).k1=r.root)(A:(l.mem++i :: r.mem).Nodup)(D:(l.mem++i :: r.mem).length<=1000000) :
 oe xs (iI xs i) i/\gO (iI xs i) (.nd l i r) (fJ xs i).up:=by
 have J:0<xs.length:=by omega
 rw[zr,zu]at A
 obtain⟨n1,⟨o,K⟩,G⟩:=A
 have p:i∉l.mem:=fun h=>G i h i s_ rfl
 simp only[zq,ze]at D
 unfold iI
 obtain⟨y,g⟩:∃ y,y=fN xs i (fun x=>{ x with size:=1,first:=i,total:=IntKind.i64.wrap (1+x.iP) }):=⟨_,rfl⟩
 simp only[<-g]
 have d:fJ y i={ fJ xs i with size:=1,first:=i,total:=IntKind.i64.wrap (1+(fJ xs i).iP) }:=by rw[g,j9 hi.2]
 have F:y.length=xs.length:=by rw[g,gC]
 have by_:∀ j,j≠i->fJ y j=fJ xs j:=fun j a=>by rw[g,jX (fun e=>a e.symm)]
 have q:oe xs y i:=⟨F,by_,_,_,_,d⟩
 have I:pe y i [i]:=⟨by rw[d];rfl,by rw[d,q.kl.Gb];simp[nT],by rw[d];exact⟨s_,fun j a=>.inl (by simpa using a)⟩⟩
 have m : gO y l i:=z.to q.kl fun j a=>by_ j (fun e=>p (e▸a))
 have E : gO y r i:=B.to q.kl fun j a=>by_ j (fun e=>o (e▸a))
 rw[w,h1]
 obtain⟨b,H⟩:=R1 (xs:=y) (i:=i) (k:=l.root) (L:=[i]) (M:=l.mem) o_ (m.AV o_) I (fun h=>⟨fun e=>p (e▸z.mV h),m.vals h⟩) (m.Ku) (by simp;omega)
 have n:=E.to b.kl fun j a=>b.other j (fun e=>o (e▸a))
 have C:=m.to b.kl fun j a=>b.other j (fun e=>p (e▸a))
 obtain⟨c,v2⟩:=R1 (xs:=mh y i l.root) (i:=i) (k:=r.root) (L:=[i]++l.mem) (M:=r.mem) (by rw[b.len];omega) (n.AV (by rw[b.len];omega)) H (fun h=>⟨fun e=>o (e▸B.mV h),n.vals h⟩) (n.Ku) (by simp;omega)
 have v:=(q.trans b).trans c
 obtain⟨s,t,f,u⟩:=v.here
 refine⟨v,⟨hi.1,by rw[v.len];exact hi.2⟩,⟨by rw[u];exact w,by rw[u];exact h1,by rw[u]⟩,v2.perm ?_,C.to c.kl fun j a=>c.other j (fun e=>p (e▸a)),n.to c.kl fun j a=>c.other j (fun e=>o (e▸a))⟩
 simp only[List.singleton_append,ng]
 exact tY.symm
end Go.Sx
namespace Go.Sx
open Go
def iG(xs:List Nd)(i:Nat):List Nd :=
 let p:=(fJ xs i).up
 let g:=(fJ xs p).up
 let s:=(jC xs i).1
 let y1:=if (jC xs p).2=true then iX xs g (jC xs p).1 i else fN xs i (fun x=>{ x with up:=g })
 let y2:=iX y1 p s (if s=0 then(fJ y1 i).k1 else(fJ y1 i).k0)
 let a:=iX y2 i (1-s) p
 iI (iI a p) i
def qY(d:Bool)(k:Nat)(x:Nd):Nd:=bif d then { x with k0:=k } else { x with k1:=k }
def sd(d:Bool):Nat:=bif d then 0 else 1
theorem KI(d:Bool)(k:Nat)(x:Nd):(qY d k x).key=x.key:=by cases d<;>rfl
theorem KJ(d:Bool)(k:Nat)(x:Nd):(qY d k x).iP=x.iP:=by cases d<;>rfl
theorem KH(d:Bool)(k:Nat)(x:Nd):(qY d k x).flip=x.flip:=by cases d<;>rfl
theorem ad2(d:Bool)(k:Nat)(x:Nd):(qY d k x).up=x.up:=by cases d<;>rfl
theorem PL(xs:List Nd)(i:Nat)(d:Bool)(k:Nat):iX xs i (sd d) k=if k=0 then fN xs i (qY d k)else fN (fN xs i (qY d k)) k (fun x=>{ x with up:=i }):=by
 cases d<;>rfl
theorem I7(xs:List Nd)(i:Nat)(d:Bool)(k:Nat):(iX xs i (sd d) k).length=xs.length:=by
 rw[PL];split<;>simp[gC]
theorem I6{xs:List Nd}{i k:Nat}{d:Bool}(hi:i<xs.length)(hk:k<xs.length)(b:k≠i)(j:Nat) :
 fJ (iX xs i (sd d) k) j=if j=i then qY d k (fJ xs i)else if j=k/\k≠0 then { fJ xs k with up:=i } else fJ xs j:=by
 rw[PL]
 split
 . rename_i a
   rw[iS hi]
   by_cases hj:i=j
   . rw[if_pos hj,if_pos hj.symm]
   . rw[if_neg hj,if_neg (fun e=>hj e.symm),if_neg (by simp[a])]
 . rename_i a
   rw[iS (by rw[gC];exact hk)]
   by_cases hj:k=j
   . subst hj
     rw[if_pos rfl,if_neg b,if_pos ⟨rfl,a⟩,jX (fun e=>b e.symm)]
   . rw[if_neg hj,iS hi]
     by_cases hj' : i=j
     . rw[if_pos hj', if_pos hj'.symm]
     . rw[if_neg hj', if_neg (fun e=>hj' e.symm),if_neg (fun e=>hj e.1.symm)]
theorem KK{xs:List Nd}{d:Bool}{p i:Nat}(b:(fJ xs i).up=p)(hp:p≠0)(hk:jf xs d p=i)(a:jf xs (!d) p≠i):jC xs i=(sd d,true):=by
 unfold jC
 rw[b,if_neg hp]
 cases d
 . simp only[jf,cond_false,Bool.not_false,cond_true]at hk a
   rw[if_neg a,if_pos hk];rfl
 . simp only[jf,cond_true]at hk
   rw[if_pos hk];rfl
theorem SE{xs:List Nd}{i p:Nat}(c:(fJ xs i).up=p)(h:p=0\/jf xs true p≠i/\jf xs false p≠i):jC xs i=(0,false):=by
 unfold jC
 rw[c]
 rcases h with h|⟨a,b⟩
 . rw[if_pos h]
 . split
   . rfl
   . simp only[jf,cond_true,cond_false]at a b
     rw[if_neg a,if_neg b]
def qX(d:Bool)(a:Tr)(i:Nat)(b:Tr)(p:Nat)(s:Tr):Tr:=bif d then .nd a i (.nd b p s)else .nd (.nd s p a) i b
theorem Kv(d:Bool)(a:Tr)(i:Nat)(b:Tr)(p:Nat)(s:Tr):(qX d a i b p s).mem=jR d (a.mem++i :: b.mem) p s:=by
 cases d<;>simp[qX,jR,Tr.mem]
theorem ady(d:Bool)(a:Tr)(i:Nat)(b:Tr)(p:Nat)(s:Tr):(qX d a i b p s).root=i:=by cases d<;>rfl
theorem Kg:∀ (c:Cx) (L:List Nat),L.length<=(lq c L).length
 | [],_=>zk _
 | (d,g,s) :: c,L=>kS (by cases d<;>simp[jR]<;>omega) (Kg c _)
theorem R4{xs:List Nd}{d:Bool}{i:Nat}{t s:Tr}(hi:i≠0/\i<xs.length)(e:gO xs t i)(hs:gO xs s i)(a:jf xs d i=t.root)(h1:jf xs (!d) i=s.root)(c:(jR d t.mem i s).Nodup)(b:(jR d t.mem i s).length<=1000000) :
 oe xs (iI xs i) i/\gO (iI xs i) (l9 d t i s) (fJ xs i).up:=by
 cases d
 . exact AR hi hs e (by simpa[jf]using h1) (by simpa[jf]using a) c b
 . exact AR hi e hs (by simpa[jf]using a) (by simpa[jf]using h1) c b
structure Ug (xs ys:List Nd) (S:List Nat):Prop where
 kl:KL xs ys
 other:∀ j,j∉S->fJ ys j=fJ xs j
 flip:∀ j,(fJ ys j).flip=(fJ xs j).flip
theorem mw.ku{xs ys:List Nd}(k:KL xs ys){c:Cx}{r a q:Nat}{L:List Nat}(h:mw xs c r L q)(hs:∀ d g s c', c=(d,g,s) :: c' -> (∀ j∈s.mem++jS c', fJ ys j=fJ xs j)/\fJ ys g=qY d a (fJ xs g)):mw ys c a L q:=by
 cases c with
 | nil=>trivial
 | cons f c' =>
  obtain⟨d,g,s⟩:=f
  obtain⟨b,e⟩:=hs d g s c' rfl
  exact h.v8 k b e
theorem yE{xs:List Nd}{d:Bool}{p i q:Nat}{s a b:Tr}{c:Cx}(hR:gO xs (jY ((d,p,s) :: c) (.nd a i b)) q)(hn:(lq ((d,p,s) :: c) (a.mem++i :: b.mem)).Nodup)
 (a4:xs.length<=1000001) (aj:(lq ((d,p,s) :: c) (a.mem++i :: b.mem)).length<=1000000)
 (hq:c=[]->q=0\/jf xs true q≠p/\jf xs false q≠p) :
 gO (iG xs i) (jY c (qX d a i b p s)) q/\Ug xs (iG xs i) (lq ((d,p,s) :: c) (a.mem++i :: b.mem)):=by
 obtain⟨hT,hC⟩:=(yB _ _ _).1 hR
 obtain⟨⟨i0,il⟩,⟨av,aw,iu⟩,iv,ha,hb⟩:=hT
 simp only[wA]at iu
 obtain⟨⟨U,pl⟩,⟨pk,po,pu⟩,pv,hs,aa⟩:=hC
 simp only[Tr.root]at pk
 simp only[Tr.mem]at pv aa
 obtain⟨n1,n2,P⟩:=CK hn
 simp only[jS,ng,zu,zr,zm,zb,not_or]at n1 n2 P
 obtain⟨H,ns,nc,aZ⟩:=n2
 obtain⟨na,⟨ay,nb⟩,ai⟩:=n1
 have J:i≠p:=(P i s_).1
 have an:i∉s.mem:=(P i s_).2.1
 have ab:i∉jS c:=(P i s_).2.2
 have ak:i∉a.mem:=fun h=>ai i h i (.inl rfl) rfl
 have aX:s.root≠i:=fun e=>by
  by_cases h:s.root=0
  . exact i0 (e.symm.trans h)
  . exact an (e▸hs.mV h)
 -- sides
 have aW:jC xs i=(sd d,true):=KK iu U pk (by rw[po];exact aX)
 -- the parent's parent
 obtain⟨g,R⟩:∃ g,(fJ xs p).up=g:=⟨_,rfl⟩
 have S:g=wA c q:=R.symm.trans pu
 -- the middle tree,and the outer one
 obtain⟨m,o,hm⟩:∃ m o:Tr,(m,o)=(bif d then(b,a)else(a,b)):=⟨_,_,rfl⟩
 have aL:gO xs m i/\gO xs o i/\jf xs (!d) i=m.root/\jf xs d i=o.root/\(∀ j,j∈m.mem\/j∈o.mem↔j∈a.mem\/j∈b.mem)/\i∉m.mem/\i∉o.mem/\m.mem.Nodup/\o.mem.Nodup/\∀ j∈m.mem,j∉o.mem:=by
  cases d<;>(simp only[cond_true,cond_false,Prod.mk.injEq]at hm;obtain⟨rfl,rfl⟩:=hm)
  . exact⟨ha,hb,by simpa[jf]using av,by simpa[jf]using aw,fun j=>Iff.rfl,ak,ay,na,nb,fun j n r=>ai j n j (.inr r) rfl⟩
  . exact⟨hb,ha,by simpa[jf]using aw,by simpa[jf]using av,fun j=>Or.comm,ay,ak,nb,na,fun j n r=>ai j r j (.inr n) rfl⟩
 obtain⟨G,aO,aq,aQ,ao,am,aF,ad,a6,aM⟩:=aL
 have C:∀ j,j∈m.mem\/j∈o.mem->j≠p/\j∉s.mem/\j∉jS c:=fun j l=>by
  have:=P j (by rcases(ao j).1 l with h|h<;>simp[h])
  exact⟨this.1,this.2.1,this.2.2⟩
 have a5:m.root<xs.length:=G.AV o_
 have ac:m.root≠i:=fun e=>am (e▸G.mV o_)
 have ae:m.root≠p:=fun e=>(C m.root (.inl (G.mV o_))).1 e
 -- the first step
 obtain⟨y1,F⟩:∃ y,y=(if (jC xs p).2=true then iX xs g (jC xs p).1 i else fN xs i (fun x=>{ x with up:=g })):=⟨_,rfl⟩
 have aY:y1.length=xs.length/\fJ y1 i={ fJ xs i with up:=g }/\(∀ j,j≠i->j∉jS c->fJ y1 j=fJ xs j)/\(∀ B v D c', c=(B, v, D) :: c' -> (∀ j,j≠i->j≠v -> fJ y1 j=fJ xs j)/\fJ y1 v = qY B i (fJ xs v))/\(c=[]->∀ j,j≠i->fJ y1 j=fJ xs j):=by
  cases c with
  | nil =>
   have ag:jC xs p=(0,false):=SE (p:=q) (by rw[R,S];rfl) (hq rfl)
   rw[ag]at F
   simp only[Bool.false_eq_true,if_false]at F
   subst F
   refine⟨gC,j9 il,fun j l _=>jX (fun e=>l e.symm),?_,fun _ j l=>jX (fun e=>l e.symm)⟩
   intro B v D c' e
   cases e
  | cons f c' =>
   obtain⟨B, v, D⟩:=f
   obtain⟨⟨g0,gl⟩,⟨gk,go,gu⟩,gv,gs,gc⟩:=aa
   simp only[jS,ng,zb,zm,not_or]at ab H
   have a7:p≠v := H.2.1
   have ag:jC xs p=(sd B, true):=KK (p:=v) (by rw[R,S];rfl) g0 gk (by
    rw[go]
    intro e
    have hr:D.root≠0:=by rw[e];exact U
    exact H.2.2.1 (e▸gs.mV hr))
   rw[ag]at F
   simp only[if_true]at F
   have aE:g=v := S
   subst aE
   have al:i≠g:=ab.1
   subst F
   have Q:=I6 (xs:=xs) (d:=B) gl il al
   refine⟨I7 _ _ _ _,by rw[Q,if_neg al,if_pos ⟨rfl,i0⟩],fun j l aG=>?_,fun d2 g2 s2 c2 e=>?_,fun e=>by cases e⟩
   . rw[Q,if_neg (fun e=>aG (by simp[jS,e])),if_neg (fun e=>l e.1)]
   . cases e
     exact⟨fun j n r=>by rw[Q,if_neg r,if_neg (fun e=>n e.1)],by rw[Q,if_pos rfl]⟩
 obtain⟨l1,a1,o1,c1,e1⟩:=aY
 have az:p∉jS c:=H.2
 have aS:fJ y1 p=fJ xs p:=o1 p (fun e=>J e.symm) az
 have aH:(if sd d=0 then(fJ y1 i).k1 else(fJ y1 i).k0)=m.root:=by
  rw[a1]
  cases d
  . simp only[sd,cond_false,Dx,if_false];simpa[jf]using aq
  . simp only[sd,cond_true,if_true];simpa[jf]using aq
 -- the second step
 obtain⟨y2,Y⟩:∃ y,y=iX y1 p (sd d) m.root:=⟨_,rfl⟩
 have nt:=I6 (xs:=y1) (i:=p) (k:=m.root) (d:=d) o_ o_ ae
 rw[<-Y]at nt
 have l2:y2.length=xs.length:=by rw[Y,I7,l1]
 -- the third step
 obtain⟨u,Z⟩:∃ y,y=iX y2 i (sd (!d)) p:=⟨_,rfl⟩
 have nu:=I6 (xs:=y2) (i:=i) (k:=p) (d := !d) o_ o_ (fun e=>J e.symm)
 rw[<-Z]at nu
 have l3:u.length=xs.length:=by rw[Z,I7,l2]
 have ar:iG xs i=iI (iI u p) i:=by
  have aV:1-sd d=sd (!d):=by cases d<;>rfl
  unfold iG
  simp only[aW,iu,R,<-F,aH,<-Y,aV,<-Z]
 -- the nodes before the refreshes
 have a0:fJ y2 i={ fJ xs i with up:=g }:=by rw[nt,if_neg J,if_neg (fun e=>ac e.1.symm),a1]
 have a2:fJ y2 p=qY d m.root (fJ xs p):=by rw[nt,if_pos rfl,aS]
 have aA:fJ u i=qY (!d) p { fJ xs i with up:=g }:=by rw[nu,if_pos rfl,a0]
 have X:fJ u p={ qY d m.root (fJ xs p)with up:=i }:=by rw[nu,if_neg (fun e=>J e.symm),if_pos ⟨rfl,U⟩,a2]
 have aB:m.root≠0->fJ u m.root={ fJ xs m.root with up:=p }:=fun h=>by
  rw[nu,if_neg ac,if_neg (fun e=>ae e.1),nt,if_neg ae,if_pos ⟨rfl,h⟩,o1 _ ac (C _ (.inl (G.mV h))).2.2]
 have W:∀ j,j≠i->j≠p->(j≠m.root\/m.root=0)->fJ u j=fJ y1 j:=fun j n r w=>by
  rw[nu,if_neg n,if_neg (fun e=>r e.1),nt,if_neg r,if_neg (fun e=>by rcases w with w|w;exact w e.1;exact e.2 w)]
 have V:∀ j,j≠i->j≠p->(j≠m.root\/m.root=0)->j∉jS c->fJ u j=fJ xs j:=fun j n r w h4=>by rw[W j n r w,o1 j n h4]
 have M:∀ j,j∉m.mem->j≠m.root\/m.root=0:=fun j l=>by
  by_cases h:m.root=0
  . exact .inr h
  . exact .inl (fun e=>l (e▸G.mV h))
 have ah:∀ j,(fJ u j).key=(fJ xs j).key/\(fJ u j).iP=(fJ xs j).iP/\(fJ u j).flip=(fJ xs j).flip:=by
  have a3:∀ j,(fJ y1 j).key=(fJ xs j).key/\(fJ y1 j).iP=(fJ xs j).iP/\(fJ y1 j).flip=(fJ xs j).flip:=by
   intro j
   by_cases n:j=i
   . subst n;rw[a1];exact⟨rfl,rfl,rfl⟩
   . cases hc:c with
     | nil=>rw[e1 hc j n];exact⟨rfl,rfl,rfl⟩
     | cons f c' =>
      obtain⟨B, v, D⟩:=f
      obtain⟨k1,k2⟩:=c1 B v D c' hc
      by_cases r:j=v
      . subst r;rw[k2];exact⟨KI _ _ _,KJ _ _ _,KH _ _ _⟩
      . rw[k1 j n r];exact⟨rfl,rfl,rfl⟩
  intro j
  by_cases n:j=i
  . subst n;rw[aA];exact⟨by rw[KI],by rw[KJ],by rw[KH]⟩
  . by_cases r:j=p
    . subst r;rw[X];exact⟨KI _ _ _,KJ _ _ _,KH _ _ _⟩
    . by_cases w:j=m.root/\m.root≠0
      . obtain⟨rfl,w⟩:=w;rw[aB w];exact⟨rfl,rfl,rfl⟩
      . rw[W j n r (by by_cases h:m.root=0;exact .inr h;exact .inl (fun e=>w ⟨e,h⟩))];exact a3 j
 have O:KL xs u:=⟨l3,fun j=>(ah j).1,fun j=>(ah j).2.1⟩
 -- the trees before the refreshes
 have aK:gO u m p:=by
  cases m with
  | nil=>trivial
  | nd ml mi mr =>
   refine G.up O (fun j l hr=>?_) (aB G.1.1) ad
   obtain⟨n,r,w⟩:=C j (.inl l)
   exact V j (fun e=>am (e▸l)) n (.inl hr) w
 have af:∀ j∈s.mem,j∉m.mem:=fun j l hm=>(C j (.inl hm)).2.1 l
 have aU:gO u s p:=hs.to O fun j l=>V j (fun e=>an (e▸l)) (fun e=>H.1 (e▸l)) (M j (af j l)) (fun h9=>aZ j l j h9 rfl)
 have aP:gO u o i:=aO.to O fun j l=>V j (fun e=>aF (e▸l)) (C j (.inr l)).1 (M j (fun h=>aM j h l)) (C j (.inr l)).2.2
 have I:∀ j∈jS c,j≠i/\j≠p/\j∉m.mem:=fun j l=>⟨fun e=>ab (e▸l),fun e=>az (e▸l),fun h=>(C j (.inl h)).2.2 l⟩
 have aD:mw u c i (jR d (a.mem++i :: b.mem) p s) q:=by
  refine aa.ku O fun B v D c' e=>?_
  obtain⟨k1,k2⟩:=c1 B v D c' e
  subst e
  simp only[jS,ng,zu,zm,not_or]at nc I
  refine⟨fun j l=>?_,?_⟩
  . have K : j∈D.mem\/j∈jS c' := by simpa using l
    have h:=I j (by simp only[zb,zm];exact .inr K)
    rw[W j h.1 h.2.1 (M j h.2.2),k1 j h.1]
    rintro rfl
    rcases K with h' | h'
    . exact nc.1.1 h'
    . exact nc.1.2 h'
  . have h:=I v s_
    rw[W v h.1 h.2.1 (M v h.2.2),k2]
 -- the parent is refreshed
 have aJ:(jR d m.mem p s).length<=1000000:=by
  refine kS ?_ aj
  refine kS ?_ (Kg c (jR d (a.mem++i :: b.mem) p s))
  cases d<;>(simp only[cond_true,cond_false,Prod.mk.injEq]at hm;obtain⟨rfl,rfl⟩:=hm)<;>simp[jR]<;>omega
 have aI:(jR d (a.mem++i :: b.mem) p s).length<=1000000:=kS (Kg c _) aj
 have aN:(jR d m.mem p s).Nodup:=by
  cases d
  . simp only[jR,cond_false,zr,zu]
    exact⟨ns,⟨fun h=>(C p (.inl h)).1 rfl,ad⟩,fun x N y A e=>by
     subst e
     rcases zb.1 A with rfl|A
     . exact H.1 N
     . exact af x N A⟩
  . simp only[jR,cond_true,zr,zu]
    exact⟨ad,⟨H.1,ns⟩,fun x N y A e=>by
     subst e
     rcases zb.1 A with rfl|A
     . exact(C _ (.inl N)).1 rfl
     . exact af x A N⟩
 obtain⟨E,hz⟩:=R4 (xs:=u) (d:=d) (i:=p) (t:=m) (s:=s) ⟨U,o_⟩ aK aU (by rw[jf,X];cases d<;>rfl) (by rw[jf,X,<-po];cases d<;>rfl) aN aJ
 rw[show (fJ u p).up=i by rw[X]]at hz
 obtain⟨z,ez⟩:∃ z,z=iI u p:=⟨_,rfl⟩
 rw[<-ez]at E hz ar
 have lz:z.length=xs.length:=by rw[E.len,l3]
 have zi:fJ z i=qY (!d) p { fJ xs i with up:=g }:=by rw[E.other i J,aA]
 have aR:gO z o i:=aP.to E.kl fun j l=>E.other j (C j (.inr l)).1
 have aT:(l9 d m p s).root=p:=Sf _ _ _ _
 have au:l9 (!d) (l9 d m p s) i o=qX d a i b p s:=by
  cases d<;>(simp only[cond_true,cond_false,Prod.mk.injEq]at hm;obtain⟨rfl,rfl⟩:=hm)<;>rfl
 have ap:jR (!d) (l9 d m p s).mem i o=jR d (a.mem++i :: b.mem) p s:=by rw[<-JJ,au,Kv]
 have aC:(jR d (a.mem++i :: b.mem) p s).Nodup:=(CK (c:=c) hn).1
 obtain⟨T,A⟩:=R4 (xs:=z) (d := !d) (i:=i) (t:=l9 d m p s) (s:=o) ⟨i0,o_⟩ hz aR (by rw[jf,zi,aT];cases d<;>rfl) (by rw[jf,zi,<-aQ];cases d<;>rfl) (by rw[ap];exact aC) (by rw[ap];exact aI)
 rw[<-ar]at T A
 rw[au,show (fJ z i).up=g by rw[zi,ad2]]at A
 have o2:∀ j,j≠i->j≠p->fJ (iG xs i) j=fJ u j:=fun j n r=>by rw[T.other j n,E.other j r]
 have ax : KL u (iG xs i):=E.kl.trans T.kl
 refine⟨(yB _ _ _).2 ⟨by rw[<-S];exact A,?_⟩,O.trans ax, fun j l=>?_,fun j=>?_⟩
 . rw[ady,Kv]
   exact aD.to ax fun j l=>o2 j (I j l).1 (I j l).2.1
 . have K : j∉jR d (a.mem++i :: b.mem) p s/\j∉jS c:=by
    have:=mt (CE (c:=c)).2 l
    simpa[not_or]using this
   have L:j≠i/\j≠p/\j∉m.mem:=by
    have n:=K.1
    have r:¬ (j∈a.mem\/j∈b.mem)/\j≠i/\j≠p:=by
     cases d<;>simp only[jR,cond_true,cond_false,zm,zb,not_or]at n<;>exact⟨by simp[n],by simp[n],by simp[n]⟩
    exact⟨r.2.1,r.2.2,fun h=>r.1 ((ao j).1 (.inl h))⟩
   rw[o2 j L.1 L.2.1,V j L.1 L.2.1 (M j L.2.2) K.2]
 . rw[T.flip,E.flip,(ah j).2.2]
end Go.Sx
namespace Go.Sx
open Go
def gA(xs:List Nd):Bool->Tr->List Nat
 | _,.nil=>[]
 | φ,.nd l i r=>bif (xor φ (fJ xs i).flip)then gA xs (xor φ (fJ xs i).flip) r++i :: gA xs (xor φ (fJ xs i).flip) l else gA xs (xor φ (fJ xs i).flip) l++i :: gA xs (xor φ (fJ xs i).flip) r
theorem tM{xs ys:List Nd}:∀ {t:Tr} {φ:Bool},(∀ j∈t.mem,(fJ ys j).flip=(fJ xs j).flip)->gA ys φ t=gA xs φ t
 | .nil,_,_=>rfl
 | .nd l i r,φ,h=>by
  simp only[gA,h i (by simp[Tr.mem])]
  rw[tM (t:=l) fun j a=>h j (by simp[Tr.mem,a]),tM (t:=r) fun j a=>h j (by simp[Tr.mem,a])]
theorem SK{xs ys:List Nd}{l r:Tr}{i:Nat}{φ:Bool}(hi:(fJ ys i).flip = !(fJ xs i).flip)(h:∀ j∈l.mem++r.mem,(fJ ys j).flip=(fJ xs j).flip):gA ys φ (.nd l i r)=gA xs (!φ) (.nd l i r):=by
 have e:xor φ (!(fJ xs i).flip)=xor (!φ) (fJ xs i).flip:=by cases φ<;>cases (fJ xs i).flip<;>rfl
 simp only[gA,hi,e]
 rw[tM (t:=l) fun j a=>h j (by simp[a]),tM (t:=r) fun j a=>h j (by simp[a])]
theorem oE(xs:List Nd):∀ (φ:Bool) (t:Tr),(gA xs φ t).Perm t.mem
 | _,.nil=>.nil
 | φ,.nd l i r=>by
  have a:=oE xs (xor φ (fJ xs i).flip) l
  have b:=oE xs (xor φ (fJ xs i).flip) r
  simp only[gA,Tr.mem]
  generalize xor φ (fJ xs i).flip=ψ at a b ⊢
  cases ψ with
  | false =>
   simp only[cond_false]
   exact(a.append_right _).trans (List.Perm.append_left _ (b.cons i)) |>.trans (.refl _)
  | true =>
   simp only[cond_true]
   exact((b.append_right _).trans (List.Perm.append_left _ (a.cons i))).trans (qB.trans (by simp only[ng];exact tY.symm))
theorem aes{xs ys:List Nd}{d:Bool}{t t' s:Tr}{g:Nat}(b:∀ ψ,gA ys ψ t' = gA xs ψ t)(h:∀ j∈g :: s.mem,(fJ ys j).flip=(fJ xs j).flip)(φ:Bool):gA ys φ (l9 d t' g s)=gA xs φ (l9 d t g s):=by
 have hs:∀ ψ,gA ys ψ s=gA xs ψ s:=fun ψ=>tM fun j a=>h j (by simp[a])
 cases d<;>simp only[l9,cond_true,cond_false,gA,h g s_,b,hs]
theorem KN{xs ys:List Nd}:∀ {c:Cx} {t t' : Tr},(∀ ψ,gA ys ψ t' = gA xs ψ t)->(∀ j∈jS c,(fJ ys j).flip=(fJ xs j).flip)->∀ φ,gA ys φ (jY c t')=gA xs φ (jY c t)
 | [],_,_,h,_,φ=>h φ
 | (d,g,s) :: c,t,t', h,hc,φ=>by
  simp only[jY]
  exact KN (c:=c) (fun ψ=>aes h (fun j a=>hc j (by simp only[jS,zm];exact .inl a)) ψ) (fun j a=>hc j (by simp only[jS,zm];exact .inr a)) φ
theorem aet{xs:List Nd}{d:Bool}{a b s:Tr}{i p:Nat}(hi:(fJ xs i).flip=false)(hp:(fJ xs p).flip=false)(φ:Bool):gA xs φ (qX d a i b p s)=gA xs φ (l9 d (.nd a i b) p s):=by
 cases d<;>cases φ<;>simp[qX,l9,gA,hi,hp]
theorem gO.F9{xs ys:List Nd}(w:ys.length=xs.length):∀ {t:Tr} {p:Nat},gO xs t p->(∀ j∈t.mem,∃ f,fJ ys j={ fJ xs j with flip:=f })->gO ys t p:=by
 have key:∀ {t:Tr} {p:Nat} (L:List Nat),gO xs t p->(∀ j∈t.mem,∃ f,fJ ys j={ fJ xs j with flip:=f })->gO ys t p:=by
  intro t
  induction t with
  | nil=>intro p L _ _;trivial
  | nd l i r q s =>
   intro p L h hs
   obtain⟨⟨d,v⟩,⟨g,k,m⟩,b,n,o⟩:=h
   obtain⟨f,hi⟩:=hs i (by simp[Tr.mem])
   have c:∀ j∈l.mem++i :: r.mem,(fJ ys j).key=(fJ xs j).key/\(fJ ys j).iP=(fJ xs j).iP:=fun j a=>by
    obtain⟨u, e⟩:=hs j a
    rw[e];exact⟨rfl,rfl⟩
   refine⟨⟨d,o_⟩,⟨by rw[hi];exact g,by rw[hi];exact k,by rw[hi];exact m⟩,⟨by rw[hi];exact b.size,?_,?_⟩,q L n fun j a=>hs j (by simp[Tr.mem,a]),s L o fun j a=>hs j (by simp[Tr.mem,a])⟩
   . rw[hi,show nT ys (l.mem++i :: r.mem)=nT xs (l.mem++i :: r.mem) from congrArg List.sum (yX fun j a=>by rw[(c j a).2])]
     exact b.total
   . rw[hi]
     refine⟨b.first.1,fun j a=>?_⟩
     rcases b.first.2 j a with e|e
     . exact .inl e
     . refine .inr ?_
       rw[<-e]
       simp only[k8,(c j a).1,(c _ b.first.1).1]
 intro t p h hs
 exact key [] h hs
theorem Ki{xs:List Nd}{l r:Tr}{i p:Nat}(h:gO xs (.nd l i r) p)(I:(Tr.nd l i r).mem.Nodup) :
 ∃ l' A, ((l' = l/\A = r)\/(l' = r/\A = l))/\gO (jT xs i) (.nd l' i A) p/\(fJ (jT xs i) i).flip=false/\KL xs (jT xs i)/\(∀ j,j∉(Tr.nd l i r).mem->fJ (jT xs i) j=fJ xs j)/\∀ φ,gA (jT xs i) φ (.nd l' i A)=gA xs φ (.nd l i r):=by
 cases hf:(fJ xs i).flip with
 | false =>
  have e:jT xs i=xs:=by unfold jT;rw[hf];rfl
  rw[e]
  exact⟨l,r,.inl ⟨rfl,rfl⟩,h,hf,KL.refl _,fun _ _=>rfl,fun _=>rfl⟩
 | true =>
  obtain⟨⟨i0,Z⟩,⟨k0,k1,up⟩,v,m,n⟩:=h
  simp only[Tr.mem]at I
  rw[zr,zu]at I
  obtain⟨n1,⟨K,n3⟩,P⟩:=I
  have L:i∉l.mem:=fun h=>P i h i s_ rfl
  have H:∀ j∈l.mem,j∉r.mem:=fun j w R=>P j w j (by simp[R]) rfl
  have G:l.root≠i:=fun e=>L (e▸m.mV o_)
  have O:r.root≠i:=fun e=>K (e▸n.mV o_)
  have ab:=m.AV (show 0<xs.length by omega)
  have ac:=n.AV (show 0<xs.length by omega)
  have X:l.root≠0->l.root≠r.root:=fun d e=>H _ (m.mV d) (e▸n.mV (e▸d))
  obtain⟨ys,B⟩:∃ ys,ys=jT xs i:=⟨_,rfl⟩
  have F:ys.length=xs.length:=by
   rw[B];unfold jT;rw[if_pos hf];simp only;split<;>split<;>simp[gC]
  have T:fJ ys i={ fJ xs i with flip:=false,k0:=r.root,k1:=l.root }/\(∀ j,j≠i->fJ ys j=if (j=l.root\/j=r.root)/\j≠0 then { fJ xs j with flip := !(fJ xs j).flip } else fJ xs j):=by
   obtain⟨y0,s⟩:∃ y,y=fN xs i (fun x=>{ x with flip:=false }):=⟨_,rfl⟩
   obtain⟨y1,e1⟩:∃ y,y=fN y0 i (fun x=>{ x with k0:=(fJ y0 i).k1 }):=⟨_,rfl⟩
   obtain⟨y2,u⟩:∃ y,y=fN y1 i (fun x=>{ x with k1:=(fJ y0 i).k0 }):=⟨_,rfl⟩
   have l0:y0.length=xs.length:=by rw[s,gC]
   have l1:y1.length=xs.length:=by rw[e1,gC,l0]
   have l2:y2.length=xs.length:=by rw[u,gC,l1]
   have a0:fJ y0 i={ fJ xs i with flip:=false }:=by rw[s,j9 Z]
   have a2:fJ y2 i={ fJ xs i with flip:=false,k0:=r.root,k1:=l.root }:=by
    rw[u,j9 o_,e1,j9 o_,a0,<-k0,<-k1]
   have b2:∀ j,j≠i->fJ y2 j=fJ xs j:=fun j c=>by
    rw[u,jX (fun e=>c e.symm),e1,jX (fun e=>c e.symm),s,jX (fun e=>c e.symm)]
   have hp:jT xs i=(let M:=if (fJ y2 i).k0=0 then y2 else fN y2 (fJ y2 i).k0 (fun x=>{ x with flip := !(fJ y2 (fJ y2 i).k0).flip });if (fJ y2 i).k1=0 then M else fN M (fJ y2 i).k1 (fun x=>{ x with flip := !(fJ M (fJ y2 i).k1).flip })):=by
    unfold jT;rw[if_pos hf];simp only[<-s,<-e1,<-u]
   rw[B,hp]
   simp only[a2]
   by_cases hr0:r.root=0
   . by_cases hl0:l.root=0
     . simp only[hr0,hl0,if_true]
       refine⟨by rw[a2,hr0,hl0],fun j c=>?_⟩
       rw[b2 j c,if_neg (by rintro⟨e|e,d⟩<;>exact d e)]
     . simp only[hr0,if_true,if_neg hl0]
       refine⟨by rw[jX G,a2,hr0],fun j c=>?_⟩
       rw[iS o_]
       by_cases e:l.root=j
       . subst e;rw[if_pos rfl,if_pos ⟨.inl rfl,hl0⟩,b2 _ c]
       . rw[if_neg e,if_neg (by rintro⟨e' | e', d⟩;exact e e'.symm;exact d e'),b2 j c]
   . have aa:fJ y2 l.root=fJ xs l.root:=b2 _ G
     by_cases hl0:l.root=0
     . simp only[hl0,if_true,if_neg hr0]
       refine⟨by rw[jX O,a2,hl0],fun j c=>?_⟩
       rw[iS o_]
       by_cases e:r.root=j
       . subst e;rw[if_pos rfl,if_pos ⟨.inr rfl,hr0⟩,b2 _ c]
       . rw[if_neg e,if_neg (by rintro⟨e' | e', d⟩;exact d e'; exact e e'.symm),b2 j c]
     . simp only[if_neg hl0,if_neg hr0]
       refine⟨by rw[jX G,jX O,a2],fun j c=>?_⟩
       rw[iS (by rw[gC];omega)]
       by_cases e:l.root=j
       . subst e;rw[if_pos rfl,if_pos ⟨.inl rfl,hl0⟩,jX (fun e=>X hl0 e.symm),b2 _ c]
       . rw[if_neg e,iS o_]
         by_cases e' : r.root=j
         . subst e'; rw[if_pos rfl,if_pos ⟨.inr rfl,hr0⟩,b2 _ c]
         . rw[if_neg e', if_neg (by rintro⟨q|q,d⟩;exact e q.symm;exact e' q.symm),b2 j c]
  obtain⟨g,o⟩:=T
  have z:∀ j,j≠i->∃ f,fJ ys j={ fJ xs j with flip:=f }:=fun j c=>by
   rw[o j c];split
   . exact⟨_,rfl⟩
   . exact⟨(fJ xs j).flip,rfl⟩
  have kl:KL xs ys:=by
   refine⟨F,fun j=>?_,fun j=>?_⟩<;>(by_cases c:j=i)
   . subst c;rw[g]
   . obtain⟨f,e⟩:=z j c;rw[e]
   . subst c;rw[g]
   . obtain⟨f,e⟩:=z j c;rw[e]
  have W : gO ys l i:=m.F9 F fun j c=>z j (fun e=>L (e▸c))
  have J : gO ys r i:=n.F9 F fun j c=>z j (fun e=>K (e▸c))
  rw[<-B]
  have Q:∀ (t:Tr),(t=l\/t=r)->gO xs t i->t.mem.Nodup->(∀ j∈t.mem,j≠i)->(∀ j∈t.mem,j≠t.root->j≠l.root/\j≠r.root)->∀ φ,gA ys φ t=gA xs (!φ) t:=by
   intro t Y S D C N φ
   cases t with
   | nil=>rfl
   | nd a k b =>
    simp only[Tr.mem]at D C N
    rw[zr,zu]at D
    obtain⟨m1,⟨m2,m3⟩,m4⟩:=D
    refine SK ?_ fun j c=>?_
    . rw[o k (C k s_),if_pos ⟨by rcases Y with e|e<;>rw[<-e]<;>simp[Tr.root],S.1.1⟩]
    . have E : j∈a.mem\/j∈b.mem:=by simpa using c
      have V:j≠k:=by rintro rfl;rcases E with h|h;exact m4 j h j s_ rfl;exact m2 h
      have w:=N j (by simp only[zm,zb];rcases E with h|h<;>simp[h]) V
      rw[o j (C j (by simp only[zm,zb];rcases E with h|h<;>simp[h])),if_neg (by rintro⟨e|e,_⟩;exact w.1 e;exact w.2 e)]
  have sl:=Q l (.inl rfl) m n1 (fun j c e=>L (e▸c)) (fun j c U=>⟨U,fun e=>by
   by_cases d:r.root=0
   . exact(m.qj j c).1 (e.trans d)
   . exact H j c (e▸n.mV d)⟩)
  have sr:=Q r (.inr rfl) n n3 (fun j c e=>K (e▸c)) (fun j c J => ⟨fun e=>by
   by_cases d:l.root=0
   . exact(n.qj j c).1 (e.trans d)
   . exact H j (e▸m.mV d) c,J⟩)
  refine⟨r,l,.inr ⟨rfl,rfl⟩,⟨⟨i0,o_⟩,⟨by rw[g],by rw[g],by rw[g];exact up⟩,?_,J, W⟩,by rw[g],kl,fun j c=>?_,fun φ=>?_⟩
  . have v' : pe ys i (l.mem++i :: r.mem):=v.to kl (by rw[g]) (by rw[g]) (by rw[g])
    exact v'.perm (qB.trans (by simp only[ng];exact tY.symm))
  . simp only[Tr.mem,zm,zb,not_or]at c
    rw[o j c.2.1,if_neg]
    rintro⟨e|e,d⟩
    . exact c.1 (e▸m.mV (e▸d))
    . exact c.2.2 (e▸n.mV (e▸d))
  . simp only[gA,hf,g,sl,sr]
    cases φ<;>simp
theorem mw.perm{xs:List Nd}:∀ {c:Cx} {r q:Nat} {L M:List Nat},mw xs c r L q->L.Perm M->mw xs c r M q
 | [],_,_,_,_,_,_=>trivial
 | (d,g,s) :: c,r,q,L,M,h,hp=>by
  obtain⟨b,e,f,i,j⟩:=h
  have a:(jR d L g s).Perm (jR d M g s):=by
   cases d
   . exact List.Perm.append_left _ (hp.cons g)
   . exact hp.append_right _
  exact⟨b,e,f.perm a,i,mw.perm j a⟩
theorem RN:∀ {c:Cx} {L M:List Nat},L.Perm M->(lq c L).Perm (lq c M)
 | [],_,_,h=>h
 | (d,g,s) :: c,L,M,h=>by
  refine RN (c:=c) ?_
  cases d
  . exact List.Perm.append_left _ (h.cons g)
  . exact h.append_right _
theorem JK:∀ {c:Cx} {f:Bool×Nat×Tr},f∈c->f.2.1∈jS c
 | [],_,h=>by simp at h
 | (d,g,s) :: c,f,h=>by
  simp only[jS,zm,zb]
  rcases zb.1 h with rfl|h
  . exact .inl (.inl rfl)
  . exact .inr (JK h)
end Go.Sx
namespace Go.Sx
open Go
theorem Kh:∀ (c c' : Cx) (t:Tr),jY (c++c') t=jY c' (jY c t)
 | [],_,_=>rfl
 | (d,g,s) :: c,c', t=>by simp only[ng,jY];exact Kh c c' _
theorem Fk{i:Nat}:∀ {t:Tr},i∈t.mem->∃ c a b,t=jY c (.nd a i b)
 | .nil,h=>by simp[Tr.mem]at h
 | .nd l j r,h=>by
  simp only[Tr.mem,zm,zb]at h
  rcases h with h|rfl|h
  . obtain⟨c,a,b,e⟩:=Fk h
    exact⟨c++[(true,j,r)],a,b,by rw[Kh,<-e];rfl⟩
  . exact⟨[],l,r,rfl⟩
  . obtain⟨c,a,b,e⟩:=Fk h
    exact⟨c++[(false,j,l)],a,b,by rw[Kh,<-e];rfl⟩
def jm(c:Cx)(i:Nat):List Nat:=i :: c.map (fun f=>f.2.1)
def Way(i:Nat):Tr->List Nat->Prop
 | .nil,_=>False
 | .nd l j r,w=>(j=i/\w=[i])\/∃ w', w=j :: w' /\ (Way i l w' \/ Way i r w')
theorem TN{i:Nat}:∀ {c:Cx} {t:Tr} {w:List Nat},Way i t w->Way i (jY c t) ((c.map (fun f=>f.2.1)).reverse++w)
 | [],_,_,h=>h
 | (d,g,s) :: c,t,w,h=>by
  have:Way i (l9 d t g s) (g :: w):=by cases d<;>simp only[l9,cond_true,cond_false,Way];exact .inr ⟨w,rfl,.inr h⟩;exact .inr ⟨w,rfl,.inl h⟩
  have:=TN (c:=c) this
  simpa[jY]using this
theorem ahm(c:Cx)(a:Tr)(i:Nat)(b:Tr):Way i (jY c (.nd a i b)) (jm c i).reverse:=by
 have:=TN (c:=c) (t:=.nd a i b) (w:=[i]) (.inl ⟨rfl,rfl⟩)
 simpa[jm]using this
structure At (xs:List Nd) (c:Cx) (j:Nat) (L:List Nat) (q:Nat):Prop where
 rep:mw xs c j L q
 up:(fJ xs j).up=wA c q
 mem:j∈L
 nodup:(lq c L).Nodup
 ne:j≠0
 lt:j<xs.length
def Out(xs:List Nd)(q:Nat)(L:List Nat):Prop:=q=0\/jf xs true q∉L/\jf xs false q∉L/\q∉L
theorem At.start{xs:List Nd}{c:Cx}{a b:Tr}{i q:Nat}(h:gO xs (jY c (.nd a i b)) q)(f:(jY c (.nd a i b)).mem.Nodup):At xs c i (Tr.nd a i b).mem q:=by
 obtain⟨d,e⟩:=(yB _ _ _).1 h
 exact⟨e,d.2.1.2.2,by simp[Tr.mem],by rw[<-pO];exact f,d.1.1,d.1.2⟩
theorem At.step{xs:List Nd}{d:Bool}{g:Nat}{s:Tr}{c:Cx}{j q:Nat}{L:List Nat}(h:At xs ((d,g,s) :: c) j L q):jC xs j=(sd d,true)/\(fJ xs j).up=g/\At xs c g (jR d L g s) q:=by
 obtain⟨⟨a,k⟩,⟨i,go,m⟩,t,l,f⟩:=h.rep
 have b:=h.nodup
 obtain⟨n1,u,r⟩:=CK b
 have o:s.root≠j:=fun e=>by
  have n:s.root≠0:=by rw[e];exact h.ne
  exact r j h.mem (by simp only[jS,zm,zb];exact .inl (.inr (e▸l.mV n)))
 refine⟨KK (p:=g) h.up a i (by rw[go];exact o),h.up,f,m,by cases d<;>simp[jR],b,a,k⟩
theorem At.stop{xs:List Nd}{j q:Nat}{L:List Nat}(h:At xs [] j L q)(c:Out xs q L):jC xs j=(0,false) :=
 SE h.up (by
  rcases c with e|⟨a,b,_⟩
  . exact .inl e
  . exact .inr ⟨fun e=>a (e▸h.mem),fun e=>b (e▸h.mem)⟩)
structure jE (xs0 xs:List Nd) (T0:Tr) (O:Cx) (U:Tr) (q:Nat):Prop where
 rep:gO xs (jY O U) q
 perm:(jY O U).mem.Perm T0.mem
 ord:∀ φ,gA xs φ (jY O U)=gA xs0 φ T0
 kl:KL xs0 xs
 other:∀ j,j∉T0.mem->fJ xs j=fJ xs0 j
 flip:∀ f∈O,(fJ xs f.2.1).flip=false
theorem jE.start{xs:List Nd}{T:Tr}{q:Nat}(h:gO xs T q):jE xs xs T [] T q:=⟨h,.refl _,fun _=>rfl,KL.refl _,fun _ _=>rfl,s_⟩
theorem jE.nodup{c xs:List Nd}{a U:Tr}{O:Cx}{q:Nat}(h:jE c xs a O U q)(b:a.mem.Nodup):(lq O U.mem).Nodup:=by rw[<-pO];exact(h.perm.nodup_iff).2 b
theorem jE.push{o xs:List Nd}{c l r:Tr}{O:Cx}{q j:Nat}(h:jE o xs c O (.nd l j r) q)(v:c.mem.Nodup) :
 ∃ l' b, ((l' = l/\b = r)\/(l' = r/\b = l))/\jE o (jT xs j) c O (.nd l' j b) q/\(fJ (jT xs j) j).flip=false:=by
 have w:=h.nodup v
 obtain⟨x,z,y⟩:=CK w
 obtain⟨t,p⟩:=(yB _ _ _).1 h.rep
 obtain⟨l', b, i,s,u,g,n,hs⟩:=Ki t x
 have m:(Tr.nd l' j b).mem.Perm (Tr.nd l j r).mem:=by
  rcases i with ⟨rfl,rfl⟩|⟨rfl,rfl⟩
  . exact .refl _
  . simp only[Tr.mem]
    exact qB.trans (by simp only[ng];exact tY.symm)
 have d:∀ k∈jS O,fJ (jT xs j) k=fJ xs k:=fun k a => n k fun hm=>y k hm a
 refine⟨l', b, i,⟨(yB _ _ _).2 ⟨s,?_⟩,?_,fun φ=>?_,h.kl.trans g,fun k a => ?_,fun f e => ?_⟩,u⟩
 . exact(p.to g d).perm m.symm
 . refine List.Perm.trans ?_ h.perm
   rw[pO,pO]
   exact RN m
 . rw[<-h.ord φ]
   exact KN hs (fun k a => by rw[d k a]) φ
 . rw[n k ?_,h.other k a]
   intro hm
   exact a (h.perm.mem_iff.1 (by rw[pO];exact CE.2 (.inl hm)))
 . rw[d f.2.1 (JK e)]
   exact h.flip f e
theorem jE.rotate{m xs:List Nd}{g a b s:Tr}{d:Bool}{c:Cx}{p i q:Nat}(h:jE m xs g ((d,p,s) :: c) (.nd a i b) q)(z:g.mem.Nodup)(x:xs.length<=1000001)(D:g.mem.length<=1000000)(C:Out m q g.mem)
 (hi:(fJ xs i).flip=false):jE m (iG xs i) g c (qX d a i b p s) q/\∀ j,(fJ (iG xs i) j).flip=(fJ xs j).flip:=by
 have A:=h.nodup z
 have o:p∈g.mem:=h.perm.mem_iff.1 (by rw[pO];exact CE.2 (.inr (by simp[jS])))
 have E:(lq ((d,p,s) :: c) (a.mem++i :: b.mem)).length=g.mem.length:=by
  have:=h.perm.length_eq
  rw[pO]at this
  exact this
 obtain⟨v,l⟩:=yE h.rep A x o_ (fun _=>by
  rcases C with e|⟨r,t,u⟩
  . exact .inl e
  . have e:fJ xs q=fJ m q:=h.other q u
    refine .inr ⟨fun e' => r ?_,fun e' => t ?_⟩
    . rw[jf,e]at e'; rw[jf,e'];exact o
    . rw[jf,e]at e'; rw[jf,e'];exact o)
 have B:=h.flip (d,p,s) s_
 have y:(jY c (qX d a i b p s)).mem=(jY ((d,p,s) :: c) (.nd a i b)).mem:=by
  rw[pO,pO,Kv];rfl
 refine⟨⟨v,by rw[y];exact h.perm,fun φ=>?_,h.kl.trans l.kl,fun k n=>?_,fun f w=>?_⟩,l.flip⟩
 . rw[<-h.ord φ]
   have e1:gA (iG xs i) φ (jY c (qX d a i b p s))=gA xs φ (jY c (qX d a i b p s)):=tM fun j _=>l.flip j
   rw[e1]
   exact KN (c:=c) (fun ψ=>aet hi B ψ) (fun _ _=>rfl) φ
 . rw[l.other k ?_,h.other k n]
   intro hm
   refine n (h.perm.mem_iff.1 ?_)
   rw[pO]
   exact hm
 . rw[l.flip]
   exact h.flip f (by simp[w])
theorem ahS(d:Bool)(a:Tr)(i:Nat)(b:Tr)(p:Nat)(s:Tr)(g:Nat)(s' : Tr) :
 qX d (bif d then .nd a i b else s) p (bif d then s else .nd a i b) g s' = l9 d (.nd a i b) p (bif d then .nd s g s' else .nd s' g s):=by
 cases d<;>rfl
theorem abP(d:Bool)(t:Tr)(p:Nat)(s:Tr):l9 d t p s = .nd (bif d then t else s) p (bif d then s else t):=by cases d<;>rfl
theorem FJ(d:Bool)(a:Tr)(i:Nat)(b:Tr)(p:Nat)(s:Tr):qX d a i b p s = .nd (bif d then a else .nd s p a) i (bif d then .nd b p s else b):=by cases d<;>rfl
theorem jE.ahR{l xs:List Nd}{j a b s s' : Tr}{d:Bool}{c:Cx}{p i g q:Nat}(h:jE l xs j ((d,p,s) :: (d,g,s') :: c) (.nd a i b) q)(t:j.mem.Nodup)(r:xs.length<=1000001)(o:j.mem.length<=1000000)(u:Out l q j.mem)
 (hi:(fJ xs i).flip=false):∃ a' v, jE l (iG (iG xs p) i) j c (.nd a' i v) q/\(fJ (iG (iG xs p) i) i).flip=false:=by
 have x:jE l xs j ((d,g,s') :: c) (.nd (bif d then .nd a i b else s) p (bif d then s else .nd a i b)) q:=by
  rw[<-abP]
  exact⟨h.rep,h.perm,h.ord,h.kl,h.other,fun f k=>h.flip f (lV _ k)⟩
 obtain⟨e,m⟩:=x.rotate t r o u (h.flip (d,p,s) s_)
 rw[ahS]at e
 have y:jE l (iG xs p) j ((d,p,(bif d then .nd s g s' else .nd s' g s)) :: c) (.nd a i b) q :=
  ⟨e.rep,e.perm,e.ord,e.kl,e.other,fun f k=>by
   rcases zb.1 k with rfl|k
   . rw[m];exact h.flip (d,p,s) s_
   . exact e.flip f k⟩
 obtain⟨n,w⟩:=y.rotate t (by rw[e.kl.len,<-h.kl.len];exact r) o u (by rw[m];exact hi)
 rw[FJ]at n
 exact⟨_,_,n,by rw[w,m];exact hi⟩
theorem jE.ahQ{j xs:List Nd}{e a b s s' : Tr}{d u : Bool}{c:Cx}{p i g q:Nat}(h:jE j xs e ((d,p,s) :: (u, g,s') :: c) (.nd a i b) q)(o:e.mem.Nodup)(n:xs.length<=1000001)(m:e.mem.length<=1000000)(r:Out j q e.mem)
 (hi:(fJ xs i).flip=false):∃ a' t, jE j (iG (iG xs i) i) e c (.nd a' i t) q/\(fJ (iG (iG xs i) i) i).flip=false:=by
 obtain⟨f,k⟩:=h.rotate o n m r hi
 rw[FJ]at f
 obtain⟨l,v⟩:=f.rotate o (by rw[f.kl.len,<-h.kl.len];exact n) m r (by rw[k];exact hi)
 rw[FJ]at l
 exact⟨_,_,l,by rw[v,k];exact hi⟩
theorem jE.zig{e xs:List Nd}{c a b s:Tr}{d:Bool}{p i q:Nat}(h:jE e xs c [(d,p,s)] (.nd a i b) q)(m:c.mem.Nodup)(l:xs.length<=1000001)(k:c.mem.length<=1000000)(n:Out e q c.mem)
 (hi:(fJ xs i).flip=false):∃ a' g, jE e (iG xs i) c [] (.nd a' i g) q/\(fJ (iG xs i) i).flip=false:=by
 obtain⟨f,j⟩:=h.rotate m l k n hi
 rw[FJ]at f
 exact⟨_,_,f,by rw[j];exact hi⟩
end Go.Sx
namespace Go.Sx
open Go
def nC(s:List Nat)(q v u:Nat):Prop:=∃ s1 s2,s=s1++v :: s2/\u=s1.getLast?.getD q
theorem Ka{q v u:Nat}:¬ nC [] q v u:=by
 rintro⟨s1,s2,h,_⟩;simp at h
theorem sS{x:Nat}{s:List Nat}{q v u:Nat}:nC (x :: s) q v u↔(v=x/\u=q)\/nC s x v u:=by
 constructor
 . rintro⟨s1,s2,h,rfl⟩
   cases s1 with
   | nil=>simp at h;exact .inl ⟨h.1.symm,rfl⟩
   | cons y s1 =>
    simp only[ng,List.cons.injEq]at h
    obtain⟨rfl,rfl⟩:=h
    refine .inr ⟨s1,s2,rfl,?_⟩
    rw[DG];simp
 . rintro(⟨rfl,rfl⟩|⟨s1,s2,rfl,rfl⟩)
   . exact⟨[],s,rfl,rfl⟩
   . refine⟨x :: s1,s2,rfl,?_⟩
     rw[DG];simp
theorem Rq{s t:List Nat}{q v u:Nat}:nC (s++t) q v u↔nC s q v u\/nC t (s.getLast?.getD q) v u:=by
 induction s generalizing q with
 | nil=>simp[Ka]
 | cons x s a =>
  rw[ng,sS,a,sS,DG,or_assoc]
  simp
theorem wB{s:List Nat}{q v u:Nat}(h:nC s q v u):v∈s:=by
 obtain⟨s1,s2,rfl,_⟩:=h;simp
theorem ab7{s:List Nat}{q v u d : Nat}(b:s.Nodup)(h:nC s q v u)(e : nC s q v d):u=d := by
 induction s generalizing q with
 | nil=>exact absurd h Ka
 | cons x s g =>
  rw[zu]at b
  rcases sS.1 h with ⟨rfl,rfl⟩|c<;>rcases sS.1 e with ⟨a,f⟩|a
  . exact f.symm
  . exact absurd (wB a) b.1
  . subst a;exact absurd (wB c) b.1
  . exact g b.2 c a
abbrev vo:=List (List Nat×Nat)
def gT(S:vo)(v u:Nat):Prop:=∃ e∈S,nC e.1 e.2 v u
def xW(S:vo):List Nat:=S.flatMap (·.1)
theorem gT.perm{S c : vo}(h:S.Perm c){v u:Nat}:gT S v u↔gT c v u :=
 ⟨fun⟨e,b,a⟩=>⟨e,h.mem_iff.1 b,a⟩,fun⟨e,b,a⟩=>⟨e,h.mem_iff.2 b,a⟩⟩
theorem gT.cons{e:List Nat×Nat}{S:vo}{v u:Nat}:gT (e :: S) v u↔nC e.1 e.2 v u\/gT S v u:=by
 simp only[gT,zb,exists_eq_or_imp]
theorem sU{S:vo}(d:(xW S).Nodup){v u i : Nat}(h:gT S v u)(j : gT S v i):u=i := by
 induction S with
 | nil=>obtain⟨e,k,_⟩:=h;simp at k
 | cons e S m =>
  simp only[xW,zy,zr]at d
  obtain⟨n1,n,g⟩:=d
  have c:∀ {w},gT S v w->v∈S.flatMap (·.1):=fun⟨f,l,hp⟩=>qy.2 ⟨f,l,wB hp⟩
  rcases gT.cons.1 h with a|a<;>rcases gT.cons.1 j with b|b
  . exact ab7 n1 a b
  . exact absurd rfl (g v (wB a) v (c b))
  . exact absurd rfl (g v (wB b) v (c a))
  . exact m n a b
inductive PR (P:Nat->Nat->Prop):Nat->Nat->Prop where
 | top {v:Nat} (h:P v 0):PR P v v
 | step {v u r:Nat} (h:P v u) (h0:u≠0) (k:PR P u r):PR P v r
theorem PR.mono{P Q:Nat->Nat->Prop}(h:∀ v u,P v u->Q v u){v r:Nat}(k:PR P v r):PR Q v r:=by
 induction k with
 | top hp=>exact .top (h _ _ hp)
 | step hp a _ b=>exact .step (h _ _ hp) a b
theorem PR.unique{P:Nat->Nat->Prop}(c:∀ v u f, P v u->P v f -> u=f){v r e : Nat}(k:PR P v r)(k' : PR P v e):r=e := by
 induction k with
 | top hp =>
  cases k' with
  | top _=>rfl
  | step a b _=>exact absurd (c _ _ _ a hp) b
 | step hp b _ g =>
  cases k' with
  | top a => exact absurd (c _ _ _ hp a) b
  | step a _ d=>rw[c _ _ _ a hp]at d;exact g d
theorem PR.root{P:Nat->Nat->Prop}{v r:Nat}(k:PR P v r):P r 0:=by
 induction k with
 | top h=>exact h
 | step _ _ _ a=>exact a
theorem PR.EY{P:Nat->Nat->Prop}{s:List Nat}:∀ {q v h:Nat},s.head? = some h->(∀ x∈s,x≠0)->(∀ v u,nC s q v u->P v u)->v∈s->(q=0->PR P v h)/\(∀ r,q≠0->PR P q r->PR P v r):=by
 induction s with
 | nil=>intro q v h a;simp at a
 | cons x s i =>
  intro q v h a c f hv
  simp only[List.head?_cons,Option.some.injEq]at a
  subst a
  have b:P x q:=f _ _ (sS.2 (.inl ⟨rfl,rfl⟩))
  rcases zb.1 hv with rfl|hv
  . exact⟨fun e=>.top (e▸b),fun r d k=>.step b d k⟩
  . cases s with
    | nil=>simp at hv
    | cons y s =>
     have:=(i (q:=x) (v:=v) (h:=y) rfl (fun z g=>c z (lV _ g)) (fun v u hp=>f _ _ (sS.2 (.inr hp))) hv).2
     exact⟨fun e=>this x (c x s_) (.top (e▸b)),fun r d k=>this r (c x s_) (.step b d k)⟩
end Go.Sx
namespace Go.Sx
open Go
abbrev FT:=List (Tr×Nat)
def jH(F:FT):List Nat:=F.flatMap fun e=>e.1.mem
def gR(xs:List Nd)(F:FT):vo:=F.map fun e=>(gA xs false e.1,e.2)
structure Fo (xs:List Nd) (F:FT):Prop where
 rep:∀ e∈F,gO xs e.1 e.2
 ne:∀ e∈F,e.1.root≠0
 nodup:(jH F).Nodup
 all:∀ j,j≠0->j<xs.length->j∈jH F
 par:∀ e∈F,e.2<xs.length
 sV:∃ ρ:Nat->Nat,(∀ e∈F,∀ i∈e.1.mem,∀ j∈e.1.mem,ρ i=ρ j)/\∀ e∈F,e.2≠0->∀ i∈e.1.mem,ρ i<ρ e.2
 zero:(fJ xs 0).k0=0/\(fJ xs 0).k1=0/\(fJ xs 0).total=0
 pos:0<xs.length
 len:xs.length<=1000001
theorem Ru{α β:Type}{l l' : List α}(h:l.Perm l')(f:α->List β):(l.flatMap f).Perm (l'.flatMap f):=by
 induction h with
 | nil=>exact .nil
 | cons x _ a=>simp only[zy];exact a.append_left _
 | swap x y l =>
  simp only[zy,<-mL]
  exact qB.append_right _
 | trans _ _ b c=>exact b.trans c
theorem Fo.perm{xs:List Nd}{F F' : FT}(h:Fo xs F)(hp:F.Perm F'):Fo xs F' := by
 have b:(jH F).Perm (jH F'):=Ru hp _
 obtain⟨ρ,d,f⟩:=h.sV
 exact⟨fun e a=>h.rep e (hp.mem_iff.2 a),fun e a=>h.ne e (hp.mem_iff.2 a),b.nodup_iff.1 h.nodup,fun j c g=>b.mem_iff.1 (h.all j c g),fun e a=>h.par e (hp.mem_iff.2 a),
  ⟨ρ,fun e a=>d e (hp.mem_iff.2 a),fun e a=>f e (hp.mem_iff.2 a)⟩,h.zero,h.pos,h.len⟩
theorem ow{F:FT}{e:Tr×Nat}{j:Nat}(a:e∈F)(b:j∈e.1.mem):j∈jH F:=qy.2 ⟨e,a,b⟩
theorem Fo.split{xs:List Nd}{T:Tr}{q:Nat}{R:FT}(h:Fo xs ((T,q) :: R)):T.mem.Nodup/\(jH R).Nodup/\∀ j∈T.mem,j∉jH R:=by
 have a:=h.nodup
 simp only[jH,zy,zr]at a
 exact⟨a.1,a.2.1,fun j b c=>a.2.2 j b j c rfl⟩
theorem nodup_lt_length:∀ (n:Nat) (L:List Nat),L.Nodup->(∀ j∈L,j<n)->L.length<=n
 | 0,L,_,h=>by
  cases L with
  | nil=>simp
  | cons x L=>exact absurd (h x s_) o_
 | n+1,L,hn,h=>by
  have f:=nodup_lt_length n (L.erase n) (hn.erase n) (fun j b=>by
   have c:=h j (List.mem_of_mem_erase b)
   have d:j≠n:=fun e=>by subst e;exact(List.Nodup.not_mem_erase hn) b
   omega)
  have c:=List.length_erase_le (a:=n) (l:=L)
  have d:L.length<=(L.erase n).length+1:=by
   rw[List.length_erase];split<;>omega
  omega
theorem Fo.count{xs:List Nd}{T:Tr}{q:Nat}{R:FT}(h:Fo xs ((T,q) :: R)):T.mem.length<=1000000:=by
 have c:=nodup_lt_length xs.length (0 :: T.mem) (by
  rw[zu]
  exact⟨fun b=>((h.rep (T,q) s_).qj 0 b).1 rfl,h.split.1⟩) (fun j a=>by
  rcases zb.1 a with rfl|a
  . exact h.pos
  . exact((h.rep (T,q) s_).qj j a).2)
 have:=h.len
 simp only[ze]at c
 omega
theorem gO.Jq{xs:List Nd}{d:Bool}:∀ {t:Tr} {p j:Nat},gO xs t p->j∈t.mem->jf xs d j=0\/jf xs d j∈t.mem
 | .nil,_,_,_,a=>by simp[Tr.mem]at a
 | .nd l i r,p,j,h,a=>by
  obtain⟨_,⟨f,g,_⟩,_,b,c⟩:=h
  simp only[Tr.mem,zm,zb]at a ⊢
  rcases a with a|rfl|a
  . rcases gO.Jq b a with e|e
    . exact .inl e
    . exact .inr (.inl e)
  . cases d
    . simp only[jf,cond_false,g]
      by_cases e:r.root=0
      . exact .inl e
      . exact .inr (.inr (.inr (c.mV e)))
    . simp only[jf,cond_true,f]
      by_cases e:l.root=0
      . exact .inl e
      . exact .inr (.inl (b.mV e))
  . rcases gO.Jq c a with e|e
    . exact .inl e
    . exact .inr (.inr (.inr e))
theorem Fo.out{xs:List Nd}{T:Tr}{q:Nat}{R:FT}(h:Fo xs ((T,q) :: R)):Out xs q T.mem:=by
 by_cases hq:q=0
 . exact .inl hq
 . obtain⟨ρ,l,j⟩:=h.sV
   have g:q∉T.mem:=fun hm=>by
    have:=j (T,q) s_ hq q hm
    simp at this
   have b:=h.all q hq (h.par (T,q) s_)
   simp only[jH,zy,zm]at b
   rcases b with hm|hm
   . exact absurd hm g
   . obtain⟨e,c,hm⟩:=qy.1 hm
     have k:0∉T.mem:=fun i=>((h.rep (T,q) s_).qj 0 i).1 rfl
     have key:∀ d,jf xs d q∉T.mem:=fun d f=>by
      rcases gO.Jq (d:=d) (h.rep e (by simp[c])) hm with a|a
      . exact k (a▸f)
      . exact h.split.2.2 _ f (ow c a)
     exact .inr ⟨key true,key false,g⟩
theorem gO.rX{xs ys:List Nd}(b:ys.length=xs.length){t:Tr}{p:Nat}(h:gO xs t p)(hs:∀ j∈t.mem,fJ ys j=fJ xs j):gO ys t p :=
 h.F9 b fun j a=>⟨(fJ xs j).flip,by rw[hs j a]⟩
theorem KP{xs ys:List Nd}{t:Tr}{φ:Bool}(hs:∀ j∈t.mem,fJ ys j=fJ xs j):gA ys φ t=gA xs φ t:=tM fun j a=>by rw[hs j a]
theorem KG{xs ys:List Nd}{F:FT}(hs:∀ j∈jH F,fJ ys j=fJ xs j):gR ys F=gR xs F:=by
 unfold gR
 refine yX fun e a=>?_
 rw[KP fun j b=>hs j (ow a b)]
theorem Fo.SI{xs ys:List Nd}{T U:Tr}{q:Nat}{R:FT}(h:Fo xs ((T,q) :: R))(m:jE xs ys T [] U q):Fo ys ((U,q) :: R)/\gR ys ((U,q) :: R)=gR xs ((T,q) :: R)/\(∀ e∈R,∀ j∈e.1.mem,fJ ys j=fJ xs j):=by
 obtain⟨n1,u,s⟩:=h.split
 have d:=m.kl.len
 have hp:U.mem.Perm T.mem:=m.perm
 have k:∀ j∈jH R,fJ ys j=fJ xs j:=fun j b=>m.other j fun o=>s j o b
 have p:0∉T.mem:=fun c=>((h.rep (T,q) s_).qj 0 c).1 rfl
 have n:U.root≠0:=by
  intro e
  have f:=gO.Ku (t:=U) m.rep e
  rw[f]at hp
  have g:=h.ne (T,q) s_
  exact g (by
   cases T with
   | nil=>rfl
   | nd l i r=>have:=hp.length_eq;simp[Tr.mem]at this)
 refine⟨⟨fun e a=>?_,fun e a=>?_,?_,fun j c b=>?_,fun e a=>?_,?_,?_,by rw[d];exact h.pos,by rw[d];exact h.len⟩,?_,fun e a j b=>k j (ow a b)⟩
 . rcases zb.1 a with rfl|a
   . exact m.rep
   . exact(h.rep e (by simp[a])).rX d fun j b=>k j (ow a b)
 . rcases zb.1 a with rfl|a
   . exact n
   . exact h.ne e (by simp[a])
 . simp only[jH,zy]
   have:=h.nodup
   simp only[jH,zy]at this
   exact(hp.append_right _).nodup_iff.2 this
 . have:=h.all j c (by rw[d]at b;exact b)
   simp only[jH,zy,zm]at this ⊢
   exact this.imp_left hp.mem_iff.2
 . rw[d]
   rcases zb.1 a with rfl|a
   . exact h.par (T,q) s_
   . exact h.par e (by simp[a])
 . obtain⟨ρ,r1,r2⟩:=h.sV
   refine⟨ρ,fun e a=>?_,fun e a=>?_⟩
   . rcases zb.1 a with rfl|a
     . exact fun i hi j b=>r1 (T,q) s_ i (hp.mem_iff.1 hi) j (hp.mem_iff.1 b)
     . exact r1 e (by simp[a])
   . rcases zb.1 a with rfl|a
     . exact fun c i hi=>r2 (T,q) s_ c i (hp.mem_iff.1 hi)
     . exact r2 e (by simp[a])
 . rw[m.other 0 p];exact h.zero
 . have f:gR ys R=gR xs R:=KG k
   have g:gA ys false U=gA xs false T:=m.ord false
   simp only[gR,jV]at f ⊢
   rw[f,g]
def k9(xs:List Nd)(j below:Nat):List Nd :=
 let a:=fN xs j (fun x=>{ x with iP:=IntKind.i64.wrap (x.iP+IntKind.i64.wrap ((fJ xs x.k1).total-(fJ xs below).total)) })
 let b:=fN a j (fun x=>{ x with k1:=below })
 iI b j
def opt(e:Tr×Nat)(R:FT):FT:=if e.1.root=0 then R else e :: R
theorem pN{e f:Tr×Nat}{R:FT}:f∈opt e R↔(e.1.root≠0/\f=e)\/f∈R:=by
 unfold opt
 split
 . rename_i h;simp[h]
 . rename_i h;simp[h]
theorem gO.AI{xs:List Nd}{t:Tr}{p:Nat}(h:gO xs t p)(e:t.root=0):t = .nil:=by
 cases t with
 | nil=>rfl
 | nd l i r=>exact absurd e h.1.1
theorem JY{xs:List Nd}{e:Tr×Nat}{R:FT}{p:Nat}(h:gO xs e.1 p):jH (opt e R)=e.1.mem++jH R:=by
 unfold opt
 split
 . rename_i a;rw[h.AI a];rfl
 . rfl
theorem Rs{xs ys:List Nd}{e:Tr×Nat}{R:FT}{p v u:Nat}(h:gO xs e.1 p):gT (gR ys (opt e R)) v u↔nC (gA ys false e.1) e.2 v u\/gT (gR ys R) v u:=by
 unfold opt
 split
 . rename_i a
   rw[h.AI a]
   simp[gA,Ka]
 . simp only[gR,jV,gT.cons]
theorem V7{xs:List Nd}{F R R' : FT}{a b B:Tr}{j q:Nat}(h:Fo xs ((.nd a j b,q) :: R))(T:(fJ xs j).flip=false)(Q:R.Perm (opt (B,j) R'))(D:gO xs B j) :
 Fo (k9 xs j B.root) ((.nd a j B,q) :: opt (b,j) R')/\(∀ v u,gT (gR (k9 xs j B.root) ((.nd a j B,q) :: opt (b,j) R')) v u↔gT (gR xs ((.nd a j b,q) :: R)) v u) /\
  gA (k9 xs j B.root) false (.nd a j B)=gA xs false a++j :: gA xs false B/\(∀ k,k≠j->fJ (k9 xs j B.root) k=fJ xs k)/\(fJ (k9 xs j B.root) j).flip=false/\(∀ k,(fJ (k9 xs j B.root) k).key=(fJ xs k).key)/\(k9 xs j B.root).length=xs.length:=by
 have hT:=h.rep (.nd a j b,q) s_
 obtain⟨⟨H,jl⟩,⟨k0,k1,up⟩,v,ha,hb⟩:=hT
 obtain⟨n1,n2,n3⟩:=h.split
 simp only[Tr.mem]at n1 n3
 have U:(jH R).Perm (B.mem++jH R'):=by rw[<-JY (e:=(B,j)) D];exact Ru Q _
 have ag := U.nodup_iff.1 n2
 rw[zr]at ag
 obtain⟨nB,ay, Z⟩:=ag
 rw[zr,zu]at n1
 obtain⟨na,⟨N,nb⟩,aa⟩:=n1
 have ah:j∉a.mem:=fun h=>aa j h j s_ rfl
 have s:∀ k,k∈a.mem\/k=j\/k∈b.mem->k∉B.mem/\k∉jH R' := fun k c=>by
  have:=n3 k (by simpa using c)
  rw[U.mem_iff,zm,not_or]at this
  exact this
 have ab:=(s j (.inr (.inl rfl))).1
 have ac:=(s j (.inr (.inl rfl))).2
 obtain⟨t,L⟩:∃ x,x=fN (fN xs j (fun x=>{ x with iP:=IntKind.i64.wrap (x.iP+IntKind.i64.wrap ((fJ xs x.k1).total-(fJ xs B.root).total)) })) j (fun x=>{ x with k1:=B.root }):=⟨_,rfl⟩
 have an:k9 xs j B.root=iI t j:=by rw[L];rfl
 have Y:t.length=xs.length:=by rw[L,gC,gC]
 obtain⟨lm,G⟩:∃ y,fJ t j={ fJ xs j with iP:=y,k1:=B.root }:=⟨_,by rw[L,j9 (by rw[gC];exact jl),j9 jl]⟩
 have I:∀ k,k≠j->fJ t k=fJ xs k:=fun k c=>by rw[L,jX (fun e=>c e.symm),jX (fun e=>c e.symm)]
 have ak:gO t a j:=ha.rX Y fun k c=>I k (fun e=>ah (e▸c))
 have aj:gO t B j:=D.rX Y fun k c=>I k (fun e=>ab (e▸c))
 have V:(a.mem++j :: B.mem).Nodup:=by
  rw[zr,zu]
  refine⟨na,⟨ab,nB⟩,fun x g y f e=>?_⟩
  subst e
  rcases zb.1 f with rfl|f
  . exact ah g
  . exact(s x (.inl g)).1 f
 have ae:∀ k∈a.mem++j :: B.mem,k≠0/\k<xs.length:=fun k c=>by
  simp only[zm,zb]at c
  rcases c with c|rfl|c
  . exact ha.qj k c
  . exact⟨H,jl⟩
  . exact D.qj k c
 have am:(a.mem++j :: B.mem).length<=1000000:=by
  have w:=nodup_lt_length xs.length (0 :: (a.mem++j :: B.mem)) (zu.2 ⟨fun p=>(ae 0 p).1 rfl,V⟩) (fun k c=>by
   rcases zb.1 c with rfl|c
   . exact h.pos
   . exact(ae k c).2)
  have:=h.len
  simp only[ze]at w
  omega
 obtain⟨K,S⟩:=AR (xs:=t) (i:=j) (l:=a) (r:=B) ⟨H,o_⟩ ak aj (by rw[G];exact k0) (by rw[G]) V am
 rw[<-an]at K S
 rw[show (fJ t j).up=q by rw[G];exact up]at S
 have z:(k9 xs j B.root).length=xs.length:=by rw[K.len,Y]
 have J:∀ k,k≠j->fJ (k9 xs j B.root) k=fJ xs k:=fun k c=>by rw[K.other k c,I k c]
 have E:∀ k,(fJ (k9 xs j B.root) k).flip=(fJ xs k).flip:=fun k=>by
  rw[K.flip]
  by_cases e:k=j
  . subst e;rw[G]
  . rw[I k e]
 have au:∀ k,(fJ (k9 xs j B.root) k).key=(fJ xs k).key:=fun k=>by
  rw[K.kl.key]
  by_cases e:k=j
  . subst e;rw[G]
  . rw[I k e]
 have av:gA (k9 xs j B.root) false B=gA xs false B:=tM fun k _=>E k
 have aw:gA (k9 xs j B.root) false a=gA xs false a:=tM fun k _=>E k
 have ax:gA (k9 xs j B.root) false b=gA xs false b:=tM fun k _=>E k
 have af:gA (k9 xs j B.root) false (.nd a j B)=gA xs false a++j :: gA xs false B:=by
  simp only[gA,E,T,DJ,cond_false,aw,av]
 have al:gO (k9 xs j B.root) b j:=hb.rX z fun k c=>J k (fun e=>N (e▸c))
 obtain⟨ρ,r1,r2⟩:=h.sV
 have O:∀ k,k∈a.mem\/k=j\/k∈b.mem->ρ k=ρ j:=fun k c=>r1 (.nd a j b,q) s_ k (by simpa[Tr.mem]using c) j (by simp[Tr.mem])
 have A:∀ e,e∈R↔(B.root≠0/\e=(B,j))\/e∈R' := fun e=>by rw[Q.mem_iff,pN]
 have rB:∀ k∈B.mem,ρ k<ρ j:=fun k c=>by
  by_cases e0:B.root=0
  . rw[D.AI e0]at c;simp[Tr.mem]at c
  . exact r2 (B,j) (lV _ ((A _).2 (.inl ⟨e0,rfl⟩))) H k c
 refine⟨⟨fun e d=>?_,fun e d=>?_,?_,fun k p c=>?_,fun e d=>?_,?_,?_,by rw[z];exact h.pos,by rw[z];exact h.len⟩,fun v' m => ?_,af,J,by rw[E];exact T,au,z⟩
 . rcases zb.1 d with rfl|d
   . exact S
   . rcases pN.1 d with ⟨_,rfl⟩|d
     . exact al
     . exact(h.rep e (lV _ ((A e).2 (.inr d)))).rX z fun k c=>J k (fun e' => ac (e' ▸ ow d c))
 . rcases zb.1 d with rfl|d
   . exact H
   . rcases pN.1 d with ⟨p,rfl⟩|d
     . exact p
     . exact h.ne e (lV _ ((A e).2 (.inr d)))
 . simp only[jH,zy]
   show ((Tr.nd a j B).mem++jH (opt (b,j) R')).Nodup
   rw[JY (e:=(b,j)) hb,zr,zr]
   refine⟨V,⟨nb,ay, fun x g y f e=>(s x (.inr (.inr g))).2 (e▸f)⟩,fun x g y f e=>?_⟩
   subst e
   simp only[Tr.mem,zm,zb]at g f
   rcases f with f|f
   . rcases g with g|rfl|g
     . exact aa x g x (by simp[f]) rfl
     . exact N f
     . exact(s x (.inr (.inr f))).1 g
   . rcases g with g|rfl|g
     . exact(s x (.inl g)).2 f
     . exact ac f
     . exact Z x g x f rfl
 . rw[z]at c
   have w:=h.all k p c
   have C:k∈(Tr.nd a j b).mem\/k∈jH R:=by simpa[jH,zy]using w
   rw[U.mem_iff]at C
   show k∈(Tr.nd a j B).mem++jH (opt (b,j) R')
   rw[JY (e:=(b,j)) hb]
   simp only[Tr.mem,zm,zb]at C ⊢
   rcases C with (h|h|h)|h|h<;>simp[h]
 . rw[z]
   rcases zb.1 d with rfl|d
   . exact h.par (.nd a j b,q) s_
   . rcases pN.1 d with ⟨_,rfl⟩|d
     . exact jl
     . exact h.par e (lV _ ((A e).2 (.inr d)))
 . have P:∀ k,k∈b.mem->k∉B.mem:=fun k w=>(s k (.inr (.inr w))).1
   obtain⟨σ,n⟩:∃ σ:Nat->Nat,∀ k,σ k=if k∈B.mem then 2*ρ j+1 else if k∈b.mem then 2*ρ j else 2*ρ k+1:=⟨_,fun _=>rfl⟩
   refine⟨σ,fun e d=>?_,fun e d p=>?_⟩
   . rcases zb.1 d with rfl|d
     . have key:∀ k∈(Tr.nd a j B).mem,σ k=2*ρ j+1:=fun k c=>by
        rw[n]
        simp only[Tr.mem,zm,zb]at c
        by_cases hkB:k∈B.mem
        . rw[if_pos hkB]
        . have ad : k∈a.mem\/k=j:=by rcases c with h|h|h;exact .inl h;exact .inr h;exact absurd h hkB
          have ar:k∉b.mem:=fun o => by rcases ad with h|rfl;exact aa k h k (by simp[o]) rfl;exact N o
          rw[if_neg hkB,if_neg ar,O k (by rcases ad with h|h;exact .inl h;exact .inr (.inl h))]
       intro i hi k c
       rw[key i hi,key k c]
     . rcases pN.1 d with ⟨_,rfl⟩|d
       . intro i hi k c
         simp only at hi c
         rw[n,n,if_neg (P i hi),if_pos hi,if_neg (P k c),if_pos c]
       . intro i hi k c
         have M:∀ y∈e.1.mem,y∉B.mem/\y∉b.mem:=fun y f=>⟨fun o => Z y o y (ow d f) rfl,fun o => (s y (.inr (.inr o))).2 (ow d f)⟩
         rw[n,n,if_neg (M i hi).1,if_neg (M i hi).2,if_neg (M k c).1,if_neg (M k c).2,r1 e (lV _ ((A e).2 (.inr d))) i hi k c]
   . rcases zb.1 d with rfl|d
     . simp only at p
       have X:=r2 (.nd a j b,q) s_ p
       have q1:q∉B.mem:=fun W=>by have:=rB q W;have:=X j (by simp[Tr.mem]);simp only at this;omega
       have q2:q∉b.mem:=fun W=>by have:=O q (.inr (.inr W));have:=X j (by simp[Tr.mem]);simp only at this;omega
       intro i hi
       simp only
       rw[n i,n q,if_neg q1,if_neg q2]
       have aq := X j (by simp[Tr.mem])
       simp only at aq
       simp only[Tr.mem,zm,zb]at hi
       by_cases hiB:i∈B.mem
       . rw[if_pos hiB];omega
       . rw[if_neg hiB]
         split
         . omega
         . have:ρ i=ρ j:=O i (by rcases hi with h|h|h;exact .inl h;exact .inr (.inl h);exact absurd h hiB)
           omega
     . rcases pN.1 d with ⟨_,rfl⟩|d
       . intro i hi
         simp only at hi ⊢
         rw[n,n,if_neg (P i hi),if_pos hi,if_neg ab,if_neg N];omega
       . intro i hi
         have ao:i∉B.mem:=fun o => Z i o i (ow d hi) rfl
         have ap:i∉b.mem:=fun o => (s i (.inr (.inr o))).2 (ow d hi)
         have az := r2 e (lV _ ((A e).2 (.inr d))) p i hi
         rw[n,n,if_neg ao,if_neg ap]
         by_cases hqB:e.2∈B.mem
         . have:=rB _ hqB;rw[if_pos hqB];omega
         . rw[if_neg hqB]
           by_cases hqb:e.2∈b.mem
           . have:=O _ (.inr (.inr hqb));rw[if_pos hqb];omega
           . rw[if_neg hqb];omega
 . rw[J 0 (fun e=>H e.symm)];exact h.zero
 . have hs:gR (k9 xs j B.root) R' = gR xs R' := KG fun k c=>J k (fun e=>ac (e▸c))
   have e1:gT (gR (k9 xs j B.root) ((.nd a j B,q) :: opt (b,j) R')) v' m ↔ nC (gA xs false a++j :: gA xs false B) q v' m \/ nC (gA xs false b) j v' m \/ gT (gR xs R') v' m := by
    have:=Rs (ys:=k9 xs j B.root) (e:=(b,j)) (R:=R') (v:=v') (u:=m) hb
    simp only[gR,jV]at this ⊢
    rw[gT.cons,af,this]
    simp only[gR]at hs
    rw[ax,hs]
   have ai : gT (gR xs ((.nd a j b,q) :: R)) v' m ↔ nC (gA xs false a++j :: gA xs false b) q v' m \/ nC (gA xs false B) j v' m \/ gT (gR xs R') v' m := by
    have w:gA xs false (.nd a j b)=gA xs false a++j :: gA xs false b:=by simp only[gA,T,DJ,cond_false]
    have C:gT (gR xs R) v' m ↔ gT (gR xs (opt (B,j) R')) v' m := gT.perm (Q.map _)
    have h3:=Rs (ys:=xs) (e:=(B,j)) (R:=R') (v:=v') (u:=m) D
    have h4:gT (gR xs ((.nd a j b,q) :: R)) v' m ↔ nC (gA xs false (.nd a j b)) q v' m \/ gT (gR xs R) v' m := by simp only[gR,jV,gT.cons]
    rw[h4,w,C,h3]
   rw[e1,ai, Rq,Rq,sS,sS]
   constructor
   . rintro((h|h|h)|h|h)<;>simp[h]
   . rintro((h|h|h)|h|h)<;>simp[h]
end Go.Sx
namespace Go.Sx
open Go
inductive s9 (F:FT):Nat->Nat->Prop where
 | zero:s9 F 0 0
 | step {T:Tr} {q j m:Nat} (he:(T,q)∈F) (hj:j∈T.mem) (h0:j≠0) (k:s9 F q m):s9 F j (m+1)
theorem s9.mono{F F' : FT}{ρ:Nat->Nat}{c:Nat}(g:(∀ e∈F,∀ i∈e.1.mem,∀ j∈e.1.mem,ρ i=ρ j)/\∀ e∈F,e.2≠0->∀ i∈e.1.mem,ρ i<ρ e.2)
 (l:∀ e∈F,(∀ i∈e.1.mem,c<ρ i)->e∈F') {q m:Nat} (h:s9 F q m):(q=0\/c<ρ q)->s9 F' q m:=by
 induction h with
 | zero=>intro _;exact .zero
 | @step T q j m b d f k n =>
  intro a
  have a:c<ρ j:=by rcases a with e|e;exact absurd e f;exact e
  refine .step (l _ b fun i hi=>?_) d f (n ?_)
  . rw[g.1 _ b i hi j d];exact a
  . by_cases hq:q=0
    . exact .inl hq
    . exact .inr (Nat.lt_trans a (g.2 _ b hq j d))
theorem Ph(ρ:Nat->Nat):∀ n,∃ M,∀ k,k<n->ρ k<=M
 | 0=>⟨0,fun k a=>absurd a o_⟩
 | n+1=>by
  obtain⟨M,b⟩:=Ph ρ n
  refine⟨max M (ρ n),fun k a=>?_⟩
  by_cases e:k=n
  . subst e;omega
  . have:=b k o_;omega
theorem Fo.dep{xs:List Nd}{F:FT}(h:Fo xs F){j:Nat}(b:j<xs.length):∃ m,s9 F j m:=by
 obtain⟨ρ,k,d⟩:=h.sV
 obtain⟨M,c⟩:=Ph ρ xs.length
 have key:∀ n j,j<xs.length->M-ρ j<=n->∃ m,s9 F j m:=by
  intro n
  induction n with
  | zero =>
   intro j b g
   by_cases h0:j=0
   . subst h0;exact⟨0,.zero⟩
   . obtain⟨e,a,hm⟩:=qy.1 (h.all j h0 b)
     by_cases hq:e.2=0
     . exact⟨1,.step (T:=e.1) (q:=e.2) a hm h0 (by rw[hq];exact .zero)⟩
     . have a1:=d e a hq j hm
       have a2:=c e.2 (h.par e a)
       have a3:=c j b
       omega
  | succ n i =>
   intro j b g
   by_cases h0:j=0
   . subst h0;exact⟨0,.zero⟩
   . obtain⟨e,a,hm⟩:=qy.1 (h.all j h0 b)
     by_cases hq:e.2=0
     . exact⟨1,.step (T:=e.1) (q:=e.2) a hm h0 (by rw[hq];exact .zero)⟩
     . have a1:=d e a hq j hm
       have a2:=c e.2 (h.par e a)
       obtain⟨m,f⟩:=i e.2 (h.par e a) o_
       exact⟨m+1,.step (T:=e.1) (q:=e.2) a hm h0 f⟩
 exact key _ j b (zk _)
theorem Fo.Yn{xs:List Nd}{F:FT}(h:Fo xs F){e f:Tr×Nat}(d:e∈F)(a:f∈F){j:Nat}(h1:j∈e.1.mem)(c:j∈f.1.mem):e=f:=by
 obtain⟨s,t,rfl⟩:=DD d
 have hp:(s++e :: t).Perm (e :: (s++t)):=tY
 have b := h.perm hp
 rcases zb.1 (hp.mem_iff.1 a)with e' | a
 . exact e'.symm
 . exact absurd (ow a c) (b.split.2.2 j h1)
structure Ex (xs0:List Nd) (F0:FT) (i:Nat) (xs:List Nd) (below j m:Nat) (R:FT) (B:Tr):Prop where
 fo:Fo xs (opt (B,j) R)
 rep:gO xs B j
 root:B.root=below
 start:below=0->j=i
 last:below≠0->(gA xs false B).getLast? = some i
 dep:s9 (opt (B,j) R) j m
 par:∀ v u,gT (gR xs (opt (B,j) R)) v u↔gT (gR xs0 F0) v u
 key:∀ k,(fJ xs k).key=(fJ xs0 k).key
 len:xs.length=xs0.length
 lt:j<xs.length
 De:∀ T0,(T0,0)∈F0->((T0,0)∈R/\∀ k∈T0.mem,fJ xs k=fJ xs0 k)\/(j=0/\below≠0/\(gA xs false B).head? = (gA xs0 false T0).head?)
theorem Ex.init{xs:List Nd}{F:FT}{i:Nat}(h:Fo xs F)(hi:i<xs.length):∃ m,Ex xs F i xs 0 i m F .nil:=by
 obtain⟨m,hm⟩:=h.dep hi
 exact⟨m,h,trivial,rfl,fun _=>rfl,fun e=>absurd rfl e,hm,fun _ _=>Iff.rfl,fun _=>rfl,rfl,hi,fun b a=>.inl ⟨a,fun _ _=>rfl⟩⟩
theorem Rv{α:Type}{x:α}{l:List α}(h:x∈l):∃ r,l.Perm (x :: r):=by
 obtain⟨s,t,rfl⟩:=DD h
 exact⟨s++t,tY⟩
theorem ab0{e f:Tr×Nat}{R R' : FT}(h:R.Perm (f :: R')):(opt e R).Perm (f :: opt e R'):=by
 unfold opt
 split
 . exact h
 . exact(h.cons e).trans (List.Perm.swap _ _ _)
theorem Ex.go{D xs:List Nd}{E R:FT}{i below j m:Nat}{B:Tr}(h:Ex D E i xs below j m R B)(g:j≠0) :
 ∃ T q,gO xs T q/\j∈T.mem/\T.mem.Nodup/\T.mem.length<=1000000/\Out xs q T.mem/\∀ ys a b,jE xs ys T [] (.nd a j b) q->(fJ ys j).flip=false ->
  (fJ (k9 ys j below) j).up=q/\(∀ k,k≠j->fJ (k9 ys j below) k=fJ ys k)/\∃ t R', m=t + 1/\Ex D E i (k9 ys j below) j q t R' (.nd a j B):=by
 cases hd:h.dep with
 | zero=>exact absurd rfl g
 | @step T q _ t s o _ Z =>
  -- the entry lies in R
  have X:(T,q)∈R:=by
   rcases pN.1 s with ⟨d,e⟩|s
   . obtain⟨ρ,_,r2⟩:=h.fo.sV
     cases e
     have:=r2 (B,j) (pN.2 (.inl ⟨d,rfl⟩)) g j o
     simp at this
   . exact s
  obtain⟨R2,hp⟩:=Rv X
  have C:(opt (B,j) R).Perm ((T,q) :: opt (B,j) R2):=ab0 hp
  have f:=h.fo.perm C
  refine⟨T,q,f.rep (T,q) s_,o,f.split.1,f.count,f.out,fun ys a b hm K=>?_⟩
  obtain⟨U,s1,N⟩:=f.SI hm
  have W:gO ys B j:=by
   by_cases d:B.root=0
   . rw[h.rep.AI d];trivial
   . exact h.rep.rX hm.kl.len fun k l => N (B,j) (pN.2 (.inl ⟨d,rfl⟩)) k l
  have c:=V7 (F:=[]) U K (List.Perm.refl _) W
  obtain⟨p,G,w,x,P,H,y⟩:=c
  rw[h.root]at p G w x P H y
  have ab:gA ys false B=gA xs false B:=by
   by_cases d:B.root=0
   . rw[h.rep.AI d];rfl
   . exact KP fun k l => N (B,j) (pN.2 (.inl ⟨d,rfl⟩)) k l
  have aa:q<xs.length:=f.par (T,q) s_
  have ac:(fJ (k9 ys j below) j).up=q:=(p.rep (.nd a j B,q) s_).2.1.2.2
  have A:opt (Tr.nd a j B,q) (opt (b,j) R2)=(Tr.nd a j B,q) :: opt (b,j) R2:=if_neg g
  refine⟨ac,x,t, opt (b,j) R2,rfl,⟨by rw[A];exact p,p.rep (.nd a j B,q) s_,rfl,fun e=>absurd e g,fun _=>?_,?_,fun v u=>?_,fun k=>?_,by rw[y,hm.kl.len,h.len],by rw[y,hm.kl.len];exact aa,fun O Y=>?_⟩⟩
  . rw[w,ab]
    by_cases hb:below=0
    . have V:B = .nil:=h.rep.AI (h.root.trans hb)
      rw[V,h.start hb]
      simp[gA]
    . have:=h.last hb
      rw[List.getLast?_append,DG,this]
      simp
  . rw[A]
    obtain⟨ρ,r1,r2⟩:=h.fo.sV
    refine s9.mono (c:=ρ j) ⟨r1,r2⟩ (fun e n J=>?_) Z ?_
    . rcases zb.1 (C.mem_iff.1 n)with rfl|n
      . exact absurd (J j o) o_
      . rcases pN.1 n with ⟨d,rfl⟩|n
        . have M:=h.rep.mV d
          have r:=r2 (B,j) (pN.2 (.inl ⟨d,rfl⟩)) g _ M
          have h4:=J _ M
          simp only at r
          omega
        . exact lV _ (pN.2 (.inr n))
    . by_cases hq:q=0
      . exact .inl hq
      . exact .inr (r2 (T,q) s hq j o)
  . rw[A,G,s1,<-h.par]
    exact gT.perm (C.symm.map _)
  . rw[H,hm.kl.key,h.key]
  . rcases h.De O Y with ⟨z,I⟩|⟨z,_⟩
    . rcases zb.1 (hp.mem_iff.1 z)with e|r
      . cases e
        refine .inr ⟨rfl,g,?_⟩
        have e1:gA ys false (.nd a j b)=gA xs false T:=hm.ord false
        have Q:gA ys false (.nd a j b)=gA ys false a++j :: gA ys false b:=by simp only[gA,K,DJ,cond_false]
        have S:gA xs false T=gA D false T:=KP I
        rw[w,<-S,<-e1,Q]
        cases gA ys false a<;>simp
      . refine .inl ⟨pN.2 (.inr r),fun k l => ?_⟩
        have L:k∉T.mem:=fun ht=>by
         have hn:=f.split.2.2 k ht
         exact hn (ow (pN.2 (.inr r)) l)
        rw[x k (fun e=>L (e▸o)),hm.other k L,I k l]
    . exact absurd z g
theorem Ex.fin{d xs:List Nd}{j R:FT}{i below m:Nat}{B:Tr}(h:Ex d j i xs below 0 m R B)(hi:i≠0) :
 gO xs B 0/\i∈B.mem/\B.mem.Nodup/\B.mem.length<=1000000/\Out xs 0 B.mem/\∀ ys a b,jE xs ys B [] (.nd a i b) 0->(fJ ys i).flip=false ->
  b = .nil/\Fo ys ((.nd a i .nil,0) :: R)/\(∀ v u,gT (gR ys ((.nd a i .nil,0) :: R)) v u↔gT (gR d j) v u)/\(∀ k,(fJ ys k).key=(fJ d k).key)/\ys.length=d.length /\
   (∀ c,(c,0)∈j->((c,0)∈R/\∀ k∈c.mem,fJ ys k=fJ d k)\/(gA ys false (.nd a i .nil)).head? = (gA d false c).head?):=by
 have hb:below≠0:=fun e=>hi (h.start e).symm
 have w:B.root≠0:=by rw[h.root];exact hb
 have q:opt (B,0) R=(B,0) :: R:=if_neg w
 have g:=h.fo
 rw[q]at g
 have f:=h.last hb
 have D:i∈B.mem:=(oE xs false B).mem_iff.1 (GD f)
 refine⟨h.rep,D,g.split.1,g.count,.inl rfl,fun ys a b hm C=>?_⟩
 obtain⟨l,s1,F⟩:=g.SI hm
 have e1:gA ys false (.nd a i b)=gA xs false B:=hm.ord false
 have r:gA ys false (.nd a i b)=gA ys false a++i :: gA ys false b:=by simp only[gA,C,DJ,cond_false]
 have z:b = .nil:=by
  rw[<-e1,r,List.getLast?_append,DG]at f
  have A:gA ys false b=[]:=by
   cases hl:(gA ys false b).getLast? with
   | none=>exact Lz.1 hl
   | some x =>
    rw[hl]at f
    simp at f
    subst f
    have E:x∈b.mem:=(oE ys false b).mem_iff.1 (GD hl)
    have p:=l.split.1
    simp only[Tr.mem,zr,zu]at p
    exact absurd E p.2.1.1
  have:=(oE ys false b).length_eq
  rw[A]at this
  cases b with
  | nil=>rfl
  | nd _ _ _=>simp[Tr.mem]at this
 subst z
 refine⟨rfl,l,fun v u=>?_,fun k=>?_,by rw[hm.kl.len,h.len],fun c y=>?_⟩
 . rw[s1,<-h.par,q]
 . rw[hm.kl.key,h.key]
 . rcases h.De c y with ⟨n,s⟩|⟨_,_,t⟩
   . exact .inl ⟨n,fun k o=>by rw[F (c,0) n k o,s k o]⟩
   . exact .inr (by rw[e1];exact t)
end Go.Sx
namespace Go.Sx
open Go
theorem KO(xs:List Nd):∀ (t:Tr) (φ:Bool),gA xs (!φ) t=(gA xs φ t).reverse
 | .nil,_=>rfl
 | .nd l i r,φ=>by
  have e:xor (!φ) (fJ xs i).flip = !(xor φ (fJ xs i).flip):=by cases φ<;>cases (fJ xs i).flip<;>rfl
  simp only[gA,e,KO xs l,KO xs r]
  cases xor φ (fJ xs i).flip<;>simp
theorem KF{xs:List Nd}{F:FT}(h:(jH F).Nodup):(xW (gR xs F)).Nodup:=by
 have hp:(xW (gR xs F)).Perm (jH F):=by
  unfold xW gR jH
  rw[List.flatMap_map]
  clear h
  induction F with
  | nil=>exact .nil
  | cons e F a=>simp only[zy];exact((oE xs false e.1).append_right _).trans (a.append_left _)
 exact hp.nodup_iff.2 h
theorem Fo.sU{xs:List Nd}{F:FT}(h:Fo xs F){v u a : Nat}(h1:gT (gR xs F) v u)(b:gT (gR xs F) v a):u=a := Go.Sx.sU (KF h.nodup) h1 b
theorem Fo.yH{xs:List Nd}{F:FT}(h:Fo xs F){T:Tr}{q:Nat}(a:(T,q)∈F):∀ x∈gA xs false T,x≠0:=fun x b=>((h.rep (T,q) a).qj x ((oE xs false T).mem_iff.1 b)).1
theorem Fo.below{xs:List Nd}{F:FT}(h:Fo xs F){T:Tr}(a:(T,0)∈F){v r:Nat}(hv:v∈T.mem)(b:(gA xs false T).head? = some r):PR (gT (gR xs F)) v r :=
 (PR.EY (q:=0) b (h.yH a) (fun v u hp=>⟨(gA xs false T,0),z7.2 ⟨(T,0),a,rfl⟩,hp⟩) ((oE xs false T).mem_iff.2 hv)).1 rfl
structure kE (xs0:List Nd) (F0:FT) (ys:List Nd) (i:Nat) (a:Tr) (R:FT):Prop where
 fo:Fo ys ((.nd a i .nil,0) :: R)
 flip:(fJ ys i).flip=false
 par:∀ v u,gT (gR ys ((.nd a i .nil,0) :: R)) v u↔gT (gR xs0 F0) v u
 key:∀ k,(fJ ys k).key=(fJ xs0 k).key
 len:ys.length=xs0.length
 De:∀ T0,(T0,0)∈F0->((T0,0)∈R/\∀ k∈T0.mem,fJ ys k=fJ xs0 k)\/(gA ys false (.nd a i .nil)).head? = (gA xs0 false T0).head?
theorem kE.seq{c ys:List Nd}{b R:FT}{i:Nat}{a:Tr}(h:kE c b ys i a R):gA ys false (.nd a i .nil)=gA ys false a++[i]:=by
 simp only[gA,h.flip,DJ,cond_false]
theorem kE.head{c ys:List Nd}{b R:FT}{i:Nat}{a:Tr}(h:kE c b ys i a R):∃ r,(gA ys false (.nd a i .nil)).head? = some r/\r∈(Tr.nd a i .nil).mem:=by
 have hm:i∈gA ys false (.nd a i .nil):=by rw[h.seq];simp
 cases hs:gA ys false (.nd a i .nil)with
 | nil=>rw[hs]at hm;simp at hm
 | cons r l=>exact⟨r,rfl,(oE ys false (.nd a i .nil)).mem_iff.1 (by rw[hs];simp)⟩
theorem kE.top{c ys:List Nd}{b R:FT}{i:Nat}{a:Tr}(h:kE c b ys i a R){r:Nat}(d:(gA ys false (.nd a i .nil)).head? = some r){v:Nat}(hv:v∈(Tr.nd a i .nil).mem):PR (gT (gR c b)) v r :=
 (h.fo.below (T:=.nd a i .nil) s_ hv d).mono fun v u hp=>(h.par v u).1 hp
def kg(ys:List Nd)(i:Nat):List Nd:=fN ys i (fun x=>{ x with flip:=true })
theorem Fb{t ys:List Nd}{m R:FT}{i:Nat}{a:Tr}(h:kE t m ys i a R) :
 Fo (kg ys i) ((.nd a i .nil,0) :: R)/\gA (kg ys i) false (.nd a i .nil)=(gA ys false (.nd a i .nil)).reverse/\gR (kg ys i) R=gR ys R/\(kg ys i).length=ys.length/\(∀ k,k≠i->fJ (kg ys i) k=fJ ys k)/\∀ k,(fJ (kg ys i) k).key=(fJ ys k).key:=by
 obtain⟨n1,u,s⟩:=h.fo.split
 have g:=h.fo.rep (.nd a i .nil,0) s_
 have r:=g.1.2
 have i0:=g.1.1
 have ll:(kg ys i).length=ys.length:=gC
 have l:fJ (kg ys i) i={ fJ ys i with flip:=true }:=j9 r
 have c:∀ k,k≠i->fJ (kg ys i) k=fJ ys k:=fun k b=>jX (fun e=>b e.symm)
 have j:∀ k,∃ f,fJ (kg ys i) k={ fJ ys k with flip:=f }:=fun k=>by
  by_cases e:k=i
  . subst e;exact⟨true,l⟩
  . exact⟨(fJ ys k).flip,by rw[c k e]⟩
 have p:i∈(Tr.nd a i .nil).mem:=by simp[Tr.mem]
 have o:∀ k∈jH R,fJ (kg ys i) k=fJ ys k:=fun k b=>c k (fun e=>s i p (e▸b))
 obtain⟨ρ,r1,r2⟩:=h.fo.sV
 refine⟨⟨fun e d=>(h.fo.rep e d).F9 ll fun k _=>j k,h.fo.ne,h.fo.nodup,fun k n b=>h.fo.all k n (by rw[ll]at b;exact b),fun e d=>by rw[ll];exact h.fo.par e d,⟨ρ,r1,r2⟩,by rw[c 0 (fun e=>i0 e.symm)];exact h.fo.zero,by rw[ll];exact h.fo.pos,by rw[ll];exact h.fo.len⟩,?_,KG o,ll,c,fun k=>?_⟩
 . rw[<-KO]
   refine SK ?_ fun k b=>?_
   . rw[l,h.flip];rfl
   . have:k≠i:=fun e=>by
      subst e
      simp only[Tr.mem,zr,zu]at n1
      have q : k∈a.mem:=by simpa[Tr.mem]using b
      exact n1.2.2 k q k s_ rfl
     rw[c k this]
 . obtain⟨f,e⟩:=j k
   rw[e]
theorem PR.ac9{S:vo}{s s' : List Nat}(j:(xW ((s,0) :: S)).Nodup)(d:∀ x∈s', x≠0)(hp:s'.Perm s){a r:Nat}(f:s'.head? = some a)(c:r∈s){v:Nat}(k:PR (gT ((s,0) :: S)) v r):PR (gT ((s', 0) :: S)) v a:=by
 have key:∀ v∈s,PR (gT ((s', 0) :: S)) v a:=fun v hv=>(PR.EY (q:=0) f d (fun v u g => gT.cons.2 (.inl g)) (hp.mem_iff.2 hv)).1 rfl
 induction k with
 | top h=>exact key _ c
 | @step v u r h e _ i =>
  by_cases hv:v∈s
  . exact key v hv
  . rcases gT.cons.1 h with b|b
    . exact absurd (wB b) hv
    . exact .step (gT.cons.2 (.inr b)) e (i c)
theorem PR.apart{S:vo}{s s' : List Nat}(m:(xW ((s,0) :: S)).Nodup)(f:∀ x∈s,x≠0){r:Nat}(b:r∉s){v:Nat}(k:PR (gT ((s,0) :: S)) v r):v∉s/\PR (gT ((s', 0) :: S)) v r:=by
 have j:∀ v∈s,∃ h,h∈s/\PR (gT ((s,0) :: S)) v h:=fun v hv=>by
  cases s with
  | nil=>simp at hv
  | cons x l=>exact⟨x,s_,(PR.EY (q:=0) rfl f (fun v u n => gT.cons.2 (.inl n)) hv).1 rfl⟩
 have o:∀ v u d, gT ((s,0) :: S) v u->gT ((s,0) :: S) v d -> u=d := fun v u d a g=>Go.Sx.sU m a g
 have c:∀ {v},PR (gT ((s,0) :: S)) v r->v∉s:=fun {v} k hv=>by
  obtain⟨h,i,k'⟩:=j v hv
  exact b ((PR.unique o k k')▸i)
 refine⟨c k,?_⟩
 induction k with
 | top h =>
  rcases gT.cons.1 h with a|a
  . exact absurd (wB a) b
  . exact .top (gT.cons.2 (.inr a))
 | step h e k p =>
  rcases gT.cons.1 h with a|a
  . exact absurd (wB a) (c (.step h e k))
  . exact .step (gT.cons.2 (.inr a)) e (p b c)
structure LU (ys:List Nd) (i:Nat) (a:Tr) (R:FT):Prop where
 fo:Fo ys ((.nd a i .nil,0) :: R)
 head:(gA ys false (.nd a i .nil)).head? = some i
theorem kE.Cy{e ys:List Nd}{b R:FT}{i:Nat}{a:Tr}(h:kE e b ys i a R):LU (kg ys i) i a R:=by
 obtain⟨c,d,_⟩:=Fb h
 refine⟨c,?_⟩
 rw[d,h.seq]
 simp
theorem kE.aaM{c ys:List Nd}{b R:FT}{i:Nat}{a:Tr}(h:kE c b ys i a R){v r:Nat}(hv:PR (gT (gR c b)) v r)(hi:PR (gT (gR c b)) i r)(m:∀ v u g, gT (gR c b) v u->gT (gR c b) v g -> u=g) :
 PR (gT (gR (kg ys i) ((.nd a i .nil,0) :: R))) v i:=by
 obtain⟨p,j,d,_⟩:=Fb h
 obtain⟨o, l, hm⟩:=h.head
 have e:o = r:=PR.unique m (h.top l (by simp[Tr.mem])) hi
 subst e
 have k:gR (kg ys i) ((.nd a i .nil,0) :: R)=((gA ys false (.nd a i .nil)).reverse,0) :: gR ys R:=by
  simp only[gR,jV]at d ⊢;rw[j,d]
 have f:gR ys ((.nd a i .nil,0) :: R)=(gA ys false (.nd a i .nil),0) :: gR ys R:=rfl
 rw[k]
 refine PR.ac9 (s:=gA ys false (.nd a i .nil)) (by rw[<-f];exact KF h.fo.nodup) (fun x n=>?_) (List.reverse_perm _) (by rw[h.seq];simp) ((oE ys false (.nd a i .nil)).mem_iff.2 hm) (by rw[<-f];exact hv.mono fun v u hp=>(h.par v u).2 hp)
 exact h.fo.yH (T:=.nd a i .nil) (q:=0) s_ x (List.mem_reverse.1 n)
theorem kE.aaN{c ys:List Nd}{b R:FT}{i:Nat}{a:Tr}(h:kE c b ys i a R){v r d : Nat}(hv:PR (gT (gR c b)) v r)(hi:PR (gT (gR c b)) i d)(p:r≠d)(k:∀ v u l, gT (gR c b) v u->gT (gR c b) v l -> u=l) :
 PR (gT (gR (kg ys i) ((.nd a i .nil,0) :: R))) v r/\r∉(Tr.nd a i .nil).mem:=by
 obtain⟨t,n,e,_⟩:=Fb h
 have j:r∉(Tr.nd a i .nil).mem:=fun hm=>by
  obtain⟨r2,g,_⟩:=h.head
  have e1:r2=d := PR.unique k (h.top g (by simp[Tr.mem])) hi
  have m:r2=r:=PR.unique k (h.top g hm) (.top hv.root)
  exact p (m.symm.trans e1)
 have o:gR (kg ys i) ((.nd a i .nil,0) :: R)=((gA ys false (.nd a i .nil)).reverse,0) :: gR ys R:=by
  simp only[gR,jV]at e ⊢;rw[n,e]
 have f:gR ys ((.nd a i .nil,0) :: R)=(gA ys false (.nd a i .nil),0) :: gR ys R:=rfl
 rw[o]
 exact⟨(PR.apart (s:=gA ys false (.nd a i .nil)) (s' := (gA ys false (.nd a i .nil)).reverse) (by rw[<-f];exact KF h.fo.nodup) (h.fo.yH (T:=.nd a i .nil) (q:=0) s_) (fun hm=>j ((oE ys false (.nd a i .nil)).mem_iff.1 hm)) (by rw[<-f];exact hv.mono fun v u hp=>(h.par v u).2 hp)).2,j⟩
def Joined(xs:List Nd)(F:FT)(a b:Nat):Prop:=∃ r,PR (gT (gR xs F)) a r/\PR (gT (gR xs F)) b r
theorem kE.joined{e ys:List Nd}{d R:FT}{i:Nat}{a:Tr}(h:kE e d ys i a R)(u v:Nat):Joined ys ((.nd a i .nil,0) :: R) u v↔Joined e d u v :=
 ⟨fun⟨r,b,c⟩=>⟨r,b.mono fun v u=>(h.par v u).1,c.mono fun v u=>(h.par v u).1⟩,fun⟨r,b,c⟩=>⟨r,b.mono fun v u=>(h.par v u).2,c.mono fun v u=>(h.par v u).2⟩⟩
theorem P8{o xs ys:List Nd}{n R R' : FT}{i j:Nat}{a b:Tr}(h:kE o n xs i a R)(k:kE xs ((.nd a i .nil,0) :: R) ys j b R')(U:i≠j):(fJ ys i).up≠0↔Joined o n i j:=by
 have F:=h.fo
 obtain⟨r,I,aa⟩:=h.head
 obtain⟨t, J, V⟩:=k.head
 have E:PR (gT (gR o n)) i r:=h.top I (by simp[Tr.mem])
 have L:PR (gT (gR o n)) j t := (k.top J (by simp[Tr.mem])).mono fun v u=>(h.par v u).1
 have C:∀ v u w, gT (gR o n) v u->gT (gR o n) v w -> u=w := fun v u w m p=>h.fo.sU ((h.par v u).2 m) ((h.par v w).2 p)
 constructor
 . intro D
   rcases k.De (.nd a i .nil) s_ with ⟨m,p⟩|m
   . have O:=k.fo.rep (.nd a i .nil,0) (lV _ m)
     exact absurd O.2.1.2.2 D
   . rw[I,J]at m
     simp only[Option.some.injEq]at m
     subst m
     exact⟨t, E,L⟩
 . rintro⟨r2,m,p⟩ D
   have e1:r=r2:=PR.unique C E m
   have M:t = r2:=PR.unique C L p
   have Y:i<ys.length:=by rw[k.len];exact(F.rep (.nd a i .nil,0) s_).1.2
   have i0:i≠0:=(F.rep (.nd a i .nil,0) s_).1.1
   obtain⟨e,B,hm⟩:=qy.1 (k.fo.all i i0 Y)
   -- i is the root of fP tree,which hangs from nothing
   have K:=k.fo.rep e B
   obtain⟨c,x,y,A⟩:=Fk hm
   rw[A]at K
   obtain⟨Q,P⟩:=(yB _ _ _).1 K
   have G:wA c e.2=0:=by rw[<-Q.2.1.2.2];exact D
   have S:c=[]:=by
    cases c with
    | nil=>rfl
    | cons f c' => obtain⟨d,g,s⟩:=f;exact absurd G P.1.1
   subst S
   have H:e.2=0:=G
   obtain⟨T,q⟩:=e
   simp only[jY]at A H hm
   subst H
   subst A
   have hd:∃ z,(gA ys false (.nd x i y)).head? = some z/\z∈(Tr.nd x i y).mem:=by
    have:(gA ys false (.nd x i y)).length=(Tr.nd x i y).mem.length:=(oE ys false _).length_eq
    cases hs:gA ys false (.nd x i y)with
    | nil=>rw[hs]at this;simp[Tr.mem]at this
    | cons z l=>exact⟨z,rfl,(oE ys false (.nd x i y)).mem_iff.1 (by rw[hs];simp)⟩
   obtain⟨z,W,X⟩:=hd
   have Z:PR (gT (gR o n)) i z:=(k.fo.below B hm W).mono fun v u hp=>(h.par v u).1 ((k.par v u).1 hp)
   have N:z=t := (PR.unique C Z E).trans (e1.trans M.symm)
   have:=k.fo.Yn B (za (a:=(Tr.nd b j .nil,0))) X (by rw[N];exact V)
   simp only[Prod.mk.injEq,Tr.nd.injEq]at this
   exact U this.1.2.1
theorem ab8{xs ys:List Nd}{R R' : FT}{i j:Nat}{a b:Tr}(h:LU xs i a R)(k:kE xs ((.nd a i .nil,0) :: R) ys j b R')(f:PR (gT (gR xs ((.nd a i .nil,0) :: R))) j i):(gA ys false (.nd b j .nil)).head? = some i:=by
 obtain⟨r,c,_⟩:=k.head
 have:=PR.unique (P:=gT (gR xs ((.nd a i .nil,0) :: R))) (fun v u g d e=>h.fo.sU d e) (k.top c (v:=j) (by simp[Tr.mem])) f
 rw[c,this]
end Go.Sx
namespace Go.Sx
open Go
theorem gO.one{xs:List Nd}{t:Tr}{p i:Nat}(h:gO xs t p)(hs:t.mem=[i]):t = .nd .nil i .nil:=by
 cases t with
 | nil=>simp[Tr.mem]at hs
 | nd l j r =>
  cases l with
  | nil =>
   cases r with
   | nil=>simp[Tr.mem]at hs;rw[hs]
   | nd _ _ _=>simp[Tr.mem]at hs
  | nd _ _ _ =>
   have:=congrArg List.length hs
   simp[Tr.mem]at this
   omega
theorem abg{xs:List Nd}{t:Tr}{i:Nat}(h:gA xs false t=[i]):t.mem=[i]:=by
 have:=oE xs false t
 rw[h]at this
 exact List.perm_singleton.1 this.symm
theorem ace{ys zs a:List Nd}{i j:Nat}{b a2 b2:Tr}{R R2 f:FT}(p:Fo ys ((.nd b j .nil,0) :: R))(hs:gA ys false (.nd b j .nil)=[i,j])
 (h1:kE ys ((.nd b j .nil,0) :: R) zs i a2 R2) (c:kE (kg zs i) ((.nd a2 i .nil,0) :: R2) a j b2 f):b2 = .nd .nil i .nil/\a2 = .nil:=by
 have t:∀ x∈[i,j],x≠0:=fun x y=>p.yH (T:=.nd b j .nil) (q:=0) s_ x (by rw[hs];exact y)
 have i0:=t i s_
 have o:gT (gR ys ((.nd b j .nil,0) :: R)) i 0:=⟨(gA ys false (.nd b j .nil),0),by simp[gR],by rw[hs];exact sS.2 (.inl ⟨rfl,rfl⟩)⟩
 have p2:gT (gR ys ((.nd b j .nil,0) :: R)) j i:=⟨(gA ys false (.nd b j .nil),0),by simp[gR],by rw[hs];exact sS.2 (.inr (sS.2 (.inl ⟨rfl,rfl⟩)))⟩
 -- the first exposing
 have z:gT (gR zs ((.nd a2 i .nil,0) :: R2)) i ((gA zs false a2).getLast?.getD 0):=⟨(gA zs false (.nd a2 i .nil),0),by simp[gR],gA zs false a2,[],h1.seq,rfl⟩
 have e1:=h1.fo.sU z ((h1.par i 0).2 o)
 have l:gA zs false a2=[]:=by
  cases d:(gA zs false a2).getLast? with
  | none=>exact Lz.1 d
  | some x =>
   rw[d]at e1
   simp only[Dv]at e1
   exact absurd e1 (h1.fo.yH (T:=.nd a2 i .nil) (q:=0) s_ x (by rw[h1.seq];exact wX _ (GD d)))
 have r : a2 = .nil:=by
  have:=(oE zs false a2).length_eq
  rw[l]at this
  cases a2 with
  | nil=>rfl
  | nd _ _ _=>simp[Tr.mem]at this
 obtain⟨D,A,n,_⟩:=Fb h1
 have m:gR (kg zs i) ((.nd a2 i .nil,0) :: R2)=gR zs ((.nd a2 i .nil,0) :: R2):=by
  simp only[gR,jV]at n ⊢
  rw[A,n,h1.seq,l]
  rfl
 have B:gT (gR a ((.nd b2 j .nil,0) :: f)) i 0:=(c.par i 0).2 (by rw[m];exact(h1.par i 0).2 o)
 have C:gT (gR a ((.nd b2 j .nil,0) :: f)) j i:=(c.par j i).2 (by rw[m];exact(h1.par j i).2 p2)
 have w:gT (gR a ((.nd b2 j .nil,0) :: f)) j ((gA a false b2).getLast?.getD 0):=⟨(gA a false (.nd b2 j .nil),0),by simp[gR],gA a false b2,[],c.seq,rfl⟩
 have g:=c.fo.sU w C
 have d:(gA a false b2).getLast? = some i:=by
  cases d:(gA a false b2).getLast? with
  | none=>rw[d]at g;exact absurd g.symm i0
  | some x=>rw[d]at g;simp only[Dv]at g;rw[g]
 obtain⟨s,h⟩:∃ s,gA a false b2=s++[i]:=by
  obtain⟨s,e⟩:=List.getLast?_eq_some_iff.1 d
  exact⟨s,e⟩
 have hv:gT (gR a ((.nd b2 j .nil,0) :: f)) i (s.getLast?.getD 0):=⟨(gA a false (.nd b2 j .nil),0),by simp[gR],s,[j],by rw[c.seq,h];simp,rfl⟩
 have k:=c.fo.sU hv B
 have v:s=[]:=by
  cases hl2:s.getLast? with
  | none=>exact Lz.1 hl2
  | some x =>
   rw[hl2]at k
   simp only[Dv]at k
   exact absurd k (c.fo.yH (T:=.nd b2 j .nil) (q:=0) s_ x (by rw[c.seq,h];simp[GD hl2]))
 rw[v,rq]at h
 have u:=c.fo.rep (.nd b2 j .nil,0) s_
 exact⟨gO.one u.2.2.2.1 (abg h),r⟩
def uT(a:List Nd)(i j:Nat):List Nd:=iI (fN (fN a i (fun x=>{ x with up:=0 })) j (fun x=>{ x with k0:=0 })) j
theorem ag1{b:List Nd}{i j:Nat}{R:FT}(h:Fo b ((.nd (.nd .nil i .nil) j .nil,0) :: R)):Fo (uT b i j) ((.nd .nil i .nil,0) :: (.nd .nil j .nil,0) :: R)/\(uT b i j).length=b.length/\∀ k,k≠i->k≠j->fJ (uT b i j) k=fJ b k:=by
 obtain⟨n1,P,C⟩:=h.split
 obtain⟨⟨u,jl⟩,⟨k0,k1,up⟩,v,hi,_⟩:=h.rep (.nd (.nd .nil i .nil) j .nil,0) s_
 have F := hi
 obtain⟨⟨i0,B⟩,⟨J,K,O⟩,iv,_,_⟩:=F
 have t:i≠j:=by
  simp only[Tr.mem,rq,qA,ng]at n1
  rintro rfl
  simp at n1
 obtain⟨N,e1⟩:∃ x,x=fN b i (fun x=>{ x with up:=0 }):=⟨_,rfl⟩
 obtain⟨f,g⟩:∃ x,x=fN N j (fun x=>{ x with k0:=0 }):=⟨_,rfl⟩
 have E:uT b i j=iI f j:=by rw[g,e1];rfl
 have L:f.length=b.length:=by rw[g,e1,gC,gC]
 have a2:fJ f i={ fJ b i with up:=0 }:=by rw[g,jX (fun e=>t e.symm),e1,j9 B]
 have b2:fJ f j={ fJ b j with k0:=0 }:=by rw[g,j9 (by rw[e1,gC];exact jl),e1,jX t]
 have M:∀ k,k≠i->k≠j->fJ f k=fJ b k:=fun k c G => by rw[g,jX (fun e=>G e.symm),e1,jX (fun e=>c e.symm)]
 obtain⟨q,s⟩:=AR (xs:=f) (i:=j) (l:=.nil) (r:=.nil) ⟨u,o_⟩ trivial trivial (by rw[b2];rfl) (by rw[b2];exact k1) (by simp[Tr.mem]) (by simp[Tr.mem])
 rw[<-E]at q s
 rw[show (fJ f j).up=0 by rw[b2];exact up]at s
 have d:fJ (uT b i j) i={ fJ b i with up:=0 }:=by rw[q.other i t,a2]
 have w:∀ k,k≠i->k≠j->fJ (uT b i j) k=fJ b k:=fun k p z=>by rw[q.other k z,M k p z]
 have ll:(uT b i j).length=b.length:=by rw[q.len,L]
 have D:gO (uT b i j) (.nd .nil i .nil) 0:=by
  refine⟨⟨i0,by rw[ll];exact B⟩,⟨by rw[d];exact J,by rw[d];exact K,by rw[d]⟩,?_,trivial,trivial⟩
  simp only[Tr.mem,rq]at iv ⊢
  refine⟨by rw[d];exact iv.size,?_,?_⟩
  . rw[d,iv.total];simp[nT,d]
  . rw[d];exact⟨iv.first.1,fun k c=>.inl (by have p:=iv.first.1;simp at c p;rw[c,p])⟩
 have H:i∈(Tr.nd (.nd .nil i .nil) j .nil).mem:=by simp[Tr.mem]
 have I:j∈(Tr.nd (.nd .nil i .nil) j .nil).mem:=by simp[Tr.mem]
 have nR:∀ e∈R,∀ k∈e.1.mem,k≠i/\k≠j:=fun e a k c=>⟨fun e' => C i H (e' ▸ ow a c),fun e' => C j I (e' ▸ ow a c)⟩
 have A:jH ((.nd .nil i .nil,0) :: (.nd .nil j .nil,0) :: R)=jH ((.nd (.nd .nil i .nil) j .nil,0) :: R):=by simp[jH,Tr.mem]
 obtain⟨ρ,r1,r2⟩:=h.sV
 refine⟨⟨fun e a=>?_,fun e a=>?_,by rw[A];exact h.nodup,fun k m c=>by rw[A];exact h.all k m (by rw[ll]at c;exact c),fun e a=>?_,⟨ρ,fun e a=>?_,fun e a m=>?_⟩,by rw[w 0 (fun e=>i0 e.symm) (fun e=>u e.symm)];exact h.zero,by rw[ll];exact h.pos,by rw[ll];exact h.len⟩,ll,w⟩
 . rcases zb.1 a with rfl|a
   . exact D
   . rcases zb.1 a with rfl|a
     . exact s
     . exact(h.rep e (by simp[a])).rX ll fun k c=>w k (nR e a k c).1 (nR e a k c).2
 . rcases zb.1 a with rfl|a
   . exact i0
   . rcases zb.1 a with rfl|a
     . exact u
     . exact h.ne e (by simp[a])
 . rw[ll]
   rcases zb.1 a with rfl|a
   . exact h.pos
   . rcases zb.1 a with rfl|a
     . exact h.pos
     . exact h.par e (by simp[a])
 . rcases zb.1 a with rfl|a
   . intro x n y o;simp[Tr.mem]at n o;rw[n,o]
   . rcases zb.1 a with rfl|a
     . intro x n y o;simp[Tr.mem]at n o;rw[n,o]
     . exact r1 e (by simp[a])
 . rcases zb.1 a with rfl|a
   . exact absurd rfl m
   . rcases zb.1 a with rfl|a
     . exact absurd rfl m
     . exact r2 e (by simp[a]) m
def qQ(zs:List Nd)(a b:Nat):List Nd := 
 let c:=fN zs a (fun x=>{ x with up:=b })
 iI (fN c b (fun x=>{ x with iP:=IntKind.i64.wrap (x.iP+(fJ c a).total) })) b
theorem aaT{zs:List Nd}{a b:Nat}{x y:Tr}{R:FT}(h:Fo zs ((.nd y b .nil,0) :: (.nd x a .nil,0) :: R)):Fo (qQ zs a b) ((.nd y b .nil,0) :: (.nd x a .nil,b) :: R)/\(qQ zs a b).length=zs.length/\∀ k,k≠a->k≠b->fJ (qQ zs a b) k=fJ zs k:=by
 obtain⟨n1,F,n3⟩:=h.split
 have V:=h.rep (.nd y b .nil,0) s_
 have A:=h.rep (.nd x a .nil,0) s_
 obtain⟨⟨b0,bl⟩,⟨S,T,U⟩,bv,hy,_⟩:=V
 have a0:=A.1.1
 have al:=A.1.2
 have t:a∈(Tr.nd x a .nil).mem:=by simp[Tr.mem]
 have u:b∈(Tr.nd y b .nil).mem:=by simp[Tr.mem]
 have n:∀ k∈(Tr.nd y b .nil).mem,k∉(Tr.nd x a .nil).mem/\k∉jH R:=fun k c=>by
  have:=n3 k c
  simp only[jH,zy,zm,not_or]at this
  exact this
 have D:a≠b:=fun e=>(n b u).1 (e▸t)
 have nA:(Tr.nd x a .nil).mem.Nodup/\∀ k∈(Tr.nd x a .nil).mem,k∉jH R:=by
  simp only[jH,zy,zr]at F
  exact⟨F.1,fun k m f=>F.2.2 k m k f rfl⟩
 obtain⟨I,e1⟩:∃ z,z=fN zs a (fun x=>{ x with up:=b }):=⟨_,rfl⟩
 obtain⟨g,q⟩:∃ z,z=fN I b (fun x=>{ x with iP:=IntKind.i64.wrap (x.iP+(fJ I a).total) }):=⟨_,rfl⟩
 have X:qQ zs a b=iI g b:=by rw[q,e1];rfl
 have L:I.length=zs.length:=by rw[e1,gC]
 have M:g.length=zs.length:=by rw[q,gC,L]
 have a2:fJ g a={ fJ zs a with up:=b }:=by rw[q,jX (fun e=>D e.symm),e1,j9 al]
 obtain⟨N,b2⟩:∃ N,fJ g b={ fJ zs b with iP:=N }:=⟨_,by rw[q,j9 (by rw[L];exact bl),e1,jX D]⟩
 have O:∀ k,k≠a->k≠b->fJ g k=fJ zs k:=fun k c Y => by rw[q,jX (fun e=>Y e.symm),e1,jX (fun e=>c e.symm)]
 have ad:b∉y.mem:=by
  simp only[Tr.mem,zr,zu]at n1
  exact fun h=>n1.2.2 b h b s_ rfl
 have ab:gO g y b:=hy.rX M fun k c=>O k (fun e=>(n k (by simp[Tr.mem,c])).1 (e▸t)) (fun e=>ad (e▸c))
 obtain⟨w,B⟩:=AR (xs:=g) (i:=b) (l:=y) (r:=.nil) ⟨b0,o_⟩ ab trivial (by rw[b2];exact S) (by rw[b2];exact T) n1 h.count
 rw[<-X]at w B
 rw[show (fJ g b).up=0 by rw[b2];exact U]at B
 have v:∀ k,k≠a->k≠b->fJ (qQ zs a b) k=fJ zs k:=fun k m f=>by rw[w.other k f,O k m f]
 have ll:(qQ zs a b).length=zs.length:=by rw[w.len,M]
 have j:fJ (qQ zs a b) a={ fJ zs a with up:=b }:=by rw[w.other a D,a2]
 have W:gO (qQ zs a b) (.nd x a .nil) b:=by
  obtain⟨⟨_,_⟩,⟨P,Q,_⟩,p,Z,_⟩:=A
  have ac:a∉x.mem:=by
   have:=nA.1
   simp only[Tr.mem,zr,zu]at this
   exact fun h=>this.2.2 a h a s_ rfl
  have K:∀ k∈x.mem,fJ (qQ zs a b) k=fJ zs k:=fun k c=>v k (fun e=>ac (e▸c)) (fun e=>(n b u).1 (e▸by simp[Tr.mem,c]))
  refine⟨⟨a0,by rw[ll];exact al⟩,⟨by rw[j];exact P,by rw[j];exact Q,by rw[j]⟩,?_,Z.rX ll K,trivial⟩
  have C:∀ k∈x.mem++a :: Tr.nil.mem,(fJ (qQ zs a b) k).key=(fJ zs k).key/\(fJ (qQ zs a b) k).iP=(fJ zs k).iP:=fun k c=>by
   simp only[Tr.mem,zm,zb,nI,or_false]at c
   rcases c with c|rfl
   . rw[K k c];exact⟨rfl,rfl⟩
   . rw[j];exact⟨rfl,rfl⟩
  refine⟨by rw[j];exact p.size,?_,?_⟩
  . rw[j,show nT (qQ zs a b) (x.mem++a :: Tr.nil.mem)=nT zs (x.mem++a :: Tr.nil.mem) from congrArg List.sum (yX fun k c=>by rw[(C k c).2])]
    exact p.total
  . rw[j]
    refine⟨p.first.1,fun k c=>?_⟩
    rcases p.first.2 k c with e|e
    . exact .inl e
    . refine .inr ?_
      rw[<-e]
      simp only[k8,(C k c).1,(C _ p.first.1).1]
 have nR:∀ e∈R,∀ k∈e.1.mem,k≠a/\k≠b:=fun e d k c=>⟨fun e' => nA.2 a t (e' ▸ ow d c),fun e' => (n b u).2 (e' ▸ ow d c)⟩
 have J:jH ((.nd y b .nil,0) :: (.nd x a .nil,b) :: R)=jH ((.nd y b .nil,0) :: (.nd x a .nil,0) :: R):=by simp[jH]
 obtain⟨ρ,r1,r2⟩:=h.sV
 obtain⟨σ,E⟩:∃ σ:Nat->Nat,∀ k,σ k=if k∈(Tr.nd y b .nil).mem then ρ k+ρ a+1 else ρ k:=⟨_,fun _=>rfl⟩
 have H:∀ k∈(Tr.nd y b .nil).mem,σ k=ρ k+ρ a+1:=fun k c=>by rw[E,if_pos c]
 have o:∀ k,k∉(Tr.nd y b .nil).mem->σ k=ρ k:=fun k c=>by rw[E,if_neg c]
 have ae:∀ k,ρ k<=σ k:=fun k=>by rw[E];split<;>omega
 have G:∀ k∈(Tr.nd x a .nil).mem,k∉(Tr.nd y b .nil).mem:=fun k m f=>(n k f).1 m
 have oR:∀ e∈R,∀ k∈e.1.mem,k∉(Tr.nd y b .nil).mem:=fun e d k m f=>(n k f).2 (ow d m)
 refine⟨⟨fun e d=>?_,fun e d=>?_,by rw[J];exact h.nodup,fun k s c=>by rw[J];exact h.all k s (by rw[ll]at c;exact c),fun e d=>?_,⟨σ,fun e d=>?_,fun e d s=>?_⟩,by rw[v 0 (fun e=>a0 e.symm) (fun e=>b0 e.symm)];exact h.zero,by rw[ll];exact h.pos,by rw[ll];exact h.len⟩,ll,v⟩
 . rcases zb.1 d with rfl|d
   . exact B
   . rcases zb.1 d with rfl|d
     . exact W
     . exact(h.rep e (by simp[d])).rX ll fun k c=>v k (nR e d k c).1 (nR e d k c).2
 . rcases zb.1 d with rfl|d
   . exact b0
   . rcases zb.1 d with rfl|d
     . exact a0
     . exact h.ne e (by simp[d])
 . rw[ll]
   rcases zb.1 d with rfl|d
   . exact h.pos
   . rcases zb.1 d with rfl|d
     . exact bl
     . exact h.par e (by simp[d])
 . rcases zb.1 d with rfl|d
   . intro i hi k c
     rw[H i hi,H k c,r1 (.nd y b .nil,0) s_ i hi k c]
   . rcases zb.1 d with rfl|d
     . intro i hi k c
       rw[o i (G i hi),o k (G k c),r1 (.nd x a .nil,0) s_ i hi k c]
     . intro i hi k c
       rw[o i (oR e d i hi),o k (oR e d k c),r1 e (by simp[d]) i hi k c]
 . rcases zb.1 d with rfl|d
   . exact absurd rfl s
   . rcases zb.1 d with rfl|d
     . intro i hi
       have:=r1 (.nd x a .nil,0) s_ i hi a t
       rw[o i (G i hi),H b u]
       omega
     . intro i hi
       have:=r2 e (by simp[d]) s i hi
       have:=ae e.2
       rw[o i (oR e d i hi)]
       omega
def wK(ys:List Nd)(i:Nat)(k:Int):List Nd:=iI (fN ys i (fun x=>{ x with key:=k })) i
theorem ad3{ys:List Nd}{i:Nat}{a:Tr}{R:FT}{c:Int}(h:Fo ys ((.nd a i .nil,0) :: R)):Fo (wK ys i c) ((.nd a i .nil,0) :: R)/\(wK ys i c).length=ys.length/\(∀ k,k≠i->fJ (wK ys i c) k=fJ ys k)/\(fJ (wK ys i c) i).key=c:=by
 obtain⟨n1,B,y⟩:=h.split
 obtain⟨⟨i0,w⟩,⟨k0,k1,up⟩,v,t,_⟩:=h.rep (.nd a i .nil,0) s_
 obtain⟨f,g⟩:∃ z,z=fN ys i (fun x=>{ x with key:=c }):=⟨_,rfl⟩
 have u:wK ys i c=iI f i:=by rw[g];rfl
 have p:f.length=ys.length:=by rw[g,gC]
 have a2:fJ f i={ fJ ys i with key:=c }:=by rw[g,j9 w]
 have q:∀ k,k≠i->fJ f k=fJ ys k:=fun k b=>by rw[g,jX (fun e=>b e.symm)]
 have A:i∉a.mem:=by
  simp only[Tr.mem,zr,zu]at n1
  exact fun h=>n1.2.2 i h i s_ rfl
 obtain⟨j,m⟩:=AR (xs:=f) (i:=i) (l:=a) (r:=.nil) ⟨i0,o_⟩ (t.rX p fun k b=>q k (fun e=>A (e▸b))) trivial (by rw[a2];exact k0) (by rw[a2];exact k1) n1 h.count
 rw[<-u]at j m
 rw[show (fJ f i).up=0 by rw[a2];exact up]at m
 have n:∀ k,k≠i->fJ (wK ys i c) k=fJ ys k:=fun k o=>by rw[j.other k o,q k o]
 have ll:(wK ys i c).length=ys.length:=by rw[j.len,p]
 have hm:i∈(Tr.nd a i .nil).mem:=by simp[Tr.mem]
 refine⟨⟨fun e d=>?_,h.ne,h.nodup,fun k s b=>h.all k s (by rw[ll]at b;exact b),fun e d=>by rw[ll];exact h.par e d,h.sV,by rw[n 0 (fun e=>i0 e.symm)];exact h.zero,by rw[ll];exact h.pos,by rw[ll];exact h.len⟩,ll,n,by rw[j.kl.key,a2]⟩
 rcases zb.1 d with rfl|d
 . exact m
 . exact(h.rep e (by simp[d])).rX ll fun k b=>n k (fun e' => y i hm (e' ▸ ow d b))
def uI:Nd:=⟨0,0,0,false,0,0,0,0,0⟩
def wm(i:Nat):Nd:=⟨0,0,0,false,0,1,i,0,1⟩
def mE(n k:Nat):List Nd:=(List.range (n+1)).map fun i=>if 1<=i/\i<=k then wm i else uI
theorem qn(n k:Nat):(mE n k).length=n+1:=by simp[mE]
theorem xU{n k i:Nat}(h:i<n+1):fJ (mE n k) i=if 1<=i/\i<=k then wm i else uI:=by
 simp[fJ,mE,pX h]
theorem abN(n:Nat):mE n 0=List.replicate (n+1) uI:=by
 apply List.ext_getElem
 . simp[mE]
 . intro i a b
   simp only[mE,List.getElem_map,List.getElem_range,List.getElem_replicate]
   rw[if_neg o_]
theorem abM{n k:Nat}(h:k<n):iI (mE n k) (k+1)=mE n (k+1):=by
 have b:k+1<(mE n k).length:=by rw[qn];omega
 have a:fJ (mE n k) (k+1)=uI:=by rw[xU o_,if_neg o_]
 unfold iI
 rw[a]
 simp only[uI,mh,if_true]
 apply mM
 intro i
 by_cases hi:i=k+1
 . subst hi
   rw[gy (by rw[gC];exact b),j9 b,a,gy (by rw[qn];omega),xU o_,if_pos o_]
   simp only[uI,wm,Lr]
   rfl
 . by_cases hlt:i<n+1
   . rw[gy (by rw[gC,qn];exact hlt),jX (fun e=>hi e.symm),gy (by rw[qn];exact hlt),xU hlt,xU hlt]
     by_cases h1:1<=i/\i<=k
     . rw[if_pos h1,if_pos o_]
     . rw[if_neg h1,if_neg o_]
   . rw[zt (by rw[gC,qn];omega),zt (by rw[qn];omega)]
def newF(n:Nat):FT:=(List.range n).map fun v=>(.nd .nil (v+1) .nil,0)
theorem abO{n:Nat}(h:n<=1000000):Fo (mE n n) (newF n):=by
 have i:jH (newF n)=(List.range n).map (· + 1):=by
  unfold jH newF
  rw[List.flatMap_map]
  induction List.range n with
  | nil=>rfl
  | cons x l k =>
   rw[zy,k]
   rfl
 refine⟨fun e d=>?_,fun e d=>?_,?_,fun j g f=>?_,fun e d=>?_,⟨fun _=>0,fun _ _ _ _ _ _=>rfl,fun e d g=>?_⟩,?_,by rw[qn];omega,by rw[qn];omega⟩
 . obtain⟨v,hv,rfl⟩:=z7.1 d
   have hv:=z6.1 hv
   have c:fJ (mE n n) (v+1)=wm (v+1):=by rw[xU o_,if_pos o_]
   refine⟨⟨o_,by rw[qn];omega⟩,⟨by rw[c];rfl,by rw[c];rfl,by rw[c];rfl⟩,⟨by rw[c];rfl,?_,?_⟩,trivial,trivial⟩
   . rw[c];simp only[Tr.mem,rq,nT,jV,DM,c];rw[Lr];rfl
   . rw[c];exact⟨by simp[wm,Tr.mem],fun j f=>.inl (by simpa[wm,Tr.mem]using f)⟩
 . obtain⟨v,hv,rfl⟩:=z7.1 d
   exact Nat.succ_ne_zero v
 . rw[i]
   exact List.Pairwise.map _ (fun a b (h:a≠b)=>by show a+1≠b+1;omega) tW
 . rw[i]
   rw[qn]at f
   exact z7.2 ⟨j-1,z6.2 o_,o_⟩
 . obtain⟨v,hv,rfl⟩:=z7.1 d
   rw[qn];show 0<n+1;omega
 . obtain⟨v,hv,rfl⟩:=z7.1 d
   exact absurd rfl g
 . rw[xU o_,if_neg o_];exact⟨rfl,rfl,rfl⟩
end Go.Sx
namespace Go.Sx
open Go
theorem TE{α:Type}[Inhabited α]{xs:List α}{i:Nat}{f g:α->α}(h:i<xs.length):fN (fN xs i f) i g=fN xs i (fun x=>g (f x)):=by
 have e:=j9 (f:=f) h
 unfold fN at e ⊢
 rw[e,List.set_set]
theorem ac6{xs:List Nd}{i:Nat}(h:i<xs.length):fN (fN (fN xs i (fun x=>{ x with size:=1 })) i (fun x=>{ x with first:=i })) i (fun x=>{ x with total:=IntKind.i64.wrap (1+(fJ xs i).iP) })=fN xs i (fun x=>{ x with size:=1,first:=i,total:=IntKind.i64.wrap (1+x.iP) }):=by
 rw[TE h,TE h];rfl
theorem uO{xs y:List Nd}{i:Nat}(a:y=fN xs i (fun x=>{ x with size:=1,first:=i,total:=IntKind.i64.wrap (1+x.iP) }))(h:i<xs.length):iI xs i=mh (mh y i (fJ y i).k0) i (fJ y i).k1:=by
 have b:(fJ y i).k0=(fJ xs i).k0:=by rw[a,j9 h]
 have e1:(fJ y i).k1=(fJ xs i).k1:=by rw[a,j9 h]
 rw[b,e1,a];rfl
theorem tJ{xs:List Nd}{i k:Nat}(h:k=0):mh xs i k=xs:=by simp[mh,h]
section
variable {xs y0 y1 y2:List Nd} {i k:Nat}
theorem tI(h:k≠0)(a:y0=fN xs i (fun x=>{ x with size:=IntKind.i64.wrap ((fJ xs i).size+(fJ xs k).size) }))(e1:y1=fN y0 i (fun x=>{ x with total:=IntKind.i64.wrap ((fJ y0 i).total+(fJ y0 k).total) }))
 (c:k8 y1 (fJ y1 k).first (fJ y1 i).first=true) (b:y2=fN y1 i (fun x=>{ x with first:=(fJ y1 k).first })):mh xs i k=y2:=by
 subst a e1 b
 simp only[mh,if_neg h]
 exact if_pos c
theorem tH(h:k≠0)(a:y0=fN xs i (fun x=>{ x with size:=IntKind.i64.wrap ((fJ xs i).size+(fJ xs k).size) }))(e1:y1=fN y0 i (fun x=>{ x with total:=IntKind.i64.wrap ((fJ y0 i).total+(fJ y0 k).total) }))
 (b:k8 y1 (fJ y1 k).first (fJ y1 i).first=false):mh xs i k=y1:=by
 have c : ¬ k8 y1 (fJ y1 k).first (fJ y1 i).first=true:=by rw[b];simp
 subst a e1
 simp only[mh,if_neg h]
 exact if_neg c
end
theorem C2(xs:List Nd)(i:Nat):jC xs i=(0,false)\/jC xs i=(0,true)\/jC xs i=(1,true):=by
 unfold jC
 (repeat' split)<;>simp
theorem gf.ku{xs:List Nd}(h:gf xs){i s k:Nat}(hi:i<xs.length)(hk:k<xs.length):gf (iX xs i s k):=by
 have f:gf (if s=0 then fN xs i (fun x=>{ x with k0:=k })else fN xs i (fun x=>{ x with k1:=k })):=by
  split
  . exact h.iJ hi fun x a b c d e=>⟨hk,b,c,d,e⟩
  . exact h.iJ hi fun x a b c d e=>⟨a,hk,c,d,e⟩
 have g:(if s=0 then fN xs i (fun x=>{ x with k0:=k })else fN xs i (fun x=>{ x with k1:=k })).length=xs.length:=by split<;>exact gC
 by_cases hk0:k=0
 . simp only[iX,if_pos hk0]
   exact f
 . simp only[iX,if_neg hk0]
   exact f.iJ (by rw[g];exact hk) fun x a b c d e=>⟨a,b,by rw[g];exact hi,d,e⟩
theorem EW(xs:List Nd)(i s k:Nat):(iX xs i s k).length=xs.length:=by
 unfold iX
 simp only
 (repeat' split)<;>simp only[gC]
theorem Km(xs:List Nd)(i k:Nat):(mh xs i k).length=xs.length:=by
 unfold mh
 simp only
 (repeat' split)<;>simp only[gC]
theorem FH(xs:List Nd)(i:Nat):(iI xs i).length=xs.length:=by
 simp only[iI,Km,gC]
theorem gf.mh{xs:List Nd}(h:gf xs){i k:Nat}(hi:i<xs.length)(hk:k<xs.length):gf (mh xs i k):=by
 have g:gf (fN xs i (fun x=>{ x with size:=IntKind.i64.wrap (x.size+(fJ xs k).size) })):=h.iJ hi fun x a b c d e=>⟨a,b,c,d,e⟩
 have l0:(fN xs i (fun x=>{ x with size:=IntKind.i64.wrap (x.size+(fJ xs k).size) })).length=xs.length:=gC
 unfold Go.Sx.mh
 simp only
 generalize fN xs i (fun x=>{ x with size:=IntKind.i64.wrap (x.size+(fJ xs k).size) })=y0 at g l0 ⊢
 have f:gf (fN y0 i (fun x=>{ x with total:=IntKind.i64.wrap (x.total+(fJ y0 k).total) })):=g.iJ o_ fun x a b c d e=>⟨a,b,c,d,e⟩
 have j:(fN y0 i (fun x=>{ x with total:=IntKind.i64.wrap (x.total+(fJ y0 k).total) })).length=y0.length:=gC
 generalize fN y0 i (fun x=>{ x with total:=IntKind.i64.wrap (x.total+(fJ y0 k).total) })=y1 at f j ⊢
 split
 . exact h
 split
 . exact f.iJ o_ fun x a b c d e=>⟨a,b,c,f.first k o_,e⟩
 . exact f
theorem gf.lK{xs:List Nd}(h:gf xs){i:Nat}(hi:i<xs.length):gf (iI xs i):=by
 have f:gf (fN xs i (fun x=>{ x with size:=1,first:=i,total:=IntKind.i64.wrap (1+x.iP) })):=h.iJ hi fun x a b c d e=>⟨a,b,c,hi,e⟩
 have l0:(fN xs i (fun x=>{ x with size:=1,first:=i,total:=IntKind.i64.wrap (1+x.iP) })).length=xs.length:=gC
 have a:=h.k0 i hi
 have b:=h.k1 i hi
 unfold iI
 exact(f.mh o_ o_).mh (by rw[Km];omega) (by rw[Km];omega)
end Go.Sx
namespace Go.Sx
open Go
theorem om{p:Prop}(h:p:=by first|omega|(simp only[gC];omega)):p:=h
theorem oa{p:Prop}(h:p:=by first|assumption|omega|(simp only[gC];omega)):p:=h
theorem o9{p q:Prop}(a:q)(h:q->p:=by intro a;first|omega|(simp only[gC]at a ⊢;omega)|(simp only[gC]at a;omega)|(simp only[gC];omega)):p:=h a
theorem iB{bs:List (World×List Nat)}{A:fU}{nb t m:Nat}{z:List Nd}{w:World}(a:gf z)(hs:St bs [A,blk nb t (z.flatMap Nd.cells)] w)(b:z.length=m:=by first|omega|(simp only[gC];omega)|(rw[EW];omega)|(rw[FH];omega)|omega):∃ y,y=z/\y.length=m/\gf y/\St bs [A,blk nb t (y.flatMap Nd.cells)] w:=⟨z,rfl,b,a,hs⟩
section
variable {Γ:Type} {P:Program} {ops:Array Oper} {Q:Exit->Act->World->Prop} {n:Nat} {ds:List Deferred} {s0:List (Nat×Value)} {l0:List Oper} {pre:List (List Nat)} {mem:List Nat} {V:List (Γ->Value)} {bs:List (World×List Nat)} {Ls:List ((Γ->List fU)×(Γ->World->Prop))} {i:Nat} {s:Γ->List (Nat×Value)} {o:Oper} {l:List Oper} {v:Γ->Value} {vs:List (Γ->Value)}
theorem pP(h:∀ g w,(execOp (ev n (s g)) o).run P w = .ok (.value (v g)) w)(K:lE P ops Q n ds s0 l0 pre mem V (jx bs Ls) (i+1) (fun g=>kj o.dst (v g) (s g)) l vs)(hm:mem.contains i=false:=by exact rfl)(a:∀ g,gB ops n (s g) o.guard=true:=by exact fun _=>rfl)(hd:mc o.op=true:=by exact rfl) :
 lE P ops Q n ds s0 l0 pre mem V (jx bs Ls) i s (o :: l) (v :: vs):=abT hm (fun g w C=>qv (a g) hd (h g w)) K
end
section
variable {P:Program} {bs:List (World×List Nat)} {L LL A A' B:List fU} {R R' : fU} {w w' : World}
theorem St.tn(i:Nat)(h:St bs L w)(b:fZ R w w' R')(hi:L[i]? = some R:=by exact rfl)(a:L.set i R' = LL:=by first|(dsimp only[List.set];exact rfl)|exact rfl):St bs LL w' := St.Lj i h hi b a
theorem St.tu(h:St bs (gj A :: B) w)(a:fZ (gj A) w w' (gj A')):St bs (A' ++ B) w' := (St.Lj 0 h rfl a rfl).unpack
theorem St.eT(h:St bs (R' :: L) w')(hb:(w,R.gG)∈bs:=by exact za):fZ R w w' R' := h.EA hb
theorem St.eM(h:St bs (R :: L) w')(hb:(w,[])∈bs:=by simp):fZ (gj []) w w' R:=h.Oe hb
theorem en{f:FuncId}{fn:Func}{c:Code}{n:Nat}{vs:List Value}{R:Ending->World->Prop}(a:P.funcs[f]? = some fn)(b:fn.ntmps=n)(h:WP none P c (bodyPost P fn R) (Fr n (vJ vs 0) []) w)(hb:fn.body=some c:=by exact rfl)(hs:Nat.ble vs.length n=true:=by exact rfl):Calls P f vs.toArray w R:=enter a hb b hs h
variable {ops:Array Oper} {Q:Exit->Act->World->Prop} {n:Nat} {s:List (Nat×Value)} {ds:List Deferred} {r d:Option Nat} {ty:TypeId} {pos:String} {af:Array Edge} {g:Option (Nat×Bool)} {rest:List Oper}
theorem cl{f:FuncId}{a:List Operand}{T:Array TypeId}{vl:List Value}{R:Value->World->Prop}(c:gi P f)(b:CR P f vl.toArray w R)(K:∀ v w', R v w' -> WL r P ops Q rest (Fr n (kj d v s) ds) w')(e:gB ops n s g=true:=by exact rfl)(hvs:a.map (ev n s)=vl:=by exact rfl) :
 WL r P ops Q (⟨d,.call ⟨.value (.func f),a.toArray,T⟩,ty,pos,af,g⟩ :: rest) (Fr n s ds) w:=jI e hvs c b K
end
end Go.Sx
namespace Go.Sx
open Go
theorem YG(a k:Nat)(m:Nat)(h:k<=m):(a:Int).fdiv (2 ^ (min ((k:Nat):Int).toNat m))=((a / 2 ^ k:Nat):Int):=by
 rw[mj,oZ h]
 rw[Int.fdiv_eq_ediv_of_nonneg _ (Int.pow_nonneg d_)]
 simp
section
variable {r:Option Nat} {P:Program} {ops:Array Oper} {Q:Exit->Act->World->Prop} {rest:List Oper} {n d:Nat} {s:List (Nat×Value)} {ds:List Deferred} {w:World} {ty:TypeId} {pos:String} {af:Array Edge} {g:Option (Nat×Bool)}
theorem ZR{x y:Operand}{t:TypeId}{k:IntKind}{b:ByteArray}{i:Int}(m:Nat)(e:gB ops n s g=true)(h:ev n s x = .string b)(j:ev n s y = .int k i)(f:P.underlying t=some .string)(hm:b.size=m)(a:0<=i)(hi:i<m)
 (K:∀ c:UInt8,c.toNat<256->WL r P ops Q rest (Fr n ((d,.int .u8 c.toNat) :: s) ds) w):WL r P ops Q (⟨some d,.index t x y,ty,pos,af,g⟩ :: rest) (Fr n s ds) w :=
 ZQ e h j f a (getElem?_pos b i.toNat (by show i.toNat<b.size;omega)) (K _ (UInt8.toNat_lt _))
end
end Go.Sx
namespace Go.Sx
open Go
section
variable {P:Program} {w:World} {v:Value} {xs:List Int} {e:TypeId} {f:FuncId}
theorem ZK{b cap:Nat}{cur:Array Value}(d:w.heap[b]? = some (.cells cur e (0,0)))(f:cur.toList.take xs.length=xs.map (Value.int .i64)):Go.Sort.Holds (Value.int .i64) w b 0 xs.toArray:=by
 intro j g
 have a : j<xs.length:=by simpa using g
 have c:(cur.toList.take xs.length)[j]? = some (Value.int .i64 xs[j]):=by rw[f];simp[a]
 rw[LA a]at c
 refine⟨?_,?_⟩
 . simp only[World.cell?,d]
   have e1:xs.toArray[j]! = xs[j]:=by simp[a]
   rw[e1]
   simpa using c
 . simp[World.frozen?,d]
theorem Wb(s:Own (ig .i64 v e xs) w){i:Nat}(hi:i<xs.length)
 (t:∀ b cap,Go.Sort.Holds (Value.int .i64) w b 0 xs.toArray->xs.length<=cap->cap<=9223372036854775807 ->
  Calls P f #[.slice (some ⟨b,0,none⟩) xs.length cap,.int .i64 (i:Int),.int .i64 ((i+1:Nat):Int)] w fun en w' => en = .returned (.slice (some ⟨b,0,none⟩) (xs.length-(i+1-i)) cap) /\
   ∃ q,w' = Go.Sort.putRow (Value.int .i64) (Go.Sort.ahead w q) b 0 (xs.take i++xs.drop (i+1)++List.replicate (i+1-i) 0).toArray) :
 CR P f #[v,.int .i64 (i:Int),.int .i64 ((i+1:Nat):Int)] w (fun r w' => fZ (ig .i64 v e xs) w w' (ig .i64 r e (xs.eraseIdx i))):=by
 have H:w.ownsRow 0 e 1 v xs.length (xs.map (Value.int .i64)):=s.holds
 rcases H.2 with ⟨_,L⟩|⟨a, cap,cur,rfl,hb,g,o,k,l,m⟩
 . omega
 . have p : cur.toList.take xs.length=xs.map (Value.int .i64):=by rw[su]at m;simpa using m
   refine Calls.mono (t a cap (ZK (cap:=cap) g p) o (by simpa[maxLen]using k)) ?_
   rintro en w' ⟨rfl,q,rfl⟩
   refine⟨_,rfl,?_⟩
   have z:xs.eraseIdx i=xs.take i++xs.drop (i+1):=GC xs i
   have E:(xs.eraseIdx i).length=xs.length-(i+1-i):=by rw[List.length_eraseIdx_of_lt hi];omega
   have A:a < w.heap.size:=(nW.1 g).1
   obtain⟨d,hd⟩:∃ d,d=(xs.take i++xs.drop (i+1)++List.replicate (i+1-i) 0).toArray:=⟨_,rfl⟩
   rw[<-hd]
   have y:d.size=xs.length:=by rw[hd];simp;omega
   have F:(Go.Sort.putRow (Value.int .i64) (Go.Sort.ahead w q) a 0 d).heap[a]? = some (.cells (Go.Sort.putCells (Value.int .i64) 0 d cur) e (0,0)):=by
    simp only[Go.Sort.putRow,Go.Sort.mapBlock,Go.Sort.ahead,yZ,if_pos,g]
    rfl
   have G:∀ b,b≠a -> (Go.Sort.putRow (Value.int .i64) (Go.Sort.ahead w q) a 0 d).heap[b]? = w.heap[b]? := by
    intro b hb
    simp only[Go.Sort.putRow,Go.Sort.mapBlock,Go.Sort.ahead,yZ]
    rw[if_neg (fun e=>hb e.symm)]
   have n:(Go.Sort.putRow (Value.int .i64) (Go.Sort.ahead w q) a 0 d).heap.size=w.heap.size:=by simp[Go.Sort.putRow,Go.Sort.mapBlock,Go.Sort.ahead]
   have I:(Go.Sort.putCells (Value.int .i64) 0 d cur).size=cur.size:=by simp[Go.Sort.putCells]
   have J:(Go.Sort.putCells (Value.int .i64) 0 d cur).toList.take (xs.eraseIdx i).length=(xs.eraseIdx i).map (Value.int .i64):=by
    apply mM
    intro j
    rw[r9,kR]
    split
    . rename_i h
      have B:j<xs.length:=by omega
      have C:j<cur.size:=by
       have:xs.length<=cur.size:=by rw[l];omega
       omega
      have x:d[j]! = (xs.eraseIdx i)[j]:=by
       have u:d=(xs.eraseIdx i++List.replicate (i+1-i) 0).toArray:=by rw[hd,z]
       rw[u]
       have D:j<(xs.eraseIdx i++List.replicate (i+1-i) 0).toArray.size:=by simp only[List.size_toArray,zq];omega
       rw[getElem!_pos _ j D,List.getElem_toArray,List.getElem_append_left h]
      simp only[Go.Sort.putCells,wV,LI,mZ,true_and,lD,Nat.sub_zero]
      rw[tU C]
      simp only[w5]
      rw[if_pos (by rw[y];exact B),x]
      simp[h]
    . rename_i h
      rw[zt o_]
      rfl
   refine⟨?_,⟨rfl,rfl,rfl,Nat.le_of_eq n.symm,fun b hb K=>G b (fun e=>K (by simp[row,Value.ownBlock,e]))⟩,fun b c => .inl (by simpa[row,Value.ownBlock]using c),by simp[row,Value.ownBlock],fun b c => ?_⟩
   . refine⟨s_,.inr ⟨a, cap,_,by rw[E],hb,F,o_,k,by rw[I];exact l,?_⟩⟩
     rw[su]
     simpa using J
   . simp[row,Value.ownBlock]at c
     subst c
     rw[n]
     exact A
end
end Go.Sx
namespace Go.Sx
open Go
section
variable {P:Program} {t:TypeId} {w:World}
theorem Sm {a b : Field} {xs ys : Array Value} {f g y1 y2 : Value} {c d : Bool} (h : P.underlying t = some (.struct #[a, b])) (hs : P.stoodInHeld t = false) (n1 : a.name ≠ "_") (i : b.name ≠ "_")
 (j:(part a.type xs a.offset).run P w = .ok f w) (k:(part a.type ys a.offset).run P w = .ok y1 w) (p2:(part b.type xs b.offset).run P w = .ok g w) (l:(part b.type ys b.offset).run P w = .ok y2 w)
 (e1:(Op.equalIn 9999 a.type f y1).run P w = .ok c w) (e:(Op.equalIn 9999 b.type g y2).run P w = .ok d w):(Op.equal t (.agg xs) (.agg ys)).run P w = .ok (c&&d) w:=by
 show (Op.equalIn (9999+1) t _ _).run P w=_
 unfold Op.equalIn
 simp[run_underlying h,hs,n1,i,j,k,p2,l,e1,e]
 cases c<;>cases d<;>simp[e]
theorem adQ{e:TypeId}{k:IntKind}{by_:Nat}{z:Value}(g:P.underlying t=some (.array 2 e))(f:P.underlying e=some (.int k))(hi:TI P e 1 by_ z)(a0 a1 b0 b1:Int) :
 (Op.equal t (.agg #[.int k a0,.int k a1]) (.agg #[.int k b0,.int k b1])).run P w = .ok (decide (a0=b0/\a1=b1)) w:=by
 have p:∀ (c d:Value),(part e #[c,d] 0).run P w = .ok c w/\(part e #[c,d] 1).run P w = .ok d w:=fun c d=>⟨rV f _ _ _ rfl,rV f _ _ _ rfl⟩
 have q:=fun a b=>CZ (P:=P) (w:=w) 9998 f a b
 simp only[Nat.reduceAdd]at q
 show (Op.equalIn 10000 t _ _).run P w=_
 unfold Op.equalIn
 simp only[zw,run_underlying g,zp,hi.size,Std.Legacy.Range.forIn_eq_forIn_range', Std.Legacy.Range.size]
 simp only[show List.range' 0 ((2-0+1-1) / 1) 1=[0,1] from rfl,List.forIn_cons,List.forIn_nil,zw,su,(p _ _).1,(p _ _).2,zp,q]
 by_cases h0:a0=b0
 . by_cases h1:a1=b1
   . simp[h0,h1,p,q,Result.andThen]
   . simp[h0,h1,p,q,Result.andThen]
 . simp[h0,p,q,Result.andThen]
theorem Sp(a:P.underlying t=some .bool)(xs:Array Value)(i:Nat)(v:Value)(h:xs[i]? = some v):(part t xs i).run P w = .ok v w:=by
 simp[part,wJ a,j4,h]
end
section
variable {r:Option Nat} {P:Program} {ops:Array Oper} {Q:Exit->Act->World->Prop} {rest:List Oper} {n:Nat} {s:List (Nat×Value)} {ds:List Deferred} {w:World}
variable {d:Nat} {dd:Option Nat} {ty t t' : TypeId} {pos:String} {af:Array Edge} {g:Option (Nat×Bool)} {x y:Operand} {xs ys:Array Value} {c:Bool}
theorem abG(d:ev n s x = .agg xs)(e:ev n s y = .agg ys)(b:P.eqGuardType P.depth t=false)(a:∀ w,(Op.equal t (.agg xs) (.agg ys)).run P w = .ok c w) :
 (execOp (ev n s) ⟨dd,.binOp .neq t x y t', ty,pos,af,g⟩).run P w = .ok (.value (.bool (!c))) w:=by
 simp only[execOp,d,e,zw,run_eqGuard_agg .neq b,zp]
 simp only[binOp,zw,a,zp,jK]
theorem JW(b:gB ops n s g=true)(f:ev n s x = .agg xs)(h:ev n s y = .agg ys)(e:P.eqGuardType P.depth t=false)(a:∀ w,(Op.equal t (.agg xs) (.agg ys)).run P w = .ok c w)
 (K:WL r P ops Q rest (Fr n ((d,.bool (!c)) :: s) ds) w):WL r P ops Q (⟨some d,.binOp .neq t x y t', ty,pos,af,g⟩ :: rest) (Fr n s ds) w:=pw b (fun _=>abG f h e a) K
theorem Yo(b:gB ops n s g=true)(f:ev n s x = .agg xs)(h:ev n s y = .agg ys)(e:P.eqGuardType P.depth t=false)(a:∀ w,(Op.equal t (.agg xs) (.agg ys)).run P w = .ok c w)
 (K:WL r P ops Q rest (Fr n ((d,.bool c) :: s) ds) w):WL r P ops Q (⟨some d,.binOp .eql t x y t', ty,pos,af,g⟩ :: rest) (Fr n s ds) w:=by
 refine pw b (fun _=>?_) K
 simp only[execOp,f,h,zw,run_eqGuard_agg .eql e,zp]
 simp only[binOp,zw,a,zp,jK]
end
end Go.Sx
namespace Go.Sx
open Go
abbrev lg(k:IntKind)(e:Int×Value×Nat):MapEntry:=⟨.int k e.1,e.2.1,e.2.2⟩
section
variable {P:Program} {k k' : IntKind} {x:Int} {es:List (Int×Value×Nat)}
theorem wF{kt:TypeId}(hk:P.underlying kt=some (.int k'))(a:Bool)(n:Nat)(v:Value)(w:World):(Instr.checkKey a (n+1) kt v).run P w = .ok () w:=by simp[Instr.checkKey,run_underlying hk]
theorem wG{kt:TypeId}{w:World}(hk:P.underlying kt=some (.int k')){l:List MapEntry}{v:Value}{q:Option (Nat×Value)}(h:Instr.findNow (.int k') v l 0=some q):(Instr.findKey kt v l).run P w = .ok q w:=by simp[Instr.findKey,run_underlying hk,h]
theorem aam(x:Int)(w:World):(Instr.keyThatStays (.int k x) (.int k x)).run P w = .ok (.int k x) w:=by simp[Instr.keyThatStays,Instr.sameBits]
theorem Vc{b:Nat}(w:World)(o:Obj):gx [b] w { w with heap:=w.heap.setIfInBounds b o } :=
 ⟨rfl,rfl,rfl,s_,fun c d a=>by
  have:b≠c:=fun e=>a (by simp[e])
  simp[LC,this]⟩
theorem B3{b:Nat}(w:World)(o:Obj):gx [b] w (w.putObj b o) :=
 ⟨rfl,rfl,rfl,by simp[World.putObj],fun c d a=>by
  have:b≠c:=fun e=>a (by simp[e])
  simp[World.putObj,LC,this]⟩
theorem FN{b:Nat}{w:World}{o:Obj}{d:Array MapEntry}{a:Nat}(h:w.heap[b]? = some (.map d a)):(setObj b o).run P w = .ok () (w.putObj b o)/\(w.putObj b o).heap[b]? = some o:=by
 have c:=(nW.1 h).1
 exact⟨by simp only[setObj,Sem.run,h,World.putObj],World.putObj_heap_same c⟩
end
section
variable {r:Option Nat} {P:Program} {ops:Array Oper} {Q:Exit->Act->World->Prop} {rest l:List Oper} {n:Nat} {s s0:List (Nat×Value)} {ds:List Deferred} {w w0:World} {Nx:Value->World->Prop}
variable {d:Nat} {dd:Option Nat} {ty:TypeId} {pos:String} {af:Array Edge} {g:Option (Nat×Bool)} {x y m:Operand} {bs:List (World×List Nat)} {L L' : List fU} {t e kt:TypeId} {b:Nat} {k k' : IntKind} {ys:List Int} {a:Int}
theorem St.Fi{i:Nat}{R R' : fU}{o:Obj}(h:St bs L w)(hi:L[i]? = some R)(e:R.gG=[b])(d : R'.gG=[b])(g:∀ w' : World,w'.heap[b]? = some o->R'.holds w')(f:b<w.heap.size):St bs (L.set i R') (w.putObj b o):=by
 refine h.iJ hi (by rw[e];exact B3 w o) (fun c a=>.inl (by rw[e];rwa [d]at a)) (by rw[d];simp) (fun c a=>?_) (g _ (World.putObj_heap_same f))
 rw[d]at a
 simp only[zz]at a
 subst a
 simpa[World.putObj]using f
end
end Go.Sx
namespace Go.Sx
open Go
section
variable {γ:Type}
def gZ:List (Int×γ)->Int->Option γ
 | [],_=>none
 | (b,y) :: m,a=>if b=a then some y else gZ m a
def gD:List (Int×γ)->Int->γ->List (Int×γ)
 | [],a,x=>[(a,x)]
 | (b,y) :: m,a,x=>if b=a then(a,x) :: m else(b,y) :: gD m a x
def iZ:List (Int×γ)->Int->List (Int×γ)
 | [],_=>[]
 | (b,y) :: m,a=>if b=a then m else(b,y) :: iZ m a
def gh[Inhabited γ](m:List (Int×γ))(a:Int):γ:=(gZ m a).getD default
def gM(b:Nat)(k:IntKind)(enc:γ->Value)(m:List (Int×γ)):fU where
 gG:=[b]
 holds w:=∃ (es:List (Int×Value×Nat)) (a:Nat),w.heap[b]? = some (.map (es.map (lg k)).toArray a)/\es.map (fun e=>(e.1,e.2.1))=m.map (fun p=>(p.1,enc p.2))/\(es.map (fun e=>e.2.2)).Nodup/\∀ e∈es,e.2.2<a
 loc w w' h hh:=by
  obtain⟨es,a,c,d⟩:=hh
  exact⟨es,a,(h b s_).trans c,d⟩
theorem wj(m:List (Int×γ))(a c:Int)(x:γ):gZ (gD m a x) c=if a=c then some x else gZ m c:=by
 induction m with
 | nil=>simp[gD,gZ]
 | cons p m d =>
  obtain⟨b,y⟩:=p
  simp only[gD]
  by_cases h:b=a
  . subst h
    rw[if_pos rfl]
    simp only[gZ]
    split<;>rfl
  . rw[if_neg h]
    simp only[gZ,d]
    by_cases h1:b=c
    . rw[if_pos h1,if_neg (fun e=>h (h1.trans e.symm)),if_pos h1]
    . rw[if_neg h1,if_neg h1]
theorem JN{m:List (Int×γ)}(d:(m.map Prod.fst).Nodup)(a c:Int):gZ (iZ m a) c=if a=c then none else gZ m c:=by
 induction m with
 | nil=>simp[iZ,gZ]
 | cons p m g =>
  obtain⟨b,y⟩:=p
  simp only[jV,zu]at d
  simp only[iZ]
  by_cases h:b=a
  . subst h
    rw[if_pos rfl]
    by_cases h1:b=c
    . subst h1
      rw[if_pos rfl]
      have:∀ (l:List (Int×γ)),b∉l.map Prod.fst->gZ l b=none:=by
       intro l
       induction l with
       | nil=>intro _;rfl
       | cons q l i =>
        intro f
        simp only[jV,zb,not_or]at f
        simp only[gZ]
        rw[if_neg (fun e=>f.1 e.symm)]
        exact i f.2
      exact this m d.1
    . rw[if_neg h1]
      simp only[gZ]
      rw[if_neg h1]
  . rw[if_neg h]
    simp only[gZ,g d.2]
    by_cases h1:b=c
    . rw[if_pos h1,if_neg (fun e=>h (h1.trans e.symm)),if_pos h1]
    . rw[if_neg h1,if_neg h1]
theorem QJ{m:List (Int×γ)}{a:Int}{x:γ}(h:gZ m a=some x):(a,x)∈m:=by
 induction m with
 | nil=>simp[gZ]at h
 | cons p m c =>
  obtain⟨b,y⟩:=p
  simp only[gZ]at h
  split at h
  . rename_i e
    cases h
    subst e
    simp
  . exact lV _ (c h)
theorem Fm{m:List (Int×γ)}{a:Int}:gZ m a=none↔a∉m.map Prod.fst:=by
 induction m with
 | nil=>simp[gZ]
 | cons p m c =>
  obtain⟨b,y⟩:=p
  simp only[gZ,jV,zb,not_or]
  split
  . rename_i e
    simp[e]
  . rename_i e
    rw[c]
    exact⟨fun h=>⟨fun e' => e e'.symm,h⟩,fun h=>h.2⟩
theorem QK{m:List (Int×γ)}(c:(m.map Prod.fst).Nodup){a:Int}{x:γ}(h:(a,x)∈m):gZ m a=some x:=by
 induction m with
 | nil=>simp at h
 | cons p m d =>
  obtain⟨b,y⟩:=p
  simp only[jV,zu]at c
  simp only[gZ]
  rcases zb.1 h with e|h
  . cases e
    simp
  . rw[if_neg (fun e=>c.1 (by rw[e];exact z7.2 ⟨_,h,rfl⟩))]
    exact d c.2 h
theorem Qb(m:List (Int×γ))(a:Int)(x:γ):(gD m a x).map Prod.fst=if a∈m.map Prod.fst then m.map Prod.fst else m.map Prod.fst++[a]:=by
 induction m with
 | nil=>simp[gD]
 | cons p m d =>
  obtain⟨b,y⟩:=p
  simp only[gD]
  by_cases h:b=a
  . subst h
    simp
  . rw[if_neg h]
    simp only[jV,d,zb]
    by_cases h1:a∈m.map Prod.fst
    . rw[if_pos h1,if_pos (.inr h1)]
    . rw[if_neg h1,if_neg (fun c=>c.elim (fun e=>h e.symm) h1)]
      rfl
theorem CJ{m:List (Int×γ)}(b:(m.map Prod.fst).Nodup)(a:Int)(x:γ):((gD m a x).map Prod.fst).Nodup:=by
 rw[Qb]
 split
 . exact b
 . rename_i h
   rw[zr]
   exact⟨b,s_,fun c f d hd e=>by simp at hd;subst hd;subst e;exact h f⟩
theorem JH(m:List (Int×γ))(a:Int):(iZ m a).Sublist m:=by
 induction m with
 | nil=>exact List.Sublist.slnil
 | cons p m c =>
  obtain⟨b,y⟩:=p
  simp only[iZ]
  split
  . exact LH _ _
  . exact List.Sublist.cons_cons _ c
theorem Q3{m:List (Int×γ)}(b:(m.map Prod.fst).Nodup)(a:Int):((iZ m a).map Prod.fst).Nodup:=b.sublist ((JH m a).map _)
end
section
variable {γ:Type} {enc:γ->Value} {P:Program} {k k' : IntKind} {a:Int}
theorem ES(k k' : IntKind)(a:Int):∀ (es:List (Int×Value×Nat)) (m:List (Int×γ)) (i:Nat),es.map (fun e=>(e.1,e.2.1))=m.map (fun p=>(p.1,enc p.2)) ->
 (gZ m a=none/\Instr.findNow (.int k') (.int k a) (es.map (lg k)) i=some none/\(∀ y,gD m a y=m++[(a,y)])/\iZ m a=m) \/
 (∃ j x e,gZ m a=some x/\es[j]? = some e/\e.1=a/\Instr.findNow (.int k') (.int k a) (es.map (lg k)) i=some (some (i+j,enc x)) /\
  (∀ y,(es.set j (a,enc y,e.2.2)).map (fun e=>(e.1,e.2.1))=(gD m a y).map (fun p=>(p.1,enc p.2)))/\(es.eraseIdx j).map (fun e=>(e.1,e.2.1))=(iZ m a).map (fun p=>(p.1,enc p.2))):=by
 intro es
 induction es with
 | nil =>
  intro m i h
  cases m with
  | cons p m=>simp at h
  | nil=>exact .inl ⟨rfl,rfl,fun _=>rfl,rfl⟩
 | cons e es v =>
  intro m i h
  cases m with
  | nil=>simp at h
  | cons p m =>
   obtain⟨b,y⟩:=p
   simp only[jV,List.cons.injEq]at h
   obtain⟨q,n⟩:=h
   have c:e.1=b:=congrArg Prod.fst q
   have o:e.2.1=enc y:=congrArg Prod.snd q
   by_cases hb:b=a
   . refine .inr ⟨0,y,e,by simp[gZ,hb],rfl,c.trans hb,?_,fun s => ?_,?_⟩
     . have:(a==e.1)=true:=by rw[c,hb];simp
       simp only[jV,Instr.findNow,Instr.sameNow,if_true,this,o,qC]
     . simp[gD,hb,n]
     . simp[iZ,hb,n]
   . have r:(a==e.1)=false:=by
      rw[c]
      simp only[beq_eq_false_iff_ne,ne_eq]
      exact fun e' => hb e'.symm
     rcases v m (i+1) n with ⟨d,f,g,l⟩|⟨j,x,e', d,f,g,l,t,u⟩
     . refine .inl ⟨by simp[gZ,hb,d],?_,fun s => by simp[gD,hb,g],by simp[iZ,hb,l]⟩
       simp only[jV,Instr.findNow,Instr.sameNow,if_true,r]
       exact f
     . refine .inr ⟨j+1,x,e', by simp[gZ,hb,d],by simpa using f,g,?_,fun s => ?_,?_⟩
       . simp only[jV,Instr.findNow,Instr.sameNow,if_true,r]
         rw[l,kD,Nat.add_comm 1 j]
       . simp only[List.set_cons_succ,jV,t,gD,if_neg hb,c,o]
       . simp only[List.eraseIdx_cons_succ,jV,u,iZ,if_neg hb,c,o]
theorem abv{es:List (Int×Value×Nat)}{j:Nat}{e:Int×Value×Nat}{v:Value}(h:es[j]? = some e)(c:e.1=a) :
 ((es.map (lg k)).toArray.modify j fun q=>{ q with key:=.int k a,val:=v })=((es.set j (a,v,e.2.2)).map (lg k)).toArray:=by
 apply Array.ext'
 apply mM
 intro q
 simp only[Array.toList_modify,List.getElem?_modify,kR,si]
 by_cases hq:j=q
 . subst hq
   obtain⟨b,rfl⟩:=zg.1 h
   simp[b]
 . simp[hq]
theorem EK{α β:Type}(f:α->β):∀ (l:List α) (j:Nat),(l.map f).eraseIdx j=(l.eraseIdx j).map f
 | [],_=>rfl
 | _ :: _,0=>rfl
 | a :: l,j+1=>by simp[EK f l j]
theorem Yz{es:List (Int×Value×Nat)}{j:Nat}:((es.map (lg k)).toArray.eraseIdxIfInBounds j)=((es.eraseIdx j).map (lg k)).toArray:=by
 by_cases h:j<es.length
 . rw[Array.eraseIdxIfInBounds,dif_pos (by simpa using h)]
   simp[EK]
 . rw[Array.eraseIdxIfInBounds,dif_neg (by simpa using h),List.eraseIdx_of_length_le o_]
end
section
variable {γ:Type} {enc:γ->Value}
variable {r:Option Nat} {P:Program} {ops:Array Oper} {Q:Exit->Act->World->Prop} {rest l:List Oper} {n:Nat} {s s0:List (Nat×Value)} {ds:List Deferred} {w w0:World} {Nx:Value->World->Prop}
variable {d:Nat} {dd:Option Nat} {ty:TypeId} {pos:String} {af:Array Edge} {g:Option (Nat×Bool)} {x y m:Operand} {bs:List (World×List Nat)} {L L' : List fU} {t e kt:TypeId} {b sz by_:Nat} {k k' : IntKind} {mm:List (Int×γ)} {a:Int} {z v:Value} {c:γ}
theorem JG{i:Nat}(c:St bs L w)(a:L[i]? = some (gM b k enc mm)):b<w.heap.size:=c.lt b (rP a (by simp[gM]))
theorem uP{es:List (Int×Value×Nat)}{a:Nat}(h:w.heap[b]? = some (.map (es.map (lg k)).toArray a)):(getObj b).run P w = .ok (.map (es.map (lg k)).toArray a) w:=by
 simp[getObj,Sem.run,h]
theorem mkV{a : Option Operand}(enc:γ->Value)(k:IntKind)(c:gB ops n s g=true)(e:a = none)(f:St bs L w)
 (K:∀ b w', w.heap.size<=b->gx [] w w' -> St bs (gM b k enc [] :: L) w' -> WL r P ops Q rest (Fr n ((d,.map (some b)) :: s) ds) w') :
 WL r P ops Q (⟨some d,.makeMap t a, ty,pos,af,g⟩ :: rest) (Fr n s ds) w:=by
 subst e
 refine pv (v:=.map (some w.heap.size)) (w' := w.alloc (.map #[] 0)) c rfl ?_ (K _ _ (zk _) (gx.alloc [] w _) ?_)
 . simp only[execOp,Option.map_none,Instr.makeMap]
   rfl
 . exact f.sK (gx.alloc [] w _) (fun b hb=>by simp[gM]at hb;omega) (by simp[gM]) (fun b hb=>by simp[gM]at hb;simp;omega) ⟨[],0,heap_alloc_new w _,rfl,s_,s_⟩
section
variable [Inhabited γ]
theorem aaV(i:Nat)(hm:ev n s m = .map (some b))(l:ev n s x = .int k a)(h:P.underlying t=some (.map kt e))(hk:P.underlying kt=some (.int k'))(u:TI P e sz by_ z)(y:enc default=z)(v:St bs L w)(r:L[i]? = some (gM b k enc mm)) :
 (execOp (ev n s) ⟨dd,.lookup t m x true,ty,pos,af,g⟩).run P w = .ok (.value (.tuple #[enc (gh mm a),.bool (gZ mm a).isSome])) w:=by
 obtain⟨es,A,f,q,B,C⟩:(gM b k enc mm).holds w:=v.own _ (zd r)
 rcases ES k k' a es mm 0 q with ⟨c,o,_⟩|⟨j,D, e', c,_,_,p,_⟩
 . have d:=wG (P:=P) (w:=w) hk o
   simp only[execOp,hm,l,Instr.lookup,zw,run_underlying h,zp,jK,uP f,wF hk,d,u.zC]
   simp[gh,c,y]
 . have d:=wG (P:=P) (w:=w) hk p
   simp only[execOp,hm,l,Instr.lookup,zw,run_underlying h,zp,jK,uP f,wF hk,d]
   simp[gh,c]
theorem xQ(i:Nat)(hm:ev n s m = .map (some b))(l:ev n s x = .int k a)(h:P.underlying t=some (.map kt e))(hk:P.underlying kt=some (.int k'))(u:TI P e sz by_ z)(y:enc default=z)(v:St bs L w)(r:L[i]? = some (gM b k enc mm)) :
 (execOp (ev n s) ⟨dd,.lookup t m x false,ty,pos,af,g⟩).run P w = .ok (.value (enc (gh mm a))) w:=by
 obtain⟨es,A,f,q,B,C⟩:(gM b k enc mm).holds w:=v.own _ (zd r)
 rcases ES k k' a es mm 0 q with ⟨c,o,_⟩|⟨j,D, e', c,_,_,p,_⟩
 . have d:=wG (P:=P) (w:=w) hk o
   simp only[execOp,hm,l,Instr.lookup,zw,run_underlying h,zp,jK,uP f,wF hk,d,u.zC]
   simp[gh,c,y]
 . have d:=wG (P:=P) (w:=w) hk p
   simp only[execOp,hm,l,Instr.lookup,zw,run_underlying h,zp,jK,uP f,wF hk,d]
   simp[gh,c]
theorem aaU(i:Nat)(h:gB ops n s g=true)(hm:ev n s m = .map (some b))(o:ev n s x = .int k a)(l:P.underlying t=some (.map kt e))(hk:P.underlying kt=some (.int k'))(f:TI P e sz by_ z)(p:enc default=z)(j:St bs L w)(c:L[i]? = some (gM b k enc mm))
 (K:WL r P ops Q rest (Fr n ((d,.tuple #[enc (gh mm a),.bool (gZ mm a).isSome]) :: s) ds) w):WL r P ops Q (⟨some d,.lookup t m x true,ty,pos,af,g⟩ :: rest) (Fr n s ds) w:=pv h rfl (aaV i hm o l hk f p j c) K
theorem pM(i:Nat)(h:gB ops n s g=true)(hm:ev n s m = .map (some b))(o:ev n s x = .int k a)(l:P.underlying t=some (.map kt e))(hk:P.underlying kt=some (.int k'))(f:TI P e sz by_ z)(p:enc default=z)(j:St bs L w)(c:L[i]? = some (gM b k enc mm))
 (K:WL r P ops Q rest (Fr n ((d,enc (gh mm a)) :: s) ds) w):WL r P ops Q (⟨some d,.lookup t m x false,ty,pos,af,g⟩ :: rest) (Fr n s ds) w:=pv h rfl (xQ i hm o l hk f p j c) K
end
theorem aaO(i:Nat)(l:ev n s x = .map (some b))(j:P.underlying t=some (.map kt e))(h:St bs L w)(d:L[i]? = some (gM b k enc mm)) :
 (execOp (ev n s) ⟨dd,.call ⟨.builtin .len,#[x],#[t]⟩,ty,pos,af,g⟩).run P w = .ok (.value (.int .i64 (mm.length:Int))) w:=by
 obtain⟨es,m,a,c,o,p⟩:(gM b k enc mm).holds w:=h.own _ (zd d)
 have f:es.length=mm.length:=by have:=congrArg List.length c;simpa using this
 simp[execOp,resolve,invoke,builtin,l,Builtin.len_,run_underlying j,uP a,goInt,f]
theorem aby(i:Nat)(hm:ev n s m = .map (some b))(G:ev n s x = .int k a)(H:ev n s y=enc c)(F:P.underlying t=some (.map kt e))(hk:P.underlying kt=some (.int k'))(v:St bs L w)(u:L[i]? = some (gM b k enc mm))(M : L.set i (gM b k enc (gD mm a c))=L') :
 ∃ w', (execOp (ev n s) ⟨dd,.mapUpdate t m x y,ty,pos,af,g⟩).run P w = .ok .skip w' /\ St bs L' w' /\ gx [b] w w' := by
 subst M
 obtain⟨es,f,o,B,C,r⟩:(gM b k enc mm).holds w:=v.own _ (zd u)
 have D:=JG v u
 rcases ES k k' a es mm 0 B with ⟨I,d,l,_⟩|⟨j,T, e', I,d,l,J,K,_⟩
 . have A:=wG (P:=P) (w:=w) hk d
   have hp:((es.map (lg k)).toArray.push ⟨.int k a,enc c,f⟩)=((es++[(a,enc c,f)]).map (lg k)).toArray:=by simp
   refine⟨w.putObj b (.map ((es++[(a,enc c,f)]).map (lg k)).toArray (f+1)),?_,v.Fi u rfl rfl (fun w' h=>⟨_,_,h,by rw[l];simp[B],?_,?_⟩) D,B3 w _⟩
   . simp only[execOp,hm,G,H,Instr.mapUpdate,zw,run_underlying F,zp,jK,uP o,wF hk,A,hp,(FN o).1]
   . rw[sw,zr]
     refine⟨C,s_,fun q Q S E z => ?_⟩
     simp at E
     subst E z
     obtain⟨p,hp,R⟩:=z7.1 Q
     have:=r p hp
     omega
   . intro p hp
     rcases zm.1 hp with hp|hp
     . have:=r p hp;omega
     . simp at hp;subst hp;simp
 . have A:=wG (P:=P) (w:=w) hk J
   have N:((es.map (lg k)).toArray[j]?).map (·.key)=some (.int k a):=by simp[d,l]
   refine⟨w.putObj b (.map ((es.set j (a,enc c,e'.2.2)).map (lg k)).toArray f),?_,v.Fi u rfl rfl (fun w' h=>⟨_,_,h,K c,?_,?_⟩) D,B3 w _⟩
   . simp only[execOp,hm,G,H,Instr.mapUpdate,zw,run_underlying F,zp,jK,uP o,wF hk,A,lD,N,Dv,aam]
     rw[abv d l]
     simp only[(FN o).1,jK,zp]
   . have:(es.set j (a,enc c,e'.2.2)).map (fun e=>e.2.2)=es.map (fun e=>e.2.2):=by
      rw[List.map_set]
      have O:=(zg.1 d).1
      apply mM
      intro q
      rw[si]
      split
      . rename_i z
        subst z
        rw[if_pos (by simpa using O),kR,d]
        rfl
      . rfl
     rw[this]
     exact C
   . intro p hp
     rcases List.mem_or_eq_of_mem_set hp with hp|hp
     . exact r p hp
     . subst hp
       exact r e' (zd d)
theorem qm(i:Nat)(l:gB ops n s g=true)(hm:ev n s m = .map (some b))(q:ev n s x = .int k a)(u:ev n s y=enc c)(p:P.underlying t=some (.map kt e))(hk:P.underlying kt=some (.int k'))(o:St bs L w)(h:L[i]? = some (gM b k enc mm))(j : L.set i (gM b k enc (gD mm a c))=L')
 (K:∀ w', St bs L' w' -> WL r P ops Q rest (Fr n s ds) w'):WL r P ops Q (⟨none,.mapUpdate t m x y,ty,pos,af,g⟩ :: rest) (Fr n s ds) w:=by
 obtain⟨w', d,f,_⟩:=aby (dd:=none) (ty:=ty) (pos:=pos) (af:=af) (g:=g) i hm q u p hk o h j
 exact Dh l rfl d (K w' f)
theorem We{t' : TypeId}(i:Nat)(hm:ev n s m = .map (some b))(B:ev n s x = .int k a)(A:P.underlying t=some (.map kt e))(hk:P.underlying kt=some (.int k'))(f:St bs L w)(d:L[i]? = some (gM b k enc mm))(F : L.set i (gM b k enc (iZ mm a))=L') :
 ∃ w', (execOp (ev n s) ⟨dd,.call ⟨.builtin .delete,#[m,x],#[t,t']⟩,ty,pos,af,g⟩).run P w = .ok (.value (.tuple #[])) w' /\ St bs L' w' /\ gx [b] w w' := by
 subst F
 obtain⟨es,o,c,u,v,y⟩:(gM b k enc mm).holds w:=f.own _ (zd d)
 have z:=JG f d
 rcases ES k k' a es mm 0 u with ⟨C,q,_,r⟩|⟨j,G, e', C,q,r,D,_,E⟩
 . have l:=wG (P:=P) (w:=w) hk q
   refine⟨w.putObj b (.map (es.map (lg k)).toArray o),?_,f.Fi d rfl rfl (fun w' h=>⟨_,_,h,by rw[r];exact u,v,y⟩) z,B3 w _⟩
   simp only[execOp,resolve,invoke,builtin,zw,jK,zp,List.map_toArray,jV,DM,hm,B]
   simp only[Builtin.delete_]
   simp only[Bq,List.getElem?_cons_zero,List.getElem?_cons_succ,zw,run_underlying A,zp,uP c,wF hk,l,(FN c).1,jK]
 . have l:=wG (P:=P) (w:=w) hk D
   refine⟨w.putObj b (.map ((es.eraseIdx j).map (lg k)).toArray o),?_,f.Fi d rfl rfl (fun w' h=>⟨_,_,h,E,v.sublist ((LK _ _).map _),fun p hp=>y p ((LK _ _).subset hp)⟩) z,B3 w _⟩
   simp only[execOp,resolve,invoke,builtin,zw,jK,zp,List.map_toArray,jV,DM,hm,B]
   simp only[Builtin.delete_]
   simp only[Bq,List.getElem?_cons_zero,List.getElem?_cons_succ,zw,run_underlying A,zp,uP c,wF hk,l,lD]
   rw[Yz]
   simp only[(FN c).1,jK,zp]
theorem B7{t' : TypeId}(i:Nat)(j:gB ops n s g=true)(hm:ev n s m = .map (some b))(p:ev n s x = .int k a)(o:P.underlying t=some (.map kt e))(hk:P.underlying kt=some (.int k'))(l:St bs L w)(f:L[i]? = some (gM b k enc mm))(h : L.set i (gM b k enc (iZ mm a))=L')
 (K:∀ w', St bs L' w' -> WL r P ops Q rest (Fr n (kj dd (.tuple #[]) s) ds) w'):WL r P ops Q (⟨dd,.call ⟨.builtin .delete,#[m,x],#[t,t']⟩,ty,pos,af,g⟩ :: rest) (Fr n s ds) w:=by
 obtain⟨w', c,d,_⟩:=We (dd:=dd) (ty:=ty) (pos:=pos) (af:=af) (g:=g) (t' := t') i hm p o hk l f h
 exact TV j rfl c (by rw[zG];exact K w' d)
end
end Go.Sx
namespace Go.Sx
open Go
section
variable {P:Program} {w:World} {f:FuncId} {γ:Type} {b:Nat} {k:IntKind} {enc:γ->Value} {m:List (Int×γ)}
theorem Vs(h:Own (gM b k enc m) w)(l:∀ es g,w.heap[b]? = some (.map es g)->Calls P f #[.map (some b)] w fun e w' => e = .returned (.map (some w.heap.size))/\w' = w.alloc (.map es g)) :
 CR P f #[.map (some b)] w (fun r w' => ∃ b2,r = .map (some b2)/\fZ (gM b k enc m) w w' (gj [gM b k enc m,gM b2 k enc m])):=by
 obtain⟨es,d,i,j⟩:=h.holds
 have n:=St.Ji h
 refine Calls.mono (l _ _ i) ?_
 rintro e w' ⟨rfl,rfl⟩
 refine⟨_,rfl,w.heap.size,rfl,?_⟩
 have o:St [(w,(gM b k enc m).gG)] (gM w.heap.size k enc m :: [gM b k enc m]) (w.alloc (.map (es.map (lg k)).toArray d)) :=
  n.sK (gx.alloc [] w _) (fun c a=>by simp[gM]at a;omega) (by simp[gM]) (fun c a=>by simp[gM]at a;simp;omega) ⟨es,d,heap_alloc_new w _,j⟩
 exact St.Od (o.perm (List.Perm.swap _ _ _)) za
end
end Go.Sx
namespace Go.Sx
open Go
section
variable {r:Option Nat} {P:Program} {ops:Array Oper} {Q:Exit->Act->World->Prop} {rest:List Oper} {n:Nat} {s:List (Nat×Value)} {ds:List Deferred} {w:World}
variable {d:Nat} {dd:Option Nat} {ty t t' e kt:TypeId} {pos:String} {af:Array Edge} {g:Option (Nat×Bool)} {x y:Operand} {a:Option Nat} {c:Bool}
theorem adS(k:Nat)(b:P.underlying t=some (.map kt e)):(Op.equalIn (k+1) t (.map a) (.map none)).run P w = .ok a.isNone w:=by
 cases a<;>simp[Op.equalIn,run_underlying b]
theorem abK(f:ev n s x = .map a)(h:ev n s y = .map none)(d:P.underlying t=some (.map kt e))(b:(!a.isNone)=c) :
 (execOp (ev n s) ⟨dd,.binOp .neq t x y t', ty,pos,af,g⟩).run P w = .ok (.value (.bool c)) w:=by
 subst b
 simp[execOp,f,h,eqGuard,binOp,Op.equal,Op.maxDepth,adS 9999 d]
theorem Q0(f:gB ops n s g=true)(i:ev n s x = .map a)(j:ev n s y = .map none)(h:P.underlying t=some (.map kt e))(b:(!a.isNone)=c)
 (K:WL r P ops Q rest (Fr n ((d,.bool c) :: s) ds) w):WL r P ops Q (⟨some d,.binOp .neq t x y t', ty,pos,af,g⟩ :: rest) (Fr n s ds) w:=pw f (fun _=>abK i j h b) K
end
end Go.Sx
namespace Go.Sx
open Go
section
variable {r:Option Nat} {P:Program} {ops:Array Oper} {Q:Exit->Act->World->Prop} {rest:List Oper} {n:Nat} {s:List (Nat×Value)} {ds:List Deferred} {w:World}
variable {d:Nat} {dd:Option Nat} {ty t t' e:TypeId} {pos:String} {af:Array Edge} {g:Option (Nat×Bool)} {x y:Operand} {a:Addr} {sz by_:Nat} {z:Value}
theorem adT(k:Nat)(b:P.underlying t=some (.pointer e))(hi:TI P e (sz+1) by_ z):(Op.equalIn (k+1) t (.pointer (some a)) (.pointer (some a))).run P w = .ok true w:=by
 simp[Op.equalIn,run_underlying b,hi.size,sameAddr]
theorem Yw(c:ev n s x = .pointer (some a))(d:ev n s y = .pointer (some a))(b:P.underlying t=some (.pointer e))(hi:TI P e (sz+1) by_ z) :
 (execOp (ev n s) ⟨dd,.binOp .eql t x y t', ty,pos,af,g⟩).run P w = .ok (.value (.bool true)) w:=by
 simp[execOp,c,d,eqGuard,binOp,Op.equal,Op.maxDepth,adT 9999 b hi]
theorem Am(b:gB ops n s g=true)(f:ev n s x = .pointer (some a))(h:ev n s y = .pointer (some a))(c:P.underlying t=some (.pointer e))(hi:TI P e (sz+1) by_ z)
 (K:WL r P ops Q rest (Fr n ((d,.bool true) :: s) ds) w):WL r P ops Q (⟨some d,.binOp .eql t x y t', ty,pos,af,g⟩ :: rest) (Fr n s ds) w:=pw b (fun _=>Yw f h c hi) K
end
end Go.Sx
namespace Go.Sx
open Go
theorem H6{xs:List Nd}{q:Nat}:∀ {c:Cx} {j:Nat} {L:List Nat},At xs c j L q->Out xs q (lq c L)->∀ (k v:Nat),(jm c j)[k]? = some v ->
 (k<c.length->(jC xs v).2=true/\(jm c j)[k+1]? = some (fJ xs v).up)/\(k=c.length->jC xs v=(0,false))
 | [],j,L,h,ho,k,v,hk=>by
  cases k with
  | succ k=>simp[jm]at hk
  | zero =>
   simp[jm]at hk
   subst hk
   exact⟨fun h=>absurd h s_,fun _=>h.stop ho⟩
 | (d,g,s) :: c,j,L,h,ho,k,v,hk=>by
  obtain⟨f,i,l⟩:=h.step
  cases k with
  | zero =>
   simp[jm]at hk
   subst hk
   exact⟨fun _=>⟨by rw[f],by simp[jm,i]⟩,fun h=>absurd h s_⟩
  | succ k =>
   have m : (jm c g)[k]? = some v:=by simpa[jm]using hk
   have:=H6 l ho k v m
   refine⟨fun e=>?_,fun e=>this.2 (by simpa using e)⟩
   obtain⟨a,b⟩:=this.1 (by simpa using e)
   exact⟨a,by simpa[jm]using b⟩
theorem jE.PW{b xs:List Nd}{a t s:Tr}{O:Cx}{q g:Nat}{d:Bool}(h:jE b xs a O (l9 d t g s) q)(c:(fJ xs g).flip=false):jE b xs a ((d,g,s) :: O) t q :=
 ⟨h.rep,h.perm,h.ord,h.kl,h.other,fun f hm=>by
  rcases zb.1 hm with rfl|hm
  . exact c
  . exact h.flip f hm⟩
theorem Ln{i:Nat}{t:Tr}{w:List Nat}(h:Way i t w):∃ l r w', t = .nd l (w.headD 0) r/\w=w.headD 0 :: w' := by
 cases t with
 | nil=>exact h.elim
 | nd l j r =>
  rcases h with ⟨rfl,rfl⟩|⟨w', rfl,_⟩
  . exact⟨l,r,[],rfl,rfl⟩
  . exact⟨l,r,w', rfl,rfl⟩
theorem ahn{o xs:List Nd}{k U:Tr}{O:Cx}{q i j:Nat}{w:List Nat}(h:jE o xs k O U q)(x:k.mem.Nodup)(c:Way i U (j :: w)) :
 (w=[]->j=i/\∃ a b,jE o (jT xs j) k O (.nd a i b) q/\(fJ (jT xs j) i).flip=false)/\(w≠[]->∃ s p, jE o (jT xs j) k s p q/\Way i p w):=by
 obtain⟨l,r,w', e1,t⟩:=Ln c
 simp only[List.headD_cons]at e1 t
 subst e1
 obtain⟨l', m, v,hm,n⟩:=h.push x
 refine⟨fun e=>?_,fun e=>?_⟩
 . rcases c with ⟨rfl,_⟩|⟨y,g,c⟩
   . exact⟨rfl,l', m, hm,n⟩
   . cases g
     subst e
     rcases c with c|c<;>(obtain⟨_,_,_,_,u⟩:=Ln c;cases u)
 . rcases c with ⟨_,g⟩|⟨y,g,c⟩
   . cases g
     exact absurd rfl e
   . cases g
     have f:Way i l' w\/Way i m w:=by
      rcases v with ⟨rfl,rfl⟩|⟨rfl,rfl⟩
      . exact c
      . exact c.symm
     rcases f with f|f
     . exact⟨(true,j,m) :: O,l', jE.PW (d:=true) hm n,f⟩
     . exact⟨(false,j,l') :: O,m, jE.PW (d:=false) hm n,f⟩
theorem gf.push{xs:List Nd}(h:gf xs){i:Nat}(hi:i<xs.length):gf (jT xs i)/\(jT xs i).length=xs.length:=by
 unfold jT
 split
 . simp only
   obtain⟨y0,g⟩:∃ y,y=fN xs i (fun x=>{ x with flip:=false }):=⟨_,rfl⟩
   have k:gf y0:=g▸h.iJ hi fun x a b c d e=>⟨a,b,c,d,e⟩
   have l0:y0.length=xs.length:=by rw[g,gC]
   rw[<-g]
   obtain⟨y1,e1⟩:∃ y,y=fN y0 i (fun x=>{ x with k0:=(fJ y0 i).k1 }):=⟨_,rfl⟩
   have p:gf y1:=e1▸k.iJ o_ fun x a b c d e=>⟨k.k1 i o_,b,c,d,e⟩
   have r:y1.length=xs.length:=by rw[e1,gC,l0]
   rw[<-e1]
   obtain⟨y2,j⟩:∃ y,y=fN y1 i (fun x=>{ x with k1:=(fJ y0 i).k0 }):=⟨_,rfl⟩
   have q:(fJ y0 i).k0<y1.length:=by
    have:=k.k0 i o_
    omega
   have f:gf y2:=by
    rw[j]
    exact p.iJ o_ fun x a b c d e=>⟨a,q,c,d,e⟩
   have n:y2.length=xs.length:=by rw[j,gC,r]
   rw[<-j]
   obtain⟨o,m⟩:∃ y,y=(if (fJ y2 i).k0=0 then y2 else fN y2 (fJ y2 i).k0 (fun x=>{ x with flip := !(fJ y2 (fJ y2 i).k0).flip })):=⟨_,rfl⟩
   have l:gf o/\o.length=xs.length:=by
    rw[m]
    split
    . exact⟨f,n⟩
    . exact⟨f.iJ (f.k0 i o_) fun x a b c d e=>⟨a,b,c,d,e⟩,by rw[gC,n]⟩
   rw[<-m]
   split
   . exact l
   . exact⟨l.1.iJ (by have:=f.k1 i o_;omega) fun x a b c d e=>⟨a,b,c,d,e⟩,by rw[gC];exact l.2⟩
 . exact⟨h,rfl⟩
theorem jE.out{c xs:List Nd}{a U:Tr}{O:Cx}{q:Nat}(h:jE c xs a O U q)(g:Out c q a.mem):Out xs q (lq O U.mem):=by
 have hm:∀ j,j∈lq O U.mem↔j∈a.mem:=fun j=>by rw[<-pO];exact h.perm.mem_iff
 rcases g with e|⟨d,f,b⟩
 . exact .inl e
 . have e:=h.other q b
   refine .inr ⟨fun k=>d ?_,fun k=>f ?_,fun k=>b ((hm _).1 k)⟩
   . have:=(hm _).1 k
     simpa only[jf,e]using this
   . have:=(hm _).1 k
     simpa only[jf,e]using this
theorem jE.sides{r xs:List Nd}{k a b:Tr}{O:Cx}{q i:Nat}(h:jE r xs k O (.nd a i b) q)(t:k.mem.Nodup)(u:Out r q k.mem) :
 (O=[]/\jC xs i=(0,false))\/(∃ d p s,O=[(d,p,s)]/\jC xs i=(sd d,true)/\(fJ xs i).up=p/\jC xs p=(0,false)) \/
 (∃ d p s j g o c,O=(d,p,s) :: (j, g,o) :: c/\jC xs i=(sd d,true)/\(fJ xs i).up=p/\jC xs p=(sd j, true)):=by
 have e:=At.start h.rep (h.perm.nodup_iff.2 t)
 have f:=h.out u
 match O,e,f with
 | [],e,f=>exact .inl ⟨rfl,e.stop f⟩
 | [(d,p,s)],e,f =>
  obtain⟨l,m,n⟩:=e.step
  exact .inr (.inl ⟨d,p,s,rfl,l,m,n.stop f⟩)
 | (d,p,s) :: (j, g,o) :: c,e,f =>
  obtain⟨l,m,n⟩:=e.step
  exact .inr (.inr ⟨d,p,s,j, g,o, c,rfl,l,m,n.step.1⟩)
theorem adW{d a : Bool}(h:sd d=sd a):d=a := by cases d<;>cases a <;> first|rfl|cases h
end Go.Sx
namespace Go.Sx
open Go
section
variable {w:World} {bs:List (World×List Nat)} {L:List fU} {R R' : fU} {i j:Nat} {k:IntKind} {v:Value} {e:TypeId} {ys:List Int}
theorem YH:∀ {L:List fU} {i j:Nat},(iU L).Nodup->L[i]? = some R->L[j]? = some R' -> i≠j->∀ b∈R.gG,b∉R'.gG:=by
 intro L
 induction L with
 | nil=>intro i j _ h;simp at h
 | cons Q L f =>
  intro i j c hi a e b hb
  rw[lZ,zr]at c
  cases i with
  | zero =>
   simp at hi;subst hi
   cases j with
   | zero=>exact absurd rfl e
   | succ j=>exact fun d => c.2.2 b hb b (rP (i:=j) (by simpa using a) d) rfl
  | succ i =>
   cases j with
   | zero=>simp at a;subst a;exact fun d => c.2.2 b d b (rP (i:=i) (by simpa using hi) hb) rfl
   | succ j=>exact f c.2.1 (by simpa using hi) (by simpa using a) o_ b hb
theorem St.adB(h:St bs L w)(hi:L[i]? = some (ig k v e ys))(hk:∀ y∈ys,gX k y)(o:L[j]? = some R)(r:i≠j):Ints k (fun b=>b∉R.gG) w v ys:=by
 have c:w.ownsRow 0 e 1 v ys.length (ys.map (.int k)):=h.own _ (zd hi)
 rcases c.2 with ⟨rfl,l⟩|⟨a, f,cur,rfl,_,s,m,n,_⟩
 . have:ys=[]:=tT l
   subst this
   exact Sl.nil _ _ _ _
 . refine⟨_,f,rfl,m,n,fun q y d=>⟨a, 0,[.int k y],rfl,YH h.sep hi o r a (by simp[row,Value.ownBlock]),rfl,⟨rfl,hk y (zd d)⟩,fun p u hp=>?_⟩⟩
   cases p with
   | zero =>
    simp at hp
    subst hp
    have:=c.cells (g:=a) rfl q (.int k y) (by simp[d])
    rw[Addr.add_lit]at this
    simpa using this
   | succ p=>simp at hp
end
end Go.Sx
namespace Go.Sx
open Go
theorem SY{α:Type}{l:List α}{i:Nat}{x:α}(h:l[i]? = some x):l.take (i+1)=l.take i++[x]:=by rw[nY,h];rfl
theorem gf.rotate{xs:List Nd}(h:gf xs){i:Nat}(hi:i<xs.length):gf (iG xs i)/\(iG xs i).length=xs.length:=by
 have hp:=h.up i hi
 have j:=h.up _ hp
 unfold iG
 simp only
 obtain⟨y1,e1⟩:∃ y,y=(if (jC xs (fJ xs i).up).2=true then iX xs (fJ xs (fJ xs i).up).up (jC xs (fJ xs i).up).1 i else fN xs i (fun x=>{ x with up:=(fJ xs (fJ xs i).up).up })):=⟨_,rfl⟩
 have f:gf y1/\y1.length=xs.length:=by
  rw[e1]
  split
  . exact⟨h.ku j hi,EW _ _ _ _⟩
  . exact⟨h.iJ hi fun x a b c d e=>⟨a,b,j,d,e⟩,gC⟩
 rw[<-e1]
 obtain⟨k,g⟩:∃ k,k=(if (jC xs i).1=0 then(fJ y1 i).k1 else(fJ y1 i).k0):=⟨_,rfl⟩
 have n:k<y1.length:=by
  rw[g]
  split
  . exact f.1.k1 i o_
  . exact f.1.k0 i o_
 rw[<-g]
 have l:gf (iX y1 (fJ xs i).up (jC xs i).1 k):=f.1.ku o_ n
 have o:(iX y1 (fJ xs i).up (jC xs i).1 k).length=xs.length:=by rw[EW];exact f.2
 have m:gf (iX (iX y1 (fJ xs i).up (jC xs i).1 k) i (1-(jC xs i).1) (fJ xs i).up):=l.ku o_ o_
 have p:(iX (iX y1 (fJ xs i).up (jC xs i).1 k) i (1-(jC xs i).1) (fJ xs i).up).length=xs.length:=by rw[EW];exact o
 exact⟨(m.lK o_).lK (by rw[FH];omega),by rw[FH,FH];exact p⟩
theorem CW{xs:List Nd}(h:gf xs){i:Nat}(hi:i<xs.length):(iG xs i).length=xs.length:=(h.rotate hi).2
def lB(xs:List Nd)(P:List Nat)(k:Nat):List Nd:=(P.reverse.take k).foldl jT xs
theorem RT(xs:List Nd)(P:List Nat):lB xs P 0=xs:=by simp[lB]
theorem RS{xs:List Nd}{P:List Nat}{k j:Nat}(h:P.reverse[k]? = some j):lB xs P (k+1)=jT (lB xs P k) j:=by
 unfold lB
 rw[SY h,GP]
 rfl
theorem gf.lB{xs:List Nd}(h:gf xs){P:List Nat}(d:∀ j∈P,j<xs.length):∀ k,gf (Go.Sx.lB xs P k)/\(Go.Sx.lB xs P k).length=xs.length:=by
 intro k
 induction k with
 | zero=>rw[RT];exact⟨h,rfl⟩
 | succ k c =>
  cases hk:P.reverse[k]? with
  | none =>
   have:Go.Sx.lB xs P (k+1)=Go.Sx.lB xs P k:=by
    unfold Go.Sx.lB
    rw[nY,hk]
    simp
   rw[this]
   exact c
  | some j =>
   rw[RS hk]
   have e:j∈P:=by simpa using zd hk
   obtain⟨a,b⟩:=c.1.push (i:=j) (by rw[c.2];exact d j e)
   exact⟨a,by rw[b,c.2]⟩
theorem ahl{g:List Nd}{c:Tr}{q i:Nat}(n:c.mem.Nodup):∀ (w:List Nat) (xs:List Nd) (O:Cx) (U:Tr),jE g xs c O U q->Way i U w->∃ f a b,jE g (w.foldl jT xs) c f (.nd a i b) q/\(fJ (w.foldl jT xs) i).flip=false:=by
 intro w
 induction w with
 | nil =>
  intro xs O U h d
  obtain⟨_,_,_,_,e⟩:=Ln d
  cases e
 | cons j w p =>
  intro xs O U h d
  obtain⟨k,l⟩:=ahn h n d
  by_cases hw0:w=[]
  . obtain⟨rfl,a,b,hm,m⟩:=k hw0
    subst hw0
    exact⟨O,a,b,hm,m⟩
  . obtain⟨f, r, hm,o⟩:=l hw0
    exact p _ _ _ hm o
theorem acK{xs:List Nd}{c:Cx}{a b:Tr}{i q:Nat}(e:gO xs (jY c (.nd a i b)) q)(f:(jY c (.nd a i b)).mem.Nodup){k:Nat}(hk:k=(jm c i).length):∃ O a' d, jE xs (lB xs (jm c i) k) (jY c (.nd a i b)) O (.nd a' i d) q/\(fJ (lB xs (jm c i) k) i).flip=false:=by
 have:=ahl f _ xs [] _ (jE.start e) (ahm c a i b)
 unfold lB
 rw[u6 (by simp[hk])]
 exact this
theorem acd{xs:List Nd}{c:Cx}{a b:Tr}{i q:Nat}(e:gO xs (jY c (.nd a i b)) q):∀ j∈jm c i,j<xs.length:=by
 intro j d
 refine(e.qj j ?_).2
 rw[pO]
 refine CE.2 ?_
 rcases zb.1 d with rfl|d
 . exact .inl (by simp[Tr.mem])
 . obtain⟨f,g,rfl⟩:=z7.1 d
   exact .inr (JK g)
theorem N4:∀ (c:Cx) (L:List Nat),c.length+L.length<=(lq c L).length
 | [],L=>by simp[lq]
 | (d,g,s) :: c,L=>by
  have:=N4 c (jR d L g s)
  rw[lq]
  cases d<;>simp only[jR,cond_true,cond_false,zq,ze]at * <;> omega
theorem ab9{c:Cx}{a b:Tr}{i:Nat}:(jm c i).length=c.length+1/\c.length+1<=(jY c (.nd a i b)).mem.length:=by
 refine⟨by simp[jm],?_⟩
 rw[pO]
 have:=N4 c (Tr.nd a i b).mem
 simp only[Tr.mem,zq,ze]at *
 omega
section
variable {xs:List Nd} {c:Cx} {q j k v s:Nat} {L:List Nat} {i:Nat}
theorem Vn(h:At xs c i L q)(d:Out xs q (lq c L))(hk:(jm c i)[k]? = some v)(hs:jC xs v=(s,false)):k=c.length:=by
 have a:=H6 h d k v hk
 have b:=(zg.1 hk).1
 simp only[jm,ze,zo]at b
 by_cases h3:k<c.length
 . have:=(a.1 h3).1
   rw[hs]at this
   cases this
 . omega
theorem NH(h:At xs c i L q)(d:Out xs q (lq c L))(hk:(jm c i)[k]? = some v)(hs:jC xs v=(s,true)):k<c.length/\(jm c i)[k+1]? = some (fJ xs v).up:=by
 have a:=H6 h d k v hk
 have b:=(zg.1 hk).1
 simp only[jm,ze,zo]at b
 by_cases h3:k<c.length
 . exact⟨h3,(a.1 h3).2⟩
 . have:=a.2 o_
   rw[hs]at this
   cases this
end
abbrev gw(P:List Nat):List Int:=P.map (fun(x:Nat)=>(x:Int))
theorem JU{P:List Nat}{k j:Nat}(h:P[k]? = some j):gw (P.take k)++[(j:Int)]=gw (P.take (k+1)):=by
 rw[SY h,gw,gw,sw]
 rfl
theorem Ft{m:Nat}{P:List Nat}(h:∀ j∈P,j<m)(hm:m<=1000001):∀ y∈gw P,gX .i64 y:=by
 intro y b
 obtain⟨j,a,rfl⟩:=z7.1 b
 have:=h j a
 show (-9223372036854775808:Int)<=_/\_<=(9223372036854775807:Int)
 omega
theorem abE{P:List Nat}{k:Nat}{x:Int}(hk:k<(gw P).length)(h:(gw P)[(gw P).length-1-k]? = some x):∃ j,P.reverse[k]? = some j/\x=(j:Int):=by
 simp only[gw,zo,kR]at h hk
 rw[List.getElem?_reverse hk]
 cases h1:P[P.length-1-k]? with
 | none=>rw[h1]at h;cases h
 | some j =>
  rw[h1]at h
  simp at h
  exact⟨j,rfl,h.symm⟩
end Go.Sx
namespace Go.Sx
open Go
instance:Inhabited (Value×List Nat):=⟨(.slice none 0 0,[])⟩
abbrev IM:=List (Int×(Value×List Nat))
def jA(e:TypeId)(m:IM):fU:=gj (m.map fun p=>ig .i64 p.2.1 e (gw p.2.2))
theorem JQ{γ:Type}(m:List (Int×γ))(a:Int)(x:γ):(gD m a x).Perm ((a,x) :: iZ m a):=by
 induction m with
 | nil=>exact List.Perm.refl _
 | cons p m b =>
  obtain⟨c,y⟩:=p
  unfold gD iZ
  split
  . rename_i h
    exact List.Perm.refl _
  . rename_i h
    exact(List.Perm.cons _ b).trans (List.Perm.swap _ _ _)
theorem JO{γ:Type}{m:List (Int×γ)}{a:Int}{x:γ}(h:gZ m a=some x):m.Perm ((a,x) :: iZ m a):=by
 induction m with
 | nil=>simp[gZ]at h
 | cons p m d =>
  obtain⟨c,y⟩:=p
  unfold gZ at h
  unfold iZ
  split at h
  . rename_i b
    rw[if_pos b]
    cases h
    rw[b]
  . rename_i b
    rw[if_neg b]
    exact(List.Perm.cons _ (d h)).trans (List.Perm.swap _ _ _)
theorem QG{γ:Type}{m:List (Int×γ)}{a:Int}(h:gZ m a=none):iZ m a=m:=by
 induction m with
 | nil=>rfl
 | cons p m d =>
  obtain⟨c,y⟩:=p
  unfold gZ at h
  unfold iZ
  split at h
  . cases h
  . rename_i b
    rw[if_neg b,d h]
section
variable {bs:List (World×List Nat)} {L:List fU} {w:World} {e:TypeId} {m:IM} {a:Int}
theorem St.xG{a:IM}(h:St bs (jA e m :: L) w)(hp:m.Perm a):St bs (jA e a :: L) w :=
 St.pack _ _ ((St.unpack h).perm ((hp.map _).append_right _))
theorem St.Pj{p:Int×(Value×List Nat)}(h:St bs (jA e (p :: m) :: L) w):St bs (ig .i64 p.2.1 e (gw p.2.2) :: jA e m :: L) w:=by
 have a:St bs (([ig .i64 p.2.1 e (gw p.2.2)]++m.map fun p=>ig .i64 p.2.1 e (gw p.2.2))++L) w:=St.unpack h
 rw[mL]at a
 have b:=a.perm (L' := (m.map fun p=>ig .i64 p.2.1 e (gw p.2.2))++([ig .i64 p.2.1 e (gw p.2.2)]++L)) (by
  rw[<-mL,<-mL]
  exact List.Perm.append_right _ qB)
 exact(St.pack _ _ b).swap
theorem St.Ic{p:Int×(Value×List Nat)}(h:St bs (ig .i64 p.2.1 e (gw p.2.2) :: jA e m :: L) w):St bs (jA e (p :: m) :: L) w:=by
 have a:St bs ((m.map fun p=>ig .i64 p.2.1 e (gw p.2.2))++(ig .i64 p.2.1 e (gw p.2.2) :: L)) w:=St.unpack h.swap
 refine St.pack _ _ (a.perm ?_)
 show List.Perm _ (ig .i64 p.2.1 e (gw p.2.2) :: ((m.map fun p=>ig .i64 p.2.1 e (gw p.2.2))++L))
 exact tY
theorem St.YE(a:Int)(h:St bs (jA e m :: L) w):St bs (ig .i64 (gh m a).1 e (gw (gh m a).2) :: jA e (iZ m a) :: L) w:=by
 unfold gh
 cases hm:gZ m a with
 | none =>
  rw[QG hm]
  exact St.Eh h e 1
 | some x=>exact(h.xG (JO hm)).Pj
theorem St.YD{v:Value}{xs:List Nat}(h:St bs (ig .i64 v e (gw xs) :: jA e (iZ m a) :: L) w):St bs (jA e (gD m a (v,xs)) :: L) w :=
 (St.Ic (p:=(a,(v,xs))) h).xG (JQ m a (v,xs)).symm
theorem St.IV(h:St bs L w):St bs (jA e [] :: L) w:=St.pack [] L h
end
theorem CG(ds:List Nat)(i:Nat):gw (ds++[i])=gw ds++[(i:Int)]:=by simp[gw]
theorem JS(ds:List Nat)(i:Nat):(gw ds).eraseIdx i=gw (ds.eraseIdx i):=by
 rw[gw,GC,GC]
 simp[gw]
end Go.Sx
namespace Go.Sx
open Go
section
variable {γ:Type}
def lH(b r:Nat)(k:IntKind)(enc:γ->Value)(m todo:List (Int×γ))(cur:Option (Int×γ)):fU where
 gG:=[b,r]
 holds w:=∃ (es:List (Int×Value×Nat)) (a:Nat) (f:Array Nat) (c d:Nat),w.heap[b]? = some (.map (es.map (lg k)).toArray a)/\es.map (fun e=>(e.1,e.2.1))=m.map (fun p=>(p.1,enc p.2))/\(es.map (fun e=>e.2.2)).Nodup/\(∀ e∈es,e.2.2<a) /\
  w.heap[r]? = some (.mapIter (some b) c f d)/\c<=d/\c<=a/\(∀ e∈es,e.2.2<c) /\
  (es.filter fun e => !f.contains e.2.2).map (fun e=>(e.1,e.2.1))=todo.map (fun p=>(p.1,enc p.2)) /\
  ∀ p,cur=some p->d=a/\∃ (q:Array Nat) (e:Int×Value×Nat),f=q.push e.2.2/\e∈es/\e.1=p.1/\e.2.1=enc p.2
 loc w w' h hh:=by
  obtain⟨es,a,f,c,d,g,i,j,l,n,o⟩:=hh
  exact⟨es,a,f,c,d,(h b s_).trans g,i,j,l,(h r s_).trans n,o⟩
theorem YN{es:List (Int×Value×Nat)}{p:Nat->Bool}{e:Int×Value×Nat}(b:(es.map (fun e=>e.2.2)).Nodup)(a:e∈es)(hp:p e.2.2=true) :
 ∃ j,(es.filter fun x=>p x.2.2)[j]? = some e/\(es.filter fun x=>p x.2.2 && !(x.2.2==e.2.2))=(es.filter fun x=>p x.2.2).eraseIdx j:=by
 induction es with
 | nil=>simp at a
 | cons x es i =>
  simp only[jV,zu]at b
  rcases zb.1 a with rfl|a
  . refine⟨0,by simp[hp],?_⟩
    rw[qx,if_neg s_,qx,if_pos hp]
    simp only[List.eraseIdx_cons_zero]
    refine wZ fun y g=>?_
    have:y.2.2≠e.2.2:=fun h=>b.1 (by rw[<-h];exact z7.2 ⟨y,g,rfl⟩)
    simp[this]
  . obtain⟨j,c,d⟩:=i b.2 a
    have f:x.2.2≠e.2.2:=fun h=>b.1 (by rw[h];exact z7.2 ⟨e,a,rfl⟩)
    by_cases hx:p x.2.2=true
    . refine⟨j+1,by rw[qx,if_pos hx];simpa using c,?_⟩
      rw[qx,if_pos (by simp[hx,f]),qx,if_pos hx,List.eraseIdx_cons_succ,d]
    . refine⟨j,by rw[qx,if_neg hx];exact c,?_⟩
      rw[qx,if_neg (by simp[hx]),qx,if_neg hx,d]
end
section
variable {γ:Type} {enc:γ->Value}
variable {r:Option Nat} {P:Program} {ops:Array Oper} {Q:Exit->Act->World->Prop} {rest l:List Oper} {n:Nat} {s s0:List (Nat×Value)} {ds:List Deferred} {w w0:World} {Nx:Value->World->Prop}
variable {d:Nat} {dd:Option Nat} {ty:TypeId} {pos:String} {af:Array Edge} {g:Option (Nat×Bool)} {x y m:Operand} {bs:List (World×List Nat)} {L L' : List fU} {t e kt:TypeId} {b rb:Nat} {k k' : IntKind} {mm todo:List (Int×γ)} {a:Int} {z v:Value} {c:γ} {cur:Option (Int×γ)}
theorem R7(i:Nat)(x:gB ops n s g=true)(hm:ev n s m = .map (some b))(z:P.underlying t=some (.map kt e))(j:St bs L w)(h:L[i]? = some (gM b k enc mm))
 (K:∀ rb w', St bs (L.set i (lH b rb k enc mm mm none)) w' -> WL r P ops Q rest (Fr n ((d,.pointer (some ⟨rb,0,none⟩)) :: s) ds) w'):WL r P ops Q (⟨some d,.range t m,ty,pos,af,g⟩ :: rest) (Fr n s ds) w:=by
 obtain⟨es,a,l,o,u,q⟩:(gM b k enc mm).holds w:=j.own _ (zd h)
 have y:=JG j h
 refine pv (v:=.pointer (some ⟨w.heap.size,0,none⟩)) (w' := w.alloc (.mapIter (some b) a #[] a)) x rfl ?_ (K _ _ ?_)
 . simp only[execOp,hm,zw,run_range_map w t kt e b _ a z l,zp,jK]
 . refine j.iJ h (gx.alloc _ w _) (fun c f=>?_) ?_ (fun c f=>?_) ?_
   . simp[lH]at f
     rcases f with rfl|rfl
     . exact .inl (by simp[gM])
     . exact .inr (zk _)
   . simp[lH];omega
   . simp[lH]at f
     simp only[World.alloc,Array.size_push]
     omega
   . exact⟨es,a,#[],a,a,(heap_alloc_old w _ y).trans l,o,u,q,heap_alloc_new w _,zk _,zk _,q,by rw[tV.2 s_];exact o,fun p hp=>by cases hp⟩
theorem St.QD{i:Nat}(e:St bs L w)(d:L[i]? = some (lH b rb k enc mm todo cur)):St bs (L.set i (gM b k enc mm)) w:=by
 obtain⟨es,f,o,n,m,g,h,j,l,_⟩:(lH b rb k enc mm todo cur).holds w:=e.own _ (zd d)
 refine e.iJ d (gx.refl _ w) (fun c a=>.inl ?_) (by simp[gM]) (fun c a=>?_) ⟨es,f,g,h,j,l⟩
 . simp[gM]at a
   simp[lH,a]
 . refine e.lt c (rP d ?_)
   simp[gM]at a
   simp[lH,a]
structure Uf (P:Program) (bs:List (World×List Nat)) (L:List fU) (i b rb:Nat) (k:IntKind) (enc:γ->Value) (mm todo todo2:List (Int×γ)) (p:Int×γ) (w w' : World):Prop where
 run:∀ ty,(Instr.next (.pointer (some ⟨rb,0,none⟩)) false ty).run P w = .ok (.tuple #[.bool true,.int k p.1,enc p.2]) w'
 st:St bs (L.set i (lH b rb k enc mm todo2 (some p))) w'
 perm:todo.Perm (p :: todo2)
theorem QE(P:Program){i:Nat}(s:St bs L w)(r:L[i]? = some (lH b rb k enc mm todo cur)) :
 (todo=[]/\∀ ty,(Instr.next (.pointer (some ⟨rb,0,none⟩)) false ty).run P w = .ok (.tuple #[.bool false]) w)\/∃ p ag w', Uf P bs L i b rb k enc mm todo ag p w w' := by
 obtain⟨es,f,d,m,D,t,X,E,Y,u,F,G, H,o,h9⟩:(lH b rb k enc mm todo cur).holds w:=s.own _ (zd r)
 have hb:b<w.heap.size:=s.lt b (rP r (by simp[lH]))
 have ad:rb<w.heap.size:=s.lt rb (rP r (by simp[lH]))
 have N:b≠rb:=by
  rintro rfl
  rw[t]at u
  cases u
 have O:∀ x∈(es.map (lg k)).toArray.toList,x.born<m:=by
  intro x C
  simp at C
  obtain⟨a,v,q,hm,rfl⟩:=C
  exact H _ hm
 have B:(leftOf (es.map (lg k)).toArray d).toList=(es.filter fun e => !d.contains e.2.2).map (lg k):=by
  unfold leftOf
  simp only[Array.toList_filter,List.filter_map]
  rfl
 by_cases h0:todo=[]
 . left
   subst h0
   refine⟨rfl,fun ty=>?_⟩
   have z:(leftOf (es.map (lg k)).toArray d).size=0:=by
    rw[<-r8,B,zo]
    have:=congrArg List.length o
    simpa using this
   rcases run_next_at (P:=P) w ty rb b m D d _ f u t O F with ⟨_,h⟩|⟨e,n,_⟩
   . exact h
   . rw[Array.eq_empty_of_size_eq_zero z]at n
     simp at n
 . right
   have af:∃ e∈(leftOf (es.map (lg k)).toArray d).toList,∃ w1:World,(w1=w\/w1=w.drew)/\∀ ty,(Instr.next (.pointer (some ⟨rb,0,none⟩)) false ty).run P w = .ok (.tuple #[.bool true,e.key,e.val]) (Go.ChangeMaps.setBlock w1 rb (.mapIter (some b) m (d.push e.born) f)):=by
    rcases run_next_at (P:=P) w 0 rb b m D d _ f u t O F with ⟨z,_⟩|⟨e,n,w1,y,hr⟩
    . exfalso
      rw[<-r8,B,zo]at z
      have g:=congrArg List.length o
      rw[zo,zo,z]at g
      exact h0 (GI.1 g.symm)
    . exact⟨e,n,w1,y,fun ty=>hr⟩
   obtain⟨e9,J,w1,y,ae⟩:=af
   rw[B]at J
   obtain⟨e,n,rfl⟩:=z7.1 J
   obtain⟨K,aa⟩:=z8.1 n
   obtain⟨j,M,ab⟩:=YN (p:=fun q => !d.contains q) E K aa
   have ah:=(zg.1 M).1
   have ac:=congrArg List.length o
   rw[zo,zo]at ac
   have hp:todo[j]? = some (todo[j]'o_):=zj o_
   generalize (todo[j]'o_)=p at hp
   have S:(e.1,e.2.1)=(p.1,enc p.2):=by
    have g:=congrArg (fun l=>l[j]?) o
    simp only[kR,M,hp,w5]at g
    exact Option.some.inj g
   have Q:e.1=p.1:=congrArg Prod.fst S
   have R:e.2.1=enc p.2:=congrArg Prod.snd S
   have T:w1.heap=w.heap:=by rcases y with rfl|rfl<;>rfl
   have Z:gx [] w w1:=by
    rcases y with rfl|rfl
    . exact gx.refl _ _
    . exact gx.drew _ _
   have I:gx (lH b rb k enc mm todo cur).gG w (Go.ChangeMaps.setBlock w1 rb (.mapIter (some b) m (d.push e.2.2) f)) :=
    (Z.mono s_).trans ((Vc (b:=rb) w1 _).mono (by simp[lH]))
   refine⟨p,todo.eraseIdx j,Go.ChangeMaps.setBlock w1 rb (.mapIter (some b) m (d.push e.2.2) f),⟨fun ty=>?_,?_,?_⟩⟩
   . rw[ae ty]
     simp only[Q,R]
   . refine s.iJ r I (fun c A=>.inl A) ?_ (fun c A=>?_) ?_
     . simp[lH,N]
     . exact nX (s.lt c (rP r A)) I.size
     . refine⟨es,f,d.push e.2.2,m,f,?_,X,E,Y,?_,G, G, H,?_,fun q hq=>?_⟩
       . show (w1.heap.setIfInBounds rb _)[b]? = _
         rw[T,Array.getElem?_setIfInBounds_ne (Ne.symm N)]
         exact t
       . show (w1.heap.setIfInBounds rb _)[rb]? = _
         rw[T]
         simp[ad]
       . have:(es.filter fun x => !(d.push e.2.2).contains x.2.2)=(es.filter fun x => !d.contains x.2.2 && !(x.2.2==e.2.2)):=by
          refine wZ fun x C=>?_
          rw[Array.contains_push,Bool.not_or]
         rw[this,ab,<-EK,o,EK]
       . cases hq
         exact⟨rfl,d,e,rfl,K,Q,R⟩
   . have g:=(zg.1 hp)
     obtain⟨U,V⟩:=g
     have W:todo=todo.take j++p :: todo.drop (j+1):=by
      rw[<-V,<-Bt U,u9]
     rw[GC]
     exact(List.Perm.of_eq W).trans tY
theorem Fw{w' : World}{u:Value}(a:gB ops n s g=true)(b:ev n s x=v)(h:(Instr.next v false ty).run P w = .ok u w')(K:WL r P ops Q rest (Fr n ((d,u) :: s) ds) w'):WL r P ops Q (⟨some d,.next x false,ty,pos,af,g⟩ :: rest) (Fr n s ds) w :=
 pv a rfl (by simp only[execOp,b,zw,h,zp,jK]) K
theorem Oc{p:Int×γ}(i:Nat)(q:gB ops n s g=true)(y:ev n s x = .pointer (some ⟨rb,0,none⟩))(v:St bs L w)(l:L[i]? = some (lH b rb k enc mm todo (some p)))
 (K:WL r P ops Q rest (Fr n ((d,.tuple #[.int k p.1,enc p.2]) :: s) ds) w):WL r P ops Q (⟨some d,.entry x,ty,pos,af,g⟩ :: rest) (Fr n s ds) w:=by
 obtain⟨es,B,I,z,a,c,C,f,D,h,E,F, G,H,j⟩:(lH b rb k enc mm todo (some p)).holds w:=v.own _ (zd l)
 obtain⟨rfl,A,e,rfl,o,t,u⟩:=j p rfl
 have m:=run_entry_at (P:=P) w rb b z A (es.map (lg k)).toArray a (lg k e) h c (by simp only[z7];exact⟨e,o,rfl⟩) (by rw[List.map_map];exact f)
 refine pv q rfl (by simp only[execOp,y,zw,m,zp,jK,t,u]) K
end
end Go.Sx
namespace Go.Sx
open Go
theorem abn{γ:Type}{m c:List (Int×γ)}{a:Int}:gZ (m++c) a=if gZ m a=none then gZ c a else gZ m a:=by
 induction m with
 | nil=>simp[gZ]
 | cons p m d =>
  obtain⟨b,y⟩:=p
  simp only[ng,gZ]
  split
  . simp
  . exact d
structure o5 (im0 dn todo dn2 im2:IM):Prop where
 perm:(dn++todo).Perm im0
 same:dn2.map (fun p=>(p.1,p.2.2))=dn.map (fun p=>(p.1,p.2.2))
 keys:(im2.map Prod.fst).Nodup
 get:∀ a,gZ im2 a=if gZ dn2 a=none then gZ im0 a else gZ dn2 a
theorem o5.start{b:IM}(h:(b.map Prod.fst).Nodup):o5 b [] b [] b:=⟨List.Perm.refl _,rfl,h,fun a=>by simp[gZ]⟩
theorem o5.Qa{c a todo b im2:IM}(h:o5 c a todo b im2):b.map Prod.fst=a.map Prod.fst:=by
 have:=congrArg (List.map Prod.fst) h.same
 rw[List.map_map,List.map_map]at this
 exact this
theorem o5.nodup{b a todo c im2:IM}(h:o5 b a todo c im2)(d:(b.map Prod.fst).Nodup):((a++todo).map Prod.fst).Nodup:=((h.perm.map Prod.fst).nodup_iff).2 d
theorem o5.next{d b todo e c im2:IM}{p:Int×(Value×List Nat)}(h:o5 d b todo c im2)(g:(d.map Prod.fst).Nodup)(hp:todo.Perm (p :: e))(v:Value) :
 o5 d (b++[p]) e (c++[(p.1,(v,p.2.2))]) (gD im2 p.1 (v,p.2.2)):=by
 have j:(b++[p]++e).Perm (b++todo):=by
  rw[mL]
  exact(hp.symm.append_left b)
 have f:=h.nodup g
 have i:gZ c p.1=none:=by
  rw[Fm,h.Qa]
  intro hm
  rw[sw,zr]at f
  exact f.2.2 _ hm p.1 (z7.2 ⟨p,hp.mem_iff.2 s_,rfl⟩) rfl
 refine⟨j.trans h.perm,?_,CJ h.keys _ _,fun a=>?_⟩
 . rw[sw,sw,h.same]
   rfl
 . rw[wj,abn,h.get]
   by_cases ha:p.1=a
   . subst ha
     simp[i,gZ]
   . simp only[if_neg ha,gZ]
     split<;>simp_all
theorem o5.at{a b todo f c im2:IM}{p:Int×(Value×List Nat)}(h:o5 a b todo c im2)(d:(a.map Prod.fst).Nodup)(hp:todo.Perm (p :: f)):(gh a p.1).2=p.2.2:=by
 have e:(p.1,p.2)∈a:=h.perm.mem_iff.1 (wW _ (hp.mem_iff.2 s_))
 unfold gh
 rw[QK d e]
 rfl
theorem QL{γ:Type}{m b:List (Int×γ)}(hp:m.Perm b)(h:(m.map Prod.fst).Nodup)(a:Int):gZ m a=gZ b a:=by
 have c:(b.map Prod.fst).Nodup:=((hp.map Prod.fst).nodup_iff).1 h
 cases hm:gZ m a with
 | some x=>exact(QK c (hp.mem_iff.1 (QJ hm))).symm
 | none =>
  rw[Fm]at hm
  symm
  rw[Fm]
  intro d
  exact hm (((hp.map Prod.fst).mem_iff).2 d)
theorem Rx{γ:Type}:∀ {m c:List (Int×γ)},(m.map Prod.fst).Nodup->(c.map Prod.fst).Nodup->(∀ a,gZ m a=gZ c a)->m.Perm c
 | [],c,_,_,h=>by
  cases c with
  | nil=>exact List.Perm.refl _
  | cons p c=>have:=h p.1;obtain⟨b,y⟩:=p;simp[gZ]at this
 | p :: m,c,h1,h2,h=>by
  obtain⟨b,y⟩:=p
  have hb:gZ c b=some y:=by rw[<-h b];simp[gZ]
  have g:=JO hb
  have f:=Q3 h2 b
  simp only[jV,zu]at h1
  refine(List.Perm.cons _ (Rx h1.2 f fun a=>?_)).trans g.symm
  rw[JN h2]
  have d:=h a
  simp only[gZ]at d
  split
  . rename_i e
    subst e
    exact Fm.2 h1.1
  . rename_i e
    rw[if_neg e]at d
    exact d
theorem QM{d c:IM}(h:c.map (fun p=>(p.1,p.2.2))=d.map (fun p=>(p.1,p.2.2)))(a:Int):(gZ c a=none↔gZ d a=none)/\(gh c a).2=(gh d a).2:=by
 induction d generalizing c with
 | nil =>
  cases c with
  | nil=>exact⟨Iff.rfl,rfl⟩
  | cons q c=>simp at h
 | cons p d g =>
  cases c with
  | nil=>simp at h
  | cons q c =>
   simp only[jV,List.cons.injEq,Prod.mk.injEq]at h
   obtain⟨⟨e1,e⟩,f⟩:=h
   obtain⟨b,v,xs⟩:=p
   obtain⟨b2,v2,i⟩:=q
   simp only at e1 e
   subst e1 e
   have:=g f
   unfold gh at this ⊢
   simp only[gZ]
   split
   . simp
   . exact this
theorem o5.fin{b d todo e im2:IM}(h:o5 b d todo e im2)(j:(b.map Prod.fst).Nodup)(n:todo=[]) :
 d.Perm b/\e.Perm im2/\(im2.map Prod.fst).Nodup/\∀ a,(gZ im2 a=none↔gZ b a=none)/\(gh im2 a).2=(gh b a).2:=by
 subst n
 have hp:d.Perm b:=by simpa using h.perm
 have f:(d.map Prod.fst).Nodup:=((hp.map Prod.fst).nodup_iff).2 j
 have m:(e.map Prod.fst).Nodup:=by rw[h.Qa];exact f
 have g:∀ a,gZ e a=gZ im2 a:=by
  intro a
  rw[h.get]
  split
  . rename_i i
    rw[i]
    have c:=((QM h.same a).1).1 i
    rw[QL hp f a]at c
    exact c.symm
  . rfl
 refine⟨hp,Rx m h.keys g,h.keys,fun a=>?_⟩
 have c:=QM h.same a
 have k:=QL hp f a
 have l:=g a
 unfold gh at c ⊢
 rw[<-l,<-k]
 exact c
theorem CX{v:Value}{e:TypeId}{cf:Nat->List Value}(b:∀ x:Nat,cf x=[.int .i64 (x:Int)])(ds:List Nat):fL cf v e 1 ds=ig .i64 v e (gw ds):=by
 have a:ds.flatMap cf=(gw ds).map (.int .i64):=by
  unfold gw
  induction ds with
  | nil=>rfl
  | cons d ds c=>simp[b,c]
 show row v e 1 ds.length _=row v e 1 (gw ds).length _
 rw[a,show (gw ds).length=ds.length by simp[gw]]
theorem St.adC{bs:List (World×List Nat)}{L:List fU}{w:World}{v:Value}{e:TypeId}{ds:List Nat}{cf:Nat->List Value}(a:∀ x:Nat,cf x=[.int .i64 (x:Int)])(h:St bs (ig .i64 v e (gw ds) :: L) w):St bs (fL cf v e 1 ds :: L) w:=by
 rw[CX a]
 exact h
theorem St.Sg {bs:List (World×List Nat)}{L:List fU}{w:World}{v:Value}{e:TypeId}{ds:List Nat}{cf:Nat->List Value}(a:∀ x:Nat,cf x=[.int .i64 (x:Int)])(h:St bs (fL cf v e 1 ds :: L) w):St bs (ig .i64 v e (gw ds) :: L) w:=by
 rw[CX a]at h
 exact h
end Go.Sx
namespace Go.Sx
open Go
structure gE where
 ix:Nat
 key:Int
 deriving Inhabited
def gE.cells(x:gE):List Value:=[.int .i64 x.ix,.int .i64 x.key]
def iD(a b:gE):Prop:=a.key<b.key\/a.key=b.key/\a.ix<b.ix
instance (a b:gE):Decidable (iD a b):=by unfold iD;infer_instance
theorem CD(a:gE):¬ iD a a:=by unfold iD;omega
theorem JC{a b c:gE}(h:iD a b)(k:iD b c):iD a c:=by unfold iD at *;omega
theorem QC{a b:gE}(h:iD a b):¬ iD b a:=by unfold iD at *;omega
theorem Fv{a b c:gE}(h:¬ iD a b)(k:¬ iD b c):¬ iD a c:=by unfold iD at *;omega
def qo(a b:gE):Int:=if a.key<b.key then -1 else if b.key<a.key then 1 else if a.ix<b.ix then -1 else if b.ix<a.ix then 1 else 0
theorem nN{a b:gE}:qo a b<0↔iD a b:=by
 unfold qo iD
 (repeat' split)<;>constructor<;>intro h<;>omega
abbrev pa(p:Nat):Nat:=(p-1) / 2
def Ord(xs:List gE):Prop:=∀ j,0<j->j<xs.length->¬ iD (fJ xs j) (fJ xs (pa j))
structure s8 (xs:List gE) (p:Nat):Prop where
 rest:∀ j,0<j->j<xs.length->j≠p->pa j≠p->¬ iD (fJ xs j) (fJ xs (pa j))
 kids:0<p->∀ j,0<j->j<xs.length->pa j=p->¬ iD (fJ xs j) (fJ xs (pa p))
structure ua (xs:List gE) (p:Nat):Prop where
 rest:∀ j,0<j->j<xs.length->pa j≠p->¬ iD (fJ xs j) (fJ xs (pa j))
 kids:0<p->∀ j,0<j->j<xs.length->pa j=p->¬ iD (fJ xs j) (fJ xs (pa p))
def iF(xs:List gE)(p q:Nat):List gE:=fN (fN xs p (fun _=>fJ xs q)) q (fun _=>fJ xs p)
theorem mJ(xs:List gE)(p q:Nat):(iF xs p q).length=xs.length:=by simp[iF,gC]
theorem Ba{xs:List gE}{p q:Nat}(hp:p<xs.length)(a:q<xs.length)(j:Nat):fJ (iF xs p q) j=if q=j then fJ xs p else if p=j then fJ xs q else fJ xs j:=by
 unfold iF
 rw[iS (by rw[gC];exact a),iS hp]
theorem s8.up{xs:List gE}{p:Nat}(h:s8 xs p)(i:0<p)(hp:p<xs.length)(n:iD (fJ xs p) (fJ xs (pa p))):s8 (iF xs p (pa p)) (pa p):=by
 have q:pa p<p:=by simp only[pa];omega
 have hs:=Ba hp (show pa p<xs.length by omega)
 refine⟨fun j b a l d=>?_,fun f j b a e=>?_⟩
 . rw[mJ]at a
   rw[hs,hs]
   by_cases e1:p=j
   . subst e1;exact absurd rfl d
   . rw[if_neg (fun e=>l e.symm),if_neg e1,if_neg (fun e=>d e.symm)]
     by_cases e2:p=pa j
     . rw[if_pos e2]
       exact h.kids i j b a e2.symm
     . rw[if_neg e2]
       exact h.rest j b a (fun e=>e1 e.symm) (fun e=>e2 e.symm)
 . rw[mJ]at a
   have o:pa (pa p)<pa p:=by simp only[pa]at f ⊢;omega
   have m:fJ (iF xs p (pa p)) (pa (pa p))=fJ xs (pa (pa p)):=by rw[hs,if_neg o_,if_neg o_]
   have g:¬ iD (fJ xs (pa p)) (fJ xs (pa (pa p))):=h.rest (pa p) f o_ o_ o_
   rw[m,hs]
   have k:pa p≠j:=fun e' => by rw[<-e']at e;simp only[pa]at *;omega
   rw[if_neg k]
   by_cases e1:p=j
   . rw[if_pos e1];exact g
   . rw[if_neg e1]
     have c:=h.rest j b a (fun e=>e1 e.symm) o_
     rw[e]at c
     exact Fv c g
theorem s8.stop{xs:List gE}{p:Nat}(h:s8 xs p)(d:¬ (0<p/\iD (fJ xs p) (fJ xs (pa p)))):ua xs p:=by
 refine⟨fun j a b f=>?_,h.kids⟩
 by_cases e:j=p
 . subst e
   exact fun c=>d ⟨a,c⟩
 . exact h.rest j a b e f
def jy(xs:List gE)(p:Nat):Nat :=
 let f:=if 2*p+1<xs.length/\iD (fJ xs (2*p+1)) (fJ xs p)then 2*p+1 else p
 if 2*p+2<xs.length/\iD (fJ xs (2*p+2)) (fJ xs f)then 2*p+2 else f
theorem Ro{j p:Nat}(a:0<j):pa j=p↔j=2*p+1\/j=2*p+2:=by simp only[pa];omega
theorem UW{xs:List gE}{p:Nat}(h:jy xs p=p):∀ j,0<j->j<xs.length->pa j=p->¬ iD (fJ xs j) (fJ xs p):=by
 intro j c b e
 unfold jy at h
 simp only at h
 rcases(Ro c).1 e with rfl|rfl
 . intro a
   rw[if_pos (show 2*p+1<xs.length/\_ from⟨b,a⟩)]at h
   split at h<;>omega
 . intro a
   by_cases h1:2*p+1<xs.length/\iD (fJ xs (2*p+1)) (fJ xs p)
   . rw[if_pos h1]at h
     split at h<;>omega
   . rw[if_neg h1,if_pos ⟨b,a⟩]at h
     omega
theorem Nl{xs:List gE}{p:Nat}(h:jy xs p≠p):jy xs p<xs.length/\p<jy xs p/\pa (jy xs p)=p/\iD (fJ xs (jy xs p)) (fJ xs p)/\∀ j,0<j->j<xs.length->pa j=p->¬ iD (fJ xs j) (fJ xs (jy xs p)):=by
 have c:∀ j,0<j->j<xs.length->pa j=p->j=2*p+1\/j=2*p+2:=fun j g _ e=>(Ro g).1 e
 have f:jy xs p=(if 2*p+2<xs.length/\iD (fJ xs (2*p+2)) (fJ xs (if 2*p+1<xs.length/\iD (fJ xs (2*p+1)) (fJ xs p)then 2*p+1 else p))then 2*p+2 else(if 2*p+1<xs.length/\iD (fJ xs (2*p+1)) (fJ xs p)then 2*p+1 else p)):=rfl
 rw[f]at h ⊢
 by_cases h1:2*p+1<xs.length/\iD (fJ xs (2*p+1)) (fJ xs p)
 . rw[if_pos h1]at h ⊢
   by_cases h2:2*p+2<xs.length/\iD (fJ xs (2*p+2)) (fJ xs (2*p+1))
   . rw[if_pos h2]at h ⊢
     refine⟨h2.1,o_,by simp only[pa];omega,JC h2.2 h1.2,fun j b a e=>?_⟩
     rcases c j b a e with rfl|rfl
     . exact QC h2.2
     . exact CD _
   . rw[if_neg h2]at h ⊢
     refine⟨h1.1,o_,by simp only[pa];omega,h1.2,fun j b a e=>?_⟩
     rcases c j b a e with rfl|rfl
     . exact CD _
     . exact fun d=>h2 ⟨a,d⟩
 . rw[if_neg h1]at h ⊢
   by_cases h2:2*p+2<xs.length/\iD (fJ xs (2*p+2)) (fJ xs p)
   . rw[if_pos h2]at h ⊢
     refine⟨h2.1,o_,by simp only[pa];omega,h2.2,fun j b a e=>?_⟩
     rcases c j b a e with rfl|rfl
     . intro d
       exact h1 ⟨a,JC d h2.2⟩
     . exact CD _
   . rw[if_neg h2]at h
     exact absurd rfl h
theorem ua.down{xs:List gE}{p c:Nat}(h:ua xs p)(g:jy xs p=c)(l:c≠p):ua (iF xs p c) c:=by
 subst g
 obtain⟨f,o,d,i,k⟩:=Nl l
 generalize jy xs p=c at *
 have hs:=Ba (show p<xs.length by omega) f
 refine⟨fun j b a m => ?_,fun _ j b a e=>?_⟩
 . rw[mJ]at a
   rw[hs,hs]
   by_cases e1:c=j
   . subst e1
     rw[if_pos rfl,if_neg o_,if_pos d.symm]
     exact QC i
   . rw[if_neg e1,if_neg (show ¬ c=pa j from fun e=>m e.symm)]
     by_cases e2:p=j
     . subst e2
       rw[if_pos rfl,if_neg (by simp only[pa];omega)]
       exact h.kids b c o_ f d
     . rw[if_neg e2]
       by_cases e3:p=pa j
       . rw[if_pos e3]
         exact k j b a e3.symm
       . rw[if_neg e3]
         exact h.rest j b a (fun e=>e3 e.symm)
 . rw[mJ]at a
   have n:c<j:=by simp only[pa]at e;omega
   rw[hs,hs,if_neg o_,if_neg o_,d,if_neg o_,if_pos rfl]
   have:=h.rest j b a o_
   rw[e]at this
   exact this
theorem ua.stop{xs:List gE}{p:Nat}(h:ua xs p)(hb:jy xs p=p):Ord xs:=by
 intro j b a
 by_cases e:pa j=p
 . rw[e];exact UW hb j b a e
 . exact h.rest j b a e
structure Hp (n:Nat) (xs:List gE) (pl:List Nat):Prop where
 ix:∀ p,p<xs.length->(fJ xs p).ix<n
 key:∀ p,p<xs.length->gX .i64 (fJ xs p).key
 at_:∀ p,p<xs.length->fJ pl (fJ xs p).ix=p+1
 of:∀ i p,i<n->fJ pl i=p+1->p<xs.length/\(fJ xs p).ix=i
 pl:n<=pl.length
 len:xs.length<=n
theorem Hp.inj{n:Nat}{xs:List gE}{pl:List Nat}(h:Hp n xs pl){p q:Nat}(hp:p<xs.length)(b:q<xs.length)(e:(fJ xs p).ix=(fJ xs q).ix):p=q:=by
 have a:=h.at_ p hp
 have c:=h.at_ q b
 rw[e]at a
 omega
def jc(pl:List Nat)(i p:Nat):List Nat:=fN pl i (fun _=>p)
theorem Hp.swap{n:Nat}{xs:List gE}{pl:List Nat}(h:Hp n xs pl){p q:Nat}(hp:p<xs.length)(d:q<xs.length) :
 Hp n (iF xs p q) (jc (jc pl (fJ (iF xs p q) p).ix (p+1)) (fJ (iF xs p q) q).ix (q+1)):=by
 have hs:=Ba hp d
 have l:fJ (iF xs p q) q=fJ xs p:=by rw[hs,if_pos rfl]
 have k:fJ (iF xs p q) p=fJ xs q:=by
  rw[hs]
  split
  . rename_i e;rw[e]
  . rw[if_pos rfl]
 rw[l,k]
 have m:=h.pl
 have o:=h.ix p hp
 have r:=h.ix q d
 have g:∀ i,fJ (jc (jc pl (fJ xs q).ix (p+1)) (fJ xs p).ix (q+1)) i=if (fJ xs p).ix=i then q+1 else if (fJ xs q).ix=i then p+1 else fJ pl i:=fun i=>by
  unfold jc
  rw[iS (by rw[gC];omega),iS o_]
 refine⟨fun j c=>?_,fun j c=>?_,fun j c=>?_,fun i j hi f=>?_,by simp[jc,gC];exact m,by rw[mJ];exact h.len⟩
 . rw[mJ]at c
   rw[hs]
   split
   . exact o
   . split
     . exact r
     . exact h.ix j c
 . rw[mJ]at c
   rw[hs]
   split
   . exact h.key p hp
   . split
     . exact h.key q d
     . exact h.key j c
 . rw[mJ]at c
   rw[g,hs]
   by_cases e1:q=j
   . rw[if_pos e1,if_pos rfl,e1]
   . rw[if_neg e1]
     by_cases e2:p=j
     . rw[if_pos e2]
       subst e2
       by_cases e3:(fJ xs p).ix=(fJ xs q).ix
       . exact absurd (h.inj hp d e3).symm e1
       . rw[if_neg e3,if_pos rfl]
     . rw[if_neg e2,if_neg (fun e=>e2 (h.inj hp c e)),if_neg (fun e=>e1 (h.inj d c e))]
       exact h.at_ j c
 . rw[g]at f
   rw[mJ,hs]
   by_cases e1:(fJ xs p).ix=i
   . rw[if_pos e1]at f
     have:j=q:=by omega
     subst this
     exact⟨d,by rw[if_pos rfl];exact e1⟩
   . rw[if_neg e1]at f
     by_cases e2:(fJ xs q).ix=i
     . rw[if_pos e2]at f
       have:j=p:=by omega
       subst this
       refine⟨hp,?_⟩
       split
       . rename_i e;subst e;exact absurd e2 e1
       . rw[if_pos rfl];exact e2
     . rw[if_neg e2]at f
       obtain⟨a,b⟩:=h.of i j hi f
       refine⟨a,?_⟩
       rw[if_neg (fun e=>e1 (by rw[e]at d;subst e;exact absurd b (fun b=>e2 b))),if_neg (fun e=>e1 (by subst e;exact b))]
       exact b
theorem Hp.push{n:Nat}{xs:List gE}{pl:List Nat}(h:Hp n xs pl){i:Nat}{k:Int}(hi:i<n)(s:fJ pl i=0)(hk:gX .i64 k):Hp n (xs++[⟨i,k⟩]) (jc pl i (xs.length+1)):=by
 have w:=h.pl
 have q:∀ j,fJ (jc pl i (xs.length+1)) j=if i=j then xs.length+1 else fJ pl j:=fun j=>iS o_
 have f:∀ p,fJ (xs++[⟨i,k⟩]) p=if p<xs.length then fJ xs p else if p=xs.length then⟨i,k⟩else default:=fun p=>by
  unfold fJ
  rw[Bu]
  split
  . rfl
  . split
    . rename_i e;subst e;simp
    . rw[zt (by simp;omega)];rfl
 have o:∀ p,p<xs.length->(fJ xs p).ix≠i:=fun p hp e=>by
  have:=h.at_ p hp
  rw[e,s]at this
  omega
 refine⟨fun p hp=>?_,fun p hp=>?_,fun p hp=>?_,fun j p g hp=>?_,by simp[jc,gC];exact w,?_⟩
 . rw[f]
   split
   . rename_i c;exact h.ix p c
   . rw[if_pos (by simp at hp;omega)];exact hi
 . rw[f]
   split
   . rename_i c;exact h.key p c
   . rw[if_pos (by simp at hp;omega)];exact hk
 . rw[q,f]
   by_cases c:p<xs.length
   . rw[if_pos c,if_neg (fun e=>o p c e.symm)]
     exact h.at_ p c
   . simp at hp
     have v:p=xs.length:=by omega
     subst v
     rw[if_neg c,if_pos rfl,if_pos rfl]
 . rw[q]at hp
   rw[f]
   split at hp
   . rename_i e
     have:p=xs.length:=by omega
     subst this
     refine⟨s_,?_⟩
     rw[if_neg o_,if_pos rfl]
     exact e
   . obtain⟨a,b⟩:=h.of j p g hp
     exact⟨by simp;omega,by rw[if_pos a];exact b⟩
 . -- places of different indexes: no more entries than indexes
   have u:((xs++[(⟨i,k⟩:gE)]).map gE.ix).Nodup:=by
    rw[sw,zr]
    refine⟨?_,s_,fun a m b hb e=>?_⟩
    . refine u5.2 fun a b m hb B t=>?_
      simp only[zo]at m hb
      refine absurd (h.inj m hb ?_) o_
      have e1:(fJ xs a).ix=xs[a].ix:=by simp[fJ,m]
      have r:(fJ xs b).ix=xs[b].ix:=by simp[fJ,hb]
      rw[e1,r]
      simpa using t
    . simp at hb
      subst hb e
      obtain⟨x,d,y⟩:=z7.1 m
      obtain⟨p,hp,rfl⟩:=GM.1 d
      exact o p hp (by rw[<-y];simp[fJ,hp])
   have:=nodup_len n _ u fun j g=>by
    obtain⟨x,d,rfl⟩:=z7.1 g
    rcases zm.1 d with d|d
    . obtain⟨p,hp,rfl⟩:=GM.1 d
      have:=h.ix p hp
      simpa[fJ,hp]using this
    . simp at d
      subst d
      exact hi
   simpa using this
where
 nodup_len:∀ (n:Nat) (L:List Nat),L.Nodup->(∀ j∈L,j<n)->L.length<=n
  | 0,L,_,h=>by
   cases L with
   | nil=>simp
   | cons x L=>exact absurd (h x s_) o_
  | n+1,L,f,h=>by
   have c:=nodup_len n (L.erase n) (f.erase n) (fun j g=>by
    have z:=h j (List.mem_of_mem_erase g)
    have A:j≠n:=fun e=>by subst e;exact(List.Nodup.not_mem_erase f) g
    omega)
   have:=List.length_erase_le (a:=n) (l:=L)
   by_cases hm:n∈L
   . have:=LD hm
     have:=LF hm
     omega
   . rw[List.erase_of_not_mem hm]at c;omega
theorem qS{α:Type}[Inhabited α]{xs:List α}{e:α}:e∈xs↔∃ p,p<xs.length/\fJ xs p=e:=by
 constructor
 . intro h
   obtain⟨p,hp,rfl⟩:=GM.1 h
   exact⟨p,hp,by simp[fJ,hp]⟩
 . rintro⟨p,hp,rfl⟩
   exact zd (gy hp)
theorem KS{xs:List gE}{p q:Nat}(hp:p<xs.length)(b:q<xs.length)(e:gE):e∈iF xs p q↔e∈xs:=by
 have hs:=Ba hp b
 rw[qS,qS,mJ]
 constructor
 . rintro⟨j,a,rfl⟩
   rw[hs]
   split
   . exact⟨p,hp,rfl⟩
   . split
     . exact⟨q,b,rfl⟩
     . exact⟨j,a,rfl⟩
 . rintro⟨j,a,rfl⟩
   by_cases e1:j=p
   . subst e1;exact⟨q,b,by rw[hs,if_pos rfl]⟩
   . by_cases e2:j=q
     . subst e2
       refine⟨p,hp,?_⟩
       rw[hs]
       split
       . rename_i e;exact absurd e e1
       . rw[if_pos rfl]
     . exact⟨j,a,by rw[hs,if_neg (fun e=>e2 e.symm),if_neg (fun e=>e1 e.symm)]⟩
theorem Ord.first{xs:List gE}(h:Ord xs):∀ p,p<xs.length->¬ iD (fJ xs p) (fJ xs 0):=by
 intro p
 induction p using Nat.strongRecOn with
 | _ p b =>
  intro hp
  by_cases h0:p=0
  . subst h0;exact CD _
  . have a:pa p<p:=by simp only[pa];omega
    exact Fv (h p o_ hp) (b (pa p) a o_)
theorem Ord.min{xs:List gE}(h:Ord xs){e:gE}(a:e∈xs):¬ iD e (fJ xs 0):=by
 obtain⟨p,hp,rfl⟩:=qS.1 a
 exact h.first p hp
theorem rQ{α:Type}[Inhabited α]{xs:List α}{m j:Nat}(h:j<m):fJ (xs.take m) j=fJ xs j:=by
 unfold fJ
 rw[r9,if_pos h]
theorem Hp.cut{n:Nat}{xs:List gE}{pl:List Nat}{m:Nat}(h:Hp n xs pl)(hm:xs.length=m+1):Hp n (xs.take m) (jc pl (fJ xs m).ix 0):=by
 have k:=h.pl
 have l:=h.ix m o_
 have f:∀ j,fJ (jc pl (fJ xs m).ix 0) j=if (fJ xs m).ix=j then 0 else fJ pl j:=fun j=>iS o_
 have c:(xs.take m).length=m:=by rw[zx];omega
 refine⟨fun p hp=>?_,fun p hp=>?_,fun p hp=>?_,fun i p hi hp=>?_,by simp[jc,gC];exact k,by have:=h.len;omega⟩
 . rw[c]at hp;rw[rQ hp];exact h.ix p o_
 . rw[c]at hp;rw[rQ hp];exact h.key p o_
 . rw[c]at hp
   rw[rQ hp,f,if_neg (fun e=>by have:=h.inj (p:=m) (q:=p) o_ o_ e;omega)]
   exact h.at_ p o_
 . rw[f]at hp
   split at hp
   . omega
   . rename_i g
     obtain⟨a,b⟩:=h.of i p hi hp
     have d:p<m:=by
      have:p≠m:=fun e=>g (by rw[<-e];exact b)
      omega
     rw[c,rQ d]
     exact⟨d,b⟩
theorem V8{n:Nat}{xs:List gE}{pl:List Nat}{m:Nat}(h:Hp n xs pl)(hm:xs.length=m+1)(e:gE):e∈xs.take m↔e∈xs/\e.ix≠(fJ xs m).ix:=by
 have b:(xs.take m).length=m:=by rw[zx];omega
 rw[qS,qS,b]
 constructor
 . rintro⟨j,a,rfl⟩
   rw[rQ a]
   exact⟨⟨j,o_,rfl⟩,fun e=>by have:=h.inj (p:=j) (q:=m) o_ o_ e;omega⟩
 . rintro⟨⟨j,a,rfl⟩,c⟩
   have:j≠m:=fun e=>c (by rw[e])
   exact⟨j,o_,rQ o_⟩
theorem Ord.cut{xs:List gE}{p m:Nat}(h:Ord xs)(hm:xs.length=m+1)(hp:p<m):s8 ((iF xs p m).take m) p:=by
 have d:((iF xs p m).take m).length=m:=by rw[zx,mJ];omega
 have hs:=Ba (xs:=xs) (show p<xs.length by omega) (show m<xs.length by omega)
 refine⟨fun j b a i k=>?_,fun b j g a e=>?_⟩
 . rw[d]at a
   have c:pa j<m:=by simp only[pa];omega
   rw[rQ a,rQ c,hs,hs,if_neg o_,if_neg (fun e=>i e.symm),if_neg o_,if_neg (fun e=>k e.symm)]
   exact h j b o_
 . rw[d]at a
   have c:pa p<p:=by simp only[pa];omega
   have f:j≠p:=by rintro rfl;omega
   rw[rQ a,rQ o_,hs,hs,if_neg o_,if_neg (fun e=>f e.symm),if_neg o_,if_neg o_]
   exact Fv (h j g o_) (by rw[e];exact h p b o_)
theorem Ord.V6{xs:List gE}{m:Nat}(h:Ord xs)(hm:m<=xs.length):Ord (xs.take m):=by
 intro j a c
 rw[zx]at c
 have b:pa j<m:=by simp only[pa];omega
 rw[rQ o_,rQ b]
 exact h j a o_
theorem aeG{xs:List gE}{p:Nat}(hp:p<xs.length):iF xs p p=xs:=by
 have e:∀ (l:List gE),p<l.length->fN l p (fun _=>fJ l p)=l:=fun l a=>by
  apply mM
  intro j
  unfold fN
  rw[si]
  split
  . rename_i e;subst e;rw[gy a]
  . rfl
 have e1:=e xs hp
 unfold iF
 rw[e1,e1]
theorem acL{xs:List gE}(h:Ord xs)(e:gE):s8 (xs++[e]) xs.length:=by
 have c:∀ p,p<xs.length->fJ (xs++[e]) p=fJ xs p:=fun p hp=>by
  unfold fJ
  rw[rm hp]
 refine⟨fun j b a g i=>?_,fun b j f a e' => ?_⟩
 . simp at a
   have d:pa j<j:=by simp only[pa];omega
   rw[c j o_,c (pa j) o_]
   exact h j b o_
 . simp at a
   have d:pa j<j:=by simp only[pa];omega
   omega
end Go.Sx
