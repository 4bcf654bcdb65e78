/- Plain lemmas: rules for walking through code, one for each operation, over any program; an evaluator of closed calls with its soundness; and plain mathematics. No conditions. -/
import Derived.Test.YthpnckhjmbbalaaGreatDoorFa
import Derived.KernelRfl
import Derived.Laws.BitsAllLaws
import Derived.Sort.Row
import Derived.Maps.RangeRun
set_option linter.unusedVariables false
set_option linter.unusedSectionVars false
set_option linter.unusedSimpArgs false
namespace Go.Sx
open Go
def H8(P:Program):List (Nat×TypeDesc)->Prop
 | []=>True
 | p :: l=>P.underlying p.1=some p.2/\H8 P l
def allI(P:Program):List (Nat×Nat×Nat×Value)->Prop
 | []=>True
 | p :: l=>TI P p.1 p.2.1 p.2.2.1 p.2.2.2/\allI P l
class TT (P:Program) where
 mx:P.follows .mixedOrders=true
 u:List (Nat×TypeDesc)
 i:List (Nat×Nat×Nat×Value)
 kT:H8 P u
 mZ:allI P i
def iY{α:Type}:List (Nat×α)->Nat->Option α
 | [],_=>none
 | p :: l,t=>bif Nat.beq p.1 t then some p.2 else iY l t
theorem kN{P:Program}:∀ {l:List (Nat×TypeDesc)} {t:Nat} {u:TypeDesc},H8 P l->iY l t=some u->P.underlying t=some u
 | [],_,_,_,h=>by simp[iY]at h
 | p :: l,t,u,hl,h=>by
  simp only[iY]at h
  cases hb:Nat.beq p.1 t with
  | true=>rw[hb]at h;simp at h;rw[<-Bv hb,<-h];exact hl.1
  | false=>rw[hb]at h;exact kN hl.2 h
theorem mL{P:Program}:∀ {l:List (Nat×Nat×Nat×Value)} {t a b:Nat} {z:Value},allI P l->iY l t=some (a,b,z)->TI P t a b z
 | [],_,_,_,_,_,h=>by simp[iY]at h
 | p :: l,t,a,b,z,hl,h=>by
  simp only[iY]at h
  cases hb:Nat.beq p.1 t with
  | true=>rw[hb]at h;simp at h;have c:=hl.1;rw[h,Bv hb]at c;exact c
  | false=>rw[hb]at h;exact mL hl.2 h
section
variable {P:Program}
structure SL (T:TT P) (J:World->Prop) (bs:List (World×List Nat)) (L:List fS) (N:Nat) (r:Option Nat) (ops:Array Oper) (Q:Exit->Act->World->Prop) (l:List Oper) (a:Act):Prop where
 out:∀ w,J w->St bs L w->WL r P ops Q l a w
structure SP (T:TT P) (J:World->Prop) (bs:List (World×List Nat)) (L:List fS) (N:Nat) (r:Option Nat) (Q:Exit->Act->World->Prop) (c:Code) (a:Act):Prop where
 out:∀ w,J w->St bs L w->WP r P c Q a w
structure SQ (T:TT P) (J:World->Prop) (bs:List (World×List Nat)) (L:List fS) (N:Nat) (r:Option Nat) (Q:Exit->Act->World->Prop) (e:Exit) (a:Act):Prop where
 out:∀ w,J w->St bs L w->Q e a w
def Kc(r:Option Nat)(P:Program)(Y:Code)(Q:Exit->Act->World->Prop):Act->World->Prop:=fun a w=>WP r P Y Q a w
variable {T:TT P} {J:World->Prop} {bs:List (World×List Nat)} {L L' : List fS} {r:Option Nat} {ops:Array Oper} {Q:Exit->Act->World->Prop} {rest:List Oper} {n:Nat} {s:List (Nat×Value)} {ds:List Deferred} {w w' w0:World}
variable {N d i j:Nat} {ty t:TypeId} {pos:String} {af:Array Edge} {g:Option (Nat×Bool)} {v u:Value} {x y z:Operand} {X Y:Code} {a:Act} {K' : Act->World->Prop} {l:List Oper}
theorem SP.sq(K:SP T J bs L N r (Exit.then (Kc r P Y Q) Q) X a):SP T J bs L (N+1) r Q (.seq X Y) a:=⟨fun w j h=>wpIn_seq (K.out w j h)⟩
theorem SP.rg{id:Nat}(K:SL T J bs L N r l.toArray Q l (Fr n s ds)):SP T J bs L (N+1) r Q (.region id l.toArray false) (Fr n s ds):=⟨fun w j h=>Go.Sx.rg (K.out w j h)⟩
theorem SP.KE{id:Nat}(K:SL T (fun _=>True) bs L N r l.toArray Q l (Fr n s ds))(a:∃ np,(np=false\/NP Q)/\okF np l (yW (List.range' 0 l.length) [])=true:=by first|exact⟨true,.inr inferInstance,by kernel_rfl⟩|exact⟨false,.inl rfl,by kernel_rfl⟩):SP T (fun _=>True) bs L (N+1) r Q (.region id l.toArray true) (Fr n s ds):=⟨fun w _ h=>Go.Sx.KE T.mx h (fun w' hs=>K.out w' trivial hs) a⟩
theorem SP.cT{c:Operand}(K:SP T J bs L N r Q X (Fr n s ds))(a:ev n s c = .bool true:=by exact rfl):SP T J bs L (N+1) r Q (.cond c X Y) (Fr n s ds):=⟨fun w j h=>Vt a (K.out w j h)⟩
theorem SP.cF{c:Operand}(K:SP T J bs L N r Q Y (Fr n s ds))(a:ev n s c = .bool false:=by exact rfl):SP T J bs L (N+1) r Q (.cond c X Y) (Fr n s ds):=⟨fun w j h=>Vs a (K.out w j h)⟩
theorem SP.bk{id:Nat}(K:SP T J bs L N r (Exit.inBlock id Q) X (Fr n s ds)):SP T J bs L (N+1) r Q (.block id X) (Fr n s ds):=⟨fun w j h=>Go.Sx.bk (K.out w j h)⟩
theorem SP.sp(K:SQ T J bs L N r Q .normal (Fr n s ds)):SP T J bs L (N+1) r Q .skip (Fr n s ds):=⟨fun w j h=>Go.Sx.sp (K.out w j h)⟩
theorem SP.xt{id:Nat}(K:SQ T J bs L N r Q (.exit id) (Fr n s ds)):SP T J bs L (N+1) r Q (.exit id) (Fr n s ds):=⟨fun w j h=>Go.Sx.xt (K.out w j h)⟩
theorem SP.rt(K:SQ T J bs L N r Q .ret (Fr n s ds)):SP T J bs L (N+1) r Q .ret (Fr n s ds):=⟨fun w j h=>Go.Sx.rt (K.out w j h)⟩
theorem SQ.tN(K:SP T J bs L N r Q Y a):SQ T J bs L (N+1) r (Exit.then (Kc r P Y Q) Q) .normal a:=⟨fun w j h=>K.out w j h⟩
theorem SQ.tX(K:SQ T J bs L N r Q (.exit j) a):SQ T J bs L (N+1) r (Exit.then K' Q) (.exit j) a:=⟨fun w j h=>K.out w j h⟩
theorem SQ.tR(K:SQ T J bs L N r Q .ret a):SQ T J bs L (N+1) r (Exit.then K' Q) .ret a:=⟨fun w j h=>K.out w j h⟩
theorem SQ.bN(K:SQ T J bs L N r Q .normal a):SQ T J bs L (N+1) r (Exit.inBlock i Q) .normal a:=⟨fun w j h=>K.out w j h⟩
theorem SQ.bR(K:SQ T J bs L N r Q .ret a):SQ T J bs L (N+1) r (Exit.inBlock i Q) .ret a:=⟨fun w j h=>K.out w j h⟩
theorem SQ.bX(K:SQ T J bs L N r Q .normal a):SQ T J bs L (N+1) r (Exit.inBlock i Q) (.exit i) a:=⟨fun w j h=>Go.Sx.bX (K.out w j h)⟩
theorem SQ.Ie(K:SQ T J bs L N r Q (.exit j) a)(b:Nat.beq j i=false:=by exact rfl):SQ T J bs L (N+1) r (Exit.inBlock i Q) (.exit j) a:=⟨fun w j h=>Go.Sx.Ie b (K.out w j h)⟩
theorem SQ.KS(K:SQ T J bs L N r Q .normal a):SQ T J bs L (N+1) r (yM Q) .normal a:=⟨fun w j h=>Go.Sx.KS (K.out w j h)⟩
theorem SQ.KT(K:SQ T J bs L N r Q .ret a):SQ T J bs L (N+1) r (yM Q) .ret a:=⟨fun w j h=>Go.Sx.KT (K.out w j h)⟩
theorem SP.scp(K:SP T J bs L N r (yM Q) X a):SP T J bs L (N+1) r Q (.scope X) a:=⟨fun w j h=>Go.Sx.scp (K.out w j h)⟩
theorem SP.JB{l:Nat}(K:SQ T J bs L N r Q .normal a):SP T J bs L (N+1) r Q (.label l) a:=⟨fun w j h=>Go.Sx.JB (K.out w j h)⟩
theorem SL.nil(K:SQ T J bs L N r Q .normal (Fr n s ds)):SL T J bs L (N+1) r ops Q [] (Fr n s ds):=⟨fun w j h=>agh (K.out w j h)⟩
theorem SL.sk{op:Op}{g:Nat×Bool}(K:SL T J bs L N r ops Q rest (Fr n ((d,undef) :: s) ds))(a:gE ops n s (some g)=false:=by exact rfl):SL T J bs L (N+1) r ops Q (⟨some d,op,ty,pos,af,some g⟩ :: rest) (Fr n s ds):=⟨fun w j h=>Go.Sx.sk a (K.out w j h)⟩
theorem qL{R:fS}{L:List fS}:(R :: L)[0]? = some R:=rfl
theorem qM{R a:fS}{L:List fS}:(a :: R :: L)[1]? = some R:=rfl
theorem nF{R a b:fS}{L:List fS}:(a :: b :: R :: L)[2]? = some R:=rfl
theorem nG{R a b A2:fS}{L:List fS}:(a :: b :: A2 :: R :: L)[3]? = some R:=rfl
theorem qN{R a b A2 c:fS}{L:List fS}:(a :: b :: A2 :: c :: R :: L)[4]? = some R:=rfl
theorem qO{R a b A2 c d:fS}{L:List fS}:(a :: b :: A2 :: c :: d :: R :: L)[5]? = some R:=rfl
theorem NJ{k:IntKind}{a:Int}:(Value.int k a).cells.toList=[Value.int k a]:=rfl
theorem NI{a:Bool}:(Value.bool a).cells.toList=[Value.bool a]:=rfl
theorem NK{a:Option Addr}:(Value.pointer a).cells.toList=[Value.pointer a]:=rfl
theorem NL{a:Option Addr}{m c:Nat}:(Value.slice a m c).cells.toList=[Value.slice a m c]:=rfl
theorem NH{l:List Value}:(Value.agg l.toArray).cells.toList=l:=by simp[Value.cells]
theorem qP{R a b A2 c d e:fS}{L:List fS}:(a :: b :: A2 :: c :: d :: e :: R :: L)[6]? = some R:=rfl
theorem qQ{R a b A2 c d e f:fS}{L:List fS}:(a :: b :: A2 :: c :: d :: e :: f :: R :: L)[7]? = some R:=rfl
def Bj:List Value->Nat->(List Value->Option (List Value))->Option (List Value)
 | _,0,k=>k []
 | v :: l,m+1,k=>Bj l m fun r=>k (v :: r)
 | [],_+1,_=>none
def sub' (l:List Value)(o m:Nat):Option (List Value):=Bj (l.drop o) m some
theorem La:∀ (l:List Value) (m:Nat) (k:List Value->Option (List Value)),Bj l m k=if m<=l.length then k (l.take m)else none
 | l,0,k=>by simp[Bj]
 | v :: l,m+1,k=>by simp[Bj,La l m]
 | [],m+1,k=>by simp[Bj]
theorem wZ{l vs:List Value}{o m:Nat}(h:sub' l o m=some vs):vs.length=m:=by
 unfold sub' at h
 rw[La]at h
 split at h
 . rename_i a
   simp at h
   rw[<-h,z8]
   omega
 . cases h
theorem zA{l vs:List Value}{o m:Nat}(h:sub' l o m=some vs):(l.drop o).take vs.length=vs:=by
 rw[wZ h]
 unfold sub' at h
 rw[La]at h
 split at h
 . simpa using h
 . cases h
theorem SL.mv  (K:SL T J bs L N r ops Q rest (Fr n ((d,v) :: s) ds)) (b:ev n s x=v:=by conv=>lhs;whnf) (a:gE ops n s g=true:=by exact rfl):SL T J bs L (N+1) r ops Q (⟨some d,.move x,ty,pos,af,g⟩ :: rest) (Fr n s ds):=⟨fun w j h=>pw a (fun _=>k7 b) (K.out w j h)⟩
theorem SL.P4{α:Type}{cf:α->List Value}{xs:List α}{e e' : TypeId}{kk:IntKind}{k sz by_ i:Nat}{o:Value}(K:SL T J bs L N r ops Q rest (Fr n ((d,jW sz v k 0) :: s) ds))(l:ev n s x=v:=by conv=>lhs;whnf)(m:ev n s y = .int kk (k:Nat):=by exact rfl)(a:iY T.u t=some (.slice e):=by exact rfl)(f:iY T.i e=some (sz,by_,o):=by exact rfl)(hi:L[i]? = some (fM cf v e' sz xs):=by first|exact qL|exact qM|exact nF|exact nG|exact qN|exact qO|exact qP|exact qQ)(p:Inhabited α:=by infer_instance)(c:∀ x:α,(cf x).length=sz:=by exact fun _=>rfl)(hk:k<xs.length:=by first|omega|(simp only[gC];omega))(b:gE ops n s g=true:=by exact rfl):SL T J bs L (N+1) r ops Q (⟨some d,.indexAddr t x y,ty,pos,af,g⟩ :: rest) (Fr n s ds):=⟨fun w j h=>pw b (fun _=>CC l m (kN T.kT a) (mL T.mZ f) (St.yU h hi c) o_ o_ (gz hk)) (K.out w j h)⟩
theorem SL.Pn{α:Type}{cf:α->List Value}{xs:List α}{e' : TypeId}{i q k sz off off' szf byf:Nat}{zf:Value}{fields:Array Field}{f:Field}(K:SL T J bs L N r ops Q rest (Fr n ((d,jW sz v k off') :: s) ds))(o:ev n s x=jW sz v k off:=by exact rfl)(a:iY T.u t=some (.struct fields):=by exact rfl)(b:fields[i]? = some f:=by exact rfl)(m:iY T.i f.type=some (szf+1,byf,zf):=by exact rfl)(l:off+f.offset=off' := by conv=>lhs;whnf)(hi:L[q]? = some (fM cf v e' sz xs):=by first|exact qL|exact qM|exact nF|exact nG|exact qN|exact qO|exact qP|exact qQ)(p:Inhabited α:=by infer_instance)(e:∀ x:α,(cf x).length=sz:=by exact fun _=>rfl)(hk:k<xs.length:=by first|omega|(simp only[gC];omega))(c:gE ops n s g=true:=by exact rfl):SL T J bs L (N+1) r ops Q (⟨some d,.fieldAddr t x i,ty,pos,af,g⟩ :: rest) (Fr n s ds):=⟨fun w j h=>pw c (fun _=>E3 o (kN T.kT a) b (mL T.mZ m) l (St.yU h hi e) (gz hk)) (K.out w j h)⟩
theorem SL.Fj{α:Type}{cf:α->List Value}{xs:List α}{e' : TypeId}{q k sz off:Nat}{ud:TypeDesc}{u:Value}(K:SL T J bs L N r ops Q rest (Fr n ((d,v) :: s) ds))(f:ev n s x=jW sz u k off:=by exact rfl)(a:iY T.u t=some ud:=by exact rfl)(e:j9 ud=false:=by exact rfl)(hi:L[q]? = some (fM cf u e' sz xs):=by first|exact qL|exact qM|exact nF|exact nG|exact qN|exact qO|exact qP|exact qQ)(i:Inhabited α:=by infer_instance)(c:∀ x:α,(cf x).length=sz:=by exact fun _=>rfl)(hk:k<xs.length:=by first|omega|(simp only[gC];omega))(hv:(cf (fJ xs k))[off]? = some v:=by exact rfl)(b:gE ops n s g=true:=by exact rfl):SL T J bs L (N+1) r ops Q (⟨some d,.load t x,ty,pos,af,g⟩ :: rest) (Fr n s ds):=⟨fun w j h=>pv b rfl (yD f (kN T.kT a) e (St.yU h hi c) (gz hk) hv) (K.out w j h)⟩
theorem SL.Pj{i b k sz off off' szf byf:Nat}{zf:Value}{fields:Array Field}{f:Field}(K:SL T J bs L N r ops Q rest (Fr n ((d,.pointer (some ⟨b,k*sz+off', none⟩)) :: s) ds))(o:ev n s x = .pointer (some ⟨b,k*sz+off,none⟩):=by exact rfl)(a:iY T.u t=some (.struct fields):=by exact rfl)(c:fields[i]? = some f:=by exact rfl)(m:iY T.i f.type=some (szf+1,byf,zf):=by exact rfl)(l:off+f.offset=off' := by conv=>lhs;whnf)(e:gE ops n s g=true:=by exact rfl):SL T J bs L (N+1) r ops Q (⟨some d,.fieldAddr t x i,ty,pos,af,g⟩ :: rest) (Fr n s ds):=⟨fun w j h=>pw e (fun _=>uM o (kN T.kT a) c (mL T.mZ m) (by rw[<-l,lg])) (K.out w j h)⟩
theorem SL.fa{i b o o' szf byf:Nat}{zf:Value}{fields:Array Field}{f:Field}(K:SL T J bs L N r ops Q rest (Fr n ((d,.pointer (some ⟨b,o', none⟩)) :: s) ds))(m:ev n s x = .pointer (some ⟨b,o,none⟩):=by exact rfl)(a:iY T.u t=some (.struct fields):=by exact rfl)(c:fields[i]? = some f:=by exact rfl)(l:iY T.i f.type=some (szf+1,byf,zf):=by exact rfl)(k:o+f.offset=o' := by conv=>lhs;whnf)(e:gE ops n s g=true:=by exact rfl):SL T J bs L (N+1) r ops Q (⟨some d,.fieldAddr t x i,ty,pos,af,g⟩ :: rest) (Fr n s ds):=⟨fun w j h=>pw e (fun _=>uM m (kN T.kT a) c (mL T.mZ l) k) (K.out w j h)⟩
theorem SL.ld{b o i:Nat}{a:TypeId}{cs:List Value}{ud:TypeDesc}(K:SL T J bs L N r ops Q rest (Fr n ((d,v) :: s) ds))(k:ev n s x = .pointer (some ⟨b,o,none⟩):=by exact rfl)(c:iY T.u t=some ud:=by exact rfl)(f:j9 ud=false:=by exact rfl)(hi:L[i]? = some (blk b a cs):=by first|exact qL|exact qM|exact nF|exact nG|exact qN|exact qO|exact qP|exact qQ)(hv:cs[o]? = some v:=by exact rfl)(e:gE ops n s g=true:=by exact rfl):SL T J bs L (N+1) r ops Q (⟨some d,.load t x,ty,pos,af,g⟩ :: rest) (Fr n s ds):=⟨fun w j h=>pv e rfl (mK k (kN T.kT c) f (h.rQ hi hv)) (K.out w j h)⟩
theorem SL.JC{α:Type}{cf:α->List Value}{xs:List α}{b k sz off i:Nat}{a:TypeId}{ud:TypeDesc}(K:SL T J bs L N r ops Q rest (Fr n ((d,v) :: s) ds))(m:ev n s x = .pointer (some ⟨b,k*sz+off,none⟩):=by exact rfl)(c:iY T.u t=some ud:=by exact rfl)(l:j9 ud=false:=by exact rfl)(hi:L[i]? = some (blk b a (xs.flatMap cf)):=by first|exact qL|exact qM|exact nF|exact nG|exact qN|exact qO|exact qP|exact qQ)(o:Inhabited α:=by infer_instance)(f:∀ x:α,(cf x).length=sz:=by exact fun _=>rfl)(hk:k<xs.length:=by first|omega|(simp only[gC];omega))(hv:(cf (fJ xs k))[off]? = some v:=by exact rfl)(e:gE ops n s g=true:=by exact rfl):SL T J bs L (N+1) r ops Q (⟨some d,.load t x,ty,pos,af,g⟩ :: rest) (Fr n s ds):=⟨fun w j h=>pv e rfl (mK m (kN T.kT c) l (St.Ky h hi f hk hv)) (K.out w j h)⟩
theorem SL.JE{b o:Nat}{a:TypeId}{cs:List Value}{ud:TypeDesc}(K:SL T J bs L N r ops Q rest (Fr n ((d,v) :: s) ds))(i:ev n s x = .pointer (some ⟨b,o,none⟩):=by exact rfl)(c:iY T.u t=some ud:=by exact rfl)(f:j9 ud=false:=by exact rfl)(hi:(blk b a cs).holds w0:=by assumption)(hb:(w0,[])∈bs:=by simp)(hv:cs[o]? = some v:=by exact rfl)(e:gE ops n s g=true:=by exact rfl):SL T J bs L (N+1) r ops Q (⟨some d,.load t x,ty,pos,af,g⟩ :: rest) (Fr n s ds):=⟨fun w j h=>pv e rfl (mK i (kN T.kT c) f (St.KH h hb hi hv)) (K.out w j h)⟩
theorem SL.JG{α:Type}{cf:α->List Value}{xs:List α}{b k sz off:Nat}{a:TypeId}{ud:TypeDesc}(K:SL T J bs L N r ops Q rest (Fr n ((d,v) :: s) ds))(l:ev n s x = .pointer (some ⟨b,k*sz+off,none⟩):=by exact rfl)(c:iY T.u t=some ud:=by exact rfl)(i:j9 ud=false:=by exact rfl)(hi:(blk b a (xs.flatMap cf)).holds w0:=by assumption)(m:Inhabited α:=by infer_instance)(hb:(w0,[])∈bs:=by simp)(f:∀ x:α,(cf x).length=sz:=by exact fun _=>rfl)(hk:k<xs.length:=by first|omega|(simp only[gC];omega))(hv:(cf (fJ xs k))[off]? = some v:=by exact rfl)(e:gE ops n s g=true:=by exact rfl):SL T J bs L (N+1) r ops Q (⟨some d,.load t x,ty,pos,af,g⟩ :: rest) (Fr n s ds):=⟨fun w j h=>pv e rfl (mK l (kN T.kT c) i (St.Sv h hb hi f hk hv)) (K.out w j h)⟩
theorem SL.vW  (K:SL T J bs L N r ops Q rest (Fr n ((d,v) :: s) ds)) (b:ev n s x=v:=by conv=>lhs;whnf) (a:gE ops n s g=true:=by exact rfl):SL T J bs L (N+1) r ops Q (⟨some d,.assign x,ty,pos,af,g⟩ :: rest) (Fr n s ds):=⟨fun w j h=>pw a (fun _=>vX b) (K.out w j h)⟩
theorem SL.uV{p:Addr}(K:SL T J bs L N r ops Q rest (Fr n ((d,.pointer (some p)) :: s) ds))(b:ev n s x = .pointer (some p):=by exact rfl)(a:gE ops n s g=true:=by exact rfl):SL T J bs L (N+1) r ops Q (⟨some d,.nilCheck x,ty,pos,af,g⟩ :: rest) (Fr n s ds):=⟨fun w j h=>pw a (fun _=>AT b) (K.out w j h)⟩
theorem SL.cmp{op:BinOp}{t' : TypeId}{k:IntKind}{a b:Int}{c:Bool}(K:SL T J bs L N r ops Q rest (Fr n ((d,.bool c) :: s) ds))(i:ev n s x = .int k a:=by exact rfl)(l:ev n s y = .int k b:=by exact rfl)(e:kR op a b=some c:=by first|exact rR (by first|assumption|exact rfl|decide)|exact uH (by first|assumption|exact rfl|decide)|exact qo (by first|assumption|exact rfl|decide)|exact lC (by first|assumption|exact rfl|decide)|exact Ax (by first|assumption|exact rfl|decide)|exact NN (by first|assumption|exact rfl|decide)|exact NM (by first|assumption|exact rfl|decide)|exact oW (by first|assumption|exact rfl|decide)|exact c_gt (by first|assumption|exact rfl|decide)|exact pR (by first|assumption|exact rfl|decide)|exact nY (by first|assumption|exact rfl|decide)|exact oG (by first|assumption|exact rfl|decide))(f:gE ops n s g=true:=by exact rfl):SL T J bs L (N+1) r ops Q (⟨some d,.binOp op t x y t', ty,pos,af,g⟩ :: rest) (Fr n s ds):=⟨fun w j h=>pw f (fun _=>N3 i l e) (K.out w j h)⟩
theorem SL.ar{op:BinOp}{t' : TypeId}{k:IntKind}{a b c e:Int}(K:SL T J bs L N r ops Q rest (Fr n ((d,.int k e) :: s) ds))(m:ev n s x = .int k a:=by exact rfl)(o:ev n s y = .int k b:=by exact rfl)(f:Ca op a b=some c:=by exact rfl)(l:k.wrap c=e:=by first|exact ox o_|exact GA o_|exact T2 o_|exact w32u o_)(i:gE ops n s g=true:=by exact rfl):SL T J bs L (N+1) r ops Q (⟨some d,.binOp op t x y t', ty,pos,af,g⟩ :: rest) (Fr n s ds):=⟨fun w j h=>pw i (fun _=>Ep m o f l) (K.out w j h)⟩
theorem SL.ex{i:Nat}{vs:Array Value}(K:SL T J bs L N r ops Q rest (Fr n ((d,v) :: s) ds))(b:ev n s x = .tuple vs:=by exact rfl)(hv:vs[i]? = some v:=by exact rfl)(a:gE ops n s g=true:=by exact rfl):SL T J bs L (N+1) r ops Q (⟨some d,.extract x i,ty,pos,af,g⟩ :: rest) (Fr n s ds):=⟨fun w j h=>pw a (fun _=>E1 b hv) (K.out w j h)⟩
theorem SL.P3{e:TypeId}{kk:IntKind}{b m c k sz by_:Nat}{v:Value}(K:SL T J bs L N r ops Q rest (Fr n ((d,.pointer (some ⟨b,k*sz+0,none⟩)) :: s) ds))(p:ev n s x = .slice (some ⟨b,0,none⟩) m c:=by exact rfl)(q:ev n s y = .int kk (k:Nat):=by exact rfl)(f:iY T.u t=some (.slice e):=by exact rfl)(o:iY T.i e=some (sz,by_,v):=by exact rfl)(a:(k:Int)<m:=by first|omega|(simp only[gC];omega))(l:gE ops n s g=true:=by exact rfl):SL T J bs L (N+1) r ops Q (⟨some d,.indexAddr t x y,ty,pos,af,g⟩ :: rest) (Fr n s ds):=⟨fun w j h=>pw l (fun _=>Jp p q (kN T.kT f) (mL T.mZ o) ⟨o_,a⟩ s_) (K.out w j h)⟩
theorem SL.iP{α:Type}{cf:α->List Value}{xs:List α}{ok:Nat->Prop}{c:α}{e:TypeId}{kk:IntKind}{k sz by_:Nat}{o:Value}(K:SL T J bs L N r ops Q rest (Fr n ((d,jW sz v k 0) :: s) ds))(l:ev n s x=v:=by conv=>lhs;whnf)(m:ev n s y = .int kk (k:Nat):=by exact rfl)(a:iY T.u t=some (.slice e):=by exact rfl)(f:iY T.i e=some (sz,by_,o):=by exact rfl)(hi:iz sz cf ok w0 v xs:=by assumption)(hk:xs[k]? = some c:=by first|assumption|exact rfl|exact gz (by first|omega|(simp only[gC];omega)))(b:gE ops n s g=true:=by exact rfl):SL T J bs L (N+1) r ops Q (⟨some d,.indexAddr t x y,ty,pos,af,g⟩ :: rest) (Fr n s ds):=⟨fun w j h=>pw b (fun _=>CC l m (kN T.kT a) (mL T.mZ f) hi o_ o_ hk) (K.out w j h)⟩
theorem SL.Pk{α:Type}{cf:α->List Value}{xs:List α}{ok:Nat->Prop}{c:α}{i k sz off off' szf byf:Nat}{zf:Value}{fields:Array Field}{f:Field}(K:SL T J bs L N r ops Q rest (Fr n ((d,jW sz v k off') :: s) ds))(o:ev n s x=jW sz v k off:=by exact rfl)(a:iY T.u t=some (.struct fields):=by exact rfl)(b:fields[i]? = some f:=by exact rfl)(m:iY T.i f.type=some (szf+1,byf,zf):=by exact rfl)(l:off+f.offset=off' := by conv=>lhs;whnf)(hi:iz sz cf ok w0 v xs:=by assumption)(hk:xs[k]? = some c:=by first|assumption|exact rfl|exact gz (by first|omega|(simp only[gC];omega)))(e:gE ops n s g=true:=by exact rfl):SL T J bs L (N+1) r ops Q (⟨some d,.fieldAddr t x i,ty,pos,af,g⟩ :: rest) (Fr n s ds):=⟨fun w j h=>pw e (fun _=>E3 o (kN T.kT a) b (mL T.mZ m) l hi hk) (K.out w j h)⟩
theorem SL.jq{α:Type}{cf:α->List Value}{xs:List α}{ok:Nat->Prop}{c:α}{k sz off:Nat}{ud:TypeDesc}{u:Value}(K:SL T J bs L N r ops Q rest (Fr n ((d,v) :: s) ds))(f:ev n s x=jW sz u k off:=by exact rfl)(a:iY T.u t=some ud:=by exact rfl)(e:j9 ud=false:=by exact rfl)(hi:iz sz cf ok w0 u xs:=by assumption)(hb:(w0,[])∈bs:=by simp)(i:0<sz:=by decide)(hk:xs[k]? = some c:=by first|assumption|exact rfl|exact gz (by first|omega|(simp only[gC];omega)))(hv:(cf c)[off]? = some v:=by exact rfl)(b:gE ops n s g=true:=by exact rfl):SL T J bs L (N+1) r ops Q (⟨some d,.load t x,ty,pos,af,g⟩ :: rest) (Fr n s ds):=⟨fun w j h=>pv b rfl (yD f (kN T.kT a) e (St.C9 h hb i hi) hk hv) (K.out w j h)⟩
theorem SL.uR{b o i sz by_:Nat}{m:Value}{a:TypeId}{cs vs:List Value}{ud:TypeDesc}(K:SL T J bs L N r ops Q rest (Fr n ((d,.agg vs.toArray) :: s) ds))(l:ev n s x = .pointer (some ⟨b,o,none⟩):=by exact rfl)(c:iY T.u t=some ud:=by exact rfl)(f:j9 ud=true:=by exact rfl)(k:iY T.i t=some (sz,by_,m):=by exact rfl)(hi:L[i]? = some (blk b a cs):=by first|exact qL|exact qM|exact nF|exact nG|exact qN|exact qO|exact qP|exact qQ)(hv:sub' cs o sz=some vs:=by exact rfl)(e:gE ops n s g=true:=by exact rfl):SL T J bs L (N+1) r ops Q (⟨some d,.load t x,ty,pos,af,g⟩ :: rest) (Fr n s ds):=⟨fun w j h=>pv e rfl (tM l (kN T.kT c) f (mL T.mZ k) (wZ hv) (h.Ig hi (zA hv))) (K.out w j h)⟩
theorem SL.JF{b o sz by_:Nat}{m:Value}{a:TypeId}{cs vs:List Value}{ud:TypeDesc}(K:SL T J bs L N r ops Q rest (Fr n ((d,.agg vs.toArray) :: s) ds))(l:ev n s x = .pointer (some ⟨b,o,none⟩):=by exact rfl)(c:iY T.u t=some ud:=by exact rfl)(f:j9 ud=true:=by exact rfl)(k:iY T.i t=some (sz,by_,m):=by exact rfl)(hi:(blk b a cs).holds w0:=by assumption)(hb:(w0,[])∈bs:=by simp)(hv:sub' cs o sz=some vs:=by exact rfl)(e:gE ops n s g=true:=by exact rfl):SL T J bs L (N+1) r ops Q (⟨some d,.load t x,ty,pos,af,g⟩ :: rest) (Fr n s ds):=⟨fun w j h=>pv e rfl (tM l (kN T.kT c) f (mL T.mZ k) (wZ hv) (St.adS h hb hi (zA hv))) (K.out w j h)⟩
theorem SL.JD{α:Type}{cf:α->List Value}{xs:List α}{b k sz off i a by_:Nat}{q:Value}{c:TypeId}{vs:List Value}{ud:TypeDesc}(K:SL T J bs L N r ops Q rest (Fr n ((d,.agg vs.toArray) :: s) ds))(p:ev n s x = .pointer (some ⟨b,k*sz+off,none⟩):=by exact rfl)(e:iY T.u t=some ud:=by exact rfl)(m:j9 ud=true:=by exact rfl)(o:iY T.i t=some (a, by_,q):=by exact rfl)(hi:L[i]? = some (blk b c (xs.flatMap cf)):=by first|exact qL|exact qM|exact nF|exact nG|exact qN|exact qO|exact qP|exact qQ)(v:Inhabited α:=by infer_instance)(l:∀ x:α,(cf x).length=sz:=by exact fun _=>rfl)(hk:k<xs.length:=by first|omega|(simp only[gC];omega))(hv:sub' (cf (fJ xs k)) off a = some vs:=by exact rfl)(f:gE ops n s g=true:=by exact rfl):SL T J bs L (N+1) r ops Q (⟨some d,.load t x,ty,pos,af,g⟩ :: rest) (Fr n s ds):=⟨fun w j h=>pv f rfl (tM p (kN T.kT e) m (mL T.mZ o) (wZ hv) (St.ady h hi l hk (zA hv))) (K.out w j h)⟩
theorem SL.JH{α:Type}{cf:α->List Value}{xs:List α}{b k sz off a by_:Nat}{q:Value}{c:TypeId}{vs:List Value}{ud:TypeDesc}(K:SL T J bs L N r ops Q rest (Fr n ((d,.agg vs.toArray) :: s) ds))(p:ev n s x = .pointer (some ⟨b,k*sz+off,none⟩):=by exact rfl)(e:iY T.u t=some ud:=by exact rfl)(m:j9 ud=true:=by exact rfl)(o:iY T.i t=some (a, by_,q):=by exact rfl)(hi:(blk b c (xs.flatMap cf)).holds w0:=by assumption)(v:Inhabited α:=by infer_instance)(hb:(w0,[])∈bs:=by simp)(l:∀ x:α,(cf x).length=sz:=by exact fun _=>rfl)(hk:k<xs.length:=by first|omega|(simp only[gC];omega))(hv:sub' (cf (fJ xs k)) off a = some vs:=by exact rfl)(f:gE ops n s g=true:=by exact rfl):SL T J bs L (N+1) r ops Q (⟨some d,.load t x,ty,pos,af,g⟩ :: rest) (Fr n s ds):=⟨fun w j h=>pv f rfl (tM p (kN T.kT e) m (mL T.mZ o) (wZ hv) (St.adT h hb hi l hk (zA hv))) (K.out w j h)⟩
theorem SL.Qr{α:Type}{cf:α->List Value}{xs:List α}{e' : TypeId}{q k sz off a by_:Nat}{o:Value}{vs:List Value}{ud:TypeDesc}{u:Value}(K:SL T J bs L N r ops Q rest (Fr n ((d,.agg vs.toArray) :: s) ds))(m:ev n s x=jW sz u k off:=by exact rfl)(b:iY T.u t=some ud:=by exact rfl)(f:j9 ud=true:=by exact rfl)(l:iY T.i t=some (a, by_,o):=by exact rfl)(hi:L[q]? = some (fM cf u e' sz xs):=by first|exact qL|exact qM|exact nF|exact nG|exact qN|exact qO|exact qP|exact qQ)(p:Inhabited α:=by infer_instance)(e:∀ x:α,(cf x).length=sz:=by exact fun _=>rfl)(hk:k<xs.length:=by first|omega|(simp only[gC];omega))(hv:sub' (cf (fJ xs k)) off a = some vs:=by exact rfl)(c:gE ops n s g=true:=by exact rfl):SL T J bs L (N+1) r ops Q (⟨some d,.load t x,ty,pos,af,g⟩ :: rest) (Fr n s ds):=⟨fun w j h=>pv c rfl (Qq m (kN T.kT b) f (mL T.mZ l) (St.yU h hi e) (gz hk) (wZ hv) (zA hv)) (K.out w j h)⟩
theorem SL.Qp{α:Type}{cf:α->List Value}{xs:List α}{ok:Nat->Prop}{c:α}{k sz off a by_:Nat}{p:Value}{vs:List Value}{ud:TypeDesc}{u:Value}(K:SL T J bs L N r ops Q rest (Fr n ((d,.agg vs.toArray) :: s) ds))(m:ev n s x=jW sz u k off:=by exact rfl)(b:iY T.u t=some ud:=by exact rfl)(f:j9 ud=true:=by exact rfl)(l:iY T.i t=some (a, by_,p):=by exact rfl)(hi:iz sz cf ok w0 u xs:=by assumption)(hb:(w0,[])∈bs:=by simp)(o:0<sz:=by decide)(hk:xs[k]? = some c:=by first|assumption|exact rfl|exact gz (by first|omega|(simp only[gC];omega)))(hv:sub' (cf c) off a = some vs:=by exact rfl)(e:gE ops n s g=true:=by exact rfl):SL T J bs L (N+1) r ops Q (⟨some d,.load t x,ty,pos,af,g⟩ :: rest) (Fr n s ds):=⟨fun w j h=>pv e rfl (Qq m (kN T.kT b) f (mL T.mZ l) (St.C9 h hb o hi) hk (wZ hv) (zA hv)) (K.out w j h)⟩
theorem SL.cv{k k' : IntKind}{ud:TypeDesc}{a e:Int}{t' : TypeId}(K:SL T J bs L N r ops Q rest (Fr n ((d,.int k' e) :: s) ds))(l:ev n s x = .int k a:=by exact rfl)(b:iY T.u t=some ud:=by exact rfl)(c:iY T.u t' = some (.int k'):=by exact rfl)(i:k'.wrap a=e:=by first|exact ox o_|exact GA o_|exact T2 o_|exact w32u o_)(f:gE ops n s g=true:=by exact rfl):SL T J bs L (N+1) r ops Q (⟨some d,.convert t t' x,ty,pos,af,g⟩ :: rest) (Fr n s ds):=⟨fun w j h=>pw f (fun _=>Wk l (kN T.kT b) (kN T.kT c) i) (K.out w j h)⟩
theorem SL.not{b:Bool}(K:SL T J bs L N r ops Q rest (Fr n ((d,.bool !b) :: s) ds))(c:ev n s x = .bool b:=by exact rfl)(a:gE ops n s g=true:=by exact rfl):SL T J bs L (N+1) r ops Q (⟨some d,.unOp .not t x,ty,pos,af,g⟩ :: rest) (Fr n s ds):=⟨fun w j h=>pw a (fun _=>acg c rfl) (K.out w j h)⟩
theorem SL.pT  (K:SL T J bs L N r ops Q rest (Fr n ((d,v) :: s) ds)) (a:ev n s x = .bool true:=by exact rfl) (c:ev n s y=v:=by conv=>lhs;whnf) (b:gE ops n s g=true:=by exact rfl):SL T J bs L (N+1) r ops Q (⟨some d,.pick x y z,ty,pos,af,g⟩ :: rest) (Fr n s ds):=⟨fun w j h=>pw b (fun _=>acN a c) (K.out w j h)⟩
theorem SL.pF  (K:SL T J bs L N r ops Q rest (Fr n ((d,v) :: s) ds)) (a:ev n s x = .bool false:=by exact rfl) (c:ev n s z=v:=by conv=>lhs;whnf) (b:gE ops n s g=true:=by exact rfl):SL T J bs L (N+1) r ops Q (⟨some d,.pick x y z,ty,pos,af,g⟩ :: rest) (Fr n s ds):=⟨fun w j h=>pw b (fun _=>acM a c) (K.out w j h)⟩
theorem SL.Gd{b o i sz by_:Nat}{q:Value}{a:TypeId}{cs cs' vs:List Value}(K:SL T (fun _=>True) bs L' N r ops Q rest (Fr n s ds))(m:ev n s x = .pointer (some ⟨b,o,none⟩):=by exact rfl)
 (hv:ev n s y=v:=by conv=>lhs;whnf) (p:v.cells.toList=vs:=by first|exact NJ|exact NI|exact NK|exact NL|exact NH|exact cNilF|exact cMap|exact rfl) (l:iY T.i t=some (sz,by_,q):=by exact rfl) (k:vs.length=sz:=by exact rfl) (h1:vs.all (·.oneCell')=true:=by exact rfl) (hi:L[i]? = some (blk b a cs):=by first|exact qL|exact qM|exact nF|exact nG|exact qN|exact qO|exact qP|exact qQ)
 (e:Nat.ble (o+vs.length) cs.length=true:=by exact rfl) (hcs:setAt cs o vs=cs' := by dsimp only[setAt,List.take,List.drop,List.length,List.append,HAppend.hAppend,Append.append]<;>exact rfl) (d:L.set i (blk b a cs')=L' := by dsimp only[List.set]<;>exact rfl) (f:gE ops n s g=true:=by exact rfl) :
 SL T (fun _=>True) bs L (N+1) r ops Q (⟨none,.store t x y,ty,pos,af,g⟩ :: rest) (Fr n s ds):=⟨fun w j h=>Go.Sx.Gd i f m hv p (mL T.mZ l) k h1 h hi e hcs d fun w' c => K.out w' trivial c⟩
theorem run{p q:Prop} (h:p->q:=by
 intro h
 repeat (first
  | refine SP.sq ?_|refine SP.rg ?_|refine SP.KE ?_|refine SL.mv ?_|refine SL.nil ?_|refine SQ.tN ?_|refine SL.P4 ?_|refine SL.Pn ?_|refine SL.Fj ?_|refine SL.Pj ?_|refine SL.fa ?_|refine SL.ld ?_|refine SL.JC ?_|refine SL.JE ?_|refine SL.JG ?_|refine SL.vW ?_|refine SL.uV ?_|refine SL.cmp ?_|refine SP.cT ?_|refine SP.cF ?_|refine SL.ar ?_|refine SL.ex ?_|refine SL.P3 ?_|refine SL.iP ?_|refine SL.Pk ?_|refine SL.jq ?_|refine SL.uR ?_|refine SL.JF ?_|refine SL.JD ?_|refine SL.JH ?_|refine SL.Qr ?_|refine SL.Qp ?_|refine SL.cv ?_|refine SL.not ?_|refine SL.pT ?_|refine SL.pF ?_|refine SL.jL ?_|refine SL.ixG ?_|refine SL.fldG ?_|refine SL.len ?_|refine SL.nP ?_|refine SL.eP ?_|refine SL.Gd ?_|refine SL.sk ?_|refine SL.skN ?_|refine SP.bk ?_|refine SP.sp ?_|refine SP.xt ?_|refine SP.rt ?_|refine SQ.tX ?_|refine SQ.tR ?_|refine SQ.bN ?_|refine SQ.bR ?_|refine SQ.bX ?_|refine SQ.Ie ?_|refine SP.scp ?_|refine SQ.KS ?_|refine SQ.scX ?_|refine SQ.KT ?_|refine SP.JB ?_)
 exact h):p->q:=h
variable {ops' : Array Oper} {Q' : Exit->Act->World->Prop} {l' : List Oper} {a' : Act} {c c' : Code} {e e' : Exit}
theorem gO[T:TT P](b:St bs L w)(N:Nat)(k:∀ w', St bs L' w' -> WL r P ops' Q' l' a' w')(h:SL T (fun _=>True) bs L' 0 r ops' Q' l' a' -> SL T (fun _=>True) bs L N r ops Q l a:=by exact run):WL r P ops Q l a w:=(h ⟨fun w' _ hs=>k w' hs⟩).out w trivial b
theorem fK[T:TT P](b:St bs L w)(N:Nat)(k:WL r P ops' Q' l' a' w)(h:SL T (fun x=>x=w) bs L 0 r ops' Q' l' a' -> SL T (fun x=>x=w) bs L N r ops Q l a:=by exact run):WL r P ops Q l a w:=(h ⟨fun w' j _=>by subst j;exact k⟩).out w rfl b
theorem wX[T:TT P](b:St bs L w)(N:Nat)(k:∀ w', St bs L' w' -> WP r P c' Q' a' w')(h:SP T (fun _=>True) bs L' 0 r Q' c' a' -> SL T (fun _=>True) bs L N r ops Q l a:=by exact run):WL r P ops Q l a w:=(h ⟨fun w' _ hs=>k w' hs⟩).out w trivial b
theorem gH[T:TT P](b:St bs L w)(N:Nat)(k:WP r P c' Q' a' w)(h:SP T (fun x=>x=w) bs L 0 r Q' c' a' -> SL T (fun x=>x=w) bs L N r ops Q l a:=by exact run):WL r P ops Q l a w:=(h ⟨fun w' j _=>by subst j;exact k⟩).out w rfl b
theorem j7[T:TT P](b:St bs L w)(N:Nat)(k:∀ w', St bs L' w' -> Q' e' a' w')(h:SQ T (fun _=>True) bs L' 0 r Q' e' a' -> SL T (fun _=>True) bs L N r ops Q l a:=by exact run):WL r P ops Q l a w:=(h ⟨fun w' _ hs=>k w' hs⟩).out w trivial b
theorem fQ[T:TT P](b:St bs L w)(N:Nat)(k:Q' e' a' w)(h:SQ T (fun x=>x=w) bs L 0 r Q' e' a' -> SL T (fun x=>x=w) bs L N r ops Q l a:=by exact run):WL r P ops Q l a w:=(h ⟨fun w' j _=>by subst j;exact k⟩).out w rfl b
theorem q7[T:TT P](b:St bs L w)(N:Nat)(k:∀ w', St bs L' w' -> WL r P ops' Q' l' a' w')(h:SL T (fun _=>True) bs L' 0 r ops' Q' l' a' -> SP T (fun _=>True) bs L N r Q c a:=by exact run):WP r P c Q a w:=(h ⟨fun w' _ hs=>k w' hs⟩).out w trivial b
theorem fR[T:TT P](b:St bs L w)(N:Nat)(k:WL r P ops' Q' l' a' w)(h:SL T (fun x=>x=w) bs L 0 r ops' Q' l' a' -> SP T (fun x=>x=w) bs L N r Q c a:=by exact run):WP r P c Q a w:=(h ⟨fun w' j _=>by subst j;exact k⟩).out w rfl b
theorem s9[T:TT P](b:St bs L w)(N:Nat)(k:WP r P c' Q' a' w)(h:SP T (fun x=>x=w) bs L 0 r Q' c' a' -> SP T (fun x=>x=w) bs L N r Q c a:=by exact run):WP r P c Q a w:=(h ⟨fun w' j _=>by subst j;exact k⟩).out w rfl b
theorem iS[T:TT P](b:St bs L w)(N:Nat)(k:Q' e' a' w)(h:SQ T (fun x=>x=w) bs L 0 r Q' e' a' -> SP T (fun x=>x=w) bs L N r Q c a:=by exact run):WP r P c Q a w:=(h ⟨fun w' j _=>by subst j;exact k⟩).out w rfl b
theorem KQ(T:TT P)(r:Option Nat)(b:St bs L w)(N:Nat)(k:∀ w', St bs L' w' -> WL r P ops' Q' l' a' w')(h:SL T (fun _=>True) bs L' 0 r ops' Q' l' a' -> SQ T (fun _=>True) bs L N r Q e a:=by exact run):Q e a w:=(h ⟨fun w' _ hs=>k w' hs⟩).out w trivial b
theorem Ko(T:TT P)(r:Option Nat)(b:St bs L w)(N:Nat)(k:WL r P ops' Q' l' a' w)(h:SL T (fun x=>x=w) bs L 0 r ops' Q' l' a' -> SQ T (fun x=>x=w) bs L N r Q e a:=by exact run):Q e a w:=(h ⟨fun w' j _=>by subst j;exact k⟩).out w rfl b
theorem sQP(T:TT P)(r:Option Nat)(b:St bs L w)(N:Nat)(k:∀ w', St bs L' w' -> WP r P c' Q' a' w')(h:SP T (fun _=>True) bs L' 0 r Q' c' a' -> SQ T (fun _=>True) bs L N r Q e a:=by exact run):Q e a w:=(h ⟨fun w' _ hs=>k w' hs⟩).out w trivial b
theorem Kq(T:TT P)(r:Option Nat)(b:St bs L w)(N:Nat)(k:WP r P c' Q' a' w)(h:SP T (fun x=>x=w) bs L 0 r Q' c' a' -> SQ T (fun x=>x=w) bs L N r Q e a:=by exact run):Q e a w:=(h ⟨fun w' j _=>by subst j;exact k⟩).out w rfl b
theorem sQQ(T:TT P)(r:Option Nat)(b:St bs L w)(N:Nat)(k:∀ w', St bs L' w' -> Q' e' a' w')(h:SQ T (fun _=>True) bs L' 0 r Q' e' a' -> SQ T (fun _=>True) bs L N r Q e a:=by exact run):Q e a w:=(h ⟨fun w' _ hs=>k w' hs⟩).out w trivial b
theorem uZ(T:TT P)(r:Option Nat)(b:St bs L w)(N:Nat)(k:Q' e' a' w)(h:SQ T (fun x=>x=w) bs L 0 r Q' e' a' -> SQ T (fun x=>x=w) bs L N r Q e a:=by exact run):Q e a w:=(h ⟨fun w' j _=>by subst j;exact k⟩).out w rfl b
end
end Go.Sx
namespace Go.Sx
open Go
section
variable {P:Program} {ops:Array Oper} {n:Nat} {o:Oper} {s sA sE:List (Nat×Value)} {v:Value} {w w0 w1:World} {C:World->Prop}
def Rd(P:Program)(ops:Array Oper)(n:Nat)(o:Oper)(s:List (Nat×Value))(v:Value)(I:World->Prop):Prop:=∀ w,I w->mE P ops n o s v I w
end
end Go.Sx
namespace Go.Sx
open Go
section
variable {P:Program}
structure Rf (T:TT P) (bs:List (World×List Nat)) (L:List fS) (ops:Array Oper) (n:Nat) (o:Oper) (s:List (Nat×Value)) (v:Value):Prop where
 out:Rd P ops n o s v (St bs L)
variable {T:TT P} {bs bs' : List (World×List Nat)} {L L1:List fS} {r:Option Nat} {ops:Array Oper} {Q:Exit->Act->World->Prop} {n m:Nat} {s sA sE:List (Nat×Value)} {ds:List Deferred} {w w' w0 w1:World}
variable {d i j:Nat} {ty t:TypeId} {pos:String} {af:Array Edge} {g:Option (Nat×Bool)} {v u:Value} {x y z:Operand} {l B:List Oper} {o:Oper} {vs vA vB:List Value} {cs:List (Option Value)} {k:List Nat} {R:List Oper} {op:Op} {dd:Option Nat}
theorem Rf.mv  (b:ev n s x=v:=by conv=>lhs;whnf) (a:gE ops n s g=true:=by exact rfl):Rf T bs L ops n ⟨some d,.move x,ty,pos,af,g⟩ s (v):=⟨fun w h=>.inl ⟨a,rfl,.inl (k7 b)⟩⟩
theorem Rf.fa{i b o o' szf byf:Nat}{zf:Value}{fields:Array Field}{f:Field}(l:ev n s x = .pointer (some ⟨b,o,none⟩):=by exact rfl)(a:iY T.u t=some (.struct fields):=by exact rfl)(c:fields[i]? = some f:=by exact rfl)(k:iY T.i f.type=some (szf+1,byf,zf):=by exact rfl)(j:o+f.offset=o' := by conv=>lhs;whnf)(e:gE ops n s g=true:=by exact rfl):Rf T bs L ops n ⟨some d,.fieldAddr t x i,ty,pos,af,g⟩ s (.pointer (some ⟨b,o', none⟩)):=⟨fun w h=>.inl ⟨e,rfl,.inl (uM l (kN T.kT a) c (mL T.mZ k) j)⟩⟩
theorem Rf.ld{b o i:Nat}{a:TypeId}{cs:List Value}{ud:TypeDesc}(j:ev n s x = .pointer (some ⟨b,o,none⟩):=by exact rfl)(c:iY T.u t=some ud:=by exact rfl)(f:j9 ud=false:=by exact rfl)(hi:L[i]? = some (blk b a cs):=by first|exact qL|exact qM|exact nF|exact nG|exact qN|exact qO|exact qP|exact qQ)(hv:cs[o]? = some v:=by exact rfl)(e:gE ops n s g=true:=by exact rfl):Rf T bs L ops n ⟨some d,.load t x,ty,pos,af,g⟩ s (v):=⟨fun w h=>.inl ⟨e,rfl,.inl (mK j (kN T.kT c) f (h.rQ hi hv))⟩⟩
theorem Rf.vW  (b:ev n s x=v:=by conv=>lhs;whnf) (a:gE ops n s g=true:=by exact rfl):Rf T bs L ops n ⟨some d,.assign x,ty,pos,af,g⟩ s (v):=⟨fun w h=>.inl ⟨a,rfl,.inl (vX b)⟩⟩
theorem Rf.ex{i:Nat}{vs:Array Value}(b:ev n s x = .tuple vs:=by exact rfl)(hv:vs[i]? = some v:=by exact rfl)(a:gE ops n s g=true:=by exact rfl):Rf T bs L ops n ⟨some d,.extract x i,ty,pos,af,g⟩ s (v):=⟨fun w h=>.inl ⟨a,rfl,.inl (E1 b hv)⟩⟩
variable {N:Nat}
end
end Go.Sx
namespace Go.Sx
open Go
structure Nd where
 k0:Nat
 k1:Nat
 up:Nat
 flip:Bool
 key:Int
 size:Int
 first:Nat
 iL:Int
 total:Int
 deriving Inhabited
def Nd.cells(x:Nd):List Value:=[.int .i64 x.k0,.int .i64 x.k1,.int .i64 x.up,.bool x.flip,.int .i64 x.key,.int .i64 x.size,.int .i64 x.first,.int .i64 x.iL,.int .i64 x.total]
def jH(xs:List Nd)(i:Nat):Nat×Bool :=
 if (fJ xs i).up=0 then(0,false)else if (fJ xs (fJ xs i).up).k0=i then(0,true)else if (fJ xs (fJ xs i).up).k1=i then(1,true)else(0,false)
def kX(xs:List Nd)(i j:Nat):Bool:=decide ((fJ xs i).key<(fJ xs j).key\/(fJ xs i).key=(fJ xs j).key/\i<j)
def iW(xs:List Nd)(i s k:Nat):List Nd :=
 let ys:=if s=0 then fO xs i (fun x=>{ x with k0:=k })else fO xs i (fun x=>{ x with k1:=k })
 if k=0 then ys else fO ys k (fun x=>{ x with up:=i })
def jZ(xs:List Nd)(i:Nat):List Nd :=
 if (fJ xs i).flip=true then
  let y0:=fO xs i (fun x=>{ x with flip:=false })
  let y1:=fO y0 i (fun x=>{ x with k0:=(fJ y0 i).k1 })
  let y2:=fO y1 i (fun x=>{ x with k1:=(fJ y0 i).k0 })
  let a:=if (fJ y2 i).k0=0 then y2 else fO y2 (fJ y2 i).k0 (fun x=>{ x with flip := !(fJ y2 (fJ y2 i).k0).flip })
  if (fJ y2 i).k1=0 then a else fO a (fJ y2 i).k1 (fun x=>{ x with flip := !(fJ a (fJ y2 i).k1).flip })
 else xs
structure gf (xs:List Nd):Prop where
 k0:∀ i,i<xs.length->(fJ xs i).k0<xs.length
 k1:∀ i,i<xs.length->(fJ xs i).k1<xs.length
 up:∀ i,i<xs.length->(fJ xs i).up<xs.length
 first:∀ i,i<xs.length->(fJ xs i).first<xs.length
 key:∀ i,i<xs.length->gZ .i64 (fJ xs i).key
theorem gf.iN{xs:List Nd}{k:Nat}{f:Nd->Nd}(h:gf xs)(hk:k<xs.length)
 (a:∀ x:Nd,x.k0<xs.length->x.k1<xs.length->x.up<xs.length->x.first<xs.length->gZ .i64 x.key->(f x).k0<xs.length/\(f x).k1<xs.length/\(f x).up<xs.length/\(f x).first<xs.length/\gZ .i64 (f x).key):gf (fO xs k f):=by
 have key:∀ i,i<xs.length->(fJ (fO xs k f) i).k0<xs.length/\(fJ (fO xs k f) i).k1<xs.length/\(fJ (fO xs k f) i).up<xs.length/\(fJ (fO xs k f) i).first<xs.length/\gZ .i64 (fJ (fO xs k f) i).key:=by
  intro i hi
  rw[jh hk]
  split
  . exact a _ (h.k0 k hk) (h.k1 k hk) (h.up k hk) (h.first k hk) (h.key k hk)
  . exact⟨h.k0 i hi,h.k1 i hi,h.up i hi,h.first i hi,h.key i hi⟩
 refine⟨fun i hi=>?_,fun i hi=>?_,fun i hi=>?_,fun i hi=>?_,fun i hi=>?_⟩<;>(rw[gC]at hi;try rw[gC])
 . exact(key i hi).1
 . exact(key i hi).2.1
 . exact(key i hi).2.2.1
 . exact(key i hi).2.2.2.1
 . exact(key i hi).2.2.2.2
end Go.Sx
namespace Go.Sx
open Go
inductive Tr where
 | nil:Tr
 | nd (l:Tr) (i:Nat) (r:Tr):Tr
namespace Tr
def root:Tr->Nat
 | .nil=>0
 | .nd _ i _=>i
def mem:Tr->List Nat
 | .nil=>[]
 | .nd l i r=>l.mem++i :: r.mem
end Tr
def jf(xs:List Nd)(d:Bool)(i:Nat):Nat:=bif d then(fJ xs i).k0 else(fJ xs i).k1
def ou(xs:List Nd)(L:List Nat):Int:=(L.map fun j=>1+(fJ xs j).iL).sum
def DS(xs:List Nd)(m:Nat)(L:List Nat):Prop:=m∈L/\∀ j∈L,j=m\/kX xs m j=true
structure pL (xs:List Nd) (i:Nat) (L:List Nat):Prop where
 size:(fJ xs i).size=(L.length:Int)
 total:(fJ xs i).total=IntKind.i64.wrap (ou xs L)
 first:DS xs (fJ xs i).first L
def gR(xs:List Nd):Tr->Nat->Prop
 | .nil,_=>True
 | .nd l i r,p=>(i≠0/\i<xs.length)/\((fJ xs i).k0=l.root/\(fJ xs i).k1=r.root/\(fJ xs i).up=p)/\pL xs i (l.mem++i :: r.mem)/\gR xs l i/\gR xs r i
abbrev Cx:=List (Bool×Nat×Tr)
def mj(d:Bool)(t:Tr)(g:Nat)(s:Tr):Tr:=bif d then .nd t g s else .nd s g t
def jX(d:Bool)(L:List Nat)(g:Nat)(s:Tr):List Nat:=bif d then L++g :: s.mem else s.mem++g :: L
def j6:Cx->Tr->Tr
 | [],t=>t
 | (d,g,s) :: c,t=>j6 c (mj d t g s)
def lI:Cx->List Nat->List Nat
 | [],L=>L
 | (d,g,s) :: c,L=>lI c (jX d L g s)
def wP:Cx->Nat->Nat
 | [],p=>p
 | (_,g,_) :: _,_=>g
def jY:Cx->List Nat
 | []=>[]
 | (_,g,s) :: c=>g :: s.mem++jY c
def mF(xs:List Nd):Cx->Nat->List Nat->Nat->Prop
 | [],_,_,_=>True
 | (d,g,s) :: c,h,L,p=>(g≠0/\g<xs.length)/\(jf xs d g=h/\jf xs (!d) g=s.root/\(fJ xs g).up=wP c p)/\pL xs g (jX d L g s)/\gR xs s g/\mF xs c g (jX d L g s) p
theorem Sy(d:Bool)(t:Tr)(g:Nat)(s:Tr):(mj d t g s).root=g:=by cases d<;>rfl
theorem JW(d:Bool)(t:Tr)(g:Nat)(s:Tr):(mj d t g s).mem=jX d t.mem g s:=by cases d<;>rfl
theorem pW:∀ (c:Cx) (t:Tr),(j6 c t).mem=lI c t.mem
 | [],t=>rfl
 | (d,g,s) :: c,t=>by rw[j6,pW c,JW,lI]
theorem adD{xs:List Nd}{d:Bool}{t s:Tr}{g p:Nat}:gR xs (mj d t g s) p↔(g≠0/\g<xs.length)/\(jf xs d g=t.root/\jf xs (!d) g=s.root/\(fJ xs g).up=p)/\pL xs g (jX d t.mem g s)/\gR xs t g/\gR xs s g:=by
 cases d
 . simp only[mj,cond_false,gR,jf,Bool.not_false,cond_true,jX]
   constructor
   . rintro⟨a,⟨b,c,e⟩,f,h,i⟩;exact⟨a,⟨c,b,e⟩,f,i,h⟩
   . rintro⟨a,⟨b,c,e⟩,f,h,i⟩;exact⟨a,⟨c,b,e⟩,f,i,h⟩
 . simp only[mj,cond_true,gR,jf,Bool.not_true,cond_false,jX]
theorem yS{xs:List Nd}:∀ (c:Cx) (t:Tr) (p:Nat),gR xs (j6 c t) p↔gR xs t (wP c p)/\mF xs c t.root t.mem p
 | [],t,p=>by simp[j6,wP,mF]
 | (d,g,s) :: c,t,p=>by
  rw[j6,yS c,adD,Sy,JW]
  simp only[wP,mF]
  constructor
  . rintro⟨⟨a,b,e,f,h⟩,i⟩;exact⟨f,a,b,e,h,i⟩
  . rintro⟨f,a,b,e,h,i⟩;exact⟨⟨a,b,e,f,h⟩,i⟩
structure KL (xs ys:List Nd):Prop where
 len:ys.length=xs.length
 key:∀ j,(fJ ys j).key=(fJ xs j).key
 iL:∀ j,(fJ ys j).iL=(fJ xs j).iL
theorem KL.refl(xs:List Nd):KL xs xs:=⟨rfl,fun _=>rfl,fun _=>rfl⟩
theorem KL.trans{xs ys zs:List Nd}(h:KL xs ys)(k:KL ys zs):KL xs zs:=⟨k.len.trans h.len,fun j=>(k.key j).trans (h.key j),fun j=>(k.iL j).trans (h.iL j)⟩
theorem KL.before{xs ys:List Nd}(h:KL xs ys)(i j:Nat):kX ys i j=kX xs i j:=by simp[kX,h.key]
theorem KL.Gu{xs ys:List Nd}(h:KL xs ys)(L:List Nat):ou ys L=ou xs L:=by simp[ou,h.iL]
theorem KL.Jn{xs ys:List Nd}(h:KL xs ys){m:Nat}{L:List Nat}(k:DS xs m L):DS ys m L:=⟨k.1,fun j a=>by rw[h.before];exact k.2 j a⟩
theorem pL.to{xs ys:List Nd}{i:Nat}{L:List Nat}(h:pL xs i L)(k:KL xs ys)(hs:(fJ ys i).size=(fJ xs i).size)(b:(fJ ys i).total=(fJ xs i).total)(a:(fJ ys i).first=(fJ xs i).first):pL ys i L :=
 ⟨hs.trans h.size,by rw[b,h.total,k.Gu],by rw[a];exact k.Jn h.first⟩
theorem gR.to{xs ys:List Nd}(k:KL xs ys):∀ {t:Tr} {p:Nat},gR xs t p->(∀ j∈t.mem,fJ ys j=fJ xs j)->gR ys t p
 | .nil,_,_,_=>trivial
 | .nd l i r,p,h,hs=>by
  obtain⟨⟨b,c⟩,⟨d,e,f⟩,g,m,n⟩:=h
  have hi:=hs i (by simp[Tr.mem])
  refine⟨⟨b,by rw[k.len];exact c⟩,⟨by rw[hi];exact d,by rw[hi];exact e,by rw[hi];exact f⟩,g.to k (by rw[hi]) (by rw[hi]) (by rw[hi]),gR.to k m fun j a=>hs j (by simp[Tr.mem,a]),gR.to k n fun j a=>hs j (by simp[Tr.mem,a])⟩
theorem gR.up{xs ys:List Nd}(k:KL xs ys){t:Tr}{p q:Nat}(h:gR xs t p)(hs:∀ j∈t.mem,j≠t.root->fJ ys j=fJ xs j)(a:fJ ys t.root={ fJ xs t.root with up:=q })(c:t.mem.Nodup):gR ys t q:=by
 cases t with
 | nil=>trivial
 | nd l i r =>
  obtain⟨⟨e,f⟩,⟨g,m,v⟩,n,o,s⟩:=h
  simp only[Tr.root]at a hs
  simp only[Tr.mem]at c hs
  rw[zu]at c
  obtain⟨n1,d,u⟩:=c
  rw[zx]at d
  refine⟨⟨e,by rw[k.len];exact f⟩,⟨by rw[a];exact g,by rw[a];exact m,by rw[a]⟩,n.to k (by rw[a]) (by rw[a]) (by rw[a]),gR.to k o fun j b=>hs j (by simp[b]) ?_,gR.to k s fun j b=>hs j (by simp[b]) ?_⟩
  . rintro rfl;exact u j b j s_ rfl
  . rintro rfl;exact d.1 b
theorem mF.to{xs ys:List Nd}(k:KL xs ys):∀ {c:Cx} {r p:Nat} {L:List Nat},mF xs c r L p->(∀ j∈jY c,fJ ys j=fJ xs j)->mF ys c r L p
 | [],_,_,_,_,_=>trivial
 | (d,g,s) :: c,r,p,L,h,hs=>by
  obtain⟨⟨i,l⟩,⟨e,f,m⟩,n,o,q⟩:=h
  have a:=hs g (by simp[jY])
  refine⟨⟨i,by rw[k.len];exact l⟩,⟨by simp only[jf,a]at e ⊢;exact e,by simp only[jf,a]at f ⊢;exact f,by rw[a];exact m⟩,n.to k (by rw[a]) (by rw[a]) (by rw[a]),gR.to k o fun j b=>hs j (by simp[jY,b]),mF.to k q fun j b=>hs j (by simp[jY,b])⟩
theorem mF.wB{xs ys:List Nd}(k:KL xs ys){d:Bool}{g r e p:Nat}{s:Tr}{c:Cx}{L:List Nat}(h:mF xs ((d,g,s) :: c) r L p)(hs:∀ j∈s.mem++jY c,fJ ys j=fJ xs j)
 (a:fJ ys g=bif d then { fJ xs g with k0:=e } else { fJ xs g with k1:=e }):mF ys ((d,g,s) :: c) e L p:=by
 obtain⟨⟨i,l⟩,⟨t,f,m⟩,n,o,q⟩:=h
 refine⟨⟨i,by rw[k.len];exact l⟩,⟨?_,?_,?_⟩,n.to k ?_ ?_ ?_,gR.to k o fun j b=>hs j (by simp[b]),mF.to k q fun j b=>hs j (by simp[b])⟩
 . cases d<;>simp[jf,a]
 . cases d<;>simp[jf,a]at f ⊢ <;> exact f
 all_goals cases d<;>simp[a]<;>exact m
theorem CQ:∀ {c:Cx} {L:List Nat} {j:Nat},j∈lI c L↔j∈L\/j∈jY c
 | [],L,j=>by simp[lI,jY]
 | (d,g,s) :: c,L,j=>by
  rw[lI,CQ (c:=c)]
  cases d<;>simp only[jX,jY,cond_true,cond_false,zr,zg]<;>simp only[or_assoc,or_left_comm,or_comm]
theorem CY:∀ {c:Cx} {L:List Nat},(lI c L).Nodup->L.Nodup/\(jY c).Nodup/\∀ j∈L,j∉jY c
 | [],L,h=>⟨h,by simp[jY],by simp[jY]⟩
 | (d,g,s) :: c,L,h=>by
  obtain⟨n,t,o⟩:=CY (c:=c) h
  have key:L.Nodup/\s.mem.Nodup/\g∉L/\g∉s.mem/\∀ j∈L,j∉s.mem:=by
   cases d
   . simp only[jX,cond_false,zu,zx,zg]at n
     obtain⟨k1,⟨l,m⟩,i⟩:=n
     exact⟨m,k1,l,fun q=>i g q g (.inl rfl) rfl,fun j f hs=>i j hs j (.inr f) rfl⟩
   . simp only[jX,cond_true,zu,zx,zg]at n
     obtain⟨k1,⟨l,m⟩,i⟩:=n
     exact⟨k1,m,fun q=>i g q g (.inl rfl) rfl,l,fun j f hs=>i j f j (.inr hs) rfl⟩
  obtain⟨k1,l,m,i,u⟩:=key
  have r:∀ j,j∈jX d L g s↔j∈L\/j=g\/j∈s.mem:=fun j=>by cases d<;>simp only[jX,cond_true,cond_false,zr,zg,or_assoc,or_left_comm,or_comm]
  refine⟨k1,?_,fun j f k=>?_⟩
  . rw[jY,zu,zx]
    refine⟨⟨i,l⟩,t,fun a p b hb e=>?_⟩
    subst e
    rcases zg.1 p with rfl|p
    . exact o a ((r a).2 (.inr (.inl rfl))) hb
    . exact o a ((r a).2 (.inr (.inr p))) hb
  . rw[jY,zr,zg]at k
    rcases k with (rfl|k)|k
    . exact m f
    . exact u j f k
    . exact o j ((r j).2 (.inl f)) k
end Go.Sx
namespace Go.Sx
open Go
theorem ae0{l l' : List Int}(h:l.Perm l'):l.sum=l'.sum:=by
 induction h with
 | nil=>rfl
 | cons x _ c=>simp only[List.sum_cons,c]
 | swap x y l=>simp only[List.sum_cons];omega
 | trans _ _ a b=>exact a.trans b
theorem afy{xs:List Nd}{L L' : List Nat}(h:L.Perm L'):ou xs L=ou xs L' := ae0 (h.map _)
theorem pL.perm{xs:List Nd}{i:Nat}{L L' : List Nat}(h:pL xs i L)(k:L.Perm L'):pL xs i L' := by
 refine⟨by rw[h.size,k.length_eq],?_,⟨k.mem_iff.1 h.first.1,fun j a=>h.first.2 j (k.mem_iff.2 a)⟩⟩
 rw[h.total,afy k]
theorem afx(xs:List Nd)(L M:List Nat):ou xs (L++M)=ou xs L+ou xs M:=by simp[ou]
theorem LI(x:Int):IntKind.i64.wrap x=if 9223372036854775808<=x%18446744073709551616 then x%18446744073709551616-18446744073709551616 else x%18446744073709551616:=by
 show (if (true&&decide (x%18446744073709551616≥9223372036854775808))=true then x%18446744073709551616-18446744073709551616 else x%18446744073709551616)=_
 simp
theorem Uh(x:Int):IntKind.i64.wrap x=(x+9223372036854775808)%18446744073709551616-9223372036854775808:=by
 rw[LI];split<;>omega
theorem agp(a b:Int):IntKind.i64.wrap (IntKind.i64.wrap a+IntKind.i64.wrap b)=IntKind.i64.wrap (a+b):=by
 simp only[Uh];omega
theorem agq{x:Int}(h : -9223372036854775808<=x)(a : x<=9223372036854775807):IntKind.i64.wrap x=x:=by rw[Uh];omega
def lQ(xs:List Nd)(i k:Nat):List Nd :=
 if k=0 then xs else
  let y0:=fO xs i (fun x=>{ x with size:=IntKind.i64.wrap (x.size+(fJ xs k).size) })
  let y1:=fO y0 i (fun x=>{ x with total:=IntKind.i64.wrap (x.total+(fJ y0 k).total) })
  if kX y1 (fJ y1 k).first (fJ y1 i).first then fO y1 i (fun x=>{ x with first:=(fJ y1 k).first })else y1
def iG(xs:List Nd)(i:Nat):List Nd :=
 let y:=fO xs i (fun x=>{ x with size:=1,first:=i,total:=IntKind.i64.wrap (1+x.iL) })
 lQ (lQ y i (fJ xs i).k0) i (fJ xs i).k1
structure lU (xs ys:List Nd) (i:Nat):Prop where
 len:ys.length=xs.length
 other:∀ j,j≠i->fJ ys j=fJ xs j
 here:∃ s t f,fJ ys i={ fJ xs i with size:=s,total:=t,first:=f }
theorem lU.refl(xs:List Nd)(i:Nat):lU xs xs i:=⟨rfl,fun _ _=>rfl,_,_,_,rfl⟩
theorem lU.trans{xs ys zs:List Nd}{i:Nat}(h:lU xs ys i)(k:lU ys zs i):lU xs zs i:=by
 obtain⟨s,t,f,e⟩:=h.here
 obtain⟨c, t', b, e'⟩:=k.here
 exact⟨k.len.trans h.len,fun j a=>(k.other j a).trans (h.other j a),c, t', b, by rw[e', e]⟩
theorem lU.kl{xs ys:List Nd}{i:Nat}(h:lU xs ys i):KL xs ys:=by
 obtain⟨s,t,f,e⟩:=h.here
 refine⟨h.len,fun j=>?_,fun j=>?_⟩<;>(by_cases hj:j=i)
 . subst hj;rw[e]
 . rw[h.other j hj]
 . subst hj;rw[e]
 . rw[h.other j hj]
theorem lU.flip{xs ys:List Nd}{i:Nat}(h:lU xs ys i)(j:Nat):(fJ ys j).flip=(fJ xs j).flip:=by
 obtain⟨s,t,f,e⟩:=h.here
 by_cases hj:j=i
 . subst hj;rw[e]
 . rw[h.other j hj]
theorem Sj{xs:List Nd}{i k:Nat}{L M:List Nat}(hi:i<xs.length)(hk:k<xs.length)(h:pL xs i L)(v:k≠0->k≠i/\pL xs k M)(t:k=0->M=[])(z:L.length+M.length<=1000001) :
 lU xs (lQ xs i k) i/\pL (lQ xs i k) i (L++M):=by
 unfold lQ
 by_cases hk0:k=0
 . rw[if_pos hk0,t hk0,vH];exact⟨lU.refl _ _,h⟩
 . rw[if_neg hk0]
   obtain⟨p,hv⟩:=v hk0
   obtain⟨y0,f⟩:∃ y,y=fO xs i (fun x=>{ x with size:=IntKind.i64.wrap (x.size+(fJ xs k).size) }):=⟨_,rfl⟩
   obtain⟨y1,e1⟩:∃ y,y=fO y0 i (fun x=>{ x with total:=IntKind.i64.wrap (x.total+(fJ y0 k).total) }):=⟨_,rfl⟩
   simp only[<-f,<-e1]
   have l0:y0.length=xs.length:=by rw[f,gC]
   have r:y1.length=xs.length:=by rw[e1,gC,l0]
   have a0:fJ y0 i={ fJ xs i with size:=IntKind.i64.wrap ((fJ xs i).size+(fJ xs k).size) }:=by rw[f,jU hi]
   have b0:∀ j,j≠i->fJ y0 j=fJ xs j:=fun j d=>by rw[f,jQ (fun e=>d e.symm)]
   have a1:fJ y1 i={ fJ xs i with size:=IntKind.i64.wrap ((fJ xs i).size+(fJ xs k).size),total:=IntKind.i64.wrap ((fJ xs i).total+(fJ xs k).total) }:=by
    rw[e1,jU o_,a0,b0 k p]
   have b1:∀ j,j≠i->fJ y1 j=fJ xs j:=fun j d=>by rw[e1,jQ (fun e=>d e.symm),b0 j d]
   have l:lU xs y1 i:=⟨r,b1,_,_,_,a1⟩
   have hs:IntKind.i64.wrap ((fJ xs i).size+(fJ xs k).size)=((L++M).length:Int):=by
    rw[h.size,hv.size,agq o_ o_,zw];omega
   have q:IntKind.i64.wrap ((fJ xs i).total+(fJ xs k).total)=IntKind.i64.wrap (ou xs (L++M)):=by
    rw[h.total,hv.total,agp,afx]
   have hb:∀ a b,kX y1 a b=kX xs a b:=l.kl.before
   have fk:(fJ y1 k).first=(fJ xs k).first:=by rw[b1 k p]
   have o:(fJ y1 i).first=(fJ xs i).first:=by rw[a1]
   have s:∀ a b c,kX xs a b=true->kX xs b c=true->kX xs a c=true:=by
    intro a b c m u
    simp only[kX,decide_eq_true_eq]at m u ⊢;omega
   have w:∀ a b,kX xs a b=false->a=b\/kX xs b a=true:=by
    intro a b m
    simp only[kX,decide_eq_true_eq,decide_eq_false_iff_not]at m ⊢;omega
   rw[fk,o,hb]
   cases hc:kX xs (fJ xs k).first (fJ xs i).first with
   | true =>
    rw[if_pos rfl]
    have g:fJ (fO y1 i (fun x=>{ x with first:=(fJ xs k).first })) i={ fJ xs i with size:=IntKind.i64.wrap ((fJ xs i).size+(fJ xs k).size),total:=IntKind.i64.wrap ((fJ xs i).total+(fJ xs k).total),first:=(fJ xs k).first }:=by
     rw[jU o_,a1]
    have n:lU xs (fO y1 i (fun x=>{ x with first:=(fJ xs k).first })) i:=⟨by rw[gC,r],fun j d=>by rw[jQ (fun e=>d e.symm),b1 j d],_,_,_,g⟩
    refine⟨n,⟨by rw[g];exact hs,by rw[g,n.kl.Gu];exact q,?_⟩⟩
    rw[g]
    refine n.kl.Jn ⟨xu _ hv.first.1,fun j d=>?_⟩
    rcases zr.1 d with d|d
    . rcases h.first.2 j d with rfl|d
      . exact .inr hc
      . exact .inr (s _ _ _ hc d)
    . exact hv.first.2 j d
   | false =>
    rw[if_neg s_]
    refine⟨l,⟨by rw[a1];exact hs,by rw[a1,l.kl.Gu];exact q,?_⟩⟩
    rw[o]
    refine l.kl.Jn ⟨xw _ h.first.1,fun j d=>?_⟩
    rcases zr.1 d with d|d
    . exact h.first.2 j d
    . rcases w _ _ hc with e|e
      . rw[<-e];exact hv.first.2 j d
      . rcases hv.first.2 j d with rfl|d
        . exact .inr e
        . exact .inr (s _ _ _ e d)
theorem gR.vals{xs:List Nd}{t:Tr}{p:Nat}(h:gR xs t p):t.root≠0->pL xs t.root t.mem:=by
 cases t with
 | nil=>intro h;exact absurd rfl h
 | nd l i r=>intro _;exact h.2.2.1
theorem gR.ni{xs:List Nd}{t:Tr}{p:Nat}(h:gR xs t p):t.root≠0->t.root∈t.mem:=by
 cases t with
 | nil=>intro h;exact absurd rfl h
 | nd l i r=>intro _;simp[Tr.root,Tr.mem]
theorem gR.KI{xs:List Nd}{t:Tr}{p:Nat}(h:gR xs t p):t.root=0->t.mem=[]:=by
 cases t with
 | nil=>intro _;rfl
 | nd l i r=>intro e;exact absurd e h.1.1
theorem gR.Bd{xs:List Nd}{t:Tr}{p:Nat}(h:gR xs t p)(a:0<xs.length):t.root<xs.length:=by
 cases t with
 | nil=>exact a
 | nd l i r=>exact h.1.2
theorem gR.o8{xs:List Nd}:∀ {t:Tr} {p:Nat},gR xs t p->∀ j∈t.mem,j≠0/\j<xs.length
 | .nil,_,_,j,a=>by simp[Tr.mem]at a
 | .nd l i r,p,h,j,a=>by
  obtain⟨b,_,_,c,d⟩:=h
  simp only[Tr.mem,zr,zg]at a
  rcases a with a|rfl|a
  . exact gR.o8 c j a
  . exact b
  . exact gR.o8 d j a
theorem A9{xs:List Nd}{i:Nat}{l r:Tr}(hi:i≠0/\i<xs.length)(z:gR xs l i)(B:gR xs r i)(w:(fJ xs i).k0=l.root)(h1:(fJ xs i).k1=r.root)(A:(l.mem++i :: r.mem).Nodup)(D:(l.mem++i :: r.mem).length<=1000000) :
 lU xs (iG xs i) i/\gR (iG xs i) (.nd l i r) (fJ xs i).up:=by
 have J:0<xs.length:=by omega
 rw[zu,zx]at A
 obtain⟨n1,⟨o,K⟩,G⟩:=A
 have p:i∉l.mem:=fun h=>G i h i s_ rfl
 simp only[zw,zh]at D
 unfold iG
 obtain⟨y,g⟩:∃ y,y=fO xs i (fun x=>{ x with size:=1,first:=i,total:=IntKind.i64.wrap (1+x.iL) }):=⟨_,rfl⟩
 simp only[<-g]
 have d:fJ y i={ fJ xs i with size:=1,first:=i,total:=IntKind.i64.wrap (1+(fJ xs i).iL) }:=by rw[g,jU hi.2]
 have F:y.length=xs.length:=by rw[g,gC]
 have by_:∀ j,j≠i->fJ y j=fJ xs j:=fun j a=>by rw[g,jQ (fun e=>a e.symm)]
 have q:lU xs y i:=⟨F,by_,_,_,_,d⟩
 have I:pL y i [i]:=⟨by rw[d];rfl,by rw[d,q.kl.Gu];simp[ou],by rw[d];exact⟨s_,fun j a=>.inl (by simpa using a)⟩⟩
 have m : gR y l i:=z.to q.kl fun j a=>by_ j (fun e=>p (e▸a))
 have E : gR y r i:=B.to q.kl fun j a=>by_ j (fun e=>o (e▸a))
 rw[w,h1]
 obtain⟨b,H⟩:=Sj (xs:=y) (i:=i) (k:=l.root) (L:=[i]) (M:=l.mem) o_ (m.Bd o_) I (fun h=>⟨fun e=>p (e▸z.ni h),m.vals h⟩) (m.KI) (by simp;omega)
 have n:=E.to b.kl fun j a=>b.other j (fun e=>o (e▸a))
 have C:=m.to b.kl fun j a=>b.other j (fun e=>p (e▸a))
 obtain⟨c,v2⟩:=Sj (xs:=lQ y i l.root) (i:=i) (k:=r.root) (L:=[i]++l.mem) (M:=r.mem) (by rw[b.len];omega) (n.Bd (by rw[b.len];omega)) H (fun h=>⟨fun e=>o (e▸B.ni h),n.vals h⟩) (n.KI) (by simp;omega)
 have v:=(q.trans b).trans c
 obtain⟨s,t,f,u⟩:=v.here
 refine⟨v,⟨hi.1,by rw[v.len];exact hi.2⟩,⟨by rw[u];exact w,by rw[u];exact h1,by rw[u]⟩,v2.perm ?_,C.to c.kl fun j a=>c.other j (fun e=>p (e▸a)),n.to c.kl fun j a=>c.other j (fun e=>o (e▸a))⟩
 simp only[List.singleton_append,oD]
 exact ur.symm
end Go.Sx
namespace Go.Sx
open Go
def iK(xs:List Nd)(i:Nat):List Nd :=
 let p:=(fJ xs i).up
 let g:=(fJ xs p).up
 let s:=(jH xs i).1
 let y1:=if (jH xs p).2=true then iW xs g (jH xs p).1 i else fO xs i (fun x=>{ x with up:=g })
 let y2:=iW y1 p s (if s=0 then(fJ y1 i).k1 else(fJ y1 i).k0)
 let a:=iW y2 i (1-s) p
 iG (iG a p) i
def q8(d:Bool)(k:Nat)(x:Nd):Nd:=bif d then { x with k0:=k } else { x with k1:=k }
def sd(d:Bool):Nat:=bif d then 0 else 1
theorem KY(d:Bool)(k:Nat)(x:Nd):(q8 d k x).key=x.key:=by cases d<;>rfl
theorem KZ(d:Bool)(k:Nat)(x:Nd):(q8 d k x).iL=x.iL:=by cases d<;>rfl
theorem KX(d:Bool)(k:Nat)(x:Nd):(q8 d k x).flip=x.flip:=by cases d<;>rfl
theorem aer(d:Bool)(k:Nat)(x:Nd):(q8 d k x).up=x.up:=by cases d<;>rfl
theorem PM(xs:List Nd)(i:Nat)(d:Bool)(k:Nat):iW xs i (sd d) k=if k=0 then fO xs i (q8 d k)else fO (fO xs i (q8 d k)) k (fun x=>{ x with up:=i }):=by
 cases d<;>rfl
theorem Jc(xs:List Nd)(i:Nat)(d:Bool)(k:Nat):(iW xs i (sd d) k).length=xs.length:=by
 rw[PM];split<;>simp[gC]
theorem Jb{xs:List Nd}{i k:Nat}{d:Bool}(hi:i<xs.length)(hk:k<xs.length)(a:k≠i)(j:Nat) :
 fJ (iW xs i (sd d) k) j=if j=i then q8 d k (fJ xs i)else if j=k/\k≠0 then { fJ xs k with up:=i } else fJ xs j:=by
 grind [PM,jh,gC,jQ]
theorem K0{xs:List Nd}{d:Bool}{p i:Nat}(b:(fJ xs i).up=p)(hp:p≠0)(hk:jf xs d p=i)(a:jf xs (!d) p≠i):jH xs i=(sd d,true):=by
 unfold jH
 rw[b,if_neg hp]
 cases d
 . simp only[jf,cond_false,Bool.not_false,cond_true]at hk a
   rw[if_neg a,if_pos hk];rfl
 . simp only[jf,cond_true]at hk
   rw[if_pos hk];rfl
theorem SV{xs:List Nd}{i p:Nat}(a:(fJ xs i).up=p)(h:p=0\/jf xs true p≠i/\jf xs false p≠i):jH xs i=(0,false):=by
 grind [jH,jf]
def qZ(d:Bool)(a:Tr)(i:Nat)(b:Tr)(p:Nat)(s:Tr):Tr:=bif d then .nd a i (.nd b p s)else .nd (.nd s p a) i b
theorem KJ(d:Bool)(a:Tr)(i:Nat)(b:Tr)(p:Nat)(s:Tr):(qZ d a i b p s).mem=jX d (a.mem++i :: b.mem) p s:=by
 cases d<;>simp[qZ,jX,Tr.mem]
theorem adY(d:Bool)(a:Tr)(i:Nat)(b:Tr)(p:Nat)(s:Tr):(qZ d a i b p s).root=i:=by cases d<;>rfl
theorem Ku:∀ (c:Cx) (L:List Nat),L.length<=(lI c L).length
 | [],_=>zo _
 | (d,g,s) :: c,L=>lq (by cases d<;>simp[jX]<;>omega) (Ku c _)
theorem Sk{xs:List Nd}{d:Bool}{i:Nat}{t s:Tr}(hi:i≠0/\i<xs.length)(e:gR xs t i)(hs:gR xs s i)(a:jf xs d i=t.root)(h1:jf xs (!d) i=s.root)(c:(jX d t.mem i s).Nodup)(b:(jX d t.mem i s).length<=1000000) :
 lU xs (iG xs i) i/\gR (iG xs i) (mj d t i s) (fJ xs i).up:=by
 cases d
 . exact A9 hi hs e (by simpa[jf]using h1) (by simpa[jf]using a) c b
 . exact A9 hi e hs (by simpa[jf]using a) (by simpa[jf]using h1) c b
structure Uw (xs ys:List Nd) (S:List Nat):Prop where
 kl:KL xs ys
 other:∀ j,j∉S->fJ ys j=fJ xs j
 flip:∀ j,(fJ ys j).flip=(fJ xs j).flip
theorem mF.kF{xs ys:List Nd}(k:KL xs ys){c:Cx}{r a q:Nat}{L:List Nat}(h:mF xs c r L q)(hs:∀ d g s c', c=(d,g,s) :: c' -> (∀ j∈s.mem++jY c', fJ ys j=fJ xs j)/\fJ ys g=q8 d a (fJ xs g)):mF ys c a L q:=by
 cases c with
 | nil=>trivial
 | cons f c' =>
  obtain⟨d,g,s⟩:=f
  obtain⟨b,e⟩:=hs d g s c' rfl
  exact h.wB k b e
theorem yT{xs:List Nd}{d:Bool}{p i q:Nat}{s a b:Tr}{c:Cx}(hR:gR xs (j6 ((d,p,s) :: c) (.nd a i b)) q)(hn:(lI ((d,p,s) :: c) (a.mem++i :: b.mem)).Nodup)
 (a4:xs.length<=1000001) (aj:(lI ((d,p,s) :: c) (a.mem++i :: b.mem)).length<=1000000)
 (hq:c=[]->q=0\/jf xs true q≠p/\jf xs false q≠p) :
 gR (iK xs i) (j6 c (qZ d a i b p s)) q/\Uw xs (iK xs i) (lI ((d,p,s) :: c) (a.mem++i :: b.mem)):=by
 obtain⟨hT,hC⟩:=(yS _ _ _).1 hR
 obtain⟨⟨i0,il⟩,⟨av,aw,iu⟩,iv,ha,hb⟩:=hT
 simp only[wP]at iu
 obtain⟨⟨U,pl⟩,⟨pk,po,pu⟩,pv,hs,aa⟩:=hC
 simp only[Tr.root]at pk
 simp only[Tr.mem]at pv aa
 obtain⟨n1,n2,P⟩:=CY hn
 simp only[jY,oD,zx,zu,zr,zg,not_or]at n1 n2 P
 obtain⟨H,ns,nc,aY⟩:=n2
 obtain⟨na,⟨ay,nb⟩,ai⟩:=n1
 have J:i≠p:=(P i s_).1
 have an:i∉s.mem:=(P i s_).2.1
 have ab:i∉jY c:=(P i s_).2.2
 have ak:i∉a.mem:=fun h=>ai i h i (.inl rfl) rfl
 have aW:s.root≠i:=fun e=>by
  by_cases h:s.root=0
  . exact i0 (e.symm.trans h)
  . exact an (e▸hs.ni h)
 -- sides
 have aV:jH xs i=(sd d,true):=K0 iu U pk (by rw[po];exact aW)
 -- the parent's parent
 obtain⟨g,R⟩:∃ g,(fJ xs p).up=g:=⟨_,rfl⟩
 have S:g=wP c q:=R.symm.trans pu
 -- the middle tree,and the outer one
 obtain⟨m,o,hm⟩:∃ m o:Tr,(m,o)=(bif d then(b,a)else(a,b)):=⟨_,_,rfl⟩
 have aK:gR xs m i/\gR xs o i/\jf xs (!d) i=m.root/\jf xs d i=o.root/\(∀ j,j∈m.mem\/j∈o.mem↔j∈a.mem\/j∈b.mem)/\i∉m.mem/\i∉o.mem/\m.mem.Nodup/\o.mem.Nodup/\∀ j∈m.mem,j∉o.mem:=by
  cases d<;>(simp only[cond_true,cond_false,Prod.mk.injEq]at hm;obtain⟨rfl,rfl⟩:=hm)
  . exact⟨ha,hb,by simpa[jf]using av,by simpa[jf]using aw,fun j=>Iff.rfl,ak,ay,na,nb,fun j n r=>ai j n j (.inr r) rfl⟩
  . exact⟨hb,ha,by simpa[jf]using aw,by simpa[jf]using av,fun j=>Or.comm,ay,ak,nb,na,fun j n r=>ai j r j (.inr n) rfl⟩
 obtain⟨G,aN,aq,aP,ao,am,aE,ad,a6,aL⟩:=aK
 have B:∀ j,j∈m.mem\/j∈o.mem->j≠p/\j∉s.mem/\j∉jY c:=fun j l=>by
  have:=P j (by rcases(ao j).1 l with h|h<;>simp[h])
  exact⟨this.1,this.2.1,this.2.2⟩
 have a5:m.root<xs.length:=G.Bd o_
 have ac:m.root≠i:=fun e=>am (e▸G.ni o_)
 have ae:m.root≠p:=fun e=>(B m.root (.inl (G.ni o_))).1 e
 -- the first step
 obtain⟨y1,F⟩:∃ y,y=(if (jH xs p).2=true then iW xs g (jH xs p).1 i else fO xs i (fun x=>{ x with up:=g })):=⟨_,rfl⟩
 have aX:y1.length=xs.length/\fJ y1 i={ fJ xs i with up:=g }/\(∀ j,j≠i->j∉jY c->fJ y1 j=fJ xs j)/\(∀ C v E c', c=(C, v, E) :: c' -> (∀ j,j≠i->j≠v -> fJ y1 j=fJ xs j)/\fJ y1 v = q8 C i (fJ xs v))/\(c=[]->∀ j,j≠i->fJ y1 j=fJ xs j):=by
  cases c with
  | nil =>
   have ag:jH xs p=(0,false):=SV (p:=q) (by rw[R,S];rfl) (hq rfl)
   rw[ag]at F
   simp only[Bool.false_eq_true,if_false]at F
   subst F
   refine⟨gC,jU il,fun j l _=>jQ (fun e=>l e.symm),?_,fun _ j l=>jQ (fun e=>l e.symm)⟩
   intro C v E c' e
   cases e
  | cons f c' =>
   obtain⟨C, v, E⟩:=f
   obtain⟨⟨g0,gl⟩,⟨gk,go,gu⟩,gv,gs,gc⟩:=aa
   simp only[jY,oD,zg,zr,not_or]at ab H
   have a7:p≠v := H.2.1
   have ag:jH xs p=(sd C, true):=K0 (p:=v) (by rw[R,S];rfl) g0 gk (by
    rw[go]
    intro e
    have hr:E.root≠0:=by rw[e];exact U
    exact H.2.2.1 (e▸gs.ni hr))
   rw[ag]at F
   simp only[if_true]at F
   have aD:g=v := S
   subst aD
   have al:i≠g:=ab.1
   subst F
   have Q:=Jb (xs:=xs) (d:=C) gl il al
   refine⟨Jc _ _ _ _,by rw[Q,if_neg al,if_pos ⟨rfl,i0⟩],fun j l aF=>?_,fun d2 g2 s2 c2 e=>?_,fun e=>by cases e⟩
   . rw[Q,if_neg (fun e=>aF (by simp[jY,e])),if_neg (fun e=>l e.1)]
   . cases e
     exact⟨fun j n r=>by rw[Q,if_neg r,if_neg (fun e=>n e.1)],by rw[Q,if_pos rfl]⟩
 obtain⟨l1,a1,o1,c1,e1⟩:=aX
 have az:p∉jY c:=H.2
 have aR:fJ y1 p=fJ xs p:=o1 p (fun e=>J e.symm) az
 have aG:(if sd d=0 then(fJ y1 i).k1 else(fJ y1 i).k0)=m.root:=by
  rw[a1]
  cases d
  . simp only[sd,cond_false,DK,if_false];simpa[jf]using aq
  . simp only[sd,cond_true,if_true];simpa[jf]using aq
 -- the second step
 obtain⟨y2,Y⟩:∃ y,y=iW y1 p (sd d) m.root:=⟨_,rfl⟩
 have nF:=Jb (xs:=y1) (i:=p) (k:=m.root) (d:=d) o_ o_ ae
 rw[<-Y]at nF
 have l2:y2.length=xs.length:=by rw[Y,Jc,l1]
 -- the third step
 obtain⟨u,Z⟩:∃ y,y=iW y2 i (sd (!d)) p:=⟨_,rfl⟩
 have nG:=Jb (xs:=y2) (i:=i) (k:=p) (d := !d) o_ o_ (fun e=>J e.symm)
 rw[<-Z]at nG
 have l3:u.length=xs.length:=by rw[Z,Jc,l2]
 have ar:iK xs i=iG (iG u p) i:=by
  have aU:1-sd d=sd (!d):=by cases d<;>rfl
  unfold iK
  simp only[aV,iu,R,<-F,aG,<-Y,aU,<-Z]
 -- the nodes before the refreshes
 have aZ:fJ y2 i={ fJ xs i with up:=g }:=by rw[nF,if_neg J,if_neg (fun e=>ac e.1.symm),a1]
 have a0:fJ y2 p=q8 d m.root (fJ xs p):=by rw[nF,if_pos rfl,aR]
 have a2:fJ u i=q8 (!d) p { fJ xs i with up:=g }:=by rw[nG,if_pos rfl,aZ]
 have X:fJ u p={ q8 d m.root (fJ xs p)with up:=i }:=by rw[nG,if_neg (fun e=>J e.symm),if_pos ⟨rfl,U⟩,a0]
 have aA:m.root≠0->fJ u m.root={ fJ xs m.root with up:=p }:=fun h=>by
  rw[nG,if_neg ac,if_neg (fun e=>ae e.1),nF,if_neg ae,if_pos ⟨rfl,h⟩,o1 _ ac (B _ (.inl (G.ni h))).2.2]
 have W:∀ j,j≠i->j≠p->(j≠m.root\/m.root=0)->fJ u j=fJ y1 j:=fun j n r w=>by
  rw[nG,if_neg n,if_neg (fun e=>r e.1),nF,if_neg r,if_neg (fun e=>by rcases w with w|w;exact w e.1;exact e.2 w)]
 have V:∀ j,j≠i->j≠p->(j≠m.root\/m.root=0)->j∉jY c->fJ u j=fJ xs j:=fun j n r w h4=>by rw[W j n r w,o1 j n h4]
 have M:∀ j,j∉m.mem->j≠m.root\/m.root=0:=fun j l=>by
  by_cases h:m.root=0
  . exact .inr h
  . exact .inl (fun e=>l (e▸G.ni h))
 have ah:∀ j,(fJ u j).key=(fJ xs j).key/\(fJ u j).iL=(fJ xs j).iL/\(fJ u j).flip=(fJ xs j).flip:=by
  have a3:∀ j,(fJ y1 j).key=(fJ xs j).key/\(fJ y1 j).iL=(fJ xs j).iL/\(fJ y1 j).flip=(fJ xs j).flip:=by
   intro j
   by_cases n:j=i
   . subst n;rw[a1];exact⟨rfl,rfl,rfl⟩
   . cases hc:c with
     | nil=>rw[e1 hc j n];exact⟨rfl,rfl,rfl⟩
     | cons f c' =>
      obtain⟨C, v, E⟩:=f
      grind [KY,KZ,KX]
  intro j
  by_cases n:j=i
  . grind [KY,KZ,KX]
  . by_cases r:j=p
    . subst r;rw[X];exact⟨KY _ _ _,KZ _ _ _,KX _ _ _⟩
    . by_cases w:j=m.root/\m.root≠0
      . obtain⟨rfl,w⟩:=w;rw[aA w];exact⟨rfl,rfl,rfl⟩
      . rw[W j n r (by by_cases h:m.root=0;exact .inr h;exact .inl (fun e=>w ⟨e,h⟩))];exact a3 j
 have O:KL xs u:=⟨l3,fun j=>(ah j).1,fun j=>(ah j).2.1⟩
 -- the trees before the refreshes
 have aJ:gR u m p:=by
  cases m with
  | nil=>trivial
  | nd ml mi mr =>
   refine G.up O (fun j l hr=>?_) (aA G.1.1) ad
   obtain⟨n,r,w⟩:=B j (.inl l)
   exact V j (fun e=>am (e▸l)) n (.inl hr) w
 have af:∀ j∈s.mem,j∉m.mem:=fun j l hm=>(B j (.inl hm)).2.1 l
 have aT:gR u s p:=hs.to O fun j l=>V j (fun e=>an (e▸l)) (fun e=>H.1 (e▸l)) (M j (af j l)) (fun h9=>aY j l j h9 rfl)
 have aO:gR u o i:=aN.to O fun j l=>V j (fun e=>aE (e▸l)) (B j (.inr l)).1 (M j (fun h=>aL j h l)) (B j (.inr l)).2.2
 have I:∀ j∈jY c,j≠i/\j≠p/\j∉m.mem:=fun j l=>⟨fun e=>ab (e▸l),fun e=>az (e▸l),fun h=>(B j (.inl h)).2.2 l⟩
 have aC:mF u c i (jX d (a.mem++i :: b.mem) p s) q:=by
  refine aa.kF O fun C v E c' e=>?_
  obtain⟨k1,k2⟩:=c1 C v E c' e
  subst e
  simp only[jY,oD,zx,zr,not_or]at nc I
  refine⟨fun j l=>?_,?_⟩
  . have K : j∈E.mem\/j∈jY c' := by simpa using l
    have h:=I j (by simp only[zg,zr];exact .inr K)
    rw[W j h.1 h.2.1 (M j h.2.2),k1 j h.1]
    rintro rfl
    rcases K with h' | h'
    . exact nc.1.1 h'
    . exact nc.1.2 h'
  . have h:=I v s_
    rw[W v h.1 h.2.1 (M v h.2.2),k2]
 -- the parent is refreshed
 have aI:(jX d m.mem p s).length<=1000000:=by
  refine lq ?_ aj
  refine lq ?_ (Ku c (jX d (a.mem++i :: b.mem) p s))
  cases d<;>(simp only[cond_true,cond_false,Prod.mk.injEq]at hm;obtain⟨rfl,rfl⟩:=hm)<;>simp[jX]<;>omega
 have aH:(jX d (a.mem++i :: b.mem) p s).length<=1000000:=lq (Ku c _) aj
 have aM:(jX d m.mem p s).Nodup:=by
  cases d
  . simp only[jX,cond_false,zu,zx]
    exact⟨ns,⟨fun h=>(B p (.inl h)).1 rfl,ad⟩,fun x N y A e=>by
     subst e
     rcases zg.1 A with rfl|A
     . exact H.1 N
     . exact af x N A⟩
  . simp only[jX,cond_true,zu,zx]
    exact⟨ad,⟨H.1,ns⟩,fun x N y A e=>by
     subst e
     rcases zg.1 A with rfl|A
     . exact(B _ (.inl N)).1 rfl
     . exact af x A N⟩
 obtain⟨D,hz⟩:=Sk (xs:=u) (d:=d) (i:=p) (t:=m) (s:=s) ⟨U,o_⟩ aJ aT (by rw[jf,X];cases d<;>rfl) (by rw[jf,X,<-po];cases d<;>rfl) aM aI
 rw[show (fJ u p).up=i by rw[X]]at hz
 obtain⟨z,ez⟩:∃ z,z=iG u p:=⟨_,rfl⟩
 rw[<-ez]at D hz ar
 have lz:z.length=xs.length:=by rw[D.len,l3]
 have zi:fJ z i=q8 (!d) p { fJ xs i with up:=g }:=by rw[D.other i J,a2]
 have aQ:gR z o i:=aO.to D.kl fun j l=>D.other j (B j (.inr l)).1
 have aS:(mj d m p s).root=p:=Sy _ _ _ _
 have au:mj (!d) (mj d m p s) i o=qZ d a i b p s:=by
  cases d<;>(simp only[cond_true,cond_false,Prod.mk.injEq]at hm;obtain⟨rfl,rfl⟩:=hm)<;>rfl
 have ap:jX (!d) (mj d m p s).mem i o=jX d (a.mem++i :: b.mem) p s:=by rw[<-JW,au,KJ]
 have aB:(jX d (a.mem++i :: b.mem) p s).Nodup:=(CY (c:=c) hn).1
 obtain⟨T,A⟩:=Sk (xs:=z) (d := !d) (i:=i) (t:=mj d m p s) (s:=o) ⟨i0,o_⟩ hz aQ (by rw[jf,zi,aS];cases d<;>rfl) (by rw[jf,zi,<-aP];cases d<;>rfl) (by rw[ap];exact aB) (by rw[ap];exact aH)
 rw[<-ar]at T A
 rw[au,show (fJ z i).up=g by rw[zi,aer]]at A
 have o2:∀ j,j≠i->j≠p->fJ (iK xs i) j=fJ u j:=fun j n r=>by rw[T.other j n,D.other j r]
 have ax : KL u (iK xs i):=D.kl.trans T.kl
 refine⟨(yS _ _ _).2 ⟨by rw[<-S];exact A,?_⟩,O.trans ax, fun j l=>?_,fun j=>?_⟩
 . rw[adY,KJ]
   exact aC.to ax fun j l=>o2 j (I j l).1 (I j l).2.1
 . have K : j∉jX d (a.mem++i :: b.mem) p s/\j∉jY c:=by
    have:=mt (CQ (c:=c)).2 l
    simpa[not_or]using this
   have L:j≠i/\j≠p/\j∉m.mem:=by
    have n:=K.1
    have r:¬ (j∈a.mem\/j∈b.mem)/\j≠i/\j≠p:=by
     cases d<;>simp only[jX,cond_true,cond_false,zr,zg,not_or]at n<;>exact⟨by simp[n],by simp[n],by simp[n]⟩
    exact⟨r.2.1,r.2.2,fun h=>r.1 ((ao j).1 (.inl h))⟩
   rw[o2 j L.1 L.2.1,V j L.1 L.2.1 (M j L.2.2) K.2]
 . rw[T.flip,D.flip,(ah j).2.2]
end Go.Sx
namespace Go.Sx
open Go
def gm(xs:List Nd):Bool->Tr->List Nat
 | _,.nil=>[]
 | φ,.nd l i r=>bif (xor φ (fJ xs i).flip)then gm xs (xor φ (fJ xs i).flip) r++i :: gm xs (xor φ (fJ xs i).flip) l else gm xs (xor φ (fJ xs i).flip) l++i :: gm xs (xor φ (fJ xs i).flip) r
theorem rj{xs ys:List Nd}:∀ {t:Tr} {φ:Bool},(∀ j∈t.mem,(fJ ys j).flip=(fJ xs j).flip)->gm ys φ t=gm xs φ t
 | .nil,_,_=>rfl
 | .nd l i r,φ,h=>by
  simp only[gm,h i (by simp[Tr.mem])]
  rw[rj (t:=l) fun j a=>h j (by simp[Tr.mem,a]),rj (t:=r) fun j a=>h j (by simp[Tr.mem,a])]
theorem S1{xs ys:List Nd}{l r:Tr}{i:Nat}{φ:Bool}(hi:(fJ ys i).flip = !(fJ xs i).flip)(h:∀ j∈l.mem++r.mem,(fJ ys j).flip=(fJ xs j).flip):gm ys φ (.nd l i r)=gm xs (!φ) (.nd l i r):=by
 have e:xor φ (!(fJ xs i).flip)=xor (!φ) (fJ xs i).flip:=by cases φ<;>cases (fJ xs i).flip<;>rfl
 simp only[gm,hi,e]
 rw[rj (t:=l) fun j a=>h j (by simp[a]),rj (t:=r) fun j a=>h j (by simp[a])]
theorem nk(xs:List Nd):∀ (φ:Bool) (t:Tr),(gm xs φ t).Perm t.mem
 | _,.nil=>.nil
 | φ,.nd l i r=>by
  have a:=nk xs (xor φ (fJ xs i).flip) l
  have b:=nk xs (xor φ (fJ xs i).flip) r
  simp only[gm,Tr.mem]
  generalize xor φ (fJ xs i).flip=ψ at a b ⊢
  cases ψ with
  | false =>
   simp only[cond_false]
   exact(a.append_right _).trans (List.Perm.append_left _ (b.cons i)) |>.trans (.refl _)
  | true =>
   simp only[cond_true]
   exact((b.append_right _).trans (List.Perm.append_left _ (a.cons i))).trans (rD.trans (by simp only[oD];exact ur.symm))
theorem aeR{xs ys:List Nd}{d:Bool}{t t' s:Tr}{g:Nat}(b:∀ ψ,gm ys ψ t' = gm xs ψ t)(h:∀ j∈g :: s.mem,(fJ ys j).flip=(fJ xs j).flip)(φ:Bool):gm ys φ (mj d t' g s)=gm xs φ (mj d t g s):=by
 have hs:∀ ψ,gm ys ψ s=gm xs ψ s:=fun ψ=>rj fun j a=>h j (by simp[a])
 cases d<;>simp only[mj,cond_true,cond_false,gm,h g s_,b,hs]
theorem K3{xs ys:List Nd}:∀ {c:Cx} {t t' : Tr},(∀ ψ,gm ys ψ t' = gm xs ψ t)->(∀ j∈jY c,(fJ ys j).flip=(fJ xs j).flip)->∀ φ,gm ys φ (j6 c t')=gm xs φ (j6 c t)
 | [],_,_,h,_,φ=>h φ
 | (d,g,s) :: c,t,t', h,hc,φ=>by
  simp only[j6]
  exact K3 (c:=c) (fun ψ=>aeR h (fun j a=>hc j (by simp only[jY,zr];exact .inl a)) ψ) (fun j a=>hc j (by simp only[jY,zr];exact .inr a)) φ
theorem aeS{xs:List Nd}{d:Bool}{a b s:Tr}{i p:Nat}(hi:(fJ xs i).flip=false)(hp:(fJ xs p).flip=false)(φ:Bool):gm xs φ (qZ d a i b p s)=gm xs φ (mj d (.nd a i b) p s):=by
 cases d<;>cases φ<;>simp[qZ,mj,gm,hi,hp]
theorem gR.vh{xs ys:List Nd}(w:ys.length=xs.length):∀ {t:Tr} {p:Nat},gR xs t p->(∀ j∈t.mem,∃ f,fJ ys j={ fJ xs j with flip:=f })->gR ys t p:=by
 have key:∀ {t:Tr} {p:Nat} (L:List Nat),gR xs t p->(∀ j∈t.mem,∃ f,fJ ys j={ fJ xs j with flip:=f })->gR ys t p:=by
  intro t
  induction t with
  | nil=>intro p L _ _;trivial
  | nd l i r q s =>
   intro p L h hs
   obtain⟨⟨d,v⟩,⟨g,k,m⟩,b,n,o⟩:=h
   obtain⟨f,hi⟩:=hs i (by simp[Tr.mem])
   have c:∀ j∈l.mem++i :: r.mem,(fJ ys j).key=(fJ xs j).key/\(fJ ys j).iL=(fJ xs j).iL:=fun j a=>by
    obtain⟨u, e⟩:=hs j a
    rw[e];exact⟨rfl,rfl⟩
   refine⟨⟨d,o_⟩,⟨by rw[hi];exact g,by rw[hi];exact k,by rw[hi];exact m⟩,⟨by rw[hi];exact b.size,?_,?_⟩,q L n fun j a=>hs j (by simp[Tr.mem,a]),s L o fun j a=>hs j (by simp[Tr.mem,a])⟩
   . rw[hi,show ou ys (l.mem++i :: r.mem)=ou xs (l.mem++i :: r.mem) from congrArg List.sum (zN fun j a=>by rw[(c j a).2])]
     exact b.total
   . rw[hi]
     refine⟨b.first.1,fun j a=>?_⟩
     rcases b.first.2 j a with e|e
     . exact .inl e
     . refine .inr ?_
       rw[<-e]
       simp only[kX,(c j a).1,(c _ b.first.1).1]
 intro t p h hs
 exact key [] h hs
theorem Kw{xs:List Nd}{l r:Tr}{i p:Nat}(h:gR xs (.nd l i r) p)(I:(Tr.nd l i r).mem.Nodup) :
 ∃ l' A, ((l' = l/\A = r)\/(l' = r/\A = l))/\gR (jZ xs i) (.nd l' i A) p/\(fJ (jZ xs i) i).flip=false/\KL xs (jZ xs i)/\(∀ j,j∉(Tr.nd l i r).mem->fJ (jZ xs i) j=fJ xs j)/\∀ φ,gm (jZ xs i) φ (.nd l' i A)=gm xs φ (.nd l i r):=by
 cases hf:(fJ xs i).flip with
 | false =>
  have e:jZ xs i=xs:=by unfold jZ;rw[hf];rfl
  rw[e]
  exact⟨l,r,.inl ⟨rfl,rfl⟩,h,hf,KL.refl _,fun _ _=>rfl,fun _=>rfl⟩
 | true =>
  obtain⟨⟨i0,Z⟩,⟨k0,k1,up⟩,v,m,n⟩:=h
  simp only[Tr.mem]at I
  rw[zu,zx]at I
  obtain⟨n1,⟨K,n3⟩,P⟩:=I
  have L:i∉l.mem:=fun h=>P i h i s_ rfl
  have H:∀ j∈l.mem,j∉r.mem:=fun j w R=>P j w j (by simp[R]) rfl
  have G:l.root≠i:=fun e=>L (e▸m.ni o_)
  have O:r.root≠i:=fun e=>K (e▸n.ni o_)
  have ab:=m.Bd (show 0<xs.length by omega)
  have ac:=n.Bd (show 0<xs.length by omega)
  have X:l.root≠0->l.root≠r.root:=fun d e=>H _ (m.ni d) (e▸n.ni (e▸d))
  obtain⟨ys,B⟩:∃ ys,ys=jZ xs i:=⟨_,rfl⟩
  have F:ys.length=xs.length:=by
   rw[B];unfold jZ;rw[if_pos hf];simp only;split<;>split<;>simp[gC]
  have T:fJ ys i={ fJ xs i with flip:=false,k0:=r.root,k1:=l.root }/\(∀ j,j≠i->fJ ys j=if (j=l.root\/j=r.root)/\j≠0 then { fJ xs j with flip := !(fJ xs j).flip } else fJ xs j):=by
   obtain⟨y0,s⟩:∃ y,y=fO xs i (fun x=>{ x with flip:=false }):=⟨_,rfl⟩
   obtain⟨y1,e1⟩:∃ y,y=fO y0 i (fun x=>{ x with k0:=(fJ y0 i).k1 }):=⟨_,rfl⟩
   obtain⟨y2,u⟩:∃ y,y=fO y1 i (fun x=>{ x with k1:=(fJ y0 i).k0 }):=⟨_,rfl⟩
   have l0:y0.length=xs.length:=by rw[s,gC]
   have l1:y1.length=xs.length:=by rw[e1,gC,l0]
   have l2:y2.length=xs.length:=by rw[u,gC,l1]
   have a0:fJ y0 i={ fJ xs i with flip:=false }:=by rw[s,jU Z]
   have a2:fJ y2 i={ fJ xs i with flip:=false,k0:=r.root,k1:=l.root }:=by
    rw[u,jU o_,e1,jU o_,a0,<-k0,<-k1]
   have b2:∀ j,j≠i->fJ y2 j=fJ xs j:=fun j c=>by
    rw[u,jQ (fun e=>c e.symm),e1,jQ (fun e=>c e.symm),s,jQ (fun e=>c e.symm)]
   have hp:jZ xs i=(let M:=if (fJ y2 i).k0=0 then y2 else fO y2 (fJ y2 i).k0 (fun x=>{ x with flip := !(fJ y2 (fJ y2 i).k0).flip });if (fJ y2 i).k1=0 then M else fO M (fJ y2 i).k1 (fun x=>{ x with flip := !(fJ M (fJ y2 i).k1).flip })):=by
    unfold jZ;rw[if_pos hf];simp only[<-s,<-e1,<-u]
   rw[B,hp]
   simp only[a2]
   by_cases hr0:r.root=0
   . by_cases hl0:l.root=0
     . simp only[hr0,hl0,if_true]
       refine⟨by rw[a2,hr0,hl0],fun j c=>?_⟩
       rw[b2 j c,if_neg (by rintro⟨e|e,d⟩<;>exact d e)]
     . simp only[hr0,if_true,if_neg hl0]
       refine⟨by rw[jQ G,a2,hr0],fun j c=>?_⟩
       rw[jh o_]
       by_cases e:l.root=j
       . subst e;rw[if_pos rfl,if_pos ⟨.inl rfl,hl0⟩,b2 _ c]
       . rw[if_neg e,if_neg (by rintro⟨e' | e', d⟩;exact e e'.symm;exact d e'),b2 j c]
   . have aa:fJ y2 l.root=fJ xs l.root:=b2 _ G
     by_cases hl0:l.root=0
     . simp only[hl0,if_true,if_neg hr0]
       refine⟨by rw[jQ O,a2,hl0],fun j c=>?_⟩
       rw[jh o_]
       by_cases e:r.root=j
       . subst e;rw[if_pos rfl,if_pos ⟨.inr rfl,hr0⟩,b2 _ c]
       . rw[if_neg e,if_neg (by rintro⟨e' | e', d⟩;exact d e'; exact e e'.symm),b2 j c]
     . simp only[if_neg hl0,if_neg hr0]
       refine⟨by rw[jQ G,jQ O,a2],fun j c=>?_⟩
       rw[jh (by rw[gC];omega)]
       by_cases e:l.root=j
       . subst e;rw[if_pos rfl,if_pos ⟨.inl rfl,hl0⟩,jQ (fun e=>X hl0 e.symm),b2 _ c]
       . rw[if_neg e,jh o_]
         by_cases e' : r.root=j
         . subst e'; rw[if_pos rfl,if_pos ⟨.inr rfl,hr0⟩,b2 _ c]
         . rw[if_neg e', if_neg (by rintro⟨q|q,d⟩;exact e q.symm;exact e' q.symm),b2 j c]
  obtain⟨g,o⟩:=T
  have z:∀ j,j≠i->∃ f,fJ ys j={ fJ xs j with flip:=f }:=fun j c=>by
   rw[o j c];split
   . exact⟨_,rfl⟩
   . exact⟨(fJ xs j).flip,rfl⟩
  have kl:KL xs ys:=by
   refine⟨F,fun j=>?_,fun j=>?_⟩<;>(by_cases c:j=i)
   . subst c;rw[g]
   . obtain⟨f,e⟩:=z j c;rw[e]
   . subst c;rw[g]
   . obtain⟨f,e⟩:=z j c;rw[e]
  have W : gR ys l i:=m.vh F fun j c=>z j (fun e=>L (e▸c))
  have J : gR ys r i:=n.vh F fun j c=>z j (fun e=>K (e▸c))
  rw[<-B]
  have Q:∀ (t:Tr),(t=l\/t=r)->gR xs t i->t.mem.Nodup->(∀ j∈t.mem,j≠i)->(∀ j∈t.mem,j≠t.root->j≠l.root/\j≠r.root)->∀ φ,gm ys φ t=gm xs (!φ) t:=by
   intro t Y S D C N φ
   cases t with
   | nil=>rfl
   | nd a k b =>
    simp only[Tr.mem]at D C N
    rw[zu,zx]at D
    obtain⟨m1,⟨m2,m3⟩,m4⟩:=D
    refine S1 ?_ fun j c=>?_
    . rw[o k (C k s_),if_pos ⟨by rcases Y with e|e<;>rw[<-e]<;>simp[Tr.root],S.1.1⟩]
    . have E : j∈a.mem\/j∈b.mem:=by simpa using c
      have V:j≠k:=by rintro rfl;rcases E with h|h;exact m4 j h j s_ rfl;exact m2 h
      have w:=N j (by simp only[zr,zg];rcases E with h|h<;>simp[h]) V
      rw[o j (C j (by simp only[zr,zg];rcases E with h|h<;>simp[h])),if_neg (by rintro⟨e|e,_⟩;exact w.1 e;exact w.2 e)]
  have sl:=Q l (.inl rfl) m n1 (fun j c e=>L (e▸c)) (fun j c U=>⟨U,fun e=>by
   by_cases d:r.root=0
   . exact(m.o8 j c).1 (e.trans d)
   . exact H j c (e▸n.ni d)⟩)
  have sr:=Q r (.inr rfl) n n3 (fun j c e=>K (e▸c)) (fun j c J => ⟨fun e=>by
   by_cases d:l.root=0
   . exact(n.o8 j c).1 (e.trans d)
   . exact H j (e▸m.ni d) c,J⟩)
  refine⟨r,l,.inr ⟨rfl,rfl⟩,⟨⟨i0,o_⟩,⟨by rw[g],by rw[g],by rw[g];exact up⟩,?_,J, W⟩,by rw[g],kl,fun j c=>?_,fun φ=>?_⟩
  . have v' : pL ys i (l.mem++i :: r.mem):=v.to kl (by rw[g]) (by rw[g]) (by rw[g])
    exact v'.perm (rD.trans (by simp only[oD];exact ur.symm))
  . simp only[Tr.mem,zr,zg,not_or]at c
    rw[o j c.2.1,if_neg]
    rintro⟨e|e,d⟩
    . exact c.1 (e▸m.ni (e▸d))
    . exact c.2.2 (e▸n.ni (e▸d))
  . simp only[gm,hf,g,sl,sr]
    cases φ<;>simp
theorem mF.perm{xs:List Nd}:∀ {c:Cx} {r q:Nat} {L M:List Nat},mF xs c r L q->L.Perm M->mF xs c r M q
 | [],_,_,_,_,_,_=>trivial
 | (d,g,s) :: c,r,q,L,M,h,hp=>by
  obtain⟨b,e,f,i,j⟩:=h
  have a:(jX d L g s).Perm (jX d M g s):=by
   cases d
   . exact List.Perm.append_left _ (hp.cons g)
   . exact hp.append_right _
  exact⟨b,e,f.perm a,i,mF.perm j a⟩
theorem RU:∀ {c:Cx} {L M:List Nat},L.Perm M->(lI c L).Perm (lI c M)
 | [],_,_,h=>h
 | (d,g,s) :: c,L,M,h=>by
  refine RU (c:=c) ?_
  cases d
  . exact List.Perm.append_left _ (h.cons g)
  . exact h.append_right _
theorem JX:∀ {c:Cx} {f:Bool×Nat×Tr},f∈c->f.2.1∈jY c
 | [],_,h=>by simp at h
 | (d,g,s) :: c,f,h=>by
  simp only[jY,zr,zg]
  rcases zg.1 h with rfl|h
  . exact .inl (.inl rfl)
  . exact .inr (JX h)
end Go.Sx
namespace Go.Sx
open Go
theorem Kv:∀ (c c' : Cx) (t:Tr),j6 (c++c') t=j6 c' (j6 c t)
 | [],_,_=>rfl
 | (d,g,s) :: c,c', t=>by simp only[oD,j6];exact Kv c c' _
theorem Fv{i:Nat}:∀ {t:Tr},i∈t.mem->∃ c a b,t=j6 c (.nd a i b)
 | .nil,h=>by simp[Tr.mem]at h
 | .nd l j r,h=>by
  simp only[Tr.mem,zr,zg]at h
  rcases h with h|rfl|h
  . obtain⟨c,a,b,e⟩:=Fv h
    exact⟨c++[(true,j,r)],a,b,by rw[Kv,<-e];rfl⟩
  . exact⟨[],l,r,rfl⟩
  . obtain⟨c,a,b,e⟩:=Fv h
    exact⟨c++[(false,j,l)],a,b,by rw[Kv,<-e];rfl⟩
def jo(c:Cx)(i:Nat):List Nat:=i :: c.map (fun f=>f.2.1)
def Way(i:Nat):Tr->List Nat->Prop
 | .nil,_=>False
 | .nd l j r,w=>(j=i/\w=[i])\/∃ w', w=j :: w' /\ (Way i l w' \/ Way i r w')
theorem T6{i:Nat}:∀ {c:Cx} {t:Tr} {w:List Nat},Way i t w->Way i (j6 c t) ((c.map (fun f=>f.2.1)).reverse++w)
 | [],_,_,h=>h
 | (d,g,s) :: c,t,w,h=>by
  have:Way i (mj d t g s) (g :: w):=by cases d<;>simp only[mj,cond_true,cond_false,Way];exact .inr ⟨w,rfl,.inr h⟩;exact .inr ⟨w,rfl,.inl h⟩
  have:=T6 (c:=c) this
  simpa[j6]using this
theorem af6(c:Cx)(a:Tr)(i:Nat)(b:Tr):Way i (j6 c (.nd a i b)) (jo c i).reverse:=by
 have:=T6 (c:=c) (t:=.nd a i b) (w:=[i]) (.inl ⟨rfl,rfl⟩)
 simpa[jo]using this
structure At (xs:List Nd) (c:Cx) (j:Nat) (L:List Nat) (q:Nat):Prop where
 rep:mF xs c j L q
 up:(fJ xs j).up=wP c q
 mem:j∈L
 nodup:(lI c L).Nodup
 ne:j≠0
 lt:j<xs.length
def Out(xs:List Nd)(q:Nat)(L:List Nat):Prop:=q=0\/jf xs true q∉L/\jf xs false q∉L/\q∉L
theorem At.start{xs:List Nd}{c:Cx}{a b:Tr}{i q:Nat}(h:gR xs (j6 c (.nd a i b)) q)(f:(j6 c (.nd a i b)).mem.Nodup):At xs c i (Tr.nd a i b).mem q:=by
 obtain⟨d,e⟩:=(yS _ _ _).1 h
 exact⟨e,d.2.1.2.2,by simp[Tr.mem],by rw[<-pW];exact f,d.1.1,d.1.2⟩
theorem At.step{xs:List Nd}{d:Bool}{g:Nat}{s:Tr}{c:Cx}{j q:Nat}{L:List Nat}(h:At xs ((d,g,s) :: c) j L q):jH xs j=(sd d,true)/\(fJ xs j).up=g/\At xs c g (jX d L g s) q:=by
 obtain⟨⟨a,k⟩,⟨i,go,m⟩,t,l,f⟩:=h.rep
 have b:=h.nodup
 obtain⟨n1,u,r⟩:=CY b
 have o:s.root≠j:=fun e=>by
  have n:s.root≠0:=by rw[e];exact h.ne
  exact r j h.mem (by simp only[jY,zr,zg];exact .inl (.inr (e▸l.ni n)))
 refine⟨K0 (p:=g) h.up a i (by rw[go];exact o),h.up,f,m,by cases d<;>simp[jX],b,a,k⟩
theorem At.stop{xs:List Nd}{j q:Nat}{L:List Nat}(h:At xs [] j L q)(c:Out xs q L):jH xs j=(0,false) :=
 SV h.up (by
  rcases c with e|⟨a,b,_⟩
  . exact .inl e
  . exact .inr ⟨fun e=>a (e▸h.mem),fun e=>b (e▸h.mem)⟩)
structure jI (xs0 xs:List Nd) (T0:Tr) (O:Cx) (U:Tr) (q:Nat):Prop where
 rep:gR xs (j6 O U) q
 perm:(j6 O U).mem.Perm T0.mem
 ord:∀ φ,gm xs φ (j6 O U)=gm xs0 φ T0
 kl:KL xs0 xs
 other:∀ j,j∉T0.mem->fJ xs j=fJ xs0 j
 flip:∀ f∈O,(fJ xs f.2.1).flip=false
theorem jI.start{xs:List Nd}{T:Tr}{q:Nat}(h:gR xs T q):jI xs xs T [] T q:=⟨h,.refl _,fun _=>rfl,KL.refl _,fun _ _=>rfl,s_⟩
theorem jI.nodup{xs0 xs:List Nd}{a U:Tr}{O:Cx}{q:Nat}(h:jI xs0 xs a O U q)(b:a.mem.Nodup):(lI O U.mem).Nodup:=by rw[<-pW];exact(h.perm.nodup_iff).2 b
theorem jI.push{xs0 xs:List Nd}{c l r:Tr}{O:Cx}{q j:Nat}(h:jI xs0 xs c O (.nd l j r) q)(u:c.mem.Nodup) :
 ∃ l' b, ((l' = l/\b = r)\/(l' = r/\b = l))/\jI xs0 (jZ xs j) c O (.nd l' j b) q/\(fJ (jZ xs j) j).flip=false:=by
 have v:=h.nodup u
 obtain⟨w,m2,x⟩:=CY v
 obtain⟨s,o⟩:=(yS _ _ _).1 h.rep
 obtain⟨l', b, i,p,t,g,n,hs⟩:=Kw s w
 have m:(Tr.nd l' j b).mem.Perm (Tr.nd l j r).mem:=by
  rcases i with ⟨rfl,rfl⟩|⟨rfl,rfl⟩
  . exact .refl _
  . simp only[Tr.mem]
    exact rD.trans (by simp only[oD];exact ur.symm)
 have d:∀ k∈jY O,fJ (jZ xs j) k=fJ xs k:=fun k a => n k fun hm=>x k hm a
 refine⟨l', b, i,⟨(yS _ _ _).2 ⟨p,?_⟩,?_,fun φ=>?_,h.kl.trans g,fun k a => ?_,fun f e => ?_⟩,t⟩
 . exact(o.to g d).perm m.symm
 . refine List.Perm.trans ?_ h.perm
   rw[pW,pW]
   exact RU m
 . rw[<-h.ord φ]
   exact K3 hs (fun k a => by rw[d k a]) φ
 . rw[n k ?_,h.other k a]
   intro hm
   exact a (h.perm.mem_iff.1 (by rw[pW];exact CQ.2 (.inl hm)))
 . rw[d f.2.1 (JX e)]
   exact h.flip f e
theorem jI.rotate{xs0 xs:List Nd}{g a b s:Tr}{d:Bool}{c:Cx}{p i q:Nat}(h:jI xs0 xs g ((d,p,s) :: c) (.nd a i b) q)(y:g.mem.Nodup)(w:xs.length<=1000001)(C:g.mem.length<=1000000)(B:Out xs0 q g.mem)
 (hi:(fJ xs i).flip=false):jI xs0 (iK xs i) g c (qZ d a i b p s) q/\∀ j,(fJ (iK xs i) j).flip=(fJ xs j).flip:=by
 have z:=h.nodup y
 have n:p∈g.mem:=h.perm.mem_iff.1 (by rw[pW];exact CQ.2 (.inr (by simp[jY])))
 have D:(lI ((d,p,s) :: c) (a.mem++i :: b.mem)).length=g.mem.length:=by
  have:=h.perm.length_eq
  rw[pW]at this
  exact this
 obtain⟨u,l⟩:=yT h.rep z w o_ (fun _=>by
  rcases B with e|⟨o,r,t⟩
  . exact .inl e
  . have e:fJ xs q=fJ xs0 q:=h.other q t
    refine .inr ⟨fun e' => o ?_,fun e' => r ?_⟩
    . rw[jf,e]at e'; rw[jf,e'];exact n
    . rw[jf,e]at e'; rw[jf,e'];exact n)
 have A:=h.flip (d,p,s) s_
 have x:(j6 c (qZ d a i b p s)).mem=(j6 ((d,p,s) :: c) (.nd a i b)).mem:=by
  rw[pW,pW,KJ];rfl
 refine⟨⟨u,by rw[x];exact h.perm,fun φ=>?_,h.kl.trans l.kl,fun k m=>?_,fun f v=>?_⟩,l.flip⟩
 . rw[<-h.ord φ]
   have e1:gm (iK xs i) φ (j6 c (qZ d a i b p s))=gm xs φ (j6 c (qZ d a i b p s)):=rj fun j _=>l.flip j
   rw[e1]
   exact K3 (c:=c) (fun ψ=>aeS hi A ψ) (fun _ _=>rfl) φ
 . rw[l.other k ?_,h.other k m]
   intro hm
   refine m (h.perm.mem_iff.1 ?_)
   rw[pW]
   exact hm
 . rw[l.flip]
   exact h.flip f (by simp[v])
theorem agD(d:Bool)(a:Tr)(i:Nat)(b:Tr)(p:Nat)(s:Tr)(g:Nat)(s' : Tr) :
 qZ d (bif d then .nd a i b else s) p (bif d then s else .nd a i b) g s' = mj d (.nd a i b) p (bif d then .nd s g s' else .nd s' g s):=by
 cases d<;>rfl
theorem ace(d:Bool)(t:Tr)(p:Nat)(s:Tr):mj d t p s = .nd (bif d then t else s) p (bif d then s else t):=by cases d<;>rfl
theorem F3(d:Bool)(a:Tr)(i:Nat)(b:Tr)(p:Nat)(s:Tr):qZ d a i b p s = .nd (bif d then a else .nd s p a) i (bif d then .nd b p s else b):=by cases d<;>rfl
theorem jI.agC{xs0 xs:List Nd}{j a b s s' : Tr}{d:Bool}{c:Cx}{p i g q:Nat}(h:jI xs0 xs j ((d,p,s) :: (d,g,s') :: c) (.nd a i b) q)(r:j.mem.Nodup)(o:xs.length<=1000001)(n:j.mem.length<=1000000)(t:Out xs0 q j.mem)
 (hi:(fJ xs i).flip=false):∃ a' u, jI xs0 (iK (iK xs p) i) j c (.nd a' i u) q/\(fJ (iK (iK xs p) i) i).flip=false:=by
 have w:jI xs0 xs j ((d,g,s') :: c) (.nd (bif d then .nd a i b else s) p (bif d then s else .nd a i b)) q:=by
  rw[<-ace]
  exact⟨h.rep,h.perm,h.ord,h.kl,h.other,fun f k=>h.flip f (mT _ k)⟩
 obtain⟨e,l⟩:=w.rotate r o n t (h.flip (d,p,s) s_)
 rw[agD]at e
 have x:jI xs0 (iK xs p) j ((d,p,(bif d then .nd s g s' else .nd s' g s)) :: c) (.nd a i b) q :=
  ⟨e.rep,e.perm,e.ord,e.kl,e.other,fun f k=>by
   rcases zg.1 k with rfl|k
   . rw[l];exact h.flip (d,p,s) s_
   . exact e.flip f k⟩
 obtain⟨m,v⟩:=x.rotate r (by rw[e.kl.len,<-h.kl.len];exact o) n t (by rw[l];exact hi)
 rw[F3]at m
 exact⟨_,_,m,by rw[v,l];exact hi⟩
theorem jI.agB{xs0 xs:List Nd}{e a b s s' : Tr}{d t : Bool}{c:Cx}{p i g q:Nat}(h:jI xs0 xs e ((d,p,s) :: (t, g,s') :: c) (.nd a i b) q)(n:e.mem.Nodup)(m:xs.length<=1000001)(l:e.mem.length<=1000000)(o:Out xs0 q e.mem)
 (hi:(fJ xs i).flip=false):∃ a' r, jI xs0 (iK (iK xs i) i) e c (.nd a' i r) q/\(fJ (iK (iK xs i) i) i).flip=false:=by
 obtain⟨f,j⟩:=h.rotate n m l o hi
 rw[F3]at f
 obtain⟨k,u⟩:=f.rotate n (by rw[f.kl.len,<-h.kl.len];exact m) l o (by rw[j];exact hi)
 rw[F3]at k
 exact⟨_,_,k,by rw[u,j];exact hi⟩
theorem jI.zig{xs0 xs:List Nd}{c a b s:Tr}{d:Bool}{p i q:Nat}(h:jI xs0 xs c [(d,p,s)] (.nd a i b) q)(l:c.mem.Nodup)(k:xs.length<=1000001)(j:c.mem.length<=1000000)(m:Out xs0 q c.mem)
 (hi:(fJ xs i).flip=false):∃ a' f, jI xs0 (iK xs i) c [] (.nd a' i f) q/\(fJ (iK xs i) i).flip=false:=by
 obtain⟨e,g⟩:=h.rotate l k j m hi
 rw[F3]at e
 exact⟨_,_,e,by rw[g];exact hi⟩
end Go.Sx
namespace Go.Sx
open Go
def mN(s:List Nat)(q v u:Nat):Prop:=∃ s1 s2,s=s1++v :: s2/\u=s1.getLast?.getD q
theorem C4{q v u:Nat}:¬ mN [] q v u:=by
 rintro⟨s1,s2,h,_⟩;simp at h
theorem qt{x:Nat}{s:List Nat}{q v u:Nat}:mN (x :: s) q v u↔(v=x/\u=q)\/mN s x v u:=by
 constructor
 . rintro⟨s1,s2,h,rfl⟩
   cases s1 with
   | nil=>simp at h;exact .inl ⟨h.1.symm,rfl⟩
   | cons y s1 =>
    simp only[oD,List.cons.injEq]at h
    obtain⟨rfl,rfl⟩:=h
    refine .inr ⟨s1,s2,rfl,?_⟩
    rw[DJ];simp
 . rintro(⟨rfl,rfl⟩|⟨s1,s2,rfl,rfl⟩)
   . exact⟨[],s,rfl,rfl⟩
   . refine⟨x :: s1,s2,rfl,?_⟩
     rw[DJ];simp
theorem RB{s t:List Nat}{q v u:Nat}:mN (s++t) q v u↔mN s q v u\/mN t (s.getLast?.getD q) v u:=by
 induction s generalizing q with
 | nil=>simp[C4]
 | cons x s a =>
  rw[oD,qt,a,qt,DJ,or_assoc]
  simp
theorem tS{s:List Nat}{q v u:Nat}(h:mN s q v u):v∈s:=by
 obtain⟨s1,s2,rfl,_⟩:=h;simp
theorem acC{s:List Nat}{q v u d : Nat}(b:s.Nodup)(h:mN s q v u)(e : mN s q v d):u=d := by
 induction s generalizing q with
 | nil=>exact absurd h C4
 | cons x s g =>
  rw[zx]at b
  rcases qt.1 h with ⟨rfl,rfl⟩|c<;>rcases qt.1 e with ⟨a,f⟩|a
  . exact f.symm
  . exact absurd (tS a) b.1
  . subst a;exact absurd (tS c) b.1
  . exact g b.2 c a
theorem acD{s:List Nat}{q v u:Nat}(h:mN s q v u):u∈s\/u=q:=by
 obtain⟨s1,s2,rfl,rfl⟩:=h
 cases hl:s1.getLast? with
 | none=>exact .inr rfl
 | some x=>exact .inl (by simp only[zS,zr];exact .inl (BA hl))
abbrev rI:=List (List Nat×Nat)
def gL(S:rI)(v u:Nat):Prop:=∃ e∈S,mN e.1 e.2 v u
def uW(S:rI):List Nat:=S.flatMap (·.1)
theorem gL.perm{S c : rI}(h:S.Perm c){v u:Nat}:gL S v u↔gL c v u :=
 ⟨fun⟨e,b,a⟩=>⟨e,h.mem_iff.1 b,a⟩,fun⟨e,b,a⟩=>⟨e,h.mem_iff.2 b,a⟩⟩
theorem gL.cons{e:List Nat×Nat}{S:rI}{v u:Nat}:gL (e :: S) v u↔mN e.1 e.2 v u\/gL S v u:=by
 simp only[gL,zg,exists_eq_or_imp]
theorem nO{S:rI}(d:(uW S).Nodup){v u i : Nat}(h:gL S v u)(j : gL S v i):u=i := by
 induction S with
 | nil=>obtain⟨e,k,_⟩:=h;simp at k
 | cons e S m =>
  simp only[uW,z6,zu]at d
  obtain⟨n1,n,g⟩:=d
  have c:∀ {w},gL S v w->v∈S.flatMap (·.1):=fun⟨f,l,hp⟩=>qA.2 ⟨f,l,tS hp⟩
  rcases gL.cons.1 h with a|a<;>rcases gL.cons.1 j with b|b
  . exact acC n1 a b
  . exact absurd rfl (g v (tS a) v (c b))
  . exact absurd rfl (g v (tS b) v (c a))
  . exact m n a b
inductive PR (P:Nat->Nat->Prop):Nat->Nat->Prop where
 | top {v:Nat} (h:P v 0):PR P v v
 | step {v u r:Nat} (h:P v u) (h0:u≠0) (k:PR P u r):PR P v r
theorem PR.mono{P Q:Nat->Nat->Prop}(h:∀ v u,P v u->Q v u){v r:Nat}(k:PR P v r):PR Q v r:=by
 induction k with
 | top hp=>exact .top (h _ _ hp)
 | step hp a _ b=>exact .step (h _ _ hp) a b
theorem PR.unique{P:Nat->Nat->Prop}(c:∀ v u f, P v u->P v f -> u=f){v r e : Nat}(k:PR P v r)(k' : PR P v e):r=e := by
 induction k with
 | top hp =>
  cases k' with
  | top _=>rfl
  | step a b _=>exact absurd (c _ _ _ a hp) b
 | step hp b _ g =>
  cases k' with
  | top a => exact absurd (c _ _ _ hp a) b
  | step a _ d=>rw[c _ _ _ a hp]at d;exact g d
theorem PR.root{P:Nat->Nat->Prop}{v r:Nat}(k:PR P v r):P r 0:=by
 induction k with
 | top h=>exact h
 | step _ _ _ a=>exact a
theorem PR.Fa{P:Nat->Nat->Prop}{s:List Nat}:∀ {q v h:Nat},s.head? = some h->(∀ x∈s,x≠0)->(∀ v u,mN s q v u->P v u)->v∈s->(q=0->PR P v h)/\(∀ r,q≠0->PR P q r->PR P v r):=by
 induction s with
 | nil=>intro q v h a;simp at a
 | cons x s i =>
  intro q v h a c f hv
  simp only[List.head?_cons,Option.some.injEq]at a
  subst a
  have b:P x q:=f _ _ (qt.2 (.inl ⟨rfl,rfl⟩))
  rcases zg.1 hv with rfl|hv
  . exact⟨fun e=>.top (e▸b),fun r d k=>.step b d k⟩
  . cases s with
    | nil=>simp at hv
    | cons y s =>
     have:=(i (q:=x) (v:=v) (h:=y) rfl (fun z g=>c z (mT _ g)) (fun v u hp=>f _ _ (qt.2 (.inr hp))) hv).2
     exact⟨fun e=>this x (c x s_) (.top (e▸b)),fun r d k=>this r (c x s_) (.step b d k)⟩
end Go.Sx
namespace Go.Sx
open Go
abbrev FT:=List (Tr×Nat)
def jO(F:FT):List Nat:=F.flatMap fun e=>e.1.mem
def gw(xs:List Nd)(F:FT):rI:=F.map fun e=>(gm xs false e.1,e.2)
structure Fo (xs:List Nd) (F:FT):Prop where
 rep:∀ e∈F,gR xs e.1 e.2
 ne:∀ e∈F,e.1.root≠0
 nodup:(jO F).Nodup
 all:∀ j,j≠0->j<xs.length->j∈jO F
 par:∀ e∈F,e.2<xs.length
 tc:∃ ρ:Nat->Nat,(∀ e∈F,∀ i∈e.1.mem,∀ j∈e.1.mem,ρ i=ρ j)/\∀ e∈F,e.2≠0->∀ i∈e.1.mem,ρ i<ρ e.2
 zero:(fJ xs 0).k0=0/\(fJ xs 0).k1=0/\(fJ xs 0).total=0
 pos:0<xs.length
 len:xs.length<=1000001
theorem RG{α β:Type}{l l' : List α}(h:l.Perm l')(f:α->List β):(l.flatMap f).Perm (l'.flatMap f):=by
 induction h with
 | nil=>exact .nil
 | cons x _ a=>simp only[z6];exact a.append_left _
 | swap x y l =>
  simp only[z6,<-nu]
  exact rD.append_right _
 | trans _ _ b c=>exact b.trans c
theorem Fo.perm{xs:List Nd}{F F' : FT}(h:Fo xs F)(hp:F.Perm F'):Fo xs F' := by
 have b:(jO F).Perm (jO F'):=RG hp _
 obtain⟨ρ,d,f⟩:=h.tc
 exact⟨fun e a=>h.rep e (hp.mem_iff.2 a),fun e a=>h.ne e (hp.mem_iff.2 a),b.nodup_iff.1 h.nodup,fun j c g=>b.mem_iff.1 (h.all j c g),fun e a=>h.par e (hp.mem_iff.2 a),
  ⟨ρ,fun e a=>d e (hp.mem_iff.2 a),fun e a=>f e (hp.mem_iff.2 a)⟩,h.zero,h.pos,h.len⟩
theorem oL{F:FT}{e:Tr×Nat}{j:Nat}(a:e∈F)(b:j∈e.1.mem):j∈jO F:=qA.2 ⟨e,a,b⟩
theorem Fo.split{xs:List Nd}{T:Tr}{q:Nat}{R:FT}(h:Fo xs ((T,q) :: R)):T.mem.Nodup/\(jO R).Nodup/\∀ j∈T.mem,j∉jO R:=by
 have a:=h.nodup
 grind [jO]
theorem nodup_lt_length:∀ (n:Nat) (L:List Nat),L.Nodup->(∀ j∈L,j<n)->L.length<=n
 | 0,L,_,h=>by
  cases L with
  | nil=>simp
  | cons x L=>exact absurd (h x s_) o_
 | n+1,L,hn,h=>by
  have f:=nodup_lt_length n (L.erase n) (hn.erase n) (fun j b=>by
   have c:=h j (List.mem_of_mem_erase b)
   have d:j≠n:=fun e=>by subst e;exact(List.Nodup.not_mem_erase hn) b
   omega)
  have c:=List.length_erase_le (a:=n) (l:=L)
  have d:L.length<=(L.erase n).length+1:=by
   rw[List.length_erase];split<;>omega
  omega
theorem Fo.count{xs:List Nd}{T:Tr}{q:Nat}{R:FT}(h:Fo xs ((T,q) :: R)):T.mem.length<=1000000:=by
 have c:=nodup_lt_length xs.length (0 :: T.mem) (by
  rw[zx]
  exact⟨fun b=>((h.rep (T,q) s_).o8 0 b).1 rfl,h.split.1⟩) (fun j a=>by
  rcases zg.1 a with rfl|a
  . exact h.pos
  . exact((h.rep (T,q) s_).o8 j a).2)
 have:=h.len
 simp only[zh]at c
 omega
theorem gR.Jv{xs:List Nd}{d:Bool}:∀ {t:Tr} {p j:Nat},gR xs t p->j∈t.mem->jf xs d j=0\/jf xs d j∈t.mem
 | .nil,_,_,_,a=>by simp[Tr.mem]at a
 | .nd l i r,p,j,h,a=>by
  obtain⟨_,⟨f,g,_⟩,_,b,c⟩:=h
  simp only[Tr.mem,zr,zg]at a ⊢
  rcases a with a|rfl|a
  . rcases gR.Jv b a with e|e
    . exact .inl e
    . exact .inr (.inl e)
  . cases d
    . simp only[jf,cond_false,g]
      by_cases e:r.root=0
      . exact .inl e
      . exact .inr (.inr (.inr (c.ni e)))
    . simp only[jf,cond_true,f]
      by_cases e:l.root=0
      . exact .inl e
      . exact .inr (.inl (b.ni e))
  . rcases gR.Jv c a with e|e
    . exact .inl e
    . exact .inr (.inr (.inr e))
theorem Fo.out{xs:List Nd}{T:Tr}{q:Nat}{R:FT}(h:Fo xs ((T,q) :: R)):Out xs q T.mem:=by
 by_cases hq:q=0
 . exact .inl hq
 . obtain⟨ρ,l,j⟩:=h.tc
   have g:q∉T.mem:=fun hm=>by
    have:=j (T,q) s_ hq q hm
    simp at this
   have b:=h.all q hq (h.par (T,q) s_)
   simp only[jO,z6,zr]at b
   rcases b with hm|hm
   . exact absurd hm g
   . obtain⟨e,c,hm⟩:=qA.1 hm
     have k:0∉T.mem:=fun i=>((h.rep (T,q) s_).o8 0 i).1 rfl
     have key:∀ d,jf xs d q∉T.mem:=fun d f=>by
      rcases gR.Jv (d:=d) (h.rep e (by simp[c])) hm with a|a
      . exact k (a▸f)
      . exact h.split.2.2 _ f (oL c a)
     exact .inr ⟨key true,key false,g⟩
theorem gR.sw{xs ys:List Nd}(b:ys.length=xs.length){t:Tr}{p:Nat}(h:gR xs t p)(hs:∀ j∈t.mem,fJ ys j=fJ xs j):gR ys t p :=
 h.vh b fun j a=>⟨(fJ xs j).flip,by rw[hs j a]⟩
theorem Gb{xs ys:List Nd}{t:Tr}{φ:Bool}(hs:∀ j∈t.mem,fJ ys j=fJ xs j):gm ys φ t=gm xs φ t:=rj fun j a=>by rw[hs j a]
theorem KW{xs ys:List Nd}{F:FT}(hs:∀ j∈jO F,fJ ys j=fJ xs j):gw ys F=gw xs F:=by
 unfold gw
 refine zN fun e a=>?_
 rw[Gb fun j b=>hs j (oL a b)]
theorem Fo.SZ{xs ys:List Nd}{T U:Tr}{q:Nat}{R:FT}(h:Fo xs ((T,q) :: R))(m:jI xs ys T [] U q):Fo ys ((U,q) :: R)/\gw ys ((U,q) :: R)=gw xs ((T,q) :: R)/\(∀ e∈R,∀ j∈e.1.mem,fJ ys j=fJ xs j):=by
 obtain⟨n1,u,s⟩:=h.split
 have d:=m.kl.len
 have hp:U.mem.Perm T.mem:=m.perm
 have f:∀ j∈jO R,fJ ys j=fJ xs j:=fun j b=>m.other j fun o=>s j o b
 have p:0∉T.mem:=fun c=>((h.rep (T,q) s_).o8 0 c).1 rfl
 have n:U.root≠0:=by
  intro e
  have g:=gR.KI (t:=U) m.rep e
  rw[g]at hp
  have k:=h.ne (T,q) s_
  exact k (by
   cases T with
   | nil=>rfl
   | nd l i r=>have:=hp.length_eq;simp[Tr.mem]at this)
 refine⟨⟨fun e a=>?_,fun e a=>?_,?_,fun j c b=>?_,fun e a=>?_,?_,?_,by rw[d];exact h.pos,by rw[d];exact h.len⟩,?_,fun e a j b=>f j (oL a b)⟩
 . rcases zg.1 a with rfl|a
   . exact m.rep
   . exact(h.rep e (by simp[a])).sw d fun j b=>f j (oL a b)
 . rcases zg.1 a with rfl|a
   . exact n
   . exact h.ne e (by simp[a])
 . grind [jO]
 . have:=h.all j c (by rw[d]at b;exact b)
   grind [jO]
 . rw[d]
   rcases zg.1 a with rfl|a
   . exact h.par (T,q) s_
   . exact h.par e (by simp[a])
 . obtain⟨ρ,r1,r2⟩:=h.tc
   refine⟨ρ,fun e a=>?_,fun e a=>?_⟩
   . rcases zg.1 a with rfl|a
     . exact fun i hi j b=>r1 (T,q) s_ i (hp.mem_iff.1 hi) j (hp.mem_iff.1 b)
     . exact r1 e (by simp[a])
   . rcases zg.1 a with rfl|a
     . exact fun c i hi=>r2 (T,q) s_ c i (hp.mem_iff.1 hi)
     . exact r2 e (by simp[a])
 . rw[m.other 0 p];exact h.zero
 . have g:gw ys R=gw xs R:=KW f
   have k:gm ys false U=gm xs false T:=m.ord false
   grind [gw]
def lD(xs:List Nd)(j below:Nat):List Nd :=
 let a:=fO xs j (fun x=>{ x with iL:=IntKind.i64.wrap (x.iL+IntKind.i64.wrap ((fJ xs x.k1).total-(fJ xs below).total)) })
 let b:=fO a j (fun x=>{ x with k1:=below })
 iG b j
def opt(e:Tr×Nat)(R:FT):FT:=if e.1.root=0 then R else e :: R
theorem pV{e f:Tr×Nat}{R:FT}:f∈opt e R↔(e.1.root≠0/\f=e)\/f∈R:=by
 grind [opt]
theorem gR.AS{xs:List Nd}{t:Tr}{p:Nat}(h:gR xs t p)(e:t.root=0):t = .nil:=by
 cases t with
 | nil=>rfl
 | nd l i r=>exact absurd e h.1.1
theorem Ka{xs:List Nd}{e:Tr×Nat}{R:FT}{p:Nat}(h:gR xs e.1 p):jO (opt e R)=e.1.mem++jO R:=by
 unfold opt
 split
 . rename_i a;rw[h.AS a];rfl
 . rfl
theorem RD{xs ys:List Nd}{e:Tr×Nat}{R:FT}{p v u:Nat}(h:gR xs e.1 p):gL (gw ys (opt e R)) v u↔mN (gm ys false e.1) e.2 v u\/gL (gw ys R) v u:=by
 unfold opt
 split
 . rename_i a
   rw[h.AS a]
   simp[gm,C4]
 . simp only[gw,kr,gL.cons]
theorem We{xs:List Nd}{F R R' : FT}{a b B:Tr}{j q:Nat}(h:Fo xs ((.nd a j b,q) :: R))(Q:(fJ xs j).flip=false)(O:R.Perm (opt (B,j) R'))(D:gR xs B j) :
 Fo (lD xs j B.root) ((.nd a j B,q) :: opt (b,j) R')/\(∀ v u,gL (gw (lD xs j B.root) ((.nd a j B,q) :: opt (b,j) R')) v u↔gL (gw xs ((.nd a j b,q) :: R)) v u) /\
  gm (lD xs j B.root) false (.nd a j B)=gm xs false a++j :: gm xs false B/\(∀ k,k≠j->fJ (lD xs j B.root) k=fJ xs k)/\(fJ (lD xs j B.root) j).flip=false/\(∀ k,(fJ (lD xs j B.root) k).key=(fJ xs k).key)/\(lD xs j B.root).length=xs.length:=by
 have hT:=h.rep (.nd a j b,q) s_
 obtain⟨⟨H,jl⟩,⟨k0,k1,up⟩,v,ha,hb⟩:=hT
 obtain⟨n1,n2,n3⟩:=h.split
 simp only[Tr.mem]at n1 n3
 have S:(jO R).Perm (B.mem++jO R'):=by rw[<-Ka (e:=(B,j)) D];exact RG O _
 have ad := S.nodup_iff.1 n2
 rw[zu]at ad
 obtain⟨nB,av, X⟩:=ad
 rw[zu,zx]at n1
 obtain⟨na,⟨aa,nb⟩,ae⟩:=n1
 have af:j∉a.mem:=fun h=>ae j h j s_ rfl
 have p:∀ k,k∈a.mem\/k=j\/k∈b.mem->k∉B.mem/\k∉jO R' := fun k c=>by
  have:=n3 k (by simpa using c)
  rw[S.mem_iff,zr,not_or]at this
  exact this
 have Y:=(p j (.inr (.inl rfl))).1
 have Z:=(p j (.inr (.inl rfl))).2
 obtain⟨s,L⟩:∃ x,x=fO (fO xs j (fun x=>{ x with iL:=IntKind.i64.wrap (x.iL+IntKind.i64.wrap ((fJ xs x.k1).total-(fJ xs B.root).total)) })) j (fun x=>{ x with k1:=B.root }):=⟨_,rfl⟩
 have al:lD xs j B.root=iG s j:=by rw[L];rfl
 have W:s.length=xs.length:=by rw[L,gC,gC]
 obtain⟨lm,G⟩:∃ y,fJ s j={ fJ xs j with iL:=y,k1:=B.root }:=⟨_,by rw[L,jU (by rw[gC];exact jl),jU jl]⟩
 have I:∀ k,k≠j->fJ s k=fJ xs k:=fun k c=>by rw[L,jQ (fun e=>c e.symm),jQ (fun e=>c e.symm)]
 have ai:gR s a j:=ha.sw W fun k c=>I k (fun e=>af (e▸c))
 have ah:gR s B j:=D.sw W fun k c=>I k (fun e=>Y (e▸c))
 have T:(a.mem++j :: B.mem).Nodup:=by
  rw[zu,zx]
  refine⟨na,⟨Y,nB⟩,fun x g y f e=>?_⟩
  subst e
  rcases zg.1 f with rfl|f
  . exact af g
  . exact(p x (.inl g)).1 f
 have ab:∀ k∈a.mem++j :: B.mem,k≠0/\k<xs.length:=fun k c=>by
  simp only[zr,zg]at c
  rcases c with c|rfl|c
  . exact ha.o8 k c
  . exact⟨H,jl⟩
  . exact D.o8 k c
 have ak:(a.mem++j :: B.mem).length<=1000000:=by
  have t:=nodup_lt_length xs.length (0 :: (a.mem++j :: B.mem)) (zx.2 ⟨fun o=>(ab 0 o).1 rfl,T⟩) (fun k c=>by
   rcases zg.1 c with rfl|c
   . exact h.pos
   . exact(ab k c).2)
  have:=h.len
  simp only[zh]at t
  omega
 obtain⟨K,P⟩:=A9 (xs:=s) (i:=j) (l:=a) (r:=B) ⟨H,o_⟩ ai ah (by rw[G];exact k0) (by rw[G]) T ak
 rw[<-al]at K P
 rw[show (fJ s j).up=q by rw[G];exact up]at P
 have z:(lD xs j B.root).length=xs.length:=by rw[K.len,W]
 have J:∀ k,k≠j->fJ (lD xs j B.root) k=fJ xs k:=fun k c=>by rw[K.other k c,I k c]
 have E:∀ k,(fJ (lD xs j B.root) k).flip=(fJ xs k).flip:=fun k=>by
  rw[K.flip]
  by_cases e:k=j
  . subst e;rw[G]
  . rw[I k e]
 have ap:∀ k,(fJ (lD xs j B.root) k).key=(fJ xs k).key:=fun k=>by
  rw[K.kl.key]
  by_cases e:k=j
  . subst e;rw[G]
  . rw[I k e]
 have aq:gm (lD xs j B.root) false B=gm xs false B:=rj fun k _=>E k
 have ar:gm (lD xs j B.root) false a=gm xs false a:=rj fun k _=>E k
 have au:gm (lD xs j B.root) false b=gm xs false b:=rj fun k _=>E k
 have ac:gm (lD xs j B.root) false (.nd a j B)=gm xs false a++j :: gm xs false B:=by
  simp only[gm,E,Q,DL,cond_false,ar,aq]
 have aj:gR (lD xs j B.root) b j:=hb.sw z fun k c=>J k (fun e=>aa (e▸c))
 obtain⟨ρ,r1,r2⟩:=h.tc
 have rT:∀ k,k∈a.mem\/k=j\/k∈b.mem->ρ k=ρ j:=fun k c=>r1 (.nd a j b,q) s_ k (by simpa[Tr.mem]using c) j (by simp[Tr.mem])
 have A:∀ e,e∈R↔(B.root≠0/\e=(B,j))\/e∈R' := fun e=>by rw[O.mem_iff,pV]
 have rB:∀ k∈B.mem,ρ k<ρ j:=fun k c=>by
  by_cases e0:B.root=0
  . rw[D.AS e0]at c;simp[Tr.mem]at c
  . exact r2 (B,j) (mT _ ((A _).2 (.inl ⟨e0,rfl⟩))) H k c
 refine⟨⟨fun e d=>?_,fun e d=>?_,?_,fun k o c=>?_,fun e d=>?_,?_,?_,by rw[z];exact h.pos,by rw[z];exact h.len⟩,fun v' m => ?_,ac,J,by rw[E];exact Q,ap,z⟩
 . rcases zg.1 d with rfl|d
   . exact P
   . rcases pV.1 d with ⟨_,rfl⟩|d
     . exact aj
     . exact(h.rep e (mT _ ((A e).2 (.inr d)))).sw z fun k c=>J k (fun e' => Z (e' ▸ oL d c))
 . rcases zg.1 d with rfl|d
   . exact H
   . rcases pV.1 d with ⟨o,rfl⟩|d
     . exact o
     . exact h.ne e (mT _ ((A e).2 (.inr d)))
 . simp only[jO,z6]
   show ((Tr.nd a j B).mem++jO (opt (b,j) R')).Nodup
   rw[Ka (e:=(b,j)) hb,zu,zu]
   refine⟨T,⟨nb,av, fun x g y f e=>(p x (.inr (.inr g))).2 (e▸f)⟩,fun x g y f e=>?_⟩
   subst e
   simp only[Tr.mem,zr,zg]at g f
   rcases f with f|f
   . rcases g with g|rfl|g
     . exact ae x g x (by simp[f]) rfl
     . exact aa f
     . exact(p x (.inr (.inr f))).1 g
   . rcases g with g|rfl|g
     . exact(p x (.inl g)).2 f
     . exact Z f
     . exact X x g x f rfl
 . rw[z]at c
   have t:=h.all k o c
   have C:k∈(Tr.nd a j b).mem\/k∈jO R:=by simpa[jO,z6]using t
   rw[S.mem_iff]at C
   show k∈(Tr.nd a j B).mem++jO (opt (b,j) R')
   rw[Ka (e:=(b,j)) hb]
   simp only[Tr.mem,zr,zg]at C ⊢
   rcases C with (h|h|h)|h|h<;>simp[h]
 . rw[z]
   rcases zg.1 d with rfl|d
   . exact h.par (.nd a j b,q) s_
   . rcases pV.1 d with ⟨_,rfl⟩|d
     . exact jl
     . exact h.par e (mT _ ((A e).2 (.inr d)))
 . have N:∀ k,k∈b.mem->k∉B.mem:=fun k t=>(p k (.inr (.inr t))).1
   obtain⟨σ,n⟩:∃ σ:Nat->Nat,∀ k,σ k=if k∈B.mem then 2*ρ j+1 else if k∈b.mem then 2*ρ j else 2*ρ k+1:=⟨_,fun _=>rfl⟩
   refine⟨σ,fun e d=>?_,fun e d o=>?_⟩
   . rcases zg.1 d with rfl|d
     . have key:∀ k∈(Tr.nd a j B).mem,σ k=2*ρ j+1:=fun k c=>by
        rw[n]
        simp only[Tr.mem,zr,zg]at c
        by_cases hkB:k∈B.mem
        . rw[if_pos hkB]
        . grind
       intro i hi k c
       rw[key i hi,key k c]
     . rcases pV.1 d with ⟨_,rfl⟩|d
       . intro i hi k c
         simp only at hi c
         rw[n,n,if_neg (N i hi),if_pos hi,if_neg (N k c),if_pos c]
       . intro i hi k c
         have M:∀ y∈e.1.mem,y∉B.mem/\y∉b.mem:=fun y f=>⟨fun w => X y w y (oL d f) rfl,fun w => (p y (.inr (.inr w))).2 (oL d f)⟩
         rw[n,n,if_neg (M i hi).1,if_neg (M i hi).2,if_neg (M k c).1,if_neg (M k c).2,r1 e (mT _ ((A e).2 (.inr d))) i hi k c]
   . rcases zg.1 d with rfl|d
     . simp only at o
       have V:=r2 (.nd a j b,q) s_ o
       have q1:q∉B.mem:=fun U=>by have:=rB q U;have:=V j (by simp[Tr.mem]);simp only at this;omega
       have q2:q∉b.mem:=fun U=>by have:=rT q (.inr (.inr U));have:=V j (by simp[Tr.mem]);simp only at this;omega
       intro i hi
       simp only
       rw[n i,n q,if_neg q1,if_neg q2]
       have ao := V j (by simp[Tr.mem])
       simp only at ao
       simp only[Tr.mem,zr,zg]at hi
       by_cases hiB:i∈B.mem
       . rw[if_pos hiB];omega
       . rw[if_neg hiB]
         split
         . omega
         . have:ρ i=ρ j:=rT i (by rcases hi with h|h|h;exact .inl h;exact .inr (.inl h);exact absurd h hiB)
           omega
     . rcases pV.1 d with ⟨_,rfl⟩|d
       . intro i hi
         simp only at hi ⊢
         rw[n,n,if_neg (N i hi),if_pos hi,if_neg Y,if_neg aa];omega
       . intro i hi
         have am:i∉B.mem:=fun w => X i w i (oL d hi) rfl
         have an:i∉b.mem:=fun w => (p i (.inr (.inr w))).2 (oL d hi)
         have aw := r2 e (mT _ ((A e).2 (.inr d))) o i hi
         rw[n,n,if_neg am,if_neg an]
         by_cases hqB:e.2∈B.mem
         . have:=rB _ hqB;rw[if_pos hqB];omega
         . rw[if_neg hqB]
           by_cases hqb:e.2∈b.mem
           . have:=rT _ (.inr (.inr hqb));rw[if_pos hqb];omega
           . rw[if_neg hqb];omega
 . rw[J 0 (fun e=>H e.symm)];exact h.zero
 . have hs:gw (lD xs j B.root) R' = gw xs R' := KW fun k c=>J k (fun e=>Z (e▸c))
   have e1:gL (gw (lD xs j B.root) ((.nd a j B,q) :: opt (b,j) R')) v' m ↔ mN (gm xs false a++j :: gm xs false B) q v' m \/ mN (gm xs false b) j v' m \/ gL (gw xs R') v' m := by
    have:=RD (ys:=lD xs j B.root) (e:=(b,j)) (R:=R') (v:=v') (u:=m) hb
    simp only[gw,kr]at this ⊢
    rw[gL.cons,ac,this]
    simp only[gw]at hs
    rw[au,hs]
   have ag : gL (gw xs ((.nd a j b,q) :: R)) v' m ↔ mN (gm xs false a++j :: gm xs false b) q v' m \/ mN (gm xs false B) j v' m \/ gL (gw xs R') v' m := by
    have t:gm xs false (.nd a j b)=gm xs false a++j :: gm xs false b:=by simp only[gm,Q,DL,cond_false]
    have C:gL (gw xs R) v' m ↔ gL (gw xs (opt (B,j) R')) v' m := gL.perm (O.map _)
    have h3:=RD (ys:=xs) (e:=(B,j)) (R:=R') (v:=v') (u:=m) D
    have h4:gL (gw xs ((.nd a j b,q) :: R)) v' m ↔ mN (gm xs false (.nd a j b)) q v' m \/ gL (gw xs R) v' m := by simp only[gw,kr,gL.cons]
    rw[h4,t,C,h3]
   rw[e1,ag, RB,RB,qt,qt]
   constructor
   . rintro((h|h|h)|h|h)<;>simp[h]
   . rintro((h|h|h)|h|h)<;>simp[h]
end Go.Sx
namespace Go.Sx
open Go
inductive tC (F:FT):Nat->Nat->Prop where
 | zero:tC F 0 0
 | step {T:Tr} {q j m:Nat} (he:(T,q)∈F) (hj:j∈T.mem) (h0:j≠0) (k:tC F q m):tC F j (m+1)
theorem tC.mono{F F' : FT}{ρ:Nat->Nat}{c:Nat}(g:(∀ e∈F,∀ i∈e.1.mem,∀ j∈e.1.mem,ρ i=ρ j)/\∀ e∈F,e.2≠0->∀ i∈e.1.mem,ρ i<ρ e.2)
 (l:∀ e∈F,(∀ i∈e.1.mem,c<ρ i)->e∈F') {q m:Nat} (h:tC F q m):(q=0\/c<ρ q)->tC F' q m:=by
 induction h with
 | zero=>intro _;exact .zero
 | @step T q j m b d f k n =>
  intro a
  have a:c<ρ j:=by rcases a with e|e;exact absurd e f;exact e
  refine .step (l _ b fun i hi=>?_) d f (n ?_)
  . rw[g.1 _ b i hi j d];exact a
  . by_cases hq:q=0
    . exact .inl hq
    . exact .inr (Nat.lt_trans a (g.2 _ b hq j d))
theorem Ph(ρ:Nat->Nat):∀ n,∃ M,∀ k,k<n->ρ k<=M
 | 0=>⟨0,fun k a=>absurd a o_⟩
 | n+1=>by
  obtain⟨M,b⟩:=Ph ρ n
  refine⟨max M (ρ n),fun k a=>?_⟩
  by_cases e:k=n
  . subst e;omega
  . have:=b k o_;omega
theorem Fo.dep{xs:List Nd}{F:FT}(h:Fo xs F){j:Nat}(b:j<xs.length):∃ m,tC F j m:=by
 obtain⟨ρ,k,d⟩:=h.tc
 obtain⟨M,c⟩:=Ph ρ xs.length
 have key:∀ n j,j<xs.length->M-ρ j<=n->∃ m,tC F j m:=by
  intro n
  induction n with
  | zero =>
   intro j b g
   by_cases h0:j=0
   . subst h0;exact⟨0,.zero⟩
   . obtain⟨e,a,hm⟩:=qA.1 (h.all j h0 b)
     by_cases hq:e.2=0
     . exact⟨1,.step (T:=e.1) (q:=e.2) a hm h0 (by rw[hq];exact .zero)⟩
     . have a1:=d e a hq j hm
       have a2:=c e.2 (h.par e a)
       have a3:=c j b
       omega
  | succ n i =>
   intro j b g
   by_cases h0:j=0
   . subst h0;exact⟨0,.zero⟩
   . obtain⟨e,a,hm⟩:=qA.1 (h.all j h0 b)
     by_cases hq:e.2=0
     . exact⟨1,.step (T:=e.1) (q:=e.2) a hm h0 (by rw[hq];exact .zero)⟩
     . have a1:=d e a hq j hm
       have a2:=c e.2 (h.par e a)
       obtain⟨m,f⟩:=i e.2 (h.par e a) o_
       exact⟨m+1,.step (T:=e.1) (q:=e.2) a hm h0 f⟩
 exact key _ j b (zo _)
theorem Fo.Yo{xs:List Nd}{F:FT}(h:Fo xs F){e f:Tr×Nat}(d:e∈F)(a:f∈F){j:Nat}(h1:j∈e.1.mem)(c:j∈f.1.mem):e=f:=by
 obtain⟨s,t,rfl⟩:=BD d
 have hp:(s++e :: t).Perm (e :: (s++t)):=ur
 have b := h.perm hp
 rcases zg.1 (hp.mem_iff.1 a)with e' | a
 . exact e'.symm
 . exact absurd (oL a c) (b.split.2.2 j h1)
structure Ex (xs0:List Nd) (F0:FT) (i:Nat) (xs:List Nd) (below j m:Nat) (R:FT) (B:Tr):Prop where
 fo:Fo xs (opt (B,j) R)
 rep:gR xs B j
 root:B.root=below
 start:below=0->j=i
 last:below≠0->(gm xs false B).getLast? = some i
 dep:tC (opt (B,j) R) j m
 par:∀ v u,gL (gw xs (opt (B,j) R)) v u↔gL (gw xs0 F0) v u
 key:∀ k,(fJ xs k).key=(fJ xs0 k).key
 len:xs.length=xs0.length
 lt:j<xs.length
 Bk:∀ T0,(T0,0)∈F0->((T0,0)∈R/\∀ k∈T0.mem,fJ xs k=fJ xs0 k)\/(j=0/\below≠0/\(gm xs false B).head? = (gm xs0 false T0).head?)
theorem Ex.init{xs:List Nd}{F:FT}{i:Nat}(h:Fo xs F)(hi:i<xs.length):∃ m,Ex xs F i xs 0 i m F .nil:=by
 obtain⟨m,hm⟩:=h.dep hi
 exact⟨m,h,trivial,rfl,fun _=>rfl,fun e=>absurd rfl e,hm,fun _ _=>Iff.rfl,fun _=>rfl,rfl,hi,fun b a=>.inl ⟨a,fun _ _=>rfl⟩⟩
theorem RH{α:Type}{x:α}{l:List α}(h:x∈l):∃ r,l.Perm (x :: r):=by
 obtain⟨s,t,rfl⟩:=BD h
 exact⟨s++t,ur⟩
theorem acs{e f:Tr×Nat}{R R' : FT}(h:R.Perm (f :: R')):(opt e R).Perm (f :: opt e R'):=by
 unfold opt
 split
 . exact h
 . exact(h.cons e).trans (List.Perm.swap _ _ _)
theorem Ex.go{xs0 xs:List Nd}{F0 R:FT}{i below j m:Nat}{B:Tr}(h:Ex xs0 F0 i xs below j m R B)(g:j≠0) :
 ∃ T q,gR xs T q/\j∈T.mem/\T.mem.Nodup/\T.mem.length<=1000000/\Out xs q T.mem/\∀ ys a b,jI xs ys T [] (.nd a j b) q->(fJ ys j).flip=false ->
  (fJ (lD ys j below) j).up=q/\(∀ k,k≠j->fJ (lD ys j below) k=fJ ys k)/\∃ t R', m=t + 1/\Ex xs0 F0 i (lD ys j below) j q t R' (.nd a j B):=by
 cases hd:h.dep with
 | zero=>exact absurd rfl g
 | @step T q _ t s o _ X =>
  -- the entry lies in R
  have V:(T,q)∈R:=by
   rcases pV.1 s with ⟨d,e⟩|s
   . obtain⟨ρ,_,r2⟩:=h.fo.tc
     cases e
     have:=r2 (B,j) (pV.2 (.inl ⟨d,rfl⟩)) g j o
     simp at this
   . exact s
  obtain⟨R2,hp⟩:=RH V
  have C:(opt (B,j) R).Perm ((T,q) :: opt (B,j) R2):=acs hp
  have f:=h.fo.perm C
  refine⟨T,q,f.rep (T,q) s_,o,f.split.1,f.count,f.out,fun ys a b hm I=>?_⟩
  obtain⟨Q,s1,L⟩:=f.SZ hm
  have U:gR ys B j:=by
   by_cases d:B.root=0
   . rw[h.rep.AS d];trivial
   . exact h.rep.sw hm.kl.len fun k l => L (B,j) (pV.2 (.inl ⟨d,rfl⟩)) k l
  have c:=We (F:=[]) Q I (List.Perm.refl _) U
  obtain⟨p,D,w,x,N,E,y⟩:=c
  rw[h.root]at p D w x N E y
  have aa:gm ys false B=gm xs false B:=by
   by_cases d:B.root=0
   . rw[h.rep.AS d];rfl
   . exact Gb fun k l => L (B,j) (pV.2 (.inl ⟨d,rfl⟩)) k l
  have Z:q<xs.length:=f.par (T,q) s_
  have ab:(fJ (lD ys j below) j).up=q:=(p.rep (.nd a j B,q) s_).2.1.2.2
  have A:opt (Tr.nd a j B,q) (opt (b,j) R2)=(Tr.nd a j B,q) :: opt (b,j) R2:=if_neg g
  refine⟨ab,x,t, opt (b,j) R2,rfl,⟨by rw[A];exact p,p.rep (.nd a j B,q) s_,rfl,fun e=>absurd e g,fun _=>?_,?_,fun v u=>?_,fun k=>?_,by rw[y,hm.kl.len,h.len],by rw[y,hm.kl.len];exact Z,fun M W=>?_⟩⟩
  . rw[w,aa]
    by_cases hb:below=0
    . have S:B = .nil:=h.rep.AS (h.root.trans hb)
      rw[S,h.start hb]
      simp[gm]
    . have:=h.last hb
      rw[G1,DJ,this]
      simp
  . rw[A]
    obtain⟨ρ,r1,r2⟩:=h.fo.tc
    refine tC.mono (c:=ρ j) ⟨r1,r2⟩ (fun e n H=>?_) X ?_
    . rcases zg.1 (C.mem_iff.1 n)with rfl|n
      . exact absurd (H j o) o_
      . rcases pV.1 n with ⟨d,rfl⟩|n
        . have K:=h.rep.ni d
          have r:=r2 (B,j) (pV.2 (.inl ⟨d,rfl⟩)) g _ K
          have h4:=H _ K
          simp only at r
          omega
        . exact mT _ (pV.2 (.inr n))
    . by_cases hq:q=0
      . exact .inl hq
      . exact .inr (r2 (T,q) s hq j o)
  . rw[A,D,s1,<-h.par]
    exact gL.perm (C.symm.map _)
  . rw[E,hm.kl.key,h.key]
  . rcases h.Bk M W with ⟨z,G⟩|⟨z,_⟩
    . rcases zg.1 (hp.mem_iff.1 z)with e|r
      . cases e
        refine .inr ⟨rfl,g,?_⟩
        have e1:gm ys false (.nd a j b)=gm xs false T:=hm.ord false
        have O:gm ys false (.nd a j b)=gm ys false a++j :: gm ys false b:=by simp only[gm,I,DL,cond_false]
        have P:gm xs false T=gm xs0 false T:=Gb G
        rw[w,<-P,<-e1,O]
        cases gm ys false a<;>simp
      . refine .inl ⟨pV.2 (.inr r),fun k l => ?_⟩
        have J:k∉T.mem:=fun ht=>by
         have Y:=f.split.2.2 k ht
         exact Y (oL (pV.2 (.inr r)) l)
        rw[x k (fun e=>J (e▸o)),hm.other k J,G k l]
    . exact absurd z g
theorem Ex.fin{xs0 xs:List Nd}{F0 R:FT}{i below m:Nat}{B:Tr}(h:Ex xs0 F0 i xs below 0 m R B)(hi:i≠0) :
 gR xs B 0/\i∈B.mem/\B.mem.Nodup/\B.mem.length<=1000000/\Out xs 0 B.mem/\∀ ys a b,jI xs ys B [] (.nd a i b) 0->(fJ ys i).flip=false ->
  b = .nil/\Fo ys ((.nd a i .nil,0) :: R)/\(∀ v u,gL (gw ys ((.nd a i .nil,0) :: R)) v u↔gL (gw xs0 F0) v u)/\(∀ k,(fJ ys k).key=(fJ xs0 k).key)/\ys.length=xs0.length /\
   (∀ c,(c,0)∈F0->((c,0)∈R/\∀ k∈c.mem,fJ ys k=fJ xs0 k)\/(gm ys false (.nd a i .nil)).head? = (gm xs0 false c).head?):=by
 have hb:below≠0:=fun e=>hi (h.start e).symm
 have s:B.root≠0:=by rw[h.root];exact hb
 have o:opt (B,0) R=(B,0) :: R:=if_neg s
 have f:=h.fo
 rw[o]at f
 have d:=h.last hb
 have A:i∈B.mem:=(nk xs false B).mem_iff.1 (BA d)
 refine⟨h.rep,A,f.split.1,f.count,.inl rfl,fun ys a b hm z=>?_⟩
 obtain⟨g,s1,D⟩:=f.SZ hm
 have e1:gm ys false (.nd a i b)=gm xs false B:=hm.ord false
 have p:gm ys false (.nd a i b)=gm ys false a++i :: gm ys false b:=by simp only[gm,z,DL,cond_false]
 have w:b = .nil:=by
  rw[<-e1,p,G1,DJ]at d
  have y:gm ys false b=[]:=by
   cases hl:(gm ys false b).getLast? with
   | none=>exact G6.1 hl
   | some x =>
    rw[hl]at d
    simp at d
    subst d
    have C:x∈b.mem:=(nk ys false b).mem_iff.1 (BA hl)
    have n:=g.split.1
    simp only[Tr.mem,zu,zx]at n
    exact absurd C n.2.1.1
  have:=(nk ys false b).length_eq
  rw[y]at this
  cases b with
  | nil=>rfl
  | nd _ _ _=>simp[Tr.mem]at this
 subst w
 refine⟨rfl,g,fun v u=>?_,fun k=>?_,by rw[hm.kl.len,h.len],fun c t=>?_⟩
 . rw[s1,<-h.par,o]
 . rw[hm.kl.key,h.key]
 . rcases h.Bk c t with ⟨j,q⟩|⟨_,_,r⟩
   . exact .inl ⟨j,fun k l=>by rw[D (c,0) j k l,q k l]⟩
   . exact .inr (by rw[e1];exact r)
end Go.Sx
namespace Go.Sx
open Go
theorem K4(xs:List Nd):∀ (t:Tr) (φ:Bool),gm xs (!φ) t=(gm xs φ t).reverse
 | .nil,_=>rfl
 | .nd l i r,φ=>by
  have e:xor (!φ) (fJ xs i).flip = !(xor φ (fJ xs i).flip):=by cases φ<;>cases (fJ xs i).flip<;>rfl
  simp only[gm,e,K4 xs l,K4 xs r]
  cases xor φ (fJ xs i).flip<;>simp
theorem F9{xs:List Nd}{F:FT}(h:(jO F).Nodup):(uW (gw xs F)).Nodup:=by
 have hp:(uW (gw xs F)).Perm (jO F):=by
  unfold uW gw jO
  rw[List.flatMap_map]
  clear h
  induction F with
  | nil=>exact .nil
  | cons e F a=>simp only[z6];exact((nk xs false e.1).append_right _).trans (a.append_left _)
 exact hp.nodup_iff.2 h
theorem Fo.nO{xs:List Nd}{F:FT}(h:Fo xs F){v u a : Nat}(h1:gL (gw xs F) v u)(b:gL (gw xs F) v a):u=a := Go.Sx.nO (F9 h.nodup) h1 b
theorem Fo.u9{xs:List Nd}{F:FT}(h:Fo xs F){T:Tr}{q:Nat}(a:(T,q)∈F):∀ x∈gm xs false T,x≠0:=fun x b=>((h.rep (T,q) a).o8 x ((nk xs false T).mem_iff.1 b)).1
theorem Fo.below{xs:List Nd}{F:FT}(h:Fo xs F){T:Tr}(a:(T,0)∈F){v r:Nat}(hv:v∈T.mem)(b:(gm xs false T).head? = some r):PR (gL (gw xs F)) v r :=
 (PR.Fa (q:=0) b (h.u9 a) (fun v u hp=>⟨(gm xs false T,0),zz.2 ⟨(T,0),a,rfl⟩,hp⟩) ((nk xs false T).mem_iff.2 hv)).1 rfl
structure ja (xs0:List Nd) (F0:FT) (ys:List Nd) (i:Nat) (a:Tr) (R:FT):Prop where
 fo:Fo ys ((.nd a i .nil,0) :: R)
 flip:(fJ ys i).flip=false
 par:∀ v u,gL (gw ys ((.nd a i .nil,0) :: R)) v u↔gL (gw xs0 F0) v u
 key:∀ k,(fJ ys k).key=(fJ xs0 k).key
 len:ys.length=xs0.length
 Bk:∀ T0,(T0,0)∈F0->((T0,0)∈R/\∀ k∈T0.mem,fJ ys k=fJ xs0 k)\/(gm ys false (.nd a i .nil)).head? = (gm xs0 false T0).head?
theorem ja.seq{xs0 ys:List Nd}{F0 R:FT}{i:Nat}{a:Tr}(h:ja xs0 F0 ys i a R):gm ys false (.nd a i .nil)=gm ys false a++[i]:=by
 simp only[gm,h.flip,DL,cond_false]
theorem ja.head{xs0 ys:List Nd}{F0 R:FT}{i:Nat}{a:Tr}(h:ja xs0 F0 ys i a R):∃ r,(gm ys false (.nd a i .nil)).head? = some r/\r∈(Tr.nd a i .nil).mem:=by
 have hm:i∈gm ys false (.nd a i .nil):=by rw[h.seq];simp
 cases hs:gm ys false (.nd a i .nil)with
 | nil=>rw[hs]at hm;simp at hm
 | cons r l=>exact⟨r,rfl,(nk ys false (.nd a i .nil)).mem_iff.1 (by rw[hs];simp)⟩
theorem ja.top{xs0 ys:List Nd}{F0 R:FT}{i:Nat}{a:Tr}(h:ja xs0 F0 ys i a R){r:Nat}(b:(gm ys false (.nd a i .nil)).head? = some r){v:Nat}(hv:v∈(Tr.nd a i .nil).mem):PR (gL (gw xs0 F0)) v r :=
 (h.fo.below (T:=.nd a i .nil) s_ hv b).mono fun v u hp=>(h.par v u).1 hp
def jC(ys:List Nd)(i:Nat):List Nd:=fO ys i (fun x=>{ x with flip:=true })
theorem yE{xs0 ys:List Nd}{F0 R:FT}{i:Nat}{a:Tr}(h:ja xs0 F0 ys i a R) :
 Fo (jC ys i) ((.nd a i .nil,0) :: R)/\gm (jC ys i) false (.nd a i .nil)=(gm ys false (.nd a i .nil)).reverse/\gw (jC ys i) R=gw ys R/\(jC ys i).length=ys.length/\(∀ k,k≠i->fJ (jC ys i) k=fJ ys k)/\∀ k,(fJ (jC ys i) k).key=(fJ ys k).key:=by
 obtain⟨n1,s,r⟩:=h.fo.split
 have g:=h.fo.rep (.nd a i .nil,0) s_
 have q:=g.1.2
 have i0:=g.1.1
 have ll:(jC ys i).length=ys.length:=gC
 have l:fJ (jC ys i) i={ fJ ys i with flip:=true }:=jU q
 have c:∀ k,k≠i->fJ (jC ys i) k=fJ ys k:=fun k b=>jQ (fun e=>b e.symm)
 have j:∀ k,∃ f,fJ (jC ys i) k={ fJ ys k with flip:=f }:=fun k=>by
  by_cases e:k=i
  . subst e;exact⟨true,l⟩
  . exact⟨(fJ ys k).flip,by rw[c k e]⟩
 have o:i∈(Tr.nd a i .nil).mem:=by simp[Tr.mem]
 have n:∀ k∈jO R,fJ (jC ys i) k=fJ ys k:=fun k b=>c k (fun e=>r i o (e▸b))
 obtain⟨ρ,r1,r2⟩:=h.fo.tc
 refine⟨⟨fun e d=>(h.fo.rep e d).vh ll fun k _=>j k,h.fo.ne,h.fo.nodup,fun k m b=>h.fo.all k m (by rw[ll]at b;exact b),fun e d=>by rw[ll];exact h.fo.par e d,⟨ρ,r1,r2⟩,by rw[c 0 (fun e=>i0 e.symm)];exact h.fo.zero,by rw[ll];exact h.fo.pos,by rw[ll];exact h.fo.len⟩,?_,KW n,ll,c,fun k=>?_⟩
 . rw[<-K4]
   refine S1 ?_ fun k b=>?_
   . rw[l,h.flip];rfl
   . have:k≠i:=fun e=>by
      subst e
      simp only[Tr.mem,zu,zx]at n1
      have p : k∈a.mem:=by simpa[Tr.mem]using b
      exact n1.2.2 k p k s_ rfl
     rw[c k this]
 . obtain⟨f,e⟩:=j k
   rw[e]
theorem PR.adE{S:rI}{s s' : List Nat}(j:(uW ((s,0) :: S)).Nodup)(d:∀ x∈s', x≠0)(hp:s'.Perm s){a r:Nat}(f:s'.head? = some a)(c:r∈s){v:Nat}(k:PR (gL ((s,0) :: S)) v r):PR (gL ((s', 0) :: S)) v a:=by
 have key:∀ v∈s,PR (gL ((s', 0) :: S)) v a:=fun v hv=>(PR.Fa (q:=0) f d (fun v u g => gL.cons.2 (.inl g)) (hp.mem_iff.2 hv)).1 rfl
 induction k with
 | top h=>exact key _ c
 | @step v u r h e _ i =>
  by_cases hv:v∈s
  . exact key v hv
  . rcases gL.cons.1 h with b|b
    . exact absurd (tS b) hv
    . exact .step (gL.cons.2 (.inr b)) e (i c)
theorem PR.apart{S:rI}{s s' : List Nat}(m:(uW ((s,0) :: S)).Nodup)(f:∀ x∈s,x≠0){r:Nat}(b:r∉s){v:Nat}(k:PR (gL ((s,0) :: S)) v r):v∉s/\PR (gL ((s', 0) :: S)) v r:=by
 have j:∀ v∈s,∃ h,h∈s/\PR (gL ((s,0) :: S)) v h:=fun v hv=>by
  cases s with
  | nil=>simp at hv
  | cons x l=>exact⟨x,s_,(PR.Fa (q:=0) rfl f (fun v u n => gL.cons.2 (.inl n)) hv).1 rfl⟩
 have o:∀ v u d, gL ((s,0) :: S) v u->gL ((s,0) :: S) v d -> u=d := fun v u d a g=>Go.Sx.nO m a g
 have c:∀ {v},PR (gL ((s,0) :: S)) v r->v∉s:=fun {v} k hv=>by
  obtain⟨h,i,k'⟩:=j v hv
  exact b ((PR.unique o k k')▸i)
 refine⟨c k,?_⟩
 induction k with
 | top h =>
  rcases gL.cons.1 h with a|a
  . exact absurd (tS a) b
  . exact .top (gL.cons.2 (.inr a))
 | step h e k p =>
  rcases gL.cons.1 h with a|a
  . exact absurd (tS a) (c (.step h e k))
  . exact .step (gL.cons.2 (.inr a)) e (p b c)
structure DU (ys:List Nd) (i:Nat) (a:Tr) (R:FT):Prop where
 fo:Fo ys ((.nd a i .nil,0) :: R)
 head:(gm ys false (.nd a i .nil)).head? = some i
theorem ja.tO{xs0 ys:List Nd}{F0 R:FT}{i:Nat}{a:Tr}(h:ja xs0 F0 ys i a R):DU (jC ys i) i a R:=by
 obtain⟨b,c,_⟩:=yE h
 refine⟨b,?_⟩
 rw[c,h.seq]
 simp
theorem ja.Qx{xs0 ys:List Nd}{F0 R:FT}{i:Nat}{a:Tr}(h:ja xs0 F0 ys i a R){v r:Nat}(hv:PR (gL (gw xs0 F0)) v r)(hi:PR (gL (gw xs0 F0)) i r)(k:∀ v u d, gL (gw xs0 F0) v u->gL (gw xs0 F0) v d -> u=d) :
 PR (gL (gw (jC ys i) ((.nd a i .nil,0) :: R))) v i:=by
 obtain⟨n,f,b,_⟩:=yE h
 obtain⟨m, j, hm⟩:=h.head
 have e:m = r:=PR.unique k (h.top j (by simp[Tr.mem])) hi
 subst e
 have g:gw (jC ys i) ((.nd a i .nil,0) :: R)=((gm ys false (.nd a i .nil)).reverse,0) :: gw ys R:=by
  simp only[gw,kr]at b ⊢;rw[f,b]
 have c:gw ys ((.nd a i .nil,0) :: R)=(gm ys false (.nd a i .nil),0) :: gw ys R:=rfl
 rw[g]
 refine PR.adE (s:=gm ys false (.nd a i .nil)) (by rw[<-c];exact F9 h.fo.nodup) (fun x l=>?_) (List.reverse_perm _) (by rw[h.seq];simp) ((nk ys false (.nd a i .nil)).mem_iff.2 hm) (by rw[<-c];exact hv.mono fun v u hp=>(h.par v u).2 hp)
 exact h.fo.u9 (T:=.nd a i .nil) (q:=0) s_ x (List.mem_reverse.1 l)
theorem ja.Qy{xs0 ys:List Nd}{F0 R:FT}{i:Nat}{a:Tr}(h:ja xs0 F0 ys i a R){v r b : Nat}(hv:PR (gL (gw xs0 F0)) v r)(hi:PR (gL (gw xs0 F0)) i b)(n:r≠b)(g:∀ v u j, gL (gw xs0 F0) v u->gL (gw xs0 F0) v j -> u=j) :
 PR (gL (gw (jC ys i) ((.nd a i .nil,0) :: R))) v r/\r∉(Tr.nd a i .nil).mem:=by
 obtain⟨o,l,c,_⟩:=yE h
 have f:r∉(Tr.nd a i .nil).mem:=fun hm=>by
  obtain⟨r2,e,_⟩:=h.head
  have e1:r2=b := PR.unique g (h.top e (by simp[Tr.mem])) hi
  have k:r2=r:=PR.unique g (h.top e hm) (.top hv.root)
  exact n (k.symm.trans e1)
 have m:gw (jC ys i) ((.nd a i .nil,0) :: R)=((gm ys false (.nd a i .nil)).reverse,0) :: gw ys R:=by
  simp only[gw,kr]at c ⊢;rw[l,c]
 have d:gw ys ((.nd a i .nil,0) :: R)=(gm ys false (.nd a i .nil),0) :: gw ys R:=rfl
 rw[m]
 exact⟨(PR.apart (s:=gm ys false (.nd a i .nil)) (s' := (gm ys false (.nd a i .nil)).reverse) (by rw[<-d];exact F9 h.fo.nodup) (h.fo.u9 (T:=.nd a i .nil) (q:=0) s_) (fun hm=>f ((nk ys false (.nd a i .nil)).mem_iff.1 hm)) (by rw[<-d];exact hv.mono fun v u hp=>(h.par v u).2 hp)).2,f⟩
def Joined(xs:List Nd)(F:FT)(a b:Nat):Prop:=∃ r,PR (gL (gw xs F)) a r/\PR (gL (gw xs F)) b r
theorem ja.joined{xs0 ys:List Nd}{F0 R:FT}{i:Nat}{a:Tr}(h:ja xs0 F0 ys i a R)(u v:Nat):Joined ys ((.nd a i .nil,0) :: R) u v↔Joined xs0 F0 u v :=
 ⟨fun⟨r,b,c⟩=>⟨r,b.mono fun v u=>(h.par v u).1,c.mono fun v u=>(h.par v u).1⟩,fun⟨r,b,c⟩=>⟨r,b.mono fun v u=>(h.par v u).2,c.mono fun v u=>(h.par v u).2⟩⟩
theorem Qd{xs0 xs ys:List Nd}{F0 R R' : FT}{i j:Nat}{a b:Tr}(h:ja xs0 F0 xs i a R)(k:ja xs ((.nd a i .nil,0) :: R) ys j b R')(Q:i≠j):(fJ ys i).up≠0↔Joined xs0 F0 i j:=by
 have D:=h.fo
 obtain⟨r,G,Y⟩:=h.head
 obtain⟨o, H, S⟩:=k.head
 have C:PR (gL (gw xs0 F0)) i r:=h.top G (by simp[Tr.mem])
 have J:PR (gL (gw xs0 F0)) j o := (k.top H (by simp[Tr.mem])).mono fun v u=>(h.par v u).1
 have A:∀ v u p, gL (gw xs0 F0) v u->gL (gw xs0 F0) v p -> u=p := fun v u p m n=>h.fo.nO ((h.par v u).2 m) ((h.par v p).2 n)
 constructor
 . intro B
   rcases k.Bk (.nd a i .nil) s_ with ⟨m,n⟩|m
   . have M:=k.fo.rep (.nd a i .nil,0) (mT _ m)
     exact absurd M.2.1.2.2 B
   . rw[G,H]at m
     simp only[Option.some.injEq]at m
     subst m
     exact⟨o, C,J⟩
 . rintro⟨r2,m,n⟩ B
   have e1:r=r2:=PR.unique A C m
   have K:o = r2:=PR.unique A J n
   have W:i<ys.length:=by rw[k.len];exact(D.rep (.nd a i .nil,0) s_).1.2
   have i0:i≠0:=(D.rep (.nd a i .nil,0) s_).1.1
   obtain⟨e,w,hm⟩:=qA.1 (k.fo.all i i0 W)
   -- i is the root of fP tree,which hangs from nothing
   have I:=k.fo.rep e w
   obtain⟨c,x,y,t⟩:=Fv hm
   rw[t]at I
   obtain⟨O,N⟩:=(yS _ _ _).1 I
   have E:wP c e.2=0:=by rw[<-O.2.1.2.2];exact B
   have P:c=[]:=by
    cases c with
    | nil=>rfl
    | cons f c' => obtain⟨d,g,s⟩:=f;exact absurd E N.1.1
   subst P
   have F:e.2=0:=E
   obtain⟨T,q⟩:=e
   simp only[j6]at t F hm
   subst F
   subst t
   have hd:∃ z,(gm ys false (.nd x i y)).head? = some z/\z∈(Tr.nd x i y).mem:=by
    have:(gm ys false (.nd x i y)).length=(Tr.nd x i y).mem.length:=(nk ys false _).length_eq
    cases hs:gm ys false (.nd x i y)with
    | nil=>rw[hs]at this;simp[Tr.mem]at this
    | cons z l=>exact⟨z,rfl,(nk ys false (.nd x i y)).mem_iff.1 (by rw[hs];simp)⟩
   obtain⟨z,U,V⟩:=hd
   have X:PR (gL (gw xs0 F0)) i z:=(k.fo.below w hm U).mono fun v u hp=>(h.par v u).1 ((k.par v u).1 hp)
   have L:z=o := (PR.unique A X C).trans (e1.trans K.symm)
   have:=k.fo.Yo w (ze (a:=(Tr.nd b j .nil,0))) V (by rw[L];exact S)
   simp only[Prod.mk.injEq,Tr.nd.injEq]at this
   exact Q this.1.2.1
theorem RF{xs ys:List Nd}{R R' : FT}{i j:Nat}{a b:Tr}(h:DU xs i a R)(k:ja xs ((.nd a i .nil,0) :: R) ys j b R')(f:PR (gL (gw xs ((.nd a i .nil,0) :: R))) j i):(gm ys false (.nd b j .nil)).head? = some i:=by
 obtain⟨r,c,_⟩:=k.head
 have:=PR.unique (P:=gL (gw xs ((.nd a i .nil,0) :: R))) (fun v u g d e=>h.fo.nO d e) (k.top c (v:=j) (by simp[Tr.mem])) f
 rw[c,this]
end Go.Sx
namespace Go.Sx
open Go
theorem gR.one{xs:List Nd}{t:Tr}{p i:Nat}(h:gR xs t p)(hs:t.mem=[i]):t = .nd .nil i .nil:=by
 cases t with
 | nil=>simp[Tr.mem]at hs
 | nd l j r =>
  cases l with
  | nil =>
   cases r with
   | nil=>simp[Tr.mem]at hs;rw[hs]
   | nd _ _ _=>simp[Tr.mem]at hs
  | nd _ _ _ =>
   have:=congrArg List.length hs
   simp[Tr.mem]at this
   omega
theorem abm{xs:List Nd}{t:Tr}{i:Nat}(h:gm xs false t=[i]):t.mem=[i]:=by
 have:=nk xs false t
 rw[h]at this
 exact List.perm_singleton.1 this.symm
theorem acH{ys zs us:List Nd}{i j:Nat}{b a2 b2:Tr}{R R2 c:FT}(n:Fo ys ((.nd b j .nil,0) :: R))(hs:gm ys false (.nd b j .nil)=[i,j])
 (h1:ja ys ((.nd b j .nil,0) :: R) zs i a2 R2) (a:ja (jC zs i) ((.nd a2 i .nil,0) :: R2) us j b2 c):b2 = .nd .nil i .nil/\a2 = .nil:=by
 have p:∀ x∈[i,j],x≠0:=fun x v=>n.u9 (T:=.nd b j .nil) (q:=0) s_ x (by rw[hs];exact v)
 have i0:=p i s_
 have m:gL (gw ys ((.nd b j .nil,0) :: R)) i 0:=⟨(gm ys false (.nd b j .nil),0),by simp[gw],by rw[hs];exact qt.2 (.inl ⟨rfl,rfl⟩)⟩
 have p2:gL (gw ys ((.nd b j .nil,0) :: R)) j i:=⟨(gm ys false (.nd b j .nil),0),by simp[gw],by rw[hs];exact qt.2 (.inr (qt.2 (.inl ⟨rfl,rfl⟩)))⟩
 -- the first exposing
 have w:gL (gw zs ((.nd a2 i .nil,0) :: R2)) i ((gm zs false a2).getLast?.getD 0):=⟨(gm zs false (.nd a2 i .nil),0),by simp[gw],gm zs false a2,[],h1.seq,rfl⟩
 have e1:=h1.fo.nO w ((h1.par i 0).2 m)
 have h:gm zs false a2=[]:=by
  cases d:(gm zs false a2).getLast? with
  | none=>exact G6.1 d
  | some x =>
   rw[d]at e1
   simp only[zS]at e1
   exact absurd e1 (h1.fo.u9 (T:=.nd a2 i .nil) (q:=0) s_ x (by rw[h1.seq];exact xw _ (BA d)))
 have o : a2 = .nil:=by
  have:=(nk zs false a2).length_eq
  rw[h]at this
  cases a2 with
  | nil=>rfl
  | nd _ _ _=>simp[Tr.mem]at this
 obtain⟨C,y,l,_⟩:=yE h1
 have k:gw (jC zs i) ((.nd a2 i .nil,0) :: R2)=gw zs ((.nd a2 i .nil,0) :: R2):=by
  simp only[gw,kr]at l ⊢
  rw[y,l,h1.seq,h]
  rfl
 have z:gL (gw us ((.nd b2 j .nil,0) :: c)) i 0:=(a.par i 0).2 (by rw[k];exact(h1.par i 0).2 m)
 have A:gL (gw us ((.nd b2 j .nil,0) :: c)) j i:=(a.par j i).2 (by rw[k];exact(h1.par j i).2 p2)
 have u:gL (gw us ((.nd b2 j .nil,0) :: c)) j ((gm us false b2).getLast?.getD 0):=⟨(gm us false (.nd b2 j .nil),0),by simp[gw],gm us false b2,[],a.seq,rfl⟩
 have B:=a.fo.nO u A
 have d:(gm us false b2).getLast? = some i:=by
  grind
 obtain⟨s,f⟩:∃ s,gm us false b2=s++[i]:=by
  obtain⟨s,e⟩:=LR.1 d
  exact⟨s,e⟩
 have hv:gL (gw us ((.nd b2 j .nil,0) :: c)) i (s.getLast?.getD 0):=⟨(gm us false (.nd b2 j .nil),0),by simp[gw],s,[j],by rw[a.seq,f];simp,rfl⟩
 have g:=a.fo.nO hv z
 have t:s=[]:=by
  cases hl2:s.getLast? with
  | none=>exact G6.1 hl2
  | some x =>
   rw[hl2]at g
   simp only[zS]at g
   exact absurd g (a.fo.u9 (T:=.nd b2 j .nil) (q:=0) s_ x (by rw[a.seq,f];simp[BA hl2]))
 rw[t,tv]at f
 have r:=a.fo.rep (.nd b2 j .nil,0) s_
 exact⟨gR.one r.2.2.2.1 (abm f),o⟩
def nT(us:List Nd)(i j:Nat):List Nd:=iG (fO (fO us i (fun x=>{ x with up:=0 })) j (fun x=>{ x with k0:=0 })) j
theorem afO{us:List Nd}{i j:Nat}{R:FT}(h:Fo us ((.nd (.nd .nil i .nil) j .nil,0) :: R)):Fo (nT us i j) ((.nd .nil i .nil,0) :: (.nd .nil j .nil,0) :: R)/\(nT us i j).length=us.length/\∀ k,k≠i->k≠j->fJ (nT us i j) k=fJ us k:=by
 obtain⟨n1,O,B⟩:=h.split
 obtain⟨⟨t,jl⟩,⟨k0,k1,up⟩,v,hi,_⟩:=h.rep (.nd (.nd .nil i .nil) j .nil,0) s_
 have E := hi
 obtain⟨⟨i0,A⟩,⟨I,J,N⟩,iv,_,_⟩:=E
 have s:i≠j:=by
  simp only[Tr.mem,tv,vH,oD]at n1
  rintro rfl
  simp at n1
 obtain⟨M,e1⟩:∃ x,x=fO us i (fun x=>{ x with up:=0 }):=⟨_,rfl⟩
 obtain⟨d,f⟩:∃ x,x=fO M j (fun x=>{ x with k0:=0 }):=⟨_,rfl⟩
 have D:nT us i j=iG d j:=by rw[f,e1];rfl
 have K:d.length=us.length:=by rw[f,e1,gC,gC]
 have a2:fJ d i={ fJ us i with up:=0 }:=by rw[f,jQ (fun e=>s e.symm),e1,jU A]
 have b2:fJ d j={ fJ us j with k0:=0 }:=by rw[f,jU (by rw[e1,gC];exact jl),e1,jQ s]
 have L:∀ k,k≠i->k≠j->fJ d k=fJ us k:=fun k b F => by rw[f,jQ (fun e=>F e.symm),e1,jQ (fun e=>b e.symm)]
 obtain⟨p,q⟩:=A9 (xs:=d) (i:=j) (l:=.nil) (r:=.nil) ⟨t,o_⟩ trivial trivial (by rw[b2];rfl) (by rw[b2];exact k1) (by simp[Tr.mem]) (by simp[Tr.mem])
 rw[<-D]at p q
 rw[show (fJ d j).up=0 by rw[b2];exact up]at q
 have c:fJ (nT us i j) i={ fJ us i with up:=0 }:=by rw[p.other i s,a2]
 have u:∀ k,k≠i->k≠j->fJ (nT us i j) k=fJ us k:=fun k o w=>by rw[p.other k w,L k o w]
 have ll:(nT us i j).length=us.length:=by rw[p.len,K]
 have C:gR (nT us i j) (.nd .nil i .nil) 0:=by
  refine⟨⟨i0,by rw[ll];exact A⟩,⟨by rw[c];exact I,by rw[c];exact J,by rw[c]⟩,?_,trivial,trivial⟩
  simp only[Tr.mem,tv]at iv ⊢
  refine⟨by rw[c];exact iv.size,?_,?_⟩
  . rw[c,iv.total];simp[ou,c]
  . rw[c];exact⟨iv.first.1,fun k b=>.inl (by have o:=iv.first.1;simp at b o;rw[b,o])⟩
 have G:i∈(Tr.nd (.nd .nil i .nil) j .nil).mem:=by simp[Tr.mem]
 have H:j∈(Tr.nd (.nd .nil i .nil) j .nil).mem:=by simp[Tr.mem]
 have nR:∀ e∈R,∀ k∈e.1.mem,k≠i/\k≠j:=fun e a k b=>⟨fun e' => B i G (e' ▸ oL a b),fun e' => B j H (e' ▸ oL a b)⟩
 have z:jO ((.nd .nil i .nil,0) :: (.nd .nil j .nil,0) :: R)=jO ((.nd (.nd .nil i .nil) j .nil,0) :: R):=by simp[jO,Tr.mem]
 obtain⟨ρ,r1,r2⟩:=h.tc
 refine⟨⟨fun e a=>?_,fun e a=>?_,by rw[z];exact h.nodup,fun k g b=>by rw[z];exact h.all k g (by rw[ll]at b;exact b),fun e a=>?_,⟨ρ,fun e a=>?_,fun e a g=>?_⟩,by rw[u 0 (fun e=>i0 e.symm) (fun e=>t e.symm)];exact h.zero,by rw[ll];exact h.pos,by rw[ll];exact h.len⟩,ll,u⟩
 . rcases zg.1 a with rfl|a
   . exact C
   . rcases zg.1 a with rfl|a
     . exact q
     . exact(h.rep e (by simp[a])).sw ll fun k b=>u k (nR e a k b).1 (nR e a k b).2
 . rcases zg.1 a with rfl|a
   . exact i0
   . rcases zg.1 a with rfl|a
     . exact t
     . exact h.ne e (by simp[a])
 . rw[ll]
   rcases zg.1 a with rfl|a
   . exact h.pos
   . rcases zg.1 a with rfl|a
     . exact h.pos
     . exact h.par e (by simp[a])
 . rcases zg.1 a with rfl|a
   . intro x m y n;simp[Tr.mem]at m n;rw[m,n]
   . rcases zg.1 a with rfl|a
     . intro x m y n;simp[Tr.mem]at m n;rw[m,n]
     . exact r1 e (by simp[a])
 . rcases zg.1 a with rfl|a
   . exact absurd rfl g
   . rcases zg.1 a with rfl|a
     . exact absurd rfl g
     . exact r2 e (by simp[a]) g
def lF(zs:List Nd)(a b:Nat):List Nd := 
 let c:=fO zs a (fun x=>{ x with up:=b })
 iG (fO c b (fun x=>{ x with iL:=IntKind.i64.wrap (x.iL+(fJ c a).total) })) b
theorem aaW{zs:List Nd}{a b:Nat}{x y:Tr}{R:FT}(h:Fo zs ((.nd y b .nil,0) :: (.nd x a .nil,0) :: R)):Fo (lF zs a b) ((.nd y b .nil,0) :: (.nd x a .nil,b) :: R)/\(lF zs a b).length=zs.length/\∀ k,k≠a->k≠b->fJ (lF zs a b) k=fJ zs k:=by
 obtain⟨n1,F,n3⟩:=h.split
 have V:=h.rep (.nd y b .nil,0) s_
 have A:=h.rep (.nd x a .nil,0) s_
 obtain⟨⟨b0,bl⟩,⟨S,T,U⟩,bv,hy,_⟩:=V
 have a0:=A.1.1
 have al:=A.1.2
 have t:a∈(Tr.nd x a .nil).mem:=by simp[Tr.mem]
 have u:b∈(Tr.nd y b .nil).mem:=by simp[Tr.mem]
 have n:∀ k∈(Tr.nd y b .nil).mem,k∉(Tr.nd x a .nil).mem/\k∉jO R:=fun k c=>by
  have:=n3 k c
  simp only[jO,z6,zr,not_or]at this
  exact this
 have D:a≠b:=fun e=>(n b u).1 (e▸t)
 have nA:(Tr.nd x a .nil).mem.Nodup/\∀ k∈(Tr.nd x a .nil).mem,k∉jO R:=by
  simp only[jO,z6,zu]at F
  exact⟨F.1,fun k m f=>F.2.2 k m k f rfl⟩
 obtain⟨I,e1⟩:∃ z,z=fO zs a (fun x=>{ x with up:=b }):=⟨_,rfl⟩
 obtain⟨g,q⟩:∃ z,z=fO I b (fun x=>{ x with iL:=IntKind.i64.wrap (x.iL+(fJ I a).total) }):=⟨_,rfl⟩
 have X:lF zs a b=iG g b:=by rw[q,e1];rfl
 have L:I.length=zs.length:=by rw[e1,gC]
 have M:g.length=zs.length:=by rw[q,gC,L]
 have a2:fJ g a={ fJ zs a with up:=b }:=by rw[q,jQ (fun e=>D e.symm),e1,jU al]
 obtain⟨N,b2⟩:∃ N,fJ g b={ fJ zs b with iL:=N }:=⟨_,by rw[q,jU (by rw[L];exact bl),e1,jQ D]⟩
 have O:∀ k,k≠a->k≠b->fJ g k=fJ zs k:=fun k c Y => by rw[q,jQ (fun e=>Y e.symm),e1,jQ (fun e=>c e.symm)]
 have ad:b∉y.mem:=by
  simp only[Tr.mem,zu,zx]at n1
  exact fun h=>n1.2.2 b h b s_ rfl
 have ab:gR g y b:=hy.sw M fun k c=>O k (fun e=>(n k (by simp[Tr.mem,c])).1 (e▸t)) (fun e=>ad (e▸c))
 obtain⟨w,B⟩:=A9 (xs:=g) (i:=b) (l:=y) (r:=.nil) ⟨b0,o_⟩ ab trivial (by rw[b2];exact S) (by rw[b2];exact T) n1 h.count
 rw[<-X]at w B
 rw[show (fJ g b).up=0 by rw[b2];exact U]at B
 have v:∀ k,k≠a->k≠b->fJ (lF zs a b) k=fJ zs k:=fun k m f=>by rw[w.other k f,O k m f]
 have ll:(lF zs a b).length=zs.length:=by rw[w.len,M]
 have j:fJ (lF zs a b) a={ fJ zs a with up:=b }:=by rw[w.other a D,a2]
 have W:gR (lF zs a b) (.nd x a .nil) b:=by
  obtain⟨⟨_,_⟩,⟨P,Q,_⟩,p,Z,_⟩:=A
  have ac:a∉x.mem:=by
   have:=nA.1
   simp only[Tr.mem,zu,zx]at this
   exact fun h=>this.2.2 a h a s_ rfl
  have K:∀ k∈x.mem,fJ (lF zs a b) k=fJ zs k:=fun k c=>v k (fun e=>ac (e▸c)) (fun e=>(n b u).1 (e▸by simp[Tr.mem,c]))
  refine⟨⟨a0,by rw[ll];exact al⟩,⟨by rw[j];exact P,by rw[j];exact Q,by rw[j]⟩,?_,Z.sw ll K,trivial⟩
  have C:∀ k∈x.mem++a :: Tr.nil.mem,(fJ (lF zs a b) k).key=(fJ zs k).key/\(fJ (lF zs a b) k).iL=(fJ zs k).iL:=fun k c=>by
   simp only[Tr.mem,zr,zg,mz,or_false]at c
   rcases c with c|rfl
   . rw[K k c];exact⟨rfl,rfl⟩
   . rw[j];exact⟨rfl,rfl⟩
  refine⟨by rw[j];exact p.size,?_,?_⟩
  . rw[j,show ou (lF zs a b) (x.mem++a :: Tr.nil.mem)=ou zs (x.mem++a :: Tr.nil.mem) from congrArg List.sum (zN fun k c=>by rw[(C k c).2])]
    exact p.total
  . rw[j]
    refine⟨p.first.1,fun k c=>?_⟩
    rcases p.first.2 k c with e|e
    . exact .inl e
    . refine .inr ?_
      rw[<-e]
      simp only[kX,(C k c).1,(C _ p.first.1).1]
 have nR:∀ e∈R,∀ k∈e.1.mem,k≠a/\k≠b:=fun e d k c=>⟨fun e' => nA.2 a t (e' ▸ oL d c),fun e' => (n b u).2 (e' ▸ oL d c)⟩
 have J:jO ((.nd y b .nil,0) :: (.nd x a .nil,b) :: R)=jO ((.nd y b .nil,0) :: (.nd x a .nil,0) :: R):=by simp[jO]
 obtain⟨ρ,r1,r2⟩:=h.tc
 obtain⟨σ,E⟩:∃ σ:Nat->Nat,∀ k,σ k=if k∈(Tr.nd y b .nil).mem then ρ k+ρ a+1 else ρ k:=⟨_,fun _=>rfl⟩
 have H:∀ k∈(Tr.nd y b .nil).mem,σ k=ρ k+ρ a+1:=fun k c=>by rw[E,if_pos c]
 have o:∀ k,k∉(Tr.nd y b .nil).mem->σ k=ρ k:=fun k c=>by rw[E,if_neg c]
 have ae:∀ k,ρ k<=σ k:=fun k=>by rw[E];split<;>omega
 have G:∀ k∈(Tr.nd x a .nil).mem,k∉(Tr.nd y b .nil).mem:=fun k m f=>(n k f).1 m
 have oR:∀ e∈R,∀ k∈e.1.mem,k∉(Tr.nd y b .nil).mem:=fun e d k m f=>(n k f).2 (oL d m)
 refine⟨⟨fun e d=>?_,fun e d=>?_,by rw[J];exact h.nodup,fun k s c=>by rw[J];exact h.all k s (by rw[ll]at c;exact c),fun e d=>?_,⟨σ,fun e d=>?_,fun e d s=>?_⟩,by rw[v 0 (fun e=>a0 e.symm) (fun e=>b0 e.symm)];exact h.zero,by rw[ll];exact h.pos,by rw[ll];exact h.len⟩,ll,v⟩
 . rcases zg.1 d with rfl|d
   . exact B
   . rcases zg.1 d with rfl|d
     . exact W
     . exact(h.rep e (by simp[d])).sw ll fun k c=>v k (nR e d k c).1 (nR e d k c).2
 . rcases zg.1 d with rfl|d
   . exact b0
   . rcases zg.1 d with rfl|d
     . exact a0
     . exact h.ne e (by simp[d])
 . rw[ll]
   rcases zg.1 d with rfl|d
   . exact h.pos
   . rcases zg.1 d with rfl|d
     . exact bl
     . exact h.par e (by simp[d])
 . rcases zg.1 d with rfl|d
   . intro i hi k c
     rw[H i hi,H k c,r1 (.nd y b .nil,0) s_ i hi k c]
   . rcases zg.1 d with rfl|d
     . intro i hi k c
       rw[o i (G i hi),o k (G k c),r1 (.nd x a .nil,0) s_ i hi k c]
     . intro i hi k c
       rw[o i (oR e d i hi),o k (oR e d k c),r1 e (by simp[d]) i hi k c]
 . rcases zg.1 d with rfl|d
   . exact absurd rfl s
   . rcases zg.1 d with rfl|d
     . intro i hi
       have:=r1 (.nd x a .nil,0) s_ i hi a t
       rw[o i (G i hi),H b u]
       omega
     . intro i hi
       have:=r2 e (by simp[d]) s i hi
       have:=ae e.2
       rw[o i (oR e d i hi)]
       omega
def ri(ys:List Nd)(i:Nat)(k:Int):List Nd:=iG (fO ys i (fun x=>{ x with key:=k })) i
theorem aeu{ys:List Nd}{i:Nat}{a:Tr}{R:FT}{c:Int}(h:Fo ys ((.nd a i .nil,0) :: R)):Fo (ri ys i c) ((.nd a i .nil,0) :: R)/\(ri ys i c).length=ys.length/\(∀ k,k≠i->fJ (ri ys i c) k=fJ ys k)/\(fJ (ri ys i c) i).key=c:=by
 obtain⟨n1,B,y⟩:=h.split
 obtain⟨⟨i0,w⟩,⟨k0,k1,up⟩,v,t,_⟩:=h.rep (.nd a i .nil,0) s_
 obtain⟨f,g⟩:∃ z,z=fO ys i (fun x=>{ x with key:=c }):=⟨_,rfl⟩
 have u:ri ys i c=iG f i:=by rw[g];rfl
 have p:f.length=ys.length:=by rw[g,gC]
 have a2:fJ f i={ fJ ys i with key:=c }:=by rw[g,jU w]
 have q:∀ k,k≠i->fJ f k=fJ ys k:=fun k b=>by rw[g,jQ (fun e=>b e.symm)]
 have A:i∉a.mem:=by
  simp only[Tr.mem,zu,zx]at n1
  exact fun h=>n1.2.2 i h i s_ rfl
 obtain⟨j,m⟩:=A9 (xs:=f) (i:=i) (l:=a) (r:=.nil) ⟨i0,o_⟩ (t.sw p fun k b=>q k (fun e=>A (e▸b))) trivial (by rw[a2];exact k0) (by rw[a2];exact k1) n1 h.count
 rw[<-u]at j m
 rw[show (fJ f i).up=0 by rw[a2];exact up]at m
 have n:∀ k,k≠i->fJ (ri ys i c) k=fJ ys k:=fun k o=>by rw[j.other k o,q k o]
 have ll:(ri ys i c).length=ys.length:=by rw[j.len,p]
 have hm:i∈(Tr.nd a i .nil).mem:=by simp[Tr.mem]
 refine⟨⟨fun e d=>?_,h.ne,h.nodup,fun k s b=>h.all k s (by rw[ll]at b;exact b),fun e d=>by rw[ll];exact h.par e d,h.tc,by rw[n 0 (fun e=>i0 e.symm)];exact h.zero,by rw[ll];exact h.pos,by rw[ll];exact h.len⟩,ll,n,by rw[j.kl.key,a2]⟩
 rcases zg.1 d with rfl|d
 . exact m
 . exact(h.rep e (by simp[d])).sw ll fun k b=>n k (fun e' => y i hm (e' ▸ oL d b))
def uU:Nd:=⟨0,0,0,false,0,0,0,0,0⟩
def wJ(i:Nat):Nd:=⟨0,0,0,false,0,1,i,0,1⟩
def lH(n k:Nat):List Nd:=(List.range (n+1)).map fun i=>if 1<=i/\i<=k then wJ i else uU
theorem sZ(n k:Nat):(lH n k).length=n+1:=by simp[lH]
theorem yL{n k i:Nat}(h:i<n+1):fJ (lH n k) i=if 1<=i/\i<=k then wJ i else uU:=by
 simp[fJ,lH,p6 h]
theorem ab7(n:Nat):lH n 0=List.replicate (n+1) uU:=by
 apply List.ext_getElem
 . simp[lH]
 . grind [lH]
theorem ab6{n k:Nat}(h:k<n):iG (lH n k) (k+1)=lH n (k+1):=by
 have b:k+1<(lH n k).length:=by rw[sZ];omega
 have a:fJ (lH n k) (k+1)=uU:=by rw[yL o_,if_neg o_]
 unfold iG
 rw[a]
 simp only[uU,lQ,if_true]
 apply nU
 intro i
 by_cases hi:i=k+1
 . grind [gz,gC,jU,sZ,yL,uU,wJ,LI]
 . grind [gz,gC,sZ,jQ,yL]
def newF(n:Nat):FT:=(List.range n).map fun v=>(.nd .nil (v+1) .nil,0)
theorem acd{n:Nat}(h:n<=1000000):Fo (lH n n) (newF n):=by
 have i:jO (newF n)=(List.range n).map (· + 1):=by
  unfold jO newF
  rw[List.flatMap_map]
  induction List.range n with
  | nil=>rfl
  | cons x l k =>
   rw[z6,k]
   rfl
 refine⟨fun e d=>?_,fun e d=>?_,?_,fun j g f=>?_,fun e d=>?_,⟨fun _=>0,fun _ _ _ _ _ _=>rfl,fun e d g=>?_⟩,?_,by rw[sZ];omega,by rw[sZ];omega⟩
 . obtain⟨v,hv,rfl⟩:=zz.1 d
   have hv:=k9.1 hv
   have c:fJ (lH n n) (v+1)=wJ (v+1):=by rw[yL o_,if_pos o_]
   refine⟨⟨o_,by rw[sZ];omega⟩,⟨by rw[c];rfl,by rw[c];rfl,by rw[c];rfl⟩,⟨by rw[c];rfl,?_,?_⟩,trivial,trivial⟩
   . rw[c];simp only[Tr.mem,tv,ou,kr,zdt,c];rw[LI];rfl
   . rw[c];exact⟨by simp[wJ,Tr.mem],fun j f=>.inl (by simpa[wJ,Tr.mem]using f)⟩
 . obtain⟨v,hv,rfl⟩:=zz.1 d
   exact Nat.succ_ne_zero v
 . rw[i]
   exact List.Pairwise.map _ (fun a b (h:a≠b)=>by show a+1≠b+1;omega) vG
 . rw[i]
   rw[sZ]at f
   exact zz.2 ⟨j-1,k9.2 o_,o_⟩
 . obtain⟨v,hv,rfl⟩:=zz.1 d
   rw[sZ];show 0<n+1;omega
 . obtain⟨v,hv,rfl⟩:=zz.1 d
   exact absurd rfl g
 . rw[yL o_,if_neg o_];exact⟨rfl,rfl,rfl⟩
end Go.Sx
namespace Go.Sx
open Go
theorem TS{α:Type}[Inhabited α]{xs:List α}{i:Nat}{f g:α->α}(h:i<xs.length):fO (fO xs i f) i g=fO xs i (fun x=>g (f x)):=by
 have e:=jU (f:=f) h
 unfold fO at e ⊢
 rw[e,List.set_set]
theorem adB{xs:List Nd}{i:Nat}(h:i<xs.length):fO (fO (fO xs i (fun x=>{ x with size:=1 })) i (fun x=>{ x with first:=i })) i (fun x=>{ x with total:=IntKind.i64.wrap (1+(fJ xs i).iL) })=fO xs i (fun x=>{ x with size:=1,first:=i,total:=IntKind.i64.wrap (1+x.iL) }):=by
 rw[TS h,TS h];rfl
theorem u7{xs y:List Nd}{i:Nat}(a:y=fO xs i (fun x=>{ x with size:=1,first:=i,total:=IntKind.i64.wrap (1+x.iL) }))(h:i<xs.length):iG xs i=lQ (lQ y i (fJ y i).k0) i (fJ y i).k1:=by
 have b:(fJ y i).k0=(fJ xs i).k0:=by rw[a,jU h]
 have e1:(fJ y i).k1=(fJ xs i).k1:=by rw[a,jU h]
 rw[b,e1,a];rfl
theorem tW{xs:List Nd}{i k:Nat}(h:k=0):lQ xs i k=xs:=by simp[lQ,h]
section
variable {xs y0 y1 y2:List Nd} {i k:Nat}
theorem tV(h:k≠0)(a:y0=fO xs i (fun x=>{ x with size:=IntKind.i64.wrap ((fJ xs i).size+(fJ xs k).size) }))(e1:y1=fO y0 i (fun x=>{ x with total:=IntKind.i64.wrap ((fJ y0 i).total+(fJ y0 k).total) }))
 (c:kX y1 (fJ y1 k).first (fJ y1 i).first=true) (b:y2=fO y1 i (fun x=>{ x with first:=(fJ y1 k).first })):lQ xs i k=y2:=by
 subst a e1 b
 simp only[lQ,if_neg h]
 exact if_pos c
theorem tU(h:k≠0)(a:y0=fO xs i (fun x=>{ x with size:=IntKind.i64.wrap ((fJ xs i).size+(fJ xs k).size) }))(e1:y1=fO y0 i (fun x=>{ x with total:=IntKind.i64.wrap ((fJ y0 i).total+(fJ y0 k).total) }))
 (b:kX y1 (fJ y1 k).first (fJ y1 i).first=false):lQ xs i k=y1:=by
 have c : ¬ kX y1 (fJ y1 k).first (fJ y1 i).first=true:=by rw[b];simp
 subst a e1
 simp only[lQ,if_neg h]
 exact if_neg c
end
theorem Df(xs:List Nd)(i:Nat):jH xs i=(0,false)\/jH xs i=(0,true)\/jH xs i=(1,true):=by
 unfold jH
 (repeat' split)<;>simp
theorem gf.kF{xs:List Nd}(h:gf xs){i s k:Nat}(hi:i<xs.length)(hk:k<xs.length):gf (iW xs i s k):=by
 have f:gf (if s=0 then fO xs i (fun x=>{ x with k0:=k })else fO xs i (fun x=>{ x with k1:=k })):=by
  split
  . exact h.iN hi fun x a b c d e=>⟨hk,b,c,d,e⟩
  . exact h.iN hi fun x a b c d e=>⟨a,hk,c,d,e⟩
 have g:(if s=0 then fO xs i (fun x=>{ x with k0:=k })else fO xs i (fun x=>{ x with k1:=k })).length=xs.length:=by split<;>exact gC
 by_cases hk0:k=0
 . simp only[iW,if_pos hk0]
   exact f
 . simp only[iW,if_neg hk0]
   exact f.iN (by rw[g];exact hk) fun x a b c d e=>⟨a,b,by rw[g];exact hi,d,e⟩
theorem E8(xs:List Nd)(i s k:Nat):(iW xs i s k).length=xs.length:=by
 unfold iW
 simp only
 (repeat' split)<;>simp only[gC]
theorem KA(xs:List Nd)(i k:Nat):(lQ xs i k).length=xs.length:=by
 unfold lQ
 simp only
 (repeat' split)<;>simp only[gC]
theorem FX(xs:List Nd)(i:Nat):(iG xs i).length=xs.length:=by
 simp only[iG,KA,gC]
theorem gf.lQ{xs:List Nd}(h:gf xs){i k:Nat}(hi:i<xs.length)(hk:k<xs.length):gf (lQ xs i k):=by
 have g:gf (fO xs i (fun x=>{ x with size:=IntKind.i64.wrap (x.size+(fJ xs k).size) })):=h.iN hi fun x a b c d e=>⟨a,b,c,d,e⟩
 have l0:(fO xs i (fun x=>{ x with size:=IntKind.i64.wrap (x.size+(fJ xs k).size) })).length=xs.length:=gC
 unfold Go.Sx.lQ
 simp only
 generalize fO xs i (fun x=>{ x with size:=IntKind.i64.wrap (x.size+(fJ xs k).size) })=y0 at g l0 ⊢
 have f:gf (fO y0 i (fun x=>{ x with total:=IntKind.i64.wrap (x.total+(fJ y0 k).total) })):=g.iN o_ fun x a b c d e=>⟨a,b,c,d,e⟩
 have j:(fO y0 i (fun x=>{ x with total:=IntKind.i64.wrap (x.total+(fJ y0 k).total) })).length=y0.length:=gC
 generalize fO y0 i (fun x=>{ x with total:=IntKind.i64.wrap (x.total+(fJ y0 k).total) })=y1 at f j ⊢
 split
 . exact h
 split
 . exact f.iN o_ fun x a b c d e=>⟨a,b,c,f.first k o_,e⟩
 . exact f
theorem gf.lP{xs:List Nd}(h:gf xs){i:Nat}(hi:i<xs.length):gf (iG xs i):=by
 have f:gf (fO xs i (fun x=>{ x with size:=1,first:=i,total:=IntKind.i64.wrap (1+x.iL) })):=h.iN hi fun x a b c d e=>⟨a,b,c,hi,e⟩
 have l0:(fO xs i (fun x=>{ x with size:=1,first:=i,total:=IntKind.i64.wrap (1+x.iL) })).length=xs.length:=gC
 have a:=h.k0 i hi
 have b:=h.k1 i hi
 unfold iG
 exact(f.lQ o_ o_).lQ (by rw[KA];omega) (by rw[KA];omega)
end Go.Sx
namespace Go.Sx
open Go
theorem om{p:Prop}(h:p:=by first|omega|(simp only[gC];omega)):p:=h
theorem oa{p:Prop}(h:p:=by first|assumption|omega|(simp only[gC];omega)):p:=h
theorem o9{p q:Prop}(a:q)(h:q->p:=by intro a;first|omega|(simp only[gC]at a ⊢;omega)|(simp only[gC]at a;omega)|(simp only[gC];omega)):p:=h a
theorem iE{bs:List (World×List Nat)}{A:fS}{nb t m:Nat}{z:List Nd}{w:World}(a:gf z)(hs:St bs [A,blk nb t (z.flatMap Nd.cells)] w)(b:z.length=m:=by first|omega|(simp only[gC];omega)|(rw[E8];omega)|(rw[FX];omega)|omega):∃ y,y=z/\y.length=m/\gf y/\St bs [A,blk nb t (y.flatMap Nd.cells)] w:=⟨z,rfl,b,a,hs⟩
section
variable {Γ:Type} {P:Program} {ops:Array Oper} {Q:Exit->Act->World->Prop} {n:Nat} {ds:List Deferred} {s0:List (Nat×Value)} {l0:List Oper} {pre:List (List Nat)} {mem:List Nat} {V:List (Γ->Value)} {bs:List (World×List Nat)} {Ls:List ((Γ->List fS)×(Γ->World->Prop))} {i:Nat} {s:Γ->List (Nat×Value)} {o:Oper} {l:List Oper} {v:Γ->Value} {vs:List (Γ->Value)}
theorem uY(h:∀ g w,(execOp (ev n (s g)) o).run P w = .ok (.value (v g)) w)(K:lT P ops Q n ds s0 l0 pre mem V (jD bs Ls) (i+1) (fun g=>kI o.dst (v g) (s g)) l vs)(hm:mem.contains i=false:=by exact rfl)(a:∀ g,gE ops n (s g) o.guard=true:=by exact fun _=>rfl)(hd:nM o.op=true:=by exact rfl) :
 lT P ops Q n ds s0 l0 pre mem V (jD bs Ls) i s (o :: l) (v :: vs):=acj hm (fun g w C=>qv (a g) hd (h g w)) K
end
section
variable {P:Program} {bs:List (World×List Nat)} {L LL A A' B:List fS} {R R' : fS} {w w' : World}
theorem St.tn(i:Nat)(h:St bs L w)(b:fZ R w w' R')(hi:L[i]? = some R:=by exact rfl)(a:L.set i R' = LL:=by first|(dsimp only[List.set];exact rfl)|exact rfl):St bs LL w' := St.Lz i h hi b a
theorem St.tu(h:St bs (gq A :: B) w)(a:fZ (gq A) w w' (gq A')):St bs (A' ++ B) w' := (St.Lz 0 h rfl a rfl).unpack
theorem St.eT(h:St bs (R' :: L) w')(hb:(w,R.gJ)∈bs:=by exact ze):fZ R w w' R' := h.EI hb
theorem St.eM(h:St bs (R :: L) w')(hb:(w,[])∈bs:=by simp):fZ (gq []) w w' R:=h.Oc hb
theorem en{f:FuncId}{fn:Func}{c:Code}{n:Nat}{vs:List Value}{R:Ending->World->Prop}(a:P.funcs[f]? = some fn)(b:fn.ntmps=n)(h:WP none P c (bodyPost P fn R) (Fr n (vV vs 0) []) w)(hb:fn.body=some c:=by exact rfl)(hs:Nat.ble vs.length n=true:=by exact rfl):Calls P f vs.toArray w R:=enter a hb b hs h
variable {ops:Array Oper} {Q:Exit->Act->World->Prop} {n:Nat} {s:List (Nat×Value)} {ds:List Deferred} {r d:Option Nat} {ty:TypeId} {pos:String} {af:Array Edge} {g:Option (Nat×Bool)} {rest:List Oper}
theorem cl{f:FuncId}{a:List Operand}{T:Array TypeId}{vl:List Value}{R:Value->World->Prop}(c:gi P f)(b:CR P f vl.toArray w R)(K:∀ v w', R v w' -> WL r P ops Q rest (Fr n (kI d v s) ds) w')(e:gE ops n s g=true:=by exact rfl)(hvs:a.map (ev n s)=vl:=by exact rfl) :
 WL r P ops Q (⟨d,.call ⟨.value (.func f),a.toArray,T⟩,ty,pos,af,g⟩ :: rest) (Fr n s ds) w:=jM e hvs c b K
end
end Go.Sx
namespace Go.Sx
open Go
theorem YG(a k:Nat)(m:Nat)(h:k<=m):(a:Int).fdiv (2 ^ (min ((k:Nat):Int).toNat m))=((a / 2 ^ k:Nat):Int):=by
 rw[nt,qC h]
 rw[Int.fdiv_eq_ediv_of_nonneg _ (Int.pow_nonneg d_)]
 simp
section
variable {r:Option Nat} {P:Program} {ops:Array Oper} {Q:Exit->Act->World->Prop} {rest:List Oper} {n d:Nat} {s:List (Nat×Value)} {ds:List Deferred} {w:World} {ty:TypeId} {pos:String} {af:Array Edge} {g:Option (Nat×Bool)}
theorem ZT{x y:Operand}{t:TypeId}{k:IntKind}{b:ByteArray}{i:Int}(m:Nat)(e:gE ops n s g=true)(h:ev n s x = .string b)(j:ev n s y = .int k i)(f:P.underlying t=some .string)(hm:b.size=m)(a:0<=i)(hi:i<m)
 (K:∀ c:UInt8,c.toNat<256->WL r P ops Q rest (Fr n ((d,.int .u8 c.toNat) :: s) ds) w):WL r P ops Q (⟨some d,.index t x y,ty,pos,af,g⟩ :: rest) (Fr n s ds) w :=
 ZS e h j f a (getElem?_pos b i.toNat (by show i.toNat<b.size;omega)) (K _ (UInt8.toNat_lt _))
end
end Go.Sx
namespace Go.Sx
open Go
section
variable {P:Program} {w:World} {v:Value} {xs:List Int} {e:TypeId} {f:FuncId}
theorem ZM{b cap:Nat}{cur:Array Value}(d:w.heap[b]? = some (.cells cur e (0,0)))(f:cur.toList.take xs.length=xs.map (Value.int .i64)):Go.Sort.Holds (Value.int .i64) w b 0 xs.toArray:=by
 intro j g
 have a : j<xs.length:=by simpa using g
 have c:(cur.toList.take xs.length)[j]? = some (Value.int .i64 xs[j]):=by rw[f];simp[a]
 rw[DH a]at c
 refine⟨?_,?_⟩
 . simp only[World.cell?,d]
   have e1:xs.toArray[j]! = xs[j]:=by simp[a]
   rw[e1]
   simpa using c
 . simp[World.frozen?,d]
theorem Wo(s:Own (ir .i64 v e xs) w){i:Nat}(hi:i<xs.length)
 (t:∀ b cap,Go.Sort.Holds (Value.int .i64) w b 0 xs.toArray->xs.length<=cap->cap<=9223372036854775807 ->
  Calls P f #[.slice (some ⟨b,0,none⟩) xs.length cap,.int .i64 (i:Int),.int .i64 ((i+1:Nat):Int)] w fun en w' => en = .returned (.slice (some ⟨b,0,none⟩) (xs.length-(i+1-i)) cap) /\
   ∃ q,w' = Go.Sort.putRow (Value.int .i64) (Go.Sort.ahead w q) b 0 (xs.take i++xs.drop (i+1)++List.replicate (i+1-i) 0).toArray) :
 CR P f #[v,.int .i64 (i:Int),.int .i64 ((i+1:Nat):Int)] w (fun r w' => fZ (ir .i64 v e xs) w w' (ir .i64 r e (xs.eraseIdx i))):=by
 have H:w.ownsRow 0 e 1 v xs.length (xs.map (Value.int .i64)):=s.holds
 rcases H.2 with ⟨_,L⟩|⟨a, cap,cur,rfl,hb,g,o,k,l,m⟩
 . omega
 . have p : cur.toList.take xs.length=xs.map (Value.int .i64):=by rw[sJ]at m;simpa using m
   refine Calls.mono (t a cap (ZM (cap:=cap) g p) o (by simpa[maxLen]using k)) ?_
   rintro en w' ⟨rfl,q,rfl⟩
   refine⟨_,rfl,?_⟩
   have z:xs.eraseIdx i=xs.take i++xs.drop (i+1):=GY xs i
   have E:(xs.eraseIdx i).length=xs.length-(i+1-i):=by rw[List.length_eraseIdx_of_lt hi];omega
   have A:a < w.heap.size:=(p5.1 g).1
   obtain⟨d,hd⟩:∃ d,d=(xs.take i++xs.drop (i+1)++List.replicate (i+1-i) 0).toArray:=⟨_,rfl⟩
   rw[<-hd]
   have y:d.size=xs.length:=by rw[hd];simp;omega
   have F:(Go.Sort.putRow (Value.int .i64) (Go.Sort.ahead w q) a 0 d).heap[a]? = some (.cells (Go.Sort.putCells (Value.int .i64) 0 d cur) e (0,0)):=by
    simp only[Go.Sort.putRow,Go.Sort.mapBlock,Go.Sort.ahead,zP,if_pos,g]
    rfl
   have G:∀ b,b≠a -> (Go.Sort.putRow (Value.int .i64) (Go.Sort.ahead w q) a 0 d).heap[b]? = w.heap[b]? := by
    intro b hb
    simp only[Go.Sort.putRow,Go.Sort.mapBlock,Go.Sort.ahead,zP]
    rw[if_neg (fun e=>hb e.symm)]
   have n:(Go.Sort.putRow (Value.int .i64) (Go.Sort.ahead w q) a 0 d).heap.size=w.heap.size:=by simp[Go.Sort.putRow,Go.Sort.mapBlock,Go.Sort.ahead]
   have I:(Go.Sort.putCells (Value.int .i64) 0 d cur).size=cur.size:=by simp[Go.Sort.putCells]
   have J:(Go.Sort.putCells (Value.int .i64) 0 d cur).toList.take (xs.eraseIdx i).length=(xs.eraseIdx i).map (Value.int .i64):=by
    apply nU
    intro j
    rw[vD,z7]
    split
    . rename_i h
      have B:j<xs.length:=by omega
      have C:j<cur.size:=by
       have:xs.length<=cur.size:=by rw[l];omega
       omega
      have x:d[j]! = (xs.eraseIdx i)[j]:=by
       have u:d=(xs.eraseIdx i++List.replicate (i+1-i) 0).toArray:=by rw[hd,z]
       rw[u]
       have D:j<(xs.eraseIdx i++List.replicate (i+1-i) 0).toArray.size:=by simp only[List.size_toArray,zw];omega
       rw[getElem!_pos _ j D,List.getElem_toArray,List.getElem_append_left h]
      simp only[Go.Sort.putCells,zQ,LX,oO,true_and,lS,Nat.sub_zero]
      rw[uo C]
      simp only[xA]
      rw[if_pos (by rw[y];exact B),x]
      simp[h]
    . rename_i h
      rw[mw o_]
      rfl
   refine⟨?_,⟨rfl,rfl,rfl,Nat.le_of_eq n.symm,fun b hb K=>G b (fun e=>K (by simp[row,Value.ownBlock,e]))⟩,fun b c => .inl (by simpa[row,Value.ownBlock]using c),by simp[row,Value.ownBlock],fun b c => ?_⟩
   . refine⟨s_,.inr ⟨a, cap,_,by rw[E],hb,F,o_,k,by rw[I];exact l,?_⟩⟩
     rw[sJ]
     simpa using J
   . simp[row,Value.ownBlock]at c
     subst c
     rw[n]
     exact A
end
end Go.Sx
namespace Go.Sx
open Go
section
variable {P:Program} {t:TypeId} {w:World}
theorem aef {a b : Field} {xs ys : Array Value} {f g y1 y2 : Value} {c d : Bool} (h : P.underlying t = some (.struct #[a, b])) (hs : P.stoodInHeld t = false) (n1 : a.name ≠ "_") (i : b.name ≠ "_")
 (j:(part a.type xs a.offset).run P w = .ok f w) (k:(part a.type ys a.offset).run P w = .ok y1 w) (p2:(part b.type xs b.offset).run P w = .ok g w) (l:(part b.type ys b.offset).run P w = .ok y2 w)
 (e1:(Op.equalIn 9999 a.type f y1).run P w = .ok c w) (e:(Op.equalIn 9999 b.type g y2).run P w = .ok d w):(Op.equal t (.agg xs) (.agg ys)).run P w = .ok (c&&d) w:=by
 show (Op.equalIn (9999+1) t _ _).run P w=_
 unfold Op.equalIn
 simp[run_underlying h,hs,n1,i,j,k,p2,l,e1,e]
 cases c<;>cases d<;>simp[e]
theorem aed{e:TypeId}{k:IntKind}{by_:Nat}{z:Value}(g:P.underlying t=some (.array 2 e))(f:P.underlying e=some (.int k))(hi:TI P e 1 by_ z)(a0 a1 b0 b1:Int) :
 (Op.equal t (.agg #[.int k a0,.int k a1]) (.agg #[.int k b0,.int k b1])).run P w = .ok (decide (a0=b0/\a1=b1)) w:=by
 have p:∀ (c d:Value),(part e #[c,d] 0).run P w = .ok c w/\(part e #[c,d] 1).run P w = .ok d w:=fun c d=>⟨wV f _ _ _ rfl,wV f _ _ _ rfl⟩
 have q:=fun a b=>KO (P:=P) (w:=w) 9998 f a b
 simp only[Nat.reduceAdd]at q
 show (Op.equalIn 10000 t _ _).run P w=_
 unfold Op.equalIn
 simp only[zy,run_underlying g,zp,hi.size,Std.Legacy.Range.forIn_eq_forIn_range', Std.Legacy.Range.size]
 simp only[show List.range' 0 ((2-0+1-1) / 1) 1=[0,1] from rfl,List.forIn_cons,List.forIn_nil,zy,sJ,(p _ _).1,(p _ _).2,zp,q]
 by_cases h0:a0=b0
 . by_cases h1:a1=b1
   . simp[h0,h1,p,q,Result.andThen]
   . simp[h0,h1,p,q,Result.andThen]
 . simp[h0,p,q,Result.andThen]
theorem SD(a:P.underlying t=some .bool)(xs:Array Value)(i:Nat)(v:Value)(h:xs[i]? = some v):(part t xs i).run P w = .ok v w:=by
 simp[part,wU a,j9,h]
end
section
variable {r:Option Nat} {P:Program} {ops:Array Oper} {Q:Exit->Act->World->Prop} {rest:List Oper} {n:Nat} {s:List (Nat×Value)} {ds:List Deferred} {w:World}
variable {d:Nat} {dd:Option Nat} {ty t t' : TypeId} {pos:String} {af:Array Edge} {g:Option (Nat×Bool)} {x y:Operand} {xs ys:Array Value} {c:Bool}
theorem abZ(d:ev n s x = .agg xs)(e:ev n s y = .agg ys)(b:P.eqGuardType P.depth t=false)(a:∀ w,(Op.equal t (.agg xs) (.agg ys)).run P w = .ok c w) :
 (execOp (ev n s) ⟨dd,.binOp .neq t x y t', ty,pos,af,g⟩).run P w = .ok (.value (.bool (!c))) w:=by
 simp only[execOp,d,e,zy,run_eqGuard_agg .neq b,zp]
 simp only[binOp,zy,a,zp,jS]
theorem Rc(b:gE ops n s g=true)(f:ev n s x = .agg xs)(h:ev n s y = .agg ys)(e:P.eqGuardType P.depth t=false)(a:∀ w,(Op.equal t (.agg xs) (.agg ys)).run P w = .ok c w)
 (K:WL r P ops Q rest (Fr n ((d,.bool (!c)) :: s) ds) w):WL r P ops Q (⟨some d,.binOp .neq t x y t', ty,pos,af,g⟩ :: rest) (Fr n s ds) w:=pw b (fun _=>abZ f h e a) K
theorem Yq(b:gE ops n s g=true)(f:ev n s x = .agg xs)(h:ev n s y = .agg ys)(e:P.eqGuardType P.depth t=false)(a:∀ w,(Op.equal t (.agg xs) (.agg ys)).run P w = .ok c w)
 (K:WL r P ops Q rest (Fr n ((d,.bool c) :: s) ds) w):WL r P ops Q (⟨some d,.binOp .eql t x y t', ty,pos,af,g⟩ :: rest) (Fr n s ds) w:=by
 refine pw b (fun _=>?_) K
 simp only[execOp,f,h,zy,run_eqGuard_agg .eql e,zp]
 simp only[binOp,zy,a,zp,jS]
end
end Go.Sx
namespace Go.Sx
open Go
abbrev lE(k:IntKind)(e:Int×Value×Nat):MapEntry:=⟨.int k e.1,e.2.1,e.2.2⟩
section
variable {P:Program} {k k' : IntKind} {x:Int} {es:List (Int×Value×Nat)}
theorem wR{kt:TypeId}(hk:P.underlying kt=some (.int k'))(a:Bool)(n:Nat)(v:Value)(w:World):(Instr.checkKey a (n+1) kt v).run P w = .ok () w:=by simp[Instr.checkKey,run_underlying hk]
theorem wS{kt:TypeId}{w:World}(hk:P.underlying kt=some (.int k')){l:List MapEntry}{v:Value}{q:Option (Nat×Value)}(h:Instr.findNow (.int k') v l 0=some q):(Instr.findKey kt v l).run P w = .ok q w:=by simp[Instr.findKey,run_underlying hk,h]
theorem aaq(x:Int)(w:World):(Instr.keyThatStays (.int k x) (.int k x)).run P w = .ok (.int k x) w:=by simp[Instr.keyThatStays,Instr.sameBits]
theorem Vw{b:Nat}(w:World)(o:Obj):gA [b] w { w with heap:=w.heap.setIfInBounds b o } :=
 ⟨rfl,rfl,rfl,s_,fun c d a=>by
  have:b≠c:=fun e=>a (by simp[e])
  simp[LQ,this]⟩
theorem Cg{b:Nat}(w:World)(o:Obj):gA [b] w (w.putObj b o) :=
 ⟨rfl,rfl,rfl,by simp[World.putObj],fun c d a=>by
  have:b≠c:=fun e=>a (by simp[e])
  simp[World.putObj,LQ,this]⟩
theorem F6{b:Nat}{w:World}{o:Obj}{d:Array MapEntry}{a:Nat}(h:w.heap[b]? = some (.map d a)):(setObj b o).run P w = .ok () (w.putObj b o)/\(w.putObj b o).heap[b]? = some o:=by
 have c:=(p5.1 h).1
 exact⟨by simp only[setObj,Sem.run,h,World.putObj],World.putObj_heap_same c⟩
end
section
variable {r:Option Nat} {P:Program} {ops:Array Oper} {Q:Exit->Act->World->Prop} {rest l:List Oper} {n:Nat} {s s0:List (Nat×Value)} {ds:List Deferred} {w w0:World} {Nx:Value->World->Prop}
variable {d:Nat} {dd:Option Nat} {ty:TypeId} {pos:String} {af:Array Edge} {g:Option (Nat×Bool)} {x y m:Operand} {bs:List (World×List Nat)} {L L' : List fS} {t e kt:TypeId} {b:Nat} {k k' : IntKind} {ys:List Int} {a:Int}
theorem St.Fs{i:Nat}{R R' : fS}{o:Obj}(h:St bs L w)(hi:L[i]? = some R)(e:R.gJ=[b])(d : R'.gJ=[b])(g:∀ w' : World,w'.heap[b]? = some o->R'.holds w')(f:b<w.heap.size):St bs (L.set i R') (w.putObj b o):=by
 refine h.iN hi (by rw[e];exact Cg w o) (fun c a=>.inl (by rw[e];rwa [d]at a)) (by rw[d];simp) (fun c a=>?_) (g _ (World.putObj_heap_same f))
 rw[d]at a
 simp only[lR]at a
 subst a
 simpa[World.putObj]using f
end
end Go.Sx
namespace Go.Sx
open Go
section
variable {γ:Type}
def gV:List (Int×γ)->Int->Option γ
 | [],_=>none
 | (b,y) :: m,a=>if b=a then some y else gV m a
def gx:List (Int×γ)->Int->γ->List (Int×γ)
 | [],a,x=>[(a,x)]
 | (b,y) :: m,a,x=>if b=a then(a,x) :: m else(b,y) :: gx m a x
def iJ:List (Int×γ)->Int->List (Int×γ)
 | [],_=>[]
 | (b,y) :: m,a=>if b=a then m else(b,y) :: iJ m a
def fT[Inhabited γ](m:List (Int×γ))(a:Int):γ:=(gV m a).getD default
def gY(b:Nat)(k:IntKind)(enc:γ->Value)(m:List (Int×γ)):fS where
 gJ:=[b]
 holds w:=∃ (es:List (Int×Value×Nat)) (a:Nat),w.heap[b]? = some (.map (es.map (lE k)).toArray a)/\es.map (fun e=>(e.1,e.2.1))=m.map (fun p=>(p.1,enc p.2))/\(es.map (fun e=>e.2.2)).Nodup/\∀ e∈es,e.2.2<a
 loc w w' h hh:=by
  obtain⟨es,a,c,d⟩:=hh
  exact⟨es,a,(h b s_).trans c,d⟩
theorem wG(m:List (Int×γ))(a c:Int)(x:γ):gV (gx m a x) c=if a=c then some x else gV m c:=by
 induction m with
 | nil=>simp[gx,gV]
 | cons p m d =>
  obtain⟨b,y⟩:=p
  simp only[gx]
  by_cases h:b=a
  . subst h
    rw[if_pos rfl]
    simp only[gV]
    split<;>rfl
  . rw[if_neg h]
    simp only[gV,d]
    by_cases h1:b=c
    . rw[if_pos h1,if_neg (fun e=>h (h1.trans e.symm)),if_pos h1]
    . rw[if_neg h1,if_neg h1]
theorem FA{m:List (Int×γ)}(d:(m.map Prod.fst).Nodup)(a c:Int):gV (iJ m a) c=if a=c then none else gV m c:=by
 induction m with
 | nil=>simp[iJ,gV]
 | cons p m g =>
  obtain⟨b,y⟩:=p
  simp only[kr,zx]at d
  simp only[iJ]
  by_cases h:b=a
  . subst h
    rw[if_pos rfl]
    by_cases h1:b=c
    . subst h1
      rw[if_pos rfl]
      have:∀ (l:List (Int×γ)),b∉l.map Prod.fst->gV l b=none:=by
       intro l
       induction l with
       | nil=>intro _;rfl
       | cons q l i =>
        intro f
        simp only[kr,zg,not_or]at f
        simp only[gV]
        rw[if_neg (fun e=>f.1 e.symm)]
        exact i f.2
      exact this m d.1
    . rw[if_neg h1]
      simp only[gV]
      rw[if_neg h1]
  . rw[if_neg h]
    simp only[gV,g d.2]
    by_cases h1:b=c
    . rw[if_pos h1,if_neg (fun e=>h (h1.trans e.symm)),if_pos h1]
    . rw[if_neg h1,if_neg h1]
theorem J2{m:List (Int×γ)}{a:Int}{x:γ}(h:gV m a=some x):(a,x)∈m:=by
 induction m with
 | nil=>simp[gV]at h
 | cons p m c =>
  obtain⟨b,y⟩:=p
  simp only[gV]at h
  split at h
  . rename_i e
    cases h
    subst e
    simp
  . exact mT _ (c h)
theorem FB{m:List (Int×γ)}{a:Int}:gV m a=none↔a∉m.map Prod.fst:=by
 induction m with
 | nil=>simp[gV]
 | cons p m c =>
  obtain⟨b,y⟩:=p
  simp only[gV,kr,zg,not_or]
  split
  . rename_i e
    simp[e]
  . rename_i e
    rw[c]
    exact⟨fun h=>⟨fun e' => e e'.symm,h⟩,fun h=>h.2⟩
theorem J3{m:List (Int×γ)}(c:(m.map Prod.fst).Nodup){a:Int}{x:γ}(h:(a,x)∈m):gV m a=some x:=by
 induction m with
 | nil=>simp at h
 | cons p m d =>
  obtain⟨b,y⟩:=p
  simp only[kr,zx]at c
  simp only[gV]
  rcases zg.1 h with e|h
  . cases e
    simp
  . rw[if_neg (fun e=>c.1 (by rw[e];exact zz.2 ⟨_,h,rfl⟩))]
    exact d c.2 h
theorem aar(m:List (Int×γ))(a:Int)(x:γ):(gx m a x).map Prod.fst=if a∈m.map Prod.fst then m.map Prod.fst else m.map Prod.fst++[a]:=by
 induction m with
 | nil=>simp[gx]
 | cons p m d =>
  obtain⟨b,y⟩:=p
  simp only[gx]
  by_cases h:b=a
  . subst h
    simp
  . rw[if_neg h]
    simp only[kr,d,zg]
    by_cases h1:a∈m.map Prod.fst
    . rw[if_pos h1,if_pos (.inr h1)]
    . rw[if_neg h1,if_neg (fun c=>c.elim (fun e=>h e.symm) h1)]
      rfl
theorem wL{m:List (Int×γ)}(b:(m.map Prod.fst).Nodup)(a:Int)(x:γ):((gx m a x).map Prod.fst).Nodup:=by
 rw[aar]
 split
 . exact b
 . rename_i h
   rw[zu]
   exact⟨b,s_,fun c f d hd e=>by simp at hd;subst hd;subst e;exact h f⟩
theorem CP(m:List (Int×γ))(a:Int):(iJ m a).Sublist m:=by
 induction m with
 | nil=>exact List.Sublist.slnil
 | cons p m c =>
  obtain⟨b,y⟩:=p
  simp only[iJ]
  split
  . exact LW _ _
  . exact List.Sublist.cons_cons _ c
theorem Ke{m:List (Int×γ)}(b:(m.map Prod.fst).Nodup)(a:Int):((iJ m a).map Prod.fst).Nodup:=b.sublist ((CP m a).map _)
end
section
variable {γ:Type} {enc:γ->Value} {P:Program} {k k' : IntKind} {a:Int}
theorem E5(k k' : IntKind)(a:Int):∀ (es:List (Int×Value×Nat)) (m:List (Int×γ)) (i:Nat),es.map (fun e=>(e.1,e.2.1))=m.map (fun p=>(p.1,enc p.2)) ->
 (gV m a=none/\Instr.findNow (.int k') (.int k a) (es.map (lE k)) i=some none/\(∀ y,gx m a y=m++[(a,y)])/\iJ m a=m) \/
 (∃ j x e,gV m a=some x/\es[j]? = some e/\e.1=a/\Instr.findNow (.int k') (.int k a) (es.map (lE k)) i=some (some (i+j,enc x)) /\
  (∀ y,(es.set j (a,enc y,e.2.2)).map (fun e=>(e.1,e.2.1))=(gx m a y).map (fun p=>(p.1,enc p.2)))/\(es.eraseIdx j).map (fun e=>(e.1,e.2.1))=(iJ m a).map (fun p=>(p.1,enc p.2))):=by
 intro es
 induction es with
 | nil =>
  intro m i h
  cases m with
  | cons p m=>simp at h
  | nil=>exact .inl ⟨rfl,rfl,fun _=>rfl,rfl⟩
 | cons e es u =>
  intro m i h
  cases m with
  | nil=>simp at h
  | cons p m =>
   obtain⟨b,y⟩:=p
   simp only[kr,List.cons.injEq]at h
   obtain⟨o,l⟩:=h
   have c:e.1=b:=congrArg Prod.fst o
   have n:e.2.1=enc y:=congrArg Prod.snd o
   by_cases hb:b=a
   . refine .inr ⟨0,y,e,by simp[gV,hb],rfl,c.trans hb,?_,fun r => ?_,?_⟩
     . have:(a==e.1)=true:=by rw[c,hb];simp
       simp only[kr,Instr.findNow,Instr.sameNow,if_true,this,n,qD]
     . simp[gx,hb,l]
     . simp[iJ,hb,l]
   . have q:(a==e.1)=false:=by
      rw[c]
      simp only[beq_eq_false_iff_ne,ne_eq]
      exact fun e' => hb e'.symm
     rcases u m (i+1) l with ⟨d,g2,f,g⟩|⟨j,x,e', d,g2,f,g,s,t⟩
     . refine .inl ⟨by simp[gV,hb,d],?_,fun r => by simp[gx,hb,f],by simp[iJ,hb,g]⟩
       simp only[kr,Instr.findNow,Instr.sameNow,if_true,q]
       exact g2
     . refine .inr ⟨j+1,x,e', by simp[gV,hb,d],by simpa using g2,f,?_,fun r => ?_,?_⟩
       . simp only[kr,Instr.findNow,Instr.sameNow,if_true,q]
         rw[g,lg,Nat.add_comm 1 j]
       . simp only[List.set_cons_succ,kr,s,gx,if_neg hb,c,n]
       . simp only[List.eraseIdx_cons_succ,kr,t,iJ,if_neg hb,c,n]
theorem abM{es:List (Int×Value×Nat)}{j:Nat}{e:Int×Value×Nat}{v:Value}(h:es[j]? = some e)(c:e.1=a) :
 ((es.map (lE k)).toArray.modify j fun q=>{ q with key:=.int k a,val:=v })=((es.set j (a,v,e.2.2)).map (lE k)).toArray:=by
 apply Array.ext'
 apply nU
 intro q
 simp only[Array.toList_modify,List.getElem?_modify,z7,vE]
 by_cases hq:j=q
 . subst hq
   obtain⟨b,rfl⟩:=zk.1 h
   simp[b]
 . simp[hq]
theorem E0{α β:Type}(f:α->β):∀ (l:List α) (j:Nat),(l.map f).eraseIdx j=(l.eraseIdx j).map f
 | [],_=>rfl
 | _ :: _,0=>rfl
 | a :: l,j+1=>by simp[E0 f l j]
theorem Yz{es:List (Int×Value×Nat)}{j:Nat}:((es.map (lE k)).toArray.eraseIdxIfInBounds j)=((es.eraseIdx j).map (lE k)).toArray:=by
 by_cases h:j<es.length
 . rw[Array.eraseIdxIfInBounds,dif_pos (by simpa using h)]
   simp[E0]
 . rw[Array.eraseIdxIfInBounds,dif_neg (by simpa using h),List.eraseIdx_of_length_le o_]
end
section
variable {γ:Type} {enc:γ->Value}
variable {r:Option Nat} {P:Program} {ops:Array Oper} {Q:Exit->Act->World->Prop} {rest l:List Oper} {n:Nat} {s s0:List (Nat×Value)} {ds:List Deferred} {w w0:World} {Nx:Value->World->Prop}
variable {d:Nat} {dd:Option Nat} {ty:TypeId} {pos:String} {af:Array Edge} {g:Option (Nat×Bool)} {x y m:Operand} {bs:List (World×List Nat)} {L L' : List fS} {t e kt:TypeId} {b sz by_:Nat} {k k' : IntKind} {mm:List (Int×γ)} {a:Int} {z v:Value} {c:γ}
theorem JT{i:Nat}(c:St bs L w)(a:L[i]? = some (gY b k enc mm)):b<w.heap.size:=c.lt b (rY a (by simp[gY]))
theorem wT{es:List (Int×Value×Nat)}{a:Nat}(h:w.heap[b]? = some (.map (es.map (lE k)).toArray a)):(getObj b).run P w = .ok (.map (es.map (lE k)).toArray a) w:=by
 simp[getObj,Sem.run,h]
theorem mkV{a : Option Operand}(enc:γ->Value)(k:IntKind)(c:gE ops n s g=true)(e:a = none)(f:St bs L w)
 (K:∀ b w', w.heap.size<=b->gA [] w w' -> St bs (gY b k enc [] :: L) w' -> WL r P ops Q rest (Fr n ((d,.map (some b)) :: s) ds) w') :
 WL r P ops Q (⟨some d,.makeMap t a, ty,pos,af,g⟩ :: rest) (Fr n s ds) w:=by
 subst e
 refine pv (v:=.map (some w.heap.size)) (w' := w.alloc (.map #[] 0)) c rfl ?_ (K _ _ (zo _) (gA.alloc [] w _) ?_)
 . simp only[execOp,Option.map_none,Instr.makeMap]
   rfl
 . exact f.sQ (gA.alloc [] w _) (fun b hb=>by simp[gY]at hb;omega) (by simp[gY]) (fun b hb=>by simp[gY]at hb;simp;omega) ⟨[],0,heap_alloc_new w _,rfl,s_,s_⟩
section
variable [Inhabited γ]
theorem aaY(i:Nat)(hm:ev n s m = .map (some b))(l:ev n s x = .int k a)(h:P.underlying t=some (.map kt e))(hk:P.underlying kt=some (.int k'))(r:TI P e sz by_ z)(v:enc default=z)(u:St bs L w)(q:L[i]? = some (gY b k enc mm)) :
 (execOp (ev n s) ⟨dd,.lookup t m x true,ty,pos,af,g⟩).run P w = .ok (.value (.tuple #[enc (fT mm a),.bool (gV mm a).isSome])) w:=by
 obtain⟨es,y,f,p,A,B⟩:(gY b k enc mm).holds w:=u.own _ (zd q)
 rcases E5 k k' a es mm 0 p with ⟨c,g2,_⟩|⟨j,C, e', c,_,_,o,_⟩
 . have d:=wS (P:=P) (w:=w) hk g2
   simp only[execOp,hm,l,Instr.lookup,zy,run_underlying h,zp,jS,wT f,wR hk,d,r.zU]
   simp[fT,c,v]
 . have d:=wS (P:=P) (w:=w) hk o
   simp only[execOp,hm,l,Instr.lookup,zy,run_underlying h,zp,jS,wT f,wR hk,d]
   simp[fT,c]
theorem yF(i:Nat)(hm:ev n s m = .map (some b))(l:ev n s x = .int k a)(h:P.underlying t=some (.map kt e))(hk:P.underlying kt=some (.int k'))(r:TI P e sz by_ z)(v:enc default=z)(u:St bs L w)(q:L[i]? = some (gY b k enc mm)) :
 (execOp (ev n s) ⟨dd,.lookup t m x false,ty,pos,af,g⟩).run P w = .ok (.value (enc (fT mm a))) w:=by
 obtain⟨es,y,f,p,A,B⟩:(gY b k enc mm).holds w:=u.own _ (zd q)
 rcases E5 k k' a es mm 0 p with ⟨c,g2,_⟩|⟨j,C, e', c,_,_,o,_⟩
 . have d:=wS (P:=P) (w:=w) hk g2
   simp only[execOp,hm,l,Instr.lookup,zy,run_underlying h,zp,jS,wT f,wR hk,d,r.zU]
   simp[fT,c,v]
 . have d:=wS (P:=P) (w:=w) hk o
   simp only[execOp,hm,l,Instr.lookup,zy,run_underlying h,zp,jS,wT f,wR hk,d]
   simp[fT,c]
theorem aaX(i:Nat)(h:gE ops n s g=true)(hm:ev n s m = .map (some b))(o:ev n s x = .int k a)(l:P.underlying t=some (.map kt e))(hk:P.underlying kt=some (.int k'))(f:TI P e sz by_ z)(p:enc default=z)(j:St bs L w)(c:L[i]? = some (gY b k enc mm))
 (K:WL r P ops Q rest (Fr n ((d,.tuple #[enc (fT mm a),.bool (gV mm a).isSome]) :: s) ds) w):WL r P ops Q (⟨some d,.lookup t m x true,ty,pos,af,g⟩ :: rest) (Fr n s ds) w:=pv h rfl (aaY i hm o l hk f p j c) K
theorem qT(i:Nat)(h:gE ops n s g=true)(hm:ev n s m = .map (some b))(o:ev n s x = .int k a)(l:P.underlying t=some (.map kt e))(hk:P.underlying kt=some (.int k'))(f:TI P e sz by_ z)(p:enc default=z)(j:St bs L w)(c:L[i]? = some (gY b k enc mm))
 (K:WL r P ops Q rest (Fr n ((d,enc (fT mm a)) :: s) ds) w):WL r P ops Q (⟨some d,.lookup t m x false,ty,pos,af,g⟩ :: rest) (Fr n s ds) w:=pv h rfl (yF i hm o l hk f p j c) K
end
theorem abQ(i:Nat)(hm:ev n s m = .map (some b))(F:ev n s x = .int k a)(G:ev n s y=enc c)(E:P.underlying t=some (.map kt e))(hk:P.underlying kt=some (.int k'))(u:St bs L w)(r:L[i]? = some (gY b k enc mm))(K : L.set i (gY b k enc (gx mm a c))=L') :
 ∃ w', (execOp (ev n s) ⟨dd,.mapUpdate t m x y,ty,pos,af,g⟩).run P w = .ok .skip w' /\ St bs L' w' /\ gA [b] w w' := by
 subst K
 obtain⟨es,d,l,A,B,o⟩:(gY b k enc mm).holds w:=u.own _ (zd r)
 have C:=JT u r
 rcases E5 k k' a es mm 0 A with ⟨H,g2,f,_⟩|⟨j,S, e', H,g2,f,I,J,_⟩
 . have z:=wS (P:=P) (w:=w) hk g2
   have hp:((es.map (lE k)).toArray.push ⟨.int k a,enc c,d⟩)=((es++[(a,enc c,d)]).map (lE k)).toArray:=by simp
   refine⟨w.putObj b (.map ((es++[(a,enc c,d)]).map (lE k)).toArray (d+1)),?_,u.Fs r rfl rfl (fun w' h=>⟨_,_,h,by rw[f];simp[A],?_,?_⟩) C,Cg w _⟩
   . simp only[execOp,hm,F,G,Instr.mapUpdate,zy,run_underlying E,zp,jS,wT l,wR hk,z,hp,(F6 l).1]
   . rw[tq,zu]
     refine⟨B,s_,fun q O R D v => ?_⟩
     simp at D
     subst D v
     obtain⟨p,hp,Q⟩:=zz.1 O
     have:=o p hp
     omega
   . intro p hp
     rcases zr.1 hp with hp|hp
     . have:=o p hp;omega
     . simp at hp;subst hp;simp
 . have z:=wS (P:=P) (w:=w) hk I
   have M:((es.map (lE k)).toArray[j]?).map (·.key)=some (.int k a):=by simp[g2,f]
   refine⟨w.putObj b (.map ((es.set j (a,enc c,e'.2.2)).map (lE k)).toArray d),?_,u.Fs r rfl rfl (fun w' h=>⟨_,_,h,J c,?_,?_⟩) C,Cg w _⟩
   . simp only[execOp,hm,F,G,Instr.mapUpdate,zy,run_underlying E,zp,jS,wT l,wR hk,z,lS,M,zS,aaq]
     rw[abM g2 f]
     simp only[(F6 l).1,jS,zp]
   . have:(es.set j (a,enc c,e'.2.2)).map (fun e=>e.2.2)=es.map (fun e=>e.2.2):=by
      rw[List.map_set]
      have N:=(zk.1 g2).1
      apply nU
      intro q
      rw[vE]
      split
      . rename_i v
        subst v
        rw[if_pos (by simpa using N),z7,g2]
        rfl
      . rfl
     rw[this]
     exact B
   . intro p hp
     rcases List.mem_or_eq_of_mem_set hp with hp|hp
     . exact o p hp
     . subst hp
       exact o e' (zd g2)
theorem qX(i:Nat)(l:gE ops n s g=true)(hm:ev n s m = .map (some b))(q:ev n s x = .int k a)(u:ev n s y=enc c)(p:P.underlying t=some (.map kt e))(hk:P.underlying kt=some (.int k'))(o:St bs L w)(h:L[i]? = some (gY b k enc mm))(j : L.set i (gY b k enc (gx mm a c))=L')
 (K:∀ w', St bs L' w' -> WL r P ops Q rest (Fr n s ds) w'):WL r P ops Q (⟨none,.mapUpdate t m x y,ty,pos,af,g⟩ :: rest) (Fr n s ds) w:=by
 obtain⟨w', d,f,_⟩:=abQ (dd:=none) (ty:=ty) (pos:=pos) (af:=af) (g:=g) i hm q u p hk o h j
 exact Dw l rfl d (K w' f)
theorem Wr{t' : TypeId}(i:Nat)(hm:ev n s m = .map (some b))(A:ev n s x = .int k a)(z:P.underlying t=some (.map kt e))(hk:P.underlying kt=some (.int k'))(f:St bs L w)(d:L[i]? = some (gY b k enc mm))(E : L.set i (gY b k enc (iJ mm a))=L') :
 ∃ w', (execOp (ev n s) ⟨dd,.call ⟨.builtin .delete,#[m,x],#[t,t']⟩,ty,pos,af,g⟩).run P w = .ok (.value (.tuple #[])) w' /\ St bs L' w' /\ gA [b] w w' := by
 subst E
 obtain⟨es,o,c,r,u,v⟩:(gY b k enc mm).holds w:=f.own _ (zd d)
 have y:=JT f d
 rcases E5 k k' a es mm 0 r with ⟨B,g2,_,q⟩|⟨j,F, e', B,g2,q,C,_,D⟩
 . have l:=wS (P:=P) (w:=w) hk g2
   refine⟨w.putObj b (.map (es.map (lE k)).toArray o),?_,f.Fs d rfl rfl (fun w' h=>⟨_,_,h,by rw[q];exact r,u,v⟩) y,Cg w _⟩
   simp only[execOp,resolve,invoke,builtin,zy,jS,zp,List.map_toArray,kr,zdt,hm,A]
   simp only[Builtin.delete_]
   simp only[Bu,List.getElem?_cons_zero,List.getElem?_cons_succ,zy,run_underlying z,zp,wT c,wR hk,l,(F6 c).1,jS]
 . have l:=wS (P:=P) (w:=w) hk C
   refine⟨w.putObj b (.map ((es.eraseIdx j).map (lE k)).toArray o),?_,f.Fs d rfl rfl (fun w' h=>⟨_,_,h,D,u.sublist ((List.eraseIdx_sublist _ _).map _),fun p hp=>v p ((List.eraseIdx_sublist _ _).subset hp)⟩) y,Cg w _⟩
   simp only[execOp,resolve,invoke,builtin,zy,jS,zp,List.map_toArray,kr,zdt,hm,A]
   simp only[Builtin.delete_]
   simp only[Bu,List.getElem?_cons_zero,List.getElem?_cons_succ,zy,run_underlying z,zp,wT c,wR hk,l,lS]
   rw[Yz]
   simp only[(F6 c).1,jS,zp]
theorem Cj{t' : TypeId}(i:Nat)(j:gE ops n s g=true)(hm:ev n s m = .map (some b))(p:ev n s x = .int k a)(o:P.underlying t=some (.map kt e))(hk:P.underlying kt=some (.int k'))(l:St bs L w)(f:L[i]? = some (gY b k enc mm))(h : L.set i (gY b k enc (iJ mm a))=L')
 (K:∀ w', St bs L' w' -> WL r P ops Q rest (Fr n (kI dd (.tuple #[]) s) ds) w'):WL r P ops Q (⟨dd,.call ⟨.builtin .delete,#[m,x],#[t,t']⟩,ty,pos,af,g⟩ :: rest) (Fr n s ds) w:=by
 obtain⟨w', c,d,_⟩:=Wr (dd:=dd) (ty:=ty) (pos:=pos) (af:=af) (g:=g) (t' := t') i hm p o hk l f h
 exact Ud j rfl c (by rw[zX];exact K w' d)
end
end Go.Sx
namespace Go.Sx
open Go
section
variable {P:Program} {w:World} {f:FuncId} {γ:Type} {b:Nat} {k:IntKind} {enc:γ->Value} {m:List (Int×γ)}
theorem VJ(h:Own (gY b k enc m) w)(l:∀ es g,w.heap[b]? = some (.map es g)->Calls P f #[.map (some b)] w fun e w' => e = .returned (.map (some w.heap.size))/\w' = w.alloc (.map es g)) :
 CR P f #[.map (some b)] w (fun r w' => ∃ b2,r = .map (some b2)/\fZ (gY b k enc m) w w' (gq [gY b k enc m,gY b2 k enc m])):=by
 obtain⟨es,d,i,j⟩:=h.holds
 have n:=St.Jl h
 refine Calls.mono (l _ _ i) ?_
 rintro e w' ⟨rfl,rfl⟩
 refine⟨_,rfl,w.heap.size,rfl,?_⟩
 have o:St [(w,(gY b k enc m).gJ)] (gY w.heap.size k enc m :: [gY b k enc m]) (w.alloc (.map (es.map (lE k)).toArray d)) :=
  n.sQ (gA.alloc [] w _) (fun c a=>by simp[gY]at a;omega) (by simp[gY]) (fun c a=>by simp[gY]at a;simp;omega) ⟨es,d,heap_alloc_new w _,j⟩
 exact St.WB (o.perm (List.Perm.swap _ _ _)) ze
end
end Go.Sx
namespace Go.Sx
open Go
section
variable {r:Option Nat} {P:Program} {ops:Array Oper} {Q:Exit->Act->World->Prop} {rest:List Oper} {n:Nat} {s:List (Nat×Value)} {ds:List Deferred} {w:World}
variable {d:Nat} {dd:Option Nat} {ty t t' e kt:TypeId} {pos:String} {af:Array Edge} {g:Option (Nat×Bool)} {x y:Operand} {a:Option Nat} {c:Bool}
theorem aeg(k:Nat)(b:P.underlying t=some (.map kt e)):(Op.equalIn (k+1) t (.map a) (.map none)).run P w = .ok a.isNone w:=by
 cases a<;>simp[Op.equalIn,run_underlying b]
theorem ab4(f:ev n s x = .map a)(h:ev n s y = .map none)(d:P.underlying t=some (.map kt e))(b:(!a.isNone)=c) :
 (execOp (ev n s) ⟨dd,.binOp .neq t x y t', ty,pos,af,g⟩).run P w = .ok (.value (.bool c)) w:=by
 subst b
 simp[execOp,f,h,eqGuard,binOp,Op.equal,Op.maxDepth,aeg 9999 d]
theorem Re(f:gE ops n s g=true)(i:ev n s x = .map a)(j:ev n s y = .map none)(h:P.underlying t=some (.map kt e))(b:(!a.isNone)=c)
 (K:WL r P ops Q rest (Fr n ((d,.bool c) :: s) ds) w):WL r P ops Q (⟨some d,.binOp .neq t x y t', ty,pos,af,g⟩ :: rest) (Fr n s ds) w:=pw f (fun _=>ab4 i j h b) K
end
end Go.Sx
namespace Go.Sx
open Go
section
variable {r:Option Nat} {P:Program} {ops:Array Oper} {Q:Exit->Act->World->Prop} {rest:List Oper} {n:Nat} {s:List (Nat×Value)} {ds:List Deferred} {w:World}
variable {d:Nat} {dd:Option Nat} {ty t t' e:TypeId} {pos:String} {af:Array Edge} {g:Option (Nat×Bool)} {x y:Operand} {a:Addr} {sz by_:Nat} {z:Value}
theorem aeh(k:Nat)(b:P.underlying t=some (.pointer e))(hi:TI P e (sz+1) by_ z):(Op.equalIn (k+1) t (.pointer (some a)) (.pointer (some a))).run P w = .ok true w:=by
 simp[Op.equalIn,run_underlying b,hi.size,sameAddr]
theorem Yw(c:ev n s x = .pointer (some a))(d:ev n s y = .pointer (some a))(b:P.underlying t=some (.pointer e))(hi:TI P e (sz+1) by_ z) :
 (execOp (ev n s) ⟨dd,.binOp .eql t x y t', ty,pos,af,g⟩).run P w = .ok (.value (.bool true)) w:=by
 simp[execOp,c,d,eqGuard,binOp,Op.equal,Op.maxDepth,aeh 9999 b hi]
theorem Cu(b:gE ops n s g=true)(f:ev n s x = .pointer (some a))(h:ev n s y = .pointer (some a))(c:P.underlying t=some (.pointer e))(hi:TI P e (sz+1) by_ z)
 (K:WL r P ops Q rest (Fr n ((d,.bool true) :: s) ds) w):WL r P ops Q (⟨some d,.binOp .eql t x y t', ty,pos,af,g⟩ :: rest) (Fr n s ds) w:=pw b (fun _=>Yw f h c hi) K
end
end Go.Sx
namespace Go.Sx
open Go
structure gG where
 ix:Nat
 key:Int
 deriving Inhabited
def gG.cells(x:gG):List Value:=[.int .i64 x.ix,.int .i64 x.key]
def iC(a b:gG):Prop:=a.key<b.key\/a.key=b.key/\a.ix<b.ix
instance (a b:gG):Decidable (iC a b):=by unfold iC;infer_instance
theorem CN(a:gG):¬ iC a a:=by unfold iC;omega
theorem JO{a b c:gG}(h:iC a b)(k:iC b c):iC a c:=by unfold iC at *;omega
theorem QH{a b:gG}(h:iC a b):¬ iC b a:=by unfold iC at *;omega
theorem FI{a b c:gG}(h:¬ iC a b)(k:¬ iC b c):¬ iC a c:=by unfold iC at *;omega
def qq(a b:gG):Int:=if a.key<b.key then -1 else if b.key<a.key then 1 else if a.ix<b.ix then -1 else if b.ix<a.ix then 1 else 0
theorem oe{a b:gG}:qq a b<0↔iC a b:=by
 grind [qq,iC]
abbrev pa(p:Nat):Nat:=(p-1) / 2
def Ord(xs:List gG):Prop:=∀ j,0<j->j<xs.length->¬ iC (fJ xs j) (fJ xs (pa j))
structure tA (xs:List gG) (p:Nat):Prop where
 rest:∀ j,0<j->j<xs.length->j≠p->pa j≠p->¬ iC (fJ xs j) (fJ xs (pa j))
 kids:0<p->∀ j,0<j->j<xs.length->pa j=p->¬ iC (fJ xs j) (fJ xs (pa p))
structure uu (xs:List gG) (p:Nat):Prop where
 rest:∀ j,0<j->j<xs.length->pa j≠p->¬ iC (fJ xs j) (fJ xs (pa j))
 kids:0<p->∀ j,0<j->j<xs.length->pa j=p->¬ iC (fJ xs j) (fJ xs (pa p))
def iI(xs:List gG)(p q:Nat):List gG:=fO (fO xs p (fun _=>fJ xs q)) q (fun _=>fJ xs p)
theorem mQ(xs:List gG)(p q:Nat):(iI xs p q).length=xs.length:=by simp[iI,gC]
theorem Bi{xs:List gG}{p q:Nat}(hp:p<xs.length)(a:q<xs.length)(j:Nat):fJ (iI xs p q) j=if q=j then fJ xs p else if p=j then fJ xs q else fJ xs j:=by
 grind [iI,jh,gC]
theorem tA.up{xs:List gG}{p:Nat}(h:tA xs p)(i:0<p)(hp:p<xs.length)(n:iC (fJ xs p) (fJ xs (pa p))):tA (iI xs p (pa p)) (pa p):=by
 have q:pa p<p:=by simp only[pa];omega
 have hs:=Bi hp (show pa p<xs.length by omega)
 refine⟨fun j b a l d=>?_,fun f j b a e=>?_⟩
 . rw[mQ]at a
   rw[hs,hs]
   by_cases e1:p=j
   . subst e1;exact absurd rfl d
   . rw[if_neg (fun e=>l e.symm),if_neg e1,if_neg (fun e=>d e.symm)]
     by_cases e2:p=pa j
     . rw[if_pos e2]
       exact h.kids i j b a e2.symm
     . rw[if_neg e2]
       exact h.rest j b a (fun e=>e1 e.symm) (fun e=>e2 e.symm)
 . rw[mQ]at a
   have o:pa (pa p)<pa p:=by simp only[pa]at f ⊢;omega
   have m:fJ (iI xs p (pa p)) (pa (pa p))=fJ xs (pa (pa p)):=by rw[hs,if_neg o_,if_neg o_]
   have g:¬ iC (fJ xs (pa p)) (fJ xs (pa (pa p))):=h.rest (pa p) f o_ o_ o_
   rw[m,hs]
   have k:pa p≠j:=fun e' => by rw[<-e']at e;simp only[pa]at *;omega
   rw[if_neg k]
   by_cases e1:p=j
   . rw[if_pos e1];exact g
   . rw[if_neg e1]
     have c:=h.rest j b a (fun e=>e1 e.symm) o_
     rw[e]at c
     exact FI c g
theorem tA.stop{xs:List gG}{p:Nat}(h:tA xs p)(d:¬ (0<p/\iC (fJ xs p) (fJ xs (pa p)))):uu xs p:=by
 refine⟨fun j a b f=>?_,h.kids⟩
 by_cases e:j=p
 . subst e
   exact fun c=>d ⟨a,c⟩
 . exact h.rest j a b e f
def jE(xs:List gG)(p:Nat):Nat :=
 let f:=if 2*p+1<xs.length/\iC (fJ xs (2*p+1)) (fJ xs p)then 2*p+1 else p
 if 2*p+2<xs.length/\iC (fJ xs (2*p+2)) (fJ xs f)then 2*p+2 else f
theorem acB{j p:Nat}(a:0<j):pa j=p↔j=2*p+1\/j=2*p+2:=by simp only[pa];omega
theorem Vh{xs:List gG}{p:Nat}(h:jE xs p=p):∀ j,0<j->j<xs.length->pa j=p->¬ iC (fJ xs j) (fJ xs p):=by
 intro j a b e
 unfold jE at h
 grind
theorem NA{xs:List gG}{p:Nat}(h:jE xs p≠p):jE xs p<xs.length/\p<jE xs p/\pa (jE xs p)=p/\iC (fJ xs (jE xs p)) (fJ xs p)/\∀ j,0<j->j<xs.length->pa j=p->¬ iC (fJ xs j) (fJ xs (jE xs p)):=by
 have f:∀ j,0<j->j<xs.length->pa j=p->j=2*p+1\/j=2*p+2:=fun j d _ e=>(acB d).1 e
 have c:jE xs p=(if 2*p+2<xs.length/\iC (fJ xs (2*p+2)) (fJ xs (if 2*p+1<xs.length/\iC (fJ xs (2*p+1)) (fJ xs p)then 2*p+1 else p))then 2*p+2 else(if 2*p+1<xs.length/\iC (fJ xs (2*p+1)) (fJ xs p)then 2*p+1 else p)):=rfl
 rw[c]at h ⊢
 by_cases h1:2*p+1<xs.length/\iC (fJ xs (2*p+1)) (fJ xs p)
 . rw[if_pos h1]at h ⊢
   by_cases h2:2*p+2<xs.length/\iC (fJ xs (2*p+2)) (fJ xs (2*p+1))
   . rw[if_pos h2]at h ⊢
     refine⟨h2.1,o_,by simp only[pa];omega,JO h2.2 h1.2,fun j b a e=>?_⟩
     grind [QH,CN]
   . rw[if_neg h2]at h ⊢
     refine⟨h1.1,o_,by simp only[pa];omega,h1.2,fun j b a e=>?_⟩
     grind [CN]
 . rw[if_neg h1]at h ⊢
   by_cases h2:2*p+2<xs.length/\iC (fJ xs (2*p+2)) (fJ xs p)
   . rw[if_pos h2]at h ⊢
     refine⟨h2.1,o_,by simp only[pa];omega,h2.2,fun j b a e=>?_⟩
     grind [JO,CN]
   . rw[if_neg h2]at h
     exact absurd rfl h
theorem uu.down{xs:List gG}{p c:Nat}(h:uu xs p)(g:jE xs p=c)(k:c≠p):uu (iI xs p c) c:=by
 subst g
 obtain⟨d,o,f,n,i⟩:=NA k
 generalize jE xs p=c at *
 have hs:=Bi (show p<xs.length by omega) d
 refine⟨fun j b a l => ?_,fun _ j b a e=>?_⟩
 . rw[mQ]at a
   rw[hs,hs]
   by_cases e1:c=j
   . grind [QH]
   . rw[if_neg e1,if_neg (show ¬ c=pa j from fun e=>l e.symm)]
     by_cases e2:p=j
     . subst e2
       rw[if_pos rfl,if_neg (by simp only[pa];omega)]
       exact h.kids b c o_ d f
     . rw[if_neg e2]
       by_cases e3:p=pa j
       . rw[if_pos e3]
         exact i j b a e3.symm
       . rw[if_neg e3]
         exact h.rest j b a (fun e=>e3 e.symm)
 . rw[mQ]at a
   have m:c<j:=by simp only[pa]at e;omega
   rw[hs,hs,if_neg o_,if_neg o_,f,if_neg o_,if_pos rfl]
   have:=h.rest j b a o_
   rw[e]at this
   exact this
theorem uu.stop{xs:List gG}{p:Nat}(h:uu xs p)(hb:jE xs p=p):Ord xs:=by
 intro j b a
 by_cases e:pa j=p
 . rw[e];exact Vh hb j b a e
 . exact h.rest j b a e
structure Hp (n:Nat) (xs:List gG) (pl:List Nat):Prop where
 ix:∀ p,p<xs.length->(fJ xs p).ix<n
 key:∀ p,p<xs.length->gZ .i64 (fJ xs p).key
 at_:∀ p,p<xs.length->fJ pl (fJ xs p).ix=p+1
 of:∀ i p,i<n->fJ pl i=p+1->p<xs.length/\(fJ xs p).ix=i
 pl:n<=pl.length
 len:xs.length<=n
theorem Hp.inj{n:Nat}{xs:List gG}{pl:List Nat}(h:Hp n xs pl){p q:Nat}(hp:p<xs.length)(b:q<xs.length)(e:(fJ xs p).ix=(fJ xs q).ix):p=q:=by
 have a:=h.at_ p hp
 have c:=h.at_ q b
 rw[e]at a
 omega
def je(pl:List Nat)(i p:Nat):List Nat:=fO pl i (fun _=>p)
theorem Hp.swap{n:Nat}{xs:List gG}{pl:List Nat}(h:Hp n xs pl){p q:Nat}(hp:p<xs.length)(f:q<xs.length) :
 Hp n (iI xs p q) (je (je pl (fJ (iI xs p q) p).ix (p+1)) (fJ (iI xs p q) q).ix (q+1)):=by
 have hs:=Bi hp f
 have l:fJ (iI xs p q) q=fJ xs p:=by rw[hs,if_pos rfl]
 have k:fJ (iI xs p q) p=fJ xs q:=by
  rw[hs]
  split
  . rename_i e;rw[e]
  . rw[if_pos rfl]
 rw[l,k]
 have m:=h.pl
 have o:=h.ix p hp
 have r:=h.ix q f
 have g:∀ i,fJ (je (je pl (fJ xs q).ix (p+1)) (fJ xs p).ix (q+1)) i=if (fJ xs p).ix=i then q+1 else if (fJ xs q).ix=i then p+1 else fJ pl i:=fun i=>by
  unfold je
  rw[jh (by rw[gC];omega),jh o_]
 refine⟨fun j c=>?_,fun j c=>?_,fun j c=>?_,fun i j hi d=>?_,by simp[je,gC];exact m,by rw[mQ];exact h.len⟩
 . rw[mQ]at c
   rw[hs]
   split
   . exact o
   . split
     . exact r
     . exact h.ix j c
 . rw[mQ]at c
   rw[hs]
   split
   . exact h.key p hp
   . split
     . exact h.key q f
     . exact h.key j c
 . rw[mQ]at c
   rw[g,hs]
   by_cases e1:q=j
   . rw[if_pos e1,if_pos rfl,e1]
   . rw[if_neg e1]
     by_cases e2:p=j
     . rw[if_pos e2]
       subst e2
       by_cases e3:(fJ xs p).ix=(fJ xs q).ix
       . exact absurd (h.inj hp f e3).symm e1
       . rw[if_neg e3,if_pos rfl]
     . rw[if_neg e2,if_neg (fun e=>e2 (h.inj hp c e)),if_neg (fun e=>e1 (h.inj f c e))]
       exact h.at_ j c
 . rw[g]at d
   rw[mQ,hs]
   by_cases e1:(fJ xs p).ix=i
   . rw[if_pos e1]at d
     grind
   . rw[if_neg e1]at d
     by_cases e2:(fJ xs q).ix=i
     . rw[if_pos e2]at d
       grind
     . rw[if_neg e2]at d
       obtain⟨a,b⟩:=h.of i j hi d
       refine⟨a,?_⟩
       grind
theorem Hp.push{n:Nat}{xs:List gG}{pl:List Nat}(h:Hp n xs pl){i:Nat}{k:Int}(hi:i<n)(q:fJ pl i=0)(hk:gZ .i64 k):Hp n (xs++[⟨i,k⟩]) (je pl i (xs.length+1)):=by
 have t:=h.pl
 have o:∀ j,fJ (je pl i (xs.length+1)) j=if i=j then xs.length+1 else fJ pl j:=fun j=>jh o_
 have f:∀ p,fJ (xs++[⟨i,k⟩]) p=if p<xs.length then fJ xs p else if p=xs.length then⟨i,k⟩else default:=fun p=>by
  grind [fJ]
 have s:∀ p,p<xs.length->(fJ xs p).ix≠i:=fun p hp e=>by
  have:=h.at_ p hp
  rw[e,q]at this
  omega
 refine⟨fun p hp=>?_,fun p hp=>?_,fun p hp=>?_,fun j p g hp=>?_,by simp[je,gC];exact t,?_⟩
 . rw[f]
   split
   . rename_i c;exact h.ix p c
   . grind
 . rw[f]
   split
   . rename_i c;exact h.key p c
   . grind
 . rw[o,f]
   by_cases c:p<xs.length
   . rw[if_pos c,if_neg (fun e=>s p c e.symm)]
     exact h.at_ p c
   . grind
 . rw[o]at hp
   rw[f]
   split at hp
   . grind
   . obtain⟨a,b⟩:=h.of j p g hp
     grind
 . -- places of different indexes: no more entries than indexes
   have r:((xs++[(⟨i,k⟩:gG)]).map gG.ix).Nodup:=by
    rw[tq,zu]
    refine⟨?_,s_,fun a m b hb e=>?_⟩
    . refine uq.2 fun a b m hb y w=>?_
      simp only[zq]at m hb
      refine absurd (h.inj m hb ?_) o_
      grind [fJ]
    . simp at hb
      subst hb e
      obtain⟨x,d,z⟩:=zz.1 m
      obtain⟨p,hp,rfl⟩:=G2.1 d
      grind [fJ]
   have:=nodup_len n _ r fun j g=>by
    obtain⟨x,d,rfl⟩:=zz.1 g
    rcases zr.1 d with d|d
    . obtain⟨p,hp,rfl⟩:=G2.1 d
      have:=h.ix p hp
      simpa[fJ,hp]using this
    . simp at d
      subst d
      exact hi
   simpa using this
where
 nodup_len:∀ (n:Nat) (L:List Nat),L.Nodup->(∀ j∈L,j<n)->L.length<=n
  | 0,L,_,h=>by
   cases L with
   | nil=>simp
   | cons x L=>exact absurd (h x s_) o_
  | n+1,L,f,h=>by
   have c:=nodup_len n (L.erase n) (f.erase n) (fun j g=>by
    have u:=h j (List.mem_of_mem_erase g)
    have v:j≠n:=fun e=>by subst e;exact(List.Nodup.not_mem_erase f) g
    omega)
   have:=List.length_erase_le (a:=n) (l:=L)
   by_cases hm:n∈L
   . have:=G7 hm
     have:=G8 hm
     omega
   . rw[List.erase_of_not_mem hm]at c;omega
theorem qV{α:Type}[Inhabited α]{xs:List α}{e:α}:e∈xs↔∃ p,p<xs.length/\fJ xs p=e:=by
 constructor
 . intro h
   obtain⟨p,hp,rfl⟩:=G2.1 h
   exact⟨p,hp,by simp[fJ,hp]⟩
 . rintro⟨p,hp,rfl⟩
   exact zd (gz hp)
theorem K7{xs:List gG}{p q:Nat}(hp:p<xs.length)(a:q<xs.length)(e:gG):e∈iI xs p q↔e∈xs:=by
 have hs:=Bi hp a
 grind [qV,mQ]
theorem Ord.first{xs:List gG}(h:Ord xs):∀ p,p<xs.length->¬ iC (fJ xs p) (fJ xs 0):=by
 intro p
 induction p using Nat.strongRecOn with
 | _ p b =>
  intro hp
  by_cases h0:p=0
  . subst h0;exact CN _
  . have a:pa p<p:=by simp only[pa];omega
    exact FI (h p o_ hp) (b (pa p) a o_)
theorem Ord.min{xs:List gG}(h:Ord xs){e:gG}(a:e∈xs):¬ iC e (fJ xs 0):=by
 obtain⟨p,hp,rfl⟩:=qV.1 a
 exact h.first p hp
theorem r6{α:Type}[Inhabited α]{xs:List α}{m j:Nat}(h:j<m):fJ (xs.take m) j=fJ xs j:=by
 grind [fJ]
theorem Hp.cut{n:Nat}{xs:List gG}{pl:List Nat}{m:Nat}(h:Hp n xs pl)(hm:xs.length=m+1):Hp n (xs.take m) (je pl (fJ xs m).ix 0):=by
 have f:=h.pl
 have g:=h.ix m o_
 have d:∀ j,fJ (je pl (fJ xs m).ix 0) j=if (fJ xs m).ix=j then 0 else fJ pl j:=fun j=>jh o_
 have c:(xs.take m).length=m:=by rw[z8];omega
 refine⟨fun p hp=>?_,fun p hp=>?_,fun p hp=>?_,fun i p hi hp=>?_,by simp[je,gC];exact f,by have:=h.len;omega⟩
 . rw[c]at hp;rw[r6 hp];exact h.ix p o_
 . rw[c]at hp;rw[r6 hp];exact h.key p o_
 . rw[c]at hp
   rw[r6 hp,d,if_neg (fun e=>by have:=h.inj (p:=m) (q:=p) o_ o_ e;omega)]
   exact h.at_ p o_
 . rw[d]at hp
   split at hp
   . omega
   . rename_i k
     obtain⟨a,b⟩:=h.of i p hi hp
     grind [r6]
theorem Wi{n:Nat}{xs:List gG}{pl:List Nat}{m:Nat}(h:Hp n xs pl)(hm:xs.length=m+1)(e:gG):e∈xs.take m↔e∈xs/\e.ix≠(fJ xs m).ix:=by
 have b:(xs.take m).length=m:=by rw[z8];omega
 rw[qV,qV,b]
 constructor
 . rintro⟨j,a,rfl⟩
   rw[r6 a]
   exact⟨⟨j,o_,rfl⟩,fun e=>by have:=h.inj (p:=j) (q:=m) o_ o_ e;omega⟩
 . rintro⟨⟨j,a,rfl⟩,c⟩
   have:j≠m:=fun e=>c (by rw[e])
   exact⟨j,o_,r6 o_⟩
theorem Ord.cut{xs:List gG}{p m:Nat}(h:Ord xs)(hm:xs.length=m+1)(hp:p<m):tA ((iI xs p m).take m) p:=by
 have d:((iI xs p m).take m).length=m:=by rw[z8,mQ];omega
 have hs:=Bi (xs:=xs) (show p<xs.length by omega) (show m<xs.length by omega)
 refine⟨fun j b a i k=>?_,fun b j g a e=>?_⟩
 . rw[d]at a
   have c:pa j<m:=by simp only[pa];omega
   rw[r6 a,r6 c,hs,hs,if_neg o_,if_neg (fun e=>i e.symm),if_neg o_,if_neg (fun e=>k e.symm)]
   exact h j b o_
 . rw[d]at a
   have c:pa p<p:=by simp only[pa];omega
   have f:j≠p:=by rintro rfl;omega
   rw[r6 a,r6 o_,hs,hs,if_neg o_,if_neg (fun e=>f e.symm),if_neg o_,if_neg o_]
   exact FI (h j g o_) (by rw[e];exact h p b o_)
theorem Ord.Wd{xs:List gG}{m:Nat}(h:Ord xs)(hm:m<=xs.length):Ord (xs.take m):=by
 intro j a c
 rw[z8]at c
 have b:pa j<m:=by simp only[pa];omega
 rw[r6 o_,r6 b]
 exact h j a o_
theorem ae3{xs:List gG}{p:Nat}(hp:p<xs.length):iI xs p p=xs:=by
 have e:∀ (l:List gG),p<l.length->fO l p (fun _=>fJ l p)=l:=fun l a=>by
  apply nU
  grind [fO,gz]
 have e1:=e xs hp
 unfold iI
 rw[e1,e1]
theorem adh{xs:List gG}(h:Ord xs)(e:gG):tA (xs++[e]) xs.length:=by
 have c:∀ p,p<xs.length->fJ (xs++[e]) p=fJ xs p:=fun p hp=>by
  grind [fJ]
 refine⟨fun j a b g i=>?_,fun a j f b e' => ?_⟩
 . simp at b
   have d:pa j<j:=by simp only[pa];omega
   rw[c j o_,c (pa j) o_]
   exact h j a o_
 . grind
end Go.Sx
namespace Go.Sx
open Go
theorem wQ(b:Nat){a:Nat}(h:a<=9223372036854775807):IntKind.i64.wrap ((a:Int).tdiv (b:Int))=((a / b:Nat):Int):=by
 have:a / b<=a:=Nat.div_le_self _ _
 rw[Int.tdiv_eq_ediv_of_nonneg o_,show (a:Int) / (b:Int)=((a / b:Nat):Int) from rfl]
 generalize a / b=c at this
 rw[IntKind.wrap_i64]
 omega
theorem Da(b:Nat){a:Nat}:(a:Int).tmod (b:Int)=((a%b:Nat):Int):=by
 rw[G4 o_];rfl
def jd(x y:Int):Int:=if x<y then -1 else if y<x then 1 else 0
theorem N2(x y:Int):gZ .i64 (jd x y):=by
 show (-9223372036854775808:Int)<=_/\_<=(9223372036854775807:Int)
 unfold jd
 (repeat' split)<;>omega
def mo:List Int->Int
 | []=>0
 | x :: l=>if x=0 then mo l else x
theorem Rw{xs:List Int}{k:Nat}(h:∀ j x,j<k->xs[j]? = some x->x=0):mo xs=mo (xs.drop k):=by
 induction xs generalizing k with
 | nil=>simp[mo]
 | cons y xs c =>
  cases k with
  | zero=>rfl
  | succ k =>
   have a:=h 0 y o_ rfl
   simp only[mo,if_pos a,List.drop_succ_cons]
   exact c fun j x d b=>h (j+1) x o_ (by simpa using b)
theorem Ru{xs:List Int}{k:Nat}{x:Int}(h:∀ j x,j<k->xs[j]? = some x->x=0)(c:xs[k]? = some x)(a:x≠0):mo xs=x:=by
 rw[Rw h]
 have:=(zk.1 c)
 obtain⟨b,e⟩:=this
 rw[Bw b,e]
 simp[mo,a]
theorem Rv{xs:List Int}{k:Nat}(h:∀ j x,j<k->xs[j]? = some x->x=0)(hk:k=xs.length):mo xs=0:=by
 rw[Rw h,hk]
 simp[mo]
theorem Rx{xs:List Int}{k:Nat}{y:Int}(h:∀ j x,j<k->xs[j]? = some x->x=0)(c:xs[k]? = some y)(b:y=0):∀ j x,j<k+1->xs[j]? = some x->x=0:=by
 intro j x d a
 by_cases e:j=k
 . subst e
   rw[c]at a
   cases a
   exact b
 . exact h j x o_ a
theorem Ry(a b:gG):mo [jd a.key b.key,jd a.ix b.ix]=qq a b:=by
 unfold mo mo mo jd qq
 (repeat' split)<;>omega
structure jy (n:Nat) (ps:List (Option Nat)) (pl:List Nat):Prop where
 len:pl.length=64*ps.length
 room:n<=pl.length
 zero:∀ j,ps[j]? = some none->∀ i,i / 64=j->fJ pl i=0
 val:∀ i,fJ pl i<=65536
 n:n<=65536
 top:ps.length<=1000000
theorem jy.at{n:Nat}{ps:List (Option Nat)}{pl:List Nat}(h:jy n ps pl){i:Nat}(hi:i<n):i / 64<ps.length:=by
 have a:=h.len
 have b:=h.room
 omega
theorem jy.Vz{n:Nat}{ps:List (Option Nat)}{pl:List Nat}(h:jy n ps pl){j:Nat}(b:ps[j]? = some none):List.replicate 64 (Value.int .i64 0)=((pl.drop (64*j)).take 64).flatMap (fun(x:Nat)=>[.int .i64 (x:Int)]):=by
 have g:=(zk.1 b).1
 have i:=h.len
 have e:(pl.drop (64*j)).take 64=List.replicate 64 0:=by
  rw[List.eq_replicate_iff]
  refine⟨by rw[z8,BF];omega,fun x f=>?_⟩
  obtain⟨q,d,rfl⟩:=G2.1 f
  rw[z8,BF]at d
  have a:=h.zero j b (64*j+q) o_
  have c:64*j+q<pl.length:=by omega
  simp only[fJ,zm c,zS]at a
  simp[a]
 rw[e]
 rfl
theorem jy.set{n:Nat}{ps:List (Option Nat)}{pl:List Nat}(h:jy n ps pl){i p b:Nat}(hi:i<n)(hp:p<=65536)(hb:ps[i / 64]? = some (some b)):jy n ps (je pl i p):=by
 have d:=h.room
 refine⟨by simp only[je,gC];exact h.len,by simp only[je,gC];exact d,fun j a q c=>?_,fun q=>?_,h.n,h.top⟩
 . unfold je
   rw[jh o_,if_neg (fun e=>by subst e;rw[c]at hb;rw[a]at hb;cases hb)]
   exact h.zero j a q c
 . unfold je
   rw[jh o_]
   split
   . exact hp
   . exact h.val q
theorem jy.made{n:Nat}{ps:List (Option Nat)}{pl:List Nat}(h:jy n ps pl){j b:Nat}:jy n (ps.set j (some b)) pl:=by
 refine⟨by rw[List.length_set];exact h.len,h.room,fun q a=>?_,h.val,h.n,by rw[List.length_set];exact h.top⟩
 rw[vE]at a
 split at a
 . split at a<;>cases a
 . exact h.zero q a
instance:Inhabited (Option Nat):=⟨none⟩
abbrev fW(x:Nat):List Value:=[.int .i64 (x:Int)]
theorem paN{p:Nat}(h:p<=65536):IntKind.i64.wrap (((p:Int)-1).tdiv 2)=((pa p:Nat):Int):=by
 cases p with
 | zero=>rfl
 | succ p =>
  have e:((p+1:Nat):Int)-1=(p:Int):=by omega
  rw[e]
  have:=wQ 2 (a:=p) o_
  exact this
def rP(xs:List gG)(p:Nat):Int:=if 0<p/\iC (fJ xs p) (fJ xs (pa p))then(pa p:Int)else -1
def nX(xs:List gG)(p:Nat):Int:=if jE xs p=p then -1 else(jE xs p:Int)
theorem UH{xs:List gG}{p:Nat}(h:rP xs p ≠ -1):rP xs p=((pa p:Nat):Int)/\0<p/\iC (fJ xs p) (fJ xs (pa p)):=by
 unfold rP at h ⊢
 split
 . rename_i a;exact⟨rfl,a⟩
 . rename_i a;rw[if_neg a]at h;exact absurd rfl h
theorem UI{xs:List gG}{p:Nat}(h:rP xs p = -1):¬ (0<p/\iC (fJ xs p) (fJ xs (pa p))):=by
 intro a
 unfold rP at h
 rw[if_pos a]at h
 omega
theorem Vc{xs:List gG}{p:Nat}(h:nX xs p ≠ -1):nX xs p=((jE xs p:Nat):Int)/\jE xs p≠p:=by
 unfold nX at h ⊢
 split
 . rename_i a;rw[if_pos a]at h;exact absurd rfl h
 . rename_i a;exact⟨rfl,a⟩
theorem Vd{xs:List gG}{p:Nat}(h:nX xs p = -1):jE xs p=p:=by
 unfold nX at h
 split at h
 . assumption
 . omega
structure oF (n:Nat) (xs ys:List gG) (ps qs:List (Option Nat)) (pl:List Nat):Prop where
 hp:Hp n ys pl
 gK:jy n qs pl
 len:ys.length=xs.length
 mem:∀ e,e∈ys↔e∈xs
 pe:qs.length=ps.length
theorem oF.swap{n:Nat}{xs ys:List gG}{ps c a:List (Option Nat)}{pl:List Nat}{p q:Nat}(h:oF n xs ys ps c pl)(hp:p<ys.length)(b:q<ys.length)(f:a.length=c.length)
 (d:jy n a (je (je pl (fJ (iI ys p q) p).ix (p+1)) (fJ (iI ys p q) q).ix (q+1))):oF n xs (iI ys p q) ps a (je (je pl (fJ (iI ys p q) p).ix (p+1)) (fJ (iI ys p q) q).ix (q+1)) :=
 ⟨h.hp.swap hp b,d,by rw[mQ,h.len],fun e=>(K7 hp b e).trans (h.mem e),f.trans h.pe⟩
theorem oF.refl{n:Nat}{xs:List gG}{ps:List (Option Nat)}{pl:List Nat}(h:Hp n xs pl)(a:jy n ps pl):oF n xs xs ps ps pl:=⟨h,a,rfl,fun _=>Iff.rfl,rfl⟩
theorem oF.trans{n:Nat}{xs ys zs:List gG}{ps b c:List (Option Nat)}{pl a:List Nat}(h:oF n xs ys ps b pl)(k:oF n ys zs b c a):oF n xs zs ps c a :=
 ⟨k.hp,k.gK,k.len.trans h.len,fun e=>(k.mem e).trans (h.mem e),k.pe.trans h.pe⟩
theorem jy.copy{n k:Nat}{ps b:List (Option Nat)}{pl:List Nat}(h:jy n ps pl)(c:qE ps b k)(hk:k=ps.length):jy n b pl :=
 ⟨by rw[c.len];exact h.len,h.room,fun j a i hi=>h.zero j (c.done j (by have:=(zk.1 a).1;have:=c.len;omega) a) i hi,h.val,h.n,by rw[c.len];exact h.top⟩
theorem jy.new{n m:Nat}(b:n<=65536)(hm:m=(n+63) / 64):jy n (List.replicate m none) (List.replicate (64*m) 0):=by
 have a:∀ i,fJ (List.replicate (64*m) 0) i=0:=fun i=>by
  unfold fJ
  rw[uh]
  split<;>rfl
 exact⟨s_,by simp;omega,fun j _ i _=>a i,fun i=>by rw[a];omega,b,by simp;omega⟩
theorem Hp.new{n m:Nat}(hm:m=(n+63) / 64):Hp n [] (List.replicate (64*m) 0):=by
 have a:∀ i,fJ (List.replicate (64*m) 0) i=0:=fun i=>by
  unfold fJ
  rw[uh]
  split<;>rfl
 exact⟨fun p hp=>by simp at hp,fun p hp=>by simp at hp,fun p hp=>by simp at hp,fun i p _ hp=>by rw[a]at hp;omega,by simp;omega,s_⟩
theorem Ord.nil:Ord []:=fun j _ a=>by simp at a
end Go.Sx
namespace Go.Sx
open Go
structure gT where
 st:Int
 after:Int
 times:Int
 deriving Inhabited
def gT.cells(x:gT):List Value:=[.int .i64 x.st,.int .i64 x.after,.int .u64 x.times]
structure As where
 n:Nat
 begun:Nat
 used:Nat
 last:Int
 sl:List gT
 fl:List Nat
 ps:List (Option Nat)
def BL(sl:List gT):Int->List Nat->Prop
 | l,[]=>l = -1
 | l,i :: r=>l=(i:Int)/\BL sl (fJ sl i).after r
def As.gW(A:As)(i:Nat):Prop:=i<A.begun/\i∉A.fl
structure As.ok (A:As):Prop where
 n:A.n<=65536
 le:A.begun<=A.n
 pe:A.ps.length=(A.begun+63) / 64
 ps:∀ j,j<A.ps.length->∃ b,A.ps[j]? = some (some b)
 sl:A.sl.length=64*A.ps.length
 nodup:A.fl.Nodup
 fl:∀ i∈A.fl,i<A.begun
 chain:BL A.sl A.last A.fl
 st:∀ i,i<A.begun->(fJ A.sl i).st=if i∈A.fl then 2 else 1
 used:A.used+A.fl.length=A.begun
theorem CZ:∀ (L M:List Nat),L.Nodup->(∀ j∈L,j∈M)->L.length<=M.length
 | [],_,_,_=>by simp
 | x :: L,M,hn,h=>by
  have b:=h x s_
  have c:=CZ L (M.erase x) (zx.1 hn).2 (fun j a=>(List.mem_erase_of_ne (fun e=>(zx.1 hn).1 (by rw[<-e];exact a))).2 (h j (by simp[a])))
  rw[G7 b]at c
  have:=G8 b
  simp only[zh]
  omega
theorem AU(n:Nat)(L:List Nat)(b:L.Nodup)(h:∀ j∈L,j<n):L.length<=n:=by
 have:=CZ L (List.range n) b (fun j a=>k9.2 (h j a))
 simpa using this
theorem As.ok.room{A:As}(h:A.ok){i:Nat}(hi:i<A.begun):i<A.sl.length/\i / 64<A.ps.length:=by
 have a:=h.sl
 have b:=h.pe
 omega
theorem As.ok.at{A:As}(h:A.ok){i:Nat}(hi:i<A.begun):∃ b,A.ps[i / 64]? = some (some b):=h.ps _ (h.room hi).2
theorem BL.congr{sl a : List gT}:∀ {r:List Nat} {l:Int},BL sl l r->(∀ i∈r,(fJ a i).after=(fJ sl i).after)->BL a l r
 | [],_,h,_=>h
 | i :: r,l,h,he=>⟨h.1,by rw[he i s_];exact h.2.congr fun j b=>he j (by simp[b])⟩
def tk(x:gT):gT:=⟨1,-1,IntKind.u64.wrap (x.times+1)⟩
theorem Lw{sl:List gT}{i:Nat}(hi:i<sl.length){t:Int}(a:t=IntKind.u64.wrap ((fJ sl i).times+1)):fO (fO (fO sl i (fun x=>{ x with st:=1 })) i (fun x=>{ x with after := -1 })) i (fun x=>{ x with times:=t })=fO sl i tk:=by
 subst a
 have e:∀ (l:List gT) (f g:gT->gT),i<l.length->fO (fO l i f) i g=fO l i (fun x=>g (f x)):=fun l f g h=>by
  have e:=jU (f:=f) h
  unfold fO at e ⊢
  rw[e,List.set_set]
 rw[e _ _ _ hi,e _ _ _ hi]
 rfl
theorem As.ok.pop{A:As}(h:A.ok){i:Nat}{r:List Nat}(d:A.fl=i :: r) :
 As.ok ⟨A.n,A.begun,A.used+1,(fJ A.sl i).after,fO A.sl i tk,r,A.ps⟩/\(∀ j,As.gW ⟨A.n,A.begun,A.used+1,(fJ A.sl i).after,fO A.sl i tk,r,A.ps⟩ j↔A.gW j\/j=i)/\¬ A.gW i/\i<A.begun/\A.last=(i:Int):=by
 have o:=h.chain
 have g:=h.nodup
 rw[d]at o g
 rw[zx]at g
 have p:i<A.begun:=h.fl i (by rw[d];simp)
 have t:=(h.room p).1
 have m:=fun j=>jh (xs:=A.sl) (k:=i) (j:=j) (f:=tk) t
 refine⟨⟨h.n,h.le,h.pe,h.ps,by simp only[gC];exact h.sl,g.2,fun j l=>h.fl j (by rw[d];simp[l]),?_,fun j l=>?_,?_⟩,fun j=>?_,fun m=>m.2 (by rw[d];simp),p,o.1⟩
 . refine o.2.congr fun j l=>?_
   rw[m,if_neg (fun e=>g.1 (by rw[e];exact l))]
 . simp only
   rw[m]
   split
   . rename_i e
     subst e
     rw[if_neg g.1]
     rfl
   . rename_i e
     have:=h.st j l
     rw[this,d]
     simp only[zg]
     by_cases h1:j∈r
     . rw[if_pos (.inr h1),if_pos h1]
     . rw[if_neg (fun q=>q.elim (fun s=>e s.symm) h1),if_neg h1]
 . have:=h.used
   rw[d]at this
   simp only[zh]at this
   show A.used+1+r.length=A.begun
   omega
 . simp only[As.gW,d,zg,not_or]
   constructor
   . rintro⟨a,b⟩
     by_cases e:j=i
     . exact .inr e
     . exact .inl ⟨a,e,b⟩
   . rintro(⟨a,b,c⟩|rfl)
     . exact⟨a,c⟩
     . exact⟨p,g.1⟩
theorem As.ok.fresh{A:As}(h:A.ok)(a:A.fl=[])(v:A.begun<A.n){ps2:List (Option Nat)}{sl2:List gT}{b:Nat}(hb:(A.begun%64=0/\ps2=A.ps++[some b]/\sl2=A.sl++List.replicate 64 ⟨0,0,0⟩)\/(A.begun%64≠0/\ps2=A.ps/\sl2=A.sl)) :
 As.ok ⟨A.n,A.begun+1,A.used+1,A.last,fO sl2 A.begun tk,[],ps2⟩/\(∀ j,As.gW ⟨A.n,A.begun+1,A.used+1,A.last,fO sl2 A.begun tk,[],ps2⟩ j↔A.gW j\/j=A.begun)/\¬ A.gW A.begun/\A.last = -1/\A.begun<sl2.length/\∃ c,ps2[A.begun / 64]? = some (some c):=by
 have g:=h.chain
 have q:=h.sl
 have u:=h.pe
 rw[a]at g
 have r:ps2.length=(A.begun+1+63) / 64/\sl2.length=64*ps2.length/\(∀ j,j<ps2.length->∃ b,ps2[j]? = some (some b))/\∀ j,j<A.begun->fJ sl2 j=fJ A.sl j:=by
  rcases hb with ⟨e,rfl,rfl⟩|⟨e,rfl,rfl⟩
  . refine⟨by simp;omega,by simp;omega,fun j d=>?_,fun j d=>?_⟩
    . rw[L6]
      split
      . exact h.ps j (by assumption)
      . simp at d
        have:j-A.ps.length=0:=by omega
        rw[this]
        exact⟨b,rfl⟩
    . unfold fJ
      rw[zO o_]
  . exact⟨o_,q,h.ps,fun j _=>rfl⟩
 obtain⟨s,p2,p,t⟩:=r
 have o:A.begun<sl2.length:=by omega
 have l:=fun j=>jh (xs:=sl2) (k:=A.begun) (j:=j) (f:=tk) o
 refine⟨⟨h.n,by show A.begun+1<=A.n;omega,s,p,by simp only[gC];exact p2,zT,fun i hi=>by simp at hi,g,fun j d=>?_,?_⟩,fun j=>?_,fun l=>absurd l.1 o_,g,o,p _ o_⟩
 . simp only[mz,if_false]
   rw[l]
   split
   . rfl
   . rename_i e
     have m : j<A.begun:=by
      have:j<A.begun+1:=d
      omega
     rw[t j m, h.st j m, a]
     simp
 . have:=h.used
   rw[a]at this
   simp at this ⊢
   omega
 . simp only[As.gW,a,mz,not_false_eq_true,and_true]
   omega
theorem As.ok.full{A:As}(h:A.ok)(b:A.used<A.n):(∃ i r,A.fl=i :: r)\/(A.fl=[]/\A.begun<A.n):=by
 have a:=h.used
 cases hf:A.fl with
 | cons i r=>exact .inl ⟨i,r,rfl⟩
 | nil =>
  rw[hf]at a
  simp at a
  exact .inr ⟨rfl,o_⟩
theorem As.ok.free{A:As}(h:A.ok){i:Nat}(hi:A.gW i){sl2:List gT}(hs:sl2=fO (fO A.sl i (fun x=>{ x with st:=2 })) i (fun x=>{ x with after:=A.last })) :
 As.ok ⟨A.n,A.begun,A.used-1,(i:Int),sl2,i :: A.fl,A.ps⟩/\(∀ j,As.gW ⟨A.n,A.begun,A.used-1,(i:Int),sl2,i :: A.fl,A.ps⟩ j↔A.gW j/\j≠i)/\0<A.used:=by
 obtain⟨g,k⟩:=hi
 have m:=(h.room g).1
 have f:=h.used
 have s:0<A.used:=by
  have r:(i :: A.fl).length<=A.begun:=by
   have q:(i :: A.fl).Nodup:=zx.2 ⟨k,h.nodup⟩
   exact AU A.begun _ q fun j d=>by
    rcases zg.1 d with rfl|d
    . exact g
    . exact h.fl j d
  simp only[zh]at r
  omega
 have l:∀ j,fJ sl2 j=if i=j then { fJ A.sl i with st:=2,after:=A.last } else fJ A.sl j:=fun j=>by
  subst hs
  rw[jh (by rw[gC];exact m)]
  by_cases e:i=j
  . rw[if_pos e,if_pos e,jU m]
  . rw[if_neg e,if_neg e,jQ e]
 refine⟨⟨h.n,h.le,h.pe,h.ps,by rw[hs];simp only[gC];exact h.sl,zx.2 ⟨k,h.nodup⟩,fun j d=>?_,⟨rfl,?_⟩,fun j d=>?_,by simp only[zh];omega⟩,fun j=>?_,s⟩
 . rcases zg.1 d with rfl|d
   . exact g
   . exact h.fl j d
 . rw[l,if_pos rfl]
   refine h.chain.congr fun j d=>?_
   rw[l,if_neg (fun e=>k (by rw[e];exact d))]
 . simp only
   rw[l]
   split
   . rename_i e
     subst e
     simp
   . rename_i e
     rw[h.st j d]
     simp only[zg]
     by_cases f:j∈A.fl
     . rw[if_pos f,if_pos (.inr f)]
     . rw[if_neg f,if_neg (fun o=>o.elim (fun p=>e p.symm) f)]
 . simp only[As.gW,zg,not_or]
   constructor
   . rintro⟨a,b,c⟩;exact⟨⟨a,c⟩,b⟩
   . rintro⟨⟨a,c⟩,b⟩;exact⟨a,b,c⟩
def As.list(A:As)(k:Nat):List Nat:=(List.range k).filter fun i=>decide ((fJ A.sl i).st=1)
theorem As.QD(A:As)(k:Nat):A.list (k+1)=if (fJ A.sl k).st=1 then A.list k++[k]else A.list k:=by
 unfold As.list
 rw[tw,BE]
 split
 . rename_i h;simp[h]
 . rename_i h;simp[h]
theorem As.QC(A:As):∀ k,(A.list k).length<=k:=fun k=>by
 have:=GZ (fun i=>decide ((fJ A.sl i).st=1)) (List.range k)
 simpa[As.list]using this
theorem As.ok.o7{A:As}(h:A.ok)(i:Nat):i∈A.list A.begun↔A.gW i:=by
 simp only[As.list,kD,k9,decide_eq_true_eq,As.gW]
 constructor
 . rintro⟨a,b⟩
   refine⟨a,fun c=>?_⟩
   rw[h.st i a,if_pos c]at b
   omega
 . rintro⟨a,b⟩
   exact⟨a,by rw[h.st i a,if_neg b]⟩
theorem As.CK(A:As)(k:Nat):(A.list k).Pairwise (· < ·):=List.Pairwise.filter _ List.pairwise_lt_range
theorem As.ok.AP{A:As}(h:A.ok):(A.list A.begun).length=A.used:=by
 have i:(A.list A.begun++A.fl).Nodup:=by
  rw[zu]
  refine⟨(A.CK _).imp (fun h=>Nat.ne_of_lt h),h.nodup,fun a g b hb e=>?_⟩
  subst e
  exact((h.o7 a).1 g).2 hb
 have d:(A.list A.begun++A.fl).length<=A.begun:=AU _ _ i fun j c=>by
  rcases zr.1 c with c|c
  . exact((h.o7 j).1 c).1
  . exact h.fl j c
 have f:(List.range A.begun).length<=(A.list A.begun++A.fl).length:=by
  refine CZ _ _ vG fun j c=>?_
  rw[k9]at c
  by_cases e:j∈A.fl
  . exact xu _ e
  . exact xw _ ((h.o7 j).2 ⟨c,e⟩)
 have k:=h.used
 simp only[zw,p7]at d f
 omega
def As.new(n:Nat):As:=⟨n,0,0,-1,[],[],[]⟩
theorem As.tQ{n:Nat}(b:n<=65536):(As.new n).ok :=
 ⟨b,oO _,by simp[As.new],fun j a=>by simp[As.new]at a,rfl,zT,fun i hi=>by simp[As.new]at hi,rfl,fun i hi=>by simp[As.new]at hi,rfl⟩
theorem As.ok.copy{A:As}(h:A.ok){a:List (Option Nat)}(c:a.length=A.ps.length)(d:∀ j,j<a.length->∃ b,a[j]? = some (some b)):As.ok { A with ps:=a } :=
 ⟨h.n,h.le,by show a.length=_;rw[c];exact h.pe,d,by show A.sl.length=_;rw[h.sl,c],h.nodup,h.fl,h.chain,h.st,h.used⟩
theorem afd{α:Type}(l:List α)(B k:Nat):l.take (B*k)++(l.drop (B*k)).take B=l.take (B*(k+1)):=by
 rw[Nat.mul_add,sJ,List.take_add]
structure xD (qs:List (Option Nat)) (k:Nat):Prop where
 len:qs.length=k
 all:∀ j,j<qs.length->∃ b,qs[j]? = some (some b)
theorem xD.start:xD [] 0:=⟨rfl,fun j a=>by simp at a⟩
theorem xD.next{a:List (Option Nat)}{k b:Nat}(h:xD a k):xD (a++[some b]) (k+1) :=
 ⟨by simp[h.len],fun j c=>by
  rw[L6]
  split
  . exact h.all j (by assumption)
  . simp at c
    have:j-a.length=0:=by omega
    rw[this]
    exact⟨b,rfl⟩⟩
theorem VA{α:Type}{l:List α}{B m k:Nat}(a:l.length=B*m)(hk:k<m):((l.drop (B*k)).take B).length=B/\(l.take (B*k)).length=B*k:=by
 have:B*(k+1)<=B*m:=BC _ hk
 rw[Nat.mul_add]at this
 rw[z8,BF,z8]
 omega
end Go.Sx
namespace Go.Sx
open Go
theorem Ir{xs:List Nd}{q:Nat}:∀ {c:Cx} {j:Nat} {L:List Nat},At xs c j L q->Out xs q (lI c L)->∀ (k v:Nat),(jo c j)[k]? = some v ->
 (k<c.length->(jH xs v).2=true/\(jo c j)[k+1]? = some (fJ xs v).up)/\(k=c.length->jH xs v=(0,false))
 | [],j,L,h,ho,k,v,hk=>by
  cases k with
  | succ k=>simp[jo]at hk
  | zero =>
   simp[jo]at hk
   subst hk
   exact⟨fun h=>absurd h s_,fun _=>h.stop ho⟩
 | (d,g,s) :: c,j,L,h,ho,k,v,hk=>by
  obtain⟨f,i,l⟩:=h.step
  cases k with
  | zero =>
   simp[jo]at hk
   subst hk
   exact⟨fun _=>⟨by rw[f],by simp[jo,i]⟩,fun h=>absurd h s_⟩
  | succ k =>
   have m : (jo c g)[k]? = some v:=by simpa[jo]using hk
   have:=Ir l ho k v m
   refine⟨fun e=>?_,fun e=>this.2 (by simpa using e)⟩
   obtain⟨a,b⟩:=this.1 (by simpa using e)
   exact⟨a,by simpa[jo]using b⟩
theorem jI.PY{xs0 xs:List Nd}{a t s:Tr}{O:Cx}{q g:Nat}{d:Bool}(h:jI xs0 xs a O (mj d t g s) q)(b:(fJ xs g).flip=false):jI xs0 xs a ((d,g,s) :: O) t q :=
 ⟨h.rep,h.perm,h.ord,h.kl,h.other,fun f hm=>by
  rcases zg.1 hm with rfl|hm
  . exact b
  . exact h.flip f hm⟩
theorem LF{i:Nat}{t:Tr}{w:List Nat}(h:Way i t w):∃ l r w', t = .nd l (w.headD 0) r/\w=w.headD 0 :: w' := by
 cases t with
 | nil=>exact h.elim
 | nd l j r =>
  rcases h with ⟨rfl,rfl⟩|⟨w', rfl,_⟩
  . exact⟨l,r,[],rfl,rfl⟩
  . exact⟨l,r,w', rfl,rfl⟩
theorem af7{xs0 xs:List Nd}{k U:Tr}{O:Cx}{q i j:Nat}{w:List Nat}(h:jI xs0 xs k O U q)(v:k.mem.Nodup)(c:Way i U (j :: w)) :
 (w=[]->j=i/\∃ a b,jI xs0 (jZ xs j) k O (.nd a i b) q/\(fJ (jZ xs j) i).flip=false)/\(w≠[]->∃ p o, jI xs0 (jZ xs j) k p o q/\Way i o w):=by
 obtain⟨l,r,w', e1,s⟩:=LF c
 simp only[List.headD_cons]at e1 s
 subst e1
 obtain⟨l', m, u,hm,n⟩:=h.push v
 refine⟨fun e=>?_,fun e=>?_⟩
 . rcases c with ⟨rfl,_⟩|⟨x,g,c⟩
   . exact⟨rfl,l', m, hm,n⟩
   . cases g
     subst e
     rcases c with c|c<;>(obtain⟨_,_,_,_,t⟩:=LF c;cases t)
 . rcases c with ⟨_,g⟩|⟨x,g,c⟩
   . cases g
     exact absurd rfl e
   . cases g
     have f:Way i l' w\/Way i m w:=by
      rcases u with ⟨rfl,rfl⟩|⟨rfl,rfl⟩
      . exact c
      . exact c.symm
     rcases f with f|f
     . exact⟨(true,j,m) :: O,l', jI.PY (d:=true) hm n,f⟩
     . exact⟨(false,j,l') :: O,m, jI.PY (d:=false) hm n,f⟩
theorem gf.push{xs:List Nd}(h:gf xs){i:Nat}(hi:i<xs.length):gf (jZ xs i)/\(jZ xs i).length=xs.length:=by
 unfold jZ
 split
 . simp only
   obtain⟨y0,g⟩:∃ y,y=fO xs i (fun x=>{ x with flip:=false }):=⟨_,rfl⟩
   have k:gf y0:=g▸h.iN hi fun x a b c d e=>⟨a,b,c,d,e⟩
   have l0:y0.length=xs.length:=by rw[g,gC]
   rw[<-g]
   obtain⟨y1,e1⟩:∃ y,y=fO y0 i (fun x=>{ x with k0:=(fJ y0 i).k1 }):=⟨_,rfl⟩
   have p:gf y1:=e1▸k.iN o_ fun x a b c d e=>⟨k.k1 i o_,b,c,d,e⟩
   have r:y1.length=xs.length:=by rw[e1,gC,l0]
   rw[<-e1]
   obtain⟨y2,j⟩:∃ y,y=fO y1 i (fun x=>{ x with k1:=(fJ y0 i).k0 }):=⟨_,rfl⟩
   have q:(fJ y0 i).k0<y1.length:=by
    have:=k.k0 i o_
    omega
   have f:gf y2:=by
    rw[j]
    exact p.iN o_ fun x a b c d e=>⟨a,q,c,d,e⟩
   have n:y2.length=xs.length:=by rw[j,gC,r]
   rw[<-j]
   obtain⟨o,m⟩:∃ y,y=(if (fJ y2 i).k0=0 then y2 else fO y2 (fJ y2 i).k0 (fun x=>{ x with flip := !(fJ y2 (fJ y2 i).k0).flip })):=⟨_,rfl⟩
   have l:gf o/\o.length=xs.length:=by
    rw[m]
    split
    . exact⟨f,n⟩
    . exact⟨f.iN (f.k0 i o_) fun x a b c d e=>⟨a,b,c,d,e⟩,by rw[gC,n]⟩
   rw[<-m]
   split
   . exact l
   . exact⟨l.1.iN (by have:=f.k1 i o_;omega) fun x a b c d e=>⟨a,b,c,d,e⟩,by rw[gC];exact l.2⟩
 . exact⟨h,rfl⟩
theorem jI.out{xs0 xs:List Nd}{a U:Tr}{O:Cx}{q:Nat}(h:jI xs0 xs a O U q)(f:Out xs0 q a.mem):Out xs q (lI O U.mem):=by
 have hm:∀ j,j∈lI O U.mem↔j∈a.mem:=fun j=>by rw[<-pW];exact h.perm.mem_iff
 rcases f with e|⟨c,d,b⟩
 . exact .inl e
 . have e:=h.other q b
   refine .inr ⟨fun k=>c ?_,fun k=>d ?_,fun k=>b ((hm _).1 k)⟩
   . have:=(hm _).1 k
     simpa only[jf,e]using this
   . have:=(hm _).1 k
     simpa only[jf,e]using this
theorem jI.sides{xs0 xs:List Nd}{k a b:Tr}{O:Cx}{q i:Nat}(h:jI xs0 xs k O (.nd a i b) q)(r:k.mem.Nodup)(t:Out xs0 q k.mem) :
 (O=[]/\jH xs i=(0,false))\/(∃ d p s,O=[(d,p,s)]/\jH xs i=(sd d,true)/\(fJ xs i).up=p/\jH xs p=(0,false)) \/
 (∃ d p s j g o c,O=(d,p,s) :: (j, g,o) :: c/\jH xs i=(sd d,true)/\(fJ xs i).up=p/\jH xs p=(sd j, true)):=by
 have e:=At.start h.rep (h.perm.nodup_iff.2 r)
 have f:=h.out t
 match O,e,f with
 | [],e,f=>exact .inl ⟨rfl,e.stop f⟩
 | [(d,p,s)],e,f =>
  obtain⟨l,m,n⟩:=e.step
  exact .inr (.inl ⟨d,p,s,rfl,l,m,n.stop f⟩)
 | (d,p,s) :: (j, g,o) :: c,e,f =>
  obtain⟨l,m,n⟩:=e.step
  exact .inr (.inr ⟨d,p,s,j, g,o, c,rfl,l,m,n.step.1⟩)
theorem aek{d a : Bool}(h:sd d=sd a):d=a := by cases d<;>cases a <;> first|rfl|cases h
end Go.Sx
namespace Go.Sx
open Go
section
variable {w:World} {bs:List (World×List Nat)} {L:List fS} {R R' : fS} {i j:Nat} {k:IntKind} {v:Value} {e:TypeId} {ys:List Int}
theorem YH:∀ {L:List fS} {i j:Nat},(iT L).Nodup->L[i]? = some R->L[j]? = some R' -> i≠j->∀ b∈R.gJ,b∉R'.gJ:=by
 intro L
 induction L with
 | nil=>intro i j _ h;simp at h
 | cons Q L f =>
  intro i j c hi a e b hb
  rw[mY,zu]at c
  cases i with
  | zero =>
   simp at hi;subst hi
   cases j with
   | zero=>exact absurd rfl e
   | succ j=>exact fun d => c.2.2 b hb b (rY (i:=j) (by simpa using a) d) rfl
  | succ i =>
   cases j with
   | zero=>simp at a;subst a;exact fun d => c.2.2 b d b (rY (i:=i) (by simpa using hi) hb) rfl
   | succ j=>exact f c.2.1 (by simpa using hi) (by simpa using a) o_ b hb
theorem St.ad1(h:St bs L w)(hi:L[i]? = some (ir k v e ys))(hk:∀ y∈ys,gZ k y)(o:L[j]? = some R)(r:i≠j):Ints k (fun b=>b∉R.gJ) w v ys:=by
 have c:w.ownsRow 0 e 1 v ys.length (ys.map (.int k)):=h.own _ (zd hi)
 rcases c.2 with ⟨rfl,l⟩|⟨a, f,cur,rfl,_,s,m,n,_⟩
 . have:ys=[]:=um l
   subst this
   exact Sl.nil _ _ _ _
 . refine⟨_,f,rfl,m,n,fun q y d=>⟨a, 0,[.int k y],rfl,YH h.sep hi o r a (by simp[row,Value.ownBlock]),rfl,⟨rfl,hk y (zd d)⟩,fun p u hp=>?_⟩⟩
   cases p with
   | zero =>
    simp at hp
    subst hp
    have:=c.cells (g:=a) rfl q (.int k y) (by simp[d])
    rw[Addr.add_lit]at this
    simpa using this
   | succ p=>simp at hp
end
end Go.Sx
namespace Go.Sx
open Go
theorem S7{α:Type}{l:List α}{i:Nat}{x:α}(h:l[i]? = some x):l.take (i+1)=l.take i++[x]:=by rw[qz,h];rfl
theorem gf.rotate{xs:List Nd}(h:gf xs){i:Nat}(hi:i<xs.length):gf (iK xs i)/\(iK xs i).length=xs.length:=by
 have hp:=h.up i hi
 have j:=h.up _ hp
 unfold iK
 simp only
 obtain⟨y1,e1⟩:∃ y,y=(if (jH xs (fJ xs i).up).2=true then iW xs (fJ xs (fJ xs i).up).up (jH xs (fJ xs i).up).1 i else fO xs i (fun x=>{ x with up:=(fJ xs (fJ xs i).up).up })):=⟨_,rfl⟩
 have f:gf y1/\y1.length=xs.length:=by
  rw[e1]
  split
  . exact⟨h.kF j hi,E8 _ _ _ _⟩
  . exact⟨h.iN hi fun x a b c d e=>⟨a,b,j,d,e⟩,gC⟩
 rw[<-e1]
 obtain⟨k,g⟩:∃ k,k=(if (jH xs i).1=0 then(fJ y1 i).k1 else(fJ y1 i).k0):=⟨_,rfl⟩
 have n:k<y1.length:=by
  rw[g]
  split
  . exact f.1.k1 i o_
  . exact f.1.k0 i o_
 rw[<-g]
 have l:gf (iW y1 (fJ xs i).up (jH xs i).1 k):=f.1.kF o_ n
 have o:(iW y1 (fJ xs i).up (jH xs i).1 k).length=xs.length:=by rw[E8];exact f.2
 have m:gf (iW (iW y1 (fJ xs i).up (jH xs i).1 k) i (1-(jH xs i).1) (fJ xs i).up):=l.kF o_ o_
 have p:(iW (iW y1 (fJ xs i).up (jH xs i).1 k) i (1-(jH xs i).1) (fJ xs i).up).length=xs.length:=by rw[E8];exact o
 exact⟨(m.lP o_).lP (by rw[FX];omega),by rw[FX,FX];exact p⟩
theorem Dc{xs:List Nd}(h:gf xs){i:Nat}(hi:i<xs.length):(iK xs i).length=xs.length:=(h.rotate hi).2
def lJ(xs:List Nd)(P:List Nat)(k:Nat):List Nd:=(P.reverse.take k).foldl jZ xs
theorem R6(xs:List Nd)(P:List Nat):lJ xs P 0=xs:=by simp[lJ]
theorem R5{xs:List Nd}{P:List Nat}{k j:Nat}(h:P.reverse[k]? = some j):lJ xs P (k+1)=jZ (lJ xs P k) j:=by
 unfold lJ
 rw[S7 h,Hh]
 rfl
theorem gf.lJ{xs:List Nd}(h:gf xs){P:List Nat}(d:∀ j∈P,j<xs.length):∀ k,gf (Go.Sx.lJ xs P k)/\(Go.Sx.lJ xs P k).length=xs.length:=by
 intro k
 induction k with
 | zero=>rw[R6];exact⟨h,rfl⟩
 | succ k c =>
  cases hk:P.reverse[k]? with
  | none =>
   have:Go.Sx.lJ xs P (k+1)=Go.Sx.lJ xs P k:=by
    unfold Go.Sx.lJ
    rw[qz,hk]
    simp
   rw[this]
   exact c
  | some j =>
   rw[R5 hk]
   have e:j∈P:=by simpa using zd hk
   obtain⟨a,b⟩:=c.1.push (i:=j) (by rw[c.2];exact d j e)
   exact⟨a,by rw[b,c.2]⟩
theorem af5{xs0:List Nd}{c:Tr}{q i:Nat}(m:c.mem.Nodup):∀ (w:List Nat) (xs:List Nd) (O:Cx) (U:Tr),jI xs0 xs c O U q->Way i U w->∃ f a b,jI xs0 (w.foldl jZ xs) c f (.nd a i b) q/\(fJ (w.foldl jZ xs) i).flip=false:=by
 intro w
 induction w with
 | nil =>
  intro xs O U h d
  obtain⟨_,_,_,_,e⟩:=LF d
  cases e
 | cons j w o =>
  intro xs O U h d
  obtain⟨g,k⟩:=af7 h m d
  by_cases hw0:w=[]
  . obtain⟨rfl,a,b,hm,l⟩:=g hw0
    subst hw0
    exact⟨O,a,b,hm,l⟩
  . obtain⟨f, p, hm,n⟩:=k hw0
    exact o _ _ _ hm n
theorem adg{xs:List Nd}{c:Cx}{a b:Tr}{i q:Nat}(e:gR xs (j6 c (.nd a i b)) q)(f:(j6 c (.nd a i b)).mem.Nodup){k:Nat}(hk:k=(jo c i).length):∃ O a' d, jI xs (lJ xs (jo c i) k) (j6 c (.nd a i b)) O (.nd a' i d) q/\(fJ (lJ xs (jo c i) k) i).flip=false:=by
 have:=af5 f _ xs [] _ (jI.start e) (af6 c a i b)
 unfold lJ
 rw[vt (by simp[hk])]
 exact this
theorem acF{xs:List Nd}{c:Cx}{a b:Tr}{i q:Nat}(e:gR xs (j6 c (.nd a i b)) q):∀ j∈jo c i,j<xs.length:=by
 intro j d
 refine(e.o8 j ?_).2
 rw[pW]
 refine CQ.2 ?_
 rcases zg.1 d with rfl|d
 . exact .inl (by simp[Tr.mem])
 . obtain⟨f,g,rfl⟩:=zz.1 d
   exact .inr (JX g)
theorem N7:∀ (c:Cx) (L:List Nat),c.length+L.length<=(lI c L).length
 | [],L=>by simp[lI]
 | (d,g,s) :: c,L=>by
  have:=N7 c (jX d L g s)
  rw[lI]
  cases d<;>simp only[jX,cond_true,cond_false,zw,zh]at * <;> omega
theorem acE{c:Cx}{a b:Tr}{i:Nat}:(jo c i).length=c.length+1/\c.length+1<=(j6 c (.nd a i b)).mem.length:=by
 refine⟨by simp[jo],?_⟩
 rw[pW]
 have:=N7 c (Tr.nd a i b).mem
 simp only[Tr.mem,zw,zh]at *
 omega
section
variable {xs:List Nd} {c:Cx} {q j k v s:Nat} {L:List Nat} {i:Nat}
theorem VE(h:At xs c i L q)(d:Out xs q (lI c L))(hk:(jo c i)[k]? = some v)(hs:jH xs v=(s,false)):k=c.length:=by
 have a:=Ir h d k v hk
 have b:=(zk.1 hk).1
 simp only[jo,zh,zq]at b
 by_cases h3:k<c.length
 . have:=(a.1 h3).1
   rw[hs]at this
   cases this
 . omega
theorem NY(h:At xs c i L q)(d:Out xs q (lI c L))(hk:(jo c i)[k]? = some v)(hs:jH xs v=(s,true)):k<c.length/\(jo c i)[k+1]? = some (fJ xs v).up:=by
 have a:=Ir h d k v hk
 have b:=(zk.1 hk).1
 simp only[jo,zh,zq]at b
 by_cases h3:k<c.length
 . exact⟨h3,(a.1 h3).2⟩
 . have:=a.2 o_
   rw[hs]at this
   cases this
end
abbrev gB(P:List Nat):List Int:=P.map (fun(x:Nat)=>(x:Int))
theorem J7{P:List Nat}{k j:Nat}(h:P[k]? = some j):gB (P.take k)++[(j:Int)]=gB (P.take (k+1)):=by
 rw[S7 h,gB,gB,tq]
 rfl
theorem FG{m:Nat}{P:List Nat}(h:∀ j∈P,j<m)(hm:m<=1000001):∀ y∈gB P,gZ .i64 y:=by
 intro y b
 obtain⟨j,a,rfl⟩:=zz.1 b
 have:=h j a
 show (-9223372036854775808:Int)<=_/\_<=(9223372036854775807:Int)
 omega
theorem abW{P:List Nat}{k:Nat}{x:Int}(hk:k<(gB P).length)(h:(gB P)[(gB P).length-1-k]? = some x):∃ j,P.reverse[k]? = some j/\x=(j:Int):=by
 simp only[gB,zq,z7]at h hk
 rw[List.getElem?_reverse hk]
 cases h1:P[P.length-1-k]? with
 | none=>rw[h1]at h;cases h
 | some j =>
  rw[h1]at h
  simp at h
  exact⟨j,rfl,h.symm⟩
end Go.Sx
namespace Go.Sx
open Go
instance:Inhabited (Value×List Nat):=⟨(.slice none 0 0,[])⟩
abbrev IM:=List (Int×(Value×List Nat))
def jF(e:TypeId)(m:IM):fS:=gq (m.map fun p=>ir .i64 p.2.1 e (gB p.2.2))
theorem CS{γ:Type}(m:List (Int×γ))(a:Int)(x:γ):(gx m a x).Perm ((a,x) :: iJ m a):=by
 induction m with
 | nil=>exact List.Perm.refl _
 | cons p m b =>
  obtain⟨c,y⟩:=p
  unfold gx iJ
  split
  . rename_i h
    exact List.Perm.refl _
  . rename_i h
    exact(List.Perm.cons _ b).trans (List.Perm.swap _ _ _)
theorem FC{γ:Type}{m:List (Int×γ)}{a:Int}{x:γ}(h:gV m a=some x):m.Perm ((a,x) :: iJ m a):=by
 induction m with
 | nil=>simp[gV]at h
 | cons p m d =>
  obtain⟨c,y⟩:=p
  unfold gV at h
  unfold iJ
  split at h
  . rename_i b
    rw[if_pos b]
    cases h
    rw[b]
  . rename_i b
    rw[if_neg b]
    exact(List.Perm.cons _ (d h)).trans (List.Perm.swap _ _ _)
theorem JU{γ:Type}{m:List (Int×γ)}{a:Int}(h:gV m a=none):iJ m a=m:=by
 induction m with
 | nil=>rfl
 | cons p m d =>
  obtain⟨c,y⟩:=p
  unfold gV at h
  unfold iJ
  split at h
  . cases h
  . rename_i b
    rw[if_neg b,d h]
section
variable {bs:List (World×List Nat)} {L:List fS} {w:World} {e:TypeId} {m:IM} {a:Int}
theorem St.xX{m2:IM}(h:St bs (jF e m :: L) w)(hp:m.Perm m2):St bs (jF e m2 :: L) w :=
 St.pack _ _ ((St.unpack h).perm ((hp.map _).append_right _))
theorem St.Po{p:Int×(Value×List Nat)}(h:St bs (jF e (p :: m) :: L) w):St bs (ir .i64 p.2.1 e (gB p.2.2) :: jF e m :: L) w:=by
 have a:St bs (([ir .i64 p.2.1 e (gB p.2.2)]++m.map fun p=>ir .i64 p.2.1 e (gB p.2.2))++L) w:=St.unpack h
 rw[nu]at a
 have b:=a.perm (L' := (m.map fun p=>ir .i64 p.2.1 e (gB p.2.2))++([ir .i64 p.2.1 e (gB p.2.2)]++L)) (by
  rw[<-nu,<-nu]
  exact List.Perm.append_right _ rD)
 exact(St.pack _ _ b).swap
theorem St.Iw{p:Int×(Value×List Nat)}(h:St bs (ir .i64 p.2.1 e (gB p.2.2) :: jF e m :: L) w):St bs (jF e (p :: m) :: L) w:=by
 have a:St bs ((m.map fun p=>ir .i64 p.2.1 e (gB p.2.2))++(ir .i64 p.2.1 e (gB p.2.2) :: L)) w:=St.unpack h.swap
 refine St.pack _ _ (a.perm ?_)
 show List.Perm _ (ir .i64 p.2.1 e (gB p.2.2) :: ((m.map fun p=>ir .i64 p.2.1 e (gB p.2.2))++L))
 exact ur
theorem St.YE(a:Int)(h:St bs (jF e m :: L) w):St bs (ir .i64 (fT m a).1 e (gB (fT m a).2) :: jF e (iJ m a) :: L) w:=by
 unfold fT
 cases hm:gV m a with
 | none =>
  rw[JU hm]
  exact St.En h e 1
 | some x=>exact(h.xX (FC hm)).Po
theorem St.YD{v:Value}{xs:List Nat}(h:St bs (ir .i64 v e (gB xs) :: jF e (iJ m a) :: L) w):St bs (jF e (gx m a (v,xs)) :: L) w :=
 (St.Iw (p:=(a,(v,xs))) h).xX (CS m a (v,xs)).symm
theorem St.I1(h:St bs L w):St bs (jF e [] :: L) w:=St.pack [] L h
end
theorem CU(ds:List Nat)(i:Nat):gB (ds++[i])=gB ds++[(i:Int)]:=by simp[gB]
theorem J5(ds:List Nat)(i:Nat):(gB ds).eraseIdx i=gB (ds.eraseIdx i):=by
 rw[gB,GY,GY]
 simp[gB]
end Go.Sx
namespace Go.Sx
open Go
section
variable {γ:Type}
def lX(b r:Nat)(k:IntKind)(enc:γ->Value)(m todo:List (Int×γ))(cur:Option (Int×γ)):fS where
 gJ:=[b,r]
 holds w:=∃ (es:List (Int×Value×Nat)) (a:Nat) (f:Array Nat) (c d:Nat),w.heap[b]? = some (.map (es.map (lE k)).toArray a)/\es.map (fun e=>(e.1,e.2.1))=m.map (fun p=>(p.1,enc p.2))/\(es.map (fun e=>e.2.2)).Nodup/\(∀ e∈es,e.2.2<a) /\
  w.heap[r]? = some (.mapIter (some b) c f d)/\c<=d/\c<=a/\(∀ e∈es,e.2.2<c) /\
  (es.filter fun e => !f.contains e.2.2).map (fun e=>(e.1,e.2.1))=todo.map (fun p=>(p.1,enc p.2)) /\
  ∀ p,cur=some p->d=a/\∃ (q:Array Nat) (e:Int×Value×Nat),f=q.push e.2.2/\e∈es/\e.1=p.1/\e.2.1=enc p.2
 loc w w' h hh:=by
  obtain⟨es,a,f,c,d,g,i,j,l,n,o⟩:=hh
  exact⟨es,a,f,c,d,(h b s_).trans g,i,j,l,(h r s_).trans n,o⟩
theorem YP{es:List (Int×Value×Nat)}{p:Nat->Bool}{e:Int×Value×Nat}(b:(es.map (fun e=>e.2.2)).Nodup)(a:e∈es)(hp:p e.2.2=true) :
 ∃ j,(es.filter fun x=>p x.2.2)[j]? = some e/\(es.filter fun x=>p x.2.2 && !(x.2.2==e.2.2))=(es.filter fun x=>p x.2.2).eraseIdx j:=by
 induction es with
 | nil=>simp at a
 | cons x es i =>
  simp only[kr,zx]at b
  rcases zg.1 a with rfl|a
  . refine⟨0,by simp[hp],?_⟩
    rw[vF,if_neg s_,vF,if_pos hp]
    simp only[List.eraseIdx_cons_zero]
    refine xz fun y g=>?_
    have:y.2.2≠e.2.2:=fun h=>b.1 (by rw[<-h];exact zz.2 ⟨y,g,rfl⟩)
    simp[this]
  . obtain⟨j,c,d⟩:=i b.2 a
    have f:x.2.2≠e.2.2:=fun h=>b.1 (by rw[h];exact zz.2 ⟨e,a,rfl⟩)
    by_cases hx:p x.2.2=true
    . refine⟨j+1,by rw[vF,if_pos hx];simpa using c,?_⟩
      rw[vF,if_pos (by simp[hx,f]),vF,if_pos hx,List.eraseIdx_cons_succ,d]
    . refine⟨j,by rw[vF,if_neg hx];exact c,?_⟩
      rw[vF,if_neg (by simp[hx]),vF,if_neg hx,d]
end
section
variable {γ:Type} {enc:γ->Value}
variable {r:Option Nat} {P:Program} {ops:Array Oper} {Q:Exit->Act->World->Prop} {rest l:List Oper} {n:Nat} {s s0:List (Nat×Value)} {ds:List Deferred} {w w0:World} {Nx:Value->World->Prop}
variable {d:Nat} {dd:Option Nat} {ty:TypeId} {pos:String} {af:Array Edge} {g:Option (Nat×Bool)} {x y m:Operand} {bs:List (World×List Nat)} {L L' : List fS} {t e kt:TypeId} {b rb:Nat} {k k' : IntKind} {mm todo:List (Int×γ)} {a:Int} {z v:Value} {c:γ} {cur:Option (Int×γ)}
theorem rgM(i:Nat)(x:gE ops n s g=true)(hm:ev n s m = .map (some b))(z:P.underlying t=some (.map kt e))(j:St bs L w)(h:L[i]? = some (gY b k enc mm))
 (K:∀ rb w', St bs (L.set i (lX b rb k enc mm mm none)) w' -> WL r P ops Q rest (Fr n ((d,.pointer (some ⟨rb,0,none⟩)) :: s) ds) w'):WL r P ops Q (⟨some d,.range t m,ty,pos,af,g⟩ :: rest) (Fr n s ds) w:=by
 obtain⟨es,a,l,o,u,q⟩:(gY b k enc mm).holds w:=j.own _ (zd h)
 have y:=JT j h
 refine pv (v:=.pointer (some ⟨w.heap.size,0,none⟩)) (w' := w.alloc (.mapIter (some b) a #[] a)) x rfl ?_ (K _ _ ?_)
 . simp only[execOp,hm,zy,run_range_map w t kt e b _ a z l,zp,jS]
 . refine j.iN h (gA.alloc _ w _) (fun c f=>?_) ?_ (fun c f=>?_) ?_
   . simp[lX]at f
     rcases f with rfl|rfl
     . exact .inl (by simp[gY])
     . exact .inr (zo _)
   . simp[lX];omega
   . simp[lX]at f
     simp only[World.alloc,Array.size_push]
     omega
   . exact⟨es,a,#[],a,a,(heap_alloc_old w _ y).trans l,o,u,q,heap_alloc_new w _,zo _,zo _,q,by rw[uk.2 s_];exact o,fun p hp=>by cases hp⟩
theorem St.abg{i:Nat}(e:St bs L w)(d:L[i]? = some (lX b rb k enc mm todo cur)):St bs (L.set i (gY b k enc mm)) w:=by
 obtain⟨es,f,o,n,m,g,h,j,l,_⟩:(lX b rb k enc mm todo cur).holds w:=e.own _ (zd d)
 refine e.iN d (gA.refl _ w) (fun c a=>.inl ?_) (by simp[gY]) (fun c a=>?_) ⟨es,f,g,h,j,l⟩
 . simp[gY]at a
   simp[lX,a]
 . refine e.lt c (rY d ?_)
   simp[gY]at a
   simp[lX,a]
structure Uv (P:Program) (bs:List (World×List Nat)) (L:List fS) (i b rb:Nat) (k:IntKind) (enc:γ->Value) (mm todo todo2:List (Int×γ)) (p:Int×γ) (w w' : World):Prop where
 run:∀ ty,(Instr.next (.pointer (some ⟨rb,0,none⟩)) false ty).run P w = .ok (.tuple #[.bool true,.int k p.1,enc p.2]) w'
 st:St bs (L.set i (lX b rb k enc mm todo2 (some p))) w'
 perm:todo.Perm (p :: todo2)
theorem abh(P:Program){i:Nat}(s:St bs L w)(r:L[i]? = some (lX b rb k enc mm todo cur)) :
 (todo=[]/\∀ ty,(Instr.next (.pointer (some ⟨rb,0,none⟩)) false ty).run P w = .ok (.tuple #[.bool false]) w)\/∃ p ag w', Uv P bs L i b rb k enc mm todo ag p w w' := by
 obtain⟨es,f,d,m,D,t,X,E,Y,u,F,G, H,o,h9⟩:(lX b rb k enc mm todo cur).holds w:=s.own _ (zd r)
 have hb:b<w.heap.size:=s.lt b (rY r (by simp[lX]))
 have ad:rb<w.heap.size:=s.lt rb (rY r (by simp[lX]))
 have N:b≠rb:=by
  rintro rfl
  rw[t]at u
  cases u
 have O:∀ x∈(es.map (lE k)).toArray.toList,x.born<m:=by
  intro x C
  simp at C
  obtain⟨a,v,q,hm,rfl⟩:=C
  exact H _ hm
 have B:(leftOf (es.map (lE k)).toArray d).toList=(es.filter fun e => !d.contains e.2.2).map (lE k):=by
  unfold leftOf
  simp only[Array.toList_filter,List.filter_map]
  rfl
 by_cases h0:todo=[]
 . left
   subst h0
   refine⟨rfl,fun ty=>?_⟩
   have z:(leftOf (es.map (lE k)).toArray d).size=0:=by
    rw[<-sH,B,zq]
    have:=congrArg List.length o
    simpa using this
   rcases run_next_at (P:=P) w ty rb b m D d _ f u t O F with ⟨_,h⟩|⟨e,n,_⟩
   . exact h
   . rw[Array.eq_empty_of_size_eq_zero z]at n
     simp at n
 . right
   have af:∃ e∈(leftOf (es.map (lE k)).toArray d).toList,∃ w1:World,(w1=w\/w1=w.drew)/\∀ ty,(Instr.next (.pointer (some ⟨rb,0,none⟩)) false ty).run P w = .ok (.tuple #[.bool true,e.key,e.val]) (Go.ChangeMaps.setBlock w1 rb (.mapIter (some b) m (d.push e.born) f)):=by
    rcases run_next_at (P:=P) w 0 rb b m D d _ f u t O F with ⟨z,_⟩|⟨e,n,w1,y,hr⟩
    . exfalso
      rw[<-sH,B,zq]at z
      have g:=congrArg List.length o
      rw[zq,zq,z]at g
      exact h0 (Bz.1 g.symm)
    . exact⟨e,n,w1,y,fun ty=>hr⟩
   obtain⟨e9,J,w1,y,ae⟩:=af
   rw[B]at J
   obtain⟨e,n,rfl⟩:=zz.1 J
   obtain⟨K,aa⟩:=kD.1 n
   obtain⟨j,M,ab⟩:=YP (p:=fun q => !d.contains q) E K aa
   have ah:=(zk.1 M).1
   have ac:=congrArg List.length o
   rw[zq,zq]at ac
   have hp:todo[j]? = some (todo[j]'o_):=zm o_
   generalize (todo[j]'o_)=p at hp
   have S:(e.1,e.2.1)=(p.1,enc p.2):=by
    have g:=congrArg (fun l=>l[j]?) o
    simp only[z7,M,hp,xA]at g
    exact Option.some.inj g
   have Q:e.1=p.1:=congrArg Prod.fst S
   have R:e.2.1=enc p.2:=congrArg Prod.snd S
   have T:w1.heap=w.heap:=by rcases y with rfl|rfl<;>rfl
   have Z:gA [] w w1:=by
    rcases y with rfl|rfl
    . exact gA.refl _ _
    . exact gA.drew _ _
   have I:gA (lX b rb k enc mm todo cur).gJ w (Go.ChangeMaps.setBlock w1 rb (.mapIter (some b) m (d.push e.2.2) f)) :=
    (Z.mono s_).trans ((Vw (b:=rb) w1 _).mono (by simp[lX]))
   refine⟨p,todo.eraseIdx j,Go.ChangeMaps.setBlock w1 rb (.mapIter (some b) m (d.push e.2.2) f),⟨fun ty=>?_,?_,?_⟩⟩
   . rw[ae ty]
     simp only[Q,R]
   . refine s.iN r I (fun c A=>.inl A) ?_ (fun c A=>?_) ?_
     . simp[lX,N]
     . exact oC (s.lt c (rY r A)) I.size
     . refine⟨es,f,d.push e.2.2,m,f,?_,X,E,Y,?_,G, G, H,?_,fun q hq=>?_⟩
       . show (w1.heap.setIfInBounds rb _)[b]? = _
         rw[T,Array.getElem?_setIfInBounds_ne (Ne.symm N)]
         exact t
       . show (w1.heap.setIfInBounds rb _)[rb]? = _
         rw[T]
         simp[ad]
       . have:(es.filter fun x => !(d.push e.2.2).contains x.2.2)=(es.filter fun x => !d.contains x.2.2 && !(x.2.2==e.2.2)):=by
          refine xz fun x C=>?_
          rw[Array.contains_push,Bool.not_or]
         rw[this,ab,<-E0,o,E0]
       . cases hq
         exact⟨rfl,d,e,rfl,K,Q,R⟩
   . have g:=(zk.1 hp)
     obtain⟨U,V⟩:=g
     have W:todo=todo.take j++p :: todo.drop (j+1):=by
      rw[<-V,<-Bw U,vu]
     rw[GY]
     exact(List.Perm.of_eq W).trans ur
theorem Rm{w' : World}{u:Value}(a:gE ops n s g=true)(b:ev n s x=v)(h:(Instr.next v false ty).run P w = .ok u w')(K:WL r P ops Q rest (Fr n ((d,u) :: s) ds) w'):WL r P ops Q (⟨some d,.next x false,ty,pos,af,g⟩ :: rest) (Fr n s ds) w :=
 pv a rfl (by simp only[execOp,b,zy,h,zp,jS]) K
theorem WA{p:Int×γ}(i:Nat)(q:gE ops n s g=true)(y:ev n s x = .pointer (some ⟨rb,0,none⟩))(v:St bs L w)(l:L[i]? = some (lX b rb k enc mm todo (some p)))
 (K:WL r P ops Q rest (Fr n ((d,.tuple #[.int k p.1,enc p.2]) :: s) ds) w):WL r P ops Q (⟨some d,.entry x,ty,pos,af,g⟩ :: rest) (Fr n s ds) w:=by
 obtain⟨es,B,I,z,a,c,C,f,D,h,E,F, G,H,j⟩:(lX b rb k enc mm todo (some p)).holds w:=v.own _ (zd l)
 obtain⟨rfl,A,e,rfl,o,t,u⟩:=j p rfl
 have m:=run_entry_at (P:=P) w rb b z A (es.map (lE k)).toArray a (lE k e) h c (by simp only[zz];exact⟨e,o,rfl⟩) (by rw[List.map_map];exact f)
 refine pv q rfl (by simp only[execOp,y,zy,m,zp,jS,t,u]) K
end
end Go.Sx
