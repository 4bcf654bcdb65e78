/- Plain lemmas: rules for walking through code, one for each operation, over any program; an evaluator of closed calls with its soundness; and plain mathematics. No conditions. -/
import Derived.Test.YtoceanggliccgaaGreatDoorFa
import Derived.KernelRfl
import Derived.Laws.BitsAllLaws
import Derived.Sort.Row
import Derived.Maps.RangeRun
set_option linter.unusedVariables false
set_option linter.unusedSectionVars false
set_option linter.unusedSimpArgs false
namespace Go.Sx
open Go
def Hy(P:Program):List (Nat×TypeDesc)->Prop
 | []=>True
 | p :: l=>P.underlying p.1=some p.2/\Hy P l
def allI(P:Program):List (Nat×Nat×Nat×Value)->Prop
 | []=>True
 | p :: l=>TI P p.1 p.2.1 p.2.2.1 p.2.2.2/\allI P l
class TT (P:Program) where
 mx:P.follows .mixedOrders=true
 u:List (Nat×TypeDesc)
 i:List (Nat×Nat×Nat×Value)
 kO:Hy P u
 mO:allI P i
def iX{α:Type}:List (Nat×α)->Nat->Option α
 | [],_=>none
 | p :: l,t=>bif Nat.beq p.1 t then some p.2 else iX l t
theorem kK{P:Program}:∀ {l:List (Nat×TypeDesc)} {t:Nat} {u:TypeDesc},Hy P l->iX l t=some u->P.underlying t=some u
 | [],_,_,_,h=>by simp[iX]at h
 | p :: l,t,u,hl,h=>by
  simp only[iX]at h
  cases hb:Nat.beq p.1 t with
  | true=>rw[hb]at h;simp at h;rw[<-BA hb,<-h];exact hl.1
  | false=>rw[hb]at h;exact kK hl.2 h
theorem mz{P:Program}:∀ {l:List (Nat×Nat×Nat×Value)} {t a b:Nat} {z:Value},allI P l->iX l t=some (a,b,z)->TI P t a b z
 | [],_,_,_,_,_,h=>by simp[iX]at h
 | p :: l,t,a,b,z,hl,h=>by
  simp only[iX]at h
  cases hb:Nat.beq p.1 t with
  | true=>rw[hb]at h;simp at h;have c:=hl.1;rw[h,BA hb]at c;exact c
  | false=>rw[hb]at h;exact mz hl.2 h
section
variable {P:Program}
structure SL (T:TT P) (J:World->Prop) (bs:List (World×List Nat)) (L:List fT) (N:Nat) (r:Option Nat) (ops:Array Oper) (Q:Exit->Act->World->Prop) (l:List Oper) (a:Act):Prop where
 out:∀ w,J w->St bs L w->WL r P ops Q l a w
structure SP (T:TT P) (J:World->Prop) (bs:List (World×List Nat)) (L:List fT) (N:Nat) (r:Option Nat) (Q:Exit->Act->World->Prop) (c:Code) (a:Act):Prop where
 out:∀ w,J w->St bs L w->WP r P c Q a w
structure SQ (T:TT P) (J:World->Prop) (bs:List (World×List Nat)) (L:List fT) (N:Nat) (r:Option Nat) (Q:Exit->Act->World->Prop) (e:Exit) (a:Act):Prop where
 out:∀ w,J w->St bs L w->Q e a w
def Kc(r:Option Nat)(P:Program)(Y:Code)(Q:Exit->Act->World->Prop):Act->World->Prop:=fun a w=>WP r P Y Q a w
variable {T:TT P} {J:World->Prop} {bs:List (World×List Nat)} {L L' : List fT} {r:Option Nat} {ops:Array Oper} {Q:Exit->Act->World->Prop} {rest:List Oper} {n:Nat} {s:List (Nat×Value)} {ds:List Deferred} {w w' w0:World}
variable {N d i j:Nat} {ty t:TypeId} {pos:String} {af:Array Edge} {g:Option (Nat×Bool)} {v u:Value} {x y z:Operand} {X Y:Code} {a:Act} {K' : Act->World->Prop} {l:List Oper}
theorem SP.sq(K:SP T J bs L N r (Exit.then (Kc r P Y Q) Q) X a):SP T J bs L (N+1) r Q (.seq X Y) a:=⟨fun w j h=>wpIn_seq (K.out w j h)⟩
theorem SP.rg{id:Nat}(K:SL T J bs L N r l.toArray Q l (Fr n s ds)):SP T J bs L (N+1) r Q (.region id l.toArray false) (Fr n s ds):=⟨fun w j h=>Go.Sx.rg (K.out w j h)⟩
theorem SP.Kb{id:Nat}(K:SL T (fun _=>True) bs L N r l.toArray Q l (Fr n s ds))(b:Fq l=true:=by kernel_rfl)(a:xx l=false\/NP Q:=by first|exact .inr inferInstance|exact .inl (by kernel_rfl)):SP T (fun _=>True) bs L (N+1) r Q (.region id l.toArray true) (Fr n s ds):=⟨fun w _ h=>Go.Sx.Kb T.mx h (fun w' hs=>K.out w' trivial hs) b a⟩
theorem SP.cT{c:Operand}(K:SP T J bs L N r Q X (Fr n s ds))(a:ev n s c = .bool true:=by exact rfl):SP T J bs L (N+1) r Q (.cond c X Y) (Fr n s ds):=⟨fun w j h=>US a (K.out w j h)⟩
theorem SP.cF{c:Operand}(K:SP T J bs L N r Q Y (Fr n s ds))(a:ev n s c = .bool false:=by exact rfl):SP T J bs L (N+1) r Q (.cond c X Y) (Fr n s ds):=⟨fun w j h=>UR a (K.out w j h)⟩
theorem SP.bk{id:Nat}(K:SP T J bs L N r (Exit.inBlock id Q) X (Fr n s ds)):SP T J bs L (N+1) r Q (.block id X) (Fr n s ds):=⟨fun w j h=>Go.Sx.bk (K.out w j h)⟩
theorem SP.sp(K:SQ T J bs L N r Q .normal (Fr n s ds)):SP T J bs L (N+1) r Q .skip (Fr n s ds):=⟨fun w j h=>Go.Sx.sp (K.out w j h)⟩
theorem SP.xt{id:Nat}(K:SQ T J bs L N r Q (.exit id) (Fr n s ds)):SP T J bs L (N+1) r Q (.exit id) (Fr n s ds):=⟨fun w j h=>Go.Sx.xt (K.out w j h)⟩
theorem SP.rt(K:SQ T J bs L N r Q .ret (Fr n s ds)):SP T J bs L (N+1) r Q .ret (Fr n s ds):=⟨fun w j h=>Go.Sx.rt (K.out w j h)⟩
theorem SQ.tN(K:SP T J bs L N r Q Y a):SQ T J bs L (N+1) r (Exit.then (Kc r P Y Q) Q) .normal a:=⟨fun w j h=>K.out w j h⟩
theorem SQ.tX(K:SQ T J bs L N r Q (.exit j) a):SQ T J bs L (N+1) r (Exit.then K' Q) (.exit j) a:=⟨fun w j h=>K.out w j h⟩
theorem SQ.tR(K:SQ T J bs L N r Q .ret a):SQ T J bs L (N+1) r (Exit.then K' Q) .ret a:=⟨fun w j h=>K.out w j h⟩
theorem SQ.bN(K:SQ T J bs L N r Q .normal a):SQ T J bs L (N+1) r (Exit.inBlock i Q) .normal a:=⟨fun w j h=>K.out w j h⟩
theorem SQ.bR(K:SQ T J bs L N r Q .ret a):SQ T J bs L (N+1) r (Exit.inBlock i Q) .ret a:=⟨fun w j h=>K.out w j h⟩
theorem SQ.bX(K:SQ T J bs L N r Q .normal a):SQ T J bs L (N+1) r (Exit.inBlock i Q) (.exit i) a:=⟨fun w j h=>Go.Sx.bX (K.out w j h)⟩
theorem SQ.HA(K:SQ T J bs L N r Q (.exit j) a)(b:Nat.beq j i=false:=by exact rfl):SQ T J bs L (N+1) r (Exit.inBlock i Q) (.exit j) a:=⟨fun w j h=>Go.Sx.HA b (K.out w j h)⟩
theorem SQ.Ks(K:SQ T J bs L N r Q .normal a):SQ T J bs L (N+1) r (xJ Q) .normal a:=⟨fun w j h=>Go.Sx.Ks (K.out w j h)⟩
theorem SQ.Kt(K:SQ T J bs L N r Q .ret a):SQ T J bs L (N+1) r (xJ Q) .ret a:=⟨fun w j h=>Go.Sx.Kt (K.out w j h)⟩
theorem SP.scp(K:SP T J bs L N r (xJ Q) X a):SP T J bs L (N+1) r Q (.scope X) a:=⟨fun w j h=>Go.Sx.scp (K.out w j h)⟩
theorem SP.Jj{l:Nat}(K:SQ T J bs L N r Q .normal a):SP T J bs L (N+1) r Q (.label l) a:=⟨fun w j h=>Go.Sx.Jj (K.out w j h)⟩
theorem SL.nil(K:SQ T J bs L N r Q .normal (Fr n s ds)):SL T J bs L (N+1) r ops Q [] (Fr n s ds):=⟨fun w j h=>ahg (K.out w j h)⟩
theorem SL.sk{op:Op}{g:Nat×Bool}(K:SL T J bs L N r ops Q rest (Fr n ((d,undef) :: s) ds))(a:gA ops n s (some g)=false:=by exact rfl):SL T J bs L (N+1) r ops Q (⟨some d,op,ty,pos,af,some g⟩ :: rest) (Fr n s ds):=⟨fun w j h=>Go.Sx.sk a (K.out w j h)⟩
theorem qB{R:fT}{L:List fT}:(R :: L)[0]? = some R:=rfl
theorem qC{R a:fT}{L:List fT}:(a :: R :: L)[1]? = some R:=rfl
theorem ni{R a b:fT}{L:List fT}:(a :: b :: R :: L)[2]? = some R:=rfl
theorem nj{R a b c:fT}{L:List fT}:(a :: b :: c :: R :: L)[3]? = some R:=rfl
theorem qD{R a b c d:fT}{L:List fT}:(a :: b :: c :: d :: R :: L)[4]? = some R:=rfl
theorem qE{R a b c d e:fT}{L:List fT}:(a :: b :: c :: d :: e :: R :: L)[5]? = some R:=rfl
theorem NA{k:IntKind}{a:Int}:(Value.int k a).cells.toList=[Value.int k a]:=rfl
theorem Nz{a:Bool}:(Value.bool a).cells.toList=[Value.bool a]:=rfl
theorem NB{a:Option Addr}:(Value.pointer a).cells.toList=[Value.pointer a]:=rfl
theorem NC{a:Option Addr}{m c:Nat}:(Value.slice a m c).cells.toList=[Value.slice a m c]:=rfl
theorem Ny{l:List Value}:(Value.agg l.toArray).cells.toList=l:=by simp[Value.cells]
theorem qF{R a b c d e f:fT}{L:List fT}:(a :: b :: c :: d :: e :: f :: R :: L)[6]? = some R:=rfl
theorem qG{R a b c d e f g:fT}{L:List fT}:(a :: b :: c :: d :: e :: f :: g :: R :: L)[7]? = some R:=rfl
def Bi:List Value->Nat->(List Value->Option (List Value))->Option (List Value)
 | _,0,k=>k []
 | v :: l,m+1,k=>Bi l m fun r=>k (v :: r)
 | [],_+1,_=>none
def sub' (l:List Value)(o m:Nat):Option (List Value):=Bi (l.drop o) m some
theorem KN:∀ (l:List Value) (m:Nat) (k:List Value->Option (List Value)),Bi l m k=if m<=l.length then k (l.take m)else none
 | l,0,k=>by simp[Bi]
 | v :: l,m+1,k=>by simp[Bi,KN l m]
 | [],m+1,k=>by simp[Bi]
theorem wv{l vs:List Value}{o m:Nat}(h:sub' l o m=some vs):vs.length=m:=by
 unfold sub' at h
 rw[KN]at h
 split at h
 . rename_i a
   simp at h
   rw[<-h,zy]
   omega
 . cases h
theorem yC{l vs:List Value}{o m:Nat}(h:sub' l o m=some vs):(l.drop o).take vs.length=vs:=by
 rw[wv h]
 unfold sub' at h
 rw[KN]at h
 split at h
 . simpa using h
 . cases h
theorem SL.mv  (K:SL T J bs L N r ops Q rest (Fr n ((d,v) :: s) ds)) (b:ev n s x=v:=by conv=>lhs;whnf) (a:gA ops n s g=true:=by exact rfl):SL T J bs L (N+1) r ops Q (⟨some d,.move x,ty,pos,af,g⟩ :: rest) (Fr n s ds):=⟨fun w j h=>pw a (fun _=>kC b) (K.out w j h)⟩
theorem SL.EX{α:Type}{cf:α->List Value}{xs:List α}{e e' : TypeId}{kk:IntKind}{k sz by_ i:Nat}{o:Value}(K:SL T J bs L N r ops Q rest (Fr n ((d,jP sz v k 0) :: s) ds))(l:ev n s x=v:=by conv=>lhs;whnf)(m:ev n s y = .int kk (k:Nat):=by exact rfl)(a:iX T.u t=some (.slice e):=by exact rfl)(f:iX T.i e=some (sz,by_,o):=by exact rfl)(hi:L[i]? = some (fL cf v e' sz xs):=by first|exact qB|exact qC|exact ni|exact nj|exact qD|exact qE|exact qF|exact qG)(p:Inhabited α:=by infer_instance)(c:∀ x:α,(cf x).length=sz:=by exact fun _=>rfl)(hk:k<xs.length:=by first|omega|(simp only[gC];omega))(b:gA ops n s g=true:=by exact rfl):SL T J bs L (N+1) r ops Q (⟨some d,.indexAddr t x y,ty,pos,af,g⟩ :: rest) (Fr n s ds):=⟨fun w j h=>pw b (fun _=>xA l m (kK T.kO a) (mz T.mO f) (St.xZ h hi c) o_ o_ (gB hk)) (K.out w j h)⟩
theorem SL.EI{α:Type}{cf:α->List Value}{xs:List α}{e' : TypeId}{i q k sz off off' szf byf:Nat}{zf:Value}{fields:Array Field}{f:Field}(K:SL T J bs L N r ops Q rest (Fr n ((d,jP sz v k off') :: s) ds))(o:ev n s x=jP sz v k off:=by exact rfl)(a:iX T.u t=some (.struct fields):=by exact rfl)(b:fields[i]? = some f:=by exact rfl)(m:iX T.i f.type=some (szf+1,byf,zf):=by exact rfl)(l:off+f.offset=off' := by conv=>lhs;whnf)(hi:L[q]? = some (fL cf v e' sz xs):=by first|exact qB|exact qC|exact ni|exact nj|exact qD|exact qE|exact qF|exact qG)(p:Inhabited α:=by infer_instance)(e:∀ x:α,(cf x).length=sz:=by exact fun _=>rfl)(hk:k<xs.length:=by first|omega|(simp only[gC];omega))(c:gA ops n s g=true:=by exact rfl):SL T J bs L (N+1) r ops Q (⟨some d,.fieldAddr t x i,ty,pos,af,g⟩ :: rest) (Fr n s ds):=⟨fun w j h=>pw c (fun _=>EH o (kK T.kO a) b (mz T.mO m) l (St.xZ h hi e) (gB hk)) (K.out w j h)⟩
theorem SL.AI{α:Type}{cf:α->List Value}{xs:List α}{e' : TypeId}{q k sz off:Nat}{ud:TypeDesc}{u:Value}(K:SL T J bs L N r ops Q rest (Fr n ((d,v) :: s) ds))(f:ev n s x=jP sz u k off:=by exact rfl)(a:iX T.u t=some ud:=by exact rfl)(e:j4 ud=false:=by exact rfl)(hi:L[q]? = some (fL cf u e' sz xs):=by first|exact qB|exact qC|exact ni|exact nj|exact qD|exact qE|exact qF|exact qG)(i:Inhabited α:=by infer_instance)(c:∀ x:α,(cf x).length=sz:=by exact fun _=>rfl)(hk:k<xs.length:=by first|omega|(simp only[gC];omega))(hv:(cf (fJ xs k))[off]? = some v:=by exact rfl)(b:gA ops n s g=true:=by exact rfl):SL T J bs L (N+1) r ops Q (⟨some d,.load t x,ty,pos,af,g⟩ :: rest) (Fr n s ds):=⟨fun w j h=>pv b rfl (uB f (kK T.kO a) e (St.xZ h hi c) (gB hk) hv) (K.out w j h)⟩
theorem SL.EF{i b k sz off off' szf byf:Nat}{zf:Value}{fields:Array Field}{f:Field}(K:SL T J bs L N r ops Q rest (Fr n ((d,.pointer (some ⟨b,k*sz+off', none⟩)) :: s) ds))(o:ev n s x = .pointer (some ⟨b,k*sz+off,none⟩):=by exact rfl)(a:iX T.u t=some (.struct fields):=by exact rfl)(c:fields[i]? = some f:=by exact rfl)(m:iX T.i f.type=some (szf+1,byf,zf):=by exact rfl)(l:off+f.offset=off' := by conv=>lhs;whnf)(e:gA ops n s g=true:=by exact rfl):SL T J bs L (N+1) r ops Q (⟨some d,.fieldAddr t x i,ty,pos,af,g⟩ :: rest) (Fr n s ds):=⟨fun w j h=>pw e (fun _=>r9 o (kK T.kO a) c (mz T.mO m) (by rw[<-l,kQ])) (K.out w j h)⟩
theorem SL.fa{i b o o' szf byf:Nat}{zf:Value}{fields:Array Field}{f:Field}(K:SL T J bs L N r ops Q rest (Fr n ((d,.pointer (some ⟨b,o', none⟩)) :: s) ds))(m:ev n s x = .pointer (some ⟨b,o,none⟩):=by exact rfl)(a:iX T.u t=some (.struct fields):=by exact rfl)(c:fields[i]? = some f:=by exact rfl)(l:iX T.i f.type=some (szf+1,byf,zf):=by exact rfl)(k:o+f.offset=o' := by conv=>lhs;whnf)(e:gA ops n s g=true:=by exact rfl):SL T J bs L (N+1) r ops Q (⟨some d,.fieldAddr t x i,ty,pos,af,g⟩ :: rest) (Fr n s ds):=⟨fun w j h=>pw e (fun _=>r9 m (kK T.kO a) c (mz T.mO l) k) (K.out w j h)⟩
theorem SL.ld{b o i:Nat}{a:TypeId}{cs:List Value}{ud:TypeDesc}(K:SL T J bs L N r ops Q rest (Fr n ((d,v) :: s) ds))(k:ev n s x = .pointer (some ⟨b,o,none⟩):=by exact rfl)(c:iX T.u t=some ud:=by exact rfl)(f:j4 ud=false:=by exact rfl)(hi:L[i]? = some (blk b a cs):=by first|exact qB|exact qC|exact ni|exact nj|exact qD|exact qE|exact qF|exact qG)(hv:cs[o]? = some v:=by exact rfl)(e:gA ops n s g=true:=by exact rfl):SL T J bs L (N+1) r ops Q (⟨some d,.load t x,ty,pos,af,g⟩ :: rest) (Fr n s ds):=⟨fun w j h=>pv e rfl (kU k (kK T.kO c) f (h.ru hi hv)) (K.out w j h)⟩
theorem SL.Cs{α:Type}{cf:α->List Value}{xs:List α}{b k sz off i:Nat}{a:TypeId}{ud:TypeDesc}(K:SL T J bs L N r ops Q rest (Fr n ((d,v) :: s) ds))(m:ev n s x = .pointer (some ⟨b,k*sz+off,none⟩):=by exact rfl)(c:iX T.u t=some ud:=by exact rfl)(l:j4 ud=false:=by exact rfl)(hi:L[i]? = some (blk b a (xs.flatMap cf)):=by first|exact qB|exact qC|exact ni|exact nj|exact qD|exact qE|exact qF|exact qG)(o:Inhabited α:=by infer_instance)(f:∀ x:α,(cf x).length=sz:=by exact fun _=>rfl)(hk:k<xs.length:=by first|omega|(simp only[gC];omega))(hv:(cf (fJ xs k))[off]? = some v:=by exact rfl)(e:gA ops n s g=true:=by exact rfl):SL T J bs L (N+1) r ops Q (⟨some d,.load t x,ty,pos,af,g⟩ :: rest) (Fr n s ds):=⟨fun w j h=>pv e rfl (kU m (kK T.kO c) l (St.J6 h hi f hk hv)) (K.out w j h)⟩
theorem SL.Cu{b o:Nat}{a:TypeId}{cs:List Value}{ud:TypeDesc}(K:SL T J bs L N r ops Q rest (Fr n ((d,v) :: s) ds))(i:ev n s x = .pointer (some ⟨b,o,none⟩):=by exact rfl)(c:iX T.u t=some ud:=by exact rfl)(f:j4 ud=false:=by exact rfl)(hi:(blk b a cs).holds w0:=by assumption)(hb:(w0,[])∈bs:=by simp)(hv:cs[o]? = some v:=by exact rfl)(e:gA ops n s g=true:=by exact rfl):SL T J bs L (N+1) r ops Q (⟨some d,.load t x,ty,pos,af,g⟩ :: rest) (Fr n s ds):=⟨fun w j h=>pv e rfl (kU i (kK T.kO c) f (St.Ki h hb hi hv)) (K.out w j h)⟩
theorem SL.Cy{α:Type}{cf:α->List Value}{xs:List α}{b k sz off:Nat}{a:TypeId}{ud:TypeDesc}(K:SL T J bs L N r ops Q rest (Fr n ((d,v) :: s) ds))(l:ev n s x = .pointer (some ⟨b,k*sz+off,none⟩):=by exact rfl)(c:iX T.u t=some ud:=by exact rfl)(i:j4 ud=false:=by exact rfl)(hi:(blk b a (xs.flatMap cf)).holds w0:=by assumption)(m:Inhabited α:=by infer_instance)(hb:(w0,[])∈bs:=by simp)(f:∀ x:α,(cf x).length=sz:=by exact fun _=>rfl)(hk:k<xs.length:=by first|omega|(simp only[gC];omega))(hv:(cf (fJ xs k))[off]? = some v:=by exact rfl)(e:gA ops n s g=true:=by exact rfl):SL T J bs L (N+1) r ops Q (⟨some d,.load t x,ty,pos,af,g⟩ :: rest) (Fr n s ds):=⟨fun w j h=>pv e rfl (kU l (kK T.kO c) i (St.R5 h hb hi f hk hv)) (K.out w j h)⟩
theorem SL.r8  (K:SL T J bs L N r ops Q rest (Fr n ((d,v) :: s) ds)) (b:ev n s x=v:=by conv=>lhs;whnf) (a:gA ops n s g=true:=by exact rfl):SL T J bs L (N+1) r ops Q (⟨some d,.assign x,ty,pos,af,g⟩ :: rest) (Fr n s ds):=⟨fun w j h=>pw a (fun _=>sW b) (K.out w j h)⟩
theorem SL.rH{p:Addr}(K:SL T J bs L N r ops Q rest (Fr n ((d,.pointer (some p)) :: s) ds))(b:ev n s x = .pointer (some p):=by exact rfl)(a:gA ops n s g=true:=by exact rfl):SL T J bs L (N+1) r ops Q (⟨some d,.nilCheck x,ty,pos,af,g⟩ :: rest) (Fr n s ds):=⟨fun w j h=>pw a (fun _=>vW b) (K.out w j h)⟩
theorem SL.cmp{op:BinOp}{t' : TypeId}{k:IntKind}{a b:Int}{c:Bool}(K:SL T J bs L N r ops Q rest (Fr n ((d,.bool c) :: s) ds))(i:ev n s x = .int k a:=by exact rfl)(l:ev n s y = .int k b:=by exact rfl)(e:kA op a b=some c:=by first|exact qH (by first|assumption|exact rfl|decide)|exact uo (by first|assumption|exact rfl|decide)|exact oF (by first|assumption|exact rfl|decide)|exact kT (by first|assumption|exact rfl|decide)|exact um (by first|assumption|exact rfl|decide)|exact Ef (by first|assumption|exact rfl|decide)|exact Ee (by first|assumption|exact rfl|decide)|exact oH (by first|assumption|exact rfl|decide)|exact HE (by first|assumption|exact rfl|decide)|exact nX (by first|assumption|exact rfl|decide)|exact nk (by first|assumption|exact rfl|decide)|exact oG (by first|assumption|exact rfl|decide))(f:gA ops n s g=true:=by exact rfl):SL T J bs L (N+1) r ops Q (⟨some d,.binOp op t x y t', ty,pos,af,g⟩ :: rest) (Fr n s ds):=⟨fun w j h=>pw f (fun _=>HT i l e) (K.out w j h)⟩
theorem SL.ar{op:BinOp}{t' : TypeId}{k:IntKind}{a b c e:Int}(K:SL T J bs L N r ops Q rest (Fr n ((d,.int k e) :: s) ds))(m:ev n s x = .int k a:=by exact rfl)(o:ev n s y = .int k b:=by exact rfl)(f:B3 op a b=some c:=by exact rfl)(l:k.wrap c=e:=by first|exact ot o_|exact F5 o_|exact Tw o_|exact w32u o_)(i:gA ops n s g=true:=by exact rfl):SL T J bs L (N+1) r ops Q (⟨some d,.binOp op t x y t', ty,pos,af,g⟩ :: rest) (Fr n s ds):=⟨fun w j h=>pw i (fun _=>B4 m o f l) (K.out w j h)⟩
theorem SL.ex{i:Nat}{vs:Array Value}(K:SL T J bs L N r ops Q rest (Fr n ((d,v) :: s) ds))(b:ev n s x = .tuple vs:=by exact rfl)(hv:vs[i]? = some v:=by exact rfl)(a:gA ops n s g=true:=by exact rfl):SL T J bs L (N+1) r ops Q (⟨some d,.extract x i,ty,pos,af,g⟩ :: rest) (Fr n s ds):=⟨fun w j h=>pw a (fun _=>EE b hv) (K.out w j h)⟩
theorem SL.EW{e:TypeId}{kk:IntKind}{b m c k sz by_:Nat}{v:Value}(K:SL T J bs L N r ops Q rest (Fr n ((d,.pointer (some ⟨b,k*sz+0,none⟩)) :: s) ds))(p:ev n s x = .slice (some ⟨b,0,none⟩) m c:=by exact rfl)(q:ev n s y = .int kk (k:Nat):=by exact rfl)(f:iX T.u t=some (.slice e):=by exact rfl)(o:iX T.i e=some (sz,by_,v):=by exact rfl)(a:(k:Int)<m:=by first|omega|(simp only[gC];omega))(l:gA ops n s g=true:=by exact rfl):SL T J bs L (N+1) r ops Q (⟨some d,.indexAddr t x y,ty,pos,af,g⟩ :: rest) (Fr n s ds):=⟨fun w j h=>pw l (fun _=>I9 p q (kK T.kO f) (mz T.mO o) ⟨o_,a⟩ s_) (K.out w j h)⟩
theorem SL.iD{α:Type}{cf:α->List Value}{xs:List α}{ok:Nat->Prop}{c:α}{e:TypeId}{kk:IntKind}{k sz by_:Nat}{o:Value}(K:SL T J bs L N r ops Q rest (Fr n ((d,jP sz v k 0) :: s) ds))(l:ev n s x=v:=by conv=>lhs;whnf)(m:ev n s y = .int kk (k:Nat):=by exact rfl)(a:iX T.u t=some (.slice e):=by exact rfl)(f:iX T.i e=some (sz,by_,o):=by exact rfl)(hi:gU sz cf ok w0 v xs:=by assumption)(hk:xs[k]? = some c:=by first|assumption|exact rfl|exact gB (by first|omega|(simp only[gC];omega)))(b:gA ops n s g=true:=by exact rfl):SL T J bs L (N+1) r ops Q (⟨some d,.indexAddr t x y,ty,pos,af,g⟩ :: rest) (Fr n s ds):=⟨fun w j h=>pw b (fun _=>xA l m (kK T.kO a) (mz T.mO f) hi o_ o_ hk) (K.out w j h)⟩
theorem SL.EG{α:Type}{cf:α->List Value}{xs:List α}{ok:Nat->Prop}{c:α}{i k sz off off' szf byf:Nat}{zf:Value}{fields:Array Field}{f:Field}(K:SL T J bs L N r ops Q rest (Fr n ((d,jP sz v k off') :: s) ds))(o:ev n s x=jP sz v k off:=by exact rfl)(a:iX T.u t=some (.struct fields):=by exact rfl)(b:fields[i]? = some f:=by exact rfl)(m:iX T.i f.type=some (szf+1,byf,zf):=by exact rfl)(l:off+f.offset=off' := by conv=>lhs;whnf)(hi:gU sz cf ok w0 v xs:=by assumption)(hk:xs[k]? = some c:=by first|assumption|exact rfl|exact gB (by first|omega|(simp only[gC];omega)))(e:gA ops n s g=true:=by exact rfl):SL T J bs L (N+1) r ops Q (⟨some d,.fieldAddr t x i,ty,pos,af,g⟩ :: rest) (Fr n s ds):=⟨fun w j h=>pw e (fun _=>EH o (kK T.kO a) b (mz T.mO m) l hi hk) (K.out w j h)⟩
theorem SL.iY{α:Type}{cf:α->List Value}{xs:List α}{ok:Nat->Prop}{c:α}{k sz off:Nat}{ud:TypeDesc}{u:Value}(K:SL T J bs L N r ops Q rest (Fr n ((d,v) :: s) ds))(f:ev n s x=jP sz u k off:=by exact rfl)(a:iX T.u t=some ud:=by exact rfl)(e:j4 ud=false:=by exact rfl)(hi:gU sz cf ok w0 u xs:=by assumption)(hb:(w0,[])∈bs:=by simp)(i:0<sz:=by decide)(hk:xs[k]? = some c:=by first|assumption|exact rfl|exact gB (by first|omega|(simp only[gC];omega)))(hv:(cf c)[off]? = some v:=by exact rfl)(b:gA ops n s g=true:=by exact rfl):SL T J bs L (N+1) r ops Q (⟨some d,.load t x,ty,pos,af,g⟩ :: rest) (Fr n s ds):=⟨fun w j h=>pv b rfl (uB f (kK T.kO a) e (St.CU h hb i hi) hk hv) (K.out w j h)⟩
theorem SL.su{b o i sz by_:Nat}{m:Value}{a:TypeId}{cs vs:List Value}{ud:TypeDesc}(K:SL T J bs L N r ops Q rest (Fr n ((d,.agg vs.toArray) :: s) ds))(l:ev n s x = .pointer (some ⟨b,o,none⟩):=by exact rfl)(c:iX T.u t=some ud:=by exact rfl)(f:j4 ud=true:=by exact rfl)(k:iX T.i t=some (sz,by_,m):=by exact rfl)(hi:L[i]? = some (blk b a cs):=by first|exact qB|exact qC|exact ni|exact nj|exact qD|exact qE|exact qF|exact qG)(hv:sub' cs o sz=some vs:=by exact rfl)(e:gA ops n s g=true:=by exact rfl):SL T J bs L (N+1) r ops Q (⟨some d,.load t x,ty,pos,af,g⟩ :: rest) (Fr n s ds):=⟨fun w j h=>pv e rfl (tj l (kK T.kO c) f (mz T.mO k) (wv hv) (h.HD hi (yC hv))) (K.out w j h)⟩
theorem SL.Cw{b o sz by_:Nat}{m:Value}{a:TypeId}{cs vs:List Value}{ud:TypeDesc}(K:SL T J bs L N r ops Q rest (Fr n ((d,.agg vs.toArray) :: s) ds))(l:ev n s x = .pointer (some ⟨b,o,none⟩):=by exact rfl)(c:iX T.u t=some ud:=by exact rfl)(f:j4 ud=true:=by exact rfl)(k:iX T.i t=some (sz,by_,m):=by exact rfl)(hi:(blk b a cs).holds w0:=by assumption)(hb:(w0,[])∈bs:=by simp)(hv:sub' cs o sz=some vs:=by exact rfl)(e:gA ops n s g=true:=by exact rfl):SL T J bs L (N+1) r ops Q (⟨some d,.load t x,ty,pos,af,g⟩ :: rest) (Fr n s ds):=⟨fun w j h=>pv e rfl (tj l (kK T.kO c) f (mz T.mO k) (wv hv) (St.adj h hb hi (yC hv))) (K.out w j h)⟩
theorem SL.Ct{α:Type}{cf:α->List Value}{xs:List α}{b k sz off i a by_:Nat}{q:Value}{c:TypeId}{vs:List Value}{ud:TypeDesc}(K:SL T J bs L N r ops Q rest (Fr n ((d,.agg vs.toArray) :: s) ds))(p:ev n s x = .pointer (some ⟨b,k*sz+off,none⟩):=by exact rfl)(e:iX T.u t=some ud:=by exact rfl)(m:j4 ud=true:=by exact rfl)(o:iX T.i t=some (a, by_,q):=by exact rfl)(hi:L[i]? = some (blk b c (xs.flatMap cf)):=by first|exact qB|exact qC|exact ni|exact nj|exact qD|exact qE|exact qF|exact qG)(v:Inhabited α:=by infer_instance)(l:∀ x:α,(cf x).length=sz:=by exact fun _=>rfl)(hk:k<xs.length:=by first|omega|(simp only[gC];omega))(hv:sub' (cf (fJ xs k)) off a = some vs:=by exact rfl)(f:gA ops n s g=true:=by exact rfl):SL T J bs L (N+1) r ops Q (⟨some d,.load t x,ty,pos,af,g⟩ :: rest) (Fr n s ds):=⟨fun w j h=>pv f rfl (tj p (kK T.kO e) m (mz T.mO o) (wv hv) (St.acV h hi l hk (yC hv))) (K.out w j h)⟩
theorem SL.Cz{α:Type}{cf:α->List Value}{xs:List α}{b k sz off a by_:Nat}{q:Value}{c:TypeId}{vs:List Value}{ud:TypeDesc}(K:SL T J bs L N r ops Q rest (Fr n ((d,.agg vs.toArray) :: s) ds))(p:ev n s x = .pointer (some ⟨b,k*sz+off,none⟩):=by exact rfl)(e:iX T.u t=some ud:=by exact rfl)(m:j4 ud=true:=by exact rfl)(o:iX T.i t=some (a, by_,q):=by exact rfl)(hi:(blk b c (xs.flatMap cf)).holds w0:=by assumption)(v:Inhabited α:=by infer_instance)(hb:(w0,[])∈bs:=by simp)(l:∀ x:α,(cf x).length=sz:=by exact fun _=>rfl)(hk:k<xs.length:=by first|omega|(simp only[gC];omega))(hv:sub' (cf (fJ xs k)) off a = some vs:=by exact rfl)(f:gA ops n s g=true:=by exact rfl):SL T J bs L (N+1) r ops Q (⟨some d,.load t x,ty,pos,af,g⟩ :: rest) (Fr n s ds):=⟨fun w j h=>pv f rfl (tj p (kK T.kO e) m (mz T.mO o) (wv hv) (St.adk h hb hi l hk (yC hv))) (K.out w j h)⟩
theorem SL.E1{α:Type}{cf:α->List Value}{xs:List α}{e' : TypeId}{q k sz off a by_:Nat}{o:Value}{vs:List Value}{ud:TypeDesc}{u:Value}(K:SL T J bs L N r ops Q rest (Fr n ((d,.agg vs.toArray) :: s) ds))(m:ev n s x=jP sz u k off:=by exact rfl)(b:iX T.u t=some ud:=by exact rfl)(f:j4 ud=true:=by exact rfl)(l:iX T.i t=some (a, by_,o):=by exact rfl)(hi:L[q]? = some (fL cf u e' sz xs):=by first|exact qB|exact qC|exact ni|exact nj|exact qD|exact qE|exact qF|exact qG)(p:Inhabited α:=by infer_instance)(e:∀ x:α,(cf x).length=sz:=by exact fun _=>rfl)(hk:k<xs.length:=by first|omega|(simp only[gC];omega))(hv:sub' (cf (fJ xs k)) off a = some vs:=by exact rfl)(c:gA ops n s g=true:=by exact rfl):SL T J bs L (N+1) r ops Q (⟨some d,.load t x,ty,pos,af,g⟩ :: rest) (Fr n s ds):=⟨fun w j h=>pv c rfl (Qn m (kK T.kO b) f (mz T.mO l) (St.xZ h hi e) (gB hk) (wv hv) (yC hv)) (K.out w j h)⟩
theorem SL.E0{α:Type}{cf:α->List Value}{xs:List α}{ok:Nat->Prop}{c:α}{k sz off a by_:Nat}{p:Value}{vs:List Value}{ud:TypeDesc}{u:Value}(K:SL T J bs L N r ops Q rest (Fr n ((d,.agg vs.toArray) :: s) ds))(m:ev n s x=jP sz u k off:=by exact rfl)(b:iX T.u t=some ud:=by exact rfl)(f:j4 ud=true:=by exact rfl)(l:iX T.i t=some (a, by_,p):=by exact rfl)(hi:gU sz cf ok w0 u xs:=by assumption)(hb:(w0,[])∈bs:=by simp)(o:0<sz:=by decide)(hk:xs[k]? = some c:=by first|assumption|exact rfl|exact gB (by first|omega|(simp only[gC];omega)))(hv:sub' (cf c) off a = some vs:=by exact rfl)(e:gA ops n s g=true:=by exact rfl):SL T J bs L (N+1) r ops Q (⟨some d,.load t x,ty,pos,af,g⟩ :: rest) (Fr n s ds):=⟨fun w j h=>pv e rfl (Qn m (kK T.kO b) f (mz T.mO l) (St.CU h hb o hi) hk (wv hv) (yC hv)) (K.out w j h)⟩
theorem SL.cv{k k' : IntKind}{ud:TypeDesc}{a e:Int}{t' : TypeId}(K:SL T J bs L N r ops Q rest (Fr n ((d,.int k' e) :: s) ds))(l:ev n s x = .int k a:=by exact rfl)(b:iX T.u t=some ud:=by exact rfl)(c:iX T.u t' = some (.int k'):=by exact rfl)(i:k'.wrap a=e:=by first|exact ot o_|exact F5 o_|exact Tw o_|exact w32u o_)(f:gA ops n s g=true:=by exact rfl):SL T J bs L (N+1) r ops Q (⟨some d,.convert t t' x,ty,pos,af,g⟩ :: rest) (Fr n s ds):=⟨fun w j h=>pw f (fun _=>VL l (kK T.kO b) (kK T.kO c) i) (K.out w j h)⟩
theorem SL.not{b:Bool}(K:SL T J bs L N r ops Q rest (Fr n ((d,.bool !b) :: s) ds))(c:ev n s x = .bool b:=by exact rfl)(a:gA ops n s g=true:=by exact rfl):SL T J bs L (N+1) r ops Q (⟨some d,.unOp .not t x,ty,pos,af,g⟩ :: rest) (Fr n s ds):=⟨fun w j h=>pw a (fun _=>Q2 c rfl) (K.out w j h)⟩
theorem SL.pT  (K:SL T J bs L N r ops Q rest (Fr n ((d,v) :: s) ds)) (a:ev n s x = .bool true:=by exact rfl) (c:ev n s y=v:=by conv=>lhs;whnf) (b:gA ops n s g=true:=by exact rfl):SL T J bs L (N+1) r ops Q (⟨some d,.pick x y z,ty,pos,af,g⟩ :: rest) (Fr n s ds):=⟨fun w j h=>pw b (fun _=>Ru a c) (K.out w j h)⟩
theorem SL.pF  (K:SL T J bs L N r ops Q rest (Fr n ((d,v) :: s) ds)) (a:ev n s x = .bool false:=by exact rfl) (c:ev n s z=v:=by conv=>lhs;whnf) (b:gA ops n s g=true:=by exact rfl):SL T J bs L (N+1) r ops Q (⟨some d,.pick x y z,ty,pos,af,g⟩ :: rest) (Fr n s ds):=⟨fun w j h=>pw b (fun _=>Rt a c) (K.out w j h)⟩
theorem SL.FJ{b o i sz by_:Nat}{q:Value}{a:TypeId}{cs cs' vs:List Value}(K:SL T (fun _=>True) bs L' N r ops Q rest (Fr n s ds))(m:ev n s x = .pointer (some ⟨b,o,none⟩):=by exact rfl)
 (hv:ev n s y=v:=by conv=>lhs;whnf) (p:v.cells.toList=vs:=by first|exact NA|exact Nz|exact NB|exact NC|exact Ny|exact cNilF|exact cMap|exact rfl) (l:iX T.i t=some (sz,by_,q):=by exact rfl) (k:vs.length=sz:=by exact rfl) (h1:vs.all (·.oneCell')=true:=by exact rfl) (hi:L[i]? = some (blk b a cs):=by first|exact qB|exact qC|exact ni|exact nj|exact qD|exact qE|exact qF|exact qG)
 (e:Nat.ble (o+vs.length) cs.length=true:=by exact rfl) (hcs:setAt cs o vs=cs' := by dsimp only[setAt,List.take,List.drop,List.length,List.append,HAppend.hAppend,Append.append]<;>exact rfl) (d:L.set i (blk b a cs')=L' := by dsimp only[List.set]<;>exact rfl) (f:gA ops n s g=true:=by exact rfl) :
 SL T (fun _=>True) bs L (N+1) r ops Q (⟨none,.store t x y,ty,pos,af,g⟩ :: rest) (Fr n s ds):=⟨fun w j h=>Go.Sx.FJ i f m hv p (mz T.mO l) k h1 h hi e hcs d fun w' c => K.out w' trivial c⟩
theorem run{p q:Prop} (h:p->q:=by
 intro h
 repeat (first
  | refine SP.sq ?_|refine SP.rg ?_|refine SP.Kb ?_|refine SL.mv ?_|refine SL.nil ?_|refine SQ.tN ?_|refine SL.EX ?_|refine SL.EI ?_|refine SL.AI ?_|refine SL.EF ?_|refine SL.fa ?_|refine SL.ld ?_|refine SL.Cs ?_|refine SL.Cu ?_|refine SL.Cy ?_|refine SL.r8 ?_|refine SL.rH ?_|refine SL.cmp ?_|refine SP.cT ?_|refine SP.cF ?_|refine SL.ar ?_|refine SL.ex ?_|refine SL.EW ?_|refine SL.iD ?_|refine SL.EG ?_|refine SL.iY ?_|refine SL.su ?_|refine SL.Cw ?_|refine SL.Ct ?_|refine SL.Cz ?_|refine SL.E1 ?_|refine SL.E0 ?_|refine SL.cv ?_|refine SL.not ?_|refine SL.pT ?_|refine SL.pF ?_|refine SL.jx ?_|refine SL.ixG ?_|refine SL.fldG ?_|refine SL.len ?_|refine SL.nP ?_|refine SL.eP ?_|refine SL.FJ ?_|refine SL.sk ?_|refine SL.skN ?_|refine SP.bk ?_|refine SP.sp ?_|refine SP.xt ?_|refine SP.rt ?_|refine SQ.tX ?_|refine SQ.tR ?_|refine SQ.bN ?_|refine SQ.bR ?_|refine SQ.bX ?_|refine SQ.HA ?_|refine SP.scp ?_|refine SQ.Ks ?_|refine SQ.scX ?_|refine SQ.Kt ?_|refine SP.Jj ?_)
 exact h):p->q:=h
variable {ops' : Array Oper} {Q' : Exit->Act->World->Prop} {l' : List Oper} {a' : Act} {c c' : Code} {e e' : Exit}
theorem gI[T:TT P](b:St bs L w)(N:Nat)(k:∀ w', St bs L' w' -> WL r P ops' Q' l' a' w')(h:SL T (fun _=>True) bs L' 0 r ops' Q' l' a' -> SL T (fun _=>True) bs L N r ops Q l a:=by exact run):WL r P ops Q l a w:=(h ⟨fun w' _ hs=>k w' hs⟩).out w trivial b
theorem fK[T:TT P](b:St bs L w)(N:Nat)(k:WL r P ops' Q' l' a' w)(h:SL T (fun x=>x=w) bs L 0 r ops' Q' l' a' -> SL T (fun x=>x=w) bs L N r ops Q l a:=by exact run):WL r P ops Q l a w:=(h ⟨fun w' j _=>by subst j;exact k⟩).out w rfl b
theorem tE[T:TT P](b:St bs L w)(N:Nat)(k:∀ w', St bs L' w' -> WP r P c' Q' a' w')(h:SP T (fun _=>True) bs L' 0 r Q' c' a' -> SL T (fun _=>True) bs L N r ops Q l a:=by exact run):WL r P ops Q l a w:=(h ⟨fun w' _ hs=>k w' hs⟩).out w trivial b
theorem gE[T:TT P](b:St bs L w)(N:Nat)(k:WP r P c' Q' a' w)(h:SP T (fun x=>x=w) bs L 0 r Q' c' a' -> SL T (fun x=>x=w) bs L N r ops Q l a:=by exact run):WL r P ops Q l a w:=(h ⟨fun w' j _=>by subst j;exact k⟩).out w rfl b
theorem jT[T:TT P](b:St bs L w)(N:Nat)(k:∀ w', St bs L' w' -> Q' e' a' w')(h:SQ T (fun _=>True) bs L' 0 r Q' e' a' -> SL T (fun _=>True) bs L N r ops Q l a:=by exact run):WL r P ops Q l a w:=(h ⟨fun w' _ hs=>k w' hs⟩).out w trivial b
theorem fQ[T:TT P](b:St bs L w)(N:Nat)(k:Q' e' a' w)(h:SQ T (fun x=>x=w) bs L 0 r Q' e' a' -> SL T (fun x=>x=w) bs L N r ops Q l a:=by exact run):WL r P ops Q l a w:=(h ⟨fun w' j _=>by subst j;exact k⟩).out w rfl b
theorem nI[T:TT P](b:St bs L w)(N:Nat)(k:∀ w', St bs L' w' -> WL r P ops' Q' l' a' w')(h:SL T (fun _=>True) bs L' 0 r ops' Q' l' a' -> SP T (fun _=>True) bs L N r Q c a:=by exact run):WP r P c Q a w:=(h ⟨fun w' _ hs=>k w' hs⟩).out w trivial b
theorem fR[T:TT P](b:St bs L w)(N:Nat)(k:WL r P ops' Q' l' a' w)(h:SL T (fun x=>x=w) bs L 0 r ops' Q' l' a' -> SP T (fun x=>x=w) bs L N r Q c a:=by exact run):WP r P c Q a w:=(h ⟨fun w' j _=>by subst j;exact k⟩).out w rfl b
theorem qg[T:TT P](b:St bs L w)(N:Nat)(k:WP r P c' Q' a' w)(h:SP T (fun x=>x=w) bs L 0 r Q' c' a' -> SP T (fun x=>x=w) bs L N r Q c a:=by exact run):WP r P c Q a w:=(h ⟨fun w' j _=>by subst j;exact k⟩).out w rfl b
theorem iH[T:TT P](b:St bs L w)(N:Nat)(k:Q' e' a' w)(h:SQ T (fun x=>x=w) bs L 0 r Q' e' a' -> SP T (fun x=>x=w) bs L N r Q c a:=by exact run):WP r P c Q a w:=(h ⟨fun w' j _=>by subst j;exact k⟩).out w rfl b
theorem Kq(T:TT P)(r:Option Nat)(b:St bs L w)(N:Nat)(k:∀ w', St bs L' w' -> WL r P ops' Q' l' a' w')(h:SL T (fun _=>True) bs L' 0 r ops' Q' l' a' -> SQ T (fun _=>True) bs L N r Q e a:=by exact run):Q e a w:=(h ⟨fun w' _ hs=>k w' hs⟩).out w trivial b
theorem CP(T:TT P)(r:Option Nat)(b:St bs L w)(N:Nat)(k:WL r P ops' Q' l' a' w)(h:SL T (fun x=>x=w) bs L 0 r ops' Q' l' a' -> SQ T (fun x=>x=w) bs L N r Q e a:=by exact run):Q e a w:=(h ⟨fun w' j _=>by subst j;exact k⟩).out w rfl b
theorem sQP(T:TT P)(r:Option Nat)(b:St bs L w)(N:Nat)(k:∀ w', St bs L' w' -> WP r P c' Q' a' w')(h:SP T (fun _=>True) bs L' 0 r Q' c' a' -> SQ T (fun _=>True) bs L N r Q e a:=by exact run):Q e a w:=(h ⟨fun w' _ hs=>k w' hs⟩).out w trivial b
theorem Fs(T:TT P)(r:Option Nat)(b:St bs L w)(N:Nat)(k:WP r P c' Q' a' w)(h:SP T (fun x=>x=w) bs L 0 r Q' c' a' -> SQ T (fun x=>x=w) bs L N r Q e a:=by exact run):Q e a w:=(h ⟨fun w' j _=>by subst j;exact k⟩).out w rfl b
theorem sQQ(T:TT P)(r:Option Nat)(b:St bs L w)(N:Nat)(k:∀ w', St bs L' w' -> Q' e' a' w')(h:SQ T (fun _=>True) bs L' 0 r Q' e' a' -> SQ T (fun _=>True) bs L N r Q e a:=by exact run):Q e a w:=(h ⟨fun w' _ hs=>k w' hs⟩).out w trivial b
theorem qO(T:TT P)(r:Option Nat)(b:St bs L w)(N:Nat)(k:Q' e' a' w)(h:SQ T (fun x=>x=w) bs L 0 r Q' e' a' -> SQ T (fun x=>x=w) bs L N r Q e a:=by exact run):Q e a w:=(h ⟨fun w' j _=>by subst j;exact k⟩).out w rfl b
end
end Go.Sx
namespace Go.Sx
open Go
section
variable {P:Program} {ops:Array Oper} {n:Nat} {o:Oper} {s sA sE:List (Nat×Value)} {v:Value} {w w0 w1:World} {C:World->Prop}
def Rd(P:Program)(ops:Array Oper)(n:Nat)(o:Oper)(s:List (Nat×Value))(v:Value)(I:World->Prop):Prop:=∀ w,I w->mh P ops n o s v I w
def RA(P:Program)(ops:Array Oper)(n:Nat)(I:World->Prop):Nat->List Oper->List (Nat×Value)->List Value->List (Nat×Value)->List Oper->Prop
 | 0,l,s,[],sE,R=>s=sE/\l=R
 | m+1,o :: l,s,v :: vs,sE,R=>Rd P ops n o s v I/\RA P ops n I m l (kz o.dst v s) vs sE R
 | _,_,_,_,_,_=>False
def UH(e:Edge):Bool:=match e.ground with
 | .textOnly _=>false
 | .gcOnly _=>false
 | _=>true
def Ej(l:List Oper):List (List Nat) :=
 l.foldl (fun b o=>b++[o.after.toList.foldl (fun a e=>bif UH e then a++(e.on :: b.getD e.on []).filter (fun x => !a.contains x)else a) []]) []
end
section
variable {Γ:Type} {r:Option Nat} {P:Program} {Q:Exit->Act->World->Prop} {n:Nat} {ds:List Deferred} {l l0:List Oper} {ops:Array Oper} {pre:List (List Nat)}
theorem ad2{S:Nat->Bool}{v:Value}{vs:List Value}{o:Oper}{l:List Oper}{s:List (Nat×Value)}(h:∀ i,S i=true):∀ i,iN S i (o :: l) (v :: vs) s=iN S (i+1) l vs (kz o.dst v s):=by
 intro i;simp[iN,h i]
theorem RA.sl{I:World->Prop}:∀ {m:Nat} {l:List Oper} {s:List (Nat×Value)} {vs vr:List Value} {sE:List (Nat×Value)} {R:List Oper} {i:Nat},RA P ops n I m l s vs sE R->iN (fun _=>true) i l (vs++vr) s=iN (fun _=>true) (i+m) R vr sE
 | 0,l,s,[],vr,sE,R,i,h=>by rw[h.1,h.2];rfl
 | m+1,o :: l,s,v :: vs,vr,sE,R,i,h=>by
  rw[nw,ad2 (fun _=>rfl),RA.sl h.2,show i+1+m=i+(m+1) by omega]
 | 0,_,_,_ :: _,_,_,_,_,h=>h.elim
 | m+1,[],_,_,_,_,_,_,h=>h.elim
 | m+1,_ :: _,_,[],_,_,_,_,h=>h.elim
theorem VV{id:Nat}{w:World}{a:World->Prop}{s sE:List (Nat×Value)}{vA:List Value}(f:P.follows .mixedOrders=true)(j:AZ l (Ej l) []=true)(d:a w.drew)(hA:RA P l.toArray n a l.length l s vA sE [])(h:∀ w', a w' -> Q .normal (Fr n sE ds) w') :
 WP r P (.region id l.toArray true) Q (Fr n s ds) w:=by
 let M:Nat->Unit->World->Prop:=fun p g=>match p with
  | 0=>a
  | _=>fun _=>False
 have key:∀ (l' : List Oper) (i:Nat) (c : List (Nat×Value)) (vs:List Value),RA P l.toArray n a l'.length l' c vs sE []->lD P l.toArray Q n ds s l (Ej l) [] (vA.map (fun v _=>v)) M i (fun _=>c) l' (vs.map (fun v _=>v)):=by
  intro l'
  induction l' with
  | nil=>intro i c vs h;cases vs with|nil=>trivial|cons v vs=>exact h.elim
  | cons o l' k =>
   intro i c vs h
   cases vs with
   | nil=>exact h.elim
   | cons v vs =>
    refine⟨?_,k (i+1) _ vs h.2⟩
    show ∀ p g w', _->_->M p g w' -> _
    intro p g w' _ _ b
    match p with
    | 0=>exact h.1 w' b
    | p+1=>exact b.elim
 refine Ke f (Ej l) [] j (vA.map (fun v _=>v)) M () (fun _=>sE) d (key l 0 s vA hA) (fun g=>?_) fun g w' b=>h w' b
 have:=hA.sl (i:=0) (vr:=[])
 rw[sJ]at this
 rw[Dy]
 have e:vA.map ((fun x=>x g)∘fun v (_:Unit)=>v)=vA:=by
  conv=>rhs;rw[<-List.map_id vA]
  rfl
 rw[e,this]
 simp[iN]
end
end Go.Sx
namespace Go.Sx
open Go
section
variable {P:Program}
def Rw(P:Program)(n:Nat)(s:List (Nat×Value))(o:Oper)(v:Value)(C:World->Prop)(w:World):Prop:=(execOp (ev n s) o).run P w = .ok (.value v) w\/∃ f args,(execOp (ev n s) o).run P w = .ok (.enter f args) w/\CR P f args w (fun v' w' => v' = v/\C w')
theorem rv{o:Oper}{v:Value}{n:Nat}{s:List (Nat×Value)}{C:World->Prop}{w:World}(h:(execOp (ev n s) o).run P w = .ok (.value v) w):Rw P n s o v C w:=.inl h
theorem rc{o:Oper}{v:Value}{n:Nat}{s:List (Nat×Value)}{C:World->Prop}{w:World}{f:FuncId}{args:Array Value}(h:(execOp (ev n s) o).run P w = .ok (.enter f args) w)(a:CR P f args w (fun v' w' => v' = v/\C w')):Rw P n s o v C w:=.inr ⟨f,args,h,a⟩
structure Rf (T:TT P) (bs:List (World×List Nat)) (L:List fT) (ops:Array Oper) (n:Nat) (o:Oper) (s:List (Nat×Value)) (v:Value):Prop where
 out:Rd P ops n o s v (St bs L)
structure DA (T:TT P) (bs:List (World×List Nat)) (L:List fT) (ops:Array Oper) (n m:Nat) (l:List Oper) (s:List (Nat×Value)) (vs:List Value) (sE:List (Nat×Value)) (R:List Oper):Prop where
 out:RA P ops n (St bs L) m l s vs sE R
variable {T:TT P} {bs bs' : List (World×List Nat)} {L L1:List fT} {r:Option Nat} {ops:Array Oper} {Q:Exit->Act->World->Prop} {n m:Nat} {s sA sE:List (Nat×Value)} {ds:List Deferred} {w w' w0 w1:World}
variable {d i j:Nat} {ty t:TypeId} {pos:String} {af:Array Edge} {g:Option (Nat×Bool)} {v u:Value} {x y z:Operand} {l B:List Oper} {o:Oper} {vs vA vB:List Value} {cs:List (Option Value)} {k:List Nat} {R:List Oper} {op:Op} {dd:Option Nat}
theorem Rf.sk{a:Nat×Bool}(b:gA ops n s (some a)=false:=by exact rfl):Rf T bs L ops n ⟨dd,op,ty,pos,af,some a⟩ s undef:=⟨fun w h=>.inr ⟨b,rfl⟩⟩
theorem Rf.mv  (b:ev n s x=v:=by conv=>lhs;whnf) (a:gA ops n s g=true:=by exact rfl):Rf T bs L ops n ⟨some d,.move x,ty,pos,af,g⟩ s (v):=⟨fun w h=>.inl ⟨a,rfl,.inl (kC b)⟩⟩
theorem Rf.fa{i b o o' szf byf:Nat}{zf:Value}{fields:Array Field}{f:Field}(l:ev n s x = .pointer (some ⟨b,o,none⟩):=by exact rfl)(a:iX T.u t=some (.struct fields):=by exact rfl)(c:fields[i]? = some f:=by exact rfl)(k:iX T.i f.type=some (szf+1,byf,zf):=by exact rfl)(j:o+f.offset=o' := by conv=>lhs;whnf)(e:gA ops n s g=true:=by exact rfl):Rf T bs L ops n ⟨some d,.fieldAddr t x i,ty,pos,af,g⟩ s (.pointer (some ⟨b,o', none⟩)):=⟨fun w h=>.inl ⟨e,rfl,.inl (r9 l (kK T.kO a) c (mz T.mO k) j)⟩⟩
theorem Rf.ld{b o i:Nat}{a:TypeId}{cs:List Value}{ud:TypeDesc}(j:ev n s x = .pointer (some ⟨b,o,none⟩):=by exact rfl)(c:iX T.u t=some ud:=by exact rfl)(f:j4 ud=false:=by exact rfl)(hi:L[i]? = some (blk b a cs):=by first|exact qB|exact qC|exact ni|exact nj|exact qD|exact qE|exact qF|exact qG)(hv:cs[o]? = some v:=by exact rfl)(e:gA ops n s g=true:=by exact rfl):Rf T bs L ops n ⟨some d,.load t x,ty,pos,af,g⟩ s (v):=⟨fun w h=>.inl ⟨e,rfl,.inl (kU j (kK T.kO c) f (h.ru hi hv))⟩⟩
theorem Rf.r8  (b:ev n s x=v:=by conv=>lhs;whnf) (a:gA ops n s g=true:=by exact rfl):Rf T bs L ops n ⟨some d,.assign x,ty,pos,af,g⟩ s (v):=⟨fun w h=>.inl ⟨a,rfl,.inl (sW b)⟩⟩
theorem Rf.rH{p:Addr}(b:ev n s x = .pointer (some p):=by exact rfl)(a:gA ops n s g=true:=by exact rfl):Rf T bs L ops n ⟨some d,.nilCheck x,ty,pos,af,g⟩ s (.pointer (some p)):=⟨fun w h=>.inl ⟨a,rfl,.inl (vW b)⟩⟩
theorem Rf.cmp{op:BinOp}{t' : TypeId}{k:IntKind}{a b:Int}{c:Bool}(i:ev n s x = .int k a:=by exact rfl)(j:ev n s y = .int k b:=by exact rfl)(e:kA op a b=some c:=by first|exact qH (by first|assumption|exact rfl|decide)|exact uo (by first|assumption|exact rfl|decide)|exact oF (by first|assumption|exact rfl|decide)|exact kT (by first|assumption|exact rfl|decide)|exact um (by first|assumption|exact rfl|decide)|exact Ef (by first|assumption|exact rfl|decide)|exact Ee (by first|assumption|exact rfl|decide)|exact oH (by first|assumption|exact rfl|decide)|exact HE (by first|assumption|exact rfl|decide)|exact nX (by first|assumption|exact rfl|decide)|exact nk (by first|assumption|exact rfl|decide)|exact oG (by first|assumption|exact rfl|decide))(f:gA ops n s g=true:=by exact rfl):Rf T bs L ops n ⟨some d,.binOp op t x y t', ty,pos,af,g⟩ s (.bool c):=⟨fun w h=>.inl ⟨f,rfl,.inl (HT i j e)⟩⟩
theorem Rf.ex{i:Nat}{vs:Array Value}(b:ev n s x = .tuple vs:=by exact rfl)(hv:vs[i]? = some v:=by exact rfl)(a:gA ops n s g=true:=by exact rfl):Rf T bs L ops n ⟨some d,.extract x i,ty,pos,af,g⟩ s (v):=⟨fun w h=>.inl ⟨a,rfl,.inl (EE b hv)⟩⟩
theorem Rf.not{b:Bool}(c:ev n s x = .bool b:=by exact rfl)(a:gA ops n s g=true:=by exact rfl):Rf T bs L ops n ⟨some d,.unOp .not t x,ty,pos,af,g⟩ s (.bool !b):=⟨fun w h=>.inl ⟨a,rfl,.inl (Q2 c rfl)⟩⟩
theorem Rf.pT  (a:ev n s x = .bool true:=by exact rfl) (c:ev n s y=v:=by conv=>lhs;whnf) (b:gA ops n s g=true:=by exact rfl):Rf T bs L ops n ⟨some d,.pick x y z,ty,pos,af,g⟩ s (v):=⟨fun w h=>.inl ⟨b,rfl,.inl (Ru a c)⟩⟩
theorem Rf.pF  (a:ev n s x = .bool false:=by exact rfl) (c:ev n s z=v:=by conv=>lhs;whnf) (b:gA ops n s g=true:=by exact rfl):Rf T bs L ops n ⟨some d,.pick x y z,ty,pos,af,g⟩ s (v):=⟨fun w h=>.inl ⟨b,rfl,.inl (Rt a c)⟩⟩
theorem DA.nil:DA T bs L ops n 0 l s [] s l:=⟨⟨rfl,rfl⟩⟩
theorem DA.c(hv:Rf T bs L ops n ⟨some d,op,ty,pos,af,g⟩ s v)(K:DA T bs L ops n m l ((d,v) :: s) vs sE R):DA T bs L ops n (m+1) (⟨some d,op,ty,pos,af,g⟩ :: l) s (v :: vs) sE R:=⟨⟨hv.out,K.out⟩⟩
theorem FE{p:Prop} (h:p:=by
 repeat (first|exact DA.nil|exact DC.nil|exact DU.nil|((first|apply DA.c|apply DA.cN|apply DC.c|apply DU.c);(first|exact Rf.sk|exact Rf.mv|exact Rf.EX|exact Rf.EI|exact Rf.AI|exact Rf.EF|exact Rf.fa|exact Rf.ld|exact Rf.Cs|exact Rf.Cu|exact Rf.Cy|exact Rf.r8|exact Rf.rH|exact Rf.cmp|exact Rf.ar|exact Rf.ex|exact Rf.EW|exact Rf.iD|exact Rf.EG|exact Rf.iY|exact Rf.su|exact Rf.Cw|exact Rf.Ct|exact Rf.Cz|exact Rf.E1|exact Rf.E0|exact Rf.cv|exact Rf.not|exact Rf.pT|exact Rf.pF|exact Rf.jx|exact Rf.ixG|exact Rf.fldG|exact Rf.len|exact Rf.nP|exact Rf.eP))|refine DC.sk ?_|(apply DU.gb;intro _))):p:=h
theorem H7[T:TT P]{id:Nat}(b:St bs L w)(h:∀ w', St bs L w' -> Q .normal (Fr n sE ds) w')(a:AZ l (Ej l) []=true:=by kernel_rfl)
 (hA:DA T bs L l.toArray n l.length l s vA sE []:=by exact FE):WP r P (.region id l.toArray true) Q (Fr n s ds) w :=
 VV T.mx a b.drew hA.out h
structure DF (T:TT P) (bs:List (World×List Nat)) (L:List fT) (ops:Array Oper) (n N m:Nat) (l:List Oper) (s:List (Nat×Value)) (vs:List Value) (sE:List (Nat×Value)) (R:List Oper):Prop where
 out:DA T bs L ops n m l s vs sE R
variable {N:Nat}
theorem DF.c(hv:Rf T bs L ops n ⟨some d,op,ty,pos,af,g⟩ s v)(K:DF T bs L ops n N m l ((d,v) :: s) vs sE R):DF T bs L ops n (N+1) (m+1) (⟨some d,op,ty,pos,af,g⟩ :: l) s (v :: vs) sE R:=⟨.c hv K.out⟩
theorem adz{p q:Prop} (h:p->q:=by
 intro h
 repeat (first|((first|apply DF.c|apply DF.cN|apply CF.c|apply UF.c);(first|exact Rf.sk|exact Rf.mv|exact Rf.EX|exact Rf.EI|exact Rf.AI|exact Rf.EF|exact Rf.fa|exact Rf.ld|exact Rf.Cs|exact Rf.Cu|exact Rf.Cy|exact Rf.r8|exact Rf.rH|exact Rf.cmp|exact Rf.ar|exact Rf.ex|exact Rf.EW|exact Rf.iD|exact Rf.EG|exact Rf.iY|exact Rf.su|exact Rf.Cw|exact Rf.Ct|exact Rf.Cz|exact Rf.E1|exact Rf.E0|exact Rf.cv|exact Rf.not|exact Rf.pT|exact Rf.pF|exact Rf.jx|exact Rf.ixG|exact Rf.fldG|exact Rf.len|exact Rf.nP|exact Rf.eP))|refine CF.sk ?_|(apply UF.gb;intro _))
 exact h):p->q:=h
theorem xm{a : Nat}{l' : List Oper}{s' : List (Nat×Value)}{b : List Value}(N:Nat)(K:DA T bs L ops n a l' s' b sE R)(h:DF T bs L ops n 0 a l' s' b sE R->DF T bs L ops n N m l s vs sE R:=by exact adz):DA T bs L ops n m l s vs sE R:=(h ⟨K⟩).out
theorem ur(hv:∀ a,St bs L a->Rw P n s ⟨some d,op,ty,pos,af,g⟩ v (St bs L) a)(K:DA T bs L ops n m l ((d,v) :: s) vs sE R)(b:gA ops n s g=true:=by exact rfl)(hd:lZ op=true:=by exact rfl):DA T bs L ops n (m+1) (⟨some d,op,ty,pos,af,g⟩ :: l) s (v :: vs) sE R:=.c ⟨fun w h=>.inl ⟨b,hd,hv w h⟩⟩ K
end
end Go.Sx
namespace Go.Sx
open Go
structure Nd where
 k0:Nat
 k1:Nat
 up:Nat
 flip:Bool
 key:Int
 size:Int
 first:Nat
 iP:Int
 total:Int
 deriving Inhabited
def Nd.cells(x:Nd):List Value:=[.int .i64 x.k0,.int .i64 x.k1,.int .i64 x.up,.bool x.flip,.int .i64 x.key,.int .i64 x.size,.int .i64 x.first,.int .i64 x.iP,.int .i64 x.total]
def jy(xs:List Nd)(i:Nat):Nat×Bool :=
 if (fJ xs i).up=0 then(0,false)else if (fJ xs (fJ xs i).up).k0=i then(0,true)else if (fJ xs (fJ xs i).up).k1=i then(1,true)else(0,false)
def kY(xs:List Nd)(i j:Nat):Bool:=decide ((fJ xs i).key<(fJ xs j).key\/(fJ xs i).key=(fJ xs j).key/\i<j)
def iW(xs:List Nd)(i s k:Nat):List Nd :=
 let ys:=if s=0 then fN xs i (fun x=>{ x with k0:=k })else fN xs i (fun x=>{ x with k1:=k })
 if k=0 then ys else fN ys k (fun x=>{ x with up:=i })
def jS(xs:List Nd)(i:Nat):List Nd :=
 if (fJ xs i).flip=true then
  let y0:=fN xs i (fun x=>{ x with flip:=false })
  let y1:=fN y0 i (fun x=>{ x with k0:=(fJ y0 i).k1 })
  let y2:=fN y1 i (fun x=>{ x with k1:=(fJ y0 i).k0 })
  let a:=if (fJ y2 i).k0=0 then y2 else fN y2 (fJ y2 i).k0 (fun x=>{ x with flip := !(fJ y2 (fJ y2 i).k0).flip })
  if (fJ y2 i).k1=0 then a else fN a (fJ y2 i).k1 (fun x=>{ x with flip := !(fJ a (fJ y2 i).k1).flip })
 else xs
structure gf (xs:List Nd):Prop where
 k0:∀ i,i<xs.length->(fJ xs i).k0<xs.length
 k1:∀ i,i<xs.length->(fJ xs i).k1<xs.length
 up:∀ i,i<xs.length->(fJ xs i).up<xs.length
 first:∀ i,i<xs.length->(fJ xs i).first<xs.length
 key:∀ i,i<xs.length->gR .i64 (fJ xs i).key
theorem gf.iL{xs:List Nd}{k:Nat}{f:Nd->Nd}(h:gf xs)(hk:k<xs.length)
 (a:∀ x:Nd,x.k0<xs.length->x.k1<xs.length->x.up<xs.length->x.first<xs.length->gR .i64 x.key->(f x).k0<xs.length/\(f x).k1<xs.length/\(f x).up<xs.length/\(f x).first<xs.length/\gR .i64 (f x).key):gf (fN xs k f):=by
 have key:∀ i,i<xs.length->(fJ (fN xs k f) i).k0<xs.length/\(fJ (fN xs k f) i).k1<xs.length/\(fJ (fN xs k f) i).up<xs.length/\(fJ (fN xs k f) i).first<xs.length/\gR .i64 (fJ (fN xs k f) i).key:=by
  intro i hi
  rw[iS hk]
  split
  . exact a _ (h.k0 k hk) (h.k1 k hk) (h.up k hk) (h.first k hk) (h.key k hk)
  . exact⟨h.k0 i hi,h.k1 i hi,h.up i hi,h.first i hi,h.key i hi⟩
 refine⟨fun i hi=>?_,fun i hi=>?_,fun i hi=>?_,fun i hi=>?_,fun i hi=>?_⟩<;>(rw[gC]at hi;try rw[gC])
 . exact(key i hi).1
 . exact(key i hi).2.1
 . exact(key i hi).2.2.1
 . exact(key i hi).2.2.2.1
 . exact(key i hi).2.2.2.2
end Go.Sx
namespace Go.Sx
open Go
inductive Tr where
 | nil:Tr
 | nd (l:Tr) (i:Nat) (r:Tr):Tr
namespace Tr
def root:Tr->Nat
 | .nil=>0
 | .nd _ i _=>i
def mem:Tr->List Nat
 | .nil=>[]
 | .nd l i r=>l.mem++i :: r.mem
end Tr
def je(xs:List Nd)(d:Bool)(i:Nat):Nat:=bif d then(fJ xs i).k0 else(fJ xs i).k1
def nK(xs:List Nd)(L:List Nat):Int:=(L.map fun j=>1+(fJ xs j).iP).sum
def GI(xs:List Nd)(m:Nat)(L:List Nat):Prop:=m∈L/\∀ j∈L,j=m\/kY xs m j=true
structure oZ (xs:List Nd) (i:Nat) (L:List Nat):Prop where
 size:(fJ xs i).size=(L.length:Int)
 total:(fJ xs i).total=IntKind.i64.wrap (nK xs L)
 first:GI xs (fJ xs i).first L
def gO(xs:List Nd):Tr->Nat->Prop
 | .nil,_=>True
 | .nd l i r,p=>(i≠0/\i<xs.length)/\((fJ xs i).k0=l.root/\(fJ xs i).k1=r.root/\(fJ xs i).up=p)/\oZ xs i (l.mem++i :: r.mem)/\gO xs l i/\gO xs r i
abbrev Cx:=List (Bool×Nat×Tr)
def lY(d:Bool)(t:Tr)(g:Nat)(s:Tr):Tr:=bif d then .nd t g s else .nd s g t
def jQ(d:Bool)(L:List Nat)(g:Nat)(s:Tr):List Nat:=bif d then L++g :: s.mem else s.mem++g :: L
def jY:Cx->Tr->Tr
 | [],t=>t
 | (d,g,s) :: c,t=>jY c (lY d t g s)
def k9:Cx->List Nat->List Nat
 | [],L=>L
 | (d,g,s) :: c,L=>k9 c (jQ d L g s)
def vZ:Cx->Nat->Nat
 | [],p=>p
 | (_,g,_) :: _,_=>g
def jR:Cx->List Nat
 | []=>[]
 | (_,g,s) :: c=>g :: s.mem++jR c
def mj(xs:List Nd):Cx->Nat->List Nat->Nat->Prop
 | [],_,_,_=>True
 | (d,g,s) :: c,h,L,p=>(g≠0/\g<xs.length)/\(je xs d g=h/\je xs (!d) g=s.root/\(fJ xs g).up=vZ c p)/\oZ xs g (jQ d L g s)/\gO xs s g/\mj xs c g (jQ d L g s) p
theorem R7(d:Bool)(t:Tr)(g:Nat)(s:Tr):(lY d t g s).root=g:=by cases d<;>rfl
theorem Jw(d:Bool)(t:Tr)(g:Nat)(s:Tr):(lY d t g s).mem=jQ d t.mem g s:=by cases d<;>rfl
theorem pH:∀ (c:Cx) (t:Tr),(jY c t).mem=k9 c t.mem
 | [],t=>rfl
 | (d,g,s) :: c,t=>by rw[jY,pH c,Jw,k9]
theorem ac0{xs:List Nd}{d:Bool}{t s:Tr}{g p:Nat}:gO xs (lY d t g s) p↔(g≠0/\g<xs.length)/\(je xs d g=t.root/\je xs (!d) g=s.root/\(fJ xs g).up=p)/\oZ xs g (jQ d t.mem g s)/\gO xs t g/\gO xs s g:=by
 cases d
 . simp only[lY,cond_false,gO,je,Bool.not_false,cond_true,jQ]
   constructor
   . rintro⟨a,⟨b,c,e⟩,f,h,i⟩;exact⟨a,⟨c,b,e⟩,f,i,h⟩
   . rintro⟨a,⟨b,c,e⟩,f,h,i⟩;exact⟨a,⟨c,b,e⟩,f,i,h⟩
 . simp only[lY,cond_true,gO,je,Dx,cond_false,jQ]
theorem xV{xs:List Nd}:∀ (c:Cx) (t:Tr) (p:Nat),gO xs (jY c t) p↔gO xs t (vZ c p)/\mj xs c t.root t.mem p
 | [],t,p=>by simp[jY,vZ,mj]
 | (d,g,s) :: c,t,p=>by
  rw[jY,xV c,ac0,R7,Jw]
  simp only[vZ,mj]
  constructor
  . rintro⟨⟨a,b,e,f,h⟩,i⟩;exact⟨f,a,b,e,h,i⟩
  . rintro⟨f,a,b,e,h,i⟩;exact⟨⟨a,b,e,f,h⟩,i⟩
structure KL (xs ys:List Nd):Prop where
 len:ys.length=xs.length
 key:∀ j,(fJ ys j).key=(fJ xs j).key
 iP:∀ j,(fJ ys j).iP=(fJ xs j).iP
theorem KL.refl(xs:List Nd):KL xs xs:=⟨rfl,fun _=>rfl,fun _=>rfl⟩
theorem KL.trans{xs ys zs:List Nd}(h:KL xs ys)(k:KL ys zs):KL xs zs:=⟨k.len.trans h.len,fun j=>(k.key j).trans (h.key j),fun j=>(k.iP j).trans (h.iP j)⟩
theorem KL.before{xs ys:List Nd}(h:KL xs ys)(i j:Nat):kY ys i j=kY xs i j:=by simp[kY,h.key]
theorem KL.FZ{xs ys:List Nd}(h:KL xs ys)(L:List Nat):nK ys L=nK xs L:=by simp[nK,h.iP]
theorem KL.I8{xs ys:List Nd}(h:KL xs ys){m:Nat}{L:List Nat}(k:GI xs m L):GI ys m L:=⟨k.1,fun j a=>by rw[h.before];exact k.2 j a⟩
theorem oZ.to{xs ys:List Nd}{i:Nat}{L:List Nat}(h:oZ xs i L)(k:KL xs ys)(hs:(fJ ys i).size=(fJ xs i).size)(b:(fJ ys i).total=(fJ xs i).total)(a:(fJ ys i).first=(fJ xs i).first):oZ ys i L :=
 ⟨hs.trans h.size,by rw[b,h.total,k.FZ],by rw[a];exact k.I8 h.first⟩
theorem gO.to{xs ys:List Nd}(k:KL xs ys):∀ {t:Tr} {p:Nat},gO xs t p->(∀ j∈t.mem,fJ ys j=fJ xs j)->gO ys t p
 | .nil,_,_,_=>trivial
 | .nd l i r,p,h,hs=>by
  obtain⟨⟨b,c⟩,⟨d,e,f⟩,g,m,n⟩:=h
  have hi:=hs i (by simp[Tr.mem])
  refine⟨⟨b,by rw[k.len];exact c⟩,⟨by rw[hi];exact d,by rw[hi];exact e,by rw[hi];exact f⟩,g.to k (by rw[hi]) (by rw[hi]) (by rw[hi]),gO.to k m fun j a=>hs j (by simp[Tr.mem,a]),gO.to k n fun j a=>hs j (by simp[Tr.mem,a])⟩
theorem gO.up{xs ys:List Nd}(k:KL xs ys){t:Tr}{p q:Nat}(h:gO xs t p)(hs:∀ j∈t.mem,j≠t.root->fJ ys j=fJ xs j)(a:fJ ys t.root={ fJ xs t.root with up:=q })(c:t.mem.Nodup):gO ys t q:=by
 cases t with
 | nil=>trivial
 | nd l i r =>
  obtain⟨⟨e,f⟩,⟨g,m,v⟩,n,o,s⟩:=h
  simp only[Tr.root]at a hs
  simp only[Tr.mem]at c hs
  rw[zr]at c
  obtain⟨n1,d,u⟩:=c
  rw[zt]at d
  refine⟨⟨e,by rw[k.len];exact f⟩,⟨by rw[a];exact g,by rw[a];exact m,by rw[a]⟩,n.to k (by rw[a]) (by rw[a]) (by rw[a]),gO.to k o fun j b=>hs j (by simp[b]) ?_,gO.to k s fun j b=>hs j (by simp[b]) ?_⟩
  . rintro rfl;exact u j b j s_ rfl
  . rintro rfl;exact d.1 b
theorem mj.to{xs ys:List Nd}(k:KL xs ys):∀ {c:Cx} {r p:Nat} {L:List Nat},mj xs c r L p->(∀ j∈jR c,fJ ys j=fJ xs j)->mj ys c r L p
 | [],_,_,_,_,_=>trivial
 | (d,g,s) :: c,r,p,L,h,hs=>by
  obtain⟨⟨i,l⟩,⟨e,f,m⟩,n,o,q⟩:=h
  have a:=hs g (by simp[jR])
  refine⟨⟨i,by rw[k.len];exact l⟩,⟨by simp only[je,a]at e ⊢;exact e,by simp only[je,a]at f ⊢;exact f,by rw[a];exact m⟩,n.to k (by rw[a]) (by rw[a]) (by rw[a]),gO.to k o fun j b=>hs j (by simp[jR,b]),mj.to k q fun j b=>hs j (by simp[jR,b])⟩
theorem mj.vP{xs ys:List Nd}(k:KL xs ys){d:Bool}{g r e p:Nat}{s:Tr}{c:Cx}{L:List Nat}(h:mj xs ((d,g,s) :: c) r L p)(hs:∀ j∈s.mem++jR c,fJ ys j=fJ xs j)
 (a:fJ ys g=bif d then { fJ xs g with k0:=e } else { fJ xs g with k1:=e }):mj ys ((d,g,s) :: c) e L p:=by
 obtain⟨⟨i,l⟩,⟨t,f,m⟩,n,o,q⟩:=h
 refine⟨⟨i,by rw[k.len];exact l⟩,⟨?_,?_,?_⟩,n.to k ?_ ?_ ?_,gO.to k o fun j b=>hs j (by simp[b]),mj.to k q fun j b=>hs j (by simp[b])⟩
 . cases d<;>simp[je,a]
 . cases d<;>simp[je,a]at f ⊢ <;> exact f
 all_goals cases d<;>simp[a]<;>exact m
theorem CG:∀ {c:Cx} {L:List Nat} {j:Nat},j∈k9 c L↔j∈L\/j∈jR c
 | [],L,j=>by simp[k9,jR]
 | (d,g,s) :: c,L,j=>by
  rw[k9,CG (c:=c)]
  cases d<;>simp only[jQ,jR,cond_true,cond_false,zo,zb]<;>simp only[or_assoc,or_left_comm,or_comm]
theorem CJ:∀ {c:Cx} {L:List Nat},(k9 c L).Nodup->L.Nodup/\(jR c).Nodup/\∀ j∈L,j∉jR c
 | [],L,h=>⟨h,by simp[jR],by simp[jR]⟩
 | (d,g,s) :: c,L,h=>by
  obtain⟨n,t,o⟩:=CJ (c:=c) h
  have key:L.Nodup/\s.mem.Nodup/\g∉L/\g∉s.mem/\∀ j∈L,j∉s.mem:=by
   cases d
   . simp only[jQ,cond_false,zr,zt,zb]at n
     obtain⟨k1,⟨l,m⟩,i⟩:=n
     exact⟨m,k1,l,fun q=>i g q g (.inl rfl) rfl,fun j f hs=>i j hs j (.inr f) rfl⟩
   . simp only[jQ,cond_true,zr,zt,zb]at n
     obtain⟨k1,⟨l,m⟩,i⟩:=n
     exact⟨k1,m,fun q=>i g q g (.inl rfl) rfl,l,fun j f hs=>i j f j (.inr hs) rfl⟩
  obtain⟨k1,l,m,i,u⟩:=key
  have r:∀ j,j∈jQ d L g s↔j∈L\/j=g\/j∈s.mem:=fun j=>by cases d<;>simp only[jQ,cond_true,cond_false,zo,zb,or_assoc,or_left_comm,or_comm]
  refine⟨k1,?_,fun j f k=>?_⟩
  . rw[jR,zr,zt]
    refine⟨⟨i,l⟩,t,fun a p b hb e=>?_⟩
    subst e
    rcases zb.1 p with rfl|p
    . exact o a ((r a).2 (.inr (.inl rfl))) hb
    . exact o a ((r a).2 (.inr (.inr p))) hb
  . rw[jR,zo,zb]at k
    rcases k with (rfl|k)|k
    . exact m f
    . exact u j f k
    . exact o j ((r j).2 (.inl f)) k
end Go.Sx
namespace Go.Sx
open Go
theorem aet{l l' : List Int}(h:l.Perm l'):l.sum=l'.sum:=by
 induction h with
 | nil=>rfl
 | cons x _ c=>simp only[List.sum_cons,c]
 | swap x y l=>simp only[List.sum_cons];omega
 | trans _ _ a b=>exact a.trans b
theorem agz{xs:List Nd}{L L' : List Nat}(h:L.Perm L'):nK xs L=nK xs L' := aet (h.map _)
theorem oZ.perm{xs:List Nd}{i:Nat}{L L' : List Nat}(h:oZ xs i L)(k:L.Perm L'):oZ xs i L' := by
 refine⟨by rw[h.size,k.length_eq],?_,⟨k.mem_iff.1 h.first.1,fun j a=>h.first.2 j (k.mem_iff.2 a)⟩⟩
 rw[h.total,agz k]
theorem agy(xs:List Nd)(L M:List Nat):nK xs (L++M)=nK xs L+nK xs M:=by simp[nK]
theorem Lm(x:Int):IntKind.i64.wrap x=if 9223372036854775808<=x%18446744073709551616 then x%18446744073709551616-18446744073709551616 else x%18446744073709551616:=by
 show (if (true&&decide (x%18446744073709551616≥9223372036854775808))=true then x%18446744073709551616-18446744073709551616 else x%18446744073709551616)=_
 simp
theorem TK(x:Int):IntKind.i64.wrap x=(x+9223372036854775808)%18446744073709551616-9223372036854775808:=by
 rw[Lm];split<;>omega
theorem ahq(a b:Int):IntKind.i64.wrap (IntKind.i64.wrap a+IntKind.i64.wrap b)=IntKind.i64.wrap (a+b):=by
 simp only[TK];omega
theorem ahr{x:Int}(h : -9223372036854775808<=x)(a : x<=9223372036854775807):IntKind.i64.wrap x=x:=by rw[TK];omega
def l8(xs:List Nd)(i k:Nat):List Nd :=
 if k=0 then xs else
  let y0:=fN xs i (fun x=>{ x with size:=IntKind.i64.wrap (x.size+(fJ xs k).size) })
  let y1:=fN y0 i (fun x=>{ x with total:=IntKind.i64.wrap (x.total+(fJ y0 k).total) })
  if kY y1 (fJ y1 k).first (fJ y1 i).first then fN y1 i (fun x=>{ x with first:=(fJ y1 k).first })else y1
def iI(xs:List Nd)(i:Nat):List Nd :=
 let y:=fN xs i (fun x=>{ x with size:=1,first:=i,total:=IntKind.i64.wrap (1+x.iP) })
 l8 (l8 y i (fJ xs i).k0) i (fJ xs i).k1
structure nV (xs ys:List Nd) (i:Nat):Prop where
 len:ys.length=xs.length
 other:∀ j,j≠i->fJ ys j=fJ xs j
 here:∃ s t f,fJ ys i={ fJ xs i with size:=s,total:=t,first:=f }
theorem nV.refl(xs:List Nd)(i:Nat):nV xs xs i:=⟨rfl,fun _ _=>rfl,_,_,_,rfl⟩
theorem nV.trans{xs ys zs:List Nd}{i:Nat}(h:nV xs ys i)(k:nV ys zs i):nV xs zs i:=by
 obtain⟨s,t,f,e⟩:=h.here
 obtain⟨c, t', b, e'⟩:=k.here
 exact⟨k.len.trans h.len,fun j a=>(k.other j a).trans (h.other j a),c, t', b, by rw[e', e]⟩
theorem nV.kl{xs ys:List Nd}{i:Nat}(h:nV xs ys i):KL xs ys:=by
 obtain⟨s,t,f,e⟩:=h.here
 refine⟨h.len,fun j=>?_,fun j=>?_⟩<;>(by_cases hj:j=i)
 . subst hj;rw[e]
 . rw[h.other j hj]
 . subst hj;rw[e]
 . rw[h.other j hj]
theorem nV.flip{xs ys:List Nd}{i:Nat}(h:nV xs ys i)(j:Nat):(fJ ys j).flip=(fJ xs j).flip:=by
 obtain⟨s,t,f,e⟩:=h.here
 by_cases hj:j=i
 . subst hj;rw[e]
 . rw[h.other j hj]
theorem RT{xs:List Nd}{i k:Nat}{L M:List Nat}(hi:i<xs.length)(hk:k<xs.length)(h:oZ xs i L)(w:k≠0->k≠i/\oZ xs k M)(u:k=0->M=[])(A:L.length+M.length<=1000001) :
 nV xs (l8 xs i k) i/\oZ (l8 xs i k) i (L++M):=by
 unfold l8
 by_cases hk0:k=0
 . rw[if_pos hk0,u hk0,sJ];exact⟨nV.refl _ _,h⟩
 . rw[if_neg hk0]
   obtain⟨p,hv⟩:=w hk0
   obtain⟨y0,f⟩:∃ y,y=fN xs i (fun x=>{ x with size:=IntKind.i64.wrap (x.size+(fJ xs k).size) }):=⟨_,rfl⟩
   obtain⟨y1,e1⟩:∃ y,y=fN y0 i (fun x=>{ x with total:=IntKind.i64.wrap (x.total+(fJ y0 k).total) }):=⟨_,rfl⟩
   simp only[<-f,<-e1]
   have l0:y0.length=xs.length:=by rw[f,gC]
   have r:y1.length=xs.length:=by rw[e1,gC,l0]
   have a0:fJ y0 i={ fJ xs i with size:=IntKind.i64.wrap ((fJ xs i).size+(fJ xs k).size) }:=by rw[f,ko hi]
   have b0:∀ j,j≠i->fJ y0 j=fJ xs j:=fun j d=>by rw[f,j5 (fun e=>d e.symm)]
   have a1:fJ y1 i={ fJ xs i with size:=IntKind.i64.wrap ((fJ xs i).size+(fJ xs k).size),total:=IntKind.i64.wrap ((fJ xs i).total+(fJ xs k).total) }:=by
    rw[e1,ko o_,a0,b0 k p]
   have b1:∀ j,j≠i->fJ y1 j=fJ xs j:=fun j d=>by rw[e1,j5 (fun e=>d e.symm),b0 j d]
   have l:nV xs y1 i:=⟨r,b1,_,_,_,a1⟩
   have hs:IntKind.i64.wrap ((fJ xs i).size+(fJ xs k).size)=((L++M).length:Int):=by
    rw[h.size,hv.size,ahr o_ o_,zq];omega
   have q:IntKind.i64.wrap ((fJ xs i).total+(fJ xs k).total)=IntKind.i64.wrap (nK xs (L++M)):=by
    rw[h.total,hv.total,ahq,agy]
   have hb:∀ a b,kY y1 a b=kY xs a b:=l.kl.before
   have t:(fJ y1 k).first=(fJ xs k).first:=by rw[b1 k p]
   have o:(fJ y1 i).first=(fJ xs i).first:=by rw[a1]
   have s:∀ a b c,kY xs a b=true->kY xs b c=true->kY xs a c=true:=by
    intro a b c m v
    simp only[kY,decide_eq_true_eq]at m v ⊢;omega
   have z:∀ a b,kY xs a b=false->a=b\/kY xs b a=true:=by
    intro a b m
    simp only[kY,decide_eq_true_eq,decide_eq_false_iff_not]at m ⊢;omega
   rw[t,o,hb]
   cases hc:kY xs (fJ xs k).first (fJ xs i).first with
   | true =>
    rw[if_pos rfl]
    have g:fJ (fN y1 i (fun x=>{ x with first:=(fJ xs k).first })) i={ fJ xs i with size:=IntKind.i64.wrap ((fJ xs i).size+(fJ xs k).size),total:=IntKind.i64.wrap ((fJ xs i).total+(fJ xs k).total),first:=(fJ xs k).first }:=by
     rw[ko o_,a1]
    have n:nV xs (fN y1 i (fun x=>{ x with first:=(fJ xs k).first })) i:=⟨by rw[gC,r],fun j d=>by rw[j5 (fun e=>d e.symm),b1 j d],_,_,_,g⟩
    refine⟨n,⟨by rw[g];exact hs,by rw[g,n.kl.FZ];exact q,?_⟩⟩
    rw[g]
    refine n.kl.I8 ⟨yV _ hv.first.1,fun j d=>?_⟩
    rcases zo.1 d with d|d
    . rcases h.first.2 j d with rfl|d
      . exact .inr hc
      . exact .inr (s _ _ _ hc d)
    . exact hv.first.2 j d
   | false =>
    rw[if_neg s_]
    refine⟨l,⟨by rw[a1];exact hs,by rw[a1,l.kl.FZ];exact q,?_⟩⟩
    rw[o]
    refine l.kl.I8 ⟨yW _ h.first.1,fun j d=>?_⟩
    rcases zo.1 d with d|d
    . exact h.first.2 j d
    . rcases z _ _ hc with e|e
      . rw[<-e];exact hv.first.2 j d
      . rcases hv.first.2 j d with rfl|d
        . exact .inr e
        . exact .inr (s _ _ _ e d)
theorem gO.vals{xs:List Nd}{t:Tr}{p:Nat}(h:gO xs t p):t.root≠0->oZ xs t.root t.mem:=by
 cases t with
 | nil=>intro h;exact absurd rfl h
 | nd l i r=>intro _;exact h.2.2.1
theorem gO.mQ{xs:List Nd}{t:Tr}{p:Nat}(h:gO xs t p):t.root≠0->t.root∈t.mem:=by
 cases t with
 | nil=>intro h;exact absurd rfl h
 | nd l i r=>intro _;simp[Tr.root,Tr.mem]
theorem gO.Kj{xs:List Nd}{t:Tr}{p:Nat}(h:gO xs t p):t.root=0->t.mem=[]:=by
 cases t with
 | nil=>intro _;rfl
 | nd l i r=>intro e;exact absurd e h.1.1
theorem gO.A9{xs:List Nd}{t:Tr}{p:Nat}(h:gO xs t p)(a:0<xs.length):t.root<xs.length:=by
 cases t with
 | nil=>exact a
 | nd l i r=>exact h.1.2
theorem gO.p8{xs:List Nd}:∀ {t:Tr} {p:Nat},gO xs t p->∀ j∈t.mem,j≠0/\j<xs.length
 | .nil,_,_,j,a=>by simp[Tr.mem]at a
 | .nd l i r,p,h,j,a=>by
  obtain⟨b,_,_,c,d⟩:=h
  simp only[Tr.mem,zo,zb]at a
  rcases a with a|rfl|a
  . exact gO.p8 c j a
  . exact b
  . exact gO.p8 d j a
theorem AY{xs:List Nd}{i:Nat}{l r:Tr}(hi:i≠0/\i<xs.length)(z:gO xs l i)(B:gO xs r i)(w:(fJ xs i).k0=l.root)(h1:(fJ xs i).k1=r.root)(A:(l.mem++i :: r.mem).Nodup)(D:(l.mem++i :: r.mem).length<=1000000) :
 nV xs (iI xs i) i/\gO (iI xs i) (.nd l i r) (fJ xs i).up:=by
 have J:0<xs.length:=by omega
 rw[zr,zt]at A
 obtain⟨n1,⟨o,K⟩,G⟩:=A
 have p:i∉l.mem:=fun h=>G i h i s_ rfl
 simp only[zq,zd]at D
 unfold iI
 obtain⟨y,g⟩:∃ y,y=fN xs i (fun x=>{ x with size:=1,first:=i,total:=IntKind.i64.wrap (1+x.iP) }):=⟨_,rfl⟩
 simp only[<-g]
 have d:fJ y i={ fJ xs i with size:=1,first:=i,total:=IntKind.i64.wrap (1+(fJ xs i).iP) }:=by rw[g,ko hi.2]
 have F:y.length=xs.length:=by rw[g,gC]
 have by_:∀ j,j≠i->fJ y j=fJ xs j:=fun j a=>by rw[g,j5 (fun e=>a e.symm)]
 have q:nV xs y i:=⟨F,by_,_,_,_,d⟩
 have I:oZ y i [i]:=⟨by rw[d];rfl,by rw[d,q.kl.FZ];simp[nK],by rw[d];exact⟨s_,fun j a=>.inl (by simpa using a)⟩⟩
 have m : gO y l i:=z.to q.kl fun j a=>by_ j (fun e=>p (e▸a))
 have E : gO y r i:=B.to q.kl fun j a=>by_ j (fun e=>o (e▸a))
 rw[w,h1]
 obtain⟨b,H⟩:=RT (xs:=y) (i:=i) (k:=l.root) (L:=[i]) (M:=l.mem) o_ (m.A9 o_) I (fun h=>⟨fun e=>p (e▸z.mQ h),m.vals h⟩) (m.Kj) (by simp;omega)
 have n:=E.to b.kl fun j a=>b.other j (fun e=>o (e▸a))
 have C:=m.to b.kl fun j a=>b.other j (fun e=>p (e▸a))
 obtain⟨c,v2⟩:=RT (xs:=l8 y i l.root) (i:=i) (k:=r.root) (L:=[i]++l.mem) (M:=r.mem) (by rw[b.len];omega) (n.A9 (by rw[b.len];omega)) H (fun h=>⟨fun e=>o (e▸B.mQ h),n.vals h⟩) (n.Kj) (by simp;omega)
 have v:=(q.trans b).trans c
 obtain⟨s,t,f,u⟩:=v.here
 refine⟨v,⟨hi.1,by rw[v.len];exact hi.2⟩,⟨by rw[u];exact w,by rw[u];exact h1,by rw[u]⟩,v2.perm ?_,C.to c.kl fun j a=>c.other j (fun e=>p (e▸a)),n.to c.kl fun j a=>c.other j (fun e=>o (e▸a))⟩
 simp only[List.singleton_append,nw]
 exact tT.symm
end Go.Sx
namespace Go.Sx
open Go
def iG(xs:List Nd)(i:Nat):List Nd :=
 let p:=(fJ xs i).up
 let g:=(fJ xs p).up
 let s:=(jy xs i).1
 let y1:=if (jy xs p).2=true then iW xs g (jy xs p).1 i else fN xs i (fun x=>{ x with up:=g })
 let y2:=iW y1 p s (if s=0 then(fJ y1 i).k1 else(fJ y1 i).k0)
 let a:=iW y2 i (1-s) p
 iI (iI a p) i
def qS(d:Bool)(k:Nat)(x:Nd):Nd:=bif d then { x with k0:=k } else { x with k1:=k }
def sd(d:Bool):Nat:=bif d then 0 else 1
theorem Kz(d:Bool)(k:Nat)(x:Nd):(qS d k x).key=x.key:=by cases d<;>rfl
theorem KA(d:Bool)(k:Nat)(x:Nd):(qS d k x).iP=x.iP:=by cases d<;>rfl
theorem Ky(d:Bool)(k:Nat)(x:Nd):(qS d k x).flip=x.flip:=by cases d<;>rfl
theorem adS(d:Bool)(k:Nat)(x:Nd):(qS d k x).up=x.up:=by cases d<;>rfl
theorem Pz(xs:List Nd)(i:Nat)(d:Bool)(k:Nat):iW xs i (sd d) k=if k=0 then fN xs i (qS d k)else fN (fN xs i (qS d k)) k (fun x=>{ x with up:=i }):=by
 cases d<;>rfl
theorem IP(xs:List Nd)(i:Nat)(d:Bool)(k:Nat):(iW xs i (sd d) k).length=xs.length:=by
 rw[Pz];split<;>simp[gC]
theorem IN{xs:List Nd}{i k:Nat}{d:Bool}(hi:i<xs.length)(hk:k<xs.length)(b:k≠i)(j:Nat) :
 fJ (iW xs i (sd d) k) j=if j=i then qS d k (fJ xs i)else if j=k/\k≠0 then { fJ xs k with up:=i } else fJ xs j:=by
 rw[Pz]
 split
 . rename_i a
   rw[iS hi]
   by_cases hj:i=j
   . rw[if_pos hj,if_pos hj.symm]
   . rw[if_neg hj,if_neg (fun e=>hj e.symm),if_neg (by simp[a])]
 . rename_i a
   rw[iS (by rw[gC];exact hk)]
   by_cases hj:k=j
   . subst hj
     rw[if_pos rfl,if_neg b,if_pos ⟨rfl,a⟩,j5 (fun e=>b e.symm)]
   . rw[if_neg hj,iS hi]
     by_cases hj' : i=j
     . rw[if_pos hj', if_pos hj'.symm]
     . rw[if_neg hj', if_neg (fun e=>hj' e.symm),if_neg (fun e=>hj e.1.symm)]
theorem KB{xs:List Nd}{d:Bool}{p i:Nat}(b:(fJ xs i).up=p)(hp:p≠0)(hk:je xs d p=i)(a:je xs (!d) p≠i):jy xs i=(sd d,true):=by
 unfold jy
 rw[b,if_neg hp]
 cases d
 . simp only[je,cond_false,Bool.not_false,cond_true]at hk a
   rw[if_neg a,if_pos hk];rfl
 . simp only[je,cond_true]at hk
   rw[if_pos hk];rfl
theorem Sr{xs:List Nd}{i p:Nat}(c:(fJ xs i).up=p)(h:p=0\/je xs true p≠i/\je xs false p≠i):jy xs i=(0,false):=by
 unfold jy
 rw[c]
 rcases h with h|⟨a,b⟩
 . rw[if_pos h]
 . split
   . rfl
   . simp only[je,cond_true,cond_false]at a b
     rw[if_neg a,if_neg b]
def qR(d:Bool)(a:Tr)(i:Nat)(b:Tr)(p:Nat)(s:Tr):Tr:=bif d then .nd a i (.nd b p s)else .nd (.nd s p a) i b
theorem Kk(d:Bool)(a:Tr)(i:Nat)(b:Tr)(p:Nat)(s:Tr):(qR d a i b p s).mem=jQ d (a.mem++i :: b.mem) p s:=by
 cases d<;>simp[qR,jQ,Tr.mem]
theorem adp(d:Bool)(a:Tr)(i:Nat)(b:Tr)(p:Nat)(s:Tr):(qR d a i b p s).root=i:=by cases d<;>rfl
theorem J2:∀ (c:Cx) (L:List Nat),L.length<=(k9 c L).length
 | [],_=>zj _
 | (d,g,s) :: c,L=>kg (by cases d<;>simp[jQ]<;>omega) (J2 c _)
theorem RU{xs:List Nd}{d:Bool}{i:Nat}{t s:Tr}(hi:i≠0/\i<xs.length)(e:gO xs t i)(hs:gO xs s i)(a:je xs d i=t.root)(h1:je xs (!d) i=s.root)(c:(jQ d t.mem i s).Nodup)(b:(jQ d t.mem i s).length<=1000000) :
 nV xs (iI xs i) i/\gO (iI xs i) (lY d t i s) (fJ xs i).up:=by
 cases d
 . exact AY hi hs e (by simpa[je]using h1) (by simpa[je]using a) c b
 . exact AY hi e hs (by simpa[je]using a) (by simpa[je]using h1) c b
structure T1 (xs ys:List Nd) (S:List Nat):Prop where
 kl:KL xs ys
 other:∀ j,j∉S->fJ ys j=fJ xs j
 flip:∀ j,(fJ ys j).flip=(fJ xs j).flip
theorem mj.kF{xs ys:List Nd}(k:KL xs ys){c:Cx}{r a q:Nat}{L:List Nat}(h:mj xs c r L q)(hs:∀ d g s c', c=(d,g,s) :: c' -> (∀ j∈s.mem++jR c', fJ ys j=fJ xs j)/\fJ ys g=qS d a (fJ xs g)):mj ys c a L q:=by
 cases c with
 | nil=>trivial
 | cons f c' =>
  obtain⟨d,g,s⟩:=f
  obtain⟨b,e⟩:=hs d g s c' rfl
  exact h.vP k b e
theorem xY{xs:List Nd}{d:Bool}{p i q:Nat}{s a b:Tr}{c:Cx}(hR:gO xs (jY ((d,p,s) :: c) (.nd a i b)) q)(hn:(k9 ((d,p,s) :: c) (a.mem++i :: b.mem)).Nodup)
 (a4:xs.length<=1000001) (aj:(k9 ((d,p,s) :: c) (a.mem++i :: b.mem)).length<=1000000)
 (hq:c=[]->q=0\/je xs true q≠p/\je xs false q≠p) :
 gO (iG xs i) (jY c (qR d a i b p s)) q/\T1 xs (iG xs i) (k9 ((d,p,s) :: c) (a.mem++i :: b.mem)):=by
 obtain⟨hT,hC⟩:=(xV _ _ _).1 hR
 obtain⟨⟨i0,il⟩,⟨av,aw,iu⟩,iv,ha,hb⟩:=hT
 simp only[vZ]at iu
 obtain⟨⟨U,pl⟩,⟨pk,po,pu⟩,pv,hs,aa⟩:=hC
 simp only[Tr.root]at pk
 simp only[Tr.mem]at pv aa
 obtain⟨n1,n2,P⟩:=CJ hn
 simp only[jR,nw,zt,zr,zo,zb,not_or]at n1 n2 P
 obtain⟨H,ns,nc,aZ⟩:=n2
 obtain⟨na,⟨ay,nb⟩,ai⟩:=n1
 have J:i≠p:=(P i s_).1
 have an:i∉s.mem:=(P i s_).2.1
 have ab:i∉jR c:=(P i s_).2.2
 have ak:i∉a.mem:=fun h=>ai i h i (.inl rfl) rfl
 have aX:s.root≠i:=fun e=>by
  by_cases h:s.root=0
  . exact i0 (e.symm.trans h)
  . exact an (e▸hs.mQ h)
 -- sides
 have aW:jy xs i=(sd d,true):=KB iu U pk (by rw[po];exact aX)
 -- the parent's parent
 obtain⟨g,R⟩:∃ g,(fJ xs p).up=g:=⟨_,rfl⟩
 have S:g=vZ c q:=R.symm.trans pu
 -- the middle tree,and the outer one
 obtain⟨m,o,hm⟩:∃ m o:Tr,(m,o)=(bif d then(b,a)else(a,b)):=⟨_,_,rfl⟩
 have aL:gO xs m i/\gO xs o i/\je xs (!d) i=m.root/\je xs d i=o.root/\(∀ j,j∈m.mem\/j∈o.mem↔j∈a.mem\/j∈b.mem)/\i∉m.mem/\i∉o.mem/\m.mem.Nodup/\o.mem.Nodup/\∀ j∈m.mem,j∉o.mem:=by
  cases d<;>(simp only[cond_true,cond_false,Prod.mk.injEq]at hm;obtain⟨rfl,rfl⟩:=hm)
  . exact⟨ha,hb,by simpa[je]using av,by simpa[je]using aw,fun j=>Iff.rfl,ak,ay,na,nb,fun j n r=>ai j n j (.inr r) rfl⟩
  . exact⟨hb,ha,by simpa[je]using aw,by simpa[je]using av,fun j=>Or.comm,ay,ak,nb,na,fun j n r=>ai j r j (.inr n) rfl⟩
 obtain⟨G,aO,aq,aQ,ao,am,aF,ad,a6,aM⟩:=aL
 have C:∀ j,j∈m.mem\/j∈o.mem->j≠p/\j∉s.mem/\j∉jR c:=fun j l=>by
  have:=P j (by rcases(ao j).1 l with h|h<;>simp[h])
  exact⟨this.1,this.2.1,this.2.2⟩
 have a5:m.root<xs.length:=G.A9 o_
 have ac:m.root≠i:=fun e=>am (e▸G.mQ o_)
 have ae:m.root≠p:=fun e=>(C m.root (.inl (G.mQ o_))).1 e
 -- the first step
 obtain⟨y1,F⟩:∃ y,y=(if (jy xs p).2=true then iW xs g (jy xs p).1 i else fN xs i (fun x=>{ x with up:=g })):=⟨_,rfl⟩
 have aY:y1.length=xs.length/\fJ y1 i={ fJ xs i with up:=g }/\(∀ j,j≠i->j∉jR c->fJ y1 j=fJ xs j)/\(∀ B v D c', c=(B, v, D) :: c' -> (∀ j,j≠i->j≠v -> fJ y1 j=fJ xs j)/\fJ y1 v = qS B i (fJ xs v))/\(c=[]->∀ j,j≠i->fJ y1 j=fJ xs j):=by
  cases c with
  | nil =>
   have ag:jy xs p=(0,false):=Sr (p:=q) (by rw[R,S];rfl) (hq rfl)
   rw[ag]at F
   simp only[Bool.false_eq_true,if_false]at F
   subst F
   refine⟨gC,ko il,fun j l _=>j5 (fun e=>l e.symm),?_,fun _ j l=>j5 (fun e=>l e.symm)⟩
   intro B v D c' e
   cases e
  | cons f c' =>
   obtain⟨B, v, D⟩:=f
   obtain⟨⟨g0,gl⟩,⟨gk,go,gu⟩,gv,gs,gc⟩:=aa
   simp only[jR,nw,zb,zo,not_or]at ab H
   have a7:p≠v := H.2.1
   have ag:jy xs p=(sd B, true):=KB (p:=v) (by rw[R,S];rfl) g0 gk (by
    rw[go]
    intro e
    have hr:D.root≠0:=by rw[e];exact U
    exact H.2.2.1 (e▸gs.mQ hr))
   rw[ag]at F
   simp only[if_true]at F
   have aE:g=v := S
   subst aE
   have al:i≠g:=ab.1
   subst F
   have Q:=IN (xs:=xs) (d:=B) gl il al
   refine⟨IP _ _ _ _,by rw[Q,if_neg al,if_pos ⟨rfl,i0⟩],fun j l aG=>?_,fun d2 g2 s2 c2 e=>?_,fun e=>by cases e⟩
   . rw[Q,if_neg (fun e=>aG (by simp[jR,e])),if_neg (fun e=>l e.1)]
   . cases e
     exact⟨fun j n r=>by rw[Q,if_neg r,if_neg (fun e=>n e.1)],by rw[Q,if_pos rfl]⟩
 obtain⟨l1,a1,o1,c1,e1⟩:=aY
 have az:p∉jR c:=H.2
 have aS:fJ y1 p=fJ xs p:=o1 p (fun e=>J e.symm) az
 have aH:(if sd d=0 then(fJ y1 i).k1 else(fJ y1 i).k0)=m.root:=by
  rw[a1]
  cases d
  . simp only[sd,cond_false,Dl,if_false];simpa[je]using aq
  . simp only[sd,cond_true,if_true];simpa[je]using aq
 -- the second step
 obtain⟨y2,Y⟩:∃ y,y=iW y1 p (sd d) m.root:=⟨_,rfl⟩
 have ni:=IN (xs:=y1) (i:=p) (k:=m.root) (d:=d) o_ o_ ae
 rw[<-Y]at ni
 have l2:y2.length=xs.length:=by rw[Y,IP,l1]
 -- the third step
 obtain⟨u,Z⟩:∃ y,y=iW y2 i (sd (!d)) p:=⟨_,rfl⟩
 have nj:=IN (xs:=y2) (i:=i) (k:=p) (d := !d) o_ o_ (fun e=>J e.symm)
 rw[<-Z]at nj
 have l3:u.length=xs.length:=by rw[Z,IP,l2]
 have ar:iG xs i=iI (iI u p) i:=by
  have aV:1-sd d=sd (!d):=by cases d<;>rfl
  unfold iG
  simp only[aW,iu,R,<-F,aH,<-Y,aV,<-Z]
 -- the nodes before the refreshes
 have a0:fJ y2 i={ fJ xs i with up:=g }:=by rw[ni,if_neg J,if_neg (fun e=>ac e.1.symm),a1]
 have a2:fJ y2 p=qS d m.root (fJ xs p):=by rw[ni,if_pos rfl,aS]
 have aA:fJ u i=qS (!d) p { fJ xs i with up:=g }:=by rw[nj,if_pos rfl,a0]
 have X:fJ u p={ qS d m.root (fJ xs p)with up:=i }:=by rw[nj,if_neg (fun e=>J e.symm),if_pos ⟨rfl,U⟩,a2]
 have aB:m.root≠0->fJ u m.root={ fJ xs m.root with up:=p }:=fun h=>by
  rw[nj,if_neg ac,if_neg (fun e=>ae e.1),ni,if_neg ae,if_pos ⟨rfl,h⟩,o1 _ ac (C _ (.inl (G.mQ h))).2.2]
 have W:∀ j,j≠i->j≠p->(j≠m.root\/m.root=0)->fJ u j=fJ y1 j:=fun j n r w=>by
  rw[nj,if_neg n,if_neg (fun e=>r e.1),ni,if_neg r,if_neg (fun e=>by rcases w with w|w;exact w e.1;exact e.2 w)]
 have V:∀ j,j≠i->j≠p->(j≠m.root\/m.root=0)->j∉jR c->fJ u j=fJ xs j:=fun j n r w h4=>by rw[W j n r w,o1 j n h4]
 have M:∀ j,j∉m.mem->j≠m.root\/m.root=0:=fun j l=>by
  by_cases h:m.root=0
  . exact .inr h
  . exact .inl (fun e=>l (e▸G.mQ h))
 have ah:∀ j,(fJ u j).key=(fJ xs j).key/\(fJ u j).iP=(fJ xs j).iP/\(fJ u j).flip=(fJ xs j).flip:=by
  have a3:∀ j,(fJ y1 j).key=(fJ xs j).key/\(fJ y1 j).iP=(fJ xs j).iP/\(fJ y1 j).flip=(fJ xs j).flip:=by
   intro j
   by_cases n:j=i
   . subst n;rw[a1];exact⟨rfl,rfl,rfl⟩
   . cases hc:c with
     | nil=>rw[e1 hc j n];exact⟨rfl,rfl,rfl⟩
     | cons f c' =>
      obtain⟨B, v, D⟩:=f
      obtain⟨k1,k2⟩:=c1 B v D c' hc
      by_cases r:j=v
      . subst r;rw[k2];exact⟨Kz _ _ _,KA _ _ _,Ky _ _ _⟩
      . rw[k1 j n r];exact⟨rfl,rfl,rfl⟩
  intro j
  by_cases n:j=i
  . subst n;rw[aA];exact⟨by rw[Kz],by rw[KA],by rw[Ky]⟩
  . by_cases r:j=p
    . subst r;rw[X];exact⟨Kz _ _ _,KA _ _ _,Ky _ _ _⟩
    . by_cases w:j=m.root/\m.root≠0
      . obtain⟨rfl,w⟩:=w;rw[aB w];exact⟨rfl,rfl,rfl⟩
      . rw[W j n r (by by_cases h:m.root=0;exact .inr h;exact .inl (fun e=>w ⟨e,h⟩))];exact a3 j
 have O:KL xs u:=⟨l3,fun j=>(ah j).1,fun j=>(ah j).2.1⟩
 -- the trees before the refreshes
 have aK:gO u m p:=by
  cases m with
  | nil=>trivial
  | nd ml mi mr =>
   refine G.up O (fun j l hr=>?_) (aB G.1.1) ad
   obtain⟨n,r,w⟩:=C j (.inl l)
   exact V j (fun e=>am (e▸l)) n (.inl hr) w
 have af:∀ j∈s.mem,j∉m.mem:=fun j l hm=>(C j (.inl hm)).2.1 l
 have aU:gO u s p:=hs.to O fun j l=>V j (fun e=>an (e▸l)) (fun e=>H.1 (e▸l)) (M j (af j l)) (fun h9=>aZ j l j h9 rfl)
 have aP:gO u o i:=aO.to O fun j l=>V j (fun e=>aF (e▸l)) (C j (.inr l)).1 (M j (fun h=>aM j h l)) (C j (.inr l)).2.2
 have I:∀ j∈jR c,j≠i/\j≠p/\j∉m.mem:=fun j l=>⟨fun e=>ab (e▸l),fun e=>az (e▸l),fun h=>(C j (.inl h)).2.2 l⟩
 have aD:mj u c i (jQ d (a.mem++i :: b.mem) p s) q:=by
  refine aa.kF O fun B v D c' e=>?_
  obtain⟨k1,k2⟩:=c1 B v D c' e
  subst e
  simp only[jR,nw,zt,zo,not_or]at nc I
  refine⟨fun j l=>?_,?_⟩
  . have K : j∈D.mem\/j∈jR c' := by simpa using l
    have h:=I j (by simp only[zb,zo];exact .inr K)
    rw[W j h.1 h.2.1 (M j h.2.2),k1 j h.1]
    rintro rfl
    rcases K with h' | h'
    . exact nc.1.1 h'
    . exact nc.1.2 h'
  . have h:=I v s_
    rw[W v h.1 h.2.1 (M v h.2.2),k2]
 -- the parent is refreshed
 have aJ:(jQ d m.mem p s).length<=1000000:=by
  refine kg ?_ aj
  refine kg ?_ (J2 c (jQ d (a.mem++i :: b.mem) p s))
  cases d<;>(simp only[cond_true,cond_false,Prod.mk.injEq]at hm;obtain⟨rfl,rfl⟩:=hm)<;>simp[jQ]<;>omega
 have aI:(jQ d (a.mem++i :: b.mem) p s).length<=1000000:=kg (J2 c _) aj
 have aN:(jQ d m.mem p s).Nodup:=by
  cases d
  . simp only[jQ,cond_false,zr,zt]
    exact⟨ns,⟨fun h=>(C p (.inl h)).1 rfl,ad⟩,fun x N y A e=>by
     subst e
     rcases zb.1 A with rfl|A
     . exact H.1 N
     . exact af x N A⟩
  . simp only[jQ,cond_true,zr,zt]
    exact⟨ad,⟨H.1,ns⟩,fun x N y A e=>by
     subst e
     rcases zb.1 A with rfl|A
     . exact(C _ (.inl N)).1 rfl
     . exact af x A N⟩
 obtain⟨E,hz⟩:=RU (xs:=u) (d:=d) (i:=p) (t:=m) (s:=s) ⟨U,o_⟩ aK aU (by rw[je,X];cases d<;>rfl) (by rw[je,X,<-po];cases d<;>rfl) aN aJ
 rw[show (fJ u p).up=i by rw[X]]at hz
 obtain⟨z,ez⟩:∃ z,z=iI u p:=⟨_,rfl⟩
 rw[<-ez]at E hz ar
 have lz:z.length=xs.length:=by rw[E.len,l3]
 have zi:fJ z i=qS (!d) p { fJ xs i with up:=g }:=by rw[E.other i J,aA]
 have aR:gO z o i:=aP.to E.kl fun j l=>E.other j (C j (.inr l)).1
 have aT:(lY d m p s).root=p:=R7 _ _ _ _
 have au:lY (!d) (lY d m p s) i o=qR d a i b p s:=by
  cases d<;>(simp only[cond_true,cond_false,Prod.mk.injEq]at hm;obtain⟨rfl,rfl⟩:=hm)<;>rfl
 have ap:jQ (!d) (lY d m p s).mem i o=jQ d (a.mem++i :: b.mem) p s:=by rw[<-Jw,au,Kk]
 have aC:(jQ d (a.mem++i :: b.mem) p s).Nodup:=(CJ (c:=c) hn).1
 obtain⟨T,A⟩:=RU (xs:=z) (d := !d) (i:=i) (t:=lY d m p s) (s:=o) ⟨i0,o_⟩ hz aR (by rw[je,zi,aT];cases d<;>rfl) (by rw[je,zi,<-aQ];cases d<;>rfl) (by rw[ap];exact aC) (by rw[ap];exact aI)
 rw[<-ar]at T A
 rw[au,show (fJ z i).up=g by rw[zi,adS]]at A
 have o2:∀ j,j≠i->j≠p->fJ (iG xs i) j=fJ u j:=fun j n r=>by rw[T.other j n,E.other j r]
 have ax : KL u (iG xs i):=E.kl.trans T.kl
 refine⟨(xV _ _ _).2 ⟨by rw[<-S];exact A,?_⟩,O.trans ax, fun j l=>?_,fun j=>?_⟩
 . rw[adp,Kk]
   exact aD.to ax fun j l=>o2 j (I j l).1 (I j l).2.1
 . have K : j∉jQ d (a.mem++i :: b.mem) p s/\j∉jR c:=by
    have:=mt (CG (c:=c)).2 l
    simpa[not_or]using this
   have L:j≠i/\j≠p/\j∉m.mem:=by
    have n:=K.1
    have r:¬ (j∈a.mem\/j∈b.mem)/\j≠i/\j≠p:=by
     cases d<;>simp only[jQ,cond_true,cond_false,zo,zb,not_or]at n<;>exact⟨by simp[n],by simp[n],by simp[n]⟩
    exact⟨r.2.1,r.2.2,fun h=>r.1 ((ao j).1 (.inl h))⟩
   rw[o2 j L.1 L.2.1,V j L.1 L.2.1 (M j L.2.2) K.2]
 . rw[T.flip,E.flip,(ah j).2.2]
end Go.Sx
namespace Go.Sx
open Go
def gz(xs:List Nd):Bool->Tr->List Nat
 | _,.nil=>[]
 | φ,.nd l i r=>bif (xor φ (fJ xs i).flip)then gz xs (xor φ (fJ xs i).flip) r++i :: gz xs (xor φ (fJ xs i).flip) l else gz xs (xor φ (fJ xs i).flip) l++i :: gz xs (xor φ (fJ xs i).flip) r
theorem tG{xs ys:List Nd}:∀ {t:Tr} {φ:Bool},(∀ j∈t.mem,(fJ ys j).flip=(fJ xs j).flip)->gz ys φ t=gz xs φ t
 | .nil,_,_=>rfl
 | .nd l i r,φ,h=>by
  simp only[gz,h i (by simp[Tr.mem])]
  rw[tG (t:=l) fun j a=>h j (by simp[Tr.mem,a]),tG (t:=r) fun j a=>h j (by simp[Tr.mem,a])]
theorem SA{xs ys:List Nd}{l r:Tr}{i:Nat}{φ:Bool}(hi:(fJ ys i).flip = !(fJ xs i).flip)(h:∀ j∈l.mem++r.mem,(fJ ys j).flip=(fJ xs j).flip):gz ys φ (.nd l i r)=gz xs (!φ) (.nd l i r):=by
 have e:xor φ (!(fJ xs i).flip)=xor (!φ) (fJ xs i).flip:=by cases φ<;>cases (fJ xs i).flip<;>rfl
 simp only[gz,hi,e]
 rw[tG (t:=l) fun j a=>h j (by simp[a]),tG (t:=r) fun j a=>h j (by simp[a])]
theorem oq(xs:List Nd):∀ (φ:Bool) (t:Tr),(gz xs φ t).Perm t.mem
 | _,.nil=>.nil
 | φ,.nd l i r=>by
  have a:=oq xs (xor φ (fJ xs i).flip) l
  have b:=oq xs (xor φ (fJ xs i).flip) r
  simp only[gz,Tr.mem]
  generalize xor φ (fJ xs i).flip=ψ at a b ⊢
  cases ψ with
  | false =>
   simp only[cond_false]
   exact(a.append_right _).trans (List.Perm.append_left _ (b.cons i)) |>.trans (.refl _)
  | true =>
   simp only[cond_true]
   exact((b.append_right _).trans (List.Perm.append_left _ (a.cons i))).trans (qp.trans (by simp only[nw];exact tT.symm))
theorem aei{xs ys:List Nd}{d:Bool}{t t' s:Tr}{g:Nat}(b:∀ ψ,gz ys ψ t' = gz xs ψ t)(h:∀ j∈g :: s.mem,(fJ ys j).flip=(fJ xs j).flip)(φ:Bool):gz ys φ (lY d t' g s)=gz xs φ (lY d t g s):=by
 have hs:∀ ψ,gz ys ψ s=gz xs ψ s:=fun ψ=>tG fun j a=>h j (by simp[a])
 cases d<;>simp only[lY,cond_true,cond_false,gz,h g s_,b,hs]
theorem KD{xs ys:List Nd}:∀ {c:Cx} {t t' : Tr},(∀ ψ,gz ys ψ t' = gz xs ψ t)->(∀ j∈jR c,(fJ ys j).flip=(fJ xs j).flip)->∀ φ,gz ys φ (jY c t')=gz xs φ (jY c t)
 | [],_,_,h,_,φ=>h φ
 | (d,g,s) :: c,t,t', h,hc,φ=>by
  simp only[jY]
  exact KD (c:=c) (fun ψ=>aei h (fun j a=>hc j (by simp only[jR,zo];exact .inl a)) ψ) (fun j a=>hc j (by simp only[jR,zo];exact .inr a)) φ
theorem aej{xs:List Nd}{d:Bool}{a b s:Tr}{i p:Nat}(hi:(fJ xs i).flip=false)(hp:(fJ xs p).flip=false)(φ:Bool):gz xs φ (qR d a i b p s)=gz xs φ (lY d (.nd a i b) p s):=by
 cases d<;>cases φ<;>simp[qR,lY,gz,hi,hp]
theorem gO.FX{xs ys:List Nd}(w:ys.length=xs.length):∀ {t:Tr} {p:Nat},gO xs t p->(∀ j∈t.mem,∃ f,fJ ys j={ fJ xs j with flip:=f })->gO ys t p:=by
 have key:∀ {t:Tr} {p:Nat} (L:List Nat),gO xs t p->(∀ j∈t.mem,∃ f,fJ ys j={ fJ xs j with flip:=f })->gO ys t p:=by
  intro t
  induction t with
  | nil=>intro p L _ _;trivial
  | nd l i r q s =>
   intro p L h hs
   obtain⟨⟨d,v⟩,⟨g,k,m⟩,b,n,o⟩:=h
   obtain⟨f,hi⟩:=hs i (by simp[Tr.mem])
   have c:∀ j∈l.mem++i :: r.mem,(fJ ys j).key=(fJ xs j).key/\(fJ ys j).iP=(fJ xs j).iP:=fun j a=>by
    obtain⟨u, e⟩:=hs j a
    rw[e];exact⟨rfl,rfl⟩
   refine⟨⟨d,o_⟩,⟨by rw[hi];exact g,by rw[hi];exact k,by rw[hi];exact m⟩,⟨by rw[hi];exact b.size,?_,?_⟩,q L n fun j a=>hs j (by simp[Tr.mem,a]),s L o fun j a=>hs j (by simp[Tr.mem,a])⟩
   . rw[hi,show nK ys (l.mem++i :: r.mem)=nK xs (l.mem++i :: r.mem) from congrArg List.sum (yY fun j a=>by rw[(c j a).2])]
     exact b.total
   . rw[hi]
     refine⟨b.first.1,fun j a=>?_⟩
     rcases b.first.2 j a with e|e
     . exact .inl e
     . refine .inr ?_
       rw[<-e]
       simp only[kY,(c j a).1,(c _ b.first.1).1]
 intro t p h hs
 exact key [] h hs
theorem J4{xs:List Nd}{l r:Tr}{i p:Nat}(h:gO xs (.nd l i r) p)(I:(Tr.nd l i r).mem.Nodup) :
 ∃ l' A, ((l' = l/\A = r)\/(l' = r/\A = l))/\gO (jS xs i) (.nd l' i A) p/\(fJ (jS xs i) i).flip=false/\KL xs (jS xs i)/\(∀ j,j∉(Tr.nd l i r).mem->fJ (jS xs i) j=fJ xs j)/\∀ φ,gz (jS xs i) φ (.nd l' i A)=gz xs φ (.nd l i r):=by
 cases hf:(fJ xs i).flip with
 | false =>
  have e:jS xs i=xs:=by unfold jS;rw[hf];rfl
  rw[e]
  exact⟨l,r,.inl ⟨rfl,rfl⟩,h,hf,KL.refl _,fun _ _=>rfl,fun _=>rfl⟩
 | true =>
  obtain⟨⟨i0,Z⟩,⟨k0,k1,up⟩,v,m,n⟩:=h
  simp only[Tr.mem]at I
  rw[zr,zt]at I
  obtain⟨n1,⟨K,n3⟩,P⟩:=I
  have L:i∉l.mem:=fun h=>P i h i s_ rfl
  have H:∀ j∈l.mem,j∉r.mem:=fun j w R=>P j w j (by simp[R]) rfl
  have G:l.root≠i:=fun e=>L (e▸m.mQ o_)
  have O:r.root≠i:=fun e=>K (e▸n.mQ o_)
  have ab:=m.A9 (show 0<xs.length by omega)
  have ac:=n.A9 (show 0<xs.length by omega)
  have X:l.root≠0->l.root≠r.root:=fun d e=>H _ (m.mQ d) (e▸n.mQ (e▸d))
  obtain⟨ys,B⟩:∃ ys,ys=jS xs i:=⟨_,rfl⟩
  have F:ys.length=xs.length:=by
   rw[B];unfold jS;rw[if_pos hf];simp only;split<;>split<;>simp[gC]
  have T:fJ ys i={ fJ xs i with flip:=false,k0:=r.root,k1:=l.root }/\(∀ j,j≠i->fJ ys j=if (j=l.root\/j=r.root)/\j≠0 then { fJ xs j with flip := !(fJ xs j).flip } else fJ xs j):=by
   obtain⟨y0,s⟩:∃ y,y=fN xs i (fun x=>{ x with flip:=false }):=⟨_,rfl⟩
   obtain⟨y1,e1⟩:∃ y,y=fN y0 i (fun x=>{ x with k0:=(fJ y0 i).k1 }):=⟨_,rfl⟩
   obtain⟨y2,u⟩:∃ y,y=fN y1 i (fun x=>{ x with k1:=(fJ y0 i).k0 }):=⟨_,rfl⟩
   have l0:y0.length=xs.length:=by rw[s,gC]
   have l1:y1.length=xs.length:=by rw[e1,gC,l0]
   have l2:y2.length=xs.length:=by rw[u,gC,l1]
   have a0:fJ y0 i={ fJ xs i with flip:=false }:=by rw[s,ko Z]
   have a2:fJ y2 i={ fJ xs i with flip:=false,k0:=r.root,k1:=l.root }:=by
    rw[u,ko o_,e1,ko o_,a0,<-k0,<-k1]
   have b2:∀ j,j≠i->fJ y2 j=fJ xs j:=fun j c=>by
    rw[u,j5 (fun e=>c e.symm),e1,j5 (fun e=>c e.symm),s,j5 (fun e=>c e.symm)]
   have hp:jS xs i=(let M:=if (fJ y2 i).k0=0 then y2 else fN y2 (fJ y2 i).k0 (fun x=>{ x with flip := !(fJ y2 (fJ y2 i).k0).flip });if (fJ y2 i).k1=0 then M else fN M (fJ y2 i).k1 (fun x=>{ x with flip := !(fJ M (fJ y2 i).k1).flip })):=by
    unfold jS;rw[if_pos hf];simp only[<-s,<-e1,<-u]
   rw[B,hp]
   simp only[a2]
   by_cases hr0:r.root=0
   . by_cases hl0:l.root=0
     . simp only[hr0,hl0,if_true]
       refine⟨by rw[a2,hr0,hl0],fun j c=>?_⟩
       rw[b2 j c,if_neg (by rintro⟨e|e,d⟩<;>exact d e)]
     . simp only[hr0,if_true,if_neg hl0]
       refine⟨by rw[j5 G,a2,hr0],fun j c=>?_⟩
       rw[iS o_]
       by_cases e:l.root=j
       . subst e;rw[if_pos rfl,if_pos ⟨.inl rfl,hl0⟩,b2 _ c]
       . rw[if_neg e,if_neg (by rintro⟨e' | e', d⟩;exact e e'.symm;exact d e'),b2 j c]
   . have aa:fJ y2 l.root=fJ xs l.root:=b2 _ G
     by_cases hl0:l.root=0
     . simp only[hl0,if_true,if_neg hr0]
       refine⟨by rw[j5 O,a2,hl0],fun j c=>?_⟩
       rw[iS o_]
       by_cases e:r.root=j
       . subst e;rw[if_pos rfl,if_pos ⟨.inr rfl,hr0⟩,b2 _ c]
       . rw[if_neg e,if_neg (by rintro⟨e' | e', d⟩;exact d e'; exact e e'.symm),b2 j c]
     . simp only[if_neg hl0,if_neg hr0]
       refine⟨by rw[j5 G,j5 O,a2],fun j c=>?_⟩
       rw[iS (by rw[gC];omega)]
       by_cases e:l.root=j
       . subst e;rw[if_pos rfl,if_pos ⟨.inl rfl,hl0⟩,j5 (fun e=>X hl0 e.symm),b2 _ c]
       . rw[if_neg e,iS o_]
         by_cases e' : r.root=j
         . subst e'; rw[if_pos rfl,if_pos ⟨.inr rfl,hr0⟩,b2 _ c]
         . rw[if_neg e', if_neg (by rintro⟨q|q,d⟩;exact e q.symm;exact e' q.symm),b2 j c]
  obtain⟨g,o⟩:=T
  have z:∀ j,j≠i->∃ f,fJ ys j={ fJ xs j with flip:=f }:=fun j c=>by
   rw[o j c];split
   . exact⟨_,rfl⟩
   . exact⟨(fJ xs j).flip,rfl⟩
  have kl:KL xs ys:=by
   refine⟨F,fun j=>?_,fun j=>?_⟩<;>(by_cases c:j=i)
   . subst c;rw[g]
   . obtain⟨f,e⟩:=z j c;rw[e]
   . subst c;rw[g]
   . obtain⟨f,e⟩:=z j c;rw[e]
  have W : gO ys l i:=m.FX F fun j c=>z j (fun e=>L (e▸c))
  have J : gO ys r i:=n.FX F fun j c=>z j (fun e=>K (e▸c))
  rw[<-B]
  have Q:∀ (t:Tr),(t=l\/t=r)->gO xs t i->t.mem.Nodup->(∀ j∈t.mem,j≠i)->(∀ j∈t.mem,j≠t.root->j≠l.root/\j≠r.root)->∀ φ,gz ys φ t=gz xs (!φ) t:=by
   intro t Y S D C N φ
   cases t with
   | nil=>rfl
   | nd a k b =>
    simp only[Tr.mem]at D C N
    rw[zr,zt]at D
    obtain⟨m1,⟨m2,m3⟩,m4⟩:=D
    refine SA ?_ fun j c=>?_
    . rw[o k (C k s_),if_pos ⟨by rcases Y with e|e<;>rw[<-e]<;>simp[Tr.root],S.1.1⟩]
    . have E : j∈a.mem\/j∈b.mem:=by simpa using c
      have V:j≠k:=by rintro rfl;rcases E with h|h;exact m4 j h j s_ rfl;exact m2 h
      have w:=N j (by simp only[zo,zb];rcases E with h|h<;>simp[h]) V
      rw[o j (C j (by simp only[zo,zb];rcases E with h|h<;>simp[h])),if_neg (by rintro⟨e|e,_⟩;exact w.1 e;exact w.2 e)]
  have sl:=Q l (.inl rfl) m n1 (fun j c e=>L (e▸c)) (fun j c U=>⟨U,fun e=>by
   by_cases d:r.root=0
   . exact(m.p8 j c).1 (e.trans d)
   . exact H j c (e▸n.mQ d)⟩)
  have sr:=Q r (.inr rfl) n n3 (fun j c e=>K (e▸c)) (fun j c J => ⟨fun e=>by
   by_cases d:l.root=0
   . exact(n.p8 j c).1 (e.trans d)
   . exact H j (e▸m.mQ d) c,J⟩)
  refine⟨r,l,.inr ⟨rfl,rfl⟩,⟨⟨i0,o_⟩,⟨by rw[g],by rw[g],by rw[g];exact up⟩,?_,J, W⟩,by rw[g],kl,fun j c=>?_,fun φ=>?_⟩
  . have v' : oZ ys i (l.mem++i :: r.mem):=v.to kl (by rw[g]) (by rw[g]) (by rw[g])
    exact v'.perm (qp.trans (by simp only[nw];exact tT.symm))
  . simp only[Tr.mem,zo,zb,not_or]at c
    rw[o j c.2.1,if_neg]
    rintro⟨e|e,d⟩
    . exact c.1 (e▸m.mQ (e▸d))
    . exact c.2.2 (e▸n.mQ (e▸d))
  . simp only[gz,hf,g,sl,sr]
    cases φ<;>simp
theorem mj.perm{xs:List Nd}:∀ {c:Cx} {r q:Nat} {L M:List Nat},mj xs c r L q->L.Perm M->mj xs c r M q
 | [],_,_,_,_,_,_=>trivial
 | (d,g,s) :: c,r,q,L,M,h,hp=>by
  obtain⟨b,e,f,i,j⟩:=h
  have a:(jQ d L g s).Perm (jQ d M g s):=by
   cases d
   . exact List.Perm.append_left _ (hp.cons g)
   . exact hp.append_right _
  exact⟨b,e,f.perm a,i,mj.perm j a⟩
theorem RH:∀ {c:Cx} {L M:List Nat},L.Perm M->(k9 c L).Perm (k9 c M)
 | [],_,_,h=>h
 | (d,g,s) :: c,L,M,h=>by
  refine RH (c:=c) ?_
  cases d
  . exact List.Perm.append_left _ (h.cons g)
  . exact h.append_right _
theorem Jx:∀ {c:Cx} {f:Bool×Nat×Tr},f∈c->f.2.1∈jR c
 | [],_,h=>by simp at h
 | (d,g,s) :: c,f,h=>by
  simp only[jR,zo,zb]
  rcases zb.1 h with rfl|h
  . exact .inl (.inl rfl)
  . exact .inr (Jx h)
end Go.Sx
namespace Go.Sx
open Go
theorem J3:∀ (c c' : Cx) (t:Tr),jY (c++c') t=jY c' (jY c t)
 | [],_,_=>rfl
 | (d,g,s) :: c,c', t=>by simp only[nw,jY];exact J3 c c' _
theorem Fc{i:Nat}:∀ {t:Tr},i∈t.mem->∃ c a b,t=jY c (.nd a i b)
 | .nil,h=>by simp[Tr.mem]at h
 | .nd l j r,h=>by
  simp only[Tr.mem,zo,zb]at h
  rcases h with h|rfl|h
  . obtain⟨c,a,b,e⟩:=Fc h
    exact⟨c++[(true,j,r)],a,b,by rw[J3,<-e];rfl⟩
  . exact⟨[],l,r,rfl⟩
  . obtain⟨c,a,b,e⟩:=Fc h
    exact⟨c++[(false,j,l)],a,b,by rw[J3,<-e];rfl⟩
def jj(c:Cx)(i:Nat):List Nat:=i :: c.map (fun f=>f.2.1)
def Way(i:Nat):Tr->List Nat->Prop
 | .nil,_=>False
 | .nd l j r,w=>(j=i/\w=[i])\/∃ w', w=j :: w' /\ (Way i l w' \/ Way i r w')
theorem Tz{i:Nat}:∀ {c:Cx} {t:Tr} {w:List Nat},Way i t w->Way i (jY c t) ((c.map (fun f=>f.2.1)).reverse++w)
 | [],_,_,h=>h
 | (d,g,s) :: c,t,w,h=>by
  have:Way i (lY d t g s) (g :: w):=by cases d<;>simp only[lY,cond_true,cond_false,Way];exact .inr ⟨w,rfl,.inr h⟩;exact .inr ⟨w,rfl,.inl h⟩
  have:=Tz (c:=c) this
  simpa[jY]using this
theorem ag7(c:Cx)(a:Tr)(i:Nat)(b:Tr):Way i (jY c (.nd a i b)) (jj c i).reverse:=by
 have:=Tz (c:=c) (t:=.nd a i b) (w:=[i]) (.inl ⟨rfl,rfl⟩)
 simpa[jj]using this
structure At (xs:List Nd) (c:Cx) (j:Nat) (L:List Nat) (q:Nat):Prop where
 rep:mj xs c j L q
 up:(fJ xs j).up=vZ c q
 mem:j∈L
 nodup:(k9 c L).Nodup
 ne:j≠0
 lt:j<xs.length
def Out(xs:List Nd)(q:Nat)(L:List Nat):Prop:=q=0\/je xs true q∉L/\je xs false q∉L/\q∉L
theorem At.start{xs:List Nd}{c:Cx}{a b:Tr}{i q:Nat}(h:gO xs (jY c (.nd a i b)) q)(f:(jY c (.nd a i b)).mem.Nodup):At xs c i (Tr.nd a i b).mem q:=by
 obtain⟨d,e⟩:=(xV _ _ _).1 h
 exact⟨e,d.2.1.2.2,by simp[Tr.mem],by rw[<-pH];exact f,d.1.1,d.1.2⟩
theorem At.step{xs:List Nd}{d:Bool}{g:Nat}{s:Tr}{c:Cx}{j q:Nat}{L:List Nat}(h:At xs ((d,g,s) :: c) j L q):jy xs j=(sd d,true)/\(fJ xs j).up=g/\At xs c g (jQ d L g s) q:=by
 obtain⟨⟨a,k⟩,⟨i,go,m⟩,t,l,f⟩:=h.rep
 have b:=h.nodup
 obtain⟨n1,u,r⟩:=CJ b
 have o:s.root≠j:=fun e=>by
  have n:s.root≠0:=by rw[e];exact h.ne
  exact r j h.mem (by simp only[jR,zo,zb];exact .inl (.inr (e▸l.mQ n)))
 refine⟨KB (p:=g) h.up a i (by rw[go];exact o),h.up,f,m,by cases d<;>simp[jQ],b,a,k⟩
theorem At.stop{xs:List Nd}{j q:Nat}{L:List Nat}(h:At xs [] j L q)(c:Out xs q L):jy xs j=(0,false) :=
 Sr h.up (by
  rcases c with e|⟨a,b,_⟩
  . exact .inl e
  . exact .inr ⟨fun e=>a (e▸h.mem),fun e=>b (e▸h.mem)⟩)
structure jB (xs0 xs:List Nd) (T0:Tr) (O:Cx) (U:Tr) (q:Nat):Prop where
 rep:gO xs (jY O U) q
 perm:(jY O U).mem.Perm T0.mem
 ord:∀ φ,gz xs φ (jY O U)=gz xs0 φ T0
 kl:KL xs0 xs
 other:∀ j,j∉T0.mem->fJ xs j=fJ xs0 j
 flip:∀ f∈O,(fJ xs f.2.1).flip=false
theorem jB.start{xs:List Nd}{T:Tr}{q:Nat}(h:gO xs T q):jB xs xs T [] T q:=⟨h,.refl _,fun _=>rfl,KL.refl _,fun _ _=>rfl,s_⟩
theorem jB.nodup{c xs:List Nd}{a U:Tr}{O:Cx}{q:Nat}(h:jB c xs a O U q)(b:a.mem.Nodup):(k9 O U.mem).Nodup:=by rw[<-pH];exact(h.perm.nodup_iff).2 b
theorem jB.push{o xs:List Nd}{c l r:Tr}{O:Cx}{q j:Nat}(h:jB o xs c O (.nd l j r) q)(v:c.mem.Nodup) :
 ∃ l' b, ((l' = l/\b = r)\/(l' = r/\b = l))/\jB o (jS xs j) c O (.nd l' j b) q/\(fJ (jS xs j) j).flip=false:=by
 have w:=h.nodup v
 obtain⟨x,z,y⟩:=CJ w
 obtain⟨t,p⟩:=(xV _ _ _).1 h.rep
 obtain⟨l', b, i,s,u,g,n,hs⟩:=J4 t x
 have m:(Tr.nd l' j b).mem.Perm (Tr.nd l j r).mem:=by
  rcases i with ⟨rfl,rfl⟩|⟨rfl,rfl⟩
  . exact .refl _
  . simp only[Tr.mem]
    exact qp.trans (by simp only[nw];exact tT.symm)
 have d:∀ k∈jR O,fJ (jS xs j) k=fJ xs k:=fun k a => n k fun hm=>y k hm a
 refine⟨l', b, i,⟨(xV _ _ _).2 ⟨s,?_⟩,?_,fun φ=>?_,h.kl.trans g,fun k a => ?_,fun f e => ?_⟩,u⟩
 . exact(p.to g d).perm m.symm
 . refine List.Perm.trans ?_ h.perm
   rw[pH,pH]
   exact RH m
 . rw[<-h.ord φ]
   exact KD hs (fun k a => by rw[d k a]) φ
 . rw[n k ?_,h.other k a]
   intro hm
   exact a (h.perm.mem_iff.1 (by rw[pH];exact CG.2 (.inl hm)))
 . rw[d f.2.1 (Jx e)]
   exact h.flip f e
theorem jB.rotate{m xs:List Nd}{g a b s:Tr}{d:Bool}{c:Cx}{p i q:Nat}(h:jB m xs g ((d,p,s) :: c) (.nd a i b) q)(z:g.mem.Nodup)(x:xs.length<=1000001)(D:g.mem.length<=1000000)(C:Out m q g.mem)
 (hi:(fJ xs i).flip=false):jB m (iG xs i) g c (qR d a i b p s) q/\∀ j,(fJ (iG xs i) j).flip=(fJ xs j).flip:=by
 have A:=h.nodup z
 have o:p∈g.mem:=h.perm.mem_iff.1 (by rw[pH];exact CG.2 (.inr (by simp[jR])))
 have E:(k9 ((d,p,s) :: c) (a.mem++i :: b.mem)).length=g.mem.length:=by
  have:=h.perm.length_eq
  rw[pH]at this
  exact this
 obtain⟨v,l⟩:=xY h.rep A x o_ (fun _=>by
  rcases C with e|⟨r,t,u⟩
  . exact .inl e
  . have e:fJ xs q=fJ m q:=h.other q u
    refine .inr ⟨fun e' => r ?_,fun e' => t ?_⟩
    . rw[je,e]at e'; rw[je,e'];exact o
    . rw[je,e]at e'; rw[je,e'];exact o)
 have B:=h.flip (d,p,s) s_
 have y:(jY c (qR d a i b p s)).mem=(jY ((d,p,s) :: c) (.nd a i b)).mem:=by
  rw[pH,pH,Kk];rfl
 refine⟨⟨v,by rw[y];exact h.perm,fun φ=>?_,h.kl.trans l.kl,fun k n=>?_,fun f w=>?_⟩,l.flip⟩
 . rw[<-h.ord φ]
   have e1:gz (iG xs i) φ (jY c (qR d a i b p s))=gz xs φ (jY c (qR d a i b p s)):=tG fun j _=>l.flip j
   rw[e1]
   exact KD (c:=c) (fun ψ=>aej hi B ψ) (fun _ _=>rfl) φ
 . rw[l.other k ?_,h.other k n]
   intro hm
   refine n (h.perm.mem_iff.1 ?_)
   rw[pH]
   exact hm
 . rw[l.flip]
   exact h.flip f (by simp[w])
theorem ahE(d:Bool)(a:Tr)(i:Nat)(b:Tr)(p:Nat)(s:Tr)(g:Nat)(s' : Tr) :
 qR d (bif d then .nd a i b else s) p (bif d then s else .nd a i b) g s' = lY d (.nd a i b) p (bif d then .nd s g s' else .nd s' g s):=by
 cases d<;>rfl
theorem abG(d:Bool)(t:Tr)(p:Nat)(s:Tr):lY d t p s = .nd (bif d then t else s) p (bif d then s else t):=by cases d<;>rfl
theorem FB(d:Bool)(a:Tr)(i:Nat)(b:Tr)(p:Nat)(s:Tr):qR d a i b p s = .nd (bif d then a else .nd s p a) i (bif d then .nd b p s else b):=by cases d<;>rfl
theorem jB.ahD{l xs:List Nd}{j a b s s' : Tr}{d:Bool}{c:Cx}{p i g q:Nat}(h:jB l xs j ((d,p,s) :: (d,g,s') :: c) (.nd a i b) q)(t:j.mem.Nodup)(r:xs.length<=1000001)(o:j.mem.length<=1000000)(u:Out l q j.mem)
 (hi:(fJ xs i).flip=false):∃ a' v, jB l (iG (iG xs p) i) j c (.nd a' i v) q/\(fJ (iG (iG xs p) i) i).flip=false:=by
 have x:jB l xs j ((d,g,s') :: c) (.nd (bif d then .nd a i b else s) p (bif d then s else .nd a i b)) q:=by
  rw[<-abG]
  exact⟨h.rep,h.perm,h.ord,h.kl,h.other,fun f k=>h.flip f (nv _ k)⟩
 obtain⟨e,m⟩:=x.rotate t r o u (h.flip (d,p,s) s_)
 rw[ahE]at e
 have y:jB l (iG xs p) j ((d,p,(bif d then .nd s g s' else .nd s' g s)) :: c) (.nd a i b) q :=
  ⟨e.rep,e.perm,e.ord,e.kl,e.other,fun f k=>by
   rcases zb.1 k with rfl|k
   . rw[m];exact h.flip (d,p,s) s_
   . exact e.flip f k⟩
 obtain⟨n,w⟩:=y.rotate t (by rw[e.kl.len,<-h.kl.len];exact r) o u (by rw[m];exact hi)
 rw[FB]at n
 exact⟨_,_,n,by rw[w,m];exact hi⟩
theorem jB.ahC{j xs:List Nd}{e a b s s' : Tr}{d u : Bool}{c:Cx}{p i g q:Nat}(h:jB j xs e ((d,p,s) :: (u, g,s') :: c) (.nd a i b) q)(o:e.mem.Nodup)(n:xs.length<=1000001)(m:e.mem.length<=1000000)(r:Out j q e.mem)
 (hi:(fJ xs i).flip=false):∃ a' t, jB j (iG (iG xs i) i) e c (.nd a' i t) q/\(fJ (iG (iG xs i) i) i).flip=false:=by
 obtain⟨f,k⟩:=h.rotate o n m r hi
 rw[FB]at f
 obtain⟨l,v⟩:=f.rotate o (by rw[f.kl.len,<-h.kl.len];exact n) m r (by rw[k];exact hi)
 rw[FB]at l
 exact⟨_,_,l,by rw[v,k];exact hi⟩
theorem jB.zig{e xs:List Nd}{c a b s:Tr}{d:Bool}{p i q:Nat}(h:jB e xs c [(d,p,s)] (.nd a i b) q)(m:c.mem.Nodup)(l:xs.length<=1000001)(k:c.mem.length<=1000000)(n:Out e q c.mem)
 (hi:(fJ xs i).flip=false):∃ a' g, jB e (iG xs i) c [] (.nd a' i g) q/\(fJ (iG xs i) i).flip=false:=by
 obtain⟨f,j⟩:=h.rotate m l k n hi
 rw[FB]at f
 exact⟨_,_,f,by rw[j];exact hi⟩
end Go.Sx
namespace Go.Sx
open Go
def nr(s:List Nat)(q v u:Nat):Prop:=∃ s1 s2,s=s1++v :: s2/\u=s1.getLast?.getD q
theorem JX{q v u:Nat}:¬ nr [] q v u:=by
 rintro⟨s1,s2,h,_⟩;simp at h
theorem sC{x:Nat}{s:List Nat}{q v u:Nat}:nr (x :: s) q v u↔(v=x/\u=q)\/nr s x v u:=by
 constructor
 . rintro⟨s1,s2,h,rfl⟩
   cases s1 with
   | nil=>simp at h;exact .inl ⟨h.1.symm,rfl⟩
   | cons y s1 =>
    simp only[nw,List.cons.injEq]at h
    obtain⟨rfl,rfl⟩:=h
    refine .inr ⟨s1,s2,rfl,?_⟩
    rw[Dt];simp
 . rintro(⟨rfl,rfl⟩|⟨s1,s2,rfl,rfl⟩)
   . exact⟨[],s,rfl,rfl⟩
   . refine⟨x :: s1,s2,rfl,?_⟩
     rw[Dt];simp
theorem Rm{s t:List Nat}{q v u:Nat}:nr (s++t) q v u↔nr s q v u\/nr t (s.getLast?.getD q) v u:=by
 induction s generalizing q with
 | nil=>simp[JX]
 | cons x s a =>
  rw[nw,sC,a,sC,Dt,or_assoc]
  simp
theorem v7{s:List Nat}{q v u:Nat}(h:nr s q v u):v∈s:=by
 obtain⟨s1,s2,rfl,_⟩:=h;simp
theorem abW{s:List Nat}{q v u d : Nat}(b:s.Nodup)(h:nr s q v u)(e : nr s q v d):u=d := by
 induction s generalizing q with
 | nil=>exact absurd h JX
 | cons x s g =>
  rw[zt]at b
  rcases sC.1 h with ⟨rfl,rfl⟩|c<;>rcases sC.1 e with ⟨a,f⟩|a
  . exact f.symm
  . exact absurd (v7 a) b.1
  . subst a;exact absurd (v7 c) b.1
  . exact g b.2 c a
abbrev u7:=List (List Nat×Nat)
def gT(S:u7)(v u:Nat):Prop:=∃ e∈S,nr e.1 e.2 v u
def xK(S:u7):List Nat:=S.flatMap (·.1)
theorem gT.perm{S c : u7}(h:S.Perm c){v u:Nat}:gT S v u↔gT c v u :=
 ⟨fun⟨e,b,a⟩=>⟨e,h.mem_iff.1 b,a⟩,fun⟨e,b,a⟩=>⟨e,h.mem_iff.2 b,a⟩⟩
theorem gT.cons{e:List Nat×Nat}{S:u7}{v u:Nat}:gT (e :: S) v u↔nr e.1 e.2 v u\/gT S v u:=by
 simp only[gT,zb,exists_eq_or_imp]
theorem sD{S:u7}(d:(xK S).Nodup){v u i : Nat}(h:gT S v u)(j : gT S v i):u=i := by
 induction S with
 | nil=>obtain⟨e,k,_⟩:=h;simp at k
 | cons e S m =>
  simp only[xK,zx,zr]at d
  obtain⟨n1,n,g⟩:=d
  have c:∀ {w},gT S v w->v∈S.flatMap (·.1):=fun⟨f,l,hp⟩=>qo.2 ⟨f,l,v7 hp⟩
  rcases gT.cons.1 h with a|a<;>rcases gT.cons.1 j with b|b
  . exact abW n1 a b
  . exact absurd rfl (g v (v7 a) v (c b))
  . exact absurd rfl (g v (v7 b) v (c a))
  . exact m n a b
inductive PR (P:Nat->Nat->Prop):Nat->Nat->Prop where
 | top {v:Nat} (h:P v 0):PR P v v
 | step {v u r:Nat} (h:P v u) (h0:u≠0) (k:PR P u r):PR P v r
theorem PR.mono{P Q:Nat->Nat->Prop}(h:∀ v u,P v u->Q v u){v r:Nat}(k:PR P v r):PR Q v r:=by
 induction k with
 | top hp=>exact .top (h _ _ hp)
 | step hp a _ b=>exact .step (h _ _ hp) a b
theorem PR.unique{P:Nat->Nat->Prop}(c:∀ v u f, P v u->P v f -> u=f){v r e : Nat}(k:PR P v r)(k' : PR P v e):r=e := by
 induction k with
 | top hp =>
  cases k' with
  | top _=>rfl
  | step a b _=>exact absurd (c _ _ _ a hp) b
 | step hp b _ g =>
  cases k' with
  | top a => exact absurd (c _ _ _ hp a) b
  | step a _ d=>rw[c _ _ _ a hp]at d;exact g d
theorem PR.root{P:Nat->Nat->Prop}{v r:Nat}(k:PR P v r):P r 0:=by
 induction k with
 | top h=>exact h
 | step _ _ _ a=>exact a
theorem PR.ES{P:Nat->Nat->Prop}{s:List Nat}:∀ {q v h:Nat},s.head? = some h->(∀ x∈s,x≠0)->(∀ v u,nr s q v u->P v u)->v∈s->(q=0->PR P v h)/\(∀ r,q≠0->PR P q r->PR P v r):=by
 induction s with
 | nil=>intro q v h a;simp at a
 | cons x s i =>
  intro q v h a c f hv
  simp only[List.head?_cons,Option.some.injEq]at a
  subst a
  have b:P x q:=f _ _ (sC.2 (.inl ⟨rfl,rfl⟩))
  rcases zb.1 hv with rfl|hv
  . exact⟨fun e=>.top (e▸b),fun r d k=>.step b d k⟩
  . cases s with
    | nil=>simp at hv
    | cons y s =>
     have:=(i (q:=x) (v:=v) (h:=y) rfl (fun z g=>c z (nv _ g)) (fun v u hp=>f _ _ (sC.2 (.inr hp))) hv).2
     exact⟨fun e=>this x (c x s_) (.top (e▸b)),fun r d k=>this r (c x s_) (.step b d k)⟩
end Go.Sx
namespace Go.Sx
open Go
abbrev FT:=List (Tr×Nat)
def jH(F:FT):List Nat:=F.flatMap fun e=>e.1.mem
def gQ(xs:List Nd)(F:FT):u7:=F.map fun e=>(gz xs false e.1,e.2)
structure Fo (xs:List Nd) (F:FT):Prop where
 rep:∀ e∈F,gO xs e.1 e.2
 ne:∀ e∈F,e.1.root≠0
 nodup:(jH F).Nodup
 all:∀ j,j≠0->j<xs.length->j∈jH F
 par:∀ e∈F,e.2<xs.length
 sF:∃ ρ:Nat->Nat,(∀ e∈F,∀ i∈e.1.mem,∀ j∈e.1.mem,ρ i=ρ j)/\∀ e∈F,e.2≠0->∀ i∈e.1.mem,ρ i<ρ e.2
 zero:(fJ xs 0).k0=0/\(fJ xs 0).k1=0/\(fJ xs 0).total=0
 pos:0<xs.length
 len:xs.length<=1000001
theorem Rq{α β:Type}{l l' : List α}(h:l.Perm l')(f:α->List β):(l.flatMap f).Perm (l'.flatMap f):=by
 induction h with
 | nil=>exact .nil
 | cons x _ a=>simp only[zx];exact a.append_left _
 | swap x y l =>
  simp only[zx,<-ox]
  exact qp.append_right _
 | trans _ _ b c=>exact b.trans c
theorem Fo.perm{xs:List Nd}{F F' : FT}(h:Fo xs F)(hp:F.Perm F'):Fo xs F' := by
 have b:(jH F).Perm (jH F'):=Rq hp _
 obtain⟨ρ,d,f⟩:=h.sF
 exact⟨fun e a=>h.rep e (hp.mem_iff.2 a),fun e a=>h.ne e (hp.mem_iff.2 a),b.nodup_iff.1 h.nodup,fun j c g=>b.mem_iff.1 (h.all j c g),fun e a=>h.par e (hp.mem_iff.2 a),
  ⟨ρ,fun e a=>d e (hp.mem_iff.2 a),fun e a=>f e (hp.mem_iff.2 a)⟩,h.zero,h.pos,h.len⟩
theorem oc{F:FT}{e:Tr×Nat}{j:Nat}(a:e∈F)(b:j∈e.1.mem):j∈jH F:=qo.2 ⟨e,a,b⟩
theorem Fo.split{xs:List Nd}{T:Tr}{q:Nat}{R:FT}(h:Fo xs ((T,q) :: R)):T.mem.Nodup/\(jH R).Nodup/\∀ j∈T.mem,j∉jH R:=by
 have a:=h.nodup
 simp only[jH,zx,zr]at a
 exact⟨a.1,a.2.1,fun j b c=>a.2.2 j b j c rfl⟩
theorem nodup_lt_length:∀ (n:Nat) (L:List Nat),L.Nodup->(∀ j∈L,j<n)->L.length<=n
 | 0,L,_,h=>by
  cases L with
  | nil=>simp
  | cons x L=>exact absurd (h x s_) o_
 | n+1,L,hn,h=>by
  have f:=nodup_lt_length n (L.erase n) (hn.erase n) (fun j b=>by
   have c:=h j (List.mem_of_mem_erase b)
   have d:j≠n:=fun e=>by subst e;exact(List.Nodup.not_mem_erase hn) b
   omega)
  have c:=List.length_erase_le (a:=n) (l:=L)
  have d:L.length<=(L.erase n).length+1:=by
   rw[List.length_erase];split<;>omega
  omega
theorem Fo.count{xs:List Nd}{T:Tr}{q:Nat}{R:FT}(h:Fo xs ((T,q) :: R)):T.mem.length<=1000000:=by
 have c:=nodup_lt_length xs.length (0 :: T.mem) (by
  rw[zt]
  exact⟨fun b=>((h.rep (T,q) s_).p8 0 b).1 rfl,h.split.1⟩) (fun j a=>by
  rcases zb.1 a with rfl|a
  . exact h.pos
  . exact((h.rep (T,q) s_).p8 j a).2)
 have:=h.len
 simp only[zd]at c
 omega
theorem gO.Je{xs:List Nd}{d:Bool}:∀ {t:Tr} {p j:Nat},gO xs t p->j∈t.mem->je xs d j=0\/je xs d j∈t.mem
 | .nil,_,_,_,a=>by simp[Tr.mem]at a
 | .nd l i r,p,j,h,a=>by
  obtain⟨_,⟨f,g,_⟩,_,b,c⟩:=h
  simp only[Tr.mem,zo,zb]at a ⊢
  rcases a with a|rfl|a
  . rcases gO.Je b a with e|e
    . exact .inl e
    . exact .inr (.inl e)
  . cases d
    . simp only[je,cond_false,g]
      by_cases e:r.root=0
      . exact .inl e
      . exact .inr (.inr (.inr (c.mQ e)))
    . simp only[je,cond_true,f]
      by_cases e:l.root=0
      . exact .inl e
      . exact .inr (.inl (b.mQ e))
  . rcases gO.Je c a with e|e
    . exact .inl e
    . exact .inr (.inr (.inr e))
theorem Fo.out{xs:List Nd}{T:Tr}{q:Nat}{R:FT}(h:Fo xs ((T,q) :: R)):Out xs q T.mem:=by
 by_cases hq:q=0
 . exact .inl hq
 . obtain⟨ρ,l,j⟩:=h.sF
   have g:q∉T.mem:=fun hm=>by
    have:=j (T,q) s_ hq q hm
    simp at this
   have b:=h.all q hq (h.par (T,q) s_)
   simp only[jH,zx,zo]at b
   rcases b with hm|hm
   . exact absurd hm g
   . obtain⟨e,c,hm⟩:=qo.1 hm
     have k:0∉T.mem:=fun i=>((h.rep (T,q) s_).p8 0 i).1 rfl
     have key:∀ d,je xs d q∉T.mem:=fun d f=>by
      rcases gO.Je (d:=d) (h.rep e (by simp[c])) hm with a|a
      . exact k (a▸f)
      . exact h.split.2.2 _ f (oc c a)
     exact .inr ⟨key true,key false,g⟩
theorem gO.rK{xs ys:List Nd}(b:ys.length=xs.length){t:Tr}{p:Nat}(h:gO xs t p)(hs:∀ j∈t.mem,fJ ys j=fJ xs j):gO ys t p :=
 h.FX b fun j a=>⟨(fJ xs j).flip,by rw[hs j a]⟩
theorem KF{xs ys:List Nd}{t:Tr}{φ:Bool}(hs:∀ j∈t.mem,fJ ys j=fJ xs j):gz ys φ t=gz xs φ t:=tG fun j a=>by rw[hs j a]
theorem Kx{xs ys:List Nd}{F:FT}(hs:∀ j∈jH F,fJ ys j=fJ xs j):gQ ys F=gQ xs F:=by
 unfold gQ
 refine yY fun e a=>?_
 rw[KF fun j b=>hs j (oc a b)]
theorem Fo.Sw{xs ys:List Nd}{T U:Tr}{q:Nat}{R:FT}(h:Fo xs ((T,q) :: R))(m:jB xs ys T [] U q):Fo ys ((U,q) :: R)/\gQ ys ((U,q) :: R)=gQ xs ((T,q) :: R)/\(∀ e∈R,∀ j∈e.1.mem,fJ ys j=fJ xs j):=by
 obtain⟨n1,u,s⟩:=h.split
 have d:=m.kl.len
 have hp:U.mem.Perm T.mem:=m.perm
 have k:∀ j∈jH R,fJ ys j=fJ xs j:=fun j b=>m.other j fun o=>s j o b
 have p:0∉T.mem:=fun c=>((h.rep (T,q) s_).p8 0 c).1 rfl
 have n:U.root≠0:=by
  intro e
  have f:=gO.Kj (t:=U) m.rep e
  rw[f]at hp
  have g:=h.ne (T,q) s_
  exact g (by
   cases T with
   | nil=>rfl
   | nd l i r=>have:=hp.length_eq;simp[Tr.mem]at this)
 refine⟨⟨fun e a=>?_,fun e a=>?_,?_,fun j c b=>?_,fun e a=>?_,?_,?_,by rw[d];exact h.pos,by rw[d];exact h.len⟩,?_,fun e a j b=>k j (oc a b)⟩
 . rcases zb.1 a with rfl|a
   . exact m.rep
   . exact(h.rep e (by simp[a])).rK d fun j b=>k j (oc a b)
 . rcases zb.1 a with rfl|a
   . exact n
   . exact h.ne e (by simp[a])
 . simp only[jH,zx]
   have:=h.nodup
   simp only[jH,zx]at this
   exact(hp.append_right _).nodup_iff.2 this
 . have:=h.all j c (by rw[d]at b;exact b)
   simp only[jH,zx,zo]at this ⊢
   exact this.imp_left hp.mem_iff.2
 . rw[d]
   rcases zb.1 a with rfl|a
   . exact h.par (T,q) s_
   . exact h.par e (by simp[a])
 . obtain⟨ρ,r1,r2⟩:=h.sF
   refine⟨ρ,fun e a=>?_,fun e a=>?_⟩
   . rcases zb.1 a with rfl|a
     . exact fun i hi j b=>r1 (T,q) s_ i (hp.mem_iff.1 hi) j (hp.mem_iff.1 b)
     . exact r1 e (by simp[a])
   . rcases zb.1 a with rfl|a
     . exact fun c i hi=>r2 (T,q) s_ c i (hp.mem_iff.1 hi)
     . exact r2 e (by simp[a])
 . rw[m.other 0 p];exact h.zero
 . have f:gQ ys R=gQ xs R:=Kx k
   have g:gz ys false U=gz xs false T:=m.ord false
   simp only[gQ,kf]at f ⊢
   rw[f,g]
def kZ(xs:List Nd)(j below:Nat):List Nd :=
 let a:=fN xs j (fun x=>{ x with iP:=IntKind.i64.wrap (x.iP+IntKind.i64.wrap ((fJ xs x.k1).total-(fJ xs below).total)) })
 let b:=fN a j (fun x=>{ x with k1:=below })
 iI b j
def opt(e:Tr×Nat)(R:FT):FT:=if e.1.root=0 then R else e :: R
theorem pG{e f:Tr×Nat}{R:FT}:f∈opt e R↔(e.1.root≠0/\f=e)\/f∈R:=by
 unfold opt
 split
 . rename_i h;simp[h]
 . rename_i h;simp[h]
theorem gO.AR{xs:List Nd}{t:Tr}{p:Nat}(h:gO xs t p)(e:t.root=0):t = .nil:=by
 cases t with
 | nil=>rfl
 | nd l i r=>exact absurd e h.1.1
theorem JL{xs:List Nd}{e:Tr×Nat}{R:FT}{p:Nat}(h:gO xs e.1 p):jH (opt e R)=e.1.mem++jH R:=by
 unfold opt
 split
 . rename_i a;rw[h.AR a];rfl
 . rfl
theorem Ro{xs ys:List Nd}{e:Tr×Nat}{R:FT}{p v u:Nat}(h:gO xs e.1 p):gT (gQ ys (opt e R)) v u↔nr (gz ys false e.1) e.2 v u\/gT (gQ ys R) v u:=by
 unfold opt
 split
 . rename_i a
   rw[h.AR a]
   simp[gz,JX]
 . simp only[gQ,kf,gT.cons]
theorem VJ{xs:List Nd}{F R R' : FT}{a b B:Tr}{j q:Nat}(h:Fo xs ((.nd a j b,q) :: R))(T:(fJ xs j).flip=false)(Q:R.Perm (opt (B,j) R'))(D:gO xs B j) :
 Fo (kZ xs j B.root) ((.nd a j B,q) :: opt (b,j) R')/\(∀ v u,gT (gQ (kZ xs j B.root) ((.nd a j B,q) :: opt (b,j) R')) v u↔gT (gQ xs ((.nd a j b,q) :: R)) v u) /\
  gz (kZ xs j B.root) false (.nd a j B)=gz xs false a++j :: gz xs false B/\(∀ k,k≠j->fJ (kZ xs j B.root) k=fJ xs k)/\(fJ (kZ xs j B.root) j).flip=false/\(∀ k,(fJ (kZ xs j B.root) k).key=(fJ xs k).key)/\(kZ xs j B.root).length=xs.length:=by
 have hT:=h.rep (.nd a j b,q) s_
 obtain⟨⟨H,jl⟩,⟨k0,k1,up⟩,v,ha,hb⟩:=hT
 obtain⟨n1,n2,n3⟩:=h.split
 simp only[Tr.mem]at n1 n3
 have U:(jH R).Perm (B.mem++jH R'):=by rw[<-JL (e:=(B,j)) D];exact Rq Q _
 have ag := U.nodup_iff.1 n2
 rw[zr]at ag
 obtain⟨nB,ay, Z⟩:=ag
 rw[zr,zt]at n1
 obtain⟨na,⟨N,nb⟩,aa⟩:=n1
 have ah:j∉a.mem:=fun h=>aa j h j s_ rfl
 have s:∀ k,k∈a.mem\/k=j\/k∈b.mem->k∉B.mem/\k∉jH R' := fun k c=>by
  have:=n3 k (by simpa using c)
  rw[U.mem_iff,zo,not_or]at this
  exact this
 have ab:=(s j (.inr (.inl rfl))).1
 have ac:=(s j (.inr (.inl rfl))).2
 obtain⟨t,L⟩:∃ x,x=fN (fN xs j (fun x=>{ x with iP:=IntKind.i64.wrap (x.iP+IntKind.i64.wrap ((fJ xs x.k1).total-(fJ xs B.root).total)) })) j (fun x=>{ x with k1:=B.root }):=⟨_,rfl⟩
 have an:kZ xs j B.root=iI t j:=by rw[L];rfl
 have Y:t.length=xs.length:=by rw[L,gC,gC]
 obtain⟨lm,G⟩:∃ y,fJ t j={ fJ xs j with iP:=y,k1:=B.root }:=⟨_,by rw[L,ko (by rw[gC];exact jl),ko jl]⟩
 have I:∀ k,k≠j->fJ t k=fJ xs k:=fun k c=>by rw[L,j5 (fun e=>c e.symm),j5 (fun e=>c e.symm)]
 have ak:gO t a j:=ha.rK Y fun k c=>I k (fun e=>ah (e▸c))
 have aj:gO t B j:=D.rK Y fun k c=>I k (fun e=>ab (e▸c))
 have V:(a.mem++j :: B.mem).Nodup:=by
  rw[zr,zt]
  refine⟨na,⟨ab,nB⟩,fun x g y f e=>?_⟩
  subst e
  rcases zb.1 f with rfl|f
  . exact ah g
  . exact(s x (.inl g)).1 f
 have ae:∀ k∈a.mem++j :: B.mem,k≠0/\k<xs.length:=fun k c=>by
  simp only[zo,zb]at c
  rcases c with c|rfl|c
  . exact ha.p8 k c
  . exact⟨H,jl⟩
  . exact D.p8 k c
 have am:(a.mem++j :: B.mem).length<=1000000:=by
  have w:=nodup_lt_length xs.length (0 :: (a.mem++j :: B.mem)) (zt.2 ⟨fun p=>(ae 0 p).1 rfl,V⟩) (fun k c=>by
   rcases zb.1 c with rfl|c
   . exact h.pos
   . exact(ae k c).2)
  have:=h.len
  simp only[zd]at w
  omega
 obtain⟨K,S⟩:=AY (xs:=t) (i:=j) (l:=a) (r:=B) ⟨H,o_⟩ ak aj (by rw[G];exact k0) (by rw[G]) V am
 rw[<-an]at K S
 rw[show (fJ t j).up=q by rw[G];exact up]at S
 have z:(kZ xs j B.root).length=xs.length:=by rw[K.len,Y]
 have J:∀ k,k≠j->fJ (kZ xs j B.root) k=fJ xs k:=fun k c=>by rw[K.other k c,I k c]
 have E:∀ k,(fJ (kZ xs j B.root) k).flip=(fJ xs k).flip:=fun k=>by
  rw[K.flip]
  by_cases e:k=j
  . subst e;rw[G]
  . rw[I k e]
 have au:∀ k,(fJ (kZ xs j B.root) k).key=(fJ xs k).key:=fun k=>by
  rw[K.kl.key]
  by_cases e:k=j
  . subst e;rw[G]
  . rw[I k e]
 have av:gz (kZ xs j B.root) false B=gz xs false B:=tG fun k _=>E k
 have aw:gz (kZ xs j B.root) false a=gz xs false a:=tG fun k _=>E k
 have ax:gz (kZ xs j B.root) false b=gz xs false b:=tG fun k _=>E k
 have af:gz (kZ xs j B.root) false (.nd a j B)=gz xs false a++j :: gz xs false B:=by
  simp only[gz,E,T,Dm,cond_false,aw,av]
 have al:gO (kZ xs j B.root) b j:=hb.rK z fun k c=>J k (fun e=>N (e▸c))
 obtain⟨ρ,r1,r2⟩:=h.sF
 have O:∀ k,k∈a.mem\/k=j\/k∈b.mem->ρ k=ρ j:=fun k c=>r1 (.nd a j b,q) s_ k (by simpa[Tr.mem]using c) j (by simp[Tr.mem])
 have A:∀ e,e∈R↔(B.root≠0/\e=(B,j))\/e∈R' := fun e=>by rw[Q.mem_iff,pG]
 have rB:∀ k∈B.mem,ρ k<ρ j:=fun k c=>by
  by_cases e0:B.root=0
  . rw[D.AR e0]at c;simp[Tr.mem]at c
  . exact r2 (B,j) (nv _ ((A _).2 (.inl ⟨e0,rfl⟩))) H k c
 refine⟨⟨fun e d=>?_,fun e d=>?_,?_,fun k p c=>?_,fun e d=>?_,?_,?_,by rw[z];exact h.pos,by rw[z];exact h.len⟩,fun v' m => ?_,af,J,by rw[E];exact T,au,z⟩
 . rcases zb.1 d with rfl|d
   . exact S
   . rcases pG.1 d with ⟨_,rfl⟩|d
     . exact al
     . exact(h.rep e (nv _ ((A e).2 (.inr d)))).rK z fun k c=>J k (fun e' => ac (e' ▸ oc d c))
 . rcases zb.1 d with rfl|d
   . exact H
   . rcases pG.1 d with ⟨p,rfl⟩|d
     . exact p
     . exact h.ne e (nv _ ((A e).2 (.inr d)))
 . simp only[jH,zx]
   show ((Tr.nd a j B).mem++jH (opt (b,j) R')).Nodup
   rw[JL (e:=(b,j)) hb,zr,zr]
   refine⟨V,⟨nb,ay, fun x g y f e=>(s x (.inr (.inr g))).2 (e▸f)⟩,fun x g y f e=>?_⟩
   subst e
   simp only[Tr.mem,zo,zb]at g f
   rcases f with f|f
   . rcases g with g|rfl|g
     . exact aa x g x (by simp[f]) rfl
     . exact N f
     . exact(s x (.inr (.inr f))).1 g
   . rcases g with g|rfl|g
     . exact(s x (.inl g)).2 f
     . exact ac f
     . exact Z x g x f rfl
 . rw[z]at c
   have w:=h.all k p c
   have C:k∈(Tr.nd a j b).mem\/k∈jH R:=by simpa[jH,zx]using w
   rw[U.mem_iff]at C
   show k∈(Tr.nd a j B).mem++jH (opt (b,j) R')
   rw[JL (e:=(b,j)) hb]
   simp only[Tr.mem,zo,zb]at C ⊢
   rcases C with (h|h|h)|h|h<;>simp[h]
 . rw[z]
   rcases zb.1 d with rfl|d
   . exact h.par (.nd a j b,q) s_
   . rcases pG.1 d with ⟨_,rfl⟩|d
     . exact jl
     . exact h.par e (nv _ ((A e).2 (.inr d)))
 . have P:∀ k,k∈b.mem->k∉B.mem:=fun k w=>(s k (.inr (.inr w))).1
   obtain⟨σ,n⟩:∃ σ:Nat->Nat,∀ k,σ k=if k∈B.mem then 2*ρ j+1 else if k∈b.mem then 2*ρ j else 2*ρ k+1:=⟨_,fun _=>rfl⟩
   refine⟨σ,fun e d=>?_,fun e d p=>?_⟩
   . rcases zb.1 d with rfl|d
     . have key:∀ k∈(Tr.nd a j B).mem,σ k=2*ρ j+1:=fun k c=>by
        rw[n]
        simp only[Tr.mem,zo,zb]at c
        by_cases hkB:k∈B.mem
        . rw[if_pos hkB]
        . have ad : k∈a.mem\/k=j:=by rcases c with h|h|h;exact .inl h;exact .inr h;exact absurd h hkB
          have ar:k∉b.mem:=fun o => by rcases ad with h|rfl;exact aa k h k (by simp[o]) rfl;exact N o
          rw[if_neg hkB,if_neg ar,O k (by rcases ad with h|h;exact .inl h;exact .inr (.inl h))]
       intro i hi k c
       rw[key i hi,key k c]
     . rcases pG.1 d with ⟨_,rfl⟩|d
       . intro i hi k c
         simp only at hi c
         rw[n,n,if_neg (P i hi),if_pos hi,if_neg (P k c),if_pos c]
       . intro i hi k c
         have M:∀ y∈e.1.mem,y∉B.mem/\y∉b.mem:=fun y f=>⟨fun o => Z y o y (oc d f) rfl,fun o => (s y (.inr (.inr o))).2 (oc d f)⟩
         rw[n,n,if_neg (M i hi).1,if_neg (M i hi).2,if_neg (M k c).1,if_neg (M k c).2,r1 e (nv _ ((A e).2 (.inr d))) i hi k c]
   . rcases zb.1 d with rfl|d
     . simp only at p
       have X:=r2 (.nd a j b,q) s_ p
       have q1:q∉B.mem:=fun W=>by have:=rB q W;have:=X j (by simp[Tr.mem]);simp only at this;omega
       have q2:q∉b.mem:=fun W=>by have:=O q (.inr (.inr W));have:=X j (by simp[Tr.mem]);simp only at this;omega
       intro i hi
       simp only
       rw[n i,n q,if_neg q1,if_neg q2]
       have aq := X j (by simp[Tr.mem])
       simp only at aq
       simp only[Tr.mem,zo,zb]at hi
       by_cases hiB:i∈B.mem
       . rw[if_pos hiB];omega
       . rw[if_neg hiB]
         split
         . omega
         . have:ρ i=ρ j:=O i (by rcases hi with h|h|h;exact .inl h;exact .inr (.inl h);exact absurd h hiB)
           omega
     . rcases pG.1 d with ⟨_,rfl⟩|d
       . intro i hi
         simp only at hi ⊢
         rw[n,n,if_neg (P i hi),if_pos hi,if_neg ab,if_neg N];omega
       . intro i hi
         have ao:i∉B.mem:=fun o => Z i o i (oc d hi) rfl
         have ap:i∉b.mem:=fun o => (s i (.inr (.inr o))).2 (oc d hi)
         have az := r2 e (nv _ ((A e).2 (.inr d))) p i hi
         rw[n,n,if_neg ao,if_neg ap]
         by_cases hqB:e.2∈B.mem
         . have:=rB _ hqB;rw[if_pos hqB];omega
         . rw[if_neg hqB]
           by_cases hqb:e.2∈b.mem
           . have:=O _ (.inr (.inr hqb));rw[if_pos hqb];omega
           . rw[if_neg hqb];omega
 . rw[J 0 (fun e=>H e.symm)];exact h.zero
 . have hs:gQ (kZ xs j B.root) R' = gQ xs R' := Kx fun k c=>J k (fun e=>ac (e▸c))
   have e1:gT (gQ (kZ xs j B.root) ((.nd a j B,q) :: opt (b,j) R')) v' m ↔ nr (gz xs false a++j :: gz xs false B) q v' m \/ nr (gz xs false b) j v' m \/ gT (gQ xs R') v' m := by
    have:=Ro (ys:=kZ xs j B.root) (e:=(b,j)) (R:=R') (v:=v') (u:=m) hb
    simp only[gQ,kf]at this ⊢
    rw[gT.cons,af,this]
    simp only[gQ]at hs
    rw[ax,hs]
   have ai : gT (gQ xs ((.nd a j b,q) :: R)) v' m ↔ nr (gz xs false a++j :: gz xs false b) q v' m \/ nr (gz xs false B) j v' m \/ gT (gQ xs R') v' m := by
    have w:gz xs false (.nd a j b)=gz xs false a++j :: gz xs false b:=by simp only[gz,T,Dm,cond_false]
    have C:gT (gQ xs R) v' m ↔ gT (gQ xs (opt (B,j) R')) v' m := gT.perm (Q.map _)
    have h3:=Ro (ys:=xs) (e:=(B,j)) (R:=R') (v:=v') (u:=m) D
    have h4:gT (gQ xs ((.nd a j b,q) :: R)) v' m ↔ nr (gz xs false (.nd a j b)) q v' m \/ gT (gQ xs R) v' m := by simp only[gQ,kf,gT.cons]
    rw[h4,w,C,h3]
   rw[e1,ai, Rm,Rm,sC,sC]
   constructor
   . rintro((h|h|h)|h|h)<;>simp[h]
   . rintro((h|h|h)|h|h)<;>simp[h]
end Go.Sx
namespace Go.Sx
open Go
inductive sO (F:FT):Nat->Nat->Prop where
 | zero:sO F 0 0
 | step {T:Tr} {q j m:Nat} (he:(T,q)∈F) (hj:j∈T.mem) (h0:j≠0) (k:sO F q m):sO F j (m+1)
theorem sO.mono{F F' : FT}{ρ:Nat->Nat}{c:Nat}(g:(∀ e∈F,∀ i∈e.1.mem,∀ j∈e.1.mem,ρ i=ρ j)/\∀ e∈F,e.2≠0->∀ i∈e.1.mem,ρ i<ρ e.2)
 (l:∀ e∈F,(∀ i∈e.1.mem,c<ρ i)->e∈F') {q m:Nat} (h:sO F q m):(q=0\/c<ρ q)->sO F' q m:=by
 induction h with
 | zero=>intro _;exact .zero
 | @step T q j m b d f k n =>
  intro a
  have a:c<ρ j:=by rcases a with e|e;exact absurd e f;exact e
  refine .step (l _ b fun i hi=>?_) d f (n ?_)
  . rw[g.1 _ b i hi j d];exact a
  . by_cases hq:q=0
    . exact .inl hq
    . exact .inr (Nat.lt_trans a (g.2 _ b hq j d))
theorem O9(ρ:Nat->Nat):∀ n,∃ M,∀ k,k<n->ρ k<=M
 | 0=>⟨0,fun k a=>absurd a o_⟩
 | n+1=>by
  obtain⟨M,b⟩:=O9 ρ n
  refine⟨max M (ρ n),fun k a=>?_⟩
  by_cases e:k=n
  . subst e;omega
  . have:=b k o_;omega
theorem Fo.dep{xs:List Nd}{F:FT}(h:Fo xs F){j:Nat}(b:j<xs.length):∃ m,sO F j m:=by
 obtain⟨ρ,k,d⟩:=h.sF
 obtain⟨M,c⟩:=O9 ρ xs.length
 have key:∀ n j,j<xs.length->M-ρ j<=n->∃ m,sO F j m:=by
  intro n
  induction n with
  | zero =>
   intro j b g
   by_cases h0:j=0
   . subst h0;exact⟨0,.zero⟩
   . obtain⟨e,a,hm⟩:=qo.1 (h.all j h0 b)
     by_cases hq:e.2=0
     . exact⟨1,.step (T:=e.1) (q:=e.2) a hm h0 (by rw[hq];exact .zero)⟩
     . have a1:=d e a hq j hm
       have a2:=c e.2 (h.par e a)
       have a3:=c j b
       omega
  | succ n i =>
   intro j b g
   by_cases h0:j=0
   . subst h0;exact⟨0,.zero⟩
   . obtain⟨e,a,hm⟩:=qo.1 (h.all j h0 b)
     by_cases hq:e.2=0
     . exact⟨1,.step (T:=e.1) (q:=e.2) a hm h0 (by rw[hq];exact .zero)⟩
     . have a1:=d e a hq j hm
       have a2:=c e.2 (h.par e a)
       obtain⟨m,f⟩:=i e.2 (h.par e a) o_
       exact⟨m+1,.step (T:=e.1) (q:=e.2) a hm h0 f⟩
 exact key _ j b (zj _)
theorem Fo.X7{xs:List Nd}{F:FT}(h:Fo xs F){e f:Tr×Nat}(d:e∈F)(a:f∈F){j:Nat}(h1:j∈e.1.mem)(c:j∈f.1.mem):e=f:=by
 obtain⟨s,t,rfl⟩:=Dq d
 have hp:(s++e :: t).Perm (e :: (s++t)):=tT
 have b := h.perm hp
 rcases zb.1 (hp.mem_iff.1 a)with e' | a
 . exact e'.symm
 . exact absurd (oc a c) (b.split.2.2 j h1)
structure Ex (xs0:List Nd) (F0:FT) (i:Nat) (xs:List Nd) (below j m:Nat) (R:FT) (B:Tr):Prop where
 fo:Fo xs (opt (B,j) R)
 rep:gO xs B j
 root:B.root=below
 start:below=0->j=i
 last:below≠0->(gz xs false B).getLast? = some i
 dep:sO (opt (B,j) R) j m
 par:∀ v u,gT (gQ xs (opt (B,j) R)) v u↔gT (gQ xs0 F0) v u
 key:∀ k,(fJ xs k).key=(fJ xs0 k).key
 len:xs.length=xs0.length
 lt:j<xs.length
 Db:∀ T0,(T0,0)∈F0->((T0,0)∈R/\∀ k∈T0.mem,fJ xs k=fJ xs0 k)\/(j=0/\below≠0/\(gz xs false B).head? = (gz xs0 false T0).head?)
theorem Ex.init{xs:List Nd}{F:FT}{i:Nat}(h:Fo xs F)(hi:i<xs.length):∃ m,Ex xs F i xs 0 i m F .nil:=by
 obtain⟨m,hm⟩:=h.dep hi
 exact⟨m,h,trivial,rfl,fun _=>rfl,fun e=>absurd rfl e,hm,fun _ _=>Iff.rfl,fun _=>rfl,rfl,hi,fun b a=>.inl ⟨a,fun _ _=>rfl⟩⟩
theorem Rr{α:Type}{x:α}{l:List α}(h:x∈l):∃ r,l.Perm (x :: r):=by
 obtain⟨s,t,rfl⟩:=Dq h
 exact⟨s++t,tT⟩
theorem abQ{e f:Tr×Nat}{R R' : FT}(h:R.Perm (f :: R')):(opt e R).Perm (f :: opt e R'):=by
 unfold opt
 split
 . exact h
 . exact(h.cons e).trans (List.Perm.swap _ _ _)
theorem Ex.go{D xs:List Nd}{E R:FT}{i below j m:Nat}{B:Tr}(h:Ex D E i xs below j m R B)(g:j≠0) :
 ∃ T q,gO xs T q/\j∈T.mem/\T.mem.Nodup/\T.mem.length<=1000000/\Out xs q T.mem/\∀ ys a b,jB xs ys T [] (.nd a j b) q->(fJ ys j).flip=false ->
  (fJ (kZ ys j below) j).up=q/\(∀ k,k≠j->fJ (kZ ys j below) k=fJ ys k)/\∃ t R', m=t + 1/\Ex D E i (kZ ys j below) j q t R' (.nd a j B):=by
 cases hd:h.dep with
 | zero=>exact absurd rfl g
 | @step T q _ t s o _ Z =>
  -- the entry lies in R
  have X:(T,q)∈R:=by
   rcases pG.1 s with ⟨d,e⟩|s
   . obtain⟨ρ,_,r2⟩:=h.fo.sF
     cases e
     have:=r2 (B,j) (pG.2 (.inl ⟨d,rfl⟩)) g j o
     simp at this
   . exact s
  obtain⟨R2,hp⟩:=Rr X
  have C:(opt (B,j) R).Perm ((T,q) :: opt (B,j) R2):=abQ hp
  have f:=h.fo.perm C
  refine⟨T,q,f.rep (T,q) s_,o,f.split.1,f.count,f.out,fun ys a b hm K=>?_⟩
  obtain⟨U,s1,N⟩:=f.Sw hm
  have W:gO ys B j:=by
   by_cases d:B.root=0
   . rw[h.rep.AR d];trivial
   . exact h.rep.rK hm.kl.len fun k l => N (B,j) (pG.2 (.inl ⟨d,rfl⟩)) k l
  have c:=VJ (F:=[]) U K (List.Perm.refl _) W
  obtain⟨p,G,w,x,P,H,y⟩:=c
  rw[h.root]at p G w x P H y
  have ab:gz ys false B=gz xs false B:=by
   by_cases d:B.root=0
   . rw[h.rep.AR d];rfl
   . exact KF fun k l => N (B,j) (pG.2 (.inl ⟨d,rfl⟩)) k l
  have aa:q<xs.length:=f.par (T,q) s_
  have ac:(fJ (kZ ys j below) j).up=q:=(p.rep (.nd a j B,q) s_).2.1.2.2
  have A:opt (Tr.nd a j B,q) (opt (b,j) R2)=(Tr.nd a j B,q) :: opt (b,j) R2:=if_neg g
  refine⟨ac,x,t, opt (b,j) R2,rfl,⟨by rw[A];exact p,p.rep (.nd a j B,q) s_,rfl,fun e=>absurd e g,fun _=>?_,?_,fun v u=>?_,fun k=>?_,by rw[y,hm.kl.len,h.len],by rw[y,hm.kl.len];exact aa,fun O Y=>?_⟩⟩
  . rw[w,ab]
    by_cases hb:below=0
    . have V:B = .nil:=h.rep.AR (h.root.trans hb)
      rw[V,h.start hb]
      simp[gz]
    . have:=h.last hb
      rw[List.getLast?_append,Dt,this]
      simp
  . rw[A]
    obtain⟨ρ,r1,r2⟩:=h.fo.sF
    refine sO.mono (c:=ρ j) ⟨r1,r2⟩ (fun e n J=>?_) Z ?_
    . rcases zb.1 (C.mem_iff.1 n)with rfl|n
      . exact absurd (J j o) o_
      . rcases pG.1 n with ⟨d,rfl⟩|n
        . have M:=h.rep.mQ d
          have r:=r2 (B,j) (pG.2 (.inl ⟨d,rfl⟩)) g _ M
          have h4:=J _ M
          simp only at r
          omega
        . exact nv _ (pG.2 (.inr n))
    . by_cases hq:q=0
      . exact .inl hq
      . exact .inr (r2 (T,q) s hq j o)
  . rw[A,G,s1,<-h.par]
    exact gT.perm (C.symm.map _)
  . rw[H,hm.kl.key,h.key]
  . rcases h.Db O Y with ⟨z,I⟩|⟨z,_⟩
    . rcases zb.1 (hp.mem_iff.1 z)with e|r
      . cases e
        refine .inr ⟨rfl,g,?_⟩
        have e1:gz ys false (.nd a j b)=gz xs false T:=hm.ord false
        have Q:gz ys false (.nd a j b)=gz ys false a++j :: gz ys false b:=by simp only[gz,K,Dm,cond_false]
        have S:gz xs false T=gz D false T:=KF I
        rw[w,<-S,<-e1,Q]
        cases gz ys false a<;>simp
      . refine .inl ⟨pG.2 (.inr r),fun k l => ?_⟩
        have L:k∉T.mem:=fun ht=>by
         have hn:=f.split.2.2 k ht
         exact hn (oc (pG.2 (.inr r)) l)
        rw[x k (fun e=>L (e▸o)),hm.other k L,I k l]
    . exact absurd z g
theorem Ex.fin{d xs:List Nd}{j R:FT}{i below m:Nat}{B:Tr}(h:Ex d j i xs below 0 m R B)(hi:i≠0) :
 gO xs B 0/\i∈B.mem/\B.mem.Nodup/\B.mem.length<=1000000/\Out xs 0 B.mem/\∀ ys a b,jB xs ys B [] (.nd a i b) 0->(fJ ys i).flip=false ->
  b = .nil/\Fo ys ((.nd a i .nil,0) :: R)/\(∀ v u,gT (gQ ys ((.nd a i .nil,0) :: R)) v u↔gT (gQ d j) v u)/\(∀ k,(fJ ys k).key=(fJ d k).key)/\ys.length=d.length /\
   (∀ c,(c,0)∈j->((c,0)∈R/\∀ k∈c.mem,fJ ys k=fJ d k)\/(gz ys false (.nd a i .nil)).head? = (gz d false c).head?):=by
 have hb:below≠0:=fun e=>hi (h.start e).symm
 have w:B.root≠0:=by rw[h.root];exact hb
 have q:opt (B,0) R=(B,0) :: R:=if_neg w
 have g:=h.fo
 rw[q]at g
 have f:=h.last hb
 have D:i∈B.mem:=(oq xs false B).mem_iff.1 (GC f)
 refine⟨h.rep,D,g.split.1,g.count,.inl rfl,fun ys a b hm C=>?_⟩
 obtain⟨l,s1,F⟩:=g.Sw hm
 have e1:gz ys false (.nd a i b)=gz xs false B:=hm.ord false
 have r:gz ys false (.nd a i b)=gz ys false a++i :: gz ys false b:=by simp only[gz,C,Dm,cond_false]
 have z:b = .nil:=by
  rw[<-e1,r,List.getLast?_append,Dt]at f
  have A:gz ys false b=[]:=by
   cases hl:(gz ys false b).getLast? with
   | none=>exact Lq.1 hl
   | some x =>
    rw[hl]at f
    simp at f
    subst f
    have E:x∈b.mem:=(oq ys false b).mem_iff.1 (GC hl)
    have p:=l.split.1
    simp only[Tr.mem,zr,zt]at p
    exact absurd E p.2.1.1
  have:=(oq ys false b).length_eq
  rw[A]at this
  cases b with
  | nil=>rfl
  | nd _ _ _=>simp[Tr.mem]at this
 subst z
 refine⟨rfl,l,fun v u=>?_,fun k=>?_,by rw[hm.kl.len,h.len],fun c y=>?_⟩
 . rw[s1,<-h.par,q]
 . rw[hm.kl.key,h.key]
 . rcases h.Db c y with ⟨n,s⟩|⟨_,_,t⟩
   . exact .inl ⟨n,fun k o=>by rw[F (c,0) n k o,s k o]⟩
   . exact .inr (by rw[e1];exact t)
end Go.Sx
namespace Go.Sx
open Go
theorem KE(xs:List Nd):∀ (t:Tr) (φ:Bool),gz xs (!φ) t=(gz xs φ t).reverse
 | .nil,_=>rfl
 | .nd l i r,φ=>by
  have e:xor (!φ) (fJ xs i).flip = !(xor φ (fJ xs i).flip):=by cases φ<;>cases (fJ xs i).flip<;>rfl
  simp only[gz,e,KE xs l,KE xs r]
  cases xor φ (fJ xs i).flip<;>simp
theorem Kw{xs:List Nd}{F:FT}(h:(jH F).Nodup):(xK (gQ xs F)).Nodup:=by
 have hp:(xK (gQ xs F)).Perm (jH F):=by
  unfold xK gQ jH
  rw[List.flatMap_map]
  clear h
  induction F with
  | nil=>exact .nil
  | cons e F a=>simp only[zx];exact((oq xs false e.1).append_right _).trans (a.append_left _)
 exact hp.nodup_iff.2 h
theorem Fo.sD{xs:List Nd}{F:FT}(h:Fo xs F){v u a : Nat}(h1:gT (gQ xs F) v u)(b:gT (gQ xs F) v a):u=a := Go.Sx.sD (Kw h.nodup) h1 b
theorem Fo.x9{xs:List Nd}{F:FT}(h:Fo xs F){T:Tr}{q:Nat}(a:(T,q)∈F):∀ x∈gz xs false T,x≠0:=fun x b=>((h.rep (T,q) a).p8 x ((oq xs false T).mem_iff.1 b)).1
theorem Fo.below{xs:List Nd}{F:FT}(h:Fo xs F){T:Tr}(a:(T,0)∈F){v r:Nat}(hv:v∈T.mem)(b:(gz xs false T).head? = some r):PR (gT (gQ xs F)) v r :=
 (PR.ES (q:=0) b (h.x9 a) (fun v u hp=>⟨(gz xs false T,0),z7.2 ⟨(T,0),a,rfl⟩,hp⟩) ((oq xs false T).mem_iff.2 hv)).1 rfl
structure kI (xs0:List Nd) (F0:FT) (ys:List Nd) (i:Nat) (a:Tr) (R:FT):Prop where
 fo:Fo ys ((.nd a i .nil,0) :: R)
 flip:(fJ ys i).flip=false
 par:∀ v u,gT (gQ ys ((.nd a i .nil,0) :: R)) v u↔gT (gQ xs0 F0) v u
 key:∀ k,(fJ ys k).key=(fJ xs0 k).key
 len:ys.length=xs0.length
 Db:∀ T0,(T0,0)∈F0->((T0,0)∈R/\∀ k∈T0.mem,fJ ys k=fJ xs0 k)\/(gz ys false (.nd a i .nil)).head? = (gz xs0 false T0).head?
theorem kI.seq{c ys:List Nd}{b R:FT}{i:Nat}{a:Tr}(h:kI c b ys i a R):gz ys false (.nd a i .nil)=gz ys false a++[i]:=by
 simp only[gz,h.flip,Dm,cond_false]
theorem kI.head{c ys:List Nd}{b R:FT}{i:Nat}{a:Tr}(h:kI c b ys i a R):∃ r,(gz ys false (.nd a i .nil)).head? = some r/\r∈(Tr.nd a i .nil).mem:=by
 have hm:i∈gz ys false (.nd a i .nil):=by rw[h.seq];simp
 cases hs:gz ys false (.nd a i .nil)with
 | nil=>rw[hs]at hm;simp at hm
 | cons r l=>exact⟨r,rfl,(oq ys false (.nd a i .nil)).mem_iff.1 (by rw[hs];simp)⟩
theorem kI.top{c ys:List Nd}{b R:FT}{i:Nat}{a:Tr}(h:kI c b ys i a R){r:Nat}(d:(gz ys false (.nd a i .nil)).head? = some r){v:Nat}(hv:v∈(Tr.nd a i .nil).mem):PR (gT (gQ c b)) v r :=
 (h.fo.below (T:=.nd a i .nil) s_ hv d).mono fun v u hp=>(h.par v u).1 hp
def kq(ys:List Nd)(i:Nat):List Nd:=fN ys i (fun x=>{ x with flip:=true })
theorem E2{t ys:List Nd}{m R:FT}{i:Nat}{a:Tr}(h:kI t m ys i a R) :
 Fo (kq ys i) ((.nd a i .nil,0) :: R)/\gz (kq ys i) false (.nd a i .nil)=(gz ys false (.nd a i .nil)).reverse/\gQ (kq ys i) R=gQ ys R/\(kq ys i).length=ys.length/\(∀ k,k≠i->fJ (kq ys i) k=fJ ys k)/\∀ k,(fJ (kq ys i) k).key=(fJ ys k).key:=by
 obtain⟨n1,u,s⟩:=h.fo.split
 have g:=h.fo.rep (.nd a i .nil,0) s_
 have r:=g.1.2
 have i0:=g.1.1
 have ll:(kq ys i).length=ys.length:=gC
 have l:fJ (kq ys i) i={ fJ ys i with flip:=true }:=ko r
 have c:∀ k,k≠i->fJ (kq ys i) k=fJ ys k:=fun k b=>j5 (fun e=>b e.symm)
 have j:∀ k,∃ f,fJ (kq ys i) k={ fJ ys k with flip:=f }:=fun k=>by
  by_cases e:k=i
  . subst e;exact⟨true,l⟩
  . exact⟨(fJ ys k).flip,by rw[c k e]⟩
 have p:i∈(Tr.nd a i .nil).mem:=by simp[Tr.mem]
 have o:∀ k∈jH R,fJ (kq ys i) k=fJ ys k:=fun k b=>c k (fun e=>s i p (e▸b))
 obtain⟨ρ,r1,r2⟩:=h.fo.sF
 refine⟨⟨fun e d=>(h.fo.rep e d).FX ll fun k _=>j k,h.fo.ne,h.fo.nodup,fun k n b=>h.fo.all k n (by rw[ll]at b;exact b),fun e d=>by rw[ll];exact h.fo.par e d,⟨ρ,r1,r2⟩,by rw[c 0 (fun e=>i0 e.symm)];exact h.fo.zero,by rw[ll];exact h.fo.pos,by rw[ll];exact h.fo.len⟩,?_,Kx o,ll,c,fun k=>?_⟩
 . rw[<-KE]
   refine SA ?_ fun k b=>?_
   . rw[l,h.flip];rfl
   . have:k≠i:=fun e=>by
      subst e
      simp only[Tr.mem,zr,zt]at n1
      have q : k∈a.mem:=by simpa[Tr.mem]using b
      exact n1.2.2 k q k s_ rfl
     rw[c k this]
 . obtain⟨f,e⟩:=j k
   rw[e]
theorem PR.ac1{S:u7}{s s' : List Nat}(j:(xK ((s,0) :: S)).Nodup)(d:∀ x∈s', x≠0)(hp:s'.Perm s){a r:Nat}(f:s'.head? = some a)(c:r∈s){v:Nat}(k:PR (gT ((s,0) :: S)) v r):PR (gT ((s', 0) :: S)) v a:=by
 have key:∀ v∈s,PR (gT ((s', 0) :: S)) v a:=fun v hv=>(PR.ES (q:=0) f d (fun v u g => gT.cons.2 (.inl g)) (hp.mem_iff.2 hv)).1 rfl
 induction k with
 | top h=>exact key _ c
 | @step v u r h e _ i =>
  by_cases hv:v∈s
  . exact key v hv
  . rcases gT.cons.1 h with b|b
    . exact absurd (v7 b) hv
    . exact .step (gT.cons.2 (.inr b)) e (i c)
theorem PR.apart{S:u7}{s s' : List Nat}(m:(xK ((s,0) :: S)).Nodup)(f:∀ x∈s,x≠0){r:Nat}(b:r∉s){v:Nat}(k:PR (gT ((s,0) :: S)) v r):v∉s/\PR (gT ((s', 0) :: S)) v r:=by
 have j:∀ v∈s,∃ h,h∈s/\PR (gT ((s,0) :: S)) v h:=fun v hv=>by
  cases s with
  | nil=>simp at hv
  | cons x l=>exact⟨x,s_,(PR.ES (q:=0) rfl f (fun v u n => gT.cons.2 (.inl n)) hv).1 rfl⟩
 have o:∀ v u d, gT ((s,0) :: S) v u->gT ((s,0) :: S) v d -> u=d := fun v u d a g=>Go.Sx.sD m a g
 have c:∀ {v},PR (gT ((s,0) :: S)) v r->v∉s:=fun {v} k hv=>by
  obtain⟨h,i,k'⟩:=j v hv
  exact b ((PR.unique o k k')▸i)
 refine⟨c k,?_⟩
 induction k with
 | top h =>
  rcases gT.cons.1 h with a|a
  . exact absurd (v7 a) b
  . exact .top (gT.cons.2 (.inr a))
 | step h e k p =>
  rcases gT.cons.1 h with a|a
  . exact absurd (v7 a) (c (.step h e k))
  . exact .step (gT.cons.2 (.inr a)) e (p b c)
structure LR (ys:List Nd) (i:Nat) (a:Tr) (R:FT):Prop where
 fo:Fo ys ((.nd a i .nil,0) :: R)
 head:(gz ys false (.nd a i .nil)).head? = some i
theorem kI.CA{e ys:List Nd}{b R:FT}{i:Nat}{a:Tr}(h:kI e b ys i a R):LR (kq ys i) i a R:=by
 obtain⟨c,d,_⟩:=E2 h
 refine⟨c,?_⟩
 rw[d,h.seq]
 simp
theorem kI.aaD{c ys:List Nd}{b R:FT}{i:Nat}{a:Tr}(h:kI c b ys i a R){v r:Nat}(hv:PR (gT (gQ c b)) v r)(hi:PR (gT (gQ c b)) i r)(m:∀ v u g, gT (gQ c b) v u->gT (gQ c b) v g -> u=g) :
 PR (gT (gQ (kq ys i) ((.nd a i .nil,0) :: R))) v i:=by
 obtain⟨p,j,d,_⟩:=E2 h
 obtain⟨o, l, hm⟩:=h.head
 have e:o = r:=PR.unique m (h.top l (by simp[Tr.mem])) hi
 subst e
 have k:gQ (kq ys i) ((.nd a i .nil,0) :: R)=((gz ys false (.nd a i .nil)).reverse,0) :: gQ ys R:=by
  simp only[gQ,kf]at d ⊢;rw[j,d]
 have f:gQ ys ((.nd a i .nil,0) :: R)=(gz ys false (.nd a i .nil),0) :: gQ ys R:=rfl
 rw[k]
 refine PR.ac1 (s:=gz ys false (.nd a i .nil)) (by rw[<-f];exact Kw h.fo.nodup) (fun x n=>?_) (List.reverse_perm _) (by rw[h.seq];simp) ((oq ys false (.nd a i .nil)).mem_iff.2 hm) (by rw[<-f];exact hv.mono fun v u hp=>(h.par v u).2 hp)
 exact h.fo.x9 (T:=.nd a i .nil) (q:=0) s_ x (List.mem_reverse.1 n)
theorem kI.aaE{c ys:List Nd}{b R:FT}{i:Nat}{a:Tr}(h:kI c b ys i a R){v r d : Nat}(hv:PR (gT (gQ c b)) v r)(hi:PR (gT (gQ c b)) i d)(p:r≠d)(k:∀ v u l, gT (gQ c b) v u->gT (gQ c b) v l -> u=l) :
 PR (gT (gQ (kq ys i) ((.nd a i .nil,0) :: R))) v r/\r∉(Tr.nd a i .nil).mem:=by
 obtain⟨t,n,e,_⟩:=E2 h
 have j:r∉(Tr.nd a i .nil).mem:=fun hm=>by
  obtain⟨r2,g,_⟩:=h.head
  have e1:r2=d := PR.unique k (h.top g (by simp[Tr.mem])) hi
  have m:r2=r:=PR.unique k (h.top g hm) (.top hv.root)
  exact p (m.symm.trans e1)
 have o:gQ (kq ys i) ((.nd a i .nil,0) :: R)=((gz ys false (.nd a i .nil)).reverse,0) :: gQ ys R:=by
  simp only[gQ,kf]at e ⊢;rw[n,e]
 have f:gQ ys ((.nd a i .nil,0) :: R)=(gz ys false (.nd a i .nil),0) :: gQ ys R:=rfl
 rw[o]
 exact⟨(PR.apart (s:=gz ys false (.nd a i .nil)) (s' := (gz ys false (.nd a i .nil)).reverse) (by rw[<-f];exact Kw h.fo.nodup) (h.fo.x9 (T:=.nd a i .nil) (q:=0) s_) (fun hm=>j ((oq ys false (.nd a i .nil)).mem_iff.1 hm)) (by rw[<-f];exact hv.mono fun v u hp=>(h.par v u).2 hp)).2,j⟩
def Joined(xs:List Nd)(F:FT)(a b:Nat):Prop:=∃ r,PR (gT (gQ xs F)) a r/\PR (gT (gQ xs F)) b r
theorem kI.joined{e ys:List Nd}{d R:FT}{i:Nat}{a:Tr}(h:kI e d ys i a R)(u v:Nat):Joined ys ((.nd a i .nil,0) :: R) u v↔Joined e d u v :=
 ⟨fun⟨r,b,c⟩=>⟨r,b.mono fun v u=>(h.par v u).1,c.mono fun v u=>(h.par v u).1⟩,fun⟨r,b,c⟩=>⟨r,b.mono fun v u=>(h.par v u).2,c.mono fun v u=>(h.par v u).2⟩⟩
theorem Qa{o xs ys:List Nd}{n R R' : FT}{i j:Nat}{a b:Tr}(h:kI o n xs i a R)(k:kI xs ((.nd a i .nil,0) :: R) ys j b R')(U:i≠j):(fJ ys i).up≠0↔Joined o n i j:=by
 have F:=h.fo
 obtain⟨r,I,aa⟩:=h.head
 obtain⟨t, J, V⟩:=k.head
 have E:PR (gT (gQ o n)) i r:=h.top I (by simp[Tr.mem])
 have L:PR (gT (gQ o n)) j t := (k.top J (by simp[Tr.mem])).mono fun v u=>(h.par v u).1
 have C:∀ v u w, gT (gQ o n) v u->gT (gQ o n) v w -> u=w := fun v u w m p=>h.fo.sD ((h.par v u).2 m) ((h.par v w).2 p)
 constructor
 . intro D
   rcases k.Db (.nd a i .nil) s_ with ⟨m,p⟩|m
   . have O:=k.fo.rep (.nd a i .nil,0) (nv _ m)
     exact absurd O.2.1.2.2 D
   . rw[I,J]at m
     simp only[Option.some.injEq]at m
     subst m
     exact⟨t, E,L⟩
 . rintro⟨r2,m,p⟩ D
   have e1:r=r2:=PR.unique C E m
   have M:t = r2:=PR.unique C L p
   have Y:i<ys.length:=by rw[k.len];exact(F.rep (.nd a i .nil,0) s_).1.2
   have i0:i≠0:=(F.rep (.nd a i .nil,0) s_).1.1
   obtain⟨e,B,hm⟩:=qo.1 (k.fo.all i i0 Y)
   -- i is the root of fP tree,which hangs from nothing
   have K:=k.fo.rep e B
   obtain⟨c,x,y,A⟩:=Fc hm
   rw[A]at K
   obtain⟨Q,P⟩:=(xV _ _ _).1 K
   have G:vZ c e.2=0:=by rw[<-Q.2.1.2.2];exact D
   have S:c=[]:=by
    cases c with
    | nil=>rfl
    | cons f c' => obtain⟨d,g,s⟩:=f;exact absurd G P.1.1
   subst S
   have H:e.2=0:=G
   obtain⟨T,q⟩:=e
   simp only[jY]at A H hm
   subst H
   subst A
   have hd:∃ z,(gz ys false (.nd x i y)).head? = some z/\z∈(Tr.nd x i y).mem:=by
    have:(gz ys false (.nd x i y)).length=(Tr.nd x i y).mem.length:=(oq ys false _).length_eq
    cases hs:gz ys false (.nd x i y)with
    | nil=>rw[hs]at this;simp[Tr.mem]at this
    | cons z l=>exact⟨z,rfl,(oq ys false (.nd x i y)).mem_iff.1 (by rw[hs];simp)⟩
   obtain⟨z,W,X⟩:=hd
   have Z:PR (gT (gQ o n)) i z:=(k.fo.below B hm W).mono fun v u hp=>(h.par v u).1 ((k.par v u).1 hp)
   have N:z=t := (PR.unique C Z E).trans (e1.trans M.symm)
   have:=k.fo.X7 B (za (a:=(Tr.nd b j .nil,0))) X (by rw[N];exact V)
   simp only[Prod.mk.injEq,Tr.nd.injEq]at this
   exact U this.1.2.1
theorem abX{xs ys:List Nd}{R R' : FT}{i j:Nat}{a b:Tr}(h:LR xs i a R)(k:kI xs ((.nd a i .nil,0) :: R) ys j b R')(f:PR (gT (gQ xs ((.nd a i .nil,0) :: R))) j i):(gz ys false (.nd b j .nil)).head? = some i:=by
 obtain⟨r,c,_⟩:=k.head
 have:=PR.unique (P:=gT (gQ xs ((.nd a i .nil,0) :: R))) (fun v u g d e=>h.fo.sD d e) (k.top c (v:=j) (by simp[Tr.mem])) f
 rw[c,this]
end Go.Sx
namespace Go.Sx
open Go
theorem gO.one{xs:List Nd}{t:Tr}{p i:Nat}(h:gO xs t p)(hs:t.mem=[i]):t = .nd .nil i .nil:=by
 cases t with
 | nil=>simp[Tr.mem]at hs
 | nd l j r =>
  cases l with
  | nil =>
   cases r with
   | nil=>simp[Tr.mem]at hs;rw[hs]
   | nd _ _ _=>simp[Tr.mem]at hs
  | nd _ _ _ =>
   have:=congrArg List.length hs
   simp[Tr.mem]at this
   omega
theorem aa7{xs:List Nd}{t:Tr}{i:Nat}(h:gz xs false t=[i]):t.mem=[i]:=by
 have:=oq xs false t
 rw[h]at this
 exact List.perm_singleton.1 this.symm
theorem ab0{ys zs a:List Nd}{i j:Nat}{b a2 b2:Tr}{R R2 f:FT}(p:Fo ys ((.nd b j .nil,0) :: R))(hs:gz ys false (.nd b j .nil)=[i,j])
 (h1:kI ys ((.nd b j .nil,0) :: R) zs i a2 R2) (c:kI (kq zs i) ((.nd a2 i .nil,0) :: R2) a j b2 f):b2 = .nd .nil i .nil/\a2 = .nil:=by
 have t:∀ x∈[i,j],x≠0:=fun x y=>p.x9 (T:=.nd b j .nil) (q:=0) s_ x (by rw[hs];exact y)
 have i0:=t i s_
 have o:gT (gQ ys ((.nd b j .nil,0) :: R)) i 0:=⟨(gz ys false (.nd b j .nil),0),by simp[gQ],by rw[hs];exact sC.2 (.inl ⟨rfl,rfl⟩)⟩
 have p2:gT (gQ ys ((.nd b j .nil,0) :: R)) j i:=⟨(gz ys false (.nd b j .nil),0),by simp[gQ],by rw[hs];exact sC.2 (.inr (sC.2 (.inl ⟨rfl,rfl⟩)))⟩
 -- the first exposing
 have z:gT (gQ zs ((.nd a2 i .nil,0) :: R2)) i ((gz zs false a2).getLast?.getD 0):=⟨(gz zs false (.nd a2 i .nil),0),by simp[gQ],gz zs false a2,[],h1.seq,rfl⟩
 have e1:=h1.fo.sD z ((h1.par i 0).2 o)
 have l:gz zs false a2=[]:=by
  cases d:(gz zs false a2).getLast? with
  | none=>exact Lq.1 d
  | some x =>
   rw[d]at e1
   simp only[Dw]at e1
   exact absurd e1 (h1.fo.x9 (T:=.nd a2 i .nil) (q:=0) s_ x (by rw[h1.seq];exact yW _ (GC d)))
 have r : a2 = .nil:=by
  have:=(oq zs false a2).length_eq
  rw[l]at this
  cases a2 with
  | nil=>rfl
  | nd _ _ _=>simp[Tr.mem]at this
 obtain⟨D,A,n,_⟩:=E2 h1
 have m:gQ (kq zs i) ((.nd a2 i .nil,0) :: R2)=gQ zs ((.nd a2 i .nil,0) :: R2):=by
  simp only[gQ,kf]at n ⊢
  rw[A,n,h1.seq,l]
  rfl
 have B:gT (gQ a ((.nd b2 j .nil,0) :: f)) i 0:=(c.par i 0).2 (by rw[m];exact(h1.par i 0).2 o)
 have C:gT (gQ a ((.nd b2 j .nil,0) :: f)) j i:=(c.par j i).2 (by rw[m];exact(h1.par j i).2 p2)
 have w:gT (gQ a ((.nd b2 j .nil,0) :: f)) j ((gz a false b2).getLast?.getD 0):=⟨(gz a false (.nd b2 j .nil),0),by simp[gQ],gz a false b2,[],c.seq,rfl⟩
 have g:=c.fo.sD w C
 have d:(gz a false b2).getLast? = some i:=by
  cases d:(gz a false b2).getLast? with
  | none=>rw[d]at g;exact absurd g.symm i0
  | some x=>rw[d]at g;simp only[Dw]at g;rw[g]
 obtain⟨s,h⟩:∃ s,gz a false b2=s++[i]:=by
  obtain⟨s,e⟩:=List.getLast?_eq_some_iff.1 d
  exact⟨s,e⟩
 have hv:gT (gQ a ((.nd b2 j .nil,0) :: f)) i (s.getLast?.getD 0):=⟨(gz a false (.nd b2 j .nil),0),by simp[gQ],s,[j],by rw[c.seq,h];simp,rfl⟩
 have k:=c.fo.sD hv B
 have v:s=[]:=by
  cases hl2:s.getLast? with
  | none=>exact Lq.1 hl2
  | some x =>
   rw[hl2]at k
   simp only[Dw]at k
   exact absurd k (c.fo.x9 (T:=.nd b2 j .nil) (q:=0) s_ x (by rw[c.seq,h];simp[GC hl2]))
 rw[v,rU]at h
 have u:=c.fo.rep (.nd b2 j .nil,0) s_
 exact⟨gO.one u.2.2.2.1 (aa7 h),r⟩
def uQ(a:List Nd)(i j:Nat):List Nd:=iI (fN (fN a i (fun x=>{ x with up:=0 })) j (fun x=>{ x with k0:=0 })) j
theorem agM{b:List Nd}{i j:Nat}{R:FT}(h:Fo b ((.nd (.nd .nil i .nil) j .nil,0) :: R)):Fo (uQ b i j) ((.nd .nil i .nil,0) :: (.nd .nil j .nil,0) :: R)/\(uQ b i j).length=b.length/\∀ k,k≠i->k≠j->fJ (uQ b i j) k=fJ b k:=by
 obtain⟨n1,P,C⟩:=h.split
 obtain⟨⟨u,jl⟩,⟨k0,k1,up⟩,v,hi,_⟩:=h.rep (.nd (.nd .nil i .nil) j .nil,0) s_
 have F := hi
 obtain⟨⟨i0,B⟩,⟨J,K,O⟩,iv,_,_⟩:=F
 have t:i≠j:=by
  simp only[Tr.mem,rU,sJ,nw]at n1
  rintro rfl
  simp at n1
 obtain⟨N,e1⟩:∃ x,x=fN b i (fun x=>{ x with up:=0 }):=⟨_,rfl⟩
 obtain⟨f,g⟩:∃ x,x=fN N j (fun x=>{ x with k0:=0 }):=⟨_,rfl⟩
 have E:uQ b i j=iI f j:=by rw[g,e1];rfl
 have L:f.length=b.length:=by rw[g,e1,gC,gC]
 have a2:fJ f i={ fJ b i with up:=0 }:=by rw[g,j5 (fun e=>t e.symm),e1,ko B]
 have b2:fJ f j={ fJ b j with k0:=0 }:=by rw[g,ko (by rw[e1,gC];exact jl),e1,j5 t]
 have M:∀ k,k≠i->k≠j->fJ f k=fJ b k:=fun k c G => by rw[g,j5 (fun e=>G e.symm),e1,j5 (fun e=>c e.symm)]
 obtain⟨q,s⟩:=AY (xs:=f) (i:=j) (l:=.nil) (r:=.nil) ⟨u,o_⟩ trivial trivial (by rw[b2];rfl) (by rw[b2];exact k1) (by simp[Tr.mem]) (by simp[Tr.mem])
 rw[<-E]at q s
 rw[show (fJ f j).up=0 by rw[b2];exact up]at s
 have d:fJ (uQ b i j) i={ fJ b i with up:=0 }:=by rw[q.other i t,a2]
 have w:∀ k,k≠i->k≠j->fJ (uQ b i j) k=fJ b k:=fun k p z=>by rw[q.other k z,M k p z]
 have ll:(uQ b i j).length=b.length:=by rw[q.len,L]
 have D:gO (uQ b i j) (.nd .nil i .nil) 0:=by
  refine⟨⟨i0,by rw[ll];exact B⟩,⟨by rw[d];exact J,by rw[d];exact K,by rw[d]⟩,?_,trivial,trivial⟩
  simp only[Tr.mem,rU]at iv ⊢
  refine⟨by rw[d];exact iv.size,?_,?_⟩
  . rw[d,iv.total];simp[nK,d]
  . rw[d];exact⟨iv.first.1,fun k c=>.inl (by have p:=iv.first.1;simp at c p;rw[c,p])⟩
 have H:i∈(Tr.nd (.nd .nil i .nil) j .nil).mem:=by simp[Tr.mem]
 have I:j∈(Tr.nd (.nd .nil i .nil) j .nil).mem:=by simp[Tr.mem]
 have nR:∀ e∈R,∀ k∈e.1.mem,k≠i/\k≠j:=fun e a k c=>⟨fun e' => C i H (e' ▸ oc a c),fun e' => C j I (e' ▸ oc a c)⟩
 have A:jH ((.nd .nil i .nil,0) :: (.nd .nil j .nil,0) :: R)=jH ((.nd (.nd .nil i .nil) j .nil,0) :: R):=by simp[jH,Tr.mem]
 obtain⟨ρ,r1,r2⟩:=h.sF
 refine⟨⟨fun e a=>?_,fun e a=>?_,by rw[A];exact h.nodup,fun k m c=>by rw[A];exact h.all k m (by rw[ll]at c;exact c),fun e a=>?_,⟨ρ,fun e a=>?_,fun e a m=>?_⟩,by rw[w 0 (fun e=>i0 e.symm) (fun e=>u e.symm)];exact h.zero,by rw[ll];exact h.pos,by rw[ll];exact h.len⟩,ll,w⟩
 . rcases zb.1 a with rfl|a
   . exact D
   . rcases zb.1 a with rfl|a
     . exact s
     . exact(h.rep e (by simp[a])).rK ll fun k c=>w k (nR e a k c).1 (nR e a k c).2
 . rcases zb.1 a with rfl|a
   . exact i0
   . rcases zb.1 a with rfl|a
     . exact u
     . exact h.ne e (by simp[a])
 . rw[ll]
   rcases zb.1 a with rfl|a
   . exact h.pos
   . rcases zb.1 a with rfl|a
     . exact h.pos
     . exact h.par e (by simp[a])
 . rcases zb.1 a with rfl|a
   . intro x n y o;simp[Tr.mem]at n o;rw[n,o]
   . rcases zb.1 a with rfl|a
     . intro x n y o;simp[Tr.mem]at n o;rw[n,o]
     . exact r1 e (by simp[a])
 . rcases zb.1 a with rfl|a
   . exact absurd rfl m
   . rcases zb.1 a with rfl|a
     . exact absurd rfl m
     . exact r2 e (by simp[a]) m
def qK(zs:List Nd)(a b:Nat):List Nd := 
 let c:=fN zs a (fun x=>{ x with up:=b })
 iI (fN c b (fun x=>{ x with iP:=IntKind.i64.wrap (x.iP+(fJ c a).total) })) b
theorem aaK{zs:List Nd}{a b:Nat}{x y:Tr}{R:FT}(h:Fo zs ((.nd y b .nil,0) :: (.nd x a .nil,0) :: R)):Fo (qK zs a b) ((.nd y b .nil,0) :: (.nd x a .nil,b) :: R)/\(qK zs a b).length=zs.length/\∀ k,k≠a->k≠b->fJ (qK zs a b) k=fJ zs k:=by
 obtain⟨n1,F,n3⟩:=h.split
 have V:=h.rep (.nd y b .nil,0) s_
 have A:=h.rep (.nd x a .nil,0) s_
 obtain⟨⟨b0,bl⟩,⟨S,T,U⟩,bv,hy,_⟩:=V
 have a0:=A.1.1
 have al:=A.1.2
 have t:a∈(Tr.nd x a .nil).mem:=by simp[Tr.mem]
 have u:b∈(Tr.nd y b .nil).mem:=by simp[Tr.mem]
 have n:∀ k∈(Tr.nd y b .nil).mem,k∉(Tr.nd x a .nil).mem/\k∉jH R:=fun k c=>by
  have:=n3 k c
  simp only[jH,zx,zo,not_or]at this
  exact this
 have D:a≠b:=fun e=>(n b u).1 (e▸t)
 have nA:(Tr.nd x a .nil).mem.Nodup/\∀ k∈(Tr.nd x a .nil).mem,k∉jH R:=by
  simp only[jH,zx,zr]at F
  exact⟨F.1,fun k m f=>F.2.2 k m k f rfl⟩
 obtain⟨I,e1⟩:∃ z,z=fN zs a (fun x=>{ x with up:=b }):=⟨_,rfl⟩
 obtain⟨g,q⟩:∃ z,z=fN I b (fun x=>{ x with iP:=IntKind.i64.wrap (x.iP+(fJ I a).total) }):=⟨_,rfl⟩
 have X:qK zs a b=iI g b:=by rw[q,e1];rfl
 have L:I.length=zs.length:=by rw[e1,gC]
 have M:g.length=zs.length:=by rw[q,gC,L]
 have a2:fJ g a={ fJ zs a with up:=b }:=by rw[q,j5 (fun e=>D e.symm),e1,ko al]
 obtain⟨N,b2⟩:∃ N,fJ g b={ fJ zs b with iP:=N }:=⟨_,by rw[q,ko (by rw[L];exact bl),e1,j5 D]⟩
 have O:∀ k,k≠a->k≠b->fJ g k=fJ zs k:=fun k c Y => by rw[q,j5 (fun e=>Y e.symm),e1,j5 (fun e=>c e.symm)]
 have ad:b∉y.mem:=by
  simp only[Tr.mem,zr,zt]at n1
  exact fun h=>n1.2.2 b h b s_ rfl
 have ab:gO g y b:=hy.rK M fun k c=>O k (fun e=>(n k (by simp[Tr.mem,c])).1 (e▸t)) (fun e=>ad (e▸c))
 obtain⟨w,B⟩:=AY (xs:=g) (i:=b) (l:=y) (r:=.nil) ⟨b0,o_⟩ ab trivial (by rw[b2];exact S) (by rw[b2];exact T) n1 h.count
 rw[<-X]at w B
 rw[show (fJ g b).up=0 by rw[b2];exact U]at B
 have v:∀ k,k≠a->k≠b->fJ (qK zs a b) k=fJ zs k:=fun k m f=>by rw[w.other k f,O k m f]
 have ll:(qK zs a b).length=zs.length:=by rw[w.len,M]
 have j:fJ (qK zs a b) a={ fJ zs a with up:=b }:=by rw[w.other a D,a2]
 have W:gO (qK zs a b) (.nd x a .nil) b:=by
  obtain⟨⟨_,_⟩,⟨P,Q,_⟩,p,Z,_⟩:=A
  have ac:a∉x.mem:=by
   have:=nA.1
   simp only[Tr.mem,zr,zt]at this
   exact fun h=>this.2.2 a h a s_ rfl
  have K:∀ k∈x.mem,fJ (qK zs a b) k=fJ zs k:=fun k c=>v k (fun e=>ac (e▸c)) (fun e=>(n b u).1 (e▸by simp[Tr.mem,c]))
  refine⟨⟨a0,by rw[ll];exact al⟩,⟨by rw[j];exact P,by rw[j];exact Q,by rw[j]⟩,?_,Z.rK ll K,trivial⟩
  have C:∀ k∈x.mem++a :: Tr.nil.mem,(fJ (qK zs a b) k).key=(fJ zs k).key/\(fJ (qK zs a b) k).iP=(fJ zs k).iP:=fun k c=>by
   simp only[Tr.mem,zo,zb,oB,or_false]at c
   rcases c with c|rfl
   . rw[K k c];exact⟨rfl,rfl⟩
   . rw[j];exact⟨rfl,rfl⟩
  refine⟨by rw[j];exact p.size,?_,?_⟩
  . rw[j,show nK (qK zs a b) (x.mem++a :: Tr.nil.mem)=nK zs (x.mem++a :: Tr.nil.mem) from congrArg List.sum (yY fun k c=>by rw[(C k c).2])]
    exact p.total
  . rw[j]
    refine⟨p.first.1,fun k c=>?_⟩
    rcases p.first.2 k c with e|e
    . exact .inl e
    . refine .inr ?_
      rw[<-e]
      simp only[kY,(C k c).1,(C _ p.first.1).1]
 have nR:∀ e∈R,∀ k∈e.1.mem,k≠a/\k≠b:=fun e d k c=>⟨fun e' => nA.2 a t (e' ▸ oc d c),fun e' => (n b u).2 (e' ▸ oc d c)⟩
 have J:jH ((.nd y b .nil,0) :: (.nd x a .nil,b) :: R)=jH ((.nd y b .nil,0) :: (.nd x a .nil,0) :: R):=by simp[jH]
 obtain⟨ρ,r1,r2⟩:=h.sF
 obtain⟨σ,E⟩:∃ σ:Nat->Nat,∀ k,σ k=if k∈(Tr.nd y b .nil).mem then ρ k+ρ a+1 else ρ k:=⟨_,fun _=>rfl⟩
 have H:∀ k∈(Tr.nd y b .nil).mem,σ k=ρ k+ρ a+1:=fun k c=>by rw[E,if_pos c]
 have o:∀ k,k∉(Tr.nd y b .nil).mem->σ k=ρ k:=fun k c=>by rw[E,if_neg c]
 have ae:∀ k,ρ k<=σ k:=fun k=>by rw[E];split<;>omega
 have G:∀ k∈(Tr.nd x a .nil).mem,k∉(Tr.nd y b .nil).mem:=fun k m f=>(n k f).1 m
 have oR:∀ e∈R,∀ k∈e.1.mem,k∉(Tr.nd y b .nil).mem:=fun e d k m f=>(n k f).2 (oc d m)
 refine⟨⟨fun e d=>?_,fun e d=>?_,by rw[J];exact h.nodup,fun k s c=>by rw[J];exact h.all k s (by rw[ll]at c;exact c),fun e d=>?_,⟨σ,fun e d=>?_,fun e d s=>?_⟩,by rw[v 0 (fun e=>a0 e.symm) (fun e=>b0 e.symm)];exact h.zero,by rw[ll];exact h.pos,by rw[ll];exact h.len⟩,ll,v⟩
 . rcases zb.1 d with rfl|d
   . exact B
   . rcases zb.1 d with rfl|d
     . exact W
     . exact(h.rep e (by simp[d])).rK ll fun k c=>v k (nR e d k c).1 (nR e d k c).2
 . rcases zb.1 d with rfl|d
   . exact b0
   . rcases zb.1 d with rfl|d
     . exact a0
     . exact h.ne e (by simp[d])
 . rw[ll]
   rcases zb.1 d with rfl|d
   . exact h.pos
   . rcases zb.1 d with rfl|d
     . exact bl
     . exact h.par e (by simp[d])
 . rcases zb.1 d with rfl|d
   . intro i hi k c
     rw[H i hi,H k c,r1 (.nd y b .nil,0) s_ i hi k c]
   . rcases zb.1 d with rfl|d
     . intro i hi k c
       rw[o i (G i hi),o k (G k c),r1 (.nd x a .nil,0) s_ i hi k c]
     . intro i hi k c
       rw[o i (oR e d i hi),o k (oR e d k c),r1 e (by simp[d]) i hi k c]
 . rcases zb.1 d with rfl|d
   . exact absurd rfl s
   . rcases zb.1 d with rfl|d
     . intro i hi
       have:=r1 (.nd x a .nil,0) s_ i hi a t
       rw[o i (G i hi),H b u]
       omega
     . intro i hi
       have:=r2 e (by simp[d]) s i hi
       have:=ae e.2
       rw[o i (oR e d i hi)]
       omega
def wm(ys:List Nd)(i:Nat)(k:Int):List Nd:=iI (fN ys i (fun x=>{ x with key:=k })) i
theorem adT{ys:List Nd}{i:Nat}{a:Tr}{R:FT}{c:Int}(h:Fo ys ((.nd a i .nil,0) :: R)):Fo (wm ys i c) ((.nd a i .nil,0) :: R)/\(wm ys i c).length=ys.length/\(∀ k,k≠i->fJ (wm ys i c) k=fJ ys k)/\(fJ (wm ys i c) i).key=c:=by
 obtain⟨n1,B,y⟩:=h.split
 obtain⟨⟨i0,w⟩,⟨k0,k1,up⟩,v,t,_⟩:=h.rep (.nd a i .nil,0) s_
 obtain⟨f,g⟩:∃ z,z=fN ys i (fun x=>{ x with key:=c }):=⟨_,rfl⟩
 have u:wm ys i c=iI f i:=by rw[g];rfl
 have p:f.length=ys.length:=by rw[g,gC]
 have a2:fJ f i={ fJ ys i with key:=c }:=by rw[g,ko w]
 have q:∀ k,k≠i->fJ f k=fJ ys k:=fun k b=>by rw[g,j5 (fun e=>b e.symm)]
 have A:i∉a.mem:=by
  simp only[Tr.mem,zr,zt]at n1
  exact fun h=>n1.2.2 i h i s_ rfl
 obtain⟨j,m⟩:=AY (xs:=f) (i:=i) (l:=a) (r:=.nil) ⟨i0,o_⟩ (t.rK p fun k b=>q k (fun e=>A (e▸b))) trivial (by rw[a2];exact k0) (by rw[a2];exact k1) n1 h.count
 rw[<-u]at j m
 rw[show (fJ f i).up=0 by rw[a2];exact up]at m
 have n:∀ k,k≠i->fJ (wm ys i c) k=fJ ys k:=fun k o=>by rw[j.other k o,q k o]
 have ll:(wm ys i c).length=ys.length:=by rw[j.len,p]
 have hm:i∈(Tr.nd a i .nil).mem:=by simp[Tr.mem]
 refine⟨⟨fun e d=>?_,h.ne,h.nodup,fun k s b=>h.all k s (by rw[ll]at b;exact b),fun e d=>by rw[ll];exact h.par e d,h.sF,by rw[n 0 (fun e=>i0 e.symm)];exact h.zero,by rw[ll];exact h.pos,by rw[ll];exact h.len⟩,ll,n,by rw[j.kl.key,a2]⟩
 rcases zb.1 d with rfl|d
 . exact m
 . exact(h.rep e (by simp[d])).rK ll fun k b=>n k (fun e' => y i hm (e' ▸ oc d b))
def uF:Nd:=⟨0,0,0,false,0,0,0,0,0⟩
def vV(i:Nat):Nd:=⟨0,0,0,false,0,1,i,0,1⟩
def mB(n k:Nat):List Nd:=(List.range (n+1)).map fun i=>if 1<=i/\i<=k then vV i else uF
theorem qb(n k:Nat):(mB n k).length=n+1:=by simp[mB]
theorem xI{n k i:Nat}(h:i<n+1):fJ (mB n k) i=if 1<=i/\i<=k then vV i else uF:=by
 simp[fJ,mB,qX h]
theorem abE(n:Nat):mB n 0=List.replicate (n+1) uF:=by
 apply List.ext_getElem
 . simp[mB]
 . intro i a b
   simp only[mB,List.getElem_map,List.getElem_range,List.getElem_replicate]
   rw[if_neg o_]
theorem abD{n k:Nat}(h:k<n):iI (mB n k) (k+1)=mB n (k+1):=by
 have b:k+1<(mB n k).length:=by rw[qb];omega
 have a:fJ (mB n k) (k+1)=uF:=by rw[xI o_,if_neg o_]
 unfold iI
 rw[a]
 simp only[uF,l8,if_true]
 apply nS
 intro i
 by_cases hi:i=k+1
 . subst hi
   rw[gB (by rw[gC];exact b),ko b,a,gB (by rw[qb];omega),xI o_,if_pos o_]
   simp only[uF,vV,Lm]
   rfl
 . by_cases hlt:i<n+1
   . rw[gB (by rw[gC,qb];exact hlt),j5 (fun e=>hi e.symm),gB (by rw[qb];exact hlt),xI hlt,xI hlt]
     by_cases h1:1<=i/\i<=k
     . rw[if_pos h1,if_pos o_]
     . rw[if_neg h1,if_neg o_]
   . rw[zw (by rw[gC,qb];omega),zw (by rw[qb];omega)]
def newF(n:Nat):FT:=(List.range n).map fun v=>(.nd .nil (v+1) .nil,0)
theorem abF{n:Nat}(h:n<=1000000):Fo (mB n n) (newF n):=by
 have i:jH (newF n)=(List.range n).map (· + 1):=by
  unfold jH newF
  rw[List.flatMap_map]
  induction List.range n with
  | nil=>rfl
  | cons x l k =>
   rw[zx,k]
   rfl
 refine⟨fun e d=>?_,fun e d=>?_,?_,fun j g f=>?_,fun e d=>?_,⟨fun _=>0,fun _ _ _ _ _ _=>rfl,fun e d g=>?_⟩,?_,by rw[qb];omega,by rw[qb];omega⟩
 . obtain⟨v,hv,rfl⟩:=z7.1 d
   have hv:=zz.1 hv
   have c:fJ (mB n n) (v+1)=vV (v+1):=by rw[xI o_,if_pos o_]
   refine⟨⟨o_,by rw[qb];omega⟩,⟨by rw[c];rfl,by rw[c];rfl,by rw[c];rfl⟩,⟨by rw[c];rfl,?_,?_⟩,trivial,trivial⟩
   . rw[c];simp only[Tr.mem,rU,nK,kf,Dz,c];rw[Lm];rfl
   . rw[c];exact⟨by simp[vV,Tr.mem],fun j f=>.inl (by simpa[vV,Tr.mem]using f)⟩
 . obtain⟨v,hv,rfl⟩:=z7.1 d
   exact Nat.succ_ne_zero v
 . rw[i]
   exact List.Pairwise.map _ (fun a b (h:a≠b)=>by show a+1≠b+1;omega) u5
 . rw[i]
   rw[qb]at f
   exact z7.2 ⟨j-1,zz.2 o_,o_⟩
 . obtain⟨v,hv,rfl⟩:=z7.1 d
   rw[qb];show 0<n+1;omega
 . obtain⟨v,hv,rfl⟩:=z7.1 d
   exact absurd rfl g
 . rw[xI o_,if_neg o_];exact⟨rfl,rfl,rfl⟩
end Go.Sx
namespace Go.Sx
open Go
theorem Tp{α:Type}[Inhabited α]{xs:List α}{i:Nat}{f g:α->α}(h:i<xs.length):fN (fN xs i f) i g=fN xs i (fun x=>g (f x)):=by
 have e:=ko (f:=f) h
 unfold fN at e ⊢
 rw[e,List.set_set]
theorem acY{xs:List Nd}{i:Nat}(h:i<xs.length):fN (fN (fN xs i (fun x=>{ x with size:=1 })) i (fun x=>{ x with first:=i })) i (fun x=>{ x with total:=IntKind.i64.wrap (1+(fJ xs i).iP) })=fN xs i (fun x=>{ x with size:=1,first:=i,total:=IntKind.i64.wrap (1+x.iP) }):=by
 rw[Tp h,Tp h];rfl
theorem uM{xs y:List Nd}{i:Nat}(a:y=fN xs i (fun x=>{ x with size:=1,first:=i,total:=IntKind.i64.wrap (1+x.iP) }))(h:i<xs.length):iI xs i=l8 (l8 y i (fJ y i).k0) i (fJ y i).k1:=by
 have b:(fJ y i).k0=(fJ xs i).k0:=by rw[a,ko h]
 have e1:(fJ y i).k1=(fJ xs i).k1:=by rw[a,ko h]
 rw[b,e1,a];rfl
theorem tC{xs:List Nd}{i k:Nat}(h:k=0):l8 xs i k=xs:=by simp[l8,h]
section
variable {xs y0 y1 y2:List Nd} {i k:Nat}
theorem tB(h:k≠0)(a:y0=fN xs i (fun x=>{ x with size:=IntKind.i64.wrap ((fJ xs i).size+(fJ xs k).size) }))(e1:y1=fN y0 i (fun x=>{ x with total:=IntKind.i64.wrap ((fJ y0 i).total+(fJ y0 k).total) }))
 (c:kY y1 (fJ y1 k).first (fJ y1 i).first=true) (b:y2=fN y1 i (fun x=>{ x with first:=(fJ y1 k).first })):l8 xs i k=y2:=by
 subst a e1 b
 simp only[l8,if_neg h]
 exact if_pos c
theorem tA(h:k≠0)(a:y0=fN xs i (fun x=>{ x with size:=IntKind.i64.wrap ((fJ xs i).size+(fJ xs k).size) }))(e1:y1=fN y0 i (fun x=>{ x with total:=IntKind.i64.wrap ((fJ y0 i).total+(fJ y0 k).total) }))
 (b:kY y1 (fJ y1 k).first (fJ y1 i).first=false):l8 xs i k=y1:=by
 have c : ¬ kY y1 (fJ y1 k).first (fJ y1 i).first=true:=by rw[b];simp
 subst a e1
 simp only[l8,if_neg h]
 exact if_neg c
end
theorem C0(xs:List Nd)(i:Nat):jy xs i=(0,false)\/jy xs i=(0,true)\/jy xs i=(1,true):=by
 unfold jy
 (repeat' split)<;>simp
theorem gf.kF{xs:List Nd}(h:gf xs){i s k:Nat}(hi:i<xs.length)(hk:k<xs.length):gf (iW xs i s k):=by
 have f:gf (if s=0 then fN xs i (fun x=>{ x with k0:=k })else fN xs i (fun x=>{ x with k1:=k })):=by
  split
  . exact h.iL hi fun x a b c d e=>⟨hk,b,c,d,e⟩
  . exact h.iL hi fun x a b c d e=>⟨a,hk,c,d,e⟩
 have g:(if s=0 then fN xs i (fun x=>{ x with k0:=k })else fN xs i (fun x=>{ x with k1:=k })).length=xs.length:=by split<;>exact gC
 by_cases hk0:k=0
 . simp only[iW,if_pos hk0]
   exact f
 . simp only[iW,if_neg hk0]
   exact f.iL (by rw[g];exact hk) fun x a b c d e=>⟨a,b,by rw[g];exact hi,d,e⟩
theorem EO(xs:List Nd)(i s k:Nat):(iW xs i s k).length=xs.length:=by
 unfold iW
 simp only
 (repeat' split)<;>simp only[gC]
theorem J8(xs:List Nd)(i k:Nat):(l8 xs i k).length=xs.length:=by
 unfold l8
 simp only
 (repeat' split)<;>simp only[gC]
theorem Fz(xs:List Nd)(i:Nat):(iI xs i).length=xs.length:=by
 simp only[iI,J8,gC]
theorem gf.l8{xs:List Nd}(h:gf xs){i k:Nat}(hi:i<xs.length)(hk:k<xs.length):gf (l8 xs i k):=by
 have g:gf (fN xs i (fun x=>{ x with size:=IntKind.i64.wrap (x.size+(fJ xs k).size) })):=h.iL hi fun x a b c d e=>⟨a,b,c,d,e⟩
 have l0:(fN xs i (fun x=>{ x with size:=IntKind.i64.wrap (x.size+(fJ xs k).size) })).length=xs.length:=gC
 unfold Go.Sx.l8
 simp only
 generalize fN xs i (fun x=>{ x with size:=IntKind.i64.wrap (x.size+(fJ xs k).size) })=y0 at g l0 ⊢
 have f:gf (fN y0 i (fun x=>{ x with total:=IntKind.i64.wrap (x.total+(fJ y0 k).total) })):=g.iL o_ fun x a b c d e=>⟨a,b,c,d,e⟩
 have j:(fN y0 i (fun x=>{ x with total:=IntKind.i64.wrap (x.total+(fJ y0 k).total) })).length=y0.length:=gC
 generalize fN y0 i (fun x=>{ x with total:=IntKind.i64.wrap (x.total+(fJ y0 k).total) })=y1 at f j ⊢
 split
 . exact h
 split
 . exact f.iL o_ fun x a b c d e=>⟨a,b,c,f.first k o_,e⟩
 . exact f
theorem gf.lI{xs:List Nd}(h:gf xs){i:Nat}(hi:i<xs.length):gf (iI xs i):=by
 have f:gf (fN xs i (fun x=>{ x with size:=1,first:=i,total:=IntKind.i64.wrap (1+x.iP) })):=h.iL hi fun x a b c d e=>⟨a,b,c,hi,e⟩
 have l0:(fN xs i (fun x=>{ x with size:=1,first:=i,total:=IntKind.i64.wrap (1+x.iP) })).length=xs.length:=gC
 have a:=h.k0 i hi
 have b:=h.k1 i hi
 unfold iI
 exact(f.l8 o_ o_).l8 (by rw[J8];omega) (by rw[J8];omega)
end Go.Sx
namespace Go.Sx
open Go
theorem om{p:Prop}(h:p:=by first|omega|(simp only[gC];omega)):p:=h
theorem oa{p:Prop}(h:p:=by first|assumption|omega|(simp only[gC];omega)):p:=h
theorem o9{p q:Prop}(a:q)(h:q->p:=by intro a;first|omega|(simp only[gC]at a ⊢;omega)|(simp only[gC]at a;omega)|(simp only[gC];omega)):p:=h a
theorem iC{bs:List (World×List Nat)}{A:fT}{nb t m:Nat}{z:List Nd}{w:World}(a:gf z)(hs:St bs [A,blk nb t (z.flatMap Nd.cells)] w)(b:z.length=m:=by first|omega|(simp only[gC];omega)|(rw[EO];omega)|(rw[Fz];omega)|omega):∃ y,y=z/\y.length=m/\gf y/\St bs [A,blk nb t (y.flatMap Nd.cells)] w:=⟨z,rfl,b,a,hs⟩
section
variable {Γ:Type} {P:Program} {ops:Array Oper} {Q:Exit->Act->World->Prop} {n:Nat} {ds:List Deferred} {s0:List (Nat×Value)} {l0:List Oper} {pre:List (List Nat)} {mem:List Nat} {V:List (Γ->Value)} {bs:List (World×List Nat)} {Ls:List ((Γ->List fT)×(Γ->World->Prop))} {i:Nat} {s:Γ->List (Nat×Value)} {o:Oper} {l:List Oper} {v:Γ->Value} {vs:List (Γ->Value)}
theorem pI(h:∀ g w,(execOp (ev n (s g)) o).run P w = .ok (.value (v g)) w)(K:lD P ops Q n ds s0 l0 pre mem V (js bs Ls) (i+1) (fun g=>kz o.dst (v g) (s g)) l vs)(hm:mem.contains i=false:=by exact rfl)(a:∀ g,gA ops n (s g) o.guard=true:=by exact fun _=>rfl)(hd:lZ o.op=true:=by exact rfl) :
 lD P ops Q n ds s0 l0 pre mem V (js bs Ls) i s (o :: l) (v :: vs):=abK hm (fun g w C=>qv (a g) hd (h g w)) K
end
section
variable {P:Program} {bs:List (World×List Nat)} {L LL A A' B:List fT} {R R' : fT} {w w' : World}
theorem St.tn(i:Nat)(h:St bs L w)(b:fZ R w w' R')(hi:L[i]? = some R:=by exact rfl)(a:L.set i R' = LL:=by first|(dsimp only[List.set];exact rfl)|exact rfl):St bs LL w' := St.Ld i h hi b a
theorem St.tu(h:St bs (gj A :: B) w)(a:fZ (gj A) w w' (gj A')):St bs (A' ++ B) w' := (St.Ld 0 h rfl a rfl).unpack
theorem St.eT(h:St bs (R' :: L) w')(hb:(w,R.gG)∈bs:=by exact za):fZ R w w' R' := h.Er hb
theorem St.eM(h:St bs (R :: L) w')(hb:(w,[])∈bs:=by simp):fZ (gj []) w w' R:=h.N7 hb
theorem en{f:FuncId}{fn:Func}{c:Code}{n:Nat}{vs:List Value}{R:Ending->World->Prop}(a:P.funcs[f]? = some fn)(b:fn.ntmps=n)(h:WP none P c (bodyPost P fn R) (Fr n (vu vs 0) []) w)(hb:fn.body=some c:=by exact rfl)(hs:Nat.ble vs.length n=true:=by exact rfl):Calls P f vs.toArray w R:=enter a hb b hs h
variable {ops:Array Oper} {Q:Exit->Act->World->Prop} {n:Nat} {s:List (Nat×Value)} {ds:List Deferred} {r d:Option Nat} {ty:TypeId} {pos:String} {af:Array Edge} {g:Option (Nat×Bool)} {rest:List Oper}
theorem cl{f:FuncId}{a:List Operand}{T:Array TypeId}{vl:List Value}{R:Value->World->Prop}(c:gh P f)(b:CR P f vl.toArray w R)(K:∀ v w', R v w' -> WL r P ops Q rest (Fr n (kz d v s) ds) w')(e:gA ops n s g=true:=by exact rfl)(hvs:a.map (ev n s)=vl:=by exact rfl) :
 WL r P ops Q (⟨d,.call ⟨.value (.func f),a.toArray,T⟩,ty,pos,af,g⟩ :: rest) (Fr n s ds) w:=jK e hvs c b K
end
end Go.Sx
namespace Go.Sx
open Go
theorem Ph(a k:Nat)(m:Nat)(h:k<=m):(a:Int).fdiv (2 ^ (min ((k:Nat):Int).toNat m))=((a / 2 ^ k:Nat):Int):=by
 rw[mc,qW h]
 rw[Int.fdiv_eq_ediv_of_nonneg _ (Int.pow_nonneg d_)]
 simp
section
variable {r:Option Nat} {P:Program} {ops:Array Oper} {Q:Exit->Act->World->Prop} {rest:List Oper} {n d:Nat} {s:List (Nat×Value)} {ds:List Deferred} {w:World} {ty:TypeId} {pos:String} {af:Array Edge} {g:Option (Nat×Bool)}
theorem ZH{x y:Operand}{t:TypeId}{k:IntKind}{b:ByteArray}{i:Int}(m:Nat)(e:gA ops n s g=true)(h:ev n s x = .string b)(j:ev n s y = .int k i)(f:P.underlying t=some .string)(hm:b.size=m)(a:0<=i)(hi:i<m)
 (K:∀ c:UInt8,c.toNat<256->WL r P ops Q rest (Fr n ((d,.int .u8 c.toNat) :: s) ds) w):WL r P ops Q (⟨some d,.index t x y,ty,pos,af,g⟩ :: rest) (Fr n s ds) w :=
 ZG e h j f a (getElem?_pos b i.toNat (by show i.toNat<b.size;omega)) (K _ (UInt8.toNat_lt _))
end
end Go.Sx
namespace Go.Sx
open Go
section
variable {P:Program} {w:World} {v:Value} {xs:List Int} {e:TypeId} {f:FuncId}
theorem ZA{b cap:Nat}{cur:Array Value}(d:w.heap[b]? = some (.cells cur e (0,0)))(f:cur.toList.take xs.length=xs.map (Value.int .i64)):Go.Sort.Holds (Value.int .i64) w b 0 xs.toArray:=by
 intro j g
 have a : j<xs.length:=by simpa using g
 have c:(cur.toList.take xs.length)[j]? = some (Value.int .i64 xs[j]):=by rw[f];simp[a]
 rw[Lr a]at c
 refine⟨?_,?_⟩
 . simp only[World.cell?,d]
   have e1:xs.toArray[j]! = xs[j]:=by simp[a]
   rw[e1]
   simpa using c
 . simp[World.frozen?,d]
theorem VN(s:Own (ic .i64 v e xs) w){i:Nat}(hi:i<xs.length)
 (t:∀ b cap,Go.Sort.Holds (Value.int .i64) w b 0 xs.toArray->xs.length<=cap->cap<=9223372036854775807 ->
  Calls P f #[.slice (some ⟨b,0,none⟩) xs.length cap,.int .i64 (i:Int),.int .i64 ((i+1:Nat):Int)] w fun en w' => en = .returned (.slice (some ⟨b,0,none⟩) (xs.length-(i+1-i)) cap) /\
   ∃ q,w' = Go.Sort.putRow (Value.int .i64) (Go.Sort.ahead w q) b 0 (xs.take i++xs.drop (i+1)++List.replicate (i+1-i) 0).toArray) :
 CR P f #[v,.int .i64 (i:Int),.int .i64 ((i+1:Nat):Int)] w (fun r w' => fZ (ic .i64 v e xs) w w' (ic .i64 r e (xs.eraseIdx i))):=by
 have H:w.ownsRow 0 e 1 v xs.length (xs.map (Value.int .i64)):=s.holds
 rcases H.2 with ⟨_,L⟩|⟨a, cap,cur,rfl,hb,g,o,k,l,m⟩
 . omega
 . have p : cur.toList.take xs.length=xs.map (Value.int .i64):=by rw[rW]at m;simpa using m
   refine Calls.mono (t a cap (ZA (cap:=cap) g p) o (by simpa[maxLen]using k)) ?_
   rintro en w' ⟨rfl,q,rfl⟩
   refine⟨_,rfl,?_⟩
   have z:xs.eraseIdx i=xs.take i++xs.drop (i+1):=Gs xs i
   have E:(xs.eraseIdx i).length=xs.length-(i+1-i):=by rw[List.length_eraseIdx_of_lt hi];omega
   have A:a < w.heap.size:=(z6.1 g).1
   obtain⟨d,hd⟩:∃ d,d=(xs.take i++xs.drop (i+1)++List.replicate (i+1-i) 0).toArray:=⟨_,rfl⟩
   rw[<-hd]
   have y:d.size=xs.length:=by rw[hd];simp;omega
   have F:(Go.Sort.putRow (Value.int .i64) (Go.Sort.ahead w q) a 0 d).heap[a]? = some (.cells (Go.Sort.putCells (Value.int .i64) 0 d cur) e (0,0)):=by
    simp only[Go.Sort.putRow,Go.Sort.mapBlock,Go.Sort.ahead,yT,if_pos,g]
    rfl
   have G:∀ b,b≠a -> (Go.Sort.putRow (Value.int .i64) (Go.Sort.ahead w q) a 0 d).heap[b]? = w.heap[b]? := by
    intro b hb
    simp only[Go.Sort.putRow,Go.Sort.mapBlock,Go.Sort.ahead,yT]
    rw[if_neg (fun e=>hb e.symm)]
   have n:(Go.Sort.putRow (Value.int .i64) (Go.Sort.ahead w q) a 0 d).heap.size=w.heap.size:=by simp[Go.Sort.putRow,Go.Sort.mapBlock,Go.Sort.ahead]
   have I:(Go.Sort.putCells (Value.int .i64) 0 d cur).size=cur.size:=by simp[Go.Sort.putCells]
   have J:(Go.Sort.putCells (Value.int .i64) 0 d cur).toList.take (xs.eraseIdx i).length=(xs.eraseIdx i).map (Value.int .i64):=by
    apply nS
    intro j
    rw[sG,lK]
    split
    . rename_i h
      have B:j<xs.length:=by omega
      have C:j<cur.size:=by
       have:xs.length<=cur.size:=by rw[l];omega
       omega
      have x:d[j]! = (xs.eraseIdx i)[j]:=by
       have u:d=(xs.eraseIdx i++List.replicate (i+1-i) 0).toArray:=by rw[hd,z]
       rw[u]
       have D:j<(xs.eraseIdx i++List.replicate (i+1-i) 0).toArray.size:=by simp only[List.size_toArray,zq];omega
       rw[getElem!_pos _ j D,List.getElem_toArray,List.getElem_append_left h]
      simp only[Go.Sort.putCells,wO,LF,mU,true_and,lC,Nat.sub_zero]
      rw[tQ C]
      simp only[wM]
      rw[if_pos (by rw[y];exact B),x]
      simp[h]
    . rename_i h
      rw[zw o_]
      rfl
   refine⟨?_,⟨rfl,rfl,rfl,Nat.le_of_eq n.symm,fun b hb K=>G b (fun e=>K (by simp[row,Value.ownBlock,e]))⟩,fun b c => .inl (by simpa[row,Value.ownBlock]using c),by simp[row,Value.ownBlock],fun b c => ?_⟩
   . refine⟨s_,.inr ⟨a, cap,_,by rw[E],hb,F,o_,k,by rw[I];exact l,?_⟩⟩
     rw[rW]
     simpa using J
   . simp[row,Value.ownBlock]at c
     subst c
     rw[n]
     exact A
end
end Go.Sx
namespace Go.Sx
open Go
section
variable {P:Program} {t:TypeId} {w:World}
theorem adH {a b : Field} {xs ys : Array Value} {f g y1 y2 : Value} {c d : Bool} (h : P.underlying t = some (.struct #[a, b])) (hs : P.stoodInHeld t = false) (n1 : a.name ≠ "_") (i : b.name ≠ "_")
 (j:(part a.type xs a.offset).run P w = .ok f w) (k:(part a.type ys a.offset).run P w = .ok y1 w) (p2:(part b.type xs b.offset).run P w = .ok g w) (l:(part b.type ys b.offset).run P w = .ok y2 w)
 (e1:(Op.equalIn 9999 a.type f y1).run P w = .ok c w) (e:(Op.equalIn 9999 b.type g y2).run P w = .ok d w):(Op.equal t (.agg xs) (.agg ys)).run P w = .ok (c&&d) w:=by
 show (Op.equalIn (9999+1) t _ _).run P w=_
 unfold Op.equalIn
 simp[run_underlying h,hs,n1,i,j,k,p2,l,e1,e]
 cases c<;>cases d<;>simp[e]
theorem adF{e:TypeId}{k:IntKind}{by_:Nat}{z:Value}(g:P.underlying t=some (.array 2 e))(f:P.underlying e=some (.int k))(hi:TI P e 1 by_ z)(a0 a1 b0 b1:Int) :
 (Op.equal t (.agg #[.int k a0,.int k a1]) (.agg #[.int k b0,.int k b1])).run P w = .ok (decide (a0=b0/\a1=b1)) w:=by
 have p:∀ (c d:Value),(part e #[c,d] 0).run P w = .ok c w/\(part e #[c,d] 1).run P w = .ok d w:=fun c d=>⟨wj f _ _ _ rfl,wj f _ _ _ rfl⟩
 have q:=fun a b=>Ko (P:=P) (w:=w) 9998 f a b
 simp only[Nat.reduceAdd]at q
 show (Op.equalIn 10000 t _ _).run P w=_
 unfold Op.equalIn
 simp only[zu,run_underlying g,zp,hi.size,Std.Legacy.Range.forIn_eq_forIn_range', Std.Legacy.Range.size]
 simp only[show List.range' 0 ((2-0+1-1) / 1) 1=[0,1] from rfl,List.forIn_cons,List.forIn_nil,zu,rW,(p _ _).1,(p _ _).2,zp,q]
 by_cases h0:a0=b0
 . by_cases h1:a1=b1
   . simp[h0,h1,p,q,Result.andThen]
   . simp[h0,h1,p,q,Result.andThen]
 . simp[h0,p,q,Result.andThen]
theorem Sd(a:P.underlying t=some .bool)(xs:Array Value)(i:Nat)(v:Value)(h:xs[i]? = some v):(part t xs i).run P w = .ok v w:=by
 simp[part,wh a,j4,h]
end
section
variable {r:Option Nat} {P:Program} {ops:Array Oper} {Q:Exit->Act->World->Prop} {rest:List Oper} {n:Nat} {s:List (Nat×Value)} {ds:List Deferred} {w:World}
variable {d:Nat} {dd:Option Nat} {ty t t' : TypeId} {pos:String} {af:Array Edge} {g:Option (Nat×Bool)} {x y:Operand} {xs ys:Array Value} {c:Bool}
theorem abx(d:ev n s x = .agg xs)(e:ev n s y = .agg ys)(b:P.eqGuardType P.depth t=false)(a:∀ w,(Op.equal t (.agg xs) (.agg ys)).run P w = .ok c w) :
 (execOp (ev n s) ⟨dd,.binOp .neq t x y t', ty,pos,af,g⟩).run P w = .ok (.value (.bool (!c))) w:=by
 simp only[execOp,d,e,zu,run_eqGuard_agg .neq b,zp]
 simp only[binOp,zu,a,zp,z8]
theorem QW(b:gA ops n s g=true)(f:ev n s x = .agg xs)(h:ev n s y = .agg ys)(e:P.eqGuardType P.depth t=false)(a:∀ w,(Op.equal t (.agg xs) (.agg ys)).run P w = .ok c w)
 (K:WL r P ops Q rest (Fr n ((d,.bool (!c)) :: s) ds) w):WL r P ops Q (⟨some d,.binOp .neq t x y t', ty,pos,af,g⟩ :: rest) (Fr n s ds) w:=pw b (fun _=>abx f h e a) K
theorem X8(b:gA ops n s g=true)(f:ev n s x = .agg xs)(h:ev n s y = .agg ys)(e:P.eqGuardType P.depth t=false)(a:∀ w,(Op.equal t (.agg xs) (.agg ys)).run P w = .ok c w)
 (K:WL r P ops Q rest (Fr n ((d,.bool c) :: s) ds) w):WL r P ops Q (⟨some d,.binOp .eql t x y t', ty,pos,af,g⟩ :: rest) (Fr n s ds) w:=by
 refine pw b (fun _=>?_) K
 simp only[execOp,f,h,zu,run_eqGuard_agg .eql e,zp]
 simp only[binOp,zu,a,zp,z8]
end
end Go.Sx
namespace Go.Sx
open Go
abbrev k7(k:IntKind)(e:Int×Value×Nat):MapEntry:=⟨.int k e.1,e.2.1,e.2.2⟩
section
variable {P:Program} {k k' : IntKind} {x:Int} {es:List (Int×Value×Nat)}
theorem we{kt:TypeId}(hk:P.underlying kt=some (.int k'))(a:Bool)(n:Nat)(v:Value)(w:World):(Instr.checkKey a (n+1) kt v).run P w = .ok () w:=by simp[Instr.checkKey,run_underlying hk]
theorem wg{kt:TypeId}{w:World}(hk:P.underlying kt=some (.int k')){l:List MapEntry}{v:Value}{q:Option (Nat×Value)}(h:Instr.findNow (.int k') v l 0=some q):(Instr.findKey kt v l).run P w = .ok q w:=by simp[Instr.findKey,run_underlying hk,h]
theorem aad(x:Int)(w:World):(Instr.keyThatStays (.int k x) (.int k x)).run P w = .ok (.int k x) w:=by simp[Instr.keyThatStays,Instr.sameBits]
theorem UW{b:Nat}(w:World)(o:Obj):gw [b] w { w with heap:=w.heap.setIfInBounds b o } :=
 ⟨rfl,rfl,rfl,s_,fun c d a=>by
  have:b≠c:=fun e=>a (by simp[e])
  simp[Lx,this]⟩
theorem B8{b:Nat}(w:World)(o:Obj):gw [b] w (w.putObj b o) :=
 ⟨rfl,rfl,rfl,by simp[World.putObj],fun c d a=>by
  have:b≠c:=fun e=>a (by simp[e])
  simp[World.putObj,Lx,this]⟩
theorem FF{b:Nat}{w:World}{o:Obj}{d:Array MapEntry}{a:Nat}(h:w.heap[b]? = some (.map d a)):(setObj b o).run P w = .ok () (w.putObj b o)/\(w.putObj b o).heap[b]? = some o:=by
 have c:=(z6.1 h).1
 exact⟨by simp only[setObj,Sem.run,h,World.putObj],World.putObj_heap_same c⟩
end
section
variable {r:Option Nat} {P:Program} {ops:Array Oper} {Q:Exit->Act->World->Prop} {rest l:List Oper} {n:Nat} {s s0:List (Nat×Value)} {ds:List Deferred} {w w0:World} {Nx:Value->World->Prop}
variable {d:Nat} {dd:Option Nat} {ty:TypeId} {pos:String} {af:Array Edge} {g:Option (Nat×Bool)} {x y m:Operand} {bs:List (World×List Nat)} {L L' : List fT} {t e kt:TypeId} {b:Nat} {k k' : IntKind} {ys:List Int} {a:Int}
theorem St.Fa{i:Nat}{R R' : fT}{o:Obj}(h:St bs L w)(hi:L[i]? = some R)(e:R.gG=[b])(d : R'.gG=[b])(g:∀ w' : World,w'.heap[b]? = some o->R'.holds w')(f:b<w.heap.size):St bs (L.set i R') (w.putObj b o):=by
 refine h.iL hi (by rw[e];exact B8 w o) (fun c a=>.inl (by rw[e];rwa [d]at a)) (by rw[d];simp) (fun c a=>?_) (g _ (World.putObj_heap_same f))
 rw[d]at a
 simp only[lB]at a
 subst a
 simpa[World.putObj]using f
end
end Go.Sx
namespace Go.Sx
open Go
section
variable {γ:Type}
def gZ:List (Int×γ)->Int->Option γ
 | [],_=>none
 | (b,y) :: m,a=>if b=a then some y else gZ m a
def gD:List (Int×γ)->Int->γ->List (Int×γ)
 | [],a,x=>[(a,x)]
 | (b,y) :: m,a,x=>if b=a then(a,x) :: m else(b,y) :: gD m a x
def iZ:List (Int×γ)->Int->List (Int×γ)
 | [],_=>[]
 | (b,y) :: m,a=>if b=a then m else(b,y) :: iZ m a
def gi[Inhabited γ](m:List (Int×γ))(a:Int):γ:=(gZ m a).getD default
def gM(b:Nat)(k:IntKind)(enc:γ->Value)(m:List (Int×γ)):fT where
 gG:=[b]
 holds w:=∃ (es:List (Int×Value×Nat)) (a:Nat),w.heap[b]? = some (.map (es.map (k7 k)).toArray a)/\es.map (fun e=>(e.1,e.2.1))=m.map (fun p=>(p.1,enc p.2))/\(es.map (fun e=>e.2.2)).Nodup/\∀ e∈es,e.2.2<a
 loc w w' h hh:=by
  obtain⟨es,a,c,d⟩:=hh
  exact⟨es,a,(h b s_).trans c,d⟩
theorem vU(m:List (Int×γ))(a c:Int)(x:γ):gZ (gD m a x) c=if a=c then some x else gZ m c:=by
 induction m with
 | nil=>simp[gD,gZ]
 | cons p m d =>
  obtain⟨b,y⟩:=p
  simp only[gD]
  by_cases h:b=a
  . subst h
    rw[if_pos rfl]
    simp only[gZ]
    split<;>rfl
  . rw[if_neg h]
    simp only[gZ,d]
    by_cases h1:b=c
    . rw[if_pos h1,if_neg (fun e=>h (h1.trans e.symm)),if_pos h1]
    . rw[if_neg h1,if_neg h1]
theorem JA{m:List (Int×γ)}(d:(m.map Prod.fst).Nodup)(a c:Int):gZ (iZ m a) c=if a=c then none else gZ m c:=by
 induction m with
 | nil=>simp[iZ,gZ]
 | cons p m g =>
  obtain⟨b,y⟩:=p
  simp only[kf,zt]at d
  simp only[iZ]
  by_cases h:b=a
  . subst h
    rw[if_pos rfl]
    by_cases h1:b=c
    . subst h1
      rw[if_pos rfl]
      have:∀ (l:List (Int×γ)),b∉l.map Prod.fst->gZ l b=none:=by
       intro l
       induction l with
       | nil=>intro _;rfl
       | cons q l i =>
        intro f
        simp only[kf,zb,not_or]at f
        simp only[gZ]
        rw[if_neg (fun e=>f.1 e.symm)]
        exact i f.2
      exact this m d.1
    . rw[if_neg h1]
      simp only[gZ]
      rw[if_neg h1]
  . rw[if_neg h]
    simp only[gZ,g d.2]
    by_cases h1:b=c
    . rw[if_pos h1,if_neg (fun e=>h (h1.trans e.symm)),if_pos h1]
    . rw[if_neg h1,if_neg h1]
theorem QF{m:List (Int×γ)}{a:Int}{x:γ}(h:gZ m a=some x):(a,x)∈m:=by
 induction m with
 | nil=>simp[gZ]at h
 | cons p m c =>
  obtain⟨b,y⟩:=p
  simp only[gZ]at h
  split at h
  . rename_i e
    cases h
    subst e
    simp
  . exact nv _ (c h)
theorem Ff{m:List (Int×γ)}{a:Int}:gZ m a=none↔a∉m.map Prod.fst:=by
 induction m with
 | nil=>simp[gZ]
 | cons p m c =>
  obtain⟨b,y⟩:=p
  simp only[gZ,kf,zb,not_or]
  split
  . rename_i e
    simp[e]
  . rename_i e
    rw[c]
    exact⟨fun h=>⟨fun e' => e e'.symm,h⟩,fun h=>h.2⟩
theorem QG{m:List (Int×γ)}(c:(m.map Prod.fst).Nodup){a:Int}{x:γ}(h:(a,x)∈m):gZ m a=some x:=by
 induction m with
 | nil=>simp at h
 | cons p m d =>
  obtain⟨b,y⟩:=p
  simp only[kf,zt]at c
  simp only[gZ]
  rcases zb.1 h with e|h
  . cases e
    simp
  . rw[if_neg (fun e=>c.1 (by rw[e];exact z7.2 ⟨_,h,rfl⟩))]
    exact d c.2 h
theorem Qd(m:List (Int×γ))(a:Int)(x:γ):(gD m a x).map Prod.fst=if a∈m.map Prod.fst then m.map Prod.fst else m.map Prod.fst++[a]:=by
 induction m with
 | nil=>simp[gD]
 | cons p m d =>
  obtain⟨b,y⟩:=p
  simp only[gD]
  by_cases h:b=a
  . subst h
    simp
  . rw[if_neg h]
    simp only[kf,d,zb]
    by_cases h1:a∈m.map Prod.fst
    . rw[if_pos h1,if_pos (.inr h1)]
    . rw[if_neg h1,if_neg (fun c=>c.elim (fun e=>h e.symm) h1)]
      rfl
theorem CI{m:List (Int×γ)}(b:(m.map Prod.fst).Nodup)(a:Int)(x:γ):((gD m a x).map Prod.fst).Nodup:=by
 rw[Qd]
 split
 . exact b
 . rename_i h
   rw[zr]
   exact⟨b,s_,fun c f d hd e=>by simp at hd;subst hd;subst e;exact h f⟩
theorem Ju(m:List (Int×γ))(a:Int):(iZ m a).Sublist m:=by
 induction m with
 | nil=>exact List.Sublist.slnil
 | cons p m c =>
  obtain⟨b,y⟩:=p
  simp only[iZ]
  split
  . exact LD _ _
  . exact List.Sublist.cons_cons _ c
theorem Q0{m:List (Int×γ)}(b:(m.map Prod.fst).Nodup)(a:Int):((iZ m a).map Prod.fst).Nodup:=b.sublist ((Ju m a).map _)
end
section
variable {γ:Type} {enc:γ->Value} {P:Program} {k k' : IntKind} {a:Int}
theorem EK(k k' : IntKind)(a:Int):∀ (es:List (Int×Value×Nat)) (m:List (Int×γ)) (i:Nat),es.map (fun e=>(e.1,e.2.1))=m.map (fun p=>(p.1,enc p.2)) ->
 (gZ m a=none/\Instr.findNow (.int k') (.int k a) (es.map (k7 k)) i=some none/\(∀ y,gD m a y=m++[(a,y)])/\iZ m a=m) \/
 (∃ j x e,gZ m a=some x/\es[j]? = some e/\e.1=a/\Instr.findNow (.int k') (.int k a) (es.map (k7 k)) i=some (some (i+j,enc x)) /\
  (∀ y,(es.set j (a,enc y,e.2.2)).map (fun e=>(e.1,e.2.1))=(gD m a y).map (fun p=>(p.1,enc p.2)))/\(es.eraseIdx j).map (fun e=>(e.1,e.2.1))=(iZ m a).map (fun p=>(p.1,enc p.2))):=by
 intro es
 induction es with
 | nil =>
  intro m i h
  cases m with
  | cons p m=>simp at h
  | nil=>exact .inl ⟨rfl,rfl,fun _=>rfl,rfl⟩
 | cons e es v =>
  intro m i h
  cases m with
  | nil=>simp at h
  | cons p m =>
   obtain⟨b,y⟩:=p
   simp only[kf,List.cons.injEq]at h
   obtain⟨q,n⟩:=h
   have c:e.1=b:=congrArg Prod.fst q
   have o:e.2.1=enc y:=congrArg Prod.snd q
   by_cases hb:b=a
   . refine .inr ⟨0,y,e,by simp[gZ,hb],rfl,c.trans hb,?_,fun s => ?_,?_⟩
     . have:(a==e.1)=true:=by rw[c,hb];simp
       simp only[kf,Instr.findNow,Instr.sameNow,if_true,this,o,qt]
     . simp[gD,hb,n]
     . simp[iZ,hb,n]
   . have r:(a==e.1)=false:=by
      rw[c]
      simp only[beq_eq_false_iff_ne,ne_eq]
      exact fun e' => hb e'.symm
     rcases v m (i+1) n with ⟨d,f,g,l⟩|⟨j,x,e', d,f,g,l,t,u⟩
     . refine .inl ⟨by simp[gZ,hb,d],?_,fun s => by simp[gD,hb,g],by simp[iZ,hb,l]⟩
       simp only[kf,Instr.findNow,Instr.sameNow,if_true,r]
       exact f
     . refine .inr ⟨j+1,x,e', by simp[gZ,hb,d],by simpa using f,g,?_,fun s => ?_,?_⟩
       . simp only[kf,Instr.findNow,Instr.sameNow,if_true,r]
         rw[l,kQ,Nat.add_comm 1 j]
       . simp only[List.set_cons_succ,kf,t,gD,if_neg hb,c,o]
       . simp only[List.eraseIdx_cons_succ,kf,u,iZ,if_neg hb,c,o]
theorem abl{es:List (Int×Value×Nat)}{j:Nat}{e:Int×Value×Nat}{v:Value}(h:es[j]? = some e)(c:e.1=a) :
 ((es.map (k7 k)).toArray.modify j fun q=>{ q with key:=.int k a,val:=v })=((es.set j (a,v,e.2.2)).map (k7 k)).toArray:=by
 apply Array.ext'
 apply nS
 intro q
 simp only[Array.toList_modify,List.getElem?_modify,lK,rS]
 by_cases hq:j=q
 . subst hq
   obtain⟨b,rfl⟩:=ze.1 h
   simp[b]
 . simp[hq]
theorem ED{α β:Type}(f:α->β):∀ (l:List α) (j:Nat),(l.map f).eraseIdx j=(l.eraseIdx j).map f
 | [],_=>rfl
 | _ :: _,0=>rfl
 | a :: l,j+1=>by simp[ED f l j]
theorem Yi{es:List (Int×Value×Nat)}{j:Nat}:((es.map (k7 k)).toArray.eraseIdxIfInBounds j)=((es.eraseIdx j).map (k7 k)).toArray:=by
 by_cases h:j<es.length
 . rw[Array.eraseIdxIfInBounds,dif_pos (by simpa using h)]
   simp[ED]
 . rw[Array.eraseIdxIfInBounds,dif_neg (by simpa using h),List.eraseIdx_of_length_le o_]
end
section
variable {γ:Type} {enc:γ->Value}
variable {r:Option Nat} {P:Program} {ops:Array Oper} {Q:Exit->Act->World->Prop} {rest l:List Oper} {n:Nat} {s s0:List (Nat×Value)} {ds:List Deferred} {w w0:World} {Nx:Value->World->Prop}
variable {d:Nat} {dd:Option Nat} {ty:TypeId} {pos:String} {af:Array Edge} {g:Option (Nat×Bool)} {x y m:Operand} {bs:List (World×List Nat)} {L L' : List fT} {t e kt:TypeId} {b sz by_:Nat} {k k' : IntKind} {mm:List (Int×γ)} {a:Int} {z v:Value} {c:γ}
theorem Js{i:Nat}(c:St bs L w)(a:L[i]? = some (gM b k enc mm)):b<w.heap.size:=c.lt b (rE a (by simp[gM]))
theorem uN{es:List (Int×Value×Nat)}{a:Nat}(h:w.heap[b]? = some (.map (es.map (k7 k)).toArray a)):(getObj b).run P w = .ok (.map (es.map (k7 k)).toArray a) w:=by
 simp[getObj,Sem.run,h]
theorem mkV{a : Option Operand}(enc:γ->Value)(k:IntKind)(c:gA ops n s g=true)(e:a = none)(f:St bs L w)
 (K:∀ b w', w.heap.size<=b->gw [] w w' -> St bs (gM b k enc [] :: L) w' -> WL r P ops Q rest (Fr n ((d,.map (some b)) :: s) ds) w') :
 WL r P ops Q (⟨some d,.makeMap t a, ty,pos,af,g⟩ :: rest) (Fr n s ds) w:=by
 subst e
 refine pv (v:=.map (some w.heap.size)) (w' := w.alloc (.map #[] 0)) c rfl ?_ (K _ _ (zj _) (gw.alloc [] w _) ?_)
 . simp only[execOp,Option.map_none,Instr.makeMap]
   rfl
 . exact f.r7 (gw.alloc [] w _) (fun b hb=>by simp[gM]at hb;omega) (by simp[gM]) (fun b hb=>by simp[gM]at hb;simp;omega) ⟨[],0,heap_alloc_new w _,rfl,s_,s_⟩
section
variable [Inhabited γ]
theorem aaM(i:Nat)(hm:ev n s m = .map (some b))(l:ev n s x = .int k a)(h:P.underlying t=some (.map kt e))(hk:P.underlying kt=some (.int k'))(u:TI P e sz by_ z)(y:enc default=z)(v:St bs L w)(r:L[i]? = some (gM b k enc mm)) :
 (execOp (ev n s) ⟨dd,.lookup t m x true,ty,pos,af,g⟩).run P w = .ok (.value (.tuple #[enc (gi mm a),.bool (gZ mm a).isSome])) w:=by
 obtain⟨es,A,f,q,B,C⟩:(gM b k enc mm).holds w:=v.own _ (zg r)
 rcases EK k k' a es mm 0 q with ⟨c,o,_⟩|⟨j,D, e', c,_,_,p,_⟩
 . have d:=wg (P:=P) (w:=w) hk o
   simp only[execOp,hm,l,Instr.lookup,zu,run_underlying h,zp,z8,uN f,we hk,d,u.zD]
   simp[gi,c,y]
 . have d:=wg (P:=P) (w:=w) hk p
   simp only[execOp,hm,l,Instr.lookup,zu,run_underlying h,zp,z8,uN f,we hk,d]
   simp[gi,c]
theorem xF(i:Nat)(hm:ev n s m = .map (some b))(l:ev n s x = .int k a)(h:P.underlying t=some (.map kt e))(hk:P.underlying kt=some (.int k'))(u:TI P e sz by_ z)(y:enc default=z)(v:St bs L w)(r:L[i]? = some (gM b k enc mm)) :
 (execOp (ev n s) ⟨dd,.lookup t m x false,ty,pos,af,g⟩).run P w = .ok (.value (enc (gi mm a))) w:=by
 obtain⟨es,A,f,q,B,C⟩:(gM b k enc mm).holds w:=v.own _ (zg r)
 rcases EK k k' a es mm 0 q with ⟨c,o,_⟩|⟨j,D, e', c,_,_,p,_⟩
 . have d:=wg (P:=P) (w:=w) hk o
   simp only[execOp,hm,l,Instr.lookup,zu,run_underlying h,zp,z8,uN f,we hk,d,u.zD]
   simp[gi,c,y]
 . have d:=wg (P:=P) (w:=w) hk p
   simp only[execOp,hm,l,Instr.lookup,zu,run_underlying h,zp,z8,uN f,we hk,d]
   simp[gi,c]
theorem aaL(i:Nat)(h:gA ops n s g=true)(hm:ev n s m = .map (some b))(o:ev n s x = .int k a)(l:P.underlying t=some (.map kt e))(hk:P.underlying kt=some (.int k'))(f:TI P e sz by_ z)(p:enc default=z)(j:St bs L w)(c:L[i]? = some (gM b k enc mm))
 (K:WL r P ops Q rest (Fr n ((d,.tuple #[enc (gi mm a),.bool (gZ mm a).isSome]) :: s) ds) w):WL r P ops Q (⟨some d,.lookup t m x true,ty,pos,af,g⟩ :: rest) (Fr n s ds) w:=pv h rfl (aaM i hm o l hk f p j c) K
theorem pE(i:Nat)(h:gA ops n s g=true)(hm:ev n s m = .map (some b))(o:ev n s x = .int k a)(l:P.underlying t=some (.map kt e))(hk:P.underlying kt=some (.int k'))(f:TI P e sz by_ z)(p:enc default=z)(j:St bs L w)(c:L[i]? = some (gM b k enc mm))
 (K:WL r P ops Q rest (Fr n ((d,enc (gi mm a)) :: s) ds) w):WL r P ops Q (⟨some d,.lookup t m x false,ty,pos,af,g⟩ :: rest) (Fr n s ds) w:=pv h rfl (xF i hm o l hk f p j c) K
end
theorem aaF(i:Nat)(l:ev n s x = .map (some b))(j:P.underlying t=some (.map kt e))(h:St bs L w)(d:L[i]? = some (gM b k enc mm)) :
 (execOp (ev n s) ⟨dd,.call ⟨.builtin .len,#[x],#[t]⟩,ty,pos,af,g⟩).run P w = .ok (.value (.int .i64 (mm.length:Int))) w:=by
 obtain⟨es,m,a,c,o,p⟩:(gM b k enc mm).holds w:=h.own _ (zg d)
 have f:es.length=mm.length:=by have:=congrArg List.length c;simpa using this
 simp[execOp,resolve,invoke,builtin,l,Builtin.len_,run_underlying j,uN a,goInt,f]
theorem abo(i:Nat)(hm:ev n s m = .map (some b))(G:ev n s x = .int k a)(H:ev n s y=enc c)(F:P.underlying t=some (.map kt e))(hk:P.underlying kt=some (.int k'))(v:St bs L w)(u:L[i]? = some (gM b k enc mm))(M : L.set i (gM b k enc (gD mm a c))=L') :
 ∃ w', (execOp (ev n s) ⟨dd,.mapUpdate t m x y,ty,pos,af,g⟩).run P w = .ok .skip w' /\ St bs L' w' /\ gw [b] w w' := by
 subst M
 obtain⟨es,f,o,B,C,r⟩:(gM b k enc mm).holds w:=v.own _ (zg u)
 have D:=Js v u
 rcases EK k k' a es mm 0 B with ⟨I,d,l,_⟩|⟨j,T, e', I,d,l,J,K,_⟩
 . have A:=wg (P:=P) (w:=w) hk d
   have hp:((es.map (k7 k)).toArray.push ⟨.int k a,enc c,f⟩)=((es++[(a,enc c,f)]).map (k7 k)).toArray:=by simp
   refine⟨w.putObj b (.map ((es++[(a,enc c,f)]).map (k7 k)).toArray (f+1)),?_,v.Fa u rfl rfl (fun w' h=>⟨_,_,h,by rw[l];simp[B],?_,?_⟩) D,B8 w _⟩
   . simp only[execOp,hm,G,H,Instr.mapUpdate,zu,run_underlying F,zp,z8,uN o,we hk,A,hp,(FF o).1]
   . rw[sK,zr]
     refine⟨C,s_,fun q Q S E z => ?_⟩
     simp at E
     subst E z
     obtain⟨p,hp,R⟩:=z7.1 Q
     have:=r p hp
     omega
   . intro p hp
     rcases zo.1 hp with hp|hp
     . have:=r p hp;omega
     . simp at hp;subst hp;simp
 . have A:=wg (P:=P) (w:=w) hk J
   have N:((es.map (k7 k)).toArray[j]?).map (·.key)=some (.int k a):=by simp[d,l]
   refine⟨w.putObj b (.map ((es.set j (a,enc c,e'.2.2)).map (k7 k)).toArray f),?_,v.Fa u rfl rfl (fun w' h=>⟨_,_,h,K c,?_,?_⟩) D,B8 w _⟩
   . simp only[execOp,hm,G,H,Instr.mapUpdate,zu,run_underlying F,zp,z8,uN o,we hk,A,lC,N,Dw,aad]
     rw[abl d l]
     simp only[(FF o).1,z8,zp]
   . have:(es.set j (a,enc c,e'.2.2)).map (fun e=>e.2.2)=es.map (fun e=>e.2.2):=by
      rw[List.map_set]
      have O:=(ze.1 d).1
      apply nS
      intro q
      rw[rS]
      split
      . rename_i z
        subst z
        rw[if_pos (by simpa using O),lK,d]
        rfl
      . rfl
     rw[this]
     exact C
   . intro p hp
     rcases List.mem_or_eq_of_mem_set hp with hp|hp
     . exact r p hp
     . subst hp
       exact r e' (zg d)
theorem qa(i:Nat)(l:gA ops n s g=true)(hm:ev n s m = .map (some b))(q:ev n s x = .int k a)(u:ev n s y=enc c)(p:P.underlying t=some (.map kt e))(hk:P.underlying kt=some (.int k'))(o:St bs L w)(h:L[i]? = some (gM b k enc mm))(j : L.set i (gM b k enc (gD mm a c))=L')
 (K:∀ w', St bs L' w' -> WL r P ops Q rest (Fr n s ds) w'):WL r P ops Q (⟨none,.mapUpdate t m x y,ty,pos,af,g⟩ :: rest) (Fr n s ds) w:=by
 obtain⟨w', d,f,_⟩:=abo (dd:=none) (ty:=ty) (pos:=pos) (af:=af) (g:=g) i hm q u p hk o h j
 exact Dd l rfl d (K w' f)
theorem VQ{t' : TypeId}(i:Nat)(hm:ev n s m = .map (some b))(B:ev n s x = .int k a)(A:P.underlying t=some (.map kt e))(hk:P.underlying kt=some (.int k'))(f:St bs L w)(d:L[i]? = some (gM b k enc mm))(F : L.set i (gM b k enc (iZ mm a))=L') :
 ∃ w', (execOp (ev n s) ⟨dd,.call ⟨.builtin .delete,#[m,x],#[t,t']⟩,ty,pos,af,g⟩).run P w = .ok (.value (.tuple #[])) w' /\ St bs L' w' /\ gw [b] w w' := by
 subst F
 obtain⟨es,o,c,u,v,y⟩:(gM b k enc mm).holds w:=f.own _ (zg d)
 have z:=Js f d
 rcases EK k k' a es mm 0 u with ⟨C,q,_,r⟩|⟨j,G, e', C,q,r,D,_,E⟩
 . have l:=wg (P:=P) (w:=w) hk q
   refine⟨w.putObj b (.map (es.map (k7 k)).toArray o),?_,f.Fa d rfl rfl (fun w' h=>⟨_,_,h,by rw[r];exact u,v,y⟩) z,B8 w _⟩
   simp only[execOp,resolve,invoke,builtin,zu,z8,zp,List.map_toArray,kf,Dz,hm,B]
   simp only[Builtin.delete_]
   simp only[Bz,List.getElem?_cons_zero,List.getElem?_cons_succ,zu,run_underlying A,zp,uN c,we hk,l,(FF c).1,z8]
 . have l:=wg (P:=P) (w:=w) hk D
   refine⟨w.putObj b (.map ((es.eraseIdx j).map (k7 k)).toArray o),?_,f.Fa d rfl rfl (fun w' h=>⟨_,_,h,E,v.sublist ((LH _ _).map _),fun p hp=>y p ((LH _ _).subset hp)⟩) z,B8 w _⟩
   simp only[execOp,resolve,invoke,builtin,zu,z8,zp,List.map_toArray,kf,Dz,hm,B]
   simp only[Builtin.delete_]
   simp only[Bz,List.getElem?_cons_zero,List.getElem?_cons_succ,zu,run_underlying A,zp,uN c,we hk,l,lC]
   rw[Yi]
   simp only[(FF c).1,z8,zp]
theorem Cb{t' : TypeId}(i:Nat)(j:gA ops n s g=true)(hm:ev n s m = .map (some b))(p:ev n s x = .int k a)(o:P.underlying t=some (.map kt e))(hk:P.underlying kt=some (.int k'))(l:St bs L w)(f:L[i]? = some (gM b k enc mm))(h : L.set i (gM b k enc (iZ mm a))=L')
 (K:∀ w', St bs L' w' -> WL r P ops Q rest (Fr n (kz dd (.tuple #[]) s) ds) w'):WL r P ops Q (⟨dd,.call ⟨.builtin .delete,#[m,x],#[t,t']⟩,ty,pos,af,g⟩ :: rest) (Fr n s ds) w:=by
 obtain⟨w', c,d,_⟩:=VQ (dd:=dd) (ty:=ty) (pos:=pos) (af:=af) (g:=g) (t' := t') i hm p o hk l f h
 exact TF j rfl c (by rw[zH];exact K w' d)
end
end Go.Sx
namespace Go.Sx
open Go
section
variable {P:Program} {w:World} {f:FuncId} {γ:Type} {b:Nat} {k:IntKind} {enc:γ->Value} {m:List (Int×γ)}
theorem Va(h:Own (gM b k enc m) w)(l:∀ es g,w.heap[b]? = some (.map es g)->Calls P f #[.map (some b)] w fun e w' => e = .returned (.map (some w.heap.size))/\w' = w.alloc (.map es g)) :
 CR P f #[.map (some b)] w (fun r w' => ∃ b2,r = .map (some b2)/\fZ (gM b k enc m) w w' (gj [gM b k enc m,gM b2 k enc m])):=by
 obtain⟨es,d,i,j⟩:=h.holds
 have n:=St.I6 h
 refine Calls.mono (l _ _ i) ?_
 rintro e w' ⟨rfl,rfl⟩
 refine⟨_,rfl,w.heap.size,rfl,?_⟩
 have o:St [(w,(gM b k enc m).gG)] (gM w.heap.size k enc m :: [gM b k enc m]) (w.alloc (.map (es.map (k7 k)).toArray d)) :=
  n.r7 (gw.alloc [] w _) (fun c a=>by simp[gM]at a;omega) (by simp[gM]) (fun c a=>by simp[gM]at a;simp;omega) ⟨es,d,heap_alloc_new w _,j⟩
 exact St.N6 (o.perm (List.Perm.swap _ _ _)) za
end
end Go.Sx
namespace Go.Sx
open Go
section
variable {r:Option Nat} {P:Program} {ops:Array Oper} {Q:Exit->Act->World->Prop} {rest:List Oper} {n:Nat} {s:List (Nat×Value)} {ds:List Deferred} {w:World}
variable {d:Nat} {dd:Option Nat} {ty t t' e kt:TypeId} {pos:String} {af:Array Edge} {g:Option (Nat×Bool)} {x y:Operand} {a:Option Nat} {c:Bool}
theorem adI(k:Nat)(b:P.underlying t=some (.map kt e)):(Op.equalIn (k+1) t (.map a) (.map none)).run P w = .ok a.isNone w:=by
 cases a<;>simp[Op.equalIn,run_underlying b]
theorem abB(f:ev n s x = .map a)(h:ev n s y = .map none)(d:P.underlying t=some (.map kt e))(b:(!a.isNone)=c) :
 (execOp (ev n s) ⟨dd,.binOp .neq t x y t', ty,pos,af,g⟩).run P w = .ok (.value (.bool c)) w:=by
 subst b
 simp[execOp,f,h,eqGuard,binOp,Op.equal,Op.maxDepth,adI 9999 d]
theorem QX(f:gA ops n s g=true)(i:ev n s x = .map a)(j:ev n s y = .map none)(h:P.underlying t=some (.map kt e))(b:(!a.isNone)=c)
 (K:WL r P ops Q rest (Fr n ((d,.bool c) :: s) ds) w):WL r P ops Q (⟨some d,.binOp .neq t x y t', ty,pos,af,g⟩ :: rest) (Fr n s ds) w:=pw f (fun _=>abB i j h b) K
end
end Go.Sx
namespace Go.Sx
open Go
section
variable {r:Option Nat} {P:Program} {ops:Array Oper} {Q:Exit->Act->World->Prop} {rest:List Oper} {n:Nat} {s:List (Nat×Value)} {ds:List Deferred} {w:World}
variable {d:Nat} {dd:Option Nat} {ty t t' e:TypeId} {pos:String} {af:Array Edge} {g:Option (Nat×Bool)} {x y:Operand} {a:Addr} {sz by_:Nat} {z:Value}
theorem adJ(k:Nat)(b:P.underlying t=some (.pointer e))(hi:TI P e (sz+1) by_ z):(Op.equalIn (k+1) t (.pointer (some a)) (.pointer (some a))).run P w = .ok true w:=by
 simp[Op.equalIn,run_underlying b,hi.size,sameAddr]
theorem Yf(c:ev n s x = .pointer (some a))(d:ev n s y = .pointer (some a))(b:P.underlying t=some (.pointer e))(hi:TI P e (sz+1) by_ z) :
 (execOp (ev n s) ⟨dd,.binOp .eql t x y t', ty,pos,af,g⟩).run P w = .ok (.value (.bool true)) w:=by
 simp[execOp,c,d,eqGuard,binOp,Op.equal,Op.maxDepth,adJ 9999 b hi]
theorem Cn(b:gA ops n s g=true)(f:ev n s x = .pointer (some a))(h:ev n s y = .pointer (some a))(c:P.underlying t=some (.pointer e))(hi:TI P e (sz+1) by_ z)
 (K:WL r P ops Q rest (Fr n ((d,.bool true) :: s) ds) w):WL r P ops Q (⟨some d,.binOp .eql t x y t', ty,pos,af,g⟩ :: rest) (Fr n s ds) w:=pw b (fun _=>Yf f h c hi) K
end
end Go.Sx
namespace Go.Sx
open Go
theorem HP{xs:List Nd}{q:Nat}:∀ {c:Cx} {j:Nat} {L:List Nat},At xs c j L q->Out xs q (k9 c L)->∀ (k v:Nat),(jj c j)[k]? = some v ->
 (k<c.length->(jy xs v).2=true/\(jj c j)[k+1]? = some (fJ xs v).up)/\(k=c.length->jy xs v=(0,false))
 | [],j,L,h,ho,k,v,hk=>by
  cases k with
  | succ k=>simp[jj]at hk
  | zero =>
   simp[jj]at hk
   subst hk
   exact⟨fun h=>absurd h s_,fun _=>h.stop ho⟩
 | (d,g,s) :: c,j,L,h,ho,k,v,hk=>by
  obtain⟨f,i,l⟩:=h.step
  cases k with
  | zero =>
   simp[jj]at hk
   subst hk
   exact⟨fun _=>⟨by rw[f],by simp[jj,i]⟩,fun h=>absurd h s_⟩
  | succ k =>
   have m : (jj c g)[k]? = some v:=by simpa[jj]using hk
   have:=HP l ho k v m
   refine⟨fun e=>?_,fun e=>this.2 (by simpa using e)⟩
   obtain⟨a,b⟩:=this.1 (by simpa using e)
   exact⟨a,by simpa[jj]using b⟩
theorem jB.PY{b xs:List Nd}{a t s:Tr}{O:Cx}{q g:Nat}{d:Bool}(h:jB b xs a O (lY d t g s) q)(c:(fJ xs g).flip=false):jB b xs a ((d,g,s) :: O) t q :=
 ⟨h.rep,h.perm,h.ord,h.kl,h.other,fun f hm=>by
  rcases zb.1 hm with rfl|hm
  . exact c
  . exact h.flip f hm⟩
theorem Lh{i:Nat}{t:Tr}{w:List Nat}(h:Way i t w):∃ l r w', t = .nd l (w.headD 0) r/\w=w.headD 0 :: w' := by
 cases t with
 | nil=>exact h.elim
 | nd l j r =>
  rcases h with ⟨rfl,rfl⟩|⟨w', rfl,_⟩
  . exact⟨l,r,[],rfl,rfl⟩
  . exact⟨l,r,w', rfl,rfl⟩
theorem ag8{o xs:List Nd}{k U:Tr}{O:Cx}{q i j:Nat}{w:List Nat}(h:jB o xs k O U q)(x:k.mem.Nodup)(c:Way i U (j :: w)) :
 (w=[]->j=i/\∃ a b,jB o (jS xs j) k O (.nd a i b) q/\(fJ (jS xs j) i).flip=false)/\(w≠[]->∃ s p, jB o (jS xs j) k s p q/\Way i p w):=by
 obtain⟨l,r,w', e1,t⟩:=Lh c
 simp only[List.headD_cons]at e1 t
 subst e1
 obtain⟨l', m, v,hm,n⟩:=h.push x
 refine⟨fun e=>?_,fun e=>?_⟩
 . rcases c with ⟨rfl,_⟩|⟨y,g,c⟩
   . exact⟨rfl,l', m, hm,n⟩
   . cases g
     subst e
     rcases c with c|c<;>(obtain⟨_,_,_,_,u⟩:=Lh c;cases u)
 . rcases c with ⟨_,g⟩|⟨y,g,c⟩
   . cases g
     exact absurd rfl e
   . cases g
     have f:Way i l' w\/Way i m w:=by
      rcases v with ⟨rfl,rfl⟩|⟨rfl,rfl⟩
      . exact c
      . exact c.symm
     rcases f with f|f
     . exact⟨(true,j,m) :: O,l', jB.PY (d:=true) hm n,f⟩
     . exact⟨(false,j,l') :: O,m, jB.PY (d:=false) hm n,f⟩
theorem gf.push{xs:List Nd}(h:gf xs){i:Nat}(hi:i<xs.length):gf (jS xs i)/\(jS xs i).length=xs.length:=by
 unfold jS
 split
 . simp only
   obtain⟨y0,g⟩:∃ y,y=fN xs i (fun x=>{ x with flip:=false }):=⟨_,rfl⟩
   have k:gf y0:=g▸h.iL hi fun x a b c d e=>⟨a,b,c,d,e⟩
   have l0:y0.length=xs.length:=by rw[g,gC]
   rw[<-g]
   obtain⟨y1,e1⟩:∃ y,y=fN y0 i (fun x=>{ x with k0:=(fJ y0 i).k1 }):=⟨_,rfl⟩
   have p:gf y1:=e1▸k.iL o_ fun x a b c d e=>⟨k.k1 i o_,b,c,d,e⟩
   have r:y1.length=xs.length:=by rw[e1,gC,l0]
   rw[<-e1]
   obtain⟨y2,j⟩:∃ y,y=fN y1 i (fun x=>{ x with k1:=(fJ y0 i).k0 }):=⟨_,rfl⟩
   have q:(fJ y0 i).k0<y1.length:=by
    have:=k.k0 i o_
    omega
   have f:gf y2:=by
    rw[j]
    exact p.iL o_ fun x a b c d e=>⟨a,q,c,d,e⟩
   have n:y2.length=xs.length:=by rw[j,gC,r]
   rw[<-j]
   obtain⟨o,m⟩:∃ y,y=(if (fJ y2 i).k0=0 then y2 else fN y2 (fJ y2 i).k0 (fun x=>{ x with flip := !(fJ y2 (fJ y2 i).k0).flip })):=⟨_,rfl⟩
   have l:gf o/\o.length=xs.length:=by
    rw[m]
    split
    . exact⟨f,n⟩
    . exact⟨f.iL (f.k0 i o_) fun x a b c d e=>⟨a,b,c,d,e⟩,by rw[gC,n]⟩
   rw[<-m]
   split
   . exact l
   . exact⟨l.1.iL (by have:=f.k1 i o_;omega) fun x a b c d e=>⟨a,b,c,d,e⟩,by rw[gC];exact l.2⟩
 . exact⟨h,rfl⟩
theorem jB.out{c xs:List Nd}{a U:Tr}{O:Cx}{q:Nat}(h:jB c xs a O U q)(g:Out c q a.mem):Out xs q (k9 O U.mem):=by
 have hm:∀ j,j∈k9 O U.mem↔j∈a.mem:=fun j=>by rw[<-pH];exact h.perm.mem_iff
 rcases g with e|⟨d,f,b⟩
 . exact .inl e
 . have e:=h.other q b
   refine .inr ⟨fun k=>d ?_,fun k=>f ?_,fun k=>b ((hm _).1 k)⟩
   . have:=(hm _).1 k
     simpa only[je,e]using this
   . have:=(hm _).1 k
     simpa only[je,e]using this
theorem jB.sides{r xs:List Nd}{k a b:Tr}{O:Cx}{q i:Nat}(h:jB r xs k O (.nd a i b) q)(t:k.mem.Nodup)(u:Out r q k.mem) :
 (O=[]/\jy xs i=(0,false))\/(∃ d p s,O=[(d,p,s)]/\jy xs i=(sd d,true)/\(fJ xs i).up=p/\jy xs p=(0,false)) \/
 (∃ d p s j g o c,O=(d,p,s) :: (j, g,o) :: c/\jy xs i=(sd d,true)/\(fJ xs i).up=p/\jy xs p=(sd j, true)):=by
 have e:=At.start h.rep (h.perm.nodup_iff.2 t)
 have f:=h.out u
 match O,e,f with
 | [],e,f=>exact .inl ⟨rfl,e.stop f⟩
 | [(d,p,s)],e,f =>
  obtain⟨l,m,n⟩:=e.step
  exact .inr (.inl ⟨d,p,s,rfl,l,m,n.stop f⟩)
 | (d,p,s) :: (j, g,o) :: c,e,f =>
  obtain⟨l,m,n⟩:=e.step
  exact .inr (.inr ⟨d,p,s,j, g,o, c,rfl,l,m,n.step.1⟩)
theorem adM{d a : Bool}(h:sd d=sd a):d=a := by cases d<;>cases a <;> first|rfl|cases h
end Go.Sx
namespace Go.Sx
open Go
section
variable {w:World} {bs:List (World×List Nat)} {L:List fT} {R R' : fT} {i j:Nat} {k:IntKind} {v:Value} {e:TypeId} {ys:List Int}
theorem Yp:∀ {L:List fT} {i j:Nat},(iR L).Nodup->L[i]? = some R->L[j]? = some R' -> i≠j->∀ b∈R.gG,b∉R'.gG:=by
 intro L
 induction L with
 | nil=>intro i j _ h;simp at h
 | cons Q L f =>
  intro i j c hi a e b hb
  rw[lV,zr]at c
  cases i with
  | zero =>
   simp at hi;subst hi
   cases j with
   | zero=>exact absurd rfl e
   | succ j=>exact fun d => c.2.2 b hb b (rE (i:=j) (by simpa using a) d) rfl
  | succ i =>
   cases j with
   | zero=>simp at a;subst a;exact fun d => c.2.2 b d b (rE (i:=i) (by simpa using hi) hb) rfl
   | succ j=>exact f c.2.1 (by simpa using hi) (by simpa using a) o_ b hb
theorem St.adt(h:St bs L w)(hi:L[i]? = some (ic k v e ys))(hk:∀ y∈ys,gR k y)(o:L[j]? = some R)(r:i≠j):Ints k (fun b=>b∉R.gG) w v ys:=by
 have c:w.ownsRow 0 e 1 v ys.length (ys.map (.int k)):=h.own _ (zg hi)
 rcases c.2 with ⟨rfl,l⟩|⟨a, f,cur,rfl,_,s,m,n,_⟩
 . have:ys=[]:=tP l
   subst this
   exact Sl.nil _ _ _ _
 . refine⟨_,f,rfl,m,n,fun q y d=>⟨a, 0,[.int k y],rfl,Yp h.sep hi o r a (by simp[row,Value.ownBlock]),rfl,⟨rfl,hk y (zg d)⟩,fun p u hp=>?_⟩⟩
   cases p with
   | zero =>
    simp at hp
    subst hp
    have:=c.cells (g:=a) rfl q (.int k y) (by simp[d])
    rw[Addr.add_lit]at this
    simpa using this
   | succ p=>simp at hp
end
end Go.Sx
namespace Go.Sx
open Go
theorem SG{α:Type}{l:List α}{i:Nat}{x:α}(h:l[i]? = some x):l.take (i+1)=l.take i++[x]:=by rw[pQ,h];rfl
theorem gf.rotate{xs:List Nd}(h:gf xs){i:Nat}(hi:i<xs.length):gf (iG xs i)/\(iG xs i).length=xs.length:=by
 have hp:=h.up i hi
 have j:=h.up _ hp
 unfold iG
 simp only
 obtain⟨y1,e1⟩:∃ y,y=(if (jy xs (fJ xs i).up).2=true then iW xs (fJ xs (fJ xs i).up).up (jy xs (fJ xs i).up).1 i else fN xs i (fun x=>{ x with up:=(fJ xs (fJ xs i).up).up })):=⟨_,rfl⟩
 have f:gf y1/\y1.length=xs.length:=by
  rw[e1]
  split
  . exact⟨h.kF j hi,EO _ _ _ _⟩
  . exact⟨h.iL hi fun x a b c d e=>⟨a,b,j,d,e⟩,gC⟩
 rw[<-e1]
 obtain⟨k,g⟩:∃ k,k=(if (jy xs i).1=0 then(fJ y1 i).k1 else(fJ y1 i).k0):=⟨_,rfl⟩
 have n:k<y1.length:=by
  rw[g]
  split
  . exact f.1.k1 i o_
  . exact f.1.k0 i o_
 rw[<-g]
 have l:gf (iW y1 (fJ xs i).up (jy xs i).1 k):=f.1.kF o_ n
 have o:(iW y1 (fJ xs i).up (jy xs i).1 k).length=xs.length:=by rw[EO];exact f.2
 have m:gf (iW (iW y1 (fJ xs i).up (jy xs i).1 k) i (1-(jy xs i).1) (fJ xs i).up):=l.kF o_ o_
 have p:(iW (iW y1 (fJ xs i).up (jy xs i).1 k) i (1-(jy xs i).1) (fJ xs i).up).length=xs.length:=by rw[EO];exact o
 exact⟨(m.lI o_).lI (by rw[Fz];omega),by rw[Fz,Fz];exact p⟩
theorem CW{xs:List Nd}(h:gf xs){i:Nat}(hi:i<xs.length):(iG xs i).length=xs.length:=(h.rotate hi).2
def lg(xs:List Nd)(P:List Nat)(k:Nat):List Nd:=(P.reverse.take k).foldl jS xs
theorem RM(xs:List Nd)(P:List Nat):lg xs P 0=xs:=by simp[lg]
theorem RL{xs:List Nd}{P:List Nat}{k j:Nat}(h:P.reverse[k]? = some j):lg xs P (k+1)=jS (lg xs P k) j:=by
 unfold lg
 rw[SG h,List.foldl_append]
 rfl
theorem gf.lg{xs:List Nd}(h:gf xs){P:List Nat}(d:∀ j∈P,j<xs.length):∀ k,gf (Go.Sx.lg xs P k)/\(Go.Sx.lg xs P k).length=xs.length:=by
 intro k
 induction k with
 | zero=>rw[RM];exact⟨h,rfl⟩
 | succ k c =>
  cases hk:P.reverse[k]? with
  | none =>
   have:Go.Sx.lg xs P (k+1)=Go.Sx.lg xs P k:=by
    unfold Go.Sx.lg
    rw[pQ,hk]
    simp
   rw[this]
   exact c
  | some j =>
   rw[RL hk]
   have e:j∈P:=by simpa using zg hk
   obtain⟨a,b⟩:=c.1.push (i:=j) (by rw[c.2];exact d j e)
   exact⟨a,by rw[b,c.2]⟩
theorem ag6{g:List Nd}{c:Tr}{q i:Nat}(n:c.mem.Nodup):∀ (w:List Nat) (xs:List Nd) (O:Cx) (U:Tr),jB g xs c O U q->Way i U w->∃ f a b,jB g (w.foldl jS xs) c f (.nd a i b) q/\(fJ (w.foldl jS xs) i).flip=false:=by
 intro w
 induction w with
 | nil =>
  intro xs O U h d
  obtain⟨_,_,_,_,e⟩:=Lh d
  cases e
 | cons j w p =>
  intro xs O U h d
  obtain⟨k,l⟩:=ag8 h n d
  by_cases hw0:w=[]
  . obtain⟨rfl,a,b,hm,m⟩:=k hw0
    subst hw0
    exact⟨O,a,b,hm,m⟩
  . obtain⟨f, r, hm,o⟩:=l hw0
    exact p _ _ _ hm o
theorem acC{xs:List Nd}{c:Cx}{a b:Tr}{i q:Nat}(e:gO xs (jY c (.nd a i b)) q)(f:(jY c (.nd a i b)).mem.Nodup){k:Nat}(hk:k=(jj c i).length):∃ O a' d, jB xs (lg xs (jj c i) k) (jY c (.nd a i b)) O (.nd a' i d) q/\(fJ (lg xs (jj c i) k) i).flip=false:=by
 have:=ag6 f _ xs [] _ (jB.start e) (ag7 c a i b)
 unfold lg
 rw[wN (by simp[hk])]
 exact this
theorem abZ{xs:List Nd}{c:Cx}{a b:Tr}{i q:Nat}(e:gO xs (jY c (.nd a i b)) q):∀ j∈jj c i,j<xs.length:=by
 intro j d
 refine(e.p8 j ?_).2
 rw[pH]
 refine CG.2 ?_
 rcases zb.1 d with rfl|d
 . exact .inl (by simp[Tr.mem])
 . obtain⟨f,g,rfl⟩:=z7.1 d
   exact .inr (Jx g)
theorem NW:∀ (c:Cx) (L:List Nat),c.length+L.length<=(k9 c L).length
 | [],L=>by simp[k9]
 | (d,g,s) :: c,L=>by
  have:=NW c (jQ d L g s)
  rw[k9]
  cases d<;>simp only[jQ,cond_true,cond_false,zq,zd]at * <;> omega
theorem abY{c:Cx}{a b:Tr}{i:Nat}:(jj c i).length=c.length+1/\c.length+1<=(jY c (.nd a i b)).mem.length:=by
 refine⟨by simp[jj],?_⟩
 rw[pH]
 have:=NW c (Tr.nd a i b).mem
 simp only[Tr.mem,zq,zd]at *
 omega
section
variable {xs:List Nd} {c:Cx} {q j k v s:Nat} {L:List Nat} {i:Nat}
theorem U5(h:At xs c i L q)(d:Out xs q (k9 c L))(hk:(jj c i)[k]? = some v)(hs:jy xs v=(s,false)):k=c.length:=by
 have a:=HP h d k v hk
 have b:=(ze.1 hk).1
 simp only[jj,zd,zn]at b
 by_cases h3:k<c.length
 . have:=(a.1 h3).1
   rw[hs]at this
   cases this
 . omega
theorem NN(h:At xs c i L q)(d:Out xs q (k9 c L))(hk:(jj c i)[k]? = some v)(hs:jy xs v=(s,true)):k<c.length/\(jj c i)[k+1]? = some (fJ xs v).up:=by
 have a:=HP h d k v hk
 have b:=(ze.1 hk).1
 simp only[jj,zd,zn]at b
 by_cases h3:k<c.length
 . exact⟨h3,(a.1 h3).2⟩
 . have:=a.2 o_
   rw[hs]at this
   cases this
end
abbrev gx(P:List Nat):List Int:=P.map (fun(x:Nat)=>(x:Int))
theorem JI{P:List Nat}{k j:Nat}(h:P[k]? = some j):gx (P.take k)++[(j:Int)]=gx (P.take (k+1)):=by
 rw[SG h,gx,gx,sK]
 rfl
theorem Fi{m:Nat}{P:List Nat}(h:∀ j∈P,j<m)(hm:m<=1000001):∀ y∈gx P,gR .i64 y:=by
 intro y b
 obtain⟨j,a,rfl⟩:=z7.1 b
 have:=h j a
 show (-9223372036854775808:Int)<=_/\_<=(9223372036854775807:Int)
 omega
theorem abv{P:List Nat}{k:Nat}{x:Int}(hk:k<(gx P).length)(h:(gx P)[(gx P).length-1-k]? = some x):∃ j,P.reverse[k]? = some j/\x=(j:Int):=by
 simp only[gx,zn,lK]at h hk
 rw[List.getElem?_reverse hk]
 cases h1:P[P.length-1-k]? with
 | none=>rw[h1]at h;cases h
 | some j =>
  rw[h1]at h
  simp at h
  exact⟨j,rfl,h.symm⟩
end Go.Sx
namespace Go.Sx
open Go
instance:Inhabited (Value×List Nat):=⟨(.slice none 0 0,[])⟩
abbrev IM:=List (Int×(Value×List Nat))
def jw(e:TypeId)(m:IM):fT:=gj (m.map fun p=>ic .i64 p.2.1 e (gx p.2.2))
theorem JD{γ:Type}(m:List (Int×γ))(a:Int)(x:γ):(gD m a x).Perm ((a,x) :: iZ m a):=by
 induction m with
 | nil=>exact List.Perm.refl _
 | cons p m b =>
  obtain⟨c,y⟩:=p
  unfold gD iZ
  split
  . rename_i h
    exact List.Perm.refl _
  . rename_i h
    exact(List.Perm.cons _ b).trans (List.Perm.swap _ _ _)
theorem JB{γ:Type}{m:List (Int×γ)}{a:Int}{x:γ}(h:gZ m a=some x):m.Perm ((a,x) :: iZ m a):=by
 induction m with
 | nil=>simp[gZ]at h
 | cons p m d =>
  obtain⟨c,y⟩:=p
  unfold gZ at h
  unfold iZ
  split at h
  . rename_i b
    rw[if_pos b]
    cases h
    rw[b]
  . rename_i b
    rw[if_neg b]
    exact(List.Perm.cons _ (d h)).trans (List.Perm.swap _ _ _)
theorem QC{γ:Type}{m:List (Int×γ)}{a:Int}(h:gZ m a=none):iZ m a=m:=by
 induction m with
 | nil=>rfl
 | cons p m d =>
  obtain⟨c,y⟩:=p
  unfold gZ at h
  unfold iZ
  split at h
  . cases h
  . rename_i b
    rw[if_neg b,d h]
section
variable {bs:List (World×List Nat)} {L:List fT} {w:World} {e:TypeId} {m:IM} {a:Int}
theorem St.xw{a:IM}(h:St bs (jw e m :: L) w)(hp:m.Perm a):St bs (jw e a :: L) w :=
 St.pack _ _ ((St.unpack h).perm ((hp.map _).append_right _))
theorem St.Pa{p:Int×(Value×List Nat)}(h:St bs (jw e (p :: m) :: L) w):St bs (ic .i64 p.2.1 e (gx p.2.2) :: jw e m :: L) w:=by
 have a:St bs (([ic .i64 p.2.1 e (gx p.2.2)]++m.map fun p=>ic .i64 p.2.1 e (gx p.2.2))++L) w:=St.unpack h
 rw[ox]at a
 have b:=a.perm (L' := (m.map fun p=>ic .i64 p.2.1 e (gx p.2.2))++([ic .i64 p.2.1 e (gx p.2.2)]++L)) (by
  rw[<-ox,<-ox]
  exact List.Perm.append_right _ qp)
 exact(St.pack _ _ b).swap
theorem St.HU{p:Int×(Value×List Nat)}(h:St bs (ic .i64 p.2.1 e (gx p.2.2) :: jw e m :: L) w):St bs (jw e (p :: m) :: L) w:=by
 have a:St bs ((m.map fun p=>ic .i64 p.2.1 e (gx p.2.2))++(ic .i64 p.2.1 e (gx p.2.2) :: L)) w:=St.unpack h.swap
 refine St.pack _ _ (a.perm ?_)
 show List.Perm _ (ic .i64 p.2.1 e (gx p.2.2) :: ((m.map fun p=>ic .i64 p.2.1 e (gx p.2.2))++L))
 exact tT
theorem St.Yn(a:Int)(h:St bs (jw e m :: L) w):St bs (ic .i64 (gi m a).1 e (gx (gi m a).2) :: jw e (iZ m a) :: L) w:=by
 unfold gi
 cases hm:gZ m a with
 | none =>
  rw[QC hm]
  exact St.D8 h e 1
 | some x=>exact(h.xw (JB hm)).Pa
theorem St.Ym{v:Value}{xs:List Nat}(h:St bs (ic .i64 v e (gx xs) :: jw e (iZ m a) :: L) w):St bs (jw e (gD m a (v,xs)) :: L) w :=
 (St.HU (p:=(a,(v,xs))) h).xw (JD m a (v,xs)).symm
theorem St.IA(h:St bs L w):St bs (jw e [] :: L) w:=St.pack [] L h
end
theorem CH(ds:List Nat)(i:Nat):gx (ds++[i])=gx ds++[(i:Int)]:=by simp[gx]
theorem JG(ds:List Nat)(i:Nat):(gx ds).eraseIdx i=gx (ds.eraseIdx i):=by
 rw[gx,Gs,Gs]
 simp[gx]
end Go.Sx
namespace Go.Sx
open Go
section
variable {γ:Type}
def lG(b r:Nat)(k:IntKind)(enc:γ->Value)(m todo:List (Int×γ))(cur:Option (Int×γ)):fT where
 gG:=[b,r]
 holds w:=∃ (es:List (Int×Value×Nat)) (a:Nat) (f:Array Nat) (c d:Nat),w.heap[b]? = some (.map (es.map (k7 k)).toArray a)/\es.map (fun e=>(e.1,e.2.1))=m.map (fun p=>(p.1,enc p.2))/\(es.map (fun e=>e.2.2)).Nodup/\(∀ e∈es,e.2.2<a) /\
  w.heap[r]? = some (.mapIter (some b) c f d)/\c<=d/\c<=a/\(∀ e∈es,e.2.2<c) /\
  (es.filter fun e => !f.contains e.2.2).map (fun e=>(e.1,e.2.1))=todo.map (fun p=>(p.1,enc p.2)) /\
  ∀ p,cur=some p->d=a/\∃ (q:Array Nat) (e:Int×Value×Nat),f=q.push e.2.2/\e∈es/\e.1=p.1/\e.2.1=enc p.2
 loc w w' h hh:=by
  obtain⟨es,a,f,c,d,g,i,j,l,n,o⟩:=hh
  exact⟨es,a,f,c,d,(h b s_).trans g,i,j,l,(h r s_).trans n,o⟩
theorem Yv{es:List (Int×Value×Nat)}{p:Nat->Bool}{e:Int×Value×Nat}(b:(es.map (fun e=>e.2.2)).Nodup)(a:e∈es)(hp:p e.2.2=true) :
 ∃ j,(es.filter fun x=>p x.2.2)[j]? = some e/\(es.filter fun x=>p x.2.2 && !(x.2.2==e.2.2))=(es.filter fun x=>p x.2.2).eraseIdx j:=by
 induction es with
 | nil=>simp at a
 | cons x es i =>
  simp only[kf,zt]at b
  rcases zb.1 a with rfl|a
  . refine⟨0,by simp[hp],?_⟩
    rw[oQ,if_neg s_,oQ,if_pos hp]
    simp only[List.eraseIdx_cons_zero]
    refine yR fun y g=>?_
    have:y.2.2≠e.2.2:=fun h=>b.1 (by rw[<-h];exact z7.2 ⟨y,g,rfl⟩)
    simp[this]
  . obtain⟨j,c,d⟩:=i b.2 a
    have f:x.2.2≠e.2.2:=fun h=>b.1 (by rw[h];exact z7.2 ⟨e,a,rfl⟩)
    by_cases hx:p x.2.2=true
    . refine⟨j+1,by rw[oQ,if_pos hx];simpa using c,?_⟩
      rw[oQ,if_pos (by simp[hx,f]),oQ,if_pos hx,List.eraseIdx_cons_succ,d]
    . refine⟨j,by rw[oQ,if_neg hx];exact c,?_⟩
      rw[oQ,if_neg (by simp[hx]),oQ,if_neg hx,d]
end
section
variable {γ:Type} {enc:γ->Value}
variable {r:Option Nat} {P:Program} {ops:Array Oper} {Q:Exit->Act->World->Prop} {rest l:List Oper} {n:Nat} {s s0:List (Nat×Value)} {ds:List Deferred} {w w0:World} {Nx:Value->World->Prop}
variable {d:Nat} {dd:Option Nat} {ty:TypeId} {pos:String} {af:Array Edge} {g:Option (Nat×Bool)} {x y m:Operand} {bs:List (World×List Nat)} {L L' : List fT} {t e kt:TypeId} {b rb:Nat} {k k' : IntKind} {mm todo:List (Int×γ)} {a:Int} {z v:Value} {c:γ} {cur:Option (Int×γ)}
theorem RY(i:Nat)(x:gA ops n s g=true)(hm:ev n s m = .map (some b))(z:P.underlying t=some (.map kt e))(j:St bs L w)(h:L[i]? = some (gM b k enc mm))
 (K:∀ rb w', St bs (L.set i (lG b rb k enc mm mm none)) w' -> WL r P ops Q rest (Fr n ((d,.pointer (some ⟨rb,0,none⟩)) :: s) ds) w'):WL r P ops Q (⟨some d,.range t m,ty,pos,af,g⟩ :: rest) (Fr n s ds) w:=by
 obtain⟨es,a,l,o,u,q⟩:(gM b k enc mm).holds w:=j.own _ (zg h)
 have y:=Js j h
 refine pv (v:=.pointer (some ⟨w.heap.size,0,none⟩)) (w' := w.alloc (.mapIter (some b) a #[] a)) x rfl ?_ (K _ _ ?_)
 . simp only[execOp,hm,zu,run_range_map w t kt e b _ a z l,zp,z8]
 . refine j.iL h (gw.alloc _ w _) (fun c f=>?_) ?_ (fun c f=>?_) ?_
   . simp[lG]at f
     rcases f with rfl|rfl
     . exact .inl (by simp[gM])
     . exact .inr (zj _)
   . simp[lG];omega
   . simp[lG]at f
     simp only[World.alloc,Array.size_push]
     omega
   . exact⟨es,a,#[],a,a,(heap_alloc_old w _ y).trans l,o,u,q,heap_alloc_new w _,zj _,zj _,q,by rw[uY.2 s_];exact o,fun p hp=>by cases hp⟩
theorem St.QA{i:Nat}(e:St bs L w)(d:L[i]? = some (lG b rb k enc mm todo cur)):St bs (L.set i (gM b k enc mm)) w:=by
 obtain⟨es,f,o,n,m,g,h,j,l,_⟩:(lG b rb k enc mm todo cur).holds w:=e.own _ (zg d)
 refine e.iL d (gw.refl _ w) (fun c a=>.inl ?_) (by simp[gM]) (fun c a=>?_) ⟨es,f,g,h,j,l⟩
 . simp[gM]at a
   simp[lG,a]
 . refine e.lt c (rE d ?_)
   simp[gM]at a
   simp[lG,a]
structure TZ (P:Program) (bs:List (World×List Nat)) (L:List fT) (i b rb:Nat) (k:IntKind) (enc:γ->Value) (mm todo todo2:List (Int×γ)) (p:Int×γ) (w w' : World):Prop where
 run:∀ ty,(Instr.next (.pointer (some ⟨rb,0,none⟩)) false ty).run P w = .ok (.tuple #[.bool true,.int k p.1,enc p.2]) w'
 st:St bs (L.set i (lG b rb k enc mm todo2 (some p))) w'
 perm:todo.Perm (p :: todo2)
theorem QB(P:Program){i:Nat}(s:St bs L w)(r:L[i]? = some (lG b rb k enc mm todo cur)) :
 (todo=[]/\∀ ty,(Instr.next (.pointer (some ⟨rb,0,none⟩)) false ty).run P w = .ok (.tuple #[.bool false]) w)\/∃ p ag w', TZ P bs L i b rb k enc mm todo ag p w w' := by
 obtain⟨es,f,d,m,D,t,X,E,Y,u,F,G, H,o,h9⟩:(lG b rb k enc mm todo cur).holds w:=s.own _ (zg r)
 have hb:b<w.heap.size:=s.lt b (rE r (by simp[lG]))
 have ad:rb<w.heap.size:=s.lt rb (rE r (by simp[lG]))
 have N:b≠rb:=by
  rintro rfl
  rw[t]at u
  cases u
 have O:∀ x∈(es.map (k7 k)).toArray.toList,x.born<m:=by
  intro x C
  simp at C
  obtain⟨a,v,q,hm,rfl⟩:=C
  exact H _ hm
 have B:(leftOf (es.map (k7 k)).toArray d).toList=(es.filter fun e => !d.contains e.2.2).map (k7 k):=by
  unfold leftOf
  simp only[Array.toList_filter,List.filter_map]
  rfl
 by_cases h0:todo=[]
 . left
   subst h0
   refine⟨rfl,fun ty=>?_⟩
   have z:(leftOf (es.map (k7 k)).toArray d).size=0:=by
    rw[<-rR,B,zn]
    have:=congrArg List.length o
    simpa using this
   rcases run_next_at (P:=P) w ty rb b m D d _ f u t O F with ⟨_,h⟩|⟨e,n,_⟩
   . exact h
   . rw[Array.eq_empty_of_size_eq_zero z]at n
     simp at n
 . right
   have af:∃ e∈(leftOf (es.map (k7 k)).toArray d).toList,∃ w1:World,(w1=w\/w1=w.drew)/\∀ ty,(Instr.next (.pointer (some ⟨rb,0,none⟩)) false ty).run P w = .ok (.tuple #[.bool true,e.key,e.val]) (Go.ChangeMaps.setBlock w1 rb (.mapIter (some b) m (d.push e.born) f)):=by
    rcases run_next_at (P:=P) w 0 rb b m D d _ f u t O F with ⟨z,_⟩|⟨e,n,w1,y,hr⟩
    . exfalso
      rw[<-rR,B,zn]at z
      have g:=congrArg List.length o
      rw[zn,zn,z]at g
      exact h0 (Gy.1 g.symm)
    . exact⟨e,n,w1,y,fun ty=>hr⟩
   obtain⟨e9,J,w1,y,ae⟩:=af
   rw[B]at J
   obtain⟨e,n,rfl⟩:=z7.1 J
   obtain⟨K,aa⟩:=mV.1 n
   obtain⟨j,M,ab⟩:=Yv (p:=fun q => !d.contains q) E K aa
   have ah:=(ze.1 M).1
   have ac:=congrArg List.length o
   rw[zn,zn]at ac
   have hp:todo[j]? = some (todo[j]'o_):=zk o_
   generalize (todo[j]'o_)=p at hp
   have S:(e.1,e.2.1)=(p.1,enc p.2):=by
    have g:=congrArg (fun l=>l[j]?) o
    simp only[lK,M,hp,wM]at g
    exact Option.some.inj g
   have Q:e.1=p.1:=congrArg Prod.fst S
   have R:e.2.1=enc p.2:=congrArg Prod.snd S
   have T:w1.heap=w.heap:=by rcases y with rfl|rfl<;>rfl
   have Z:gw [] w w1:=by
    rcases y with rfl|rfl
    . exact gw.refl _ _
    . exact gw.drew _ _
   have I:gw (lG b rb k enc mm todo cur).gG w (Go.ChangeMaps.setBlock w1 rb (.mapIter (some b) m (d.push e.2.2) f)) :=
    (Z.mono s_).trans ((UW (b:=rb) w1 _).mono (by simp[lG]))
   refine⟨p,todo.eraseIdx j,Go.ChangeMaps.setBlock w1 rb (.mapIter (some b) m (d.push e.2.2) f),⟨fun ty=>?_,?_,?_⟩⟩
   . rw[ae ty]
     simp only[Q,R]
   . refine s.iL r I (fun c A=>.inl A) ?_ (fun c A=>?_) ?_
     . simp[lG,N]
     . exact nQ (s.lt c (rE r A)) I.size
     . refine⟨es,f,d.push e.2.2,m,f,?_,X,E,Y,?_,G, G, H,?_,fun q hq=>?_⟩
       . show (w1.heap.setIfInBounds rb _)[b]? = _
         rw[T,Array.getElem?_setIfInBounds_ne (Ne.symm N)]
         exact t
       . show (w1.heap.setIfInBounds rb _)[rb]? = _
         rw[T]
         simp[ad]
       . have:(es.filter fun x => !(d.push e.2.2).contains x.2.2)=(es.filter fun x => !d.contains x.2.2 && !(x.2.2==e.2.2)):=by
          refine yR fun x C=>?_
          rw[Array.contains_push,Bool.not_or]
         rw[this,ab,<-ED,o,ED]
       . cases hq
         exact⟨rfl,d,e,rfl,K,Q,R⟩
   . have g:=(ze.1 hp)
     obtain⟨U,V⟩:=g
     have W:todo=todo.take j++p :: todo.drop (j+1):=by
      rw[<-V,<-yS U,uW]
     rw[Gs]
     exact(List.Perm.of_eq W).trans tT
theorem Fl{w' : World}{u:Value}(a:gA ops n s g=true)(b:ev n s x=v)(h:(Instr.next v false ty).run P w = .ok u w')(K:WL r P ops Q rest (Fr n ((d,u) :: s) ds) w'):WL r P ops Q (⟨some d,.next x false,ty,pos,af,g⟩ :: rest) (Fr n s ds) w :=
 pv a rfl (by simp only[execOp,b,zu,h,zp,z8]) K
theorem N5{p:Int×γ}(i:Nat)(q:gA ops n s g=true)(y:ev n s x = .pointer (some ⟨rb,0,none⟩))(v:St bs L w)(l:L[i]? = some (lG b rb k enc mm todo (some p)))
 (K:WL r P ops Q rest (Fr n ((d,.tuple #[.int k p.1,enc p.2]) :: s) ds) w):WL r P ops Q (⟨some d,.entry x,ty,pos,af,g⟩ :: rest) (Fr n s ds) w:=by
 obtain⟨es,B,I,z,a,c,C,f,D,h,E,F, G,H,j⟩:(lG b rb k enc mm todo (some p)).holds w:=v.own _ (zg l)
 obtain⟨rfl,A,e,rfl,o,t,u⟩:=j p rfl
 have m:=run_entry_at (P:=P) w rb b z A (es.map (k7 k)).toArray a (k7 k e) h c (by simp only[z7];exact⟨e,o,rfl⟩) (by rw[Dy];exact f)
 refine pv q rfl (by simp only[execOp,y,zu,m,zp,z8,t,u]) K
end
end Go.Sx
namespace Go.Sx
open Go
theorem abe{γ:Type}{m c:List (Int×γ)}{a:Int}:gZ (m++c) a=if gZ m a=none then gZ c a else gZ m a:=by
 induction m with
 | nil=>simp[gZ]
 | cons p m d =>
  obtain⟨b,y⟩:=p
  simp only[nw,gZ]
  split
  . simp
  . exact d
structure oT (im0 dn todo dn2 im2:IM):Prop where
 perm:(dn++todo).Perm im0
 same:dn2.map (fun p=>(p.1,p.2.2))=dn.map (fun p=>(p.1,p.2.2))
 keys:(im2.map Prod.fst).Nodup
 get:∀ a,gZ im2 a=if gZ dn2 a=none then gZ im0 a else gZ dn2 a
theorem oT.start{b:IM}(h:(b.map Prod.fst).Nodup):oT b [] b [] b:=⟨List.Perm.refl _,rfl,h,fun a=>by simp[gZ]⟩
theorem oT.Qc{c a todo b im2:IM}(h:oT c a todo b im2):b.map Prod.fst=a.map Prod.fst:=by
 have:=congrArg (List.map Prod.fst) h.same
 rw[Dy,Dy]at this
 exact this
theorem oT.nodup{b a todo c im2:IM}(h:oT b a todo c im2)(d:(b.map Prod.fst).Nodup):((a++todo).map Prod.fst).Nodup:=((h.perm.map Prod.fst).nodup_iff).2 d
theorem oT.next{d b todo e c im2:IM}{p:Int×(Value×List Nat)}(h:oT d b todo c im2)(g:(d.map Prod.fst).Nodup)(hp:todo.Perm (p :: e))(v:Value) :
 oT d (b++[p]) e (c++[(p.1,(v,p.2.2))]) (gD im2 p.1 (v,p.2.2)):=by
 have j:(b++[p]++e).Perm (b++todo):=by
  rw[ox]
  exact(hp.symm.append_left b)
 have f:=h.nodup g
 have i:gZ c p.1=none:=by
  rw[Ff,h.Qc]
  intro hm
  rw[sK,zr]at f
  exact f.2.2 _ hm p.1 (z7.2 ⟨p,hp.mem_iff.2 s_,rfl⟩) rfl
 refine⟨j.trans h.perm,?_,CI h.keys _ _,fun a=>?_⟩
 . rw[sK,sK,h.same]
   rfl
 . rw[vU,abe,h.get]
   by_cases ha:p.1=a
   . subst ha
     simp[i,gZ]
   . simp only[if_neg ha,gZ]
     split<;>simp_all
theorem oT.at{a b todo f c im2:IM}{p:Int×(Value×List Nat)}(h:oT a b todo c im2)(d:(a.map Prod.fst).Nodup)(hp:todo.Perm (p :: f)):(gi a p.1).2=p.2.2:=by
 have e:(p.1,p.2)∈a:=h.perm.mem_iff.1 (yV _ (hp.mem_iff.2 s_))
 unfold gi
 rw[QG d e]
 rfl
theorem QH{γ:Type}{m b:List (Int×γ)}(hp:m.Perm b)(h:(m.map Prod.fst).Nodup)(a:Int):gZ m a=gZ b a:=by
 have c:(b.map Prod.fst).Nodup:=((hp.map Prod.fst).nodup_iff).1 h
 cases hm:gZ m a with
 | some x=>exact(QG c (hp.mem_iff.1 (QF hm))).symm
 | none =>
  rw[Ff]at hm
  symm
  rw[Ff]
  intro d
  exact hm (((hp.map Prod.fst).mem_iff).2 d)
theorem Rs{γ:Type}:∀ {m c:List (Int×γ)},(m.map Prod.fst).Nodup->(c.map Prod.fst).Nodup->(∀ a,gZ m a=gZ c a)->m.Perm c
 | [],c,_,_,h=>by
  cases c with
  | nil=>exact List.Perm.refl _
  | cons p c=>have:=h p.1;obtain⟨b,y⟩:=p;simp[gZ]at this
 | p :: m,c,h1,h2,h=>by
  obtain⟨b,y⟩:=p
  have hb:gZ c b=some y:=by rw[<-h b];simp[gZ]
  have g:=JB hb
  have f:=Q0 h2 b
  simp only[kf,zt]at h1
  refine(List.Perm.cons _ (Rs h1.2 f fun a=>?_)).trans g.symm
  rw[JA h2]
  have d:=h a
  simp only[gZ]at d
  split
  . rename_i e
    subst e
    exact Ff.2 h1.1
  . rename_i e
    rw[if_neg e]at d
    exact d
theorem QI{d c:IM}(h:c.map (fun p=>(p.1,p.2.2))=d.map (fun p=>(p.1,p.2.2)))(a:Int):(gZ c a=none↔gZ d a=none)/\(gi c a).2=(gi d a).2:=by
 induction d generalizing c with
 | nil =>
  cases c with
  | nil=>exact⟨Iff.rfl,rfl⟩
  | cons q c=>simp at h
 | cons p d g =>
  cases c with
  | nil=>simp at h
  | cons q c =>
   simp only[kf,List.cons.injEq,Prod.mk.injEq]at h
   obtain⟨⟨e1,e⟩,f⟩:=h
   obtain⟨b,v,xs⟩:=p
   obtain⟨b2,v2,i⟩:=q
   simp only at e1 e
   subst e1 e
   have:=g f
   unfold gi at this ⊢
   simp only[gZ]
   split
   . simp
   . exact this
theorem oT.fin{b d todo e im2:IM}(h:oT b d todo e im2)(j:(b.map Prod.fst).Nodup)(n:todo=[]) :
 d.Perm b/\e.Perm im2/\(im2.map Prod.fst).Nodup/\∀ a,(gZ im2 a=none↔gZ b a=none)/\(gi im2 a).2=(gi b a).2:=by
 subst n
 have hp:d.Perm b:=by simpa using h.perm
 have f:(d.map Prod.fst).Nodup:=((hp.map Prod.fst).nodup_iff).2 j
 have m:(e.map Prod.fst).Nodup:=by rw[h.Qc];exact f
 have g:∀ a,gZ e a=gZ im2 a:=by
  intro a
  rw[h.get]
  split
  . rename_i i
    rw[i]
    have c:=((QI h.same a).1).1 i
    rw[QH hp f a]at c
    exact c.symm
  . rfl
 refine⟨hp,Rs m h.keys g,h.keys,fun a=>?_⟩
 have c:=QI h.same a
 have k:=QH hp f a
 have l:=g a
 unfold gi at c ⊢
 rw[<-l,<-k]
 exact c
theorem CX{v:Value}{e:TypeId}{cf:Nat->List Value}(b:∀ x:Nat,cf x=[.int .i64 (x:Int)])(ds:List Nat):fL cf v e 1 ds=ic .i64 v e (gx ds):=by
 have a:ds.flatMap cf=(gx ds).map (.int .i64):=by
  unfold gx
  induction ds with
  | nil=>rfl
  | cons d ds c=>simp[b,c]
 show row v e 1 ds.length _=row v e 1 (gx ds).length _
 rw[a,show (gx ds).length=ds.length by simp[gx]]
theorem St.adu{bs:List (World×List Nat)}{L:List fT}{w:World}{v:Value}{e:TypeId}{ds:List Nat}{cf:Nat->List Value}(a:∀ x:Nat,cf x=[.int .i64 (x:Int)])(h:St bs (ic .i64 v e (gx ds) :: L) w):St bs (fL cf v e 1 ds :: L) w:=by
 rw[CX a]
 exact h
theorem St.R8 {bs:List (World×List Nat)}{L:List fT}{w:World}{v:Value}{e:TypeId}{ds:List Nat}{cf:Nat->List Value}(a:∀ x:Nat,cf x=[.int .i64 (x:Int)])(h:St bs (fL cf v e 1 ds :: L) w):St bs (ic .i64 v e (gx ds) :: L) w:=by
 rw[CX a]at h
 exact h
end Go.Sx
namespace Go.Sx
open Go
structure gF where
 ix:Nat
 key:Int
 deriving Inhabited
def gF.cells(x:gF):List Value:=[.int .i64 x.ix,.int .i64 x.key]
def iE(a b:gF):Prop:=a.key<b.key\/a.key=b.key/\a.ix<b.ix
instance (a b:gF):Decidable (iE a b):=by unfold iE;infer_instance
theorem CE(a:gF):¬ iE a a:=by unfold iE;omega
theorem Jp{a b c:gF}(h:iE a b)(k:iE b c):iE a c:=by unfold iE at *;omega
theorem Qz{a b:gF}(h:iE a b):¬ iE b a:=by unfold iE at *;omega
theorem Fk{a b c:gF}(h:¬ iE a b)(k:¬ iE b c):¬ iE a c:=by unfold iE at *;omega
def qd(a b:gF):Int:=if a.key<b.key then -1 else if b.key<a.key then 1 else if a.ix<b.ix then -1 else if b.ix<a.ix then 1 else 0
theorem nF{a b:gF}:qd a b<0↔iE a b:=by
 unfold qd iE
 (repeat' split)<;>constructor<;>intro h<;>omega
abbrev pa(p:Nat):Nat:=(p-1) / 2
def Ord(xs:List gF):Prop:=∀ j,0<j->j<xs.length->¬ iE (fJ xs j) (fJ xs (pa j))
structure sN (xs:List gF) (p:Nat):Prop where
 rest:∀ j,0<j->j<xs.length->j≠p->pa j≠p->¬ iE (fJ xs j) (fJ xs (pa j))
 kids:0<p->∀ j,0<j->j<xs.length->pa j=p->¬ iE (fJ xs j) (fJ xs (pa p))
structure tV (xs:List gF) (p:Nat):Prop where
 rest:∀ j,0<j->j<xs.length->pa j≠p->¬ iE (fJ xs j) (fJ xs (pa j))
 kids:0<p->∀ j,0<j->j<xs.length->pa j=p->¬ iE (fJ xs j) (fJ xs (pa p))
def iF(xs:List gF)(p q:Nat):List gF:=fN (fN xs p (fun _=>fJ xs q)) q (fun _=>fJ xs p)
theorem mE(xs:List gF)(p q:Nat):(iF xs p q).length=xs.length:=by simp[iF,gC]
theorem Bh{xs:List gF}{p q:Nat}(hp:p<xs.length)(a:q<xs.length)(j:Nat):fJ (iF xs p q) j=if q=j then fJ xs p else if p=j then fJ xs q else fJ xs j:=by
 unfold iF
 rw[iS (by rw[gC];exact a),iS hp]
theorem sN.up{xs:List gF}{p:Nat}(h:sN xs p)(i:0<p)(hp:p<xs.length)(n:iE (fJ xs p) (fJ xs (pa p))):sN (iF xs p (pa p)) (pa p):=by
 have q:pa p<p:=by simp only[pa];omega
 have hs:=Bh hp (show pa p<xs.length by omega)
 refine⟨fun j b a l d=>?_,fun f j b a e=>?_⟩
 . rw[mE]at a
   rw[hs,hs]
   by_cases e1:p=j
   . subst e1;exact absurd rfl d
   . rw[if_neg (fun e=>l e.symm),if_neg e1,if_neg (fun e=>d e.symm)]
     by_cases e2:p=pa j
     . rw[if_pos e2]
       exact h.kids i j b a e2.symm
     . rw[if_neg e2]
       exact h.rest j b a (fun e=>e1 e.symm) (fun e=>e2 e.symm)
 . rw[mE]at a
   have o:pa (pa p)<pa p:=by simp only[pa]at f ⊢;omega
   have m:fJ (iF xs p (pa p)) (pa (pa p))=fJ xs (pa (pa p)):=by rw[hs,if_neg o_,if_neg o_]
   have g:¬ iE (fJ xs (pa p)) (fJ xs (pa (pa p))):=h.rest (pa p) f o_ o_ o_
   rw[m,hs]
   have k:pa p≠j:=fun e' => by rw[<-e']at e;simp only[pa]at *;omega
   rw[if_neg k]
   by_cases e1:p=j
   . rw[if_pos e1];exact g
   . rw[if_neg e1]
     have c:=h.rest j b a (fun e=>e1 e.symm) o_
     rw[e]at c
     exact Fk c g
theorem sN.stop{xs:List gF}{p:Nat}(h:sN xs p)(d:¬ (0<p/\iE (fJ xs p) (fJ xs (pa p)))):tV xs p:=by
 refine⟨fun j a b f=>?_,h.kids⟩
 by_cases e:j=p
 . subst e
   exact fun c=>d ⟨a,c⟩
 . exact h.rest j a b e f
def jt(xs:List gF)(p:Nat):Nat :=
 let f:=if 2*p+1<xs.length/\iE (fJ xs (2*p+1)) (fJ xs p)then 2*p+1 else p
 if 2*p+2<xs.length/\iE (fJ xs (2*p+2)) (fJ xs f)then 2*p+2 else f
theorem Rj{j p:Nat}(a:0<j):pa j=p↔j=2*p+1\/j=2*p+2:=by simp only[pa];omega
theorem UE{xs:List gF}{p:Nat}(h:jt xs p=p):∀ j,0<j->j<xs.length->pa j=p->¬ iE (fJ xs j) (fJ xs p):=by
 intro j c b e
 unfold jt at h
 simp only at h
 rcases(Rj c).1 e with rfl|rfl
 . intro a
   rw[if_pos (show 2*p+1<xs.length/\_ from⟨b,a⟩)]at h
   split at h<;>omega
 . intro a
   by_cases h1:2*p+1<xs.length/\iE (fJ xs (2*p+1)) (fJ xs p)
   . rw[if_pos h1]at h
     split at h<;>omega
   . rw[if_neg h1,if_pos ⟨b,a⟩]at h
     omega
theorem Nr{xs:List gF}{p:Nat}(h:jt xs p≠p):jt xs p<xs.length/\p<jt xs p/\pa (jt xs p)=p/\iE (fJ xs (jt xs p)) (fJ xs p)/\∀ j,0<j->j<xs.length->pa j=p->¬ iE (fJ xs j) (fJ xs (jt xs p)):=by
 have c:∀ j,0<j->j<xs.length->pa j=p->j=2*p+1\/j=2*p+2:=fun j g _ e=>(Rj g).1 e
 have f:jt xs p=(if 2*p+2<xs.length/\iE (fJ xs (2*p+2)) (fJ xs (if 2*p+1<xs.length/\iE (fJ xs (2*p+1)) (fJ xs p)then 2*p+1 else p))then 2*p+2 else(if 2*p+1<xs.length/\iE (fJ xs (2*p+1)) (fJ xs p)then 2*p+1 else p)):=rfl
 rw[f]at h ⊢
 by_cases h1:2*p+1<xs.length/\iE (fJ xs (2*p+1)) (fJ xs p)
 . rw[if_pos h1]at h ⊢
   by_cases h2:2*p+2<xs.length/\iE (fJ xs (2*p+2)) (fJ xs (2*p+1))
   . rw[if_pos h2]at h ⊢
     refine⟨h2.1,o_,by simp only[pa];omega,Jp h2.2 h1.2,fun j b a e=>?_⟩
     rcases c j b a e with rfl|rfl
     . exact Qz h2.2
     . exact CE _
   . rw[if_neg h2]at h ⊢
     refine⟨h1.1,o_,by simp only[pa];omega,h1.2,fun j b a e=>?_⟩
     rcases c j b a e with rfl|rfl
     . exact CE _
     . exact fun d=>h2 ⟨a,d⟩
 . rw[if_neg h1]at h ⊢
   by_cases h2:2*p+2<xs.length/\iE (fJ xs (2*p+2)) (fJ xs p)
   . rw[if_pos h2]at h ⊢
     refine⟨h2.1,o_,by simp only[pa];omega,h2.2,fun j b a e=>?_⟩
     rcases c j b a e with rfl|rfl
     . intro d
       exact h1 ⟨a,Jp d h2.2⟩
     . exact CE _
   . rw[if_neg h2]at h
     exact absurd rfl h
theorem tV.down{xs:List gF}{p c:Nat}(h:tV xs p)(g:jt xs p=c)(l:c≠p):tV (iF xs p c) c:=by
 subst g
 obtain⟨f,o,d,i,k⟩:=Nr l
 generalize jt xs p=c at *
 have hs:=Bh (show p<xs.length by omega) f
 refine⟨fun j b a m => ?_,fun _ j b a e=>?_⟩
 . rw[mE]at a
   rw[hs,hs]
   by_cases e1:c=j
   . subst e1
     rw[if_pos rfl,if_neg o_,if_pos d.symm]
     exact Qz i
   . rw[if_neg e1,if_neg (show ¬ c=pa j from fun e=>m e.symm)]
     by_cases e2:p=j
     . subst e2
       rw[if_pos rfl,if_neg (by simp only[pa];omega)]
       exact h.kids b c o_ f d
     . rw[if_neg e2]
       by_cases e3:p=pa j
       . rw[if_pos e3]
         exact k j b a e3.symm
       . rw[if_neg e3]
         exact h.rest j b a (fun e=>e3 e.symm)
 . rw[mE]at a
   have n:c<j:=by simp only[pa]at e;omega
   rw[hs,hs,if_neg o_,if_neg o_,d,if_neg o_,if_pos rfl]
   have:=h.rest j b a o_
   rw[e]at this
   exact this
theorem tV.stop{xs:List gF}{p:Nat}(h:tV xs p)(hb:jt xs p=p):Ord xs:=by
 intro j b a
 by_cases e:pa j=p
 . rw[e];exact UE hb j b a e
 . exact h.rest j b a e
structure Hp (n:Nat) (xs:List gF) (pl:List Nat):Prop where
 ix:∀ p,p<xs.length->(fJ xs p).ix<n
 key:∀ p,p<xs.length->gR .i64 (fJ xs p).key
 at_:∀ p,p<xs.length->fJ pl (fJ xs p).ix=p+1
 of:∀ i p,i<n->fJ pl i=p+1->p<xs.length/\(fJ xs p).ix=i
 pl:n<=pl.length
 len:xs.length<=n
theorem Hp.inj{n:Nat}{xs:List gF}{pl:List Nat}(h:Hp n xs pl){p q:Nat}(hp:p<xs.length)(b:q<xs.length)(e:(fJ xs p).ix=(fJ xs q).ix):p=q:=by
 have a:=h.at_ p hp
 have c:=h.at_ q b
 rw[e]at a
 omega
def jc(pl:List Nat)(i p:Nat):List Nat:=fN pl i (fun _=>p)
theorem Hp.swap{n:Nat}{xs:List gF}{pl:List Nat}(h:Hp n xs pl){p q:Nat}(hp:p<xs.length)(d:q<xs.length) :
 Hp n (iF xs p q) (jc (jc pl (fJ (iF xs p q) p).ix (p+1)) (fJ (iF xs p q) q).ix (q+1)):=by
 have hs:=Bh hp d
 have l:fJ (iF xs p q) q=fJ xs p:=by rw[hs,if_pos rfl]
 have k:fJ (iF xs p q) p=fJ xs q:=by
  rw[hs]
  split
  . rename_i e;rw[e]
  . rw[if_pos rfl]
 rw[l,k]
 have m:=h.pl
 have o:=h.ix p hp
 have r:=h.ix q d
 have g:∀ i,fJ (jc (jc pl (fJ xs q).ix (p+1)) (fJ xs p).ix (q+1)) i=if (fJ xs p).ix=i then q+1 else if (fJ xs q).ix=i then p+1 else fJ pl i:=fun i=>by
  unfold jc
  rw[iS (by rw[gC];omega),iS o_]
 refine⟨fun j c=>?_,fun j c=>?_,fun j c=>?_,fun i j hi f=>?_,by simp[jc,gC];exact m,by rw[mE];exact h.len⟩
 . rw[mE]at c
   rw[hs]
   split
   . exact o
   . split
     . exact r
     . exact h.ix j c
 . rw[mE]at c
   rw[hs]
   split
   . exact h.key p hp
   . split
     . exact h.key q d
     . exact h.key j c
 . rw[mE]at c
   rw[g,hs]
   by_cases e1:q=j
   . rw[if_pos e1,if_pos rfl,e1]
   . rw[if_neg e1]
     by_cases e2:p=j
     . rw[if_pos e2]
       subst e2
       by_cases e3:(fJ xs p).ix=(fJ xs q).ix
       . exact absurd (h.inj hp d e3).symm e1
       . rw[if_neg e3,if_pos rfl]
     . rw[if_neg e2,if_neg (fun e=>e2 (h.inj hp c e)),if_neg (fun e=>e1 (h.inj d c e))]
       exact h.at_ j c
 . rw[g]at f
   rw[mE,hs]
   by_cases e1:(fJ xs p).ix=i
   . rw[if_pos e1]at f
     have:j=q:=by omega
     subst this
     exact⟨d,by rw[if_pos rfl];exact e1⟩
   . rw[if_neg e1]at f
     by_cases e2:(fJ xs q).ix=i
     . rw[if_pos e2]at f
       have:j=p:=by omega
       subst this
       refine⟨hp,?_⟩
       split
       . rename_i e;subst e;exact absurd e2 e1
       . rw[if_pos rfl];exact e2
     . rw[if_neg e2]at f
       obtain⟨a,b⟩:=h.of i j hi f
       refine⟨a,?_⟩
       rw[if_neg (fun e=>e1 (by rw[e]at d;subst e;exact absurd b (fun b=>e2 b))),if_neg (fun e=>e1 (by subst e;exact b))]
       exact b
theorem Hp.push{n:Nat}{xs:List gF}{pl:List Nat}(h:Hp n xs pl){i:Nat}{k:Int}(hi:i<n)(s:fJ pl i=0)(hk:gR .i64 k):Hp n (xs++[⟨i,k⟩]) (jc pl i (xs.length+1)):=by
 have w:=h.pl
 have q:∀ j,fJ (jc pl i (xs.length+1)) j=if i=j then xs.length+1 else fJ pl j:=fun j=>iS o_
 have f:∀ p,fJ (xs++[⟨i,k⟩]) p=if p<xs.length then fJ xs p else if p=xs.length then⟨i,k⟩else default:=fun p=>by
  unfold fJ
  rw[BB]
  split
  . rfl
  . split
    . rename_i e;subst e;simp
    . rw[zw (by simp;omega)];rfl
 have o:∀ p,p<xs.length->(fJ xs p).ix≠i:=fun p hp e=>by
  have:=h.at_ p hp
  rw[e,s]at this
  omega
 refine⟨fun p hp=>?_,fun p hp=>?_,fun p hp=>?_,fun j p g hp=>?_,by simp[jc,gC];exact w,?_⟩
 . rw[f]
   split
   . rename_i c;exact h.ix p c
   . rw[if_pos (by simp at hp;omega)];exact hi
 . rw[f]
   split
   . rename_i c;exact h.key p c
   . rw[if_pos (by simp at hp;omega)];exact hk
 . rw[q,f]
   by_cases c:p<xs.length
   . rw[if_pos c,if_neg (fun e=>o p c e.symm)]
     exact h.at_ p c
   . simp at hp
     have v:p=xs.length:=by omega
     subst v
     rw[if_neg c,if_pos rfl,if_pos rfl]
 . rw[q]at hp
   rw[f]
   split at hp
   . rename_i e
     have:p=xs.length:=by omega
     subst this
     refine⟨s_,?_⟩
     rw[if_neg o_,if_pos rfl]
     exact e
   . obtain⟨a,b⟩:=h.of j p g hp
     exact⟨by simp;omega,by rw[if_pos a];exact b⟩
 . -- places of different indexes: no more entries than indexes
   have u:((xs++[(⟨i,k⟩:gF)]).map gF.ix).Nodup:=by
    rw[sK,zr]
    refine⟨?_,s_,fun a m b hb e=>?_⟩
    . refine wJ.2 fun a b m hb B t=>?_
      simp only[zn]at m hb
      refine absurd (h.inj m hb ?_) o_
      have e1:(fJ xs a).ix=xs[a].ix:=by simp[fJ,m]
      have r:(fJ xs b).ix=xs[b].ix:=by simp[fJ,hb]
      rw[e1,r]
      simpa using t
    . simp at hb
      subst hb e
      obtain⟨x,d,y⟩:=z7.1 m
      obtain⟨p,hp,rfl⟩:=GB.1 d
      exact o p hp (by rw[<-y];simp[fJ,hp])
   have:=nodup_len n _ u fun j g=>by
    obtain⟨x,d,rfl⟩:=z7.1 g
    rcases zo.1 d with d|d
    . obtain⟨p,hp,rfl⟩:=GB.1 d
      have:=h.ix p hp
      simpa[fJ,hp]using this
    . simp at d
      subst d
      exact hi
   simpa using this
where
 nodup_len:∀ (n:Nat) (L:List Nat),L.Nodup->(∀ j∈L,j<n)->L.length<=n
  | 0,L,_,h=>by
   cases L with
   | nil=>simp
   | cons x L=>exact absurd (h x s_) o_
  | n+1,L,f,h=>by
   have c:=nodup_len n (L.erase n) (f.erase n) (fun j g=>by
    have z:=h j (List.mem_of_mem_erase g)
    have A:j≠n:=fun e=>by subst e;exact(List.Nodup.not_mem_erase f) g
    omega)
   have:=List.length_erase_le (a:=n) (l:=L)
   by_cases hm:n∈L
   . have:=Lu hm
     have:=LB hm
     omega
   . rw[List.erase_of_not_mem hm]at c;omega
theorem qM{α:Type}[Inhabited α]{xs:List α}{e:α}:e∈xs↔∃ p,p<xs.length/\fJ xs p=e:=by
 constructor
 . intro h
   obtain⟨p,hp,rfl⟩:=GB.1 h
   exact⟨p,hp,by simp[fJ,hp]⟩
 . rintro⟨p,hp,rfl⟩
   exact zg (gB hp)
theorem KJ{xs:List gF}{p q:Nat}(hp:p<xs.length)(b:q<xs.length)(e:gF):e∈iF xs p q↔e∈xs:=by
 have hs:=Bh hp b
 rw[qM,qM,mE]
 constructor
 . rintro⟨j,a,rfl⟩
   rw[hs]
   split
   . exact⟨p,hp,rfl⟩
   . split
     . exact⟨q,b,rfl⟩
     . exact⟨j,a,rfl⟩
 . rintro⟨j,a,rfl⟩
   by_cases e1:j=p
   . subst e1;exact⟨q,b,by rw[hs,if_pos rfl]⟩
   . by_cases e2:j=q
     . subst e2
       refine⟨p,hp,?_⟩
       rw[hs]
       split
       . rename_i e;exact absurd e e1
       . rw[if_pos rfl]
     . exact⟨j,a,by rw[hs,if_neg (fun e=>e2 e.symm),if_neg (fun e=>e1 e.symm)]⟩
theorem Ord.first{xs:List gF}(h:Ord xs):∀ p,p<xs.length->¬ iE (fJ xs p) (fJ xs 0):=by
 intro p
 induction p using Nat.strongRecOn with
 | _ p b =>
  intro hp
  by_cases h0:p=0
  . subst h0;exact CE _
  . have a:pa p<p:=by simp only[pa];omega
    exact Fk (h p o_ hp) (b (pa p) a o_)
theorem Ord.min{xs:List gF}(h:Ord xs){e:gF}(a:e∈xs):¬ iE e (fJ xs 0):=by
 obtain⟨p,hp,rfl⟩:=qM.1 a
 exact h.first p hp
theorem rG{α:Type}[Inhabited α]{xs:List α}{m j:Nat}(h:j<m):fJ (xs.take m) j=fJ xs j:=by
 unfold fJ
 rw[sG,if_pos h]
theorem Hp.cut{n:Nat}{xs:List gF}{pl:List Nat}{m:Nat}(h:Hp n xs pl)(hm:xs.length=m+1):Hp n (xs.take m) (jc pl (fJ xs m).ix 0):=by
 have k:=h.pl
 have l:=h.ix m o_
 have f:∀ j,fJ (jc pl (fJ xs m).ix 0) j=if (fJ xs m).ix=j then 0 else fJ pl j:=fun j=>iS o_
 have c:(xs.take m).length=m:=by rw[zy];omega
 refine⟨fun p hp=>?_,fun p hp=>?_,fun p hp=>?_,fun i p hi hp=>?_,by simp[jc,gC];exact k,by have:=h.len;omega⟩
 . rw[c]at hp;rw[rG hp];exact h.ix p o_
 . rw[c]at hp;rw[rG hp];exact h.key p o_
 . rw[c]at hp
   rw[rG hp,f,if_neg (fun e=>by have:=h.inj (p:=m) (q:=p) o_ o_ e;omega)]
   exact h.at_ p o_
 . rw[f]at hp
   split at hp
   . omega
   . rename_i g
     obtain⟨a,b⟩:=h.of i p hi hp
     have d:p<m:=by
      have:p≠m:=fun e=>g (by rw[<-e];exact b)
      omega
     rw[c,rG d]
     exact⟨d,b⟩
theorem VK{n:Nat}{xs:List gF}{pl:List Nat}{m:Nat}(h:Hp n xs pl)(hm:xs.length=m+1)(e:gF):e∈xs.take m↔e∈xs/\e.ix≠(fJ xs m).ix:=by
 have b:(xs.take m).length=m:=by rw[zy];omega
 rw[qM,qM,b]
 constructor
 . rintro⟨j,a,rfl⟩
   rw[rG a]
   exact⟨⟨j,o_,rfl⟩,fun e=>by have:=h.inj (p:=j) (q:=m) o_ o_ e;omega⟩
 . rintro⟨⟨j,a,rfl⟩,c⟩
   have:j≠m:=fun e=>c (by rw[e])
   exact⟨j,o_,rG o_⟩
theorem Ord.cut{xs:List gF}{p m:Nat}(h:Ord xs)(hm:xs.length=m+1)(hp:p<m):sN ((iF xs p m).take m) p:=by
 have d:((iF xs p m).take m).length=m:=by rw[zy,mE];omega
 have hs:=Bh (xs:=xs) (show p<xs.length by omega) (show m<xs.length by omega)
 refine⟨fun j b a i k=>?_,fun b j g a e=>?_⟩
 . rw[d]at a
   have c:pa j<m:=by simp only[pa];omega
   rw[rG a,rG c,hs,hs,if_neg o_,if_neg (fun e=>i e.symm),if_neg o_,if_neg (fun e=>k e.symm)]
   exact h j b o_
 . rw[d]at a
   have c:pa p<p:=by simp only[pa];omega
   have f:j≠p:=by rintro rfl;omega
   rw[rG a,rG o_,hs,hs,if_neg o_,if_neg (fun e=>f e.symm),if_neg o_,if_neg o_]
   exact Fk (h j g o_) (by rw[e];exact h p b o_)
theorem Ord.VI{xs:List gF}{m:Nat}(h:Ord xs)(hm:m<=xs.length):Ord (xs.take m):=by
 intro j a c
 rw[zy]at c
 have b:pa j<m:=by simp only[pa];omega
 rw[rG o_,rG b]
 exact h j a o_
theorem aew{xs:List gF}{p:Nat}(hp:p<xs.length):iF xs p p=xs:=by
 have e:∀ (l:List gF),p<l.length->fN l p (fun _=>fJ l p)=l:=fun l a=>by
  apply nS
  intro j
  unfold fN
  rw[rS]
  split
  . rename_i e;subst e;rw[gB a]
  . rfl
 have e1:=e xs hp
 unfold iF
 rw[e1,e1]
theorem acD{xs:List gF}(h:Ord xs)(e:gF):sN (xs++[e]) xs.length:=by
 have c:∀ p,p<xs.length->fJ (xs++[e]) p=fJ xs p:=fun p hp=>by
  unfold fJ
  rw[sH hp]
 refine⟨fun j b a g i=>?_,fun b j f a e' => ?_⟩
 . simp at a
   have d:pa j<j:=by simp only[pa];omega
   rw[c j o_,c (pa j) o_]
   exact h j b o_
 . simp at a
   have d:pa j<j:=by simp only[pa];omega
   omega
end Go.Sx
