/- Plain lemmas: rules for walking through code, one for each operation, over any program; an evaluator of closed calls with its soundness; and plain mathematics. No conditions. -/
import Derived.Test.YthpnckhjmbbalaaGreatDoorFa
import Derived.KernelRfl
import Derived.Laws.BitsAllLaws
import Derived.Sort.Row
import Derived.Maps.RangeRun
set_option linter.unusedVariables false
set_option linter.unusedSectionVars false
set_option linter.unusedSimpArgs false
namespace Go.Sx
open Go
def Ic(P:Program):List (Nat×TypeDesc)->Prop
 | []=>True
 | p :: l=>P.underlying p.1=some p.2/\Ic P l
def allI(P:Program):List (Nat×Nat×Nat×Value)->Prop
 | []=>True
 | p :: l=>TI P p.1 p.2.1 p.2.2.1 p.2.2.2/\allI P l
class TT (P:Program) where
 mx:P.follows .mixedOrders=true
 u:List (Nat×TypeDesc)
 i:List (Nat×Nat×Nat×Value)
 kQ:Ic P u
 mW:allI P i
def iY{α:Type}:List (Nat×α)->Nat->Option α
 | [],_=>none
 | p :: l,t=>bif Nat.beq p.1 t then some p.2 else iY l t
theorem kJ{P:Program}:∀ {l:List (Nat×TypeDesc)} {t:Nat} {u:TypeDesc},Ic P l->iY l t=some u->P.underlying t=some u
 | [],_,_,_,h=>by simp[iY]at h
 | p :: l,t,u,hl,h=>by
  simp only[iY]at h
  cases hb:Nat.beq p.1 t with
  | true=>rw[hb]at h;simp at h;rw[<-Bx hb,<-h];exact hl.1
  | false=>rw[hb]at h;exact kJ hl.2 h
theorem mE{P:Program}:∀ {l:List (Nat×Nat×Nat×Value)} {t a b:Nat} {z:Value},allI P l->iY l t=some (a,b,z)->TI P t a b z
 | [],_,_,_,_,_,h=>by simp[iY]at h
 | p :: l,t,a,b,z,hl,h=>by
  simp only[iY]at h
  cases hb:Nat.beq p.1 t with
  | true=>rw[hb]at h;simp at h;have c:=hl.1;rw[h,Bx hb]at c;exact c
  | false=>rw[hb]at h;exact mE hl.2 h
section
variable {P:Program}
structure SL (T:TT P) (J:World->Prop) (bs:List (World×List Nat)) (L:List fS) (N:Nat) (r:Option Nat) (ops:Array Oper) (Q:Exit->Act->World->Prop) (l:List Oper) (a:Act):Prop where
 out:∀ w,J w->St bs L w->WL r P ops Q l a w
structure SP (T:TT P) (J:World->Prop) (bs:List (World×List Nat)) (L:List fS) (N:Nat) (r:Option Nat) (Q:Exit->Act->World->Prop) (c:Code) (a:Act):Prop where
 out:∀ w,J w->St bs L w->WP r P c Q a w
structure SQ (T:TT P) (J:World->Prop) (bs:List (World×List Nat)) (L:List fS) (N:Nat) (r:Option Nat) (Q:Exit->Act->World->Prop) (e:Exit) (a:Act):Prop where
 out:∀ w,J w->St bs L w->Q e a w
def Kc(r:Option Nat)(P:Program)(Y:Code)(Q:Exit->Act->World->Prop):Act->World->Prop:=fun a w=>WP r P Y Q a w
variable {T:TT P} {J:World->Prop} {bs:List (World×List Nat)} {L L' : List fS} {r:Option Nat} {ops:Array Oper} {Q:Exit->Act->World->Prop} {rest:List Oper} {n:Nat} {s:List (Nat×Value)} {ds:List Deferred} {w w' w0:World}
variable {N d i j:Nat} {ty t:TypeId} {pos:String} {af:Array Edge} {g:Option (Nat×Bool)} {v u:Value} {x y z:Operand} {X Y:Code} {a:Act} {K' : Act->World->Prop} {l:List Oper}
theorem SP.sq(K:SP T J bs L N r (Exit.then (Kc r P Y Q) Q) X a):SP T J bs L (N+1) r Q (.seq X Y) a:=⟨fun w j h=>wpIn_seq (K.out w j h)⟩
theorem SP.rg{id:Nat}(K:SL T J bs L N r l.toArray Q l (Fr n s ds)):SP T J bs L (N+1) r Q (.region id l.toArray false) (Fr n s ds):=⟨fun w j h=>Go.Sx.rg (K.out w j h)⟩
theorem SP.KC{id:Nat}(K:SL T (fun _=>True) bs L N r l.toArray Q l (Fr n s ds))(a:∃ np,(np=false\/NP Q)/\okF np l (yO (List.range' 0 l.length) [])=true:=by first|exact⟨true,.inr inferInstance,by kernel_rfl⟩|exact⟨false,.inl rfl,by kernel_rfl⟩):SP T (fun _=>True) bs L (N+1) r Q (.region id l.toArray true) (Fr n s ds):=⟨fun w _ h=>Go.Sx.KC T.mx h (fun w' hs=>K.out w' trivial hs) a⟩
theorem SP.cT{c:Operand}(K:SP T J bs L N r Q X (Fr n s ds))(a:ev n s c = .bool true:=by exact rfl):SP T J bs L (N+1) r Q (.cond c X Y) (Fr n s ds):=⟨fun w j h=>Vr a (K.out w j h)⟩
theorem SP.cF{c:Operand}(K:SP T J bs L N r Q Y (Fr n s ds))(a:ev n s c = .bool false:=by exact rfl):SP T J bs L (N+1) r Q (.cond c X Y) (Fr n s ds):=⟨fun w j h=>Vq a (K.out w j h)⟩
theorem SP.bk{id:Nat}(K:SP T J bs L N r (Exit.inBlock id Q) X (Fr n s ds)):SP T J bs L (N+1) r Q (.block id X) (Fr n s ds):=⟨fun w j h=>Go.Sx.bk (K.out w j h)⟩
theorem SP.sp(K:SQ T J bs L N r Q .normal (Fr n s ds)):SP T J bs L (N+1) r Q .skip (Fr n s ds):=⟨fun w j h=>Go.Sx.sp (K.out w j h)⟩
theorem SP.xt{id:Nat}(K:SQ T J bs L N r Q (.exit id) (Fr n s ds)):SP T J bs L (N+1) r Q (.exit id) (Fr n s ds):=⟨fun w j h=>Go.Sx.xt (K.out w j h)⟩
theorem SP.rt(K:SQ T J bs L N r Q .ret (Fr n s ds)):SP T J bs L (N+1) r Q .ret (Fr n s ds):=⟨fun w j h=>Go.Sx.rt (K.out w j h)⟩
theorem SQ.tN(K:SP T J bs L N r Q Y a):SQ T J bs L (N+1) r (Exit.then (Kc r P Y Q) Q) .normal a:=⟨fun w j h=>K.out w j h⟩
theorem SQ.tX(K:SQ T J bs L N r Q (.exit j) a):SQ T J bs L (N+1) r (Exit.then K' Q) (.exit j) a:=⟨fun w j h=>K.out w j h⟩
theorem SQ.tR(K:SQ T J bs L N r Q .ret a):SQ T J bs L (N+1) r (Exit.then K' Q) .ret a:=⟨fun w j h=>K.out w j h⟩
theorem SQ.bN(K:SQ T J bs L N r Q .normal a):SQ T J bs L (N+1) r (Exit.inBlock i Q) .normal a:=⟨fun w j h=>K.out w j h⟩
theorem SQ.bR(K:SQ T J bs L N r Q .ret a):SQ T J bs L (N+1) r (Exit.inBlock i Q) .ret a:=⟨fun w j h=>K.out w j h⟩
theorem SQ.bX(K:SQ T J bs L N r Q .normal a):SQ T J bs L (N+1) r (Exit.inBlock i Q) (.exit i) a:=⟨fun w j h=>Go.Sx.bX (K.out w j h)⟩
theorem SQ.Ih(K:SQ T J bs L N r Q (.exit j) a)(b:Nat.beq j i=false:=by exact rfl):SQ T J bs L (N+1) r (Exit.inBlock i Q) (.exit j) a:=⟨fun w j h=>Go.Sx.Ih b (K.out w j h)⟩
theorem SQ.KO(K:SQ T J bs L N r Q .normal a):SQ T J bs L (N+1) r (yF Q) .normal a:=⟨fun w j h=>Go.Sx.KO (K.out w j h)⟩
theorem SQ.KP(K:SQ T J bs L N r Q .ret a):SQ T J bs L (N+1) r (yF Q) .ret a:=⟨fun w j h=>Go.Sx.KP (K.out w j h)⟩
theorem SP.scp(K:SP T J bs L N r (yF Q) X a):SP T J bs L (N+1) r Q (.scope X) a:=⟨fun w j h=>Go.Sx.scp (K.out w j h)⟩
theorem SP.JB{l:Nat}(K:SQ T J bs L N r Q .normal a):SP T J bs L (N+1) r Q (.label l) a:=⟨fun w j h=>Go.Sx.JB (K.out w j h)⟩
theorem SL.nil(K:SQ T J bs L N r Q .normal (Fr n s ds)):SL T J bs L (N+1) r ops Q [] (Fr n s ds):=⟨fun w j h=>af7 (K.out w j h)⟩
theorem SL.sk{op:Op}{g:Nat×Bool}(K:SL T J bs L N r ops Q rest (Fr n ((d,undef) :: s) ds))(a:gD ops n s (some g)=false:=by exact rfl):SL T J bs L (N+1) r ops Q (⟨some d,op,ty,pos,af,some g⟩ :: rest) (Fr n s ds):=⟨fun w j h=>Go.Sx.sk a (K.out w j h)⟩
theorem qG{R:fS}{L:List fS}:(R :: L)[0]? = some R:=rfl
theorem qH{R a:fS}{L:List fS}:(a :: R :: L)[1]? = some R:=rfl
theorem ny{R a b:fS}{L:List fS}:(a :: b :: R :: L)[2]? = some R:=rfl
theorem nC{R a b A2:fS}{L:List fS}:(a :: b :: A2 :: R :: L)[3]? = some R:=rfl
theorem qI{R a b A2 c:fS}{L:List fS}:(a :: b :: A2 :: c :: R :: L)[4]? = some R:=rfl
theorem qJ{R a b A2 c d:fS}{L:List fS}:(a :: b :: A2 :: c :: d :: R :: L)[5]? = some R:=rfl
theorem NJ{k:IntKind}{a:Int}:(Value.int k a).cells.toList=[Value.int k a]:=rfl
theorem NI{a:Bool}:(Value.bool a).cells.toList=[Value.bool a]:=rfl
theorem NK{a:Option Addr}:(Value.pointer a).cells.toList=[Value.pointer a]:=rfl
theorem NL{a:Option Addr}{m c:Nat}:(Value.slice a m c).cells.toList=[Value.slice a m c]:=rfl
theorem NH{l:List Value}:(Value.agg l.toArray).cells.toList=l:=by simp[Value.cells]
theorem qK{R a b A2 c d e:fS}{L:List fS}:(a :: b :: A2 :: c :: d :: e :: R :: L)[6]? = some R:=rfl
theorem qL{R a b A2 c d e f:fS}{L:List fS}:(a :: b :: A2 :: c :: d :: e :: f :: R :: L)[7]? = some R:=rfl
def Bi:List Value->Nat->(List Value->Option (List Value))->Option (List Value)
 | _,0,k=>k []
 | v :: l,m+1,k=>Bi l m fun r=>k (v :: r)
 | [],_+1,_=>none
def sub' (l:List Value)(o m:Nat):Option (List Value):=Bi (l.drop o) m some
theorem K6:∀ (l:List Value) (m:Nat) (k:List Value->Option (List Value)),Bi l m k=if m<=l.length then k (l.take m)else none
 | l,0,k=>by simp[Bi]
 | v :: l,m+1,k=>by simp[Bi,K6 l m]
 | [],m+1,k=>by simp[Bi]
theorem wU{l vs:List Value}{o m:Nat}(h:sub' l o m=some vs):vs.length=m:=by
 unfold sub' at h
 rw[K6]at h
 split at h
 . rename_i a
   simp at h
   rw[<-h,z7]
   omega
 . cases h
theorem yS{l vs:List Value}{o m:Nat}(h:sub' l o m=some vs):(l.drop o).take vs.length=vs:=by
 rw[wU h]
 unfold sub' at h
 rw[K6]at h
 split at h
 . simpa using h
 . cases h
theorem SL.mv  (K:SL T J bs L N r ops Q rest (Fr n ((d,v) :: s) ds)) (b:ev n s x=v:=by conv=>lhs;whnf) (a:gD ops n s g=true:=by exact rfl):SL T J bs L (N+1) r ops Q (⟨some d,.move x,ty,pos,af,g⟩ :: rest) (Fr n s ds):=⟨fun w j h=>pw a (fun _=>kV b) (K.out w j h)⟩
theorem SL.P8{α:Type}{cf:α->List Value}{xs:List α}{e e' : TypeId}{kk:IntKind}{k sz by_ i:Nat}{o:Value}(K:SL T J bs L N r ops Q rest (Fr n ((d,jU sz v k 0) :: s) ds))(l:ev n s x=v:=by conv=>lhs;whnf)(m:ev n s y = .int kk (k:Nat):=by exact rfl)(a:iY T.u t=some (.slice e):=by exact rfl)(f:iY T.i e=some (sz,by_,o):=by exact rfl)(hi:L[i]? = some (fM cf v e' sz xs):=by first|exact qG|exact qH|exact ny|exact nC|exact qI|exact qJ|exact qK|exact qL)(p:Inhabited α:=by infer_instance)(c:∀ x:α,(cf x).length=sz:=by exact fun _=>rfl)(hk:k<xs.length:=by first|omega|(simp only[gB];omega))(b:gD ops n s g=true:=by exact rfl):SL T J bs L (N+1) r ops Q (⟨some d,.indexAddr t x y,ty,pos,af,g⟩ :: rest) (Fr n s ds):=⟨fun w j h=>pw b (fun _=>CJ l m (kJ T.kQ a) (mE T.mW f) (St.yN h hi c) o_ o_ (gE hk)) (K.out w j h)⟩
theorem SL.Pp{α:Type}{cf:α->List Value}{xs:List α}{e' : TypeId}{i q k sz off off' szf byf:Nat}{zf:Value}{fields:Array Field}{f:Field}(K:SL T J bs L N r ops Q rest (Fr n ((d,jU sz v k off') :: s) ds))(o:ev n s x=jU sz v k off:=by exact rfl)(a:iY T.u t=some (.struct fields):=by exact rfl)(b:fields[i]? = some f:=by exact rfl)(m:iY T.i f.type=some (szf+1,byf,zf):=by exact rfl)(l:off+f.offset=off' := by conv=>lhs;whnf)(hi:L[q]? = some (fM cf v e' sz xs):=by first|exact qG|exact qH|exact ny|exact nC|exact qI|exact qJ|exact qK|exact qL)(p:Inhabited α:=by infer_instance)(e:∀ x:α,(cf x).length=sz:=by exact fun _=>rfl)(hk:k<xs.length:=by first|omega|(simp only[gB];omega))(c:gD ops n s g=true:=by exact rfl):SL T J bs L (N+1) r ops Q (⟨some d,.fieldAddr t x i,ty,pos,af,g⟩ :: rest) (Fr n s ds):=⟨fun w j h=>pw c (fun _=>Fa o (kJ T.kQ a) b (mE T.mW m) l (St.yN h hi e) (gE hk)) (K.out w j h)⟩
theorem SL.Fv{α:Type}{cf:α->List Value}{xs:List α}{e' : TypeId}{q k sz off:Nat}{ud:TypeDesc}{u:Value}(K:SL T J bs L N r ops Q rest (Fr n ((d,v) :: s) ds))(f:ev n s x=jU sz u k off:=by exact rfl)(a:iY T.u t=some ud:=by exact rfl)(e:j6 ud=false:=by exact rfl)(hi:L[q]? = some (fM cf u e' sz xs):=by first|exact qG|exact qH|exact ny|exact nC|exact qI|exact qJ|exact qK|exact qL)(i:Inhabited α:=by infer_instance)(c:∀ x:α,(cf x).length=sz:=by exact fun _=>rfl)(hk:k<xs.length:=by first|omega|(simp only[gB];omega))(hv:(cf (fJ xs k))[off]? = some v:=by exact rfl)(b:gD ops n s g=true:=by exact rfl):SL T J bs L (N+1) r ops Q (⟨some d,.load t x,ty,pos,af,g⟩ :: rest) (Fr n s ds):=⟨fun w j h=>pv b rfl (xZ f (kJ T.kQ a) e (St.yN h hi c) (gE hk) hv) (K.out w j h)⟩
theorem SL.Pn{i b k sz off off' szf byf:Nat}{zf:Value}{fields:Array Field}{f:Field}(K:SL T J bs L N r ops Q rest (Fr n ((d,.pointer (some ⟨b,k*sz+off', none⟩)) :: s) ds))(o:ev n s x = .pointer (some ⟨b,k*sz+off,none⟩):=by exact rfl)(a:iY T.u t=some (.struct fields):=by exact rfl)(c:fields[i]? = some f:=by exact rfl)(m:iY T.i f.type=some (szf+1,byf,zf):=by exact rfl)(l:off+f.offset=off' := by conv=>lhs;whnf)(e:gD ops n s g=true:=by exact rfl):SL T J bs L (N+1) r ops Q (⟨some d,.fieldAddr t x i,ty,pos,af,g⟩ :: rest) (Fr n s ds):=⟨fun w j h=>pw e (fun _=>uI o (kJ T.kQ a) c (mE T.mW m) (by rw[<-l,k6])) (K.out w j h)⟩
theorem SL.fa{i b o o' szf byf:Nat}{zf:Value}{fields:Array Field}{f:Field}(K:SL T J bs L N r ops Q rest (Fr n ((d,.pointer (some ⟨b,o', none⟩)) :: s) ds))(m:ev n s x = .pointer (some ⟨b,o,none⟩):=by exact rfl)(a:iY T.u t=some (.struct fields):=by exact rfl)(c:fields[i]? = some f:=by exact rfl)(l:iY T.i f.type=some (szf+1,byf,zf):=by exact rfl)(k:o+f.offset=o' := by conv=>lhs;whnf)(e:gD ops n s g=true:=by exact rfl):SL T J bs L (N+1) r ops Q (⟨some d,.fieldAddr t x i,ty,pos,af,g⟩ :: rest) (Fr n s ds):=⟨fun w j h=>pw e (fun _=>uI m (kJ T.kQ a) c (mE T.mW l) k) (K.out w j h)⟩
theorem SL.ld{b o i:Nat}{a:TypeId}{cs:List Value}{ud:TypeDesc}(K:SL T J bs L N r ops Q rest (Fr n ((d,v) :: s) ds))(k:ev n s x = .pointer (some ⟨b,o,none⟩):=by exact rfl)(c:iY T.u t=some ud:=by exact rfl)(f:j6 ud=false:=by exact rfl)(hi:L[i]? = some (blk b a cs):=by first|exact qG|exact qH|exact ny|exact nC|exact qI|exact qJ|exact qK|exact qL)(hv:cs[o]? = some v:=by exact rfl)(e:gD ops n s g=true:=by exact rfl):SL T J bs L (N+1) r ops Q (⟨some d,.load t x,ty,pos,af,g⟩ :: rest) (Fr n s ds):=⟨fun w j h=>pv e rfl (mD k (kJ T.kQ c) f (h.rM hi hv)) (K.out w j h)⟩
theorem SL.JC{α:Type}{cf:α->List Value}{xs:List α}{b k sz off i:Nat}{a:TypeId}{ud:TypeDesc}(K:SL T J bs L N r ops Q rest (Fr n ((d,v) :: s) ds))(m:ev n s x = .pointer (some ⟨b,k*sz+off,none⟩):=by exact rfl)(c:iY T.u t=some ud:=by exact rfl)(l:j6 ud=false:=by exact rfl)(hi:L[i]? = some (blk b a (xs.flatMap cf)):=by first|exact qG|exact qH|exact ny|exact nC|exact qI|exact qJ|exact qK|exact qL)(o:Inhabited α:=by infer_instance)(f:∀ x:α,(cf x).length=sz:=by exact fun _=>rfl)(hk:k<xs.length:=by first|omega|(simp only[gB];omega))(hv:(cf (fJ xs k))[off]? = some v:=by exact rfl)(e:gD ops n s g=true:=by exact rfl):SL T J bs L (N+1) r ops Q (⟨some d,.load t x,ty,pos,af,g⟩ :: rest) (Fr n s ds):=⟨fun w j h=>pv e rfl (mD m (kJ T.kQ c) l (St.Kw h hi f hk hv)) (K.out w j h)⟩
theorem SL.JE{b o:Nat}{a:TypeId}{cs:List Value}{ud:TypeDesc}(K:SL T J bs L N r ops Q rest (Fr n ((d,v) :: s) ds))(i:ev n s x = .pointer (some ⟨b,o,none⟩):=by exact rfl)(c:iY T.u t=some ud:=by exact rfl)(f:j6 ud=false:=by exact rfl)(hi:(blk b a cs).holds w0:=by assumption)(hb:(w0,[])∈bs:=by simp)(hv:cs[o]? = some v:=by exact rfl)(e:gD ops n s g=true:=by exact rfl):SL T J bs L (N+1) r ops Q (⟨some d,.load t x,ty,pos,af,g⟩ :: rest) (Fr n s ds):=⟨fun w j h=>pv e rfl (mD i (kJ T.kQ c) f (St.KF h hb hi hv)) (K.out w j h)⟩
theorem SL.JG{α:Type}{cf:α->List Value}{xs:List α}{b k sz off:Nat}{a:TypeId}{ud:TypeDesc}(K:SL T J bs L N r ops Q rest (Fr n ((d,v) :: s) ds))(l:ev n s x = .pointer (some ⟨b,k*sz+off,none⟩):=by exact rfl)(c:iY T.u t=some ud:=by exact rfl)(i:j6 ud=false:=by exact rfl)(hi:(blk b a (xs.flatMap cf)).holds w0:=by assumption)(m:Inhabited α:=by infer_instance)(hb:(w0,[])∈bs:=by simp)(f:∀ x:α,(cf x).length=sz:=by exact fun _=>rfl)(hk:k<xs.length:=by first|omega|(simp only[gB];omega))(hv:(cf (fJ xs k))[off]? = some v:=by exact rfl)(e:gD ops n s g=true:=by exact rfl):SL T J bs L (N+1) r ops Q (⟨some d,.load t x,ty,pos,af,g⟩ :: rest) (Fr n s ds):=⟨fun w j h=>pv e rfl (mD l (kJ T.kQ c) i (St.SA h hb hi f hk hv)) (K.out w j h)⟩
theorem SL.vU  (K:SL T J bs L N r ops Q rest (Fr n ((d,v) :: s) ds)) (b:ev n s x=v:=by conv=>lhs;whnf) (a:gD ops n s g=true:=by exact rfl):SL T J bs L (N+1) r ops Q (⟨some d,.assign x,ty,pos,af,g⟩ :: rest) (Fr n s ds):=⟨fun w j h=>pw a (fun _=>vV b) (K.out w j h)⟩
theorem SL.uR{p:Addr}(K:SL T J bs L N r ops Q rest (Fr n ((d,.pointer (some p)) :: s) ds))(b:ev n s x = .pointer (some p):=by exact rfl)(a:gD ops n s g=true:=by exact rfl):SL T J bs L (N+1) r ops Q (⟨some d,.nilCheck x,ty,pos,af,g⟩ :: rest) (Fr n s ds):=⟨fun w j h=>pw a (fun _=>AP b) (K.out w j h)⟩
theorem SL.cmp{op:BinOp}{t' : TypeId}{k:IntKind}{a b:Int}{c:Bool}(K:SL T J bs L N r ops Q rest (Fr n ((d,.bool c) :: s) ds))(i:ev n s x = .int k a:=by exact rfl)(l:ev n s y = .int k b:=by exact rfl)(e:kO op a b=some c:=by first|exact qj (by first|assumption|exact rfl|decide)|exact uD (by first|assumption|exact rfl|decide)|exact qm (by first|assumption|exact rfl|decide)|exact k8 (by first|assumption|exact rfl|decide)|exact Al (by first|assumption|exact rfl|decide)|exact NN (by first|assumption|exact rfl|decide)|exact NM (by first|assumption|exact rfl|decide)|exact qM (by first|assumption|exact rfl|decide)|exact c_gt (by first|assumption|exact rfl|decide)|exact qn (by first|assumption|exact rfl|decide)|exact nX (by first|assumption|exact rfl|decide)|exact pN (by first|assumption|exact rfl|decide))(f:gD ops n s g=true:=by exact rfl):SL T J bs L (N+1) r ops Q (⟨some d,.binOp op t x y t', ty,pos,af,g⟩ :: rest) (Fr n s ds):=⟨fun w j h=>pw f (fun _=>N4 i l e) (K.out w j h)⟩
theorem SL.ar{op:BinOp}{t' : TypeId}{k:IntKind}{a b c e:Int}(K:SL T J bs L N r ops Q rest (Fr n ((d,.int k e) :: s) ds))(m:ev n s x = .int k a:=by exact rfl)(o:ev n s y = .int k b:=by exact rfl)(f:Ce op a b=some c:=by exact rfl)(l:k.wrap c=e:=by first|exact oL o_|exact GM o_|exact T3 o_|exact w32u o_)(i:gD ops n s g=true:=by exact rfl):SL T J bs L (N+1) r ops Q (⟨some d,.binOp op t x y t', ty,pos,af,g⟩ :: rest) (Fr n s ds):=⟨fun w j h=>pw i (fun _=>EB m o f l) (K.out w j h)⟩
theorem SL.ex{i:Nat}{vs:Array Value}(K:SL T J bs L N r ops Q rest (Fr n ((d,v) :: s) ds))(b:ev n s x = .tuple vs:=by exact rfl)(hv:vs[i]? = some v:=by exact rfl)(a:gD ops n s g=true:=by exact rfl):SL T J bs L (N+1) r ops Q (⟨some d,.extract x i,ty,pos,af,g⟩ :: rest) (Fr n s ds):=⟨fun w j h=>pw a (fun _=>E9 b hv) (K.out w j h)⟩
theorem SL.P7{e:TypeId}{kk:IntKind}{b m c k sz by_:Nat}{v:Value}(K:SL T J bs L N r ops Q rest (Fr n ((d,.pointer (some ⟨b,k*sz+0,none⟩)) :: s) ds))(p:ev n s x = .slice (some ⟨b,0,none⟩) m c:=by exact rfl)(q:ev n s y = .int kk (k:Nat):=by exact rfl)(f:iY T.u t=some (.slice e):=by exact rfl)(o:iY T.i e=some (sz,by_,v):=by exact rfl)(a:(k:Int)<m:=by first|omega|(simp only[gB];omega))(l:gD ops n s g=true:=by exact rfl):SL T J bs L (N+1) r ops Q (⟨some d,.indexAddr t x y,ty,pos,af,g⟩ :: rest) (Fr n s ds):=⟨fun w j h=>pw l (fun _=>Jq p q (kJ T.kQ f) (mE T.mW o) ⟨o_,a⟩ s_) (K.out w j h)⟩
theorem SL.iX{α:Type}{cf:α->List Value}{xs:List α}{ok:Nat->Prop}{c:α}{e:TypeId}{kk:IntKind}{k sz by_:Nat}{o:Value}(K:SL T J bs L N r ops Q rest (Fr n ((d,jU sz v k 0) :: s) ds))(l:ev n s x=v:=by conv=>lhs;whnf)(m:ev n s y = .int kk (k:Nat):=by exact rfl)(a:iY T.u t=some (.slice e):=by exact rfl)(f:iY T.i e=some (sz,by_,o):=by exact rfl)(hi:ir sz cf ok w0 v xs:=by assumption)(hk:xs[k]? = some c:=by first|assumption|exact rfl|exact gE (by first|omega|(simp only[gB];omega)))(b:gD ops n s g=true:=by exact rfl):SL T J bs L (N+1) r ops Q (⟨some d,.indexAddr t x y,ty,pos,af,g⟩ :: rest) (Fr n s ds):=⟨fun w j h=>pw b (fun _=>CJ l m (kJ T.kQ a) (mE T.mW f) hi o_ o_ hk) (K.out w j h)⟩
theorem SL.Po{α:Type}{cf:α->List Value}{xs:List α}{ok:Nat->Prop}{c:α}{i k sz off off' szf byf:Nat}{zf:Value}{fields:Array Field}{f:Field}(K:SL T J bs L N r ops Q rest (Fr n ((d,jU sz v k off') :: s) ds))(o:ev n s x=jU sz v k off:=by exact rfl)(a:iY T.u t=some (.struct fields):=by exact rfl)(b:fields[i]? = some f:=by exact rfl)(m:iY T.i f.type=some (szf+1,byf,zf):=by exact rfl)(l:off+f.offset=off' := by conv=>lhs;whnf)(hi:ir sz cf ok w0 v xs:=by assumption)(hk:xs[k]? = some c:=by first|assumption|exact rfl|exact gE (by first|omega|(simp only[gB];omega)))(e:gD ops n s g=true:=by exact rfl):SL T J bs L (N+1) r ops Q (⟨some d,.fieldAddr t x i,ty,pos,af,g⟩ :: rest) (Fr n s ds):=⟨fun w j h=>pw e (fun _=>Fa o (kJ T.kQ a) b (mE T.mW m) l hi hk) (K.out w j h)⟩
theorem SL.jq{α:Type}{cf:α->List Value}{xs:List α}{ok:Nat->Prop}{c:α}{k sz off:Nat}{ud:TypeDesc}{u:Value}(K:SL T J bs L N r ops Q rest (Fr n ((d,v) :: s) ds))(f:ev n s x=jU sz u k off:=by exact rfl)(a:iY T.u t=some ud:=by exact rfl)(e:j6 ud=false:=by exact rfl)(hi:ir sz cf ok w0 u xs:=by assumption)(hb:(w0,[])∈bs:=by simp)(i:0<sz:=by decide)(hk:xs[k]? = some c:=by first|assumption|exact rfl|exact gE (by first|omega|(simp only[gB];omega)))(hv:(cf c)[off]? = some v:=by exact rfl)(b:gD ops n s g=true:=by exact rfl):SL T J bs L (N+1) r ops Q (⟨some d,.load t x,ty,pos,af,g⟩ :: rest) (Fr n s ds):=⟨fun w j h=>pv b rfl (xZ f (kJ T.kQ a) e (St.Dg h hb i hi) hk hv) (K.out w j h)⟩
theorem SL.uN{b o i sz by_:Nat}{m:Value}{a:TypeId}{cs vs:List Value}{ud:TypeDesc}(K:SL T J bs L N r ops Q rest (Fr n ((d,.agg vs.toArray) :: s) ds))(l:ev n s x = .pointer (some ⟨b,o,none⟩):=by exact rfl)(c:iY T.u t=some ud:=by exact rfl)(f:j6 ud=true:=by exact rfl)(k:iY T.i t=some (sz,by_,m):=by exact rfl)(hi:L[i]? = some (blk b a cs):=by first|exact qG|exact qH|exact ny|exact nC|exact qI|exact qJ|exact qK|exact qL)(hv:sub' cs o sz=some vs:=by exact rfl)(e:gD ops n s g=true:=by exact rfl):SL T J bs L (N+1) r ops Q (⟨some d,.load t x,ty,pos,af,g⟩ :: rest) (Fr n s ds):=⟨fun w j h=>pv e rfl (tL l (kJ T.kQ c) f (mE T.mW k) (wU hv) (h.Ii hi (yS hv))) (K.out w j h)⟩
theorem SL.JF{b o sz by_:Nat}{m:Value}{a:TypeId}{cs vs:List Value}{ud:TypeDesc}(K:SL T J bs L N r ops Q rest (Fr n ((d,.agg vs.toArray) :: s) ds))(l:ev n s x = .pointer (some ⟨b,o,none⟩):=by exact rfl)(c:iY T.u t=some ud:=by exact rfl)(f:j6 ud=true:=by exact rfl)(k:iY T.i t=some (sz,by_,m):=by exact rfl)(hi:(blk b a cs).holds w0:=by assumption)(hb:(w0,[])∈bs:=by simp)(hv:sub' cs o sz=some vs:=by exact rfl)(e:gD ops n s g=true:=by exact rfl):SL T J bs L (N+1) r ops Q (⟨some d,.load t x,ty,pos,af,g⟩ :: rest) (Fr n s ds):=⟨fun w j h=>pv e rfl (tL l (kJ T.kQ c) f (mE T.mW k) (wU hv) (St.adH h hb hi (yS hv))) (K.out w j h)⟩
theorem SL.JD{α:Type}{cf:α->List Value}{xs:List α}{b k sz off i a by_:Nat}{q:Value}{c:TypeId}{vs:List Value}{ud:TypeDesc}(K:SL T J bs L N r ops Q rest (Fr n ((d,.agg vs.toArray) :: s) ds))(p:ev n s x = .pointer (some ⟨b,k*sz+off,none⟩):=by exact rfl)(e:iY T.u t=some ud:=by exact rfl)(m:j6 ud=true:=by exact rfl)(o:iY T.i t=some (a, by_,q):=by exact rfl)(hi:L[i]? = some (blk b c (xs.flatMap cf)):=by first|exact qG|exact qH|exact ny|exact nC|exact qI|exact qJ|exact qK|exact qL)(v:Inhabited α:=by infer_instance)(l:∀ x:α,(cf x).length=sz:=by exact fun _=>rfl)(hk:k<xs.length:=by first|omega|(simp only[gB];omega))(hv:sub' (cf (fJ xs k)) off a = some vs:=by exact rfl)(f:gD ops n s g=true:=by exact rfl):SL T J bs L (N+1) r ops Q (⟨some d,.load t x,ty,pos,af,g⟩ :: rest) (Fr n s ds):=⟨fun w j h=>pv f rfl (tL p (kJ T.kQ e) m (mE T.mW o) (wU hv) (St.adm h hi l hk (yS hv))) (K.out w j h)⟩
theorem SL.JH{α:Type}{cf:α->List Value}{xs:List α}{b k sz off a by_:Nat}{q:Value}{c:TypeId}{vs:List Value}{ud:TypeDesc}(K:SL T J bs L N r ops Q rest (Fr n ((d,.agg vs.toArray) :: s) ds))(p:ev n s x = .pointer (some ⟨b,k*sz+off,none⟩):=by exact rfl)(e:iY T.u t=some ud:=by exact rfl)(m:j6 ud=true:=by exact rfl)(o:iY T.i t=some (a, by_,q):=by exact rfl)(hi:(blk b c (xs.flatMap cf)).holds w0:=by assumption)(v:Inhabited α:=by infer_instance)(hb:(w0,[])∈bs:=by simp)(l:∀ x:α,(cf x).length=sz:=by exact fun _=>rfl)(hk:k<xs.length:=by first|omega|(simp only[gB];omega))(hv:sub' (cf (fJ xs k)) off a = some vs:=by exact rfl)(f:gD ops n s g=true:=by exact rfl):SL T J bs L (N+1) r ops Q (⟨some d,.load t x,ty,pos,af,g⟩ :: rest) (Fr n s ds):=⟨fun w j h=>pv f rfl (tL p (kJ T.kQ e) m (mE T.mW o) (wU hv) (St.adI h hb hi l hk (yS hv))) (K.out w j h)⟩
theorem SL.Qt{α:Type}{cf:α->List Value}{xs:List α}{e' : TypeId}{q k sz off a by_:Nat}{o:Value}{vs:List Value}{ud:TypeDesc}{u:Value}(K:SL T J bs L N r ops Q rest (Fr n ((d,.agg vs.toArray) :: s) ds))(m:ev n s x=jU sz u k off:=by exact rfl)(b:iY T.u t=some ud:=by exact rfl)(f:j6 ud=true:=by exact rfl)(l:iY T.i t=some (a, by_,o):=by exact rfl)(hi:L[q]? = some (fM cf u e' sz xs):=by first|exact qG|exact qH|exact ny|exact nC|exact qI|exact qJ|exact qK|exact qL)(p:Inhabited α:=by infer_instance)(e:∀ x:α,(cf x).length=sz:=by exact fun _=>rfl)(hk:k<xs.length:=by first|omega|(simp only[gB];omega))(hv:sub' (cf (fJ xs k)) off a = some vs:=by exact rfl)(c:gD ops n s g=true:=by exact rfl):SL T J bs L (N+1) r ops Q (⟨some d,.load t x,ty,pos,af,g⟩ :: rest) (Fr n s ds):=⟨fun w j h=>pv c rfl (Qs m (kJ T.kQ b) f (mE T.mW l) (St.yN h hi e) (gE hk) (wU hv) (yS hv)) (K.out w j h)⟩
theorem SL.Qr{α:Type}{cf:α->List Value}{xs:List α}{ok:Nat->Prop}{c:α}{k sz off a by_:Nat}{p:Value}{vs:List Value}{ud:TypeDesc}{u:Value}(K:SL T J bs L N r ops Q rest (Fr n ((d,.agg vs.toArray) :: s) ds))(m:ev n s x=jU sz u k off:=by exact rfl)(b:iY T.u t=some ud:=by exact rfl)(f:j6 ud=true:=by exact rfl)(l:iY T.i t=some (a, by_,p):=by exact rfl)(hi:ir sz cf ok w0 u xs:=by assumption)(hb:(w0,[])∈bs:=by simp)(o:0<sz:=by decide)(hk:xs[k]? = some c:=by first|assumption|exact rfl|exact gE (by first|omega|(simp only[gB];omega)))(hv:sub' (cf c) off a = some vs:=by exact rfl)(e:gD ops n s g=true:=by exact rfl):SL T J bs L (N+1) r ops Q (⟨some d,.load t x,ty,pos,af,g⟩ :: rest) (Fr n s ds):=⟨fun w j h=>pv e rfl (Qs m (kJ T.kQ b) f (mE T.mW l) (St.Dg h hb o hi) hk (wU hv) (yS hv)) (K.out w j h)⟩
theorem SL.cv{k k' : IntKind}{ud:TypeDesc}{a e:Int}{t' : TypeId}(K:SL T J bs L N r ops Q rest (Fr n ((d,.int k' e) :: s) ds))(l:ev n s x = .int k a:=by exact rfl)(b:iY T.u t=some ud:=by exact rfl)(c:iY T.u t' = some (.int k'):=by exact rfl)(i:k'.wrap a=e:=by first|exact oL o_|exact GM o_|exact T3 o_|exact w32u o_)(f:gD ops n s g=true:=by exact rfl):SL T J bs L (N+1) r ops Q (⟨some d,.convert t t' x,ty,pos,af,g⟩ :: rest) (Fr n s ds):=⟨fun w j h=>pw f (fun _=>Wf l (kJ T.kQ b) (kJ T.kQ c) i) (K.out w j h)⟩
theorem SL.not{b:Bool}(K:SL T J bs L N r ops Q rest (Fr n ((d,.bool !b) :: s) ds))(c:ev n s x = .bool b:=by exact rfl)(a:gD ops n s g=true:=by exact rfl):SL T J bs L (N+1) r ops Q (⟨some d,.unOp .not t x,ty,pos,af,g⟩ :: rest) (Fr n s ds):=⟨fun w j h=>pw a (fun _=>ab3 c rfl) (K.out w j h)⟩
theorem SL.pT  (K:SL T J bs L N r ops Q rest (Fr n ((d,v) :: s) ds)) (a:ev n s x = .bool true:=by exact rfl) (c:ev n s y=v:=by conv=>lhs;whnf) (b:gD ops n s g=true:=by exact rfl):SL T J bs L (N+1) r ops Q (⟨some d,.pick x y z,ty,pos,af,g⟩ :: rest) (Fr n s ds):=⟨fun w j h=>pw b (fun _=>acC a c) (K.out w j h)⟩
theorem SL.pF  (K:SL T J bs L N r ops Q rest (Fr n ((d,v) :: s) ds)) (a:ev n s x = .bool false:=by exact rfl) (c:ev n s z=v:=by conv=>lhs;whnf) (b:gD ops n s g=true:=by exact rfl):SL T J bs L (N+1) r ops Q (⟨some d,.pick x y z,ty,pos,af,g⟩ :: rest) (Fr n s ds):=⟨fun w j h=>pw b (fun _=>acB a c) (K.out w j h)⟩
theorem SL.Gn{b o i sz by_:Nat}{q:Value}{a:TypeId}{cs cs' vs:List Value}(K:SL T (fun _=>True) bs L' N r ops Q rest (Fr n s ds))(m:ev n s x = .pointer (some ⟨b,o,none⟩):=by exact rfl)
 (hv:ev n s y=v:=by conv=>lhs;whnf) (p:v.cells.toList=vs:=by first|exact NJ|exact NI|exact NK|exact NL|exact NH|exact cNilF|exact cMap|exact rfl) (l:iY T.i t=some (sz,by_,q):=by exact rfl) (k:vs.length=sz:=by exact rfl) (h1:vs.all (·.oneCell')=true:=by exact rfl) (hi:L[i]? = some (blk b a cs):=by first|exact qG|exact qH|exact ny|exact nC|exact qI|exact qJ|exact qK|exact qL)
 (e:Nat.ble (o+vs.length) cs.length=true:=by exact rfl) (hcs:setAt cs o vs=cs' := by dsimp only[setAt,List.take,List.drop,List.length,List.append,HAppend.hAppend,Append.append]<;>exact rfl) (d:L.set i (blk b a cs')=L' := by dsimp only[List.set]<;>exact rfl) (f:gD ops n s g=true:=by exact rfl) :
 SL T (fun _=>True) bs L (N+1) r ops Q (⟨none,.store t x y,ty,pos,af,g⟩ :: rest) (Fr n s ds):=⟨fun w j h=>Go.Sx.Gn i f m hv p (mE T.mW l) k h1 h hi e hcs d fun w' c => K.out w' trivial c⟩
theorem run{p q:Prop} (h:p->q:=by
 intro h
 repeat (first
  | refine SP.sq ?_|refine SP.rg ?_|refine SP.KC ?_|refine SL.mv ?_|refine SL.nil ?_|refine SQ.tN ?_|refine SL.P8 ?_|refine SL.Pp ?_|refine SL.Fv ?_|refine SL.Pn ?_|refine SL.fa ?_|refine SL.ld ?_|refine SL.JC ?_|refine SL.JE ?_|refine SL.JG ?_|refine SL.vU ?_|refine SL.uR ?_|refine SL.cmp ?_|refine SP.cT ?_|refine SP.cF ?_|refine SL.ar ?_|refine SL.ex ?_|refine SL.P7 ?_|refine SL.iX ?_|refine SL.Po ?_|refine SL.jq ?_|refine SL.uN ?_|refine SL.JF ?_|refine SL.JD ?_|refine SL.JH ?_|refine SL.Qt ?_|refine SL.Qr ?_|refine SL.cv ?_|refine SL.not ?_|refine SL.pT ?_|refine SL.pF ?_|refine SL.jM ?_|refine SL.ixG ?_|refine SL.fldG ?_|refine SL.len ?_|refine SL.nP ?_|refine SL.eP ?_|refine SL.Gn ?_|refine SL.sk ?_|refine SL.skN ?_|refine SP.bk ?_|refine SP.sp ?_|refine SP.xt ?_|refine SP.rt ?_|refine SQ.tX ?_|refine SQ.tR ?_|refine SQ.bN ?_|refine SQ.bR ?_|refine SQ.bX ?_|refine SQ.Ih ?_|refine SP.scp ?_|refine SQ.KO ?_|refine SQ.scX ?_|refine SQ.KP ?_|refine SP.JB ?_)
 exact h):p->q:=h
variable {ops' : Array Oper} {Q' : Exit->Act->World->Prop} {l' : List Oper} {a' : Act} {c c' : Code} {e e' : Exit}
theorem gO[T:TT P](b:St bs L w)(N:Nat)(k:∀ w', St bs L' w' -> WL r P ops' Q' l' a' w')(h:SL T (fun _=>True) bs L' 0 r ops' Q' l' a' -> SL T (fun _=>True) bs L N r ops Q l a:=by exact run):WL r P ops Q l a w:=(h ⟨fun w' _ hs=>k w' hs⟩).out w trivial b
theorem fK[T:TT P](b:St bs L w)(N:Nat)(k:WL r P ops' Q' l' a' w)(h:SL T (fun x=>x=w) bs L 0 r ops' Q' l' a' -> SL T (fun x=>x=w) bs L N r ops Q l a:=by exact run):WL r P ops Q l a w:=(h ⟨fun w' j _=>by subst j;exact k⟩).out w rfl b
theorem wS[T:TT P](b:St bs L w)(N:Nat)(k:∀ w', St bs L' w' -> WP r P c' Q' a' w')(h:SP T (fun _=>True) bs L' 0 r Q' c' a' -> SL T (fun _=>True) bs L N r ops Q l a:=by exact run):WL r P ops Q l a w:=(h ⟨fun w' _ hs=>k w' hs⟩).out w trivial b
theorem gJ[T:TT P](b:St bs L w)(N:Nat)(k:WP r P c' Q' a' w)(h:SP T (fun x=>x=w) bs L 0 r Q' c' a' -> SL T (fun x=>x=w) bs L N r ops Q l a:=by exact run):WL r P ops Q l a w:=(h ⟨fun w' j _=>by subst j;exact k⟩).out w rfl b
theorem jY[T:TT P](b:St bs L w)(N:Nat)(k:∀ w', St bs L' w' -> Q' e' a' w')(h:SQ T (fun _=>True) bs L' 0 r Q' e' a' -> SL T (fun _=>True) bs L N r ops Q l a:=by exact run):WL r P ops Q l a w:=(h ⟨fun w' _ hs=>k w' hs⟩).out w trivial b
theorem fQ[T:TT P](b:St bs L w)(N:Nat)(k:Q' e' a' w)(h:SQ T (fun x=>x=w) bs L 0 r Q' e' a' -> SL T (fun x=>x=w) bs L N r ops Q l a:=by exact run):WL r P ops Q l a w:=(h ⟨fun w' j _=>by subst j;exact k⟩).out w rfl b
theorem qu[T:TT P](b:St bs L w)(N:Nat)(k:∀ w', St bs L' w' -> WL r P ops' Q' l' a' w')(h:SL T (fun _=>True) bs L' 0 r ops' Q' l' a' -> SP T (fun _=>True) bs L N r Q c a:=by exact run):WP r P c Q a w:=(h ⟨fun w' _ hs=>k w' hs⟩).out w trivial b
theorem fR[T:TT P](b:St bs L w)(N:Nat)(k:WL r P ops' Q' l' a' w)(h:SL T (fun x=>x=w) bs L 0 r ops' Q' l' a' -> SP T (fun x=>x=w) bs L N r Q c a:=by exact run):WP r P c Q a w:=(h ⟨fun w' j _=>by subst j;exact k⟩).out w rfl b
theorem sY[T:TT P](b:St bs L w)(N:Nat)(k:WP r P c' Q' a' w)(h:SP T (fun x=>x=w) bs L 0 r Q' c' a' -> SP T (fun x=>x=w) bs L N r Q c a:=by exact run):WP r P c Q a w:=(h ⟨fun w' j _=>by subst j;exact k⟩).out w rfl b
theorem iP[T:TT P](b:St bs L w)(N:Nat)(k:Q' e' a' w)(h:SQ T (fun x=>x=w) bs L 0 r Q' e' a' -> SP T (fun x=>x=w) bs L N r Q c a:=by exact run):WP r P c Q a w:=(h ⟨fun w' j _=>by subst j;exact k⟩).out w rfl b
theorem KM(T:TT P)(r:Option Nat)(b:St bs L w)(N:Nat)(k:∀ w', St bs L' w' -> WL r P ops' Q' l' a' w')(h:SL T (fun _=>True) bs L' 0 r ops' Q' l' a' -> SQ T (fun _=>True) bs L N r Q e a:=by exact run):Q e a w:=(h ⟨fun w' _ hs=>k w' hs⟩).out w trivial b
theorem Kl(T:TT P)(r:Option Nat)(b:St bs L w)(N:Nat)(k:WL r P ops' Q' l' a' w)(h:SL T (fun x=>x=w) bs L 0 r ops' Q' l' a' -> SQ T (fun x=>x=w) bs L N r Q e a:=by exact run):Q e a w:=(h ⟨fun w' j _=>by subst j;exact k⟩).out w rfl b
theorem sQP(T:TT P)(r:Option Nat)(b:St bs L w)(N:Nat)(k:∀ w', St bs L' w' -> WP r P c' Q' a' w')(h:SP T (fun _=>True) bs L' 0 r Q' c' a' -> SQ T (fun _=>True) bs L N r Q e a:=by exact run):Q e a w:=(h ⟨fun w' _ hs=>k w' hs⟩).out w trivial b
theorem Km(T:TT P)(r:Option Nat)(b:St bs L w)(N:Nat)(k:WP r P c' Q' a' w)(h:SP T (fun x=>x=w) bs L 0 r Q' c' a' -> SQ T (fun x=>x=w) bs L N r Q e a:=by exact run):Q e a w:=(h ⟨fun w' j _=>by subst j;exact k⟩).out w rfl b
theorem sQQ(T:TT P)(r:Option Nat)(b:St bs L w)(N:Nat)(k:∀ w', St bs L' w' -> Q' e' a' w')(h:SQ T (fun _=>True) bs L' 0 r Q' e' a' -> SQ T (fun _=>True) bs L N r Q e a:=by exact run):Q e a w:=(h ⟨fun w' _ hs=>k w' hs⟩).out w trivial b
theorem uV(T:TT P)(r:Option Nat)(b:St bs L w)(N:Nat)(k:Q' e' a' w)(h:SQ T (fun x=>x=w) bs L 0 r Q' e' a' -> SQ T (fun x=>x=w) bs L N r Q e a:=by exact run):Q e a w:=(h ⟨fun w' j _=>by subst j;exact k⟩).out w rfl b
end
end Go.Sx
namespace Go.Sx
open Go
section
variable {P:Program} {ops:Array Oper} {n:Nat} {o:Oper} {s sA sE:List (Nat×Value)} {v:Value} {w w0 w1:World} {C:World->Prop}
def Rd(P:Program)(ops:Array Oper)(n:Nat)(o:Oper)(s:List (Nat×Value))(v:Value)(I:World->Prop):Prop:=∀ w,I w->mw P ops n o s v I w
end
end Go.Sx
namespace Go.Sx
open Go
section
variable {P:Program}
structure Rf (T:TT P) (bs:List (World×List Nat)) (L:List fS) (ops:Array Oper) (n:Nat) (o:Oper) (s:List (Nat×Value)) (v:Value):Prop where
 out:Rd P ops n o s v (St bs L)
variable {T:TT P} {bs bs' : List (World×List Nat)} {L L1:List fS} {r:Option Nat} {ops:Array Oper} {Q:Exit->Act->World->Prop} {n m:Nat} {s sA sE:List (Nat×Value)} {ds:List Deferred} {w w' w0 w1:World}
variable {d i j:Nat} {ty t:TypeId} {pos:String} {af:Array Edge} {g:Option (Nat×Bool)} {v u:Value} {x y z:Operand} {l B:List Oper} {o:Oper} {vs vA vB:List Value} {cs:List (Option Value)} {k:List Nat} {R:List Oper} {op:Op} {dd:Option Nat}
theorem Rf.mv  (b:ev n s x=v:=by conv=>lhs;whnf) (a:gD ops n s g=true:=by exact rfl):Rf T bs L ops n ⟨some d,.move x,ty,pos,af,g⟩ s (v):=⟨fun w h=>.inl ⟨a,rfl,.inl (kV b)⟩⟩
theorem Rf.fa{i b o o' szf byf:Nat}{zf:Value}{fields:Array Field}{f:Field}(l:ev n s x = .pointer (some ⟨b,o,none⟩):=by exact rfl)(a:iY T.u t=some (.struct fields):=by exact rfl)(c:fields[i]? = some f:=by exact rfl)(k:iY T.i f.type=some (szf+1,byf,zf):=by exact rfl)(j:o+f.offset=o' := by conv=>lhs;whnf)(e:gD ops n s g=true:=by exact rfl):Rf T bs L ops n ⟨some d,.fieldAddr t x i,ty,pos,af,g⟩ s (.pointer (some ⟨b,o', none⟩)):=⟨fun w h=>.inl ⟨e,rfl,.inl (uI l (kJ T.kQ a) c (mE T.mW k) j)⟩⟩
theorem Rf.ld{b o i:Nat}{a:TypeId}{cs:List Value}{ud:TypeDesc}(j:ev n s x = .pointer (some ⟨b,o,none⟩):=by exact rfl)(c:iY T.u t=some ud:=by exact rfl)(f:j6 ud=false:=by exact rfl)(hi:L[i]? = some (blk b a cs):=by first|exact qG|exact qH|exact ny|exact nC|exact qI|exact qJ|exact qK|exact qL)(hv:cs[o]? = some v:=by exact rfl)(e:gD ops n s g=true:=by exact rfl):Rf T bs L ops n ⟨some d,.load t x,ty,pos,af,g⟩ s (v):=⟨fun w h=>.inl ⟨e,rfl,.inl (mD j (kJ T.kQ c) f (h.rM hi hv))⟩⟩
theorem Rf.vU  (b:ev n s x=v:=by conv=>lhs;whnf) (a:gD ops n s g=true:=by exact rfl):Rf T bs L ops n ⟨some d,.assign x,ty,pos,af,g⟩ s (v):=⟨fun w h=>.inl ⟨a,rfl,.inl (vV b)⟩⟩
theorem Rf.ex{i:Nat}{vs:Array Value}(b:ev n s x = .tuple vs:=by exact rfl)(hv:vs[i]? = some v:=by exact rfl)(a:gD ops n s g=true:=by exact rfl):Rf T bs L ops n ⟨some d,.extract x i,ty,pos,af,g⟩ s (v):=⟨fun w h=>.inl ⟨a,rfl,.inl (E9 b hv)⟩⟩
variable {N:Nat}
end
end Go.Sx
namespace Go.Sx
open Go
structure Nd where
 k0:Nat
 k1:Nat
 up:Nat
 flip:Bool
 key:Int
 size:Int
 first:Nat
 iL:Int
 total:Int
 deriving Inhabited
def Nd.cells(x:Nd):List Value:=[.int .i64 x.k0,.int .i64 x.k1,.int .i64 x.up,.bool x.flip,.int .i64 x.key,.int .i64 x.size,.int .i64 x.first,.int .i64 x.iL,.int .i64 x.total]
def jH(xs:List Nd)(i:Nat):Nat×Bool :=
 if (fJ xs i).up=0 then(0,false)else if (fJ xs (fJ xs i).up).k0=i then(0,true)else if (fJ xs (fJ xs i).up).k1=i then(1,true)else(0,false)
def kT(xs:List Nd)(i j:Nat):Bool:=decide ((fJ xs i).key<(fJ xs j).key\/(fJ xs i).key=(fJ xs j).key/\i<j)
def iU(xs:List Nd)(i s k:Nat):List Nd :=
 let ys:=if s=0 then fO xs i (fun x=>{ x with k0:=k })else fO xs i (fun x=>{ x with k1:=k })
 if k=0 then ys else fO ys k (fun x=>{ x with up:=i })
def jX(xs:List Nd)(i:Nat):List Nd :=
 if (fJ xs i).flip=true then
  let y0:=fO xs i (fun x=>{ x with flip:=false })
  let y1:=fO y0 i (fun x=>{ x with k0:=(fJ y0 i).k1 })
  let y2:=fO y1 i (fun x=>{ x with k1:=(fJ y0 i).k0 })
  let a:=if (fJ y2 i).k0=0 then y2 else fO y2 (fJ y2 i).k0 (fun x=>{ x with flip := !(fJ y2 (fJ y2 i).k0).flip })
  if (fJ y2 i).k1=0 then a else fO a (fJ y2 i).k1 (fun x=>{ x with flip := !(fJ a (fJ y2 i).k1).flip })
 else xs
structure gf (xs:List Nd):Prop where
 k0:∀ i,i<xs.length->(fJ xs i).k0<xs.length
 k1:∀ i,i<xs.length->(fJ xs i).k1<xs.length
 up:∀ i,i<xs.length->(fJ xs i).up<xs.length
 first:∀ i,i<xs.length->(fJ xs i).first<xs.length
 key:∀ i,i<xs.length->gV .i64 (fJ xs i).key
theorem gf.iN{xs:List Nd}{k:Nat}{f:Nd->Nd}(h:gf xs)(hk:k<xs.length)
 (a:∀ x:Nd,x.k0<xs.length->x.k1<xs.length->x.up<xs.length->x.first<xs.length->gV .i64 x.key->(f x).k0<xs.length/\(f x).k1<xs.length/\(f x).up<xs.length/\(f x).first<xs.length/\gV .i64 (f x).key):gf (fO xs k f):=by
 have key:∀ i,i<xs.length->(fJ (fO xs k f) i).k0<xs.length/\(fJ (fO xs k f) i).k1<xs.length/\(fJ (fO xs k f) i).up<xs.length/\(fJ (fO xs k f) i).first<xs.length/\gV .i64 (fJ (fO xs k f) i).key:=by
  intro i hi
  rw[ji hk]
  split
  . exact a _ (h.k0 k hk) (h.k1 k hk) (h.up k hk) (h.first k hk) (h.key k hk)
  . exact⟨h.k0 i hi,h.k1 i hi,h.up i hi,h.first i hi,h.key i hi⟩
 refine⟨fun i hi=>?_,fun i hi=>?_,fun i hi=>?_,fun i hi=>?_,fun i hi=>?_⟩<;>(rw[gB]at hi;try rw[gB])
 . exact(key i hi).1
 . exact(key i hi).2.1
 . exact(key i hi).2.2.1
 . exact(key i hi).2.2.2.1
 . exact(key i hi).2.2.2.2
end Go.Sx
namespace Go.Sx
open Go
inductive Tr where
 | nil:Tr
 | nd (l:Tr) (i:Nat) (r:Tr):Tr
namespace Tr
def root:Tr->Nat
 | .nil=>0
 | .nd _ i _=>i
def mem:Tr->List Nat
 | .nil=>[]
 | .nd l i r=>l.mem++i :: r.mem
end Tr
def jf(xs:List Nd)(d:Bool)(i:Nat):Nat:=bif d then(fJ xs i).k0 else(fJ xs i).k1
def oh(xs:List Nd)(L:List Nat):Int:=(L.map fun j=>1+(fJ xs j).iL).sum
def D1(xs:List Nd)(m:Nat)(L:List Nat):Prop:=m∈L/\∀ j∈L,j=m\/kT xs m j=true
structure pH (xs:List Nd) (i:Nat) (L:List Nat):Prop where
 size:(fJ xs i).size=(L.length:Int)
 total:(fJ xs i).total=IntKind.i64.wrap (oh xs L)
 first:D1 xs (fJ xs i).first L
def gR(xs:List Nd):Tr->Nat->Prop
 | .nil,_=>True
 | .nd l i r,p=>(i≠0/\i<xs.length)/\((fJ xs i).k0=l.root/\(fJ xs i).k1=r.root/\(fJ xs i).up=p)/\pH xs i (l.mem++i :: r.mem)/\gR xs l i/\gR xs r i
abbrev Cx:=List (Bool×Nat×Tr)
def me(d:Bool)(t:Tr)(g:Nat)(s:Tr):Tr:=bif d then .nd t g s else .nd s g t
def jV(d:Bool)(L:List Nat)(g:Nat)(s:Tr):List Nat:=bif d then L++g :: s.mem else s.mem++g :: L
def j5:Cx->Tr->Tr
 | [],t=>t
 | (d,g,s) :: c,t=>j5 c (me d t g s)
def lC:Cx->List Nat->List Nat
 | [],L=>L
 | (d,g,s) :: c,L=>lC c (jV d L g s)
def wM:Cx->Nat->Nat
 | [],p=>p
 | (_,g,_) :: _,_=>g
def jW:Cx->List Nat
 | []=>[]
 | (_,g,s) :: c=>g :: s.mem++jW c
def mz(xs:List Nd):Cx->Nat->List Nat->Nat->Prop
 | [],_,_,_=>True
 | (d,g,s) :: c,h,L,p=>(g≠0/\g<xs.length)/\(jf xs d g=h/\jf xs (!d) g=s.root/\(fJ xs g).up=wM c p)/\pH xs g (jV d L g s)/\gR xs s g/\mz xs c g (jV d L g s) p
theorem SC(d:Bool)(t:Tr)(g:Nat)(s:Tr):(me d t g s).root=g:=by cases d<;>rfl
theorem JU(d:Bool)(t:Tr)(g:Nat)(s:Tr):(me d t g s).mem=jV d t.mem g s:=by cases d<;>rfl
theorem pS:∀ (c:Cx) (t:Tr),(j5 c t).mem=lC c t.mem
 | [],t=>rfl
 | (d,g,s) :: c,t=>by rw[j5,pS c,JU,lC]
theorem ads{xs:List Nd}{d:Bool}{t s:Tr}{g p:Nat}:gR xs (me d t g s) p↔(g≠0/\g<xs.length)/\(jf xs d g=t.root/\jf xs (!d) g=s.root/\(fJ xs g).up=p)/\pH xs g (jV d t.mem g s)/\gR xs t g/\gR xs s g:=by
 cases d
 . simp only[me,cond_false,gR,jf,Bool.not_false,cond_true,jV]
   constructor
   . rintro⟨a,⟨b,c,e⟩,f,h,i⟩;exact⟨a,⟨c,b,e⟩,f,i,h⟩
   . rintro⟨a,⟨b,c,e⟩,f,h,i⟩;exact⟨a,⟨c,b,e⟩,f,i,h⟩
 . simp only[me,cond_true,gR,jf,Bool.not_true,cond_false,jV]
theorem yL{xs:List Nd}:∀ (c:Cx) (t:Tr) (p:Nat),gR xs (j5 c t) p↔gR xs t (wM c p)/\mz xs c t.root t.mem p
 | [],t,p=>by simp[j5,wM,mz]
 | (d,g,s) :: c,t,p=>by
  rw[j5,yL c,ads,SC,JU]
  simp only[wM,mz]
  constructor
  . rintro⟨⟨a,b,e,f,h⟩,i⟩;exact⟨f,a,b,e,h,i⟩
  . rintro⟨f,a,b,e,h,i⟩;exact⟨⟨a,b,e,f,h⟩,i⟩
structure KL (xs ys:List Nd):Prop where
 len:ys.length=xs.length
 key:∀ j,(fJ ys j).key=(fJ xs j).key
 iL:∀ j,(fJ ys j).iL=(fJ xs j).iL
theorem KL.refl(xs:List Nd):KL xs xs:=⟨rfl,fun _=>rfl,fun _=>rfl⟩
theorem KL.trans{xs ys zs:List Nd}(h:KL xs ys)(k:KL ys zs):KL xs zs:=⟨k.len.trans h.len,fun j=>(k.key j).trans (h.key j),fun j=>(k.iL j).trans (h.iL j)⟩
theorem KL.before{xs ys:List Nd}(h:KL xs ys)(i j:Nat):kT ys i j=kT xs i j:=by simp[kT,h.key]
theorem KL.GF{xs ys:List Nd}(h:KL xs ys)(L:List Nat):oh ys L=oh xs L:=by simp[oh,h.iL]
theorem KL.Jo{xs ys:List Nd}(h:KL xs ys){m:Nat}{L:List Nat}(k:D1 xs m L):D1 ys m L:=⟨k.1,fun j a=>by rw[h.before];exact k.2 j a⟩
theorem pH.to{xs ys:List Nd}{i:Nat}{L:List Nat}(h:pH xs i L)(k:KL xs ys)(hs:(fJ ys i).size=(fJ xs i).size)(b:(fJ ys i).total=(fJ xs i).total)(a:(fJ ys i).first=(fJ xs i).first):pH ys i L :=
 ⟨hs.trans h.size,by rw[b,h.total,k.GF],by rw[a];exact k.Jo h.first⟩
theorem gR.to{xs ys:List Nd}(k:KL xs ys):∀ {t:Tr} {p:Nat},gR xs t p->(∀ j∈t.mem,fJ ys j=fJ xs j)->gR ys t p
 | .nil,_,_,_=>trivial
 | .nd l i r,p,h,hs=>by
  obtain⟨⟨b,c⟩,⟨d,e,f⟩,g,m,n⟩:=h
  have hi:=hs i (by simp[Tr.mem])
  refine⟨⟨b,by rw[k.len];exact c⟩,⟨by rw[hi];exact d,by rw[hi];exact e,by rw[hi];exact f⟩,g.to k (by rw[hi]) (by rw[hi]) (by rw[hi]),gR.to k m fun j a=>hs j (by simp[Tr.mem,a]),gR.to k n fun j a=>hs j (by simp[Tr.mem,a])⟩
theorem gR.up{xs ys:List Nd}(k:KL xs ys){t:Tr}{p q:Nat}(h:gR xs t p)(hs:∀ j∈t.mem,j≠t.root->fJ ys j=fJ xs j)(a:fJ ys t.root={ fJ xs t.root with up:=q })(c:t.mem.Nodup):gR ys t q:=by
 cases t with
 | nil=>trivial
 | nd l i r =>
  obtain⟨⟨e,f⟩,⟨g,m,v⟩,n,o,s⟩:=h
  simp only[Tr.root]at a hs
  simp only[Tr.mem]at c hs
  rw[zr]at c
  obtain⟨n1,d,u⟩:=c
  rw[zw]at d
  refine⟨⟨e,by rw[k.len];exact f⟩,⟨by rw[a];exact g,by rw[a];exact m,by rw[a]⟩,n.to k (by rw[a]) (by rw[a]) (by rw[a]),gR.to k o fun j b=>hs j (by simp[b]) ?_,gR.to k s fun j b=>hs j (by simp[b]) ?_⟩
  . rintro rfl;exact u j b j s_ rfl
  . rintro rfl;exact d.1 b
theorem mz.to{xs ys:List Nd}(k:KL xs ys):∀ {c:Cx} {r p:Nat} {L:List Nat},mz xs c r L p->(∀ j∈jW c,fJ ys j=fJ xs j)->mz ys c r L p
 | [],_,_,_,_,_=>trivial
 | (d,g,s) :: c,r,p,L,h,hs=>by
  obtain⟨⟨i,l⟩,⟨e,f,m⟩,n,o,q⟩:=h
  have a:=hs g (by simp[jW])
  refine⟨⟨i,by rw[k.len];exact l⟩,⟨by simp only[jf,a]at e ⊢;exact e,by simp only[jf,a]at f ⊢;exact f,by rw[a];exact m⟩,n.to k (by rw[a]) (by rw[a]) (by rw[a]),gR.to k o fun j b=>hs j (by simp[jW,b]),mz.to k q fun j b=>hs j (by simp[jW,b])⟩
theorem mz.wo{xs ys:List Nd}(k:KL xs ys){d:Bool}{g r e p:Nat}{s:Tr}{c:Cx}{L:List Nat}(h:mz xs ((d,g,s) :: c) r L p)(hs:∀ j∈s.mem++jW c,fJ ys j=fJ xs j)
 (a:fJ ys g=bif d then { fJ xs g with k0:=e } else { fJ xs g with k1:=e }):mz ys ((d,g,s) :: c) e L p:=by
 obtain⟨⟨i,l⟩,⟨t,f,m⟩,n,o,q⟩:=h
 refine⟨⟨i,by rw[k.len];exact l⟩,⟨?_,?_,?_⟩,n.to k ?_ ?_ ?_,gR.to k o fun j b=>hs j (by simp[b]),mz.to k q fun j b=>hs j (by simp[b])⟩
 . cases d<;>simp[jf,a]
 . cases d<;>simp[jf,a]at f ⊢ <;> exact f
 all_goals cases d<;>simp[a]<;>exact m
theorem CZ:∀ {c:Cx} {L:List Nat} {j:Nat},j∈lC c L↔j∈L\/j∈jW c
 | [],L,j=>by simp[lC,jW]
 | (d,g,s) :: c,L,j=>by
  rw[lC,CZ (c:=c)]
  cases d<;>simp only[jV,jW,cond_true,cond_false,zp,zg]<;>simp only[or_assoc,or_left_comm,or_comm]
theorem C6:∀ {c:Cx} {L:List Nat},(lC c L).Nodup->L.Nodup/\(jW c).Nodup/\∀ j∈L,j∉jW c
 | [],L,h=>⟨h,by simp[jW],by simp[jW]⟩
 | (d,g,s) :: c,L,h=>by
  obtain⟨n,t,o⟩:=C6 (c:=c) h
  have key:L.Nodup/\s.mem.Nodup/\g∉L/\g∉s.mem/\∀ j∈L,j∉s.mem:=by
   cases d
   . simp only[jV,cond_false,zr,zw,zg]at n
     obtain⟨k1,⟨l,m⟩,i⟩:=n
     exact⟨m,k1,l,fun q=>i g q g (.inl rfl) rfl,fun j f hs=>i j hs j (.inr f) rfl⟩
   . simp only[jV,cond_true,zr,zw,zg]at n
     obtain⟨k1,⟨l,m⟩,i⟩:=n
     exact⟨k1,m,fun q=>i g q g (.inl rfl) rfl,l,fun j f hs=>i j f j (.inr hs) rfl⟩
  obtain⟨k1,l,m,i,u⟩:=key
  have r:∀ j,j∈jV d L g s↔j∈L\/j=g\/j∈s.mem:=fun j=>by cases d<;>simp only[jV,cond_true,cond_false,zp,zg,or_assoc,or_left_comm,or_comm]
  refine⟨k1,?_,fun j f k=>?_⟩
  . rw[jW,zr,zw]
    refine⟨⟨i,l⟩,t,fun a p b hb e=>?_⟩
    subst e
    rcases zg.1 p with rfl|p
    . exact o a ((r a).2 (.inr (.inl rfl))) hb
    . exact o a ((r a).2 (.inr (.inr p))) hb
  . rw[jW,zp,zg]at k
    rcases k with (rfl|k)|k
    . exact m f
    . exact u j f k
    . exact o j ((r j).2 (.inl f)) k
end Go.Sx
namespace Go.Sx
open Go
theorem aeP{l l' : List Int}(h:l.Perm l'):l.sum=l'.sum:=by
 induction h with
 | nil=>rfl
 | cons x _ c=>simp only[List.sum_cons,c]
 | swap x y l=>simp only[List.sum_cons];omega
 | trans _ _ a b=>exact a.trans b
theorem afo{xs:List Nd}{L L' : List Nat}(h:L.Perm L'):oh xs L=oh xs L' := aeP (h.map _)
theorem pH.perm{xs:List Nd}{i:Nat}{L L' : List Nat}(h:pH xs i L)(k:L.Perm L'):pH xs i L' := by
 refine⟨by rw[h.size,k.length_eq],?_,⟨k.mem_iff.1 h.first.1,fun j a=>h.first.2 j (k.mem_iff.2 a)⟩⟩
 rw[h.total,afo k]
theorem afn(xs:List Nd)(L M:List Nat):oh xs (L++M)=oh xs L+oh xs M:=by simp[oh]
theorem LG(x:Int):IntKind.i64.wrap x=if 9223372036854775808<=x%18446744073709551616 then x%18446744073709551616-18446744073709551616 else x%18446744073709551616:=by
 show (if (true&&decide (x%18446744073709551616≥9223372036854775808))=true then x%18446744073709551616-18446744073709551616 else x%18446744073709551616)=_
 simp
theorem Uj(x:Int):IntKind.i64.wrap x=(x+9223372036854775808)%18446744073709551616-9223372036854775808:=by
 rw[LG];split<;>omega
theorem age(a b:Int):IntKind.i64.wrap (IntKind.i64.wrap a+IntKind.i64.wrap b)=IntKind.i64.wrap (a+b):=by
 simp only[Uj];omega
theorem agf{x:Int}(h : -9223372036854775808<=x)(a : x<=9223372036854775807):IntKind.i64.wrap x=x:=by rw[Uj];omega
def lJ(xs:List Nd)(i k:Nat):List Nd :=
 if k=0 then xs else
  let y0:=fO xs i (fun x=>{ x with size:=IntKind.i64.wrap (x.size+(fJ xs k).size) })
  let y1:=fO y0 i (fun x=>{ x with total:=IntKind.i64.wrap (x.total+(fJ y0 k).total) })
  if kT y1 (fJ y1 k).first (fJ y1 i).first then fO y1 i (fun x=>{ x with first:=(fJ y1 k).first })else y1
def iH(xs:List Nd)(i:Nat):List Nd :=
 let y:=fO xs i (fun x=>{ x with size:=1,first:=i,total:=IntKind.i64.wrap (1+x.iL) })
 lJ (lJ y i (fJ xs i).k0) i (fJ xs i).k1
structure lR (xs ys:List Nd) (i:Nat):Prop where
 len:ys.length=xs.length
 other:∀ j,j≠i->fJ ys j=fJ xs j
 here:∃ s t f,fJ ys i={ fJ xs i with size:=s,total:=t,first:=f }
theorem lR.refl(xs:List Nd)(i:Nat):lR xs xs i:=⟨rfl,fun _ _=>rfl,_,_,_,rfl⟩
theorem lR.trans{xs ys zs:List Nd}{i:Nat}(h:lR xs ys i)(k:lR ys zs i):lR xs zs i:=by
 obtain⟨s,t,f,e⟩:=h.here
 obtain⟨c, t', b, e'⟩:=k.here
 exact⟨k.len.trans h.len,fun j a=>(k.other j a).trans (h.other j a),c, t', b, by rw[e', e]⟩
theorem lR.kl{xs ys:List Nd}{i:Nat}(h:lR xs ys i):KL xs ys:=by
 obtain⟨s,t,f,e⟩:=h.here
 refine⟨h.len,fun j=>?_,fun j=>?_⟩<;>(by_cases hj:j=i)
 . subst hj;rw[e]
 . rw[h.other j hj]
 . subst hj;rw[e]
 . rw[h.other j hj]
theorem lR.flip{xs ys:List Nd}{i:Nat}(h:lR xs ys i)(j:Nat):(fJ ys j).flip=(fJ xs j).flip:=by
 obtain⟨s,t,f,e⟩:=h.here
 by_cases hj:j=i
 . subst hj;rw[e]
 . rw[h.other j hj]
theorem Sp{xs:List Nd}{i k:Nat}{L M:List Nat}(hi:i<xs.length)(hk:k<xs.length)(h:pH xs i L)(v:k≠0->k≠i/\pH xs k M)(t:k=0->M=[])(z:L.length+M.length<=1000001) :
 lR xs (lJ xs i k) i/\pH (lJ xs i k) i (L++M):=by
 unfold lJ
 by_cases hk0:k=0
 . rw[if_pos hk0,t hk0,vw];exact⟨lR.refl _ _,h⟩
 . rw[if_neg hk0]
   obtain⟨p,hv⟩:=v hk0
   obtain⟨y0,f⟩:∃ y,y=fO xs i (fun x=>{ x with size:=IntKind.i64.wrap (x.size+(fJ xs k).size) }):=⟨_,rfl⟩
   obtain⟨y1,e1⟩:∃ y,y=fO y0 i (fun x=>{ x with total:=IntKind.i64.wrap (x.total+(fJ y0 k).total) }):=⟨_,rfl⟩
   simp only[<-f,<-e1]
   have l0:y0.length=xs.length:=by rw[f,gB]
   have r:y1.length=xs.length:=by rw[e1,gB,l0]
   have a0:fJ y0 i={ fJ xs i with size:=IntKind.i64.wrap ((fJ xs i).size+(fJ xs k).size) }:=by rw[f,jS hi]
   have b0:∀ j,j≠i->fJ y0 j=fJ xs j:=fun j d=>by rw[f,jQ (fun e=>d e.symm)]
   have a1:fJ y1 i={ fJ xs i with size:=IntKind.i64.wrap ((fJ xs i).size+(fJ xs k).size),total:=IntKind.i64.wrap ((fJ xs i).total+(fJ xs k).total) }:=by
    rw[e1,jS o_,a0,b0 k p]
   have b1:∀ j,j≠i->fJ y1 j=fJ xs j:=fun j d=>by rw[e1,jQ (fun e=>d e.symm),b0 j d]
   have l:lR xs y1 i:=⟨r,b1,_,_,_,a1⟩
   have hs:IntKind.i64.wrap ((fJ xs i).size+(fJ xs k).size)=((L++M).length:Int):=by
    rw[h.size,hv.size,agf o_ o_,zt];omega
   have q:IntKind.i64.wrap ((fJ xs i).total+(fJ xs k).total)=IntKind.i64.wrap (oh xs (L++M)):=by
    rw[h.total,hv.total,age,afn]
   have hb:∀ a b,kT y1 a b=kT xs a b:=l.kl.before
   have fk:(fJ y1 k).first=(fJ xs k).first:=by rw[b1 k p]
   have o:(fJ y1 i).first=(fJ xs i).first:=by rw[a1]
   have s:∀ a b c,kT xs a b=true->kT xs b c=true->kT xs a c=true:=by
    intro a b c m u
    simp only[kT,decide_eq_true_eq]at m u ⊢;omega
   have w:∀ a b,kT xs a b=false->a=b\/kT xs b a=true:=by
    intro a b m
    simp only[kT,decide_eq_true_eq,decide_eq_false_iff_not]at m ⊢;omega
   rw[fk,o,hb]
   cases hc:kT xs (fJ xs k).first (fJ xs i).first with
   | true =>
    rw[if_pos rfl]
    have g:fJ (fO y1 i (fun x=>{ x with first:=(fJ xs k).first })) i={ fJ xs i with size:=IntKind.i64.wrap ((fJ xs i).size+(fJ xs k).size),total:=IntKind.i64.wrap ((fJ xs i).total+(fJ xs k).total),first:=(fJ xs k).first }:=by
     rw[jS o_,a1]
    have n:lR xs (fO y1 i (fun x=>{ x with first:=(fJ xs k).first })) i:=⟨by rw[gB,r],fun j d=>by rw[jQ (fun e=>d e.symm),b1 j d],_,_,_,g⟩
    refine⟨n,⟨by rw[g];exact hs,by rw[g,n.kl.GF];exact q,?_⟩⟩
    rw[g]
    refine n.kl.Jo ⟨xo _ hv.first.1,fun j d=>?_⟩
    rcases zp.1 d with d|d
    . rcases h.first.2 j d with rfl|d
      . exact .inr hc
      . exact .inr (s _ _ _ hc d)
    . exact hv.first.2 j d
   | false =>
    rw[if_neg s_]
    refine⟨l,⟨by rw[a1];exact hs,by rw[a1,l.kl.GF];exact q,?_⟩⟩
    rw[o]
    refine l.kl.Jo ⟨xq _ h.first.1,fun j d=>?_⟩
    rcases zp.1 d with d|d
    . exact h.first.2 j d
    . rcases w _ _ hc with e|e
      . rw[<-e];exact hv.first.2 j d
      . rcases hv.first.2 j d with rfl|d
        . exact .inr e
        . exact .inr (s _ _ _ e d)
theorem gR.vals{xs:List Nd}{t:Tr}{p:Nat}(h:gR xs t p):t.root≠0->pH xs t.root t.mem:=by
 cases t with
 | nil=>intro h;exact absurd rfl h
 | nd l i r=>intro _;exact h.2.2.1
theorem gR.mZ{xs:List Nd}{t:Tr}{p:Nat}(h:gR xs t p):t.root≠0->t.root∈t.mem:=by
 cases t with
 | nil=>intro h;exact absurd rfl h
 | nd l i r=>intro _;simp[Tr.root,Tr.mem]
theorem gR.KG{xs:List Nd}{t:Tr}{p:Nat}(h:gR xs t p):t.root=0->t.mem=[]:=by
 cases t with
 | nil=>intro _;rfl
 | nd l i r=>intro e;exact absurd e h.1.1
theorem gR.Ba{xs:List Nd}{t:Tr}{p:Nat}(h:gR xs t p)(a:0<xs.length):t.root<xs.length:=by
 cases t with
 | nil=>exact a
 | nd l i r=>exact h.1.2
theorem gR.o5{xs:List Nd}:∀ {t:Tr} {p:Nat},gR xs t p->∀ j∈t.mem,j≠0/\j<xs.length
 | .nil,_,_,j,a=>by simp[Tr.mem]at a
 | .nd l i r,p,h,j,a=>by
  obtain⟨b,_,_,c,d⟩:=h
  simp only[Tr.mem,zp,zg]at a
  rcases a with a|rfl|a
  . exact gR.o5 c j a
  . exact b
  . exact gR.o5 d j a
theorem AZ{xs:List Nd}{i:Nat}{l r:Tr}(hi:i≠0/\i<xs.length)(z:gR xs l i)(B:gR xs r i)(w:(fJ xs i).k0=l.root)(h1:(fJ xs i).k1=r.root)(A:(l.mem++i :: r.mem).Nodup)(D:(l.mem++i :: r.mem).length<=1000000) :
 lR xs (iH xs i) i/\gR (iH xs i) (.nd l i r) (fJ xs i).up:=by
 have J:0<xs.length:=by omega
 rw[zr,zw]at A
 obtain⟨n1,⟨o,K⟩,G⟩:=A
 have p:i∉l.mem:=fun h=>G i h i s_ rfl
 simp only[zt,zh]at D
 unfold iH
 obtain⟨y,g⟩:∃ y,y=fO xs i (fun x=>{ x with size:=1,first:=i,total:=IntKind.i64.wrap (1+x.iL) }):=⟨_,rfl⟩
 simp only[<-g]
 have d:fJ y i={ fJ xs i with size:=1,first:=i,total:=IntKind.i64.wrap (1+(fJ xs i).iL) }:=by rw[g,jS hi.2]
 have F:y.length=xs.length:=by rw[g,gB]
 have by_:∀ j,j≠i->fJ y j=fJ xs j:=fun j a=>by rw[g,jQ (fun e=>a e.symm)]
 have q:lR xs y i:=⟨F,by_,_,_,_,d⟩
 have I:pH y i [i]:=⟨by rw[d];rfl,by rw[d,q.kl.GF];simp[oh],by rw[d];exact⟨s_,fun j a=>.inl (by simpa using a)⟩⟩
 have m : gR y l i:=z.to q.kl fun j a=>by_ j (fun e=>p (e▸a))
 have E : gR y r i:=B.to q.kl fun j a=>by_ j (fun e=>o (e▸a))
 rw[w,h1]
 obtain⟨b,H⟩:=Sp (xs:=y) (i:=i) (k:=l.root) (L:=[i]) (M:=l.mem) o_ (m.Ba o_) I (fun h=>⟨fun e=>p (e▸z.mZ h),m.vals h⟩) (m.KG) (by simp;omega)
 have n:=E.to b.kl fun j a=>b.other j (fun e=>o (e▸a))
 have C:=m.to b.kl fun j a=>b.other j (fun e=>p (e▸a))
 obtain⟨c,v2⟩:=Sp (xs:=lJ y i l.root) (i:=i) (k:=r.root) (L:=[i]++l.mem) (M:=r.mem) (by rw[b.len];omega) (n.Ba (by rw[b.len];omega)) H (fun h=>⟨fun e=>o (e▸B.mZ h),n.vals h⟩) (n.KG) (by simp;omega)
 have v:=(q.trans b).trans c
 obtain⟨s,t,f,u⟩:=v.here
 refine⟨v,⟨hi.1,by rw[v.len];exact hi.2⟩,⟨by rw[u];exact w,by rw[u];exact h1,by rw[u]⟩,v2.perm ?_,C.to c.kl fun j a=>c.other j (fun e=>p (e▸a)),n.to c.kl fun j a=>c.other j (fun e=>o (e▸a))⟩
 simp only[List.singleton_append,ox]
 exact um.symm
end Go.Sx
namespace Go.Sx
open Go
def iK(xs:List Nd)(i:Nat):List Nd :=
 let p:=(fJ xs i).up
 let g:=(fJ xs p).up
 let s:=(jH xs i).1
 let y1:=if (jH xs p).2=true then iU xs g (jH xs p).1 i else fO xs i (fun x=>{ x with up:=g })
 let y2:=iU y1 p s (if s=0 then(fJ y1 i).k1 else(fJ y1 i).k0)
 let a:=iU y2 i (1-s) p
 iH (iH a p) i
def qX(d:Bool)(k:Nat)(x:Nd):Nd:=bif d then { x with k0:=k } else { x with k1:=k }
def sd(d:Bool):Nat:=bif d then 0 else 1
theorem KU(d:Bool)(k:Nat)(x:Nd):(qX d k x).key=x.key:=by cases d<;>rfl
theorem KV(d:Bool)(k:Nat)(x:Nd):(qX d k x).iL=x.iL:=by cases d<;>rfl
theorem KT(d:Bool)(k:Nat)(x:Nd):(qX d k x).flip=x.flip:=by cases d<;>rfl
theorem aee(d:Bool)(k:Nat)(x:Nd):(qX d k x).up=x.up:=by cases d<;>rfl
theorem PT(xs:List Nd)(i:Nat)(d:Bool)(k:Nat):iU xs i (sd d) k=if k=0 then fO xs i (qX d k)else fO (fO xs i (qX d k)) k (fun x=>{ x with up:=i }):=by
 cases d<;>rfl
theorem Jd(xs:List Nd)(i:Nat)(d:Bool)(k:Nat):(iU xs i (sd d) k).length=xs.length:=by
 rw[PT];split<;>simp[gB]
theorem Jc{xs:List Nd}{i k:Nat}{d:Bool}(hi:i<xs.length)(hk:k<xs.length)(a:k≠i)(j:Nat) :
 fJ (iU xs i (sd d) k) j=if j=i then qX d k (fJ xs i)else if j=k/\k≠0 then { fJ xs k with up:=i } else fJ xs j:=by
 grind [PT,ji,gB,jQ]
theorem KW{xs:List Nd}{d:Bool}{p i:Nat}(b:(fJ xs i).up=p)(hp:p≠0)(hk:jf xs d p=i)(a:jf xs (!d) p≠i):jH xs i=(sd d,true):=by
 unfold jH
 rw[b,if_neg hp]
 cases d
 . simp only[jf,cond_false,Bool.not_false,cond_true]at hk a
   rw[if_neg a,if_pos hk];rfl
 . simp only[jf,cond_true]at hk
   rw[if_pos hk];rfl
theorem S0{xs:List Nd}{i p:Nat}(a:(fJ xs i).up=p)(h:p=0\/jf xs true p≠i/\jf xs false p≠i):jH xs i=(0,false):=by
 grind [jH,jf]
def qW(d:Bool)(a:Tr)(i:Nat)(b:Tr)(p:Nat)(s:Tr):Tr:=bif d then .nd a i (.nd b p s)else .nd (.nd s p a) i b
theorem KH(d:Bool)(a:Tr)(i:Nat)(b:Tr)(p:Nat)(s:Tr):(qW d a i b p s).mem=jV d (a.mem++i :: b.mem) p s:=by
 cases d<;>simp[qW,jV,Tr.mem]
theorem adN(d:Bool)(a:Tr)(i:Nat)(b:Tr)(p:Nat)(s:Tr):(qW d a i b p s).root=i:=by cases d<;>rfl
theorem Ks:∀ (c:Cx) (L:List Nat),L.length<=(lC c L).length
 | [],_=>zn _
 | (d,g,s) :: c,L=>k7 (by cases d<;>simp[jV]<;>omega) (Ks c _)
theorem Sq{xs:List Nd}{d:Bool}{i:Nat}{t s:Tr}(hi:i≠0/\i<xs.length)(e:gR xs t i)(hs:gR xs s i)(a:jf xs d i=t.root)(h1:jf xs (!d) i=s.root)(c:(jV d t.mem i s).Nodup)(b:(jV d t.mem i s).length<=1000000) :
 lR xs (iH xs i) i/\gR (iH xs i) (me d t i s) (fJ xs i).up:=by
 cases d
 . exact AZ hi hs e (by simpa[jf]using h1) (by simpa[jf]using a) c b
 . exact AZ hi e hs (by simpa[jf]using a) (by simpa[jf]using h1) c b
structure Ux (xs ys:List Nd) (S:List Nat):Prop where
 kl:KL xs ys
 other:∀ j,j∉S->fJ ys j=fJ xs j
 flip:∀ j,(fJ ys j).flip=(fJ xs j).flip
theorem mz.kD{xs ys:List Nd}(k:KL xs ys){c:Cx}{r a q:Nat}{L:List Nat}(h:mz xs c r L q)(hs:∀ d g s c', c=(d,g,s) :: c' -> (∀ j∈s.mem++jW c', fJ ys j=fJ xs j)/\fJ ys g=qX d a (fJ xs g)):mz ys c a L q:=by
 cases c with
 | nil=>trivial
 | cons f c' =>
  obtain⟨d,g,s⟩:=f
  obtain⟨b,e⟩:=hs d g s c' rfl
  exact h.wo k b e
theorem yM{xs:List Nd}{d:Bool}{p i q:Nat}{s a b:Tr}{c:Cx}(hR:gR xs (j5 ((d,p,s) :: c) (.nd a i b)) q)(hn:(lC ((d,p,s) :: c) (a.mem++i :: b.mem)).Nodup)
 (a4:xs.length<=1000001) (aj:(lC ((d,p,s) :: c) (a.mem++i :: b.mem)).length<=1000000)
 (hq:c=[]->q=0\/jf xs true q≠p/\jf xs false q≠p) :
 gR (iK xs i) (j5 c (qW d a i b p s)) q/\Ux xs (iK xs i) (lC ((d,p,s) :: c) (a.mem++i :: b.mem)):=by
 obtain⟨hT,hC⟩:=(yL _ _ _).1 hR
 obtain⟨⟨i0,il⟩,⟨av,aw,iu⟩,iv,ha,hb⟩:=hT
 simp only[wM]at iu
 obtain⟨⟨U,pl⟩,⟨pk,po,pu⟩,pv,hs,aa⟩:=hC
 simp only[Tr.root]at pk
 simp only[Tr.mem]at pv aa
 obtain⟨n1,n2,P⟩:=C6 hn
 simp only[jW,ox,zw,zr,zp,zg,not_or]at n1 n2 P
 obtain⟨H,ns,nc,aY⟩:=n2
 obtain⟨na,⟨ay,nb⟩,ai⟩:=n1
 have J:i≠p:=(P i s_).1
 have an:i∉s.mem:=(P i s_).2.1
 have ab:i∉jW c:=(P i s_).2.2
 have ak:i∉a.mem:=fun h=>ai i h i (.inl rfl) rfl
 have aW:s.root≠i:=fun e=>by
  by_cases h:s.root=0
  . exact i0 (e.symm.trans h)
  . exact an (e▸hs.mZ h)
 -- sides
 have aV:jH xs i=(sd d,true):=KW iu U pk (by rw[po];exact aW)
 -- the parent's parent
 obtain⟨g,R⟩:∃ g,(fJ xs p).up=g:=⟨_,rfl⟩
 have S:g=wM c q:=R.symm.trans pu
 -- the middle tree,and the outer one
 obtain⟨m,o,hm⟩:∃ m o:Tr,(m,o)=(bif d then(b,a)else(a,b)):=⟨_,_,rfl⟩
 have aK:gR xs m i/\gR xs o i/\jf xs (!d) i=m.root/\jf xs d i=o.root/\(∀ j,j∈m.mem\/j∈o.mem↔j∈a.mem\/j∈b.mem)/\i∉m.mem/\i∉o.mem/\m.mem.Nodup/\o.mem.Nodup/\∀ j∈m.mem,j∉o.mem:=by
  cases d<;>(simp only[cond_true,cond_false,Prod.mk.injEq]at hm;obtain⟨rfl,rfl⟩:=hm)
  . exact⟨ha,hb,by simpa[jf]using av,by simpa[jf]using aw,fun j=>Iff.rfl,ak,ay,na,nb,fun j n r=>ai j n j (.inr r) rfl⟩
  . exact⟨hb,ha,by simpa[jf]using aw,by simpa[jf]using av,fun j=>Or.comm,ay,ak,nb,na,fun j n r=>ai j r j (.inr n) rfl⟩
 obtain⟨G,aN,aq,aP,ao,am,aE,ad,a6,aL⟩:=aK
 have B:∀ j,j∈m.mem\/j∈o.mem->j≠p/\j∉s.mem/\j∉jW c:=fun j l=>by
  have:=P j (by rcases(ao j).1 l with h|h<;>simp[h])
  exact⟨this.1,this.2.1,this.2.2⟩
 have a5:m.root<xs.length:=G.Ba o_
 have ac:m.root≠i:=fun e=>am (e▸G.mZ o_)
 have ae:m.root≠p:=fun e=>(B m.root (.inl (G.mZ o_))).1 e
 -- the first step
 obtain⟨y1,F⟩:∃ y,y=(if (jH xs p).2=true then iU xs g (jH xs p).1 i else fO xs i (fun x=>{ x with up:=g })):=⟨_,rfl⟩
 have aX:y1.length=xs.length/\fJ y1 i={ fJ xs i with up:=g }/\(∀ j,j≠i->j∉jW c->fJ y1 j=fJ xs j)/\(∀ C v E c', c=(C, v, E) :: c' -> (∀ j,j≠i->j≠v -> fJ y1 j=fJ xs j)/\fJ y1 v = qX C i (fJ xs v))/\(c=[]->∀ j,j≠i->fJ y1 j=fJ xs j):=by
  cases c with
  | nil =>
   have ag:jH xs p=(0,false):=S0 (p:=q) (by rw[R,S];rfl) (hq rfl)
   rw[ag]at F
   simp only[Bool.false_eq_true,if_false]at F
   subst F
   refine⟨gB,jS il,fun j l _=>jQ (fun e=>l e.symm),?_,fun _ j l=>jQ (fun e=>l e.symm)⟩
   intro C v E c' e
   cases e
  | cons f c' =>
   obtain⟨C, v, E⟩:=f
   obtain⟨⟨g0,gl⟩,⟨gk,go,gu⟩,gv,gs,gc⟩:=aa
   simp only[jW,ox,zg,zp,not_or]at ab H
   have a7:p≠v := H.2.1
   have ag:jH xs p=(sd C, true):=KW (p:=v) (by rw[R,S];rfl) g0 gk (by
    rw[go]
    intro e
    have hr:E.root≠0:=by rw[e];exact U
    exact H.2.2.1 (e▸gs.mZ hr))
   rw[ag]at F
   simp only[if_true]at F
   have aD:g=v := S
   subst aD
   have al:i≠g:=ab.1
   subst F
   have Q:=Jc (xs:=xs) (d:=C) gl il al
   refine⟨Jd _ _ _ _,by rw[Q,if_neg al,if_pos ⟨rfl,i0⟩],fun j l aF=>?_,fun d2 g2 s2 c2 e=>?_,fun e=>by cases e⟩
   . rw[Q,if_neg (fun e=>aF (by simp[jW,e])),if_neg (fun e=>l e.1)]
   . cases e
     exact⟨fun j n r=>by rw[Q,if_neg r,if_neg (fun e=>n e.1)],by rw[Q,if_pos rfl]⟩
 obtain⟨l1,a1,o1,c1,e1⟩:=aX
 have az:p∉jW c:=H.2
 have aR:fJ y1 p=fJ xs p:=o1 p (fun e=>J e.symm) az
 have aG:(if sd d=0 then(fJ y1 i).k1 else(fJ y1 i).k0)=m.root:=by
  rw[a1]
  cases d
  . simp only[sd,cond_false,DM,if_false];simpa[jf]using aq
  . simp only[sd,cond_true,if_true];simpa[jf]using aq
 -- the second step
 obtain⟨y2,Y⟩:∃ y,y=iU y1 p (sd d) m.root:=⟨_,rfl⟩
 have ny:=Jc (xs:=y1) (i:=p) (k:=m.root) (d:=d) o_ o_ ae
 rw[<-Y]at ny
 have l2:y2.length=xs.length:=by rw[Y,Jd,l1]
 -- the third step
 obtain⟨u,Z⟩:∃ y,y=iU y2 i (sd (!d)) p:=⟨_,rfl⟩
 have nC:=Jc (xs:=y2) (i:=i) (k:=p) (d := !d) o_ o_ (fun e=>J e.symm)
 rw[<-Z]at nC
 have l3:u.length=xs.length:=by rw[Z,Jd,l2]
 have ar:iK xs i=iH (iH u p) i:=by
  have aU:1-sd d=sd (!d):=by cases d<;>rfl
  unfold iK
  simp only[aV,iu,R,<-F,aG,<-Y,aU,<-Z]
 -- the nodes before the refreshes
 have aZ:fJ y2 i={ fJ xs i with up:=g }:=by rw[ny,if_neg J,if_neg (fun e=>ac e.1.symm),a1]
 have a0:fJ y2 p=qX d m.root (fJ xs p):=by rw[ny,if_pos rfl,aR]
 have a2:fJ u i=qX (!d) p { fJ xs i with up:=g }:=by rw[nC,if_pos rfl,aZ]
 have X:fJ u p={ qX d m.root (fJ xs p)with up:=i }:=by rw[nC,if_neg (fun e=>J e.symm),if_pos ⟨rfl,U⟩,a0]
 have aA:m.root≠0->fJ u m.root={ fJ xs m.root with up:=p }:=fun h=>by
  rw[nC,if_neg ac,if_neg (fun e=>ae e.1),ny,if_neg ae,if_pos ⟨rfl,h⟩,o1 _ ac (B _ (.inl (G.mZ h))).2.2]
 have W:∀ j,j≠i->j≠p->(j≠m.root\/m.root=0)->fJ u j=fJ y1 j:=fun j n r w=>by
  rw[nC,if_neg n,if_neg (fun e=>r e.1),ny,if_neg r,if_neg (fun e=>by rcases w with w|w;exact w e.1;exact e.2 w)]
 have V:∀ j,j≠i->j≠p->(j≠m.root\/m.root=0)->j∉jW c->fJ u j=fJ xs j:=fun j n r w h4=>by rw[W j n r w,o1 j n h4]
 have M:∀ j,j∉m.mem->j≠m.root\/m.root=0:=fun j l=>by
  by_cases h:m.root=0
  . exact .inr h
  . exact .inl (fun e=>l (e▸G.mZ h))
 have ah:∀ j,(fJ u j).key=(fJ xs j).key/\(fJ u j).iL=(fJ xs j).iL/\(fJ u j).flip=(fJ xs j).flip:=by
  have a3:∀ j,(fJ y1 j).key=(fJ xs j).key/\(fJ y1 j).iL=(fJ xs j).iL/\(fJ y1 j).flip=(fJ xs j).flip:=by
   intro j
   by_cases n:j=i
   . subst n;rw[a1];exact⟨rfl,rfl,rfl⟩
   . cases hc:c with
     | nil=>rw[e1 hc j n];exact⟨rfl,rfl,rfl⟩
     | cons f c' =>
      obtain⟨C, v, E⟩:=f
      grind [KU,KV,KT]
  intro j
  by_cases n:j=i
  . grind [KU,KV,KT]
  . by_cases r:j=p
    . subst r;rw[X];exact⟨KU _ _ _,KV _ _ _,KT _ _ _⟩
    . by_cases w:j=m.root/\m.root≠0
      . obtain⟨rfl,w⟩:=w;rw[aA w];exact⟨rfl,rfl,rfl⟩
      . rw[W j n r (by by_cases h:m.root=0;exact .inr h;exact .inl (fun e=>w ⟨e,h⟩))];exact a3 j
 have O:KL xs u:=⟨l3,fun j=>(ah j).1,fun j=>(ah j).2.1⟩
 -- the trees before the refreshes
 have aJ:gR u m p:=by
  cases m with
  | nil=>trivial
  | nd ml mi mr =>
   refine G.up O (fun j l hr=>?_) (aA G.1.1) ad
   obtain⟨n,r,w⟩:=B j (.inl l)
   exact V j (fun e=>am (e▸l)) n (.inl hr) w
 have af:∀ j∈s.mem,j∉m.mem:=fun j l hm=>(B j (.inl hm)).2.1 l
 have aT:gR u s p:=hs.to O fun j l=>V j (fun e=>an (e▸l)) (fun e=>H.1 (e▸l)) (M j (af j l)) (fun h9=>aY j l j h9 rfl)
 have aO:gR u o i:=aN.to O fun j l=>V j (fun e=>aE (e▸l)) (B j (.inr l)).1 (M j (fun h=>aL j h l)) (B j (.inr l)).2.2
 have I:∀ j∈jW c,j≠i/\j≠p/\j∉m.mem:=fun j l=>⟨fun e=>ab (e▸l),fun e=>az (e▸l),fun h=>(B j (.inl h)).2.2 l⟩
 have aC:mz u c i (jV d (a.mem++i :: b.mem) p s) q:=by
  refine aa.kD O fun C v E c' e=>?_
  obtain⟨k1,k2⟩:=c1 C v E c' e
  subst e
  simp only[jW,ox,zw,zp,not_or]at nc I
  refine⟨fun j l=>?_,?_⟩
  . have K : j∈E.mem\/j∈jW c' := by simpa using l
    have h:=I j (by simp only[zg,zp];exact .inr K)
    rw[W j h.1 h.2.1 (M j h.2.2),k1 j h.1]
    rintro rfl
    rcases K with h' | h'
    . exact nc.1.1 h'
    . exact nc.1.2 h'
  . have h:=I v s_
    rw[W v h.1 h.2.1 (M v h.2.2),k2]
 -- the parent is refreshed
 have aI:(jV d m.mem p s).length<=1000000:=by
  refine k7 ?_ aj
  refine k7 ?_ (Ks c (jV d (a.mem++i :: b.mem) p s))
  cases d<;>(simp only[cond_true,cond_false,Prod.mk.injEq]at hm;obtain⟨rfl,rfl⟩:=hm)<;>simp[jV]<;>omega
 have aH:(jV d (a.mem++i :: b.mem) p s).length<=1000000:=k7 (Ks c _) aj
 have aM:(jV d m.mem p s).Nodup:=by
  cases d
  . simp only[jV,cond_false,zr,zw]
    exact⟨ns,⟨fun h=>(B p (.inl h)).1 rfl,ad⟩,fun x N y A e=>by
     subst e
     rcases zg.1 A with rfl|A
     . exact H.1 N
     . exact af x N A⟩
  . simp only[jV,cond_true,zr,zw]
    exact⟨ad,⟨H.1,ns⟩,fun x N y A e=>by
     subst e
     rcases zg.1 A with rfl|A
     . exact(B _ (.inl N)).1 rfl
     . exact af x A N⟩
 obtain⟨D,hz⟩:=Sq (xs:=u) (d:=d) (i:=p) (t:=m) (s:=s) ⟨U,o_⟩ aJ aT (by rw[jf,X];cases d<;>rfl) (by rw[jf,X,<-po];cases d<;>rfl) aM aI
 rw[show (fJ u p).up=i by rw[X]]at hz
 obtain⟨z,ez⟩:∃ z,z=iH u p:=⟨_,rfl⟩
 rw[<-ez]at D hz ar
 have lz:z.length=xs.length:=by rw[D.len,l3]
 have zi:fJ z i=qX (!d) p { fJ xs i with up:=g }:=by rw[D.other i J,a2]
 have aQ:gR z o i:=aO.to D.kl fun j l=>D.other j (B j (.inr l)).1
 have aS:(me d m p s).root=p:=SC _ _ _ _
 have au:me (!d) (me d m p s) i o=qW d a i b p s:=by
  cases d<;>(simp only[cond_true,cond_false,Prod.mk.injEq]at hm;obtain⟨rfl,rfl⟩:=hm)<;>rfl
 have ap:jV (!d) (me d m p s).mem i o=jV d (a.mem++i :: b.mem) p s:=by rw[<-JU,au,KH]
 have aB:(jV d (a.mem++i :: b.mem) p s).Nodup:=(C6 (c:=c) hn).1
 obtain⟨T,A⟩:=Sq (xs:=z) (d := !d) (i:=i) (t:=me d m p s) (s:=o) ⟨i0,o_⟩ hz aQ (by rw[jf,zi,aS];cases d<;>rfl) (by rw[jf,zi,<-aP];cases d<;>rfl) (by rw[ap];exact aB) (by rw[ap];exact aH)
 rw[<-ar]at T A
 rw[au,show (fJ z i).up=g by rw[zi,aee]]at A
 have o2:∀ j,j≠i->j≠p->fJ (iK xs i) j=fJ u j:=fun j n r=>by rw[T.other j n,D.other j r]
 have ax : KL u (iK xs i):=D.kl.trans T.kl
 refine⟨(yL _ _ _).2 ⟨by rw[<-S];exact A,?_⟩,O.trans ax, fun j l=>?_,fun j=>?_⟩
 . rw[adN,KH]
   exact aC.to ax fun j l=>o2 j (I j l).1 (I j l).2.1
 . have K : j∉jV d (a.mem++i :: b.mem) p s/\j∉jW c:=by
    have:=mt (CZ (c:=c)).2 l
    simpa[not_or]using this
   have L:j≠i/\j≠p/\j∉m.mem:=by
    have n:=K.1
    have r:¬ (j∈a.mem\/j∈b.mem)/\j≠i/\j≠p:=by
     cases d<;>simp only[jV,cond_true,cond_false,zp,zg,not_or]at n<;>exact⟨by simp[n],by simp[n],by simp[n]⟩
    exact⟨r.2.1,r.2.2,fun h=>r.1 ((ao j).1 (.inl h))⟩
   rw[o2 j L.1 L.2.1,V j L.1 L.2.1 (M j L.2.2) K.2]
 . rw[T.flip,D.flip,(ah j).2.2]
end Go.Sx
namespace Go.Sx
open Go
def gm(xs:List Nd):Bool->Tr->List Nat
 | _,.nil=>[]
 | φ,.nd l i r=>bif (xor φ (fJ xs i).flip)then gm xs (xor φ (fJ xs i).flip) r++i :: gm xs (xor φ (fJ xs i).flip) l else gm xs (xor φ (fJ xs i).flip) l++i :: gm xs (xor φ (fJ xs i).flip) r
theorem qZ{xs ys:List Nd}:∀ {t:Tr} {φ:Bool},(∀ j∈t.mem,(fJ ys j).flip=(fJ xs j).flip)->gm ys φ t=gm xs φ t
 | .nil,_,_=>rfl
 | .nd l i r,φ,h=>by
  simp only[gm,h i (by simp[Tr.mem])]
  rw[qZ (t:=l) fun j a=>h j (by simp[Tr.mem,a]),qZ (t:=r) fun j a=>h j (by simp[Tr.mem,a])]
theorem S5{xs ys:List Nd}{l r:Tr}{i:Nat}{φ:Bool}(hi:(fJ ys i).flip = !(fJ xs i).flip)(h:∀ j∈l.mem++r.mem,(fJ ys j).flip=(fJ xs j).flip):gm ys φ (.nd l i r)=gm xs (!φ) (.nd l i r):=by
 have e:xor φ (!(fJ xs i).flip)=xor (!φ) (fJ xs i).flip:=by cases φ<;>cases (fJ xs i).flip<;>rfl
 simp only[gm,hi,e]
 rw[qZ (t:=l) fun j a=>h j (by simp[a]),qZ (t:=r) fun j a=>h j (by simp[a])]
theorem ni(xs:List Nd):∀ (φ:Bool) (t:Tr),(gm xs φ t).Perm t.mem
 | _,.nil=>.nil
 | φ,.nd l i r=>by
  have a:=ni xs (xor φ (fJ xs i).flip) l
  have b:=ni xs (xor φ (fJ xs i).flip) r
  simp only[gm,Tr.mem]
  generalize xor φ (fJ xs i).flip=ψ at a b ⊢
  cases ψ with
  | false =>
   simp only[cond_false]
   exact(a.append_right _).trans (List.Perm.append_left _ (b.cons i)) |>.trans (.refl _)
  | true =>
   simp only[cond_true]
   exact((b.append_right _).trans (List.Perm.append_left _ (a.cons i))).trans (rz.trans (by simp only[ox];exact um.symm))
theorem aeE{xs ys:List Nd}{d:Bool}{t t' s:Tr}{g:Nat}(b:∀ ψ,gm ys ψ t' = gm xs ψ t)(h:∀ j∈g :: s.mem,(fJ ys j).flip=(fJ xs j).flip)(φ:Bool):gm ys φ (me d t' g s)=gm xs φ (me d t g s):=by
 have hs:∀ ψ,gm ys ψ s=gm xs ψ s:=fun ψ=>qZ fun j a=>h j (by simp[a])
 cases d<;>simp only[me,cond_true,cond_false,gm,h g s_,b,hs]
theorem KX{xs ys:List Nd}:∀ {c:Cx} {t t' : Tr},(∀ ψ,gm ys ψ t' = gm xs ψ t)->(∀ j∈jW c,(fJ ys j).flip=(fJ xs j).flip)->∀ φ,gm ys φ (j5 c t')=gm xs φ (j5 c t)
 | [],_,_,h,_,φ=>h φ
 | (d,g,s) :: c,t,t', h,hc,φ=>by
  simp only[j5]
  exact KX (c:=c) (fun ψ=>aeE h (fun j a=>hc j (by simp only[jW,zp];exact .inl a)) ψ) (fun j a=>hc j (by simp only[jW,zp];exact .inr a)) φ
theorem aeF{xs:List Nd}{d:Bool}{a b s:Tr}{i p:Nat}(hi:(fJ xs i).flip=false)(hp:(fJ xs p).flip=false)(φ:Bool):gm xs φ (qW d a i b p s)=gm xs φ (me d (.nd a i b) p s):=by
 cases d<;>cases φ<;>simp[qW,me,gm,hi,hp]
theorem gR.u6{xs ys:List Nd}(w:ys.length=xs.length):∀ {t:Tr} {p:Nat},gR xs t p->(∀ j∈t.mem,∃ f,fJ ys j={ fJ xs j with flip:=f })->gR ys t p:=by
 have key:∀ {t:Tr} {p:Nat} (L:List Nat),gR xs t p->(∀ j∈t.mem,∃ f,fJ ys j={ fJ xs j with flip:=f })->gR ys t p:=by
  intro t
  induction t with
  | nil=>intro p L _ _;trivial
  | nd l i r q s =>
   intro p L h hs
   obtain⟨⟨d,v⟩,⟨g,k,m⟩,b,n,o⟩:=h
   obtain⟨f,hi⟩:=hs i (by simp[Tr.mem])
   have c:∀ j∈l.mem++i :: r.mem,(fJ ys j).key=(fJ xs j).key/\(fJ ys j).iL=(fJ xs j).iL:=fun j a=>by
    obtain⟨u, e⟩:=hs j a
    rw[e];exact⟨rfl,rfl⟩
   refine⟨⟨d,o_⟩,⟨by rw[hi];exact g,by rw[hi];exact k,by rw[hi];exact m⟩,⟨by rw[hi];exact b.size,?_,?_⟩,q L n fun j a=>hs j (by simp[Tr.mem,a]),s L o fun j a=>hs j (by simp[Tr.mem,a])⟩
   . rw[hi,show oh ys (l.mem++i :: r.mem)=oh xs (l.mem++i :: r.mem) from congrArg List.sum (zK fun j a=>by rw[(c j a).2])]
     exact b.total
   . rw[hi]
     refine⟨b.first.1,fun j a=>?_⟩
     rcases b.first.2 j a with e|e
     . exact .inl e
     . refine .inr ?_
       rw[<-e]
       simp only[kT,(c j a).1,(c _ b.first.1).1]
 intro t p h hs
 exact key [] h hs
theorem Ku{xs:List Nd}{l r:Tr}{i p:Nat}(h:gR xs (.nd l i r) p)(I:(Tr.nd l i r).mem.Nodup) :
 ∃ l' A, ((l' = l/\A = r)\/(l' = r/\A = l))/\gR (jX xs i) (.nd l' i A) p/\(fJ (jX xs i) i).flip=false/\KL xs (jX xs i)/\(∀ j,j∉(Tr.nd l i r).mem->fJ (jX xs i) j=fJ xs j)/\∀ φ,gm (jX xs i) φ (.nd l' i A)=gm xs φ (.nd l i r):=by
 cases hf:(fJ xs i).flip with
 | false =>
  have e:jX xs i=xs:=by unfold jX;rw[hf];rfl
  rw[e]
  exact⟨l,r,.inl ⟨rfl,rfl⟩,h,hf,KL.refl _,fun _ _=>rfl,fun _=>rfl⟩
 | true =>
  obtain⟨⟨i0,Z⟩,⟨k0,k1,up⟩,v,m,n⟩:=h
  simp only[Tr.mem]at I
  rw[zr,zw]at I
  obtain⟨n1,⟨K,n3⟩,P⟩:=I
  have L:i∉l.mem:=fun h=>P i h i s_ rfl
  have H:∀ j∈l.mem,j∉r.mem:=fun j w R=>P j w j (by simp[R]) rfl
  have G:l.root≠i:=fun e=>L (e▸m.mZ o_)
  have O:r.root≠i:=fun e=>K (e▸n.mZ o_)
  have ab:=m.Ba (show 0<xs.length by omega)
  have ac:=n.Ba (show 0<xs.length by omega)
  have X:l.root≠0->l.root≠r.root:=fun d e=>H _ (m.mZ d) (e▸n.mZ (e▸d))
  obtain⟨ys,B⟩:∃ ys,ys=jX xs i:=⟨_,rfl⟩
  have F:ys.length=xs.length:=by
   rw[B];unfold jX;rw[if_pos hf];simp only;split<;>split<;>simp[gB]
  have T:fJ ys i={ fJ xs i with flip:=false,k0:=r.root,k1:=l.root }/\(∀ j,j≠i->fJ ys j=if (j=l.root\/j=r.root)/\j≠0 then { fJ xs j with flip := !(fJ xs j).flip } else fJ xs j):=by
   obtain⟨y0,s⟩:∃ y,y=fO xs i (fun x=>{ x with flip:=false }):=⟨_,rfl⟩
   obtain⟨y1,e1⟩:∃ y,y=fO y0 i (fun x=>{ x with k0:=(fJ y0 i).k1 }):=⟨_,rfl⟩
   obtain⟨y2,u⟩:∃ y,y=fO y1 i (fun x=>{ x with k1:=(fJ y0 i).k0 }):=⟨_,rfl⟩
   have l0:y0.length=xs.length:=by rw[s,gB]
   have l1:y1.length=xs.length:=by rw[e1,gB,l0]
   have l2:y2.length=xs.length:=by rw[u,gB,l1]
   have a0:fJ y0 i={ fJ xs i with flip:=false }:=by rw[s,jS Z]
   have a2:fJ y2 i={ fJ xs i with flip:=false,k0:=r.root,k1:=l.root }:=by
    rw[u,jS o_,e1,jS o_,a0,<-k0,<-k1]
   have b2:∀ j,j≠i->fJ y2 j=fJ xs j:=fun j c=>by
    rw[u,jQ (fun e=>c e.symm),e1,jQ (fun e=>c e.symm),s,jQ (fun e=>c e.symm)]
   have hp:jX xs i=(let M:=if (fJ y2 i).k0=0 then y2 else fO y2 (fJ y2 i).k0 (fun x=>{ x with flip := !(fJ y2 (fJ y2 i).k0).flip });if (fJ y2 i).k1=0 then M else fO M (fJ y2 i).k1 (fun x=>{ x with flip := !(fJ M (fJ y2 i).k1).flip })):=by
    unfold jX;rw[if_pos hf];simp only[<-s,<-e1,<-u]
   rw[B,hp]
   simp only[a2]
   by_cases hr0:r.root=0
   . by_cases hl0:l.root=0
     . simp only[hr0,hl0,if_true]
       refine⟨by rw[a2,hr0,hl0],fun j c=>?_⟩
       rw[b2 j c,if_neg (by rintro⟨e|e,d⟩<;>exact d e)]
     . simp only[hr0,if_true,if_neg hl0]
       refine⟨by rw[jQ G,a2,hr0],fun j c=>?_⟩
       rw[ji o_]
       by_cases e:l.root=j
       . subst e;rw[if_pos rfl,if_pos ⟨.inl rfl,hl0⟩,b2 _ c]
       . rw[if_neg e,if_neg (by rintro⟨e' | e', d⟩;exact e e'.symm;exact d e'),b2 j c]
   . have aa:fJ y2 l.root=fJ xs l.root:=b2 _ G
     by_cases hl0:l.root=0
     . simp only[hl0,if_true,if_neg hr0]
       refine⟨by rw[jQ O,a2,hl0],fun j c=>?_⟩
       rw[ji o_]
       by_cases e:r.root=j
       . subst e;rw[if_pos rfl,if_pos ⟨.inr rfl,hr0⟩,b2 _ c]
       . rw[if_neg e,if_neg (by rintro⟨e' | e', d⟩;exact d e'; exact e e'.symm),b2 j c]
     . simp only[if_neg hl0,if_neg hr0]
       refine⟨by rw[jQ G,jQ O,a2],fun j c=>?_⟩
       rw[ji (by rw[gB];omega)]
       by_cases e:l.root=j
       . subst e;rw[if_pos rfl,if_pos ⟨.inl rfl,hl0⟩,jQ (fun e=>X hl0 e.symm),b2 _ c]
       . rw[if_neg e,ji o_]
         by_cases e' : r.root=j
         . subst e'; rw[if_pos rfl,if_pos ⟨.inr rfl,hr0⟩,b2 _ c]
         . rw[if_neg e', if_neg (by rintro⟨q|q,d⟩;exact e q.symm;exact e' q.symm),b2 j c]
  obtain⟨g,o⟩:=T
  have z:∀ j,j≠i->∃ f,fJ ys j={ fJ xs j with flip:=f }:=fun j c=>by
   rw[o j c];split
   . exact⟨_,rfl⟩
   . exact⟨(fJ xs j).flip,rfl⟩
  have kl:KL xs ys:=by
   refine⟨F,fun j=>?_,fun j=>?_⟩<;>(by_cases c:j=i)
   . subst c;rw[g]
   . obtain⟨f,e⟩:=z j c;rw[e]
   . subst c;rw[g]
   . obtain⟨f,e⟩:=z j c;rw[e]
  have W : gR ys l i:=m.u6 F fun j c=>z j (fun e=>L (e▸c))
  have J : gR ys r i:=n.u6 F fun j c=>z j (fun e=>K (e▸c))
  rw[<-B]
  have Q:∀ (t:Tr),(t=l\/t=r)->gR xs t i->t.mem.Nodup->(∀ j∈t.mem,j≠i)->(∀ j∈t.mem,j≠t.root->j≠l.root/\j≠r.root)->∀ φ,gm ys φ t=gm xs (!φ) t:=by
   intro t Y S D C N φ
   cases t with
   | nil=>rfl
   | nd a k b =>
    simp only[Tr.mem]at D C N
    rw[zr,zw]at D
    obtain⟨m1,⟨m2,m3⟩,m4⟩:=D
    refine S5 ?_ fun j c=>?_
    . rw[o k (C k s_),if_pos ⟨by rcases Y with e|e<;>rw[<-e]<;>simp[Tr.root],S.1.1⟩]
    . have E : j∈a.mem\/j∈b.mem:=by simpa using c
      have V:j≠k:=by rintro rfl;rcases E with h|h;exact m4 j h j s_ rfl;exact m2 h
      have w:=N j (by simp only[zp,zg];rcases E with h|h<;>simp[h]) V
      rw[o j (C j (by simp only[zp,zg];rcases E with h|h<;>simp[h])),if_neg (by rintro⟨e|e,_⟩;exact w.1 e;exact w.2 e)]
  have sl:=Q l (.inl rfl) m n1 (fun j c e=>L (e▸c)) (fun j c U=>⟨U,fun e=>by
   by_cases d:r.root=0
   . exact(m.o5 j c).1 (e.trans d)
   . exact H j c (e▸n.mZ d)⟩)
  have sr:=Q r (.inr rfl) n n3 (fun j c e=>K (e▸c)) (fun j c J => ⟨fun e=>by
   by_cases d:l.root=0
   . exact(n.o5 j c).1 (e.trans d)
   . exact H j (e▸m.mZ d) c,J⟩)
  refine⟨r,l,.inr ⟨rfl,rfl⟩,⟨⟨i0,o_⟩,⟨by rw[g],by rw[g],by rw[g];exact up⟩,?_,J, W⟩,by rw[g],kl,fun j c=>?_,fun φ=>?_⟩
  . have v' : pH ys i (l.mem++i :: r.mem):=v.to kl (by rw[g]) (by rw[g]) (by rw[g])
    exact v'.perm (rz.trans (by simp only[ox];exact um.symm))
  . simp only[Tr.mem,zp,zg,not_or]at c
    rw[o j c.2.1,if_neg]
    rintro⟨e|e,d⟩
    . exact c.1 (e▸m.mZ (e▸d))
    . exact c.2.2 (e▸n.mZ (e▸d))
  . simp only[gm,hf,g,sl,sr]
    cases φ<;>simp
theorem mz.perm{xs:List Nd}:∀ {c:Cx} {r q:Nat} {L M:List Nat},mz xs c r L q->L.Perm M->mz xs c r M q
 | [],_,_,_,_,_,_=>trivial
 | (d,g,s) :: c,r,q,L,M,h,hp=>by
  obtain⟨b,e,f,i,j⟩:=h
  have a:(jV d L g s).Perm (jV d M g s):=by
   cases d
   . exact List.Perm.append_left _ (hp.cons g)
   . exact hp.append_right _
  exact⟨b,e,f.perm a,i,mz.perm j a⟩
theorem RZ:∀ {c:Cx} {L M:List Nat},L.Perm M->(lC c L).Perm (lC c M)
 | [],_,_,h=>h
 | (d,g,s) :: c,L,M,h=>by
  refine RZ (c:=c) ?_
  cases d
  . exact List.Perm.append_left _ (h.cons g)
  . exact h.append_right _
theorem JV:∀ {c:Cx} {f:Bool×Nat×Tr},f∈c->f.2.1∈jW c
 | [],_,h=>by simp at h
 | (d,g,s) :: c,f,h=>by
  simp only[jW,zp,zg]
  rcases zg.1 h with rfl|h
  . exact .inl (.inl rfl)
  . exact .inr (JV h)
end Go.Sx
namespace Go.Sx
open Go
theorem Kt:∀ (c c' : Cx) (t:Tr),j5 (c++c') t=j5 c' (j5 c t)
 | [],_,_=>rfl
 | (d,g,s) :: c,c', t=>by simp only[ox,j5];exact Kt c c' _
theorem FE{i:Nat}:∀ {t:Tr},i∈t.mem->∃ c a b,t=j5 c (.nd a i b)
 | .nil,h=>by simp[Tr.mem]at h
 | .nd l j r,h=>by
  simp only[Tr.mem,zp,zg]at h
  rcases h with h|rfl|h
  . obtain⟨c,a,b,e⟩:=FE h
    exact⟨c++[(true,j,r)],a,b,by rw[Kt,<-e];rfl⟩
  . exact⟨[],l,r,rfl⟩
  . obtain⟨c,a,b,e⟩:=FE h
    exact⟨c++[(false,j,l)],a,b,by rw[Kt,<-e];rfl⟩
def jo(c:Cx)(i:Nat):List Nat:=i :: c.map (fun f=>f.2.1)
def Way(i:Nat):Tr->List Nat->Prop
 | .nil,_=>False
 | .nd l j r,w=>(j=i/\w=[i])\/∃ w', w=j :: w' /\ (Way i l w' \/ Way i r w')
theorem T7{i:Nat}:∀ {c:Cx} {t:Tr} {w:List Nat},Way i t w->Way i (j5 c t) ((c.map (fun f=>f.2.1)).reverse++w)
 | [],_,_,h=>h
 | (d,g,s) :: c,t,w,h=>by
  have:Way i (me d t g s) (g :: w):=by cases d<;>simp only[me,cond_true,cond_false,Way];exact .inr ⟨w,rfl,.inr h⟩;exact .inr ⟨w,rfl,.inl h⟩
  have:=T7 (c:=c) this
  simpa[j5]using this
theorem afX(c:Cx)(a:Tr)(i:Nat)(b:Tr):Way i (j5 c (.nd a i b)) (jo c i).reverse:=by
 have:=T7 (c:=c) (t:=.nd a i b) (w:=[i]) (.inl ⟨rfl,rfl⟩)
 simpa[jo]using this
structure At (xs:List Nd) (c:Cx) (j:Nat) (L:List Nat) (q:Nat):Prop where
 rep:mz xs c j L q
 up:(fJ xs j).up=wM c q
 mem:j∈L
 nodup:(lC c L).Nodup
 ne:j≠0
 lt:j<xs.length
def Out(xs:List Nd)(q:Nat)(L:List Nat):Prop:=q=0\/jf xs true q∉L/\jf xs false q∉L/\q∉L
theorem At.start{xs:List Nd}{c:Cx}{a b:Tr}{i q:Nat}(h:gR xs (j5 c (.nd a i b)) q)(f:(j5 c (.nd a i b)).mem.Nodup):At xs c i (Tr.nd a i b).mem q:=by
 obtain⟨d,e⟩:=(yL _ _ _).1 h
 exact⟨e,d.2.1.2.2,by simp[Tr.mem],by rw[<-pS];exact f,d.1.1,d.1.2⟩
theorem At.step{xs:List Nd}{d:Bool}{g:Nat}{s:Tr}{c:Cx}{j q:Nat}{L:List Nat}(h:At xs ((d,g,s) :: c) j L q):jH xs j=(sd d,true)/\(fJ xs j).up=g/\At xs c g (jV d L g s) q:=by
 obtain⟨⟨a,k⟩,⟨i,go,m⟩,t,l,f⟩:=h.rep
 have b:=h.nodup
 obtain⟨n1,u,r⟩:=C6 b
 have o:s.root≠j:=fun e=>by
  have n:s.root≠0:=by rw[e];exact h.ne
  exact r j h.mem (by simp only[jW,zp,zg];exact .inl (.inr (e▸l.mZ n)))
 refine⟨KW (p:=g) h.up a i (by rw[go];exact o),h.up,f,m,by cases d<;>simp[jV],b,a,k⟩
theorem At.stop{xs:List Nd}{j q:Nat}{L:List Nat}(h:At xs [] j L q)(c:Out xs q L):jH xs j=(0,false) :=
 S0 h.up (by
  rcases c with e|⟨a,b,_⟩
  . exact .inl e
  . exact .inr ⟨fun e=>a (e▸h.mem),fun e=>b (e▸h.mem)⟩)
structure jJ (xs0 xs:List Nd) (T0:Tr) (O:Cx) (U:Tr) (q:Nat):Prop where
 rep:gR xs (j5 O U) q
 perm:(j5 O U).mem.Perm T0.mem
 ord:∀ φ,gm xs φ (j5 O U)=gm xs0 φ T0
 kl:KL xs0 xs
 other:∀ j,j∉T0.mem->fJ xs j=fJ xs0 j
 flip:∀ f∈O,(fJ xs f.2.1).flip=false
theorem jJ.start{xs:List Nd}{T:Tr}{q:Nat}(h:gR xs T q):jJ xs xs T [] T q:=⟨h,.refl _,fun _=>rfl,KL.refl _,fun _ _=>rfl,s_⟩
theorem jJ.nodup{xs0 xs:List Nd}{a U:Tr}{O:Cx}{q:Nat}(h:jJ xs0 xs a O U q)(b:a.mem.Nodup):(lC O U.mem).Nodup:=by rw[<-pS];exact(h.perm.nodup_iff).2 b
theorem jJ.push{xs0 xs:List Nd}{c l r:Tr}{O:Cx}{q j:Nat}(h:jJ xs0 xs c O (.nd l j r) q)(u:c.mem.Nodup) :
 ∃ l' b, ((l' = l/\b = r)\/(l' = r/\b = l))/\jJ xs0 (jX xs j) c O (.nd l' j b) q/\(fJ (jX xs j) j).flip=false:=by
 have v:=h.nodup u
 obtain⟨w,m2,x⟩:=C6 v
 obtain⟨s,o⟩:=(yL _ _ _).1 h.rep
 obtain⟨l', b, i,p,t,g,n,hs⟩:=Ku s w
 have m:(Tr.nd l' j b).mem.Perm (Tr.nd l j r).mem:=by
  rcases i with ⟨rfl,rfl⟩|⟨rfl,rfl⟩
  . exact .refl _
  . simp only[Tr.mem]
    exact rz.trans (by simp only[ox];exact um.symm)
 have d:∀ k∈jW O,fJ (jX xs j) k=fJ xs k:=fun k a => n k fun hm=>x k hm a
 refine⟨l', b, i,⟨(yL _ _ _).2 ⟨p,?_⟩,?_,fun φ=>?_,h.kl.trans g,fun k a => ?_,fun f e => ?_⟩,t⟩
 . exact(o.to g d).perm m.symm
 . refine List.Perm.trans ?_ h.perm
   rw[pS,pS]
   exact RZ m
 . rw[<-h.ord φ]
   exact KX hs (fun k a => by rw[d k a]) φ
 . rw[n k ?_,h.other k a]
   intro hm
   exact a (h.perm.mem_iff.1 (by rw[pS];exact CZ.2 (.inl hm)))
 . rw[d f.2.1 (JV e)]
   exact h.flip f e
theorem jJ.rotate{xs0 xs:List Nd}{g a b s:Tr}{d:Bool}{c:Cx}{p i q:Nat}(h:jJ xs0 xs g ((d,p,s) :: c) (.nd a i b) q)(y:g.mem.Nodup)(w:xs.length<=1000001)(C:g.mem.length<=1000000)(B:Out xs0 q g.mem)
 (hi:(fJ xs i).flip=false):jJ xs0 (iK xs i) g c (qW d a i b p s) q/\∀ j,(fJ (iK xs i) j).flip=(fJ xs j).flip:=by
 have z:=h.nodup y
 have n:p∈g.mem:=h.perm.mem_iff.1 (by rw[pS];exact CZ.2 (.inr (by simp[jW])))
 have D:(lC ((d,p,s) :: c) (a.mem++i :: b.mem)).length=g.mem.length:=by
  have:=h.perm.length_eq
  rw[pS]at this
  exact this
 obtain⟨u,l⟩:=yM h.rep z w o_ (fun _=>by
  rcases B with e|⟨o,r,t⟩
  . exact .inl e
  . have e:fJ xs q=fJ xs0 q:=h.other q t
    refine .inr ⟨fun e' => o ?_,fun e' => r ?_⟩
    . rw[jf,e]at e'; rw[jf,e'];exact n
    . rw[jf,e]at e'; rw[jf,e'];exact n)
 have A:=h.flip (d,p,s) s_
 have x:(j5 c (qW d a i b p s)).mem=(j5 ((d,p,s) :: c) (.nd a i b)).mem:=by
  rw[pS,pS,KH];rfl
 refine⟨⟨u,by rw[x];exact h.perm,fun φ=>?_,h.kl.trans l.kl,fun k m=>?_,fun f v=>?_⟩,l.flip⟩
 . rw[<-h.ord φ]
   have e1:gm (iK xs i) φ (j5 c (qW d a i b p s))=gm xs φ (j5 c (qW d a i b p s)):=qZ fun j _=>l.flip j
   rw[e1]
   exact KX (c:=c) (fun ψ=>aeF hi A ψ) (fun _ _=>rfl) φ
 . rw[l.other k ?_,h.other k m]
   intro hm
   refine m (h.perm.mem_iff.1 ?_)
   rw[pS]
   exact hm
 . rw[l.flip]
   exact h.flip f (by simp[v])
theorem agt(d:Bool)(a:Tr)(i:Nat)(b:Tr)(p:Nat)(s:Tr)(g:Nat)(s' : Tr) :
 qW d (bif d then .nd a i b else s) p (bif d then s else .nd a i b) g s' = me d (.nd a i b) p (bif d then .nd s g s' else .nd s' g s):=by
 cases d<;>rfl
theorem ab0(d:Bool)(t:Tr)(p:Nat)(s:Tr):me d t p s = .nd (bif d then t else s) p (bif d then s else t):=by cases d<;>rfl
theorem Gb(d:Bool)(a:Tr)(i:Nat)(b:Tr)(p:Nat)(s:Tr):qW d a i b p s = .nd (bif d then a else .nd s p a) i (bif d then .nd b p s else b):=by cases d<;>rfl
theorem jJ.ags{xs0 xs:List Nd}{j a b s s' : Tr}{d:Bool}{c:Cx}{p i g q:Nat}(h:jJ xs0 xs j ((d,p,s) :: (d,g,s') :: c) (.nd a i b) q)(r:j.mem.Nodup)(o:xs.length<=1000001)(n:j.mem.length<=1000000)(t:Out xs0 q j.mem)
 (hi:(fJ xs i).flip=false):∃ a' u, jJ xs0 (iK (iK xs p) i) j c (.nd a' i u) q/\(fJ (iK (iK xs p) i) i).flip=false:=by
 have w:jJ xs0 xs j ((d,g,s') :: c) (.nd (bif d then .nd a i b else s) p (bif d then s else .nd a i b)) q:=by
  rw[<-ab0]
  exact⟨h.rep,h.perm,h.ord,h.kl,h.other,fun f k=>h.flip f (mO _ k)⟩
 obtain⟨e,l⟩:=w.rotate r o n t (h.flip (d,p,s) s_)
 rw[agt]at e
 have x:jJ xs0 (iK xs p) j ((d,p,(bif d then .nd s g s' else .nd s' g s)) :: c) (.nd a i b) q :=
  ⟨e.rep,e.perm,e.ord,e.kl,e.other,fun f k=>by
   rcases zg.1 k with rfl|k
   . rw[l];exact h.flip (d,p,s) s_
   . exact e.flip f k⟩
 obtain⟨m,v⟩:=x.rotate r (by rw[e.kl.len,<-h.kl.len];exact o) n t (by rw[l];exact hi)
 rw[Gb]at m
 exact⟨_,_,m,by rw[v,l];exact hi⟩
theorem jJ.agr{xs0 xs:List Nd}{e a b s s' : Tr}{d t : Bool}{c:Cx}{p i g q:Nat}(h:jJ xs0 xs e ((d,p,s) :: (t, g,s') :: c) (.nd a i b) q)(n:e.mem.Nodup)(m:xs.length<=1000001)(l:e.mem.length<=1000000)(o:Out xs0 q e.mem)
 (hi:(fJ xs i).flip=false):∃ a' r, jJ xs0 (iK (iK xs i) i) e c (.nd a' i r) q/\(fJ (iK (iK xs i) i) i).flip=false:=by
 obtain⟨f,j⟩:=h.rotate n m l o hi
 rw[Gb]at f
 obtain⟨k,u⟩:=f.rotate n (by rw[f.kl.len,<-h.kl.len];exact m) l o (by rw[j];exact hi)
 rw[Gb]at k
 exact⟨_,_,k,by rw[u,j];exact hi⟩
theorem jJ.zig{xs0 xs:List Nd}{c a b s:Tr}{d:Bool}{p i q:Nat}(h:jJ xs0 xs c [(d,p,s)] (.nd a i b) q)(l:c.mem.Nodup)(k:xs.length<=1000001)(j:c.mem.length<=1000000)(m:Out xs0 q c.mem)
 (hi:(fJ xs i).flip=false):∃ a' f, jJ xs0 (iK xs i) c [] (.nd a' i f) q/\(fJ (iK xs i) i).flip=false:=by
 obtain⟨e,g⟩:=h.rotate l k j m hi
 rw[Gb]at e
 exact⟨_,_,e,by rw[g];exact hi⟩
end Go.Sx
namespace Go.Sx
open Go
def mG(s:List Nat)(q v u:Nat):Prop:=∃ s1 s2,s=s1++v :: s2/\u=s1.getLast?.getD q
theorem Db{q v u:Nat}:¬ mG [] q v u:=by
 rintro⟨s1,s2,h,_⟩;simp at h
theorem qq{x:Nat}{s:List Nat}{q v u:Nat}:mG (x :: s) q v u↔(v=x/\u=q)\/mG s x v u:=by
 constructor
 . rintro⟨s1,s2,h,rfl⟩
   cases s1 with
   | nil=>simp at h;exact .inl ⟨h.1.symm,rfl⟩
   | cons y s1 =>
    simp only[ox,List.cons.injEq]at h
    obtain⟨rfl,rfl⟩:=h
    refine .inr ⟨s1,s2,rfl,?_⟩
    rw[DP];simp
 . rintro(⟨rfl,rfl⟩|⟨s1,s2,rfl,rfl⟩)
   . exact⟨[],s,rfl,rfl⟩
   . refine⟨x :: s1,s2,rfl,?_⟩
     rw[DP];simp
theorem RG{s t:List Nat}{q v u:Nat}:mG (s++t) q v u↔mG s q v u\/mG t (s.getLast?.getD q) v u:=by
 induction s generalizing q with
 | nil=>simp[Db]
 | cons x s a =>
  rw[ox,qq,a,qq,DP,or_assoc]
  simp
theorem tQ{s:List Nat}{q v u:Nat}(h:mG s q v u):v∈s:=by
 obtain⟨s1,s2,rfl,_⟩:=h;simp
theorem aco{s:List Nat}{q v u d : Nat}(b:s.Nodup)(h:mG s q v u)(e : mG s q v d):u=d := by
 induction s generalizing q with
 | nil=>exact absurd h Db
 | cons x s g =>
  rw[zw]at b
  rcases qq.1 h with ⟨rfl,rfl⟩|c<;>rcases qq.1 e with ⟨a,f⟩|a
  . exact f.symm
  . exact absurd (tQ a) b.1
  . subst a;exact absurd (tQ c) b.1
  . exact g b.2 c a
theorem acp{s:List Nat}{q v u:Nat}(h:mG s q v u):u∈s\/u=q:=by
 obtain⟨s1,s2,rfl,rfl⟩:=h
 cases hl:s1.getLast? with
 | none=>exact .inr rfl
 | some x=>exact .inl (by simp only[zM,zp];exact .inl (By hl))
abbrev rF:=List (List Nat×Nat)
def gL(S:rF)(v u:Nat):Prop:=∃ e∈S,mG e.1 e.2 v u
def uS(S:rF):List Nat:=S.flatMap (·.1)
theorem gL.perm{S c : rF}(h:S.Perm c){v u:Nat}:gL S v u↔gL c v u :=
 ⟨fun⟨e,b,a⟩=>⟨e,h.mem_iff.1 b,a⟩,fun⟨e,b,a⟩=>⟨e,h.mem_iff.2 b,a⟩⟩
theorem gL.cons{e:List Nat×Nat}{S:rF}{v u:Nat}:gL (e :: S) v u↔mG e.1 e.2 v u\/gL S v u:=by
 simp only[gL,zg,exists_eq_or_imp]
theorem nJ{S:rF}(d:(uS S).Nodup){v u i : Nat}(h:gL S v u)(j : gL S v i):u=i := by
 induction S with
 | nil=>obtain⟨e,k,_⟩:=h;simp at k
 | cons e S m =>
  simp only[uS,zy,zr]at d
  obtain⟨n1,n,g⟩:=d
  have c:∀ {w},gL S v w->v∈S.flatMap (·.1):=fun⟨f,l,hp⟩=>qx.2 ⟨f,l,tQ hp⟩
  rcases gL.cons.1 h with a|a<;>rcases gL.cons.1 j with b|b
  . exact aco n1 a b
  . exact absurd rfl (g v (tQ a) v (c b))
  . exact absurd rfl (g v (tQ b) v (c a))
  . exact m n a b
inductive PR (P:Nat->Nat->Prop):Nat->Nat->Prop where
 | top {v:Nat} (h:P v 0):PR P v v
 | step {v u r:Nat} (h:P v u) (h0:u≠0) (k:PR P u r):PR P v r
theorem PR.mono{P Q:Nat->Nat->Prop}(h:∀ v u,P v u->Q v u){v r:Nat}(k:PR P v r):PR Q v r:=by
 induction k with
 | top hp=>exact .top (h _ _ hp)
 | step hp a _ b=>exact .step (h _ _ hp) a b
theorem PR.unique{P:Nat->Nat->Prop}(c:∀ v u f, P v u->P v f -> u=f){v r e : Nat}(k:PR P v r)(k' : PR P v e):r=e := by
 induction k with
 | top hp =>
  cases k' with
  | top _=>rfl
  | step a b _=>exact absurd (c _ _ _ a hp) b
 | step hp b _ g =>
  cases k' with
  | top a => exact absurd (c _ _ _ hp a) b
  | step a _ d=>rw[c _ _ _ a hp]at d;exact g d
theorem PR.root{P:Nat->Nat->Prop}{v r:Nat}(k:PR P v r):P r 0:=by
 induction k with
 | top h=>exact h
 | step _ _ _ a=>exact a
theorem PR.Fi{P:Nat->Nat->Prop}{s:List Nat}:∀ {q v h:Nat},s.head? = some h->(∀ x∈s,x≠0)->(∀ v u,mG s q v u->P v u)->v∈s->(q=0->PR P v h)/\(∀ r,q≠0->PR P q r->PR P v r):=by
 induction s with
 | nil=>intro q v h a;simp at a
 | cons x s i =>
  intro q v h a c f hv
  simp only[List.head?_cons,Option.some.injEq]at a
  subst a
  have b:P x q:=f _ _ (qq.2 (.inl ⟨rfl,rfl⟩))
  rcases zg.1 hv with rfl|hv
  . exact⟨fun e=>.top (e▸b),fun r d k=>.step b d k⟩
  . cases s with
    | nil=>simp at hv
    | cons y s =>
     have:=(i (q:=x) (v:=v) (h:=y) rfl (fun z g=>c z (mO _ g)) (fun v u hp=>f _ _ (qq.2 (.inr hp))) hv).2
     exact⟨fun e=>this x (c x s_) (.top (e▸b)),fun r d k=>this r (c x s_) (.step b d k)⟩
end Go.Sx
namespace Go.Sx
open Go
abbrev FT:=List (Tr×Nat)
def jO(F:FT):List Nat:=F.flatMap fun e=>e.1.mem
def gr(xs:List Nd)(F:FT):rF:=F.map fun e=>(gm xs false e.1,e.2)
structure Fo (xs:List Nd) (F:FT):Prop where
 rep:∀ e∈F,gR xs e.1 e.2
 ne:∀ e∈F,e.1.root≠0
 nodup:(jO F).Nodup
 all:∀ j,j≠0->j<xs.length->j∈jO F
 par:∀ e∈F,e.2<xs.length
 sZ:∃ ρ:Nat->Nat,(∀ e∈F,∀ i∈e.1.mem,∀ j∈e.1.mem,ρ i=ρ j)/\∀ e∈F,e.2≠0->∀ i∈e.1.mem,ρ i<ρ e.2
 zero:(fJ xs 0).k0=0/\(fJ xs 0).k1=0/\(fJ xs 0).total=0
 pos:0<xs.length
 len:xs.length<=1000001
theorem RL{α β:Type}{l l' : List α}(h:l.Perm l')(f:α->List β):(l.flatMap f).Perm (l'.flatMap f):=by
 induction h with
 | nil=>exact .nil
 | cons x _ a=>simp only[zy];exact a.append_left _
 | swap x y l =>
  simp only[zy,<-nr]
  exact rz.append_right _
 | trans _ _ b c=>exact b.trans c
theorem Fo.perm{xs:List Nd}{F F' : FT}(h:Fo xs F)(hp:F.Perm F'):Fo xs F' := by
 have b:(jO F).Perm (jO F'):=RL hp _
 obtain⟨ρ,d,f⟩:=h.sZ
 exact⟨fun e a=>h.rep e (hp.mem_iff.2 a),fun e a=>h.ne e (hp.mem_iff.2 a),b.nodup_iff.1 h.nodup,fun j c g=>b.mem_iff.1 (h.all j c g),fun e a=>h.par e (hp.mem_iff.2 a),
  ⟨ρ,fun e a=>d e (hp.mem_iff.2 a),fun e a=>f e (hp.mem_iff.2 a)⟩,h.zero,h.pos,h.len⟩
theorem oH{F:FT}{e:Tr×Nat}{j:Nat}(a:e∈F)(b:j∈e.1.mem):j∈jO F:=qx.2 ⟨e,a,b⟩
theorem Fo.split{xs:List Nd}{T:Tr}{q:Nat}{R:FT}(h:Fo xs ((T,q) :: R)):T.mem.Nodup/\(jO R).Nodup/\∀ j∈T.mem,j∉jO R:=by
 have a:=h.nodup
 grind [jO]
theorem nodup_lt_length:∀ (n:Nat) (L:List Nat),L.Nodup->(∀ j∈L,j<n)->L.length<=n
 | 0,L,_,h=>by
  cases L with
  | nil=>simp
  | cons x L=>exact absurd (h x s_) o_
 | n+1,L,hn,h=>by
  have f:=nodup_lt_length n (L.erase n) (hn.erase n) (fun j b=>by
   have c:=h j (List.mem_of_mem_erase b)
   have d:j≠n:=fun e=>by subst e;exact(List.Nodup.not_mem_erase hn) b
   omega)
  have c:=List.length_erase_le (a:=n) (l:=L)
  have d:L.length<=(L.erase n).length+1:=by
   rw[List.length_erase];split<;>omega
  omega
theorem Fo.count{xs:List Nd}{T:Tr}{q:Nat}{R:FT}(h:Fo xs ((T,q) :: R)):T.mem.length<=1000000:=by
 have c:=nodup_lt_length xs.length (0 :: T.mem) (by
  rw[zw]
  exact⟨fun b=>((h.rep (T,q) s_).o5 0 b).1 rfl,h.split.1⟩) (fun j a=>by
  rcases zg.1 a with rfl|a
  . exact h.pos
  . exact((h.rep (T,q) s_).o5 j a).2)
 have:=h.len
 simp only[zh]at c
 omega
theorem gR.Jw{xs:List Nd}{d:Bool}:∀ {t:Tr} {p j:Nat},gR xs t p->j∈t.mem->jf xs d j=0\/jf xs d j∈t.mem
 | .nil,_,_,_,a=>by simp[Tr.mem]at a
 | .nd l i r,p,j,h,a=>by
  obtain⟨_,⟨f,g,_⟩,_,b,c⟩:=h
  simp only[Tr.mem,zp,zg]at a ⊢
  rcases a with a|rfl|a
  . rcases gR.Jw b a with e|e
    . exact .inl e
    . exact .inr (.inl e)
  . cases d
    . simp only[jf,cond_false,g]
      by_cases e:r.root=0
      . exact .inl e
      . exact .inr (.inr (.inr (c.mZ e)))
    . simp only[jf,cond_true,f]
      by_cases e:l.root=0
      . exact .inl e
      . exact .inr (.inl (b.mZ e))
  . rcases gR.Jw c a with e|e
    . exact .inl e
    . exact .inr (.inr (.inr e))
theorem Fo.out{xs:List Nd}{T:Tr}{q:Nat}{R:FT}(h:Fo xs ((T,q) :: R)):Out xs q T.mem:=by
 by_cases hq:q=0
 . exact .inl hq
 . obtain⟨ρ,l,j⟩:=h.sZ
   have g:q∉T.mem:=fun hm=>by
    have:=j (T,q) s_ hq q hm
    simp at this
   have b:=h.all q hq (h.par (T,q) s_)
   simp only[jO,zy,zp]at b
   rcases b with hm|hm
   . exact absurd hm g
   . obtain⟨e,c,hm⟩:=qx.1 hm
     have k:0∉T.mem:=fun i=>((h.rep (T,q) s_).o5 0 i).1 rfl
     have key:∀ d,jf xs d q∉T.mem:=fun d f=>by
      rcases gR.Jw (d:=d) (h.rep e (by simp[c])) hm with a|a
      . exact k (a▸f)
      . exact h.split.2.2 _ f (oH c a)
     exact .inr ⟨key true,key false,g⟩
theorem gR.r7{xs ys:List Nd}(b:ys.length=xs.length){t:Tr}{p:Nat}(h:gR xs t p)(hs:∀ j∈t.mem,fJ ys j=fJ xs j):gR ys t p :=
 h.u6 b fun j a=>⟨(fJ xs j).flip,by rw[hs j a]⟩
theorem Gl{xs ys:List Nd}{t:Tr}{φ:Bool}(hs:∀ j∈t.mem,fJ ys j=fJ xs j):gm ys φ t=gm xs φ t:=qZ fun j a=>by rw[hs j a]
theorem KS{xs ys:List Nd}{F:FT}(hs:∀ j∈jO F,fJ ys j=fJ xs j):gr ys F=gr xs F:=by
 unfold gr
 refine zK fun e a=>?_
 rw[Gl fun j b=>hs j (oH a b)]
theorem Fo.S3{xs ys:List Nd}{T U:Tr}{q:Nat}{R:FT}(h:Fo xs ((T,q) :: R))(m:jJ xs ys T [] U q):Fo ys ((U,q) :: R)/\gr ys ((U,q) :: R)=gr xs ((T,q) :: R)/\(∀ e∈R,∀ j∈e.1.mem,fJ ys j=fJ xs j):=by
 obtain⟨n1,u,s⟩:=h.split
 have d:=m.kl.len
 have hp:U.mem.Perm T.mem:=m.perm
 have f:∀ j∈jO R,fJ ys j=fJ xs j:=fun j b=>m.other j fun o=>s j o b
 have p:0∉T.mem:=fun c=>((h.rep (T,q) s_).o5 0 c).1 rfl
 have n:U.root≠0:=by
  intro e
  have g:=gR.KG (t:=U) m.rep e
  rw[g]at hp
  have k:=h.ne (T,q) s_
  exact k (by
   cases T with
   | nil=>rfl
   | nd l i r=>have:=hp.length_eq;simp[Tr.mem]at this)
 refine⟨⟨fun e a=>?_,fun e a=>?_,?_,fun j c b=>?_,fun e a=>?_,?_,?_,by rw[d];exact h.pos,by rw[d];exact h.len⟩,?_,fun e a j b=>f j (oH a b)⟩
 . rcases zg.1 a with rfl|a
   . exact m.rep
   . exact(h.rep e (by simp[a])).r7 d fun j b=>f j (oH a b)
 . rcases zg.1 a with rfl|a
   . exact n
   . exact h.ne e (by simp[a])
 . grind [jO]
 . have:=h.all j c (by rw[d]at b;exact b)
   grind [jO]
 . rw[d]
   rcases zg.1 a with rfl|a
   . exact h.par (T,q) s_
   . exact h.par e (by simp[a])
 . obtain⟨ρ,r1,r2⟩:=h.sZ
   refine⟨ρ,fun e a=>?_,fun e a=>?_⟩
   . rcases zg.1 a with rfl|a
     . exact fun i hi j b=>r1 (T,q) s_ i (hp.mem_iff.1 hi) j (hp.mem_iff.1 b)
     . exact r1 e (by simp[a])
   . rcases zg.1 a with rfl|a
     . exact fun c i hi=>r2 (T,q) s_ c i (hp.mem_iff.1 hi)
     . exact r2 e (by simp[a])
 . rw[m.other 0 p];exact h.zero
 . have g:gr ys R=gr xs R:=KS f
   have k:gm ys false U=gm xs false T:=m.ord false
   grind [gr]
def k9(xs:List Nd)(j below:Nat):List Nd :=
 let a:=fO xs j (fun x=>{ x with iL:=IntKind.i64.wrap (x.iL+IntKind.i64.wrap ((fJ xs x.k1).total-(fJ xs below).total)) })
 let b:=fO a j (fun x=>{ x with k1:=below })
 iH b j
def opt(e:Tr×Nat)(R:FT):FT:=if e.1.root=0 then R else e :: R
theorem pR{e f:Tr×Nat}{R:FT}:f∈opt e R↔(e.1.root≠0/\f=e)\/f∈R:=by
 grind [opt]
theorem gR.AO{xs:List Nd}{t:Tr}{p:Nat}(h:gR xs t p)(e:t.root=0):t = .nil:=by
 cases t with
 | nil=>rfl
 | nd l i r=>exact absurd e h.1.1
theorem J7{xs:List Nd}{e:Tr×Nat}{R:FT}{p:Nat}(h:gR xs e.1 p):jO (opt e R)=e.1.mem++jO R:=by
 unfold opt
 split
 . rename_i a;rw[h.AO a];rfl
 . rfl
theorem RI{xs ys:List Nd}{e:Tr×Nat}{R:FT}{p v u:Nat}(h:gR xs e.1 p):gL (gr ys (opt e R)) v u↔mG (gm ys false e.1) e.2 v u\/gL (gr ys R) v u:=by
 unfold opt
 split
 . rename_i a
   rw[h.AO a]
   simp[gm,Db]
 . simp only[gr,ko,gL.cons]
theorem V9{xs:List Nd}{F R R' : FT}{a b B:Tr}{j q:Nat}(h:Fo xs ((.nd a j b,q) :: R))(Q:(fJ xs j).flip=false)(O:R.Perm (opt (B,j) R'))(D:gR xs B j) :
 Fo (k9 xs j B.root) ((.nd a j B,q) :: opt (b,j) R')/\(∀ v u,gL (gr (k9 xs j B.root) ((.nd a j B,q) :: opt (b,j) R')) v u↔gL (gr xs ((.nd a j b,q) :: R)) v u) /\
  gm (k9 xs j B.root) false (.nd a j B)=gm xs false a++j :: gm xs false B/\(∀ k,k≠j->fJ (k9 xs j B.root) k=fJ xs k)/\(fJ (k9 xs j B.root) j).flip=false/\(∀ k,(fJ (k9 xs j B.root) k).key=(fJ xs k).key)/\(k9 xs j B.root).length=xs.length:=by
 have hT:=h.rep (.nd a j b,q) s_
 obtain⟨⟨H,jl⟩,⟨k0,k1,up⟩,v,ha,hb⟩:=hT
 obtain⟨n1,n2,n3⟩:=h.split
 simp only[Tr.mem]at n1 n3
 have S:(jO R).Perm (B.mem++jO R'):=by rw[<-J7 (e:=(B,j)) D];exact RL O _
 have ad := S.nodup_iff.1 n2
 rw[zr]at ad
 obtain⟨nB,av, X⟩:=ad
 rw[zr,zw]at n1
 obtain⟨na,⟨aa,nb⟩,ae⟩:=n1
 have af:j∉a.mem:=fun h=>ae j h j s_ rfl
 have p:∀ k,k∈a.mem\/k=j\/k∈b.mem->k∉B.mem/\k∉jO R' := fun k c=>by
  have:=n3 k (by simpa using c)
  rw[S.mem_iff,zp,not_or]at this
  exact this
 have Y:=(p j (.inr (.inl rfl))).1
 have Z:=(p j (.inr (.inl rfl))).2
 obtain⟨s,L⟩:∃ x,x=fO (fO xs j (fun x=>{ x with iL:=IntKind.i64.wrap (x.iL+IntKind.i64.wrap ((fJ xs x.k1).total-(fJ xs B.root).total)) })) j (fun x=>{ x with k1:=B.root }):=⟨_,rfl⟩
 have al:k9 xs j B.root=iH s j:=by rw[L];rfl
 have W:s.length=xs.length:=by rw[L,gB,gB]
 obtain⟨lm,G⟩:∃ y,fJ s j={ fJ xs j with iL:=y,k1:=B.root }:=⟨_,by rw[L,jS (by rw[gB];exact jl),jS jl]⟩
 have I:∀ k,k≠j->fJ s k=fJ xs k:=fun k c=>by rw[L,jQ (fun e=>c e.symm),jQ (fun e=>c e.symm)]
 have ai:gR s a j:=ha.r7 W fun k c=>I k (fun e=>af (e▸c))
 have ah:gR s B j:=D.r7 W fun k c=>I k (fun e=>Y (e▸c))
 have T:(a.mem++j :: B.mem).Nodup:=by
  rw[zr,zw]
  refine⟨na,⟨Y,nB⟩,fun x g y f e=>?_⟩
  subst e
  rcases zg.1 f with rfl|f
  . exact af g
  . exact(p x (.inl g)).1 f
 have ab:∀ k∈a.mem++j :: B.mem,k≠0/\k<xs.length:=fun k c=>by
  simp only[zp,zg]at c
  rcases c with c|rfl|c
  . exact ha.o5 k c
  . exact⟨H,jl⟩
  . exact D.o5 k c
 have ak:(a.mem++j :: B.mem).length<=1000000:=by
  have t:=nodup_lt_length xs.length (0 :: (a.mem++j :: B.mem)) (zw.2 ⟨fun o=>(ab 0 o).1 rfl,T⟩) (fun k c=>by
   rcases zg.1 c with rfl|c
   . exact h.pos
   . exact(ab k c).2)
  have:=h.len
  simp only[zh]at t
  omega
 obtain⟨K,P⟩:=AZ (xs:=s) (i:=j) (l:=a) (r:=B) ⟨H,o_⟩ ai ah (by rw[G];exact k0) (by rw[G]) T ak
 rw[<-al]at K P
 rw[show (fJ s j).up=q by rw[G];exact up]at P
 have z:(k9 xs j B.root).length=xs.length:=by rw[K.len,W]
 have J:∀ k,k≠j->fJ (k9 xs j B.root) k=fJ xs k:=fun k c=>by rw[K.other k c,I k c]
 have E:∀ k,(fJ (k9 xs j B.root) k).flip=(fJ xs k).flip:=fun k=>by
  rw[K.flip]
  by_cases e:k=j
  . subst e;rw[G]
  . rw[I k e]
 have ap:∀ k,(fJ (k9 xs j B.root) k).key=(fJ xs k).key:=fun k=>by
  rw[K.kl.key]
  by_cases e:k=j
  . subst e;rw[G]
  . rw[I k e]
 have aq:gm (k9 xs j B.root) false B=gm xs false B:=qZ fun k _=>E k
 have ar:gm (k9 xs j B.root) false a=gm xs false a:=qZ fun k _=>E k
 have au:gm (k9 xs j B.root) false b=gm xs false b:=qZ fun k _=>E k
 have ac:gm (k9 xs j B.root) false (.nd a j B)=gm xs false a++j :: gm xs false B:=by
  simp only[gm,E,Q,DN,cond_false,ar,aq]
 have aj:gR (k9 xs j B.root) b j:=hb.r7 z fun k c=>J k (fun e=>aa (e▸c))
 obtain⟨ρ,r1,r2⟩:=h.sZ
 have rT:∀ k,k∈a.mem\/k=j\/k∈b.mem->ρ k=ρ j:=fun k c=>r1 (.nd a j b,q) s_ k (by simpa[Tr.mem]using c) j (by simp[Tr.mem])
 have A:∀ e,e∈R↔(B.root≠0/\e=(B,j))\/e∈R' := fun e=>by rw[O.mem_iff,pR]
 have rB:∀ k∈B.mem,ρ k<ρ j:=fun k c=>by
  by_cases e0:B.root=0
  . rw[D.AO e0]at c;simp[Tr.mem]at c
  . exact r2 (B,j) (mO _ ((A _).2 (.inl ⟨e0,rfl⟩))) H k c
 refine⟨⟨fun e d=>?_,fun e d=>?_,?_,fun k o c=>?_,fun e d=>?_,?_,?_,by rw[z];exact h.pos,by rw[z];exact h.len⟩,fun v' m => ?_,ac,J,by rw[E];exact Q,ap,z⟩
 . rcases zg.1 d with rfl|d
   . exact P
   . rcases pR.1 d with ⟨_,rfl⟩|d
     . exact aj
     . exact(h.rep e (mO _ ((A e).2 (.inr d)))).r7 z fun k c=>J k (fun e' => Z (e' ▸ oH d c))
 . rcases zg.1 d with rfl|d
   . exact H
   . rcases pR.1 d with ⟨o,rfl⟩|d
     . exact o
     . exact h.ne e (mO _ ((A e).2 (.inr d)))
 . simp only[jO,zy]
   show ((Tr.nd a j B).mem++jO (opt (b,j) R')).Nodup
   rw[J7 (e:=(b,j)) hb,zr,zr]
   refine⟨T,⟨nb,av, fun x g y f e=>(p x (.inr (.inr g))).2 (e▸f)⟩,fun x g y f e=>?_⟩
   subst e
   simp only[Tr.mem,zp,zg]at g f
   rcases f with f|f
   . rcases g with g|rfl|g
     . exact ae x g x (by simp[f]) rfl
     . exact aa f
     . exact(p x (.inr (.inr f))).1 g
   . rcases g with g|rfl|g
     . exact(p x (.inl g)).2 f
     . exact Z f
     . exact X x g x f rfl
 . rw[z]at c
   have t:=h.all k o c
   have C:k∈(Tr.nd a j b).mem\/k∈jO R:=by simpa[jO,zy]using t
   rw[S.mem_iff]at C
   show k∈(Tr.nd a j B).mem++jO (opt (b,j) R')
   rw[J7 (e:=(b,j)) hb]
   simp only[Tr.mem,zp,zg]at C ⊢
   rcases C with (h|h|h)|h|h<;>simp[h]
 . rw[z]
   rcases zg.1 d with rfl|d
   . exact h.par (.nd a j b,q) s_
   . rcases pR.1 d with ⟨_,rfl⟩|d
     . exact jl
     . exact h.par e (mO _ ((A e).2 (.inr d)))
 . have N:∀ k,k∈b.mem->k∉B.mem:=fun k t=>(p k (.inr (.inr t))).1
   obtain⟨σ,n⟩:∃ σ:Nat->Nat,∀ k,σ k=if k∈B.mem then 2*ρ j+1 else if k∈b.mem then 2*ρ j else 2*ρ k+1:=⟨_,fun _=>rfl⟩
   refine⟨σ,fun e d=>?_,fun e d o=>?_⟩
   . rcases zg.1 d with rfl|d
     . have key:∀ k∈(Tr.nd a j B).mem,σ k=2*ρ j+1:=fun k c=>by
        rw[n]
        simp only[Tr.mem,zp,zg]at c
        by_cases hkB:k∈B.mem
        . rw[if_pos hkB]
        . grind
       intro i hi k c
       rw[key i hi,key k c]
     . rcases pR.1 d with ⟨_,rfl⟩|d
       . intro i hi k c
         simp only at hi c
         rw[n,n,if_neg (N i hi),if_pos hi,if_neg (N k c),if_pos c]
       . intro i hi k c
         have M:∀ y∈e.1.mem,y∉B.mem/\y∉b.mem:=fun y f=>⟨fun w => X y w y (oH d f) rfl,fun w => (p y (.inr (.inr w))).2 (oH d f)⟩
         rw[n,n,if_neg (M i hi).1,if_neg (M i hi).2,if_neg (M k c).1,if_neg (M k c).2,r1 e (mO _ ((A e).2 (.inr d))) i hi k c]
   . rcases zg.1 d with rfl|d
     . simp only at o
       have V:=r2 (.nd a j b,q) s_ o
       have q1:q∉B.mem:=fun U=>by have:=rB q U;have:=V j (by simp[Tr.mem]);simp only at this;omega
       have q2:q∉b.mem:=fun U=>by have:=rT q (.inr (.inr U));have:=V j (by simp[Tr.mem]);simp only at this;omega
       intro i hi
       simp only
       rw[n i,n q,if_neg q1,if_neg q2]
       have ao := V j (by simp[Tr.mem])
       simp only at ao
       simp only[Tr.mem,zp,zg]at hi
       by_cases hiB:i∈B.mem
       . rw[if_pos hiB];omega
       . rw[if_neg hiB]
         split
         . omega
         . have:ρ i=ρ j:=rT i (by rcases hi with h|h|h;exact .inl h;exact .inr (.inl h);exact absurd h hiB)
           omega
     . rcases pR.1 d with ⟨_,rfl⟩|d
       . intro i hi
         simp only at hi ⊢
         rw[n,n,if_neg (N i hi),if_pos hi,if_neg Y,if_neg aa];omega
       . intro i hi
         have am:i∉B.mem:=fun w => X i w i (oH d hi) rfl
         have an:i∉b.mem:=fun w => (p i (.inr (.inr w))).2 (oH d hi)
         have aw := r2 e (mO _ ((A e).2 (.inr d))) o i hi
         rw[n,n,if_neg am,if_neg an]
         by_cases hqB:e.2∈B.mem
         . have:=rB _ hqB;rw[if_pos hqB];omega
         . rw[if_neg hqB]
           by_cases hqb:e.2∈b.mem
           . have:=rT _ (.inr (.inr hqb));rw[if_pos hqb];omega
           . rw[if_neg hqb];omega
 . rw[J 0 (fun e=>H e.symm)];exact h.zero
 . have hs:gr (k9 xs j B.root) R' = gr xs R' := KS fun k c=>J k (fun e=>Z (e▸c))
   have e1:gL (gr (k9 xs j B.root) ((.nd a j B,q) :: opt (b,j) R')) v' m ↔ mG (gm xs false a++j :: gm xs false B) q v' m \/ mG (gm xs false b) j v' m \/ gL (gr xs R') v' m := by
    have:=RI (ys:=k9 xs j B.root) (e:=(b,j)) (R:=R') (v:=v') (u:=m) hb
    simp only[gr,ko]at this ⊢
    rw[gL.cons,ac,this]
    simp only[gr]at hs
    rw[au,hs]
   have ag : gL (gr xs ((.nd a j b,q) :: R)) v' m ↔ mG (gm xs false a++j :: gm xs false b) q v' m \/ mG (gm xs false B) j v' m \/ gL (gr xs R') v' m := by
    have t:gm xs false (.nd a j b)=gm xs false a++j :: gm xs false b:=by simp only[gm,Q,DN,cond_false]
    have C:gL (gr xs R) v' m ↔ gL (gr xs (opt (B,j) R')) v' m := gL.perm (O.map _)
    have h3:=RI (ys:=xs) (e:=(B,j)) (R:=R') (v:=v') (u:=m) D
    have h4:gL (gr xs ((.nd a j b,q) :: R)) v' m ↔ mG (gm xs false (.nd a j b)) q v' m \/ gL (gr xs R) v' m := by simp only[gr,ko,gL.cons]
    rw[h4,t,C,h3]
   rw[e1,ag, RG,RG,qq,qq]
   constructor
   . rintro((h|h|h)|h|h)<;>simp[h]
   . rintro((h|h|h)|h|h)<;>simp[h]
end Go.Sx
namespace Go.Sx
open Go
inductive tq (F:FT):Nat->Nat->Prop where
 | zero:tq F 0 0
 | step {T:Tr} {q j m:Nat} (he:(T,q)∈F) (hj:j∈T.mem) (h0:j≠0) (k:tq F q m):tq F j (m+1)
theorem tq.mono{F F' : FT}{ρ:Nat->Nat}{c:Nat}(g:(∀ e∈F,∀ i∈e.1.mem,∀ j∈e.1.mem,ρ i=ρ j)/\∀ e∈F,e.2≠0->∀ i∈e.1.mem,ρ i<ρ e.2)
 (l:∀ e∈F,(∀ i∈e.1.mem,c<ρ i)->e∈F') {q m:Nat} (h:tq F q m):(q=0\/c<ρ q)->tq F' q m:=by
 induction h with
 | zero=>intro _;exact .zero
 | @step T q j m b d f k n =>
  intro a
  have a:c<ρ j:=by rcases a with e|e;exact absurd e f;exact e
  refine .step (l _ b fun i hi=>?_) d f (n ?_)
  . rw[g.1 _ b i hi j d];exact a
  . by_cases hq:q=0
    . exact .inl hq
    . exact .inr (Nat.lt_trans a (g.2 _ b hq j d))
theorem Pk(ρ:Nat->Nat):∀ n,∃ M,∀ k,k<n->ρ k<=M
 | 0=>⟨0,fun k a=>absurd a o_⟩
 | n+1=>by
  obtain⟨M,b⟩:=Pk ρ n
  refine⟨max M (ρ n),fun k a=>?_⟩
  by_cases e:k=n
  . subst e;omega
  . have:=b k o_;omega
theorem Fo.dep{xs:List Nd}{F:FT}(h:Fo xs F){j:Nat}(b:j<xs.length):∃ m,tq F j m:=by
 obtain⟨ρ,k,d⟩:=h.sZ
 obtain⟨M,c⟩:=Pk ρ xs.length
 have key:∀ n j,j<xs.length->M-ρ j<=n->∃ m,tq F j m:=by
  intro n
  induction n with
  | zero =>
   intro j b g
   by_cases h0:j=0
   . subst h0;exact⟨0,.zero⟩
   . obtain⟨e,a,hm⟩:=qx.1 (h.all j h0 b)
     by_cases hq:e.2=0
     . exact⟨1,.step (T:=e.1) (q:=e.2) a hm h0 (by rw[hq];exact .zero)⟩
     . have a1:=d e a hq j hm
       have a2:=c e.2 (h.par e a)
       have a3:=c j b
       omega
  | succ n i =>
   intro j b g
   by_cases h0:j=0
   . subst h0;exact⟨0,.zero⟩
   . obtain⟨e,a,hm⟩:=qx.1 (h.all j h0 b)
     by_cases hq:e.2=0
     . exact⟨1,.step (T:=e.1) (q:=e.2) a hm h0 (by rw[hq];exact .zero)⟩
     . have a1:=d e a hq j hm
       have a2:=c e.2 (h.par e a)
       obtain⟨m,f⟩:=i e.2 (h.par e a) o_
       exact⟨m+1,.step (T:=e.1) (q:=e.2) a hm h0 f⟩
 exact key _ j b (zn _)
theorem Fo.Yf{xs:List Nd}{F:FT}(h:Fo xs F){e f:Tr×Nat}(d:e∈F)(a:f∈F){j:Nat}(h1:j∈e.1.mem)(c:j∈f.1.mem):e=f:=by
 obtain⟨s,t,rfl⟩:=BG d
 have hp:(s++e :: t).Perm (e :: (s++t)):=um
 have b := h.perm hp
 rcases zg.1 (hp.mem_iff.1 a)with e' | a
 . exact e'.symm
 . exact absurd (oH a c) (b.split.2.2 j h1)
structure Ex (xs0:List Nd) (F0:FT) (i:Nat) (xs:List Nd) (below j m:Nat) (R:FT) (B:Tr):Prop where
 fo:Fo xs (opt (B,j) R)
 rep:gR xs B j
 root:B.root=below
 start:below=0->j=i
 last:below≠0->(gm xs false B).getLast? = some i
 dep:tq (opt (B,j) R) j m
 par:∀ v u,gL (gr xs (opt (B,j) R)) v u↔gL (gr xs0 F0) v u
 key:∀ k,(fJ xs k).key=(fJ xs0 k).key
 len:xs.length=xs0.length
 lt:j<xs.length
 Bj:∀ T0,(T0,0)∈F0->((T0,0)∈R/\∀ k∈T0.mem,fJ xs k=fJ xs0 k)\/(j=0/\below≠0/\(gm xs false B).head? = (gm xs0 false T0).head?)
theorem Ex.init{xs:List Nd}{F:FT}{i:Nat}(h:Fo xs F)(hi:i<xs.length):∃ m,Ex xs F i xs 0 i m F .nil:=by
 obtain⟨m,hm⟩:=h.dep hi
 exact⟨m,h,trivial,rfl,fun _=>rfl,fun e=>absurd rfl e,hm,fun _ _=>Iff.rfl,fun _=>rfl,rfl,hi,fun b a=>.inl ⟨a,fun _ _=>rfl⟩⟩
theorem RM{α:Type}{x:α}{l:List α}(h:x∈l):∃ r,l.Perm (x :: r):=by
 obtain⟨s,t,rfl⟩:=BG h
 exact⟨s++t,um⟩
theorem acg{e f:Tr×Nat}{R R' : FT}(h:R.Perm (f :: R')):(opt e R).Perm (f :: opt e R'):=by
 unfold opt
 split
 . exact h
 . exact(h.cons e).trans (List.Perm.swap _ _ _)
theorem Ex.go{xs0 xs:List Nd}{F0 R:FT}{i below j m:Nat}{B:Tr}(h:Ex xs0 F0 i xs below j m R B)(g:j≠0) :
 ∃ T q,gR xs T q/\j∈T.mem/\T.mem.Nodup/\T.mem.length<=1000000/\Out xs q T.mem/\∀ ys a b,jJ xs ys T [] (.nd a j b) q->(fJ ys j).flip=false ->
  (fJ (k9 ys j below) j).up=q/\(∀ k,k≠j->fJ (k9 ys j below) k=fJ ys k)/\∃ t R', m=t + 1/\Ex xs0 F0 i (k9 ys j below) j q t R' (.nd a j B):=by
 cases hd:h.dep with
 | zero=>exact absurd rfl g
 | @step T q _ t s o _ X =>
  -- the entry lies in R
  have V:(T,q)∈R:=by
   rcases pR.1 s with ⟨d,e⟩|s
   . obtain⟨ρ,_,r2⟩:=h.fo.sZ
     cases e
     have:=r2 (B,j) (pR.2 (.inl ⟨d,rfl⟩)) g j o
     simp at this
   . exact s
  obtain⟨R2,hp⟩:=RM V
  have C:(opt (B,j) R).Perm ((T,q) :: opt (B,j) R2):=acg hp
  have f:=h.fo.perm C
  refine⟨T,q,f.rep (T,q) s_,o,f.split.1,f.count,f.out,fun ys a b hm I=>?_⟩
  obtain⟨Q,s1,L⟩:=f.S3 hm
  have U:gR ys B j:=by
   by_cases d:B.root=0
   . rw[h.rep.AO d];trivial
   . exact h.rep.r7 hm.kl.len fun k l => L (B,j) (pR.2 (.inl ⟨d,rfl⟩)) k l
  have c:=V9 (F:=[]) Q I (List.Perm.refl _) U
  obtain⟨p,D,w,x,N,E,y⟩:=c
  rw[h.root]at p D w x N E y
  have aa:gm ys false B=gm xs false B:=by
   by_cases d:B.root=0
   . rw[h.rep.AO d];rfl
   . exact Gl fun k l => L (B,j) (pR.2 (.inl ⟨d,rfl⟩)) k l
  have Z:q<xs.length:=f.par (T,q) s_
  have ab:(fJ (k9 ys j below) j).up=q:=(p.rep (.nd a j B,q) s_).2.1.2.2
  have A:opt (Tr.nd a j B,q) (opt (b,j) R2)=(Tr.nd a j B,q) :: opt (b,j) R2:=if_neg g
  refine⟨ab,x,t, opt (b,j) R2,rfl,⟨by rw[A];exact p,p.rep (.nd a j B,q) s_,rfl,fun e=>absurd e g,fun _=>?_,?_,fun v u=>?_,fun k=>?_,by rw[y,hm.kl.len,h.len],by rw[y,hm.kl.len];exact Z,fun M W=>?_⟩⟩
  . rw[w,aa]
    by_cases hb:below=0
    . have S:B = .nil:=h.rep.AO (h.root.trans hb)
      rw[S,h.start hb]
      simp[gm]
    . have:=h.last hb
      rw[Hj,DP,this]
      simp
  . rw[A]
    obtain⟨ρ,r1,r2⟩:=h.fo.sZ
    refine tq.mono (c:=ρ j) ⟨r1,r2⟩ (fun e n H=>?_) X ?_
    . rcases zg.1 (C.mem_iff.1 n)with rfl|n
      . exact absurd (H j o) o_
      . rcases pR.1 n with ⟨d,rfl⟩|n
        . have K:=h.rep.mZ d
          have r:=r2 (B,j) (pR.2 (.inl ⟨d,rfl⟩)) g _ K
          have h4:=H _ K
          simp only at r
          omega
        . exact mO _ (pR.2 (.inr n))
    . by_cases hq:q=0
      . exact .inl hq
      . exact .inr (r2 (T,q) s hq j o)
  . rw[A,D,s1,<-h.par]
    exact gL.perm (C.symm.map _)
  . rw[E,hm.kl.key,h.key]
  . rcases h.Bj M W with ⟨z,G⟩|⟨z,_⟩
    . rcases zg.1 (hp.mem_iff.1 z)with e|r
      . cases e
        refine .inr ⟨rfl,g,?_⟩
        have e1:gm ys false (.nd a j b)=gm xs false T:=hm.ord false
        have O:gm ys false (.nd a j b)=gm ys false a++j :: gm ys false b:=by simp only[gm,I,DN,cond_false]
        have P:gm xs false T=gm xs0 false T:=Gl G
        rw[w,<-P,<-e1,O]
        cases gm ys false a<;>simp
      . refine .inl ⟨pR.2 (.inr r),fun k l => ?_⟩
        have J:k∉T.mem:=fun ht=>by
         have Y:=f.split.2.2 k ht
         exact Y (oH (pR.2 (.inr r)) l)
        rw[x k (fun e=>J (e▸o)),hm.other k J,G k l]
    . exact absurd z g
theorem Ex.fin{xs0 xs:List Nd}{F0 R:FT}{i below m:Nat}{B:Tr}(h:Ex xs0 F0 i xs below 0 m R B)(hi:i≠0) :
 gR xs B 0/\i∈B.mem/\B.mem.Nodup/\B.mem.length<=1000000/\Out xs 0 B.mem/\∀ ys a b,jJ xs ys B [] (.nd a i b) 0->(fJ ys i).flip=false ->
  b = .nil/\Fo ys ((.nd a i .nil,0) :: R)/\(∀ v u,gL (gr ys ((.nd a i .nil,0) :: R)) v u↔gL (gr xs0 F0) v u)/\(∀ k,(fJ ys k).key=(fJ xs0 k).key)/\ys.length=xs0.length /\
   (∀ c,(c,0)∈F0->((c,0)∈R/\∀ k∈c.mem,fJ ys k=fJ xs0 k)\/(gm ys false (.nd a i .nil)).head? = (gm xs0 false c).head?):=by
 have hb:below≠0:=fun e=>hi (h.start e).symm
 have s:B.root≠0:=by rw[h.root];exact hb
 have o:opt (B,0) R=(B,0) :: R:=if_neg s
 have f:=h.fo
 rw[o]at f
 have d:=h.last hb
 have A:i∈B.mem:=(ni xs false B).mem_iff.1 (By d)
 refine⟨h.rep,A,f.split.1,f.count,.inl rfl,fun ys a b hm z=>?_⟩
 obtain⟨g,s1,D⟩:=f.S3 hm
 have e1:gm ys false (.nd a i b)=gm xs false B:=hm.ord false
 have p:gm ys false (.nd a i b)=gm ys false a++i :: gm ys false b:=by simp only[gm,z,DN,cond_false]
 have w:b = .nil:=by
  rw[<-e1,p,Hj,DP]at d
  have y:gm ys false b=[]:=by
   cases hl:(gm ys false b).getLast? with
   | none=>exact Hh.1 hl
   | some x =>
    rw[hl]at d
    simp at d
    subst d
    have C:x∈b.mem:=(ni ys false b).mem_iff.1 (By hl)
    have n:=g.split.1
    simp only[Tr.mem,zr,zw]at n
    exact absurd C n.2.1.1
  have:=(ni ys false b).length_eq
  rw[y]at this
  cases b with
  | nil=>rfl
  | nd _ _ _=>simp[Tr.mem]at this
 subst w
 refine⟨rfl,g,fun v u=>?_,fun k=>?_,by rw[hm.kl.len,h.len],fun c t=>?_⟩
 . rw[s1,<-h.par,o]
 . rw[hm.kl.key,h.key]
 . rcases h.Bj c t with ⟨j,q⟩|⟨_,_,r⟩
   . exact .inl ⟨j,fun k l=>by rw[D (c,0) j k l,q k l]⟩
   . exact .inr (by rw[e1];exact r)
end Go.Sx
namespace Go.Sx
open Go
theorem KY(xs:List Nd):∀ (t:Tr) (φ:Bool),gm xs (!φ) t=(gm xs φ t).reverse
 | .nil,_=>rfl
 | .nd l i r,φ=>by
  have e:xor (!φ) (fJ xs i).flip = !(xor φ (fJ xs i).flip):=by cases φ<;>cases (fJ xs i).flip<;>rfl
  simp only[gm,e,KY xs l,KY xs r]
  cases xor φ (fJ xs i).flip<;>simp
theorem Gj{xs:List Nd}{F:FT}(h:(jO F).Nodup):(uS (gr xs F)).Nodup:=by
 have hp:(uS (gr xs F)).Perm (jO F):=by
  unfold uS gr jO
  rw[List.flatMap_map]
  clear h
  induction F with
  | nil=>exact .nil
  | cons e F a=>simp only[zy];exact((ni xs false e.1).append_right _).trans (a.append_left _)
 exact hp.nodup_iff.2 h
theorem Fo.nJ{xs:List Nd}{F:FT}(h:Fo xs F){v u a : Nat}(h1:gL (gr xs F) v u)(b:gL (gr xs F) v a):u=a := Go.Sx.nJ (Gj h.nodup) h1 b
theorem Fo.uZ{xs:List Nd}{F:FT}(h:Fo xs F){T:Tr}{q:Nat}(a:(T,q)∈F):∀ x∈gm xs false T,x≠0:=fun x b=>((h.rep (T,q) a).o5 x ((ni xs false T).mem_iff.1 b)).1
theorem Fo.below{xs:List Nd}{F:FT}(h:Fo xs F){T:Tr}(a:(T,0)∈F){v r:Nat}(hv:v∈T.mem)(b:(gm xs false T).head? = some r):PR (gL (gr xs F)) v r :=
 (PR.Fi (q:=0) b (h.uZ a) (fun v u hp=>⟨(gm xs false T,0),zz.2 ⟨(T,0),a,rfl⟩,hp⟩) ((ni xs false T).mem_iff.2 hv)).1 rfl
structure ja (xs0:List Nd) (F0:FT) (ys:List Nd) (i:Nat) (a:Tr) (R:FT):Prop where
 fo:Fo ys ((.nd a i .nil,0) :: R)
 flip:(fJ ys i).flip=false
 par:∀ v u,gL (gr ys ((.nd a i .nil,0) :: R)) v u↔gL (gr xs0 F0) v u
 key:∀ k,(fJ ys k).key=(fJ xs0 k).key
 len:ys.length=xs0.length
 Bj:∀ T0,(T0,0)∈F0->((T0,0)∈R/\∀ k∈T0.mem,fJ ys k=fJ xs0 k)\/(gm ys false (.nd a i .nil)).head? = (gm xs0 false T0).head?
theorem ja.seq{xs0 ys:List Nd}{F0 R:FT}{i:Nat}{a:Tr}(h:ja xs0 F0 ys i a R):gm ys false (.nd a i .nil)=gm ys false a++[i]:=by
 simp only[gm,h.flip,DN,cond_false]
theorem ja.head{xs0 ys:List Nd}{F0 R:FT}{i:Nat}{a:Tr}(h:ja xs0 F0 ys i a R):∃ r,(gm ys false (.nd a i .nil)).head? = some r/\r∈(Tr.nd a i .nil).mem:=by
 have hm:i∈gm ys false (.nd a i .nil):=by rw[h.seq];simp
 cases hs:gm ys false (.nd a i .nil)with
 | nil=>rw[hs]at hm;simp at hm
 | cons r l=>exact⟨r,rfl,(ni ys false (.nd a i .nil)).mem_iff.1 (by rw[hs];simp)⟩
theorem ja.top{xs0 ys:List Nd}{F0 R:FT}{i:Nat}{a:Tr}(h:ja xs0 F0 ys i a R){r:Nat}(b:(gm ys false (.nd a i .nil)).head? = some r){v:Nat}(hv:v∈(Tr.nd a i .nil).mem):PR (gL (gr xs0 F0)) v r :=
 (h.fo.below (T:=.nd a i .nil) s_ hv b).mono fun v u hp=>(h.par v u).1 hp
def jy(ys:List Nd)(i:Nat):List Nd:=fO ys i (fun x=>{ x with flip:=true })
theorem x8{xs0 ys:List Nd}{F0 R:FT}{i:Nat}{a:Tr}(h:ja xs0 F0 ys i a R) :
 Fo (jy ys i) ((.nd a i .nil,0) :: R)/\gm (jy ys i) false (.nd a i .nil)=(gm ys false (.nd a i .nil)).reverse/\gr (jy ys i) R=gr ys R/\(jy ys i).length=ys.length/\(∀ k,k≠i->fJ (jy ys i) k=fJ ys k)/\∀ k,(fJ (jy ys i) k).key=(fJ ys k).key:=by
 obtain⟨n1,s,r⟩:=h.fo.split
 have g:=h.fo.rep (.nd a i .nil,0) s_
 have q:=g.1.2
 have i0:=g.1.1
 have ll:(jy ys i).length=ys.length:=gB
 have l:fJ (jy ys i) i={ fJ ys i with flip:=true }:=jS q
 have c:∀ k,k≠i->fJ (jy ys i) k=fJ ys k:=fun k b=>jQ (fun e=>b e.symm)
 have j:∀ k,∃ f,fJ (jy ys i) k={ fJ ys k with flip:=f }:=fun k=>by
  by_cases e:k=i
  . subst e;exact⟨true,l⟩
  . exact⟨(fJ ys k).flip,by rw[c k e]⟩
 have o:i∈(Tr.nd a i .nil).mem:=by simp[Tr.mem]
 have n:∀ k∈jO R,fJ (jy ys i) k=fJ ys k:=fun k b=>c k (fun e=>r i o (e▸b))
 obtain⟨ρ,r1,r2⟩:=h.fo.sZ
 refine⟨⟨fun e d=>(h.fo.rep e d).u6 ll fun k _=>j k,h.fo.ne,h.fo.nodup,fun k m b=>h.fo.all k m (by rw[ll]at b;exact b),fun e d=>by rw[ll];exact h.fo.par e d,⟨ρ,r1,r2⟩,by rw[c 0 (fun e=>i0 e.symm)];exact h.fo.zero,by rw[ll];exact h.fo.pos,by rw[ll];exact h.fo.len⟩,?_,KS n,ll,c,fun k=>?_⟩
 . rw[<-KY]
   refine S5 ?_ fun k b=>?_
   . rw[l,h.flip];rfl
   . have:k≠i:=fun e=>by
      subst e
      simp only[Tr.mem,zr,zw]at n1
      have p : k∈a.mem:=by simpa[Tr.mem]using b
      exact n1.2.2 k p k s_ rfl
     rw[c k this]
 . obtain⟨f,e⟩:=j k
   rw[e]
theorem PR.adt{S:rF}{s s' : List Nat}(j:(uS ((s,0) :: S)).Nodup)(d:∀ x∈s', x≠0)(hp:s'.Perm s){a r:Nat}(f:s'.head? = some a)(c:r∈s){v:Nat}(k:PR (gL ((s,0) :: S)) v r):PR (gL ((s', 0) :: S)) v a:=by
 have key:∀ v∈s,PR (gL ((s', 0) :: S)) v a:=fun v hv=>(PR.Fi (q:=0) f d (fun v u g => gL.cons.2 (.inl g)) (hp.mem_iff.2 hv)).1 rfl
 induction k with
 | top h=>exact key _ c
 | @step v u r h e _ i =>
  by_cases hv:v∈s
  . exact key v hv
  . rcases gL.cons.1 h with b|b
    . exact absurd (tQ b) hv
    . exact .step (gL.cons.2 (.inr b)) e (i c)
theorem PR.apart{S:rF}{s s' : List Nat}(m:(uS ((s,0) :: S)).Nodup)(f:∀ x∈s,x≠0){r:Nat}(b:r∉s){v:Nat}(k:PR (gL ((s,0) :: S)) v r):v∉s/\PR (gL ((s', 0) :: S)) v r:=by
 have j:∀ v∈s,∃ h,h∈s/\PR (gL ((s,0) :: S)) v h:=fun v hv=>by
  cases s with
  | nil=>simp at hv
  | cons x l=>exact⟨x,s_,(PR.Fi (q:=0) rfl f (fun v u n => gL.cons.2 (.inl n)) hv).1 rfl⟩
 have o:∀ v u d, gL ((s,0) :: S) v u->gL ((s,0) :: S) v d -> u=d := fun v u d a g=>Go.Sx.nJ m a g
 have c:∀ {v},PR (gL ((s,0) :: S)) v r->v∉s:=fun {v} k hv=>by
  obtain⟨h,i,k'⟩:=j v hv
  exact b ((PR.unique o k k')▸i)
 refine⟨c k,?_⟩
 induction k with
 | top h =>
  rcases gL.cons.1 h with a|a
  . exact absurd (tQ a) b
  . exact .top (gL.cons.2 (.inr a))
 | step h e k p =>
  rcases gL.cons.1 h with a|a
  . exact absurd (tQ a) (c (.step h e k))
  . exact .step (gL.cons.2 (.inr a)) e (p b c)
structure D3 (ys:List Nd) (i:Nat) (a:Tr) (R:FT):Prop where
 fo:Fo ys ((.nd a i .nil,0) :: R)
 head:(gm ys false (.nd a i .nil)).head? = some i
theorem ja.tM{xs0 ys:List Nd}{F0 R:FT}{i:Nat}{a:Tr}(h:ja xs0 F0 ys i a R):D3 (jy ys i) i a R:=by
 obtain⟨b,c,_⟩:=x8 h
 refine⟨b,?_⟩
 rw[c,h.seq]
 simp
theorem ja.Qz{xs0 ys:List Nd}{F0 R:FT}{i:Nat}{a:Tr}(h:ja xs0 F0 ys i a R){v r:Nat}(hv:PR (gL (gr xs0 F0)) v r)(hi:PR (gL (gr xs0 F0)) i r)(k:∀ v u d, gL (gr xs0 F0) v u->gL (gr xs0 F0) v d -> u=d) :
 PR (gL (gr (jy ys i) ((.nd a i .nil,0) :: R))) v i:=by
 obtain⟨n,f,b,_⟩:=x8 h
 obtain⟨m, j, hm⟩:=h.head
 have e:m = r:=PR.unique k (h.top j (by simp[Tr.mem])) hi
 subst e
 have g:gr (jy ys i) ((.nd a i .nil,0) :: R)=((gm ys false (.nd a i .nil)).reverse,0) :: gr ys R:=by
  simp only[gr,ko]at b ⊢;rw[f,b]
 have c:gr ys ((.nd a i .nil,0) :: R)=(gm ys false (.nd a i .nil),0) :: gr ys R:=rfl
 rw[g]
 refine PR.adt (s:=gm ys false (.nd a i .nil)) (by rw[<-c];exact Gj h.fo.nodup) (fun x l=>?_) (List.reverse_perm _) (by rw[h.seq];simp) ((ni ys false (.nd a i .nil)).mem_iff.2 hm) (by rw[<-c];exact hv.mono fun v u hp=>(h.par v u).2 hp)
 exact h.fo.uZ (T:=.nd a i .nil) (q:=0) s_ x (List.mem_reverse.1 l)
theorem ja.QA{xs0 ys:List Nd}{F0 R:FT}{i:Nat}{a:Tr}(h:ja xs0 F0 ys i a R){v r b : Nat}(hv:PR (gL (gr xs0 F0)) v r)(hi:PR (gL (gr xs0 F0)) i b)(n:r≠b)(g:∀ v u j, gL (gr xs0 F0) v u->gL (gr xs0 F0) v j -> u=j) :
 PR (gL (gr (jy ys i) ((.nd a i .nil,0) :: R))) v r/\r∉(Tr.nd a i .nil).mem:=by
 obtain⟨o,l,c,_⟩:=x8 h
 have f:r∉(Tr.nd a i .nil).mem:=fun hm=>by
  obtain⟨r2,e,_⟩:=h.head
  have e1:r2=b := PR.unique g (h.top e (by simp[Tr.mem])) hi
  have k:r2=r:=PR.unique g (h.top e hm) (.top hv.root)
  exact n (k.symm.trans e1)
 have m:gr (jy ys i) ((.nd a i .nil,0) :: R)=((gm ys false (.nd a i .nil)).reverse,0) :: gr ys R:=by
  simp only[gr,ko]at c ⊢;rw[l,c]
 have d:gr ys ((.nd a i .nil,0) :: R)=(gm ys false (.nd a i .nil),0) :: gr ys R:=rfl
 rw[m]
 exact⟨(PR.apart (s:=gm ys false (.nd a i .nil)) (s' := (gm ys false (.nd a i .nil)).reverse) (by rw[<-d];exact Gj h.fo.nodup) (h.fo.uZ (T:=.nd a i .nil) (q:=0) s_) (fun hm=>f ((ni ys false (.nd a i .nil)).mem_iff.1 hm)) (by rw[<-d];exact hv.mono fun v u hp=>(h.par v u).2 hp)).2,f⟩
def Joined(xs:List Nd)(F:FT)(a b:Nat):Prop:=∃ r,PR (gL (gr xs F)) a r/\PR (gL (gr xs F)) b r
theorem ja.joined{xs0 ys:List Nd}{F0 R:FT}{i:Nat}{a:Tr}(h:ja xs0 F0 ys i a R)(u v:Nat):Joined ys ((.nd a i .nil,0) :: R) u v↔Joined xs0 F0 u v :=
 ⟨fun⟨r,b,c⟩=>⟨r,b.mono fun v u=>(h.par v u).1,c.mono fun v u=>(h.par v u).1⟩,fun⟨r,b,c⟩=>⟨r,b.mono fun v u=>(h.par v u).2,c.mono fun v u=>(h.par v u).2⟩⟩
theorem Qh{xs0 xs ys:List Nd}{F0 R R' : FT}{i j:Nat}{a b:Tr}(h:ja xs0 F0 xs i a R)(k:ja xs ((.nd a i .nil,0) :: R) ys j b R')(Q:i≠j):(fJ ys i).up≠0↔Joined xs0 F0 i j:=by
 have D:=h.fo
 obtain⟨r,G,Y⟩:=h.head
 obtain⟨o, H, S⟩:=k.head
 have C:PR (gL (gr xs0 F0)) i r:=h.top G (by simp[Tr.mem])
 have J:PR (gL (gr xs0 F0)) j o := (k.top H (by simp[Tr.mem])).mono fun v u=>(h.par v u).1
 have A:∀ v u p, gL (gr xs0 F0) v u->gL (gr xs0 F0) v p -> u=p := fun v u p m n=>h.fo.nJ ((h.par v u).2 m) ((h.par v p).2 n)
 constructor
 . intro B
   rcases k.Bj (.nd a i .nil) s_ with ⟨m,n⟩|m
   . have M:=k.fo.rep (.nd a i .nil,0) (mO _ m)
     exact absurd M.2.1.2.2 B
   . rw[G,H]at m
     simp only[Option.some.injEq]at m
     subst m
     exact⟨o, C,J⟩
 . rintro⟨r2,m,n⟩ B
   have e1:r=r2:=PR.unique A C m
   have K:o = r2:=PR.unique A J n
   have W:i<ys.length:=by rw[k.len];exact(D.rep (.nd a i .nil,0) s_).1.2
   have i0:i≠0:=(D.rep (.nd a i .nil,0) s_).1.1
   obtain⟨e,w,hm⟩:=qx.1 (k.fo.all i i0 W)
   -- i is the root of fP tree,which hangs from nothing
   have I:=k.fo.rep e w
   obtain⟨c,x,y,t⟩:=FE hm
   rw[t]at I
   obtain⟨O,N⟩:=(yL _ _ _).1 I
   have E:wM c e.2=0:=by rw[<-O.2.1.2.2];exact B
   have P:c=[]:=by
    cases c with
    | nil=>rfl
    | cons f c' => obtain⟨d,g,s⟩:=f;exact absurd E N.1.1
   subst P
   have F:e.2=0:=E
   obtain⟨T,q⟩:=e
   simp only[j5]at t F hm
   subst F
   subst t
   have hd:∃ z,(gm ys false (.nd x i y)).head? = some z/\z∈(Tr.nd x i y).mem:=by
    have:(gm ys false (.nd x i y)).length=(Tr.nd x i y).mem.length:=(ni ys false _).length_eq
    cases hs:gm ys false (.nd x i y)with
    | nil=>rw[hs]at this;simp[Tr.mem]at this
    | cons z l=>exact⟨z,rfl,(ni ys false (.nd x i y)).mem_iff.1 (by rw[hs];simp)⟩
   obtain⟨z,U,V⟩:=hd
   have X:PR (gL (gr xs0 F0)) i z:=(k.fo.below w hm U).mono fun v u hp=>(h.par v u).1 ((k.par v u).1 hp)
   have L:z=o := (PR.unique A X C).trans (e1.trans K.symm)
   have:=k.fo.Yf w (zd (a:=(Tr.nd b j .nil,0))) V (by rw[L];exact S)
   simp only[Prod.mk.injEq,Tr.nd.injEq]at this
   exact Q this.1.2.1
theorem RK{xs ys:List Nd}{R R' : FT}{i j:Nat}{a b:Tr}(h:D3 xs i a R)(k:ja xs ((.nd a i .nil,0) :: R) ys j b R')(f:PR (gL (gr xs ((.nd a i .nil,0) :: R))) j i):(gm ys false (.nd b j .nil)).head? = some i:=by
 obtain⟨r,c,_⟩:=k.head
 have:=PR.unique (P:=gL (gr xs ((.nd a i .nil,0) :: R))) (fun v u g d e=>h.fo.nJ d e) (k.top c (v:=j) (by simp[Tr.mem])) f
 rw[c,this]
end Go.Sx
namespace Go.Sx
open Go
theorem gR.one{xs:List Nd}{t:Tr}{p i:Nat}(h:gR xs t p)(hs:t.mem=[i]):t = .nd .nil i .nil:=by
 cases t with
 | nil=>simp[Tr.mem]at hs
 | nd l j r =>
  cases l with
  | nil =>
   cases r with
   | nil=>simp[Tr.mem]at hs;rw[hs]
   | nd _ _ _=>simp[Tr.mem]at hs
  | nd _ _ _ =>
   have:=congrArg List.length hs
   simp[Tr.mem]at this
   omega
theorem abb{xs:List Nd}{t:Tr}{i:Nat}(h:gm xs false t=[i]):t.mem=[i]:=by
 have:=ni xs false t
 rw[h]at this
 exact List.perm_singleton.1 this.symm
theorem acu{ys zs us:List Nd}{i j:Nat}{b a2 b2:Tr}{R R2 c:FT}(n:Fo ys ((.nd b j .nil,0) :: R))(hs:gm ys false (.nd b j .nil)=[i,j])
 (h1:ja ys ((.nd b j .nil,0) :: R) zs i a2 R2) (a:ja (jy zs i) ((.nd a2 i .nil,0) :: R2) us j b2 c):b2 = .nd .nil i .nil/\a2 = .nil:=by
 have p:∀ x∈[i,j],x≠0:=fun x v=>n.uZ (T:=.nd b j .nil) (q:=0) s_ x (by rw[hs];exact v)
 have i0:=p i s_
 have m:gL (gr ys ((.nd b j .nil,0) :: R)) i 0:=⟨(gm ys false (.nd b j .nil),0),by simp[gr],by rw[hs];exact qq.2 (.inl ⟨rfl,rfl⟩)⟩
 have p2:gL (gr ys ((.nd b j .nil,0) :: R)) j i:=⟨(gm ys false (.nd b j .nil),0),by simp[gr],by rw[hs];exact qq.2 (.inr (qq.2 (.inl ⟨rfl,rfl⟩)))⟩
 -- the first exposing
 have w:gL (gr zs ((.nd a2 i .nil,0) :: R2)) i ((gm zs false a2).getLast?.getD 0):=⟨(gm zs false (.nd a2 i .nil),0),by simp[gr],gm zs false a2,[],h1.seq,rfl⟩
 have e1:=h1.fo.nJ w ((h1.par i 0).2 m)
 have h:gm zs false a2=[]:=by
  cases d:(gm zs false a2).getLast? with
  | none=>exact Hh.1 d
  | some x =>
   rw[d]at e1
   simp only[zM]at e1
   exact absurd e1 (h1.fo.uZ (T:=.nd a2 i .nil) (q:=0) s_ x (by rw[h1.seq];exact xq _ (By d)))
 have o : a2 = .nil:=by
  have:=(ni zs false a2).length_eq
  rw[h]at this
  cases a2 with
  | nil=>rfl
  | nd _ _ _=>simp[Tr.mem]at this
 obtain⟨C,y,l,_⟩:=x8 h1
 have k:gr (jy zs i) ((.nd a2 i .nil,0) :: R2)=gr zs ((.nd a2 i .nil,0) :: R2):=by
  simp only[gr,ko]at l ⊢
  rw[y,l,h1.seq,h]
  rfl
 have z:gL (gr us ((.nd b2 j .nil,0) :: c)) i 0:=(a.par i 0).2 (by rw[k];exact(h1.par i 0).2 m)
 have A:gL (gr us ((.nd b2 j .nil,0) :: c)) j i:=(a.par j i).2 (by rw[k];exact(h1.par j i).2 p2)
 have u:gL (gr us ((.nd b2 j .nil,0) :: c)) j ((gm us false b2).getLast?.getD 0):=⟨(gm us false (.nd b2 j .nil),0),by simp[gr],gm us false b2,[],a.seq,rfl⟩
 have B:=a.fo.nJ u A
 have d:(gm us false b2).getLast? = some i:=by
  grind
 obtain⟨s,f⟩:∃ s,gm us false b2=s++[i]:=by
  obtain⟨s,e⟩:=LK.1 d
  exact⟨s,e⟩
 have hv:gL (gr us ((.nd b2 j .nil,0) :: c)) i (s.getLast?.getD 0):=⟨(gm us false (.nd b2 j .nil),0),by simp[gr],s,[j],by rw[a.seq,f];simp,rfl⟩
 have g:=a.fo.nJ hv z
 have t:s=[]:=by
  cases hl2:s.getLast? with
  | none=>exact Hh.1 hl2
  | some x =>
   rw[hl2]at g
   simp only[zM]at g
   exact absurd g (a.fo.uZ (T:=.nd b2 j .nil) (q:=0) s_ x (by rw[a.seq,f];simp[By hl2]))
 rw[t,tc]at f
 have r:=a.fo.rep (.nd b2 j .nil,0) s_
 exact⟨gR.one r.2.2.2.1 (abb f),o⟩
def nQ(us:List Nd)(i j:Nat):List Nd:=iH (fO (fO us i (fun x=>{ x with up:=0 })) j (fun x=>{ x with k0:=0 })) j
theorem afD{us:List Nd}{i j:Nat}{R:FT}(h:Fo us ((.nd (.nd .nil i .nil) j .nil,0) :: R)):Fo (nQ us i j) ((.nd .nil i .nil,0) :: (.nd .nil j .nil,0) :: R)/\(nQ us i j).length=us.length/\∀ k,k≠i->k≠j->fJ (nQ us i j) k=fJ us k:=by
 obtain⟨n1,O,B⟩:=h.split
 obtain⟨⟨t,jl⟩,⟨k0,k1,up⟩,v,hi,_⟩:=h.rep (.nd (.nd .nil i .nil) j .nil,0) s_
 have E := hi
 obtain⟨⟨i0,A⟩,⟨I,J,N⟩,iv,_,_⟩:=E
 have s:i≠j:=by
  simp only[Tr.mem,tc,vw,ox]at n1
  rintro rfl
  simp at n1
 obtain⟨M,e1⟩:∃ x,x=fO us i (fun x=>{ x with up:=0 }):=⟨_,rfl⟩
 obtain⟨d,f⟩:∃ x,x=fO M j (fun x=>{ x with k0:=0 }):=⟨_,rfl⟩
 have D:nQ us i j=iH d j:=by rw[f,e1];rfl
 have K:d.length=us.length:=by rw[f,e1,gB,gB]
 have a2:fJ d i={ fJ us i with up:=0 }:=by rw[f,jQ (fun e=>s e.symm),e1,jS A]
 have b2:fJ d j={ fJ us j with k0:=0 }:=by rw[f,jS (by rw[e1,gB];exact jl),e1,jQ s]
 have L:∀ k,k≠i->k≠j->fJ d k=fJ us k:=fun k b F => by rw[f,jQ (fun e=>F e.symm),e1,jQ (fun e=>b e.symm)]
 obtain⟨p,q⟩:=AZ (xs:=d) (i:=j) (l:=.nil) (r:=.nil) ⟨t,o_⟩ trivial trivial (by rw[b2];rfl) (by rw[b2];exact k1) (by simp[Tr.mem]) (by simp[Tr.mem])
 rw[<-D]at p q
 rw[show (fJ d j).up=0 by rw[b2];exact up]at q
 have c:fJ (nQ us i j) i={ fJ us i with up:=0 }:=by rw[p.other i s,a2]
 have u:∀ k,k≠i->k≠j->fJ (nQ us i j) k=fJ us k:=fun k o w=>by rw[p.other k w,L k o w]
 have ll:(nQ us i j).length=us.length:=by rw[p.len,K]
 have C:gR (nQ us i j) (.nd .nil i .nil) 0:=by
  refine⟨⟨i0,by rw[ll];exact A⟩,⟨by rw[c];exact I,by rw[c];exact J,by rw[c]⟩,?_,trivial,trivial⟩
  simp only[Tr.mem,tc]at iv ⊢
  refine⟨by rw[c];exact iv.size,?_,?_⟩
  . rw[c,iv.total];simp[oh,c]
  . rw[c];exact⟨iv.first.1,fun k b=>.inl (by have o:=iv.first.1;simp at b o;rw[b,o])⟩
 have G:i∈(Tr.nd (.nd .nil i .nil) j .nil).mem:=by simp[Tr.mem]
 have H:j∈(Tr.nd (.nd .nil i .nil) j .nil).mem:=by simp[Tr.mem]
 have nR:∀ e∈R,∀ k∈e.1.mem,k≠i/\k≠j:=fun e a k b=>⟨fun e' => B i G (e' ▸ oH a b),fun e' => B j H (e' ▸ oH a b)⟩
 have z:jO ((.nd .nil i .nil,0) :: (.nd .nil j .nil,0) :: R)=jO ((.nd (.nd .nil i .nil) j .nil,0) :: R):=by simp[jO,Tr.mem]
 obtain⟨ρ,r1,r2⟩:=h.sZ
 refine⟨⟨fun e a=>?_,fun e a=>?_,by rw[z];exact h.nodup,fun k g b=>by rw[z];exact h.all k g (by rw[ll]at b;exact b),fun e a=>?_,⟨ρ,fun e a=>?_,fun e a g=>?_⟩,by rw[u 0 (fun e=>i0 e.symm) (fun e=>t e.symm)];exact h.zero,by rw[ll];exact h.pos,by rw[ll];exact h.len⟩,ll,u⟩
 . rcases zg.1 a with rfl|a
   . exact C
   . rcases zg.1 a with rfl|a
     . exact q
     . exact(h.rep e (by simp[a])).r7 ll fun k b=>u k (nR e a k b).1 (nR e a k b).2
 . rcases zg.1 a with rfl|a
   . exact i0
   . rcases zg.1 a with rfl|a
     . exact t
     . exact h.ne e (by simp[a])
 . rw[ll]
   rcases zg.1 a with rfl|a
   . exact h.pos
   . rcases zg.1 a with rfl|a
     . exact h.pos
     . exact h.par e (by simp[a])
 . rcases zg.1 a with rfl|a
   . intro x m y n;simp[Tr.mem]at m n;rw[m,n]
   . rcases zg.1 a with rfl|a
     . intro x m y n;simp[Tr.mem]at m n;rw[m,n]
     . exact r1 e (by simp[a])
 . rcases zg.1 a with rfl|a
   . exact absurd rfl g
   . rcases zg.1 a with rfl|a
     . exact absurd rfl g
     . exact r2 e (by simp[a]) g
def lq(zs:List Nd)(a b:Nat):List Nd := 
 let c:=fO zs a (fun x=>{ x with up:=b })
 iH (fO c b (fun x=>{ x with iL:=IntKind.i64.wrap (x.iL+(fJ c a).total) })) b
theorem aaN{zs:List Nd}{a b:Nat}{x y:Tr}{R:FT}(h:Fo zs ((.nd y b .nil,0) :: (.nd x a .nil,0) :: R)):Fo (lq zs a b) ((.nd y b .nil,0) :: (.nd x a .nil,b) :: R)/\(lq zs a b).length=zs.length/\∀ k,k≠a->k≠b->fJ (lq zs a b) k=fJ zs k:=by
 obtain⟨n1,F,n3⟩:=h.split
 have V:=h.rep (.nd y b .nil,0) s_
 have A:=h.rep (.nd x a .nil,0) s_
 obtain⟨⟨b0,bl⟩,⟨S,T,U⟩,bv,hy,_⟩:=V
 have a0:=A.1.1
 have al:=A.1.2
 have t:a∈(Tr.nd x a .nil).mem:=by simp[Tr.mem]
 have u:b∈(Tr.nd y b .nil).mem:=by simp[Tr.mem]
 have n:∀ k∈(Tr.nd y b .nil).mem,k∉(Tr.nd x a .nil).mem/\k∉jO R:=fun k c=>by
  have:=n3 k c
  simp only[jO,zy,zp,not_or]at this
  exact this
 have D:a≠b:=fun e=>(n b u).1 (e▸t)
 have nA:(Tr.nd x a .nil).mem.Nodup/\∀ k∈(Tr.nd x a .nil).mem,k∉jO R:=by
  simp only[jO,zy,zr]at F
  exact⟨F.1,fun k m f=>F.2.2 k m k f rfl⟩
 obtain⟨I,e1⟩:∃ z,z=fO zs a (fun x=>{ x with up:=b }):=⟨_,rfl⟩
 obtain⟨g,q⟩:∃ z,z=fO I b (fun x=>{ x with iL:=IntKind.i64.wrap (x.iL+(fJ I a).total) }):=⟨_,rfl⟩
 have X:lq zs a b=iH g b:=by rw[q,e1];rfl
 have L:I.length=zs.length:=by rw[e1,gB]
 have M:g.length=zs.length:=by rw[q,gB,L]
 have a2:fJ g a={ fJ zs a with up:=b }:=by rw[q,jQ (fun e=>D e.symm),e1,jS al]
 obtain⟨N,b2⟩:∃ N,fJ g b={ fJ zs b with iL:=N }:=⟨_,by rw[q,jS (by rw[L];exact bl),e1,jQ D]⟩
 have O:∀ k,k≠a->k≠b->fJ g k=fJ zs k:=fun k c Y => by rw[q,jQ (fun e=>Y e.symm),e1,jQ (fun e=>c e.symm)]
 have ad:b∉y.mem:=by
  simp only[Tr.mem,zr,zw]at n1
  exact fun h=>n1.2.2 b h b s_ rfl
 have ab:gR g y b:=hy.r7 M fun k c=>O k (fun e=>(n k (by simp[Tr.mem,c])).1 (e▸t)) (fun e=>ad (e▸c))
 obtain⟨w,B⟩:=AZ (xs:=g) (i:=b) (l:=y) (r:=.nil) ⟨b0,o_⟩ ab trivial (by rw[b2];exact S) (by rw[b2];exact T) n1 h.count
 rw[<-X]at w B
 rw[show (fJ g b).up=0 by rw[b2];exact U]at B
 have v:∀ k,k≠a->k≠b->fJ (lq zs a b) k=fJ zs k:=fun k m f=>by rw[w.other k f,O k m f]
 have ll:(lq zs a b).length=zs.length:=by rw[w.len,M]
 have j:fJ (lq zs a b) a={ fJ zs a with up:=b }:=by rw[w.other a D,a2]
 have W:gR (lq zs a b) (.nd x a .nil) b:=by
  obtain⟨⟨_,_⟩,⟨P,Q,_⟩,p,Z,_⟩:=A
  have ac:a∉x.mem:=by
   have:=nA.1
   simp only[Tr.mem,zr,zw]at this
   exact fun h=>this.2.2 a h a s_ rfl
  have K:∀ k∈x.mem,fJ (lq zs a b) k=fJ zs k:=fun k c=>v k (fun e=>ac (e▸c)) (fun e=>(n b u).1 (e▸by simp[Tr.mem,c]))
  refine⟨⟨a0,by rw[ll];exact al⟩,⟨by rw[j];exact P,by rw[j];exact Q,by rw[j]⟩,?_,Z.r7 ll K,trivial⟩
  have C:∀ k∈x.mem++a :: Tr.nil.mem,(fJ (lq zs a b) k).key=(fJ zs k).key/\(fJ (lq zs a b) k).iL=(fJ zs k).iL:=fun k c=>by
   simp only[Tr.mem,zp,zg,mo,or_false]at c
   rcases c with c|rfl
   . rw[K k c];exact⟨rfl,rfl⟩
   . rw[j];exact⟨rfl,rfl⟩
  refine⟨by rw[j];exact p.size,?_,?_⟩
  . rw[j,show oh (lq zs a b) (x.mem++a :: Tr.nil.mem)=oh zs (x.mem++a :: Tr.nil.mem) from congrArg List.sum (zK fun k c=>by rw[(C k c).2])]
    exact p.total
  . rw[j]
    refine⟨p.first.1,fun k c=>?_⟩
    rcases p.first.2 k c with e|e
    . exact .inl e
    . refine .inr ?_
      rw[<-e]
      simp only[kT,(C k c).1,(C _ p.first.1).1]
 have nR:∀ e∈R,∀ k∈e.1.mem,k≠a/\k≠b:=fun e d k c=>⟨fun e' => nA.2 a t (e' ▸ oH d c),fun e' => (n b u).2 (e' ▸ oH d c)⟩
 have J:jO ((.nd y b .nil,0) :: (.nd x a .nil,b) :: R)=jO ((.nd y b .nil,0) :: (.nd x a .nil,0) :: R):=by simp[jO]
 obtain⟨ρ,r1,r2⟩:=h.sZ
 obtain⟨σ,E⟩:∃ σ:Nat->Nat,∀ k,σ k=if k∈(Tr.nd y b .nil).mem then ρ k+ρ a+1 else ρ k:=⟨_,fun _=>rfl⟩
 have H:∀ k∈(Tr.nd y b .nil).mem,σ k=ρ k+ρ a+1:=fun k c=>by rw[E,if_pos c]
 have o:∀ k,k∉(Tr.nd y b .nil).mem->σ k=ρ k:=fun k c=>by rw[E,if_neg c]
 have ae:∀ k,ρ k<=σ k:=fun k=>by rw[E];split<;>omega
 have G:∀ k∈(Tr.nd x a .nil).mem,k∉(Tr.nd y b .nil).mem:=fun k m f=>(n k f).1 m
 have oR:∀ e∈R,∀ k∈e.1.mem,k∉(Tr.nd y b .nil).mem:=fun e d k m f=>(n k f).2 (oH d m)
 refine⟨⟨fun e d=>?_,fun e d=>?_,by rw[J];exact h.nodup,fun k s c=>by rw[J];exact h.all k s (by rw[ll]at c;exact c),fun e d=>?_,⟨σ,fun e d=>?_,fun e d s=>?_⟩,by rw[v 0 (fun e=>a0 e.symm) (fun e=>b0 e.symm)];exact h.zero,by rw[ll];exact h.pos,by rw[ll];exact h.len⟩,ll,v⟩
 . rcases zg.1 d with rfl|d
   . exact B
   . rcases zg.1 d with rfl|d
     . exact W
     . exact(h.rep e (by simp[d])).r7 ll fun k c=>v k (nR e d k c).1 (nR e d k c).2
 . rcases zg.1 d with rfl|d
   . exact b0
   . rcases zg.1 d with rfl|d
     . exact a0
     . exact h.ne e (by simp[d])
 . rw[ll]
   rcases zg.1 d with rfl|d
   . exact h.pos
   . rcases zg.1 d with rfl|d
     . exact bl
     . exact h.par e (by simp[d])
 . rcases zg.1 d with rfl|d
   . intro i hi k c
     rw[H i hi,H k c,r1 (.nd y b .nil,0) s_ i hi k c]
   . rcases zg.1 d with rfl|d
     . intro i hi k c
       rw[o i (G i hi),o k (G k c),r1 (.nd x a .nil,0) s_ i hi k c]
     . intro i hi k c
       rw[o i (oR e d i hi),o k (oR e d k c),r1 e (by simp[d]) i hi k c]
 . rcases zg.1 d with rfl|d
   . exact absurd rfl s
   . rcases zg.1 d with rfl|d
     . intro i hi
       have:=r1 (.nd x a .nil,0) s_ i hi a t
       rw[o i (G i hi),H b u]
       omega
     . intro i hi
       have:=r2 e (by simp[d]) s i hi
       have:=ae e.2
       rw[o i (oR e d i hi)]
       omega
def qY(ys:List Nd)(i:Nat)(k:Int):List Nd:=iH (fO ys i (fun x=>{ x with key:=k })) i
theorem aeh{ys:List Nd}{i:Nat}{a:Tr}{R:FT}{c:Int}(h:Fo ys ((.nd a i .nil,0) :: R)):Fo (qY ys i c) ((.nd a i .nil,0) :: R)/\(qY ys i c).length=ys.length/\(∀ k,k≠i->fJ (qY ys i c) k=fJ ys k)/\(fJ (qY ys i c) i).key=c:=by
 obtain⟨n1,B,y⟩:=h.split
 obtain⟨⟨i0,w⟩,⟨k0,k1,up⟩,v,t,_⟩:=h.rep (.nd a i .nil,0) s_
 obtain⟨f,g⟩:∃ z,z=fO ys i (fun x=>{ x with key:=c }):=⟨_,rfl⟩
 have u:qY ys i c=iH f i:=by rw[g];rfl
 have p:f.length=ys.length:=by rw[g,gB]
 have a2:fJ f i={ fJ ys i with key:=c }:=by rw[g,jS w]
 have q:∀ k,k≠i->fJ f k=fJ ys k:=fun k b=>by rw[g,jQ (fun e=>b e.symm)]
 have A:i∉a.mem:=by
  simp only[Tr.mem,zr,zw]at n1
  exact fun h=>n1.2.2 i h i s_ rfl
 obtain⟨j,m⟩:=AZ (xs:=f) (i:=i) (l:=a) (r:=.nil) ⟨i0,o_⟩ (t.r7 p fun k b=>q k (fun e=>A (e▸b))) trivial (by rw[a2];exact k0) (by rw[a2];exact k1) n1 h.count
 rw[<-u]at j m
 rw[show (fJ f i).up=0 by rw[a2];exact up]at m
 have n:∀ k,k≠i->fJ (qY ys i c) k=fJ ys k:=fun k o=>by rw[j.other k o,q k o]
 have ll:(qY ys i c).length=ys.length:=by rw[j.len,p]
 have hm:i∈(Tr.nd a i .nil).mem:=by simp[Tr.mem]
 refine⟨⟨fun e d=>?_,h.ne,h.nodup,fun k s b=>h.all k s (by rw[ll]at b;exact b),fun e d=>by rw[ll];exact h.par e d,h.sZ,by rw[n 0 (fun e=>i0 e.symm)];exact h.zero,by rw[ll];exact h.pos,by rw[ll];exact h.len⟩,ll,n,by rw[j.kl.key,a2]⟩
 rcases zg.1 d with rfl|d
 . exact m
 . exact(h.rep e (by simp[d])).r7 ll fun k b=>n k (fun e' => y i hm (e' ▸ oH d b))
def uQ:Nd:=⟨0,0,0,false,0,0,0,0,0⟩
def wC(i:Nat):Nd:=⟨0,0,0,false,0,1,i,0,1⟩
def lB(n k:Nat):List Nd:=(List.range (n+1)).map fun i=>if 1<=i/\i<=k then wC i else uQ
theorem sV(n k:Nat):(lB n k).length=n+1:=by simp[lB]
theorem yE{n k i:Nat}(h:i<n+1):fJ (lB n k) i=if 1<=i/\i<=k then wC i else uQ:=by
 simp[fJ,lB,pY h]
theorem abW(n:Nat):lB n 0=List.replicate (n+1) uQ:=by
 apply List.ext_getElem
 . simp[lB]
 . grind [lB]
theorem abV{n k:Nat}(h:k<n):iH (lB n k) (k+1)=lB n (k+1):=by
 have b:k+1<(lB n k).length:=by rw[sV];omega
 have a:fJ (lB n k) (k+1)=uQ:=by rw[yE o_,if_neg o_]
 unfold iH
 rw[a]
 simp only[uQ,lJ,if_true]
 apply ow
 intro i
 by_cases hi:i=k+1
 . grind [gE,gB,jS,sV,yE,uQ,wC,LG]
 . grind [gE,gB,sV,jQ,yE]
def newF(n:Nat):FT:=(List.range n).map fun v=>(.nd .nil (v+1) .nil,0)
theorem abZ{n:Nat}(h:n<=1000000):Fo (lB n n) (newF n):=by
 have i:jO (newF n)=(List.range n).map (· + 1):=by
  unfold jO newF
  rw[List.flatMap_map]
  induction List.range n with
  | nil=>rfl
  | cons x l k =>
   rw[zy,k]
   rfl
 refine⟨fun e d=>?_,fun e d=>?_,?_,fun j g f=>?_,fun e d=>?_,⟨fun _=>0,fun _ _ _ _ _ _=>rfl,fun e d g=>?_⟩,?_,by rw[sV];omega,by rw[sV];omega⟩
 . obtain⟨v,hv,rfl⟩:=zz.1 d
   have hv:=l7.1 hv
   have c:fJ (lB n n) (v+1)=wC (v+1):=by rw[yE o_,if_pos o_]
   refine⟨⟨o_,by rw[sV];omega⟩,⟨by rw[c];rfl,by rw[c];rfl,by rw[c];rfl⟩,⟨by rw[c];rfl,?_,?_⟩,trivial,trivial⟩
   . rw[c];simp only[Tr.mem,tc,oh,ko,DT,c];rw[LG];rfl
   . rw[c];exact⟨by simp[wC,Tr.mem],fun j f=>.inl (by simpa[wC,Tr.mem]using f)⟩
 . obtain⟨v,hv,rfl⟩:=zz.1 d
   exact Nat.succ_ne_zero v
 . rw[i]
   exact List.Pairwise.map _ (fun a b (h:a≠b)=>by show a+1≠b+1;omega) xg
 . rw[i]
   rw[sV]at f
   exact zz.2 ⟨j-1,l7.2 o_,o_⟩
 . obtain⟨v,hv,rfl⟩:=zz.1 d
   rw[sV];show 0<n+1;omega
 . obtain⟨v,hv,rfl⟩:=zz.1 d
   exact absurd rfl g
 . rw[yE o_,if_neg o_];exact⟨rfl,rfl,rfl⟩
end Go.Sx
namespace Go.Sx
open Go
theorem TU{α:Type}[Inhabited α]{xs:List α}{i:Nat}{f g:α->α}(h:i<xs.length):fO (fO xs i f) i g=fO xs i (fun x=>g (f x)):=by
 have e:=jS (f:=f) h
 unfold fO at e ⊢
 rw[e,List.set_set]
theorem adp{xs:List Nd}{i:Nat}(h:i<xs.length):fO (fO (fO xs i (fun x=>{ x with size:=1 })) i (fun x=>{ x with first:=i })) i (fun x=>{ x with total:=IntKind.i64.wrap (1+(fJ xs i).iL) })=fO xs i (fun x=>{ x with size:=1,first:=i,total:=IntKind.i64.wrap (1+x.iL) }):=by
 rw[TU h,TU h];rfl
theorem uY{xs y:List Nd}{i:Nat}(a:y=fO xs i (fun x=>{ x with size:=1,first:=i,total:=IntKind.i64.wrap (1+x.iL) }))(h:i<xs.length):iH xs i=lJ (lJ y i (fJ y i).k0) i (fJ y i).k1:=by
 have b:(fJ y i).k0=(fJ xs i).k0:=by rw[a,jS h]
 have e1:(fJ y i).k1=(fJ xs i).k1:=by rw[a,jS h]
 rw[b,e1,a];rfl
theorem tV{xs:List Nd}{i k:Nat}(h:k=0):lJ xs i k=xs:=by simp[lJ,h]
section
variable {xs y0 y1 y2:List Nd} {i k:Nat}
theorem tU(h:k≠0)(a:y0=fO xs i (fun x=>{ x with size:=IntKind.i64.wrap ((fJ xs i).size+(fJ xs k).size) }))(e1:y1=fO y0 i (fun x=>{ x with total:=IntKind.i64.wrap ((fJ y0 i).total+(fJ y0 k).total) }))
 (c:kT y1 (fJ y1 k).first (fJ y1 i).first=true) (b:y2=fO y1 i (fun x=>{ x with first:=(fJ y1 k).first })):lJ xs i k=y2:=by
 subst a e1 b
 simp only[lJ,if_neg h]
 exact if_pos c
theorem tT(h:k≠0)(a:y0=fO xs i (fun x=>{ x with size:=IntKind.i64.wrap ((fJ xs i).size+(fJ xs k).size) }))(e1:y1=fO y0 i (fun x=>{ x with total:=IntKind.i64.wrap ((fJ y0 i).total+(fJ y0 k).total) }))
 (b:kT y1 (fJ y1 k).first (fJ y1 i).first=false):lJ xs i k=y1:=by
 have c : ¬ kT y1 (fJ y1 k).first (fJ y1 i).first=true:=by rw[b];simp
 subst a e1
 simp only[lJ,if_neg h]
 exact if_neg c
end
theorem Dp(xs:List Nd)(i:Nat):jH xs i=(0,false)\/jH xs i=(0,true)\/jH xs i=(1,true):=by
 unfold jH
 (repeat' split)<;>simp
theorem gf.kD{xs:List Nd}(h:gf xs){i s k:Nat}(hi:i<xs.length)(hk:k<xs.length):gf (iU xs i s k):=by
 have f:gf (if s=0 then fO xs i (fun x=>{ x with k0:=k })else fO xs i (fun x=>{ x with k1:=k })):=by
  split
  . exact h.iN hi fun x a b c d e=>⟨hk,b,c,d,e⟩
  . exact h.iN hi fun x a b c d e=>⟨a,hk,c,d,e⟩
 have g:(if s=0 then fO xs i (fun x=>{ x with k0:=k })else fO xs i (fun x=>{ x with k1:=k })).length=xs.length:=by split<;>exact gB
 by_cases hk0:k=0
 . simp only[iU,if_pos hk0]
   exact f
 . simp only[iU,if_neg hk0]
   exact f.iN (by rw[g];exact hk) fun x a b c d e=>⟨a,b,by rw[g];exact hi,d,e⟩
theorem Fg(xs:List Nd)(i s k:Nat):(iU xs i s k).length=xs.length:=by
 unfold iU
 simp only
 (repeat' split)<;>simp only[gB]
theorem Ky(xs:List Nd)(i k:Nat):(lJ xs i k).length=xs.length:=by
 unfold lJ
 simp only
 (repeat' split)<;>simp only[gB]
theorem F8(xs:List Nd)(i:Nat):(iH xs i).length=xs.length:=by
 simp only[iH,Ky,gB]
theorem gf.lJ{xs:List Nd}(h:gf xs){i k:Nat}(hi:i<xs.length)(hk:k<xs.length):gf (lJ xs i k):=by
 have g:gf (fO xs i (fun x=>{ x with size:=IntKind.i64.wrap (x.size+(fJ xs k).size) })):=h.iN hi fun x a b c d e=>⟨a,b,c,d,e⟩
 have l0:(fO xs i (fun x=>{ x with size:=IntKind.i64.wrap (x.size+(fJ xs k).size) })).length=xs.length:=gB
 unfold Go.Sx.lJ
 simp only
 generalize fO xs i (fun x=>{ x with size:=IntKind.i64.wrap (x.size+(fJ xs k).size) })=y0 at g l0 ⊢
 have f:gf (fO y0 i (fun x=>{ x with total:=IntKind.i64.wrap (x.total+(fJ y0 k).total) })):=g.iN o_ fun x a b c d e=>⟨a,b,c,d,e⟩
 have j:(fO y0 i (fun x=>{ x with total:=IntKind.i64.wrap (x.total+(fJ y0 k).total) })).length=y0.length:=gB
 generalize fO y0 i (fun x=>{ x with total:=IntKind.i64.wrap (x.total+(fJ y0 k).total) })=y1 at f j ⊢
 split
 . exact h
 split
 . exact f.iN o_ fun x a b c d e=>⟨a,b,c,f.first k o_,e⟩
 . exact f
theorem gf.lI{xs:List Nd}(h:gf xs){i:Nat}(hi:i<xs.length):gf (iH xs i):=by
 have f:gf (fO xs i (fun x=>{ x with size:=1,first:=i,total:=IntKind.i64.wrap (1+x.iL) })):=h.iN hi fun x a b c d e=>⟨a,b,c,hi,e⟩
 have l0:(fO xs i (fun x=>{ x with size:=1,first:=i,total:=IntKind.i64.wrap (1+x.iL) })).length=xs.length:=gB
 have a:=h.k0 i hi
 have b:=h.k1 i hi
 unfold iH
 exact(f.lJ o_ o_).lJ (by rw[Ky];omega) (by rw[Ky];omega)
end Go.Sx
namespace Go.Sx
open Go
theorem om{p:Prop}(h:p:=by first|omega|(simp only[gB];omega)):p:=h
theorem oa{p:Prop}(h:p:=by first|assumption|omega|(simp only[gB];omega)):p:=h
theorem o9{p q:Prop}(a:q)(h:q->p:=by intro a;first|omega|(simp only[gB]at a ⊢;omega)|(simp only[gB]at a;omega)|(simp only[gB];omega)):p:=h a
theorem iG{bs:List (World×List Nat)}{A:fS}{nb t m:Nat}{z:List Nd}{w:World}(a:gf z)(hs:St bs [A,blk nb t (z.flatMap Nd.cells)] w)(b:z.length=m:=by first|omega|(simp only[gB];omega)|(rw[Fg];omega)|(rw[F8];omega)|omega):∃ y,y=z/\y.length=m/\gf y/\St bs [A,blk nb t (y.flatMap Nd.cells)] w:=⟨z,rfl,b,a,hs⟩
section
variable {Γ:Type} {P:Program} {ops:Array Oper} {Q:Exit->Act->World->Prop} {n:Nat} {ds:List Deferred} {s0:List (Nat×Value)} {l0:List Oper} {pre:List (List Nat)} {mem:List Nat} {V:List (Γ->Value)} {bs:List (World×List Nat)} {Ls:List ((Γ->List fS)×(Γ->World->Prop))} {i:Nat} {s:Γ->List (Nat×Value)} {o:Oper} {l:List Oper} {v:Γ->Value} {vs:List (Γ->Value)}
theorem uU(h:∀ g w,(execOp (ev n (s g)) o).run P w = .ok (.value (v g)) w)(K:lQ P ops Q n ds s0 l0 pre mem V (jC bs Ls) (i+1) (fun g=>kG o.dst (v g) (s g)) l vs)(hm:mem.contains i=false:=by exact rfl)(a:∀ g,gD ops n (s g) o.guard=true:=by exact fun _=>rfl)(hd:nH o.op=true:=by exact rfl) :
 lQ P ops Q n ds s0 l0 pre mem V (jC bs Ls) i s (o :: l) (v :: vs):=ab6 hm (fun g w C=>qv (a g) hd (h g w)) K
end
section
variable {P:Program} {bs:List (World×List Nat)} {L LL A A' B:List fS} {R R' : fS} {w w' : World}
theorem St.tn(i:Nat)(h:St bs L w)(b:fZ R w w' R')(hi:L[i]? = some R:=by exact rfl)(a:L.set i R' = LL:=by first|(dsimp only[List.set];exact rfl)|exact rfl):St bs LL w' := St.Lu i h hi b a
theorem St.tu(h:St bs (gq A :: B) w)(a:fZ (gq A) w w' (gq A')):St bs (A' ++ B) w' := (St.Lu 0 h rfl a rfl).unpack
theorem St.eT(h:St bs (R' :: L) w')(hb:(w,R.gK)∈bs:=by exact zd):fZ R w w' R' := h.ET hb
theorem St.eM(h:St bs (R :: L) w')(hb:(w,[])∈bs:=by simp):fZ (gq []) w w' R:=h.Od hb
theorem en{f:FuncId}{fn:Func}{c:Code}{n:Nat}{vs:List Value}{R:Ending->World->Prop}(a:P.funcs[f]? = some fn)(b:fn.ntmps=n)(h:WP none P c (bodyPost P fn R) (Fr n (vT vs 0) []) w)(hb:fn.body=some c:=by exact rfl)(hs:Nat.ble vs.length n=true:=by exact rfl):Calls P f vs.toArray w R:=enter a hb b hs h
variable {ops:Array Oper} {Q:Exit->Act->World->Prop} {n:Nat} {s:List (Nat×Value)} {ds:List Deferred} {r d:Option Nat} {ty:TypeId} {pos:String} {af:Array Edge} {g:Option (Nat×Bool)} {rest:List Oper}
theorem cl{f:FuncId}{a:List Operand}{T:Array TypeId}{vl:List Value}{R:Value->World->Prop}(c:gi P f)(b:CR P f vl.toArray w R)(K:∀ v w', R v w' -> WL r P ops Q rest (Fr n (kG d v s) ds) w')(e:gD ops n s g=true:=by exact rfl)(hvs:a.map (ev n s)=vl:=by exact rfl) :
 WL r P ops Q (⟨d,.call ⟨.value (.func f),a.toArray,T⟩,ty,pos,af,g⟩ :: rest) (Fr n s ds) w:=jN e hvs c b K
end
end Go.Sx
namespace Go.Sx
open Go
theorem Yz(a k:Nat)(m:Nat)(h:k<=m):(a:Int).fdiv (2 ^ (min ((k:Nat):Int).toNat m))=((a / 2 ^ k:Nat):Int):=by
 rw[nq,uo h]
 rw[Int.fdiv_eq_ediv_of_nonneg _ (Int.pow_nonneg d_)]
 simp
section
variable {r:Option Nat} {P:Program} {ops:Array Oper} {Q:Exit->Act->World->Prop} {rest:List Oper} {n d:Nat} {s:List (Nat×Value)} {ds:List Deferred} {w:World} {ty:TypeId} {pos:String} {af:Array Edge} {g:Option (Nat×Bool)}
theorem ZK{x y:Operand}{t:TypeId}{k:IntKind}{b:ByteArray}{i:Int}(m:Nat)(e:gD ops n s g=true)(h:ev n s x = .string b)(j:ev n s y = .int k i)(f:P.underlying t=some .string)(hm:b.size=m)(a:0<=i)(hi:i<m)
 (K:∀ c:UInt8,c.toNat<256->WL r P ops Q rest (Fr n ((d,.int .u8 c.toNat) :: s) ds) w):WL r P ops Q (⟨some d,.index t x y,ty,pos,af,g⟩ :: rest) (Fr n s ds) w :=
 ZJ e h j f a (getElem?_pos b i.toNat (by show i.toNat<b.size;omega)) (K _ (UInt8.toNat_lt _))
end
end Go.Sx
namespace Go.Sx
open Go
section
variable {P:Program} {w:World} {v:Value} {xs:List Int} {e:TypeId} {f:FuncId}
theorem ZD{b cap:Nat}{cur:Array Value}(d:w.heap[b]? = some (.cells cur e (0,0)))(f:cur.toList.take xs.length=xs.map (Value.int .i64)):Go.Sort.Holds (Value.int .i64) w b 0 xs.toArray:=by
 intro j g
 have a : j<xs.length:=by simpa using g
 have c:(cur.toList.take xs.length)[j]? = some (Value.int .i64 xs[j]):=by rw[f];simp[a]
 rw[LM a]at c
 refine⟨?_,?_⟩
 . simp only[World.cell?,d]
   have e1:xs.toArray[j]! = xs[j]:=by simp[a]
   rw[e1]
   simpa using c
 . simp[World.frozen?,d]
theorem Wj(s:Own (ig .i64 v e xs) w){i:Nat}(hi:i<xs.length)
 (t:∀ b cap,Go.Sort.Holds (Value.int .i64) w b 0 xs.toArray->xs.length<=cap->cap<=9223372036854775807 ->
  Calls P f #[.slice (some ⟨b,0,none⟩) xs.length cap,.int .i64 (i:Int),.int .i64 ((i+1:Nat):Int)] w fun en w' => en = .returned (.slice (some ⟨b,0,none⟩) (xs.length-(i+1-i)) cap) /\
   ∃ q,w' = Go.Sort.putRow (Value.int .i64) (Go.Sort.ahead w q) b 0 (xs.take i++xs.drop (i+1)++List.replicate (i+1-i) 0).toArray) :
 CR P f #[v,.int .i64 (i:Int),.int .i64 ((i+1:Nat):Int)] w (fun r w' => fZ (ig .i64 v e xs) w w' (ig .i64 r e (xs.eraseIdx i))):=by
 have H:w.ownsRow 0 e 1 v xs.length (xs.map (Value.int .i64)):=s.holds
 rcases H.2 with ⟨_,L⟩|⟨a, cap,cur,rfl,hb,g,o,k,l,m⟩
 . omega
 . have p : cur.toList.take xs.length=xs.map (Value.int .i64):=by rw[sC]at m;simpa using m
   refine Calls.mono (t a cap (ZD (cap:=cap) g p) o (by simpa[maxLen]using k)) ?_
   rintro en w' ⟨rfl,q,rfl⟩
   refine⟨_,rfl,?_⟩
   have z:xs.eraseIdx i=xs.take i++xs.drop (i+1):=G7 xs i
   have E:(xs.eraseIdx i).length=xs.length-(i+1-i):=by rw[List.length_eraseIdx_of_lt hi];omega
   have A:a < w.heap.size:=(pX.1 g).1
   obtain⟨d,hd⟩:∃ d,d=(xs.take i++xs.drop (i+1)++List.replicate (i+1-i) 0).toArray:=⟨_,rfl⟩
   rw[<-hd]
   have y:d.size=xs.length:=by rw[hd];simp;omega
   have F:(Go.Sort.putRow (Value.int .i64) (Go.Sort.ahead w q) a 0 d).heap[a]? = some (.cells (Go.Sort.putCells (Value.int .i64) 0 d cur) e (0,0)):=by
    simp only[Go.Sort.putRow,Go.Sort.mapBlock,Go.Sort.ahead,zH,if_pos,g]
    rfl
   have G:∀ b,b≠a -> (Go.Sort.putRow (Value.int .i64) (Go.Sort.ahead w q) a 0 d).heap[b]? = w.heap[b]? := by
    intro b hb
    simp only[Go.Sort.putRow,Go.Sort.mapBlock,Go.Sort.ahead,zH]
    rw[if_neg (fun e=>hb e.symm)]
   have n:(Go.Sort.putRow (Value.int .i64) (Go.Sort.ahead w q) a 0 d).heap.size=w.heap.size:=by simp[Go.Sort.putRow,Go.Sort.mapBlock,Go.Sort.ahead]
   have I:(Go.Sort.putCells (Value.int .i64) 0 d cur).size=cur.size:=by simp[Go.Sort.putCells]
   have J:(Go.Sort.putCells (Value.int .i64) 0 d cur).toList.take (xs.eraseIdx i).length=(xs.eraseIdx i).map (Value.int .i64):=by
    apply ow
    intro j
    rw[vr,lZ]
    split
    . rename_i h
      have B:j<xs.length:=by omega
      have C:j<cur.size:=by
       have:xs.length<=cur.size:=by rw[l];omega
       omega
      have x:d[j]! = (xs.eraseIdx i)[j]:=by
       have u:d=(xs.eraseIdx i++List.replicate (i+1-i) 0).toArray:=by rw[hd,z]
       rw[u]
       have D:j<(xs.eraseIdx i++List.replicate (i+1-i) 0).toArray.size:=by simp only[List.size_toArray,zt];omega
       rw[getElem!_pos _ j D,List.getElem_toArray,List.getElem_append_left h]
      simp only[Go.Sort.putCells,zI,LY,oN,true_and,lP,Nat.sub_zero]
      rw[uh C]
      simp only[xl]
      rw[if_pos (by rw[y];exact B),x]
      simp[h]
    . rename_i h
      rw[nk o_]
      rfl
   refine⟨?_,⟨rfl,rfl,rfl,Nat.le_of_eq n.symm,fun b hb K=>G b (fun e=>K (by simp[row,Value.ownBlock,e]))⟩,fun b c => .inl (by simpa[row,Value.ownBlock]using c),by simp[row,Value.ownBlock],fun b c => ?_⟩
   . refine⟨s_,.inr ⟨a, cap,_,by rw[E],hb,F,o_,k,by rw[I];exact l,?_⟩⟩
     rw[sC]
     simpa using J
   . simp[row,Value.ownBlock]at c
     subst c
     rw[n]
     exact A
end
end Go.Sx
namespace Go.Sx
open Go
section
variable {P:Program} {t:TypeId} {w:World}
theorem SF {a b : Field} {xs ys : Array Value} {f g y1 y2 : Value} {c d : Bool} (h : P.underlying t = some (.struct #[a, b])) (hs : P.stoodInHeld t = false) (n1 : a.name ≠ "_") (i : b.name ≠ "_")
 (j:(part a.type xs a.offset).run P w = .ok f w) (k:(part a.type ys a.offset).run P w = .ok y1 w) (p2:(part b.type xs b.offset).run P w = .ok g w) (l:(part b.type ys b.offset).run P w = .ok y2 w)
 (e1:(Op.equalIn 9999 a.type f y1).run P w = .ok c w) (e:(Op.equalIn 9999 b.type g y2).run P w = .ok d w):(Op.equal t (.agg xs) (.agg ys)).run P w = .ok (c&&d) w:=by
 show (Op.equalIn (9999+1) t _ _).run P w=_
 unfold Op.equalIn
 simp[run_underlying h,hs,n1,i,j,k,p2,l,e1,e]
 cases c<;>cases d<;>simp[e]
theorem ad1{e:TypeId}{k:IntKind}{by_:Nat}{z:Value}(g:P.underlying t=some (.array 2 e))(f:P.underlying e=some (.int k))(hi:TI P e 1 by_ z)(a0 a1 b0 b1:Int) :
 (Op.equal t (.agg #[.int k a0,.int k a1]) (.agg #[.int k b0,.int k b1])).run P w = .ok (decide (a0=b0/\a1=b1)) w:=by
 have p:∀ (c d:Value),(part e #[c,d] 0).run P w = .ok c w/\(part e #[c,d] 1).run P w = .ok d w:=fun c d=>⟨r0 f _ _ _ rfl,r0 f _ _ _ rfl⟩
 have q:=fun a b=>Dl (P:=P) (w:=w) 9998 f a b
 simp only[Nat.reduceAdd]at q
 show (Op.equalIn 10000 t _ _).run P w=_
 unfold Op.equalIn
 simp only[zx,run_underlying g,zo,hi.size,Std.Legacy.Range.forIn_eq_forIn_range', Std.Legacy.Range.size]
 simp only[show List.range' 0 ((2-0+1-1) / 1) 1=[0,1] from rfl,List.forIn_cons,List.forIn_nil,zx,sC,(p _ _).1,(p _ _).2,zo,q]
 by_cases h0:a0=b0
 . by_cases h1:a1=b1
   . simp[h0,h1,p,q,Result.andThen]
   . simp[h0,h1,p,q,Result.andThen]
 . simp[h0,p,q,Result.andThen]
theorem SH(a:P.underlying t=some .bool)(xs:Array Value)(i:Nat)(v:Value)(h:xs[i]? = some v):(part t xs i).run P w = .ok v w:=by
 simp[part,wR a,j6,h]
end
section
variable {r:Option Nat} {P:Program} {ops:Array Oper} {Q:Exit->Act->World->Prop} {rest:List Oper} {n:Nat} {s:List (Nat×Value)} {ds:List Deferred} {w:World}
variable {d:Nat} {dd:Option Nat} {ty t t' : TypeId} {pos:String} {af:Array Edge} {g:Option (Nat×Bool)} {x y:Operand} {xs ys:Array Value} {c:Bool}
theorem abP(d:ev n s x = .agg xs)(e:ev n s y = .agg ys)(b:P.eqGuardType P.depth t=false)(a:∀ w,(Op.equal t (.agg xs) (.agg ys)).run P w = .ok c w) :
 (execOp (ev n s) ⟨dd,.binOp .neq t x y t', ty,pos,af,g⟩).run P w = .ok (.value (.bool (!c))) w:=by
 simp only[execOp,d,e,zx,run_eqGuard_agg .neq b,zo]
 simp only[binOp,zx,a,zo,z6]
theorem FP(b:gD ops n s g=true)(f:ev n s x = .agg xs)(h:ev n s y = .agg ys)(e:P.eqGuardType P.depth t=false)(a:∀ w,(Op.equal t (.agg xs) (.agg ys)).run P w = .ok c w)
 (K:WL r P ops Q rest (Fr n ((d,.bool (!c)) :: s) ds) w):WL r P ops Q (⟨some d,.binOp .neq t x y t', ty,pos,af,g⟩ :: rest) (Fr n s ds) w:=pw b (fun _=>abP f h e a) K
theorem Yh(b:gD ops n s g=true)(f:ev n s x = .agg xs)(h:ev n s y = .agg ys)(e:P.eqGuardType P.depth t=false)(a:∀ w,(Op.equal t (.agg xs) (.agg ys)).run P w = .ok c w)
 (K:WL r P ops Q rest (Fr n ((d,.bool c) :: s) ds) w):WL r P ops Q (⟨some d,.binOp .eql t x y t', ty,pos,af,g⟩ :: rest) (Fr n s ds) w:=by
 refine pw b (fun _=>?_) K
 simp only[execOp,f,h,zx,run_eqGuard_agg .eql e,zo]
 simp only[binOp,zx,a,zo,z6]
end
end Go.Sx
namespace Go.Sx
open Go
abbrev lg(k:IntKind)(e:Int×Value×Nat):MapEntry:=⟨.int k e.1,e.2.1,e.2.2⟩
section
variable {P:Program} {k k' : IntKind} {x:Int} {es:List (Int×Value×Nat)}
theorem wO{kt:TypeId}(hk:P.underlying kt=some (.int k'))(a:Bool)(n:Nat)(v:Value)(w:World):(Instr.checkKey a (n+1) kt v).run P w = .ok () w:=by simp[Instr.checkKey,run_underlying hk]
theorem wP{kt:TypeId}{w:World}(hk:P.underlying kt=some (.int k')){l:List MapEntry}{v:Value}{q:Option (Nat×Value)}(h:Instr.findNow (.int k') v l 0=some q):(Instr.findKey kt v l).run P w = .ok q w:=by simp[Instr.findKey,run_underlying hk,h]
theorem aah(x:Int)(w:World):(Instr.keyThatStays (.int k x) (.int k x)).run P w = .ok (.int k x) w:=by simp[Instr.keyThatStays,Instr.sameBits]
theorem Vu{b:Nat}(w:World)(o:Obj):gz [b] w { w with heap:=w.heap.setIfInBounds b o } :=
 ⟨rfl,rfl,rfl,s_,fun c d a=>by
  have:b≠c:=fun e=>a (by simp[e])
  simp[LQ,this]⟩
theorem Ck{b:Nat}(w:World)(o:Obj):gz [b] w (w.putObj b o) :=
 ⟨rfl,rfl,rfl,by simp[World.putObj],fun c d a=>by
  have:b≠c:=fun e=>a (by simp[e])
  simp[World.putObj,LQ,this]⟩
theorem Gg{b:Nat}{w:World}{o:Obj}{d:Array MapEntry}{a:Nat}(h:w.heap[b]? = some (.map d a)):(setObj b o).run P w = .ok () (w.putObj b o)/\(w.putObj b o).heap[b]? = some o:=by
 have c:=(pX.1 h).1
 exact⟨by simp only[setObj,Sem.run,h,World.putObj],World.putObj_heap_same c⟩
end
section
variable {r:Option Nat} {P:Program} {ops:Array Oper} {Q:Exit->Act->World->Prop} {rest l:List Oper} {n:Nat} {s s0:List (Nat×Value)} {ds:List Deferred} {w w0:World} {Nx:Value->World->Prop}
variable {d:Nat} {dd:Option Nat} {ty:TypeId} {pos:String} {af:Array Edge} {g:Option (Nat×Bool)} {x y m:Operand} {bs:List (World×List Nat)} {L L' : List fS} {t e kt:TypeId} {b:Nat} {k k' : IntKind} {ys:List Int} {a:Int}
theorem St.FB{i:Nat}{R R' : fS}{o:Obj}(h:St bs L w)(hi:L[i]? = some R)(e:R.gK=[b])(d : R'.gK=[b])(g:∀ w' : World,w'.heap[b]? = some o->R'.holds w')(f:b<w.heap.size):St bs (L.set i R') (w.putObj b o):=by
 refine h.iN hi (by rw[e];exact Ck w o) (fun c a=>.inl (by rw[e];rwa [d]at a)) (by rw[d];simp) (fun c a=>?_) (g _ (World.putObj_heap_same f))
 rw[d]at a
 simp only[z8]at a
 subst a
 simpa[World.putObj]using f
end
end Go.Sx
namespace Go.Sx
open Go
section
variable {γ:Type}
def gU:List (Int×γ)->Int->Option γ
 | [],_=>none
 | (b,y) :: m,a=>if b=a then some y else gU m a
def gx:List (Int×γ)->Int->γ->List (Int×γ)
 | [],a,x=>[(a,x)]
 | (b,y) :: m,a,x=>if b=a then(a,x) :: m else(b,y) :: gx m a x
def iJ:List (Int×γ)->Int->List (Int×γ)
 | [],_=>[]
 | (b,y) :: m,a=>if b=a then m else(b,y) :: iJ m a
def fT[Inhabited γ](m:List (Int×γ))(a:Int):γ:=(gU m a).getD default
def gZ(b:Nat)(k:IntKind)(enc:γ->Value)(m:List (Int×γ)):fS where
 gK:=[b]
 holds w:=∃ (es:List (Int×Value×Nat)) (a:Nat),w.heap[b]? = some (.map (es.map (lg k)).toArray a)/\es.map (fun e=>(e.1,e.2.1))=m.map (fun p=>(p.1,enc p.2))/\(es.map (fun e=>e.2.2)).Nodup/\∀ e∈es,e.2.2<a
 loc w w' h hh:=by
  obtain⟨es,a,c,d⟩:=hh
  exact⟨es,a,(h b s_).trans c,d⟩
theorem wB(m:List (Int×γ))(a c:Int)(x:γ):gU (gx m a x) c=if a=c then some x else gU m c:=by
 induction m with
 | nil=>simp[gx,gU]
 | cons p m d =>
  obtain⟨b,y⟩:=p
  simp only[gx]
  by_cases h:b=a
  . subst h
    rw[if_pos rfl]
    simp only[gU]
    split<;>rfl
  . rw[if_neg h]
    simp only[gU,d]
    by_cases h1:b=c
    . rw[if_pos h1,if_neg (fun e=>h (h1.trans e.symm)),if_pos h1]
    . rw[if_neg h1,if_neg h1]
theorem FG{m:List (Int×γ)}(d:(m.map Prod.fst).Nodup)(a c:Int):gU (iJ m a) c=if a=c then none else gU m c:=by
 induction m with
 | nil=>simp[iJ,gU]
 | cons p m g =>
  obtain⟨b,y⟩:=p
  simp only[ko,zw]at d
  simp only[iJ]
  by_cases h:b=a
  . subst h
    rw[if_pos rfl]
    by_cases h1:b=c
    . subst h1
      rw[if_pos rfl]
      have:∀ (l:List (Int×γ)),b∉l.map Prod.fst->gU l b=none:=by
       intro l
       induction l with
       | nil=>intro _;rfl
       | cons q l i =>
        intro f
        simp only[ko,zg,not_or]at f
        simp only[gU]
        rw[if_neg (fun e=>f.1 e.symm)]
        exact i f.2
      exact this m d.1
    . rw[if_neg h1]
      simp only[gU]
      rw[if_neg h1]
  . rw[if_neg h]
    simp only[gU,g d.2]
    by_cases h1:b=c
    . rw[if_pos h1,if_neg (fun e=>h (h1.trans e.symm)),if_pos h1]
    . rw[if_neg h1,if_neg h1]
theorem QM{m:List (Int×γ)}{a:Int}{x:γ}(h:gU m a=some x):(a,x)∈m:=by
 induction m with
 | nil=>simp[gU]at h
 | cons p m c =>
  obtain⟨b,y⟩:=p
  simp only[gU]at h
  split at h
  . rename_i e
    cases h
    subst e
    simp
  . exact mO _ (c h)
theorem FH{m:List (Int×γ)}{a:Int}:gU m a=none↔a∉m.map Prod.fst:=by
 induction m with
 | nil=>simp[gU]
 | cons p m c =>
  obtain⟨b,y⟩:=p
  simp only[gU,ko,zg,not_or]
  split
  . rename_i e
    simp[e]
  . rename_i e
    rw[c]
    exact⟨fun h=>⟨fun e' => e e'.symm,h⟩,fun h=>h.2⟩
theorem QN{m:List (Int×γ)}(c:(m.map Prod.fst).Nodup){a:Int}{x:γ}(h:(a,x)∈m):gU m a=some x:=by
 induction m with
 | nil=>simp at h
 | cons p m d =>
  obtain⟨b,y⟩:=p
  simp only[ko,zw]at c
  simp only[gU]
  rcases zg.1 h with e|h
  . cases e
    simp
  . rw[if_neg (fun e=>c.1 (by rw[e];exact zz.2 ⟨_,h,rfl⟩))]
    exact d c.2 h
theorem aai(m:List (Int×γ))(a:Int)(x:γ):(gx m a x).map Prod.fst=if a∈m.map Prod.fst then m.map Prod.fst else m.map Prod.fst++[a]:=by
 induction m with
 | nil=>simp[gx]
 | cons p m d =>
  obtain⟨b,y⟩:=p
  simp only[gx]
  by_cases h:b=a
  . subst h
    simp
  . rw[if_neg h]
    simp only[ko,d,zg]
    by_cases h1:a∈m.map Prod.fst
    . rw[if_pos h1,if_pos (.inr h1)]
    . rw[if_neg h1,if_neg (fun c=>c.elim (fun e=>h e.symm) h1)]
      rfl
theorem wG{m:List (Int×γ)}(b:(m.map Prod.fst).Nodup)(a:Int)(x:γ):((gx m a x).map Prod.fst).Nodup:=by
 rw[aai]
 split
 . exact b
 . rename_i h
   rw[zr]
   exact⟨b,s_,fun c f d hd e=>by simp at hd;subst hd;subst e;exact h f⟩
theorem CY(m:List (Int×γ))(a:Int):(iJ m a).Sublist m:=by
 induction m with
 | nil=>exact List.Sublist.slnil
 | cons p m c =>
  obtain⟨b,y⟩:=p
  simp only[iJ]
  split
  . exact LX _ _
  . exact List.Sublist.cons_cons _ c
theorem J9{m:List (Int×γ)}(b:(m.map Prod.fst).Nodup)(a:Int):((iJ m a).map Prod.fst).Nodup:=b.sublist ((CY m a).map _)
end
section
variable {γ:Type} {enc:γ->Value} {P:Program} {k k' : IntKind} {a:Int}
theorem Fc(k k' : IntKind)(a:Int):∀ (es:List (Int×Value×Nat)) (m:List (Int×γ)) (i:Nat),es.map (fun e=>(e.1,e.2.1))=m.map (fun p=>(p.1,enc p.2)) ->
 (gU m a=none/\Instr.findNow (.int k') (.int k a) (es.map (lg k)) i=some none/\(∀ y,gx m a y=m++[(a,y)])/\iJ m a=m) \/
 (∃ j x e,gU m a=some x/\es[j]? = some e/\e.1=a/\Instr.findNow (.int k') (.int k a) (es.map (lg k)) i=some (some (i+j,enc x)) /\
  (∀ y,(es.set j (a,enc y,e.2.2)).map (fun e=>(e.1,e.2.1))=(gx m a y).map (fun p=>(p.1,enc p.2)))/\(es.eraseIdx j).map (fun e=>(e.1,e.2.1))=(iJ m a).map (fun p=>(p.1,enc p.2))):=by
 intro es
 induction es with
 | nil =>
  intro m i h
  cases m with
  | cons p m=>simp at h
  | nil=>exact .inl ⟨rfl,rfl,fun _=>rfl,rfl⟩
 | cons e es u =>
  intro m i h
  cases m with
  | nil=>simp at h
  | cons p m =>
   obtain⟨b,y⟩:=p
   simp only[ko,List.cons.injEq]at h
   obtain⟨o,l⟩:=h
   have c:e.1=b:=congrArg Prod.fst o
   have n:e.2.1=enc y:=congrArg Prod.snd o
   by_cases hb:b=a
   . refine .inr ⟨0,y,e,by simp[gU,hb],rfl,c.trans hb,?_,fun r => ?_,?_⟩
     . have:(a==e.1)=true:=by rw[c,hb];simp
       simp only[ko,Instr.findNow,Instr.sameNow,if_true,this,n,qz]
     . simp[gx,hb,l]
     . simp[iJ,hb,l]
   . have q:(a==e.1)=false:=by
      rw[c]
      simp only[beq_eq_false_iff_ne,ne_eq]
      exact fun e' => hb e'.symm
     rcases u m (i+1) l with ⟨d,g2,f,g⟩|⟨j,x,e', d,g2,f,g,s,t⟩
     . refine .inl ⟨by simp[gU,hb,d],?_,fun r => by simp[gx,hb,f],by simp[iJ,hb,g]⟩
       simp only[ko,Instr.findNow,Instr.sameNow,if_true,q]
       exact g2
     . refine .inr ⟨j+1,x,e', by simp[gU,hb,d],by simpa using g2,f,?_,fun r => ?_,?_⟩
       . simp only[ko,Instr.findNow,Instr.sameNow,if_true,q]
         rw[g,k6,Nat.add_comm 1 j]
       . simp only[List.set_cons_succ,ko,s,gx,if_neg hb,c,n]
       . simp only[List.eraseIdx_cons_succ,ko,t,iJ,if_neg hb,c,n]
theorem abD{es:List (Int×Value×Nat)}{j:Nat}{e:Int×Value×Nat}{v:Value}(h:es[j]? = some e)(c:e.1=a) :
 ((es.map (lg k)).toArray.modify j fun q=>{ q with key:=.int k a,val:=v })=((es.set j (a,v,e.2.2)).map (lg k)).toArray:=by
 apply Array.ext'
 apply ow
 intro q
 simp only[Array.toList_modify,List.getElem?_modify,lZ,vt]
 by_cases hq:j=q
 . subst hq
   obtain⟨b,rfl⟩:=zj.1 h
   simp[b]
 . simp[hq]
theorem E8{α β:Type}(f:α->β):∀ (l:List α) (j:Nat),(l.map f).eraseIdx j=(l.eraseIdx j).map f
 | [],_=>rfl
 | _ :: _,0=>rfl
 | a :: l,j+1=>by simp[E8 f l j]
theorem Ys{es:List (Int×Value×Nat)}{j:Nat}:((es.map (lg k)).toArray.eraseIdxIfInBounds j)=((es.eraseIdx j).map (lg k)).toArray:=by
 by_cases h:j<es.length
 . rw[Array.eraseIdxIfInBounds,dif_pos (by simpa using h)]
   simp[E8]
 . rw[Array.eraseIdxIfInBounds,dif_neg (by simpa using h),List.eraseIdx_of_length_le o_]
end
section
variable {γ:Type} {enc:γ->Value}
variable {r:Option Nat} {P:Program} {ops:Array Oper} {Q:Exit->Act->World->Prop} {rest l:List Oper} {n:Nat} {s s0:List (Nat×Value)} {ds:List Deferred} {w w0:World} {Nx:Value->World->Prop}
variable {d:Nat} {dd:Option Nat} {ty:TypeId} {pos:String} {af:Array Edge} {g:Option (Nat×Bool)} {x y m:Operand} {bs:List (World×List Nat)} {L L' : List fS} {t e kt:TypeId} {b sz by_:Nat} {k k' : IntKind} {mm:List (Int×γ)} {a:Int} {z v:Value} {c:γ}
theorem JR{i:Nat}(c:St bs L w)(a:L[i]? = some (gZ b k enc mm)):b<w.heap.size:=c.lt b (rU a (by simp[gZ]))
theorem wQ{es:List (Int×Value×Nat)}{a:Nat}(h:w.heap[b]? = some (.map (es.map (lg k)).toArray a)):(getObj b).run P w = .ok (.map (es.map (lg k)).toArray a) w:=by
 simp[getObj,Sem.run,h]
theorem mkV{a : Option Operand}(enc:γ->Value)(k:IntKind)(c:gD ops n s g=true)(e:a = none)(f:St bs L w)
 (K:∀ b w', w.heap.size<=b->gz [] w w' -> St bs (gZ b k enc [] :: L) w' -> WL r P ops Q rest (Fr n ((d,.map (some b)) :: s) ds) w') :
 WL r P ops Q (⟨some d,.makeMap t a, ty,pos,af,g⟩ :: rest) (Fr n s ds) w:=by
 subst e
 refine pv (v:=.map (some w.heap.size)) (w' := w.alloc (.map #[] 0)) c rfl ?_ (K _ _ (zn _) (gz.alloc [] w _) ?_)
 . simp only[execOp,Option.map_none,Instr.makeMap]
   rfl
 . exact f.sL (gz.alloc [] w _) (fun b hb=>by simp[gZ]at hb;omega) (by simp[gZ]) (fun b hb=>by simp[gZ]at hb;simp;omega) ⟨[],0,heap_alloc_new w _,rfl,s_,s_⟩
section
variable [Inhabited γ]
theorem aaP(i:Nat)(hm:ev n s m = .map (some b))(l:ev n s x = .int k a)(h:P.underlying t=some (.map kt e))(hk:P.underlying kt=some (.int k'))(r:TI P e sz by_ z)(v:enc default=z)(u:St bs L w)(q:L[i]? = some (gZ b k enc mm)) :
 (execOp (ev n s) ⟨dd,.lookup t m x true,ty,pos,af,g⟩).run P w = .ok (.value (.tuple #[enc (fT mm a),.bool (gU mm a).isSome])) w:=by
 obtain⟨es,y,f,p,A,B⟩:(gZ b k enc mm).holds w:=u.own _ (ze q)
 rcases Fc k k' a es mm 0 p with ⟨c,g2,_⟩|⟨j,C, e', c,_,_,o,_⟩
 . have d:=wP (P:=P) (w:=w) hk g2
   simp only[execOp,hm,l,Instr.lookup,zx,run_underlying h,zo,z6,wQ f,wO hk,d,r.zP]
   simp[fT,c,v]
 . have d:=wP (P:=P) (w:=w) hk o
   simp only[execOp,hm,l,Instr.lookup,zx,run_underlying h,zo,z6,wQ f,wO hk,d]
   simp[fT,c]
theorem x9(i:Nat)(hm:ev n s m = .map (some b))(l:ev n s x = .int k a)(h:P.underlying t=some (.map kt e))(hk:P.underlying kt=some (.int k'))(r:TI P e sz by_ z)(v:enc default=z)(u:St bs L w)(q:L[i]? = some (gZ b k enc mm)) :
 (execOp (ev n s) ⟨dd,.lookup t m x false,ty,pos,af,g⟩).run P w = .ok (.value (enc (fT mm a))) w:=by
 obtain⟨es,y,f,p,A,B⟩:(gZ b k enc mm).holds w:=u.own _ (ze q)
 rcases Fc k k' a es mm 0 p with ⟨c,g2,_⟩|⟨j,C, e', c,_,_,o,_⟩
 . have d:=wP (P:=P) (w:=w) hk g2
   simp only[execOp,hm,l,Instr.lookup,zx,run_underlying h,zo,z6,wQ f,wO hk,d,r.zP]
   simp[fT,c,v]
 . have d:=wP (P:=P) (w:=w) hk o
   simp only[execOp,hm,l,Instr.lookup,zx,run_underlying h,zo,z6,wQ f,wO hk,d]
   simp[fT,c]
theorem aaO(i:Nat)(h:gD ops n s g=true)(hm:ev n s m = .map (some b))(o:ev n s x = .int k a)(l:P.underlying t=some (.map kt e))(hk:P.underlying kt=some (.int k'))(f:TI P e sz by_ z)(p:enc default=z)(j:St bs L w)(c:L[i]? = some (gZ b k enc mm))
 (K:WL r P ops Q rest (Fr n ((d,.tuple #[enc (fT mm a),.bool (gU mm a).isSome]) :: s) ds) w):WL r P ops Q (⟨some d,.lookup t m x true,ty,pos,af,g⟩ :: rest) (Fr n s ds) w:=pv h rfl (aaP i hm o l hk f p j c) K
theorem qP(i:Nat)(h:gD ops n s g=true)(hm:ev n s m = .map (some b))(o:ev n s x = .int k a)(l:P.underlying t=some (.map kt e))(hk:P.underlying kt=some (.int k'))(f:TI P e sz by_ z)(p:enc default=z)(j:St bs L w)(c:L[i]? = some (gZ b k enc mm))
 (K:WL r P ops Q rest (Fr n ((d,enc (fT mm a)) :: s) ds) w):WL r P ops Q (⟨some d,.lookup t m x false,ty,pos,af,g⟩ :: rest) (Fr n s ds) w:=pv h rfl (x9 i hm o l hk f p j c) K
end
theorem abG(i:Nat)(hm:ev n s m = .map (some b))(F:ev n s x = .int k a)(G:ev n s y=enc c)(E:P.underlying t=some (.map kt e))(hk:P.underlying kt=some (.int k'))(u:St bs L w)(r:L[i]? = some (gZ b k enc mm))(K : L.set i (gZ b k enc (gx mm a c))=L') :
 ∃ w', (execOp (ev n s) ⟨dd,.mapUpdate t m x y,ty,pos,af,g⟩).run P w = .ok .skip w' /\ St bs L' w' /\ gz [b] w w' := by
 subst K
 obtain⟨es,d,l,A,B,o⟩:(gZ b k enc mm).holds w:=u.own _ (ze r)
 have C:=JR u r
 rcases Fc k k' a es mm 0 A with ⟨H,g2,f,_⟩|⟨j,S, e', H,g2,f,I,J,_⟩
 . have z:=wP (P:=P) (w:=w) hk g2
   have hp:((es.map (lg k)).toArray.push ⟨.int k a,enc c,d⟩)=((es++[(a,enc c,d)]).map (lg k)).toArray:=by simp
   refine⟨w.putObj b (.map ((es++[(a,enc c,d)]).map (lg k)).toArray (d+1)),?_,u.FB r rfl rfl (fun w' h=>⟨_,_,h,by rw[f];simp[A],?_,?_⟩) C,Ck w _⟩
   . simp only[execOp,hm,F,G,Instr.mapUpdate,zx,run_underlying E,zo,z6,wQ l,wO hk,z,hp,(Gg l).1]
   . rw[s9,zr]
     refine⟨B,s_,fun q O R D v => ?_⟩
     simp at D
     subst D v
     obtain⟨p,hp,Q⟩:=zz.1 O
     have:=o p hp
     omega
   . intro p hp
     rcases zp.1 hp with hp|hp
     . have:=o p hp;omega
     . simp at hp;subst hp;simp
 . have z:=wP (P:=P) (w:=w) hk I
   have M:((es.map (lg k)).toArray[j]?).map (·.key)=some (.int k a):=by simp[g2,f]
   refine⟨w.putObj b (.map ((es.set j (a,enc c,e'.2.2)).map (lg k)).toArray d),?_,u.FB r rfl rfl (fun w' h=>⟨_,_,h,J c,?_,?_⟩) C,Ck w _⟩
   . simp only[execOp,hm,F,G,Instr.mapUpdate,zx,run_underlying E,zo,z6,wQ l,wO hk,z,lP,M,zM,aah]
     rw[abD g2 f]
     simp only[(Gg l).1,z6,zo]
   . have:(es.set j (a,enc c,e'.2.2)).map (fun e=>e.2.2)=es.map (fun e=>e.2.2):=by
      rw[List.map_set]
      have N:=(zj.1 g2).1
      apply ow
      intro q
      rw[vt]
      split
      . rename_i v
        subst v
        rw[if_pos (by simpa using N),lZ,g2]
        rfl
      . rfl
     rw[this]
     exact B
   . intro p hp
     rcases List.mem_or_eq_of_mem_set hp with hp|hp
     . exact o p hp
     . subst hp
       exact o e' (ze g2)
theorem qT(i:Nat)(l:gD ops n s g=true)(hm:ev n s m = .map (some b))(q:ev n s x = .int k a)(u:ev n s y=enc c)(p:P.underlying t=some (.map kt e))(hk:P.underlying kt=some (.int k'))(o:St bs L w)(h:L[i]? = some (gZ b k enc mm))(j : L.set i (gZ b k enc (gx mm a c))=L')
 (K:∀ w', St bs L' w' -> WL r P ops Q rest (Fr n s ds) w'):WL r P ops Q (⟨none,.mapUpdate t m x y,ty,pos,af,g⟩ :: rest) (Fr n s ds) w:=by
 obtain⟨w', d,f,_⟩:=abG (dd:=none) (ty:=ty) (pos:=pos) (af:=af) (g:=g) i hm q u p hk o h j
 exact DE l rfl d (K w' f)
theorem Wm{t' : TypeId}(i:Nat)(hm:ev n s m = .map (some b))(A:ev n s x = .int k a)(z:P.underlying t=some (.map kt e))(hk:P.underlying kt=some (.int k'))(f:St bs L w)(d:L[i]? = some (gZ b k enc mm))(E : L.set i (gZ b k enc (iJ mm a))=L') :
 ∃ w', (execOp (ev n s) ⟨dd,.call ⟨.builtin .delete,#[m,x],#[t,t']⟩,ty,pos,af,g⟩).run P w = .ok (.value (.tuple #[])) w' /\ St bs L' w' /\ gz [b] w w' := by
 subst E
 obtain⟨es,o,c,r,u,v⟩:(gZ b k enc mm).holds w:=f.own _ (ze d)
 have y:=JR f d
 rcases Fc k k' a es mm 0 r with ⟨B,g2,_,q⟩|⟨j,F, e', B,g2,q,C,_,D⟩
 . have l:=wP (P:=P) (w:=w) hk g2
   refine⟨w.putObj b (.map (es.map (lg k)).toArray o),?_,f.FB d rfl rfl (fun w' h=>⟨_,_,h,by rw[q];exact r,u,v⟩) y,Ck w _⟩
   simp only[execOp,resolve,invoke,builtin,zx,z6,zo,List.map_toArray,ko,DT,hm,A]
   simp only[Builtin.delete_]
   simp only[Bw,List.getElem?_cons_zero,List.getElem?_cons_succ,zx,run_underlying z,zo,wQ c,wO hk,l,(Gg c).1,z6]
 . have l:=wP (P:=P) (w:=w) hk C
   refine⟨w.putObj b (.map ((es.eraseIdx j).map (lg k)).toArray o),?_,f.FB d rfl rfl (fun w' h=>⟨_,_,h,D,u.sublist ((List.eraseIdx_sublist _ _).map _),fun p hp=>v p ((List.eraseIdx_sublist _ _).subset hp)⟩) y,Ck w _⟩
   simp only[execOp,resolve,invoke,builtin,zx,z6,zo,List.map_toArray,ko,DT,hm,A]
   simp only[Builtin.delete_]
   simp only[Bw,List.getElem?_cons_zero,List.getElem?_cons_succ,zx,run_underlying z,zo,wQ c,wO hk,l,lP]
   rw[Ys]
   simp only[(Gg c).1,z6,zo]
theorem Cq{t' : TypeId}(i:Nat)(j:gD ops n s g=true)(hm:ev n s m = .map (some b))(p:ev n s x = .int k a)(o:P.underlying t=some (.map kt e))(hk:P.underlying kt=some (.int k'))(l:St bs L w)(f:L[i]? = some (gZ b k enc mm))(h : L.set i (gZ b k enc (iJ mm a))=L')
 (K:∀ w', St bs L' w' -> WL r P ops Q rest (Fr n (kG dd (.tuple #[]) s) ds) w'):WL r P ops Q (⟨dd,.call ⟨.builtin .delete,#[m,x],#[t,t']⟩,ty,pos,af,g⟩ :: rest) (Fr n s ds) w:=by
 obtain⟨w', c,d,_⟩:=Wm (dd:=dd) (ty:=ty) (pos:=pos) (af:=af) (g:=g) (t' := t') i hm p o hk l f h
 exact Uf j rfl c (by rw[zS];exact K w' d)
end
end Go.Sx
namespace Go.Sx
open Go
section
variable {P:Program} {w:World} {f:FuncId} {γ:Type} {b:Nat} {k:IntKind} {enc:γ->Value} {m:List (Int×γ)}
theorem VH(h:Own (gZ b k enc m) w)(l:∀ es g,w.heap[b]? = some (.map es g)->Calls P f #[.map (some b)] w fun e w' => e = .returned (.map (some w.heap.size))/\w' = w.alloc (.map es g)) :
 CR P f #[.map (some b)] w (fun r w' => ∃ b2,r = .map (some b2)/\fZ (gZ b k enc m) w w' (gq [gZ b k enc m,gZ b2 k enc m])):=by
 obtain⟨es,d,i,j⟩:=h.holds
 have n:=St.Jm h
 refine Calls.mono (l _ _ i) ?_
 rintro e w' ⟨rfl,rfl⟩
 refine⟨_,rfl,w.heap.size,rfl,?_⟩
 have o:St [(w,(gZ b k enc m).gK)] (gZ w.heap.size k enc m :: [gZ b k enc m]) (w.alloc (.map (es.map (lg k)).toArray d)) :=
  n.sL (gz.alloc [] w _) (fun c a=>by simp[gZ]at a;omega) (by simp[gZ]) (fun c a=>by simp[gZ]at a;simp;omega) ⟨es,d,heap_alloc_new w _,j⟩
 exact St.Ww (o.perm (List.Perm.swap _ _ _)) zd
end
end Go.Sx
namespace Go.Sx
open Go
section
variable {r:Option Nat} {P:Program} {ops:Array Oper} {Q:Exit->Act->World->Prop} {rest:List Oper} {n:Nat} {s:List (Nat×Value)} {ds:List Deferred} {w:World}
variable {d:Nat} {dd:Option Nat} {ty t t' e kt:TypeId} {pos:String} {af:Array Edge} {g:Option (Nat×Bool)} {x y:Operand} {a:Option Nat} {c:Bool}
theorem ad3(k:Nat)(b:P.underlying t=some (.map kt e)):(Op.equalIn (k+1) t (.map a) (.map none)).run P w = .ok a.isNone w:=by
 cases a<;>simp[Op.equalIn,run_underlying b]
theorem abT(f:ev n s x = .map a)(h:ev n s y = .map none)(d:P.underlying t=some (.map kt e))(b:(!a.isNone)=c) :
 (execOp (ev n s) ⟨dd,.binOp .neq t x y t', ty,pos,af,g⟩).run P w = .ok (.value (.bool c)) w:=by
 subst b
 simp[execOp,f,h,eqGuard,binOp,Op.equal,Op.maxDepth,ad3 9999 d]
theorem Rl(f:gD ops n s g=true)(i:ev n s x = .map a)(j:ev n s y = .map none)(h:P.underlying t=some (.map kt e))(b:(!a.isNone)=c)
 (K:WL r P ops Q rest (Fr n ((d,.bool c) :: s) ds) w):WL r P ops Q (⟨some d,.binOp .neq t x y t', ty,pos,af,g⟩ :: rest) (Fr n s ds) w:=pw f (fun _=>abT i j h b) K
end
end Go.Sx
namespace Go.Sx
open Go
section
variable {r:Option Nat} {P:Program} {ops:Array Oper} {Q:Exit->Act->World->Prop} {rest:List Oper} {n:Nat} {s:List (Nat×Value)} {ds:List Deferred} {w:World}
variable {d:Nat} {dd:Option Nat} {ty t t' e:TypeId} {pos:String} {af:Array Edge} {g:Option (Nat×Bool)} {x y:Operand} {a:Addr} {sz by_:Nat} {z:Value}
theorem ad4(k:Nat)(b:P.underlying t=some (.pointer e))(hi:TI P e (sz+1) by_ z):(Op.equalIn (k+1) t (.pointer (some a)) (.pointer (some a))).run P w = .ok true w:=by
 simp[Op.equalIn,run_underlying b,hi.size,sameAddr]
theorem Yp(c:ev n s x = .pointer (some a))(d:ev n s y = .pointer (some a))(b:P.underlying t=some (.pointer e))(hi:TI P e (sz+1) by_ z) :
 (execOp (ev n s) ⟨dd,.binOp .eql t x y t', ty,pos,af,g⟩).run P w = .ok (.value (.bool true)) w:=by
 simp[execOp,c,d,eqGuard,binOp,Op.equal,Op.maxDepth,ad4 9999 b hi]
theorem CD(b:gD ops n s g=true)(f:ev n s x = .pointer (some a))(h:ev n s y = .pointer (some a))(c:P.underlying t=some (.pointer e))(hi:TI P e (sz+1) by_ z)
 (K:WL r P ops Q rest (Fr n ((d,.bool true) :: s) ds) w):WL r P ops Q (⟨some d,.binOp .eql t x y t', ty,pos,af,g⟩ :: rest) (Fr n s ds) w:=pw b (fun _=>Yp f h c hi) K
end
end Go.Sx
namespace Go.Sx
open Go
structure gG where
 ix:Nat
 key:Int
 deriving Inhabited
def gG.cells(x:gG):List Value:=[.int .i64 x.ix,.int .i64 x.key]
def iC(a b:gG):Prop:=a.key<b.key\/a.key=b.key/\a.ix<b.ix
instance (a b:gG):Decidable (iC a b):=by unfold iC;infer_instance
theorem CW(a:gG):¬ iC a a:=by unfold iC;omega
theorem JN{a b c:gG}(h:iC a b)(k:iC b c):iC a c:=by unfold iC at *;omega
theorem QJ{a b:gG}(h:iC a b):¬ iC b a:=by unfold iC at *;omega
theorem FQ{a b c:gG}(h:¬ iC a b)(k:¬ iC b c):¬ iC a c:=by unfold iC at *;omega
def qp(a b:gG):Int:=if a.key<b.key then -1 else if b.key<a.key then 1 else if a.ix<b.ix then -1 else if b.ix<a.ix then 1 else 0
theorem nZ{a b:gG}:qp a b<0↔iC a b:=by
 grind [qp,iC]
abbrev pa(p:Nat):Nat:=(p-1) / 2
def Ord(xs:List gG):Prop:=∀ j,0<j->j<xs.length->¬ iC (fJ xs j) (fJ xs (pa j))
structure tg (xs:List gG) (p:Nat):Prop where
 rest:∀ j,0<j->j<xs.length->j≠p->pa j≠p->¬ iC (fJ xs j) (fJ xs (pa j))
 kids:0<p->∀ j,0<j->j<xs.length->pa j=p->¬ iC (fJ xs j) (fJ xs (pa p))
structure uq (xs:List gG) (p:Nat):Prop where
 rest:∀ j,0<j->j<xs.length->pa j≠p->¬ iC (fJ xs j) (fJ xs (pa j))
 kids:0<p->∀ j,0<j->j<xs.length->pa j=p->¬ iC (fJ xs j) (fJ xs (pa p))
def iI(xs:List gG)(p q:Nat):List gG:=fO (fO xs p (fun _=>fJ xs q)) q (fun _=>fJ xs p)
theorem mK(xs:List gG)(p q:Nat):(iI xs p q).length=xs.length:=by simp[iI,gB]
theorem Bh{xs:List gG}{p q:Nat}(hp:p<xs.length)(a:q<xs.length)(j:Nat):fJ (iI xs p q) j=if q=j then fJ xs p else if p=j then fJ xs q else fJ xs j:=by
 grind [iI,ji,gB]
theorem tg.up{xs:List gG}{p:Nat}(h:tg xs p)(i:0<p)(hp:p<xs.length)(n:iC (fJ xs p) (fJ xs (pa p))):tg (iI xs p (pa p)) (pa p):=by
 have q:pa p<p:=by simp only[pa];omega
 have hs:=Bh hp (show pa p<xs.length by omega)
 refine⟨fun j b a l d=>?_,fun f j b a e=>?_⟩
 . rw[mK]at a
   rw[hs,hs]
   by_cases e1:p=j
   . subst e1;exact absurd rfl d
   . rw[if_neg (fun e=>l e.symm),if_neg e1,if_neg (fun e=>d e.symm)]
     by_cases e2:p=pa j
     . rw[if_pos e2]
       exact h.kids i j b a e2.symm
     . rw[if_neg e2]
       exact h.rest j b a (fun e=>e1 e.symm) (fun e=>e2 e.symm)
 . rw[mK]at a
   have o:pa (pa p)<pa p:=by simp only[pa]at f ⊢;omega
   have m:fJ (iI xs p (pa p)) (pa (pa p))=fJ xs (pa (pa p)):=by rw[hs,if_neg o_,if_neg o_]
   have g:¬ iC (fJ xs (pa p)) (fJ xs (pa (pa p))):=h.rest (pa p) f o_ o_ o_
   rw[m,hs]
   have k:pa p≠j:=fun e' => by rw[<-e']at e;simp only[pa]at *;omega
   rw[if_neg k]
   by_cases e1:p=j
   . rw[if_pos e1];exact g
   . rw[if_neg e1]
     have c:=h.rest j b a (fun e=>e1 e.symm) o_
     rw[e]at c
     exact FQ c g
theorem tg.stop{xs:List gG}{p:Nat}(h:tg xs p)(d:¬ (0<p/\iC (fJ xs p) (fJ xs (pa p)))):uq xs p:=by
 refine⟨fun j a b f=>?_,h.kids⟩
 by_cases e:j=p
 . subst e
   exact fun c=>d ⟨a,c⟩
 . exact h.rest j a b e f
def jD(xs:List gG)(p:Nat):Nat :=
 let f:=if 2*p+1<xs.length/\iC (fJ xs (2*p+1)) (fJ xs p)then 2*p+1 else p
 if 2*p+2<xs.length/\iC (fJ xs (2*p+2)) (fJ xs f)then 2*p+2 else f
theorem acn{j p:Nat}(a:0<j):pa j=p↔j=2*p+1\/j=2*p+2:=by simp only[pa];omega
theorem Vf{xs:List gG}{p:Nat}(h:jD xs p=p):∀ j,0<j->j<xs.length->pa j=p->¬ iC (fJ xs j) (fJ xs p):=by
 intro j a b e
 unfold jD at h
 grind
theorem NA{xs:List gG}{p:Nat}(h:jD xs p≠p):jD xs p<xs.length/\p<jD xs p/\pa (jD xs p)=p/\iC (fJ xs (jD xs p)) (fJ xs p)/\∀ j,0<j->j<xs.length->pa j=p->¬ iC (fJ xs j) (fJ xs (jD xs p)):=by
 have f:∀ j,0<j->j<xs.length->pa j=p->j=2*p+1\/j=2*p+2:=fun j d _ e=>(acn d).1 e
 have c:jD xs p=(if 2*p+2<xs.length/\iC (fJ xs (2*p+2)) (fJ xs (if 2*p+1<xs.length/\iC (fJ xs (2*p+1)) (fJ xs p)then 2*p+1 else p))then 2*p+2 else(if 2*p+1<xs.length/\iC (fJ xs (2*p+1)) (fJ xs p)then 2*p+1 else p)):=rfl
 rw[c]at h ⊢
 by_cases h1:2*p+1<xs.length/\iC (fJ xs (2*p+1)) (fJ xs p)
 . rw[if_pos h1]at h ⊢
   by_cases h2:2*p+2<xs.length/\iC (fJ xs (2*p+2)) (fJ xs (2*p+1))
   . rw[if_pos h2]at h ⊢
     refine⟨h2.1,o_,by simp only[pa];omega,JN h2.2 h1.2,fun j b a e=>?_⟩
     grind [QJ,CW]
   . rw[if_neg h2]at h ⊢
     refine⟨h1.1,o_,by simp only[pa];omega,h1.2,fun j b a e=>?_⟩
     grind [CW]
 . rw[if_neg h1]at h ⊢
   by_cases h2:2*p+2<xs.length/\iC (fJ xs (2*p+2)) (fJ xs p)
   . rw[if_pos h2]at h ⊢
     refine⟨h2.1,o_,by simp only[pa];omega,h2.2,fun j b a e=>?_⟩
     grind [JN,CW]
   . rw[if_neg h2]at h
     exact absurd rfl h
theorem uq.down{xs:List gG}{p c:Nat}(h:uq xs p)(g:jD xs p=c)(k:c≠p):uq (iI xs p c) c:=by
 subst g
 obtain⟨d,o,f,n,i⟩:=NA k
 generalize jD xs p=c at *
 have hs:=Bh (show p<xs.length by omega) d
 refine⟨fun j b a l => ?_,fun _ j b a e=>?_⟩
 . rw[mK]at a
   rw[hs,hs]
   by_cases e1:c=j
   . grind [QJ]
   . rw[if_neg e1,if_neg (show ¬ c=pa j from fun e=>l e.symm)]
     by_cases e2:p=j
     . subst e2
       rw[if_pos rfl,if_neg (by simp only[pa];omega)]
       exact h.kids b c o_ d f
     . rw[if_neg e2]
       by_cases e3:p=pa j
       . rw[if_pos e3]
         exact i j b a e3.symm
       . rw[if_neg e3]
         exact h.rest j b a (fun e=>e3 e.symm)
 . rw[mK]at a
   have m:c<j:=by simp only[pa]at e;omega
   rw[hs,hs,if_neg o_,if_neg o_,f,if_neg o_,if_pos rfl]
   have:=h.rest j b a o_
   rw[e]at this
   exact this
theorem uq.stop{xs:List gG}{p:Nat}(h:uq xs p)(hb:jD xs p=p):Ord xs:=by
 intro j b a
 by_cases e:pa j=p
 . rw[e];exact Vf hb j b a e
 . exact h.rest j b a e
structure Hp (n:Nat) (xs:List gG) (pl:List Nat):Prop where
 ix:∀ p,p<xs.length->(fJ xs p).ix<n
 key:∀ p,p<xs.length->gV .i64 (fJ xs p).key
 at_:∀ p,p<xs.length->fJ pl (fJ xs p).ix=p+1
 of:∀ i p,i<n->fJ pl i=p+1->p<xs.length/\(fJ xs p).ix=i
 pl:n<=pl.length
 len:xs.length<=n
theorem Hp.inj{n:Nat}{xs:List gG}{pl:List Nat}(h:Hp n xs pl){p q:Nat}(hp:p<xs.length)(b:q<xs.length)(e:(fJ xs p).ix=(fJ xs q).ix):p=q:=by
 have a:=h.at_ p hp
 have c:=h.at_ q b
 rw[e]at a
 omega
def jd(pl:List Nat)(i p:Nat):List Nat:=fO pl i (fun _=>p)
theorem Hp.swap{n:Nat}{xs:List gG}{pl:List Nat}(h:Hp n xs pl){p q:Nat}(hp:p<xs.length)(f:q<xs.length) :
 Hp n (iI xs p q) (jd (jd pl (fJ (iI xs p q) p).ix (p+1)) (fJ (iI xs p q) q).ix (q+1)):=by
 have hs:=Bh hp f
 have l:fJ (iI xs p q) q=fJ xs p:=by rw[hs,if_pos rfl]
 have k:fJ (iI xs p q) p=fJ xs q:=by
  rw[hs]
  split
  . rename_i e;rw[e]
  . rw[if_pos rfl]
 rw[l,k]
 have m:=h.pl
 have o:=h.ix p hp
 have r:=h.ix q f
 have g:∀ i,fJ (jd (jd pl (fJ xs q).ix (p+1)) (fJ xs p).ix (q+1)) i=if (fJ xs p).ix=i then q+1 else if (fJ xs q).ix=i then p+1 else fJ pl i:=fun i=>by
  unfold jd
  rw[ji (by rw[gB];omega),ji o_]
 refine⟨fun j c=>?_,fun j c=>?_,fun j c=>?_,fun i j hi d=>?_,by simp[jd,gB];exact m,by rw[mK];exact h.len⟩
 . rw[mK]at c
   rw[hs]
   split
   . exact o
   . split
     . exact r
     . exact h.ix j c
 . rw[mK]at c
   rw[hs]
   split
   . exact h.key p hp
   . split
     . exact h.key q f
     . exact h.key j c
 . rw[mK]at c
   rw[g,hs]
   by_cases e1:q=j
   . rw[if_pos e1,if_pos rfl,e1]
   . rw[if_neg e1]
     by_cases e2:p=j
     . rw[if_pos e2]
       subst e2
       by_cases e3:(fJ xs p).ix=(fJ xs q).ix
       . exact absurd (h.inj hp f e3).symm e1
       . rw[if_neg e3,if_pos rfl]
     . rw[if_neg e2,if_neg (fun e=>e2 (h.inj hp c e)),if_neg (fun e=>e1 (h.inj f c e))]
       exact h.at_ j c
 . rw[g]at d
   rw[mK,hs]
   by_cases e1:(fJ xs p).ix=i
   . rw[if_pos e1]at d
     grind
   . rw[if_neg e1]at d
     by_cases e2:(fJ xs q).ix=i
     . rw[if_pos e2]at d
       grind
     . rw[if_neg e2]at d
       obtain⟨a,b⟩:=h.of i j hi d
       refine⟨a,?_⟩
       grind
theorem Hp.push{n:Nat}{xs:List gG}{pl:List Nat}(h:Hp n xs pl){i:Nat}{k:Int}(hi:i<n)(q:fJ pl i=0)(hk:gV .i64 k):Hp n (xs++[⟨i,k⟩]) (jd pl i (xs.length+1)):=by
 have t:=h.pl
 have o:∀ j,fJ (jd pl i (xs.length+1)) j=if i=j then xs.length+1 else fJ pl j:=fun j=>ji o_
 have f:∀ p,fJ (xs++[⟨i,k⟩]) p=if p<xs.length then fJ xs p else if p=xs.length then⟨i,k⟩else default:=fun p=>by
  grind [fJ]
 have s:∀ p,p<xs.length->(fJ xs p).ix≠i:=fun p hp e=>by
  have:=h.at_ p hp
  rw[e,q]at this
  omega
 refine⟨fun p hp=>?_,fun p hp=>?_,fun p hp=>?_,fun j p g hp=>?_,by simp[jd,gB];exact t,?_⟩
 . rw[f]
   split
   . rename_i c;exact h.ix p c
   . grind
 . rw[f]
   split
   . rename_i c;exact h.key p c
   . grind
 . rw[o,f]
   by_cases c:p<xs.length
   . rw[if_pos c,if_neg (fun e=>s p c e.symm)]
     exact h.at_ p c
   . grind
 . rw[o]at hp
   rw[f]
   split at hp
   . grind
   . obtain⟨a,b⟩:=h.of j p g hp
     grind
 . -- places of different indexes: no more entries than indexes
   have r:((xs++[(⟨i,k⟩:gG)]).map gG.ix).Nodup:=by
    rw[s9,zr]
    refine⟨?_,s_,fun a m b hb e=>?_⟩
    . refine vm.2 fun a b m hb y w=>?_
      simp only[zu]at m hb
      refine absurd (h.inj m hb ?_) o_
      grind [fJ]
    . simp at hb
      subst hb e
      obtain⟨x,d,z⟩:=zz.1 m
      obtain⟨p,hp,rfl⟩:=Hl.1 d
      grind [fJ]
   have:=nodup_len n _ r fun j g=>by
    obtain⟨x,d,rfl⟩:=zz.1 g
    rcases zp.1 d with d|d
    . obtain⟨p,hp,rfl⟩:=Hl.1 d
      have:=h.ix p hp
      simpa[fJ,hp]using this
    . simp at d
      subst d
      exact hi
   simpa using this
where
 nodup_len:∀ (n:Nat) (L:List Nat),L.Nodup->(∀ j∈L,j<n)->L.length<=n
  | 0,L,_,h=>by
   cases L with
   | nil=>simp
   | cons x L=>exact absurd (h x s_) o_
  | n+1,L,f,h=>by
   have c:=nodup_len n (L.erase n) (f.erase n) (fun j g=>by
    have u:=h j (List.mem_of_mem_erase g)
    have v:j≠n:=fun e=>by subst e;exact(List.Nodup.not_mem_erase f) g
    omega)
   have:=List.length_erase_le (a:=n) (l:=L)
   by_cases hm:n∈L
   . have:=LN hm
     have:=LV hm
     omega
   . rw[List.erase_of_not_mem hm]at c;omega
theorem qR{α:Type}[Inhabited α]{xs:List α}{e:α}:e∈xs↔∃ p,p<xs.length/\fJ xs p=e:=by
 constructor
 . intro h
   obtain⟨p,hp,rfl⟩:=Hl.1 h
   exact⟨p,hp,by simp[fJ,hp]⟩
 . rintro⟨p,hp,rfl⟩
   exact ze (gE hp)
theorem K3{xs:List gG}{p q:Nat}(hp:p<xs.length)(a:q<xs.length)(e:gG):e∈iI xs p q↔e∈xs:=by
 have hs:=Bh hp a
 grind [qR,mK]
theorem Ord.first{xs:List gG}(h:Ord xs):∀ p,p<xs.length->¬ iC (fJ xs p) (fJ xs 0):=by
 intro p
 induction p using Nat.strongRecOn with
 | _ p b =>
  intro hp
  by_cases h0:p=0
  . subst h0;exact CW _
  . have a:pa p<p:=by simp only[pa];omega
    exact FQ (h p o_ hp) (b (pa p) a o_)
theorem Ord.min{xs:List gG}(h:Ord xs){e:gG}(a:e∈xs):¬ iC e (fJ xs 0):=by
 obtain⟨p,hp,rfl⟩:=qR.1 a
 exact h.first p hp
theorem rW{α:Type}[Inhabited α]{xs:List α}{m j:Nat}(h:j<m):fJ (xs.take m) j=fJ xs j:=by
 grind [fJ]
theorem Hp.cut{n:Nat}{xs:List gG}{pl:List Nat}{m:Nat}(h:Hp n xs pl)(hm:xs.length=m+1):Hp n (xs.take m) (jd pl (fJ xs m).ix 0):=by
 have f:=h.pl
 have g:=h.ix m o_
 have d:∀ j,fJ (jd pl (fJ xs m).ix 0) j=if (fJ xs m).ix=j then 0 else fJ pl j:=fun j=>ji o_
 have c:(xs.take m).length=m:=by rw[z7];omega
 refine⟨fun p hp=>?_,fun p hp=>?_,fun p hp=>?_,fun i p hi hp=>?_,by simp[jd,gB];exact f,by have:=h.len;omega⟩
 . rw[c]at hp;rw[rW hp];exact h.ix p o_
 . rw[c]at hp;rw[rW hp];exact h.key p o_
 . rw[c]at hp
   rw[rW hp,d,if_neg (fun e=>by have:=h.inj (p:=m) (q:=p) o_ o_ e;omega)]
   exact h.at_ p o_
 . rw[d]at hp
   split at hp
   . omega
   . rename_i k
     obtain⟨a,b⟩:=h.of i p hi hp
     grind [rW]
theorem Wd{n:Nat}{xs:List gG}{pl:List Nat}{m:Nat}(h:Hp n xs pl)(hm:xs.length=m+1)(e:gG):e∈xs.take m↔e∈xs/\e.ix≠(fJ xs m).ix:=by
 have b:(xs.take m).length=m:=by rw[z7];omega
 rw[qR,qR,b]
 constructor
 . rintro⟨j,a,rfl⟩
   rw[rW a]
   exact⟨⟨j,o_,rfl⟩,fun e=>by have:=h.inj (p:=j) (q:=m) o_ o_ e;omega⟩
 . rintro⟨⟨j,a,rfl⟩,c⟩
   have:j≠m:=fun e=>c (by rw[e])
   exact⟨j,o_,rW o_⟩
theorem Ord.cut{xs:List gG}{p m:Nat}(h:Ord xs)(hm:xs.length=m+1)(hp:p<m):tg ((iI xs p m).take m) p:=by
 have d:((iI xs p m).take m).length=m:=by rw[z7,mK];omega
 have hs:=Bh (xs:=xs) (show p<xs.length by omega) (show m<xs.length by omega)
 refine⟨fun j b a i k=>?_,fun b j g a e=>?_⟩
 . rw[d]at a
   have c:pa j<m:=by simp only[pa];omega
   rw[rW a,rW c,hs,hs,if_neg o_,if_neg (fun e=>i e.symm),if_neg o_,if_neg (fun e=>k e.symm)]
   exact h j b o_
 . rw[d]at a
   have c:pa p<p:=by simp only[pa];omega
   have f:j≠p:=by rintro rfl;omega
   rw[rW a,rW o_,hs,hs,if_neg o_,if_neg (fun e=>f e.symm),if_neg o_,if_neg o_]
   exact FQ (h j g o_) (by rw[e];exact h p b o_)
theorem Ord.V8{xs:List gG}{m:Nat}(h:Ord xs)(hm:m<=xs.length):Ord (xs.take m):=by
 intro j a c
 rw[z7]at c
 have b:pa j<m:=by simp only[pa];omega
 rw[rW o_,rW b]
 exact h j a o_
theorem aeS{xs:List gG}{p:Nat}(hp:p<xs.length):iI xs p p=xs:=by
 have e:∀ (l:List gG),p<l.length->fO l p (fun _=>fJ l p)=l:=fun l a=>by
  apply ow
  grind [fO,gE]
 have e1:=e xs hp
 unfold iI
 rw[e1,e1]
theorem ac4{xs:List gG}(h:Ord xs)(e:gG):tg (xs++[e]) xs.length:=by
 have c:∀ p,p<xs.length->fJ (xs++[e]) p=fJ xs p:=fun p hp=>by
  grind [fJ]
 refine⟨fun j a b g i=>?_,fun a j f b e' => ?_⟩
 . simp at b
   have d:pa j<j:=by simp only[pa];omega
   rw[c j o_,c (pa j) o_]
   exact h j a o_
 . grind
end Go.Sx
namespace Go.Sx
open Go
theorem wN(b:Nat){a:Nat}(h:a<=9223372036854775807):IntKind.i64.wrap ((a:Int).tdiv (b:Int))=((a / b:Nat):Int):=by
 have:a / b<=a:=Nat.div_le_self _ _
 rw[Int.tdiv_eq_ediv_of_nonneg o_,show (a:Int) / (b:Int)=((a / b:Nat):Int) from rfl]
 generalize a / b=c at this
 rw[IntKind.wrap_i64]
 omega
theorem Dh(b:Nat){a:Nat}:(a:Int).tmod (b:Int)=((a%b:Nat):Int):=by
 rw[Bz o_];rfl
def jc(x y:Int):Int:=if x<y then -1 else if y<x then 1 else 0
theorem N3(x y:Int):gV .i64 (jc x y):=by
 show (-9223372036854775808:Int)<=_/\_<=(9223372036854775807:Int)
 unfold jc
 (repeat' split)<;>omega
def mh:List Int->Int
 | []=>0
 | x :: l=>if x=0 then mh l else x
theorem RB{xs:List Int}{k:Nat}(h:∀ j x,j<k->xs[j]? = some x->x=0):mh xs=mh (xs.drop k):=by
 induction xs generalizing k with
 | nil=>simp[mh]
 | cons y xs c =>
  cases k with
  | zero=>rfl
  | succ k =>
   have a:=h 0 y o_ rfl
   simp only[mh,if_pos a,List.drop_succ_cons]
   exact c fun j x d b=>h (j+1) x o_ (by simpa using b)
theorem Rz{xs:List Int}{k:Nat}{x:Int}(h:∀ j x,j<k->xs[j]? = some x->x=0)(c:xs[k]? = some x)(a:x≠0):mh xs=x:=by
 rw[RB h]
 have:=(zj.1 c)
 obtain⟨b,e⟩:=this
 rw[BA b,e]
 simp[mh,a]
theorem RA{xs:List Int}{k:Nat}(h:∀ j x,j<k->xs[j]? = some x->x=0)(hk:k=xs.length):mh xs=0:=by
 rw[RB h,hk]
 simp[mh]
theorem RC{xs:List Int}{k:Nat}{y:Int}(h:∀ j x,j<k->xs[j]? = some x->x=0)(c:xs[k]? = some y)(b:y=0):∀ j x,j<k+1->xs[j]? = some x->x=0:=by
 intro j x d a
 by_cases e:j=k
 . subst e
   rw[c]at a
   cases a
   exact b
 . exact h j x o_ a
theorem RD(a b:gG):mh [jc a.key b.key,jc a.ix b.ix]=qp a b:=by
 unfold mh mh mh jc qp
 (repeat' split)<;>omega
structure jw (n:Nat) (ps:List (Option Nat)) (pl:List Nat):Prop where
 len:pl.length=64*ps.length
 room:n<=pl.length
 zero:∀ j,ps[j]? = some none->∀ i,i / 64=j->fJ pl i=0
 val:∀ i,fJ pl i<=65536
 n:n<=65536
 top:ps.length<=1000000
theorem jw.at{n:Nat}{ps:List (Option Nat)}{pl:List Nat}(h:jw n ps pl){i:Nat}(hi:i<n):i / 64<ps.length:=by
 have a:=h.len
 have b:=h.room
 omega
theorem jw.Vx{n:Nat}{ps:List (Option Nat)}{pl:List Nat}(h:jw n ps pl){j:Nat}(b:ps[j]? = some none):List.replicate 64 (Value.int .i64 0)=((pl.drop (64*j)).take 64).flatMap (fun(x:Nat)=>[.int .i64 (x:Int)]):=by
 have g:=(zj.1 b).1
 have i:=h.len
 have e:(pl.drop (64*j)).take 64=List.replicate 64 0:=by
  rw[List.eq_replicate_iff]
  refine⟨by rw[z7,BI];omega,fun x f=>?_⟩
  obtain⟨q,d,rfl⟩:=Hl.1 f
  rw[z7,BI]at d
  have a:=h.zero j b (64*j+q) o_
  have c:64*j+q<pl.length:=by omega
  simp only[fJ,zk c,zM]at a
  simp[a]
 rw[e]
 rfl
theorem jw.set{n:Nat}{ps:List (Option Nat)}{pl:List Nat}(h:jw n ps pl){i p b:Nat}(hi:i<n)(hp:p<=65536)(hb:ps[i / 64]? = some (some b)):jw n ps (jd pl i p):=by
 have d:=h.room
 refine⟨by simp only[jd,gB];exact h.len,by simp only[jd,gB];exact d,fun j a q c=>?_,fun q=>?_,h.n,h.top⟩
 . unfold jd
   rw[ji o_,if_neg (fun e=>by subst e;rw[c]at hb;rw[a]at hb;cases hb)]
   exact h.zero j a q c
 . unfold jd
   rw[ji o_]
   split
   . exact hp
   . exact h.val q
theorem jw.made{n:Nat}{ps:List (Option Nat)}{pl:List Nat}(h:jw n ps pl){j b:Nat}:jw n (ps.set j (some b)) pl:=by
 refine⟨by rw[List.length_set];exact h.len,h.room,fun q a=>?_,h.val,h.n,by rw[List.length_set];exact h.top⟩
 rw[vt]at a
 split at a
 . split at a<;>cases a
 . exact h.zero q a
instance:Inhabited (Option Nat):=⟨none⟩
abbrev fW(x:Nat):List Value:=[.int .i64 (x:Int)]
theorem paN{p:Nat}(h:p<=65536):IntKind.i64.wrap (((p:Int)-1).tdiv 2)=((pa p:Nat):Int):=by
 cases p with
 | zero=>rfl
 | succ p =>
  have e:((p+1:Nat):Int)-1=(p:Int):=by omega
  rw[e]
  have:=wN 2 (a:=p) o_
  exact this
def rL(xs:List gG)(p:Nat):Int:=if 0<p/\iC (fJ xs p) (fJ xs (pa p))then(pa p:Int)else -1
def nW(xs:List gG)(p:Nat):Int:=if jD xs p=p then -1 else(jD xs p:Int)
theorem UF{xs:List gG}{p:Nat}(h:rL xs p ≠ -1):rL xs p=((pa p:Nat):Int)/\0<p/\iC (fJ xs p) (fJ xs (pa p)):=by
 unfold rL at h ⊢
 split
 . rename_i a;exact⟨rfl,a⟩
 . rename_i a;rw[if_neg a]at h;exact absurd rfl h
theorem UG{xs:List gG}{p:Nat}(h:rL xs p = -1):¬ (0<p/\iC (fJ xs p) (fJ xs (pa p))):=by
 intro a
 unfold rL at h
 rw[if_pos a]at h
 omega
theorem Va{xs:List gG}{p:Nat}(h:nW xs p ≠ -1):nW xs p=((jD xs p:Nat):Int)/\jD xs p≠p:=by
 unfold nW at h ⊢
 split
 . rename_i a;rw[if_pos a]at h;exact absurd rfl h
 . rename_i a;exact⟨rfl,a⟩
theorem Vb{xs:List gG}{p:Nat}(h:nW xs p = -1):jD xs p=p:=by
 unfold nW at h
 split at h
 . assumption
 . omega
structure oC (n:Nat) (xs ys:List gG) (ps qs:List (Option Nat)) (pl:List Nat):Prop where
 hp:Hp n ys pl
 gH:jw n qs pl
 len:ys.length=xs.length
 mem:∀ e,e∈ys↔e∈xs
 o7:qs.length=ps.length
theorem oC.swap{n:Nat}{xs ys:List gG}{ps c a:List (Option Nat)}{pl:List Nat}{p q:Nat}(h:oC n xs ys ps c pl)(hp:p<ys.length)(b:q<ys.length)(f:a.length=c.length)
 (d:jw n a (jd (jd pl (fJ (iI ys p q) p).ix (p+1)) (fJ (iI ys p q) q).ix (q+1))):oC n xs (iI ys p q) ps a (jd (jd pl (fJ (iI ys p q) p).ix (p+1)) (fJ (iI ys p q) q).ix (q+1)) :=
 ⟨h.hp.swap hp b,d,by rw[mK,h.len],fun e=>(K3 hp b e).trans (h.mem e),f.trans h.o7⟩
theorem oC.refl{n:Nat}{xs:List gG}{ps:List (Option Nat)}{pl:List Nat}(h:Hp n xs pl)(a:jw n ps pl):oC n xs xs ps ps pl:=⟨h,a,rfl,fun _=>Iff.rfl,rfl⟩
theorem oC.trans{n:Nat}{xs ys zs:List gG}{ps b c:List (Option Nat)}{pl a:List Nat}(h:oC n xs ys ps b pl)(k:oC n ys zs b c a):oC n xs zs ps c a :=
 ⟨k.hp,k.gH,k.len.trans h.len,fun e=>(k.mem e).trans (h.mem e),k.o7.trans h.o7⟩
theorem jw.copy{n k:Nat}{ps b:List (Option Nat)}{pl:List Nat}(h:jw n ps pl)(c:qA ps b k)(hk:k=ps.length):jw n b pl :=
 ⟨by rw[c.len];exact h.len,h.room,fun j a i hi=>h.zero j (c.done j (by have:=(zj.1 a).1;have:=c.len;omega) a) i hi,h.val,h.n,by rw[c.len];exact h.top⟩
theorem jw.new{n m:Nat}(b:n<=65536)(hm:m=(n+63) / 64):jw n (List.replicate m none) (List.replicate (64*m) 0):=by
 have a:∀ i,fJ (List.replicate (64*m) 0) i=0:=fun i=>by
  unfold fJ
  rw[uk]
  split<;>rfl
 exact⟨s_,by simp;omega,fun j _ i _=>a i,fun i=>by rw[a];omega,b,by simp;omega⟩
theorem Hp.new{n m:Nat}(hm:m=(n+63) / 64):Hp n [] (List.replicate (64*m) 0):=by
 have a:∀ i,fJ (List.replicate (64*m) 0) i=0:=fun i=>by
  unfold fJ
  rw[uk]
  split<;>rfl
 exact⟨fun p hp=>by simp at hp,fun p hp=>by simp at hp,fun p hp=>by simp at hp,fun i p _ hp=>by rw[a]at hp;omega,by simp;omega,s_⟩
theorem Ord.nil:Ord []:=fun j _ a=>by simp at a
end Go.Sx
namespace Go.Sx
open Go
structure gT where
 st:Int
 after:Int
 times:Int
 deriving Inhabited
def gT.cells(x:gT):List Value:=[.int .i64 x.st,.int .i64 x.after,.int .u64 x.times]
structure As where
 n:Nat
 begun:Nat
 used:Nat
 last:Int
 sl:List gT
 fl:List Nat
 ps:List (Option Nat)
def BM(sl:List gT):Int->List Nat->Prop
 | l,[]=>l = -1
 | l,i :: r=>l=(i:Int)/\BM sl (fJ sl i).after r
def As.gX(A:As)(i:Nat):Prop:=i<A.begun/\i∉A.fl
structure As.ok (A:As):Prop where
 n:A.n<=65536
 le:A.begun<=A.n
 o7:A.ps.length=(A.begun+63) / 64
 ps:∀ j,j<A.ps.length->∃ b,A.ps[j]? = some (some b)
 sl:A.sl.length=64*A.ps.length
 nodup:A.fl.Nodup
 fl:∀ i∈A.fl,i<A.begun
 chain:BM A.sl A.last A.fl
 st:∀ i,i<A.begun->(fJ A.sl i).st=if i∈A.fl then 2 else 1
 used:A.used+A.fl.length=A.begun
theorem C7:∀ (L M:List Nat),L.Nodup->(∀ j∈L,j∈M)->L.length<=M.length
 | [],_,_,_=>by simp
 | x :: L,M,hn,h=>by
  have b:=h x s_
  have c:=C7 L (M.erase x) (zw.1 hn).2 (fun j a=>(List.mem_erase_of_ne (fun e=>(zw.1 hn).1 (by rw[<-e];exact a))).2 (h j (by simp[a])))
  rw[LN b]at c
  have:=LV b
  simp only[zh]
  omega
theorem AQ(n:Nat)(L:List Nat)(b:L.Nodup)(h:∀ j∈L,j<n):L.length<=n:=by
 have:=C7 L (List.range n) b (fun j a=>l7.2 (h j a))
 simpa using this
theorem As.ok.room{A:As}(h:A.ok){i:Nat}(hi:i<A.begun):i<A.sl.length/\i / 64<A.ps.length:=by
 have a:=h.sl
 have b:=h.o7
 omega
theorem As.ok.at{A:As}(h:A.ok){i:Nat}(hi:i<A.begun):∃ b,A.ps[i / 64]? = some (some b):=h.ps _ (h.room hi).2
theorem BM.congr{sl a : List gT}:∀ {r:List Nat} {l:Int},BM sl l r->(∀ i∈r,(fJ a i).after=(fJ sl i).after)->BM a l r
 | [],_,h,_=>h
 | i :: r,l,h,he=>⟨h.1,by rw[he i s_];exact h.2.congr fun j b=>he j (by simp[b])⟩
def tk(x:gT):gT:=⟨1,-1,IntKind.u64.wrap (x.times+1)⟩
theorem Lp{sl:List gT}{i:Nat}(hi:i<sl.length){t:Int}(a:t=IntKind.u64.wrap ((fJ sl i).times+1)):fO (fO (fO sl i (fun x=>{ x with st:=1 })) i (fun x=>{ x with after := -1 })) i (fun x=>{ x with times:=t })=fO sl i tk:=by
 subst a
 have e:∀ (l:List gT) (f g:gT->gT),i<l.length->fO (fO l i f) i g=fO l i (fun x=>g (f x)):=fun l f g h=>by
  have e:=jS (f:=f) h
  unfold fO at e ⊢
  rw[e,List.set_set]
 rw[e _ _ _ hi,e _ _ _ hi]
 rfl
theorem As.ok.pop{A:As}(h:A.ok){i:Nat}{r:List Nat}(d:A.fl=i :: r) :
 As.ok ⟨A.n,A.begun,A.used+1,(fJ A.sl i).after,fO A.sl i tk,r,A.ps⟩/\(∀ j,As.gX ⟨A.n,A.begun,A.used+1,(fJ A.sl i).after,fO A.sl i tk,r,A.ps⟩ j↔A.gX j\/j=i)/\¬ A.gX i/\i<A.begun/\A.last=(i:Int):=by
 have o:=h.chain
 have g:=h.nodup
 rw[d]at o g
 rw[zw]at g
 have p:i<A.begun:=h.fl i (by rw[d];simp)
 have t:=(h.room p).1
 have m:=fun j=>ji (xs:=A.sl) (k:=i) (j:=j) (f:=tk) t
 refine⟨⟨h.n,h.le,h.o7,h.ps,by simp only[gB];exact h.sl,g.2,fun j l=>h.fl j (by rw[d];simp[l]),?_,fun j l=>?_,?_⟩,fun j=>?_,fun m=>m.2 (by rw[d];simp),p,o.1⟩
 . refine o.2.congr fun j l=>?_
   rw[m,if_neg (fun e=>g.1 (by rw[e];exact l))]
 . simp only
   rw[m]
   split
   . rename_i e
     subst e
     rw[if_neg g.1]
     rfl
   . rename_i e
     have:=h.st j l
     rw[this,d]
     simp only[zg]
     by_cases h1:j∈r
     . rw[if_pos (.inr h1),if_pos h1]
     . rw[if_neg (fun q=>q.elim (fun s=>e s.symm) h1),if_neg h1]
 . have:=h.used
   rw[d]at this
   simp only[zh]at this
   show A.used+1+r.length=A.begun
   omega
 . simp only[As.gX,d,zg,not_or]
   constructor
   . rintro⟨a,b⟩
     by_cases e:j=i
     . exact .inr e
     . exact .inl ⟨a,e,b⟩
   . rintro(⟨a,b,c⟩|rfl)
     . exact⟨a,c⟩
     . exact⟨p,g.1⟩
theorem As.ok.fresh{A:As}(h:A.ok)(a:A.fl=[])(v:A.begun<A.n){ps2:List (Option Nat)}{sl2:List gT}{b:Nat}(hb:(A.begun%64=0/\ps2=A.ps++[some b]/\sl2=A.sl++List.replicate 64 ⟨0,0,0⟩)\/(A.begun%64≠0/\ps2=A.ps/\sl2=A.sl)) :
 As.ok ⟨A.n,A.begun+1,A.used+1,A.last,fO sl2 A.begun tk,[],ps2⟩/\(∀ j,As.gX ⟨A.n,A.begun+1,A.used+1,A.last,fO sl2 A.begun tk,[],ps2⟩ j↔A.gX j\/j=A.begun)/\¬ A.gX A.begun/\A.last = -1/\A.begun<sl2.length/\∃ c,ps2[A.begun / 64]? = some (some c):=by
 have g:=h.chain
 have q:=h.sl
 have u:=h.o7
 rw[a]at g
 have r:ps2.length=(A.begun+1+63) / 64/\sl2.length=64*ps2.length/\(∀ j,j<ps2.length->∃ b,ps2[j]? = some (some b))/\∀ j,j<A.begun->fJ sl2 j=fJ A.sl j:=by
  rcases hb with ⟨e,rfl,rfl⟩|⟨e,rfl,rfl⟩
  . refine⟨by simp;omega,by simp;omega,fun j d=>?_,fun j d=>?_⟩
    . rw[L7]
      split
      . exact h.ps j (by assumption)
      . simp at d
        have:j-A.ps.length=0:=by omega
        rw[this]
        exact⟨b,rfl⟩
    . unfold fJ
      rw[zG o_]
  . exact⟨o_,q,h.ps,fun j _=>rfl⟩
 obtain⟨s,p2,p,t⟩:=r
 have o:A.begun<sl2.length:=by omega
 have l:=fun j=>ji (xs:=sl2) (k:=A.begun) (j:=j) (f:=tk) o
 refine⟨⟨h.n,by show A.begun+1<=A.n;omega,s,p,by simp only[gB];exact p2,zN,fun i hi=>by simp at hi,g,fun j d=>?_,?_⟩,fun j=>?_,fun l=>absurd l.1 o_,g,o,p _ o_⟩
 . simp only[mo,if_false]
   rw[l]
   split
   . rfl
   . rename_i e
     have m : j<A.begun:=by
      have:j<A.begun+1:=d
      omega
     rw[t j m, h.st j m, a]
     simp
 . have:=h.used
   rw[a]at this
   simp at this ⊢
   omega
 . simp only[As.gX,a,mo,not_false_eq_true,and_true]
   omega
theorem As.ok.full{A:As}(h:A.ok)(b:A.used<A.n):(∃ i r,A.fl=i :: r)\/(A.fl=[]/\A.begun<A.n):=by
 have a:=h.used
 cases hf:A.fl with
 | cons i r=>exact .inl ⟨i,r,rfl⟩
 | nil =>
  rw[hf]at a
  simp at a
  exact .inr ⟨rfl,o_⟩
theorem As.ok.free{A:As}(h:A.ok){i:Nat}(hi:A.gX i){sl2:List gT}(hs:sl2=fO (fO A.sl i (fun x=>{ x with st:=2 })) i (fun x=>{ x with after:=A.last })) :
 As.ok ⟨A.n,A.begun,A.used-1,(i:Int),sl2,i :: A.fl,A.ps⟩/\(∀ j,As.gX ⟨A.n,A.begun,A.used-1,(i:Int),sl2,i :: A.fl,A.ps⟩ j↔A.gX j/\j≠i)/\0<A.used:=by
 obtain⟨g,k⟩:=hi
 have m:=(h.room g).1
 have f:=h.used
 have s:0<A.used:=by
  have r:(i :: A.fl).length<=A.begun:=by
   have q:(i :: A.fl).Nodup:=zw.2 ⟨k,h.nodup⟩
   exact AQ A.begun _ q fun j d=>by
    rcases zg.1 d with rfl|d
    . exact g
    . exact h.fl j d
  simp only[zh]at r
  omega
 have l:∀ j,fJ sl2 j=if i=j then { fJ A.sl i with st:=2,after:=A.last } else fJ A.sl j:=fun j=>by
  subst hs
  rw[ji (by rw[gB];exact m)]
  by_cases e:i=j
  . rw[if_pos e,if_pos e,jS m]
  . rw[if_neg e,if_neg e,jQ e]
 refine⟨⟨h.n,h.le,h.o7,h.ps,by rw[hs];simp only[gB];exact h.sl,zw.2 ⟨k,h.nodup⟩,fun j d=>?_,⟨rfl,?_⟩,fun j d=>?_,by simp only[zh];omega⟩,fun j=>?_,s⟩
 . rcases zg.1 d with rfl|d
   . exact g
   . exact h.fl j d
 . rw[l,if_pos rfl]
   refine h.chain.congr fun j d=>?_
   rw[l,if_neg (fun e=>k (by rw[e];exact d))]
 . simp only
   rw[l]
   split
   . rename_i e
     subst e
     simp
   . rename_i e
     rw[h.st j d]
     simp only[zg]
     by_cases f:j∈A.fl
     . rw[if_pos f,if_pos (.inr f)]
     . rw[if_neg f,if_neg (fun o=>o.elim (fun p=>e p.symm) f)]
 . simp only[As.gX,zg,not_or]
   constructor
   . rintro⟨a,b,c⟩;exact⟨⟨a,c⟩,b⟩
   . rintro⟨⟨a,c⟩,b⟩;exact⟨a,b,c⟩
def As.list(A:As)(k:Nat):List Nat:=(List.range k).filter fun i=>decide ((fJ A.sl i).st=1)
theorem As.QF(A:As)(k:Nat):A.list (k+1)=if (fJ A.sl k).st=1 then A.list k++[k]else A.list k:=by
 unfold As.list
 rw[tf,BH]
 split
 . rename_i h;simp[h]
 . rename_i h;simp[h]
theorem As.QE(A:As):∀ k,(A.list k).length<=k:=fun k=>by
 have:=Hi (fun i=>decide ((fJ A.sl i).st=1)) (List.range k)
 simpa[As.list]using this
theorem As.ok.oZ{A:As}(h:A.ok)(i:Nat):i∈A.list A.begun↔A.gX i:=by
 simp only[As.list,kZ,l7,decide_eq_true_eq,As.gX]
 constructor
 . rintro⟨a,b⟩
   refine⟨a,fun c=>?_⟩
   rw[h.st i a,if_pos c]at b
   omega
 . rintro⟨a,b⟩
   exact⟨a,by rw[h.st i a,if_neg b]⟩
theorem As.CT(A:As)(k:Nat):(A.list k).Pairwise (· < ·):=List.Pairwise.filter _ List.pairwise_lt_range
theorem As.ok.AJ{A:As}(h:A.ok):(A.list A.begun).length=A.used:=by
 have i:(A.list A.begun++A.fl).Nodup:=by
  rw[zr]
  refine⟨(A.CT _).imp (fun h=>Nat.ne_of_lt h),h.nodup,fun a g b hb e=>?_⟩
  subst e
  exact((h.oZ a).1 g).2 hb
 have d:(A.list A.begun++A.fl).length<=A.begun:=AQ _ _ i fun j c=>by
  rcases zp.1 c with c|c
  . exact((h.oZ j).1 c).1
  . exact h.fl j c
 have f:(List.range A.begun).length<=(A.list A.begun++A.fl).length:=by
  refine C7 _ _ xg fun j c=>?_
  rw[l7]at c
  by_cases e:j∈A.fl
  . exact xo _ e
  . exact xq _ ((h.oZ j).2 ⟨c,e⟩)
 have k:=h.used
 simp only[zt,qy]at d f
 omega
def As.new(n:Nat):As:=⟨n,0,0,-1,[],[],[]⟩
theorem As.tP{n:Nat}(b:n<=65536):(As.new n).ok :=
 ⟨b,oN _,by simp[As.new],fun j a=>by simp[As.new]at a,rfl,zN,fun i hi=>by simp[As.new]at hi,rfl,fun i hi=>by simp[As.new]at hi,rfl⟩
theorem As.ok.copy{A:As}(h:A.ok){a:List (Option Nat)}(c:a.length=A.ps.length)(d:∀ j,j<a.length->∃ b,a[j]? = some (some b)):As.ok { A with ps:=a } :=
 ⟨h.n,h.le,by show a.length=_;rw[c];exact h.o7,d,by show A.sl.length=_;rw[h.sl,c],h.nodup,h.fl,h.chain,h.st,h.used⟩
theorem ae2{α:Type}(l:List α)(B k:Nat):l.take (B*k)++(l.drop (B*k)).take B=l.take (B*(k+1)):=by
 rw[Nat.mul_add,sC,List.take_add]
structure xw (qs:List (Option Nat)) (k:Nat):Prop where
 len:qs.length=k
 all:∀ j,j<qs.length->∃ b,qs[j]? = some (some b)
theorem xw.start:xw [] 0:=⟨rfl,fun j a=>by simp at a⟩
theorem xw.next{a:List (Option Nat)}{k b:Nat}(h:xw a k):xw (a++[some b]) (k+1) :=
 ⟨by simp[h.len],fun j c=>by
  rw[L7]
  split
  . exact h.all j (by assumption)
  . simp at c
    have:j-a.length=0:=by omega
    rw[this]
    exact⟨b,rfl⟩⟩
theorem Vy{α:Type}{l:List α}{B m k:Nat}(a:l.length=B*m)(hk:k<m):((l.drop (B*k)).take B).length=B/\(l.take (B*k)).length=B*k:=by
 have:B*(k+1)<=B*m:=BF _ hk
 rw[Nat.mul_add]at this
 rw[z7,BI,z7]
 omega
end Go.Sx
namespace Go.Sx
open Go
theorem It{xs:List Nd}{q:Nat}:∀ {c:Cx} {j:Nat} {L:List Nat},At xs c j L q->Out xs q (lC c L)->∀ (k v:Nat),(jo c j)[k]? = some v ->
 (k<c.length->(jH xs v).2=true/\(jo c j)[k+1]? = some (fJ xs v).up)/\(k=c.length->jH xs v=(0,false))
 | [],j,L,h,ho,k,v,hk=>by
  cases k with
  | succ k=>simp[jo]at hk
  | zero =>
   simp[jo]at hk
   subst hk
   exact⟨fun h=>absurd h s_,fun _=>h.stop ho⟩
 | (d,g,s) :: c,j,L,h,ho,k,v,hk=>by
  obtain⟨f,i,l⟩:=h.step
  cases k with
  | zero =>
   simp[jo]at hk
   subst hk
   exact⟨fun _=>⟨by rw[f],by simp[jo,i]⟩,fun h=>absurd h s_⟩
  | succ k =>
   have m : (jo c g)[k]? = some v:=by simpa[jo]using hk
   have:=It l ho k v m
   refine⟨fun e=>?_,fun e=>this.2 (by simpa using e)⟩
   obtain⟨a,b⟩:=this.1 (by simpa using e)
   exact⟨a,by simpa[jo]using b⟩
theorem jJ.P4{xs0 xs:List Nd}{a t s:Tr}{O:Cx}{q g:Nat}{d:Bool}(h:jJ xs0 xs a O (me d t g s) q)(b:(fJ xs g).flip=false):jJ xs0 xs a ((d,g,s) :: O) t q :=
 ⟨h.rep,h.perm,h.ord,h.kl,h.other,fun f hm=>by
  rcases zg.1 hm with rfl|hm
  . exact b
  . exact h.flip f hm⟩
theorem LA{i:Nat}{t:Tr}{w:List Nat}(h:Way i t w):∃ l r w', t = .nd l (w.headD 0) r/\w=w.headD 0 :: w' := by
 cases t with
 | nil=>exact h.elim
 | nd l j r =>
  rcases h with ⟨rfl,rfl⟩|⟨w', rfl,_⟩
  . exact⟨l,r,[],rfl,rfl⟩
  . exact⟨l,r,w', rfl,rfl⟩
theorem afY{xs0 xs:List Nd}{k U:Tr}{O:Cx}{q i j:Nat}{w:List Nat}(h:jJ xs0 xs k O U q)(v:k.mem.Nodup)(c:Way i U (j :: w)) :
 (w=[]->j=i/\∃ a b,jJ xs0 (jX xs j) k O (.nd a i b) q/\(fJ (jX xs j) i).flip=false)/\(w≠[]->∃ p o, jJ xs0 (jX xs j) k p o q/\Way i o w):=by
 obtain⟨l,r,w', e1,s⟩:=LA c
 simp only[List.headD_cons]at e1 s
 subst e1
 obtain⟨l', m, u,hm,n⟩:=h.push v
 refine⟨fun e=>?_,fun e=>?_⟩
 . rcases c with ⟨rfl,_⟩|⟨x,g,c⟩
   . exact⟨rfl,l', m, hm,n⟩
   . cases g
     subst e
     rcases c with c|c<;>(obtain⟨_,_,_,_,t⟩:=LA c;cases t)
 . rcases c with ⟨_,g⟩|⟨x,g,c⟩
   . cases g
     exact absurd rfl e
   . cases g
     have f:Way i l' w\/Way i m w:=by
      rcases u with ⟨rfl,rfl⟩|⟨rfl,rfl⟩
      . exact c
      . exact c.symm
     rcases f with f|f
     . exact⟨(true,j,m) :: O,l', jJ.P4 (d:=true) hm n,f⟩
     . exact⟨(false,j,l') :: O,m, jJ.P4 (d:=false) hm n,f⟩
theorem gf.push{xs:List Nd}(h:gf xs){i:Nat}(hi:i<xs.length):gf (jX xs i)/\(jX xs i).length=xs.length:=by
 unfold jX
 split
 . simp only
   obtain⟨y0,g⟩:∃ y,y=fO xs i (fun x=>{ x with flip:=false }):=⟨_,rfl⟩
   have k:gf y0:=g▸h.iN hi fun x a b c d e=>⟨a,b,c,d,e⟩
   have l0:y0.length=xs.length:=by rw[g,gB]
   rw[<-g]
   obtain⟨y1,e1⟩:∃ y,y=fO y0 i (fun x=>{ x with k0:=(fJ y0 i).k1 }):=⟨_,rfl⟩
   have p:gf y1:=e1▸k.iN o_ fun x a b c d e=>⟨k.k1 i o_,b,c,d,e⟩
   have r:y1.length=xs.length:=by rw[e1,gB,l0]
   rw[<-e1]
   obtain⟨y2,j⟩:∃ y,y=fO y1 i (fun x=>{ x with k1:=(fJ y0 i).k0 }):=⟨_,rfl⟩
   have q:(fJ y0 i).k0<y1.length:=by
    have:=k.k0 i o_
    omega
   have f:gf y2:=by
    rw[j]
    exact p.iN o_ fun x a b c d e=>⟨a,q,c,d,e⟩
   have n:y2.length=xs.length:=by rw[j,gB,r]
   rw[<-j]
   obtain⟨o,m⟩:∃ y,y=(if (fJ y2 i).k0=0 then y2 else fO y2 (fJ y2 i).k0 (fun x=>{ x with flip := !(fJ y2 (fJ y2 i).k0).flip })):=⟨_,rfl⟩
   have l:gf o/\o.length=xs.length:=by
    rw[m]
    split
    . exact⟨f,n⟩
    . exact⟨f.iN (f.k0 i o_) fun x a b c d e=>⟨a,b,c,d,e⟩,by rw[gB,n]⟩
   rw[<-m]
   split
   . exact l
   . exact⟨l.1.iN (by have:=f.k1 i o_;omega) fun x a b c d e=>⟨a,b,c,d,e⟩,by rw[gB];exact l.2⟩
 . exact⟨h,rfl⟩
theorem jJ.out{xs0 xs:List Nd}{a U:Tr}{O:Cx}{q:Nat}(h:jJ xs0 xs a O U q)(f:Out xs0 q a.mem):Out xs q (lC O U.mem):=by
 have hm:∀ j,j∈lC O U.mem↔j∈a.mem:=fun j=>by rw[<-pS];exact h.perm.mem_iff
 rcases f with e|⟨c,d,b⟩
 . exact .inl e
 . have e:=h.other q b
   refine .inr ⟨fun k=>c ?_,fun k=>d ?_,fun k=>b ((hm _).1 k)⟩
   . have:=(hm _).1 k
     simpa only[jf,e]using this
   . have:=(hm _).1 k
     simpa only[jf,e]using this
theorem jJ.sides{xs0 xs:List Nd}{k a b:Tr}{O:Cx}{q i:Nat}(h:jJ xs0 xs k O (.nd a i b) q)(r:k.mem.Nodup)(t:Out xs0 q k.mem) :
 (O=[]/\jH xs i=(0,false))\/(∃ d p s,O=[(d,p,s)]/\jH xs i=(sd d,true)/\(fJ xs i).up=p/\jH xs p=(0,false)) \/
 (∃ d p s j g o c,O=(d,p,s) :: (j, g,o) :: c/\jH xs i=(sd d,true)/\(fJ xs i).up=p/\jH xs p=(sd j, true)):=by
 have e:=At.start h.rep (h.perm.nodup_iff.2 r)
 have f:=h.out t
 match O,e,f with
 | [],e,f=>exact .inl ⟨rfl,e.stop f⟩
 | [(d,p,s)],e,f =>
  obtain⟨l,m,n⟩:=e.step
  exact .inr (.inl ⟨d,p,s,rfl,l,m,n.stop f⟩)
 | (d,p,s) :: (j, g,o) :: c,e,f =>
  obtain⟨l,m,n⟩:=e.step
  exact .inr (.inr ⟨d,p,s,j, g,o, c,rfl,l,m,n.step.1⟩)
theorem ad7{d a : Bool}(h:sd d=sd a):d=a := by cases d<;>cases a <;> first|rfl|cases h
end Go.Sx
namespace Go.Sx
open Go
section
variable {w:World} {bs:List (World×List Nat)} {L:List fS} {R R' : fS} {i j:Nat} {k:IntKind} {v:Value} {e:TypeId} {ys:List Int}
theorem YA:∀ {L:List fS} {i j:Nat},(iQ L).Nodup->L[i]? = some R->L[j]? = some R' -> i≠j->∀ b∈R.gK,b∉R'.gK:=by
 intro L
 induction L with
 | nil=>intro i j _ h;simp at h
 | cons Q L f =>
  intro i j c hi a e b hb
  rw[mU,zr]at c
  cases i with
  | zero =>
   simp at hi;subst hi
   cases j with
   | zero=>exact absurd rfl e
   | succ j=>exact fun d => c.2.2 b hb b (rU (i:=j) (by simpa using a) d) rfl
  | succ i =>
   cases j with
   | zero=>simp at a;subst a;exact fun d => c.2.2 b d b (rU (i:=i) (by simpa using hi) hb) rfl
   | succ j=>exact f c.2.1 (by simpa using hi) (by simpa using a) o_ b hb
theorem St.adQ(h:St bs L w)(hi:L[i]? = some (ig k v e ys))(hk:∀ y∈ys,gV k y)(o:L[j]? = some R)(r:i≠j):Ints k (fun b=>b∉R.gK) w v ys:=by
 have c:w.ownsRow 0 e 1 v ys.length (ys.map (.int k)):=h.own _ (ze hi)
 rcases c.2 with ⟨rfl,l⟩|⟨a, f,cur,rfl,_,s,m,n,_⟩
 . have:ys=[]:=ug l
   subst this
   exact Sl.nil _ _ _ _
 . refine⟨_,f,rfl,m,n,fun q y d=>⟨a, 0,[.int k y],rfl,YA h.sep hi o r a (by simp[row,Value.ownBlock]),rfl,⟨rfl,hk y (ze d)⟩,fun p u hp=>?_⟩⟩
   cases p with
   | zero =>
    simp at hp
    subst hp
    have:=c.cells (g:=a) rfl q (.int k y) (by simp[d])
    rw[Addr.add_lit]at this
    simpa using this
   | succ p=>simp at hp
end
end Go.Sx
namespace Go.Sx
open Go
theorem Ta{α:Type}{l:List α}{i:Nat}{x:α}(h:l[i]? = some x):l.take (i+1)=l.take i++[x]:=by rw[ry,h];rfl
theorem gf.rotate{xs:List Nd}(h:gf xs){i:Nat}(hi:i<xs.length):gf (iK xs i)/\(iK xs i).length=xs.length:=by
 have hp:=h.up i hi
 have j:=h.up _ hp
 unfold iK
 simp only
 obtain⟨y1,e1⟩:∃ y,y=(if (jH xs (fJ xs i).up).2=true then iU xs (fJ xs (fJ xs i).up).up (jH xs (fJ xs i).up).1 i else fO xs i (fun x=>{ x with up:=(fJ xs (fJ xs i).up).up })):=⟨_,rfl⟩
 have f:gf y1/\y1.length=xs.length:=by
  rw[e1]
  split
  . exact⟨h.kD j hi,Fg _ _ _ _⟩
  . exact⟨h.iN hi fun x a b c d e=>⟨a,b,j,d,e⟩,gB⟩
 rw[<-e1]
 obtain⟨k,g⟩:∃ k,k=(if (jH xs i).1=0 then(fJ y1 i).k1 else(fJ y1 i).k0):=⟨_,rfl⟩
 have n:k<y1.length:=by
  rw[g]
  split
  . exact f.1.k1 i o_
  . exact f.1.k0 i o_
 rw[<-g]
 have l:gf (iU y1 (fJ xs i).up (jH xs i).1 k):=f.1.kD o_ n
 have o:(iU y1 (fJ xs i).up (jH xs i).1 k).length=xs.length:=by rw[Fg];exact f.2
 have m:gf (iU (iU y1 (fJ xs i).up (jH xs i).1 k) i (1-(jH xs i).1) (fJ xs i).up):=l.kD o_ o_
 have p:(iU (iU y1 (fJ xs i).up (jH xs i).1 k) i (1-(jH xs i).1) (fJ xs i).up).length=xs.length:=by rw[Fg];exact o
 exact⟨(m.lI o_).lI (by rw[F8];omega),by rw[F8,F8];exact p⟩
theorem Dj{xs:List Nd}(h:gf xs){i:Nat}(hi:i<xs.length):(iK xs i).length=xs.length:=(h.rotate hi).2
def lD(xs:List Nd)(P:List Nat)(k:Nat):List Nd:=(P.reverse.take k).foldl jX xs
theorem Sb(xs:List Nd)(P:List Nat):lD xs P 0=xs:=by simp[lD]
theorem Sa{xs:List Nd}{P:List Nat}{k j:Nat}(h:P.reverse[k]? = some j):lD xs P (k+1)=jX (lD xs P k) j:=by
 unfold lD
 rw[Ta h,List.foldl_append]
 rfl
theorem gf.lD{xs:List Nd}(h:gf xs){P:List Nat}(d:∀ j∈P,j<xs.length):∀ k,gf (Go.Sx.lD xs P k)/\(Go.Sx.lD xs P k).length=xs.length:=by
 intro k
 induction k with
 | zero=>rw[Sb];exact⟨h,rfl⟩
 | succ k c =>
  cases hk:P.reverse[k]? with
  | none =>
   have:Go.Sx.lD xs P (k+1)=Go.Sx.lD xs P k:=by
    unfold Go.Sx.lD
    rw[ry,hk]
    simp
   rw[this]
   exact c
  | some j =>
   rw[Sa hk]
   have e:j∈P:=by simpa using ze hk
   obtain⟨a,b⟩:=c.1.push (i:=j) (by rw[c.2];exact d j e)
   exact⟨a,by rw[b,c.2]⟩
theorem afW{xs0:List Nd}{c:Tr}{q i:Nat}(m:c.mem.Nodup):∀ (w:List Nat) (xs:List Nd) (O:Cx) (U:Tr),jJ xs0 xs c O U q->Way i U w->∃ f a b,jJ xs0 (w.foldl jX xs) c f (.nd a i b) q/\(fJ (w.foldl jX xs) i).flip=false:=by
 intro w
 induction w with
 | nil =>
  intro xs O U h d
  obtain⟨_,_,_,_,e⟩:=LA d
  cases e
 | cons j w o =>
  intro xs O U h d
  obtain⟨g,k⟩:=afY h m d
  by_cases hw0:w=[]
  . obtain⟨rfl,a,b,hm,l⟩:=g hw0
    subst hw0
    exact⟨O,a,b,hm,l⟩
  . obtain⟨f, p, hm,n⟩:=k hw0
    exact o _ _ _ hm n
theorem ac3{xs:List Nd}{c:Cx}{a b:Tr}{i q:Nat}(e:gR xs (j5 c (.nd a i b)) q)(f:(j5 c (.nd a i b)).mem.Nodup){k:Nat}(hk:k=(jo c i).length):∃ O a' d, jJ xs (lD xs (jo c i) k) (j5 c (.nd a i b)) O (.nd a' i d) q/\(fJ (lD xs (jo c i) k) i).flip=false:=by
 have:=afW f _ xs [] _ (jJ.start e) (afX c a i b)
 unfold lD
 rw[xd (by simp[hk])]
 exact this
theorem acr{xs:List Nd}{c:Cx}{a b:Tr}{i q:Nat}(e:gR xs (j5 c (.nd a i b)) q):∀ j∈jo c i,j<xs.length:=by
 intro j d
 refine(e.o5 j ?_).2
 rw[pS]
 refine CZ.2 ?_
 rcases zg.1 d with rfl|d
 . exact .inl (by simp[Tr.mem])
 . obtain⟨f,g,rfl⟩:=zz.1 d
   exact .inr (JV g)
theorem N8:∀ (c:Cx) (L:List Nat),c.length+L.length<=(lC c L).length
 | [],L=>by simp[lC]
 | (d,g,s) :: c,L=>by
  have:=N8 c (jV d L g s)
  rw[lC]
  cases d<;>simp only[jV,cond_true,cond_false,zt,zh]at * <;> omega
theorem acq{c:Cx}{a b:Tr}{i:Nat}:(jo c i).length=c.length+1/\c.length+1<=(j5 c (.nd a i b)).mem.length:=by
 refine⟨by simp[jo],?_⟩
 rw[pS]
 have:=N8 c (Tr.nd a i b).mem
 simp only[Tr.mem,zt,zh]at *
 omega
section
variable {xs:List Nd} {c:Cx} {q j k v s:Nat} {L:List Nat} {i:Nat}
theorem VC(h:At xs c i L q)(d:Out xs q (lC c L))(hk:(jo c i)[k]? = some v)(hs:jH xs v=(s,false)):k=c.length:=by
 have a:=It h d k v hk
 have b:=(zj.1 hk).1
 simp only[jo,zh,zu]at b
 by_cases h3:k<c.length
 . have:=(a.1 h3).1
   rw[hs]at this
   cases this
 . omega
theorem NY(h:At xs c i L q)(d:Out xs q (lC c L))(hk:(jo c i)[k]? = some v)(hs:jH xs v=(s,true)):k<c.length/\(jo c i)[k+1]? = some (fJ xs v).up:=by
 have a:=It h d k v hk
 have b:=(zj.1 hk).1
 simp only[jo,zh,zu]at b
 by_cases h3:k<c.length
 . exact⟨h3,(a.1 h3).2⟩
 . have:=a.2 o_
   rw[hs]at this
   cases this
end
abbrev gA(P:List Nat):List Int:=P.map (fun(x:Nat)=>(x:Int))
theorem J4{P:List Nat}{k j:Nat}(h:P[k]? = some j):gA (P.take k)++[(j:Int)]=gA (P.take (k+1)):=by
 rw[Ta h,gA,gA,s9]
 rfl
theorem FO{m:Nat}{P:List Nat}(h:∀ j∈P,j<m)(hm:m<=1000001):∀ y∈gA P,gV .i64 y:=by
 intro y b
 obtain⟨j,a,rfl⟩:=zz.1 b
 have:=h j a
 show (-9223372036854775808:Int)<=_/\_<=(9223372036854775807:Int)
 omega
theorem abM{P:List Nat}{k:Nat}{x:Int}(hk:k<(gA P).length)(h:(gA P)[(gA P).length-1-k]? = some x):∃ j,P.reverse[k]? = some j/\x=(j:Int):=by
 simp only[gA,zu,lZ]at h hk
 rw[List.getElem?_reverse hk]
 cases h1:P[P.length-1-k]? with
 | none=>rw[h1]at h;cases h
 | some j =>
  rw[h1]at h
  simp at h
  exact⟨j,rfl,h.symm⟩
end Go.Sx
namespace Go.Sx
open Go
instance:Inhabited (Value×List Nat):=⟨(.slice none 0 0,[])⟩
abbrev IM:=List (Int×(Value×List Nat))
def jE(e:TypeId)(m:IM):fS:=gq (m.map fun p=>ig .i64 p.2.1 e (gA p.2.2))
theorem C0{γ:Type}(m:List (Int×γ))(a:Int)(x:γ):(gx m a x).Perm ((a,x) :: iJ m a):=by
 induction m with
 | nil=>exact List.Perm.refl _
 | cons p m b =>
  obtain⟨c,y⟩:=p
  unfold gx iJ
  split
  . rename_i h
    exact List.Perm.refl _
  . rename_i h
    exact(List.Perm.cons _ b).trans (List.Perm.swap _ _ _)
theorem FI{γ:Type}{m:List (Int×γ)}{a:Int}{x:γ}(h:gU m a=some x):m.Perm ((a,x) :: iJ m a):=by
 induction m with
 | nil=>simp[gU]at h
 | cons p m d =>
  obtain⟨c,y⟩:=p
  unfold gU at h
  unfold iJ
  split at h
  . rename_i b
    rw[if_pos b]
    cases h
    rw[b]
  . rename_i b
    rw[if_neg b]
    exact(List.Perm.cons _ (d h)).trans (List.Perm.swap _ _ _)
theorem JS{γ:Type}{m:List (Int×γ)}{a:Int}(h:gU m a=none):iJ m a=m:=by
 induction m with
 | nil=>rfl
 | cons p m d =>
  obtain⟨c,y⟩:=p
  unfold gU at h
  unfold iJ
  split at h
  . cases h
  . rename_i b
    rw[if_neg b,d h]
section
variable {bs:List (World×List Nat)} {L:List fS} {w:World} {e:TypeId} {m:IM} {a:Int}
theorem St.xR{m2:IM}(h:St bs (jE e m :: L) w)(hp:m.Perm m2):St bs (jE e m2 :: L) w :=
 St.pack _ _ ((St.unpack h).perm ((hp.map _).append_right _))
theorem St.Pq{p:Int×(Value×List Nat)}(h:St bs (jE e (p :: m) :: L) w):St bs (ig .i64 p.2.1 e (gA p.2.2) :: jE e m :: L) w:=by
 have a:St bs (([ig .i64 p.2.1 e (gA p.2.2)]++m.map fun p=>ig .i64 p.2.1 e (gA p.2.2))++L) w:=St.unpack h
 rw[nr]at a
 have b:=a.perm (L' := (m.map fun p=>ig .i64 p.2.1 e (gA p.2.2))++([ig .i64 p.2.1 e (gA p.2.2)]++L)) (by
  rw[<-nr,<-nr]
  exact List.Perm.append_right _ rz)
 exact(St.pack _ _ b).swap
theorem St.Iz{p:Int×(Value×List Nat)}(h:St bs (ig .i64 p.2.1 e (gA p.2.2) :: jE e m :: L) w):St bs (jE e (p :: m) :: L) w:=by
 have a:St bs ((m.map fun p=>ig .i64 p.2.1 e (gA p.2.2))++(ig .i64 p.2.1 e (gA p.2.2) :: L)) w:=St.unpack h.swap
 refine St.pack _ _ (a.perm ?_)
 show List.Perm _ (ig .i64 p.2.1 e (gA p.2.2) :: ((m.map fun p=>ig .i64 p.2.1 e (gA p.2.2))++L))
 exact um
theorem St.Yx(a:Int)(h:St bs (jE e m :: L) w):St bs (ig .i64 (fT m a).1 e (gA (fT m a).2) :: jE e (iJ m a) :: L) w:=by
 unfold fT
 cases hm:gU m a with
 | none =>
  rw[JS hm]
  exact St.EA h e 1
 | some x=>exact(h.xR (FI hm)).Pq
theorem St.Yw{v:Value}{xs:List Nat}(h:St bs (ig .i64 v e (gA xs) :: jE e (iJ m a) :: L) w):St bs (jE e (gx m a (v,xs)) :: L) w :=
 (St.Iz (p:=(a,(v,xs))) h).xR (C0 m a (v,xs)).symm
theorem St.I3(h:St bs L w):St bs (jE e [] :: L) w:=St.pack [] L h
end
theorem C2(ds:List Nat)(i:Nat):gA (ds++[i])=gA ds++[(i:Int)]:=by simp[gA]
theorem J2(ds:List Nat)(i:Nat):(gA ds).eraseIdx i=gA (ds.eraseIdx i):=by
 rw[gA,G7,G7]
 simp[gA]
end Go.Sx
namespace Go.Sx
open Go
section
variable {γ:Type}
def lV(b r:Nat)(k:IntKind)(enc:γ->Value)(m todo:List (Int×γ))(cur:Option (Int×γ)):fS where
 gK:=[b,r]
 holds w:=∃ (es:List (Int×Value×Nat)) (a:Nat) (f:Array Nat) (c d:Nat),w.heap[b]? = some (.map (es.map (lg k)).toArray a)/\es.map (fun e=>(e.1,e.2.1))=m.map (fun p=>(p.1,enc p.2))/\(es.map (fun e=>e.2.2)).Nodup/\(∀ e∈es,e.2.2<a) /\
  w.heap[r]? = some (.mapIter (some b) c f d)/\c<=d/\c<=a/\(∀ e∈es,e.2.2<c) /\
  (es.filter fun e => !f.contains e.2.2).map (fun e=>(e.1,e.2.1))=todo.map (fun p=>(p.1,enc p.2)) /\
  ∀ p,cur=some p->d=a/\∃ (q:Array Nat) (e:Int×Value×Nat),f=q.push e.2.2/\e∈es/\e.1=p.1/\e.2.1=enc p.2
 loc w w' h hh:=by
  obtain⟨es,a,f,c,d,g,i,j,l,n,o⟩:=hh
  exact⟨es,a,f,c,d,(h b s_).trans g,i,j,l,(h r s_).trans n,o⟩
theorem YH{es:List (Int×Value×Nat)}{p:Nat->Bool}{e:Int×Value×Nat}(b:(es.map (fun e=>e.2.2)).Nodup)(a:e∈es)(hp:p e.2.2=true) :
 ∃ j,(es.filter fun x=>p x.2.2)[j]? = some e/\(es.filter fun x=>p x.2.2 && !(x.2.2==e.2.2))=(es.filter fun x=>p x.2.2).eraseIdx j:=by
 induction es with
 | nil=>simp at a
 | cons x es i =>
  simp only[ko,zw]at b
  rcases zg.1 a with rfl|a
  . refine⟨0,by simp[hp],?_⟩
    rw[vu,if_neg s_,vu,if_pos hp]
    simp only[List.eraseIdx_cons_zero]
    refine zL fun y g=>?_
    have:y.2.2≠e.2.2:=fun h=>b.1 (by rw[<-h];exact zz.2 ⟨y,g,rfl⟩)
    simp[this]
  . obtain⟨j,c,d⟩:=i b.2 a
    have f:x.2.2≠e.2.2:=fun h=>b.1 (by rw[h];exact zz.2 ⟨e,a,rfl⟩)
    by_cases hx:p x.2.2=true
    . refine⟨j+1,by rw[vu,if_pos hx];simpa using c,?_⟩
      rw[vu,if_pos (by simp[hx,f]),vu,if_pos hx,List.eraseIdx_cons_succ,d]
    . refine⟨j,by rw[vu,if_neg hx];exact c,?_⟩
      rw[vu,if_neg (by simp[hx]),vu,if_neg hx,d]
end
section
variable {γ:Type} {enc:γ->Value}
variable {r:Option Nat} {P:Program} {ops:Array Oper} {Q:Exit->Act->World->Prop} {rest l:List Oper} {n:Nat} {s s0:List (Nat×Value)} {ds:List Deferred} {w w0:World} {Nx:Value->World->Prop}
variable {d:Nat} {dd:Option Nat} {ty:TypeId} {pos:String} {af:Array Edge} {g:Option (Nat×Bool)} {x y m:Operand} {bs:List (World×List Nat)} {L L' : List fS} {t e kt:TypeId} {b rb:Nat} {k k' : IntKind} {mm todo:List (Int×γ)} {a:Int} {z v:Value} {c:γ} {cur:Option (Int×γ)}
theorem rgM(i:Nat)(x:gD ops n s g=true)(hm:ev n s m = .map (some b))(z:P.underlying t=some (.map kt e))(j:St bs L w)(h:L[i]? = some (gZ b k enc mm))
 (K:∀ rb w', St bs (L.set i (lV b rb k enc mm mm none)) w' -> WL r P ops Q rest (Fr n ((d,.pointer (some ⟨rb,0,none⟩)) :: s) ds) w'):WL r P ops Q (⟨some d,.range t m,ty,pos,af,g⟩ :: rest) (Fr n s ds) w:=by
 obtain⟨es,a,l,o,u,q⟩:(gZ b k enc mm).holds w:=j.own _ (ze h)
 have y:=JR j h
 refine pv (v:=.pointer (some ⟨w.heap.size,0,none⟩)) (w' := w.alloc (.mapIter (some b) a #[] a)) x rfl ?_ (K _ _ ?_)
 . simp only[execOp,hm,zx,run_range_map w t kt e b _ a z l,zo,z6]
 . refine j.iN h (gz.alloc _ w _) (fun c f=>?_) ?_ (fun c f=>?_) ?_
   . simp[lV]at f
     rcases f with rfl|rfl
     . exact .inl (by simp[gZ])
     . exact .inr (zn _)
   . simp[lV];omega
   . simp[lV]at f
     simp only[World.alloc,Array.size_push]
     omega
   . exact⟨es,a,#[],a,a,(heap_alloc_old w _ y).trans l,o,u,q,heap_alloc_new w _,zn _,zn _,q,by rw[vq.2 s_];exact o,fun p hp=>by cases hp⟩
theorem St.aa4{i:Nat}(e:St bs L w)(d:L[i]? = some (lV b rb k enc mm todo cur)):St bs (L.set i (gZ b k enc mm)) w:=by
 obtain⟨es,f,o,n,m,g,h,j,l,_⟩:(lV b rb k enc mm todo cur).holds w:=e.own _ (ze d)
 refine e.iN d (gz.refl _ w) (fun c a=>.inl ?_) (by simp[gZ]) (fun c a=>?_) ⟨es,f,g,h,j,l⟩
 . simp[gZ]at a
   simp[lV,a]
 . refine e.lt c (rU d ?_)
   simp[gZ]at a
   simp[lV,a]
structure Uw (P:Program) (bs:List (World×List Nat)) (L:List fS) (i b rb:Nat) (k:IntKind) (enc:γ->Value) (mm todo todo2:List (Int×γ)) (p:Int×γ) (w w' : World):Prop where
 run:∀ ty,(Instr.next (.pointer (some ⟨rb,0,none⟩)) false ty).run P w = .ok (.tuple #[.bool true,.int k p.1,enc p.2]) w'
 st:St bs (L.set i (lV b rb k enc mm todo2 (some p))) w'
 perm:todo.Perm (p :: todo2)
theorem aa5(P:Program){i:Nat}(s:St bs L w)(r:L[i]? = some (lV b rb k enc mm todo cur)) :
 (todo=[]/\∀ ty,(Instr.next (.pointer (some ⟨rb,0,none⟩)) false ty).run P w = .ok (.tuple #[.bool false]) w)\/∃ p ag w', Uw P bs L i b rb k enc mm todo ag p w w' := by
 obtain⟨es,f,d,m,D,t,X,E,Y,u,F,G, H,o,h9⟩:(lV b rb k enc mm todo cur).holds w:=s.own _ (ze r)
 have hb:b<w.heap.size:=s.lt b (rU r (by simp[lV]))
 have ad:rb<w.heap.size:=s.lt rb (rU r (by simp[lV]))
 have N:b≠rb:=by
  rintro rfl
  rw[t]at u
  cases u
 have O:∀ x∈(es.map (lg k)).toArray.toList,x.born<m:=by
  intro x C
  simp at C
  obtain⟨a,v,q,hm,rfl⟩:=C
  exact H _ hm
 have B:(leftOf (es.map (lg k)).toArray d).toList=(es.filter fun e => !d.contains e.2.2).map (lg k):=by
  unfold leftOf
  simp only[Array.toList_filter,List.filter_map]
  rfl
 by_cases h0:todo=[]
 . left
   subst h0
   refine⟨rfl,fun ty=>?_⟩
   have z:(leftOf (es.map (lg k)).toArray d).size=0:=by
    rw[<-sw,B,zu]
    have:=congrArg List.length o
    simpa using this
   rcases run_next_at (P:=P) w ty rb b m D d _ f u t O F with ⟨_,h⟩|⟨e,n,_⟩
   . exact h
   . rw[Array.eq_empty_of_size_eq_zero z]at n
     simp at n
 . right
   have af:∃ e∈(leftOf (es.map (lg k)).toArray d).toList,∃ w1:World,(w1=w\/w1=w.drew)/\∀ ty,(Instr.next (.pointer (some ⟨rb,0,none⟩)) false ty).run P w = .ok (.tuple #[.bool true,e.key,e.val]) (Go.ChangeMaps.setBlock w1 rb (.mapIter (some b) m (d.push e.born) f)):=by
    rcases run_next_at (P:=P) w 0 rb b m D d _ f u t O F with ⟨z,_⟩|⟨e,n,w1,y,hr⟩
    . exfalso
      rw[<-sw,B,zu]at z
      have g:=congrArg List.length o
      rw[zu,zu,z]at g
      exact h0 (BD.1 g.symm)
    . exact⟨e,n,w1,y,fun ty=>hr⟩
   obtain⟨e9,J,w1,y,ae⟩:=af
   rw[B]at J
   obtain⟨e,n,rfl⟩:=zz.1 J
   obtain⟨K,aa⟩:=kZ.1 n
   obtain⟨j,M,ab⟩:=YH (p:=fun q => !d.contains q) E K aa
   have ah:=(zj.1 M).1
   have ac:=congrArg List.length o
   rw[zu,zu]at ac
   have hp:todo[j]? = some (todo[j]'o_):=zk o_
   generalize (todo[j]'o_)=p at hp
   have S:(e.1,e.2.1)=(p.1,enc p.2):=by
    have g:=congrArg (fun l=>l[j]?) o
    simp only[lZ,M,hp,xl]at g
    exact Option.some.inj g
   have Q:e.1=p.1:=congrArg Prod.fst S
   have R:e.2.1=enc p.2:=congrArg Prod.snd S
   have T:w1.heap=w.heap:=by rcases y with rfl|rfl<;>rfl
   have Z:gz [] w w1:=by
    rcases y with rfl|rfl
    . exact gz.refl _ _
    . exact gz.drew _ _
   have I:gz (lV b rb k enc mm todo cur).gK w (Go.ChangeMaps.setBlock w1 rb (.mapIter (some b) m (d.push e.2.2) f)) :=
    (Z.mono s_).trans ((Vu (b:=rb) w1 _).mono (by simp[lV]))
   refine⟨p,todo.eraseIdx j,Go.ChangeMaps.setBlock w1 rb (.mapIter (some b) m (d.push e.2.2) f),⟨fun ty=>?_,?_,?_⟩⟩
   . rw[ae ty]
     simp only[Q,R]
   . refine s.iN r I (fun c A=>.inl A) ?_ (fun c A=>?_) ?_
     . simp[lV,N]
     . exact ou (s.lt c (rU r A)) I.size
     . refine⟨es,f,d.push e.2.2,m,f,?_,X,E,Y,?_,G, G, H,?_,fun q hq=>?_⟩
       . show (w1.heap.setIfInBounds rb _)[b]? = _
         rw[T,Array.getElem?_setIfInBounds_ne (Ne.symm N)]
         exact t
       . show (w1.heap.setIfInBounds rb _)[rb]? = _
         rw[T]
         simp[ad]
       . have:(es.filter fun x => !(d.push e.2.2).contains x.2.2)=(es.filter fun x => !d.contains x.2.2 && !(x.2.2==e.2.2)):=by
          refine zL fun x C=>?_
          rw[Array.contains_push,Bool.not_or]
         rw[this,ab,<-E8,o,E8]
       . cases hq
         exact⟨rfl,d,e,rfl,K,Q,R⟩
   . have g:=(zj.1 hp)
     obtain⟨U,V⟩:=g
     have W:todo=todo.take j++p :: todo.drop (j+1):=by
      rw[<-V,<-BA U,vo]
     rw[G7]
     exact(List.Perm.of_eq W).trans um
theorem Rr{w' : World}{u:Value}(a:gD ops n s g=true)(b:ev n s x=v)(h:(Instr.next v false ty).run P w = .ok u w')(K:WL r P ops Q rest (Fr n ((d,u) :: s) ds) w'):WL r P ops Q (⟨some d,.next x false,ty,pos,af,g⟩ :: rest) (Fr n s ds) w :=
 pv a rfl (by simp only[execOp,b,zx,h,zo,z6]) K
theorem Wv{p:Int×γ}(i:Nat)(q:gD ops n s g=true)(y:ev n s x = .pointer (some ⟨rb,0,none⟩))(v:St bs L w)(l:L[i]? = some (lV b rb k enc mm todo (some p)))
 (K:WL r P ops Q rest (Fr n ((d,.tuple #[.int k p.1,enc p.2]) :: s) ds) w):WL r P ops Q (⟨some d,.entry x,ty,pos,af,g⟩ :: rest) (Fr n s ds) w:=by
 obtain⟨es,B,I,z,a,c,C,f,D,h,E,F, G,H,j⟩:(lV b rb k enc mm todo (some p)).holds w:=v.own _ (ze l)
 obtain⟨rfl,A,e,rfl,o,t,u⟩:=j p rfl
 have m:=run_entry_at (P:=P) w rb b z A (es.map (lg k)).toArray a (lg k e) h c (by simp only[zz];exact⟨e,o,rfl⟩) (by rw[List.map_map];exact f)
 refine pv q rfl (by simp only[execOp,y,zx,m,zo,z6,t,u]) K
end
end Go.Sx
