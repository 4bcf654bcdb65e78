/- Plain lemmas: rules for walking through code, one for each operation, over any program; an evaluator of closed calls with its soundness; and plain mathematics. No conditions. -/
import Derived.Test.YtedjjkcihkmjgaaGreatDoorFa
import Derived.KernelRfl
import Derived.Laws.BitsAllLaws
import Derived.Maps.RangeRun
set_option linter.unusedVariables false
set_option linter.unusedSectionVars false
set_option linter.unusedSimpArgs false
namespace Go.Sx
open Go
def Ip(P:Program):List (Nat×TypeDesc)->Prop
 | []=>True
 | p :: l=>P.underlying p.1=some p.2/\Ip P l
def allI(P:Program):List (Nat×Nat×Nat×Value)->Prop
 | []=>True
 | p :: l=>TI P p.1 p.2.1 p.2.2.1 p.2.2.2/\allI P l
class TT (P:Program) where
 mx:P.follows .mixedOrders=true
 u:List (Nat×TypeDesc)
 i:List (Nat×Nat×Nat×Value)
 lY:Ip P u
 nO:allI P i
def jh{α:Type}:List (Nat×α)->Nat->Option α
 | [],_=>none
 | p :: l,t=>bif Nat.beq p.1 t then some p.2 else jh l t
theorem lM{P:Program}:∀ {l:List (Nat×TypeDesc)} {t:Nat} {u:TypeDesc},Ip P l->jh l t=some u->P.underlying t=some u
 | [],_,_,_,h=>by simp[jh]at h
 | p :: l,t,u,hl,h=>by
  simp only[jh]at h
  cases hb:Nat.beq p.1 t with
  | true=>rw[hb]at h;simp at h;rw[<-BI hb,<-h];exact hl.1
  | false=>rw[hb]at h;exact lM hl.2 h
theorem ny{P:Program}:∀ {l:List (Nat×Nat×Nat×Value)} {t a b:Nat} {z:Value},allI P l->jh l t=some (a,b,z)->TI P t a b z
 | [],_,_,_,_,_,h=>by simp[jh]at h
 | p :: l,t,a,b,z,hl,h=>by
  simp only[jh]at h
  cases hb:Nat.beq p.1 t with
  | true=>rw[hb]at h;simp at h;have c:=hl.1;rw[h,BI hb]at c;exact c
  | false=>rw[hb]at h;exact ny hl.2 h
variable{i p q b v o':Nat}{pl L:List Nat}{ps:List (Option Nat)}{x:Int}{vs:List Value}{d:Bool}{zf:Value}{l:List Int}{kk:IntKind}{P:Nat->Nat->Prop}{es:List (Int×Value×Nat)}{A2 R':fT}{o:Array Field}{hm:Nat->Nat}(k m:Nat)(ds:List Nat)
section
variable {P:Program}
structure SL (T:TT P) (J:World->Prop) (bs:List (World×List Nat)) (L:List fT) (N:Nat) (r:Option Nat) (ops:Array Oper) (Q:Exit->Act->World->Prop) (l:List Oper) (a:Act):Prop where
 out:∀ w,J w->St bs L w->WL r P ops Q l a w
structure SP (T:TT P) (J:World->Prop) (bs:List (World×List Nat)) (L:List fT) (N:Nat) (r:Option Nat) (Q:Exit->Act->World->Prop) (c:Code) (a:Act):Prop where
 out:∀ w,J w->St bs L w->WP r P c Q a w
structure SQ (T:TT P) (J:World->Prop) (bs:List (World×List Nat)) (L:List fT) (N:Nat) (r:Option Nat) (Q:Exit->Act->World->Prop) (e:Exit) (a:Act):Prop where
 out:∀ w,J w->St bs L w->Q e a w
def Kc(r:Option Nat)(P:Program)(Y:Code)(Q:Exit->Act->World->Prop):Act->World->Prop:=fun a w=>WP r P Y Q a w
variable {T:TT P} {J:World->Prop} {bs:List (World×List Nat)} {L L' : List fT} {r:Option Nat} {ops:Array Oper} {Q:Exit->Act->World->Prop} {rest:List Oper} {n:Nat} {s:List (Nat×Value)} {ds:List Deferred} {w w' w0:World}
variable {N d i j:Nat} {ty t:TypeId} {pos:String} {af:Array Edge} {g:Option (Nat×Bool)} {v u:Value} {x y z:Operand} {X Y:Code} {a:Act} {K' : Act->World->Prop} {l:List Oper}
theorem SP.sq(K:SP T J bs L N r (Exit.then (Kc r P Y Q) Q) X a):SP T J bs L (N+1) r Q (.seq X Y) a:=⟨fun w j h=>wpIn_seq (K.out w j h)⟩
theorem SP.rg{id:Nat}(K:SL T J bs L N r l.toArray Q l (Fr n s ds)):SP T J bs L (N+1) r Q (.region id l.toArray false) (Fr n s ds):=⟨fun w j h=>Go.Sx.rg (K.out w j h)⟩
theorem SP.KH{id:Nat}(K:SL T (fun _=>True) bs L N r l.toArray Q l (Fr n s ds))(a:∃ np,(np=false\/NP Q)/\okF np l (yX (List.range' 0 l.length) [])=true:=by first|exact⟨true,.inr inferInstance,by kernel_rfl⟩|exact⟨false,.inl rfl,by kernel_rfl⟩):SP T (fun _=>True) bs L (N+1) r Q (.region id l.toArray true) (Fr n s ds):=⟨fun w _ h=>Go.Sx.KH T.mx h (fun w' hs=>K.out w' trivial hs) a⟩
theorem SP.cT{c:Operand}(K:SP T J bs L N r Q X (Fr n s ds))(hc:ev n s c = .bool true:=by exact rfl):SP T J bs L (N+1) r Q (.cond c X Y) (Fr n s ds):=⟨fun w j h=>Vl hc (K.out w j h)⟩
theorem SP.cF{c:Operand}(K:SP T J bs L N r Q Y (Fr n s ds))(hc:ev n s c = .bool false:=by exact rfl):SP T J bs L (N+1) r Q (.cond c X Y) (Fr n s ds):=⟨fun w j h=>Vj hc (K.out w j h)⟩
theorem SP.bk{id:Nat}(K:SP T J bs L N r (Exit.inBlock id Q) X (Fr n s ds)):SP T J bs L (N+1) r Q (.block id X) (Fr n s ds):=⟨fun w j h=>Go.Sx.bk (K.out w j h)⟩
theorem SP.sp(K:SQ T J bs L N r Q .normal (Fr n s ds)):SP T J bs L (N+1) r Q .skip (Fr n s ds):=⟨fun w j h=>Go.Sx.sp (K.out w j h)⟩
theorem SP.xt{id:Nat}(K:SQ T J bs L N r Q (.exit id) (Fr n s ds)):SP T J bs L (N+1) r Q (.exit id) (Fr n s ds):=⟨fun w j h=>Go.Sx.xt (K.out w j h)⟩
theorem SP.rt(K:SQ T J bs L N r Q .ret (Fr n s ds)):SP T J bs L (N+1) r Q .ret (Fr n s ds):=⟨fun w j h=>Go.Sx.rt (K.out w j h)⟩
theorem SQ.tN(K:SP T J bs L N r Q Y a):SQ T J bs L (N+1) r (Exit.then (Kc r P Y Q) Q) .normal a:=⟨fun w j h=>K.out w j h⟩
theorem SQ.tX(K:SQ T J bs L N r Q (.exit j) a):SQ T J bs L (N+1) r (Exit.then K' Q) (.exit j) a:=⟨fun w j h=>K.out w j h⟩
theorem SQ.tR(K:SQ T J bs L N r Q .ret a):SQ T J bs L (N+1) r (Exit.then K' Q) .ret a:=⟨fun w j h=>K.out w j h⟩
theorem SQ.bN(K:SQ T J bs L N r Q .normal a):SQ T J bs L (N+1) r (Exit.inBlock i Q) .normal a:=⟨fun w j h=>K.out w j h⟩
theorem SQ.bR(K:SQ T J bs L N r Q .ret a):SQ T J bs L (N+1) r (Exit.inBlock i Q) .ret a:=⟨fun w j h=>K.out w j h⟩
theorem SQ.bX(K:SQ T J bs L N r Q .normal a):SQ T J bs L (N+1) r (Exit.inBlock i Q) (.exit i) a:=⟨fun w j h=>Go.Sx.bX (K.out w j h)⟩
theorem SQ.Ir(K:SQ T J bs L N r Q (.exit j) a)(b:Nat.beq j i=false:=by exact rfl):SQ T J bs L (N+1) r (Exit.inBlock i Q) (.exit j) a:=⟨fun w j h=>Go.Sx.Ir b (K.out w j h)⟩
theorem SQ.KV(K:SQ T J bs L N r Q .normal a):SQ T J bs L (N+1) r (yN Q) .normal a:=⟨fun w j h=>Go.Sx.KV (K.out w j h)⟩
theorem SQ.KW(K:SQ T J bs L N r Q .ret a):SQ T J bs L (N+1) r (yN Q) .ret a:=⟨fun w j h=>Go.Sx.KW (K.out w j h)⟩
theorem SP.scp(K:SP T J bs L N r (yN Q) X a):SP T J bs L (N+1) r Q (.scope X) a:=⟨fun w j h=>Go.Sx.scp (K.out w j h)⟩
theorem SP.JM{l:Nat}(K:SQ T J bs L N r Q .normal a):SP T J bs L (N+1) r Q (.label l) a:=⟨fun w j h=>Go.Sx.JM (K.out w j h)⟩
theorem SL.nil(K:SQ T J bs L N r Q .normal (Fr n s ds)):SL T J bs L (N+1) r ops Q [] (Fr n s ds):=⟨fun w j h=>afL (K.out w j h)⟩
theorem SL.sk{b:Op}{g:Nat×Bool}(K:SL T J bs L N r ops Q rest (Fr n ((d,undef) :: s) ds))(a:gI ops n s (some g)=false:=by exact rfl):SL T J bs L (N+1) r ops Q (⟨some d,b,ty,pos,af,some g⟩ :: rest) (Fr n s ds):=⟨fun w j h=>Go.Sx.sk a (K.out w j h)⟩
theorem rV{R:fT}{L:List fT}:(R :: L)[0]? = some R:=rfl
theorem rW{R a:fT}{L:List fT}:(a :: R :: L)[1]? = some R:=rfl
theorem oq{R a b:fT}{L:List fT}:(a :: b :: R :: L)[2]? = some R:=rfl
theorem ot{R a b:fT}{L:List fT}:(a :: b :: A2 :: R :: L)[3]? = some R:=rfl
theorem rX{R a b c:fT}{L:List fT}:(a :: b :: A2 :: c :: R :: L)[4]? = some R:=rfl
theorem rY{R a b c d:fT}{L:List fT}:(a :: b :: A2 :: c :: d :: R :: L)[5]? = some R:=rfl
theorem NU{k:IntKind}{a:Int}:(Value.int k a).cells.toList=[Value.int k a]:=rfl
theorem NT{a:Bool}:(Value.bool a).cells.toList=[Value.bool a]:=rfl
theorem NV{a:Option Addr}:(Value.pointer a).cells.toList=[Value.pointer a]:=rfl
theorem NW{a:Option Addr}{m c:Nat}:(Value.slice a m c).cells.toList=[Value.slice a m c]:=rfl
theorem NS{l:List Value}:(Value.agg l.toArray).cells.toList=l:=by simp[Value.cells]
theorem rZ{R a b c d e:fT}{L:List fT}:(a :: b :: A2 :: c :: d :: e :: R :: L)[6]? = some R:=rfl
theorem r0{R a b c d e f:fT}{L:List fT}:(a :: b :: A2 :: c :: d :: e :: f :: R :: L)[7]? = some R:=rfl
def Bu:List Value->Nat->(List Value->Option (List Value))->Option (List Value)
 | _,0,k=>k []
 | v :: l,m+1,k=>Bu l m fun r=>k (v :: r)
 | [],_+1,_=>none
def sub' (l:List Value)(o m:Nat):Option (List Value):=Bu (l.drop o) m some
theorem Li:∀ (l:List Value) (m:Nat) (k:List Value->Option (List Value)),Bu l m k=if m<=l.length then k (l.take m)else none
 | l,0,k=>by simp[Bu]
 | v :: l,m+1,k=>by simp[Bu,Li l m]
 | [],m+1,k=>by simp[Bu]
theorem wZ{l:List Value}{o m:Nat}(h:sub' l o m=some vs):vs.length=m:=by
 unfold sub' at h
 rw[Li]at h
 split at h
 . rename_i a
   simp at h
   rw[<-h,k8]
   omega
 . cases h
theorem zA{l:List Value}{o m:Nat}(h:sub' l o m=some vs):(l.drop o).take vs.length=vs:=by
 rw[wZ h]
 unfold sub' at h
 rw[Li]at h
 split at h
 . simpa using h
 . cases h
theorem SL.mv(K:SL T J bs L N r ops Q rest (Fr n ((d,v) :: s) ds)) (b:ev n s x=v:=by conv=>lhs;whnf) (a:gI ops n s g=true:=by exact rfl):SL T J bs L (N+1) r ops Q (⟨some d,.move x,ty,pos,af,g⟩ :: rest) (Fr n s ds):=⟨fun w j h=>pw a (fun _=>Qe b) (K.out w j h)⟩
theorem SL.Yc{α:Type}{cf:α->List Value}{xs:List α}{e e':TypeId}{k sz i:Nat}{m:Value}(K:SL T J bs L N r ops Q rest (Fr n ((d,lg sz v k 0) :: s) ds))(f:ev n s x=v:=by conv=>lhs;whnf)(l:ev n s y = .int kk (k:Nat):=by exact rfl)(a:jh T.u t=some (.slice e):=by exact rfl)(ht:jh T.i e=some (sz,q,m):=by exact rfl)(hi:L[i]? = some (fL cf v e' sz xs):=by first|exact rV|exact rW|exact oq|exact ot|exact rX|exact rY|exact rZ|exact r0)(o:Inhabited α:=by infer_instance)(c:∀ x:α,(cf x).length=sz:=by exact fun _=>rfl)(hk:k<xs.length:=by first|omega|(simp only[gB];omega))(b:gI ops n s g=true:=by exact rfl):SL T J bs L (N+1) r ops Q (⟨some d,.indexAddr t x y,ty,pos,af,g⟩ :: rest) (Fr n s ds):=⟨fun w j h=>pw b (fun _=>JB f l (lM T.lY a) (ny T.nO ht) (St.yW h hi c) o_ o_ (gz hk)) (K.out w j h)⟩
theorem SL.W1{α:Type}{cf:α->List Value}{xs:List α}{e':TypeId}{i k sz off off' byf:Nat}{fields:Array Field}{f:Field}(K:SL T J bs L N r ops Q rest (Fr n ((d,lg sz v k off') :: s) ds))(m:ev n s x=lg sz v k off:=by exact rfl)(a:jh T.u t=some (.struct fields):=by exact rfl)(b:fields[i]? = some f:=by exact rfl)(ht:jh T.i f.type=some (o'+1,byf,zf):=by exact rfl)(l:off+f.offset=off' := by conv=>lhs;whnf)(hi:L[q]? = some (fL cf v e' sz xs):=by first|exact rV|exact rW|exact oq|exact ot|exact rX|exact rY|exact rZ|exact r0)(o:Inhabited α:=by infer_instance)(e:∀ x:α,(cf x).length=sz:=by exact fun _=>rfl)(hk:k<xs.length:=by first|omega|(simp only[gB];omega))(c:gI ops n s g=true:=by exact rfl):SL T J bs L (N+1) r ops Q (⟨some d,.fieldAddr t x i,ty,pos,af,g⟩ :: rest) (Fr n s ds):=⟨fun w j h=>pw c (fun _=>Oy m (lM T.lY a) b (ny T.nO ht) l (St.yW h hi e) (gz hk)) (K.out w j h)⟩
theorem SL.JN{α:Type}{cf:α->List Value}{xs:List α}{e':TypeId}{k sz off:Nat}{ud:TypeDesc}{u:Value}(K:SL T J bs L N r ops Q rest (Fr n ((d,v) :: s) ds))(f:ev n s x=lg sz u k off:=by exact rfl)(a:jh T.u t=some ud:=by exact rfl)(e:kC ud=false:=by exact rfl)(hi:L[q]? = some (fL cf u e' sz xs):=by first|exact rV|exact rW|exact oq|exact ot|exact rX|exact rY|exact rZ|exact r0)(i:Inhabited α:=by infer_instance)(c:∀ x:α,(cf x).length=sz:=by exact fun _=>rfl)(hk:k<xs.length:=by first|omega|(simp only[gB];omega))(hv:(cf (fJ xs k))[off]? = some v:=by exact rfl)(b:gI ops n s g=true:=by exact rfl):SL T J bs L (N+1) r ops Q (⟨some d,.load t x,ty,pos,af,g⟩ :: rest) (Fr n s ds):=⟨fun w j h=>pv b rfl (CN f (lM T.lY a) e (St.yW h hi c) (gz hk) hv) (K.out w j h)⟩
theorem SL.WZ{i k sz off off' byf:Nat}{f:Field}(K:SL T J bs L N r ops Q rest (Fr n ((d,.pointer (some ⟨b,k*sz+off', none⟩)) :: s) ds))(m:ev n s x = .pointer (some ⟨b,k*sz+off,none⟩):=by exact rfl)(a:jh T.u t=some (.struct o):=by exact rfl)(c:o[i]? = some f:=by exact rfl)(ht:jh T.i f.type=some (o'+1,byf,zf):=by exact rfl)(l:off+f.offset=off' := by conv=>lhs;whnf)(e:gI ops n s g=true:=by exact rfl):SL T J bs L (N+1) r ops Q (⟨some d,.fieldAddr t x i,ty,pos,af,g⟩ :: rest) (Fr n s ds):=⟨fun w j h=>pw e (fun _=>Fh m (lM T.lY a) c (ny T.nO ht) (by rw[<-l,lJ])) (K.out w j h)⟩
theorem SL.fa{i o:Nat}{fields:Array Field}{f:Field}(K:SL T J bs L N r ops Q rest (Fr n ((d,.pointer (some ⟨b,o', none⟩)) :: s) ds))(l:ev n s x = .pointer (some ⟨b,o,none⟩):=by exact rfl)(a:jh T.u t=some (.struct fields):=by exact rfl)(c:fields[i]? = some f:=by exact rfl)(ht:jh T.i f.type=some (p+1,q,zf):=by exact rfl)(k:o+f.offset=o' := by conv=>lhs;whnf)(e:gI ops n s g=true:=by exact rfl):SL T J bs L (N+1) r ops Q (⟨some d,.fieldAddr t x i,ty,pos,af,g⟩ :: rest) (Fr n s ds):=⟨fun w j h=>pw e (fun _=>Fh l (lM T.lY a) c (ny T.nO ht) k) (K.out w j h)⟩
theorem SL.ld{o i:Nat}{a:TypeId}{cs:List Value}{ud:TypeDesc}(K:SL T J bs L N r ops Q rest (Fr n ((d,v) :: s) ds))(k:ev n s x = .pointer (some ⟨b,o,none⟩):=by exact rfl)(c:jh T.u t=some ud:=by exact rfl)(f:kC ud=false:=by exact rfl)(hi:L[i]? = some (blk b a cs):=by first|exact rV|exact rW|exact oq|exact ot|exact rX|exact rY|exact rZ|exact r0)(hv:cs[o]? = some v:=by exact rfl)(e:gI ops n s g=true:=by exact rfl):SL T J bs L (N+1) r ops Q (⟨some d,.load t x,ty,pos,af,g⟩ :: rest) (Fr n s ds):=⟨fun w j h=>pv e rfl (wJ k (lM T.lY c) f (h.tq hi hv)) (K.out w j h)⟩
theorem SL.Pu{α:Type}{cf:α->List Value}{xs:List α}{k sz off i:Nat}{a:TypeId}{ud:TypeDesc}(K:SL T J bs L N r ops Q rest (Fr n ((d,v) :: s) ds))(m:ev n s x = .pointer (some ⟨b,k*sz+off,none⟩):=by exact rfl)(c:jh T.u t=some ud:=by exact rfl)(l:kC ud=false:=by exact rfl)(hi:L[i]? = some (blk b a (xs.flatMap cf)):=by first|exact rV|exact rW|exact oq|exact ot|exact rX|exact rY|exact rZ|exact r0)(o:Inhabited α:=by infer_instance)(f:∀ x:α,(cf x).length=sz:=by exact fun _=>rfl)(hk:k<xs.length:=by first|omega|(simp only[gB];omega))(hv:(cf (fJ xs k))[off]? = some v:=by exact rfl)(e:gI ops n s g=true:=by exact rfl):SL T J bs L (N+1) r ops Q (⟨some d,.load t x,ty,pos,af,g⟩ :: rest) (Fr n s ds):=⟨fun w j h=>pv e rfl (wJ m (lM T.lY c) l (St.Kz h hi f hk hv)) (K.out w j h)⟩
theorem SL.Pz{o:Nat}{a:TypeId}{cs:List Value}{ud:TypeDesc}(K:SL T J bs L N r ops Q rest (Fr n ((d,v) :: s) ds))(i:ev n s x = .pointer (some ⟨b,o,none⟩):=by exact rfl)(c:jh T.u t=some ud:=by exact rfl)(f:kC ud=false:=by exact rfl)(hi:(blk b a cs).holds w0:=by assumption)(hb:(w0,[])∈bs:=by simp)(hv:cs[o]? = some v:=by exact rfl)(e:gI ops n s g=true:=by exact rfl):SL T J bs L (N+1) r ops Q (⟨some d,.load t x,ty,pos,af,g⟩ :: rest) (Fr n s ds):=⟨fun w j h=>pv e rfl (wJ i (lM T.lY c) f (St.KJ h hb hi hv)) (K.out w j h)⟩
theorem SL.PB{α:Type}{cf:α->List Value}{xs:List α}{k sz off:Nat}{a:TypeId}{ud:TypeDesc}(K:SL T J bs L N r ops Q rest (Fr n ((d,v) :: s) ds))(l:ev n s x = .pointer (some ⟨b,k*sz+off,none⟩):=by exact rfl)(c:jh T.u t=some ud:=by exact rfl)(i:kC ud=false:=by exact rfl)(hi:(blk b a (xs.flatMap cf)).holds w0:=by assumption)(m:Inhabited α:=by infer_instance)(hb:(w0,[])∈bs:=by simp)(f:∀ x:α,(cf x).length=sz:=by exact fun _=>rfl)(hk:k<xs.length:=by first|omega|(simp only[gB];omega))(hv:(cf (fJ xs k))[off]? = some v:=by exact rfl)(e:gI ops n s g=true:=by exact rfl):SL T J bs L (N+1) r ops Q (⟨some d,.load t x,ty,pos,af,g⟩ :: rest) (Fr n s ds):=⟨fun w j h=>pv e rfl (wJ l (lM T.lY c) i (St.Rs h hb hi f hk hv)) (K.out w j h)⟩
theorem SL.kM(K:SL T J bs L N r ops Q rest (Fr n ((d,v) :: s) ds)) (b:ev n s x=v:=by conv=>lhs;whnf) (a:gI ops n s g=true:=by exact rfl):SL T J bs L (N+1) r ops Q (⟨some d,.assign x,ty,pos,af,g⟩ :: rest) (Fr n s ds):=⟨fun w j h=>pw a (fun _=>NF b) (K.out w j h)⟩
theorem SL.wN{p:Addr}(K:SL T J bs L N r ops Q rest (Fr n ((d,.pointer (some p)) :: s) ds))(b:ev n s x = .pointer (some p):=by exact rfl)(a:gI ops n s g=true:=by exact rfl):SL T J bs L (N+1) r ops Q (⟨some d,.nilCheck x,ty,pos,af,g⟩ :: rest) (Fr n s ds):=⟨fun w j h=>pw a (fun _=>Qn b) (K.out w j h)⟩
theorem SL.cmp{e:BinOp}{t':TypeId}{k:IntKind}{a b:Int}{c:Bool}(K:SL T J bs L N r ops Q rest (Fr n ((d,.bool c) :: s) ds))(i:ev n s x = .int k a:=by exact rfl)(l:ev n s y = .int k b:=by exact rfl)(hc:lG e a b=some c:=by first|exact r7 (by first|assumption|exact rfl|decide)|exact tv (by first|assumption|exact rfl|decide)|exact p8 (by first|assumption|exact rfl|decide)|exact kG (by first|assumption|exact rfl|decide)|exact xO (by first|assumption|exact rfl|decide)|exact NY (by first|assumption|exact rfl|decide)|exact NX (by first|assumption|exact rfl|decide)|exact qa (by first|assumption|exact rfl|decide)|exact c_gt (by first|assumption|exact rfl|decide)|exact nN (by first|assumption|exact rfl|decide)|exact ow (by first|assumption|exact rfl|decide)|exact oS (by first|assumption|exact rfl|decide))(f:gI ops n s g=true:=by exact rfl):SL T J bs L (N+1) r ops Q (⟨some d,.binOp e t x y t', ty,pos,af,g⟩ :: rest) (Fr n s ds):=⟨fun w j h=>pw f (fun _=>Oc i l hc) (K.out w j h)⟩
theorem SL.ar{f:BinOp}{t':TypeId}{k:IntKind}{a b c e:Int}(K:SL T J bs L N r ops Q rest (Fr n ((d,.int k e) :: s) ds))(m:ev n s x = .int k a:=by exact rfl)(o:ev n s y = .int k b:=by exact rfl)(hc:Cr f a b=some c:=by exact rfl)(l:k.wrap c=e:=by first|exact kP o_|exact DC o_|exact To o_|exact w32u o_)(i:gI ops n s g=true:=by exact rfl):SL T J bs L (N+1) r ops Q (⟨some d,.binOp f t x y t', ty,pos,af,g⟩ :: rest) (Fr n s ds):=⟨fun w j h=>pw i (fun _=>NC m o hc l) (K.out w j h)⟩
theorem SL.ex{i:Nat}{vs:Array Value}(K:SL T J bs L N r ops Q rest (Fr n ((d,v) :: s) ds))(b:ev n s x = .tuple vs:=by exact rfl)(hv:vs[i]? = some v:=by exact rfl)(a:gI ops n s g=true:=by exact rfl):SL T J bs L (N+1) r ops Q (⟨some d,.extract x i,ty,pos,af,g⟩ :: rest) (Fr n s ds):=⟨fun w j h=>pw a (fun _=>WY b hv) (K.out w j h)⟩
theorem SL.Yb{e:TypeId}{m c k sz:Nat}{q:Value}(K:SL T J bs L N r ops Q rest (Fr n ((d,.pointer (some ⟨b,k*sz+0,none⟩)) :: s) ds))(o:ev n s x = .slice (some ⟨b,0,none⟩) m c:=by exact rfl)(p:ev n s y = .int kk (k:Nat):=by exact rfl)(f:jh T.u t=some (.slice e):=by exact rfl)(ht:jh T.i e=some (sz,o',q):=by exact rfl)(a:(k:Int)<m:=by first|omega|(simp only[gB];omega))(l:gI ops n s g=true:=by exact rfl):SL T J bs L (N+1) r ops Q (⟨some d,.indexAddr t x y,ty,pos,af,g⟩ :: rest) (Fr n s ds):=⟨fun w j h=>pw l (fun _=>JC o p (lM T.lY f) (ny T.nO ht) ⟨o_,a⟩ s_) (K.out w j h)⟩
theorem SL.iY{α:Type}{cf:α->List Value}{xs:List α}{ok:Nat->Prop}{c:α}{e:TypeId}{k sz:Nat}{m:Value}(K:SL T J bs L N r ops Q rest (Fr n ((d,lg sz v k 0) :: s) ds))(f:ev n s x=v:=by conv=>lhs;whnf)(l:ev n s y = .int kk (k:Nat):=by exact rfl)(a:jh T.u t=some (.slice e):=by exact rfl)(ht:jh T.i e=some (sz,q,m):=by exact rfl)(hi:gY sz cf ok w0 v xs:=by assumption)(hk:xs[k]? = some c:=by first|assumption|exact rfl|exact gz (by first|omega|(simp only[gB];omega)))(b:gI ops n s g=true:=by exact rfl):SL T J bs L (N+1) r ops Q (⟨some d,.indexAddr t x y,ty,pos,af,g⟩ :: rest) (Fr n s ds):=⟨fun w j h=>pw b (fun _=>JB f l (lM T.lY a) (ny T.nO ht) hi o_ o_ hk) (K.out w j h)⟩
theorem SL.W0{α:Type}{cf:α->List Value}{xs:List α}{ok:Nat->Prop}{c:α}{i k sz off off' szf:Nat}{f:Field}(K:SL T J bs L N r ops Q rest (Fr n ((d,lg sz v k off') :: s) ds))(m:ev n s x=lg sz v k off:=by exact rfl)(a:jh T.u t=some (.struct o):=by exact rfl)(b:o[i]? = some f:=by exact rfl)(ht:jh T.i f.type=some (szf+1,o',zf):=by exact rfl)(l:off+f.offset=off' := by conv=>lhs;whnf)(hi:gY sz cf ok w0 v xs:=by assumption)(hk:xs[k]? = some c:=by first|assumption|exact rfl|exact gz (by first|omega|(simp only[gB];omega)))(e:gI ops n s g=true:=by exact rfl):SL T J bs L (N+1) r ops Q (⟨some d,.fieldAddr t x i,ty,pos,af,g⟩ :: rest) (Fr n s ds):=⟨fun w j h=>pw e (fun _=>Oy m (lM T.lY a) b (ny T.nO ht) l hi hk) (K.out w j h)⟩
theorem SL.jk{α:Type}{cf:α->List Value}{xs:List α}{ok:Nat->Prop}{c:α}{k sz off:Nat}{ud:TypeDesc}{u:Value}(K:SL T J bs L N r ops Q rest (Fr n ((d,v) :: s) ds))(f:ev n s x=lg sz u k off:=by exact rfl)(a:jh T.u t=some ud:=by exact rfl)(e:kC ud=false:=by exact rfl)(hi:gY sz cf ok w0 u xs:=by assumption)(hb:(w0,[])∈bs:=by simp)(i:0<sz:=by decide)(hk:xs[k]? = some c:=by first|assumption|exact rfl|exact gz (by first|omega|(simp only[gB];omega)))(hv:(cf c)[off]? = some v:=by exact rfl)(b:gI ops n s g=true:=by exact rfl):SL T J bs L (N+1) r ops Q (⟨some d,.load t x,ty,pos,af,g⟩ :: rest) (Fr n s ds):=⟨fun w j h=>pv b rfl (CN f (lM T.lY a) e (St.De h hb i hi) hk hv) (K.out w j h)⟩
theorem SL.wF{o i sz:Nat}{l:Value}{a:TypeId}{cs:List Value}{ud:TypeDesc}(K:SL T J bs L N r ops Q rest (Fr n ((d,.agg vs.toArray) :: s) ds))(k:ev n s x = .pointer (some ⟨b,o,none⟩):=by exact rfl)(c:jh T.u t=some ud:=by exact rfl)(f:kC ud=true:=by exact rfl)(ht:jh T.i t=some (sz,q,l):=by exact rfl)(hi:L[i]? = some (blk b a cs):=by first|exact rV|exact rW|exact oq|exact ot|exact rX|exact rY|exact rZ|exact r0)(hv:sub' cs o sz=some vs:=by exact rfl)(e:gI ops n s g=true:=by exact rfl):SL T J bs L (N+1) r ops Q (⟨some d,.load t x,ty,pos,af,g⟩ :: rest) (Fr n s ds):=⟨fun w j h=>pv e rfl (wG k (lM T.lY c) f (ny T.nO ht) (wZ hv) (h.It hi (zA hv))) (K.out w j h)⟩
theorem SL.PA{o sz:Nat}{l:Value}{a:TypeId}{cs:List Value}{ud:TypeDesc}(K:SL T J bs L N r ops Q rest (Fr n ((d,.agg vs.toArray) :: s) ds))(k:ev n s x = .pointer (some ⟨b,o,none⟩):=by exact rfl)(c:jh T.u t=some ud:=by exact rfl)(f:kC ud=true:=by exact rfl)(ht:jh T.i t=some (sz,q,l):=by exact rfl)(hi:(blk b a cs).holds w0:=by assumption)(hb:(w0,[])∈bs:=by simp)(hv:sub' cs o sz=some vs:=by exact rfl)(e:gI ops n s g=true:=by exact rfl):SL T J bs L (N+1) r ops Q (⟨some d,.load t x,ty,pos,af,g⟩ :: rest) (Fr n s ds):=⟨fun w j h=>pv e rfl (wG k (lM T.lY c) f (ny T.nO ht) (wZ hv) (St.acv h hb hi (zA hv))) (K.out w j h)⟩
theorem SL.Pv{α:Type}{cf:α->List Value}{xs:List α}{k sz off i a by_:Nat}{p:Value}{c:TypeId}{ud:TypeDesc}(K:SL T J bs L N r ops Q rest (Fr n ((d,.agg vs.toArray) :: s) ds))(o:ev n s x = .pointer (some ⟨b,k*sz+off,none⟩):=by exact rfl)(e:jh T.u t=some ud:=by exact rfl)(m:kC ud=true:=by exact rfl)(ht:jh T.i t=some (a, by_,p):=by exact rfl)(hi:L[i]? = some (blk b c (xs.flatMap cf)):=by first|exact rV|exact rW|exact oq|exact ot|exact rX|exact rY|exact rZ|exact r0)(q:Inhabited α:=by infer_instance)(l:∀ x:α,(cf x).length=sz:=by exact fun _=>rfl)(hk:k<xs.length:=by first|omega|(simp only[gB];omega))(hv:sub' (cf (fJ xs k)) off a = some vs:=by exact rfl)(f:gI ops n s g=true:=by exact rfl):SL T J bs L (N+1) r ops Q (⟨some d,.load t x,ty,pos,af,g⟩ :: rest) (Fr n s ds):=⟨fun w j h=>pv f rfl (wG o (lM T.lY e) m (ny T.nO ht) (wZ hv) (St.ab1 h hi l hk (zA hv))) (K.out w j h)⟩
theorem SL.PC{α:Type}{cf:α->List Value}{xs:List α}{k sz off a by_:Nat}{p:Value}{c:TypeId}{ud:TypeDesc}(K:SL T J bs L N r ops Q rest (Fr n ((d,.agg vs.toArray) :: s) ds))(o:ev n s x = .pointer (some ⟨b,k*sz+off,none⟩):=by exact rfl)(e:jh T.u t=some ud:=by exact rfl)(m:kC ud=true:=by exact rfl)(ht:jh T.i t=some (a, by_,p):=by exact rfl)(hi:(blk b c (xs.flatMap cf)).holds w0:=by assumption)(q:Inhabited α:=by infer_instance)(hb:(w0,[])∈bs:=by simp)(l:∀ x:α,(cf x).length=sz:=by exact fun _=>rfl)(hk:k<xs.length:=by first|omega|(simp only[gB];omega))(hv:sub' (cf (fJ xs k)) off a = some vs:=by exact rfl)(f:gI ops n s g=true:=by exact rfl):SL T J bs L (N+1) r ops Q (⟨some d,.load t x,ty,pos,af,g⟩ :: rest) (Fr n s ds):=⟨fun w j h=>pv f rfl (wG o (lM T.lY e) m (ny T.nO ht) (wZ hv) (St.acw h hb hi l hk (zA hv))) (K.out w j h)⟩
theorem SL.Py{α:Type}{cf:α->List Value}{xs:List α}{e':TypeId}{k sz off a by_:Nat}{m:Value}{ud:TypeDesc}{u:Value}(K:SL T J bs L N r ops Q rest (Fr n ((d,.agg vs.toArray) :: s) ds))(l:ev n s x=lg sz u k off:=by exact rfl)(b:jh T.u t=some ud:=by exact rfl)(f:kC ud=true:=by exact rfl)(ht:jh T.i t=some (a, by_,m):=by exact rfl)(hi:L[q]? = some (fL cf u e' sz xs):=by first|exact rV|exact rW|exact oq|exact ot|exact rX|exact rY|exact rZ|exact r0)(o:Inhabited α:=by infer_instance)(e:∀ x:α,(cf x).length=sz:=by exact fun _=>rfl)(hk:k<xs.length:=by first|omega|(simp only[gB];omega))(hv:sub' (cf (fJ xs k)) off a = some vs:=by exact rfl)(c:gI ops n s g=true:=by exact rfl):SL T J bs L (N+1) r ops Q (⟨some d,.load t x,ty,pos,af,g⟩ :: rest) (Fr n s ds):=⟨fun w j h=>pv c rfl (Px l (lM T.lY b) f (ny T.nO ht) (St.yW h hi e) (gz hk) (wZ hv) (zA hv)) (K.out w j h)⟩
theorem SL.Pw{α:Type}{cf:α->List Value}{xs:List α}{ok:Nat->Prop}{c:α}{k sz off a by_:Nat}{o:Value}{ud:TypeDesc}{u:Value}(K:SL T J bs L N r ops Q rest (Fr n ((d,.agg vs.toArray) :: s) ds))(l:ev n s x=lg sz u k off:=by exact rfl)(b:jh T.u t=some ud:=by exact rfl)(f:kC ud=true:=by exact rfl)(ht:jh T.i t=some (a, by_,o):=by exact rfl)(hi:gY sz cf ok w0 u xs:=by assumption)(hb:(w0,[])∈bs:=by simp)(m:0<sz:=by decide)(hk:xs[k]? = some c:=by first|assumption|exact rfl|exact gz (by first|omega|(simp only[gB];omega)))(hv:sub' (cf c) off a = some vs:=by exact rfl)(e:gI ops n s g=true:=by exact rfl):SL T J bs L (N+1) r ops Q (⟨some d,.load t x,ty,pos,af,g⟩ :: rest) (Fr n s ds):=⟨fun w j h=>pv e rfl (Px l (lM T.lY b) f (ny T.nO ht) (St.De h hb m hi) hk (wZ hv) (zA hv)) (K.out w j h)⟩
theorem SL.cv{k k':IntKind}{ud:TypeDesc}{a e:Int}{t':TypeId}(K:SL T J bs L N r ops Q rest (Fr n ((d,.int k' e) :: s) ds))(l:ev n s x = .int k a:=by exact rfl)(b:jh T.u t=some ud:=by exact rfl)(c:jh T.u t' = some (.int k'):=by exact rfl)(i:k'.wrap a=e:=by first|exact kP o_|exact DC o_|exact To o_|exact w32u o_)(f:gI ops n s g=true:=by exact rfl):SL T J bs L (N+1) r ops Q (⟨some d,.convert t t' x,ty,pos,af,g⟩ :: rest) (Fr n s ds):=⟨fun w j h=>pw f (fun _=>Wi l (lM T.lY b) (lM T.lY c) i) (K.out w j h)⟩
theorem SL.not{b:Bool}(K:SL T J bs L N r ops Q rest (Fr n ((d,.bool !b) :: s) ds))(c:ev n s x = .bool b:=by exact rfl)(a:gI ops n s g=true:=by exact rfl):SL T J bs L (N+1) r ops Q (⟨some d,.unOp .not t x,ty,pos,af,g⟩ :: rest) (Fr n s ds):=⟨fun w j h=>pw a (fun _=>aaO c rfl) (K.out w j h)⟩
theorem SL.pT(K:SL T J bs L N r ops Q rest (Fr n ((d,v) :: s) ds)) (hc:ev n s x = .bool true:=by exact rfl) (b:ev n s y=v:=by conv=>lhs;whnf) (a:gI ops n s g=true:=by exact rfl):SL T J bs L (N+1) r ops Q (⟨some d,.pick x y z,ty,pos,af,g⟩ :: rest) (Fr n s ds):=⟨fun w j h=>pw a (fun _=>abg hc b) (K.out w j h)⟩
theorem SL.pF(K:SL T J bs L N r ops Q rest (Fr n ((d,v) :: s) ds)) (hc:ev n s x = .bool false:=by exact rfl) (b:ev n s z=v:=by conv=>lhs;whnf) (a:gI ops n s g=true:=by exact rfl):SL T J bs L (N+1) r ops Q (⟨some d,.pick x y z,ty,pos,af,g⟩ :: rest) (Fr n s ds):=⟨fun w j h=>pw a (fun _=>abf hc b) (K.out w j h)⟩
theorem SL.Gy{o i sz:Nat}{p:Value}{a:TypeId}{cs cs':List Value}(K:SL T (fun _=>True) bs L' N r ops Q rest (Fr n s ds))(l:ev n s x = .pointer (some ⟨b,o,none⟩):=by exact rfl)
 (hv:ev n s y=v:=by conv=>lhs;whnf) (m:v.cells.toList=vs:=by first|exact NU|exact NT|exact NV|exact NW|exact NS|exact cNilF|exact cMap|exact rfl) (ht:jh T.i t=some (sz,q,p):=by exact rfl) (k:vs.length=sz:=by exact rfl) (h1:vs.all (·.oneCell')=true:=by exact rfl) (hi:L[i]? = some (blk b a cs):=by first|exact rV|exact rW|exact oq|exact ot|exact rX|exact rY|exact rZ|exact r0)
 (e:Nat.ble (o+vs.length) cs.length=true:=by exact rfl) (hcs:setAt cs o vs=cs' := by dsimp only[setAt,List.take,List.drop,List.length,List.append,HAppend.hAppend,Append.append]<;>exact rfl) (d:L.set i (blk b a cs')=L' := by dsimp only[List.set]<;>exact rfl) (f:gI ops n s g=true:=by exact rfl) :
 SL T (fun _=>True) bs L (N+1) r ops Q (⟨none,.store t x y,ty,pos,af,g⟩ :: rest) (Fr n s ds):=⟨fun w j h=>Go.Sx.Gy i f l hv m (ny T.nO ht) k h1 h hi e hcs d fun w' c => K.out w' trivial c⟩
theorem run{p q:Prop} (h:p->q:=by
 intro h
 repeat (first
  | refine SP.sq ?_|refine SP.rg ?_|refine SP.KH ?_|refine SL.mv ?_|refine SL.nil ?_|refine SQ.tN ?_|refine SL.Yc ?_|refine SL.W1 ?_|refine SL.JN ?_|refine SL.WZ ?_|refine SL.fa ?_|refine SL.ld ?_|refine SL.Pu ?_|refine SL.Pz ?_|refine SL.PB ?_|refine SL.kM ?_|refine SL.wN ?_|refine SL.cmp ?_|refine SP.cT ?_|refine SP.cF ?_|refine SL.ar ?_|refine SL.ex ?_|refine SL.Yb ?_|refine SL.iY ?_|refine SL.W0 ?_|refine SL.jk ?_|refine SL.wF ?_|refine SL.PA ?_|refine SL.Pv ?_|refine SL.PC ?_|refine SL.Py ?_|refine SL.Pw ?_|refine SL.cv ?_|refine SL.not ?_|refine SL.pT ?_|refine SL.pF ?_|refine SL.ic ?_|refine SL.ixG ?_|refine SL.fldG ?_|refine SL.len ?_|refine SL.nP ?_|refine SL.eP ?_|refine SL.Gy ?_|refine SL.sk ?_|refine SL.skN ?_|refine SP.bk ?_|refine SP.sp ?_|refine SP.xt ?_|refine SP.rt ?_|refine SQ.tX ?_|refine SQ.tR ?_|refine SQ.bN ?_|refine SQ.bR ?_|refine SQ.bX ?_|refine SQ.Ir ?_|refine SP.scp ?_|refine SQ.KV ?_|refine SQ.scX ?_|refine SQ.KW ?_|refine SP.JM ?_)
 exact h):p->q:=h
variable {ops' : Array Oper} {Q' : Exit->Act->World->Prop} {l' : List Oper} {a' : Act} {c c' : Code} {e e' : Exit}
theorem gC[T:TT P](b:St bs L w)(N:Nat)(k:∀ w', St bs L' w' -> WL r P ops' Q' l' a' w')(h:SL T (fun _=>True) bs L' 0 r ops' Q' l' a' -> SL T (fun _=>True) bs L N r ops Q l a:=by exact run):WL r P ops Q l a w:=(h ⟨fun w' _ hs=>k w' hs⟩).out w trivial b
theorem fK[T:TT P](b:St bs L w)(N:Nat)(k:WL r P ops' Q' l' a' w)(h:SL T (fun x=>x=w) bs L 0 r ops' Q' l' a' -> SL T (fun x=>x=w) bs L N r ops Q l a:=by exact run):WL r P ops Q l a w:=(h ⟨fun w' j _=>by subst j;exact k⟩).out w rfl b
theorem ux[T:TT P](b:St bs L w)(N:Nat)(k:∀ w', St bs L' w' -> WP r P c' Q' a' w')(h:SP T (fun _=>True) bs L' 0 r Q' c' a' -> SL T (fun _=>True) bs L N r ops Q l a:=by exact run):WL r P ops Q l a w:=(h ⟨fun w' _ hs=>k w' hs⟩).out w trivial b
theorem gF[T:TT P](b:St bs L w)(N:Nat)(k:WP r P c' Q' a' w)(h:SP T (fun x=>x=w) bs L 0 r Q' c' a' -> SL T (fun x=>x=w) bs L N r ops Q l a:=by exact run):WL r P ops Q l a w:=(h ⟨fun w' j _=>by subst j;exact k⟩).out w rfl b
theorem jH[T:TT P](b:St bs L w)(N:Nat)(k:∀ w', St bs L' w' -> Q' e' a' w')(h:SQ T (fun _=>True) bs L' 0 r Q' e' a' -> SL T (fun _=>True) bs L N r ops Q l a:=by exact run):WL r P ops Q l a w:=(h ⟨fun w' _ hs=>k w' hs⟩).out w trivial b
theorem fP[T:TT P](b:St bs L w)(N:Nat)(k:Q' e' a' w)(h:SQ T (fun x=>x=w) bs L 0 r Q' e' a' -> SL T (fun x=>x=w) bs L N r ops Q l a:=by exact run):WL r P ops Q l a w:=(h ⟨fun w' j _=>by subst j;exact k⟩).out w rfl b
theorem ry[T:TT P](b:St bs L w)(N:Nat)(k:∀ w', St bs L' w' -> WL r P ops' Q' l' a' w')(h:SL T (fun _=>True) bs L' 0 r ops' Q' l' a' -> SP T (fun _=>True) bs L N r Q c a:=by exact run):WP r P c Q a w:=(h ⟨fun w' _ hs=>k w' hs⟩).out w trivial b
theorem fR[T:TT P](b:St bs L w)(N:Nat)(k:WL r P ops' Q' l' a' w)(h:SL T (fun x=>x=w) bs L 0 r ops' Q' l' a' -> SP T (fun x=>x=w) bs L N r Q c a:=by exact run):WP r P c Q a w:=(h ⟨fun w' j _=>by subst j;exact k⟩).out w rfl b
theorem sPP[T:TT P](b:St bs L w)(N:Nat)(k:∀ w', St bs L' w' -> WP r P c' Q' a' w')(h:SP T (fun _=>True) bs L' 0 r Q' c' a' -> SP T (fun _=>True) bs L N r Q c a:=by exact run):WP r P c Q a w:=(h ⟨fun w' _ hs=>k w' hs⟩).out w trivial b
theorem rm[T:TT P](b:St bs L w)(N:Nat)(k:WP r P c' Q' a' w)(h:SP T (fun x=>x=w) bs L 0 r Q' c' a' -> SP T (fun x=>x=w) bs L N r Q c a:=by exact run):WP r P c Q a w:=(h ⟨fun w' j _=>by subst j;exact k⟩).out w rfl b
theorem iT[T:TT P](b:St bs L w)(N:Nat)(k:Q' e' a' w)(h:SQ T (fun x=>x=w) bs L 0 r Q' e' a' -> SP T (fun x=>x=w) bs L N r Q c a:=by exact run):WP r P c Q a w:=(h ⟨fun w' j _=>by subst j;exact k⟩).out w rfl b
theorem RA(T:TT P)(r:Option Nat)(b:St bs L w)(N:Nat)(k:∀ w', St bs L' w' -> WL r P ops' Q' l' a' w')(h:SL T (fun _=>True) bs L' 0 r ops' Q' l' a' -> SQ T (fun _=>True) bs L N r Q e a:=by exact run):Q e a w:=(h ⟨fun w' _ hs=>k w' hs⟩).out w trivial b
theorem Bg(T:TT P)(r:Option Nat)(b:St bs L w)(N:Nat)(k:WL r P ops' Q' l' a' w)(h:SL T (fun x=>x=w) bs L 0 r ops' Q' l' a' -> SQ T (fun x=>x=w) bs L N r Q e a:=by exact run):Q e a w:=(h ⟨fun w' j _=>by subst j;exact k⟩).out w rfl b
theorem sQP(T:TT P)(r:Option Nat)(b:St bs L w)(N:Nat)(k:∀ w', St bs L' w' -> WP r P c' Q' a' w')(h:SP T (fun _=>True) bs L' 0 r Q' c' a' -> SQ T (fun _=>True) bs L N r Q e a:=by exact run):Q e a w:=(h ⟨fun w' _ hs=>k w' hs⟩).out w trivial b
theorem QD(T:TT P)(r:Option Nat)(b:St bs L w)(N:Nat)(k:WP r P c' Q' a' w)(h:SP T (fun x=>x=w) bs L 0 r Q' c' a' -> SQ T (fun x=>x=w) bs L N r Q e a:=by exact run):Q e a w:=(h ⟨fun w' j _=>by subst j;exact k⟩).out w rfl b
theorem sQQ(T:TT P)(r:Option Nat)(b:St bs L w)(N:Nat)(k:∀ w', St bs L' w' -> Q' e' a' w')(h:SQ T (fun _=>True) bs L' 0 r Q' e' a' -> SQ T (fun _=>True) bs L N r Q e a:=by exact run):Q e a w:=(h ⟨fun w' _ hs=>k w' hs⟩).out w trivial b
theorem wR(T:TT P)(r:Option Nat)(b:St bs L w)(N:Nat)(k:Q' e' a' w)(h:SQ T (fun x=>x=w) bs L 0 r Q' e' a' -> SQ T (fun x=>x=w) bs L N r Q e a:=by exact run):Q e a w:=(h ⟨fun w' j _=>by subst j;exact k⟩).out w rfl b
end
structure Nd where
 k0:Nat
 k1:Nat
 up:Nat
 flip:Bool
 key:Int
 size:Int
 first:Nat
 iO:Int
 total:Int
 deriving Inhabited
def Nd.cells(x:Nd):List Value:=[.int .i64 x.k0,.int .i64 x.k1,.int .i64 x.up,.bool x.flip,.int .i64 x.key,.int .i64 x.size,.int .i64 x.first,.int .i64 x.iO,.int .i64 x.total]
def jI(xs:List Nd)(i:Nat):Nat×Bool :=
 if (fJ xs i).up=0 then(0,false)else if (fJ xs (fJ xs i).up).k0=i then(0,true)else if (fJ xs (fJ xs i).up).k1=i then(1,true)else(0,false)
def lK(xs:List Nd)(i j:Nat):Bool:=decide ((fJ xs i).key<(fJ xs j).key\/(fJ xs i).key=(fJ xs j).key/\i<j)
def jb(xs:List Nd)(i s k:Nat):List Nd :=
 let ys:=if s=0 then fO xs i (fun x=>{ x with k0:=k })else fO xs i (fun x=>{ x with k1:=k })
 if k=0 then ys else fO ys k (fun x=>{ x with up:=i })
def kj(xs:List Nd)(i:Nat):List Nd :=
 if (fJ xs i).flip=true then
  let y0:=fO xs i (fun x=>{ x with flip:=false })
  let y1:=fO y0 i (fun x=>{ x with k0:=(fJ y0 i).k1 })
  let y2:=fO y1 i (fun x=>{ x with k1:=(fJ y0 i).k0 })
  let a:=if (fJ y2 i).k0=0 then y2 else fO y2 (fJ y2 i).k0 (fun x=>{ x with flip := !(fJ y2 (fJ y2 i).k0).flip })
  if (fJ y2 i).k1=0 then a else fO a (fJ y2 i).k1 (fun x=>{ x with flip := !(fJ a (fJ y2 i).k1).flip })
 else xs
structure fZ (xs:List Nd):Prop where
 k0:∀ i,i<xs.length->(fJ xs i).k0<xs.length
 k1:∀ i,i<xs.length->(fJ xs i).k1<xs.length
 up:∀ i,i<xs.length->(fJ xs i).up<xs.length
 first:∀ i,i<xs.length->(fJ xs i).first<xs.length
 key:∀ i,i<xs.length->gU .i64 (fJ xs i).key
variable{xs ys us:List Nd}
theorem fZ.iP{k:Nat}{f:Nd->Nd}(h:fZ xs)(hk:k<xs.length)(a:∀ x:Nd,x.k0<xs.length->x.k1<xs.length->x.up<xs.length->x.first<xs.length->gU .i64 x.key->(f x).k0<xs.length/\(f x).k1<xs.length/\(f x).up<xs.length/\(f x).first<xs.length/\gU .i64 (f x).key):fZ (fO xs k f):=by
 have key:∀ i,i<xs.length->(fJ (fO xs k f) i).k0<xs.length/\(fJ (fO xs k f) i).k1<xs.length/\(fJ (fO xs k f) i).up<xs.length/\(fJ (fO xs k f) i).first<xs.length/\gU .i64 (fJ (fO xs k f) i).key:=by
  intro i hi
  rw[jG hk]
  split
  . exact a _ (h.k0 k hk) (h.k1 k hk) (h.up k hk) (h.first k hk) (h.key k hk)
  . exact⟨h.k0 i hi,h.k1 i hi,h.up i hi,h.first i hi,h.key i hi⟩
 refine⟨fun i hi=>?_,fun i hi=>?_,fun i hi=>?_,fun i hi=>?_,fun i hi=>?_⟩<;>(rw[gB]at hi;try rw[gB])
 . exact(key i hi).1
 . exact(key i hi).2.1
 . exact(key i hi).2.2.1
 . exact(key i hi).2.2.2.1
 . exact(key i hi).2.2.2.2
inductive Tr where
 | nil:Tr
 | nd (l:Tr) (i:Nat) (r:Tr):Tr
namespace Tr
def root:Tr->Nat
 | .nil=>0
 | .nd _ i _=>i
def mem:Tr->List Nat
 | .nil=>[]
 | .nd l i r=>l.mem++i :: r.mem
end Tr
def jr(xs:List Nd)(d:Bool)(i:Nat):Nat:=bif d then(fJ xs i).k0 else(fJ xs i).k1
def oH(xs:List Nd)(L:List Nat):Int:=(L.map fun j=>1+(fJ xs j).iO).sum
def Eh(xs:List Nd)(m:Nat)(L:List Nat):Prop:=m∈L/\∀ j∈L,j=m\/lK xs m j=true
structure pX (xs:List Nd) (i:Nat) (L:List Nat):Prop where
 size:(fJ xs i).size=(L.length:Int)
 total:(fJ xs i).total=IntKind.i64.wrap (oH xs L)
 first:Eh xs (fJ xs i).first L
def gT(xs:List Nd):Tr->Nat->Prop
 | .nil,_=>True
 | .nd l i r,p=>(i≠0/\i<xs.length)/\((fJ xs i).k0=l.root/\(fJ xs i).k1=r.root/\(fJ xs i).up=p)/\pX xs i (l.mem++i :: r.mem)/\gT xs l i/\gT xs r i
abbrev Cx:=List (Bool×Nat×Tr)
def mY(d:Bool)(t:Tr)(g:Nat)(s:Tr):Tr:=bif d then .nd t g s else .nd s g t
def kf(d:Bool)(L:List Nat)(g:Nat)(s:Tr):List Nat:=bif d then L++g :: s.mem else s.mem++g :: L
def ki:Cx->Tr->Tr
 | [],t=>t
 | (d,g,s) :: c,t=>ki c (mY d t g s)
def lW:Cx->List Nat->List Nat
 | [],L=>L
 | (d,g,s) :: c,L=>lW c (kf d L g s)
def wS:Cx->Nat->Nat
 | [],p=>p
 | (_,g,_) :: _,_=>g
def j7:Cx->List Nat
 | []=>[]
 | (_,g,s) :: c=>g :: s.mem++j7 c
def mU(xs:List Nd):Cx->Nat->List Nat->Nat->Prop
 | [],_,_,_=>True
 | (d,g,s) :: c,h,L,p=>(g≠0/\g<xs.length)/\(jr xs d g=h/\jr xs (!d) g=s.root/\(fJ xs g).up=wS c p)/\pX xs g (kf d L g s)/\gT xs s g/\mU xs c g (kf d L g s) p
theorem Ru(d:Bool)(t:Tr)(g:Nat)(s:Tr):(mY d t g s).root=g:=by cases d<;>rfl
theorem J3(d:Bool)(t:Tr)(g:Nat)(s:Tr):(mY d t g s).mem=kf d t.mem g s:=by cases d<;>rfl
theorem qj:∀ (c:Cx) (t:Tr),(ki c t).mem=lW c t.mem
 | [],t=>rfl
 | (d,g,s) :: c,t=>by rw[ki,qj c,J3,lW]
variable{a s T U:Tr}{O:Cx}
theorem ab8{t:Tr}{g:Nat}:gT xs (mY d t g s) p↔(g≠0/\g<xs.length)/\(jr xs d g=t.root/\jr xs (!d) g=s.root/\(fJ xs g).up=p)/\pX xs g (kf d t.mem g s)/\gT xs t g/\gT xs s g:=by
 grind [mY,gT,jr,kf]
theorem yS{xs:List Nd}:∀ (c:Cx) (t:Tr) (p:Nat),gT xs (ki c t) p↔gT xs t (wS c p)/\mU xs c t.root t.mem p
 | [],t,p=>by simp[ki,wS,mU]
 | (d,g,s) :: c,t,p=>by
  rw[ki,yS c,ab8,Ru,J3]
  simp only[wS,mU]
  constructor
  . rintro⟨⟨a,b,e,f,h⟩,i⟩;exact⟨f,a,b,e,h,i⟩
  . rintro⟨f,a,b,e,h,i⟩;exact⟨⟨a,b,e,f,h⟩,i⟩
structure KL (xs ys:List Nd):Prop where
 len:ys.length=xs.length
 key:∀ j,(fJ ys j).key=(fJ xs j).key
 iO:∀ j,(fJ ys j).iO=(fJ xs j).iO
theorem KL.refl(xs:List Nd):KL xs xs:=⟨rfl,fun _=>rfl,fun _=>rfl⟩
theorem KL.trans{zs:List Nd}(h:KL xs ys)(k:KL ys zs):KL xs zs:=⟨k.len.trans h.len,fun j=>(k.key j).trans (h.key j),fun j=>(k.iO j).trans (h.iO j)⟩
theorem KL.before(h:KL xs ys)(i j:Nat):lK ys i j=lK xs i j:=by simp[lK,h.key]
theorem KL.GU(h:KL xs ys)(L:List Nat):oH ys L=oH xs L:=by simp[oH,h.iO]
theorem KL.Jz(h:KL xs ys){m:Nat}(k:Eh xs m L):Eh ys m L:=⟨k.1,fun j a=>by rw[h.before];exact k.2 j a⟩
theorem pX.to(h:pX xs i L)(k:KL xs ys)(hs:(fJ ys i).size=(fJ xs i).size)(ht:(fJ ys i).total=(fJ xs i).total)(a:(fJ ys i).first=(fJ xs i).first):pX ys i L :=
 ⟨hs.trans h.size,by rw[ht,h.total,k.GU],by rw[a];exact k.Jz h.first⟩
theorem gT.to{xs ys:List Nd}(k:KL xs ys):∀ {t:Tr} {p:Nat},gT xs t p->(∀ j∈t.mem,fJ ys j=fJ xs j)->gT ys t p
 | .nil,_,_,_=>trivial
 | .nd l i r,p,h,hs=>by
  obtain⟨⟨b,c⟩,⟨d,e,f⟩,g,m,n⟩:=h
  have hi:=hs i (by simp[Tr.mem])
  refine⟨⟨b,by rw[k.len];exact c⟩,⟨by rw[hi];exact d,by rw[hi];exact e,by rw[hi];exact f⟩,g.to k (by rw[hi]) (by rw[hi]) (by rw[hi]),gT.to k m fun j a=>hs j (by simp[Tr.mem,a]),gT.to k n fun j a=>hs j (by simp[Tr.mem,a])⟩
theorem gT.up(k:KL xs ys){t:Tr}(h:gT xs t p)(hs:∀ j∈t.mem,j≠t.root->fJ ys j=fJ xs j)(a:fJ ys t.root={ fJ xs t.root with up:=q })(c:t.mem.Nodup):gT ys t q:=by
 cases t with
 | nil=>trivial
 | nd l i r =>
  obtain⟨⟨e,f⟩,⟨g,m,v⟩,n,o,s⟩:=h
  simp only[Tr.root]at a hs
  simp only[Tr.mem]at c hs
  rw[zr]at c
  obtain⟨n1,d,u⟩:=c
  rw[zz]at d
  refine⟨⟨e,by rw[k.len];exact f⟩,⟨by rw[a];exact g,by rw[a];exact m,by rw[a]⟩,n.to k (by rw[a]) (by rw[a]) (by rw[a]),gT.to k o fun j b=>hs j (by simp[b]) ?_,gT.to k s fun j b=>hs j (by simp[b]) ?_⟩
  . rintro rfl;exact u j b j s_ rfl
  . rintro rfl;exact d.1 b
theorem mU.to{xs ys:List Nd}(k:KL xs ys):∀ {c:Cx} {r p:Nat} {L:List Nat},mU xs c r L p->(∀ j∈j7 c,fJ ys j=fJ xs j)->mU ys c r L p
 | [],_,_,_,_,_=>trivial
 | (d,g,s) :: c,r,p,L,h,hs=>by
  obtain⟨⟨i,l⟩,⟨e,f,m⟩,n,o,q⟩:=h
  have a:=hs g (by simp[j7])
  refine⟨⟨i,by rw[k.len];exact l⟩,⟨by simp only[jr,a]at e ⊢;exact e,by simp only[jr,a]at f ⊢;exact f,by rw[a];exact m⟩,n.to k (by rw[a]) (by rw[a]) (by rw[a]),gT.to k o fun j b=>hs j (by simp[j7,b]),mU.to k q fun j b=>hs j (by simp[j7,b])⟩
theorem mU.wB(k:KL xs ys){g r:Nat}{c:Cx}(h:mU xs ((d,g,s) :: c) r L p)(hs:∀ j∈s.mem++j7 c,fJ ys j=fJ xs j)
 (e:fJ ys g=bif d then { fJ xs g with k0:=b } else { fJ xs g with k1:=b }):mU ys ((d,g,s) :: c) b L p:=by
 obtain⟨⟨f,i⟩,⟨q,t,l⟩,m,n,o⟩:=h
 refine⟨⟨f,by rw[k.len];exact i⟩,⟨?_,?_,?_⟩,m.to k ?_ ?_ ?_,gT.to k n fun j a=>hs j (by simp[a]),mU.to k o fun j a=>hs j (by simp[a])⟩
 . cases d<;>simp[jr,e]
 . grind [jr]
 all_goals cases d<;>simp[e]<;>exact l
theorem CU:∀ {c:Cx} {L:List Nat} {j:Nat},j∈lW c L↔j∈L\/j∈j7 c
 | [],L,j=>by simp[lW,j7]
 | (d,g,s) :: c,L,j=>by
  rw[lW,CU (c:=c)]
  cases d<;>simp only[kf,j7,cond_true,cond_false,zn,zg]<;>simp only[or_assoc,or_left_comm,or_comm]
theorem C2:∀ {c:Cx} {L:List Nat},(lW c L).Nodup->L.Nodup/\(j7 c).Nodup/\∀ j∈L,j∉j7 c
 | [],L,h=>⟨h,by simp[j7],by simp[j7]⟩
 | (d,g,s) :: c,L,h=>by
  obtain⟨t,l,m⟩:=C2 (c:=c) h
  have key:L.Nodup/\s.mem.Nodup/\g∉L/\g∉s.mem/\∀ j∈L,j∉s.mem:=by
   cases d
   . grind [kf]
   . grind [kf]
  obtain⟨k1,o,p,q,r⟩:=key
  have n:∀ j,j∈kf d L g s↔j∈L\/j=g\/j∈s.mem:=fun j=>by cases d<;>simp only[kf,cond_true,cond_false,zn,zg,or_assoc,or_left_comm,or_comm]
  refine⟨k1,?_,fun j i f=>?_⟩
  . rw[j7,zr,zz]
    refine⟨⟨q,o⟩,l,fun a k b hb e=>?_⟩
    subst e
    rcases zg.1 k with rfl|k
    . grind
    . grind
  . rw[j7,zn,zg]at f
    rcases f with (rfl|f)|f
    . exact p i
    . exact r j i f
    . exact m j ((n j).2 (.inl i)) f
theorem adR{l':List Int}(h:l.Perm l'):l.sum=l'.sum:=by
 induction h with
 | nil=>rfl
 | cons x _ c=>simp only[List.sum_cons,c]
 | swap x y l=>simp only[List.sum_cons];omega
 | trans _ _ a b=>exact a.trans b
theorem aeR{L':List Nat}(h:L.Perm L'):oH xs L=oH xs L' := adR (h.map _)
theorem pX.perm{i:Nat}{L L':List Nat}(h:pX xs i L)(k:L.Perm L'):pX xs i L' := by
 refine⟨by rw[h.size,k.length_eq],?_,⟨k.mem_iff.1 h.first.1,fun j a=>h.first.2 j (k.mem_iff.2 a)⟩⟩
 rw[h.total,aeR k]
theorem aeQ(xs:List Nd)(L M:List Nat):oH xs (L++M)=oH xs L+oH xs M:=by simp[oH]
theorem LY(x:Int):IntKind.i64.wrap x=if 9223372036854775808<=x%18446744073709551616 then x%18446744073709551616-18446744073709551616 else x%18446744073709551616:=by
 show (if (true&&decide (x%18446744073709551616≥9223372036854775808))=true then x%18446744073709551616-18446744073709551616 else x%18446744073709551616)=_
 simp
theorem TG(x:Int):IntKind.i64.wrap x=(x+9223372036854775808)%18446744073709551616-9223372036854775808:=by
 rw[LY];split<;>omega
theorem afT(a b:Int):IntKind.i64.wrap (IntKind.i64.wrap a+IntKind.i64.wrap b)=IntKind.i64.wrap (a+b):=by
 simp only[TG];omega
theorem afU(h:-9223372036854775808<=x)(a:x<=9223372036854775807):IntKind.i64.wrap x=x:=by rw[TG];omega
def mj(xs:List Nd)(i k:Nat):List Nd :=
 if k=0 then xs else
  let y0:=fO xs i (fun x=>{ x with size:=IntKind.i64.wrap (x.size+(fJ xs k).size) })
  let y1:=fO y0 i (fun x=>{ x with total:=IntKind.i64.wrap (x.total+(fJ y0 k).total) })
  if lK y1 (fJ y1 k).first (fJ y1 i).first then fO y1 i (fun x=>{ x with first:=(fJ y1 k).first })else y1
def iJ(xs:List Nd)(i:Nat):List Nd :=
 let y:=fO xs i (fun x=>{ x with size:=1,first:=i,total:=IntKind.i64.wrap (1+x.iO) })
 mj (mj y i (fJ xs i).k0) i (fJ xs i).k1
structure mo (xs ys:List Nd) (i:Nat):Prop where
 len:ys.length=xs.length
 other:∀ j,j≠i->fJ ys j=fJ xs j
 here:∃ s t f,fJ ys i={ fJ xs i with size:=s,total:=t,first:=f }
theorem mo.refl(xs:List Nd)(i:Nat):mo xs xs i:=⟨rfl,fun _ _=>rfl,_,_,_,rfl⟩
theorem mo.trans{zs:List Nd}(h:mo xs ys i)(k:mo ys zs i):mo xs zs i:=by
 obtain⟨s,t,f,e⟩:=h.here
 obtain⟨c, t', b, e'⟩:=k.here
 exact⟨k.len.trans h.len,fun j a=>(k.other j a).trans (h.other j a),c, t', b, by rw[e', e]⟩
theorem mo.kl(h:mo xs ys i):KL xs ys:=by
 obtain⟨s,t,f,e⟩:=h.here
 refine⟨h.len,fun j=>?_,fun j=>?_⟩<;>(by_cases hj:j=i)
 . subst hj;rw[e]
 . rw[h.other j hj]
 . subst hj;rw[e]
 . rw[h.other j hj]
theorem mo.flip(h:mo xs ys i)(j:Nat):(fJ ys j).flip=(fJ xs j).flip:=by
 obtain⟨s,t,f,e⟩:=h.here
 by_cases hj:j=i
 . subst hj;rw[e]
 . rw[h.other j hj]
theorem Ro{k:Nat}{M:List Nat}(hi:i<xs.length)(hk:k<xs.length)(h:pX xs i L)(p:k≠0->k≠i/\pX xs k M)(t:k=0->M=[])(u:L.length+M.length<=1000001) :
 mo xs (mj xs i k) i/\pX (mj xs i k) i (L++M):=by
 unfold mj
 by_cases hk0:k=0
 . grind [mo.refl]
 . rw[if_neg hk0]
   obtain⟨q,hv⟩:=p hk0
   obtain⟨y0,f⟩:∃ y,y=fO xs i (fun x=>{ x with size:=IntKind.i64.wrap (x.size+(fJ xs k).size) }):=⟨_,rfl⟩
   obtain⟨y1,e1⟩:∃ y,y=fO y0 i (fun x=>{ x with total:=IntKind.i64.wrap (x.total+(fJ y0 k).total) }):=⟨_,rfl⟩
   simp only[<-f,<-e1]
   have r:y0.length=xs.length:=by rw[f,gB]
   have l1:y1.length=xs.length:=by rw[e1,gB,r]
   have a0:fJ y0 i={ fJ xs i with size:=IntKind.i64.wrap ((fJ xs i).size+(fJ xs k).size) }:=by rw[f,jS hi]
   have b0:∀ j,j≠i->fJ y0 j=fJ xs j:=fun j d=>by rw[f,kD (fun e=>d e.symm)]
   have a1:fJ y1 i={ fJ xs i with size:=IntKind.i64.wrap ((fJ xs i).size+(fJ xs k).size),total:=IntKind.i64.wrap ((fJ xs i).total+(fJ xs k).total) }:=by
    grind [jS]
   have b1:∀ j,j≠i->fJ y1 j=fJ xs j:=fun j d=>by rw[e1,kD (fun e=>d e.symm),b0 j d]
   have l:mo xs y1 i:=⟨l1,b1,_,_,_,a1⟩
   have hs:IntKind.i64.wrap ((fJ xs i).size+(fJ xs k).size)=((L++M).length:Int):=by
    rw[h.size,hv.size,afU o_ o_,zo];omega
   have ht:IntKind.i64.wrap ((fJ xs i).total+(fJ xs k).total)=IntKind.i64.wrap (oH xs (L++M)):=by
    rw[h.total,hv.total,afT,aeQ]
   have hb:∀ a b,lK y1 a b=lK xs a b:=l.kl.before
   have fk:(fJ y1 k).first=(fJ xs k).first:=by rw[b1 k q]
   have n:(fJ y1 i).first=(fJ xs i).first:=by rw[a1]
   have o:∀ a b c,lK xs a b=true->lK xs b c=true->lK xs a c=true:=by
    grind [lK]
   have s:∀ a b,lK xs a b=false->a=b\/lK xs b a=true:=by
    grind [lK]
   rw[fk,n,hb]
   cases hc:lK xs (fJ xs k).first (fJ xs i).first with
   | true =>
    rw[if_pos rfl]
    have g:fJ (fO y1 i (fun x=>{ x with first:=(fJ xs k).first })) i={ fJ xs i with size:=IntKind.i64.wrap ((fJ xs i).size+(fJ xs k).size),total:=IntKind.i64.wrap ((fJ xs i).total+(fJ xs k).total),first:=(fJ xs k).first }:=by
     rw[jS o_,a1]
    have m:mo xs (fO y1 i (fun x=>{ x with first:=(fJ xs k).first })) i:=⟨by rw[gB,l1],fun j d=>by rw[kD (fun e=>d e.symm),b1 j d],_,_,_,g⟩
    refine⟨m,⟨by rw[g];exact hs,by rw[g,m.kl.GU];exact ht,?_⟩⟩
    rw[g]
    refine m.kl.Jz ⟨vG _ hv.first.1,fun j d=>?_⟩
    rcases zn.1 d with d|d
    . rcases h.first.2 j d with rfl|d
      . exact .inr hc
      . exact .inr (o _ _ _ hc d)
    . exact hv.first.2 j d
   | false =>
    rw[if_neg s_]
    refine⟨l,⟨by rw[a1];exact hs,by rw[a1,l.kl.GU];exact ht,?_⟩⟩
    rw[n]
    refine l.kl.Jz ⟨sN _ h.first.1,fun j d=>?_⟩
    rcases zn.1 d with d|d
    . exact h.first.2 j d
    . rcases s _ _ hc with e|e
      . rw[<-e];exact hv.first.2 j d
      . rcases hv.first.2 j d with rfl|d
        . exact .inr e
        . exact .inr (o _ _ _ e d)
theorem gT.vals{t:Tr}(h:gT xs t p):t.root≠0->pX xs t.root t.mem:=by
 cases t with
 | nil=>intro h;exact absurd rfl h
 | nd l i r=>intro _;exact h.2.2.1
theorem gT.nC{t:Tr}(h:gT xs t p):t.root≠0->t.root∈t.mem:=by
 cases t with
 | nil=>intro h;exact absurd rfl h
 | nd l i r=>intro _;simp[Tr.root,Tr.mem]
theorem gT.KK{t:Tr}(h:gT xs t p):t.root=0->t.mem=[]:=by
 cases t with
 | nil=>intro _;rfl
 | nd l i r=>intro e;exact absurd e h.1.1
theorem gT.Bn{t:Tr}(h:gT xs t p)(a:0<xs.length):t.root<xs.length:=by
 cases t with
 | nil=>exact a
 | nd l i r=>exact h.1.2
theorem gT.pK{xs:List Nd}:∀ {t:Tr} {p:Nat},gT xs t p->∀ j∈t.mem,j≠0/\j<xs.length
 | .nil,_,_,j,a=>by simp[Tr.mem]at a
 | .nd l i r,p,h,j,a=>by
  obtain⟨b,_,_,c,d⟩:=h
  simp only[Tr.mem,zn,zg]at a
  rcases a with a|rfl|a
  . exact gT.pK c j a
  . exact b
  . exact gT.pK d j a
theorem Bk{l r:Tr}(hi:i≠0/\i<xs.length)(z:gT xs l i)(B:gT xs r i)(w:(fJ xs i).k0=l.root)(h1:(fJ xs i).k1=r.root)(A:(l.mem++i :: r.mem).Nodup)(D:(l.mem++i :: r.mem).length<=1000000) :
 mo xs (iJ xs i) i/\gT (iJ xs i) (.nd l i r) (fJ xs i).up:=by
 have J:0<xs.length:=by omega
 rw[zr,zz]at A
 obtain⟨n1,⟨o,K⟩,G⟩:=A
 have p:i∉l.mem:=fun h=>G i h i s_ rfl
 simp only[zo,zh]at D
 unfold iJ
 obtain⟨y,g⟩:∃ y,y=fO xs i (fun x=>{ x with size:=1,first:=i,total:=IntKind.i64.wrap (1+x.iO) }):=⟨_,rfl⟩
 simp only[<-g]
 have d:fJ y i={ fJ xs i with size:=1,first:=i,total:=IntKind.i64.wrap (1+(fJ xs i).iO) }:=by rw[g,jS hi.2]
 have F:y.length=xs.length:=by rw[g,gB]
 have by_:∀ j,j≠i->fJ y j=fJ xs j:=fun j a=>by rw[g,kD (fun e=>a e.symm)]
 have q:mo xs y i:=⟨F,by_,_,_,_,d⟩
 have I:pX y i [i]:=⟨by rw[d];rfl,by rw[d,q.kl.GU];simp[oH],by rw[d];exact⟨s_,fun j a=>.inl (by simpa using a)⟩⟩
 have m : gT y l i:=z.to q.kl fun j a=>by_ j (fun e=>p (e▸a))
 have E : gT y r i:=B.to q.kl fun j a=>by_ j (fun e=>o (e▸a))
 rw[w,h1]
 obtain⟨b,H⟩:=Ro (xs:=y) (i:=i) (k:=l.root) (L:=[i]) (M:=l.mem) o_ (m.Bn o_) I (fun h=>⟨fun e=>p (e▸z.nC h),m.vals h⟩) (m.KK) (by simp;omega)
 have n:=E.to b.kl fun j a=>b.other j (fun e=>o (e▸a))
 have C:=m.to b.kl fun j a=>b.other j (fun e=>p (e▸a))
 obtain⟨c,v2⟩:=Ro (xs:=mj y i l.root) (i:=i) (k:=r.root) (L:=[i]++l.mem) (M:=r.mem) (by rw[b.len];omega) (n.Bn (by rw[b.len];omega)) H (fun h=>⟨fun e=>o (e▸B.nC h),n.vals h⟩) (n.KK) (by simp;omega)
 have v:=(q.trans b).trans c
 obtain⟨s,t,f,u⟩:=v.here
 refine⟨v,⟨hi.1,by rw[v.len];exact hi.2⟩,⟨by rw[u];exact w,by rw[u];exact h1,by rw[u]⟩,v2.perm ?_,C.to c.kl fun j a=>c.other j (fun e=>p (e▸a)),n.to c.kl fun j a=>c.other j (fun e=>o (e▸a))⟩
 simp only[List.singleton_append,nH]
 exact sO.symm
def iM(xs:List Nd)(i:Nat):List Nd :=
 let p:=(fJ xs i).up
 let g:=(fJ xs p).up
 let s:=(jI xs i).1
 let y1:=if (jI xs p).2=true then jb xs g (jI xs p).1 i else fO xs i (fun x=>{ x with up:=g })
 let y2:=jb y1 p s (if s=0 then(fJ y1 i).k1 else(fJ y1 i).k0)
 let a:=jb y2 i (1-s) p
 iJ (iJ a p) i
def rz(d:Bool)(k:Nat)(x:Nd):Nd:=bif d then { x with k0:=k } else { x with k1:=k }
def sd(d:Bool):Nat:=bif d then 0 else 1
theorem K3(d:Bool)(k:Nat)(x:Nd):(rz d k x).key=x.key:=by cases d<;>rfl
theorem K4(d:Bool)(k:Nat)(x:Nd):(rz d k x).iO=x.iO:=by cases d<;>rfl
theorem K0(d:Bool)(k:Nat)(x:Nd):(rz d k x).flip=x.flip:=by cases d<;>rfl
theorem ada(d:Bool)(k:Nat)(x:Nd):(rz d k x).up=x.up:=by cases d<;>rfl
theorem OX(xs:List Nd)(i:Nat)(d:Bool)(k:Nat):jb xs i (sd d) k=if k=0 then fO xs i (rz d k)else fO (fO xs i (rz d k)) k (fun x=>{ x with up:=i }):=by
 cases d<;>rfl
theorem Jo(xs:List Nd)(i:Nat)(d:Bool)(k:Nat):(jb xs i (sd d) k).length=xs.length:=by
 rw[OX];split<;>simp[gB]
theorem Jn{k:Nat}(hi:i<xs.length)(hk:k<xs.length)(a:k≠i)(j:Nat) :
 fJ (jb xs i (sd d) k) j=if j=i then rz d k (fJ xs i)else if j=k/\k≠0 then { fJ xs k with up:=i } else fJ xs j:=by
 grind [OX,jG,gB,kD]
theorem K7(b:(fJ xs i).up=p)(hp:p≠0)(hk:jr xs d p=i)(a:jr xs (!d) p≠i):jI xs i=(sd d,true):=by
 unfold jI
 rw[b,if_neg hp]
 cases d
 . simp only[jr,cond_false,Bool.not_false,cond_true]at hk a
   rw[if_neg a,if_pos hk];rfl
 . simp only[jr,cond_true]at hk
   rw[if_pos hk];rfl
theorem RN(a:(fJ xs i).up=p)(h:p=0\/jr xs true p≠i/\jr xs false p≠i):jI xs i=(0,false):=by
 grind [jI,jr]
def ru(d:Bool)(a:Tr)(i:Nat)(b:Tr)(p:Nat)(s:Tr):Tr:=bif d then .nd a i (.nd b p s)else .nd (.nd s p a) i b
theorem KM(d:Bool)(a:Tr)(i:Nat)(b:Tr)(p:Nat)(s:Tr):(ru d a i b p s).mem=kf d (a.mem++i :: b.mem) p s:=by
 cases d<;>simp[ru,kf,Tr.mem]
theorem acE(d:Bool)(a:Tr)(i:Nat)(b:Tr)(p:Nat)(s:Tr):(ru d a i b p s).root=i:=by cases d<;>rfl
theorem Ku:∀ (c:Cx) (L:List Nat),L.length<=(lW c L).length
 | [],_=>zm _
 | (d,g,s) :: c,L=>mF (by cases d<;>simp[kf]<;>omega) (Ku c _)
theorem Rp{t:Tr}(hi:i≠0/\i<xs.length)(ht:gT xs t i)(hs:gT xs s i)(a:jr xs d i=t.root)(h1:jr xs (!d) i=s.root)(c:(kf d t.mem i s).Nodup)(b:(kf d t.mem i s).length<=1000000) :
 mo xs (iJ xs i) i/\gT (iJ xs i) (mY d t i s) (fJ xs i).up:=by
 cases d
 . exact Bk hi hs ht (by simpa[jr]using h1) (by simpa[jr]using a) c b
 . exact Bk hi ht hs (by simpa[jr]using a) (by simpa[jr]using h1) c b
structure TY (xs ys:List Nd) (S:List Nat):Prop where
 kl:KL xs ys
 other:∀ j,j∉S->fJ ys j=fJ xs j
 flip:∀ j,(fJ ys j).flip=(fJ xs j).flip
theorem mU.kW(k:KL xs ys){c:Cx}{r a:Nat}(h:mU xs c r L q)(hs:∀ d g s c', c=(d,g,s) :: c' -> (∀ j∈s.mem++j7 c', fJ ys j=fJ xs j)/\fJ ys g=rz d a (fJ xs g)):mU ys c a L q:=by
 cases c with
 | nil=>trivial
 | cons f c' =>
  obtain⟨d,g,s⟩:=f
  obtain⟨b,e⟩:=hs d g s c' rfl
  exact h.wB k b e
theorem yV{b:Tr}{c:Cx}(hR:gT xs (ki ((d,p,s) :: c) (.nd a i b)) q)(hn:(lW ((d,p,s) :: c) (a.mem++i :: b.mem)).Nodup)(a4:xs.length<=1000001)(aj:(lW ((d,p,s) :: c) (a.mem++i :: b.mem)).length<=1000000)(hq:c=[]->q=0\/jr xs true q≠p/\jr xs false q≠p) :
 gT (iM xs i) (ki c (ru d a i b p s)) q/\TY xs (iM xs i) (lW ((d,p,s) :: c) (a.mem++i :: b.mem)):=by
 obtain⟨hT,hC⟩:=(yS _ _ _).1 hR
 obtain⟨⟨i0,il⟩,⟨av,aw,iu⟩,iv,ha,hb⟩:=hT
 simp only[wS]at iu
 obtain⟨⟨U,pl⟩,⟨pk,po,pu⟩,pv,hs,aa⟩:=hC
 simp only[Tr.root]at pk
 simp only[Tr.mem]at pv aa
 obtain⟨n1,n2,P⟩:=C2 hn
 simp only[j7,nH,zz,zr,zn,zg,not_or]at n1 n2 P
 obtain⟨H,ns,nc,aY⟩:=n2
 obtain⟨na,⟨ay,nb⟩,ai⟩:=n1
 have J:i≠p:=(P i s_).1
 have an:i∉s.mem:=(P i s_).2.1
 have ab:i∉j7 c:=(P i s_).2.2
 have ak:i∉a.mem:=fun h=>ai i h i (.inl rfl) rfl
 have aW:s.root≠i:=fun e=>by
  by_cases h:s.root=0
  . exact i0 (e.symm.trans h)
  . exact an (e▸hs.nC h)
 -- sides
 have aV:jI xs i=(sd d,true):=K7 iu U pk (by rw[po];exact aW)
 -- the parent's parent
 obtain⟨g,R⟩:∃ g,(fJ xs p).up=g:=⟨_,rfl⟩
 have S:g=wS c q:=R.symm.trans pu
 -- the middle tree,and the outer one
 obtain⟨m,o,hm⟩:∃ m o:Tr,(m,o)=(bif d then(b,a)else(a,b)):=⟨_,_,rfl⟩
 have aK:gT xs m i/\gT xs o i/\jr xs (!d) i=m.root/\jr xs d i=o.root/\(∀ j,j∈m.mem\/j∈o.mem↔j∈a.mem\/j∈b.mem)/\i∉m.mem/\i∉o.mem/\m.mem.Nodup/\o.mem.Nodup/\∀ j∈m.mem,j∉o.mem:=by
  cases d<;>(simp only[cond_true,cond_false,Prod.mk.injEq]at hm;obtain⟨rfl,rfl⟩:=hm)
  . exact⟨ha,hb,by simpa[jr]using av,by simpa[jr]using aw,fun j=>Iff.rfl,ak,ay,na,nb,fun j n r=>ai j n j (.inr r) rfl⟩
  . exact⟨hb,ha,by simpa[jr]using aw,by simpa[jr]using av,fun j=>Or.comm,ay,ak,nb,na,fun j n r=>ai j r j (.inr n) rfl⟩
 obtain⟨G,aN,aq,aP,ao,am,aE,ad,a6,aL⟩:=aK
 have B:∀ j,j∈m.mem\/j∈o.mem->j≠p/\j∉s.mem/\j∉j7 c:=fun j l=>by
  have:=P j (by rcases(ao j).1 l with h|h<;>simp[h])
  exact⟨this.1,this.2.1,this.2.2⟩
 have a5:m.root<xs.length:=G.Bn o_
 have ac:m.root≠i:=fun e=>am (e▸G.nC o_)
 have ae:m.root≠p:=fun e=>(B m.root (.inl (G.nC o_))).1 e
 -- the first step
 obtain⟨y1,F⟩:∃ y,y=(if (jI xs p).2=true then jb xs g (jI xs p).1 i else fO xs i (fun x=>{ x with up:=g })):=⟨_,rfl⟩
 have aX:y1.length=xs.length/\fJ y1 i={ fJ xs i with up:=g }/\(∀ j,j≠i->j∉j7 c->fJ y1 j=fJ xs j)/\(∀ C v E c', c=(C, v, E) :: c' -> (∀ j,j≠i->j≠v -> fJ y1 j=fJ xs j)/\fJ y1 v = rz C i (fJ xs v))/\(c=[]->∀ j,j≠i->fJ y1 j=fJ xs j):=by
  cases c with
  | nil =>
   have ag:jI xs p=(0,false):=RN (p:=q) (by rw[R,S];rfl) (hq rfl)
   rw[ag]at F
   simp only[HB,if_false]at F
   subst F
   refine⟨gB,jS il,fun j l _=>kD (fun e=>l e.symm),?_,fun _ j l=>kD (fun e=>l e.symm)⟩
   intro C v E c' e
   cases e
  | cons f c' =>
   obtain⟨C, v, E⟩:=f
   obtain⟨⟨g0,gl⟩,⟨gk,go,gu⟩,gv,gs,gc⟩:=aa
   simp only[j7,nH,zg,zn,not_or]at ab H
   have a7:p≠v := H.2.1
   have ag:jI xs p=(sd C, true):=K7 (p:=v) (by rw[R,S];rfl) g0 gk (by
    rw[go]
    intro e
    have hr:E.root≠0:=by rw[e];exact U
    exact H.2.2.1 (e▸gs.nC hr))
   rw[ag]at F
   simp only[if_true]at F
   have aD:g=v := S
   subst aD
   have al:i≠g:=ab.1
   subst F
   have Q:=Jn (xs:=xs) (d:=C) gl il al
   refine⟨Jo _ _ _ _,by rw[Q,if_neg al,if_pos ⟨rfl,i0⟩],fun j l aF=>?_,fun d2 g2 s2 c2 e=>?_,fun e=>by cases e⟩
   . rw[Q,if_neg (fun e=>aF (by simp[j7,e])),if_neg (fun e=>l e.1)]
   . cases e
     exact⟨fun j n r=>by rw[Q,if_neg r,if_neg (fun e=>n e.1)],by rw[Q,if_pos rfl]⟩
 obtain⟨l1,a1,o1,c1,e1⟩:=aX
 have az:p∉j7 c:=H.2
 have aR:fJ y1 p=fJ xs p:=o1 p (fun e=>J e.symm) az
 have aG:(if sd d=0 then(fJ y1 i).k1 else(fJ y1 i).k0)=m.root:=by
  rw[a1]
  cases d
  . simp only[sd,cond_false,D3,if_false];simpa[jr]using aq
  . simp only[sd,cond_true,if_true];simpa[jr]using aq
 -- the second step
 obtain⟨y2,Y⟩:∃ y,y=jb y1 p (sd d) m.root:=⟨_,rfl⟩
 have oq:=Jn (xs:=y1) (i:=p) (k:=m.root) (d:=d) o_ o_ ae
 rw[<-Y]at oq
 have l2:y2.length=xs.length:=by rw[Y,Jo,l1]
 -- the third step
 obtain⟨u,Z⟩:∃ y,y=jb y2 i (sd (!d)) p:=⟨_,rfl⟩
 have ot:=Jn (xs:=y2) (i:=i) (k:=p) (d := !d) o_ o_ (fun e=>J e.symm)
 rw[<-Z]at ot
 have l3:u.length=xs.length:=by rw[Z,Jo,l2]
 have ar:iM xs i=iJ (iJ u p) i:=by
  have aU:1-sd d=sd (!d):=by cases d<;>rfl
  unfold iM
  simp only[aV,iu,R,<-F,aG,<-Y,aU,<-Z]
 -- the nodes before the refreshes
 have aZ:fJ y2 i={ fJ xs i with up:=g }:=by rw[oq,if_neg J,if_neg (fun e=>ac e.1.symm),a1]
 have a0:fJ y2 p=rz d m.root (fJ xs p):=by rw[oq,if_pos rfl,aR]
 have a2:fJ u i=rz (!d) p { fJ xs i with up:=g }:=by rw[ot,if_pos rfl,aZ]
 have X:fJ u p={ rz d m.root (fJ xs p)with up:=i }:=by rw[ot,if_neg (fun e=>J e.symm),if_pos ⟨rfl,U⟩,a0]
 have aA:m.root≠0->fJ u m.root={ fJ xs m.root with up:=p }:=fun h=>by
  rw[ot,if_neg ac,if_neg (fun e=>ae e.1),oq,if_neg ae,if_pos ⟨rfl,h⟩,o1 _ ac (B _ (.inl (G.nC h))).2.2]
 have W:∀ j,j≠i->j≠p->(j≠m.root\/m.root=0)->fJ u j=fJ y1 j:=fun j n r w=>by
  rw[ot,if_neg n,if_neg (fun e=>r e.1),oq,if_neg r,if_neg (fun e=>by rcases w with w|w;exact w e.1;exact e.2 w)]
 have V:∀ j,j≠i->j≠p->(j≠m.root\/m.root=0)->j∉j7 c->fJ u j=fJ xs j:=fun j n r w h4=>by rw[W j n r w,o1 j n h4]
 have M:∀ j,j∉m.mem->j≠m.root\/m.root=0:=fun j l=>by
  by_cases h:m.root=0
  . exact .inr h
  . exact .inl (fun e=>l (e▸G.nC h))
 have ah:∀ j,(fJ u j).key=(fJ xs j).key/\(fJ u j).iO=(fJ xs j).iO/\(fJ u j).flip=(fJ xs j).flip:=by
  have a3:∀ j,(fJ y1 j).key=(fJ xs j).key/\(fJ y1 j).iO=(fJ xs j).iO/\(fJ y1 j).flip=(fJ xs j).flip:=by
   intro j
   by_cases n:j=i
   . subst n;rw[a1];exact⟨rfl,rfl,rfl⟩
   . cases hc:c with
     | nil=>rw[e1 hc j n];exact⟨rfl,rfl,rfl⟩
     | cons f c' =>
      obtain⟨C, v, E⟩:=f
      grind [K3,K4,K0]
  intro j
  by_cases n:j=i
  . grind [K3,K4,K0]
  . by_cases r:j=p
    . subst r;rw[X];exact⟨K3 _ _ _,K4 _ _ _,K0 _ _ _⟩
    . by_cases w:j=m.root/\m.root≠0
      . obtain⟨rfl,w⟩:=w;rw[aA w];exact⟨rfl,rfl,rfl⟩
      . rw[W j n r (by by_cases h:m.root=0;exact .inr h;exact .inl (fun e=>w ⟨e,h⟩))];exact a3 j
 have O:KL xs u:=⟨l3,fun j=>(ah j).1,fun j=>(ah j).2.1⟩
 -- the trees before the refreshes
 have aJ:gT u m p:=by
  cases m with
  | nil=>trivial
  | nd ml mi mr =>
   refine G.up O (fun j l hr=>?_) (aA G.1.1) ad
   obtain⟨n,r,w⟩:=B j (.inl l)
   exact V j (fun e=>am (e▸l)) n (.inl hr) w
 have af:∀ j∈s.mem,j∉m.mem:=fun j l hm=>(B j (.inl hm)).2.1 l
 have aT:gT u s p:=hs.to O fun j l=>V j (fun e=>an (e▸l)) (fun e=>H.1 (e▸l)) (M j (af j l)) (fun h9=>aY j l j h9 rfl)
 have aO:gT u o i:=aN.to O fun j l=>V j (fun e=>aE (e▸l)) (B j (.inr l)).1 (M j (fun h=>aL j h l)) (B j (.inr l)).2.2
 have I:∀ j∈j7 c,j≠i/\j≠p/\j∉m.mem:=fun j l=>⟨fun e=>ab (e▸l),fun e=>az (e▸l),fun h=>(B j (.inl h)).2.2 l⟩
 have aC:mU u c i (kf d (a.mem++i :: b.mem) p s) q:=by
  refine aa.kW O fun C v E c' e=>?_
  obtain⟨k1,k2⟩:=c1 C v E c' e
  subst e
  simp only[j7,nH,zz,zn,not_or]at nc I
  refine⟨fun j l=>?_,?_⟩
  . have K : j∈E.mem\/j∈j7 c' := by simpa using l
    have h:=I j (by simp only[zg,zn];exact .inr K)
    rw[W j h.1 h.2.1 (M j h.2.2),k1 j h.1]
    rintro rfl
    rcases K with h' | h'
    . exact nc.1.1 h'
    . exact nc.1.2 h'
  . have h:=I v s_
    rw[W v h.1 h.2.1 (M v h.2.2),k2]
 -- the parent is refreshed
 have aI:(kf d m.mem p s).length<=1000000:=by
  refine mF ?_ aj
  refine mF ?_ (Ku c (kf d (a.mem++i :: b.mem) p s))
  cases d<;>(simp only[cond_true,cond_false,Prod.mk.injEq]at hm;obtain⟨rfl,rfl⟩:=hm)<;>simp[kf]<;>omega
 have aH:(kf d (a.mem++i :: b.mem) p s).length<=1000000:=mF (Ku c _) aj
 have aM:(kf d m.mem p s).Nodup:=by
  cases d
  . simp only[kf,cond_false,zr,zz]
    exact⟨ns,⟨fun h=>(B p (.inl h)).1 rfl,ad⟩,fun x N y A e=>by
     subst e
     rcases zg.1 A with rfl|A
     . exact H.1 N
     . exact af x N A⟩
  . simp only[kf,cond_true,zr,zz]
    exact⟨ad,⟨H.1,ns⟩,fun x N y A e=>by
     subst e
     rcases zg.1 A with rfl|A
     . exact(B _ (.inl N)).1 rfl
     . exact af x A N⟩
 obtain⟨D,hz⟩:=Rp (xs:=u) (d:=d) (i:=p) (t:=m) (s:=s) ⟨U,o_⟩ aJ aT (by rw[jr,X];cases d<;>rfl) (by rw[jr,X,<-po];cases d<;>rfl) aM aI
 rw[show (fJ u p).up=i by rw[X]]at hz
 obtain⟨z,ez⟩:∃ z,z=iJ u p:=⟨_,rfl⟩
 rw[<-ez]at D hz ar
 have lz:z.length=xs.length:=by rw[D.len,l3]
 have zi:fJ z i=rz (!d) p { fJ xs i with up:=g }:=by rw[D.other i J,a2]
 have aQ:gT z o i:=aO.to D.kl fun j l=>D.other j (B j (.inr l)).1
 have aS:(mY d m p s).root=p:=Ru _ _ _ _
 have au:mY (!d) (mY d m p s) i o=ru d a i b p s:=by
  cases d<;>(simp only[cond_true,cond_false,Prod.mk.injEq]at hm;obtain⟨rfl,rfl⟩:=hm)<;>rfl
 have ap:kf (!d) (mY d m p s).mem i o=kf d (a.mem++i :: b.mem) p s:=by rw[<-J3,au,KM]
 have aB:(kf d (a.mem++i :: b.mem) p s).Nodup:=(C2 (c:=c) hn).1
 obtain⟨T,A⟩:=Rp (xs:=z) (d := !d) (i:=i) (t:=mY d m p s) (s:=o) ⟨i0,o_⟩ hz aQ (by rw[jr,zi,aS];cases d<;>rfl) (by rw[jr,zi,<-aP];cases d<;>rfl) (by rw[ap];exact aB) (by rw[ap];exact aH)
 rw[<-ar]at T A
 rw[au,show (fJ z i).up=g by rw[zi,ada]]at A
 have o2:∀ j,j≠i->j≠p->fJ (iM xs i) j=fJ u j:=fun j n r=>by rw[T.other j n,D.other j r]
 have ax : KL u (iM xs i):=D.kl.trans T.kl
 refine⟨(yS _ _ _).2 ⟨by rw[<-S];exact A,?_⟩,O.trans ax, fun j l=>?_,fun j=>?_⟩
 . rw[acE,KM]
   exact aC.to ax fun j l=>o2 j (I j l).1 (I j l).2.1
 . have K : j∉kf d (a.mem++i :: b.mem) p s/\j∉j7 c:=by
    have:=mt (CU (c:=c)).2 l
    simpa[not_or]using this
   have L:j≠i/\j≠p/\j∉m.mem:=by
    have n:=K.1
    have r:¬ (j∈a.mem\/j∈b.mem)/\j≠i/\j≠p:=by
     cases d<;>simp only[kf,cond_true,cond_false,zn,zg,not_or]at n<;>exact⟨by simp[n],by simp[n],by simp[n]⟩
    exact⟨r.2.1,r.2.2,fun h=>r.1 ((ao j).1 (.inl h))⟩
   rw[o2 j L.1 L.2.1,V j L.1 L.2.1 (M j L.2.2) K.2]
 . rw[T.flip,D.flip,(ah j).2.2]
def gp(xs:List Nd):Bool->Tr->List Nat
 | _,.nil=>[]
 | φ,.nd l i r=>bif (xor φ (fJ xs i).flip)then gp xs (xor φ (fJ xs i).flip) r++i :: gp xs (xor φ (fJ xs i).flip) l else gp xs (xor φ (fJ xs i).flip) l++i :: gp xs (xor φ (fJ xs i).flip) r
theorem sE{xs ys:List Nd}:∀ {t:Tr} {φ:Bool},(∀ j∈t.mem,(fJ ys j).flip=(fJ xs j).flip)->gp ys φ t=gp xs φ t
 | .nil,_,_=>rfl
 | .nd l i r,φ,h=>by
  simp only[gp,h i (by simp[Tr.mem])]
  rw[sE (t:=l) fun j a=>h j (by simp[Tr.mem,a]),sE (t:=r) fun j a=>h j (by simp[Tr.mem,a])]
theorem RT{l r:Tr}{φ:Bool}(hi:(fJ ys i).flip = !(fJ xs i).flip)(h:∀ j∈l.mem++r.mem,(fJ ys j).flip=(fJ xs j).flip):gp ys φ (.nd l i r)=gp xs (!φ) (.nd l i r):=by
 grind [fJ,gp,sE]
theorem nE(xs:List Nd):∀ (φ:Bool) (t:Tr),(gp xs φ t).Perm t.mem
 | _,.nil=>.nil
 | φ,.nd l i r=>by
  have a:=nE xs (xor φ (fJ xs i).flip) l
  have b:=nE xs (xor φ (fJ xs i).flip) r
  simp only[gp,Tr.mem]
  generalize xor φ (fJ xs i).flip=ψ at a b ⊢
  cases ψ with
  | false =>
   simp only[cond_false]
   exact(a.append_right _).trans (List.Perm.append_left _ (b.cons i)) |>.trans (.refl _)
  | true =>
   simp only[cond_true]
   exact((b.append_right _).trans (List.Perm.append_left _ (a.cons i))).trans (qM.trans (by simp only[nH];exact sO.symm))
theorem adH{t t':Tr}{g:Nat}(ht:∀ ψ,gp ys ψ t' = gp xs ψ t)(h:∀ j∈g :: s.mem,(fJ ys j).flip=(fJ xs j).flip)(φ:Bool):gp ys φ (mY d t' g s)=gp xs φ (mY d t g s):=by
 grind [gp,sE,mY]
theorem K9{xs ys:List Nd}:∀ {c:Cx} {t t' : Tr},(∀ ψ,gp ys ψ t' = gp xs ψ t)->(∀ j∈j7 c,(fJ ys j).flip=(fJ xs j).flip)->∀ φ,gp ys φ (ki c t')=gp xs φ (ki c t)
 | [],_,_,h,_,φ=>h φ
 | (d,g,s) :: c,t,t', h,hc,φ=>by
  simp only[ki]
  exact K9 (c:=c) (fun ψ=>adH h (fun j a=>hc j (by simp only[j7,zn];exact .inl a)) ψ) (fun j a=>hc j (by simp only[j7,zn];exact .inr a)) φ
theorem adI{b:Tr}(hi:(fJ xs i).flip=false)(hp:(fJ xs p).flip=false)(φ:Bool):gp xs φ (ru d a i b p s)=gp xs φ (mY d (.nd a i b) p s):=by
 grind [ru,mY,gp]
theorem gT.vz(w:ys.length=xs.length):∀ {t:Tr} {p:Nat},gT xs t p->(∀ j∈t.mem,∃ f,fJ ys j={ fJ xs j with flip:=f })->gT ys t p:=by
 have key:∀ {t:Tr} {p:Nat} (L:List Nat),gT xs t p->(∀ j∈t.mem,∃ f,fJ ys j={ fJ xs j with flip:=f })->gT ys t p:=by
  intro t
  induction t with
  | nil=>intro p L _ _;trivial
  | nd l i r q s =>
   intro p L h hs
   obtain⟨⟨d,v⟩,⟨g,k,m⟩,b,n,o⟩:=h
   obtain⟨f,hi⟩:=hs i (by simp[Tr.mem])
   have c:∀ j∈l.mem++i :: r.mem,(fJ ys j).key=(fJ xs j).key/\(fJ ys j).iO=(fJ xs j).iO:=fun j a=>by
    obtain⟨u, e⟩:=hs j a
    rw[e];exact⟨rfl,rfl⟩
   refine⟨⟨d,o_⟩,⟨by rw[hi];exact g,by rw[hi];exact k,by rw[hi];exact m⟩,⟨by rw[hi];exact b.size,?_,?_⟩,q L n fun j a=>hs j (by simp[Tr.mem,a]),s L o fun j a=>hs j (by simp[Tr.mem,a])⟩
   . rw[hi,show oH ys (l.mem++i :: r.mem)=oH xs (l.mem++i :: r.mem) from congrArg List.sum (DU fun j a=>by rw[(c j a).2])]
     exact b.total
   . rw[hi]
     refine⟨b.first.1,fun j a=>?_⟩
     rcases b.first.2 j a with e|e
     . exact .inl e
     . refine .inr ?_
       rw[<-e]
       simp only[lK,(c j a).1,(c _ b.first.1).1]
 intro t p h hs
 exact key [] h hs
theorem Kw{l r:Tr}(h:gT xs (.nd l i r) p)(D:(Tr.nd l i r).mem.Nodup) :
 ∃ l' u, ((l' = l/\u = r)\/(l' = r/\u = l))/\gT (kj xs i) (.nd l' i u) p/\(fJ (kj xs i) i).flip=false/\KL xs (kj xs i)/\(∀ j,j∉(Tr.nd l i r).mem->fJ (kj xs i) j=fJ xs j)/\∀ φ,gp (kj xs i) φ (.nd l' i u)=gp xs φ (.nd l i r):=by
 cases hf:(fJ xs i).flip with
 | false =>
  have e:kj xs i=xs:=by unfold kj;rw[hf];rfl
  rw[e]
  exact⟨l,r,.inl ⟨rfl,rfl⟩,h,hf,KL.refl _,fun _ _=>rfl,fun _=>rfl⟩
 | true =>
  obtain⟨⟨i0,il⟩,⟨k0,k1,up⟩,v,m,n⟩:=h
  simp only[Tr.mem]at D
  rw[zr,zz]at D
  obtain⟨n1,⟨F,S⟩,J⟩:=D
  have G:i∉l.mem:=fun h=>J i h i s_ rfl
  have C:∀ j∈l.mem,j∉r.mem:=fun j q L=>J j q j (by simp[L]) rfl
  have V:l.root≠i:=fun e=>G (e▸m.nC o_)
  have Y:r.root≠i:=fun e=>F (e▸n.nC o_)
  have W:=m.Bn (show 0<xs.length by omega)
  have Z:=n.Bn (show 0<xs.length by omega)
  have X:l.root≠0->l.root≠r.root:=fun d e=>C _ (m.nC d) (e▸n.nC (e▸d))
  obtain⟨ys,H⟩:∃ ys,ys=kj xs i:=⟨_,rfl⟩
  have B:ys.length=xs.length:=by
   rw[H];unfold kj;rw[if_pos hf];simp only;split<;>split<;>simp[gB]
  have N:fJ ys i={ fJ xs i with flip:=false,k0:=r.root,k1:=l.root }/\(∀ j,j≠i->fJ ys j=if (j=l.root\/j=r.root)/\j≠0 then { fJ xs j with flip := !(fJ xs j).flip } else fJ xs j):=by
   obtain⟨y0,U⟩:∃ y,y=fO xs i (fun x=>{ x with flip:=false }):=⟨_,rfl⟩
   grind [fO,fJ,gB,jS,kD,kj,jG]
  obtain⟨g,o⟩:=N
  have s:∀ j,j≠i->∃ f,fJ ys j={ fJ xs j with flip:=f }:=fun j c=>by
   rw[o j c];split
   . exact⟨_,rfl⟩
   . exact⟨(fJ xs j).flip,rfl⟩
  have kl:KL xs ys:=by
   refine⟨B,fun j=>?_,fun j=>?_⟩<;>(by_cases c:j=i)
   . subst c;rw[g]
   . obtain⟨f,e⟩:=s j c;rw[e]
   . subst c;rw[g]
   . obtain⟨f,e⟩:=s j c;rw[e]
  have Q : gT ys l i:=m.vz B fun j c=>s j (fun e=>G (e▸c))
  have E : gT ys r i:=n.vz B fun j c=>s j (fun e=>F (e▸c))
  rw[<-H]
  have K:∀ (t:Tr),(t=l\/t=r)->gT xs t i->t.mem.Nodup->(∀ j∈t.mem,j≠i)->(∀ j∈t.mem,j≠t.root->j≠l.root/\j≠r.root)->∀ φ,gp ys φ t=gp xs (!φ) t:=by
   intro t ht M z w I φ
   cases t with
   | nil=>rfl
   | nd a k b =>
    simp only[Tr.mem]at z w I
    rw[zr,zz]at z
    obtain⟨m1,⟨m2,m3⟩,R⟩:=z
    refine RT ?_ fun j c=>?_
    . rw[o k (w k s_),if_pos ⟨by rcases ht with e|e<;>rw[<-e]<;>simp[Tr.root],M.1.1⟩]
    . have A : j∈a.mem\/j∈b.mem:=by simpa using c
      have P:j≠k:=by rintro rfl;rcases A with h|h;exact R j h j s_ rfl;exact m2 h
      have q:=I j (by simp only[zn,zg];rcases A with h|h<;>simp[h]) P
      rw[o j (w j (by simp only[zn,zg];rcases A with h|h<;>simp[h])),if_neg (by rintro⟨e|e,_⟩;exact q.1 e;exact q.2 e)]
  have sl:=K l (.inl rfl) m n1 (fun j c e=>G (e▸c)) (fun j c O=>⟨O,fun e=>by
   by_cases d:r.root=0
   . exact(m.pK j c).1 (e.trans d)
   . exact C j c (e▸n.nC d)⟩)
  have T:=K r (.inr rfl) n S (fun j c e=>F (e▸c)) (fun j c E => ⟨fun e=>by
   by_cases d:l.root=0
   . exact(n.pK j c).1 (e.trans d)
   . exact C j (e▸m.nC d) c,E⟩)
  refine⟨r,l,.inr ⟨rfl,rfl⟩,⟨⟨i0,o_⟩,⟨by rw[g],by rw[g],by rw[g];exact up⟩,?_,E, Q⟩,by rw[g],kl,fun j c=>?_,fun φ=>?_⟩
  . have v' : pX ys i (l.mem++i :: r.mem):=v.to kl (by rw[g]) (by rw[g]) (by rw[g])
    exact v'.perm (qM.trans (by simp only[nH];exact sO.symm))
  . simp only[Tr.mem,zn,zg,not_or]at c
    rw[o j c.2.1,if_neg]
    rintro⟨e|e,d⟩
    . exact c.1 (e▸m.nC (e▸d))
    . exact c.2.2 (e▸n.nC (e▸d))
  . simp only[gp,hf,g,sl,T]
    cases φ<;>simp
theorem mU.perm{xs:List Nd}:∀ {c:Cx} {r q:Nat} {L M:List Nat},mU xs c r L q->L.Perm M->mU xs c r M q
 | [],_,_,_,_,_,_=>trivial
 | (d,g,s) :: c,r,q,L,M,h,hp=>by
  obtain⟨b,e,f,i,j⟩:=h
  have a:(kf d L g s).Perm (kf d M g s):=by
   cases d
   . exact List.Perm.append_left _ (hp.cons g)
   . exact hp.append_right _
  exact⟨b,e,f.perm a,i,mU.perm j a⟩
theorem Q1:∀ {c:Cx} {L M:List Nat},L.Perm M->(lW c L).Perm (lW c M)
 | [],_,_,h=>h
 | (d,g,s) :: c,L,M,h=>by
  refine Q1 (c:=c) ?_
  cases d
  . exact List.Perm.append_left _ (h.cons g)
  . exact h.append_right _
theorem J4:∀ {c:Cx} {f:Bool×Nat×Tr},f∈c->f.2.1∈j7 c
 | [],_,h=>by simp at h
 | (d,g,s) :: c,f,h=>by
  simp only[j7,zn,zg]
  rcases zg.1 h with rfl|h
  . exact .inl (.inl rfl)
  . exact .inr (J4 h)
theorem Kv:∀ (c c' : Cx) (t:Tr),ki (c++c') t=ki c' (ki c t)
 | [],_,_=>rfl
 | (d,g,s) :: c,c', t=>by simp only[nH,ki];exact Kv c c' _
theorem FK{i:Nat}:∀ {t:Tr},i∈t.mem->∃ c a b,t=ki c (.nd a i b)
 | .nil,h=>by simp[Tr.mem]at h
 | .nd l j r,h=>by
  simp only[Tr.mem,zn,zg]at h
  rcases h with h|rfl|h
  . obtain⟨c,a,b,e⟩:=FK h
    exact⟨c++[(true,j,r)],a,b,by rw[Kv,<-e];rfl⟩
  . exact⟨[],l,r,rfl⟩
  . obtain⟨c,a,b,e⟩:=FK h
    exact⟨c++[(false,j,l)],a,b,by rw[Kv,<-e];rfl⟩
def js(c:Cx)(i:Nat):List Nat:=i :: c.map (fun f=>f.2.1)
def Way(i:Nat):Tr->List Nat->Prop
 | .nil,_=>False
 | .nd l j r,w=>(j=i/\w=[i])\/∃ w', w=j :: w' /\ (Way i l w' \/ Way i r w')
theorem Tv{i:Nat}:∀ {c:Cx} {t:Tr} {w:List Nat},Way i t w->Way i (ki c t) ((c.map (fun f=>f.2.1)).reverse++w)
 | [],_,_,h=>h
 | (d,g,s) :: c,t,w,h=>by
  have:Way i (mY d t g s) (g :: w):=by cases d<;>simp only[mY,cond_true,cond_false,Way];exact .inr ⟨w,rfl,.inr h⟩;exact .inr ⟨w,rfl,.inl h⟩
  have:=Tv (c:=c) this
  simpa[ki]using this
theorem afx(c:Cx)(a:Tr)(i:Nat)(b:Tr):Way i (ki c (.nd a i b)) (js c i).reverse:=by
 have:=Tv (c:=c) (t:=.nd a i b) (w:=[i]) (.inl ⟨rfl,rfl⟩)
 simpa[js]using this
structure At (xs:List Nd) (c:Cx) (j:Nat) (L:List Nat) (q:Nat):Prop where
 rep:mU xs c j L q
 up:(fJ xs j).up=wS c q
 mem:j∈L
 nodup:(lW c L).Nodup
 ne:j≠0
 lt:j<xs.length
def Out(xs:List Nd)(q:Nat)(L:List Nat):Prop:=q=0\/jr xs true q∉L/\jr xs false q∉L/\q∉L
theorem At.start{c:Cx}{b:Tr}(h:gT xs (ki c (.nd a i b)) q)(f:(ki c (.nd a i b)).mem.Nodup):At xs c i (Tr.nd a i b).mem q:=by
 obtain⟨d,e⟩:=(yS _ _ _).1 h
 exact⟨e,d.2.1.2.2,by simp[Tr.mem],by rw[<-qj];exact f,d.1.1,d.1.2⟩
theorem At.step{g:Nat}{s:Tr}{c:Cx}{j q:Nat}{L:List Nat}(h:At xs ((d,g,s) :: c) j L q):jI xs j=(sd d,true)/\(fJ xs j).up=g/\At xs c g (kf d L g s) q:=by
 obtain⟨⟨a,k⟩,⟨i,go,m⟩,t,l,f⟩:=h.rep
 have b:=h.nodup
 obtain⟨n1,u,r⟩:=C2 b
 have o:s.root≠j:=fun e=>by
  have n:s.root≠0:=by rw[e];exact h.ne
  exact r j h.mem (by simp only[j7,zn,zg];exact .inl (.inr (e▸l.nC n)))
 refine⟨K7 (p:=g) h.up a i (by rw[go];exact o),h.up,f,m,by cases d<;>simp[kf],b,a,k⟩
theorem At.stop{j:Nat}(h:At xs [] j L q)(c:Out xs q L):jI xs j=(0,false) :=
 RN h.up (by
  rcases c with e|⟨a,b,_⟩
  . exact .inl e
  . exact .inr ⟨fun e=>a (e▸h.mem),fun e=>b (e▸h.mem)⟩)
structure jK (xs0 xs:List Nd) (T0:Tr) (O:Cx) (U:Tr) (q:Nat):Prop where
 rep:gT xs (ki O U) q
 perm:(ki O U).mem.Perm T0.mem
 ord:∀ φ,gp xs φ (ki O U)=gp xs0 φ T0
 kl:KL xs0 xs
 other:∀ j,j∉T0.mem->fJ xs j=fJ xs0 j
 flip:∀ f∈O,(fJ xs f.2.1).flip=false
theorem jK.start(h:gT xs T q):jK xs xs T [] T q:=⟨h,.refl _,fun _=>rfl,KL.refl _,fun _ _=>rfl,s_⟩
theorem jK.nodup(h:jK ys xs a O U q)(b:a.mem.Nodup):(lW O U.mem).Nodup:=by rw[<-qj];exact(h.perm.nodup_iff).2 b
theorem jK.push{c l r:Tr}{j:Nat}(h:jK ys xs c O (.nd l j r) q)(u:c.mem.Nodup) :
 ∃ l' a, ((l' = l/\a = r)\/(l' = r/\a = l))/\jK ys (kj xs j) c O (.nd l' j a) q/\(fJ (kj xs j) j).flip=false:=by
 have v:=h.nodup u
 obtain⟨w,m2,x⟩:=C2 v
 obtain⟨s,o⟩:=(yS _ _ _).1 h.rep
 obtain⟨l', a, g,p,t,e,m,hs⟩:=Kw s w
 have i:(Tr.nd l' j a).mem.Perm (Tr.nd l j r).mem:=by
  rcases g with ⟨rfl,rfl⟩|⟨rfl,rfl⟩
  . exact .refl _
  . simp only[Tr.mem]
    grind
 have n:∀ k∈j7 O,fJ (kj xs j) k=fJ xs k:=fun k b => m k fun hm=>x k hm b
 refine⟨l', a, g,⟨(yS _ _ _).2 ⟨p,?_⟩,?_,fun φ=>?_,h.kl.trans e,fun k b => ?_,fun f d => ?_⟩,t⟩
 . exact(o.to e n).perm i.symm
 . refine List.Perm.trans ?_ h.perm
   rw[qj,qj]
   exact Q1 i
 . rw[<-h.ord φ]
   grind [K9]
 . rw[m k ?_,h.other k b]
   intro hm
   exact b (h.perm.mem_iff.1 (by rw[qj];exact CU.2 (.inl hm)))
 . rw[n f.2.1 (J4 d)]
   exact h.flip f d
theorem jK.rotate{g b:Tr}{c:Cx}(h:jK ys xs g ((d,p,s) :: c) (.nd a i b) q)(x:g.mem.Nodup)(v:xs.length<=1000001)(C:g.mem.length<=1000000)(B:Out ys q g.mem)(hi:(fJ xs i).flip=false):jK ys (iM xs i) g c (ru d a i b p s) q/\∀ j,(fJ (iM xs i) j).flip=(fJ xs j).flip:=by
 have y:=h.nodup x
 have A:p∈g.mem:=h.perm.mem_iff.1 (by rw[qj];exact CU.2 (.inr (by simp[j7])))
 have D:(lW ((d,p,s) :: c) (a.mem++i :: b.mem)).length=g.mem.length:=by
  have:=h.perm.length_eq
  rw[qj]at this
  exact this
 obtain⟨t,l⟩:=yV h.rep y v o_ (fun _=>by
  rcases B with e|⟨n,o,r⟩
  . exact .inl e
  . have e:fJ xs q=fJ ys q:=h.other q r
    refine .inr ⟨fun e' => n ?_,fun e' => o ?_⟩
    . grind [jr]
    . rw[jr,e]at e'; rw[jr,e'];exact A)
 have z:=h.flip (d,p,s) s_
 have w:(ki c (ru d a i b p s)).mem=(ki ((d,p,s) :: c) (.nd a i b)).mem:=by
  rw[qj,qj,KM];rfl
 refine⟨⟨t,by rw[w];exact h.perm,fun φ=>?_,h.kl.trans l.kl,fun k m=>?_,fun f u=>?_⟩,l.flip⟩
 . rw[<-h.ord φ]
   have e1:gp (iM xs i) φ (ki c (ru d a i b p s))=gp xs φ (ki c (ru d a i b p s)):=sE fun j _=>l.flip j
   rw[e1]
   exact K9 (c:=c) (fun ψ=>adI hi z ψ) (fun _ _=>rfl) φ
 . rw[l.other k ?_,h.other k m]
   intro hm
   refine m (h.perm.mem_iff.1 ?_)
   rw[qj]
   exact hm
 . rw[l.flip]
   exact h.flip f (by simp[u])
theorem af7(d:Bool)(a:Tr)(i:Nat)(b:Tr)(p:Nat)(s:Tr)(g:Nat)(s':Tr) :
 ru d (bif d then .nd a i b else s) p (bif d then s else .nd a i b) g s' = mY d (.nd a i b) p (bif d then .nd s g s' else .nd s' g s):=by
 cases d<;>rfl
theorem aaM(d:Bool)(t:Tr)(p:Nat)(s:Tr):mY d t p s = .nd (bif d then t else s) p (bif d then s else t):=by cases d<;>rfl
theorem Gf(d:Bool)(a:Tr)(i:Nat)(b:Tr)(p:Nat)(s:Tr):ru d a i b p s = .nd (bif d then a else .nd s p a) i (bif d then .nd b p s else b):=by cases d<;>rfl
theorem jK.af6{j b s':Tr}{c:Cx}{g:Nat}(h:jK ys xs j ((d,p,s) :: (d,g,s') :: c) (.nd a i b) q)(o:j.mem.Nodup)(n:xs.length<=1000001)(m:j.mem.length<=1000000)(r:Out ys q j.mem)(hi:(fJ xs i).flip=false):∃ a' t, jK ys (iM (iM xs p) i) j c (.nd a' i t) q/\(fJ (iM (iM xs p) i) i).flip=false:=by
 have u:jK ys xs j ((d,g,s') :: c) (.nd (bif d then .nd a i b else s) p (bif d then s else .nd a i b)) q:=by
  rw[<-aaM]
  exact⟨h.rep,h.perm,h.ord,h.kl,h.other,fun f k=>h.flip f (zw _ k)⟩
 obtain⟨e,l⟩:=u.rotate o n m r (h.flip (d,p,s) s_)
 rw[af7]at e
 have v:jK ys (iM xs p) j ((d,p,(bif d then .nd s g s' else .nd s' g s)) :: c) (.nd a i b) q :=
  ⟨e.rep,e.perm,e.ord,e.kl,e.other,fun f k=>by
   rcases zg.1 k with rfl|k
   . rw[l];exact h.flip (d,p,s) s_
   . exact e.flip f k⟩
 obtain⟨x,w⟩:=v.rotate o (by rw[e.kl.len,<-h.kl.len];exact n) m r (by rw[l];exact hi)
 grind [Gf]
theorem jK.af5{e b s':Tr}{o:Bool}{c:Cx}{g:Nat}(h:jK ys xs e ((d,p,s) :: (o, g,s') :: c) (.nd a i b) q)(l:e.mem.Nodup)(k:xs.length<=1000001)(j:e.mem.length<=1000000)(m:Out ys q e.mem)(hi:(fJ xs i).flip=false):∃ a' n, jK ys (iM (iM xs i) i) e c (.nd a' i n) q/\(fJ (iM (iM xs i) i) i).flip=false:=by
 obtain⟨f,r⟩:=h.rotate l k j m hi
 rw[Gf]at f
 obtain⟨u,t⟩:=f.rotate l (by rw[f.kl.len,<-h.kl.len];exact k) j m (by rw[r];exact hi)
 grind [Gf]
theorem jK.zig{c b:Tr}(h:jK ys xs c [(d,p,s)] (.nd a i b) q)(j:c.mem.Nodup)(g:xs.length<=1000001)(f:c.mem.length<=1000000)(k:Out ys q c.mem)(hi:(fJ xs i).flip=false):∃ a' e, jK ys (iM xs i) c [] (.nd a' i e) q/\(fJ (iM xs i) i).flip=false:=by
 obtain⟨m,l⟩:=h.rotate j g f k hi
 grind [Gf]
def mZ(s:List Nat)(q v u:Nat):Prop:=∃ s1 s2,s=s1++v :: s2/\u=s1.getLast?.getD q
theorem C8{u:Nat}:¬ mZ [] q v u:=by
 rintro⟨s1,s2,h,_⟩;simp at h
theorem qG{x:Nat}{s:List Nat}{u:Nat}:mZ (x :: s) q v u↔(v=x/\u=q)\/mZ s x v u:=by
 constructor
 . rintro⟨s1,s2,h,rfl⟩
   cases s1 with
   | nil=>simp at h;exact .inl ⟨h.1.symm,rfl⟩
   | cons y s1 =>
    simp only[nH,List.cons.injEq]at h
    obtain⟨rfl,rfl⟩:=h
    refine .inr ⟨s1,s2,rfl,?_⟩
    rw[DW];simp
 . rintro(⟨rfl,rfl⟩|⟨s1,s2,rfl,rfl⟩)
   . exact⟨[],s,rfl,rfl⟩
   . refine⟨x :: s1,s2,rfl,?_⟩
     rw[DW];simp
theorem QE{s t:List Nat}{u:Nat}:mZ (s++t) q v u↔mZ s q v u\/mZ t (s.getLast?.getD q) v u:=by
 induction s generalizing q with
 | nil=>simp[C8]
 | cons x s a =>
  rw[nH,qG,a,qG,DW,or_assoc]
  simp
theorem uo{s:List Nat}{u:Nat}(h:mZ s q v u):v∈s:=by
 obtain⟨s1,s2,rfl,_⟩:=h;simp
theorem aa6{s:List Nat}{u d:Nat}(b:s.Nodup)(h:mZ s q v u)(e:mZ s q v d):u=d := by
 induction s generalizing q with
 | nil=>exact absurd h C8
 | cons x s g =>
  rw[zz]at b
  rcases qG.1 h with ⟨rfl,rfl⟩|c<;>rcases qG.1 e with ⟨a,f⟩|a
  . exact f.symm
  . exact absurd (uo a) b.1
  . subst a;exact absurd (uo c) b.1
  . exact g b.2 c a
theorem aa7{s:List Nat}{u:Nat}(h:mZ s q v u):u∈s\/u=q:=by
 obtain⟨s1,s2,rfl,rfl⟩:=h
 cases hl:s1.getLast? with
 | none=>exact .inr rfl
 | some x=>exact .inl (by simp only[D1,zn];exact .inl (BK hl))
abbrev rM:=List (List Nat×Nat)
def gK(S:rM)(v u:Nat):Prop:=∃ e∈S,mZ e.1 e.2 v u
def wO(S:rM):List Nat:=S.flatMap (·.1)
variable{S:rM}
theorem gK.perm{c:rM}(h:S.Perm c){v u:Nat}:gK S v u↔gK c v u :=
 ⟨fun⟨e,b,a⟩=>⟨e,h.mem_iff.1 b,a⟩,fun⟨e,b,a⟩=>⟨e,h.mem_iff.2 b,a⟩⟩
theorem gK.cons{e:List Nat×Nat}{u:Nat}:gK (e :: S) v u↔mZ e.1 e.2 v u\/gK S v u:=by
 simp only[gK,zg,exists_eq_or_imp]
theorem nV(d:(wO S).Nodup){u:Nat}(h:gK S v u)(j:gK S v i):u=i := by
 induction S with
 | nil=>obtain⟨e,k,_⟩:=h;simp at k
 | cons e S m =>
  simp only[wO,kR,zr]at d
  obtain⟨n1,n,g⟩:=d
  have c:∀ {w},gK S v w->v∈S.flatMap (·.1):=fun⟨f,l,hp⟩=>pS.2 ⟨f,l,uo hp⟩
  rcases gK.cons.1 h with a|a<;>rcases gK.cons.1 j with b|b
  . exact aa6 n1 a b
  . exact absurd rfl (g v (uo a) v (c b))
  . exact absurd rfl (g v (uo b) v (c a))
  . exact m n a b
inductive PR (P:Nat->Nat->Prop):Nat->Nat->Prop where
 | top {v:Nat} (h:P v 0):PR P v v
 | step {v u r:Nat} (h:P v u) (h0:u≠0) (k:PR P u r):PR P v r
theorem PR.mono{Q:Nat->Nat->Prop}(h:∀ v u,P v u->Q v u){r:Nat}(k:PR P v r):PR Q v r:=by
 induction k with
 | top hp=>exact .top (h _ _ hp)
 | step hp a _ b=>exact .step (h _ _ hp) a b
theorem PR.unique(c:∀ v u f, P v u->P v f -> u=f){r e:Nat}(k:PR P v r)(k':PR P v e):r=e := by
 induction k with
 | top hp =>
  cases k' with
  | top _=>rfl
  | step a b _=>exact absurd (c _ _ _ a hp) b
 | step hp b _ g =>
  cases k' with
  | top a => exact absurd (c _ _ _ hp a) b
  | step a _ d=>rw[c _ _ _ a hp]at d;exact g d
theorem PR.root{r:Nat}(k:PR P v r):P r 0:=by
 induction k with
 | top h=>exact h
 | step _ _ _ a=>exact a
theorem PR.Ft{s:List Nat}:∀ {q v h:Nat},s.head? = some h->(∀ x∈s,x≠0)->(∀ v u,mZ s q v u->P v u)->v∈s->(q=0->PR P v h)/\(∀ r,q≠0->PR P q r->PR P v r):=by
 induction s with
 | nil=>intro q v h a;simp at a
 | cons x s i =>
  intro q v h a c f hv
  simp only[List.head?_cons,Option.some.injEq]at a
  subst a
  have b:P x q:=f _ _ (qG.2 (.inl ⟨rfl,rfl⟩))
  rcases zg.1 hv with rfl|hv
  . exact⟨fun e=>.top (e▸b),fun r d k=>.step b d k⟩
  . cases s with
    | nil=>simp at hv
    | cons y s =>
     have:=(i (q:=x) (v:=v) (h:=y) rfl (fun z g=>c z (zw _ g)) (fun v u hp=>f _ _ (qG.2 (.inr hp))) hv).2
     exact⟨fun e=>this x (c x s_) (.top (e▸b)),fun r d k=>this r (c x s_) (.step b d k)⟩
abbrev FT:=List (Tr×Nat)
def jT(F:FT):List Nat:=F.flatMap fun e=>e.1.mem
def gw(xs:List Nd)(F:FT):rM:=F.map fun e=>(gp xs false e.1,e.2)
structure Fo (xs:List Nd) (F:FT):Prop where
 rep:∀ e∈F,gT xs e.1 e.2
 ne:∀ e∈F,e.1.root≠0
 nodup:(jT F).Nodup
 all:∀ j,j≠0->j<xs.length->j∈jT F
 par:∀ e∈F,e.2<xs.length
 tG:∃ ρ:Nat->Nat,(∀ e∈F,∀ i∈e.1.mem,∀ j∈e.1.mem,ρ i=ρ j)/\∀ e∈F,e.2≠0->∀ i∈e.1.mem,ρ i<ρ e.2
 zero:(fJ xs 0).k0=0/\(fJ xs 0).k1=0/\(fJ xs 0).total=0
 pos:0<xs.length
 len:xs.length<=1000001
theorem QJ{α β:Type}{l l':List α}(h:l.Perm l')(f:α->List β):(l.flatMap f).Perm (l'.flatMap f):=by
 induction h with
 | nil=>exact .nil
 | cons x _ a=>simp only[kR];exact a.append_left _
 | swap x y l =>
  simp only[kR,<-z7]
  exact qM.append_right _
 | trans _ _ b c=>exact b.trans c
variable{R F:FT}
theorem Fo.perm{b:FT}(h:Fo xs F)(hp:F.Perm b):Fo xs b := by
 have c:(jT F).Perm (jT b):=QJ hp _
 obtain⟨ρ,f,g⟩:=h.tG
 exact⟨fun e a=>h.rep e (hp.mem_iff.2 a),fun e a=>h.ne e (hp.mem_iff.2 a),c.nodup_iff.1 h.nodup,fun j d i=>c.mem_iff.1 (h.all j d i),fun e a=>h.par e (hp.mem_iff.2 a),
  ⟨ρ,fun e a=>f e (hp.mem_iff.2 a),fun e a=>g e (hp.mem_iff.2 a)⟩,h.zero,h.pos,h.len⟩
theorem oZ{e:Tr×Nat}{j:Nat}(a:e∈F)(b:j∈e.1.mem):j∈jT F:=pS.2 ⟨e,a,b⟩
theorem Fo.split(h:Fo xs ((T,q) :: R)):T.mem.Nodup/\(jT R).Nodup/\∀ j∈T.mem,j∉jT R:=by
 have a:=h.nodup
 grind [jT]
theorem nodup_lt_length:∀ (n:Nat) (L:List Nat),L.Nodup->(∀ j∈L,j<n)->L.length<=n
 | 0,L,_,h=>by
  cases L with
  | nil=>simp
  | cons x L=>exact absurd (h x s_) o_
 | n+1,L,hn,h=>by
  have f:=nodup_lt_length n (L.erase n) (hn.erase n) (fun j b=>by
   have c:=h j (List.mem_of_mem_erase b)
   have d:j≠n:=fun e=>by subst e;exact(List.Nodup.not_mem_erase hn) b
   omega)
  have c:=List.length_erase_le (a:=n) (l:=L)
  have d:L.length<=(L.erase n).length+1:=by
   rw[List.length_erase];split<;>omega
  omega
theorem Fo.count(h:Fo xs ((T,q) :: R)):T.mem.length<=1000000:=by
 have c:=nodup_lt_length xs.length (0 :: T.mem) (by
  rw[zz]
  exact⟨fun b=>((h.rep (T,q) s_).pK 0 b).1 rfl,h.split.1⟩) (fun j a=>by
  rcases zg.1 a with rfl|a
  . exact h.pos
  . exact((h.rep (T,q) s_).pK j a).2)
 have:=h.len
 simp only[zh]at c
 omega
theorem gT.JI{xs:List Nd}{d:Bool}:∀ {t:Tr} {p j:Nat},gT xs t p->j∈t.mem->jr xs d j=0\/jr xs d j∈t.mem
 | .nil,_,_,_,a=>by simp[Tr.mem]at a
 | .nd l i r,p,j,h,a=>by
  obtain⟨_,⟨f,g,_⟩,_,b,c⟩:=h
  simp only[Tr.mem,zn,zg]at a ⊢
  rcases a with a|rfl|a
  . rcases gT.JI b a with e|e
    . exact .inl e
    . exact .inr (.inl e)
  . cases d
    . simp only[jr,cond_false,g]
      by_cases e:r.root=0
      . exact .inl e
      . exact .inr (.inr (.inr (c.nC e)))
    . simp only[jr,cond_true,f]
      by_cases e:l.root=0
      . exact .inl e
      . exact .inr (.inl (b.nC e))
  . rcases gT.JI c a with e|e
    . exact .inl e
    . exact .inr (.inr (.inr e))
theorem Fo.out(h:Fo xs ((T,q) :: R)):Out xs q T.mem:=by
 by_cases hq:q=0
 . exact .inl hq
 . obtain⟨ρ,l,j⟩:=h.tG
   have g:q∉T.mem:=fun hm=>by
    have:=j (T,q) s_ hq q hm
    simp at this
   have b:=h.all q hq (h.par (T,q) s_)
   simp only[jT,kR,zn]at b
   rcases b with hm|hm
   . exact absurd hm g
   . obtain⟨e,c,hm⟩:=pS.1 hm
     have k:0∉T.mem:=fun i=>((h.rep (T,q) s_).pK 0 i).1 rfl
     have key:∀ d,jr xs d q∉T.mem:=fun d f=>by
      rcases gT.JI (d:=d) (h.rep e (by simp[c])) hm with a|a
      . exact k (a▸f)
      . exact h.split.2.2 _ f (oZ c a)
     exact .inr ⟨key true,key false,g⟩
theorem gT.sF(b:ys.length=xs.length){t:Tr}(h:gT xs t p)(hs:∀ j∈t.mem,fJ ys j=fJ xs j):gT ys t p :=
 h.vz b fun j a=>⟨(fJ xs j).flip,by rw[hs j a]⟩
theorem Gv{t:Tr}{φ:Bool}(hs:∀ j∈t.mem,fJ ys j=fJ xs j):gp ys φ t=gp xs φ t:=sE fun j a=>by rw[hs j a]
theorem KZ(hs:∀ j∈jT F,fJ ys j=fJ xs j):gw ys F=gw xs F:=by
 unfold gw
 refine DU fun e a=>?_
 rw[Gv fun j b=>hs j (oZ a b)]
theorem Fo.RQ(h:Fo xs ((T,q) :: R))(m:jK xs ys T [] U q):Fo ys ((U,q) :: R)/\gw ys ((U,q) :: R)=gw xs ((T,q) :: R)/\(∀ e∈R,∀ j∈e.1.mem,fJ ys j=fJ xs j):=by
 obtain⟨n1,v,u⟩:=h.split
 have d:=m.kl.len
 have hp:U.mem.Perm T.mem:=m.perm
 have f:∀ j∈jT R,fJ ys j=fJ xs j:=fun j b=>m.other j fun ht=>u j ht b
 have s:0∉T.mem:=fun c=>((h.rep (T,q) s_).pK 0 c).1 rfl
 have p:U.root≠0:=by
  intro e
  have g:=gT.KK (t:=U) m.rep e
  rw[g]at hp
  have k:=h.ne (T,q) s_
  exact k (by
   cases T with
   | nil=>rfl
   | nd l i r=>have:=hp.length_eq;simp[Tr.mem]at this)
 refine⟨⟨fun e a=>?_,fun e a=>?_,?_,fun j c b=>?_,fun e a=>?_,?_,?_,by rw[d];exact h.pos,by rw[d];exact h.len⟩,?_,fun e a j b=>f j (oZ a b)⟩
 . rcases zg.1 a with rfl|a
   . exact m.rep
   . exact(h.rep e (by simp[a])).sF d fun j b=>f j (oZ a b)
 . rcases zg.1 a with rfl|a
   . exact p
   . exact h.ne e (by simp[a])
 . grind [jT]
 . have:=h.all j c (by rw[d]at b;exact b)
   grind [jT]
 . rw[d]
   rcases zg.1 a with rfl|a
   . exact h.par (T,q) s_
   . exact h.par e (by simp[a])
 . obtain⟨ρ,n,o⟩:=h.tG
   refine⟨ρ,fun e a=>?_,fun e a=>?_⟩
   . rcases zg.1 a with rfl|a
     . exact fun i hi j b=>n (T,q) s_ i (hp.mem_iff.1 hi) j (hp.mem_iff.1 b)
     . exact n e (by simp[a])
   . rcases zg.1 a with rfl|a
     . exact fun c i hi=>o (T,q) s_ c i (hp.mem_iff.1 hi)
     . exact o e (by simp[a])
 . rw[m.other 0 s];exact h.zero
 . have g:gw ys R=gw xs R:=KZ f
   have k:gp ys false U=gp xs false T:=m.ord false
   grind [gw]
def lS(xs:List Nd)(j below:Nat):List Nd :=
 let a:=fO xs j (fun x=>{ x with iO:=IntKind.i64.wrap (x.iO+IntKind.i64.wrap ((fJ xs x.k1).total-(fJ xs below).total)) })
 let b:=fO a j (fun x=>{ x with k1:=below })
 iJ b j
def opt(e:Tr×Nat)(R:FT):FT:=if e.1.root=0 then R else e :: R
theorem qi{e f:Tr×Nat}:f∈opt e R↔(e.1.root≠0/\f=e)\/f∈R:=by
 grind [opt]
theorem gT.Bd{t:Tr}(h:gT xs t p)(e:t.root=0):t = .nil:=by
 cases t with
 | nil=>rfl
 | nd l i r=>exact absurd e h.1.1
theorem Kj{e:Tr×Nat}(h:gT xs e.1 p):jT (opt e R)=e.1.mem++jT R:=by
 unfold opt
 split
 . rename_i a;rw[h.Bd a];rfl
 . rfl
theorem QG{e:Tr×Nat}{u:Nat}(h:gT xs e.1 p):gK (gw ys (opt e R)) v u↔mZ (gp ys false e.1) e.2 v u\/gK (gw ys R) v u:=by
 unfold opt
 split
 . rename_i a
   rw[h.Bd a]
   simp[gp,C8]
 . simp only[gw,l9,gK.cons]
theorem Wc{F R':FT}{b B:Tr}{j:Nat}(h:Fo xs ((.nd a j b,q) :: R))(Q:(fJ xs j).flip=false)(O:R.Perm (opt (B,j) R'))(D:gT xs B j) :
 Fo (lS xs j B.root) ((.nd a j B,q) :: opt (b,j) R')/\(∀ v u,gK (gw (lS xs j B.root) ((.nd a j B,q) :: opt (b,j) R')) v u↔gK (gw xs ((.nd a j b,q) :: R)) v u) /\
  gp (lS xs j B.root) false (.nd a j B)=gp xs false a++j :: gp xs false B/\(∀ k,k≠j->fJ (lS xs j B.root) k=fJ xs k)/\(fJ (lS xs j B.root) j).flip=false/\(∀ k,(fJ (lS xs j B.root) k).key=(fJ xs k).key)/\(lS xs j B.root).length=xs.length:=by
 have hT:=h.rep (.nd a j b,q) s_
 obtain⟨⟨H,jl⟩,⟨k0,k1,up⟩,v,ha,hb⟩:=hT
 obtain⟨n1,n2,n3⟩:=h.split
 simp only[Tr.mem]at n1 n3
 have S:(jT R).Perm (B.mem++jT R'):=by rw[<-Kj (e:=(B,j)) D];exact QJ O _
 have ad := S.nodup_iff.1 n2
 rw[zr]at ad
 obtain⟨nB,av, X⟩:=ad
 rw[zr,zz]at n1
 obtain⟨na,⟨aa,nb⟩,ae⟩:=n1
 have af:j∉a.mem:=fun h=>ae j h j s_ rfl
 have p:∀ k,k∈a.mem\/k=j\/k∈b.mem->k∉B.mem/\k∉jT R' := fun k c=>by
  have:=n3 k (by simpa using c)
  rw[S.mem_iff,zn,not_or]at this
  exact this
 have Y:=(p j (.inr (.inl rfl))).1
 have Z:=(p j (.inr (.inl rfl))).2
 obtain⟨s,L⟩:∃ x,x=fO (fO xs j (fun x=>{ x with iO:=IntKind.i64.wrap (x.iO+IntKind.i64.wrap ((fJ xs x.k1).total-(fJ xs B.root).total)) })) j (fun x=>{ x with k1:=B.root }):=⟨_,rfl⟩
 have al:lS xs j B.root=iJ s j:=by rw[L];rfl
 have W:s.length=xs.length:=by rw[L,gB,gB]
 obtain⟨lm,G⟩:∃ y,fJ s j={ fJ xs j with iO:=y,k1:=B.root }:=⟨_,by rw[L,jS (by rw[gB];exact jl),jS jl]⟩
 have I:∀ k,k≠j->fJ s k=fJ xs k:=fun k c=>by rw[L,kD (fun e=>c e.symm),kD (fun e=>c e.symm)]
 have ai:gT s a j:=ha.sF W fun k c=>I k (fun e=>af (e▸c))
 have ah:gT s B j:=D.sF W fun k c=>I k (fun e=>Y (e▸c))
 have T:(a.mem++j :: B.mem).Nodup:=by
  rw[zr,zz]
  refine⟨na,⟨Y,nB⟩,fun x g y f e=>?_⟩
  subst e
  rcases zg.1 f with rfl|f
  . exact af g
  . exact(p x (.inl g)).1 f
 have ab:∀ k∈a.mem++j :: B.mem,k≠0/\k<xs.length:=fun k c=>by
  simp only[zn,zg]at c
  rcases c with c|rfl|c
  . exact ha.pK k c
  . exact⟨H,jl⟩
  . exact D.pK k c
 have ak:(a.mem++j :: B.mem).length<=1000000:=by
  have t:=nodup_lt_length xs.length (0 :: (a.mem++j :: B.mem)) (zz.2 ⟨fun o=>(ab 0 o).1 rfl,T⟩) (fun k c=>by
   rcases zg.1 c with rfl|c
   . exact h.pos
   . exact(ab k c).2)
  have:=h.len
  simp only[zh]at t
  omega
 obtain⟨K,P⟩:=Bk (xs:=s) (i:=j) (l:=a) (r:=B) ⟨H,o_⟩ ai ah (by rw[G];exact k0) (by rw[G]) T ak
 rw[<-al]at K P
 rw[show (fJ s j).up=q by rw[G];exact up]at P
 have z:(lS xs j B.root).length=xs.length:=by rw[K.len,W]
 have J:∀ k,k≠j->fJ (lS xs j B.root) k=fJ xs k:=fun k c=>by rw[K.other k c,I k c]
 have E:∀ k,(fJ (lS xs j B.root) k).flip=(fJ xs k).flip:=fun k=>by
  rw[K.flip]
  by_cases e:k=j
  . subst e;rw[G]
  . rw[I k e]
 have ap:∀ k,(fJ (lS xs j B.root) k).key=(fJ xs k).key:=fun k=>by
  rw[K.kl.key]
  by_cases e:k=j
  . subst e;rw[G]
  . rw[I k e]
 have aq:gp (lS xs j B.root) false B=gp xs false B:=sE fun k _=>E k
 have ar:gp (lS xs j B.root) false a=gp xs false a:=sE fun k _=>E k
 have au:gp (lS xs j B.root) false b=gp xs false b:=sE fun k _=>E k
 have ac:gp (lS xs j B.root) false (.nd a j B)=gp xs false a++j :: gp xs false B:=by
  simp only[gp,E,Q,D4,cond_false,ar,aq]
 have aj:gT (lS xs j B.root) b j:=hb.sF z fun k c=>J k (fun e=>aa (e▸c))
 obtain⟨ρ,r1,r2⟩:=h.tG
 have rT:∀ k,k∈a.mem\/k=j\/k∈b.mem->ρ k=ρ j:=fun k c=>r1 (.nd a j b,q) s_ k (by simpa[Tr.mem]using c) j (by simp[Tr.mem])
 have A:∀ e,e∈R↔(B.root≠0/\e=(B,j))\/e∈R' := fun e=>by rw[O.mem_iff,qi]
 have rB:∀ k∈B.mem,ρ k<ρ j:=fun k c=>by
  by_cases e0:B.root=0
  . rw[D.Bd e0]at c;simp[Tr.mem]at c
  . exact r2 (B,j) (zw _ ((A _).2 (.inl ⟨e0,rfl⟩))) H k c
 refine⟨⟨fun e d=>?_,fun e d=>?_,?_,fun k o c=>?_,fun e d=>?_,?_,?_,by rw[z];exact h.pos,by rw[z];exact h.len⟩,fun v' m => ?_,ac,J,by rw[E];exact Q,ap,z⟩
 . rcases zg.1 d with rfl|d
   . exact P
   . rcases qi.1 d with ⟨_,rfl⟩|d
     . exact aj
     . exact(h.rep e (zw _ ((A e).2 (.inr d)))).sF z fun k c=>J k (fun e' => Z (e' ▸ oZ d c))
 . rcases zg.1 d with rfl|d
   . exact H
   . rcases qi.1 d with ⟨o,rfl⟩|d
     . exact o
     . exact h.ne e (zw _ ((A e).2 (.inr d)))
 . simp only[jT,kR]
   show ((Tr.nd a j B).mem++jT (opt (b,j) R')).Nodup
   rw[Kj (e:=(b,j)) hb,zr,zr]
   refine⟨T,⟨nb,av, fun x g y f e=>(p x (.inr (.inr g))).2 (e▸f)⟩,fun x g y f e=>?_⟩
   subst e
   simp only[Tr.mem,zn,zg]at g f
   rcases f with f|f
   . rcases g with g|rfl|g
     . exact ae x g x (by simp[f]) rfl
     . exact aa f
     . exact(p x (.inr (.inr f))).1 g
   . rcases g with g|rfl|g
     . exact(p x (.inl g)).2 f
     . exact Z f
     . exact X x g x f rfl
 . rw[z]at c
   have t:=h.all k o c
   have C:k∈(Tr.nd a j b).mem\/k∈jT R:=by simpa[jT,kR]using t
   rw[S.mem_iff]at C
   show k∈(Tr.nd a j B).mem++jT (opt (b,j) R')
   rw[Kj (e:=(b,j)) hb]
   simp only[Tr.mem,zn,zg]at C ⊢
   rcases C with (h|h|h)|h|h<;>simp[h]
 . rw[z]
   rcases zg.1 d with rfl|d
   . exact h.par (.nd a j b,q) s_
   . rcases qi.1 d with ⟨_,rfl⟩|d
     . exact jl
     . exact h.par e (zw _ ((A e).2 (.inr d)))
 . have N:∀ k,k∈b.mem->k∉B.mem:=fun k t=>(p k (.inr (.inr t))).1
   obtain⟨σ,n⟩:∃ σ:Nat->Nat,∀ k,σ k=if k∈B.mem then 2*ρ j+1 else if k∈b.mem then 2*ρ j else 2*ρ k+1:=⟨_,fun _=>rfl⟩
   refine⟨σ,fun e d=>?_,fun e d o=>?_⟩
   . rcases zg.1 d with rfl|d
     . have key:∀ k∈(Tr.nd a j B).mem,σ k=2*ρ j+1:=fun k c=>by
        rw[n]
        simp only[Tr.mem,zn,zg]at c
        by_cases hkB:k∈B.mem
        . rw[if_pos hkB]
        . grind
       intro i hi k c
       rw[key i hi,key k c]
     . rcases qi.1 d with ⟨_,rfl⟩|d
       . intro i hi k c
         simp only at hi c
         rw[n,n,if_neg (N i hi),if_pos hi,if_neg (N k c),if_pos c]
       . intro i hi k c
         have M:∀ y∈e.1.mem,y∉B.mem/\y∉b.mem:=fun y f=>⟨fun w => X y w y (oZ d f) rfl,fun w => (p y (.inr (.inr w))).2 (oZ d f)⟩
         rw[n,n,if_neg (M i hi).1,if_neg (M i hi).2,if_neg (M k c).1,if_neg (M k c).2,r1 e (zw _ ((A e).2 (.inr d))) i hi k c]
   . rcases zg.1 d with rfl|d
     . simp only at o
       have V:=r2 (.nd a j b,q) s_ o
       have q1:q∉B.mem:=fun U=>by have:=rB q U;have:=V j (by simp[Tr.mem]);simp only at this;omega
       have q2:q∉b.mem:=fun U=>by have:=rT q (.inr (.inr U));have:=V j (by simp[Tr.mem]);simp only at this;omega
       intro i hi
       simp only
       rw[n i,n q,if_neg q1,if_neg q2]
       have ao := V j (by simp[Tr.mem])
       simp only at ao
       simp only[Tr.mem,zn,zg]at hi
       by_cases hiB:i∈B.mem
       . rw[if_pos hiB];omega
       . rw[if_neg hiB]
         split
         . omega
         . have:ρ i=ρ j:=rT i (by rcases hi with h|h|h;exact .inl h;exact .inr (.inl h);exact absurd h hiB)
           omega
     . rcases qi.1 d with ⟨_,rfl⟩|d
       . intro i hi
         simp only at hi ⊢
         rw[n,n,if_neg (N i hi),if_pos hi,if_neg Y,if_neg aa];omega
       . intro i hi
         have am:i∉B.mem:=fun w => X i w i (oZ d hi) rfl
         have an:i∉b.mem:=fun w => (p i (.inr (.inr w))).2 (oZ d hi)
         have aw := r2 e (zw _ ((A e).2 (.inr d))) o i hi
         rw[n,n,if_neg am,if_neg an]
         by_cases hqB:e.2∈B.mem
         . have:=rB _ hqB;rw[if_pos hqB];omega
         . rw[if_neg hqB]
           by_cases hqb:e.2∈b.mem
           . have:=rT _ (.inr (.inr hqb));rw[if_pos hqb];omega
           . rw[if_neg hqb];omega
 . rw[J 0 (fun e=>H e.symm)];exact h.zero
 . have hs:gw (lS xs j B.root) R' = gw xs R' := KZ fun k c=>J k (fun e=>Z (e▸c))
   have e1:gK (gw (lS xs j B.root) ((.nd a j B,q) :: opt (b,j) R')) v' m ↔ mZ (gp xs false a++j :: gp xs false B) q v' m \/ mZ (gp xs false b) j v' m \/ gK (gw xs R') v' m := by
    have:=QG (ys:=lS xs j B.root) (e:=(b,j)) (R:=R') (v:=v') (u:=m) hb
    simp only[gw,l9]at this ⊢
    rw[gK.cons,ac,this]
    simp only[gw]at hs
    rw[au,hs]
   have ag : gK (gw xs ((.nd a j b,q) :: R)) v' m ↔ mZ (gp xs false a++j :: gp xs false b) q v' m \/ mZ (gp xs false B) j v' m \/ gK (gw xs R') v' m := by
    have t:gp xs false (.nd a j b)=gp xs false a++j :: gp xs false b:=by simp only[gp,Q,D4,cond_false]
    have C:gK (gw xs R) v' m ↔ gK (gw xs (opt (B,j) R')) v' m := gK.perm (O.map _)
    have h3:=QG (ys:=xs) (e:=(B,j)) (R:=R') (v:=v') (u:=m) D
    have h4:gK (gw xs ((.nd a j b,q) :: R)) v' m ↔ mZ (gp xs false (.nd a j b)) q v' m \/ gK (gw xs R) v' m := by simp only[gw,l9,gK.cons]
    rw[h4,t,C,h3]
   rw[e1,ag, QE,QE,qG,qG]
   constructor
   . rintro((h|h|h)|h|h)<;>simp[h]
   . rintro((h|h|h)|h|h)<;>simp[h]
inductive tQ (F:FT):Nat->Nat->Prop where
 | zero:tQ F 0 0
 | step {T:Tr} {q j m:Nat} (he:(T,q)∈F) (hj:j∈T.mem) (h0:j≠0) (k:tQ F q m):tQ F j (m+1)
theorem tQ.mono{f:FT}{c:Nat}(l:(∀ e∈F,∀ i∈e.1.mem,∀ j∈e.1.mem,hm i=hm j)/\∀ e∈F,e.2≠0->∀ i∈e.1.mem,hm i<hm e.2)(n:∀ e∈F,(∀ i∈e.1.mem,c<hm i)->e∈f){m:Nat}(h:tQ F q m):(q=0\/c<hm q)->tQ f q m:=by
 induction h with
 | zero=>intro _;exact .zero
 | @step T q j m b d g k o =>
  intro a
  have a:c<hm j:=by rcases a with e|e;exact absurd e g;exact e
  refine .step (n _ b fun i hi=>?_) d g (o ?_)
  . rw[l.1 _ b i hi j d];exact a
  . by_cases hq:q=0
    . exact .inl hq
    . exact .inr (Nat.lt_trans a (l.2 _ b hq j d))
theorem Ox(ρ:Nat->Nat):∀ n,∃ M,∀ k,k<n->ρ k<=M
 | 0=>⟨0,fun k a=>absurd a o_⟩
 | n+1=>by
  obtain⟨M,b⟩:=Ox ρ n
  refine⟨max M (ρ n),fun k a=>?_⟩
  by_cases e:k=n
  . subst e;omega
  . have:=b k o_;omega
theorem Fo.dep(h:Fo xs F){j:Nat}(b:j<xs.length):∃ m,tQ F j m:=by
 obtain⟨ρ,k,d⟩:=h.tG
 obtain⟨M,c⟩:=Ox ρ xs.length
 have key:∀ n j,j<xs.length->M-ρ j<=n->∃ m,tQ F j m:=by
  intro n
  induction n with
  | zero =>
   intro j b g
   by_cases h0:j=0
   . subst h0;exact⟨0,.zero⟩
   . obtain⟨e,a,hm⟩:=pS.1 (h.all j h0 b)
     by_cases hq:e.2=0
     . exact⟨1,.step (T:=e.1) (q:=e.2) a hm h0 (by rw[hq];exact .zero)⟩
     . have a1:=d e a hq j hm
       have a2:=c e.2 (h.par e a)
       have a3:=c j b
       omega
  | succ n i =>
   intro j b g
   by_cases h0:j=0
   . subst h0;exact⟨0,.zero⟩
   . obtain⟨e,a,hm⟩:=pS.1 (h.all j h0 b)
     by_cases hq:e.2=0
     . exact⟨1,.step (T:=e.1) (q:=e.2) a hm h0 (by rw[hq];exact .zero)⟩
     . have a1:=d e a hq j hm
       have a2:=c e.2 (h.par e a)
       obtain⟨m,f⟩:=i e.2 (h.par e a) o_
       exact⟨m+1,.step (T:=e.1) (q:=e.2) a hm h0 f⟩
 exact key _ j b (zm _)
theorem Fo.WI(h:Fo xs F){e f:Tr×Nat}(d:e∈F)(a:f∈F){j:Nat}(h1:j∈e.1.mem)(c:j∈f.1.mem):e=f:=by
 obtain⟨s,t,rfl⟩:=vI d
 have hp:(s++e :: t).Perm (e :: (s++t)):=sO
 have b := h.perm hp
 rcases zg.1 (hp.mem_iff.1 a)with e' | a
 . exact e'.symm
 . exact absurd (oZ a c) (b.split.2.2 j h1)
structure Ex (xs0:List Nd) (F0:FT) (i:Nat) (xs:List Nd) (below j m:Nat) (R:FT) (B:Tr):Prop where
 fo:Fo xs (opt (B,j) R)
 rep:gT xs B j
 root:B.root=below
 start:below=0->j=i
 last:below≠0->(gp xs false B).getLast? = some i
 dep:tQ (opt (B,j) R) j m
 par:∀ v u,gK (gw xs (opt (B,j) R)) v u↔gK (gw xs0 F0) v u
 key:∀ k,(fJ xs k).key=(fJ xs0 k).key
 len:xs.length=xs0.length
 lt:j<xs.length
 Bv:∀ T0,(T0,0)∈F0->((T0,0)∈R/\∀ k∈T0.mem,fJ xs k=fJ xs0 k)\/(j=0/\below≠0/\(gp xs false B).head? = (gp xs0 false T0).head?)
theorem Ex.init{i:Nat}(h:Fo xs F)(hi:i<xs.length):∃ m,Ex xs F i xs 0 i m F .nil:=by
 obtain⟨m,hm⟩:=h.dep hi
 exact⟨m,h,trivial,rfl,fun _=>rfl,fun e=>absurd rfl e,hm,fun _ _=>Iff.rfl,fun _=>rfl,rfl,hi,fun b a=>.inl ⟨a,fun _ _=>rfl⟩⟩
theorem QK{α:Type}{x:α}{l:List α}(h:x∈l):∃ r,l.Perm (x :: r):=by
 obtain⟨s,t,rfl⟩:=vI h
 exact⟨s++t,sO⟩
theorem aaZ{e f:Tr×Nat}{R':FT}(h:R.Perm (f :: R')):(opt e R).Perm (f :: opt e R'):=by
 unfold opt
 split
 . exact h
 . exact(h.cons e).trans (List.Perm.swap _ _ _)
theorem Ex.go{xs0:List Nd}{F0:FT}{below j m:Nat}{B:Tr}(h:Ex xs0 F0 i xs below j m R B)(g:j≠0) :
 ∃ T q,gT xs T q/\j∈T.mem/\T.mem.Nodup/\T.mem.length<=1000000/\Out xs q T.mem/\∀ ys a b,jK xs ys T [] (.nd a j b) q->(fJ ys j).flip=false ->
  (fJ (lS ys j below) j).up=q/\(∀ k,k≠j->fJ (lS ys j below) k=fJ ys k)/\∃ w R', m=w + 1/\Ex xs0 F0 i (lS ys j below) j q w R' (.nd a j B):=by
 cases hd:h.dep with
 | zero=>exact absurd rfl g
 | @step T q _ w t o _ Y =>
  -- the entry lies in R
  have W:(T,q)∈R:=by
   rcases qi.1 t with ⟨d,e⟩|t
   . obtain⟨ρ,_,p⟩:=h.fo.tG
     cases e
     have:=p (B,j) (qi.2 (.inl ⟨d,rfl⟩)) g j o
     simp at this
   . exact t
  obtain⟨R2,hp⟩:=QK W
  have D:(opt (B,j) R).Perm ((T,q) :: opt (B,j) R2):=aaZ hp
  have f:=h.fo.perm D
  refine⟨T,q,f.rep (T,q) s_,o,f.split.1,f.count,f.out,fun ys a b hm J=>?_⟩
  obtain⟨S,s1,M⟩:=f.RQ hm
  have V:gT ys B j:=by
   by_cases d:B.root=0
   . rw[h.rep.Bd d];trivial
   . exact h.rep.sF hm.kl.len fun k l => M (B,j) (qi.2 (.inl ⟨d,rfl⟩)) k l
  have c:=Wc (F:=[]) S J (List.Perm.refl _) V
  obtain⟨r,E,x,y,O,G,z⟩:=c
  rw[h.root]at r E x y O G z
  have ab:gp ys false B=gp xs false B:=by
   by_cases d:B.root=0
   . rw[h.rep.Bd d];rfl
   . exact Gv fun k l => M (B,j) (qi.2 (.inl ⟨d,rfl⟩)) k l
  have aa:q<xs.length:=f.par (T,q) s_
  have ac:(fJ (lS ys j below) j).up=q:=(r.rep (.nd a j B,q) s_).2.1.2.2
  have C:opt (Tr.nd a j B,q) (opt (b,j) R2)=(Tr.nd a j B,q) :: opt (b,j) R2:=if_neg g
  refine⟨ac,y,w, opt (b,j) R2,rfl,⟨by rw[C];exact r,r.rep (.nd a j B,q) s_,rfl,fun e=>absurd e g,fun _=>?_,?_,fun v u=>?_,fun k=>?_,by rw[z,hm.kl.len,h.len],by rw[z,hm.kl.len];exact aa,fun N X=>?_⟩⟩
  . rw[x,ab]
    by_cases hb:below=0
    . have U:B = .nil:=h.rep.Bd (h.root.trans hb)
      rw[U,h.start hb]
      simp[gp]
    . have:=h.last hb
      rw[Hs,DW,this]
      simp
  . rw[C]
    obtain⟨ρ,r1,p⟩:=h.fo.tG
    refine tQ.mono (c:=ρ j) ⟨r1,p⟩ (fun e n I=>?_) Y ?_
    . rcases zg.1 (D.mem_iff.1 n)with rfl|n
      . exact absurd (I j o) o_
      . rcases qi.1 n with ⟨d,rfl⟩|n
        . have L:=h.rep.nC d
          have s:=p (B,j) (qi.2 (.inl ⟨d,rfl⟩)) g _ L
          have h4:=I _ L
          simp only at s
          omega
        . exact zw _ (qi.2 (.inr n))
    . by_cases hq:q=0
      . exact .inl hq
      . exact .inr (p (T,q) t hq j o)
  . rw[C,E,s1,<-h.par]
    exact gK.perm (D.symm.map _)
  . rw[G,hm.kl.key,h.key]
  . rcases h.Bv N X with ⟨A,H⟩|⟨A,_⟩
    . rcases zg.1 (hp.mem_iff.1 A)with e|s
      . cases e
        refine .inr ⟨rfl,g,?_⟩
        have e1:gp ys false (.nd a j b)=gp xs false T:=hm.ord false
        have P:gp ys false (.nd a j b)=gp ys false a++j :: gp ys false b:=by simp only[gp,J,D4,cond_false]
        have Q:gp xs false T=gp xs0 false T:=Gv H
        rw[x,<-Q,<-e1,P]
        cases gp ys false a<;>simp
      . refine .inl ⟨qi.2 (.inr s),fun k l => ?_⟩
        have K:k∉T.mem:=fun ht=>by
         have Z:=f.split.2.2 k ht
         exact Z (oZ (qi.2 (.inr s)) l)
        rw[y k (fun e=>K (e▸o)),hm.other k K,H k l]
    . exact absurd A g
theorem Ex.fin{xs0:List Nd}{below m:Nat}{B:Tr}(h:Ex xs0 F i xs below 0 m R B)(hi:i≠0) :
 gT xs B 0/\i∈B.mem/\B.mem.Nodup/\B.mem.length<=1000000/\Out xs 0 B.mem/\∀ ys a b,jK xs ys B [] (.nd a i b) 0->(fJ ys i).flip=false ->
  b = .nil/\Fo ys ((.nd a i .nil,0) :: R)/\(∀ v u,gK (gw ys ((.nd a i .nil,0) :: R)) v u↔gK (gw xs0 F) v u)/\(∀ k,(fJ ys k).key=(fJ xs0 k).key)/\ys.length=xs0.length /\
   (∀ c,(c,0)∈F->((c,0)∈R/\∀ k∈c.mem,fJ ys k=fJ xs0 k)\/(gp ys false (.nd a i .nil)).head? = (gp xs0 false c).head?):=by
 have hb:below≠0:=fun e=>hi (h.start e).symm
 have s:B.root≠0:=by rw[h.root];exact hb
 have o:opt (B,0) R=(B,0) :: R:=if_neg s
 have f:=h.fo
 rw[o]at f
 have d:=h.last hb
 have A:i∈B.mem:=(nE xs false B).mem_iff.1 (BK d)
 refine⟨h.rep,A,f.split.1,f.count,.inl rfl,fun ys a b hm z=>?_⟩
 obtain⟨g,s1,D⟩:=f.RQ hm
 have e1:gp ys false (.nd a i b)=gp xs false B:=hm.ord false
 have p:gp ys false (.nd a i b)=gp ys false a++i :: gp ys false b:=by simp only[gp,z,D4,cond_false]
 have w:b = .nil:=by
  rw[<-e1,p,Hs,DW]at d
  have y:gp ys false b=[]:=by
   cases hl:(gp ys false b).getLast? with
   | none=>exact Hy.1 hl
   | some x =>
    rw[hl]at d
    simp at d
    subst d
    have C:x∈b.mem:=(nE ys false b).mem_iff.1 (BK hl)
    have n:=g.split.1
    simp only[Tr.mem,zr,zz]at n
    exact absurd C n.2.1.1
  have:=(nE ys false b).length_eq
  rw[y]at this
  cases b with
  | nil=>rfl
  | nd _ _ _=>simp[Tr.mem]at this
 subst w
 refine⟨rfl,g,fun v u=>?_,fun k=>?_,by rw[hm.kl.len,h.len],fun c t=>?_⟩
 . rw[s1,<-h.par,o]
 . rw[hm.kl.key,h.key]
 . rcases h.Bv c t with ⟨j,q⟩|⟨_,_,r⟩
   . exact .inl ⟨j,fun k l=>by rw[D (c,0) j k l,q k l]⟩
   . exact .inr (by rw[e1];exact r)
theorem La(xs:List Nd):∀ (t:Tr) (φ:Bool),gp xs (!φ) t=(gp xs φ t).reverse
 | .nil,_=>rfl
 | .nd l i r,φ=>by
  have e:xor (!φ) (fJ xs i).flip = !(xor φ (fJ xs i).flip):=by cases φ<;>cases (fJ xs i).flip<;>rfl
  simp only[gp,e,La xs l,La xs r]
  cases xor φ (fJ xs i).flip<;>simp
theorem Gp(h:(jT F).Nodup):(wO (gw xs F)).Nodup:=by
 have hp:(wO (gw xs F)).Perm (jT F):=by
  unfold wO gw jT
  rw[List.flatMap_map]
  clear h
  induction F with
  | nil=>exact .nil
  | cons e F a=>simp only[kR];exact((nE xs false e.1).append_right _).trans (a.append_left _)
 exact hp.nodup_iff.2 h
theorem Fo.nV(h:Fo xs F){u a:Nat}(h1:gK (gw xs F) v u)(b:gK (gw xs F) v a):u=a := Go.Sx.nV (Gp h.nodup) h1 b
theorem Fo.vw(h:Fo xs F)(a:(T,q)∈F):∀ x∈gp xs false T,x≠0:=fun x b=>((h.rep (T,q) a).pK x ((nE xs false T).mem_iff.1 b)).1
theorem Fo.below(h:Fo xs F)(a:(T,0)∈F){r:Nat}(hv:v∈T.mem)(b:(gp xs false T).head? = some r):PR (gK (gw xs F)) v r :=
 (PR.Ft (q:=0) b (h.vw a) (fun v u hp=>⟨(gp xs false T,0),zq.2 ⟨(T,0),a,rfl⟩,hp⟩) ((nE xs false T).mem_iff.2 hv)).1 rfl
structure jf (xs0:List Nd) (F0:FT) (ys:List Nd) (i:Nat) (a:Tr) (R:FT):Prop where
 fo:Fo ys ((.nd a i .nil,0) :: R)
 flip:(fJ ys i).flip=false
 par:∀ v u,gK (gw ys ((.nd a i .nil,0) :: R)) v u↔gK (gw xs0 F0) v u
 key:∀ k,(fJ ys k).key=(fJ xs0 k).key
 len:ys.length=xs0.length
 Bv:∀ T0,(T0,0)∈F0->((T0,0)∈R/\∀ k∈T0.mem,fJ ys k=fJ xs0 k)\/(gp ys false (.nd a i .nil)).head? = (gp xs0 false T0).head?
theorem jf.seq(h:jf xs F ys i a R):gp ys false (.nd a i .nil)=gp ys false a++[i]:=by
 simp only[gp,h.flip,D4,cond_false]
theorem jf.head(h:jf xs F ys i a R):∃ r,(gp ys false (.nd a i .nil)).head? = some r/\r∈(Tr.nd a i .nil).mem:=by
 have hm:i∈gp ys false (.nd a i .nil):=by rw[h.seq];simp
 cases hs:gp ys false (.nd a i .nil)with
 | nil=>rw[hs]at hm;simp at hm
 | cons r l=>exact⟨r,rfl,(nE ys false (.nd a i .nil)).mem_iff.1 (by rw[hs];simp)⟩
theorem jf.top(h:jf xs F ys i a R){r:Nat}(b:(gp ys false (.nd a i .nil)).head? = some r)(hv:v∈(Tr.nd a i .nil).mem):PR (gK (gw xs F)) v r :=
 (h.fo.below (T:=.nd a i .nil) s_ hv b).mono fun v u hp=>(h.par v u).1 hp
def jC(ys:List Nd)(i:Nat):List Nd:=fO ys i (fun x=>{ x with flip:=true })
theorem yB(h:jf xs F ys i a R) :
 Fo (jC ys i) ((.nd a i .nil,0) :: R)/\gp (jC ys i) false (.nd a i .nil)=(gp ys false (.nd a i .nil)).reverse/\gw (jC ys i) R=gw ys R/\(jC ys i).length=ys.length/\(∀ k,k≠i->fJ (jC ys i) k=fJ ys k)/\∀ k,(fJ (jC ys i) k).key=(fJ ys k).key:=by
 obtain⟨n1,u,r⟩:=h.fo.split
 have g:=h.fo.rep (.nd a i .nil,0) s_
 have q:=g.1.2
 have i0:=g.1.1
 have ll:(jC ys i).length=ys.length:=gB
 have l:fJ (jC ys i) i={ fJ ys i with flip:=true }:=jS q
 have c:∀ k,k≠i->fJ (jC ys i) k=fJ ys k:=fun k b=>kD (fun e=>b e.symm)
 have j:∀ k,∃ f,fJ (jC ys i) k={ fJ ys k with flip:=f }:=fun k=>by
  by_cases e:k=i
  . subst e;exact⟨true,l⟩
  . exact⟨(fJ ys k).flip,by rw[c k e]⟩
 have o:i∈(Tr.nd a i .nil).mem:=by simp[Tr.mem]
 have n:∀ k∈jT R,fJ (jC ys i) k=fJ ys k:=fun k b=>c k (fun e=>r i o (e▸b))
 obtain⟨ρ,s,t⟩:=h.fo.tG
 refine⟨⟨fun e d=>(h.fo.rep e d).vz ll fun k _=>j k,h.fo.ne,h.fo.nodup,fun k m b=>h.fo.all k m (by rw[ll]at b;exact b),fun e d=>by rw[ll];exact h.fo.par e d,⟨ρ,s,t⟩,by rw[c 0 (fun e=>i0 e.symm)];exact h.fo.zero,by rw[ll];exact h.fo.pos,by rw[ll];exact h.fo.len⟩,?_,KZ n,ll,c,fun k=>?_⟩
 . rw[<-La]
   refine RT ?_ fun k b=>?_
   . rw[l,h.flip];rfl
   . have:k≠i:=fun e=>by
      subst e
      simp only[Tr.mem,zr,zz]at n1
      have p : k∈a.mem:=by simpa[Tr.mem]using b
      exact n1.2.2 k p k s_ rfl
     rw[c k this]
 . obtain⟨f,e⟩:=j k
   rw[e]
theorem PR.ab9{s s':List Nat}(j:(wO ((s,0) :: S)).Nodup)(d:∀ x∈s', x≠0)(hp:s'.Perm s){a r:Nat}(f:s'.head? = some a)(c:r∈s)(k:PR (gK ((s,0) :: S)) v r):PR (gK ((s', 0) :: S)) v a:=by
 have key:∀ v∈s,PR (gK ((s', 0) :: S)) v a:=fun v hv=>(PR.Ft (q:=0) f d (fun v u g => gK.cons.2 (.inl g)) (hp.mem_iff.2 hv)).1 rfl
 induction k with
 | top h=>exact key _ c
 | @step v u r h e _ i =>
  by_cases hv:v∈s
  . exact key v hv
  . rcases gK.cons.1 h with b|b
    . exact absurd (uo b) hv
    . exact .step (gK.cons.2 (.inr b)) e (i c)
theorem PR.apart{s s':List Nat}(m:(wO ((s,0) :: S)).Nodup)(f:∀ x∈s,x≠0){r:Nat}(b:r∉s)(k:PR (gK ((s,0) :: S)) v r):v∉s/\PR (gK ((s', 0) :: S)) v r:=by
 have j:∀ v∈s,∃ h,h∈s/\PR (gK ((s,0) :: S)) v h:=fun v hv=>by
  cases s with
  | nil=>simp at hv
  | cons x l=>exact⟨x,s_,(PR.Ft (q:=0) rfl f (fun v u n => gK.cons.2 (.inl n)) hv).1 rfl⟩
 have o:∀ v u d, gK ((s,0) :: S) v u->gK ((s,0) :: S) v d -> u=d := fun v u d a g=>Go.Sx.nV m a g
 have c:∀ {v},PR (gK ((s,0) :: S)) v r->v∉s:=fun {v} k hv=>by
  obtain⟨h,i,k'⟩:=j v hv
  exact b ((PR.unique o k k')▸i)
 refine⟨c k,?_⟩
 induction k with
 | top h =>
  rcases gK.cons.1 h with a|a
  . exact absurd (uo a) b
  . exact .top (gK.cons.2 (.inr a))
 | step h e k p =>
  rcases gK.cons.1 h with a|a
  . exact absurd (uo a) (c (.step h e k))
  . exact .step (gK.cons.2 (.inr a)) e (p b c)
structure Ej (ys:List Nd) (i:Nat) (a:Tr) (R:FT):Prop where
 fo:Fo ys ((.nd a i .nil,0) :: R)
 head:(gp ys false (.nd a i .nil)).head? = some i
theorem jf.uf(h:jf xs F ys i a R):Ej (jC ys i) i a R:=by
 obtain⟨b,c,_⟩:=yB h
 refine⟨b,?_⟩
 rw[c,h.seq]
 simp
theorem jf.PJ(h:jf xs F ys i a R){r:Nat}(hv:PR (gK (gw xs F)) v r)(hi:PR (gK (gw xs F)) i r)(g:∀ v u c, gK (gw xs F) v u->gK (gw xs F) v c -> u=c) :
 PR (gK (gw (jC ys i) ((.nd a i .nil,0) :: R))) v i:=by
 obtain⟨l,m,n,_⟩:=yB h
 obtain⟨k, f, hm⟩:=h.head
 have e:k = r:=PR.unique g (h.top f (by simp[Tr.mem])) hi
 subst e
 have d:gw (jC ys i) ((.nd a i .nil,0) :: R)=((gp ys false (.nd a i .nil)).reverse,0) :: gw ys R:=by
  grind [gw]
 have b:gw ys ((.nd a i .nil,0) :: R)=(gp ys false (.nd a i .nil),0) :: gw ys R:=rfl
 rw[d]
 refine PR.ab9 (s:=gp ys false (.nd a i .nil)) (by rw[<-b];exact Gp h.fo.nodup) (fun x j=>?_) (HF _) (by rw[h.seq];simp) ((nE ys false (.nd a i .nil)).mem_iff.2 hm) (by rw[<-b];exact hv.mono fun v u hp=>(h.par v u).2 hp)
 exact h.fo.vw (T:=.nd a i .nil) (q:=0) s_ x (List.mem_reverse.1 j)
theorem jf.PK(h:jf xs F ys i a R){r:Nat}(hv:PR (gK (gw xs F)) v r)(hi:PR (gK (gw xs F)) i b)(m:r≠b)(f:∀ v u j, gK (gw xs F) v u->gK (gw xs F) v j -> u=j) :
 PR (gK (gw (jC ys i) ((.nd a i .nil,0) :: R))) v r/\r∉(Tr.nd a i .nil).mem:=by
 obtain⟨n,o,p,_⟩:=yB h
 have e:r∉(Tr.nd a i .nil).mem:=fun hm=>by
  obtain⟨g,d,_⟩:=h.head
  have e1:g=b := PR.unique f (h.top d (by simp[Tr.mem])) hi
  have k:g=r:=PR.unique f (h.top d hm) (.top hv.root)
  exact m (k.symm.trans e1)
 have l:gw (jC ys i) ((.nd a i .nil,0) :: R)=((gp ys false (.nd a i .nil)).reverse,0) :: gw ys R:=by
  grind [gw]
 have c:gw ys ((.nd a i .nil,0) :: R)=(gp ys false (.nd a i .nil),0) :: gw ys R:=rfl
 rw[l]
 exact⟨(PR.apart (s:=gp ys false (.nd a i .nil)) (s' := (gp ys false (.nd a i .nil)).reverse) (by rw[<-c];exact Gp h.fo.nodup) (h.fo.vw (T:=.nd a i .nil) (q:=0) s_) (fun hm=>e ((nE ys false (.nd a i .nil)).mem_iff.1 hm)) (by rw[<-c];exact hv.mono fun v u hp=>(h.par v u).2 hp)).2,e⟩
def Joined(xs:List Nd)(F:FT)(a b:Nat):Prop:=∃ r,PR (gK (gw xs F)) a r/\PR (gK (gw xs F)) b r
theorem jf.joined(h:jf xs F ys i a R)(u v:Nat):Joined ys ((.nd a i .nil,0) :: R) u v↔Joined xs F u v :=
 ⟨fun⟨r,b,c⟩=>⟨r,b.mono fun v u=>(h.par v u).1,c.mono fun v u=>(h.par v u).1⟩,fun⟨r,b,c⟩=>⟨r,b.mono fun v u=>(h.par v u).2,c.mono fun v u=>(h.par v u).2⟩⟩
theorem Pg{F0 R':FT}{j:Nat}{b:Tr}(h:jf us F0 xs i a R)(k:jf xs ((.nd a i .nil,0) :: R) ys j b R')(S:i≠j):(fJ ys i).up≠0↔Joined us F0 i j:=by
 have D:=h.fo
 obtain⟨r,G,Z⟩:=h.head
 obtain⟨o, H, U⟩:=k.head
 have C:PR (gK (gw us F0)) i r:=h.top G (by simp[Tr.mem])
 have J:PR (gK (gw us F0)) j o := (k.top H (by simp[Tr.mem])).mono fun v u=>(h.par v u).1
 have A:∀ v u p, gK (gw us F0) v u->gK (gw us F0) v p -> u=p := fun v u p m n=>h.fo.nV ((h.par v u).2 m) ((h.par v p).2 n)
 constructor
 . intro B
   rcases k.Bv (.nd a i .nil) s_ with ⟨m,n⟩|m
   . have N:=k.fo.rep (.nd a i .nil,0) (zw _ m)
     exact absurd N.2.1.2.2 B
   . rw[G,H]at m
     simp only[Option.some.injEq]at m
     subst m
     exact⟨o, C,J⟩
 . rintro⟨K,m,n⟩ B
   have e1:r=K:=PR.unique A C m
   have L:o = K:=PR.unique A J n
   have X:i<ys.length:=by rw[k.len];exact(D.rep (.nd a i .nil,0) s_).1.2
   have i0:i≠0:=(D.rep (.nd a i .nil,0) s_).1.1
   obtain⟨e,w,hm⟩:=pS.1 (k.fo.all i i0 X)
   -- i is the root of fQ tree,which hangs from nothing
   have I:=k.fo.rep e w
   obtain⟨c,x,y,t⟩:=FK hm
   rw[t]at I
   obtain⟨P,O⟩:=(yS _ _ _).1 I
   have E:wS c e.2=0:=by rw[<-P.2.1.2.2];exact B
   have Q:c=[]:=by
    cases c with
    | nil=>rfl
    | cons f c' => obtain⟨d,g,s⟩:=f;exact absurd E O.1.1
   subst Q
   have F:e.2=0:=E
   obtain⟨T,q⟩:=e
   simp only[ki]at t F hm
   subst F
   subst t
   have hd:∃ z,(gp ys false (.nd x i y)).head? = some z/\z∈(Tr.nd x i y).mem:=by
    have:(gp ys false (.nd x i y)).length=(Tr.nd x i y).mem.length:=(nE ys false _).length_eq
    cases hs:gp ys false (.nd x i y)with
    | nil=>rw[hs]at this;simp[Tr.mem]at this
    | cons z l=>exact⟨z,rfl,(nE ys false (.nd x i y)).mem_iff.1 (by rw[hs];simp)⟩
   obtain⟨z,V,W⟩:=hd
   have Y:PR (gK (gw us F0)) i z:=(k.fo.below w hm V).mono fun v u hp=>(h.par v u).1 ((k.par v u).1 hp)
   have M:z=o := (PR.unique A Y C).trans (e1.trans L.symm)
   have:=k.fo.WI w (zd (a:=(Tr.nd b j .nil,0))) W (by rw[M];exact U)
   simp only[Prod.mk.injEq,Tr.nd.injEq]at this
   exact S this.1.2.1
theorem QI{R':FT}{j:Nat}{b:Tr}(h:Ej xs i a R)(k:jf xs ((.nd a i .nil,0) :: R) ys j b R')(f:PR (gK (gw xs ((.nd a i .nil,0) :: R))) j i):(gp ys false (.nd b j .nil)).head? = some i:=by
 obtain⟨r,c,_⟩:=k.head
 have:=PR.unique (P:=gK (gw xs ((.nd a i .nil,0) :: R))) (fun v u g d e=>h.fo.nV d e) (k.top c (v:=j) (by simp[Tr.mem])) f
 rw[c,this]
theorem gT.one{t:Tr}(h:gT xs t p)(hs:t.mem=[i]):t = .nd .nil i .nil:=by
 cases t with
 | nil=>simp[Tr.mem]at hs
 | nd l j r =>
  cases l with
  | nil =>
   cases r with
   | nil=>simp[Tr.mem]at hs;rw[hs]
   | nd _ _ _=>simp[Tr.mem]at hs
  | nd _ _ _ =>
   have:=congrArg List.length hs
   simp[Tr.mem]at this
   omega
theorem ZW{t:Tr}(h:gp xs false t=[i]):t.mem=[i]:=by
 have:=nE xs false t
 rw[h]at this
 exact List.perm_singleton.1 this.symm
theorem abb{zs:List Nd}{j:Nat}{b a2 b2:Tr}{c:FT}(n:Fo ys ((.nd b j .nil,0) :: R))(hs:gp ys false (.nd b j .nil)=[i,j])(h1:jf ys ((.nd b j .nil,0) :: R) zs i a2 F)(a:jf (jC zs i) ((.nd a2 i .nil,0) :: F) us j b2 c):b2 = .nd .nil i .nil/\a2 = .nil:=by
 have p:∀ x∈[i,j],x≠0:=fun x v=>n.vw (T:=.nd b j .nil) (q:=0) s_ x (by rw[hs];exact v)
 have i0:=p i s_
 have m:gK (gw ys ((.nd b j .nil,0) :: R)) i 0:=⟨(gp ys false (.nd b j .nil),0),by simp[gw],by rw[hs];exact qG.2 (.inl ⟨rfl,rfl⟩)⟩
 have p2:gK (gw ys ((.nd b j .nil,0) :: R)) j i:=⟨(gp ys false (.nd b j .nil),0),by simp[gw],by rw[hs];exact qG.2 (.inr (qG.2 (.inl ⟨rfl,rfl⟩)))⟩
 -- the first exposing
 have w:gK (gw zs ((.nd a2 i .nil,0) :: F)) i ((gp zs false a2).getLast?.getD 0):=⟨(gp zs false (.nd a2 i .nil),0),by simp[gw],gp zs false a2,[],h1.seq,rfl⟩
 have e1:=h1.fo.nV w ((h1.par i 0).2 m)
 have h:gp zs false a2=[]:=by
  cases d:(gp zs false a2).getLast? with
  | none=>exact Hy.1 d
  | some x =>
   rw[d]at e1
   simp only[D1]at e1
   exact absurd e1 (h1.fo.vw (T:=.nd a2 i .nil) (q:=0) s_ x (by rw[h1.seq];exact sN _ (BK d)))
 have o : a2 = .nil:=by
  have:=(nE zs false a2).length_eq
  rw[h]at this
  cases a2 with
  | nil=>rfl
  | nd _ _ _=>simp[Tr.mem]at this
 obtain⟨l1,y,l,_⟩:=yB h1
 have k:gw (jC zs i) ((.nd a2 i .nil,0) :: F)=gw zs ((.nd a2 i .nil,0) :: F):=by
  simp only[gw,l9]at l ⊢
  rw[y,l,h1.seq,h]
  rfl
 have z:gK (gw us ((.nd b2 j .nil,0) :: c)) i 0:=(a.par i 0).2 (by rw[k];exact(h1.par i 0).2 m)
 have A:gK (gw us ((.nd b2 j .nil,0) :: c)) j i:=(a.par j i).2 (by rw[k];exact(h1.par j i).2 p2)
 have u:gK (gw us ((.nd b2 j .nil,0) :: c)) j ((gp us false b2).getLast?.getD 0):=⟨(gp us false (.nd b2 j .nil),0),by simp[gw],gp us false b2,[],a.seq,rfl⟩
 have B:=a.fo.nV u A
 have d:(gp us false b2).getLast? = some i:=by
  grind
 obtain⟨s,f⟩:∃ s,gp us false b2=s++[i]:=by
  obtain⟨s,e⟩:=L9.1 d
  exact⟨s,e⟩
 have hv:gK (gw us ((.nd b2 j .nil,0) :: c)) i (s.getLast?.getD 0):=⟨(gp us false (.nd b2 j .nil),0),by simp[gw],s,[j],by rw[a.seq,f];simp,rfl⟩
 have g:=a.fo.nV hv z
 have t:s=[]:=by
  cases hl2:s.getLast? with
  | none=>exact Hy.1 hl2
  | some x =>
   rw[hl2]at g
   simp only[D1]at g
   exact absurd g (a.fo.vw (T:=.nd b2 j .nil) (q:=0) s_ x (by rw[a.seq,f];simp[BK hl2]))
 rw[t,pg]at f
 have r:=a.fo.rep (.nd b2 j .nil,0) s_
 exact⟨gT.one r.2.2.2.1 (ZW f),o⟩
def nZ(us:List Nd)(i j:Nat):List Nd:=iJ (fO (fO us i (fun x=>{ x with up:=0 })) j (fun x=>{ x with k0:=0 })) j
theorem afa{j:Nat}(h:Fo us ((.nd (.nd .nil i .nil) j .nil,0) :: R)):Fo (nZ us i j) ((.nd .nil i .nil,0) :: (.nd .nil j .nil,0) :: R)/\(nZ us i j).length=us.length/\∀ k,k≠i->k≠j->fJ (nZ us i j) k=fJ us k:=by
 obtain⟨n1,Q,B⟩:=h.split
 obtain⟨⟨t,jl⟩,⟨k0,k1,up⟩,v,hi,_⟩:=h.rep (.nd (.nd .nil i .nil) j .nil,0) s_
 have E := hi
 obtain⟨⟨i0,A⟩,⟨I,J,P⟩,iv,_,_⟩:=E
 have s:i≠j:=by
  simp only[Tr.mem,pg,rJ,nH]at n1
  rintro rfl
  simp at n1
 obtain⟨O,e1⟩:∃ x,x=fO us i (fun x=>{ x with up:=0 }):=⟨_,rfl⟩
 obtain⟨d,f⟩:∃ x,x=fO O j (fun x=>{ x with k0:=0 }):=⟨_,rfl⟩
 have D:nZ us i j=iJ d j:=by rw[f,e1];rfl
 have K:d.length=us.length:=by rw[f,e1,gB,gB]
 have a2:fJ d i={ fJ us i with up:=0 }:=by rw[f,kD (fun e=>s e.symm),e1,jS A]
 have b2:fJ d j={ fJ us j with k0:=0 }:=by rw[f,jS (by rw[e1,gB];exact jl),e1,kD s]
 have L:∀ k,k≠i->k≠j->fJ d k=fJ us k:=fun k b F => by rw[f,kD (fun e=>F e.symm),e1,kD (fun e=>b e.symm)]
 obtain⟨p,q⟩:=Bk (xs:=d) (i:=j) (l:=.nil) (r:=.nil) ⟨t,o_⟩ trivial trivial (by rw[b2];rfl) (by rw[b2];exact k1) (by simp[Tr.mem]) (by simp[Tr.mem])
 rw[<-D]at p q
 rw[show (fJ d j).up=0 by rw[b2];exact up]at q
 have c:fJ (nZ us i j) i={ fJ us i with up:=0 }:=by rw[p.other i s,a2]
 have u:∀ k,k≠i->k≠j->fJ (nZ us i j) k=fJ us k:=fun k o w=>by rw[p.other k w,L k o w]
 have ll:(nZ us i j).length=us.length:=by rw[p.len,K]
 have C:gT (nZ us i j) (.nd .nil i .nil) 0:=by
  refine⟨⟨i0,by rw[ll];exact A⟩,⟨by rw[c];exact I,by rw[c];exact J,by rw[c]⟩,?_,trivial,trivial⟩
  simp only[Tr.mem,pg]at iv ⊢
  refine⟨by rw[c];exact iv.size,?_,?_⟩
  . rw[c,iv.total];simp[oH,c]
  . rw[c];exact⟨iv.first.1,fun k b=>.inl (by have o:=iv.first.1;simp at b o;rw[b,o])⟩
 have G:i∈(Tr.nd (.nd .nil i .nil) j .nil).mem:=by simp[Tr.mem]
 have H:j∈(Tr.nd (.nd .nil i .nil) j .nil).mem:=by simp[Tr.mem]
 have nR:∀ e∈R,∀ k∈e.1.mem,k≠i/\k≠j:=fun e a k b=>⟨fun e' => B i G (e' ▸ oZ a b),fun e' => B j H (e' ▸ oZ a b)⟩
 have z:jT ((.nd .nil i .nil,0) :: (.nd .nil j .nil,0) :: R)=jT ((.nd (.nd .nil i .nil) j .nil,0) :: R):=by simp[jT,Tr.mem]
 obtain⟨ρ,M,N⟩:=h.tG
 refine⟨⟨fun e a=>?_,fun e a=>?_,by rw[z];exact h.nodup,fun k g b=>by rw[z];exact h.all k g (by rw[ll]at b;exact b),fun e a=>?_,⟨ρ,fun e a=>?_,fun e a g=>?_⟩,by rw[u 0 (fun e=>i0 e.symm) (fun e=>t e.symm)];exact h.zero,by rw[ll];exact h.pos,by rw[ll];exact h.len⟩,ll,u⟩
 . rcases zg.1 a with rfl|a
   . exact C
   . rcases zg.1 a with rfl|a
     . exact q
     . exact(h.rep e (by simp[a])).sF ll fun k b=>u k (nR e a k b).1 (nR e a k b).2
 . rcases zg.1 a with rfl|a
   . exact i0
   . rcases zg.1 a with rfl|a
     . exact t
     . exact h.ne e (by simp[a])
 . rw[ll]
   rcases zg.1 a with rfl|a
   . exact h.pos
   . rcases zg.1 a with rfl|a
     . exact h.pos
     . exact h.par e (by simp[a])
 . rcases zg.1 a with rfl|a
   . intro x m y n;simp[Tr.mem]at m n;rw[m,n]
   . rcases zg.1 a with rfl|a
     . intro x m y n;simp[Tr.mem]at m n;rw[m,n]
     . exact M e (by simp[a])
 . rcases zg.1 a with rfl|a
   . exact absurd rfl g
   . rcases zg.1 a with rfl|a
     . exact absurd rfl g
     . exact N e (by simp[a]) g
def mz(zs:List Nd)(a b:Nat):List Nd := 
 let c:=fO zs a (fun x=>{ x with up:=b })
 iJ (fO c b (fun x=>{ x with iO:=IntKind.i64.wrap (x.iO+(fJ c a).total) })) b
theorem YT{zs:List Nd}{a:Nat}{x y:Tr}(h:Fo zs ((.nd y b .nil,0) :: (.nd x a .nil,0) :: R)):Fo (mz zs a b) ((.nd y b .nil,0) :: (.nd x a .nil,b) :: R)/\(mz zs a b).length=zs.length/\∀ k,k≠a->k≠b->fJ (mz zs a b) k=fJ zs k:=by
 obtain⟨n1,G,n3⟩:=h.split
 have V:=h.rep (.nd y b .nil,0) s_
 have B:=h.rep (.nd x a .nil,0) s_
 obtain⟨⟨b0,bl⟩,⟨S,T,U⟩,bv,hy,_⟩:=V
 have a0:=B.1.1
 have al:=B.1.2
 have t:a∈(Tr.nd x a .nil).mem:=by simp[Tr.mem]
 have u:b∈(Tr.nd y b .nil).mem:=by simp[Tr.mem]
 have n:∀ k∈(Tr.nd y b .nil).mem,k∉(Tr.nd x a .nil).mem/\k∉jT R:=fun k c=>by
  have:=n3 k c
  simp only[jT,kR,zn,not_or]at this
  exact this
 have E:a≠b:=fun e=>(n b u).1 (e▸t)
 have nA:(Tr.nd x a .nil).mem.Nodup/\∀ k∈(Tr.nd x a .nil).mem,k∉jT R:=by
  simp only[jT,kR,zr]at G
  exact⟨G.1,fun k m f=>G.2.2 k m k f rfl⟩
 obtain⟨J,e1⟩:∃ z,z=fO zs a (fun x=>{ x with up:=b }):=⟨_,rfl⟩
 obtain⟨g,q⟩:∃ z,z=fO J b (fun x=>{ x with iO:=IntKind.i64.wrap (x.iO+(fJ J a).total) }):=⟨_,rfl⟩
 have X:mz zs a b=iJ g b:=by rw[q,e1];rfl
 have l1:J.length=zs.length:=by rw[e1,gB]
 have M:g.length=zs.length:=by rw[q,gB,l1]
 have a2:fJ g a={ fJ zs a with up:=b }:=by rw[q,kD (fun e=>E e.symm),e1,jS al]
 obtain⟨N,b2⟩:∃ N,fJ g b={ fJ zs b with iO:=N }:=⟨_,by rw[q,jS (by rw[l1];exact bl),e1,kD E]⟩
 have O:∀ k,k≠a->k≠b->fJ g k=fJ zs k:=fun k c Y => by rw[q,kD (fun e=>Y e.symm),e1,kD (fun e=>c e.symm)]
 have ad:b∉y.mem:=by
  simp only[Tr.mem,zr,zz]at n1
  exact fun h=>n1.2.2 b h b s_ rfl
 have ab:gT g y b:=hy.sF M fun k c=>O k (fun e=>(n k (by simp[Tr.mem,c])).1 (e▸t)) (fun e=>ad (e▸c))
 obtain⟨w,C⟩:=Bk (xs:=g) (i:=b) (l:=y) (r:=.nil) ⟨b0,o_⟩ ab trivial (by rw[b2];exact S) (by rw[b2];exact T) n1 h.count
 rw[<-X]at w C
 rw[show (fJ g b).up=0 by rw[b2];exact U]at C
 have v:∀ k,k≠a->k≠b->fJ (mz zs a b) k=fJ zs k:=fun k m f=>by rw[w.other k f,O k m f]
 have ll:(mz zs a b).length=zs.length:=by rw[w.len,M]
 have j:fJ (mz zs a b) a={ fJ zs a with up:=b }:=by rw[w.other a E,a2]
 have W:gT (mz zs a b) (.nd x a .nil) b:=by
  obtain⟨⟨_,_⟩,⟨P,Q,_⟩,p,Z,_⟩:=B
  have ac:a∉x.mem:=by
   have:=nA.1
   simp only[Tr.mem,zr,zz]at this
   exact fun h=>this.2.2 a h a s_ rfl
  have L:∀ k∈x.mem,fJ (mz zs a b) k=fJ zs k:=fun k c=>v k (fun e=>ac (e▸c)) (fun e=>(n b u).1 (e▸by simp[Tr.mem,c]))
  refine⟨⟨a0,by rw[ll];exact al⟩,⟨by rw[j];exact P,by rw[j];exact Q,by rw[j]⟩,?_,Z.sF ll L,trivial⟩
  have D:∀ k∈x.mem++a :: Tr.nil.mem,(fJ (mz zs a b) k).key=(fJ zs k).key/\(fJ (mz zs a b) k).iO=(fJ zs k).iO:=fun k c=>by
   simp only[Tr.mem,zn,zg,nr,or_false]at c
   rcases c with c|rfl
   . rw[L k c];exact⟨rfl,rfl⟩
   . rw[j];exact⟨rfl,rfl⟩
  refine⟨by rw[j];exact p.size,?_,?_⟩
  . rw[j,show oH (mz zs a b) (x.mem++a :: Tr.nil.mem)=oH zs (x.mem++a :: Tr.nil.mem) from congrArg List.sum (DU fun k c=>by rw[(D k c).2])]
    exact p.total
  . rw[j]
    refine⟨p.first.1,fun k c=>?_⟩
    rcases p.first.2 k c with e|e
    . exact .inl e
    . refine .inr ?_
      rw[<-e]
      simp only[lK,(D k c).1,(D _ p.first.1).1]
 have nR:∀ e∈R,∀ k∈e.1.mem,k≠a/\k≠b:=fun e d k c=>⟨fun e' => nA.2 a t (e' ▸ oZ d c),fun e' => (n b u).2 (e' ▸ oZ d c)⟩
 have K:jT ((.nd y b .nil,0) :: (.nd x a .nil,b) :: R)=jT ((.nd y b .nil,0) :: (.nd x a .nil,0) :: R):=by simp[jT]
 obtain⟨ρ,A,r2⟩:=h.tG
 obtain⟨σ,F⟩:∃ σ:Nat->Nat,∀ k,σ k=if k∈(Tr.nd y b .nil).mem then ρ k+ρ a+1 else ρ k:=⟨_,fun _=>rfl⟩
 have I:∀ k∈(Tr.nd y b .nil).mem,σ k=ρ k+ρ a+1:=fun k c=>by rw[F,if_pos c]
 have o:∀ k,k∉(Tr.nd y b .nil).mem->σ k=ρ k:=fun k c=>by rw[F,if_neg c]
 have ae:∀ k,ρ k<=σ k:=fun k=>by rw[F];split<;>omega
 have H:∀ k∈(Tr.nd x a .nil).mem,k∉(Tr.nd y b .nil).mem:=fun k m f=>(n k f).1 m
 have oR:∀ e∈R,∀ k∈e.1.mem,k∉(Tr.nd y b .nil).mem:=fun e d k m f=>(n k f).2 (oZ d m)
 refine⟨⟨fun e d=>?_,fun e d=>?_,by rw[K];exact h.nodup,fun k s c=>by rw[K];exact h.all k s (by rw[ll]at c;exact c),fun e d=>?_,⟨σ,fun e d=>?_,fun e d s=>?_⟩,by rw[v 0 (fun e=>a0 e.symm) (fun e=>b0 e.symm)];exact h.zero,by rw[ll];exact h.pos,by rw[ll];exact h.len⟩,ll,v⟩
 . rcases zg.1 d with rfl|d
   . exact C
   . rcases zg.1 d with rfl|d
     . exact W
     . exact(h.rep e (by simp[d])).sF ll fun k c=>v k (nR e d k c).1 (nR e d k c).2
 . rcases zg.1 d with rfl|d
   . exact b0
   . rcases zg.1 d with rfl|d
     . exact a0
     . exact h.ne e (by simp[d])
 . rw[ll]
   rcases zg.1 d with rfl|d
   . exact h.pos
   . rcases zg.1 d with rfl|d
     . exact bl
     . exact h.par e (by simp[d])
 . rcases zg.1 d with rfl|d
   . intro i hi k c
     rw[I i hi,I k c,A (.nd y b .nil,0) s_ i hi k c]
   . rcases zg.1 d with rfl|d
     . intro i hi k c
       rw[o i (H i hi),o k (H k c),A (.nd x a .nil,0) s_ i hi k c]
     . intro i hi k c
       rw[o i (oR e d i hi),o k (oR e d k c),A e (by simp[d]) i hi k c]
 . rcases zg.1 d with rfl|d
   . exact absurd rfl s
   . rcases zg.1 d with rfl|d
     . intro i hi
       have:=A (.nd x a .nil,0) s_ i hi a t
       rw[o i (H i hi),I b u]
       omega
     . intro i hi
       have:=r2 e (by simp[d]) s i hi
       have:=ae e.2
       rw[o i (oR e d i hi)]
       omega
def rA(ys:List Nd)(i:Nat)(k:Int):List Nd:=iJ (fO ys i (fun x=>{ x with key:=k })) i
theorem adf{c:Int}(h:Fo ys ((.nd a i .nil,0) :: R)):Fo (rA ys i c) ((.nd a i .nil,0) :: R)/\(rA ys i c).length=ys.length/\(∀ k,k≠i->fJ (rA ys i c) k=fJ ys k)/\(fJ (rA ys i c) i).key=c:=by
 obtain⟨n1,B,y⟩:=h.split
 obtain⟨⟨i0,w⟩,⟨k0,k1,up⟩,v,t,_⟩:=h.rep (.nd a i .nil,0) s_
 obtain⟨f,g⟩:∃ z,z=fO ys i (fun x=>{ x with key:=c }):=⟨_,rfl⟩
 have u:rA ys i c=iJ f i:=by rw[g];rfl
 have p:f.length=ys.length:=by rw[g,gB]
 have a2:fJ f i={ fJ ys i with key:=c }:=by rw[g,jS w]
 have q:∀ k,k≠i->fJ f k=fJ ys k:=fun k b=>by rw[g,kD (fun e=>b e.symm)]
 have A:i∉a.mem:=by
  simp only[Tr.mem,zr,zz]at n1
  exact fun h=>n1.2.2 i h i s_ rfl
 obtain⟨j,m⟩:=Bk (xs:=f) (i:=i) (l:=a) (r:=.nil) ⟨i0,o_⟩ (t.sF p fun k b=>q k (fun e=>A (e▸b))) trivial (by rw[a2];exact k0) (by rw[a2];exact k1) n1 h.count
 rw[<-u]at j m
 rw[show (fJ f i).up=0 by rw[a2];exact up]at m
 have n:∀ k,k≠i->fJ (rA ys i c) k=fJ ys k:=fun k o=>by rw[j.other k o,q k o]
 have ll:(rA ys i c).length=ys.length:=by rw[j.len,p]
 have hm:i∈(Tr.nd a i .nil).mem:=by simp[Tr.mem]
 refine⟨⟨fun e d=>?_,h.ne,h.nodup,fun k s b=>h.all k s (by rw[ll]at b;exact b),fun e d=>by rw[ll];exact h.par e d,h.tG,by rw[n 0 (fun e=>i0 e.symm)];exact h.zero,by rw[ll];exact h.pos,by rw[ll];exact h.len⟩,ll,n,by rw[j.kl.key,a2]⟩
 rcases zg.1 d with rfl|d
 . exact m
 . exact(h.rep e (by simp[d])).sF ll fun k b=>n k (fun e' => y i hm (e' ▸ oZ d b))
def pL:Nd:=⟨0,0,0,false,0,0,0,0,0⟩
def wL(i:Nat):Nd:=⟨0,0,0,false,0,1,i,0,1⟩
def lV(n k:Nat):List Nd:=(List.range (n+1)).map fun i=>if 1<=i/\i<=k then wL i else pL
theorem tF(n k:Nat):(lV n k).length=n+1:=by simp[lV]
theorem yM{n k:Nat}(h:i<n+1):fJ (lV n k) i=if 1<=i/\i<=k then wL i else pL:=by
 simp[fJ,lV,rF h]
theorem aaI(n:Nat):lV n 0=List.replicate (n+1) pL:=by
 apply List.ext_getElem
 . simp[lV]
 . grind [lV]
theorem aaH{n k:Nat}(h:k<n):iJ (lV n k) (k+1)=lV n (k+1):=by
 have b:k+1<(lV n k).length:=by rw[tF];omega
 have a:fJ (lV n k) (k+1)=pL:=by rw[yM o_,if_neg o_]
 unfold iJ
 rw[a]
 simp only[pL,mj,if_true]
 apply oc
 intro i
 by_cases hi:i=k+1
 . grind [gz,gB,jS,tF,yM,pL,wL,LY]
 . grind [gz,gB,tF,kD,yM]
def newF(n:Nat):FT:=(List.range n).map fun v=>(.nd .nil (v+1) .nil,0)
theorem aaL{n:Nat}(h:n<=1000000):Fo (lV n n) (newF n):=by
 have i:jT (newF n)=(List.range n).map (· + 1):=by
  unfold jT newF
  rw[List.flatMap_map]
  induction List.range n with
  | nil=>rfl
  | cons x l k =>
   rw[kR,k]
   rfl
 refine⟨fun e d=>?_,fun e d=>?_,?_,fun j g f=>?_,fun e d=>?_,⟨fun _=>0,fun _ _ _ _ _ _=>rfl,fun e d g=>?_⟩,?_,by rw[tF];omega,by rw[tF];omega⟩
 . obtain⟨v,hv,rfl⟩:=zq.1 d
   have hv:=l8.1 hv
   have c:fJ (lV n n) (v+1)=wL (v+1):=by rw[yM o_,if_pos o_]
   refine⟨⟨o_,by rw[tF];omega⟩,⟨by rw[c];rfl,by rw[c];rfl,by rw[c];rfl⟩,⟨by rw[c];rfl,?_,?_⟩,trivial,trivial⟩
   . rw[c];simp only[Tr.mem,pg,oH,l9,BX,c];rw[LY];rfl
   . rw[c];exact⟨by simp[wL,Tr.mem],fun j f=>.inl (by simpa[wL,Tr.mem]using f)⟩
 . obtain⟨v,hv,rfl⟩:=zq.1 d
   exact Nat.succ_ne_zero v
 . rw[i]
   exact List.Pairwise.map _ (fun a b (h:a≠b)=>by show a+1≠b+1;omega) rI
 . rw[i]
   rw[tF]at f
   exact zq.2 ⟨j-1,l8.2 o_,o_⟩
 . obtain⟨v,hv,rfl⟩:=zq.1 d
   rw[tF];show 0<n+1;omega
 . obtain⟨v,hv,rfl⟩:=zq.1 d
   exact absurd rfl g
 . rw[yM o_,if_neg o_];exact⟨rfl,rfl,rfl⟩
theorem Th{α:Type}[Inhabited α]{xs:List α}{i:Nat}{f g:α->α}(h:i<xs.length):fO (fO xs i f) i g=fO xs i (fun x=>g (f x)):=by
 have e:=jS (f:=f) h
 unfold fO at e ⊢
 rw[e,List.set_set]
theorem ab5(h:i<xs.length):fO (fO (fO xs i (fun x=>{ x with size:=1 })) i (fun x=>{ x with first:=i })) i (fun x=>{ x with total:=IntKind.i64.wrap (1+(fJ xs i).iO) })=fO xs i (fun x=>{ x with size:=1,first:=i,total:=IntKind.i64.wrap (1+x.iO) }):=by
 rw[Th h,Th h];rfl
theorem vt{y:List Nd}(a:y=fO xs i (fun x=>{ x with size:=1,first:=i,total:=IntKind.i64.wrap (1+x.iO) }))(h:i<xs.length):iJ xs i=mj (mj y i (fJ y i).k0) i (fJ y i).k1:=by
 have b:(fJ y i).k0=(fJ xs i).k0:=by rw[a,jS h]
 have e1:(fJ y i).k1=(fJ xs i).k1:=by rw[a,jS h]
 rw[b,e1,a];rfl
theorem uw{k:Nat}(h:k=0):mj xs i k=xs:=by simp[mj,h]
section
variable {xs y0 y1 y2:List Nd} {i k:Nat}
theorem uu(h:k≠0)(a:y0=fO xs i (fun x=>{ x with size:=IntKind.i64.wrap ((fJ xs i).size+(fJ xs k).size) }))(e1:y1=fO y0 i (fun x=>{ x with total:=IntKind.i64.wrap ((fJ y0 i).total+(fJ y0 k).total) }))
 (c:lK y1 (fJ y1 k).first (fJ y1 i).first=true) (b:y2=fO y1 i (fun x=>{ x with first:=(fJ y1 k).first })):mj xs i k=y2:=by
 subst a e1 b
 simp only[mj,if_neg h]
 exact if_pos c
theorem ur(h:k≠0)(a:y0=fO xs i (fun x=>{ x with size:=IntKind.i64.wrap ((fJ xs i).size+(fJ xs k).size) }))(e1:y1=fO y0 i (fun x=>{ x with total:=IntKind.i64.wrap ((fJ y0 i).total+(fJ y0 k).total) }))
 (b:lK y1 (fJ y1 k).first (fJ y1 i).first=false):mj xs i k=y1:=by
 have c : ¬ lK y1 (fJ y1 k).first (fJ y1 i).first=true:=by rw[b];simp
 subst a e1
 simp only[mj,if_neg h]
 exact if_neg c
end
theorem Dk(xs:List Nd)(i:Nat):jI xs i=(0,false)\/jI xs i=(0,true)\/jI xs i=(1,true):=by
 unfold jI
 (repeat' split)<;>simp
theorem fZ.kW(h:fZ xs){s k:Nat}(hi:i<xs.length)(hk:k<xs.length):fZ (jb xs i s k):=by
 have f:fZ (if s=0 then fO xs i (fun x=>{ x with k0:=k })else fO xs i (fun x=>{ x with k1:=k })):=by
  split
  . exact h.iP hi fun x a b c d e=>⟨hk,b,c,d,e⟩
  . exact h.iP hi fun x a b c d e=>⟨a,hk,c,d,e⟩
 have g:(if s=0 then fO xs i (fun x=>{ x with k0:=k })else fO xs i (fun x=>{ x with k1:=k })).length=xs.length:=by split<;>exact gB
 by_cases hk0:k=0
 . simp only[jb,if_pos hk0]
   exact f
 . simp only[jb,if_neg hk0]
   exact f.iP (by rw[g];exact hk) fun x a b c d e=>⟨a,b,by rw[g];exact hi,d,e⟩
theorem Fq(xs:List Nd)(i s k:Nat):(jb xs i s k).length=xs.length:=by
 unfold jb
 simp only
 (repeat' split)<;>simp only[gB]
theorem KB(xs:List Nd)(i k:Nat):(mj xs i k).length=xs.length:=by
 unfold mj
 simp only
 (repeat' split)<;>simp only[gB]
theorem Gd(xs:List Nd)(i:Nat):(iJ xs i).length=xs.length:=by
 simp only[iJ,KB,gB]
theorem fZ.mj(h:fZ xs){k:Nat}(hi:i<xs.length)(hk:k<xs.length):fZ (mj xs i k):=by
 have g:fZ (fO xs i (fun x=>{ x with size:=IntKind.i64.wrap (x.size+(fJ xs k).size) })):=h.iP hi fun x a b c d e=>⟨a,b,c,d,e⟩
 have j:(fO xs i (fun x=>{ x with size:=IntKind.i64.wrap (x.size+(fJ xs k).size) })).length=xs.length:=gB
 unfold Go.Sx.mj
 simp only
 generalize fO xs i (fun x=>{ x with size:=IntKind.i64.wrap (x.size+(fJ xs k).size) })=y0 at g j ⊢
 have f:fZ (fO y0 i (fun x=>{ x with total:=IntKind.i64.wrap (x.total+(fJ y0 k).total) })):=g.iP o_ fun x a b c d e=>⟨a,b,c,d,e⟩
 have l1:(fO y0 i (fun x=>{ x with total:=IntKind.i64.wrap (x.total+(fJ y0 k).total) })).length=y0.length:=gB
 generalize fO y0 i (fun x=>{ x with total:=IntKind.i64.wrap (x.total+(fJ y0 k).total) })=y1 at f l1 ⊢
 split
 . exact h
 split
 . exact f.iP o_ fun x a b c d e=>⟨a,b,c,f.first k o_,e⟩
 . exact f
theorem fZ.mh(h:fZ xs)(hi:i<xs.length):fZ (iJ xs i):=by
 have f:fZ (fO xs i (fun x=>{ x with size:=1,first:=i,total:=IntKind.i64.wrap (1+x.iO) })):=h.iP hi fun x a b c d e=>⟨a,b,c,hi,e⟩
 have g:(fO xs i (fun x=>{ x with size:=1,first:=i,total:=IntKind.i64.wrap (1+x.iO) })).length=xs.length:=gB
 have a:=h.k0 i hi
 have b:=h.k1 i hi
 unfold iJ
 exact(f.mj o_ o_).mj (by rw[KB];omega) (by rw[KB];omega)
def I9(P:Program)(f:FuncId):Bool:=match P.funcs[f]? with
 | some fn => fn.body.isSome && !(fn.name == "runtime.NumGoroutine")
 | none=>false
theorem eN{P:Program}{f:FuncId}(h:I9 P f=true:=by kernel_rfl):xA P f:=fun args w=>by
 unfold I9 at h
 split at h
 . rename_i fn c
   rw[nq]at h
   have a : ¬ fn.name = "runtime.NumGoroutine" := by simpa using h.2
   have b:¬ fn.body=none:=fun hb=>by rw[hb]at h;simp at h
   simp only[callFunc,zx]
   simp[program,Sem.run,c,a,b]
 . cases h
theorem om{p:Prop}(h:p:=by first|omega|(simp only[gB];omega)):p:=h
theorem oa{p:Prop}(h:p:=by first|assumption|omega|(simp only[gB];omega)):p:=h
theorem o9{p q:Prop}(a:q)(h:q->p:=by intro a;first|omega|(simp only[gB]at a ⊢;omega)|(simp only[gB]at a;omega)|(simp only[gB];omega)):p:=h a
theorem iH{bs:List (World×List Nat)}{A:fT}{t m:Nat}{w:World}(a:fZ xs)(hs:St bs [A,blk i t (xs.flatMap Nd.cells)] w)(b:xs.length=m:=by first|omega|(simp only[gB];omega)|(rw[Fq];omega)|(rw[Gd];omega)|omega):∃ y,y=xs/\y.length=m/\fZ y/\St bs [A,blk i t (y.flatMap Nd.cells)] w:=⟨xs,rfl,b,a,hs⟩
section
variable {P:Program} {bs:List (World×List Nat)} {L LL A A' B:List fT} {R R' : fT} {w w' : World}
theorem St.tn(i:Nat)(h:St bs L w)(ht:fV R w w' R')(hi:L[i]? = some R:=by exact rfl)(a:L.set i R' = LL:=by first|(dsimp only[List.set];exact rfl)|exact rfl):St bs LL w' := St.LN i h hi ht a
theorem St.tu(h:St bs (gh A :: B) w)(ht:fV (gh A) w w' (gh A')):St bs (A' ++ B) w' := (St.LN 0 h rfl ht rfl).unpack
theorem St.eT(h:St bs (R' :: L) w')(hb:(w,R.gJ)∈bs:=by exact zd):fV R w w' R' := h.Ff hb
theorem St.eM(h:St bs (R :: L) w')(hb:(w,[])∈bs:=by simp):fV (gh []) w w' R:=h.Oo hb
theorem en{f:FuncId}{fn:Func}{c:Code}{n:Nat}{R:Ending->World->Prop}(a:P.funcs[f]? = some fn)(b:fn.ntmps=n)(h:WP none P c (bodyPost P fn R) (Fr n (v7 vs 0) []) w)(hb:fn.body=some c:=by exact rfl)(hs:Nat.ble vs.length n=true:=by exact rfl):Calls P f vs.toArray w R:=enter a hb b hs h
variable {ops:Array Oper} {Q:Exit->Act->World->Prop} {n:Nat} {s:List (Nat×Value)} {ds:List Deferred} {r d:Option Nat} {ty:TypeId} {pos:String} {af:Array Edge} {g:Option (Nat×Bool)} {rest:List Oper}
theorem cl{f:FuncId}{a:List Operand}{T:Array TypeId}{vl:List Value}{R:Value->World->Prop}(hc:CR P f vl.toArray w R)(K:∀ v w', R v w' -> WL r P ops Q rest (Fr n (yP d v s) ds) w')(c:gI ops n s g=true:=by exact rfl)(hvs:a.map (ev n s)=vl:=by exact rfl)(b:I9 P f=true:=by kernel_rfl) :
 WL r P ops Q (⟨d,.call ⟨.value (.func f),a.toArray,T⟩,ty,pos,af,g⟩ :: rest) (Fr n s ds) w:=jw c hvs (eN b) hc K
end
theorem W8(a k:Nat)(m:Nat)(h:k<=m):(a:Int).fdiv (2 ^ (min ((k:Nat):Int).toNat m))=((a / 2 ^ k:Nat):Int):=by
 rw[nG,vM h]
 rw[Int.fdiv_eq_ediv_of_nonneg _ (Int.pow_nonneg d_)]
 simp
section
variable {r:Option Nat} {P:Program} {ops:Array Oper} {Q:Exit->Act->World->Prop} {rest:List Oper} {n d:Nat} {s:List (Nat×Value)} {ds:List Deferred} {w:World} {ty:TypeId} {pos:String} {af:Array Edge} {g:Option (Nat×Bool)}
theorem XS{x y:Operand}{t:TypeId}{k:IntKind}{b:ByteArray}{i:Int}(e:gI ops n s g=true)(f:ev n s x = .string b)(h:ev n s y = .int k i)(ht:P.underlying t=some .string)(hm:b.size=m)(a:0<=i)(hi:i<m)(K:∀ c:UInt8,c.toNat<256->WL r P ops Q rest (Fr n ((d,.int .u8 c.toNat) :: s) ds) w):WL r P ops Q (⟨some d,.index t x y,ty,pos,af,g⟩ :: rest) (Fr n s ds) w :=
 XR e f h ht a (getElem?_pos b i.toNat (by show i.toNat<b.size;omega)) (K _ (UInt8.toNat_lt _))
end
def iD(n c:Nat):Nat:=if c+1=n then 0 else c+1
def dst(n a b:Nat):Nat:=if a<=b then b-a else b+n-a
theorem Kl{n c:Nat}(h:c<n):iD n c<n:=by unfold iD;split<;>omega
theorem aaP{n c:Nat}(h:c<n):(c+1)%n=iD n c:=by
 unfold iD
 split
 . rename_i e;rw[e,Nat.mod_self]
 . exact Nat.mod_eq_of_lt o_
theorem I7{n a:Nat}(c:a<n)(hb:b<n):dst n a b<n:=by unfold dst;split<;>omega
theorem xS(n a:Nat):dst n a a=0:=by simp[dst]
theorem Fc{n a:Nat}(c:a<n)(hb:b<n):dst n a b=0↔a=b:=by unfold dst;split<;>omega
theorem Wx{n a c:Nat}(b:a<n)(hc:c<n)(h:iD n c≠a):dst n a (iD n c)=dst n a c+1:=by
 grind [dst,iD]
theorem Fb{n c:Nat}(a:p<n)(hc:c<n)(h:c≠p):dst n (iD n c) p+1=dst n c p:=by
 grind [dst,iD]
theorem Fa{n a c:Nat}(d:a<n)(hb:b<n)(hc:c<n)(h:dst n a b=dst n a c):b=c:=by
 grind [dst]
abbrev rK(n a b q:Nat):Prop:=dst n a q<dst n a b
def rL(n:Nat)(cs:List Nat)(hm:Nat->Nat):Prop:=∀ c i q,c<n->q<n->fJ cs c=i+1->rK n (hm i) c q->fJ cs q≠0
def ve(n:Nat)(cs:List Nat)(ok:Nat->Bool):Nat->Nat->Nat×Bool
 | 0,_=>(0,false)
 | f+1,c=>if fJ cs c=0 then(c,false)else if ok (fJ cs c-1)then(c,true)else ve n cs ok f (iD n c)
theorem ON{n:Nat}{cs:List Nat}{ok:Nat->Bool}{z:Nat}(k:z<n)(d:fJ cs z=0):∀ (f c:Nat),c<n->dst n c z<f -> 
 ∃ r,r<n/\dst n c r<=dst n c z/\(∀ q,q<n->dst n c q<dst n c r->fJ cs q≠0/\ok (fJ cs q-1)=false)/\((ve n cs ok f c=(r,false)/\fJ cs r=0)\/(ve n cs ok f c=(r,true)/\fJ cs r≠0/\ok (fJ cs r-1)=true)):=by
 intro f
 induction f with
 | zero=>intro c _ h;omega
 | succ f l =>
  intro c a m
  unfold ve
  by_cases h1:fJ cs c=0
  . grind [xS]
  . rw[if_neg h1]
    by_cases h2:ok (fJ cs c-1)=true
    . grind [xS]
    . rw[if_neg h2]
      have g:c≠z:=fun e=>h1 (by rw[e];exact d)
      have hs:=Fb k a g
      obtain⟨r,b,hd,o,j⟩:=l (iD n c) (Kl a) o_
      have i:c≠r:=by
       grind
      have t:=Fb b a i
      refine⟨r,b,o_,fun q s p=>?_,j⟩
      by_cases hqc:c=q
      . subst hqc
        exact⟨h1,by simpa using h2⟩
      . grind [Fb]
theorem Xj{n:Nat}{cs:List Nat}{ok:Nat->Bool}(f:rL n cs hm)(hp:p<n)(hi:fJ cs p=i+1)(c:hm i<n)(o:ok i=true)(t:∀ q j,q<n->fJ cs q=j+1->ok j=true->q=p)(k:∃ z,z<n/\fJ cs z=0):ve n cs ok n (hm i)=(p,true):=by
 obtain⟨z,d,l⟩:=k
 obtain⟨r,g,hd,s,h⟩:=ON (ok:=ok) d l n (hm i) c (I7 c d)
 rcases h with ⟨e,a⟩|⟨e,a,m⟩
 . exfalso
   rcases BY (dst n (hm i) r) (dst n (hm i) p)with b|b
   . exact f p i r hp g hi b a
   . grind [dst,Fa]
 . grind
theorem Xi{n:Nat}{cs:List Nat}{ok:Nat->Bool}{c:Nat}(hc:c<n)(e:∀ q j,q<n->fJ cs q=j+1->ok j=false)(b:∃ z,z<n/\fJ cs z=0):∃ r,r<n/\ve n cs ok n c=(r,false)/\fJ cs r=0/\∀ q,q<n->rK n c r q->fJ cs q≠0:=by
 obtain⟨z,a,d⟩:=b
 obtain⟨r,g,hd,f,h⟩:=ON (ok:=ok) a d n c hc (I7 hc a)
 grind
theorem rL.put{n:Nat}{cs:List Nat}{r:Nat}(h:rL n cs hm)(o:cs.length=n)(s:r<n)(l:fJ cs r=0)(t:∀ q,q<n->rK n (hm i) r q->fJ cs q≠0)(m:hm i<n):rL n (fO cs r (fun _=>i+1)) hm:=by
 intro c j q b e a d
 have g:=fun q=>jG (xs:=cs) (k:=r) (j:=q) (f:=fun _=>i+1) o_
 rw[g]at a ⊢
 split
 . omega
 . rename_i p
   split at a
   . grind
   . exact h c j q b e a d
structure pU (n:Nat) (hm:Nat->Nat) (i0:Nat) (cs0 cs:List Nat) (hole c z:Nat):Prop where
 len:cs.length=n
 wm:hole<n
 Oa:c<n
 D6:z<n
 home:∀ p i,p<n->p≠hole->fJ cs p=i+1->hm i<n
 inj:∀ p q,p<n->q<n->p≠hole->q≠hole->fJ cs p≠0->fJ cs p=fJ cs q->p=q
 mem:∀ i,(∃ p,p<n/\p≠hole/\fJ cs p=i+1)↔i≠i0/\∃ p,p<n/\fJ cs0 p=i+1
 way:∀ p i q,p<n->q<n->p≠hole->q≠hole->fJ cs p=i+1->rK n (hm i) p q->fJ cs q≠0
 QH:∀ p i,p<n->p≠hole->fJ cs p=i+1->rK n (hm i) p hole->dst n hole c<dst n hole p
 zero:fJ cs z=0
 zc:dst n hole c<dst n hole z
theorem pU.start{n:Nat}{i0:Nat}{cs:List Nat}{hole z:Nat}(d:rL n cs hm)(h:cs.length=n)(b:hole<n)(hi:fJ cs hole=i0+1)(l:z<n)(c:fJ cs z=0)(f:∀ p i,p<n->fJ cs p=i+1->hm i<n)(g:∀ p q,p<n->q<n->fJ cs p≠0->fJ cs p=fJ cs q->p=q):pU n hm i0 cs cs hole hole z:=by
 have o:hole≠z:=fun e=>by rw[e,c]at hi;omega
 refine⟨h,b,b,l,fun p i hp _=>f p i hp,fun p q hp a _ _=>g p q hp a,fun i=>⟨?_,?_⟩,fun p i q hp a _ _ k j=>d p i q hp a k j,fun p i hp m _ _=>?_,c,?_⟩
 . grind
 . grind
 . grind [xS,Fc]
 . grind [xS,Fc]
section
variable {n:Nat} {hm:Nat->Nat} {i0:Nat} {cs0 cs:List Nat} {hole c z:Nat}
theorem pU.next(h:pU n hm i0 cs0 cs hole c z):iD n c<n/\iD n c≠hole/\dst n hole (iD n c)=dst n hole c+1/\c≠z/\dst n (iD n c) z<dst n c z:=by
 have a:=h.zc
 have b:=h.Oa
 have d:=h.wm
 have e:=h.D6
 grind [Fb,iD,dst,I7,Kl,Wx]
theorem pU.skip(h:pU n hm i0 cs0 cs hole c z)(hi:fJ cs (iD n c)=i+1)(t:dst n (hm i) (iD n c)<dst n hole (iD n c)):pU n hm i0 cs0 cs hole (iD n c) z:=by
 obtain⟨a,l,m,o,q⟩:=h.next
 refine⟨h.len,h.wm,a,h.D6,h.home,h.inj,h.mem,h.way,fun p j hp b d g=>?_,h.zero,?_⟩
 . have r:=h.QH p j hp b d g
   have:p≠iD n c:=by
    intro e
    subst e
    have:j=i:=by omega
    subst this
    have s:=h.home _ _ a b d
    have k:=h.wm
    unfold rK dst at *
    grind
   have f:dst n hole p≠dst n hole (iD n c):=fun e=>this (Fa h.wm hp a e)
   omega
 . have:z≠iD n c:=fun e=>by
    have:=h.zero
    rw[e,hi]at this
    omega
   have f:dst n hole z≠dst n hole (iD n c):=fun e=>this (Fa h.wm h.D6 a e)
   have:=h.zc
   omega
theorem pU.move(h:pU n hm i0 cs0 cs hole c z)(hi:fJ cs (iD n c)=i+1)(w:¬ dst n (hm i) (iD n c)<dst n hole (iD n c)):pU n hm i0 cs0 (fO cs hole (fun _=>i+1)) (iD n c) (iD n c) z:=by
 obtain⟨b,l,E,F,G⟩:=h.next
 have y:=h.len
 have v:=h.wm
 have x:=h.home _ _ b l hi
 have g:=fun q=>jG (xs:=cs) (k:=hole) (j:=q) (f:=fun _=>i+1) o_
 have C:hole≠z:=fun e=>by
  have:=h.zc
  rw[<-e,xS]at this
  omega
 have D:z≠iD n c:=fun e=>by
  have:=h.zero
  rw[e,hi]at this
  omega
 have B:rK n (hm i) (iD n c) hole:=by
  unfold rK dst at *
  (repeat' split at w)<;>(repeat' split)<;>omega
 refine⟨by rw[gB];exact y,b,b,h.D6,fun p j hp o a=>?_,fun p q hp m t u s d=>?_,fun j=>?_,fun p j q hp m t u a r=>?_,fun p j hp o a r=>?_,?_,?_⟩
 . rw[g]at a
   split at a
   . have:j=i:=by omega
     subst this
     exact x
   . rename_i A
     exact h.home p j hp (fun e=>A e.symm) a
 . rw[g]at s d
   rw[g]at d
   by_cases e1:hole=p
   . by_cases e2:hole=q
     . omega
     . rw[if_pos e1,if_neg e2]at d
       have:=h.inj q (iD n c) m b (fun e=>e2 e.symm) l o_ o_
       exact absurd this u
   . by_cases e2:hole=q
     . rw[if_neg e1,if_pos e2]at d
       have:=h.inj p (iD n c) hp b (fun e=>e1 e.symm) l o_ o_
       exact absurd this t
     . rw[if_neg e1,if_neg e2]at d
       rw[if_neg e1]at s
       exact h.inj p q hp m (fun e=>e1 e.symm) (fun e=>e2 e.symm) s d
 . rw[<-h.mem j]
   constructor
   . grind [iD]
   . rintro⟨p,hp,o,a⟩
     by_cases e1:p=iD n c
     . refine⟨hole,v,fun e=>l e.symm,?_⟩
       rw[g,if_pos rfl]
       rw[e1,hi]at a
       omega
     . refine⟨p,hp,e1,?_⟩
       grind
 . rw[g]at a ⊢
   by_cases e2:hole=q
   . rw[if_pos e2];omega
   . rw[if_neg e2]
     by_cases e1:hole=p
     . rw[if_pos e1]at a
       have:j=i:=by omega
       subst this
       subst e1
       exact h.way (iD n c) j q b m l (fun e=>e2 e.symm) hi (Nat.lt_trans r B)
     . rw[if_neg e1]at a
       exact h.way p j q hp m (fun e=>e1 e.symm) (fun e=>e2 e.symm) a r
 . rw[xS]
   have:=mt (Fc b hp).1 (fun e=>o e.symm)
   omega
 . rw[g,if_neg C]
   exact h.zero
 . rw[xS]
   have:=mt (Fc b h.D6).1 (fun e=>D e.symm)
   omega
theorem pU.done(h:pU n hm i0 cs0 cs hole c z)(m:fJ cs (iD n c)=0)(E:∃ p,p<n/\fJ cs0 p=i0+1) :
 rL n (fO cs hole (fun _=>0)) hm/\(∀ p q,p<n->q<n->fJ (fO cs hole (fun _=>0)) p≠0->fJ (fO cs hole (fun _=>0)) p=fJ (fO cs hole (fun _=>0)) q->p=q) /\
 (∀ i,(∃ p,p<n/\fJ (fO cs hole (fun _=>0)) p=i+1)↔i≠i0/\∃ p,p<n/\fJ cs0 p=i+1):=by
 obtain⟨o,s,t,C,u⟩:=h.next
 have F:=h.len
 have A:=h.wm
 have l:=fun q=>jG (xs:=cs) (k:=hole) (j:=q) (f:=fun _=>0) o_
 refine⟨fun p i q hp g a r=>?_,fun p q hp g d b=>?_,fun i=>?_⟩
 . rw[l]at a ⊢
   by_cases e1:hole=p
   . rw[if_pos e1]at a;omega
   . rw[if_neg e1]at a
     have D:=h.home p i hp (fun e=>e1 e.symm) a
     by_cases e2:hole=q
     . exfalso
       subst e2
       have v:=h.QH p i hp (fun e=>e1 e.symm) a r
       have w:p≠iD n c:=fun e=>by rw[e,m]at a;omega
       have x:dst n hole p≠dst n hole (iD n c):=fun e=>w (Fa A hp o e)
       have y:rK n (hm i) p (iD n c):=by
        have B:dst n hole (iD n c)<dst n hole p:=by omega
        clear v x t u
        unfold rK dst at *
        grind
       exact h.way p i (iD n c) hp o (fun e=>e1 e.symm) s a y m
     . rw[if_neg e2]
       exact h.way p i q hp g (fun e=>e1 e.symm) (fun e=>e2 e.symm) a r
 . rw[l]at d b
   rw[l]at b
   by_cases e1:hole=p
   . rw[if_pos e1]at d;omega
   . rw[if_neg e1]at d b
     by_cases e2:hole=q
     . rw[if_pos e2]at b;omega
     . rw[if_neg e2]at b
       exact h.inj p q hp g (fun e=>e1 e.symm) (fun e=>e2 e.symm) d b
 . rw[<-h.mem i]
   constructor
   . rintro⟨p,hp,a⟩
     grind
   . rintro⟨p,hp,G,a⟩
     grind
end
structure gH where
 ix:Nat
 key:Int
 deriving Inhabited
def gH.cells(x:gH):List Value:=[.int .i64 x.ix,.int .i64 x.key]
def iF(a b:gH):Prop:=a.key<b.key\/a.key=b.key/\a.ix<b.ix
instance (a b:gH):Decidable (iF a b):=by unfold iF;infer_instance
theorem CQ(a:gH):¬ iF a a:=by unfold iF;omega
theorem JV{a b c:gH}(h:iF a b)(k:iF b c):iF a c:=by unfold iF at *;omega
theorem PY{a b:gH}(h:iF a b):¬ iF b a:=by unfold iF at *;omega
theorem FX{a b c:gH}(h:¬ iF a b)(k:¬ iF b c):¬ iF a c:=by unfold iF at *;omega
def qF(a b:gH):Int:=if a.key<b.key then -1 else if b.key<a.key then 1 else if a.ix<b.ix then -1 else if b.ix<a.ix then 1 else 0
theorem oC{a b:gH}:qF a b<0↔iF a b:=by
 grind [qF,iF]
abbrev pa(p:Nat):Nat:=(p-1) / 2
def Ord(xs:List gH):Prop:=∀ j,0<j->j<xs.length->¬ iF (fJ xs j) (fJ xs (pa j))
structure tP (xs:List gH) (p:Nat):Prop where
 rest:∀ j,0<j->j<xs.length->j≠p->pa j≠p->¬ iF (fJ xs j) (fJ xs (pa j))
 kids:0<p->∀ j,0<j->j<xs.length->pa j=p->¬ iF (fJ xs j) (fJ xs (pa p))
structure uL (xs:List gH) (p:Nat):Prop where
 rest:∀ j,0<j->j<xs.length->pa j≠p->¬ iF (fJ xs j) (fJ xs (pa j))
 kids:0<p->∀ j,0<j->j<xs.length->pa j=p->¬ iF (fJ xs j) (fJ xs (pa p))
def iK(xs:List gH)(p q:Nat):List gH:=fO (fO xs p (fun _=>fJ xs q)) q (fun _=>fJ xs p)
theorem ni(xs:List gH)(p q:Nat):(iK xs p q).length=xs.length:=by simp[iK,gB]
theorem Bt{xs:List gH}(hp:p<xs.length)(a:q<xs.length)(j:Nat):fJ (iK xs p q) j=if q=j then fJ xs p else if p=j then fJ xs q else fJ xs j:=by
 grind [iK,jG,gB]
theorem tP.up{xs:List gH}(h:tP xs p)(i:0<p)(hp:p<xs.length)(m:iF (fJ xs p) (fJ xs (pa p))):tP (iK xs p (pa p)) (pa p):=by
 have o:pa p<p:=by simp only[pa];omega
 have hs:=Bt hp (show pa p<xs.length by omega)
 refine⟨fun j b a l d=>?_,fun f j b a e=>?_⟩
 . rw[ni]at a
   rw[hs,hs]
   by_cases e1:p=j
   . subst e1;exact absurd rfl d
   . rw[if_neg (fun e=>l e.symm),if_neg e1,if_neg (fun e=>d e.symm)]
     by_cases e2:p=pa j
     . rw[if_pos e2]
       exact h.kids i j b a e2.symm
     . rw[if_neg e2]
       exact h.rest j b a (fun e=>e1 e.symm) (fun e=>e2 e.symm)
 . rw[ni]at a
   have n:pa (pa p)<pa p:=by simp only[pa]at f ⊢;omega
   have ht:fJ (iK xs p (pa p)) (pa (pa p))=fJ xs (pa (pa p)):=by rw[hs,if_neg o_,if_neg o_]
   have g:¬ iF (fJ xs (pa p)) (fJ xs (pa (pa p))):=h.rest (pa p) f o_ o_ o_
   rw[ht,hs]
   have k:pa p≠j:=fun e' => by rw[<-e']at e;simp only[pa]at *;omega
   rw[if_neg k]
   by_cases e1:p=j
   . rw[if_pos e1];exact g
   . rw[if_neg e1]
     have c:=h.rest j b a (fun e=>e1 e.symm) o_
     rw[e]at c
     exact FX c g
theorem tP.stop{xs:List gH}(h:tP xs p)(d:¬ (0<p/\iF (fJ xs p) (fJ xs (pa p)))):uL xs p:=by
 refine⟨fun j a b f=>?_,h.kids⟩
 by_cases e:j=p
 . subst e
   exact fun c=>d ⟨a,c⟩
 . exact h.rest j a b e f
def jE(xs:List gH)(p:Nat):Nat :=
 let f:=if 2*p+1<xs.length/\iF (fJ xs (2*p+1)) (fJ xs p)then 2*p+1 else p
 if 2*p+2<xs.length/\iF (fJ xs (2*p+2)) (fJ xs f)then 2*p+2 else f
theorem aa5{j:Nat}(a:0<j):pa j=p↔j=2*p+1\/j=2*p+2:=by simp only[pa];omega
theorem UM{xs:List gH}(h:jE xs p=p):∀ j,0<j->j<xs.length->pa j=p->¬ iF (fJ xs j) (fJ xs p):=by
 intro j a b e
 unfold jE at h
 grind
theorem NL{xs:List gH}(h:jE xs p≠p):jE xs p<xs.length/\p<jE xs p/\pa (jE xs p)=p/\iF (fJ xs (jE xs p)) (fJ xs p)/\∀ j,0<j->j<xs.length->pa j=p->¬ iF (fJ xs j) (fJ xs (jE xs p)):=by
 have f:∀ j,0<j->j<xs.length->pa j=p->j=2*p+1\/j=2*p+2:=fun j d _ e=>(aa5 d).1 e
 have c:jE xs p=(if 2*p+2<xs.length/\iF (fJ xs (2*p+2)) (fJ xs (if 2*p+1<xs.length/\iF (fJ xs (2*p+1)) (fJ xs p)then 2*p+1 else p))then 2*p+2 else(if 2*p+1<xs.length/\iF (fJ xs (2*p+1)) (fJ xs p)then 2*p+1 else p)):=rfl
 rw[c]at h ⊢
 by_cases h1:2*p+1<xs.length/\iF (fJ xs (2*p+1)) (fJ xs p)
 . rw[if_pos h1]at h ⊢
   by_cases h2:2*p+2<xs.length/\iF (fJ xs (2*p+2)) (fJ xs (2*p+1))
   . rw[if_pos h2]at h ⊢
     refine⟨h2.1,o_,by simp only[pa];omega,JV h2.2 h1.2,fun j b a e=>?_⟩
     grind [PY,CQ]
   . rw[if_neg h2]at h ⊢
     refine⟨h1.1,o_,by simp only[pa];omega,h1.2,fun j b a e=>?_⟩
     grind [CQ]
 . rw[if_neg h1]at h ⊢
   by_cases h2:2*p+2<xs.length/\iF (fJ xs (2*p+2)) (fJ xs p)
   . rw[if_pos h2]at h ⊢
     refine⟨h2.1,o_,by simp only[pa];omega,h2.2,fun j b a e=>?_⟩
     grind [JV,CQ]
   . rw[if_neg h2]at h
     exact absurd rfl h
theorem uL.down{xs:List gH}{c:Nat}(h:uL xs p)(hc:jE xs p=c)(i:c≠p):uL (iK xs p c) c:=by
 subst hc
 obtain⟨d,n,f,m,g⟩:=NL i
 generalize jE xs p=c at *
 have hs:=Bt (show p<xs.length by omega) d
 refine⟨fun j b a k => ?_,fun _ j b a e=>?_⟩
 . rw[ni]at a
   rw[hs,hs]
   by_cases e1:c=j
   . grind [PY]
   . rw[if_neg e1,if_neg (show ¬ c=pa j from fun e=>k e.symm)]
     by_cases e2:p=j
     . subst e2
       rw[if_pos rfl,if_neg (by simp only[pa];omega)]
       exact h.kids b c o_ d f
     . rw[if_neg e2]
       by_cases e3:p=pa j
       . rw[if_pos e3]
         exact g j b a e3.symm
       . rw[if_neg e3]
         exact h.rest j b a (fun e=>e3 e.symm)
 . rw[ni]at a
   have l:c<j:=by simp only[pa]at e;omega
   rw[hs,hs,if_neg o_,if_neg o_,f,if_neg o_,if_pos rfl]
   have:=h.rest j b a o_
   rw[e]at this
   exact this
theorem uL.stop{xs:List gH}(h:uL xs p)(hb:jE xs p=p):Ord xs:=by
 intro j b a
 by_cases e:pa j=p
 . rw[e];exact UM hb j b a e
 . exact h.rest j b a e
structure Hp (n:Nat) (xs:List gH) (pl:List Nat):Prop where
 ix:∀ p,p<xs.length->(fJ xs p).ix<n
 key:∀ p,p<xs.length->gU .i64 (fJ xs p).key
 at_:∀ p,p<xs.length->fJ pl (fJ xs p).ix=p+1
 of:∀ i p,i<n->fJ pl i=p+1->p<xs.length/\(fJ xs p).ix=i
 pl:n<=pl.length
 len:xs.length<=n
theorem Hp.inj{n:Nat}{xs:List gH}(h:Hp n xs pl)(hp:p<xs.length)(b:q<xs.length)(e:(fJ xs p).ix=(fJ xs q).ix):p=q:=by
 have a:=h.at_ p hp
 have c:=h.at_ q b
 rw[e]at a
 omega
def ji(pl:List Nat)(i p:Nat):List Nat:=fO pl i (fun _=>p)
theorem Hp.swap{n:Nat}{xs:List gH}(h:Hp n xs pl)(hp:p<xs.length)(f:q<xs.length) :
 Hp n (iK xs p q) (ji (ji pl (fJ (iK xs p q) p).ix (p+1)) (fJ (iK xs p q) q).ix (q+1)):=by
 have hs:=Bt hp f
 have l:fJ (iK xs p q) q=fJ xs p:=by rw[hs,if_pos rfl]
 have k:fJ (iK xs p q) p=fJ xs q:=by
  rw[hs]
  split
  . rename_i e;rw[e]
  . rw[if_pos rfl]
 rw[l,k]
 have m:=h.pl
 have o:=h.ix p hp
 have r:=h.ix q f
 have g:∀ i,fJ (ji (ji pl (fJ xs q).ix (p+1)) (fJ xs p).ix (q+1)) i=if (fJ xs p).ix=i then q+1 else if (fJ xs q).ix=i then p+1 else fJ pl i:=fun i=>by
  unfold ji
  rw[jG (by rw[gB];omega),jG o_]
 refine⟨fun j c=>?_,fun j c=>?_,fun j c=>?_,fun i j hi d=>?_,by simp[ji,gB];exact m,by rw[ni];exact h.len⟩
 . rw[ni]at c
   rw[hs]
   split
   . exact o
   . split
     . exact r
     . exact h.ix j c
 . rw[ni]at c
   rw[hs]
   split
   . exact h.key p hp
   . split
     . exact h.key q f
     . exact h.key j c
 . rw[ni]at c
   rw[g,hs]
   by_cases e1:q=j
   . rw[if_pos e1,if_pos rfl,e1]
   . rw[if_neg e1]
     by_cases e2:p=j
     . rw[if_pos e2]
       subst e2
       by_cases e3:(fJ xs p).ix=(fJ xs q).ix
       . exact absurd (h.inj hp f e3).symm e1
       . rw[if_neg e3,if_pos rfl]
     . rw[if_neg e2,if_neg (fun e=>e2 (h.inj hp c e)),if_neg (fun e=>e1 (h.inj f c e))]
       exact h.at_ j c
 . rw[g]at d
   rw[ni,hs]
   by_cases e1:(fJ xs p).ix=i
   . rw[if_pos e1]at d
     grind
   . rw[if_neg e1]at d
     by_cases e2:(fJ xs q).ix=i
     . rw[if_pos e2]at d
       grind
     . rw[if_neg e2]at d
       obtain⟨a,b⟩:=h.of i j hi d
       refine⟨a,?_⟩
       grind
theorem Hp.push{n:Nat}{xs:List gH}(h:Hp n xs pl){k:Int}(hi:i<n)(q:fJ pl i=0)(hk:gU .i64 k):Hp n (xs++[⟨i,k⟩]) (ji pl i (xs.length+1)):=by
 have t:=h.pl
 have o:∀ j,fJ (ji pl i (xs.length+1)) j=if i=j then xs.length+1 else fJ pl j:=fun j=>jG o_
 have f:∀ p,fJ (xs++[⟨i,k⟩]) p=if p<xs.length then fJ xs p else if p=xs.length then⟨i,k⟩else default:=fun p=>by
  grind [fJ]
 have s:∀ p,p<xs.length->(fJ xs p).ix≠i:=fun p hp e=>by
  have:=h.at_ p hp
  rw[e,q]at this
  omega
 refine⟨fun p hp=>?_,fun p hp=>?_,fun p hp=>?_,fun j p g hp=>?_,by simp[ji,gB];exact t,?_⟩
 . rw[f]
   split
   . rename_i c;exact h.ix p c
   . grind
 . rw[f]
   split
   . rename_i c;exact h.key p c
   . grind
 . rw[o,f]
   by_cases c:p<xs.length
   . rw[if_pos c,if_neg (fun e=>s p c e.symm)]
     exact h.at_ p c
   . grind
 . rw[o]at hp
   rw[f]
   split at hp
   . grind
   . obtain⟨a,b⟩:=h.of j p g hp
     grind
 . -- places of different indexes: no more entries than indexes
   have r:((xs++[(⟨i,k⟩:gH)]).map gH.ix).Nodup:=by
    rw[nt,zr]
    refine⟨?_,s_,fun a m b hb e=>?_⟩
    . refine vE.2 fun a b m hb y w=>?_
      simp only[zu]at m hb
      refine absurd (h.inj m hb ?_) o_
      grind [fJ]
    . simp at hb
      subst hb e
      obtain⟨x,d,z⟩:=zq.1 m
      obtain⟨p,hp,rfl⟩:=Ht.1 d
      grind [fJ]
   have:=nodup_len n _ r fun j g=>by
    obtain⟨x,d,rfl⟩:=zq.1 g
    rcases zn.1 d with d|d
    . obtain⟨p,hp,rfl⟩:=Ht.1 d
      have:=h.ix p hp
      simpa[fJ,hp]using this
    . simp at d
      subst d
      exact hi
   simpa using this
where
 nodup_len:∀ (n:Nat) (L:List Nat),L.Nodup->(∀ j∈L,j<n)->L.length<=n
  | 0,L,_,h=>by
   cases L with
   | nil=>simp
   | cons x L=>exact absurd (h x s_) o_
  | n+1,L,f,h=>by
   have c:=nodup_len n (L.erase n) (f.erase n) (fun j g=>by
    have u:=h j (List.mem_of_mem_erase g)
    have v:j≠n:=fun e=>by subst e;exact(List.Nodup.not_mem_erase f) g
    omega)
   have:=List.length_erase_le (a:=n) (l:=L)
   by_cases hm:n∈L
   . have:=DL hm
     have:=Hq hm
     omega
   . rw[List.erase_of_not_mem hm]at c;omega
theorem ri{α:Type}[Inhabited α]{xs:List α}{e:α}:e∈xs↔∃ p,p<xs.length/\fJ xs p=e:=by
 constructor
 . intro h
   obtain⟨p,hp,rfl⟩:=Ht.1 h
   exact⟨p,hp,by simp[fJ,hp]⟩
 . rintro⟨p,hp,rfl⟩
   exact ze (gz hp)
theorem Lc{xs:List gH}(hp:p<xs.length)(a:q<xs.length)(e:gH):e∈iK xs p q↔e∈xs:=by
 have hs:=Bt hp a
 grind [ri,ni]
theorem Ord.first{xs:List gH}(h:Ord xs):∀ p,p<xs.length->¬ iF (fJ xs p) (fJ xs 0):=by
 intro p
 induction p using Nat.strongRecOn with
 | _ p b =>
  intro hp
  by_cases h0:p=0
  . subst h0;exact CQ _
  . have a:pa p<p:=by simp only[pa];omega
    exact FX (h p o_ hp) (b (pa p) a o_)
theorem Ord.min{xs:List gH}(h:Ord xs){e:gH}(a:e∈xs):¬ iF e (fJ xs 0):=by
 obtain⟨p,hp,rfl⟩:=ri.1 a
 exact h.first p hp
theorem sA{α:Type}[Inhabited α]{xs:List α}{m j:Nat}(h:j<m):fJ (xs.take m) j=fJ xs j:=by
 grind [fJ]
theorem Hp.cut{n:Nat}{xs:List gH}{m:Nat}(h:Hp n xs pl)(hm:xs.length=m+1):Hp n (xs.take m) (ji pl (fJ xs m).ix 0):=by
 have f:=h.pl
 have g:=h.ix m o_
 have d:∀ j,fJ (ji pl (fJ xs m).ix 0) j=if (fJ xs m).ix=j then 0 else fJ pl j:=fun j=>jG o_
 have c:(xs.take m).length=m:=by rw[k8];omega
 refine⟨fun p hp=>?_,fun p hp=>?_,fun p hp=>?_,fun i p hi hp=>?_,by simp[ji,gB];exact f,by have:=h.len;omega⟩
 . rw[c]at hp;rw[sA hp];exact h.ix p o_
 . rw[c]at hp;rw[sA hp];exact h.key p o_
 . rw[c]at hp
   rw[sA hp,d,if_neg (fun e=>by have:=h.inj (p:=m) (q:=p) o_ o_ e;omega)]
   exact h.at_ p o_
 . rw[d]at hp
   split at hp
   . omega
   . rename_i k
     obtain⟨a,b⟩:=h.of i p hi hp
     grind [sA]
theorem Wg{n:Nat}{xs:List gH}{m:Nat}(h:Hp n xs pl)(hm:xs.length=m+1)(e:gH):e∈xs.take m↔e∈xs/\e.ix≠(fJ xs m).ix:=by
 have b:(xs.take m).length=m:=by rw[k8];omega
 rw[ri,ri,b]
 constructor
 . rintro⟨j,a,rfl⟩
   rw[sA a]
   exact⟨⟨j,o_,rfl⟩,fun e=>by have:=h.inj (p:=j) (q:=m) o_ o_ e;omega⟩
 . rintro⟨⟨j,a,rfl⟩,c⟩
   have:j≠m:=fun e=>c (by rw[e])
   exact⟨j,o_,sA o_⟩
theorem Ord.cut{xs:List gH}{m:Nat}(h:Ord xs)(hm:xs.length=m+1)(hp:p<m):tP ((iK xs p m).take m) p:=by
 have d:((iK xs p m).take m).length=m:=by rw[k8,ni];omega
 have hs:=Bt (xs:=xs) (show p<xs.length by omega) (show m<xs.length by omega)
 refine⟨fun j b a i k=>?_,fun b j g a e=>?_⟩
 . rw[d]at a
   have c:pa j<m:=by simp only[pa];omega
   rw[sA a,sA c,hs,hs,if_neg o_,if_neg (fun e=>i e.symm),if_neg o_,if_neg (fun e=>k e.symm)]
   exact h j b o_
 . rw[d]at a
   have c:pa p<p:=by simp only[pa];omega
   have f:j≠p:=by rintro rfl;omega
   rw[sA a,sA o_,hs,hs,if_neg o_,if_neg (fun e=>f e.symm),if_neg o_,if_neg o_]
   exact FX (h j g o_) (by rw[e];exact h p b o_)
theorem Ord.Wb{xs:List gH}{m:Nat}(h:Ord xs)(hm:m<=xs.length):Ord (xs.take m):=by
 intro j a c
 rw[k8]at c
 have b:pa j<m:=by simp only[pa];omega
 rw[sA o_,sA b]
 exact h j a o_
theorem adV{xs:List gH}(hp:p<xs.length):iK xs p p=xs:=by
 have e:∀ (l:List gH),p<l.length->fO l p (fun _=>fJ l p)=l:=fun l a=>by
  apply oc
  grind [fO,gz]
 have e1:=e xs hp
 unfold iK
 rw[e1,e1]
theorem abL{xs:List gH}(h:Ord xs)(e:gH):tP (xs++[e]) xs.length:=by
 have c:∀ p,p<xs.length->fJ (xs++[e]) p=fJ xs p:=fun p hp=>by
  grind [fJ]
 refine⟨fun j a b g i=>?_,fun a j f b e' => ?_⟩
 . simp at b
   have d:pa j<j:=by simp only[pa];omega
   rw[c j o_,c (pa j) o_]
   exact h j a o_
 . grind
section
variable {r:Option Nat} {P:Program} {ops:Array Oper} {Q:Exit->Act->World->Prop} {rest:List Oper} {n:Nat} {s:List (Nat×Value)} {ds:List Deferred} {w:World}
variable {d:Nat} {dd:Option Nat} {ty t t' e:TypeId} {pos:String} {af:Array Edge} {g:Option (Nat×Bool)} {x y:Operand} {a:Addr} {sz by_:Nat} {z:Value}
theorem ac0(ht:P.underlying t=some (.pointer e))(hi:TI P e (sz+1) by_ z):(Op.equalIn (k+1) t (.pointer (some a)) (.pointer (some a))).run P w = .ok true w:=by
 simp[Op.equalIn,run_underlying ht,hi.size,sameAddr]
theorem WT(b:ev n s x = .pointer (some a))(c:ev n s y = .pointer (some a))(ht:P.underlying t=some (.pointer e))(hi:TI P e (sz+1) by_ z) :
 (execOp (ev n s) ⟨dd,.binOp .eql t x y t', ty,pos,af,g⟩).run P w = .ok (.value (.bool true)) w:=by
 simp[execOp,b,c,eqGuard,binOp,Op.equal,Op.maxDepth,ac0 9999 ht hi]
theorem xV(b:gI ops n s g=true)(c:ev n s x = .pointer (some a))(f:ev n s y = .pointer (some a))(ht:P.underlying t=some (.pointer e))(hi:TI P e (sz+1) by_ z)(K:WL r P ops Q rest (Fr n ((d,.bool true) :: s) ds) w):WL r P ops Q (⟨some d,.binOp .eql t x y t', ty,pos,af,g⟩ :: rest) (Fr n s ds) w:=pw b (fun _=>WT c f ht hi) K
end
theorem wT(b:Nat){a:Nat}(h:a<=9223372036854775807):IntKind.i64.wrap ((a:Int).tdiv (b:Int))=((a / b:Nat):Int):=by
 have:a / b<=a:=Nat.div_le_self _ _
 rw[Int.tdiv_eq_ediv_of_nonneg o_,show (a:Int) / (b:Int)=((a / b:Nat):Int) from rfl]
 generalize a / b=c at this
 rw[IntKind.wrap_i64]
 omega
theorem Df(b:Nat){a:Nat}:(a:Int).tmod (b:Int)=((a%b:Nat):Int):=by
 grind
def kg(x y:Int):Int:=if x<y then -1 else if y<x then 1 else 0
theorem Ob(x y:Int):gU .i64 (kg x y):=by
 show (-9223372036854775808:Int)<=_/\_<=(9223372036854775807:Int)
 unfold kg
 (repeat' split)<;>omega
def qm:List Int->Int
 | []=>0
 | x :: l=>if x=0 then qm l else x
theorem Qx{xs:List Int}{k:Nat}(h:∀ j x,j<k->xs[j]? = some x->x=0):qm xs=qm (xs.drop k):=by
 induction xs generalizing k with
 | nil=>simp[qm]
 | cons y xs b =>
  cases k with
  | zero=>rfl
  | succ k =>
   have a:=h 0 y o_ rfl
   grind [qm]
theorem Qv{xs:List Int}{k:Nat}(h:∀ j x,j<k->xs[j]? = some x->x=0)(c:xs[k]? = some x)(a:x≠0):qm xs=x:=by
 rw[Qx h]
 have:=(zt.1 c)
 obtain⟨b,e⟩:=this
 rw[Hw b,e]
 simp[qm,a]
theorem Qw{xs:List Int}{k:Nat}(h:∀ j x,j<k->xs[j]? = some x->x=0)(hk:k=xs.length):qm xs=0:=by
 rw[Qx h,hk]
 simp[qm]
theorem Qy{xs:List Int}{k:Nat}{y:Int}(h:∀ j x,j<k->xs[j]? = some x->x=0)(b:xs[k]? = some y)(a:y=0):∀ j x,j<k+1->xs[j]? = some x->x=0:=by
 grind
theorem Qz(a b:gH):qm [kg a.key b.key,kg a.ix b.ix]=qF a b:=by
 grind [qm,kg,qF]
structure jA (n:Nat) (ps:List (Option Nat)) (pl:List Nat):Prop where
 len:pl.length=64*ps.length
 room:n<=pl.length
 zero:∀ j,ps[j]? = some none->∀ i,i / 64=j->fJ pl i=0
 val:∀ i,fJ pl i<=65536
 n:n<=65536
 top:ps.length<=1000000
theorem jA.at{n:Nat}(h:jA n ps pl)(hi:i<n):i / 64<ps.length:=by
 have a:=h.len
 have b:=h.room
 omega
theorem jA.Vr{n:Nat}(h:jA n ps pl){j:Nat}(a:ps[j]? = some none):List.replicate 64 (Value.int .i64 0)=((pl.drop (64*j)).take 64).flatMap (fun(x:Nat)=>[.int .i64 (x:Int)]):=by
 have f:=(zt.1 a).1
 have g:=h.len
 have e:(pl.drop (64*j)).take 64=List.replicate 64 0:=by
  rw[List.eq_replicate_iff]
  refine⟨by rw[k8,DM];omega,fun x c=>?_⟩
  obtain⟨q,b,rfl⟩:=Ht.1 c
  rw[k8,DM]at b
  have d:=h.zero j a (64*j+q) o_
  grind [fJ]
 rw[e]
 rfl
theorem jA.set{n:Nat}(h:jA n ps pl)(hi:i<n)(hp:p<=65536)(hb:ps[i / 64]? = some (some b)):jA n ps (ji pl i p):=by
 have d:=h.room
 refine⟨by simp only[ji,gB];exact h.len,by simp only[ji,gB];exact d,fun j a q c=>?_,fun q=>?_,h.n,h.top⟩
 . unfold ji
   rw[jG o_,if_neg (fun e=>by subst e;rw[c]at hb;rw[a]at hb;cases hb)]
   exact h.zero j a q c
 . unfold ji
   rw[jG o_]
   split
   . exact hp
   . exact h.val q
theorem jA.made{n:Nat}{ps:List (Option Nat)}{pl:List Nat}(h:jA n ps pl){j b:Nat}:jA n (ps.set j (some b)) pl:=by
 refine⟨by rw[List.length_set];exact h.len,h.room,fun q a=>?_,h.val,h.n,by rw[List.length_set];exact h.top⟩
 rw[Ab]at a
 split at a
 . split at a<;>cases a
 . exact h.zero q a
instance:Inhabited (Option Nat):=⟨none⟩
abbrev fU(x:Nat):List Value:=[.int .i64 (x:Int)]
theorem paN(h:p<=65536):IntKind.i64.wrap (((p:Int)-1).tdiv 2)=((pa p:Nat):Int):=by
 cases p with
 | zero=>rfl
 | succ p =>
  have e:((p+1:Nat):Int)-1=(p:Int):=by omega
  rw[e]
  have:=wT 2 (a:=p) o_
  exact this
def rS(xs:List gH)(p:Nat):Int:=if 0<p/\iF (fJ xs p) (fJ xs (pa p))then(pa p:Int)else -1
def ou(xs:List gH)(p:Nat):Int:=if jE xs p=p then -1 else(jE xs p:Int)
theorem T9{xs:List gH}(h:rS xs p ≠ -1):rS xs p=((pa p:Nat):Int)/\0<p/\iF (fJ xs p) (fJ xs (pa p)):=by
 grind [rS]
theorem Ua{xs:List gH}(h:rS xs p = -1):¬ (0<p/\iF (fJ xs p) (fJ xs (pa p))):=by
 grind [rS]
theorem UH{xs:List gH}(h:ou xs p ≠ -1):ou xs p=((jE xs p:Nat):Int)/\jE xs p≠p:=by
 grind [ou]
theorem UI{xs:List gH}(h:ou xs p = -1):jE xs p=p:=by
 grind [ou]
structure oO (n:Nat) (xs ys:List gH) (ps qs:List (Option Nat)) (pl:List Nat):Prop where
 hp:Hp n ys pl
 gP:jA n qs pl
 len:ys.length=xs.length
 mem:∀ e,e∈ys↔e∈xs
 pM:qs.length=ps.length
theorem oO.swap{n:Nat}{xs ys:List gH}{c a:List (Option Nat)}(h:oO n xs ys ps c pl)(hp:p<ys.length)(b:q<ys.length)(f:a.length=c.length)(d:jA n a (ji (ji pl (fJ (iK ys p q) p).ix (p+1)) (fJ (iK ys p q) q).ix (q+1))):oO n xs (iK ys p q) ps a (ji (ji pl (fJ (iK ys p q) p).ix (p+1)) (fJ (iK ys p q) q).ix (q+1)) :=
 ⟨h.hp.swap hp b,d,by rw[ni,h.len],fun e=>(Lc hp b e).trans (h.mem e),f.trans h.pM⟩
theorem oO.refl{n:Nat}{xs:List gH}(h:Hp n xs pl)(a:jA n ps pl):oO n xs xs ps ps pl:=⟨h,a,rfl,fun _=>Iff.rfl,rfl⟩
variable{zs:List gH}
theorem oO.trans{n:Nat}{xs ys:List gH}{b c:List (Option Nat)}{a:List Nat}(h:oO n xs ys ps b pl)(k:oO n ys zs b c a):oO n xs zs ps c a :=
 ⟨k.hp,k.gP,k.len.trans h.len,fun e=>(k.mem e).trans (h.mem e),k.pM.trans h.pM⟩
theorem jA.copy{n k:Nat}{b:List (Option Nat)}(h:jA n ps pl)(c:qP ps b k)(hk:k=ps.length):jA n b pl :=
 ⟨by rw[c.len];exact h.len,h.room,fun j a i hi=>h.zero j (c.done j (by have:=(zt.1 a).1;have:=c.len;omega) a) i hi,h.val,h.n,by rw[c.len];exact h.top⟩
theorem jA.new{n m:Nat}(b:n<=65536)(hm:m=(n+63) / 64):jA n (List.replicate m none) (List.replicate (64*m) 0):=by
 have a:∀ i,fJ (List.replicate (64*m) 0) i=0:=fun i=>by
  unfold fJ
  rw[uH]
  split<;>rfl
 exact⟨s_,by simp;omega,fun j _ i _=>a i,fun i=>by rw[a];omega,b,by simp;omega⟩
theorem Hp.new{n m:Nat}(hm:m=(n+63) / 64):Hp n [] (List.replicate (64*m) 0):=by
 have a:∀ i,fJ (List.replicate (64*m) 0) i=0:=fun i=>by
  unfold fJ
  rw[uH]
  split<;>rfl
 exact⟨fun p hp=>by simp at hp,fun p hp=>by simp at hp,fun p hp=>by simp at hp,fun i p _ hp=>by rw[a]at hp;omega,by simp;omega,s_⟩
theorem Ord.nil:Ord []:=fun j _ a=>by simp at a
structure gV where
 st:Int
 after:Int
 times:Int
 deriving Inhabited
def gV.cells(x:gV):List Value:=[.int .i64 x.st,.int .i64 x.after,.int .u64 x.times]
structure As where
 n:Nat
 begun:Nat
 used:Nat
 last:Int
 sl:List gV
 fl:List Nat
 ps:List (Option Nat)
def B1(sl:List gV):Int->List Nat->Prop
 | l,[]=>l = -1
 | l,i :: r=>l=(i:Int)/\B1 sl (fJ sl i).after r
def As.ij(A:As)(i:Nat):Prop:=i<A.begun/\i∉A.fl
structure As.ok (A:As):Prop where
 n:A.n<=65536
 le:A.begun<=A.n
 pM:A.ps.length=(A.begun+63) / 64
 ps:∀ j,j<A.ps.length->∃ b,A.ps[j]? = some (some b)
 sl:A.sl.length=64*A.ps.length
 nodup:A.fl.Nodup
 fl:∀ i∈A.fl,i<A.begun
 chain:B1 A.sl A.last A.fl
 st:∀ i,i<A.begun->(fJ A.sl i).st=if i∈A.fl then 2 else 1
 used:A.used+A.fl.length=A.begun
theorem C3:∀ (L M:List Nat),L.Nodup->(∀ j∈L,j∈M)->L.length<=M.length
 | [],_,_,_=>by simp
 | x :: L,M,hn,h=>by
  have b:=h x s_
  have c:=C3 L (M.erase x) (zz.1 hn).2 (fun j a=>(List.mem_erase_of_ne (fun e=>(zz.1 hn).1 (by rw[<-e];exact a))).2 (h j (by simp[a])))
  rw[DL b]at c
  have:=Hq b
  simp only[zh]
  omega
theorem Be(n:Nat)(L:List Nat)(b:L.Nodup)(h:∀ j∈L,j<n):L.length<=n:=by
 have:=C3 L (List.range n) b (fun j a=>l8.2 (h j a))
 simpa using this
theorem As.ok.room{A:As}(h:A.ok)(hi:i<A.begun):i<A.sl.length/\i / 64<A.ps.length:=by
 have a:=h.sl
 have b:=h.pM
 omega
theorem As.ok.at{A:As}(h:A.ok)(hi:i<A.begun):∃ b,A.ps[i / 64]? = some (some b):=h.ps _ (h.room hi).2
theorem B1.congr{sl a : List gV}:∀ {r:List Nat} {l:Int},B1 sl l r->(∀ i∈r,(fJ a i).after=(fJ sl i).after)->B1 a l r
 | [],_,h,_=>h
 | i :: r,l,h,he=>⟨h.1,by rw[he i s_];exact h.2.congr fun j b=>he j (by simp[b])⟩
def tk(x:gV):gV:=⟨1,-1,IntKind.u64.wrap (x.times+1)⟩
theorem LH{sl:List gV}(hi:i<sl.length){t:Int}(ht:t=IntKind.u64.wrap ((fJ sl i).times+1)):fO (fO (fO sl i (fun x=>{ x with st:=1 })) i (fun x=>{ x with after := -1 })) i (fun x=>{ x with times:=t })=fO sl i tk:=by
 subst ht
 have e:∀ (l:List gV) (f g:gV->gV),i<l.length->fO (fO l i f) i g=fO l i (fun x=>g (f x)):=fun l f g h=>by
  have e:=jS (f:=f) h
  unfold fO at e ⊢
  rw[e,List.set_set]
 rw[e _ _ _ hi,e _ _ _ hi]
 rfl
theorem As.ok.pop{A:As}(h:A.ok){r:List Nat}(a:A.fl=i :: r) :
 As.ok ⟨A.n,A.begun,A.used+1,(fJ A.sl i).after,fO A.sl i tk,r,A.ps⟩/\(∀ j,As.ij ⟨A.n,A.begun,A.used+1,(fJ A.sl i).after,fO A.sl i tk,r,A.ps⟩ j↔A.ij j\/j=i)/\¬ A.ij i/\i<A.begun/\A.last=(i:Int):=by
 have d:=h.chain
 have c:=h.nodup
 rw[a]at d c
 rw[zz]at c
 have l:i<A.begun:=h.fl i (by rw[a];simp)
 have m:=(h.room l).1
 have g:=fun j=>jG (xs:=A.sl) (k:=i) (j:=j) (f:=tk) m
 refine⟨⟨h.n,h.le,h.pM,h.ps,by simp only[gB];exact h.sl,c.2,fun j b=>h.fl j (by rw[a];simp[b]),?_,fun j b=>?_,?_⟩,fun j=>?_,fun g=>g.2 (by rw[a];simp),l,d.1⟩
 . refine d.2.congr fun j b=>?_
   grind
 . simp only
   rw[g]
   split
   . rename_i e
     subst e
     rw[if_neg c.1]
     rfl
   . rename_i e
     have:=h.st j b
     grind
 . have:=h.used
   grind
 . grind [As.ij]
theorem As.ok.fresh{A:As}(h:A.ok)(d:A.fl=[])(v:A.begun<A.n){ps2:List (Option Nat)}{sl2:List gV}(hb:(A.begun%64=0/\ps2=A.ps++[some b]/\sl2=A.sl++List.replicate 64 ⟨0,0,0⟩)\/(A.begun%64≠0/\ps2=A.ps/\sl2=A.sl)) :
 As.ok ⟨A.n,A.begun+1,A.used+1,A.last,fO sl2 A.begun tk,[],ps2⟩/\(∀ j,As.ij ⟨A.n,A.begun+1,A.used+1,A.last,fO sl2 A.begun tk,[],ps2⟩ j↔A.ij j\/j=A.begun)/\¬ A.ij A.begun/\A.last = -1/\A.begun<sl2.length/\∃ c,ps2[A.begun / 64]? = some (some c):=by
 have a:=h.chain
 have q:=h.sl
 have u:=h.pM
 rw[d]at a
 have r:ps2.length=(A.begun+1+63) / 64/\sl2.length=64*ps2.length/\(∀ j,j<ps2.length->∃ b,ps2[j]? = some (some b))/\∀ j,j<A.begun->fJ sl2 j=fJ A.sl j:=by
  rcases hb with ⟨e,rfl,rfl⟩|⟨e,rfl,rfl⟩
  . refine⟨by simp;omega,by simp;omega,fun j g=>?_,fun j g=>?_⟩
    . rw[Mi]
      split
      . exact h.ps j (by assumption)
      . grind
    . grind [fJ]
  . exact⟨o_,q,h.ps,fun j _=>rfl⟩
 obtain⟨s,p2,p,t⟩:=r
 have o:A.begun<sl2.length:=by omega
 have l:=fun j=>jG (xs:=sl2) (k:=A.begun) (j:=j) (f:=tk) o
 refine⟨⟨h.n,by show A.begun+1<=A.n;omega,s,p,by simp only[gB];exact p2,xu,fun i hi=>by simp at hi,a,fun j g=>?_,?_⟩,fun j=>?_,fun l=>absurd l.1 o_,a,o,p _ o_⟩
 . simp only[nr,if_false]
   rw[l]
   split
   . rfl
   . rename_i e
     have m : j<A.begun:=by
      have:j<A.begun+1:=g
      omega
     rw[t j m, h.st j m, d]
     simp
 . have:=h.used
   rw[d]at this
   simp at this ⊢
   omega
 . grind [As.ij]
theorem As.ok.full{A:As}(h:A.ok)(b:A.used<A.n):(∃ i r,A.fl=i :: r)\/(A.fl=[]/\A.begun<A.n):=by
 have a:=h.used
 cases hf:A.fl with
 | cons i r=>exact .inl ⟨i,r,rfl⟩
 | nil =>
  grind
theorem As.ok.free{A:As}(h:A.ok)(hi:A.ij i){sl2:List gV}(hs:sl2=fO (fO A.sl i (fun x=>{ x with st:=2 })) i (fun x=>{ x with after:=A.last })) :
 As.ok ⟨A.n,A.begun,A.used-1,(i:Int),sl2,i :: A.fl,A.ps⟩/\(∀ j,As.ij ⟨A.n,A.begun,A.used-1,(i:Int),sl2,i :: A.fl,A.ps⟩ j↔A.ij j/\j≠i)/\0<A.used:=by
 obtain⟨b,c⟩:=hi
 have m:=(h.room b).1
 have l:=h.used
 have k:0<A.used:=by
  have g:(i :: A.fl).length<=A.begun:=by
   have f:(i :: A.fl).Nodup:=zz.2 ⟨c,h.nodup⟩
   exact Be A.begun _ f fun j a=>by
    rcases zg.1 a with rfl|a
    . exact b
    . exact h.fl j a
  simp only[zh]at g
  omega
 have d:∀ j,fJ sl2 j=if i=j then { fJ A.sl i with st:=2,after:=A.last } else fJ A.sl j:=fun j=>by
  grind [jG,gB,jS,kD]
 refine⟨⟨h.n,h.le,h.pM,h.ps,by rw[hs];simp only[gB];exact h.sl,zz.2 ⟨c,h.nodup⟩,fun j a=>?_,⟨rfl,?_⟩,fun j a=>?_,by simp only[zh];omega⟩,fun j=>?_,k⟩
 . rcases zg.1 a with rfl|a
   . exact b
   . exact h.fl j a
 . rw[d,if_pos rfl]
   refine h.chain.congr fun j a=>?_
   grind
 . simp only
   rw[d]
   split
   . rename_i e
     subst e
     simp
   . rename_i e
     rw[h.st j a]
     grind
 . grind [As.ij]
def As.list(A:As)(k:Nat):List Nat:=(List.range k).filter fun i=>decide ((fJ A.sl i).st=1)
theorem As.PS(A:As)(k:Nat):A.list (k+1)=if (fJ A.sl k).st=1 then A.list k++[k]else A.list k:=by
 unfold As.list
 rw[sP,zT]
 grind
theorem As.PO(A:As):∀ k,(A.list k).length<=k:=fun k=>by
 have:=zW (fun i=>decide ((fJ A.sl i).st=1)) (List.range k)
 simpa[As.list]using this
theorem As.ok.ox{A:As}(h:A.ok)(i:Nat):i∈A.list A.begun↔A.ij i:=by
 simp only[As.list,zy,l8,decide_eq_true_eq,As.ij]
 constructor
 . rintro⟨a,b⟩
   refine⟨a,fun c=>?_⟩
   rw[h.st i a,if_pos c]at b
   omega
 . rintro⟨a,b⟩
   exact⟨a,by rw[h.st i a,if_neg b]⟩
theorem As.A7(A:As)(k:Nat):(A.list k).Pairwise (· < ·):=List.Pairwise.filter _ List.pairwise_lt_range
theorem As.ok.yE{A:As}(h:A.ok):(A.list A.begun).length=A.used:=by
 have f:(A.list A.begun++A.fl).Nodup:=by
  rw[zr]
  refine⟨(A.A7 _).imp (fun h=>zZ h),h.nodup,fun a d b hb e=>?_⟩
  subst e
  exact((h.ox a).1 d).2 hb
 have g:(A.list A.begun++A.fl).length<=A.begun:=Be _ _ f fun j c=>by
  rcases zn.1 c with c|c
  . exact((h.ox j).1 c).1
  . exact h.fl j c
 have i:(List.range A.begun).length<=(A.list A.begun++A.fl).length:=by
  refine C3 _ _ rI fun j c=>?_
  rw[l8]at c
  by_cases e:j∈A.fl
  . exact vG _ e
  . exact sN _ ((h.ox j).2 ⟨c,e⟩)
 have k:=h.used
 grind
def As.new(n:Nat):As:=⟨n,0,0,-1,[],[],[]⟩
theorem As.uk{n:Nat}(b:n<=65536):(As.new n).ok :=
 ⟨b,mE _,by simp[As.new],fun j a=>by simp[As.new]at a,rfl,xu,fun i hi=>by simp[As.new]at hi,rfl,fun i hi=>by simp[As.new]at hi,rfl⟩
theorem As.ok.copy{A:As}(h:A.ok){a:List (Option Nat)}(c:a.length=A.ps.length)(d:∀ j,j<a.length->∃ b,a[j]? = some (some b)):As.ok { A with ps:=a } :=
 ⟨h.n,h.le,by show a.length=_;rw[c];exact h.pM,d,by show A.sl.length=_;rw[h.sl,c],h.nodup,h.fl,h.chain,h.st,h.used⟩
theorem aef{α:Type}(l:List α)(B k:Nat):l.take (B*k)++(l.drop (B*k)).take B=l.take (B*(k+1)):=by
 rw[Nat.mul_add,qO,List.take_add]
structure xx (qs:List (Option Nat)) (k:Nat):Prop where
 len:qs.length=k
 all:∀ j,j<qs.length->∃ b,qs[j]? = some (some b)
theorem xx.start:xx [] 0:=⟨rfl,fun j a=>by simp at a⟩
theorem xx.next{a:List (Option Nat)}{k:Nat}(h:xx a k):xx (a++[some b]) (k+1) :=
 ⟨by simp[h.len],fun j c=>by
  rw[Mi]
  split
  . exact h.all j (by assumption)
  . simp at c
    have:j-a.length=0:=by omega
    rw[this]
    exact⟨b,rfl⟩⟩
theorem Vs{α:Type}{l:List α}{B m k:Nat}(a:l.length=B*m)(hk:k<m):((l.drop (B*k)).take B).length=B/\(l.take (B*k)).length=B*k:=by
 have:B*(k+1)<=B*m:=BR _ hk
 grind
structure AW where
 bv:Value
 A:As
structure AW.put (A A2:As) (i:Nat):Prop where
 n:A2.n=A.n
 used:A2.used=A.used+1
 ij:∀ j,A2.ij j↔A.ij j\/j=i
 new:¬ A.ij i
 pI:(i<A.begun/\A2.begun=A.begun)\/(i=A.begun/\A2.begun=A.begun+1)
structure AW.del (A A2:As) (i:Nat):Prop where
 n:A2.n=A.n
 pI:A2.begun=A.begun
 used:A2.used=A.used-1
 pos:0<A.used
 ij:∀ j,A2.ij j↔A.ij j/\j≠i
def lD(a:Int):Int:=(tj .xor .u64 a (a.fdiv (2 ^ 33))).getD 0
def mM(c a:Int):Int:=IntKind.u64.wrap (a*c)
def AX(id:Int):Int:=lD (mM 14181476777654086739 (lD (mM 18397679294719823053 (lD id))))
def kX(n:Nat)(id:Int):Nat:=(AX id%(n:Int)).toNat
theorem xZ{n:Nat}{id:Int}(h:0<n):kX n id<n:=by
 have a:=Int.emod_lt_of_pos (AX id) (show (0:Int)<n by omega)
 have b:=D2 (AX id) (show (n:Int)≠0 by omega)
 unfold kX
 omega
theorem XM{n:Nat}{id:Int}(h:0<n):AX id%(n:Int)=(kX n id:Int):=by
 have a:=D2 (AX id) (show (n:Int)≠0 by omega)
 unfold kX
 omega
def P2(n:Nat):Prop:=∃ k,k<=40/\n=2 ^ k
theorem P2.pos{n:Nat}(h:P2 n):0<n:=by
 obtain⟨k,_,rfl⟩:=h
 exact Nat.two_pow_pos k
theorem P2.le{n:Nat}(h:P2 n):n<=1099511627776:=by
 obtain⟨k,a,rfl⟩:=h
 calc 2 ^ k<=2 ^ 40:=Nat.pow_le_pow_right d_ a
  _=1099511627776:=by decide
theorem P2.Tc{n:Nat}(h:P2 n)(x:Int):((BitVec.ofInt 64 x) &&& (BitVec.ofInt 64 ((n:Int)-1))).toNat=(x%(n:Int)).toNat:=by
 have g:=h.pos
 have f:=h.le
 obtain⟨k,d,rfl⟩:=h
 rw[BitVec.toNat_and,BitVec.toNat_ofInt,BitVec.toNat_ofInt]
 have e:(((2 ^ k:Nat):Int)-1)%((2 ^ 64:Nat):Int)=((2 ^ k-1:Nat):Int):=by
  grind
 rw[e,nG,Nat.and_two_pow_sub_one_eq_mod]
 have hd:(((2 ^ k:Nat):Int)) ∣ ((2 ^ 64:Nat):Int):=by
  refine Int.natCast_dvd_natCast.2 (Nat.pow_dvd_pow 2 o_)
 have c:0<=x%((2 ^ 64:Nat):Int):=D2 _ d_
 have a:=Int.emod_emod_of_dvd x hd
 have b:((x%((2 ^ 64:Nat):Int)).toNat%2 ^ k:Nat)=((x%((2 ^ 64:Nat):Int))%((2 ^ k:Nat):Int)).toNat:=by
  grind
 rw[b,a]
theorem P2.NA{n:Nat}(h:P2 n)(x:Int):tj .and .i64 x ((n:Int)-1)=some (x%(n:Int)):=by
 have a:=Int.emod_lt_of_pos x (show (0:Int)<n by have:=h.pos;omega)
 have b:=D2 x (show (n:Int)≠0 by have:=h.pos;omega)
 have c:=h.le
 have e:=h.Tc x
 show some (IntKind.i64.wrap (((BitVec.ofInt 64 x) &&& (BitVec.ofInt 64 ((n:Int)-1))).toNat:Int))=_
 rw[e,kP o_]
 congr 1
 omega
theorem P2.Uu{n:Nat}(h:P2 n)(x:Int):tj .and .u64 x ((n:Int)-1)=some (x%(n:Int)):=by
 have a:=Int.emod_lt_of_pos x (show (0:Int)<n by have:=h.pos;omega)
 have b:=D2 x (show (n:Int)≠0 by have:=h.pos;omega)
 have c:=h.le
 have e:=h.Tc x
 show some (IntKind.u64.wrap (((BitVec.ofInt 64 x) &&& (BitVec.ofInt 64 ((n:Int)-1))).toNat:Int))=_
 rw[e,DC o_]
 congr 1
 omega
theorem P2.nx{n c:Nat}(h:P2 n)(hc:c<n):tj .and .i64 ((c:Int)+1) ((n:Int)-1)=some ((iD n c:Nat):Int):=by
 rw[h.NA,<-aaP hc]
 rfl
theorem P2.dst{n a:Nat}(h:P2 n)(c:a<n)(hb:b<n):tj .and .i64 ((b:Int)-(a:Int)) ((n:Int)-1)=some ((dst n a b:Nat):Int):=by
 rw[h.NA]
 congr 1
 unfold Sx.dst
 split
 . rw[Int.emod_eq_of_lt o_ o_]
   omega
 . rw[show (b:Int)-(a:Int)=((b:Int)-a+n)+n*(-1) by omega,Int.add_mul_emod_self_left,Int.emod_eq_of_lt o_ o_]
   omega
theorem L4(a:Int):tj .xor .u64 a (a.fdiv (2 ^ 33))=some (lD a):=rfl
theorem P2.home{n:Nat}(h:P2 n)(id:Int):tj .and .u64 (AX id) ((n:Int)-1)=some ((kX n id:Nat):Int):=by
 rw[h.Uu,XM h.pos]
def gQ(x:Int):List Value:=[.int .u64 x]
structure TW where
 iv:Value
 cv:Value
 w:AW
 ids:List Int
 cs:List Nat
abbrev TW.A(t:TW):As:=t.w.A
abbrev TW.n(t:TW):Nat:=t.cs.length
structure TW.ok (t:TW):Prop where
 p2:P2 t.n
 top:t.n<=1000000
 two:2<=t.n
 room:2*t.A.n<=t.n
 an:t.A.n<=65536
 uc:t.ids.length=t.A.begun
 ids:∀ i,gU .u64 (fJ t.ids i)
 cell:∀ i,(∃ p,p<t.n/\fJ t.cs p=i+1)↔t.A.ij i
 inj:∀ p q,p<t.n->q<t.n->fJ t.cs p≠0->fJ t.cs p=fJ t.cs q->p=q
 uniq:∀ i j,t.A.ij i->t.A.ij j->fJ t.ids i=fJ t.ids j->i=j
 Ga:rL t.n t.cs (fun i=>kX t.n (fJ t.ids i))
 pI:t.A.begun<=t.A.n
 ul:t.A.used<=t.A.n
structure TW.Sz (n:Nat):Prop where
 p2:P2 n
 two:2<=n
 top:n<=1000000
theorem TW.ok.sz{t:TW}(h:t.ok):TW.Sz t.n:=⟨h.p2,h.two,h.top⟩
def TW.mem(t:TW)(id:Int):Prop:=∃ i,t.A.ij i/\fJ t.ids i=id
theorem TW.ok.val{t:TW}(h:t.ok)(hp:p<t.n)(hc:fJ t.cs p=i+1):t.A.ij i/\i<t.A.begun/\i<t.ids.length/\i<t.A.n:=by
 have a:=(h.cell i).1 ⟨p,hp,hc⟩
 have b:=a.1
 have c:=h.uc
 have d:=h.pI
 exact⟨a,b,o_,o_⟩
theorem TW.ok.zero{t:TW}(h:t.ok):∃ z,z<t.n/\fJ t.cs z=0:=by
 by_cases hz:∃ z,z<t.n/\fJ t.cs z=0
 . exact hz
 . exfalso
   have a:∀ p,p<t.n->fJ t.cs p≠0:=fun p hp c=>hz ⟨p,hp,c⟩
   have d:((List.range t.n).map fun p=>fJ t.cs p-1).length<=t.A.n:=by
    refine Be _ _ ?_ ?_
    . unfold List.Nodup
      rw[HE]
      refine List.Pairwise.imp_of_mem ?_ (List.pairwise_lt_range (n:=t.n))
      intro p q hp b g e
      rw[l8]at hp b
      have a1:=a p hp
      have a2:=a q b
      have:=h.inj p q hp b a1 o_
      omega
    . intro j f
      obtain⟨p,hp,rfl⟩:=zq.1 f
      rw[l8]at hp
      have a1:=a p hp
      exact(h.val hp (i:=fJ t.cs p-1) o_).2.2.2
   rw[zu,mQ]at d
   have:=h.room
   have:=h.two
   omega
def TW.find(t:TW)(id:Int):Nat×Bool:=ve t.n t.cs (fun i=>fJ t.ids i==id) t.n (kX t.n id)
theorem TW.ok.Jd{t:TW}(h:t.ok)(hi:t.A.ij i):∃ p,p<t.n/\fJ t.cs p=i+1/\t.find (fJ t.ids i)=(p,true):=by
 obtain⟨p,hp,a⟩:=(h.cell i).2 hi
 refine⟨p,hp,a,?_⟩
 refine Xj (hm:=fun i=>kX t.n (fJ t.ids i)) h.Ga hp a (xZ (by have:=h.two;omega)) s_ ?_ h.zero
 intro q j b c e
 have d:=(h.val b c).1
 have:=h.uniq j i d hi (by simpa using e)
 subst this
 exact h.inj q p b hp o_ o_
theorem TW.ok.OO{t:TW}(h:t.ok){id:Int}(c:¬ t.mem id):∃ r,r<t.n/\t.find id=(r,false)/\fJ t.cs r=0/\∀ q,q<t.n->rK t.n (kX t.n id) r q->fJ t.cs q≠0:=by
 refine Xi (xZ (by have:=h.two;omega)) ?_ h.zero
 intro q j d a
 have b:=(h.val d a).1
 have:fJ t.ids j≠id:=fun e=>c ⟨j,b,e⟩
 simpa using this
def uq(ids:List Int)(i:Nat)(id:Int):List Int:=fO (if i=ids.length then ids++[0]else ids) i (fun _=>id)
theorem Q8{id:Int}(h:i<=l.length)(j:Nat):fJ (uq l i id) j=if i=j then id else fJ l j:=by
 grind [uq,jG,fJ]
theorem abN{id:Int}(h:i<=l.length):(uq l i id).length=if i=l.length then l.length+1 else l.length:=by
 unfold uq
 rw[gB]
 split<;>simp
variable{v2:AW}
section
variable {t:TW}
theorem TW.ok.put(h:t.ok){id:Int}(G:¬ t.mem id)(L:gU .u64 id){r:Nat}(B:v2.A.ok)(hp:AW.put t.A v2.A i)(C:r<t.n)(D:fJ t.cs r=0)(P:∀ q,q<t.n->rK t.n (kX t.n id) r q->fJ t.cs q≠0)(iv cv:Value){is2:List Int}{cs2:List Nat}(E:is2=uq t.ids i id)(hcs:cs2=fO t.cs r (fun _=>i+1)) :
 TW.ok ⟨iv,cv,v2,is2,cs2⟩/\∀ x,TW.mem ⟨iv,cv,v2,is2,cs2⟩ x↔t.mem x\/x=id:=by
 have Q:=h.uc
 have F:i<=t.ids.length:=by
  rcases hp.pI with d|d<;>omega
 have m:∀ j,fJ is2 j=if i=j then id else fJ t.ids j:=by rw[E];exact Q8 F
 have y:∀ q,fJ cs2 q=if r=q then i+1 else fJ t.cs q:=by rw[hcs];exact fun q=>jG C
 have o:cs2.length=t.n:=by rw[hcs];exact gB
 have O:is2.length=if i=t.ids.length then t.ids.length+1 else t.ids.length:=by rw[E];exact abN F
 have v:=hp.ij
 have H:=hp.new
 have w:∀ j,t.A.ij j->i≠j:=fun j g e=>H (e▸g)
 have N:∀ x,TW.mem ⟨iv,cv,v2,is2,cs2⟩ x↔t.mem x\/x=id:=by
  intro x
  constructor
  . rintro⟨j,g,u⟩
    change fJ is2 j=x at u
    rw[m]at u
    split at u
    . exact .inr u.symm
    . rename_i M
      rcases(v j).1 g with d|d
      . exact .inl ⟨j,d,u⟩
      . exact absurd d.symm M
  . rintro(⟨j,g,u⟩|rfl)
    . exact⟨j,(v j).2 (.inl g),by show fJ is2 j=x;rw[m,if_neg (w j g)];exact u⟩
    . exact⟨i,(v i).2 (.inr rfl),by show fJ is2 i=x;rw[m,if_pos rfl]⟩
 have R:∀ p,p<t.n->fJ t.cs p≠i+1:=fun p k f=>H (h.val k f).1
 refine⟨⟨?_,?_,?_,?_,?_,?_,?_,?_,?_,?_,?_,?_,?_⟩,N⟩
 . show P2 cs2.length;rw[o];exact h.p2
 . show cs2.length<=_;rw[o];exact h.top
 . show 2<=cs2.length;rw[o];exact h.two
 . show 2*v2.A.n<=cs2.length;rw[o,hp.n];exact h.room
 . show v2.A.n<=_;rw[hp.n];exact h.an
 . show is2.length=v2.A.begun
   rw[O]
   rcases hp.pI with d|d
   . rw[if_neg o_];omega
   . rw[if_pos o_];omega
 . intro j
   show gU .u64 (fJ is2 j)
   rw[m]
   split
   . exact L
   . exact h.ids j
 . intro j
   show (∃ p,p<cs2.length/\fJ cs2 p=j+1)↔v2.A.ij j
   rw[o,v]
   constructor
   . rintro⟨p,k, f⟩
     rw[y]at f
     split at f
     . exact .inr o_
     . exact .inl ((h.cell j).1 ⟨p,k, f⟩)
   . rintro(d|rfl)
     . obtain⟨p,k, f⟩:=(h.cell j).2 d
       refine⟨p,k, ?_⟩
       rw[y,if_neg (fun e=>by rw[e,f]at D;omega)]
       exact f
     . exact⟨r,C,by rw[y,if_pos rfl]⟩
 . intro p q k s
   show fJ cs2 p≠0->fJ cs2 p=fJ cs2 q->p=q
   change p<cs2.length at k
   change q<cs2.length at s
   rw[o]at k s
   rw[y,y]
   intro a b
   by_cases d:r=p
   . grind
   . by_cases l:r=q
     . grind
     . rw[if_neg d,if_neg l]at b
       rw[if_neg d]at a
       exact h.inj p q k s a b
 . intro a b K hb
   show fJ is2 a=fJ is2 b->a=b
   rw[m,m]
   intro e
   rcases(v a).1 K with d|d<;>rcases(v b).1 hb with l|l
   . rw[if_neg (w a d),if_neg (w b l)]at e
     exact h.uniq a b d l e
   . rw[if_neg (w a d),if_pos l.symm]at e
     exact absurd ⟨a,d,e⟩ G
   . rw[if_pos d.symm,if_neg (w b l)]at e
     exact absurd ⟨b,l,e.symm⟩ G
   . omega
 . show rL cs2.length _ (fun j=>kX cs2.length (fJ is2 j))
   rw[o]
   have I:rL t.n t.cs (fun j=>kX t.n (fJ is2 j)):=by
    intro c j q f s g z
    have d:=w j (h.val f g).1
    simp only[m,if_neg d]at z
    exact h.Ga c j q f s g z
   have J:=I.put rfl C D (i:=i) (by
    intro q s z
    simp only[m,if_pos]at z
    exact P q s z) (xZ (by have:=h.two;omega))
   rw[hcs]
   exact J
 . show v2.A.begun<=v2.A.n
   exact B.le
 . show v2.A.used<=v2.A.n
   have:=B.used
   have:=B.le
   omega
end
section
variable {t:TW}
def TW.rest(t:TW)(id:Int)(k c:Nat):Prop:=t.find id=ve t.n t.cs (fun i=>fJ t.ids i==id) (t.n-k) c
theorem TW.ach(t:TW)(id:Int):t.rest id 0 (kX t.n id):=rfl
theorem TW.KE{id:Int}{k c:Nat}(h:t.rest id k c)(hk:k<t.n):t.find id=if fJ t.cs c=0 then(c,false)else if (fJ t.ids (fJ t.cs c-1)==id)=true then(c,true)else ve t.n t.cs (fun i=>fJ t.ids i==id) (t.n-(k+1)) (iD t.n c):=by
 have e:t.n-k=(t.n-(k+1))+1:=by omega
 unfold TW.rest at h
 rw[e]at h
 exact h
theorem TW.aci{id:Int}{k c:Nat}(h:t.rest id k c)(hk:k<t.n)(a:fJ t.cs c=0):t.find id=(c,false):=by
 rw[TW.KE h hk,if_pos a]
theorem TW.acf{id:Int}{k c j:Nat}(h:t.rest id k c)(hk:k<t.n)(b:fJ t.cs c=j+1)(a:fJ t.ids j=id):t.find id=(c,true):=by
 rw[TW.KE h hk,if_neg o_,if_pos (by rw[b];simpa using a)]
theorem TW.acg{id:Int}{k c j:Nat}(h:t.rest id k c)(hk:k<t.n)(b:fJ t.cs c=j+1)(a:fJ t.ids j≠id):t.rest id (k+1) (iD t.n c):=by
 have:=TW.KE h hk
 rw[if_neg o_,if_neg (by rw[b];simpa using a)]at this
 exact this
theorem TW.ace{id:Int}{c:Nat}(h:t.rest id t.n c):t.find id=(0,false):=by
 unfold TW.rest at h
 rw[Nat.sub_self]at h
 exact h
end
def TW.mR(t:TW)(id:Int)(z:Nat)(b:Bool):Prop:=(b=true/\t.A.ij z/\fJ t.ids z=id)\/(b=false/\z=0/\¬ t.mem id)
section
variable {t:TW}
theorem TW.ok.del(h:t.ok)(hi:t.A.ij i)(o:v2.A.ok)(hd:AW.del t.A v2.A i){cs2:List Nat}(m:cs2.length=t.n)(hc:rL t.n cs2 (fun j=>kX t.n (fJ t.ids j))/\(∀ p q,p<t.n->q<t.n->fJ cs2 p≠0->fJ cs2 p=fJ cs2 q->p=q)/\(∀ r,(∃ p,p<t.n/\fJ cs2 p=r+1)↔r≠i/\∃ p,p<t.n/\fJ t.cs p=r+1))(iv cv:Value){is2:List Int}(u:is2=fO t.ids i (fun _=>0)) :
 TW.ok ⟨iv,cv,v2,is2,cs2⟩/\∀ x,TW.mem ⟨iv,cv,v2,is2,cs2⟩ x↔t.mem x/\x≠fJ t.ids i:=by
 obtain⟨z,G,w⟩:=hc
 have C:i<t.ids.length:=by have:=hi.1;have:=h.uc;omega
 have g:∀ j,fJ is2 j=if i=j then 0 else fJ t.ids j:=by rw[u];exact fun j=>jG C
 have l:=hd.ij
 have F:∀ j,(∃ p,p<t.n/\fJ cs2 p=j+1)↔v2.A.ij j:=by
  intro j
  rw[w,l,h.cell]
  exact And.comm
 refine⟨⟨?_,?_,?_,?_,?_,?_,?_,?_,?_,?_,?_,?_,?_⟩,fun x=>⟨?_,?_⟩⟩
 . show P2 cs2.length;rw[m];exact h.p2
 . show cs2.length<=_;rw[m];exact h.top
 . show 2<=cs2.length;rw[m];exact h.two
 . show 2*v2.A.n<=cs2.length;rw[m,hd.n];exact h.room
 . show v2.A.n<=_;rw[hd.n];exact h.an
 . show is2.length=v2.A.begun;rw[u,gB,hd.pI];exact h.uc
 . intro j
   show gU .u64 (fJ is2 j)
   rw[g]
   split
   . exact⟨d_,d_⟩
   . exact h.ids j
 . grind
 . grind
 . intro a b B hb
   show fJ is2 a=fJ is2 b->a=b
   have d:=(l a).1 B
   have s:=(l b).1 hb
   rw[g,g,if_neg (fun e=>d.2 e.symm),if_neg (fun e=>s.2 e.symm)]
   exact h.uniq a b d.1 s.1
 . show rL cs2.length _ (fun j=>kX cs2.length (fJ is2 j))
   rw[m]
   intro c j q hc E k y
   have d:j≠i:=((w j).1 ⟨c,hc,k⟩).1
   simp only[g,if_neg (fun e=>d e.symm:¬ i=j)]at y
   exact z c j q hc E k y
 . show v2.A.begun<=v2.A.n
   exact o.le
 . show v2.A.used<=v2.A.n
   have:=o.used
   have:=o.le
   omega
 . rintro⟨j,k,f⟩
   change fJ is2 j=x at f
   have d:=(l j).1 k
   rw[g,if_neg (fun e=>d.2 e.symm)]at f
   exact⟨⟨j,d.1,f⟩,fun e=>d.2 (h.uniq j i d.1 hi (f.trans e))⟩
 . rintro⟨⟨j,k,f⟩,D⟩
   have v:j≠i:=fun e=>D (by rw[<-f,e])
   exact⟨j,(l j).2 ⟨k,v⟩,by show fJ is2 j=x;rw[g,if_neg (fun e=>v e.symm)];exact f⟩
theorem TW.ok.copy(h:t.ok){f:List (Option Nat)}(hv:v2.A={ t.A with ps:=f })(iv cv:Value):TW.ok ⟨iv,cv,v2,t.ids,t.cs⟩/\∀ x,TW.mem ⟨iv,cv,v2,t.ids,t.cs⟩ x↔t.mem x:=by
 have c:∀ j,v2.A.ij j↔t.A.ij j:=fun j=>by rw[hv];rfl
 have e1:v2.A.n=t.A.n:=by rw[hv]
 have d:v2.A.begun=t.A.begun:=by rw[hv]
 refine⟨⟨h.p2,h.top,h.two,?_,?_,?_,h.ids,?_,h.inj,?_,h.Ga,?_,?_⟩,fun x=>?_⟩
 . show 2*v2.A.n<=_;rw[e1];exact h.room
 . show v2.A.n<=_;rw[e1];exact h.an
 . show t.ids.length=v2.A.begun;rw[d];exact h.uc
 . exact fun i=>(h.cell i).trans (c i).symm
 . exact fun a b e hb=>h.uniq a b ((c a).1 e) ((c b).1 hb)
 . show v2.A.begun<=v2.A.n;rw[e1,d];exact h.pI
 . show v2.A.used<=v2.A.n;rw[hv];exact h.ul
 . exact exists_congr fun i=>and_congr_left fun _=>c i
theorem P2.two:P2 2:=⟨1,d_,rfl⟩
theorem P2.Wk{n:Nat}(h:P2 n)(b:n<=1000000):P2 (n*2):=by
 obtain⟨k,a,rfl⟩:=h
 refine⟨k+1,?_,by rw[DZ]⟩
 by_cases h9:k+1<=40
 . exact h9
 . grind
theorem TW.uk{m n:Nat}{v:AW}(hv:v.A=As.new m)(hm:m<=65536)(r:P2 n)(h1:2<=n)(l:2*m<=n)(o:n<=1000000)(iv cv:Value):TW.ok ⟨iv,cv,v,[],List.replicate n 0⟩/\∀ x,¬ TW.mem ⟨iv,cv,v,[],List.replicate n 0⟩ x:=by
 have s:(List.replicate n 0).length=n:=qL
 have k:∀ p,fJ (List.replicate n 0) p=0:=by
  intro p
  simp only[fJ,uH]
  split<;>rfl
 have f:∀ j,¬ v.A.ij j:=fun j d=>by rw[hv]at d;exact absurd d.1 (by simp[As.new])
 have e1:v.A.n=m:=by rw[hv];rfl
 have g:v.A.begun=0:=by rw[hv];rfl
 refine⟨⟨?_,?_,?_,?_,?_,?_,?_,?_,?_,?_,?_,?_,?_⟩,fun x ⟨j,d,_⟩=>f j d⟩
 . grind
 . grind
 . grind
 . grind
 . show v.A.n<=_;rw[e1];exact hm
 . grind
 . intro j
   have e:fJ ([]:List Int) j=0:=by show (none:Option Int).getD default=0;rfl
   show gU .u64 (fJ ([]:List Int) j)
   rw[e]
   exact⟨d_,d_⟩
 . grind
 . intro p q _ _ h
   exact absurd (k p) h
 . exact fun a b i=>absurd i (f a)
 . intro c j q _ _ d
   grind
 . show v.A.begun<=v.A.n;rw[g];omega
 . show v.A.used<=v.A.n;rw[hv];exact mE _
end
abbrev lT(k:IntKind)(e:Int×Value×Nat):MapEntry:=⟨.int k e.1,e.2.1,e.2.2⟩
section
variable {P:Program} {k k' : IntKind} {x:Int} {es:List (Int×Value×Nat)}
theorem wU{kt:TypeId}(hk:P.underlying kt=some (.int k'))(a:Bool)(n:Nat)(v:Value)(w:World):(Instr.checkKey a (n+1) kt v).run P w = .ok () w:=by simp[Instr.checkKey,run_underlying hk]
theorem wV{kt:TypeId}{w:World}(hk:P.underlying kt=some (.int k')){l:List MapEntry}{v:Value}{q:Option (Nat×Value)}(h:Instr.findNow (.int k') v l 0=some q):(Instr.findKey kt v l).run P w = .ok q w:=by simp[Instr.findKey,run_underlying hk,h]
theorem Yl(x:Int)(w:World):(Instr.keyThatStays (.int k x) (.int k x)).run P w = .ok (.int k x) w:=by simp[Instr.keyThatStays,Instr.sameBits]
theorem Vo(w:World)(o:Obj):gx [b] w { w with heap:=w.heap.setIfInBounds b o } :=
 ⟨rfl,rfl,rfl,s_,fun c d a=>by
  have:b≠c:=fun e=>a (by simp[e])
  simp[L6,this]⟩
theorem Cz(w:World)(o:Obj):gx [b] w (w.putObj b o) :=
 ⟨rfl,rfl,rfl,by simp[World.putObj],fun c d a=>by
  have:b≠c:=fun e=>a (by simp[e])
  simp[World.putObj,L6,this]⟩
theorem Gk{w:World}{o:Obj}{d:Array MapEntry}{a:Nat}(h:w.heap[b]? = some (.map d a)):(setObj b o).run P w = .ok () (w.putObj b o)/\(w.putObj b o).heap[b]? = some o:=by
 have c:=(rG.1 h).1
 exact⟨by simp only[setObj,Sem.run,h,World.putObj],World.putObj_heap_same c⟩
end
section
variable {r:Option Nat} {P:Program} {ops:Array Oper} {Q:Exit->Act->World->Prop} {rest l:List Oper} {n:Nat} {s s0:List (Nat×Value)} {ds:List Deferred} {w w0:World} {Nx:Value->World->Prop}
variable {d:Nat} {dd:Option Nat} {ty:TypeId} {pos:String} {af:Array Edge} {g:Option (Nat×Bool)} {x y m:Operand} {bs:List (World×List Nat)} {L L' : List fT} {t e kt:TypeId} {b:Nat} {k k' : IntKind} {ys:List Int} {a:Int}
theorem St.FI{R:fT}{o:Obj}(h:St bs L w)(hi:L[i]? = some R)(e:R.gJ=[b])(d:R'.gJ=[b])(g:∀ w' : World,w'.heap[b]? = some o->R'.holds w')(f:b<w.heap.size):St bs (L.set i R') (w.putObj b o):=by
 refine h.iP hi (by rw[e];exact Cz w o) (fun c a=>.inl (by rw[e];rwa [d]at a)) (by rw[d];simp) (fun c a=>?_) (g _ (World.putObj_heap_same f))
 rw[d]at a
 simp only[k7]at a
 subst a
 simpa[World.putObj]using f
end
section
variable {γ:Type}
def ig:List (Int×γ)->Int->Option γ
 | [],_=>none
 | (b,y) :: m,a=>if b=a then some y else ig m a
def gr:List (Int×γ)->Int->γ->List (Int×γ)
 | [],a,x=>[(a,x)]
 | (b,y) :: m,a,x=>if b=a then(a,x) :: m else(b,y) :: gr m a x
def iL:List (Int×γ)->Int->List (Int×γ)
 | [],_=>[]
 | (b,y) :: m,a=>if b=a then m else(b,y) :: iL m a
def fS[Inhabited γ](m:List (Int×γ))(a:Int):γ:=(ig m a).getD default
def ia(b:Nat)(k:IntKind)(enc:γ->Value)(m:List (Int×γ)):fT where
 gJ:=[b]
 holds w:=∃ (es:List (Int×Value×Nat)) (a:Nat),w.heap[b]? = some (.map (es.map (lT k)).toArray a)/\es.map (fun e=>(e.1,e.2.1))=m.map (fun p=>(p.1,enc p.2))/\(es.map (fun e=>e.2.2)).Nodup/\∀ e∈es,e.2.2<a
 loc w w' h hh:=by
  obtain⟨es,a,c,d⟩:=hh
  exact⟨es,a,(h b s_).trans c,d⟩
theorem vm(m:List (Int×γ))(a c:Int)(x:γ):ig (gr m a x) c=if a=c then some x else ig m c:=by
 induction m with
 | nil=>simp[gr,ig]
 | cons p m b =>
  grind [gr,ig]
theorem FM{m:List (Int×γ)}(d:(m.map Prod.fst).Nodup)(a c:Int):ig (iL m a) c=if a=c then none else ig m c:=by
 induction m with
 | nil=>simp[iL,ig]
 | cons p m e =>
  obtain⟨b,y⟩:=p
  simp only[l9,zz]at d
  simp only[iL]
  by_cases h:b=a
  . subst h
    rw[if_pos rfl]
    by_cases h1:b=c
    . subst h1
      rw[if_pos rfl]
      have:∀ (l:List (Int×γ)),b∉l.map Prod.fst->ig l b=none:=by
       intro l
       induction l with
       | nil=>intro _;rfl
       | cons q l f =>
        grind [ig]
      exact this m d.1
    . grind [ig]
  . grind [ig]
theorem J7{m:List (Int×γ)}{a:Int}{x:γ}(h:ig m a=some x):(a,x)∈m:=by
 induction m with
 | nil=>simp[ig]at h
 | cons p m b =>
  grind [ig]
theorem FN{m:List (Int×γ)}{a:Int}:ig m a=none↔a∉m.map Prod.fst:=by
 induction m with
 | nil=>simp[ig]
 | cons p m b =>
  grind [ig]
theorem J8{m:List (Int×γ)}(b:(m.map Prod.fst).Nodup){a:Int}{x:γ}(h:(a,x)∈m):ig m a=some x:=by
 induction m with
 | nil=>simp at h
 | cons p m c =>
  grind [ig]
theorem Ym(m:List (Int×γ))(a:Int)(x:γ):(gr m a x).map Prod.fst=if a∈m.map Prod.fst then m.map Prod.fst else m.map Prod.fst++[a]:=by
 induction m with
 | nil=>simp[gr]
 | cons p m b =>
  grind [gr]
theorem wP{m:List (Int×γ)}(b:(m.map Prod.fst).Nodup)(a:Int)(x:γ):((gr m a x).map Prod.fst).Nodup:=by
 grind [Ym]
theorem CT(m:List (Int×γ))(a:Int):(iL m a).Sublist m:=by
 induction m with
 | nil=>exact List.Sublist.slnil
 | cons p m b =>
  grind [iL]
theorem Kk{m:List (Int×γ)}(b:(m.map Prod.fst).Nodup)(a:Int):((iL m a).map Prod.fst).Nodup:=b.sublist ((CT m a).map _)
end
section
variable {γ:Type} {enc:γ->Value} {P:Program} {k k' : IntKind} {a:Int}
theorem Fj(k k':IntKind)(a:Int):∀ (es:List (Int×Value×Nat)) (m:List (Int×γ)) (i:Nat),es.map (fun e=>(e.1,e.2.1))=m.map (fun p=>(p.1,enc p.2)) ->
 (ig m a=none/\Instr.findNow (.int k') (.int k a) (es.map (lT k)) i=some none/\(∀ y,gr m a y=m++[(a,y)])/\iL m a=m) \/
 (∃ j x e,ig m a=some x/\es[j]? = some e/\e.1=a/\Instr.findNow (.int k') (.int k a) (es.map (lT k)) i=some (some (i+j,enc x)) /\
  (∀ y,(es.set j (a,enc y,e.2.2)).map (fun e=>(e.1,e.2.1))=(gr m a y).map (fun p=>(p.1,enc p.2)))/\(es.eraseIdx j).map (fun e=>(e.1,e.2.1))=(iL m a).map (fun p=>(p.1,enc p.2))):=by
 intro es
 induction es with
 | nil =>
  intro m i h
  cases m with
  | cons p m=>simp at h
  | nil=>exact .inl ⟨rfl,rfl,fun _=>rfl,rfl⟩
 | cons e es s =>
  intro m i h
  cases m with
  | nil=>simp at h
  | cons p m =>
   obtain⟨b,y⟩:=p
   simp only[l9,List.cons.injEq]at h
   obtain⟨l,g⟩:=h
   have n:e.1=b:=congrArg Prod.fst l
   have r:e.2.1=enc y:=congrArg Prod.snd l
   by_cases hb:b=a
   . refine .inr ⟨0,y,e,by simp[ig,hb],rfl,n.trans hb,?_,fun q => ?_,?_⟩
     . have:(a==e.1)=true:=by rw[n,hb];simp
       simp only[l9,Instr.findNow,Instr.sameNow,if_true,this,r,tM]
     . simp[gr,hb,g]
     . simp[iL,hb,g]
   . have o:(a==e.1)=false:=by
      grind
     rcases s m (i+1) g with ⟨c,g2,d,f⟩|⟨j,x,e', c,g2,d,f,t,u⟩
     . refine .inl ⟨by simp[ig,hb,c],?_,fun q => by simp[gr,hb,d],by simp[iL,hb,f]⟩
       simp only[l9,Instr.findNow,Instr.sameNow,if_true,o]
       exact g2
     . refine .inr ⟨j+1,x,e', by simp[ig,hb,c],by simpa using g2,d,?_,fun q => ?_,?_⟩
       . simp only[l9,Instr.findNow,Instr.sameNow,if_true,o]
         rw[f,lJ,Nat.add_comm 1 j]
       . grind [gr]
       . grind [iL]
theorem aan{j:Nat}{e:Int×Value×Nat}{v:Value}(h:es[j]? = some e)(b:e.1=a) :
 ((es.map (lT k)).toArray.modify j fun q=>{ q with key:=.int k a,val:=v })=((es.set j (a,v,e.2.2)).map (lT k)).toArray:=by
 grind
theorem Ja{α β:Type}(f:α->β):∀ (l:List α) (j:Nat),(l.map f).eraseIdx j=(l.eraseIdx j).map f
 | [],_=>rfl
 | _ :: _,0=>rfl
 | a :: l,j+1=>by simp[Ja f l j]
theorem WX{j:Nat}:((es.map (lT k)).toArray.eraseIdxIfInBounds j)=((es.eraseIdx j).map (lT k)).toArray:=by
 grind
end
section
variable {γ:Type} {enc:γ->Value}
variable {r:Option Nat} {P:Program} {ops:Array Oper} {Q:Exit->Act->World->Prop} {rest l:List Oper} {n:Nat} {s s0:List (Nat×Value)} {ds:List Deferred} {w w0:World} {Nx:Value->World->Prop}
variable {d:Nat} {dd:Option Nat} {ty:TypeId} {pos:String} {af:Array Edge} {g:Option (Nat×Bool)} {x y m:Operand} {bs:List (World×List Nat)} {L L' : List fT} {t e kt:TypeId} {b sz by_:Nat} {k k' : IntKind} {mm:List (Int×γ)} {a:Int} {z v:Value} {c:γ}
theorem JZ(c:St bs L w)(a:L[i]? = some (ia b k enc mm)):b<w.heap.size:=c.lt b (su a (by simp[ia]))
theorem wW{a:Nat}(h:w.heap[b]? = some (.map (es.map (lT k)).toArray a)):(getObj b).run P w = .ok (.map (es.map (lT k)).toArray a) w:=by
 simp[getObj,Sem.run,h]
theorem mkV{a:Option Operand}(enc:γ->Value)(k:IntKind)(c:gI ops n s g=true)(e:a = none)(f:St bs L w)(K:∀ b w', w.heap.size<=b->gx [] w w' -> St bs (ia b k enc [] :: L) w' -> WL r P ops Q rest (Fr n ((d,.map (some b)) :: s) ds) w') :
 WL r P ops Q (⟨some d,.makeMap t a, ty,pos,af,g⟩ :: rest) (Fr n s ds) w:=by
 subst e
 refine pv (v:=.map (some w.heap.size)) (w' := w.alloc (.map #[] 0)) c rfl ?_ (K _ _ (zm _) (gx.alloc [] w _) ?_)
 . simp only[execOp,Option.map_none,Instr.makeMap]
   rfl
 . exact f.rU (gx.alloc [] w _) (fun b hb=>by simp[ia]at hb;omega) (by simp[ia]) (fun b hb=>by simp[ia]at hb;simp;omega) ⟨[],0,heap_alloc_new w _,rfl,s_,s_⟩
section
variable [Inhabited γ]
theorem YV(i:Nat)(hm:ev n s m = .map (some b))(h:ev n s x = .int k a)(ht:P.underlying t=some (.map kt e))(hk:P.underlying kt=some (.int k'))(q:TI P e sz by_ z)(u:enc default=z)(r:St bs L w)(p:L[i]? = some (ia b k enc mm)) :
 (execOp (ev n s) ⟨dd,.lookup t m x true,ty,pos,af,g⟩).run P w = .ok (.value (.tuple #[enc (fS mm a),.bool (ig mm a).isSome])) w:=by
 obtain⟨es,v,f,o,y,A⟩:(ia b k enc mm).holds w:=r.own _ (ze p)
 rcases Fj k k' a es mm 0 o with ⟨c,g2,_⟩|⟨j,B, e', c,_,_,l,_⟩
 . have d:=wV (P:=P) (w:=w) hk g2
   simp only[execOp,hm,h,Instr.lookup,zx,run_underlying ht,zp,jU,wW f,wU hk,d,q.BZ]
   simp[fS,c,u]
 . have d:=wV (P:=P) (w:=w) hk l
   simp only[execOp,hm,h,Instr.lookup,zx,run_underlying ht,zp,jU,wW f,wU hk,d]
   simp[fS,c]
theorem yG(i:Nat)(hm:ev n s m = .map (some b))(h:ev n s x = .int k a)(ht:P.underlying t=some (.map kt e))(hk:P.underlying kt=some (.int k'))(q:TI P e sz by_ z)(u:enc default=z)(r:St bs L w)(p:L[i]? = some (ia b k enc mm)) :
 (execOp (ev n s) ⟨dd,.lookup t m x false,ty,pos,af,g⟩).run P w = .ok (.value (enc (fS mm a))) w:=by
 obtain⟨es,v,f,o,y,A⟩:(ia b k enc mm).holds w:=r.own _ (ze p)
 rcases Fj k k' a es mm 0 o with ⟨c,g2,_⟩|⟨j,B, e', c,_,_,l,_⟩
 . have d:=wV (P:=P) (w:=w) hk g2
   simp only[execOp,hm,h,Instr.lookup,zx,run_underlying ht,zp,jU,wW f,wU hk,d,q.BZ]
   simp[fS,c,u]
 . have d:=wV (P:=P) (w:=w) hk l
   simp only[execOp,hm,h,Instr.lookup,zx,run_underlying ht,zp,jU,wW f,wU hk,d]
   simp[fS,c]
theorem YU(i:Nat)(h:gI ops n s g=true)(hm:ev n s m = .map (some b))(l:ev n s x = .int k a)(ht:P.underlying t=some (.map kt e))(hk:P.underlying kt=some (.int k'))(f:TI P e sz by_ z)(o:enc default=z)(j:St bs L w)(c:L[i]? = some (ia b k enc mm))(K:WL r P ops Q rest (Fr n ((d,.tuple #[enc (fS mm a),.bool (ig mm a).isSome]) :: s) ds) w):WL r P ops Q (⟨some d,.lookup t m x true,ty,pos,af,g⟩ :: rest) (Fr n s ds) w:=pv h rfl (YV i hm l ht hk f o j c) K
theorem qh(i:Nat)(h:gI ops n s g=true)(hm:ev n s m = .map (some b))(l:ev n s x = .int k a)(ht:P.underlying t=some (.map kt e))(hk:P.underlying kt=some (.int k'))(f:TI P e sz by_ z)(o:enc default=z)(j:St bs L w)(c:L[i]? = some (ia b k enc mm))(K:WL r P ops Q rest (Fr n ((d,enc (fS mm a)) :: s) ds) w):WL r P ops Q (⟨some d,.lookup t m x false,ty,pos,af,g⟩ :: rest) (Fr n s ds) w:=pv h rfl (yG i hm l ht hk f o j c) K
end
theorem aar(i:Nat)(hm:ev n s m = .map (some b))(v:ev n s x = .int k a)(z:ev n s y=enc c)(ht:P.underlying t=some (.map kt e))(hk:P.underlying kt=some (.int k'))(p:St bs L w)(o:L[i]? = some (ia b k enc mm))(E:L.set i (ia b k enc (gr mm a c))=L') :
 ∃ w', (execOp (ev n s) ⟨dd,.mapUpdate t m x y,ty,pos,af,g⟩).run P w = .ok .skip w' /\ St bs L' w' /\ gx [b] w w' := by
 subst E
 obtain⟨es,d,l,r,D,G⟩:(ia b k enc mm).holds w:=p.own _ (ze o)
 have u:=JZ p o
 rcases Fj k k' a es mm 0 r with ⟨A,g2,f,_⟩|⟨j,I, e', A,g2,f,B,C,_⟩
 . have q:=wV (P:=P) (w:=w) hk g2
   have hp:((es.map (lT k)).toArray.push ⟨.int k a,enc c,d⟩)=((es++[(a,enc c,d)]).map (lT k)).toArray:=by simp
   refine⟨w.putObj b (.map ((es++[(a,enc c,d)]).map (lT k)).toArray (d+1)),?_,p.FI o rfl rfl (fun w' h=>⟨_,_,h,by rw[f];simp[r],?_,?_⟩) u,Cz w _⟩
   . simp only[execOp,hm,v,z,Instr.mapUpdate,zx,run_underlying ht,zp,jU,wW l,wU hk,q,hp,(Gk l).1]
   . grind
   . grind
 . have q:=wV (P:=P) (w:=w) hk B
   have F:((es.map (lT k)).toArray[j]?).map (·.key)=some (.int k a):=by simp[g2,f]
   refine⟨w.putObj b (.map ((es.set j (a,enc c,e'.2.2)).map (lT k)).toArray d),?_,p.FI o rfl rfl (fun w' h=>⟨_,_,h,C c,?_,?_⟩) u,Cz w _⟩
   . simp only[execOp,hm,v,z,Instr.mapUpdate,zx,run_underlying ht,zp,jU,wW l,wU hk,q,tO,F,D1,Yl]
     rw[aan g2 f]
     simp only[(Gk l).1,jU,zp]
   . have:(es.set j (a,enc c,e'.2.2)).map (fun e=>e.2.2)=es.map (fun e=>e.2.2):=by
      rw[List.map_set]
      have H:=(zt.1 g2).1
      apply oc
      grind
     rw[this]
     exact D
   . grind
theorem qD(i:Nat)(l:gI ops n s g=true)(hm:ev n s m = .map (some b))(p:ev n s x = .int k a)(q:ev n s y=enc c)(ht:P.underlying t=some (.map kt e))(hk:P.underlying kt=some (.int k'))(o:St bs L w)(h:L[i]? = some (ia b k enc mm))(j:L.set i (ia b k enc (gr mm a c))=L')(K:∀ w', St bs L' w' -> WL r P ops Q rest (Fr n s ds) w'):WL r P ops Q (⟨none,.mapUpdate t m x y,ty,pos,af,g⟩ :: rest) (Fr n s ds) w:=by
 obtain⟨w', d,f,_⟩:=aar (dd:=none) (ty:=ty) (pos:=pos) (af:=af) (g:=g) i hm p q ht hk o h j
 exact DD l rfl d (K w' f)
theorem Wq{t':TypeId}(i:Nat)(hm:ev n s m = .map (some b))(z:ev n s x = .int k a)(ht:P.underlying t=some (.map kt e))(hk:P.underlying kt=some (.int k'))(f:St bs L w)(d:L[i]? = some (ia b k enc mm))(D:L.set i (ia b k enc (iL mm a))=L') :
 ∃ w', (execOp (ev n s) ⟨dd,.call ⟨.builtin .delete,#[m,x],#[t,t']⟩,ty,pos,af,g⟩).run P w = .ok (.value (.tuple #[])) w' /\ St bs L' w' /\ gx [b] w w' := by
 subst D
 obtain⟨es,o,c,r,u,v⟩:(ia b k enc mm).holds w:=f.own _ (ze d)
 have y:=JZ f d
 rcases Fj k k' a es mm 0 r with ⟨A,g2,_,q⟩|⟨j,E, e', A,g2,q,B,_,C⟩
 . have l:=wV (P:=P) (w:=w) hk g2
   refine⟨w.putObj b (.map (es.map (lT k)).toArray o),?_,f.FI d rfl rfl (fun w' h=>⟨_,_,h,by rw[q];exact r,u,v⟩) y,Cz w _⟩
   simp only[execOp,resolve,invoke,builtin,zx,jU,zp,HG,l9,BX,hm,z]
   simp only[Builtin.delete_]
   simp only[BH,List.getElem?_cons_zero,List.getElem?_cons_succ,zx,run_underlying ht,zp,wW c,wU hk,l,(Gk c).1,jU]
 . have l:=wV (P:=P) (w:=w) hk B
   refine⟨w.putObj b (.map ((es.eraseIdx j).map (lT k)).toArray o),?_,f.FI d rfl rfl (fun w' h=>⟨_,_,h,C,u.sublist ((List.eraseIdx_sublist _ _).map _),fun p hp=>v p ((List.eraseIdx_sublist _ _).subset hp)⟩) y,Cz w _⟩
   simp only[execOp,resolve,invoke,builtin,zx,jU,zp,HG,l9,BX,hm,z]
   simp only[Builtin.delete_]
   simp only[BH,List.getElem?_cons_zero,List.getElem?_cons_succ,zx,run_underlying ht,zp,wW c,wU hk,l,tO]
   rw[WX]
   simp only[(Gk c).1,jU,zp]
theorem CB{t':TypeId}(i:Nat)(j:gI ops n s g=true)(hm:ev n s m = .map (some b))(o:ev n s x = .int k a)(ht:P.underlying t=some (.map kt e))(hk:P.underlying kt=some (.int k'))(l:St bs L w)(f:L[i]? = some (ia b k enc mm))(h:L.set i (ia b k enc (iL mm a))=L')(K:∀ w', St bs L' w' -> WL r P ops Q rest (Fr n (yP dd (.tuple #[]) s) ds) w'):WL r P ops Q (⟨dd,.call ⟨.builtin .delete,#[m,x],#[t,t']⟩,ty,pos,af,g⟩ :: rest) (Fr n s ds) w:=by
 obtain⟨w', c,d,_⟩:=Wq (dd:=dd) (ty:=ty) (pos:=pos) (af:=af) (g:=g) (t' := t') i hm o ht hk l f h
 exact LX j rfl c (by rw[B2];exact K w' d)
end
theorem IN{xs:List Nd}{q:Nat}:∀ {c:Cx} {j:Nat} {L:List Nat},At xs c j L q->Out xs q (lW c L)->∀ (k v:Nat),(js c j)[k]? = some v ->
 (k<c.length->(jI xs v).2=true/\(js c j)[k+1]? = some (fJ xs v).up)/\(k=c.length->jI xs v=(0,false))
 | [],j,L,h,ho,k,v,hk=>by
  cases k with
  | succ k=>simp[js]at hk
  | zero =>
   simp[js]at hk
   subst hk
   exact⟨fun h=>absurd h s_,fun _=>h.stop ho⟩
 | (d,g,s) :: c,j,L,h,ho,k,v,hk=>by
  obtain⟨f,i,l⟩:=h.step
  cases k with
  | zero =>
   simp[js]at hk
   subst hk
   exact⟨fun _=>⟨by rw[f],by simp[js,i]⟩,fun h=>absurd h s_⟩
  | succ k =>
   have m : (js c g)[k]? = some v:=by simpa[js]using hk
   have:=IN l ho k v m
   refine⟨fun e=>?_,fun e=>this.2 (by simpa using e)⟩
   obtain⟨a,b⟩:=this.1 (by simpa using e)
   exact⟨a,by simpa[js]using b⟩
theorem jK.O5{t:Tr}{g:Nat}(h:jK ys xs a O (mY d t g s) q)(b:(fJ xs g).flip=false):jK ys xs a ((d,g,s) :: O) t q :=
 ⟨h.rep,h.perm,h.ord,h.kl,h.other,fun f hm=>by
  rcases zg.1 hm with rfl|hm
  . exact b
  . exact h.flip f hm⟩
theorem LS{t:Tr}{w:List Nat}(h:Way i t w):∃ l r w', t = .nd l (w.headD 0) r/\w=w.headD 0 :: w' := by
 cases t with
 | nil=>exact h.elim
 | nd l j r =>
  rcases h with ⟨rfl,rfl⟩|⟨w', rfl,_⟩
  . exact⟨l,r,[],rfl,rfl⟩
  . exact⟨l,r,w', rfl,rfl⟩
theorem afy{k:Tr}{j:Nat}{w:List Nat}(h:jK ys xs k O U q)(v:k.mem.Nodup)(c:Way i U (j :: w)) :
 (w=[]->j=i/\∃ a b,jK ys (kj xs j) k O (.nd a i b) q/\(fJ (kj xs j) i).flip=false)/\(w≠[]->∃ p o, jK ys (kj xs j) k p o q/\Way i o w):=by
 obtain⟨l,r,w', e1,s⟩:=LS c
 simp only[List.headD_cons]at e1 s
 subst e1
 obtain⟨l', m, u,hm,n⟩:=h.push v
 refine⟨fun e=>?_,fun e=>?_⟩
 . rcases c with ⟨rfl,_⟩|⟨x,g,c⟩
   . exact⟨rfl,l', m, hm,n⟩
   . cases g
     subst e
     rcases c with c|c<;>(obtain⟨_,_,_,_,t⟩:=LS c;cases t)
 . rcases c with ⟨_,g⟩|⟨x,g,c⟩
   . cases g
     exact absurd rfl e
   . cases g
     have f:Way i l' w\/Way i m w:=by
      rcases u with ⟨rfl,rfl⟩|⟨rfl,rfl⟩
      . exact c
      . exact c.symm
     rcases f with f|f
     . exact⟨(true,j,m) :: O,l', jK.O5 (d:=true) hm n,f⟩
     . exact⟨(false,j,l') :: O,m, jK.O5 (d:=false) hm n,f⟩
theorem fZ.push(h:fZ xs)(hi:i<xs.length):fZ (kj xs i)/\(kj xs i).length=xs.length:=by
 unfold kj
 split
 . simp only
   obtain⟨y0,g⟩:∃ y,y=fO xs i (fun x=>{ x with flip:=false }):=⟨_,rfl⟩
   have k:fZ y0:=g▸h.iP hi fun x a b c d e=>⟨a,b,c,d,e⟩
   have r:y0.length=xs.length:=by rw[g,gB]
   rw[<-g]
   obtain⟨y1,e1⟩:∃ y,y=fO y0 i (fun x=>{ x with k0:=(fJ y0 i).k1 }):=⟨_,rfl⟩
   have p:fZ y1:=e1▸k.iP o_ fun x a b c d e=>⟨k.k1 i o_,b,c,d,e⟩
   have l1:y1.length=xs.length:=by rw[e1,gB,r]
   rw[<-e1]
   obtain⟨y2,j⟩:∃ y,y=fO y1 i (fun x=>{ x with k1:=(fJ y0 i).k0 }):=⟨_,rfl⟩
   have q:(fJ y0 i).k0<y1.length:=by
    have:=k.k0 i o_
    omega
   have f:fZ y2:=by
    rw[j]
    exact p.iP o_ fun x a b c d e=>⟨a,q,c,d,e⟩
   have n:y2.length=xs.length:=by rw[j,gB,l1]
   rw[<-j]
   obtain⟨o,m⟩:∃ y,y=(if (fJ y2 i).k0=0 then y2 else fO y2 (fJ y2 i).k0 (fun x=>{ x with flip := !(fJ y2 (fJ y2 i).k0).flip })):=⟨_,rfl⟩
   have l:fZ o/\o.length=xs.length:=by
    rw[m]
    split
    . exact⟨f,n⟩
    . exact⟨f.iP (f.k0 i o_) fun x a b c d e=>⟨a,b,c,d,e⟩,by rw[gB,n]⟩
   rw[<-m]
   split
   . exact l
   . exact⟨l.1.iP (by have:=f.k1 i o_;omega) fun x a b c d e=>⟨a,b,c,d,e⟩,by rw[gB];exact l.2⟩
 . exact⟨h,rfl⟩
theorem jK.out(h:jK ys xs a O U q)(f:Out ys q a.mem):Out xs q (lW O U.mem):=by
 have hm:∀ j,j∈lW O U.mem↔j∈a.mem:=fun j=>by rw[<-qj];exact h.perm.mem_iff
 rcases f with e|⟨c,d,b⟩
 . exact .inl e
 . have e:=h.other q b
   refine .inr ⟨fun k=>c ?_,fun k=>d ?_,fun k=>b ((hm _).1 k)⟩
   . have:=(hm _).1 k
     simpa only[jr,e]using this
   . have:=(hm _).1 k
     simpa only[jr,e]using this
theorem jK.sides{k b:Tr}(h:jK ys xs k O (.nd a i b) q)(r:k.mem.Nodup)(t:Out ys q k.mem) :
 (O=[]/\jI xs i=(0,false))\/(∃ d p s,O=[(d,p,s)]/\jI xs i=(sd d,true)/\(fJ xs i).up=p/\jI xs p=(0,false)) \/
 (∃ d p s j g o c,O=(d,p,s) :: (j, g,o) :: c/\jI xs i=(sd d,true)/\(fJ xs i).up=p/\jI xs p=(sd j, true)):=by
 have e:=At.start h.rep (h.perm.nodup_iff.2 r)
 have f:=h.out t
 match O,e,f with
 | [],e,f=>exact .inl ⟨rfl,e.stop f⟩
 | [(d,p,s)],e,f =>
  obtain⟨l,m,n⟩:=e.step
  exact .inr (.inl ⟨d,p,s,rfl,l,m,n.stop f⟩)
 | (d,p,s) :: (j, g,o) :: c,e,f =>
  obtain⟨l,m,n⟩:=e.step
  exact .inr (.inr ⟨d,p,s,j, g,o, c,rfl,l,m,n.step.1⟩)
theorem ac3{a:Bool}(h:sd d=sd a):d=a := by cases d<;>cases a <;> first|rfl|cases h
section
variable {w:World} {bs:List (World×List Nat)} {L:List fT} {R R' : fT} {i j:Nat} {k:IntKind} {v:Value} {e:TypeId} {ys:List Int}
theorem W9:∀ {L:List fT} {i j:Nat},(iZ L).Nodup->L[i]? = some R->L[j]? = some R' -> i≠j->∀ b∈R.gJ,b∉R'.gJ:=by
 intro L
 induction L with
 | nil=>intro i j _ h;simp at h
 | cons Q L f =>
  intro i j c hi a e b hb
  rw[nw,zr]at c
  cases i with
  | zero =>
   simp at hi;subst hi
   cases j with
   | zero=>exact absurd rfl e
   | succ j=>exact fun d => c.2.2 b hb b (su (i:=j) (by simpa using a) d) rfl
  | succ i =>
   cases j with
   | zero=>simp at a;subst a;exact fun d => c.2.2 b d b (su (i:=i) (by simpa using hi) hb) rfl
   | succ j=>exact f c.2.1 (by simpa using hi) (by simpa using a) o_ b hb
theorem St.acI(h:St bs L w)(hi:L[i]? = some (iz k v e ys))(hk:∀ y∈ys,gU k y)(o:L[j]? = some R)(r:i≠j):Ints k (fun b=>b∉R.gJ) w v ys:=by
 have c:w.ownsRow 0 e 1 v ys.length (ys.map (.int k)):=h.own _ (ze hi)
 rcases c.2 with ⟨rfl,l⟩|⟨a, f,cur,rfl,_,s,m,n,_⟩
 . have:ys=[]:=vD l
   subst this
   exact Sl.nil _ _ _ _
 . refine⟨_,f,rfl,m,n,fun q y d=>⟨a, 0,[.int k y],rfl,W9 h.sep hi o r a (by simp[row,Value.ownBlock]),rfl,⟨rfl,hk y (ze d)⟩,fun p u hp=>?_⟩⟩
   cases p with
   | zero =>
    simp at hp
    subst hp
    have:=c.cells (g:=a) rfl q (.int k y) (by simp[d])
    rw[Addr.add_lit]at this
    simpa using this
   | succ p=>simp at hp
end
theorem Sj{α:Type}{l:List α}{x:α}(h:l[i]? = some x):l.take (i+1)=l.take i++[x]:=by rw[qu,h];rfl
theorem fZ.rotate(h:fZ xs)(hi:i<xs.length):fZ (iM xs i)/\(iM xs i).length=xs.length:=by
 have hp:=h.up i hi
 have j:=h.up _ hp
 unfold iM
 simp only
 obtain⟨y1,e1⟩:∃ y,y=(if (jI xs (fJ xs i).up).2=true then jb xs (fJ xs (fJ xs i).up).up (jI xs (fJ xs i).up).1 i else fO xs i (fun x=>{ x with up:=(fJ xs (fJ xs i).up).up })):=⟨_,rfl⟩
 have f:fZ y1/\y1.length=xs.length:=by
  rw[e1]
  split
  . exact⟨h.kW j hi,Fq _ _ _ _⟩
  . exact⟨h.iP hi fun x a b c d e=>⟨a,b,j,d,e⟩,gB⟩
 rw[<-e1]
 obtain⟨k,g⟩:∃ k,k=(if (jI xs i).1=0 then(fJ y1 i).k1 else(fJ y1 i).k0):=⟨_,rfl⟩
 have n:k<y1.length:=by
  rw[g]
  split
  . exact f.1.k1 i o_
  . exact f.1.k0 i o_
 rw[<-g]
 have l:fZ (jb y1 (fJ xs i).up (jI xs i).1 k):=f.1.kW o_ n
 have o:(jb y1 (fJ xs i).up (jI xs i).1 k).length=xs.length:=by rw[Fq];exact f.2
 have m:fZ (jb (jb y1 (fJ xs i).up (jI xs i).1 k) i (1-(jI xs i).1) (fJ xs i).up):=l.kW o_ o_
 have p:(jb (jb y1 (fJ xs i).up (jI xs i).1 k) i (1-(jI xs i).1) (fJ xs i).up).length=xs.length:=by rw[Fq];exact o
 exact⟨(m.mh o_).mh (by rw[Gd];omega),by rw[Gd,Gd];exact p⟩
theorem Dg(h:fZ xs)(hi:i<xs.length):(iM xs i).length=xs.length:=(h.rotate hi).2
def lX(xs:List Nd)(P:List Nat)(k:Nat):List Nd:=(P.reverse.take k).foldl kj xs
theorem Q7(xs:List Nd)(P:List Nat):lX xs P 0=xs:=by simp[lX]
theorem Q6{P:List Nat}{k j:Nat}(h:P.reverse[k]? = some j):lX xs P (k+1)=kj (lX xs P k) j:=by
 unfold lX
 rw[Sj h,HD]
 rfl
theorem fZ.lX(h:fZ xs){P:List Nat}(d:∀ j∈P,j<xs.length):∀ k,fZ (Go.Sx.lX xs P k)/\(Go.Sx.lX xs P k).length=xs.length:=by
 intro k
 induction k with
 | zero=>rw[Q7];exact⟨h,rfl⟩
 | succ k c =>
  cases hk:P.reverse[k]? with
  | none =>
   have:Go.Sx.lX xs P (k+1)=Go.Sx.lX xs P k:=by
    unfold Go.Sx.lX
    rw[qu,hk]
    simp
   rw[this]
   exact c
  | some j =>
   rw[Q6 hk]
   have e:j∈P:=by simpa using ze hk
   obtain⟨a,b⟩:=c.1.push (i:=j) (by rw[c.2];exact d j e)
   exact⟨a,by rw[b,c.2]⟩
theorem afw{xs0:List Nd}{c:Tr}(e:c.mem.Nodup):∀ (w:List Nat) (xs:List Nd) (O:Cx) (U:Tr),jK xs0 xs c O U q->Way i U w->∃ d a b,jK xs0 (w.foldl kj xs) c d (.nd a i b) q/\(fJ (w.foldl kj xs) i).flip=false:=by
 intro w
 induction w with
 | nil =>
  grind [LS]
 | cons j w l =>
  intro xs O U h f
  obtain⟨g,k⟩:=afy h e f
  by_cases hw0:w=[]
  . grind
  . grind
theorem abK{c:Cx}{b:Tr}(e:gT xs (ki c (.nd a i b)) q)(f:(ki c (.nd a i b)).mem.Nodup){k:Nat}(hk:k=(js c i).length):∃ O a' d, jK xs (lX xs (js c i) k) (ki c (.nd a i b)) O (.nd a' i d) q/\(fJ (lX xs (js c i) k) i).flip=false:=by
 have:=afw f _ xs [] _ (jK.start e) (afx c a i b)
 unfold lX
 rw[vF (by simp[hk])]
 exact this
theorem aa9{c:Cx}{b:Tr}(e:gT xs (ki c (.nd a i b)) q):∀ j∈js c i,j<xs.length:=by
 intro j d
 refine(e.pK j ?_).2
 rw[qj]
 refine CU.2 ?_
 rcases zg.1 d with rfl|d
 . exact .inl (by simp[Tr.mem])
 . obtain⟨f,g,rfl⟩:=zq.1 d
   exact .inr (J4 g)
theorem Og:∀ (c:Cx) (L:List Nat),c.length+L.length<=(lW c L).length
 | [],L=>by simp[lW]
 | (d,g,s) :: c,L=>by
  have:=Og c (kf d L g s)
  rw[lW]
  cases d<;>simp only[kf,cond_true,cond_false,zo,zh]at * <;> omega
theorem aa8{c:Cx}{b:Tr}:(js c i).length=c.length+1/\c.length+1<=(ki c (.nd a i b)).mem.length:=by
 refine⟨by simp[js],?_⟩
 rw[qj]
 have:=Og c (Tr.nd a i b).mem
 simp only[Tr.mem,zo,zh]at *
 omega
section
variable {xs:List Nd} {c:Cx} {q j k v s:Nat} {L:List Nat} {i:Nat}
theorem Vw(h:At xs c i L q)(a:Out xs q (lW c L))(hk:(js c i)[k]? = some v)(hs:jI xs v=(s,false)):k=c.length:=by
 have b:=IN h a k v hk
 grind [js]
theorem N8(h:At xs c i L q)(a:Out xs q (lW c L))(hk:(js c i)[k]? = some v)(hs:jI xs v=(s,true)):k<c.length/\(js c i)[k+1]? = some (fJ xs v).up:=by
 grind [IN,js]
end
abbrev gy(P:List Nat):List Int:=P.map (fun(x:Nat)=>(x:Int))
theorem Kf{P:List Nat}{k j:Nat}(h:P[k]? = some j):gy (P.take k)++[(j:Int)]=gy (P.take (k+1)):=by
 rw[Sj h,gy,gy,nt]
 rfl
theorem FR{m:Nat}{P:List Nat}(h:∀ j∈P,j<m)(hm:m<=1000001):∀ y∈gy P,gU .i64 y:=by
 intro y b
 obtain⟨j,a,rfl⟩:=zq.1 b
 have:=h j a
 show (-9223372036854775808:Int)<=_/\_<=(9223372036854775807:Int)
 omega
theorem aay{P:List Nat}{k:Nat}(hk:k<(gy P).length)(h:(gy P)[(gy P).length-1-k]? = some x):∃ j,P.reverse[k]? = some j/\x=(j:Int):=by
 grind
instance:Inhabited (Value×List Nat):=⟨(.slice none 0 0,[])⟩
abbrev IM:=List (Int×(Value×List Nat))
def jF(e:TypeId)(m:IM):fT:=gh (m.map fun p=>iz .i64 p.2.1 e (gy p.2.2))
theorem CV{γ:Type}(m:List (Int×γ))(a:Int)(x:γ):(gr m a x).Perm ((a,x) :: iL m a):=by
 induction m with
 | nil=>exact List.Perm.refl _
 | cons p m b =>
  obtain⟨c,y⟩:=p
  unfold gr iL
  split
  . rename_i h
    exact List.Perm.refl _
  . rename_i h
    exact(List.Perm.cons _ b).trans (List.Perm.swap _ _ _)
theorem FO{γ:Type}{m:List (Int×γ)}{a:Int}{x:γ}(h:ig m a=some x):m.Perm ((a,x) :: iL m a):=by
 induction m with
 | nil=>simp[ig]at h
 | cons p m d =>
  obtain⟨c,y⟩:=p
  unfold ig at h
  unfold iL
  split at h
  . rename_i b
    rw[if_pos b]
    cases h
    rw[b]
  . rename_i b
    rw[if_neg b]
    exact(List.Perm.cons _ (d h)).trans (List.Perm.swap _ _ _)
theorem J1{γ:Type}{m:List (Int×γ)}{a:Int}(h:ig m a=none):iL m a=m:=by
 induction m with
 | nil=>rfl
 | cons p m d =>
  obtain⟨c,y⟩:=p
  unfold ig at h
  unfold iL
  split at h
  . cases h
  . rename_i b
    rw[if_neg b,d h]
section
variable {bs:List (World×List Nat)} {L:List fT} {w:World} {e:TypeId} {m:IM} {a:Int}
theorem St.xX{m2:IM}(h:St bs (jF e m :: L) w)(hp:m.Perm m2):St bs (jF e m2 :: L) w :=
 St.pack _ _ ((St.unpack h).perm ((hp.map _).append_right _))
theorem St.Oz{p:Int×(Value×List Nat)}(h:St bs (jF e (p :: m) :: L) w):St bs (iz .i64 p.2.1 e (gy p.2.2) :: jF e m :: L) w:=by
 have a:St bs (([iz .i64 p.2.1 e (gy p.2.2)]++m.map fun p=>iz .i64 p.2.1 e (gy p.2.2))++L) w:=St.unpack h
 rw[z7]at a
 have b:=a.perm (L' := (m.map fun p=>iz .i64 p.2.1 e (gy p.2.2))++([iz .i64 p.2.1 e (gy p.2.2)]++L)) (by
  rw[<-z7,<-z7]
  exact List.Perm.append_right _ qM)
 exact(St.pack _ _ b).swap
theorem St.IU{p:Int×(Value×List Nat)}(h:St bs (iz .i64 p.2.1 e (gy p.2.2) :: jF e m :: L) w):St bs (jF e (p :: m) :: L) w:=by
 have a:St bs ((m.map fun p=>iz .i64 p.2.1 e (gy p.2.2))++(iz .i64 p.2.1 e (gy p.2.2) :: L)) w:=St.unpack h.swap
 refine St.pack _ _ (a.perm ?_)
 show List.Perm _ (iz .i64 p.2.1 e (gy p.2.2) :: ((m.map fun p=>iz .i64 p.2.1 e (gy p.2.2))++L))
 exact sO
theorem St.W6(a:Int)(h:St bs (jF e m :: L) w):St bs (iz .i64 (fS m a).1 e (gy (fS m a).2) :: jF e (iL m a) :: L) w:=by
 unfold fS
 cases hm:ig m a with
 | none =>
  rw[J1 hm]
  exact St.ER h e 1
 | some x=>exact(h.xX (FO hm)).Oz
theorem St.W5{v:Value}{xs:List Nat}(h:St bs (iz .i64 v e (gy xs) :: jF e (iL m a) :: L) w):St bs (jF e (gr m a (v,xs)) :: L) w :=
 (St.IU (p:=(a,(v,xs))) h).xX (CV m a (v,xs)).symm
theorem St.Jb(h:St bs L w):St bs (jF e [] :: L) w:=St.pack [] L h
end
theorem CX(i:Nat):gy (ds++[i])=gy ds++[(i:Int)]:=by simp[gy]
theorem Kb(i:Nat):(gy ds).eraseIdx i=gy (ds.eraseIdx i):=by
 rw[gy,Ho,Ho]
 simp[gy]
structure Lv where
 slot:Int
 seq:Int
 u:Int
 v:Int
 wt:Int
 t:Int
 exp:Int
structure Cf where
 win:Int
 fM:Int
 fN:Int
 kN:Int
instance:Inhabited Lv:=⟨⟨0,0,0,0,0,0,0⟩⟩
def Lv.cells(x:Lv):List Value:=[.int .i64 x.slot,.int .u64 x.seq,.int .u64 x.u,.int .u64 x.v,.int .i64 x.wt,.int .i64 x.t,.int .i64 x.exp]
structure Lv.ok (x:Lv):Prop where
 slot:gU .i64 x.slot
 seq:gU .u64 x.seq
 u:gU .u64 x.u
 v:gU .u64 x.v
 wt:gU .i64 x.wt
 t:gU .i64 x.t
 exp:gU .i64 x.exp
end Go.Sx
