/- Plain lemmas: rules for walking through code, one for each operation, over any program; an evaluator of closed calls with its soundness; and plain mathematics. No conditions. -/
import Derived.Test.YtedjjkcihkmjgaaGreatDoorFa
import Derived.KernelRfl
import Derived.Laws.BitsAllLaws
import Derived.Sort.Row
import Derived.Maps.RangeRun
set_option linter.unusedVariables false
set_option linter.unusedSectionVars false
set_option linter.unusedSimpArgs false
namespace Go.Sx
open Go
section
variable {r:Option Nat} {P:Program} {ops:Array Oper} {Q:Exit->Act->World->Prop} {rest:List Oper} {n:Nat} {s:List (Nat×Value)} {ds:List Deferred} {w:World}
variable {d:Nat} {dd:Option Nat} {ty t:TypeId} {pos:String} {af:Array Edge} {g:Option (Nat×Bool)} {x:Operand} {cs:Array Value} {v:Value} {i:Nat} {u:TypeDesc}
theorem ZJ{a:Array Field}{f:Field}(h:ev n s x = .agg cs)(e:P.underlying t=some (.struct a))(c:a[i]? = some f)(b:P.underlying f.type=some u)(d:j6 u=false)(hv:cs[f.offset]? = some v) :
 (execOp (ev n s) ⟨dd,.field t x i,ty,pos,af,g⟩).run P w = .ok (.value v) w:=by
 simp[execOp,h,Instr.field,asAgg,run_underlying e,c,part,wS b,d,hv]
theorem Qe{a:Array Field}{f:Field}(e:gC ops n s g=true)(k:ev n s x = .agg cs)(j:P.underlying t=some (.struct a))(c:a[i]? = some f)(b:P.underlying f.type=some u)(h:j6 u=false)(hv:cs[f.offset]? = some v)
 (K:WL r P ops Q rest (Fr n ((d,v) :: s) ds) w):WL r P ops Q (⟨some d,.field t x i,ty,pos,af,g⟩ :: rest) (Fr n s ds) w:=pw e (fun _=>ZJ k j c b h hv) K
end
end Go.Sx
namespace Go.Sx
open Go
section
variable {r:Option Nat} {P:Program} {ops:Array Oper} {Q:Exit->Act->World->Prop} {rest:List Oper} {n:Nat} {s:List (Nat×Value)} {ds:List Deferred} {w:World}
variable {d:Nat} {dd:Option Nat} {ty t t' e:TypeId} {pos:String} {af:Array Edge} {g:Option (Nat×Bool)} {x y:Operand} {a:Option Addr} {c:Bool}
theorem S1(k:Nat)(b:P.underlying t=some (.pointer e)):(Op.equalIn (k+1) t (.pointer a) (.pointer none)).run P w = .ok a.isNone w:=by
 cases a<;>simp[Op.equalIn,run_underlying b]
theorem YU(f:ev n s x = .pointer a)(h:ev n s y = .pointer none)(d:P.underlying t=some (.pointer e))(b:a.isNone=c) :
 (execOp (ev n s) ⟨dd,.binOp .eql t x y t', ty,pos,af,g⟩).run P w = .ok (.value (.bool c)) w:=by
 subst b
 simp[execOp,f,h,eqGuard,binOp,Op.equal,Op.maxDepth,S1 9999 d]
theorem uM(f:gC ops n s g=true)(i:ev n s x = .pointer a)(j:ev n s y = .pointer none)(h:P.underlying t=some (.pointer e))(b:a.isNone=c)
 (K:WL r P ops Q rest (Fr n ((d,.bool c) :: s) ds) w):WL r P ops Q (⟨some d,.binOp .eql t x y t', ty,pos,af,g⟩ :: rest) (Fr n s ds) w:=pw f (fun _=>YU i j h b) K
theorem ach(f:ev n s x = .pointer a)(h:ev n s y = .pointer none)(d:P.underlying t=some (.pointer e))(b:(!a.isNone)=c) :
 (execOp (ev n s) ⟨dd,.binOp .neq t x y t', ty,pos,af,g⟩).run P w = .ok (.value (.bool c)) w:=by
 subst b
 simp[execOp,f,h,eqGuard,binOp,Op.equal,Op.maxDepth,S1 9999 d]
theorem l9(f:gC ops n s g=true)(i:ev n s x = .pointer a)(j:ev n s y = .pointer none)(h:P.underlying t=some (.pointer e))(b:(!a.isNone)=c)
 (K:WL r P ops Q rest (Fr n ((d,.bool c) :: s) ds) w):WL r P ops Q (⟨some d,.binOp .neq t x y t', ty,pos,af,g⟩ :: rest) (Fr n s ds) w:=pw f (fun _=>ach i j h b) K
end
section
variable {P:Program} {n:Nat} {s:List (Nat×Value)} {w w0:World} {fn:Func} {bs:List (World×List Nat)} {L:List fT} {x:ResultVar} {v:Value} {b:Nat} {T:TypeId} {cs:List Value}
theorem St.KP(h:St bs L w)(hb:(w0,[])∈bs)(a:(blk b T cs).holds w0):(blk b T cs).holds w :=
 (h.keep hb (qg.1 a).1 s_).trans a
end
end Go.Sx
namespace Go.Sx
open Go
def HQ(P:Program):List (Nat×TypeDesc)->Prop
 | []=>True
 | p :: l=>P.underlying p.1=some p.2/\HQ P l
def allI(P:Program):List (Nat×Nat×Nat×Value)->Prop
 | []=>True
 | p :: l=>TI P p.1 p.2.1 p.2.2.1 p.2.2.2/\allI P l
class TT (P:Program) where
 mx:P.follows .mixedOrders=true
 u:List (Nat×TypeDesc)
 i:List (Nat×Nat×Nat×Value)
 lB:HQ P u
 nh:allI P i
def jb{α:Type}:List (Nat×α)->Nat->Option α
 | [],_=>none
 | p :: l,t=>bif Nat.beq p.1 t then some p.2 else jb l t
theorem kX{P:Program}:∀ {l:List (Nat×TypeDesc)} {t:Nat} {u:TypeDesc},HQ P l->jb l t=some u->P.underlying t=some u
 | [],_,_,_,h=>by simp[jb]at h
 | p :: l,t,u,hl,h=>by
  simp only[jb]at h
  cases hb:Nat.beq p.1 t with
  | true=>rw[hb]at h;simp at h;rw[<-zM hb,<-h];exact hl.1
  | false=>rw[hb]at h;exact kX hl.2 h
theorem mN{P:Program}:∀ {l:List (Nat×Nat×Nat×Value)} {t a b:Nat} {z:Value},allI P l->jb l t=some (a,b,z)->TI P t a b z
 | [],_,_,_,_,_,h=>by simp[jb]at h
 | p :: l,t,a,b,z,hl,h=>by
  simp only[jb]at h
  cases hb:Nat.beq p.1 t with
  | true=>rw[hb]at h;simp at h;have c:=hl.1;rw[h,zM hb]at c;exact c
  | false=>rw[hb]at h;exact mN hl.2 h
section
variable {P:Program}
structure SL (T:TT P) (J:World->Prop) (bs:List (World×List Nat)) (L:List fT) (N:Nat) (r:Option Nat) (ops:Array Oper) (Q:Exit->Act->World->Prop) (l:List Oper) (a:Act):Prop where
 out:∀ w,J w->St bs L w->WL r P ops Q l a w
structure SP (T:TT P) (J:World->Prop) (bs:List (World×List Nat)) (L:List fT) (N:Nat) (r:Option Nat) (Q:Exit->Act->World->Prop) (c:Code) (a:Act):Prop where
 out:∀ w,J w->St bs L w->WP r P c Q a w
structure SQ (T:TT P) (J:World->Prop) (bs:List (World×List Nat)) (L:List fT) (N:Nat) (r:Option Nat) (Q:Exit->Act->World->Prop) (e:Exit) (a:Act):Prop where
 out:∀ w,J w->St bs L w->Q e a w
def Kc(r:Option Nat)(P:Program)(Y:Code)(Q:Exit->Act->World->Prop):Act->World->Prop:=fun a w=>WP r P Y Q a w
variable {T:TT P} {J:World->Prop} {bs:List (World×List Nat)} {L L' : List fT} {r:Option Nat} {ops:Array Oper} {Q:Exit->Act->World->Prop} {rest:List Oper} {n:Nat} {s:List (Nat×Value)} {ds:List Deferred} {w w' w0:World}
variable {N d i j:Nat} {ty t:TypeId} {pos:String} {af:Array Edge} {g:Option (Nat×Bool)} {v u:Value} {x y z:Operand} {X Y:Code} {a:Act} {K' : Act->World->Prop} {l:List Oper}
theorem SP.sq(K:SP T J bs L N r (Exit.then (Kc r P Y Q) Q) X a):SP T J bs L (N+1) r Q (.seq X Y) a:=⟨fun w j h=>wpIn_seq (K.out w j h)⟩
theorem SP.rg{id:Nat}(K:SL T J bs L N r l.toArray Q l (Fr n s ds)):SP T J bs L (N+1) r Q (.region id l.toArray false) (Fr n s ds):=⟨fun w j h=>Go.Sx.rg (K.out w j h)⟩
theorem SP.KN{id:Nat}(K:SL T (fun _=>True) bs L N r l.toArray Q l (Fr n s ds))(a:∃ np,(np=false\/NP Q)/\okF np l (yQ (List.range' 0 l.length) [])=true:=by first|exact⟨true,.inr inferInstance,by kernel_rfl⟩|exact⟨false,.inl rfl,by kernel_rfl⟩):SP T (fun _=>True) bs L (N+1) r Q (.region id l.toArray true) (Fr n s ds):=⟨fun w _ h=>Go.Sx.KN T.mx h (fun w' hs=>K.out w' trivial hs) a⟩
theorem SP.cT{c:Operand}(K:SP T J bs L N r Q X (Fr n s ds))(a:ev n s c = .bool true:=by exact rfl):SP T J bs L (N+1) r Q (.cond c X Y) (Fr n s ds):=⟨fun w j h=>VC a (K.out w j h)⟩
theorem SP.cF{c:Operand}(K:SP T J bs L N r Q Y (Fr n s ds))(a:ev n s c = .bool false:=by exact rfl):SP T J bs L (N+1) r Q (.cond c X Y) (Fr n s ds):=⟨fun w j h=>VB a (K.out w j h)⟩
theorem SP.bk{id:Nat}(K:SP T J bs L N r (Exit.inBlock id Q) X (Fr n s ds)):SP T J bs L (N+1) r Q (.block id X) (Fr n s ds):=⟨fun w j h=>Go.Sx.bk (K.out w j h)⟩
theorem SP.sp(K:SQ T J bs L N r Q .normal (Fr n s ds)):SP T J bs L (N+1) r Q .skip (Fr n s ds):=⟨fun w j h=>Go.Sx.sp (K.out w j h)⟩
theorem SP.xt{id:Nat}(K:SQ T J bs L N r Q (.exit id) (Fr n s ds)):SP T J bs L (N+1) r Q (.exit id) (Fr n s ds):=⟨fun w j h=>Go.Sx.xt (K.out w j h)⟩
theorem SP.rt(K:SQ T J bs L N r Q .ret (Fr n s ds)):SP T J bs L (N+1) r Q .ret (Fr n s ds):=⟨fun w j h=>Go.Sx.rt (K.out w j h)⟩
theorem SQ.tN(K:SP T J bs L N r Q Y a):SQ T J bs L (N+1) r (Exit.then (Kc r P Y Q) Q) .normal a:=⟨fun w j h=>K.out w j h⟩
theorem SQ.tX(K:SQ T J bs L N r Q (.exit j) a):SQ T J bs L (N+1) r (Exit.then K' Q) (.exit j) a:=⟨fun w j h=>K.out w j h⟩
theorem SQ.tR(K:SQ T J bs L N r Q .ret a):SQ T J bs L (N+1) r (Exit.then K' Q) .ret a:=⟨fun w j h=>K.out w j h⟩
theorem SQ.bN(K:SQ T J bs L N r Q .normal a):SQ T J bs L (N+1) r (Exit.inBlock i Q) .normal a:=⟨fun w j h=>K.out w j h⟩
theorem SQ.bR(K:SQ T J bs L N r Q .ret a):SQ T J bs L (N+1) r (Exit.inBlock i Q) .ret a:=⟨fun w j h=>K.out w j h⟩
theorem SQ.bX(K:SQ T J bs L N r Q .normal a):SQ T J bs L (N+1) r (Exit.inBlock i Q) (.exit i) a:=⟨fun w j h=>Go.Sx.bX (K.out w j h)⟩
theorem SQ.HT(K:SQ T J bs L N r Q (.exit j) a)(b:Nat.beq j i=false:=by exact rfl):SQ T J bs L (N+1) r (Exit.inBlock i Q) (.exit j) a:=⟨fun w j h=>Go.Sx.HT b (K.out w j h)⟩
theorem SQ.K3(K:SQ T J bs L N r Q .normal a):SQ T J bs L (N+1) r (u5 Q) .normal a:=⟨fun w j h=>Go.Sx.K3 (K.out w j h)⟩
theorem SQ.K5(K:SQ T J bs L N r Q (.exit j) a):SQ T J bs L (N+1) r (u5 Q) (.exit j) a:=⟨fun w j h=>Go.Sx.K5 (K.out w j h)⟩
theorem SQ.K4(K:SQ T J bs L N r Q .ret a):SQ T J bs L (N+1) r (u5 Q) .ret a:=⟨fun w j h=>Go.Sx.K4 (K.out w j h)⟩
theorem SP.scp(K:SP T J bs L N r (u5 Q) X a):SP T J bs L (N+1) r Q (.scope X) a:=⟨fun w j h=>Go.Sx.scp (K.out w j h)⟩
theorem SP.JA{l:Nat}(K:SQ T J bs L N r Q .normal a):SP T J bs L (N+1) r Q (.label l) a:=⟨fun w j h=>Go.Sx.JA (K.out w j h)⟩
theorem SL.nil(K:SQ T J bs L N r Q .normal (Fr n s ds)):SL T J bs L (N+1) r ops Q [] (Fr n s ds):=⟨fun w j h=>agK (K.out w j h)⟩
theorem SL.sk{op:Op}{g:Nat×Bool}(K:SL T J bs L N r ops Q rest (Fr n ((d,undef) :: s) ds))(a:gC ops n s (some g)=false:=by exact rfl):SL T J bs L (N+1) r ops Q (⟨some d,op,ty,pos,af,some g⟩ :: rest) (Fr n s ds):=⟨fun w j h=>Go.Sx.sk a (K.out w j h)⟩
theorem qP{R:fT}{L:List fT}:(R :: L)[0]? = some R:=rfl
theorem qQ{R a:fT}{L:List fT}:(a :: R :: L)[1]? = some R:=rfl
theorem nE{R a b:fT}{L:List fT}:(a :: b :: R :: L)[2]? = some R:=rfl
theorem nF{R a b c:fT}{L:List fT}:(a :: b :: c :: R :: L)[3]? = some R:=rfl
theorem qR{R a b c d:fT}{L:List fT}:(a :: b :: c :: d :: R :: L)[4]? = some R:=rfl
theorem qS{R a b c d e:fT}{L:List fT}:(a :: b :: c :: d :: e :: R :: L)[5]? = some R:=rfl
theorem N6{k:IntKind}{a:Int}:(Value.int k a).cells.toList=[Value.int k a]:=rfl
theorem N5{a:Bool}:(Value.bool a).cells.toList=[Value.bool a]:=rfl
theorem N7{a:Option Addr}:(Value.pointer a).cells.toList=[Value.pointer a]:=rfl
theorem N8{a:Option Addr}{m c:Nat}:(Value.slice a m c).cells.toList=[Value.slice a m c]:=rfl
theorem N4{l:List Value}:(Value.agg l.toArray).cells.toList=l:=by simp[Value.cells]
theorem qT{R a b c d e f:fT}{L:List fT}:(a :: b :: c :: d :: e :: f :: R :: L)[6]? = some R:=rfl
theorem qU{R a b c d e f g:fT}{L:List fT}:(a :: b :: c :: d :: e :: f :: g :: R :: L)[7]? = some R:=rfl
def Bp:List Value->Nat->(List Value->Option (List Value))->Option (List Value)
 | _,0,k=>k []
 | v :: l,m+1,k=>Bp l m fun r=>k (v :: r)
 | [],_+1,_=>none
def sub' (l:List Value)(o m:Nat):Option (List Value):=Bp (l.drop o) m some
theorem Lu:∀ (l:List Value) (m:Nat) (k:List Value->Option (List Value)),Bp l m k=if m<=l.length then k (l.take m)else none
 | l,0,k=>by simp[Bp]
 | v :: l,m+1,k=>by simp[Bp,Lu l m]
 | [],m+1,k=>by simp[Bp]
theorem wX{l vs:List Value}{o m:Nat}(h:sub' l o m=some vs):vs.length=m:=by
 unfold sub' at h
 rw[Lu]at h
 split at h
 . rename_i a
   simp at h
   rw[<-h,zw]
   omega
 . cases h
theorem yT{l vs:List Value}{o m:Nat}(h:sub' l o m=some vs):(l.drop o).take vs.length=vs:=by
 rw[wX h]
 unfold sub' at h
 rw[Lu]at h
 split at h
 . simpa using h
 . cases h
theorem SL.mv  (K:SL T J bs L N r ops Q rest (Fr n ((d,v) :: s) ds)) (b:ev n s x=v:=by conv=>lhs;whnf) (a:gC ops n s g=true:=by exact rfl):SL T J bs L (N+1) r ops Q (⟨some d,.move x,ty,pos,af,g⟩ :: rest) (Fr n s ds):=⟨fun w j h=>pw a (fun _=>lI b) (K.out w j h)⟩
theorem SL.QA{α:Type}{cf:α->List Value}{xs:List α}{e e' : TypeId}{kk:IntKind}{k sz by_ i:Nat}{o:Value}(K:SL T J bs L N r ops Q rest (Fr n ((d,jm sz v k 0) :: s) ds))(l:ev n s x=v:=by conv=>lhs;whnf)(m:ev n s y = .int kk (k:Nat):=by exact rfl)(a:jb T.u t=some (.slice e):=by exact rfl)(f:jb T.i e=some (sz,by_,o):=by exact rfl)(hi:L[i]? = some (fL cf v e' sz xs):=by first|exact qP|exact qQ|exact nE|exact nF|exact qR|exact qS|exact qT|exact qU)(p:Inhabited α:=by infer_instance)(c:∀ x:α,(cf x).length=sz:=by exact fun _=>rfl)(hk:k<xs.length:=by first|omega|(simp only[gx];omega))(b:gC ops n s g=true:=by exact rfl):SL T J bs L (N+1) r ops Q (⟨some d,.indexAddr t x y,ty,pos,af,g⟩ :: rest) (Fr n s ds):=⟨fun w j h=>pw b (fun _=>CD l m (kX T.lB a) (mN T.nh f) (St.yO h hi c) o_ o_ (gy hk)) (K.out w j h)⟩
theorem SL.PX{α:Type}{cf:α->List Value}{xs:List α}{e' : TypeId}{i q k sz off off' szf byf:Nat}{zf:Value}{fields:Array Field}{f:Field}(K:SL T J bs L N r ops Q rest (Fr n ((d,jm sz v k off') :: s) ds))(o:ev n s x=jm sz v k off:=by exact rfl)(a:jb T.u t=some (.struct fields):=by exact rfl)(b:fields[i]? = some f:=by exact rfl)(m:jb T.i f.type=some (szf+1,byf,zf):=by exact rfl)(l:off+f.offset=off' := by conv=>lhs;whnf)(hi:L[q]? = some (fL cf v e' sz xs):=by first|exact qP|exact qQ|exact nE|exact nF|exact qR|exact qS|exact qT|exact qU)(p:Inhabited α:=by infer_instance)(e:∀ x:α,(cf x).length=sz:=by exact fun _=>rfl)(hk:k<xs.length:=by first|omega|(simp only[gx];omega))(c:gC ops n s g=true:=by exact rfl):SL T J bs L (N+1) r ops Q (⟨some d,.fieldAddr t x i,ty,pos,af,g⟩ :: rest) (Fr n s ds):=⟨fun w j h=>pw c (fun _=>EK o (kX T.lB a) b (mN T.nh m) l (St.yO h hi e) (gy hk)) (K.out w j h)⟩
theorem SL.E5{α:Type}{cf:α->List Value}{xs:List α}{e' : TypeId}{q k sz off:Nat}{ud:TypeDesc}{u:Value}(K:SL T J bs L N r ops Q rest (Fr n ((d,v) :: s) ds))(f:ev n s x=jm sz u k off:=by exact rfl)(a:jb T.u t=some ud:=by exact rfl)(e:j6 ud=false:=by exact rfl)(hi:L[q]? = some (fL cf u e' sz xs):=by first|exact qP|exact qQ|exact nE|exact nF|exact qR|exact qS|exact qT|exact qU)(i:Inhabited α:=by infer_instance)(c:∀ x:α,(cf x).length=sz:=by exact fun _=>rfl)(hk:k<xs.length:=by first|omega|(simp only[gx];omega))(hv:(cf (fJ xs k))[off]? = some v:=by exact rfl)(b:gC ops n s g=true:=by exact rfl):SL T J bs L (N+1) r ops Q (⟨some d,.load t x,ty,pos,af,g⟩ :: rest) (Fr n s ds):=⟨fun w j h=>pv b rfl (wo f (kX T.lB a) e (St.yO h hi c) (gy hk) hv) (K.out w j h)⟩
theorem SL.PV{i b k sz off off' szf byf:Nat}{zf:Value}{fields:Array Field}{f:Field}(K:SL T J bs L N r ops Q rest (Fr n ((d,.pointer (some ⟨b,k*sz+off', none⟩)) :: s) ds))(o:ev n s x = .pointer (some ⟨b,k*sz+off,none⟩):=by exact rfl)(a:jb T.u t=some (.struct fields):=by exact rfl)(c:fields[i]? = some f:=by exact rfl)(m:jb T.i f.type=some (szf+1,byf,zf):=by exact rfl)(l:off+f.offset=off' := by conv=>lhs;whnf)(e:gC ops n s g=true:=by exact rfl):SL T J bs L (N+1) r ops Q (⟨some d,.fieldAddr t x i,ty,pos,af,g⟩ :: rest) (Fr n s ds):=⟨fun w j h=>pw e (fun _=>uN o (kX T.lB a) c (mN T.nh m) (by rw[<-l,lW])) (K.out w j h)⟩
theorem SL.fa{i b o o' szf byf:Nat}{zf:Value}{fields:Array Field}{f:Field}(K:SL T J bs L N r ops Q rest (Fr n ((d,.pointer (some ⟨b,o', none⟩)) :: s) ds))(m:ev n s x = .pointer (some ⟨b,o,none⟩):=by exact rfl)(a:jb T.u t=some (.struct fields):=by exact rfl)(c:fields[i]? = some f:=by exact rfl)(l:jb T.i f.type=some (szf+1,byf,zf):=by exact rfl)(k:o+f.offset=o' := by conv=>lhs;whnf)(e:gC ops n s g=true:=by exact rfl):SL T J bs L (N+1) r ops Q (⟨some d,.fieldAddr t x i,ty,pos,af,g⟩ :: rest) (Fr n s ds):=⟨fun w j h=>pw e (fun _=>uN m (kX T.lB a) c (mN T.nh l) k) (K.out w j h)⟩
theorem SL.ld{b o i:Nat}{a:TypeId}{cs:List Value}{ud:TypeDesc}(K:SL T J bs L N r ops Q rest (Fr n ((d,v) :: s) ds))(k:ev n s x = .pointer (some ⟨b,o,none⟩):=by exact rfl)(c:jb T.u t=some ud:=by exact rfl)(f:j6 ud=false:=by exact rfl)(hi:L[i]? = some (blk b a cs):=by first|exact qP|exact qQ|exact nE|exact nF|exact qR|exact qS|exact qT|exact qU)(hv:cs[o]? = some v:=by exact rfl)(e:gC ops n s g=true:=by exact rfl):SL T J bs L (N+1) r ops Q (⟨some d,.load t x,ty,pos,af,g⟩ :: rest) (Fr n s ds):=⟨fun w j h=>pv e rfl (mM k (kX T.lB c) f (h.rU hi hv)) (K.out w j h)⟩
theorem SL.JB{α:Type}{cf:α->List Value}{xs:List α}{b k sz off i:Nat}{a:TypeId}{ud:TypeDesc}(K:SL T J bs L N r ops Q rest (Fr n ((d,v) :: s) ds))(m:ev n s x = .pointer (some ⟨b,k*sz+off,none⟩):=by exact rfl)(c:jb T.u t=some ud:=by exact rfl)(l:j6 ud=false:=by exact rfl)(hi:L[i]? = some (blk b a (xs.flatMap cf)):=by first|exact qP|exact qQ|exact nE|exact nF|exact qR|exact qS|exact qT|exact qU)(o:Inhabited α:=by infer_instance)(f:∀ x:α,(cf x).length=sz:=by exact fun _=>rfl)(hk:k<xs.length:=by first|omega|(simp only[gx];omega))(hv:(cf (fJ xs k))[off]? = some v:=by exact rfl)(e:gC ops n s g=true:=by exact rfl):SL T J bs L (N+1) r ops Q (⟨some d,.load t x,ty,pos,af,g⟩ :: rest) (Fr n s ds):=⟨fun w j h=>pv e rfl (mM m (kX T.lB c) l (St.KH h hi f hk hv)) (K.out w j h)⟩
theorem SL.JD{b o:Nat}{a:TypeId}{cs:List Value}{ud:TypeDesc}(K:SL T J bs L N r ops Q rest (Fr n ((d,v) :: s) ds))(i:ev n s x = .pointer (some ⟨b,o,none⟩):=by exact rfl)(c:jb T.u t=some ud:=by exact rfl)(f:j6 ud=false:=by exact rfl)(hi:(blk b a cs).holds w0:=by assumption)(hb:(w0,[])∈bs:=by simp)(hv:cs[o]? = some v:=by exact rfl)(e:gC ops n s g=true:=by exact rfl):SL T J bs L (N+1) r ops Q (⟨some d,.load t x,ty,pos,af,g⟩ :: rest) (Fr n s ds):=⟨fun w j h=>pv e rfl (mM i (kX T.lB c) f (St.KQ h hb hi hv)) (K.out w j h)⟩
theorem SL.JF{α:Type}{cf:α->List Value}{xs:List α}{b k sz off:Nat}{a:TypeId}{ud:TypeDesc}(K:SL T J bs L N r ops Q rest (Fr n ((d,v) :: s) ds))(l:ev n s x = .pointer (some ⟨b,k*sz+off,none⟩):=by exact rfl)(c:jb T.u t=some ud:=by exact rfl)(i:j6 ud=false:=by exact rfl)(hi:(blk b a (xs.flatMap cf)).holds w0:=by assumption)(m:Inhabited α:=by infer_instance)(hb:(w0,[])∈bs:=by simp)(f:∀ x:α,(cf x).length=sz:=by exact fun _=>rfl)(hk:k<xs.length:=by first|omega|(simp only[gx];omega))(hv:(cf (fJ xs k))[off]? = some v:=by exact rfl)(e:gC ops n s g=true:=by exact rfl):SL T J bs L (N+1) r ops Q (⟨some d,.load t x,ty,pos,af,g⟩ :: rest) (Fr n s ds):=⟨fun w j h=>pv e rfl (mM l (kX T.lB c) i (St.SV h hb hi f hk hv)) (K.out w j h)⟩
theorem SL.rS  (K:SL T J bs L N r ops Q rest (Fr n ((d,v) :: s) ds)) (b:ev n s x=v:=by conv=>lhs;whnf) (a:gC ops n s g=true:=by exact rfl):SL T J bs L (N+1) r ops Q (⟨some d,.assign x,ty,pos,af,g⟩ :: rest) (Fr n s ds):=⟨fun w j h=>pw a (fun _=>vS b) (K.out w j h)⟩
theorem SL.uZ{p:Addr}(K:SL T J bs L N r ops Q rest (Fr n ((d,.pointer (some p)) :: s) ds))(b:ev n s x = .pointer (some p):=by exact rfl)(a:gC ops n s g=true:=by exact rfl):SL T J bs L (N+1) r ops Q (⟨some d,.nilCheck x,ty,pos,af,g⟩ :: rest) (Fr n s ds):=⟨fun w j h=>pw a (fun _=>yF b) (K.out w j h)⟩
theorem SL.cmp{op:BinOp}{t' : TypeId}{k:IntKind}{a b:Int}{c:Bool}(K:SL T J bs L N r ops Q rest (Fr n ((d,.bool c) :: s) ds))(i:ev n s x = .int k a:=by exact rfl)(l:ev n s y = .int k b:=by exact rfl)(e:k9 op a b=some c:=by first|exact rV (by first|assumption|exact rfl|decide)|exact vU (by first|assumption|exact rfl|decide)|exact pZ (by first|assumption|exact rfl|decide)|exact lG (by first|assumption|exact rfl|decide)|exact xO (by first|assumption|exact rfl|decide)|exact N9 (by first|assumption|exact rfl|decide)|exact HW (by first|assumption|exact rfl|decide)|exact o7 (by first|assumption|exact rfl|decide)|exact c_gt (by first|assumption|exact rfl|decide)|exact qx (by first|assumption|exact rfl|decide)|exact nG (by first|assumption|exact rfl|decide)|exact p5 (by first|assumption|exact rfl|decide))(f:gC ops n s g=true:=by exact rfl):SL T J bs L (N+1) r ops Q (⟨some d,.binOp op t x y t', ty,pos,af,g⟩ :: rest) (Fr n s ds):=⟨fun w j h=>pw f (fun _=>Oq i l e) (K.out w j h)⟩
theorem SL.ar{op:BinOp}{t' : TypeId}{k:IntKind}{a b c e:Int}(K:SL T J bs L N r ops Q rest (Fr n ((d,.int k e) :: s) ds))(m:ev n s x = .int k a:=by exact rfl)(o:ev n s y = .int k b:=by exact rfl)(f:Cj op a b=some c:=by exact rfl)(l:k.wrap c=e:=by first|exact oh o_|exact Gl o_|exact Uh o_|exact w32u o_)(i:gC ops n s g=true:=by exact rfl):SL T J bs L (N+1) r ops Q (⟨some d,.binOp op t x y t', ty,pos,af,g⟩ :: rest) (Fr n s ds):=⟨fun w j h=>pw i (fun _=>Eg m o f l) (K.out w j h)⟩
theorem SL.ex{i:Nat}{vs:Array Value}(K:SL T J bs L N r ops Q rest (Fr n ((d,v) :: s) ds))(b:ev n s x = .tuple vs:=by exact rfl)(hv:vs[i]? = some v:=by exact rfl)(a:gC ops n s g=true:=by exact rfl):SL T J bs L (N+1) r ops Q (⟨some d,.extract x i,ty,pos,af,g⟩ :: rest) (Fr n s ds):=⟨fun w j h=>pw a (fun _=>EJ b hv) (K.out w j h)⟩
theorem SL.Qz{e:TypeId}{kk:IntKind}{b m c k sz by_:Nat}{v:Value}(K:SL T J bs L N r ops Q rest (Fr n ((d,.pointer (some ⟨b,k*sz+0,none⟩)) :: s) ds))(p:ev n s x = .slice (some ⟨b,0,none⟩) m c:=by exact rfl)(q:ev n s y = .int kk (k:Nat):=by exact rfl)(f:jb T.u t=some (.slice e):=by exact rfl)(o:jb T.i e=some (sz,by_,v):=by exact rfl)(a:(k:Int)<m:=by first|omega|(simp only[gx];omega))(l:gC ops n s g=true:=by exact rfl):SL T J bs L (N+1) r ops Q (⟨some d,.indexAddr t x y,ty,pos,af,g⟩ :: rest) (Fr n s ds):=⟨fun w j h=>pw l (fun _=>Jr p q (kX T.lB f) (mN T.nh o) ⟨o_,a⟩ s_) (K.out w j h)⟩
theorem SL.iJ{α:Type}{cf:α->List Value}{xs:List α}{ok:Nat->Prop}{c:α}{e:TypeId}{kk:IntKind}{k sz by_:Nat}{o:Value}(K:SL T J bs L N r ops Q rest (Fr n ((d,jm sz v k 0) :: s) ds))(l:ev n s x=v:=by conv=>lhs;whnf)(m:ev n s y = .int kk (k:Nat):=by exact rfl)(a:jb T.u t=some (.slice e):=by exact rfl)(f:jb T.i e=some (sz,by_,o):=by exact rfl)(hi:gY sz cf ok w0 v xs:=by assumption)(hk:xs[k]? = some c:=by first|assumption|exact rfl|exact gy (by first|omega|(simp only[gx];omega)))(b:gC ops n s g=true:=by exact rfl):SL T J bs L (N+1) r ops Q (⟨some d,.indexAddr t x y,ty,pos,af,g⟩ :: rest) (Fr n s ds):=⟨fun w j h=>pw b (fun _=>CD l m (kX T.lB a) (mN T.nh f) hi o_ o_ hk) (K.out w j h)⟩
theorem SL.PW{α:Type}{cf:α->List Value}{xs:List α}{ok:Nat->Prop}{c:α}{i k sz off off' szf byf:Nat}{zf:Value}{fields:Array Field}{f:Field}(K:SL T J bs L N r ops Q rest (Fr n ((d,jm sz v k off') :: s) ds))(o:ev n s x=jm sz v k off:=by exact rfl)(a:jb T.u t=some (.struct fields):=by exact rfl)(b:fields[i]? = some f:=by exact rfl)(m:jb T.i f.type=some (szf+1,byf,zf):=by exact rfl)(l:off+f.offset=off' := by conv=>lhs;whnf)(hi:gY sz cf ok w0 v xs:=by assumption)(hk:xs[k]? = some c:=by first|assumption|exact rfl|exact gy (by first|omega|(simp only[gx];omega)))(e:gC ops n s g=true:=by exact rfl):SL T J bs L (N+1) r ops Q (⟨some d,.fieldAddr t x i,ty,pos,af,g⟩ :: rest) (Fr n s ds):=⟨fun w j h=>pw e (fun _=>EK o (kX T.lB a) b (mN T.nh m) l hi hk) (K.out w j h)⟩
theorem SL.jd{α:Type}{cf:α->List Value}{xs:List α}{ok:Nat->Prop}{c:α}{k sz off:Nat}{ud:TypeDesc}{u:Value}(K:SL T J bs L N r ops Q rest (Fr n ((d,v) :: s) ds))(f:ev n s x=jm sz u k off:=by exact rfl)(a:jb T.u t=some ud:=by exact rfl)(e:j6 ud=false:=by exact rfl)(hi:gY sz cf ok w0 u xs:=by assumption)(hb:(w0,[])∈bs:=by simp)(i:0<sz:=by decide)(hk:xs[k]? = some c:=by first|assumption|exact rfl|exact gy (by first|omega|(simp only[gx];omega)))(hv:(cf c)[off]? = some v:=by exact rfl)(b:gC ops n s g=true:=by exact rfl):SL T J bs L (N+1) r ops Q (⟨some d,.load t x,ty,pos,af,g⟩ :: rest) (Fr n s ds):=⟨fun w j h=>pv b rfl (wo f (kX T.lB a) e (St.CW h hb i hi) hk hv) (K.out w j h)⟩
theorem SL.uU{b o i sz by_:Nat}{m:Value}{a:TypeId}{cs vs:List Value}{ud:TypeDesc}(K:SL T J bs L N r ops Q rest (Fr n ((d,.agg vs.toArray) :: s) ds))(l:ev n s x = .pointer (some ⟨b,o,none⟩):=by exact rfl)(c:jb T.u t=some ud:=by exact rfl)(f:j6 ud=true:=by exact rfl)(k:jb T.i t=some (sz,by_,m):=by exact rfl)(hi:L[i]? = some (blk b a cs):=by first|exact qP|exact qQ|exact nE|exact nF|exact qR|exact qS|exact qT|exact qU)(hv:sub' cs o sz=some vs:=by exact rfl)(e:gC ops n s g=true:=by exact rfl):SL T J bs L (N+1) r ops Q (⟨some d,.load t x,ty,pos,af,g⟩ :: rest) (Fr n s ds):=⟨fun w j h=>pv e rfl (tP l (kX T.lB c) f (mN T.nh k) (wX hv) (h.HV hi (yT hv))) (K.out w j h)⟩
theorem SL.JE{b o sz by_:Nat}{m:Value}{a:TypeId}{cs vs:List Value}{ud:TypeDesc}(K:SL T J bs L N r ops Q rest (Fr n ((d,.agg vs.toArray) :: s) ds))(l:ev n s x = .pointer (some ⟨b,o,none⟩):=by exact rfl)(c:jb T.u t=some ud:=by exact rfl)(f:j6 ud=true:=by exact rfl)(k:jb T.i t=some (sz,by_,m):=by exact rfl)(hi:(blk b a cs).holds w0:=by assumption)(hb:(w0,[])∈bs:=by simp)(hv:sub' cs o sz=some vs:=by exact rfl)(e:gC ops n s g=true:=by exact rfl):SL T J bs L (N+1) r ops Q (⟨some d,.load t x,ty,pos,af,g⟩ :: rest) (Fr n s ds):=⟨fun w j h=>pv e rfl (tP l (kX T.lB c) f (mN T.nh k) (wX hv) (St.aea h hb hi (yT hv))) (K.out w j h)⟩
theorem SL.JC{α:Type}{cf:α->List Value}{xs:List α}{b k sz off i a by_:Nat}{q:Value}{c:TypeId}{vs:List Value}{ud:TypeDesc}(K:SL T J bs L N r ops Q rest (Fr n ((d,.agg vs.toArray) :: s) ds))(p:ev n s x = .pointer (some ⟨b,k*sz+off,none⟩):=by exact rfl)(e:jb T.u t=some ud:=by exact rfl)(m:j6 ud=true:=by exact rfl)(o:jb T.i t=some (a, by_,q):=by exact rfl)(hi:L[i]? = some (blk b c (xs.flatMap cf)):=by first|exact qP|exact qQ|exact nE|exact nF|exact qR|exact qS|exact qT|exact qU)(v:Inhabited α:=by infer_instance)(l:∀ x:α,(cf x).length=sz:=by exact fun _=>rfl)(hk:k<xs.length:=by first|omega|(simp only[gx];omega))(hv:sub' (cf (fJ xs k)) off a = some vs:=by exact rfl)(f:gC ops n s g=true:=by exact rfl):SL T J bs L (N+1) r ops Q (⟨some d,.load t x,ty,pos,af,g⟩ :: rest) (Fr n s ds):=⟨fun w j h=>pv f rfl (tP p (kX T.lB e) m (mN T.nh o) (wX hv) (St.adO h hi l hk (yT hv))) (K.out w j h)⟩
theorem SL.JG{α:Type}{cf:α->List Value}{xs:List α}{b k sz off a by_:Nat}{q:Value}{c:TypeId}{vs:List Value}{ud:TypeDesc}(K:SL T J bs L N r ops Q rest (Fr n ((d,.agg vs.toArray) :: s) ds))(p:ev n s x = .pointer (some ⟨b,k*sz+off,none⟩):=by exact rfl)(e:jb T.u t=some ud:=by exact rfl)(m:j6 ud=true:=by exact rfl)(o:jb T.i t=some (a, by_,q):=by exact rfl)(hi:(blk b c (xs.flatMap cf)).holds w0:=by assumption)(v:Inhabited α:=by infer_instance)(hb:(w0,[])∈bs:=by simp)(l:∀ x:α,(cf x).length=sz:=by exact fun _=>rfl)(hk:k<xs.length:=by first|omega|(simp only[gx];omega))(hv:sub' (cf (fJ xs k)) off a = some vs:=by exact rfl)(f:gC ops n s g=true:=by exact rfl):SL T J bs L (N+1) r ops Q (⟨some d,.load t x,ty,pos,af,g⟩ :: rest) (Fr n s ds):=⟨fun w j h=>pv f rfl (tP p (kX T.lB e) m (mN T.nh o) (wX hv) (St.aeb h hb hi l hk (yT hv))) (K.out w j h)⟩
theorem SL.QV{α:Type}{cf:α->List Value}{xs:List α}{e' : TypeId}{q k sz off a by_:Nat}{o:Value}{vs:List Value}{ud:TypeDesc}{u:Value}(K:SL T J bs L N r ops Q rest (Fr n ((d,.agg vs.toArray) :: s) ds))(m:ev n s x=jm sz u k off:=by exact rfl)(b:jb T.u t=some ud:=by exact rfl)(f:j6 ud=true:=by exact rfl)(l:jb T.i t=some (a, by_,o):=by exact rfl)(hi:L[q]? = some (fL cf u e' sz xs):=by first|exact qP|exact qQ|exact nE|exact nF|exact qR|exact qS|exact qT|exact qU)(p:Inhabited α:=by infer_instance)(e:∀ x:α,(cf x).length=sz:=by exact fun _=>rfl)(hk:k<xs.length:=by first|omega|(simp only[gx];omega))(hv:sub' (cf (fJ xs k)) off a = some vs:=by exact rfl)(c:gC ops n s g=true:=by exact rfl):SL T J bs L (N+1) r ops Q (⟨some d,.load t x,ty,pos,af,g⟩ :: rest) (Fr n s ds):=⟨fun w j h=>pv c rfl (E4 m (kX T.lB b) f (mN T.nh l) (St.yO h hi e) (gy hk) (wX hv) (yT hv)) (K.out w j h)⟩
theorem SL.E3{α:Type}{cf:α->List Value}{xs:List α}{ok:Nat->Prop}{c:α}{k sz off a by_:Nat}{p:Value}{vs:List Value}{ud:TypeDesc}{u:Value}(K:SL T J bs L N r ops Q rest (Fr n ((d,.agg vs.toArray) :: s) ds))(m:ev n s x=jm sz u k off:=by exact rfl)(b:jb T.u t=some ud:=by exact rfl)(f:j6 ud=true:=by exact rfl)(l:jb T.i t=some (a, by_,p):=by exact rfl)(hi:gY sz cf ok w0 u xs:=by assumption)(hb:(w0,[])∈bs:=by simp)(o:0<sz:=by decide)(hk:xs[k]? = some c:=by first|assumption|exact rfl|exact gy (by first|omega|(simp only[gx];omega)))(hv:sub' (cf c) off a = some vs:=by exact rfl)(e:gC ops n s g=true:=by exact rfl):SL T J bs L (N+1) r ops Q (⟨some d,.load t x,ty,pos,af,g⟩ :: rest) (Fr n s ds):=⟨fun w j h=>pv e rfl (E4 m (kX T.lB b) f (mN T.nh l) (St.CW h hb o hi) hk (wX hv) (yT hv)) (K.out w j h)⟩
theorem SL.cv{k k' : IntKind}{ud:TypeDesc}{a e:Int}{t' : TypeId}(K:SL T J bs L N r ops Q rest (Fr n ((d,.int k' e) :: s) ds))(l:ev n s x = .int k a:=by exact rfl)(b:jb T.u t=some ud:=by exact rfl)(c:jb T.u t' = some (.int k'):=by exact rfl)(i:k'.wrap a=e:=by first|exact oh o_|exact Gl o_|exact Uh o_|exact w32u o_)(f:gC ops n s g=true:=by exact rfl):SL T J bs L (N+1) r ops Q (⟨some d,.convert t t' x,ty,pos,af,g⟩ :: rest) (Fr n s ds):=⟨fun w j h=>pw f (fun _=>Wn l (kX T.lB b) (kX T.lB c) i) (K.out w j h)⟩
theorem SL.not{b:Bool}(K:SL T J bs L N r ops Q rest (Fr n ((d,.bool !b) :: s) ds))(c:ev n s x = .bool b:=by exact rfl)(a:gC ops n s g=true:=by exact rfl):SL T J bs L (N+1) r ops Q (⟨some d,.unOp .not t x,ty,pos,af,g⟩ :: rest) (Fr n s ds):=⟨fun w j h=>pw a (fun _=>acp c rfl) (K.out w j h)⟩
theorem SL.pT  (K:SL T J bs L N r ops Q rest (Fr n ((d,v) :: s) ds)) (a:ev n s x = .bool true:=by exact rfl) (c:ev n s y=v:=by conv=>lhs;whnf) (b:gC ops n s g=true:=by exact rfl):SL T J bs L (N+1) r ops Q (⟨some d,.pick x y z,ty,pos,af,g⟩ :: rest) (Fr n s ds):=⟨fun w j h=>pw b (fun _=>ac0 a c) (K.out w j h)⟩
theorem SL.pF  (K:SL T J bs L N r ops Q rest (Fr n ((d,v) :: s) ds)) (a:ev n s x = .bool false:=by exact rfl) (c:ev n s z=v:=by conv=>lhs;whnf) (b:gC ops n s g=true:=by exact rfl):SL T J bs L (N+1) r ops Q (⟨some d,.pick x y z,ty,pos,af,g⟩ :: rest) (Fr n s ds):=⟨fun w j h=>pw b (fun _=>acZ a c) (K.out w j h)⟩
theorem SL.FX{b o i sz by_:Nat}{q:Value}{a:TypeId}{cs cs' vs:List Value}(K:SL T (fun _=>True) bs L' N r ops Q rest (Fr n s ds))(m:ev n s x = .pointer (some ⟨b,o,none⟩):=by exact rfl)
 (hv:ev n s y=v:=by conv=>lhs;whnf) (p:v.cells.toList=vs:=by first|exact N6|exact N5|exact N7|exact N8|exact N4|exact cNilF|exact cMap|exact rfl) (l:jb T.i t=some (sz,by_,q):=by exact rfl) (k:vs.length=sz:=by exact rfl) (h1:vs.all (·.oneCell')=true:=by exact rfl) (hi:L[i]? = some (blk b a cs):=by first|exact qP|exact qQ|exact nE|exact nF|exact qR|exact qS|exact qT|exact qU)
 (e:Nat.ble (o+vs.length) cs.length=true:=by exact rfl) (hcs:setAt cs o vs=cs' := by dsimp only[setAt,List.take,List.drop,List.length,List.append,HAppend.hAppend,Append.append]<;>exact rfl) (d:L.set i (blk b a cs')=L' := by dsimp only[List.set]<;>exact rfl) (f:gC ops n s g=true:=by exact rfl) :
 SL T (fun _=>True) bs L (N+1) r ops Q (⟨none,.store t x y,ty,pos,af,g⟩ :: rest) (Fr n s ds):=⟨fun w j h=>Go.Sx.FX i f m hv p (mN T.nh l) k h1 h hi e hcs d fun w' c => K.out w' trivial c⟩
theorem run{p q:Prop} (h:p->q:=by
 intro h
 repeat (first
  | refine SP.sq ?_|refine SP.rg ?_|refine SP.KN ?_|refine SL.mv ?_|refine SL.nil ?_|refine SQ.tN ?_|refine SL.QA ?_|refine SL.PX ?_|refine SL.E5 ?_|refine SL.PV ?_|refine SL.fa ?_|refine SL.ld ?_|refine SL.JB ?_|refine SL.JD ?_|refine SL.JF ?_|refine SL.rS ?_|refine SL.uZ ?_|refine SL.cmp ?_|refine SP.cT ?_|refine SP.cF ?_|refine SL.ar ?_|refine SL.ex ?_|refine SL.Qz ?_|refine SL.iJ ?_|refine SL.PW ?_|refine SL.jd ?_|refine SL.uU ?_|refine SL.JE ?_|refine SL.JC ?_|refine SL.JG ?_|refine SL.QV ?_|refine SL.E3 ?_|refine SL.cv ?_|refine SL.not ?_|refine SL.pT ?_|refine SL.pF ?_|refine SL.jL ?_|refine SL.ixG ?_|refine SL.fldG ?_|refine SL.len ?_|refine SL.nP ?_|refine SL.eP ?_|refine SL.FX ?_|refine SL.sk ?_|refine SL.skN ?_|refine SP.bk ?_|refine SP.sp ?_|refine SP.xt ?_|refine SP.rt ?_|refine SQ.tX ?_|refine SQ.tR ?_|refine SQ.bN ?_|refine SQ.bR ?_|refine SQ.bX ?_|refine SQ.HT ?_|refine SP.scp ?_|refine SQ.K3 ?_|refine SQ.K5 ?_|refine SQ.K4 ?_|refine SP.JA ?_)
 exact h):p->q:=h
variable {ops' : Array Oper} {Q' : Exit->Act->World->Prop} {l' : List Oper} {a' : Act} {c c' : Code} {e e' : Exit}
theorem gI[T:TT P](b:St bs L w)(N:Nat)(k:∀ w', St bs L' w' -> WL r P ops' Q' l' a' w')(h:SL T (fun _=>True) bs L' 0 r ops' Q' l' a' -> SL T (fun _=>True) bs L N r ops Q l a:=by exact run):WL r P ops Q l a w:=(h ⟨fun w' _ hs=>k w' hs⟩).out w trivial b
theorem fK[T:TT P](b:St bs L w)(N:Nat)(k:WL r P ops' Q' l' a' w)(h:SL T (fun x=>x=w) bs L 0 r ops' Q' l' a' -> SL T (fun x=>x=w) bs L N r ops Q l a:=by exact run):WL r P ops Q l a w:=(h ⟨fun w' j _=>by subst j;exact k⟩).out w rfl b
theorem vh[T:TT P](b:St bs L w)(N:Nat)(k:∀ w', St bs L' w' -> WP r P c' Q' a' w')(h:SP T (fun _=>True) bs L' 0 r Q' c' a' -> SL T (fun _=>True) bs L N r ops Q l a:=by exact run):WL r P ops Q l a w:=(h ⟨fun w' _ hs=>k w' hs⟩).out w trivial b
theorem gD[T:TT P](b:St bs L w)(N:Nat)(k:WP r P c' Q' a' w)(h:SP T (fun x=>x=w) bs L 0 r Q' c' a' -> SL T (fun x=>x=w) bs L N r ops Q l a:=by exact run):WL r P ops Q l a w:=(h ⟨fun w' j _=>by subst j;exact k⟩).out w rfl b
theorem jV[T:TT P](b:St bs L w)(N:Nat)(k:∀ w', St bs L' w' -> Q' e' a' w')(h:SQ T (fun _=>True) bs L' 0 r Q' e' a' -> SL T (fun _=>True) bs L N r ops Q l a:=by exact run):WL r P ops Q l a w:=(h ⟨fun w' _ hs=>k w' hs⟩).out w trivial b
theorem fP[T:TT P](b:St bs L w)(N:Nat)(k:Q' e' a' w)(h:SQ T (fun x=>x=w) bs L 0 r Q' e' a' -> SL T (fun x=>x=w) bs L N r ops Q l a:=by exact run):WL r P ops Q l a w:=(h ⟨fun w' j _=>by subst j;exact k⟩).out w rfl b
theorem nN[T:TT P](b:St bs L w)(N:Nat)(k:∀ w', St bs L' w' -> WL r P ops' Q' l' a' w')(h:SL T (fun _=>True) bs L' 0 r ops' Q' l' a' -> SP T (fun _=>True) bs L N r Q c a:=by exact run):WP r P c Q a w:=(h ⟨fun w' _ hs=>k w' hs⟩).out w trivial b
theorem fR[T:TT P](b:St bs L w)(N:Nat)(k:WL r P ops' Q' l' a' w)(h:SL T (fun x=>x=w) bs L 0 r ops' Q' l' a' -> SP T (fun x=>x=w) bs L N r Q c a:=by exact run):WP r P c Q a w:=(h ⟨fun w' j _=>by subst j;exact k⟩).out w rfl b
theorem p8[T:TT P](b:St bs L w)(N:Nat)(k:WP r P c' Q' a' w)(h:SP T (fun x=>x=w) bs L 0 r Q' c' a' -> SP T (fun x=>x=w) bs L N r Q c a:=by exact run):WP r P c Q a w:=(h ⟨fun w' j _=>by subst j;exact k⟩).out w rfl b
theorem iO[T:TT P](b:St bs L w)(N:Nat)(k:Q' e' a' w)(h:SQ T (fun x=>x=w) bs L 0 r Q' e' a' -> SP T (fun x=>x=w) bs L N r Q c a:=by exact run):WP r P c Q a w:=(h ⟨fun w' j _=>by subst j;exact k⟩).out w rfl b
theorem KZ(T:TT P)(r:Option Nat)(b:St bs L w)(N:Nat)(k:∀ w', St bs L' w' -> WL r P ops' Q' l' a' w')(h:SL T (fun _=>True) bs L' 0 r ops' Q' l' a' -> SQ T (fun _=>True) bs L N r Q e a:=by exact run):Q e a w:=(h ⟨fun w' _ hs=>k w' hs⟩).out w trivial b
theorem Ku(T:TT P)(r:Option Nat)(b:St bs L w)(N:Nat)(k:WL r P ops' Q' l' a' w)(h:SL T (fun x=>x=w) bs L 0 r ops' Q' l' a' -> SQ T (fun x=>x=w) bs L N r Q e a:=by exact run):Q e a w:=(h ⟨fun w' j _=>by subst j;exact k⟩).out w rfl b
theorem sQP(T:TT P)(r:Option Nat)(b:St bs L w)(N:Nat)(k:∀ w', St bs L' w' -> WP r P c' Q' a' w')(h:SP T (fun _=>True) bs L' 0 r Q' c' a' -> SQ T (fun _=>True) bs L N r Q e a:=by exact run):Q e a w:=(h ⟨fun w' _ hs=>k w' hs⟩).out w trivial b
theorem Kv(T:TT P)(r:Option Nat)(b:St bs L w)(N:Nat)(k:WP r P c' Q' a' w)(h:SP T (fun x=>x=w) bs L 0 r Q' c' a' -> SQ T (fun x=>x=w) bs L N r Q e a:=by exact run):Q e a w:=(h ⟨fun w' j _=>by subst j;exact k⟩).out w rfl b
theorem sQQ(T:TT P)(r:Option Nat)(b:St bs L w)(N:Nat)(k:∀ w', St bs L' w' -> Q' e' a' w')(h:SQ T (fun _=>True) bs L' 0 r Q' e' a' -> SQ T (fun _=>True) bs L N r Q e a:=by exact run):Q e a w:=(h ⟨fun w' _ hs=>k w' hs⟩).out w trivial b
theorem r8(T:TT P)(r:Option Nat)(b:St bs L w)(N:Nat)(k:Q' e' a' w)(h:SQ T (fun x=>x=w) bs L 0 r Q' e' a' -> SQ T (fun x=>x=w) bs L N r Q e a:=by exact run):Q e a w:=(h ⟨fun w' j _=>by subst j;exact k⟩).out w rfl b
end
end Go.Sx
namespace Go.Sx
open Go
section
variable {P:Program} {ops:Array Oper} {n:Nat} {o:Oper} {s sA sE:List (Nat×Value)} {v:Value} {w w0 w1:World} {C:World->Prop}
def Rd(P:Program)(ops:Array Oper)(n:Nat)(o:Oper)(s:List (Nat×Value))(v:Value)(I:World->Prop):Prop:=∀ w,I w->mF P ops n o s v I w
end
end Go.Sx
namespace Go.Sx
open Go
section
variable {P:Program}
structure Rf (T:TT P) (bs:List (World×List Nat)) (L:List fT) (ops:Array Oper) (n:Nat) (o:Oper) (s:List (Nat×Value)) (v:Value):Prop where
 out:Rd P ops n o s v (St bs L)
variable {T:TT P} {bs bs' : List (World×List Nat)} {L L1:List fT} {r:Option Nat} {ops:Array Oper} {Q:Exit->Act->World->Prop} {n m:Nat} {s sA sE:List (Nat×Value)} {ds:List Deferred} {w w' w0 w1:World}
variable {d i j:Nat} {ty t:TypeId} {pos:String} {af:Array Edge} {g:Option (Nat×Bool)} {v u:Value} {x y z:Operand} {l B:List Oper} {o:Oper} {vs vA vB:List Value} {cs:List (Option Value)} {k:List Nat} {R:List Oper} {op:Op} {dd:Option Nat}
theorem Rf.mv  (b:ev n s x=v:=by conv=>lhs;whnf) (a:gC ops n s g=true:=by exact rfl):Rf T bs L ops n ⟨some d,.move x,ty,pos,af,g⟩ s (v):=⟨fun w h=>.inl ⟨a,rfl,.inl (lI b)⟩⟩
theorem Rf.fa{i b o o' szf byf:Nat}{zf:Value}{fields:Array Field}{f:Field}(l:ev n s x = .pointer (some ⟨b,o,none⟩):=by exact rfl)(a:jb T.u t=some (.struct fields):=by exact rfl)(c:fields[i]? = some f:=by exact rfl)(k:jb T.i f.type=some (szf+1,byf,zf):=by exact rfl)(j:o+f.offset=o' := by conv=>lhs;whnf)(e:gC ops n s g=true:=by exact rfl):Rf T bs L ops n ⟨some d,.fieldAddr t x i,ty,pos,af,g⟩ s (.pointer (some ⟨b,o', none⟩)):=⟨fun w h=>.inl ⟨e,rfl,.inl (uN l (kX T.lB a) c (mN T.nh k) j)⟩⟩
theorem Rf.ld{b o i:Nat}{a:TypeId}{cs:List Value}{ud:TypeDesc}(j:ev n s x = .pointer (some ⟨b,o,none⟩):=by exact rfl)(c:jb T.u t=some ud:=by exact rfl)(f:j6 ud=false:=by exact rfl)(hi:L[i]? = some (blk b a cs):=by first|exact qP|exact qQ|exact nE|exact nF|exact qR|exact qS|exact qT|exact qU)(hv:cs[o]? = some v:=by exact rfl)(e:gC ops n s g=true:=by exact rfl):Rf T bs L ops n ⟨some d,.load t x,ty,pos,af,g⟩ s (v):=⟨fun w h=>.inl ⟨e,rfl,.inl (mM j (kX T.lB c) f (h.rU hi hv))⟩⟩
theorem Rf.rS  (b:ev n s x=v:=by conv=>lhs;whnf) (a:gC ops n s g=true:=by exact rfl):Rf T bs L ops n ⟨some d,.assign x,ty,pos,af,g⟩ s (v):=⟨fun w h=>.inl ⟨a,rfl,.inl (vS b)⟩⟩
theorem Rf.ex{i:Nat}{vs:Array Value}(b:ev n s x = .tuple vs:=by exact rfl)(hv:vs[i]? = some v:=by exact rfl)(a:gC ops n s g=true:=by exact rfl):Rf T bs L ops n ⟨some d,.extract x i,ty,pos,af,g⟩ s (v):=⟨fun w h=>.inl ⟨a,rfl,.inl (EJ b hv)⟩⟩
variable {N:Nat}
end
end Go.Sx
namespace Go.Sx
open Go
structure Nd where
 k0:Nat
 k1:Nat
 up:Nat
 flip:Bool
 key:Int
 size:Int
 first:Nat
 iX:Int
 total:Int
 deriving Inhabited
def Nd.cells(x:Nd):List Value:=[.int .i64 x.k0,.int .i64 x.k1,.int .i64 x.up,.bool x.flip,.int .i64 x.key,.int .i64 x.size,.int .i64 x.first,.int .i64 x.iX,.int .i64 x.total]
def jF(xs:List Nd)(i:Nat):Nat×Bool :=
 if (fJ xs i).up=0 then(0,false)else if (fJ xs (fJ xs i).up).k0=i then(0,true)else if (fJ xs (fJ xs i).up).k1=i then(1,true)else(0,false)
def lK(xs:List Nd)(i j:Nat):Bool:=decide ((fJ xs i).key<(fJ xs j).key\/(fJ xs i).key=(fJ xs j).key/\i<j)
def i7(xs:List Nd)(i s k:Nat):List Nd :=
 let ys:=if s=0 then fM xs i (fun x=>{ x with k0:=k })else fM xs i (fun x=>{ x with k1:=k })
 if k=0 then ys else fM ys k (fun x=>{ x with up:=i })
def kf(xs:List Nd)(i:Nat):List Nd :=
 if (fJ xs i).flip=true then
  let y0:=fM xs i (fun x=>{ x with flip:=false })
  let y1:=fM y0 i (fun x=>{ x with k0:=(fJ y0 i).k1 })
  let y2:=fM y1 i (fun x=>{ x with k1:=(fJ y0 i).k0 })
  let a:=if (fJ y2 i).k0=0 then y2 else fM y2 (fJ y2 i).k0 (fun x=>{ x with flip := !(fJ y2 (fJ y2 i).k0).flip })
  if (fJ y2 i).k1=0 then a else fM a (fJ y2 i).k1 (fun x=>{ x with flip := !(fJ a (fJ y2 i).k1).flip })
 else xs
structure fZ (xs:List Nd):Prop where
 k0:∀ i,i<xs.length->(fJ xs i).k0<xs.length
 k1:∀ i,i<xs.length->(fJ xs i).k1<xs.length
 up:∀ i,i<xs.length->(fJ xs i).up<xs.length
 first:∀ i,i<xs.length->(fJ xs i).first<xs.length
 key:∀ i,i<xs.length->ia .i64 (fJ xs i).key
theorem fZ.iR{xs:List Nd}{k:Nat}{f:Nd->Nd}(h:fZ xs)(hk:k<xs.length)
 (a:∀ x:Nd,x.k0<xs.length->x.k1<xs.length->x.up<xs.length->x.first<xs.length->ia .i64 x.key->(f x).k0<xs.length/\(f x).k1<xs.length/\(f x).up<xs.length/\(f x).first<xs.length/\ia .i64 (f x).key):fZ (fM xs k f):=by
 have key:∀ i,i<xs.length->(fJ (fM xs k f) i).k0<xs.length/\(fJ (fM xs k f) i).k1<xs.length/\(fJ (fM xs k f) i).up<xs.length/\(fJ (fM xs k f) i).first<xs.length/\ia .i64 (fJ (fM xs k f) i).key:=by
  intro i hi
  rw[jy hk]
  split
  . exact a _ (h.k0 k hk) (h.k1 k hk) (h.up k hk) (h.first k hk) (h.key k hk)
  . exact⟨h.k0 i hi,h.k1 i hi,h.up i hi,h.first i hi,h.key i hi⟩
 refine⟨fun i hi=>?_,fun i hi=>?_,fun i hi=>?_,fun i hi=>?_,fun i hi=>?_⟩<;>(rw[gx]at hi;try rw[gx])
 . exact(key i hi).1
 . exact(key i hi).2.1
 . exact(key i hi).2.2.1
 . exact(key i hi).2.2.2.1
 . exact(key i hi).2.2.2.2
end Go.Sx
namespace Go.Sx
open Go
inductive Tr where
 | nil:Tr
 | nd (l:Tr) (i:Nat) (r:Tr):Tr
namespace Tr
def root:Tr->Nat
 | .nil=>0
 | .nd _ i _=>i
def mem:Tr->List Nat
 | .nil=>[]
 | .nd l i r=>l.mem++i :: r.mem
end Tr
def jr(xs:List Nd)(d:Bool)(i:Nat):Nat:=bif d then(fJ xs i).k0 else(fJ xs i).k1
def og(xs:List Nd)(L:List Nat):Int:=(L.map fun j=>1+(fJ xs j).iX).sum
def G4(xs:List Nd)(m:Nat)(L:List Nat):Prop:=m∈L/\∀ j∈L,j=m\/lK xs m j=true
structure pU (xs:List Nd) (i:Nat) (L:List Nat):Prop where
 size:(fJ xs i).size=(L.length:Int)
 total:(fJ xs i).total=IntKind.i64.wrap (og xs L)
 first:G4 xs (fJ xs i).first L
def gP(xs:List Nd):Tr->Nat->Prop
 | .nil,_=>True
 | .nd l i r,p=>(i≠0/\i<xs.length)/\((fJ xs i).k0=l.root/\(fJ xs i).k1=r.root/\(fJ xs i).up=p)/\pU xs i (l.mem++i :: r.mem)/\gP xs l i/\gP xs r i
abbrev Cx:=List (Bool×Nat×Tr)
def mQ(d:Bool)(t:Tr)(g:Nat)(s:Tr):Tr:=bif d then .nd t g s else .nd s g t
def j5(d:Bool)(L:List Nat)(g:Nat)(s:Tr):List Nat:=bif d then L++g :: s.mem else s.mem++g :: L
def j9:Cx->Tr->Tr
 | [],t=>t
 | (d,g,s) :: c,t=>j9 c (mQ d t g s)
def lP:Cx->List Nat->List Nat
 | [],L=>L
 | (d,g,s) :: c,L=>lP c (j5 d L g s)
def wJ:Cx->Nat->Nat
 | [],p=>p
 | (_,g,_) :: _,_=>g
def jY:Cx->List Nat
 | []=>[]
 | (_,g,s) :: c=>g :: s.mem++jY c
def mG(xs:List Nd):Cx->Nat->List Nat->Nat->Prop
 | [],_,_,_=>True
 | (d,g,s) :: c,h,L,p=>(g≠0/\g<xs.length)/\(jr xs d g=h/\jr xs (!d) g=s.root/\(fJ xs g).up=wJ c p)/\pU xs g (j5 d L g s)/\gP xs s g/\mG xs c g (j5 d L g s) p
theorem SY(d:Bool)(t:Tr)(g:Nat)(s:Tr):(mQ d t g s).root=g:=by cases d<;>rfl
theorem JX(d:Bool)(t:Tr)(g:Nat)(s:Tr):(mQ d t g s).mem=j5 d t.mem g s:=by cases d<;>rfl
theorem p7:∀ (c:Cx) (t:Tr),(j9 c t).mem=lP c t.mem
 | [],t=>rfl
 | (d,g,s) :: c,t=>by rw[j9,p7 c,JX,lP]
theorem adV{xs:List Nd}{d:Bool}{t s:Tr}{g p:Nat}:gP xs (mQ d t g s) p↔(g≠0/\g<xs.length)/\(jr xs d g=t.root/\jr xs (!d) g=s.root/\(fJ xs g).up=p)/\pU xs g (j5 d t.mem g s)/\gP xs t g/\gP xs s g:=by
 grind [mQ,gP,jr,j5]
theorem yM{xs:List Nd}:∀ (c:Cx) (t:Tr) (p:Nat),gP xs (j9 c t) p↔gP xs t (wJ c p)/\mG xs c t.root t.mem p
 | [],t,p=>by simp[j9,wJ,mG]
 | (d,g,s) :: c,t,p=>by
  rw[j9,yM c,adV,SY,JX]
  simp only[wJ,mG]
  constructor
  . rintro⟨⟨a,b,e,f,h⟩,i⟩;exact⟨f,a,b,e,h,i⟩
  . rintro⟨f,a,b,e,h,i⟩;exact⟨⟨a,b,e,f,h⟩,i⟩
structure KL (xs ys:List Nd):Prop where
 len:ys.length=xs.length
 key:∀ j,(fJ ys j).key=(fJ xs j).key
 iX:∀ j,(fJ ys j).iX=(fJ xs j).iX
theorem KL.refl(xs:List Nd):KL xs xs:=⟨rfl,fun _=>rfl,fun _=>rfl⟩
theorem KL.trans{xs ys zs:List Nd}(h:KL xs ys)(k:KL ys zs):KL xs zs:=⟨k.len.trans h.len,fun j=>(k.key j).trans (h.key j),fun j=>(k.iX j).trans (h.iX j)⟩
theorem KL.before{xs ys:List Nd}(h:KL xs ys)(i j:Nat):lK ys i j=lK xs i j:=by simp[lK,h.key]
theorem KL.Gi{xs ys:List Nd}(h:KL xs ys)(L:List Nat):og ys L=og xs L:=by simp[og,h.iX]
theorem KL.Jq{xs ys:List Nd}(h:KL xs ys){m:Nat}{L:List Nat}(k:G4 xs m L):G4 ys m L:=⟨k.1,fun j a=>by rw[h.before];exact k.2 j a⟩
theorem pU.to{xs ys:List Nd}{i:Nat}{L:List Nat}(h:pU xs i L)(k:KL xs ys)(hs:(fJ ys i).size=(fJ xs i).size)(b:(fJ ys i).total=(fJ xs i).total)(a:(fJ ys i).first=(fJ xs i).first):pU ys i L :=
 ⟨hs.trans h.size,by rw[b,h.total,k.Gi],by rw[a];exact k.Jq h.first⟩
theorem gP.to{xs ys:List Nd}(k:KL xs ys):∀ {t:Tr} {p:Nat},gP xs t p->(∀ j∈t.mem,fJ ys j=fJ xs j)->gP ys t p
 | .nil,_,_,_=>trivial
 | .nd l i r,p,h,hs=>by
  obtain⟨⟨b,c⟩,⟨d,e,f⟩,g,m,n⟩:=h
  have hi:=hs i (by simp[Tr.mem])
  refine⟨⟨b,by rw[k.len];exact c⟩,⟨by rw[hi];exact d,by rw[hi];exact e,by rw[hi];exact f⟩,g.to k (by rw[hi]) (by rw[hi]) (by rw[hi]),gP.to k m fun j a=>hs j (by simp[Tr.mem,a]),gP.to k n fun j a=>hs j (by simp[Tr.mem,a])⟩
theorem gP.up{xs ys:List Nd}(k:KL xs ys){t:Tr}{p q:Nat}(h:gP xs t p)(hs:∀ j∈t.mem,j≠t.root->fJ ys j=fJ xs j)(a:fJ ys t.root={ fJ xs t.root with up:=q })(c:t.mem.Nodup):gP ys t q:=by
 cases t with
 | nil=>trivial
 | nd l i r =>
  obtain⟨⟨e,f⟩,⟨g,m,v⟩,n,o,s⟩:=h
  simp only[Tr.root]at a hs
  simp only[Tr.mem]at c hs
  rw[zr]at c
  obtain⟨n1,d,u⟩:=c
  rw[zu]at d
  refine⟨⟨e,by rw[k.len];exact f⟩,⟨by rw[a];exact g,by rw[a];exact m,by rw[a]⟩,n.to k (by rw[a]) (by rw[a]) (by rw[a]),gP.to k o fun j b=>hs j (by simp[b]) ?_,gP.to k s fun j b=>hs j (by simp[b]) ?_⟩
  . rintro rfl;exact u j b j s_ rfl
  . rintro rfl;exact d.1 b
theorem mG.to{xs ys:List Nd}(k:KL xs ys):∀ {c:Cx} {r p:Nat} {L:List Nat},mG xs c r L p->(∀ j∈jY c,fJ ys j=fJ xs j)->mG ys c r L p
 | [],_,_,_,_,_=>trivial
 | (d,g,s) :: c,r,p,L,h,hs=>by
  obtain⟨⟨i,l⟩,⟨e,f,m⟩,n,o,q⟩:=h
  have a:=hs g (by simp[jY])
  refine⟨⟨i,by rw[k.len];exact l⟩,⟨by simp only[jr,a]at e ⊢;exact e,by simp only[jr,a]at f ⊢;exact f,by rw[a];exact m⟩,n.to k (by rw[a]) (by rw[a]) (by rw[a]),gP.to k o fun j b=>hs j (by simp[jY,b]),mG.to k q fun j b=>hs j (by simp[jY,b])⟩
theorem mG.wh{xs ys:List Nd}(k:KL xs ys){d:Bool}{g r b p:Nat}{s:Tr}{c:Cx}{L:List Nat}(h:mG xs ((d,g,s) :: c) r L p)(hs:∀ j∈s.mem++jY c,fJ ys j=fJ xs j)
 (e:fJ ys g=bif d then { fJ xs g with k0:=b } else { fJ xs g with k1:=b }):mG ys ((d,g,s) :: c) b L p:=by
 obtain⟨⟨f,i⟩,⟨q,t,l⟩,m,n,o⟩:=h
 refine⟨⟨f,by rw[k.len];exact i⟩,⟨?_,?_,?_⟩,m.to k ?_ ?_ ?_,gP.to k n fun j a=>hs j (by simp[a]),mG.to k o fun j a=>hs j (by simp[a])⟩
 . cases d<;>simp[jr,e]
 . grind [jr]
 all_goals cases d<;>simp[e]<;>exact l
theorem CL:∀ {c:Cx} {L:List Nat} {j:Nat},j∈lP c L↔j∈L\/j∈jY c
 | [],L,j=>by simp[lP,jY]
 | (d,g,s) :: c,L,j=>by
  rw[lP,CL (c:=c)]
  cases d<;>simp only[j5,jY,cond_true,cond_false,zn,ze]<;>simp only[or_assoc,or_left_comm,or_comm]
theorem CP:∀ {c:Cx} {L:List Nat},(lP c L).Nodup->L.Nodup/\(jY c).Nodup/\∀ j∈L,j∉jY c
 | [],L,h=>⟨h,by simp[jY],by simp[jY]⟩
 | (d,g,s) :: c,L,h=>by
  obtain⟨t,l,m⟩:=CP (c:=c) h
  have key:L.Nodup/\s.mem.Nodup/\g∉L/\g∉s.mem/\∀ j∈L,j∉s.mem:=by
   cases d
   . grind [j5]
   . grind [j5]
  obtain⟨k1,o,p,q,r⟩:=key
  have n:∀ j,j∈j5 d L g s↔j∈L\/j=g\/j∈s.mem:=fun j=>by cases d<;>simp only[j5,cond_true,cond_false,zn,ze,or_assoc,or_left_comm,or_comm]
  refine⟨k1,?_,fun j i f=>?_⟩
  . rw[jY,zr,zu]
    refine⟨⟨q,o⟩,l,fun a k b hb e=>?_⟩
    subst e
    rcases ze.1 k with rfl|k
    . grind
    . grind
  . rw[jY,zn,ze]at f
    rcases f with (rfl|f)|f
    . exact p i
    . exact r j i f
    . exact m j ((n j).2 (.inl i)) f
end Go.Sx
namespace Go.Sx
open Go
theorem afh{l l' : List Int}(h:l.Perm l'):l.sum=l'.sum:=by
 induction h with
 | nil=>rfl
 | cons x _ c=>simp only[List.sum_cons,c]
 | swap x y l=>simp only[List.sum_cons];omega
 | trans _ _ a b=>exact a.trans b
theorem af1{xs:List Nd}{L L' : List Nat}(h:L.Perm L'):og xs L=og xs L' := afh (h.map _)
theorem pU.perm{xs:List Nd}{i:Nat}{L L' : List Nat}(h:pU xs i L)(k:L.Perm L'):pU xs i L' := by
 refine⟨by rw[h.size,k.length_eq],?_,⟨k.mem_iff.1 h.first.1,fun j a=>h.first.2 j (k.mem_iff.2 a)⟩⟩
 rw[h.total,af1 k]
theorem af0(xs:List Nd)(L M:List Nat):og xs (L++M)=og xs L+og xs M:=by simp[og]
theorem Ma(x:Int):IntKind.i64.wrap x=if 9223372036854775808<=x%18446744073709551616 then x%18446744073709551616-18446744073709551616 else x%18446744073709551616:=by
 show (if (true&&decide (x%18446744073709551616≥9223372036854775808))=true then x%18446744073709551616-18446744073709551616 else x%18446744073709551616)=_
 simp
theorem Uw(x:Int):IntKind.i64.wrap x=(x+9223372036854775808)%18446744073709551616-9223372036854775808:=by
 rw[Ma];split<;>omega
theorem agS(a b:Int):IntKind.i64.wrap (IntKind.i64.wrap a+IntKind.i64.wrap b)=IntKind.i64.wrap (a+b):=by
 simp only[Uw];omega
theorem agT{x:Int}(h : -9223372036854775808<=x)(a : x<=9223372036854775807):IntKind.i64.wrap x=x:=by rw[Uw];omega
def mz(xs:List Nd)(i k:Nat):List Nd :=
 if k=0 then xs else
  let y0:=fM xs i (fun x=>{ x with size:=IntKind.i64.wrap (x.size+(fJ xs k).size) })
  let y1:=fM y0 i (fun x=>{ x with total:=IntKind.i64.wrap (x.total+(fJ y0 k).total) })
  if lK y1 (fJ y1 k).first (fJ y1 i).first then fM y1 i (fun x=>{ x with first:=(fJ y1 k).first })else y1
def iQ(xs:List Nd)(i:Nat):List Nd :=
 let y:=fM xs i (fun x=>{ x with size:=1,first:=i,total:=IntKind.i64.wrap (1+x.iX) })
 mz (mz y i (fJ xs i).k0) i (fJ xs i).k1
structure oE (xs ys:List Nd) (i:Nat):Prop where
 len:ys.length=xs.length
 other:∀ j,j≠i->fJ ys j=fJ xs j
 here:∃ s t f,fJ ys i={ fJ xs i with size:=s,total:=t,first:=f }
theorem oE.refl(xs:List Nd)(i:Nat):oE xs xs i:=⟨rfl,fun _ _=>rfl,_,_,_,rfl⟩
theorem oE.trans{xs ys zs:List Nd}{i:Nat}(h:oE xs ys i)(k:oE ys zs i):oE xs zs i:=by
 obtain⟨s,t,f,e⟩:=h.here
 obtain⟨c, t', b, e'⟩:=k.here
 exact⟨k.len.trans h.len,fun j a=>(k.other j a).trans (h.other j a),c, t', b, by rw[e', e]⟩
theorem oE.kl{xs ys:List Nd}{i:Nat}(h:oE xs ys i):KL xs ys:=by
 obtain⟨s,t,f,e⟩:=h.here
 refine⟨h.len,fun j=>?_,fun j=>?_⟩<;>(by_cases hj:j=i)
 . subst hj;rw[e]
 . rw[h.other j hj]
 . subst hj;rw[e]
 . rw[h.other j hj]
theorem oE.flip{xs ys:List Nd}{i:Nat}(h:oE xs ys i)(j:Nat):(fJ ys j).flip=(fJ xs j).flip:=by
 obtain⟨s,t,f,e⟩:=h.here
 by_cases hj:j=i
 . subst hj;rw[e]
 . rw[h.other j hj]
theorem SI{xs:List Nd}{i k:Nat}{L M:List Nat}(hi:i<xs.length)(hk:k<xs.length)(h:pU xs i L)(s:k≠0->k≠i/\pU xs k M)(v:k=0->M=[])(w:L.length+M.length<=1000001) :
 oE xs (mz xs i k) i/\pU (mz xs i k) i (L++M):=by
 unfold mz
 by_cases hk0:k=0
 . grind [oE.refl]
 . rw[if_neg hk0]
   obtain⟨t,hv⟩:=s hk0
   obtain⟨y0,f⟩:∃ y,y=fM xs i (fun x=>{ x with size:=IntKind.i64.wrap (x.size+(fJ xs k).size) }):=⟨_,rfl⟩
   obtain⟨y1,e1⟩:∃ y,y=fM y0 i (fun x=>{ x with total:=IntKind.i64.wrap (x.total+(fJ y0 k).total) }):=⟨_,rfl⟩
   simp only[<-f,<-e1]
   have l0:y0.length=xs.length:=by rw[f,gx]
   have p:y1.length=xs.length:=by rw[e1,gx,l0]
   have a0:fJ y0 i={ fJ xs i with size:=IntKind.i64.wrap ((fJ xs i).size+(fJ xs k).size) }:=by rw[f,jS hi]
   have b0:∀ j,j≠i->fJ y0 j=fJ xs j:=fun j d=>by rw[f,kS (fun e=>d e.symm)]
   have a1:fJ y1 i={ fJ xs i with size:=IntKind.i64.wrap ((fJ xs i).size+(fJ xs k).size),total:=IntKind.i64.wrap ((fJ xs i).total+(fJ xs k).total) }:=by
    grind [jS]
   have b1:∀ j,j≠i->fJ y1 j=fJ xs j:=fun j d=>by rw[e1,kS (fun e=>d e.symm),b0 j d]
   have l:oE xs y1 i:=⟨p,b1,_,_,_,a1⟩
   have hs:IntKind.i64.wrap ((fJ xs i).size+(fJ xs k).size)=((L++M).length:Int):=by
    rw[h.size,hv.size,agT o_ o_,zp];omega
   have o:IntKind.i64.wrap ((fJ xs i).total+(fJ xs k).total)=IntKind.i64.wrap (og xs (L++M)):=by
    rw[h.total,hv.total,agS,af0]
   have hb:∀ a b,lK y1 a b=lK xs a b:=l.kl.before
   have r:(fJ y1 k).first=(fJ xs k).first:=by rw[b1 k t]
   have n:(fJ y1 i).first=(fJ xs i).first:=by rw[a1]
   have q:∀ a b c,lK xs a b=true->lK xs b c=true->lK xs a c=true:=by
    grind [lK]
   have u:∀ a b,lK xs a b=false->a=b\/lK xs b a=true:=by
    grind [lK]
   rw[r,n,hb]
   cases hc:lK xs (fJ xs k).first (fJ xs i).first with
   | true =>
    rw[if_pos rfl]
    have g:fJ (fM y1 i (fun x=>{ x with first:=(fJ xs k).first })) i={ fJ xs i with size:=IntKind.i64.wrap ((fJ xs i).size+(fJ xs k).size),total:=IntKind.i64.wrap ((fJ xs i).total+(fJ xs k).total),first:=(fJ xs k).first }:=by
     rw[jS o_,a1]
    have m:oE xs (fM y1 i (fun x=>{ x with first:=(fJ xs k).first })) i:=⟨by rw[gx,p],fun j d=>by rw[kS (fun e=>d e.symm),b1 j d],_,_,_,g⟩
    refine⟨m,⟨by rw[g];exact hs,by rw[g,m.kl.Gi];exact o,?_⟩⟩
    rw[g]
    refine m.kl.Jq ⟨zL _ hv.first.1,fun j d=>?_⟩
    rcases zn.1 d with d|d
    . rcases h.first.2 j d with rfl|d
      . exact .inr hc
      . exact .inr (q _ _ _ hc d)
    . exact hv.first.2 j d
   | false =>
    rw[if_neg s_]
    refine⟨l,⟨by rw[a1];exact hs,by rw[a1,l.kl.Gi];exact o,?_⟩⟩
    rw[n]
    refine l.kl.Jq ⟨ur _ h.first.1,fun j d=>?_⟩
    rcases zn.1 d with d|d
    . exact h.first.2 j d
    . rcases u _ _ hc with e|e
      . rw[<-e];exact hv.first.2 j d
      . rcases hv.first.2 j d with rfl|d
        . exact .inr e
        . exact .inr (q _ _ _ e d)
theorem gP.vals{xs:List Nd}{t:Tr}{p:Nat}(h:gP xs t p):t.root≠0->pU xs t.root t.mem:=by
 cases t with
 | nil=>intro h;exact absurd rfl h
 | nd l i r=>intro _;exact h.2.2.1
theorem gP.nq{xs:List Nd}{t:Tr}{p:Nat}(h:gP xs t p):t.root≠0->t.root∈t.mem:=by
 cases t with
 | nil=>intro h;exact absurd rfl h
 | nd l i r=>intro _;simp[Tr.root,Tr.mem]
theorem gP.KR{xs:List Nd}{t:Tr}{p:Nat}(h:gP xs t p):t.root=0->t.mem=[]:=by
 cases t with
 | nil=>intro _;rfl
 | nd l i r=>intro e;exact absurd e h.1.1
theorem gP.Bk{xs:List Nd}{t:Tr}{p:Nat}(h:gP xs t p)(a:0<xs.length):t.root<xs.length:=by
 cases t with
 | nil=>exact a
 | nd l i r=>exact h.1.2
theorem gP.qz{xs:List Nd}:∀ {t:Tr} {p:Nat},gP xs t p->∀ j∈t.mem,j≠0/\j<xs.length
 | .nil,_,_,j,a=>by simp[Tr.mem]at a
 | .nd l i r,p,h,j,a=>by
  obtain⟨b,_,_,c,d⟩:=h
  simp only[Tr.mem,zn,ze]at a
  rcases a with a|rfl|a
  . exact gP.qz c j a
  . exact b
  . exact gP.qz d j a
theorem Bh{xs:List Nd}{i:Nat}{l r:Tr}(hi:i≠0/\i<xs.length)(z:gP xs l i)(B:gP xs r i)(w:(fJ xs i).k0=l.root)(h1:(fJ xs i).k1=r.root)(A:(l.mem++i :: r.mem).Nodup)(D:(l.mem++i :: r.mem).length<=1000000) :
 oE xs (iQ xs i) i/\gP (iQ xs i) (.nd l i r) (fJ xs i).up:=by
 have J:0<xs.length:=by omega
 rw[zr,zu]at A
 obtain⟨n1,⟨o,K⟩,G⟩:=A
 have p:i∉l.mem:=fun h=>G i h i s_ rfl
 simp only[zp,zb]at D
 unfold iQ
 obtain⟨y,g⟩:∃ y,y=fM xs i (fun x=>{ x with size:=1,first:=i,total:=IntKind.i64.wrap (1+x.iX) }):=⟨_,rfl⟩
 simp only[<-g]
 have d:fJ y i={ fJ xs i with size:=1,first:=i,total:=IntKind.i64.wrap (1+(fJ xs i).iX) }:=by rw[g,jS hi.2]
 have F:y.length=xs.length:=by rw[g,gx]
 have by_:∀ j,j≠i->fJ y j=fJ xs j:=fun j a=>by rw[g,kS (fun e=>a e.symm)]
 have q:oE xs y i:=⟨F,by_,_,_,_,d⟩
 have I:pU y i [i]:=⟨by rw[d];rfl,by rw[d,q.kl.Gi];simp[og],by rw[d];exact⟨s_,fun j a=>.inl (by simpa using a)⟩⟩
 have m : gP y l i:=z.to q.kl fun j a=>by_ j (fun e=>p (e▸a))
 have E : gP y r i:=B.to q.kl fun j a=>by_ j (fun e=>o (e▸a))
 rw[w,h1]
 obtain⟨b,H⟩:=SI (xs:=y) (i:=i) (k:=l.root) (L:=[i]) (M:=l.mem) o_ (m.Bk o_) I (fun h=>⟨fun e=>p (e▸z.nq h),m.vals h⟩) (m.KR) (by simp;omega)
 have n:=E.to b.kl fun j a=>b.other j (fun e=>o (e▸a))
 have C:=m.to b.kl fun j a=>b.other j (fun e=>p (e▸a))
 obtain⟨c,v2⟩:=SI (xs:=mz y i l.root) (i:=i) (k:=r.root) (L:=[i]++l.mem) (M:=r.mem) (by rw[b.len];omega) (n.Bk (by rw[b.len];omega)) H (fun h=>⟨fun e=>o (e▸B.nq h),n.vals h⟩) (n.KR) (by simp;omega)
 have v:=(q.trans b).trans c
 obtain⟨s,t,f,u⟩:=v.here
 refine⟨v,⟨hi.1,by rw[v.len];exact hi.2⟩,⟨by rw[u];exact w,by rw[u];exact h1,by rw[u]⟩,v2.perm ?_,C.to c.kl fun j a=>c.other j (fun e=>p (e▸a)),n.to c.kl fun j a=>c.other j (fun e=>o (e▸a))⟩
 simp only[List.singleton_append,qF]
 exact uz.symm
end Go.Sx
namespace Go.Sx
open Go
def iP(xs:List Nd)(i:Nat):List Nd :=
 let p:=(fJ xs i).up
 let g:=(fJ xs p).up
 let s:=(jF xs i).1
 let y1:=if (jF xs p).2=true then i7 xs g (jF xs p).1 i else fM xs i (fun x=>{ x with up:=g })
 let y2:=i7 y1 p s (if s=0 then(fJ y1 i).k1 else(fJ y1 i).k0)
 let a:=i7 y2 i (1-s) p
 iQ (iQ a p) i
def rq(d:Bool)(k:Nat)(x:Nd):Nd:=bif d then { x with k0:=k } else { x with k1:=k }
def sd(d:Bool):Nat:=bif d then 0 else 1
theorem Lc(d:Bool)(k:Nat)(x:Nd):(rq d k x).key=x.key:=by cases d<;>rfl
theorem Ld(d:Bool)(k:Nat)(x:Nd):(rq d k x).iX=x.iX:=by cases d<;>rfl
theorem Lb(d:Bool)(k:Nat)(x:Nd):(rq d k x).flip=x.flip:=by cases d<;>rfl
theorem aeJ(d:Bool)(k:Nat)(x:Nd):(rq d k x).up=x.up:=by cases d<;>rfl
theorem Qo(xs:List Nd)(i:Nat)(d:Bool)(k:Nat):i7 xs i (sd d) k=if k=0 then fM xs i (rq d k)else fM (fM xs i (rq d k)) k (fun x=>{ x with up:=i }):=by
 cases d<;>rfl
theorem Jd(xs:List Nd)(i:Nat)(d:Bool)(k:Nat):(i7 xs i (sd d) k).length=xs.length:=by
 rw[Qo];split<;>simp[gx]
theorem Jc{xs:List Nd}{i k:Nat}{d:Bool}(hi:i<xs.length)(hk:k<xs.length)(a:k≠i)(j:Nat) :
 fJ (i7 xs i (sd d) k) j=if j=i then rq d k (fJ xs i)else if j=k/\k≠0 then { fJ xs k with up:=i } else fJ xs j:=by
 grind [Qo,jy,gx,kS]
theorem Le{xs:List Nd}{d:Bool}{p i:Nat}(b:(fJ xs i).up=p)(hp:p≠0)(hk:jr xs d p=i)(a:jr xs (!d) p≠i):jF xs i=(sd d,true):=by
 unfold jF
 rw[b,if_neg hp]
 cases d
 . simp only[jr,cond_false,Bool.not_false,cond_true]at hk a
   rw[if_neg a,if_pos hk];rfl
 . simp only[jr,cond_true]at hk
   rw[if_pos hk];rfl
theorem Tf{xs:List Nd}{i p:Nat}(a:(fJ xs i).up=p)(h:p=0\/jr xs true p≠i/\jr xs false p≠i):jF xs i=(0,false):=by
 grind [jF,jr]
def rm(d:Bool)(a:Tr)(i:Nat)(b:Tr)(p:Nat)(s:Tr):Tr:=bif d then .nd a i (.nd b p s)else .nd (.nd s p a) i b
theorem KS(d:Bool)(a:Tr)(i:Nat)(b:Tr)(p:Nat)(s:Tr):(rm d a i b p s).mem=j5 d (a.mem++i :: b.mem) p s:=by
 cases d<;>simp[rm,j5,Tr.mem]
theorem aeg(d:Bool)(a:Tr)(i:Nat)(b:Tr)(p:Nat)(s:Tr):(rm d a i b p s).root=i:=by cases d<;>rfl
theorem KC:∀ (c:Cx) (L:List Nat),L.length<=(lP c L).length
 | [],_=>zj _
 | (d,g,s) :: c,L=>kz (by cases d<;>simp[j5]<;>omega) (KC c _)
theorem SJ{xs:List Nd}{d:Bool}{i:Nat}{t s:Tr}(hi:i≠0/\i<xs.length)(e:gP xs t i)(hs:gP xs s i)(a:jr xs d i=t.root)(h1:jr xs (!d) i=s.root)(c:(j5 d t.mem i s).Nodup)(b:(j5 d t.mem i s).length<=1000000) :
 oE xs (iQ xs i) i/\gP (iQ xs i) (mQ d t i s) (fJ xs i).up:=by
 cases d
 . exact Bh hi hs e (by simpa[jr]using h1) (by simpa[jr]using a) c b
 . exact Bh hi e hs (by simpa[jr]using a) (by simpa[jr]using h1) c b
structure UI (xs ys:List Nd) (S:List Nat):Prop where
 kl:KL xs ys
 other:∀ j,j∉S->fJ ys j=fJ xs j
 flip:∀ j,(fJ ys j).flip=(fJ xs j).flip
theorem mG.kP{xs ys:List Nd}(k:KL xs ys){c:Cx}{r a q:Nat}{L:List Nat}(h:mG xs c r L q)(hs:∀ d g s c', c=(d,g,s) :: c' -> (∀ j∈s.mem++jY c', fJ ys j=fJ xs j)/\fJ ys g=rq d a (fJ xs g)):mG ys c a L q:=by
 cases c with
 | nil=>trivial
 | cons f c' =>
  obtain⟨d,g,s⟩:=f
  obtain⟨b,e⟩:=hs d g s c' rfl
  exact h.wh k b e
theorem yN{xs:List Nd}{d:Bool}{p i q:Nat}{s a b:Tr}{c:Cx}(hR:gP xs (j9 ((d,p,s) :: c) (.nd a i b)) q)(hn:(lP ((d,p,s) :: c) (a.mem++i :: b.mem)).Nodup)
 (a4:xs.length<=1000001) (aj:(lP ((d,p,s) :: c) (a.mem++i :: b.mem)).length<=1000000)
 (hq:c=[]->q=0\/jr xs true q≠p/\jr xs false q≠p) :
 gP (iP xs i) (j9 c (rm d a i b p s)) q/\UI xs (iP xs i) (lP ((d,p,s) :: c) (a.mem++i :: b.mem)):=by
 obtain⟨hT,hC⟩:=(yM _ _ _).1 hR
 obtain⟨⟨i0,il⟩,⟨av,aw,iu⟩,iv,ha,hb⟩:=hT
 simp only[wJ]at iu
 obtain⟨⟨U,pl⟩,⟨pk,po,pu⟩,pv,hs,aa⟩:=hC
 simp only[Tr.root]at pk
 simp only[Tr.mem]at pv aa
 obtain⟨n1,n2,P⟩:=CP hn
 simp only[jY,qF,zu,zr,zn,ze,not_or]at n1 n2 P
 obtain⟨H,ns,nc,aY⟩:=n2
 obtain⟨na,⟨ay,nb⟩,ai⟩:=n1
 have J:i≠p:=(P i s_).1
 have an:i∉s.mem:=(P i s_).2.1
 have ab:i∉jY c:=(P i s_).2.2
 have ak:i∉a.mem:=fun h=>ai i h i (.inl rfl) rfl
 have aW:s.root≠i:=fun e=>by
  by_cases h:s.root=0
  . exact i0 (e.symm.trans h)
  . exact an (e▸hs.nq h)
 -- sides
 have aV:jF xs i=(sd d,true):=Le iu U pk (by rw[po];exact aW)
 -- the parent's parent
 obtain⟨g,R⟩:∃ g,(fJ xs p).up=g:=⟨_,rfl⟩
 have S:g=wJ c q:=R.symm.trans pu
 -- the middle tree,and the outer one
 obtain⟨m,o,hm⟩:∃ m o:Tr,(m,o)=(bif d then(b,a)else(a,b)):=⟨_,_,rfl⟩
 have aK:gP xs m i/\gP xs o i/\jr xs (!d) i=m.root/\jr xs d i=o.root/\(∀ j,j∈m.mem\/j∈o.mem↔j∈a.mem\/j∈b.mem)/\i∉m.mem/\i∉o.mem/\m.mem.Nodup/\o.mem.Nodup/\∀ j∈m.mem,j∉o.mem:=by
  cases d<;>(simp only[cond_true,cond_false,Prod.mk.injEq]at hm;obtain⟨rfl,rfl⟩:=hm)
  . exact⟨ha,hb,by simpa[jr]using av,by simpa[jr]using aw,fun j=>Iff.rfl,ak,ay,na,nb,fun j n r=>ai j n j (.inr r) rfl⟩
  . exact⟨hb,ha,by simpa[jr]using aw,by simpa[jr]using av,fun j=>Or.comm,ay,ak,nb,na,fun j n r=>ai j r j (.inr n) rfl⟩
 obtain⟨G,aN,aq,aP,ao,am,aE,ad,a6,aL⟩:=aK
 have B:∀ j,j∈m.mem\/j∈o.mem->j≠p/\j∉s.mem/\j∉jY c:=fun j l=>by
  have:=P j (by rcases(ao j).1 l with h|h<;>simp[h])
  exact⟨this.1,this.2.1,this.2.2⟩
 have a5:m.root<xs.length:=G.Bk o_
 have ac:m.root≠i:=fun e=>am (e▸G.nq o_)
 have ae:m.root≠p:=fun e=>(B m.root (.inl (G.nq o_))).1 e
 -- the first step
 obtain⟨y1,F⟩:∃ y,y=(if (jF xs p).2=true then i7 xs g (jF xs p).1 i else fM xs i (fun x=>{ x with up:=g })):=⟨_,rfl⟩
 have aX:y1.length=xs.length/\fJ y1 i={ fJ xs i with up:=g }/\(∀ j,j≠i->j∉jY c->fJ y1 j=fJ xs j)/\(∀ C v E c', c=(C, v, E) :: c' -> (∀ j,j≠i->j≠v -> fJ y1 j=fJ xs j)/\fJ y1 v = rq C i (fJ xs v))/\(c=[]->∀ j,j≠i->fJ y1 j=fJ xs j):=by
  cases c with
  | nil =>
   have ag:jF xs p=(0,false):=Tf (p:=q) (by rw[R,S];rfl) (hq rfl)
   rw[ag]at F
   simp only[Bool.false_eq_true,if_false]at F
   subst F
   refine⟨gx,jS il,fun j l _=>kS (fun e=>l e.symm),?_,fun _ j l=>kS (fun e=>l e.symm)⟩
   intro C v E c' e
   cases e
  | cons f c' =>
   obtain⟨C, v, E⟩:=f
   obtain⟨⟨g0,gl⟩,⟨gk,go,gu⟩,gv,gs,gc⟩:=aa
   simp only[jY,qF,ze,zn,not_or]at ab H
   have a7:p≠v := H.2.1
   have ag:jF xs p=(sd C, true):=Le (p:=v) (by rw[R,S];rfl) g0 gk (by
    rw[go]
    intro e
    have hr:E.root≠0:=by rw[e];exact U
    exact H.2.2.1 (e▸gs.nq hr))
   rw[ag]at F
   simp only[if_true]at F
   have aD:g=v := S
   subst aD
   have al:i≠g:=ab.1
   subst F
   have Q:=Jc (xs:=xs) (d:=C) gl il al
   refine⟨Jd _ _ _ _,by rw[Q,if_neg al,if_pos ⟨rfl,i0⟩],fun j l aF=>?_,fun d2 g2 s2 c2 e=>?_,fun e=>by cases e⟩
   . rw[Q,if_neg (fun e=>aF (by simp[jY,e])),if_neg (fun e=>l e.1)]
   . cases e
     exact⟨fun j n r=>by rw[Q,if_neg r,if_neg (fun e=>n e.1)],by rw[Q,if_pos rfl]⟩
 obtain⟨l1,a1,o1,c1,e1⟩:=aX
 have az:p∉jY c:=H.2
 have aR:fJ y1 p=fJ xs p:=o1 p (fun e=>J e.symm) az
 have aG:(if sd d=0 then(fJ y1 i).k1 else(fJ y1 i).k0)=m.root:=by
  rw[a1]
  cases d
  . simp only[sd,cond_false,Dv,if_false];simpa[jr]using aq
  . simp only[sd,cond_true,if_true];simpa[jr]using aq
 -- the second step
 obtain⟨y2,Y⟩:∃ y,y=i7 y1 p (sd d) m.root:=⟨_,rfl⟩
 have nE:=Jc (xs:=y1) (i:=p) (k:=m.root) (d:=d) o_ o_ ae
 rw[<-Y]at nE
 have l2:y2.length=xs.length:=by rw[Y,Jd,l1]
 -- the third step
 obtain⟨u,Z⟩:∃ y,y=i7 y2 i (sd (!d)) p:=⟨_,rfl⟩
 have nF:=Jc (xs:=y2) (i:=i) (k:=p) (d := !d) o_ o_ (fun e=>J e.symm)
 rw[<-Z]at nF
 have l3:u.length=xs.length:=by rw[Z,Jd,l2]
 have ar:iP xs i=iQ (iQ u p) i:=by
  have aU:1-sd d=sd (!d):=by cases d<;>rfl
  unfold iP
  simp only[aV,iu,R,<-F,aG,<-Y,aU,<-Z]
 -- the nodes before the refreshes
 have aZ:fJ y2 i={ fJ xs i with up:=g }:=by rw[nE,if_neg J,if_neg (fun e=>ac e.1.symm),a1]
 have a0:fJ y2 p=rq d m.root (fJ xs p):=by rw[nE,if_pos rfl,aR]
 have a2:fJ u i=rq (!d) p { fJ xs i with up:=g }:=by rw[nF,if_pos rfl,aZ]
 have X:fJ u p={ rq d m.root (fJ xs p)with up:=i }:=by rw[nF,if_neg (fun e=>J e.symm),if_pos ⟨rfl,U⟩,a0]
 have aA:m.root≠0->fJ u m.root={ fJ xs m.root with up:=p }:=fun h=>by
  rw[nF,if_neg ac,if_neg (fun e=>ae e.1),nE,if_neg ae,if_pos ⟨rfl,h⟩,o1 _ ac (B _ (.inl (G.nq h))).2.2]
 have W:∀ j,j≠i->j≠p->(j≠m.root\/m.root=0)->fJ u j=fJ y1 j:=fun j n r w=>by
  rw[nF,if_neg n,if_neg (fun e=>r e.1),nE,if_neg r,if_neg (fun e=>by rcases w with w|w;exact w e.1;exact e.2 w)]
 have V:∀ j,j≠i->j≠p->(j≠m.root\/m.root=0)->j∉jY c->fJ u j=fJ xs j:=fun j n r w h4=>by rw[W j n r w,o1 j n h4]
 have M:∀ j,j∉m.mem->j≠m.root\/m.root=0:=fun j l=>by
  by_cases h:m.root=0
  . exact .inr h
  . exact .inl (fun e=>l (e▸G.nq h))
 have ah:∀ j,(fJ u j).key=(fJ xs j).key/\(fJ u j).iX=(fJ xs j).iX/\(fJ u j).flip=(fJ xs j).flip:=by
  have a3:∀ j,(fJ y1 j).key=(fJ xs j).key/\(fJ y1 j).iX=(fJ xs j).iX/\(fJ y1 j).flip=(fJ xs j).flip:=by
   intro j
   by_cases n:j=i
   . subst n;rw[a1];exact⟨rfl,rfl,rfl⟩
   . cases hc:c with
     | nil=>rw[e1 hc j n];exact⟨rfl,rfl,rfl⟩
     | cons f c' =>
      obtain⟨C, v, E⟩:=f
      grind [Lc,Ld,Lb]
  intro j
  by_cases n:j=i
  . grind [Lc,Ld,Lb]
  . by_cases r:j=p
    . subst r;rw[X];exact⟨Lc _ _ _,Ld _ _ _,Lb _ _ _⟩
    . by_cases w:j=m.root/\m.root≠0
      . obtain⟨rfl,w⟩:=w;rw[aA w];exact⟨rfl,rfl,rfl⟩
      . rw[W j n r (by by_cases h:m.root=0;exact .inr h;exact .inl (fun e=>w ⟨e,h⟩))];exact a3 j
 have O:KL xs u:=⟨l3,fun j=>(ah j).1,fun j=>(ah j).2.1⟩
 -- the trees before the refreshes
 have aJ:gP u m p:=by
  cases m with
  | nil=>trivial
  | nd ml mi mr =>
   refine G.up O (fun j l hr=>?_) (aA G.1.1) ad
   obtain⟨n,r,w⟩:=B j (.inl l)
   exact V j (fun e=>am (e▸l)) n (.inl hr) w
 have af:∀ j∈s.mem,j∉m.mem:=fun j l hm=>(B j (.inl hm)).2.1 l
 have aT:gP u s p:=hs.to O fun j l=>V j (fun e=>an (e▸l)) (fun e=>H.1 (e▸l)) (M j (af j l)) (fun h9=>aY j l j h9 rfl)
 have aO:gP u o i:=aN.to O fun j l=>V j (fun e=>aE (e▸l)) (B j (.inr l)).1 (M j (fun h=>aL j h l)) (B j (.inr l)).2.2
 have I:∀ j∈jY c,j≠i/\j≠p/\j∉m.mem:=fun j l=>⟨fun e=>ab (e▸l),fun e=>az (e▸l),fun h=>(B j (.inl h)).2.2 l⟩
 have aC:mG u c i (j5 d (a.mem++i :: b.mem) p s) q:=by
  refine aa.kP O fun C v E c' e=>?_
  obtain⟨k1,k2⟩:=c1 C v E c' e
  subst e
  simp only[jY,qF,zu,zn,not_or]at nc I
  refine⟨fun j l=>?_,?_⟩
  . have K : j∈E.mem\/j∈jY c' := by simpa using l
    have h:=I j (by simp only[ze,zn];exact .inr K)
    rw[W j h.1 h.2.1 (M j h.2.2),k1 j h.1]
    rintro rfl
    rcases K with h' | h'
    . exact nc.1.1 h'
    . exact nc.1.2 h'
  . have h:=I v s_
    rw[W v h.1 h.2.1 (M v h.2.2),k2]
 -- the parent is refreshed
 have aI:(j5 d m.mem p s).length<=1000000:=by
  refine kz ?_ aj
  refine kz ?_ (KC c (j5 d (a.mem++i :: b.mem) p s))
  cases d<;>(simp only[cond_true,cond_false,Prod.mk.injEq]at hm;obtain⟨rfl,rfl⟩:=hm)<;>simp[j5]<;>omega
 have aH:(j5 d (a.mem++i :: b.mem) p s).length<=1000000:=kz (KC c _) aj
 have aM:(j5 d m.mem p s).Nodup:=by
  cases d
  . simp only[j5,cond_false,zr,zu]
    exact⟨ns,⟨fun h=>(B p (.inl h)).1 rfl,ad⟩,fun x N y A e=>by
     subst e
     rcases ze.1 A with rfl|A
     . exact H.1 N
     . exact af x N A⟩
  . simp only[j5,cond_true,zr,zu]
    exact⟨ad,⟨H.1,ns⟩,fun x N y A e=>by
     subst e
     rcases ze.1 A with rfl|A
     . exact(B _ (.inl N)).1 rfl
     . exact af x A N⟩
 obtain⟨D,hz⟩:=SJ (xs:=u) (d:=d) (i:=p) (t:=m) (s:=s) ⟨U,o_⟩ aJ aT (by rw[jr,X];cases d<;>rfl) (by rw[jr,X,<-po];cases d<;>rfl) aM aI
 rw[show (fJ u p).up=i by rw[X]]at hz
 obtain⟨z,ez⟩:∃ z,z=iQ u p:=⟨_,rfl⟩
 rw[<-ez]at D hz ar
 have lz:z.length=xs.length:=by rw[D.len,l3]
 have zi:fJ z i=rq (!d) p { fJ xs i with up:=g }:=by rw[D.other i J,a2]
 have aQ:gP z o i:=aO.to D.kl fun j l=>D.other j (B j (.inr l)).1
 have aS:(mQ d m p s).root=p:=SY _ _ _ _
 have au:mQ (!d) (mQ d m p s) i o=rm d a i b p s:=by
  cases d<;>(simp only[cond_true,cond_false,Prod.mk.injEq]at hm;obtain⟨rfl,rfl⟩:=hm)<;>rfl
 have ap:j5 (!d) (mQ d m p s).mem i o=j5 d (a.mem++i :: b.mem) p s:=by rw[<-JX,au,KS]
 have aB:(j5 d (a.mem++i :: b.mem) p s).Nodup:=(CP (c:=c) hn).1
 obtain⟨T,A⟩:=SJ (xs:=z) (d := !d) (i:=i) (t:=mQ d m p s) (s:=o) ⟨i0,o_⟩ hz aQ (by rw[jr,zi,aS];cases d<;>rfl) (by rw[jr,zi,<-aP];cases d<;>rfl) (by rw[ap];exact aB) (by rw[ap];exact aH)
 rw[<-ar]at T A
 rw[au,show (fJ z i).up=g by rw[zi,aeJ]]at A
 have o2:∀ j,j≠i->j≠p->fJ (iP xs i) j=fJ u j:=fun j n r=>by rw[T.other j n,D.other j r]
 have ax : KL u (iP xs i):=D.kl.trans T.kl
 refine⟨(yM _ _ _).2 ⟨by rw[<-S];exact A,?_⟩,O.trans ax, fun j l=>?_,fun j=>?_⟩
 . rw[aeg,KS]
   exact aC.to ax fun j l=>o2 j (I j l).1 (I j l).2.1
 . have K : j∉j5 d (a.mem++i :: b.mem) p s/\j∉jY c:=by
    have:=mt (CL (c:=c)).2 l
    simpa[not_or]using this
   have L:j≠i/\j≠p/\j∉m.mem:=by
    have n:=K.1
    have r:¬ (j∈a.mem\/j∈b.mem)/\j≠i/\j≠p:=by
     cases d<;>simp only[j5,cond_true,cond_false,zn,ze,not_or]at n<;>exact⟨by simp[n],by simp[n],by simp[n]⟩
    exact⟨r.2.1,r.2.2,fun h=>r.1 ((ao j).1 (.inl h))⟩
   rw[o2 j L.1 L.2.1,V j L.1 L.2.1 (M j L.2.2) K.2]
 . rw[T.flip,D.flip,(ah j).2.2]
end Go.Sx
namespace Go.Sx
open Go
def gB(xs:List Nd):Bool->Tr->List Nat
 | _,.nil=>[]
 | φ,.nd l i r=>bif (xor φ (fJ xs i).flip)then gB xs (xor φ (fJ xs i).flip) r++i :: gB xs (xor φ (fJ xs i).flip) l else gB xs (xor φ (fJ xs i).flip) l++i :: gB xs (xor φ (fJ xs i).flip) r
theorem vi{xs ys:List Nd}:∀ {t:Tr} {φ:Bool},(∀ j∈t.mem,(fJ ys j).flip=(fJ xs j).flip)->gB ys φ t=gB xs φ t
 | .nil,_,_=>rfl
 | .nd l i r,φ,h=>by
  simp only[gB,h i (by simp[Tr.mem])]
  rw[vi (t:=l) fun j a=>h j (by simp[Tr.mem,a]),vi (t:=r) fun j a=>h j (by simp[Tr.mem,a])]
theorem Tl{xs ys:List Nd}{l r:Tr}{i:Nat}{φ:Bool}(hi:(fJ ys i).flip = !(fJ xs i).flip)(h:∀ j∈l.mem++r.mem,(fJ ys j).flip=(fJ xs j).flip):gB ys φ (.nd l i r)=gB xs (!φ) (.nd l i r):=by
 grind [fJ,gB,vi]
theorem oP(xs:List Nd):∀ (φ:Bool) (t:Tr),(gB xs φ t).Perm t.mem
 | _,.nil=>.nil
 | φ,.nd l i r=>by
  have a:=oP xs (xor φ (fJ xs i).flip) l
  have b:=oP xs (xor φ (fJ xs i).flip) r
  simp only[gB,Tr.mem]
  generalize xor φ (fJ xs i).flip=ψ at a b ⊢
  cases ψ with
  | false =>
   simp only[cond_false]
   exact(a.append_right _).trans (List.Perm.append_left _ (b.cons i)) |>.trans (.refl _)
  | true =>
   simp only[cond_true]
   exact((b.append_right _).trans (List.Perm.append_left _ (a.cons i))).trans (qG.trans (by simp only[qF];exact uz.symm))
theorem ae9{xs ys:List Nd}{d:Bool}{t t' s:Tr}{g:Nat}(a:∀ ψ,gB ys ψ t' = gB xs ψ t)(h:∀ j∈g :: s.mem,(fJ ys j).flip=(fJ xs j).flip)(φ:Bool):gB ys φ (mQ d t' g s)=gB xs φ (mQ d t g s):=by
 grind [gB,vi,mQ]
theorem Lh{xs ys:List Nd}:∀ {c:Cx} {t t' : Tr},(∀ ψ,gB ys ψ t' = gB xs ψ t)->(∀ j∈jY c,(fJ ys j).flip=(fJ xs j).flip)->∀ φ,gB ys φ (j9 c t')=gB xs φ (j9 c t)
 | [],_,_,h,_,φ=>h φ
 | (d,g,s) :: c,t,t', h,hc,φ=>by
  simp only[j9]
  exact Lh (c:=c) (fun ψ=>ae9 h (fun j a=>hc j (by simp only[jY,zn];exact .inl a)) ψ) (fun j a=>hc j (by simp only[jY,zn];exact .inr a)) φ
theorem afa{xs:List Nd}{d:Bool}{a b s:Tr}{i p:Nat}(hi:(fJ xs i).flip=false)(hp:(fJ xs p).flip=false)(φ:Bool):gB xs φ (rm d a i b p s)=gB xs φ (mQ d (.nd a i b) p s):=by
 grind [rm,mQ,gB]
theorem gP.Gd{xs ys:List Nd}(w:ys.length=xs.length):∀ {t:Tr} {p:Nat},gP xs t p->(∀ j∈t.mem,∃ f,fJ ys j={ fJ xs j with flip:=f })->gP ys t p:=by
 have key:∀ {t:Tr} {p:Nat} (L:List Nat),gP xs t p->(∀ j∈t.mem,∃ f,fJ ys j={ fJ xs j with flip:=f })->gP ys t p:=by
  intro t
  induction t with
  | nil=>intro p L _ _;trivial
  | nd l i r q s =>
   intro p L h hs
   obtain⟨⟨d,v⟩,⟨g,k,m⟩,b,n,o⟩:=h
   obtain⟨f,hi⟩:=hs i (by simp[Tr.mem])
   have c:∀ j∈l.mem++i :: r.mem,(fJ ys j).key=(fJ xs j).key/\(fJ ys j).iX=(fJ xs j).iX:=fun j a=>by
    obtain⟨u, e⟩:=hs j a
    rw[e];exact⟨rfl,rfl⟩
   refine⟨⟨d,o_⟩,⟨by rw[hi];exact g,by rw[hi];exact k,by rw[hi];exact m⟩,⟨by rw[hi];exact b.size,?_,?_⟩,q L n fun j a=>hs j (by simp[Tr.mem,a]),s L o fun j a=>hs j (by simp[Tr.mem,a])⟩
   . rw[hi,show og ys (l.mem++i :: r.mem)=og xs (l.mem++i :: r.mem) from congrArg List.sum (Dy fun j a=>by rw[(c j a).2])]
     exact b.total
   . rw[hi]
     refine⟨b.first.1,fun j a=>?_⟩
     rcases b.first.2 j a with e|e
     . exact .inl e
     . refine .inr ?_
       rw[<-e]
       simp only[lK,(c j a).1,(c _ b.first.1).1]
 intro t p h hs
 exact key [] h hs
theorem KE{xs:List Nd}{l r:Tr}{i p:Nat}(h:gP xs (.nd l i r) p)(D:(Tr.nd l i r).mem.Nodup) :
 ∃ l' u, ((l' = l/\u = r)\/(l' = r/\u = l))/\gP (kf xs i) (.nd l' i u) p/\(fJ (kf xs i) i).flip=false/\KL xs (kf xs i)/\(∀ j,j∉(Tr.nd l i r).mem->fJ (kf xs i) j=fJ xs j)/\∀ φ,gB (kf xs i) φ (.nd l' i u)=gB xs φ (.nd l i r):=by
 cases hf:(fJ xs i).flip with
 | false =>
  have e:kf xs i=xs:=by unfold kf;rw[hf];rfl
  rw[e]
  exact⟨l,r,.inl ⟨rfl,rfl⟩,h,hf,KL.refl _,fun _ _=>rfl,fun _=>rfl⟩
 | true =>
  obtain⟨⟨i0,il⟩,⟨k0,k1,up⟩,v,m,n⟩:=h
  simp only[Tr.mem]at D
  rw[zr,zu]at D
  obtain⟨n1,⟨F,U⟩,J⟩:=D
  have G:i∉l.mem:=fun h=>J i h i s_ rfl
  have C:∀ j∈l.mem,j∉r.mem:=fun j q L=>J j q j (by simp[L]) rfl
  have X:l.root≠i:=fun e=>G (e▸m.nq o_)
  have aa:r.root≠i:=fun e=>F (e▸n.nq o_)
  have Y:=m.Bk (show 0<xs.length by omega)
  have ab:=n.Bk (show 0<xs.length by omega)
  have Z:l.root≠0->l.root≠r.root:=fun d e=>C _ (m.nq d) (e▸n.nq (e▸d))
  obtain⟨ys,H⟩:∃ ys,ys=kf xs i:=⟨_,rfl⟩
  have B:ys.length=xs.length:=by
   rw[H];unfold kf;rw[if_pos hf];simp only;split<;>split<;>simp[gx]
  have N:fJ ys i={ fJ xs i with flip:=false,k0:=r.root,k1:=l.root }/\(∀ j,j≠i->fJ ys j=if (j=l.root\/j=r.root)/\j≠0 then { fJ xs j with flip := !(fJ xs j).flip } else fJ xs j):=by
   obtain⟨y0,W⟩:∃ y,y=fM xs i (fun x=>{ x with flip:=false }):=⟨_,rfl⟩
   grind [fM,fJ,gx,jS,kS,kf,jy]
  obtain⟨g,o⟩:=N
  have s:∀ j,j≠i->∃ f,fJ ys j={ fJ xs j with flip:=f }:=fun j c=>by
   rw[o j c];split
   . exact⟨_,rfl⟩
   . exact⟨(fJ xs j).flip,rfl⟩
  have kl:KL xs ys:=by
   refine⟨B,fun j=>?_,fun j=>?_⟩<;>(by_cases c:j=i)
   . subst c;rw[g]
   . obtain⟨f,e⟩:=s j c;rw[e]
   . subst c;rw[g]
   . obtain⟨f,e⟩:=s j c;rw[e]
  have Q : gP ys l i:=m.Gd B fun j c=>s j (fun e=>G (e▸c))
  have E : gP ys r i:=n.Gd B fun j c=>s j (fun e=>F (e▸c))
  rw[<-H]
  have K:∀ (t:Tr),(t=l\/t=r)->gP xs t i->t.mem.Nodup->(∀ j∈t.mem,j≠i)->(∀ j∈t.mem,j≠t.root->j≠l.root/\j≠r.root)->∀ φ,gB ys φ t=gB xs (!φ) t:=by
   intro t R M z w I φ
   cases t with
   | nil=>rfl
   | nd a k b =>
    simp only[Tr.mem]at z w I
    rw[zr,zu]at z
    obtain⟨m1,⟨S,m3⟩,T⟩:=z
    refine Tl ?_ fun j c=>?_
    . rw[o k (w k s_),if_pos ⟨by rcases R with e|e<;>rw[<-e]<;>simp[Tr.root],M.1.1⟩]
    . have A : j∈a.mem\/j∈b.mem:=by simpa using c
      have P:j≠k:=by rintro rfl;rcases A with h|h;exact T j h j s_ rfl;exact S h
      have q:=I j (by simp only[zn,ze];rcases A with h|h<;>simp[h]) P
      rw[o j (w j (by simp only[zn,ze];rcases A with h|h<;>simp[h])),if_neg (by rintro⟨e|e,_⟩;exact q.1 e;exact q.2 e)]
  have sl:=K l (.inl rfl) m n1 (fun j c e=>G (e▸c)) (fun j c O=>⟨O,fun e=>by
   by_cases d:r.root=0
   . exact(m.qz j c).1 (e.trans d)
   . exact C j c (e▸n.nq d)⟩)
  have V:=K r (.inr rfl) n U (fun j c e=>F (e▸c)) (fun j c E => ⟨fun e=>by
   by_cases d:l.root=0
   . exact(n.qz j c).1 (e.trans d)
   . exact C j (e▸m.nq d) c,E⟩)
  refine⟨r,l,.inr ⟨rfl,rfl⟩,⟨⟨i0,o_⟩,⟨by rw[g],by rw[g],by rw[g];exact up⟩,?_,E, Q⟩,by rw[g],kl,fun j c=>?_,fun φ=>?_⟩
  . have v' : pU ys i (l.mem++i :: r.mem):=v.to kl (by rw[g]) (by rw[g]) (by rw[g])
    exact v'.perm (qG.trans (by simp only[qF];exact uz.symm))
  . simp only[Tr.mem,zn,ze,not_or]at c
    rw[o j c.2.1,if_neg]
    rintro⟨e|e,d⟩
    . exact c.1 (e▸m.nq (e▸d))
    . exact c.2.2 (e▸n.nq (e▸d))
  . simp only[gB,hf,g,sl,V]
    cases φ<;>simp
theorem mG.perm{xs:List Nd}:∀ {c:Cx} {r q:Nat} {L M:List Nat},mG xs c r L q->L.Perm M->mG xs c r M q
 | [],_,_,_,_,_,_=>trivial
 | (d,g,s) :: c,r,q,L,M,h,hp=>by
  obtain⟨b,e,f,i,j⟩:=h
  have a:(j5 d L g s).Perm (j5 d M g s):=by
   cases d
   . exact List.Perm.append_left _ (hp.cons g)
   . exact hp.append_right _
  exact⟨b,e,f.perm a,i,mG.perm j a⟩
theorem Sq:∀ {c:Cx} {L M:List Nat},L.Perm M->(lP c L).Perm (lP c M)
 | [],_,_,h=>h
 | (d,g,s) :: c,L,M,h=>by
  refine Sq (c:=c) ?_
  cases d
  . exact List.Perm.append_left _ (h.cons g)
  . exact h.append_right _
theorem JY:∀ {c:Cx} {f:Bool×Nat×Tr},f∈c->f.2.1∈jY c
 | [],_,h=>by simp at h
 | (d,g,s) :: c,f,h=>by
  simp only[jY,zn,ze]
  rcases ze.1 h with rfl|h
  . exact .inl (.inl rfl)
  . exact .inr (JY h)
end Go.Sx
namespace Go.Sx
open Go
theorem KD:∀ (c c' : Cx) (t:Tr),j9 (c++c') t=j9 c' (j9 c t)
 | [],_,_=>rfl
 | (d,g,s) :: c,c', t=>by simp only[qF,j9];exact KD c c' _
theorem Fj{i:Nat}:∀ {t:Tr},i∈t.mem->∃ c a b,t=j9 c (.nd a i b)
 | .nil,h=>by simp[Tr.mem]at h
 | .nd l j r,h=>by
  simp only[Tr.mem,zn,ze]at h
  rcases h with h|rfl|h
  . obtain⟨c,a,b,e⟩:=Fj h
    exact⟨c++[(true,j,r)],a,b,by rw[KD,<-e];rfl⟩
  . exact⟨[],l,r,rfl⟩
  . obtain⟨c,a,b,e⟩:=Fj h
    exact⟨c++[(false,j,l)],a,b,by rw[KD,<-e];rfl⟩
def js(c:Cx)(i:Nat):List Nat:=i :: c.map (fun f=>f.2.1)
def Way(i:Nat):Tr->List Nat->Prop
 | .nil,_=>False
 | .nd l j r,w=>(j=i/\w=[i])\/∃ w', w=j :: w' /\ (Way i l w' \/ Way i r w')
theorem Uk{i:Nat}:∀ {c:Cx} {t:Tr} {w:List Nat},Way i t w->Way i (j9 c t) ((c.map (fun f=>f.2.1)).reverse++w)
 | [],_,_,h=>h
 | (d,g,s) :: c,t,w,h=>by
  have:Way i (mQ d t g s) (g :: w):=by cases d<;>simp only[mQ,cond_true,cond_false,Way];exact .inr ⟨w,rfl,.inr h⟩;exact .inr ⟨w,rfl,.inl h⟩
  have:=Uk (c:=c) this
  simpa[j9]using this
theorem agA(c:Cx)(a:Tr)(i:Nat)(b:Tr):Way i (j9 c (.nd a i b)) (js c i).reverse:=by
 have:=Uk (c:=c) (t:=.nd a i b) (w:=[i]) (.inl ⟨rfl,rfl⟩)
 simpa[js]using this
structure At (xs:List Nd) (c:Cx) (j:Nat) (L:List Nat) (q:Nat):Prop where
 rep:mG xs c j L q
 up:(fJ xs j).up=wJ c q
 mem:j∈L
 nodup:(lP c L).Nodup
 ne:j≠0
 lt:j<xs.length
def Out(xs:List Nd)(q:Nat)(L:List Nat):Prop:=q=0\/jr xs true q∉L/\jr xs false q∉L/\q∉L
theorem At.start{xs:List Nd}{c:Cx}{a b:Tr}{i q:Nat}(h:gP xs (j9 c (.nd a i b)) q)(f:(j9 c (.nd a i b)).mem.Nodup):At xs c i (Tr.nd a i b).mem q:=by
 obtain⟨d,e⟩:=(yM _ _ _).1 h
 exact⟨e,d.2.1.2.2,by simp[Tr.mem],by rw[<-p7];exact f,d.1.1,d.1.2⟩
theorem At.step{xs:List Nd}{d:Bool}{g:Nat}{s:Tr}{c:Cx}{j q:Nat}{L:List Nat}(h:At xs ((d,g,s) :: c) j L q):jF xs j=(sd d,true)/\(fJ xs j).up=g/\At xs c g (j5 d L g s) q:=by
 obtain⟨⟨a,k⟩,⟨i,go,m⟩,t,l,f⟩:=h.rep
 have b:=h.nodup
 obtain⟨n1,u,r⟩:=CP b
 have o:s.root≠j:=fun e=>by
  have n:s.root≠0:=by rw[e];exact h.ne
  exact r j h.mem (by simp only[jY,zn,ze];exact .inl (.inr (e▸l.nq n)))
 refine⟨Le (p:=g) h.up a i (by rw[go];exact o),h.up,f,m,by cases d<;>simp[j5],b,a,k⟩
theorem At.stop{xs:List Nd}{j q:Nat}{L:List Nat}(h:At xs [] j L q)(c:Out xs q L):jF xs j=(0,false) :=
 Tf h.up (by
  rcases c with e|⟨a,b,_⟩
  . exact .inl e
  . exact .inr ⟨fun e=>a (e▸h.mem),fun e=>b (e▸h.mem)⟩)
structure jG (xs0 xs:List Nd) (T0:Tr) (O:Cx) (U:Tr) (q:Nat):Prop where
 rep:gP xs (j9 O U) q
 perm:(j9 O U).mem.Perm T0.mem
 ord:∀ φ,gB xs φ (j9 O U)=gB xs0 φ T0
 kl:KL xs0 xs
 other:∀ j,j∉T0.mem->fJ xs j=fJ xs0 j
 flip:∀ f∈O,(fJ xs f.2.1).flip=false
theorem jG.start{xs:List Nd}{T:Tr}{q:Nat}(h:gP xs T q):jG xs xs T [] T q:=⟨h,.refl _,fun _=>rfl,KL.refl _,fun _ _=>rfl,s_⟩
theorem jG.nodup{c xs:List Nd}{a U:Tr}{O:Cx}{q:Nat}(h:jG c xs a O U q)(b:a.mem.Nodup):(lP O U.mem).Nodup:=by rw[<-p7];exact(h.perm.nodup_iff).2 b
theorem jG.push{o xs:List Nd}{c l r:Tr}{O:Cx}{q j:Nat}(h:jG o xs c O (.nd l j r) q)(v:c.mem.Nodup) :
 ∃ l' a, ((l' = l/\a = r)\/(l' = r/\a = l))/\jG o (kf xs j) c O (.nd l' j a) q/\(fJ (kf xs j) j).flip=false:=by
 have w:=h.nodup v
 obtain⟨x,z,y⟩:=CP w
 obtain⟨t,p⟩:=(yM _ _ _).1 h.rep
 obtain⟨l', a, g,s,u,e,m,hs⟩:=KE t x
 have i:(Tr.nd l' j a).mem.Perm (Tr.nd l j r).mem:=by
  rcases g with ⟨rfl,rfl⟩|⟨rfl,rfl⟩
  . exact .refl _
  . simp only[Tr.mem]
    grind
 have n:∀ k∈jY O,fJ (kf xs j) k=fJ xs k:=fun k b => m k fun hm=>y k hm b
 refine⟨l', a, g,⟨(yM _ _ _).2 ⟨s,?_⟩,?_,fun φ=>?_,h.kl.trans e,fun k b => ?_,fun f d => ?_⟩,u⟩
 . exact(p.to e n).perm i.symm
 . refine List.Perm.trans ?_ h.perm
   rw[p7,p7]
   exact Sq i
 . rw[<-h.ord φ]
   grind [Lh]
 . rw[m k ?_,h.other k b]
   intro hm
   exact b (h.perm.mem_iff.1 (by rw[p7];exact CL.2 (.inl hm)))
 . rw[n f.2.1 (JY d)]
   exact h.flip f d
theorem jG.rotate{m xs:List Nd}{g a b s:Tr}{d:Bool}{c:Cx}{p i q:Nat}(h:jG m xs g ((d,p,s) :: c) (.nd a i b) q)(y:g.mem.Nodup)(w:xs.length<=1000001)(D:g.mem.length<=1000000)(C:Out m q g.mem)
 (hi:(fJ xs i).flip=false):jG m (iP xs i) g c (rm d a i b p s) q/\∀ j,(fJ (iP xs i) j).flip=(fJ xs j).flip:=by
 have z:=h.nodup y
 have B:p∈g.mem:=h.perm.mem_iff.1 (by rw[p7];exact CL.2 (.inr (by simp[jY])))
 have E:(lP ((d,p,s) :: c) (a.mem++i :: b.mem)).length=g.mem.length:=by
  have:=h.perm.length_eq
  rw[p7]at this
  exact this
 obtain⟨u,l⟩:=yN h.rep z w o_ (fun _=>by
  rcases C with e|⟨o,r,t⟩
  . exact .inl e
  . have e:fJ xs q=fJ m q:=h.other q t
    refine .inr ⟨fun e' => o ?_,fun e' => r ?_⟩
    . grind [jr]
    . rw[jr,e]at e'; rw[jr,e'];exact B)
 have A:=h.flip (d,p,s) s_
 have x:(j9 c (rm d a i b p s)).mem=(j9 ((d,p,s) :: c) (.nd a i b)).mem:=by
  rw[p7,p7,KS];rfl
 refine⟨⟨u,by rw[x];exact h.perm,fun φ=>?_,h.kl.trans l.kl,fun k n=>?_,fun f v=>?_⟩,l.flip⟩
 . rw[<-h.ord φ]
   have e1:gB (iP xs i) φ (j9 c (rm d a i b p s))=gB xs φ (j9 c (rm d a i b p s)):=vi fun j _=>l.flip j
   rw[e1]
   exact Lh (c:=c) (fun ψ=>afa hi A ψ) (fun _ _=>rfl) φ
 . rw[l.other k ?_,h.other k n]
   intro hm
   refine n (h.perm.mem_iff.1 ?_)
   rw[p7]
   exact hm
 . rw[l.flip]
   exact h.flip f (by simp[v])
theorem ag6(d:Bool)(a:Tr)(i:Nat)(b:Tr)(p:Nat)(s:Tr)(g:Nat)(s' : Tr) :
 rm d (bif d then .nd a i b else s) p (bif d then s else .nd a i b) g s' = mQ d (.nd a i b) p (bif d then .nd s g s' else .nd s' g s):=by
 cases d<;>rfl
theorem acn(d:Bool)(t:Tr)(p:Nat)(s:Tr):mQ d t p s = .nd (bif d then t else s) p (bif d then s else t):=by cases d<;>rfl
theorem FJ(d:Bool)(a:Tr)(i:Nat)(b:Tr)(p:Nat)(s:Tr):rm d a i b p s = .nd (bif d then a else .nd s p a) i (bif d then .nd b p s else b):=by cases d<;>rfl
theorem jG.ag5{l xs:List Nd}{j a b s s' : Tr}{d:Bool}{c:Cx}{p i g q:Nat}(h:jG l xs j ((d,p,s) :: (d,g,s') :: c) (.nd a i b) q)(r:j.mem.Nodup)(o:xs.length<=1000001)(n:j.mem.length<=1000000)(t:Out l q j.mem)
 (hi:(fJ xs i).flip=false):∃ a' u, jG l (iP (iP xs p) i) j c (.nd a' i u) q/\(fJ (iP (iP xs p) i) i).flip=false:=by
 have v:jG l xs j ((d,g,s') :: c) (.nd (bif d then .nd a i b else s) p (bif d then s else .nd a i b)) q:=by
  rw[<-acn]
  exact⟨h.rep,h.perm,h.ord,h.kl,h.other,fun f k=>h.flip f (oS _ k)⟩
 obtain⟨e,m⟩:=v.rotate r o n t (h.flip (d,p,s) s_)
 rw[ag6]at e
 have w:jG l (iP xs p) j ((d,p,(bif d then .nd s g s' else .nd s' g s)) :: c) (.nd a i b) q :=
  ⟨e.rep,e.perm,e.ord,e.kl,e.other,fun f k=>by
   rcases ze.1 k with rfl|k
   . rw[m];exact h.flip (d,p,s) s_
   . exact e.flip f k⟩
 obtain⟨y,x⟩:=w.rotate r (by rw[e.kl.len,<-h.kl.len];exact o) n t (by rw[m];exact hi)
 grind [FJ]
theorem jG.ag4{j xs:List Nd}{e a b s s' : Tr}{d r : Bool}{c:Cx}{p i g q:Nat}(h:jG j xs e ((d,p,s) :: (r, g,s') :: c) (.nd a i b) q)(m:e.mem.Nodup)(l:xs.length<=1000001)(k:e.mem.length<=1000000)(n:Out j q e.mem)
 (hi:(fJ xs i).flip=false):∃ a' o, jG j (iP (iP xs i) i) e c (.nd a' i o) q/\(fJ (iP (iP xs i) i) i).flip=false:=by
 obtain⟨f,t⟩:=h.rotate m l k n hi
 rw[FJ]at f
 obtain⟨v,u⟩:=f.rotate m (by rw[f.kl.len,<-h.kl.len];exact l) k n (by rw[t];exact hi)
 grind [FJ]
theorem jG.zig{e xs:List Nd}{c a b s:Tr}{d:Bool}{p i q:Nat}(h:jG e xs c [(d,p,s)] (.nd a i b) q)(k:c.mem.Nodup)(j:xs.length<=1000001)(g:c.mem.length<=1000000)(l:Out e q c.mem)
 (hi:(fJ xs i).flip=false):∃ a' f, jG e (iP xs i) c [] (.nd a' i f) q/\(fJ (iP xs i) i).flip=false:=by
 obtain⟨n,m⟩:=h.rotate k j g l hi
 grind [FJ]
end Go.Sx
namespace Go.Sx
open Go
def nK(s:List Nat)(q v u:Nat):Prop:=∃ s1 s2,s=s1++v :: s2/\u=s1.getLast?.getD q
theorem Kw{q v u:Nat}:¬ nK [] q v u:=by
 rintro⟨s1,s2,h,_⟩;simp at h
theorem sX{x:Nat}{s:List Nat}{q v u:Nat}:nK (x :: s) q v u↔(v=x/\u=q)\/nK s x v u:=by
 constructor
 . rintro⟨s1,s2,h,rfl⟩
   cases s1 with
   | nil=>simp at h;exact .inl ⟨h.1.symm,rfl⟩
   | cons y s1 =>
    simp only[qF,List.cons.injEq]at h
    obtain⟨rfl,rfl⟩:=h
    refine .inr ⟨s1,s2,rfl,?_⟩
    rw[DA];simp
 . rintro(⟨rfl,rfl⟩|⟨s1,s2,rfl,rfl⟩)
   . exact⟨[],s,rfl,rfl⟩
   . refine⟨x :: s1,s2,rfl,?_⟩
     rw[DA];simp
theorem RU{s t:List Nat}{q v u:Nat}:nK (s++t) q v u↔nK s q v u\/nK t (s.getLast?.getD q) v u:=by
 induction s generalizing q with
 | nil=>simp[Kw]
 | cons x s a =>
  rw[qF,sX,a,sX,DA,or_assoc]
  simp
theorem wK{s:List Nat}{q v u:Nat}(h:nK s q v u):v∈s:=by
 obtain⟨s1,s2,rfl,_⟩:=h;simp
theorem acL{s:List Nat}{q v u d : Nat}(b:s.Nodup)(h:nK s q v u)(e : nK s q v d):u=d := by
 induction s generalizing q with
 | nil=>exact absurd h Kw
 | cons x s g =>
  rw[zu]at b
  rcases sX.1 h with ⟨rfl,rfl⟩|c<;>rcases sX.1 e with ⟨a,f⟩|a
  . exact f.symm
  . exact absurd (wK a) b.1
  . subst a;exact absurd (wK c) b.1
  . exact g b.2 c a
abbrev vG:=List (List Nat×Nat)
def gW(S:vG)(v u:Nat):Prop:=∃ e∈S,nK e.1 e.2 v u
def yH(S:vG):List Nat:=S.flatMap (·.1)
theorem gW.perm{S c : vG}(h:S.Perm c){v u:Nat}:gW S v u↔gW c v u :=
 ⟨fun⟨e,b,a⟩=>⟨e,h.mem_iff.1 b,a⟩,fun⟨e,b,a⟩=>⟨e,h.mem_iff.2 b,a⟩⟩
theorem gW.cons{e:List Nat×Nat}{S:vG}{v u:Nat}:gW (e :: S) v u↔nK e.1 e.2 v u\/gW S v u:=by
 simp only[gW,ze,exists_eq_or_imp]
theorem sY{S:vG}(d:(yH S).Nodup){v u i : Nat}(h:gW S v u)(j : gW S v i):u=i := by
 induction S with
 | nil=>obtain⟨e,k,_⟩:=h;simp at k
 | cons e S m =>
  simp only[yH,z7,zr]at d
  obtain⟨n1,n,g⟩:=d
  have c:∀ {w},gW S v w->v∈S.flatMap (·.1):=fun⟨f,l,hp⟩=>rE.2 ⟨f,l,wK hp⟩
  rcases gW.cons.1 h with a|a<;>rcases gW.cons.1 j with b|b
  . exact acL n1 a b
  . exact absurd rfl (g v (wK a) v (c b))
  . exact absurd rfl (g v (wK b) v (c a))
  . exact m n a b
inductive PR (P:Nat->Nat->Prop):Nat->Nat->Prop where
 | top {v:Nat} (h:P v 0):PR P v v
 | step {v u r:Nat} (h:P v u) (h0:u≠0) (k:PR P u r):PR P v r
theorem PR.mono{P Q:Nat->Nat->Prop}(h:∀ v u,P v u->Q v u){v r:Nat}(k:PR P v r):PR Q v r:=by
 induction k with
 | top hp=>exact .top (h _ _ hp)
 | step hp a _ b=>exact .step (h _ _ hp) a b
theorem PR.unique{P:Nat->Nat->Prop}(c:∀ v u f, P v u->P v f -> u=f){v r e : Nat}(k:PR P v r)(k' : PR P v e):r=e := by
 induction k with
 | top hp =>
  cases k' with
  | top _=>rfl
  | step a b _=>exact absurd (c _ _ _ a hp) b
 | step hp b _ g =>
  cases k' with
  | top a => exact absurd (c _ _ _ hp a) b
  | step a _ d=>rw[c _ _ _ a hp]at d;exact g d
theorem PR.root{P:Nat->Nat->Prop}{v r:Nat}(k:PR P v r):P r 0:=by
 induction k with
 | top h=>exact h
 | step _ _ _ a=>exact a
theorem PR.EU{P:Nat->Nat->Prop}{s:List Nat}:∀ {q v h:Nat},s.head? = some h->(∀ x∈s,x≠0)->(∀ v u,nK s q v u->P v u)->v∈s->(q=0->PR P v h)/\(∀ r,q≠0->PR P q r->PR P v r):=by
 induction s with
 | nil=>intro q v h a;simp at a
 | cons x s i =>
  intro q v h a c f hv
  simp only[List.head?_cons,Option.some.injEq]at a
  subst a
  have b:P x q:=f _ _ (sX.2 (.inl ⟨rfl,rfl⟩))
  rcases ze.1 hv with rfl|hv
  . exact⟨fun e=>.top (e▸b),fun r d k=>.step b d k⟩
  . cases s with
    | nil=>simp at hv
    | cons y s =>
     have:=(i (q:=x) (v:=v) (h:=y) rfl (fun z g=>c z (oS _ g)) (fun v u hp=>f _ _ (sX.2 (.inr hp))) hv).2
     exact⟨fun e=>this x (c x s_) (.top (e▸b)),fun r d k=>this r (c x s_) (.step b d k)⟩
end Go.Sx
namespace Go.Sx
open Go
abbrev FT:=List (Tr×Nat)
def jT(F:FT):List Nat:=F.flatMap fun e=>e.1.mem
def gV(xs:List Nd)(F:FT):vG:=F.map fun e=>(gB xs false e.1,e.2)
structure Fo (xs:List Nd) (F:FT):Prop where
 rep:∀ e∈F,gP xs e.1 e.2
 ne:∀ e∈F,e.1.root≠0
 nodup:(jT F).Nodup
 all:∀ j,j≠0->j<xs.length->j∈jT F
 par:∀ e∈F,e.2<xs.length
 s8:∃ ρ:Nat->Nat,(∀ e∈F,∀ i∈e.1.mem,∀ j∈e.1.mem,ρ i=ρ j)/\∀ e∈F,e.2≠0->∀ i∈e.1.mem,ρ i<ρ e.2
 zero:(fJ xs 0).k0=0/\(fJ xs 0).k1=0/\(fJ xs 0).total=0
 pos:0<xs.length
 len:xs.length<=1000001
theorem Sc{α β:Type}{l l' : List α}(h:l.Perm l')(f:α->List β):(l.flatMap f).Perm (l'.flatMap f):=by
 induction h with
 | nil=>exact .nil
 | cons x _ a=>simp only[z7];exact a.append_left _
 | swap x y l =>
  simp only[z7,<-oT]
  exact qG.append_right _
 | trans _ _ b c=>exact b.trans c
theorem Fo.perm{xs:List Nd}{F F' : FT}(h:Fo xs F)(hp:F.Perm F'):Fo xs F' := by
 have b:(jT F).Perm (jT F'):=Sc hp _
 obtain⟨ρ,d,f⟩:=h.s8
 exact⟨fun e a=>h.rep e (hp.mem_iff.2 a),fun e a=>h.ne e (hp.mem_iff.2 a),b.nodup_iff.1 h.nodup,fun j c g=>b.mem_iff.1 (h.all j c g),fun e a=>h.par e (hp.mem_iff.2 a),
  ⟨ρ,fun e a=>d e (hp.mem_iff.2 a),fun e a=>f e (hp.mem_iff.2 a)⟩,h.zero,h.pos,h.len⟩
theorem oL{F:FT}{e:Tr×Nat}{j:Nat}(a:e∈F)(b:j∈e.1.mem):j∈jT F:=rE.2 ⟨e,a,b⟩
theorem Fo.split{xs:List Nd}{T:Tr}{q:Nat}{R:FT}(h:Fo xs ((T,q) :: R)):T.mem.Nodup/\(jT R).Nodup/\∀ j∈T.mem,j∉jT R:=by
 have a:=h.nodup
 grind [jT]
theorem nodup_lt_length:∀ (n:Nat) (L:List Nat),L.Nodup->(∀ j∈L,j<n)->L.length<=n
 | 0,L,_,h=>by
  cases L with
  | nil=>simp
  | cons x L=>exact absurd (h x s_) o_
 | n+1,L,hn,h=>by
  have f:=nodup_lt_length n (L.erase n) (hn.erase n) (fun j b=>by
   have c:=h j (List.mem_of_mem_erase b)
   have d:j≠n:=fun e=>by subst e;exact(List.Nodup.not_mem_erase hn) b
   omega)
  have c:=List.length_erase_le (a:=n) (l:=L)
  have d:L.length<=(L.erase n).length+1:=by
   rw[List.length_erase];split<;>omega
  omega
theorem Fo.count{xs:List Nd}{T:Tr}{q:Nat}{R:FT}(h:Fo xs ((T,q) :: R)):T.mem.length<=1000000:=by
 have c:=nodup_lt_length xs.length (0 :: T.mem) (by
  rw[zu]
  exact⟨fun b=>((h.rep (T,q) s_).qz 0 b).1 rfl,h.split.1⟩) (fun j a=>by
  rcases ze.1 a with rfl|a
  . exact h.pos
  . exact((h.rep (T,q) s_).qz j a).2)
 have:=h.len
 simp only[zb]at c
 omega
theorem gP.Jw{xs:List Nd}{d:Bool}:∀ {t:Tr} {p j:Nat},gP xs t p->j∈t.mem->jr xs d j=0\/jr xs d j∈t.mem
 | .nil,_,_,_,a=>by simp[Tr.mem]at a
 | .nd l i r,p,j,h,a=>by
  obtain⟨_,⟨f,g,_⟩,_,b,c⟩:=h
  simp only[Tr.mem,zn,ze]at a ⊢
  rcases a with a|rfl|a
  . rcases gP.Jw b a with e|e
    . exact .inl e
    . exact .inr (.inl e)
  . cases d
    . simp only[jr,cond_false,g]
      by_cases e:r.root=0
      . exact .inl e
      . exact .inr (.inr (.inr (c.nq e)))
    . simp only[jr,cond_true,f]
      by_cases e:l.root=0
      . exact .inl e
      . exact .inr (.inl (b.nq e))
  . rcases gP.Jw c a with e|e
    . exact .inl e
    . exact .inr (.inr (.inr e))
theorem Fo.out{xs:List Nd}{T:Tr}{q:Nat}{R:FT}(h:Fo xs ((T,q) :: R)):Out xs q T.mem:=by
 by_cases hq:q=0
 . exact .inl hq
 . obtain⟨ρ,l,j⟩:=h.s8
   have g:q∉T.mem:=fun hm=>by
    have:=j (T,q) s_ hq q hm
    simp at this
   have b:=h.all q hq (h.par (T,q) s_)
   simp only[jT,z7,zn]at b
   rcases b with hm|hm
   . exact absurd hm g
   . obtain⟨e,c,hm⟩:=rE.1 hm
     have k:0∉T.mem:=fun i=>((h.rep (T,q) s_).qz 0 i).1 rfl
     have key:∀ d,jr xs d q∉T.mem:=fun d f=>by
      rcases gP.Jw (d:=d) (h.rep e (by simp[c])) hm with a|a
      . exact k (a▸f)
      . exact h.split.2.2 _ f (oL c a)
     exact .inr ⟨key true,key false,g⟩
theorem gP.si{xs ys:List Nd}(b:ys.length=xs.length){t:Tr}{p:Nat}(h:gP xs t p)(hs:∀ j∈t.mem,fJ ys j=fJ xs j):gP ys t p :=
 h.Gd b fun j a=>⟨(fJ xs j).flip,by rw[hs j a]⟩
theorem Lj{xs ys:List Nd}{t:Tr}{φ:Bool}(hs:∀ j∈t.mem,fJ ys j=fJ xs j):gB ys φ t=gB xs φ t:=vi fun j a=>by rw[hs j a]
theorem K9{xs ys:List Nd}{F:FT}(hs:∀ j∈jT F,fJ ys j=fJ xs j):gV ys F=gV xs F:=by
 unfold gV
 refine Dy fun e a=>?_
 rw[Lj fun j b=>hs j (oL a b)]
theorem Fo.Ti{xs ys:List Nd}{T U:Tr}{q:Nat}{R:FT}(h:Fo xs ((T,q) :: R))(m:jG xs ys T [] U q):Fo ys ((U,q) :: R)/\gV ys ((U,q) :: R)=gV xs ((T,q) :: R)/\(∀ e∈R,∀ j∈e.1.mem,fJ ys j=fJ xs j):=by
 obtain⟨n1,u,s⟩:=h.split
 have d:=m.kl.len
 have hp:U.mem.Perm T.mem:=m.perm
 have f:∀ j∈jT R,fJ ys j=fJ xs j:=fun j b=>m.other j fun o=>s j o b
 have p:0∉T.mem:=fun c=>((h.rep (T,q) s_).qz 0 c).1 rfl
 have n:U.root≠0:=by
  intro e
  have g:=gP.KR (t:=U) m.rep e
  rw[g]at hp
  have k:=h.ne (T,q) s_
  exact k (by
   cases T with
   | nil=>rfl
   | nd l i r=>have:=hp.length_eq;simp[Tr.mem]at this)
 refine⟨⟨fun e a=>?_,fun e a=>?_,?_,fun j c b=>?_,fun e a=>?_,?_,?_,by rw[d];exact h.pos,by rw[d];exact h.len⟩,?_,fun e a j b=>f j (oL a b)⟩
 . rcases ze.1 a with rfl|a
   . exact m.rep
   . exact(h.rep e (by simp[a])).si d fun j b=>f j (oL a b)
 . rcases ze.1 a with rfl|a
   . exact n
   . exact h.ne e (by simp[a])
 . grind [jT]
 . have:=h.all j c (by rw[d]at b;exact b)
   grind [jT]
 . rw[d]
   rcases ze.1 a with rfl|a
   . exact h.par (T,q) s_
   . exact h.par e (by simp[a])
 . obtain⟨ρ,r1,r2⟩:=h.s8
   refine⟨ρ,fun e a=>?_,fun e a=>?_⟩
   . rcases ze.1 a with rfl|a
     . exact fun i hi j b=>r1 (T,q) s_ i (hp.mem_iff.1 hi) j (hp.mem_iff.1 b)
     . exact r1 e (by simp[a])
   . rcases ze.1 a with rfl|a
     . exact fun c i hi=>r2 (T,q) s_ c i (hp.mem_iff.1 hi)
     . exact r2 e (by simp[a])
 . rw[m.other 0 p];exact h.zero
 . have g:gV ys R=gV xs R:=K9 f
   have k:gB ys false U=gB xs false T:=m.ord false
   grind [gV]
def lM(xs:List Nd)(j below:Nat):List Nd :=
 let a:=fM xs j (fun x=>{ x with iX:=IntKind.i64.wrap (x.iX+IntKind.i64.wrap ((fJ xs x.k1).total-(fJ xs below).total)) })
 let b:=fM a j (fun x=>{ x with k1:=below })
 iQ b j
def opt(e:Tr×Nat)(R:FT):FT:=if e.1.root=0 then R else e :: R
theorem p6{e f:Tr×Nat}{R:FT}:f∈opt e R↔(e.1.root≠0/\f=e)\/f∈R:=by
 grind [opt]
theorem gP.A7{xs:List Nd}{t:Tr}{p:Nat}(h:gP xs t p)(e:t.root=0):t = .nil:=by
 cases t with
 | nil=>rfl
 | nd l i r=>exact absurd e h.1.1
theorem Kf{xs:List Nd}{e:Tr×Nat}{R:FT}{p:Nat}(h:gP xs e.1 p):jT (opt e R)=e.1.mem++jT R:=by
 unfold opt
 split
 . rename_i a;rw[h.A7 a];rfl
 . rfl
theorem RX{xs ys:List Nd}{e:Tr×Nat}{R:FT}{p v u:Nat}(h:gP xs e.1 p):gW (gV ys (opt e R)) v u↔nK (gB ys false e.1) e.2 v u\/gW (gV ys R) v u:=by
 unfold opt
 split
 . rename_i a
   rw[h.A7 a]
   simp[gB,Kw]
 . simp only[gV,lV,gW.cons]
theorem Wl{xs:List Nd}{F R R' : FT}{a b B:Tr}{j q:Nat}(h:Fo xs ((.nd a j b,q) :: R))(Q:(fJ xs j).flip=false)(O:R.Perm (opt (B,j) R'))(D:gP xs B j) :
 Fo (lM xs j B.root) ((.nd a j B,q) :: opt (b,j) R')/\(∀ v u,gW (gV (lM xs j B.root) ((.nd a j B,q) :: opt (b,j) R')) v u↔gW (gV xs ((.nd a j b,q) :: R)) v u) /\
  gB (lM xs j B.root) false (.nd a j B)=gB xs false a++j :: gB xs false B/\(∀ k,k≠j->fJ (lM xs j B.root) k=fJ xs k)/\(fJ (lM xs j B.root) j).flip=false/\(∀ k,(fJ (lM xs j B.root) k).key=(fJ xs k).key)/\(lM xs j B.root).length=xs.length:=by
 have hT:=h.rep (.nd a j b,q) s_
 obtain⟨⟨H,jl⟩,⟨k0,k1,up⟩,v,ha,hb⟩:=hT
 obtain⟨n1,n2,n3⟩:=h.split
 simp only[Tr.mem]at n1 n3
 have S:(jT R).Perm (B.mem++jT R'):=by rw[<-Kf (e:=(B,j)) D];exact Sc O _
 have ad := S.nodup_iff.1 n2
 rw[zr]at ad
 obtain⟨nB,av, X⟩:=ad
 rw[zr,zu]at n1
 obtain⟨na,⟨aa,nb⟩,ae⟩:=n1
 have af:j∉a.mem:=fun h=>ae j h j s_ rfl
 have p:∀ k,k∈a.mem\/k=j\/k∈b.mem->k∉B.mem/\k∉jT R' := fun k c=>by
  have:=n3 k (by simpa using c)
  rw[S.mem_iff,zn,not_or]at this
  exact this
 have Y:=(p j (.inr (.inl rfl))).1
 have Z:=(p j (.inr (.inl rfl))).2
 obtain⟨s,L⟩:∃ x,x=fM (fM xs j (fun x=>{ x with iX:=IntKind.i64.wrap (x.iX+IntKind.i64.wrap ((fJ xs x.k1).total-(fJ xs B.root).total)) })) j (fun x=>{ x with k1:=B.root }):=⟨_,rfl⟩
 have al:lM xs j B.root=iQ s j:=by rw[L];rfl
 have W:s.length=xs.length:=by rw[L,gx,gx]
 obtain⟨lm,G⟩:∃ y,fJ s j={ fJ xs j with iX:=y,k1:=B.root }:=⟨_,by rw[L,jS (by rw[gx];exact jl),jS jl]⟩
 have I:∀ k,k≠j->fJ s k=fJ xs k:=fun k c=>by rw[L,kS (fun e=>c e.symm),kS (fun e=>c e.symm)]
 have ai:gP s a j:=ha.si W fun k c=>I k (fun e=>af (e▸c))
 have ah:gP s B j:=D.si W fun k c=>I k (fun e=>Y (e▸c))
 have T:(a.mem++j :: B.mem).Nodup:=by
  rw[zr,zu]
  refine⟨na,⟨Y,nB⟩,fun x g y f e=>?_⟩
  subst e
  rcases ze.1 f with rfl|f
  . exact af g
  . exact(p x (.inl g)).1 f
 have ab:∀ k∈a.mem++j :: B.mem,k≠0/\k<xs.length:=fun k c=>by
  simp only[zn,ze]at c
  rcases c with c|rfl|c
  . exact ha.qz k c
  . exact⟨H,jl⟩
  . exact D.qz k c
 have ak:(a.mem++j :: B.mem).length<=1000000:=by
  have t:=nodup_lt_length xs.length (0 :: (a.mem++j :: B.mem)) (zu.2 ⟨fun o=>(ab 0 o).1 rfl,T⟩) (fun k c=>by
   rcases ze.1 c with rfl|c
   . exact h.pos
   . exact(ab k c).2)
  have:=h.len
  simp only[zb]at t
  omega
 obtain⟨K,P⟩:=Bh (xs:=s) (i:=j) (l:=a) (r:=B) ⟨H,o_⟩ ai ah (by rw[G];exact k0) (by rw[G]) T ak
 rw[<-al]at K P
 rw[show (fJ s j).up=q by rw[G];exact up]at P
 have z:(lM xs j B.root).length=xs.length:=by rw[K.len,W]
 have J:∀ k,k≠j->fJ (lM xs j B.root) k=fJ xs k:=fun k c=>by rw[K.other k c,I k c]
 have E:∀ k,(fJ (lM xs j B.root) k).flip=(fJ xs k).flip:=fun k=>by
  rw[K.flip]
  by_cases e:k=j
  . subst e;rw[G]
  . rw[I k e]
 have ap:∀ k,(fJ (lM xs j B.root) k).key=(fJ xs k).key:=fun k=>by
  rw[K.kl.key]
  by_cases e:k=j
  . subst e;rw[G]
  . rw[I k e]
 have aq:gB (lM xs j B.root) false B=gB xs false B:=vi fun k _=>E k
 have ar:gB (lM xs j B.root) false a=gB xs false a:=vi fun k _=>E k
 have au:gB (lM xs j B.root) false b=gB xs false b:=vi fun k _=>E k
 have ac:gB (lM xs j B.root) false (.nd a j B)=gB xs false a++j :: gB xs false B:=by
  simp only[gB,E,Q,DE,cond_false,ar,aq]
 have aj:gP (lM xs j B.root) b j:=hb.si z fun k c=>J k (fun e=>aa (e▸c))
 obtain⟨ρ,r1,r2⟩:=h.s8
 have rT:∀ k,k∈a.mem\/k=j\/k∈b.mem->ρ k=ρ j:=fun k c=>r1 (.nd a j b,q) s_ k (by simpa[Tr.mem]using c) j (by simp[Tr.mem])
 have A:∀ e,e∈R↔(B.root≠0/\e=(B,j))\/e∈R' := fun e=>by rw[O.mem_iff,p6]
 have rB:∀ k∈B.mem,ρ k<ρ j:=fun k c=>by
  by_cases e0:B.root=0
  . rw[D.A7 e0]at c;simp[Tr.mem]at c
  . exact r2 (B,j) (oS _ ((A _).2 (.inl ⟨e0,rfl⟩))) H k c
 refine⟨⟨fun e d=>?_,fun e d=>?_,?_,fun k o c=>?_,fun e d=>?_,?_,?_,by rw[z];exact h.pos,by rw[z];exact h.len⟩,fun v' m => ?_,ac,J,by rw[E];exact Q,ap,z⟩
 . rcases ze.1 d with rfl|d
   . exact P
   . rcases p6.1 d with ⟨_,rfl⟩|d
     . exact aj
     . exact(h.rep e (oS _ ((A e).2 (.inr d)))).si z fun k c=>J k (fun e' => Z (e' ▸ oL d c))
 . rcases ze.1 d with rfl|d
   . exact H
   . rcases p6.1 d with ⟨o,rfl⟩|d
     . exact o
     . exact h.ne e (oS _ ((A e).2 (.inr d)))
 . simp only[jT,z7]
   show ((Tr.nd a j B).mem++jT (opt (b,j) R')).Nodup
   rw[Kf (e:=(b,j)) hb,zr,zr]
   refine⟨T,⟨nb,av, fun x g y f e=>(p x (.inr (.inr g))).2 (e▸f)⟩,fun x g y f e=>?_⟩
   subst e
   simp only[Tr.mem,zn,ze]at g f
   rcases f with f|f
   . rcases g with g|rfl|g
     . exact ae x g x (by simp[f]) rfl
     . exact aa f
     . exact(p x (.inr (.inr f))).1 g
   . rcases g with g|rfl|g
     . exact(p x (.inl g)).2 f
     . exact Z f
     . exact X x g x f rfl
 . rw[z]at c
   have t:=h.all k o c
   have C:k∈(Tr.nd a j b).mem\/k∈jT R:=by simpa[jT,z7]using t
   rw[S.mem_iff]at C
   show k∈(Tr.nd a j B).mem++jT (opt (b,j) R')
   rw[Kf (e:=(b,j)) hb]
   simp only[Tr.mem,zn,ze]at C ⊢
   rcases C with (h|h|h)|h|h<;>simp[h]
 . rw[z]
   rcases ze.1 d with rfl|d
   . exact h.par (.nd a j b,q) s_
   . rcases p6.1 d with ⟨_,rfl⟩|d
     . exact jl
     . exact h.par e (oS _ ((A e).2 (.inr d)))
 . have N:∀ k,k∈b.mem->k∉B.mem:=fun k t=>(p k (.inr (.inr t))).1
   obtain⟨σ,n⟩:∃ σ:Nat->Nat,∀ k,σ k=if k∈B.mem then 2*ρ j+1 else if k∈b.mem then 2*ρ j else 2*ρ k+1:=⟨_,fun _=>rfl⟩
   refine⟨σ,fun e d=>?_,fun e d o=>?_⟩
   . rcases ze.1 d with rfl|d
     . have key:∀ k∈(Tr.nd a j B).mem,σ k=2*ρ j+1:=fun k c=>by
        rw[n]
        simp only[Tr.mem,zn,ze]at c
        by_cases hkB:k∈B.mem
        . rw[if_pos hkB]
        . grind
       intro i hi k c
       rw[key i hi,key k c]
     . rcases p6.1 d with ⟨_,rfl⟩|d
       . intro i hi k c
         simp only at hi c
         rw[n,n,if_neg (N i hi),if_pos hi,if_neg (N k c),if_pos c]
       . intro i hi k c
         have M:∀ y∈e.1.mem,y∉B.mem/\y∉b.mem:=fun y f=>⟨fun w => X y w y (oL d f) rfl,fun w => (p y (.inr (.inr w))).2 (oL d f)⟩
         rw[n,n,if_neg (M i hi).1,if_neg (M i hi).2,if_neg (M k c).1,if_neg (M k c).2,r1 e (oS _ ((A e).2 (.inr d))) i hi k c]
   . rcases ze.1 d with rfl|d
     . simp only at o
       have V:=r2 (.nd a j b,q) s_ o
       have q1:q∉B.mem:=fun U=>by have:=rB q U;have:=V j (by simp[Tr.mem]);simp only at this;omega
       have q2:q∉b.mem:=fun U=>by have:=rT q (.inr (.inr U));have:=V j (by simp[Tr.mem]);simp only at this;omega
       intro i hi
       simp only
       rw[n i,n q,if_neg q1,if_neg q2]
       have ao := V j (by simp[Tr.mem])
       simp only at ao
       simp only[Tr.mem,zn,ze]at hi
       by_cases hiB:i∈B.mem
       . rw[if_pos hiB];omega
       . rw[if_neg hiB]
         split
         . omega
         . have:ρ i=ρ j:=rT i (by rcases hi with h|h|h;exact .inl h;exact .inr (.inl h);exact absurd h hiB)
           omega
     . rcases p6.1 d with ⟨_,rfl⟩|d
       . intro i hi
         simp only at hi ⊢
         rw[n,n,if_neg (N i hi),if_pos hi,if_neg Y,if_neg aa];omega
       . intro i hi
         have am:i∉B.mem:=fun w => X i w i (oL d hi) rfl
         have an:i∉b.mem:=fun w => (p i (.inr (.inr w))).2 (oL d hi)
         have aw := r2 e (oS _ ((A e).2 (.inr d))) o i hi
         rw[n,n,if_neg am,if_neg an]
         by_cases hqB:e.2∈B.mem
         . have:=rB _ hqB;rw[if_pos hqB];omega
         . rw[if_neg hqB]
           by_cases hqb:e.2∈b.mem
           . have:=rT _ (.inr (.inr hqb));rw[if_pos hqb];omega
           . rw[if_neg hqb];omega
 . rw[J 0 (fun e=>H e.symm)];exact h.zero
 . have hs:gV (lM xs j B.root) R' = gV xs R' := K9 fun k c=>J k (fun e=>Z (e▸c))
   have e1:gW (gV (lM xs j B.root) ((.nd a j B,q) :: opt (b,j) R')) v' m ↔ nK (gB xs false a++j :: gB xs false B) q v' m \/ nK (gB xs false b) j v' m \/ gW (gV xs R') v' m := by
    have:=RX (ys:=lM xs j B.root) (e:=(b,j)) (R:=R') (v:=v') (u:=m) hb
    simp only[gV,lV]at this ⊢
    rw[gW.cons,ac,this]
    simp only[gV]at hs
    rw[au,hs]
   have ag : gW (gV xs ((.nd a j b,q) :: R)) v' m ↔ nK (gB xs false a++j :: gB xs false b) q v' m \/ nK (gB xs false B) j v' m \/ gW (gV xs R') v' m := by
    have t:gB xs false (.nd a j b)=gB xs false a++j :: gB xs false b:=by simp only[gB,Q,DE,cond_false]
    have C:gW (gV xs R) v' m ↔ gW (gV xs (opt (B,j) R')) v' m := gW.perm (O.map _)
    have h3:=RX (ys:=xs) (e:=(B,j)) (R:=R') (v:=v') (u:=m) D
    have h4:gW (gV xs ((.nd a j b,q) :: R)) v' m ↔ nK (gB xs false (.nd a j b)) q v' m \/ gW (gV xs R) v' m := by simp only[gV,lV,gW.cons]
    rw[h4,t,C,h3]
   rw[e1,ag, RU,RU,sX,sX]
   constructor
   . rintro((h|h|h)|h|h)<;>simp[h]
   . rintro((h|h|h)|h|h)<;>simp[h]
end Go.Sx
namespace Go.Sx
open Go
inductive tB (F:FT):Nat->Nat->Prop where
 | zero:tB F 0 0
 | step {T:Tr} {q j m:Nat} (he:(T,q)∈F) (hj:j∈T.mem) (h0:j≠0) (k:tB F q m):tB F j (m+1)
theorem tB.mono{F F' : FT}{ρ:Nat->Nat}{c:Nat}(g:(∀ e∈F,∀ i∈e.1.mem,∀ j∈e.1.mem,ρ i=ρ j)/\∀ e∈F,e.2≠0->∀ i∈e.1.mem,ρ i<ρ e.2)
 (l:∀ e∈F,(∀ i∈e.1.mem,c<ρ i)->e∈F') {q m:Nat} (h:tB F q m):(q=0\/c<ρ q)->tB F' q m:=by
 induction h with
 | zero=>intro _;exact .zero
 | @step T q j m b d f k n =>
  intro a
  have a:c<ρ j:=by rcases a with e|e;exact absurd e f;exact e
  refine .step (l _ b fun i hi=>?_) d f (n ?_)
  . rw[g.1 _ b i hi j d];exact a
  . by_cases hq:q=0
    . exact .inl hq
    . exact .inr (Nat.lt_trans a (g.2 _ b hq j d))
theorem PU(ρ:Nat->Nat):∀ n,∃ M,∀ k,k<n->ρ k<=M
 | 0=>⟨0,fun k a=>absurd a o_⟩
 | n+1=>by
  obtain⟨M,b⟩:=PU ρ n
  refine⟨max M (ρ n),fun k a=>?_⟩
  by_cases e:k=n
  . subst e;omega
  . have:=b k o_;omega
theorem Fo.dep{xs:List Nd}{F:FT}(h:Fo xs F){j:Nat}(b:j<xs.length):∃ m,tB F j m:=by
 obtain⟨ρ,k,d⟩:=h.s8
 obtain⟨M,c⟩:=PU ρ xs.length
 have key:∀ n j,j<xs.length->M-ρ j<=n->∃ m,tB F j m:=by
  intro n
  induction n with
  | zero =>
   intro j b g
   by_cases h0:j=0
   . subst h0;exact⟨0,.zero⟩
   . obtain⟨e,a,hm⟩:=rE.1 (h.all j h0 b)
     by_cases hq:e.2=0
     . exact⟨1,.step (T:=e.1) (q:=e.2) a hm h0 (by rw[hq];exact .zero)⟩
     . have a1:=d e a hq j hm
       have a2:=c e.2 (h.par e a)
       have a3:=c j b
       omega
  | succ n i =>
   intro j b g
   by_cases h0:j=0
   . subst h0;exact⟨0,.zero⟩
   . obtain⟨e,a,hm⟩:=rE.1 (h.all j h0 b)
     by_cases hq:e.2=0
     . exact⟨1,.step (T:=e.1) (q:=e.2) a hm h0 (by rw[hq];exact .zero)⟩
     . have a1:=d e a hq j hm
       have a2:=c e.2 (h.par e a)
       obtain⟨m,f⟩:=i e.2 (h.par e a) o_
       exact⟨m+1,.step (T:=e.1) (q:=e.2) a hm h0 f⟩
 exact key _ j b (zj _)
theorem Fo.YK{xs:List Nd}{F:FT}(h:Fo xs F){e f:Tr×Nat}(d:e∈F)(a:f∈F){j:Nat}(h1:j∈e.1.mem)(c:j∈f.1.mem):e=f:=by
 obtain⟨s,t,rfl⟩:=BE d
 have hp:(s++e :: t).Perm (e :: (s++t)):=uz
 have b := h.perm hp
 rcases ze.1 (hp.mem_iff.1 a)with e' | a
 . exact e'.symm
 . exact absurd (oL a c) (b.split.2.2 j h1)
structure Ex (xs0:List Nd) (F0:FT) (i:Nat) (xs:List Nd) (below j m:Nat) (R:FT) (B:Tr):Prop where
 fo:Fo xs (opt (B,j) R)
 rep:gP xs B j
 root:B.root=below
 start:below=0->j=i
 last:below≠0->(gB xs false B).getLast? = some i
 dep:tB (opt (B,j) R) j m
 par:∀ v u,gW (gV xs (opt (B,j) R)) v u↔gW (gV xs0 F0) v u
 key:∀ k,(fJ xs k).key=(fJ xs0 k).key
 len:xs.length=xs0.length
 lt:j<xs.length
 De:∀ T0,(T0,0)∈F0->((T0,0)∈R/\∀ k∈T0.mem,fJ xs k=fJ xs0 k)\/(j=0/\below≠0/\(gB xs false B).head? = (gB xs0 false T0).head?)
theorem Ex.init{xs:List Nd}{F:FT}{i:Nat}(h:Fo xs F)(hi:i<xs.length):∃ m,Ex xs F i xs 0 i m F .nil:=by
 obtain⟨m,hm⟩:=h.dep hi
 exact⟨m,h,trivial,rfl,fun _=>rfl,fun e=>absurd rfl e,hm,fun _ _=>Iff.rfl,fun _=>rfl,rfl,hi,fun b a=>.inl ⟨a,fun _ _=>rfl⟩⟩
theorem Sd{α:Type}{x:α}{l:List α}(h:x∈l):∃ r,l.Perm (x :: r):=by
 obtain⟨s,t,rfl⟩:=BE h
 exact⟨s++t,uz⟩
theorem acE{e f:Tr×Nat}{R R' : FT}(h:R.Perm (f :: R')):(opt e R).Perm (f :: opt e R'):=by
 unfold opt
 split
 . exact h
 . exact(h.cons e).trans (List.Perm.swap _ _ _)
theorem Ex.go{D xs:List Nd}{E R:FT}{i below j m:Nat}{B:Tr}(h:Ex D E i xs below j m R B)(g:j≠0) :
 ∃ T q,gP xs T q/\j∈T.mem/\T.mem.Nodup/\T.mem.length<=1000000/\Out xs q T.mem/\∀ ys a b,jG xs ys T [] (.nd a j b) q->(fJ ys j).flip=false ->
  (fJ (lM ys j below) j).up=q/\(∀ k,k≠j->fJ (lM ys j below) k=fJ ys k)/\∃ t R', m=t + 1/\Ex D E i (lM ys j below) j q t R' (.nd a j B):=by
 cases hd:h.dep with
 | zero=>exact absurd rfl g
 | @step T q _ t s o _ Z =>
  -- the entry lies in R
  have X:(T,q)∈R:=by
   rcases p6.1 s with ⟨d,e⟩|s
   . obtain⟨ρ,_,r2⟩:=h.fo.s8
     cases e
     have:=r2 (B,j) (p6.2 (.inl ⟨d,rfl⟩)) g j o
     simp at this
   . exact s
  obtain⟨R2,hp⟩:=Sd X
  have C:(opt (B,j) R).Perm ((T,q) :: opt (B,j) R2):=acE hp
  have f:=h.fo.perm C
  refine⟨T,q,f.rep (T,q) s_,o,f.split.1,f.count,f.out,fun ys a b hm K=>?_⟩
  obtain⟨U,s1,N⟩:=f.Ti hm
  have W:gP ys B j:=by
   by_cases d:B.root=0
   . rw[h.rep.A7 d];trivial
   . exact h.rep.si hm.kl.len fun k l => N (B,j) (p6.2 (.inl ⟨d,rfl⟩)) k l
  have c:=Wl (F:=[]) U K (List.Perm.refl _) W
  obtain⟨p,G,w,x,P,H,y⟩:=c
  rw[h.root]at p G w x P H y
  have ab:gB ys false B=gB xs false B:=by
   by_cases d:B.root=0
   . rw[h.rep.A7 d];rfl
   . exact Lj fun k l => N (B,j) (p6.2 (.inl ⟨d,rfl⟩)) k l
  have aa:q<xs.length:=f.par (T,q) s_
  have ac:(fJ (lM ys j below) j).up=q:=(p.rep (.nd a j B,q) s_).2.1.2.2
  have A:opt (Tr.nd a j B,q) (opt (b,j) R2)=(Tr.nd a j B,q) :: opt (b,j) R2:=if_neg g
  refine⟨ac,x,t, opt (b,j) R2,rfl,⟨by rw[A];exact p,p.rep (.nd a j B,q) s_,rfl,fun e=>absurd e g,fun _=>?_,?_,fun v u=>?_,fun k=>?_,by rw[y,hm.kl.len,h.len],by rw[y,hm.kl.len];exact aa,fun O Y=>?_⟩⟩
  . rw[w,ab]
    by_cases hb:below=0
    . have V:B = .nil:=h.rep.A7 (h.root.trans hb)
      rw[V,h.start hb]
      simp[gB]
    . have:=h.last hb
      rw[List.getLast?_append,DA,this]
      simp
  . rw[A]
    obtain⟨ρ,r1,r2⟩:=h.fo.s8
    refine tB.mono (c:=ρ j) ⟨r1,r2⟩ (fun e n J=>?_) Z ?_
    . rcases ze.1 (C.mem_iff.1 n)with rfl|n
      . exact absurd (J j o) o_
      . rcases p6.1 n with ⟨d,rfl⟩|n
        . have M:=h.rep.nq d
          have r:=r2 (B,j) (p6.2 (.inl ⟨d,rfl⟩)) g _ M
          have h4:=J _ M
          simp only at r
          omega
        . exact oS _ (p6.2 (.inr n))
    . by_cases hq:q=0
      . exact .inl hq
      . exact .inr (r2 (T,q) s hq j o)
  . rw[A,G,s1,<-h.par]
    exact gW.perm (C.symm.map _)
  . rw[H,hm.kl.key,h.key]
  . rcases h.De O Y with ⟨z,I⟩|⟨z,_⟩
    . rcases ze.1 (hp.mem_iff.1 z)with e|r
      . cases e
        refine .inr ⟨rfl,g,?_⟩
        have e1:gB ys false (.nd a j b)=gB xs false T:=hm.ord false
        have Q:gB ys false (.nd a j b)=gB ys false a++j :: gB ys false b:=by simp only[gB,K,DE,cond_false]
        have S:gB xs false T=gB D false T:=Lj I
        rw[w,<-S,<-e1,Q]
        cases gB ys false a<;>simp
      . refine .inl ⟨p6.2 (.inr r),fun k l => ?_⟩
        have L:k∉T.mem:=fun ht=>by
         have hn:=f.split.2.2 k ht
         exact hn (oL (p6.2 (.inr r)) l)
        rw[x k (fun e=>L (e▸o)),hm.other k L,I k l]
    . exact absurd z g
theorem Ex.fin{d xs:List Nd}{j R:FT}{i below m:Nat}{B:Tr}(h:Ex d j i xs below 0 m R B)(hi:i≠0) :
 gP xs B 0/\i∈B.mem/\B.mem.Nodup/\B.mem.length<=1000000/\Out xs 0 B.mem/\∀ ys a b,jG xs ys B [] (.nd a i b) 0->(fJ ys i).flip=false ->
  b = .nil/\Fo ys ((.nd a i .nil,0) :: R)/\(∀ v u,gW (gV ys ((.nd a i .nil,0) :: R)) v u↔gW (gV d j) v u)/\(∀ k,(fJ ys k).key=(fJ d k).key)/\ys.length=d.length /\
   (∀ c,(c,0)∈j->((c,0)∈R/\∀ k∈c.mem,fJ ys k=fJ d k)\/(gB ys false (.nd a i .nil)).head? = (gB d false c).head?):=by
 have hb:below≠0:=fun e=>hi (h.start e).symm
 have w:B.root≠0:=by rw[h.root];exact hb
 have q:opt (B,0) R=(B,0) :: R:=if_neg w
 have g:=h.fo
 rw[q]at g
 have f:=h.last hb
 have D:i∈B.mem:=(oP xs false B).mem_iff.1 (GU f)
 refine⟨h.rep,D,g.split.1,g.count,.inl rfl,fun ys a b hm C=>?_⟩
 obtain⟨l,s1,F⟩:=g.Ti hm
 have e1:gB ys false (.nd a i b)=gB xs false B:=hm.ord false
 have r:gB ys false (.nd a i b)=gB ys false a++i :: gB ys false b:=by simp only[gB,C,DE,cond_false]
 have z:b = .nil:=by
  rw[<-e1,r,List.getLast?_append,DA]at f
  have A:gB ys false b=[]:=by
   cases hl:(gB ys false b).getLast? with
   | none=>exact Mi.1 hl
   | some x =>
    rw[hl]at f
    simp at f
    subst f
    have E:x∈b.mem:=(oP ys false b).mem_iff.1 (GU hl)
    have p:=l.split.1
    simp only[Tr.mem,zr,zu]at p
    exact absurd E p.2.1.1
  have:=(oP ys false b).length_eq
  rw[A]at this
  cases b with
  | nil=>rfl
  | nd _ _ _=>simp[Tr.mem]at this
 subst z
 refine⟨rfl,l,fun v u=>?_,fun k=>?_,by rw[hm.kl.len,h.len],fun c y=>?_⟩
 . rw[s1,<-h.par,q]
 . rw[hm.kl.key,h.key]
 . rcases h.De c y with ⟨n,s⟩|⟨_,_,t⟩
   . exact .inl ⟨n,fun k o=>by rw[F (c,0) n k o,s k o]⟩
   . exact .inr (by rw[e1];exact t)
end Go.Sx
namespace Go.Sx
open Go
theorem Li(xs:List Nd):∀ (t:Tr) (φ:Bool),gB xs (!φ) t=(gB xs φ t).reverse
 | .nil,_=>rfl
 | .nd l i r,φ=>by
  have e:xor (!φ) (fJ xs i).flip = !(xor φ (fJ xs i).flip):=by cases φ<;>cases (fJ xs i).flip<;>rfl
  simp only[gB,e,Li xs l,Li xs r]
  cases xor φ (fJ xs i).flip<;>simp
theorem K8{xs:List Nd}{F:FT}(h:(jT F).Nodup):(yH (gV xs F)).Nodup:=by
 have hp:(yH (gV xs F)).Perm (jT F):=by
  unfold yH gV jT
  rw[List.flatMap_map]
  clear h
  induction F with
  | nil=>exact .nil
  | cons e F a=>simp only[z7];exact((oP xs false e.1).append_right _).trans (a.append_left _)
 exact hp.nodup_iff.2 h
theorem Fo.sY{xs:List Nd}{F:FT}(h:Fo xs F){v u a : Nat}(h1:gW (gV xs F) v u)(b:gW (gV xs F) v a):u=a := Go.Sx.sY (K8 h.nodup) h1 b
theorem Fo.yS{xs:List Nd}{F:FT}(h:Fo xs F){T:Tr}{q:Nat}(a:(T,q)∈F):∀ x∈gB xs false T,x≠0:=fun x b=>((h.rep (T,q) a).qz x ((oP xs false T).mem_iff.1 b)).1
theorem Fo.below{xs:List Nd}{F:FT}(h:Fo xs F){T:Tr}(a:(T,0)∈F){v r:Nat}(hv:v∈T.mem)(b:(gB xs false T).head? = some r):PR (gW (gV xs F)) v r :=
 (PR.EU (q:=0) b (h.yS a) (fun v u hp=>⟨(gB xs false T,0),zy.2 ⟨(T,0),a,rfl⟩,hp⟩) ((oP xs false T).mem_iff.2 hv)).1 rfl
structure kU (xs0:List Nd) (F0:FT) (ys:List Nd) (i:Nat) (a:Tr) (R:FT):Prop where
 fo:Fo ys ((.nd a i .nil,0) :: R)
 flip:(fJ ys i).flip=false
 par:∀ v u,gW (gV ys ((.nd a i .nil,0) :: R)) v u↔gW (gV xs0 F0) v u
 key:∀ k,(fJ ys k).key=(fJ xs0 k).key
 len:ys.length=xs0.length
 De:∀ T0,(T0,0)∈F0->((T0,0)∈R/\∀ k∈T0.mem,fJ ys k=fJ xs0 k)\/(gB ys false (.nd a i .nil)).head? = (gB xs0 false T0).head?
theorem kU.seq{c ys:List Nd}{b R:FT}{i:Nat}{a:Tr}(h:kU c b ys i a R):gB ys false (.nd a i .nil)=gB ys false a++[i]:=by
 simp only[gB,h.flip,DE,cond_false]
theorem kU.head{c ys:List Nd}{b R:FT}{i:Nat}{a:Tr}(h:kU c b ys i a R):∃ r,(gB ys false (.nd a i .nil)).head? = some r/\r∈(Tr.nd a i .nil).mem:=by
 have hm:i∈gB ys false (.nd a i .nil):=by rw[h.seq];simp
 cases hs:gB ys false (.nd a i .nil)with
 | nil=>rw[hs]at hm;simp at hm
 | cons r l=>exact⟨r,rfl,(oP ys false (.nd a i .nil)).mem_iff.1 (by rw[hs];simp)⟩
theorem kU.top{c ys:List Nd}{b R:FT}{i:Nat}{a:Tr}(h:kU c b ys i a R){r:Nat}(d:(gB ys false (.nd a i .nil)).head? = some r){v:Nat}(hv:v∈(Tr.nd a i .nil).mem):PR (gW (gV c b)) v r :=
 (h.fo.below (T:=.nd a i .nil) s_ hv d).mono fun v u hp=>(h.par v u).1 hp
def kB(ys:List Nd)(i:Nat):List Nd:=fM ys i (fun x=>{ x with flip:=true })
theorem E6{s ys:List Nd}{m R:FT}{i:Nat}{a:Tr}(h:kU s m ys i a R) :
 Fo (kB ys i) ((.nd a i .nil,0) :: R)/\gB (kB ys i) false (.nd a i .nil)=(gB ys false (.nd a i .nil)).reverse/\gV (kB ys i) R=gV ys R/\(kB ys i).length=ys.length/\(∀ k,k≠i->fJ (kB ys i) k=fJ ys k)/\∀ k,(fJ (kB ys i) k).key=(fJ ys k).key:=by
 obtain⟨n1,t,r⟩:=h.fo.split
 have g:=h.fo.rep (.nd a i .nil,0) s_
 have il:=g.1.2
 have i0:=g.1.1
 have ll:(kB ys i).length=ys.length:=gx
 have l:fJ (kB ys i) i={ fJ ys i with flip:=true }:=jS il
 have c:∀ k,k≠i->fJ (kB ys i) k=fJ ys k:=fun k b=>kS (fun e=>b e.symm)
 have j:∀ k,∃ f,fJ (kB ys i) k={ fJ ys k with flip:=f }:=fun k=>by
  by_cases e:k=i
  . subst e;exact⟨true,l⟩
  . exact⟨(fJ ys k).flip,by rw[c k e]⟩
 have p:i∈(Tr.nd a i .nil).mem:=by simp[Tr.mem]
 have o:∀ k∈jT R,fJ (kB ys i) k=fJ ys k:=fun k b=>c k (fun e=>r i p (e▸b))
 obtain⟨ρ,r1,r2⟩:=h.fo.s8
 refine⟨⟨fun e d=>(h.fo.rep e d).Gd ll fun k _=>j k,h.fo.ne,h.fo.nodup,fun k n b=>h.fo.all k n (by rw[ll]at b;exact b),fun e d=>by rw[ll];exact h.fo.par e d,⟨ρ,r1,r2⟩,by rw[c 0 (fun e=>i0 e.symm)];exact h.fo.zero,by rw[ll];exact h.fo.pos,by rw[ll];exact h.fo.len⟩,?_,K9 o,ll,c,fun k=>?_⟩
 . rw[<-Li]
   refine Tl ?_ fun k b=>?_
   . rw[l,h.flip];rfl
   . have:k≠i:=fun e=>by
      subst e
      simp only[Tr.mem,zr,zu]at n1
      have q : k∈a.mem:=by simpa[Tr.mem]using b
      exact n1.2.2 k q k s_ rfl
     rw[c k this]
 . obtain⟨f,e⟩:=j k
   rw[e]
theorem PR.adW{S:vG}{s s' : List Nat}(j:(yH ((s,0) :: S)).Nodup)(d:∀ x∈s', x≠0)(hp:s'.Perm s){a r:Nat}(f:s'.head? = some a)(c:r∈s){v:Nat}(k:PR (gW ((s,0) :: S)) v r):PR (gW ((s', 0) :: S)) v a:=by
 have key:∀ v∈s,PR (gW ((s', 0) :: S)) v a:=fun v hv=>(PR.EU (q:=0) f d (fun v u g => gW.cons.2 (.inl g)) (hp.mem_iff.2 hv)).1 rfl
 induction k with
 | top h=>exact key _ c
 | @step v u r h e _ i =>
  by_cases hv:v∈s
  . exact key v hv
  . rcases gW.cons.1 h with b|b
    . exact absurd (wK b) hv
    . exact .step (gW.cons.2 (.inr b)) e (i c)
theorem PR.apart{S:vG}{s s' : List Nat}(m:(yH ((s,0) :: S)).Nodup)(f:∀ x∈s,x≠0){r:Nat}(b:r∉s){v:Nat}(k:PR (gW ((s,0) :: S)) v r):v∉s/\PR (gW ((s', 0) :: S)) v r:=by
 have j:∀ v∈s,∃ h,h∈s/\PR (gW ((s,0) :: S)) v h:=fun v hv=>by
  cases s with
  | nil=>simp at hv
  | cons x l=>exact⟨x,s_,(PR.EU (q:=0) rfl f (fun v u n => gW.cons.2 (.inl n)) hv).1 rfl⟩
 have o:∀ v u d, gW ((s,0) :: S) v u->gW ((s,0) :: S) v d -> u=d := fun v u d a g=>Go.Sx.sY m a g
 have c:∀ {v},PR (gW ((s,0) :: S)) v r->v∉s:=fun {v} k hv=>by
  obtain⟨h,i,k'⟩:=j v hv
  exact b ((PR.unique o k k')▸i)
 refine⟨c k,?_⟩
 induction k with
 | top h =>
  rcases gW.cons.1 h with a|a
  . exact absurd (wK a) b
  . exact .top (gW.cons.2 (.inr a))
 | step h e k p =>
  rcases gW.cons.1 h with a|a
  . exact absurd (wK a) (c (.step h e k))
  . exact .step (gW.cons.2 (.inr a)) e (p b c)
structure MB (ys:List Nd) (i:Nat) (a:Tr) (R:FT):Prop where
 fo:Fo ys ((.nd a i .nil,0) :: R)
 head:(gB ys false (.nd a i .nil)).head? = some i
theorem kU.CG{e ys:List Nd}{b R:FT}{i:Nat}{a:Tr}(h:kU e b ys i a R):MB (kB ys i) i a R:=by
 obtain⟨c,d,_⟩:=E6 h
 refine⟨c,?_⟩
 rw[d,h.seq]
 simp
theorem kU.aa2{c ys:List Nd}{b R:FT}{i:Nat}{a:Tr}(h:kU c b ys i a R){v r:Nat}(hv:PR (gW (gV c b)) v r)(hi:PR (gW (gV c b)) i r)(k:∀ v u f, gW (gV c b) v u->gW (gV c b) v f -> u=f) :
 PR (gW (gV (kB ys i) ((.nd a i .nil,0) :: R))) v i:=by
 obtain⟨n,o,p,_⟩:=E6 h
 obtain⟨m, j, hm⟩:=h.head
 have e:m = r:=PR.unique k (h.top j (by simp[Tr.mem])) hi
 subst e
 have g:gV (kB ys i) ((.nd a i .nil,0) :: R)=((gB ys false (.nd a i .nil)).reverse,0) :: gV ys R:=by
  grind [gV]
 have d:gV ys ((.nd a i .nil,0) :: R)=(gB ys false (.nd a i .nil),0) :: gV ys R:=rfl
 rw[g]
 refine PR.adW (s:=gB ys false (.nd a i .nil)) (by rw[<-d];exact K8 h.fo.nodup) (fun x l=>?_) (List.reverse_perm _) (by rw[h.seq];simp) ((oP ys false (.nd a i .nil)).mem_iff.2 hm) (by rw[<-d];exact hv.mono fun v u hp=>(h.par v u).2 hp)
 exact h.fo.yS (T:=.nd a i .nil) (q:=0) s_ x (List.mem_reverse.1 l)
theorem kU.aa3{c ys:List Nd}{b R:FT}{i:Nat}{a:Tr}(h:kU c b ys i a R){v r d : Nat}(hv:PR (gW (gV c b)) v r)(hi:PR (gW (gV c b)) i d)(n:r≠d)(j:∀ v u k, gW (gV c b) v u->gW (gV c b) v k -> u=k) :
 PR (gW (gV (kB ys i) ((.nd a i .nil,0) :: R))) v r/\r∉(Tr.nd a i .nil).mem:=by
 obtain⟨o,p,t,_⟩:=E6 h
 have g:r∉(Tr.nd a i .nil).mem:=fun hm=>by
  obtain⟨r2,f,_⟩:=h.head
  have e1:r2=d := PR.unique j (h.top f (by simp[Tr.mem])) hi
  have l:r2=r:=PR.unique j (h.top f hm) (.top hv.root)
  exact n (l.symm.trans e1)
 have m:gV (kB ys i) ((.nd a i .nil,0) :: R)=((gB ys false (.nd a i .nil)).reverse,0) :: gV ys R:=by
  grind [gV]
 have e:gV ys ((.nd a i .nil,0) :: R)=(gB ys false (.nd a i .nil),0) :: gV ys R:=rfl
 rw[m]
 exact⟨(PR.apart (s:=gB ys false (.nd a i .nil)) (s' := (gB ys false (.nd a i .nil)).reverse) (by rw[<-e];exact K8 h.fo.nodup) (h.fo.yS (T:=.nd a i .nil) (q:=0) s_) (fun hm=>g ((oP ys false (.nd a i .nil)).mem_iff.1 hm)) (by rw[<-e];exact hv.mono fun v u hp=>(h.par v u).2 hp)).2,g⟩
def Joined(xs:List Nd)(F:FT)(a b:Nat):Prop:=∃ r,PR (gW (gV xs F)) a r/\PR (gW (gV xs F)) b r
theorem kU.joined{e ys:List Nd}{d R:FT}{i:Nat}{a:Tr}(h:kU e d ys i a R)(u v:Nat):Joined ys ((.nd a i .nil,0) :: R) u v↔Joined e d u v :=
 ⟨fun⟨r,b,c⟩=>⟨r,b.mono fun v u=>(h.par v u).1,c.mono fun v u=>(h.par v u).1⟩,fun⟨r,b,c⟩=>⟨r,b.mono fun v u=>(h.par v u).2,c.mono fun v u=>(h.par v u).2⟩⟩
theorem QI{o xs ys:List Nd}{n R R' : FT}{i j:Nat}{a b:Tr}(h:kU o n xs i a R)(k:kU xs ((.nd a i .nil,0) :: R) ys j b R')(U:i≠j):(fJ ys i).up≠0↔Joined o n i j:=by
 have F:=h.fo
 obtain⟨r,I,aa⟩:=h.head
 obtain⟨t, J, V⟩:=k.head
 have E:PR (gW (gV o n)) i r:=h.top I (by simp[Tr.mem])
 have L:PR (gW (gV o n)) j t := (k.top J (by simp[Tr.mem])).mono fun v u=>(h.par v u).1
 have C:∀ v u w, gW (gV o n) v u->gW (gV o n) v w -> u=w := fun v u w m p=>h.fo.sY ((h.par v u).2 m) ((h.par v w).2 p)
 constructor
 . intro D
   rcases k.De (.nd a i .nil) s_ with ⟨m,p⟩|m
   . have O:=k.fo.rep (.nd a i .nil,0) (oS _ m)
     exact absurd O.2.1.2.2 D
   . rw[I,J]at m
     simp only[Option.some.injEq]at m
     subst m
     exact⟨t, E,L⟩
 . rintro⟨r2,m,p⟩ D
   have e1:r=r2:=PR.unique C E m
   have M:t = r2:=PR.unique C L p
   have Y:i<ys.length:=by rw[k.len];exact(F.rep (.nd a i .nil,0) s_).1.2
   have i0:i≠0:=(F.rep (.nd a i .nil,0) s_).1.1
   obtain⟨e,B,hm⟩:=rE.1 (k.fo.all i i0 Y)
   -- i is the root of fQ tree,which hangs from nothing
   have K:=k.fo.rep e B
   obtain⟨c,x,y,A⟩:=Fj hm
   rw[A]at K
   obtain⟨Q,P⟩:=(yM _ _ _).1 K
   have G:wJ c e.2=0:=by rw[<-Q.2.1.2.2];exact D
   have S:c=[]:=by
    cases c with
    | nil=>rfl
    | cons f c' => obtain⟨d,g,s⟩:=f;exact absurd G P.1.1
   subst S
   have H:e.2=0:=G
   obtain⟨T,q⟩:=e
   simp only[j9]at A H hm
   subst H
   subst A
   have hd:∃ z,(gB ys false (.nd x i y)).head? = some z/\z∈(Tr.nd x i y).mem:=by
    have:(gB ys false (.nd x i y)).length=(Tr.nd x i y).mem.length:=(oP ys false _).length_eq
    cases hs:gB ys false (.nd x i y)with
    | nil=>rw[hs]at this;simp[Tr.mem]at this
    | cons z l=>exact⟨z,rfl,(oP ys false (.nd x i y)).mem_iff.1 (by rw[hs];simp)⟩
   obtain⟨z,W,X⟩:=hd
   have Z:PR (gW (gV o n)) i z:=(k.fo.below B hm W).mono fun v u hp=>(h.par v u).1 ((k.par v u).1 hp)
   have N:z=t := (PR.unique C Z E).trans (e1.trans M.symm)
   have:=k.fo.YK B (za (a:=(Tr.nd b j .nil,0))) X (by rw[N];exact V)
   simp only[Prod.mk.injEq,Tr.nd.injEq]at this
   exact U this.1.2.1
theorem acR{xs ys:List Nd}{R R' : FT}{i j:Nat}{a b:Tr}(h:MB xs i a R)(k:kU xs ((.nd a i .nil,0) :: R) ys j b R')(f:PR (gW (gV xs ((.nd a i .nil,0) :: R))) j i):(gB ys false (.nd b j .nil)).head? = some i:=by
 obtain⟨r,c,_⟩:=k.head
 have:=PR.unique (P:=gW (gV xs ((.nd a i .nil,0) :: R))) (fun v u g d e=>h.fo.sY d e) (k.top c (v:=j) (by simp[Tr.mem])) f
 rw[c,this]
end Go.Sx
namespace Go.Sx
open Go
theorem gP.one{xs:List Nd}{t:Tr}{p i:Nat}(h:gP xs t p)(hs:t.mem=[i]):t = .nd .nil i .nil:=by
 cases t with
 | nil=>simp[Tr.mem]at hs
 | nd l j r =>
  cases l with
  | nil =>
   cases r with
   | nil=>simp[Tr.mem]at hs;rw[hs]
   | nd _ _ _=>simp[Tr.mem]at hs
  | nd _ _ _ =>
   have:=congrArg List.length hs
   simp[Tr.mem]at this
   omega
theorem abI{xs:List Nd}{t:Tr}{i:Nat}(h:gB xs false t=[i]):t.mem=[i]:=by
 have:=oP xs false t
 rw[h]at this
 exact List.perm_singleton.1 this.symm
theorem acU{ys zs a:List Nd}{i j:Nat}{b a2 b2:Tr}{R R2 d:FT}(o:Fo ys ((.nd b j .nil,0) :: R))(hs:gB ys false (.nd b j .nil)=[i,j])
 (h1:kU ys ((.nd b j .nil,0) :: R) zs i a2 R2) (c:kU (kB zs i) ((.nd a2 i .nil,0) :: R2) a j b2 d):b2 = .nd .nil i .nil/\a2 = .nil:=by
 have r:∀ x∈[i,j],x≠0:=fun x w=>o.yS (T:=.nd b j .nil) (q:=0) s_ x (by rw[hs];exact w)
 have i0:=r i s_
 have n:gW (gV ys ((.nd b j .nil,0) :: R)) i 0:=⟨(gB ys false (.nd b j .nil),0),by simp[gV],by rw[hs];exact sX.2 (.inl ⟨rfl,rfl⟩)⟩
 have p2:gW (gV ys ((.nd b j .nil,0) :: R)) j i:=⟨(gB ys false (.nd b j .nil),0),by simp[gV],by rw[hs];exact sX.2 (.inr (sX.2 (.inl ⟨rfl,rfl⟩)))⟩
 -- the first exposing
 have y:gW (gV zs ((.nd a2 i .nil,0) :: R2)) i ((gB zs false a2).getLast?.getD 0):=⟨(gB zs false (.nd a2 i .nil),0),by simp[gV],gB zs false a2,[],h1.seq,rfl⟩
 have e1:=h1.fo.sY y ((h1.par i 0).2 n)
 have k:gB zs false a2=[]:=by
  cases f:(gB zs false a2).getLast? with
  | none=>exact Mi.1 f
  | some x =>
   rw[f]at e1
   simp only[Option.getD_some]at e1
   exact absurd e1 (h1.fo.yS (T:=.nd a2 i .nil) (q:=0) s_ x (by rw[h1.seq];exact ur _ (GU f)))
 have p : a2 = .nil:=by
  have:=(oP zs false a2).length_eq
  rw[k]at this
  cases a2 with
  | nil=>rfl
  | nd _ _ _=>simp[Tr.mem]at this
 obtain⟨D,z,m,_⟩:=E6 h1
 have l:gV (kB zs i) ((.nd a2 i .nil,0) :: R2)=gV zs ((.nd a2 i .nil,0) :: R2):=by
  simp only[gV,lV]at m ⊢
  rw[z,m,h1.seq,k]
  rfl
 have A:gW (gV a ((.nd b2 j .nil,0) :: d)) i 0:=(c.par i 0).2 (by rw[l];exact(h1.par i 0).2 n)
 have B:gW (gV a ((.nd b2 j .nil,0) :: d)) j i:=(c.par j i).2 (by rw[l];exact(h1.par j i).2 p2)
 have v:gW (gV a ((.nd b2 j .nil,0) :: d)) j ((gB a false b2).getLast?.getD 0):=⟨(gB a false (.nd b2 j .nil),0),by simp[gV],gB a false b2,[],c.seq,rfl⟩
 have C:=c.fo.sY v B
 have f:(gB a false b2).getLast? = some i:=by
  grind
 obtain⟨s,g⟩:∃ s,gB a false b2=s++[i]:=by
  obtain⟨s,e⟩:=List.getLast?_eq_some_iff.1 f
  exact⟨s,e⟩
 have hv:gW (gV a ((.nd b2 j .nil,0) :: d)) i (s.getLast?.getD 0):=⟨(gB a false (.nd b2 j .nil),0),by simp[gV],s,[j],by rw[c.seq,g];simp,rfl⟩
 have h:=c.fo.sY hv A
 have u:s=[]:=by
  cases hl2:s.getLast? with
  | none=>exact Mi.1 hl2
  | some x =>
   rw[hl2]at h
   simp only[Option.getD_some]at h
   exact absurd h (c.fo.yS (T:=.nd b2 j .nil) (q:=0) s_ x (by rw[c.seq,g];simp[GU hl2]))
 rw[u,uA]at g
 have t:=c.fo.rep (.nd b2 j .nil,0) s_
 exact⟨gP.one t.2.2.2.1 (abI g),p⟩
def vm(a:List Nd)(i j:Nat):List Nd:=iQ (fM (fM a i (fun x=>{ x with up:=0 })) j (fun x=>{ x with k0:=0 })) j
theorem age{b:List Nd}{i j:Nat}{R:FT}(h:Fo b ((.nd (.nd .nil i .nil) j .nil,0) :: R)):Fo (vm b i j) ((.nd .nil i .nil,0) :: (.nd .nil j .nil,0) :: R)/\(vm b i j).length=b.length/\∀ k,k≠i->k≠j->fJ (vm b i j) k=fJ b k:=by
 obtain⟨n1,O,B⟩:=h.split
 obtain⟨⟨u,jl⟩,⟨k0,k1,up⟩,v,hi,_⟩:=h.rep (.nd (.nd .nil i .nil) j .nil,0) s_
 have E := hi
 obtain⟨⟨i0,il⟩,⟨I,J,N⟩,iv,_,_⟩:=E
 have t:i≠j:=by
  simp only[Tr.mem,uA,xq,qF]at n1
  rintro rfl
  simp at n1
 obtain⟨M,e1⟩:∃ x,x=fM b i (fun x=>{ x with up:=0 }):=⟨_,rfl⟩
 obtain⟨f,g⟩:∃ x,x=fM M j (fun x=>{ x with k0:=0 }):=⟨_,rfl⟩
 have D:vm b i j=iQ f j:=by rw[g,e1];rfl
 have K:f.length=b.length:=by rw[g,e1,gx,gx]
 have a2:fJ f i={ fJ b i with up:=0 }:=by rw[g,kS (fun e=>t e.symm),e1,jS il]
 have b2:fJ f j={ fJ b j with k0:=0 }:=by rw[g,jS (by rw[e1,gx];exact jl),e1,kS t]
 have L:∀ k,k≠i->k≠j->fJ f k=fJ b k:=fun k c F => by rw[g,kS (fun e=>F e.symm),e1,kS (fun e=>c e.symm)]
 obtain⟨q,s⟩:=Bh (xs:=f) (i:=j) (l:=.nil) (r:=.nil) ⟨u,o_⟩ trivial trivial (by rw[b2];rfl) (by rw[b2];exact k1) (by simp[Tr.mem]) (by simp[Tr.mem])
 rw[<-D]at q s
 rw[show (fJ f j).up=0 by rw[b2];exact up]at s
 have d:fJ (vm b i j) i={ fJ b i with up:=0 }:=by rw[q.other i t,a2]
 have w:∀ k,k≠i->k≠j->fJ (vm b i j) k=fJ b k:=fun k p z=>by rw[q.other k z,L k p z]
 have ll:(vm b i j).length=b.length:=by rw[q.len,K]
 have C:gP (vm b i j) (.nd .nil i .nil) 0:=by
  refine⟨⟨i0,by rw[ll];exact il⟩,⟨by rw[d];exact I,by rw[d];exact J,by rw[d]⟩,?_,trivial,trivial⟩
  simp only[Tr.mem,uA]at iv ⊢
  refine⟨by rw[d];exact iv.size,?_,?_⟩
  . rw[d,iv.total];simp[og,d]
  . rw[d];exact⟨iv.first.1,fun k c=>.inl (by have p:=iv.first.1;simp at c p;rw[c,p])⟩
 have G:i∈(Tr.nd (.nd .nil i .nil) j .nil).mem:=by simp[Tr.mem]
 have H:j∈(Tr.nd (.nd .nil i .nil) j .nil).mem:=by simp[Tr.mem]
 have nR:∀ e∈R,∀ k∈e.1.mem,k≠i/\k≠j:=fun e a k c=>⟨fun e' => B i G (e' ▸ oL a c),fun e' => B j H (e' ▸ oL a c)⟩
 have A:jT ((.nd .nil i .nil,0) :: (.nd .nil j .nil,0) :: R)=jT ((.nd (.nd .nil i .nil) j .nil,0) :: R):=by simp[jT,Tr.mem]
 obtain⟨ρ,r1,r2⟩:=h.s8
 refine⟨⟨fun e a=>?_,fun e a=>?_,by rw[A];exact h.nodup,fun k m c=>by rw[A];exact h.all k m (by rw[ll]at c;exact c),fun e a=>?_,⟨ρ,fun e a=>?_,fun e a m=>?_⟩,by rw[w 0 (fun e=>i0 e.symm) (fun e=>u e.symm)];exact h.zero,by rw[ll];exact h.pos,by rw[ll];exact h.len⟩,ll,w⟩
 . rcases ze.1 a with rfl|a
   . exact C
   . rcases ze.1 a with rfl|a
     . exact s
     . exact(h.rep e (by simp[a])).si ll fun k c=>w k (nR e a k c).1 (nR e a k c).2
 . rcases ze.1 a with rfl|a
   . exact i0
   . rcases ze.1 a with rfl|a
     . exact u
     . exact h.ne e (by simp[a])
 . rw[ll]
   rcases ze.1 a with rfl|a
   . exact h.pos
   . rcases ze.1 a with rfl|a
     . exact h.pos
     . exact h.par e (by simp[a])
 . rcases ze.1 a with rfl|a
   . intro x n y o;simp[Tr.mem]at n o;rw[n,o]
   . rcases ze.1 a with rfl|a
     . intro x n y o;simp[Tr.mem]at n o;rw[n,o]
     . exact r1 e (by simp[a])
 . rcases ze.1 a with rfl|a
   . exact absurd rfl m
   . rcases ze.1 a with rfl|a
     . exact absurd rfl m
     . exact r2 e (by simp[a]) m
def qY(zs:List Nd)(a b:Nat):List Nd := 
 let c:=fM zs a (fun x=>{ x with up:=b })
 iQ (fM c b (fun x=>{ x with iX:=IntKind.i64.wrap (x.iX+(fJ c a).total) })) b
theorem aa8{zs:List Nd}{a b:Nat}{x y:Tr}{R:FT}(h:Fo zs ((.nd y b .nil,0) :: (.nd x a .nil,0) :: R)):Fo (qY zs a b) ((.nd y b .nil,0) :: (.nd x a .nil,b) :: R)/\(qY zs a b).length=zs.length/\∀ k,k≠a->k≠b->fJ (qY zs a b) k=fJ zs k:=by
 obtain⟨n1,F,n3⟩:=h.split
 have V:=h.rep (.nd y b .nil,0) s_
 have A:=h.rep (.nd x a .nil,0) s_
 obtain⟨⟨b0,bl⟩,⟨S,T,U⟩,bv,hy,_⟩:=V
 have a0:=A.1.1
 have al:=A.1.2
 have t:a∈(Tr.nd x a .nil).mem:=by simp[Tr.mem]
 have u:b∈(Tr.nd y b .nil).mem:=by simp[Tr.mem]
 have n:∀ k∈(Tr.nd y b .nil).mem,k∉(Tr.nd x a .nil).mem/\k∉jT R:=fun k c=>by
  have:=n3 k c
  simp only[jT,z7,zn,not_or]at this
  exact this
 have D:a≠b:=fun e=>(n b u).1 (e▸t)
 have nA:(Tr.nd x a .nil).mem.Nodup/\∀ k∈(Tr.nd x a .nil).mem,k∉jT R:=by
  simp only[jT,z7,zr]at F
  exact⟨F.1,fun k m f=>F.2.2 k m k f rfl⟩
 obtain⟨I,e1⟩:∃ z,z=fM zs a (fun x=>{ x with up:=b }):=⟨_,rfl⟩
 obtain⟨g,q⟩:∃ z,z=fM I b (fun x=>{ x with iX:=IntKind.i64.wrap (x.iX+(fJ I a).total) }):=⟨_,rfl⟩
 have X:qY zs a b=iQ g b:=by rw[q,e1];rfl
 have L:I.length=zs.length:=by rw[e1,gx]
 have M:g.length=zs.length:=by rw[q,gx,L]
 have a2:fJ g a={ fJ zs a with up:=b }:=by rw[q,kS (fun e=>D e.symm),e1,jS al]
 obtain⟨N,b2⟩:∃ N,fJ g b={ fJ zs b with iX:=N }:=⟨_,by rw[q,jS (by rw[L];exact bl),e1,kS D]⟩
 have O:∀ k,k≠a->k≠b->fJ g k=fJ zs k:=fun k c Y => by rw[q,kS (fun e=>Y e.symm),e1,kS (fun e=>c e.symm)]
 have ad:b∉y.mem:=by
  simp only[Tr.mem,zr,zu]at n1
  exact fun h=>n1.2.2 b h b s_ rfl
 have ab:gP g y b:=hy.si M fun k c=>O k (fun e=>(n k (by simp[Tr.mem,c])).1 (e▸t)) (fun e=>ad (e▸c))
 obtain⟨w,B⟩:=Bh (xs:=g) (i:=b) (l:=y) (r:=.nil) ⟨b0,o_⟩ ab trivial (by rw[b2];exact S) (by rw[b2];exact T) n1 h.count
 rw[<-X]at w B
 rw[show (fJ g b).up=0 by rw[b2];exact U]at B
 have v:∀ k,k≠a->k≠b->fJ (qY zs a b) k=fJ zs k:=fun k m f=>by rw[w.other k f,O k m f]
 have ll:(qY zs a b).length=zs.length:=by rw[w.len,M]
 have j:fJ (qY zs a b) a={ fJ zs a with up:=b }:=by rw[w.other a D,a2]
 have W:gP (qY zs a b) (.nd x a .nil) b:=by
  obtain⟨⟨_,_⟩,⟨P,Q,_⟩,p,Z,_⟩:=A
  have ac:a∉x.mem:=by
   have:=nA.1
   simp only[Tr.mem,zr,zu]at this
   exact fun h=>this.2.2 a h a s_ rfl
  have K:∀ k∈x.mem,fJ (qY zs a b) k=fJ zs k:=fun k c=>v k (fun e=>ac (e▸c)) (fun e=>(n b u).1 (e▸by simp[Tr.mem,c]))
  refine⟨⟨a0,by rw[ll];exact al⟩,⟨by rw[j];exact P,by rw[j];exact Q,by rw[j]⟩,?_,Z.si ll K,trivial⟩
  have C:∀ k∈x.mem++a :: Tr.nil.mem,(fJ (qY zs a b) k).key=(fJ zs k).key/\(fJ (qY zs a b) k).iX=(fJ zs k).iX:=fun k c=>by
   simp only[Tr.mem,zn,ze,oV,or_false]at c
   rcases c with c|rfl
   . rw[K k c];exact⟨rfl,rfl⟩
   . rw[j];exact⟨rfl,rfl⟩
  refine⟨by rw[j];exact p.size,?_,?_⟩
  . rw[j,show og (qY zs a b) (x.mem++a :: Tr.nil.mem)=og zs (x.mem++a :: Tr.nil.mem) from congrArg List.sum (Dy fun k c=>by rw[(C k c).2])]
    exact p.total
  . rw[j]
    refine⟨p.first.1,fun k c=>?_⟩
    rcases p.first.2 k c with e|e
    . exact .inl e
    . refine .inr ?_
      rw[<-e]
      simp only[lK,(C k c).1,(C _ p.first.1).1]
 have nR:∀ e∈R,∀ k∈e.1.mem,k≠a/\k≠b:=fun e d k c=>⟨fun e' => nA.2 a t (e' ▸ oL d c),fun e' => (n b u).2 (e' ▸ oL d c)⟩
 have J:jT ((.nd y b .nil,0) :: (.nd x a .nil,b) :: R)=jT ((.nd y b .nil,0) :: (.nd x a .nil,0) :: R):=by simp[jT]
 obtain⟨ρ,r1,r2⟩:=h.s8
 obtain⟨σ,E⟩:∃ σ:Nat->Nat,∀ k,σ k=if k∈(Tr.nd y b .nil).mem then ρ k+ρ a+1 else ρ k:=⟨_,fun _=>rfl⟩
 have H:∀ k∈(Tr.nd y b .nil).mem,σ k=ρ k+ρ a+1:=fun k c=>by rw[E,if_pos c]
 have o:∀ k,k∉(Tr.nd y b .nil).mem->σ k=ρ k:=fun k c=>by rw[E,if_neg c]
 have ae:∀ k,ρ k<=σ k:=fun k=>by rw[E];split<;>omega
 have G:∀ k∈(Tr.nd x a .nil).mem,k∉(Tr.nd y b .nil).mem:=fun k m f=>(n k f).1 m
 have oR:∀ e∈R,∀ k∈e.1.mem,k∉(Tr.nd y b .nil).mem:=fun e d k m f=>(n k f).2 (oL d m)
 refine⟨⟨fun e d=>?_,fun e d=>?_,by rw[J];exact h.nodup,fun k s c=>by rw[J];exact h.all k s (by rw[ll]at c;exact c),fun e d=>?_,⟨σ,fun e d=>?_,fun e d s=>?_⟩,by rw[v 0 (fun e=>a0 e.symm) (fun e=>b0 e.symm)];exact h.zero,by rw[ll];exact h.pos,by rw[ll];exact h.len⟩,ll,v⟩
 . rcases ze.1 d with rfl|d
   . exact B
   . rcases ze.1 d with rfl|d
     . exact W
     . exact(h.rep e (by simp[d])).si ll fun k c=>v k (nR e d k c).1 (nR e d k c).2
 . rcases ze.1 d with rfl|d
   . exact b0
   . rcases ze.1 d with rfl|d
     . exact a0
     . exact h.ne e (by simp[d])
 . rw[ll]
   rcases ze.1 d with rfl|d
   . exact h.pos
   . rcases ze.1 d with rfl|d
     . exact bl
     . exact h.par e (by simp[d])
 . rcases ze.1 d with rfl|d
   . intro i hi k c
     rw[H i hi,H k c,r1 (.nd y b .nil,0) s_ i hi k c]
   . rcases ze.1 d with rfl|d
     . intro i hi k c
       rw[o i (G i hi),o k (G k c),r1 (.nd x a .nil,0) s_ i hi k c]
     . intro i hi k c
       rw[o i (oR e d i hi),o k (oR e d k c),r1 e (by simp[d]) i hi k c]
 . rcases ze.1 d with rfl|d
   . exact absurd rfl s
   . rcases ze.1 d with rfl|d
     . intro i hi
       have:=r1 (.nd x a .nil,0) s_ i hi a t
       rw[o i (G i hi),H b u]
       omega
     . intro i hi
       have:=r2 e (by simp[d]) s i hi
       have:=ae e.2
       rw[o i (oR e d i hi)]
       omega
def wU(ys:List Nd)(i:Nat)(k:Int):List Nd:=iQ (fM ys i (fun x=>{ x with key:=k })) i
theorem aeK{ys:List Nd}{i:Nat}{a:Tr}{R:FT}{c:Int}(h:Fo ys ((.nd a i .nil,0) :: R)):Fo (wU ys i c) ((.nd a i .nil,0) :: R)/\(wU ys i c).length=ys.length/\(∀ k,k≠i->fJ (wU ys i c) k=fJ ys k)/\(fJ (wU ys i c) i).key=c:=by
 obtain⟨n1,A,w⟩:=h.split
 obtain⟨⟨i0,il⟩,⟨k0,k1,up⟩,v,t,_⟩:=h.rep (.nd a i .nil,0) s_
 obtain⟨f,g⟩:∃ z,z=fM ys i (fun x=>{ x with key:=c }):=⟨_,rfl⟩
 have u:wU ys i c=iQ f i:=by rw[g];rfl
 have p:f.length=ys.length:=by rw[g,gx]
 have a2:fJ f i={ fJ ys i with key:=c }:=by rw[g,jS il]
 have q:∀ k,k≠i->fJ f k=fJ ys k:=fun k b=>by rw[g,kS (fun e=>b e.symm)]
 have y:i∉a.mem:=by
  simp only[Tr.mem,zr,zu]at n1
  exact fun h=>n1.2.2 i h i s_ rfl
 obtain⟨j,m⟩:=Bh (xs:=f) (i:=i) (l:=a) (r:=.nil) ⟨i0,o_⟩ (t.si p fun k b=>q k (fun e=>y (e▸b))) trivial (by rw[a2];exact k0) (by rw[a2];exact k1) n1 h.count
 rw[<-u]at j m
 rw[show (fJ f i).up=0 by rw[a2];exact up]at m
 have n:∀ k,k≠i->fJ (wU ys i c) k=fJ ys k:=fun k o=>by rw[j.other k o,q k o]
 have ll:(wU ys i c).length=ys.length:=by rw[j.len,p]
 have hm:i∈(Tr.nd a i .nil).mem:=by simp[Tr.mem]
 refine⟨⟨fun e d=>?_,h.ne,h.nodup,fun k s b=>h.all k s (by rw[ll]at b;exact b),fun e d=>by rw[ll];exact h.par e d,h.s8,by rw[n 0 (fun e=>i0 e.symm)];exact h.zero,by rw[ll];exact h.pos,by rw[ll];exact h.len⟩,ll,n,by rw[j.kl.key,a2]⟩
 rcases ze.1 d with rfl|d
 . exact m
 . exact(h.rep e (by simp[d])).si ll fun k b=>n k (fun e' => w i hm (e' ▸ oL d b))
def pq:Nd:=⟨0,0,0,false,0,0,0,0,0⟩
def wB(i:Nat):Nd:=⟨0,0,0,false,0,1,i,0,1⟩
def mP(n k:Nat):List Nd:=(List.range (n+1)).map fun i=>if 1<=i/\i<=k then wB i else pq
theorem sV(n k:Nat):(mP n k).length=n+1:=by simp[mP]
theorem AZ{n k i:Nat}(h:i<n+1):fJ (mP n k) i=if 1<=i/\i<=k then wB i else pq:=by
 simp[fJ,mP,ox h]
theorem acj(n:Nat):mP n 0=List.replicate (n+1) pq:=by
 apply List.ext_getElem
 . simp[mP]
 . grind [mP]
theorem aci{n k:Nat}(h:k<n):iQ (mP n k) (k+1)=mP n (k+1):=by
 have b:k+1<(mP n k).length:=by rw[sV];omega
 have a:fJ (mP n k) (k+1)=pq:=by rw[AZ o_,if_neg o_]
 unfold iQ
 rw[a]
 simp only[pq,mz,if_true]
 apply mW
 intro i
 by_cases hi:i=k+1
 . grind [gy,gx,jS,sV,AZ,pq,wB,Ma]
 . grind [gy,gx,sV,kS,AZ]
def newF(n:Nat):FT:=(List.range n).map fun v=>(.nd .nil (v+1) .nil,0)
theorem ack{n:Nat}(h:n<=1000000):Fo (mP n n) (newF n):=by
 have i:jT (newF n)=(List.range n).map (· + 1):=by
  unfold jT newF
  rw[List.flatMap_map]
  induction List.range n with
  | nil=>rfl
  | cons x l k =>
   rw[z7,k]
   rfl
 refine⟨fun e d=>?_,fun e d=>?_,?_,fun j g f=>?_,fun e d=>?_,⟨fun _=>0,fun _ _ _ _ _ _=>rfl,fun e d g=>?_⟩,?_,by rw[sV];omega,by rw[sV];omega⟩
 . obtain⟨v,hv,rfl⟩:=zy.1 d
   have hv:=lU.1 hv
   have c:fJ (mP n n) (v+1)=wB (v+1):=by rw[AZ o_,if_pos o_]
   refine⟨⟨o_,by rw[sV];omega⟩,⟨by rw[c];rfl,by rw[c];rfl,by rw[c];rfl⟩,⟨by rw[c];rfl,?_,?_⟩,trivial,trivial⟩
   . rw[c];simp only[Tr.mem,uA,og,lV,BH,c];rw[Ma];rfl
   . rw[c];exact⟨by simp[wB,Tr.mem],fun j f=>.inl (by simpa[wB,Tr.mem]using f)⟩
 . obtain⟨v,hv,rfl⟩:=zy.1 d
   exact Nat.succ_ne_zero v
 . rw[i]
   exact List.Pairwise.map _ (fun a b (h:a≠b)=>by show a+1≠b+1;omega) xw
 . rw[i]
   rw[sV]at f
   exact zy.2 ⟨j-1,lU.2 o_,o_⟩
 . obtain⟨v,hv,rfl⟩:=zy.1 d
   rw[sV];show 0<n+1;omega
 . obtain⟨v,hv,rfl⟩:=zy.1 d
   exact absurd rfl g
 . rw[AZ o_,if_neg o_];exact⟨rfl,rfl,rfl⟩
end Go.Sx
namespace Go.Sx
open Go
theorem Uc{α:Type}[Inhabited α]{xs:List α}{i:Nat}{f g:α->α}(h:i<xs.length):fM (fM xs i f) i g=fM xs i (fun x=>g (f x)):=by
 have e:=jS (f:=f) h
 unfold fM at e ⊢
 rw[e,List.set_set]
theorem adR{xs:List Nd}{i:Nat}(h:i<xs.length):fM (fM (fM xs i (fun x=>{ x with size:=1 })) i (fun x=>{ x with first:=i })) i (fun x=>{ x with total:=IntKind.i64.wrap (1+(fJ xs i).iX) })=fM xs i (fun x=>{ x with size:=1,first:=i,total:=IntKind.i64.wrap (1+x.iX) }):=by
 rw[Uc h,Uc h];rfl
theorem vg{xs y:List Nd}{i:Nat}(a:y=fM xs i (fun x=>{ x with size:=1,first:=i,total:=IntKind.i64.wrap (1+x.iX) }))(h:i<xs.length):iQ xs i=mz (mz y i (fJ y i).k0) i (fJ y i).k1:=by
 have b:(fJ y i).k0=(fJ xs i).k0:=by rw[a,jS h]
 have e1:(fJ y i).k1=(fJ xs i).k1:=by rw[a,jS h]
 rw[b,e1,a];rfl
theorem tY{xs:List Nd}{i k:Nat}(h:k=0):mz xs i k=xs:=by simp[mz,h]
section
variable {xs y0 y1 y2:List Nd} {i k:Nat}
theorem tW(h:k≠0)(a:y0=fM xs i (fun x=>{ x with size:=IntKind.i64.wrap ((fJ xs i).size+(fJ xs k).size) }))(e1:y1=fM y0 i (fun x=>{ x with total:=IntKind.i64.wrap ((fJ y0 i).total+(fJ y0 k).total) }))
 (c:lK y1 (fJ y1 k).first (fJ y1 i).first=true) (b:y2=fM y1 i (fun x=>{ x with first:=(fJ y1 k).first })):mz xs i k=y2:=by
 subst a e1 b
 simp only[mz,if_neg h]
 exact if_pos c
theorem tV(h:k≠0)(a:y0=fM xs i (fun x=>{ x with size:=IntKind.i64.wrap ((fJ xs i).size+(fJ xs k).size) }))(e1:y1=fM y0 i (fun x=>{ x with total:=IntKind.i64.wrap ((fJ y0 i).total+(fJ y0 k).total) }))
 (b:lK y1 (fJ y1 k).first (fJ y1 i).first=false):mz xs i k=y1:=by
 have c : ¬ lK y1 (fJ y1 k).first (fJ y1 i).first=true:=by rw[b];simp
 subst a e1
 simp only[mz,if_neg h]
 exact if_neg c
end
theorem C1(xs:List Nd)(i:Nat):jF xs i=(0,false)\/jF xs i=(0,true)\/jF xs i=(1,true):=by
 unfold jF
 (repeat' split)<;>simp
theorem fZ.kP{xs:List Nd}(h:fZ xs){i s k:Nat}(hi:i<xs.length)(hk:k<xs.length):fZ (i7 xs i s k):=by
 have f:fZ (if s=0 then fM xs i (fun x=>{ x with k0:=k })else fM xs i (fun x=>{ x with k1:=k })):=by
  split
  . exact h.iR hi fun x a b c d e=>⟨hk,b,c,d,e⟩
  . exact h.iR hi fun x a b c d e=>⟨a,hk,c,d,e⟩
 have g:(if s=0 then fM xs i (fun x=>{ x with k0:=k })else fM xs i (fun x=>{ x with k1:=k })).length=xs.length:=by split<;>exact gx
 by_cases hk0:k=0
 . simp only[i7,if_pos hk0]
   exact f
 . simp only[i7,if_neg hk0]
   exact f.iR (by rw[g];exact hk) fun x a b c d e=>⟨a,b,by rw[g];exact hi,d,e⟩
theorem ES(xs:List Nd)(i s k:Nat):(i7 xs i s k).length=xs.length:=by
 unfold i7
 simp only
 (repeat' split)<;>simp only[gx]
theorem KJ(xs:List Nd)(i k:Nat):(mz xs i k).length=xs.length:=by
 unfold mz
 simp only
 (repeat' split)<;>simp only[gx]
theorem FG(xs:List Nd)(i:Nat):(iQ xs i).length=xs.length:=by
 simp only[iQ,KJ,gx]
theorem fZ.mz{xs:List Nd}(h:fZ xs){i k:Nat}(hi:i<xs.length)(hk:k<xs.length):fZ (mz xs i k):=by
 have g:fZ (fM xs i (fun x=>{ x with size:=IntKind.i64.wrap (x.size+(fJ xs k).size) })):=h.iR hi fun x a b c d e=>⟨a,b,c,d,e⟩
 have l0:(fM xs i (fun x=>{ x with size:=IntKind.i64.wrap (x.size+(fJ xs k).size) })).length=xs.length:=gx
 unfold Go.Sx.mz
 simp only
 generalize fM xs i (fun x=>{ x with size:=IntKind.i64.wrap (x.size+(fJ xs k).size) })=y0 at g l0 ⊢
 have f:fZ (fM y0 i (fun x=>{ x with total:=IntKind.i64.wrap (x.total+(fJ y0 k).total) })):=g.iR o_ fun x a b c d e=>⟨a,b,c,d,e⟩
 have j:(fM y0 i (fun x=>{ x with total:=IntKind.i64.wrap (x.total+(fJ y0 k).total) })).length=y0.length:=gx
 generalize fM y0 i (fun x=>{ x with total:=IntKind.i64.wrap (x.total+(fJ y0 k).total) })=y1 at f j ⊢
 split
 . exact h
 split
 . exact f.iR o_ fun x a b c d e=>⟨a,b,c,f.first k o_,e⟩
 . exact f
theorem fZ.lS{xs:List Nd}(h:fZ xs){i:Nat}(hi:i<xs.length):fZ (iQ xs i):=by
 have f:fZ (fM xs i (fun x=>{ x with size:=1,first:=i,total:=IntKind.i64.wrap (1+x.iX) })):=h.iR hi fun x a b c d e=>⟨a,b,c,hi,e⟩
 have l0:(fM xs i (fun x=>{ x with size:=1,first:=i,total:=IntKind.i64.wrap (1+x.iX) })).length=xs.length:=gx
 have a:=h.k0 i hi
 have b:=h.k1 i hi
 unfold iQ
 exact(f.mz o_ o_).mz (by rw[KJ];omega) (by rw[KJ];omega)
end Go.Sx
namespace Go.Sx
open Go
theorem om{p:Prop}(h:p:=by first|omega|(simp only[gx];omega)):p:=h
theorem oa{p:Prop}(h:p:=by first|assumption|omega|(simp only[gx];omega)):p:=h
theorem o9{p q:Prop}(a:q)(h:q->p:=by intro a;first|omega|(simp only[gx]at a ⊢;omega)|(simp only[gx]at a;omega)|(simp only[gx];omega)):p:=h a
theorem iI{bs:List (World×List Nat)}{A:fT}{nb t m:Nat}{z:List Nd}{w:World}(a:fZ z)(hs:St bs [A,blk nb t (z.flatMap Nd.cells)] w)(b:z.length=m:=by first|omega|(simp only[gx];omega)|(rw[ES];omega)|(rw[FG];omega)|omega):∃ y,y=z/\y.length=m/\fZ y/\St bs [A,blk nb t (y.flatMap Nd.cells)] w:=⟨z,rfl,b,a,hs⟩
section
variable {Γ:Type} {P:Program} {ops:Array Oper} {Q:Exit->Act->World->Prop} {n:Nat} {ds:List Deferred} {s0:List (Nat×Value)} {l0:List Oper} {pre:List (List Nat)} {mem:List Nat} {V:List (Γ->Value)} {bs:List (World×List Nat)} {Ls:List ((Γ->List fT)×(Γ->World->Prop))} {i:Nat} {s:Γ->List (Nat×Value)} {o:Oper} {l:List Oper} {v:Γ->Value} {vs:List (Γ->Value)}
theorem u7(h:∀ g w,(execOp (ev n (s g)) o).run P w = .ok (.value (v g)) w)(K:lY P ops Q n ds s0 l0 pre mem V (jC bs Ls) (i+1) (fun g=>kT o.dst (v g) (s g)) l vs)(hm:mem.contains i=false:=by exact rfl)(a:∀ g,gC ops n (s g) o.guard=true:=by exact fun _=>rfl)(hd:nI o.op=true:=by exact rfl) :
 lY P ops Q n ds s0 l0 pre mem V (jC bs Ls) i s (o :: l) (v :: vs):=acu hm (fun g w C=>qv (a g) hd (h g w)) K
end
section
variable {P:Program} {bs:List (World×List Nat)} {L LL A A' B:List fT} {R R' : fT} {w w' : World}
theorem St.tn(i:Nat)(h:St bs L w)(b:fV R w w' R')(hi:L[i]? = some R:=by exact rfl)(a:L.set i R' = LL:=by first|(dsimp only[List.set];exact rfl)|exact rfl):St bs LL w' := St.LW i h hi b a
theorem St.tu(h:St bs (gm A :: B) w)(a:fV (gm A) w w' (gm A')):St bs (A' ++ B) w' := (St.LW 0 h rfl a rfl).unpack
theorem St.eT(h:St bs (R' :: L) w')(hb:(w,R.gH)∈bs:=by exact za):fV R w w' R' := h.Eu hb
theorem St.eM(h:St bs (R :: L) w')(hb:(w,[])∈bs:=by simp):fV (gm []) w w' R:=h.OJ hb
theorem en{f:FuncId}{fn:Func}{c:Code}{n:Nat}{vs:List Value}{R:Ending->World->Prop}(a:P.funcs[f]? = some fn)(b:fn.ntmps=n)(h:WP none P c (bodyPost P fn R) (Fr n (vR vs 0) []) w)(hb:fn.body=some c:=by exact rfl)(hs:Nat.ble vs.length n=true:=by exact rfl):Calls P f vs.toArray w R:=enter a hb b hs h
variable {ops:Array Oper} {Q:Exit->Act->World->Prop} {n:Nat} {s:List (Nat×Value)} {ds:List Deferred} {r d:Option Nat} {ty:TypeId} {pos:String} {af:Array Edge} {g:Option (Nat×Bool)} {rest:List Oper}
theorem cl{f:FuncId}{a:List Operand}{T:Array TypeId}{vl:List Value}{R:Value->World->Prop}(c:gi P f)(b:CR P f vl.toArray w R)(K:∀ v w', R v w' -> WL r P ops Q rest (Fr n (kT d v s) ds) w')(e:gC ops n s g=true:=by exact rfl)(hvs:a.map (ev n s)=vl:=by exact rfl) :
 WL r P ops Q (⟨d,.call ⟨.value (.func f),a.toArray,T⟩,ty,pos,af,g⟩ :: rest) (Fr n s ds) w:=jO e hvs c b K
end
end Go.Sx
namespace Go.Sx
open Go
section
variable {α:Type} [Inhabited α] {cf:α->List Value} {sz:Nat} {w:World} {bs:List (World×List Nat)} {L LL:List fT} {ys:List α} {i k m:Nat} {v u:Value} {t e:TypeId} {c:α}
variable {r:Option Nat} {P:Program} {ops:Array Oper} {Q:Exit->Act->World->Prop} {rest:List Oper} {n:Nat} {s:List (Nat×Value)} {ds:List Deferred}
variable {d:Nat} {ty:TypeId} {pos:String} {af:Array Edge} {g:Option (Nat×Bool)} {x y:Operand} {by_:Nat} {z:Value}
theorem Ox{b cap:Nat}:jB sz (.slice (some ⟨b,0,none⟩) m cap) 0 k = .slice (some ⟨b,0,none⟩) k cap:=by
 simp only[jB,DH,Nat.zero_mul,vE,Addr.add_lit,pM]
 split<;>rfl
theorem Vb(i:Nat)(U:gC ops n s g=true)(H:ev n s x=jB sz v 0 k)(hy:ev n s y=u)(ht:P.underlying t=some (.slice e))(hi:TI P e sz by_ z)
 (G:St bs L w) (C:L[i]? = some (fL cf v e sz ys)) (hs:Src w u sz 1 (cf c)) (ae:0<sz) (h1:∀ x∈cf c,x.oneCell' = true) (l:∀ x:α,(cf x).length=sz) (hk:k<ys.length)
 (J:L.set i (fL cf v e sz (fM ys k fun _=>c))=LL)
 (K:∀ w', St bs LL w' -> WL r P ops Q rest (Fr n ((d,jB sz v 0 (k+1)) :: s) ds) w') :
 WL r P ops Q (⟨some d,.call ⟨.builtin .append,#[x,y],#[t,t]⟩,ty,pos,af,g⟩ :: rest) (Fr n s ds) w:=by
 have Z:w.ownsRow 0 e sz v ys.length (ys.flatMap cf):=G.own _ (zd C)
 obtain⟨f,V,rfl,rfl,hz⟩:=hi.get
 obtain⟨a,I,rfl,ac,E⟩:=hs
 rcases Z.2 with ⟨rfl,h0⟩|⟨b,m,cur,rfl,ab,q,N,O,D,R⟩
 . omega
 . rw[Ox]at H
   obtain⟨A,rfl,_⟩:=E 0 (cf c)[0] (by rw[zm])
   have X : ∀ j x,(cf c)[j]? = some x->w.cell? (A.add j)=some x:=fun j x W=>by
    obtain⟨aa, e1,h⟩:=E j x W
    cases e1;exact h
   have S:k*f.size+(cf c).length<=cur.size:=by
    rw[D,l]
    have:(k+1)*f.size<=m*f.size:=zN _ o_
    rw[rG]at this;omega
   have F:=run_append_room (P:=P) w t ty e f ht V b k m cur q A 1 I (cf c) o_ X h1 o_ S
   have B:cur.toList=ys.flatMap cf++cur.toList.drop (ys.length*f.size):=by
    rw[<-R,tf]
   have T:k*f.size+(cf c).length<=(ys.flatMap cf).length:=by
    rw[oJ l,l]
    have:(k+1)*f.size<=ys.length*f.size:=zN _ o_
    rw[rG]at this;omega
   have Y:cur.toList.take (k*f.size)++cf c++cur.toList.drop (k*f.size+(cf c).length)=(fM ys k fun _=>c).flatMap cf++cur.toList.drop (ys.length*f.size):=by
    have e1:cur.toList.take (k*f.size)++cf c++cur.toList.drop (k*f.size+(cf c).length)=setAt cur.toList (k*f.size) (cf c):=by unfold setAt;simp
    rw[e1]
    conv=>lhs;rw[B]
    rw[La T]
    have:=Qd (cf:=cf) (sz:=f.size) l ys k 0 (fJ ys k) c (cf c) (gy hk) (by unfold setAt;rw[List.take_zero,uA,GP (by rw[l,l];omega),xq]) (by rw[l];omega)
    rw[pM]at this
    rw[this]
    rfl
   rw[Y]at F
   refine pv U rfl (v:=jB f.size (.slice (some ⟨b,0,none⟩) ys.length m) 0 (k+1)) (w' := _) (by rw[Ox];simp only[execOp,resolve,invoke,builtin,zt,zz,zo,G0,lV,BH,H,hy,F];rfl) (K _ ?_)
   subst J
   have M:=(qg.1 q).1
   refine G.iR C (gw.setRow w b _) (fun c o=>.inl o) (by simp[row,Value.ownBlock]) (fun c o=>?_) ?_
   . simp[row,Value.ownBlock]at o
     subst o
     simpa using M
   . refine⟨by rw[gx,oJ l,gx],.inr ⟨b,m,_,by rw[gx],lD _,setRow_heap w b cur _ e (0,0) q,by rw[gx];exact N,O,?_,?_⟩⟩
     . rw[<-D]
       have p:=congrArg List.length B
       simp only[List.size_toArray,zp]at p ⊢
       rw[oJ l]at p
       rw[oJ l,gx,<-p,tg]
     . rw[gx]
       have:((fM ys k fun _=>c).flatMap cf).length=ys.length*f.size:=by rw[oJ l,gx]
       simp[List.take_append,this]
end
end Go.Sx
namespace Go.Sx
open Go
theorem Y6(a k:Nat)(m:Nat)(h:k<=m):(a:Int).fdiv (2 ^ (min ((k:Nat):Int).toNat m))=((a / 2 ^ k:Nat):Int):=by
 rw[nT,xu h]
 rw[Int.fdiv_eq_ediv_of_nonneg _ (Int.pow_nonneg d_)]
 simp
section
variable {r:Option Nat} {P:Program} {ops:Array Oper} {Q:Exit->Act->World->Prop} {rest:List Oper} {n d:Nat} {s:List (Nat×Value)} {ds:List Deferred} {w:World} {ty:TypeId} {pos:String} {af:Array Edge} {g:Option (Nat×Bool)}
theorem aak{x y:Operand}{t:TypeId}{k:IntKind}{b:ByteArray}{i:Int}(m:Nat)(e:gC ops n s g=true)(h:ev n s x = .string b)(j:ev n s y = .int k i)(f:P.underlying t=some .string)(hm:b.size=m)(a:0<=i)(hi:i<m)
 (K:∀ c:UInt8,c.toNat<256->WL r P ops Q rest (Fr n ((d,.int .u8 c.toNat) :: s) ds) w):WL r P ops Q (⟨some d,.index t x y,ty,pos,af,g⟩ :: rest) (Fr n s ds) w :=
 aaj e h j f a (getElem?_pos b i.toNat (by show i.toNat<b.size;omega)) (K _ (UInt8.toNat_lt _))
end
end Go.Sx
namespace Go.Sx
open Go
section
variable {P:Program} {w:World} {v:Value} {xs:List Int} {e:TypeId} {f:FuncId}
theorem aad{b cap:Nat}{cur:Array Value}(d:w.heap[b]? = some (.cells cur e (0,0)))(f:cur.toList.take xs.length=xs.map (Value.int .i64)):Go.Sort.Holds (Value.int .i64) w b 0 xs.toArray:=by
 intro j g
 have a : j<xs.length:=by simpa using g
 have c:(cur.toList.take xs.length)[j]? = some (Value.int .i64 xs[j]):=by rw[f];simp[a]
 rw[Dr a]at c
 refine⟨?_,?_⟩
 . simp only[World.cell?,d]
   have e1:xs.toArray[j]! = xs[j]:=by simp[a]
   rw[e1]
   simpa using c
 . simp[World.frozen?,d]
theorem Wr(s:Own (ig .i64 v e xs) w){i:Nat}(hi:i<xs.length)
 (t:∀ b cap,Go.Sort.Holds (Value.int .i64) w b 0 xs.toArray->xs.length<=cap->cap<=9223372036854775807 ->
  Calls P f #[.slice (some ⟨b,0,none⟩) xs.length cap,.int .i64 (i:Int),.int .i64 ((i+1:Nat):Int)] w fun en w' => en = .returned (.slice (some ⟨b,0,none⟩) (xs.length-(i+1-i)) cap) /\
   ∃ q,w' = Go.Sort.putRow (Value.int .i64) (Go.Sort.ahead w q) b 0 (xs.take i++xs.drop (i+1)++List.replicate (i+1-i) 0).toArray) :
 CR P f #[v,.int .i64 (i:Int),.int .i64 ((i+1:Nat):Int)] w (fun r w' => fV (ig .i64 v e xs) w w' (ig .i64 r e (xs.eraseIdx i))):=by
 have H:w.ownsRow 0 e 1 v xs.length (xs.map (Value.int .i64)):=s.holds
 rcases H.2 with ⟨_,L⟩|⟨a, cap,cur,rfl,hb,g,o,k,l,m⟩
 . omega
 . have p : cur.toList.take xs.length=xs.map (Value.int .i64):=by rw[sD]at m;simpa using m
   refine Calls.mono (t a cap (aad (cap:=cap) g p) o (by simpa[maxLen]using k)) ?_
   rintro en w' ⟨rfl,q,rfl⟩
   refine⟨_,rfl,?_⟩
   have z:xs.eraseIdx i=xs.take i++xs.drop (i+1):=GK xs i
   have E:(xs.eraseIdx i).length=xs.length-(i+1-i):=by rw[List.length_eraseIdx_of_lt hi];omega
   have A:a < w.heap.size:=(qg.1 g).1
   obtain⟨d,hd⟩:∃ d,d=(xs.take i++xs.drop (i+1)++List.replicate (i+1-i) 0).toArray:=⟨_,rfl⟩
   rw[<-hd]
   have y:d.size=xs.length:=by rw[hd];simp;omega
   have F:(Go.Sort.putRow (Value.int .i64) (Go.Sort.ahead w q) a 0 d).heap[a]? = some (.cells (Go.Sort.putCells (Value.int .i64) 0 d cur) e (0,0)):=by
    simp only[Go.Sort.putRow,Go.Sort.mapBlock,Go.Sort.ahead,Dw,if_pos,g]
    rfl
   have G:∀ b,b≠a -> (Go.Sort.putRow (Value.int .i64) (Go.Sort.ahead w q) a 0 d).heap[b]? = w.heap[b]? := by
    intro b hb
    simp only[Go.Sort.putRow,Go.Sort.mapBlock,Go.Sort.ahead,Dw]
    rw[if_neg (fun e=>hb e.symm)]
   have n:(Go.Sort.putRow (Value.int .i64) (Go.Sort.ahead w q) a 0 d).heap.size=w.heap.size:=by simp[Go.Sort.putRow,Go.Sort.mapBlock,Go.Sort.ahead]
   have I:(Go.Sort.putCells (Value.int .i64) 0 d cur).size=cur.size:=by simp[Go.Sort.putCells]
   have J:(Go.Sort.putCells (Value.int .i64) 0 d cur).toList.take (xs.eraseIdx i).length=(xs.eraseIdx i).map (Value.int .i64):=by
    apply mW
    intro j
    rw[uu,zx]
    split
    . rename_i h
      have B:j<xs.length:=by omega
      have C:j<cur.size:=by
       have:xs.length<=cur.size:=by rw[l];omega
       omega
      have x:d[j]! = (xs.eraseIdx i)[j]:=by
       have u:d=(xs.eraseIdx i++List.replicate (i+1-i) 0).toArray:=by rw[hd,z]
       rw[u]
       have D:j<(xs.eraseIdx i++List.replicate (i+1-i) 0).toArray.size:=by simp only[List.size_toArray,zp];omega
       rw[getElem!_pos _ j D,List.getElem_toArray,List.getElem_append_left h]
      simp only[Go.Sort.putCells,zK,Mq,lD,true_and,lX,DH]
      rw[uo C]
      simp only[vE]
      rw[if_pos (by rw[y];exact B),x]
      simp[h]
    . rename_i h
      rw[pK o_]
      rfl
   refine⟨?_,⟨rfl,rfl,rfl,Nat.le_of_eq n.symm,fun b hb K=>G b (fun e=>K (by simp[row,Value.ownBlock,e]))⟩,fun b c => .inl (by simpa[row,Value.ownBlock]using c),by simp[row,Value.ownBlock],fun b c => ?_⟩
   . refine⟨s_,.inr ⟨a, cap,_,by rw[E],hb,F,o_,k,by rw[I];exact l,?_⟩⟩
     rw[sD]
     simpa using J
   . simp[row,Value.ownBlock]at c
     subst c
     rw[n]
     exact A
end
end Go.Sx
namespace Go.Sx
open Go
section
variable {P:Program} {t:TypeId} {w:World}
theorem aev {a b : Field} {xs ys : Array Value} {f g y1 y2 : Value} {c d : Bool} (h : P.underlying t = some (.struct #[a, b])) (hs : P.stoodInHeld t = false) (n1 : a.name ≠ "_") (i : b.name ≠ "_")
 (j:(part a.type xs a.offset).run P w = .ok f w) (k:(part a.type ys a.offset).run P w = .ok y1 w) (p2:(part b.type xs b.offset).run P w = .ok g w) (l:(part b.type ys b.offset).run P w = .ok y2 w)
 (e1:(Op.equalIn 9999 a.type f y1).run P w = .ok c w) (e:(Op.equalIn 9999 b.type g y2).run P w = .ok d w):(Op.equal t (.agg xs) (.agg ys)).run P w = .ok (c&&d) w:=by
 show (Op.equalIn (9999+1) t _ _).run P w=_
 unfold Op.equalIn
 simp[run_underlying h,hs,n1,i,j,k,p2,l,e1,e]
 cases c<;>cases d<;>simp[e]
theorem aet{e:TypeId}{k:IntKind}{by_:Nat}{z:Value}(g:P.underlying t=some (.array 2 e))(f:P.underlying e=some (.int k))(hi:TI P e 1 by_ z)(a0 a1 b0 b1:Int) :
 (Op.equal t (.agg #[.int k a0,.int k a1]) (.agg #[.int k b0,.int k b1])).run P w = .ok (decide (a0=b0/\a1=b1)) w:=by
 have p:∀ (c d:Value),(part e #[c,d] 0).run P w = .ok c w/\(part e #[c,d] 1).run P w = .ok d w:=fun c d=>⟨wT f _ _ _ rfl,wT f _ _ _ rfl⟩
 have q:=fun a b=>KW (P:=P) (w:=w) 9998 f a b
 simp only[Nat.reduceAdd]at q
 show (Op.equalIn 10000 t _ _).run P w=_
 unfold Op.equalIn
 simp only[zt,run_underlying g,zo,hi.size,Std.Legacy.Range.forIn_eq_forIn_range', Std.Legacy.Range.size]
 simp only[show List.range' 0 ((2-0+1-1) / 1) 1=[0,1] from rfl,List.forIn_cons,List.forIn_nil,zt,sD,(p _ _).1,(p _ _).2,zo,q]
 by_cases h0:a0=b0
 . by_cases h1:a1=b1
   . simp[h0,h1,p,q,Result.andThen]
   . simp[h0,h1,p,q,Result.andThen]
 . simp[h0,p,q,Result.andThen]
theorem S3(a:P.underlying t=some .bool)(xs:Array Value)(i:Nat)(v:Value)(h:xs[i]? = some v):(part t xs i).run P w = .ok v w:=by
 simp[part,wS a,j6,h]
end
section
variable {r:Option Nat} {P:Program} {ops:Array Oper} {Q:Exit->Act->World->Prop} {rest:List Oper} {n:Nat} {s:List (Nat×Value)} {ds:List Deferred} {w:World}
variable {d:Nat} {dd:Option Nat} {ty t t' : TypeId} {pos:String} {af:Array Edge} {g:Option (Nat×Bool)} {x y:Operand} {xs ys:Array Value} {c:Bool}
theorem ab9(d:ev n s x = .agg xs)(e:ev n s y = .agg ys)(b:P.eqGuardType P.depth t=false)(a:∀ w,(Op.equal t (.agg xs) (.agg ys)).run P w = .ok c w) :
 (execOp (ev n s) ⟨dd,.binOp .neq t x y t', ty,pos,af,g⟩).run P w = .ok (.value (.bool (!c))) w:=by
 simp only[execOp,d,e,zt,run_eqGuard_agg .neq b,zo]
 simp only[binOp,zt,a,zo,zz]
theorem Rx(b:gC ops n s g=true)(f:ev n s x = .agg xs)(h:ev n s y = .agg ys)(e:P.eqGuardType P.depth t=false)(a:∀ w,(Op.equal t (.agg xs) (.agg ys)).run P w = .ok c w)
 (K:WL r P ops Q rest (Fr n ((d,.bool (!c)) :: s) ds) w):WL r P ops Q (⟨some d,.binOp .neq t x y t', ty,pos,af,g⟩ :: rest) (Fr n s ds) w:=pw b (fun _=>ab9 f h e a) K
theorem YL(b:gC ops n s g=true)(f:ev n s x = .agg xs)(h:ev n s y = .agg ys)(e:P.eqGuardType P.depth t=false)(a:∀ w,(Op.equal t (.agg xs) (.agg ys)).run P w = .ok c w)
 (K:WL r P ops Q rest (Fr n ((d,.bool c) :: s) ds) w):WL r P ops Q (⟨some d,.binOp .eql t x y t', ty,pos,af,g⟩ :: rest) (Fr n s ds) w:=by
 refine pw b (fun _=>?_) K
 simp only[execOp,f,h,zt,run_eqGuard_agg .eql e,zo]
 simp only[binOp,zt,a,zo,zz]
end
end Go.Sx
namespace Go.Sx
open Go
abbrev lN(k:IntKind)(e:Int×Value×Nat):MapEntry:=⟨.int k e.1,e.2.1,e.2.2⟩
section
variable {P:Program} {k k' : IntKind} {x:Int} {es:List (Int×Value×Nat)}
theorem wP{kt:TypeId}(hk:P.underlying kt=some (.int k'))(a:Bool)(n:Nat)(v:Value)(w:World):(Instr.checkKey a (n+1) kt v).run P w = .ok () w:=by simp[Instr.checkKey,run_underlying hk]
theorem wQ{kt:TypeId}{w:World}(hk:P.underlying kt=some (.int k')){l:List MapEntry}{v:Value}{q:Option (Nat×Value)}(h:Instr.findNow (.int k') v l 0=some q):(Instr.findKey kt v l).run P w = .ok q w:=by simp[Instr.findKey,run_underlying hk,h]
theorem aaF(x:Int)(w:World):(Instr.keyThatStays (.int k x) (.int k x)).run P w = .ok (.int k x) w:=by simp[Instr.keyThatStays,Instr.sameBits]
theorem VF{b:Nat}(w:World)(o:Obj):gw [b] w { w with heap:=w.heap.setIfInBounds b o } :=
 ⟨rfl,rfl,rfl,s_,fun c d a=>by
  have:b≠c:=fun e=>a (by simp[e])
  simp[Mn,this]⟩
theorem Cq{b:Nat}(w:World)(o:Obj):gw [b] w (w.putObj b o) :=
 ⟨rfl,rfl,rfl,by simp[World.putObj],fun c d a=>by
  have:b≠c:=fun e=>a (by simp[e])
  simp[World.putObj,Mn,this]⟩
theorem FM{b:Nat}{w:World}{o:Obj}{d:Array MapEntry}{a:Nat}(h:w.heap[b]? = some (.map d a)):(setObj b o).run P w = .ok () (w.putObj b o)/\(w.putObj b o).heap[b]? = some o:=by
 have c:=(qg.1 h).1
 exact⟨by simp only[setObj,Sem.run,h,World.putObj],World.putObj_heap_same c⟩
end
section
variable {r:Option Nat} {P:Program} {ops:Array Oper} {Q:Exit->Act->World->Prop} {rest l:List Oper} {n:Nat} {s s0:List (Nat×Value)} {ds:List Deferred} {w w0:World} {Nx:Value->World->Prop}
variable {d:Nat} {dd:Option Nat} {ty:TypeId} {pos:String} {af:Array Edge} {g:Option (Nat×Bool)} {x y m:Operand} {bs:List (World×List Nat)} {L L' : List fT} {t e kt:TypeId} {b:Nat} {k k' : IntKind} {ys:List Int} {a:Int}
theorem St.Fg{i:Nat}{R R' : fT}{o:Obj}(h:St bs L w)(hi:L[i]? = some R)(e:R.gH=[b])(d : R'.gH=[b])(g:∀ w' : World,w'.heap[b]? = some o->R'.holds w')(f:b<w.heap.size):St bs (L.set i R') (w.putObj b o):=by
 refine h.iR hi (by rw[e];exact Cq w o) (fun c a=>.inl (by rw[e];rwa [d]at a)) (by rw[d];simp) (fun c a=>?_) (g _ (World.putObj_heap_same f))
 rw[d]at a
 simp only[z8]at a
 subst a
 simpa[World.putObj]using f
end
end Go.Sx
namespace Go.Sx
open Go
section
variable {γ:Type}
def ir:List (Int×γ)->Int->Option γ
 | [],_=>none
 | (b,y) :: m,a=>if b=a then some y else ir m a
def gF:List (Int×γ)->Int->γ->List (Int×γ)
 | [],a,x=>[(a,x)]
 | (b,y) :: m,a,x=>if b=a then(a,x) :: m else(b,y) :: gF m a x
def je:List (Int×γ)->Int->List (Int×γ)
 | [],_=>[]
 | (b,y) :: m,a=>if b=a then m else(b,y) :: je m a
def gh[Inhabited γ](m:List (Int×γ))(a:Int):γ:=(ir m a).getD default
def ic(b:Nat)(k:IntKind)(enc:γ->Value)(m:List (Int×γ)):fT where
 gH:=[b]
 holds w:=∃ (es:List (Int×Value×Nat)) (a:Nat),w.heap[b]? = some (.map (es.map (lN k)).toArray a)/\es.map (fun e=>(e.1,e.2.1))=m.map (fun p=>(p.1,enc p.2))/\(es.map (fun e=>e.2.2)).Nodup/\∀ e∈es,e.2.2<a
 loc w w' h hh:=by
  obtain⟨es,a,c,d⟩:=hh
  exact⟨es,a,(h b s_).trans c,d⟩
theorem yD(m:List (Int×γ))(a c:Int)(x:γ):ir (gF m a x) c=if a=c then some x else ir m c:=by
 induction m with
 | nil=>simp[gF,ir]
 | cons p m b =>
  grind [gF,ir]
theorem J2{m:List (Int×γ)}(d:(m.map Prod.fst).Nodup)(a c:Int):ir (je m a) c=if a=c then none else ir m c:=by
 induction m with
 | nil=>simp[je,ir]
 | cons p m e =>
  obtain⟨b,y⟩:=p
  simp only[lV,zu]at d
  simp only[je]
  by_cases h:b=a
  . subst h
    rw[if_pos rfl]
    by_cases h1:b=c
    . subst h1
      rw[if_pos rfl]
      have:∀ (l:List (Int×γ)),b∉l.map Prod.fst->ir l b=none:=by
       intro l
       induction l with
       | nil=>intro _;rfl
       | cons q l f =>
        grind [ir]
      exact this m d.1
    . grind [ir]
  . grind [ir]
theorem Rj{m:List (Int×γ)}{a:Int}{x:γ}(h:ir m a=some x):(a,x)∈m:=by
 induction m with
 | nil=>simp[ir]at h
 | cons p m b =>
  grind [ir]
theorem Fl{m:List (Int×γ)}{a:Int}:ir m a=none↔a∉m.map Prod.fst:=by
 induction m with
 | nil=>simp[ir]
 | cons p m b =>
  grind [ir]
theorem Rl{m:List (Int×γ)}(b:(m.map Prod.fst).Nodup){a:Int}{x:γ}(h:(a,x)∈m):ir m a=some x:=by
 induction m with
 | nil=>simp at h
 | cons p m c =>
  grind [ir]
theorem aaG(m:List (Int×γ))(a:Int)(x:γ):(gF m a x).map Prod.fst=if a∈m.map Prod.fst then m.map Prod.fst else m.map Prod.fst++[a]:=by
 induction m with
 | nil=>simp[gF]
 | cons p m b =>
  grind [gF]
theorem Fv{m:List (Int×γ)}(b:(m.map Prod.fst).Nodup)(a:Int)(x:γ):((gF m a x).map Prod.fst).Nodup:=by
 grind [aaG]
theorem JV(m:List (Int×γ))(a:Int):(je m a).Sublist m:=by
 induction m with
 | nil=>exact List.Sublist.slnil
 | cons p m b =>
  grind [je]
theorem RB{m:List (Int×γ)}(b:(m.map Prod.fst).Nodup)(a:Int):((je m a).map Prod.fst).Nodup:=b.sublist ((JV m a).map _)
end
section
variable {γ:Type} {enc:γ->Value} {P:Program} {k k' : IntKind} {a:Int}
theorem EM(k k' : IntKind)(a:Int):∀ (es:List (Int×Value×Nat)) (m:List (Int×γ)) (i:Nat),es.map (fun e=>(e.1,e.2.1))=m.map (fun p=>(p.1,enc p.2)) ->
 (ir m a=none/\Instr.findNow (.int k') (.int k a) (es.map (lN k)) i=some none/\(∀ y,gF m a y=m++[(a,y)])/\je m a=m) \/
 (∃ j x e,ir m a=some x/\es[j]? = some e/\e.1=a/\Instr.findNow (.int k') (.int k a) (es.map (lN k)) i=some (some (i+j,enc x)) /\
  (∀ y,(es.set j (a,enc y,e.2.2)).map (fun e=>(e.1,e.2.1))=(gF m a y).map (fun p=>(p.1,enc p.2)))/\(es.eraseIdx j).map (fun e=>(e.1,e.2.1))=(je m a).map (fun p=>(p.1,enc p.2))):=by
 intro es
 induction es with
 | nil =>
  intro m i h
  cases m with
  | cons p m=>simp at h
  | nil=>exact .inl ⟨rfl,rfl,fun _=>rfl,rfl⟩
 | cons e es t =>
  intro m i h
  cases m with
  | nil=>simp at h
  | cons p m =>
   obtain⟨b,y⟩:=p
   simp only[lV,List.cons.injEq]at h
   obtain⟨n,l⟩:=h
   have o:e.1=b:=congrArg Prod.fst n
   have s:e.2.1=enc y:=congrArg Prod.snd n
   by_cases hb:b=a
   . refine .inr ⟨0,y,e,by simp[ir,hb],rfl,o.trans hb,?_,fun r => ?_,?_⟩
     . have:(a==e.1)=true:=by rw[o,hb];simp
       simp only[lV,Instr.findNow,Instr.sameNow,if_true,this,s,pM]
     . simp[gF,hb,l]
     . simp[je,hb,l]
   . have q:(a==e.1)=false:=by
      grind
     rcases t m (i+1) l with ⟨c,d,f,g⟩|⟨j,x,e', c,d,f,g,u,v⟩
     . refine .inl ⟨by simp[ir,hb,c],?_,fun r => by simp[gF,hb,f],by simp[je,hb,g]⟩
       simp only[lV,Instr.findNow,Instr.sameNow,if_true,q]
       exact d
     . refine .inr ⟨j+1,x,e', by simp[ir,hb,c],by simpa using d,f,?_,fun r => ?_,?_⟩
       . simp only[lV,Instr.findNow,Instr.sameNow,if_true,q]
         rw[g,lW,Nat.add_comm 1 j]
       . grind [gF]
       . grind [je]
theorem abW{es:List (Int×Value×Nat)}{j:Nat}{e:Int×Value×Nat}{v:Value}(h:es[j]? = some e)(b:e.1=a) :
 ((es.map (lN k)).toArray.modify j fun q=>{ q with key:=.int k a,val:=v })=((es.set j (a,v,e.2.2)).map (lN k)).toArray:=by
 grind
theorem IX{α β:Type}(f:α->β):∀ (l:List α) (j:Nat),(l.map f).eraseIdx j=(l.eraseIdx j).map f
 | [],_=>rfl
 | _ :: _,0=>rfl
 | a :: l,j+1=>by simp[IX f l j]
theorem YW{es:List (Int×Value×Nat)}{j:Nat}:((es.map (lN k)).toArray.eraseIdxIfInBounds j)=((es.eraseIdx j).map (lN k)).toArray:=by
 grind
end
section
variable {γ:Type} {enc:γ->Value}
variable {r:Option Nat} {P:Program} {ops:Array Oper} {Q:Exit->Act->World->Prop} {rest l:List Oper} {n:Nat} {s s0:List (Nat×Value)} {ds:List Deferred} {w w0:World} {Nx:Value->World->Prop}
variable {d:Nat} {dd:Option Nat} {ty:TypeId} {pos:String} {af:Array Edge} {g:Option (Nat×Bool)} {x y m:Operand} {bs:List (World×List Nat)} {L L' : List fT} {t e kt:TypeId} {b sz by_:Nat} {k k' : IntKind} {mm:List (Int×γ)} {a:Int} {z v:Value} {c:γ}
theorem JU{i:Nat}(c:St bs L w)(a:L[i]? = some (ic b k enc mm)):b<w.heap.size:=c.lt b (r0 a (by simp[ic]))
theorem wR{es:List (Int×Value×Nat)}{a:Nat}(h:w.heap[b]? = some (.map (es.map (lN k)).toArray a)):(getObj b).run P w = .ok (.map (es.map (lN k)).toArray a) w:=by
 simp[getObj,Sem.run,h]
theorem mkV{a : Option Operand}(enc:γ->Value)(k:IntKind)(c:gC ops n s g=true)(e:a = none)(f:St bs L w)
 (K:∀ b w', w.heap.size<=b->gw [] w w' -> St bs (ic b k enc [] :: L) w' -> WL r P ops Q rest (Fr n ((d,.map (some b)) :: s) ds) w') :
 WL r P ops Q (⟨some d,.makeMap t a, ty,pos,af,g⟩ :: rest) (Fr n s ds) w:=by
 subst e
 refine pv (v:=.map (some w.heap.size)) (w' := w.alloc (.map #[] 0)) c rfl ?_ (K _ _ (zj _) (gw.alloc [] w _) ?_)
 . simp only[execOp,Option.map_none,Instr.makeMap]
   rfl
 . exact f.sN (gw.alloc [] w _) (fun b hb=>by simp[ic]at hb;omega) (by simp[ic]) (fun b hb=>by simp[ic]at hb;simp;omega) ⟨[],0,heap_alloc_new w _,rfl,s_,s_⟩
section
variable [Inhabited γ]
theorem abb(i:Nat)(hm:ev n s m = .map (some b))(l:ev n s x = .int k a)(h:P.underlying t=some (.map kt e))(hk:P.underlying kt=some (.int k'))(u:TI P e sz by_ z)(y:enc default=z)(v:St bs L w)(r:L[i]? = some (ic b k enc mm)) :
 (execOp (ev n s) ⟨dd,.lookup t m x true,ty,pos,af,g⟩).run P w = .ok (.value (.tuple #[enc (gh mm a),.bool (ir mm a).isSome])) w:=by
 obtain⟨es,A,f,q,B,C⟩:(ic b k enc mm).holds w:=v.own _ (zd r)
 rcases EM k k' a es mm 0 q with ⟨c,o,_⟩|⟨j,D, e', c,_,_,p,_⟩
 . have d:=wQ (P:=P) (w:=w) hk o
   simp only[execOp,hm,l,Instr.lookup,zt,run_underlying h,zo,zz,wR f,wP hk,d,u.zR]
   simp[gh,c,y]
 . have d:=wQ (P:=P) (w:=w) hk p
   simp only[execOp,hm,l,Instr.lookup,zt,run_underlying h,zo,zz,wR f,wP hk,d]
   simp[gh,c]
theorem yB(i:Nat)(hm:ev n s m = .map (some b))(l:ev n s x = .int k a)(h:P.underlying t=some (.map kt e))(hk:P.underlying kt=some (.int k'))(u:TI P e sz by_ z)(y:enc default=z)(v:St bs L w)(r:L[i]? = some (ic b k enc mm)) :
 (execOp (ev n s) ⟨dd,.lookup t m x false,ty,pos,af,g⟩).run P w = .ok (.value (enc (gh mm a))) w:=by
 obtain⟨es,A,f,q,B,C⟩:(ic b k enc mm).holds w:=v.own _ (zd r)
 rcases EM k k' a es mm 0 q with ⟨c,o,_⟩|⟨j,D, e', c,_,_,p,_⟩
 . have d:=wQ (P:=P) (w:=w) hk o
   simp only[execOp,hm,l,Instr.lookup,zt,run_underlying h,zo,zz,wR f,wP hk,d,u.zR]
   simp[gh,c,y]
 . have d:=wQ (P:=P) (w:=w) hk p
   simp only[execOp,hm,l,Instr.lookup,zt,run_underlying h,zo,zz,wR f,wP hk,d]
   simp[gh,c]
theorem aba(i:Nat)(h:gC ops n s g=true)(hm:ev n s m = .map (some b))(o:ev n s x = .int k a)(l:P.underlying t=some (.map kt e))(hk:P.underlying kt=some (.int k'))(f:TI P e sz by_ z)(p:enc default=z)(j:St bs L w)(c:L[i]? = some (ic b k enc mm))
 (K:WL r P ops Q rest (Fr n ((d,.tuple #[enc (gh mm a),.bool (ir mm a).isSome]) :: s) ds) w):WL r P ops Q (⟨some d,.lookup t m x true,ty,pos,af,g⟩ :: rest) (Fr n s ds) w:=pv h rfl (abb i hm o l hk f p j c) K
theorem qZ(i:Nat)(h:gC ops n s g=true)(hm:ev n s m = .map (some b))(o:ev n s x = .int k a)(l:P.underlying t=some (.map kt e))(hk:P.underlying kt=some (.int k'))(f:TI P e sz by_ z)(p:enc default=z)(j:St bs L w)(c:L[i]? = some (ic b k enc mm))
 (K:WL r P ops Q rest (Fr n ((d,enc (gh mm a)) :: s) ds) w):WL r P ops Q (⟨some d,.lookup t m x false,ty,pos,af,g⟩ :: rest) (Fr n s ds) w:=pv h rfl (yB i hm o l hk f p j c) K
end
theorem ab0(i:Nat)(hm:ev n s m = .map (some b))(A:ev n s x = .int k a)(B:ev n s y=enc c)(z:P.underlying t=some (.map kt e))(hk:P.underlying kt=some (.int k'))(q:St bs L w)(p:L[i]? = some (ic b k enc mm))(G : L.set i (ic b k enc (gF mm a c))=L') :
 ∃ w', (execOp (ev n s) ⟨dd,.mapUpdate t m x y,ty,pos,af,g⟩).run P w = .ok .skip w' /\ St bs L' w' /\ gw [b] w w' := by
 subst G
 obtain⟨es,d,o,u,F,I⟩:(ic b k enc mm).holds w:=q.own _ (zd p)
 have v:=JU q p
 rcases EM k k' a es mm 0 u with ⟨C,f,l,_⟩|⟨j,K, e', C,f,l,D,E,_⟩
 . have r:=wQ (P:=P) (w:=w) hk f
   have hp:((es.map (lN k)).toArray.push ⟨.int k a,enc c,d⟩)=((es++[(a,enc c,d)]).map (lN k)).toArray:=by simp
   refine⟨w.putObj b (.map ((es++[(a,enc c,d)]).map (lN k)).toArray (d+1)),?_,q.Fg p rfl rfl (fun w' h=>⟨_,_,h,by rw[l];simp[u],?_,?_⟩) v,Cq w _⟩
   . simp only[execOp,hm,A,B,Instr.mapUpdate,zt,run_underlying z,zo,zz,wR o,wP hk,r,hp,(FM o).1]
   . grind
   . grind
 . have r:=wQ (P:=P) (w:=w) hk D
   have H:((es.map (lN k)).toArray[j]?).map (·.key)=some (.int k a):=by simp[f,l]
   refine⟨w.putObj b (.map ((es.set j (a,enc c,e'.2.2)).map (lN k)).toArray d),?_,q.Fg p rfl rfl (fun w' h=>⟨_,_,h,E c,?_,?_⟩) v,Cq w _⟩
   . simp only[execOp,hm,A,B,Instr.mapUpdate,zt,run_underlying z,zo,zz,wR o,wP hk,r,lX,H,Option.getD_some,aaF]
     rw[abW f l]
     simp only[(FM o).1,zz,zo]
   . have:(es.set j (a,enc c,e'.2.2)).map (fun e=>e.2.2)=es.map (fun e=>e.2.2):=by
      rw[List.map_set]
      have J:=(zh.1 f).1
      apply mW
      grind
     rw[this]
     exact F
   . grind
theorem ri(i:Nat)(l:gC ops n s g=true)(hm:ev n s m = .map (some b))(q:ev n s x = .int k a)(u:ev n s y=enc c)(p:P.underlying t=some (.map kt e))(hk:P.underlying kt=some (.int k'))(o:St bs L w)(h:L[i]? = some (ic b k enc mm))(j : L.set i (ic b k enc (gF mm a c))=L')
 (K:∀ w', St bs L' w' -> WL r P ops Q rest (Fr n s ds) w'):WL r P ops Q (⟨none,.mapUpdate t m x y,ty,pos,af,g⟩ :: rest) (Fr n s ds) w:=by
 obtain⟨w', d,f,_⟩:=ab0 (dd:=none) (ty:=ty) (pos:=pos) (af:=af) (g:=g) i hm q u p hk o h j
 exact Dh l rfl d (K w' f)
theorem Wy{t' : TypeId}(i:Nat)(hm:ev n s m = .map (some b))(B:ev n s x = .int k a)(A:P.underlying t=some (.map kt e))(hk:P.underlying kt=some (.int k'))(f:St bs L w)(d:L[i]? = some (ic b k enc mm))(F : L.set i (ic b k enc (je mm a))=L') :
 ∃ w', (execOp (ev n s) ⟨dd,.call ⟨.builtin .delete,#[m,x],#[t,t']⟩,ty,pos,af,g⟩).run P w = .ok (.value (.tuple #[])) w' /\ St bs L' w' /\ gw [b] w w' := by
 subst F
 obtain⟨es,o,c,u,v,y⟩:(ic b k enc mm).holds w:=f.own _ (zd d)
 have z:=JU f d
 rcases EM k k' a es mm 0 u with ⟨C,q,_,r⟩|⟨j,G, e', C,q,r,D,_,E⟩
 . have l:=wQ (P:=P) (w:=w) hk q
   refine⟨w.putObj b (.map (es.map (lN k)).toArray o),?_,f.Fg d rfl rfl (fun w' h=>⟨_,_,h,by rw[r];exact u,v,y⟩) z,Cq w _⟩
   simp only[execOp,resolve,invoke,builtin,zt,zz,zo,G0,lV,BH,hm,B]
   simp only[Builtin.delete_]
   simp only[BB,List.getElem?_cons_zero,List.getElem?_cons_succ,zt,run_underlying A,zo,wR c,wP hk,l,(FM c).1,zz]
 . have l:=wQ (P:=P) (w:=w) hk D
   refine⟨w.putObj b (.map ((es.eraseIdx j).map (lN k)).toArray o),?_,f.Fg d rfl rfl (fun w' h=>⟨_,_,h,E,v.sublist ((List.eraseIdx_sublist _ _).map _),fun p hp=>y p ((List.eraseIdx_sublist _ _).subset hp)⟩) z,Cq w _⟩
   simp only[execOp,resolve,invoke,builtin,zt,zz,zo,G0,lV,BH,hm,B]
   simp only[Builtin.delete_]
   simp only[BB,List.getElem?_cons_zero,List.getElem?_cons_succ,zt,run_underlying A,zo,wR c,wP hk,l,lX]
   rw[YW]
   simp only[(FM c).1,zz,zo]
theorem Cs{t' : TypeId}(i:Nat)(j:gC ops n s g=true)(hm:ev n s m = .map (some b))(p:ev n s x = .int k a)(o:P.underlying t=some (.map kt e))(hk:P.underlying kt=some (.int k'))(l:St bs L w)(f:L[i]? = some (ic b k enc mm))(h : L.set i (ic b k enc (je mm a))=L')
 (K:∀ w', St bs L' w' -> WL r P ops Q rest (Fr n (kT dd (.tuple #[]) s) ds) w'):WL r P ops Q (⟨dd,.call ⟨.builtin .delete,#[m,x],#[t,t']⟩,ty,pos,af,g⟩ :: rest) (Fr n s ds) w:=by
 obtain⟨w', c,d,_⟩:=Wy (dd:=dd) (ty:=ty) (pos:=pos) (af:=af) (g:=g) (t' := t') i hm p o hk l f h
 exact Ur j rfl c (by rw[zU];exact K w' d)
end
end Go.Sx
namespace Go.Sx
open Go
theorem Ie{xs:List Nd}{q:Nat}:∀ {c:Cx} {j:Nat} {L:List Nat},At xs c j L q->Out xs q (lP c L)->∀ (k v:Nat),(js c j)[k]? = some v ->
 (k<c.length->(jF xs v).2=true/\(js c j)[k+1]? = some (fJ xs v).up)/\(k=c.length->jF xs v=(0,false))
 | [],j,L,h,ho,k,v,hk=>by
  cases k with
  | succ k=>simp[js]at hk
  | zero =>
   simp[js]at hk
   subst hk
   exact⟨fun h=>absurd h s_,fun _=>h.stop ho⟩
 | (d,g,s) :: c,j,L,h,ho,k,v,hk=>by
  obtain⟨f,i,l⟩:=h.step
  cases k with
  | zero =>
   simp[js]at hk
   subst hk
   exact⟨fun _=>⟨by rw[f],by simp[js,i]⟩,fun h=>absurd h s_⟩
  | succ k =>
   have m : (js c g)[k]? = some v:=by simpa[js]using hk
   have:=Ie l ho k v m
   refine⟨fun e=>?_,fun e=>this.2 (by simpa using e)⟩
   obtain⟨a,b⟩:=this.1 (by simpa using e)
   exact⟨a,by simpa[js]using b⟩
theorem jG.Qw{b xs:List Nd}{a t s:Tr}{O:Cx}{q g:Nat}{d:Bool}(h:jG b xs a O (mQ d t g s) q)(c:(fJ xs g).flip=false):jG b xs a ((d,g,s) :: O) t q :=
 ⟨h.rep,h.perm,h.ord,h.kl,h.other,fun f hm=>by
  rcases ze.1 hm with rfl|hm
  . exact c
  . exact h.flip f hm⟩
theorem L6{i:Nat}{t:Tr}{w:List Nat}(h:Way i t w):∃ l r w', t = .nd l (w.headD 0) r/\w=w.headD 0 :: w' := by
 cases t with
 | nil=>exact h.elim
 | nd l j r =>
  rcases h with ⟨rfl,rfl⟩|⟨w', rfl,_⟩
  . exact⟨l,r,[],rfl,rfl⟩
  . exact⟨l,r,w', rfl,rfl⟩
theorem agB{o xs:List Nd}{k U:Tr}{O:Cx}{q i j:Nat}{w:List Nat}(h:jG o xs k O U q)(x:k.mem.Nodup)(c:Way i U (j :: w)) :
 (w=[]->j=i/\∃ a b,jG o (kf xs j) k O (.nd a i b) q/\(fJ (kf xs j) i).flip=false)/\(w≠[]->∃ s p, jG o (kf xs j) k s p q/\Way i p w):=by
 obtain⟨l,r,w', e1,t⟩:=L6 c
 simp only[List.headD_cons]at e1 t
 subst e1
 obtain⟨l', m, v,hm,n⟩:=h.push x
 refine⟨fun e=>?_,fun e=>?_⟩
 . rcases c with ⟨rfl,_⟩|⟨y,g,c⟩
   . exact⟨rfl,l', m, hm,n⟩
   . cases g
     subst e
     rcases c with c|c<;>(obtain⟨_,_,_,_,u⟩:=L6 c;cases u)
 . rcases c with ⟨_,g⟩|⟨y,g,c⟩
   . cases g
     exact absurd rfl e
   . cases g
     have f:Way i l' w\/Way i m w:=by
      rcases v with ⟨rfl,rfl⟩|⟨rfl,rfl⟩
      . exact c
      . exact c.symm
     rcases f with f|f
     . exact⟨(true,j,m) :: O,l', jG.Qw (d:=true) hm n,f⟩
     . exact⟨(false,j,l') :: O,m, jG.Qw (d:=false) hm n,f⟩
theorem fZ.push{xs:List Nd}(h:fZ xs){i:Nat}(hi:i<xs.length):fZ (kf xs i)/\(kf xs i).length=xs.length:=by
 unfold kf
 split
 . simp only
   obtain⟨y0,g⟩:∃ y,y=fM xs i (fun x=>{ x with flip:=false }):=⟨_,rfl⟩
   have k:fZ y0:=g▸h.iR hi fun x a b c d e=>⟨a,b,c,d,e⟩
   have l0:y0.length=xs.length:=by rw[g,gx]
   rw[<-g]
   obtain⟨y1,e1⟩:∃ y,y=fM y0 i (fun x=>{ x with k0:=(fJ y0 i).k1 }):=⟨_,rfl⟩
   have p:fZ y1:=e1▸k.iR o_ fun x a b c d e=>⟨k.k1 i o_,b,c,d,e⟩
   have r:y1.length=xs.length:=by rw[e1,gx,l0]
   rw[<-e1]
   obtain⟨y2,j⟩:∃ y,y=fM y1 i (fun x=>{ x with k1:=(fJ y0 i).k0 }):=⟨_,rfl⟩
   have q:(fJ y0 i).k0<y1.length:=by
    have:=k.k0 i o_
    omega
   have f:fZ y2:=by
    rw[j]
    exact p.iR o_ fun x a b c d e=>⟨a,q,c,d,e⟩
   have n:y2.length=xs.length:=by rw[j,gx,r]
   rw[<-j]
   obtain⟨o,m⟩:∃ y,y=(if (fJ y2 i).k0=0 then y2 else fM y2 (fJ y2 i).k0 (fun x=>{ x with flip := !(fJ y2 (fJ y2 i).k0).flip })):=⟨_,rfl⟩
   have l:fZ o/\o.length=xs.length:=by
    rw[m]
    split
    . exact⟨f,n⟩
    . exact⟨f.iR (f.k0 i o_) fun x a b c d e=>⟨a,b,c,d,e⟩,by rw[gx,n]⟩
   rw[<-m]
   split
   . exact l
   . exact⟨l.1.iR (by have:=f.k1 i o_;omega) fun x a b c d e=>⟨a,b,c,d,e⟩,by rw[gx];exact l.2⟩
 . exact⟨h,rfl⟩
theorem jG.out{c xs:List Nd}{a U:Tr}{O:Cx}{q:Nat}(h:jG c xs a O U q)(g:Out c q a.mem):Out xs q (lP O U.mem):=by
 have hm:∀ j,j∈lP O U.mem↔j∈a.mem:=fun j=>by rw[<-p7];exact h.perm.mem_iff
 rcases g with e|⟨d,f,b⟩
 . exact .inl e
 . have e:=h.other q b
   refine .inr ⟨fun k=>d ?_,fun k=>f ?_,fun k=>b ((hm _).1 k)⟩
   . have:=(hm _).1 k
     simpa only[jr,e]using this
   . have:=(hm _).1 k
     simpa only[jr,e]using this
theorem jG.sides{r xs:List Nd}{k a b:Tr}{O:Cx}{q i:Nat}(h:jG r xs k O (.nd a i b) q)(t:k.mem.Nodup)(u:Out r q k.mem) :
 (O=[]/\jF xs i=(0,false))\/(∃ d p s,O=[(d,p,s)]/\jF xs i=(sd d,true)/\(fJ xs i).up=p/\jF xs p=(0,false)) \/
 (∃ d p s j g o c,O=(d,p,s) :: (j, g,o) :: c/\jF xs i=(sd d,true)/\(fJ xs i).up=p/\jF xs p=(sd j, true)):=by
 have e:=At.start h.rep (h.perm.nodup_iff.2 t)
 have f:=h.out u
 match O,e,f with
 | [],e,f=>exact .inl ⟨rfl,e.stop f⟩
 | [(d,p,s)],e,f =>
  obtain⟨l,m,n⟩:=e.step
  exact .inr (.inl ⟨d,p,s,rfl,l,m,n.stop f⟩)
 | (d,p,s) :: (j, g,o) :: c,e,f =>
  obtain⟨l,m,n⟩:=e.step
  exact .inr (.inr ⟨d,p,s,j, g,o, c,rfl,l,m,n.step.1⟩)
theorem aeD{d a : Bool}(h:sd d=sd a):d=a := by cases d<;>cases a <;> first|rfl|cases h
end Go.Sx
namespace Go.Sx
open Go
section
variable {w:World} {bs:List (World×List Nat)} {L:List fT} {R R' : fT} {i j:Nat} {k:IntKind} {v:Value} {e:TypeId} {ys:List Int}
theorem Y7:∀ {L:List fT} {i j:Nat},(iZ L).Nodup->L[i]? = some R->L[j]? = some R' -> i≠j->∀ b∈R.gH,b∉R'.gH:=by
 intro L
 induction L with
 | nil=>intro i j _ h;simp at h
 | cons Q L f =>
  intro i j c hi a e b hb
  rw[ng,zr]at c
  cases i with
  | zero =>
   simp at hi;subst hi
   cases j with
   | zero=>exact absurd rfl e
   | succ j=>exact fun d => c.2.2 b hb b (r0 (i:=j) (by simpa using a) d) rfl
  | succ i =>
   cases j with
   | zero=>simp at a;subst a;exact fun d => c.2.2 b d b (r0 (i:=i) (by simpa using hi) hb) rfl
   | succ j=>exact f c.2.1 (by simpa using hi) (by simpa using a) o_ b hb
theorem St.aej(h:St bs L w)(hi:L[i]? = some (ig k v e ys))(hk:∀ y∈ys,ia k y)(o:L[j]? = some R)(r:i≠j):Ints k (fun b=>b∉R.gH) w v ys:=by
 have c:w.ownsRow 0 e 1 v ys.length (ys.map (.int k)):=h.own _ (zd hi)
 rcases c.2 with ⟨rfl,l⟩|⟨a, f,cur,rfl,_,s,m,n,_⟩
 . have:ys=[]:=xo l
   subst this
   exact Sl.nil _ _ _ _
 . refine⟨_,f,rfl,m,n,fun q y d=>⟨a, 0,[.int k y],rfl,Y7 h.sep hi o r a (by simp[row,Value.ownBlock]),rfl,⟨rfl,hk y (zd d)⟩,fun p u hp=>?_⟩⟩
   cases p with
   | zero =>
    simp at hp
    subst hp
    have:=c.cells (g:=a) rfl q (.int k y) (by simp[d])
    rw[Addr.add_lit]at this
    simpa using this
   | succ p=>simp at hp
end
end Go.Sx
namespace Go.Sx
open Go
theorem Tq{α:Type}{l:List α}{i:Nat}{x:α}(h:l[i]? = some x):l.take (i+1)=l.take i++[x]:=by rw[oU,h];rfl
theorem fZ.rotate{xs:List Nd}(h:fZ xs){i:Nat}(hi:i<xs.length):fZ (iP xs i)/\(iP xs i).length=xs.length:=by
 have hp:=h.up i hi
 have j:=h.up _ hp
 unfold iP
 simp only
 obtain⟨y1,e1⟩:∃ y,y=(if (jF xs (fJ xs i).up).2=true then i7 xs (fJ xs (fJ xs i).up).up (jF xs (fJ xs i).up).1 i else fM xs i (fun x=>{ x with up:=(fJ xs (fJ xs i).up).up })):=⟨_,rfl⟩
 have f:fZ y1/\y1.length=xs.length:=by
  rw[e1]
  split
  . exact⟨h.kP j hi,ES _ _ _ _⟩
  . exact⟨h.iR hi fun x a b c d e=>⟨a,b,j,d,e⟩,gx⟩
 rw[<-e1]
 obtain⟨k,g⟩:∃ k,k=(if (jF xs i).1=0 then(fJ y1 i).k1 else(fJ y1 i).k0):=⟨_,rfl⟩
 have n:k<y1.length:=by
  rw[g]
  split
  . exact f.1.k1 i o_
  . exact f.1.k0 i o_
 rw[<-g]
 have l:fZ (i7 y1 (fJ xs i).up (jF xs i).1 k):=f.1.kP o_ n
 have o:(i7 y1 (fJ xs i).up (jF xs i).1 k).length=xs.length:=by rw[ES];exact f.2
 have m:fZ (i7 (i7 y1 (fJ xs i).up (jF xs i).1 k) i (1-(jF xs i).1) (fJ xs i).up):=l.kP o_ o_
 have p:(i7 (i7 y1 (fJ xs i).up (jF xs i).1 k) i (1-(jF xs i).1) (fJ xs i).up).length=xs.length:=by rw[ES];exact o
 exact⟨(m.lS o_).lS (by rw[FG];omega),by rw[FG,FG];exact p⟩
theorem CY{xs:List Nd}(h:fZ xs){i:Nat}(hi:i<xs.length):(iP xs i).length=xs.length:=(h.rotate hi).2
def lQ(xs:List Nd)(P:List Nat)(k:Nat):List Nd:=(P.reverse.take k).foldl kf xs
theorem Sy(xs:List Nd)(P:List Nat):lQ xs P 0=xs:=by simp[lQ]
theorem Sw{xs:List Nd}{P:List Nat}{k j:Nat}(h:P.reverse[k]? = some j):lQ xs P (k+1)=kf (lQ xs P k) j:=by
 unfold lQ
 rw[Tq h,DC]
 rfl
theorem fZ.lQ{xs:List Nd}(h:fZ xs){P:List Nat}(d:∀ j∈P,j<xs.length):∀ k,fZ (Go.Sx.lQ xs P k)/\(Go.Sx.lQ xs P k).length=xs.length:=by
 intro k
 induction k with
 | zero=>rw[Sy];exact⟨h,rfl⟩
 | succ k c =>
  cases hk:P.reverse[k]? with
  | none =>
   have:Go.Sx.lQ xs P (k+1)=Go.Sx.lQ xs P k:=by
    unfold Go.Sx.lQ
    rw[oU,hk]
    simp
   rw[this]
   exact c
  | some j =>
   rw[Sw hk]
   have e:j∈P:=by simpa using zd hk
   obtain⟨a,b⟩:=c.1.push (i:=j) (by rw[c.2];exact d j e)
   exact⟨a,by rw[b,c.2]⟩
theorem agz{d:List Nd}{c:Tr}{q i:Nat}(f:c.mem.Nodup):∀ (w:List Nat) (xs:List Nd) (O:Cx) (U:Tr),jG d xs c O U q->Way i U w->∃ e a b,jG d (w.foldl kf xs) c e (.nd a i b) q/\(fJ (w.foldl kf xs) i).flip=false:=by
 intro w
 induction w with
 | nil =>
  grind [L6]
 | cons j w m =>
  intro xs O U h g
  obtain⟨k,l⟩:=agB h f g
  by_cases hw0:w=[]
  . grind
  . grind
theorem adx{xs:List Nd}{c:Cx}{a b:Tr}{i q:Nat}(e:gP xs (j9 c (.nd a i b)) q)(f:(j9 c (.nd a i b)).mem.Nodup){k:Nat}(hk:k=(js c i).length):∃ O a' d, jG xs (lQ xs (js c i) k) (j9 c (.nd a i b)) O (.nd a' i d) q/\(fJ (lQ xs (js c i) k) i).flip=false:=by
 have:=agz f _ xs [] _ (jG.start e) (agA c a i b)
 unfold lQ
 rw[BG (by simp[hk])]
 exact this
theorem acT{xs:List Nd}{c:Cx}{a b:Tr}{i q:Nat}(e:gP xs (j9 c (.nd a i b)) q):∀ j∈js c i,j<xs.length:=by
 intro j d
 refine(e.qz j ?_).2
 rw[p7]
 refine CL.2 ?_
 rcases ze.1 d with rfl|d
 . exact .inl (by simp[Tr.mem])
 . obtain⟨f,g,rfl⟩:=zy.1 d
   exact .inr (JY g)
theorem Ow:∀ (c:Cx) (L:List Nat),c.length+L.length<=(lP c L).length
 | [],L=>by simp[lP]
 | (d,g,s) :: c,L=>by
  have:=Ow c (j5 d L g s)
  rw[lP]
  cases d<;>simp only[j5,cond_true,cond_false,zp,zb]at * <;> omega
theorem acS{c:Cx}{a b:Tr}{i:Nat}:(js c i).length=c.length+1/\c.length+1<=(j9 c (.nd a i b)).mem.length:=by
 refine⟨by simp[js],?_⟩
 rw[p7]
 have:=Ow c (Tr.nd a i b).mem
 simp only[Tr.mem,zp,zb]at *
 omega
section
variable {xs:List Nd} {c:Cx} {q j k v s:Nat} {L:List Nat} {i:Nat}
theorem VN(h:At xs c i L q)(a:Out xs q (lP c L))(hk:(js c i)[k]? = some v)(hs:jF xs v=(s,false)):k=c.length:=by
 have b:=Ie h a k v hk
 grind [js]
theorem Oi(h:At xs c i L q)(a:Out xs q (lP c L))(hk:(js c i)[k]? = some v)(hs:jF xs v=(s,true)):k<c.length/\(js c i)[k+1]? = some (fJ xs v).up:=by
 grind [Ie,js]
end
abbrev gz(P:List Nat):List Int:=P.map (fun(x:Nat)=>(x:Int))
theorem Ka{P:List Nat}{k j:Nat}(h:P[k]? = some j):gz (P.take k)++[(j:Int)]=gz (P.take (k+1)):=by
 rw[Tq h,gz,gz,qd]
 rfl
theorem Fq{m:Nat}{P:List Nat}(h:∀ j∈P,j<m)(hm:m<=1000001):∀ y∈gz P,ia .i64 y:=by
 intro y b
 obtain⟨j,a,rfl⟩:=zy.1 b
 have:=h j a
 show (-9223372036854775808:Int)<=_/\_<=(9223372036854775807:Int)
 omega
theorem ab7{P:List Nat}{k:Nat}{x:Int}(hk:k<(gz P).length)(h:(gz P)[(gz P).length-1-k]? = some x):∃ j,P.reverse[k]? = some j/\x=(j:Int):=by
 grind
end Go.Sx
namespace Go.Sx
open Go
instance:Inhabited (Value×List Nat):=⟨(.slice none 0 0,[])⟩
abbrev IM:=List (Int×(Value×List Nat))
def jE(e:TypeId)(m:IM):fT:=gm (m.map fun p=>ig .i64 p.2.1 e (gz p.2.2))
theorem J5{γ:Type}(m:List (Int×γ))(a:Int)(x:γ):(gF m a x).Perm ((a,x) :: je m a):=by
 induction m with
 | nil=>exact List.Perm.refl _
 | cons p m b =>
  obtain⟨c,y⟩:=p
  unfold gF je
  split
  . rename_i h
    exact List.Perm.refl _
  . rename_i h
    exact(List.Perm.cons _ b).trans (List.Perm.swap _ _ _)
theorem J3{γ:Type}{m:List (Int×γ)}{a:Int}{x:γ}(h:ir m a=some x):m.Perm ((a,x) :: je m a):=by
 induction m with
 | nil=>simp[ir]at h
 | cons p m d =>
  obtain⟨c,y⟩:=p
  unfold ir at h
  unfold je
  split at h
  . rename_i b
    rw[if_pos b]
    cases h
    rw[b]
  . rename_i b
    rw[if_neg b]
    exact(List.Perm.cons _ (d h)).trans (List.Perm.swap _ _ _)
theorem Rg{γ:Type}{m:List (Int×γ)}{a:Int}(h:ir m a=none):je m a=m:=by
 induction m with
 | nil=>rfl
 | cons p m d =>
  obtain⟨c,y⟩:=p
  unfold ir at h
  unfold je
  split at h
  . cases h
  . rename_i b
    rw[if_neg b,d h]
section
variable {bs:List (World×List Nat)} {L:List fT} {w:World} {e:TypeId} {m:IM} {a:Int}
theorem St.xW{a:IM}(h:St bs (jE e m :: L) w)(hp:m.Perm a):St bs (jE e a :: L) w :=
 St.pack _ _ ((St.unpack h).perm ((hp.map _).append_right _))
theorem St.PY{p:Int×(Value×List Nat)}(h:St bs (jE e (p :: m) :: L) w):St bs (ig .i64 p.2.1 e (gz p.2.2) :: jE e m :: L) w:=by
 have a:St bs (([ig .i64 p.2.1 e (gz p.2.2)]++m.map fun p=>ig .i64 p.2.1 e (gz p.2.2))++L) w:=St.unpack h
 rw[oT]at a
 have b:=a.perm (L' := (m.map fun p=>ig .i64 p.2.1 e (gz p.2.2))++([ig .i64 p.2.1 e (gz p.2.2)]++L)) (by
  rw[<-oT,<-oT]
  exact List.Perm.append_right _ qG)
 exact(St.pack _ _ b).swap
theorem St.Ik{p:Int×(Value×List Nat)}(h:St bs (ig .i64 p.2.1 e (gz p.2.2) :: jE e m :: L) w):St bs (jE e (p :: m) :: L) w:=by
 have a:St bs ((m.map fun p=>ig .i64 p.2.1 e (gz p.2.2))++(ig .i64 p.2.1 e (gz p.2.2) :: L)) w:=St.unpack h.swap
 refine St.pack _ _ (a.perm ?_)
 show List.Perm _ (ig .i64 p.2.1 e (gz p.2.2) :: ((m.map fun p=>ig .i64 p.2.1 e (gz p.2.2))++L))
 exact uz
theorem St.Y4(a:Int)(h:St bs (jE e m :: L) w):St bs (ig .i64 (gh m a).1 e (gz (gh m a).2) :: jE e (je m a) :: L) w:=by
 unfold gh
 cases hm:ir m a with
 | none =>
  rw[Rg hm]
  exact St.Ef h e 1
 | some x=>exact(h.xW (J3 hm)).PY
theorem St.Y3{v:Value}{xs:List Nat}(h:St bs (ig .i64 v e (gz xs) :: jE e (je m a) :: L) w):St bs (jE e (gF m a (v,xs)) :: L) w :=
 (St.Ik (p:=(a,(v,xs))) h).xW (J5 m a (v,xs)).symm
theorem St.IY(h:St bs L w):St bs (jE e [] :: L) w:=St.pack [] L h
end
theorem CM(ds:List Nat)(i:Nat):gz (ds++[i])=gz ds++[(i:Int)]:=by simp[gz]
theorem J8(ds:List Nat)(i:Nat):(gz ds).eraseIdx i=gz (ds.eraseIdx i):=by
 rw[gz,GK,GK]
 simp[gz]
end Go.Sx
namespace Go.Sx
open Go
section
variable {γ:Type}
def l8(b r:Nat)(k:IntKind)(enc:γ->Value)(m todo:List (Int×γ))(cur:Option (Int×γ)):fT where
 gH:=[b,r]
 holds w:=∃ (es:List (Int×Value×Nat)) (a:Nat) (f:Array Nat) (c d:Nat),w.heap[b]? = some (.map (es.map (lN k)).toArray a)/\es.map (fun e=>(e.1,e.2.1))=m.map (fun p=>(p.1,enc p.2))/\(es.map (fun e=>e.2.2)).Nodup/\(∀ e∈es,e.2.2<a) /\
  w.heap[r]? = some (.mapIter (some b) c f d)/\c<=d/\c<=a/\(∀ e∈es,e.2.2<c) /\
  (es.filter fun e => !f.contains e.2.2).map (fun e=>(e.1,e.2.1))=todo.map (fun p=>(p.1,enc p.2)) /\
  ∀ p,cur=some p->d=a/\∃ (q:Array Nat) (e:Int×Value×Nat),f=q.push e.2.2/\e∈es/\e.1=p.1/\e.2.1=enc p.2
 loc w w' h hh:=by
  obtain⟨es,a,f,c,d,g,i,j,l,n,o⟩:=hh
  exact⟨es,a,f,c,d,(h b s_).trans g,i,j,l,(h r s_).trans n,o⟩
theorem ZD{es:List (Int×Value×Nat)}{p:Nat->Bool}{e:Int×Value×Nat}(b:(es.map (fun e=>e.2.2)).Nodup)(a:e∈es)(hp:p e.2.2=true) :
 ∃ j,(es.filter fun x=>p x.2.2)[j]? = some e/\(es.filter fun x=>p x.2.2 && !(x.2.2==e.2.2))=(es.filter fun x=>p x.2.2).eraseIdx j:=by
 induction es with
 | nil=>simp at a
 | cons x es i =>
  simp only[lV,zu]at b
  rcases ze.1 a with rfl|a
  . refine⟨0,by simp[hp],?_⟩
    rw[uy,if_neg s_,uy,if_pos hp]
    simp only[List.eraseIdx_cons_zero]
    refine ux fun y g=>?_
    have:y.2.2≠e.2.2:=fun h=>b.1 (by rw[<-h];exact zy.2 ⟨y,g,rfl⟩)
    simp[this]
  . obtain⟨j,c,d⟩:=i b.2 a
    have f:x.2.2≠e.2.2:=fun h=>b.1 (by rw[h];exact zy.2 ⟨e,a,rfl⟩)
    by_cases hx:p x.2.2=true
    . refine⟨j+1,by rw[uy,if_pos hx];simpa using c,?_⟩
      rw[uy,if_pos (by simp[hx,f]),uy,if_pos hx,List.eraseIdx_cons_succ,d]
    . refine⟨j,by rw[uy,if_neg hx];exact c,?_⟩
      rw[uy,if_neg (by simp[hx]),uy,if_neg hx,d]
end
section
variable {γ:Type} {enc:γ->Value}
variable {r:Option Nat} {P:Program} {ops:Array Oper} {Q:Exit->Act->World->Prop} {rest l:List Oper} {n:Nat} {s s0:List (Nat×Value)} {ds:List Deferred} {w w0:World} {Nx:Value->World->Prop}
variable {d:Nat} {dd:Option Nat} {ty:TypeId} {pos:String} {af:Array Edge} {g:Option (Nat×Bool)} {x y m:Operand} {bs:List (World×List Nat)} {L L' : List fT} {t e kt:TypeId} {b rb:Nat} {k k' : IntKind} {mm todo:List (Int×γ)} {a:Int} {z v:Value} {c:γ} {cur:Option (Int×γ)}
theorem rgM(i:Nat)(x:gC ops n s g=true)(hm:ev n s m = .map (some b))(z:P.underlying t=some (.map kt e))(j:St bs L w)(h:L[i]? = some (ic b k enc mm))
 (K:∀ rb w', St bs (L.set i (l8 b rb k enc mm mm none)) w' -> WL r P ops Q rest (Fr n ((d,.pointer (some ⟨rb,0,none⟩)) :: s) ds) w'):WL r P ops Q (⟨some d,.range t m,ty,pos,af,g⟩ :: rest) (Fr n s ds) w:=by
 obtain⟨es,a,l,o,u,q⟩:(ic b k enc mm).holds w:=j.own _ (zd h)
 have y:=JU j h
 refine pv (v:=.pointer (some ⟨w.heap.size,0,none⟩)) (w' := w.alloc (.mapIter (some b) a #[] a)) x rfl ?_ (K _ _ ?_)
 . simp only[execOp,hm,zt,run_range_map w t kt e b _ a z l,zo,zz]
 . refine j.iR h (gw.alloc _ w _) (fun c f=>?_) ?_ (fun c f=>?_) ?_
   . simp[l8]at f
     rcases f with rfl|rfl
     . exact .inl (by simp[ic])
     . exact .inr (zj _)
   . simp[l8];omega
   . simp[l8]at f
     simp only[World.alloc,Array.size_push]
     omega
   . exact⟨es,a,#[],a,a,(heap_alloc_old w _ y).trans l,o,u,q,heap_alloc_new w _,zj _,zj _,q,by rw[zO.2 s_];exact o,fun p hp=>by cases hp⟩
theorem St.abC{i:Nat}(e:St bs L w)(d:L[i]? = some (l8 b rb k enc mm todo cur)):St bs (L.set i (ic b k enc mm)) w:=by
 obtain⟨es,f,o,n,m,g,h,j,l,_⟩:(l8 b rb k enc mm todo cur).holds w:=e.own _ (zd d)
 refine e.iR d (gw.refl _ w) (fun c a=>.inl ?_) (by simp[ic]) (fun c a=>?_) ⟨es,f,g,h,j,l⟩
 . simp[ic]at a
   simp[l8,a]
 . refine e.lt c (r0 d ?_)
   simp[ic]at a
   simp[l8,a]
structure UH (P:Program) (bs:List (World×List Nat)) (L:List fT) (i b rb:Nat) (k:IntKind) (enc:γ->Value) (mm todo todo2:List (Int×γ)) (p:Int×γ) (w w' : World):Prop where
 run:∀ ty,(Instr.next (.pointer (some ⟨rb,0,none⟩)) false ty).run P w = .ok (.tuple #[.bool true,.int k p.1,enc p.2]) w'
 st:St bs (L.set i (l8 b rb k enc mm todo2 (some p))) w'
 perm:todo.Perm (p :: todo2)
theorem abD(P:Program){i:Nat}(s:St bs L w)(r:L[i]? = some (l8 b rb k enc mm todo cur)) :
 (todo=[]/\∀ ty,(Instr.next (.pointer (some ⟨rb,0,none⟩)) false ty).run P w = .ok (.tuple #[.bool false]) w)\/∃ p ag w', UH P bs L i b rb k enc mm todo ag p w w' := by
 obtain⟨es,f,d,m,D,t,X,E,Y,u,F,G, H,o,h9⟩:(l8 b rb k enc mm todo cur).holds w:=s.own _ (zd r)
 have hb:b<w.heap.size:=s.lt b (r0 r (by simp[l8]))
 have ad:rb<w.heap.size:=s.lt rb (r0 r (by simp[l8]))
 have N:b≠rb:=by
  rintro rfl
  rw[t]at u
  cases u
 have O:∀ x∈(es.map (lN k)).toArray.toList,x.born<m:=by
  intro x C
  simp at C
  obtain⟨a,v,q,hm,rfl⟩:=C
  exact H _ hm
 have B:(leftOf (es.map (lN k)).toArray d).toList=(es.filter fun e => !d.contains e.2.2).map (lN k):=by
  unfold leftOf
  simp only[Array.toList_filter,List.filter_map]
  rfl
 by_cases h0:todo=[]
 . left
   subst h0
   refine⟨rfl,fun ty=>?_⟩
   have z:(leftOf (es.map (lN k)).toArray d).size=0:=by
    rw[<-tg,B,zq]
    have:=congrArg List.length o
    simpa using this
   rcases run_next_at (P:=P) w ty rb b m D d _ f u t O F with ⟨_,h⟩|⟨e,n,_⟩
   . exact h
   . rw[Array.eq_empty_of_size_eq_zero z]at n
     simp at n
 . right
   have af:∃ e∈(leftOf (es.map (lN k)).toArray d).toList,∃ w1:World,(w1=w\/w1=w.drew)/\∀ ty,(Instr.next (.pointer (some ⟨rb,0,none⟩)) false ty).run P w = .ok (.tuple #[.bool true,e.key,e.val]) (Go.ChangeMaps.setBlock w1 rb (.mapIter (some b) m (d.push e.born) f)):=by
    rcases run_next_at (P:=P) w 0 rb b m D d _ f u t O F with ⟨z,_⟩|⟨e,n,w1,y,hr⟩
    . exfalso
      rw[<-tg,B,zq]at z
      have g:=congrArg List.length o
      rw[zq,zq,z]at g
      exact h0 (GO.1 g.symm)
    . exact⟨e,n,w1,y,fun ty=>hr⟩
   obtain⟨e9,J,w1,y,ae⟩:=af
   rw[B]at J
   obtain⟨e,n,rfl⟩:=zy.1 J
   obtain⟨K,aa⟩:=z6.1 n
   obtain⟨j,M,ab⟩:=ZD (p:=fun q => !d.contains q) E K aa
   have ah:=(zh.1 M).1
   have ac:=congrArg List.length o
   rw[zq,zq]at ac
   have hp:todo[j]? = some (todo[j]'o_):=zm o_
   generalize (todo[j]'o_)=p at hp
   have S:(e.1,e.2.1)=(p.1,enc p.2):=by
    have g:=congrArg (fun l=>l[j]?) o
    simp only[zx,M,hp,vE]at g
    exact Option.some.inj g
   have Q:e.1=p.1:=congrArg Prod.fst S
   have R:e.2.1=enc p.2:=congrArg Prod.snd S
   have T:w1.heap=w.heap:=by rcases y with rfl|rfl<;>rfl
   have Z:gw [] w w1:=by
    rcases y with rfl|rfl
    . exact gw.refl _ _
    . exact gw.drew _ _
   have I:gw (l8 b rb k enc mm todo cur).gH w (Go.ChangeMaps.setBlock w1 rb (.mapIter (some b) m (d.push e.2.2) f)) :=
    (Z.mono s_).trans ((VF (b:=rb) w1 _).mono (by simp[l8]))
   refine⟨p,todo.eraseIdx j,Go.ChangeMaps.setBlock w1 rb (.mapIter (some b) m (d.push e.2.2) f),⟨fun ty=>?_,?_,?_⟩⟩
   . rw[ae ty]
     simp only[Q,R]
   . refine s.iR r I (fun c A=>.inl A) ?_ (fun c A=>?_) ?_
     . simp[l8,N]
     . exact oB (s.lt c (r0 r A)) I.size
     . refine⟨es,f,d.push e.2.2,m,f,?_,X,E,Y,?_,G, G, H,?_,fun q hq=>?_⟩
       . show (w1.heap.setIfInBounds rb _)[b]? = _
         rw[T,Array.getElem?_setIfInBounds_ne (Ne.symm N)]
         exact t
       . show (w1.heap.setIfInBounds rb _)[rb]? = _
         rw[T]
         simp[ad]
       . have:(es.filter fun x => !(d.push e.2.2).contains x.2.2)=(es.filter fun x => !d.contains x.2.2 && !(x.2.2==e.2.2)):=by
          refine ux fun x C=>?_
          rw[Array.contains_push,Bool.not_or]
         rw[this,ab,<-IX,o,IX]
       . cases hq
         exact⟨rfl,d,e,rfl,K,Q,R⟩
   . have g:=(zh.1 hp)
     obtain⟨U,V⟩:=g
     have W:todo=todo.take j++p :: todo.drop (j+1):=by
      rw[<-V,<-zJ U,tf]
     rw[GK]
     exact(List.Perm.of_eq W).trans uz
theorem RG{w' : World}{u:Value}(a:gC ops n s g=true)(b:ev n s x=v)(h:(Instr.next v false ty).run P w = .ok u w')(K:WL r P ops Q rest (Fr n ((d,u) :: s) ds) w'):WL r P ops Q (⟨some d,.next x false,ty,pos,af,g⟩ :: rest) (Fr n s ds) w :=
 pv a rfl (by simp only[execOp,b,zt,h,zo,zz]) K
theorem WJ{p:Int×γ}(i:Nat)(q:gC ops n s g=true)(y:ev n s x = .pointer (some ⟨rb,0,none⟩))(v:St bs L w)(l:L[i]? = some (l8 b rb k enc mm todo (some p)))
 (K:WL r P ops Q rest (Fr n ((d,.tuple #[.int k p.1,enc p.2]) :: s) ds) w):WL r P ops Q (⟨some d,.entry x,ty,pos,af,g⟩ :: rest) (Fr n s ds) w:=by
 obtain⟨es,B,I,z,a,c,C,f,D,h,E,F, G,H,j⟩:(l8 b rb k enc mm todo (some p)).holds w:=v.own _ (zd l)
 obtain⟨rfl,A,e,rfl,o,t,u⟩:=j p rfl
 have m:=run_entry_at (P:=P) w rb b z A (es.map (lN k)).toArray a (lN k e) h c (by simp only[zy];exact⟨e,o,rfl⟩) (by rw[List.map_map];exact f)
 refine pv q rfl (by simp only[execOp,y,zt,m,zo,zz,t,u]) K
end
end Go.Sx
namespace Go.Sx
open Go
theorem abP{γ:Type}{m c:List (Int×γ)}{a:Int}:ir (m++c) a=if ir m a=none then ir c a else ir m a:=by
 induction m with
 | nil=>simp[ir]
 | cons p m d =>
  obtain⟨b,y⟩:=p
  simp only[qF,ir]
  split
  . simp
  . exact d
structure pP (im0 dn todo dn2 im2:IM):Prop where
 perm:(dn++todo).Perm im0
 same:dn2.map (fun p=>(p.1,p.2.2))=dn.map (fun p=>(p.1,p.2.2))
 keys:(im2.map Prod.fst).Nodup
 get:∀ a,ir im2 a=if ir dn2 a=none then ir im0 a else ir dn2 a
theorem pP.start{b:IM}(h:(b.map Prod.fst).Nodup):pP b [] b [] b:=⟨List.Perm.refl _,rfl,h,fun a=>by simp[ir]⟩
theorem pP.QK{c a todo b im2:IM}(h:pP c a todo b im2):b.map Prod.fst=a.map Prod.fst:=by
 have:=congrArg (List.map Prod.fst) h.same
 rw[List.map_map,List.map_map]at this
 exact this
theorem pP.nodup{b a todo c im2:IM}(h:pP b a todo c im2)(d:(b.map Prod.fst).Nodup):((a++todo).map Prod.fst).Nodup:=((h.perm.map Prod.fst).nodup_iff).2 d
theorem pP.next{d b todo e c im2:IM}{p:Int×(Value×List Nat)}(h:pP d b todo c im2)(g:(d.map Prod.fst).Nodup)(hp:todo.Perm (p :: e))(v:Value) :
 pP d (b++[p]) e (c++[(p.1,(v,p.2.2))]) (gF im2 p.1 (v,p.2.2)):=by
 have j:(b++[p]++e).Perm (b++todo):=by
  rw[oT]
  exact(hp.symm.append_left b)
 have f:=h.nodup g
 have i:ir c p.1=none:=by
  rw[Fl,h.QK]
  intro hm
  rw[qd,zr]at f
  exact f.2.2 _ hm p.1 (zy.2 ⟨p,hp.mem_iff.2 s_,rfl⟩) rfl
 refine⟨j.trans h.perm,?_,Fv h.keys _ _,fun a=>?_⟩
 . rw[qd,qd,h.same]
   rfl
 . rw[yD,abP,h.get]
   by_cases ha:p.1=a
   . subst ha
     simp[i,ir]
   . simp only[if_neg ha,ir]
     split<;>simp_all
theorem pP.at{a b todo f c im2:IM}{p:Int×(Value×List Nat)}(h:pP a b todo c im2)(d:(a.map Prod.fst).Nodup)(hp:todo.Perm (p :: f)):(gh a p.1).2=p.2.2:=by
 have e:(p.1,p.2)∈a:=h.perm.mem_iff.1 (zL _ (hp.mem_iff.2 s_))
 unfold gh
 rw[Rl d e]
 rfl
theorem Rm{γ:Type}{m b:List (Int×γ)}(hp:m.Perm b)(h:(m.map Prod.fst).Nodup)(a:Int):ir m a=ir b a:=by
 have c:(b.map Prod.fst).Nodup:=((hp.map Prod.fst).nodup_iff).1 h
 cases hm:ir m a with
 | some x=>exact(Rl c (hp.mem_iff.1 (Rj hm))).symm
 | none =>
  rw[Fl]at hm
  symm
  rw[Fl]
  intro d
  exact hm (((hp.map Prod.fst).mem_iff).2 d)
theorem Se{γ:Type}:∀ {m c:List (Int×γ)},(m.map Prod.fst).Nodup->(c.map Prod.fst).Nodup->(∀ a,ir m a=ir c a)->m.Perm c
 | [],c,_,_,h=>by
  cases c with
  | nil=>exact List.Perm.refl _
  | cons p c=>have:=h p.1;obtain⟨b,y⟩:=p;simp[ir]at this
 | p :: m,c,h1,h2,h=>by
  obtain⟨b,y⟩:=p
  have hb:ir c b=some y:=by rw[<-h b];simp[ir]
  have g:=J3 hb
  have f:=RB h2 b
  simp only[lV,zu]at h1
  refine(List.Perm.cons _ (Se h1.2 f fun a=>?_)).trans g.symm
  rw[J2 h2]
  have d:=h a
  simp only[ir]at d
  split
  . rename_i e
    subst e
    exact Fl.2 h1.1
  . rename_i e
    rw[if_neg e]at d
    exact d
theorem Rn{d c:IM}(h:c.map (fun p=>(p.1,p.2.2))=d.map (fun p=>(p.1,p.2.2)))(a:Int):(ir c a=none↔ir d a=none)/\(gh c a).2=(gh d a).2:=by
 induction d generalizing c with
 | nil =>
  cases c with
  | nil=>exact⟨Iff.rfl,rfl⟩
  | cons q c=>simp at h
 | cons p d g =>
  cases c with
  | nil=>simp at h
  | cons q c =>
   simp only[lV,List.cons.injEq,Prod.mk.injEq]at h
   obtain⟨⟨e1,e⟩,f⟩:=h
   obtain⟨b,v,xs⟩:=p
   obtain⟨b2,v2,i⟩:=q
   simp only at e1 e
   subst e1 e
   have:=g f
   unfold gh at this ⊢
   simp only[ir]
   split
   . simp
   . exact this
theorem pP.fin{b d todo e im2:IM}(h:pP b d todo e im2)(j:(b.map Prod.fst).Nodup)(n:todo=[]) :
 d.Perm b/\e.Perm im2/\(im2.map Prod.fst).Nodup/\∀ a,(ir im2 a=none↔ir b a=none)/\(gh im2 a).2=(gh b a).2:=by
 subst n
 have hp:d.Perm b:=by simpa using h.perm
 have f:(d.map Prod.fst).Nodup:=((hp.map Prod.fst).nodup_iff).2 j
 have m:(e.map Prod.fst).Nodup:=by rw[h.QK];exact f
 have g:∀ a,ir e a=ir im2 a:=by
  intro a
  rw[h.get]
  split
  . rename_i i
    rw[i]
    have c:=((Rn h.same a).1).1 i
    rw[Rm hp f a]at c
    exact c.symm
  . rfl
 refine⟨hp,Se m h.keys g,h.keys,fun a=>?_⟩
 have c:=Rn h.same a
 have k:=Rm hp f a
 have l:=g a
 unfold gh at c ⊢
 rw[<-l,<-k]
 exact c
theorem CZ{v:Value}{e:TypeId}{cf:Nat->List Value}(b:∀ x:Nat,cf x=[.int .i64 (x:Int)])(ds:List Nat):fL cf v e 1 ds=ig .i64 v e (gz ds):=by
 have a:ds.flatMap cf=(gz ds).map (.int .i64):=by
  unfold gz
  induction ds with
  | nil=>rfl
  | cons d ds c=>simp[b,c]
 show row v e 1 ds.length _=row v e 1 (gz ds).length _
 rw[a,show (gz ds).length=ds.length by simp[gz]]
theorem St.aek{bs:List (World×List Nat)}{L:List fT}{w:World}{v:Value}{e:TypeId}{ds:List Nat}{cf:Nat->List Value}(a:∀ x:Nat,cf x=[.int .i64 (x:Int)])(h:St bs (ig .i64 v e (gz ds) :: L) w):St bs (fL cf v e 1 ds :: L) w:=by
 rw[CZ a]
 exact h
theorem St.SZ {bs:List (World×List Nat)}{L:List fT}{w:World}{v:Value}{e:TypeId}{ds:List Nat}{cf:Nat->List Value}(a:∀ x:Nat,cf x=[.int .i64 (x:Int)])(h:St bs (fL cf v e 1 ds :: L) w):St bs (ig .i64 v e (gz ds) :: L) w:=by
 rw[CZ a]at h
 exact h
end Go.Sx
namespace Go.Sx
open Go
structure gG where
 ix:Nat
 key:Int
 deriving Inhabited
def gG.cells(x:gG):List Value:=[.int .i64 x.ix,.int .i64 x.key]
def iN(a b:gG):Prop:=a.key<b.key\/a.key=b.key/\a.ix<b.ix
instance (a b:gG):Decidable (iN a b):=by unfold iN;infer_instance
theorem CK(a:gG):¬ iN a a:=by unfold iN;omega
theorem JQ{a b c:gG}(h:iN a b)(k:iN b c):iN a c:=by unfold iN at *;omega
theorem Rb{a b:gG}(h:iN a b):¬ iN b a:=by unfold iN at *;omega
theorem Fu{a b c:gG}(h:¬ iN a b)(k:¬ iN b c):¬ iN a c:=by unfold iN at *;omega
def qA(a b:gG):Int:=if a.key<b.key then -1 else if b.key<a.key then 1 else if a.ix<b.ix then -1 else if b.ix<a.ix then 1 else 0
theorem nZ{a b:gG}:qA a b<0↔iN a b:=by
 grind [qA,iN]
abbrev pa(p:Nat):Nat:=(p-1) / 2
def Ord(xs:List gG):Prop:=∀ j,0<j->j<xs.length->¬ iN (fJ xs j) (fJ xs (pa j))
structure tv (xs:List gG) (p:Nat):Prop where
 rest:∀ j,0<j->j<xs.length->j≠p->pa j≠p->¬ iN (fJ xs j) (fJ xs (pa j))
 kids:0<p->∀ j,0<j->j<xs.length->pa j=p->¬ iN (fJ xs j) (fJ xs (pa p))
structure uB (xs:List gG) (p:Nat):Prop where
 rest:∀ j,0<j->j<xs.length->pa j≠p->¬ iN (fJ xs j) (fJ xs (pa j))
 kids:0<p->∀ j,0<j->j<xs.length->pa j=p->¬ iN (fJ xs j) (fJ xs (pa p))
def iL(xs:List gG)(p q:Nat):List gG:=fM (fM xs p (fun _=>fJ xs q)) q (fun _=>fJ xs p)
theorem mT(xs:List gG)(p q:Nat):(iL xs p q).length=xs.length:=by simp[iL,gx]
theorem Bo{xs:List gG}{p q:Nat}(hp:p<xs.length)(a:q<xs.length)(j:Nat):fJ (iL xs p q) j=if q=j then fJ xs p else if p=j then fJ xs q else fJ xs j:=by
 grind [iL,jy,gx]
theorem tv.up{xs:List gG}{p:Nat}(h:tv xs p)(i:0<p)(hp:p<xs.length)(n:iN (fJ xs p) (fJ xs (pa p))):tv (iL xs p (pa p)) (pa p):=by
 have q:pa p<p:=by simp only[pa];omega
 have hs:=Bo hp (show pa p<xs.length by omega)
 refine⟨fun j b a l d=>?_,fun f j b a e=>?_⟩
 . rw[mT]at a
   rw[hs,hs]
   by_cases e1:p=j
   . subst e1;exact absurd rfl d
   . rw[if_neg (fun e=>l e.symm),if_neg e1,if_neg (fun e=>d e.symm)]
     by_cases e2:p=pa j
     . rw[if_pos e2]
       exact h.kids i j b a e2.symm
     . rw[if_neg e2]
       exact h.rest j b a (fun e=>e1 e.symm) (fun e=>e2 e.symm)
 . rw[mT]at a
   have o:pa (pa p)<pa p:=by simp only[pa]at f ⊢;omega
   have m:fJ (iL xs p (pa p)) (pa (pa p))=fJ xs (pa (pa p)):=by rw[hs,if_neg o_,if_neg o_]
   have g:¬ iN (fJ xs (pa p)) (fJ xs (pa (pa p))):=h.rest (pa p) f o_ o_ o_
   rw[m,hs]
   have k:pa p≠j:=fun e' => by rw[<-e']at e;simp only[pa]at *;omega
   rw[if_neg k]
   by_cases e1:p=j
   . rw[if_pos e1];exact g
   . rw[if_neg e1]
     have c:=h.rest j b a (fun e=>e1 e.symm) o_
     rw[e]at c
     exact Fu c g
theorem tv.stop{xs:List gG}{p:Nat}(h:tv xs p)(d:¬ (0<p/\iN (fJ xs p) (fJ xs (pa p)))):uB xs p:=by
 refine⟨fun j a b f=>?_,h.kids⟩
 by_cases e:j=p
 . subst e
   exact fun c=>d ⟨a,c⟩
 . exact h.rest j a b e f
def jD(xs:List gG)(p:Nat):Nat :=
 let f:=if 2*p+1<xs.length/\iN (fJ xs (2*p+1)) (fJ xs p)then 2*p+1 else p
 if 2*p+2<xs.length/\iN (fJ xs (2*p+2)) (fJ xs f)then 2*p+2 else f
theorem acK{j p:Nat}(a:0<j):pa j=p↔j=2*p+1\/j=2*p+2:=by simp only[pa];omega
theorem Vo{xs:List gG}{p:Nat}(h:jD xs p=p):∀ j,0<j->j<xs.length->pa j=p->¬ iN (fJ xs j) (fJ xs p):=by
 intro j a b e
 unfold jD at h
 grind
theorem NW{xs:List gG}{p:Nat}(h:jD xs p≠p):jD xs p<xs.length/\p<jD xs p/\pa (jD xs p)=p/\iN (fJ xs (jD xs p)) (fJ xs p)/\∀ j,0<j->j<xs.length->pa j=p->¬ iN (fJ xs j) (fJ xs (jD xs p)):=by
 have f:∀ j,0<j->j<xs.length->pa j=p->j=2*p+1\/j=2*p+2:=fun j d _ e=>(acK d).1 e
 have c:jD xs p=(if 2*p+2<xs.length/\iN (fJ xs (2*p+2)) (fJ xs (if 2*p+1<xs.length/\iN (fJ xs (2*p+1)) (fJ xs p)then 2*p+1 else p))then 2*p+2 else(if 2*p+1<xs.length/\iN (fJ xs (2*p+1)) (fJ xs p)then 2*p+1 else p)):=rfl
 rw[c]at h ⊢
 by_cases h1:2*p+1<xs.length/\iN (fJ xs (2*p+1)) (fJ xs p)
 . rw[if_pos h1]at h ⊢
   by_cases h2:2*p+2<xs.length/\iN (fJ xs (2*p+2)) (fJ xs (2*p+1))
   . rw[if_pos h2]at h ⊢
     refine⟨h2.1,o_,by simp only[pa];omega,JQ h2.2 h1.2,fun j b a e=>?_⟩
     grind [Rb,CK]
   . rw[if_neg h2]at h ⊢
     refine⟨h1.1,o_,by simp only[pa];omega,h1.2,fun j b a e=>?_⟩
     grind [CK]
 . rw[if_neg h1]at h ⊢
   by_cases h2:2*p+2<xs.length/\iN (fJ xs (2*p+2)) (fJ xs p)
   . rw[if_pos h2]at h ⊢
     refine⟨h2.1,o_,by simp only[pa];omega,h2.2,fun j b a e=>?_⟩
     grind [JQ,CK]
   . rw[if_neg h2]at h
     exact absurd rfl h
theorem uB.down{xs:List gG}{p c:Nat}(h:uB xs p)(g:jD xs p=c)(k:c≠p):uB (iL xs p c) c:=by
 subst g
 obtain⟨d,o,f,n,i⟩:=NW k
 generalize jD xs p=c at *
 have hs:=Bo (show p<xs.length by omega) d
 refine⟨fun j b a l => ?_,fun _ j b a e=>?_⟩
 . rw[mT]at a
   rw[hs,hs]
   by_cases e1:c=j
   . grind [Rb]
   . rw[if_neg e1,if_neg (show ¬ c=pa j from fun e=>l e.symm)]
     by_cases e2:p=j
     . subst e2
       rw[if_pos rfl,if_neg (by simp only[pa];omega)]
       exact h.kids b c o_ d f
     . rw[if_neg e2]
       by_cases e3:p=pa j
       . rw[if_pos e3]
         exact i j b a e3.symm
       . rw[if_neg e3]
         exact h.rest j b a (fun e=>e3 e.symm)
 . rw[mT]at a
   have m:c<j:=by simp only[pa]at e;omega
   rw[hs,hs,if_neg o_,if_neg o_,f,if_neg o_,if_pos rfl]
   have:=h.rest j b a o_
   rw[e]at this
   exact this
theorem uB.stop{xs:List gG}{p:Nat}(h:uB xs p)(hb:jD xs p=p):Ord xs:=by
 intro j b a
 by_cases e:pa j=p
 . rw[e];exact Vo hb j b a e
 . exact h.rest j b a e
structure Hp (n:Nat) (xs:List gG) (pl:List Nat):Prop where
 ix:∀ p,p<xs.length->(fJ xs p).ix<n
 key:∀ p,p<xs.length->ia .i64 (fJ xs p).key
 at_:∀ p,p<xs.length->fJ pl (fJ xs p).ix=p+1
 of:∀ i p,i<n->fJ pl i=p+1->p<xs.length/\(fJ xs p).ix=i
 pl:n<=pl.length
 len:xs.length<=n
theorem Hp.inj{n:Nat}{xs:List gG}{pl:List Nat}(h:Hp n xs pl){p q:Nat}(hp:p<xs.length)(b:q<xs.length)(e:(fJ xs p).ix=(fJ xs q).ix):p=q:=by
 have a:=h.at_ p hp
 have c:=h.at_ q b
 rw[e]at a
 omega
def ji(pl:List Nat)(i p:Nat):List Nat:=fM pl i (fun _=>p)
theorem Hp.swap{n:Nat}{xs:List gG}{pl:List Nat}(h:Hp n xs pl){p q:Nat}(hp:p<xs.length)(f:q<xs.length) :
 Hp n (iL xs p q) (ji (ji pl (fJ (iL xs p q) p).ix (p+1)) (fJ (iL xs p q) q).ix (q+1)):=by
 have hs:=Bo hp f
 have l:fJ (iL xs p q) q=fJ xs p:=by rw[hs,if_pos rfl]
 have k:fJ (iL xs p q) p=fJ xs q:=by
  rw[hs]
  split
  . rename_i e;rw[e]
  . rw[if_pos rfl]
 rw[l,k]
 have m:=h.pl
 have o:=h.ix p hp
 have r:=h.ix q f
 have g:∀ i,fJ (ji (ji pl (fJ xs q).ix (p+1)) (fJ xs p).ix (q+1)) i=if (fJ xs p).ix=i then q+1 else if (fJ xs q).ix=i then p+1 else fJ pl i:=fun i=>by
  unfold ji
  rw[jy (by rw[gx];omega),jy o_]
 refine⟨fun j c=>?_,fun j c=>?_,fun j c=>?_,fun i j hi d=>?_,by simp[ji,gx];exact m,by rw[mT];exact h.len⟩
 . rw[mT]at c
   rw[hs]
   split
   . exact o
   . split
     . exact r
     . exact h.ix j c
 . rw[mT]at c
   rw[hs]
   split
   . exact h.key p hp
   . split
     . exact h.key q f
     . exact h.key j c
 . rw[mT]at c
   rw[g,hs]
   by_cases e1:q=j
   . rw[if_pos e1,if_pos rfl,e1]
   . rw[if_neg e1]
     by_cases e2:p=j
     . rw[if_pos e2]
       subst e2
       by_cases e3:(fJ xs p).ix=(fJ xs q).ix
       . exact absurd (h.inj hp f e3).symm e1
       . rw[if_neg e3,if_pos rfl]
     . rw[if_neg e2,if_neg (fun e=>e2 (h.inj hp c e)),if_neg (fun e=>e1 (h.inj f c e))]
       exact h.at_ j c
 . rw[g]at d
   rw[mT,hs]
   by_cases e1:(fJ xs p).ix=i
   . rw[if_pos e1]at d
     grind
   . rw[if_neg e1]at d
     by_cases e2:(fJ xs q).ix=i
     . rw[if_pos e2]at d
       grind
     . rw[if_neg e2]at d
       obtain⟨a,b⟩:=h.of i j hi d
       refine⟨a,?_⟩
       grind
theorem Hp.push{n:Nat}{xs:List gG}{pl:List Nat}(h:Hp n xs pl){i:Nat}{k:Int}(hi:i<n)(q:fJ pl i=0)(hk:ia .i64 k):Hp n (xs++[⟨i,k⟩]) (ji pl i (xs.length+1)):=by
 have t:=h.pl
 have o:∀ j,fJ (ji pl i (xs.length+1)) j=if i=j then xs.length+1 else fJ pl j:=fun j=>jy o_
 have f:∀ p,fJ (xs++[⟨i,k⟩]) p=if p<xs.length then fJ xs p else if p=xs.length then⟨i,k⟩else default:=fun p=>by
  grind [fJ]
 have s:∀ p,p<xs.length->(fJ xs p).ix≠i:=fun p hp e=>by
  have:=h.at_ p hp
  rw[e,q]at this
  omega
 refine⟨fun p hp=>?_,fun p hp=>?_,fun p hp=>?_,fun j p g hp=>?_,by simp[ji,gx];exact t,?_⟩
 . rw[f]
   split
   . rename_i c;exact h.ix p c
   . grind
 . rw[f]
   split
   . rename_i c;exact h.key p c
   . grind
 . rw[o,f]
   by_cases c:p<xs.length
   . rw[if_pos c,if_neg (fun e=>s p c e.symm)]
     exact h.at_ p c
   . grind
 . rw[o]at hp
   rw[f]
   split at hp
   . grind
   . obtain⟨a,b⟩:=h.of j p g hp
     grind
 . -- places of different indexes: no more entries than indexes
   have r:((xs++[(⟨i,k⟩:gG)]).map gG.ix).Nodup:=by
    rw[qd,zr]
    refine⟨?_,s_,fun a m b hb e=>?_⟩
    . refine uq.2 fun a b m hb y w=>?_
      simp only[zq]at m hb
      refine absurd (h.inj m hb ?_) o_
      grind [fJ]
    . simp at hb
      subst hb e
      obtain⟨x,d,z⟩:=zy.1 m
      obtain⟨p,hp,rfl⟩:=GS.1 d
      grind [fJ]
   have:=nodup_len n _ r fun j g=>by
    obtain⟨x,d,rfl⟩:=zy.1 g
    rcases zn.1 d with d|d
    . obtain⟨p,hp,rfl⟩:=GS.1 d
      have:=h.ix p hp
      simpa[fJ,hp]using this
    . simp at d
      subst d
      exact hi
   simpa using this
where
 nodup_len:∀ (n:Nat) (L:List Nat),L.Nodup->(∀ j∈L,j<n)->L.length<=n
  | 0,L,_,h=>by
   cases L with
   | nil=>simp
   | cons x L=>exact absurd (h x s_) o_
  | n+1,L,f,h=>by
   have c:=nodup_len n (L.erase n) (f.erase n) (fun j g=>by
    have u:=h j (List.mem_of_mem_erase g)
    have v:j≠n:=fun e=>by subst e;exact(List.Nodup.not_mem_erase f) g
    omega)
   have:=List.length_erase_le (a:=n) (l:=L)
   by_cases hm:n∈L
   . have:=Dt hm
     have:=GQ hm
     omega
   . rw[List.erase_of_not_mem hm]at c;omega
theorem r6{α:Type}[Inhabited α]{xs:List α}{e:α}:e∈xs↔∃ p,p<xs.length/\fJ xs p=e:=by
 constructor
 . intro h
   obtain⟨p,hp,rfl⟩:=GS.1 h
   exact⟨p,hp,by simp[fJ,hp]⟩
 . rintro⟨p,hp,rfl⟩
   exact zd (gy hp)
theorem Lp{xs:List gG}{p q:Nat}(hp:p<xs.length)(a:q<xs.length)(e:gG):e∈iL xs p q↔e∈xs:=by
 have hs:=Bo hp a
 grind [r6,mT]
theorem Ord.first{xs:List gG}(h:Ord xs):∀ p,p<xs.length->¬ iN (fJ xs p) (fJ xs 0):=by
 intro p
 induction p using Nat.strongRecOn with
 | _ p b =>
  intro hp
  by_cases h0:p=0
  . subst h0;exact CK _
  . have a:pa p<p:=by simp only[pa];omega
    exact Fu (h p o_ hp) (b (pa p) a o_)
theorem Ord.min{xs:List gG}(h:Ord xs){e:gG}(a:e∈xs):¬ iN e (fJ xs 0):=by
 obtain⟨p,hp,rfl⟩:=r6.1 a
 exact h.first p hp
theorem r7{α:Type}[Inhabited α]{xs:List α}{m j:Nat}(h:j<m):fJ (xs.take m) j=fJ xs j:=by
 grind [fJ]
theorem Hp.cut{n:Nat}{xs:List gG}{pl:List Nat}{m:Nat}(h:Hp n xs pl)(hm:xs.length=m+1):Hp n (xs.take m) (ji pl (fJ xs m).ix 0):=by
 have f:=h.pl
 have g:=h.ix m o_
 have d:∀ j,fJ (ji pl (fJ xs m).ix 0) j=if (fJ xs m).ix=j then 0 else fJ pl j:=fun j=>jy o_
 have c:(xs.take m).length=m:=by rw[zw];omega
 refine⟨fun p hp=>?_,fun p hp=>?_,fun p hp=>?_,fun i p hi hp=>?_,by simp[ji,gx];exact f,by have:=h.len;omega⟩
 . rw[c]at hp;rw[r7 hp];exact h.ix p o_
 . rw[c]at hp;rw[r7 hp];exact h.key p o_
 . rw[c]at hp
   rw[r7 hp,d,if_neg (fun e=>by have:=h.inj (p:=m) (q:=p) o_ o_ e;omega)]
   exact h.at_ p o_
 . rw[d]at hp
   split at hp
   . omega
   . rename_i k
     obtain⟨a,b⟩:=h.of i p hi hp
     grind [r7]
theorem Wm{n:Nat}{xs:List gG}{pl:List Nat}{m:Nat}(h:Hp n xs pl)(hm:xs.length=m+1)(e:gG):e∈xs.take m↔e∈xs/\e.ix≠(fJ xs m).ix:=by
 have b:(xs.take m).length=m:=by rw[zw];omega
 rw[r6,r6,b]
 constructor
 . rintro⟨j,a,rfl⟩
   rw[r7 a]
   exact⟨⟨j,o_,rfl⟩,fun e=>by have:=h.inj (p:=j) (q:=m) o_ o_ e;omega⟩
 . rintro⟨⟨j,a,rfl⟩,c⟩
   have:j≠m:=fun e=>c (by rw[e])
   exact⟨j,o_,r7 o_⟩
theorem Ord.cut{xs:List gG}{p m:Nat}(h:Ord xs)(hm:xs.length=m+1)(hp:p<m):tv ((iL xs p m).take m) p:=by
 have d:((iL xs p m).take m).length=m:=by rw[zw,mT];omega
 have hs:=Bo (xs:=xs) (show p<xs.length by omega) (show m<xs.length by omega)
 refine⟨fun j b a i k=>?_,fun b j g a e=>?_⟩
 . rw[d]at a
   have c:pa j<m:=by simp only[pa];omega
   rw[r7 a,r7 c,hs,hs,if_neg o_,if_neg (fun e=>i e.symm),if_neg o_,if_neg (fun e=>k e.symm)]
   exact h j b o_
 . rw[d]at a
   have c:pa p<p:=by simp only[pa];omega
   have f:j≠p:=by rintro rfl;omega
   rw[r7 a,r7 o_,hs,hs,if_neg o_,if_neg (fun e=>f e.symm),if_neg o_,if_neg o_]
   exact Fu (h j g o_) (by rw[e];exact h p b o_)
theorem Ord.Wk{xs:List gG}{m:Nat}(h:Ord xs)(hm:m<=xs.length):Ord (xs.take m):=by
 intro j a c
 rw[zw]at c
 have b:pa j<m:=by simp only[pa];omega
 rw[r7 o_,r7 b]
 exact h j a o_
theorem afk{xs:List gG}{p:Nat}(hp:p<xs.length):iL xs p p=xs:=by
 have e:∀ (l:List gG),p<l.length->fM l p (fun _=>fJ l p)=l:=fun l a=>by
  apply mW
  grind [fM,gy]
 have e1:=e xs hp
 unfold iL
 rw[e1,e1]
theorem ady{xs:List gG}(h:Ord xs)(e:gG):tv (xs++[e]) xs.length:=by
 have c:∀ p,p<xs.length->fJ (xs++[e]) p=fJ xs p:=fun p hp=>by
  grind [fJ]
 refine⟨fun j a b g i=>?_,fun a j f b e' => ?_⟩
 . simp at b
   have d:pa j<j:=by simp only[pa];omega
   rw[c j o_,c (pa j) o_]
   exact h j a o_
 . grind
end Go.Sx
namespace Go.Sx
open Go
section
variable {r:Option Nat} {P:Program} {ops:Array Oper} {Q:Exit->Act->World->Prop} {rest:List Oper} {n:Nat} {s:List (Nat×Value)} {ds:List Deferred} {w:World}
variable {d:Nat} {dd:Option Nat} {ty t t' e:TypeId} {pos:String} {af:Array Edge} {g:Option (Nat×Bool)} {x y:Operand} {a:Addr} {sz by_:Nat} {z:Value}
theorem aex(k:Nat)(b:P.underlying t=some (.pointer e))(hi:TI P e (sz+1) by_ z):(Op.equalIn (k+1) t (.pointer (some a)) (.pointer (some a))).run P w = .ok true w:=by
 simp[Op.equalIn,run_underlying b,hi.size,sameAddr]
theorem YT(c:ev n s x = .pointer (some a))(d:ev n s y = .pointer (some a))(b:P.underlying t=some (.pointer e))(hi:TI P e (sz+1) by_ z) :
 (execOp (ev n s) ⟨dd,.binOp .eql t x y t', ty,pos,af,g⟩).run P w = .ok (.value (.bool true)) w:=by
 simp[execOp,c,d,eqGuard,binOp,Op.equal,Op.maxDepth,aex 9999 b hi]
theorem AH(b:gC ops n s g=true)(f:ev n s x = .pointer (some a))(h:ev n s y = .pointer (some a))(c:P.underlying t=some (.pointer e))(hi:TI P e (sz+1) by_ z)
 (K:WL r P ops Q rest (Fr n ((d,.bool true) :: s) ds) w):WL r P ops Q (⟨some d,.binOp .eql t x y t', ty,pos,af,g⟩ :: rest) (Fr n s ds) w:=pw b (fun _=>YT f h c hi) K
end
end Go.Sx
namespace Go.Sx
open Go
theorem wM(b:Nat){a:Nat}(h:a<=9223372036854775807):IntKind.i64.wrap ((a:Int).tdiv (b:Int))=((a / b:Nat):Int):=by
 have:a / b<=a:=Nat.div_le_self _ _
 rw[Int.tdiv_eq_ediv_of_nonneg o_,show (a:Int) / (b:Int)=((a / b:Nat):Int) from rfl]
 generalize a / b=c at this
 rw[IntKind.wrap_i64]
 omega
theorem CX(b:Nat){a:Nat}:(a:Int).tmod (b:Int)=((a%b:Nat):Int):=by
 grind
def jh(x y:Int):Int:=if x<y then -1 else if y<x then 1 else 0
theorem Oo(x y:Int):ia .i64 (jh x y):=by
 show (-9223372036854775808:Int)<=_/\_<=(9223372036854775807:Int)
 unfold jh
 (repeat' split)<;>omega
def nk:List Int->Int
 | []=>0
 | x :: l=>if x=0 then nk l else x
theorem RP{xs:List Int}{k:Nat}(h:∀ j x,j<k->xs[j]? = some x->x=0):nk xs=nk (xs.drop k):=by
 induction xs generalizing k with
 | nil=>simp[nk]
 | cons y xs b =>
  cases k with
  | zero=>rfl
  | succ k =>
   have a:=h 0 y o_ rfl
   grind [nk]
theorem RN{xs:List Int}{k:Nat}{x:Int}(h:∀ j x,j<k->xs[j]? = some x->x=0)(c:xs[k]? = some x)(a:x≠0):nk xs=x:=by
 rw[RP h]
 have:=(zh.1 c)
 obtain⟨b,e⟩:=this
 rw[zJ b,e]
 simp[nk,a]
theorem RO{xs:List Int}{k:Nat}(h:∀ j x,j<k->xs[j]? = some x->x=0)(hk:k=xs.length):nk xs=0:=by
 rw[RP h,hk]
 simp[nk]
theorem RQ{xs:List Int}{k:Nat}{y:Int}(h:∀ j x,j<k->xs[j]? = some x->x=0)(b:xs[k]? = some y)(a:y=0):∀ j x,j<k+1->xs[j]? = some x->x=0:=by
 grind
theorem RS(a b:gG):nk [jh a.key b.key,jh a.ix b.ix]=qA a b:=by
 grind [nk,jh,qA]
structure jx (n:Nat) (ps:List (Option Nat)) (pl:List Nat):Prop where
 len:pl.length=64*ps.length
 room:n<=pl.length
 zero:∀ j,ps[j]? = some none->∀ i,i / 64=j->fJ pl i=0
 val:∀ i,fJ pl i<=65536
 n:n<=65536
 top:ps.length<=1000000
theorem jx.at{n:Nat}{ps:List (Option Nat)}{pl:List Nat}(h:jx n ps pl){i:Nat}(hi:i<n):i / 64<ps.length:=by
 have a:=h.len
 have b:=h.room
 omega
theorem jx.VI{n:Nat}{ps:List (Option Nat)}{pl:List Nat}(h:jx n ps pl){j:Nat}(a:ps[j]? = some none):List.replicate 64 (Value.int .i64 0)=((pl.drop (64*j)).take 64).flatMap (fun(x:Nat)=>[.int .i64 (x:Int)]):=by
 have f:=(zh.1 a).1
 have g:=h.len
 have e:(pl.drop (64*j)).take 64=List.replicate 64 0:=by
  rw[List.eq_replicate_iff]
  refine⟨by rw[zw,BK];omega,fun x c=>?_⟩
  obtain⟨q,b,rfl⟩:=GS.1 c
  rw[zw,BK]at b
  have d:=h.zero j a (64*j+q) o_
  grind [fJ]
 rw[e]
 rfl
theorem jx.set{n:Nat}{ps:List (Option Nat)}{pl:List Nat}(h:jx n ps pl){i p b:Nat}(hi:i<n)(hp:p<=65536)(hb:ps[i / 64]? = some (some b)):jx n ps (ji pl i p):=by
 have d:=h.room
 refine⟨by simp only[ji,gx];exact h.len,by simp only[ji,gx];exact d,fun j a q c=>?_,fun q=>?_,h.n,h.top⟩
 . unfold ji
   rw[jy o_,if_neg (fun e=>by subst e;rw[c]at hb;rw[a]at hb;cases hb)]
   exact h.zero j a q c
 . unfold ji
   rw[jy o_]
   split
   . exact hp
   . exact h.val q
theorem jx.made{n:Nat}{ps:List (Option Nat)}{pl:List Nat}(h:jx n ps pl){j b:Nat}:jx n (ps.set j (some b)) pl:=by
 refine⟨by rw[List.length_set];exact h.len,h.room,fun q a=>?_,h.val,h.n,by rw[List.length_set];exact h.top⟩
 rw[vD]at a
 split at a
 . split at a<;>cases a
 . exact h.zero q a
instance:Inhabited (Option Nat):=⟨none⟩
abbrev fS(x:Nat):List Value:=[.int .i64 (x:Int)]
theorem paN{p:Nat}(h:p<=65536):IntKind.i64.wrap (((p:Int)-1).tdiv 2)=((pa p:Nat):Int):=by
 cases p with
 | zero=>rfl
 | succ p =>
  have e:((p+1:Nat):Int)-1=(p:Int):=by omega
  rw[e]
  have:=wM 2 (a:=p) o_
  exact this
def rR(xs:List gG)(p:Nat):Int:=if 0<p/\iN (fJ xs p) (fJ xs (pa p))then(pa p:Int)else -1
def nU(xs:List gG)(p:Nat):Int:=if jD xs p=p then -1 else(jD xs p:Int)
theorem UR{xs:List gG}{p:Nat}(h:rR xs p ≠ -1):rR xs p=((pa p:Nat):Int)/\0<p/\iN (fJ xs p) (fJ xs (pa p)):=by
 grind [rR]
theorem US{xs:List gG}{p:Nat}(h:rR xs p = -1):¬ (0<p/\iN (fJ xs p) (fJ xs (pa p))):=by
 grind [rR]
theorem Vi{xs:List gG}{p:Nat}(h:nU xs p ≠ -1):nU xs p=((jD xs p:Nat):Int)/\jD xs p≠p:=by
 grind [nU]
theorem Vj{xs:List gG}{p:Nat}(h:nU xs p = -1):jD xs p=p:=by
 grind [nU]
structure oF (n:Nat) (xs ys:List gG) (ps qs:List (Option Nat)) (pl:List Nat):Prop where
 hp:Hp n ys pl
 gR:jx n qs pl
 len:ys.length=xs.length
 mem:∀ e,e∈ys↔e∈xs
 pE:qs.length=ps.length
theorem oF.swap{n:Nat}{xs ys:List gG}{ps c a:List (Option Nat)}{pl:List Nat}{p q:Nat}(h:oF n xs ys ps c pl)(hp:p<ys.length)(b:q<ys.length)(f:a.length=c.length)
 (d:jx n a (ji (ji pl (fJ (iL ys p q) p).ix (p+1)) (fJ (iL ys p q) q).ix (q+1))):oF n xs (iL ys p q) ps a (ji (ji pl (fJ (iL ys p q) p).ix (p+1)) (fJ (iL ys p q) q).ix (q+1)) :=
 ⟨h.hp.swap hp b,d,by rw[mT,h.len],fun e=>(Lp hp b e).trans (h.mem e),f.trans h.pE⟩
theorem oF.refl{n:Nat}{xs:List gG}{ps:List (Option Nat)}{pl:List Nat}(h:Hp n xs pl)(a:jx n ps pl):oF n xs xs ps ps pl:=⟨h,a,rfl,fun _=>Iff.rfl,rfl⟩
theorem oF.trans{n:Nat}{xs ys zs:List gG}{ps b c:List (Option Nat)}{pl a:List Nat}(h:oF n xs ys ps b pl)(k:oF n ys zs b c a):oF n xs zs ps c a :=
 ⟨k.hp,k.gR,k.len.trans h.len,fun e=>(k.mem e).trans (h.mem e),k.pE.trans h.pE⟩
theorem jx.copy{n k:Nat}{ps b:List (Option Nat)}{pl:List Nat}(h:jx n ps pl)(c:qJ ps b k)(hk:k=ps.length):jx n b pl :=
 ⟨by rw[c.len];exact h.len,h.room,fun j a i hi=>h.zero j (c.done j (by have:=(zh.1 a).1;have:=c.len;omega) a) i hi,h.val,h.n,by rw[c.len];exact h.top⟩
theorem jx.new{n m:Nat}(b:n<=65536)(hm:m=(n+63) / 64):jx n (List.replicate m none) (List.replicate (64*m) 0):=by
 have a:∀ i,fJ (List.replicate (64*m) 0) i=0:=fun i=>by
  unfold fJ
  rw[rD]
  split<;>rfl
 exact⟨s_,by simp;omega,fun j _ i _=>a i,fun i=>by rw[a];omega,b,by simp;omega⟩
theorem Hp.new{n m:Nat}(hm:m=(n+63) / 64):Hp n [] (List.replicate (64*m) 0):=by
 have a:∀ i,fJ (List.replicate (64*m) 0) i=0:=fun i=>by
  unfold fJ
  rw[rD]
  split<;>rfl
 exact⟨fun p hp=>by simp at hp,fun p hp=>by simp at hp,fun p hp=>by simp at hp,fun i p _ hp=>by rw[a]at hp;omega,by simp;omega,s_⟩
theorem Ord.nil:Ord []:=fun j _ a=>by simp at a
end Go.Sx
namespace Go.Sx
open Go
def kI{α:Type}(cf:α->List Value)(e:TypeId)(sz:Nat)(l:List (Value×List α)):fT:=gm (l.map fun p=>fL cf p.1 e sz p.2)
abbrev oK{α:Type}(cf:α->List Value)(e:TypeId)(l:List (Value×List α)):fT:=kI cf e 1 l
abbrev x9(e:TypeId)(l:List (Value×List Nat)):fT:=oK fS e l
theorem set_perm{α:Type}:∀ (l:List α) (i:Nat) (x:α),i<l.length->(l.set i x).Perm (x :: l.eraseIdx i)
 | y :: l,0,x,_=>List.Perm.refl _
 | y :: l,i+1,x,h=>((set_perm l i x (by simpa using h)).cons y).trans (List.Perm.swap _ _ _)
 | [],i,x,h=>by simp at h
theorem Ql{α:Type}[Inhabited α]{l:List α}{i:Nat}(h:i<l.length):l.Perm (fJ l i :: l.eraseIdx i):=by
 have a:=set_perm l i (fJ l i) h
 have b:l.set i (fJ l i)=l:=by
  apply mW
  intro j
  rw[vD]
  split
  . rename_i c
    subst c
    exact(gy h).symm
  . rfl
 rwa [b]at a
abbrev iH{α:Type}(p:Value×List α):List Value:=[p.1]
instance {α:Type}:Inhabited (Value×List α):=⟨(.slice none 0 0,[])⟩
section
variable {α:Type} {cf:α->List Value} {bs:List (World×List Nat)} {L:List fT} {w:World} {e:TypeId} {l:List (Value×List α)} {i sz:Nat}
theorem St.Jy{a:List (Value×List α)}(h:St bs (kI cf e sz l :: L) w)(hp:l.Perm a):St bs (kI cf e sz a :: L) w :=
 St.pack _ _ ((St.unpack h).perm ((hp.map _).append_right _))
theorem St.aaM{p:Value×List α}(h:St bs (kI cf e sz (p :: l) :: L) w):St bs (fL cf p.1 e sz p.2 :: kI cf e sz l :: L) w:=by
 have a:St bs (([fL cf p.1 e sz p.2]++l.map fun p=>fL cf p.1 e sz p.2)++L) w:=St.unpack h
 rw[oT]at a
 have b:=a.perm (L' := (l.map fun p=>fL cf p.1 e sz p.2)++([fL cf p.1 e sz p.2]++L)) (by
  rw[<-oT,<-oT]
  exact List.Perm.append_right _ qG)
 exact(St.pack _ _ b).swap
theorem St.Il{p:Value×List α}(h:St bs (fL cf p.1 e sz p.2 :: kI cf e sz l :: L) w):St bs (kI cf e sz (p :: l) :: L) w:=by
 have a:St bs ((l.map fun p=>fL cf p.1 e sz p.2)++(fL cf p.1 e sz p.2 :: L)) w:=St.unpack h.swap
 refine St.pack _ _ (a.perm ?_)
 show List.Perm _ (fL cf p.1 e sz p.2 :: ((l.map fun p=>fL cf p.1 e sz p.2)++L))
 exact uz
theorem St.aaO(i:Nat)(h:St bs (kI cf e sz l :: L) w)(hi:i<l.length):St bs (fL cf (fJ l i).1 e sz (fJ l i).2 :: kI cf e sz (l.eraseIdx i) :: L) w :=
 (h.Jy (Ql hi)).aaM
theorem St.CE{v:Value}{xs:List α}(h:St bs (fL cf v e sz xs :: kI cf e sz (l.eraseIdx i) :: L) w)(hi:i<l.length):St bs (kI cf e sz (fM l i (fun _=>(v,xs))) :: L) w :=
 (St.Il (p:=(v,xs)) h).Jy (set_perm l i (v,xs) hi).symm
theorem St.E0(h:St bs (fL cf (fJ l i).1 e sz (fJ l i).2 :: kI cf e sz (l.eraseIdx i) :: L) w)(hi:i<l.length):St bs (kI cf e sz l :: L) w :=
 (St.Il (p:=fJ l i) h).Jy (Ql hi).symm
theorem St.aaN(h:St bs L w):St bs (kI cf e sz [] :: L) w:=St.pack [] L h
theorem St.E1(n:Nat)(h:St bs L w):St bs (kI cf e sz (List.replicate n (.slice none 0 0,[])) :: L) w:=by
 induction n with
 | zero=>exact h.aaN
 | succ n a=>exact St.Il (p:=(.slice none 0 0,[])) (St.Ef a e sz)
theorem wg{a b v:Value}(hi:i<l.length)(hv:(fJ l i).1=v):(a :: b :: l.flatMap iH)[2+i]? = some v:=by
 have h:=v7 (cf:=iH) (sz:=1) (fun _=>rfl) l i 0 (fJ l i) v (gy hi) (by rw[<-hv];rfl)
 rw[sD,pM]at h
 rw[Nat.add_comm]
 exact h
theorem Jv{a b v:Value}{xs:List α}(hi:i<l.length):setAt (a :: b :: l.flatMap iH) (2+i) [v]=a :: b :: (fM l i (fun _=>(v,xs))).flatMap iH:=by
 have h:=FF (cf:=iH) (sz:=1) (off:=0) (vs:=[v]) (f:=fun _=>(v,xs)) (fun _=>rfl) hi rfl (zj _)
 rw[sD,pM]at h
 have c:=S9 (a:=[a,b]) (b:=l.flatMap iH) (vs:=[v]) (o:=i)
 rw[h]at c
 exact c
theorem aaz{a b:Value}(hi:i<l.length):2+i+1<=(a :: b :: l.flatMap iH).length:=by
 rw[zb,zb,oJ (sz:=1) (fun _=>rfl)]
 omega
end
end Go.Sx
namespace Go.Sx
open Go
section
variable {P:Program} {w:World} {f:FuncId} {γ:Type} {b:Nat} {k:IntKind} {enc:γ->Value} {m:List (Int×γ)}
theorem VR(h:Own (ic b k enc m) w)(l:∀ es g,w.heap[b]? = some (.map es g)->Calls P f #[.map (some b)] w fun e w' => e = .returned (.map (some w.heap.size))/\w' = w.alloc (.map es g)) :
 CR P f #[.map (some b)] w (fun r w' => ∃ b2,r = .map (some b2)/\fV (ic b k enc m) w w' (gm [ic b k enc m,ic b2 k enc m])):=by
 obtain⟨es,d,i,j⟩:=h.holds
 have n:=St.Jn h
 refine Calls.mono (l _ _ i) ?_
 rintro e w' ⟨rfl,rfl⟩
 refine⟨_,rfl,w.heap.size,rfl,?_⟩
 have o:St [(w,(ic b k enc m).gH)] (ic w.heap.size k enc m :: [ic b k enc m]) (w.alloc (.map (es.map (lN k)).toArray d)) :=
  n.sN (gw.alloc [] w _) (fun c a=>by simp[ic]at a;omega) (by simp[ic]) (fun c a=>by simp[ic]at a;simp;omega) ⟨es,d,heap_alloc_new w _,j⟩
 exact St.WK (o.perm (List.Perm.swap _ _ _)) za
end
end Go.Sx
namespace Go.Sx
open Go
section
variable {r:Option Nat} {P:Program} {ops:Array Oper} {Q:Exit->Act->World->Prop} {rest:List Oper} {n:Nat} {s:List (Nat×Value)} {ds:List Deferred} {w:World}
variable {d:Nat} {dd:Option Nat} {ty t t' e kt:TypeId} {pos:String} {af:Array Edge} {g:Option (Nat×Bool)} {x y:Operand} {a:Option Nat} {c:Bool}
theorem aew(k:Nat)(b:P.underlying t=some (.map kt e)):(Op.equalIn (k+1) t (.map a) (.map none)).run P w = .ok a.isNone w:=by
 cases a<;>simp[Op.equalIn,run_underlying b]
theorem acg(f:ev n s x = .map a)(h:ev n s y = .map none)(d:P.underlying t=some (.map kt e))(b:(!a.isNone)=c) :
 (execOp (ev n s) ⟨dd,.binOp .neq t x y t', ty,pos,af,g⟩).run P w = .ok (.value (.bool c)) w:=by
 subst b
 simp[execOp,f,h,eqGuard,binOp,Op.equal,Op.maxDepth,aew 9999 d]
theorem Ry(f:gC ops n s g=true)(i:ev n s x = .map a)(j:ev n s y = .map none)(h:P.underlying t=some (.map kt e))(b:(!a.isNone)=c)
 (K:WL r P ops Q rest (Fr n ((d,.bool c) :: s) ds) w):WL r P ops Q (⟨some d,.binOp .neq t x y t', ty,pos,af,g⟩ :: rest) (Fr n s ds) w:=pw f (fun _=>acg i j h b) K
end
end Go.Sx
namespace Go.Sx
open Go
section
variable {α:Type} {cf:α->List Value} {ok:Nat->Prop} {ys:List α} {k:Nat} {c:α} {off:Nat}
variable {r:Option Nat} {P:Program} {ops:Array Oper} {Q:Exit->Act->World->Prop} {rest:List Oper} {n:Nat} {s:List (Nat×Value)} {ds:List Deferred} {w w0:World}
variable {d:Nat} {dd:Option Nat} {ty:TypeId} {pos:String} {af:Array Edge} {g:Option (Nat×Bool)} {v:Value} {x:Operand} {sz:Nat}
theorem acm(e:ev n s x=jm sz v k off)(a:gY sz cf ok w0 v ys)(d:ys[k]? = some c) :
 (execOp (ev n s) ⟨dd,.nilCheck x,ty,pos,af,g⟩).run P w = .ok (.value (jm sz v k off)) w:=by
 obtain⟨b,o,m,f,rfl,_⟩:=a.place d
 exact yF e
theorem A8(e:gC ops n s g=true)(f:ev n s x=jm sz v k off)(a:gY sz cf ok w0 v ys)(b:ys[k]? = some c)(K:WL r P ops Q rest (Fr n ((d,jm sz v k off) :: s) ds) w) :
 WL r P ops Q (⟨some d,.nilCheck x,ty,pos,af,g⟩ :: rest) (Fr n s ds) w:=pw e (fun _=>acm f a b) K
end
end Go.Sx
