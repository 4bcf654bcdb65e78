/- What the package variables hold when the call begins: the table of math/bits. -/
import Derived.Test.YtedjjkcihkmjgaaGreatDoorVf
import Derived.Test.YtedjjkcihkmjgaaGreatDoorRows
import Derived.LaidMore
import Derived.OpenShut
import Derived.Stop.Joined
set_option maxRecDepth 100000
set_option linter.unusedVariables false
namespace Go.Proofs.YtedjjkcihkmjgaaGreatDoor
open Go Go.Sx Go.ChangeShapes Go.WideShapes Go.ChangeAt Go.RowKit

/-- a variable that reads as an array of integers holds them -/
theorem Wb{P:Program}{H:Type}{enc:TypeId×Value→H}{w:World}{base:Nat}{sp:Nat→Bool}{hd:Bool}{fuel:Nat}{t e:TypeId}{n:Nat}{k:IntKind}{cs:List Value}{pl:List MemPlace}{xs:List Int}
    (ht:P.underlying t=some (.array n e)) (he:P.underlying e=some (.int k)) (hc:P.cellsOf e=1) (h:DataW.trod enc P w base sp hd fuel t cs=some (.agg (xs.map fun x=>.lit (.int k x)),pl)) (hx:xs.length=n) :
    ∀ (j:Nat) (x:Int),xs[j]? = some x→cs[j]? = some (.int k x):=by
  obtain⟨ys,m,rfl,hy,hl,hn,hel⟩:=DataW.trod_array ht h
  simp only[Prod.mk.injEq,DataW.agg.injEq]at hy
  intro j x hj
  have hjn:j<n:=by have:=(List.getElem?_eq_some_iff.1 hj).1;omega
  have h1:=hel j hjn
  rw[hc,Nat.mul_one]at h1
  obtain⟨y,hy1⟩:∃ y,ys[j]? = some y:=⟨_,List.getElem?_eq_getElem (by omega)⟩
  rw[hy1]at h1
  obtain⟨q,e1,e2,_⟩:=DataW.trod_int he h1
  have h2:(ys.map (·.1))[j]? = some (.lit (.int k x)):=by rw[←hy.1];simp[hj]
  rw[List.getElem?_map,hy1]at h2
  simp only[Option.map_some,e2,Option.some.injEq]at h2
  have h3:q=x:=by
    have:=h2
    simp only[DataW.lit.injEq,Lit.int.injEq,true_and]at this
    exact this
  subst h3
  have h4:((cs.drop j).take 1)[0]? = some (.int k q):=by rw[e1];rfl
  simpa[List.getElem?_take]using h4
def Vn:List Int:=[0,1,56,2,57,49,28,3,61,58,42,50,38,29,17,4,62,47,59,36,45,43,51,22,53,39,33,30,24,18,12,5,63,55,48,27,60,41,37,16,46,35,44,21,52,32,23,11,54,26,40,15,34,20,31,10,25,14,19,9,13,8,7,6]
theorem ah2:Vn=Go.Lib.deBruijn64tab.map fun n:Nat=>(n:Int):=rfl
theorem SD:ownKnob Tryz.prog.godebug=none:=by kernel_rfl
theorem BV:laidOutB Tryz.prog=true:=by kernel_rfl
theorem g32 : Tryz.prog.globalNamed "math/bits.deBruijn32tab" = some 0 := by kernel_rfl
theorem Y7 : Tryz.prog.globalNamed "math/bits.deBruijn64tab" = some 1 := by kernel_rfl
abbrev xo : List (String × DataW Unit) := [("math/bits.deBruijn32tab", Rows.laid_math_bits_deBruijn32tab), ("math/bits.deBruijn64tab", Rows.laid_math_bits_deBruijn64tab)]
theorem ah7:(Tryz.prog.globals[0]?).map (·.type)=some 453:=by kernel_rfl
theorem agj:(Tryz.prog.globals[1]?).map (·.type)=some 454:=by kernel_rfl
theorem af3:Tryz.prog.underlying 454=some (.array 64 5):=by kernel_rfl
theorem t5:Tryz.prog.underlying 5=some (.int .u8):=by kernel_rfl
theorem tc5:Tryz.prog.cellsOf 5=1:=by kernel_rfl
theorem Qf(os:Os)(args:Array Value):laidMetH Tryz.prog xo ((World.doorLaid Tryz.prog 400 os).forCall (fun _ _=>0) ⟨#[],args,[]⟩).memory :=
  laidMetH_of_parts3 (fuel:=8) (laidMet_of_run' 8 (by kernel_rfl) (by kernel_rfl)) (by kernel_rfl) (by kernel_rfl)
theorem d64:(Rows.laid_math_bits_deBruijn64tab:DataW Unit) = .agg (Vn.map fun x=>.lit (.int .u8 x)):=rfl
theorem Sr{W:World}(h:laidMetH Tryz.prog xo W):∃ o,(kE o).holds W:=by
  rw[MakeChecks.laidMetH_plain _ _ _ (by kernel_rfl)]at h
  obtain⟨ps,⟨ga,t0,cs0,f0,p0,q0,hg0,ht0,hv0,hd0,⟨gb,t1,cs1,f1,p1,q1,hg1,ht1,hv1,hd1,_,_⟩,_⟩,_,_⟩:=h
  obtain rfl:=Option.some.inj (Y7.symm.trans hg1)
  obtain rfl:=Option.some.inj (agj.symm.trans ht1)
  have hc:=Wb af3 t5 tc5 (by rw[←d64];exact hd1) rfl
  refine af6 fun j hj=>?_
  rw[World.var?_cell hg1 hv1 j]
  have hx:=hc j ((Go.Lib.deBruijn64tab.getD j 0:Nat):Int) (by rw[ah2,List.getElem?_map,List.getD_eq_getElem?_getD,List.getElem?_eq_getElem (by exact hj)];rfl)
  simpa using hx
end Go.Proofs.YtedjjkcihkmjgaaGreatDoor
