/- What the package variables hold when the call begins, as the evaluator takes them. -/
import Derived.Test.YtjhkmopeagfnlaaGreatDoorRows
import Derived.Test.YtjhkmopeagfnlaaGreatDoorFd
import Derived.ProofKit
import Derived.LaidMore
import Derived.OpenShut
import Derived.Stop.Joined
import Derived.KernelRfl
set_option maxRecDepth 100000
set_option linter.unusedVariables false
namespace Go.Proofs.YtjhkmopeagfnlaaGreatDoor
open Go Go.Sx Go.Ex Go.ChangeShapes Go.WideShapes Go.ChangeAt Go.RowKit

def PZ:List Int:=[0,1,28,2,29,14,24,3,30,22,20,15,25,17,4,8,31,27,13,23,21,19,16,7,26,12,18,6,11,5,10,9]
def PC:List Int:=[0,1,56,2,57,49,28,3,61,58,42,50,38,29,17,4,62,47,59,36,45,43,51,22,53,39,33,30,24,18,12,5,63,55,48,27,60,41,37,16,46,35,44,21,52,32,23,11,54,26,40,15,34,20,31,10,25,14,19,9,13,8,7,6]
def Em:List (Nat×List Value):=[(0,[.int .u8 0,.int .u8 1,.int .u8 28,.int .u8 2,.int .u8 29,.int .u8 14,.int .u8 24,.int .u8 3,.int .u8 30,.int .u8 22,.int .u8 20,.int .u8 15,.int .u8 25,.int .u8 17,.int .u8 4,.int .u8 8,.int .u8 31,.int .u8 27,.int .u8 13,.int .u8 23,.int .u8 21,.int .u8 19,.int .u8 16,.int .u8 7,.int .u8 26,.int .u8 12,.int .u8 18,.int .u8 6,.int .u8 11,.int .u8 5,.int .u8 10,.int .u8 9]),(1,[.int .u8 0,.int .u8 1,.int .u8 56,.int .u8 2,.int .u8 57,.int .u8 49,.int .u8 28,.int .u8 3,.int .u8 61,.int .u8 58,.int .u8 42,.int .u8 50,.int .u8 38,.int .u8 29,.int .u8 17,.int .u8 4,.int .u8 62,.int .u8 47,.int .u8 59,.int .u8 36,.int .u8 45,.int .u8 43,.int .u8 51,.int .u8 22,.int .u8 53,.int .u8 39,.int .u8 33,.int .u8 30,.int .u8 24,.int .u8 18,.int .u8 12,.int .u8 5,.int .u8 63,.int .u8 55,.int .u8 48,.int .u8 27,.int .u8 60,.int .u8 41,.int .u8 37,.int .u8 16,.int .u8 46,.int .u8 35,.int .u8 44,.int .u8 21,.int .u8 52,.int .u8 32,.int .u8 23,.int .u8 11,.int .u8 54,.int .u8 26,.int .u8 40,.int .u8 15,.int .u8 34,.int .u8 20,.int .u8 31,.int .u8 10,.int .u8 25,.int .u8 14,.int .u8 19,.int .u8 9,.int .u8 13,.int .u8 8,.int .u8 7,.int .u8 6])]
theorem V7:Em=[(0,PZ.map (.int .u8)),(1,PC.map (.int .u8))]:=rfl
theorem PW:ownKnob Tryz.prog.godebug=none:=by kernel_rfl
theorem Pr:laidOutB Tryz.prog=true:=by kernel_rfl
theorem g32 : Tryz.prog.globalNamed "math/bits.deBruijn32tab" = some 0 := by kernel_rfl
theorem g64 : Tryz.prog.globalNamed "math/bits.deBruijn64tab" = some 1 := by kernel_rfl
abbrev uJ : List (String × DataW Unit) := [("math/bits.deBruijn32tab", Rows.laid_math_bits_deBruijn32tab), ("math/bits.deBruijn64tab", Rows.laid_math_bits_deBruijn64tab)]
theorem aaO:(Tryz.prog.globals[0]?).map (·.type)=some 337:=by kernel_rfl
theorem aaV:(Tryz.prog.globals[1]?).map (·.type)=some 338:=by kernel_rfl
theorem aaR:Tryz.prog.underlying 337=some (.array 32 5):=by kernel_rfl
theorem aa5:Tryz.prog.underlying 338=some (.array 64 5):=by kernel_rfl
theorem u5:Tryz.prog.underlying 5=some (.int .u8):=by kernel_rfl
theorem c5:Tryz.prog.cellsOf 5=1:=by kernel_rfl
theorem MD(os:Os)(args:Array Value):laidMetH Tryz.prog uJ ((World.doorLaid Tryz.prog 400 os).forCall (fun _ _=>0) ⟨#[],args,[]⟩).memory :=
  laidMetH_of_parts3 (fuel:=8) (laidMet_of_run' 8 (by kernel_rfl) (by kernel_rfl)) (by kernel_rfl) (by kernel_rfl)
theorem d32:(Rows.laid_math_bits_deBruijn32tab:DataW Unit) = .agg (PZ.map fun x=>.lit (.int .u8 x)):=rfl
theorem d64:(Rows.laid_math_bits_deBruijn64tab:DataW Unit) = .agg (PC.map fun x=>.lit (.int .u8 x)):=rfl
theorem L9{W:World}{n:String}{g:Nat}{cs:Array Value}{xs:List Int}(hg:Tryz.prog.globalNamed n=some g)(hv:W.var? Tryz.prog n=some cs)(hlt:g<GB)(hne:xs≠[])
    (h:∀ (j:Nat) (x:Int),xs[j]? = some x→cs.toList[j]? = some (.int .u8 x)):uE W (g,xs.map (.int .u8)):=by
  refine⟨hlt,?_,by simpa using hne,fun j u hu=>?_⟩
  · have:gT (xs.map (Value.int .u8))≤0:=ku.2 fun v hv=>by
      obtain⟨x,_,rfl⟩:=List.mem_map.1 hv
      simp[nm]
    exact Nat.le_zero.1 this
  · rw[List.getElem?_map]at hu
    cases hx:xs[j]? with
    | none=>rw[hx]at hu;cases hu
    | some x =>
      rw[hx]at hu
      cases hu
      rw[World.var?_cell hg hv j]
      simpa using h j x hx
theorem M4{W:World}(h:laidMetH Tryz.prog uJ W):∀ p∈Em,uE W p:=by
  rw[MakeChecks.laidMetH_plain _ _ _ (by kernel_rfl)]at h
  obtain⟨ps,⟨ga,t0,cs0,f0,p0,q0,hg0,ht0,hv0,hd0,⟨gb,t1,cs1,f1,p1,q1,hg1,ht1,hv1,hd1,_,_⟩,_⟩,_,_⟩:=h
  obtain rfl:=Option.some.inj (g32.symm.trans hg0)
  obtain rfl:=Option.some.inj (g64.symm.trans hg1)
  obtain rfl:=Option.some.inj (aaO.symm.trans ht0)
  obtain rfl:=Option.some.inj (aaV.symm.trans ht1)
  rw[V7]
  intro p hp
  simp only[List.mem_cons,List.not_mem_nil,or_false]at hp
  rcases hp with rfl|rfl
  · exact L9 hg0 hv0 (by decide) (by decide) (Lz aaR u5 c5 (by rw[←d32];exact hd0) rfl)
  · exact L9 hg1 hv1 (by decide) (by decide) (Lz aa5 u5 c5 (by rw[←d64];exact hd1) rfl)
end Go.Proofs.YtjhkmopeagfnlaaGreatDoor
