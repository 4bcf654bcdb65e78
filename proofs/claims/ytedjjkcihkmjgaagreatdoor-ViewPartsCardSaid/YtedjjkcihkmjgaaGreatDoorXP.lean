/- The closed facts of a row: what the program forces its cells to be. -/
import Derived.Test.YtedjjkcihkmjgaaGreatDoorRows
import Derived.Stop.Joined
import Derived.JoinedOf
import Derived.ProofKit
import Derived.KernelRfl
import GoSem.ClaimSeven
set_option maxRecDepth 100000
set_option linter.unusedVariables false
namespace Go.Proofs.YtedjjkcihkmjgaaGreatDoor
open Go
theorem acM:(Rows.viewPartsRow.wf (OpenSpec.ofChange Rows.viewPartsSpec)&&laidOutB Tryz.prog&&mapsRowed Tryz.prog)=true:=by kernel_rfl
theorem acN:(Rows.viewPartsRow.inPlace==Tryz.prog.inPlace 3)=true:=by kernel_rfl
theorem acO:(Rows.viewPartsRow.unfollowed==Tryz.prog.unfollowed 3)=true:=by kernel_rfl
theorem acP:(Rows.viewPartsRow.recurses==Tryz.prog.recurses 3)=true:=by kernel_rfl
theorem acQ:(Rows.viewPartsRow.named==Tryz.prog.varsNamed 3)=true:=by kernel_rfl
theorem RY:joinedFacts Tryz.prog 3 Tryz.f3 Rows.viewPartsSpec Rows.viewPartsRow=true:=by
  unfold joinedFacts
  rw[acM,acN,acO,acP,acQ]
  kernel_rfl
theorem Fz:Tryz.prog.funcNamed Rows.viewPartsRow.func=some 3:=by kernel_rfl
theorem R1:Tryz.f3.isInstance Tryz.prog Rows.viewPartsRow.origin Rows.viewPartsRow.targs:=of_decide_eq_true (by kernel_rfl)
theorem Sa:Tryz.f3.isWrapper Tryz.prog Rows.viewPartsRow.wrapper Rows.viewPartsRow.mainSum:=by unfold Func.isWrapper;first|(rw[if_pos (by decide +kernel)];kernel_rfl)|(rw[if_neg (by decide +kernel)];exact⟨rfl,rfl⟩)
theorem R8:Rows.viewPartsRow.wfByText (OpenSpec.ofChange Rows.viewPartsSpec)=true:=by kernel_rfl
theorem R6 : Tryz.prog.mainIs = some (true, "0e35c6e2253602773a318414b9fc8288622da8abae735fbd432c94871db9d85b".toList) := by kernel_rfl
theorem R5:true=Tryz.prog.looks []:=by kernel_rfl
theorem RZ:false=Rows.viewPartsRow.goesBy Tryz.prog:=by kernel_rfl
theorem R7:Tryz.prog.wantsStandIn 22=false:=by kernel_rfl
end Go.Proofs.YtedjjkcihkmjgaaGreatDoor
