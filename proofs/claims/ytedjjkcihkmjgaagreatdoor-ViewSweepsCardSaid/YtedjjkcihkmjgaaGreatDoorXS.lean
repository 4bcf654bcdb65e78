/- The closed facts of a row: what the program forces its cells to be. -/
import Derived.Test.YtedjjkcihkmjgaaGreatDoorRows
import Derived.Stop.Joined
import Derived.JoinedOf
import Derived.ProofKit
import Derived.KernelRfl
import GoSem.ClaimSeven
set_option maxRecDepth 100000
set_option linter.unusedVariables false
namespace Go.Proofs.YtedjjkcihkmjgaaGreatDoor
open Go
theorem adX:(Rows.viewSweepsRow.wf (OpenSpec.ofChange Rows.viewSweepsSpec)&&laidOutB Tryz.prog&&mapsRowed Tryz.prog)=true:=by kernel_rfl
theorem adY:(Rows.viewSweepsRow.inPlace==Tryz.prog.inPlace 4)=true:=by kernel_rfl
theorem adZ:(Rows.viewSweepsRow.unfollowed==Tryz.prog.unfollowed 4)=true:=by kernel_rfl
theorem ad0:(Rows.viewSweepsRow.recurses==Tryz.prog.recurses 4)=true:=by kernel_rfl
theorem ad1:(Rows.viewSweepsRow.named==Tryz.prog.varsNamed 4)=true:=by kernel_rfl
theorem R1:joinedFacts Tryz.prog 4 Tryz.f4 Rows.viewSweepsSpec Rows.viewSweepsRow=true:=by
  unfold joinedFacts
  rw[adX,adY,adZ,ad0,ad1]
  kernel_rfl
theorem GB:Tryz.prog.funcNamed Rows.viewSweepsRow.func=some 4:=by kernel_rfl
theorem R5:Tryz.f4.isInstance Tryz.prog Rows.viewSweepsRow.origin Rows.viewSweepsRow.targs:=of_decide_eq_true (by kernel_rfl)
theorem Sd:Tryz.f4.isWrapper Tryz.prog Rows.viewSweepsRow.wrapper Rows.viewSweepsRow.mainSum:=by unfold Func.isWrapper;first|(rw[if_pos (by decide +kernel)];kernel_rfl)|(rw[if_neg (by decide +kernel)];exact⟨rfl,rfl⟩)
theorem Sc:Rows.viewSweepsRow.wfByText (OpenSpec.ofChange Rows.viewSweepsSpec)=true:=by kernel_rfl
theorem R8 : Tryz.prog.mainIs = some (true, "0e35c6e2253602773a318414b9fc8288622da8abae735fbd432c94871db9d85b".toList) := by kernel_rfl
theorem R7:true=Tryz.prog.looks []:=by kernel_rfl
theorem R4:false=Rows.viewSweepsRow.goesBy Tryz.prog:=by kernel_rfl
theorem Sa:Tryz.prog.wantsStandIn 22=false:=by kernel_rfl
theorem Sb:Tryz.prog.wantsStandIn 27=false:=by kernel_rfl
end Go.Proofs.YtedjjkcihkmjgaaGreatDoor
