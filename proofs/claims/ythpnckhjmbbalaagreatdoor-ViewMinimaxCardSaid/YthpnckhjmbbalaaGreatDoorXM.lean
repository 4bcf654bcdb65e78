/- The closed facts of a row: what the program forces its cells to be. -/
import Derived.Test.YthpnckhjmbbalaaGreatDoorRows
import Derived.Stop.Joined
import Derived.JoinedOf
import Derived.ProofKit
import Derived.KernelRfl
import GoSem.ClaimSeven
set_option maxRecDepth 100000
set_option linter.unusedVariables false
namespace Go.Proofs.YthpnckhjmbbalaaGreatDoor
open Go
theorem abn:(Rows.viewMinimaxRow.wf (OpenSpec.ofChange Rows.viewMinimaxSpec)&&laidOutB Tryz.prog&&mapsRowed Tryz.prog)=true:=by kernel_rfl
theorem abo:(Rows.viewMinimaxRow.inPlace==Tryz.prog.inPlace 3)=true:=by kernel_rfl
theorem abp:(Rows.viewMinimaxRow.unfollowed==Tryz.prog.unfollowed 3)=true:=by kernel_rfl
theorem abq:(Rows.viewMinimaxRow.recurses==Tryz.prog.recurses 3)=true:=by kernel_rfl
theorem abr:(Rows.viewMinimaxRow.named==Tryz.prog.varsNamed 3)=true:=by kernel_rfl
theorem QU:joinedFacts Tryz.prog 3 Tryz.f3 Rows.viewMinimaxSpec Rows.viewMinimaxRow=true:=by
  unfold joinedFacts
  rw[abn,abo,abp,abq,abr]
  kernel_rfl
theorem FK:Tryz.prog.funcNamed Rows.viewMinimaxRow.func=some 3:=by kernel_rfl
theorem QW:Tryz.f3.isInstance Tryz.prog Rows.viewMinimaxRow.origin Rows.viewMinimaxRow.targs:=of_decide_eq_true (by kernel_rfl)
theorem Q2:Tryz.f3.isWrapper Tryz.prog Rows.viewMinimaxRow.wrapper Rows.viewMinimaxRow.mainSum:=by unfold Func.isWrapper;first|(rw[if_pos (by decide +kernel)];kernel_rfl)|(rw[if_neg (by decide +kernel)];exact⟨rfl,rfl⟩)
theorem Q1:Rows.viewMinimaxRow.wfByText (OpenSpec.ofChange Rows.viewMinimaxSpec)=true:=by kernel_rfl
theorem QZ : Tryz.prog.mainIs = some (true, "d28ffc5f31970c8f07d53b38de231648328090caabaabe1fde131c23091ef2ac".toList) := by kernel_rfl
theorem QY:true=Tryz.prog.looks []:=by kernel_rfl
theorem QV:false=Rows.viewMinimaxRow.goesBy Tryz.prog:=by kernel_rfl
theorem FL:Tryz.prog.wantsStandIn 5=false:=by kernel_rfl
theorem Q0:Tryz.prog.wantsStandIn 22=false:=by kernel_rfl
end Go.Proofs.YthpnckhjmbbalaaGreatDoor
