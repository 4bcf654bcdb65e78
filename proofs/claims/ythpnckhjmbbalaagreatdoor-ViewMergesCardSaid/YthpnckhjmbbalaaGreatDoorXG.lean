/- The closed facts of a row: what the program forces its cells to be. -/
import Derived.Test.YthpnckhjmbbalaaGreatDoorRows
import Derived.Stop.Joined
import Derived.JoinedOf
import Derived.ProofKit
import Derived.KernelRfl
import GoSem.ClaimSeven
set_option maxRecDepth 100000
set_option linter.unusedVariables false
namespace Go.Proofs.YthpnckhjmbbalaaGreatDoor
open Go
theorem abo:(Rows.viewMergesRow.wf (OpenSpec.ofChange Rows.viewMergesSpec)&&laidOutB Tryz.prog&&mapsRowed Tryz.prog)=true:=by kernel_rfl
theorem abp:(Rows.viewMergesRow.inPlace==Tryz.prog.inPlace 4)=true:=by kernel_rfl
theorem abq:(Rows.viewMergesRow.unfollowed==Tryz.prog.unfollowed 4)=true:=by kernel_rfl
theorem abr:(Rows.viewMergesRow.recurses==Tryz.prog.recurses 4)=true:=by kernel_rfl
theorem abt:(Rows.viewMergesRow.named==Tryz.prog.varsNamed 4)=true:=by kernel_rfl
theorem QK:joinedFacts Tryz.prog 4 Tryz.f4 Rows.viewMergesSpec Rows.viewMergesRow=true:=by
  unfold joinedFacts
  rw[abo,abp,abq,abr,abt]
  kernel_rfl
theorem Fx:Tryz.prog.funcNamed Rows.viewMergesRow.func=some 4:=by kernel_rfl
theorem QM:Tryz.f4.isInstance Tryz.prog Rows.viewMergesRow.origin Rows.viewMergesRow.targs:=of_decide_eq_true (by kernel_rfl)
theorem QW:Tryz.f4.isWrapper Tryz.prog Rows.viewMergesRow.wrapper Rows.viewMergesRow.mainSum:=by unfold Func.isWrapper;first|(rw[if_pos (by decide +kernel)];kernel_rfl)|(rw[if_neg (by decide +kernel)];exact⟨rfl,rfl⟩)
theorem QV:Rows.viewMergesRow.wfByText (OpenSpec.ofChange Rows.viewMergesSpec)=true:=by kernel_rfl
theorem QT : Tryz.prog.mainIs = some (true, "d28ffc5f31970c8f07d53b38de231648328090caabaabe1fde131c23091ef2ac".toList) := by kernel_rfl
theorem QO:true=Tryz.prog.looks []:=by kernel_rfl
theorem QL:false=Rows.viewMergesRow.goesBy Tryz.prog:=by kernel_rfl
theorem QU:Tryz.prog.wantsStandIn 22=false:=by kernel_rfl
end Go.Proofs.YthpnckhjmbbalaaGreatDoor
