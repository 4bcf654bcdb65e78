/- The closed facts of a row: what the program forces its cells to be. -/
import Derived.Test.YtoceanggliccgaaGreatDoorRows
import Derived.Stop.Joined
import Derived.JoinedOf
import Derived.ProofKit
import Derived.KernelRfl
import GoSem.ClaimSeven
set_option maxRecDepth 100000
set_option linter.unusedVariables false
namespace Go.Proofs.YtoceanggliccgaaGreatDoor
open Go
theorem YZ:(Rows.viewHistoRow.wf (OpenSpec.ofChange Rows.viewHistoSpec)&&laidOutB Tryz.prog&&mapsRowed Tryz.prog)=true:=by kernel_rfl
theorem Y2:(Rows.viewHistoRow.inPlace==Tryz.prog.inPlace 4)=true:=by kernel_rfl
theorem Y3:(Rows.viewHistoRow.unfollowed==Tryz.prog.unfollowed 4)=true:=by kernel_rfl
theorem Y4:(Rows.viewHistoRow.recurses==Tryz.prog.recurses 4)=true:=by kernel_rfl
theorem Y5:(Rows.viewHistoRow.named==Tryz.prog.varsNamed 4)=true:=by kernel_rfl
theorem PE:joinedFacts Tryz.prog 4 Tryz.f4 Rows.viewHistoSpec Rows.viewHistoRow=true:=by
  unfold joinedFacts
  rw[YZ,Y2,Y3,Y4,Y5]
  kernel_rfl
theorem EP:Tryz.prog.funcNamed Rows.viewHistoRow.func=some 4:=by kernel_rfl
theorem PG:Tryz.f4.isInstance Tryz.prog Rows.viewHistoRow.origin Rows.viewHistoRow.targs:=of_decide_eq_true (by kernel_rfl)
theorem PO:Tryz.f4.isWrapper Tryz.prog Rows.viewHistoRow.wrapper Rows.viewHistoRow.mainSum:=by unfold Func.isWrapper;first|(rw[if_pos (by decide +kernel)];kernel_rfl)|(rw[if_neg (by decide +kernel)];exact⟨rfl,rfl⟩)
theorem PN:Rows.viewHistoRow.wfByText (OpenSpec.ofChange Rows.viewHistoSpec)=true:=by kernel_rfl
theorem PK : Tryz.prog.mainIs = some (true, "ed780c8116b1c2cdc0d5ff4c0a2ca769eca6bd3b8827af12e0f8024af27b70bd".toList) := by kernel_rfl
theorem PJ:true=Tryz.prog.looks []:=by kernel_rfl
theorem PF:false=Rows.viewHistoRow.goesBy Tryz.prog:=by kernel_rfl
theorem PM:Tryz.prog.wantsStandIn 2=false:=by kernel_rfl
theorem AD:Tryz.prog.wantsStandIn 5=false:=by kernel_rfl
theorem PL:Tryz.prog.wantsStandIn 22=false:=by kernel_rfl
end Go.Proofs.YtoceanggliccgaaGreatDoor
