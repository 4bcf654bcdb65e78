/- The closed facts of a row: what the program forces its cells to be. -/
import Derived.Test.YtoceanggliccgaaGreatDoorRows
import Derived.Stop.Joined
import Derived.JoinedOf
import Derived.ProofKit
import Derived.KernelRfl
import GoSem.ClaimSeven
set_option maxRecDepth 100000
set_option linter.unusedVariables false
namespace Go.Proofs.YtoceanggliccgaaGreatDoor
open Go
theorem Vy:(Rows.viewClustersRow.wf (OpenSpec.ofChange Rows.viewClustersSpec)&&laidOutB Tryz.prog&&mapsRowed Tryz.prog)=true:=by kernel_rfl
theorem Vz:(Rows.viewClustersRow.inPlace==Tryz.prog.inPlace 3)=true:=by kernel_rfl
theorem VA:(Rows.viewClustersRow.unfollowed==Tryz.prog.unfollowed 3)=true:=by kernel_rfl
theorem VB:(Rows.viewClustersRow.recurses==Tryz.prog.recurses 3)=true:=by kernel_rfl
theorem VC:(Rows.viewClustersRow.named==Tryz.prog.varsNamed 3)=true:=by kernel_rfl
theorem NL:joinedFacts Tryz.prog 3 Tryz.f3 Rows.viewClustersSpec Rows.viewClustersRow=true:=by
  unfold joinedFacts
  rw[Vy,Vz,VA,VB,VC]
  kernel_rfl
theorem Es:Tryz.prog.funcNamed Rows.viewClustersRow.func=some 3:=by kernel_rfl
theorem NN:Tryz.f3.isInstance Tryz.prog Rows.viewClustersRow.origin Rows.viewClustersRow.targs:=of_decide_eq_true (by kernel_rfl)
theorem NV:Tryz.f3.isWrapper Tryz.prog Rows.viewClustersRow.wrapper Rows.viewClustersRow.mainSum:=by unfold Func.isWrapper;first|(rw[if_pos (by decide +kernel)];kernel_rfl)|(rw[if_neg (by decide +kernel)];exact⟨rfl,rfl⟩)
theorem NU:Rows.viewClustersRow.wfByText (OpenSpec.ofChange Rows.viewClustersSpec)=true:=by kernel_rfl
theorem NR : Tryz.prog.mainIs = some (true, "ed780c8116b1c2cdc0d5ff4c0a2ca769eca6bd3b8827af12e0f8024af27b70bd".toList) := by kernel_rfl
theorem NQ:true=Tryz.prog.looks []:=by kernel_rfl
theorem NM:false=Rows.viewClustersRow.goesBy Tryz.prog:=by kernel_rfl
theorem NT:Tryz.prog.wantsStandIn 2=false:=by kernel_rfl
theorem NS:Tryz.prog.wantsStandIn 22=false:=by kernel_rfl
end Go.Proofs.YtoceanggliccgaaGreatDoor
