/- The closed facts of a row: what the program forces its cells to be. -/
import Derived.Test.YtedjjkcihkmjgaaGreatDoorRows
import Derived.Stop.Joined
import Derived.JoinedOf
import Derived.ProofKit
import Derived.KernelRfl
import GoSem.ClaimSeven
set_option maxRecDepth 100000
set_option linter.unusedVariables false
namespace Go.Proofs.YtedjjkcihkmjgaaGreatDoor
open Go
theorem WV:(Rows.viewBuildsRow.wf (OpenSpec.ofChange Rows.viewBuildsSpec)&&laidOutB Tryz.prog&&mapsRowed Tryz.prog)=true:=by kernel_rfl
theorem WX:(Rows.viewBuildsRow.inPlace==Tryz.prog.inPlace 5)=true:=by kernel_rfl
theorem WY:(Rows.viewBuildsRow.unfollowed==Tryz.prog.unfollowed 5)=true:=by kernel_rfl
theorem WZ:(Rows.viewBuildsRow.recurses==Tryz.prog.recurses 5)=true:=by kernel_rfl
theorem W0:(Rows.viewBuildsRow.named==Tryz.prog.varsNamed 5)=true:=by kernel_rfl
theorem Pj:joinedFacts Tryz.prog 5 Tryz.f5 Rows.viewBuildsSpec Rows.viewBuildsRow=true:=by
  unfold joinedFacts
  rw[WV,WX,WY,WZ,W0]
  kernel_rfl
theorem FN:Tryz.prog.funcNamed Rows.viewBuildsRow.func=some 5:=by kernel_rfl
theorem Pm:Tryz.f5.isInstance Tryz.prog Rows.viewBuildsRow.origin Rows.viewBuildsRow.targs:=of_decide_eq_true (by kernel_rfl)
theorem Pv:Tryz.f5.isWrapper Tryz.prog Rows.viewBuildsRow.wrapper Rows.viewBuildsRow.mainSum:=by unfold Func.isWrapper;first|(rw[if_pos (by decide +kernel)];kernel_rfl)|(rw[if_neg (by decide +kernel)];exact⟨rfl,rfl⟩)
theorem Pu:Rows.viewBuildsRow.wfByText (OpenSpec.ofChange Rows.viewBuildsSpec)=true:=by kernel_rfl
theorem Pp : Tryz.prog.mainIs = some (true, "0e35c6e2253602773a318414b9fc8288622da8abae735fbd432c94871db9d85b".toList) := by kernel_rfl
theorem Po:true=Tryz.prog.looks []:=by kernel_rfl
theorem Pk:false=Rows.viewBuildsRow.goesBy Tryz.prog:=by kernel_rfl
theorem Pq:Tryz.prog.wantsStandIn 22=false:=by kernel_rfl
theorem Pr:Tryz.prog.wantsStandIn 2=false:=by kernel_rfl
theorem Pt:Tryz.prog.wantsStandIn 70=false:=by kernel_rfl
end Go.Proofs.YtedjjkcihkmjgaaGreatDoor
