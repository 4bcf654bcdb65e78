/- The closed facts of a row: what the program forces its cells to be. -/
import Derived.Test.YtjhkmopeagfnlaaGreatDoorRows
import Derived.Stop.Joined
import Derived.JoinedOf
import Derived.ProofKit
import Derived.KernelRfl
import GoSem.ClaimSeven
set_option maxRecDepth 100000
set_option linter.unusedVariables false
namespace Go.Proofs.YtjhkmopeagfnlaaGreatDoor
open Go
theorem XL:(Rows.viewGraphRow.wf (OpenSpec.ofChange Rows.viewGraphSpec)&&laidOutB Tryz.prog&&mapsRowed Tryz.prog)=true:=by kernel_rfl
theorem Wn:(Rows.viewGraphRow.inPlace==Tryz.prog.inPlace 3)=true:=by kernel_rfl
theorem Xe:(Rows.viewGraphRow.unfollowed==Tryz.prog.unfollowed 3)=true:=by kernel_rfl
theorem Xx:(Rows.viewGraphRow.recurses==Tryz.prog.recurses 3)=true:=by kernel_rfl
theorem XD:(Rows.viewGraphRow.named==Tryz.prog.varsNamed 3)=true:=by kernel_rfl
theorem Kt:joinedFacts Tryz.prog 3 Tryz.f3 Rows.viewGraphSpec Rows.viewGraphRow=true:=by
  unfold joinedFacts
  rw[XL,Wn,Xe,Xx,XD]
  kernel_rfl
theorem Cy:Tryz.prog.funcNamed Rows.viewGraphRow.func=some 3:=by kernel_rfl
theorem KF:Tryz.f3.isInstance Tryz.prog Rows.viewGraphRow.origin Rows.viewGraphRow.targs:=of_decide_eq_true (by kernel_rfl)
theorem K0:Tryz.f3.isWrapper Tryz.prog Rows.viewGraphRow.wrapper Rows.viewGraphRow.mainSum:=by unfold Func.isWrapper;first|(rw[if_pos (by decide +kernel)];kernel_rfl)|(rw[if_neg (by decide +kernel)];exact⟨rfl,rfl⟩)
theorem L6:Rows.viewGraphRow.wfByText (OpenSpec.ofChange Rows.viewGraphSpec)=true:=by kernel_rfl
theorem KV : Tryz.prog.mainIs = some (true, "31c393af397ebaf7b59334f4dc802a9d384f189c2af5293d8518e351c2acbb48".toList) := by kernel_rfl
theorem Ky:true=Tryz.prog.looks []:=by kernel_rfl
theorem KP:false=Rows.viewGraphRow.goesBy Tryz.prog:=by kernel_rfl
theorem Kx:Tryz.prog.wantsStandIn 22=false:=by kernel_rfl
end Go.Proofs.YtjhkmopeagfnlaaGreatDoor
