/- The closed facts of a row: what the program forces its cells to be. -/
import Derived.Test.YtkgehjpepjaliaaGreatDoorRows
import Derived.Stop.Joined
import Derived.JoinedOf
import Derived.ProofKit
import Derived.KernelRfl
import GoSem.ClaimSeven
set_option maxRecDepth 100000
set_option linter.unusedVariables false
namespace Go.Proofs.YtkgehjpepjaliaaGreatDoor
open Go
theorem nil1 : (Rows.engineNilRow.wf (OpenSpec.ofChange Rows.engineNilSpec) && laidOutB Tryz.prog && mapsRowed Tryz.prog) = true := by kernel_rfl
theorem nil10 : (Rows.engineNilRow.inPlace == Tryz.prog.inPlace 3) = true := by kernel_rfl
theorem nil11 : (Rows.engineNilRow.unfollowed == Tryz.prog.unfollowed 3) = true := by kernel_rfl
theorem nil12 : (Rows.engineNilRow.recurses == Tryz.prog.recurses 3) = true := by kernel_rfl
theorem nil13 : (Rows.engineNilRow.named == Tryz.prog.varsNamed 3) = true := by kernel_rfl
theorem nil_closed : joinedFacts Tryz.prog 3 Tryz.f3 Rows.engineNilSpec Rows.engineNilRow = true := by
  unfold joinedFacts
  rw [nil1, nil10, nil11, nil12, nil13]
  kernel_rfl
theorem nil_named : Tryz.prog.funcNamed Rows.engineNilRow.func = some 3 := by kernel_rfl
theorem nil_inst : Tryz.f3.isInstance Tryz.prog Rows.engineNilRow.origin Rows.engineNilRow.targs := of_decide_eq_true (by kernel_rfl)
theorem nil_wrap : Tryz.f3.isWrapper Tryz.prog Rows.engineNilRow.wrapper Rows.engineNilRow.mainSum := by unfold Func.isWrapper; first | (rw [if_pos (by decide +kernel)]; kernel_rfl) | (rw [if_neg (by decide +kernel)]; exact ⟨rfl, rfl⟩)
theorem nil_wf : Rows.engineNilRow.wfByText (OpenSpec.ofChange Rows.engineNilSpec) = true := by kernel_rfl
theorem nil_main : Tryz.prog.mainIs = some (true, "7b746bb32f2642706e1cd95aed6120e66b2134b6956ba39d6d3c0ce1e6cccd5d".toList) := by kernel_rfl
theorem nil_looks : true = Tryz.prog.looks [] := by kernel_rfl
theorem nil_goes : false = Rows.engineNilRow.goesBy Tryz.prog := by kernel_rfl
theorem nil_stand0 : Tryz.prog.wantsStandIn 27 = false := by kernel_rfl
end Go.Proofs.YtkgehjpepjaliaaGreatDoor
