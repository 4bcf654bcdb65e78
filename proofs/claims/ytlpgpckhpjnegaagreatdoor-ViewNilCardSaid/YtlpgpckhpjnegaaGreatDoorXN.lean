/- The closed facts of a row: what the program forces its cells to be. -/
import Derived.Test.YtlpgpckhpjnegaaGreatDoorRows
import Derived.Stop.Joined
import Derived.JoinedOf
import Derived.ProofKit
import Derived.KernelRfl
import GoSem.ClaimSeven
set_option maxRecDepth 100000
set_option linter.unusedVariables false
namespace Go.Proofs.YtlpgpckhpjnegaaGreatDoor
open Go
theorem nil1 : (Rows.viewNilRow.wf (OpenSpec.ofChange Rows.viewNilSpec) && laidOutB Tryz.prog && mapsRowed Tryz.prog) = true := by kernel_rfl
theorem nil10 : (Rows.viewNilRow.inPlace == Tryz.prog.inPlace 4) = true := by kernel_rfl
theorem nil11 : (Rows.viewNilRow.unfollowed == Tryz.prog.unfollowed 4) = true := by kernel_rfl
theorem nil12 : (Rows.viewNilRow.recurses == Tryz.prog.recurses 4) = true := by kernel_rfl
theorem nil13 : (Rows.viewNilRow.named == Tryz.prog.varsNamed 4) = true := by kernel_rfl
theorem nil_closed : joinedFacts Tryz.prog 4 Tryz.f4 Rows.viewNilSpec Rows.viewNilRow = true := by
  unfold joinedFacts
  rw [nil1, nil10, nil11, nil12, nil13]
  kernel_rfl
theorem nil_named : Tryz.prog.funcNamed Rows.viewNilRow.func = some 4 := by kernel_rfl
theorem nil_inst : Tryz.f4.isInstance Tryz.prog Rows.viewNilRow.origin Rows.viewNilRow.targs := of_decide_eq_true (by kernel_rfl)
theorem nil_wrap : Tryz.f4.isWrapper Tryz.prog Rows.viewNilRow.wrapper Rows.viewNilRow.mainSum := by unfold Func.isWrapper; first | (rw [if_pos (by decide +kernel)]; kernel_rfl) | (rw [if_neg (by decide +kernel)]; exact ⟨rfl, rfl⟩)
theorem nil_wf : Rows.viewNilRow.wfByText (OpenSpec.ofChange Rows.viewNilSpec) = true := by kernel_rfl
theorem nil_main : Tryz.prog.mainIs = some (true, "49e03b334bbccd7382e456d623882736c6c0ce025760e47e37d400d3e9dd5169".toList) := by kernel_rfl
theorem nil_looks : true = Tryz.prog.looks [] := by kernel_rfl
theorem nil_goes : false = Rows.viewNilRow.goesBy Tryz.prog := by kernel_rfl
theorem nil_stand0 : Tryz.prog.wantsStandIn 29 = false := by kernel_rfl
theorem nil_stand1 : Tryz.prog.wantsStandIn 2 = false := by kernel_rfl
theorem nil_stand2 : Tryz.prog.wantsStandIn 35 = false := by kernel_rfl
end Go.Proofs.YtlpgpckhpjnegaaGreatDoor
