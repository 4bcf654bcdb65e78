/- The closed facts of a row: what the program forces its cells to be. -/
import Derived.Test.YtlpgpckhpjnegaaGreatDoorRows
import Derived.Stop.Joined
import Derived.JoinedOf
import Derived.ProofKit
import Derived.KernelRfl
import GoSem.ClaimSeven
set_option maxRecDepth 100000
set_option linter.unusedVariables false
namespace Go.Proofs.YtlpgpckhpjnegaaGreatDoor
open Go
theorem long1 : (Rows.viewLongRow.wf (OpenSpec.ofChange Rows.viewLongSpec) && laidOutB Tryz.prog && mapsRowed Tryz.prog) = true := by kernel_rfl
theorem long10 : (Rows.viewLongRow.inPlace == Tryz.prog.inPlace 3) = true := by kernel_rfl
theorem long11 : (Rows.viewLongRow.unfollowed == Tryz.prog.unfollowed 3) = true := by kernel_rfl
theorem long12 : (Rows.viewLongRow.recurses == Tryz.prog.recurses 3) = true := by kernel_rfl
theorem long13 : (Rows.viewLongRow.named == Tryz.prog.varsNamed 3) = true := by kernel_rfl
theorem long_closed : joinedFacts Tryz.prog 3 Tryz.f3 Rows.viewLongSpec Rows.viewLongRow = true := by
  unfold joinedFacts
  rw [long1, long10, long11, long12, long13]
  kernel_rfl
theorem long_named : Tryz.prog.funcNamed Rows.viewLongRow.func = some 3 := by kernel_rfl
theorem long_inst : Tryz.f3.isInstance Tryz.prog Rows.viewLongRow.origin Rows.viewLongRow.targs := of_decide_eq_true (by kernel_rfl)
theorem long_wrap : Tryz.f3.isWrapper Tryz.prog Rows.viewLongRow.wrapper Rows.viewLongRow.mainSum := by unfold Func.isWrapper; first | (rw [if_pos (by decide +kernel)]; kernel_rfl) | (rw [if_neg (by decide +kernel)]; exact ⟨rfl, rfl⟩)
theorem long_wf : Rows.viewLongRow.wfByText (OpenSpec.ofChange Rows.viewLongSpec) = true := by kernel_rfl
theorem long_main : Tryz.prog.mainIs = some (true, "49e03b334bbccd7382e456d623882736c6c0ce025760e47e37d400d3e9dd5169".toList) := by kernel_rfl
theorem long_looks : true = Tryz.prog.looks [] := by kernel_rfl
theorem long_goes : false = Rows.viewLongRow.goesBy Tryz.prog := by kernel_rfl
end Go.Proofs.YtlpgpckhpjnegaaGreatDoor
