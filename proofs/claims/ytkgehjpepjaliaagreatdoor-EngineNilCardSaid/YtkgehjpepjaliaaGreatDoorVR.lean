/- works(): the run. -/
import Derived.Test.YtkgehjpepjaliaaGreatDoorG
import Derived.Test.YtkgehjpepjaliaaGreatDoorTV
set_option maxRecDepth 100000
set_option linter.unusedVariables false
namespace Go.Proofs.YtkgehjpepjaliaaGreatDoor
open Go Go.Sx Go.Ex
theorem works_run (W : World) (hg : ∀ p ∈ tabs, GlobOk W p) : CR Tryz.prog 11 #[] W (fun v w' => v = .bool true ∧ Chg [] W w') :=
  tab_glob mixed Tab.tTV_ok (k := 100000) (by kernel_rfl) W hg
end Go.Proofs.YtkgehjpepjaliaaGreatDoor
