/- ViewGraph: the chapter's example holds. -/
import Derived.Test.YtjhkmopeagfnlaaGreatDoorG
import Derived.Test.YtjhkmopeagfnlaaGreatDoorVa
import Derived.Test.YtjhkmopeagfnlaaGreatDoorTE
set_option maxRecDepth 100000
set_option linter.unusedVariables false
namespace Go.Proofs.YtjhkmopeagfnlaaGreatDoor
open Go Go.Sx Go.Ex
theorem TA(W:World)(hg:∀ p∈Em,uE W p):CR Tryz.prog 10 #[] W (fun v w' => v = .bool true∧gD [] W w') :=
  VO mixed ji.Ym (k:=100000) (by kernel_rfl) W hg
end Go.Proofs.YtjhkmopeagfnlaaGreatDoor
