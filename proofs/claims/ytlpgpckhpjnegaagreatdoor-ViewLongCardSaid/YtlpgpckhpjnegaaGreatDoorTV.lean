/- Calls of a closed run, told beforehand: written by tabgen.py. -/
import Derived.Test.YtlpgpckhpjnegaaGreatDoorProg
import Derived.Test.YtlpgpckhpjnegaaGreatDoorFc
import Derived.KernelRfl
import Derived.Test.YtlpgpckhpjnegaaGreatDoorTA
import Derived.Test.YtlpgpckhpjnegaaGreatDoorTE
set_option maxRecDepth 100000
set_option linter.unusedVariables false
namespace Go.Proofs.YtlpgpckhpjnegaaGreatDoor.Tab
open Go Go.Ex
noncomputable section
def bsTV (l : List Nat) : ByteArray := ⟨(l.map UInt8.ofNat).toArray⟩
theorem hmixTV : Go.Proofs.Tryz.prog.follows .mixedOrders = true := by kernel_rfl
def tTV0 : Tab := .e
theorem tTV0_ok : TabOk Go.Proofs.Tryz.prog tTV0 := tab_nil _
def tTV1 : Tab := tTV0.put 1073 (some cTA_6_1073)
theorem tTV1_ok : TabOk Go.Proofs.Tryz.prog tTV1 := tab_put tTV0_ok cTA_6_1073_ok 1073
def tTV2 : Tab := tTV1.put 3379 (some cTA_8_3379)
theorem tTV2_ok : TabOk Go.Proofs.Tryz.prog tTV2 := tab_put tTV1_ok cTA_8_3379_ok 3379
def tTV3 : Tab := tTV2.put 3678 (some cTE_11_3678)
theorem tTV3_ok : TabOk Go.Proofs.Tryz.prog tTV3 := tab_put tTV2_ok cTE_11_3678_ok 3678
def tTV : Tab := tTV3
theorem tTV_ok : TabOk Go.Proofs.Tryz.prog tTV := tTV3_ok
end
end Go.Proofs.YtlpgpckhpjnegaaGreatDoor.Tab
