/- Calls of a closed run, told beforehand: written by tabgen.py. -/
import Derived.Test.YtkgehjpepjaliaaGreatDoorProg
import Derived.Test.YtkgehjpepjaliaaGreatDoorFc
import Derived.KernelRfl
import Derived.Test.YtkgehjpepjaliaaGreatDoorTA
import Derived.Test.YtkgehjpepjaliaaGreatDoorTB
import Derived.Test.YtkgehjpepjaliaaGreatDoorTC
import Derived.Test.YtkgehjpepjaliaaGreatDoorTE
set_option maxRecDepth 100000
set_option linter.unusedVariables false
namespace Go.Proofs.YtkgehjpepjaliaaGreatDoor.Tab
open Go Go.Ex
noncomputable section
def bsTV (l : List Nat) : ByteArray := ⟨(l.map UInt8.ofNat).toArray⟩
theorem hmixTV : Tryz.prog.follows .mixedOrders = true := by kernel_rfl
def tTV0 : Tab := .e
theorem tTV0_ok : TabOk Tryz.prog tTV0 := tab_nil _
def tTV1 : Tab := tTV0.put 1089 (some cTA_63_1089)
theorem tTV1_ok : TabOk Tryz.prog tTV1 := tab_put tTV0_ok cTA_63_1089_ok 1089
def tTV2 : Tab := tTV1.put 1356 (some cTB_63_1356)
theorem tTV2_ok : TabOk Tryz.prog tTV2 := tab_put tTV1_ok cTB_63_1356_ok 1356
def tTV3 : Tab := tTV2.put 1619 (some cTC_66_1619)
theorem tTV3_ok : TabOk Tryz.prog tTV3 := tab_put tTV2_ok cTC_66_1619_ok 1619
def tTV4 : Tab := tTV3.put 1696 (some cTE_65_1696)
theorem tTV4_ok : TabOk Tryz.prog tTV4 := tab_put tTV3_ok cTE_65_1696_ok 1696
def tTV5 : Tab := tTV4.put 1987 (some cTC_71_1987)
theorem tTV5_ok : TabOk Tryz.prog tTV5 := tab_put tTV4_ok cTC_71_1987_ok 1987
def tTV : Tab := tTV5
theorem tTV_ok : TabOk Tryz.prog tTV := tTV5_ok
end
end Go.Proofs.YtkgehjpepjaliaaGreatDoor.Tab
