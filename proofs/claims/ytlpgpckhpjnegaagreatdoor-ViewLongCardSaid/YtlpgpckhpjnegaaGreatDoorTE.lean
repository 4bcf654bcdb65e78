/- Calls of a closed run, told beforehand: written by tabgen.py. -/
import Derived.Test.YtlpgpckhpjnegaaGreatDoorProg
import Derived.Test.YtlpgpckhpjnegaaGreatDoorFc
import Derived.KernelRfl
import Derived.Test.YtlpgpckhpjnegaaGreatDoorTB
import Derived.Test.YtlpgpckhpjnegaaGreatDoorTC
import Derived.Test.YtlpgpckhpjnegaaGreatDoorTD
set_option maxRecDepth 100000
set_option linter.unusedVariables false
namespace Go.Proofs.YtlpgpckhpjnegaaGreatDoor.Tab
open Go Go.Ex
noncomputable section
def bsTE (l : List Nat) : ByteArray := ⟨(l.map UInt8.ofNat).toArray⟩
theorem hmixTE : Go.Proofs.Tryz.prog.follows .mixedOrders = true := by kernel_rfl
def tTE0 : Tab := .e
theorem tTE0_ok : TabOk Go.Proofs.Tryz.prog tTE0 := tab_nil _
def tTE1 : Tab := tTE0.put 3751 (some cTB_6_3751)
theorem tTE1_ok : TabOk Go.Proofs.Tryz.prog tTE1 := tab_put tTE0_ok cTB_6_3751_ok 3751
def tTE2 : Tab := tTE1.put 4005 (some cTB_6_4005)
theorem tTE2_ok : TabOk Go.Proofs.Tryz.prog tTE2 := tab_put tTE1_ok cTB_6_4005_ok 4005
def tTE3 : Tab := tTE2.put 4255 (some cTC_6_4255)
theorem tTE3_ok : TabOk Go.Proofs.Tryz.prog tTE3 := tab_put tTE2_ok cTC_6_4255_ok 4255
def tTE4 : Tab := tTE3.put 4779 (some cTD_13_4779)
theorem tTE4_ok : TabOk Go.Proofs.Tryz.prog tTE4 := tab_put tTE3_ok cTD_13_4779_ok 4779
def tTE5 : Tab := tTE4.put 5081 (some cTD_14_5081)
theorem tTE5_ok : TabOk Go.Proofs.Tryz.prog tTE5 := tab_put tTE4_ok cTD_14_5081_ok 5081
def cTE_11_3678 : Ent := { f := 11, nf := 3678, args := [], pre := [(0, .cells [.int .u8 (.ofNat 0), .int .u8 (.ofNat 1), .int .u8 (.ofNat 28), .int .u8 (.ofNat 2), .int .u8 (.ofNat 29), .int .u8 (.ofNat 14), .int .u8 (.ofNat 24), .int .u8 (.ofNat 3), .int .u8 (.ofNat 30), .int .u8 (.ofNat 22), .int .u8 (.ofNat 20), .int .u8 (.ofNat 15), .int .u8 (.ofNat 25), .int .u8 (.ofNat 17), .int .u8 (.ofNat 4), .int .u8 (.ofNat 8), .int .u8 (.ofNat 31), .int .u8 (.ofNat 27), .int .u8 (.ofNat 13), .int .u8 (.ofNat 23), .int .u8 (.ofNat 21), .int .u8 (.ofNat 19), .int .u8 (.ofNat 16), .int .u8 (.ofNat 7), .int .u8 (.ofNat 26), .int .u8 (.ofNat 12), .int .u8 (.ofNat 18), .int .u8 (.ofNat 6), .int .u8 (.ofNat 11), .int .u8 (.ofNat 5), .int .u8 (.ofNat 10), .int .u8 (.ofNat 9)] 0 none true), (1, .cells [.int .u8 (.ofNat 0), .int .u8 (.ofNat 1), .int .u8 (.ofNat 56), .int .u8 (.ofNat 2), .int .u8 (.ofNat 57), .int .u8 (.ofNat 49), .int .u8 (.ofNat 28), .int .u8 (.ofNat 3), .int .u8 (.ofNat 61), .int .u8 (.ofNat 58), .int .u8 (.ofNat 42), .int .u8 (.ofNat 50), .int .u8 (.ofNat 38), .int .u8 (.ofNat 29), .int .u8 (.ofNat 17), .int .u8 (.ofNat 4), .int .u8 (.ofNat 62), .int .u8 (.ofNat 47), .int .u8 (.ofNat 59), .int .u8 (.ofNat 36), .int .u8 (.ofNat 45), .int .u8 (.ofNat 43), .int .u8 (.ofNat 51), .int .u8 (.ofNat 22), .int .u8 (.ofNat 53), .int .u8 (.ofNat 39), .int .u8 (.ofNat 33), .int .u8 (.ofNat 30), .int .u8 (.ofNat 24), .int .u8 (.ofNat 18), .int .u8 (.ofNat 12), .int .u8 (.ofNat 5), .int .u8 (.ofNat 63), .int .u8 (.ofNat 55), .int .u8 (.ofNat 48), .int .u8 (.ofNat 27), .int .u8 (.ofNat 60), .int .u8 (.ofNat 41), .int .u8 (.ofNat 37), .int .u8 (.ofNat 16), .int .u8 (.ofNat 46), .int .u8 (.ofNat 35), .int .u8 (.ofNat 44), .int .u8 (.ofNat 21), .int .u8 (.ofNat 52), .int .u8 (.ofNat 32), .int .u8 (.ofNat 23), .int .u8 (.ofNat 11), .int .u8 (.ofNat 54), .int .u8 (.ofNat 26), .int .u8 (.ofNat 40), .int .u8 (.ofNat 15), .int .u8 (.ofNat 34), .int .u8 (.ofNat 20), .int .u8 (.ofNat 31), .int .u8 (.ofNat 10), .int .u8 (.ofNat 25), .int .u8 (.ofNat 14), .int .u8 (.ofNat 19), .int .u8 (.ofNat 9), .int .u8 (.ofNat 13), .int .u8 (.ofNat 8), .int .u8 (.ofNat 7), .int .u8 (.ofNat 6)] 0 none true)], v := .bool true, chg := [], nf' := 5236 }
theorem cTE_11_3678_ok : EntOk Go.Proofs.Tryz.prog cTE_11_3678 := ent_ok hmixTE tTE5_ok cTE_11_3678 100000 (by kernel_rfl)
def tTE6 : Tab := tTE5.put 3678 (some cTE_11_3678)
theorem tTE6_ok : TabOk Go.Proofs.Tryz.prog tTE6 := tab_put tTE5_ok cTE_11_3678_ok 3678
def tTE : Tab := tTE6
theorem tTE_ok : TabOk Go.Proofs.Tryz.prog tTE := tTE6_ok
end
end Go.Proofs.YtlpgpckhpjnegaaGreatDoor.Tab
