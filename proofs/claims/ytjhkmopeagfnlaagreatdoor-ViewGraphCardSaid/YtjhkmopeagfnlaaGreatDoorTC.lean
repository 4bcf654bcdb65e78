/- Calls of a closed run, told beforehand: written by tabgen10.py. -/
import Derived.Test.YtjhkmopeagfnlaaGreatDoorTH
import Derived.Test.YtjhkmopeagfnlaaGreatDoorTB
set_option maxRecDepth 100000
set_option linter.unusedVariables false
namespace Go.Proofs.YtjhkmopeagfnlaaGreatDoor.ji
open Go Go.Ex
noncomputable section
def PB:ji:=.e
theorem WH:kz Tryz.prog PB:=A5 _
def PV:ji:=PB.put 1681 (some Cw)
theorem WZ:kz Tryz.prog PV:=qn WH Kb 1681
def Pt:ji:=PV.put 1766 (some CA)
theorem Nq:kz Tryz.prog Pt:=qn WZ Ke 1766
def CG:gj:={f:=73,nf:=1673,args:=[q_ 1072,i_ 2,i_ 0,i_ 2,i_ 16],pre:=[c_ 1072 [i_ 4,i_ 4,q_ 1016,q_ 1070,.map (some 1071),i_ 2] 147,c_ 1016 [q_ 1016,.slice (some ⟨1015,0,none⟩) 9 9,i_ 4] 250,c_ 1015 [i_ 0,i_ 0,i_ 0,.bool false,i_ 0,i_ 0,i_ 0,i_ 0,i_ 0,i_ 5,i_ 0,i_ 6,.bool true,i_ 10,i_ 2,i_ 1,i_ 0,i_ 2,i_ 6,i_ 0,i_ 7,.bool true,i_ 14,i_ 2,i_ 2,i_ 0,i_ 4,i_ 0,i_ 0,i_ 0,.bool false,i_ 0,i_ 1,i_ 3,i_ 0,i_ 1,i_ 0,i_ 0,i_ 0,.bool false,i_ 0,i_ 1,i_ 4,i_ 0,i_ 1,i_ 0,i_ 0,i_ 1,.bool false,i_ 9223372036854775807,i_ 1,i_ 5,i_ 0,i_ 1,i_ 0,i_ 0,i_ 2,.bool false,i_ 9223372036854775807,i_ 1,i_ 6,i_ 2,i_ 3,i_ 0,i_ 0,i_ 0,.bool false,i_ 9223372036854775807,i_ 1,i_ 7,i_ 4,i_ 5,i_ 0,i_ 0,i_ 0,.bool false,i_ 9223372036854775807,i_ 1,i_ 8,i_ 0,i_ 1] 254,c_ 1070 [q_ 1070,i_ 4,.slice (some ⟨1427,0,none⟩) 2 18446744073709551618,.slice (some ⟨1069,0,none⟩) 1 1] 247,(1427,.cells [i_ 0,i_ 10,i_ 1,i_ 14] 139 (some 2) false),c_ 1069 [q_ 1180] 266,c_ 1180 ([i_ 1,i_ 2]++x_ 62 [i_ 0]) 268,(1071,.map [(i_ 0,.agg #[i_ 0,i_ 1,i_ 10,.bool true],0),(i_ 1,.agg #[i_ 1,i_ 2,i_ 14,.bool true],1)] 2),zK,An],v:=i_ 0,gI:=[(1015,some (.cells ([i_ 0,i_ 0,i_ 0,.bool false]++x_ 8 [i_ 0]++[.bool false,i_ 10,i_ 1,i_ 1,i_ 0,i_ 1,i_ 0,i_ 0,i_ 6,.bool true,i_ 14,i_ 1,i_ 2,i_ 0,i_ 1,i_ 5,i_ 0,i_ 7,.bool true,i_ 16,i_ 2,i_ 3,i_ 0,i_ 2,i_ 0,i_ 0,i_ 0,.bool false,i_ 0,i_ 1,i_ 4,i_ 0,i_ 1,i_ 0,i_ 0,i_ 3,.bool false,i_ 9223372036854775807,i_ 1,i_ 5,i_ 0,i_ 1,i_ 0,i_ 2,i_ 7,.bool false,i_ 9223372036854775807,i_ 2,i_ 2,i_ 0,i_ 2,i_ 6,i_ 0,i_ 0,.bool false,i_ 9223372036854775807,i_ 3,i_ 2,i_ 2,i_ 5,i_ 0,i_ 0,i_ 0,.bool false,i_ 9223372036854775807,i_ 1,i_ 8,i_ 0,i_ 1]) 254 none false)),(1070,some (.cells [q_ 1070,i_ 4,.slice (some ⟨1675,0,none⟩) 3 18446744073709551619,.slice (some ⟨1069,0,none⟩) 1 1] 247 none false)),(1675,some (.cells [i_ 0,i_ 10,i_ 1,i_ 14,i_ 2,i_ 16] 139 (some 2) false)),(1180,some (.cells ([i_ 1,i_ 2,i_ 3]++x_ 61 [i_ 0]) 268 none false)),(1071,some (.map [(i_ 0,.agg #[i_ 0,i_ 1,i_ 10,.bool false],0),(i_ 1,.agg #[i_ 1,i_ 2,i_ 14,.bool true],1),(i_ 2,.agg #[i_ 0,i_ 2,i_ 16,.bool true],2)] 3)),(1427,none)],nI := 2099}
theorem Kf:sn Tryz.prog CG:=xN yR Nq CG 100000 (by kernel_rfl)
def Pz:ji:=Pt.put 1673 (some CG)
theorem V5:kz Tryz.prog Pz:=qn Nq Kf 1673
def tTC:ji:=Pz
theorem aba:kz Tryz.prog tTC:=V5
end
end Go.Proofs.YtjhkmopeagfnlaaGreatDoor.ji
