/- Calls of a closed run, told beforehand: written by tabgen10.py. -/
import Derived.Test.YtjhkmopeagfnlaaGreatDoorTH
set_option maxRecDepth 100000
set_option linter.unusedVariables false
namespace Go.Proofs.YtjhkmopeagfnlaaGreatDoor.ji
open Go Go.Ex
noncomputable section
def PA:ji:=.e
theorem Nc:kz Tryz.prog PA:=A5 _
def Cw:gj:={f:=119,nf:=1681,args:=[q_ 1016,i_ 4,i_ 6],pre:=[c_ 1016 [q_ 1016,.slice (some ⟨1015,0,none⟩) 9 9,i_ 4] 250,c_ 1015 [i_ 0,i_ 0,i_ 0,.bool false,i_ 0,i_ 0,i_ 0,i_ 0,i_ 0,i_ 5,i_ 0,i_ 6,.bool true,i_ 10,i_ 2,i_ 1,i_ 0,i_ 2,i_ 6,i_ 0,i_ 7,.bool true,i_ 14,i_ 2,i_ 2,i_ 0,i_ 4,i_ 0,i_ 0,i_ 0,.bool false,i_ 0,i_ 1,i_ 3,i_ 0,i_ 1,i_ 0,i_ 0,i_ 0,.bool false,i_ 0,i_ 1,i_ 4,i_ 0,i_ 1,i_ 0,i_ 0,i_ 1,.bool false,i_ 9223372036854775807,i_ 1,i_ 5,i_ 0,i_ 1,i_ 0,i_ 0,i_ 2,.bool false,i_ 9223372036854775807,i_ 1,i_ 6,i_ 2,i_ 3,i_ 0,i_ 0,i_ 0,.bool false,i_ 9223372036854775807,i_ 1,i_ 7,i_ 4,i_ 5,i_ 0,i_ 0,i_ 0,.bool false,i_ 9223372036854775807,i_ 1,i_ 8,i_ 0,i_ 1] 254,zK,An],v:=.tuple #[i_ 0,.bool true],gI:=[(1015,some (.cells ([i_ 0,i_ 0,i_ 0,.bool false]++x_ 7 [i_ 0]++[i_ 6,.bool false,i_ 10,i_ 1,i_ 1,i_ 0,i_ 1,i_ 0,i_ 0,i_ 6,.bool false,i_ 14,i_ 1,i_ 2,i_ 0,i_ 1,i_ 0,i_ 0,i_ 0,.bool false,i_ 0,i_ 1,i_ 3,i_ 0,i_ 1,i_ 0,i_ 0,i_ 0,.bool false,i_ 0,i_ 1,i_ 4,i_ 0,i_ 1,i_ 0,i_ 6,i_ 7,.bool false,i_ 9223372036854775807,i_ 4,i_ 1,i_ 0,i_ 4,i_ 2,i_ 1,i_ 5,.bool true,i_ 9223372036854775807,i_ 3,i_ 1,i_ 0,i_ 3,i_ 5,i_ 0,i_ 0,.bool false,i_ 9223372036854775807,i_ 5,i_ 1,i_ 0,i_ 5,i_ 0,i_ 0,i_ 0,.bool false,i_ 9223372036854775807,i_ 1,i_ 8,i_ 0,i_ 1]) 254 none false))],nI := 1765}
theorem Kb:sn Tryz.prog Cw:=xN yR Nc Cw 100000 (by kernel_rfl)
def PJ:ji:=PA.put 1681 (some Cw)
theorem Ny:kz Tryz.prog PJ:=qn Nc Kb 1681
def CA:gj:={f:=59,nf:=1766,args:=[q_ 1072,i_ 0],pre:=[c_ 1072 [i_ 4,i_ 4,q_ 1016,q_ 1070,.map (some 1071),i_ 2] 147,c_ 1016 [q_ 1016,.slice (some ⟨1015,0,none⟩) 9 9,i_ 4] 250,c_ 1015 ([i_ 0,i_ 0,i_ 0,.bool false]++x_ 7 [i_ 0]++[i_ 6,.bool false,i_ 10,i_ 1,i_ 1,i_ 0,i_ 1,i_ 0,i_ 0,i_ 6,.bool false,i_ 14,i_ 1,i_ 2,i_ 0,i_ 1,i_ 0,i_ 0,i_ 0,.bool false,i_ 0,i_ 1,i_ 3,i_ 0,i_ 1,i_ 0,i_ 0,i_ 0,.bool false,i_ 0,i_ 1,i_ 4,i_ 0,i_ 1,i_ 0,i_ 6,i_ 7,.bool false,i_ 9223372036854775807,i_ 4,i_ 1,i_ 0,i_ 4,i_ 2,i_ 1,i_ 5,.bool true,i_ 9223372036854775807,i_ 3,i_ 1,i_ 0,i_ 3,i_ 5,i_ 0,i_ 0,.bool false,i_ 9223372036854775807,i_ 5,i_ 1,i_ 0,i_ 5,i_ 0,i_ 0,i_ 0,.bool false,i_ 9223372036854775807,i_ 1,i_ 8,i_ 0,i_ 1]) 254,c_ 1070 [q_ 1070,i_ 4,.slice (some ⟨1675,0,none⟩) 3 18446744073709551619,.slice (some ⟨1069,0,none⟩) 1 1] 247,(1675,.cells [i_ 0,i_ 10,i_ 1,i_ 14,i_ 2,i_ 16] 139 (some 2) false),c_ 1069 [q_ 1180] 266,c_ 1180 ([i_ 1,i_ 2,i_ 3]++x_ 61 [i_ 0]) 268,(1071,.map [(i_ 0,.agg #[i_ 0,i_ 1,i_ 10,.bool true],0),(i_ 1,.agg #[i_ 1,i_ 2,i_ 14,.bool true],1),(i_ 2,.agg #[i_ 0,i_ 2,i_ 16,.bool false],2)] 3),zK,An],v:=.tuple #[],gI:=[(1072,some (.cells [i_ 4,i_ 4,q_ 1016,q_ 1070,.map (some 1071),i_ 1] 147 none false)),(1016,some (.cells [q_ 1016,.slice (some ⟨1015,0,none⟩) 9 9,i_ 2] 250 none false)),(1015,some (.cells ([i_ 0,i_ 0,i_ 0,.bool false]++x_ 8 [i_ 0]++[.bool false,i_ 10,i_ 1,i_ 1,i_ 0,i_ 1,i_ 0,i_ 0,i_ 7,.bool true,i_ 14,i_ 1,i_ 2,i_ 0,i_ 1,i_ 0,i_ 0,i_ 0,.bool false,i_ 0,i_ 1,i_ 3,i_ 0,i_ 1,i_ 0,i_ 0,i_ 0,.bool false,i_ 0,i_ 1,i_ 4,i_ 0,i_ 1,i_ 0,i_ 0,i_ 0,.bool false,i_ 9223372036854775807,i_ 1,i_ 5,i_ 0,i_ 1,i_ 0,i_ 0,i_ 0,.bool false,i_ 9223372036854775807,i_ 1,i_ 6,i_ 2,i_ 3,i_ 2,i_ 0,i_ 6,.bool false,i_ 9223372036854775807,i_ 2,i_ 2,i_ 0,i_ 2,i_ 0,i_ 0,i_ 0,.bool false,i_ 9223372036854775807,i_ 1,i_ 8,i_ 0,i_ 1]) 254 none false)),(1071,some (.map [(i_ 0,.agg #[i_ 0,i_ 1,i_ 10,.bool false],0),(i_ 1,.agg #[i_ 1,i_ 2,i_ 14,.bool true],1),(i_ 2,.agg #[i_ 0,i_ 2,i_ 16,.bool false],2)] 3))],nI := 1971}
theorem Ke:sn Tryz.prog CA:=xN yR Ny CA 100000 (by kernel_rfl)
def PY:ji:=PJ.put 1766 (some CA)
theorem WV:kz Tryz.prog PY:=qn Ny Ke 1766
def tTB:ji:=PY
theorem aa9:kz Tryz.prog tTB:=WV
end
end Go.Proofs.YtjhkmopeagfnlaaGreatDoor.ji
