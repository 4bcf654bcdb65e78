/- Calls of a closed run, told beforehand: written by tabgen10.py. -/
import Derived.Test.YtjhkmopeagfnlaaGreatDoorTH
import Derived.Test.YtjhkmopeagfnlaaGreatDoorTA
import Derived.Test.YtjhkmopeagfnlaaGreatDoorTC
import Derived.Test.YtjhkmopeagfnlaaGreatDoorTD
set_option maxRecDepth 100000
set_option linter.unusedVariables false
namespace Go.Proofs.YtjhkmopeagfnlaaGreatDoor.ji
open Go Go.Ex
noncomputable section
def Px:ji:=.e
theorem WO:kz Tryz.prog Px:=A5 _
def PF:ji:=Px.put 1177 (some CE)
theorem Wv:kz Tryz.prog PF:=qn WO Kj 1177
def Qd:ji:=PF.put 1425 (some CD)
theorem WR:kz Tryz.prog Qd:=qn Wv Kg 1425
def PD:ji:=Qd.put 1673 (some CG)
theorem Wo:kz Tryz.prog PD:=qn WR Kf 1673
def P5:ji:=PD.put 2134 (some CB)
theorem Wc:kz Tryz.prog P5:=qn Wo Ki 2134
def tTE:ji:=P5
theorem Ym:kz Tryz.prog tTE:=Wc
end
end Go.Proofs.YtjhkmopeagfnlaaGreatDoor.ji
