/-
  No cell of these rows narrows 'for every input' (looked for: loops, veiled, ifaces, maps, wideKeys, modest, calm, conditions, laid).
  DERIVED. THE GIVEN ROWS OF THIS SEAT. 3 by the template 'for every input the law returns true; each argument reads behind the call as it read before'; 0 by the template 'total and deterministic' (their statements: YtdopagghhibopaaGreatTotals.lean).
  GIVEN WITH THE SEED: the statements are not yours to turn. If you find one false, say at which input.
  Laid BY PROGRAM, IN A SANDBOX (cutbox-rows.mjs): the forced cells as the released guide's own fill.sh prints them over the translation a6b9fcb4b3325de2… (all of the seat's roots in one cut). By AI agents, Wed Nov 11 2026. No macro, syntax, notation, axiom, sorry.
-/
import Derived.Test.YtdopagghhibopaaGreatChecked
import GoSem.Claim
import GoSem.ClaimJoined
import GoSem.ClaimMapViews
import Derived.JoinedTies
import Derived.KernelRfl
namespace Go.Proofs.YtdopagghhibopaaGreat
/- THE CELL 'sum', in the pinned program and in every row, IS THE sha256 OF THE DUMP (.gsa) THAT YtdopagghhibopaaGreatProg.lean LOADS. Nothing in Lean hashes anything: it is a label: what it is worth is what the hold of that sum in a sandbox is worth. -/
noncomputable def Tryz.pinned : Pinned := { name := "ytdopagghhibopaagreat", sum := "a6b9fcb4b3325de2f2bb0d59235d609c3b33dfc1a96c1e89d431ac66b031ca0c", checked := Tryz.checked }
namespace Rows
def none {H : Type} : Left H := { results := [], args := [] }

/-- 'seepagelaw46.JudgeClean': WHATEVER THE INPUT: true; the input reads as it did. -/
def judgeCleanSpec : ChangeSpec := { name := "judgeClean", fn := fun _ => fun
  | [d1, d2] => { results := [.lit (.bool true)], args := [d1, d2] }
  | _ => none }
def judgeCleanRow : OpenClaim := { program := "ytdopagghhibopaagreat", sum := "a6b9fcb4b3325de2f2bb0d59235d609c3b33dfc1a96c1e89d431ac66b031ca0c", func := "seepage/seepagelaw46.JudgeClean", spec := "judgeClean", inPlace := ["maps.clone"], unfollowed := true, recurses := true, apart := false }
def JudgeCleanSaid : Prop := judgeCleanRow.holds Tryz.pinned (OpenSpec.ofChange judgeCleanSpec)

/-- ITS FALSE NEIGHBOUR: 'it returns false'. Refute it at one input. -/
def judgeCleanWrong : ChangeSpec := { name := "judgeClean", fn := fun _ => fun
  | [d1, d2] => { results := [.lit (.bool false)], args := [d1, d2] }
  | _ => none }
def JudgeCleanWrongFalsely : Prop := judgeCleanRow.holds Tryz.pinned (OpenSpec.ofChange judgeCleanWrong)

/-- 'seepagelaw46.JudgeSpoilt': WHATEVER THE INPUT: true; the input reads as it did. -/
def judgeSpoiltSpec : ChangeSpec := { name := "judgeSpoilt", fn := fun _ => fun
  | [d1, d2, d3] => { results := [.lit (.bool true)], args := [d1, d2, d3] }
  | _ => none }
def judgeSpoiltRow : OpenClaim := { program := "ytdopagghhibopaagreat", sum := "a6b9fcb4b3325de2f2bb0d59235d609c3b33dfc1a96c1e89d431ac66b031ca0c", func := "seepage/seepagelaw46.JudgeSpoilt", spec := "judgeSpoilt", inPlace := ["maps.clone"], unfollowed := true, recurses := true, apart := false }
def JudgeSpoiltSaid : Prop := judgeSpoiltRow.holds Tryz.pinned (OpenSpec.ofChange judgeSpoiltSpec)

/-- ITS FALSE NEIGHBOUR: 'it returns false'. Refute it at one input. -/
def judgeSpoiltWrong : ChangeSpec := { name := "judgeSpoilt", fn := fun _ => fun
  | [d1, d2, d3] => { results := [.lit (.bool false)], args := [d1, d2, d3] }
  | _ => none }
def JudgeSpoiltWrongFalsely : Prop := judgeSpoiltRow.holds Tryz.pinned (OpenSpec.ofChange judgeSpoiltWrong)

/-- 'seepagelaw46.JudgeRooms': WHATEVER THE INPUT: true; the input reads as it did. -/
def judgeRoomsSpec : ChangeSpec := { name := "judgeRooms", fn := fun _ => fun
  | [d1, d2, d3] => { results := [.lit (.bool true)], args := [d1, d2, d3] }
  | _ => none }
def judgeRoomsRow : OpenClaim := { program := "ytdopagghhibopaagreat", sum := "a6b9fcb4b3325de2f2bb0d59235d609c3b33dfc1a96c1e89d431ac66b031ca0c", func := "seepage/seepagelaw46.JudgeRooms", spec := "judgeRooms", inPlace := ["maps.clone"], unfollowed := true, recurses := true, apart := false }
def JudgeRoomsSaid : Prop := judgeRoomsRow.holds Tryz.pinned (OpenSpec.ofChange judgeRoomsSpec)

/-- ITS FALSE NEIGHBOUR: 'it returns false'. Refute it at one input. -/
def judgeRoomsWrong : ChangeSpec := { name := "judgeRooms", fn := fun _ => fun
  | [d1, d2, d3] => { results := [.lit (.bool false)], args := [d1, d2, d3] }
  | _ => none }
def JudgeRoomsWrongFalsely : Prop := judgeRoomsRow.holds Tryz.pinned (OpenSpec.ofChange judgeRoomsWrong)

/- THE SECOND FORM. 'bulk': how many values and letters a reading holds, each counted each time it is reached (what is shared counts as often as it is met; a slice's spare places count too). A statement '..UptoSaid' is the law's where the arguments, and the package variables that the reading takes, are together of bulk at most 1048576: NARROWER than '..Said'. Prove '..Said' where nothing that the law and all that it calls make is longer than what came in: it says more and counts as full. Else prove '..UptoSaid'. A law counts once. -/
mutual
def uptoBulk {H : Type} : DataW H → Nat
  | .lit (.string bytes) => bytes.length + 1
  | .lit _ => 1
  | .nil => 1
  | .ptr d => uptoBulk d + 1
  | .slice elems spare => uptoBulkAll elems + uptoBulkAll spare + 1
  | .agg parts => uptoBulkAll parts + 1
  | .iface _ d => uptoBulk d + 1
  | .map entries => uptoBulkEntries entries + 1
  | .held _ => 1
def uptoBulkAll {H : Type} : List (DataW H) → Nat
  | [] => 0
  | d :: r => uptoBulk d + uptoBulkAll r
def uptoBulkEntries {H : Type} : List (Lit × DataW H) → Nat
  | [] => 0
  | x :: r => uptoBulkEntry x + uptoBulkEntries r
def uptoBulkEntry {H : Type} : Lit × DataW H → Nat
  | (.string bytes, d) => bytes.length + uptoBulk d + 1
  | (_, d) => uptoBulk d + 1
 end
def uptoSmall : (H : Type) → List (DataW H) → Bool := fun _ ds => decide (uptoBulkAll ds ≤ 1048576)
def OpenSpec.upto (s : _root_.Go.ChangeSpec) : _root_.Go.OpenSpec := { _root_.Go.OpenSpec.ofChange s with cond := some uptoSmall }

/-- 'seepagelaw46.JudgeClean', WHERE WHAT IT READS IS OF BULK AT MOST 1048576: true; the input reads as it did. -/
def judgeCleanUptoRow : OpenClaim := { program := "ytdopagghhibopaagreat", sum := "a6b9fcb4b3325de2f2bb0d59235d609c3b33dfc1a96c1e89d431ac66b031ca0c", func := "seepage/seepagelaw46.JudgeClean", spec := "judgeClean", inPlace := ["maps.clone"], unfollowed := true, recurses := true, apart := false, narrowed := true }
def JudgeCleanUptoSaid : Prop := judgeCleanUptoRow.holds Tryz.pinned (OpenSpec.upto judgeCleanSpec)

/-- 'seepagelaw46.JudgeSpoilt', WHERE WHAT IT READS IS OF BULK AT MOST 1048576: true; the input reads as it did. -/
def judgeSpoiltUptoRow : OpenClaim := { program := "ytdopagghhibopaagreat", sum := "a6b9fcb4b3325de2f2bb0d59235d609c3b33dfc1a96c1e89d431ac66b031ca0c", func := "seepage/seepagelaw46.JudgeSpoilt", spec := "judgeSpoilt", inPlace := ["maps.clone"], unfollowed := true, recurses := true, apart := false, narrowed := true }
def JudgeSpoiltUptoSaid : Prop := judgeSpoiltUptoRow.holds Tryz.pinned (OpenSpec.upto judgeSpoiltSpec)

/-- 'seepagelaw46.JudgeRooms', WHERE WHAT IT READS IS OF BULK AT MOST 1048576: true; the input reads as it did. -/
def judgeRoomsUptoRow : OpenClaim := { program := "ytdopagghhibopaagreat", sum := "a6b9fcb4b3325de2f2bb0d59235d609c3b33dfc1a96c1e89d431ac66b031ca0c", func := "seepage/seepagelaw46.JudgeRooms", spec := "judgeRooms", inPlace := ["maps.clone"], unfollowed := true, recurses := true, apart := false, narrowed := true }
def JudgeRoomsUptoSaid : Prop := judgeRoomsUptoRow.holds Tryz.pinned (OpenSpec.upto judgeRoomsSpec)

end Rows
end Go.Proofs.YtdopagghhibopaaGreat
