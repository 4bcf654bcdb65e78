import Derived.Test.YtkgehjpepjaliaaGreatDoorProg
import Derived.KernelRfl
import Derived.Test.YtkgehjpepjaliaaGreatDoorFa
set_option linter.unusedVariables false
set_option linter.unusedSimpArgs false
set_option maxRecDepth 100000
namespace Go.Proofs.YtkgehjpepjaliaaGreatDoor
open Go Go.Sx
theorem ti3 : (Tryz.prog.info? 3).map (fun i => (i.size, i.bytes, i.zero)) = some (1, 8, some (.int .i64 0)) := by kernel_rfl
theorem ti4 : (Tryz.prog.info? 4).map (fun i => (i.size, i.bytes, i.zero)) = some (1, 1, some (.bool false)) := by kernel_rfl
theorem ti22 : (Tryz.prog.info? 22).map (fun i => (i.size, i.bytes, i.zero)) = some (1, 8, some (.int .i64 0)) := by kernel_rfl
theorem ti23 : (Tryz.prog.info? 23).map (fun i => (i.size, i.bytes, i.zero)) = some (1, 8, some (.int .u64 0)) := by kernel_rfl
theorem ti24 : (Tryz.prog.info? 24).map (fun i => (i.size, i.bytes, i.zero)) = some (1, 24, some (.slice none 0 0)) := by kernel_rfl
theorem ti25 : (Tryz.prog.info? 25).map (fun i => (i.size, i.bytes, i.zero)) = some (1, 24, some (.slice none 0 0)) := by kernel_rfl
theorem ti27 : (Tryz.prog.info? 27).map (fun i => (i.size, i.bytes, i.zero)) = some (7, 88, some (.agg #[(.int .i64 0), (.int .u64 0), (.int .u64 0), (.int .i64 0), (.int .i64 0), (.slice none 0 0), (.slice none 0 0)])) := by kernel_rfl
theorem ti28 : (Tryz.prog.info? 28).map (fun i => (i.size, i.bytes, i.zero)) = some (1, 8, some (.pointer none)) := by kernel_rfl
theorem ti29 : (Tryz.prog.info? 29).map (fun i => (i.size, i.bytes, i.zero)) = some (1, 8, some (.pointer none)) := by kernel_rfl
theorem ti30 : (Tryz.prog.info? 30).map (fun i => (i.size, i.bytes, i.zero)) = some (1, 8, some (.int .i64 0)) := by kernel_rfl
theorem ti34 : (Tryz.prog.info? 34).map (fun i => (i.size, i.bytes, i.zero)) = some (4, 32, some (.agg #[(.int .i64 0), (.int .i64 0), (.int .i64 0), (.int .i64 0)])) := by kernel_rfl
theorem ti35 : (Tryz.prog.info? 35).map (fun i => (i.size, i.bytes, i.zero)) = some (1, 8, some (.pointer none)) := by kernel_rfl
theorem ti36 : (Tryz.prog.info? 36).map (fun i => (i.size, i.bytes, i.zero)) = some (1, 8, some (.pointer none)) := by kernel_rfl
theorem ti37 : (Tryz.prog.info? 37).map (fun i => (i.size, i.bytes, i.zero)) = some (1, 8, some (.pointer none)) := by kernel_rfl
theorem ti38 : (Tryz.prog.info? 38).map (fun i => (i.size, i.bytes, i.zero)) = some (1, 8, some (.pointer none)) := by kernel_rfl
theorem ti40 : (Tryz.prog.info? 40).map (fun i => (i.size, i.bytes, i.zero)) = some (10, 80, some (.agg #[(.int .i64 0), (.int .i64 0), (.int .i64 0), (.int .i64 0), (.pointer none), (.pointer none), (.pointer none), (.pointer none), (.int .u64 0), (.int .u64 0)])) := by kernel_rfl
theorem ti41 : (Tryz.prog.info? 41).map (fun i => (i.size, i.bytes, i.zero)) = some (1, 8, some (.pointer none)) := by kernel_rfl
theorem ti43 : (Tryz.prog.info? 43).map (fun i => (i.size, i.bytes, i.zero)) = some (2, 16, some (.agg #[(.bool false), (.int .u64 0)])) := by kernel_rfl
theorem ti45 : (Tryz.prog.info? 45).map (fun i => (i.size, i.bytes, i.zero)) = some (7, 56, some (.agg #[(.pointer none), (.pointer none), (.int .u64 0), (.int .u64 0), (.int .i64 0), (.bool false), (.int .u64 0)])) := by kernel_rfl
theorem ti51 : (Tryz.prog.info? 51).map (fun i => (i.size, i.bytes, i.zero)) = some (5, 72, some (.agg #[(.int .i64 0), (.int .i64 0), (.bool false), (.slice none 0 0), (.slice none 0 0)])) := by kernel_rfl

theorem pl40 : PLs Tryz.prog 40 [(0, 4), (4, 1), (5, 1), (6, 1), (7, 1), (8, 1), (9, 1)] := ⟨_, Tryz.underlying40, fun w => by simp [TI.size ti23, TI.size ti34, TI.size ti35, TI.size ti36, TI.size ti37, TI.size ti38]⟩
theorem pl45 : PLs Tryz.prog 45 [(0, 1), (1, 1), (2, 1), (3, 1), (4, 1), (5, 2)] := ⟨_, Tryz.underlying45, fun w => by simp [TI.size ti23, TI.size ti29, TI.size ti3, TI.size ti41, TI.size ti43]⟩
theorem pl51 : PLs Tryz.prog 51 [(0, 1), (1, 1), (2, 1), (3, 1), (4, 1)] := ⟨_, Tryz.underlying51, fun w => by simp [TI.size ti22, TI.size ti24, TI.size ti25, TI.size ti30, TI.size ti4]⟩

theorem ent4 : EntersF Tryz.prog 4 := enters_of Tryz.func4 (by kernel_rfl) rfl
theorem ent5 : EntersF Tryz.prog 5 := enters_of Tryz.func5 (by kernel_rfl) rfl
theorem ent6 : EntersF Tryz.prog 6 := enters_of Tryz.func6 (by kernel_rfl) rfl
theorem ent7 : EntersF Tryz.prog 7 := enters_of Tryz.func7 (by kernel_rfl) rfl
theorem ent8 : EntersF Tryz.prog 8 := enters_of Tryz.func8 (by kernel_rfl) rfl
theorem ent9 : EntersF Tryz.prog 9 := enters_of Tryz.func9 (by kernel_rfl) rfl
theorem ent10 : EntersF Tryz.prog 10 := enters_of Tryz.func10 (by kernel_rfl) rfl
theorem ent11 : EntersF Tryz.prog 11 := enters_of Tryz.func11 (by kernel_rfl) rfl
theorem ent12 : EntersF Tryz.prog 12 := enters_of Tryz.func12 (by kernel_rfl) rfl
theorem ent13 : EntersF Tryz.prog 13 := enters_of Tryz.func13 (by kernel_rfl) rfl
theorem ent14 : EntersF Tryz.prog 14 := enters_of Tryz.func14 (by kernel_rfl) rfl
theorem ent23 : EntersF Tryz.prog 23 := enters_of Tryz.func23 (by kernel_rfl) rfl
theorem ent24 : EntersF Tryz.prog 24 := enters_of Tryz.func24 (by kernel_rfl) rfl

theorem mixed : Tryz.prog.follows .mixedOrders = true := by kernel_rfl
end Go.Proofs.YtkgehjpepjaliaaGreatDoor
