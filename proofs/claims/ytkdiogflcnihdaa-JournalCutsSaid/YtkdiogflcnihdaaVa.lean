/- What the functions that the statements reach do: walks through the code of the program and of the references, one theorem a function; under what is said of its arguments. -/
import Derived.Test.YtkdiogflcnihdaaProg
import Derived.KernelRfl
import Derived.Test.YtkdiogflcnihdaaFa
set_option linter.unusedVariables false
set_option linter.unusedSimpArgs false
set_option maxRecDepth 100000
namespace Go.Proofs.Ytkdiogflcnihdaa
open Go Go.Sx
theorem ti1 : (Try.prog.info? 1).map (fun i => (i.size, i.bytes, i.zero)) = some (1, 8, some .nilFunc) := by kernel_rfl
theorem ti2 : (Try.prog.info? 2).map (fun i => (i.size, i.bytes, i.zero)) = some (1, 8, some (.int .i64 0)) := by kernel_rfl
theorem ti3 : (Try.prog.info? 3).map (fun i => (i.size, i.bytes, i.zero)) = some (1, 8, some (.int .i64 0)) := by kernel_rfl
theorem ti4 : (Try.prog.info? 4).map (fun i => (i.size, i.bytes, i.zero)) = some (1, 1, some (.bool false)) := by kernel_rfl
theorem ti5 : (Try.prog.info? 5).map (fun i => (i.size, i.bytes, i.zero)) = some (1, 1, some (.int .u8 0)) := by kernel_rfl
theorem ti9 : (Try.prog.info? 9).map (fun i => (i.size, i.bytes, i.zero)) = some (1, 16, some (.string ⟨#[]⟩)) := by kernel_rfl
theorem ti12 : (Try.prog.info? 12).map (fun i => (i.size, i.bytes, i.zero)) = some (1, 8, some (.int .u64 0)) := by kernel_rfl
theorem ti13 : (Try.prog.info? 13).map (fun i => (i.size, i.bytes, i.zero)) = some (2, 24, some (.agg #[(.string ⟨#[]⟩), (.int .u64 0)])) := by kernel_rfl
theorem ti20 : (Try.prog.info? 20).map (fun i => (i.size, i.bytes, i.zero)) = some (1, 16, some .nilIface) := by kernel_rfl
theorem ti21 : (Try.prog.info? 21).map (fun i => (i.size, i.bytes, i.zero)) = some (1, 4, some (.int .i32 0)) := by kernel_rfl
theorem ti22 : (Try.prog.info? 22).map (fun i => (i.size, i.bytes, i.zero)) = some (1, 24, some (.slice none 0 0)) := by kernel_rfl
theorem ti23 : (Try.prog.info? 23).map (fun i => (i.size, i.bytes, i.zero)) = some (1, 8, some (.int .i64 0)) := by kernel_rfl
theorem ti24 : (Try.prog.info? 24).map (fun i => (i.size, i.bytes, i.zero)) = some (1, 8, some (.int .u64 0)) := by kernel_rfl
theorem ti25 : (Try.prog.info? 25).map (fun i => (i.size, i.bytes, i.zero)) = some (1, 24, some (.slice none 0 0)) := by kernel_rfl
theorem ti26 : (Try.prog.info? 26).map (fun i => (i.size, i.bytes, i.zero)) = some (1, 24, some (.slice none 0 0)) := by kernel_rfl
theorem ti27 : (Try.prog.info? 27).map (fun i => (i.size, i.bytes, i.zero)) = some (7, 88, some (.agg #[(.int .i64 0), (.int .u64 0), (.int .u64 0), (.int .i64 0), (.int .i64 0), (.slice none 0 0), (.slice none 0 0)])) := by kernel_rfl
theorem ti28 : (Try.prog.info? 28).map (fun i => (i.size, i.bytes, i.zero)) = some (7, 88, some (.agg #[(.int .i64 0), (.int .u64 0), (.int .u64 0), (.int .i64 0), (.int .i64 0), (.slice none 0 0), (.slice none 0 0)])) := by kernel_rfl
theorem ti29 : (Try.prog.info? 29).map (fun i => (i.size, i.bytes, i.zero)) = some (1, 8, some .nilFunc) := by kernel_rfl
theorem ti30 : (Try.prog.info? 30).map (fun i => (i.size, i.bytes, i.zero)) = some (1, 24, some (.slice none 0 0)) := by kernel_rfl
theorem ti31 : (Try.prog.info? 31).map (fun i => (i.size, i.bytes, i.zero)) = some (1, 8, some .nilFunc) := by kernel_rfl
theorem ti32 : (Try.prog.info? 32).map (fun i => (i.size, i.bytes, i.zero)) = some (1, 8, some (.int .i64 0)) := by kernel_rfl
theorem ti34 : (Try.prog.info? 34).map (fun i => (i.size, i.bytes, i.zero)) = some (1, 8, some .nilFunc) := by kernel_rfl
theorem ti35 : (Try.prog.info? 35).map (fun i => (i.size, i.bytes, i.zero)) = some (1, 8, some .nilFunc) := by kernel_rfl
theorem ti36 : (Try.prog.info? 36).map (fun i => (i.size, i.bytes, i.zero)) = some (1, 8, some .nilFunc) := by kernel_rfl
theorem ti37 : (Try.prog.info? 37).map (fun i => (i.size, i.bytes, i.zero)) = some (1, 8, some .nilFunc) := by kernel_rfl
theorem ti38 : (Try.prog.info? 38).map (fun i => (i.size, i.bytes, i.zero)) = some (1, 24, some (.slice none 0 0)) := by kernel_rfl
theorem ti40 : (Try.prog.info? 40).map (fun i => (i.size, i.bytes, i.zero)) = some (1, 8, some .nilFunc) := by kernel_rfl
theorem ti42 : (Try.prog.info? 42).map (fun i => (i.size, i.bytes, i.zero)) = some (1, 8, some .nilFunc) := by kernel_rfl
theorem ti43 : (Try.prog.info? 43).map (fun i => (i.size, i.bytes, i.zero)) = some (1, 8, some .nilFunc) := by kernel_rfl
theorem ti44 : (Try.prog.info? 44).map (fun i => (i.size, i.bytes, i.zero)) = some (1, 8, some .nilFunc) := by kernel_rfl
theorem ti45 : (Try.prog.info? 45).map (fun i => (i.size, i.bytes, i.zero)) = some (1, 2, some (.int .u16 0)) := by kernel_rfl
theorem ti47 : (Try.prog.info? 47).map (fun i => (i.size, i.bytes, i.zero)) = some (1, 8, some .nilFunc) := by kernel_rfl
theorem ti48 : (Try.prog.info? 48).map (fun i => (i.size, i.bytes, i.zero)) = some (1, 8, some .nilFunc) := by kernel_rfl
theorem ti49 : (Try.prog.info? 49).map (fun i => (i.size, i.bytes, i.zero)) = some (1, 8, some .nilFunc) := by kernel_rfl
theorem ti50 : (Try.prog.info? 50).map (fun i => (i.size, i.bytes, i.zero)) = some (1, 8, some .nilFunc) := by kernel_rfl
theorem ti51 : (Try.prog.info? 51).map (fun i => (i.size, i.bytes, i.zero)) = some (1, 8, some .nilFunc) := by kernel_rfl
theorem ti52 : (Try.prog.info? 52).map (fun i => (i.size, i.bytes, i.zero)) = some (1, 8, some .nilFunc) := by kernel_rfl
theorem ti53 : (Try.prog.info? 53).map (fun i => (i.size, i.bytes, i.zero)) = some (4, 4, some (.agg #[(.int .u8 0), (.int .u8 0), (.int .u8 0), (.int .u8 0)])) := by kernel_rfl
theorem ti54 : (Try.prog.info? 54).map (fun i => (i.size, i.bytes, i.zero)) = some (4, 4, some (.agg #[(.int .u8 0), (.int .u8 0), (.int .u8 0), (.int .u8 0)])) := by kernel_rfl
theorem ti55 : (Try.prog.info? 55).map (fun i => (i.size, i.bytes, i.zero)) = some (1, 8, some .nilFunc) := by kernel_rfl
theorem ti56 : (Try.prog.info? 56).map (fun i => (i.size, i.bytes, i.zero)) = some (1, 8, some .nilFunc) := by kernel_rfl
theorem ti58 : (Try.prog.info? 58).map (fun i => (i.size, i.bytes, i.zero)) = some (1, 8, some .nilFunc) := by kernel_rfl
theorem ti59 : (Try.prog.info? 59).map (fun i => (i.size, i.bytes, i.zero)) = some (1, 8, some .nilFunc) := by kernel_rfl
theorem ti60 : (Try.prog.info? 60).map (fun i => (i.size, i.bytes, i.zero)) = some (1, 8, some .nilFunc) := by kernel_rfl
theorem ti61 : (Try.prog.info? 61).map (fun i => (i.size, i.bytes, i.zero)) = some (1, 8, some .nilFunc) := by kernel_rfl
theorem ti62 : (Try.prog.info? 62).map (fun i => (i.size, i.bytes, i.zero)) = some (1, 8, some .nilFunc) := by kernel_rfl
theorem ti63 : (Try.prog.info? 63).map (fun i => (i.size, i.bytes, i.zero)) = some (1, 8, some .nilFunc) := by kernel_rfl
theorem ti64 : (Try.prog.info? 64).map (fun i => (i.size, i.bytes, i.zero)) = some (1, 8, some .nilFunc) := by kernel_rfl
theorem ti65 : (Try.prog.info? 65).map (fun i => (i.size, i.bytes, i.zero)) = some (1, 4, some (.int .u32 0)) := by kernel_rfl
theorem ti66 : (Try.prog.info? 66).map (fun i => (i.size, i.bytes, i.zero)) = some (1, 8, some .nilFunc) := by kernel_rfl
theorem ti67 : (Try.prog.info? 67).map (fun i => (i.size, i.bytes, i.zero)) = some (1, 8, some (.int .u64 0)) := by kernel_rfl
theorem ti68 : (Try.prog.info? 68).map (fun i => (i.size, i.bytes, i.zero)) = some (1, 8, some .nilFunc) := by kernel_rfl
theorem ti69 : (Try.prog.info? 69).map (fun i => (i.size, i.bytes, i.zero)) = some (1, 8, some .nilFunc) := by kernel_rfl
theorem ti71 : (Try.prog.info? 71).map (fun i => (i.size, i.bytes, i.zero)) = some (1, 8, some .nilFunc) := by kernel_rfl
theorem ti72 : (Try.prog.info? 72).map (fun i => (i.size, i.bytes, i.zero)) = some (1, 1, some (.agg #[(.bool false)])) := by kernel_rfl
theorem ti73 : (Try.prog.info? 73).map (fun i => (i.size, i.bytes, i.zero)) = some (1, 1, some (.agg #[(.bool false)])) := by kernel_rfl
theorem ti74 : (Try.prog.info? 74).map (fun i => (i.size, i.bytes, i.zero)) = some (1, 8, some .nilFunc) := by kernel_rfl
theorem ti75 : (Try.prog.info? 75).map (fun i => (i.size, i.bytes, i.zero)) = some (1, 8, some (.pointer none)) := by kernel_rfl
theorem ti76 : (Try.prog.info? 76).map (fun i => (i.size, i.bytes, i.zero)) = some (1, 8, some (.pointer none)) := by kernel_rfl
theorem ti78 : (Try.prog.info? 78).map (fun i => (i.size, i.bytes, i.zero)) = some (1, 8, some .nilFunc) := by kernel_rfl
theorem ti79 : (Try.prog.info? 79).map (fun i => (i.size, i.bytes, i.zero)) = some (1, 8, some .nilFunc) := by kernel_rfl
theorem ti80 : (Try.prog.info? 80).map (fun i => (i.size, i.bytes, i.zero)) = some (1, 8, some .nilFunc) := by kernel_rfl
theorem ti81 : (Try.prog.info? 81).map (fun i => (i.size, i.bytes, i.zero)) = some (1, 8, some (.pointer none)) := by kernel_rfl
theorem ti82 : (Try.prog.info? 82).map (fun i => (i.size, i.bytes, i.zero)) = some (1, 24, some (.agg #[(.slice none 0 0)])) := by kernel_rfl
theorem ti83 : (Try.prog.info? 83).map (fun i => (i.size, i.bytes, i.zero)) = some (1, 24, some (.agg #[(.slice none 0 0)])) := by kernel_rfl
theorem ti84 : (Try.prog.info? 84).map (fun i => (i.size, i.bytes, i.zero)) = some (1, 8, some .nilFunc) := by kernel_rfl
theorem ti86 : (Try.prog.info? 86).map (fun i => (i.size, i.bytes, i.zero)) = some (1, 8, some .nilFunc) := by kernel_rfl
theorem ti87 : (Try.prog.info? 87).map (fun i => (i.size, i.bytes, i.zero)) = some (1, 16, some .nilIface) := by kernel_rfl
theorem ti88 : (Try.prog.info? 88).map (fun i => (i.size, i.bytes, i.zero)) = some (1, 16, some .nilIface) := by kernel_rfl
theorem ti89 : (Try.prog.info? 89).map (fun i => (i.size, i.bytes, i.zero)) = some (1, 8, some .nilFunc) := by kernel_rfl
theorem ti90 : (Try.prog.info? 90).map (fun i => (i.size, i.bytes, i.zero)) = some (1, 8, some (.pointer none)) := by kernel_rfl
theorem ti91 : (Try.prog.info? 91).map (fun i => (i.size, i.bytes, i.zero)) = some (1, 8, some .nilFunc) := by kernel_rfl
theorem ti92 : (Try.prog.info? 92).map (fun i => (i.size, i.bytes, i.zero)) = some (1, 8, some (.pointer none)) := by kernel_rfl
theorem ti93 : (Try.prog.info? 93).map (fun i => (i.size, i.bytes, i.zero)) = some (1, 8, some .nilFunc) := by kernel_rfl
theorem ti94 : (Try.prog.info? 94).map (fun i => (i.size, i.bytes, i.zero)) = some (1, 8, some (.pointer none)) := by kernel_rfl
theorem ti95 : (Try.prog.info? 95).map (fun i => (i.size, i.bytes, i.zero)) = some (1, 8, some .nilFunc) := by kernel_rfl
theorem ti96 : (Try.prog.info? 96).map (fun i => (i.size, i.bytes, i.zero)) = some (1, 8, some (.pointer none)) := by kernel_rfl
theorem ti97 : (Try.prog.info? 97).map (fun i => (i.size, i.bytes, i.zero)) = some (1, 8, some (.pointer none)) := by kernel_rfl
theorem ti98 : (Try.prog.info? 98).map (fun i => (i.size, i.bytes, i.zero)) = some (1, 24, some (.agg #[(.slice none 0 0)])) := by kernel_rfl
theorem ti99 : (Try.prog.info? 99).map (fun i => (i.size, i.bytes, i.zero)) = some (1, 24, some (.agg #[(.slice none 0 0)])) := by kernel_rfl
theorem ti100 : (Try.prog.info? 100).map (fun i => (i.size, i.bytes, i.zero)) = some (1, 8, some .nilFunc) := by kernel_rfl
theorem ti101 : (Try.prog.info? 101).map (fun i => (i.size, i.bytes, i.zero)) = some (1, 8, some (.pointer none)) := by kernel_rfl
theorem ti102 : (Try.prog.info? 102).map (fun i => (i.size, i.bytes, i.zero)) = some (2, 32, some (.agg #[(.slice none 0 0), (.bool false)])) := by kernel_rfl
theorem ti103 : (Try.prog.info? 103).map (fun i => (i.size, i.bytes, i.zero)) = some (2, 32, some (.agg #[(.slice none 0 0), (.bool false)])) := by kernel_rfl
theorem ti104 : (Try.prog.info? 104).map (fun i => (i.size, i.bytes, i.zero)) = some (1, 8, some .nilFunc) := by kernel_rfl
theorem ti105 : (Try.prog.info? 105).map (fun i => (i.size, i.bytes, i.zero)) = some (1, 8, some .nilFunc) := by kernel_rfl
theorem ti106 : (Try.prog.info? 106).map (fun i => (i.size, i.bytes, i.zero)) = some (0, 0, some (.agg #[])) := by kernel_rfl
theorem ti107 : (Try.prog.info? 107).map (fun i => (i.size, i.bytes, i.zero)) = some (0, 0, some (.agg #[])) := by kernel_rfl
theorem ti109 : (Try.prog.info? 109).map (fun i => (i.size, i.bytes, i.zero)) = some (1, 8, some .nilFunc) := by kernel_rfl
theorem ti110 : (Try.prog.info? 110).map (fun i => (i.size, i.bytes, i.zero)) = some (1, 8, some .nilFunc) := by kernel_rfl
theorem ti116 : (Try.prog.info? 116).map (fun i => (i.size, i.bytes, i.zero)) = some (1, 8, some .nilFunc) := by kernel_rfl
theorem ti119 : (Try.prog.info? 119).map (fun i => (i.size, i.bytes, i.zero)) = some (1, 8, some .nilFunc) := by kernel_rfl
theorem ti120 : (Try.prog.info? 120).map (fun i => (i.size, i.bytes, i.zero)) = some (1, 8, some (.pointer none)) := by kernel_rfl
theorem ti125 : (Try.prog.info? 125).map (fun i => (i.size, i.bytes, i.zero)) = some (1, 8, some .nilFunc) := by kernel_rfl
theorem ti126 : (Try.prog.info? 126).map (fun i => (i.size, i.bytes, i.zero)) = some (1, 8, some .nilFunc) := by kernel_rfl
theorem ti127 : (Try.prog.info? 127).map (fun i => (i.size, i.bytes, i.zero)) = some (1, 8, some .nilFunc) := by kernel_rfl
theorem ti128 : (Try.prog.info? 128).map (fun i => (i.size, i.bytes, i.zero)) = some (1, 8, some .nilFunc) := by kernel_rfl
theorem ti129 : (Try.prog.info? 129).map (fun i => (i.size, i.bytes, i.zero)) = some (1, 8, some .nilFunc) := by kernel_rfl
theorem ti130 : (Try.prog.info? 130).map (fun i => (i.size, i.bytes, i.zero)) = some (1, 8, some (.pointer none)) := by kernel_rfl
theorem pl28 : PLs Try.prog 28 [(0, 1), (1, 1), (2, 1), (3, 1), (4, 1), (5, 1), (6, 1)] := ⟨_, Try.underlying28, fun w => by simp [TI.size ti2, TI.size ti23, TI.size ti24, TI.size ti25, TI.size ti26]⟩
theorem pl83 : PLs Try.prog 83 [(0, 1)] := ⟨_, Try.underlying83, fun w => by simp [TI.size ti22]⟩
theorem pl99 : PLs Try.prog 99 [(0, 1)] := ⟨_, Try.underlying99, fun w => by simp [TI.size ti22]⟩
theorem pl103 : PLs Try.prog 103 [(0, 1), (1, 1)] := ⟨_, Try.underlying103, fun w => by simp [TI.size ti22, TI.size ti4]⟩
theorem pl107 : PLs Try.prog 107 [] := ⟨_, Try.underlying107, fun w => by simp []⟩
theorem ent3 : EntersF Try.prog 3 := enters_of Try.func3 (by kernel_rfl) rfl
theorem ent4 : EntersF Try.prog 4 := enters_of Try.func4 (by kernel_rfl) rfl
theorem ent5 : EntersF Try.prog 5 := enters_of Try.func5 (by kernel_rfl) rfl
theorem ent6 : EntersF Try.prog 6 := enters_of Try.func6 (by kernel_rfl) rfl
theorem ent7 : EntersF Try.prog 7 := enters_of Try.func7 (by kernel_rfl) rfl
theorem ent8 : EntersF Try.prog 8 := enters_of Try.func8 (by kernel_rfl) rfl
theorem ent9 : EntersF Try.prog 9 := enters_of Try.func9 (by kernel_rfl) rfl
theorem ent10 : EntersF Try.prog 10 := enters_of Try.func10 (by kernel_rfl) rfl
theorem ent11 : EntersF Try.prog 11 := enters_of Try.func11 (by kernel_rfl) rfl
theorem ent12 : EntersF Try.prog 12 := enters_of Try.func12 (by kernel_rfl) rfl
theorem ent13 : EntersF Try.prog 13 := enters_of Try.func13 (by kernel_rfl) rfl
theorem ent14 : EntersF Try.prog 14 := enters_of Try.func14 (by kernel_rfl) rfl
theorem ent15 : EntersF Try.prog 15 := enters_of Try.func15 (by kernel_rfl) rfl
theorem ent16 : EntersF Try.prog 16 := enters_of Try.func16 (by kernel_rfl) rfl
theorem ent17 : EntersF Try.prog 17 := enters_of Try.func17 (by kernel_rfl) rfl
theorem ent18 : EntersF Try.prog 18 := enters_of Try.func18 (by kernel_rfl) rfl
theorem ent19 : EntersF Try.prog 19 := enters_of Try.func19 (by kernel_rfl) rfl
theorem ent20 : EntersF Try.prog 20 := enters_of Try.func20 (by kernel_rfl) rfl
theorem ent21 : EntersF Try.prog 21 := enters_of Try.func21 (by kernel_rfl) rfl
theorem ent22 : EntersF Try.prog 22 := enters_of Try.func22 (by kernel_rfl) rfl
theorem ent23 : EntersF Try.prog 23 := enters_of Try.func23 (by kernel_rfl) rfl
theorem ent24 : EntersF Try.prog 24 := enters_of Try.func24 (by kernel_rfl) rfl
theorem ent25 : EntersF Try.prog 25 := enters_of Try.func25 (by kernel_rfl) rfl
theorem ent26 : EntersF Try.prog 26 := enters_of Try.func26 (by kernel_rfl) rfl
theorem ent27 : EntersF Try.prog 27 := enters_of Try.func27 (by kernel_rfl) rfl
theorem ent28 : EntersF Try.prog 28 := enters_of Try.func28 (by kernel_rfl) rfl
theorem ent29 : EntersF Try.prog 29 := enters_of Try.func29 (by kernel_rfl) rfl
theorem ent30 : EntersF Try.prog 30 := enters_of Try.func30 (by kernel_rfl) rfl
theorem ent31 : EntersF Try.prog 31 := enters_of Try.func31 (by kernel_rfl) rfl
theorem ent32 : EntersF Try.prog 32 := enters_of Try.func32 (by kernel_rfl) rfl
theorem ent33 : EntersF Try.prog 33 := enters_of Try.func33 (by kernel_rfl) rfl
theorem ent34 : EntersF Try.prog 34 := enters_of Try.func34 (by kernel_rfl) rfl
theorem ent35 : EntersF Try.prog 35 := enters_of Try.func35 (by kernel_rfl) rfl
theorem ent36 : EntersF Try.prog 36 := enters_of Try.func36 (by kernel_rfl) rfl
theorem ent37 : EntersF Try.prog 37 := enters_of Try.func37 (by kernel_rfl) rfl
theorem ent38 : EntersF Try.prog 38 := enters_of Try.func38 (by kernel_rfl) rfl
theorem ent39 : EntersF Try.prog 39 := enters_of Try.func39 (by kernel_rfl) rfl
theorem ent40 : EntersF Try.prog 40 := enters_of Try.func40 (by kernel_rfl) rfl
theorem ent41 : EntersF Try.prog 41 := enters_of Try.func41 (by kernel_rfl) rfl
theorem ent42 : EntersF Try.prog 42 := enters_of Try.func42 (by kernel_rfl) rfl
theorem ent43 : EntersF Try.prog 43 := enters_of Try.func43 (by kernel_rfl) rfl
theorem ent44 : EntersF Try.prog 44 := enters_of Try.func44 (by kernel_rfl) rfl
theorem ent45 : EntersF Try.prog 45 := enters_of Try.func45 (by kernel_rfl) rfl
theorem ent46 : EntersF Try.prog 46 := enters_of Try.func46 (by kernel_rfl) rfl
theorem ent47 : EntersF Try.prog 47 := enters_of Try.func47 (by kernel_rfl) rfl
theorem ent48 : EntersF Try.prog 48 := enters_of Try.func48 (by kernel_rfl) rfl
theorem ent49 : EntersF Try.prog 49 := enters_of Try.func49 (by kernel_rfl) rfl
theorem ent50 : EntersF Try.prog 50 := enters_of Try.func50 (by kernel_rfl) rfl
theorem ent51 : EntersF Try.prog 51 := enters_of Try.func51 (by kernel_rfl) rfl
theorem ent52 : EntersF Try.prog 52 := enters_of Try.func52 (by kernel_rfl) rfl
theorem ent53 : EntersF Try.prog 53 := enters_of Try.func53 (by kernel_rfl) rfl
theorem ent69 : EntersF Try.prog 69 := enters_of Try.func69 (by kernel_rfl) rfl
theorem ent70 : EntersF Try.prog 70 := enters_of Try.func70 (by kernel_rfl) rfl
theorem ent71 : EntersF Try.prog 71 := enters_of Try.func71 (by kernel_rfl) rfl
theorem ent72 : EntersF Try.prog 72 := enters_of Try.func72 (by kernel_rfl) rfl
theorem ent73 : EntersF Try.prog 73 := enters_of Try.func73 (by kernel_rfl) rfl
theorem ent74 : EntersF Try.prog 74 := enters_of Try.func74 (by kernel_rfl) rfl
theorem ent75 : EntersF Try.prog 75 := enters_of Try.func75 (by kernel_rfl) rfl
theorem ent76 : EntersF Try.prog 76 := enters_of Try.func76 (by kernel_rfl) rfl
theorem ent77 : EntersF Try.prog 77 := enters_of Try.func77 (by kernel_rfl) rfl
theorem ent78 : EntersF Try.prog 78 := enters_of Try.func78 (by kernel_rfl) rfl
theorem ent79 : EntersF Try.prog 79 := enters_of Try.func79 (by kernel_rfl) rfl
theorem ent80 : EntersF Try.prog 80 := enters_of Try.func80 (by kernel_rfl) rfl
theorem ent81 : EntersF Try.prog 81 := enters_of Try.func81 (by kernel_rfl) rfl
theorem ent82 : EntersF Try.prog 82 := enters_of Try.func82 (by kernel_rfl) rfl
theorem ent83 : EntersF Try.prog 83 := enters_of Try.func83 (by kernel_rfl) rfl
theorem ent84 : EntersF Try.prog 84 := enters_of Try.func84 (by kernel_rfl) rfl
theorem ent85 : EntersF Try.prog 85 := enters_of Try.func85 (by kernel_rfl) rfl
theorem ent86 : EntersF Try.prog 86 := enters_of Try.func86 (by kernel_rfl) rfl
theorem mixed : Try.prog.follows .mixedOrders = true := by kernel_rfl
theorem has_ok (s : ByteArray) (c : Int) (w : World) (hs : s.size ≤ 9223372036854775807) :
 CR Try.prog 42 #[(.string s), (.int .u8 c)] w (fun v w' => v = .bool (hasB s.data.toList c) ∧ w = w') := by
 refine enter (vs := [(.string s), (.int .u8 c)]) Try.func42 rfl Try.ntmps42 rfl (sq fun K1 hK1 => (rg (asg (v := (.bool false)) rfl rfl (wl_nil (tN ((hK1 _ _ ?_)))))))
 refine sq fun K2 hK2 => (sq fun K3 hK3 => (rg (asg (v := (.int .i64 0)) rfl rfl (wl_nil (tN ((hK3 _ _ ?_)))))))
 refine bk (lp (α := Nat) (fun k => [(0, (.string s)), (1, (.int .u8 c)), (4, (.bool false)), (5, (.int .i64 k))]) (fun k w1 => w = w1 ∧ k ≤ s.size ∧ hasB (s.data.toList.take k) c = false) (fun k => s.size - k) 0 ⟨rfl, rfl, rfl, eqI (by first | rfl | omega), trivial⟩ (⟨rfl, by omega, rfl⟩) ?_)
 rintro k s1 w1 ⟨rfl, hk1, hk2⟩
 refine sq fun K4 hK4 => (sq fun K5 hK5 => (rg (mv (v := (.int .i64 k)) rfl rfl (mv (v := (.string s)) rfl rfl (lenStr (b := s) rfl rfl Try.underlying9 ?_)))))
 by_cases h1 : ((k : Int) : Int) < ((s.size : Int) : Int)
 · refine cmp (a := (k : Int)) (b := (s.size : Int)) rfl rfl rfl (c_lt h1) ?_
   have hk : k < s.size := by omega
   refine wl_nil (tN ((hK5 _ _ ?_)))
   refine cdT rfl (sp (tN ((hK4 _ _ ?_))))
   refine sq fun K6 hK6 => (bk (sq fun K7 hK7 => (rg (mv (v := (.string s)) rfl rfl (mv (v := (.int .i64 k)) rfl rfl (idxStr (i := (k : Int)) (c := s[k]) rfl rfl rfl Try.underlying9 (by omega) (getElem?_pos s k hk) ?_))))))
   refine mv (v := (.int .u8 c)) rfl rfl ?_
   by_cases h2 : ((s[k]).toNat : Int) = (c : Int)
   · refine cmp (a := (s[k]).toNat) (b := c) rfl rfl rfl (c_eq h2) (wl_nil (tN ((hK7 _ _ ?_))))
     refine cdT rfl (sq fun K8 hK8 => (rg (asg (v := (.bool true)) rfl rfl (wl_nil (tN ((hK8 _ _ ?_)))))))
     refine rt (bR (tR (tR (bR (tR (?_))))))
     refine ret1 (v := (.bool true)) Try.results42 rfl ?_
     exact ⟨eqB (hasB_hit s k hk c h2).symm, rfl⟩
   · refine cmp (a := (s[k]).toNat) (b := c) rfl rfl rfl (c_neq h2) (wl_nil (tN ((hK7 _ _ ?_))))
     refine cdF rfl (sp (bN (tN ((hK6 _ _ ?_)))))
     refine rg (mv (v := (.int .i64 k)) rfl rfl (ar (a := (k : Int)) (b := 1) (c := (k : Int) + 1) rfl rfl rfl rfl (w64 (by omega)) (asg (v := (.int .i64 ((k : Int) + 1))) rfl rfl (wl_nil (tN (?_))))))
     exact again (k + 1) ⟨rfl, rfl, rfl, eqI (by first | rfl | omega), trivial⟩ (⟨rfl, by omega, by rw [hasB_step s k hk, hk2]; simpa using h2⟩) (by show (s.size - (k + 1) : Nat) < s.size - k; omega)
 · refine cmp (a := (k : Int)) (b := (s.size : Int)) rfl rfl rfl (c_nlt h1) (wl_nil (tN ((hK5 _ _ ?_))))
   refine cdF rfl (xt (tX (tX (bX (tN ((hK2 _ _ ?_)))))))
   refine sq fun K9 hK9 => (rg (asg (v := (.bool false)) rfl rfl (wl_nil (tN ((hK9 _ _ ?_))))))
   refine rt (ret1 (v := (.bool false)) Try.results42 rfl ?_)
   exact ⟨eqB (by rw [← hk2, List.take_of_length_le (by simp; omega)]), rfl⟩
theorem Uses_ok (op : Int) (w : World) :
 CR Try.prog 41 #[(.int .i64 op)] w (fun v w' => v = .tuple #[.string (usesB op), .bool (okOp op)] ∧ w = w') := by
 refine enter (vs := [(.int .i64 op)]) Try.func41 rfl Try.ntmps41 rfl (sq fun K1 hK1 => (rg (asg (v := (.string (ByteArray.mk #[]))) rfl rfl (asg (v := (.bool false)) rfl rfl (wl_nil (tN ((hK1 _ _ ?_))))))))
 refine sq fun K2 hK2 => (sq fun K3 hK3 => (rg (mv (v := (.int .i64 op)) rfl rfl (wl_nil (tN ((hK3 _ _ ?_)))))))
 refine bk (sq fun K4 hK4 => (rg ?_))
 by_cases h1 : (op : Int) = (1 : Int)
 · refine cmp (a := op) (b := 1) rfl rfl rfl (c_eq h1) (asg (v := (.bool true)) rfl rfl (wl_nil (tN ((hK4 _ _ ?_)))))
   refine cdT rfl (sq fun K5 hK5 => (rg (asg (v := (.string (ByteArray.mk #[117, 118, 119, 116]))) rfl rfl (asg (v := (.bool true)) rfl rfl (wl_nil (tN ((hK5 _ _ ?_))))))))
   refine rt (bR (tR (?_)))
   refine ret2 (v := (.string (ByteArray.mk #[117, 118, 119, 116]))) (v' := (.bool true)) Try.results41 rfl rfl ?_
   exact ⟨by simp [usesB, okOp, h1], rfl⟩
 · refine cmp (a := op) (b := 1) rfl rfl rfl (c_neq h1) (asg (v := (.bool false)) rfl rfl (wl_nil (tN ((hK4 _ _ ?_)))))
   refine cdF rfl (sq fun K6 hK6 => (rg ?_))
   by_cases h2 : (op : Int) = (2 : Int)
   · refine cmp (a := op) (b := 2) rfl rfl rfl (c_eq h2) (asg (v := (.bool true)) rfl rfl (wl_nil (tN ((hK6 _ _ ?_)))))
     refine cdT rfl (sq fun K7 hK7 => (rg (asg (v := (.string (ByteArray.mk #[116]))) rfl rfl (asg (v := (.bool true)) rfl rfl (wl_nil (tN ((hK7 _ _ ?_))))))))
     refine rt (bR (tR (?_)))
     refine ret2 (v := (.string (ByteArray.mk #[116]))) (v' := (.bool true)) Try.results41 rfl rfl ?_
     exact ⟨by simp [usesB, okOp, h1, h2], rfl⟩
   · refine cmp (a := op) (b := 2) rfl rfl rfl (c_neq h2) (asg (v := (.bool false)) rfl rfl (wl_nil (tN ((hK6 _ _ ?_)))))
     refine cdF rfl (sq fun K8 hK8 => (sq fun K9 hK9 => (rg ?_)))
     by_cases h3 : (op : Int) = (3 : Int)
     · refine cmp (a := op) (b := 3) rfl rfl rfl (c_eq h3) (asg (v := (.bool true)) rfl rfl (wl_nil (tN ((hK9 _ _ ?_)))))
       refine cdT rfl (sp (tN ((hK8 _ _ ?_))))
       refine cdT rfl (sq fun K10 hK10 => (rg (asg (v := (.string (ByteArray.mk #[117, 118]))) rfl rfl (asg (v := (.bool true)) rfl rfl (wl_nil (tN ((hK10 _ _ ?_))))))))
       refine rt (bR (tR (?_)))
       refine ret2 (v := (.string (ByteArray.mk #[117, 118]))) (v' := (.bool true)) Try.results41 rfl rfl ?_
       exact ⟨by simp [usesB, okOp, h1, h2, h3], rfl⟩
     · refine cmp (a := op) (b := 3) rfl rfl rfl (c_neq h3) (asg (v := (.bool false)) rfl rfl (wl_nil (tN ((hK9 _ _ ?_)))))
       refine cdF rfl (rg ?_)
       by_cases h4 : (op : Int) = (8 : Int)
       · refine cmp (a := op) (b := 8) rfl rfl rfl (c_eq h4) (asg (v := (.bool true)) rfl rfl (wl_nil (tN ((hK8 _ _ ?_)))))
         refine cdT rfl (sq fun K11 hK11 => (rg (asg (v := (.string (ByteArray.mk #[117, 118]))) rfl rfl (asg (v := (.bool true)) rfl rfl (wl_nil (tN ((hK11 _ _ ?_))))))))
         refine rt (bR (tR (?_)))
         refine ret2 (v := (.string (ByteArray.mk #[117, 118]))) (v' := (.bool true)) Try.results41 rfl rfl ?_
         exact ⟨by simp [usesB, okOp, h1, h2, h3, h4], rfl⟩
       · refine cmp (a := op) (b := 8) rfl rfl rfl (c_neq h4) (asg (v := (.bool false)) rfl rfl (wl_nil (tN ((hK8 _ _ ?_)))))
         refine cdF rfl (sq fun K12 hK12 => (rg ?_))
         by_cases h5 : (op : Int) = (4 : Int)
         · refine cmp (a := op) (b := 4) rfl rfl rfl (c_eq h5) (asg (v := (.bool true)) rfl rfl (wl_nil (tN ((hK12 _ _ ?_)))))
           refine cdT rfl (sq fun K13 hK13 => (rg (asg (v := (.string (ByteArray.mk #[117]))) rfl rfl (asg (v := (.bool true)) rfl rfl (wl_nil (tN ((hK13 _ _ ?_))))))))
           refine rt (bR (tR (?_)))
           refine ret2 (v := (.string (ByteArray.mk #[117]))) (v' := (.bool true)) Try.results41 rfl rfl ?_
           exact ⟨by simp [usesB, okOp, h1, h2, h3, h4, h5], rfl⟩
         · refine cmp (a := op) (b := 4) rfl rfl rfl (c_neq h5) (asg (v := (.bool false)) rfl rfl (wl_nil (tN ((hK12 _ _ ?_)))))
           refine cdF rfl (sq fun K14 hK14 => (sq fun K15 hK15 => (rg ?_)))
           by_cases h6 : (op : Int) = (5 : Int)
           · refine cmp (a := op) (b := 5) rfl rfl rfl (c_eq h6) (asg (v := (.bool true)) rfl rfl (wl_nil (tN ((hK15 _ _ ?_)))))
             refine cdT rfl (sp (tN ((hK14 _ _ ?_))))
             refine cdT rfl (sq fun K16 hK16 => (rg (asg (v := (.string (ByteArray.mk #[]))) rfl rfl (asg (v := (.bool true)) rfl rfl (wl_nil (tN ((hK16 _ _ ?_))))))))
             refine rt (bR (tR (?_)))
             refine ret2 (v := (.string (ByteArray.mk #[]))) (v' := (.bool true)) Try.results41 rfl rfl ?_
             exact ⟨by simp [usesB, okOp, h1, h2, h3, h4, h5, h6], rfl⟩
           · refine cmp (a := op) (b := 5) rfl rfl rfl (c_neq h6) (asg (v := (.bool false)) rfl rfl (wl_nil (tN ((hK15 _ _ ?_)))))
             refine cdF rfl (sq fun K17 hK17 => (rg ?_))
             by_cases h7 : (op : Int) = (9 : Int)
             · refine cmp (a := op) (b := 9) rfl rfl rfl (c_eq h7) (asg (v := (.bool true)) rfl rfl (wl_nil (tN ((hK17 _ _ ?_)))))
               refine cdT rfl (sp (tN ((hK14 _ _ ?_))))
               refine cdT rfl (sq fun K18 hK18 => (rg (asg (v := (.string (ByteArray.mk #[]))) rfl rfl (asg (v := (.bool true)) rfl rfl (wl_nil (tN ((hK18 _ _ ?_))))))))
               refine rt (bR (tR (?_)))
               refine ret2 (v := (.string (ByteArray.mk #[]))) (v' := (.bool true)) Try.results41 rfl rfl ?_
               exact ⟨by simp [usesB, okOp, h1, h2, h3, h4, h5, h6, h7], rfl⟩
             · refine cmp (a := op) (b := 9) rfl rfl rfl (c_neq h7) (asg (v := (.bool false)) rfl rfl (wl_nil (tN ((hK17 _ _ ?_)))))
               refine cdF rfl (sq fun K19 hK19 => (rg ?_))
               by_cases h8 : (op : Int) = (10 : Int)
               · refine cmp (a := op) (b := 10) rfl rfl rfl (c_eq h8) (asg (v := (.bool true)) rfl rfl (wl_nil (tN ((hK19 _ _ ?_)))))
                 refine cdT rfl (sp (tN ((hK14 _ _ ?_))))
                 refine cdT rfl (sq fun K20 hK20 => (rg (asg (v := (.string (ByteArray.mk #[]))) rfl rfl (asg (v := (.bool true)) rfl rfl (wl_nil (tN ((hK20 _ _ ?_))))))))
                 refine rt (bR (tR (?_)))
                 refine ret2 (v := (.string (ByteArray.mk #[]))) (v' := (.bool true)) Try.results41 rfl rfl ?_
                 exact ⟨by simp [usesB, okOp, h1, h2, h3, h4, h5, h6, h7, h8], rfl⟩
               · refine cmp (a := op) (b := 10) rfl rfl rfl (c_neq h8) (asg (v := (.bool false)) rfl rfl (wl_nil (tN ((hK19 _ _ ?_)))))
                 refine cdF rfl (sq fun K21 hK21 => (rg ?_))
                 by_cases h9 : (op : Int) = (13 : Int)
                 · refine cmp (a := op) (b := 13) rfl rfl rfl (c_eq h9) (asg (v := (.bool true)) rfl rfl (wl_nil (tN ((hK21 _ _ ?_)))))
                   refine cdT rfl (sp (tN ((hK14 _ _ ?_))))
                   refine cdT rfl (sq fun K22 hK22 => (rg (asg (v := (.string (ByteArray.mk #[]))) rfl rfl (asg (v := (.bool true)) rfl rfl (wl_nil (tN ((hK22 _ _ ?_))))))))
                   refine rt (bR (tR (?_)))
                   refine ret2 (v := (.string (ByteArray.mk #[]))) (v' := (.bool true)) Try.results41 rfl rfl ?_
                   exact ⟨by simp [usesB, okOp, h1, h2, h3, h4, h5, h6, h7, h8, h9], rfl⟩
                 · refine cmp (a := op) (b := 13) rfl rfl rfl (c_neq h9) (asg (v := (.bool false)) rfl rfl (wl_nil (tN ((hK21 _ _ ?_)))))
                   refine cdF rfl (sq fun K23 hK23 => (rg ?_))
                   by_cases h10 : (op : Int) = (14 : Int)
                   · refine cmp (a := op) (b := 14) rfl rfl rfl (c_eq h10) (asg (v := (.bool true)) rfl rfl (wl_nil (tN ((hK23 _ _ ?_)))))
                     refine cdT rfl (sp (tN ((hK14 _ _ ?_))))
                     refine cdT rfl (sq fun K24 hK24 => (rg (asg (v := (.string (ByteArray.mk #[]))) rfl rfl (asg (v := (.bool true)) rfl rfl (wl_nil (tN ((hK24 _ _ ?_))))))))
                     refine rt (bR (tR (?_)))
                     refine ret2 (v := (.string (ByteArray.mk #[]))) (v' := (.bool true)) Try.results41 rfl rfl ?_
                     exact ⟨by simp [usesB, okOp, h1, h2, h3, h4, h5, h6, h7, h8, h9, h10], rfl⟩
                   · refine cmp (a := op) (b := 14) rfl rfl rfl (c_neq h10) (asg (v := (.bool false)) rfl rfl (wl_nil (tN ((hK23 _ _ ?_)))))
                     refine cdF rfl (rg ?_)
                     by_cases h11 : (op : Int) = (15 : Int)
                     · refine cmp (a := op) (b := 15) rfl rfl rfl (c_eq h11) (asg (v := (.bool true)) rfl rfl (wl_nil (tN ((hK14 _ _ ?_)))))
                       refine cdT rfl (sq fun K25 hK25 => (rg (asg (v := (.string (ByteArray.mk #[]))) rfl rfl (asg (v := (.bool true)) rfl rfl (wl_nil (tN ((hK25 _ _ ?_))))))))
                       refine rt (bR (tR (?_)))
                       refine ret2 (v := (.string (ByteArray.mk #[]))) (v' := (.bool true)) Try.results41 rfl rfl ?_
                       exact ⟨by simp [usesB, okOp, h1, h2, h3, h4, h5, h6, h7, h8, h9, h10, h11], rfl⟩
                     · refine cmp (a := op) (b := 15) rfl rfl rfl (c_neq h11) (asg (v := (.bool false)) rfl rfl (wl_nil (tN ((hK14 _ _ ?_)))))
                       refine cdF rfl (sq fun K26 hK26 => (rg ?_))
                       by_cases h12 : (op : Int) = (6 : Int)
                       · refine cmp (a := op) (b := 6) rfl rfl rfl (c_eq h12) (asg (v := (.bool true)) rfl rfl (wl_nil (tN ((hK26 _ _ ?_)))))
                         refine cdT rfl (sq fun K27 hK27 => (rg (asg (v := (.string (ByteArray.mk #[117, 119]))) rfl rfl (asg (v := (.bool true)) rfl rfl (wl_nil (tN ((hK27 _ _ ?_))))))))
                         refine rt (bR (tR (?_)))
                         refine ret2 (v := (.string (ByteArray.mk #[117, 119]))) (v' := (.bool true)) Try.results41 rfl rfl ?_
                         exact ⟨by simp [usesB, okOp, h1, h2, h3, h4, h5, h6, h7, h8, h9, h10, h11, h12], rfl⟩
                       · refine cmp (a := op) (b := 6) rfl rfl rfl (c_neq h12) (asg (v := (.bool false)) rfl rfl (wl_nil (tN ((hK26 _ _ ?_)))))
                         refine cdF rfl (sq fun K28 hK28 => (rg ?_))
                         by_cases h13 : (op : Int) = (7 : Int)
                         · refine cmp (a := op) (b := 7) rfl rfl rfl (c_eq h13) (asg (v := (.bool true)) rfl rfl (wl_nil (tN ((hK28 _ _ ?_)))))
                           refine cdT rfl (sq fun K29 hK29 => (rg (asg (v := (.string (ByteArray.mk #[119]))) rfl rfl (asg (v := (.bool true)) rfl rfl (wl_nil (tN ((hK29 _ _ ?_))))))))
                           refine rt (bR (tR (?_)))
                           refine ret2 (v := (.string (ByteArray.mk #[119]))) (v' := (.bool true)) Try.results41 rfl rfl ?_
                           exact ⟨by simp [usesB, okOp, h1, h2, h3, h4, h5, h6, h7, h8, h9, h10, h11, h12, h13], rfl⟩
                         · refine cmp (a := op) (b := 7) rfl rfl rfl (c_neq h13) (asg (v := (.bool false)) rfl rfl (wl_nil (tN ((hK28 _ _ ?_)))))
                           refine cdF rfl (sq fun K30 hK30 => (rg ?_))
                           by_cases h14 : (op : Int) = (11 : Int)
                           · refine cmp (a := op) (b := 11) rfl rfl rfl (c_eq h14) (asg (v := (.bool true)) rfl rfl (wl_nil (tN ((hK30 _ _ ?_)))))
                             refine cdT rfl (sq fun K31 hK31 => (rg (asg (v := (.string (ByteArray.mk #[100]))) rfl rfl (asg (v := (.bool true)) rfl rfl (wl_nil (tN ((hK31 _ _ ?_))))))))
                             refine rt (bR (tR (?_)))
                             refine ret2 (v := (.string (ByteArray.mk #[100]))) (v' := (.bool true)) Try.results41 rfl rfl ?_
                             exact ⟨by simp [usesB, okOp, h1, h2, h3, h4, h5, h6, h7, h8, h9, h10, h11, h12, h13, h14], rfl⟩
                           · refine cmp (a := op) (b := 11) rfl rfl rfl (c_neq h14) (asg (v := (.bool false)) rfl rfl (wl_nil (tN ((hK30 _ _ ?_)))))
                             refine cdF rfl (sq fun K32 hK32 => (rg ?_))
                             by_cases h15 : (op : Int) = (12 : Int)
                             · refine cmp (a := op) (b := 12) rfl rfl rfl (c_eq h15) (asg (v := (.bool true)) rfl rfl (wl_nil (tN ((hK32 _ _ ?_)))))
                               refine cdT rfl (sq fun K33 hK33 => (rg (asg (v := (.string (ByteArray.mk #[119, 98]))) rfl rfl (asg (v := (.bool true)) rfl rfl (wl_nil (tN ((hK33 _ _ ?_))))))))
                               refine rt (bR (tR (?_)))
                               refine ret2 (v := (.string (ByteArray.mk #[119, 98]))) (v' := (.bool true)) Try.results41 rfl rfl ?_
                               exact ⟨by simp [usesB, okOp, h1, h2, h3, h4, h5, h6, h7, h8, h9, h10, h11, h12, h13, h14, h15], rfl⟩
                             · refine cmp (a := op) (b := 12) rfl rfl rfl (c_neq h15) (asg (v := (.bool false)) rfl rfl (wl_nil (tN ((hK32 _ _ ?_)))))
                               refine cdF rfl (sp (bN (tN ((hK2 _ _ ?_)))))
                               refine sq fun K34 hK34 => (rg (asg (v := (.string (ByteArray.mk #[]))) rfl rfl (asg (v := (.bool false)) rfl rfl (wl_nil (tN ((hK34 _ _ ?_)))))))
                               refine rt (ret2 (v := (.string (ByteArray.mk #[]))) (v' := (.bool false)) Try.results41 rfl rfl ?_)
                               exact ⟨by simp [usesB, okOp, h1, h2, h3, h4, h5, h6, h7, h8, h9, h10, h11, h12, h13, h14, h15]; omega, rfl⟩
theorem GetUint_ok (v : Value) (xs : List Int) (w : World) (hv : Ints .u8 (fun _ => True) w v xs) :
 CR Try.prog 18 #[v] w (fun r w' => r = getUV (getU xs) ∧ w = w') := by
 have hlen := hv.len
 refine enter (vs := [v]) Try.func18 rfl Try.ntmps18 rfl (sq fun K1 hK1 => (rg (asg (v := (.int .u64 0)) rfl rfl (asg (v := (.int .i64 0)) rfl rfl (asg (v := (.int .i64 0)) rfl rfl (wl_nil (tN ((hK1 _ _ ?_)))))))))
 refine sq fun K2 hK2 => (rg (asg (v := (.int .u64 0)) rfl rfl (wl_nil (tN ((hK2 _ _ ?_))))))
 refine sq fun K3 hK3 => (sq fun K4 hK4 => (rg (mv (v := v) rfl rfl (mv (v := v) rfl rfl (lenI (v := v) rfl rfl Try.underlying22 hv (min2 (a := (xs.length : Int)) (b := 10) (c := ((min xs.length 10 : Nat) : Int)) rfl rfl rfl (by split <;> omega) (slI (l := 0) (h := (min xs.length 10)) rfl rfl Try.underlying22 ti5 hv rfl ⟨_, eqI (by omega)⟩ (by omega) (by omega) ?_)))))))
 intro v1 hv1
 refine lenI (v := v1) rfl rfl Try.underlying22 hv1 (mv (v := (.int .i64 0)) rfl rfl (wl_nil (tN ((hK4 _ _ ?_)))))
 refine bk (lp (α := Nat × Nat) (fun (k, acc) => [(5, (.int .u64 acc)), (12, v1), (13, (.int .i64 ((((xs).take (min xs.length 10)).drop 0).length : Int))), (14, (.int .i64 k))]) (fun (k, acc) w1 => w = w1 ∧ k ≤ min xs.length 10 ∧ acc < 128 ^ k ∧ getU xs = getUf k acc (xs.drop k)) (fun (k, acc) => 10 - k) (0, 0) ⟨eqI (by first | rfl | omega), rfl, rfl, eqI (by first | rfl | omega), trivial⟩ (⟨rfl, by omega, by decide, rfl⟩) ?_)
 rintro ⟨k, acc⟩ s1 w1 ⟨rfl, hk1, ha, hg⟩
 refine sq fun K5 hK5 => (rg ?_)
 by_cases h1 : ((k : Int) : Int) < (((((xs).take (min xs.length 10)).drop 0).length : Int) : Int)
 · refine cmp (a := (k : Int)) (b := ((((xs).take (min xs.length 10)).drop 0).length : Int)) rfl rfl rfl (c_lt h1) ?_
   have hk : k < xs.length ∧ k < 10 := by simp at h1; omega
   obtain ⟨y, hy⟩ := get_some hk.1
   refine wl_nil (tN ((hK5 _ _ ?_)))
   refine sq fun K6 hK6 => (cdT rfl (sp (tN ((hK6 _ _ ?_)))))
   refine sq fun K7 hK7 => (bk (sq fun K8 hK8 => (rg (mv (v := (.int .i64 k)) rfl rfl (ixI (i := (k : Int)) (el := y) rfl rfl rfl Try.underlying22 ti5 hv1 (by omega) (cut0_get hy (by omega)) ?_)))))
   intro b1 o1 hx1 hi1 ho1
   have hi1' := hi1.u8
   refine ld (a := ⟨b1, o1, none⟩) (v := (.int .u8 y)) rfl rfl Try.underlying5 rfl hx1 (asg (v := (.int .i64 k)) rfl rfl (asg (v := (.int .u8 y)) rfl rfl (wl_nil (tN ((hK8 _ _ ?_))))))
   refine sq fun K9 hK9 => (sq fun K10 hK10 => (rg (mv (v := (.int .i64 k)) rfl rfl ?_)))
   by_cases h2 : ((k : Int) : Int) = (9 : Int)
   · refine cmp (a := (k : Int)) (b := 9) rfl rfl rfl (c_eq h2) (mv (v := (.bool true)) rfl rfl (mv (v := (.int .u8 y)) rfl rfl ?_))
     by_cases h3 : (y : Int) > (1 : Int)
     · refine cmp (a := y) (b := 1) rfl rfl rfl (c_gt h3) (pkT (v := (.bool true)) rfl rfl rfl (wl_nil (tN ((hK10 _ _ ?_)))))
       refine cdT rfl (xt (tX (bXn rfl (tX (tX (bX (tN ((hK3 _ _ ?_)))))))))
       refine sq fun K11 hK11 => (rg (asg (v := (.int .u64 0)) rfl rfl (asg (v := (.int .i64 0)) rfl rfl (asg (v := (.int .i64 15)) rfl rfl (wl_nil (tN ((hK11 _ _ ?_))))))))
       refine rt (ret3 (v := (.int .u64 0)) (v' := (.int .i64 0)) (v'' := (.int .i64 15)) Try.results18 rfl rfl rfl ?_)
       first
       | exact ⟨by rw [hg, gu_end hk]; rfl, rfl⟩
       | exact ⟨by rw [hg, gu_bad hy hk.2 (by assumption) (by assumption)]; rfl, rfl⟩
       | exact ⟨by rw [hg, gu_zero hy hk.2 q9 (by assumption) (by assumption) (by assumption)]; rfl, rfl⟩
     · refine cmp (a := y) (b := 1) rfl rfl rfl (c_ngt h3) (pkT (v := (.bool false)) rfl rfl rfl (wl_nil (tN ((hK10 _ _ ?_)))))
       refine cdF rfl (sp (tN ((hK9 _ _ ?_))))
       refine sq fun K12 hK12 => (rg ?_)
       have q9 : ¬ ((k : Int) = 9 ∧ y > 1) := by omega
       refine mv (v := (.int .u64 acc)) rfl rfl (mv (v := (.int .u8 y)) rfl rfl (bi (a := y) (b := 127) (e := (y.toNat % 128 : Nat)) rfl rfl rfl (gu_and hi1') (cv (a := (y.toNat % 128 : Nat)) (e := (y.toNat % 128 : Nat)) rfl rfl Try.underlying5 Try.underlying24 (w64u (by omega)) (mv (v := (.int .i64 k)) rfl rfl (ar (a := 7) (b := (k : Int)) (c := 7 * (k : Int)) rfl rfl rfl rfl (w64 (by omega)) (shl (a := (y.toNat % 128 : Nat)) (b := 7 * (k : Int)) (e := (y.toNat % 128 * 128 ^ k : Nat)) rfl rfl rfl (by omega) (gu_shl hk.2 hi1' q9) (bi (a := (acc : Int)) (b := (y.toNat % 128 * 128 ^ k : Nat)) (e := (acc + y.toNat % 128 * 128 ^ k : Nat)) rfl rfl rfl (gu_or hk.2 hi1' q9 ha) ?_)))))))
       refine asg (v := (.int .u64 (acc + y.toNat % 128 * 128 ^ k : Nat))) rfl rfl (wl_nil (tN ((hK12 _ _ ?_))))
       refine sq fun K13 hK13 => (sq fun K14 hK14 => (rg (mv (v := (.int .u8 y)) rfl rfl ?_)))
       by_cases h4 : (y : Int) ≥ (128 : Int)
       · refine cmp (a := y) (b := 128) rfl rfl rfl (c_ge h4) (wl_nil (tN ((hK14 _ _ ?_))))
         refine cdT rfl (xt (tX (bX (tN ((hK7 _ _ ?_))))))
         refine rg (ar (a := (k : Int)) (b := 1) (c := (k : Int) + 1) rfl rfl rfl rfl (w64 (by omega)) (mv (v := (.int .i64 ((k : Int) + 1))) rfl rfl (wl_nil (tN (?_)))))
         exact again ((k + 1), (acc + y.toNat % 128 * 128 ^ k)) ⟨eqI (by first | rfl | omega), rfl, rfl, eqI (by first | rfl | omega), trivial⟩ (⟨rfl, by omega, (gu_next hk.2 hi1' q9 ha).1, by rw [hg, gu_go hy hk.2 q9 h4]⟩) (by show (10 - (k + 1) : Nat) < 10 - k; omega)
       · refine cmp (a := y) (b := 128) rfl rfl rfl (c_nge h4) (wl_nil (tN ((hK14 _ _ ?_))))
         refine cdF rfl (sp (tN ((hK13 _ _ ?_))))
         refine sq fun K15 hK15 => (sq fun K16 hK16 => (rg (mv (v := (.int .u8 y)) rfl rfl ?_)))
         by_cases h5 : (y : Int) = (0 : Int)
         · refine cmp (a := y) (b := 0) rfl rfl rfl (c_eq h5) (mv (v := (.bool true)) rfl rfl (mv (v := (.int .i64 k)) rfl rfl ?_))
           by_cases h6 : ((k : Int) : Int) > (0 : Int)
           · refine cmp (a := (k : Int)) (b := 0) rfl rfl rfl (c_gt h6) (pkT (v := (.bool true)) rfl rfl rfl (wl_nil (tN ((hK16 _ _ ?_)))))
             refine cdT rfl (xt (tX (bXn rfl (tX (tX (bX (tN ((hK3 _ _ ?_)))))))))
             refine sq fun K17 hK17 => (rg (asg (v := (.int .u64 0)) rfl rfl (asg (v := (.int .i64 0)) rfl rfl (asg (v := (.int .i64 15)) rfl rfl (wl_nil (tN ((hK17 _ _ ?_))))))))
             refine rt (ret3 (v := (.int .u64 0)) (v' := (.int .i64 0)) (v'' := (.int .i64 15)) Try.results18 rfl rfl rfl ?_)
             first
             | exact ⟨by rw [hg, gu_end hk]; rfl, rfl⟩
             | exact ⟨by rw [hg, gu_bad hy hk.2 (by assumption) (by assumption)]; rfl, rfl⟩
             | exact ⟨by rw [hg, gu_zero hy hk.2 q9 (by assumption) (by assumption) (by assumption)]; rfl, rfl⟩
           · refine cmp (a := (k : Int)) (b := 0) rfl rfl rfl (c_ngt h6) (pkT (v := (.bool false)) rfl rfl rfl (wl_nil (tN ((hK16 _ _ ?_)))))
             refine cdF rfl (sp (tN ((hK15 _ _ ?_))))
             refine sq fun K18 hK18 => (rg (mv (v := (.int .u64 (acc + y.toNat % 128 * 128 ^ k : Nat))) rfl rfl (mv (v := (.int .i64 k)) rfl rfl (ar (a := (k : Int)) (b := 1) (c := (k : Int) + 1) rfl rfl rfl rfl (w64 (by omega)) (asg (v := (.int .u64 (acc + y.toNat % 128 * 128 ^ k : Nat))) rfl rfl (asg (v := (.int .i64 ((k : Int) + 1))) rfl rfl (asg (v := (.int .i64 0)) rfl rfl ?_)))))))
             refine wl_nil (tN ((hK18 _ _ ?_)))
             refine rt (bR (tR (tR (bR (tR (?_))))))
             refine ret3 (v := (.int .u64 (acc + y.toNat % 128 * 128 ^ k : Nat))) (v' := (.int .i64 ((k : Int) + 1))) (v'' := (.int .i64 0)) Try.results18 rfl rfl rfl ?_
             exact ⟨by rw [hg, gu_ret hy hk.2 q9 (by assumption) (by omega)]; rfl, rfl⟩
         · refine cmp (a := y) (b := 0) rfl rfl rfl (c_neq h5) (mv (v := (.bool false)) rfl rfl (sk rfl (sk rfl (pkF (v := (.bool false)) rfl rfl rfl (wl_nil (tN ((hK16 _ _ ?_))))))))
           refine cdF rfl (sp (tN ((hK15 _ _ ?_))))
           refine sq fun K19 hK19 => (rg (mv (v := (.int .u64 (acc + y.toNat % 128 * 128 ^ k : Nat))) rfl rfl (mv (v := (.int .i64 k)) rfl rfl (ar (a := (k : Int)) (b := 1) (c := (k : Int) + 1) rfl rfl rfl rfl (w64 (by omega)) (asg (v := (.int .u64 (acc + y.toNat % 128 * 128 ^ k : Nat))) rfl rfl (asg (v := (.int .i64 ((k : Int) + 1))) rfl rfl (asg (v := (.int .i64 0)) rfl rfl ?_)))))))
           refine wl_nil (tN ((hK19 _ _ ?_)))
           refine rt (bR (tR (tR (bR (tR (?_))))))
           refine ret3 (v := (.int .u64 (acc + y.toNat % 128 * 128 ^ k : Nat))) (v' := (.int .i64 ((k : Int) + 1))) (v'' := (.int .i64 0)) Try.results18 rfl rfl rfl ?_
           exact ⟨by rw [hg, gu_ret hy hk.2 q9 (by assumption) (by omega)]; rfl, rfl⟩
   · refine cmp (a := (k : Int)) (b := 9) rfl rfl rfl (c_neq h2) (mv (v := (.bool false)) rfl rfl (sk rfl (sk rfl (pkF (v := (.bool false)) rfl rfl rfl (wl_nil (tN ((hK10 _ _ ?_))))))))
     refine cdF rfl (sp (tN ((hK9 _ _ ?_))))
     refine sq fun K20 hK20 => (rg ?_)
     have q9 : ¬ ((k : Int) = 9 ∧ y > 1) := by omega
     refine mv (v := (.int .u64 acc)) rfl rfl (mv (v := (.int .u8 y)) rfl rfl (bi (a := y) (b := 127) (e := (y.toNat % 128 : Nat)) rfl rfl rfl (gu_and hi1') (cv (a := (y.toNat % 128 : Nat)) (e := (y.toNat % 128 : Nat)) rfl rfl Try.underlying5 Try.underlying24 (w64u (by omega)) (mv (v := (.int .i64 k)) rfl rfl (ar (a := 7) (b := (k : Int)) (c := 7 * (k : Int)) rfl rfl rfl rfl (w64 (by omega)) (shl (a := (y.toNat % 128 : Nat)) (b := 7 * (k : Int)) (e := (y.toNat % 128 * 128 ^ k : Nat)) rfl rfl rfl (by omega) (gu_shl hk.2 hi1' q9) (bi (a := (acc : Int)) (b := (y.toNat % 128 * 128 ^ k : Nat)) (e := (acc + y.toNat % 128 * 128 ^ k : Nat)) rfl rfl rfl (gu_or hk.2 hi1' q9 ha) ?_)))))))
     refine asg (v := (.int .u64 (acc + y.toNat % 128 * 128 ^ k : Nat))) rfl rfl (wl_nil (tN ((hK20 _ _ ?_))))
     refine sq fun K21 hK21 => (sq fun K22 hK22 => (rg (mv (v := (.int .u8 y)) rfl rfl ?_)))
     by_cases h7 : (y : Int) ≥ (128 : Int)
     · refine cmp (a := y) (b := 128) rfl rfl rfl (c_ge h7) (wl_nil (tN ((hK22 _ _ ?_))))
       refine cdT rfl (xt (tX (bX (tN ((hK7 _ _ ?_))))))
       refine rg (ar (a := (k : Int)) (b := 1) (c := (k : Int) + 1) rfl rfl rfl rfl (w64 (by omega)) (mv (v := (.int .i64 ((k : Int) + 1))) rfl rfl (wl_nil (tN (?_)))))
       exact again ((k + 1), (acc + y.toNat % 128 * 128 ^ k)) ⟨eqI (by first | rfl | omega), rfl, rfl, eqI (by first | rfl | omega), trivial⟩ (⟨rfl, by omega, (gu_next hk.2 hi1' q9 ha).1, by rw [hg, gu_go hy hk.2 q9 h7]⟩) (by show (10 - (k + 1) : Nat) < 10 - k; omega)
     · refine cmp (a := y) (b := 128) rfl rfl rfl (c_nge h7) (wl_nil (tN ((hK22 _ _ ?_))))
       refine cdF rfl (sp (tN ((hK21 _ _ ?_))))
       refine sq fun K23 hK23 => (sq fun K24 hK24 => (rg (mv (v := (.int .u8 y)) rfl rfl ?_)))
       by_cases h8 : (y : Int) = (0 : Int)
       · refine cmp (a := y) (b := 0) rfl rfl rfl (c_eq h8) (mv (v := (.bool true)) rfl rfl (mv (v := (.int .i64 k)) rfl rfl ?_))
         by_cases h9 : ((k : Int) : Int) > (0 : Int)
         · refine cmp (a := (k : Int)) (b := 0) rfl rfl rfl (c_gt h9) (pkT (v := (.bool true)) rfl rfl rfl (wl_nil (tN ((hK24 _ _ ?_)))))
           refine cdT rfl (xt (tX (bXn rfl (tX (tX (bX (tN ((hK3 _ _ ?_)))))))))
           refine sq fun K25 hK25 => (rg (asg (v := (.int .u64 0)) rfl rfl (asg (v := (.int .i64 0)) rfl rfl (asg (v := (.int .i64 15)) rfl rfl (wl_nil (tN ((hK25 _ _ ?_))))))))
           refine rt (ret3 (v := (.int .u64 0)) (v' := (.int .i64 0)) (v'' := (.int .i64 15)) Try.results18 rfl rfl rfl ?_)
           first
           | exact ⟨by rw [hg, gu_end hk]; rfl, rfl⟩
           | exact ⟨by rw [hg, gu_bad hy hk.2 (by assumption) (by assumption)]; rfl, rfl⟩
           | exact ⟨by rw [hg, gu_zero hy hk.2 q9 (by assumption) (by assumption) (by assumption)]; rfl, rfl⟩
         · refine cmp (a := (k : Int)) (b := 0) rfl rfl rfl (c_ngt h9) (pkT (v := (.bool false)) rfl rfl rfl (wl_nil (tN ((hK24 _ _ ?_)))))
           refine cdF rfl (sp (tN ((hK23 _ _ ?_))))
           refine sq fun K26 hK26 => (rg (mv (v := (.int .u64 (acc + y.toNat % 128 * 128 ^ k : Nat))) rfl rfl (mv (v := (.int .i64 k)) rfl rfl (ar (a := (k : Int)) (b := 1) (c := (k : Int) + 1) rfl rfl rfl rfl (w64 (by omega)) (asg (v := (.int .u64 (acc + y.toNat % 128 * 128 ^ k : Nat))) rfl rfl (asg (v := (.int .i64 ((k : Int) + 1))) rfl rfl (asg (v := (.int .i64 0)) rfl rfl ?_)))))))
           refine wl_nil (tN ((hK26 _ _ ?_)))
           refine rt (bR (tR (tR (bR (tR (?_))))))
           refine ret3 (v := (.int .u64 (acc + y.toNat % 128 * 128 ^ k : Nat))) (v' := (.int .i64 ((k : Int) + 1))) (v'' := (.int .i64 0)) Try.results18 rfl rfl rfl ?_
           exact ⟨by rw [hg, gu_ret hy hk.2 q9 (by assumption) (by omega)]; rfl, rfl⟩
       · refine cmp (a := y) (b := 0) rfl rfl rfl (c_neq h8) (mv (v := (.bool false)) rfl rfl (sk rfl (sk rfl (pkF (v := (.bool false)) rfl rfl rfl (wl_nil (tN ((hK24 _ _ ?_))))))))
         refine cdF rfl (sp (tN ((hK23 _ _ ?_))))
         refine sq fun K27 hK27 => (rg (mv (v := (.int .u64 (acc + y.toNat % 128 * 128 ^ k : Nat))) rfl rfl (mv (v := (.int .i64 k)) rfl rfl (ar (a := (k : Int)) (b := 1) (c := (k : Int) + 1) rfl rfl rfl rfl (w64 (by omega)) (asg (v := (.int .u64 (acc + y.toNat % 128 * 128 ^ k : Nat))) rfl rfl (asg (v := (.int .i64 ((k : Int) + 1))) rfl rfl (asg (v := (.int .i64 0)) rfl rfl ?_)))))))
         refine wl_nil (tN ((hK27 _ _ ?_)))
         refine rt (bR (tR (tR (bR (tR (?_))))))
         refine ret3 (v := (.int .u64 (acc + y.toNat % 128 * 128 ^ k : Nat))) (v' := (.int .i64 ((k : Int) + 1))) (v'' := (.int .i64 0)) Try.results18 rfl rfl rfl ?_
         exact ⟨by rw [hg, gu_ret hy hk.2 q9 (by assumption) (by omega)]; rfl, rfl⟩
 · refine cmp (a := (k : Int)) (b := ((((xs).take (min xs.length 10)).drop 0).length : Int)) rfl rfl rfl (c_nlt h1) ?_
   have hk : ¬ (k < xs.length ∧ k < 10) := by simp at h1; omega
   refine wl_nil (tN ((hK5 _ _ ?_)))
   refine sq fun K28 hK28 => (cdF rfl (xt (tX (tX (bX (tN ((hK3 _ _ ?_))))))))
   refine sq fun K29 hK29 => (rg (asg (v := (.int .u64 0)) rfl rfl (asg (v := (.int .i64 0)) rfl rfl (asg (v := (.int .i64 15)) rfl rfl (wl_nil (tN ((hK29 _ _ ?_))))))))
   refine rt (ret3 (v := (.int .u64 0)) (v' := (.int .i64 0)) (v'' := (.int .i64 15)) Try.results18 rfl rfl rfl ?_)
   first
   | exact ⟨by rw [hg, gu_end hk]; rfl, rfl⟩
   | exact ⟨by rw [hg, gu_bad hy hk.2 (by assumption) (by assumption)]; rfl, rfl⟩
   | exact ⟨by rw [hg, gu_zero hy hk.2 q9 (by assumption) (by assumption) (by assumption)]; rfl, rfl⟩
theorem Sum_ok (v : Value) (xs : List Int) (w : World) (hv : Ints .u8 (fun _ => True) w v xs) :
 CR Try.prog 35 #[v] w (fun r w' => r = .int .u32 (sumS xs : Nat) ∧ w = w') := by
 have hlen := hv.len
 refine enter (vs := [v]) Try.func35 rfl Try.ntmps35 rfl (sq fun K1 hK1 => (rg (asg (v := (.int .u32 0)) rfl rfl (wl_nil (tN ((hK1 _ _ ?_)))))))
 refine sq fun K2 hK2 => (rg (asg (v := (.int .u32 4294967295)) rfl rfl (wl_nil (tN ((hK2 _ _ ?_))))))
 refine sq fun K3 hK3 => (sq fun K4 hK4 => (rg (mv (v := v) rfl rfl (lenI (v := v) rfl rfl Try.underlying22 hv (mv (v := (.int .i64 0)) rfl rfl (wl_nil (tN ((hK4 _ _ ?_)))))))))
 refine bk (lp (α := Nat) (fun k => [(3, (.int .u32 ((crcFold 4294967295 (xs.take k) : Nat) : Int))), (7, v), (8, (.int .i64 (xs.length : Int))), (9, (.int .i64 k))]) (fun k w1 => w = w1 ∧ k ≤ xs.length) (fun k => xs.length - k) 0 ⟨eqI (by first | rfl | omega), rfl, rfl, eqI (by first | rfl | omega), trivial⟩ (⟨rfl, by omega⟩) ?_)
 rintro k s1 w1 ⟨rfl, hk1⟩
 refine sq fun K5 hK5 => (rg ?_)
 by_cases h1 : ((k : Int) : Int) < ((xs.length : Int) : Int)
 · refine cmp (a := (k : Int)) (b := (xs.length : Int)) rfl rfl rfl (c_lt h1) ?_
   have hk : k < xs.length := by omega
   obtain ⟨y, hy⟩ := get_some hk
   have hr : crcFold 4294967295 (xs.take k) < 4294967296 := crcFold_lt _ (fun b hb => hv.in (List.mem_of_mem_take hb)) _ (by decide)
   refine wl_nil (tN ((hK5 _ _ ?_)))
   refine sq fun K6 hK6 => (cdT rfl (sp (tN ((hK6 _ _ ?_)))))
   refine sq fun K7 hK7 => (bk (sq fun K8 hK8 => (rg (ixI (i := (k : Int)) (el := y) rfl rfl rfl Try.underlying22 ti5 hv (by omega) hy ?_))))
   intro b1 o1 hx1 hi1 ho1
   have hi1' := hi1.u8
   refine ld (a := ⟨b1, o1, none⟩) (v := (.int .u8 y)) rfl rfl Try.underlying5 rfl hx1 (asg (v := (.int .u8 y)) rfl rfl (wl_nil (tN ((hK8 _ _ ?_)))))
   refine sq fun K9 hK9 => (rg (mv (v := (.int .u32 ((crcFold 4294967295 (xs.take k) : Nat) : Int))) rfl rfl (mv (v := (.int .u8 y)) rfl rfl (cv (a := y) (e := y) rfl rfl Try.underlying5 Try.underlying65 (w32u (by omega)) (bi (a := ((crcFold 4294967295 (xs.take k) : Nat) : Int)) (b := y) (e := ((crcFold 4294967295 (xs.take k) : Nat) ^^^ y.toNat : Nat)) rfl rfl rfl (crc_mix hr (by omega)) (asg (v := (.int .u32 ((crcFold 4294967295 (xs.take k) : Nat) ^^^ y.toNat : Nat))) rfl rfl (wl_nil ?_)))))))
   refine tN ((hK9 _ _ ?_))
   refine sq fun K10 hK10 => (rg (mv (v := (.int .i64 0)) rfl rfl (wl_nil (tN ((hK10 _ _ ?_))))))
   refine bk (lp (α := Nat) (fun j => [(3, (.int .u32 (crcIt j ((crcFold 4294967295 (xs.take k) : Nat) ^^^ y.toNat) : Nat))), (7, v), (8, (.int .i64 (xs.length : Int))), (9, (.int .i64 k)), (17, (.int .i64 j))]) (fun j w1 => w = w1 ∧ j ≤ 8) (fun j => 8 - j) 0 ⟨eqI (by first | rfl | omega), rfl, rfl, rfl, eqI (by first | rfl | omega), trivial⟩ (⟨rfl, by omega⟩) ?_)
   rintro j s2 w2 ⟨rfl, hj1⟩
   have hj := crcIt_lt (xor_lt (n := 32) hr (show y.toNat < 2 ^ 32 by omega)) j
   have hjn := crcBit_lt hj
   refine sq fun K11 hK11 => (rg ?_)
   by_cases h2 : ((j : Int) : Int) < (8 : Int)
   · refine cmp (a := (j : Int)) (b := 8) rfl rfl rfl (c_lt h2) (wl_nil (tN ((hK11 _ _ ?_))))
     refine sq fun K12 hK12 => (cdT rfl (sp (tN ((hK12 _ _ ?_)))))
     refine sq fun K13 hK13 => (bk (sq fun K14 hK14 => (rg (mv (v := (.int .u32 (crcIt j ((crcFold 4294967295 (xs.take k) : Nat) ^^^ y.toNat) : Nat))) rfl rfl (bi (a := (crcIt j ((crcFold 4294967295 (xs.take k) : Nat) ^^^ y.toNat) : Nat)) (b := 1) (e := (crcIt j ((crcFold 4294967295 (xs.take k) : Nat) ^^^ y.toNat) % 2 : Nat)) rfl rfl rfl (crc_low hj) (asg (v := (.int .u32 (crcIt j ((crcFold 4294967295 (xs.take k) : Nat) ^^^ y.toNat) % 2 : Nat))) rfl rfl (wl_nil ?_)))))))
     refine tN ((hK14 _ _ ?_))
     refine rg (mv (v := (.int .u32 (crcIt j ((crcFold 4294967295 (xs.take k) : Nat) ^^^ y.toNat) : Nat))) rfl rfl (shr (a := (crcIt j ((crcFold 4294967295 (xs.take k) : Nat) ^^^ y.toNat) : Nat)) (b := 1) (e := (crcIt j ((crcFold 4294967295 (xs.take k) : Nat) ^^^ y.toNat) / 2 : Nat)) rfl rfl rfl (by decide) (crc_half _) (mv (v := (.int .u32 (crcIt j ((crcFold 4294967295 (xs.take k) : Nat) ^^^ y.toNat) % 2 : Nat))) rfl rfl (neg (a := (crcIt j ((crcFold 4294967295 (xs.take k) : Nat) ^^^ y.toNat) % 2 : Nat)) (e := ((if crcIt j ((crcFold 4294967295 (xs.take k) : Nat) ^^^ y.toNat) % 2 = 1 then 4294967295 else 0 : Nat) : Int)) rfl rfl (crc_neg _) (bi (a := 3988292384) (b := ((if crcIt j ((crcFold 4294967295 (xs.take k) : Nat) ^^^ y.toNat) % 2 = 1 then 4294967295 else 0 : Nat) : Int)) (e := ((if crcIt j ((crcFold 4294967295 (xs.take k) : Nat) ^^^ y.toNat) % 2 = 1 then 3988292384 else 0 : Nat) : Int)) rfl rfl rfl (crc_and _) (bi (a := (crcIt j ((crcFold 4294967295 (xs.take k) : Nat) ^^^ y.toNat) / 2 : Nat)) (b := ((if crcIt j ((crcFold 4294967295 (xs.take k) : Nat) ^^^ y.toNat) % 2 = 1 then 3988292384 else 0 : Nat) : Int)) (e := (crcBit (crcIt j ((crcFold 4294967295 (xs.take k) : Nat) ^^^ y.toNat)) : Nat)) rfl rfl rfl (crc_xor hj) (asg (v := (.int .u32 (crcBit (crcIt j ((crcFold 4294967295 (xs.take k) : Nat) ^^^ y.toNat)) : Nat))) rfl rfl ?_)))))))
     refine wl_nil (bN (tN ((hK13 _ _ ?_))))
     refine rg (ar (a := (j : Int)) (b := 1) (c := (j : Int) + 1) rfl rfl rfl rfl (w64 (by omega)) (mv (v := (.int .i64 ((j : Int) + 1))) rfl rfl (wl_nil (tN (?_)))))
     exact again (j + 1) ⟨rfl, rfl, rfl, rfl, eqI (by first | rfl | omega), trivial⟩ (⟨rfl, by omega⟩) (by show (8 - (j + 1) : Nat) < 8 - j; omega)
   · refine cmp (a := (j : Int)) (b := 8) rfl rfl rfl (c_nlt h2) (wl_nil (tN ((hK11 _ _ ?_))))
     refine sq fun K15 hK15 => (cdF rfl (xt (tX (tX (bX (bN (tN ((hK7 _ _ ?_)))))))))
     refine rg (ar (a := (k : Int)) (b := 1) (c := (k : Int) + 1) rfl rfl rfl rfl (w64 (by omega)) (mv (v := (.int .i64 ((k : Int) + 1))) rfl rfl (wl_nil (tN (?_)))))
     obtain rfl : j = 8 := by omega
     exact again (k + 1) ⟨eqI (congrArg _ (crc_step' hy 4294967295).symm), rfl, rfl, eqI (by first | rfl | omega), trivial⟩ (⟨rfl, by omega⟩) (by show (xs.length - (k + 1) : Nat) < xs.length - k; omega)
 · refine cmp (a := (k : Int)) (b := (xs.length : Int)) rfl rfl rfl (c_nlt h1) ?_
   have hr : crcFold 4294967295 (xs.take k) < 4294967296 := crcFold_lt _ (fun b hb => hv.in (List.mem_of_mem_take hb)) _ (by decide)
   refine wl_nil (tN ((hK5 _ _ ?_)))
   refine sq fun K16 hK16 => (cdF rfl (xt (tX (tX (bX (tN ((hK3 _ _ ?_))))))))
   refine sq fun K17 hK17 => (rg (mv (v := (.int .u32 ((crcFold 4294967295 (xs.take k) : Nat) : Int))) rfl rfl (cpl (a := ((crcFold 4294967295 (xs.take k) : Nat) : Int)) (e := (sumS xs : Nat)) rfl rfl (by rw [crc_end hr, List.take_of_length_le (by omega)]; rfl) (asg (v := (.int .u32 (sumS xs : Nat))) rfl rfl (wl_nil (tN ((hK17 _ _ ?_))))))))
   refine rt (ret1 (v := (.int .u32 (sumS xs : Nat))) Try.results35 rfl ?_)
   exact ⟨rfl, rfl⟩
theorem rSum_ok (v : Value) (xs : List Int) (w : World) (hv : Ints .u8 (fun _ => True) w v xs) :
 CR Try.prog 39 #[v] w (fun r w' => r = .int .u32 (sumS xs : Nat) ∧ w = w') := by
 have hlen := hv.len
 refine enter (vs := [v]) Try.func39 rfl Try.ntmps39 rfl (sq fun K1 hK1 => (rg (asg (v := (.int .u32 0)) rfl rfl (wl_nil (tN ((hK1 _ _ ?_)))))))
 refine sq fun K2 hK2 => (rg (asg (v := (.int .u32 4294967295)) rfl rfl (wl_nil (tN ((hK2 _ _ ?_))))))
 refine sq fun K3 hK3 => (sq fun K4 hK4 => (rg (asg (v := (.int .i64 0)) rfl rfl (wl_nil (tN ((hK4 _ _ ?_)))))))
 refine bk (lp (α := Nat) (fun k => [(0, v), (3, (.int .u32 ((crcFold 4294967295 (xs.take k) : Nat) : Int))), (4, (.int .i64 k))]) (fun k w1 => w = w1 ∧ k ≤ xs.length) (fun k => xs.length - k) 0 ⟨rfl, eqI (by first | rfl | omega), eqI (by first | rfl | omega), trivial⟩ (⟨rfl, by omega⟩) ?_)
 rintro k s1 w1 ⟨rfl, hk1⟩
 refine sq fun K5 hK5 => (sq fun K6 hK6 => (rg (mv (v := (.int .i64 k)) rfl rfl (mv (v := v) rfl rfl (lenI (v := v) rfl rfl Try.underlying22 hv ?_)))))
 by_cases h1 : ((k : Int) : Int) < ((xs.length : Int) : Int)
 · refine cmp (a := (k : Int)) (b := (xs.length : Int)) rfl rfl rfl (c_lt h1) ?_
   have hk : k < xs.length := by omega
   obtain ⟨y, hy⟩ := get_some hk
   have hr : crcFold 4294967295 (xs.take k) < 4294967296 := crcFold_lt _ (fun b hb => hv.in (List.mem_of_mem_take hb)) _ (by decide)
   refine wl_nil (tN ((hK6 _ _ ?_)))
   refine cdT rfl (sp (tN ((hK5 _ _ ?_))))
   refine sq fun K7 hK7 => (bk (sq fun K8 hK8 => (rg (mv (v := (.int .u32 ((crcFold 4294967295 (xs.take k) : Nat) : Int))) rfl rfl (mv (v := v) rfl rfl (mv (v := (.int .i64 k)) rfl rfl (ixI (i := (k : Int)) (el := y) rfl rfl rfl Try.underlying22 ti5 hv (by omega) hy ?_)))))))
   intro b1 o1 hx1 hi1 ho1
   have hi1' := hi1.u8
   refine ld (a := ⟨b1, o1, none⟩) (v := (.int .u8 y)) rfl rfl Try.underlying5 rfl hx1 (cv (a := y) (e := y) rfl rfl Try.underlying5 Try.underlying65 (w32u (by omega)) (bi (a := ((crcFold 4294967295 (xs.take k) : Nat) : Int)) (b := y) (e := ((crcFold 4294967295 (xs.take k) : Nat) ^^^ y.toNat : Nat)) rfl rfl rfl (crc_mix hr (by omega)) (asg (v := (.int .u32 ((crcFold 4294967295 (xs.take k) : Nat) ^^^ y.toNat : Nat))) rfl rfl (wl_nil (tN ((hK8 _ _ ?_)))))))
   refine sq fun K9 hK9 => (rg (asg (v := (.int .i64 0)) rfl rfl (wl_nil (tN ((hK9 _ _ ?_))))))
   refine bk (lp (α := Nat) (fun j => [(0, v), (3, (.int .u32 (crcIt j ((crcFold 4294967295 (xs.take k) : Nat) ^^^ y.toNat) : Nat))), (4, (.int .i64 k)), (5, (.int .i64 j))]) (fun j w1 => w = w1 ∧ j ≤ 8) (fun j => 8 - j) 0 ⟨rfl, eqI (by first | rfl | omega), rfl, eqI (by first | rfl | omega), trivial⟩ (⟨rfl, by omega⟩) ?_)
   rintro j s2 w2 ⟨rfl, hj1⟩
   have hj := crcIt_lt (xor_lt (n := 32) hr (show y.toNat < 2 ^ 32 by omega)) j
   have hjn := crcBit_lt hj
   refine sq fun K10 hK10 => (sq fun K11 hK11 => (rg (mv (v := (.int .i64 j)) rfl rfl ?_)))
   by_cases h2 : ((j : Int) : Int) < (8 : Int)
   · refine cmp (a := (j : Int)) (b := 8) rfl rfl rfl (c_lt h2) (wl_nil (tN ((hK11 _ _ ?_))))
     refine cdT rfl (sp (tN ((hK10 _ _ ?_))))
     refine sq fun K12 hK12 => (bk (sq fun K13 hK13 => (rg (mv (v := (.int .u32 (crcIt j ((crcFold 4294967295 (xs.take k) : Nat) ^^^ y.toNat) : Nat))) rfl rfl (rem (a := (crcIt j ((crcFold 4294967295 (xs.take k) : Nat) ^^^ y.toNat) : Nat)) (b := 2) (e := (crcIt j ((crcFold 4294967295 (xs.take k) : Nat) ^^^ y.toNat) % 2 : Nat)) rfl rfl rfl (by decide) (crc_rem _) (asg (v := (.int .u32 (crcIt j ((crcFold 4294967295 (xs.take k) : Nat) ^^^ y.toNat) % 2 : Nat))) rfl rfl (wl_nil ?_)))))))
     refine tN ((hK13 _ _ ?_))
     refine sq fun K14 hK14 => (rg (mv (v := (.int .u32 (crcIt j ((crcFold 4294967295 (xs.take k) : Nat) ^^^ y.toNat) : Nat))) rfl rfl (quo (a := (crcIt j ((crcFold 4294967295 (xs.take k) : Nat) ^^^ y.toNat) : Nat)) (b := 2) (e := (crcIt j ((crcFold 4294967295 (xs.take k) : Nat) ^^^ y.toNat) / 2 : Nat)) rfl rfl rfl (by decide) (crc_quo hj) (asg (v := (.int .u32 (crcIt j ((crcFold 4294967295 (xs.take k) : Nat) ^^^ y.toNat) / 2 : Nat))) rfl rfl (wl_nil (tN ((hK14 _ _ ?_))))))))
     refine sq fun K15 hK15 => (rg (mv (v := (.int .u32 (crcIt j ((crcFold 4294967295 (xs.take k) : Nat) ^^^ y.toNat) % 2 : Nat))) rfl rfl ?_))
     by_cases h3 : ((crcIt j ((crcFold 4294967295 (xs.take k) : Nat) ^^^ y.toNat) % 2 : Nat) : Int) = (1 : Int)
     · refine cmp (a := (crcIt j ((crcFold 4294967295 (xs.take k) : Nat) ^^^ y.toNat) % 2 : Nat)) (b := 1) rfl rfl rfl (c_eq h3) (wl_nil (tN ((hK15 _ _ ?_))))
       refine cdT rfl (rg (mv (v := (.int .u32 (crcIt j ((crcFold 4294967295 (xs.take k) : Nat) ^^^ y.toNat) / 2 : Nat))) rfl rfl (bi (a := (crcIt j ((crcFold 4294967295 (xs.take k) : Nat) ^^^ y.toNat) / 2 : Nat)) (b := 3988292384) (e := (crcIt j ((crcFold 4294967295 (xs.take k) : Nat) ^^^ y.toNat) / 2 ^^^ 3988292384 : Nat)) rfl rfl rfl (x32 (by omega) (by decide)) (asg (v := (.int .u32 (crcIt j ((crcFold 4294967295 (xs.take k) : Nat) ^^^ y.toNat) / 2 ^^^ 3988292384 : Nat))) rfl rfl (wl_nil (bN (tN ((hK12 _ _ ?_)))))))))
       refine rg (mv (v := (.int .i64 j)) rfl rfl (ar (a := (j : Int)) (b := 1) (c := (j : Int) + 1) rfl rfl rfl rfl (w64 (by omega)) (asg (v := (.int .i64 ((j : Int) + 1))) rfl rfl (wl_nil (tN (?_))))))
       exact again (j + 1) ⟨rfl, eqI (crc_odd (by omega)), rfl, eqI (by first | rfl | omega), trivial⟩ (⟨rfl, by omega⟩) (by show (8 - (j + 1) : Nat) < 8 - j; omega)
     · refine cmp (a := (crcIt j ((crcFold 4294967295 (xs.take k) : Nat) ^^^ y.toNat) % 2 : Nat)) (b := 1) rfl rfl rfl (c_neq h3) (wl_nil (tN ((hK15 _ _ ?_))))
       refine cdF rfl (sp (bN (tN ((hK12 _ _ ?_)))))
       refine rg (mv (v := (.int .i64 j)) rfl rfl (ar (a := (j : Int)) (b := 1) (c := (j : Int) + 1) rfl rfl rfl rfl (w64 (by omega)) (asg (v := (.int .i64 ((j : Int) + 1))) rfl rfl (wl_nil (tN (?_))))))
       exact again (j + 1) ⟨rfl, eqI (crc_even (by omega)), rfl, eqI (by first | rfl | omega), trivial⟩ (⟨rfl, by omega⟩) (by show (8 - (j + 1) : Nat) < 8 - j; omega)
   · refine cmp (a := (j : Int)) (b := 8) rfl rfl rfl (c_nlt h2) (wl_nil (tN ((hK11 _ _ ?_))))
     refine cdF rfl (xt (tX (tX (bX (bN (tN ((hK7 _ _ ?_))))))))
     refine rg (mv (v := (.int .i64 k)) rfl rfl (ar (a := (k : Int)) (b := 1) (c := (k : Int) + 1) rfl rfl rfl rfl (w64 (by omega)) (asg (v := (.int .i64 ((k : Int) + 1))) rfl rfl (wl_nil (tN (?_))))))
     obtain rfl : j = 8 := by omega
     exact again (k + 1) ⟨rfl, eqI (congrArg _ (crc_step' hy 4294967295).symm), eqI (by first | rfl | omega), trivial⟩ (⟨rfl, by omega⟩) (by show (xs.length - (k + 1) : Nat) < xs.length - k; omega)
 · refine cmp (a := (k : Int)) (b := (xs.length : Int)) rfl rfl rfl (c_nlt h1) ?_
   have hr : crcFold 4294967295 (xs.take k) < 4294967296 := crcFold_lt _ (fun b hb => hv.in (List.mem_of_mem_take hb)) _ (by decide)
   refine wl_nil (tN ((hK6 _ _ ?_)))
   refine cdF rfl (xt (tX (tX (bX (tN ((hK3 _ _ ?_)))))))
   refine sq fun K16 hK16 => (rg (mv (v := (.int .u32 ((crcFold 4294967295 (xs.take k) : Nat) : Int))) rfl rfl (bi (a := ((crcFold 4294967295 (xs.take k) : Nat) : Int)) (b := 4294967295) (e := (sumS xs : Nat)) rfl rfl rfl (by rw [crc_end' hr, List.take_of_length_le (by omega)]; rfl) (asg (v := (.int .u32 (sumS xs : Nat))) rfl rfl (wl_nil (tN ((hK16 _ _ ?_))))))))
   refine rt (ret1 (v := (.int .u32 (sumS xs : Nat))) Try.results39 rfl ?_)
   exact ⟨rfl, rfl⟩
theorem rGetUint_ok (v : Value) (xs : List Int) (w : World) (hv : Ints .u8 (fun _ => True) w v xs) :
 CR Try.prog 47 #[v] w (fun r w' => r = getUV (getU xs) ∧ w = w') := by
 have hlen := hv.len
 refine enter (vs := [v]) Try.func47 rfl Try.ntmps47 rfl (sq fun K1 hK1 => (rg (asg (v := (.int .u64 0)) rfl rfl (asg (v := (.int .i64 0)) rfl rfl (asg (v := (.int .i64 0)) rfl rfl (wl_nil (tN ((hK1 _ _ ?_)))))))))
 refine sq fun K2 hK2 => (rg (asg (v := (.int .u64 0)) rfl rfl (wl_nil (tN ((hK2 _ _ ?_))))))
 refine sq fun K3 hK3 => (rg (asg (v := (.int .u64 1)) rfl rfl (wl_nil (tN ((hK3 _ _ ?_))))))
 refine sq fun K4 hK4 => (sq fun K5 hK5 => (rg (asg (v := (.int .i64 0)) rfl rfl (wl_nil (tN ((hK5 _ _ ?_)))))))
 refine bk (lp (α := Nat × Nat) (fun (k, acc) => [(0, v), (5, (.int .u64 acc)), (6, (.int .u64 (128 ^ k % 18446744073709551616 : Nat))), (7, (.int .i64 k))]) (fun (k, acc) w1 => w = w1 ∧ k ≤ xs.length ∧ k ≤ 10 ∧ acc < 128 ^ k ∧ getU xs = getUf k acc (xs.drop k)) (fun (k, acc) => 10 - k) (0, 0) ⟨rfl, eqI (by first | rfl | omega), eqI (by first | rfl | omega), eqI (by first | rfl | omega), trivial⟩ (⟨rfl, by omega, by omega, by decide, rfl⟩) ?_)
 rintro ⟨k, acc⟩ s1 w1 ⟨rfl, hk1, hk3, ha, hg⟩
 refine sq fun K6 hK6 => (sq fun K7 hK7 => (rg (mv (v := (.int .i64 k)) rfl rfl (mv (v := v) rfl rfl (lenI (v := v) rfl rfl Try.underlying22 hv ?_)))))
 by_cases h1 : ((k : Int) : Int) < ((xs.length : Int) : Int)
 · refine cmp (a := (k : Int)) (b := (xs.length : Int)) rfl rfl rfl (c_lt h1) (mv (v := (.bool true)) rfl rfl (mv (v := (.int .i64 k)) rfl rfl ?_))
   by_cases h2 : ((k : Int) : Int) < (10 : Int)
   · refine cmp (a := (k : Int)) (b := 10) rfl rfl rfl (c_lt h2) (pkT (v := (.bool true)) rfl rfl rfl (wl_nil (tN ((hK7 _ _ ?_)))))
     refine cdT rfl (sp (tN ((hK6 _ _ ?_))))
     refine sq fun K8 hK8 => (bk (sq fun K9 hK9 => (rg ?_)))
     have hk : k < xs.length ∧ k < 10 := by omega
     obtain ⟨y, hy⟩ := get_some hk.1
     refine mv (v := v) rfl rfl (mv (v := (.int .i64 k)) rfl rfl (ixI (i := (k : Int)) (el := y) rfl rfl rfl Try.underlying22 ti5 hv (by omega) hy ?_))
     intro b1 o1 hx1 hi1 ho1
     have hi1' := hi1.u8
     refine ld (a := ⟨b1, o1, none⟩) (v := (.int .u8 y)) rfl rfl Try.underlying5 rfl hx1 (asg (v := (.int .u8 y)) rfl rfl (wl_nil (tN ((hK9 _ _ ?_)))))
     refine sq fun K10 hK10 => (sq fun K11 hK11 => (rg (mv (v := (.int .i64 k)) rfl rfl ?_)))
     by_cases h3 : ((k : Int) : Int) = (9 : Int)
     · refine cmp (a := (k : Int)) (b := 9) rfl rfl rfl (c_eq h3) (mv (v := (.bool true)) rfl rfl (mv (v := (.int .u8 y)) rfl rfl ?_))
       by_cases h4 : (y : Int) > (1 : Int)
       · refine cmp (a := y) (b := 1) rfl rfl rfl (c_gt h4) (pkT (v := (.bool true)) rfl rfl rfl (wl_nil (tN ((hK11 _ _ ?_)))))
         refine cdT rfl (sq fun K12 hK12 => (rg (asg (v := (.int .u64 0)) rfl rfl (asg (v := (.int .i64 0)) rfl rfl (asg (v := (.int .i64 15)) rfl rfl (wl_nil (tN ((hK12 _ _ ?_)))))))))
         refine rt (tR (bR (tR (tR (bR (tR (?_)))))))
         refine ret3 (v := (.int .u64 0)) (v' := (.int .i64 0)) (v'' := (.int .i64 15)) Try.results47 rfl rfl rfl ?_
         exact ⟨by rw [hg, gu_bad hy hk.2 (by assumption) (by assumption)]; rfl, rfl⟩
       · refine cmp (a := y) (b := 1) rfl rfl rfl (c_ngt h4) (pkT (v := (.bool false)) rfl rfl rfl (wl_nil (tN ((hK11 _ _ ?_)))))
         refine cdF rfl (sp (tN ((hK10 _ _ ?_))))
         refine sq fun K13 hK13 => (rg ?_)
         have q9 : ¬ ((k : Int) = 9 ∧ y > 1) := by omega
         refine mv (v := (.int .u64 acc)) rfl rfl (mv (v := (.int .u8 y)) rfl rfl (rem (a := y) (b := 128) (e := (y.toNat % 128 : Nat)) rfl rfl rfl (by decide) (gu_rem hi1') (cv (a := (y.toNat % 128 : Nat)) (e := (y.toNat % 128 : Nat)) rfl rfl Try.underlying5 Try.underlying24 (w64u (by omega)) (mv (v := (.int .u64 (128 ^ k % 18446744073709551616 : Nat))) rfl rfl (ar (a := (y.toNat % 128 : Nat)) (b := (128 ^ k % 18446744073709551616 : Nat)) (c := (y.toNat % 128 : Nat) * (128 ^ k % 18446744073709551616 : Nat)) (e := (y.toNat % 128 * 128 ^ k : Nat)) rfl rfl rfl rfl (by rw [unit_eq (by omega)]; exact gu_mul hk.2 hi1' q9) (ar (a := (acc : Int)) (b := (y.toNat % 128 * 128 ^ k : Nat)) (c := (acc : Int) + (y.toNat % 128 * 128 ^ k : Nat)) (e := (acc + y.toNat % 128 * 128 ^ k : Nat)) rfl rfl rfl rfl (by have := gu_next hk.2 hi1' q9 ha; rw [← Int.natCast_add]; exact w64u (by omega)) (asg (v := (.int .u64 (acc + y.toNat % 128 * 128 ^ k : Nat))) rfl rfl ?_)))))))
         refine wl_nil (tN ((hK13 _ _ ?_)))
         refine sq fun K14 hK14 => (rg (mv (v := (.int .u64 (128 ^ k % 18446744073709551616 : Nat))) rfl rfl (ar (a := (128 ^ k % 18446744073709551616 : Nat)) (b := 128) (c := (128 ^ k % 18446744073709551616 : Nat) * 128) (e := (128 ^ (k + 1) % 18446744073709551616 : Nat)) rfl rfl rfl rfl (by rw [unit_eq (by omega)]; exact gu_unit hk.2) (asg (v := (.int .u64 (128 ^ (k + 1) % 18446744073709551616 : Nat))) rfl rfl (wl_nil (tN ((hK14 _ _ ?_))))))))
         refine sq fun K15 hK15 => (rg (mv (v := (.int .u8 y)) rfl rfl ?_))
         by_cases h5 : (y : Int) < (128 : Int)
         · refine cmp (a := y) (b := 128) rfl rfl rfl (c_lt h5) (wl_nil (tN ((hK15 _ _ ?_))))
           refine cdT rfl (sq fun K16 hK16 => (sq fun K17 hK17 => (rg (mv (v := (.int .u8 y)) rfl rfl ?_))))
           by_cases h6 : (y : Int) = (0 : Int)
           · refine cmp (a := y) (b := 0) rfl rfl rfl (c_eq h6) (mv (v := (.bool true)) rfl rfl (mv (v := (.int .i64 k)) rfl rfl ?_))
             by_cases h7 : ((k : Int) : Int) > (0 : Int)
             · refine cmp (a := (k : Int)) (b := 0) rfl rfl rfl (c_gt h7) (pkT (v := (.bool true)) rfl rfl rfl (wl_nil (tN ((hK17 _ _ ?_)))))
               refine cdT rfl (sq fun K18 hK18 => (rg (asg (v := (.int .u64 0)) rfl rfl (asg (v := (.int .i64 0)) rfl rfl (asg (v := (.int .i64 15)) rfl rfl (wl_nil (tN ((hK18 _ _ ?_)))))))))
               refine rt (tR (bR (tR (tR (bR (tR (?_)))))))
               refine ret3 (v := (.int .u64 0)) (v' := (.int .i64 0)) (v'' := (.int .i64 15)) Try.results47 rfl rfl rfl ?_
               exact ⟨by rw [hg, gu_zero hy hk.2 q9 (by omega) (by assumption) (by assumption)]; rfl, rfl⟩
             · refine cmp (a := (k : Int)) (b := 0) rfl rfl rfl (c_ngt h7) (pkT (v := (.bool false)) rfl rfl rfl (wl_nil (tN ((hK17 _ _ ?_)))))
               refine cdF rfl (sp (tN ((hK16 _ _ ?_))))
               refine sq fun K19 hK19 => (rg (mv (v := (.int .u64 (acc + y.toNat % 128 * 128 ^ k : Nat))) rfl rfl (mv (v := (.int .i64 k)) rfl rfl (ar (a := (k : Int)) (b := 1) (c := (k : Int) + 1) rfl rfl rfl rfl (w64 (by omega)) (asg (v := (.int .u64 (acc + y.toNat % 128 * 128 ^ k : Nat))) rfl rfl (asg (v := (.int .i64 ((k : Int) + 1))) rfl rfl (asg (v := (.int .i64 0)) rfl rfl ?_)))))))
               refine wl_nil (tN ((hK19 _ _ ?_)))
               refine rt (bR (tR (tR (bR (tR (?_))))))
               refine ret3 (v := (.int .u64 (acc + y.toNat % 128 * 128 ^ k : Nat))) (v' := (.int .i64 ((k : Int) + 1))) (v'' := (.int .i64 0)) Try.results47 rfl rfl rfl ?_
               exact ⟨by rw [hg, gu_ret hy hk.2 q9 (by omega) (by omega)]; rfl, rfl⟩
           · refine cmp (a := y) (b := 0) rfl rfl rfl (c_neq h6) (mv (v := (.bool false)) rfl rfl (sk rfl (sk rfl (pkF (v := (.bool false)) rfl rfl rfl (wl_nil (tN ((hK17 _ _ ?_))))))))
             refine cdF rfl (sp (tN ((hK16 _ _ ?_))))
             refine sq fun K20 hK20 => (rg (mv (v := (.int .u64 (acc + y.toNat % 128 * 128 ^ k : Nat))) rfl rfl (mv (v := (.int .i64 k)) rfl rfl (ar (a := (k : Int)) (b := 1) (c := (k : Int) + 1) rfl rfl rfl rfl (w64 (by omega)) (asg (v := (.int .u64 (acc + y.toNat % 128 * 128 ^ k : Nat))) rfl rfl (asg (v := (.int .i64 ((k : Int) + 1))) rfl rfl (asg (v := (.int .i64 0)) rfl rfl ?_)))))))
             refine wl_nil (tN ((hK20 _ _ ?_)))
             refine rt (bR (tR (tR (bR (tR (?_))))))
             refine ret3 (v := (.int .u64 (acc + y.toNat % 128 * 128 ^ k : Nat))) (v' := (.int .i64 ((k : Int) + 1))) (v'' := (.int .i64 0)) Try.results47 rfl rfl rfl ?_
             exact ⟨by rw [hg, gu_ret hy hk.2 q9 (by omega) (by omega)]; rfl, rfl⟩
         · refine cmp (a := y) (b := 128) rfl rfl rfl (c_nlt h5) (wl_nil (tN ((hK15 _ _ ?_))))
           refine cdF rfl (sp (bN (tN ((hK8 _ _ ?_)))))
           refine rg (mv (v := (.int .i64 k)) rfl rfl (ar (a := (k : Int)) (b := 1) (c := (k : Int) + 1) rfl rfl rfl rfl (w64 (by omega)) (asg (v := (.int .i64 ((k : Int) + 1))) rfl rfl (wl_nil (tN (?_))))))
           exact again ((k + 1), (acc + y.toNat % 128 * 128 ^ k)) ⟨rfl, eqI (by first | rfl | omega), rfl, eqI (by first | rfl | omega), trivial⟩ (⟨rfl, by omega, by omega, (gu_next hk.2 hi1' q9 ha).1, by rw [hg, gu_go hy hk.2 q9 (by omega)]⟩) (by show (10 - (k + 1) : Nat) < 10 - k; omega)
     · refine cmp (a := (k : Int)) (b := 9) rfl rfl rfl (c_neq h3) (mv (v := (.bool false)) rfl rfl (sk rfl (sk rfl (pkF (v := (.bool false)) rfl rfl rfl (wl_nil (tN ((hK11 _ _ ?_))))))))
       refine cdF rfl (sp (tN ((hK10 _ _ ?_))))
       refine sq fun K21 hK21 => (rg ?_)
       have q9 : ¬ ((k : Int) = 9 ∧ y > 1) := by omega
       refine mv (v := (.int .u64 acc)) rfl rfl (mv (v := (.int .u8 y)) rfl rfl (rem (a := y) (b := 128) (e := (y.toNat % 128 : Nat)) rfl rfl rfl (by decide) (gu_rem hi1') (cv (a := (y.toNat % 128 : Nat)) (e := (y.toNat % 128 : Nat)) rfl rfl Try.underlying5 Try.underlying24 (w64u (by omega)) (mv (v := (.int .u64 (128 ^ k % 18446744073709551616 : Nat))) rfl rfl (ar (a := (y.toNat % 128 : Nat)) (b := (128 ^ k % 18446744073709551616 : Nat)) (c := (y.toNat % 128 : Nat) * (128 ^ k % 18446744073709551616 : Nat)) (e := (y.toNat % 128 * 128 ^ k : Nat)) rfl rfl rfl rfl (by rw [unit_eq (by omega)]; exact gu_mul hk.2 hi1' q9) (ar (a := (acc : Int)) (b := (y.toNat % 128 * 128 ^ k : Nat)) (c := (acc : Int) + (y.toNat % 128 * 128 ^ k : Nat)) (e := (acc + y.toNat % 128 * 128 ^ k : Nat)) rfl rfl rfl rfl (by have := gu_next hk.2 hi1' q9 ha; rw [← Int.natCast_add]; exact w64u (by omega)) (asg (v := (.int .u64 (acc + y.toNat % 128 * 128 ^ k : Nat))) rfl rfl ?_)))))))
       refine wl_nil (tN ((hK21 _ _ ?_)))
       refine sq fun K22 hK22 => (rg (mv (v := (.int .u64 (128 ^ k % 18446744073709551616 : Nat))) rfl rfl (ar (a := (128 ^ k % 18446744073709551616 : Nat)) (b := 128) (c := (128 ^ k % 18446744073709551616 : Nat) * 128) (e := (128 ^ (k + 1) % 18446744073709551616 : Nat)) rfl rfl rfl rfl (by rw [unit_eq (by omega)]; exact gu_unit hk.2) (asg (v := (.int .u64 (128 ^ (k + 1) % 18446744073709551616 : Nat))) rfl rfl (wl_nil (tN ((hK22 _ _ ?_))))))))
       refine sq fun K23 hK23 => (rg (mv (v := (.int .u8 y)) rfl rfl ?_))
       by_cases h8 : (y : Int) < (128 : Int)
       · refine cmp (a := y) (b := 128) rfl rfl rfl (c_lt h8) (wl_nil (tN ((hK23 _ _ ?_))))
         refine cdT rfl (sq fun K24 hK24 => (sq fun K25 hK25 => (rg (mv (v := (.int .u8 y)) rfl rfl ?_))))
         by_cases h9 : (y : Int) = (0 : Int)
         · refine cmp (a := y) (b := 0) rfl rfl rfl (c_eq h9) (mv (v := (.bool true)) rfl rfl (mv (v := (.int .i64 k)) rfl rfl ?_))
           by_cases h10 : ((k : Int) : Int) > (0 : Int)
           · refine cmp (a := (k : Int)) (b := 0) rfl rfl rfl (c_gt h10) (pkT (v := (.bool true)) rfl rfl rfl (wl_nil (tN ((hK25 _ _ ?_)))))
             refine cdT rfl (sq fun K26 hK26 => (rg (asg (v := (.int .u64 0)) rfl rfl (asg (v := (.int .i64 0)) rfl rfl (asg (v := (.int .i64 15)) rfl rfl (wl_nil (tN ((hK26 _ _ ?_)))))))))
             refine rt (tR (bR (tR (tR (bR (tR (?_)))))))
             refine ret3 (v := (.int .u64 0)) (v' := (.int .i64 0)) (v'' := (.int .i64 15)) Try.results47 rfl rfl rfl ?_
             exact ⟨by rw [hg, gu_zero hy hk.2 q9 (by omega) (by assumption) (by assumption)]; rfl, rfl⟩
           · refine cmp (a := (k : Int)) (b := 0) rfl rfl rfl (c_ngt h10) (pkT (v := (.bool false)) rfl rfl rfl (wl_nil (tN ((hK25 _ _ ?_)))))
             refine cdF rfl (sp (tN ((hK24 _ _ ?_))))
             refine sq fun K27 hK27 => (rg (mv (v := (.int .u64 (acc + y.toNat % 128 * 128 ^ k : Nat))) rfl rfl (mv (v := (.int .i64 k)) rfl rfl (ar (a := (k : Int)) (b := 1) (c := (k : Int) + 1) rfl rfl rfl rfl (w64 (by omega)) (asg (v := (.int .u64 (acc + y.toNat % 128 * 128 ^ k : Nat))) rfl rfl (asg (v := (.int .i64 ((k : Int) + 1))) rfl rfl (asg (v := (.int .i64 0)) rfl rfl ?_)))))))
             refine wl_nil (tN ((hK27 _ _ ?_)))
             refine rt (bR (tR (tR (bR (tR (?_))))))
             refine ret3 (v := (.int .u64 (acc + y.toNat % 128 * 128 ^ k : Nat))) (v' := (.int .i64 ((k : Int) + 1))) (v'' := (.int .i64 0)) Try.results47 rfl rfl rfl ?_
             exact ⟨by rw [hg, gu_ret hy hk.2 q9 (by omega) (by omega)]; rfl, rfl⟩
         · refine cmp (a := y) (b := 0) rfl rfl rfl (c_neq h9) (mv (v := (.bool false)) rfl rfl (sk rfl (sk rfl (pkF (v := (.bool false)) rfl rfl rfl (wl_nil (tN ((hK25 _ _ ?_))))))))
           refine cdF rfl (sp (tN ((hK24 _ _ ?_))))
           refine sq fun K28 hK28 => (rg (mv (v := (.int .u64 (acc + y.toNat % 128 * 128 ^ k : Nat))) rfl rfl (mv (v := (.int .i64 k)) rfl rfl (ar (a := (k : Int)) (b := 1) (c := (k : Int) + 1) rfl rfl rfl rfl (w64 (by omega)) (asg (v := (.int .u64 (acc + y.toNat % 128 * 128 ^ k : Nat))) rfl rfl (asg (v := (.int .i64 ((k : Int) + 1))) rfl rfl (asg (v := (.int .i64 0)) rfl rfl ?_)))))))
           refine wl_nil (tN ((hK28 _ _ ?_)))
           refine rt (bR (tR (tR (bR (tR (?_))))))
           refine ret3 (v := (.int .u64 (acc + y.toNat % 128 * 128 ^ k : Nat))) (v' := (.int .i64 ((k : Int) + 1))) (v'' := (.int .i64 0)) Try.results47 rfl rfl rfl ?_
           exact ⟨by rw [hg, gu_ret hy hk.2 q9 (by omega) (by omega)]; rfl, rfl⟩
       · refine cmp (a := y) (b := 128) rfl rfl rfl (c_nlt h8) (wl_nil (tN ((hK23 _ _ ?_))))
         refine cdF rfl (sp (bN (tN ((hK8 _ _ ?_)))))
         refine rg (mv (v := (.int .i64 k)) rfl rfl (ar (a := (k : Int)) (b := 1) (c := (k : Int) + 1) rfl rfl rfl rfl (w64 (by omega)) (asg (v := (.int .i64 ((k : Int) + 1))) rfl rfl (wl_nil (tN (?_))))))
         exact again ((k + 1), (acc + y.toNat % 128 * 128 ^ k)) ⟨rfl, eqI (by first | rfl | omega), rfl, eqI (by first | rfl | omega), trivial⟩ (⟨rfl, by omega, by omega, (gu_next hk.2 hi1' q9 ha).1, by rw [hg, gu_go hy hk.2 q9 (by omega)]⟩) (by show (10 - (k + 1) : Nat) < 10 - k; omega)
   · refine cmp (a := (k : Int)) (b := 10) rfl rfl rfl (c_nlt h2) (pkT (v := (.bool false)) rfl rfl rfl (wl_nil (tN ((hK7 _ _ ?_)))))
     refine cdF rfl (xt (tX (tX (bX (tN ((hK4 _ _ ?_)))))))
     refine sq fun K29 hK29 => (rg (asg (v := (.int .u64 0)) rfl rfl (asg (v := (.int .i64 0)) rfl rfl (asg (v := (.int .i64 15)) rfl rfl (wl_nil (tN ((hK29 _ _ ?_))))))))
     refine rt (ret3 (v := (.int .u64 0)) (v' := (.int .i64 0)) (v'' := (.int .i64 15)) Try.results47 rfl rfl rfl ?_)
     exact ⟨by rw [hg, gu_end (by omega)]; rfl, rfl⟩
 · refine cmp (a := (k : Int)) (b := (xs.length : Int)) rfl rfl rfl (c_nlt h1) (mv (v := (.bool false)) rfl rfl (sk rfl (sk rfl (pkF (v := (.bool false)) rfl rfl rfl (wl_nil (tN ((hK7 _ _ ?_))))))))
   refine cdF rfl (xt (tX (tX (bX (tN ((hK4 _ _ ?_)))))))
   refine sq fun K30 hK30 => (rg (asg (v := (.int .u64 0)) rfl rfl (asg (v := (.int .i64 0)) rfl rfl (asg (v := (.int .i64 15)) rfl rfl (wl_nil (tN ((hK30 _ _ ?_))))))))
   refine rt (ret3 (v := (.int .u64 0)) (v' := (.int .i64 0)) (v'' := (.int .i64 15)) Try.results47 rfl rfl rfl ?_)
   exact ⟨by rw [hg, gu_end (by omega)]; rfl, rfl⟩
theorem GetInt_ok_none (v : Value) (xs : List Int) (w : World) (hv : Ints .u8 (fun _ => True) w v xs) (hg : getU xs = none) :
 CR Try.prog 86 #[v] w (fun r w' => r = getIV (getU xs) ∧ w = w') := by
 refine enter (vs := [v]) Try.func86 rfl Try.ntmps86 rfl (sq fun K1 hK1 => (rg (asg (v := (.int .i64 0)) rfl rfl (asg (v := (.int .i64 0)) rfl rfl (asg (v := (.int .i64 0)) rfl rfl (wl_nil (tN ((hK1 _ _ ?_)))))))))
 refine sq fun K2 hK2 => (rg (mv (v := v) rfl rfl (clF (vl := [v]) rfl rfl ent18 ((GetUint_ok v xs w hv).mono fun r w' h => (show r = getUV (getU xs) ∧ w = w' from h)) ?_)))
 rintro _ _ ⟨rfl, rfl⟩
 rw [hg]
 refine mv (v := (.tuple #[(.int .u64 0), (.int .i64 0), (.int .i64 15)])) rfl rfl (ex (vs := #[(.int .u64 0), (.int .i64 0), (.int .i64 15)]) (v := (.int .u64 0)) rfl rfl rfl (ex (vs := #[(.int .u64 0), (.int .i64 0), (.int .i64 15)]) (v := (.int .i64 0)) rfl rfl rfl (ex (vs := #[(.int .u64 0), (.int .i64 0), (.int .i64 15)]) (v := (.int .i64 15)) rfl rfl rfl (asg (v := (.int .u64 0)) rfl rfl (asg (v := (.int .i64 0)) rfl rfl (asg (v := (.int .i64 15)) rfl rfl (wl_nil ?_)))))))
 refine tN ((hK2 _ _ ?_))
 refine sq fun K3 hK3 => (sq fun K4 hK4 => (rg (mv (v := (.int .i64 15)) rfl rfl (cmp (a := 15) (b := 0) rfl rfl rfl (c_ne (by decide)) (wl_nil (tN ((hK4 _ _ ?_))))))))
 refine cdT rfl (sq fun K5 hK5 => (rg (mv (v := (.int .i64 15)) rfl rfl (asg (v := (.int .i64 0)) rfl rfl (asg (v := (.int .i64 0)) rfl rfl (asg (v := (.int .i64 15)) rfl rfl (wl_nil ?_)))))))
 refine tN ((hK5 _ _ ?_))
 refine rt (tR (?_))
 refine ret3 (v := (.int .i64 0)) (v' := (.int .i64 0)) (v'' := (.int .i64 15)) Try.results86 rfl rfl rfl ?_
 exact ⟨by rw [hg]; rfl, rfl⟩
theorem GetInt_ok_some (v : Value) (xs : List Int) (w : World) (hv : Ints .u8 (fun _ => True) w v xs) {x n : Nat} (hg : getU xs = some (x, n)) :
 CR Try.prog 86 #[v] w (fun r w' => r = getIV (getU xs) ∧ w = w') := by
 have hx := getU_lt (fun y hy => hv.in hy) hg
 refine enter (vs := [v]) Try.func86 rfl Try.ntmps86 rfl (sq fun K1 hK1 => (rg (asg (v := (.int .i64 0)) rfl rfl (asg (v := (.int .i64 0)) rfl rfl (asg (v := (.int .i64 0)) rfl rfl (wl_nil (tN ((hK1 _ _ ?_)))))))))
 refine sq fun K2 hK2 => (rg (mv (v := v) rfl rfl (clF (vl := [v]) rfl rfl ent18 ((GetUint_ok v xs w hv).mono fun r w' h => (show r = getUV (getU xs) ∧ w = w' from h)) ?_)))
 rintro _ _ ⟨rfl, rfl⟩
 rw [hg]
 refine mv (v := (.tuple #[(.int .u64 x), (.int .i64 n), (.int .i64 0)])) rfl rfl (ex (vs := #[(.int .u64 x), (.int .i64 n), (.int .i64 0)]) (v := (.int .u64 x)) rfl rfl rfl (ex (vs := #[(.int .u64 x), (.int .i64 n), (.int .i64 0)]) (v := (.int .i64 n)) rfl rfl rfl (ex (vs := #[(.int .u64 x), (.int .i64 n), (.int .i64 0)]) (v := (.int .i64 0)) rfl rfl rfl (asg (v := (.int .u64 x)) rfl rfl (asg (v := (.int .i64 n)) rfl rfl (asg (v := (.int .i64 0)) rfl rfl (wl_nil ?_)))))))
 refine tN ((hK2 _ _ ?_))
 refine sq fun K3 hK3 => (sq fun K4 hK4 => (rg (mv (v := (.int .i64 0)) rfl rfl (cmp (a := 0) (b := 0) rfl rfl rfl (c_nne (by decide)) (wl_nil (tN ((hK4 _ _ ?_))))))))
 refine cdF rfl (sp (tN ((hK3 _ _ ?_))))
 refine sq fun K5 hK5 => (rg (mv (v := (.int .u64 x)) rfl rfl (shr (a := (x : Int)) (b := 1) (e := (x / 2 : Nat)) rfl rfl rfl (by decide) (fdiv_nat x 1 64 (by decide)) (cv (a := (x / 2 : Nat)) (e := (x / 2 : Nat)) rfl rfl Try.underlying24 Try.underlying2 (w64 (by omega)) (asg (v := (.int .i64 (x / 2 : Nat))) rfl rfl (wl_nil (tN ((hK5 _ _ ?_)))))))))
 refine sq fun K6 hK6 => (sq fun K7 hK7 => (rg (mv (v := (.int .u64 x)) rfl rfl (bi (a := (x : Int)) (b := 1) (e := (x % 2 : Nat)) rfl rfl rfl (gi_and hx.1) ?_))))
 by_cases h1 : ((x % 2 : Nat) : Int) = (0 : Int)
 · refine cmp (a := (x % 2 : Nat)) (b := 0) rfl rfl rfl (c_nne h1) (wl_nil (tN ((hK7 _ _ ?_))))
   refine cdF rfl (sp (tN ((hK6 _ _ ?_))))
   refine sq fun K8 hK8 => (rg (mv (v := (.int .i64 (x / 2 : Nat))) rfl rfl (mv (v := (.int .i64 n)) rfl rfl (asg (v := (.int .i64 (x / 2 : Nat))) rfl rfl (asg (v := (.int .i64 n)) rfl rfl (asg (v := (.int .i64 0)) rfl rfl (wl_nil ?_)))))))
   refine tN ((hK8 _ _ ?_))
   refine rt (ret3 (v := (.int .i64 (x / 2 : Nat))) (v' := (.int .i64 n)) (v'' := (.int .i64 0)) Try.results86 rfl rfl rfl ?_)
   first
   | exact ⟨by rw [hg]; show _ = Value.tuple _; rw [unfold1 (by omega)], rfl⟩
   | exact ⟨by rw [hg]; show _ = Value.tuple _; rw [unfold0 (by omega)], rfl⟩
 · refine cmp (a := (x % 2 : Nat)) (b := 0) rfl rfl rfl (c_ne h1) (wl_nil (tN ((hK7 _ _ ?_))))
   refine cdT rfl (rg (mv (v := (.int .i64 (x / 2 : Nat))) rfl rfl (cpl (a := (x / 2 : Nat)) (e := -((x / 2 : Nat) : Int) - 1) rfl rfl (cpl_i64 (show -9223372036854775808 ≤ _ ∧ _ ≤ 9223372036854775807 by omega)) (asg (v := (.int .i64 (-((x / 2 : Nat) : Int) - 1))) rfl rfl (wl_nil (tN ((hK6 _ _ ?_))))))))
   refine sq fun K9 hK9 => (rg (mv (v := (.int .i64 (-((x / 2 : Nat) : Int) - 1))) rfl rfl (mv (v := (.int .i64 n)) rfl rfl (asg (v := (.int .i64 (-((x / 2 : Nat) : Int) - 1))) rfl rfl (asg (v := (.int .i64 n)) rfl rfl (asg (v := (.int .i64 0)) rfl rfl (wl_nil ?_)))))))
   refine tN ((hK9 _ _ ?_))
   refine rt (ret3 (v := (.int .i64 (-((x / 2 : Nat) : Int) - 1))) (v' := (.int .i64 n)) (v'' := (.int .i64 0)) Try.results86 rfl rfl rfl ?_)
   first
   | exact ⟨by rw [hg]; show _ = Value.tuple _; rw [unfold1 (by omega)], rfl⟩
   | exact ⟨by rw [hg]; show _ = Value.tuple _; rw [unfold0 (by omega)], rfl⟩
theorem GetInt_ok (v : Value) (xs : List Int) (w : World) (hv : Ints .u8 (fun _ => True) w v xs) : CR Try.prog 86 #[v] w (fun r w' => r = getIV (getU xs) ∧ w = w') := by
 rcases hg : getU xs with _ | ⟨x, n⟩
 · have := GetInt_ok_none v xs w hv hg; rw [hg] at this; exact this
 · have := GetInt_ok_some v xs w hv hg; rw [hg] at this; exact this
theorem rGetInt_ok_none (v : Value) (xs : List Int) (w : World) (hv : Ints .u8 (fun _ => True) w v xs) (hg : getU xs = none) :
 CR Try.prog 53 #[v] w (fun r w' => r = getIV (getU xs) ∧ w = w') := by
 refine enter (vs := [v]) Try.func53 rfl Try.ntmps53 rfl (sq fun K1 hK1 => (rg (asg (v := (.int .i64 0)) rfl rfl (asg (v := (.int .i64 0)) rfl rfl (asg (v := (.int .i64 0)) rfl rfl (wl_nil (tN ((hK1 _ _ ?_)))))))))
 refine sq fun K2 hK2 => (rg (mv (v := v) rfl rfl (clF (vl := [v]) rfl rfl ent47 ((rGetUint_ok v xs w hv).mono fun r w' h => (show r = getUV (getU xs) ∧ w = w' from h)) ?_)))
 rintro _ _ ⟨rfl, rfl⟩
 rw [hg]
 refine mv (v := (.tuple #[(.int .u64 0), (.int .i64 0), (.int .i64 15)])) rfl rfl (ex (vs := #[(.int .u64 0), (.int .i64 0), (.int .i64 15)]) (v := (.int .u64 0)) rfl rfl rfl (ex (vs := #[(.int .u64 0), (.int .i64 0), (.int .i64 15)]) (v := (.int .i64 0)) rfl rfl rfl (ex (vs := #[(.int .u64 0), (.int .i64 0), (.int .i64 15)]) (v := (.int .i64 15)) rfl rfl rfl (asg (v := (.int .u64 0)) rfl rfl (asg (v := (.int .i64 0)) rfl rfl (asg (v := (.int .i64 15)) rfl rfl (wl_nil ?_)))))))
 refine tN ((hK2 _ _ ?_))
 refine sq fun K3 hK3 => (sq fun K4 hK4 => (rg (mv (v := (.int .i64 15)) rfl rfl (cmp (a := 15) (b := 0) rfl rfl rfl (c_ne (by decide)) (wl_nil (tN ((hK4 _ _ ?_))))))))
 refine cdT rfl (sq fun K5 hK5 => (rg (mv (v := (.int .i64 15)) rfl rfl (asg (v := (.int .i64 0)) rfl rfl (asg (v := (.int .i64 0)) rfl rfl (asg (v := (.int .i64 15)) rfl rfl (wl_nil ?_)))))))
 refine tN ((hK5 _ _ ?_))
 refine rt (tR (?_))
 refine ret3 (v := (.int .i64 0)) (v' := (.int .i64 0)) (v'' := (.int .i64 15)) Try.results53 rfl rfl rfl ?_
 exact ⟨by rw [hg]; rfl, rfl⟩
theorem rGetInt_ok_some (v : Value) (xs : List Int) (w : World) (hv : Ints .u8 (fun _ => True) w v xs) {x n : Nat} (hg : getU xs = some (x, n)) :
 CR Try.prog 53 #[v] w (fun r w' => r = getIV (getU xs) ∧ w = w') := by
 have hx := getU_lt (fun y hy => hv.in hy) hg
 refine enter (vs := [v]) Try.func53 rfl Try.ntmps53 rfl (sq fun K1 hK1 => (rg (asg (v := (.int .i64 0)) rfl rfl (asg (v := (.int .i64 0)) rfl rfl (asg (v := (.int .i64 0)) rfl rfl (wl_nil (tN ((hK1 _ _ ?_)))))))))
 refine sq fun K2 hK2 => (rg (mv (v := v) rfl rfl (clF (vl := [v]) rfl rfl ent47 ((rGetUint_ok v xs w hv).mono fun r w' h => (show r = getUV (getU xs) ∧ w = w' from h)) ?_)))
 rintro _ _ ⟨rfl, rfl⟩
 rw [hg]
 refine mv (v := (.tuple #[(.int .u64 x), (.int .i64 n), (.int .i64 0)])) rfl rfl (ex (vs := #[(.int .u64 x), (.int .i64 n), (.int .i64 0)]) (v := (.int .u64 x)) rfl rfl rfl (ex (vs := #[(.int .u64 x), (.int .i64 n), (.int .i64 0)]) (v := (.int .i64 n)) rfl rfl rfl (ex (vs := #[(.int .u64 x), (.int .i64 n), (.int .i64 0)]) (v := (.int .i64 0)) rfl rfl rfl (asg (v := (.int .u64 x)) rfl rfl (asg (v := (.int .i64 n)) rfl rfl (asg (v := (.int .i64 0)) rfl rfl (wl_nil ?_)))))))
 refine tN ((hK2 _ _ ?_))
 refine sq fun K3 hK3 => (sq fun K4 hK4 => (rg (mv (v := (.int .i64 0)) rfl rfl (cmp (a := 0) (b := 0) rfl rfl rfl (c_nne (by decide)) (wl_nil (tN ((hK4 _ _ ?_))))))))
 refine cdF rfl (sp (tN ((hK3 _ _ ?_))))
 refine sq fun K5 hK5 => (sq fun K6 hK6 => (rg (mv (v := (.int .u64 x)) rfl rfl (rem (a := (x : Int)) (b := 2) (e := (x % 2 : Nat)) rfl rfl rfl (by decide) (crc_rem _) ?_))))
 by_cases h1 : ((x % 2 : Nat) : Int) = (1 : Int)
 · refine cmp (a := (x % 2 : Nat)) (b := 1) rfl rfl rfl (c_eq h1) (wl_nil (tN ((hK6 _ _ ?_))))
   refine cdT rfl (sq fun K7 hK7 => (rg (mv (v := (.int .u64 x)) rfl rfl (quo (a := (x : Int)) (b := 2) (e := (x / 2 : Nat)) rfl rfl rfl (by decide) (quo64 hx.1) (cv (a := (x / 2 : Nat)) (e := (x / 2 : Nat)) rfl rfl Try.underlying24 Try.underlying2 (w64 (by omega)) (neg (a := (x / 2 : Nat)) (e := -((x / 2 : Nat) : Int)) rfl rfl (by rw [Int.zero_sub]; exact w64 (by omega)) (ar (a := -((x / 2 : Nat) : Int)) (b := 1) (c := (-((x / 2 : Nat) : Int)) - 1) rfl rfl rfl rfl (w64 (by omega)) ?_)))))))
   refine mv (v := (.int .i64 n)) rfl rfl (asg (v := (.int .i64 ((-((x / 2 : Nat) : Int)) - 1))) rfl rfl (asg (v := (.int .i64 n)) rfl rfl (asg (v := (.int .i64 0)) rfl rfl (wl_nil (tN ((hK7 _ _ ?_)))))))
   refine rt (tR (?_))
   refine ret3 (v := (.int .i64 ((-((x / 2 : Nat) : Int)) - 1))) (v' := (.int .i64 n)) (v'' := (.int .i64 0)) Try.results53 rfl rfl rfl ?_
   first
   | exact ⟨by rw [hg]; show _ = Value.tuple _; rw [unfold1 (by omega)], rfl⟩
   | exact ⟨by rw [hg]; show _ = Value.tuple _; rw [unfold0 (by omega)], rfl⟩
 · refine cmp (a := (x % 2 : Nat)) (b := 1) rfl rfl rfl (c_neq h1) (wl_nil (tN ((hK6 _ _ ?_))))
   refine cdF rfl (sp (tN ((hK5 _ _ ?_))))
   refine sq fun K8 hK8 => (rg (mv (v := (.int .u64 x)) rfl rfl (quo (a := (x : Int)) (b := 2) (e := (x / 2 : Nat)) rfl rfl rfl (by decide) (quo64 hx.1) (cv (a := (x / 2 : Nat)) (e := (x / 2 : Nat)) rfl rfl Try.underlying24 Try.underlying2 (w64 (by omega)) (mv (v := (.int .i64 n)) rfl rfl (asg (v := (.int .i64 (x / 2 : Nat))) rfl rfl (asg (v := (.int .i64 n)) rfl rfl ?_)))))))
   refine asg (v := (.int .i64 0)) rfl rfl (wl_nil (tN ((hK8 _ _ ?_))))
   refine rt (ret3 (v := (.int .i64 (x / 2 : Nat))) (v' := (.int .i64 n)) (v'' := (.int .i64 0)) Try.results53 rfl rfl rfl ?_)
   first
   | exact ⟨by rw [hg]; show _ = Value.tuple _; rw [unfold1 (by omega)], rfl⟩
   | exact ⟨by rw [hg]; show _ = Value.tuple _; rw [unfold0 (by omega)], rfl⟩
theorem rGetInt_ok (v : Value) (xs : List Int) (w : World) (hv : Ints .u8 (fun _ => True) w v xs) : CR Try.prog 53 #[v] w (fun r w' => r = getIV (getU xs) ∧ w = w') := by
 rcases hg : getU xs with _ | ⟨x, n⟩
 · have := rGetInt_ok_none v xs w hv hg; rw [hg] at this; exact this
 · have := rGetInt_ok_some v xs w hv hg; rw [hg] at this; exact this
theorem fold_ok (x : Int) (w : World) (hx : InK .i64 x) :
 CR Try.prog 79 #[(.int .i64 x)] w (fun r w' => r = .int .u64 (foldS x : Nat) ∧ w = w') := by
 refine enter (vs := [(.int .i64 x)]) Try.func79 rfl Try.ntmps79 rfl (sq fun K1 hK1 => (rg (asg (v := (.int .u64 0)) rfl rfl (wl_nil (tN ((hK1 _ _ ?_)))))))
 refine sq fun K2 hK2 => (sq fun K3 hK3 => (rg (mv (v := (.int .i64 x)) rfl rfl ?_)))
 by_cases h1 : (x : Int) < (0 : Int)
 · refine cmp (a := x) (b := 0) rfl rfl rfl (c_lt h1) (wl_nil (tN ((hK3 _ _ ?_))))
   refine cdT rfl (sq fun K4 hK4 => (rg (mv (v := (.int .i64 x)) rfl rfl (cv (a := x) (e := IntKind.u64.wrap x) rfl rfl Try.underlying2 Try.underlying24 rfl (shl (a := IntKind.u64.wrap x) (b := 1) (e := (18446744073709551615 - foldS x : Nat)) rfl rfl rfl (by decide) (fo_neg hx h1) (cpl (a := (18446744073709551615 - foldS x : Nat)) (e := (foldS x : Nat)) rfl rfl (fo_cpl hx h1) (asg (v := (.int .u64 (foldS x : Nat))) rfl rfl ?_)))))))
   refine wl_nil (tN ((hK4 _ _ ?_)))
   refine rt (tR (?_))
   refine ret1 (v := (.int .u64 (foldS x : Nat))) Try.results79 rfl ?_
   exact ⟨rfl, rfl⟩
 · refine cmp (a := x) (b := 0) rfl rfl rfl (c_nlt h1) (wl_nil (tN ((hK3 _ _ ?_))))
   refine cdF rfl (sp (tN ((hK2 _ _ ?_))))
   refine sq fun K5 hK5 => (rg (mv (v := (.int .i64 x)) rfl rfl (cv (a := x) (e := IntKind.u64.wrap x) rfl rfl Try.underlying2 Try.underlying24 rfl (shl (a := IntKind.u64.wrap x) (b := 1) (e := (foldS x : Nat)) rfl rfl rfl (by decide) (fo_pos hx h1) (asg (v := (.int .u64 (foldS x : Nat))) rfl rfl (wl_nil (tN ((hK5 _ _ ?_)))))))))
   refine rt (ret1 (v := (.int .u64 (foldS x : Nat))) Try.results79 rfl ?_)
   exact ⟨rfl, rfl⟩
theorem appendUint_ok (v : Value) (ys : List Int) (nn : Nat) (w : World) (hv : RowIs .u8 w v 5 ys) (hn : nn < 18446744073709551616) (hl0 : ys.length ≤ 1000000000000) :
 CR Try.prog 45 #[v, (.int .u64 nn)] w (fun r w' => Took .u8 w v w' r 5 (ys ++ putU nn)) := by
 refine enter (vs := [v, (.int .u64 nn)]) Try.func45 rfl Try.ntmps45 rfl ?_
 have hst0 := St.initRow w hv
 refine sq fun K1 hK1 => (rg (asg (v := (.slice none 0 0)) rfl rfl (wl_nil (tN ((hK1 _ _ ?_))))))
 refine sq fun K2 hK2 => (bk (lp (α := Nat × Nat × Value × List Int) (fun (f, m, v1, zs) => [(0, v1), (1, (.int .u64 m))]) (fun (f, m, v1, zs) w1 => St [(w, v.ownBlock.toList)] [rowI .u8 v1 5 zs] w1 ∧ m < 128 ^ (f + 1) ∧ m < 18446744073709551616 ∧ zs.length + f ≤ ys.length + 10 ∧ zs ++ putUf f m = ys ++ putU nn) (fun (f, m, v1, zs) => f) (10, nn, v, ys) ⟨rfl, eqI (by first | rfl | omega), trivial⟩ (⟨hst0, by omega, hn, by omega, rfl⟩) ?_))
 rintro ⟨f, m, v1, zs⟩ s1 w1 ⟨hst, hm, hm2, hl, he⟩
 refine sq fun K3 hK3 => (sq fun K4 hK4 => (rg (mv (v := (.int .u64 m)) rfl rfl ?_)))
 by_cases h1 : ((m : Int) : Int) ≥ (128 : Int)
 · refine cmp (a := (m : Int)) (b := 128) rfl rfl rfl (c_ge h1) ?_
   obtain ⟨f', rfl⟩ := pu_next hm (by omega)
   refine wl_nil (tN ((hK4 _ _ ?_)))
   refine cdT rfl (sp (tN ((hK3 _ _ ?_))))
   refine sq fun K5 hK5 => (bk (rg (mv (v := v1) rfl rfl (mv (v := (.int .u64 m)) rfl rfl (cv (a := (m : Int)) (e := ((m % 256 : Nat) : Int)) rfl rfl Try.underlying24 Try.underlying5 (by rw [IntKind.wrap_u8]; omega) (bi (a := ((m % 256 : Nat) : Int)) (b := 128) (e := ((m % 128 + 128 : Nat) : Int)) rfl rfl rfl pu_or (bsv (vs := [(.int .u8 ((m % 128 + 128 : Nat) : Int))]) (cs := [(.int .u8 ((m % 128 + 128 : Nat) : Int))]) rfl rfl Try.underlying22 ti5 rfl (by simp [Value.cells]) rfl rfl rfl hst ?_)))))))
   intro b1 w2 hn1 hc1 hs1
   have hs1 : St _ [rowI .u8 (.slice (some ⟨b1, 0, none⟩) 1 1) 5 ([((m % 128 + 128 : Nat) : Int)]), rowI .u8 v1 5 zs] w2 := hs1
   refine apdI (k := .u8) (ys := zs) (zs := [((m % 128 + 128 : Nat) : Int)]) (LL := fun v1 => [rowI .u8 (.slice (some ⟨b1, 0, none⟩) 1 1) 5 ([((m % 128 + 128 : Nat) : Int)]), rowI .u8 v1 5 (zs ++ ([((m % 128 + 128 : Nat) : Int)]))]) 1 rfl rfl rfl Try.underlying22 ti5 rfl hs1 rfl (St.rowSrc hs1 (i := 0) rfl) (by simp only [List.length_cons, List.length_nil]; omega) (by simp only [List.length_cons, List.length_nil]; omega) (fun _ => rfl) ?_
   intro v1 w3 hs2 hc2
   have hs2 : St _ [rowI .u8 (.slice (some ⟨b1, 0, none⟩) 1 1) 5 ([((m % 128 + 128 : Nat) : Int)]), rowI .u8 v1 5 (zs ++ ([((m % 128 + 128 : Nat) : Int)]))] w3 := hs2
   have hs3 := St.sub (L' := [rowI .u8 v1 5 (zs ++ ([((m % 128 + 128 : Nat) : Int)]))]) hs2 (List.Sublist.cons _ (List.Sublist.refl _))
   refine asg (v := v1) rfl rfl (wl_nil (bN (tN ((hK5 _ _ ?_)))))
   refine rg (mv (v := (.int .u64 m)) rfl rfl (shr (a := (m : Int)) (b := 7) (e := ((m / 128 : Nat) : Int)) rfl rfl rfl (by decide) (fdiv_nat m 7 64 (by decide)) (asg (v := (.int .u64 ((m / 128 : Nat) : Int))) rfl rfl (wl_nil (tN (?_))))))
   exact again (f', (m / 128), v1, (zs ++ [((m % 128 + 128 : Nat) : Int)])) ⟨rfl, eqI (by first | rfl | omega), trivial⟩ (⟨hs3, pu_lt hm, by omega, by simp only [List.length_append, List.length_cons, List.length_nil]; omega, pu_eq (ys := ys) he (by omega)⟩) (Nat.lt_succ_self _)
 · refine cmp (a := (m : Int)) (b := 128) rfl rfl rfl (c_nge h1) (wl_nil (tN ((hK4 _ _ ?_))))
   refine cdF rfl (xt (tX (tX (bX (tN ((hK2 _ _ ?_)))))))
   refine sq fun K6 hK6 => (rg (mv (v := v1) rfl rfl (mv (v := (.int .u64 m)) rfl rfl (cv (a := (m : Int)) (e := (m : Int)) rfl rfl Try.underlying24 Try.underlying5 (w8u (by omega)) (bsv (vs := [(.int .u8 m)]) (cs := [(.int .u8 m)]) rfl rfl Try.underlying22 ti5 rfl (by simp [Value.cells]) rfl rfl rfl hst ?_)))))
   intro b2 w4 hn2 hc3 hs4
   have hs4 : St _ [rowI .u8 (.slice (some ⟨b2, 0, none⟩) 1 1) 5 ([(m : Int)]), rowI .u8 v1 5 zs] w4 := hs4
   refine apdI (k := .u8) (ys := zs) (zs := [(m : Int)]) (LL := fun v2 => [rowI .u8 (.slice (some ⟨b2, 0, none⟩) 1 1) 5 ([(m : Int)]), rowI .u8 v2 5 (zs ++ ([(m : Int)]))]) 1 rfl rfl rfl Try.underlying22 ti5 rfl hs4 rfl (St.rowSrc hs4 (i := 0) rfl) (by simp only [List.length_cons, List.length_nil]; omega) (by simp only [List.length_cons, List.length_nil]; omega) (fun _ => rfl) ?_
   intro v2 w5 hs5 hc4
   have hs5 : St _ [rowI .u8 (.slice (some ⟨b2, 0, none⟩) 1 1) 5 ([(m : Int)]), rowI .u8 v2 5 (zs ++ ([(m : Int)]))] w5 := hs5
   have hs6 := St.sub (L' := [rowI .u8 v2 5 (zs ++ ([(m : Int)]))]) hs5 (List.Sublist.cons _ (List.Sublist.refl _))
   refine asg (v := v2) rfl rfl (wl_nil (tN ((hK6 _ _ ?_))))
   refine rt (ret1 (v := v2) Try.results45 rfl ?_)
   rw [pu_fin he (by omega)] at hs6
   exact St.endTook hs6 (by simp)
theorem rPutUint_ok (v : Value) (xs : List Int) (nn : Nat) (w : World) (hv : Ints .u8 (fun _ => True) w v xs) (hn : nn < 18446744073709551616) (hl0 : xs.length ≤ 1000000000000) :
 CR Try.prog 37 #[v, (.int .u64 nn)] w (fun r w' => Fresh .u8 w w' r 5 (xs ++ putU nn) ∧ Chg [] w w') := by
 refine enter (vs := [v, (.int .u64 nn)]) Try.func37 rfl Try.ntmps37 rfl ?_
 have hst0 := St.init w
 refine sq fun K1 hK1 => (rg (asg (v := (.slice none 0 0)) rfl rfl (wl_nil (tN ((hK1 _ _ ?_))))))
 refine sq fun K2 hK2 => (rg (bsv (vs := []) (cs := []) rfl rfl Try.underlying22 ti5 rfl (by intro v hv; simp at hv) rfl rfl rfl hst0 ?_))
 intro b1 w1 hn1 hc1 hs1
 have hs1 : St _ [rowI .u8 (.slice (some ⟨b1, 0, none⟩) 0 0) 5 ([])] w1 := hs1
 refine mv (v := v) rfl rfl (apdI (k := .u8) (ys := []) (zs := xs) (LL := fun v1 => [rowI .u8 v1 5 (([]) ++ xs)]) 0 rfl rfl rfl Try.underlying22 ti5 rfl hs1 rfl (Ints.src (St.ints0 hs1 (by simp) hv)) (by simp only [List.length_nil]; omega) (by simp only [List.length_nil]; omega) (fun _ => rfl) ?_)
 intro v1 w2 hs2 hc2
 have hs2 : St _ [rowI .u8 v1 5 (([]) ++ xs)] w2 := hs2
 refine asg (v := v1) rfl rfl (wl_nil (tN ((hK2 _ _ ?_))))
 refine sq fun K3 hK3 => (bk (lp (α := Nat × Nat × Value × List Int) (fun (f, m, v1, zs) => [(1, (.int .u64 m)), (5, v1)]) (fun (f, m, v1, zs) w1 => St [(w, [])] [rowI .u8 v1 5 zs] w1 ∧ m < 128 ^ (f + 1) ∧ m < 18446744073709551616 ∧ zs.length + f ≤ xs.length + 10 ∧ zs ++ putUf f m = xs ++ putU nn) (fun (f, m, v1, zs) => f) (10, nn, v1, xs) ⟨eqI (by first | rfl | omega), rfl, trivial⟩ (⟨hs2, by omega, hn, by omega, rfl⟩) ?_))
 rintro ⟨f, m, v1, zs⟩ s1 w3 ⟨hst, hm, hm2, hl, he⟩
 refine sq fun K4 hK4 => (sq fun K5 hK5 => (rg (mv (v := (.int .u64 m)) rfl rfl ?_)))
 by_cases h1 : ((m : Int) : Int) ≥ (128 : Int)
 · refine cmp (a := (m : Int)) (b := 128) rfl rfl rfl (c_ge h1) ?_
   obtain ⟨f', rfl⟩ := pu_next hm (by omega)
   refine wl_nil (tN ((hK5 _ _ ?_)))
   refine cdT rfl (sp (tN ((hK4 _ _ ?_))))
   refine bk (sq fun K6 hK6 => (rg (mv (v := v1) rfl rfl (mv (v := (.int .u64 m)) rfl rfl (rem (a := (m : Int)) (b := 128) (e := ((m % 128 : Nat) : Int)) rfl rfl rfl (by decide) (by rw [Int.tmod_eq_emod_of_nonneg (by omega)]; omega) (cv (a := ((m % 128 : Nat) : Int)) (e := ((m % 128 : Nat) : Int)) rfl rfl Try.underlying24 Try.underlying5 (w8u (by omega)) (ar (a := ((m % 128 : Nat) : Int)) (b := 128) (c := ((m % 128 : Nat) : Int) + 128) (e := ((m % 128 + 128 : Nat) : Int)) rfl rfl rfl rfl (w8u (by omega)) ?_)))))))
   refine bsv (vs := [(.int .u8 ((m % 128 + 128 : Nat) : Int))]) (cs := [(.int .u8 ((m % 128 + 128 : Nat) : Int))]) rfl rfl Try.underlying22 ti5 rfl (by simp [Value.cells]) rfl rfl rfl hst ?_
   intro b2 w4 hn2 hc3 hs3
   have hs3 : St _ [rowI .u8 (.slice (some ⟨b2, 0, none⟩) 1 1) 5 ([((m % 128 + 128 : Nat) : Int)]), rowI .u8 v1 5 zs] w4 := hs3
   refine apdI (k := .u8) (ys := zs) (zs := [((m % 128 + 128 : Nat) : Int)]) (LL := fun v2 => [rowI .u8 (.slice (some ⟨b2, 0, none⟩) 1 1) 5 ([((m % 128 + 128 : Nat) : Int)]), rowI .u8 v2 5 (zs ++ ([((m % 128 + 128 : Nat) : Int)]))]) 1 rfl rfl rfl Try.underlying22 ti5 rfl hs3 rfl (St.rowSrc hs3 (i := 0) rfl) (by simp only [List.length_cons, List.length_nil, List.length_append]; omega) (by simp only [List.length_cons, List.length_nil, List.length_append]; omega) (fun _ => rfl) ?_
   intro v2 w5 hs4 hc4
   have hs4 : St _ [rowI .u8 (.slice (some ⟨b2, 0, none⟩) 1 1) 5 ([((m % 128 + 128 : Nat) : Int)]), rowI .u8 v2 5 (zs ++ ([((m % 128 + 128 : Nat) : Int)]))] w5 := hs4
   have hs5 := St.sub (L' := [rowI .u8 v2 5 (zs ++ ([((m % 128 + 128 : Nat) : Int)]))]) hs4 (List.Sublist.cons _ (List.Sublist.refl _))
   refine asg (v := v2) rfl rfl (wl_nil (tN ((hK6 _ _ ?_))))
   refine rg (mv (v := (.int .u64 m)) rfl rfl (quo (a := (m : Int)) (b := 128) (e := ((m / 128 : Nat) : Int)) rfl rfl rfl (by decide) (by rw [Int.tdiv_eq_ediv_of_nonneg (by omega), IntKind.wrap_u64]; omega) (asg (v := (.int .u64 ((m / 128 : Nat) : Int))) rfl rfl (wl_nil (bN (tN (?_)))))))
   exact again (f', (m / 128), v2, (zs ++ [((m % 128 + 128 : Nat) : Int)])) ⟨eqI (by first | rfl | omega), rfl, trivial⟩ (⟨hs5, pu_lt hm, by omega, by simp only [List.length_append, List.length_cons, List.length_nil]; omega, pu_eq (ys := xs) he (by omega)⟩) (Nat.lt_succ_self _)
 · refine cmp (a := (m : Int)) (b := 128) rfl rfl rfl (c_nge h1) (wl_nil (tN ((hK5 _ _ ?_))))
   refine cdF rfl (xt (tX (tX (bX (tN ((hK3 _ _ ?_)))))))
   refine sq fun K7 hK7 => (rg (mv (v := v1) rfl rfl (mv (v := (.int .u64 m)) rfl rfl (cv (a := (m : Int)) (e := (m : Int)) rfl rfl Try.underlying24 Try.underlying5 (w8u (by omega)) (bsv (vs := [(.int .u8 m)]) (cs := [(.int .u8 m)]) rfl rfl Try.underlying22 ti5 rfl (by simp [Value.cells]) rfl rfl rfl hst ?_)))))
   intro b3 w6 hn3 hc5 hs6
   have hs6 : St _ [rowI .u8 (.slice (some ⟨b3, 0, none⟩) 1 1) 5 ([(m : Int)]), rowI .u8 v1 5 zs] w6 := hs6
   refine apdI (k := .u8) (ys := zs) (zs := [(m : Int)]) (LL := fun v3 => [rowI .u8 (.slice (some ⟨b3, 0, none⟩) 1 1) 5 ([(m : Int)]), rowI .u8 v3 5 (zs ++ ([(m : Int)]))]) 1 rfl rfl rfl Try.underlying22 ti5 rfl hs6 rfl (St.rowSrc hs6 (i := 0) rfl) (by simp only [List.length_cons, List.length_nil, List.length_append]; omega) (by simp only [List.length_cons, List.length_nil, List.length_append]; omega) (fun _ => rfl) ?_
   intro v3 w7 hs7 hc6
   have hs7 : St _ [rowI .u8 (.slice (some ⟨b3, 0, none⟩) 1 1) 5 ([(m : Int)]), rowI .u8 v3 5 (zs ++ ([(m : Int)]))] w7 := hs7
   have hs8 := St.sub (L' := [rowI .u8 v3 5 (zs ++ ([(m : Int)]))]) hs7 (List.Sublist.cons _ (List.Sublist.refl _))
   refine asg (v := v3) rfl rfl (wl_nil (tN ((hK7 _ _ ?_))))
   refine rt (ret1 (v := v3) Try.results37 rfl ?_)
   rw [pu_fin he (by omega)] at hs8
   exact ⟨St.endFresh hs8 (by simp), hs8.chg (by simp)⟩
theorem rPutInt_ok (v : Value) (xs : List Int) (x : Int) (w : World) (hv : Ints .u8 (fun _ => True) w v xs) (hx : InK .i64 x) (hl0 : xs.length ≤ 1000000000000) :
 CR Try.prog 46 #[v, (.int .i64 x)] w (fun r w' => Fresh .u8 w w' r 5 (xs ++ putU (foldS x)) ∧ Chg [] w w') := by
 have hx' := hx.i64
 refine enter (vs := [v, (.int .i64 x)]) Try.func46 rfl Try.ntmps46 rfl (sq fun K1 hK1 => (rg (asg (v := (.slice none 0 0)) rfl rfl (wl_nil (tN ((hK1 _ _ ?_)))))))
 refine sq fun K2 hK2 => (sq fun K3 hK3 => (rg (mv (v := (.int .i64 x)) rfl rfl ?_)))
 by_cases h1 : (x : Int) < (0 : Int)
 · refine cmp (a := x) (b := 0) rfl rfl rfl (c_lt h1) (wl_nil (tN ((hK3 _ _ ?_))))
   refine cdT rfl (sq fun K4 hK4 => (rg (mv (v := v) rfl rfl (mv (v := (.int .i64 x)) rfl rfl (ar (a := x) (b := 1) (c := x + 1) rfl rfl rfl rfl (w64 (by omega)) (neg (a := x + 1) (e := -(x + 1)) rfl rfl (by rw [Int.zero_sub]; exact w64 (by omega)) (cv (a := -(x + 1)) (e := -(x + 1)) rfl rfl Try.underlying2 Try.underlying24 (w64u (by omega)) ?_)))))))
   refine ar (a := 2) (b := -(x + 1)) (c := 2 * (-(x + 1))) rfl rfl rfl rfl (w64u (by omega)) (ar (a := 2 * (-(x + 1))) (b := 1) (c := (2 * (-(x + 1))) + 1) (e := (foldS x : Nat)) rfl rfl rfl rfl (by rw [foldS, if_pos h1]; rw [w64u (by omega)]; omega) (clF (vl := [v, (.int .u64 (foldS x : Nat))]) rfl rfl ent37 (rPutUint_ok v xs (foldS x) w hv (fold_lt hx) hl0) ?_))
   rintro v3 w3 hf
   refine asg (v := v3) rfl rfl (wl_nil (tN ((hK4 _ _ ?_))))
   refine rt (tR (?_))
   refine ret1 (v := v3) Try.results46 rfl ?_
   exact hf
 · refine cmp (a := x) (b := 0) rfl rfl rfl (c_nlt h1) (wl_nil (tN ((hK3 _ _ ?_))))
   refine cdF rfl (sp (tN ((hK2 _ _ ?_))))
   refine sq fun K5 hK5 => (rg (mv (v := v) rfl rfl (mv (v := (.int .i64 x)) rfl rfl (cv (a := x) (e := x) rfl rfl Try.underlying2 Try.underlying24 (w64u (by omega)) (ar (a := 2) (b := x) (c := 2 * x) (e := (foldS x : Nat)) rfl rfl rfl rfl (by rw [foldS, if_neg h1]; rw [w64u (by omega)]; omega) (clF (vl := [v, (.int .u64 (foldS x : Nat))]) rfl rfl ent37 (rPutUint_ok v xs (foldS x) w hv (fold_lt hx) hl0) ?_))))))
   rintro v3 w3 hf
   refine asg (v := v3) rfl rfl (wl_nil (tN ((hK5 _ _ ?_))))
   refine rt (ret1 (v := v3) Try.results46 rfl ?_)
   exact hf
theorem rCheck_ok (c : Cmd) (dv bv : Value) (w : World) (hc : c.ok) (hd : Ints .u64 (fun _ => True) w dv c.dr) (hb : Ints .i64 (fun _ => True) w bv c.bo) :
 CR Try.prog 29 #[(.agg #[(.int .i64 c.op), (.int .u64 c.u), (.int .u64 c.v), (.int .i64 c.wt), (.int .i64 c.t), dv, bv])] w (fun r w' => r = .int .i64 (checkS c) ∧ Chg [] w w') := by
 have hld := hd.len
 have hlb := hb.len
 refine enter (vs := [(.agg #[(.int .i64 c.op), (.int .u64 c.u), (.int .u64 c.v), (.int .i64 c.wt), (.int .i64 c.t), dv, bv])]) Try.func29 rfl Try.ntmps29 rfl ?_
 have hst0 := St.init w
 refine sq fun K1 hK1 => (rg (bx (v := (.agg #[(.int .i64 c.op), (.int .u64 c.u), (.int .u64 c.v), (.int .i64 c.wt), (.int .i64 c.t), dv, bv])) (cs := [(.int .i64 c.op), (.int .u64 c.u), (.int .u64 c.v), (.int .i64 c.wt), (.int .i64 c.t), dv, bv]) rfl rfl rfl hst0 (fun b1 w1 hn1 hc1 hs1 => asg (v := (.int .i64 0)) rfl rfl (wl_nil (tN ((hK1 _ _ ?_)))))))
 refine sq fun K2 hK2 => (rg (fa (o := 0) (o' := 0) rfl rfl Try.underlying28 rfl ti23 rfl (ld (a := ⟨b1, 0, none⟩) (v := (.int .i64 c.op)) rfl rfl Try.underlying23 rfl (St.blkCell hs1 (i := 0) rfl rfl) (clF (vl := [(.int .i64 c.op)]) rfl rfl ent41 (Uses_ok c.op w1) ?_))))
 rintro _ _ ⟨rfl, rfl⟩
 refine mv (v := (.tuple #[(.string (usesB c.op)), (.bool (okOp c.op))])) rfl rfl (ex (vs := #[(.string (usesB c.op)), (.bool (okOp c.op))]) (v := (.string (usesB c.op))) rfl rfl rfl (ex (vs := #[(.string (usesB c.op)), (.bool (okOp c.op))]) (v := (.bool (okOp c.op))) rfl rfl rfl (asg (v := (.string (usesB c.op))) rfl rfl (asg (v := (.bool (okOp c.op))) rfl rfl (wl_nil (tN ((hK2 _ _ ?_))))))))
 refine sq fun K3 hK3 => (sq fun K4 hK4 => (rg (wl_cut (k := 12) (α := Unit) (fun _ => [(1, (.pointer (some ⟨b1, 0, none⟩))), (3, (.string (usesB c.op))), (22, (.bool (!okOp c.op || (c.u != 0 && !useU c.op))))]) (fun _ w9 => w1 = w9) ?_ ?_)))
 · intro K5 hK5
   refine mv (v := (.bool (okOp c.op))) rfl rfl (not (b := (okOp c.op)) (c := (!(okOp c.op))) rfl rfl rfl (mv (v := (.bool (!(okOp c.op)))) rfl rfl ?_))
   cases hz1 : (okOp c.op : Bool)
   · skip
     refine sk rfl (sk rfl (sk rfl (sk rfl (sk rfl (sk rfl (sk rfl (sk rfl ?_)))))))
     refine pkT (v := (.bool true)) rfl rfl rfl (wl_nil (tN ?_))
     exact (hK5 () _ _ ⟨rfl, rfl, eqB (by simp [hz1]), trivial⟩ rfl)
   · skip
     refine fa (o := 0) (o' := 1) rfl rfl Try.underlying28 rfl ti24 rfl (ld (a := ⟨b1, 1, none⟩) (v := (.int .u64 c.u)) rfl rfl Try.underlying24 rfl (St.blkCell hs1 (i := 0) rfl rfl) ?_)
     by_cases h1 : (c.u : Int) = (0 : Int)
     · refine cmp (a := c.u) (b := 0) rfl rfl rfl (c_nne h1) (mv (v := (.bool false)) rfl rfl (sk rfl (sk rfl (sk rfl (pkF (v := (.bool false)) rfl rfl rfl (pkF (v := (.bool false)) rfl rfl rfl (wl_nil ?_)))))))
       refine tN ?_
       exact (hK5 () _ _ ⟨rfl, rfl, eqB (by simp [hz1, h1]), trivial⟩ rfl)
     · refine cmp (a := c.u) (b := 0) rfl rfl rfl (c_ne h1) (mv (v := (.bool true)) rfl rfl (mv (v := (.string (usesB c.op))) rfl rfl (clF (vl := [(.string (usesB c.op)), (.int .u8 117)]) rfl rfl ent42 (has_ok (usesB c.op) 117 w1 (Nat.le_trans (uses_le c.op) (by decide))) ?_)))
       rintro _ _ ⟨rfl, rfl⟩
       rw [(has_uses c.op).1]
       refine not (b := (useU c.op)) (c := (!(useU c.op))) rfl rfl rfl (pkT (v := (.bool (!(useU c.op)))) rfl rfl rfl (pkF (v := (.bool (!(useU c.op)))) rfl rfl rfl (wl_nil (tN ?_))))
       exact (hK5 () _ _ ⟨rfl, rfl, eqB (by simp [hz1, h1]), trivial⟩ rfl)
 · rintro _ s1 w2 rfl
   refine wl_cut (k := 10) (α := Unit) (fun _ => [(1, (.pointer (some ⟨b1, 0, none⟩))), (3, (.string (usesB c.op))), (32, (.bool ((!okOp c.op || (c.u != 0 && !useU c.op)) || (c.v != 0 && !useV c.op))))]) (fun _ w9 => w1 = w9) ?_ ?_
   · intro K6 hK6
     refine mv (v := (.bool (!okOp c.op || (c.u != 0 && !useU c.op)))) rfl rfl ?_
     cases hz2 : (!okOp c.op || (c.u != 0 && !useU c.op) : Bool)
     · skip
       refine fa (o := 0) (o' := 2) rfl rfl Try.underlying28 rfl ti24 rfl (ld (a := ⟨b1, 2, none⟩) (v := (.int .u64 c.v)) rfl rfl Try.underlying24 rfl (St.blkCell hs1 (i := 0) rfl rfl) ?_)
       by_cases h2 : (c.v : Int) = (0 : Int)
       · refine cmp (a := c.v) (b := 0) rfl rfl rfl (c_nne h2) (mv (v := (.bool false)) rfl rfl (sk rfl (sk rfl (sk rfl (pkF (v := (.bool false)) rfl rfl rfl (pkF (v := (.bool false)) rfl rfl rfl (wl_nil ?_)))))))
         refine tN ?_
         exact (hK6 () _ _ ⟨rfl, rfl, eqB (by simp [hz2, h2]), trivial⟩ rfl)
       · refine cmp (a := c.v) (b := 0) rfl rfl rfl (c_ne h2) (mv (v := (.bool true)) rfl rfl (mv (v := (.string (usesB c.op))) rfl rfl (clF (vl := [(.string (usesB c.op)), (.int .u8 118)]) rfl rfl ent42 (has_ok (usesB c.op) 118 w1 (Nat.le_trans (uses_le c.op) (by decide))) ?_)))
         rintro _ _ ⟨rfl, rfl⟩
         rw [(has_uses c.op).2.1]
         refine not (b := (useV c.op)) (c := (!(useV c.op))) rfl rfl rfl (pkT (v := (.bool (!(useV c.op)))) rfl rfl rfl (pkF (v := (.bool (!(useV c.op)))) rfl rfl rfl (wl_nil (tN ?_))))
         exact (hK6 () _ _ ⟨rfl, rfl, eqB (by simp [hz2, h2]), trivial⟩ rfl)
     · skip
       refine sk rfl (sk rfl (sk rfl (sk rfl (sk rfl (sk rfl (sk rfl (sk rfl ?_)))))))
       refine pkT (v := (.bool true)) rfl rfl rfl (wl_nil (tN ?_))
       exact (hK6 () _ _ ⟨rfl, rfl, eqB (by simp [hz2]), trivial⟩ rfl)
   · rintro _ s2 w3 rfl
     refine wl_cut (k := 10) (α := Unit) (fun _ => [(1, (.pointer (some ⟨b1, 0, none⟩))), (3, (.string (usesB c.op))), (42, (.bool (((!okOp c.op || (c.u != 0 && !useU c.op)) || (c.v != 0 && !useV c.op)) || (c.wt != 0 && !useW c.op))))]) (fun _ w9 => w1 = w9) ?_ ?_
     · intro K7 hK7
       refine mv (v := (.bool ((!okOp c.op || (c.u != 0 && !useU c.op)) || (c.v != 0 && !useV c.op)))) rfl rfl ?_
       cases hz3 : ((!okOp c.op || (c.u != 0 && !useU c.op)) || (c.v != 0 && !useV c.op) : Bool)
       · skip
         refine fa (o := 0) (o' := 3) rfl rfl Try.underlying28 rfl ti2 rfl (ld (a := ⟨b1, 3, none⟩) (v := (.int .i64 c.wt)) rfl rfl Try.underlying2 rfl (St.blkCell hs1 (i := 0) rfl rfl) ?_)
         by_cases h3 : (c.wt : Int) = (0 : Int)
         · refine cmp (a := c.wt) (b := 0) rfl rfl rfl (c_nne h3) (mv (v := (.bool false)) rfl rfl (sk rfl (sk rfl (sk rfl (pkF (v := (.bool false)) rfl rfl rfl (pkF (v := (.bool false)) rfl rfl rfl (wl_nil ?_)))))))
           refine tN ?_
           exact (hK7 () _ _ ⟨rfl, rfl, eqB (by simp [hz3, h3]), trivial⟩ rfl)
         · refine cmp (a := c.wt) (b := 0) rfl rfl rfl (c_ne h3) (mv (v := (.bool true)) rfl rfl (mv (v := (.string (usesB c.op))) rfl rfl (clF (vl := [(.string (usesB c.op)), (.int .u8 119)]) rfl rfl ent42 (has_ok (usesB c.op) 119 w1 (Nat.le_trans (uses_le c.op) (by decide))) ?_)))
           rintro _ _ ⟨rfl, rfl⟩
           rw [(has_uses c.op).2.2.1]
           refine not (b := (useW c.op)) (c := (!(useW c.op))) rfl rfl rfl (pkT (v := (.bool (!(useW c.op)))) rfl rfl rfl (pkF (v := (.bool (!(useW c.op)))) rfl rfl rfl (wl_nil (tN ?_))))
           exact (hK7 () _ _ ⟨rfl, rfl, eqB (by simp [hz3, h3]), trivial⟩ rfl)
       · skip
         refine sk rfl (sk rfl (sk rfl (sk rfl (sk rfl (sk rfl (sk rfl (sk rfl ?_)))))))
         refine pkT (v := (.bool true)) rfl rfl rfl (wl_nil (tN ?_))
         exact (hK7 () _ _ ⟨rfl, rfl, eqB (by simp [hz3]), trivial⟩ rfl)
     · rintro _ s3 w4 rfl
       refine wl_cut (k := 10) (α := Unit) (fun _ => [(1, (.pointer (some ⟨b1, 0, none⟩))), (3, (.string (usesB c.op))), (52, (.bool ((((!okOp c.op || (c.u != 0 && !useU c.op)) || (c.v != 0 && !useV c.op)) || (c.wt != 0 && !useW c.op)) || (c.t != 0 && !useT c.op))))]) (fun _ w9 => w1 = w9) ?_ ?_
       · intro K8 hK8
         refine mv (v := (.bool (((!okOp c.op || (c.u != 0 && !useU c.op)) || (c.v != 0 && !useV c.op)) || (c.wt != 0 && !useW c.op)))) rfl rfl ?_
         cases hz4 : (((!okOp c.op || (c.u != 0 && !useU c.op)) || (c.v != 0 && !useV c.op)) || (c.wt != 0 && !useW c.op) : Bool)
         · skip
           refine fa (o := 0) (o' := 4) rfl rfl Try.underlying28 rfl ti2 rfl (ld (a := ⟨b1, 4, none⟩) (v := (.int .i64 c.t)) rfl rfl Try.underlying2 rfl (St.blkCell hs1 (i := 0) rfl rfl) ?_)
           by_cases h4 : (c.t : Int) = (0 : Int)
           · refine cmp (a := c.t) (b := 0) rfl rfl rfl (c_nne h4) (mv (v := (.bool false)) rfl rfl (sk rfl (sk rfl (sk rfl (pkF (v := (.bool false)) rfl rfl rfl (pkF (v := (.bool false)) rfl rfl rfl (wl_nil ?_)))))))
             refine tN ?_
             exact (hK8 () _ _ ⟨rfl, rfl, eqB (by simp [hz4, h4]), trivial⟩ rfl)
           · refine cmp (a := c.t) (b := 0) rfl rfl rfl (c_ne h4) (mv (v := (.bool true)) rfl rfl (mv (v := (.string (usesB c.op))) rfl rfl (clF (vl := [(.string (usesB c.op)), (.int .u8 116)]) rfl rfl ent42 (has_ok (usesB c.op) 116 w1 (Nat.le_trans (uses_le c.op) (by decide))) ?_)))
             rintro _ _ ⟨rfl, rfl⟩
             rw [(has_uses c.op).2.2.2.1]
             refine not (b := (useT c.op)) (c := (!(useT c.op))) rfl rfl rfl (pkT (v := (.bool (!(useT c.op)))) rfl rfl rfl (pkF (v := (.bool (!(useT c.op)))) rfl rfl rfl (wl_nil (tN ?_))))
             exact (hK8 () _ _ ⟨rfl, rfl, eqB (by simp [hz4, h4]), trivial⟩ rfl)
         · skip
           refine sk rfl (sk rfl (sk rfl (sk rfl (sk rfl (sk rfl (sk rfl (sk rfl ?_)))))))
           refine pkT (v := (.bool true)) rfl rfl rfl (wl_nil (tN ?_))
           exact (hK8 () _ _ ⟨rfl, rfl, eqB (by simp [hz4]), trivial⟩ rfl)
       · rintro _ s4 w5 rfl
         refine wl_nil (tN ((hK4 _ _ ?_)))
         cases hz5 : ((((!okOp c.op || (c.u != 0 && !useU c.op)) || (c.v != 0 && !useV c.op)) || (c.wt != 0 && !useW c.op)) || (c.t != 0 && !useT c.op) : Bool)
         · skip
           refine cdF rfl (sp (tN ((hK3 _ _ ?_))))
           refine sq fun K9 hK9 => (sq fun K10 hK10 => (rg (wl_cut (k := 9) (α := Unit) (fun _ => [(1, (.pointer (some ⟨b1, 0, none⟩))), (3, (.string (usesB c.op))), (61, (.bool (!c.dr.isEmpty && !useD c.op)))]) (fun _ w9 => w1 = w9) ?_ ?_)))
           · intro K11 hK11
             refine fa (o := 0) (o' := 5) rfl rfl Try.underlying28 rfl ti25 rfl (ld (a := ⟨b1, 5, none⟩) (v := dv) rfl rfl Try.underlying25 rfl (St.blkCell hs1 (i := 0) rfl rfl) (lenI (v := dv) rfl rfl Try.underlying25 hd ?_))
             by_cases h5 : ((c.dr.length : Int) : Int) > (0 : Int)
             · refine cmp (a := (c.dr.length : Int)) (b := 0) rfl rfl rfl (c_gt h5) ?_
               replace h5 := emp_pos h5
               refine mv (v := (.bool true)) rfl rfl (mv (v := (.string (usesB c.op))) rfl rfl (clF (vl := [(.string (usesB c.op)), (.int .u8 100)]) rfl rfl ent42 (has_ok (usesB c.op) 100 w1 (Nat.le_trans (uses_le c.op) (by decide))) ?_))
               rintro _ _ ⟨rfl, rfl⟩
               rw [(has_uses c.op).2.2.2.2.1]
               refine not (b := (useD c.op)) (c := (!(useD c.op))) rfl rfl rfl (pkT (v := (.bool (!(useD c.op)))) rfl rfl rfl (wl_nil (tN ?_)))
               exact (hK11 () _ _ ⟨rfl, rfl, eqB (by simp [hz5, h5]), trivial⟩ rfl)
             · refine cmp (a := (c.dr.length : Int)) (b := 0) rfl rfl rfl (c_ngt h5) ?_
               replace h5 := emp_zero h5
               refine mv (v := (.bool false)) rfl rfl (sk rfl (sk rfl (sk rfl (pkF (v := (.bool false)) rfl rfl rfl (wl_nil (tN ?_))))))
               exact (hK11 () _ _ ⟨rfl, rfl, eqB (by simp [hz5, h5]), trivial⟩ rfl)
           · rintro _ s5 w6 rfl
             refine wl_cut (k := 11) (α := Unit) (fun _ => [(1, (.pointer (some ⟨b1, 0, none⟩))), (3, (.string (usesB c.op))), (72, (.bool ((!c.dr.isEmpty && !useD c.op) || (!c.bo.isEmpty && !useB c.op))))]) (fun _ w9 => w1 = w9) ?_ ?_
             · intro K12 hK12
               refine mv (v := (.bool (!c.dr.isEmpty && !useD c.op))) rfl rfl ?_
               cases hz6 : (!c.dr.isEmpty && !useD c.op : Bool)
               · skip
                 refine fa (o := 0) (o' := 6) rfl rfl Try.underlying28 rfl ti26 rfl (ld (a := ⟨b1, 6, none⟩) (v := bv) rfl rfl Try.underlying26 rfl (St.blkCell hs1 (i := 0) rfl rfl) (lenI (v := bv) rfl rfl Try.underlying26 hb ?_))
                 by_cases h6 : ((c.bo.length : Int) : Int) > (0 : Int)
                 · refine cmp (a := (c.bo.length : Int)) (b := 0) rfl rfl rfl (c_gt h6) ?_
                   replace h6 := emp_pos h6
                   refine mv (v := (.bool true)) rfl rfl (mv (v := (.string (usesB c.op))) rfl rfl (clF (vl := [(.string (usesB c.op)), (.int .u8 98)]) rfl rfl ent42 (has_ok (usesB c.op) 98 w1 (Nat.le_trans (uses_le c.op) (by decide))) ?_))
                   rintro _ _ ⟨rfl, rfl⟩
                   rw [(has_uses c.op).2.2.2.2.2]
                   refine not (b := (useB c.op)) (c := (!(useB c.op))) rfl rfl rfl (pkT (v := (.bool (!(useB c.op)))) rfl rfl rfl (pkF (v := (.bool (!(useB c.op)))) rfl rfl rfl (wl_nil (tN ?_))))
                   exact (hK12 () _ _ ⟨rfl, rfl, eqB (by simp [hz5, hz6, h6]), trivial⟩ rfl)
                 · refine cmp (a := (c.bo.length : Int)) (b := 0) rfl rfl rfl (c_ngt h6) ?_
                   replace h6 := emp_zero h6
                   refine mv (v := (.bool false)) rfl rfl (sk rfl (sk rfl (sk rfl (pkF (v := (.bool false)) rfl rfl rfl (pkF (v := (.bool false)) rfl rfl rfl (wl_nil (tN ?_)))))))
                   exact (hK12 () _ _ ⟨rfl, rfl, eqB (by simp [hz5, hz6, h6]), trivial⟩ rfl)
               · skip
                 refine sk rfl (sk rfl (sk rfl (sk rfl (sk rfl (sk rfl (sk rfl (sk rfl ?_)))))))
                 refine sk rfl (pkT (v := (.bool true)) rfl rfl rfl (wl_nil (tN ?_)))
                 exact (hK12 () _ _ ⟨rfl, rfl, eqB (by simp [hz5, hz6]), trivial⟩ rfl)
             · rintro _ s6 w7 rfl
               refine wl_nil (tN ((hK10 _ _ ?_)))
               cases hz7 : ((!c.dr.isEmpty && !useD c.op) || (!c.bo.isEmpty && !useB c.op) : Bool)
               · skip
                 refine cdF rfl (sp (tN ((hK9 _ _ ?_))))
                 refine sq fun K13 hK13 => (sq fun K14 hK14 => (rg (fa (o := 0) (o' := 5) rfl rfl Try.underlying28 rfl ti25 rfl (ld (a := ⟨b1, 5, none⟩) (v := dv) rfl rfl Try.underlying25 rfl (St.blkCell hs1 (i := 0) rfl rfl) (lenI (v := dv) rfl rfl Try.underlying25 hd ?_)))))
                 by_cases h7 : ((c.dr.length : Int) : Int) > (16384 : Int)
                 · refine cmp (a := (c.dr.length : Int)) (b := 16384) rfl rfl rfl (c_gt h7) (mv (v := (.bool true)) rfl rfl (sk rfl (sk rfl (sk rfl (sk rfl (pkT (v := (.bool true)) rfl rfl rfl (wl_nil ?_)))))))
                   refine tN ((hK14 _ _ ?_))
                   refine cdT rfl (sq fun K15 hK15 => (rg (asg (v := (.int .i64 16)) rfl rfl (wl_nil (tN ((hK15 _ _ ?_)))))))
                   refine rt (tR (?_))
                   refine ret1 (v := (.int .i64 16)) Try.results29 rfl ?_
                   exact ⟨by simp only [checkS, hz5, hz7, if_true, if_false, Bool.false_eq_true, reduceIte]; rw [if_pos (by omega)], hs1.chg (by simp)⟩
                 · refine cmp (a := (c.dr.length : Int)) (b := 16384) rfl rfl rfl (c_ngt h7) (mv (v := (.bool false)) rfl rfl (fa (o := 0) (o' := 6) rfl rfl Try.underlying28 rfl ti26 rfl (ld (a := ⟨b1, 6, none⟩) (v := bv) rfl rfl Try.underlying26 rfl (St.blkCell hs1 (i := 0) rfl rfl) (lenI (v := bv) rfl rfl Try.underlying26 hb ?_))))
                   by_cases h8 : ((c.bo.length : Int) : Int) > (1024 : Int)
                   · refine cmp (a := (c.bo.length : Int)) (b := 1024) rfl rfl rfl (c_gt h8) (pkF (v := (.bool true)) rfl rfl rfl (wl_nil (tN ((hK14 _ _ ?_)))))
                     refine cdT rfl (sq fun K16 hK16 => (rg (asg (v := (.int .i64 16)) rfl rfl (wl_nil (tN ((hK16 _ _ ?_)))))))
                     refine rt (tR (?_))
                     refine ret1 (v := (.int .i64 16)) Try.results29 rfl ?_
                     exact ⟨by simp only [checkS, hz5, hz7, if_true, if_false, Bool.false_eq_true, reduceIte]; rw [if_pos (by omega)], hs1.chg (by simp)⟩
                   · refine cmp (a := (c.bo.length : Int)) (b := 1024) rfl rfl rfl (c_ngt h8) (pkF (v := (.bool false)) rfl rfl rfl (wl_nil (tN ((hK14 _ _ ?_)))))
                     refine cdF rfl (sp (tN ((hK13 _ _ ?_))))
                     refine sq fun K17 hK17 => (rg (asg (v := (.int .i64 0)) rfl rfl (wl_nil (tN ((hK17 _ _ ?_))))))
                     refine rt (ret1 (v := (.int .i64 0)) Try.results29 rfl ?_)
                     exact ⟨by simp only [checkS, hz5, hz7, if_true, if_false, Bool.false_eq_true, reduceIte]; rw [if_neg (by omega)], hs1.chg (by simp)⟩
               · skip
                 refine cdT rfl (sq fun K18 hK18 => (rg (asg (v := (.int .i64 2)) rfl rfl (wl_nil (tN ((hK18 _ _ ?_)))))))
                 refine rt (tR (?_))
                 refine ret1 (v := (.int .i64 2)) Try.results29 rfl ?_
                 exact ⟨by simp only [checkS, hz5, hz7, if_true, if_false, Bool.false_eq_true, reduceIte], hs1.chg (by simp)⟩
         · skip
           refine cdT rfl (sq fun K19 hK19 => (rg (asg (v := (.int .i64 2)) rfl rfl (wl_nil (tN ((hK19 _ _ ?_)))))))
           refine rt (tR (?_))
           refine ret1 (v := (.int .i64 2)) Try.results29 rfl ?_
           exact ⟨by simp only [checkS, hz5, if_true, if_false, Bool.false_eq_true, reduceIte], hs1.chg (by simp)⟩
theorem rPutUint_i (v : Value) (xs : List Int) (x : Int) (w : World) (hv : Ints .u8 (fun _ => True) w v xs) (hx : InK .u64 x) (hl0 : xs.length ≤ 1000000000000) :
 CR Try.prog 37 #[v, .int .u64 x] w (fun r w' => Fresh .u8 w w' r 5 (xs ++ putU x.toNat) ∧ Chg [] w w') := by
 have := hx.u64
 obtain ⟨n, rfl⟩ := Int.eq_ofNat_of_zero_le this.1
 exact rPutUint_ok v xs n w hv (by omega) hl0
theorem payload_ok (c : Cmd) (dv bv : Value) (w : World) (hc : c.ok) (hd : Ints .u64 (fun _ => True) w dv c.dr) (hb : Ints .i64 (fun _ => True) w bv c.bo) (hop : okOp c.op = true) (hN1 : c.dr.length ≤ 16384) (hN2 : c.bo.length ≤ 1024) :
 CR Try.prog 36 #[(.agg #[(.int .i64 c.op), (.int .u64 c.u), (.int .u64 c.v), (.int .i64 c.wt), (.int .i64 c.t), dv, bv])] w (fun r w' => Fresh .u8 w w' r 5 (payloadS c) ∧ Chg [] w w' ∧ (∀ y ∈ payloadS c, InK .u8 y) ∧ (payloadS c).length ≤ 1000000) := by
 have hop' : 1 ≤ c.op ∧ c.op ≤ 15 := by simpa [okOp] using hop
 have hus := uses_le c.op
 refine enter (vs := [(.agg #[(.int .i64 c.op), (.int .u64 c.u), (.int .u64 c.v), (.int .i64 c.wt), (.int .i64 c.t), dv, bv])]) Try.func36 rfl Try.ntmps36 rfl ?_
 have hst0 := St.init w
 refine sq fun K1 hK1 => (rg (bx (v := (.agg #[(.int .i64 c.op), (.int .u64 c.u), (.int .u64 c.v), (.int .i64 c.wt), (.int .i64 c.t), dv, bv])) (cs := [(.int .i64 c.op), (.int .u64 c.u), (.int .u64 c.v), (.int .i64 c.wt), (.int .i64 c.t), dv, bv]) rfl rfl rfl hst0 (fun b1 w1 hn1 hc1 hs1 => asg (v := (.slice none 0 0)) rfl rfl (wl_nil (tN ((hK1 _ _ ?_)))))))
 refine sq fun K2 hK2 => (rg (fa (o := 0) (o' := 0) rfl rfl Try.underlying28 rfl ti23 rfl (ld (a := ⟨b1, 0, none⟩) (v := (.int .i64 c.op)) rfl rfl Try.underlying23 rfl (St.blkCell hs1 (i := 0) rfl rfl) (cv (a := c.op) (e := c.op) rfl rfl Try.underlying23 Try.underlying5 (w8u (by omega)) (bsv (vs := [(.int .u8 c.op)]) (cs := [(.int .u8 c.op)]) rfl rfl Try.underlying22 ti5 rfl (by simp [Value.cells]) rfl rfl rfl hs1 ?_)))))
 intro b2 w2 hn2 hc2 hs2
 have hs2 : St _ [rowI .u8 (.slice (some ⟨b2, 0, none⟩) 1 1) 5 ([c.op]), blk b1 28 [(.int .i64 c.op), (.int .u64 c.u), (.int .u64 c.v), (.int .i64 c.wt), (.int .i64 c.t), dv, bv]] w2 := hs2
 refine asg (v := (.slice (some ⟨b2, 0, none⟩) 1 1)) rfl rfl (wl_nil (tN ((hK2 _ _ ?_))))
 refine sq fun K3 hK3 => (rg (fa (o := 0) (o' := 0) rfl rfl Try.underlying28 rfl ti23 rfl (ld (a := ⟨b1, 0, none⟩) (v := (.int .i64 c.op)) rfl rfl Try.underlying23 rfl (St.blkCell hs2 (i := 1) rfl rfl) (clF (vl := [(.int .i64 c.op)]) rfl rfl ent41 (Uses_ok c.op w2) ?_))))
 rintro _ _ ⟨rfl, rfl⟩
 refine mv (v := (.tuple #[(.string (usesB c.op)), (.bool (okOp c.op))])) rfl rfl (ex (vs := #[(.string (usesB c.op)), (.bool (okOp c.op))]) (v := (.string (usesB c.op))) rfl rfl rfl (ex (vs := #[(.string (usesB c.op)), (.bool (okOp c.op))]) (v := (.bool (okOp c.op))) rfl rfl rfl (asg (v := (.string (usesB c.op))) rfl rfl (asg (v := (.bool (okOp c.op))) rfl rfl (wl_nil (tN ((hK3 _ _ ?_))))))))
 refine sq fun K4 hK4 => (sq fun K5 hK5 => (rg (asg (v := (.int .i64 0)) rfl rfl (wl_nil (tN ((hK5 _ _ ?_)))))))
 refine bk (lp (α := Nat × Value × List Int) (fun (i, va, zs) => [(1, (.pointer (some ⟨b1, 0, none⟩))), (3, va), (4, (.string (usesB c.op))), (6, (.int .i64 i))]) (fun (i, va, zs) w1 => St [(w, [])] [rowI .u8 va 5 zs, blk b1 28 [(.int .i64 c.op), (.int .u64 c.u), (.int .u64 c.v), (.int .i64 c.wt), (.int .i64 c.t), dv, bv]] w1 ∧ i ≤ (usesB c.op).size ∧ zs = c.op :: ((usesB c.op).data.toList.take i).flatMap (fieldS c) ∧ (∀ y ∈ zs, InK .u8 y) ∧ zs.length ≤ 1 + 200000 * i) (fun (i, va, zs) => (usesB c.op).size - i) (0, (.slice (some ⟨b2, 0, none⟩) 1 1), [c.op]) ⟨rfl, rfl, rfl, eqI (by first | rfl | omega), trivial⟩ (⟨hs2, by omega, by simp, (by intro y hy; simp at hy; subst hy; show (0 : Int) ≤ _ ∧ _ ≤ (255 : Int); omega), by simp⟩) ?_)
 rintro ⟨i, va, zs⟩ s1 w3 ⟨hst, hi1, he, hin, hlz⟩
 refine sq fun K6 hK6 => (sq fun K7 hK7 => (rg (mv (v := (.int .i64 i)) rfl rfl (mv (v := (.string (usesB c.op))) rfl rfl (lenStr (b := (usesB c.op)) rfl rfl Try.underlying9 ?_)))))
 by_cases h1 : ((i : Int) : Int) < (((usesB c.op).size : Int) : Int)
 · refine cmp (a := (i : Int)) (b := ((usesB c.op).size : Int)) rfl rfl rfl (c_lt h1) ?_
   have hi : i < (usesB c.op).size := by omega
   obtain ⟨ch, hch, hch2⟩ := ba_get hi
   refine wl_nil (tN ((hK7 _ _ ?_)))
   refine cdT rfl (sp (tN ((hK6 _ _ ?_))))
   refine sq fun K8 hK8 => (bk (sq fun K9 hK9 => (rg (mv (v := (.string (usesB c.op))) rfl rfl (mv (v := (.int .i64 i)) rfl rfl (idxStr (i := (i : Int)) (c := ch) rfl rfl rfl Try.underlying9 (by omega) hch (wl_nil ?_)))))))
   refine tN ((hK9 _ _ ?_))
   refine bk (sq fun K10 hK10 => (rg ?_))
   by_cases h2 : (ch.toNat : Int) = (117 : Int)
   · refine cmp (a := ch.toNat) (b := 117) rfl rfl rfl (c_eq h2) (asg (v := (.bool true)) rfl rfl (wl_nil (tN ((hK10 _ _ ?_)))))
     refine cdT rfl (rg (mv (v := va) rfl rfl (fa (o := 0) (o' := 1) rfl rfl Try.underlying28 rfl ti24 rfl (ld (a := ⟨b1, 1, none⟩) (v := (.int .u64 c.u)) rfl rfl Try.underlying24 rfl (St.blkCell hst (i := 1) rfl rfl) (clF (vl := [va, (.int .u64 c.u)]) rfl rfl ent37 (rPutUint_i va zs c.u w3 (St.rowInts hst (i := 0) rfl hin).any hc.u (by omega)) ?_)))))
     rintro v1 w4 hf
     have hs3 : St _ [rowI .u8 v1 5 (zs ++ (putU c.u.toNat)), rowI .u8 va 5 zs, blk b1 28 [(.int .i64 c.op), (.int .u64 c.u), (.int .u64 c.v), (.int .i64 c.wt), (.int .i64 c.t), dv, bv]] w4 := St.addFresh hst hf.2 hf.1
     have hs4 := St.sub (L' := [rowI .u8 v1 5 (zs ++ (putU c.u.toNat)), blk b1 28 [(.int .i64 c.op), (.int .u64 c.u), (.int .u64 c.v), (.int .i64 c.wt), (.int .i64 c.t), dv, bv]]) hs3 (List.Sublist.cons_cons _ (List.Sublist.cons _ (List.Sublist.refl _)))
     have hin' := in_append hin (putU_in (u64_lt hc.u))
     have hin := hin'
     have hpl : (zs ++ putU c.u.toNat).length = (zs).length + (putU c.u.toNat).length := List.length_append
     have hpu : (putU c.u.toNat).length ≤ 11 := putU_len _
     refine asg (v := v1) rfl rfl (wl_nil (bN (bN (tN ((hK8 _ _ ?_))))))
     refine rg (mv (v := (.int .i64 i)) rfl rfl (ar (a := (i : Int)) (b := 1) (c := (i : Int) + 1) rfl rfl rfl rfl (w64 (by omega)) (asg (v := (.int .i64 ((i : Int) + 1))) rfl rfl (wl_nil (tN (?_))))))
     exact again ((i + 1), v1, (zs ++ (putU c.u.toNat))) ⟨rfl, rfl, rfl, eqI (by first | rfl | omega), trivial⟩ (⟨hs4, by omega, pay_next he hch2 (by simp [fieldS, h1, h2]), hin, by rw [hpl]; omega⟩) (by show ((usesB c.op).size - (i + 1) : Nat) < (usesB c.op).size - i; omega)
   · refine cmp (a := ch.toNat) (b := 117) rfl rfl rfl (c_neq h2) (asg (v := (.bool false)) rfl rfl (wl_nil (tN ((hK10 _ _ ?_)))))
     refine cdF rfl (sq fun K11 hK11 => (rg ?_))
     by_cases h3 : (ch.toNat : Int) = (118 : Int)
     · refine cmp (a := ch.toNat) (b := 118) rfl rfl rfl (c_eq h3) (asg (v := (.bool true)) rfl rfl (wl_nil (tN ((hK11 _ _ ?_)))))
       refine cdT rfl (rg (mv (v := va) rfl rfl (fa (o := 0) (o' := 2) rfl rfl Try.underlying28 rfl ti24 rfl (ld (a := ⟨b1, 2, none⟩) (v := (.int .u64 c.v)) rfl rfl Try.underlying24 rfl (St.blkCell hst (i := 1) rfl rfl) (clF (vl := [va, (.int .u64 c.v)]) rfl rfl ent37 (rPutUint_i va zs c.v w3 (St.rowInts hst (i := 0) rfl hin).any hc.v (by omega)) ?_)))))
       rintro v2 w5 hf
       have hs5 : St _ [rowI .u8 v2 5 (zs ++ (putU c.v.toNat)), rowI .u8 va 5 zs, blk b1 28 [(.int .i64 c.op), (.int .u64 c.u), (.int .u64 c.v), (.int .i64 c.wt), (.int .i64 c.t), dv, bv]] w5 := St.addFresh hst hf.2 hf.1
       have hs6 := St.sub (L' := [rowI .u8 v2 5 (zs ++ (putU c.v.toNat)), blk b1 28 [(.int .i64 c.op), (.int .u64 c.u), (.int .u64 c.v), (.int .i64 c.wt), (.int .i64 c.t), dv, bv]]) hs5 (List.Sublist.cons_cons _ (List.Sublist.cons _ (List.Sublist.refl _)))
       have hin' := in_append hin (putU_in (u64_lt hc.v))
       have hin := hin'
       have hpl : (zs ++ putU c.v.toNat).length = (zs).length + (putU c.v.toNat).length := List.length_append
       have hpu : (putU c.v.toNat).length ≤ 11 := putU_len _
       refine asg (v := v2) rfl rfl (wl_nil (bN (bN (tN ((hK8 _ _ ?_))))))
       refine rg (mv (v := (.int .i64 i)) rfl rfl (ar (a := (i : Int)) (b := 1) (c := (i : Int) + 1) rfl rfl rfl rfl (w64 (by omega)) (asg (v := (.int .i64 ((i : Int) + 1))) rfl rfl (wl_nil (tN (?_))))))
       exact again ((i + 1), v2, (zs ++ (putU c.v.toNat))) ⟨rfl, rfl, rfl, eqI (by first | rfl | omega), trivial⟩ (⟨hs6, by omega, pay_next he hch2 (by simp [fieldS, h1, h2, h3]), hin, by rw [hpl]; omega⟩) (by show ((usesB c.op).size - (i + 1) : Nat) < (usesB c.op).size - i; omega)
     · refine cmp (a := ch.toNat) (b := 118) rfl rfl rfl (c_neq h3) (asg (v := (.bool false)) rfl rfl (wl_nil (tN ((hK11 _ _ ?_)))))
       refine cdF rfl (sq fun K12 hK12 => (rg ?_))
       by_cases h4 : (ch.toNat : Int) = (119 : Int)
       · refine cmp (a := ch.toNat) (b := 119) rfl rfl rfl (c_eq h4) (asg (v := (.bool true)) rfl rfl (wl_nil (tN ((hK12 _ _ ?_)))))
         refine cdT rfl (rg (mv (v := va) rfl rfl (fa (o := 0) (o' := 3) rfl rfl Try.underlying28 rfl ti2 rfl (ld (a := ⟨b1, 3, none⟩) (v := (.int .i64 c.wt)) rfl rfl Try.underlying2 rfl (St.blkCell hst (i := 1) rfl rfl) (clF (vl := [va, (.int .i64 c.wt)]) rfl rfl ent46 (rPutInt_ok va zs c.wt w3 (St.rowInts hst (i := 0) rfl hin).any hc.wt (by omega)) ?_)))))
         rintro v3 w6 hf
         have hs7 : St _ [rowI .u8 v3 5 (zs ++ (putU (foldS c.wt))), rowI .u8 va 5 zs, blk b1 28 [(.int .i64 c.op), (.int .u64 c.u), (.int .u64 c.v), (.int .i64 c.wt), (.int .i64 c.t), dv, bv]] w6 := St.addFresh hst hf.2 hf.1
         have hs8 := St.sub (L' := [rowI .u8 v3 5 (zs ++ (putU (foldS c.wt))), blk b1 28 [(.int .i64 c.op), (.int .u64 c.u), (.int .u64 c.v), (.int .i64 c.wt), (.int .i64 c.t), dv, bv]]) hs7 (List.Sublist.cons_cons _ (List.Sublist.cons _ (List.Sublist.refl _)))
         have hin' := in_append hin (putU_in (fold_lt hc.wt))
         have hin := hin'
         have hpl : (zs ++ putU (foldS c.wt)).length = (zs).length + (putU (foldS c.wt)).length := List.length_append
         have hpu : (putU (foldS c.wt)).length ≤ 11 := putU_len _
         refine asg (v := v3) rfl rfl (wl_nil (bN (bN (tN ((hK8 _ _ ?_))))))
         refine rg (mv (v := (.int .i64 i)) rfl rfl (ar (a := (i : Int)) (b := 1) (c := (i : Int) + 1) rfl rfl rfl rfl (w64 (by omega)) (asg (v := (.int .i64 ((i : Int) + 1))) rfl rfl (wl_nil (tN (?_))))))
         exact again ((i + 1), v3, (zs ++ (putU (foldS c.wt)))) ⟨rfl, rfl, rfl, eqI (by first | rfl | omega), trivial⟩ (⟨hs8, by omega, pay_next he hch2 (by simp [fieldS, h1, h2, h3, h4]), hin, by rw [hpl]; omega⟩) (by show ((usesB c.op).size - (i + 1) : Nat) < (usesB c.op).size - i; omega)
       · refine cmp (a := ch.toNat) (b := 119) rfl rfl rfl (c_neq h4) (asg (v := (.bool false)) rfl rfl (wl_nil (tN ((hK12 _ _ ?_)))))
         refine cdF rfl (sq fun K13 hK13 => (rg ?_))
         by_cases h5 : (ch.toNat : Int) = (116 : Int)
         · refine cmp (a := ch.toNat) (b := 116) rfl rfl rfl (c_eq h5) (asg (v := (.bool true)) rfl rfl (wl_nil (tN ((hK13 _ _ ?_)))))
           refine cdT rfl (rg (mv (v := va) rfl rfl (fa (o := 0) (o' := 4) rfl rfl Try.underlying28 rfl ti2 rfl (ld (a := ⟨b1, 4, none⟩) (v := (.int .i64 c.t)) rfl rfl Try.underlying2 rfl (St.blkCell hst (i := 1) rfl rfl) (clF (vl := [va, (.int .i64 c.t)]) rfl rfl ent46 (rPutInt_ok va zs c.t w3 (St.rowInts hst (i := 0) rfl hin).any hc.t (by omega)) ?_)))))
           rintro v4 w7 hf
           have hs9 : St _ [rowI .u8 v4 5 (zs ++ (putU (foldS c.t))), rowI .u8 va 5 zs, blk b1 28 [(.int .i64 c.op), (.int .u64 c.u), (.int .u64 c.v), (.int .i64 c.wt), (.int .i64 c.t), dv, bv]] w7 := St.addFresh hst hf.2 hf.1
           have hs10 := St.sub (L' := [rowI .u8 v4 5 (zs ++ (putU (foldS c.t))), blk b1 28 [(.int .i64 c.op), (.int .u64 c.u), (.int .u64 c.v), (.int .i64 c.wt), (.int .i64 c.t), dv, bv]]) hs9 (List.Sublist.cons_cons _ (List.Sublist.cons _ (List.Sublist.refl _)))
           have hin' := in_append hin (putU_in (fold_lt hc.t))
           have hin := hin'
           have hpl : (zs ++ putU (foldS c.t)).length = (zs).length + (putU (foldS c.t)).length := List.length_append
           have hpu : (putU (foldS c.t)).length ≤ 11 := putU_len _
           refine asg (v := v4) rfl rfl (wl_nil (bN (bN (tN ((hK8 _ _ ?_))))))
           refine rg (mv (v := (.int .i64 i)) rfl rfl (ar (a := (i : Int)) (b := 1) (c := (i : Int) + 1) rfl rfl rfl rfl (w64 (by omega)) (asg (v := (.int .i64 ((i : Int) + 1))) rfl rfl (wl_nil (tN (?_))))))
           exact again ((i + 1), v4, (zs ++ (putU (foldS c.t)))) ⟨rfl, rfl, rfl, eqI (by first | rfl | omega), trivial⟩ (⟨hs10, by omega, pay_next he hch2 (by simp [fieldS, h1, h2, h3, h4, h5]), hin, by rw [hpl]; omega⟩) (by show ((usesB c.op).size - (i + 1) : Nat) < (usesB c.op).size - i; omega)
         · refine cmp (a := ch.toNat) (b := 116) rfl rfl rfl (c_neq h5) (asg (v := (.bool false)) rfl rfl (wl_nil (tN ((hK13 _ _ ?_)))))
           refine cdF rfl (sq fun K14 hK14 => (rg ?_))
           by_cases h6 : (ch.toNat : Int) = (100 : Int)
           · refine cmp (a := ch.toNat) (b := 100) rfl rfl rfl (c_eq h6) (asg (v := (.bool true)) rfl rfl (wl_nil (tN ((hK14 _ _ ?_)))))
             refine cdT rfl (sq fun K15 hK15 => (rg (mv (v := va) rfl rfl (fa (o := 0) (o' := 5) rfl rfl Try.underlying28 rfl ti25 rfl (ld (a := ⟨b1, 5, none⟩) (v := dv) rfl rfl Try.underlying25 rfl (St.blkCell hst (i := 1) rfl rfl) (lenI (v := dv) rfl rfl Try.underlying25 hd (cv (a := (c.dr.length : Int)) (e := (c.dr.length : Int)) rfl rfl Try.underlying3 Try.underlying24 (w64u (by omega)) ?_)))))))
             refine clF (vl := [va, (.int .u64 (c.dr.length : Int))]) rfl rfl ent37 (rPutUint_ok va zs c.dr.length w3 (St.rowInts hst (i := 0) rfl hin).any (by omega) (by omega)) ?_
             rintro v5 w8 hf
             have hs11 : St _ [rowI .u8 v5 5 (zs ++ (putU c.dr.length)), rowI .u8 va 5 zs, blk b1 28 [(.int .i64 c.op), (.int .u64 c.u), (.int .u64 c.v), (.int .i64 c.wt), (.int .i64 c.t), dv, bv]] w8 := St.addFresh hst hf.2 hf.1
             have hs12 := St.sub (L' := [rowI .u8 v5 5 (zs ++ (putU c.dr.length)), blk b1 28 [(.int .i64 c.op), (.int .u64 c.u), (.int .u64 c.v), (.int .i64 c.wt), (.int .i64 c.t), dv, bv]]) hs11 (List.Sublist.cons_cons _ (List.Sublist.cons _ (List.Sublist.refl _)))
             have hin' := in_append hin (putU_in (m := c.dr.length) (by omega))
             have hin := hin'
             have hpl : (zs ++ putU c.dr.length).length = (zs).length + (putU c.dr.length).length := List.length_append
             have hpu : (putU c.dr.length).length ≤ 11 := putU_len _
             refine asg (v := v5) rfl rfl (wl_nil (tN ((hK15 _ _ ?_))))
             refine sq fun K16 hK16 => (rg (asg (v := (.int .i64 0)) rfl rfl (wl_nil (tN ((hK16 _ _ ?_))))))
             refine bk (lp (α := Nat × Value × List Int) (fun (k, vb, zs2) => [(1, (.pointer (some ⟨b1, 0, none⟩))), (3, vb), (4, (.string (usesB c.op))), (6, (.int .i64 i)), (7, (.int .i64 k))]) (fun (k, vb, zs2) w1 => St [(w, [])] [rowI .u8 vb 5 zs2, blk b1 28 [(.int .i64 c.op), (.int .u64 c.u), (.int .u64 c.v), (.int .i64 c.wt), (.int .i64 c.t), dv, bv]] w1 ∧ k ≤ c.dr.length ∧ zs2 = zs ++ putU c.dr.length ++ (c.dr.take k).flatMap (fun x => putU x.toNat) ∧ (∀ y ∈ zs2, InK .u8 y) ∧ zs2.length ≤ zs.length + 11 + 11 * k) (fun (k, vb, zs2) => c.dr.length - k) (0, v5, (zs ++ putU c.dr.length)) ⟨rfl, rfl, rfl, rfl, eqI (by first | rfl | omega), trivial⟩ (⟨hs12, by omega, by simp, hin, by rw [hpl]; omega⟩) ?_)
             rintro ⟨k, vb, zs2⟩ s2 w9 ⟨hst2, hk1, he2, hin2, hl2⟩
             refine sq fun K17 hK17 => (sq fun K18 hK18 => (rg (mv (v := (.int .i64 k)) rfl rfl (fa (o := 0) (o' := 5) rfl rfl Try.underlying28 rfl ti25 rfl (ld (a := ⟨b1, 5, none⟩) (v := dv) rfl rfl Try.underlying25 rfl (St.blkCell hst2 (i := 1) rfl rfl) (lenI (v := dv) rfl rfl Try.underlying25 hd ?_))))))
             by_cases h7 : ((k : Int) : Int) < ((c.dr.length : Int) : Int)
             · refine cmp (a := (k : Int)) (b := (c.dr.length : Int)) rfl rfl rfl (c_lt h7) ?_
               obtain ⟨y, hy⟩ := get_some (show k < c.dr.length by omega)
               refine wl_nil (tN ((hK18 _ _ ?_)))
               refine cdT rfl (sp (tN ((hK17 _ _ ?_))))
               refine sq fun K19 hK19 => (bk (rg (mv (v := vb) rfl rfl (fa (o := 0) (o' := 5) rfl rfl Try.underlying28 rfl ti25 rfl (ld (a := ⟨b1, 5, none⟩) (v := dv) rfl rfl Try.underlying25 rfl (St.blkCell hst2 (i := 1) rfl rfl) (mv (v := (.int .i64 k)) rfl rfl (ixI (i := (k : Int)) (el := y) rfl rfl rfl Try.underlying25 ti24 (St.ints0 hst2 (by simp) hd) (by omega) hy ?_)))))))
               intro b3 o1 hx1 hi1 ho1
               have hi1' := hi1.u64
               refine ld (a := ⟨b3, o1, none⟩) (v := (.int .u64 y)) rfl rfl Try.underlying24 rfl hx1 (clF (vl := [(.slice none 0 0), (.int .u64 y)]) rfl rfl ent37 (rPutUint_i (.slice none 0 0) [] y w9 (Sl.nil _ _ _ _) (hc.dr y (List.mem_of_getElem? hy)) (by simp)) ?_)
               rintro v6 w10 hf
               rw [List.nil_append] at hf
               have hs13 : St _ [rowI .u8 v6 5 (putU y.toNat), rowI .u8 vb 5 zs2, blk b1 28 [(.int .i64 c.op), (.int .u64 c.u), (.int .u64 c.v), (.int .i64 c.wt), (.int .i64 c.t), dv, bv]] w10 := St.addFresh hst2 hf.2 hf.1
               refine apdI (k := .u8) (ys := zs2) (zs := putU y.toNat) (LL := fun v7 => [rowI .u8 v6 5 (putU y.toNat), rowI .u8 v7 5 (zs2 ++ (putU y.toNat)), blk b1 28 [(.int .i64 c.op), (.int .u64 c.u), (.int .u64 c.v), (.int .i64 c.wt), (.int .i64 c.t), dv, bv]]) 1 rfl rfl rfl Try.underlying22 ti5 rfl hs13 rfl (St.rowSrc hs13 (i := 0) rfl) (by have hq : (putU y.toNat).length ≤ 11 := putU_len _; omega) (by have hq : (putU y.toNat).length ≤ 11 := putU_len _; omega) (fun _ => rfl) ?_
               intro v7 w11 hs14 hc3
               have hs14 : St _ [rowI .u8 v6 5 (putU y.toNat), rowI .u8 v7 5 (zs2 ++ (putU y.toNat)), blk b1 28 [(.int .i64 c.op), (.int .u64 c.u), (.int .u64 c.v), (.int .i64 c.wt), (.int .i64 c.t), dv, bv]] w11 := hs14
               have hs15 := St.sub (L' := [rowI .u8 v7 5 (zs2 ++ (putU y.toNat)), blk b1 28 [(.int .i64 c.op), (.int .u64 c.u), (.int .u64 c.v), (.int .i64 c.wt), (.int .i64 c.t), dv, bv]]) hs14 (List.Sublist.cons _ (List.Sublist.refl _))
               refine asg (v := v7) rfl rfl (wl_nil (bN (tN ((hK19 _ _ ?_)))))
               refine rg (mv (v := (.int .i64 k)) rfl rfl (ar (a := (k : Int)) (b := 1) (c := (k : Int) + 1) rfl rfl rfl rfl (w64 (by omega)) (asg (v := (.int .i64 ((k : Int) + 1))) rfl rfl (wl_nil (tN (?_))))))
               exact again ((k + 1), v7, (zs2 ++ (putU y.toNat))) ⟨rfl, rfl, rfl, rfl, eqI (by first | rfl | omega), trivial⟩ (⟨hs15, by omega, by rw [he2, flat_take hy]; simp, in_append hin2 (putU_in (u64_lt (hc.dr y (List.mem_of_getElem? hy)))), by rw [List.length_append]; have := putU_len (y.toNat); omega⟩) (by show (c.dr.length - (k + 1) : Nat) < c.dr.length - k; omega)
             · refine cmp (a := (k : Int)) (b := (c.dr.length : Int)) rfl rfl rfl (c_nlt h7) (wl_nil (tN ((hK18 _ _ ?_))))
               refine cdF rfl (xt (tX (tX (bX (bN (bN (tN ((hK8 _ _ ?_)))))))))
               refine rg (mv (v := (.int .i64 i)) rfl rfl (ar (a := (i : Int)) (b := 1) (c := (i : Int) + 1) rfl rfl rfl rfl (w64 (by omega)) (asg (v := (.int .i64 ((i : Int) + 1))) rfl rfl (wl_nil (tN (?_))))))
               exact again ((i + 1), vb, zs2) ⟨rfl, rfl, rfl, eqI (by first | rfl | omega), trivial⟩ (⟨hst2, by omega, by rw [he2, List.take_of_length_le (by omega), List.append_assoc]; exact pay_next he hch2 (by simp [fieldS, h1, h2, h3, h4, h5, h6, h7]), hin2, by omega⟩) (by show ((usesB c.op).size - (i + 1) : Nat) < (usesB c.op).size - i; omega)
           · refine cmp (a := ch.toNat) (b := 100) rfl rfl rfl (c_neq h6) (asg (v := (.bool false)) rfl rfl (wl_nil (tN ((hK14 _ _ ?_)))))
             refine cdF rfl (sq fun K20 hK20 => (rg ?_))
             by_cases h8 : (ch.toNat : Int) = (98 : Int)
             · refine cmp (a := ch.toNat) (b := 98) rfl rfl rfl (c_eq h8) (asg (v := (.bool true)) rfl rfl (wl_nil (tN ((hK20 _ _ ?_)))))
               refine cdT rfl (sq fun K21 hK21 => (rg (mv (v := va) rfl rfl (fa (o := 0) (o' := 6) rfl rfl Try.underlying28 rfl ti26 rfl (ld (a := ⟨b1, 6, none⟩) (v := bv) rfl rfl Try.underlying26 rfl (St.blkCell hst (i := 1) rfl rfl) (lenI (v := bv) rfl rfl Try.underlying26 hb (cv (a := (c.bo.length : Int)) (e := (c.bo.length : Int)) rfl rfl Try.underlying3 Try.underlying24 (w64u (by omega)) ?_)))))))
               refine clF (vl := [va, (.int .u64 (c.bo.length : Int))]) rfl rfl ent37 (rPutUint_ok va zs c.bo.length w3 (St.rowInts hst (i := 0) rfl hin).any (by omega) (by omega)) ?_
               rintro v8 w12 hf
               have hs16 : St _ [rowI .u8 v8 5 (zs ++ (putU c.bo.length)), rowI .u8 va 5 zs, blk b1 28 [(.int .i64 c.op), (.int .u64 c.u), (.int .u64 c.v), (.int .i64 c.wt), (.int .i64 c.t), dv, bv]] w12 := St.addFresh hst hf.2 hf.1
               have hs17 := St.sub (L' := [rowI .u8 v8 5 (zs ++ (putU c.bo.length)), blk b1 28 [(.int .i64 c.op), (.int .u64 c.u), (.int .u64 c.v), (.int .i64 c.wt), (.int .i64 c.t), dv, bv]]) hs16 (List.Sublist.cons_cons _ (List.Sublist.cons _ (List.Sublist.refl _)))
               have hin' := in_append hin (putU_in (m := c.bo.length) (by omega))
               have hin := hin'
               have hpl : (zs ++ putU c.bo.length).length = (zs).length + (putU c.bo.length).length := List.length_append
               have hpu : (putU c.bo.length).length ≤ 11 := putU_len _
               refine asg (v := v8) rfl rfl (wl_nil (tN ((hK21 _ _ ?_))))
               refine sq fun K22 hK22 => (rg (asg (v := (.int .i64 0)) rfl rfl (wl_nil (tN ((hK22 _ _ ?_))))))
               refine bk (lp (α := Nat × Value × List Int) (fun (k, vb, zs2) => [(1, (.pointer (some ⟨b1, 0, none⟩))), (3, vb), (4, (.string (usesB c.op))), (6, (.int .i64 i)), (8, (.int .i64 k))]) (fun (k, vb, zs2) w1 => St [(w, [])] [rowI .u8 vb 5 zs2, blk b1 28 [(.int .i64 c.op), (.int .u64 c.u), (.int .u64 c.v), (.int .i64 c.wt), (.int .i64 c.t), dv, bv]] w1 ∧ k ≤ c.bo.length ∧ zs2 = zs ++ putU c.bo.length ++ (c.bo.take k).flatMap (fun x => putU (foldS x)) ∧ (∀ y ∈ zs2, InK .u8 y) ∧ zs2.length ≤ zs.length + 11 + 11 * k) (fun (k, vb, zs2) => c.bo.length - k) (0, v8, (zs ++ putU c.bo.length)) ⟨rfl, rfl, rfl, rfl, eqI (by first | rfl | omega), trivial⟩ (⟨hs17, by omega, by simp, hin, by rw [hpl]; omega⟩) ?_)
               rintro ⟨k, vb, zs2⟩ s3 w13 ⟨hst2, hk1, he2, hin2, hl2⟩
               refine sq fun K23 hK23 => (sq fun K24 hK24 => (rg (mv (v := (.int .i64 k)) rfl rfl (fa (o := 0) (o' := 6) rfl rfl Try.underlying28 rfl ti26 rfl (ld (a := ⟨b1, 6, none⟩) (v := bv) rfl rfl Try.underlying26 rfl (St.blkCell hst2 (i := 1) rfl rfl) (lenI (v := bv) rfl rfl Try.underlying26 hb ?_))))))
               by_cases h9 : ((k : Int) : Int) < ((c.bo.length : Int) : Int)
               · refine cmp (a := (k : Int)) (b := (c.bo.length : Int)) rfl rfl rfl (c_lt h9) ?_
                 obtain ⟨y, hy⟩ := get_some (show k < c.bo.length by omega)
                 refine wl_nil (tN ((hK24 _ _ ?_)))
                 refine cdT rfl (sp (tN ((hK23 _ _ ?_))))
                 refine sq fun K25 hK25 => (bk (rg (mv (v := vb) rfl rfl (fa (o := 0) (o' := 6) rfl rfl Try.underlying28 rfl ti26 rfl (ld (a := ⟨b1, 6, none⟩) (v := bv) rfl rfl Try.underlying26 rfl (St.blkCell hst2 (i := 1) rfl rfl) (mv (v := (.int .i64 k)) rfl rfl (ixI (i := (k : Int)) (el := y) rfl rfl rfl Try.underlying26 ti2 (St.ints0 hst2 (by simp) hb) (by omega) hy ?_)))))))
                 intro b4 o2 hx2 hi2 ho2
                 have hi2' := hi2.i64
                 refine ld (a := ⟨b4, o2, none⟩) (v := (.int .i64 y)) rfl rfl Try.underlying2 rfl hx2 (clF (vl := [(.slice none 0 0), (.int .i64 y)]) rfl rfl ent46 (rPutInt_ok (.slice none 0 0) [] y w13 (Sl.nil _ _ _ _) (hc.bo y (List.mem_of_getElem? hy)) (by simp)) ?_)
                 rintro v9 w14 hf
                 rw [List.nil_append] at hf
                 have hs18 : St _ [rowI .u8 v9 5 (putU (foldS y)), rowI .u8 vb 5 zs2, blk b1 28 [(.int .i64 c.op), (.int .u64 c.u), (.int .u64 c.v), (.int .i64 c.wt), (.int .i64 c.t), dv, bv]] w14 := St.addFresh hst2 hf.2 hf.1
                 refine apdI (k := .u8) (ys := zs2) (zs := putU (foldS y)) (LL := fun v10 => [rowI .u8 v9 5 (putU (foldS y)), rowI .u8 v10 5 (zs2 ++ (putU (foldS y))), blk b1 28 [(.int .i64 c.op), (.int .u64 c.u), (.int .u64 c.v), (.int .i64 c.wt), (.int .i64 c.t), dv, bv]]) 1 rfl rfl rfl Try.underlying22 ti5 rfl hs18 rfl (St.rowSrc hs18 (i := 0) rfl) (by have hq : (putU (foldS y)).length ≤ 11 := putU_len _; omega) (by have hq : (putU (foldS y)).length ≤ 11 := putU_len _; omega) (fun _ => rfl) ?_
                 intro v10 w15 hs19 hc4
                 have hs19 : St _ [rowI .u8 v9 5 (putU (foldS y)), rowI .u8 v10 5 (zs2 ++ (putU (foldS y))), blk b1 28 [(.int .i64 c.op), (.int .u64 c.u), (.int .u64 c.v), (.int .i64 c.wt), (.int .i64 c.t), dv, bv]] w15 := hs19
                 have hs20 := St.sub (L' := [rowI .u8 v10 5 (zs2 ++ (putU (foldS y))), blk b1 28 [(.int .i64 c.op), (.int .u64 c.u), (.int .u64 c.v), (.int .i64 c.wt), (.int .i64 c.t), dv, bv]]) hs19 (List.Sublist.cons _ (List.Sublist.refl _))
                 refine asg (v := v10) rfl rfl (wl_nil (bN (tN ((hK25 _ _ ?_)))))
                 refine rg (mv (v := (.int .i64 k)) rfl rfl (ar (a := (k : Int)) (b := 1) (c := (k : Int) + 1) rfl rfl rfl rfl (w64 (by omega)) (asg (v := (.int .i64 ((k : Int) + 1))) rfl rfl (wl_nil (tN (?_))))))
                 exact again ((k + 1), v10, (zs2 ++ (putU (foldS y)))) ⟨rfl, rfl, rfl, rfl, eqI (by first | rfl | omega), trivial⟩ (⟨hs20, by omega, by rw [he2, flat_take hy]; simp, in_append hin2 (putU_in (fold_lt (hc.bo y (List.mem_of_getElem? hy)))), by rw [List.length_append]; have := putU_len ((foldS y)); omega⟩) (by show (c.bo.length - (k + 1) : Nat) < c.bo.length - k; omega)
               · refine cmp (a := (k : Int)) (b := (c.bo.length : Int)) rfl rfl rfl (c_nlt h9) (wl_nil (tN ((hK24 _ _ ?_))))
                 refine cdF rfl (xt (tX (tX (bX (bN (bN (tN ((hK8 _ _ ?_)))))))))
                 refine rg (mv (v := (.int .i64 i)) rfl rfl (ar (a := (i : Int)) (b := 1) (c := (i : Int) + 1) rfl rfl rfl rfl (w64 (by omega)) (asg (v := (.int .i64 ((i : Int) + 1))) rfl rfl (wl_nil (tN (?_))))))
                 exact again ((i + 1), vb, zs2) ⟨rfl, rfl, rfl, eqI (by first | rfl | omega), trivial⟩ (⟨hst2, by omega, by rw [he2, List.take_of_length_le (by omega), List.append_assoc]; exact pay_next he hch2 (by simp [fieldS, h1, h2, h3, h4, h5, h6, h8, h9]), hin2, by omega⟩) (by show ((usesB c.op).size - (i + 1) : Nat) < (usesB c.op).size - i; omega)
             · refine cmp (a := ch.toNat) (b := 98) rfl rfl rfl (c_neq h8) (asg (v := (.bool false)) rfl rfl (wl_nil (tN ((hK20 _ _ ?_)))))
               refine cdF rfl (sp (bN (bN (tN ((hK8 _ _ ?_))))))
               refine rg (mv (v := (.int .i64 i)) rfl rfl (ar (a := (i : Int)) (b := 1) (c := (i : Int) + 1) rfl rfl rfl rfl (w64 (by omega)) (asg (v := (.int .i64 ((i : Int) + 1))) rfl rfl (wl_nil (tN (?_))))))
               exact again ((i + 1), va, zs) ⟨rfl, rfl, rfl, eqI (by first | rfl | omega), trivial⟩ (⟨hst, by omega, by have := pay_next he hch2 (f := []) (by simp [fieldS, h1, h2, h3, h4, h5, h6, h8]); rw [List.append_nil] at this; exact this, hin, by omega⟩) (by show ((usesB c.op).size - (i + 1) : Nat) < (usesB c.op).size - i; omega)
 · refine cmp (a := (i : Int)) (b := ((usesB c.op).size : Int)) rfl rfl rfl (c_nlt h1) (wl_nil (tN ((hK7 _ _ ?_))))
   refine cdF rfl (xt (tX (tX (bX (tN ((hK4 _ _ ?_)))))))
   refine sq fun K26 hK26 => (rg (mv (v := va) rfl rfl (asg (v := va) rfl rfl (wl_nil (tN ((hK26 _ _ ?_)))))))
   refine rt (ret1 (v := va) Try.results36 rfl ?_)
   rw [pay_end he (by omega)] at hst hlz hin
   exact ⟨St.endFresh (St.sub hst (List.Sublist.cons_cons _ (List.nil_sublist _))) (by simp), hst.chg (by simp), hin, by omega⟩
theorem rPut_ok (c : Cmd) (dv bv : Value) (w : World) (hc : c.ok) (hd : Ints .u64 (fun _ => True) w dv c.dr) (hb : Ints .i64 (fun _ => True) w bv c.bo) :
 CR Try.prog 25 #[(.agg #[(.int .i64 c.op), (.int .u64 c.u), (.int .u64 c.v), (.int .i64 c.wt), (.int .i64 c.t), dv, bv])] w (fun r w' => ∃ v, r = .tuple #[v, .int .i64 (checkS c)] ∧ Fresh .u8 w w' v 5 (frameO c) ∧ Chg [] w w') := by
 refine enter (vs := [(.agg #[(.int .i64 c.op), (.int .u64 c.u), (.int .u64 c.v), (.int .i64 c.wt), (.int .i64 c.t), dv, bv])]) Try.func25 rfl Try.ntmps25 rfl ?_
 have hst0 := St.init w
 refine sq fun K1 hK1 => (rg (bx (v := (.agg #[(.int .i64 c.op), (.int .u64 c.u), (.int .u64 c.v), (.int .i64 c.wt), (.int .i64 c.t), dv, bv])) (cs := [(.int .i64 c.op), (.int .u64 c.u), (.int .u64 c.v), (.int .i64 c.wt), (.int .i64 c.t), dv, bv]) rfl rfl rfl hst0 (fun b1 w1 hn1 hc1 hs1 => asg (v := (.slice none 0 0)) rfl rfl (asg (v := (.int .i64 0)) rfl rfl (wl_nil (tN ((hK1 _ _ ?_))))))))
 refine sq fun K2 hK2 => (rg (ldA (cs := [(.int .i64 c.op), (.int .u64 c.u), (.int .u64 c.v), (.int .i64 c.wt), (.int .i64 c.t), dv, bv]) rfl rfl Try.underlying28 rfl ti28 rfl (St.blkCells hs1 (i := 0) (o := 0) (vs := [(.int .i64 c.op), (.int .u64 c.u), (.int .u64 c.v), (.int .i64 c.wt), (.int .i64 c.t), dv, bv]) rfl rfl) (clF (vl := [(.agg #[(.int .i64 c.op), (.int .u64 c.u), (.int .u64 c.v), (.int .i64 c.wt), (.int .i64 c.t), dv, bv])]) rfl rfl ent29 (rCheck_ok c dv bv w1 hc (St.ints0 hs1 (by simp) hd) (St.ints0 hs1 (by simp) hb)) ?_)))
 rintro _ w2 ⟨rfl, hq⟩
 have hs2 : St _ [blk b1 28 [(.int .i64 c.op), (.int .u64 c.u), (.int .u64 c.v), (.int .i64 c.wt), (.int .i64 c.t), dv, bv]] w2 := St.grow hs1 hq
 refine asg (v := (.int .i64 (checkS c))) rfl rfl (wl_nil (tN ((hK2 _ _ ?_))))
 refine sq fun K3 hK3 => (sq fun K4 hK4 => (rg (mv (v := (.int .i64 (checkS c))) rfl rfl ?_)))
 by_cases h1 : (checkS c : Int) = (0 : Int)
 · refine cmp (a := checkS c) (b := 0) rfl rfl rfl (c_nne h1) ?_
   have hk0 : checkS c = 0 := h1
   refine wl_nil (tN ((hK4 _ _ ?_)))
   refine cdF rfl (sp (tN ((hK3 _ _ ?_))))
   refine sq fun K5 hK5 => (rg (ldA (cs := [(.int .i64 c.op), (.int .u64 c.u), (.int .u64 c.v), (.int .i64 c.wt), (.int .i64 c.t), dv, bv]) rfl rfl Try.underlying28 rfl ti28 rfl (St.blkCells hs2 (i := 0) (o := 0) (vs := [(.int .i64 c.op), (.int .u64 c.u), (.int .u64 c.v), (.int .i64 c.wt), (.int .i64 c.t), dv, bv]) rfl rfl) (clF (vl := [(.agg #[(.int .i64 c.op), (.int .u64 c.u), (.int .u64 c.v), (.int .i64 c.wt), (.int .i64 c.t), dv, bv])]) rfl rfl ent36 (payload_ok c dv bv w2 hc (St.ints0 hs2 (by simp) hd) (St.ints0 hs2 (by simp) hb) (check_op hk0) (check_len hk0).1 (check_len hk0).2) ?_)))
   rintro v1 w3 ⟨hf, hq, hin, hln⟩
   have hs3 : St _ [rowI .u8 v1 5 (payloadS c), blk b1 28 [(.int .i64 c.op), (.int .u64 c.u), (.int .u64 c.v), (.int .i64 c.wt), (.int .i64 c.t), dv, bv]] w3 := St.addFresh hs2 hq hf
   refine asg (v := v1) rfl rfl (wl_nil (tN ((hK5 _ _ ?_))))
   refine sq fun K6 hK6 => (rg (mv (v := v1) rfl rfl (lenR (m := (payloadS c).length) 0 rfl rfl Try.underlying22 hs3 rfl (cv (a := (((payloadS c).length : Nat) : Int)) (e := (((payloadS c).length : Nat) : Int)) rfl rfl Try.underlying3 Try.underlying24 (w64u (by omega)) (clF (vl := [(.slice none 0 0), (.int .u64 (((payloadS c).length : Nat) : Int))]) rfl rfl ent37 (rPutUint_ok (.slice none 0 0) [] (payloadS c).length w3 (Sl.nil _ _ _ _) (by omega) (by simp)) ?_)))))
   rintro v2 w4 hf
   rw [List.nil_append] at hf
   have hs4 : St _ [rowI .u8 v2 5 (putU (payloadS c).length), rowI .u8 v1 5 (payloadS c), blk b1 28 [(.int .i64 c.op), (.int .u64 c.u), (.int .u64 c.v), (.int .i64 c.wt), (.int .i64 c.t), dv, bv]] w4 := St.addFresh hs3 hf.2 hf.1
   refine mv (v := v1) rfl rfl (apdI (k := .u8) (ys := putU (payloadS c).length) (zs := payloadS c) (LL := fun v3 => [rowI .u8 v3 5 ((putU (payloadS c).length) ++ (payloadS c)), rowI .u8 v1 5 (payloadS c), blk b1 28 [(.int .i64 c.op), (.int .u64 c.u), (.int .u64 c.v), (.int .i64 c.wt), (.int .i64 c.t), dv, bv]]) 0 rfl rfl rfl Try.underlying22 ti5 rfl hs4 rfl (St.rowSrc hs4 (i := 1) rfl) (by have hq : (putU (payloadS c).length).length ≤ 11 := putU_len _; omega) (by have hq : (putU (payloadS c).length).length ≤ 11 := putU_len _; omega) (fun _ => rfl) ?_)
   intro v3 w5 hs5 hc2
   have hs5 : St _ [rowI .u8 v3 5 ((putU (payloadS c).length) ++ (payloadS c)), rowI .u8 v1 5 (payloadS c), blk b1 28 [(.int .i64 c.op), (.int .u64 c.u), (.int .u64 c.v), (.int .i64 c.wt), (.int .i64 c.t), dv, bv]] w5 := hs5
   refine asg (v := v3) rfl rfl (asg (v := (.int .i64 0)) rfl rfl (wl_nil (tN ((hK6 _ _ ?_)))))
   refine rt (ret2 (v := v3) (v' := (.int .i64 0)) Try.results25 rfl rfl ?_)
   exact ⟨_, by rw [hk0], by rw [frameO, if_pos hk0]; exact St.endFresh (St.sub hs5 (List.Sublist.cons_cons _ (List.nil_sublist _))) (by simp), hs5.chg (by simp)⟩
 · refine cmp (a := checkS c) (b := 0) rfl rfl rfl (c_ne h1) (wl_nil (tN ((hK4 _ _ ?_))))
   refine cdT rfl (sq fun K7 hK7 => (rg (mv (v := (.int .i64 (checkS c))) rfl rfl (asg (v := (.slice none 0 0)) rfl rfl (asg (v := (.int .i64 (checkS c))) rfl rfl (wl_nil (tN ((hK7 _ _ ?_)))))))))
   refine rt (tR (?_))
   refine ret2 (v := (.slice none 0 0)) (v' := (.int .i64 (checkS c))) Try.results25 rfl rfl ?_
   exact ⟨.slice none 0 0, rfl, by rw [frameO, if_neg (by omega)]; exact Fresh.nil _ _ _ _, hs2.chg (by simp)⟩
theorem rUint_ok_none (b : Nat) (ok : Nat → Prop) (v : Value) (xs : List Int) (wr : Bool) (w : World) (hb : (blk b 103 [v, .bool wr]).holds w) (hv : Ints .u8 ok w v xs) (hok : ∀ x, ok x → x ≠ b) (hg : getU xs = none) :
 CR Try.prog 51 #[(.pointer (some ⟨b, 0, none⟩))] w (fun r w' => ∃ v', r = .int .u64 (rdU xs) ∧ (blk b 103 [v', .bool (wr || (getU xs).isNone)]).holds w' ∧ Ints .u8 ok w' v' (rdR xs) ∧ Chg [b] w w') := by
 refine enter (vs := [(.pointer (some ⟨b, 0, none⟩))]) Try.func51 rfl Try.ntmps51 rfl ?_
 have hst0 := St.initBlk w hb
 refine sq fun K1 hK1 => (rg (asg (v := (.int .u64 0)) rfl rfl (wl_nil (tN ((hK1 _ _ ?_))))))
 refine sq fun K2 hK2 => (rg (mv (v := (.pointer (some ⟨b, 0, none⟩))) rfl rfl (nilc (a := ⟨b, 0, none⟩) rfl rfl (fa (o := 0) (o' := 0) rfl rfl Try.underlying103 rfl ti22 rfl (ld (a := ⟨b, 0, none⟩) (v := v) rfl rfl Try.underlying22 rfl (St.blkCell hst0 (i := 0) rfl rfl) (clF (vl := [v]) rfl rfl ent47 (rGetUint_ok v xs w hv.any) ?_))))))
 rintro _ _ ⟨rfl, rfl⟩
 rw [hg]
 refine mv (v := (.tuple #[(.int .u64 0), (.int .i64 0), (.int .i64 15)])) rfl rfl (ex (vs := #[(.int .u64 0), (.int .i64 0), (.int .i64 15)]) (v := (.int .u64 0)) rfl rfl rfl (ex (vs := #[(.int .u64 0), (.int .i64 0), (.int .i64 15)]) (v := (.int .i64 0)) rfl rfl rfl (ex (vs := #[(.int .u64 0), (.int .i64 0), (.int .i64 15)]) (v := (.int .i64 15)) rfl rfl rfl (asg (v := (.int .u64 0)) rfl rfl (asg (v := (.int .i64 0)) rfl rfl (asg (v := (.int .i64 15)) rfl rfl (wl_nil ?_)))))))
 refine tN ((hK2 _ _ ?_))
 refine sq fun K3 hK3 => (sq fun K4 hK4 => (rg (mv (v := (.int .i64 15)) rfl rfl (cmp (a := 15) (b := 0) rfl rfl rfl (c_ne (by decide)) (wl_nil (tN ((hK4 _ _ ?_))))))))
 refine cdT rfl (sq fun K5 hK5 => (rg (mv (v := (.pointer (some ⟨b, 0, none⟩))) rfl rfl (nilc (a := ⟨b, 0, none⟩) rfl rfl (fa (o := 0) (o' := 1) rfl rfl Try.underlying103 rfl ti4 rfl (sto (v := (.bool true)) (vs := [(.bool true)]) (cs' := [v, (.bool true)]) (L' := [blk b 103 [v, (.bool true)]]) 0 rfl rfl rfl rfl ti4 rfl rfl hst0 rfl rfl rfl rfl (fun w1 hs1 => wl_nil ?_)))))))
 refine tN ((hK5 _ _ ?_))
 refine sq fun K6 hK6 => (rg (asg (v := (.int .u64 0)) rfl rfl (wl_nil (tN ((hK6 _ _ ?_))))))
 refine rt (tR (?_))
 refine ret1 (v := (.int .u64 0)) Try.results51 rfl (⟨v, ?_, ?_, ?_, hs1.chg (by simp)⟩)
 · simp only [rdU, hg]; rfl
 · have := hs1.at (i := 0) rfl; rw [hg]; simpa using this
 · simp only [rdR, hg]; exact hs1.ints (X := [b]) (by simp) hv (fun x hx => by simpa using hok x hx)
theorem rUint_ok_some (b : Nat) (ok : Nat → Prop) (v : Value) (xs : List Int) (wr : Bool) (w : World) (hb : (blk b 103 [v, .bool wr]).holds w) (hv : Ints .u8 ok w v xs) (hok : ∀ x, ok x → x ≠ b) {x n : Nat} (hg : getU xs = some (x, n)) :
 CR Try.prog 51 #[(.pointer (some ⟨b, 0, none⟩))] w (fun r w' => ∃ v', r = .int .u64 (rdU xs) ∧ (blk b 103 [v', .bool (wr || (getU xs).isNone)]).holds w' ∧ Ints .u8 ok w' v' (rdR xs) ∧ Chg [b] w w') := by
 have hx := getU_lt (fun y hy => hv.in hy) hg
 refine enter (vs := [(.pointer (some ⟨b, 0, none⟩))]) Try.func51 rfl Try.ntmps51 rfl ?_
 have hst0 := St.initBlk w hb
 refine sq fun K1 hK1 => (rg (asg (v := (.int .u64 0)) rfl rfl (wl_nil (tN ((hK1 _ _ ?_))))))
 refine sq fun K2 hK2 => (rg (mv (v := (.pointer (some ⟨b, 0, none⟩))) rfl rfl (nilc (a := ⟨b, 0, none⟩) rfl rfl (fa (o := 0) (o' := 0) rfl rfl Try.underlying103 rfl ti22 rfl (ld (a := ⟨b, 0, none⟩) (v := v) rfl rfl Try.underlying22 rfl (St.blkCell hst0 (i := 0) rfl rfl) (clF (vl := [v]) rfl rfl ent47 (rGetUint_ok v xs w hv.any) ?_))))))
 rintro _ _ ⟨rfl, rfl⟩
 rw [hg]
 refine mv (v := (.tuple #[(.int .u64 x), (.int .i64 n), (.int .i64 0)])) rfl rfl (ex (vs := #[(.int .u64 x), (.int .i64 n), (.int .i64 0)]) (v := (.int .u64 x)) rfl rfl rfl (ex (vs := #[(.int .u64 x), (.int .i64 n), (.int .i64 0)]) (v := (.int .i64 n)) rfl rfl rfl (ex (vs := #[(.int .u64 x), (.int .i64 n), (.int .i64 0)]) (v := (.int .i64 0)) rfl rfl rfl (asg (v := (.int .u64 x)) rfl rfl (asg (v := (.int .i64 n)) rfl rfl (asg (v := (.int .i64 0)) rfl rfl (wl_nil ?_)))))))
 refine tN ((hK2 _ _ ?_))
 refine sq fun K3 hK3 => (sq fun K4 hK4 => (rg (mv (v := (.int .i64 0)) rfl rfl (cmp (a := 0) (b := 0) rfl rfl rfl (c_nne (by decide)) (wl_nil (tN ((hK4 _ _ ?_))))))))
 refine cdF rfl (sp (tN ((hK3 _ _ ?_))))
 refine sq fun K5 hK5 => (rg (mv (v := (.pointer (some ⟨b, 0, none⟩))) rfl rfl (mv (v := (.pointer (some ⟨b, 0, none⟩))) rfl rfl (nilc (a := ⟨b, 0, none⟩) rfl rfl (fa (o := 0) (o' := 0) rfl rfl Try.underlying103 rfl ti22 rfl (ld (a := ⟨b, 0, none⟩) (v := v) rfl rfl Try.underlying22 rfl (St.blkCell hst0 (i := 0) rfl rfl) (mv (v := (.int .i64 n)) rfl rfl ?_)))))))
 refine slI (l := n) (h := xs.length) rfl rfl Try.underlying22 ti5 hv ⟨_, eqI (by omega)⟩ rfl (by omega) (by omega) ?_
 intro v1 hv1
 rw [List.take_length] at hv1
 refine nilc (a := ⟨b, 0, none⟩) rfl rfl (fa (o := 0) (o' := 0) rfl rfl Try.underlying103 rfl ti22 rfl (sto (v := v1) (vs := [v1]) (cs' := [v1, (.bool wr)]) (L' := [blk b 103 [v1, (.bool wr)]]) 0 rfl rfl rfl (cells_one (Sl.one1 hv1)) ti22 rfl (all1 (Sl.one1 hv1) all0) hst0 rfl rfl rfl rfl (fun w1 hs1 => wl_nil (tN ((hK5 _ _ ?_))))))
 refine sq fun K6 hK6 => (rg (mv (v := (.int .u64 x)) rfl rfl (asg (v := (.int .u64 x)) rfl rfl (wl_nil (tN ((hK6 _ _ ?_)))))))
 refine rt (ret1 (v := (.int .u64 x)) Try.results51 rfl (⟨_, ?_, by rw [hg, Option.isNone_some, Bool.or_false]; exact hs1.at (i := 0) rfl, ?_, hs1.chg (by simp)⟩))
 · simp only [rdU, hg]
 · simp only [rdR, hg]; exact hs1.ints (X := [b]) (by simp) hv1 (fun x hx => by simpa using hok x hx)
theorem rUint_ok (b : Nat) (ok : Nat → Prop) (v : Value) (xs : List Int) (wr : Bool) (w : World) (hb : (blk b 103 [v, .bool wr]).holds w) (hv : Ints .u8 ok w v xs) (hok : ∀ x, ok x → x ≠ b) : CR Try.prog 51 #[(.pointer (some ⟨b, 0, none⟩))] w (fun r w' => ∃ v', r = .int .u64 (rdU xs) ∧ (blk b 103 [v', .bool (wr || (getU xs).isNone)]).holds w' ∧ Ints .u8 ok w' v' (rdR xs) ∧ Chg [b] w w') := by
 rcases hg : getU xs with _ | ⟨x, n⟩
 · have := rUint_ok_none b ok v xs wr w hb hv hok hg; rw [hg] at this; exact this
 · have := rUint_ok_some b ok v xs wr w hb hv hok hg; rw [hg] at this; exact this
theorem rInt_ok_none (b : Nat) (ok : Nat → Prop) (v : Value) (xs : List Int) (wr : Bool) (w : World) (hb : (blk b 103 [v, .bool wr]).holds w) (hv : Ints .u8 ok w v xs) (hok : ∀ x, ok x → x ≠ b) (hg : getU xs = none) :
 CR Try.prog 52 #[(.pointer (some ⟨b, 0, none⟩))] w (fun r w' => ∃ v', r = .int .i64 (rdI xs) ∧ (blk b 103 [v', .bool (wr || (getU xs).isNone)]).holds w' ∧ Ints .u8 ok w' v' (rdR xs) ∧ Chg [b] w w') := by
 refine enter (vs := [(.pointer (some ⟨b, 0, none⟩))]) Try.func52 rfl Try.ntmps52 rfl ?_
 have hst0 := St.initBlk w hb
 refine sq fun K1 hK1 => (rg (asg (v := (.int .i64 0)) rfl rfl (wl_nil (tN ((hK1 _ _ ?_))))))
 refine sq fun K2 hK2 => (rg (mv (v := (.pointer (some ⟨b, 0, none⟩))) rfl rfl (nilc (a := ⟨b, 0, none⟩) rfl rfl (fa (o := 0) (o' := 0) rfl rfl Try.underlying103 rfl ti22 rfl (ld (a := ⟨b, 0, none⟩) (v := v) rfl rfl Try.underlying22 rfl (St.blkCell hst0 (i := 0) rfl rfl) (clF (vl := [v]) rfl rfl ent53 (rGetInt_ok v xs w hv.any) ?_))))))
 rintro _ _ ⟨rfl, rfl⟩
 rw [hg]
 refine mv (v := (.tuple #[(.int .i64 0), (.int .i64 0), (.int .i64 15)])) rfl rfl (ex (vs := #[(.int .i64 0), (.int .i64 0), (.int .i64 15)]) (v := (.int .i64 0)) rfl rfl rfl (ex (vs := #[(.int .i64 0), (.int .i64 0), (.int .i64 15)]) (v := (.int .i64 0)) rfl rfl rfl (ex (vs := #[(.int .i64 0), (.int .i64 0), (.int .i64 15)]) (v := (.int .i64 15)) rfl rfl rfl (asg (v := (.int .i64 0)) rfl rfl (asg (v := (.int .i64 0)) rfl rfl (asg (v := (.int .i64 15)) rfl rfl (wl_nil ?_)))))))
 refine tN ((hK2 _ _ ?_))
 refine sq fun K3 hK3 => (sq fun K4 hK4 => (rg (mv (v := (.int .i64 15)) rfl rfl (cmp (a := 15) (b := 0) rfl rfl rfl (c_ne (by decide)) (wl_nil (tN ((hK4 _ _ ?_))))))))
 refine cdT rfl (sq fun K5 hK5 => (rg (mv (v := (.pointer (some ⟨b, 0, none⟩))) rfl rfl (nilc (a := ⟨b, 0, none⟩) rfl rfl (fa (o := 0) (o' := 1) rfl rfl Try.underlying103 rfl ti4 rfl (sto (v := (.bool true)) (vs := [(.bool true)]) (cs' := [v, (.bool true)]) (L' := [blk b 103 [v, (.bool true)]]) 0 rfl rfl rfl rfl ti4 rfl rfl hst0 rfl rfl rfl rfl (fun w1 hs1 => wl_nil ?_)))))))
 refine tN ((hK5 _ _ ?_))
 refine sq fun K6 hK6 => (rg (asg (v := (.int .i64 0)) rfl rfl (wl_nil (tN ((hK6 _ _ ?_))))))
 refine rt (tR (?_))
 refine ret1 (v := (.int .i64 0)) Try.results52 rfl (⟨v, ?_, ?_, ?_, hs1.chg (by simp)⟩)
 · simp only [rdI, hg]
 · have := hs1.at (i := 0) rfl; rw [hg]; simpa using this
 · simp only [rdR, hg]; exact hs1.ints (X := [b]) (by simp) hv (fun x hx => by simpa using hok x hx)
theorem rInt_ok_some (b : Nat) (ok : Nat → Prop) (v : Value) (xs : List Int) (wr : Bool) (w : World) (hb : (blk b 103 [v, .bool wr]).holds w) (hv : Ints .u8 ok w v xs) (hok : ∀ x, ok x → x ≠ b) {x n : Nat} (hg : getU xs = some (x, n)) :
 CR Try.prog 52 #[(.pointer (some ⟨b, 0, none⟩))] w (fun r w' => ∃ v', r = .int .i64 (rdI xs) ∧ (blk b 103 [v', .bool (wr || (getU xs).isNone)]).holds w' ∧ Ints .u8 ok w' v' (rdR xs) ∧ Chg [b] w w') := by
 have hx := getU_lt (fun y hy => hv.in hy) hg
 refine enter (vs := [(.pointer (some ⟨b, 0, none⟩))]) Try.func52 rfl Try.ntmps52 rfl ?_
 have hst0 := St.initBlk w hb
 refine sq fun K1 hK1 => (rg (asg (v := (.int .i64 0)) rfl rfl (wl_nil (tN ((hK1 _ _ ?_))))))
 refine sq fun K2 hK2 => (rg (mv (v := (.pointer (some ⟨b, 0, none⟩))) rfl rfl (nilc (a := ⟨b, 0, none⟩) rfl rfl (fa (o := 0) (o' := 0) rfl rfl Try.underlying103 rfl ti22 rfl (ld (a := ⟨b, 0, none⟩) (v := v) rfl rfl Try.underlying22 rfl (St.blkCell hst0 (i := 0) rfl rfl) (clF (vl := [v]) rfl rfl ent53 (rGetInt_ok v xs w hv.any) ?_))))))
 rintro _ _ ⟨rfl, rfl⟩
 rw [hg]
 refine mv (v := (.tuple #[(.int .i64 (unfoldS x)), (.int .i64 n), (.int .i64 0)])) rfl rfl (ex (vs := #[(.int .i64 (unfoldS x)), (.int .i64 n), (.int .i64 0)]) (v := (.int .i64 (unfoldS x))) rfl rfl rfl (ex (vs := #[(.int .i64 (unfoldS x)), (.int .i64 n), (.int .i64 0)]) (v := (.int .i64 n)) rfl rfl rfl (ex (vs := #[(.int .i64 (unfoldS x)), (.int .i64 n), (.int .i64 0)]) (v := (.int .i64 0)) rfl rfl rfl (asg (v := (.int .i64 (unfoldS x))) rfl rfl (asg (v := (.int .i64 n)) rfl rfl (asg (v := (.int .i64 0)) rfl rfl (wl_nil ?_)))))))
 refine tN ((hK2 _ _ ?_))
 refine sq fun K3 hK3 => (sq fun K4 hK4 => (rg (mv (v := (.int .i64 0)) rfl rfl (cmp (a := 0) (b := 0) rfl rfl rfl (c_nne (by decide)) (wl_nil (tN ((hK4 _ _ ?_))))))))
 refine cdF rfl (sp (tN ((hK3 _ _ ?_))))
 refine sq fun K5 hK5 => (rg (mv (v := (.pointer (some ⟨b, 0, none⟩))) rfl rfl (mv (v := (.pointer (some ⟨b, 0, none⟩))) rfl rfl (nilc (a := ⟨b, 0, none⟩) rfl rfl (fa (o := 0) (o' := 0) rfl rfl Try.underlying103 rfl ti22 rfl (ld (a := ⟨b, 0, none⟩) (v := v) rfl rfl Try.underlying22 rfl (St.blkCell hst0 (i := 0) rfl rfl) (mv (v := (.int .i64 n)) rfl rfl ?_)))))))
 refine slI (l := n) (h := xs.length) rfl rfl Try.underlying22 ti5 hv ⟨_, eqI (by omega)⟩ rfl (by omega) (by omega) ?_
 intro v1 hv1
 rw [List.take_length] at hv1
 refine nilc (a := ⟨b, 0, none⟩) rfl rfl (fa (o := 0) (o' := 0) rfl rfl Try.underlying103 rfl ti22 rfl (sto (v := v1) (vs := [v1]) (cs' := [v1, (.bool wr)]) (L' := [blk b 103 [v1, (.bool wr)]]) 0 rfl rfl rfl (cells_one (Sl.one1 hv1)) ti22 rfl (all1 (Sl.one1 hv1) all0) hst0 rfl rfl rfl rfl (fun w1 hs1 => wl_nil (tN ((hK5 _ _ ?_))))))
 refine sq fun K6 hK6 => (rg (mv (v := (.int .i64 (unfoldS x))) rfl rfl (asg (v := (.int .i64 (unfoldS x))) rfl rfl (wl_nil (tN ((hK6 _ _ ?_)))))))
 refine rt (ret1 (v := (.int .i64 (unfoldS x))) Try.results52 rfl (⟨_, ?_, by rw [hg, Option.isNone_some, Bool.or_false]; exact hs1.at (i := 0) rfl, ?_, hs1.chg (by simp)⟩))
 · simp only [rdI, hg]
 · simp only [rdR, hg]; exact hs1.ints (X := [b]) (by simp) hv1 (fun x hx => by simpa using hok x hx)
theorem rInt_ok (b : Nat) (ok : Nat → Prop) (v : Value) (xs : List Int) (wr : Bool) (w : World) (hb : (blk b 103 [v, .bool wr]).holds w) (hv : Ints .u8 ok w v xs) (hok : ∀ x, ok x → x ≠ b) : CR Try.prog 52 #[(.pointer (some ⟨b, 0, none⟩))] w (fun r w' => ∃ v', r = .int .i64 (rdI xs) ∧ (blk b 103 [v', .bool (wr || (getU xs).isNone)]).holds w' ∧ Ints .u8 ok w' v' (rdR xs) ∧ Chg [b] w w') := by
 rcases hg : getU xs with _ | ⟨x, n⟩
 · have := rInt_ok_none b ok v xs wr w hb hv hok hg; rw [hg] at this; exact this
 · have := rInt_ok_some b ok v xs wr w hb hv hok hg; rw [hg] at this; exact this
theorem command_c (v : Value) (o : Int) (l : List Int) (w : World) (hv : Ints .u8 (fun _ => True) w v (o :: l)) (hl0 : (o :: l).length ≤ 1000000000000) :
 CR Try.prog 48 #[v] w (fun r w' => ∃ c' dv bv, r = .tuple #[.agg #[.int .i64 c'.op, .int .u64 c'.u, .int .u64 c'.v, .int .i64 c'.wt, .int .i64 c'.t, dv, bv], .bool (cmdS (o :: l)).isSome] ∧ (∀ c, cmdS (o :: l) = some c → c = c') ∧ c'.ok ∧ Ints .u64 (fun b => w.heap.size ≤ b) w' dv c'.dr ∧ Ints .i64 (fun b => w.heap.size ≤ b) w' bv c'.bo ∧ Chg [] w w') := by
 have hv := (hv.old (by decide)).mono (ok' := fun b => b < w.heap.size) (fun _ h => h.2)
 have hl0' : l.length + 1 ≤ 1000000000000 := hl0
 have hlc : (o :: l).length = l.length + 1 := rfl
 have hus := uses_le o
 refine enter (vs := [v]) Try.func48 rfl Try.ntmps48 rfl ?_
 have hst0 := St.init w
 refine sq fun K1 hK1 => (rg (al (cs := [(.int .i64 0), (.int .u64 0), (.int .u64 0), (.int .i64 0), (.int .i64 0), (.slice none 0 0), (.slice none 0 0)]) rfl ti28 rfl hst0 (fun b1 w1 hn1 hc1 hs1 => asg (v := (.bool false)) rfl rfl (wl_nil (tN ((hK1 _ _ ?_)))))))
 refine sq fun K2 hK2 => (sq fun K3 hK3 => (rg (mv (v := v) rfl rfl (lenI (v := v) rfl rfl Try.underlying22 hv (cmp (a := ((o :: l).length : Int)) (b := 0) rfl rfl rfl (c_neq (by simp; omega)) (wl_nil (tN ((hK3 _ _ ?_)))))))))
 refine cdF rfl (sp (tN ((hK2 _ _ ?_))))
 refine sq fun K4 hK4 => (rg (mv (v := v) rfl rfl (ixI (i := 0) (el := o) rfl rfl rfl Try.underlying22 ti5 (St.ints0 hs1 (by simp) hv) (by omega) rfl ?_)))
 intro b2 o1 hx1 hi1 ho1
 have hi1' := hi1.u8
 refine ld (a := ⟨b2, o1, none⟩) (v := (.int .u8 o)) rfl rfl Try.underlying5 rfl hx1 (cv (a := o) (e := o) rfl rfl Try.underlying5 Try.underlying23 (w64 (by omega)) (bld (pvs := [(0, (.int .i64 o))]) (v := .agg #[(.int .i64 o), (.int .u64 0), (.int .u64 0), (.int .i64 0), (.int .i64 0), (.slice none 0 0), (.slice none 0 0)]) rfl rfl (buildS [(0, [(.int .i64 o)])] ti28 pl28 rfl ⟨rfl, rfl, trivial⟩ rfl) (al (cs := [(.int .i64 0), (.int .u64 0), (.int .u64 0), (.int .i64 0), (.int .i64 0), (.slice none 0 0), (.slice none 0 0)]) rfl ti28 rfl hs1 (fun b3 w2 hn2 hc2 hs2 => sto (v := (.agg #[(.int .i64 o), (.int .u64 0), (.int .u64 0), (.int .i64 0), (.int .i64 0), (.slice none 0 0), (.slice none 0 0)])) (vs := [(.int .i64 o), (.int .u64 0), (.int .u64 0), (.int .i64 0), (.int .i64 0), (.slice none 0 0), (.slice none 0 0)]) (cs' := [(.int .i64 o), (.int .u64 0), (.int .u64 0), (.int .i64 0), (.int .i64 0), (.slice none 0 0), (.slice none 0 0)]) (L' := [blk b3 28 [(.int .i64 o), (.int .u64 0), (.int .u64 0), (.int .i64 0), (.int .i64 0), (.slice none 0 0), (.slice none 0 0)], blk b1 28 [(.int .i64 0), (.int .u64 0), (.int .u64 0), (.int .i64 0), (.int .i64 0), (.slice none 0 0), (.slice none 0 0)]]) 0 rfl rfl rfl rfl ti28 rfl rfl hs2 rfl rfl rfl rfl (fun w3 hs3 => wl_nil (tN ((hK4 _ _ ?_))))))))
 refine sq fun K5 hK5 => (rg (fa (o := 0) (o' := 0) rfl rfl Try.underlying28 rfl ti23 rfl (ld (a := ⟨b3, 0, none⟩) (v := (.int .i64 o)) rfl rfl Try.underlying23 rfl (St.blkCell hs3 (i := 0) rfl rfl) (clF (vl := [(.int .i64 o)]) rfl rfl ent41 (Uses_ok o w3) ?_))))
 rintro _ _ ⟨rfl, rfl⟩
 refine mv (v := (.tuple #[(.string (usesB o)), (.bool (okOp o))])) rfl rfl (ex (vs := #[(.string (usesB o)), (.bool (okOp o))]) (v := (.string (usesB o))) rfl rfl rfl (ex (vs := #[(.string (usesB o)), (.bool (okOp o))]) (v := (.bool (okOp o))) rfl rfl rfl (asg (v := (.string (usesB o))) rfl rfl (asg (v := (.bool (okOp o))) rfl rfl (wl_nil (tN ((hK5 _ _ ?_))))))))
 refine sq fun K6 hK6 => (rg (mv (v := v) rfl rfl (slI (l := 1) (h := (o :: l).length) rfl rfl Try.underlying22 ti5 hv ⟨_, eqI (by omega)⟩ rfl (by omega) (by omega) ?_)))
 intro v1 hv1
 rw [List.take_length] at hv1
 refine mv (v := (.bool (okOp o))) rfl rfl (not (b := (okOp o)) (c := (!(okOp o))) rfl rfl rfl (bld (pvs := [(0, v1), (1, (.bool (!(okOp o))))]) (v := .agg #[v1, (.bool (!(okOp o)))]) rfl rfl (buildS [(0, [v1]), (1, [(.bool (!(okOp o)))])] ti103 pl103 rfl ⟨rfl, (cells_one (Sl.one1 hv1)), rfl, rfl, trivial⟩ rfl) (bx (v := (.agg #[v1, (.bool (!(okOp o)))])) (cs := [v1, (.bool (!(okOp o)))]) rfl rfl rfl hs3 (fun b4 w4 hn3 hc3 hs4 => asg (v := (.pointer (some ⟨b4, 0, none⟩))) rfl rfl (wl_nil (tN ((hK6 _ _ ?_))))))))
 refine sq fun K7 hK7 => (sq fun K8 hK8 => (rg (asg (v := (.int .i64 0)) rfl rfl (wl_nil (tN ((hK8 _ _ ?_)))))))
 refine bk ?_
 have hs5 := St.addNil hs4 24 1
 have hs6 := St.addNil hs5 2 1
 have hnew : w.heap.size ≤ b4 := Nat.le_trans (hs3.size List.mem_cons_self) hn3
 refine lp (α := Nat × Cmd × Value × Value × Value × List Int × Bool) (fun (i, ci, dq, bq, vr, lq, wr) => [(2, (.pointer (some ⟨b1, 0, none⟩))), (4, (.pointer (some ⟨b3, 0, none⟩))), (5, (.string (usesB o))), (7, (.pointer (some ⟨b4, 0, none⟩))), (8, (.int .i64 i))]) (fun (i, ci, dq, bq, vr, lq, wr) w1 => St [(w, [])] [rowI .i64 bq 2 ci.bo, rowI .u64 dq 24 ci.dr, blk b4 103 [vr, (.bool wr)], blk b3 28 [(.int .i64 ci.op), (.int .u64 ci.u), (.int .u64 ci.v), (.int .i64 ci.wt), (.int .i64 ci.t), dq, bq], blk b1 28 [(.int .i64 0), (.int .u64 0), (.int .u64 0), (.int .i64 0), (.int .i64 0), (.slice none 0 0), (.slice none 0 0)]] w1 ∧ i ≤ (usesB o).size ∧ Ints .u8 (fun x => x < w.heap.size) w1 vr lq ∧ InvC (if okOp o then cmdF (usesB o).data.toList (cmd0 o) l else none) (usesB o).data.toList i ci lq wr ∧ (wr = false → okOp o = true) ∧ ci.ok ∧ (wr = false → ci.dr.length + ci.bo.length + lq.length ≤ l.length)) (fun (i, ci, dq, bq, vr, lq, wr) => (usesB o).size - i) (0, (cmd0 o), (.slice none 0 0), (.slice none 0 0), v1, l, (!okOp o)) ⟨rfl, rfl, rfl, rfl, eqI (by first | rfl | omega), trivial⟩ (⟨hs6, by omega, (St.ints0 hs6 (by simp) hv1), by cases okOp o <;> simp [InvC], by cases okOp o <;> simp, cmd0_ok hi1', fun _ => by simp [cmd0]⟩) ?_
 rintro ⟨i, ci, dq, bq, vr, lq, wr⟩ s1 w5 ⟨hst, hi1, hI0, hInv, hw, hco, hroom⟩
 have hin := fun y hy => hI0.in (x := y) hy
 refine sq fun K9 hK9 => (sq fun K10 hK10 => (rg (mv (v := (.int .i64 i)) rfl rfl (mv (v := (.string (usesB o))) rfl rfl (lenStr (b := (usesB o)) rfl rfl Try.underlying9 ?_)))))
 by_cases h1 : ((i : Int) : Int) < (((usesB o).size : Int) : Int)
 · refine cmp (a := (i : Int)) (b := ((usesB o).size : Int)) rfl rfl rfl (c_lt h1) ?_
   have hi : i < (usesB o).size := by omega
   obtain ⟨ch, hch, hch2⟩ := ba_get hi
   refine wl_nil (tN ((hK10 _ _ ?_)))
   refine cdT rfl (sp (tN ((hK9 _ _ ?_))))
   refine sq fun K11 hK11 => (bk (sq fun K12 hK12 => (rg (mv (v := (.string (usesB o))) rfl rfl (mv (v := (.int .i64 i)) rfl rfl (idxStr (i := (i : Int)) (c := ch) rfl rfl rfl Try.underlying9 (by omega) hch (wl_nil ?_)))))))
   refine tN ((hK12 _ _ ?_))
   refine bk (sq fun K13 hK13 => (rg ?_))
   by_cases h2 : (ch.toNat : Int) = (117 : Int)
   · refine cmp (a := ch.toNat) (b := 117) rfl rfl rfl (c_eq h2) (asg (v := (.bool true)) rfl rfl (wl_nil (tN ((hK13 _ _ ?_)))))
     refine cdT rfl (rg (mv (v := (.pointer (some ⟨b4, 0, none⟩))) rfl rfl (clF (vl := [(.pointer (some ⟨b4, 0, none⟩))]) rfl rfl ent51 (rUint_ok b4 (fun x => x < w.heap.size) vr lq wr w5 (hst.at (i := 2) rfl) hI0 (fun x hx => by omega)) ?_)))
     rintro _ w6 ⟨v2, rfl, hbk, hI1, hck⟩
     have hs7 : St _ [rowI .i64 bq 2 ci.bo, rowI .u64 dq 24 ci.dr, blk b4 103 [v2, (.bool (wr || (getU lq).isNone))], blk b3 28 [(.int .i64 ci.op), (.int .u64 ci.u), (.int .u64 ci.v), (.int .i64 ci.wt), (.int .i64 ci.t), dq, bq], blk b1 28 [(.int .i64 0), (.int .u64 0), (.int .u64 0), (.int .i64 0), (.int .i64 0), (.slice none 0 0), (.slice none 0 0)]] w6 := St.updB 2 hst rfl hbk hck rfl
     refine fa (o := 0) (o' := 1) rfl rfl Try.underlying28 rfl ti24 rfl (sto (v := (.int .u64 (rdU lq : Int))) (vs := [(.int .u64 (rdU lq : Int))]) (cs' := [(.int .i64 ci.op), (.int .u64 (rdU lq : Int)), (.int .u64 ci.v), (.int .i64 ci.wt), (.int .i64 ci.t), dq, bq]) (L' := [rowI .i64 bq 2 ci.bo, rowI .u64 dq 24 ci.dr, blk b4 103 [v2, (.bool (wr || (getU lq).isNone))], blk b3 28 [(.int .i64 ci.op), (.int .u64 (rdU lq : Int)), (.int .u64 ci.v), (.int .i64 ci.wt), (.int .i64 ci.t), dq, bq], blk b1 28 [(.int .i64 0), (.int .u64 0), (.int .u64 0), (.int .i64 0), (.int .i64 0), (.slice none 0 0), (.slice none 0 0)]]) 3 rfl rfl rfl rfl ti24 rfl rfl hs7 rfl rfl rfl rfl (fun w7 hs8 => wl_nil (bN (bN (tN ((hK11 _ _ ?_)))))))
     refine rg (mv (v := (.int .i64 i)) rfl rfl (ar (a := (i : Int)) (b := 1) (c := (i : Int) + 1) rfl rfl rfl rfl (w64 (by omega)) (asg (v := (.int .i64 ((i : Int) + 1))) rfl rfl (wl_nil (tN (?_))))))
     exact again ((i + 1), { ci with u := (rdU lq : Int) }, dq, bq, v2, (rdR lq), (wr || (getU lq).isNone)) ⟨rfl, rfl, rfl, rfl, eqI (by first | rfl | omega), trivial⟩ (⟨hs8, by omega, (St.ints2 (w0 := w) (X := []) hs7 hs8 (by simp) (by simp) hI1 (fun b hb => ⟨hb, by simp⟩)), hInv.u hch2 h2, wrong_keep hw, hco.setU (rdU_in (fun y hy => hI0.in hy)), room_keep hroom⟩) (by show ((usesB o).size - (i + 1) : Nat) < (usesB o).size - i; omega)
   · refine cmp (a := ch.toNat) (b := 117) rfl rfl rfl (c_neq h2) (asg (v := (.bool false)) rfl rfl (wl_nil (tN ((hK13 _ _ ?_)))))
     refine cdF rfl (sq fun K14 hK14 => (rg ?_))
     by_cases h3 : (ch.toNat : Int) = (118 : Int)
     · refine cmp (a := ch.toNat) (b := 118) rfl rfl rfl (c_eq h3) (asg (v := (.bool true)) rfl rfl (wl_nil (tN ((hK14 _ _ ?_)))))
       refine cdT rfl (rg (mv (v := (.pointer (some ⟨b4, 0, none⟩))) rfl rfl (clF (vl := [(.pointer (some ⟨b4, 0, none⟩))]) rfl rfl ent51 (rUint_ok b4 (fun x => x < w.heap.size) vr lq wr w5 (hst.at (i := 2) rfl) hI0 (fun x hx => by omega)) ?_)))
       rintro _ w8 ⟨v3, rfl, hbk, hI2, hck⟩
       have hs9 : St _ [rowI .i64 bq 2 ci.bo, rowI .u64 dq 24 ci.dr, blk b4 103 [v3, (.bool (wr || (getU lq).isNone))], blk b3 28 [(.int .i64 ci.op), (.int .u64 ci.u), (.int .u64 ci.v), (.int .i64 ci.wt), (.int .i64 ci.t), dq, bq], blk b1 28 [(.int .i64 0), (.int .u64 0), (.int .u64 0), (.int .i64 0), (.int .i64 0), (.slice none 0 0), (.slice none 0 0)]] w8 := St.updB 2 hst rfl hbk hck rfl
       refine fa (o := 0) (o' := 2) rfl rfl Try.underlying28 rfl ti24 rfl (sto (v := (.int .u64 (rdU lq : Int))) (vs := [(.int .u64 (rdU lq : Int))]) (cs' := [(.int .i64 ci.op), (.int .u64 ci.u), (.int .u64 (rdU lq : Int)), (.int .i64 ci.wt), (.int .i64 ci.t), dq, bq]) (L' := [rowI .i64 bq 2 ci.bo, rowI .u64 dq 24 ci.dr, blk b4 103 [v3, (.bool (wr || (getU lq).isNone))], blk b3 28 [(.int .i64 ci.op), (.int .u64 ci.u), (.int .u64 (rdU lq : Int)), (.int .i64 ci.wt), (.int .i64 ci.t), dq, bq], blk b1 28 [(.int .i64 0), (.int .u64 0), (.int .u64 0), (.int .i64 0), (.int .i64 0), (.slice none 0 0), (.slice none 0 0)]]) 3 rfl rfl rfl rfl ti24 rfl rfl hs9 rfl rfl rfl rfl (fun w9 hs10 => wl_nil (bN (bN (tN ((hK11 _ _ ?_)))))))
       refine rg (mv (v := (.int .i64 i)) rfl rfl (ar (a := (i : Int)) (b := 1) (c := (i : Int) + 1) rfl rfl rfl rfl (w64 (by omega)) (asg (v := (.int .i64 ((i : Int) + 1))) rfl rfl (wl_nil (tN (?_))))))
       exact again ((i + 1), { ci with v := (rdU lq : Int) }, dq, bq, v3, (rdR lq), (wr || (getU lq).isNone)) ⟨rfl, rfl, rfl, rfl, eqI (by first | rfl | omega), trivial⟩ (⟨hs10, by omega, (St.ints2 (w0 := w) (X := []) hs9 hs10 (by simp) (by simp) hI2 (fun b hb => ⟨hb, by simp⟩)), hInv.v hch2 h3, wrong_keep hw, hco.setV (rdU_in (fun y hy => hI0.in hy)), room_keep hroom⟩) (by show ((usesB o).size - (i + 1) : Nat) < (usesB o).size - i; omega)
     · refine cmp (a := ch.toNat) (b := 118) rfl rfl rfl (c_neq h3) (asg (v := (.bool false)) rfl rfl (wl_nil (tN ((hK14 _ _ ?_)))))
       refine cdF rfl (sq fun K15 hK15 => (rg ?_))
       by_cases h4 : (ch.toNat : Int) = (119 : Int)
       · refine cmp (a := ch.toNat) (b := 119) rfl rfl rfl (c_eq h4) (asg (v := (.bool true)) rfl rfl (wl_nil (tN ((hK15 _ _ ?_)))))
         refine cdT rfl (rg (mv (v := (.pointer (some ⟨b4, 0, none⟩))) rfl rfl (clF (vl := [(.pointer (some ⟨b4, 0, none⟩))]) rfl rfl ent52 (rInt_ok b4 (fun x => x < w.heap.size) vr lq wr w5 (hst.at (i := 2) rfl) hI0 (fun x hx => by omega)) ?_)))
         rintro _ w10 ⟨v4, rfl, hbk, hI3, hck⟩
         have hs11 : St _ [rowI .i64 bq 2 ci.bo, rowI .u64 dq 24 ci.dr, blk b4 103 [v4, (.bool (wr || (getU lq).isNone))], blk b3 28 [(.int .i64 ci.op), (.int .u64 ci.u), (.int .u64 ci.v), (.int .i64 ci.wt), (.int .i64 ci.t), dq, bq], blk b1 28 [(.int .i64 0), (.int .u64 0), (.int .u64 0), (.int .i64 0), (.int .i64 0), (.slice none 0 0), (.slice none 0 0)]] w10 := St.updB 2 hst rfl hbk hck rfl
         refine fa (o := 0) (o' := 3) rfl rfl Try.underlying28 rfl ti2 rfl (sto (v := (.int .i64 (rdI lq))) (vs := [(.int .i64 (rdI lq))]) (cs' := [(.int .i64 ci.op), (.int .u64 ci.u), (.int .u64 ci.v), (.int .i64 (rdI lq)), (.int .i64 ci.t), dq, bq]) (L' := [rowI .i64 bq 2 ci.bo, rowI .u64 dq 24 ci.dr, blk b4 103 [v4, (.bool (wr || (getU lq).isNone))], blk b3 28 [(.int .i64 ci.op), (.int .u64 ci.u), (.int .u64 ci.v), (.int .i64 (rdI lq)), (.int .i64 ci.t), dq, bq], blk b1 28 [(.int .i64 0), (.int .u64 0), (.int .u64 0), (.int .i64 0), (.int .i64 0), (.slice none 0 0), (.slice none 0 0)]]) 3 rfl rfl rfl rfl ti2 rfl rfl hs11 rfl rfl rfl rfl (fun w11 hs12 => wl_nil (bN (bN (tN ((hK11 _ _ ?_)))))))
         refine rg (mv (v := (.int .i64 i)) rfl rfl (ar (a := (i : Int)) (b := 1) (c := (i : Int) + 1) rfl rfl rfl rfl (w64 (by omega)) (asg (v := (.int .i64 ((i : Int) + 1))) rfl rfl (wl_nil (tN (?_))))))
         exact again ((i + 1), { ci with wt := rdI lq }, dq, bq, v4, (rdR lq), (wr || (getU lq).isNone)) ⟨rfl, rfl, rfl, rfl, eqI (by first | rfl | omega), trivial⟩ (⟨hs12, by omega, (St.ints2 (w0 := w) (X := []) hs11 hs12 (by simp) (by simp) hI3 (fun b hb => ⟨hb, by simp⟩)), hInv.w hch2 h4, wrong_keep hw, hco.setW (rdI_in (fun y hy => hI0.in hy)), room_keep hroom⟩) (by show ((usesB o).size - (i + 1) : Nat) < (usesB o).size - i; omega)
       · refine cmp (a := ch.toNat) (b := 119) rfl rfl rfl (c_neq h4) (asg (v := (.bool false)) rfl rfl (wl_nil (tN ((hK15 _ _ ?_)))))
         refine cdF rfl (sq fun K16 hK16 => (rg ?_))
         by_cases h5 : (ch.toNat : Int) = (116 : Int)
         · refine cmp (a := ch.toNat) (b := 116) rfl rfl rfl (c_eq h5) (asg (v := (.bool true)) rfl rfl (wl_nil (tN ((hK16 _ _ ?_)))))
           refine cdT rfl (rg (mv (v := (.pointer (some ⟨b4, 0, none⟩))) rfl rfl (clF (vl := [(.pointer (some ⟨b4, 0, none⟩))]) rfl rfl ent52 (rInt_ok b4 (fun x => x < w.heap.size) vr lq wr w5 (hst.at (i := 2) rfl) hI0 (fun x hx => by omega)) ?_)))
           rintro _ w12 ⟨v5, rfl, hbk, hI4, hck⟩
           have hs13 : St _ [rowI .i64 bq 2 ci.bo, rowI .u64 dq 24 ci.dr, blk b4 103 [v5, (.bool (wr || (getU lq).isNone))], blk b3 28 [(.int .i64 ci.op), (.int .u64 ci.u), (.int .u64 ci.v), (.int .i64 ci.wt), (.int .i64 ci.t), dq, bq], blk b1 28 [(.int .i64 0), (.int .u64 0), (.int .u64 0), (.int .i64 0), (.int .i64 0), (.slice none 0 0), (.slice none 0 0)]] w12 := St.updB 2 hst rfl hbk hck rfl
           refine fa (o := 0) (o' := 4) rfl rfl Try.underlying28 rfl ti2 rfl (sto (v := (.int .i64 (rdI lq))) (vs := [(.int .i64 (rdI lq))]) (cs' := [(.int .i64 ci.op), (.int .u64 ci.u), (.int .u64 ci.v), (.int .i64 ci.wt), (.int .i64 (rdI lq)), dq, bq]) (L' := [rowI .i64 bq 2 ci.bo, rowI .u64 dq 24 ci.dr, blk b4 103 [v5, (.bool (wr || (getU lq).isNone))], blk b3 28 [(.int .i64 ci.op), (.int .u64 ci.u), (.int .u64 ci.v), (.int .i64 ci.wt), (.int .i64 (rdI lq)), dq, bq], blk b1 28 [(.int .i64 0), (.int .u64 0), (.int .u64 0), (.int .i64 0), (.int .i64 0), (.slice none 0 0), (.slice none 0 0)]]) 3 rfl rfl rfl rfl ti2 rfl rfl hs13 rfl rfl rfl rfl (fun w13 hs14 => wl_nil (bN (bN (tN ((hK11 _ _ ?_)))))))
           refine rg (mv (v := (.int .i64 i)) rfl rfl (ar (a := (i : Int)) (b := 1) (c := (i : Int) + 1) rfl rfl rfl rfl (w64 (by omega)) (asg (v := (.int .i64 ((i : Int) + 1))) rfl rfl (wl_nil (tN (?_))))))
           exact again ((i + 1), { ci with t := rdI lq }, dq, bq, v5, (rdR lq), (wr || (getU lq).isNone)) ⟨rfl, rfl, rfl, rfl, eqI (by first | rfl | omega), trivial⟩ (⟨hs14, by omega, (St.ints2 (w0 := w) (X := []) hs13 hs14 (by simp) (by simp) hI4 (fun b hb => ⟨hb, by simp⟩)), hInv.t hch2 h5, wrong_keep hw, hco.setT (rdI_in (fun y hy => hI0.in hy)), room_keep hroom⟩) (by show ((usesB o).size - (i + 1) : Nat) < (usesB o).size - i; omega)
         · refine cmp (a := ch.toNat) (b := 116) rfl rfl rfl (c_neq h5) (asg (v := (.bool false)) rfl rfl (wl_nil (tN ((hK16 _ _ ?_)))))
           refine cdF rfl (sq fun K17 hK17 => (rg ?_))
           by_cases h6 : (ch.toNat : Int) = (100 : Int)
           · refine cmp (a := ch.toNat) (b := 100) rfl rfl rfl (c_eq h6) (asg (v := (.bool true)) rfl rfl (wl_nil (tN ((hK17 _ _ ?_)))))
             refine cdT rfl (sq fun K18 hK18 => (rg (mv (v := (.pointer (some ⟨b4, 0, none⟩))) rfl rfl (clF (vl := [(.pointer (some ⟨b4, 0, none⟩))]) rfl rfl ent51 (rUint_ok b4 (fun x => x < w.heap.size) vr lq wr w5 (hst.at (i := 2) rfl) hI0 (fun x hx => by omega)) ?_))))
             rintro _ w14 ⟨v6, rfl, hbk, hI5, hck⟩
             have hs15 : St _ [rowI .i64 bq 2 ci.bo, rowI .u64 dq 24 ci.dr, blk b4 103 [v6, (.bool (wr || (getU lq).isNone))], blk b3 28 [(.int .i64 ci.op), (.int .u64 ci.u), (.int .u64 ci.v), (.int .i64 ci.wt), (.int .i64 ci.t), dq, bq], blk b1 28 [(.int .i64 0), (.int .u64 0), (.int .u64 0), (.int .i64 0), (.int .i64 0), (.slice none 0 0), (.slice none 0 0)]] w14 := St.updB 2 hst rfl hbk hck rfl
             refine asg (v := (.int .u64 (rdU lq : Int))) rfl rfl (wl_nil (tN ((hK18 _ _ ?_))))
             refine sq fun K19 hK19 => (rg (asg (v := (.int .u64 0)) rfl rfl (wl_nil (tN ((hK19 _ _ ?_))))))
             refine bk (lp (α := Nat × Cmd × Value × Value × List Int × Bool) (fun (k, cj, dj, vj, lj, wj) => [(2, (.pointer (some ⟨b1, 0, none⟩))), (4, (.pointer (some ⟨b3, 0, none⟩))), (5, (.string (usesB o))), (7, (.pointer (some ⟨b4, 0, none⟩))), (8, (.int .i64 i)), (9, (.int .u64 (rdU lq : Int))), (10, (.int .u64 k))]) (fun (k, cj, dj, vj, lj, wj) w1 => St [(w, [])] [rowI .i64 bq 2 cj.bo, rowI .u64 dj 24 cj.dr, blk b4 103 [vj, (.bool wj)], blk b3 28 [(.int .i64 cj.op), (.int .u64 cj.u), (.int .u64 cj.v), (.int .i64 cj.wt), (.int .i64 cj.t), dj, bq], blk b1 28 [(.int .i64 0), (.int .u64 0), (.int .u64 0), (.int .i64 0), (.int .i64 0), (.slice none 0 0), (.slice none 0 0)]] w1 ∧ k ≤ rdU lq ∧ Ints .u8 (fun x => x < w.heap.size) w1 vj lj ∧ InvD (if okOp o then cmdF (usesB o).data.toList (cmd0 o) l else none) (usesB o).data.toList i (rdU lq - k) cj lj wj ∧ (wj = false → okOp o = true) ∧ cj.ok ∧ (wj = false → cj.dr.length + cj.bo.length + lj.length ≤ l.length)) (fun (k, cj, dj, vj, lj, wj) => rdU lq - k) (0, ci, dq, v6, (rdR lq), (wr || (getU lq).isNone)) ⟨rfl, rfl, rfl, rfl, rfl, rfl, eqI (by first | rfl | omega), trivial⟩ (⟨hs15, by omega, hI5, hInv.d hch2 h6, wrong_keep hw, hco, room_keep hroom⟩) ?_)
             rintro ⟨k, cj, dj, vj, lj, wj⟩ s2 w15 ⟨hsj, hkj, hIj, hInvd, hwj, hcj, hroomj⟩
             have hinj := fun y hy => hIj.in (x := y) hy
             have hrl := rdU_lt hin
             refine sq fun K20 hK20 => (sq fun K21 hK21 => (rg (mv (v := (.int .u64 k)) rfl rfl (mv (v := (.int .u64 (rdU lq : Int))) rfl rfl ?_))))
             by_cases h7 : ((k : Int) : Int) < ((rdU lq : Int) : Int)
             · refine cmp (a := (k : Int)) (b := (rdU lq : Int)) rfl rfl rfl (c_lt h7) (mv (v := (.bool true)) rfl rfl (mv (v := (.pointer (some ⟨b4, 0, none⟩))) rfl rfl (nilc (a := ⟨b4, 0, none⟩) rfl rfl (fa (o := 0) (o' := 1) rfl rfl Try.underlying103 rfl ti4 rfl (ld (a := ⟨b4, 1, none⟩) (v := (.bool wj)) rfl rfl Try.underlying4 rfl (St.blkCell hsj (i := 2) rfl rfl) (not (b := wj) (c := (!wj)) rfl rfl rfl (pkT (v := (.bool (!wj))) rfl rfl rfl ?_)))))))
               refine wl_nil (tN ((hK21 _ _ ?_)))
               cases hz1 : (wj : Bool)
               · skip
                 subst hz1
                 refine cdT rfl (sp (tN ((hK20 _ _ ?_))))
                 refine sq fun K22 hK22 => (bk (sq fun K23 hK23 => (rg (mv (v := (.pointer (some ⟨b4, 0, none⟩))) rfl rfl (clF (vl := [(.pointer (some ⟨b4, 0, none⟩))]) rfl rfl ent51 (rUint_ok b4 (fun x => x < w.heap.size) vj lj false w15 (hsj.at (i := 2) rfl) hIj (fun x hx => by omega)) ?_)))))
                 rintro _ w16 ⟨v7, rfl, hbk, hI6, hck⟩
                 have hs16 : St _ [rowI .i64 bq 2 cj.bo, rowI .u64 dj 24 cj.dr, blk b4 103 [v7, (.bool (false || (getU lj).isNone))], blk b3 28 [(.int .i64 cj.op), (.int .u64 cj.u), (.int .u64 cj.v), (.int .i64 cj.wt), (.int .i64 cj.t), dj, bq], blk b1 28 [(.int .i64 0), (.int .u64 0), (.int .u64 0), (.int .i64 0), (.int .i64 0), (.slice none 0 0), (.slice none 0 0)]] w16 := St.updB 2 hsj rfl hbk hck rfl
                 refine asg (v := (.int .u64 (rdU lj : Int))) rfl rfl (wl_nil (tN ((hK23 _ _ ?_))))
                 refine rg (fa (o := 0) (o' := 5) rfl rfl Try.underlying28 rfl ti25 rfl (ld (a := ⟨b3, 5, none⟩) (v := dj) rfl rfl Try.underlying25 rfl (St.blkCell hs16 (i := 3) rfl rfl) (mv (v := (.int .u64 (rdU lj : Int))) rfl rfl (bsv (vs := [(.int .u64 (rdU lj : Int))]) (cs := [(.int .u64 (rdU lj : Int))]) rfl rfl Try.underlying25 ti24 rfl (by simp [Value.cells]) rfl rfl rfl hs16 ?_))))
                 intro b5 w17 hn4 hc4 hs17
                 have hs17 : St _ [rowI .u64 (.slice (some ⟨b5, 0, none⟩) 1 1) 24 ([(rdU lj : Int)]), rowI .i64 bq 2 cj.bo, rowI .u64 dj 24 cj.dr, blk b4 103 [v7, (.bool (false || (getU lj).isNone))], blk b3 28 [(.int .i64 cj.op), (.int .u64 cj.u), (.int .u64 cj.v), (.int .i64 cj.wt), (.int .i64 cj.t), dj, bq], blk b1 28 [(.int .i64 0), (.int .u64 0), (.int .u64 0), (.int .i64 0), (.int .i64 0), (.slice none 0 0), (.slice none 0 0)]] w17 := hs17
                 refine apdI (k := .u64) (ys := cj.dr) (zs := [(rdU lj : Int)]) (LL := fun v8 => [rowI .u64 (.slice (some ⟨b5, 0, none⟩) 1 1) 24 ([(rdU lj : Int)]), rowI .i64 bq 2 cj.bo, rowI .u64 v8 24 (cj.dr ++ ([(rdU lj : Int)])), blk b4 103 [v7, (.bool (false || (getU lj).isNone))], blk b3 28 [(.int .i64 cj.op), (.int .u64 cj.u), (.int .u64 cj.v), (.int .i64 cj.wt), (.int .i64 cj.t), dj, bq], blk b1 28 [(.int .i64 0), (.int .u64 0), (.int .u64 0), (.int .i64 0), (.int .i64 0), (.slice none 0 0), (.slice none 0 0)]]) 2 rfl rfl rfl Try.underlying25 ti24 rfl hs17 rfl (St.rowSrc hs17 (i := 0) rfl) (by have := hroomj rfl; simp only [List.length_cons, List.length_nil, List.length_append] at *; omega) (by have := hroomj rfl; simp only [List.length_cons, List.length_nil, List.length_append] at *; omega) (fun _ => rfl) ?_
                 intro v8 w18 hs18 hc5
                 have hs18 : St _ [rowI .u64 (.slice (some ⟨b5, 0, none⟩) 1 1) 24 ([(rdU lj : Int)]), rowI .i64 bq 2 cj.bo, rowI .u64 v8 24 (cj.dr ++ ([(rdU lj : Int)])), blk b4 103 [v7, (.bool (false || (getU lj).isNone))], blk b3 28 [(.int .i64 cj.op), (.int .u64 cj.u), (.int .u64 cj.v), (.int .i64 cj.wt), (.int .i64 cj.t), dj, bq], blk b1 28 [(.int .i64 0), (.int .u64 0), (.int .u64 0), (.int .i64 0), (.int .i64 0), (.slice none 0 0), (.slice none 0 0)]] w18 := hs18
                 have hs19 := St.sub (L' := [rowI .i64 bq 2 cj.bo, rowI .u64 v8 24 (cj.dr ++ ([(rdU lj : Int)])), blk b4 103 [v7, (.bool (false || (getU lj).isNone))], blk b3 28 [(.int .i64 cj.op), (.int .u64 cj.u), (.int .u64 cj.v), (.int .i64 cj.wt), (.int .i64 cj.t), dj, bq], blk b1 28 [(.int .i64 0), (.int .u64 0), (.int .u64 0), (.int .i64 0), (.int .i64 0), (.slice none 0 0), (.slice none 0 0)]]) hs18 (List.Sublist.cons _ (List.Sublist.refl _))
                 refine fa (o := 0) (o' := 5) rfl rfl Try.underlying28 rfl ti25 rfl (sto (v := v8) (vs := [v8]) (cs' := [(.int .i64 cj.op), (.int .u64 cj.u), (.int .u64 cj.v), (.int .i64 cj.wt), (.int .i64 cj.t), v8, bq]) (L' := [rowI .i64 bq 2 cj.bo, rowI .u64 v8 24 (cj.dr ++ ([(rdU lj : Int)])), blk b4 103 [v7, (.bool (false || (getU lj).isNone))], blk b3 28 [(.int .i64 cj.op), (.int .u64 cj.u), (.int .u64 cj.v), (.int .i64 cj.wt), (.int .i64 cj.t), v8, bq], blk b1 28 [(.int .i64 0), (.int .u64 0), (.int .u64 0), (.int .i64 0), (.int .i64 0), (.slice none 0 0), (.slice none 0 0)]]) 3 rfl rfl rfl (cells_one (St.row1 hs19 (i := 1) rfl)) ti25 rfl (all1 (St.row1 hs19 (i := 1) rfl) all0) hs19 rfl rfl rfl rfl (fun w19 hs20 => wl_nil (bN (tN ((hK22 _ _ ?_))))))
                 refine rg (mv (v := (.int .u64 k)) rfl rfl (ar (a := (k : Int)) (b := 1) (c := (k : Int) + 1) rfl rfl rfl rfl (w64u (by omega)) (asg (v := (.int .u64 ((k : Int) + 1))) rfl rfl (wl_nil (tN (?_))))))
                 exact again ((k + 1), { cj with dr := cj.dr ++ [(rdU lj : Int)] }, v8, v7, (rdR lj), (getU lj).isNone) ⟨rfl, rfl, rfl, rfl, rfl, rfl, eqI (by first | rfl | omega), trivial⟩ (⟨hs20, by omega, (St.ints2 (w0 := w) (X := []) hs16 hs20 (by simp) (by simp) hI6 (fun b hb => ⟨hb, by simp⟩)), by rw [show rdU lq - k = rdU lq - (k + 1) + 1 by omega] at hInvd; exact hInvd.go, fun _ => hwj rfl, hcj.addD (rdU_in hinj), fun h => by have := room_next hinj (hroomj rfl) h; simp only [List.length_append, List.length_cons, List.length_nil]; omega⟩) (by show (rdU lq - (k + 1) : Nat) < rdU lq - k; omega)
               · skip
                 subst hz1
                 refine cdF rfl (xt (tX (tX (bX (bN (bN (tN ((hK11 _ _ ?_)))))))))
                 refine rg (mv (v := (.int .i64 i)) rfl rfl (ar (a := (i : Int)) (b := 1) (c := (i : Int) + 1) rfl rfl rfl rfl (w64 (by omega)) (asg (v := (.int .i64 ((i : Int) + 1))) rfl rfl (wl_nil (tN (?_))))))
                 exact again ((i + 1), cj, dj, bq, vj, lj, true) ⟨rfl, rfl, rfl, rfl, eqI (by first | rfl | omega), trivial⟩ (⟨hsj, by omega, hIj, hInvd.end (by right; rfl), hwj, hcj, hroomj⟩) (by show ((usesB o).size - (i + 1) : Nat) < (usesB o).size - i; omega)
             · refine cmp (a := (k : Int)) (b := (rdU lq : Int)) rfl rfl rfl (c_nlt h7) (mv (v := (.bool false)) rfl rfl (sk rfl (sk rfl (sk rfl (sk rfl (sk rfl (pkF (v := (.bool false)) rfl rfl rfl ?_)))))))
               refine wl_nil (tN ((hK21 _ _ ?_)))
               refine cdF rfl (xt (tX (tX (bX (bN (bN (tN ((hK11 _ _ ?_)))))))))
               refine rg (mv (v := (.int .i64 i)) rfl rfl (ar (a := (i : Int)) (b := 1) (c := (i : Int) + 1) rfl rfl rfl rfl (w64 (by omega)) (asg (v := (.int .i64 ((i : Int) + 1))) rfl rfl (wl_nil (tN (?_))))))
               exact again ((i + 1), cj, dj, bq, vj, lj, wj) ⟨rfl, rfl, rfl, rfl, eqI (by first | rfl | omega), trivial⟩ (⟨hsj, by omega, hIj, hInvd.end (by left; omega), hwj, hcj, hroomj⟩) (by show ((usesB o).size - (i + 1) : Nat) < (usesB o).size - i; omega)
           · refine cmp (a := ch.toNat) (b := 100) rfl rfl rfl (c_neq h6) (asg (v := (.bool false)) rfl rfl (wl_nil (tN ((hK17 _ _ ?_)))))
             refine cdF rfl (sq fun K24 hK24 => (rg ?_))
             by_cases h8 : (ch.toNat : Int) = (98 : Int)
             · refine cmp (a := ch.toNat) (b := 98) rfl rfl rfl (c_eq h8) (asg (v := (.bool true)) rfl rfl (wl_nil (tN ((hK24 _ _ ?_)))))
               refine cdT rfl (sq fun K25 hK25 => (rg (mv (v := (.pointer (some ⟨b4, 0, none⟩))) rfl rfl (clF (vl := [(.pointer (some ⟨b4, 0, none⟩))]) rfl rfl ent51 (rUint_ok b4 (fun x => x < w.heap.size) vr lq wr w5 (hst.at (i := 2) rfl) hI0 (fun x hx => by omega)) ?_))))
               rintro _ w20 ⟨v9, rfl, hbk, hI7, hck⟩
               have hs21 : St _ [rowI .i64 bq 2 ci.bo, rowI .u64 dq 24 ci.dr, blk b4 103 [v9, (.bool (wr || (getU lq).isNone))], blk b3 28 [(.int .i64 ci.op), (.int .u64 ci.u), (.int .u64 ci.v), (.int .i64 ci.wt), (.int .i64 ci.t), dq, bq], blk b1 28 [(.int .i64 0), (.int .u64 0), (.int .u64 0), (.int .i64 0), (.int .i64 0), (.slice none 0 0), (.slice none 0 0)]] w20 := St.updB 2 hst rfl hbk hck rfl
               refine asg (v := (.int .u64 (rdU lq : Int))) rfl rfl (wl_nil (tN ((hK25 _ _ ?_))))
               refine sq fun K26 hK26 => (rg (asg (v := (.int .u64 0)) rfl rfl (wl_nil (tN ((hK26 _ _ ?_))))))
               refine bk (lp (α := Nat × Cmd × Value × Value × List Int × Bool) (fun (k, cj, bj, vj, lj, wj) => [(2, (.pointer (some ⟨b1, 0, none⟩))), (4, (.pointer (some ⟨b3, 0, none⟩))), (5, (.string (usesB o))), (7, (.pointer (some ⟨b4, 0, none⟩))), (8, (.int .i64 i)), (12, (.int .u64 (rdU lq : Int))), (13, (.int .u64 k))]) (fun (k, cj, bj, vj, lj, wj) w1 => St [(w, [])] [rowI .i64 bj 2 cj.bo, rowI .u64 dq 24 cj.dr, blk b4 103 [vj, (.bool wj)], blk b3 28 [(.int .i64 cj.op), (.int .u64 cj.u), (.int .u64 cj.v), (.int .i64 cj.wt), (.int .i64 cj.t), dq, bj], blk b1 28 [(.int .i64 0), (.int .u64 0), (.int .u64 0), (.int .i64 0), (.int .i64 0), (.slice none 0 0), (.slice none 0 0)]] w1 ∧ k ≤ rdU lq ∧ Ints .u8 (fun x => x < w.heap.size) w1 vj lj ∧ InvB (if okOp o then cmdF (usesB o).data.toList (cmd0 o) l else none) (usesB o).data.toList i (rdU lq - k) cj lj wj ∧ (wj = false → okOp o = true) ∧ cj.ok ∧ (wj = false → cj.dr.length + cj.bo.length + lj.length ≤ l.length)) (fun (k, cj, bj, vj, lj, wj) => rdU lq - k) (0, ci, bq, v9, (rdR lq), (wr || (getU lq).isNone)) ⟨rfl, rfl, rfl, rfl, rfl, rfl, eqI (by first | rfl | omega), trivial⟩ (⟨hs21, by omega, hI7, hInv.b hch2 h8, wrong_keep hw, hco, room_keep hroom⟩) ?_)
               rintro ⟨k, cj, bj, vj, lj, wj⟩ s3 w21 ⟨hsj, hkj, hIj, hInvb, hwj, hcj, hroomj⟩
               have hinj := fun y hy => hIj.in (x := y) hy
               have hrl := rdU_lt hin
               refine sq fun K27 hK27 => (sq fun K28 hK28 => (rg (mv (v := (.int .u64 k)) rfl rfl (mv (v := (.int .u64 (rdU lq : Int))) rfl rfl ?_))))
               by_cases h9 : ((k : Int) : Int) < ((rdU lq : Int) : Int)
               · refine cmp (a := (k : Int)) (b := (rdU lq : Int)) rfl rfl rfl (c_lt h9) (mv (v := (.bool true)) rfl rfl (mv (v := (.pointer (some ⟨b4, 0, none⟩))) rfl rfl (nilc (a := ⟨b4, 0, none⟩) rfl rfl (fa (o := 0) (o' := 1) rfl rfl Try.underlying103 rfl ti4 rfl (ld (a := ⟨b4, 1, none⟩) (v := (.bool wj)) rfl rfl Try.underlying4 rfl (St.blkCell hsj (i := 2) rfl rfl) (not (b := wj) (c := (!wj)) rfl rfl rfl (pkT (v := (.bool (!wj))) rfl rfl rfl ?_)))))))
                 refine wl_nil (tN ((hK28 _ _ ?_)))
                 cases hz2 : (wj : Bool)
                 · skip
                   subst hz2
                   refine cdT rfl (sp (tN ((hK27 _ _ ?_))))
                   refine sq fun K29 hK29 => (bk (sq fun K30 hK30 => (rg (mv (v := (.pointer (some ⟨b4, 0, none⟩))) rfl rfl (clF (vl := [(.pointer (some ⟨b4, 0, none⟩))]) rfl rfl ent52 (rInt_ok b4 (fun x => x < w.heap.size) vj lj false w21 (hsj.at (i := 2) rfl) hIj (fun x hx => by omega)) ?_)))))
                   rintro _ w22 ⟨v10, rfl, hbk, hI8, hck⟩
                   have hs22 : St _ [rowI .i64 bj 2 cj.bo, rowI .u64 dq 24 cj.dr, blk b4 103 [v10, (.bool (false || (getU lj).isNone))], blk b3 28 [(.int .i64 cj.op), (.int .u64 cj.u), (.int .u64 cj.v), (.int .i64 cj.wt), (.int .i64 cj.t), dq, bj], blk b1 28 [(.int .i64 0), (.int .u64 0), (.int .u64 0), (.int .i64 0), (.int .i64 0), (.slice none 0 0), (.slice none 0 0)]] w22 := St.updB 2 hsj rfl hbk hck rfl
                   refine asg (v := (.int .i64 (rdI lj))) rfl rfl (wl_nil (tN ((hK30 _ _ ?_))))
                   refine rg (fa (o := 0) (o' := 6) rfl rfl Try.underlying28 rfl ti26 rfl (ld (a := ⟨b3, 6, none⟩) (v := bj) rfl rfl Try.underlying26 rfl (St.blkCell hs22 (i := 3) rfl rfl) (mv (v := (.int .i64 (rdI lj))) rfl rfl (bsv (vs := [(.int .i64 (rdI lj))]) (cs := [(.int .i64 (rdI lj))]) rfl rfl Try.underlying26 ti2 rfl (by simp [Value.cells]) rfl rfl rfl hs22 ?_))))
                   intro b6 w23 hn5 hc6 hs23
                   have hs23 : St _ [rowI .i64 (.slice (some ⟨b6, 0, none⟩) 1 1) 2 ([rdI lj]), rowI .i64 bj 2 cj.bo, rowI .u64 dq 24 cj.dr, blk b4 103 [v10, (.bool (false || (getU lj).isNone))], blk b3 28 [(.int .i64 cj.op), (.int .u64 cj.u), (.int .u64 cj.v), (.int .i64 cj.wt), (.int .i64 cj.t), dq, bj], blk b1 28 [(.int .i64 0), (.int .u64 0), (.int .u64 0), (.int .i64 0), (.int .i64 0), (.slice none 0 0), (.slice none 0 0)]] w23 := hs23
                   refine apdI (k := .i64) (ys := cj.bo) (zs := [rdI lj]) (LL := fun v11 => [rowI .i64 (.slice (some ⟨b6, 0, none⟩) 1 1) 2 ([rdI lj]), rowI .i64 v11 2 (cj.bo ++ ([rdI lj])), rowI .u64 dq 24 cj.dr, blk b4 103 [v10, (.bool (false || (getU lj).isNone))], blk b3 28 [(.int .i64 cj.op), (.int .u64 cj.u), (.int .u64 cj.v), (.int .i64 cj.wt), (.int .i64 cj.t), dq, bj], blk b1 28 [(.int .i64 0), (.int .u64 0), (.int .u64 0), (.int .i64 0), (.int .i64 0), (.slice none 0 0), (.slice none 0 0)]]) 1 rfl rfl rfl Try.underlying26 ti2 rfl hs23 rfl (St.rowSrc hs23 (i := 0) rfl) (by have := hroomj rfl; simp only [List.length_cons, List.length_nil, List.length_append] at *; omega) (by have := hroomj rfl; simp only [List.length_cons, List.length_nil, List.length_append] at *; omega) (fun _ => rfl) ?_
                   intro v11 w24 hs24 hc7
                   have hs24 : St _ [rowI .i64 (.slice (some ⟨b6, 0, none⟩) 1 1) 2 ([rdI lj]), rowI .i64 v11 2 (cj.bo ++ ([rdI lj])), rowI .u64 dq 24 cj.dr, blk b4 103 [v10, (.bool (false || (getU lj).isNone))], blk b3 28 [(.int .i64 cj.op), (.int .u64 cj.u), (.int .u64 cj.v), (.int .i64 cj.wt), (.int .i64 cj.t), dq, bj], blk b1 28 [(.int .i64 0), (.int .u64 0), (.int .u64 0), (.int .i64 0), (.int .i64 0), (.slice none 0 0), (.slice none 0 0)]] w24 := hs24
                   have hs25 := St.sub (L' := [rowI .i64 v11 2 (cj.bo ++ ([rdI lj])), rowI .u64 dq 24 cj.dr, blk b4 103 [v10, (.bool (false || (getU lj).isNone))], blk b3 28 [(.int .i64 cj.op), (.int .u64 cj.u), (.int .u64 cj.v), (.int .i64 cj.wt), (.int .i64 cj.t), dq, bj], blk b1 28 [(.int .i64 0), (.int .u64 0), (.int .u64 0), (.int .i64 0), (.int .i64 0), (.slice none 0 0), (.slice none 0 0)]]) hs24 (List.Sublist.cons _ (List.Sublist.refl _))
                   refine fa (o := 0) (o' := 6) rfl rfl Try.underlying28 rfl ti26 rfl (sto (v := v11) (vs := [v11]) (cs' := [(.int .i64 cj.op), (.int .u64 cj.u), (.int .u64 cj.v), (.int .i64 cj.wt), (.int .i64 cj.t), dq, v11]) (L' := [rowI .i64 v11 2 (cj.bo ++ ([rdI lj])), rowI .u64 dq 24 cj.dr, blk b4 103 [v10, (.bool (false || (getU lj).isNone))], blk b3 28 [(.int .i64 cj.op), (.int .u64 cj.u), (.int .u64 cj.v), (.int .i64 cj.wt), (.int .i64 cj.t), dq, v11], blk b1 28 [(.int .i64 0), (.int .u64 0), (.int .u64 0), (.int .i64 0), (.int .i64 0), (.slice none 0 0), (.slice none 0 0)]]) 3 rfl rfl rfl (cells_one (St.row1 hs25 (i := 0) rfl)) ti26 rfl (all1 (St.row1 hs25 (i := 0) rfl) all0) hs25 rfl rfl rfl rfl (fun w25 hs26 => wl_nil (bN (tN ((hK29 _ _ ?_))))))
                   refine rg (mv (v := (.int .u64 k)) rfl rfl (ar (a := (k : Int)) (b := 1) (c := (k : Int) + 1) rfl rfl rfl rfl (w64u (by omega)) (asg (v := (.int .u64 ((k : Int) + 1))) rfl rfl (wl_nil (tN (?_))))))
                   exact again ((k + 1), { cj with bo := cj.bo ++ [(rdI lj)] }, v11, v10, (rdR lj), (getU lj).isNone) ⟨rfl, rfl, rfl, rfl, rfl, rfl, eqI (by first | rfl | omega), trivial⟩ (⟨hs26, by omega, (St.ints2 (w0 := w) (X := []) hs22 hs26 (by simp) (by simp) hI8 (fun b hb => ⟨hb, by simp⟩)), by rw [show rdU lq - k = rdU lq - (k + 1) + 1 by omega] at hInvb; exact hInvb.go, fun _ => hwj rfl, hcj.addB (rdI_in hinj), fun h => by have := room_next hinj (hroomj rfl) h; simp only [List.length_append, List.length_cons, List.length_nil]; omega⟩) (by show (rdU lq - (k + 1) : Nat) < rdU lq - k; omega)
                 · skip
                   subst hz2
                   refine cdF rfl (xt (tX (tX (bX (bN (bN (tN ((hK11 _ _ ?_)))))))))
                   refine rg (mv (v := (.int .i64 i)) rfl rfl (ar (a := (i : Int)) (b := 1) (c := (i : Int) + 1) rfl rfl rfl rfl (w64 (by omega)) (asg (v := (.int .i64 ((i : Int) + 1))) rfl rfl (wl_nil (tN (?_))))))
                   exact again ((i + 1), cj, dq, bj, vj, lj, true) ⟨rfl, rfl, rfl, rfl, eqI (by first | rfl | omega), trivial⟩ (⟨hsj, by omega, hIj, hInvb.end (by right; rfl), hwj, hcj, hroomj⟩) (by show ((usesB o).size - (i + 1) : Nat) < (usesB o).size - i; omega)
               · refine cmp (a := (k : Int)) (b := (rdU lq : Int)) rfl rfl rfl (c_nlt h9) (mv (v := (.bool false)) rfl rfl (sk rfl (sk rfl (sk rfl (sk rfl (sk rfl (pkF (v := (.bool false)) rfl rfl rfl ?_)))))))
                 refine wl_nil (tN ((hK28 _ _ ?_)))
                 refine cdF rfl (xt (tX (tX (bX (bN (bN (tN ((hK11 _ _ ?_)))))))))
                 refine rg (mv (v := (.int .i64 i)) rfl rfl (ar (a := (i : Int)) (b := 1) (c := (i : Int) + 1) rfl rfl rfl rfl (w64 (by omega)) (asg (v := (.int .i64 ((i : Int) + 1))) rfl rfl (wl_nil (tN (?_))))))
                 exact again ((i + 1), cj, dq, bj, vj, lj, wj) ⟨rfl, rfl, rfl, rfl, eqI (by first | rfl | omega), trivial⟩ (⟨hsj, by omega, hIj, hInvb.end (by left; omega), hwj, hcj, hroomj⟩) (by show ((usesB o).size - (i + 1) : Nat) < (usesB o).size - i; omega)
             · refine cmp (a := ch.toNat) (b := 98) rfl rfl rfl (c_neq h8) (asg (v := (.bool false)) rfl rfl (wl_nil (tN ((hK24 _ _ ?_)))))
               refine cdF rfl (sp (bN (bN (tN ((hK11 _ _ ?_))))))
               refine rg (mv (v := (.int .i64 i)) rfl rfl (ar (a := (i : Int)) (b := 1) (c := (i : Int) + 1) rfl rfl rfl rfl (w64 (by omega)) (asg (v := (.int .i64 ((i : Int) + 1))) rfl rfl (wl_nil (tN (?_))))))
               exact again ((i + 1), ci, dq, bq, vr, lq, wr) ⟨rfl, rfl, rfl, rfl, eqI (by first | rfl | omega), trivial⟩ (⟨hst, by omega, hI0, hInv.no hch2 h2 h3 h4 h5 h6 h8, hw, hco, hroom⟩) (by show ((usesB o).size - (i + 1) : Nat) < (usesB o).size - i; omega)
 · refine cmp (a := (i : Int)) (b := ((usesB o).size : Int)) rfl rfl rfl (c_nlt h1) (wl_nil (tN ((hK10 _ _ ?_))))
   refine cdF rfl (xt (tX (tX (bX (tN ((hK7 _ _ ?_)))))))
   refine sq fun K31 hK31 => ?_
   cases hz3 : (wr : Bool)
   · skip
     subst hz3
     by_cases h10 : ((lq.length : Int) : Int) = (0 : Int)
     · skip
       by_cases h11 : (checkS ci : Int) = (0 : Int)
       · skip
         refine rgs (Γ := Unit) mixed [[], [], [1], [1, 2], [1, 2, 3], [1, 2, 3, 4], [1, 2, 3, 4, 5], [1, 2, 3, 4, 5, 6], [1, 2, 3, 4, 5, 6, 7], [1, 2, 3, 4, 5, 6, 7, 8], [1, 2, 3, 4, 5, 6, 7, 8, 9], [1, 2, 3, 4, 5, 6, 7, 8, 9, 10], [1, 2, 3, 4, 5, 6, 7, 8, 9, 10, 11], [1, 2, 3, 4, 5, 6, 7, 8, 9, 10, 11, 12], [1, 2, 3, 4, 5, 6, 7, 8, 9, 10, 11, 12, 13], [1, 2, 3, 4, 5, 6, 7, 8, 9, 10, 11, 12, 13, 14], [1, 2, 3, 4, 5, 6, 7, 8, 9, 10, 11, 12, 13, 14, 15], [1, 2, 3, 4, 5, 6, 7, 8, 9, 10, 11, 12, 13, 14, 15, 16], [1, 2, 3, 4, 5, 6, 7, 8, 9, 10, 11, 12, 13, 14, 15, 16, 17], [0, 1, 2, 3, 4, 5, 6, 7, 8, 9, 10, 11, 12, 13, 14, 15, 16], [0, 1, 2, 3, 4, 5, 6, 7, 8, 9, 10, 11, 12, 13, 14, 15, 16, 17, 18, 19]] [19] (by decide) [fun _ => (.agg #[(.int .i64 ci.op), (.int .u64 ci.u), (.int .u64 ci.v), (.int .i64 ci.wt), (.int .i64 ci.t), dq, bq]), fun _ => (.pointer (some ⟨b4, 0, none⟩)), fun _ => (.pointer (some ⟨b4, 0, none⟩)), fun _ => (.pointer (some ⟨b4, 1, none⟩)), fun _ => (.bool false), fun _ => (.bool true), fun _ => (.bool true), fun _ => (.pointer (some ⟨b4, 0, none⟩)), fun _ => (.pointer (some ⟨b4, 0, none⟩)), fun _ => (.pointer (some ⟨b4, 0, none⟩)), fun _ => vr, fun _ => (.int .i64 (lq.length : Int)), fun _ => (.bool true), fun _ => (.bool true), fun _ => (.bool true), fun _ => (.agg #[(.int .i64 ci.op), (.int .u64 ci.u), (.int .u64 ci.v), (.int .i64 ci.wt), (.int .i64 ci.t), dq, bq]), fun _ => (.int .i64 (checkS ci)), fun _ => (.bool true), fun _ => (.bool true), fun _ => undef, fun _ => (.bool true)] [(fun _ => [rowI .i64 bq 2 ci.bo, rowI .u64 dq 24 ci.dr, blk b4 103 [vr, (.bool false)], blk b3 28 [(.int .i64 ci.op), (.int .u64 ci.u), (.int .u64 ci.v), (.int .i64 ci.wt), (.int .i64 ci.t), dq, bq], blk b1 28 [(.int .i64 0), (.int .u64 0), (.int .u64 0), (.int .i64 0), (.int .i64 0), (.slice none 0 0), (.slice none 0 0)]], fun _ _ => True), (fun _ => [rowI .i64 bq 2 ci.bo, rowI .u64 dq 24 ci.dr, blk b4 103 [vr, (.bool false)], blk b3 28 [(.int .i64 ci.op), (.int .u64 ci.u), (.int .u64 ci.v), (.int .i64 ci.wt), (.int .i64 ci.t), dq, bq], blk b1 28 [(.int .i64 ci.op), (.int .u64 ci.u), (.int .u64 ci.v), (.int .i64 ci.wt), (.int .i64 ci.t), dq, bq]], fun _ _ => True)] () (fun _ => (3, (.bool true)) :: (131, (.bool true)) :: (130, (.bool true)) :: (129, (.int .i64 (checkS ci))) :: (128, (.agg #[(.int .i64 ci.op), (.int .u64 ci.u), (.int .u64 ci.v), (.int .i64 ci.wt), (.int .i64 ci.t), dq, bq])) :: (127, (.bool true)) :: (126, (.bool true)) :: (125, (.bool true)) :: (124, (.int .i64 (lq.length : Int))) :: (123, vr) :: (122, (.pointer (some ⟨b4, 0, none⟩))) :: (121, (.pointer (some ⟨b4, 0, none⟩))) :: (120, (.pointer (some ⟨b4, 0, none⟩))) :: (119, (.bool true)) :: (118, (.bool true)) :: (117, (.bool false)) :: (116, (.pointer (some ⟨b4, 1, none⟩))) :: (115, (.pointer (some ⟨b4, 0, none⟩))) :: (114, (.pointer (some ⟨b4, 0, none⟩))) :: (113, (.agg #[(.int .i64 ci.op), (.int .u64 ci.u), (.int .u64 ci.v), (.int .i64 ci.wt), (.int .i64 ci.t), dq, bq])) :: _) rfl hst (fun _ _ => trivial) ?_ (fun _ => rfl) rfl ?_
         · skip
           refine ob_q1 rfl rfl rfl rfl (fun _ wq hM hF => qv rfl rfl (ldA_r (cs := [(.int .i64 ci.op), (.int .u64 ci.u), (.int .u64 ci.v), (.int .i64 ci.wt), (.int .i64 ci.t), dq, bq]) rfl Try.underlying28 rfl ti28 rfl (St.blkCells hM (i := 3) (o := 0) (vs := [(.int .i64 ci.op), (.int .u64 ci.u), (.int .u64 ci.v), (.int .i64 ci.wt), (.int .i64 ci.t), dq, bq]) rfl rfl))) (ob_p rfl (fun _ _ _ => qv rfl rfl (mv_r (v := (.pointer (some ⟨b4, 0, none⟩))) rfl)) (ob_p rfl (fun _ _ _ => qv rfl rfl (nilc_r (a := ⟨b4, 0, none⟩) rfl)) (ob_p rfl (fun _ _ _ => qv rfl rfl (fa_r (o := 0) (o' := 1) rfl Try.underlying103 rfl ti4 rfl)) (ob_q1 rfl rfl rfl rfl (fun _ wq hM hF => qv rfl rfl (ld_r (a := ⟨b4, 1, none⟩) (v := (.bool false)) rfl Try.underlying4 rfl (St.blkCell hM (i := 2) rfl rfl))) (ob_p rfl (fun _ _ _ => qv rfl rfl (not_r (b := false) (c := true) rfl rfl)) (ob_p rfl (fun _ _ _ => qv rfl rfl (mv_r (v := (.bool true)) rfl)) (ob_p rfl (fun _ _ _ => qv rfl rfl (mv_r (v := (.pointer (some ⟨b4, 0, none⟩))) rfl)) ?_)))))))
           refine ob_p rfl (fun _ _ _ => qv rfl rfl (nilc_r (a := ⟨b4, 0, none⟩) rfl)) (ob_p rfl (fun _ _ _ => qv rfl rfl (fa_r (o := 0) (o' := 0) rfl Try.underlying103 rfl ti22 rfl)) (ob_q1 rfl rfl rfl rfl (fun _ wq hM hF => qv rfl rfl (ld_r (a := ⟨b4, 0, none⟩) (v := vr) rfl Try.underlying22 rfl (St.blkCell hM (i := 2) rfl rfl))) (ob_p rfl (fun _ _ _ => qv rfl rfl (lenI_r (v := vr) rfl Try.underlying22 hI0)) (ob_p rfl (fun _ _ _ => qv rfl rfl (cmp_r (a := (lq.length : Int)) (b := 0) rfl rfl (c_eq h10))) (ob_p rfl (fun _ _ _ => qv rfl rfl (pkT_r (v := (.bool true)) rfl rfl)) (ob_p rfl (fun _ _ _ => qv rfl rfl (mv_r (v := (.bool true)) rfl)) (ob_q1 rfl rfl rfl rfl (fun _ wq hM hF => qv rfl rfl (ldA_r (cs := [(.int .i64 ci.op), (.int .u64 ci.u), (.int .u64 ci.v), (.int .i64 ci.wt), (.int .i64 ci.t), dq, bq]) rfl Try.underlying28 rfl ti28 rfl (St.blkCells hM (i := 3) (o := 0) (vs := [(.int .i64 ci.op), (.int .u64 ci.u), (.int .u64 ci.v), (.int .i64 ci.wt), (.int .i64 ci.t), dq, bq]) rfl rfl))) ?_)))))))
           refine ob_q1 rfl rfl rfl rfl (fun _ wq hM hF => qc rfl rfl (clF_r (vl := [(.agg #[(.int .i64 ci.op), (.int .u64 ci.u), (.int .u64 ci.v), (.int .i64 ci.wt), (.int .i64 ci.t), dq, bq])]) rfl ent29) (CR.mono (rCheck_ok ci dq bq wq hco (hM.newInts (w0 := w) (i := 1) (by simp) rfl hco.dr).any (hM.newInts (w0 := w) (i := 0) (by simp) rfl hco.bo).any) fun _ _ h => ⟨h.1, ⟨hM.grow h.2, trivial⟩⟩)) (ob_p rfl (fun _ _ _ => qv rfl rfl (cmp_r (a := checkS ci) (b := 0) rfl rfl (c_eq h11))) (ob_p rfl (fun _ _ _ => qv rfl rfl (pkT_r (v := (.bool true)) rfl rfl)) (ob_m rfl rfl rfl rfl (fun _ wq hM hF => m_sto (v := (.agg #[(.int .i64 ci.op), (.int .u64 ci.u), (.int .u64 ci.v), (.int .i64 ci.wt), (.int .i64 ci.t), dq, bq])) (vs := [(.int .i64 ci.op), (.int .u64 ci.u), (.int .u64 ci.v), (.int .i64 ci.wt), (.int .i64 ci.t), dq, bq]) (cs' := [(.int .i64 ci.op), (.int .u64 ci.u), (.int .u64 ci.v), (.int .i64 ci.wt), (.int .i64 ci.t), dq, bq]) (L' := [rowI .i64 bq 2 ci.bo, rowI .u64 dq 24 ci.dr, blk b4 103 [vr, (.bool false)], blk b3 28 [(.int .i64 ci.op), (.int .u64 ci.u), (.int .u64 ci.v), (.int .i64 ci.wt), (.int .i64 ci.t), dq, bq], blk b1 28 [(.int .i64 ci.op), (.int .u64 ci.u), (.int .u64 ci.v), (.int .i64 ci.wt), (.int .i64 ci.t), dq, bq]]) 4 rfl rfl rfl rfl ti28 rfl (all1 rfl (all1 rfl (all1 rfl (all1 rfl (all1 rfl (all1 (St.row1 hM (i := 1) rfl) (all1 (St.row1 hM (i := 0) rfl) all0))))))) hM rfl rfl rfl rfl (fun _ h => ⟨(), ⟨h, trivial⟩, rfl, Stab.refl _ _ _⟩)) (ob_p rfl (fun _ _ _ => qv rfl rfl (asg_r (v := (.bool true)) rfl)) ?_))))
           exact ob_n
         rintro - w26 hs27 -
         refine tN ((hK31 _ _ ?_))
         refine rt (retL2 (v := (.agg #[(.int .i64 ci.op), (.int .u64 ci.u), (.int .u64 ci.v), (.int .i64 ci.wt), (.int .i64 ci.t), dq, bq])) (v' := (.bool true)) Try.results48 (rvA (cs := [(.int .i64 ci.op), (.int .u64 ci.u), (.int .u64 ci.v), (.int .i64 ci.wt), (.int .i64 ci.t), dq, bq]) rfl Try.underlying28 rfl ti28 rfl (St.blkCells hs27 (i := 4) (o := 0) (vs := [(.int .i64 ci.op), (.int .u64 ci.u), (.int .u64 ci.v), (.int .i64 ci.wt), (.int .i64 ci.t), dq, bq]) rfl rfl)) (rvT rfl) ?_)
         have hans := command_ans hInv (by omega) hw
         have hf := ans_some hans h10 h11
         exact ⟨ci, dq, bq, by rw [hf]; rfl, fun c' hc' => (by rw [hf] at hc'; cases hc'; rfl), hco, hs27.newInts (i := 1) (by simp) rfl hco.dr, hs27.newInts (i := 0) (by simp) rfl hco.bo, hs27.chg (by simp)⟩
       · skip
         refine rgs (Γ := Unit) mixed [[], [], [1], [1, 2], [1, 2, 3], [1, 2, 3, 4], [1, 2, 3, 4, 5], [1, 2, 3, 4, 5, 6], [1, 2, 3, 4, 5, 6, 7], [1, 2, 3, 4, 5, 6, 7, 8], [1, 2, 3, 4, 5, 6, 7, 8, 9], [1, 2, 3, 4, 5, 6, 7, 8, 9, 10], [1, 2, 3, 4, 5, 6, 7, 8, 9, 10, 11], [1, 2, 3, 4, 5, 6, 7, 8, 9, 10, 11, 12], [1, 2, 3, 4, 5, 6, 7, 8, 9, 10, 11, 12, 13], [1, 2, 3, 4, 5, 6, 7, 8, 9, 10, 11, 12, 13, 14], [1, 2, 3, 4, 5, 6, 7, 8, 9, 10, 11, 12, 13, 14, 15], [1, 2, 3, 4, 5, 6, 7, 8, 9, 10, 11, 12, 13, 14, 15, 16], [1, 2, 3, 4, 5, 6, 7, 8, 9, 10, 11, 12, 13, 14, 15, 16, 17], [0, 1, 2, 3, 4, 5, 6, 7, 8, 9, 10, 11, 12, 13, 14, 15, 16], [0, 1, 2, 3, 4, 5, 6, 7, 8, 9, 10, 11, 12, 13, 14, 15, 16, 17, 18, 19]] [19] (by decide) [fun _ => (.agg #[(.int .i64 ci.op), (.int .u64 ci.u), (.int .u64 ci.v), (.int .i64 ci.wt), (.int .i64 ci.t), dq, bq]), fun _ => (.pointer (some ⟨b4, 0, none⟩)), fun _ => (.pointer (some ⟨b4, 0, none⟩)), fun _ => (.pointer (some ⟨b4, 1, none⟩)), fun _ => (.bool false), fun _ => (.bool true), fun _ => (.bool true), fun _ => (.pointer (some ⟨b4, 0, none⟩)), fun _ => (.pointer (some ⟨b4, 0, none⟩)), fun _ => (.pointer (some ⟨b4, 0, none⟩)), fun _ => vr, fun _ => (.int .i64 (lq.length : Int)), fun _ => (.bool true), fun _ => (.bool true), fun _ => (.bool true), fun _ => (.agg #[(.int .i64 ci.op), (.int .u64 ci.u), (.int .u64 ci.v), (.int .i64 ci.wt), (.int .i64 ci.t), dq, bq]), fun _ => (.int .i64 (checkS ci)), fun _ => (.bool false), fun _ => (.bool false), fun _ => undef, fun _ => (.bool false)] [(fun _ => [rowI .i64 bq 2 ci.bo, rowI .u64 dq 24 ci.dr, blk b4 103 [vr, (.bool false)], blk b3 28 [(.int .i64 ci.op), (.int .u64 ci.u), (.int .u64 ci.v), (.int .i64 ci.wt), (.int .i64 ci.t), dq, bq], blk b1 28 [(.int .i64 0), (.int .u64 0), (.int .u64 0), (.int .i64 0), (.int .i64 0), (.slice none 0 0), (.slice none 0 0)]], fun _ _ => True), (fun _ => [rowI .i64 bq 2 ci.bo, rowI .u64 dq 24 ci.dr, blk b4 103 [vr, (.bool false)], blk b3 28 [(.int .i64 ci.op), (.int .u64 ci.u), (.int .u64 ci.v), (.int .i64 ci.wt), (.int .i64 ci.t), dq, bq], blk b1 28 [(.int .i64 ci.op), (.int .u64 ci.u), (.int .u64 ci.v), (.int .i64 ci.wt), (.int .i64 ci.t), dq, bq]], fun _ _ => True)] () (fun _ => (3, (.bool false)) :: (131, (.bool false)) :: (130, (.bool false)) :: (129, (.int .i64 (checkS ci))) :: (128, (.agg #[(.int .i64 ci.op), (.int .u64 ci.u), (.int .u64 ci.v), (.int .i64 ci.wt), (.int .i64 ci.t), dq, bq])) :: (127, (.bool true)) :: (126, (.bool true)) :: (125, (.bool true)) :: (124, (.int .i64 (lq.length : Int))) :: (123, vr) :: (122, (.pointer (some ⟨b4, 0, none⟩))) :: (121, (.pointer (some ⟨b4, 0, none⟩))) :: (120, (.pointer (some ⟨b4, 0, none⟩))) :: (119, (.bool true)) :: (118, (.bool true)) :: (117, (.bool false)) :: (116, (.pointer (some ⟨b4, 1, none⟩))) :: (115, (.pointer (some ⟨b4, 0, none⟩))) :: (114, (.pointer (some ⟨b4, 0, none⟩))) :: (113, (.agg #[(.int .i64 ci.op), (.int .u64 ci.u), (.int .u64 ci.v), (.int .i64 ci.wt), (.int .i64 ci.t), dq, bq])) :: _) rfl hst (fun _ _ => trivial) ?_ (fun _ => rfl) rfl ?_
         · skip
           refine ob_q1 rfl rfl rfl rfl (fun _ wq hM hF => qv rfl rfl (ldA_r (cs := [(.int .i64 ci.op), (.int .u64 ci.u), (.int .u64 ci.v), (.int .i64 ci.wt), (.int .i64 ci.t), dq, bq]) rfl Try.underlying28 rfl ti28 rfl (St.blkCells hM (i := 3) (o := 0) (vs := [(.int .i64 ci.op), (.int .u64 ci.u), (.int .u64 ci.v), (.int .i64 ci.wt), (.int .i64 ci.t), dq, bq]) rfl rfl))) (ob_p rfl (fun _ _ _ => qv rfl rfl (mv_r (v := (.pointer (some ⟨b4, 0, none⟩))) rfl)) (ob_p rfl (fun _ _ _ => qv rfl rfl (nilc_r (a := ⟨b4, 0, none⟩) rfl)) (ob_p rfl (fun _ _ _ => qv rfl rfl (fa_r (o := 0) (o' := 1) rfl Try.underlying103 rfl ti4 rfl)) (ob_q1 rfl rfl rfl rfl (fun _ wq hM hF => qv rfl rfl (ld_r (a := ⟨b4, 1, none⟩) (v := (.bool false)) rfl Try.underlying4 rfl (St.blkCell hM (i := 2) rfl rfl))) (ob_p rfl (fun _ _ _ => qv rfl rfl (not_r (b := false) (c := true) rfl rfl)) (ob_p rfl (fun _ _ _ => qv rfl rfl (mv_r (v := (.bool true)) rfl)) (ob_p rfl (fun _ _ _ => qv rfl rfl (mv_r (v := (.pointer (some ⟨b4, 0, none⟩))) rfl)) ?_)))))))
           refine ob_p rfl (fun _ _ _ => qv rfl rfl (nilc_r (a := ⟨b4, 0, none⟩) rfl)) (ob_p rfl (fun _ _ _ => qv rfl rfl (fa_r (o := 0) (o' := 0) rfl Try.underlying103 rfl ti22 rfl)) (ob_q1 rfl rfl rfl rfl (fun _ wq hM hF => qv rfl rfl (ld_r (a := ⟨b4, 0, none⟩) (v := vr) rfl Try.underlying22 rfl (St.blkCell hM (i := 2) rfl rfl))) (ob_p rfl (fun _ _ _ => qv rfl rfl (lenI_r (v := vr) rfl Try.underlying22 hI0)) (ob_p rfl (fun _ _ _ => qv rfl rfl (cmp_r (a := (lq.length : Int)) (b := 0) rfl rfl (c_eq h10))) (ob_p rfl (fun _ _ _ => qv rfl rfl (pkT_r (v := (.bool true)) rfl rfl)) (ob_p rfl (fun _ _ _ => qv rfl rfl (mv_r (v := (.bool true)) rfl)) (ob_q1 rfl rfl rfl rfl (fun _ wq hM hF => qv rfl rfl (ldA_r (cs := [(.int .i64 ci.op), (.int .u64 ci.u), (.int .u64 ci.v), (.int .i64 ci.wt), (.int .i64 ci.t), dq, bq]) rfl Try.underlying28 rfl ti28 rfl (St.blkCells hM (i := 3) (o := 0) (vs := [(.int .i64 ci.op), (.int .u64 ci.u), (.int .u64 ci.v), (.int .i64 ci.wt), (.int .i64 ci.t), dq, bq]) rfl rfl))) ?_)))))))
           refine ob_q1 rfl rfl rfl rfl (fun _ wq hM hF => qc rfl rfl (clF_r (vl := [(.agg #[(.int .i64 ci.op), (.int .u64 ci.u), (.int .u64 ci.v), (.int .i64 ci.wt), (.int .i64 ci.t), dq, bq])]) rfl ent29) (CR.mono (rCheck_ok ci dq bq wq hco (hM.newInts (w0 := w) (i := 1) (by simp) rfl hco.dr).any (hM.newInts (w0 := w) (i := 0) (by simp) rfl hco.bo).any) fun _ _ h => ⟨h.1, ⟨hM.grow h.2, trivial⟩⟩)) (ob_p rfl (fun _ _ _ => qv rfl rfl (cmp_r (a := checkS ci) (b := 0) rfl rfl (c_neq h11))) (ob_p rfl (fun _ _ _ => qv rfl rfl (pkT_r (v := (.bool false)) rfl rfl)) (ob_m rfl rfl rfl rfl (fun _ wq hM hF => m_sto (v := (.agg #[(.int .i64 ci.op), (.int .u64 ci.u), (.int .u64 ci.v), (.int .i64 ci.wt), (.int .i64 ci.t), dq, bq])) (vs := [(.int .i64 ci.op), (.int .u64 ci.u), (.int .u64 ci.v), (.int .i64 ci.wt), (.int .i64 ci.t), dq, bq]) (cs' := [(.int .i64 ci.op), (.int .u64 ci.u), (.int .u64 ci.v), (.int .i64 ci.wt), (.int .i64 ci.t), dq, bq]) (L' := [rowI .i64 bq 2 ci.bo, rowI .u64 dq 24 ci.dr, blk b4 103 [vr, (.bool false)], blk b3 28 [(.int .i64 ci.op), (.int .u64 ci.u), (.int .u64 ci.v), (.int .i64 ci.wt), (.int .i64 ci.t), dq, bq], blk b1 28 [(.int .i64 ci.op), (.int .u64 ci.u), (.int .u64 ci.v), (.int .i64 ci.wt), (.int .i64 ci.t), dq, bq]]) 4 rfl rfl rfl rfl ti28 rfl (all1 rfl (all1 rfl (all1 rfl (all1 rfl (all1 rfl (all1 (St.row1 hM (i := 1) rfl) (all1 (St.row1 hM (i := 0) rfl) all0))))))) hM rfl rfl rfl rfl (fun _ h => ⟨(), ⟨h, trivial⟩, rfl, Stab.refl _ _ _⟩)) (ob_p rfl (fun _ _ _ => qv rfl rfl (asg_r (v := (.bool false)) rfl)) ?_))))
           exact ob_n
         rintro - w27 hs28 -
         refine tN ((hK31 _ _ ?_))
         refine rt (retL2 (v := (.agg #[(.int .i64 ci.op), (.int .u64 ci.u), (.int .u64 ci.v), (.int .i64 ci.wt), (.int .i64 ci.t), dq, bq])) (v' := (.bool false)) Try.results48 (rvA (cs := [(.int .i64 ci.op), (.int .u64 ci.u), (.int .u64 ci.v), (.int .i64 ci.wt), (.int .i64 ci.t), dq, bq]) rfl Try.underlying28 rfl ti28 rfl (St.blkCells hs28 (i := 4) (o := 0) (vs := [(.int .i64 ci.op), (.int .u64 ci.u), (.int .u64 ci.v), (.int .i64 ci.wt), (.int .i64 ci.t), dq, bq]) rfl rfl)) (rvT rfl) ?_)
         have hans := command_ans hInv (by omega) hw
         have hf := ans_none hans (by first | exact .inl rfl | exact .inr (.inl h11) | exact .inr (.inr h11))
         exact ⟨ci, dq, bq, by rw [hf]; rfl, fun c' hc' => (by rw [hf] at hc'; cases hc'), hco, hs28.newInts (i := 1) (by simp) rfl hco.dr, hs28.newInts (i := 0) (by simp) rfl hco.bo, hs28.chg (by simp)⟩
     · skip
       refine rgs (Γ := Unit) mixed [[], [], [1], [1, 2], [1, 2, 3], [1, 2, 3, 4], [1, 2, 3, 4, 5], [1, 2, 3, 4, 5, 6], [1, 2, 3, 4, 5, 6, 7], [1, 2, 3, 4, 5, 6, 7, 8], [1, 2, 3, 4, 5, 6, 7, 8, 9], [1, 2, 3, 4, 5, 6, 7, 8, 9, 10], [1, 2, 3, 4, 5, 6, 7, 8, 9, 10, 11], [1, 2, 3, 4, 5, 6, 7, 8, 9, 10, 11, 12], [1, 2, 3, 4, 5, 6, 7, 8, 9, 10, 11, 12, 13], [1, 2, 3, 4, 5, 6, 7, 8, 9, 10, 11, 12, 13, 14], [1, 2, 3, 4, 5, 6, 7, 8, 9, 10, 11, 12, 13, 14, 15], [1, 2, 3, 4, 5, 6, 7, 8, 9, 10, 11, 12, 13, 14, 15, 16], [1, 2, 3, 4, 5, 6, 7, 8, 9, 10, 11, 12, 13, 14, 15, 16, 17], [0, 1, 2, 3, 4, 5, 6, 7, 8, 9, 10, 11, 12, 13, 14, 15, 16], [0, 1, 2, 3, 4, 5, 6, 7, 8, 9, 10, 11, 12, 13, 14, 15, 16, 17, 18, 19]] [19] (by decide) [fun _ => (.agg #[(.int .i64 ci.op), (.int .u64 ci.u), (.int .u64 ci.v), (.int .i64 ci.wt), (.int .i64 ci.t), dq, bq]), fun _ => (.pointer (some ⟨b4, 0, none⟩)), fun _ => (.pointer (some ⟨b4, 0, none⟩)), fun _ => (.pointer (some ⟨b4, 1, none⟩)), fun _ => (.bool false), fun _ => (.bool true), fun _ => (.bool true), fun _ => (.pointer (some ⟨b4, 0, none⟩)), fun _ => (.pointer (some ⟨b4, 0, none⟩)), fun _ => (.pointer (some ⟨b4, 0, none⟩)), fun _ => vr, fun _ => (.int .i64 (lq.length : Int)), fun _ => (.bool false), fun _ => (.bool false), fun _ => (.bool false), fun _ => undef, fun _ => undef, fun _ => undef, fun _ => (.bool false), fun _ => undef, fun _ => (.bool false)] [(fun _ => [rowI .i64 bq 2 ci.bo, rowI .u64 dq 24 ci.dr, blk b4 103 [vr, (.bool false)], blk b3 28 [(.int .i64 ci.op), (.int .u64 ci.u), (.int .u64 ci.v), (.int .i64 ci.wt), (.int .i64 ci.t), dq, bq], blk b1 28 [(.int .i64 0), (.int .u64 0), (.int .u64 0), (.int .i64 0), (.int .i64 0), (.slice none 0 0), (.slice none 0 0)]], fun _ _ => True), (fun _ => [rowI .i64 bq 2 ci.bo, rowI .u64 dq 24 ci.dr, blk b4 103 [vr, (.bool false)], blk b3 28 [(.int .i64 ci.op), (.int .u64 ci.u), (.int .u64 ci.v), (.int .i64 ci.wt), (.int .i64 ci.t), dq, bq], blk b1 28 [(.int .i64 ci.op), (.int .u64 ci.u), (.int .u64 ci.v), (.int .i64 ci.wt), (.int .i64 ci.t), dq, bq]], fun _ _ => True)] () (fun _ => (3, (.bool false)) :: (131, (.bool false)) :: (130, undef) :: (129, undef) :: (128, undef) :: (127, (.bool false)) :: (126, (.bool false)) :: (125, (.bool false)) :: (124, (.int .i64 (lq.length : Int))) :: (123, vr) :: (122, (.pointer (some ⟨b4, 0, none⟩))) :: (121, (.pointer (some ⟨b4, 0, none⟩))) :: (120, (.pointer (some ⟨b4, 0, none⟩))) :: (119, (.bool true)) :: (118, (.bool true)) :: (117, (.bool false)) :: (116, (.pointer (some ⟨b4, 1, none⟩))) :: (115, (.pointer (some ⟨b4, 0, none⟩))) :: (114, (.pointer (some ⟨b4, 0, none⟩))) :: (113, (.agg #[(.int .i64 ci.op), (.int .u64 ci.u), (.int .u64 ci.v), (.int .i64 ci.wt), (.int .i64 ci.t), dq, bq])) :: _) rfl hst (fun _ _ => trivial) ?_ (fun _ => rfl) rfl ?_
       · skip
         refine ob_q1 rfl rfl rfl rfl (fun _ wq hM hF => qv rfl rfl (ldA_r (cs := [(.int .i64 ci.op), (.int .u64 ci.u), (.int .u64 ci.v), (.int .i64 ci.wt), (.int .i64 ci.t), dq, bq]) rfl Try.underlying28 rfl ti28 rfl (St.blkCells hM (i := 3) (o := 0) (vs := [(.int .i64 ci.op), (.int .u64 ci.u), (.int .u64 ci.v), (.int .i64 ci.wt), (.int .i64 ci.t), dq, bq]) rfl rfl))) (ob_p rfl (fun _ _ _ => qv rfl rfl (mv_r (v := (.pointer (some ⟨b4, 0, none⟩))) rfl)) (ob_p rfl (fun _ _ _ => qv rfl rfl (nilc_r (a := ⟨b4, 0, none⟩) rfl)) (ob_p rfl (fun _ _ _ => qv rfl rfl (fa_r (o := 0) (o' := 1) rfl Try.underlying103 rfl ti4 rfl)) (ob_q1 rfl rfl rfl rfl (fun _ wq hM hF => qv rfl rfl (ld_r (a := ⟨b4, 1, none⟩) (v := (.bool false)) rfl Try.underlying4 rfl (St.blkCell hM (i := 2) rfl rfl))) (ob_p rfl (fun _ _ _ => qv rfl rfl (not_r (b := false) (c := true) rfl rfl)) (ob_p rfl (fun _ _ _ => qv rfl rfl (mv_r (v := (.bool true)) rfl)) (ob_p rfl (fun _ _ _ => qv rfl rfl (mv_r (v := (.pointer (some ⟨b4, 0, none⟩))) rfl)) ?_)))))))
         refine ob_p rfl (fun _ _ _ => qv rfl rfl (nilc_r (a := ⟨b4, 0, none⟩) rfl)) (ob_p rfl (fun _ _ _ => qv rfl rfl (fa_r (o := 0) (o' := 0) rfl Try.underlying103 rfl ti22 rfl)) (ob_q1 rfl rfl rfl rfl (fun _ wq hM hF => qv rfl rfl (ld_r (a := ⟨b4, 0, none⟩) (v := vr) rfl Try.underlying22 rfl (St.blkCell hM (i := 2) rfl rfl))) (ob_p rfl (fun _ _ _ => qv rfl rfl (lenI_r (v := vr) rfl Try.underlying22 hI0)) (ob_p rfl (fun _ _ _ => qv rfl rfl (cmp_r (a := (lq.length : Int)) (b := 0) rfl rfl (c_neq h10))) (ob_p rfl (fun _ _ _ => qv rfl rfl (pkT_r (v := (.bool false)) rfl rfl)) (ob_p rfl (fun _ _ _ => qv rfl rfl (mv_r (v := (.bool false)) rfl)) (ob_p rfl (fun _ _ _ => qs rfl rfl) ?_)))))))
         refine ob_p rfl (fun _ _ _ => qs rfl rfl) (ob_p rfl (fun _ _ _ => qs rfl rfl) (ob_p rfl (fun _ _ _ => qv rfl rfl (pkF_r (v := (.bool false)) rfl rfl)) (ob_m rfl rfl rfl rfl (fun _ wq hM hF => m_sto (v := (.agg #[(.int .i64 ci.op), (.int .u64 ci.u), (.int .u64 ci.v), (.int .i64 ci.wt), (.int .i64 ci.t), dq, bq])) (vs := [(.int .i64 ci.op), (.int .u64 ci.u), (.int .u64 ci.v), (.int .i64 ci.wt), (.int .i64 ci.t), dq, bq]) (cs' := [(.int .i64 ci.op), (.int .u64 ci.u), (.int .u64 ci.v), (.int .i64 ci.wt), (.int .i64 ci.t), dq, bq]) (L' := [rowI .i64 bq 2 ci.bo, rowI .u64 dq 24 ci.dr, blk b4 103 [vr, (.bool false)], blk b3 28 [(.int .i64 ci.op), (.int .u64 ci.u), (.int .u64 ci.v), (.int .i64 ci.wt), (.int .i64 ci.t), dq, bq], blk b1 28 [(.int .i64 ci.op), (.int .u64 ci.u), (.int .u64 ci.v), (.int .i64 ci.wt), (.int .i64 ci.t), dq, bq]]) 4 rfl rfl rfl rfl ti28 rfl (all1 rfl (all1 rfl (all1 rfl (all1 rfl (all1 rfl (all1 (St.row1 hM (i := 1) rfl) (all1 (St.row1 hM (i := 0) rfl) all0))))))) hM rfl rfl rfl rfl (fun _ h => ⟨(), ⟨h, trivial⟩, rfl, Stab.refl _ _ _⟩)) (ob_p rfl (fun _ _ _ => qv rfl rfl (asg_r (v := (.bool false)) rfl)) ?_))))
         exact ob_n
       rintro - w28 hs29 -
       refine tN ((hK31 _ _ ?_))
       refine rt (retL2 (v := (.agg #[(.int .i64 ci.op), (.int .u64 ci.u), (.int .u64 ci.v), (.int .i64 ci.wt), (.int .i64 ci.t), dq, bq])) (v' := (.bool false)) Try.results48 (rvA (cs := [(.int .i64 ci.op), (.int .u64 ci.u), (.int .u64 ci.v), (.int .i64 ci.wt), (.int .i64 ci.t), dq, bq]) rfl Try.underlying28 rfl ti28 rfl (St.blkCells hs29 (i := 4) (o := 0) (vs := [(.int .i64 ci.op), (.int .u64 ci.u), (.int .u64 ci.v), (.int .i64 ci.wt), (.int .i64 ci.t), dq, bq]) rfl rfl)) (rvT rfl) ?_)
       have hans := command_ans hInv (by omega) hw
       have hf := ans_none hans (by first | exact .inl rfl | exact .inr (.inl h10) | exact .inr (.inr h10))
       exact ⟨ci, dq, bq, by rw [hf]; rfl, fun c' hc' => (by rw [hf] at hc'; cases hc'), hco, hs29.newInts (i := 1) (by simp) rfl hco.dr, hs29.newInts (i := 0) (by simp) rfl hco.bo, hs29.chg (by simp)⟩
   · skip
     subst hz3
     refine rgs (Γ := Unit) mixed [[], [], [1], [1, 2], [1, 2, 3], [1, 2, 3, 4], [1, 2, 3, 4, 5], [1, 2, 3, 4, 5, 6], [1, 2, 3, 4, 5, 6, 7], [1, 2, 3, 4, 5, 6, 7, 8], [1, 2, 3, 4, 5, 6, 7, 8, 9], [1, 2, 3, 4, 5, 6, 7, 8, 9, 10], [1, 2, 3, 4, 5, 6, 7, 8, 9, 10, 11], [1, 2, 3, 4, 5, 6, 7, 8, 9, 10, 11, 12], [1, 2, 3, 4, 5, 6, 7, 8, 9, 10, 11, 12, 13], [1, 2, 3, 4, 5, 6, 7, 8, 9, 10, 11, 12, 13, 14], [1, 2, 3, 4, 5, 6, 7, 8, 9, 10, 11, 12, 13, 14, 15], [1, 2, 3, 4, 5, 6, 7, 8, 9, 10, 11, 12, 13, 14, 15, 16], [1, 2, 3, 4, 5, 6, 7, 8, 9, 10, 11, 12, 13, 14, 15, 16, 17], [0, 1, 2, 3, 4, 5, 6, 7, 8, 9, 10, 11, 12, 13, 14, 15, 16], [0, 1, 2, 3, 4, 5, 6, 7, 8, 9, 10, 11, 12, 13, 14, 15, 16, 17, 18, 19]] [19] (by decide) [fun _ => (.agg #[(.int .i64 ci.op), (.int .u64 ci.u), (.int .u64 ci.v), (.int .i64 ci.wt), (.int .i64 ci.t), dq, bq]), fun _ => (.pointer (some ⟨b4, 0, none⟩)), fun _ => (.pointer (some ⟨b4, 0, none⟩)), fun _ => (.pointer (some ⟨b4, 1, none⟩)), fun _ => (.bool true), fun _ => (.bool false), fun _ => (.bool false), fun _ => undef, fun _ => undef, fun _ => undef, fun _ => undef, fun _ => undef, fun _ => undef, fun _ => (.bool false), fun _ => (.bool false), fun _ => undef, fun _ => undef, fun _ => undef, fun _ => (.bool false), fun _ => undef, fun _ => (.bool false)] [(fun _ => [rowI .i64 bq 2 ci.bo, rowI .u64 dq 24 ci.dr, blk b4 103 [vr, (.bool true)], blk b3 28 [(.int .i64 ci.op), (.int .u64 ci.u), (.int .u64 ci.v), (.int .i64 ci.wt), (.int .i64 ci.t), dq, bq], blk b1 28 [(.int .i64 0), (.int .u64 0), (.int .u64 0), (.int .i64 0), (.int .i64 0), (.slice none 0 0), (.slice none 0 0)]], fun _ _ => True), (fun _ => [rowI .i64 bq 2 ci.bo, rowI .u64 dq 24 ci.dr, blk b4 103 [vr, (.bool true)], blk b3 28 [(.int .i64 ci.op), (.int .u64 ci.u), (.int .u64 ci.v), (.int .i64 ci.wt), (.int .i64 ci.t), dq, bq], blk b1 28 [(.int .i64 ci.op), (.int .u64 ci.u), (.int .u64 ci.v), (.int .i64 ci.wt), (.int .i64 ci.t), dq, bq]], fun _ _ => True)] () (fun _ => (3, (.bool false)) :: (131, (.bool false)) :: (130, undef) :: (129, undef) :: (128, undef) :: (127, (.bool false)) :: (126, (.bool false)) :: (125, undef) :: (124, undef) :: (123, undef) :: (122, undef) :: (121, undef) :: (120, undef) :: (119, (.bool false)) :: (118, (.bool false)) :: (117, (.bool true)) :: (116, (.pointer (some ⟨b4, 1, none⟩))) :: (115, (.pointer (some ⟨b4, 0, none⟩))) :: (114, (.pointer (some ⟨b4, 0, none⟩))) :: (113, (.agg #[(.int .i64 ci.op), (.int .u64 ci.u), (.int .u64 ci.v), (.int .i64 ci.wt), (.int .i64 ci.t), dq, bq])) :: _) rfl hst (fun _ _ => trivial) ?_ (fun _ => rfl) rfl ?_
     · skip
       refine ob_q1 rfl rfl rfl rfl (fun _ wq hM hF => qv rfl rfl (ldA_r (cs := [(.int .i64 ci.op), (.int .u64 ci.u), (.int .u64 ci.v), (.int .i64 ci.wt), (.int .i64 ci.t), dq, bq]) rfl Try.underlying28 rfl ti28 rfl (St.blkCells hM (i := 3) (o := 0) (vs := [(.int .i64 ci.op), (.int .u64 ci.u), (.int .u64 ci.v), (.int .i64 ci.wt), (.int .i64 ci.t), dq, bq]) rfl rfl))) (ob_p rfl (fun _ _ _ => qv rfl rfl (mv_r (v := (.pointer (some ⟨b4, 0, none⟩))) rfl)) (ob_p rfl (fun _ _ _ => qv rfl rfl (nilc_r (a := ⟨b4, 0, none⟩) rfl)) (ob_p rfl (fun _ _ _ => qv rfl rfl (fa_r (o := 0) (o' := 1) rfl Try.underlying103 rfl ti4 rfl)) (ob_q1 rfl rfl rfl rfl (fun _ wq hM hF => qv rfl rfl (ld_r (a := ⟨b4, 1, none⟩) (v := (.bool true)) rfl Try.underlying4 rfl (St.blkCell hM (i := 2) rfl rfl))) (ob_p rfl (fun _ _ _ => qv rfl rfl (not_r (b := true) (c := false) rfl rfl)) (ob_p rfl (fun _ _ _ => qv rfl rfl (mv_r (v := (.bool false)) rfl)) (ob_p rfl (fun _ _ _ => qs rfl rfl) ?_)))))))
       refine ob_p rfl (fun _ _ _ => qs rfl rfl) (ob_p rfl (fun _ _ _ => qs rfl rfl) (ob_p rfl (fun _ _ _ => qs rfl rfl) (ob_p rfl (fun _ _ _ => qs rfl rfl) (ob_p rfl (fun _ _ _ => qs rfl rfl) (ob_p rfl (fun _ _ _ => qv rfl rfl (pkF_r (v := (.bool false)) rfl rfl)) (ob_p rfl (fun _ _ _ => qv rfl rfl (mv_r (v := (.bool false)) rfl)) (ob_p rfl (fun _ _ _ => qs rfl rfl) ?_)))))))
       refine ob_p rfl (fun _ _ _ => qs rfl rfl) (ob_p rfl (fun _ _ _ => qs rfl rfl) (ob_p rfl (fun _ _ _ => qv rfl rfl (pkF_r (v := (.bool false)) rfl rfl)) (ob_m rfl rfl rfl rfl (fun _ wq hM hF => m_sto (v := (.agg #[(.int .i64 ci.op), (.int .u64 ci.u), (.int .u64 ci.v), (.int .i64 ci.wt), (.int .i64 ci.t), dq, bq])) (vs := [(.int .i64 ci.op), (.int .u64 ci.u), (.int .u64 ci.v), (.int .i64 ci.wt), (.int .i64 ci.t), dq, bq]) (cs' := [(.int .i64 ci.op), (.int .u64 ci.u), (.int .u64 ci.v), (.int .i64 ci.wt), (.int .i64 ci.t), dq, bq]) (L' := [rowI .i64 bq 2 ci.bo, rowI .u64 dq 24 ci.dr, blk b4 103 [vr, (.bool true)], blk b3 28 [(.int .i64 ci.op), (.int .u64 ci.u), (.int .u64 ci.v), (.int .i64 ci.wt), (.int .i64 ci.t), dq, bq], blk b1 28 [(.int .i64 ci.op), (.int .u64 ci.u), (.int .u64 ci.v), (.int .i64 ci.wt), (.int .i64 ci.t), dq, bq]]) 4 rfl rfl rfl rfl ti28 rfl (all1 rfl (all1 rfl (all1 rfl (all1 rfl (all1 rfl (all1 (St.row1 hM (i := 1) rfl) (all1 (St.row1 hM (i := 0) rfl) all0))))))) hM rfl rfl rfl rfl (fun _ h => ⟨(), ⟨h, trivial⟩, rfl, Stab.refl _ _ _⟩)) (ob_p rfl (fun _ _ _ => qv rfl rfl (asg_r (v := (.bool false)) rfl)) ?_))))
       exact ob_n
     rintro - w29 hs30 -
     refine tN ((hK31 _ _ ?_))
     refine rt (retL2 (v := (.agg #[(.int .i64 ci.op), (.int .u64 ci.u), (.int .u64 ci.v), (.int .i64 ci.wt), (.int .i64 ci.t), dq, bq])) (v' := (.bool false)) Try.results48 (rvA (cs := [(.int .i64 ci.op), (.int .u64 ci.u), (.int .u64 ci.v), (.int .i64 ci.wt), (.int .i64 ci.t), dq, bq]) rfl Try.underlying28 rfl ti28 rfl (St.blkCells hs30 (i := 4) (o := 0) (vs := [(.int .i64 ci.op), (.int .u64 ci.u), (.int .u64 ci.v), (.int .i64 ci.wt), (.int .i64 ci.t), dq, bq]) rfl rfl)) (rvT rfl) ?_)
     have hans := command_ans hInv (by omega) hw
     have hf := ans_none hans (by first | exact .inl rfl | exact .inr (.inl h1) | exact .inr (.inr h1))
     exact ⟨ci, dq, bq, by rw [hf]; rfl, fun c' hc' => (by rw [hf] at hc'; cases hc'), hco, hs30.newInts (i := 1) (by simp) rfl hco.dr, hs30.newInts (i := 0) (by simp) rfl hco.bo, hs30.chg (by simp)⟩
theorem command_n (v : Value) (w : World) (hv : Ints .u8 (fun _ => True) w v []) :
 CR Try.prog 48 #[v] w (fun r w' => ∃ c' dv bv, r = .tuple #[.agg #[.int .i64 c'.op, .int .u64 c'.u, .int .u64 c'.v, .int .i64 c'.wt, .int .i64 c'.t, dv, bv], .bool (cmdS []).isSome] ∧ (∀ c, cmdS [] = some c → c = c') ∧ c'.ok ∧ Ints .u64 (fun b => w.heap.size ≤ b) w' dv c'.dr ∧ Ints .i64 (fun b => w.heap.size ≤ b) w' bv c'.bo ∧ Chg [] w w') := by
 refine enter (vs := [v]) Try.func48 rfl Try.ntmps48 rfl ?_
 have hst0 := St.init w
 refine sq fun K1 hK1 => (rg (al (cs := [(.int .i64 0), (.int .u64 0), (.int .u64 0), (.int .i64 0), (.int .i64 0), (.slice none 0 0), (.slice none 0 0)]) rfl ti28 rfl hst0 (fun b1 w1 hn1 hc1 hs1 => asg (v := (.bool false)) rfl rfl (wl_nil (tN ((hK1 _ _ ?_)))))))
 refine sq fun K2 hK2 => (sq fun K3 hK3 => (rg (mv (v := v) rfl rfl (lenI (v := v) rfl rfl Try.underlying22 hv (cmp (a := (([] : List Int).length : Int)) (b := 0) rfl rfl rfl (c_eq (by simp)) (wl_nil (tN ((hK3 _ _ ?_)))))))))
 refine cdT rfl (sq fun K4 hK4 => (rg (bld (pvs := []) (v := .agg #[(.int .i64 0), (.int .u64 0), (.int .u64 0), (.int .i64 0), (.int .i64 0), (.slice none 0 0), (.slice none 0 0)]) rfl rfl (buildS [] ti28 pl28 rfl trivial rfl) (sto (v := (.agg #[(.int .i64 0), (.int .u64 0), (.int .u64 0), (.int .i64 0), (.int .i64 0), (.slice none 0 0), (.slice none 0 0)])) (vs := [(.int .i64 0), (.int .u64 0), (.int .u64 0), (.int .i64 0), (.int .i64 0), (.slice none 0 0), (.slice none 0 0)]) (cs' := [(.int .i64 0), (.int .u64 0), (.int .u64 0), (.int .i64 0), (.int .i64 0), (.slice none 0 0), (.slice none 0 0)]) (L' := [blk b1 28 [(.int .i64 0), (.int .u64 0), (.int .u64 0), (.int .i64 0), (.int .i64 0), (.slice none 0 0), (.slice none 0 0)]]) 0 rfl rfl rfl rfl ti28 rfl rfl hs1 rfl rfl rfl rfl (fun w2 hs2 => asg (v := (.bool false)) rfl rfl (wl_nil (tN ((hK4 _ _ ?_)))))))))
 refine rt (tR (?_))
 refine retL2 (v := (.agg #[(.int .i64 0), (.int .u64 0), (.int .u64 0), (.int .i64 0), (.int .i64 0), (.slice none 0 0), (.slice none 0 0)])) (v' := (.bool false)) Try.results48 (rvA (cs := [(.int .i64 0), (.int .u64 0), (.int .u64 0), (.int .i64 0), (.int .i64 0), (.slice none 0 0), (.slice none 0 0)]) rfl Try.underlying28 rfl ti28 rfl (St.blkCells hs2 (i := 0) (o := 0) (vs := [(.int .i64 0), (.int .u64 0), (.int .u64 0), (.int .i64 0), (.int .i64 0), (.slice none 0 0), (.slice none 0 0)]) rfl rfl)) (rvT rfl) ?_
 exact ⟨cmd0 0, _, _, rfl, fun c' hc' => (by cases hc'), cmd0_ok (by omega), Sl.nil _ _ _ _, Sl.nil _ _ _ _, hs2.chg (by simp)⟩
theorem command_ok (v : Value) (p : List Int) (w : World) (hv : Ints .u8 (fun _ => True) w v p) (hl0 : p.length ≤ 1000000000000) : CR Try.prog 48 #[v] w (fun r w' => ∃ c' dv bv, r = .tuple #[.agg #[.int .i64 c'.op, .int .u64 c'.u, .int .u64 c'.v, .int .i64 c'.wt, .int .i64 c'.t, dv, bv], .bool (cmdS p).isSome] ∧ (∀ c, cmdS p = some c → c = c') ∧ c'.ok ∧ Ints .u64 (fun b => w.heap.size ≤ b) w' dv c'.dr ∧ Ints .i64 (fun b => w.heap.size ≤ b) w' bv c'.bo ∧ Chg [] w w') := by
 cases p with
 | nil => exact command_n v w hv
 | cons o l => exact command_c v o l w hv hl0
theorem rGet_none (v : Value) (xs : List Int) (w : World) (hv : Ints .u8 (fun _ => True) w v xs) (hl0 : xs.length ≤ 1000000000000) (hg : getU xs = none) :
 CR Try.prog 38 #[v] w (fun r w' => ∃ dv bv, r = getV (getS xs) dv bv ∧ getOk (fun b => w.heap.size ≤ b) w' (getS xs) dv bv ∧ Chg [] w w') := by
 refine enter (vs := [v]) Try.func38 rfl Try.ntmps38 rfl ?_
 have hst0 := St.init w
 refine sq fun K1 hK1 => (rg (al (cs := [(.int .i64 0), (.int .u64 0), (.int .u64 0), (.int .i64 0), (.int .i64 0), (.slice none 0 0), (.slice none 0 0)]) rfl ti28 rfl hst0 (fun b1 w1 hn1 hc1 hs1 => asg (v := (.int .i64 0)) rfl rfl (asg (v := (.int .i64 0)) rfl rfl (wl_nil (tN ((hK1 _ _ ?_))))))))
 refine sq fun K2 hK2 => (rg (mv (v := v) rfl rfl (clF (vl := [v]) rfl rfl ent47 (rGetUint_ok v xs w1 (St.ints0 hs1 (by simp) hv)) ?_)))
 rintro _ _ ⟨rfl, rfl⟩
 rw [hg]
 refine mv (v := (.tuple #[(.int .u64 0), (.int .i64 0), (.int .i64 15)])) rfl rfl (ex (vs := #[(.int .u64 0), (.int .i64 0), (.int .i64 15)]) (v := (.int .u64 0)) rfl rfl rfl (ex (vs := #[(.int .u64 0), (.int .i64 0), (.int .i64 15)]) (v := (.int .i64 0)) rfl rfl rfl (ex (vs := #[(.int .u64 0), (.int .i64 0), (.int .i64 15)]) (v := (.int .i64 15)) rfl rfl rfl (asg (v := (.int .u64 0)) rfl rfl (asg (v := (.int .i64 0)) rfl rfl (asg (v := (.int .i64 15)) rfl rfl (wl_nil ?_)))))))
 refine tN ((hK2 _ _ ?_))
 refine sq fun K3 hK3 => (sq fun K4 hK4 => (rg (mv (v := (.int .i64 15)) rfl rfl (cmp (a := 15) (b := 0) rfl rfl rfl (c_ne (by decide)) (mv (v := (.bool true)) rfl rfl (sk rfl (sk rfl ?_)))))))
 refine sk rfl (sk rfl (sk rfl (sk rfl (sk rfl (pkT (v := (.bool true)) rfl rfl rfl (wl_nil (tN ((hK4 _ _ ?_)))))))))
 refine cdT rfl (sq fun K5 hK5 => (rg (bld (pvs := []) (v := .agg #[(.int .i64 0), (.int .u64 0), (.int .u64 0), (.int .i64 0), (.int .i64 0), (.slice none 0 0), (.slice none 0 0)]) rfl rfl (buildS [] ti28 pl28 rfl trivial rfl) (sto (v := (.agg #[(.int .i64 0), (.int .u64 0), (.int .u64 0), (.int .i64 0), (.int .i64 0), (.slice none 0 0), (.slice none 0 0)])) (vs := [(.int .i64 0), (.int .u64 0), (.int .u64 0), (.int .i64 0), (.int .i64 0), (.slice none 0 0), (.slice none 0 0)]) (cs' := [(.int .i64 0), (.int .u64 0), (.int .u64 0), (.int .i64 0), (.int .i64 0), (.slice none 0 0), (.slice none 0 0)]) (L' := [blk b1 28 [(.int .i64 0), (.int .u64 0), (.int .u64 0), (.int .i64 0), (.int .i64 0), (.slice none 0 0), (.slice none 0 0)]]) 0 rfl rfl rfl rfl ti28 rfl rfl hs1 rfl rfl rfl rfl (fun w2 hs2 => asg (v := (.int .i64 0)) rfl rfl (asg (v := (.int .i64 15)) rfl rfl (wl_nil ?_)))))))
 refine tN ((hK5 _ _ ?_))
 refine rt (tR (?_))
 refine retL3 (v := (.agg #[(.int .i64 0), (.int .u64 0), (.int .u64 0), (.int .i64 0), (.int .i64 0), (.slice none 0 0), (.slice none 0 0)])) (v' := (.int .i64 0)) (v'' := (.int .i64 15)) Try.results38 (rvA (cs := [(.int .i64 0), (.int .u64 0), (.int .u64 0), (.int .i64 0), (.int .i64 0), (.slice none 0 0), (.slice none 0 0)]) rfl Try.underlying28 rfl ti28 rfl (St.blkCells hs2 (i := 0) (o := 0) (vs := [(.int .i64 0), (.int .u64 0), (.int .u64 0), (.int .i64 0), (.int .i64 0), (.slice none 0 0), (.slice none 0 0)]) rfl rfl)) (rvT rfl) (rvT rfl) ?_
 exact ⟨.slice none 0 0, .slice none 0 0, by rw [getS_none hg]; rfl, by rw [getS_none hg]; trivial, hs2.chg (by simp)⟩
theorem rGet_some (v : Value) (xs : List Int) (w : World) (hv : Ints .u8 (fun _ => True) w v xs) (hl0 : xs.length ≤ 1000000000000) {x n : Nat} (hg : getU xs = some (x, n)) :
 CR Try.prog 38 #[v] w (fun r w' => ∃ dv bv, r = getV (getS xs) dv bv ∧ getOk (fun b => w.heap.size ≤ b) w' (getS xs) dv bv ∧ Chg [] w w') := by
 have hx := getU_lt (fun y hy => hv.in hy) hg
 refine enter (vs := [v]) Try.func38 rfl Try.ntmps38 rfl ?_
 have hst0 := St.init w
 refine sq fun K1 hK1 => (rg (al (cs := [(.int .i64 0), (.int .u64 0), (.int .u64 0), (.int .i64 0), (.int .i64 0), (.slice none 0 0), (.slice none 0 0)]) rfl ti28 rfl hst0 (fun b1 w1 hn1 hc1 hs1 => asg (v := (.int .i64 0)) rfl rfl (asg (v := (.int .i64 0)) rfl rfl (wl_nil (tN ((hK1 _ _ ?_))))))))
 refine sq fun K2 hK2 => (rg (mv (v := v) rfl rfl (clF (vl := [v]) rfl rfl ent47 (rGetUint_ok v xs w1 (St.ints0 hs1 (by simp) hv)) ?_)))
 rintro _ _ ⟨rfl, rfl⟩
 rw [hg]
 refine mv (v := (.tuple #[(.int .u64 x), (.int .i64 n), (.int .i64 0)])) rfl rfl (ex (vs := #[(.int .u64 x), (.int .i64 n), (.int .i64 0)]) (v := (.int .u64 x)) rfl rfl rfl (ex (vs := #[(.int .u64 x), (.int .i64 n), (.int .i64 0)]) (v := (.int .i64 n)) rfl rfl rfl (ex (vs := #[(.int .u64 x), (.int .i64 n), (.int .i64 0)]) (v := (.int .i64 0)) rfl rfl rfl (asg (v := (.int .u64 x)) rfl rfl (asg (v := (.int .i64 n)) rfl rfl (asg (v := (.int .i64 0)) rfl rfl (wl_nil ?_)))))))
 refine tN ((hK2 _ _ ?_))
 refine sq fun K3 hK3 => (sq fun K4 hK4 => (rg (mv (v := (.int .i64 0)) rfl rfl (cmp (a := 0) (b := 0) rfl rfl rfl (c_nne (by decide)) (mv (v := (.bool false)) rfl rfl (mv (v := (.int .u64 x)) rfl rfl (mv (v := v) rfl rfl ?_)))))))
 refine lenI (v := v) rfl rfl Try.underlying22 hv (mv (v := (.int .i64 n)) rfl rfl (ar (a := (xs.length : Int)) (b := (n : Int)) (c := (xs.length : Int) - (n : Int)) rfl rfl rfl rfl (w64 (by omega)) (cv (a := (xs.length : Int) - (n : Int)) (e := (xs.length : Int) - (n : Int)) rfl rfl Try.underlying3 Try.underlying24 (w64u (by omega)) ?_)))
 by_cases h1 : ((x : Int) : Int) > ((xs.length : Int) - (n : Int) : Int)
 · refine cmp (a := (x : Int)) (b := (xs.length : Int) - (n : Int)) rfl rfl rfl (c_gt h1) (pkF (v := (.bool true)) rfl rfl rfl (wl_nil (tN ((hK4 _ _ ?_)))))
   refine cdT rfl (sq fun K5 hK5 => (rg (bld (pvs := []) (v := .agg #[(.int .i64 0), (.int .u64 0), (.int .u64 0), (.int .i64 0), (.int .i64 0), (.slice none 0 0), (.slice none 0 0)]) rfl rfl (buildS [] ti28 pl28 rfl trivial rfl) (sto (v := (.agg #[(.int .i64 0), (.int .u64 0), (.int .u64 0), (.int .i64 0), (.int .i64 0), (.slice none 0 0), (.slice none 0 0)])) (vs := [(.int .i64 0), (.int .u64 0), (.int .u64 0), (.int .i64 0), (.int .i64 0), (.slice none 0 0), (.slice none 0 0)]) (cs' := [(.int .i64 0), (.int .u64 0), (.int .u64 0), (.int .i64 0), (.int .i64 0), (.slice none 0 0), (.slice none 0 0)]) (L' := [blk b1 28 [(.int .i64 0), (.int .u64 0), (.int .u64 0), (.int .i64 0), (.int .i64 0), (.slice none 0 0), (.slice none 0 0)]]) 0 rfl rfl rfl rfl ti28 rfl rfl hs1 rfl rfl rfl rfl (fun w2 hs2 => asg (v := (.int .i64 0)) rfl rfl (asg (v := (.int .i64 15)) rfl rfl (wl_nil ?_)))))))
   refine tN ((hK5 _ _ ?_))
   refine rt (tR (?_))
   refine retL3 (v := (.agg #[(.int .i64 0), (.int .u64 0), (.int .u64 0), (.int .i64 0), (.int .i64 0), (.slice none 0 0), (.slice none 0 0)])) (v' := (.int .i64 0)) (v'' := (.int .i64 15)) Try.results38 (rvA (cs := [(.int .i64 0), (.int .u64 0), (.int .u64 0), (.int .i64 0), (.int .i64 0), (.slice none 0 0), (.slice none 0 0)]) rfl Try.underlying28 rfl ti28 rfl (St.blkCells hs2 (i := 0) (o := 0) (vs := [(.int .i64 0), (.int .u64 0), (.int .u64 0), (.int .i64 0), (.int .i64 0), (.slice none 0 0), (.slice none 0 0)]) rfl rfl)) (rvT rfl) (rvT rfl) ?_
   have hn := getS_long hg (by omega)
   exact ⟨.slice none 0 0, .slice none 0 0, by rw [hn]; rfl, by rw [hn]; trivial, hs2.chg (by simp)⟩
 · refine cmp (a := (x : Int)) (b := (xs.length : Int) - (n : Int)) rfl rfl rfl (c_ngt h1) (pkF (v := (.bool false)) rfl rfl rfl (wl_nil (tN ((hK4 _ _ ?_)))))
   refine cdF rfl (sp (tN ((hK3 _ _ ?_))))
   refine sq fun K6 hK6 => (rg (mv (v := v) rfl rfl (mv (v := (.int .i64 n)) rfl rfl (mv (v := (.int .i64 n)) rfl rfl (mv (v := (.int .u64 x)) rfl rfl (cv (a := (x : Int)) (e := (x : Int)) rfl rfl Try.underlying24 Try.underlying3 (w64 (by omega)) (ar (a := (n : Int)) (b := (x : Int)) (c := (n : Int) + (x : Int)) rfl rfl rfl rfl (w64 (by omega)) ?_)))))))
   refine slI (l := n) (h := (n + x)) rfl rfl Try.underlying22 ti5 hv ⟨_, eqI (by omega)⟩ ⟨_, eqI (by omega)⟩ (by omega) (by omega) (fun v1 hv1 => clF (vl := [v1]) rfl rfl ent48 (command_ok v1 (((xs).take (n + x)).drop n) w1 (St.ints0 hs1 (by simp) hv1) (by simp; omega)) ?_)
   rintro _ w3 ⟨cc, dv, bv, rfl, hcs, hco, hd, hb, hq⟩
   have hs3 : St _ [blk b1 28 [(.int .i64 0), (.int .u64 0), (.int .u64 0), (.int .i64 0), (.int .i64 0), (.slice none 0 0), (.slice none 0 0)]] w3 := St.rebase (St.grow hs1 hq)
   refine mv (v := (.tuple #[(.agg #[(.int .i64 cc.op), (.int .u64 cc.u), (.int .u64 cc.v), (.int .i64 cc.wt), (.int .i64 cc.t), dv, bv]), (.bool ((cmdS ((xs.take (n + x)).drop n)).isSome))])) rfl rfl (ex (vs := #[(.agg #[(.int .i64 cc.op), (.int .u64 cc.u), (.int .u64 cc.v), (.int .i64 cc.wt), (.int .i64 cc.t), dv, bv]), (.bool ((cmdS ((xs.take (n + x)).drop n)).isSome))]) (v := (.agg #[(.int .i64 cc.op), (.int .u64 cc.u), (.int .u64 cc.v), (.int .i64 cc.wt), (.int .i64 cc.t), dv, bv])) rfl rfl rfl (ex (vs := #[(.agg #[(.int .i64 cc.op), (.int .u64 cc.u), (.int .u64 cc.v), (.int .i64 cc.wt), (.int .i64 cc.t), dv, bv]), (.bool ((cmdS ((xs.take (n + x)).drop n)).isSome))]) (v := (.bool ((cmdS ((xs.take (n + x)).drop n)).isSome))) rfl rfl rfl (al (cs := [(.int .i64 0), (.int .u64 0), (.int .u64 0), (.int .i64 0), (.int .i64 0), (.slice none 0 0), (.slice none 0 0)]) rfl ti28 rfl hs3 (fun b2 w4 hn2 hc2 hs4 => sto (v := (.agg #[(.int .i64 cc.op), (.int .u64 cc.u), (.int .u64 cc.v), (.int .i64 cc.wt), (.int .i64 cc.t), dv, bv])) (vs := [(.int .i64 cc.op), (.int .u64 cc.u), (.int .u64 cc.v), (.int .i64 cc.wt), (.int .i64 cc.t), dv, bv]) (cs' := [(.int .i64 cc.op), (.int .u64 cc.u), (.int .u64 cc.v), (.int .i64 cc.wt), (.int .i64 cc.t), dv, bv]) (L' := [blk b2 28 [(.int .i64 cc.op), (.int .u64 cc.u), (.int .u64 cc.v), (.int .i64 cc.wt), (.int .i64 cc.t), dv, bv], blk b1 28 [(.int .i64 0), (.int .u64 0), (.int .u64 0), (.int .i64 0), (.int .i64 0), (.slice none 0 0), (.slice none 0 0)]]) 0 rfl rfl rfl rfl ti28 rfl (all1 rfl (all1 rfl (all1 rfl (all1 rfl (all1 rfl (all1 (Sl.one1 hd) (all1 (Sl.one1 hb) all0))))))) hs4 rfl rfl rfl rfl (fun w5 hs5 => asg (v := (.bool ((cmdS ((xs.take (n + x)).drop n)).isSome))) rfl rfl (wl_nil (tN ((hK6 _ _ ?_)))))))))
   refine sq fun K7 hK7 => (sq fun K8 hK8 => (rg (mv (v := (.bool ((cmdS ((xs.take (n + x)).drop n)).isSome))) rfl rfl (not (b := ((cmdS ((xs.take (n + x)).drop n)).isSome)) (c := (!((cmdS ((xs.take (n + x)).drop n)).isSome))) rfl rfl rfl (wl_nil (tN ((hK8 _ _ ?_))))))))
   cases hz1 : ((cmdS ((xs.take (n + x)).drop n)).isSome : Bool)
   · skip
     refine cdT rfl (sq fun K9 hK9 => (rg (bld (pvs := []) (v := .agg #[(.int .i64 0), (.int .u64 0), (.int .u64 0), (.int .i64 0), (.int .i64 0), (.slice none 0 0), (.slice none 0 0)]) rfl rfl (buildS [] ti28 pl28 rfl trivial rfl) (sto (v := (.agg #[(.int .i64 0), (.int .u64 0), (.int .u64 0), (.int .i64 0), (.int .i64 0), (.slice none 0 0), (.slice none 0 0)])) (vs := [(.int .i64 0), (.int .u64 0), (.int .u64 0), (.int .i64 0), (.int .i64 0), (.slice none 0 0), (.slice none 0 0)]) (cs' := [(.int .i64 0), (.int .u64 0), (.int .u64 0), (.int .i64 0), (.int .i64 0), (.slice none 0 0), (.slice none 0 0)]) (L' := [blk b2 28 [(.int .i64 cc.op), (.int .u64 cc.u), (.int .u64 cc.v), (.int .i64 cc.wt), (.int .i64 cc.t), dv, bv], blk b1 28 [(.int .i64 0), (.int .u64 0), (.int .u64 0), (.int .i64 0), (.int .i64 0), (.slice none 0 0), (.slice none 0 0)]]) 1 rfl rfl rfl rfl ti28 rfl rfl hs5 rfl rfl rfl rfl (fun w6 hs6 => asg (v := (.int .i64 0)) rfl rfl (asg (v := (.int .i64 15)) rfl rfl (wl_nil ?_)))))))
     refine tN ((hK9 _ _ ?_))
     refine rt (tR (?_))
     refine retL3 (v := (.agg #[(.int .i64 0), (.int .u64 0), (.int .u64 0), (.int .i64 0), (.int .i64 0), (.slice none 0 0), (.slice none 0 0)])) (v' := (.int .i64 0)) (v'' := (.int .i64 15)) Try.results38 (rvA (cs := [(.int .i64 0), (.int .u64 0), (.int .u64 0), (.int .i64 0), (.int .i64 0), (.slice none 0 0), (.slice none 0 0)]) rfl Try.underlying28 rfl ti28 rfl (St.blkCells hs6 (i := 1) (o := 0) (vs := [(.int .i64 0), (.int .u64 0), (.int .u64 0), (.int .i64 0), (.int .i64 0), (.slice none 0 0), (.slice none 0 0)]) rfl rfl)) (rvT rfl) (rvT rfl) ?_
     have hn := getS_bad hg (Option.isNone_iff_eq_none.1 (Option.isSome_eq_false_iff.1 hz1))
     exact ⟨.slice none 0 0, .slice none 0 0, by rw [hn]; rfl, by rw [hn]; trivial, hs6.chg (by simp)⟩
   · skip
     refine cdF rfl (sp (tN ((hK7 _ _ ?_))))
     refine sq fun K10 hK10 => (rg (ldA (cs := [(.int .i64 cc.op), (.int .u64 cc.u), (.int .u64 cc.v), (.int .i64 cc.wt), (.int .i64 cc.t), dv, bv]) rfl rfl Try.underlying28 rfl ti28 rfl (St.blkCells hs5 (i := 0) (o := 0) (vs := [(.int .i64 cc.op), (.int .u64 cc.u), (.int .u64 cc.v), (.int .i64 cc.wt), (.int .i64 cc.t), dv, bv]) rfl rfl) (mv (v := (.int .i64 n)) rfl rfl (mv (v := (.int .u64 x)) rfl rfl (cv (a := (x : Int)) (e := (x : Int)) rfl rfl Try.underlying24 Try.underlying3 (w64 (by omega)) (ar (a := (n : Int)) (b := (x : Int)) (c := (n : Int) + (x : Int)) rfl rfl rfl rfl (w64 (by omega)) (sto (v := (.agg #[(.int .i64 cc.op), (.int .u64 cc.u), (.int .u64 cc.v), (.int .i64 cc.wt), (.int .i64 cc.t), dv, bv])) (vs := [(.int .i64 cc.op), (.int .u64 cc.u), (.int .u64 cc.v), (.int .i64 cc.wt), (.int .i64 cc.t), dv, bv]) (cs' := [(.int .i64 cc.op), (.int .u64 cc.u), (.int .u64 cc.v), (.int .i64 cc.wt), (.int .i64 cc.t), dv, bv]) (L' := [blk b2 28 [(.int .i64 cc.op), (.int .u64 cc.u), (.int .u64 cc.v), (.int .i64 cc.wt), (.int .i64 cc.t), dv, bv], blk b1 28 [(.int .i64 cc.op), (.int .u64 cc.u), (.int .u64 cc.v), (.int .i64 cc.wt), (.int .i64 cc.t), dv, bv]]) 1 rfl rfl rfl rfl ti28 rfl (all1 rfl (all1 rfl (all1 rfl (all1 rfl (all1 rfl (all1 (Sl.one1 hd) (all1 (Sl.one1 hb) all0))))))) hs5 rfl rfl rfl rfl ?_)))))))
     intro w7 hs7
     refine asg (v := (.int .i64 ((n : Int) + (x : Int)))) rfl rfl (asg (v := (.int .i64 0)) rfl rfl (wl_nil (tN ((hK10 _ _ ?_)))))
     refine rt (retL3 (v := (.agg #[(.int .i64 cc.op), (.int .u64 cc.u), (.int .u64 cc.v), (.int .i64 cc.wt), (.int .i64 cc.t), dv, bv])) (v' := (.int .i64 ((n : Int) + (x : Int)))) (v'' := (.int .i64 0)) Try.results38 (rvA (cs := [(.int .i64 cc.op), (.int .u64 cc.u), (.int .u64 cc.v), (.int .i64 cc.wt), (.int .i64 cc.t), dv, bv]) rfl Try.underlying28 rfl ti28 rfl (St.blkCells hs7 (i := 1) (o := 0) (vs := [(.int .i64 cc.op), (.int .u64 cc.u), (.int .u64 cc.v), (.int .i64 cc.wt), (.int .i64 cc.t), dv, bv]) rfl rfl)) (rvT rfl) (rvT rfl) ?_)
     obtain ⟨c2, hc2⟩ := Option.isSome_iff_exists.1 hz1
     obtain rfl := hcs c2 hc2
     have hn := getS_some hg (by omega) hc2
     exact ⟨dv, bv, by rw [hn]; simp [getV], by rw [hn]; exact ⟨hco, (Sl.mono (St.ints hs7 (X := feet [blk b1 28 [(.int .i64 0), (.int .u64 0), (.int .u64 0), (.int .i64 0), (.int .i64 0), (.slice none 0 0), (.slice none 0 0)]]) (by simp) hd (fun b hb hf => absurd (St.lt hs1 b hf) (by omega))) (fun b hb => Nat.le_trans (St.size hs1 (w0 := w) (X := []) (by simp)) hb)), (Sl.mono (St.ints hs7 (X := feet [blk b1 28 [(.int .i64 0), (.int .u64 0), (.int .u64 0), (.int .i64 0), (.int .i64 0), (.slice none 0 0), (.slice none 0 0)]]) (by simp) hb (fun b hb hf => absurd (St.lt hs1 b hf) (by omega))) (fun b hb => Nat.le_trans (St.size hs1 (w0 := w) (X := []) (by simp)) hb))⟩, hs7.chg (by simp)⟩
theorem rGet_ok (v : Value) (xs : List Int) (w : World) (hv : Ints .u8 (fun _ => True) w v xs) (hl0 : xs.length ≤ 1000000000000) : CR Try.prog 38 #[v] w (fun r w' => ∃ dv bv, r = getV (getS xs) dv bv ∧ getOk (fun b => w.heap.size ≤ b) w' (getS xs) dv bv ∧ Chg [] w w') := by
 rcases hg : getU xs with _ | ⟨x, n⟩
 · exact rGet_none v xs w hv hl0 hg
 · exact rGet_some v xs w hv hl0 hg
end Go.Proofs.Ytkdiogflcnihdaa
