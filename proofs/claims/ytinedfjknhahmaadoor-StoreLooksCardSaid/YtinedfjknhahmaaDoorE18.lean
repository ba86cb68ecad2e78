/- Facts on the types and functions of this seat's program, printed by a tool of mine. -/
import Derived.Test.YtinedfjknhahmaaDoorD18
namespace Go.Proofs.YtinedfjknhahmaaDoor
set_option linter.unusedVariables false
set_option linter.unusedSimpArgs false
open Go.RowKit Fw
theorem en2 : Enters Tryd.prog 2 := enters_of Tryd.func2 rfl rfl
theorem en3 : Enters Tryd.prog 3 := enters_of Tryd.func3 rfl rfl
theorem en4 : Enters Tryd.prog 4 := enters_of Tryd.func4 rfl rfl
theorem en5 : Enters Tryd.prog 5 := enters_of Tryd.func5 rfl rfl
theorem en6 : Enters Tryd.prog 6 := enters_of Tryd.func6 rfl rfl
theorem en7 : Enters Tryd.prog 7 := enters_of Tryd.func7 rfl rfl
theorem en8 : Enters Tryd.prog 8 := enters_of Tryd.func8 rfl rfl
theorem en9 : Enters Tryd.prog 9 := enters_of Tryd.func9 rfl rfl
theorem en10 : Enters Tryd.prog 10 := enters_of Tryd.func10 rfl rfl
theorem en11 : Enters Tryd.prog 11 := enters_of Tryd.func11 rfl rfl
theorem en12 : Enters Tryd.prog 12 := enters_of Tryd.func12 rfl rfl
theorem en13 : Enters Tryd.prog 13 := enters_of Tryd.func13 rfl rfl
theorem en14 : Enters Tryd.prog 14 := enters_of Tryd.func14 rfl rfl
theorem en15 : Enters Tryd.prog 15 := enters_of Tryd.func15 rfl rfl
theorem en16 : Enters Tryd.prog 16 := enters_of Tryd.func16 rfl rfl
theorem en17 : Enters Tryd.prog 17 := enters_of Tryd.func17 rfl rfl
theorem en18 : Enters Tryd.prog 18 := enters_of Tryd.func18 rfl rfl
theorem en19 : Enters Tryd.prog 19 := enters_of Tryd.func19 rfl rfl
theorem en20 : Enters Tryd.prog 20 := enters_of Tryd.func20 rfl rfl
theorem en21 : Enters Tryd.prog 21 := enters_of Tryd.func21 rfl rfl
theorem en22 : Enters Tryd.prog 22 := enters_of Tryd.func22 rfl rfl
theorem en23 : Enters Tryd.prog 23 := enters_of Tryd.func23 rfl rfl
theorem en24 : Enters Tryd.prog 24 := enters_of Tryd.func24 rfl rfl
theorem en25 : Enters Tryd.prog 25 := enters_of Tryd.func25 rfl rfl
theorem en26 : Enters Tryd.prog 26 := enters_of Tryd.func26 rfl rfl
theorem en27 : Enters Tryd.prog 27 := enters_of Tryd.func27 rfl rfl
theorem en28 : Enters Tryd.prog 28 := enters_of Tryd.func28 rfl rfl
theorem en29 : Enters Tryd.prog 29 := enters_of Tryd.func29 rfl rfl
theorem en30 : Enters Tryd.prog 30 := enters_of Tryd.func30 rfl rfl
theorem en31 : Enters Tryd.prog 31 := enters_of Tryd.func31 rfl rfl
theorem en32 : Enters Tryd.prog 32 := enters_of Tryd.func32 rfl rfl
theorem en33 : Enters Tryd.prog 33 := enters_of Tryd.func33 rfl rfl
theorem en34 : Enters Tryd.prog 34 := enters_of Tryd.func34 rfl rfl
theorem en35 : Enters Tryd.prog 35 := enters_of Tryd.func35 rfl rfl
theorem en36 : Enters Tryd.prog 36 := enters_of Tryd.func36 rfl rfl
theorem en37 : Enters Tryd.prog 37 := enters_of Tryd.func37 rfl rfl
theorem en38 : Enters Tryd.prog 38 := enters_of Tryd.func38 rfl rfl
theorem en39 : Enters Tryd.prog 39 := enters_of Tryd.func39 rfl rfl
theorem en40 : Enters Tryd.prog 40 := enters_of Tryd.func40 rfl rfl
theorem en41 : Enters Tryd.prog 41 := enters_of Tryd.func41 rfl rfl
theorem en42 : Enters Tryd.prog 42 := enters_of Tryd.func42 rfl rfl
theorem en43 : Enters Tryd.prog 43 := enters_of Tryd.func43 rfl rfl
theorem en44 : Enters Tryd.prog 44 := enters_of Tryd.func44 rfl rfl
theorem en45 : Enters Tryd.prog 45 := enters_of Tryd.func45 rfl rfl
theorem en46 : Enters Tryd.prog 46 := enters_of Tryd.func46 rfl rfl
theorem en47 : Enters Tryd.prog 47 := enters_of Tryd.func47 rfl rfl
theorem en48 : Enters Tryd.prog 48 := enters_of Tryd.func48 rfl rfl
theorem en49 : Enters Tryd.prog 49 := enters_of Tryd.func49 rfl rfl
theorem en50 : Enters Tryd.prog 50 := enters_of Tryd.func50 rfl rfl
theorem en51 : Enters Tryd.prog 51 := enters_of Tryd.func51 rfl rfl
theorem en52 : Enters Tryd.prog 52 := enters_of Tryd.func52 rfl rfl
theorem en53 : Enters Tryd.prog 53 := enters_of Tryd.func53 rfl rfl
theorem en54 : Enters Tryd.prog 54 := enters_of Tryd.func54 rfl rfl
theorem en55 : Enters Tryd.prog 55 := enters_of Tryd.func55 rfl rfl
theorem en56 : Enters Tryd.prog 56 := enters_of Tryd.func56 rfl rfl
theorem en57 : Enters Tryd.prog 57 := enters_of Tryd.func57 rfl rfl
theorem en58 : Enters Tryd.prog 58 := enters_of Tryd.func58 rfl rfl
theorem en59 : Enters Tryd.prog 59 := enters_of Tryd.func59 rfl rfl
theorem en60 : Enters Tryd.prog 60 := enters_of Tryd.func60 rfl rfl
theorem en61 : Enters Tryd.prog 61 := enters_of Tryd.func61 rfl rfl
theorem en62 : Enters Tryd.prog 62 := enters_of Tryd.func62 rfl rfl
theorem en63 : Enters Tryd.prog 63 := enters_of Tryd.func63 rfl rfl
theorem en64 : Enters Tryd.prog 64 := enters_of Tryd.func64 rfl rfl
theorem en65 : Enters Tryd.prog 65 := enters_of Tryd.func65 rfl rfl
theorem en88 : Enters Tryd.prog 88 := enters_of Tryd.func88 rfl rfl
theorem el22 : elOf Tryd.prog 22 = some (4, 56) := by kernel_rfl
theorem el25 : elOf Tryd.prog 25 = some (9, 128) := by kernel_rfl
theorem el28 : elOf Tryd.prog 28 = some (2, 24) := by kernel_rfl
theorem el32 : elOf Tryd.prog 32 = some (4, 56) := by kernel_rfl
theorem el35 : elOf Tryd.prog 35 = some (9, 128) := by kernel_rfl
theorem el44 : elOf Tryd.prog 44 = some (2, 24) := by kernel_rfl
theorem el101 : elOf Tryd.prog 101 = some (1, 1) := by kernel_rfl
theorem eq65 : eqOf Tryd.prog 65 = some [(0, 1), (1, 0)] := by kernel_rfl
theorem eq78 : eqOf Tryd.prog 78 = some [(0, 1), (1, 0)] := by kernel_rfl
theorem fl24_0 : fldOf Tryd.prog 24 0 = some (0, 1, false) := by kernel_rfl
theorem fl24_1 : fldOf Tryd.prog 24 1 = some (1, 1, false) := by kernel_rfl
theorem fl24_2 : fldOf Tryd.prog 24 2 = some (2, 1, false) := by kernel_rfl
theorem fl24_3 : fldOf Tryd.prog 24 3 = some (3, 1, false) := by kernel_rfl
theorem fl27_0 : fldOf Tryd.prog 27 0 = some (0, 1, false) := by kernel_rfl
theorem fl27_1 : fldOf Tryd.prog 27 1 = some (1, 1, false) := by kernel_rfl
theorem fl27_2 : fldOf Tryd.prog 27 2 = some (2, 1, false) := by kernel_rfl
theorem fl27_3 : fldOf Tryd.prog 27 3 = some (3, 4, true) := by kernel_rfl
theorem fl27_4 : fldOf Tryd.prog 27 4 = some (7, 1, false) := by kernel_rfl
theorem fl34_0 : fldOf Tryd.prog 34 0 = some (0, 1, false) := by kernel_rfl
theorem fl34_1 : fldOf Tryd.prog 34 1 = some (1, 1, false) := by kernel_rfl
theorem fl34_2 : fldOf Tryd.prog 34 2 = some (2, 1, false) := by kernel_rfl
theorem fl34_3 : fldOf Tryd.prog 34 3 = some (3, 1, false) := by kernel_rfl
theorem fl37_0 : fldOf Tryd.prog 37 0 = some (0, 1, false) := by kernel_rfl
theorem fl37_1 : fldOf Tryd.prog 37 1 = some (1, 1, false) := by kernel_rfl
theorem fl37_2 : fldOf Tryd.prog 37 2 = some (2, 1, false) := by kernel_rfl
theorem fl37_3 : fldOf Tryd.prog 37 3 = some (3, 4, true) := by kernel_rfl
theorem fl37_4 : fldOf Tryd.prog 37 4 = some (7, 1, false) := by kernel_rfl
theorem fl57_0 : fldOf Tryd.prog 57 0 = some (0, 1, false) := by kernel_rfl
theorem fl57_1 : fldOf Tryd.prog 57 1 = some (1, 8, true) := by kernel_rfl
theorem fl65_0 : fldOf Tryd.prog 65 0 = some (0, 1, false) := by kernel_rfl
theorem fl65_1 : fldOf Tryd.prog 65 1 = some (1, 1, false) := by kernel_rfl
theorem fl75_0 : fldOf Tryd.prog 75 0 = some (0, 1, false) := by kernel_rfl
theorem fl75_1 : fldOf Tryd.prog 75 1 = some (1, 8, true) := by kernel_rfl
theorem fl78_0 : fldOf Tryd.prog 78 0 = some (0, 1, false) := by kernel_rfl
theorem fl78_1 : fldOf Tryd.prog 78 1 = some (1, 1, false) := by kernel_rfl
theorem pl27 : plOf Tryd.prog 27 = some [(0, 1), (1, 1), (2, 1), (3, 4), (7, 1)] := by kernel_rfl
theorem pl34 : plOf Tryd.prog 34 = some [(0, 1), (1, 1), (2, 1), (3, 1)] := by kernel_rfl
theorem pl37 : plOf Tryd.prog 37 = some [(0, 1), (1, 1), (2, 1), (3, 4), (7, 1)] := by kernel_rfl
theorem pl57 : plOf Tryd.prog 57 = some [(0, 1), (1, 8)] := by kernel_rfl
theorem pl65 : plOf Tryd.prog 65 = some [(0, 1), (1, 1)] := by kernel_rfl
theorem pl75 : plOf Tryd.prog 75 = some [(0, 1), (1, 8)] := by kernel_rfl
theorem pl78 : plOf Tryd.prog 78 = some [(0, 1), (1, 1)] := by kernel_rfl
theorem ti2 : tiOf Tryd.prog 2 = some ⟨1, 8, false, [.int .i64 0]⟩ := by kernel_rfl
theorem ti3 : tiOf Tryd.prog 3 = some ⟨1, 8, false, [.int .i64 0]⟩ := by kernel_rfl
theorem ti4 : tiOf Tryd.prog 4 = some ⟨1, 1, false, [.bool false]⟩ := by kernel_rfl
theorem ti5 : tiOf Tryd.prog 5 = some ⟨1, 1, false, [.int .u8 0]⟩ := by kernel_rfl
theorem ti9 : tiOf Tryd.prog 9 = some ⟨1, 16, false, [.str []]⟩ := by kernel_rfl
theorem ti22 : tiOf Tryd.prog 22 = some ⟨1, 24, false, [.vec [] true]⟩ := by kernel_rfl
theorem ti24 : tiOf Tryd.prog 24 = some ⟨4, 56, true, [.int .i64 0, .str [], .int .i64 0, .vec [] true]⟩ := by kernel_rfl
theorem ti25 : tiOf Tryd.prog 25 = some ⟨1, 24, false, [.vec [] true]⟩ := by kernel_rfl
theorem ti27 : tiOf Tryd.prog 27 = some ⟨8, 112, true, [.int .i64 0, .int .i64 0, .str [], .int .i64 0, .str [], .int .i64 0, .vec [] true, .vec [] true]⟩ := by kernel_rfl
theorem ti32 : tiOf Tryd.prog 32 = some ⟨1, 24, false, [.vec [] true]⟩ := by kernel_rfl
theorem ti34 : tiOf Tryd.prog 34 = some ⟨4, 56, true, [.int .i64 0, .str [], .int .i64 0, .vec [] true]⟩ := by kernel_rfl
theorem ti35 : tiOf Tryd.prog 35 = some ⟨1, 24, false, [.vec [] true]⟩ := by kernel_rfl
theorem ti37 : tiOf Tryd.prog 37 = some ⟨8, 112, true, [.int .i64 0, .int .i64 0, .str [], .int .i64 0, .str [], .int .i64 0, .vec [] true, .vec [] true]⟩ := by kernel_rfl
theorem ti57 : tiOf Tryd.prog 57 = some ⟨9, 128, true, [.str [], .int .i64 0, .int .i64 0, .str [], .int .i64 0, .str [], .int .i64 0, .vec [] true, .vec [] true]⟩ := by kernel_rfl
theorem ti65 : tiOf Tryd.prog 65 = some ⟨2, 24, true, [.str [], .int .i64 0]⟩ := by kernel_rfl
theorem ti75 : tiOf Tryd.prog 75 = some ⟨9, 128, true, [.str [], .int .i64 0, .int .i64 0, .str [], .int .i64 0, .str [], .int .i64 0, .vec [] true, .vec [] true]⟩ := by kernel_rfl
theorem ti78 : tiOf Tryd.prog 78 = some ⟨2, 24, true, [.str [], .int .i64 0]⟩ := by kernel_rfl
theorem ti80 : tiOf Tryd.prog 80 = some ⟨1, 8, false, [.nilf]⟩ := by kernel_rfl
theorem ti95 : tiOf Tryd.prog 95 = some ⟨1, 8, false, [.int .u64 0]⟩ := by kernel_rfl
theorem ti98 : tiOf Tryd.prog 98 = some ⟨24, 24, true, [.int .u8 0, .int .u8 0, .int .u8 0, .int .u8 0, .int .u8 0, .int .u8 0, .int .u8 0, .int .u8 0, .int .u8 0, .int .u8 0, .int .u8 0, .int .u8 0, .int .u8 0, .int .u8 0, .int .u8 0, .int .u8 0, .int .u8 0, .int .u8 0, .int .u8 0, .int .u8 0, .int .u8 0, .int .u8 0, .int .u8 0, .int .u8 0]⟩ := by kernel_rfl
theorem ti106 : tiOf Tryd.prog 106 = some ⟨20, 160, true, [.int .u64 0, .int .u64 0, .int .u64 0, .int .u64 0, .int .u64 0, .int .u64 0, .int .u64 0, .int .u64 0, .int .u64 0, .int .u64 0, .int .u64 0, .int .u64 0, .int .u64 0, .int .u64 0, .int .u64 0, .int .u64 0, .int .u64 0, .int .u64 0, .int .u64 0, .int .u64 0]⟩ := by kernel_rfl
theorem ti108 : tiOf Tryd.prog 108 = some ⟨65, 65, true, [.int .u8 0, .int .u8 0, .int .u8 0, .int .u8 0, .int .u8 0, .int .u8 0, .int .u8 0, .int .u8 0, .int .u8 0, .int .u8 0, .int .u8 0, .int .u8 0, .int .u8 0, .int .u8 0, .int .u8 0, .int .u8 0, .int .u8 0, .int .u8 0, .int .u8 0, .int .u8 0, .int .u8 0, .int .u8 0, .int .u8 0, .int .u8 0, .int .u8 0, .int .u8 0, .int .u8 0, .int .u8 0, .int .u8 0, .int .u8 0, .int .u8 0, .int .u8 0, .int .u8 0, .int .u8 0, .int .u8 0, .int .u8 0, .int .u8 0, .int .u8 0, .int .u8 0, .int .u8 0, .int .u8 0, .int .u8 0, .int .u8 0, .int .u8 0, .int .u8 0, .int .u8 0, .int .u8 0, .int .u8 0, .int .u8 0, .int .u8 0, .int .u8 0, .int .u8 0, .int .u8 0, .int .u8 0, .int .u8 0, .int .u8 0, .int .u8 0, .int .u8 0, .int .u8 0, .int .u8 0, .int .u8 0, .int .u8 0, .int .u8 0, .int .u8 0, .int .u8 0]⟩ := by kernel_rfl
theorem ti113 : tiOf Tryd.prog 113 = some ⟨32, 32, true, [.int .u8 0, .int .u8 0, .int .u8 0, .int .u8 0, .int .u8 0, .int .u8 0, .int .u8 0, .int .u8 0, .int .u8 0, .int .u8 0, .int .u8 0, .int .u8 0, .int .u8 0, .int .u8 0, .int .u8 0, .int .u8 0, .int .u8 0, .int .u8 0, .int .u8 0, .int .u8 0, .int .u8 0, .int .u8 0, .int .u8 0, .int .u8 0, .int .u8 0, .int .u8 0, .int .u8 0, .int .u8 0, .int .u8 0, .int .u8 0, .int .u8 0, .int .u8 0]⟩ := by kernel_rfl
theorem ti114 : tiOf Tryd.prog 114 = some ⟨64, 64, true, [.int .u8 0, .int .u8 0, .int .u8 0, .int .u8 0, .int .u8 0, .int .u8 0, .int .u8 0, .int .u8 0, .int .u8 0, .int .u8 0, .int .u8 0, .int .u8 0, .int .u8 0, .int .u8 0, .int .u8 0, .int .u8 0, .int .u8 0, .int .u8 0, .int .u8 0, .int .u8 0, .int .u8 0, .int .u8 0, .int .u8 0, .int .u8 0, .int .u8 0, .int .u8 0, .int .u8 0, .int .u8 0, .int .u8 0, .int .u8 0, .int .u8 0, .int .u8 0, .int .u8 0, .int .u8 0, .int .u8 0, .int .u8 0, .int .u8 0, .int .u8 0, .int .u8 0, .int .u8 0, .int .u8 0, .int .u8 0, .int .u8 0, .int .u8 0, .int .u8 0, .int .u8 0, .int .u8 0, .int .u8 0, .int .u8 0, .int .u8 0, .int .u8 0, .int .u8 0, .int .u8 0, .int .u8 0, .int .u8 0, .int .u8 0, .int .u8 0, .int .u8 0, .int .u8 0, .int .u8 0, .int .u8 0, .int .u8 0, .int .u8 0, .int .u8 0]⟩ := by kernel_rfl
theorem un2 : Tryd.prog.underlying 2 = some (.int .i64) := by kernel_rfl
theorem un3 : Tryd.prog.underlying 3 = some (.int .i64) := by kernel_rfl
theorem un4 : Tryd.prog.underlying 4 = some .bool := by kernel_rfl
theorem un5 : Tryd.prog.underlying 5 = some (.int .u8) := by kernel_rfl
theorem un9 : Tryd.prog.underlying 9 = some .string := by kernel_rfl
theorem un22 : Tryd.prog.underlying 22 = some (.slice 24) := by kernel_rfl
theorem un25 : Tryd.prog.underlying 25 = some (.slice 75) := by kernel_rfl
theorem un28 : Tryd.prog.underlying 28 = some (.slice 65) := by kernel_rfl
theorem un32 : Tryd.prog.underlying 32 = some (.slice 34) := by kernel_rfl
theorem un35 : Tryd.prog.underlying 35 = some (.slice 57) := by kernel_rfl
theorem un44 : Tryd.prog.underlying 44 = some (.slice 78) := by kernel_rfl
theorem un80 : Tryd.prog.underlying 80 = some (.func #[] #[2] false) := by kernel_rfl
theorem un82 : Tryd.prog.underlying 82 = some (.map 9 80) := by kernel_rfl
theorem un95 : Tryd.prog.underlying 95 = some (.int .u64) := by kernel_rfl
theorem un101 : Tryd.prog.underlying 101 = some (.slice 5) := by kernel_rfl
theorem un107 : Tryd.prog.underlying 107 = some (.int .u32) := by kernel_rfl
theorem un110 : Tryd.prog.underlying 110 = some (.int .u64) := by kernel_rfl
theorem mixed : Tryd.prog.follows .mixedOrders = true := by kernel_rfl
end Go.Proofs.YtinedfjknhahmaaDoor
