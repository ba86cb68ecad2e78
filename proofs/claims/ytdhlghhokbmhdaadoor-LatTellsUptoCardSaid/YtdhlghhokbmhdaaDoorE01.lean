/- Facts on the types and functions of this seat's program, printed by a tool of mine. -/
import Derived.Test.YtdhlghhokbmhdaaDoorD01
namespace Go.Proofs.YtdhlghhokbmhdaaDoor
set_option linter.unusedVariables false
set_option linter.unusedSimpArgs false
set_option maxRecDepth 100000
open Go.RowKit Fw
theorem en2 : Enters Tryd.prog 2 := enters_of Tryd.func2 rfl rfl
theorem en3 : Enters Tryd.prog 3 := enters_of Tryd.func3 rfl rfl
theorem en4 : Enters Tryd.prog 4 := enters_of Tryd.func4 rfl rfl
theorem en5 : Enters Tryd.prog 5 := enters_of Tryd.func5 rfl rfl
theorem en6 : Enters Tryd.prog 6 := enters_of Tryd.func6 rfl rfl
theorem en7 : Enters Tryd.prog 7 := enters_of Tryd.func7 rfl rfl
theorem en8 : Enters Tryd.prog 8 := enters_of Tryd.func8 rfl rfl
theorem en9 : Enters Tryd.prog 9 := enters_of Tryd.func9 rfl rfl
theorem en10 : Enters Tryd.prog 10 := enters_of Tryd.func10 rfl rfl
theorem en11 : Enters Tryd.prog 11 := enters_of Tryd.func11 rfl rfl
theorem en12 : Enters Tryd.prog 12 := enters_of Tryd.func12 rfl rfl
theorem en13 : Enters Tryd.prog 13 := enters_of Tryd.func13 rfl rfl
theorem en14 : Enters Tryd.prog 14 := enters_of Tryd.func14 rfl rfl
theorem en15 : Enters Tryd.prog 15 := enters_of Tryd.func15 rfl rfl
theorem en16 : Enters Tryd.prog 16 := enters_of Tryd.func16 rfl rfl
theorem en17 : Enters Tryd.prog 17 := enters_of Tryd.func17 rfl rfl
theorem en18 : Enters Tryd.prog 18 := enters_of Tryd.func18 rfl rfl
theorem en19 : Enters Tryd.prog 19 := enters_of Tryd.func19 rfl rfl
theorem en20 : Enters Tryd.prog 20 := enters_of Tryd.func20 rfl rfl
theorem en21 : Enters Tryd.prog 21 := enters_of Tryd.func21 rfl rfl
theorem en22 : Enters Tryd.prog 22 := enters_of Tryd.func22 rfl rfl
theorem en23 : Enters Tryd.prog 23 := enters_of Tryd.func23 rfl rfl
theorem en24 : Enters Tryd.prog 24 := enters_of Tryd.func24 rfl rfl
theorem en25 : Enters Tryd.prog 25 := enters_of Tryd.func25 rfl rfl
theorem en26 : Enters Tryd.prog 26 := enters_of Tryd.func26 rfl rfl
theorem en27 : Enters Tryd.prog 27 := enters_of Tryd.func27 rfl rfl
theorem en28 : Enters Tryd.prog 28 := enters_of Tryd.func28 rfl rfl
theorem en29 : Enters Tryd.prog 29 := enters_of Tryd.func29 rfl rfl
theorem en30 : Enters Tryd.prog 30 := enters_of Tryd.func30 rfl rfl
theorem en31 : Enters Tryd.prog 31 := enters_of Tryd.func31 rfl rfl
theorem en32 : Enters Tryd.prog 32 := enters_of Tryd.func32 rfl rfl
theorem en33 : Enters Tryd.prog 33 := enters_of Tryd.func33 rfl rfl
theorem en34 : Enters Tryd.prog 34 := enters_of Tryd.func34 rfl rfl
theorem en35 : Enters Tryd.prog 35 := enters_of Tryd.func35 rfl rfl
theorem en36 : Enters Tryd.prog 36 := enters_of Tryd.func36 rfl rfl
theorem en37 : Enters Tryd.prog 37 := enters_of Tryd.func37 rfl rfl
theorem en38 : Enters Tryd.prog 38 := enters_of Tryd.func38 rfl rfl
theorem en39 : Enters Tryd.prog 39 := enters_of Tryd.func39 rfl rfl
theorem en40 : Enters Tryd.prog 40 := enters_of Tryd.func40 rfl rfl
theorem en41 : Enters Tryd.prog 41 := enters_of Tryd.func41 rfl rfl
theorem en42 : Enters Tryd.prog 42 := enters_of Tryd.func42 rfl rfl
theorem en43 : Enters Tryd.prog 43 := enters_of Tryd.func43 rfl rfl
theorem en44 : Enters Tryd.prog 44 := enters_of Tryd.func44 rfl rfl
theorem en45 : Enters Tryd.prog 45 := enters_of Tryd.func45 rfl rfl
theorem en46 : Enters Tryd.prog 46 := enters_of Tryd.func46 rfl rfl
theorem en47 : Enters Tryd.prog 47 := enters_of Tryd.func47 rfl rfl
theorem en48 : Enters Tryd.prog 48 := enters_of Tryd.func48 rfl rfl
theorem en49 : Enters Tryd.prog 49 := enters_of Tryd.func49 rfl rfl
theorem en50 : Enters Tryd.prog 50 := enters_of Tryd.func50 rfl rfl
theorem en51 : Enters Tryd.prog 51 := enters_of Tryd.func51 rfl rfl
theorem en52 : Enters Tryd.prog 52 := enters_of Tryd.func52 rfl rfl
theorem en53 : Enters Tryd.prog 53 := enters_of Tryd.func53 rfl rfl
theorem en54 : Enters Tryd.prog 54 := enters_of Tryd.func54 rfl rfl
theorem en55 : Enters Tryd.prog 55 := enters_of Tryd.func55 rfl rfl
theorem en56 : Enters Tryd.prog 56 := enters_of Tryd.func56 rfl rfl
theorem en57 : Enters Tryd.prog 57 := enters_of Tryd.func57 rfl rfl
theorem en58 : Enters Tryd.prog 58 := enters_of Tryd.func58 rfl rfl
theorem en59 : Enters Tryd.prog 59 := enters_of Tryd.func59 rfl rfl
theorem en60 : Enters Tryd.prog 60 := enters_of Tryd.func60 rfl rfl
theorem en61 : Enters Tryd.prog 61 := enters_of Tryd.func61 rfl rfl
theorem en62 : Enters Tryd.prog 62 := enters_of Tryd.func62 rfl rfl
theorem en63 : Enters Tryd.prog 63 := enters_of Tryd.func63 rfl rfl
theorem en64 : Enters Tryd.prog 64 := enters_of Tryd.func64 rfl rfl
theorem en65 : Enters Tryd.prog 65 := enters_of Tryd.func65 rfl rfl
theorem en66 : Enters Tryd.prog 66 := enters_of Tryd.func66 rfl rfl
theorem en67 : Enters Tryd.prog 67 := enters_of Tryd.func67 rfl rfl
theorem en68 : Enters Tryd.prog 68 := enters_of Tryd.func68 rfl rfl
theorem en69 : Enters Tryd.prog 69 := enters_of Tryd.func69 rfl rfl
theorem en70 : Enters Tryd.prog 70 := enters_of Tryd.func70 rfl rfl
theorem en71 : Enters Tryd.prog 71 := enters_of Tryd.func71 rfl rfl
theorem en72 : Enters Tryd.prog 72 := enters_of Tryd.func72 rfl rfl
theorem en73 : Enters Tryd.prog 73 := enters_of Tryd.func73 rfl rfl
theorem en74 : Enters Tryd.prog 74 := enters_of Tryd.func74 rfl rfl
theorem en76 : Enters Tryd.prog 76 := enters_of Tryd.func76 rfl rfl
theorem en79 : Enters Tryd.prog 79 := enters_of Tryd.func79 rfl rfl
theorem en80 : Enters Tryd.prog 80 := enters_of Tryd.func80 rfl rfl
theorem en82 : Enters Tryd.prog 82 := enters_of Tryd.func82 rfl rfl
theorem en83 : Enters Tryd.prog 83 := enters_of Tryd.func83 rfl rfl
theorem en85 : Enters Tryd.prog 85 := enters_of Tryd.func85 rfl rfl
theorem en108 : Enters Tryd.prog 108 := enters_of Tryd.func108 rfl rfl
theorem ar94 : arOf Tryd.prog 94 = some (64, 1) := by kernel_rfl
theorem ar99 : arOf Tryd.prog 99 = some (256, 1) := by kernel_rfl
theorem ar102 : arOf Tryd.prog 102 = some (16, 2) := by kernel_rfl
theorem el22 : elOf Tryd.prog 22 = some (1, 16) := by kernel_rfl
theorem el23 : elOf Tryd.prog 23 = some (1, 8) := by kernel_rfl
theorem el78 : elOf Tryd.prog 78 = some (1, 1) := by kernel_rfl
theorem el94 : elOf Tryd.prog 94 = none := by kernel_rfl
theorem el99 : elOf Tryd.prog 99 = none := by kernel_rfl
theorem el102 : elOf Tryd.prog 102 = none := by kernel_rfl
theorem fl25_0 : fldOf Tryd.prog 25 0 = some (0, 1, false) := by kernel_rfl
theorem fl25_1 : fldOf Tryd.prog 25 1 = some (1, 1, false) := by kernel_rfl
theorem fl27_0 : fldOf Tryd.prog 27 0 = some (0, 1, false) := by kernel_rfl
theorem fl27_1 : fldOf Tryd.prog 27 1 = some (1, 1, false) := by kernel_rfl
theorem fl80_0 : fldOf Tryd.prog 80 0 = some (0, 1, false) := by kernel_rfl
theorem fl80_1 : fldOf Tryd.prog 80 1 = some (1, 1, false) := by kernel_rfl
theorem fl101_0 : fldOf Tryd.prog 101 0 = some (0, 1, false) := by kernel_rfl
theorem fl101_1 : fldOf Tryd.prog 101 1 = some (1, 1, false) := by kernel_rfl
theorem pl25 : plOf Tryd.prog 25 = some [(0, 1), (1, 1)] := by kernel_rfl
theorem pl27 : plOf Tryd.prog 27 = some [(0, 1), (1, 1)] := by kernel_rfl
theorem pl101 : plOf Tryd.prog 101 = some [(0, 1), (1, 1)] := by kernel_rfl
theorem ti3 : tiOf Tryd.prog 3 = some ⟨1, 8, false, [.int .i64 0]⟩ := by kernel_rfl
theorem ti4 : tiOf Tryd.prog 4 = some ⟨1, 1, false, [.bool false]⟩ := by kernel_rfl
theorem ti5 : tiOf Tryd.prog 5 = some ⟨1, 1, false, [.int .u8 0]⟩ := by kernel_rfl
theorem ti9 : tiOf Tryd.prog 9 = some ⟨1, 16, false, [.str []]⟩ := by kernel_rfl
theorem ti22 : tiOf Tryd.prog 22 = some ⟨1, 24, false, [.vec [] true]⟩ := by kernel_rfl
theorem ti23 : tiOf Tryd.prog 23 = some ⟨1, 24, false, [.vec [] true]⟩ := by kernel_rfl
theorem ti25 : tiOf Tryd.prog 25 = some ⟨2, 48, true, [.vec [] true, .vec [] true]⟩ := by kernel_rfl
theorem ti27 : tiOf Tryd.prog 27 = some ⟨2, 48, true, [.vec [] true, .vec [] true]⟩ := by kernel_rfl
theorem ti50 : tiOf Tryd.prog 50 = some ⟨1, 8, false, [.int .u64 0]⟩ := by kernel_rfl
theorem ti77 : tiOf Tryd.prog 77 = some ⟨1, 8, false, [.nilp]⟩ := by kernel_rfl
theorem ti78 : tiOf Tryd.prog 78 = some ⟨1, 24, false, [.vec [] true]⟩ := by kernel_rfl
theorem ti80 : tiOf Tryd.prog 80 = some ⟨2, 32, true, [.nilp, .vec [] true]⟩ := by kernel_rfl
theorem ti94 : tiOf Tryd.prog 94 = some ⟨64, 64, true, [.int .u8 0, .int .u8 0, .int .u8 0, .int .u8 0, .int .u8 0, .int .u8 0, .int .u8 0, .int .u8 0, .int .u8 0, .int .u8 0, .int .u8 0, .int .u8 0, .int .u8 0, .int .u8 0, .int .u8 0, .int .u8 0, .int .u8 0, .int .u8 0, .int .u8 0, .int .u8 0, .int .u8 0, .int .u8 0, .int .u8 0, .int .u8 0, .int .u8 0, .int .u8 0, .int .u8 0, .int .u8 0, .int .u8 0, .int .u8 0, .int .u8 0, .int .u8 0, .int .u8 0, .int .u8 0, .int .u8 0, .int .u8 0, .int .u8 0, .int .u8 0, .int .u8 0, .int .u8 0, .int .u8 0, .int .u8 0, .int .u8 0, .int .u8 0, .int .u8 0, .int .u8 0, .int .u8 0, .int .u8 0, .int .u8 0, .int .u8 0, .int .u8 0, .int .u8 0, .int .u8 0, .int .u8 0, .int .u8 0, .int .u8 0, .int .u8 0, .int .u8 0, .int .u8 0, .int .u8 0, .int .u8 0, .int .u8 0, .int .u8 0, .int .u8 0]⟩ := by kernel_rfl
theorem ti101 : tiOf Tryd.prog 101 = some ⟨2, 2, true, [.int .u8 0, .int .u8 0]⟩ := by kernel_rfl
theorem ti102 : tiOf Tryd.prog 102 = some ⟨32, 32, true, [.int .u8 0, .int .u8 0, .int .u8 0, .int .u8 0, .int .u8 0, .int .u8 0, .int .u8 0, .int .u8 0, .int .u8 0, .int .u8 0, .int .u8 0, .int .u8 0, .int .u8 0, .int .u8 0, .int .u8 0, .int .u8 0, .int .u8 0, .int .u8 0, .int .u8 0, .int .u8 0, .int .u8 0, .int .u8 0, .int .u8 0, .int .u8 0, .int .u8 0, .int .u8 0, .int .u8 0, .int .u8 0, .int .u8 0, .int .u8 0, .int .u8 0, .int .u8 0]⟩ := by kernel_rfl
theorem un3 : Tryd.prog.underlying 3 = some (.int .i64) := by kernel_rfl
theorem un4 : Tryd.prog.underlying 4 = some .bool := by kernel_rfl
theorem un5 : Tryd.prog.underlying 5 = some (.int .u8) := by kernel_rfl
theorem un9 : Tryd.prog.underlying 9 = some .string := by kernel_rfl
theorem un21 : Tryd.prog.underlying 21 = some (.int .i32) := by kernel_rfl
theorem un22 : Tryd.prog.underlying 22 = some (.slice 9) := by kernel_rfl
theorem un23 : Tryd.prog.underlying 23 = some (.slice 50) := by kernel_rfl
theorem un50 : Tryd.prog.underlying 50 = some (.int .u64) := by kernel_rfl
theorem un77 : Tryd.prog.underlying 77 = some (.pointer 80) := by kernel_rfl
theorem un78 : Tryd.prog.underlying 78 = some (.slice 5) := by kernel_rfl
theorem un103 : Tryd.prog.underlying 103 = some (.int .u32) := by kernel_rfl
theorem mixed : Tryd.prog.follows .mixedOrders = true := by kernel_rfl

end Go.Proofs.YtdhlghhokbmhdaaDoor
