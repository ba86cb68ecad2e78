/- The rows' common ground of this chapter: the library's table, the witness's world. -/
import Derived.Test.YtdacialfjlcboaaGreatDoorCards
import Derived.Test.YtdacialfjlcboaaGreatDoorTie
import Derived.Test.YtdacialfjlcboaaGreatDoorWB
import Derived.Test.YtdacialfjlcboaaGreatDoorWG
import Derived.Stop.LaidErr
namespace Go.Proofs.YtdacialfjlcboaaGreatDoor
set_option linter.unusedVariables false
set_option linter.unusedSimpArgs false
set_option maxRecDepth 100000
open Go.ChangeShapes Go.WideShapes Go.ChangeAt Go.RowKit Fw

theorem own : ownKnob Tryz.prog.godebug = none := by kernel_rfl
theorem gTab : Tryz.prog.globalNamed "internal/strconv.uint64pow10" = some 0 := by kernel_rfl
theorem gTabType : (Tryz.prog.globals[0]?).map (·.type) = some 148 := by kernel_rfl
theorem cells148 : Tryz.prog.cellsOf 148 = 20 := by kernel_rfl
theorem cells89 : Tryz.prog.cellsOf 89 = 1 := by kernel_rfl

/-- What the rows' list gives: the library's table. -/
theorem table {W : World} (h : laidMetH Tryz.prog Rows.atomPointsRow.laid W) : Lib.TabIs Tryz.prog W "internal/strconv.uint64pow10" .u64 Lib.pow10Tab :=
  Lib.tabIs_of_head (rest := []) gTab gTabType Tryz.underlying148 Tryz.underlying89 cells89 cells148 (laidMet.tail (laidMet.tail h))

/-- The program's package-level variables: of the table alone all is known. -/
abbrev Γ0 : Nat → PV := tabΓ 0 .u64 Lib.pow10Tab
theorem tabΓ0 : Tab Γ0 := rfl
theorem sim0 {W : World} (h : laidMetH Tryz.prog Rows.atomPointsRow.laid W) : Sim Γ0 W (ofW W) [] W := sim_tab gTab (table h)

/-- A world for the witness: the settled one, the tables as their initialisers lay them. -/
noncomputable def laidWorld (os : Os) : World :=
  let w := World.holding Tryz.prog os ⟨#[], #[], []⟩
  let put (b : Nat) (k : IntKind) (zs : List Int) (h : Array Obj) : Array Obj := h.modify b fun
      | .cells _ t frozen => .cells (zs.map fun z => .int k z).toArray t frozen
      | o => o
  { w with heap := put 3 .u8 [0, 1, 56, 2, 57, 49, 28, 3, 61, 58, 42, 50, 38, 29, 17, 4, 62, 47, 59, 36, 45, 43, 51, 22, 53, 39, 33, 30, 24, 18, 12, 5, 63, 55, 48, 27, 60, 41, 37, 16, 46, 35, 44, 21, 52, 32, 23, 11, 54, 26, 40, 15, 34, 20, 31, 10, 25, 14, 19, 9, 13, 8, 7, 6] (put 2 .u8 [0, 1, 28, 2, 29, 14, 24, 3, 30, 22, 20, 15, 25, 17, 4, 8, 31, 27, 13, 23, 21, 19, 16, 7, 26, 12, 18, 6, 11, 5, 10, 9] (put 0 .u64 Lib.pow10Tab w.heap)) }

end Go.Proofs.YtdacialfjlcboaaGreatDoor
