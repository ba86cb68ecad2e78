/- The rows' common ground of this chapter: the library's table, the witness's world. -/
import Derived.Test.YteicbhkimepbaaaGreatDoorCards
import Derived.Test.YteicbhkimepbaaaGreatDoorTie
import Derived.Test.YteicbhkimepbaaaGreatDoorWB
import Derived.Test.YteicbhkimepbaaaGreatDoorWC
import Derived.Stop.LaidErr
namespace Go.Proofs.YteicbhkimepbaaaGreatDoor
set_option linter.unusedVariables false
set_option linter.unusedSimpArgs false
set_option maxRecDepth 100000
open Go.ChangeShapes Go.WideShapes Go.ChangeAt Go.RowKit Fw

theorem own : ownKnob Tryz.prog.godebug = none := by kernel_rfl
theorem gTab : Tryz.prog.globalNamed "math/bits.deBruijn64tab" = some 0 := by kernel_rfl
theorem gTabType : (Tryz.prog.globals[0]?).map (·.type) = some 186 := by kernel_rfl
theorem cells186 : Tryz.prog.cellsOf 186 = 64 := by kernel_rfl
theorem cells5 : Tryz.prog.cellsOf 5 = 1 := by kernel_rfl

/-- What the rows' list gives: the library's table. -/
theorem table {W : World} (h : laidMetH Tryz.prog Rows.closedLeastRow.laid W) : Lib.TabIs Tryz.prog W "math/bits.deBruijn64tab" .u8 T64 :=
  Lib.tabIs_of_head (zs := T64) gTab gTabType Tryz.underlying186 Tryz.underlying5 cells5 cells186 h
/-- The program's package-level variables: of the table alone all is known. -/
abbrev Γ0 : Nat → PV := tabΓ 0 .u8 T64
theorem tabΓ0 : Tab64 Γ0 := rfl
theorem sim0 {W : World} (h : laidMetH Tryz.prog Rows.closedLeastRow.laid W) : Sim Γ0 W (ofW W) [] W := sim_tab gTab (table h)

/-- A world for the witness: the settled one, the tables as their initialisers lay them. -/
noncomputable def laidWorld (os : Os) : World :=
  let w := World.holding Tryz.prog os ⟨#[], #[], []⟩
  let put (b : Nat) (k : IntKind) (zs : List Int) (h : Array Obj) : Array Obj := h.modify b fun
      | .cells _ t frozen => .cells (zs.map fun z => .int k z).toArray t frozen
      | o => o
  { w with heap := put 0 .u8 T64 w.heap }

end Go.Proofs.YteicbhkimepbaaaGreatDoor
