/- The rows' common ground of this chapter: the table of kids, the witness's world. -/
import Derived.Test.YtnjlfbefpoecpaaDoorCards
import Derived.Test.YtnjlfbefpoecpaaDoorTie
import Derived.Test.YtnjlfbefpoecpaaDoorWB
import Derived.Test.YtnjlfbefpoecpaaDoorWD
namespace Go.Proofs.YtnjlfbefpoecpaaDoor
set_option linter.unusedVariables false
set_option linter.unusedSimpArgs false
set_option maxRecDepth 100000
open Go.ChangeShapes Go.WideShapes Go.ChangeAt Go.RowKit Fw

theorem own : ownKnob Tryd.prog.godebug = none := by kernel_rfl
theorem gTab : Tryd.prog.globalNamed "chancel/eval.kids" = some 0 := by kernel_rfl
theorem gTabType : (Tryd.prog.globals[0]?).map (·.type) = some 132 := by kernel_rfl
theorem cells132 : Tryd.prog.cellsOf 132 = 14 := by kernel_rfl
theorem cells3 : Tryd.prog.cellsOf 3 = 1 := by kernel_rfl

/-- What the rows' list gives: the table of kids. -/
theorem table {W : World} (h : laidMetH Tryd.prog Rows.evalLoopsRow.laid W) : Lib.TabIs Tryd.prog W "chancel/eval.kids" .i64 kidsOf :=
  Lib.tabIs_of_head (rest := []) gTab gTabType Tryd.underlying132 Tryd.underlying3 cells3 cells132 h

/-- The program's package-level variables: of the table alone all is known. -/
abbrev Γ0 : Nat → PV := tabΓ 0 .i64 kidsOf
theorem tabΓ0 : TabK Γ0 := rfl
theorem sim0 {W : World} (h : laidMetH Tryd.prog Rows.evalLoopsRow.laid W) : Sim Γ0 W (ofW W) [] W := sim_tab gTab (table h)

/-- A world for the witness: the settled one, the table as its initialiser lays it. -/
noncomputable def laidWorld (os : Os) : World :=
  let w := World.holding Tryd.prog os ⟨#[], #[], []⟩
  { w with heap := w.heap.modify 0 fun
      | .cells _ t frozen => .cells (kidsOf.map fun z => .int .i64 z).toArray t frozen
      | o => o }

end Go.Proofs.YtnjlfbefpoecpaaDoor
