/-
  NARROWER THAN 'FOR EVERY INPUT', by the rows' own cells (each row's printed sentence says how): SolveTells: laid · ClosedTells: laid · ClosedAgain: laid · ClosedReach: laid · ClosedOrder: laid · ClosedLeast: laid · ClosedEntails: laid · ClosedProjects: laid.
  DERIVED. THE GIVEN ROWS OF THIS SEAT. 8 by the template 'for every input the law returns true; each argument reads behind the call as it read before'; 0 by the template 'total and deterministic' (their statements: YteicbhkimepbaaaGreatDoorTotals.lean).
  GIVEN WITH THE SEED: the statements are not yours to turn. If you find one false, say at which input.
  Laid BY PROGRAM, IN A SANDBOX (cutbox-rows.mjs): the forced cells as the released guide's own fill.sh prints them over the translation cf00216e8a0bf1c2… (all of the seat's roots in one cut). By AI agents, Wed Nov 11 2026. No macro, syntax, notation, axiom, sorry.
-/
import Derived.Test.YteicbhkimepbaaaGreatDoorChecked
import GoSem.Claim
import GoSem.ClaimJoined
import GoSem.ClaimMapViews
import Derived.JoinedTies
import Derived.KernelRfl
namespace Go.Proofs.YteicbhkimepbaaaGreatDoor
/- THE CELL 'sum', in the pinned program and in every row, IS THE sha256 OF THE DUMP (.gsa) THAT YteicbhkimepbaaaGreatDoorProg.lean LOADS. Nothing in Lean hashes anything: it is a label: what it is worth is what the hold of that sum in a sandbox is worth. -/
noncomputable def Tryz.pinned : Pinned := { name := "yteicbhkimepbaaagreatdoor", sum := "cf00216e8a0bf1c2c0984e148b0910dc84108531a83a25b0533e0147340a22e6", checked := Tryz.checked }
namespace Rows
def none {H : Type} : Left H := { results := [], args := [] }

/- WHAT THE LISTED PACKAGE-LEVEL VARIABLES READ AS WHEN THE CALL BEGINS. Each datum BY PROGRAM (the guide's laid-datum.mjs) off the statement by which the dump's own 'gosem.cut.vars' lays the variable. In a bare row this is a premise. The card (YteicbhkimepbaaaGreatDoorCards.lean) ties it to the program's text. -/
def laid_math_bits_deBruijn64tab {H : Type} : DataW H := .agg [.lit (.int .u8 0), .lit (.int .u8 1), .lit (.int .u8 56), .lit (.int .u8 2), .lit (.int .u8 57), .lit (.int .u8 49), .lit (.int .u8 28), .lit (.int .u8 3), .lit (.int .u8 61), .lit (.int .u8 58), .lit (.int .u8 42), .lit (.int .u8 50), .lit (.int .u8 38), .lit (.int .u8 29), .lit (.int .u8 17), .lit (.int .u8 4), .lit (.int .u8 62), .lit (.int .u8 47), .lit (.int .u8 59), .lit (.int .u8 36), .lit (.int .u8 45), .lit (.int .u8 43), .lit (.int .u8 51), .lit (.int .u8 22), .lit (.int .u8 53), .lit (.int .u8 39), .lit (.int .u8 33), .lit (.int .u8 30), .lit (.int .u8 24), .lit (.int .u8 18), .lit (.int .u8 12), .lit (.int .u8 5), .lit (.int .u8 63), .lit (.int .u8 55), .lit (.int .u8 48), .lit (.int .u8 27), .lit (.int .u8 60), .lit (.int .u8 41), .lit (.int .u8 37), .lit (.int .u8 16), .lit (.int .u8 46), .lit (.int .u8 35), .lit (.int .u8 44), .lit (.int .u8 21), .lit (.int .u8 52), .lit (.int .u8 32), .lit (.int .u8 23), .lit (.int .u8 11), .lit (.int .u8 54), .lit (.int .u8 26), .lit (.int .u8 40), .lit (.int .u8 15), .lit (.int .u8 34), .lit (.int .u8 20), .lit (.int .u8 31), .lit (.int .u8 10), .lit (.int .u8 25), .lit (.int .u8 14), .lit (.int .u8 19), .lit (.int .u8 9), .lit (.int .u8 13), .lit (.int .u8 8), .lit (.int .u8 7), .lit (.int .u8 6)]

/-- 'chancellaw11.SolveTells': WHATEVER THE INPUT: true; the input reads as it did. -/
def solveTellsSpec : ChangeSpec := { name := "solveTells", fn := fun _ => fun
  | [d1, d2, d3, d4] => { results := [.lit (.bool true)], args := [d1, d2, d3, d4] }
  | _ => none }
def solveTellsRow : OpenClaim := { program := "yteicbhkimepbaaagreatdoor", sum := "cf00216e8a0bf1c2c0984e148b0910dc84108531a83a25b0533e0147340a22e6", func := "chancel/chancellaw11.SolveTells", spec := "solveTells", unfollowed := true, recurses := true, named := ["math/bits.deBruijn64tab"], plainKeys := false, apart := false, laid := [("math/bits.deBruijn64tab", laid_math_bits_deBruijn64tab)] }
def SolveTellsSaid : Prop := solveTellsRow.holds Tryz.pinned (OpenSpec.ofChange solveTellsSpec)

/-- ITS FALSE NEIGHBOUR: 'it returns false'. Refute it at one input. -/
def solveTellsWrong : ChangeSpec := { name := "solveTells", fn := fun _ => fun
  | [d1, d2, d3, d4] => { results := [.lit (.bool false)], args := [d1, d2, d3, d4] }
  | _ => none }
def SolveTellsWrongFalsely : Prop := solveTellsRow.holds Tryz.pinned (OpenSpec.ofChange solveTellsWrong)

/-- 'chancellaw12.ClosedTells': WHATEVER THE INPUT: true; the input reads as it did. -/
def closedTellsSpec : ChangeSpec := { name := "closedTells", fn := fun _ => fun
  | [d1, d2, d3, d4, d5] => { results := [.lit (.bool true)], args := [d1, d2, d3, d4, d5] }
  | _ => none }
def closedTellsRow : OpenClaim := { program := "yteicbhkimepbaaagreatdoor", sum := "cf00216e8a0bf1c2c0984e148b0910dc84108531a83a25b0533e0147340a22e6", func := "chancel/chancellaw12.ClosedTells", spec := "closedTells", unfollowed := true, recurses := true, named := ["math/bits.deBruijn64tab"], plainKeys := false, apart := false, laid := [("math/bits.deBruijn64tab", laid_math_bits_deBruijn64tab)] }
def ClosedTellsSaid : Prop := closedTellsRow.holds Tryz.pinned (OpenSpec.ofChange closedTellsSpec)

/-- ITS FALSE NEIGHBOUR: 'it returns false'. Refute it at one input. -/
def closedTellsWrong : ChangeSpec := { name := "closedTells", fn := fun _ => fun
  | [d1, d2, d3, d4, d5] => { results := [.lit (.bool false)], args := [d1, d2, d3, d4, d5] }
  | _ => none }
def ClosedTellsWrongFalsely : Prop := closedTellsRow.holds Tryz.pinned (OpenSpec.ofChange closedTellsWrong)

/-- 'chancellaw12.ClosedAgain': WHATEVER THE INPUT: true; the input reads as it did. -/
def closedAgainSpec : ChangeSpec := { name := "closedAgain", fn := fun _ => fun
  | [d1, d2, d3, d4] => { results := [.lit (.bool true)], args := [d1, d2, d3, d4] }
  | _ => none }
def closedAgainRow : OpenClaim := { program := "yteicbhkimepbaaagreatdoor", sum := "cf00216e8a0bf1c2c0984e148b0910dc84108531a83a25b0533e0147340a22e6", func := "chancel/chancellaw12.ClosedAgain", spec := "closedAgain", unfollowed := true, recurses := true, named := ["math/bits.deBruijn64tab"], plainKeys := false, apart := false, laid := [("math/bits.deBruijn64tab", laid_math_bits_deBruijn64tab)] }
def ClosedAgainSaid : Prop := closedAgainRow.holds Tryz.pinned (OpenSpec.ofChange closedAgainSpec)

/-- ITS FALSE NEIGHBOUR: 'it returns false'. Refute it at one input. -/
def closedAgainWrong : ChangeSpec := { name := "closedAgain", fn := fun _ => fun
  | [d1, d2, d3, d4] => { results := [.lit (.bool false)], args := [d1, d2, d3, d4] }
  | _ => none }
def ClosedAgainWrongFalsely : Prop := closedAgainRow.holds Tryz.pinned (OpenSpec.ofChange closedAgainWrong)

/-- 'chancellaw12.ClosedReach': WHATEVER THE INPUT: true; the input reads as it did. -/
def closedReachSpec : ChangeSpec := { name := "closedReach", fn := fun _ => fun
  | [d1, d2, d3, d4] => { results := [.lit (.bool true)], args := [d1, d2, d3, d4] }
  | _ => none }
def closedReachRow : OpenClaim := { program := "yteicbhkimepbaaagreatdoor", sum := "cf00216e8a0bf1c2c0984e148b0910dc84108531a83a25b0533e0147340a22e6", func := "chancel/chancellaw12.ClosedReach", spec := "closedReach", unfollowed := true, recurses := true, named := ["math/bits.deBruijn64tab"], plainKeys := false, apart := false, laid := [("math/bits.deBruijn64tab", laid_math_bits_deBruijn64tab)] }
def ClosedReachSaid : Prop := closedReachRow.holds Tryz.pinned (OpenSpec.ofChange closedReachSpec)

/-- ITS FALSE NEIGHBOUR: 'it returns false'. Refute it at one input. -/
def closedReachWrong : ChangeSpec := { name := "closedReach", fn := fun _ => fun
  | [d1, d2, d3, d4] => { results := [.lit (.bool false)], args := [d1, d2, d3, d4] }
  | _ => none }
def ClosedReachWrongFalsely : Prop := closedReachRow.holds Tryz.pinned (OpenSpec.ofChange closedReachWrong)

/-- 'chancellaw12.ClosedOrder': WHATEVER THE INPUT: true; the input reads as it did. -/
def closedOrderSpec : ChangeSpec := { name := "closedOrder", fn := fun _ => fun
  | [d1, d2, d3] => { results := [.lit (.bool true)], args := [d1, d2, d3] }
  | _ => none }
def closedOrderRow : OpenClaim := { program := "yteicbhkimepbaaagreatdoor", sum := "cf00216e8a0bf1c2c0984e148b0910dc84108531a83a25b0533e0147340a22e6", func := "chancel/chancellaw12.ClosedOrder", spec := "closedOrder", unfollowed := true, recurses := true, named := ["math/bits.deBruijn64tab"], plainKeys := false, apart := false, laid := [("math/bits.deBruijn64tab", laid_math_bits_deBruijn64tab)] }
def ClosedOrderSaid : Prop := closedOrderRow.holds Tryz.pinned (OpenSpec.ofChange closedOrderSpec)

/-- ITS FALSE NEIGHBOUR: 'it returns false'. Refute it at one input. -/
def closedOrderWrong : ChangeSpec := { name := "closedOrder", fn := fun _ => fun
  | [d1, d2, d3] => { results := [.lit (.bool false)], args := [d1, d2, d3] }
  | _ => none }
def ClosedOrderWrongFalsely : Prop := closedOrderRow.holds Tryz.pinned (OpenSpec.ofChange closedOrderWrong)

/-- 'chancellaw12.ClosedLeast': WHATEVER THE INPUT: true; the input reads as it did. -/
def closedLeastSpec : ChangeSpec := { name := "closedLeast", fn := fun _ => fun
  | [d1, d2] => { results := [.lit (.bool true)], args := [d1, d2] }
  | _ => none }
def closedLeastRow : OpenClaim := { program := "yteicbhkimepbaaagreatdoor", sum := "cf00216e8a0bf1c2c0984e148b0910dc84108531a83a25b0533e0147340a22e6", func := "chancel/chancellaw12.ClosedLeast", spec := "closedLeast", unfollowed := true, recurses := true, named := ["math/bits.deBruijn64tab"], plainKeys := false, apart := false, laid := [("math/bits.deBruijn64tab", laid_math_bits_deBruijn64tab)] }
def ClosedLeastSaid : Prop := closedLeastRow.holds Tryz.pinned (OpenSpec.ofChange closedLeastSpec)

/-- ITS FALSE NEIGHBOUR: 'it returns false'. Refute it at one input. -/
def closedLeastWrong : ChangeSpec := { name := "closedLeast", fn := fun _ => fun
  | [d1, d2] => { results := [.lit (.bool false)], args := [d1, d2] }
  | _ => none }
def ClosedLeastWrongFalsely : Prop := closedLeastRow.holds Tryz.pinned (OpenSpec.ofChange closedLeastWrong)

/-- 'chancellaw12.ClosedEntails': WHATEVER THE INPUT: true; the input reads as it did. -/
def closedEntailsSpec : ChangeSpec := { name := "closedEntails", fn := fun _ => fun
  | [d1, d2, d3, d4, d5] => { results := [.lit (.bool true)], args := [d1, d2, d3, d4, d5] }
  | _ => none }
def closedEntailsRow : OpenClaim := { program := "yteicbhkimepbaaagreatdoor", sum := "cf00216e8a0bf1c2c0984e148b0910dc84108531a83a25b0533e0147340a22e6", func := "chancel/chancellaw12.ClosedEntails", spec := "closedEntails", unfollowed := true, recurses := true, named := ["math/bits.deBruijn64tab"], plainKeys := false, apart := false, laid := [("math/bits.deBruijn64tab", laid_math_bits_deBruijn64tab)] }
def ClosedEntailsSaid : Prop := closedEntailsRow.holds Tryz.pinned (OpenSpec.ofChange closedEntailsSpec)

/-- ITS FALSE NEIGHBOUR: 'it returns false'. Refute it at one input. -/
def closedEntailsWrong : ChangeSpec := { name := "closedEntails", fn := fun _ => fun
  | [d1, d2, d3, d4, d5] => { results := [.lit (.bool false)], args := [d1, d2, d3, d4, d5] }
  | _ => none }
def ClosedEntailsWrongFalsely : Prop := closedEntailsRow.holds Tryz.pinned (OpenSpec.ofChange closedEntailsWrong)

/-- 'chancellaw12.ClosedProjects': WHATEVER THE INPUT: true; the input reads as it did. -/
def closedProjectsSpec : ChangeSpec := { name := "closedProjects", fn := fun _ => fun
  | [d1, d2, d3, d4] => { results := [.lit (.bool true)], args := [d1, d2, d3, d4] }
  | _ => none }
def closedProjectsRow : OpenClaim := { program := "yteicbhkimepbaaagreatdoor", sum := "cf00216e8a0bf1c2c0984e148b0910dc84108531a83a25b0533e0147340a22e6", func := "chancel/chancellaw12.ClosedProjects", spec := "closedProjects", unfollowed := true, recurses := true, named := ["math/bits.deBruijn64tab"], plainKeys := false, apart := false, laid := [("math/bits.deBruijn64tab", laid_math_bits_deBruijn64tab)] }
def ClosedProjectsSaid : Prop := closedProjectsRow.holds Tryz.pinned (OpenSpec.ofChange closedProjectsSpec)

/-- ITS FALSE NEIGHBOUR: 'it returns false'. Refute it at one input. -/
def closedProjectsWrong : ChangeSpec := { name := "closedProjects", fn := fun _ => fun
  | [d1, d2, d3, d4] => { results := [.lit (.bool false)], args := [d1, d2, d3, d4] }
  | _ => none }
def ClosedProjectsWrongFalsely : Prop := closedProjectsRow.holds Tryz.pinned (OpenSpec.ofChange closedProjectsWrong)

/- THE SECOND FORM. 'bulk': how many values and letters a reading holds, each counted each time it is reached (what is shared counts as often as it is met; a slice's spare places count too). A statement '..UptoSaid' is the law's where the arguments, and the package variables that the reading takes, are together of bulk at most 1048576: NARROWER than '..Said'. Prove '..Said' where nothing that the law and all that it calls make is longer than what came in: it says more and counts as full. Else prove '..UptoSaid'. A law counts once. -/
mutual
def uptoBulk {H : Type} : DataW H → Nat
  | .lit (.string bytes) => bytes.length + 1
  | .lit _ => 1
  | .nil => 1
  | .ptr d => uptoBulk d + 1
  | .slice elems spare => uptoBulkAll elems + uptoBulkAll spare + 1
  | .agg parts => uptoBulkAll parts + 1
  | .iface _ d => uptoBulk d + 1
  | .map entries => uptoBulkEntries entries + 1
  | .held _ => 1
def uptoBulkAll {H : Type} : List (DataW H) → Nat
  | [] => 0
  | d :: r => uptoBulk d + uptoBulkAll r
def uptoBulkEntries {H : Type} : List (Lit × DataW H) → Nat
  | [] => 0
  | x :: r => uptoBulkEntry x + uptoBulkEntries r
def uptoBulkEntry {H : Type} : Lit × DataW H → Nat
  | (.string bytes, d) => bytes.length + uptoBulk d + 1
  | (_, d) => uptoBulk d + 1
 end
def uptoSmall : (H : Type) → List (DataW H) → Bool := fun _ ds => decide (uptoBulkAll ds ≤ 1048576)
def OpenSpec.upto (s : _root_.Go.ChangeSpec) : _root_.Go.OpenSpec := { _root_.Go.OpenSpec.ofChange s with cond := some uptoSmall }

/-- 'chancellaw11.SolveTells', WHERE WHAT IT READS IS OF BULK AT MOST 1048576: true; the input reads as it did. -/
def solveTellsUptoRow : OpenClaim := { program := "yteicbhkimepbaaagreatdoor", sum := "cf00216e8a0bf1c2c0984e148b0910dc84108531a83a25b0533e0147340a22e6", func := "chancel/chancellaw11.SolveTells", spec := "solveTells", unfollowed := true, recurses := true, named := ["math/bits.deBruijn64tab"], plainKeys := false, apart := false, laid := [("math/bits.deBruijn64tab", laid_math_bits_deBruijn64tab)], narrowed := true }
def SolveTellsUptoSaid : Prop := solveTellsUptoRow.holds Tryz.pinned (OpenSpec.upto solveTellsSpec)

/-- 'chancellaw12.ClosedTells', WHERE WHAT IT READS IS OF BULK AT MOST 1048576: true; the input reads as it did. -/
def closedTellsUptoRow : OpenClaim := { program := "yteicbhkimepbaaagreatdoor", sum := "cf00216e8a0bf1c2c0984e148b0910dc84108531a83a25b0533e0147340a22e6", func := "chancel/chancellaw12.ClosedTells", spec := "closedTells", unfollowed := true, recurses := true, named := ["math/bits.deBruijn64tab"], plainKeys := false, apart := false, laid := [("math/bits.deBruijn64tab", laid_math_bits_deBruijn64tab)], narrowed := true }
def ClosedTellsUptoSaid : Prop := closedTellsUptoRow.holds Tryz.pinned (OpenSpec.upto closedTellsSpec)

/-- 'chancellaw12.ClosedAgain', WHERE WHAT IT READS IS OF BULK AT MOST 1048576: true; the input reads as it did. -/
def closedAgainUptoRow : OpenClaim := { program := "yteicbhkimepbaaagreatdoor", sum := "cf00216e8a0bf1c2c0984e148b0910dc84108531a83a25b0533e0147340a22e6", func := "chancel/chancellaw12.ClosedAgain", spec := "closedAgain", unfollowed := true, recurses := true, named := ["math/bits.deBruijn64tab"], plainKeys := false, apart := false, laid := [("math/bits.deBruijn64tab", laid_math_bits_deBruijn64tab)], narrowed := true }
def ClosedAgainUptoSaid : Prop := closedAgainUptoRow.holds Tryz.pinned (OpenSpec.upto closedAgainSpec)

/-- 'chancellaw12.ClosedReach', WHERE WHAT IT READS IS OF BULK AT MOST 1048576: true; the input reads as it did. -/
def closedReachUptoRow : OpenClaim := { program := "yteicbhkimepbaaagreatdoor", sum := "cf00216e8a0bf1c2c0984e148b0910dc84108531a83a25b0533e0147340a22e6", func := "chancel/chancellaw12.ClosedReach", spec := "closedReach", unfollowed := true, recurses := true, named := ["math/bits.deBruijn64tab"], plainKeys := false, apart := false, laid := [("math/bits.deBruijn64tab", laid_math_bits_deBruijn64tab)], narrowed := true }
def ClosedReachUptoSaid : Prop := closedReachUptoRow.holds Tryz.pinned (OpenSpec.upto closedReachSpec)

/-- 'chancellaw12.ClosedOrder', WHERE WHAT IT READS IS OF BULK AT MOST 1048576: true; the input reads as it did. -/
def closedOrderUptoRow : OpenClaim := { program := "yteicbhkimepbaaagreatdoor", sum := "cf00216e8a0bf1c2c0984e148b0910dc84108531a83a25b0533e0147340a22e6", func := "chancel/chancellaw12.ClosedOrder", spec := "closedOrder", unfollowed := true, recurses := true, named := ["math/bits.deBruijn64tab"], plainKeys := false, apart := false, laid := [("math/bits.deBruijn64tab", laid_math_bits_deBruijn64tab)], narrowed := true }
def ClosedOrderUptoSaid : Prop := closedOrderUptoRow.holds Tryz.pinned (OpenSpec.upto closedOrderSpec)

/-- 'chancellaw12.ClosedLeast', WHERE WHAT IT READS IS OF BULK AT MOST 1048576: true; the input reads as it did. -/
def closedLeastUptoRow : OpenClaim := { program := "yteicbhkimepbaaagreatdoor", sum := "cf00216e8a0bf1c2c0984e148b0910dc84108531a83a25b0533e0147340a22e6", func := "chancel/chancellaw12.ClosedLeast", spec := "closedLeast", unfollowed := true, recurses := true, named := ["math/bits.deBruijn64tab"], plainKeys := false, apart := false, laid := [("math/bits.deBruijn64tab", laid_math_bits_deBruijn64tab)], narrowed := true }
def ClosedLeastUptoSaid : Prop := closedLeastUptoRow.holds Tryz.pinned (OpenSpec.upto closedLeastSpec)

/-- 'chancellaw12.ClosedEntails', WHERE WHAT IT READS IS OF BULK AT MOST 1048576: true; the input reads as it did. -/
def closedEntailsUptoRow : OpenClaim := { program := "yteicbhkimepbaaagreatdoor", sum := "cf00216e8a0bf1c2c0984e148b0910dc84108531a83a25b0533e0147340a22e6", func := "chancel/chancellaw12.ClosedEntails", spec := "closedEntails", unfollowed := true, recurses := true, named := ["math/bits.deBruijn64tab"], plainKeys := false, apart := false, laid := [("math/bits.deBruijn64tab", laid_math_bits_deBruijn64tab)], narrowed := true }
def ClosedEntailsUptoSaid : Prop := closedEntailsUptoRow.holds Tryz.pinned (OpenSpec.upto closedEntailsSpec)

/-- 'chancellaw12.ClosedProjects', WHERE WHAT IT READS IS OF BULK AT MOST 1048576: true; the input reads as it did. -/
def closedProjectsUptoRow : OpenClaim := { program := "yteicbhkimepbaaagreatdoor", sum := "cf00216e8a0bf1c2c0984e148b0910dc84108531a83a25b0533e0147340a22e6", func := "chancel/chancellaw12.ClosedProjects", spec := "closedProjects", unfollowed := true, recurses := true, named := ["math/bits.deBruijn64tab"], plainKeys := false, apart := false, laid := [("math/bits.deBruijn64tab", laid_math_bits_deBruijn64tab)], narrowed := true }
def ClosedProjectsUptoSaid : Prop := closedProjectsUptoRow.holds Tryz.pinned (OpenSpec.upto closedProjectsSpec)

end Rows
end Go.Proofs.YteicbhkimepbaaaGreatDoor
