/-
  NARROWER THAN 'FOR EVERY INPUT', by the rows' own cells (each row's printed sentence says how): EvalTries: laid · EvalLoops: laid · EvalMore: laid · EvalSeqs: laid · EvalCalls: laid · EvalTells: loops, laid.
  DERIVED. THE GIVEN ROWS OF THIS SEAT. 6 by the template 'for every input the law returns true; each argument reads behind the call as it read before'; 0 by the template 'total and deterministic' (their statements: YtnjlfbefpoecpaaDoorTotals.lean).
  GIVEN WITH THE SEED: the statements are not yours to turn. If you find one false, say at which input.
  Laid BY PROGRAM, IN A SANDBOX (cutbox-rows.mjs): the forced cells as the released guide's own fill.sh prints them over the translation e6c17c9d9ba18081… (all of the seat's roots in one cut). By AI agents, Wed Nov 11 2026. No macro, syntax, notation, axiom, sorry.
-/
import Derived.Test.YtnjlfbefpoecpaaDoorChecked
import GoSem.Claim
import GoSem.ClaimJoined
import GoSem.ClaimMapViews
import Derived.JoinedTies
import Derived.KernelRfl
namespace Go.Proofs.YtnjlfbefpoecpaaDoor
/- THE CELL 'sum', in the pinned program and in every row, IS THE sha256 OF THE DUMP (.gsa) THAT YtnjlfbefpoecpaaDoorProg.lean LOADS. Nothing in Lean hashes anything: it is a label: what it is worth is what the hold of that sum in a sandbox is worth. -/
noncomputable def Tryd.pinned : Pinned := { name := "ytnjlfbefpoecpaadoor", sum := "e6c17c9d9ba18081c7ffd69086126b941ab310fc4d31d203a6657caf394afe12", checked := Tryd.checked }
namespace Rows
def none {H : Type} : Left H := { results := [], args := [] }

/- WHAT THE LISTED PACKAGE-LEVEL VARIABLES READ AS WHEN THE CALL BEGINS. Each datum BY PROGRAM (the guide's laid-datum.mjs) off the statement by which the dump's own 'gosem.cut.vars' lays the variable. In a bare row this is a premise. The card (YtnjlfbefpoecpaaDoorCards.lean) ties it to the program's text. -/
def laid_chancel_eval_kids {H : Type} : DataW H := .agg [.lit (.int .i64 (-1)), .lit (.int .i64 0), .lit (.int .i64 0), .lit (.int .i64 1), .lit (.int .i64 2), .lit (.int .i64 2), .lit (.int .i64 3), .lit (.int .i64 2), .lit (.int .i64 1), .lit (.int .i64 2), .lit (.int .i64 1), .lit (.int .i64 2), .lit (.int .i64 2), .lit (.int .i64 2)]

/-- 'chancellaw19.EvalTries': WHATEVER THE INPUT: true; the input reads as it did. -/
def evalTriesSpec : ChangeSpec := { name := "evalTries", fn := fun _ => fun
  | [d1, d2, d3] => { results := [.lit (.bool true)], args := [d1, d2, d3] }
  | _ => none }
def evalTriesRow : OpenClaim := { program := "ytnjlfbefpoecpaadoor", sum := "e6c17c9d9ba18081c7ffd69086126b941ab310fc4d31d203a6657caf394afe12", func := "chancel/chancellaw19.EvalTries", spec := "evalTries", unfollowed := true, recurses := true, named := ["chancel/eval.kids"], apart := false, laid := [("chancel/eval.kids", laid_chancel_eval_kids)] }
def EvalTriesSaid : Prop := evalTriesRow.holds Tryd.pinned (OpenSpec.ofChange evalTriesSpec)

/-- ITS FALSE NEIGHBOUR: 'it returns false'. Refute it at one input. -/
def evalTriesWrong : ChangeSpec := { name := "evalTries", fn := fun _ => fun
  | [d1, d2, d3] => { results := [.lit (.bool false)], args := [d1, d2, d3] }
  | _ => none }
def EvalTriesWrongFalsely : Prop := evalTriesRow.holds Tryd.pinned (OpenSpec.ofChange evalTriesWrong)

/-- 'chancellaw19.EvalLoops': WHATEVER THE INPUT: true; the input reads as it did. -/
def evalLoopsSpec : ChangeSpec := { name := "evalLoops", fn := fun _ => fun
  | [d] => { results := [.lit (.bool true)], args := [d] }
  | _ => none }
def evalLoopsRow : OpenClaim := { program := "ytnjlfbefpoecpaadoor", sum := "e6c17c9d9ba18081c7ffd69086126b941ab310fc4d31d203a6657caf394afe12", func := "chancel/chancellaw19.EvalLoops", spec := "evalLoops", unfollowed := true, recurses := true, named := ["chancel/eval.kids"], apart := false, laid := [("chancel/eval.kids", laid_chancel_eval_kids)] }
def EvalLoopsSaid : Prop := evalLoopsRow.holds Tryd.pinned (OpenSpec.ofChange evalLoopsSpec)

/-- ITS FALSE NEIGHBOUR: 'it returns false'. Refute it at one input. -/
def evalLoopsWrong : ChangeSpec := { name := "evalLoops", fn := fun _ => fun
  | [d] => { results := [.lit (.bool false)], args := [d] }
  | _ => none }
def EvalLoopsWrongFalsely : Prop := evalLoopsRow.holds Tryd.pinned (OpenSpec.ofChange evalLoopsWrong)

/-- 'chancellaw19.EvalMore': WHATEVER THE INPUT: true; the input reads as it did. -/
def evalMoreSpec : ChangeSpec := { name := "evalMore", fn := fun _ => fun
  | [d1, d2, d3, d4, d5] => { results := [.lit (.bool true)], args := [d1, d2, d3, d4, d5] }
  | _ => none }
def evalMoreRow : OpenClaim := { program := "ytnjlfbefpoecpaadoor", sum := "e6c17c9d9ba18081c7ffd69086126b941ab310fc4d31d203a6657caf394afe12", func := "chancel/chancellaw19.EvalMore", spec := "evalMore", unfollowed := true, recurses := true, named := ["chancel/eval.kids"], apart := false, laid := [("chancel/eval.kids", laid_chancel_eval_kids)] }
def EvalMoreSaid : Prop := evalMoreRow.holds Tryd.pinned (OpenSpec.ofChange evalMoreSpec)

/-- ITS FALSE NEIGHBOUR: 'it returns false'. Refute it at one input. -/
def evalMoreWrong : ChangeSpec := { name := "evalMore", fn := fun _ => fun
  | [d1, d2, d3, d4, d5] => { results := [.lit (.bool false)], args := [d1, d2, d3, d4, d5] }
  | _ => none }
def EvalMoreWrongFalsely : Prop := evalMoreRow.holds Tryd.pinned (OpenSpec.ofChange evalMoreWrong)

/-- 'chancellaw19.EvalSeqs': WHATEVER THE INPUT: true; the input reads as it did. -/
def evalSeqsSpec : ChangeSpec := { name := "evalSeqs", fn := fun _ => fun
  | [d1, d2, d3] => { results := [.lit (.bool true)], args := [d1, d2, d3] }
  | _ => none }
def evalSeqsRow : OpenClaim := { program := "ytnjlfbefpoecpaadoor", sum := "e6c17c9d9ba18081c7ffd69086126b941ab310fc4d31d203a6657caf394afe12", func := "chancel/chancellaw19.EvalSeqs", spec := "evalSeqs", unfollowed := true, recurses := true, named := ["chancel/eval.kids"], apart := false, laid := [("chancel/eval.kids", laid_chancel_eval_kids)] }
def EvalSeqsSaid : Prop := evalSeqsRow.holds Tryd.pinned (OpenSpec.ofChange evalSeqsSpec)

/-- ITS FALSE NEIGHBOUR: 'it returns false'. Refute it at one input. -/
def evalSeqsWrong : ChangeSpec := { name := "evalSeqs", fn := fun _ => fun
  | [d1, d2, d3] => { results := [.lit (.bool false)], args := [d1, d2, d3] }
  | _ => none }
def EvalSeqsWrongFalsely : Prop := evalSeqsRow.holds Tryd.pinned (OpenSpec.ofChange evalSeqsWrong)

/-- 'chancellaw19.EvalCalls': WHATEVER THE INPUT: true; the input reads as it did. -/
def evalCallsSpec : ChangeSpec := { name := "evalCalls", fn := fun _ => fun
  | [d1, d2, d3, d4] => { results := [.lit (.bool true)], args := [d1, d2, d3, d4] }
  | _ => none }
def evalCallsRow : OpenClaim := { program := "ytnjlfbefpoecpaadoor", sum := "e6c17c9d9ba18081c7ffd69086126b941ab310fc4d31d203a6657caf394afe12", func := "chancel/chancellaw19.EvalCalls", spec := "evalCalls", unfollowed := true, recurses := true, named := ["chancel/eval.kids"], apart := false, laid := [("chancel/eval.kids", laid_chancel_eval_kids)] }
def EvalCallsSaid : Prop := evalCallsRow.holds Tryd.pinned (OpenSpec.ofChange evalCallsSpec)

/-- ITS FALSE NEIGHBOUR: 'it returns false'. Refute it at one input. -/
def evalCallsWrong : ChangeSpec := { name := "evalCalls", fn := fun _ => fun
  | [d1, d2, d3, d4] => { results := [.lit (.bool false)], args := [d1, d2, d3, d4] }
  | _ => none }
def EvalCallsWrongFalsely : Prop := evalCallsRow.holds Tryd.pinned (OpenSpec.ofChange evalCallsWrong)

/-- 'chancellaw19.EvalTells': WHATEVER THE INPUT: true; the input reads as it did. -/
def evalTellsSpec : ChangeSpec := { name := "evalTells", fn := fun _ => fun
  | [d1, d2, d3, d4, d5, d6, d7, d8] => { results := [.lit (.bool true)], args := [d1, d2, d3, d4, d5, d6, d7, d8] }
  | _ => none }
def evalTellsRow : OpenClaim := { program := "ytnjlfbefpoecpaadoor", sum := "e6c17c9d9ba18081c7ffd69086126b941ab310fc4d31d203a6657caf394afe12", func := "chancel/chancellaw19.EvalTells", spec := "evalTells", unfollowed := true, recurses := true, named := ["chancel/eval.kids"], loops := true, apart := false, laid := [("chancel/eval.kids", laid_chancel_eval_kids)] }
def EvalTellsSaid : Prop := evalTellsRow.holds Tryd.pinned (OpenSpec.ofChange evalTellsSpec)

/-- ITS FALSE NEIGHBOUR: 'it returns false'. Refute it at one input. -/
def evalTellsWrong : ChangeSpec := { name := "evalTells", fn := fun _ => fun
  | [d1, d2, d3, d4, d5, d6, d7, d8] => { results := [.lit (.bool false)], args := [d1, d2, d3, d4, d5, d6, d7, d8] }
  | _ => none }
def EvalTellsWrongFalsely : Prop := evalTellsRow.holds Tryd.pinned (OpenSpec.ofChange evalTellsWrong)

/- THE SECOND FORM. 'bulk': how many values and letters a reading holds, each counted each time it is reached (what is shared counts as often as it is met; a slice's spare places count too). A statement '..UptoSaid' is the law's where the arguments, and the package variables that the reading takes, are together of bulk at most 1048576: NARROWER than '..Said'. Prove '..Said' where nothing that the law and all that it calls make is longer than what came in: it says more and counts as full. Else prove '..UptoSaid'. A law counts once. -/
mutual
def uptoBulk {H : Type} : DataW H → Nat
  | .lit (.string bytes) => bytes.length + 1
  | .lit _ => 1
  | .nil => 1
  | .ptr d => uptoBulk d + 1
  | .slice elems spare => uptoBulkAll elems + uptoBulkAll spare + 1
  | .agg parts => uptoBulkAll parts + 1
  | .iface _ d => uptoBulk d + 1
  | .map entries => uptoBulkEntries entries + 1
  | .held _ => 1
def uptoBulkAll {H : Type} : List (DataW H) → Nat
  | [] => 0
  | d :: r => uptoBulk d + uptoBulkAll r
def uptoBulkEntries {H : Type} : List (Lit × DataW H) → Nat
  | [] => 0
  | x :: r => uptoBulkEntry x + uptoBulkEntries r
def uptoBulkEntry {H : Type} : Lit × DataW H → Nat
  | (.string bytes, d) => bytes.length + uptoBulk d + 1
  | (_, d) => uptoBulk d + 1
 end
def uptoSmall : (H : Type) → List (DataW H) → Bool := fun _ ds => decide (uptoBulkAll ds ≤ 1048576)
def OpenSpec.upto (s : _root_.Go.ChangeSpec) : _root_.Go.OpenSpec := { _root_.Go.OpenSpec.ofChange s with cond := some uptoSmall }

/-- 'chancellaw19.EvalTries', WHERE WHAT IT READS IS OF BULK AT MOST 1048576: true; the input reads as it did. -/
def evalTriesUptoRow : OpenClaim := { program := "ytnjlfbefpoecpaadoor", sum := "e6c17c9d9ba18081c7ffd69086126b941ab310fc4d31d203a6657caf394afe12", func := "chancel/chancellaw19.EvalTries", spec := "evalTries", unfollowed := true, recurses := true, named := ["chancel/eval.kids"], apart := false, laid := [("chancel/eval.kids", laid_chancel_eval_kids)], narrowed := true }
def EvalTriesUptoSaid : Prop := evalTriesUptoRow.holds Tryd.pinned (OpenSpec.upto evalTriesSpec)

/-- 'chancellaw19.EvalLoops', WHERE WHAT IT READS IS OF BULK AT MOST 1048576: true; the input reads as it did. -/
def evalLoopsUptoRow : OpenClaim := { program := "ytnjlfbefpoecpaadoor", sum := "e6c17c9d9ba18081c7ffd69086126b941ab310fc4d31d203a6657caf394afe12", func := "chancel/chancellaw19.EvalLoops", spec := "evalLoops", unfollowed := true, recurses := true, named := ["chancel/eval.kids"], apart := false, laid := [("chancel/eval.kids", laid_chancel_eval_kids)], narrowed := true }
def EvalLoopsUptoSaid : Prop := evalLoopsUptoRow.holds Tryd.pinned (OpenSpec.upto evalLoopsSpec)

/-- 'chancellaw19.EvalMore', WHERE WHAT IT READS IS OF BULK AT MOST 1048576: true; the input reads as it did. -/
def evalMoreUptoRow : OpenClaim := { program := "ytnjlfbefpoecpaadoor", sum := "e6c17c9d9ba18081c7ffd69086126b941ab310fc4d31d203a6657caf394afe12", func := "chancel/chancellaw19.EvalMore", spec := "evalMore", unfollowed := true, recurses := true, named := ["chancel/eval.kids"], apart := false, laid := [("chancel/eval.kids", laid_chancel_eval_kids)], narrowed := true }
def EvalMoreUptoSaid : Prop := evalMoreUptoRow.holds Tryd.pinned (OpenSpec.upto evalMoreSpec)

/-- 'chancellaw19.EvalSeqs', WHERE WHAT IT READS IS OF BULK AT MOST 1048576: true; the input reads as it did. -/
def evalSeqsUptoRow : OpenClaim := { program := "ytnjlfbefpoecpaadoor", sum := "e6c17c9d9ba18081c7ffd69086126b941ab310fc4d31d203a6657caf394afe12", func := "chancel/chancellaw19.EvalSeqs", spec := "evalSeqs", unfollowed := true, recurses := true, named := ["chancel/eval.kids"], apart := false, laid := [("chancel/eval.kids", laid_chancel_eval_kids)], narrowed := true }
def EvalSeqsUptoSaid : Prop := evalSeqsUptoRow.holds Tryd.pinned (OpenSpec.upto evalSeqsSpec)

/-- 'chancellaw19.EvalCalls', WHERE WHAT IT READS IS OF BULK AT MOST 1048576: true; the input reads as it did. -/
def evalCallsUptoRow : OpenClaim := { program := "ytnjlfbefpoecpaadoor", sum := "e6c17c9d9ba18081c7ffd69086126b941ab310fc4d31d203a6657caf394afe12", func := "chancel/chancellaw19.EvalCalls", spec := "evalCalls", unfollowed := true, recurses := true, named := ["chancel/eval.kids"], apart := false, laid := [("chancel/eval.kids", laid_chancel_eval_kids)], narrowed := true }
def EvalCallsUptoSaid : Prop := evalCallsUptoRow.holds Tryd.pinned (OpenSpec.upto evalCallsSpec)

/-- 'chancellaw19.EvalTells', WHERE WHAT IT READS IS OF BULK AT MOST 1048576: true; the input reads as it did. -/
def evalTellsUptoRow : OpenClaim := { program := "ytnjlfbefpoecpaadoor", sum := "e6c17c9d9ba18081c7ffd69086126b941ab310fc4d31d203a6657caf394afe12", func := "chancel/chancellaw19.EvalTells", spec := "evalTells", unfollowed := true, recurses := true, named := ["chancel/eval.kids"], loops := true, apart := false, laid := [("chancel/eval.kids", laid_chancel_eval_kids)], narrowed := true }
def EvalTellsUptoSaid : Prop := evalTellsUptoRow.holds Tryd.pinned (OpenSpec.upto evalTellsSpec)

end Rows
end Go.Proofs.YtnjlfbefpoecpaaDoor
