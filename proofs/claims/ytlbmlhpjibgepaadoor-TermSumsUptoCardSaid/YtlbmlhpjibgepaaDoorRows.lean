/-
  NARROWER THAN 'FOR EVERY INPUT', by the rows' own cells (each row's printed sentence says how): TermTells: loops, laid · TermSame: loops, laid · TermSums: loops, laid · TermBinds: loops, laid · TermDeep: laid · TermKinds: laid.
  DERIVED. THE GIVEN ROWS OF THIS SEAT. 6 by the template 'for every input the law returns true; each argument reads behind the call as it read before'; 0 by the template 'total and deterministic' (their statements: YtlbmlhpjibgepaaDoorTotals.lean).
  GIVEN WITH THE SEED: the statements are not yours to turn. If you find one false, say at which input.
  Laid BY PROGRAM, IN A SANDBOX (cutbox-rows.mjs): the forced cells as the released guide's own fill.sh prints them over the translation 7af74f0cbaeffa96… (all of the seat's roots in one cut). By AI agents, Wed Nov 11 2026. No macro, syntax, notation, axiom, sorry.
-/
import Derived.Test.YtlbmlhpjibgepaaDoorChecked
import GoSem.Claim
import GoSem.ClaimJoined
import GoSem.ClaimMapViews
import Derived.JoinedTies
import Derived.KernelRfl
namespace Go.Proofs.YtlbmlhpjibgepaaDoor
/- THE CELL 'sum', in the pinned program and in every row, IS THE sha256 OF THE DUMP (.gsa) THAT YtlbmlhpjibgepaaDoorProg.lean LOADS. Nothing in Lean hashes anything: it is a label: what it is worth is what the hold of that sum in a sandbox is worth. -/
noncomputable def Tryd.pinned : Pinned := { name := "ytlbmlhpjibgepaadoor", sum := "7af74f0cbaeffa9689afc864e85dfd9110c76311d0466a1e9bead8a5a2eab9c5", checked := Tryd.checked }
namespace Rows
def none {H : Type} : Left H := { results := [], args := [] }

/- WHAT THE LISTED PACKAGE-LEVEL VARIABLES READ AS WHEN THE CALL BEGINS. Each datum BY PROGRAM (the guide's laid-datum.mjs) off the statement by which the dump's own 'gosem.cut.vars' lays the variable. In a bare row this is a premise. The card (YtlbmlhpjibgepaaDoorCards.lean) ties it to the program's text. -/
def laid_chancel_lex_keys {H : Type} : DataW H := .agg [.lit (.string [102, 117, 110]), .lit (.string [108, 101, 116]), .lit (.string [105, 110]), .lit (.string [105, 102]), .lit (.string [116, 104, 101, 110]), .lit (.string [101, 108, 115, 101]), .lit (.string [119, 104, 105, 108, 101]), .lit (.string [100, 111]), .lit (.string [114, 97, 105, 115, 101]), .lit (.string [116, 114, 121]), .lit (.string [119, 105, 116, 104]), .lit (.string [105, 110, 112, 117, 116]), .lit (.string [99, 101, 108, 108]), .lit (.string [100, 101, 102])]
def laid_chancel_term_kids {H : Type} : DataW H := .agg [.lit (.int .i64 (-1)), .lit (.int .i64 0), .lit (.int .i64 0), .lit (.int .i64 1), .lit (.int .i64 2), .lit (.int .i64 2), .lit (.int .i64 3), .lit (.int .i64 2), .lit (.int .i64 1), .lit (.int .i64 2), .lit (.int .i64 1), .lit (.int .i64 2), .lit (.int .i64 2), .lit (.int .i64 2)]
def laid_chancel_term_ops {H : Type} : DataW H := .agg [.lit (.string [43]), .lit (.string [45]), .lit (.string [42]), .lit (.string [60]), .lit (.string [61])]

/-- 'chancellaw03.TermTells': WHATEVER THE INPUT: true; the input reads as it did. -/
def termTellsSpec : ChangeSpec := { name := "termTells", fn := fun _ => fun
  | [d1, d2] => { results := [.lit (.bool true)], args := [d1, d2] }
  | _ => none }
def termTellsRow : OpenClaim := { program := "ytlbmlhpjibgepaadoor", sum := "7af74f0cbaeffa9689afc864e85dfd9110c76311d0466a1e9bead8a5a2eab9c5", func := "chancel/chancellaw03.TermTells", spec := "termTells", unfollowed := true, recurses := true, named := ["chancel/term.kids", "chancel/term.ops", "chancel/lex.keys"], loops := true, apart := false, laid := [("chancel/lex.keys", laid_chancel_lex_keys), ("chancel/term.kids", laid_chancel_term_kids), ("chancel/term.ops", laid_chancel_term_ops)] }
def TermTellsSaid : Prop := termTellsRow.holds Tryd.pinned (OpenSpec.ofChange termTellsSpec)

/-- ITS FALSE NEIGHBOUR: 'it returns false'. Refute it at one input. -/
def termTellsWrong : ChangeSpec := { name := "termTells", fn := fun _ => fun
  | [d1, d2] => { results := [.lit (.bool false)], args := [d1, d2] }
  | _ => none }
def TermTellsWrongFalsely : Prop := termTellsRow.holds Tryd.pinned (OpenSpec.ofChange termTellsWrong)

/-- 'chancellaw03.TermSame': WHATEVER THE INPUT: true; the input reads as it did. -/
def termSameSpec : ChangeSpec := { name := "termSame", fn := fun _ => fun
  | [d1, d2, d3] => { results := [.lit (.bool true)], args := [d1, d2, d3] }
  | _ => none }
def termSameRow : OpenClaim := { program := "ytlbmlhpjibgepaadoor", sum := "7af74f0cbaeffa9689afc864e85dfd9110c76311d0466a1e9bead8a5a2eab9c5", func := "chancel/chancellaw03.TermSame", spec := "termSame", unfollowed := true, recurses := true, named := ["chancel/term.kids", "chancel/term.ops", "chancel/lex.keys"], loops := true, apart := false, laid := [("chancel/lex.keys", laid_chancel_lex_keys), ("chancel/term.kids", laid_chancel_term_kids), ("chancel/term.ops", laid_chancel_term_ops)] }
def TermSameSaid : Prop := termSameRow.holds Tryd.pinned (OpenSpec.ofChange termSameSpec)

/-- ITS FALSE NEIGHBOUR: 'it returns false'. Refute it at one input. -/
def termSameWrong : ChangeSpec := { name := "termSame", fn := fun _ => fun
  | [d1, d2, d3] => { results := [.lit (.bool false)], args := [d1, d2, d3] }
  | _ => none }
def TermSameWrongFalsely : Prop := termSameRow.holds Tryd.pinned (OpenSpec.ofChange termSameWrong)

/-- 'chancellaw03.TermSums': WHATEVER THE INPUT: true; the input reads as it did. -/
def termSumsSpec : ChangeSpec := { name := "termSums", fn := fun _ => fun
  | [d1, d2] => { results := [.lit (.bool true)], args := [d1, d2] }
  | _ => none }
def termSumsRow : OpenClaim := { program := "ytlbmlhpjibgepaadoor", sum := "7af74f0cbaeffa9689afc864e85dfd9110c76311d0466a1e9bead8a5a2eab9c5", func := "chancel/chancellaw03.TermSums", spec := "termSums", unfollowed := true, recurses := true, named := ["chancel/term.kids", "chancel/term.ops", "chancel/lex.keys"], loops := true, apart := false, laid := [("chancel/lex.keys", laid_chancel_lex_keys), ("chancel/term.kids", laid_chancel_term_kids), ("chancel/term.ops", laid_chancel_term_ops)] }
def TermSumsSaid : Prop := termSumsRow.holds Tryd.pinned (OpenSpec.ofChange termSumsSpec)

/-- ITS FALSE NEIGHBOUR: 'it returns false'. Refute it at one input. -/
def termSumsWrong : ChangeSpec := { name := "termSums", fn := fun _ => fun
  | [d1, d2] => { results := [.lit (.bool false)], args := [d1, d2] }
  | _ => none }
def TermSumsWrongFalsely : Prop := termSumsRow.holds Tryd.pinned (OpenSpec.ofChange termSumsWrong)

/-- 'chancellaw03.TermBinds': WHATEVER THE INPUT: true; the input reads as it did. -/
def termBindsSpec : ChangeSpec := { name := "termBinds", fn := fun _ => fun
  | [d1, d2, d3] => { results := [.lit (.bool true)], args := [d1, d2, d3] }
  | _ => none }
def termBindsRow : OpenClaim := { program := "ytlbmlhpjibgepaadoor", sum := "7af74f0cbaeffa9689afc864e85dfd9110c76311d0466a1e9bead8a5a2eab9c5", func := "chancel/chancellaw03.TermBinds", spec := "termBinds", unfollowed := true, recurses := true, named := ["chancel/term.kids", "chancel/term.ops", "chancel/lex.keys"], loops := true, apart := false, laid := [("chancel/lex.keys", laid_chancel_lex_keys), ("chancel/term.kids", laid_chancel_term_kids), ("chancel/term.ops", laid_chancel_term_ops)] }
def TermBindsSaid : Prop := termBindsRow.holds Tryd.pinned (OpenSpec.ofChange termBindsSpec)

/-- ITS FALSE NEIGHBOUR: 'it returns false'. Refute it at one input. -/
def termBindsWrong : ChangeSpec := { name := "termBinds", fn := fun _ => fun
  | [d1, d2, d3] => { results := [.lit (.bool false)], args := [d1, d2, d3] }
  | _ => none }
def TermBindsWrongFalsely : Prop := termBindsRow.holds Tryd.pinned (OpenSpec.ofChange termBindsWrong)

/-- 'chancellaw03.TermDeep': WHATEVER THE INPUT: true; the input reads as it did. -/
def termDeepSpec : ChangeSpec := { name := "termDeep", fn := fun _ => fun
  | [d1, d2] => { results := [.lit (.bool true)], args := [d1, d2] }
  | _ => none }
def termDeepRow : OpenClaim := { program := "ytlbmlhpjibgepaadoor", sum := "7af74f0cbaeffa9689afc864e85dfd9110c76311d0466a1e9bead8a5a2eab9c5", func := "chancel/chancellaw03.TermDeep", spec := "termDeep", unfollowed := true, recurses := true, named := ["chancel/term.kids", "chancel/term.ops", "chancel/lex.keys"], apart := false, laid := [("chancel/lex.keys", laid_chancel_lex_keys), ("chancel/term.kids", laid_chancel_term_kids), ("chancel/term.ops", laid_chancel_term_ops)] }
def TermDeepSaid : Prop := termDeepRow.holds Tryd.pinned (OpenSpec.ofChange termDeepSpec)

/-- ITS FALSE NEIGHBOUR: 'it returns false'. Refute it at one input. -/
def termDeepWrong : ChangeSpec := { name := "termDeep", fn := fun _ => fun
  | [d1, d2] => { results := [.lit (.bool false)], args := [d1, d2] }
  | _ => none }
def TermDeepWrongFalsely : Prop := termDeepRow.holds Tryd.pinned (OpenSpec.ofChange termDeepWrong)

/-- 'chancellaw03.TermKinds': WHATEVER THE INPUT: true; the input reads as it did. -/
def termKindsSpec : ChangeSpec := { name := "termKinds", fn := fun _ => fun
  | [d1, d2] => { results := [.lit (.bool true)], args := [d1, d2] }
  | _ => none }
def termKindsRow : OpenClaim := { program := "ytlbmlhpjibgepaadoor", sum := "7af74f0cbaeffa9689afc864e85dfd9110c76311d0466a1e9bead8a5a2eab9c5", func := "chancel/chancellaw03.TermKinds", spec := "termKinds", unfollowed := true, recurses := true, named := ["chancel/term.kids", "chancel/term.ops", "chancel/lex.keys"], apart := false, laid := [("chancel/lex.keys", laid_chancel_lex_keys), ("chancel/term.kids", laid_chancel_term_kids), ("chancel/term.ops", laid_chancel_term_ops)] }
def TermKindsSaid : Prop := termKindsRow.holds Tryd.pinned (OpenSpec.ofChange termKindsSpec)

/-- ITS FALSE NEIGHBOUR: 'it returns false'. Refute it at one input. -/
def termKindsWrong : ChangeSpec := { name := "termKinds", fn := fun _ => fun
  | [d1, d2] => { results := [.lit (.bool false)], args := [d1, d2] }
  | _ => none }
def TermKindsWrongFalsely : Prop := termKindsRow.holds Tryd.pinned (OpenSpec.ofChange termKindsWrong)

/- THE SECOND FORM. 'bulk': how many values and letters a reading holds, each counted each time it is reached (what is shared counts as often as it is met; a slice's spare places count too). A statement '..UptoSaid' is the law's where the arguments, and the package variables that the reading takes, are together of bulk at most 1048576: NARROWER than '..Said'. Prove '..Said' where nothing that the law and all that it calls make is longer than what came in: it says more and counts as full. Else prove '..UptoSaid'. A law counts once. -/
mutual
def uptoBulk {H : Type} : DataW H → Nat
  | .lit (.string bytes) => bytes.length + 1
  | .lit _ => 1
  | .nil => 1
  | .ptr d => uptoBulk d + 1
  | .slice elems spare => uptoBulkAll elems + uptoBulkAll spare + 1
  | .agg parts => uptoBulkAll parts + 1
  | .iface _ d => uptoBulk d + 1
  | .map entries => uptoBulkEntries entries + 1
  | .held _ => 1
def uptoBulkAll {H : Type} : List (DataW H) → Nat
  | [] => 0
  | d :: r => uptoBulk d + uptoBulkAll r
def uptoBulkEntries {H : Type} : List (Lit × DataW H) → Nat
  | [] => 0
  | x :: r => uptoBulkEntry x + uptoBulkEntries r
def uptoBulkEntry {H : Type} : Lit × DataW H → Nat
  | (.string bytes, d) => bytes.length + uptoBulk d + 1
  | (_, d) => uptoBulk d + 1
 end
def uptoSmall : (H : Type) → List (DataW H) → Bool := fun _ ds => decide (uptoBulkAll ds ≤ 1048576)
def OpenSpec.upto (s : _root_.Go.ChangeSpec) : _root_.Go.OpenSpec := { _root_.Go.OpenSpec.ofChange s with cond := some uptoSmall }

/-- 'chancellaw03.TermTells', WHERE WHAT IT READS IS OF BULK AT MOST 1048576: true; the input reads as it did. -/
def termTellsUptoRow : OpenClaim := { program := "ytlbmlhpjibgepaadoor", sum := "7af74f0cbaeffa9689afc864e85dfd9110c76311d0466a1e9bead8a5a2eab9c5", func := "chancel/chancellaw03.TermTells", spec := "termTells", unfollowed := true, recurses := true, named := ["chancel/term.kids", "chancel/term.ops", "chancel/lex.keys"], loops := true, apart := false, laid := [("chancel/lex.keys", laid_chancel_lex_keys), ("chancel/term.kids", laid_chancel_term_kids), ("chancel/term.ops", laid_chancel_term_ops)], narrowed := true }
def TermTellsUptoSaid : Prop := termTellsUptoRow.holds Tryd.pinned (OpenSpec.upto termTellsSpec)

/-- 'chancellaw03.TermSame', WHERE WHAT IT READS IS OF BULK AT MOST 1048576: true; the input reads as it did. -/
def termSameUptoRow : OpenClaim := { program := "ytlbmlhpjibgepaadoor", sum := "7af74f0cbaeffa9689afc864e85dfd9110c76311d0466a1e9bead8a5a2eab9c5", func := "chancel/chancellaw03.TermSame", spec := "termSame", unfollowed := true, recurses := true, named := ["chancel/term.kids", "chancel/term.ops", "chancel/lex.keys"], loops := true, apart := false, laid := [("chancel/lex.keys", laid_chancel_lex_keys), ("chancel/term.kids", laid_chancel_term_kids), ("chancel/term.ops", laid_chancel_term_ops)], narrowed := true }
def TermSameUptoSaid : Prop := termSameUptoRow.holds Tryd.pinned (OpenSpec.upto termSameSpec)

/-- 'chancellaw03.TermSums', WHERE WHAT IT READS IS OF BULK AT MOST 1048576: true; the input reads as it did. -/
def termSumsUptoRow : OpenClaim := { program := "ytlbmlhpjibgepaadoor", sum := "7af74f0cbaeffa9689afc864e85dfd9110c76311d0466a1e9bead8a5a2eab9c5", func := "chancel/chancellaw03.TermSums", spec := "termSums", unfollowed := true, recurses := true, named := ["chancel/term.kids", "chancel/term.ops", "chancel/lex.keys"], loops := true, apart := false, laid := [("chancel/lex.keys", laid_chancel_lex_keys), ("chancel/term.kids", laid_chancel_term_kids), ("chancel/term.ops", laid_chancel_term_ops)], narrowed := true }
def TermSumsUptoSaid : Prop := termSumsUptoRow.holds Tryd.pinned (OpenSpec.upto termSumsSpec)

/-- 'chancellaw03.TermBinds', WHERE WHAT IT READS IS OF BULK AT MOST 1048576: true; the input reads as it did. -/
def termBindsUptoRow : OpenClaim := { program := "ytlbmlhpjibgepaadoor", sum := "7af74f0cbaeffa9689afc864e85dfd9110c76311d0466a1e9bead8a5a2eab9c5", func := "chancel/chancellaw03.TermBinds", spec := "termBinds", unfollowed := true, recurses := true, named := ["chancel/term.kids", "chancel/term.ops", "chancel/lex.keys"], loops := true, apart := false, laid := [("chancel/lex.keys", laid_chancel_lex_keys), ("chancel/term.kids", laid_chancel_term_kids), ("chancel/term.ops", laid_chancel_term_ops)], narrowed := true }
def TermBindsUptoSaid : Prop := termBindsUptoRow.holds Tryd.pinned (OpenSpec.upto termBindsSpec)

/-- 'chancellaw03.TermDeep', WHERE WHAT IT READS IS OF BULK AT MOST 1048576: true; the input reads as it did. -/
def termDeepUptoRow : OpenClaim := { program := "ytlbmlhpjibgepaadoor", sum := "7af74f0cbaeffa9689afc864e85dfd9110c76311d0466a1e9bead8a5a2eab9c5", func := "chancel/chancellaw03.TermDeep", spec := "termDeep", unfollowed := true, recurses := true, named := ["chancel/term.kids", "chancel/term.ops", "chancel/lex.keys"], apart := false, laid := [("chancel/lex.keys", laid_chancel_lex_keys), ("chancel/term.kids", laid_chancel_term_kids), ("chancel/term.ops", laid_chancel_term_ops)], narrowed := true }
def TermDeepUptoSaid : Prop := termDeepUptoRow.holds Tryd.pinned (OpenSpec.upto termDeepSpec)

/-- 'chancellaw03.TermKinds', WHERE WHAT IT READS IS OF BULK AT MOST 1048576: true; the input reads as it did. -/
def termKindsUptoRow : OpenClaim := { program := "ytlbmlhpjibgepaadoor", sum := "7af74f0cbaeffa9689afc864e85dfd9110c76311d0466a1e9bead8a5a2eab9c5", func := "chancel/chancellaw03.TermKinds", spec := "termKinds", unfollowed := true, recurses := true, named := ["chancel/term.kids", "chancel/term.ops", "chancel/lex.keys"], apart := false, laid := [("chancel/lex.keys", laid_chancel_lex_keys), ("chancel/term.kids", laid_chancel_term_kids), ("chancel/term.ops", laid_chancel_term_ops)], narrowed := true }
def TermKindsUptoSaid : Prop := termKindsUptoRow.holds Tryd.pinned (OpenSpec.upto termKindsSpec)

end Rows
end Go.Proofs.YtlbmlhpjibgepaaDoor
