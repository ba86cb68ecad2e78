/-
  DERIVED. GIVEN WITH THE SEED: THE CARDS: each row of YtnjlfbefpoecpaaDoorRows.lean that lists a variable, with what it lists TIED to the program's text (the seventh form; the later family's looks); each row that meets fmt, with fmt's text TOLD by the authors' own Lean function (tested against real Go, not proved from fmt's source: count such statements apart). THE CARD IS WHAT COUNTS. Prove the row's statement (the work); the ties are given (YtnjlfbefpoecpaaDoorTie.lean); close each card by the builder's one call (the guide's Derived/Test/ToyasCard.lean, 'card_holds'). Laid BY PROGRAM, IN A SANDBOX (cutbox-door.mjs). By AI agents, Wed Nov 11 2026. No macro, syntax, notation, axiom, sorry.
-/
import Derived.Test.YtnjlfbefpoecpaaDoorRows
import GoSem.ClaimSeven
namespace Go.Proofs.YtnjlfbefpoecpaaDoor
namespace Rows

/-- THE TIED CARD OF 'chancellaw19.EvalTries'. -/
def evalTriesCard : Claim7 := { stood := { row := evalTriesRow, standIns := [], harness := (true, "46253be6388f2a1d772c2ec0071417b5d20c0f3cc7061348e93d150b7e351176"), looks := false }, kinds := [], alts := [], laidByText := true, laidKinds := [.data], laidTests := true, laidLooks := .later }
def EvalTriesCardSaid : Prop := Claim7.holds Tryd.pinned (.plain (OpenSpec.ofChange evalTriesSpec)) evalTriesCard

/-- THE TIED CARD OF 'chancellaw19.EvalLoops'. -/
def evalLoopsCard : Claim7 := { stood := { row := evalLoopsRow, standIns := [], harness := (true, "46253be6388f2a1d772c2ec0071417b5d20c0f3cc7061348e93d150b7e351176"), looks := false }, kinds := [], alts := [], laidByText := true, laidKinds := [.data], laidTests := true, laidLooks := .later }
def EvalLoopsCardSaid : Prop := Claim7.holds Tryd.pinned (.plain (OpenSpec.ofChange evalLoopsSpec)) evalLoopsCard

/-- THE TIED CARD OF 'chancellaw19.EvalMore'. -/
def evalMoreCard : Claim7 := { stood := { row := evalMoreRow, standIns := [], harness := (true, "46253be6388f2a1d772c2ec0071417b5d20c0f3cc7061348e93d150b7e351176"), looks := false }, kinds := [], alts := [], laidByText := true, laidKinds := [.data], laidTests := true, laidLooks := .later }
def EvalMoreCardSaid : Prop := Claim7.holds Tryd.pinned (.plain (OpenSpec.ofChange evalMoreSpec)) evalMoreCard

/-- THE TIED CARD OF 'chancellaw19.EvalSeqs'. -/
def evalSeqsCard : Claim7 := { stood := { row := evalSeqsRow, standIns := [], harness := (true, "46253be6388f2a1d772c2ec0071417b5d20c0f3cc7061348e93d150b7e351176"), looks := false }, kinds := [], alts := [], laidByText := true, laidKinds := [.data], laidTests := true, laidLooks := .later }
def EvalSeqsCardSaid : Prop := Claim7.holds Tryd.pinned (.plain (OpenSpec.ofChange evalSeqsSpec)) evalSeqsCard

/-- THE TIED CARD OF 'chancellaw19.EvalCalls'. -/
def evalCallsCard : Claim7 := { stood := { row := evalCallsRow, standIns := [], harness := (true, "46253be6388f2a1d772c2ec0071417b5d20c0f3cc7061348e93d150b7e351176"), looks := false }, kinds := [], alts := [], laidByText := true, laidKinds := [.data], laidTests := true, laidLooks := .later }
def EvalCallsCardSaid : Prop := Claim7.holds Tryd.pinned (.plain (OpenSpec.ofChange evalCallsSpec)) evalCallsCard

/-- THE TIED CARD OF 'chancellaw19.EvalTells'. -/
def evalTellsCard : Claim7 := { stood := { row := evalTellsRow, standIns := [], harness := (true, "46253be6388f2a1d772c2ec0071417b5d20c0f3cc7061348e93d150b7e351176"), looks := false }, kinds := [], alts := [], laidByText := true, laidKinds := [.data], laidTests := true, laidLooks := .later }
def EvalTellsCardSaid : Prop := Claim7.holds Tryd.pinned (.plain (OpenSpec.ofChange evalTellsSpec)) evalTellsCard

/-- THE SECOND FORM's CARD OF 'chancellaw19.EvalTries'. -/
def evalTriesUptoCard : Claim7 := { stood := { row := evalTriesUptoRow, standIns := [], harness := (true, "46253be6388f2a1d772c2ec0071417b5d20c0f3cc7061348e93d150b7e351176"), looks := false }, kinds := [], alts := [], laidByText := true, laidKinds := [.data], laidTests := true, laidLooks := .later }
def EvalTriesUptoCardSaid : Prop := Claim7.holds Tryd.pinned (.plain (OpenSpec.upto evalTriesSpec)) evalTriesUptoCard

/-- THE SECOND FORM's CARD OF 'chancellaw19.EvalLoops'. -/
def evalLoopsUptoCard : Claim7 := { stood := { row := evalLoopsUptoRow, standIns := [], harness := (true, "46253be6388f2a1d772c2ec0071417b5d20c0f3cc7061348e93d150b7e351176"), looks := false }, kinds := [], alts := [], laidByText := true, laidKinds := [.data], laidTests := true, laidLooks := .later }
def EvalLoopsUptoCardSaid : Prop := Claim7.holds Tryd.pinned (.plain (OpenSpec.upto evalLoopsSpec)) evalLoopsUptoCard

/-- THE SECOND FORM's CARD OF 'chancellaw19.EvalMore'. -/
def evalMoreUptoCard : Claim7 := { stood := { row := evalMoreUptoRow, standIns := [], harness := (true, "46253be6388f2a1d772c2ec0071417b5d20c0f3cc7061348e93d150b7e351176"), looks := false }, kinds := [], alts := [], laidByText := true, laidKinds := [.data], laidTests := true, laidLooks := .later }
def EvalMoreUptoCardSaid : Prop := Claim7.holds Tryd.pinned (.plain (OpenSpec.upto evalMoreSpec)) evalMoreUptoCard

/-- THE SECOND FORM's CARD OF 'chancellaw19.EvalSeqs'. -/
def evalSeqsUptoCard : Claim7 := { stood := { row := evalSeqsUptoRow, standIns := [], harness := (true, "46253be6388f2a1d772c2ec0071417b5d20c0f3cc7061348e93d150b7e351176"), looks := false }, kinds := [], alts := [], laidByText := true, laidKinds := [.data], laidTests := true, laidLooks := .later }
def EvalSeqsUptoCardSaid : Prop := Claim7.holds Tryd.pinned (.plain (OpenSpec.upto evalSeqsSpec)) evalSeqsUptoCard

/-- THE SECOND FORM's CARD OF 'chancellaw19.EvalCalls'. -/
def evalCallsUptoCard : Claim7 := { stood := { row := evalCallsUptoRow, standIns := [], harness := (true, "46253be6388f2a1d772c2ec0071417b5d20c0f3cc7061348e93d150b7e351176"), looks := false }, kinds := [], alts := [], laidByText := true, laidKinds := [.data], laidTests := true, laidLooks := .later }
def EvalCallsUptoCardSaid : Prop := Claim7.holds Tryd.pinned (.plain (OpenSpec.upto evalCallsSpec)) evalCallsUptoCard

/-- THE SECOND FORM's CARD OF 'chancellaw19.EvalTells'. -/
def evalTellsUptoCard : Claim7 := { stood := { row := evalTellsUptoRow, standIns := [], harness := (true, "46253be6388f2a1d772c2ec0071417b5d20c0f3cc7061348e93d150b7e351176"), looks := false }, kinds := [], alts := [], laidByText := true, laidKinds := [.data], laidTests := true, laidLooks := .later }
def EvalTellsUptoCardSaid : Prop := Claim7.holds Tryd.pinned (.plain (OpenSpec.upto evalTellsSpec)) evalTellsUptoCard
end Rows
end Go.Proofs.YtnjlfbefpoecpaaDoor
