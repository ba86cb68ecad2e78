/-
  DERIVED. GIVEN WITH THE SEED: THE CARDS: each row of YtpkpbfemglmejaaDoorRows.lean that lists a variable, with what it lists TIED to the program's text (the seventh form; the later family's looks); each row that meets fmt, with fmt's text TOLD by the authors' own Lean function (tested against real Go, not proved from fmt's source: count such statements apart). THE CARD IS WHAT COUNTS. Prove the row's statement (the work); the ties are given (YtpkpbfemglmejaaDoorTie.lean); close each card by the builder's one call (the guide's Derived/Test/ToyasCard.lean, 'card_holds'). Laid BY PROGRAM, IN A SANDBOX (cutbox-door.mjs). By AI agents, Wed Nov 11 2026. No macro, syntax, notation, axiom, sorry.
-/
import Derived.Test.YtpkpbfemglmejaaDoorRows
import GoSem.ClaimSeven
namespace Go.Proofs.YtpkpbfemglmejaaDoor
namespace Rows

/-- THE TIED CARD OF 'chancellaw11.SolveLeast'. -/
def solveLeastCard : Claim7 := { stood := { row := solveLeastRow, standIns := [], harness := (true, "e43ac3b06b118a3ad1cbb301d07a483a72c4a6b8b9feda68a032de34df587e14"), looks := false }, kinds := [], alts := [], laidByText := true, laidKinds := [.data], laidTests := true, laidLooks := .later }
def SolveLeastCardSaid : Prop := Claim7.holds Tryd.pinned (.plain (OpenSpec.ofChange solveLeastSpec)) solveLeastCard

/-- THE TIED CARD OF 'chancellaw11.SolveMore'. -/
def solveMoreCard : Claim7 := { stood := { row := solveMoreRow, standIns := [], harness := (true, "e43ac3b06b118a3ad1cbb301d07a483a72c4a6b8b9feda68a032de34df587e14"), looks := false }, kinds := [], alts := [], laidByText := true, laidKinds := [.data], laidTests := true, laidLooks := .later }
def SolveMoreCardSaid : Prop := Claim7.holds Tryd.pinned (.plain (OpenSpec.ofChange solveMoreSpec)) solveMoreCard

/-- THE TIED CARD OF 'chancellaw11.SolveTop'. -/
def solveTopCard : Claim7 := { stood := { row := solveTopRow, standIns := [], harness := (true, "e43ac3b06b118a3ad1cbb301d07a483a72c4a6b8b9feda68a032de34df587e14"), looks := false }, kinds := [], alts := [], laidByText := true, laidKinds := [.data], laidTests := true, laidLooks := .later }
def SolveTopCardSaid : Prop := Claim7.holds Tryd.pinned (.plain (OpenSpec.ofChange solveTopSpec)) solveTopCard

/-- THE TIED CARD OF 'chancellaw11.SolveOrder'. -/
def solveOrderCard : Claim7 := { stood := { row := solveOrderRow, standIns := [], harness := (true, "e43ac3b06b118a3ad1cbb301d07a483a72c4a6b8b9feda68a032de34df587e14"), looks := false }, kinds := [], alts := [], laidByText := true, laidKinds := [.data], laidTests := true, laidLooks := .later }
def SolveOrderCardSaid : Prop := Claim7.holds Tryd.pinned (.plain (OpenSpec.ofChange solveOrderSpec)) solveOrderCard

/-- THE TIED CARD OF 'chancellaw11.SolveVars'. -/
def solveVarsCard : Claim7 := { stood := { row := solveVarsRow, standIns := [], harness := (true, "e43ac3b06b118a3ad1cbb301d07a483a72c4a6b8b9feda68a032de34df587e14"), looks := false }, kinds := [], alts := [], laidByText := true, laidKinds := [.data], laidTests := true, laidLooks := .later }
def SolveVarsCardSaid : Prop := Claim7.holds Tryd.pinned (.plain (OpenSpec.ofChange solveVarsSpec)) solveVarsCard

/-- THE SECOND FORM's CARD OF 'chancellaw11.SolveLeast'. -/
def solveLeastUptoCard : Claim7 := { stood := { row := solveLeastUptoRow, standIns := [], harness := (true, "e43ac3b06b118a3ad1cbb301d07a483a72c4a6b8b9feda68a032de34df587e14"), looks := false }, kinds := [], alts := [], laidByText := true, laidKinds := [.data], laidTests := true, laidLooks := .later }
def SolveLeastUptoCardSaid : Prop := Claim7.holds Tryd.pinned (.plain (OpenSpec.upto solveLeastSpec)) solveLeastUptoCard

/-- THE SECOND FORM's CARD OF 'chancellaw11.SolveMore'. -/
def solveMoreUptoCard : Claim7 := { stood := { row := solveMoreUptoRow, standIns := [], harness := (true, "e43ac3b06b118a3ad1cbb301d07a483a72c4a6b8b9feda68a032de34df587e14"), looks := false }, kinds := [], alts := [], laidByText := true, laidKinds := [.data], laidTests := true, laidLooks := .later }
def SolveMoreUptoCardSaid : Prop := Claim7.holds Tryd.pinned (.plain (OpenSpec.upto solveMoreSpec)) solveMoreUptoCard

/-- THE SECOND FORM's CARD OF 'chancellaw11.SolveTop'. -/
def solveTopUptoCard : Claim7 := { stood := { row := solveTopUptoRow, standIns := [], harness := (true, "e43ac3b06b118a3ad1cbb301d07a483a72c4a6b8b9feda68a032de34df587e14"), looks := false }, kinds := [], alts := [], laidByText := true, laidKinds := [.data], laidTests := true, laidLooks := .later }
def SolveTopUptoCardSaid : Prop := Claim7.holds Tryd.pinned (.plain (OpenSpec.upto solveTopSpec)) solveTopUptoCard

/-- THE SECOND FORM's CARD OF 'chancellaw11.SolveOrder'. -/
def solveOrderUptoCard : Claim7 := { stood := { row := solveOrderUptoRow, standIns := [], harness := (true, "e43ac3b06b118a3ad1cbb301d07a483a72c4a6b8b9feda68a032de34df587e14"), looks := false }, kinds := [], alts := [], laidByText := true, laidKinds := [.data], laidTests := true, laidLooks := .later }
def SolveOrderUptoCardSaid : Prop := Claim7.holds Tryd.pinned (.plain (OpenSpec.upto solveOrderSpec)) solveOrderUptoCard

/-- THE SECOND FORM's CARD OF 'chancellaw11.SolveVars'. -/
def solveVarsUptoCard : Claim7 := { stood := { row := solveVarsUptoRow, standIns := [], harness := (true, "e43ac3b06b118a3ad1cbb301d07a483a72c4a6b8b9feda68a032de34df587e14"), looks := false }, kinds := [], alts := [], laidByText := true, laidKinds := [.data], laidTests := true, laidLooks := .later }
def SolveVarsUptoCardSaid : Prop := Claim7.holds Tryd.pinned (.plain (OpenSpec.upto solveVarsSpec)) solveVarsUptoCard
end Rows
end Go.Proofs.YtpkpbfemglmejaaDoor
