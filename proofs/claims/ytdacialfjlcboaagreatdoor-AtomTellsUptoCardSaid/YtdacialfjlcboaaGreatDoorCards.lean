/-
  DERIVED. GIVEN WITH THE SEED: THE CARDS: each row of YtdacialfjlcboaaGreatDoorRows.lean that lists a variable, with what it lists TIED to the program's text (the seventh form; the later family's looks); each row that meets fmt, with fmt's text TOLD by the authors' own Lean function (tested against real Go, not proved from fmt's source: count such statements apart). THE CARD IS WHAT COUNTS. Prove the row's statement (the work); the ties are given (YtdacialfjlcboaaGreatDoorTie.lean); close each card by the builder's one call (the guide's Derived/Test/ToyasCard.lean, 'card_holds'). Laid BY PROGRAM, IN A SANDBOX (cutbox-door.mjs). By AI agents, Wed Nov 11 2026. No macro, syntax, notation, axiom, sorry.
-/
import Derived.Test.YtdacialfjlcboaaGreatDoorRows
import GoSem.ClaimSeven
namespace Go.Proofs.YtdacialfjlcboaaGreatDoor
namespace Rows

/-- THE TIED CARD OF 'chancellaw10.AtomTells'. -/
def atomTellsCard : Claim7 := { stood := { row := atomTellsRow, standIns := [], harness := (true, "6ecfe448e3adb31d42255fa1ff09729617482082c2e0e29b9ed2ae3f9fcf6655"), looks := false }, kinds := [], alts := [], laidByText := true, laidKinds := [.data, .data, .data], laidTests := true, laidLooks := .later }
def AtomTellsCardSaid : Prop := Claim7.holds Tryz.pinned (.plain (OpenSpec.ofChange atomTellsSpec)) atomTellsCard

/-- THE TIED CARD OF 'chancellaw10.AtomPoints'. -/
def atomPointsCard : Claim7 := { stood := { row := atomPointsRow, standIns := [], harness := (true, "6ecfe448e3adb31d42255fa1ff09729617482082c2e0e29b9ed2ae3f9fcf6655"), looks := false }, kinds := [], alts := [], laidByText := true, laidKinds := [.data, .data, .data], laidTests := true, laidLooks := .later }
def AtomPointsCardSaid : Prop := Claim7.holds Tryz.pinned (.plain (OpenSpec.ofChange atomPointsSpec)) atomPointsCard

/-- THE TIED CARD OF 'chancellaw10.AtomNorm'. -/
def atomNormCard : Claim7 := { stood := { row := atomNormRow, standIns := [], harness := (true, "6ecfe448e3adb31d42255fa1ff09729617482082c2e0e29b9ed2ae3f9fcf6655"), looks := false }, kinds := [], alts := [], laidByText := true, laidKinds := [.data, .data, .data], laidTests := true, laidLooks := .later }
def AtomNormCardSaid : Prop := Claim7.holds Tryz.pinned (.plain (OpenSpec.ofChange atomNormSpec)) atomNormCard

/-- THE TIED CARD OF 'chancellaw10.AtomVars'. -/
def atomVarsCard : Claim7 := { stood := { row := atomVarsRow, standIns := [], harness := (true, "6ecfe448e3adb31d42255fa1ff09729617482082c2e0e29b9ed2ae3f9fcf6655"), looks := false }, kinds := [], alts := [], laidByText := true, laidKinds := [.data, .data, .data], laidTests := true, laidLooks := .later }
def AtomVarsCardSaid : Prop := Claim7.holds Tryz.pinned (.plain (OpenSpec.ofChange atomVarsSpec)) atomVarsCard

/-- THE TIED CARD OF 'chancellaw10.AtomShift'. -/
def atomShiftCard : Claim7 := { stood := { row := atomShiftRow, standIns := [], harness := (true, "6ecfe448e3adb31d42255fa1ff09729617482082c2e0e29b9ed2ae3f9fcf6655"), looks := false }, kinds := [], alts := [], laidByText := true, laidKinds := [.data, .data, .data], laidTests := true, laidLooks := .later }
def AtomShiftCardSaid : Prop := Claim7.holds Tryz.pinned (.plain (OpenSpec.ofChange atomShiftSpec)) atomShiftCard

/-- THE TIED CARD OF 'chancellaw10.AtomRenames'. -/
def atomRenamesCard : Claim7 := { stood := { row := atomRenamesRow, standIns := [], harness := (true, "6ecfe448e3adb31d42255fa1ff09729617482082c2e0e29b9ed2ae3f9fcf6655"), looks := false }, kinds := [], alts := [], laidByText := true, laidKinds := [.data, .data, .data], laidTests := true, laidLooks := .later }
def AtomRenamesCardSaid : Prop := Claim7.holds Tryz.pinned (.plain (OpenSpec.ofChange atomRenamesSpec)) atomRenamesCard

/-- THE SECOND FORM's CARD OF 'chancellaw10.AtomTells'. -/
def atomTellsUptoCard : Claim7 := { stood := { row := atomTellsUptoRow, standIns := [], harness := (true, "6ecfe448e3adb31d42255fa1ff09729617482082c2e0e29b9ed2ae3f9fcf6655"), looks := false }, kinds := [], alts := [], laidByText := true, laidKinds := [.data, .data, .data], laidTests := true, laidLooks := .later }
def AtomTellsUptoCardSaid : Prop := Claim7.holds Tryz.pinned (.plain (OpenSpec.upto atomTellsSpec)) atomTellsUptoCard

/-- THE SECOND FORM's CARD OF 'chancellaw10.AtomPoints'. -/
def atomPointsUptoCard : Claim7 := { stood := { row := atomPointsUptoRow, standIns := [], harness := (true, "6ecfe448e3adb31d42255fa1ff09729617482082c2e0e29b9ed2ae3f9fcf6655"), looks := false }, kinds := [], alts := [], laidByText := true, laidKinds := [.data, .data, .data], laidTests := true, laidLooks := .later }
def AtomPointsUptoCardSaid : Prop := Claim7.holds Tryz.pinned (.plain (OpenSpec.upto atomPointsSpec)) atomPointsUptoCard

/-- THE SECOND FORM's CARD OF 'chancellaw10.AtomNorm'. -/
def atomNormUptoCard : Claim7 := { stood := { row := atomNormUptoRow, standIns := [], harness := (true, "6ecfe448e3adb31d42255fa1ff09729617482082c2e0e29b9ed2ae3f9fcf6655"), looks := false }, kinds := [], alts := [], laidByText := true, laidKinds := [.data, .data, .data], laidTests := true, laidLooks := .later }
def AtomNormUptoCardSaid : Prop := Claim7.holds Tryz.pinned (.plain (OpenSpec.upto atomNormSpec)) atomNormUptoCard

/-- THE SECOND FORM's CARD OF 'chancellaw10.AtomVars'. -/
def atomVarsUptoCard : Claim7 := { stood := { row := atomVarsUptoRow, standIns := [], harness := (true, "6ecfe448e3adb31d42255fa1ff09729617482082c2e0e29b9ed2ae3f9fcf6655"), looks := false }, kinds := [], alts := [], laidByText := true, laidKinds := [.data, .data, .data], laidTests := true, laidLooks := .later }
def AtomVarsUptoCardSaid : Prop := Claim7.holds Tryz.pinned (.plain (OpenSpec.upto atomVarsSpec)) atomVarsUptoCard

/-- THE SECOND FORM's CARD OF 'chancellaw10.AtomShift'. -/
def atomShiftUptoCard : Claim7 := { stood := { row := atomShiftUptoRow, standIns := [], harness := (true, "6ecfe448e3adb31d42255fa1ff09729617482082c2e0e29b9ed2ae3f9fcf6655"), looks := false }, kinds := [], alts := [], laidByText := true, laidKinds := [.data, .data, .data], laidTests := true, laidLooks := .later }
def AtomShiftUptoCardSaid : Prop := Claim7.holds Tryz.pinned (.plain (OpenSpec.upto atomShiftSpec)) atomShiftUptoCard

/-- THE SECOND FORM's CARD OF 'chancellaw10.AtomRenames'. -/
def atomRenamesUptoCard : Claim7 := { stood := { row := atomRenamesUptoRow, standIns := [], harness := (true, "6ecfe448e3adb31d42255fa1ff09729617482082c2e0e29b9ed2ae3f9fcf6655"), looks := false }, kinds := [], alts := [], laidByText := true, laidKinds := [.data, .data, .data], laidTests := true, laidLooks := .later }
def AtomRenamesUptoCardSaid : Prop := Claim7.holds Tryz.pinned (.plain (OpenSpec.upto atomRenamesSpec)) atomRenamesUptoCard
end Rows
end Go.Proofs.YtdacialfjlcboaaGreatDoor
