/-
  DERIVED. GIVEN WITH THE SEED: THE CARDS: each row of YteicbhkimepbaaaGreatDoorRows.lean that lists a variable, with what it lists TIED to the program's text (the seventh form; the later family's looks); each row that meets fmt, with fmt's text TOLD by the authors' own Lean function (tested against real Go, not proved from fmt's source: count such statements apart). THE CARD IS WHAT COUNTS. Prove the row's statement (the work); the ties are given (YteicbhkimepbaaaGreatDoorTie.lean); close each card by the builder's one call (the guide's Derived/Test/ToyasCard.lean, 'card_holds'). Laid BY PROGRAM, IN A SANDBOX (cutbox-door.mjs). By AI agents, Wed Nov 11 2026. No macro, syntax, notation, axiom, sorry.
-/
import Derived.Test.YteicbhkimepbaaaGreatDoorRows
import GoSem.ClaimSeven
namespace Go.Proofs.YteicbhkimepbaaaGreatDoor
namespace Rows

/-- THE TIED CARD OF 'chancellaw11.SolveTells'. -/
def solveTellsCard : Claim7 := { stood := { row := solveTellsRow, standIns := [], harness := (true, "6c809547f5fa4401cdf183ad6788aa984f7a7a8257534317c8ff8746805435f2"), looks := false }, kinds := [], alts := [], laidByText := true, laidKinds := [.data], laidTests := true, laidLooks := .later }
def SolveTellsCardSaid : Prop := Claim7.holds Tryz.pinned (.plain (OpenSpec.ofChange solveTellsSpec)) solveTellsCard

/-- THE TIED CARD OF 'chancellaw12.ClosedTells'. -/
def closedTellsCard : Claim7 := { stood := { row := closedTellsRow, standIns := [], harness := (true, "6c809547f5fa4401cdf183ad6788aa984f7a7a8257534317c8ff8746805435f2"), looks := false }, kinds := [], alts := [], laidByText := true, laidKinds := [.data], laidTests := true, laidLooks := .later }
def ClosedTellsCardSaid : Prop := Claim7.holds Tryz.pinned (.plain (OpenSpec.ofChange closedTellsSpec)) closedTellsCard

/-- THE TIED CARD OF 'chancellaw12.ClosedAgain'. -/
def closedAgainCard : Claim7 := { stood := { row := closedAgainRow, standIns := [], harness := (true, "6c809547f5fa4401cdf183ad6788aa984f7a7a8257534317c8ff8746805435f2"), looks := false }, kinds := [], alts := [], laidByText := true, laidKinds := [.data], laidTests := true, laidLooks := .later }
def ClosedAgainCardSaid : Prop := Claim7.holds Tryz.pinned (.plain (OpenSpec.ofChange closedAgainSpec)) closedAgainCard

/-- THE TIED CARD OF 'chancellaw12.ClosedReach'. -/
def closedReachCard : Claim7 := { stood := { row := closedReachRow, standIns := [], harness := (true, "6c809547f5fa4401cdf183ad6788aa984f7a7a8257534317c8ff8746805435f2"), looks := false }, kinds := [], alts := [], laidByText := true, laidKinds := [.data], laidTests := true, laidLooks := .later }
def ClosedReachCardSaid : Prop := Claim7.holds Tryz.pinned (.plain (OpenSpec.ofChange closedReachSpec)) closedReachCard

/-- THE TIED CARD OF 'chancellaw12.ClosedOrder'. -/
def closedOrderCard : Claim7 := { stood := { row := closedOrderRow, standIns := [], harness := (true, "6c809547f5fa4401cdf183ad6788aa984f7a7a8257534317c8ff8746805435f2"), looks := false }, kinds := [], alts := [], laidByText := true, laidKinds := [.data], laidTests := true, laidLooks := .later }
def ClosedOrderCardSaid : Prop := Claim7.holds Tryz.pinned (.plain (OpenSpec.ofChange closedOrderSpec)) closedOrderCard

/-- THE TIED CARD OF 'chancellaw12.ClosedLeast'. -/
def closedLeastCard : Claim7 := { stood := { row := closedLeastRow, standIns := [], harness := (true, "6c809547f5fa4401cdf183ad6788aa984f7a7a8257534317c8ff8746805435f2"), looks := false }, kinds := [], alts := [], laidByText := true, laidKinds := [.data], laidTests := true, laidLooks := .later }
def ClosedLeastCardSaid : Prop := Claim7.holds Tryz.pinned (.plain (OpenSpec.ofChange closedLeastSpec)) closedLeastCard

/-- THE TIED CARD OF 'chancellaw12.ClosedEntails'. -/
def closedEntailsCard : Claim7 := { stood := { row := closedEntailsRow, standIns := [], harness := (true, "6c809547f5fa4401cdf183ad6788aa984f7a7a8257534317c8ff8746805435f2"), looks := false }, kinds := [], alts := [], laidByText := true, laidKinds := [.data], laidTests := true, laidLooks := .later }
def ClosedEntailsCardSaid : Prop := Claim7.holds Tryz.pinned (.plain (OpenSpec.ofChange closedEntailsSpec)) closedEntailsCard

/-- THE TIED CARD OF 'chancellaw12.ClosedProjects'. -/
def closedProjectsCard : Claim7 := { stood := { row := closedProjectsRow, standIns := [], harness := (true, "6c809547f5fa4401cdf183ad6788aa984f7a7a8257534317c8ff8746805435f2"), looks := false }, kinds := [], alts := [], laidByText := true, laidKinds := [.data], laidTests := true, laidLooks := .later }
def ClosedProjectsCardSaid : Prop := Claim7.holds Tryz.pinned (.plain (OpenSpec.ofChange closedProjectsSpec)) closedProjectsCard

/-- THE SECOND FORM's CARD OF 'chancellaw11.SolveTells'. -/
def solveTellsUptoCard : Claim7 := { stood := { row := solveTellsUptoRow, standIns := [], harness := (true, "6c809547f5fa4401cdf183ad6788aa984f7a7a8257534317c8ff8746805435f2"), looks := false }, kinds := [], alts := [], laidByText := true, laidKinds := [.data], laidTests := true, laidLooks := .later }
def SolveTellsUptoCardSaid : Prop := Claim7.holds Tryz.pinned (.plain (OpenSpec.upto solveTellsSpec)) solveTellsUptoCard

/-- THE SECOND FORM's CARD OF 'chancellaw12.ClosedTells'. -/
def closedTellsUptoCard : Claim7 := { stood := { row := closedTellsUptoRow, standIns := [], harness := (true, "6c809547f5fa4401cdf183ad6788aa984f7a7a8257534317c8ff8746805435f2"), looks := false }, kinds := [], alts := [], laidByText := true, laidKinds := [.data], laidTests := true, laidLooks := .later }
def ClosedTellsUptoCardSaid : Prop := Claim7.holds Tryz.pinned (.plain (OpenSpec.upto closedTellsSpec)) closedTellsUptoCard

/-- THE SECOND FORM's CARD OF 'chancellaw12.ClosedAgain'. -/
def closedAgainUptoCard : Claim7 := { stood := { row := closedAgainUptoRow, standIns := [], harness := (true, "6c809547f5fa4401cdf183ad6788aa984f7a7a8257534317c8ff8746805435f2"), looks := false }, kinds := [], alts := [], laidByText := true, laidKinds := [.data], laidTests := true, laidLooks := .later }
def ClosedAgainUptoCardSaid : Prop := Claim7.holds Tryz.pinned (.plain (OpenSpec.upto closedAgainSpec)) closedAgainUptoCard

/-- THE SECOND FORM's CARD OF 'chancellaw12.ClosedReach'. -/
def closedReachUptoCard : Claim7 := { stood := { row := closedReachUptoRow, standIns := [], harness := (true, "6c809547f5fa4401cdf183ad6788aa984f7a7a8257534317c8ff8746805435f2"), looks := false }, kinds := [], alts := [], laidByText := true, laidKinds := [.data], laidTests := true, laidLooks := .later }
def ClosedReachUptoCardSaid : Prop := Claim7.holds Tryz.pinned (.plain (OpenSpec.upto closedReachSpec)) closedReachUptoCard

/-- THE SECOND FORM's CARD OF 'chancellaw12.ClosedOrder'. -/
def closedOrderUptoCard : Claim7 := { stood := { row := closedOrderUptoRow, standIns := [], harness := (true, "6c809547f5fa4401cdf183ad6788aa984f7a7a8257534317c8ff8746805435f2"), looks := false }, kinds := [], alts := [], laidByText := true, laidKinds := [.data], laidTests := true, laidLooks := .later }
def ClosedOrderUptoCardSaid : Prop := Claim7.holds Tryz.pinned (.plain (OpenSpec.upto closedOrderSpec)) closedOrderUptoCard

/-- THE SECOND FORM's CARD OF 'chancellaw12.ClosedLeast'. -/
def closedLeastUptoCard : Claim7 := { stood := { row := closedLeastUptoRow, standIns := [], harness := (true, "6c809547f5fa4401cdf183ad6788aa984f7a7a8257534317c8ff8746805435f2"), looks := false }, kinds := [], alts := [], laidByText := true, laidKinds := [.data], laidTests := true, laidLooks := .later }
def ClosedLeastUptoCardSaid : Prop := Claim7.holds Tryz.pinned (.plain (OpenSpec.upto closedLeastSpec)) closedLeastUptoCard

/-- THE SECOND FORM's CARD OF 'chancellaw12.ClosedEntails'. -/
def closedEntailsUptoCard : Claim7 := { stood := { row := closedEntailsUptoRow, standIns := [], harness := (true, "6c809547f5fa4401cdf183ad6788aa984f7a7a8257534317c8ff8746805435f2"), looks := false }, kinds := [], alts := [], laidByText := true, laidKinds := [.data], laidTests := true, laidLooks := .later }
def ClosedEntailsUptoCardSaid : Prop := Claim7.holds Tryz.pinned (.plain (OpenSpec.upto closedEntailsSpec)) closedEntailsUptoCard

/-- THE SECOND FORM's CARD OF 'chancellaw12.ClosedProjects'. -/
def closedProjectsUptoCard : Claim7 := { stood := { row := closedProjectsUptoRow, standIns := [], harness := (true, "6c809547f5fa4401cdf183ad6788aa984f7a7a8257534317c8ff8746805435f2"), looks := false }, kinds := [], alts := [], laidByText := true, laidKinds := [.data], laidTests := true, laidLooks := .later }
def ClosedProjectsUptoCardSaid : Prop := Claim7.holds Tryz.pinned (.plain (OpenSpec.upto closedProjectsSpec)) closedProjectsUptoCard
end Rows
end Go.Proofs.YteicbhkimepbaaaGreatDoor
