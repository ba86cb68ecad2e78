/-
  DERIVED. GIVEN WITH THE SEED: THE CARDS: each row of YtdhlghhokbmhdaaDoorRows.lean that lists a variable, with what it lists TIED to the program's text (the seventh form; the later family's looks); each row that meets fmt, with fmt's text TOLD by the authors' own Lean function (tested against real Go, not proved from fmt's source: count such statements apart). THE CARD IS WHAT COUNTS. Prove the row's statement (the work); the ties are given (YtdhlghhokbmhdaaDoorTie.lean); close each card by the builder's one call (the guide's Derived/Test/ToyasCard.lean, 'card_holds'). Laid BY PROGRAM, IN A SANDBOX (cutbox-door.mjs). By AI agents, Wed Nov 11 2026. No macro, syntax, notation, axiom, sorry.
-/
import Derived.Test.YtdhlghhokbmhdaaDoorRows
import GoSem.ClaimSeven
namespace Go.Proofs.YtdhlghhokbmhdaaDoor
namespace Rows

/-- THE TIED CARD OF 'chancellaw01.LatTells'. -/
def latTellsCard : Claim7 := { stood := { row := latTellsRow, standIns := [], harness := (true, "747c5b312a4551495d52ac1e189f0322435fad5a6ba04dbc52a81cb7cfcf6680"), looks := false }, kinds := [], alts := [], laidByText := true, laidKinds := [.data, .data, .pinned], laidTests := true, laidLooks := .later }
def LatTellsCardSaid : Prop := Claim7.holds Tryd.pinned (.plain (OpenSpec.ofChange latTellsSpec)) latTellsCard

/-- THE TIED CARD OF 'chancellaw01.LatOrder'. -/
def latOrderCard : Claim7 := { stood := { row := latOrderRow, standIns := [], harness := (true, "747c5b312a4551495d52ac1e189f0322435fad5a6ba04dbc52a81cb7cfcf6680"), looks := false }, kinds := [], alts := [], laidByText := true, laidKinds := [.data, .data, .pinned], laidTests := true, laidLooks := .later }
def LatOrderCardSaid : Prop := Claim7.holds Tryd.pinned (.plain (OpenSpec.ofChange latOrderSpec)) latOrderCard

/-- THE TIED CARD OF 'chancellaw01.LatJoins'. -/
def latJoinsCard : Claim7 := { stood := { row := latJoinsRow, standIns := [], harness := (true, "747c5b312a4551495d52ac1e189f0322435fad5a6ba04dbc52a81cb7cfcf6680"), looks := false }, kinds := [], alts := [], laidByText := true, laidKinds := [.data, .data, .pinned], laidTests := true, laidLooks := .later }
def LatJoinsCardSaid : Prop := Claim7.holds Tryd.pinned (.plain (OpenSpec.ofChange latJoinsSpec)) latJoinsCard

/-- THE TIED CARD OF 'chancellaw01.LatLaws'. -/
def latLawsCard : Claim7 := { stood := { row := latLawsRow, standIns := [], harness := (true, "747c5b312a4551495d52ac1e189f0322435fad5a6ba04dbc52a81cb7cfcf6680"), looks := false }, kinds := [], alts := [], laidByText := true, laidKinds := [.data, .data, .pinned], laidTests := true, laidLooks := .later }
def LatLawsCardSaid : Prop := Claim7.holds Tryd.pinned (.plain (OpenSpec.ofChange latLawsSpec)) latLawsCard

/-- THE TIED CARD OF 'chancellaw01.LatBack'. -/
def latBackCard : Claim7 := { stood := { row := latBackRow, standIns := [], harness := (true, "747c5b312a4551495d52ac1e189f0322435fad5a6ba04dbc52a81cb7cfcf6680"), looks := false }, kinds := [], alts := [], laidByText := true, laidKinds := [.data, .data, .pinned], laidTests := true, laidLooks := .later }
def LatBackCardSaid : Prop := Claim7.holds Tryd.pinned (.plain (OpenSpec.ofChange latBackSpec)) latBackCard

/-- THE TIED CARD OF 'chancellaw01.LatNames'. -/
def latNamesCard : Claim7 := { stood := { row := latNamesRow, standIns := [], harness := (true, "747c5b312a4551495d52ac1e189f0322435fad5a6ba04dbc52a81cb7cfcf6680"), looks := false }, kinds := [], alts := [], laidByText := true, laidKinds := [.data, .data, .pinned], laidTests := true, laidLooks := .later }
def LatNamesCardSaid : Prop := Claim7.holds Tryd.pinned (.plain (OpenSpec.ofChange latNamesSpec)) latNamesCard

/-- THE TIED CARD OF 'chancellaw01.LatTurned'. -/
def latTurnedCard : Claim7 := { stood := { row := latTurnedRow, standIns := [], harness := (true, "747c5b312a4551495d52ac1e189f0322435fad5a6ba04dbc52a81cb7cfcf6680"), looks := false }, kinds := [], alts := [], laidByText := true, laidKinds := [.data, .data, .pinned], laidTests := true, laidLooks := .later }
def LatTurnedCardSaid : Prop := Claim7.holds Tryd.pinned (.plain (OpenSpec.ofChange latTurnedSpec)) latTurnedCard

/-- THE SECOND FORM's CARD OF 'chancellaw01.LatTells'. -/
def latTellsUptoCard : Claim7 := { stood := { row := latTellsUptoRow, standIns := [], harness := (true, "747c5b312a4551495d52ac1e189f0322435fad5a6ba04dbc52a81cb7cfcf6680"), looks := false }, kinds := [], alts := [], laidByText := true, laidKinds := [.data, .data, .pinned], laidTests := true, laidLooks := .later }
def LatTellsUptoCardSaid : Prop := Claim7.holds Tryd.pinned (.plain (OpenSpec.upto latTellsSpec)) latTellsUptoCard

/-- THE SECOND FORM's CARD OF 'chancellaw01.LatOrder'. -/
def latOrderUptoCard : Claim7 := { stood := { row := latOrderUptoRow, standIns := [], harness := (true, "747c5b312a4551495d52ac1e189f0322435fad5a6ba04dbc52a81cb7cfcf6680"), looks := false }, kinds := [], alts := [], laidByText := true, laidKinds := [.data, .data, .pinned], laidTests := true, laidLooks := .later }
def LatOrderUptoCardSaid : Prop := Claim7.holds Tryd.pinned (.plain (OpenSpec.upto latOrderSpec)) latOrderUptoCard

/-- THE SECOND FORM's CARD OF 'chancellaw01.LatJoins'. -/
def latJoinsUptoCard : Claim7 := { stood := { row := latJoinsUptoRow, standIns := [], harness := (true, "747c5b312a4551495d52ac1e189f0322435fad5a6ba04dbc52a81cb7cfcf6680"), looks := false }, kinds := [], alts := [], laidByText := true, laidKinds := [.data, .data, .pinned], laidTests := true, laidLooks := .later }
def LatJoinsUptoCardSaid : Prop := Claim7.holds Tryd.pinned (.plain (OpenSpec.upto latJoinsSpec)) latJoinsUptoCard

/-- THE SECOND FORM's CARD OF 'chancellaw01.LatLaws'. -/
def latLawsUptoCard : Claim7 := { stood := { row := latLawsUptoRow, standIns := [], harness := (true, "747c5b312a4551495d52ac1e189f0322435fad5a6ba04dbc52a81cb7cfcf6680"), looks := false }, kinds := [], alts := [], laidByText := true, laidKinds := [.data, .data, .pinned], laidTests := true, laidLooks := .later }
def LatLawsUptoCardSaid : Prop := Claim7.holds Tryd.pinned (.plain (OpenSpec.upto latLawsSpec)) latLawsUptoCard

/-- THE SECOND FORM's CARD OF 'chancellaw01.LatBack'. -/
def latBackUptoCard : Claim7 := { stood := { row := latBackUptoRow, standIns := [], harness := (true, "747c5b312a4551495d52ac1e189f0322435fad5a6ba04dbc52a81cb7cfcf6680"), looks := false }, kinds := [], alts := [], laidByText := true, laidKinds := [.data, .data, .pinned], laidTests := true, laidLooks := .later }
def LatBackUptoCardSaid : Prop := Claim7.holds Tryd.pinned (.plain (OpenSpec.upto latBackSpec)) latBackUptoCard

/-- THE SECOND FORM's CARD OF 'chancellaw01.LatNames'. -/
def latNamesUptoCard : Claim7 := { stood := { row := latNamesUptoRow, standIns := [], harness := (true, "747c5b312a4551495d52ac1e189f0322435fad5a6ba04dbc52a81cb7cfcf6680"), looks := false }, kinds := [], alts := [], laidByText := true, laidKinds := [.data, .data, .pinned], laidTests := true, laidLooks := .later }
def LatNamesUptoCardSaid : Prop := Claim7.holds Tryd.pinned (.plain (OpenSpec.upto latNamesSpec)) latNamesUptoCard

/-- THE SECOND FORM's CARD OF 'chancellaw01.LatTurned'. -/
def latTurnedUptoCard : Claim7 := { stood := { row := latTurnedUptoRow, standIns := [], harness := (true, "747c5b312a4551495d52ac1e189f0322435fad5a6ba04dbc52a81cb7cfcf6680"), looks := false }, kinds := [], alts := [], laidByText := true, laidKinds := [.data, .data, .pinned], laidTests := true, laidLooks := .later }
def LatTurnedUptoCardSaid : Prop := Claim7.holds Tryd.pinned (.plain (OpenSpec.upto latTurnedSpec)) latTurnedUptoCard
end Rows
end Go.Proofs.YtdhlghhokbmhdaaDoor
