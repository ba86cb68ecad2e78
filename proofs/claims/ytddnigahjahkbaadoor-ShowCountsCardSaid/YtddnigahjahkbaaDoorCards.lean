/-
  DERIVED. GIVEN WITH THE SEED: THE CARDS: each row of YtddnigahjahkbaaDoorRows.lean that lists a variable, with what it lists TIED to the program's text (the seventh form; the later family's looks); each row that meets fmt, with fmt's text TOLD by the authors' own Lean function (tested against real Go, not proved from fmt's source: count such statements apart). THE CARD IS WHAT COUNTS. Prove the row's statement (the work); the ties are given (YtddnigahjahkbaaDoorTie.lean); close each card by the builder's one call (the guide's Derived/Test/ToyasCard.lean, 'card_holds'). Laid BY PROGRAM, IN A SANDBOX (cutbox-door.mjs). By AI agents, Wed Nov 11 2026. No macro, syntax, notation, axiom, sorry.
-/
import Derived.Test.YtddnigahjahkbaaDoorRows
import GoSem.ClaimSeven
namespace Go.Proofs.YtddnigahjahkbaaDoor
namespace Rows

/-- THE TIED CARD OF 'chancellaw04.ShowWithin'. -/
def showWithinCard : Claim7 := { stood := { row := showWithinRow, standIns := [], harness := (true, "db26988d4e4be96e128696c8c882f6777e7d0d18d5b1528ac9682dfc55b71639"), looks := true }, kinds := [], alts := [], laidByText := true, laidKinds := [.data, .data, .data, .sentinel, .sentinel, .widerDeep, .widerDeep, .data, .widerDeep], laidTests := true, laidLooks := .later }
def ShowWithinCardSaid : Prop := Claim7.holds Tryd.pinned (.plain (OpenSpec.ofChange showWithinSpec)) showWithinCard

/-- THE TIED CARD OF 'chancellaw04.ShowCounts'. -/
def showCountsCard : Claim7 := { stood := { row := showCountsRow, standIns := [], harness := (true, "db26988d4e4be96e128696c8c882f6777e7d0d18d5b1528ac9682dfc55b71639"), looks := true }, kinds := [], alts := [], laidByText := true, laidKinds := [.data, .data, .data, .sentinel, .sentinel, .widerDeep, .widerDeep, .data, .widerDeep], laidTests := true, laidLooks := .later }
def ShowCountsCardSaid : Prop := Claim7.holds Tryd.pinned (.plain (OpenSpec.ofChange showCountsSpec)) showCountsCard

/-- THE TIED CARD OF 'chancellaw04.ShowApart'. -/
def showApartCard : Claim7 := { stood := { row := showApartRow, standIns := [], harness := (true, "db26988d4e4be96e128696c8c882f6777e7d0d18d5b1528ac9682dfc55b71639"), looks := true }, kinds := [], alts := [], laidByText := true, laidKinds := [.data, .data, .data, .sentinel, .sentinel, .widerDeep, .widerDeep, .data, .widerDeep], laidTests := true, laidLooks := .later }
def ShowApartCardSaid : Prop := Claim7.holds Tryd.pinned (.plain (OpenSpec.ofChange showApartSpec)) showApartCard

/-- THE SECOND FORM's CARD OF 'chancellaw04.ShowWithin'. -/
def showWithinUptoCard : Claim7 := { stood := { row := showWithinUptoRow, standIns := [], harness := (true, "db26988d4e4be96e128696c8c882f6777e7d0d18d5b1528ac9682dfc55b71639"), looks := true }, kinds := [], alts := [], laidByText := true, laidKinds := [.data, .data, .data, .sentinel, .sentinel, .widerDeep, .widerDeep, .data, .widerDeep], laidTests := true, laidLooks := .later }
def ShowWithinUptoCardSaid : Prop := Claim7.holds Tryd.pinned (.plain (OpenSpec.upto showWithinSpec)) showWithinUptoCard

/-- THE SECOND FORM's CARD OF 'chancellaw04.ShowCounts'. -/
def showCountsUptoCard : Claim7 := { stood := { row := showCountsUptoRow, standIns := [], harness := (true, "db26988d4e4be96e128696c8c882f6777e7d0d18d5b1528ac9682dfc55b71639"), looks := true }, kinds := [], alts := [], laidByText := true, laidKinds := [.data, .data, .data, .sentinel, .sentinel, .widerDeep, .widerDeep, .data, .widerDeep], laidTests := true, laidLooks := .later }
def ShowCountsUptoCardSaid : Prop := Claim7.holds Tryd.pinned (.plain (OpenSpec.upto showCountsSpec)) showCountsUptoCard

/-- THE SECOND FORM's CARD OF 'chancellaw04.ShowApart'. -/
def showApartUptoCard : Claim7 := { stood := { row := showApartUptoRow, standIns := [], harness := (true, "db26988d4e4be96e128696c8c882f6777e7d0d18d5b1528ac9682dfc55b71639"), looks := true }, kinds := [], alts := [], laidByText := true, laidKinds := [.data, .data, .data, .sentinel, .sentinel, .widerDeep, .widerDeep, .data, .widerDeep], laidTests := true, laidLooks := .later }
def ShowApartUptoCardSaid : Prop := Claim7.holds Tryd.pinned (.plain (OpenSpec.upto showApartSpec)) showApartUptoCard
end Rows
end Go.Proofs.YtddnigahjahkbaaDoor
