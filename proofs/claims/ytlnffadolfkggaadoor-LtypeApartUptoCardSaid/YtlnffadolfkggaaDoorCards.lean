/-
  DERIVED. GIVEN WITH THE SEED: THE CARDS: each row of YtlnffadolfkggaaDoorRows.lean that lists a variable, with what it lists TIED to the program's text (the seventh form; the later family's looks); each row that meets fmt, with fmt's text TOLD by the authors' own Lean function (tested against real Go, not proved from fmt's source: count such statements apart). THE CARD IS WHAT COUNTS. Prove the row's statement (the work); the ties are given (YtlnffadolfkggaaDoorTie.lean); close each card by the builder's one call (the guide's Derived/Test/ToyasCard.lean, 'card_holds'). Laid BY PROGRAM, IN A SANDBOX (cutbox-door.mjs). By AI agents, Wed Nov 11 2026. No macro, syntax, notation, axiom, sorry.
-/
import Derived.Test.YtlnffadolfkggaaDoorRows
import GoSem.ClaimSeven
namespace Go.Proofs.YtlnffadolfkggaaDoor
namespace Rows

/-- THE TIED CARD OF 'chancellaw13.LtypeSub'. -/
def ltypeSubCard : Claim7 := { stood := { row := ltypeSubRow, standIns := [], harness := (true, "e7539b07f986f7d44928da2bf3c2030660473e59deab6787139861593268a403"), looks := false }, kinds := [], alts := [], laidByText := true, laidKinds := [.data, .data, .data], laidTests := true, laidLooks := .later }
def LtypeSubCardSaid : Prop := Claim7.holds Tryd.pinned (.plain (OpenSpec.ofChange ltypeSubSpec)) ltypeSubCard

/-- THE TIED CARD OF 'chancellaw13.LtypeTurned'. -/
def ltypeTurnedCard : Claim7 := { stood := { row := ltypeTurnedRow, standIns := [], harness := (true, "e7539b07f986f7d44928da2bf3c2030660473e59deab6787139861593268a403"), looks := false }, kinds := [], alts := [], laidByText := true, laidKinds := [.data, .data, .data], laidTests := true, laidLooks := .later }
def LtypeTurnedCardSaid : Prop := Claim7.holds Tryd.pinned (.plain (OpenSpec.ofChange ltypeTurnedSpec)) ltypeTurnedCard

/-- THE TIED CARD OF 'chancellaw13.LtypeTells'. -/
def ltypeTellsCard : Claim7 := { stood := { row := ltypeTellsRow, standIns := [], harness := (true, "e7539b07f986f7d44928da2bf3c2030660473e59deab6787139861593268a403"), looks := false }, kinds := [], alts := [], laidByText := true, laidKinds := [.data, .data, .data], laidTests := true, laidLooks := .later }
def LtypeTellsCardSaid : Prop := Claim7.holds Tryd.pinned (.plain (OpenSpec.ofChange ltypeTellsSpec)) ltypeTellsCard

/-- THE TIED CARD OF 'chancellaw13.LtypeRenames'. -/
def ltypeRenamesCard : Claim7 := { stood := { row := ltypeRenamesRow, standIns := [], harness := (true, "e7539b07f986f7d44928da2bf3c2030660473e59deab6787139861593268a403"), looks := false }, kinds := [], alts := [], laidByText := true, laidKinds := [.data, .data, .data], laidTests := true, laidLooks := .later }
def LtypeRenamesCardSaid : Prop := Claim7.holds Tryd.pinned (.plain (OpenSpec.ofChange ltypeRenamesSpec)) ltypeRenamesCard

/-- THE TIED CARD OF 'chancellaw13.LtypeApart'. -/
def ltypeApartCard : Claim7 := { stood := { row := ltypeApartRow, standIns := [], harness := (true, "e7539b07f986f7d44928da2bf3c2030660473e59deab6787139861593268a403"), looks := false }, kinds := [], alts := [], laidByText := true, laidKinds := [.data, .data, .data], laidTests := true, laidLooks := .later }
def LtypeApartCardSaid : Prop := Claim7.holds Tryd.pinned (.plain (OpenSpec.ofChange ltypeApartSpec)) ltypeApartCard

/-- THE TIED CARD OF 'chancellaw13.LtypeFresh'. -/
def ltypeFreshCard : Claim7 := { stood := { row := ltypeFreshRow, standIns := [], harness := (true, "e7539b07f986f7d44928da2bf3c2030660473e59deab6787139861593268a403"), looks := false }, kinds := [], alts := [], laidByText := true, laidKinds := [.data, .data, .data], laidTests := true, laidLooks := .later }
def LtypeFreshCardSaid : Prop := Claim7.holds Tryd.pinned (.plain (OpenSpec.ofChange ltypeFreshSpec)) ltypeFreshCard

/-- THE SECOND FORM's CARD OF 'chancellaw13.LtypeSub'. -/
def ltypeSubUptoCard : Claim7 := { stood := { row := ltypeSubUptoRow, standIns := [], harness := (true, "e7539b07f986f7d44928da2bf3c2030660473e59deab6787139861593268a403"), looks := false }, kinds := [], alts := [], laidByText := true, laidKinds := [.data, .data, .data], laidTests := true, laidLooks := .later }
def LtypeSubUptoCardSaid : Prop := Claim7.holds Tryd.pinned (.plain (OpenSpec.upto ltypeSubSpec)) ltypeSubUptoCard

/-- THE SECOND FORM's CARD OF 'chancellaw13.LtypeTurned'. -/
def ltypeTurnedUptoCard : Claim7 := { stood := { row := ltypeTurnedUptoRow, standIns := [], harness := (true, "e7539b07f986f7d44928da2bf3c2030660473e59deab6787139861593268a403"), looks := false }, kinds := [], alts := [], laidByText := true, laidKinds := [.data, .data, .data], laidTests := true, laidLooks := .later }
def LtypeTurnedUptoCardSaid : Prop := Claim7.holds Tryd.pinned (.plain (OpenSpec.upto ltypeTurnedSpec)) ltypeTurnedUptoCard

/-- THE SECOND FORM's CARD OF 'chancellaw13.LtypeTells'. -/
def ltypeTellsUptoCard : Claim7 := { stood := { row := ltypeTellsUptoRow, standIns := [], harness := (true, "e7539b07f986f7d44928da2bf3c2030660473e59deab6787139861593268a403"), looks := false }, kinds := [], alts := [], laidByText := true, laidKinds := [.data, .data, .data], laidTests := true, laidLooks := .later }
def LtypeTellsUptoCardSaid : Prop := Claim7.holds Tryd.pinned (.plain (OpenSpec.upto ltypeTellsSpec)) ltypeTellsUptoCard

/-- THE SECOND FORM's CARD OF 'chancellaw13.LtypeRenames'. -/
def ltypeRenamesUptoCard : Claim7 := { stood := { row := ltypeRenamesUptoRow, standIns := [], harness := (true, "e7539b07f986f7d44928da2bf3c2030660473e59deab6787139861593268a403"), looks := false }, kinds := [], alts := [], laidByText := true, laidKinds := [.data, .data, .data], laidTests := true, laidLooks := .later }
def LtypeRenamesUptoCardSaid : Prop := Claim7.holds Tryd.pinned (.plain (OpenSpec.upto ltypeRenamesSpec)) ltypeRenamesUptoCard

/-- THE SECOND FORM's CARD OF 'chancellaw13.LtypeApart'. -/
def ltypeApartUptoCard : Claim7 := { stood := { row := ltypeApartUptoRow, standIns := [], harness := (true, "e7539b07f986f7d44928da2bf3c2030660473e59deab6787139861593268a403"), looks := false }, kinds := [], alts := [], laidByText := true, laidKinds := [.data, .data, .data], laidTests := true, laidLooks := .later }
def LtypeApartUptoCardSaid : Prop := Claim7.holds Tryd.pinned (.plain (OpenSpec.upto ltypeApartSpec)) ltypeApartUptoCard

/-- THE SECOND FORM's CARD OF 'chancellaw13.LtypeFresh'. -/
def ltypeFreshUptoCard : Claim7 := { stood := { row := ltypeFreshUptoRow, standIns := [], harness := (true, "e7539b07f986f7d44928da2bf3c2030660473e59deab6787139861593268a403"), looks := false }, kinds := [], alts := [], laidByText := true, laidKinds := [.data, .data, .data], laidTests := true, laidLooks := .later }
def LtypeFreshUptoCardSaid : Prop := Claim7.holds Tryd.pinned (.plain (OpenSpec.upto ltypeFreshSpec)) ltypeFreshUptoCard
end Rows
end Go.Proofs.YtlnffadolfkggaaDoor
