/-
  DERIVED. GIVEN WITH THE SEED: THE CARDS: each row of YtinedfjknhahmaaDoorRows.lean that lists a variable, with what it lists TIED to the program's text (the seventh form; the later family's looks); each row that meets fmt, with fmt's text TOLD by the authors' own Lean function (tested against real Go, not proved from fmt's source: count such statements apart). THE CARD IS WHAT COUNTS. Prove the row's statement (the work); the ties are given (YtinedfjknhahmaaDoorTie.lean); close each card by the builder's one call (the guide's Derived/Test/ToyasCard.lean, 'card_holds'). Laid BY PROGRAM, IN A SANDBOX (cutbox-door.mjs). By AI agents, Wed Nov 11 2026. No macro, syntax, notation, axiom, sorry.
-/
import Derived.Test.YtinedfjknhahmaaDoorRows
import GoSem.ClaimSeven
namespace Go.Proofs.YtinedfjknhahmaaDoor
namespace Rows

/-- THE TIED CARD OF 'chancellaw18.StoreTells'. -/
def storeTellsCard : Claim7 := { stood := { row := storeTellsRow, standIns := [], harness := (true, "a9be10f1f75761d4ae713b5017edf5dfa8ddaecfd760c059f7e280a0de4df52a"), looks := false }, kinds := [], alts := [], laidByText := true, laidKinds := [.data, .data, .data], laidTests := true, laidLooks := .later }
def StoreTellsCardSaid : Prop := Claim7.holds Tryd.pinned (.plain (OpenSpec.ofChange storeTellsSpec)) storeTellsCard

/-- THE TIED CARD OF 'chancellaw18.StoreWrites'. -/
def storeWritesCard : Claim7 := { stood := { row := storeWritesRow, standIns := [], harness := (true, "a9be10f1f75761d4ae713b5017edf5dfa8ddaecfd760c059f7e280a0de4df52a"), looks := false }, kinds := [], alts := [], laidByText := true, laidKinds := [.data, .data, .data], laidTests := true, laidLooks := .later }
def StoreWritesCardSaid : Prop := Claim7.holds Tryd.pinned (.plain (OpenSpec.ofChange storeWritesSpec)) storeWritesCard

/-- THE TIED CARD OF 'chancellaw18.StoreTwice'. -/
def storeTwiceCard : Claim7 := { stood := { row := storeTwiceRow, standIns := [], harness := (true, "a9be10f1f75761d4ae713b5017edf5dfa8ddaecfd760c059f7e280a0de4df52a"), looks := false }, kinds := [], alts := [], laidByText := true, laidKinds := [.data, .data, .data], laidTests := true, laidLooks := .later }
def StoreTwiceCardSaid : Prop := Claim7.holds Tryd.pinned (.plain (OpenSpec.ofChange storeTwiceSpec)) storeTwiceCard

/-- THE TIED CARD OF 'chancellaw18.StoreLooks'. -/
def storeLooksCard : Claim7 := { stood := { row := storeLooksRow, standIns := [], harness := (true, "a9be10f1f75761d4ae713b5017edf5dfa8ddaecfd760c059f7e280a0de4df52a"), looks := false }, kinds := [], alts := [], laidByText := true, laidKinds := [.data, .data, .data], laidTests := true, laidLooks := .later }
def StoreLooksCardSaid : Prop := Claim7.holds Tryd.pinned (.plain (OpenSpec.ofChange storeLooksSpec)) storeLooksCard

/-- THE TIED CARD OF 'chancellaw18.StoreOps'. -/
def storeOpsCard : Claim7 := { stood := { row := storeOpsRow, standIns := [], harness := (true, "a9be10f1f75761d4ae713b5017edf5dfa8ddaecfd760c059f7e280a0de4df52a"), looks := false }, kinds := [], alts := [], laidByText := true, laidKinds := [.data, .data, .data], laidTests := true, laidLooks := .later }
def StoreOpsCardSaid : Prop := Claim7.holds Tryd.pinned (.plain (OpenSpec.ofChange storeOpsSpec)) storeOpsCard

/-- THE TIED CARD OF 'chancellaw18.StoreSame'. -/
def storeSameCard : Claim7 := { stood := { row := storeSameRow, standIns := [], harness := (true, "a9be10f1f75761d4ae713b5017edf5dfa8ddaecfd760c059f7e280a0de4df52a"), looks := false }, kinds := [], alts := [], laidByText := true, laidKinds := [.data, .data, .data], laidTests := true, laidLooks := .later }
def StoreSameCardSaid : Prop := Claim7.holds Tryd.pinned (.plain (OpenSpec.ofChange storeSameSpec)) storeSameCard

/-- THE SECOND FORM's CARD OF 'chancellaw18.StoreTells'. -/
def storeTellsUptoCard : Claim7 := { stood := { row := storeTellsUptoRow, standIns := [], harness := (true, "a9be10f1f75761d4ae713b5017edf5dfa8ddaecfd760c059f7e280a0de4df52a"), looks := false }, kinds := [], alts := [], laidByText := true, laidKinds := [.data, .data, .data], laidTests := true, laidLooks := .later }
def StoreTellsUptoCardSaid : Prop := Claim7.holds Tryd.pinned (.plain (OpenSpec.upto storeTellsSpec)) storeTellsUptoCard

/-- THE SECOND FORM's CARD OF 'chancellaw18.StoreWrites'. -/
def storeWritesUptoCard : Claim7 := { stood := { row := storeWritesUptoRow, standIns := [], harness := (true, "a9be10f1f75761d4ae713b5017edf5dfa8ddaecfd760c059f7e280a0de4df52a"), looks := false }, kinds := [], alts := [], laidByText := true, laidKinds := [.data, .data, .data], laidTests := true, laidLooks := .later }
def StoreWritesUptoCardSaid : Prop := Claim7.holds Tryd.pinned (.plain (OpenSpec.upto storeWritesSpec)) storeWritesUptoCard

/-- THE SECOND FORM's CARD OF 'chancellaw18.StoreTwice'. -/
def storeTwiceUptoCard : Claim7 := { stood := { row := storeTwiceUptoRow, standIns := [], harness := (true, "a9be10f1f75761d4ae713b5017edf5dfa8ddaecfd760c059f7e280a0de4df52a"), looks := false }, kinds := [], alts := [], laidByText := true, laidKinds := [.data, .data, .data], laidTests := true, laidLooks := .later }
def StoreTwiceUptoCardSaid : Prop := Claim7.holds Tryd.pinned (.plain (OpenSpec.upto storeTwiceSpec)) storeTwiceUptoCard

/-- THE SECOND FORM's CARD OF 'chancellaw18.StoreLooks'. -/
def storeLooksUptoCard : Claim7 := { stood := { row := storeLooksUptoRow, standIns := [], harness := (true, "a9be10f1f75761d4ae713b5017edf5dfa8ddaecfd760c059f7e280a0de4df52a"), looks := false }, kinds := [], alts := [], laidByText := true, laidKinds := [.data, .data, .data], laidTests := true, laidLooks := .later }
def StoreLooksUptoCardSaid : Prop := Claim7.holds Tryd.pinned (.plain (OpenSpec.upto storeLooksSpec)) storeLooksUptoCard

/-- THE SECOND FORM's CARD OF 'chancellaw18.StoreOps'. -/
def storeOpsUptoCard : Claim7 := { stood := { row := storeOpsUptoRow, standIns := [], harness := (true, "a9be10f1f75761d4ae713b5017edf5dfa8ddaecfd760c059f7e280a0de4df52a"), looks := false }, kinds := [], alts := [], laidByText := true, laidKinds := [.data, .data, .data], laidTests := true, laidLooks := .later }
def StoreOpsUptoCardSaid : Prop := Claim7.holds Tryd.pinned (.plain (OpenSpec.upto storeOpsSpec)) storeOpsUptoCard

/-- THE SECOND FORM's CARD OF 'chancellaw18.StoreSame'. -/
def storeSameUptoCard : Claim7 := { stood := { row := storeSameUptoRow, standIns := [], harness := (true, "a9be10f1f75761d4ae713b5017edf5dfa8ddaecfd760c059f7e280a0de4df52a"), looks := false }, kinds := [], alts := [], laidByText := true, laidKinds := [.data, .data, .data], laidTests := true, laidLooks := .later }
def StoreSameUptoCardSaid : Prop := Claim7.holds Tryd.pinned (.plain (OpenSpec.upto storeSameSpec)) storeSameUptoCard
end Rows
end Go.Proofs.YtinedfjknhahmaaDoor
