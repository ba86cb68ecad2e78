/-
  DERIVED. GIVEN WITH THE SEED: THE CARDS: each row of YtlbmlhpjibgepaaDoorRows.lean that lists a variable, with what it lists TIED to the program's text (the seventh form; the later family's looks); each row that meets fmt, with fmt's text TOLD by the authors' own Lean function (tested against real Go, not proved from fmt's source: count such statements apart). THE CARD IS WHAT COUNTS. Prove the row's statement (the work); the ties are given (YtlbmlhpjibgepaaDoorTie.lean); close each card by the builder's one call (the guide's Derived/Test/ToyasCard.lean, 'card_holds'). Laid BY PROGRAM, IN A SANDBOX (cutbox-door.mjs). By AI agents, Wed Nov 11 2026. No macro, syntax, notation, axiom, sorry.
-/
import Derived.Test.YtlbmlhpjibgepaaDoorRows
import GoSem.ClaimSeven
namespace Go.Proofs.YtlbmlhpjibgepaaDoor
namespace Rows

/-- THE TIED CARD OF 'chancellaw03.TermTells'. -/
def termTellsCard : Claim7 := { stood := { row := termTellsRow, standIns := [], harness := (true, "69ab7b7250a10e5727d6e08425b66a8dd65d495afb7c37098917d173e052c0a0"), looks := false }, kinds := [], alts := [], laidByText := true, laidKinds := [.widerDeep, .data, .widerDeep], laidTests := true, laidLooks := .later }
def TermTellsCardSaid : Prop := Claim7.holds Tryd.pinned (.plain (OpenSpec.ofChange termTellsSpec)) termTellsCard

/-- THE TIED CARD OF 'chancellaw03.TermSame'. -/
def termSameCard : Claim7 := { stood := { row := termSameRow, standIns := [], harness := (true, "69ab7b7250a10e5727d6e08425b66a8dd65d495afb7c37098917d173e052c0a0"), looks := false }, kinds := [], alts := [], laidByText := true, laidKinds := [.widerDeep, .data, .widerDeep], laidTests := true, laidLooks := .later }
def TermSameCardSaid : Prop := Claim7.holds Tryd.pinned (.plain (OpenSpec.ofChange termSameSpec)) termSameCard

/-- THE TIED CARD OF 'chancellaw03.TermSums'. -/
def termSumsCard : Claim7 := { stood := { row := termSumsRow, standIns := [], harness := (true, "69ab7b7250a10e5727d6e08425b66a8dd65d495afb7c37098917d173e052c0a0"), looks := false }, kinds := [], alts := [], laidByText := true, laidKinds := [.widerDeep, .data, .widerDeep], laidTests := true, laidLooks := .later }
def TermSumsCardSaid : Prop := Claim7.holds Tryd.pinned (.plain (OpenSpec.ofChange termSumsSpec)) termSumsCard

/-- THE TIED CARD OF 'chancellaw03.TermBinds'. -/
def termBindsCard : Claim7 := { stood := { row := termBindsRow, standIns := [], harness := (true, "69ab7b7250a10e5727d6e08425b66a8dd65d495afb7c37098917d173e052c0a0"), looks := false }, kinds := [], alts := [], laidByText := true, laidKinds := [.widerDeep, .data, .widerDeep], laidTests := true, laidLooks := .later }
def TermBindsCardSaid : Prop := Claim7.holds Tryd.pinned (.plain (OpenSpec.ofChange termBindsSpec)) termBindsCard

/-- THE TIED CARD OF 'chancellaw03.TermDeep'. -/
def termDeepCard : Claim7 := { stood := { row := termDeepRow, standIns := [], harness := (true, "69ab7b7250a10e5727d6e08425b66a8dd65d495afb7c37098917d173e052c0a0"), looks := false }, kinds := [], alts := [], laidByText := true, laidKinds := [.widerDeep, .data, .widerDeep], laidTests := true, laidLooks := .later }
def TermDeepCardSaid : Prop := Claim7.holds Tryd.pinned (.plain (OpenSpec.ofChange termDeepSpec)) termDeepCard

/-- THE TIED CARD OF 'chancellaw03.TermKinds'. -/
def termKindsCard : Claim7 := { stood := { row := termKindsRow, standIns := [], harness := (true, "69ab7b7250a10e5727d6e08425b66a8dd65d495afb7c37098917d173e052c0a0"), looks := false }, kinds := [], alts := [], laidByText := true, laidKinds := [.widerDeep, .data, .widerDeep], laidTests := true, laidLooks := .later }
def TermKindsCardSaid : Prop := Claim7.holds Tryd.pinned (.plain (OpenSpec.ofChange termKindsSpec)) termKindsCard

/-- THE SECOND FORM's CARD OF 'chancellaw03.TermTells'. -/
def termTellsUptoCard : Claim7 := { stood := { row := termTellsUptoRow, standIns := [], harness := (true, "69ab7b7250a10e5727d6e08425b66a8dd65d495afb7c37098917d173e052c0a0"), looks := false }, kinds := [], alts := [], laidByText := true, laidKinds := [.widerDeep, .data, .widerDeep], laidTests := true, laidLooks := .later }
def TermTellsUptoCardSaid : Prop := Claim7.holds Tryd.pinned (.plain (OpenSpec.upto termTellsSpec)) termTellsUptoCard

/-- THE SECOND FORM's CARD OF 'chancellaw03.TermSame'. -/
def termSameUptoCard : Claim7 := { stood := { row := termSameUptoRow, standIns := [], harness := (true, "69ab7b7250a10e5727d6e08425b66a8dd65d495afb7c37098917d173e052c0a0"), looks := false }, kinds := [], alts := [], laidByText := true, laidKinds := [.widerDeep, .data, .widerDeep], laidTests := true, laidLooks := .later }
def TermSameUptoCardSaid : Prop := Claim7.holds Tryd.pinned (.plain (OpenSpec.upto termSameSpec)) termSameUptoCard

/-- THE SECOND FORM's CARD OF 'chancellaw03.TermSums'. -/
def termSumsUptoCard : Claim7 := { stood := { row := termSumsUptoRow, standIns := [], harness := (true, "69ab7b7250a10e5727d6e08425b66a8dd65d495afb7c37098917d173e052c0a0"), looks := false }, kinds := [], alts := [], laidByText := true, laidKinds := [.widerDeep, .data, .widerDeep], laidTests := true, laidLooks := .later }
def TermSumsUptoCardSaid : Prop := Claim7.holds Tryd.pinned (.plain (OpenSpec.upto termSumsSpec)) termSumsUptoCard

/-- THE SECOND FORM's CARD OF 'chancellaw03.TermBinds'. -/
def termBindsUptoCard : Claim7 := { stood := { row := termBindsUptoRow, standIns := [], harness := (true, "69ab7b7250a10e5727d6e08425b66a8dd65d495afb7c37098917d173e052c0a0"), looks := false }, kinds := [], alts := [], laidByText := true, laidKinds := [.widerDeep, .data, .widerDeep], laidTests := true, laidLooks := .later }
def TermBindsUptoCardSaid : Prop := Claim7.holds Tryd.pinned (.plain (OpenSpec.upto termBindsSpec)) termBindsUptoCard

/-- THE SECOND FORM's CARD OF 'chancellaw03.TermDeep'. -/
def termDeepUptoCard : Claim7 := { stood := { row := termDeepUptoRow, standIns := [], harness := (true, "69ab7b7250a10e5727d6e08425b66a8dd65d495afb7c37098917d173e052c0a0"), looks := false }, kinds := [], alts := [], laidByText := true, laidKinds := [.widerDeep, .data, .widerDeep], laidTests := true, laidLooks := .later }
def TermDeepUptoCardSaid : Prop := Claim7.holds Tryd.pinned (.plain (OpenSpec.upto termDeepSpec)) termDeepUptoCard

/-- THE SECOND FORM's CARD OF 'chancellaw03.TermKinds'. -/
def termKindsUptoCard : Claim7 := { stood := { row := termKindsUptoRow, standIns := [], harness := (true, "69ab7b7250a10e5727d6e08425b66a8dd65d495afb7c37098917d173e052c0a0"), looks := false }, kinds := [], alts := [], laidByText := true, laidKinds := [.widerDeep, .data, .widerDeep], laidTests := true, laidLooks := .later }
def TermKindsUptoCardSaid : Prop := Claim7.holds Tryd.pinned (.plain (OpenSpec.upto termKindsSpec)) termKindsUptoCard
end Rows
end Go.Proofs.YtlbmlhpjibgepaaDoor
