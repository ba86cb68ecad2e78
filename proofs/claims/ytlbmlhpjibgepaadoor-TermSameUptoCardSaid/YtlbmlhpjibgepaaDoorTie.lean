/-
  DERIVED. GIVEN WITH THE SEED: THE PROGRAM's TIES (one call each: nine closed facts by the kernel) AND EACH ROW's TIE, after the 31st guide's Derived/Test/Toyas{Tie, Card}.lean. No idea stands in it: it is a product of the set-up. Laid BY PROGRAM, IN A SANDBOX (cutbox-door.mjs). By AI agents, Wed Nov 11 2026. No macro, syntax, notation, axiom, sorry.
-/
import Derived.Test.YtlbmlhpjibgepaaDoorRows
import Derived.LaidByTextLater
import Derived.SevenTiedAt
import Derived.LaidSub
import Derived.LaidOnce
namespace Go.Proofs.YtlbmlhpjibgepaaDoor
open Go
set_option maxRecDepth 100000
theorem seatTie1 : Tryd.prog.laidByTextLater [("chancel/lex.keys", Rows.laid_chancel_lex_keys), ("chancel/term.kids", Rows.laid_chancel_term_kids), ("chancel/term.ops", Rows.laid_chancel_term_ops)] [.widerDeep, .data, .widerDeep] true :=
  Program.laidByTextLater_by_one 24 8 15 (by kernel_rfl) (by kernel_rfl) (by kernel_rfl) (by kernel_rfl) (by kernel_rfl) (by kernel_rfl) (fun _ _ => by kernel_rfl)
theorem noOwnUnsafe : Tryd.pinned.checked.prog.headLifts.contains "ownunsafe" = false := by kernel_rfl
theorem tie : Tryd.prog.laidByTextLater [("chancel/lex.keys", Rows.laid_chancel_lex_keys), ("chancel/term.kids", Rows.laid_chancel_term_kids), ("chancel/term.ops", Rows.laid_chancel_term_ops)] [.widerDeep, .data, .widerDeep] true :=
  Program.laidByTextLater.sub seatTie1 ["chancel/lex.keys", "chancel/term.kids", "chancel/term.ops"] (by kernel_rfl) (by kernel_rfl)
theorem termTells_row_tie : Rows.termTellsRow.laidByTextAt .later Tryd.pinned [.widerDeep, .data, .widerDeep] true :=
  OpenClaim.laidByTextAt_later rfl rfl tie noOwnUnsafe
theorem termSame_row_tie : Rows.termSameRow.laidByTextAt .later Tryd.pinned [.widerDeep, .data, .widerDeep] true :=
  OpenClaim.laidByTextAt_later rfl rfl tie noOwnUnsafe
theorem termSums_row_tie : Rows.termSumsRow.laidByTextAt .later Tryd.pinned [.widerDeep, .data, .widerDeep] true :=
  OpenClaim.laidByTextAt_later rfl rfl tie noOwnUnsafe
theorem termBinds_row_tie : Rows.termBindsRow.laidByTextAt .later Tryd.pinned [.widerDeep, .data, .widerDeep] true :=
  OpenClaim.laidByTextAt_later rfl rfl tie noOwnUnsafe
theorem termDeep_row_tie : Rows.termDeepRow.laidByTextAt .later Tryd.pinned [.widerDeep, .data, .widerDeep] true :=
  OpenClaim.laidByTextAt_later rfl rfl tie noOwnUnsafe
theorem termKinds_row_tie : Rows.termKindsRow.laidByTextAt .later Tryd.pinned [.widerDeep, .data, .widerDeep] true :=
  OpenClaim.laidByTextAt_later rfl rfl tie noOwnUnsafe
theorem termTellsUpto_row_tie : Rows.termTellsUptoRow.laidByTextAt .later Tryd.pinned [.widerDeep, .data, .widerDeep] true :=
  OpenClaim.laidByTextAt_later rfl rfl tie noOwnUnsafe
theorem termSameUpto_row_tie : Rows.termSameUptoRow.laidByTextAt .later Tryd.pinned [.widerDeep, .data, .widerDeep] true :=
  OpenClaim.laidByTextAt_later rfl rfl tie noOwnUnsafe
theorem termSumsUpto_row_tie : Rows.termSumsUptoRow.laidByTextAt .later Tryd.pinned [.widerDeep, .data, .widerDeep] true :=
  OpenClaim.laidByTextAt_later rfl rfl tie noOwnUnsafe
theorem termBindsUpto_row_tie : Rows.termBindsUptoRow.laidByTextAt .later Tryd.pinned [.widerDeep, .data, .widerDeep] true :=
  OpenClaim.laidByTextAt_later rfl rfl tie noOwnUnsafe
theorem termDeepUpto_row_tie : Rows.termDeepUptoRow.laidByTextAt .later Tryd.pinned [.widerDeep, .data, .widerDeep] true :=
  OpenClaim.laidByTextAt_later rfl rfl tie noOwnUnsafe
theorem termKindsUpto_row_tie : Rows.termKindsUptoRow.laidByTextAt .later Tryd.pinned [.widerDeep, .data, .widerDeep] true :=
  OpenClaim.laidByTextAt_later rfl rfl tie noOwnUnsafe
end Go.Proofs.YtlbmlhpjibgepaaDoor
