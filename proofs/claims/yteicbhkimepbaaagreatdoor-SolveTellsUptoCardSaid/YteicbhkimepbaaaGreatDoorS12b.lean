/- The bulk that a row of the second form asks of what is read. -/
import Derived.Test.YteicbhkimepbaaaGreatDoorRows
import Derived.Test.YteicbhkimepbaaaGreatDoorWC
namespace Go.Proofs.YteicbhkimepbaaaGreatDoor
set_option linter.unusedVariables false
set_option linter.unusedSimpArgs false
set_option maxRecDepth 100000
open Go.ChangeShapes Go.WideShapes Go.ChangeAt Go.RowKit Fw

mutual
theorem bulk_eq {H : Type} : ∀ d : DataW H, Rows.uptoBulk d = bulk d
  | .lit (.string _) => rfl
  | .lit (.bool _) => rfl
  | .lit (.int _ _) => rfl
  | .lit (.float _ _) => rfl
  | .lit .nil => rfl
  | .nil => rfl
  | .ptr d => by simp only [Rows.uptoBulk, bulk, bulk_eq d]
  | .slice e r => by simp only [Rows.uptoBulk, bulk, bulkAll_eq e, bulkAll_eq r]
  | .agg p => by simp only [Rows.uptoBulk, bulk, bulkAll_eq p]
  | .iface _ d => by simp only [Rows.uptoBulk, bulk, bulk_eq d]
  | .map es => by simp only [Rows.uptoBulk, bulk, bulkEntries_eq es]
  | .held _ => rfl
theorem bulkAll_eq {H : Type} : ∀ l : List (DataW H), Rows.uptoBulkAll l = bulkAll l
  | [] => rfl
  | d :: r => by simp only [Rows.uptoBulkAll, bulkAll, bulk_eq d, bulkAll_eq r]
theorem bulkEntries_eq {H : Type} : ∀ l : List (Lit × DataW H), Rows.uptoBulkEntries l = bulkEntries l
  | [] => rfl
  | x :: r => by simp only [Rows.uptoBulkEntries, bulkEntries, bulkEntry_eq x, bulkEntries_eq r]
theorem bulkEntry_eq {H : Type} : ∀ x : Lit × DataW H, Rows.uptoBulkEntry x = bulkEntry x
  | (.string _, d) => by simp only [Rows.uptoBulkEntry, bulkEntry, bulk_eq d]
  | (.bool _, d) => by simp only [Rows.uptoBulkEntry, bulkEntry, bulk_eq d]
  | (.int _ _, d) => by simp only [Rows.uptoBulkEntry, bulkEntry, bulk_eq d]
  | (.float _ _, d) => by simp only [Rows.uptoBulkEntry, bulkEntry, bulk_eq d]
  | (.nil, d) => by simp only [Rows.uptoBulkEntry, bulkEntry, bulk_eq d]
end

theorem upto_bulk {H : Type} {s : ChangeSpec} {ds gs : List (DataW H)} (h : ∀ k, (Rows.OpenSpec.upto s).cond = some k → k H (ds ++ gs) = true) : bulkAll ds ≤ 1048576 := by
  have h1 : Rows.uptoSmall H (ds ++ gs) = true := h _ rfl
  have h2 := of_decide_eq_true h1
  rw [bulkAll_eq, bulkAll_append] at h2
  omega

end Go.Proofs.YteicbhkimepbaaaGreatDoor
