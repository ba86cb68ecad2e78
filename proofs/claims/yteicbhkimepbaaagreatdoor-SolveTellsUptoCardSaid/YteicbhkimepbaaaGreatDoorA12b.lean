/- The reading of this chapter's arguments, where what is read is small. -/
import Derived.Test.YteicbhkimepbaaaGreatDoorA12
import Derived.Test.YteicbhkimepbaaaGreatDoorWC
namespace Go.Proofs.YteicbhkimepbaaaGreatDoor
set_option linter.unusedVariables false
set_option linter.unusedSimpArgs false
set_option maxRecDepth 100000
open Go.RowKit Fw

theorem decB_pr (W : World) : ∀ n, DecB Tryz.prog W n 70 Pr.enc PrOk (fun _ => 1)
  | 0 => DecB.zero
  | n + 1 => DecB.map (decB_struct Tryz.underlying70 (by kernel_rfl) (decFB_cons rfl (by kernel_rfl) (decB_int Tryz.underlying28) (decFB_last rfl (decB_int Tryz.underlying28)))) (fun x => Pr.mk x.1 x.2) (fun x => rfl) (fun x h => ⟨i64_wf h.1, i64_wf h.2⟩) (fun x => by omega)
theorem readsB_pairs (W : World) : ReadsArgB Tryz.prog W 26 (fun l : List Pr => .vec (l.map Pr.enc) false) (fun l => l.length * Tryz.prog.bytesOf 70 ≤ reachBytes ∧ ∀ y ∈ l, PrOk y) (fun l => (l.map fun _ => 1).sum + 1) := readsB_slice Tryz.underlying26 ce70 fun n => decB_pr W n
theorem ones_sum {X : Type} (l : List X) : (l.map fun _ => 1).sum = l.length := by
  induction l with
  | nil => rfl
  | cons x l ih => simp only [List.map_cons, List.sum_cons, List.length_cons, ih]; omega

end Go.Proofs.YteicbhkimepbaaaGreatDoor
