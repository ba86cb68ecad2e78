/- The reading of pairs, atoms, names, where what is read is small. -/
import Derived.Test.YtdacialfjlcboaaGreatDoorA10
import Derived.Test.YtdacialfjlcboaaGreatDoorWB
namespace Go.Proofs.YtdacialfjlcboaaGreatDoor
set_option linter.unusedVariables false
set_option linter.unusedSimpArgs false
set_option maxRecDepth 100000
open Go.RowKit Fw

/-- A pair's atoms are of a machine word. -/
def PrOk (p : Pr) : Prop := I64 p.a ∧ I64 p.b
theorem ce53 : 0 < Tryz.prog.cellsOf 53 := of_decide_eq_true (by kernel_rfl)
theorem ce24 : 0 < Tryz.prog.cellsOf 24 := of_decide_eq_true (by kernel_rfl)
theorem ce9 : 0 < Tryz.prog.cellsOf 9 := of_decide_eq_true (by kernel_rfl)
theorem decB_pr (W : World) : ∀ n, DecB Tryz.prog W n 53 Pr.enc PrOk (fun _ => 1)
  | 0 => DecB.zero
  | n + 1 => DecB.map (decB_struct Tryz.underlying53 (by kernel_rfl) (decFB_cons rfl (by kernel_rfl) (decB_int Tryz.underlying24) (decFB_last rfl (decB_int Tryz.underlying24)))) (fun x => Pr.mk x.1 x.2) (fun x => rfl) (fun x h => ⟨i64_wf h.1, i64_wf h.2⟩) (fun x => by omega)
theorem readsB_pairs (W : World) : ReadsArgB Tryz.prog W 22 (fun l : List Pr => .vec (l.map Pr.enc) false) (fun l => l.length * Tryz.prog.bytesOf 53 ≤ reachBytes ∧ ∀ y ∈ l, PrOk y) (fun l => (l.map fun _ => 1).sum + 1) := readsB_slice Tryz.underlying22 ce53 fun n => decB_pr W n
theorem readsB_atoms (W : World) : ReadsArgB Tryz.prog W 23 (fun l : List Int => .vec (l.map I1) false) (fun l => l.length * Tryz.prog.bytesOf 24 ≤ reachBytes ∧ ∀ y ∈ l, (Lit.int .i64 y).wf = true) (fun l => (l.map fun _ => 1).sum + 1) := readsB_slice Tryz.underlying23 ce24 fun n => decB_int Tryz.underlying24
theorem ones_sum {X : Type} (l : List X) : (l.map fun _ => 1).sum = l.length := by
  induction l with
  | nil => rfl
  | cons x l ih => simp only [List.map_cons, List.sum_cons, List.length_cons, ih]; omega

end Go.Proofs.YtdacialfjlcboaaGreatDoor
