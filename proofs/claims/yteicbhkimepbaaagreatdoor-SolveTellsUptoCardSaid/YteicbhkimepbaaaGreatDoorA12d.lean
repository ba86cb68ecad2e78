/- The reading of solutions, where what is read is small. -/
import Derived.Test.YteicbhkimepbaaaGreatDoorA12c
import Derived.Test.YteicbhkimepbaaaGreatDoorWC
namespace Go.Proofs.YteicbhkimepbaaaGreatDoor
set_option linter.unusedVariables false
set_option linter.unusedSimpArgs false
set_option maxRecDepth 100000
open Go.RowKit Fw

theorem ce82 : 0 < Tryz.prog.cellsOf 82 := of_decide_eq_true (by kernel_rfl)
def SoOk (x : So) : Prop := (Lit.int .i64 x.v).wf = true ∧ (Lit.int .i64 x.p).wf = true
theorem decB_so (W : World) : ∀ n, DecB Tryz.prog W n 82 So.enc SoOk (fun _ => 1)
  | 0 => DecB.zero
  | n + 1 => DecB.map (decB_struct Tryz.underlying82 (by kernel_rfl) (decFB_cons rfl (by kernel_rfl) (decB_int Tryz.underlying28) (decFB_last rfl (decB_int Tryz.underlying3)))) (fun x => So.mk x.1 x.2) (fun x => rfl) (fun x h => ⟨h.1, h.2⟩) (fun x => by omega)
theorem readsB_sols (W : World) : ReadsArgB Tryz.prog W 27 (fun l : List So => .vec (l.map So.enc) false) (fun l => l.length * Tryz.prog.bytesOf 82 ≤ reachBytes ∧ ∀ y ∈ l, SoOk y) (fun l => (l.map fun _ => 1).sum + 1) := readsB_slice Tryz.underlying27 ce82 fun n => decB_so W n
end Go.Proofs.YteicbhkimepbaaaGreatDoor
