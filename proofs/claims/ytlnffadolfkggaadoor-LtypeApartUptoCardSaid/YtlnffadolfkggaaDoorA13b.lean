/- The reading of types, shapes, atoms, where what is read is small. -/
import Derived.Test.YtlnffadolfkggaaDoorA13
import Derived.Test.YtlnffadolfkggaaDoorWB
import Derived.Test.YtlnffadolfkggaaDoorWD
namespace Go.Proofs.YtlnffadolfkggaaDoor
set_option linter.unusedVariables false
set_option linter.unusedSimpArgs false
set_option maxRecDepth 100000
open Go.RowKit Fw

theorem by31 : Tryd.prog.bytesOf 31 = 64 := by kernel_rfl
theorem by26 : Tryd.prog.bytesOf 26 = 40 := by kernel_rfl
theorem by28 : Tryd.prog.bytesOf 28 = 8 := by kernel_rfl
theorem ce31 : 0 < Tryd.prog.cellsOf 31 := of_decide_eq_true (by kernel_rfl)
theorem ce26 : 0 < Tryd.prog.cellsOf 26 := of_decide_eq_true (by kernel_rfl)
theorem ce28 : 0 < Tryd.prog.cellsOf 28 := of_decide_eq_true (by kernel_rfl)

theorem decB_sh (W : World) : ∀ n, DecB Tryd.prog W n 26 Sh.enc Sh.Ok Sh.w := by
  intro n
  induction n using Nat.strongRecOn with
  | _ n ih =>
    cases n with
    | zero => exact DecB.zero
    | succ n =>
      have kids : DecB Tryd.prog W n 24 (fun xs : List Sh => [.vec (xs.map Sh.enc) false]) (fun xs => xs.length * 40 ≤ reachBytes ∧ ∀ x ∈ xs, x.Ok) (fun xs => (xs.map Sh.w).sum + 1) := by
        cases n with
        | zero => exact DecB.zero
        | succ n => exact (decB_slice Tryd.underlying24 ce26 (ih n (by omega))).weaken (fun xs h => by rwa [by26] at h) (fun _ => Nat.le_refl _)
      exact DecB.map (decB_struct Tryd.underlying26 (by kernel_rfl) (decFB_cons rfl (by kernel_rfl) (decB_int Tryd.underlying3) (decFB_cons rfl (by kernel_rfl) (decB_int Tryd.underlying3) (decFB_last rfl kids))))
        (fun x => Sh.mk x.1 x.2.1 x.2.2) (fun x => by rw [Sh.enc_eq]; rfl) (fun x h => .mk _ h.2.2.1 h.2.2.2) (fun x => by rw [Sh.w_eq]; simp only [Sh.kids]; omega)

theorem decB_ty (W : World) : ∀ n, DecB Tryd.prog W n 31 Ty.enc (fun t => t.Ok ∧ t.In) Ty.w := by
  intro n
  induction n using Nat.strongRecOn with
  | _ n ih =>
    cases n with
    | zero => exact DecB.zero
    | succ n =>
      have kids : DecB Tryd.prog W n 29 (fun xs : List Ty => [.vec (xs.map Ty.enc) false]) (fun xs => xs.length * 64 ≤ reachBytes ∧ ∀ x ∈ xs, x.Ok ∧ x.In) (fun xs => (xs.map Ty.w).sum + 1) := by
        cases n with
        | zero => exact DecB.zero
        | succ n => exact (decB_slice Tryd.underlying29 ce31 (ih n (by omega))).weaken (fun xs h => by rwa [by31] at h) (fun _ => Nat.le_refl _)
      exact DecB.map (decB_struct Tryd.underlying31 (by kernel_rfl) (decFB_cons rfl (by kernel_rfl) (decB_int Tryd.underlying3) (decFB_cons rfl (by kernel_rfl) (decB_int Tryd.underlying28) (decFB_cons rfl (by kernel_rfl) (decB_int Tryd.underlying28) (decFB_cons rfl (by kernel_rfl) (decB_int Tryd.underlying28) (decFB_cons rfl (by kernel_rfl) (decB_int Tryd.underlying28) (decFB_last rfl kids)))))))
        (fun x => Ty.mk x.1 x.2.1 x.2.2.1 x.2.2.2.1 x.2.2.2.2.1 x.2.2.2.2.2) (fun x => by rw [Ty.enc_eq]; rfl)
        (fun x h => ⟨.mk _ h.2.2.2.2.2.1 fun k hk => (h.2.2.2.2.2.2 k hk).1, .mk _ (int_wf h.2.1) (int_wf h.2.2.1) (int_wf h.2.2.2.1) (int_wf h.2.2.2.2.1) fun k hk => (h.2.2.2.2.2.2 k hk).2⟩) (fun x => by rw [Ty.w_eq]; simp only [Ty.kids]; omega)

theorem readsB_ty (W : World) : ReadsArgB Tryd.prog W 31 (fun t : Ty => .agg t.enc) (fun t => t.Ok ∧ t.In) Ty.w := readsB_struct Tryd.underlying31 fun n => decB_ty W n
theorem readsB_sh (W : World) : ReadsArgB Tryd.prog W 26 (fun t : Sh => .agg t.enc) Sh.Ok Sh.w := readsB_struct Tryd.underlying26 fun n => decB_sh W n
theorem readsB_atoms (W : World) : ReadsArgB Tryd.prog W 42 (fun l : List Int => .vec (l.map I1) false) (fun l => l.length * Tryd.prog.bytesOf 28 ≤ reachBytes ∧ ∀ y ∈ l, (Lit.int .i64 y).wf = true) (fun l => (l.map fun _ => 1).sum + 1) := readsB_slice Tryd.underlying42 ce28 fun n => decB_int Tryd.underlying28
theorem ones_sum (l : List Int) : (l.map fun _ => 1).sum = l.length := by
  induction l with
  | nil => rfl
  | cons x l ih => simp only [List.map_cons, List.sum_cons, List.length_cons, ih]; omega

end Go.Proofs.YtlnffadolfkggaaDoor
