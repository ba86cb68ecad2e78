/- The reading of the arguments of this chapter's laws: terms, bytes, texts. -/
import Derived.Test.YtlbmlhpjibgepaaDoorWC
import Derived.Test.YtlbmlhpjibgepaaDoorWB
namespace Go.Proofs.YtlbmlhpjibgepaaDoor
set_option linter.unusedVariables false
set_option linter.unusedSimpArgs false
set_option maxRecDepth 100000
open Go.RowKit Fw

theorem u8_wf {n : Int} (h : (Lit.int .u8 n).wf = true) : 0 ≤ n ∧ n < 256 := by
  have h2 := int_wf h
  have h3 : IntKind.u8.min = 0 := by decide
  have h4 : IntKind.u8.max = 255 := by decide
  omega
theorem by24 : Tryd.prog.bytesOf 24 = 56 := by kernel_rfl
theorem ce24 : 0 < Tryd.prog.cellsOf 24 := of_decide_eq_true (by kernel_rfl)

theorem decB_tm (W : World) : ∀ n, DecB Tryd.prog W n 24 Tm.enc Tm.Ok Tm.w := by
  intro n
  induction n using Nat.strongRecOn with
  | _ n ih =>
    cases n with
    | zero => exact DecB.zero
    | succ n =>
      have kids : DecB Tryd.prog W n 22 (fun xs : List Tm => [.vec (xs.map Tm.enc) false]) (fun xs => xs.length * 56 ≤ reachBytes ∧ ∀ x ∈ xs, x.Ok) (fun xs => (xs.map Tm.w).sum + 1) := by
        cases n with
        | zero => exact DecB.zero
        | succ n => exact (decB_slice Tryd.underlying22 ce24 (ih n (by omega))).weaken (fun xs h => by rwa [by24] at h) (fun _ => Nat.le_refl _)
      exact DecB.map (decB_struct Tryd.underlying24 (by kernel_rfl) (decFB_cons rfl (by kernel_rfl) (decB_int Tryd.underlying3) (decFB_cons rfl (by kernel_rfl) (decB_str Tryd.underlying9) (decFB_cons rfl (by kernel_rfl) (decB_int Tryd.underlying2) (decFB_last rfl kids)))))
        (fun x => Tm.mk x.1 x.2.1 x.2.2.1 x.2.2.2) (fun x => by rw [Tm.enc_eq]; rfl) (fun x h => .mk _ h.2.2.2.1 h.2.2.2.2) (fun x => by rw [Tm.w_eq]; simp only [Tm.kids]; omega)

theorem readsB_tm (W : World) : ReadsArgB Tryd.prog W 24 (fun t : Tm => .agg t.enc) Tm.Ok Tm.w := readsB_struct Tryd.underlying24 fun n => decB_tm W n

end Go.Proofs.YtlbmlhpjibgepaaDoor
