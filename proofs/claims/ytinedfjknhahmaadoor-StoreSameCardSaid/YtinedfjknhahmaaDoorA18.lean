/- The reading of the arguments of this chapter's laws. -/
import Derived.Test.YtinedfjknhahmaaDoorD18
import Derived.Test.YtinedfjknhahmaaDoorFwX
namespace Go.Proofs.YtinedfjknhahmaaDoor
set_option linter.unusedVariables false
set_option linter.unusedSimpArgs false
open Go.RowKit Fw

theorem by24 : Tryd.prog.bytesOf 24 = 56 := by kernel_rfl
theorem by75 : Tryd.prog.bytesOf 75 = 128 := by kernel_rfl
theorem by65 : Tryd.prog.bytesOf 65 = 24 := by kernel_rfl
theorem ce24 : 0 < Tryd.prog.cellsOf 24 := of_decide_eq_true (by kernel_rfl)
theorem ce75 : 0 < Tryd.prog.cellsOf 75 := of_decide_eq_true (by kernel_rfl)
theorem ce65 : 0 < Tryd.prog.cellsOf 65 := of_decide_eq_true (by kernel_rfl)

theorem dec_tm (W : World) : ∀ n, DecAt Tryd.prog W n 24 Tm.enc Tm.Ok := by
  intro n
  induction n using Nat.strongRecOn with
  | _ n ih =>
    cases n with
    | zero => exact DecAt.zero
    | succ n =>
      have kids : DecAt Tryd.prog W n 22 (fun xs : List Tm => [.vec (xs.map Tm.enc) false]) (fun xs => xs.length * 56 ≤ reachBytes ∧ ∀ x ∈ xs, x.Ok) := by
        cases n with
        | zero => exact DecAt.zero
        | succ n => exact (dec_slice Tryd.underlying22 ce24 (ih n (by omega))).weaken fun xs h => by rwa [by24] at h
      exact DecAt.map (dec_struct Tryd.underlying24 (by kernel_rfl) (decF_cons rfl (by kernel_rfl) (dec_int Tryd.underlying3) (decF_cons rfl (by kernel_rfl) (dec_str Tryd.underlying9) (decF_cons rfl (by kernel_rfl) (dec_int Tryd.underlying2) (decF_last rfl kids)))))
        (fun x => Tm.mk x.1 x.2.1 x.2.2.1 x.2.2.2) (fun x => by rw [Tm.enc_eq]; rfl) (fun x h => .mk _ h.2.1 h.2.2.2.1 h.2.2.2.2)

def I64 (n : Int) : Prop := -9223372036854775808 ≤ n ∧ n ≤ 9223372036854775807

theorem dec_val (W : World) : ∀ n, DecAt Tryd.prog W n 27 Val.enc (fun v => v.Ok ∧ I64 v.n) ∧ DecAt Tryd.prog W n 75 Bd.enc Bd.Ok := by
  intro n
  induction n using Nat.strongRecOn with
  | _ n ih =>
    cases n with
    | zero => exact ⟨DecAt.zero, DecAt.zero⟩
    | succ n =>
      have env : DecAt Tryd.prog W n 25 (fun xs : List Bd => [.vec (xs.map Bd.enc) false]) (fun xs => xs.length * 128 ≤ reachBytes ∧ ∀ x ∈ xs, x.Ok) := by
        cases n with
        | zero => exact DecAt.zero
        | succ n => exact (dec_slice Tryd.underlying25 ce75 (ih n (by omega)).2).weaken fun xs h => by rwa [by75] at h
      refine ⟨?_, ?_⟩
      · exact DecAt.map (dec_struct Tryd.underlying27 (by kernel_rfl) (decF_cons rfl (by kernel_rfl) (dec_int Tryd.underlying3) (decF_cons rfl (by kernel_rfl) (dec_int Tryd.underlying2) (decF_cons rfl (by kernel_rfl) (dec_str Tryd.underlying9) (decF_cons rfl (by kernel_rfl) (dec_tm W n) (decF_last rfl env))))))
          (fun x => Val.mk x.1 x.2.1 x.2.2.1 x.2.2.2.1 x.2.2.2.2) (fun x => by rw [Val.enc_eq]; rfl) (fun x h => ⟨.mk _ h.2.2.1 h.2.2.2.1 h.2.2.2.2.1 h.2.2.2.2.2, int_wf h.2.1⟩)
      · exact DecAt.map (dec_struct Tryd.underlying75 (by kernel_rfl) (decF_cons rfl (by kernel_rfl) (dec_str Tryd.underlying9) (decF_last rfl (ih n (by omega)).1)))
          (fun x => Bd.mk x.1 x.2) (fun x => by rw [Bd.enc_eq]; rfl) (fun x h => .mk _ h.1 h.2.1)

theorem dec_sl (W : World) : ∀ n, DecAt Tryd.prog W n 65 Sl.enc (fun _ => True) := by
  intro n
  cases n with
  | zero => exact DecAt.zero
  | succ n => exact DecAt.map (dec_struct Tryd.underlying65 (by kernel_rfl) (decF_cons rfl (by kernel_rfl) (dec_str Tryd.underlying9) (decF_last rfl (dec_int Tryd.underlying2)))) (fun x => Sl.mk x.1 x.2) (fun x => rfl) (fun _ _ => trivial)

theorem reads_val (W : World) : ReadsArg Tryd.prog W 27 (fun v : Val => .agg v.enc) (fun v => v.Ok ∧ I64 v.n) := reads_struct Tryd.underlying27 fun n => (dec_val W n).1
theorem reads_bds (W : World) : ReadsArg Tryd.prog W 25 (fun l : List Bd => .vec (l.map Bd.enc) false) (fun l => l.length * Tryd.prog.bytesOf 75 ≤ reachBytes ∧ ∀ x ∈ l, x.Ok) := reads_slice Tryd.underlying25 ce75 fun n => (dec_val W n).2
theorem reads_sls (W : World) : ReadsArg Tryd.prog W 28 (fun l : List Sl => .vec (l.map Sl.enc) false) (fun l => l.length * Tryd.prog.bytesOf 65 ≤ reachBytes ∧ ∀ x ∈ l, True) := reads_slice Tryd.underlying28 ce65 fun n => dec_sl W n

end Go.Proofs.YtinedfjknhahmaaDoor
