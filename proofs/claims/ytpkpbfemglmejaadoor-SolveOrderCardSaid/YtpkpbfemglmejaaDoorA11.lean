/- The reading of the arguments of this chapter's laws. -/
import Derived.Test.YtpkpbfemglmejaaDoorWC
import Derived.Test.YtpkpbfemglmejaaDoorWB
namespace Go.Proofs.YtpkpbfemglmejaaDoor
set_option linter.unusedVariables false
set_option linter.unusedSimpArgs false
set_option maxRecDepth 100000
open Go.RowKit Fw

theorem u8_wf {n : Int} (h : (Lit.int .u8 n).wf = true) : 0 ≤ n ∧ n < 256 := by
  have h2 := int_wf h
  have h3 : IntKind.u8.min = 0 := by decide
  have h4 : IntKind.u8.max = 255 := by decide
  omega
theorem i64_wf {n : Int} (h : (Lit.int .i64 n).wf = true) : I64 n := by
  have h2 := int_wf h
  have h3 : IntKind.i64.min = -9223372036854775808 := by decide
  have h4 : IntKind.i64.max = 9223372036854775807 := by decide
  exact ⟨by omega, by omega⟩
/-- A pair's atoms are of a machine word. -/
def PrOk (p : Pr) : Prop := I64 p.a ∧ I64 p.b
theorem ce43 : 0 < Tryd.prog.cellsOf 43 := of_decide_eq_true (by kernel_rfl)
theorem ce5 : 0 < Tryd.prog.cellsOf 5 := of_decide_eq_true (by kernel_rfl)
theorem dec_pr (W : World) : ∀ n, DecAt Tryd.prog W n 43 Pr.enc PrOk
  | 0 => DecAt.zero
  | n + 1 => DecAt.map (dec_struct Tryd.underlying43 (by kernel_rfl) (decF_cons rfl (by kernel_rfl) (dec_int Tryd.underlying35) (decF_last rfl (dec_int Tryd.underlying35)))) (fun x => Pr.mk x.1 x.2) (fun x => rfl) (fun x h => ⟨i64_wf h.1, i64_wf h.2⟩)
theorem reads_pairs (W : World) : ReadsArg Tryd.prog W 22 (fun l : List Pr => .vec (l.map Pr.enc) false) (fun l => l.length * Tryd.prog.bytesOf 43 ≤ reachBytes ∧ ∀ y ∈ l, PrOk y) := reads_slice Tryd.underlying22 ce43 fun n => dec_pr W n
theorem reads_pr (W : World) : ReadsArg Tryd.prog W 43 (fun p : Pr => .agg p.enc) PrOk := reads_struct Tryd.underlying43 fun n => dec_pr W n
theorem reads_bytes (W : World) : ReadsArg Tryd.prog W 23 (fun l : List Int => .vec (l.map fun n => [.int .u8 n]) false) (fun l => l.length * Tryd.prog.bytesOf 5 ≤ reachBytes ∧ ∀ y ∈ l, (Lit.int .u8 y).wf = true) := reads_slice Tryd.underlying23 ce5 fun _ => dec_int Tryd.underlying5

end Go.Proofs.YtpkpbfemglmejaaDoor
