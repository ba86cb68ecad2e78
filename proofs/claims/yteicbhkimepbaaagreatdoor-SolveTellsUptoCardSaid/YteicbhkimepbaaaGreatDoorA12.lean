/- The reading of the arguments of this chapter's laws. -/
import Derived.Test.YteicbhkimepbaaaGreatDoorWC
import Derived.Test.YteicbhkimepbaaaGreatDoorWB
namespace Go.Proofs.YteicbhkimepbaaaGreatDoor
set_option linter.unusedVariables false
set_option linter.unusedSimpArgs false
set_option maxRecDepth 100000
open Go.RowKit Fw

theorem u8_wf {n : Int} (h : (Lit.int .u8 n).wf = true) : 0 ≤ n ∧ n < 256 := by
  have h2 := int_wf h
  have h3 : IntKind.u8.min = 0 := by decide
  have h4 : IntKind.u8.max = 255 := by decide
  omega
theorem i64_wf {n : Int} (h : (Lit.int .i64 n).wf = true) : I64 n := by
  have h2 := int_wf h
  have h3 : IntKind.i64.min = -9223372036854775808 := by decide
  have h4 : IntKind.i64.max = 9223372036854775807 := by decide
  exact ⟨by omega, by omega⟩
/-- A pair's atoms are of a machine word. -/
def PrOk (p : Pr) : Prop := I64 p.a ∧ I64 p.b
theorem ce70 : 0 < Tryz.prog.cellsOf 70 := of_decide_eq_true (by kernel_rfl)
theorem ce5 : 0 < Tryz.prog.cellsOf 5 := of_decide_eq_true (by kernel_rfl)
theorem dec_pr (W : World) : ∀ n, DecAt Tryz.prog W n 70 Pr.enc PrOk
  | 0 => DecAt.zero
  | n + 1 => DecAt.map (dec_struct Tryz.underlying70 (by kernel_rfl) (decF_cons rfl (by kernel_rfl) (dec_int Tryz.underlying28) (decF_last rfl (dec_int Tryz.underlying28)))) (fun x => Pr.mk x.1 x.2) (fun x => rfl) (fun x h => ⟨i64_wf h.1, i64_wf h.2⟩)
theorem reads_pairs (W : World) : ReadsArg Tryz.prog W 26 (fun l : List Pr => .vec (l.map Pr.enc) false) (fun l => l.length * Tryz.prog.bytesOf 70 ≤ reachBytes ∧ ∀ y ∈ l, PrOk y) := reads_slice Tryz.underlying26 ce70 fun n => dec_pr W n
theorem reads_pr (W : World) : ReadsArg Tryz.prog W 70 (fun p : Pr => .agg p.enc) PrOk := reads_struct Tryz.underlying70 fun n => dec_pr W n
theorem reads_bytes (W : World) : ReadsArg Tryz.prog W 76 (fun l : List Int => .vec (l.map fun n => [.int .u8 n]) false) (fun l => l.length * Tryz.prog.bytesOf 5 ≤ reachBytes ∧ ∀ y ∈ l, (Lit.int .u8 y).wf = true) := reads_slice Tryz.underlying76 ce5 fun _ => dec_int Tryz.underlying5

end Go.Proofs.YteicbhkimepbaaaGreatDoor
