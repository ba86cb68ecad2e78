/- The reading of the arguments of this chapter's laws by bytes. -/
import Derived.Test.YtlnffadolfkggaaDoorWC
import Derived.Test.YtlnffadolfkggaaDoorWB
namespace Go.Proofs.YtlnffadolfkggaaDoor
set_option linter.unusedVariables false
set_option linter.unusedSimpArgs false
set_option maxRecDepth 100000
open Go.RowKit Fw

theorem u8_wf {n : Int} (h : (Lit.int .u8 n).wf = true) : 0 ≤ n ∧ n < 256 := by
  have h2 := int_wf h
  have h3 : IntKind.u8.min = 0 := by decide
  have h4 : IntKind.u8.max = 255 := by decide
  omega
theorem u16_wf {n : Int} (h : (Lit.int .u16 n).wf = true) : 0 ≤ n ∧ n < 65536 := by
  have h2 := int_wf h
  have h3 : IntKind.u16.min = 0 := by decide
  have h4 : IntKind.u16.max = 65535 := by decide
  omega
theorem ce5 : 0 < Tryd.prog.cellsOf 5 := of_decide_eq_true (by kernel_rfl)
theorem reads_u8s (W : World) : ReadsArg Tryd.prog W 22 (fun l : List Int => .vec (l.map fun n => [.int .u8 n]) false) (fun l => l.length * Tryd.prog.bytesOf 5 ≤ reachBytes ∧ ∀ y ∈ l, (Lit.int .u8 y).wf = true) := reads_slice Tryd.underlying22 ce5 fun n => dec_int Tryd.underlying5

end Go.Proofs.YtlnffadolfkggaaDoor
