/- The reading of the arguments of this chapter's laws. -/
import Derived.Test.YtdacialfjlcboaaGreatDoorWE
import Derived.Test.YtdacialfjlcboaaGreatDoorWB
namespace Go.Proofs.YtdacialfjlcboaaGreatDoor
set_option linter.unusedVariables false
set_option linter.unusedSimpArgs false
set_option maxRecDepth 100000
open Go.RowKit Fw

theorem u32_wf {n : Int} (h : (Lit.int .u32 n).wf = true) : 0 ≤ n ∧ n < 4294967296 := by
  have h2 := int_wf h
  have h3 : IntKind.u32.min = 0 := by decide
  have h4 : IntKind.u32.max = 4294967295 := by decide
  omega
theorem u16_wf {n : Int} (h : (Lit.int .u16 n).wf = true) : 0 ≤ n ∧ n < 65536 := by
  have h2 := int_wf h
  have h3 : IntKind.u16.min = 0 := by decide
  have h4 : IntKind.u16.max = 65535 := by decide
  omega
theorem u8_wf {n : Int} (h : (Lit.int .u8 n).wf = true) : 0 ≤ n ∧ n < 256 := by
  have h2 := int_wf h
  have h3 : IntKind.u8.min = 0 := by decide
  have h4 : IntKind.u8.max = 255 := by decide
  omega
theorem i64_wf {n : Int} (h : (Lit.int .i64 n).wf = true) : I64 n := by
  have h2 := int_wf h
  have h3 : IntKind.i64.min = -9223372036854775808 := by decide
  have h4 : IntKind.i64.max = 9223372036854775807 := by decide
  exact ⟨by omega, by omega⟩

end Go.Proofs.YtdacialfjlcboaaGreatDoor
