/- The reading of lattices, texts, where what is read is small. -/
import Derived.Test.YtdhlghhokbmhdaaDoorS01
import Derived.Test.YtdhlghhokbmhdaaDoorWB
namespace Go.Proofs.YtdhlghhokbmhdaaDoor
set_option linter.unusedVariables false
set_option linter.unusedSimpArgs false
set_option maxRecDepth 100000
open Go.RowKit Fw

/-- What a lattice weighs. -/
def laW (x : List (List UInt8) × List Int) : Nat := x.1.length + x.2.length
theorem sum_len {X : Type} (f : X → Nat) (h : ∀ x, 1 ≤ f x) (l : List X) : l.length ≤ (l.map f).sum + 1 := by
  induction l with
  | nil => simp
  | cons x l ih => simp only [List.map_cons, List.sum_cons, List.length_cons]; have := h x; omega
theorem decB_ns (W : World) : ∀ n, DecB Tryd.prog W n 22 (fun l : List (List UInt8) => [.vec (l.map S1) false]) (fun l => l.length * Tryd.prog.bytesOf 9 ≤ reachBytes ∧ ∀ y ∈ l, y.length ≤ reachBytes) (fun l => l.length)
  | 0 => DecB.zero
  | _ + 1 => (decB_slice Tryd.underlying22 ce9 (decB_str Tryd.underlying9)).weaken (fun _ h => h) (fun l => sum_len _ (fun y => by omega) l)
theorem decB_us (W : World) : ∀ n, DecB Tryd.prog W n 23 (fun l : List Int => [.vec (l.map fun n => [.int .u64 n]) false]) (fun l => l.length * Tryd.prog.bytesOf 50 ≤ reachBytes ∧ ∀ y ∈ l, (Lit.int .u64 y).wf = true) (fun l => l.length)
  | 0 => DecB.zero
  | _ + 1 => (decB_slice Tryd.underlying23 ce50 (decB_int Tryd.underlying50)).weaken (fun _ h => h) (fun l => sum_len _ (fun y => Nat.le_refl _) l)
theorem decB_la (W : World) : ∀ n, DecB Tryd.prog W n 25 laR LaOk laW
  | 0 => DecB.zero
  | n + 1 => by
    have h := decB_struct Tryd.underlying25 (by kernel_rfl) (decFB_cons rfl (by kernel_rfl) (decB_ns W n) (decFB_last rfl (decB_us W n)))
    exact h.weaken (fun _ h => h) (fun x => Nat.le_succ _)
theorem readsB_la (W : World) : ReadsArgB Tryd.prog W 25 (fun x : List (List UInt8) × List Int => .agg (laR x)) LaOk laW := readsB_struct Tryd.underlying25 fun n => decB_la W n
end Go.Proofs.YtdhlghhokbmhdaaDoor
