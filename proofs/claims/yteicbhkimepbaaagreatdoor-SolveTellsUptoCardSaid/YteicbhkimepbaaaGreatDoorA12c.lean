/- The reading of lattices, atoms, where what is read is small. -/
import Derived.Test.YteicbhkimepbaaaGreatDoorA12b
import Derived.Test.YteicbhkimepbaaaGreatDoorWC
namespace Go.Proofs.YteicbhkimepbaaaGreatDoor
set_option linter.unusedVariables false
set_option linter.unusedSimpArgs false
set_option maxRecDepth 100000
open Go.RowKit Fw

theorem u64_wf {n : Int} (h : (Lit.int .u64 n).wf = true) : 0 ≤ n ∧ n < 18446744073709551616 := by
  have h2 := int_wf h
  have h3 : IntKind.u64.min = 0 := by decide
  have h4 : IntKind.u64.max = 18446744073709551615 := by decide
  omega
/-- A lattice as it is read: its names, its rows. -/
def laR (x : List (List UInt8) × List Int) : List PV := [.vec (x.1.map S1) false, .vec (x.2.map fun n => [.int .u64 n]) false]
def LaOk (x : List (List UInt8) × List Int) : Prop := (x.1.length * Tryz.prog.bytesOf 9 ≤ reachBytes ∧ ∀ y ∈ x.1, y.length ≤ reachBytes) ∧ (x.2.length * Tryz.prog.bytesOf 125 ≤ reachBytes ∧ ∀ y ∈ x.2, (Lit.int .u64 y).wf = true)
theorem ce9 : 0 < Tryz.prog.cellsOf 9 := of_decide_eq_true (by kernel_rfl)
theorem ce125 : 0 < Tryz.prog.cellsOf 125 := of_decide_eq_true (by kernel_rfl)
theorem laR_eq {x : List (List UInt8) × List Int} (h : LaOk x) : PV.agg (laR x) = .agg [.vec (x.1.map S1) false, .vec ((x.2.map Int.toNat).map U1) false] := by
  unfold laR
  rw [List.map_map]
  congr 3
  have : (x.2.map fun n => [PV.int .u64 n]) = x.2.map (U1 ∘ Int.toNat) := List.map_congr_left fun n hn => by
    have := u64_wf (h.2.2 n hn)
    show [PV.int .u64 n] = [.int .u64 ((n.toNat : Nat) : Int)]
    rw [Int.toNat_of_nonneg this.1]
  rw [this]
theorem la_w64 {x : List (List UInt8) × List Int} (h : LaOk x) : W64 (x.2.map Int.toNat) := fun y hy => by
  obtain ⟨n, hn, rfl⟩ := List.mem_map.1 hy
  have := u64_wf (h.2.2 n hn)
  omega
/-- What a lattice weighs. -/
def laW (x : List (List UInt8) × List Int) : Nat := x.1.length + x.2.length
theorem sum_len {X : Type} (f : X → Nat) (h : ∀ x, 1 ≤ f x) (l : List X) : l.length ≤ (l.map f).sum + 1 := by
  induction l with
  | nil => simp
  | cons x l ih => simp only [List.map_cons, List.sum_cons, List.length_cons]; have := h x; omega
theorem decB_ns (W : World) : ∀ n, DecB Tryz.prog W n 22 (fun l : List (List UInt8) => [.vec (l.map S1) false]) (fun l => l.length * Tryz.prog.bytesOf 9 ≤ reachBytes ∧ ∀ y ∈ l, y.length ≤ reachBytes) (fun l => l.length)
  | 0 => DecB.zero
  | _ + 1 => (decB_slice Tryz.underlying22 ce9 (decB_str Tryz.underlying9)).weaken (fun _ h => h) (fun l => sum_len _ (fun y => by omega) l)
theorem decB_us (W : World) : ∀ n, DecB Tryz.prog W n 23 (fun l : List Int => [.vec (l.map fun n => [.int .u64 n]) false]) (fun l => l.length * Tryz.prog.bytesOf 125 ≤ reachBytes ∧ ∀ y ∈ l, (Lit.int .u64 y).wf = true) (fun l => l.length)
  | 0 => DecB.zero
  | _ + 1 => (decB_slice Tryz.underlying23 ce125 (decB_int Tryz.underlying125)).weaken (fun _ h => h) (fun l => sum_len _ (fun y => Nat.le_refl _) l)
theorem decB_la (W : World) : ∀ n, DecB Tryz.prog W n 25 laR LaOk laW
  | 0 => DecB.zero
  | n + 1 => by
    have h := decB_struct Tryz.underlying25 (by kernel_rfl) (decFB_cons rfl (by kernel_rfl) (decB_ns W n) (decFB_last rfl (decB_us W n)))
    exact h.weaken (fun _ h => h) (fun x => Nat.le_succ _)
theorem readsB_la (W : World) : ReadsArgB Tryz.prog W 25 (fun x : List (List UInt8) × List Int => .agg (laR x)) LaOk laW := readsB_struct Tryz.underlying25 fun n => decB_la W n
theorem ce28 : 0 < Tryz.prog.cellsOf 28 := of_decide_eq_true (by kernel_rfl)
theorem readsB_atoms (W : World) : ReadsArgB Tryz.prog W 49 (fun l : List Int => .vec (l.map I1) false) (fun l => l.length * Tryz.prog.bytesOf 28 ≤ reachBytes ∧ ∀ y ∈ l, (Lit.int .i64 y).wf = true) (fun l => (l.map fun _ => 1).sum + 1) := readsB_slice Tryz.underlying49 ce28 fun n => decB_int Tryz.underlying28
/-- Two numbers whose sum is small have a product that is small. -/
theorem mul_le1 {x y : Nat} (h : x + y ≤ 1048590) : x * y ≤ 1000000000000 := by
  rcases Nat.lt_or_ge x 524296 with h1 | h1
  · exact Nat.le_trans (Nat.mul_le_mul (Nat.le_of_lt h1) (show y ≤ 1048590 by omega)) (by decide)
  · exact Nat.le_trans (Nat.mul_le_mul (show x ≤ 1048590 by omega) (show y ≤ 524295 by omega)) (by decide)
theorem mul_le2 {x : Nat} (h : x ≤ 1048578) : x * (x + 2) ≤ 1200000000000 := Nat.le_trans (Nat.mul_le_mul h (show x + 2 ≤ 1048580 by omega)) (by decide)
end Go.Proofs.YteicbhkimepbaaaGreatDoor
