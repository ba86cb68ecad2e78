/- The framework, fifth part: arithmetic, comparisons, conversions, structs by value, interfaces, closures. -/
import Derived.Test.YtinedfjknhahmaaDoorFwD
namespace Go.Proofs.YtinedfjknhahmaaDoor.Fw
set_option linter.unusedVariables false
set_option linter.unusedSimpArgs false
open Go.RowKit

/-- Two integers, two texts. -/
def abin : BinOp → PV → PV → Option PV
  | .add, .int k a, .int k' b => if k = k' then some (.int k (k.wrap (a + b))) else none
  | .sub, .int k a, .int k' b => if k = k' then some (.int k (k.wrap (a - b))) else none
  | .mul, .int k a, .int k' b => if k = k' then some (.int k (k.wrap (a * b))) else none
  | .quo, .int k a, .int k' b => if k = k' ∧ b ≠ 0 then some (.int k (k.wrap (a.tdiv b))) else none
  | .rem, .int k a, .int k' b => if k = k' ∧ b ≠ 0 then some (.int k (a.tmod b)) else none
  | .and, .int k a, .int k' b => if k = k' then some (.int k (k.wrap (BitVec.ofInt k.bits a &&& BitVec.ofInt k.bits b).toNat)) else none
  | .or, .int k a, .int k' b => if k = k' then some (.int k (k.wrap (BitVec.ofInt k.bits a ||| BitVec.ofInt k.bits b).toNat)) else none
  | .xor, .int k a, .int k' b => if k = k' then some (.int k (k.wrap (BitVec.ofInt k.bits a ^^^ BitVec.ofInt k.bits b).toNat)) else none
  | .andNot, .int k a, .int k' b => if k = k' then some (.int k (k.wrap (BitVec.ofInt k.bits a &&& ~~~BitVec.ofInt k.bits b).toNat)) else none
  | .shl, .int k a, .int _ b => if 0 ≤ b then some (.int k (k.wrap (a * 2 ^ (min b.toNat k.bits)))) else none
  | .shr, .int k a, .int _ b => if 0 ≤ b then some (.int k (a.fdiv (2 ^ (min b.toNat k.bits)))) else none
  | .eql, .int k a, .int k' b => if k = k' then some (.bool (decide (a = b))) else none
  | .neq, .int k a, .int k' b => if k = k' then some (.bool (!decide (a = b))) else none
  | .lss, .int k a, .int k' b => if k = k' then some (.bool (decide (a < b))) else none
  | .leq, .int k a, .int k' b => if k = k' then some (.bool (decide (a ≤ b))) else none
  | .gtr, .int k a, .int k' b => if k = k' then some (.bool (decide (b < a))) else none
  | .geq, .int k a, .int k' b => if k = k' then some (.bool (decide (b ≤ a))) else none
  | .eql, .str a, .str b => some (.bool (decide (a = b)))
  | .neq, .str a, .str b => some (.bool (!decide (a = b)))
  | .lss, .str a, .str b => some (.bool (Op.bytesLess a b))
  | .leq, .str a, .str b => some (.bool (Op.bytesLess a b || decide (a = b)))
  | .gtr, .str a, .str b => some (.bool !(Op.bytesLess a b || decide (a = b)))
  | .geq, .str a, .str b => some (.bool !(Op.bytesLess a b))
  | .add, .str a, .str b => if a.length + b.length ≤ 9223372036854775807 then some (.str (a ++ b)) else none
  | _, _, _ => none

theorem i64_max : IntKind.i64.max = 9223372036854775807 := by decide

theorem bytes_append (a b : List UInt8) : (⟨a.toArray⟩ : ByteArray) ++ ⟨b.toArray⟩ = ⟨(a ++ b).toArray⟩ := by
  apply ByteArray.ext
  simp

section
variable {P : Program} {Γ : Nat → PV} {o : Oper} {A : List (Nat × PV)} {H : List Blk} {K : PV → List Blk → Prop}

theorem abin_run {op : BinOp} {t : TypeId} {x y : Operand} {p q r : PV} {u v : Value} {G : Ghost} {n : Nat} (h : abin op p q = some r) (hp : Rep G n p u) (hq : Rep G n q v) (w : World) :
    ∃ z, (do eqGuard op t x y u v; binOp op t u v : Sem Value).run P w = .ok z w ∧ Rep G n r z := by
  have beqS : ∀ a b : List UInt8, (a == b) = decide (a = b) := fun a b => by by_cases e : a = b <;> simp [e]
  have beqI : ∀ a b : Int, (a == b) = decide (a = b) := fun a b => by by_cases e : a = b <;> simp [e]
  have ints : ∀ (k k' : IntKind) (a b : Int) (c : Bool), c = true → p = .int k a → q = .int k' b → (c = true → ∃ z, (do eqGuard op t x y (.int k a) (.int k' b); binOp op t (.int k a) (.int k' b) : Sem Value).run P w = .ok z w ∧ Rep G n r z) →
      ∃ z, (do eqGuard op t x y u v; binOp op t u v : Sem Value).run P w = .ok z w ∧ Rep G n r z := by
    intro k k' a b c hc e1 e2 hh
    subst e1 e2
    have e1 := hp.int_inv
    have e2 := hq.int_inv
    subst e1 e2
    exact hh hc
  have strs : ∀ (a b : List UInt8), p = .str a → q = .str b → (∃ z, (do eqGuard op t x y (.string ⟨a.toArray⟩) (.string ⟨b.toArray⟩); binOp op t (.string ⟨a.toArray⟩) (.string ⟨b.toArray⟩) : Sem Value).run P w = .ok z w ∧ Rep G n r z) →
      ∃ z, (do eqGuard op t x y u v; binOp op t u v : Sem Value).run P w = .ok z w ∧ Rep G n r z := by
    intro a b e1 e2 hh
    subst e1 e2
    have e1 := hp.str_inv
    have e2 := hq.str_inv
    subst e1 e2
    exact hh
  unfold abin at h
  split at h
  iterate 3
    · rename_i k a k' b
      split at h
      · rename_i hk
        subst hk
        obtain rfl := Option.some.inj h
        exact ints k k a b true rfl rfl rfl fun _ => ⟨_, by simp [eqGuard, binOp, Op.intArith], .int _ _ _⟩
      · cases h
  iterate 2
    · rename_i k a k' b
      split at h
      · rename_i hk
        obtain ⟨rfl, hb⟩ := hk
        obtain rfl := Option.some.inj h
        exact ints k k a b true rfl rfl rfl fun _ => ⟨_, by simp [eqGuard, binOp, Op.intDiv, hb], .int _ _ _⟩
      · cases h
  iterate 4
    · rename_i k a k' b
      split at h
      · rename_i hk
        subst hk
        obtain rfl := Option.some.inj h
        exact ints k k a b true rfl rfl rfl fun _ => ⟨_, by simp [eqGuard, binOp, Op.intBits], .int _ _ _⟩
      · cases h
  iterate 2
    · rename_i k a k' b
      split at h
      · rename_i hk
        obtain rfl := Option.some.inj h
        have hb : ¬ b < 0 := by omega
        exact ints k k' a b true rfl rfl rfl fun _ => ⟨_, by simp [eqGuard, binOp, Op.shift, hb], .int _ _ _⟩
      · cases h
  iterate 6
    · rename_i k a k' b
      split at h
      · rename_i hk
        subst hk
        obtain rfl := Option.some.inj h
        exact ints k k a b true rfl rfl rfl fun _ => ⟨_, by simp [eqGuard, binOp, Op.intCmp, beqI, bne], .bool _ _⟩
      · cases h
  iterate 6
    · rename_i a b
      obtain rfl := Option.some.inj h
      exact strs a b rfl rfl ⟨_, by simp [eqGuard, binOp, Op.stringOp, beqS], .bool _ _⟩
  · rename_i a b
    split at h
    · rename_i hl
      obtain rfl := Option.some.inj h
      refine strs a b rfl rfl ⟨_, ?_, .str _ _ (by rw [List.length_append]; exact hl)⟩
      have hl' : ¬ (((⟨a.toArray⟩ : ByteArray).size + (⟨b.toArray⟩ : ByteArray).size : Nat) : Int) > IntKind.i64.max := by
        rw [i64_max]; simp [ByteArray.size]; omega
      simp [eqGuard, binOp, Op.stringOp, if_neg hl', bytes_append]
      simp at hl'
      omega
    · cases h
  · cases h

theorem os_bin {op : BinOp} {t ty : TypeId} {x y : Operand} {p : PV} (ho : o.op = .binOp op t x y ty) (h : abin op (ev Γ A x) (ev Γ A y) = some p) (hk : K p H) : OStep P Γ o A H K :=
  ostep_pure (by simp [ho]) _ hk fun w0 G w N a hs ha => by
    obtain ⟨z, hz, hr⟩ := abin_run (P := P) (t := t) (x := x) (y := y) h (ha.ev hs.glob x) (ha.ev hs.glob y) w
    refine ⟨z, ?_, hr⟩
    simp only [execOp, ho, Sem.run_bind] at hz ⊢
    rw [hz]
    rfl

end
end Go.Proofs.YtinedfjknhahmaaDoor.Fw
