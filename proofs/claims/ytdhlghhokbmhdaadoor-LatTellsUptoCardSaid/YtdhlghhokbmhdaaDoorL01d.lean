/- Words of 64 bits as the machine turns them. -/
import Derived.Test.YtdhlghhokbmhdaaDoorL01c
import Derived.Test.YtdhlghhokbmhdaaDoorWB
namespace Go.Proofs.YtdhlghhokbmhdaaDoor
set_option linter.unusedVariables false
set_option linter.unusedSimpArgs false
set_option maxRecDepth 100000
open Go Go.RowKit

theorem ubits : IntKind.u64.bits = 64 := rfl
theorem uWrap {x : Int} (h0 : 0 ≤ x) (h : x < 18446744073709551616) : IntKind.u64.wrap x = x := by
  unfold IntKind.wrap
  have hb : IntKind.u64.bits = 64 := rfl
  have hsg : IntKind.u64.signed = false := rfl
  simp only [hb, hsg, Bool.false_and, Bool.false_eq_true, ↓reduceIte]
  omega
theorem uWrapN {x : Nat} (h : x < 2 ^ 64) : IntKind.u64.wrap (x : Int) = (x : Int) := uWrap (by omega) (by omega)
theorem uAnd {x y : Nat} (hx : x < 2 ^ 64) : IntKind.u64.wrap ((BitVec.ofInt IntKind.u64.bits (x : Int) &&& BitVec.ofInt IntKind.u64.bits (y : Int)).toNat : Int) = ((x &&& y : Nat) : Int) := by
  have e : (BitVec.ofInt IntKind.u64.bits (x : Int) &&& BitVec.ofInt IntKind.u64.bits (y : Int)).toNat = x &&& y := and_nat hx
  rw [e, uWrapN (Nat.lt_of_le_of_lt Nat.and_le_left hx)]
theorem uAnd1 {x : Nat} (hx : x < 2 ^ 64) : IntKind.u64.wrap ((BitVec.ofInt IntKind.u64.bits (x : Int) &&& BitVec.ofInt IntKind.u64.bits 1).toNat : Int) = ((x &&& 1 : Nat) : Int) := uAnd (y := 1) hx
theorem uOr {x y : Nat} (hx : x < 2 ^ 64) (hy : y < 2 ^ 64) : IntKind.u64.wrap ((BitVec.ofInt IntKind.u64.bits (x : Int) ||| BitVec.ofInt IntKind.u64.bits (y : Int)).toNat : Int) = ((x ||| y : Nat) : Int) := by
  have e : (BitVec.ofInt IntKind.u64.bits (x : Int) ||| BitVec.ofInt IntKind.u64.bits (y : Int)).toNat = x ||| y := or_nat hx hy
  rw [e, uWrapN (Nat.or_lt_two_pow hx hy)]
theorem uAndn (x y : Nat) : IntKind.u64.wrap ((BitVec.ofInt IntKind.u64.bits (x : Int) &&& ~~~BitVec.ofInt IntKind.u64.bits (y : Int)).toNat : Int) = ((andn x y : Nat) : Int) := uWrapN (andn_lt x y)
theorem uShr {x : Nat} (a : Nat) (hx : x < 2 ^ 64) : (x : Int).fdiv (2 ^ min a IntKind.u64.bits) = ((x >>> a : Nat) : Int) := by
  have key : ∀ b : Nat, (x : Int).fdiv (2 ^ b) = ((x >>> b : Nat) : Int) := fun b => by
    rw [Int.fdiv_eq_ediv_of_nonneg _ (by have := Int.pow_pos (n := (2 : Int)) (m := b) (by decide); omega), Nat.shiftRight_eq_div_pow]; simp
  rw [key, ubits]
  by_cases h : a ≤ 64
  · rw [Nat.min_eq_left h]
  · rw [Nat.min_eq_right (by omega), Nat.shiftRight_eq_div_pow, Nat.shiftRight_eq_div_pow, Nat.div_eq_of_lt hx, Nat.div_eq_of_lt (Nat.lt_of_lt_of_le hx (Nat.pow_le_pow_right (by decide) (by omega)))]
theorem uShl {x a : Nat} (ha : a ≤ 64) (h : x <<< a < 2 ^ 64) : IntKind.u64.wrap ((x : Int) * 2 ^ min a IntKind.u64.bits) = ((x <<< a : Nat) : Int) := by
  rw [ubits, Nat.min_eq_left ha]
  have e : (x : Int) * 2 ^ a = ((x <<< a : Nat) : Int) := by rw [Nat.shiftLeft_eq]; simp
  rw [e, uWrapN h]
theorem uOne {a : Nat} (ha : a < 64) : IntKind.u64.wrap (1 * 2 ^ min a IntKind.u64.bits) = ((2 ^ a : Nat) : Int) := by
  have h2 : (1 : Nat) <<< a = 2 ^ a := by rw [Nat.shiftLeft_eq, Nat.one_mul]
  have h := uShl (x := 1) (a := a) (by omega) (by rw [h2]; exact Nat.pow_lt_pow_right (by decide) ha)
  rw [h2] at h; exact h
theorem uAll {n : Nat} (hn : n ≤ 64) : IntKind.u64.wrap (IntKind.u64.wrap (1 * 2 ^ min n IntKind.u64.bits) - 1) = ((2 ^ n - 1 : Nat) : Int) := by
  by_cases h : n < 64
  · rw [uOne h]
    have h1 := Nat.two_pow_pos n
    have h2 : 2 ^ n < 2 ^ 64 := Nat.pow_lt_pow_right (by decide) h
    have e : ((2 ^ n : Nat) : Int) - 1 = ((2 ^ n - 1 : Nat) : Int) := by omega
    rw [e, uWrapN (by omega)]
  · obtain rfl : n = 64 := by omega
    decide
theorem bit_eq (x b : Nat) : decide (((x >>> b &&& 1 : Nat) : Int) = 1) = x.testBit b := by
  have h : x >>> b &&& 1 = (x.testBit b).toNat := by rw [Nat.and_comm, Nat.testBit, Nat.and_comm]; rw [Nat.and_one_is_mod]; rcases Nat.mod_two_eq_zero_or_one (x >>> b) with h | h <;> simp [h]
  rw [h]
  cases x.testBit b <;> rfl
theorem bit_mod (x b : Nat) : decide ((((x >>> b : Nat) : Int)).tmod 2 = 1) = x.testBit b := by
  have h := bit_eq x b
  rw [Nat.and_one_is_mod] at h
  rw [← h]
  refine decide_eq_decide.2 ?_
  have : ((x >>> b : Nat) : Int).tmod 2 = ((x >>> b % 2 : Nat) : Int) := by
    rw [Int.tmod_eq_emod_of_nonneg (Int.natCast_nonneg _)]; simp
  rw [this]
theorem all_zero {x n : Nat} (hn : n ≤ 64) (hx : x < 2 ^ 64) : decide (((andn x (2 ^ n - 1) : Nat) : Int) = 0) = decide (x < 2 ^ n) := by
  refine decide_eq_decide.2 ?_
  have e : ((andn x (2 ^ n - 1) : Nat) : Int) = 0 ↔ andn x (2 ^ n - 1) = 0 := by omega
  rw [e, andn_zero hx]
  constructor
  · intro h
    refine lt_of_bits fun j hj => ?_
    cases hb : x.testBit j
    · rfl
    · have := h j hb
      rw [Nat.testBit_two_pow_sub_one] at this
      simp at this; omega
  · intro h j hj
    rw [Nat.testBit_two_pow_sub_one]
    exact decide_eq_true (bit_lt h hj)
theorem cast_zero (x : Nat) : decide ((x : Int) = 0) = decide (x = 0) := decide_eq_decide.2 (by omega)
theorem cast_eq (x y : Nat) : decide ((x : Int) = (y : Int)) = decide (x = y) := decide_eq_decide.2 (by omega)

end Go.Proofs.YtdhlghhokbmhdaaDoor
