/- Plain laws of sets in words. -/
import Derived.Lib.TrailingZeros
import Derived.Test.YtdhlghhokbmhdaaDoorL01a
namespace Go.Proofs.YtdhlghhokbmhdaaDoor
set_option linter.unusedVariables false
set_option linter.unusedSimpArgs false
set_option maxRecDepth 100000
open Go
theorem low_bits {x k m : Nat} (hx : x = 2 ^ k * (2 * m + 1)) : (∀ j, j < k → x.testBit j = false) ∧ x.testBit k = true ∧ ∀ j, (x &&& (x - 1)).testBit j = (x.testBit j && decide (j ≠ k)) := by
  have h1 : ∀ j, x.testBit j = (decide (k ≤ j) && (2 * m + 1).testBit (j - k)) := fun j => by rw [hx, Nat.testBit_two_pow_mul]
  have hp : 0 < 2 ^ k := Nat.two_pow_pos k
  have e2 : x - 1 = 2 ^ (k + 1) * m + (2 ^ k - 1) := by rw [hx, Nat.pow_succ, Nat.mul_add, Nat.mul_assoc]; omega
  have e3 : x = 2 ^ (k + 1) * m + 2 ^ k := by rw [hx, Nat.pow_succ, Nat.mul_add, Nat.mul_assoc]; omega
  have hlt : 2 ^ k < 2 ^ (k + 1) := Nat.pow_lt_pow_right (by decide) (by omega)
  have h2 : ∀ j, (x - 1).testBit j = if j < k + 1 then (2 ^ k - 1).testBit j else m.testBit (j - (k + 1)) := fun j => by rw [e2, Nat.testBit_two_pow_mul_add _ (by omega)]
  have h3 : ∀ j, x.testBit j = if j < k + 1 then (2 ^ k).testBit j else m.testBit (j - (k + 1)) := fun j => by conv => lhs; rw [e3, Nat.testBit_two_pow_mul_add _ hlt]
  refine ⟨fun j hj => ?_, ?_, fun j => ?_⟩
  · rw [h1, decide_eq_false (by omega), Bool.false_and]
  · rw [h1, Nat.sub_self]; simp
  · rw [Nat.testBit_and, h2, h3]
    by_cases hj : j < k + 1
    · rw [if_pos hj, if_pos hj, Nat.testBit_two_pow]
      by_cases e : k = j
      · subst e; simp
      · simp [e]
    · rw [if_neg hj, if_neg hj, Bool.and_self, decide_eq_true (by omega : j ≠ k), Bool.and_true]
/-- The points of a set, rising. -/
def bitsOf (x : Nat) : List Nat := (List.range 64).filter x.testBit
theorem bitsOf_zero : bitsOf 0 = [] := by
  unfold bitsOf
  refine List.filter_eq_nil_iff.2 fun a _ => by simp
theorem mem_bitsOf {x j : Nat} (hx : x < 2 ^ 64) : j ∈ bitsOf x ↔ x.testBit j = true := by
  unfold bitsOf
  rw [List.mem_filter, List.mem_range]
  constructor
  · exact fun h => h.2
  · intro h
    refine ⟨?_, h⟩
    refine Nat.lt_of_not_le fun hj => ?_
    rw [Nat.testBit_lt_two_pow (Nat.lt_of_lt_of_le hx (Nat.pow_le_pow_right (by decide) hj))] at h
    cases h
theorem rise_uniq : ∀ l k : List Nat, l.Pairwise (· < ·) → k.Pairwise (· < ·) → (∀ x, x ∈ l ↔ x ∈ k) → l = k
  | [], [], _, _, _ => rfl
  | [], y :: k, _, _, h => absurd ((h y).2 (by simp)) (by simp)
  | x :: l, [], _, _, h => absurd ((h x).1 (by simp)) (by simp)
  | x :: l, y :: k, hl, hk, h => by
    obtain ⟨h1, h2⟩ := List.pairwise_cons.1 hl
    obtain ⟨h3, h4⟩ := List.pairwise_cons.1 hk
    have e : x = y := by
      rcases List.mem_cons.1 ((h x).1 (by simp)) with e | e
      · exact e
      · rcases List.mem_cons.1 ((h y).2 (by simp)) with e' | e'
        · exact e'.symm
        · have := h1 y e'; have := h3 x e; omega
    subst e
    congr 1
    refine rise_uniq l k h2 h4 fun z => ?_
    have hz := h z
    simp only [List.mem_cons] at hz
    constructor
    · intro hm
      rcases hz.1 (.inr hm) with e | e
      · have := h1 z hm; omega
      · exact e
    · intro hm
      rcases hz.2 (.inr hm) with e | e
      · have := h3 z hm; omega
      · exact e
theorem bitsOf_rise (x : Nat) : (bitsOf x).Pairwise (· < ·) := List.Pairwise.filter _ List.pairwise_lt_range
theorem and_pred_lt {x : Nat} (hx : x < 2 ^ 64) : x &&& (x - 1) < 2 ^ 64 := Nat.lt_of_le_of_lt Nat.and_le_left hx
theorem bitsOf_step {x : Nat} (h0 : x ≠ 0) (hx : x < 2 ^ 64) : bitsOf x = Lib.ctz 64 x :: bitsOf (x &&& (x - 1)) := by
  obtain ⟨m, hm, hk⟩ := Lib.ctzFrom_spec 64 x (by omega) hx
  have e : Lib.ctz 64 x = Lib.ctzFrom 64 x := by simp [Lib.ctz, h0]
  rw [← e] at hm hk
  obtain ⟨h1, h2, h3⟩ := low_bits hm
  refine rise_uniq _ _ (bitsOf_rise x) (List.pairwise_cons.2 ⟨fun j hj => ?_, bitsOf_rise _⟩) fun j => ?_
  · rw [mem_bitsOf (and_pred_lt hx), h3, Bool.and_eq_true, decide_eq_true_eq] at hj
    refine Nat.lt_of_not_le fun hle => ?_
    rw [h1 j (by omega)] at hj; exact absurd hj.1 (by simp)
  · rw [List.mem_cons, mem_bitsOf hx, mem_bitsOf (and_pred_lt hx), h3, Bool.and_eq_true, decide_eq_true_eq]
    constructor
    · intro h
      by_cases e : j = Lib.ctz 64 x
      · exact .inl e
      · exact .inr ⟨h, e⟩
    · rintro (rfl | h)
      · exact h2
      · exact h.1
theorem ctz_lt {x : Nat} (h0 : x ≠ 0) (hx : x < 2 ^ 64) : Lib.ctz 64 x < 64 := by
  obtain ⟨m, hm, hk⟩ := Lib.ctzFrom_spec 64 x (by omega) hx
  simpa [Lib.ctz, h0] using hk
/-- Whether a stands below b, as rows tell. -/
def lq (u : List Nat) (a b : Nat) : Bool := (u.getD a 0).testBit b
/-- The points below one, of the first so many rows. -/
def dn (u : List Nat) (a : Nat) : Nat → Nat
  | 0 => 0
  | k + 1 => dn u a k ||| ((((u.getD k 0) >>> a) &&& 1) <<< k)
theorem one_bit (x a k j : Nat) : (((x >>> a) &&& 1) <<< k).testBit j = (decide (j = k) && x.testBit a) := by
  rw [Nat.testBit_shiftLeft, Nat.testBit_and, Nat.testBit_shiftRight]
  by_cases h : j = k
  · subst h; simp
  · by_cases h2 : k ≤ j
    · obtain ⟨i, hi⟩ : ∃ i, j - k = i + 1 := ⟨j - k - 1, by omega⟩
      rw [hi, Nat.testBit_succ]
      simp [h]
    · simp [h, h2]
theorem dn_bit (u : List Nat) (a : Nat) : ∀ k j, (dn u a k).testBit j = (decide (j < k) && lq u j a)
  | 0, j => by simp [dn]
  | k + 1, j => by
    unfold dn
    rw [Nat.testBit_or, dn_bit u a k j, one_bit]
    by_cases h : j = k
    · subst h; simp [lq]
    · simp only [h, decide_false, Bool.false_and, Bool.or_false]
      congr 1
      exact decide_eq_decide.2 (by omega)
theorem lt_of_bits {x n : Nat} (h : ∀ j, n ≤ j → x.testBit j = false) : x < 2 ^ n := Nat.lt_pow_two_of_testBit x h
theorem dn_lt (u : List Nat) (a k : Nat) : dn u a k < 2 ^ k := lt_of_bits fun j hj => by rw [dn_bit, decide_eq_false (by omega), Bool.false_and]
/-- The numbers of a set that are not of another one. -/
def andn (x y : Nat) : Nat := (BitVec.ofInt 64 x &&& ~~~ BitVec.ofInt 64 y).toNat
theorem ofInt_bit (x : Nat) (j : Nat) : (BitVec.ofInt 64 (x : Int)).getLsbD j = (decide (j < 64) && x.testBit j) := by
  rw [BitVec.ofInt_natCast, BitVec.getLsbD_ofNat]
theorem andn_bit (x y j : Nat) : (andn x y).testBit j = (decide (j < 64) && x.testBit j && !y.testBit j) := by
  unfold andn
  rw [BitVec.testBit_toNat, BitVec.getLsbD_and, BitVec.getLsbD_not, ofInt_bit, ofInt_bit]
  cases decide (j < 64) <;> simp
theorem and_nat {x y : Nat} (hx : x < 2 ^ 64) : (BitVec.ofInt 64 (x : Int) &&& BitVec.ofInt 64 (y : Int)).toNat = x &&& y := by
  refine Nat.eq_of_testBit_eq fun j => ?_
  rw [BitVec.testBit_toNat, BitVec.getLsbD_and, ofInt_bit, ofInt_bit, Nat.testBit_and]
  by_cases hj : j < 64
  · simp [hj]
  · rw [Nat.testBit_lt_two_pow (Nat.lt_of_lt_of_le hx (Nat.pow_le_pow_right (by decide) (Nat.le_of_not_lt hj)))]; simp
theorem or_nat {x y : Nat} (hx : x < 2 ^ 64) (hy : y < 2 ^ 64) : (BitVec.ofInt 64 (x : Int) ||| BitVec.ofInt 64 (y : Int)).toNat = x ||| y := by
  refine Nat.eq_of_testBit_eq fun j => ?_
  rw [BitVec.testBit_toNat, BitVec.getLsbD_or, ofInt_bit, ofInt_bit, Nat.testBit_or]
  by_cases hj : j < 64
  · simp [hj]
  · have h : ∀ z, z < 2 ^ 64 → z.testBit j = false := fun z hz => Nat.testBit_lt_two_pow (Nat.lt_of_lt_of_le hz (Nat.pow_le_pow_right (by decide) (Nat.le_of_not_lt hj)))
    rw [h x hx, h y hy]; simp
theorem andn_zero {x y : Nat} (hx : x < 2 ^ 64) : andn x y = 0 ↔ ∀ j, x.testBit j = true → y.testBit j = true := by
  constructor
  · intro h j hj
    have h2 := andn_bit x y j
    rw [h, Nat.zero_testBit, hj] at h2
    have hj64 : j < 64 := Nat.lt_of_not_le fun hle => by
      rw [Nat.testBit_lt_two_pow (Nat.lt_of_lt_of_le hx (Nat.pow_le_pow_right (by decide) hle))] at hj; cases hj
    rw [decide_eq_true hj64] at h2
    cases hy : y.testBit j
    · rw [hy] at h2; cases h2
    · rfl
  · intro h
    refine Nat.eq_of_testBit_eq fun j => ?_
    rw [andn_bit, Nat.zero_testBit]
    cases hxj : x.testBit j
    · simp
    · rw [h j hxj]; simp
theorem andn_lt (x y : Nat) : andn x y < 2 ^ 64 := (BitVec.ofInt 64 (x : Int) &&& ~~~ BitVec.ofInt 64 (y : Int)).isLt
end Go.Proofs.YtdhlghhokbmhdaaDoor
