/- Plain laws of rows of sets: order, joins and meets as they are looked for. -/
import Derived.Test.YtdhlghhokbmhdaaDoorL01b
namespace Go.Proofs.YtdhlghhokbmhdaaDoor
set_option linter.unusedVariables false
set_option linter.unusedSimpArgs false
set_option maxRecDepth 100000
open Go
/-- Whether it is an order, told plainly. -/
def ordB (n : Nat) (r : Nat → Nat → Bool) : Bool := (List.range n).all fun a => r a a && (List.range n).all fun b => (!(r a b && r b a) || decide (a = b)) && (List.range n).all fun c => !(r a b && r b c) || r a c
theorem ordB_iff {n : Nat} {r : Nat → Nat → Bool} : ordB n r = true ↔ Ord n r := by
  unfold ordB
  simp only [List.all_eq_true, List.mem_range, Bool.and_eq_true, Bool.or_eq_true, Bool.not_eq_true', decide_eq_true_eq]
  constructor
  · intro h
    refine ⟨fun a ha => (h a ha).1, fun a b ha hb h1 h2 => ?_, fun a b c ha hb hc h1 h2 => ?_⟩
    · rcases ((h a ha).2 b hb).1 with h3 | h3
      · rw [h1, h2] at h3; cases h3
      · exact h3
    · rcases ((h a ha).2 b hb).2 c hc with h3 | h3
      · rw [h1, h2] at h3; cases h3
      · exact h3
  · intro h a ha
    refine ⟨h.refl a ha, fun b hb => ⟨?_, fun c hc => ?_⟩⟩
    · cases h1 : r a b <;> cases h2 : r b a <;> simp
      exact h.anti a b ha hb h1 h2
    · cases h1 : r a b <;> cases h2 : r b c <;> simp
      exact h.trans a b c ha hb hc h1 h2
/-- Whether every two points have a join, and a meet. -/
def boundB (n : Nat) (r : Nat → Nat → Bool) : Bool := (List.range n).all fun a => (List.range n).all fun b => (jn n r a b).isSome && (jn n (tr r) a b).isSome
theorem latt_iff {n : Nat} {r : Nat → Nat → Bool} (hn : 0 < n) : (ordB n r = true ∧ boundB n r = true) ↔ Latt n r := by
  rw [ordB_iff]
  unfold boundB
  simp only [List.all_eq_true, List.mem_range, Bool.and_eq_true]
  constructor
  · rintro ⟨h1, h2⟩
    exact { h1 with pos := hn, hasJ := fun a b ha hb => (h2 a ha b hb).1, hasM := fun a b ha hb => (h2 a ha b hb).2 }
  · intro h
    exact ⟨h.toOrd, fun a ha b hb => ⟨h.hasJ a b ha hb, h.hasM a b ha hb⟩⟩
/-- As it is looked for: of each point those ahead of it alone. -/
def boundP (n : Nat) (r : Nat → Nat → Bool) : Bool := (List.range n).all fun a => (List.range a).all fun b => (jn n r a b).isSome && (jn n (tr r) a b).isSome
theorem boundP_eq {n : Nat} {r : Nat → Nat → Bool} (h : Ord n r) : boundP n r = boundB n r := by
  refine Bool.eq_iff_iff.2 ?_
  unfold boundP boundB
  simp only [List.all_eq_true, List.mem_range, Bool.and_eq_true]
  constructor
  · intro h1 a ha b hb
    rcases Nat.lt_trichotomy a b with hab | hab | hab
    · have := h1 b hb a hab
      rw [jn_comm h ha hb, jn_comm h.tr ha hb]; exact this
    · subst hab
      rw [isJ_jn h ha ha (isJ_self h ha), isJ_jn h.tr ha ha (isJ_self h.tr ha)]; exact ⟨rfl, rfl⟩
    · exact h1 a ha b hab
  · intro h1 a ha b hb
    exact h1 a ha b (by omega)
/-- Rows of so many bits. -/
def Inn (n : Nat) (u : List Nat) : Prop := ∀ x ∈ u, x < 2 ^ n
theorem getD_lt {n : Nat} {u : List Nat} (h : Inn n u) (a : Nat) : u.getD a 0 < 2 ^ n := by
  rw [List.getD_eq_getElem?_getD]
  cases e : u[a]? with
  | none => exact Nat.two_pow_pos n
  | some x => exact h x (List.mem_of_getElem? e)
theorem le64 {n x : Nat} (hn : n ≤ 64) (h : x < 2 ^ n) : x < 2 ^ 64 := Nat.lt_of_lt_of_le h (Nat.pow_le_pow_right (by decide) hn)
theorem bit_lt {n x j : Nat} (h : x < 2 ^ n) (hj : x.testBit j = true) : j < n := Nat.lt_of_not_le fun hle => by
  rw [Nat.testBit_lt_two_pow (Nat.lt_of_lt_of_le h (Nat.pow_le_pow_right (by decide) hle))] at hj; cases hj
theorem lq_lt {n : Nat} {u : List Nat} (h : Inn n u) {a b : Nat} (hq : lq u a b = true) : b < n := bit_lt (getD_lt h a) hq
theorem lq_lt1 {u : List Nat} {a b : Nat} (hq : lq u a b = true) : a < u.length := Nat.lt_of_not_le fun hle => by
  unfold lq at hq
  rw [List.getD_eq_getElem?_getD, List.getElem?_eq_none hle] at hq
  simp at hq
/-- Whether a row of an order is as it should. -/
def okRow (u : List Nat) (n a : Nat) : Bool := !decide (u.getD a 0 &&& 2 ^ a = 0) && decide (u.getD a 0 &&& dn u a n = 2 ^ a) && (bitsOf (u.getD a 0)).all fun b => decide (andn (u.getD b 0) (u.getD a 0) = 0)
theorem and_pow_zero (x a : Nat) : x &&& 2 ^ a = 0 ↔ x.testBit a = false := by
  constructor
  · intro h
    have h1 := congrArg (fun z => z.testBit a) h
    simpa [Nat.testBit_two_pow_self] using h1
  · intro h
    refine Nat.eq_of_testBit_eq fun j => ?_
    rw [Nat.testBit_and, Nat.testBit_two_pow, Nat.zero_testBit]
    by_cases e : a = j
    · subst e; rw [h]; rfl
    · rw [decide_eq_false e, Bool.and_false]
theorem okRow_iff {u : List Nat} {n a : Nat} (hl : u.length = n) (hn : n ≤ 64) (hi : Inn n u) (ha : a < n) :
    okRow u n a = true ↔ (lq u a a = true ∧ (∀ b, b < n → lq u a b = true → lq u b a = true → a = b) ∧ ∀ b c, b < n → c < n → lq u a b = true → lq u b c = true → lq u a c = true) := by
  have hx := getD_lt hi a
  unfold okRow
  simp only [Bool.and_eq_true, Bool.not_eq_true', decide_eq_false_iff_not, decide_eq_true_eq, List.all_eq_true]
  rw [and_pow_zero]
  simp only [Bool.not_eq_false]
  constructor
  · rintro ⟨⟨h1, h2⟩, h3⟩
    refine ⟨h1, fun b hb hab hba => ?_, fun b c hb hc hab hbc => ?_⟩
    · have h4 := congrArg (fun z => z.testBit b) h2
      simp only [Nat.testBit_and, dn_bit, Nat.testBit_two_pow, decide_eq_true hb, Bool.true_and] at h4
      rw [show (u.getD a 0).testBit b = true from hab, show lq u b a = true from hba] at h4
      simpa using h4
    · exact (andn_zero (le64 hn (getD_lt hi b))).1 (h3 b ((mem_bitsOf (le64 hn hx)).2 hab)) c hbc
  · rintro ⟨h1, h2, h3⟩
    refine ⟨⟨h1, ?_⟩, fun b hb => ?_⟩
    · refine Nat.eq_of_testBit_eq fun j => ?_
      rw [Nat.testBit_and, dn_bit, Nat.testBit_two_pow]
      by_cases e : a = j
      · subst e
        rw [show (u.getD a 0).testBit a = true from h1, h1, decide_eq_true ha, decide_eq_true rfl]; rfl
      · rw [decide_eq_false e]
        by_cases hj : j < n
        · cases h5 : (u.getD a 0).testBit j
          · rfl
          · cases h6 : lq u j a
            · rw [Bool.and_false, Bool.and_false]
            · exact absurd (h2 j hj h5 h6) e
        · rw [decide_eq_false hj, Bool.false_and, Bool.and_false]
    · have hab := (mem_bitsOf (le64 hn hx)).1 hb
      have hbn := bit_lt hx hab
      exact (andn_zero (le64 hn (getD_lt hi b))).2 fun c hc => h3 b c hbn (bit_lt (getD_lt hi b) hc) hab hc
theorem rows_ord {u : List Nat} {n : Nat} (hl : u.length = n) (hn : n ≤ 64) (hi : Inn n u) : (List.range n).all (okRow u n) = ordB n (lq u) := by
  refine Bool.eq_iff_iff.2 ?_
  rw [ordB_iff, List.all_eq_true]
  simp only [List.mem_range]
  constructor
  · intro h
    exact ⟨fun a ha => ((okRow_iff hl hn hi ha).1 (h a ha)).1, fun a b ha hb => ((okRow_iff hl hn hi ha).1 (h a ha)).2.1 b hb, fun a b c ha hb hc => ((okRow_iff hl hn hi ha).1 (h a ha)).2.2 b c hb hc⟩
  · intro h a ha
    exact (okRow_iff hl hn hi ha).2 ⟨h.refl a ha, fun b hb => h.anti a b ha hb, fun b c hb hc => h.trans a b c ha hb hc⟩
theorem find_range {p : Nat → Bool} {n m : Nat} (hnm : n ≤ m) (h : ∀ j, n ≤ j → p j = false) : (List.range m).find? p = (List.range n).find? p := by
  obtain ⟨d, rfl⟩ : ∃ d, m = n + d := ⟨m - n, by omega⟩
  rw [List.range_add, List.find?_append]
  have : ((List.range d).map (fun x => n + x)).find? p = none := by
    rw [List.find?_eq_none]
    intro x hx
    obtain ⟨y, _, rfl⟩ := List.mem_map.1 hx
    rw [h _ (by omega)]; simp
  rw [this, Option.or_none]
/-- The join as it is looked for. -/
def joinP (u : List Nat) (a b : Nat) : Option Nat := (bitsOf (u.getD a 0 &&& u.getD b 0)).find? fun c => decide (andn (u.getD a 0 &&& u.getD b 0) (u.getD c 0) = 0)
/-- The meet as it is looked for. -/
def meetP (u : List Nat) (n a b : Nat) : Option Nat := (bitsOf (dn u a n &&& dn u b n)).find? fun c => decide (andn (dn u a n &&& dn u b n) (dn u c n) = 0)
theorem find_congr {p q : Nat → Bool} : ∀ l : List Nat, (∀ c ∈ l, p c = q c) → l.find? p = l.find? q
  | [], _ => rfl
  | a :: l, h => by
    rw [List.find?_cons, List.find?_cons, h a (by simp), find_congr l fun c hc => h c (by simp [hc])]
theorem find_set {x n : Nat} {q p : Nat → Bool} (hn : n ≤ 64) (hx : x < 2 ^ n) (h : ∀ c, c < n → p c = (x.testBit c && q c)) : (bitsOf x).find? q = (List.range n).find? p := by
  unfold bitsOf
  rw [List.find?_filter, find_range hn fun j hj => by
    cases e : x.testBit j
    · rfl
    · exact absurd (bit_lt hx e) (by omega)]
  refine find_congr _ fun c hc => ?_
  rw [h c (List.mem_range.1 hc)]
  cases x.testBit c <;> cases q c <;> rfl
theorem joinP_eq {u : List Nat} {n a b : Nat} (hn : n ≤ 64) (hi : Inn n u) : joinP u a b = jn n (lq u) a b := by
  have hx : u.getD a 0 &&& u.getD b 0 < 2 ^ n := Nat.lt_of_le_of_lt Nat.and_le_left (getD_lt hi a)
  unfold joinP jn
  refine find_set hn hx fun c hc => ?_
  rw [Nat.testBit_and]
  show (lq u a c && lq u b c && _) = (lq u a c && lq u b c && _)
  congr 1
  refine Bool.eq_iff_iff.2 ?_
  rw [decide_eq_true_eq, andn_zero (le64 hn hx), List.all_eq_true]
  constructor
  · intro h j hj
    have hjn := bit_lt hx hj
    have h1 := h j (List.mem_range.2 hjn)
    rw [Nat.testBit_and] at hj
    rw [show (lq u a j && lq u b j) = true from hj] at h1
    exact h1
  · intro h j _
    cases h1 : (lq u a j && lq u b j)
    · rfl
    · have := h j (by rw [Nat.testBit_and]; exact h1)
      rw [show lq u c j = true from this]; rfl
theorem meetP_eq {u : List Nat} {n a b : Nat} (hl : u.length = n) (hn : n ≤ 64) : meetP u n a b = jn n (tr (lq u)) a b := by
  have hx : dn u a n &&& dn u b n < 2 ^ n := Nat.lt_of_le_of_lt Nat.and_le_left (dn_lt u a n)
  have hb : ∀ c j, j < n → (dn u c n).testBit j = tr (lq u) c j := fun c j hj => by rw [dn_bit, decide_eq_true hj]; rfl
  unfold meetP jn
  refine find_set hn hx fun c hc => ?_
  rw [Nat.testBit_and, hb a c hc, hb b c hc]
  congr 1
  refine Bool.eq_iff_iff.2 ?_
  rw [decide_eq_true_eq, andn_zero (le64 hn hx), List.all_eq_true]
  constructor
  · intro h j hj
    have hjn := bit_lt hx hj
    have h1 := h j (List.mem_range.2 hjn)
    rw [Nat.testBit_and, hb a j hjn, hb b j hjn] at hj
    rw [hj] at h1
    rw [hb c j hjn]
    simpa using h1
  · intro h j hj
    have hjn := List.mem_range.1 hj
    cases h1 : (tr (lq u) a j && tr (lq u) b j)
    · rfl
    · have := h j (by rw [Nat.testBit_and, hb a j hjn, hb b j hjn]; exact h1)
      rw [hb c j hjn] at this
      rw [this]; rfl
end Go.Proofs.YtdhlghhokbmhdaaDoor
