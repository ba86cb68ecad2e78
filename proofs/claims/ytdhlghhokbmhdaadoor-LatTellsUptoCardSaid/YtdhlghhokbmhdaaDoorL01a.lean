/- Plain laws of finite orders: joins, meets, bounds. -/
namespace Go.Proofs.YtdhlghhokbmhdaaDoor
set_option linter.unusedVariables false
set_option linter.unusedSimpArgs false
set_option maxRecDepth 100000
/-- The first point that stands above both, and below whatever does. -/
def jn (n : Nat) (r : Nat → Nat → Bool) (a b : Nat) : Option Nat := (List.range n).find? fun c => r a c && r b c && (List.range n).all fun d => !(r a d && r b d) || r c d
def tr (r : Nat → Nat → Bool) (a b : Nat) : Bool := r b a
structure Ord (n : Nat) (r : Nat → Nat → Bool) : Prop where
  refl : ∀ a, a < n → r a a = true
  anti : ∀ a b, a < n → b < n → r a b = true → r b a = true → a = b
  trans : ∀ a b c, a < n → b < n → c < n → r a b = true → r b c = true → r a c = true
structure Latt (n : Nat) (r : Nat → Nat → Bool) : Prop extends Ord n r where
  pos : 0 < n
  hasJ : ∀ a b, a < n → b < n → (jn n r a b).isSome = true
  hasM : ∀ a b, a < n → b < n → (jn n (tr r) a b).isSome = true
theorem Ord.tr {n : Nat} {r : Nat → Nat → Bool} (h : Ord n r) : Ord n (tr r) :=
  ⟨h.refl, fun a b ha hb h1 h2 => h.anti a b ha hb h2 h1, fun a b c ha hb hc h1 h2 => h.trans c b a hc hb ha h2 h1⟩
theorem Latt.tr {n : Nat} {r : Nat → Nat → Bool} (h : Latt n r) : Latt n (tr r) :=
  { h.toOrd.tr with pos := h.pos, hasJ := h.hasM, hasM := h.hasJ }
variable {n : Nat} {r : Nat → Nat → Bool}
/-- What stands above c stands above both. -/
def IsJ (n : Nat) (r : Nat → Nat → Bool) (a b c : Nat) : Prop := c < n ∧ ∀ z, z < n → r c z = (r a z && r b z)
theorem jn_isJ (h : Ord n r) {a b c : Nat} (ha : a < n) (hb : b < n) (e : jn n r a b = some c) : IsJ n r a b c := by
  unfold jn at e
  have h1 := List.mem_of_find?_eq_some e
  have h2 := List.find?_some e
  have hc : c < n := List.mem_range.1 h1
  simp only [Bool.and_eq_true, List.all_eq_true, List.mem_range] at h2
  obtain ⟨⟨h3, h4⟩, h5⟩ := h2
  refine ⟨hc, fun z hz => ?_⟩
  have h6 := h5 z hz
  cases hcz : r c z
  · cases h7 : (r a z && r b z)
    · rfl
    · rw [h7, hcz] at h6; cases h6
  · rw [h.trans a c z ha hc hz h3 hcz, h.trans b c z hb hc hz h4 hcz]; rfl
theorem isJ_uniq (h : Ord n r) {a b c d : Nat} (h1 : IsJ n r a b c) (h2 : IsJ n r a b d) : c = d := by
  refine h.anti c d h1.1 h2.1 ?_ ?_
  · rw [h1.2 d h2.1, ← h2.2 d h2.1]; exact h.refl d h2.1
  · rw [h2.2 c h1.1, ← h1.2 c h1.1]; exact h.refl c h1.1
theorem isJ_jn (h : Ord n r) {a b c : Nat} (ha : a < n) (hb : b < n) (hc : IsJ n r a b c) : jn n r a b = some c := by
  have hcc := h.refl c hc.1
  have hs : (jn n r a b).isSome = true := by
    unfold jn
    rw [List.find?_isSome]
    refine ⟨c, List.mem_range.2 hc.1, ?_⟩
    rw [hc.2 c hc.1] at hcc
    simp only [Bool.and_eq_true, List.all_eq_true, List.mem_range]
    simp only [Bool.and_eq_true] at hcc
    refine ⟨hcc, fun d hd => ?_⟩
    rw [← hc.2 d hd]
    cases r c d <;> rfl
  obtain ⟨d, hd⟩ := Option.isSome_iff_exists.1 hs
  rw [hd, isJ_uniq h (jn_isJ h ha hb hd) hc]
theorem Latt.join (h : Latt n r) {a b : Nat} (ha : a < n) (hb : b < n) : ∃ c, jn n r a b = some c ∧ IsJ n r a b c := by
  obtain ⟨c, hc⟩ := Option.isSome_iff_exists.1 (h.hasJ a b ha hb)
  exact ⟨c, hc, jn_isJ h.toOrd ha hb hc⟩
/-- The join as a number; there is none: -1. -/
def jI (n : Nat) (r : Nat → Nat → Bool) (a b : Nat) : Int := match jn n r a b with | some c => c | none => -1
theorem jI_some {a b c : Nat} (h : jn n r a b = some c) : jI n r a b = c := by unfold jI; rw [h]
theorem IsJ.comm {a b c : Nat} (h : IsJ n r a b c) : IsJ n r b a c := ⟨h.1, fun z hz => by rw [h.2 z hz, Bool.and_comm]⟩
theorem jn_comm (h : Ord n r) {a b : Nat} (ha : a < n) (hb : b < n) : jn n r a b = jn n r b a := by
  cases e : jn n r a b with
  | some c => rw [isJ_jn h hb ha (jn_isJ h ha hb e).comm]
  | none =>
    cases e2 : jn n r b a with
    | none => rfl
    | some c => rw [isJ_jn h ha hb (jn_isJ h hb ha e2).comm] at e; cases e
theorem isJ_self (h : Ord n r) {a : Nat} (ha : a < n) : IsJ n r a a a := ⟨ha, fun z _ => (Bool.and_self _).symm⟩
theorem isJ_of_le (h : Ord n r) {a b : Nat} (ha : a < n) (hb : b < n) (hab : r a b = true) : IsJ n r a b b := ⟨hb, fun z hz => by
  cases hbz : r b z
  · rw [Bool.and_false]
  · rw [h.trans a b z ha hb hz hab hbz]; rfl⟩
theorem IsJ.le1 (h : Ord n r) {a b c : Nat} (hc : IsJ n r a b c) : r a c = true := by
  have := hc.2 c hc.1; rw [h.refl c hc.1] at this
  simp only [Bool.true_eq, Bool.and_eq_true] at this; exact this.1
theorem IsJ.le2 (h : Ord n r) {a b c : Nat} (hc : IsJ n r a b c) : r b c = true := hc.comm.le1 h
theorem isJ_assoc (h : Ord n r) {x y z p q s t : Nat} (h1 : IsJ n r x y p) (h2 : IsJ n r p z q) (h3 : IsJ n r y z s) (h4 : IsJ n r x s t) : q = t :=
  isJ_uniq h h2 (a := p) (b := z) ⟨h4.1, fun w hw => by rw [h4.2 w hw, h3.2 w hw, h1.2 w hw, Bool.and_assoc]⟩
/-- A join with a meet of it. -/
theorem isJ_absorb (h : Ord n r) {x y m : Nat} (hx : x < n) (hm : IsJ n (tr r) x y m) : IsJ n r x m x :=
  (isJ_of_le h hm.1 hx (hm.le1 h.tr)).comm
/-- The point below all. -/
def IsBot (n : Nat) (r : Nat → Nat → Bool) (b : Nat) : Prop := b < n ∧ ∀ z, z < n → r b z = true
theorem isBot_uniq (h : Ord n r) {a b : Nat} (ha : IsBot n r a) (hb : IsBot n r b) : a = b := h.anti a b ha.1 hb.1 (ha.2 b hb.1) (hb.2 a ha.1)
/-- Meets, one behind another. -/
def foldM (n : Nat) (r : Nat → Nat → Bool) : Nat → Option Nat
  | 0 => some 0
  | k + 1 => match foldM n r k with | some x => jn n (tr r) x k | none => none
theorem foldM_spec (h : Latt n r) : ∀ k, k ≤ n → ∃ x, foldM n r k = some x ∧ x < n ∧ ∀ z, z < k → r x z = true
  | 0, _ => ⟨0, rfl, h.pos, fun z hz => by omega⟩
  | k + 1, hk => by
    obtain ⟨x, h1, h2, h3⟩ := foldM_spec h k (by omega)
    obtain ⟨c, h4, h5⟩ := h.tr.join h2 (show k < n by omega)
    refine ⟨c, by unfold foldM; rw [h1]; exact h4, h5.1, fun z hz => ?_⟩
    by_cases e : z = k
    · subst e; exact h5.le2 h.toOrd.tr
    · exact h.trans c x z h5.1 h2 (by omega) (h5.le1 h.toOrd.tr) (h3 z (by omega))
theorem Latt.bot (h : Latt n r) : ∃ x, foldM n r n = some x ∧ IsBot n r x := by
  obtain ⟨x, h1, h2, h3⟩ := foldM_spec h n (Nat.le_refl _)
  exact ⟨x, h1, h2, h3⟩
/-- What nothing else stands below of is the bottom. -/
theorem Latt.minimal (h : Latt n r) {x : Nat} (hx : x < n) (hm : ∀ z, z < n → r z x = true → z = x) : IsBot n r x := by
  obtain ⟨b, _, hb⟩ := h.bot
  have := hm b hb.1 (hb.2 x hx)
  subst this; exact hb
end Go.Proofs.YtdhlghhokbmhdaaDoor
