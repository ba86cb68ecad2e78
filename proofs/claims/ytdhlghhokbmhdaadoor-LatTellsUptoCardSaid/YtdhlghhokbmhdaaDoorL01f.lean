/- Plain laws of what is a lattice: its bounds as they are looked for. -/
import Derived.Test.YtdhlghhokbmhdaaDoorL01e
import Derived.Test.YtdhlghhokbmhdaaDoorR01f
namespace Go.Proofs.YtdhlghhokbmhdaaDoor
set_option linter.unusedVariables false
set_option linter.unusedSimpArgs false
set_option maxRecDepth 100000
open Go

/-- Whether it is a lattice. -/
def rightB (ns : List (List UInt8)) (us : List Nat) : Bool := decide (ns.length ≤ 64) && decide (us.length = ns.length) && namedB ns && (us.all (fun x => decide (x < 2 ^ us.length)) && (ordB us.length (lq us) && boundB us.length (lq us)))
theorem right_spec {ns : List (List UInt8)} {us : List Nat} (h : rightB ns us = true) : ns.length ≤ 64 ∧ us.length = ns.length ∧ namedB ns = true ∧ Inn us.length us ∧ Latt us.length (lq us) := by
  unfold rightB at h
  simp only [Bool.and_eq_true, decide_eq_true_eq, List.all_eq_true] at h
  obtain ⟨⟨⟨h1, h2⟩, h3⟩, h4, h5⟩ := h
  refine ⟨h1, h2, h3, h4, (latt_iff ?_).1 h5⟩
  unfold namedB at h3
  simp only [Bool.and_eq_true, decide_eq_true_eq] at h3
  omega
theorem bot_idx {us : List Nat} (hi : Inn us.length us) (h : Latt us.length (lq us)) : idxF (fun x => decide (2 ^ us.length - 1 = x)) us = oI (foldM us.length (lq us) us.length) := by
  obtain ⟨b, h1, hb⟩ := h.bot
  rw [h1]
  have key : ∀ j x, us[j]? = some x → (2 ^ us.length - 1 = x ↔ IsBot us.length (lq us) j) := fun j x hx => by
    have hd : us.getD j 0 = x := by rw [List.getD_eq_getElem?_getD, hx]; rfl
    have hxn := getD_lt hi j
    rw [hd] at hxn
    constructor
    · intro e
      refine ⟨(List.getElem?_eq_some_iff.1 hx).1, fun z hz => ?_⟩
      unfold lq
      rw [hd, ← e, Nat.testBit_two_pow_sub_one]
      exact decide_eq_true hz
    · intro hbot
      refine Nat.eq_of_testBit_eq fun z => ?_
      rw [Nat.testBit_two_pow_sub_one]
      by_cases hz : z < us.length
      · have := hbot.2 z hz
        unfold lq at this
        rw [hd] at this
        rw [this, decide_eq_true hz]
      · rw [decide_eq_false hz, Nat.testBit_lt_two_pow (Nat.lt_of_lt_of_le hxn (Nat.pow_le_pow_right (by decide) (by omega)))]
  have hbl : b < us.length := hb.1
  have gb : us[b]? = some us[b] := List.getElem?_eq_getElem hbl
  refine idxF_some (fun j y hj hy => decide_eq_false fun e => ?_) gb (decide_eq_true ((key b _ gb).2 hb))
  have := isBot_uniq h.toOrd ((key j y hy).1 e) hb
  omega
theorem tr_tr (r : Nat → Nat → Bool) : tr (tr r) = r := rfl
theorem top_idx {us : List Nat} (hn : us.length ≤ 64) (hi : Inn us.length us) (h : Latt us.length (lq us)) : idxF (fun x => decide ((bitsOf x).length = 1)) us = oI (foldM us.length (tr (lq us)) us.length) := by
  obtain ⟨t, h1, ht⟩ := h.tr.bot
  rw [h1]
  have hget : ∀ j x, us[j]? = some x → us.getD j 0 = x ∧ x < 2 ^ 64 := fun j x hx => by
    have hd : us.getD j 0 = x := by rw [List.getD_eq_getElem?_getD, hx]; rfl
    have hxn := getD_lt hi j
    rw [hd] at hxn
    exact ⟨hd, le64 hn hxn⟩
  have htl : t < us.length := ht.1
  have gt : us[t]? = some us[t] := List.getElem?_eq_getElem htl
  refine idxF_some (fun j y hj hy => decide_eq_false fun e => ?_) gt (decide_eq_true ?_)
  · obtain ⟨hd, hy64⟩ := hget j y hy
    have hjn := (List.getElem?_eq_some_iff.1 hy).1
    have a1 : j ∈ bitsOf y := (mem_bitsOf hy64).2 (by have := h.refl j hjn; unfold lq at this; rwa [hd] at this)
    have a2 : t ∈ bitsOf y := (mem_bitsOf hy64).2 (by have := ht.2 j hjn; unfold tr lq at this; rwa [hd] at this)
    obtain ⟨c, hc⟩ := List.length_eq_one_iff.1 e
    rw [hc, List.mem_singleton] at a1 a2
    omega
  · obtain ⟨hd, hy64⟩ := hget t _ gt
    have : bitsOf us[t] = [t] := by
      refine rise_uniq _ _ (bitsOf_rise _) (by simp) fun z => ?_
      rw [mem_bitsOf hy64, List.mem_singleton, ← hd]
      constructor
      · intro hz
        have hzn := bit_lt (getD_lt hi t) hz
        exact h.anti z t hzn ht.1 (ht.2 z hzn) hz
      · rintro rfl
        exact h.refl z ht.1
    rw [this]; rfl

end Go.Proofs.YtdhlghhokbmhdaaDoor
