/- The law on lattices that are turned. -/
import Derived.Test.YtdhlghhokbmhdaaDoorT01b
import Derived.Test.YtdhlghhokbmhdaaDoorZ01c
namespace Go.Proofs.YtdhlghhokbmhdaaDoor
set_option linter.unusedVariables false
set_option linter.unusedSimpArgs false
set_option maxRecDepth 100000
open Go.RowKit Fw

/-- The rows turned, so far. -/
def tp (us : List Nat) (n i k : Nat) : List Nat := (List.range n).map fun j => dn us j (if j < k then i + 1 else i)
theorem tp_len (us : List Nat) (n i k : Nat) : (tp us n i k).length = n := by simp [tp]
theorem tp_get (us : List Nat) {n i k : Nat} (h : k < n) : (tp us n i k)[k]? = some (dn us k i) := by simp [tp, h]
theorem tp_step (us : List Nat) {n i k : Nat} : (tp us n i k).set k (dn us k (i + 1)) = tp us n i (k + 1) := by
  refine List.ext_getElem? fun j => ?_
  by_cases e : k = j
  · subst e
    by_cases h : k < n
    · rw [List.getElem?_set_self (by rw [tp_len]; exact h)]; simp [tp, h]
    · rw [List.getElem?_eq_none (by simp [tp]; omega), List.getElem?_eq_none (by simp [tp]; omega)]
  · rw [List.getElem?_set_ne e]
    unfold tp
    rw [List.getElem?_map, List.getElem?_map]
    by_cases h : j < n
    · rw [List.getElem?_range h]
      simp only [Option.map_some]
      by_cases h2 : j < k
      · rw [if_pos h2, if_pos (by omega)]
      · rw [if_neg h2, if_neg (by omega)]
    · rw [List.getElem?_eq_none (by simpa using h)]; rfl
theorem tp_end (us : List Nat) (n i : Nat) : tp us n i n = tp us n (i + 1) 0 := by
  unfold tp
  refine List.map_congr_left fun j hj => ?_
  rw [if_pos (List.mem_range.1 hj), if_neg (Nat.not_lt_zero _)]
theorem tp_zero (us : List Nat) (n : Nat) : (List.replicate n [PV.int .u64 0]) = (tp us n 0 0).map U1 := by
  refine List.ext_getElem? fun j => ?_
  by_cases h : j < n
  · simp [tp, h, dn, U1]
  · rw [List.getElem?_eq_none (by simpa using h), List.getElem?_eq_none (by simp [tp]; omega)]
theorem dn_on {us : List Nat} {i k : Nat} (h : lq us i k = true) : dn us k i ||| 2 ^ i = dn us k (i + 1) := by
  refine Nat.eq_of_testBit_eq fun j => ?_
  rw [Nat.testBit_or, dn_bit, dn_bit, Nat.testBit_two_pow]
  by_cases e : i = j
  · subst e; simp [h]
  · have : decide (j < i + 1) = decide (j < i) := decide_eq_decide.2 (by omega)
    rw [this]; simp [e]
theorem dn_off {us : List Nat} {i k : Nat} (h : lq us i k = false) : dn us k i = dn us k (i + 1) := by
  refine Nat.eq_of_testBit_eq fun j => ?_
  rw [dn_bit, dn_bit]
  by_cases e : i = j
  · subst e; simp [h]
  · have : decide (j < i + 1) = decide (j < i) := decide_eq_decide.2 (by omega)
    rw [this]
theorem tp_lq {us : List Nat} (hi : Inn us.length us) : lq (tp us us.length us.length 0) = tr (lq us) := by
  funext a b
  show ((tp us us.length us.length 0).getD a 0).testBit b = lq us b a
  by_cases h : a < us.length
  · rw [List.getD_eq_getElem?_getD]
    have : (tp us us.length us.length 0)[a]? = some (dn us a us.length) := by simp [tp, h]
    rw [this, Option.getD_some, dn_bit]
    by_cases hb : b < us.length
    · rw [decide_eq_true hb, Bool.true_and]
    · rw [decide_eq_false hb, Bool.false_and]
      cases e : lq us b a
      · rfl
      · exact absurd (lq_lt1 e) hb
  · rw [List.getD_eq_getElem?_getD, List.getElem?_eq_none (by rw [tp_len]; omega)]
    cases e : lq us b a
    · simp
    · exact absurd (lq_lt hi e) h
theorem tp_right {ns : List (List UInt8)} {us : List Nat} (h : rightB ns us = true) : rightB ns (tp us us.length us.length 0) = true := by
  obtain ⟨r1, r2, r3, r4, r5⟩ := right_spec h
  unfold rightB
  rw [tp_lq r4, tp_len, r2, decide_eq_true r1, decide_eq_true rfl, r3]
  simp only [Bool.true_and, Bool.and_eq_true, List.all_eq_true, decide_eq_true_eq]
  rw [← r2]
  refine ⟨fun x hx => ?_, ?_⟩
  · obtain ⟨j, hj, rfl⟩ := List.mem_map.1 hx
    rw [if_neg (Nat.not_lt_zero _)]; exact dn_lt ..
  · exact (latt_iff r5.pos).2 r5.tr
theorem tp_w64 {us : List Nat} {n i : Nat} (h : i ≤ 64) : W64 (tp us n i 0) := fun x hx => by
  obtain ⟨j, hj, rfl⟩ := List.mem_map.1 hx
  rw [if_neg (Nat.not_lt_zero _)]
  exact Nat.lt_of_lt_of_le (dn_lt us j i) (Nat.pow_le_pow_right (by decide) h)
theorem set_at0 (K : List Blk) (x y : Blk) : (K ++ [x]).set K.length y = K ++ [y] := by
  rw [List.set_append_right _ _ (Nat.le_refl _), Nat.sub_self]; rfl
set_option maxHeartbeats 8000000 in
/-- LatTurned -/
theorem c9 (Γ : Nat → PV) (hT : Tab Γ) (ns : List (List UInt8)) (us : List Nat) (hw : W64 us) (a b : Int) (ha0 : 0 ≤ a) (ha1 : a < 256) (hb0 : 0 ≤ b) (hb1 : b < 256) : Gives Tryd.prog Γ 9 [.agg [.vec (ns.map S1) false, .vec (us.map U1) false], .int .u8 a, .int .u8 b] (.bool true) := by
  obtain ⟨hΓ, hM⟩ := id hT
  have h10 := c10 Γ hT
  have h15 := c15 Γ hΓ ns us hw
  refine fn_of_awp Tryd.func9 rfl (by simp [Tryd.f9]) rfl fun H => ?_
  refine awp_seq ?_
  refine awp_run rfl (by simp only [fwA, ↓reduceIte, Nat.reduceAdd, Nat.reduceMul, Nat.reduceEqDiff, Nat.reduceLT, Nat.reduceLeDiff, reduceCtorEq] <;> rfl) ?_
  have hK0 : (H ++ [Blk.box [.vec (ns.map S1) false, .vec (us.map U1) false]])[H.length]? = some (.box [.vec (ns.map S1) false, .vec (us.map U1) false]) := by rw [Fw.get_at0]; rfl
  have hL : (H ++ [Blk.box [.vec (ns.map S1) false, .vec (us.map U1) false]]).length = H.length + 1 := by simp
  have hpre : ∃ L, H ++ [Blk.box [.vec (ns.map S1) false, .vec (us.map U1) false]] = H ++ L := ⟨_, rfl⟩
  generalize hK : H ++ [Blk.box [.vec (ns.map S1) false, .vec (us.map U1) false]] = K at hK0 hL hpre ⊢
  have hK1 : ∀ L : List Blk, (K ++ L)[H.length]? = some (.box [.vec (ns.map S1) false, .vec (us.map U1) false]) := fun L => by rw [List.getElem?_append_left (by omega)]; exact hK0
  refine awp_seq ?_
  refine awp_region rfl ?_
  refine aops_fn rfl rfl rfl en10 h10 ?_
  refine aops_run 1 (by simp only [fwA, ↓reduceIte, Nat.reduceAdd, Nat.reduceMul, Nat.reduceEqDiff, Nat.reduceLT, Nat.reduceLeDiff, reduceCtorEq, bitfw, Int.reduceToNat, Int.reduceLE, Int.reduceEq, Int.reduceNeg, List.length_map, List.getElem?_map, Option.map_some, Int.natCast_nonneg, Int.toNat_natCast, decide_true, decide_false, Bool.and_true, Bool.and_self, Bool.not_true, Bool.not_false, Bool.false_and, Bool.true_and, ne_eq, not_true_eq_false, not_false_eq_true, beq_self_eq_true, un9, un21, un22, un23, un5, un50, un4, ti9, ti22, ti23, ti50, ti25, ti27, pl25, pl27, fl25_0, fl25_1, fl27_0, fl27_1, el22, el23, un3, S1_fw, U1_fw] <;> rfl) ?_
  refine aops_end ?_
  refine awp_seq ?_
  refine awp_seq ?_
  refine awp_run rfl (by simp only [fwA, ↓reduceIte, Nat.reduceAdd, Nat.reduceMul, Nat.reduceEqDiff, Nat.reduceLT, Nat.reduceLeDiff, reduceCtorEq] <;> rfl) ?_
  refine awp_cond (b := false) (by simp [alook, aput, ev]) (awp_skip ?_)
  refine awp_seq ?_
  refine awp_seq ?_
  cases hR : rightB ns us
  · rw [hR] at h15
    refine awp_region rfl ?_
    refine aops_run 1 (by simp only [fwA, ↓reduceIte, Nat.reduceAdd, Nat.reduceMul, Nat.reduceEqDiff, Nat.reduceLT, Nat.reduceLeDiff, reduceCtorEq, bitfw, Int.reduceToNat, Int.reduceLE, Int.reduceEq, Int.reduceNeg, List.length_map, List.getElem?_map, Option.map_some, Int.natCast_nonneg, Int.toNat_natCast, decide_true, decide_false, Bool.and_true, Bool.and_self, Bool.not_true, Bool.not_false, Bool.false_and, Bool.true_and, ne_eq, not_true_eq_false, not_false_eq_true, beq_self_eq_true, un9, un21, un22, un23, un5, un50, un4, ti9, ti22, ti23, ti50, ti25, ti27, pl25, pl27, fl25_0, fl25_1, fl27_0, fl27_1, el22, el23, un3, S1_fw, U1_fw, hK0] <;> rfl) ?_
    refine aops_fn rfl rfl rfl en15 h15 ?_
    refine aops_run 1 (by simp only [fwA, ↓reduceIte, Nat.reduceAdd, Nat.reduceMul, Nat.reduceEqDiff, Nat.reduceLT, Nat.reduceLeDiff, reduceCtorEq, bitfw, Int.reduceToNat, Int.reduceLE, Int.reduceEq, Int.reduceNeg, List.length_map, List.getElem?_map, Option.map_some, Int.natCast_nonneg, Int.toNat_natCast, decide_true, decide_false, Bool.and_true, Bool.and_self, Bool.not_true, Bool.not_false, Bool.false_and, Bool.true_and, ne_eq, not_true_eq_false, not_false_eq_true, beq_self_eq_true, un9, un21, un22, un23, un5, un50, un4, ti9, ti22, ti23, ti50, ti25, ti27, pl25, pl27, fl25_0, fl25_1, fl27_0, fl27_1, el22, el23, un3, S1_fw, U1_fw, hK0] <;> rfl) ?_
    refine aops_end ?_
    refine awp_cond (b := true) (by simp [alook, aput, ev]) ?_
    refine awp_seq ?_
    refine awp_run rfl (by simp only [fwA, ↓reduceIte, Nat.reduceAdd, Nat.reduceMul, Nat.reduceEqDiff, Nat.reduceLT, Nat.reduceLeDiff, reduceCtorEq] <;> rfl) ?_
    refine awp_ret ?_
    obtain ⟨L, rfl⟩ := hpre
    exact gives_end (.inl rfl) _ rfl
  rw [hR] at h15
  obtain ⟨r1, r2, r3, r4, r5⟩ := right_spec hR
  have hp := r5.pos
  have hn0 : ¬ ((us.length : Int) = 0) := by omega
  have hwa : IntKind.i64.wrap a = a := wrapId ⟨by omega, by omega⟩
  have hwb : IntKind.i64.wrap b = b := wrapId ⟨by omega, by omega⟩
  have hta := tmod_nat (n := us.length) ha0
  have htb := tmod_nat (n := us.length) hb0
  have hx : a.toNat % us.length < us.length := Nat.mod_lt _ (by omega)
  have hy : b.toNat % us.length < us.length := Nat.mod_lt _ (by omega)
  have hq : ∀ x y, x < us.length → y < us.length → Gives Tryd.prog Γ 17 [.agg [.vec (ns.map S1) false, .vec (us.map U1) false], .int .i64 (x : Int), .int .i64 (y : Int)] (.bool (lq us x y)) := fun x y hx hy => by
    have := c17 Γ ns us hw (x : Int) (y : Int)
    rw [leq_nat r2 hx hy] at this; exact this
  refine awp_region rfl ?_
  refine aops_run 1 (by simp only [fwA, ↓reduceIte, Nat.reduceAdd, Nat.reduceMul, Nat.reduceEqDiff, Nat.reduceLT, Nat.reduceLeDiff, reduceCtorEq, bitfw, Int.reduceToNat, Int.reduceLE, Int.reduceEq, Int.reduceNeg, List.length_map, List.getElem?_map, Option.map_some, Int.natCast_nonneg, Int.toNat_natCast, decide_true, decide_false, Bool.and_true, Bool.and_self, Bool.not_true, Bool.not_false, Bool.false_and, Bool.true_and, ne_eq, not_true_eq_false, not_false_eq_true, beq_self_eq_true, un9, un21, un22, un23, un5, un50, un4, ti9, ti22, ti23, ti50, ti25, ti27, pl25, pl27, fl25_0, fl25_1, fl27_0, fl27_1, el22, el23, un3, S1_fw, U1_fw, hK0] <;> rfl) ?_
  refine aops_fn rfl rfl rfl en15 h15 ?_
  refine aops_run 1 (by simp only [fwA, ↓reduceIte, Nat.reduceAdd, Nat.reduceMul, Nat.reduceEqDiff, Nat.reduceLT, Nat.reduceLeDiff, reduceCtorEq, bitfw, Int.reduceToNat, Int.reduceLE, Int.reduceEq, Int.reduceNeg, List.length_map, List.getElem?_map, Option.map_some, Int.natCast_nonneg, Int.toNat_natCast, decide_true, decide_false, Bool.and_true, Bool.and_self, Bool.not_true, Bool.not_false, Bool.false_and, Bool.true_and, ne_eq, not_true_eq_false, not_false_eq_true, beq_self_eq_true, un9, un21, un22, un23, un5, un50, un4, ti9, ti22, ti23, ti50, ti25, ti27, pl25, pl27, fl25_0, fl25_1, fl27_0, fl27_1, el22, el23, un3, S1_fw, U1_fw, hK0] <;> rfl) ?_
  refine aops_end ?_
  refine awp_cond (b := false) (by simp [alook, aput, ev]) (awp_skip ?_)
  refine awp_seq ?_
  refine awp_run rfl (by simp only [fwA, ↓reduceIte, Nat.reduceAdd, Nat.reduceMul, Nat.reduceEqDiff, Nat.reduceLT, Nat.reduceLeDiff, reduceCtorEq, bitfw, Int.reduceToNat, Int.reduceLE, Int.reduceEq, Int.reduceNeg, List.length_map, List.getElem?_map, Option.map_some, Int.natCast_nonneg, Int.toNat_natCast, decide_true, decide_false, Bool.and_true, Bool.and_self, Bool.not_true, Bool.not_false, Bool.false_and, Bool.true_and, ne_eq, not_true_eq_false, not_false_eq_true, beq_self_eq_true, un9, un21, un22, un23, un5, un50, un4, ti9, ti22, ti23, ti50, ti25, ti27, pl25, pl27, fl25_0, fl25_1, fl27_0, fl27_1, el22, el23, un3, S1_fw, U1_fw, hK0, ← r2] <;> rfl) ?_
  refine awp_seq ?_
  refine awp_region rfl ?_
  refine aops_run 1 (by simp only [fwA, ↓reduceIte, Nat.reduceAdd, Nat.reduceMul, Nat.reduceEqDiff, Nat.reduceLT, Nat.reduceLeDiff, reduceCtorEq, bitfw, Int.reduceToNat, Int.reduceLE, Int.reduceEq, Int.reduceNeg, List.length_map, List.getElem?_map, Option.map_some, Int.natCast_nonneg, Int.toNat_natCast, decide_true, decide_false, Bool.and_true, Bool.and_self, Bool.not_true, Bool.not_false, Bool.false_and, Bool.true_and, ne_eq, not_true_eq_false, not_false_eq_true, beq_self_eq_true, un9, un21, un22, un23, un5, un50, un4, ti9, ti22, ti23, ti50, ti25, ti27, pl25, pl27, fl25_0, fl25_1, fl27_0, fl27_1, el22, el23, un3, S1_fw, U1_fw] <;> rfl) ?_
  refine aops_one rfl (os_makeRow (n := us.length) rfl un23 ti50 (by decide) rfl rfl (by omega) (by show 8 * us.length ≤ _; omega) ?_)
  refine aops_run 1 (by simp only [fwA, ↓reduceIte, Nat.reduceAdd, Nat.reduceMul, Nat.reduceEqDiff, Nat.reduceLT, Nat.reduceLeDiff, reduceCtorEq, bitfw, Int.reduceToNat, Int.reduceLE, Int.reduceEq, Int.reduceNeg, List.length_map, List.getElem?_map, Option.map_some, Int.natCast_nonneg, Int.toNat_natCast, decide_true, decide_false, Bool.and_true, Bool.and_self, Bool.not_true, Bool.not_false, Bool.false_and, Bool.true_and, ne_eq, not_true_eq_false, not_false_eq_true, beq_self_eq_true, un9, un21, un22, un23, un5, un50, un4, ti9, ti22, ti23, ti50, ti25, ti27, pl25, pl27, fl25_0, fl25_1, fl27_0, fl27_1, el22, el23, un3, S1_fw, U1_fw] <;> rfl) ?_
  refine aops_end ?_
  refine awp_heap (H' := K ++ [.row 1 (((tp us us.length 0 0).map U1).flatten)]) (by rw [← tp_zero]) ?_
  refine awp_seq ?_
  refine awp_seq ?_
  refine awp_run rfl (by simp only [fwA, ↓reduceIte, Nat.reduceAdd, Nat.reduceMul, Nat.reduceEqDiff, Nat.reduceLT, Nat.reduceLeDiff, reduceCtorEq] <;> rfl) ?_
  refine awp_block ?_
  refine awp_for [1, 2, 3, 7, 8, 9, 10] (fun i : Nat => [.int .u8 a, .int .u8 b, .ptr H.length 0, .bool true, .int .i64 (us.length : Int), .row K.length 0 us.length 1, .int .i64 (i : Int)]) (fun i => K ++ [.row 1 (((tp us us.length i 0).map U1).flatten)]) (fun i => us.length - i) (fun i => i ≤ us.length) 0 rfl rfl (Nat.zero_le _) fun i hil => ?_
  refine awp_seq ?_
  refine awp_seq ?_
  refine awp_run rfl (by simp only [fwA, ↓reduceIte, Nat.reduceAdd, Nat.reduceMul, Nat.reduceEqDiff, Nat.reduceLT, Nat.reduceLeDiff, reduceCtorEq, bitfw, Int.reduceToNat, Int.reduceLE, Int.reduceEq, Int.reduceNeg, List.length_map, List.getElem?_map, Option.map_some, Int.natCast_nonneg, Int.toNat_natCast, decide_true, decide_false, Bool.and_true, Bool.and_self, Bool.not_true, Bool.not_false, Bool.false_and, Bool.true_and, ne_eq, not_true_eq_false, not_false_eq_true, beq_self_eq_true, un9, un21, un22, un23, un5, un50, un4, ti9, ti22, ti23, ti50, ti25, ti27, pl25, pl27, fl25_0, fl25_1, fl27_0, fl27_1, el22, el23, un3, S1_fw, U1_fw] <;> rfl) ?_
  refine awp_cond (by simp only [fwA, ↓reduceIte, Nat.reduceAdd, Nat.reduceMul, Nat.reduceEqDiff, Nat.reduceLT, Nat.reduceLeDiff, reduceCtorEq] <;> rfl) ?_
  by_cases hc : (i : Int) < us.length
  · simp only [hc, decide_true, ↓reduceIte]
    refine awp_skip ?_
    have hi : i < us.length := by omega
    have hwi : IntKind.i64.wrap ((i : Int) + 1) = ((i + 1 : Nat) : Int) := wrapS i (by omega)
    refine awp_seq ?_
    refine awp_block ?_
    refine awp_seq ?_
    refine awp_run rfl (by simp only [fwA, ↓reduceIte, Nat.reduceAdd, Nat.reduceMul, Nat.reduceEqDiff, Nat.reduceLT, Nat.reduceLeDiff, reduceCtorEq] <;> rfl) ?_
    refine awp_block ?_
    refine awp_for [1, 2, 3, 7, 8, 9, 10, 11] (fun k : Nat => [.int .u8 a, .int .u8 b, .ptr H.length 0, .bool true, .int .i64 (us.length : Int), .row K.length 0 us.length 1, .int .i64 (i : Int), .int .i64 (k : Int)]) (fun k => K ++ [.row 1 (((tp us us.length i k).map U1).flatten)]) (fun k => us.length - k) (fun k => k ≤ us.length) 0 rfl rfl (Nat.zero_le _) fun k hkl => ?_
    refine awp_seq ?_
    refine awp_seq ?_
    refine awp_run rfl (by simp only [fwA, ↓reduceIte, Nat.reduceAdd, Nat.reduceMul, Nat.reduceEqDiff, Nat.reduceLT, Nat.reduceLeDiff, reduceCtorEq, bitfw, Int.reduceToNat, Int.reduceLE, Int.reduceEq, Int.reduceNeg, List.length_map, List.getElem?_map, Option.map_some, Int.natCast_nonneg, Int.toNat_natCast, decide_true, decide_false, Bool.and_true, Bool.and_self, Bool.not_true, Bool.not_false, Bool.false_and, Bool.true_and, ne_eq, not_true_eq_false, not_false_eq_true, beq_self_eq_true, un9, un21, un22, un23, un5, un50, un4, ti9, ti22, ti23, ti50, ti25, ti27, pl25, pl27, fl25_0, fl25_1, fl27_0, fl27_1, el22, el23, un3, S1_fw, U1_fw] <;> rfl) ?_
    refine awp_cond (by simp only [fwA, ↓reduceIte, Nat.reduceAdd, Nat.reduceMul, Nat.reduceEqDiff, Nat.reduceLT, Nat.reduceLeDiff, reduceCtorEq] <;> rfl) ?_
    by_cases hc2 : (k : Int) < us.length
    · simp only [hc2, decide_true, ↓reduceIte]
      refine awp_skip ?_
      have hk : k < us.length := by omega
      have hwk : IntKind.i64.wrap ((k : Int) + 1) = ((k + 1 : Nat) : Int) := wrapS k (by omega)
      have hqi := hq i k hi hk
      cases hl : lq us i k
      · rw [hl] at hqi
        refine awp_seq ?_
        refine awp_block ?_
        refine awp_seq ?_
        refine awp_region rfl ?_
        refine aops_run 3 (by simp only [fwA, ↓reduceIte, Nat.reduceAdd, Nat.reduceMul, Nat.reduceEqDiff, Nat.reduceLT, Nat.reduceLeDiff, reduceCtorEq, bitfw, Int.reduceToNat, Int.reduceLE, Int.reduceEq, Int.reduceNeg, List.length_map, List.getElem?_map, Option.map_some, Int.natCast_nonneg, Int.toNat_natCast, decide_true, decide_false, Bool.and_true, Bool.and_self, Bool.not_true, Bool.not_false, Bool.false_and, Bool.true_and, ne_eq, not_true_eq_false, not_false_eq_true, beq_self_eq_true, un9, un21, un22, un23, un5, un50, un4, ti9, ti22, ti23, ti50, ti25, ti27, pl25, pl27, fl25_0, fl25_1, fl27_0, fl27_1, el22, el23, un3, S1_fw, U1_fw, hK1] <;> rfl) ?_
        refine aops_fn rfl rfl rfl en17 hqi ?_
        refine aops_end ?_
        refine awp_cond (b := false) (by simp [alook, aput, ev]) (awp_skip ?_)
        refine awp_run rfl (by simp only [fwA, ↓reduceIte, Nat.reduceAdd, Nat.reduceMul, Nat.reduceEqDiff, Nat.reduceLT, Nat.reduceLeDiff, reduceCtorEq] <;> rfl) ?_
        refine ⟨k + 1, by omega, by omega, ?_, ?_, rfl⟩
        · simp only [fwA, ↓reduceIte, Nat.reduceAdd, Nat.reduceMul, Nat.reduceEqDiff, Nat.reduceLT, Nat.reduceLeDiff, reduceCtorEq, List.map_cons, List.map_nil, hwk]
        · have : tp us us.length i (k + 1) = tp us us.length i k := by
            rw [← tp_step, ← dn_off hl]
            obtain ⟨g1, g2⟩ := List.getElem?_eq_some_iff.1 (tp_get us hk)
            conv => lhs; rw [← g2]
            exact List.set_getElem_self _
          rw [this]
      · rw [hl] at hqi
        have hb : (K ++ [Blk.row 1 (((tp us us.length i k).map U1).flatten)])[K.length]? = some (.row 1 (((tp us us.length i k).map U1).flatten)) := by rw [Fw.get_at0]; rfl
        have hd64 : dn us k i < 2 ^ 64 := Nat.lt_of_lt_of_le (dn_lt us k i) (Nat.pow_le_pow_right (by decide) (by omega))
        have hi64 : i < 64 := by omega
        have hp64 : 2 ^ i < 2 ^ 64 := Nat.pow_lt_pow_right (by decide) hi64
        refine awp_seq ?_
        refine awp_block ?_
        refine awp_seq ?_
        refine awp_region rfl ?_
        refine aops_run 3 (by simp only [fwA, ↓reduceIte, Nat.reduceAdd, Nat.reduceMul, Nat.reduceEqDiff, Nat.reduceLT, Nat.reduceLeDiff, reduceCtorEq, bitfw, Int.reduceToNat, Int.reduceLE, Int.reduceEq, Int.reduceNeg, List.length_map, List.getElem?_map, Option.map_some, Int.natCast_nonneg, Int.toNat_natCast, decide_true, decide_false, Bool.and_true, Bool.and_self, Bool.not_true, Bool.not_false, Bool.false_and, Bool.true_and, ne_eq, not_true_eq_false, not_false_eq_true, beq_self_eq_true, un9, un21, un22, un23, un5, un50, un4, ti9, ti22, ti23, ti50, ti25, ti27, pl25, pl27, fl25_0, fl25_1, fl27_0, fl27_1, el22, el23, un3, S1_fw, U1_fw, hK1] <;> rfl) ?_
        refine aops_fn rfl rfl rfl en17 hqi ?_
        refine aops_end ?_
        refine awp_cond (b := true) (by simp [alook, aput, ev]) ?_
        refine awp_drawn [0, 0, 0, 0, 1, 1, 0, 0, 0, 1, 2] [0, 0, 0, 0, 12, 28, 0, 64, 252, 511, 1023] mixed rfl (by kernel_rfl) ?_
        refine dops_run 4 (by simp only [fwA, ↓reduceIte, Nat.reduceAdd, Nat.reduceMul, Nat.reduceEqDiff, Nat.reduceLT, Nat.reduceLeDiff, reduceCtorEq] <;> rfl) ?_
        refine dops_idxRow U1_len rfl rfl rfl el23 rfl rfl hb (by rw [tp_len]; omega) hk ?_
        refine dops_loadRow (i := k) (.int .u64 ((dn us k i : Nat) : Int)) U1_len rfl rfl rfl ti50 rfl hb (Nat.zero_add _) (by rw [tp_len]) (tp_get us hk) rfl (by rw [if_neg (by decide)]; rfl) ?_
        refine dops_run 3 (by simp only [fwA, ↓reduceIte, Nat.reduceAdd, Nat.reduceMul, Nat.reduceEqDiff, Nat.reduceLT, Nat.reduceLeDiff, reduceCtorEq, bitfw, Int.reduceToNat, Int.reduceLE, Int.reduceEq, Int.reduceNeg, List.length_map, List.getElem?_map, Option.map_some, Int.natCast_nonneg, Int.toNat_natCast, decide_true, decide_false, Bool.and_true, Bool.and_self, Bool.not_true, Bool.not_false, Bool.false_and, Bool.true_and, ne_eq, not_true_eq_false, not_false_eq_true, beq_self_eq_true, un9, un21, un22, un23, un5, un50, un4, ti9, ti22, ti23, ti50, ti25, ti27, pl25, pl27, fl25_0, fl25_1, fl27_0, fl27_1, el22, el23, un3, S1_fw, U1_fw, uOne hi64, uOr hd64 hp64, dn_on hl] <;> rfl) ?_
        refine dops_idxRow U1_len rfl rfl rfl el23 rfl rfl hb (by rw [tp_len]; omega) hk ?_
        refine dops_putRow (e := dn us k (i + 1)) (i := k) U1_len rfl rfl rfl ti50 rfl hb (Nat.zero_add _) (by rw [tp_len]) (by rw [tp_len]; exact hk) rfl rfl rfl (by decide) ?_
        refine dops_end ?_
        refine awp_run rfl (by simp only [fwA, ↓reduceIte, Nat.reduceAdd, Nat.reduceMul, Nat.reduceEqDiff, Nat.reduceLT, Nat.reduceLeDiff, reduceCtorEq] <;> rfl) ?_
        refine ⟨k + 1, by omega, by omega, ?_, ?_, rfl⟩
        · simp only [fwA, ↓reduceIte, Nat.reduceAdd, Nat.reduceMul, Nat.reduceEqDiff, Nat.reduceLT, Nat.reduceLeDiff, reduceCtorEq, List.map_cons, List.map_nil, hwk]
        · rw [tp_step]
    simp only [hc2, decide_false, Bool.false_eq_true, ↓reduceIte]
    refine awp_exit ?_
    have e : k = us.length := by omega
    subst e
    refine awp_run rfl (by simp only [fwA, ↓reduceIte, Nat.reduceAdd, Nat.reduceMul, Nat.reduceEqDiff, Nat.reduceLT, Nat.reduceLeDiff, reduceCtorEq] <;> rfl) ?_
    refine ⟨i + 1, by omega, by omega, ?_, ?_, rfl⟩
    · simp only [fwA, ↓reduceIte, Nat.reduceAdd, Nat.reduceMul, Nat.reduceEqDiff, Nat.reduceLT, Nat.reduceLeDiff, reduceCtorEq, List.map_cons, List.map_nil, hwi]
    · rw [tp_end]
  simp only [hc, decide_false, Bool.false_eq_true, ↓reduceIte]
  refine awp_exit ?_
  have e : i = us.length := by omega
  subst e
  have hRt := tp_right hR
  have hwt : W64 (tp us us.length us.length 0) := tp_w64 (by omega)
  have htl := tp_len us us.length us.length 0
  have hlt := tp_lq r4
  generalize tp us us.length us.length 0 = ut at hRt hwt htl hlt ⊢
  refine awp_told (told_freezeAt K [Blk.row 1 ((ut.map U1).flatten)] 0 rfl (flat_bd (fun t => by simp only [U1_fw]) _)) ?_
  have hl1 := flat_len U1_len ut
  have hch := flat_chunk U1_len ut
  rw [htl] at hl1 hch
  simp only [fwA, ↓reduceIte, Nat.reduceAdd, Nat.reduceMul, Nat.reduceEqDiff, Nat.reduceLT, Nat.reduceLeDiff, reduceCtorEq, hl1, hch]
  refine awp_seq ?_
  refine awp_run rfl (by simp only [fwA, ↓reduceIte, Nat.reduceAdd, Nat.reduceMul, Nat.reduceEqDiff, Nat.reduceLT, Nat.reduceLeDiff, reduceCtorEq, bitfw, Int.reduceToNat, Int.reduceLE, Int.reduceEq, Int.reduceNeg, List.length_map, List.getElem?_map, Option.map_some, Int.natCast_nonneg, Int.toNat_natCast, decide_true, decide_false, Bool.and_true, Bool.and_self, Bool.not_true, Bool.not_false, Bool.false_and, Bool.true_and, ne_eq, not_true_eq_false, not_false_eq_true, beq_self_eq_true, un9, un21, un22, un23, un5, un50, un4, ti9, ti22, ti23, ti50, ti25, ti27, pl25, pl27, fl25_0, fl25_1, fl27_0, fl27_1, el22, el23, un3, S1_fw, U1_fw, hK1] <;> rfl) ?_
  refine awp_seq ?_
  refine awp_run rfl (by simp only [fwA, ↓reduceIte, Nat.reduceAdd, Nat.reduceMul, Nat.reduceEqDiff, Nat.reduceLT, Nat.reduceLeDiff, reduceCtorEq, bitfw, Int.reduceToNat, Int.reduceLE, Int.reduceEq, Int.reduceNeg, List.length_map, List.getElem?_map, Option.map_some, Int.natCast_nonneg, Int.toNat_natCast, decide_true, decide_false, Bool.and_true, Bool.and_self, Bool.not_true, Bool.not_false, Bool.false_and, Bool.true_and, ne_eq, not_true_eq_false, not_false_eq_true, beq_self_eq_true, un9, un21, un22, un23, un5, un50, un4, ti9, ti22, ti23, ti50, ti25, ti27, pl25, pl27, fl25_0, fl25_1, fl27_0, fl27_1, el22, el23, un3, S1_fw, U1_fw, hwa, hta, hn0] <;> rfl) ?_
  refine awp_seq ?_
  refine awp_run rfl (by simp only [fwA, ↓reduceIte, Nat.reduceAdd, Nat.reduceMul, Nat.reduceEqDiff, Nat.reduceLT, Nat.reduceLeDiff, reduceCtorEq, bitfw, Int.reduceToNat, Int.reduceLE, Int.reduceEq, Int.reduceNeg, List.length_map, List.getElem?_map, Option.map_some, Int.natCast_nonneg, Int.toNat_natCast, decide_true, decide_false, Bool.and_true, Bool.and_self, Bool.not_true, Bool.not_false, Bool.false_and, Bool.true_and, ne_eq, not_true_eq_false, not_false_eq_true, beq_self_eq_true, un9, un21, un22, un23, un5, un50, un4, ti9, ti22, ti23, ti50, ti25, ti27, pl25, pl27, fl25_0, fl25_1, fl27_0, fl27_1, el22, el23, un3, S1_fw, U1_fw, hwb, htb, hn0] <;> rfl) ?_
  generalize a.toNat % us.length = x at *
  generalize b.toNat % us.length = y at *
  have hut : ut.length = ns.length := by omega
  have xu : x < ut.length := by omega
  have yu : y < ut.length := by omega
  have h15t := c15 Γ hΓ ns ut hwt
  rw [hRt] at h15t
  have h23t := c23 Γ hΓ ns ut hwt (x : Int) (y : Int)
  have h25t := c25 Γ hΓ ns ut hwt (x : Int) (y : Int)
  have h27t := c27 Γ hΓ ns ut hwt
  have h23 := c23 Γ hΓ ns us hw (x : Int) (y : Int)
  have h25 := c25 Γ hΓ ns us hw (x : Int) (y : Int)
  have h29 := c29 Γ hΓ ns us hw
  have h17t := c17 Γ ns ut hwt (x : Int) (y : Int)
  rw [leq_nat hut xu yu, hlt] at h17t
  have h17 := hq y x hy hx
  obtain ⟨j, ej, hj⟩ := join_nat hR hx hy
  obtain ⟨m, em, hm⟩ := meet_nat hR hx hy
  obtain ⟨jt, ejt, hjt⟩ := join_nat hRt xu yu
  obtain ⟨mt, emt, hmt⟩ := meet_nat hRt xu yu
  obtain ⟨bt, ebt, hbt⟩ := bot_nat hRt
  obtain ⟨tt, ett, htt⟩ := top_nat hR
  rw [hlt, htl] at hjt hmt hbt
  have q1 : jt = m := isJ_uniq r5.toOrd.tr hjt hm
  have q2 : mt = j := isJ_uniq r5.toOrd hmt hj
  have q3 : bt = tt := isBot_uniq r5.toOrd.tr hbt htt
  subst q1 q2 q3
  rw [ejt] at h23t
  rw [emt] at h25t
  rw [ebt] at h27t
  rw [ej] at h23
  rw [em] at h25
  rw [ett] at h29
  rw [show tr (lq us) x y = lq us y x from rfl] at h17t
  generalize lq us y x = lyx at h17 h17t
  have hfin : ∀ (A' : List (Nat × PV)) (K2 : List Blk), (∃ L, K2 = H ++ L) → alook A' 6 = .bool true → ((Exit.ret = .ret ∨ Exit.ret = .normal) ∧ ([] : List Nat).Nodup ∧ (∀ b ∈ ([] : List Nat), K2[b]? = some .dfr ∧ H.length ≤ b) ∧ ares Tryd.prog Γ A' K2 Tryd.f9.results.toList = some (.bool true) ∧ ∃ L', K2 = H ++ L') := fun A' K2 hK2 hv => by
    obtain ⟨L, rfl⟩ := hK2
    exact gives_end (.inl rfl) _ (by simp [ares, aresL, ares1, Tryd.f9, hv])
  refine awp_seq ?_
  cases lyx
  all_goals
  · refine awp_drawn [0, 0, 1, 0, 0, 0, 1, 0, 0, 0, 1, 0, 0, 0, 0, 0, 0, 1, 0, 0, 0, 1, 0, 0, 0, 0, 0, 0, 1, 0, 1, 0, 0, 0, 0, 1, 0, 0, 0, 1, 0, 0, 0, 0, 0, 0] [0, 1, 3, 7, 15, 31, 63, 63, 63, 511, 63, 63, 63, 8191, 16383, 32767, 65535, 131071, 131071, 131071, 1048575, 131071, 131071, 131071, 16777215, 33554431, 67108863, 134217727, 268435455, 536870911, 268435455, 2147483647, 4294967295, 8589934591, 17179869183, 34359738367, 34359738367, 34359738367, 274877906943, 34359738367, 34359738367, 34359738367, 4398046511103, 8796093022207, 17592186044415, 35184372088831] mixed rfl (by kernel_rfl) ?_
    refine dops_run 3 (by simp only [fwA, ↓reduceIte, Nat.reduceAdd, Nat.reduceMul, Nat.reduceEqDiff, Nat.reduceLT, Nat.reduceLeDiff, reduceCtorEq, bitfw, Int.reduceToNat, Int.reduceLE, Int.reduceEq, Int.reduceNeg, List.length_map, List.getElem?_map, Option.map_some, Int.natCast_nonneg, Int.toNat_natCast, decide_true, decide_false, Bool.and_true, Bool.and_self, Bool.not_true, Bool.not_false, Bool.false_and, Bool.true_and, ne_eq, not_true_eq_false, not_false_eq_true, beq_self_eq_true, un9, un21, un22, un23, un5, un50, un4, ti9, ti22, ti23, ti50, ti25, ti27, pl25, pl27, fl25_0, fl25_1, fl27_0, fl27_1, el22, el23, un3, S1_fw, U1_fw, hK1] <;> rfl) ?_
    refine dops_fn rfl (by simp only [fwA, ↓reduceIte, Nat.reduceAdd, Nat.reduceMul, Nat.reduceEqDiff, Nat.reduceLT, Nat.reduceLeDiff, reduceCtorEq] <;> rfl) rfl rfl en15 h15t ?_
    refine dops_run 5 (by simp only [fwA, ↓reduceIte, Nat.reduceAdd, Nat.reduceMul, Nat.reduceEqDiff, Nat.reduceLT, Nat.reduceLeDiff, reduceCtorEq, bitfw, Int.reduceToNat, Int.reduceLE, Int.reduceEq, Int.reduceNeg, List.length_map, List.getElem?_map, Option.map_some, Int.natCast_nonneg, Int.toNat_natCast, decide_true, decide_false, Bool.and_true, Bool.and_self, Bool.not_true, Bool.not_false, Bool.false_and, Bool.true_and, ne_eq, not_true_eq_false, not_false_eq_true, beq_self_eq_true, un9, un21, un22, un23, un5, un50, un4, ti9, ti22, ti23, ti50, ti25, ti27, pl25, pl27, fl25_0, fl25_1, fl27_0, fl27_1, el22, el23, un3, S1_fw, U1_fw, hK1] <;> rfl) ?_
    refine dops_fn rfl (by simp only [fwA, ↓reduceIte, Nat.reduceAdd, Nat.reduceMul, Nat.reduceEqDiff, Nat.reduceLT, Nat.reduceLeDiff, reduceCtorEq] <;> rfl) rfl rfl en23 h23t ?_
    refine dops_run 3 (by simp only [fwA, ↓reduceIte, Nat.reduceAdd, Nat.reduceMul, Nat.reduceEqDiff, Nat.reduceLT, Nat.reduceLeDiff, reduceCtorEq, bitfw, Int.reduceToNat, Int.reduceLE, Int.reduceEq, Int.reduceNeg, List.length_map, List.getElem?_map, Option.map_some, Int.natCast_nonneg, Int.toNat_natCast, decide_true, decide_false, Bool.and_true, Bool.and_self, Bool.not_true, Bool.not_false, Bool.false_and, Bool.true_and, ne_eq, not_true_eq_false, not_false_eq_true, beq_self_eq_true, un9, un21, un22, un23, un5, un50, un4, ti9, ti22, ti23, ti50, ti25, ti27, pl25, pl27, fl25_0, fl25_1, fl27_0, fl27_1, el22, el23, un3, S1_fw, U1_fw, hK1] <;> rfl) ?_
    refine dops_fn rfl (by simp only [fwA, ↓reduceIte, Nat.reduceAdd, Nat.reduceMul, Nat.reduceEqDiff, Nat.reduceLT, Nat.reduceLeDiff, reduceCtorEq] <;> rfl) rfl rfl en25 h25 ?_
    refine dops_run 6 (by simp only [fwA, ↓reduceIte, Nat.reduceAdd, Nat.reduceMul, Nat.reduceEqDiff, Nat.reduceLT, Nat.reduceLeDiff, reduceCtorEq, bitfw, Int.reduceToNat, Int.reduceLE, Int.reduceEq, Int.reduceNeg, List.length_map, List.getElem?_map, Option.map_some, Int.natCast_nonneg, Int.toNat_natCast, decide_true, decide_false, Bool.and_true, Bool.and_self, Bool.not_true, Bool.not_false, Bool.false_and, Bool.true_and, ne_eq, not_true_eq_false, not_false_eq_true, beq_self_eq_true, un9, un21, un22, un23, un5, un50, un4, ti9, ti22, ti23, ti50, ti25, ti27, pl25, pl27, fl25_0, fl25_1, fl27_0, fl27_1, el22, el23, un3, S1_fw, U1_fw, hK1] <;> rfl) ?_
    refine dops_fn rfl (by simp only [fwA, ↓reduceIte, Nat.reduceAdd, Nat.reduceMul, Nat.reduceEqDiff, Nat.reduceLT, Nat.reduceLeDiff, reduceCtorEq] <;> rfl) rfl rfl en25 h25t ?_
    refine dops_run 3 (by simp only [fwA, ↓reduceIte, Nat.reduceAdd, Nat.reduceMul, Nat.reduceEqDiff, Nat.reduceLT, Nat.reduceLeDiff, reduceCtorEq, bitfw, Int.reduceToNat, Int.reduceLE, Int.reduceEq, Int.reduceNeg, List.length_map, List.getElem?_map, Option.map_some, Int.natCast_nonneg, Int.toNat_natCast, decide_true, decide_false, Bool.and_true, Bool.and_self, Bool.not_true, Bool.not_false, Bool.false_and, Bool.true_and, ne_eq, not_true_eq_false, not_false_eq_true, beq_self_eq_true, un9, un21, un22, un23, un5, un50, un4, ti9, ti22, ti23, ti50, ti25, ti27, pl25, pl27, fl25_0, fl25_1, fl27_0, fl27_1, el22, el23, un3, S1_fw, U1_fw, hK1] <;> rfl) ?_
    refine dops_fn rfl (by simp only [fwA, ↓reduceIte, Nat.reduceAdd, Nat.reduceMul, Nat.reduceEqDiff, Nat.reduceLT, Nat.reduceLeDiff, reduceCtorEq] <;> rfl) rfl rfl en23 h23 ?_
    refine dops_run 4 (by simp only [fwA, ↓reduceIte, Nat.reduceAdd, Nat.reduceMul, Nat.reduceEqDiff, Nat.reduceLT, Nat.reduceLeDiff, reduceCtorEq, bitfw, Int.reduceToNat, Int.reduceLE, Int.reduceEq, Int.reduceNeg, List.length_map, List.getElem?_map, Option.map_some, Int.natCast_nonneg, Int.toNat_natCast, decide_true, decide_false, Bool.and_true, Bool.and_self, Bool.not_true, Bool.not_false, Bool.false_and, Bool.true_and, ne_eq, not_true_eq_false, not_false_eq_true, beq_self_eq_true, un9, un21, un22, un23, un5, un50, un4, ti9, ti22, ti23, ti50, ti25, ti27, pl25, pl27, fl25_0, fl25_1, fl27_0, fl27_1, el22, el23, un3, S1_fw, U1_fw, hK1] <;> rfl) ?_
    refine dops_fn rfl (by simp only [fwA, ↓reduceIte, Nat.reduceAdd, Nat.reduceMul, Nat.reduceEqDiff, Nat.reduceLT, Nat.reduceLeDiff, reduceCtorEq] <;> rfl) rfl rfl en27 h27t ?_
    refine dops_run 1 (by simp only [fwA, ↓reduceIte, Nat.reduceAdd, Nat.reduceMul, Nat.reduceEqDiff, Nat.reduceLT, Nat.reduceLeDiff, reduceCtorEq, bitfw, Int.reduceToNat, Int.reduceLE, Int.reduceEq, Int.reduceNeg, List.length_map, List.getElem?_map, Option.map_some, Int.natCast_nonneg, Int.toNat_natCast, decide_true, decide_false, Bool.and_true, Bool.and_self, Bool.not_true, Bool.not_false, Bool.false_and, Bool.true_and, ne_eq, not_true_eq_false, not_false_eq_true, beq_self_eq_true, un9, un21, un22, un23, un5, un50, un4, ti9, ti22, ti23, ti50, ti25, ti27, pl25, pl27, fl25_0, fl25_1, fl27_0, fl27_1, el22, el23, un3, S1_fw, U1_fw, hK1] <;> rfl) ?_
    refine dops_fn rfl (by simp only [fwA, ↓reduceIte, Nat.reduceAdd, Nat.reduceMul, Nat.reduceEqDiff, Nat.reduceLT, Nat.reduceLeDiff, reduceCtorEq] <;> rfl) rfl rfl en29 h29 ?_
    refine dops_run 6 (by simp only [fwA, ↓reduceIte, Nat.reduceAdd, Nat.reduceMul, Nat.reduceEqDiff, Nat.reduceLT, Nat.reduceLeDiff, reduceCtorEq, bitfw, Int.reduceToNat, Int.reduceLE, Int.reduceEq, Int.reduceNeg, List.length_map, List.getElem?_map, Option.map_some, Int.natCast_nonneg, Int.toNat_natCast, decide_true, decide_false, Bool.and_true, Bool.and_self, Bool.not_true, Bool.not_false, Bool.false_and, Bool.true_and, ne_eq, not_true_eq_false, not_false_eq_true, beq_self_eq_true, un9, un21, un22, un23, un5, un50, un4, ti9, ti22, ti23, ti50, ti25, ti27, pl25, pl27, fl25_0, fl25_1, fl27_0, fl27_1, el22, el23, un3, S1_fw, U1_fw, hK1] <;> rfl) ?_
    refine dops_fn rfl (by simp only [fwA, ↓reduceIte, Nat.reduceAdd, Nat.reduceMul, Nat.reduceEqDiff, Nat.reduceLT, Nat.reduceLeDiff, reduceCtorEq] <;> rfl) rfl rfl en17 h17t ?_
    refine dops_run 3 (by simp only [fwA, ↓reduceIte, Nat.reduceAdd, Nat.reduceMul, Nat.reduceEqDiff, Nat.reduceLT, Nat.reduceLeDiff, reduceCtorEq, bitfw, Int.reduceToNat, Int.reduceLE, Int.reduceEq, Int.reduceNeg, List.length_map, List.getElem?_map, Option.map_some, Int.natCast_nonneg, Int.toNat_natCast, decide_true, decide_false, Bool.and_true, Bool.and_self, Bool.not_true, Bool.not_false, Bool.false_and, Bool.true_and, ne_eq, not_true_eq_false, not_false_eq_true, beq_self_eq_true, un9, un21, un22, un23, un5, un50, un4, ti9, ti22, ti23, ti50, ti25, ti27, pl25, pl27, fl25_0, fl25_1, fl27_0, fl27_1, el22, el23, un3, S1_fw, U1_fw, hK1] <;> rfl) ?_
    refine dops_fn rfl (by simp only [fwA, ↓reduceIte, Nat.reduceAdd, Nat.reduceMul, Nat.reduceEqDiff, Nat.reduceLT, Nat.reduceLeDiff, reduceCtorEq] <;> rfl) rfl rfl en17 h17 ?_
    refine dops_run 3 (by simp only [fwA, ↓reduceIte, Nat.reduceAdd, Nat.reduceMul, Nat.reduceEqDiff, Nat.reduceLT, Nat.reduceLeDiff, reduceCtorEq, bitfw, Int.reduceToNat, Int.reduceLE, Int.reduceEq, Int.reduceNeg, List.length_map, List.getElem?_map, Option.map_some, Int.natCast_nonneg, Int.toNat_natCast, decide_true, decide_false, Bool.and_true, Bool.and_self, Bool.not_true, Bool.not_false, Bool.false_and, Bool.true_and, ne_eq, not_true_eq_false, not_false_eq_true, beq_self_eq_true, un9, un21, un22, un23, un5, un50, un4, ti9, ti22, ti23, ti50, ti25, ti27, pl25, pl27, fl25_0, fl25_1, fl27_0, fl27_1, el22, el23, un3, S1_fw, U1_fw, hK1] <;> rfl) ?_
    refine dops_end ?_
    refine awp_ret ?_
    refine hfin _ _ ?_ rfl
    obtain ⟨L, rfl⟩ := hpre
    simp only [List.append_assoc]
    exact ⟨_, rfl⟩

end Go.Proofs.YtdhlghhokbmhdaaDoor
