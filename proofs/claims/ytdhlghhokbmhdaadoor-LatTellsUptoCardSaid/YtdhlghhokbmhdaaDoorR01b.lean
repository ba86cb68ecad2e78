/- The contracts of points, of what stands below what, of rows. -/
import Derived.Test.YtdhlghhokbmhdaaDoorR01a
namespace Go.Proofs.YtdhlghhokbmhdaaDoor
set_option linter.unusedVariables false
set_option linter.unusedSimpArgs false
set_option maxRecDepth 100000
open Go.RowKit Fw

/-- Words of 64 bits. -/
def W64 (us : List Nat) : Prop := ∀ x ∈ us, x < 2 ^ 64
/-- Whether there is such a point. -/
def ptB (n : Nat) (a : Int) : Bool := decide (0 ≤ a) && decide (a < n)
/-- Whether a point is below another one. -/
def leqB (n : Nat) (us : List Nat) (a b : Int) : Bool := ptB n a && ptB n b && lq us a.toNat b.toNat
theorem min_cast (m n : Nat) : (if (n : Int) < m then (n : Int) else m) = ((min m n : Nat) : Int) := by
  split <;> omega

/- (chancel/lat.Lat).point -/
theorem c47 (Γ : Nat → PV) (ns : List (List UInt8)) (us : List Nat) (a : Int) : Gives Tryd.prog Γ 47 [.agg [.vec (ns.map S1) false, .vec (us.map U1) false], .int .i64 a] (.bool (ptB (min ns.length us.length) a)) := by
  refine fn_of_awp Tryd.func47 rfl (by simp [Tryd.f47]) rfl fun H => ?_
  refine awp_seq ?_
  refine awp_run rfl (by simp only [fwA, ↓reduceIte, Nat.reduceAdd, Nat.reduceMul, Nat.reduceEqDiff, Nat.reduceLT, Nat.reduceLeDiff, reduceCtorEq] <;> rfl) ?_
  refine awp_seq ?_
  by_cases h : 0 ≤ a
  · refine awp_region rfl ?_
    refine aops_run 10 (by simp only [fwA, ↓reduceIte, Nat.reduceAdd, Nat.reduceMul, Nat.reduceEqDiff, Nat.reduceLT, Nat.reduceLeDiff, reduceCtorEq, bitfw, List.length_map, List.getElem?_map, Option.map_some, Int.natCast_nonneg, Int.toNat_natCast, decide_true, decide_false, Bool.and_true, Bool.and_self, Bool.not_true, Bool.not_false, un9, un22, un23, el22, el23, ti9, ti22, ti23, ti25, ti27, ti50, un50, un3, ti3, fl25_0, fl25_1, fl27_0, fl27_1, S1_fw, U1_fw, h] <;> rfl) ?_
    refine aops_if rfl rfl rfl (os_min rfl rfl rfl ?_)
    refine aops_run 3 (by simp only [fwA, ↓reduceIte, Nat.reduceAdd, Nat.reduceMul, Nat.reduceEqDiff, Nat.reduceLT, Nat.reduceLeDiff, reduceCtorEq, bitfw, List.length_map, List.getElem?_map, Option.map_some, Int.natCast_nonneg, Int.toNat_natCast, decide_true, decide_false, Bool.and_true, Bool.and_self, Bool.not_true, Bool.not_false, un9, un22, un23, el22, el23, ti9, ti22, ti23, ti25, ti27, ti50, un50, un3, ti3, fl25_0, fl25_1, fl27_0, fl27_1, S1_fw, U1_fw, h] <;> rfl) ?_
    refine aops_end ?_
    refine awp_ret ?_
    refine gives_end (.inl rfl) _ ?_
    simp only [fwA, ↓reduceIte, Nat.reduceAdd, Nat.reduceMul, Nat.reduceEqDiff, Nat.reduceLT, Nat.reduceLeDiff, reduceCtorEq, ares, aresL, ares1, Tryd.f47, ptB, decide_eq_true h, Bool.true_and]
    first | rfl | (rw [min_cast]) | (simp only [min_cast])
  · refine awp_run rfl (by simp only [fwA, ↓reduceIte, Nat.reduceAdd, Nat.reduceMul, Nat.reduceEqDiff, Nat.reduceLT, Nat.reduceLeDiff, reduceCtorEq, bitfw, List.length_map, List.getElem?_map, Option.map_some, Int.natCast_nonneg, Int.toNat_natCast, decide_true, decide_false, Bool.and_true, Bool.and_self, Bool.not_true, Bool.not_false, un9, un22, un23, el22, el23, ti9, ti22, ti23, ti25, ti27, ti50, un50, un3, ti3, fl25_0, fl25_1, fl27_0, fl27_1, S1_fw, U1_fw, h] <;> rfl) ?_
    refine awp_ret ?_
    exact gives_end (.inl rfl) _ (by unfold ptB; rw [decide_eq_false h]; rfl)

/- chancel/chancelref01.size -/
theorem c48 (Γ : Nat → PV) (ns : List (List UInt8)) (us : List Nat) : Gives Tryd.prog Γ 48 [.agg [.vec (ns.map S1) false, .vec (us.map U1) false]] (.int .i64 ((min ns.length us.length : Nat) : Int)) := by
  refine fn_of_awp Tryd.func48 rfl (by simp [Tryd.f48]) rfl fun H => ?_
  refine awp_seq ?_
  refine awp_run rfl (by simp only [fwA, ↓reduceIte, Nat.reduceAdd, Nat.reduceMul, Nat.reduceEqDiff, Nat.reduceLT, Nat.reduceLeDiff, reduceCtorEq] <;> rfl) ?_
  refine awp_seq ?_
  refine awp_region rfl ?_
  refine aops_run 6 (by simp only [fwA, ↓reduceIte, Nat.reduceAdd, Nat.reduceMul, Nat.reduceEqDiff, Nat.reduceLT, Nat.reduceLeDiff, reduceCtorEq, bitfw, List.length_map, List.getElem?_map, Option.map_some, Int.natCast_nonneg, Int.toNat_natCast, decide_true, decide_false, Bool.and_true, Bool.and_self, Bool.not_true, Bool.not_false, un9, un22, un23, el22, el23, ti9, ti22, ti23, ti25, ti27, ti50, un50, un3, ti3, fl25_0, fl25_1, fl27_0, fl27_1, S1_fw, U1_fw] <;> rfl) ?_
  refine aops_one rfl (os_min rfl rfl rfl ?_)
  refine aops_run 1 (by simp only [fwA, ↓reduceIte, Nat.reduceAdd, Nat.reduceMul, Nat.reduceEqDiff, Nat.reduceLT, Nat.reduceLeDiff, reduceCtorEq, bitfw, List.length_map, List.getElem?_map, Option.map_some, Int.natCast_nonneg, Int.toNat_natCast, decide_true, decide_false, Bool.and_true, Bool.and_self, Bool.not_true, Bool.not_false, un9, un22, un23, el22, el23, ti9, ti22, ti23, ti25, ti27, ti50, un50, un3, ti3, fl25_0, fl25_1, fl27_0, fl27_1, S1_fw, U1_fw] <;> rfl) ?_
  refine aops_end ?_
  refine awp_ret ?_
  refine gives_end (.inl rfl) _ ?_
  simp only [fwA, ↓reduceIte, Nat.reduceAdd, Nat.reduceMul, Nat.reduceEqDiff, Nat.reduceLT, Nat.reduceLeDiff, reduceCtorEq, ares, aresL, ares1, Tryd.f48]
  first | rfl | (rw [min_cast]) | (simp only [min_cast])

/- (chancel/lat.Lat).all -/
theorem c45 (Γ : Nat → PV) (ns : List (List UInt8)) (us : List Nat) (hn : us.length ≤ 64) : Gives Tryd.prog Γ 45 [.agg [.vec (ns.map S1) false, .vec (us.map U1) false]] (.int .u64 ((2 ^ us.length - 1 : Nat) : Int)) := by
  refine fn_of_awp Tryd.func45 rfl (by simp [Tryd.f45]) rfl fun H => ?_
  refine awp_seq ?_
  refine awp_run rfl (by simp only [fwA, ↓reduceIte, Nat.reduceAdd, Nat.reduceMul, Nat.reduceEqDiff, Nat.reduceLT, Nat.reduceLeDiff, reduceCtorEq] <;> rfl) ?_
  refine awp_seq ?_
  refine awp_run rfl (by simp only [fwA, ↓reduceIte, Nat.reduceAdd, Nat.reduceMul, Nat.reduceEqDiff, Nat.reduceLT, Nat.reduceLeDiff, reduceCtorEq, bitfw, List.length_map, List.getElem?_map, Option.map_some, Int.natCast_nonneg, Int.toNat_natCast, decide_true, decide_false, Bool.and_true, Bool.and_self, Bool.not_true, Bool.not_false, un9, un22, un23, el22, el23, ti9, ti22, ti23, ti25, ti27, ti50, un50, un3, ti3, fl25_0, fl25_1, fl27_0, fl27_1, S1_fw, U1_fw, uAll hn] <;> rfl) ?_
  refine awp_ret ?_
  exact gives_end (.inl rfl) _ rfl

theorem getW {us : List Nat} (hw : W64 us) {a : Nat} (ha : a < us.length) : ∃ x, us[a]? = some x ∧ x < 2 ^ 64 ∧ us.getD a 0 = x := by
  refine ⟨us[a], List.getElem?_eq_getElem ha, hw _ (List.getElem_mem ha), ?_⟩
  rw [List.getD_eq_getElem?_getD, List.getElem?_eq_getElem ha]; rfl

/- chancel/lat.Leq -/
theorem c17 (Γ : Nat → PV) (ns : List (List UInt8)) (us : List Nat) (hw : W64 us) (a b : Int) : Gives Tryd.prog Γ 17 [.agg [.vec (ns.map S1) false, .vec (us.map U1) false], .int .i64 a, .int .i64 b] (.bool (leqB (min ns.length us.length) us a b)) := by
  have ha := c47 Γ ns us a
  have hb := c47 Γ ns us b
  refine fn_of_awp Tryd.func17 rfl (by simp [Tryd.f17]) rfl fun H => ?_
  refine awp_seq ?_
  refine awp_run rfl (by simp only [fwA, ↓reduceIte, Nat.reduceAdd, Nat.reduceMul, Nat.reduceEqDiff, Nat.reduceLT, Nat.reduceLeDiff, reduceCtorEq] <;> rfl) ?_
  refine awp_seq ?_
  by_cases h1 : ptB (min ns.length us.length) a = true
  rotate_left
  · have h1' : ptB (min ns.length us.length) a = false := by simpa using h1
    rw [h1'] at ha
    refine awp_region rfl ?_
    refine aops_run 2 (by simp only [fwA, ↓reduceIte, Nat.reduceAdd, Nat.reduceMul, Nat.reduceEqDiff, Nat.reduceLT, Nat.reduceLeDiff, reduceCtorEq, bitfw, List.length_map, List.getElem?_map, Option.map_some, Int.natCast_nonneg, Int.toNat_natCast, decide_true, decide_false, Bool.and_true, Bool.and_self, Bool.not_true, Bool.not_false, un9, un22, un23, el22, el23, ti9, ti22, ti23, ti25, ti27, ti50, un50, un3, ti3, fl25_0, fl25_1, fl27_0, fl27_1, S1_fw, U1_fw] <;> rfl) ?_
    refine aops_fn rfl rfl rfl en47 ha ?_
    refine aops_run 13 (by simp only [fwA, ↓reduceIte, Nat.reduceAdd, Nat.reduceMul, Nat.reduceEqDiff, Nat.reduceLT, Nat.reduceLeDiff, reduceCtorEq, bitfw, List.length_map, List.getElem?_map, Option.map_some, Int.natCast_nonneg, Int.toNat_natCast, decide_true, decide_false, Bool.and_true, Bool.and_self, Bool.not_true, Bool.not_false, un9, un22, un23, el22, el23, ti9, ti22, ti23, ti25, ti27, ti50, un50, un3, ti3, fl25_0, fl25_1, fl27_0, fl27_1, S1_fw, U1_fw] <;> rfl) ?_
    refine aops_run 4 (by simp only [fwA, ↓reduceIte, Nat.reduceAdd, Nat.reduceMul, Nat.reduceEqDiff, Nat.reduceLT, Nat.reduceLeDiff, reduceCtorEq, bitfw, List.length_map, List.getElem?_map, Option.map_some, Int.natCast_nonneg, Int.toNat_natCast, decide_true, decide_false, Bool.and_true, Bool.and_self, Bool.not_true, Bool.not_false, un9, un22, un23, el22, el23, ti9, ti22, ti23, ti25, ti27, ti50, un50, un3, ti3, fl25_0, fl25_1, fl27_0, fl27_1, S1_fw, U1_fw] <;> rfl) ?_
    refine aops_end ?_
    refine awp_ret ?_
    exact gives_end (.inl rfl) _ (by unfold leqB; rw [h1']; rfl)
  by_cases h2 : ptB (min ns.length us.length) b = true
  rotate_left
  · have h2' : ptB (min ns.length us.length) b = false := by simpa using h2
    rw [h1] at ha
    rw [h2'] at hb
    refine awp_region rfl ?_
    refine aops_run 2 (by simp only [fwA, ↓reduceIte, Nat.reduceAdd, Nat.reduceMul, Nat.reduceEqDiff, Nat.reduceLT, Nat.reduceLeDiff, reduceCtorEq, bitfw, List.length_map, List.getElem?_map, Option.map_some, Int.natCast_nonneg, Int.toNat_natCast, decide_true, decide_false, Bool.and_true, Bool.and_self, Bool.not_true, Bool.not_false, un9, un22, un23, el22, el23, ti9, ti22, ti23, ti25, ti27, ti50, un50, un3, ti3, fl25_0, fl25_1, fl27_0, fl27_1, S1_fw, U1_fw] <;> rfl) ?_
    refine aops_fn rfl rfl rfl en47 ha ?_
    refine aops_run 3 (by simp only [fwA, ↓reduceIte, Nat.reduceAdd, Nat.reduceMul, Nat.reduceEqDiff, Nat.reduceLT, Nat.reduceLeDiff, reduceCtorEq, bitfw, List.length_map, List.getElem?_map, Option.map_some, Int.natCast_nonneg, Int.toNat_natCast, decide_true, decide_false, Bool.and_true, Bool.and_self, Bool.not_true, Bool.not_false, un9, un22, un23, el22, el23, ti9, ti22, ti23, ti25, ti27, ti50, un50, un3, ti3, fl25_0, fl25_1, fl27_0, fl27_1, S1_fw, U1_fw] <;> rfl) ?_
    refine aops_fnIf rfl rfl rfl rfl rfl en47 hb ?_
    refine aops_run 13 (by simp only [fwA, ↓reduceIte, Nat.reduceAdd, Nat.reduceMul, Nat.reduceEqDiff, Nat.reduceLT, Nat.reduceLeDiff, reduceCtorEq, bitfw, List.length_map, List.getElem?_map, Option.map_some, Int.natCast_nonneg, Int.toNat_natCast, decide_true, decide_false, Bool.and_true, Bool.and_self, Bool.not_true, Bool.not_false, un9, un22, un23, el22, el23, ti9, ti22, ti23, ti25, ti27, ti50, un50, un3, ti3, fl25_0, fl25_1, fl27_0, fl27_1, S1_fw, U1_fw] <;> rfl) ?_
    refine aops_end ?_
    refine awp_ret ?_
    exact gives_end (.inl rfl) _ (by unfold leqB; rw [h2', Bool.and_false]; rfl)
  rw [h1] at ha
  rw [h2] at hb
  have e : leqB (min ns.length us.length) us a b = lq us a.toNat b.toNat := by unfold leqB; rw [h1, h2]; rfl
  rw [e]
  unfold ptB at h1 h2
  simp only [Bool.and_eq_true, decide_eq_true_eq] at h1 h2
  obtain ⟨a, rfl⟩ : ∃ n : Nat, a = n := ⟨a.toNat, by omega⟩
  obtain ⟨b, rfl⟩ : ∃ n : Nat, b = n := ⟨b.toNat, by omega⟩
  obtain ⟨x, gx, hx, ex⟩ := getW hw (a := a) (by omega)
  have e2 : lq us (a : Int).toNat (b : Int).toNat = x.testBit b := by unfold lq; rw [Int.toNat_natCast, ex]; rfl
  have hs := uShr b hx
  have hxs : x >>> b < 2 ^ 64 := Nat.lt_of_le_of_lt (by rw [Nat.shiftRight_eq_div_pow]; exact Nat.div_le_self _ _) hx
  have h3 := uAnd1 hxs
  have h4 := bit_eq x b
  rw [e2]
  refine awp_region rfl ?_
  refine aops_run 2 (by simp only [fwA, ↓reduceIte, Nat.reduceAdd, Nat.reduceMul, Nat.reduceEqDiff, Nat.reduceLT, Nat.reduceLeDiff, reduceCtorEq, bitfw, List.length_map, List.getElem?_map, Option.map_some, Int.natCast_nonneg, Int.toNat_natCast, decide_true, decide_false, Bool.and_true, Bool.and_self, Bool.not_true, Bool.not_false, un9, un22, un23, el22, el23, ti9, ti22, ti23, ti25, ti27, ti50, un50, un3, ti3, fl25_0, fl25_1, fl27_0, fl27_1, S1_fw, U1_fw, gx, hs, h3, h4] <;> rfl) ?_
  refine aops_fn rfl rfl rfl en47 ha ?_
  refine aops_run 3 (by simp only [fwA, ↓reduceIte, Nat.reduceAdd, Nat.reduceMul, Nat.reduceEqDiff, Nat.reduceLT, Nat.reduceLeDiff, reduceCtorEq, bitfw, List.length_map, List.getElem?_map, Option.map_some, Int.natCast_nonneg, Int.toNat_natCast, decide_true, decide_false, Bool.and_true, Bool.and_self, Bool.not_true, Bool.not_false, un9, un22, un23, el22, el23, ti9, ti22, ti23, ti25, ti27, ti50, un50, un3, ti3, fl25_0, fl25_1, fl27_0, fl27_1, S1_fw, U1_fw, gx, hs, h3, h4] <;> rfl) ?_
  refine aops_fnIf rfl rfl rfl rfl rfl en47 hb ?_
  refine aops_run 13 (by simp only [fwA, ↓reduceIte, Nat.reduceAdd, Nat.reduceMul, Nat.reduceEqDiff, Nat.reduceLT, Nat.reduceLeDiff, reduceCtorEq, bitfw, List.length_map, List.getElem?_map, Option.map_some, Int.natCast_nonneg, Int.toNat_natCast, decide_true, decide_false, Bool.and_true, Bool.and_self, Bool.not_true, Bool.not_false, un9, un22, un23, el22, el23, ti9, ti22, ti23, ti25, ti27, ti50, un50, un3, ti3, fl25_0, fl25_1, fl27_0, fl27_1, S1_fw, U1_fw, gx, hs, h3, h4] <;> rfl) ?_
  refine aops_end ?_
  refine awp_ret ?_
  exact gives_end (.inl rfl) _ rfl

/- chancel/chancelref01.Leq -/
theorem c18 (Γ : Nat → PV) (ns : List (List UInt8)) (us : List Nat) (hw : W64 us) (a b : Int) : Gives Tryd.prog Γ 18 [.agg [.vec (ns.map S1) false, .vec (us.map U1) false], .int .i64 a, .int .i64 b] (.bool (leqB (min ns.length us.length) us a b)) := by
  have h48 := c48 Γ ns us
  have hz : leqB (min ns.length us.length) us a b = true → b < 64 := fun h => by
    unfold leqB ptB at h
    simp only [Bool.and_eq_true, decide_eq_true_eq] at h
    obtain ⟨x, gx, hx, ex⟩ := getW hw (a := a.toNat) (by omega)
    have h2 := h.2
    unfold lq at h2
    rw [ex] at h2
    have := bit_lt hx h2
    omega
  refine fn_of_awp Tryd.func18 rfl (by simp [Tryd.f18]) rfl fun H => ?_
  refine awp_seq ?_
  refine awp_run rfl (by simp only [fwA, ↓reduceIte, Nat.reduceAdd, Nat.reduceMul, Nat.reduceEqDiff, Nat.reduceLT, Nat.reduceLeDiff, reduceCtorEq] <;> rfl) ?_
  refine awp_seq ?_
  refine awp_region rfl ?_
  refine aops_run 1 (by simp only [fwA, ↓reduceIte, Nat.reduceAdd, Nat.reduceMul, Nat.reduceEqDiff, Nat.reduceLT, Nat.reduceLeDiff, reduceCtorEq, bitfw, List.length_map, List.getElem?_map, Option.map_some, Int.natCast_nonneg, Int.toNat_natCast, decide_true, decide_false, Bool.and_true, Bool.and_self, Bool.not_true, Bool.not_false, un9, un22, un23, el22, el23, ti9, ti22, ti23, ti25, ti27, ti50, un50, un3, ti3, fl25_0, fl25_1, fl27_0, fl27_1, S1_fw, U1_fw] <;> rfl) ?_
  refine aops_fn rfl rfl rfl en48 h48 ?_
  refine aops_run 1 (by simp only [fwA, ↓reduceIte, Nat.reduceAdd, Nat.reduceMul, Nat.reduceEqDiff, Nat.reduceLT, Nat.reduceLeDiff, reduceCtorEq, bitfw, List.length_map, List.getElem?_map, Option.map_some, Int.natCast_nonneg, Int.toNat_natCast, decide_true, decide_false, Bool.and_true, Bool.and_self, Bool.not_true, Bool.not_false, un9, un22, un23, el22, el23, ti9, ti22, ti23, ti25, ti27, ti50, un50, un3, ti3, fl25_0, fl25_1, fl27_0, fl27_1, S1_fw, U1_fw] <;> rfl) ?_
  refine aops_end ?_
  refine awp_seq ?_
  by_cases h1 : 0 ≤ a
  rotate_left
  · refine awp_run rfl (by simp only [fwA, ↓reduceIte, Nat.reduceAdd, Nat.reduceMul, Nat.reduceEqDiff, Nat.reduceLT, Nat.reduceLeDiff, reduceCtorEq, bitfw, List.length_map, List.getElem?_map, Option.map_some, Int.natCast_nonneg, Int.toNat_natCast, decide_true, decide_false, Bool.and_true, Bool.and_self, Bool.not_true, Bool.not_false, un9, un22, un23, el22, el23, ti9, ti22, ti23, ti25, ti27, ti50, un50, un3, ti3, fl25_0, fl25_1, fl27_0, fl27_1, S1_fw, U1_fw, h1] <;> rfl) ?_
    refine awp_ret ?_
    exact gives_end (.inl rfl) _ (by unfold leqB ptB; rw [decide_eq_false h1]; rfl)
  by_cases h2 : 0 ≤ b
  rotate_left
  · refine awp_run rfl (by simp only [fwA, ↓reduceIte, Nat.reduceAdd, Nat.reduceMul, Nat.reduceEqDiff, Nat.reduceLT, Nat.reduceLeDiff, reduceCtorEq, bitfw, List.length_map, List.getElem?_map, Option.map_some, Int.natCast_nonneg, Int.toNat_natCast, decide_true, decide_false, Bool.and_true, Bool.and_self, Bool.not_true, Bool.not_false, un9, un22, un23, el22, el23, ti9, ti22, ti23, ti25, ti27, ti50, un50, un3, ti3, fl25_0, fl25_1, fl27_0, fl27_1, S1_fw, U1_fw, h1, h2] <;> rfl) ?_
    refine awp_ret ?_
    exact gives_end (.inl rfl) _ (by unfold leqB ptB; rw [decide_eq_false h2, Bool.false_and, Bool.and_false]; rfl)
  by_cases h3 : a < ((min ns.length us.length : Nat) : Int)
  rotate_left
  · refine awp_run rfl (by simp only [fwA, ↓reduceIte, Nat.reduceAdd, Nat.reduceMul, Nat.reduceEqDiff, Nat.reduceLT, Nat.reduceLeDiff, reduceCtorEq, bitfw, List.length_map, List.getElem?_map, Option.map_some, Int.natCast_nonneg, Int.toNat_natCast, decide_true, decide_false, Bool.and_true, Bool.and_self, Bool.not_true, Bool.not_false, un9, un22, un23, el22, el23, ti9, ti22, ti23, ti25, ti27, ti50, un50, un3, ti3, fl25_0, fl25_1, fl27_0, fl27_1, S1_fw, U1_fw, h1, h2, h3] <;> rfl) ?_
    refine awp_ret ?_
    exact gives_end (.inl rfl) _ (by unfold leqB ptB; rw [decide_eq_false h3, Bool.and_false]; rfl)
  by_cases h4 : b < ((min ns.length us.length : Nat) : Int)
  rotate_left
  · refine awp_run rfl (by simp only [fwA, ↓reduceIte, Nat.reduceAdd, Nat.reduceMul, Nat.reduceEqDiff, Nat.reduceLT, Nat.reduceLeDiff, reduceCtorEq, bitfw, List.length_map, List.getElem?_map, Option.map_some, Int.natCast_nonneg, Int.toNat_natCast, decide_true, decide_false, Bool.and_true, Bool.and_self, Bool.not_true, Bool.not_false, un9, un22, un23, el22, el23, ti9, ti22, ti23, ti25, ti27, ti50, un50, un3, ti3, fl25_0, fl25_1, fl27_0, fl27_1, S1_fw, U1_fw, h1, h2, h3, h4] <;> rfl) ?_
    refine awp_ret ?_
    exact gives_end (.inl rfl) _ (by unfold leqB ptB; rw [decide_eq_false h4, Bool.and_false, Bool.and_false]; rfl)
  by_cases h5 : b < 64
  rotate_left
  · refine awp_run rfl (by simp only [fwA, ↓reduceIte, Nat.reduceAdd, Nat.reduceMul, Nat.reduceEqDiff, Nat.reduceLT, Nat.reduceLeDiff, reduceCtorEq, bitfw, List.length_map, List.getElem?_map, Option.map_some, Int.natCast_nonneg, Int.toNat_natCast, decide_true, decide_false, Bool.and_true, Bool.and_self, Bool.not_true, Bool.not_false, un9, un22, un23, el22, el23, ti9, ti22, ti23, ti25, ti27, ti50, un50, un3, ti3, fl25_0, fl25_1, fl27_0, fl27_1, S1_fw, U1_fw, h1, h2, h3, h4, h5] <;> rfl) ?_
    refine awp_ret ?_
    have h6 : leqB (min ns.length us.length) us a b = false := by
      cases h6 : leqB (min ns.length us.length) us a b
      · rfl
      · exact absurd (hz h6) h5
    exact gives_end (.inl rfl) _ (by rw [h6]; rfl)
  have e : leqB (min ns.length us.length) us a b = lq us a.toNat b.toNat := by unfold leqB ptB; rw [decide_eq_true h1, decide_eq_true h2, decide_eq_true h3, decide_eq_true h4]; rfl
  rw [e]
  obtain ⟨a, rfl⟩ : ∃ n : Nat, a = n := ⟨a.toNat, by omega⟩
  obtain ⟨b, rfl⟩ : ∃ n : Nat, b = n := ⟨b.toNat, by omega⟩
  obtain ⟨x, gx, hx, ex⟩ := getW hw (a := a) (by omega)
  have e2 : lq us (a : Int).toNat (b : Int).toNat = x.testBit b := by unfold lq; rw [Int.toNat_natCast, ex]; rfl
  have hs := uShr b hx
  have h7 := bit_mod x b
  rw [e2]
  refine awp_run rfl (by simp only [fwA, ↓reduceIte, Nat.reduceAdd, Nat.reduceMul, Nat.reduceEqDiff, Nat.reduceLT, Nat.reduceLeDiff, reduceCtorEq, bitfw, List.length_map, List.getElem?_map, Option.map_some, Int.natCast_nonneg, Int.toNat_natCast, decide_true, decide_false, Bool.and_true, Bool.and_self, Bool.not_true, Bool.not_false, un9, un22, un23, el22, el23, ti9, ti22, ti23, ti25, ti27, ti50, un50, un3, ti3, fl25_0, fl25_1, fl27_0, fl27_1, S1_fw, U1_fw, h1, h2, h3, h4, h5, gx, hs] <;> rfl) ?_
  refine awp_ret ?_
  exact gives_end (.inl rfl) _ (by rw [← h7]; rfl)

/- (chancel/lat.Lat).down -/
theorem c61 (Γ : Nat → PV) (ns : List (List UInt8)) (us : List Nat) (hw : W64 us) (hn : us.length ≤ 64) (a : Nat) : Gives Tryd.prog Γ 61 [.agg [.vec (ns.map S1) false, .vec (us.map U1) false], .int .i64 (a : Int)] (.int .u64 ((dn us a us.length : Nat) : Int)) := by
  refine fn_of_awp Tryd.func61 rfl (by simp [Tryd.f61]) rfl fun H => ?_
  refine awp_seq ?_
  refine awp_run rfl (by simp only [fwA, ↓reduceIte, Nat.reduceAdd, Nat.reduceMul, Nat.reduceEqDiff, Nat.reduceLT, Nat.reduceLeDiff, reduceCtorEq] <;> rfl) ?_
  refine awp_seq ?_
  refine awp_run rfl (by simp only [fwA, ↓reduceIte, Nat.reduceAdd, Nat.reduceMul, Nat.reduceEqDiff, Nat.reduceLT, Nat.reduceLeDiff, reduceCtorEq] <;> rfl) ?_
  refine awp_seq ?_
  refine awp_seq ?_
  refine awp_run rfl (by simp only [fwA, ↓reduceIte, Nat.reduceAdd, Nat.reduceMul, Nat.reduceEqDiff, Nat.reduceLT, Nat.reduceLeDiff, reduceCtorEq, bitfw, List.length_map, List.getElem?_map, Option.map_some, Int.natCast_nonneg, Int.toNat_natCast, decide_true, decide_false, Bool.and_true, Bool.and_self, Bool.not_true, Bool.not_false, un9, un22, un23, el22, el23, ti9, ti22, ti23, ti25, ti27, ti50, un50, un3, ti3, fl25_0, fl25_1, fl27_0, fl27_1, S1_fw, U1_fw] <;> rfl) ?_
  refine awp_block ?_
  refine awp_for [1, 5, 9, 10, 11] (fun i : Nat => [.int .i64 (a : Int), .int .u64 ((dn us a i : Nat) : Int), .vec (us.map U1) false, .int .i64 (us.length : Int), .int .i64 (i : Int)]) (fun _ => H ++ [.box (laC ns us)]) (fun i => us.length - i) (fun i => i ≤ us.length) 0 rfl rfl (Nat.zero_le _) fun i hi => ?_
  refine awp_seq ?_
  refine awp_run rfl (by simp only [fwA, ↓reduceIte, Nat.reduceAdd, Nat.reduceMul, Nat.reduceEqDiff, Nat.reduceLT, Nat.reduceLeDiff, reduceCtorEq, bitfw, List.length_map, List.getElem?_map, Option.map_some, Int.natCast_nonneg, Int.toNat_natCast, decide_true, decide_false, Bool.and_true, Bool.and_self, Bool.not_true, Bool.not_false, un9, un22, un23, el22, el23, ti9, ti22, ti23, ti25, ti27, ti50, un50, un3, ti3, fl25_0, fl25_1, fl27_0, fl27_1, S1_fw, U1_fw] <;> rfl) ?_
  refine awp_seq ?_
  refine awp_cond (by simp only [fwA, ↓reduceIte, Nat.reduceAdd, Nat.reduceMul, Nat.reduceEqDiff, Nat.reduceLT, Nat.reduceLeDiff, reduceCtorEq] <;> rfl) ?_
  by_cases hc : (i : Int) < us.length
  rotate_left
  · simp only [hc, decide_false, Bool.false_eq_true, ↓reduceIte]
    refine awp_exit ?_
    have e : i = us.length := by omega
    subst e
    refine awp_seq ?_
    refine awp_run rfl (by simp only [fwA, ↓reduceIte, Nat.reduceAdd, Nat.reduceMul, Nat.reduceEqDiff, Nat.reduceLT, Nat.reduceLeDiff, reduceCtorEq] <;> rfl) ?_
    refine awp_ret ?_
    exact gives_end (.inl rfl) _ rfl
  simp only [hc, decide_true, ↓reduceIte]
  refine awp_skip ?_
  obtain ⟨x, gx, hx, ex⟩ := getW hw (a := i) (by omega)
  have hwi : IntKind.i64.wrap ((i : Int) + 1) = ((i + 1 : Nat) : Int) := wrapS i (by omega)
  have hs := uShr a hx
  have hxs : x >>> a < 2 ^ 64 := Nat.lt_of_le_of_lt (by rw [Nat.shiftRight_eq_div_pow]; exact Nat.div_le_self _ _) hx
  have h3 := uAnd1 hxs
  have hb : (x >>> a &&& 1) <<< i < 2 ^ 64 := lt_of_bits fun j hj => by rw [one_bit, decide_eq_false (by omega), Bool.false_and]
  have h4 := uShl (x := x >>> a &&& 1) (a := i) (by omega) hb
  have h5 := uOr (le64 (n := i) (by omega) (dn_lt us a i)) hb
  have hst : dn us a (i + 1) = dn us a i ||| (x >>> a &&& 1) <<< i := by
    show dn us a i ||| ((us.getD i 0) >>> a &&& 1) <<< i = _
    rw [ex]
  refine awp_seq ?_
  refine awp_block ?_
  refine awp_seq ?_
  refine awp_run rfl (by simp only [fwA, ↓reduceIte, Nat.reduceAdd, Nat.reduceMul, Nat.reduceEqDiff, Nat.reduceLT, Nat.reduceLeDiff, reduceCtorEq, bitfw, List.length_map, List.getElem?_map, Option.map_some, Int.natCast_nonneg, Int.toNat_natCast, decide_true, decide_false, Bool.and_true, Bool.and_self, Bool.not_true, Bool.not_false, un9, un22, un23, el22, el23, ti9, ti22, ti23, ti25, ti27, ti50, un50, un3, ti3, fl25_0, fl25_1, fl27_0, fl27_1, S1_fw, U1_fw, gx] <;> rfl) ?_
  refine awp_run rfl (by simp only [fwA, ↓reduceIte, Nat.reduceAdd, Nat.reduceMul, Nat.reduceEqDiff, Nat.reduceLT, Nat.reduceLeDiff, reduceCtorEq, bitfw, List.length_map, List.getElem?_map, Option.map_some, Int.natCast_nonneg, Int.toNat_natCast, decide_true, decide_false, Bool.and_true, Bool.and_self, Bool.not_true, Bool.not_false, un9, un22, un23, el22, el23, ti9, ti22, ti23, ti25, ti27, ti50, un50, un3, ti3, fl25_0, fl25_1, fl27_0, fl27_1, S1_fw, U1_fw, hs, h3, h4, h5] <;> rfl) ?_
  refine awp_run rfl (by simp only [fwA, ↓reduceIte, Nat.reduceAdd, Nat.reduceMul, Nat.reduceEqDiff, Nat.reduceLT, Nat.reduceLeDiff, reduceCtorEq] <;> rfl) ?_
  refine ⟨i + 1, by omega, by omega, ?_, rfl, rfl⟩
  rw [hst]
  simp only [fwA, ↓reduceIte, Nat.reduceAdd, Nat.reduceMul, Nat.reduceEqDiff, Nat.reduceLT, Nat.reduceLeDiff, reduceCtorEq, List.map_cons, List.map_nil, hwi]

end Go.Proofs.YtdhlghhokbmhdaaDoor
