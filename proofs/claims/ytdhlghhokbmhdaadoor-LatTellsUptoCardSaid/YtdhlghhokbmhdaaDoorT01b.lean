/- The laws on the order, and on joins and meets. -/
import Derived.Test.YtdhlghhokbmhdaaDoorT01a
namespace Go.Proofs.YtdhlghhokbmhdaaDoor
set_option linter.unusedVariables false
set_option linter.unusedSimpArgs false
set_option maxRecDepth 100000
open Go.RowKit Fw

theorem join_nat {ns : List (List UInt8)} {us : List Nat} (hR : rightB ns us = true) {x y : Nat} (hx : x < us.length) (hy : y < us.length) : ∃ c : Nat, joinV ns us (x : Int) (y : Int) = (c : Int) ∧ IsJ us.length (lq us) x y c := by
  obtain ⟨r1, r2, r3, r4, r5⟩ := right_spec hR
  obtain ⟨c, h1, h2⟩ := r5.join hx hy
  refine ⟨c, ?_, h2⟩
  unfold joinV ptB
  rw [if_pos ⟨hR, by rw [decide_eq_true (by omega : (0 : Int) ≤ x), decide_eq_true (by omega : (x : Int) < ((min ns.length us.length : Nat) : Int))]; rfl, by rw [decide_eq_true (by omega : (0 : Int) ≤ y), decide_eq_true (by omega : (y : Int) < ((min ns.length us.length : Nat) : Int))]; rfl⟩, Int.toNat_natCast, Int.toNat_natCast, h1]; rfl
theorem meet_nat {ns : List (List UInt8)} {us : List Nat} (hR : rightB ns us = true) {x y : Nat} (hx : x < us.length) (hy : y < us.length) : ∃ c : Nat, meetV ns us (x : Int) (y : Int) = (c : Int) ∧ IsJ us.length (tr (lq us)) x y c := by
  obtain ⟨r1, r2, r3, r4, r5⟩ := right_spec hR
  obtain ⟨c, h1, h2⟩ := r5.tr.join hx hy
  refine ⟨c, ?_, h2⟩
  unfold meetV ptB
  rw [if_pos ⟨hR, by rw [decide_eq_true (by omega : (0 : Int) ≤ x), decide_eq_true (by omega : (x : Int) < ((min ns.length us.length : Nat) : Int))]; rfl, by rw [decide_eq_true (by omega : (0 : Int) ≤ y), decide_eq_true (by omega : (y : Int) < ((min ns.length us.length : Nat) : Int))]; rfl⟩, Int.toNat_natCast, Int.toNat_natCast, h1]; rfl
theorem bot_nat {ns : List (List UInt8)} {us : List Nat} (hR : rightB ns us = true) : ∃ c : Nat, botV ns us = (c : Int) ∧ IsBot us.length (lq us) c := by
  obtain ⟨r1, r2, r3, r4, r5⟩ := right_spec hR
  obtain ⟨c, h1, h2⟩ := r5.bot
  exact ⟨c, by unfold botV; rw [if_pos hR, h1]; rfl, h2⟩
theorem top_nat {ns : List (List UInt8)} {us : List Nat} (hR : rightB ns us = true) : ∃ c : Nat, topV ns us = (c : Int) ∧ IsBot us.length (tr (lq us)) c := by
  obtain ⟨r1, r2, r3, r4, r5⟩ := right_spec hR
  obtain ⟨c, h1, h2⟩ := r5.tr.bot
  exact ⟨c, by unfold topV; rw [if_pos hR, h1]; rfl, h2⟩
theorem tmod_nat {a : Int} {n : Nat} (h0 : 0 ≤ a) : a.tmod (n : Int) = ((a.toNat % n : Nat) : Int) := by
  obtain ⟨k, rfl⟩ : ∃ k : Nat, a = k := ⟨a.toNat, by omega⟩
  rw [Int.tmod_eq_emod_of_nonneg (Int.natCast_nonneg _)]; simp
theorem joinV_off {ns : List (List UInt8)} {us : List Nat} (hR : rightB ns us = false) (a b : Int) : joinV ns us a b = -1 := by unfold joinV; rw [if_neg (by rw [hR]; simp)]
theorem meetV_off {ns : List (List UInt8)} {us : List Nat} (hR : rightB ns us = false) (a b : Int) : meetV ns us a b = -1 := by unfold meetV; rw [if_neg (by rw [hR]; simp)]
set_option maxHeartbeats 8000000 in
/-- LatJoins -/
theorem c5 (Γ : Nat → PV) (hT : Tab Γ) (ns : List (List UInt8)) (us : List Nat) (hw : W64 us) (a b c : Int) (ha0 : 0 ≤ a) (ha1 : a < 256) (hb0 : 0 ≤ b) (hb1 : b < 256) (hc0 : 0 ≤ c) (hc1 : c < 256) : Gives Tryd.prog Γ 5 [.agg [.vec (ns.map S1) false, .vec (us.map U1) false], .int .u8 a, .int .u8 b, .int .u8 c] (.bool true) := by
  obtain ⟨hΓ, hM⟩ := id hT
  have h10 := c10 Γ hT
  have h15 := c15 Γ hΓ ns us hw
  refine fn_of_awp Tryd.func5 rfl (by simp [Tryd.f5]) rfl fun H => ?_
  refine awp_seq ?_
  refine awp_run rfl (by simp only [fwA, ↓reduceIte, Nat.reduceAdd, Nat.reduceMul, Nat.reduceEqDiff, Nat.reduceLT, Nat.reduceLeDiff, reduceCtorEq] <;> rfl) ?_
  have hK0 : (H ++ [Blk.box [.vec (ns.map S1) false, .vec (us.map U1) false]])[H.length]? = some (.box [.vec (ns.map S1) false, .vec (us.map U1) false]) := by rw [Fw.get_at0]; rfl
  generalize hK : H ++ [Blk.box [.vec (ns.map S1) false, .vec (us.map U1) false]] = K at hK0 ⊢
  have hend : ∀ (A' : List (Nat × PV)), alook A' 8 = .bool true → ((Exit.ret = .ret ∨ Exit.ret = .normal) ∧ ([] : List Nat).Nodup ∧ (∀ b ∈ ([] : List Nat), K[b]? = some .dfr ∧ H.length ≤ b) ∧ ares Tryd.prog Γ A' K Tryd.f5.results.toList = some (.bool true) ∧ ∃ L', K = H ++ L') := fun A' hv => by
    subst hK
    exact gives_end (.inl rfl) _ (by simp [ares, aresL, ares1, Tryd.f5, hv])
  refine awp_seq ?_
  refine awp_region rfl ?_
  refine aops_fn rfl rfl rfl en10 h10 ?_
  refine aops_run 1 (by simp only [fwA, ↓reduceIte, Nat.reduceAdd, Nat.reduceMul, Nat.reduceEqDiff, Nat.reduceLT, Nat.reduceLeDiff, reduceCtorEq, bitfw, Int.reduceToNat, Int.reduceLE, Int.reduceEq, Int.reduceNeg, List.length_map, List.getElem?_map, Option.map_some, Int.natCast_nonneg, Int.toNat_natCast, decide_true, decide_false, Bool.and_true, Bool.and_self, Bool.not_true, Bool.not_false, Bool.false_and, Bool.true_and, ne_eq, not_true_eq_false, not_false_eq_true, beq_self_eq_true, un9, un21, un22, un23, un5, un50, un4, ti9, ti22, ti23, ti50, ti25, ti27, pl25, pl27, fl25_0, fl25_1, fl27_0, fl27_1, el22, el23, un3] <;> rfl) ?_
  refine aops_end ?_
  refine awp_seq ?_
  refine awp_seq ?_
  refine awp_run rfl (by simp only [fwA, ↓reduceIte, Nat.reduceAdd, Nat.reduceMul, Nat.reduceEqDiff, Nat.reduceLT, Nat.reduceLeDiff, reduceCtorEq] <;> rfl) ?_
  refine awp_cond (b := false) (by simp [alook, aput, ev]) (awp_skip ?_)
  refine awp_seq ?_
  refine awp_seq ?_
  cases hR : rightB ns us
  · rw [hR] at h15
    have hwa : IntKind.i64.wrap a = a := wrapId ⟨by omega, by omega⟩
    have hwb : IntKind.i64.wrap b = b := wrapId ⟨by omega, by omega⟩
    have h23 := c23 Γ hΓ ns us hw a b
    have h25 := c25 Γ hΓ ns us hw a b
    rw [joinV_off hR] at h23
    rw [meetV_off hR] at h25
    refine awp_region rfl ?_
    refine aops_run 1 (by simp only [fwA, ↓reduceIte, Nat.reduceAdd, Nat.reduceMul, Nat.reduceEqDiff, Nat.reduceLT, Nat.reduceLeDiff, reduceCtorEq, bitfw, Int.reduceToNat, Int.reduceLE, Int.reduceEq, Int.reduceNeg, List.length_map, List.getElem?_map, Option.map_some, Int.natCast_nonneg, Int.toNat_natCast, decide_true, decide_false, Bool.and_true, Bool.and_self, Bool.not_true, Bool.not_false, Bool.false_and, Bool.true_and, ne_eq, not_true_eq_false, not_false_eq_true, beq_self_eq_true, un9, un21, un22, un23, un5, un50, un4, ti9, ti22, ti23, ti50, ti25, ti27, pl25, pl27, fl25_0, fl25_1, fl27_0, fl27_1, el22, el23, un3, hK0] <;> rfl) ?_
    refine aops_fn rfl rfl rfl en15 h15 ?_
    refine aops_run 1 (by simp only [fwA, ↓reduceIte, Nat.reduceAdd, Nat.reduceMul, Nat.reduceEqDiff, Nat.reduceLT, Nat.reduceLeDiff, reduceCtorEq, bitfw, Int.reduceToNat, Int.reduceLE, Int.reduceEq, Int.reduceNeg, List.length_map, List.getElem?_map, Option.map_some, Int.natCast_nonneg, Int.toNat_natCast, decide_true, decide_false, Bool.and_true, Bool.and_self, Bool.not_true, Bool.not_false, Bool.false_and, Bool.true_and, ne_eq, not_true_eq_false, not_false_eq_true, beq_self_eq_true, un9, un21, un22, un23, un5, un50, un4, ti9, ti22, ti23, ti50, ti25, ti27, pl25, pl27, fl25_0, fl25_1, fl27_0, fl27_1, el22, el23, un3, hK0] <;> rfl) ?_
    refine aops_end ?_
    refine awp_cond (b := true) (by simp [alook, aput, ev]) ?_
    refine awp_seq ?_
    refine awp_region rfl ?_
    refine aops_run 7 (by simp only [fwA, ↓reduceIte, Nat.reduceAdd, Nat.reduceMul, Nat.reduceEqDiff, Nat.reduceLT, Nat.reduceLeDiff, reduceCtorEq, bitfw, Int.reduceToNat, Int.reduceLE, Int.reduceEq, Int.reduceNeg, List.length_map, List.getElem?_map, Option.map_some, Int.natCast_nonneg, Int.toNat_natCast, decide_true, decide_false, Bool.and_true, Bool.and_self, Bool.not_true, Bool.not_false, Bool.false_and, Bool.true_and, ne_eq, not_true_eq_false, not_false_eq_true, beq_self_eq_true, un9, un21, un22, un23, un5, un50, un4, ti9, ti22, ti23, ti50, ti25, ti27, pl25, pl27, fl25_0, fl25_1, fl27_0, fl27_1, el22, el23, un3, hK0, hwa, hwb] <;> rfl) ?_
    refine aops_fnIf rfl rfl rfl rfl rfl en23 h23 ?_
    refine aops_run 8 (by simp only [fwA, ↓reduceIte, Nat.reduceAdd, Nat.reduceMul, Nat.reduceEqDiff, Nat.reduceLT, Nat.reduceLeDiff, reduceCtorEq, bitfw, Int.reduceToNat, Int.reduceLE, Int.reduceEq, Int.reduceNeg, List.length_map, List.getElem?_map, Option.map_some, Int.natCast_nonneg, Int.toNat_natCast, decide_true, decide_false, Bool.and_true, Bool.and_self, Bool.not_true, Bool.not_false, Bool.false_and, Bool.true_and, ne_eq, not_true_eq_false, not_false_eq_true, beq_self_eq_true, un9, un21, un22, un23, un5, un50, un4, ti9, ti22, ti23, ti50, ti25, ti27, pl25, pl27, fl25_0, fl25_1, fl27_0, fl27_1, el22, el23, un3, hK0, hwa, hwb] <;> rfl) ?_
    refine aops_fnIf rfl rfl rfl rfl rfl en25 h25 ?_
    refine aops_run 3 (by simp only [fwA, ↓reduceIte, Nat.reduceAdd, Nat.reduceMul, Nat.reduceEqDiff, Nat.reduceLT, Nat.reduceLeDiff, reduceCtorEq, bitfw, Int.reduceToNat, Int.reduceLE, Int.reduceEq, Int.reduceNeg, List.length_map, List.getElem?_map, Option.map_some, Int.natCast_nonneg, Int.toNat_natCast, decide_true, decide_false, Bool.and_true, Bool.and_self, Bool.not_true, Bool.not_false, Bool.false_and, Bool.true_and, ne_eq, not_true_eq_false, not_false_eq_true, beq_self_eq_true, un9, un21, un22, un23, un5, un50, un4, ti9, ti22, ti23, ti50, ti25, ti27, pl25, pl27, fl25_0, fl25_1, fl27_0, fl27_1, el22, el23, un3, hK0, hwa, hwb] <;> rfl) ?_
    refine aops_end ?_
    refine awp_ret ?_
    exact hend _ rfl
  rw [hR] at h15
  obtain ⟨r1, r2, r3, r4, r5⟩ := right_spec hR
  have hp := r5.pos
  have hn0 : ¬ ((ns.length : Int) = 0) := by omega
  have hwa : IntKind.i64.wrap a = a := wrapId ⟨by omega, by omega⟩
  have hwb : IntKind.i64.wrap b = b := wrapId ⟨by omega, by omega⟩
  have hta := tmod_nat (n := ns.length) ha0
  have htb := tmod_nat (n := ns.length) hb0
  have hx : a.toNat % ns.length < us.length := by rw [r2]; exact Nat.mod_lt _ (by omega)
  have hy : b.toNat % ns.length < us.length := by rw [r2]; exact Nat.mod_lt _ (by omega)
  have hq : ∀ x y, x < us.length → y < us.length → Gives Tryd.prog Γ 17 [.agg [.vec (ns.map S1) false, .vec (us.map U1) false], .int .i64 (x : Int), .int .i64 (y : Int)] (.bool (lq us x y)) := fun x y hx hy => by
    have := c17 Γ ns us hw (x : Int) (y : Int)
    rw [leq_nat r2 hx hy] at this; exact this
  have hwc : IntKind.i64.wrap c = c := wrapId ⟨by omega, by omega⟩
  have htc := tmod_nat (n := ns.length) hc0
  have hz : c.toNat % ns.length < us.length := by rw [r2]; exact Nat.mod_lt _ (by omega)
  generalize a.toNat % ns.length = x at *
  generalize b.toNat % ns.length = y at *
  generalize c.toNat % ns.length = z at *
  obtain ⟨j, ej, hj⟩ := join_nat hR hx hy
  obtain ⟨m, em, hm⟩ := meet_nat hR hx hy
  have h23 := c23 Γ hΓ ns us hw (x : Int) (y : Int)
  have h25 := c25 Γ hΓ ns us hw (x : Int) (y : Int)
  rw [ej] at h23
  rw [em] at h25
  refine awp_region rfl ?_
  refine aops_run 1 (by simp only [fwA, ↓reduceIte, Nat.reduceAdd, Nat.reduceMul, Nat.reduceEqDiff, Nat.reduceLT, Nat.reduceLeDiff, reduceCtorEq, bitfw, Int.reduceToNat, Int.reduceLE, Int.reduceEq, Int.reduceNeg, List.length_map, List.getElem?_map, Option.map_some, Int.natCast_nonneg, Int.toNat_natCast, decide_true, decide_false, Bool.and_true, Bool.and_self, Bool.not_true, Bool.not_false, Bool.false_and, Bool.true_and, ne_eq, not_true_eq_false, not_false_eq_true, beq_self_eq_true, un9, un21, un22, un23, un5, un50, un4, ti9, ti22, ti23, ti50, ti25, ti27, pl25, pl27, fl25_0, fl25_1, fl27_0, fl27_1, el22, el23, un3, hK0] <;> rfl) ?_
  refine aops_fn rfl rfl rfl en15 h15 ?_
  refine aops_run 1 (by simp only [fwA, ↓reduceIte, Nat.reduceAdd, Nat.reduceMul, Nat.reduceEqDiff, Nat.reduceLT, Nat.reduceLeDiff, reduceCtorEq, bitfw, Int.reduceToNat, Int.reduceLE, Int.reduceEq, Int.reduceNeg, List.length_map, List.getElem?_map, Option.map_some, Int.natCast_nonneg, Int.toNat_natCast, decide_true, decide_false, Bool.and_true, Bool.and_self, Bool.not_true, Bool.not_false, Bool.false_and, Bool.true_and, ne_eq, not_true_eq_false, not_false_eq_true, beq_self_eq_true, un9, un21, un22, un23, un5, un50, un4, ti9, ti22, ti23, ti50, ti25, ti27, pl25, pl27, fl25_0, fl25_1, fl27_0, fl27_1, el22, el23, un3, hK0] <;> rfl) ?_
  refine aops_end ?_
  refine awp_cond (b := false) (by simp [alook, aput, ev]) (awp_skip ?_)
  refine awp_seq ?_
  refine awp_run rfl (by simp only [fwA, ↓reduceIte, Nat.reduceAdd, Nat.reduceMul, Nat.reduceEqDiff, Nat.reduceLT, Nat.reduceLeDiff, reduceCtorEq, bitfw, Int.reduceToNat, Int.reduceLE, Int.reduceEq, Int.reduceNeg, List.length_map, List.getElem?_map, Option.map_some, Int.natCast_nonneg, Int.toNat_natCast, decide_true, decide_false, Bool.and_true, Bool.and_self, Bool.not_true, Bool.not_false, Bool.false_and, Bool.true_and, ne_eq, not_true_eq_false, not_false_eq_true, beq_self_eq_true, un9, un21, un22, un23, un5, un50, un4, ti9, ti22, ti23, ti50, ti25, ti27, pl25, pl27, fl25_0, fl25_1, fl27_0, fl27_1, el22, el23, un3, hK0] <;> rfl) ?_
  refine awp_seq ?_
  refine awp_run rfl (by simp only [fwA, ↓reduceIte, Nat.reduceAdd, Nat.reduceMul, Nat.reduceEqDiff, Nat.reduceLT, Nat.reduceLeDiff, reduceCtorEq, bitfw, Int.reduceToNat, Int.reduceLE, Int.reduceEq, Int.reduceNeg, List.length_map, List.getElem?_map, Option.map_some, Int.natCast_nonneg, Int.toNat_natCast, decide_true, decide_false, Bool.and_true, Bool.and_self, Bool.not_true, Bool.not_false, Bool.false_and, Bool.true_and, ne_eq, not_true_eq_false, not_false_eq_true, beq_self_eq_true, un9, un21, un22, un23, un5, un50, un4, ti9, ti22, ti23, ti50, ti25, ti27, pl25, pl27, fl25_0, fl25_1, fl27_0, fl27_1, el22, el23, un3, hwa, hta, hn0] <;> rfl) ?_
  refine awp_seq ?_
  refine awp_run rfl (by simp only [fwA, ↓reduceIte, Nat.reduceAdd, Nat.reduceMul, Nat.reduceEqDiff, Nat.reduceLT, Nat.reduceLeDiff, reduceCtorEq, bitfw, Int.reduceToNat, Int.reduceLE, Int.reduceEq, Int.reduceNeg, List.length_map, List.getElem?_map, Option.map_some, Int.natCast_nonneg, Int.toNat_natCast, decide_true, decide_false, Bool.and_true, Bool.and_self, Bool.not_true, Bool.not_false, Bool.false_and, Bool.true_and, ne_eq, not_true_eq_false, not_false_eq_true, beq_self_eq_true, un9, un21, un22, un23, un5, un50, un4, ti9, ti22, ti23, ti50, ti25, ti27, pl25, pl27, fl25_0, fl25_1, fl27_0, fl27_1, el22, el23, un3, hwb, htb, hn0] <;> rfl) ?_
  refine awp_seq ?_
  refine awp_run rfl (by simp only [fwA, ↓reduceIte, Nat.reduceAdd, Nat.reduceMul, Nat.reduceEqDiff, Nat.reduceLT, Nat.reduceLeDiff, reduceCtorEq, bitfw, Int.reduceToNat, Int.reduceLE, Int.reduceEq, Int.reduceNeg, List.length_map, List.getElem?_map, Option.map_some, Int.natCast_nonneg, Int.toNat_natCast, decide_true, decide_false, Bool.and_true, Bool.and_self, Bool.not_true, Bool.not_false, Bool.false_and, Bool.true_and, ne_eq, not_true_eq_false, not_false_eq_true, beq_self_eq_true, un9, un21, un22, un23, un5, un50, un4, ti9, ti22, ti23, ti50, ti25, ti27, pl25, pl27, fl25_0, fl25_1, fl27_0, fl27_1, el22, el23, un3, hwc, htc, hn0] <;> rfl) ?_
  refine awp_seq ?_
  refine awp_region rfl ?_
  refine aops_run 3 (by simp only [fwA, ↓reduceIte, Nat.reduceAdd, Nat.reduceMul, Nat.reduceEqDiff, Nat.reduceLT, Nat.reduceLeDiff, reduceCtorEq, bitfw, Int.reduceToNat, Int.reduceLE, Int.reduceEq, Int.reduceNeg, List.length_map, List.getElem?_map, Option.map_some, Int.natCast_nonneg, Int.toNat_natCast, decide_true, decide_false, Bool.and_true, Bool.and_self, Bool.not_true, Bool.not_false, Bool.false_and, Bool.true_and, ne_eq, not_true_eq_false, not_false_eq_true, beq_self_eq_true, un9, un21, un22, un23, un5, un50, un4, ti9, ti22, ti23, ti50, ti25, ti27, pl25, pl27, fl25_0, fl25_1, fl27_0, fl27_1, el22, el23, un3, hK0] <;> rfl) ?_
  refine aops_fn rfl rfl rfl en23 h23 ?_
  refine aops_run 1 (by simp only [fwA, ↓reduceIte, Nat.reduceAdd, Nat.reduceMul, Nat.reduceEqDiff, Nat.reduceLT, Nat.reduceLeDiff, reduceCtorEq, bitfw, Int.reduceToNat, Int.reduceLE, Int.reduceEq, Int.reduceNeg, List.length_map, List.getElem?_map, Option.map_some, Int.natCast_nonneg, Int.toNat_natCast, decide_true, decide_false, Bool.and_true, Bool.and_self, Bool.not_true, Bool.not_false, Bool.false_and, Bool.true_and, ne_eq, not_true_eq_false, not_false_eq_true, beq_self_eq_true, un9, un21, un22, un23, un5, un50, un4, ti9, ti22, ti23, ti50, ti25, ti27, pl25, pl27, fl25_0, fl25_1, fl27_0, fl27_1, el22, el23, un3, hK0] <;> rfl) ?_
  refine aops_end ?_
  refine awp_seq ?_
  refine awp_region rfl ?_
  refine aops_run 3 (by simp only [fwA, ↓reduceIte, Nat.reduceAdd, Nat.reduceMul, Nat.reduceEqDiff, Nat.reduceLT, Nat.reduceLeDiff, reduceCtorEq, bitfw, Int.reduceToNat, Int.reduceLE, Int.reduceEq, Int.reduceNeg, List.length_map, List.getElem?_map, Option.map_some, Int.natCast_nonneg, Int.toNat_natCast, decide_true, decide_false, Bool.and_true, Bool.and_self, Bool.not_true, Bool.not_false, Bool.false_and, Bool.true_and, ne_eq, not_true_eq_false, not_false_eq_true, beq_self_eq_true, un9, un21, un22, un23, un5, un50, un4, ti9, ti22, ti23, ti50, ti25, ti27, pl25, pl27, fl25_0, fl25_1, fl27_0, fl27_1, el22, el23, un3, hK0] <;> rfl) ?_
  refine aops_fn rfl rfl rfl en25 h25 ?_
  refine aops_run 1 (by simp only [fwA, ↓reduceIte, Nat.reduceAdd, Nat.reduceMul, Nat.reduceEqDiff, Nat.reduceLT, Nat.reduceLeDiff, reduceCtorEq, bitfw, Int.reduceToNat, Int.reduceLE, Int.reduceEq, Int.reduceNeg, List.length_map, List.getElem?_map, Option.map_some, Int.natCast_nonneg, Int.toNat_natCast, decide_true, decide_false, Bool.and_true, Bool.and_self, Bool.not_true, Bool.not_false, Bool.false_and, Bool.true_and, ne_eq, not_true_eq_false, not_false_eq_true, beq_self_eq_true, un9, un21, un22, un23, un5, un50, un4, ti9, ti22, ti23, ti50, ti25, ti27, pl25, pl27, fl25_0, fl25_1, fl27_0, fl27_1, el22, el23, un3, hK0] <;> rfl) ?_
  refine aops_end ?_
  have o1 := hq x j hx hj.1
  have o2 := hq y j hy hj.1
  have o3 := hq m x hm.1 hx
  have o4 := hq m y hm.1 hy
  rw [hj.le1 r5.toOrd] at o1
  rw [hj.le2 r5.toOrd] at o2
  rw [show lq us m x = true from hm.le1 r5.toOrd.tr] at o3
  rw [show lq us m y = true from hm.le2 r5.toOrd.tr] at o4
  refine awp_seq ?_
  refine awp_seq ?_
  refine awp_region rfl ?_
  refine aops_run 3 (by simp only [fwA, ↓reduceIte, Nat.reduceAdd, Nat.reduceMul, Nat.reduceEqDiff, Nat.reduceLT, Nat.reduceLeDiff, reduceCtorEq, bitfw, Int.reduceToNat, Int.reduceLE, Int.reduceEq, Int.reduceNeg, List.length_map, List.getElem?_map, Option.map_some, Int.natCast_nonneg, Int.toNat_natCast, decide_true, decide_false, Bool.and_true, Bool.and_self, Bool.not_true, Bool.not_false, Bool.false_and, Bool.true_and, ne_eq, not_true_eq_false, not_false_eq_true, beq_self_eq_true, un9, un21, un22, un23, un5, un50, un4, ti9, ti22, ti23, ti50, ti25, ti27, pl25, pl27, fl25_0, fl25_1, fl27_0, fl27_1, el22, el23, un3, hK0] <;> rfl) ?_
  refine aops_fn rfl rfl rfl en17 o1 ?_
  refine aops_run 5 (by simp only [fwA, ↓reduceIte, Nat.reduceAdd, Nat.reduceMul, Nat.reduceEqDiff, Nat.reduceLT, Nat.reduceLeDiff, reduceCtorEq, bitfw, Int.reduceToNat, Int.reduceLE, Int.reduceEq, Int.reduceNeg, List.length_map, List.getElem?_map, Option.map_some, Int.natCast_nonneg, Int.toNat_natCast, decide_true, decide_false, Bool.and_true, Bool.and_self, Bool.not_true, Bool.not_false, Bool.false_and, Bool.true_and, ne_eq, not_true_eq_false, not_false_eq_true, beq_self_eq_true, un9, un21, un22, un23, un5, un50, un4, ti9, ti22, ti23, ti50, ti25, ti27, pl25, pl27, fl25_0, fl25_1, fl27_0, fl27_1, el22, el23, un3, hK0] <;> rfl) ?_
  refine aops_fnIf rfl rfl rfl rfl rfl en17 o2 ?_
  refine aops_run 6 (by simp only [fwA, ↓reduceIte, Nat.reduceAdd, Nat.reduceMul, Nat.reduceEqDiff, Nat.reduceLT, Nat.reduceLeDiff, reduceCtorEq, bitfw, Int.reduceToNat, Int.reduceLE, Int.reduceEq, Int.reduceNeg, List.length_map, List.getElem?_map, Option.map_some, Int.natCast_nonneg, Int.toNat_natCast, decide_true, decide_false, Bool.and_true, Bool.and_self, Bool.not_true, Bool.not_false, Bool.false_and, Bool.true_and, ne_eq, not_true_eq_false, not_false_eq_true, beq_self_eq_true, un9, un21, un22, un23, un5, un50, un4, ti9, ti22, ti23, ti50, ti25, ti27, pl25, pl27, fl25_0, fl25_1, fl27_0, fl27_1, el22, el23, un3, hK0] <;> rfl) ?_
  refine aops_fnIf rfl rfl rfl rfl rfl en17 o3 ?_
  refine aops_run 6 (by simp only [fwA, ↓reduceIte, Nat.reduceAdd, Nat.reduceMul, Nat.reduceEqDiff, Nat.reduceLT, Nat.reduceLeDiff, reduceCtorEq, bitfw, Int.reduceToNat, Int.reduceLE, Int.reduceEq, Int.reduceNeg, List.length_map, List.getElem?_map, Option.map_some, Int.natCast_nonneg, Int.toNat_natCast, decide_true, decide_false, Bool.and_true, Bool.and_self, Bool.not_true, Bool.not_false, Bool.false_and, Bool.true_and, ne_eq, not_true_eq_false, not_false_eq_true, beq_self_eq_true, un9, un21, un22, un23, un5, un50, un4, ti9, ti22, ti23, ti50, ti25, ti27, pl25, pl27, fl25_0, fl25_1, fl27_0, fl27_1, el22, el23, un3, hK0] <;> rfl) ?_
  refine aops_fnIf rfl rfl rfl rfl rfl en17 o4 ?_
  refine aops_run 2 (by simp only [fwA, ↓reduceIte, Nat.reduceAdd, Nat.reduceMul, Nat.reduceEqDiff, Nat.reduceLT, Nat.reduceLeDiff, reduceCtorEq, bitfw, Int.reduceToNat, Int.reduceLE, Int.reduceEq, Int.reduceNeg, List.length_map, List.getElem?_map, Option.map_some, Int.natCast_nonneg, Int.toNat_natCast, decide_true, decide_false, Bool.and_true, Bool.and_self, Bool.not_true, Bool.not_false, Bool.false_and, Bool.true_and, ne_eq, not_true_eq_false, not_false_eq_true, beq_self_eq_true, un9, un21, un22, un23, un5, un50, un4, ti9, ti22, ti23, ti50, ti25, ti27, pl25, pl27, fl25_0, fl25_1, fl27_0, fl27_1, el22, el23, un3, hK0] <;> rfl) ?_
  refine aops_end ?_
  refine awp_cond (b := false) (by simp [alook, aput, ev]) (awp_skip ?_)
  have q1 := hq x z hx hz
  have q2 := hq y z hy hz
  have q3 := hq j z hj.1 hz
  have q4 := hq z x hz hx
  have q5 := hq z y hz hy
  have q6 := hq z m hz hm.1
  have q7 := hq x y hx hy
  rw [hj.2 z hz] at q3
  rw [show lq us z m = (lq us z x && lq us z y) from hm.2 z hz] at q6
  have e1 : lq us x y = decide ((j : Int) = (y : Int)) := by
    refine Bool.eq_iff_iff.2 ?_
    rw [decide_eq_true_eq]
    constructor
    · intro h
      have := isJ_uniq r5.toOrd hj (isJ_of_le r5.toOrd hx hy h); omega
    · intro h
      have : j = y := by omega
      rw [← this]; exact hj.le1 r5.toOrd
  have e2 : lq us x y = decide ((m : Int) = (x : Int)) := by
    refine Bool.eq_iff_iff.2 ?_
    rw [decide_eq_true_eq]
    constructor
    · intro h
      have := isJ_uniq r5.toOrd.tr hm (isJ_of_le r5.toOrd.tr hy hx h).comm; omega
    · intro h
      have : m = x := by omega
      rw [← this]; exact hm.le2 r5.toOrd.tr
  rw [e1] at q7
  have q7b := q7
  rw [← e1, e2] at q7b
  refine awp_seq ?_
  cases h1 : lq us x z <;> cases h2 : lq us z x
  all_goals
    rw [h1] at q1 q3
    rw [h2] at q4 q6
  · refine awp_drawn [0, 0, 1, 0, 0, 0, 0, 1, 0, 0, 0, 0, 1, 0, 0, 0, 0, 0, 0, 1, 0, 0, 0, 0, 1, 0, 0, 0, 0, 1, 0, 0, 0, 0, 0, 0, 1, 0, 0, 0, 0, 0, 0, 0, 0, 0, 1, 0, 0, 0, 0, 0, 0, 0, 0, 0] [0, 1, 3, 3, 3, 31, 63, 127, 127, 127, 1023, 2047, 3, 3, 3, 30719, 65535, 131071, 262143, 524287, 524287, 524287, 4194303, 8388607, 16777215, 16777215, 16777215, 134217727, 268435455, 524287, 524287, 524287, 4026531839, 8589934591, 17179869183, 34359738367, 68719476735, 68719476735, 68719476735, 549755813887, 68719476735, 68719476735, 3367254360063, 8796093022207, 17592186044415, 35184372088831, 70368744177663, 70368744177663, 70368744177663, 562949953421311, 70368744177663, 70368744177663, 3448068464705535, 9007199254740991, 18014398509481983, 36028797018963967] mixed rfl (by kernel_rfl) ?_
    refine dops_run 5 (by simp only [fwA, ↓reduceIte, Nat.reduceAdd, Nat.reduceMul, Nat.reduceEqDiff, Nat.reduceLT, Nat.reduceLeDiff, reduceCtorEq, bitfw, Int.reduceToNat, Int.reduceLE, Int.reduceEq, Int.reduceNeg, List.length_map, List.getElem?_map, Option.map_some, Int.natCast_nonneg, Int.toNat_natCast, decide_true, decide_false, Bool.and_true, Bool.and_self, Bool.not_true, Bool.not_false, Bool.false_and, Bool.true_and, ne_eq, not_true_eq_false, not_false_eq_true, beq_self_eq_true, un9, un21, un22, un23, un5, un50, un4, ti9, ti22, ti23, ti50, ti25, ti27, pl25, pl27, fl25_0, fl25_1, fl27_0, fl27_1, el22, el23, un3, hK0] <;> rfl) ?_
    refine dops_fn rfl (by simp only [fwA, ↓reduceIte, Nat.reduceAdd, Nat.reduceMul, Nat.reduceEqDiff, Nat.reduceLT, Nat.reduceLeDiff, reduceCtorEq] <;> rfl) rfl rfl en17 q1 ?_
    refine dops_run 9 (by simp only [fwA, ↓reduceIte, Nat.reduceAdd, Nat.reduceMul, Nat.reduceEqDiff, Nat.reduceLT, Nat.reduceLeDiff, reduceCtorEq, bitfw, Int.reduceToNat, Int.reduceLE, Int.reduceEq, Int.reduceNeg, List.length_map, List.getElem?_map, Option.map_some, Int.natCast_nonneg, Int.toNat_natCast, decide_true, decide_false, Bool.and_true, Bool.and_self, Bool.not_true, Bool.not_false, Bool.false_and, Bool.true_and, ne_eq, not_true_eq_false, not_false_eq_true, beq_self_eq_true, un9, un21, un22, un23, un5, un50, un4, ti9, ti22, ti23, ti50, ti25, ti27, pl25, pl27, fl25_0, fl25_1, fl27_0, fl27_1, el22, el23, un3, hK0] <;> rfl) ?_
    refine dops_fn rfl (by simp only [fwA, ↓reduceIte, Nat.reduceAdd, Nat.reduceMul, Nat.reduceEqDiff, Nat.reduceLT, Nat.reduceLeDiff, reduceCtorEq] <;> rfl) rfl rfl en17 q3 ?_
    refine dops_run 6 (by simp only [fwA, ↓reduceIte, Nat.reduceAdd, Nat.reduceMul, Nat.reduceEqDiff, Nat.reduceLT, Nat.reduceLeDiff, reduceCtorEq, bitfw, Int.reduceToNat, Int.reduceLE, Int.reduceEq, Int.reduceNeg, List.length_map, List.getElem?_map, Option.map_some, Int.natCast_nonneg, Int.toNat_natCast, decide_true, decide_false, Bool.and_true, Bool.and_self, Bool.not_true, Bool.not_false, Bool.false_and, Bool.true_and, ne_eq, not_true_eq_false, not_false_eq_true, beq_self_eq_true, un9, un21, un22, un23, un5, un50, un4, ti9, ti22, ti23, ti50, ti25, ti27, pl25, pl27, fl25_0, fl25_1, fl27_0, fl27_1, el22, el23, un3, hK0] <;> rfl) ?_
    refine dops_fn rfl (by simp only [fwA, ↓reduceIte, Nat.reduceAdd, Nat.reduceMul, Nat.reduceEqDiff, Nat.reduceLT, Nat.reduceLeDiff, reduceCtorEq] <;> rfl) rfl rfl en17 q4 ?_
    refine dops_run 9 (by simp only [fwA, ↓reduceIte, Nat.reduceAdd, Nat.reduceMul, Nat.reduceEqDiff, Nat.reduceLT, Nat.reduceLeDiff, reduceCtorEq, bitfw, Int.reduceToNat, Int.reduceLE, Int.reduceEq, Int.reduceNeg, List.length_map, List.getElem?_map, Option.map_some, Int.natCast_nonneg, Int.toNat_natCast, decide_true, decide_false, Bool.and_true, Bool.and_self, Bool.not_true, Bool.not_false, Bool.false_and, Bool.true_and, ne_eq, not_true_eq_false, not_false_eq_true, beq_self_eq_true, un9, un21, un22, un23, un5, un50, un4, ti9, ti22, ti23, ti50, ti25, ti27, pl25, pl27, fl25_0, fl25_1, fl27_0, fl27_1, el22, el23, un3, hK0] <;> rfl) ?_
    refine dops_fn rfl (by simp only [fwA, ↓reduceIte, Nat.reduceAdd, Nat.reduceMul, Nat.reduceEqDiff, Nat.reduceLT, Nat.reduceLeDiff, reduceCtorEq] <;> rfl) rfl rfl en17 q6 ?_
    refine dops_run 6 (by simp only [fwA, ↓reduceIte, Nat.reduceAdd, Nat.reduceMul, Nat.reduceEqDiff, Nat.reduceLT, Nat.reduceLeDiff, reduceCtorEq, bitfw, Int.reduceToNat, Int.reduceLE, Int.reduceEq, Int.reduceNeg, List.length_map, List.getElem?_map, Option.map_some, Int.natCast_nonneg, Int.toNat_natCast, decide_true, decide_false, Bool.and_true, Bool.and_self, Bool.not_true, Bool.not_false, Bool.false_and, Bool.true_and, ne_eq, not_true_eq_false, not_false_eq_true, beq_self_eq_true, un9, un21, un22, un23, un5, un50, un4, ti9, ti22, ti23, ti50, ti25, ti27, pl25, pl27, fl25_0, fl25_1, fl27_0, fl27_1, el22, el23, un3, hK0] <;> rfl) ?_
    refine dops_fn rfl (by simp only [fwA, ↓reduceIte, Nat.reduceAdd, Nat.reduceMul, Nat.reduceEqDiff, Nat.reduceLT, Nat.reduceLeDiff, reduceCtorEq] <;> rfl) rfl rfl en17 q7 ?_
    refine dops_run 9 (by simp only [fwA, ↓reduceIte, Nat.reduceAdd, Nat.reduceMul, Nat.reduceEqDiff, Nat.reduceLT, Nat.reduceLeDiff, reduceCtorEq, bitfw, Int.reduceToNat, Int.reduceLE, Int.reduceEq, Int.reduceNeg, List.length_map, List.getElem?_map, Option.map_some, Int.natCast_nonneg, Int.toNat_natCast, decide_true, decide_false, Bool.and_true, Bool.and_self, Bool.not_true, Bool.not_false, Bool.false_and, Bool.true_and, ne_eq, not_true_eq_false, not_false_eq_true, beq_self_eq_true, un9, un21, un22, un23, un5, un50, un4, ti9, ti22, ti23, ti50, ti25, ti27, pl25, pl27, fl25_0, fl25_1, fl27_0, fl27_1, el22, el23, un3, hK0] <;> rfl) ?_
    refine dops_fn rfl (by simp only [fwA, ↓reduceIte, Nat.reduceAdd, Nat.reduceMul, Nat.reduceEqDiff, Nat.reduceLT, Nat.reduceLeDiff, reduceCtorEq] <;> rfl) rfl rfl en17 q7b ?_
    refine dops_run 6 (by simp only [fwA, ↓reduceIte, Nat.reduceAdd, Nat.reduceMul, Nat.reduceEqDiff, Nat.reduceLT, Nat.reduceLeDiff, reduceCtorEq, bitfw, Int.reduceToNat, Int.reduceLE, Int.reduceEq, Int.reduceNeg, List.length_map, List.getElem?_map, Option.map_some, Int.natCast_nonneg, Int.toNat_natCast, decide_true, decide_false, Bool.and_true, Bool.and_self, Bool.not_true, Bool.not_false, Bool.false_and, Bool.true_and, ne_eq, not_true_eq_false, not_false_eq_true, beq_self_eq_true, un9, un21, un22, un23, un5, un50, un4, ti9, ti22, ti23, ti50, ti25, ti27, pl25, pl27, fl25_0, fl25_1, fl27_0, fl27_1, el22, el23, un3, hK0] <;> rfl) ?_
    refine dops_end ?_
    refine awp_ret ?_
    exact hend _ rfl
  · refine awp_drawn [0, 0, 1, 0, 0, 0, 0, 1, 0, 0, 0, 0, 1, 0, 0, 0, 0, 0, 0, 1, 0, 0, 0, 0, 1, 0, 0, 0, 0, 1, 0, 0, 0, 0, 0, 0, 1, 0, 0, 0, 0, 0, 0, 0, 0, 0, 1, 0, 0, 0, 0, 0, 0, 0, 0, 0] [0, 1, 3, 3, 3, 31, 63, 127, 127, 127, 1023, 2047, 3, 3, 3, 30719, 65535, 131071, 262143, 524287, 524287, 524287, 4194303, 8388607, 16777215, 16777215, 16777215, 134217727, 268435455, 524287, 524287, 524287, 4026531839, 8589934591, 17179869183, 34359738367, 68719476735, 68719476735, 68719476735, 549755813887, 68719476735, 68719476735, 3367254360063, 8796093022207, 17592186044415, 35184372088831, 70368744177663, 70368744177663, 70368744177663, 562949953421311, 70368744177663, 70368744177663, 3448068464705535, 9007199254740991, 18014398509481983, 36028797018963967] mixed rfl (by kernel_rfl) ?_
    refine dops_run 5 (by simp only [fwA, ↓reduceIte, Nat.reduceAdd, Nat.reduceMul, Nat.reduceEqDiff, Nat.reduceLT, Nat.reduceLeDiff, reduceCtorEq, bitfw, Int.reduceToNat, Int.reduceLE, Int.reduceEq, Int.reduceNeg, List.length_map, List.getElem?_map, Option.map_some, Int.natCast_nonneg, Int.toNat_natCast, decide_true, decide_false, Bool.and_true, Bool.and_self, Bool.not_true, Bool.not_false, Bool.false_and, Bool.true_and, ne_eq, not_true_eq_false, not_false_eq_true, beq_self_eq_true, un9, un21, un22, un23, un5, un50, un4, ti9, ti22, ti23, ti50, ti25, ti27, pl25, pl27, fl25_0, fl25_1, fl27_0, fl27_1, el22, el23, un3, hK0] <;> rfl) ?_
    refine dops_fn rfl (by simp only [fwA, ↓reduceIte, Nat.reduceAdd, Nat.reduceMul, Nat.reduceEqDiff, Nat.reduceLT, Nat.reduceLeDiff, reduceCtorEq] <;> rfl) rfl rfl en17 q1 ?_
    refine dops_run 9 (by simp only [fwA, ↓reduceIte, Nat.reduceAdd, Nat.reduceMul, Nat.reduceEqDiff, Nat.reduceLT, Nat.reduceLeDiff, reduceCtorEq, bitfw, Int.reduceToNat, Int.reduceLE, Int.reduceEq, Int.reduceNeg, List.length_map, List.getElem?_map, Option.map_some, Int.natCast_nonneg, Int.toNat_natCast, decide_true, decide_false, Bool.and_true, Bool.and_self, Bool.not_true, Bool.not_false, Bool.false_and, Bool.true_and, ne_eq, not_true_eq_false, not_false_eq_true, beq_self_eq_true, un9, un21, un22, un23, un5, un50, un4, ti9, ti22, ti23, ti50, ti25, ti27, pl25, pl27, fl25_0, fl25_1, fl27_0, fl27_1, el22, el23, un3, hK0] <;> rfl) ?_
    refine dops_fn rfl (by simp only [fwA, ↓reduceIte, Nat.reduceAdd, Nat.reduceMul, Nat.reduceEqDiff, Nat.reduceLT, Nat.reduceLeDiff, reduceCtorEq] <;> rfl) rfl rfl en17 q3 ?_
    refine dops_run 6 (by simp only [fwA, ↓reduceIte, Nat.reduceAdd, Nat.reduceMul, Nat.reduceEqDiff, Nat.reduceLT, Nat.reduceLeDiff, reduceCtorEq, bitfw, Int.reduceToNat, Int.reduceLE, Int.reduceEq, Int.reduceNeg, List.length_map, List.getElem?_map, Option.map_some, Int.natCast_nonneg, Int.toNat_natCast, decide_true, decide_false, Bool.and_true, Bool.and_self, Bool.not_true, Bool.not_false, Bool.false_and, Bool.true_and, ne_eq, not_true_eq_false, not_false_eq_true, beq_self_eq_true, un9, un21, un22, un23, un5, un50, un4, ti9, ti22, ti23, ti50, ti25, ti27, pl25, pl27, fl25_0, fl25_1, fl27_0, fl27_1, el22, el23, un3, hK0] <;> rfl) ?_
    refine dops_fn rfl (by simp only [fwA, ↓reduceIte, Nat.reduceAdd, Nat.reduceMul, Nat.reduceEqDiff, Nat.reduceLT, Nat.reduceLeDiff, reduceCtorEq] <;> rfl) rfl rfl en17 q4 ?_
    refine dops_run 4 (by simp only [fwA, ↓reduceIte, Nat.reduceAdd, Nat.reduceMul, Nat.reduceEqDiff, Nat.reduceLT, Nat.reduceLeDiff, reduceCtorEq, bitfw, Int.reduceToNat, Int.reduceLE, Int.reduceEq, Int.reduceNeg, List.length_map, List.getElem?_map, Option.map_some, Int.natCast_nonneg, Int.toNat_natCast, decide_true, decide_false, Bool.and_true, Bool.and_self, Bool.not_true, Bool.not_false, Bool.false_and, Bool.true_and, ne_eq, not_true_eq_false, not_false_eq_true, beq_self_eq_true, un9, un21, un22, un23, un5, un50, un4, ti9, ti22, ti23, ti50, ti25, ti27, pl25, pl27, fl25_0, fl25_1, fl27_0, fl27_1, el22, el23, un3, hK0] <;> rfl) ?_
    refine dops_fn rfl (by simp only [fwA, ↓reduceIte, Nat.reduceAdd, Nat.reduceMul, Nat.reduceEqDiff, Nat.reduceLT, Nat.reduceLeDiff, reduceCtorEq] <;> rfl) rfl rfl en17 q5 ?_
    refine dops_run 4 (by simp only [fwA, ↓reduceIte, Nat.reduceAdd, Nat.reduceMul, Nat.reduceEqDiff, Nat.reduceLT, Nat.reduceLeDiff, reduceCtorEq, bitfw, Int.reduceToNat, Int.reduceLE, Int.reduceEq, Int.reduceNeg, List.length_map, List.getElem?_map, Option.map_some, Int.natCast_nonneg, Int.toNat_natCast, decide_true, decide_false, Bool.and_true, Bool.and_self, Bool.not_true, Bool.not_false, Bool.false_and, Bool.true_and, ne_eq, not_true_eq_false, not_false_eq_true, beq_self_eq_true, un9, un21, un22, un23, un5, un50, un4, ti9, ti22, ti23, ti50, ti25, ti27, pl25, pl27, fl25_0, fl25_1, fl27_0, fl27_1, el22, el23, un3, hK0] <;> rfl) ?_
    refine dops_fn rfl (by simp only [fwA, ↓reduceIte, Nat.reduceAdd, Nat.reduceMul, Nat.reduceEqDiff, Nat.reduceLT, Nat.reduceLeDiff, reduceCtorEq] <;> rfl) rfl rfl en17 q6 ?_
    refine dops_run 6 (by simp only [fwA, ↓reduceIte, Nat.reduceAdd, Nat.reduceMul, Nat.reduceEqDiff, Nat.reduceLT, Nat.reduceLeDiff, reduceCtorEq, bitfw, Int.reduceToNat, Int.reduceLE, Int.reduceEq, Int.reduceNeg, List.length_map, List.getElem?_map, Option.map_some, Int.natCast_nonneg, Int.toNat_natCast, decide_true, decide_false, Bool.and_true, Bool.and_self, Bool.not_true, Bool.not_false, Bool.false_and, Bool.true_and, ne_eq, not_true_eq_false, not_false_eq_true, beq_self_eq_true, un9, un21, un22, un23, un5, un50, un4, ti9, ti22, ti23, ti50, ti25, ti27, pl25, pl27, fl25_0, fl25_1, fl27_0, fl27_1, el22, el23, un3, hK0] <;> rfl) ?_
    refine dops_fn rfl (by simp only [fwA, ↓reduceIte, Nat.reduceAdd, Nat.reduceMul, Nat.reduceEqDiff, Nat.reduceLT, Nat.reduceLeDiff, reduceCtorEq] <;> rfl) rfl rfl en17 q7 ?_
    refine dops_run 9 (by simp only [fwA, ↓reduceIte, Nat.reduceAdd, Nat.reduceMul, Nat.reduceEqDiff, Nat.reduceLT, Nat.reduceLeDiff, reduceCtorEq, bitfw, Int.reduceToNat, Int.reduceLE, Int.reduceEq, Int.reduceNeg, List.length_map, List.getElem?_map, Option.map_some, Int.natCast_nonneg, Int.toNat_natCast, decide_true, decide_false, Bool.and_true, Bool.and_self, Bool.not_true, Bool.not_false, Bool.false_and, Bool.true_and, ne_eq, not_true_eq_false, not_false_eq_true, beq_self_eq_true, un9, un21, un22, un23, un5, un50, un4, ti9, ti22, ti23, ti50, ti25, ti27, pl25, pl27, fl25_0, fl25_1, fl27_0, fl27_1, el22, el23, un3, hK0] <;> rfl) ?_
    refine dops_fn rfl (by simp only [fwA, ↓reduceIte, Nat.reduceAdd, Nat.reduceMul, Nat.reduceEqDiff, Nat.reduceLT, Nat.reduceLeDiff, reduceCtorEq] <;> rfl) rfl rfl en17 q7b ?_
    refine dops_run 6 (by simp only [fwA, ↓reduceIte, Nat.reduceAdd, Nat.reduceMul, Nat.reduceEqDiff, Nat.reduceLT, Nat.reduceLeDiff, reduceCtorEq, bitfw, Int.reduceToNat, Int.reduceLE, Int.reduceEq, Int.reduceNeg, List.length_map, List.getElem?_map, Option.map_some, Int.natCast_nonneg, Int.toNat_natCast, decide_true, decide_false, Bool.and_true, Bool.and_self, Bool.not_true, Bool.not_false, Bool.false_and, Bool.true_and, ne_eq, not_true_eq_false, not_false_eq_true, beq_self_eq_true, un9, un21, un22, un23, un5, un50, un4, ti9, ti22, ti23, ti50, ti25, ti27, pl25, pl27, fl25_0, fl25_1, fl27_0, fl27_1, el22, el23, un3, hK0] <;> rfl) ?_
    refine dops_end ?_
    refine awp_ret ?_
    exact hend _ rfl
  · refine awp_drawn [0, 0, 1, 0, 0, 0, 0, 1, 0, 0, 0, 0, 1, 0, 0, 0, 0, 0, 0, 1, 0, 0, 0, 0, 1, 0, 0, 0, 0, 1, 0, 0, 0, 0, 0, 0, 1, 0, 0, 0, 0, 0, 0, 0, 0, 0, 1, 0, 0, 0, 0, 0, 0, 0, 0, 0] [0, 1, 3, 3, 3, 31, 63, 127, 127, 127, 1023, 2047, 3, 3, 3, 30719, 65535, 131071, 262143, 524287, 524287, 524287, 4194303, 8388607, 16777215, 16777215, 16777215, 134217727, 268435455, 524287, 524287, 524287, 4026531839, 8589934591, 17179869183, 34359738367, 68719476735, 68719476735, 68719476735, 549755813887, 68719476735, 68719476735, 3367254360063, 8796093022207, 17592186044415, 35184372088831, 70368744177663, 70368744177663, 70368744177663, 562949953421311, 70368744177663, 70368744177663, 3448068464705535, 9007199254740991, 18014398509481983, 36028797018963967] mixed rfl (by kernel_rfl) ?_
    refine dops_run 5 (by simp only [fwA, ↓reduceIte, Nat.reduceAdd, Nat.reduceMul, Nat.reduceEqDiff, Nat.reduceLT, Nat.reduceLeDiff, reduceCtorEq, bitfw, Int.reduceToNat, Int.reduceLE, Int.reduceEq, Int.reduceNeg, List.length_map, List.getElem?_map, Option.map_some, Int.natCast_nonneg, Int.toNat_natCast, decide_true, decide_false, Bool.and_true, Bool.and_self, Bool.not_true, Bool.not_false, Bool.false_and, Bool.true_and, ne_eq, not_true_eq_false, not_false_eq_true, beq_self_eq_true, un9, un21, un22, un23, un5, un50, un4, ti9, ti22, ti23, ti50, ti25, ti27, pl25, pl27, fl25_0, fl25_1, fl27_0, fl27_1, el22, el23, un3, hK0] <;> rfl) ?_
    refine dops_fn rfl (by simp only [fwA, ↓reduceIte, Nat.reduceAdd, Nat.reduceMul, Nat.reduceEqDiff, Nat.reduceLT, Nat.reduceLeDiff, reduceCtorEq] <;> rfl) rfl rfl en17 q1 ?_
    refine dops_run 4 (by simp only [fwA, ↓reduceIte, Nat.reduceAdd, Nat.reduceMul, Nat.reduceEqDiff, Nat.reduceLT, Nat.reduceLeDiff, reduceCtorEq, bitfw, Int.reduceToNat, Int.reduceLE, Int.reduceEq, Int.reduceNeg, List.length_map, List.getElem?_map, Option.map_some, Int.natCast_nonneg, Int.toNat_natCast, decide_true, decide_false, Bool.and_true, Bool.and_self, Bool.not_true, Bool.not_false, Bool.false_and, Bool.true_and, ne_eq, not_true_eq_false, not_false_eq_true, beq_self_eq_true, un9, un21, un22, un23, un5, un50, un4, ti9, ti22, ti23, ti50, ti25, ti27, pl25, pl27, fl25_0, fl25_1, fl27_0, fl27_1, el22, el23, un3, hK0] <;> rfl) ?_
    refine dops_fn rfl (by simp only [fwA, ↓reduceIte, Nat.reduceAdd, Nat.reduceMul, Nat.reduceEqDiff, Nat.reduceLT, Nat.reduceLeDiff, reduceCtorEq] <;> rfl) rfl rfl en17 q2 ?_
    refine dops_run 4 (by simp only [fwA, ↓reduceIte, Nat.reduceAdd, Nat.reduceMul, Nat.reduceEqDiff, Nat.reduceLT, Nat.reduceLeDiff, reduceCtorEq, bitfw, Int.reduceToNat, Int.reduceLE, Int.reduceEq, Int.reduceNeg, List.length_map, List.getElem?_map, Option.map_some, Int.natCast_nonneg, Int.toNat_natCast, decide_true, decide_false, Bool.and_true, Bool.and_self, Bool.not_true, Bool.not_false, Bool.false_and, Bool.true_and, ne_eq, not_true_eq_false, not_false_eq_true, beq_self_eq_true, un9, un21, un22, un23, un5, un50, un4, ti9, ti22, ti23, ti50, ti25, ti27, pl25, pl27, fl25_0, fl25_1, fl27_0, fl27_1, el22, el23, un3, hK0] <;> rfl) ?_
    refine dops_fn rfl (by simp only [fwA, ↓reduceIte, Nat.reduceAdd, Nat.reduceMul, Nat.reduceEqDiff, Nat.reduceLT, Nat.reduceLeDiff, reduceCtorEq] <;> rfl) rfl rfl en17 q3 ?_
    refine dops_run 6 (by simp only [fwA, ↓reduceIte, Nat.reduceAdd, Nat.reduceMul, Nat.reduceEqDiff, Nat.reduceLT, Nat.reduceLeDiff, reduceCtorEq, bitfw, Int.reduceToNat, Int.reduceLE, Int.reduceEq, Int.reduceNeg, List.length_map, List.getElem?_map, Option.map_some, Int.natCast_nonneg, Int.toNat_natCast, decide_true, decide_false, Bool.and_true, Bool.and_self, Bool.not_true, Bool.not_false, Bool.false_and, Bool.true_and, ne_eq, not_true_eq_false, not_false_eq_true, beq_self_eq_true, un9, un21, un22, un23, un5, un50, un4, ti9, ti22, ti23, ti50, ti25, ti27, pl25, pl27, fl25_0, fl25_1, fl27_0, fl27_1, el22, el23, un3, hK0] <;> rfl) ?_
    refine dops_fn rfl (by simp only [fwA, ↓reduceIte, Nat.reduceAdd, Nat.reduceMul, Nat.reduceEqDiff, Nat.reduceLT, Nat.reduceLeDiff, reduceCtorEq] <;> rfl) rfl rfl en17 q4 ?_
    refine dops_run 9 (by simp only [fwA, ↓reduceIte, Nat.reduceAdd, Nat.reduceMul, Nat.reduceEqDiff, Nat.reduceLT, Nat.reduceLeDiff, reduceCtorEq, bitfw, Int.reduceToNat, Int.reduceLE, Int.reduceEq, Int.reduceNeg, List.length_map, List.getElem?_map, Option.map_some, Int.natCast_nonneg, Int.toNat_natCast, decide_true, decide_false, Bool.and_true, Bool.and_self, Bool.not_true, Bool.not_false, Bool.false_and, Bool.true_and, ne_eq, not_true_eq_false, not_false_eq_true, beq_self_eq_true, un9, un21, un22, un23, un5, un50, un4, ti9, ti22, ti23, ti50, ti25, ti27, pl25, pl27, fl25_0, fl25_1, fl27_0, fl27_1, el22, el23, un3, hK0] <;> rfl) ?_
    refine dops_fn rfl (by simp only [fwA, ↓reduceIte, Nat.reduceAdd, Nat.reduceMul, Nat.reduceEqDiff, Nat.reduceLT, Nat.reduceLeDiff, reduceCtorEq] <;> rfl) rfl rfl en17 q6 ?_
    refine dops_run 6 (by simp only [fwA, ↓reduceIte, Nat.reduceAdd, Nat.reduceMul, Nat.reduceEqDiff, Nat.reduceLT, Nat.reduceLeDiff, reduceCtorEq, bitfw, Int.reduceToNat, Int.reduceLE, Int.reduceEq, Int.reduceNeg, List.length_map, List.getElem?_map, Option.map_some, Int.natCast_nonneg, Int.toNat_natCast, decide_true, decide_false, Bool.and_true, Bool.and_self, Bool.not_true, Bool.not_false, Bool.false_and, Bool.true_and, ne_eq, not_true_eq_false, not_false_eq_true, beq_self_eq_true, un9, un21, un22, un23, un5, un50, un4, ti9, ti22, ti23, ti50, ti25, ti27, pl25, pl27, fl25_0, fl25_1, fl27_0, fl27_1, el22, el23, un3, hK0] <;> rfl) ?_
    refine dops_fn rfl (by simp only [fwA, ↓reduceIte, Nat.reduceAdd, Nat.reduceMul, Nat.reduceEqDiff, Nat.reduceLT, Nat.reduceLeDiff, reduceCtorEq] <;> rfl) rfl rfl en17 q7 ?_
    refine dops_run 9 (by simp only [fwA, ↓reduceIte, Nat.reduceAdd, Nat.reduceMul, Nat.reduceEqDiff, Nat.reduceLT, Nat.reduceLeDiff, reduceCtorEq, bitfw, Int.reduceToNat, Int.reduceLE, Int.reduceEq, Int.reduceNeg, List.length_map, List.getElem?_map, Option.map_some, Int.natCast_nonneg, Int.toNat_natCast, decide_true, decide_false, Bool.and_true, Bool.and_self, Bool.not_true, Bool.not_false, Bool.false_and, Bool.true_and, ne_eq, not_true_eq_false, not_false_eq_true, beq_self_eq_true, un9, un21, un22, un23, un5, un50, un4, ti9, ti22, ti23, ti50, ti25, ti27, pl25, pl27, fl25_0, fl25_1, fl27_0, fl27_1, el22, el23, un3, hK0] <;> rfl) ?_
    refine dops_fn rfl (by simp only [fwA, ↓reduceIte, Nat.reduceAdd, Nat.reduceMul, Nat.reduceEqDiff, Nat.reduceLT, Nat.reduceLeDiff, reduceCtorEq] <;> rfl) rfl rfl en17 q7b ?_
    refine dops_run 6 (by simp only [fwA, ↓reduceIte, Nat.reduceAdd, Nat.reduceMul, Nat.reduceEqDiff, Nat.reduceLT, Nat.reduceLeDiff, reduceCtorEq, bitfw, Int.reduceToNat, Int.reduceLE, Int.reduceEq, Int.reduceNeg, List.length_map, List.getElem?_map, Option.map_some, Int.natCast_nonneg, Int.toNat_natCast, decide_true, decide_false, Bool.and_true, Bool.and_self, Bool.not_true, Bool.not_false, Bool.false_and, Bool.true_and, ne_eq, not_true_eq_false, not_false_eq_true, beq_self_eq_true, un9, un21, un22, un23, un5, un50, un4, ti9, ti22, ti23, ti50, ti25, ti27, pl25, pl27, fl25_0, fl25_1, fl27_0, fl27_1, el22, el23, un3, hK0] <;> rfl) ?_
    refine dops_end ?_
    refine awp_ret ?_
    exact hend _ rfl
  · refine awp_drawn [0, 0, 1, 0, 0, 0, 0, 1, 0, 0, 0, 0, 1, 0, 0, 0, 0, 0, 0, 1, 0, 0, 0, 0, 1, 0, 0, 0, 0, 1, 0, 0, 0, 0, 0, 0, 1, 0, 0, 0, 0, 0, 0, 0, 0, 0, 1, 0, 0, 0, 0, 0, 0, 0, 0, 0] [0, 1, 3, 3, 3, 31, 63, 127, 127, 127, 1023, 2047, 3, 3, 3, 30719, 65535, 131071, 262143, 524287, 524287, 524287, 4194303, 8388607, 16777215, 16777215, 16777215, 134217727, 268435455, 524287, 524287, 524287, 4026531839, 8589934591, 17179869183, 34359738367, 68719476735, 68719476735, 68719476735, 549755813887, 68719476735, 68719476735, 3367254360063, 8796093022207, 17592186044415, 35184372088831, 70368744177663, 70368744177663, 70368744177663, 562949953421311, 70368744177663, 70368744177663, 3448068464705535, 9007199254740991, 18014398509481983, 36028797018963967] mixed rfl (by kernel_rfl) ?_
    refine dops_run 5 (by simp only [fwA, ↓reduceIte, Nat.reduceAdd, Nat.reduceMul, Nat.reduceEqDiff, Nat.reduceLT, Nat.reduceLeDiff, reduceCtorEq, bitfw, Int.reduceToNat, Int.reduceLE, Int.reduceEq, Int.reduceNeg, List.length_map, List.getElem?_map, Option.map_some, Int.natCast_nonneg, Int.toNat_natCast, decide_true, decide_false, Bool.and_true, Bool.and_self, Bool.not_true, Bool.not_false, Bool.false_and, Bool.true_and, ne_eq, not_true_eq_false, not_false_eq_true, beq_self_eq_true, un9, un21, un22, un23, un5, un50, un4, ti9, ti22, ti23, ti50, ti25, ti27, pl25, pl27, fl25_0, fl25_1, fl27_0, fl27_1, el22, el23, un3, hK0] <;> rfl) ?_
    refine dops_fn rfl (by simp only [fwA, ↓reduceIte, Nat.reduceAdd, Nat.reduceMul, Nat.reduceEqDiff, Nat.reduceLT, Nat.reduceLeDiff, reduceCtorEq] <;> rfl) rfl rfl en17 q1 ?_
    refine dops_run 4 (by simp only [fwA, ↓reduceIte, Nat.reduceAdd, Nat.reduceMul, Nat.reduceEqDiff, Nat.reduceLT, Nat.reduceLeDiff, reduceCtorEq, bitfw, Int.reduceToNat, Int.reduceLE, Int.reduceEq, Int.reduceNeg, List.length_map, List.getElem?_map, Option.map_some, Int.natCast_nonneg, Int.toNat_natCast, decide_true, decide_false, Bool.and_true, Bool.and_self, Bool.not_true, Bool.not_false, Bool.false_and, Bool.true_and, ne_eq, not_true_eq_false, not_false_eq_true, beq_self_eq_true, un9, un21, un22, un23, un5, un50, un4, ti9, ti22, ti23, ti50, ti25, ti27, pl25, pl27, fl25_0, fl25_1, fl27_0, fl27_1, el22, el23, un3, hK0] <;> rfl) ?_
    refine dops_fn rfl (by simp only [fwA, ↓reduceIte, Nat.reduceAdd, Nat.reduceMul, Nat.reduceEqDiff, Nat.reduceLT, Nat.reduceLeDiff, reduceCtorEq] <;> rfl) rfl rfl en17 q2 ?_
    refine dops_run 4 (by simp only [fwA, ↓reduceIte, Nat.reduceAdd, Nat.reduceMul, Nat.reduceEqDiff, Nat.reduceLT, Nat.reduceLeDiff, reduceCtorEq, bitfw, Int.reduceToNat, Int.reduceLE, Int.reduceEq, Int.reduceNeg, List.length_map, List.getElem?_map, Option.map_some, Int.natCast_nonneg, Int.toNat_natCast, decide_true, decide_false, Bool.and_true, Bool.and_self, Bool.not_true, Bool.not_false, Bool.false_and, Bool.true_and, ne_eq, not_true_eq_false, not_false_eq_true, beq_self_eq_true, un9, un21, un22, un23, un5, un50, un4, ti9, ti22, ti23, ti50, ti25, ti27, pl25, pl27, fl25_0, fl25_1, fl27_0, fl27_1, el22, el23, un3, hK0] <;> rfl) ?_
    refine dops_fn rfl (by simp only [fwA, ↓reduceIte, Nat.reduceAdd, Nat.reduceMul, Nat.reduceEqDiff, Nat.reduceLT, Nat.reduceLeDiff, reduceCtorEq] <;> rfl) rfl rfl en17 q3 ?_
    refine dops_run 6 (by simp only [fwA, ↓reduceIte, Nat.reduceAdd, Nat.reduceMul, Nat.reduceEqDiff, Nat.reduceLT, Nat.reduceLeDiff, reduceCtorEq, bitfw, Int.reduceToNat, Int.reduceLE, Int.reduceEq, Int.reduceNeg, List.length_map, List.getElem?_map, Option.map_some, Int.natCast_nonneg, Int.toNat_natCast, decide_true, decide_false, Bool.and_true, Bool.and_self, Bool.not_true, Bool.not_false, Bool.false_and, Bool.true_and, ne_eq, not_true_eq_false, not_false_eq_true, beq_self_eq_true, un9, un21, un22, un23, un5, un50, un4, ti9, ti22, ti23, ti50, ti25, ti27, pl25, pl27, fl25_0, fl25_1, fl27_0, fl27_1, el22, el23, un3, hK0] <;> rfl) ?_
    refine dops_fn rfl (by simp only [fwA, ↓reduceIte, Nat.reduceAdd, Nat.reduceMul, Nat.reduceEqDiff, Nat.reduceLT, Nat.reduceLeDiff, reduceCtorEq] <;> rfl) rfl rfl en17 q4 ?_
    refine dops_run 4 (by simp only [fwA, ↓reduceIte, Nat.reduceAdd, Nat.reduceMul, Nat.reduceEqDiff, Nat.reduceLT, Nat.reduceLeDiff, reduceCtorEq, bitfw, Int.reduceToNat, Int.reduceLE, Int.reduceEq, Int.reduceNeg, List.length_map, List.getElem?_map, Option.map_some, Int.natCast_nonneg, Int.toNat_natCast, decide_true, decide_false, Bool.and_true, Bool.and_self, Bool.not_true, Bool.not_false, Bool.false_and, Bool.true_and, ne_eq, not_true_eq_false, not_false_eq_true, beq_self_eq_true, un9, un21, un22, un23, un5, un50, un4, ti9, ti22, ti23, ti50, ti25, ti27, pl25, pl27, fl25_0, fl25_1, fl27_0, fl27_1, el22, el23, un3, hK0] <;> rfl) ?_
    refine dops_fn rfl (by simp only [fwA, ↓reduceIte, Nat.reduceAdd, Nat.reduceMul, Nat.reduceEqDiff, Nat.reduceLT, Nat.reduceLeDiff, reduceCtorEq] <;> rfl) rfl rfl en17 q5 ?_
    refine dops_run 4 (by simp only [fwA, ↓reduceIte, Nat.reduceAdd, Nat.reduceMul, Nat.reduceEqDiff, Nat.reduceLT, Nat.reduceLeDiff, reduceCtorEq, bitfw, Int.reduceToNat, Int.reduceLE, Int.reduceEq, Int.reduceNeg, List.length_map, List.getElem?_map, Option.map_some, Int.natCast_nonneg, Int.toNat_natCast, decide_true, decide_false, Bool.and_true, Bool.and_self, Bool.not_true, Bool.not_false, Bool.false_and, Bool.true_and, ne_eq, not_true_eq_false, not_false_eq_true, beq_self_eq_true, un9, un21, un22, un23, un5, un50, un4, ti9, ti22, ti23, ti50, ti25, ti27, pl25, pl27, fl25_0, fl25_1, fl27_0, fl27_1, el22, el23, un3, hK0] <;> rfl) ?_
    refine dops_fn rfl (by simp only [fwA, ↓reduceIte, Nat.reduceAdd, Nat.reduceMul, Nat.reduceEqDiff, Nat.reduceLT, Nat.reduceLeDiff, reduceCtorEq] <;> rfl) rfl rfl en17 q6 ?_
    refine dops_run 6 (by simp only [fwA, ↓reduceIte, Nat.reduceAdd, Nat.reduceMul, Nat.reduceEqDiff, Nat.reduceLT, Nat.reduceLeDiff, reduceCtorEq, bitfw, Int.reduceToNat, Int.reduceLE, Int.reduceEq, Int.reduceNeg, List.length_map, List.getElem?_map, Option.map_some, Int.natCast_nonneg, Int.toNat_natCast, decide_true, decide_false, Bool.and_true, Bool.and_self, Bool.not_true, Bool.not_false, Bool.false_and, Bool.true_and, ne_eq, not_true_eq_false, not_false_eq_true, beq_self_eq_true, un9, un21, un22, un23, un5, un50, un4, ti9, ti22, ti23, ti50, ti25, ti27, pl25, pl27, fl25_0, fl25_1, fl27_0, fl27_1, el22, el23, un3, hK0] <;> rfl) ?_
    refine dops_fn rfl (by simp only [fwA, ↓reduceIte, Nat.reduceAdd, Nat.reduceMul, Nat.reduceEqDiff, Nat.reduceLT, Nat.reduceLeDiff, reduceCtorEq] <;> rfl) rfl rfl en17 q7 ?_
    refine dops_run 9 (by simp only [fwA, ↓reduceIte, Nat.reduceAdd, Nat.reduceMul, Nat.reduceEqDiff, Nat.reduceLT, Nat.reduceLeDiff, reduceCtorEq, bitfw, Int.reduceToNat, Int.reduceLE, Int.reduceEq, Int.reduceNeg, List.length_map, List.getElem?_map, Option.map_some, Int.natCast_nonneg, Int.toNat_natCast, decide_true, decide_false, Bool.and_true, Bool.and_self, Bool.not_true, Bool.not_false, Bool.false_and, Bool.true_and, ne_eq, not_true_eq_false, not_false_eq_true, beq_self_eq_true, un9, un21, un22, un23, un5, un50, un4, ti9, ti22, ti23, ti50, ti25, ti27, pl25, pl27, fl25_0, fl25_1, fl27_0, fl27_1, el22, el23, un3, hK0] <;> rfl) ?_
    refine dops_fn rfl (by simp only [fwA, ↓reduceIte, Nat.reduceAdd, Nat.reduceMul, Nat.reduceEqDiff, Nat.reduceLT, Nat.reduceLeDiff, reduceCtorEq] <;> rfl) rfl rfl en17 q7b ?_
    refine dops_run 6 (by simp only [fwA, ↓reduceIte, Nat.reduceAdd, Nat.reduceMul, Nat.reduceEqDiff, Nat.reduceLT, Nat.reduceLeDiff, reduceCtorEq, bitfw, Int.reduceToNat, Int.reduceLE, Int.reduceEq, Int.reduceNeg, List.length_map, List.getElem?_map, Option.map_some, Int.natCast_nonneg, Int.toNat_natCast, decide_true, decide_false, Bool.and_true, Bool.and_self, Bool.not_true, Bool.not_false, Bool.false_and, Bool.true_and, ne_eq, not_true_eq_false, not_false_eq_true, beq_self_eq_true, un9, un21, un22, un23, un5, un50, un4, ti9, ti22, ti23, ti50, ti25, ti27, pl25, pl27, fl25_0, fl25_1, fl27_0, fl27_1, el22, el23, un3, hK0] <;> rfl) ?_
    refine dops_end ?_
    refine awp_ret ?_
    exact hend _ rfl

set_option maxHeartbeats 8000000 in
/-- LatLaws -/
theorem c6 (Γ : Nat → PV) (hT : Tab Γ) (ns : List (List UInt8)) (us : List Nat) (hw : W64 us) (a b c : Int) (ha0 : 0 ≤ a) (ha1 : a < 256) (hb0 : 0 ≤ b) (hb1 : b < 256) (hc0 : 0 ≤ c) (hc1 : c < 256) : Gives Tryd.prog Γ 6 [.agg [.vec (ns.map S1) false, .vec (us.map U1) false], .int .u8 a, .int .u8 b, .int .u8 c] (.bool true) := by
  obtain ⟨hΓ, hM⟩ := id hT
  have h10 := c10 Γ hT
  have h15 := c15 Γ hΓ ns us hw
  refine fn_of_awp Tryd.func6 rfl (by simp [Tryd.f6]) rfl fun H => ?_
  refine awp_seq ?_
  refine awp_run rfl (by simp only [fwA, ↓reduceIte, Nat.reduceAdd, Nat.reduceMul, Nat.reduceEqDiff, Nat.reduceLT, Nat.reduceLeDiff, reduceCtorEq] <;> rfl) ?_
  have hK0 : (H ++ [Blk.box [.vec (ns.map S1) false, .vec (us.map U1) false]])[H.length]? = some (.box [.vec (ns.map S1) false, .vec (us.map U1) false]) := by rw [Fw.get_at0]; rfl
  generalize hK : H ++ [Blk.box [.vec (ns.map S1) false, .vec (us.map U1) false]] = K at hK0 ⊢
  have hend : ∀ (A' : List (Nat × PV)), alook A' 8 = .bool true → ((Exit.ret = .ret ∨ Exit.ret = .normal) ∧ ([] : List Nat).Nodup ∧ (∀ b ∈ ([] : List Nat), K[b]? = some .dfr ∧ H.length ≤ b) ∧ ares Tryd.prog Γ A' K Tryd.f6.results.toList = some (.bool true) ∧ ∃ L', K = H ++ L') := fun A' hv => by
    subst hK
    exact gives_end (.inl rfl) _ (by simp [ares, aresL, ares1, Tryd.f6, hv])
  refine awp_seq ?_
  refine awp_region rfl ?_
  refine aops_fn rfl rfl rfl en10 h10 ?_
  refine aops_run 1 (by simp only [fwA, ↓reduceIte, Nat.reduceAdd, Nat.reduceMul, Nat.reduceEqDiff, Nat.reduceLT, Nat.reduceLeDiff, reduceCtorEq, bitfw, Int.reduceToNat, Int.reduceLE, Int.reduceEq, Int.reduceNeg, List.length_map, List.getElem?_map, Option.map_some, Int.natCast_nonneg, Int.toNat_natCast, decide_true, decide_false, Bool.and_true, Bool.and_self, Bool.not_true, Bool.not_false, Bool.false_and, Bool.true_and, ne_eq, not_true_eq_false, not_false_eq_true, beq_self_eq_true, un9, un21, un22, un23, un5, un50, un4, ti9, ti22, ti23, ti50, ti25, ti27, pl25, pl27, fl25_0, fl25_1, fl27_0, fl27_1, el22, el23, un3] <;> rfl) ?_
  refine aops_end ?_
  refine awp_seq ?_
  refine awp_seq ?_
  refine awp_run rfl (by simp only [fwA, ↓reduceIte, Nat.reduceAdd, Nat.reduceMul, Nat.reduceEqDiff, Nat.reduceLT, Nat.reduceLeDiff, reduceCtorEq] <;> rfl) ?_
  refine awp_cond (b := false) (by simp [alook, aput, ev]) (awp_skip ?_)
  refine awp_seq ?_
  refine awp_seq ?_
  cases hR : rightB ns us
  · rw [hR] at h15
    refine awp_region rfl ?_
    refine aops_run 1 (by simp only [fwA, ↓reduceIte, Nat.reduceAdd, Nat.reduceMul, Nat.reduceEqDiff, Nat.reduceLT, Nat.reduceLeDiff, reduceCtorEq, bitfw, Int.reduceToNat, Int.reduceLE, Int.reduceEq, Int.reduceNeg, List.length_map, List.getElem?_map, Option.map_some, Int.natCast_nonneg, Int.toNat_natCast, decide_true, decide_false, Bool.and_true, Bool.and_self, Bool.not_true, Bool.not_false, Bool.false_and, Bool.true_and, ne_eq, not_true_eq_false, not_false_eq_true, beq_self_eq_true, un9, un21, un22, un23, un5, un50, un4, ti9, ti22, ti23, ti50, ti25, ti27, pl25, pl27, fl25_0, fl25_1, fl27_0, fl27_1, el22, el23, un3, hK0] <;> rfl) ?_
    refine aops_fn rfl rfl rfl en15 h15 ?_
    refine aops_run 1 (by simp only [fwA, ↓reduceIte, Nat.reduceAdd, Nat.reduceMul, Nat.reduceEqDiff, Nat.reduceLT, Nat.reduceLeDiff, reduceCtorEq, bitfw, Int.reduceToNat, Int.reduceLE, Int.reduceEq, Int.reduceNeg, List.length_map, List.getElem?_map, Option.map_some, Int.natCast_nonneg, Int.toNat_natCast, decide_true, decide_false, Bool.and_true, Bool.and_self, Bool.not_true, Bool.not_false, Bool.false_and, Bool.true_and, ne_eq, not_true_eq_false, not_false_eq_true, beq_self_eq_true, un9, un21, un22, un23, un5, un50, un4, ti9, ti22, ti23, ti50, ti25, ti27, pl25, pl27, fl25_0, fl25_1, fl27_0, fl27_1, el22, el23, un3, hK0] <;> rfl) ?_
    refine aops_end ?_
    refine awp_cond (b := true) (by simp [alook, aput, ev]) ?_
    refine awp_seq ?_
    refine awp_run rfl (by simp only [fwA, ↓reduceIte, Nat.reduceAdd, Nat.reduceMul, Nat.reduceEqDiff, Nat.reduceLT, Nat.reduceLeDiff, reduceCtorEq] <;> rfl) ?_
    refine awp_ret ?_
    exact hend _ rfl
  rw [hR] at h15
  obtain ⟨r1, r2, r3, r4, r5⟩ := right_spec hR
  have hp := r5.pos
  have hn0 : ¬ ((ns.length : Int) = 0) := by omega
  have hwa : IntKind.i64.wrap a = a := wrapId ⟨by omega, by omega⟩
  have hwb : IntKind.i64.wrap b = b := wrapId ⟨by omega, by omega⟩
  have hta := tmod_nat (n := ns.length) ha0
  have htb := tmod_nat (n := ns.length) hb0
  have hx : a.toNat % ns.length < us.length := by rw [r2]; exact Nat.mod_lt _ (by omega)
  have hy : b.toNat % ns.length < us.length := by rw [r2]; exact Nat.mod_lt _ (by omega)
  have hq : ∀ x y, x < us.length → y < us.length → Gives Tryd.prog Γ 17 [.agg [.vec (ns.map S1) false, .vec (us.map U1) false], .int .i64 (x : Int), .int .i64 (y : Int)] (.bool (lq us x y)) := fun x y hx hy => by
    have := c17 Γ ns us hw (x : Int) (y : Int)
    rw [leq_nat r2 hx hy] at this; exact this
  have hwc : IntKind.i64.wrap c = c := wrapId ⟨by omega, by omega⟩
  have htc := tmod_nat (n := ns.length) hc0
  have hz : c.toNat % ns.length < us.length := by rw [r2]; exact Nat.mod_lt _ (by omega)
  generalize a.toNat % ns.length = x at *
  generalize b.toNat % ns.length = y at *
  generalize c.toNat % ns.length = z at *
  have hO := r5.toOrd
  have J : ∀ p q, p < us.length → q < us.length → ∃ d : Nat, Gives Tryd.prog Γ 23 [.agg [.vec (ns.map S1) false, .vec (us.map U1) false], .int .i64 (p : Int), .int .i64 (q : Int)] (.int .i64 (d : Int)) ∧ IsJ us.length (lq us) p q d := fun p q h1 h2 => by
    obtain ⟨d, e, h⟩ := join_nat hR h1 h2
    have := c23 Γ hΓ ns us hw (p : Int) (q : Int)
    rw [e] at this; exact ⟨d, this, h⟩
  have M : ∀ p q, p < us.length → q < us.length → ∃ d : Nat, Gives Tryd.prog Γ 25 [.agg [.vec (ns.map S1) false, .vec (us.map U1) false], .int .i64 (p : Int), .int .i64 (q : Int)] (.int .i64 (d : Int)) ∧ IsJ us.length (tr (lq us)) p q d := fun p q h1 h2 => by
    obtain ⟨d, e, h⟩ := meet_nat hR h1 h2
    have := c25 Γ hΓ ns us hw (p : Int) (q : Int)
    rw [e] at this; exact ⟨d, this, h⟩
  obtain ⟨jxy, u1, v1⟩ := J x y hx hy
  obtain ⟨jyz, u2, v2⟩ := J y z hy hz
  obtain ⟨w1, u3, v3⟩ := J jxy z v1.1 hz
  obtain ⟨w2, u4, v4⟩ := J x jyz hx v2.1
  obtain rfl : w1 = w2 := isJ_assoc hO v1 v3 v2 v4
  obtain ⟨jyx, u5, v5⟩ := J y x hy hx
  obtain rfl : jyx = jxy := isJ_uniq hO v5.comm v1
  obtain ⟨mxy, s1, t1⟩ := M x y hx hy
  obtain ⟨myz, s2, t2⟩ := M y z hy hz
  obtain ⟨n1, s3, t3⟩ := M mxy z t1.1 hz
  obtain ⟨n2, s4, t4⟩ := M x myz hx t2.1
  obtain rfl : n1 = n2 := isJ_assoc hO.tr t1 t3 t2 t4
  obtain ⟨myx, s5, t5⟩ := M y x hy hx
  obtain rfl : myx = mxy := isJ_uniq hO.tr t5.comm t1
  obtain ⟨k1, u6, v6⟩ := J x myx hx t1.1
  obtain rfl : k1 = x := isJ_uniq hO v6 (isJ_absorb hO hx t1)
  obtain ⟨k2, s6, t6⟩ := M k1 jyx hx v1.1
  obtain rfl : k2 = k1 := isJ_uniq hO.tr t6 (isJ_absorb hO.tr hx v1)
  obtain ⟨bo, eb, hb⟩ := bot_nat hR
  obtain ⟨to, et, ht⟩ := top_nat hR
  have h27 := c27 Γ hΓ ns us hw
  have h29 := c29 Γ hΓ ns us hw
  rw [eb] at h27
  rw [et] at h29
  obtain ⟨k3, u7, v7⟩ := J k2 bo hx hb.1
  obtain rfl : k3 = k2 := isJ_uniq hO v7 (isJ_of_le hO hb.1 hx (hb.2 k2 hx)).comm
  obtain ⟨k4, s7, t7⟩ := M k3 to hx ht.1
  obtain rfl : k4 = k3 := isJ_uniq hO.tr t7 (isJ_of_le hO.tr ht.1 hx (ht.2 k3 hx)).comm
  have g1 := c23 Γ hΓ ns us hw (k4 : Int) (ns.length : Int)
  rw [show joinV ns us (k4 : Int) (ns.length : Int) = -1 by unfold joinV ptB; rw [if_neg (fun h => by have := h.2.2; simp only [Bool.and_eq_true, decide_eq_true_eq] at this; omega)]] at g1
  have g2 := c25 Γ hΓ ns us hw (-1) (k4 : Int)
  rw [show meetV ns us (-1) (k4 : Int) = -1 by unfold meetV ptB; rw [if_neg (fun h => by have := h.2.1; simp only [Bool.and_eq_true, decide_eq_true_eq] at this; omega)]] at g2
  refine awp_region rfl ?_
  refine aops_run 1 (by simp only [fwA, ↓reduceIte, Nat.reduceAdd, Nat.reduceMul, Nat.reduceEqDiff, Nat.reduceLT, Nat.reduceLeDiff, reduceCtorEq, bitfw, Int.reduceToNat, Int.reduceLE, Int.reduceEq, Int.reduceNeg, List.length_map, List.getElem?_map, Option.map_some, Int.natCast_nonneg, Int.toNat_natCast, decide_true, decide_false, Bool.and_true, Bool.and_self, Bool.not_true, Bool.not_false, Bool.false_and, Bool.true_and, ne_eq, not_true_eq_false, not_false_eq_true, beq_self_eq_true, un9, un21, un22, un23, un5, un50, un4, ti9, ti22, ti23, ti50, ti25, ti27, pl25, pl27, fl25_0, fl25_1, fl27_0, fl27_1, el22, el23, un3, hK0] <;> rfl) ?_
  refine aops_fn rfl rfl rfl en15 h15 ?_
  refine aops_run 1 (by simp only [fwA, ↓reduceIte, Nat.reduceAdd, Nat.reduceMul, Nat.reduceEqDiff, Nat.reduceLT, Nat.reduceLeDiff, reduceCtorEq, bitfw, Int.reduceToNat, Int.reduceLE, Int.reduceEq, Int.reduceNeg, List.length_map, List.getElem?_map, Option.map_some, Int.natCast_nonneg, Int.toNat_natCast, decide_true, decide_false, Bool.and_true, Bool.and_self, Bool.not_true, Bool.not_false, Bool.false_and, Bool.true_and, ne_eq, not_true_eq_false, not_false_eq_true, beq_self_eq_true, un9, un21, un22, un23, un5, un50, un4, ti9, ti22, ti23, ti50, ti25, ti27, pl25, pl27, fl25_0, fl25_1, fl27_0, fl27_1, el22, el23, un3, hK0] <;> rfl) ?_
  refine aops_end ?_
  refine awp_cond (b := false) (by simp [alook, aput, ev]) (awp_skip ?_)
  refine awp_seq ?_
  refine awp_run rfl (by simp only [fwA, ↓reduceIte, Nat.reduceAdd, Nat.reduceMul, Nat.reduceEqDiff, Nat.reduceLT, Nat.reduceLeDiff, reduceCtorEq, bitfw, Int.reduceToNat, Int.reduceLE, Int.reduceEq, Int.reduceNeg, List.length_map, List.getElem?_map, Option.map_some, Int.natCast_nonneg, Int.toNat_natCast, decide_true, decide_false, Bool.and_true, Bool.and_self, Bool.not_true, Bool.not_false, Bool.false_and, Bool.true_and, ne_eq, not_true_eq_false, not_false_eq_true, beq_self_eq_true, un9, un21, un22, un23, un5, un50, un4, ti9, ti22, ti23, ti50, ti25, ti27, pl25, pl27, fl25_0, fl25_1, fl27_0, fl27_1, el22, el23, un3, hK0] <;> rfl) ?_
  refine awp_seq ?_
  refine awp_run rfl (by simp only [fwA, ↓reduceIte, Nat.reduceAdd, Nat.reduceMul, Nat.reduceEqDiff, Nat.reduceLT, Nat.reduceLeDiff, reduceCtorEq, bitfw, Int.reduceToNat, Int.reduceLE, Int.reduceEq, Int.reduceNeg, List.length_map, List.getElem?_map, Option.map_some, Int.natCast_nonneg, Int.toNat_natCast, decide_true, decide_false, Bool.and_true, Bool.and_self, Bool.not_true, Bool.not_false, Bool.false_and, Bool.true_and, ne_eq, not_true_eq_false, not_false_eq_true, beq_self_eq_true, un9, un21, un22, un23, un5, un50, un4, ti9, ti22, ti23, ti50, ti25, ti27, pl25, pl27, fl25_0, fl25_1, fl27_0, fl27_1, el22, el23, un3, hwa, hta, hn0] <;> rfl) ?_
  refine awp_seq ?_
  refine awp_run rfl (by simp only [fwA, ↓reduceIte, Nat.reduceAdd, Nat.reduceMul, Nat.reduceEqDiff, Nat.reduceLT, Nat.reduceLeDiff, reduceCtorEq, bitfw, Int.reduceToNat, Int.reduceLE, Int.reduceEq, Int.reduceNeg, List.length_map, List.getElem?_map, Option.map_some, Int.natCast_nonneg, Int.toNat_natCast, decide_true, decide_false, Bool.and_true, Bool.and_self, Bool.not_true, Bool.not_false, Bool.false_and, Bool.true_and, ne_eq, not_true_eq_false, not_false_eq_true, beq_self_eq_true, un9, un21, un22, un23, un5, un50, un4, ti9, ti22, ti23, ti50, ti25, ti27, pl25, pl27, fl25_0, fl25_1, fl27_0, fl27_1, el22, el23, un3, hwb, htb, hn0] <;> rfl) ?_
  refine awp_seq ?_
  refine awp_run rfl (by simp only [fwA, ↓reduceIte, Nat.reduceAdd, Nat.reduceMul, Nat.reduceEqDiff, Nat.reduceLT, Nat.reduceLeDiff, reduceCtorEq, bitfw, Int.reduceToNat, Int.reduceLE, Int.reduceEq, Int.reduceNeg, List.length_map, List.getElem?_map, Option.map_some, Int.natCast_nonneg, Int.toNat_natCast, decide_true, decide_false, Bool.and_true, Bool.and_self, Bool.not_true, Bool.not_false, Bool.false_and, Bool.true_and, ne_eq, not_true_eq_false, not_false_eq_true, beq_self_eq_true, un9, un21, un22, un23, un5, un50, un4, ti9, ti22, ti23, ti50, ti25, ti27, pl25, pl27, fl25_0, fl25_1, fl27_0, fl27_1, el22, el23, un3, hwc, htc, hn0] <;> rfl) ?_
  refine awp_seq ?_
  refine awp_drawn [1, 1, 0, 0, 0, 0, 0, 1, 0, 1, 0, 0, 0, 0, 0, 0, 1, 0, 0, 0, 1, 0, 0, 0, 0, 0, 0, 1, 0, 1, 0, 0, 0, 0, 0, 0, 0, 0] [0, 0, 0, 0, 14, 0, 63, 0, 0, 0, 0, 0, 3711, 8191, 16383, 32767, 65535, 65535, 65535, 524287, 65535, 65535, 65535, 8388607, 16777215, 33554431, 67108863, 134217727, 134217727, 134217727, 134217727, 134217727, 3892314111, 8589934591, 134217727, 34359738367, 68719476735, 137438953471] mixed rfl (by kernel_rfl) ?_
  refine dops_run 4 (by simp only [fwA, ↓reduceIte, Nat.reduceAdd, Nat.reduceMul, Nat.reduceEqDiff, Nat.reduceLT, Nat.reduceLeDiff, reduceCtorEq, bitfw, Int.reduceToNat, Int.reduceLE, Int.reduceEq, Int.reduceNeg, List.length_map, List.getElem?_map, Option.map_some, Int.natCast_nonneg, Int.toNat_natCast, decide_true, decide_false, Bool.and_true, Bool.and_self, Bool.not_true, Bool.not_false, Bool.false_and, Bool.true_and, ne_eq, not_true_eq_false, not_false_eq_true, beq_self_eq_true, un9, un21, un22, un23, un5, un50, un4, ti9, ti22, ti23, ti50, ti25, ti27, pl25, pl27, fl25_0, fl25_1, fl27_0, fl27_1, el22, el23, un3, hK0] <;> rfl) ?_
  refine dops_fn rfl (by simp only [fwA, ↓reduceIte, Nat.reduceAdd, Nat.reduceMul, Nat.reduceEqDiff, Nat.reduceLT, Nat.reduceLeDiff, reduceCtorEq] <;> rfl) rfl rfl en23 u1 ?_
  refine dops_run 1 (by simp only [fwA, ↓reduceIte, Nat.reduceAdd, Nat.reduceMul, Nat.reduceEqDiff, Nat.reduceLT, Nat.reduceLeDiff, reduceCtorEq, bitfw, Int.reduceToNat, Int.reduceLE, Int.reduceEq, Int.reduceNeg, List.length_map, List.getElem?_map, Option.map_some, Int.natCast_nonneg, Int.toNat_natCast, decide_true, decide_false, Bool.and_true, Bool.and_self, Bool.not_true, Bool.not_false, Bool.false_and, Bool.true_and, ne_eq, not_true_eq_false, not_false_eq_true, beq_self_eq_true, un9, un21, un22, un23, un5, un50, un4, ti9, ti22, ti23, ti50, ti25, ti27, pl25, pl27, fl25_0, fl25_1, fl27_0, fl27_1, el22, el23, un3, hK0] <;> rfl) ?_
  refine dops_fn rfl (by simp only [fwA, ↓reduceIte, Nat.reduceAdd, Nat.reduceMul, Nat.reduceEqDiff, Nat.reduceLT, Nat.reduceLeDiff, reduceCtorEq] <;> rfl) rfl rfl en23 u3 ?_
  refine dops_run 5 (by simp only [fwA, ↓reduceIte, Nat.reduceAdd, Nat.reduceMul, Nat.reduceEqDiff, Nat.reduceLT, Nat.reduceLeDiff, reduceCtorEq, bitfw, Int.reduceToNat, Int.reduceLE, Int.reduceEq, Int.reduceNeg, List.length_map, List.getElem?_map, Option.map_some, Int.natCast_nonneg, Int.toNat_natCast, decide_true, decide_false, Bool.and_true, Bool.and_self, Bool.not_true, Bool.not_false, Bool.false_and, Bool.true_and, ne_eq, not_true_eq_false, not_false_eq_true, beq_self_eq_true, un9, un21, un22, un23, un5, un50, un4, ti9, ti22, ti23, ti50, ti25, ti27, pl25, pl27, fl25_0, fl25_1, fl27_0, fl27_1, el22, el23, un3, hK0] <;> rfl) ?_
  refine dops_fn rfl (by simp only [fwA, ↓reduceIte, Nat.reduceAdd, Nat.reduceMul, Nat.reduceEqDiff, Nat.reduceLT, Nat.reduceLeDiff, reduceCtorEq] <;> rfl) rfl rfl en23 u2 ?_
  refine dops_fn rfl (by simp only [fwA, ↓reduceIte, Nat.reduceAdd, Nat.reduceMul, Nat.reduceEqDiff, Nat.reduceLT, Nat.reduceLeDiff, reduceCtorEq] <;> rfl) rfl rfl en23 u4 ?_
  refine dops_run 5 (by simp only [fwA, ↓reduceIte, Nat.reduceAdd, Nat.reduceMul, Nat.reduceEqDiff, Nat.reduceLT, Nat.reduceLeDiff, reduceCtorEq, bitfw, Int.reduceToNat, Int.reduceLE, Int.reduceEq, Int.reduceNeg, List.length_map, List.getElem?_map, Option.map_some, Int.natCast_nonneg, Int.toNat_natCast, decide_true, decide_false, Bool.and_true, Bool.and_self, Bool.not_true, Bool.not_false, Bool.false_and, Bool.true_and, ne_eq, not_true_eq_false, not_false_eq_true, beq_self_eq_true, un9, un21, un22, un23, un5, un50, un4, ti9, ti22, ti23, ti50, ti25, ti27, pl25, pl27, fl25_0, fl25_1, fl27_0, fl27_1, el22, el23, un3, hK0] <;> rfl) ?_
  refine dops_fn rfl (by simp only [fwA, ↓reduceIte, Nat.reduceAdd, Nat.reduceMul, Nat.reduceEqDiff, Nat.reduceLT, Nat.reduceLeDiff, reduceCtorEq] <;> rfl) rfl rfl en23 u1 ?_
  refine dops_run 3 (by simp only [fwA, ↓reduceIte, Nat.reduceAdd, Nat.reduceMul, Nat.reduceEqDiff, Nat.reduceLT, Nat.reduceLeDiff, reduceCtorEq, bitfw, Int.reduceToNat, Int.reduceLE, Int.reduceEq, Int.reduceNeg, List.length_map, List.getElem?_map, Option.map_some, Int.natCast_nonneg, Int.toNat_natCast, decide_true, decide_false, Bool.and_true, Bool.and_self, Bool.not_true, Bool.not_false, Bool.false_and, Bool.true_and, ne_eq, not_true_eq_false, not_false_eq_true, beq_self_eq_true, un9, un21, un22, un23, un5, un50, un4, ti9, ti22, ti23, ti50, ti25, ti27, pl25, pl27, fl25_0, fl25_1, fl27_0, fl27_1, el22, el23, un3, hK0] <;> rfl) ?_
  refine dops_fn rfl (by simp only [fwA, ↓reduceIte, Nat.reduceAdd, Nat.reduceMul, Nat.reduceEqDiff, Nat.reduceLT, Nat.reduceLeDiff, reduceCtorEq] <;> rfl) rfl rfl en23 u5 ?_
  refine dops_run 8 (by simp only [fwA, ↓reduceIte, Nat.reduceAdd, Nat.reduceMul, Nat.reduceEqDiff, Nat.reduceLT, Nat.reduceLeDiff, reduceCtorEq, bitfw, Int.reduceToNat, Int.reduceLE, Int.reduceEq, Int.reduceNeg, List.length_map, List.getElem?_map, Option.map_some, Int.natCast_nonneg, Int.toNat_natCast, decide_true, decide_false, Bool.and_true, Bool.and_self, Bool.not_true, Bool.not_false, Bool.false_and, Bool.true_and, ne_eq, not_true_eq_false, not_false_eq_true, beq_self_eq_true, un9, un21, un22, un23, un5, un50, un4, ti9, ti22, ti23, ti50, ti25, ti27, pl25, pl27, fl25_0, fl25_1, fl27_0, fl27_1, el22, el23, un3, hK0] <;> rfl) ?_
  refine dops_fn rfl (by simp only [fwA, ↓reduceIte, Nat.reduceAdd, Nat.reduceMul, Nat.reduceEqDiff, Nat.reduceLT, Nat.reduceLeDiff, reduceCtorEq] <;> rfl) rfl rfl en25 s1 ?_
  refine dops_fn rfl (by simp only [fwA, ↓reduceIte, Nat.reduceAdd, Nat.reduceMul, Nat.reduceEqDiff, Nat.reduceLT, Nat.reduceLeDiff, reduceCtorEq] <;> rfl) rfl rfl en23 u6 ?_
  refine dops_run 4 (by simp only [fwA, ↓reduceIte, Nat.reduceAdd, Nat.reduceMul, Nat.reduceEqDiff, Nat.reduceLT, Nat.reduceLeDiff, reduceCtorEq, bitfw, Int.reduceToNat, Int.reduceLE, Int.reduceEq, Int.reduceNeg, List.length_map, List.getElem?_map, Option.map_some, Int.natCast_nonneg, Int.toNat_natCast, decide_true, decide_false, Bool.and_true, Bool.and_self, Bool.not_true, Bool.not_false, Bool.false_and, Bool.true_and, ne_eq, not_true_eq_false, not_false_eq_true, beq_self_eq_true, un9, un21, un22, un23, un5, un50, un4, ti9, ti22, ti23, ti50, ti25, ti27, pl25, pl27, fl25_0, fl25_1, fl27_0, fl27_1, el22, el23, un3, hK0] <;> rfl) ?_
  refine dops_end ?_
  refine awp_seq ?_
  refine awp_drawn [1, 1, 0, 0, 0, 0, 0, 1, 0, 1, 0, 0, 0, 0, 0, 0, 1, 0, 0, 0, 1, 0, 0, 0, 0, 0, 0, 1, 0, 1, 0, 0, 0, 0, 0, 0, 0, 0] [0, 0, 0, 0, 14, 0, 63, 0, 0, 0, 0, 0, 3711, 8191, 16383, 32767, 65535, 65535, 65535, 524287, 65535, 65535, 65535, 8388607, 16777215, 33554431, 67108863, 134217727, 134217727, 134217727, 134217727, 134217727, 3892314111, 8589934591, 134217727, 34359738367, 68719476735, 137438953471] mixed rfl (by kernel_rfl) ?_
  refine dops_run 4 (by simp only [fwA, ↓reduceIte, Nat.reduceAdd, Nat.reduceMul, Nat.reduceEqDiff, Nat.reduceLT, Nat.reduceLeDiff, reduceCtorEq, bitfw, Int.reduceToNat, Int.reduceLE, Int.reduceEq, Int.reduceNeg, List.length_map, List.getElem?_map, Option.map_some, Int.natCast_nonneg, Int.toNat_natCast, decide_true, decide_false, Bool.and_true, Bool.and_self, Bool.not_true, Bool.not_false, Bool.false_and, Bool.true_and, ne_eq, not_true_eq_false, not_false_eq_true, beq_self_eq_true, un9, un21, un22, un23, un5, un50, un4, ti9, ti22, ti23, ti50, ti25, ti27, pl25, pl27, fl25_0, fl25_1, fl27_0, fl27_1, el22, el23, un3, hK0] <;> rfl) ?_
  refine dops_fn rfl (by simp only [fwA, ↓reduceIte, Nat.reduceAdd, Nat.reduceMul, Nat.reduceEqDiff, Nat.reduceLT, Nat.reduceLeDiff, reduceCtorEq] <;> rfl) rfl rfl en25 s1 ?_
  refine dops_run 1 (by simp only [fwA, ↓reduceIte, Nat.reduceAdd, Nat.reduceMul, Nat.reduceEqDiff, Nat.reduceLT, Nat.reduceLeDiff, reduceCtorEq, bitfw, Int.reduceToNat, Int.reduceLE, Int.reduceEq, Int.reduceNeg, List.length_map, List.getElem?_map, Option.map_some, Int.natCast_nonneg, Int.toNat_natCast, decide_true, decide_false, Bool.and_true, Bool.and_self, Bool.not_true, Bool.not_false, Bool.false_and, Bool.true_and, ne_eq, not_true_eq_false, not_false_eq_true, beq_self_eq_true, un9, un21, un22, un23, un5, un50, un4, ti9, ti22, ti23, ti50, ti25, ti27, pl25, pl27, fl25_0, fl25_1, fl27_0, fl27_1, el22, el23, un3, hK0] <;> rfl) ?_
  refine dops_fn rfl (by simp only [fwA, ↓reduceIte, Nat.reduceAdd, Nat.reduceMul, Nat.reduceEqDiff, Nat.reduceLT, Nat.reduceLeDiff, reduceCtorEq] <;> rfl) rfl rfl en25 s3 ?_
  refine dops_run 5 (by simp only [fwA, ↓reduceIte, Nat.reduceAdd, Nat.reduceMul, Nat.reduceEqDiff, Nat.reduceLT, Nat.reduceLeDiff, reduceCtorEq, bitfw, Int.reduceToNat, Int.reduceLE, Int.reduceEq, Int.reduceNeg, List.length_map, List.getElem?_map, Option.map_some, Int.natCast_nonneg, Int.toNat_natCast, decide_true, decide_false, Bool.and_true, Bool.and_self, Bool.not_true, Bool.not_false, Bool.false_and, Bool.true_and, ne_eq, not_true_eq_false, not_false_eq_true, beq_self_eq_true, un9, un21, un22, un23, un5, un50, un4, ti9, ti22, ti23, ti50, ti25, ti27, pl25, pl27, fl25_0, fl25_1, fl27_0, fl27_1, el22, el23, un3, hK0] <;> rfl) ?_
  refine dops_fn rfl (by simp only [fwA, ↓reduceIte, Nat.reduceAdd, Nat.reduceMul, Nat.reduceEqDiff, Nat.reduceLT, Nat.reduceLeDiff, reduceCtorEq] <;> rfl) rfl rfl en25 s2 ?_
  refine dops_fn rfl (by simp only [fwA, ↓reduceIte, Nat.reduceAdd, Nat.reduceMul, Nat.reduceEqDiff, Nat.reduceLT, Nat.reduceLeDiff, reduceCtorEq] <;> rfl) rfl rfl en25 s4 ?_
  refine dops_run 5 (by simp only [fwA, ↓reduceIte, Nat.reduceAdd, Nat.reduceMul, Nat.reduceEqDiff, Nat.reduceLT, Nat.reduceLeDiff, reduceCtorEq, bitfw, Int.reduceToNat, Int.reduceLE, Int.reduceEq, Int.reduceNeg, List.length_map, List.getElem?_map, Option.map_some, Int.natCast_nonneg, Int.toNat_natCast, decide_true, decide_false, Bool.and_true, Bool.and_self, Bool.not_true, Bool.not_false, Bool.false_and, Bool.true_and, ne_eq, not_true_eq_false, not_false_eq_true, beq_self_eq_true, un9, un21, un22, un23, un5, un50, un4, ti9, ti22, ti23, ti50, ti25, ti27, pl25, pl27, fl25_0, fl25_1, fl27_0, fl27_1, el22, el23, un3, hK0] <;> rfl) ?_
  refine dops_fn rfl (by simp only [fwA, ↓reduceIte, Nat.reduceAdd, Nat.reduceMul, Nat.reduceEqDiff, Nat.reduceLT, Nat.reduceLeDiff, reduceCtorEq] <;> rfl) rfl rfl en25 s1 ?_
  refine dops_run 3 (by simp only [fwA, ↓reduceIte, Nat.reduceAdd, Nat.reduceMul, Nat.reduceEqDiff, Nat.reduceLT, Nat.reduceLeDiff, reduceCtorEq, bitfw, Int.reduceToNat, Int.reduceLE, Int.reduceEq, Int.reduceNeg, List.length_map, List.getElem?_map, Option.map_some, Int.natCast_nonneg, Int.toNat_natCast, decide_true, decide_false, Bool.and_true, Bool.and_self, Bool.not_true, Bool.not_false, Bool.false_and, Bool.true_and, ne_eq, not_true_eq_false, not_false_eq_true, beq_self_eq_true, un9, un21, un22, un23, un5, un50, un4, ti9, ti22, ti23, ti50, ti25, ti27, pl25, pl27, fl25_0, fl25_1, fl27_0, fl27_1, el22, el23, un3, hK0] <;> rfl) ?_
  refine dops_fn rfl (by simp only [fwA, ↓reduceIte, Nat.reduceAdd, Nat.reduceMul, Nat.reduceEqDiff, Nat.reduceLT, Nat.reduceLeDiff, reduceCtorEq] <;> rfl) rfl rfl en25 s5 ?_
  refine dops_run 8 (by simp only [fwA, ↓reduceIte, Nat.reduceAdd, Nat.reduceMul, Nat.reduceEqDiff, Nat.reduceLT, Nat.reduceLeDiff, reduceCtorEq, bitfw, Int.reduceToNat, Int.reduceLE, Int.reduceEq, Int.reduceNeg, List.length_map, List.getElem?_map, Option.map_some, Int.natCast_nonneg, Int.toNat_natCast, decide_true, decide_false, Bool.and_true, Bool.and_self, Bool.not_true, Bool.not_false, Bool.false_and, Bool.true_and, ne_eq, not_true_eq_false, not_false_eq_true, beq_self_eq_true, un9, un21, un22, un23, un5, un50, un4, ti9, ti22, ti23, ti50, ti25, ti27, pl25, pl27, fl25_0, fl25_1, fl27_0, fl27_1, el22, el23, un3, hK0] <;> rfl) ?_
  refine dops_fn rfl (by simp only [fwA, ↓reduceIte, Nat.reduceAdd, Nat.reduceMul, Nat.reduceEqDiff, Nat.reduceLT, Nat.reduceLeDiff, reduceCtorEq] <;> rfl) rfl rfl en23 u1 ?_
  refine dops_fn rfl (by simp only [fwA, ↓reduceIte, Nat.reduceAdd, Nat.reduceMul, Nat.reduceEqDiff, Nat.reduceLT, Nat.reduceLeDiff, reduceCtorEq] <;> rfl) rfl rfl en25 s6 ?_
  refine dops_run 4 (by simp only [fwA, ↓reduceIte, Nat.reduceAdd, Nat.reduceMul, Nat.reduceEqDiff, Nat.reduceLT, Nat.reduceLeDiff, reduceCtorEq, bitfw, Int.reduceToNat, Int.reduceLE, Int.reduceEq, Int.reduceNeg, List.length_map, List.getElem?_map, Option.map_some, Int.natCast_nonneg, Int.toNat_natCast, decide_true, decide_false, Bool.and_true, Bool.and_self, Bool.not_true, Bool.not_false, Bool.false_and, Bool.true_and, ne_eq, not_true_eq_false, not_false_eq_true, beq_self_eq_true, un9, un21, un22, un23, un5, un50, un4, ti9, ti22, ti23, ti50, ti25, ti27, pl25, pl27, fl25_0, fl25_1, fl27_0, fl27_1, el22, el23, un3, hK0] <;> rfl) ?_
  refine dops_end ?_
  refine awp_seq ?_
  refine awp_drawn [0, 0, 0, 0, 0, 0, 0, 0, 1, 0, 1, 0, 0, 0, 0, 0, 0, 1, 0, 1, 0, 0, 0, 0, 0, 0, 1, 0, 0, 0, 0, 0, 0, 1, 0, 0, 0, 0, 0] [0, 1, 3, 7, 15, 31, 63, 127, 255, 255, 255, 1279, 4095, 255, 16383, 32767, 65535, 131071, 131071, 131071, 655359, 2097151, 131071, 8388607, 16777215, 33554431, 67108863, 67108863, 67108863, 536870911, 1073741823, 2147483647, 4294967295, 8589934591, 8589934591, 34359738367, 68719476735, 137438953471, 274877906943] mixed rfl (by kernel_rfl) ?_
  refine dops_run 11 (by simp only [fwA, ↓reduceIte, Nat.reduceAdd, Nat.reduceMul, Nat.reduceEqDiff, Nat.reduceLT, Nat.reduceLeDiff, reduceCtorEq, bitfw, Int.reduceToNat, Int.reduceLE, Int.reduceEq, Int.reduceNeg, List.length_map, List.getElem?_map, Option.map_some, Int.natCast_nonneg, Int.toNat_natCast, decide_true, decide_false, Bool.and_true, Bool.and_self, Bool.not_true, Bool.not_false, Bool.false_and, Bool.true_and, ne_eq, not_true_eq_false, not_false_eq_true, beq_self_eq_true, un9, un21, un22, un23, un5, un50, un4, ti9, ti22, ti23, ti50, ti25, ti27, pl25, pl27, fl25_0, fl25_1, fl27_0, fl27_1, el22, el23, un3, hK0] <;> rfl) ?_
  refine dops_fn rfl (by simp only [fwA, ↓reduceIte, Nat.reduceAdd, Nat.reduceMul, Nat.reduceEqDiff, Nat.reduceLT, Nat.reduceLeDiff, reduceCtorEq] <;> rfl) rfl rfl en27 h27 ?_
  refine dops_fn rfl (by simp only [fwA, ↓reduceIte, Nat.reduceAdd, Nat.reduceMul, Nat.reduceEqDiff, Nat.reduceLT, Nat.reduceLeDiff, reduceCtorEq] <;> rfl) rfl rfl en23 u7 ?_
  refine dops_run 7 (by simp only [fwA, ↓reduceIte, Nat.reduceAdd, Nat.reduceMul, Nat.reduceEqDiff, Nat.reduceLT, Nat.reduceLeDiff, reduceCtorEq, bitfw, Int.reduceToNat, Int.reduceLE, Int.reduceEq, Int.reduceNeg, List.length_map, List.getElem?_map, Option.map_some, Int.natCast_nonneg, Int.toNat_natCast, decide_true, decide_false, Bool.and_true, Bool.and_self, Bool.not_true, Bool.not_false, Bool.false_and, Bool.true_and, ne_eq, not_true_eq_false, not_false_eq_true, beq_self_eq_true, un9, un21, un22, un23, un5, un50, un4, ti9, ti22, ti23, ti50, ti25, ti27, pl25, pl27, fl25_0, fl25_1, fl27_0, fl27_1, el22, el23, un3, hK0] <;> rfl) ?_
  refine dops_fn rfl (by simp only [fwA, ↓reduceIte, Nat.reduceAdd, Nat.reduceMul, Nat.reduceEqDiff, Nat.reduceLT, Nat.reduceLeDiff, reduceCtorEq] <;> rfl) rfl rfl en29 h29 ?_
  refine dops_fn rfl (by simp only [fwA, ↓reduceIte, Nat.reduceAdd, Nat.reduceMul, Nat.reduceEqDiff, Nat.reduceLT, Nat.reduceLeDiff, reduceCtorEq] <;> rfl) rfl rfl en25 s7 ?_
  refine dops_run 7 (by simp only [fwA, ↓reduceIte, Nat.reduceAdd, Nat.reduceMul, Nat.reduceEqDiff, Nat.reduceLT, Nat.reduceLeDiff, reduceCtorEq, bitfw, Int.reduceToNat, Int.reduceLE, Int.reduceEq, Int.reduceNeg, List.length_map, List.getElem?_map, Option.map_some, Int.natCast_nonneg, Int.toNat_natCast, decide_true, decide_false, Bool.and_true, Bool.and_self, Bool.not_true, Bool.not_false, Bool.false_and, Bool.true_and, ne_eq, not_true_eq_false, not_false_eq_true, beq_self_eq_true, un9, un21, un22, un23, un5, un50, un4, ti9, ti22, ti23, ti50, ti25, ti27, pl25, pl27, fl25_0, fl25_1, fl27_0, fl27_1, el22, el23, un3, hK0] <;> rfl) ?_
  refine dops_fn rfl (by simp only [fwA, ↓reduceIte, Nat.reduceAdd, Nat.reduceMul, Nat.reduceEqDiff, Nat.reduceLT, Nat.reduceLeDiff, reduceCtorEq] <;> rfl) rfl rfl en23 g1 ?_
  refine dops_run 5 (by simp only [fwA, ↓reduceIte, Nat.reduceAdd, Nat.reduceMul, Nat.reduceEqDiff, Nat.reduceLT, Nat.reduceLeDiff, reduceCtorEq, bitfw, Int.reduceToNat, Int.reduceLE, Int.reduceEq, Int.reduceNeg, List.length_map, List.getElem?_map, Option.map_some, Int.natCast_nonneg, Int.toNat_natCast, decide_true, decide_false, Bool.and_true, Bool.and_self, Bool.not_true, Bool.not_false, Bool.false_and, Bool.true_and, ne_eq, not_true_eq_false, not_false_eq_true, beq_self_eq_true, un9, un21, un22, un23, un5, un50, un4, ti9, ti22, ti23, ti50, ti25, ti27, pl25, pl27, fl25_0, fl25_1, fl27_0, fl27_1, el22, el23, un3, hK0] <;> rfl) ?_
  refine dops_fn rfl (by simp only [fwA, ↓reduceIte, Nat.reduceAdd, Nat.reduceMul, Nat.reduceEqDiff, Nat.reduceLT, Nat.reduceLeDiff, reduceCtorEq] <;> rfl) rfl rfl en25 g2 ?_
  refine dops_run 3 (by simp only [fwA, ↓reduceIte, Nat.reduceAdd, Nat.reduceMul, Nat.reduceEqDiff, Nat.reduceLT, Nat.reduceLeDiff, reduceCtorEq, bitfw, Int.reduceToNat, Int.reduceLE, Int.reduceEq, Int.reduceNeg, List.length_map, List.getElem?_map, Option.map_some, Int.natCast_nonneg, Int.toNat_natCast, decide_true, decide_false, Bool.and_true, Bool.and_self, Bool.not_true, Bool.not_false, Bool.false_and, Bool.true_and, ne_eq, not_true_eq_false, not_false_eq_true, beq_self_eq_true, un9, un21, un22, un23, un5, un50, un4, ti9, ti22, ti23, ti50, ti25, ti27, pl25, pl27, fl25_0, fl25_1, fl27_0, fl27_1, el22, el23, un3, hK0] <;> rfl) ?_
  refine dops_end ?_
  refine awp_ret ?_
  exact hend _ rfl

set_option maxHeartbeats 8000000 in
/-- LatOrder -/
theorem c4 (Γ : Nat → PV) (hT : Tab Γ) (ns : List (List UInt8)) (us : List Nat) (hw : W64 us) (a b c : Int) (ha0 : 0 ≤ a) (ha1 : a < 256) (hb0 : 0 ≤ b) (hb1 : b < 256) (hc0 : 0 ≤ c) (hc1 : c < 256) : Gives Tryd.prog Γ 4 [.agg [.vec (ns.map S1) false, .vec (us.map U1) false], .int .u8 a, .int .u8 b, .int .u8 c] (.bool true) := by
  obtain ⟨hΓ, hM⟩ := id hT
  have h10 := c10 Γ hT
  have h15 := c15 Γ hΓ ns us hw
  refine fn_of_awp Tryd.func4 rfl (by simp [Tryd.f4]) rfl fun H => ?_
  refine awp_seq ?_
  refine awp_run rfl (by simp only [fwA, ↓reduceIte, Nat.reduceAdd, Nat.reduceMul, Nat.reduceEqDiff, Nat.reduceLT, Nat.reduceLeDiff, reduceCtorEq] <;> rfl) ?_
  have hK0 : (H ++ [Blk.box [.vec (ns.map S1) false, .vec (us.map U1) false]])[H.length]? = some (.box [.vec (ns.map S1) false, .vec (us.map U1) false]) := by rw [Fw.get_at0]; rfl
  generalize hK : H ++ [Blk.box [.vec (ns.map S1) false, .vec (us.map U1) false]] = K at hK0 ⊢
  have hend : ∀ (A' : List (Nat × PV)), alook A' 8 = .bool true → ((Exit.ret = .ret ∨ Exit.ret = .normal) ∧ ([] : List Nat).Nodup ∧ (∀ b ∈ ([] : List Nat), K[b]? = some .dfr ∧ H.length ≤ b) ∧ ares Tryd.prog Γ A' K Tryd.f4.results.toList = some (.bool true) ∧ ∃ L', K = H ++ L') := fun A' hv => by
    subst hK
    exact gives_end (.inl rfl) _ (by simp [ares, aresL, ares1, Tryd.f4, hv])
  refine awp_seq ?_
  refine awp_region rfl ?_
  refine aops_fn rfl rfl rfl en10 h10 ?_
  refine aops_run 1 (by simp only [fwA, ↓reduceIte, Nat.reduceAdd, Nat.reduceMul, Nat.reduceEqDiff, Nat.reduceLT, Nat.reduceLeDiff, reduceCtorEq, bitfw, Int.reduceToNat, Int.reduceLE, Int.reduceEq, Int.reduceNeg, List.length_map, List.getElem?_map, Option.map_some, Int.natCast_nonneg, Int.toNat_natCast, decide_true, decide_false, Bool.and_true, Bool.and_self, Bool.not_true, Bool.not_false, Bool.false_and, Bool.true_and, ne_eq, not_true_eq_false, not_false_eq_true, beq_self_eq_true, un9, un21, un22, un23, un5, un50, un4, ti9, ti22, ti23, ti50, ti25, ti27, pl25, pl27, fl25_0, fl25_1, fl27_0, fl27_1, el22, el23, un3] <;> rfl) ?_
  refine aops_end ?_
  refine awp_seq ?_
  refine awp_seq ?_
  refine awp_run rfl (by simp only [fwA, ↓reduceIte, Nat.reduceAdd, Nat.reduceMul, Nat.reduceEqDiff, Nat.reduceLT, Nat.reduceLeDiff, reduceCtorEq] <;> rfl) ?_
  refine awp_cond (b := false) (by simp [alook, aput, ev]) (awp_skip ?_)
  refine awp_seq ?_
  refine awp_seq ?_
  cases hR : rightB ns us
  · rw [hR] at h15
    have h27 := c27 Γ hΓ ns us hw
    have h29 := c29 Γ hΓ ns us hw
    have h31 := c31 Γ hΓ ns us hw
    rw [show botV ns us = -1 by unfold botV; rw [if_neg (by rw [hR]; simp)]] at h27
    rw [show topV ns us = -1 by unfold topV; rw [if_neg (by rw [hR]; simp)]] at h29
    rw [show printL ns us = [] by unfold printL; rw [if_neg (by rw [hR]; simp)]] at h31
    refine awp_region rfl ?_
    refine aops_run 1 (by simp only [fwA, ↓reduceIte, Nat.reduceAdd, Nat.reduceMul, Nat.reduceEqDiff, Nat.reduceLT, Nat.reduceLeDiff, reduceCtorEq, bitfw, Int.reduceToNat, Int.reduceLE, Int.reduceEq, Int.reduceNeg, List.length_map, List.getElem?_map, Option.map_some, Int.natCast_nonneg, Int.toNat_natCast, decide_true, decide_false, Bool.and_true, Bool.and_self, Bool.not_true, Bool.not_false, Bool.false_and, Bool.true_and, ne_eq, not_true_eq_false, not_false_eq_true, beq_self_eq_true, un9, un21, un22, un23, un5, un50, un4, ti9, ti22, ti23, ti50, ti25, ti27, pl25, pl27, fl25_0, fl25_1, fl27_0, fl27_1, el22, el23, un3, hK0] <;> rfl) ?_
    refine aops_fn rfl rfl rfl en15 h15 ?_
    refine aops_run 1 (by simp only [fwA, ↓reduceIte, Nat.reduceAdd, Nat.reduceMul, Nat.reduceEqDiff, Nat.reduceLT, Nat.reduceLeDiff, reduceCtorEq, bitfw, Int.reduceToNat, Int.reduceLE, Int.reduceEq, Int.reduceNeg, List.length_map, List.getElem?_map, Option.map_some, Int.natCast_nonneg, Int.toNat_natCast, decide_true, decide_false, Bool.and_true, Bool.and_self, Bool.not_true, Bool.not_false, Bool.false_and, Bool.true_and, ne_eq, not_true_eq_false, not_false_eq_true, beq_self_eq_true, un9, un21, un22, un23, un5, un50, un4, ti9, ti22, ti23, ti50, ti25, ti27, pl25, pl27, fl25_0, fl25_1, fl27_0, fl27_1, el22, el23, un3, hK0] <;> rfl) ?_
    refine aops_end ?_
    refine awp_cond (b := true) (by simp [alook, aput, ev]) ?_
    refine awp_seq ?_
    refine awp_region rfl ?_
    refine aops_run 3 (by simp only [fwA, ↓reduceIte, Nat.reduceAdd, Nat.reduceMul, Nat.reduceEqDiff, Nat.reduceLT, Nat.reduceLeDiff, reduceCtorEq, bitfw, Int.reduceToNat, Int.reduceLE, Int.reduceEq, Int.reduceNeg, List.length_map, List.getElem?_map, Option.map_some, Int.natCast_nonneg, Int.toNat_natCast, decide_true, decide_false, Bool.and_true, Bool.and_self, Bool.not_true, Bool.not_false, Bool.false_and, Bool.true_and, ne_eq, not_true_eq_false, not_false_eq_true, beq_self_eq_true, un9, un21, un22, un23, un5, un50, un4, ti9, ti22, ti23, ti50, ti25, ti27, pl25, pl27, fl25_0, fl25_1, fl27_0, fl27_1, el22, el23, un3, hK0] <;> rfl) ?_
    refine aops_fnIf rfl rfl rfl rfl rfl en27 h27 ?_
    refine aops_run 4 (by simp only [fwA, ↓reduceIte, Nat.reduceAdd, Nat.reduceMul, Nat.reduceEqDiff, Nat.reduceLT, Nat.reduceLeDiff, reduceCtorEq, bitfw, Int.reduceToNat, Int.reduceLE, Int.reduceEq, Int.reduceNeg, List.length_map, List.getElem?_map, Option.map_some, Int.natCast_nonneg, Int.toNat_natCast, decide_true, decide_false, Bool.and_true, Bool.and_self, Bool.not_true, Bool.not_false, Bool.false_and, Bool.true_and, ne_eq, not_true_eq_false, not_false_eq_true, beq_self_eq_true, un9, un21, un22, un23, un5, un50, un4, ti9, ti22, ti23, ti50, ti25, ti27, pl25, pl27, fl25_0, fl25_1, fl27_0, fl27_1, el22, el23, un3, hK0] <;> rfl) ?_
    refine aops_fnIf rfl rfl rfl rfl rfl en29 h29 ?_
    refine aops_run 4 (by simp only [fwA, ↓reduceIte, Nat.reduceAdd, Nat.reduceMul, Nat.reduceEqDiff, Nat.reduceLT, Nat.reduceLeDiff, reduceCtorEq, bitfw, Int.reduceToNat, Int.reduceLE, Int.reduceEq, Int.reduceNeg, List.length_map, List.getElem?_map, Option.map_some, Int.natCast_nonneg, Int.toNat_natCast, decide_true, decide_false, Bool.and_true, Bool.and_self, Bool.not_true, Bool.not_false, Bool.false_and, Bool.true_and, ne_eq, not_true_eq_false, not_false_eq_true, beq_self_eq_true, un9, un21, un22, un23, un5, un50, un4, ti9, ti22, ti23, ti50, ti25, ti27, pl25, pl27, fl25_0, fl25_1, fl27_0, fl27_1, el22, el23, un3, hK0] <;> rfl) ?_
    refine aops_fnIf rfl rfl rfl rfl rfl en31 h31 ?_
    refine aops_run 3 (by simp only [fwA, ↓reduceIte, Nat.reduceAdd, Nat.reduceMul, Nat.reduceEqDiff, Nat.reduceLT, Nat.reduceLeDiff, reduceCtorEq, bitfw, Int.reduceToNat, Int.reduceLE, Int.reduceEq, Int.reduceNeg, List.length_map, List.getElem?_map, Option.map_some, Int.natCast_nonneg, Int.toNat_natCast, decide_true, decide_false, Bool.and_true, Bool.and_self, Bool.not_true, Bool.not_false, Bool.false_and, Bool.true_and, ne_eq, not_true_eq_false, not_false_eq_true, beq_self_eq_true, un9, un21, un22, un23, un5, un50, un4, ti9, ti22, ti23, ti50, ti25, ti27, pl25, pl27, fl25_0, fl25_1, fl27_0, fl27_1, el22, el23, un3, hK0] <;> rfl) ?_
    refine aops_end ?_
    refine awp_ret ?_
    exact hend _ rfl
  rw [hR] at h15
  obtain ⟨r1, r2, r3, r4, r5⟩ := right_spec hR
  have hp := r5.pos
  have hn0 : ¬ ((ns.length : Int) = 0) := by omega
  have hwa : IntKind.i64.wrap a = a := wrapId ⟨by omega, by omega⟩
  have hwb : IntKind.i64.wrap b = b := wrapId ⟨by omega, by omega⟩
  have hta := tmod_nat (n := ns.length) ha0
  have htb := tmod_nat (n := ns.length) hb0
  have hx : a.toNat % ns.length < us.length := by rw [r2]; exact Nat.mod_lt _ (by omega)
  have hy : b.toNat % ns.length < us.length := by rw [r2]; exact Nat.mod_lt _ (by omega)
  have hq : ∀ x y, x < us.length → y < us.length → Gives Tryd.prog Γ 17 [.agg [.vec (ns.map S1) false, .vec (us.map U1) false], .int .i64 (x : Int), .int .i64 (y : Int)] (.bool (lq us x y)) := fun x y hx hy => by
    have := c17 Γ ns us hw (x : Int) (y : Int)
    rw [leq_nat r2 hx hy] at this; exact this
  have hwc : IntKind.i64.wrap c = c := wrapId ⟨by omega, by omega⟩
  have htc := tmod_nat (n := ns.length) hc0
  have hz : c.toNat % ns.length < us.length := by rw [r2]; exact Nat.mod_lt _ (by omega)
  generalize a.toNat % ns.length = x at *
  generalize b.toNat % ns.length = y at *
  generalize c.toNat % ns.length = z at *
  have hO := r5.toOrd
  obtain ⟨bo, eb, hb⟩ := bot_nat hR
  obtain ⟨to, et, ht⟩ := top_nat hR
  have h27 := c27 Γ hΓ ns us hw
  have h29 := c29 Γ hΓ ns us hw
  rw [eb] at h27
  rw [et] at h29
  have oxx := hq x x hx hx
  rw [hO.refl x hx] at oxx
  have oxy := hq x y hx hy
  have oyx := hq y x hy hx
  have oyz := hq y z hy hz
  have oxz := hq x z hx hz
  have obx := hq bo x hb.1 hx
  rw [hb.2 x hx] at obx
  have oxt := hq x to hx ht.1
  rw [show lq us x to = true from ht.2 x hx] at oxt
  have g1 := c17 Γ ns us hw (x : Int) (ns.length : Int)
  rw [show leqB (min ns.length us.length) us (x : Int) (ns.length : Int) = false by unfold leqB ptB; rw [decide_eq_false (by omega : ¬ (ns.length : Int) < ((min ns.length us.length : Nat) : Int)), Bool.and_false, Bool.and_false]; rfl] at g1
  have g2 := c17 Γ ns us hw (-1) (x : Int)
  rw [show leqB (min ns.length us.length) us (-1) (x : Int) = false from rfl] at g2
  refine awp_region rfl ?_
  refine aops_run 1 (by simp only [fwA, ↓reduceIte, Nat.reduceAdd, Nat.reduceMul, Nat.reduceEqDiff, Nat.reduceLT, Nat.reduceLeDiff, reduceCtorEq, bitfw, Int.reduceToNat, Int.reduceLE, Int.reduceEq, Int.reduceNeg, List.length_map, List.getElem?_map, Option.map_some, Int.natCast_nonneg, Int.toNat_natCast, decide_true, decide_false, Bool.and_true, Bool.and_self, Bool.not_true, Bool.not_false, Bool.false_and, Bool.true_and, ne_eq, not_true_eq_false, not_false_eq_true, beq_self_eq_true, un9, un21, un22, un23, un5, un50, un4, ti9, ti22, ti23, ti50, ti25, ti27, pl25, pl27, fl25_0, fl25_1, fl27_0, fl27_1, el22, el23, un3, hK0] <;> rfl) ?_
  refine aops_fn rfl rfl rfl en15 h15 ?_
  refine aops_run 1 (by simp only [fwA, ↓reduceIte, Nat.reduceAdd, Nat.reduceMul, Nat.reduceEqDiff, Nat.reduceLT, Nat.reduceLeDiff, reduceCtorEq, bitfw, Int.reduceToNat, Int.reduceLE, Int.reduceEq, Int.reduceNeg, List.length_map, List.getElem?_map, Option.map_some, Int.natCast_nonneg, Int.toNat_natCast, decide_true, decide_false, Bool.and_true, Bool.and_self, Bool.not_true, Bool.not_false, Bool.false_and, Bool.true_and, ne_eq, not_true_eq_false, not_false_eq_true, beq_self_eq_true, un9, un21, un22, un23, un5, un50, un4, ti9, ti22, ti23, ti50, ti25, ti27, pl25, pl27, fl25_0, fl25_1, fl27_0, fl27_1, el22, el23, un3, hK0] <;> rfl) ?_
  refine aops_end ?_
  refine awp_cond (b := false) (by simp [alook, aput, ev]) (awp_skip ?_)
  refine awp_seq ?_
  refine awp_run rfl (by simp only [fwA, ↓reduceIte, Nat.reduceAdd, Nat.reduceMul, Nat.reduceEqDiff, Nat.reduceLT, Nat.reduceLeDiff, reduceCtorEq, bitfw, Int.reduceToNat, Int.reduceLE, Int.reduceEq, Int.reduceNeg, List.length_map, List.getElem?_map, Option.map_some, Int.natCast_nonneg, Int.toNat_natCast, decide_true, decide_false, Bool.and_true, Bool.and_self, Bool.not_true, Bool.not_false, Bool.false_and, Bool.true_and, ne_eq, not_true_eq_false, not_false_eq_true, beq_self_eq_true, un9, un21, un22, un23, un5, un50, un4, ti9, ti22, ti23, ti50, ti25, ti27, pl25, pl27, fl25_0, fl25_1, fl27_0, fl27_1, el22, el23, un3, hK0] <;> rfl) ?_
  refine awp_seq ?_
  refine awp_run rfl (by simp only [fwA, ↓reduceIte, Nat.reduceAdd, Nat.reduceMul, Nat.reduceEqDiff, Nat.reduceLT, Nat.reduceLeDiff, reduceCtorEq, bitfw, Int.reduceToNat, Int.reduceLE, Int.reduceEq, Int.reduceNeg, List.length_map, List.getElem?_map, Option.map_some, Int.natCast_nonneg, Int.toNat_natCast, decide_true, decide_false, Bool.and_true, Bool.and_self, Bool.not_true, Bool.not_false, Bool.false_and, Bool.true_and, ne_eq, not_true_eq_false, not_false_eq_true, beq_self_eq_true, un9, un21, un22, un23, un5, un50, un4, ti9, ti22, ti23, ti50, ti25, ti27, pl25, pl27, fl25_0, fl25_1, fl27_0, fl27_1, el22, el23, un3, hwa, hta, hn0] <;> rfl) ?_
  refine awp_seq ?_
  refine awp_run rfl (by simp only [fwA, ↓reduceIte, Nat.reduceAdd, Nat.reduceMul, Nat.reduceEqDiff, Nat.reduceLT, Nat.reduceLeDiff, reduceCtorEq, bitfw, Int.reduceToNat, Int.reduceLE, Int.reduceEq, Int.reduceNeg, List.length_map, List.getElem?_map, Option.map_some, Int.natCast_nonneg, Int.toNat_natCast, decide_true, decide_false, Bool.and_true, Bool.and_self, Bool.not_true, Bool.not_false, Bool.false_and, Bool.true_and, ne_eq, not_true_eq_false, not_false_eq_true, beq_self_eq_true, un9, un21, un22, un23, un5, un50, un4, ti9, ti22, ti23, ti50, ti25, ti27, pl25, pl27, fl25_0, fl25_1, fl27_0, fl27_1, el22, el23, un3, hwb, htb, hn0] <;> rfl) ?_
  refine awp_seq ?_
  refine awp_run rfl (by simp only [fwA, ↓reduceIte, Nat.reduceAdd, Nat.reduceMul, Nat.reduceEqDiff, Nat.reduceLT, Nat.reduceLeDiff, reduceCtorEq, bitfw, Int.reduceToNat, Int.reduceLE, Int.reduceEq, Int.reduceNeg, List.length_map, List.getElem?_map, Option.map_some, Int.natCast_nonneg, Int.toNat_natCast, decide_true, decide_false, Bool.and_true, Bool.and_self, Bool.not_true, Bool.not_false, Bool.false_and, Bool.true_and, ne_eq, not_true_eq_false, not_false_eq_true, beq_self_eq_true, un9, un21, un22, un23, un5, un50, un4, ti9, ti22, ti23, ti50, ti25, ti27, pl25, pl27, fl25_0, fl25_1, fl27_0, fl27_1, el22, el23, un3, hwc, htc, hn0] <;> rfl) ?_
  refine awp_join [4, 9, 10, 11] (fun _ : Unit => [.ptr H.length 0, .bool true, .int .i64 (ns.length : Int), .int .i64 (x : Int)]) (fun _ => K) (fun _ => True) ?_ fun _ _ => ?_
  · refine awp_seq ?_
    cases h1 : lq us x y
    · rw [h1] at oxy
      refine awp_region rfl ?_
      refine aops_run 3 (by simp only [fwA, ↓reduceIte, Nat.reduceAdd, Nat.reduceMul, Nat.reduceEqDiff, Nat.reduceLT, Nat.reduceLeDiff, reduceCtorEq, bitfw, Int.reduceToNat, Int.reduceLE, Int.reduceEq, Int.reduceNeg, List.length_map, List.getElem?_map, Option.map_some, Int.natCast_nonneg, Int.toNat_natCast, decide_true, decide_false, Bool.and_true, Bool.and_self, Bool.not_true, Bool.not_false, Bool.false_and, Bool.true_and, ne_eq, not_true_eq_false, not_false_eq_true, beq_self_eq_true, un9, un21, un22, un23, un5, un50, un4, ti9, ti22, ti23, ti50, ti25, ti27, pl25, pl27, fl25_0, fl25_1, fl27_0, fl27_1, el22, el23, un3, hK0] <;> rfl) ?_
      refine aops_fn rfl rfl rfl en17 oxx ?_
      refine aops_run 5 (by simp only [fwA, ↓reduceIte, Nat.reduceAdd, Nat.reduceMul, Nat.reduceEqDiff, Nat.reduceLT, Nat.reduceLeDiff, reduceCtorEq, bitfw, Int.reduceToNat, Int.reduceLE, Int.reduceEq, Int.reduceNeg, List.length_map, List.getElem?_map, Option.map_some, Int.natCast_nonneg, Int.toNat_natCast, decide_true, decide_false, Bool.and_true, Bool.and_self, Bool.not_true, Bool.not_false, Bool.false_and, Bool.true_and, ne_eq, not_true_eq_false, not_false_eq_true, beq_self_eq_true, un9, un21, un22, un23, un5, un50, un4, ti9, ti22, ti23, ti50, ti25, ti27, pl25, pl27, fl25_0, fl25_1, fl27_0, fl27_1, el22, el23, un3, hK0] <;> rfl) ?_
      refine aops_fnIf rfl rfl rfl rfl rfl en17 oxy ?_
      refine aops_run 13 (by simp only [fwA, ↓reduceIte, Nat.reduceAdd, Nat.reduceMul, Nat.reduceEqDiff, Nat.reduceLT, Nat.reduceLeDiff, reduceCtorEq, bitfw, Int.reduceToNat, Int.reduceLE, Int.reduceEq, Int.reduceNeg, List.length_map, List.getElem?_map, Option.map_some, Int.natCast_nonneg, Int.toNat_natCast, decide_true, decide_false, Bool.and_true, Bool.and_self, Bool.not_true, Bool.not_false, Bool.false_and, Bool.true_and, ne_eq, not_true_eq_false, not_false_eq_true, beq_self_eq_true, un9, un21, un22, un23, un5, un50, un4, ti9, ti22, ti23, ti50, ti25, ti27, pl25, pl27, fl25_0, fl25_1, fl27_0, fl27_1, el22, el23, un3, hK0] <;> rfl) ?_
      refine aops_run 2 (by simp only [fwA, ↓reduceIte, Nat.reduceAdd, Nat.reduceMul, Nat.reduceEqDiff, Nat.reduceLT, Nat.reduceLeDiff, reduceCtorEq, bitfw, Int.reduceToNat, Int.reduceLE, Int.reduceEq, Int.reduceNeg, List.length_map, List.getElem?_map, Option.map_some, Int.natCast_nonneg, Int.toNat_natCast, decide_true, decide_false, Bool.and_true, Bool.and_self, Bool.not_true, Bool.not_false, Bool.false_and, Bool.true_and, ne_eq, not_true_eq_false, not_false_eq_true, beq_self_eq_true, un9, un21, un22, un23, un5, un50, un4, ti9, ti22, ti23, ti50, ti25, ti27, pl25, pl27, fl25_0, fl25_1, fl27_0, fl27_1, el22, el23, un3, hK0] <;> rfl) ?_
      refine aops_fnIf rfl rfl rfl rfl rfl en17 oxy ?_
      refine aops_run 13 (by simp only [fwA, ↓reduceIte, Nat.reduceAdd, Nat.reduceMul, Nat.reduceEqDiff, Nat.reduceLT, Nat.reduceLeDiff, reduceCtorEq, bitfw, Int.reduceToNat, Int.reduceLE, Int.reduceEq, Int.reduceNeg, List.length_map, List.getElem?_map, Option.map_some, Int.natCast_nonneg, Int.toNat_natCast, decide_true, decide_false, Bool.and_true, Bool.and_self, Bool.not_true, Bool.not_false, Bool.false_and, Bool.true_and, ne_eq, not_true_eq_false, not_false_eq_true, beq_self_eq_true, un9, un21, un22, un23, un5, un50, un4, ti9, ti22, ti23, ti50, ti25, ti27, pl25, pl27, fl25_0, fl25_1, fl27_0, fl27_1, el22, el23, un3, hK0] <;> rfl) ?_
      refine aops_run 1 (by simp only [fwA, ↓reduceIte, Nat.reduceAdd, Nat.reduceMul, Nat.reduceEqDiff, Nat.reduceLT, Nat.reduceLeDiff, reduceCtorEq, bitfw, Int.reduceToNat, Int.reduceLE, Int.reduceEq, Int.reduceNeg, List.length_map, List.getElem?_map, Option.map_some, Int.natCast_nonneg, Int.toNat_natCast, decide_true, decide_false, Bool.and_true, Bool.and_self, Bool.not_true, Bool.not_false, Bool.false_and, Bool.true_and, ne_eq, not_true_eq_false, not_false_eq_true, beq_self_eq_true, un9, un21, un22, un23, un5, un50, un4, ti9, ti22, ti23, ti50, ti25, ti27, pl25, pl27, fl25_0, fl25_1, fl27_0, fl27_1, el22, el23, un3, hK0] <;> rfl) ?_
      refine aops_end ?_
      refine awp_cond (b := false) (by simp [alook, aput, ev]) (awp_skip ?_)
      exact ⟨(), trivial, rfl, rfl, rfl⟩
    rw [h1] at oxy
    have e1 : lq us y x = decide ((x : Int) = (y : Int)) := by
      refine Bool.eq_iff_iff.2 ?_
      rw [decide_eq_true_eq]
      constructor
      · intro h
        have := hO.anti x y hx hy h1 h; omega
      · intro h
        have : x = y := by omega
        rw [← this]; exact hO.refl x hx
    rw [e1] at oyx
    cases h2 : lq us y z
    · rw [h2] at oyz
      refine awp_region rfl ?_
      refine aops_run 3 (by simp only [fwA, ↓reduceIte, Nat.reduceAdd, Nat.reduceMul, Nat.reduceEqDiff, Nat.reduceLT, Nat.reduceLeDiff, reduceCtorEq, bitfw, Int.reduceToNat, Int.reduceLE, Int.reduceEq, Int.reduceNeg, List.length_map, List.getElem?_map, Option.map_some, Int.natCast_nonneg, Int.toNat_natCast, decide_true, decide_false, Bool.and_true, Bool.and_self, Bool.not_true, Bool.not_false, Bool.false_and, Bool.true_and, ne_eq, not_true_eq_false, not_false_eq_true, beq_self_eq_true, un9, un21, un22, un23, un5, un50, un4, ti9, ti22, ti23, ti50, ti25, ti27, pl25, pl27, fl25_0, fl25_1, fl27_0, fl27_1, el22, el23, un3, hK0, bne_self_eq_false] <;> rfl) ?_
      refine aops_fn rfl rfl rfl en17 oxx ?_
      refine aops_run 5 (by simp only [fwA, ↓reduceIte, Nat.reduceAdd, Nat.reduceMul, Nat.reduceEqDiff, Nat.reduceLT, Nat.reduceLeDiff, reduceCtorEq, bitfw, Int.reduceToNat, Int.reduceLE, Int.reduceEq, Int.reduceNeg, List.length_map, List.getElem?_map, Option.map_some, Int.natCast_nonneg, Int.toNat_natCast, decide_true, decide_false, Bool.and_true, Bool.and_self, Bool.not_true, Bool.not_false, Bool.false_and, Bool.true_and, ne_eq, not_true_eq_false, not_false_eq_true, beq_self_eq_true, un9, un21, un22, un23, un5, un50, un4, ti9, ti22, ti23, ti50, ti25, ti27, pl25, pl27, fl25_0, fl25_1, fl27_0, fl27_1, el22, el23, un3, hK0, bne_self_eq_false] <;> rfl) ?_
      refine aops_fnIf rfl rfl rfl rfl rfl en17 oxy ?_
      refine aops_run 4 (by simp only [fwA, ↓reduceIte, Nat.reduceAdd, Nat.reduceMul, Nat.reduceEqDiff, Nat.reduceLT, Nat.reduceLeDiff, reduceCtorEq, bitfw, Int.reduceToNat, Int.reduceLE, Int.reduceEq, Int.reduceNeg, List.length_map, List.getElem?_map, Option.map_some, Int.natCast_nonneg, Int.toNat_natCast, decide_true, decide_false, Bool.and_true, Bool.and_self, Bool.not_true, Bool.not_false, Bool.false_and, Bool.true_and, ne_eq, not_true_eq_false, not_false_eq_true, beq_self_eq_true, un9, un21, un22, un23, un5, un50, un4, ti9, ti22, ti23, ti50, ti25, ti27, pl25, pl27, fl25_0, fl25_1, fl27_0, fl27_1, el22, el23, un3, hK0, bne_self_eq_false] <;> rfl) ?_
      refine aops_fnIf rfl rfl rfl rfl rfl en17 oyx ?_
      refine aops_run 10 (by simp only [fwA, ↓reduceIte, Nat.reduceAdd, Nat.reduceMul, Nat.reduceEqDiff, Nat.reduceLT, Nat.reduceLeDiff, reduceCtorEq, bitfw, Int.reduceToNat, Int.reduceLE, Int.reduceEq, Int.reduceNeg, List.length_map, List.getElem?_map, Option.map_some, Int.natCast_nonneg, Int.toNat_natCast, decide_true, decide_false, Bool.and_true, Bool.and_self, Bool.not_true, Bool.not_false, Bool.false_and, Bool.true_and, ne_eq, not_true_eq_false, not_false_eq_true, beq_self_eq_true, un9, un21, un22, un23, un5, un50, un4, ti9, ti22, ti23, ti50, ti25, ti27, pl25, pl27, fl25_0, fl25_1, fl27_0, fl27_1, el22, el23, un3, hK0, bne_self_eq_false] <;> rfl) ?_
      refine aops_fnIf rfl rfl rfl rfl rfl en17 oxy ?_
      refine aops_run 4 (by simp only [fwA, ↓reduceIte, Nat.reduceAdd, Nat.reduceMul, Nat.reduceEqDiff, Nat.reduceLT, Nat.reduceLeDiff, reduceCtorEq, bitfw, Int.reduceToNat, Int.reduceLE, Int.reduceEq, Int.reduceNeg, List.length_map, List.getElem?_map, Option.map_some, Int.natCast_nonneg, Int.toNat_natCast, decide_true, decide_false, Bool.and_true, Bool.and_self, Bool.not_true, Bool.not_false, Bool.false_and, Bool.true_and, ne_eq, not_true_eq_false, not_false_eq_true, beq_self_eq_true, un9, un21, un22, un23, un5, un50, un4, ti9, ti22, ti23, ti50, ti25, ti27, pl25, pl27, fl25_0, fl25_1, fl27_0, fl27_1, el22, el23, un3, hK0, bne_self_eq_false] <;> rfl) ?_
      refine aops_fnIf rfl rfl rfl rfl rfl en17 oyz ?_
      refine aops_run 9 (by simp only [fwA, ↓reduceIte, Nat.reduceAdd, Nat.reduceMul, Nat.reduceEqDiff, Nat.reduceLT, Nat.reduceLeDiff, reduceCtorEq, bitfw, Int.reduceToNat, Int.reduceLE, Int.reduceEq, Int.reduceNeg, List.length_map, List.getElem?_map, Option.map_some, Int.natCast_nonneg, Int.toNat_natCast, decide_true, decide_false, Bool.and_true, Bool.and_self, Bool.not_true, Bool.not_false, Bool.false_and, Bool.true_and, ne_eq, not_true_eq_false, not_false_eq_true, beq_self_eq_true, un9, un21, un22, un23, un5, un50, un4, ti9, ti22, ti23, ti50, ti25, ti27, pl25, pl27, fl25_0, fl25_1, fl27_0, fl27_1, el22, el23, un3, hK0, bne_self_eq_false] <;> rfl) ?_
      refine aops_end ?_
      refine awp_cond (b := false) (by simp [alook, aput, ev]) (awp_skip ?_)
      exact ⟨(), trivial, rfl, rfl, rfl⟩
    rw [h2] at oyz
    rw [hO.trans x y z hx hy hz h1 h2] at oxz
    refine awp_region rfl ?_
    refine aops_run 3 (by simp only [fwA, ↓reduceIte, Nat.reduceAdd, Nat.reduceMul, Nat.reduceEqDiff, Nat.reduceLT, Nat.reduceLeDiff, reduceCtorEq, bitfw, Int.reduceToNat, Int.reduceLE, Int.reduceEq, Int.reduceNeg, List.length_map, List.getElem?_map, Option.map_some, Int.natCast_nonneg, Int.toNat_natCast, decide_true, decide_false, Bool.and_true, Bool.and_self, Bool.not_true, Bool.not_false, Bool.false_and, Bool.true_and, ne_eq, not_true_eq_false, not_false_eq_true, beq_self_eq_true, un9, un21, un22, un23, un5, un50, un4, ti9, ti22, ti23, ti50, ti25, ti27, pl25, pl27, fl25_0, fl25_1, fl27_0, fl27_1, el22, el23, un3, hK0, bne_self_eq_false] <;> rfl) ?_
    refine aops_fn rfl rfl rfl en17 oxx ?_
    refine aops_run 5 (by simp only [fwA, ↓reduceIte, Nat.reduceAdd, Nat.reduceMul, Nat.reduceEqDiff, Nat.reduceLT, Nat.reduceLeDiff, reduceCtorEq, bitfw, Int.reduceToNat, Int.reduceLE, Int.reduceEq, Int.reduceNeg, List.length_map, List.getElem?_map, Option.map_some, Int.natCast_nonneg, Int.toNat_natCast, decide_true, decide_false, Bool.and_true, Bool.and_self, Bool.not_true, Bool.not_false, Bool.false_and, Bool.true_and, ne_eq, not_true_eq_false, not_false_eq_true, beq_self_eq_true, un9, un21, un22, un23, un5, un50, un4, ti9, ti22, ti23, ti50, ti25, ti27, pl25, pl27, fl25_0, fl25_1, fl27_0, fl27_1, el22, el23, un3, hK0, bne_self_eq_false] <;> rfl) ?_
    refine aops_fnIf rfl rfl rfl rfl rfl en17 oxy ?_
    refine aops_run 4 (by simp only [fwA, ↓reduceIte, Nat.reduceAdd, Nat.reduceMul, Nat.reduceEqDiff, Nat.reduceLT, Nat.reduceLeDiff, reduceCtorEq, bitfw, Int.reduceToNat, Int.reduceLE, Int.reduceEq, Int.reduceNeg, List.length_map, List.getElem?_map, Option.map_some, Int.natCast_nonneg, Int.toNat_natCast, decide_true, decide_false, Bool.and_true, Bool.and_self, Bool.not_true, Bool.not_false, Bool.false_and, Bool.true_and, ne_eq, not_true_eq_false, not_false_eq_true, beq_self_eq_true, un9, un21, un22, un23, un5, un50, un4, ti9, ti22, ti23, ti50, ti25, ti27, pl25, pl27, fl25_0, fl25_1, fl27_0, fl27_1, el22, el23, un3, hK0, bne_self_eq_false] <;> rfl) ?_
    refine aops_fnIf rfl rfl rfl rfl rfl en17 oyx ?_
    refine aops_run 10 (by simp only [fwA, ↓reduceIte, Nat.reduceAdd, Nat.reduceMul, Nat.reduceEqDiff, Nat.reduceLT, Nat.reduceLeDiff, reduceCtorEq, bitfw, Int.reduceToNat, Int.reduceLE, Int.reduceEq, Int.reduceNeg, List.length_map, List.getElem?_map, Option.map_some, Int.natCast_nonneg, Int.toNat_natCast, decide_true, decide_false, Bool.and_true, Bool.and_self, Bool.not_true, Bool.not_false, Bool.false_and, Bool.true_and, ne_eq, not_true_eq_false, not_false_eq_true, beq_self_eq_true, un9, un21, un22, un23, un5, un50, un4, ti9, ti22, ti23, ti50, ti25, ti27, pl25, pl27, fl25_0, fl25_1, fl27_0, fl27_1, el22, el23, un3, hK0, bne_self_eq_false] <;> rfl) ?_
    refine aops_fnIf rfl rfl rfl rfl rfl en17 oxy ?_
    refine aops_run 4 (by simp only [fwA, ↓reduceIte, Nat.reduceAdd, Nat.reduceMul, Nat.reduceEqDiff, Nat.reduceLT, Nat.reduceLeDiff, reduceCtorEq, bitfw, Int.reduceToNat, Int.reduceLE, Int.reduceEq, Int.reduceNeg, List.length_map, List.getElem?_map, Option.map_some, Int.natCast_nonneg, Int.toNat_natCast, decide_true, decide_false, Bool.and_true, Bool.and_self, Bool.not_true, Bool.not_false, Bool.false_and, Bool.true_and, ne_eq, not_true_eq_false, not_false_eq_true, beq_self_eq_true, un9, un21, un22, un23, un5, un50, un4, ti9, ti22, ti23, ti50, ti25, ti27, pl25, pl27, fl25_0, fl25_1, fl27_0, fl27_1, el22, el23, un3, hK0, bne_self_eq_false] <;> rfl) ?_
    refine aops_fnIf rfl rfl rfl rfl rfl en17 oyz ?_
    refine aops_run 5 (by simp only [fwA, ↓reduceIte, Nat.reduceAdd, Nat.reduceMul, Nat.reduceEqDiff, Nat.reduceLT, Nat.reduceLeDiff, reduceCtorEq, bitfw, Int.reduceToNat, Int.reduceLE, Int.reduceEq, Int.reduceNeg, List.length_map, List.getElem?_map, Option.map_some, Int.natCast_nonneg, Int.toNat_natCast, decide_true, decide_false, Bool.and_true, Bool.and_self, Bool.not_true, Bool.not_false, Bool.false_and, Bool.true_and, ne_eq, not_true_eq_false, not_false_eq_true, beq_self_eq_true, un9, un21, un22, un23, un5, un50, un4, ti9, ti22, ti23, ti50, ti25, ti27, pl25, pl27, fl25_0, fl25_1, fl27_0, fl27_1, el22, el23, un3, hK0, bne_self_eq_false] <;> rfl) ?_
    refine aops_fnIf rfl rfl rfl rfl rfl en17 oxz ?_
    refine aops_run 3 (by simp only [fwA, ↓reduceIte, Nat.reduceAdd, Nat.reduceMul, Nat.reduceEqDiff, Nat.reduceLT, Nat.reduceLeDiff, reduceCtorEq, bitfw, Int.reduceToNat, Int.reduceLE, Int.reduceEq, Int.reduceNeg, List.length_map, List.getElem?_map, Option.map_some, Int.natCast_nonneg, Int.toNat_natCast, decide_true, decide_false, Bool.and_true, Bool.and_self, Bool.not_true, Bool.not_false, Bool.false_and, Bool.true_and, ne_eq, not_true_eq_false, not_false_eq_true, beq_self_eq_true, un9, un21, un22, un23, un5, un50, un4, ti9, ti22, ti23, ti50, ti25, ti27, pl25, pl27, fl25_0, fl25_1, fl27_0, fl27_1, el22, el23, un3, hK0, bne_self_eq_false] <;> rfl) ?_
    refine aops_end ?_
    refine awp_cond (b := false) (by simp [alook, aput, ev]) (awp_skip ?_)
    exact ⟨(), trivial, rfl, rfl, rfl⟩
  refine awp_seq ?_
  refine awp_drawn [0, 0, 1, 1, 0, 0, 0, 0, 0, 1, 0, 1, 0, 0, 0, 0, 1, 0, 0, 0, 0, 0, 0, 1, 0, 0, 0, 0, 0] [0, 1, 3, 3, 11, 3, 63, 127, 255, 511, 511, 511, 2559, 8191, 16383, 32767, 65535, 65535, 65535, 524287, 1048575, 2097151, 4194303, 8388607, 8388607, 33554431, 67108863, 134217727, 268435455] mixed rfl (by kernel_rfl) ?_
  refine dops_run 4 (by simp only [fwA, ↓reduceIte, Nat.reduceAdd, Nat.reduceMul, Nat.reduceEqDiff, Nat.reduceLT, Nat.reduceLeDiff, reduceCtorEq, bitfw, Int.reduceToNat, Int.reduceLE, Int.reduceEq, Int.reduceNeg, List.length_map, List.getElem?_map, Option.map_some, Int.natCast_nonneg, Int.toNat_natCast, decide_true, decide_false, Bool.and_true, Bool.and_self, Bool.not_true, Bool.not_false, Bool.false_and, Bool.true_and, ne_eq, not_true_eq_false, not_false_eq_true, beq_self_eq_true, un9, un21, un22, un23, un5, un50, un4, ti9, ti22, ti23, ti50, ti25, ti27, pl25, pl27, fl25_0, fl25_1, fl27_0, fl27_1, el22, el23, un3, hK0] <;> rfl) ?_
  refine dops_fn rfl (by simp only [fwA, ↓reduceIte, Nat.reduceAdd, Nat.reduceMul, Nat.reduceEqDiff, Nat.reduceLT, Nat.reduceLeDiff, reduceCtorEq] <;> rfl) rfl rfl en27 h27 ?_
  refine dops_run 1 (by simp only [fwA, ↓reduceIte, Nat.reduceAdd, Nat.reduceMul, Nat.reduceEqDiff, Nat.reduceLT, Nat.reduceLeDiff, reduceCtorEq, bitfw, Int.reduceToNat, Int.reduceLE, Int.reduceEq, Int.reduceNeg, List.length_map, List.getElem?_map, Option.map_some, Int.natCast_nonneg, Int.toNat_natCast, decide_true, decide_false, Bool.and_true, Bool.and_self, Bool.not_true, Bool.not_false, Bool.false_and, Bool.true_and, ne_eq, not_true_eq_false, not_false_eq_true, beq_self_eq_true, un9, un21, un22, un23, un5, un50, un4, ti9, ti22, ti23, ti50, ti25, ti27, pl25, pl27, fl25_0, fl25_1, fl27_0, fl27_1, el22, el23, un3, hK0] <;> rfl) ?_
  refine dops_fn rfl (by simp only [fwA, ↓reduceIte, Nat.reduceAdd, Nat.reduceMul, Nat.reduceEqDiff, Nat.reduceLT, Nat.reduceLeDiff, reduceCtorEq] <;> rfl) rfl rfl en17 obx ?_
  refine dops_run 5 (by simp only [fwA, ↓reduceIte, Nat.reduceAdd, Nat.reduceMul, Nat.reduceEqDiff, Nat.reduceLT, Nat.reduceLeDiff, reduceCtorEq, bitfw, Int.reduceToNat, Int.reduceLE, Int.reduceEq, Int.reduceNeg, List.length_map, List.getElem?_map, Option.map_some, Int.natCast_nonneg, Int.toNat_natCast, decide_true, decide_false, Bool.and_true, Bool.and_self, Bool.not_true, Bool.not_false, Bool.false_and, Bool.true_and, ne_eq, not_true_eq_false, not_false_eq_true, beq_self_eq_true, un9, un21, un22, un23, un5, un50, un4, ti9, ti22, ti23, ti50, ti25, ti27, pl25, pl27, fl25_0, fl25_1, fl27_0, fl27_1, el22, el23, un3, hK0] <;> rfl) ?_
  refine dops_fn rfl (by simp only [fwA, ↓reduceIte, Nat.reduceAdd, Nat.reduceMul, Nat.reduceEqDiff, Nat.reduceLT, Nat.reduceLeDiff, reduceCtorEq] <;> rfl) rfl rfl en29 h29 ?_
  refine dops_fn rfl (by simp only [fwA, ↓reduceIte, Nat.reduceAdd, Nat.reduceMul, Nat.reduceEqDiff, Nat.reduceLT, Nat.reduceLeDiff, reduceCtorEq] <;> rfl) rfl rfl en17 oxt ?_
  refine dops_run 5 (by simp only [fwA, ↓reduceIte, Nat.reduceAdd, Nat.reduceMul, Nat.reduceEqDiff, Nat.reduceLT, Nat.reduceLeDiff, reduceCtorEq, bitfw, Int.reduceToNat, Int.reduceLE, Int.reduceEq, Int.reduceNeg, List.length_map, List.getElem?_map, Option.map_some, Int.natCast_nonneg, Int.toNat_natCast, decide_true, decide_false, Bool.and_true, Bool.and_self, Bool.not_true, Bool.not_false, Bool.false_and, Bool.true_and, ne_eq, not_true_eq_false, not_false_eq_true, beq_self_eq_true, un9, un21, un22, un23, un5, un50, un4, ti9, ti22, ti23, ti50, ti25, ti27, pl25, pl27, fl25_0, fl25_1, fl27_0, fl27_1, el22, el23, un3, hK0] <;> rfl) ?_
  refine dops_fn rfl (by simp only [fwA, ↓reduceIte, Nat.reduceAdd, Nat.reduceMul, Nat.reduceEqDiff, Nat.reduceLT, Nat.reduceLeDiff, reduceCtorEq] <;> rfl) rfl rfl en17 g1 ?_
  refine dops_run 5 (by simp only [fwA, ↓reduceIte, Nat.reduceAdd, Nat.reduceMul, Nat.reduceEqDiff, Nat.reduceLT, Nat.reduceLeDiff, reduceCtorEq, bitfw, Int.reduceToNat, Int.reduceLE, Int.reduceEq, Int.reduceNeg, List.length_map, List.getElem?_map, Option.map_some, Int.natCast_nonneg, Int.toNat_natCast, decide_true, decide_false, Bool.and_true, Bool.and_self, Bool.not_true, Bool.not_false, Bool.false_and, Bool.true_and, ne_eq, not_true_eq_false, not_false_eq_true, beq_self_eq_true, un9, un21, un22, un23, un5, un50, un4, ti9, ti22, ti23, ti50, ti25, ti27, pl25, pl27, fl25_0, fl25_1, fl27_0, fl27_1, el22, el23, un3, hK0] <;> rfl) ?_
  refine dops_fn rfl (by simp only [fwA, ↓reduceIte, Nat.reduceAdd, Nat.reduceMul, Nat.reduceEqDiff, Nat.reduceLT, Nat.reduceLeDiff, reduceCtorEq] <;> rfl) rfl rfl en17 g2 ?_
  refine dops_run 3 (by simp only [fwA, ↓reduceIte, Nat.reduceAdd, Nat.reduceMul, Nat.reduceEqDiff, Nat.reduceLT, Nat.reduceLeDiff, reduceCtorEq, bitfw, Int.reduceToNat, Int.reduceLE, Int.reduceEq, Int.reduceNeg, List.length_map, List.getElem?_map, Option.map_some, Int.natCast_nonneg, Int.toNat_natCast, decide_true, decide_false, Bool.and_true, Bool.and_self, Bool.not_true, Bool.not_false, Bool.false_and, Bool.true_and, ne_eq, not_true_eq_false, not_false_eq_true, beq_self_eq_true, un9, un21, un22, un23, un5, un50, un4, ti9, ti22, ti23, ti50, ti25, ti27, pl25, pl27, fl25_0, fl25_1, fl27_0, fl27_1, el22, el23, un3, hK0] <;> rfl) ?_
  refine dops_end ?_
  refine awp_ret ?_
  exact hend _ rfl

end Go.Proofs.YtdhlghhokbmhdaaDoor
