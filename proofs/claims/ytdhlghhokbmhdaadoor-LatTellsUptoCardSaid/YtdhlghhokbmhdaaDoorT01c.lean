/- The law on names. -/
import Derived.Test.YtdhlghhokbmhdaaDoorT01b
namespace Go.Proofs.YtdhlghhokbmhdaaDoor
set_option linter.unusedVariables false
set_option linter.unusedSimpArgs false
set_option maxRecDepth 100000
open Go.RowKit Fw

theorem named_spec {ns : List (List UInt8)} (h : namedB ns = true) {k : Nat} {s : List UInt8} (hk : ns[k]? = some s) : nameB s = true ∧ idxS ns s = (k : Int) := by
  unfold namedB at h
  simp only [Bool.and_eq_true, List.all_eq_true, decide_eq_true_eq, List.mem_range] at h
  have := h.2 k (List.getElem?_eq_some_iff.1 hk).1
  rw [List.getD_eq_getElem?_getD, hk] at this
  exact this
set_option maxHeartbeats 8000000 in
/-- LatNames -/
theorem c8 (Γ : Nat → PV) (hT : Tab Γ) (s : List UInt8) (ns : List (List UInt8)) (us : List Nat) (hw : W64 us) (a : Int) (ha0 : 0 ≤ a) (ha1 : a < 256) : Gives Tryd.prog Γ 8 [.str s, .agg [.vec (ns.map S1) false, .vec (us.map U1) false], .int .u8 a] (.bool true) := by
  obtain ⟨hΓ, hM⟩ := id hT
  have h10 := c10 Γ hT
  have h15 := c15 Γ hΓ ns us hw
  have h19 := c19 Γ s
  refine fn_of_awp Tryd.func8 rfl (by simp [Tryd.f8]) rfl fun H => ?_
  refine awp_slen 0 rfl fun hsl => ?_
  refine awp_seq ?_
  refine awp_run rfl (by simp only [fwA, ↓reduceIte, Nat.reduceAdd, Nat.reduceMul, Nat.reduceEqDiff, Nat.reduceLT, Nat.reduceLeDiff, reduceCtorEq] <;> rfl) ?_
  have hK0 : (H ++ [Blk.box [.vec (ns.map S1) false, .vec (us.map U1) false]])[H.length]? = some (.box [.vec (ns.map S1) false, .vec (us.map U1) false]) := by rw [Fw.get_at0]; rfl
  generalize hK : H ++ [Blk.box [.vec (ns.map S1) false, .vec (us.map U1) false]] = K at hK0 ⊢
  have hend : ∀ (A' : List (Nat × PV)), alook A' 6 = .bool true → ((Exit.ret = .ret ∨ Exit.ret = .normal) ∧ ([] : List Nat).Nodup ∧ (∀ b ∈ ([] : List Nat), K[b]? = some .dfr ∧ H.length ≤ b) ∧ ares Tryd.prog Γ A' K Tryd.f8.results.toList = some (.bool true) ∧ ∃ L', K = H ++ L') := fun A' hv => by
    subst hK
    exact gives_end (.inl rfl) _ (by simp [ares, aresL, ares1, Tryd.f8, hv])
  refine awp_seq ?_
  refine awp_region rfl ?_
  refine aops_fn rfl rfl rfl en10 h10 ?_
  refine aops_run 1 (by simp only [fwA, ↓reduceIte, Nat.reduceAdd, Nat.reduceMul, Nat.reduceEqDiff, Nat.reduceLT, Nat.reduceLeDiff, reduceCtorEq, bitfw, Int.reduceToNat, Int.reduceLE, Int.reduceEq, Int.reduceNeg, List.length_map, List.getElem?_map, Option.map_some, Int.natCast_nonneg, Int.toNat_natCast, decide_true, decide_false, Bool.and_true, Bool.and_self, Bool.not_true, Bool.not_false, Bool.false_and, Bool.true_and, ne_eq, not_true_eq_false, not_false_eq_true, beq_self_eq_true, un9, un21, un22, un23, un5, un50, un4, ti9, ti22, ti23, ti50, ti25, ti27, pl25, pl27, fl25_0, fl25_1, fl27_0, fl27_1, el22, el23, un3, S1_fw, U1_fw] <;> rfl) ?_
  refine aops_end ?_
  refine awp_seq ?_
  refine awp_seq ?_
  refine awp_run rfl (by simp only [fwA, ↓reduceIte, Nat.reduceAdd, Nat.reduceMul, Nat.reduceEqDiff, Nat.reduceLT, Nat.reduceLeDiff, reduceCtorEq] <;> rfl) ?_
  refine awp_cond (b := false) (by simp [alook, aput, ev]) (awp_skip ?_)
  have e1 : decide ((1 : Int) ≤ (s.length : Int)) = decide (0 < s.length) := decide_eq_decide.2 (by omega)
  have e2 : decide ((s.length : Int) ≤ 16) = decide (s.length ≤ 16) := decide_eq_decide.2 (by omega)
  refine awp_join [0, 2, 4, 7, 8] (fun d : Bool => [.str s, .int .u8 a, .ptr H.length 0, .bool true, .bool d]) (fun _ => K) (fun d => d = (decide (0 < s.length) && decide (s.length ≤ 16))) ?_ fun d hd => ?_
  · by_cases h1 : (1 : Int) ≤ (s.length : Int)
    · refine awp_run rfl (by simp only [fwA, ↓reduceIte, Nat.reduceAdd, Nat.reduceMul, Nat.reduceEqDiff, Nat.reduceLT, Nat.reduceLeDiff, reduceCtorEq, bitfw, Int.reduceToNat, Int.reduceLE, Int.reduceEq, Int.reduceNeg, List.length_map, List.getElem?_map, Option.map_some, Int.natCast_nonneg, Int.toNat_natCast, decide_true, decide_false, Bool.and_true, Bool.and_self, Bool.not_true, Bool.not_false, Bool.false_and, Bool.true_and, ne_eq, not_true_eq_false, not_false_eq_true, beq_self_eq_true, un9, un21, un22, un23, un5, un50, un4, ti9, ti22, ti23, ti50, ti25, ti27, pl25, pl27, fl25_0, fl25_1, fl27_0, fl27_1, el22, el23, un3, S1_fw, U1_fw, h1] <;> rfl) ?_
      exact ⟨_, by rw [← e1, ← e2, decide_eq_true h1, Bool.true_and], rfl, rfl, rfl⟩
    · refine awp_run rfl (by simp only [fwA, ↓reduceIte, Nat.reduceAdd, Nat.reduceMul, Nat.reduceEqDiff, Nat.reduceLT, Nat.reduceLeDiff, reduceCtorEq, bitfw, Int.reduceToNat, Int.reduceLE, Int.reduceEq, Int.reduceNeg, List.length_map, List.getElem?_map, Option.map_some, Int.natCast_nonneg, Int.toNat_natCast, decide_true, decide_false, Bool.and_true, Bool.and_self, Bool.not_true, Bool.not_false, Bool.false_and, Bool.true_and, ne_eq, not_true_eq_false, not_false_eq_true, beq_self_eq_true, un9, un21, un22, un23, un5, un50, un4, ti9, ti22, ti23, ti50, ti25, ti27, pl25, pl27, fl25_0, fl25_1, fl27_0, fl27_1, el22, el23, un3, S1_fw, U1_fw, h1] <;> rfl) ?_
      exact ⟨_, by rw [← e1, decide_eq_false h1, Bool.false_and], rfl, rfl, rfl⟩
  refine awp_seq ?_
  refine awp_seq ?_
  refine awp_run rfl (by simp only [fwA, ↓reduceIte, Nat.reduceAdd, Nat.reduceMul, Nat.reduceEqDiff, Nat.reduceLT, Nat.reduceLeDiff, reduceCtorEq] <;> rfl) ?_
  refine awp_block ?_
  refine awp_for [0, 2, 4, 7, 8, 9] (fun i : Nat => [.str s, .int .u8 a, .ptr H.length 0, .bool true, .bool (d && chsB s i), .int .i64 (i : Int)]) (fun _ => K) (fun i => s.length - i) (fun i => i ≤ s.length) 0 (by simp only [fwA, ↓reduceIte, Nat.reduceAdd, Nat.reduceMul, Nat.reduceEqDiff, Nat.reduceLT, Nat.reduceLeDiff, reduceCtorEq, List.map_cons, List.map_nil, chsB, List.range_zero, List.all_nil, Bool.and_true]; rfl) rfl (Nat.zero_le _) fun i hil => ?_
  refine awp_seq ?_
  refine awp_seq ?_
  refine awp_run rfl (by simp only [fwA, ↓reduceIte, Nat.reduceAdd, Nat.reduceMul, Nat.reduceEqDiff, Nat.reduceLT, Nat.reduceLeDiff, reduceCtorEq, bitfw, Int.reduceToNat, Int.reduceLE, Int.reduceEq, Int.reduceNeg, List.length_map, List.getElem?_map, Option.map_some, Int.natCast_nonneg, Int.toNat_natCast, decide_true, decide_false, Bool.and_true, Bool.and_self, Bool.not_true, Bool.not_false, Bool.false_and, Bool.true_and, ne_eq, not_true_eq_false, not_false_eq_true, beq_self_eq_true, un9, un21, un22, un23, un5, un50, un4, ti9, ti22, ti23, ti50, ti25, ti27, pl25, pl27, fl25_0, fl25_1, fl27_0, fl27_1, el22, el23, un3, S1_fw, U1_fw] <;> rfl) ?_
  refine awp_cond (by simp only [fwA, ↓reduceIte, Nat.reduceAdd, Nat.reduceMul, Nat.reduceEqDiff, Nat.reduceLT, Nat.reduceLeDiff, reduceCtorEq] <;> rfl) ?_
  by_cases hc : (i : Int) < s.length
  · simp only [hc, decide_true, ↓reduceIte]
    refine awp_skip ?_
    have hlt : i < s.length := by omega
    have ga : s[i]? = some s[i] := List.getElem?_eq_getElem hlt
    generalize s[i] = c at ga
    have hwi : IntKind.i64.wrap ((i : Int) + 1) = ((i + 1 : Nat) : Int) := wrapS i (by omega)
    have hst := chsB_succ ga
    have l1 : decide ((97 : Int) ≤ (c.toNat : Int)) = decide (97 ≤ c.toNat) := decide_eq_decide.2 (by omega)
    have l2 : decide ((c.toNat : Int) ≤ 122) = decide (c.toNat ≤ 122) := decide_eq_decide.2 (by omega)
    have l3 : decide ((65 : Int) ≤ (c.toNat : Int)) = decide (65 ≤ c.toNat) := decide_eq_decide.2 (by omega)
    have l4 : decide ((c.toNat : Int) ≤ 90) = decide (c.toNat ≤ 90) := decide_eq_decide.2 (by omega)
    have l5 : decide ((48 : Int) ≤ (c.toNat : Int)) = decide (48 ≤ c.toNat) := decide_eq_decide.2 (by omega)
    have l6 : decide ((c.toNat : Int) ≤ 57) = decide (c.toNat ≤ 57) := decide_eq_decide.2 (by omega)
    have hle : letB c = (decide (97 ≤ c.toNat) && decide (c.toNat ≤ 122) || decide (65 ≤ c.toNat) && decide (c.toNat ≤ 90)) := rfl
    have hdg : digB c = (decide (48 ≤ c.toNat) && decide (c.toNat ≤ 57)) := rfl
    rw [← l1, ← l2, ← l3, ← l4] at hle
    rw [← l5, ← l6] at hdg
    generalize hF : (d && chsB s i) = F
    have hst2 : (d && chsB s (i + 1)) = (F && chB i c) := by rw [hst, ← Bool.and_assoc, hF]
    refine awp_join [0, 2, 4, 7, 8, 9] (fun l : Bool => [.str s, .int .u8 a, .ptr H.length 0, .bool true, .bool l, .int .i64 (i : Int)]) (fun _ => K) (fun l => l = (F && chB i c)) ?_ fun l hl => ?_
    · refine awp_block ?_
      refine awp_seq ?_
      refine awp_run rfl (by simp only [fwA, ↓reduceIte, Nat.reduceAdd, Nat.reduceMul, Nat.reduceEqDiff, Nat.reduceLT, Nat.reduceLeDiff, reduceCtorEq, bitfw, Int.reduceToNat, Int.reduceLE, Int.reduceEq, Int.reduceNeg, List.length_map, List.getElem?_map, Option.map_some, Int.natCast_nonneg, Int.toNat_natCast, decide_true, decide_false, Bool.and_true, Bool.and_self, Bool.not_true, Bool.not_false, Bool.false_and, Bool.true_and, ne_eq, not_true_eq_false, not_false_eq_true, beq_self_eq_true, un9, un21, un22, un23, un5, un50, un4, ti9, ti22, ti23, ti50, ti25, ti27, pl25, pl27, fl25_0, fl25_1, fl27_0, fl27_1, el22, el23, un3, S1_fw, U1_fw, ga] <;> rfl) ?_
      refine awp_join [0, 2, 4, 7, 8, 9, 10, 11] (fun l : Bool => [.str s, .int .u8 a, .ptr H.length 0, .bool true, .bool F, .int .i64 (i : Int), .int .u8 (c.toNat : Int), .bool l]) (fun _ => K) (fun l => l = letB c) ?_ fun l hl => ?_
      · rw [hle]
        by_cases h3 : (97 : Int) ≤ (c.toNat : Int)
        · by_cases h4 : (c.toNat : Int) ≤ 122
          · refine awp_run rfl (by simp only [fwA, ↓reduceIte, Nat.reduceAdd, Nat.reduceMul, Nat.reduceEqDiff, Nat.reduceLT, Nat.reduceLeDiff, reduceCtorEq, bitfw, Int.reduceToNat, Int.reduceLE, Int.reduceEq, Int.reduceNeg, List.length_map, List.getElem?_map, Option.map_some, Int.natCast_nonneg, Int.toNat_natCast, decide_true, decide_false, Bool.and_true, Bool.and_self, Bool.not_true, Bool.not_false, Bool.false_and, Bool.true_and, ne_eq, not_true_eq_false, not_false_eq_true, beq_self_eq_true, un9, un21, un22, un23, un5, un50, un4, ti9, ti22, ti23, ti50, ti25, ti27, pl25, pl27, fl25_0, fl25_1, fl27_0, fl27_1, el22, el23, un3, S1_fw, U1_fw, h3, h4] <;> rfl) ?_
            exact ⟨true, by rw [decide_eq_true h3, decide_eq_true h4]; rfl, rfl, rfl, rfl⟩
          · by_cases h5 : (65 : Int) ≤ (c.toNat : Int)
            · refine awp_run rfl (by simp only [fwA, ↓reduceIte, Nat.reduceAdd, Nat.reduceMul, Nat.reduceEqDiff, Nat.reduceLT, Nat.reduceLeDiff, reduceCtorEq, bitfw, Int.reduceToNat, Int.reduceLE, Int.reduceEq, Int.reduceNeg, List.length_map, List.getElem?_map, Option.map_some, Int.natCast_nonneg, Int.toNat_natCast, decide_true, decide_false, Bool.and_true, Bool.and_self, Bool.not_true, Bool.not_false, Bool.false_and, Bool.true_and, ne_eq, not_true_eq_false, not_false_eq_true, beq_self_eq_true, un9, un21, un22, un23, un5, un50, un4, ti9, ti22, ti23, ti50, ti25, ti27, pl25, pl27, fl25_0, fl25_1, fl27_0, fl27_1, el22, el23, un3, S1_fw, U1_fw, h3, h4, h5] <;> rfl) ?_
              exact ⟨_, by rw [decide_eq_false h4, decide_eq_true h5, Bool.and_false, Bool.false_or, Bool.true_and], rfl, rfl, rfl⟩
            · refine awp_run rfl (by simp only [fwA, ↓reduceIte, Nat.reduceAdd, Nat.reduceMul, Nat.reduceEqDiff, Nat.reduceLT, Nat.reduceLeDiff, reduceCtorEq, bitfw, Int.reduceToNat, Int.reduceLE, Int.reduceEq, Int.reduceNeg, List.length_map, List.getElem?_map, Option.map_some, Int.natCast_nonneg, Int.toNat_natCast, decide_true, decide_false, Bool.and_true, Bool.and_self, Bool.not_true, Bool.not_false, Bool.false_and, Bool.true_and, ne_eq, not_true_eq_false, not_false_eq_true, beq_self_eq_true, un9, un21, un22, un23, un5, un50, un4, ti9, ti22, ti23, ti50, ti25, ti27, pl25, pl27, fl25_0, fl25_1, fl27_0, fl27_1, el22, el23, un3, S1_fw, U1_fw, h3, h4, h5] <;> rfl) ?_
              exact ⟨_, by rw [decide_eq_false h4, decide_eq_false h5, Bool.and_false, Bool.false_or, Bool.false_and], rfl, rfl, rfl⟩
        · by_cases h5 : (65 : Int) ≤ (c.toNat : Int)
          · refine awp_run rfl (by simp only [fwA, ↓reduceIte, Nat.reduceAdd, Nat.reduceMul, Nat.reduceEqDiff, Nat.reduceLT, Nat.reduceLeDiff, reduceCtorEq, bitfw, Int.reduceToNat, Int.reduceLE, Int.reduceEq, Int.reduceNeg, List.length_map, List.getElem?_map, Option.map_some, Int.natCast_nonneg, Int.toNat_natCast, decide_true, decide_false, Bool.and_true, Bool.and_self, Bool.not_true, Bool.not_false, Bool.false_and, Bool.true_and, ne_eq, not_true_eq_false, not_false_eq_true, beq_self_eq_true, un9, un21, un22, un23, un5, un50, un4, ti9, ti22, ti23, ti50, ti25, ti27, pl25, pl27, fl25_0, fl25_1, fl27_0, fl27_1, el22, el23, un3, S1_fw, U1_fw, h3, h5] <;> rfl) ?_
            exact ⟨_, by rw [decide_eq_false h3, decide_eq_true h5, Bool.false_and, Bool.false_or, Bool.true_and], rfl, rfl, rfl⟩
          · refine awp_run rfl (by simp only [fwA, ↓reduceIte, Nat.reduceAdd, Nat.reduceMul, Nat.reduceEqDiff, Nat.reduceLT, Nat.reduceLeDiff, reduceCtorEq, bitfw, Int.reduceToNat, Int.reduceLE, Int.reduceEq, Int.reduceNeg, List.length_map, List.getElem?_map, Option.map_some, Int.natCast_nonneg, Int.toNat_natCast, decide_true, decide_false, Bool.and_true, Bool.and_self, Bool.not_true, Bool.not_false, Bool.false_and, Bool.true_and, ne_eq, not_true_eq_false, not_false_eq_true, beq_self_eq_true, un9, un21, un22, un23, un5, un50, un4, ti9, ti22, ti23, ti50, ti25, ti27, pl25, pl27, fl25_0, fl25_1, fl27_0, fl27_1, el22, el23, un3, S1_fw, U1_fw, h3, h5] <;> rfl) ?_
            exact ⟨_, by rw [decide_eq_false h3, decide_eq_false h5, Bool.false_and, Bool.false_or, Bool.false_and], rfl, rfl, rfl⟩
      subst hl
      cases F with
      | false =>
        refine awp_run rfl (by simp only [fwA, ↓reduceIte, Nat.reduceAdd, Nat.reduceMul, Nat.reduceEqDiff, Nat.reduceLT, Nat.reduceLeDiff, reduceCtorEq, bitfw, Int.reduceToNat, Int.reduceLE, Int.reduceEq, Int.reduceNeg, List.length_map, List.getElem?_map, Option.map_some, Int.natCast_nonneg, Int.toNat_natCast, decide_true, decide_false, Bool.and_true, Bool.and_self, Bool.not_true, Bool.not_false, Bool.false_and, Bool.true_and, ne_eq, not_true_eq_false, not_false_eq_true, beq_self_eq_true, un9, un21, un22, un23, un5, un50, un4, ti9, ti22, ti23, ti50, ti25, ti27, pl25, pl27, fl25_0, fl25_1, fl27_0, fl27_1, el22, el23, un3, S1_fw, U1_fw] <;> rfl) ?_
        exact ⟨_, rfl, rfl, rfl, rfl⟩
      | true =>
        unfold chB
        cases hL : letB c with
        | true =>
          refine awp_run rfl (by simp only [fwA, ↓reduceIte, Nat.reduceAdd, Nat.reduceMul, Nat.reduceEqDiff, Nat.reduceLT, Nat.reduceLeDiff, reduceCtorEq, bitfw, Int.reduceToNat, Int.reduceLE, Int.reduceEq, Int.reduceNeg, List.length_map, List.getElem?_map, Option.map_some, Int.natCast_nonneg, Int.toNat_natCast, decide_true, decide_false, Bool.and_true, Bool.and_self, Bool.not_true, Bool.not_false, Bool.false_and, Bool.true_and, ne_eq, not_true_eq_false, not_false_eq_true, beq_self_eq_true, un9, un21, un22, un23, un5, un50, un4, ti9, ti22, ti23, ti50, ti25, ti27, pl25, pl27, fl25_0, fl25_1, fl27_0, fl27_1, el22, el23, un3, S1_fw, U1_fw] <;> rfl) ?_
          exact ⟨_, rfl, rfl, rfl, rfl⟩
        | false =>
          by_cases h0 : (0 : Int) < (i : Int)
          · have h0' : decide (0 < i) = true := decide_eq_true (by omega)
            rw [h0', hdg]
            by_cases h5 : (48 : Int) ≤ (c.toNat : Int)
            · refine awp_run rfl (by simp only [fwA, ↓reduceIte, Nat.reduceAdd, Nat.reduceMul, Nat.reduceEqDiff, Nat.reduceLT, Nat.reduceLeDiff, reduceCtorEq, bitfw, Int.reduceToNat, Int.reduceLE, Int.reduceEq, Int.reduceNeg, List.length_map, List.getElem?_map, Option.map_some, Int.natCast_nonneg, Int.toNat_natCast, decide_true, decide_false, Bool.and_true, Bool.and_self, Bool.not_true, Bool.not_false, Bool.false_and, Bool.true_and, ne_eq, not_true_eq_false, not_false_eq_true, beq_self_eq_true, un9, un21, un22, un23, un5, un50, un4, ti9, ti22, ti23, ti50, ti25, ti27, pl25, pl27, fl25_0, fl25_1, fl27_0, fl27_1, el22, el23, un3, S1_fw, U1_fw, h0, h5] <;> rfl) ?_
              exact ⟨_, by rw [decide_eq_true h5]; simp, rfl, rfl, rfl⟩
            · refine awp_run rfl (by simp only [fwA, ↓reduceIte, Nat.reduceAdd, Nat.reduceMul, Nat.reduceEqDiff, Nat.reduceLT, Nat.reduceLeDiff, reduceCtorEq, bitfw, Int.reduceToNat, Int.reduceLE, Int.reduceEq, Int.reduceNeg, List.length_map, List.getElem?_map, Option.map_some, Int.natCast_nonneg, Int.toNat_natCast, decide_true, decide_false, Bool.and_true, Bool.and_self, Bool.not_true, Bool.not_false, Bool.false_and, Bool.true_and, ne_eq, not_true_eq_false, not_false_eq_true, beq_self_eq_true, un9, un21, un22, un23, un5, un50, un4, ti9, ti22, ti23, ti50, ti25, ti27, pl25, pl27, fl25_0, fl25_1, fl27_0, fl27_1, el22, el23, un3, S1_fw, U1_fw, h0, h5] <;> rfl) ?_
              exact ⟨_, by rw [decide_eq_false h5]; simp, rfl, rfl, rfl⟩
          · have h0' : decide (0 < i) = false := decide_eq_false (by omega)
            rw [h0']
            refine awp_run rfl (by simp only [fwA, ↓reduceIte, Nat.reduceAdd, Nat.reduceMul, Nat.reduceEqDiff, Nat.reduceLT, Nat.reduceLeDiff, reduceCtorEq, bitfw, Int.reduceToNat, Int.reduceLE, Int.reduceEq, Int.reduceNeg, List.length_map, List.getElem?_map, Option.map_some, Int.natCast_nonneg, Int.toNat_natCast, decide_true, decide_false, Bool.and_true, Bool.and_self, Bool.not_true, Bool.not_false, Bool.false_and, Bool.true_and, ne_eq, not_true_eq_false, not_false_eq_true, beq_self_eq_true, un9, un21, un22, un23, un5, un50, un4, ti9, ti22, ti23, ti50, ti25, ti27, pl25, pl27, fl25_0, fl25_1, fl27_0, fl27_1, el22, el23, un3, S1_fw, U1_fw, h0] <;> rfl) ?_
            exact ⟨_, by simp, rfl, rfl, rfl⟩
    subst hl
    refine awp_run rfl (by simp only [fwA, ↓reduceIte, Nat.reduceAdd, Nat.reduceMul, Nat.reduceEqDiff, Nat.reduceLT, Nat.reduceLeDiff, reduceCtorEq] <;> rfl) ?_
    refine ⟨i + 1, by omega, by omega, ?_, rfl, rfl⟩
    rw [hst2]
    simp only [fwA, ↓reduceIte, Nat.reduceAdd, Nat.reduceMul, Nat.reduceEqDiff, Nat.reduceLT, Nat.reduceLeDiff, reduceCtorEq, List.map_cons, List.map_nil, hwi]
  simp only [hc, decide_false, Bool.false_eq_true, ↓reduceIte]
  refine awp_exit ?_
  have e3 : i = s.length := by omega
  rw [e3]
  have e4 : (d && chsB s s.length) = nameB s := by rw [hd]; rfl
  rw [e4]
  refine awp_seq ?_
  refine awp_seq ?_
  refine awp_region rfl ?_
  refine aops_run 1 (by simp only [fwA, ↓reduceIte, Nat.reduceAdd, Nat.reduceMul, Nat.reduceEqDiff, Nat.reduceLT, Nat.reduceLeDiff, reduceCtorEq, bitfw, Int.reduceToNat, Int.reduceLE, Int.reduceEq, Int.reduceNeg, List.length_map, List.getElem?_map, Option.map_some, Int.natCast_nonneg, Int.toNat_natCast, decide_true, decide_false, Bool.and_true, Bool.and_self, Bool.not_true, Bool.not_false, Bool.false_and, Bool.true_and, ne_eq, not_true_eq_false, not_false_eq_true, beq_self_eq_true, un9, un21, un22, un23, un5, un50, un4, ti9, ti22, ti23, ti50, ti25, ti27, pl25, pl27, fl25_0, fl25_1, fl27_0, fl27_1, el22, el23, un3, S1_fw, U1_fw, bne_self_eq_false] <;> rfl) ?_
  refine aops_fn rfl rfl rfl en19 h19 ?_
  refine aops_run 2 (by simp only [fwA, ↓reduceIte, Nat.reduceAdd, Nat.reduceMul, Nat.reduceEqDiff, Nat.reduceLT, Nat.reduceLeDiff, reduceCtorEq, bitfw, Int.reduceToNat, Int.reduceLE, Int.reduceEq, Int.reduceNeg, List.length_map, List.getElem?_map, Option.map_some, Int.natCast_nonneg, Int.toNat_natCast, decide_true, decide_false, Bool.and_true, Bool.and_self, Bool.not_true, Bool.not_false, Bool.false_and, Bool.true_and, ne_eq, not_true_eq_false, not_false_eq_true, beq_self_eq_true, un9, un21, un22, un23, un5, un50, un4, ti9, ti22, ti23, ti50, ti25, ti27, pl25, pl27, fl25_0, fl25_1, fl27_0, fl27_1, el22, el23, un3, S1_fw, U1_fw, bne_self_eq_false] <;> rfl) ?_
  refine aops_end ?_
  refine awp_cond (b := false) (by simp [alook, aput, ev]) (awp_skip ?_)
  refine awp_seq ?_
  refine awp_seq ?_
  cases hR : rightB ns us
  · rw [hR] at h15
    refine awp_region rfl ?_
    refine aops_run 1 (by simp only [fwA, ↓reduceIte, Nat.reduceAdd, Nat.reduceMul, Nat.reduceEqDiff, Nat.reduceLT, Nat.reduceLeDiff, reduceCtorEq, bitfw, Int.reduceToNat, Int.reduceLE, Int.reduceEq, Int.reduceNeg, List.length_map, List.getElem?_map, Option.map_some, Int.natCast_nonneg, Int.toNat_natCast, decide_true, decide_false, Bool.and_true, Bool.and_self, Bool.not_true, Bool.not_false, Bool.false_and, Bool.true_and, ne_eq, not_true_eq_false, not_false_eq_true, beq_self_eq_true, un9, un21, un22, un23, un5, un50, un4, ti9, ti22, ti23, ti50, ti25, ti27, pl25, pl27, fl25_0, fl25_1, fl27_0, fl27_1, el22, el23, un3, S1_fw, U1_fw, hK0] <;> rfl) ?_
    refine aops_fn rfl rfl rfl en15 h15 ?_
    refine aops_run 1 (by simp only [fwA, ↓reduceIte, Nat.reduceAdd, Nat.reduceMul, Nat.reduceEqDiff, Nat.reduceLT, Nat.reduceLeDiff, reduceCtorEq, bitfw, Int.reduceToNat, Int.reduceLE, Int.reduceEq, Int.reduceNeg, List.length_map, List.getElem?_map, Option.map_some, Int.natCast_nonneg, Int.toNat_natCast, decide_true, decide_false, Bool.and_true, Bool.and_self, Bool.not_true, Bool.not_false, Bool.false_and, Bool.true_and, ne_eq, not_true_eq_false, not_false_eq_true, beq_self_eq_true, un9, un21, un22, un23, un5, un50, un4, ti9, ti22, ti23, ti50, ti25, ti27, pl25, pl27, fl25_0, fl25_1, fl27_0, fl27_1, el22, el23, un3, S1_fw, U1_fw, hK0] <;> rfl) ?_
    refine aops_end ?_
    refine awp_cond (b := true) (by simp [alook, aput, ev]) ?_
    refine awp_seq ?_
    refine awp_run rfl (by simp only [fwA, ↓reduceIte, Nat.reduceAdd, Nat.reduceMul, Nat.reduceEqDiff, Nat.reduceLT, Nat.reduceLeDiff, reduceCtorEq] <;> rfl) ?_
    refine awp_ret ?_
    exact hend _ rfl
  rw [hR] at h15
  obtain ⟨r1, r2, r3, r4, r5⟩ := right_spec hR
  have hp := r5.pos
  have hn0 : ¬ ((ns.length : Int) = 0) := by omega
  have hwa : IntKind.i64.wrap a = a := wrapId ⟨by omega, by omega⟩
  have hta := tmod_nat (n := ns.length) ha0
  have hx : a.toNat % ns.length < ns.length := Nat.mod_lt _ (by omega)
  generalize a.toNat % ns.length = x at *
  have gx : ns[x]? = some ns[x] := List.getElem?_eq_getElem hx
  generalize ns[x] = t at gx
  obtain ⟨n1, n2⟩ := named_spec r3 gx
  have h21 := c21 Γ ns us t
  rw [n2] at h21
  have h21b := c21 Γ ns us []
  rw [idxS_none (fun j hj e => by have := (named_spec r3 e).1; revert this; decide)] at h21b
  have h19b := c19 Γ t
  rw [n1] at h19b
  refine awp_region rfl ?_
  refine aops_run 1 (by simp only [fwA, ↓reduceIte, Nat.reduceAdd, Nat.reduceMul, Nat.reduceEqDiff, Nat.reduceLT, Nat.reduceLeDiff, reduceCtorEq, bitfw, Int.reduceToNat, Int.reduceLE, Int.reduceEq, Int.reduceNeg, List.length_map, List.getElem?_map, Option.map_some, Int.natCast_nonneg, Int.toNat_natCast, decide_true, decide_false, Bool.and_true, Bool.and_self, Bool.not_true, Bool.not_false, Bool.false_and, Bool.true_and, ne_eq, not_true_eq_false, not_false_eq_true, beq_self_eq_true, un9, un21, un22, un23, un5, un50, un4, ti9, ti22, ti23, ti50, ti25, ti27, pl25, pl27, fl25_0, fl25_1, fl27_0, fl27_1, el22, el23, un3, S1_fw, U1_fw, hK0] <;> rfl) ?_
  refine aops_fn rfl rfl rfl en15 h15 ?_
  refine aops_run 1 (by simp only [fwA, ↓reduceIte, Nat.reduceAdd, Nat.reduceMul, Nat.reduceEqDiff, Nat.reduceLT, Nat.reduceLeDiff, reduceCtorEq, bitfw, Int.reduceToNat, Int.reduceLE, Int.reduceEq, Int.reduceNeg, List.length_map, List.getElem?_map, Option.map_some, Int.natCast_nonneg, Int.toNat_natCast, decide_true, decide_false, Bool.and_true, Bool.and_self, Bool.not_true, Bool.not_false, Bool.false_and, Bool.true_and, ne_eq, not_true_eq_false, not_false_eq_true, beq_self_eq_true, un9, un21, un22, un23, un5, un50, un4, ti9, ti22, ti23, ti50, ti25, ti27, pl25, pl27, fl25_0, fl25_1, fl27_0, fl27_1, el22, el23, un3, S1_fw, U1_fw, hK0] <;> rfl) ?_
  refine aops_end ?_
  refine awp_cond (b := false) (by simp [alook, aput, ev]) (awp_skip ?_)
  refine awp_seq ?_
  refine awp_run rfl (by simp only [fwA, ↓reduceIte, Nat.reduceAdd, Nat.reduceMul, Nat.reduceEqDiff, Nat.reduceLT, Nat.reduceLeDiff, reduceCtorEq, bitfw, Int.reduceToNat, Int.reduceLE, Int.reduceEq, Int.reduceNeg, List.length_map, List.getElem?_map, Option.map_some, Int.natCast_nonneg, Int.toNat_natCast, decide_true, decide_false, Bool.and_true, Bool.and_self, Bool.not_true, Bool.not_false, Bool.false_and, Bool.true_and, ne_eq, not_true_eq_false, not_false_eq_true, beq_self_eq_true, un9, un21, un22, un23, un5, un50, un4, ti9, ti22, ti23, ti50, ti25, ti27, pl25, pl27, fl25_0, fl25_1, fl27_0, fl27_1, el22, el23, un3, S1_fw, U1_fw, hK0, hwa, hta, hn0] <;> rfl) ?_
  refine awp_seq ?_
  refine awp_drawn [0, 0, 1, 0, 1, 0, 0, 1, 0, 0, 0, 0, 0, 1, 0, 0, 0, 0, 0, 1, 0, 0, 1, 0, 0, 0] [0, 1, 3, 3, 11, 3, 59, 123, 255, 3, 1023, 2047, 4095, 8191, 16383, 32767, 65535, 131071, 262143, 524287, 262143, 2097151, 4194303, 8388607, 16777215, 33554431] mixed rfl (by kernel_rfl) ?_
  refine dops_run 8 (by simp only [fwA, ↓reduceIte, Nat.reduceAdd, Nat.reduceMul, Nat.reduceEqDiff, Nat.reduceLT, Nat.reduceLeDiff, reduceCtorEq, bitfw, Int.reduceToNat, Int.reduceLE, Int.reduceEq, Int.reduceNeg, List.length_map, List.getElem?_map, Option.map_some, Int.natCast_nonneg, Int.toNat_natCast, decide_true, decide_false, Bool.and_true, Bool.and_self, Bool.not_true, Bool.not_false, Bool.false_and, Bool.true_and, ne_eq, not_true_eq_false, not_false_eq_true, beq_self_eq_true, un9, un21, un22, un23, un5, un50, un4, ti9, ti22, ti23, ti50, ti25, ti27, pl25, pl27, fl25_0, fl25_1, fl27_0, fl27_1, el22, el23, un3, S1_fw, U1_fw, hK0, gx] <;> rfl) ?_
  refine dops_fn rfl (by simp only [fwA, ↓reduceIte, Nat.reduceAdd, Nat.reduceMul, Nat.reduceEqDiff, Nat.reduceLT, Nat.reduceLeDiff, reduceCtorEq] <;> rfl) rfl rfl en21 h21 ?_
  refine dops_run 5 (by simp only [fwA, ↓reduceIte, Nat.reduceAdd, Nat.reduceMul, Nat.reduceEqDiff, Nat.reduceLT, Nat.reduceLeDiff, reduceCtorEq, bitfw, Int.reduceToNat, Int.reduceLE, Int.reduceEq, Int.reduceNeg, List.length_map, List.getElem?_map, Option.map_some, Int.natCast_nonneg, Int.toNat_natCast, decide_true, decide_false, Bool.and_true, Bool.and_self, Bool.not_true, Bool.not_false, Bool.false_and, Bool.true_and, ne_eq, not_true_eq_false, not_false_eq_true, beq_self_eq_true, un9, un21, un22, un23, un5, un50, un4, ti9, ti22, ti23, ti50, ti25, ti27, pl25, pl27, fl25_0, fl25_1, fl27_0, fl27_1, el22, el23, un3, S1_fw, U1_fw, hK0, gx] <;> rfl) ?_
  refine dops_fn rfl (by simp only [fwA, ↓reduceIte, Nat.reduceAdd, Nat.reduceMul, Nat.reduceEqDiff, Nat.reduceLT, Nat.reduceLeDiff, reduceCtorEq] <;> rfl) rfl rfl en21 h21b ?_
  refine dops_run 8 (by simp only [fwA, ↓reduceIte, Nat.reduceAdd, Nat.reduceMul, Nat.reduceEqDiff, Nat.reduceLT, Nat.reduceLeDiff, reduceCtorEq, bitfw, Int.reduceToNat, Int.reduceLE, Int.reduceEq, Int.reduceNeg, List.length_map, List.getElem?_map, Option.map_some, Int.natCast_nonneg, Int.toNat_natCast, decide_true, decide_false, Bool.and_true, Bool.and_self, Bool.not_true, Bool.not_false, Bool.false_and, Bool.true_and, ne_eq, not_true_eq_false, not_false_eq_true, beq_self_eq_true, un9, un21, un22, un23, un5, un50, un4, ti9, ti22, ti23, ti50, ti25, ti27, pl25, pl27, fl25_0, fl25_1, fl27_0, fl27_1, el22, el23, un3, S1_fw, U1_fw, hK0, gx] <;> rfl) ?_
  refine dops_fn rfl (by simp only [fwA, ↓reduceIte, Nat.reduceAdd, Nat.reduceMul, Nat.reduceEqDiff, Nat.reduceLT, Nat.reduceLeDiff, reduceCtorEq] <;> rfl) rfl rfl en19 h19b ?_
  refine dops_run 2 (by simp only [fwA, ↓reduceIte, Nat.reduceAdd, Nat.reduceMul, Nat.reduceEqDiff, Nat.reduceLT, Nat.reduceLeDiff, reduceCtorEq, bitfw, Int.reduceToNat, Int.reduceLE, Int.reduceEq, Int.reduceNeg, List.length_map, List.getElem?_map, Option.map_some, Int.natCast_nonneg, Int.toNat_natCast, decide_true, decide_false, Bool.and_true, Bool.and_self, Bool.not_true, Bool.not_false, Bool.false_and, Bool.true_and, ne_eq, not_true_eq_false, not_false_eq_true, beq_self_eq_true, un9, un21, un22, un23, un5, un50, un4, ti9, ti22, ti23, ti50, ti25, ti27, pl25, pl27, fl25_0, fl25_1, fl27_0, fl27_1, el22, el23, un3, S1_fw, U1_fw, hK0, gx] <;> rfl) ?_
  refine dops_end ?_
  refine awp_ret ?_
  exact hend _ rfl

end Go.Proofs.YtdhlghhokbmhdaaDoor
