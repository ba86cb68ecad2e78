/- The law on what is printed and parsed. -/
import Derived.Test.YtdhlghhokbmhdaaDoorT01e
namespace Go.Proofs.YtdhlghhokbmhdaaDoor
set_option linter.unusedVariables false
set_option linter.unusedSimpArgs false
set_option maxRecDepth 100000
open Go.RowKit Fw

theorem print_nil : printL [] [] = [] := by
  unfold printL
  rw [if_neg (by decide)]
set_option maxHeartbeats 8000000 in
/-- LatBack -/
theorem c7 (Γ : Nat → PV) (hT : Tab Γ) (ns : List (List UInt8)) (us : List Nat) (hw : W64 us) (text : List UInt8) (ht : text.length < 4000000000) : Gives Tryd.prog Γ 7 [.agg [.vec (ns.map S1) false, .vec (us.map U1) false], .str text] (.bool true) := by
  obtain ⟨hΓ, hM⟩ := id hT
  have h10 := c10 Γ hT
  have h15 := c15 Γ hΓ ns us hw
  have h31 := c31 Γ hΓ ns us hw
  have hpl := print_len ns us
  have h12 := c12 Γ hΓ hM (printL ns us) (by omega)
  have h12t := c12 Γ hΓ hM text ht
  refine fn_of_awp Tryd.func7 rfl (by simp [Tryd.f7]) rfl fun H => ?_
  refine awp_seq ?_
  refine awp_run rfl (by simp only [fwA, ↓reduceIte, Nat.reduceAdd, Nat.reduceMul, Nat.reduceEqDiff, Nat.reduceLT, Nat.reduceLeDiff, reduceCtorEq] <;> rfl) ?_
  have hK0 : (H ++ [Blk.box [.vec (ns.map S1) false, .vec (us.map U1) false]])[H.length]? = some (.box [.vec (ns.map S1) false, .vec (us.map U1) false]) := by rw [Fw.get_at0]; rfl
  have hL : (H ++ [Blk.box [.vec (ns.map S1) false, .vec (us.map U1) false]]).length = H.length + 1 := by simp
  have hpre : ∃ L, H ++ [Blk.box [.vec (ns.map S1) false, .vec (us.map U1) false]] = H ++ L := ⟨_, rfl⟩
  generalize hK : H ++ [Blk.box [.vec (ns.map S1) false, .vec (us.map U1) false]] = K at hK0 hL hpre ⊢
  have hK1 : ∀ L : List Blk, (K ++ L)[H.length]? = some (.box [.vec (ns.map S1) false, .vec (us.map U1) false]) := fun L => by rw [List.getElem?_append_left (by omega)]; exact hK0
  have hfin : ∀ (A' : List (Nat × PV)) (K2 : List Blk), (∃ L, K2 = H ++ L) → alook A' 4 = .bool true → ((Exit.ret = .ret ∨ Exit.ret = .normal) ∧ ([] : List Nat).Nodup ∧ (∀ b ∈ ([] : List Nat), K2[b]? = some .dfr ∧ H.length ≤ b) ∧ ares Tryd.prog Γ A' K2 Tryd.f7.results.toList = some (.bool true) ∧ ∃ L', K2 = H ++ L') := fun A' K2 hK2 hv => by
    obtain ⟨L, rfl⟩ := hK2
    exact gives_end (.inl rfl) _ (by simp [ares, aresL, ares1, Tryd.f7, hv])
  refine awp_seq ?_
  refine awp_region rfl ?_
  refine aops_fn rfl rfl rfl en10 h10 ?_
  refine aops_run 1 (by simp only [fwA, ↓reduceIte, Nat.reduceAdd, Nat.reduceMul, Nat.reduceEqDiff, Nat.reduceLT, Nat.reduceLeDiff, reduceCtorEq, bitfw, Int.reduceToNat, Int.reduceLE, Int.reduceEq, Int.reduceNeg, List.length_map, List.getElem?_map, Option.map_some, Int.natCast_nonneg, Int.toNat_natCast, decide_true, decide_false, Bool.and_true, Bool.and_self, Bool.not_true, Bool.not_false, Bool.false_and, Bool.true_and, ne_eq, not_true_eq_false, not_false_eq_true, beq_self_eq_true, un9, un21, un22, un23, un5, un50, un4, ti9, ti22, ti23, ti50, ti25, ti27, pl25, pl27, fl25_0, fl25_1, fl27_0, fl27_1, el22, el23, un3, S1_fw, U1_fw] <;> rfl) ?_
  refine aops_end ?_
  refine awp_seq ?_
  refine awp_seq ?_
  refine awp_run rfl (by simp only [fwA, ↓reduceIte, Nat.reduceAdd, Nat.reduceMul, Nat.reduceEqDiff, Nat.reduceLT, Nat.reduceLeDiff, reduceCtorEq] <;> rfl) ?_
  refine awp_cond (b := false) (by simp [alook, aput, ev]) (awp_skip ?_)
  have hpm : rightB ns us = true → parseL (printL ns us) = (ns, us, 0) := parse_print
  unfold parseV at h12
  generalize parseL (printL ns us) = pm at h12 hpm
  obtain ⟨mn, mu, me⟩ := pm
  simp only at h12
  refine awp_seq ?_
  refine awp_region rfl ?_
  refine aops_run 1 (by simp only [fwA, ↓reduceIte, Nat.reduceAdd, Nat.reduceMul, Nat.reduceEqDiff, Nat.reduceLT, Nat.reduceLeDiff, reduceCtorEq, bitfw, Int.reduceToNat, Int.reduceLE, Int.reduceEq, Int.reduceNeg, List.length_map, List.getElem?_map, Option.map_some, Int.natCast_nonneg, Int.toNat_natCast, decide_true, decide_false, Bool.and_true, Bool.and_self, Bool.not_true, Bool.not_false, Bool.false_and, Bool.true_and, ne_eq, not_true_eq_false, not_false_eq_true, beq_self_eq_true, un9, un21, un22, un23, un5, un50, un4, ti9, ti22, ti23, ti50, ti25, ti27, pl25, pl27, fl25_0, fl25_1, fl27_0, fl27_1, el22, el23, un3, S1_fw, U1_fw, hK0] <;> rfl) ?_
  refine aops_fn rfl rfl rfl en31 h31 ?_
  refine aops_fn rfl rfl rfl en12 h12 ?_
  refine aops_run 6 (by simp only [fwA, ↓reduceIte, Nat.reduceAdd, Nat.reduceMul, Nat.reduceEqDiff, Nat.reduceLT, Nat.reduceLeDiff, reduceCtorEq, bitfw, Int.reduceToNat, Int.reduceLE, Int.reduceEq, Int.reduceNeg, List.length_map, List.getElem?_map, Option.map_some, Int.natCast_nonneg, Int.toNat_natCast, decide_true, decide_false, Bool.and_true, Bool.and_self, Bool.not_true, Bool.not_false, Bool.false_and, Bool.true_and, ne_eq, not_true_eq_false, not_false_eq_true, beq_self_eq_true, un9, un21, un22, un23, un5, un50, un4, ti9, ti22, ti23, ti50, ti25, ti27, pl25, pl27, fl25_0, fl25_1, fl27_0, fl27_1, el22, el23, un3, S1_fw, U1_fw, hK0] <;> rfl) ?_
  refine aops_end ?_
  refine awp_join [1, 2, 5] (fun _ : Unit => [.str text, .ptr H.length 0, .bool true]) (fun _ => K ++ [.box [.vec (mn.map S1) false, .vec (mu.map U1) false]]) (fun _ => True) ?_ fun _ _ => ?_
  · cases hR : rightB ns us
    · rw [hR] at h15
      refine awp_seq ?_
      refine awp_region rfl ?_
      refine aops_run 1 (by simp only [fwA, ↓reduceIte, Nat.reduceAdd, Nat.reduceMul, Nat.reduceEqDiff, Nat.reduceLT, Nat.reduceLeDiff, reduceCtorEq, bitfw, Int.reduceToNat, Int.reduceLE, Int.reduceEq, Int.reduceNeg, List.length_map, List.getElem?_map, Option.map_some, Int.natCast_nonneg, Int.toNat_natCast, decide_true, decide_false, Bool.and_true, Bool.and_self, Bool.not_true, Bool.not_false, Bool.false_and, Bool.true_and, ne_eq, not_true_eq_false, not_false_eq_true, beq_self_eq_true, un9, un21, un22, un23, un5, un50, un4, ti9, ti22, ti23, ti50, ti25, ti27, pl25, pl27, fl25_0, fl25_1, fl27_0, fl27_1, el22, el23, un3, S1_fw, U1_fw, hK1] <;> rfl) ?_
      refine aops_fn rfl rfl rfl en15 h15 ?_
      refine aops_end ?_
      refine awp_cond (b := false) (by simp [alook, aput, ev]) (awp_skip ?_)
      exact ⟨(), trivial, rfl, rfl, rfl⟩
    rw [hR] at h15
    have hpm2 := hpm hR
    obtain ⟨rfl, rfl, rfl⟩ : mn = ns ∧ mu = us ∧ me = 0 := by simpa using hpm2
    obtain ⟨r1, r2, r3, r4, r5⟩ := right_spec hR
    refine awp_seq ?_
    refine awp_region rfl ?_
    refine aops_run 1 (by simp only [fwA, ↓reduceIte, Nat.reduceAdd, Nat.reduceMul, Nat.reduceEqDiff, Nat.reduceLT, Nat.reduceLeDiff, reduceCtorEq, bitfw, Int.reduceToNat, Int.reduceLE, Int.reduceEq, Int.reduceNeg, List.length_map, List.getElem?_map, Option.map_some, Int.natCast_nonneg, Int.toNat_natCast, decide_true, decide_false, Bool.and_true, Bool.and_self, Bool.not_true, Bool.not_false, Bool.false_and, Bool.true_and, ne_eq, not_true_eq_false, not_false_eq_true, beq_self_eq_true, un9, un21, un22, un23, un5, un50, un4, ti9, ti22, ti23, ti50, ti25, ti27, pl25, pl27, fl25_0, fl25_1, fl27_0, fl27_1, el22, el23, un3, S1_fw, U1_fw, hK1] <;> rfl) ?_
    refine aops_fn rfl rfl rfl en15 h15 ?_
    refine aops_end ?_
    refine awp_cond (b := true) (by simp [alook, aput, ev]) ?_
    refine awp_seq ?_
    refine awp_seq ?_
    refine awp_run rfl (by simp only [fwA, ↓reduceIte, Nat.reduceAdd, Nat.reduceMul, Nat.reduceEqDiff, Nat.reduceLT, Nat.reduceLeDiff, reduceCtorEq, bitfw, Int.reduceToNat, Int.reduceLE, Int.reduceEq, Int.reduceNeg, List.length_map, List.getElem?_map, Option.map_some, Int.natCast_nonneg, Int.toNat_natCast, decide_true, decide_false, Bool.and_true, Bool.and_self, Bool.not_true, Bool.not_false, Bool.false_and, Bool.true_and, ne_eq, not_true_eq_false, not_false_eq_true, beq_self_eq_true, un9, un21, un22, un23, un5, un50, un4, ti9, ti22, ti23, ti50, ti25, ti27, pl25, pl27, fl25_0, fl25_1, fl27_0, fl27_1, el22, el23, un3, S1_fw, U1_fw, hK1, bne_self_eq_false] <;> rfl) ?_
    refine awp_cond (b := false) (by simp [alook, aput, ev]) (awp_skip ?_)
    refine awp_seq ?_
    refine awp_run rfl (by simp only [fwA, ↓reduceIte, Nat.reduceAdd, Nat.reduceMul, Nat.reduceEqDiff, Nat.reduceLT, Nat.reduceLeDiff, reduceCtorEq] <;> rfl) ?_
    refine awp_block ?_
    refine awp_for [1, 2, 5, 6, 8] (fun i : Nat => [.str text, .ptr H.length 0, .bool true, .ptr K.length 0, .int .i64 (i : Int)]) (fun _ => K ++ [.box [.vec (mn.map S1) false, .vec (mu.map U1) false]]) (fun i => mu.length - i) (fun i => i ≤ mu.length) 0 rfl rfl (Nat.zero_le _) fun i hil => ?_
    refine awp_seq ?_
    refine awp_seq ?_
    refine awp_run rfl (by simp only [fwA, ↓reduceIte, Nat.reduceAdd, Nat.reduceMul, Nat.reduceEqDiff, Nat.reduceLT, Nat.reduceLeDiff, reduceCtorEq, bitfw, Int.reduceToNat, Int.reduceLE, Int.reduceEq, Int.reduceNeg, List.length_map, List.getElem?_map, Option.map_some, Int.natCast_nonneg, Int.toNat_natCast, decide_true, decide_false, Bool.and_true, Bool.and_self, Bool.not_true, Bool.not_false, Bool.false_and, Bool.true_and, ne_eq, not_true_eq_false, not_false_eq_true, beq_self_eq_true, un9, un21, un22, un23, un5, un50, un4, ti9, ti22, ti23, ti50, ti25, ti27, pl25, pl27, fl25_0, fl25_1, fl27_0, fl27_1, el22, el23, un3, S1_fw, U1_fw, hK1] <;> rfl) ?_
    refine awp_cond (by simp only [fwA, ↓reduceIte, Nat.reduceAdd, Nat.reduceMul, Nat.reduceEqDiff, Nat.reduceLT, Nat.reduceLeDiff, reduceCtorEq] <;> rfl) ?_
    by_cases hc : (i : Int) < mu.length
    · simp only [hc, decide_true, ↓reduceIte]
      refine awp_skip ?_
      have hi : i < mu.length := by omega
      have hin : i < mn.length := by omega
      have hwi : IntKind.i64.wrap ((i : Int) + 1) = ((i + 1 : Nat) : Int) := wrapS i (by omega)
      have gs : mn[i]? = some mn[i] := List.getElem?_eq_getElem hin
      have gu : mu[i]? = some mu[i] := List.getElem?_eq_getElem hi
      generalize mn[i] = s at gs
      generalize mu[i] = u at gu
      refine awp_seq ?_
      refine awp_block ?_
      refine awp_seq ?_
      refine awp_drun [0, 1, 0, 0, 1, 0, 1, 0, 0, 1, 0, 0, 0, 1, 0, 0, 1, 0, 1, 0, 0, 1, 0, 0] [0, 1, 0, 7, 15, 0, 32, 0, 224, 480, 1023, 2047, 4095, 8191, 4095, 32767, 65535, 4095, 135167, 4095, 921599, 1970175, 4194303, 8388607] mixed rfl (by kernel_rfl) (by simp only [fwA, ↓reduceIte, Nat.reduceAdd, Nat.reduceMul, Nat.reduceEqDiff, Nat.reduceLT, Nat.reduceLeDiff, reduceCtorEq, bitfw, Int.reduceToNat, Int.reduceLE, Int.reduceEq, Int.reduceNeg, List.length_map, List.getElem?_map, Option.map_some, Int.natCast_nonneg, Int.toNat_natCast, decide_true, decide_false, Bool.and_true, Bool.and_self, Bool.not_true, Bool.not_false, Bool.false_and, Bool.true_and, ne_eq, not_true_eq_false, not_false_eq_true, beq_self_eq_true, un9, un21, un22, un23, un5, un50, un4, ti9, ti22, ti23, ti50, ti25, ti27, pl25, pl27, fl25_0, fl25_1, fl27_0, fl27_1, el22, el23, un3, S1_fw, U1_fw, hK1, gs, gu, bne_self_eq_false] <;> rfl) ?_
      refine awp_cond (b := false) (by simp [alook, aput, ev]) (awp_skip ?_)
      refine awp_run rfl (by simp only [fwA, ↓reduceIte, Nat.reduceAdd, Nat.reduceMul, Nat.reduceEqDiff, Nat.reduceLT, Nat.reduceLeDiff, reduceCtorEq] <;> rfl) ?_
      exact ⟨i + 1, by omega, by omega, by simp only [fwA, ↓reduceIte, Nat.reduceAdd, Nat.reduceMul, Nat.reduceEqDiff, Nat.reduceLT, Nat.reduceLeDiff, reduceCtorEq, List.map_cons, List.map_nil, hwi], rfl, rfl⟩
    simp only [hc, decide_false, Bool.false_eq_true, ↓reduceIte]
    refine awp_exit ?_
    exact ⟨(), trivial, rfl, rfl, rfl⟩
  have hback := parse_back text
  unfold parseV at h12t
  generalize parseL text = px at h12t hback
  obtain ⟨xn, xu, xe⟩ := px
  simp only at h12t hback
  refine awp_seq ?_
  refine awp_region rfl ?_
  refine aops_run 1 (by simp only [fwA, ↓reduceIte, Nat.reduceAdd, Nat.reduceMul, Nat.reduceEqDiff, Nat.reduceLT, Nat.reduceLeDiff, reduceCtorEq, bitfw, Int.reduceToNat, Int.reduceLE, Int.reduceEq, Int.reduceNeg, List.length_map, List.getElem?_map, Option.map_some, Int.natCast_nonneg, Int.toNat_natCast, decide_true, decide_false, Bool.and_true, Bool.and_self, Bool.not_true, Bool.not_false, Bool.false_and, Bool.true_and, ne_eq, not_true_eq_false, not_false_eq_true, beq_self_eq_true, un9, un21, un22, un23, un5, un50, un4, ti9, ti22, ti23, ti50, ti25, ti27, pl25, pl27, fl25_0, fl25_1, fl27_0, fl27_1, el22, el23, un3, S1_fw, U1_fw] <;> rfl) ?_
  refine aops_fn rfl rfl rfl en12 h12t ?_
  refine aops_run 6 (by simp only [fwA, ↓reduceIte, Nat.reduceAdd, Nat.reduceMul, Nat.reduceEqDiff, Nat.reduceLT, Nat.reduceLeDiff, reduceCtorEq, bitfw, Int.reduceToNat, Int.reduceLE, Int.reduceEq, Int.reduceNeg, List.length_map, List.getElem?_map, Option.map_some, Int.natCast_nonneg, Int.toNat_natCast, decide_true, decide_false, Bool.and_true, Bool.and_self, Bool.not_true, Bool.not_false, Bool.false_and, Bool.true_and, ne_eq, not_true_eq_false, not_false_eq_true, beq_self_eq_true, un9, un21, un22, un23, un5, un50, un4, ti9, ti22, ti23, ti50, ti25, ti27, pl25, pl27, fl25_0, fl25_1, fl27_0, fl27_1, el22, el23, un3, S1_fw, U1_fw] <;> rfl) ?_
  refine aops_end ?_
  refine awp_seq ?_
  refine awp_seq ?_
  rcases hback with ⟨rfl, rfl, b1, b2⟩ | ⟨rfl, b1, b2⟩
  · have h31n := c31 Γ hΓ [] [] (fun x hx => by cases hx)
    rw [print_nil] at h31n
    have hne : ¬ (xe = 0) := by omega
    refine awp_run rfl (by simp only [fwA, ↓reduceIte, Nat.reduceAdd, Nat.reduceMul, Nat.reduceEqDiff, Nat.reduceLT, Nat.reduceLeDiff, reduceCtorEq, bitfw, Int.reduceToNat, Int.reduceLE, Int.reduceEq, Int.reduceNeg, List.length_map, List.getElem?_map, Option.map_some, Int.natCast_nonneg, Int.toNat_natCast, decide_true, decide_false, Bool.and_true, Bool.and_self, Bool.not_true, Bool.not_false, Bool.false_and, Bool.true_and, ne_eq, not_true_eq_false, not_false_eq_true, beq_self_eq_true, un9, un21, un22, un23, un5, un50, un4, ti9, ti22, ti23, ti50, ti25, ti27, pl25, pl27, fl25_0, fl25_1, fl27_0, fl27_1, el22, el23, un3, S1_fw, U1_fw, hne] <;> rfl) ?_
    refine awp_cond (b := false) (by simp [alook, aput, ev]) (awp_skip ?_)
    refine awp_seq ?_
    refine awp_region rfl ?_
    refine aops_run 13 (by simp only [fwA, ↓reduceIte, Nat.reduceAdd, Nat.reduceMul, Nat.reduceEqDiff, Nat.reduceLT, Nat.reduceLeDiff, reduceCtorEq, bitfw, Int.reduceToNat, Int.reduceLE, Int.reduceEq, Int.reduceNeg, List.length_map, List.getElem?_map, Option.map_some, Int.natCast_nonneg, Int.toNat_natCast, decide_true, decide_false, Bool.and_true, Bool.and_self, Bool.not_true, Bool.not_false, Bool.false_and, Bool.true_and, ne_eq, not_true_eq_false, not_false_eq_true, beq_self_eq_true, un9, un21, un22, un23, un5, un50, un4, ti9, ti22, ti23, ti50, ti25, ti27, pl25, pl27, fl25_0, fl25_1, fl27_0, fl27_1, el22, el23, un3, S1_fw, U1_fw, hne] <;> rfl) ?_
    refine aops_run 2 (by simp only [fwA, ↓reduceIte, Nat.reduceAdd, Nat.reduceMul, Nat.reduceEqDiff, Nat.reduceLT, Nat.reduceLeDiff, reduceCtorEq, bitfw, Int.reduceToNat, Int.reduceLE, Int.reduceEq, Int.reduceNeg, List.length_map, List.getElem?_map, Option.map_some, Int.natCast_nonneg, Int.toNat_natCast, decide_true, decide_false, Bool.and_true, Bool.and_self, Bool.not_true, Bool.not_false, Bool.false_and, Bool.true_and, ne_eq, not_true_eq_false, not_false_eq_true, beq_self_eq_true, un9, un21, un22, un23, un5, un50, un4, ti9, ti22, ti23, ti50, ti25, ti27, pl25, pl27, fl25_0, fl25_1, fl27_0, fl27_1, el22, el23, un3, S1_fw, U1_fw, hne] <;> rfl) ?_
    refine aops_fnIf rfl rfl rfl rfl rfl en31 h31n ?_
    refine aops_run 3 (by simp only [fwA, ↓reduceIte, Nat.reduceAdd, Nat.reduceMul, Nat.reduceEqDiff, Nat.reduceLT, Nat.reduceLeDiff, reduceCtorEq, bitfw, Int.reduceToNat, Int.reduceLE, Int.reduceEq, Int.reduceNeg, List.length_map, List.getElem?_map, Option.map_some, Int.natCast_nonneg, Int.toNat_natCast, decide_true, decide_false, Bool.and_true, Bool.and_self, Bool.not_true, Bool.not_false, Bool.false_and, Bool.true_and, ne_eq, not_true_eq_false, not_false_eq_true, beq_self_eq_true, un9, un21, un22, un23, un5, un50, un4, ti9, ti22, ti23, ti50, ti25, ti27, pl25, pl27, fl25_0, fl25_1, fl27_0, fl27_1, el22, el23, un3, S1_fw, U1_fw, hne] <;> rfl) ?_
    refine aops_end ?_
    refine awp_ret ?_
    refine hfin _ _ ?_ rfl
    obtain ⟨L, rfl⟩ := hpre
    simp only [List.append_assoc]
    exact ⟨_, rfl⟩
  · obtain ⟨r1, r2, r3, r4, r5⟩ := right_spec b1
    have hwx : W64 xu := fun x hx => le64 (by omega) (r4 x hx)
    have h15x := c15 Γ hΓ xn xu hwx
    rw [b1] at h15x
    have h31x := c31 Γ hΓ xn xu hwx
    rw [b2] at h31x
    refine awp_run rfl (by simp only [fwA, ↓reduceIte, Nat.reduceAdd, Nat.reduceMul, Nat.reduceEqDiff, Nat.reduceLT, Nat.reduceLeDiff, reduceCtorEq, bitfw, Int.reduceToNat, Int.reduceLE, Int.reduceEq, Int.reduceNeg, List.length_map, List.getElem?_map, Option.map_some, Int.natCast_nonneg, Int.toNat_natCast, decide_true, decide_false, Bool.and_true, Bool.and_self, Bool.not_true, Bool.not_false, Bool.false_and, Bool.true_and, ne_eq, not_true_eq_false, not_false_eq_true, beq_self_eq_true, un9, un21, un22, un23, un5, un50, un4, ti9, ti22, ti23, ti50, ti25, ti27, pl25, pl27, fl25_0, fl25_1, fl27_0, fl27_1, el22, el23, un3, S1_fw, U1_fw] <;> rfl) ?_
    refine awp_cond (b := true) (by simp [alook, aput, ev]) ?_
    refine awp_seq ?_
    refine awp_region rfl ?_
    refine aops_run 3 (by simp only [fwA, ↓reduceIte, Nat.reduceAdd, Nat.reduceMul, Nat.reduceEqDiff, Nat.reduceLT, Nat.reduceLeDiff, reduceCtorEq, bitfw, Int.reduceToNat, Int.reduceLE, Int.reduceEq, Int.reduceNeg, List.length_map, List.getElem?_map, Option.map_some, Int.natCast_nonneg, Int.toNat_natCast, decide_true, decide_false, Bool.and_true, Bool.and_self, Bool.not_true, Bool.not_false, Bool.false_and, Bool.true_and, ne_eq, not_true_eq_false, not_false_eq_true, beq_self_eq_true, un9, un21, un22, un23, un5, un50, un4, ti9, ti22, ti23, ti50, ti25, ti27, pl25, pl27, fl25_0, fl25_1, fl27_0, fl27_1, el22, el23, un3, S1_fw, U1_fw] <;> rfl) ?_
    refine aops_fnIf rfl rfl rfl rfl rfl en15 h15x ?_
    refine aops_run 3 (by simp only [fwA, ↓reduceIte, Nat.reduceAdd, Nat.reduceMul, Nat.reduceEqDiff, Nat.reduceLT, Nat.reduceLeDiff, reduceCtorEq, bitfw, Int.reduceToNat, Int.reduceLE, Int.reduceEq, Int.reduceNeg, List.length_map, List.getElem?_map, Option.map_some, Int.natCast_nonneg, Int.toNat_natCast, decide_true, decide_false, Bool.and_true, Bool.and_self, Bool.not_true, Bool.not_false, Bool.false_and, Bool.true_and, ne_eq, not_true_eq_false, not_false_eq_true, beq_self_eq_true, un9, un21, un22, un23, un5, un50, un4, ti9, ti22, ti23, ti50, ti25, ti27, pl25, pl27, fl25_0, fl25_1, fl27_0, fl27_1, el22, el23, un3, S1_fw, U1_fw] <;> rfl) ?_
    refine aops_fnIf rfl rfl rfl rfl rfl en31 h31x ?_
    refine aops_run 4 (by simp only [fwA, ↓reduceIte, Nat.reduceAdd, Nat.reduceMul, Nat.reduceEqDiff, Nat.reduceLT, Nat.reduceLeDiff, reduceCtorEq, bitfw, Int.reduceToNat, Int.reduceLE, Int.reduceEq, Int.reduceNeg, List.length_map, List.getElem?_map, Option.map_some, Int.natCast_nonneg, Int.toNat_natCast, decide_true, decide_false, Bool.and_true, Bool.and_self, Bool.not_true, Bool.not_false, Bool.false_and, Bool.true_and, ne_eq, not_true_eq_false, not_false_eq_true, beq_self_eq_true, un9, un21, un22, un23, un5, un50, un4, ti9, ti22, ti23, ti50, ti25, ti27, pl25, pl27, fl25_0, fl25_1, fl27_0, fl27_1, el22, el23, un3, S1_fw, U1_fw] <;> rfl) ?_
    refine aops_end ?_
    refine awp_ret ?_
    refine hfin _ _ ?_ rfl
    obtain ⟨L, rfl⟩ := hpre
    simp only [List.append_assoc]
    exact ⟨_, rfl⟩

end Go.Proofs.YtdhlghhokbmhdaaDoor
