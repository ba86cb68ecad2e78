/- The contract of what the document parses. -/
import Derived.Test.YtdhlghhokbmhdaaDoorR01n
namespace Go.Proofs.YtdhlghhokbmhdaaDoor
set_option linter.unusedVariables false
set_option linter.unusedSimpArgs false
set_option maxRecDepth 100000
open Go.RowKit Fw

set_option maxHeartbeats 2000000 in
/- chancel/chancelref01.Parse -/
theorem c13 (Γ : Nat → PV) (text : List UInt8) (ht : text.length < 4000000000) : Gives Tryd.prog Γ 13 [.str text] (parseV text) := by
  have h34 := c39 Γ text 10 (by omega)
  have hl0 : 0 < (linesL text).length := List.length_pos_iff.2 (splitL_ne _ _)
  have g0 : (linesL text)[0]? = some ((linesL text).getD 0 []) := by rw [List.getD_eq_getElem?_getD, List.getElem?_eq_getElem hl0]; rfl
  have hlen0 : ((linesL text).getD 0 []).length ≤ text.length := splitL_mem (List.mem_of_getElem? g0)
  have h34b := c39 Γ ((linesL text).getD 0 []) 32 (by omega)
  have hlines : splitL 10 text = linesL text := rfl
  have hnames : splitL 32 ((linesL text).getD 0 []) = namesL text := rfl
  rw [hlines] at h34
  rw [hnames] at h34b
  have hll : (linesL text).length ≤ text.length + 1 := splitL_len _ _
  have hnl : (namesL text).length ≤ text.length + 1 := Nat.le_trans (splitL_len _ _) (by omega)
  have h35 := c40 Γ (namesL text)
  have hnn := named_names (namesL text)
  have hn0 : 0 < (namesL text).length := List.length_pos_iff.2 (splitL_ne _ _)
  rw [decide_eq_true hn0, Bool.true_and] at hnn
  rw [← hnn] at h35
  have hbody := fun h => body_len (text := text) h
  refine fn_of_awp Tryd.func13 rfl (by simp [Tryd.f13]) rfl fun H => ?_
  refine awp_seq ?_
  refine awp_run rfl (by simp only [fwA, ↓reduceIte, Nat.reduceAdd, Nat.reduceMul, Nat.reduceEqDiff, Nat.reduceLT, Nat.reduceLeDiff, reduceCtorEq, ti27] <;> rfl) ?_
  have hK0 : (H ++ [Blk.box [.vec [] true, .vec [] true]])[H.length]? = some (.box [.vec [] true, .vec [] true]) := by rw [Fw.get_at0]; rfl
  have hpre : ∃ L, H ++ [Blk.box [.vec [] true, .vec [] true]] = H ++ L := ⟨_, rfl⟩
  generalize hK : H ++ [Blk.box [.vec [] true, .vec [] true]] = K at hK0 hpre ⊢
  have hKl : K.length = H.length + 1 := by rw [← hK]; simp
  have hend : ∀ (A' : List (Nat × PV)) (J : List Blk) (ns : List (List UInt8)) (us : List Nat) (e : Int), parseL text = (ns, us, e) → alook A' 2 = .ptr H.length 0 → alook A' 3 = .int .i64 e → J[H.length]? = some (.box [.vec (ns.map S1) false, .vec (us.map U1) false]) → (∃ L, J = H ++ L) →
      ((Exit.ret = .ret ∨ Exit.ret = .normal) ∧ ([] : List Nat).Nodup ∧ (∀ b ∈ ([] : List Nat), J[b]? = some .dfr ∧ H.length ≤ b) ∧ ares Tryd.prog Γ A' J Tryd.f13.results.toList = some (parseV text) ∧ ∃ L', J = H ++ L') := fun A' J ns us e hp h2 h3 g hL => by
    refine ⟨.inl rfl, List.nodup_nil, (fun b hb => by cases hb), ?_, hL⟩
    unfold parseV
    rw [hp]
    simp [ares, aresL, ares1, Tryd.f13, rd, ev, ti27, h2, h3, g]
  have hsetE : ∀ (J : List Blk) (B : Blk), H.length < J.length → (J.set H.length B)[H.length]? = some B := fun J B h => by rw [List.getElem?_set_self h]
  have hsetP : ∀ (J : List Blk) (B : Blk), (∃ L, J = H ++ L) → ∃ L, J.set H.length B = H ++ L := fun J B ⟨L, hL⟩ => by
    subst hL
    exact ⟨L.set 0 B, Fw.set_at0 _ _ _⟩
  refine awp_seq ?_
  refine awp_region rfl ?_
  refine aops_run 1 (by simp only [fwA, ↓reduceIte, Nat.reduceAdd, Nat.reduceMul, Nat.reduceEqDiff, Nat.reduceLT, Nat.reduceLeDiff, reduceCtorEq, bitfw, Int.reduceToNat, Int.reduceLE, List.length_map, List.getElem?_map, Option.map_some, Int.natCast_nonneg, Int.toNat_natCast, decide_true, decide_false, Bool.and_true, Bool.and_self, Bool.not_true, Bool.not_false, Bool.false_and, Bool.true_and, un9, un22, un23, un5, un50, ti9, ti22, ti23, ti50, ti25, ti27, pl25, pl27, fl25_0, fl25_1, fl27_0, fl27_1, el22, el23, un3, S1_fw, U1_fw] <;> rfl) ?_
  refine aops_fn rfl rfl rfl en39 h34 ?_
  refine aops_run 1 (by simp only [fwA, ↓reduceIte, Nat.reduceAdd, Nat.reduceMul, Nat.reduceEqDiff, Nat.reduceLT, Nat.reduceLeDiff, reduceCtorEq, bitfw, Int.reduceToNat, Int.reduceLE, List.length_map, List.getElem?_map, Option.map_some, Int.natCast_nonneg, Int.toNat_natCast, decide_true, decide_false, Bool.and_true, Bool.and_self, Bool.not_true, Bool.not_false, Bool.false_and, Bool.true_and, un9, un22, un23, un5, un50, ti9, ti22, ti23, ti50, ti25, ti27, pl25, pl27, fl25_0, fl25_1, fl27_0, fl27_1, el22, el23, un3, S1_fw, U1_fw] <;> rfl) ?_
  refine aops_end ?_
  refine awp_seq ?_
  refine awp_region rfl ?_
  refine aops_run 3 (by simp only [fwA, ↓reduceIte, Nat.reduceAdd, Nat.reduceMul, Nat.reduceEqDiff, Nat.reduceLT, Nat.reduceLeDiff, reduceCtorEq, bitfw, Int.reduceToNat, Int.reduceLE, List.length_map, List.getElem?_map, Option.map_some, Int.natCast_nonneg, Int.toNat_natCast, decide_true, decide_false, Bool.and_true, Bool.and_self, Bool.not_true, Bool.not_false, Bool.false_and, Bool.true_and, un9, un22, un23, un5, un50, ti9, ti22, ti23, ti50, ti25, ti27, pl25, pl27, fl25_0, fl25_1, fl27_0, fl27_1, el22, el23, un3, S1_fw, U1_fw, g0] <;> rfl) ?_
  refine aops_fn rfl rfl rfl en39 h34b ?_
  refine aops_run 3 (by simp only [fwA, ↓reduceIte, Nat.reduceAdd, Nat.reduceMul, Nat.reduceEqDiff, Nat.reduceLT, Nat.reduceLeDiff, reduceCtorEq, bitfw, Int.reduceToNat, Int.reduceLE, List.length_map, List.getElem?_map, Option.map_some, Int.natCast_nonneg, Int.toNat_natCast, decide_true, decide_false, Bool.and_true, Bool.and_self, Bool.not_true, Bool.not_false, Bool.false_and, Bool.true_and, un9, un22, un23, un5, un50, ti9, ti22, ti23, ti50, ti25, ti27, pl25, pl27, fl25_0, fl25_1, fl27_0, fl27_1, el22, el23, un3, S1_fw, U1_fw, g0] <;> rfl) ?_
  refine aops_end ?_
  have hKb : (K ++ [Blk.box [.vec ((namesL text).map S1) false, .vec [] true]])[K.length]? = some (.box [.vec ((namesL text).map S1) false, .vec [] true]) := Fw.get_at0 _ _
  have hKh : (K ++ [Blk.box [.vec ((namesL text).map S1) false, .vec [] true]])[H.length]? = some (.box [.vec [] true, .vec [] true]) := by rw [List.getElem?_append_left (by omega)]; exact hK0
  have hKp : ∃ L, K ++ [Blk.box [.vec ((namesL text).map S1) false, .vec [] true]] = H ++ L := by obtain ⟨L, hL⟩ := hpre; exact ⟨L ++ _, by rw [hL, List.append_assoc]⟩
  have hKL : H.length < (K ++ [Blk.box [.vec ((namesL text).map S1) false, .vec [] true]]).length := by rw [List.length_append]; omega
  generalize hJ9 : K ++ [Blk.box [.vec ((namesL text).map S1) false, .vec [] true]] = J9 at hKb hKh hKp hKL ⊢
  refine awp_seq ?_
  refine awp_run rfl (by simp only [fwA, ↓reduceIte, Nat.reduceAdd, Nat.reduceMul, Nat.reduceEqDiff, Nat.reduceLT, Nat.reduceLeDiff, reduceCtorEq, bitfw, Int.reduceToNat, Int.reduceLE, List.length_map, List.getElem?_map, Option.map_some, Int.natCast_nonneg, Int.toNat_natCast, decide_true, decide_false, Bool.and_true, Bool.and_self, Bool.not_true, Bool.not_false, Bool.false_and, Bool.true_and, un9, un22, un23, un5, un50, ti9, ti22, ti23, ti50, ti25, ti27, pl25, pl27, fl25_0, fl25_1, fl27_0, fl27_1, el22, el23, un3, S1_fw, U1_fw, hKb] <;> rfl) ?_
  refine awp_seq ?_
  refine awp_seq ?_
  by_cases h1 : (64 : Int) < ((namesL text).length : Int)
  · refine awp_run rfl (by simp only [fwA, ↓reduceIte, Nat.reduceAdd, Nat.reduceMul, Nat.reduceEqDiff, Nat.reduceLT, Nat.reduceLeDiff, reduceCtorEq, bitfw, Int.reduceToNat, Int.reduceLE, List.length_map, List.getElem?_map, Option.map_some, Int.natCast_nonneg, Int.toNat_natCast, decide_true, decide_false, Bool.and_true, Bool.and_self, Bool.not_true, Bool.not_false, Bool.false_and, Bool.true_and, un9, un22, un23, un5, un50, ti9, ti22, ti23, ti50, ti25, ti27, pl25, pl27, fl25_0, fl25_1, fl27_0, fl27_1, el22, el23, un3, S1_fw, U1_fw, h1] <;> rfl) ?_
    refine awp_cond (b := true) (by simp [alook, aput, ev]) ?_
    refine awp_seq ?_
    refine awp_run rfl (by simp only [fwA, ↓reduceIte, Nat.reduceAdd, Nat.reduceMul, Nat.reduceEqDiff, Nat.reduceLT, Nat.reduceLeDiff, reduceCtorEq, bitfw, Int.reduceToNat, Int.reduceLE, List.length_map, List.getElem?_map, Option.map_some, Int.natCast_nonneg, Int.toNat_natCast, decide_true, decide_false, Bool.and_true, Bool.and_self, Bool.not_true, Bool.not_false, Bool.false_and, Bool.true_and, un9, un22, un23, un5, un50, ti9, ti22, ti23, ti50, ti25, ti27, pl25, pl27, fl25_0, fl25_1, fl27_0, fl27_1, el22, el23, un3, S1_fw, U1_fw, hKh] <;> rfl) ?_
    refine awp_told (told_leBox H.length (hsetE J9 _ hKL) (leZ [] [] true true)) ?_
    refine awp_ret ?_
    exact hend _ _ [] [] 1 (by unfold parseL; rw [if_pos (by omega)]) rfl rfl (hsetE _ _ (by rw [List.length_set]; exact hKL)) (hsetP _ _ (hsetP _ _ hKp))
  refine awp_run rfl (by simp only [fwA, ↓reduceIte, Nat.reduceAdd, Nat.reduceMul, Nat.reduceEqDiff, Nat.reduceLT, Nat.reduceLeDiff, reduceCtorEq, bitfw, Int.reduceToNat, Int.reduceLE, List.length_map, List.getElem?_map, Option.map_some, Int.natCast_nonneg, Int.toNat_natCast, decide_true, decide_false, Bool.and_true, Bool.and_self, Bool.not_true, Bool.not_false, Bool.false_and, Bool.true_and, un9, un22, un23, un5, un50, ti9, ti22, ti23, ti50, ti25, ti27, pl25, pl27, fl25_0, fl25_1, fl27_0, fl27_1, el22, el23, un3, S1_fw, U1_fw, h1] <;> rfl) ?_
  refine awp_cond (b := false) (by simp [alook, aput, ev]) (awp_skip ?_)
  have hn64 : (namesL text).length ≤ 64 := by omega
  have hw2 : IntKind.i64.wrap (((namesL text).length : Int) + 2) = (((namesL text).length + 2 : Nat) : Int) := wrapId ⟨by omega, by omega⟩
  have hw1 : IntKind.i64.wrap (((namesL text).length : Int) + 1) = (((namesL text).length + 1 : Nat) : Int) := wrapS _ (by omega)
  have e2 : decide (((linesL text).length : Int) = (((namesL text).length + 2 : Nat) : Int)) = decide ((linesL text).length = (namesL text).length + 2) := decide_eq_decide.2 (by omega)
  have hp2 : headB text = false → parseL text = ([], [], 2) := fun h => by unfold parseL; rw [if_neg (by omega), if_pos h]
  refine awp_seq ?_
  refine awp_seq ?_
  cases hnm : namedB (namesL text)
  · rw [hnm] at h35
    refine awp_region rfl ?_
    refine aops_run 2 (by simp only [fwA, ↓reduceIte, Nat.reduceAdd, Nat.reduceMul, Nat.reduceEqDiff, Nat.reduceLT, Nat.reduceLeDiff, reduceCtorEq, bitfw, Int.reduceToNat, Int.reduceLE, List.length_map, List.getElem?_map, Option.map_some, Int.natCast_nonneg, Int.toNat_natCast, decide_true, decide_false, Bool.and_true, Bool.and_self, Bool.not_true, Bool.not_false, Bool.false_and, Bool.true_and, un9, un22, un23, un5, un50, ti9, ti22, ti23, ti50, ti25, ti27, pl25, pl27, fl25_0, fl25_1, fl27_0, fl27_1, el22, el23, un3, S1_fw, U1_fw, hKb, hw2] <;> rfl) ?_
    refine aops_fn rfl rfl rfl en40 h35 ?_
    refine aops_run 13 (by simp only [fwA, ↓reduceIte, Nat.reduceAdd, Nat.reduceMul, Nat.reduceEqDiff, Nat.reduceLT, Nat.reduceLeDiff, reduceCtorEq, bitfw, Int.reduceToNat, Int.reduceLE, List.length_map, List.getElem?_map, Option.map_some, Int.natCast_nonneg, Int.toNat_natCast, decide_true, decide_false, Bool.and_true, Bool.and_self, Bool.not_true, Bool.not_false, Bool.false_and, Bool.true_and, un9, un22, un23, un5, un50, ti9, ti22, ti23, ti50, ti25, ti27, pl25, pl27, fl25_0, fl25_1, fl27_0, fl27_1, el22, el23, un3, S1_fw, U1_fw, hKb, hw2] <;> rfl) ?_
    refine aops_run 3 (by simp only [fwA, ↓reduceIte, Nat.reduceAdd, Nat.reduceMul, Nat.reduceEqDiff, Nat.reduceLT, Nat.reduceLeDiff, reduceCtorEq, bitfw, Int.reduceToNat, Int.reduceLE, List.length_map, List.getElem?_map, Option.map_some, Int.natCast_nonneg, Int.toNat_natCast, decide_true, decide_false, Bool.and_true, Bool.and_self, Bool.not_true, Bool.not_false, Bool.false_and, Bool.true_and, un9, un22, un23, un5, un50, ti9, ti22, ti23, ti50, ti25, ti27, pl25, pl27, fl25_0, fl25_1, fl27_0, fl27_1, el22, el23, un3, S1_fw, U1_fw, hKb, hw2] <;> rfl) ?_
    refine aops_end ?_
    refine awp_cond (b := true) (by simp [alook, aput, ev]) ?_
    refine awp_seq ?_
    refine awp_run rfl (by simp only [fwA, ↓reduceIte, Nat.reduceAdd, Nat.reduceMul, Nat.reduceEqDiff, Nat.reduceLT, Nat.reduceLeDiff, reduceCtorEq, bitfw, Int.reduceToNat, Int.reduceLE, List.length_map, List.getElem?_map, Option.map_some, Int.natCast_nonneg, Int.toNat_natCast, decide_true, decide_false, Bool.and_true, Bool.and_self, Bool.not_true, Bool.not_false, Bool.false_and, Bool.true_and, un9, un22, un23, un5, un50, ti9, ti22, ti23, ti50, ti25, ti27, pl25, pl27, fl25_0, fl25_1, fl27_0, fl27_1, el22, el23, un3, S1_fw, U1_fw, hKh] <;> rfl) ?_
    refine awp_told (told_leBox H.length (hsetE J9 _ hKL) (leZ [] [] true true)) ?_
    refine awp_ret ?_
    exact hend _ _ [] [] 2 (hp2 (by unfold headB; rw [hnm]; rfl)) rfl rfl (hsetE _ _ (by rw [List.length_set]; exact hKL)) (hsetP _ _ (hsetP _ _ hKp))
  rw [hnm] at h35
  by_cases h2 : (linesL text).length = (namesL text).length + 2
  rotate_left
  · rw [decide_eq_false h2] at e2
    refine awp_region rfl ?_
    refine aops_run 2 (by simp only [fwA, ↓reduceIte, Nat.reduceAdd, Nat.reduceMul, Nat.reduceEqDiff, Nat.reduceLT, Nat.reduceLeDiff, reduceCtorEq, bitfw, Int.reduceToNat, Int.reduceLE, List.length_map, List.getElem?_map, Option.map_some, Int.natCast_nonneg, Int.toNat_natCast, decide_true, decide_false, Bool.and_true, Bool.and_self, Bool.not_true, Bool.not_false, Bool.false_and, Bool.true_and, un9, un22, un23, un5, un50, ti9, ti22, ti23, ti50, ti25, ti27, pl25, pl27, fl25_0, fl25_1, fl27_0, fl27_1, el22, el23, un3, S1_fw, U1_fw, hKb, hw2, e2] <;> rfl) ?_
    refine aops_fn rfl rfl rfl en40 h35 ?_
    refine aops_run 13 (by simp only [fwA, ↓reduceIte, Nat.reduceAdd, Nat.reduceMul, Nat.reduceEqDiff, Nat.reduceLT, Nat.reduceLeDiff, reduceCtorEq, bitfw, Int.reduceToNat, Int.reduceLE, List.length_map, List.getElem?_map, Option.map_some, Int.natCast_nonneg, Int.toNat_natCast, decide_true, decide_false, Bool.and_true, Bool.and_self, Bool.not_true, Bool.not_false, Bool.false_and, Bool.true_and, un9, un22, un23, un5, un50, ti9, ti22, ti23, ti50, ti25, ti27, pl25, pl27, fl25_0, fl25_1, fl27_0, fl27_1, el22, el23, un3, S1_fw, U1_fw, hKb, hw2, e2] <;> rfl) ?_
    refine aops_run 3 (by simp only [fwA, ↓reduceIte, Nat.reduceAdd, Nat.reduceMul, Nat.reduceEqDiff, Nat.reduceLT, Nat.reduceLeDiff, reduceCtorEq, bitfw, Int.reduceToNat, Int.reduceLE, List.length_map, List.getElem?_map, Option.map_some, Int.natCast_nonneg, Int.toNat_natCast, decide_true, decide_false, Bool.and_true, Bool.and_self, Bool.not_true, Bool.not_false, Bool.false_and, Bool.true_and, un9, un22, un23, un5, un50, ti9, ti22, ti23, ti50, ti25, ti27, pl25, pl27, fl25_0, fl25_1, fl27_0, fl27_1, el22, el23, un3, S1_fw, U1_fw, hKb, hw2, e2] <;> rfl) ?_
    refine aops_end ?_
    refine awp_cond (b := true) (by simp [alook, aput, ev]) ?_
    refine awp_seq ?_
    refine awp_run rfl (by simp only [fwA, ↓reduceIte, Nat.reduceAdd, Nat.reduceMul, Nat.reduceEqDiff, Nat.reduceLT, Nat.reduceLeDiff, reduceCtorEq, bitfw, Int.reduceToNat, Int.reduceLE, List.length_map, List.getElem?_map, Option.map_some, Int.natCast_nonneg, Int.toNat_natCast, decide_true, decide_false, Bool.and_true, Bool.and_self, Bool.not_true, Bool.not_false, Bool.false_and, Bool.true_and, un9, un22, un23, un5, un50, ti9, ti22, ti23, ti50, ti25, ti27, pl25, pl27, fl25_0, fl25_1, fl27_0, fl27_1, el22, el23, un3, S1_fw, U1_fw, hKh] <;> rfl) ?_
    refine awp_told (told_leBox H.length (hsetE J9 _ hKL) (leZ [] [] true true)) ?_
    refine awp_ret ?_
    exact hend _ _ [] [] 2 (hp2 (by unfold headB; rw [decide_eq_false h2]; simp)) rfl rfl (hsetE _ _ (by rw [List.length_set]; exact hKL)) (hsetP _ _ (hsetP _ _ hKp))
  rw [decide_eq_true h2] at e2
  have gl : (linesL text)[(namesL text).length + 1]? = some ((linesL text).getD ((namesL text).length + 1) []) := by rw [List.getD_eq_getElem?_getD, List.getElem?_eq_getElem (by omega)]; rfl
  by_cases h3 : (linesL text).getD ((namesL text).length + 1) [] = []
  rotate_left
  · refine awp_region rfl ?_
    refine aops_run 2 (by simp only [fwA, ↓reduceIte, Nat.reduceAdd, Nat.reduceMul, Nat.reduceEqDiff, Nat.reduceLT, Nat.reduceLeDiff, reduceCtorEq, bitfw, Int.reduceToNat, Int.reduceLE, List.length_map, List.getElem?_map, Option.map_some, Int.natCast_nonneg, Int.toNat_natCast, decide_true, decide_false, Bool.and_true, Bool.and_self, Bool.not_true, Bool.not_false, Bool.false_and, Bool.true_and, un9, un22, un23, un5, un50, ti9, ti22, ti23, ti50, ti25, ti27, pl25, pl27, fl25_0, fl25_1, fl27_0, fl27_1, el22, el23, un3, S1_fw, U1_fw, hKb, hw2, hw1, e2, gl, h3] <;> rfl) ?_
    refine aops_fn rfl rfl rfl en40 h35 ?_
    refine aops_run 13 (by simp only [fwA, ↓reduceIte, Nat.reduceAdd, Nat.reduceMul, Nat.reduceEqDiff, Nat.reduceLT, Nat.reduceLeDiff, reduceCtorEq, bitfw, Int.reduceToNat, Int.reduceLE, List.length_map, List.getElem?_map, Option.map_some, Int.natCast_nonneg, Int.toNat_natCast, decide_true, decide_false, Bool.and_true, Bool.and_self, Bool.not_true, Bool.not_false, Bool.false_and, Bool.true_and, un9, un22, un23, un5, un50, ti9, ti22, ti23, ti50, ti25, ti27, pl25, pl27, fl25_0, fl25_1, fl27_0, fl27_1, el22, el23, un3, S1_fw, U1_fw, hKb, hw2, hw1, e2, gl, h3] <;> rfl) ?_
    refine aops_run 3 (by simp only [fwA, ↓reduceIte, Nat.reduceAdd, Nat.reduceMul, Nat.reduceEqDiff, Nat.reduceLT, Nat.reduceLeDiff, reduceCtorEq, bitfw, Int.reduceToNat, Int.reduceLE, List.length_map, List.getElem?_map, Option.map_some, Int.natCast_nonneg, Int.toNat_natCast, decide_true, decide_false, Bool.and_true, Bool.and_self, Bool.not_true, Bool.not_false, Bool.false_and, Bool.true_and, un9, un22, un23, un5, un50, ti9, ti22, ti23, ti50, ti25, ti27, pl25, pl27, fl25_0, fl25_1, fl27_0, fl27_1, el22, el23, un3, S1_fw, U1_fw, hKb, hw2, hw1, e2, gl, h3] <;> rfl) ?_
    refine aops_end ?_
    refine awp_cond (b := true) (by simp [alook, aput, ev]) ?_
    refine awp_seq ?_
    refine awp_run rfl (by simp only [fwA, ↓reduceIte, Nat.reduceAdd, Nat.reduceMul, Nat.reduceEqDiff, Nat.reduceLT, Nat.reduceLeDiff, reduceCtorEq, bitfw, Int.reduceToNat, Int.reduceLE, List.length_map, List.getElem?_map, Option.map_some, Int.natCast_nonneg, Int.toNat_natCast, decide_true, decide_false, Bool.and_true, Bool.and_self, Bool.not_true, Bool.not_false, Bool.false_and, Bool.true_and, un9, un22, un23, un5, un50, ti9, ti22, ti23, ti50, ti25, ti27, pl25, pl27, fl25_0, fl25_1, fl27_0, fl27_1, el22, el23, un3, S1_fw, U1_fw, hKh] <;> rfl) ?_
    refine awp_told (told_leBox H.length (hsetE J9 _ hKL) (leZ [] [] true true)) ?_
    refine awp_ret ?_
    exact hend _ _ [] [] 2 (hp2 (by unfold headB; rw [decide_eq_false h3]; simp)) rfl rfl (hsetE _ _ (by rw [List.length_set]; exact hKL)) (hsetP _ _ (hsetP _ _ hKp))
  have hhead : headB text = true := by unfold headB; rw [hnm, decide_eq_true h2, decide_eq_true h3]; rfl
  refine awp_region rfl ?_
  refine aops_run 2 (by simp only [fwA, ↓reduceIte, Nat.reduceAdd, Nat.reduceMul, Nat.reduceEqDiff, Nat.reduceLT, Nat.reduceLeDiff, reduceCtorEq, bitfw, Int.reduceToNat, Int.reduceLE, List.length_map, List.getElem?_map, Option.map_some, Int.natCast_nonneg, Int.toNat_natCast, decide_true, decide_false, Bool.and_true, Bool.and_self, Bool.not_true, Bool.not_false, Bool.false_and, Bool.true_and, un9, un22, un23, un5, un50, ti9, ti22, ti23, ti50, ti25, ti27, pl25, pl27, fl25_0, fl25_1, fl27_0, fl27_1, el22, el23, un3, S1_fw, U1_fw, hKb, hw2, hw1, e2, gl, h3] <;> rfl) ?_
  refine aops_fn rfl rfl rfl en40 h35 ?_
  refine aops_run 13 (by simp only [fwA, ↓reduceIte, Nat.reduceAdd, Nat.reduceMul, Nat.reduceEqDiff, Nat.reduceLT, Nat.reduceLeDiff, reduceCtorEq, bitfw, Int.reduceToNat, Int.reduceLE, List.length_map, List.getElem?_map, Option.map_some, Int.natCast_nonneg, Int.toNat_natCast, decide_true, decide_false, Bool.and_true, Bool.and_self, Bool.not_true, Bool.not_false, Bool.false_and, Bool.true_and, un9, un22, un23, un5, un50, ti9, ti22, ti23, ti50, ti25, ti27, pl25, pl27, fl25_0, fl25_1, fl27_0, fl27_1, el22, el23, un3, S1_fw, U1_fw, hKb, hw2, hw1, e2, gl, h3] <;> rfl) ?_
  refine aops_run 3 (by simp only [fwA, ↓reduceIte, Nat.reduceAdd, Nat.reduceMul, Nat.reduceEqDiff, Nat.reduceLT, Nat.reduceLeDiff, reduceCtorEq, bitfw, Int.reduceToNat, Int.reduceLE, List.length_map, List.getElem?_map, Option.map_some, Int.natCast_nonneg, Int.toNat_natCast, decide_true, decide_false, Bool.and_true, Bool.and_self, Bool.not_true, Bool.not_false, Bool.false_and, Bool.true_and, un9, un22, un23, un5, un50, ti9, ti22, ti23, ti50, ti25, ti27, pl25, pl27, fl25_0, fl25_1, fl27_0, fl27_1, el22, el23, un3, S1_fw, U1_fw, hKb, hw2, hw1, e2, gl, h3] <;> rfl) ?_
  refine aops_end ?_
  refine awp_cond (b := false) (by simp [alook, aput, ev]) (awp_skip ?_)
  have hbl := hbody hhead
  have hp3 : (bodyL text).all (rowOk (namesL text).length) = false → parseL text = ([], [], 2) := fun h => by unfold parseL; rw [if_neg (by omega), if_neg (by rw [hhead]; simp), if_pos h]
  have hp4 : (bodyL text).all (rowOk (namesL text).length) = true → parseL text = if ordB (upsL text).length (lq (upsL text)) = false then ([], [], 3) else if boundB (upsL text).length (lq (upsL text)) = false then ([], [], 4) else (namesL text, upsL text, 0) := fun h => by
    conv => lhs; unfold parseL
    rw [if_neg (by omega), if_neg (by rw [hhead]; simp), if_neg (by rw [h]; simp)]
  have hups : ∀ i, i < (bodyL text).length → ∀ s, (bodyL text)[i]? = some s → ((upsL text).take (i + 1)) = (upsL text).take i ++ [rowX s s.length] := fun i hi s hs => by
    have : (upsL text)[i]? = some (rowX s s.length) := by unfold upsL; rw [List.getElem?_map, hs]; rfl
    rw [List.take_add_one, this]; rfl
  have hupl : (upsL text).length = (bodyL text).length := by unfold upsL; rw [List.length_map]
  have hbd0 : (((linesL text).map S1).drop 1).take ((namesL text).length + 1 - 1) = (bodyL text).map S1 := by
    unfold bodyL
    rw [List.map_take, List.map_drop, Nat.add_sub_cancel]
  have hupin : (bodyL text).all (rowOk (namesL text).length) = true → Inn (upsL text).length (upsL text) := fun h x hx => by
    unfold upsL at hx
    obtain ⟨s, hs, rfl⟩ := List.mem_map.1 hx
    rw [List.all_eq_true] at h
    rw [hupl, hbl]
    exact row_in hn64 (h s hs)
  have hget := fun j => body_get (text := text) (j := j) hhead
  generalize namesL text = ns at *
  generalize upsL text = us at *
  generalize bodyL text = bd at *
  subst hJ9
  refine awp_seq ?_
  refine awp_seq ?_
  refine awp_run rfl (by simp only [fwA, ↓reduceIte, Nat.reduceAdd, Nat.reduceMul, Nat.reduceEqDiff, Nat.reduceLT, Nat.reduceLeDiff, reduceCtorEq] <;> rfl) ?_
  refine awp_told (told_adoptBox K.length 1 1 (by decide) (cs := [.vec (ns.map S1) false, .vec [] true]) (Fw.get_at0 _ _) rfl) ?_
  refine awp_heap (H' := K ++ [.box [.vec (ns.map S1) false, .row (K.length + 1) 0 0 1], .row 1 []]) (by rw [Fw.set_at0]; simp) ?_
  refine awp_block ?_
  refine awp_for [2, 4, 5, 6, 7] (fun i : Nat => [.ptr H.length 0, .vec ((linesL text).map S1) false, .ptr K.length 0, .int .i64 (ns.length : Int), .int .i64 (i : Int)]) (fun i => K ++ [.box [.vec (ns.map S1) false, .row (K.length + 1) 0 i 1], .row 1 (((us.take i).map U1).flatten)]) (fun i => bd.length - i) (fun i => i ≤ bd.length ∧ ∀ j s, j < i → bd[j]? = some s → rowOk ns.length s = true) 0 rfl rfl ⟨Nat.zero_le _, fun j s hj => by omega⟩ fun i hs => ?_
  obtain ⟨hil, hall⟩ := hs
  have hJ0 : ∀ L : List Blk, (K ++ L)[H.length]? = some (.box [.vec [] true, .vec [] true]) := fun L => by rw [List.getElem?_append_left (by omega)]; exact hK0
  have hJp : ∀ L : List Blk, ∃ L', K ++ L = H ++ L' := fun L => by obtain ⟨M, hM⟩ := hpre; exact ⟨M ++ L, by rw [hM, List.append_assoc]⟩
  have hJl : ∀ L : List Blk, H.length < (K ++ L).length := fun L => by rw [List.length_append]; omega
  refine awp_seq ?_
  refine awp_seq ?_
  refine awp_run rfl (by simp only [fwA, ↓reduceIte, Nat.reduceAdd, Nat.reduceMul, Nat.reduceEqDiff, Nat.reduceLT, Nat.reduceLeDiff, reduceCtorEq, bitfw, Int.reduceToNat, Int.reduceLE, List.length_map, List.getElem?_map, Option.map_some, Int.natCast_nonneg, Int.toNat_natCast, decide_true, decide_false, Bool.and_true, Bool.and_self, Bool.not_true, Bool.not_false, Bool.false_and, Bool.true_and, un9, un22, un23, un5, un50, ti9, ti22, ti23, ti50, ti25, ti27, pl25, pl27, fl25_0, fl25_1, fl27_0, fl27_1, el22, el23, un3, S1_fw, U1_fw] <;> rfl) ?_
  refine awp_cond (by simp only [fwA, ↓reduceIte, Nat.reduceAdd, Nat.reduceMul, Nat.reduceEqDiff, Nat.reduceLT, Nat.reduceLeDiff, reduceCtorEq] <;> rfl) ?_
  by_cases hc : (i : Int) < ns.length
  · simp only [hc, decide_true, ↓reduceIte]
    refine awp_skip ?_
    have hlt : i < bd.length := by omega
    have ga : bd[i]? = some bd[i] := List.getElem?_eq_getElem hlt
    generalize bd[i] = s at ga
    have hwi : IntKind.i64.wrap ((i : Int) + 1) = ((i + 1 : Nat) : Int) := wrapS i (by omega)
    have h36 := c41 Γ s (ns.length : Int)
    rw [rowP_ok] at h36
    have gl1 : (linesL text)[i + 1]? = some s := by rw [← hget i (by omega)]; exact ga
    have hst := hups i hlt s ga
    have hJ := hJ0 [.box [.vec (ns.map S1) false, .row (K.length + 1) 0 i 1], .row 1 (((us.take i).map U1).flatten)]
    have hJP := hJp [.box [.vec (ns.map S1) false, .row (K.length + 1) 0 i 1], .row 1 (((us.take i).map U1).flatten)]
    have hJL := hJl [.box [.vec (ns.map S1) false, .row (K.length + 1) 0 i 1], .row 1 (((us.take i).map U1).flatten)]
    have hutl : (us.take i).length = i := by rw [List.length_take]; omega
    refine awp_seq ?_
    refine awp_block ?_
    refine awp_seq ?_
    refine awp_region rfl ?_
    refine aops_run 6 (by simp only [fwA, ↓reduceIte, Nat.reduceAdd, Nat.reduceMul, Nat.reduceEqDiff, Nat.reduceLT, Nat.reduceLeDiff, reduceCtorEq, bitfw, Int.reduceToNat, Int.reduceLE, List.length_map, List.getElem?_map, Option.map_some, Int.natCast_nonneg, Int.toNat_natCast, decide_true, decide_false, Bool.and_true, Bool.and_self, Bool.not_true, Bool.not_false, Bool.false_and, Bool.true_and, un9, un22, un23, un5, un50, ti9, ti22, ti23, ti50, ti25, ti27, pl25, pl27, fl25_0, fl25_1, fl27_0, fl27_1, el22, el23, un3, S1_fw, U1_fw, hwi, gl1] <;> rfl) ?_
    refine aops_fn rfl rfl rfl en41 h36 ?_
    refine aops_run 5 (by simp only [fwA, ↓reduceIte, Nat.reduceAdd, Nat.reduceMul, Nat.reduceEqDiff, Nat.reduceLT, Nat.reduceLeDiff, reduceCtorEq, bitfw, Int.reduceToNat, Int.reduceLE, List.length_map, List.getElem?_map, Option.map_some, Int.natCast_nonneg, Int.toNat_natCast, decide_true, decide_false, Bool.and_true, Bool.and_self, Bool.not_true, Bool.not_false, Bool.false_and, Bool.true_and, un9, un22, un23, un5, un50, ti9, ti22, ti23, ti50, ti25, ti27, pl25, pl27, fl25_0, fl25_1, fl27_0, fl27_1, el22, el23, un3, S1_fw, U1_fw, hwi, gl1] <;> rfl) ?_
    refine aops_end ?_
    refine awp_seq ?_
    refine awp_seq ?_
    cases hok : rowOk ns.length s
    · refine awp_run rfl (by simp only [fwA, ↓reduceIte, Nat.reduceAdd, Nat.reduceMul, Nat.reduceEqDiff, Nat.reduceLT, Nat.reduceLeDiff, reduceCtorEq, bitfw, Int.reduceToNat, Int.reduceLE, List.length_map, List.getElem?_map, Option.map_some, Int.natCast_nonneg, Int.toNat_natCast, decide_true, decide_false, Bool.and_true, Bool.and_self, Bool.not_true, Bool.not_false, Bool.false_and, Bool.true_and, un9, un22, un23, un5, un50, ti9, ti22, ti23, ti50, ti25, ti27, pl25, pl27, fl25_0, fl25_1, fl27_0, fl27_1, el22, el23, un3, S1_fw, U1_fw] <;> rfl) ?_
      refine awp_cond (b := true) (by simp [alook, aput, ev]) ?_
      have hbad : bd.all (rowOk ns.length) = false := List.all_eq_false.2 ⟨s, List.mem_of_getElem? ga, by rw [hok]; simp⟩
      generalize K ++ [Blk.box [.vec (ns.map S1) false, .row (K.length + 1) 0 i 1], .row 1 (((us.take i).map U1).flatten)] = J at hJ hJP hJL ⊢
      refine awp_seq ?_
      refine awp_run rfl (by simp only [fwA, ↓reduceIte, Nat.reduceAdd, Nat.reduceMul, Nat.reduceEqDiff, Nat.reduceLT, Nat.reduceLeDiff, reduceCtorEq, bitfw, Int.reduceToNat, Int.reduceLE, List.length_map, List.getElem?_map, Option.map_some, Int.natCast_nonneg, Int.toNat_natCast, decide_true, decide_false, Bool.and_true, Bool.and_self, Bool.not_true, Bool.not_false, Bool.false_and, Bool.true_and, un9, un22, un23, un5, un50, ti9, ti22, ti23, ti50, ti25, ti27, pl25, pl27, fl25_0, fl25_1, fl27_0, fl27_1, el22, el23, un3, S1_fw, U1_fw, hJ] <;> rfl) ?_
      refine awp_told (told_leBox H.length (hsetE J _ hJL) (leZ [] [] true true)) ?_
      refine awp_ret ?_
      exact hend _ _ [] [] 2 (hp3 hbad) rfl rfl (hsetE _ _ (by rw [List.length_set]; exact hJL)) (hsetP _ _ (hsetP _ _ hJP))
    · refine awp_run rfl (by simp only [fwA, ↓reduceIte, Nat.reduceAdd, Nat.reduceMul, Nat.reduceEqDiff, Nat.reduceLT, Nat.reduceLeDiff, reduceCtorEq, bitfw, Int.reduceToNat, Int.reduceLE, List.length_map, List.getElem?_map, Option.map_some, Int.natCast_nonneg, Int.toNat_natCast, decide_true, decide_false, Bool.and_true, Bool.and_self, Bool.not_true, Bool.not_false, Bool.false_and, Bool.true_and, un9, un22, un23, un5, un50, ti9, ti22, ti23, ti50, ti25, ti27, pl25, pl27, fl25_0, fl25_1, fl27_0, fl27_1, el22, el23, un3, S1_fw, U1_fw] <;> rfl) ?_
      refine awp_cond (b := false) (by simp [alook, aput, ev]) (awp_skip ?_)
      have hsl : (s.length : Int) = (ns.length : Int) := by unfold rowOk at hok; rw [Bool.and_eq_true, decide_eq_true_eq] at hok; omega
      rw [if_pos hsl, rowP_val hok]
      refine awp_region rfl ?_
      refine aops_run 4 (by simp only [fwA, ↓reduceIte, Nat.reduceAdd, Nat.reduceMul, Nat.reduceEqDiff, Nat.reduceLT, Nat.reduceLeDiff, reduceCtorEq, bitfw, Int.reduceToNat, Int.reduceLE, List.length_map, List.getElem?_map, Option.map_some, Int.natCast_nonneg, Int.toNat_natCast, decide_true, decide_false, Bool.and_true, Bool.and_self, Bool.not_true, Bool.not_false, Bool.false_and, Bool.true_and, un9, un22, un23, un5, un50, ti9, ti22, ti23, ti50, ti25, ti27, pl25, pl27, fl25_0, fl25_1, fl27_0, fl27_1, el22, el23, un3, S1_fw, U1_fw] <;> rfl) ?_
      refine aops_one rfl (os_appendR rfl un23 ti50 un23 (.inl ⟨_, rfl⟩) rfl (Fw.get_at _ _ 1) (by rw [flat_len U1_len, hutl]; exact (Nat.zero_add _).symm) rfl (fun es f h e he => by
        simp only [fwA, ↓reduceIte, Nat.reduceAdd, Nat.reduceMul, Nat.reduceEqDiff, Nat.reduceLT, Nat.reduceLeDiff, reduceCtorEq, PV.vec.injEq] at h
        obtain ⟨rfl, rfl⟩ := h
        simp only [List.mem_singleton] at he
        subst he; rfl) rfl (by show (_ + 1) * 8 ≤ _; omega) (by show _ + 1 ≤ _; omega) ?_)
      refine aops_run 2 (by simp only [fwA, ↓reduceIte, Nat.reduceAdd, Nat.reduceMul, Nat.reduceEqDiff, Nat.reduceLT, Nat.reduceLeDiff, reduceCtorEq, bitfw, Int.reduceToNat, Int.reduceLE, List.length_map, List.getElem?_map, Option.map_some, Int.natCast_nonneg, Int.toNat_natCast, decide_true, decide_false, Bool.and_true, Bool.and_self, Bool.not_true, Bool.not_false, Bool.false_and, Bool.true_and, un9, un22, un23, un5, un50, ti9, ti22, ti23, ti50, ti25, ti27, pl25, pl27, fl25_0, fl25_1, fl27_0, fl27_1, el22, el23, un3, S1_fw, U1_fw] <;> rfl) ?_
      refine aops_end ?_
      refine awp_run rfl (by simp only [fwA, ↓reduceIte, Nat.reduceAdd, Nat.reduceMul, Nat.reduceEqDiff, Nat.reduceLT, Nat.reduceLeDiff, reduceCtorEq] <;> rfl) ?_
      refine ⟨i + 1, by omega, ⟨by omega, fun j u hj hu => ?_⟩, ?_, ?_, rfl⟩
      · by_cases hji : j = i
        · subst hji; rw [ga] at hu; cases hu; exact hok
        · exact hall j u (by omega) hu
      · simp only [fwA, ↓reduceIte, Nat.reduceAdd, Nat.reduceMul, Nat.reduceEqDiff, Nat.reduceLT, Nat.reduceLeDiff, reduceCtorEq, List.map_cons, List.map_nil, hwi]
      · rw [hst, List.map_append, List.flatten_append]; simp [U1]
  simp only [hc, decide_false, Bool.false_eq_true, ↓reduceIte]
  refine awp_exit ?_
  have e : i = bd.length := by omega
  have hallB : bd.all (rowOk ns.length) = true := by
    rw [List.all_eq_true]
    intro s hs
    obtain ⟨j, hj⟩ := List.getElem?_of_mem hs
    exact hall j s (by have := (List.getElem?_eq_some_iff.1 hj).1; omega) hj
  have hul : us.length = i := by omega
  rw [List.take_of_length_le (by omega)]
  refine awp_told (told_freezeAt K _ 1 (C := (us.map U1).flatten) rfl (flat_bd (fun _ => rfl) _)) ?_
  have hlm : ((us.map U1).flatten).length = us.length := by rw [flat_len U1_len, Nat.mul_one]
  have hch := flat_chunk U1_len us
  rw [← hul]
  refine awp_heap (H' := K ++ [.box [.vec (ns.map S1) false, .vec (us.map U1) false], .dead]) (by simp [frzB, frz, hlm, hch]) ?_
  refine awp_keep (A' := [(2, .ptr H.length 0), (5, .ptr K.length 0)]) [2, 5] (by simp only [fwA, ↓reduceIte, Nat.reduceAdd, Nat.reduceMul, Nat.reduceEqDiff, Nat.reduceLT, Nat.reduceLeDiff, reduceCtorEq, akeep, frz] <;> rfl) ?_
  have hp := hp4 hallB
  have hin := hupin hallB
  have hw : W64 us := fun x hx => le64 (by omega) (hin x hx)
  have h37 := c42 Γ ns us hw (by omega) (by omega)
  have h38 := c43 Γ ns us hw (by omega) (by omega)
  have hJ := hJ0 [.box [.vec (ns.map S1) false, .vec (us.map U1) false], .dead]
  have hJP := hJp [.box [.vec (ns.map S1) false, .vec (us.map U1) false], .dead]
  have hJL := hJl [.box [.vec (ns.map S1) false, .vec (us.map U1) false], .dead]
  have hJ1 : (K ++ [Blk.box [.vec (ns.map S1) false, .vec (us.map U1) false], .dead])[K.length]? = some (.box [.vec (ns.map S1) false, .vec (us.map U1) false]) := by rw [Fw.get_at0]; rfl
  generalize K ++ [Blk.box [.vec (ns.map S1) false, .vec (us.map U1) false], .dead] = J at hJ hJP hJL hJ1 ⊢
  refine awp_seq ?_
  refine awp_block ?_
  refine awp_seq ?_
  cases ho : ordB us.length (lq us)
  · rw [ho] at h37
    rw [if_pos ho] at hp
    refine awp_region rfl ?_
    refine aops_run 1 (by simp only [fwA, ↓reduceIte, Nat.reduceAdd, Nat.reduceMul, Nat.reduceEqDiff, Nat.reduceLT, Nat.reduceLeDiff, reduceCtorEq, bitfw, Int.reduceToNat, Int.reduceLE, List.length_map, List.getElem?_map, Option.map_some, Int.natCast_nonneg, Int.toNat_natCast, decide_true, decide_false, Bool.and_true, Bool.and_self, Bool.not_true, Bool.not_false, Bool.false_and, Bool.true_and, un9, un22, un23, un5, un50, ti9, ti22, ti23, ti50, ti25, ti27, pl25, pl27, fl25_0, fl25_1, fl27_0, fl27_1, el22, el23, un3, S1_fw, U1_fw, hJ1] <;> rfl) ?_
    refine aops_fn rfl rfl rfl en42 h37 ?_
    refine aops_run 2 (by simp only [fwA, ↓reduceIte, Nat.reduceAdd, Nat.reduceMul, Nat.reduceEqDiff, Nat.reduceLT, Nat.reduceLeDiff, reduceCtorEq, bitfw, Int.reduceToNat, Int.reduceLE, List.length_map, List.getElem?_map, Option.map_some, Int.natCast_nonneg, Int.toNat_natCast, decide_true, decide_false, Bool.and_true, Bool.and_self, Bool.not_true, Bool.not_false, Bool.false_and, Bool.true_and, un9, un22, un23, un5, un50, ti9, ti22, ti23, ti50, ti25, ti27, pl25, pl27, fl25_0, fl25_1, fl27_0, fl27_1, el22, el23, un3, S1_fw, U1_fw, hJ1] <;> rfl) ?_
    refine aops_end ?_
    refine awp_cond (b := true) (by simp [alook, aput, ev]) ?_
    refine awp_seq ?_
    refine awp_run rfl (by simp only [fwA, ↓reduceIte, Nat.reduceAdd, Nat.reduceMul, Nat.reduceEqDiff, Nat.reduceLT, Nat.reduceLeDiff, reduceCtorEq, bitfw, Int.reduceToNat, Int.reduceLE, List.length_map, List.getElem?_map, Option.map_some, Int.natCast_nonneg, Int.toNat_natCast, decide_true, decide_false, Bool.and_true, Bool.and_self, Bool.not_true, Bool.not_false, Bool.false_and, Bool.true_and, un9, un22, un23, un5, un50, ti9, ti22, ti23, ti50, ti25, ti27, pl25, pl27, fl25_0, fl25_1, fl27_0, fl27_1, el22, el23, un3, S1_fw, U1_fw, hJ] <;> rfl) ?_
    refine awp_told (told_leBox H.length (hsetE J _ hJL) (leZ [] [] true true)) ?_
    refine awp_ret ?_
    exact hend _ _ [] [] 3 hp rfl rfl (hsetE _ _ (by rw [List.length_set]; exact hJL)) (hsetP _ _ (hsetP _ _ hJP))
  rw [ho] at h37
  rw [if_neg (by rw [ho]; simp)] at hp
  refine awp_region rfl ?_
  refine aops_run 1 (by simp only [fwA, ↓reduceIte, Nat.reduceAdd, Nat.reduceMul, Nat.reduceEqDiff, Nat.reduceLT, Nat.reduceLeDiff, reduceCtorEq, bitfw, Int.reduceToNat, Int.reduceLE, List.length_map, List.getElem?_map, Option.map_some, Int.natCast_nonneg, Int.toNat_natCast, decide_true, decide_false, Bool.and_true, Bool.and_self, Bool.not_true, Bool.not_false, Bool.false_and, Bool.true_and, un9, un22, un23, un5, un50, ti9, ti22, ti23, ti50, ti25, ti27, pl25, pl27, fl25_0, fl25_1, fl27_0, fl27_1, el22, el23, un3, S1_fw, U1_fw, hJ1] <;> rfl) ?_
  refine aops_fn rfl rfl rfl en42 h37 ?_
  refine aops_run 2 (by simp only [fwA, ↓reduceIte, Nat.reduceAdd, Nat.reduceMul, Nat.reduceEqDiff, Nat.reduceLT, Nat.reduceLeDiff, reduceCtorEq, bitfw, Int.reduceToNat, Int.reduceLE, List.length_map, List.getElem?_map, Option.map_some, Int.natCast_nonneg, Int.toNat_natCast, decide_true, decide_false, Bool.and_true, Bool.and_self, Bool.not_true, Bool.not_false, Bool.false_and, Bool.true_and, un9, un22, un23, un5, un50, ti9, ti22, ti23, ti50, ti25, ti27, pl25, pl27, fl25_0, fl25_1, fl27_0, fl27_1, el22, el23, un3, S1_fw, U1_fw, hJ1] <;> rfl) ?_
  refine aops_end ?_
  refine awp_cond (b := false) (by simp [alook, aput, ev]) ?_
  refine awp_seq ?_
  cases hb : boundB us.length (lq us)
  · rw [hb] at h38
    rw [if_pos hb] at hp
    refine awp_region rfl ?_
    refine aops_run 1 (by simp only [fwA, ↓reduceIte, Nat.reduceAdd, Nat.reduceMul, Nat.reduceEqDiff, Nat.reduceLT, Nat.reduceLeDiff, reduceCtorEq, bitfw, Int.reduceToNat, Int.reduceLE, List.length_map, List.getElem?_map, Option.map_some, Int.natCast_nonneg, Int.toNat_natCast, decide_true, decide_false, Bool.and_true, Bool.and_self, Bool.not_true, Bool.not_false, Bool.false_and, Bool.true_and, un9, un22, un23, un5, un50, ti9, ti22, ti23, ti50, ti25, ti27, pl25, pl27, fl25_0, fl25_1, fl27_0, fl27_1, el22, el23, un3, S1_fw, U1_fw, hJ1] <;> rfl) ?_
    refine aops_fn rfl rfl rfl en43 h38 ?_
    refine aops_run 2 (by simp only [fwA, ↓reduceIte, Nat.reduceAdd, Nat.reduceMul, Nat.reduceEqDiff, Nat.reduceLT, Nat.reduceLeDiff, reduceCtorEq, bitfw, Int.reduceToNat, Int.reduceLE, List.length_map, List.getElem?_map, Option.map_some, Int.natCast_nonneg, Int.toNat_natCast, decide_true, decide_false, Bool.and_true, Bool.and_self, Bool.not_true, Bool.not_false, Bool.false_and, Bool.true_and, un9, un22, un23, un5, un50, ti9, ti22, ti23, ti50, ti25, ti27, pl25, pl27, fl25_0, fl25_1, fl27_0, fl27_1, el22, el23, un3, S1_fw, U1_fw, hJ1] <;> rfl) ?_
    refine aops_end ?_
    refine awp_cond (b := true) (by simp [alook, aput, ev]) ?_
    refine awp_seq ?_
    refine awp_run rfl (by simp only [fwA, ↓reduceIte, Nat.reduceAdd, Nat.reduceMul, Nat.reduceEqDiff, Nat.reduceLT, Nat.reduceLeDiff, reduceCtorEq, bitfw, Int.reduceToNat, Int.reduceLE, List.length_map, List.getElem?_map, Option.map_some, Int.natCast_nonneg, Int.toNat_natCast, decide_true, decide_false, Bool.and_true, Bool.and_self, Bool.not_true, Bool.not_false, Bool.false_and, Bool.true_and, un9, un22, un23, un5, un50, ti9, ti22, ti23, ti50, ti25, ti27, pl25, pl27, fl25_0, fl25_1, fl27_0, fl27_1, el22, el23, un3, S1_fw, U1_fw, hJ] <;> rfl) ?_
    refine awp_told (told_leBox H.length (hsetE J _ hJL) (leZ [] [] true true)) ?_
    refine awp_ret ?_
    exact hend _ _ [] [] 4 hp rfl rfl (hsetE _ _ (by rw [List.length_set]; exact hJL)) (hsetP _ _ (hsetP _ _ hJP))
  rw [hb] at h38
  rw [if_neg (by rw [hb]; simp)] at hp
  refine awp_region rfl ?_
  refine aops_run 1 (by simp only [fwA, ↓reduceIte, Nat.reduceAdd, Nat.reduceMul, Nat.reduceEqDiff, Nat.reduceLT, Nat.reduceLeDiff, reduceCtorEq, bitfw, Int.reduceToNat, Int.reduceLE, List.length_map, List.getElem?_map, Option.map_some, Int.natCast_nonneg, Int.toNat_natCast, decide_true, decide_false, Bool.and_true, Bool.and_self, Bool.not_true, Bool.not_false, Bool.false_and, Bool.true_and, un9, un22, un23, un5, un50, ti9, ti22, ti23, ti50, ti25, ti27, pl25, pl27, fl25_0, fl25_1, fl27_0, fl27_1, el22, el23, un3, S1_fw, U1_fw, hJ1] <;> rfl) ?_
  refine aops_fn rfl rfl rfl en43 h38 ?_
  refine aops_run 2 (by simp only [fwA, ↓reduceIte, Nat.reduceAdd, Nat.reduceMul, Nat.reduceEqDiff, Nat.reduceLT, Nat.reduceLeDiff, reduceCtorEq, bitfw, Int.reduceToNat, Int.reduceLE, List.length_map, List.getElem?_map, Option.map_some, Int.natCast_nonneg, Int.toNat_natCast, decide_true, decide_false, Bool.and_true, Bool.and_self, Bool.not_true, Bool.not_false, Bool.false_and, Bool.true_and, un9, un22, un23, un5, un50, ti9, ti22, ti23, ti50, ti25, ti27, pl25, pl27, fl25_0, fl25_1, fl27_0, fl27_1, el22, el23, un3, S1_fw, U1_fw, hJ1] <;> rfl) ?_
  refine aops_end ?_
  refine awp_cond (b := false) (by simp [alook, aput, ev]) (awp_skip ?_)
  refine awp_seq ?_
  refine awp_run rfl (by simp only [fwA, ↓reduceIte, Nat.reduceAdd, Nat.reduceMul, Nat.reduceEqDiff, Nat.reduceLT, Nat.reduceLeDiff, reduceCtorEq, bitfw, Int.reduceToNat, Int.reduceLE, List.length_map, List.getElem?_map, Option.map_some, Int.natCast_nonneg, Int.toNat_natCast, decide_true, decide_false, Bool.and_true, Bool.and_self, Bool.not_true, Bool.not_false, Bool.false_and, Bool.true_and, un9, un22, un23, un5, un50, ti9, ti22, ti23, ti50, ti25, ti27, pl25, pl27, fl25_0, fl25_1, fl27_0, fl27_1, el22, el23, un3, S1_fw, U1_fw, hJ, hJ1] <;> rfl) ?_
  refine awp_ret ?_
  exact hend _ _ ns us 0 hp rfl rfl (hsetE _ _ hJL) (hsetP _ _ hJP)

end Go.Proofs.YtdhlghhokbmhdaaDoor
