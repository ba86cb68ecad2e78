/- The contracts of what the program tells of a lattice. -/
import Derived.Test.YtdhlghhokbmhdaaDoorL01f
namespace Go.Proofs.YtdhlghhokbmhdaaDoor
set_option linter.unusedVariables false
set_option linter.unusedSimpArgs false
set_option maxRecDepth 100000
open Go.RowKit Fw

/- chancel/lat.Right -/
theorem c15 (Γ : Nat → PV) (hΓ : Tab64 Γ) (ns : List (List UInt8)) (us : List Nat) (hw : W64 us) : Gives Tryd.prog Γ 15 [.agg [.vec (ns.map S1) false, .vec (us.map U1) false]] (.bool (rightB ns us)) := by
  refine fn_of_awp Tryd.func15 rfl (by simp [Tryd.f15]) rfl fun H => ?_
  refine awp_bd fun hbd0 => ?_
  refine awp_seq ?_
  refine awp_run rfl (by simp only [fwA, ↓reduceIte, Nat.reduceAdd, Nat.reduceMul, Nat.reduceEqDiff, Nat.reduceLT, Nat.reduceLeDiff, reduceCtorEq] <;> rfl) ?_
  have g0 : (H ++ [Blk.box [.vec (ns.map S1) false, .vec (us.map U1) false]])[H.length]? = some (.box [.vec (ns.map S1) false, .vec (us.map U1) false]) := by rw [Fw.get_at0]; rfl
  have h35 := c35 Γ ns
  generalize hK : H ++ [Blk.box [.vec (ns.map S1) false, .vec (us.map U1) false]] = K at g0 ⊢
  refine awp_seq ?_
  refine awp_seq ?_
  by_cases h1 : (64 : Int) < (ns.length : Int)
  · refine awp_region rfl ?_
    refine aops_run 13 (by simp only [fwA, ↓reduceIte, Nat.reduceAdd, Nat.reduceMul, Nat.reduceEqDiff, Nat.reduceLT, Nat.reduceLeDiff, reduceCtorEq, bitfw, List.length_map, List.getElem?_map, Option.map_some, Int.natCast_nonneg, Int.toNat_natCast, decide_true, decide_false, Bool.and_true, Bool.and_self, Bool.not_true, Bool.not_false, Bool.false_and, Bool.true_and, un9, un22, un23, el22, el23, ti9, ti22, ti23, ti25, ti27, ti50, un50, un3, ti3, ti4, fl25_0, fl25_1, fl27_0, fl27_1, S1_fw, U1_fw, g0, h1] <;> rfl) ?_
    refine aops_run 6 (by simp only [fwA, ↓reduceIte, Nat.reduceAdd, Nat.reduceMul, Nat.reduceEqDiff, Nat.reduceLT, Nat.reduceLeDiff, reduceCtorEq, bitfw, List.length_map, List.getElem?_map, Option.map_some, Int.natCast_nonneg, Int.toNat_natCast, decide_true, decide_false, Bool.and_true, Bool.and_self, Bool.not_true, Bool.not_false, Bool.false_and, Bool.true_and, un9, un22, un23, el22, el23, ti9, ti22, ti23, ti25, ti27, ti50, un50, un3, ti3, ti4, fl25_0, fl25_1, fl27_0, fl27_1, S1_fw, U1_fw, g0, h1] <;> rfl) ?_
    refine aops_end ?_
    refine awp_cond (b := true) (by simp [alook, aput, ev]) ?_
    refine awp_seq ?_
    refine awp_run rfl (by simp only [fwA, ↓reduceIte, Nat.reduceAdd, Nat.reduceMul, Nat.reduceEqDiff, Nat.reduceLT, Nat.reduceLeDiff, reduceCtorEq] <;> rfl) ?_
    refine awp_ret ?_
    subst hK
    exact gives_end (.inl rfl) _ (by unfold rightB; rw [decide_eq_false (by omega)]; rfl)
  by_cases h2 : (us.length : Int) = (ns.length : Int)
  rotate_left
  · refine awp_region rfl ?_
    refine aops_run 13 (by simp only [fwA, ↓reduceIte, Nat.reduceAdd, Nat.reduceMul, Nat.reduceEqDiff, Nat.reduceLT, Nat.reduceLeDiff, reduceCtorEq, bitfw, List.length_map, List.getElem?_map, Option.map_some, Int.natCast_nonneg, Int.toNat_natCast, decide_true, decide_false, Bool.and_true, Bool.and_self, Bool.not_true, Bool.not_false, Bool.false_and, Bool.true_and, un9, un22, un23, el22, el23, ti9, ti22, ti23, ti25, ti27, ti50, un50, un3, ti3, ti4, fl25_0, fl25_1, fl27_0, fl27_1, S1_fw, U1_fw, g0, h1, h2] <;> rfl) ?_
    refine aops_run 6 (by simp only [fwA, ↓reduceIte, Nat.reduceAdd, Nat.reduceMul, Nat.reduceEqDiff, Nat.reduceLT, Nat.reduceLeDiff, reduceCtorEq, bitfw, List.length_map, List.getElem?_map, Option.map_some, Int.natCast_nonneg, Int.toNat_natCast, decide_true, decide_false, Bool.and_true, Bool.and_self, Bool.not_true, Bool.not_false, Bool.false_and, Bool.true_and, un9, un22, un23, el22, el23, ti9, ti22, ti23, ti25, ti27, ti50, un50, un3, ti3, ti4, fl25_0, fl25_1, fl27_0, fl27_1, S1_fw, U1_fw, g0, h1, h2] <;> rfl) ?_
    refine aops_end ?_
    refine awp_cond (b := true) (by simp [alook, aput, ev]) ?_
    refine awp_seq ?_
    refine awp_run rfl (by simp only [fwA, ↓reduceIte, Nat.reduceAdd, Nat.reduceMul, Nat.reduceEqDiff, Nat.reduceLT, Nat.reduceLeDiff, reduceCtorEq] <;> rfl) ?_
    refine awp_ret ?_
    subst hK
    exact gives_end (.inl rfl) _ (by unfold rightB; rw [decide_eq_false (by omega : ¬ us.length = ns.length), Bool.and_false]; rfl)
  cases h3 : namedB ns
  · rw [h3] at h35
    refine awp_region rfl ?_
    refine aops_run 13 (by simp only [fwA, ↓reduceIte, Nat.reduceAdd, Nat.reduceMul, Nat.reduceEqDiff, Nat.reduceLT, Nat.reduceLeDiff, reduceCtorEq, bitfw, List.length_map, List.getElem?_map, Option.map_some, Int.natCast_nonneg, Int.toNat_natCast, decide_true, decide_false, Bool.and_true, Bool.and_self, Bool.not_true, Bool.not_false, Bool.false_and, Bool.true_and, un9, un22, un23, el22, el23, ti9, ti22, ti23, ti25, ti27, ti50, un50, un3, ti3, ti4, fl25_0, fl25_1, fl27_0, fl27_1, S1_fw, U1_fw, g0, h1, h2] <;> rfl) ?_
    refine aops_run 3 (by simp only [fwA, ↓reduceIte, Nat.reduceAdd, Nat.reduceMul, Nat.reduceEqDiff, Nat.reduceLT, Nat.reduceLeDiff, reduceCtorEq, bitfw, List.length_map, List.getElem?_map, Option.map_some, Int.natCast_nonneg, Int.toNat_natCast, decide_true, decide_false, Bool.and_true, Bool.and_self, Bool.not_true, Bool.not_false, Bool.false_and, Bool.true_and, un9, un22, un23, el22, el23, ti9, ti22, ti23, ti25, ti27, ti50, un50, un3, ti3, ti4, fl25_0, fl25_1, fl27_0, fl27_1, S1_fw, U1_fw, g0, h1, h2] <;> rfl) ?_
    refine aops_fnIf rfl rfl rfl rfl rfl en35 h35 ?_
    refine aops_run 2 (by simp only [fwA, ↓reduceIte, Nat.reduceAdd, Nat.reduceMul, Nat.reduceEqDiff, Nat.reduceLT, Nat.reduceLeDiff, reduceCtorEq, bitfw, List.length_map, List.getElem?_map, Option.map_some, Int.natCast_nonneg, Int.toNat_natCast, decide_true, decide_false, Bool.and_true, Bool.and_self, Bool.not_true, Bool.not_false, Bool.false_and, Bool.true_and, un9, un22, un23, el22, el23, ti9, ti22, ti23, ti25, ti27, ti50, un50, un3, ti3, ti4, fl25_0, fl25_1, fl27_0, fl27_1, S1_fw, U1_fw, g0, h1, h2] <;> rfl) ?_
    refine aops_end ?_
    refine awp_cond (b := true) (by simp [alook, aput, ev]) ?_
    refine awp_seq ?_
    refine awp_run rfl (by simp only [fwA, ↓reduceIte, Nat.reduceAdd, Nat.reduceMul, Nat.reduceEqDiff, Nat.reduceLT, Nat.reduceLeDiff, reduceCtorEq] <;> rfl) ?_
    refine awp_ret ?_
    subst hK
    exact gives_end (.inl rfl) _ (by unfold rightB; rw [h3, Bool.and_false]; rfl)
  rw [h3] at h35
  refine awp_region rfl ?_
  refine aops_run 13 (by simp only [fwA, ↓reduceIte, Nat.reduceAdd, Nat.reduceMul, Nat.reduceEqDiff, Nat.reduceLT, Nat.reduceLeDiff, reduceCtorEq, bitfw, List.length_map, List.getElem?_map, Option.map_some, Int.natCast_nonneg, Int.toNat_natCast, decide_true, decide_false, Bool.and_true, Bool.and_self, Bool.not_true, Bool.not_false, Bool.false_and, Bool.true_and, un9, un22, un23, el22, el23, ti9, ti22, ti23, ti25, ti27, ti50, un50, un3, ti3, ti4, fl25_0, fl25_1, fl27_0, fl27_1, S1_fw, U1_fw, g0, h1, h2] <;> rfl) ?_
  refine aops_run 3 (by simp only [fwA, ↓reduceIte, Nat.reduceAdd, Nat.reduceMul, Nat.reduceEqDiff, Nat.reduceLT, Nat.reduceLeDiff, reduceCtorEq, bitfw, List.length_map, List.getElem?_map, Option.map_some, Int.natCast_nonneg, Int.toNat_natCast, decide_true, decide_false, Bool.and_true, Bool.and_self, Bool.not_true, Bool.not_false, Bool.false_and, Bool.true_and, un9, un22, un23, el22, el23, ti9, ti22, ti23, ti25, ti27, ti50, un50, un3, ti3, ti4, fl25_0, fl25_1, fl27_0, fl27_1, S1_fw, U1_fw, g0, h1, h2] <;> rfl) ?_
  refine aops_fnIf rfl rfl rfl rfl rfl en35 h35 ?_
  refine aops_run 2 (by simp only [fwA, ↓reduceIte, Nat.reduceAdd, Nat.reduceMul, Nat.reduceEqDiff, Nat.reduceLT, Nat.reduceLeDiff, reduceCtorEq, bitfw, List.length_map, List.getElem?_map, Option.map_some, Int.natCast_nonneg, Int.toNat_natCast, decide_true, decide_false, Bool.and_true, Bool.and_self, Bool.not_true, Bool.not_false, Bool.false_and, Bool.true_and, un9, un22, un23, el22, el23, ti9, ti22, ti23, ti25, ti27, ti50, un50, un3, ti3, ti4, fl25_0, fl25_1, fl27_0, fl27_1, S1_fw, U1_fw, g0, h1, h2] <;> rfl) ?_
  refine aops_end ?_
  refine awp_cond (b := false) (by simp [alook, aput, ev]) (awp_skip ?_)
  have hn : us.length ≤ 64 := by omega
  have hR : rightB ns us = (us.all (fun x => decide (x < 2 ^ us.length)) && (ordB us.length (lq us) && boundB us.length (lq us))) := by
    unfold rightB
    rw [h3, decide_eq_true (by omega : ns.length ≤ 64), decide_eq_true (by omega : us.length = ns.length)]; rfl
  rw [hR]
  have h46 := c46 Γ 44 en44 [.ptr H.length 0] (fun x => !decide (x < 2 ^ us.length)) us K (fun x hx => c44 Γ ns us hn x (hw x hx) K H.length g0)
  have hany : us.any (fun x => !decide (x < 2 ^ us.length)) = !us.all (fun x => decide (x < 2 ^ us.length)) := by
    rw [List.not_all_eq_any_not]
  rw [hany] at h46
  refine awp_seq ?_
  refine awp_run rfl (by simp only [fwA, ↓reduceIte, Nat.reduceAdd, Nat.reduceMul, Nat.reduceEqDiff, Nat.reduceLT, Nat.reduceLeDiff, reduceCtorEq] <;> rfl) ?_
  refine awp_seq ?_
  refine awp_region rfl ?_
  refine aops_run 3 (by simp only [fwA, ↓reduceIte, Nat.reduceAdd, Nat.reduceMul, Nat.reduceEqDiff, Nat.reduceLT, Nat.reduceLeDiff, reduceCtorEq, bitfw, List.length_map, List.getElem?_map, Option.map_some, Int.natCast_nonneg, Int.toNat_natCast, decide_true, decide_false, Bool.and_true, Bool.and_self, Bool.not_true, Bool.not_false, Bool.false_and, Bool.true_and, un9, un22, un23, el22, el23, ti9, ti22, ti23, ti25, ti27, ti50, un50, un3, ti3, ti4, fl25_0, fl25_1, fl27_0, fl27_1, S1_fw, U1_fw, g0] <;> rfl) ?_
  refine aops_call rfl rfl rfl en46 (h46.mono fun p H' hp => ?_)
  obtain ⟨rfl, e⟩ := hp
  rw [e]
  cases h4 : us.all (fun x => decide (x < 2 ^ us.length))
  · refine aops_run 10 (by simp only [fwA, ↓reduceIte, Nat.reduceAdd, Nat.reduceMul, Nat.reduceEqDiff, Nat.reduceLT, Nat.reduceLeDiff, reduceCtorEq, bitfw, List.length_map, List.getElem?_map, Option.map_some, Int.natCast_nonneg, Int.toNat_natCast, decide_true, decide_false, Bool.and_true, Bool.and_self, Bool.not_true, Bool.not_false, Bool.false_and, Bool.true_and, un9, un22, un23, el22, el23, ti9, ti22, ti23, ti25, ti27, ti50, un50, un3, ti3, ti4, fl25_0, fl25_1, fl27_0, fl27_1, S1_fw, U1_fw] <;> rfl) ?_
    refine aops_end ?_
    refine awp_ret ?_
    subst hK
    exact gives_end (.inl rfl) _ rfl
  have hi : Inn us.length us := fun x hx => by
    rw [List.all_eq_true] at h4
    exact of_decide_eq_true (h4 x hx)
  have h37 := c37 Γ hΓ ns us hn hi
  have h38 := c38 Γ hΓ ns us hn hi
  refine aops_run 3 (by simp only [fwA, ↓reduceIte, Nat.reduceAdd, Nat.reduceMul, Nat.reduceEqDiff, Nat.reduceLT, Nat.reduceLeDiff, reduceCtorEq, bitfw, List.length_map, List.getElem?_map, Option.map_some, Int.natCast_nonneg, Int.toNat_natCast, decide_true, decide_false, Bool.and_true, Bool.and_self, Bool.not_true, Bool.not_false, Bool.false_and, Bool.true_and, un9, un22, un23, el22, el23, ti9, ti22, ti23, ti25, ti27, ti50, un50, un3, ti3, ti4, fl25_0, fl25_1, fl27_0, fl27_1, S1_fw, U1_fw, g0] <;> rfl) ?_
  refine aops_fnIf rfl rfl rfl rfl rfl en37 h37 ?_
  cases h5 : ordB us.length (lq us)
  · refine aops_run 6 (by simp only [fwA, ↓reduceIte, Nat.reduceAdd, Nat.reduceMul, Nat.reduceEqDiff, Nat.reduceLT, Nat.reduceLeDiff, reduceCtorEq, bitfw, List.length_map, List.getElem?_map, Option.map_some, Int.natCast_nonneg, Int.toNat_natCast, decide_true, decide_false, Bool.and_true, Bool.and_self, Bool.not_true, Bool.not_false, Bool.false_and, Bool.true_and, un9, un22, un23, el22, el23, ti9, ti22, ti23, ti25, ti27, ti50, un50, un3, ti3, ti4, fl25_0, fl25_1, fl27_0, fl27_1, S1_fw, U1_fw, g0] <;> rfl) ?_
    refine aops_end ?_
    refine awp_ret ?_
    subst hK
    exact gives_end (.inl rfl) _ rfl
  rw [boundP_eq (ordB_iff.1 h5)] at h38
  refine aops_run 3 (by simp only [fwA, ↓reduceIte, Nat.reduceAdd, Nat.reduceMul, Nat.reduceEqDiff, Nat.reduceLT, Nat.reduceLeDiff, reduceCtorEq, bitfw, List.length_map, List.getElem?_map, Option.map_some, Int.natCast_nonneg, Int.toNat_natCast, decide_true, decide_false, Bool.and_true, Bool.and_self, Bool.not_true, Bool.not_false, Bool.false_and, Bool.true_and, un9, un22, un23, el22, el23, ti9, ti22, ti23, ti25, ti27, ti50, un50, un3, ti3, ti4, fl25_0, fl25_1, fl27_0, fl27_1, S1_fw, U1_fw, g0] <;> rfl) ?_
  refine aops_fnIf rfl rfl rfl rfl rfl en38 h38 ?_
  refine aops_run 2 (by simp only [fwA, ↓reduceIte, Nat.reduceAdd, Nat.reduceMul, Nat.reduceEqDiff, Nat.reduceLT, Nat.reduceLeDiff, reduceCtorEq, bitfw, List.length_map, List.getElem?_map, Option.map_some, Int.natCast_nonneg, Int.toNat_natCast, decide_true, decide_false, Bool.and_true, Bool.and_self, Bool.not_true, Bool.not_false, Bool.false_and, Bool.true_and, un9, un22, un23, el22, el23, ti9, ti22, ti23, ti25, ti27, ti50, un50, un3, ti3, ti4, fl25_0, fl25_1, fl27_0, fl27_1, S1_fw, U1_fw, g0] <;> rfl) ?_
  refine aops_end ?_
  refine awp_ret ?_
  subst hK
  exact gives_end (.inl rfl) _ rfl

/- slices.Index at words -/
theorem c55 (Γ : Nat → PV) (us : List Nat) (v : Nat) : Gives Tryd.prog Γ 55 [.vec (us.map U1) false, .int .u64 (v : Int)] (.int .i64 (idxF (fun x => decide (v = x)) us)) := by
  refine fn_of_awp Tryd.func55 rfl (by simp [Tryd.f55]) rfl fun H => ?_
  refine awp_vlen 0 rfl fun hsl => ?_
  rw [List.length_map] at hsl
  refine awp_seq ?_
  refine awp_run rfl (by simp only [fwA, ↓reduceIte, Nat.reduceAdd, Nat.reduceMul, Nat.reduceEqDiff, Nat.reduceLT, Nat.reduceLeDiff, reduceCtorEq] <;> rfl) ?_
  refine awp_seq ?_
  refine awp_seq ?_
  refine awp_run rfl (by simp only [fwA, ↓reduceIte, Nat.reduceAdd, Nat.reduceMul, Nat.reduceEqDiff, Nat.reduceLT, Nat.reduceLeDiff, reduceCtorEq, bitfw, List.length_map, List.getElem?_map, Option.map_some, Int.natCast_nonneg, Int.toNat_natCast, decide_true, decide_false, Bool.and_true, Bool.and_self, Bool.not_true, Bool.not_false, Bool.false_and, Bool.true_and, un9, un22, un23, el22, el23, ti9, ti22, ti23, ti25, ti27, ti50, un50, un3, ti3, ti4, fl25_0, fl25_1, fl27_0, fl27_1, S1_fw, U1_fw] <;> rfl) ?_
  refine awp_block ?_
  refine awp_for [0, 1, 7, 8] (fun i : Nat => [.vec (us.map U1) false, .int .u64 (v : Int), .int .i64 (us.length : Int), .int .i64 (i : Int)]) (fun _ => H) (fun i => us.length - i) (fun i => i ≤ us.length ∧ ∀ j y, j < i → us[j]? = some y → decide (v = y) = false) 0 rfl rfl ⟨Nat.zero_le _, fun j y hj => by omega⟩ fun i hs => ?_
  obtain ⟨hil, hno⟩ := hs
  refine awp_seq ?_
  refine awp_run rfl (by simp only [fwA, ↓reduceIte, Nat.reduceAdd, Nat.reduceMul, Nat.reduceEqDiff, Nat.reduceLT, Nat.reduceLeDiff, reduceCtorEq, bitfw, List.length_map, List.getElem?_map, Option.map_some, Int.natCast_nonneg, Int.toNat_natCast, decide_true, decide_false, Bool.and_true, Bool.and_self, Bool.not_true, Bool.not_false, Bool.false_and, Bool.true_and, un9, un22, un23, el22, el23, ti9, ti22, ti23, ti25, ti27, ti50, un50, un3, ti3, ti4, fl25_0, fl25_1, fl27_0, fl27_1, S1_fw, U1_fw] <;> rfl) ?_
  refine awp_seq ?_
  refine awp_cond (by simp only [fwA, ↓reduceIte, Nat.reduceAdd, Nat.reduceMul, Nat.reduceEqDiff, Nat.reduceLT, Nat.reduceLeDiff, reduceCtorEq] <;> rfl) ?_
  by_cases hc : (i : Int) < us.length
  rotate_left
  · simp only [hc, decide_false, Bool.false_eq_true, ↓reduceIte]
    refine awp_exit ?_
    have e : i = us.length := by omega
    subst e
    refine awp_seq ?_
    refine awp_run rfl (by simp only [fwA, ↓reduceIte, Nat.reduceAdd, Nat.reduceMul, Nat.reduceEqDiff, Nat.reduceLT, Nat.reduceLeDiff, reduceCtorEq] <;> rfl) ?_
    refine awp_ret ?_
    exact gives_end0 (.inl rfl) (by rw [idxF_none hno]; rfl)
  simp only [hc, decide_true, ↓reduceIte]
  refine awp_skip ?_
  have hill : i < us.length := by omega
  have ga : us[i]? = some us[i] := List.getElem?_eq_getElem hill
  generalize us[i] = x at ga
  have hwi : IntKind.i64.wrap ((i : Int) + 1) = ((i + 1 : Nat) : Int) := wrapS i (by omega)
  refine awp_seq ?_
  refine awp_block ?_
  refine awp_seq ?_
  refine awp_run rfl (by simp only [fwA, ↓reduceIte, Nat.reduceAdd, Nat.reduceMul, Nat.reduceEqDiff, Nat.reduceLT, Nat.reduceLeDiff, reduceCtorEq] <;> rfl) ?_
  refine awp_seq ?_
  by_cases hq : (v : Int) = (x : Int)
  · refine awp_run rfl (by simp only [fwA, ↓reduceIte, Nat.reduceAdd, Nat.reduceMul, Nat.reduceEqDiff, Nat.reduceLT, Nat.reduceLeDiff, reduceCtorEq, bitfw, List.length_map, List.getElem?_map, Option.map_some, Int.natCast_nonneg, Int.toNat_natCast, decide_true, decide_false, Bool.and_true, Bool.and_self, Bool.not_true, Bool.not_false, Bool.false_and, Bool.true_and, un9, un22, un23, el22, el23, ti9, ti22, ti23, ti25, ti27, ti50, un50, un3, ti3, ti4, fl25_0, fl25_1, fl27_0, fl27_1, S1_fw, U1_fw, ga, hq] <;> rfl) ?_
    refine awp_cond (b := true) (by simp [alook, aput, ev]) ?_
    refine awp_seq ?_
    refine awp_run rfl (by simp only [fwA, ↓reduceIte, Nat.reduceAdd, Nat.reduceMul, Nat.reduceEqDiff, Nat.reduceLT, Nat.reduceLeDiff, reduceCtorEq] <;> rfl) ?_
    refine awp_ret ?_
    exact gives_end0 (.inl rfl) (by rw [idxF_some hno ga (decide_eq_true (by omega))]; rfl)
  · refine awp_run rfl (by simp only [fwA, ↓reduceIte, Nat.reduceAdd, Nat.reduceMul, Nat.reduceEqDiff, Nat.reduceLT, Nat.reduceLeDiff, reduceCtorEq, bitfw, List.length_map, List.getElem?_map, Option.map_some, Int.natCast_nonneg, Int.toNat_natCast, decide_true, decide_false, Bool.and_true, Bool.and_self, Bool.not_true, Bool.not_false, Bool.false_and, Bool.true_and, un9, un22, un23, el22, el23, ti9, ti22, ti23, ti25, ti27, ti50, un50, un3, ti3, ti4, fl25_0, fl25_1, fl27_0, fl27_1, S1_fw, U1_fw, ga, hq] <;> rfl) ?_
    refine awp_cond (b := false) (by simp [alook, aput, ev]) (awp_skip ?_)
    refine awp_run rfl (by simp only [fwA, ↓reduceIte, Nat.reduceAdd, Nat.reduceMul, Nat.reduceEqDiff, Nat.reduceLT, Nat.reduceLeDiff, reduceCtorEq] <;> rfl) ?_
    refine ⟨i + 1, by omega, ⟨by omega, fun j y hj hy => ?_⟩, ?_, rfl, rfl⟩
    · by_cases hji : j = i
      · subst hji; rw [ga] at hy; cases hy; exact decide_eq_false (by omega)
      · exact hno j y (by omega) hy
    · simp only [fwA, ↓reduceIte, Nat.reduceAdd, Nat.reduceMul, Nat.reduceEqDiff, Nat.reduceLT, Nat.reduceLeDiff, reduceCtorEq, List.map_cons, List.map_nil, hwi]

theorem shr_div {x : Nat} (a : Nat) (hx : x < 2 ^ 64) : (x : Int).fdiv (2 ^ min a IntKind.u64.bits) = ((x / 2 ^ a : Nat) : Int) := by rw [uShr a hx, Nat.shiftRight_eq_div_pow]
theorem and_m {x : Nat} (m : Nat) (hx : x < 2 ^ 64) : IntKind.u64.wrap ((BitVec.ofInt IntKind.u64.bits (x : Int) &&& BitVec.ofInt IntKind.u64.bits (m : Int)).toNat : Int) = ((x &&& m : Nat) : Int) := uAnd hx
theorem add_u {x y : Nat} (h : x + y < 18446744073709551616) : IntKind.u64.wrap ((x : Int) + (y : Int)) = ((x + y : Nat) : Int) := by
  have e : (x : Int) + (y : Int) = ((x + y : Nat) : Int) := by omega
  rw [e, uWrapN h]
theorem low7 (x : Nat) (hx : x < 18446744073709551616) : IntKind.i64.wrap ((BitVec.ofInt IntKind.i64.bits (IntKind.i64.wrap (x : Int)) &&& BitVec.ofInt IntKind.i64.bits 127).toNat : Int) = ((x &&& 127 : Nat) : Int) := by
  have e1 : BitVec.ofInt 64 (IntKind.i64.wrap (x : Int)) = BitVec.ofInt 64 (x : Int) := by
    apply BitVec.eq_of_toNat_eq
    rw [BitVec.toNat_ofInt, BitVec.toNat_ofInt]
    have : IntKind.i64.wrap (x : Int) = if (x : Int) < 9223372036854775808 then (x : Int) else (x : Int) - 18446744073709551616 := by
      unfold IntKind.wrap
      have hb : IntKind.i64.bits = 64 := rfl
      have hsg : IntKind.i64.signed = true := rfl
      simp only [hb, hsg, Bool.true_and, decide_eq_true_eq]
      split <;> split <;> omega
    rw [this]
    split
    · rfl
    · congr 1
      omega
  show IntKind.i64.wrap ((BitVec.ofInt 64 (IntKind.i64.wrap (x : Int)) &&& BitVec.ofInt 64 127).toNat : Int) = _
  rw [e1]
  have e2 : (BitVec.ofInt 64 (x : Int) &&& BitVec.ofInt 64 127).toNat = x &&& 127 := and_nat (x := x) (y := 127) hx
  rw [e2]
  have : x &&& 127 ≤ 127 := Nat.and_le_right
  exact wrapId ⟨by omega, by omega⟩
set_option maxRecDepth 10000 in
/- math/bits.OnesCount64 -/
theorem c58 (Γ : Nat → PV) (x : Nat) (hx : x < 2 ^ 64) : Gives Tryd.prog Γ 58 [.int .u64 (x : Int)] (.int .i64 (((bitsOf x).length : Nat) : Int)) := by
  have hpop := pop_all x hx
  simp only at hpop
  generalize hx1 : (x / 2 &&& 6148914691236517205) + (x &&& 6148914691236517205) = x1 at hpop
  generalize hx2 : (x1 / 4 &&& 3689348814741910323) + (x1 &&& 3689348814741910323) = x2 at hpop
  generalize hx3 : (x2 / 16 + x2) &&& 1085102592571150095 = x3 at hpop
  generalize hy1 : x3 + x3 / 256 = y1 at hpop
  generalize hy2 : y1 + y1 / 65536 = y2 at hpop
  generalize hy3 : y2 + y2 / 4294967296 = y3 at hpop
  obtain ⟨p1, p2, p3, p4, p5, p6, p7⟩ := hpop
  rw [← p7]
  have l0 : x / 2 < 2 ^ 64 := Nat.lt_of_le_of_lt (Nat.div_le_self _ _) hx
  have l1 : x1 / 4 < 2 ^ 64 := Nat.lt_of_le_of_lt (Nat.div_le_self _ _) p1
  have p3' : x3 < 18446744073709551616 := by rw [← hx3]; exact Nat.lt_of_le_of_lt Nat.and_le_left p3
  have a1 : (x : Int).fdiv (2 ^ min 1 IntKind.u64.bits) = ((x / 2 : Nat) : Int) := shr_div 1 hx
  have a2 : IntKind.u64.wrap ((BitVec.ofInt IntKind.u64.bits ((x / 2 : Nat) : Int) &&& BitVec.ofInt IntKind.u64.bits 6148914691236517205).toNat : Int) = ((x / 2 &&& 6148914691236517205 : Nat) : Int) := and_m 6148914691236517205 l0
  have a3 : IntKind.u64.wrap ((BitVec.ofInt IntKind.u64.bits (x : Int) &&& BitVec.ofInt IntKind.u64.bits 6148914691236517205).toNat : Int) = ((x &&& 6148914691236517205 : Nat) : Int) := and_m 6148914691236517205 hx
  have a4 : IntKind.u64.wrap (((x / 2 &&& 6148914691236517205 : Nat) : Int) + ((x &&& 6148914691236517205 : Nat) : Int)) = (x1 : Int) := by rw [add_u (by rw [hx1]; exact p1), hx1]
  have b1 : (x1 : Int).fdiv (2 ^ min 2 IntKind.u64.bits) = ((x1 / 4 : Nat) : Int) := shr_div 2 p1
  have b2 : IntKind.u64.wrap ((BitVec.ofInt IntKind.u64.bits ((x1 / 4 : Nat) : Int) &&& BitVec.ofInt IntKind.u64.bits 3689348814741910323).toNat : Int) = ((x1 / 4 &&& 3689348814741910323 : Nat) : Int) := and_m 3689348814741910323 l1
  have b3 : IntKind.u64.wrap ((BitVec.ofInt IntKind.u64.bits (x1 : Int) &&& BitVec.ofInt IntKind.u64.bits 3689348814741910323).toNat : Int) = ((x1 &&& 3689348814741910323 : Nat) : Int) := and_m 3689348814741910323 p1
  have b4 : IntKind.u64.wrap (((x1 / 4 &&& 3689348814741910323 : Nat) : Int) + ((x1 &&& 3689348814741910323 : Nat) : Int)) = (x2 : Int) := by rw [add_u (by rw [hx2]; exact p2), hx2]
  have d1 : (x2 : Int).fdiv (2 ^ min 4 IntKind.u64.bits) = ((x2 / 16 : Nat) : Int) := shr_div 4 p2
  have d2 : IntKind.u64.wrap (((x2 / 16 : Nat) : Int) + (x2 : Int)) = ((x2 / 16 + x2 : Nat) : Int) := add_u p3
  have d3 : IntKind.u64.wrap ((BitVec.ofInt IntKind.u64.bits ((x2 / 16 + x2 : Nat) : Int) &&& BitVec.ofInt IntKind.u64.bits 1085102592571150095).toNat : Int) = (x3 : Int) := by rw [← hx3]; exact and_m 1085102592571150095 p3
  have e1 : (x3 : Int).fdiv (2 ^ min 8 IntKind.u64.bits) = ((x3 / 256 : Nat) : Int) := shr_div 8 p3'
  have e2 : IntKind.u64.wrap ((x3 : Int) + ((x3 / 256 : Nat) : Int)) = (y1 : Int) := by rw [add_u (by rw [hy1]; exact p4), hy1]
  have f1 : (y1 : Int).fdiv (2 ^ min 16 IntKind.u64.bits) = ((y1 / 65536 : Nat) : Int) := shr_div 16 p4
  have f2 : IntKind.u64.wrap ((y1 : Int) + ((y1 / 65536 : Nat) : Int)) = (y2 : Int) := by rw [add_u (by rw [hy2]; exact p5), hy2]
  have k1 : (y2 : Int).fdiv (2 ^ min 32 IntKind.u64.bits) = ((y2 / 4294967296 : Nat) : Int) := shr_div 32 p5
  have k2 : IntKind.u64.wrap ((y2 : Int) + ((y2 / 4294967296 : Nat) : Int)) = (y3 : Int) := by rw [add_u (by rw [hy3]; exact p6), hy3]
  have k3 := low7 y3 p6
  clear hx1 hx2 hx3 hy1 hy2 hy3 p7
  refine fn_of_awp Tryd.func58 rfl (by simp [Tryd.f58]) rfl fun H => ?_
  refine awp_seq ?_
  refine awp_run rfl (by simp only [fwA, ↓reduceIte, Nat.reduceAdd, Nat.reduceMul, Nat.reduceEqDiff, Nat.reduceLT, Nat.reduceLeDiff, reduceCtorEq] <;> rfl) ?_
  refine awp_seq ?_
  refine awp_run rfl (by simp only [fwA, ↓reduceIte, Nat.reduceAdd, Nat.reduceMul, Nat.reduceEqDiff, Nat.reduceLT, Nat.reduceLeDiff, reduceCtorEq, bitfw, List.length_map, List.getElem?_map, Option.map_some, Int.natCast_nonneg, Int.toNat_natCast, decide_true, decide_false, Bool.and_true, Bool.and_self, Bool.not_true, Bool.not_false, Bool.false_and, Bool.true_and, un9, un22, un23, el22, el23, ti9, ti22, ti23, ti25, ti27, ti50, un50, un3, ti3, ti4, fl25_0, fl25_1, fl27_0, fl27_1, S1_fw, U1_fw, Int.reduceToNat, Int.reduceLE, a1, a2, a3, a4] <;> rfl) ?_
  refine awp_seq ?_
  refine awp_run rfl (by simp only [fwA, ↓reduceIte, Nat.reduceAdd, Nat.reduceMul, Nat.reduceEqDiff, Nat.reduceLT, Nat.reduceLeDiff, reduceCtorEq, bitfw, List.length_map, List.getElem?_map, Option.map_some, Int.natCast_nonneg, Int.toNat_natCast, decide_true, decide_false, Bool.and_true, Bool.and_self, Bool.not_true, Bool.not_false, Bool.false_and, Bool.true_and, un9, un22, un23, el22, el23, ti9, ti22, ti23, ti25, ti27, ti50, un50, un3, ti3, ti4, fl25_0, fl25_1, fl27_0, fl27_1, S1_fw, U1_fw, Int.reduceToNat, Int.reduceLE, b1, b2, b3, b4] <;> rfl) ?_
  refine awp_seq ?_
  refine awp_run rfl (by simp only [fwA, ↓reduceIte, Nat.reduceAdd, Nat.reduceMul, Nat.reduceEqDiff, Nat.reduceLT, Nat.reduceLeDiff, reduceCtorEq, bitfw, List.length_map, List.getElem?_map, Option.map_some, Int.natCast_nonneg, Int.toNat_natCast, decide_true, decide_false, Bool.and_true, Bool.and_self, Bool.not_true, Bool.not_false, Bool.false_and, Bool.true_and, un9, un22, un23, el22, el23, ti9, ti22, ti23, ti25, ti27, ti50, un50, un3, ti3, ti4, fl25_0, fl25_1, fl27_0, fl27_1, S1_fw, U1_fw, Int.reduceToNat, Int.reduceLE, d1, d2, d3] <;> rfl) ?_
  refine awp_seq ?_
  refine awp_run rfl (by simp only [fwA, ↓reduceIte, Nat.reduceAdd, Nat.reduceMul, Nat.reduceEqDiff, Nat.reduceLT, Nat.reduceLeDiff, reduceCtorEq, bitfw, List.length_map, List.getElem?_map, Option.map_some, Int.natCast_nonneg, Int.toNat_natCast, decide_true, decide_false, Bool.and_true, Bool.and_self, Bool.not_true, Bool.not_false, Bool.false_and, Bool.true_and, un9, un22, un23, el22, el23, ti9, ti22, ti23, ti25, ti27, ti50, un50, un3, ti3, ti4, fl25_0, fl25_1, fl27_0, fl27_1, S1_fw, U1_fw, Int.reduceToNat, Int.reduceLE, e1, e2] <;> rfl) ?_
  refine awp_seq ?_
  refine awp_run rfl (by simp only [fwA, ↓reduceIte, Nat.reduceAdd, Nat.reduceMul, Nat.reduceEqDiff, Nat.reduceLT, Nat.reduceLeDiff, reduceCtorEq, bitfw, List.length_map, List.getElem?_map, Option.map_some, Int.natCast_nonneg, Int.toNat_natCast, decide_true, decide_false, Bool.and_true, Bool.and_self, Bool.not_true, Bool.not_false, Bool.false_and, Bool.true_and, un9, un22, un23, el22, el23, ti9, ti22, ti23, ti25, ti27, ti50, un50, un3, ti3, ti4, fl25_0, fl25_1, fl27_0, fl27_1, S1_fw, U1_fw, Int.reduceToNat, Int.reduceLE, f1, f2] <;> rfl) ?_
  refine awp_seq ?_
  refine awp_run rfl (by simp only [fwA, ↓reduceIte, Nat.reduceAdd, Nat.reduceMul, Nat.reduceEqDiff, Nat.reduceLT, Nat.reduceLeDiff, reduceCtorEq, bitfw, List.length_map, List.getElem?_map, Option.map_some, Int.natCast_nonneg, Int.toNat_natCast, decide_true, decide_false, Bool.and_true, Bool.and_self, Bool.not_true, Bool.not_false, Bool.false_and, Bool.true_and, un9, un22, un23, el22, el23, ti9, ti22, ti23, ti25, ti27, ti50, un50, un3, ti3, ti4, fl25_0, fl25_1, fl27_0, fl27_1, S1_fw, U1_fw, Int.reduceToNat, Int.reduceLE, k1, k2] <;> rfl) ?_
  refine awp_seq ?_
  refine awp_run rfl (by simp only [fwA, ↓reduceIte, Nat.reduceAdd, Nat.reduceMul, Nat.reduceEqDiff, Nat.reduceLT, Nat.reduceLeDiff, reduceCtorEq, bitfw, List.length_map, List.getElem?_map, Option.map_some, Int.natCast_nonneg, Int.toNat_natCast, decide_true, decide_false, Bool.and_true, Bool.and_self, Bool.not_true, Bool.not_false, Bool.false_and, Bool.true_and, un9, un22, un23, el22, el23, ti9, ti22, ti23, ti25, ti27, ti50, un50, un3, ti3, ti4, fl25_0, fl25_1, fl27_0, fl27_1, S1_fw, U1_fw, k3] <;> rfl) ?_
  refine awp_ret ?_
  exact gives_end0 (.inl rfl) rfl

/- chancel/lat.Top's test of a row -/
theorem c57 (Γ : Nat → PV) (x : Nat) (hx : x < 2 ^ 64) : Gives Tryd.prog Γ 57 [.int .u64 (x : Int)] (.bool (decide ((bitsOf x).length = 1))) := by
  have h58 := c58 Γ x hx
  refine fn_of_awp Tryd.func57 rfl (by simp [Tryd.f57]) rfl fun H => ?_
  refine awp_seq ?_
  refine awp_run rfl (by simp only [fwA, ↓reduceIte, Nat.reduceAdd, Nat.reduceMul, Nat.reduceEqDiff, Nat.reduceLT, Nat.reduceLeDiff, reduceCtorEq] <;> rfl) ?_
  refine awp_seq ?_
  refine awp_region rfl ?_
  refine aops_run 1 (by simp only [fwA, ↓reduceIte, Nat.reduceAdd, Nat.reduceMul, Nat.reduceEqDiff, Nat.reduceLT, Nat.reduceLeDiff, reduceCtorEq, bitfw, List.length_map, List.getElem?_map, Option.map_some, Int.natCast_nonneg, Int.toNat_natCast, decide_true, decide_false, Bool.and_true, Bool.and_self, Bool.not_true, Bool.not_false, Bool.false_and, Bool.true_and, un9, un22, un23, el22, el23, ti9, ti22, ti23, ti25, ti27, ti50, un50, un3, ti3, ti4, fl25_0, fl25_1, fl27_0, fl27_1, S1_fw, U1_fw] <;> rfl) ?_
  refine aops_fn rfl rfl rfl en58 h58 ?_
  refine aops_run 2 (by simp only [fwA, ↓reduceIte, Nat.reduceAdd, Nat.reduceMul, Nat.reduceEqDiff, Nat.reduceLT, Nat.reduceLeDiff, reduceCtorEq, bitfw, List.length_map, List.getElem?_map, Option.map_some, Int.natCast_nonneg, Int.toNat_natCast, decide_true, decide_false, Bool.and_true, Bool.and_self, Bool.not_true, Bool.not_false, Bool.false_and, Bool.true_and, un9, un22, un23, el22, el23, ti9, ti22, ti23, ti25, ti27, ti50, un50, un3, ti3, ti4, fl25_0, fl25_1, fl27_0, fl27_1, S1_fw, U1_fw] <;> rfl) ?_
  refine aops_end ?_
  refine awp_ret ?_
  have e : decide ((((bitsOf x).length : Nat) : Int) = 1) = decide ((bitsOf x).length = 1) := decide_eq_decide.2 (by omega)
  exact gives_end0 (.inl rfl) (by rw [← e]; rfl)

end Go.Proofs.YtdhlghhokbmhdaaDoor
