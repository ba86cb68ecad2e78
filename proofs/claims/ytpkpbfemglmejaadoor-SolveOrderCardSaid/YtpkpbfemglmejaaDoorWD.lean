/- The contracts of what the program tells of a lattice. -/
import Derived.Test.YtpkpbfemglmejaaDoorWC
import Derived.Test.YtpkpbfemglmejaaDoorWB
import Derived.Shelf.GgSortFunc.RowK
import Derived.Sort.Row
import Derived.Test.YtpkpbfemglmejaaDoorProg
import Derived.Shelf.SlicesG.Cmp
import Derived.Shelf.SortM.Plain
import Derived.Shelf.SortM.SortNone
namespace Go.Proofs.YtpkpbfemglmejaaDoor
set_option linter.unusedVariables false
set_option linter.unusedSimpArgs false
set_option maxRecDepth 100000
open Go.RowKit Fw

/- chancel/lat.Right -/
theorem c38 (Γ : Nat → PV) (hΓ : Tab64 Γ) (ns : List (List UInt8)) (us : List Nat) (hw : W64 us) : Gives Tryd.prog Γ 38 [.agg [.vec (ns.map S1) false, .vec (us.map U1) false]] (.bool (rightB ns us)) := by
  refine fn_of_awp Tryd.func38 rfl (by simp [Tryd.f38]) rfl fun H => ?_
  refine awp_bd fun hbd0 => ?_
  refine awp_seq ?_
  refine awp_run rfl (by simp only [fwA, ↓reduceIte, Nat.reduceAdd, Nat.reduceMul, Nat.reduceEqDiff, Nat.reduceLT, Nat.reduceLeDiff, reduceCtorEq] <;> rfl) ?_
  have g0 : (H ++ [Blk.box [.vec (ns.map S1) false, .vec (us.map U1) false]])[H.length]? = some (.box [.vec (ns.map S1) false, .vec (us.map U1) false]) := by rw [Fw.get_at0]; rfl
  have h35 := c51 Γ ns
  generalize hK : H ++ [Blk.box [.vec (ns.map S1) false, .vec (us.map U1) false]] = K at g0 ⊢
  refine awp_seq ?_
  refine awp_seq ?_
  by_cases h1 : (64 : Int) < (ns.length : Int)
  · refine awp_region rfl ?_
    refine aops_run 13 (by simp only [fwA, ↓reduceIte, Nat.reduceAdd, Nat.reduceMul, Nat.reduceEqDiff, Nat.reduceLT, Nat.reduceLeDiff, reduceCtorEq, bitfw, List.length_map, List.getElem?_map, Option.map_some, Int.natCast_nonneg, Int.toNat_natCast, decide_true, decide_false, Bool.and_true, Bool.and_self, Bool.not_true, Bool.not_false, Bool.false_and, Bool.true_and, un9, un25, un26, el25, el26, ti9, ti25, ti26, ti28, ti53, un53, un3, ti3, ti4, fl28_0, fl28_1, S1_fw, U1_fw, g0, h1] <;> rfl) ?_
    refine aops_run 6 (by simp only [fwA, ↓reduceIte, Nat.reduceAdd, Nat.reduceMul, Nat.reduceEqDiff, Nat.reduceLT, Nat.reduceLeDiff, reduceCtorEq, bitfw, List.length_map, List.getElem?_map, Option.map_some, Int.natCast_nonneg, Int.toNat_natCast, decide_true, decide_false, Bool.and_true, Bool.and_self, Bool.not_true, Bool.not_false, Bool.false_and, Bool.true_and, un9, un25, un26, el25, el26, ti9, ti25, ti26, ti28, ti53, un53, un3, ti3, ti4, fl28_0, fl28_1, S1_fw, U1_fw, g0, h1] <;> rfl) ?_
    refine aops_end ?_
    refine awp_cond (b := true) (by simp [alook, aput, ev]) ?_
    refine awp_seq ?_
    refine awp_run rfl (by simp only [fwA, ↓reduceIte, Nat.reduceAdd, Nat.reduceMul, Nat.reduceEqDiff, Nat.reduceLT, Nat.reduceLeDiff, reduceCtorEq] <;> rfl) ?_
    refine awp_ret ?_
    subst hK
    exact gives_end (.inl rfl) _ (by unfold rightB; rw [decide_eq_false (by omega)]; rfl)
  by_cases h2 : (us.length : Int) = (ns.length : Int)
  rotate_left
  · refine awp_region rfl ?_
    refine aops_run 13 (by simp only [fwA, ↓reduceIte, Nat.reduceAdd, Nat.reduceMul, Nat.reduceEqDiff, Nat.reduceLT, Nat.reduceLeDiff, reduceCtorEq, bitfw, List.length_map, List.getElem?_map, Option.map_some, Int.natCast_nonneg, Int.toNat_natCast, decide_true, decide_false, Bool.and_true, Bool.and_self, Bool.not_true, Bool.not_false, Bool.false_and, Bool.true_and, un9, un25, un26, el25, el26, ti9, ti25, ti26, ti28, ti53, un53, un3, ti3, ti4, fl28_0, fl28_1, S1_fw, U1_fw, g0, h1, h2] <;> rfl) ?_
    refine aops_run 6 (by simp only [fwA, ↓reduceIte, Nat.reduceAdd, Nat.reduceMul, Nat.reduceEqDiff, Nat.reduceLT, Nat.reduceLeDiff, reduceCtorEq, bitfw, List.length_map, List.getElem?_map, Option.map_some, Int.natCast_nonneg, Int.toNat_natCast, decide_true, decide_false, Bool.and_true, Bool.and_self, Bool.not_true, Bool.not_false, Bool.false_and, Bool.true_and, un9, un25, un26, el25, el26, ti9, ti25, ti26, ti28, ti53, un53, un3, ti3, ti4, fl28_0, fl28_1, S1_fw, U1_fw, g0, h1, h2] <;> rfl) ?_
    refine aops_end ?_
    refine awp_cond (b := true) (by simp [alook, aput, ev]) ?_
    refine awp_seq ?_
    refine awp_run rfl (by simp only [fwA, ↓reduceIte, Nat.reduceAdd, Nat.reduceMul, Nat.reduceEqDiff, Nat.reduceLT, Nat.reduceLeDiff, reduceCtorEq] <;> rfl) ?_
    refine awp_ret ?_
    subst hK
    exact gives_end (.inl rfl) _ (by unfold rightB; rw [decide_eq_false (by omega : ¬ us.length = ns.length), Bool.and_false]; rfl)
  cases h3 : namedB ns
  · rw [h3] at h35
    refine awp_region rfl ?_
    refine aops_run 13 (by simp only [fwA, ↓reduceIte, Nat.reduceAdd, Nat.reduceMul, Nat.reduceEqDiff, Nat.reduceLT, Nat.reduceLeDiff, reduceCtorEq, bitfw, List.length_map, List.getElem?_map, Option.map_some, Int.natCast_nonneg, Int.toNat_natCast, decide_true, decide_false, Bool.and_true, Bool.and_self, Bool.not_true, Bool.not_false, Bool.false_and, Bool.true_and, un9, un25, un26, el25, el26, ti9, ti25, ti26, ti28, ti53, un53, un3, ti3, ti4, fl28_0, fl28_1, S1_fw, U1_fw, g0, h1, h2] <;> rfl) ?_
    refine aops_run 3 (by simp only [fwA, ↓reduceIte, Nat.reduceAdd, Nat.reduceMul, Nat.reduceEqDiff, Nat.reduceLT, Nat.reduceLeDiff, reduceCtorEq, bitfw, List.length_map, List.getElem?_map, Option.map_some, Int.natCast_nonneg, Int.toNat_natCast, decide_true, decide_false, Bool.and_true, Bool.and_self, Bool.not_true, Bool.not_false, Bool.false_and, Bool.true_and, un9, un25, un26, el25, el26, ti9, ti25, ti26, ti28, ti53, un53, un3, ti3, ti4, fl28_0, fl28_1, S1_fw, U1_fw, g0, h1, h2] <;> rfl) ?_
    refine aops_fnIf rfl rfl rfl rfl rfl en51 h35 ?_
    refine aops_run 2 (by simp only [fwA, ↓reduceIte, Nat.reduceAdd, Nat.reduceMul, Nat.reduceEqDiff, Nat.reduceLT, Nat.reduceLeDiff, reduceCtorEq, bitfw, List.length_map, List.getElem?_map, Option.map_some, Int.natCast_nonneg, Int.toNat_natCast, decide_true, decide_false, Bool.and_true, Bool.and_self, Bool.not_true, Bool.not_false, Bool.false_and, Bool.true_and, un9, un25, un26, el25, el26, ti9, ti25, ti26, ti28, ti53, un53, un3, ti3, ti4, fl28_0, fl28_1, S1_fw, U1_fw, g0, h1, h2] <;> rfl) ?_
    refine aops_end ?_
    refine awp_cond (b := true) (by simp [alook, aput, ev]) ?_
    refine awp_seq ?_
    refine awp_run rfl (by simp only [fwA, ↓reduceIte, Nat.reduceAdd, Nat.reduceMul, Nat.reduceEqDiff, Nat.reduceLT, Nat.reduceLeDiff, reduceCtorEq] <;> rfl) ?_
    refine awp_ret ?_
    subst hK
    exact gives_end (.inl rfl) _ (by unfold rightB; rw [h3, Bool.and_false]; rfl)
  rw [h3] at h35
  refine awp_region rfl ?_
  refine aops_run 13 (by simp only [fwA, ↓reduceIte, Nat.reduceAdd, Nat.reduceMul, Nat.reduceEqDiff, Nat.reduceLT, Nat.reduceLeDiff, reduceCtorEq, bitfw, List.length_map, List.getElem?_map, Option.map_some, Int.natCast_nonneg, Int.toNat_natCast, decide_true, decide_false, Bool.and_true, Bool.and_self, Bool.not_true, Bool.not_false, Bool.false_and, Bool.true_and, un9, un25, un26, el25, el26, ti9, ti25, ti26, ti28, ti53, un53, un3, ti3, ti4, fl28_0, fl28_1, S1_fw, U1_fw, g0, h1, h2] <;> rfl) ?_
  refine aops_run 3 (by simp only [fwA, ↓reduceIte, Nat.reduceAdd, Nat.reduceMul, Nat.reduceEqDiff, Nat.reduceLT, Nat.reduceLeDiff, reduceCtorEq, bitfw, List.length_map, List.getElem?_map, Option.map_some, Int.natCast_nonneg, Int.toNat_natCast, decide_true, decide_false, Bool.and_true, Bool.and_self, Bool.not_true, Bool.not_false, Bool.false_and, Bool.true_and, un9, un25, un26, el25, el26, ti9, ti25, ti26, ti28, ti53, un53, un3, ti3, ti4, fl28_0, fl28_1, S1_fw, U1_fw, g0, h1, h2] <;> rfl) ?_
  refine aops_fnIf rfl rfl rfl rfl rfl en51 h35 ?_
  refine aops_run 2 (by simp only [fwA, ↓reduceIte, Nat.reduceAdd, Nat.reduceMul, Nat.reduceEqDiff, Nat.reduceLT, Nat.reduceLeDiff, reduceCtorEq, bitfw, List.length_map, List.getElem?_map, Option.map_some, Int.natCast_nonneg, Int.toNat_natCast, decide_true, decide_false, Bool.and_true, Bool.and_self, Bool.not_true, Bool.not_false, Bool.false_and, Bool.true_and, un9, un25, un26, el25, el26, ti9, ti25, ti26, ti28, ti53, un53, un3, ti3, ti4, fl28_0, fl28_1, S1_fw, U1_fw, g0, h1, h2] <;> rfl) ?_
  refine aops_end ?_
  refine awp_cond (b := false) (by simp [alook, aput, ev]) (awp_skip ?_)
  have hn : us.length ≤ 64 := by omega
  have hR : rightB ns us = (us.all (fun x => decide (x < 2 ^ us.length)) && (ordB us.length (lq us) && boundB us.length (lq us))) := by
    unfold rightB
    rw [h3, decide_eq_true (by omega : ns.length ≤ 64), decide_eq_true (by omega : us.length = ns.length)]; rfl
  rw [hR]
  have h46 := c53 Γ 52 en52 [.ptr H.length 0] (fun x => !decide (x < 2 ^ us.length)) us K (fun x hx => c52 Γ ns us hn x (hw x hx) K H.length g0)
  have hany : us.any (fun x => !decide (x < 2 ^ us.length)) = !us.all (fun x => decide (x < 2 ^ us.length)) := by
    rw [List.not_all_eq_any_not]
  rw [hany] at h46
  refine awp_seq ?_
  refine awp_run rfl (by simp only [fwA, ↓reduceIte, Nat.reduceAdd, Nat.reduceMul, Nat.reduceEqDiff, Nat.reduceLT, Nat.reduceLeDiff, reduceCtorEq] <;> rfl) ?_
  refine awp_seq ?_
  refine awp_region rfl ?_
  refine aops_run 3 (by simp only [fwA, ↓reduceIte, Nat.reduceAdd, Nat.reduceMul, Nat.reduceEqDiff, Nat.reduceLT, Nat.reduceLeDiff, reduceCtorEq, bitfw, List.length_map, List.getElem?_map, Option.map_some, Int.natCast_nonneg, Int.toNat_natCast, decide_true, decide_false, Bool.and_true, Bool.and_self, Bool.not_true, Bool.not_false, Bool.false_and, Bool.true_and, un9, un25, un26, el25, el26, ti9, ti25, ti26, ti28, ti53, un53, un3, ti3, ti4, fl28_0, fl28_1, S1_fw, U1_fw, g0] <;> rfl) ?_
  refine aops_call rfl rfl rfl en53 (h46.mono fun p H' hp => ?_)
  obtain ⟨rfl, e⟩ := hp
  rw [e]
  cases h4 : us.all (fun x => decide (x < 2 ^ us.length))
  · refine aops_run 10 (by simp only [fwA, ↓reduceIte, Nat.reduceAdd, Nat.reduceMul, Nat.reduceEqDiff, Nat.reduceLT, Nat.reduceLeDiff, reduceCtorEq, bitfw, List.length_map, List.getElem?_map, Option.map_some, Int.natCast_nonneg, Int.toNat_natCast, decide_true, decide_false, Bool.and_true, Bool.and_self, Bool.not_true, Bool.not_false, Bool.false_and, Bool.true_and, un9, un25, un26, el25, el26, ti9, ti25, ti26, ti28, ti53, un53, un3, ti3, ti4, fl28_0, fl28_1, S1_fw, U1_fw] <;> rfl) ?_
    refine aops_end ?_
    refine awp_ret ?_
    subst hK
    exact gives_end (.inl rfl) _ rfl
  have hi : Inn us.length us := fun x hx => by
    rw [List.all_eq_true] at h4
    exact of_decide_eq_true (h4 x hx)
  have h37 := c54 Γ hΓ ns us hn hi
  have h38 := c55 Γ hΓ ns us hn hi
  refine aops_run 3 (by simp only [fwA, ↓reduceIte, Nat.reduceAdd, Nat.reduceMul, Nat.reduceEqDiff, Nat.reduceLT, Nat.reduceLeDiff, reduceCtorEq, bitfw, List.length_map, List.getElem?_map, Option.map_some, Int.natCast_nonneg, Int.toNat_natCast, decide_true, decide_false, Bool.and_true, Bool.and_self, Bool.not_true, Bool.not_false, Bool.false_and, Bool.true_and, un9, un25, un26, el25, el26, ti9, ti25, ti26, ti28, ti53, un53, un3, ti3, ti4, fl28_0, fl28_1, S1_fw, U1_fw, g0] <;> rfl) ?_
  refine aops_fnIf rfl rfl rfl rfl rfl en54 h37 ?_
  cases h5 : ordB us.length (lq us)
  · refine aops_run 6 (by simp only [fwA, ↓reduceIte, Nat.reduceAdd, Nat.reduceMul, Nat.reduceEqDiff, Nat.reduceLT, Nat.reduceLeDiff, reduceCtorEq, bitfw, List.length_map, List.getElem?_map, Option.map_some, Int.natCast_nonneg, Int.toNat_natCast, decide_true, decide_false, Bool.and_true, Bool.and_self, Bool.not_true, Bool.not_false, Bool.false_and, Bool.true_and, un9, un25, un26, el25, el26, ti9, ti25, ti26, ti28, ti53, un53, un3, ti3, ti4, fl28_0, fl28_1, S1_fw, U1_fw, g0] <;> rfl) ?_
    refine aops_end ?_
    refine awp_ret ?_
    subst hK
    exact gives_end (.inl rfl) _ rfl
  rw [boundP_eq (ordB_iff.1 h5)] at h38
  refine aops_run 3 (by simp only [fwA, ↓reduceIte, Nat.reduceAdd, Nat.reduceMul, Nat.reduceEqDiff, Nat.reduceLT, Nat.reduceLeDiff, reduceCtorEq, bitfw, List.length_map, List.getElem?_map, Option.map_some, Int.natCast_nonneg, Int.toNat_natCast, decide_true, decide_false, Bool.and_true, Bool.and_self, Bool.not_true, Bool.not_false, Bool.false_and, Bool.true_and, un9, un25, un26, el25, el26, ti9, ti25, ti26, ti28, ti53, un53, un3, ti3, ti4, fl28_0, fl28_1, S1_fw, U1_fw, g0] <;> rfl) ?_
  refine aops_fnIf rfl rfl rfl rfl rfl en55 h38 ?_
  refine aops_run 2 (by simp only [fwA, ↓reduceIte, Nat.reduceAdd, Nat.reduceMul, Nat.reduceEqDiff, Nat.reduceLT, Nat.reduceLeDiff, reduceCtorEq, bitfw, List.length_map, List.getElem?_map, Option.map_some, Int.natCast_nonneg, Int.toNat_natCast, decide_true, decide_false, Bool.and_true, Bool.and_self, Bool.not_true, Bool.not_false, Bool.false_and, Bool.true_and, un9, un25, un26, el25, el26, ti9, ti25, ti26, ti28, ti53, un53, un3, ti3, ti4, fl28_0, fl28_1, S1_fw, U1_fw, g0] <;> rfl) ?_
  refine aops_end ?_
  refine awp_ret ?_
  subst hK
  exact gives_end (.inl rfl) _ rfl

/- slices.Index at words -/
theorem c42 (Γ : Nat → PV) (us : List Nat) (v : Nat) : Gives Tryd.prog Γ 42 [.vec (us.map U1) false, .int .u64 (v : Int)] (.int .i64 (idxF (fun x => decide (v = x)) us)) := by
  refine fn_of_awp Tryd.func42 rfl (by simp [Tryd.f42]) rfl fun H => ?_
  refine awp_vlen 0 rfl fun hsl => ?_
  rw [List.length_map] at hsl
  refine awp_seq ?_
  refine awp_run rfl (by simp only [fwA, ↓reduceIte, Nat.reduceAdd, Nat.reduceMul, Nat.reduceEqDiff, Nat.reduceLT, Nat.reduceLeDiff, reduceCtorEq] <;> rfl) ?_
  refine awp_seq ?_
  refine awp_seq ?_
  refine awp_run rfl (by simp only [fwA, ↓reduceIte, Nat.reduceAdd, Nat.reduceMul, Nat.reduceEqDiff, Nat.reduceLT, Nat.reduceLeDiff, reduceCtorEq, bitfw, List.length_map, List.getElem?_map, Option.map_some, Int.natCast_nonneg, Int.toNat_natCast, decide_true, decide_false, Bool.and_true, Bool.and_self, Bool.not_true, Bool.not_false, Bool.false_and, Bool.true_and, un9, un25, un26, el25, el26, ti9, ti25, ti26, ti28, ti53, un53, un3, ti3, ti4, fl28_0, fl28_1, S1_fw, U1_fw] <;> rfl) ?_
  refine awp_block ?_
  refine awp_for [0, 1, 7, 8] (fun i : Nat => [.vec (us.map U1) false, .int .u64 (v : Int), .int .i64 (us.length : Int), .int .i64 (i : Int)]) (fun _ => H) (fun i => us.length - i) (fun i => i ≤ us.length ∧ ∀ j y, j < i → us[j]? = some y → decide (v = y) = false) 0 rfl rfl ⟨Nat.zero_le _, fun j y hj => by omega⟩ fun i hs => ?_
  obtain ⟨hil, hno⟩ := hs
  refine awp_seq ?_
  refine awp_run rfl (by simp only [fwA, ↓reduceIte, Nat.reduceAdd, Nat.reduceMul, Nat.reduceEqDiff, Nat.reduceLT, Nat.reduceLeDiff, reduceCtorEq, bitfw, List.length_map, List.getElem?_map, Option.map_some, Int.natCast_nonneg, Int.toNat_natCast, decide_true, decide_false, Bool.and_true, Bool.and_self, Bool.not_true, Bool.not_false, Bool.false_and, Bool.true_and, un9, un25, un26, el25, el26, ti9, ti25, ti26, ti28, ti53, un53, un3, ti3, ti4, fl28_0, fl28_1, S1_fw, U1_fw] <;> rfl) ?_
  refine awp_seq ?_
  refine awp_cond (by simp only [fwA, ↓reduceIte, Nat.reduceAdd, Nat.reduceMul, Nat.reduceEqDiff, Nat.reduceLT, Nat.reduceLeDiff, reduceCtorEq] <;> rfl) ?_
  by_cases hc : (i : Int) < us.length
  rotate_left
  · simp only [hc, decide_false, Bool.false_eq_true, ↓reduceIte]
    refine awp_exit ?_
    have e : i = us.length := by omega
    subst e
    refine awp_seq ?_
    refine awp_run rfl (by simp only [fwA, ↓reduceIte, Nat.reduceAdd, Nat.reduceMul, Nat.reduceEqDiff, Nat.reduceLT, Nat.reduceLeDiff, reduceCtorEq] <;> rfl) ?_
    refine awp_ret ?_
    exact gives_end0 (.inl rfl) (by rw [idxF_none hno]; rfl)
  simp only [hc, decide_true, ↓reduceIte]
  refine awp_skip ?_
  have hill : i < us.length := by omega
  have ga : us[i]? = some us[i] := List.getElem?_eq_getElem hill
  generalize us[i] = x at ga
  have hwi : IntKind.i64.wrap ((i : Int) + 1) = ((i + 1 : Nat) : Int) := wrapS i (by omega)
  refine awp_seq ?_
  refine awp_block ?_
  refine awp_seq ?_
  refine awp_run rfl (by simp only [fwA, ↓reduceIte, Nat.reduceAdd, Nat.reduceMul, Nat.reduceEqDiff, Nat.reduceLT, Nat.reduceLeDiff, reduceCtorEq] <;> rfl) ?_
  refine awp_seq ?_
  by_cases hq : (v : Int) = (x : Int)
  · refine awp_run rfl (by simp only [fwA, ↓reduceIte, Nat.reduceAdd, Nat.reduceMul, Nat.reduceEqDiff, Nat.reduceLT, Nat.reduceLeDiff, reduceCtorEq, bitfw, List.length_map, List.getElem?_map, Option.map_some, Int.natCast_nonneg, Int.toNat_natCast, decide_true, decide_false, Bool.and_true, Bool.and_self, Bool.not_true, Bool.not_false, Bool.false_and, Bool.true_and, un9, un25, un26, el25, el26, ti9, ti25, ti26, ti28, ti53, un53, un3, ti3, ti4, fl28_0, fl28_1, S1_fw, U1_fw, ga, hq] <;> rfl) ?_
    refine awp_cond (b := true) (by simp [alook, aput, ev]) ?_
    refine awp_seq ?_
    refine awp_run rfl (by simp only [fwA, ↓reduceIte, Nat.reduceAdd, Nat.reduceMul, Nat.reduceEqDiff, Nat.reduceLT, Nat.reduceLeDiff, reduceCtorEq] <;> rfl) ?_
    refine awp_ret ?_
    exact gives_end0 (.inl rfl) (by rw [idxF_some hno ga (decide_eq_true (by omega))]; rfl)
  · refine awp_run rfl (by simp only [fwA, ↓reduceIte, Nat.reduceAdd, Nat.reduceMul, Nat.reduceEqDiff, Nat.reduceLT, Nat.reduceLeDiff, reduceCtorEq, bitfw, List.length_map, List.getElem?_map, Option.map_some, Int.natCast_nonneg, Int.toNat_natCast, decide_true, decide_false, Bool.and_true, Bool.and_self, Bool.not_true, Bool.not_false, Bool.false_and, Bool.true_and, un9, un25, un26, el25, el26, ti9, ti25, ti26, ti28, ti53, un53, un3, ti3, ti4, fl28_0, fl28_1, S1_fw, U1_fw, ga, hq] <;> rfl) ?_
    refine awp_cond (b := false) (by simp [alook, aput, ev]) (awp_skip ?_)
    refine awp_run rfl (by simp only [fwA, ↓reduceIte, Nat.reduceAdd, Nat.reduceMul, Nat.reduceEqDiff, Nat.reduceLT, Nat.reduceLeDiff, reduceCtorEq] <;> rfl) ?_
    refine ⟨i + 1, by omega, ⟨by omega, fun j y hj hy => ?_⟩, ?_, rfl, rfl⟩
    · by_cases hji : j = i
      · subst hji; rw [ga] at hy; cases hy; exact decide_eq_false (by omega)
      · exact hno j y (by omega) hy
    · simp only [fwA, ↓reduceIte, Nat.reduceAdd, Nat.reduceMul, Nat.reduceEqDiff, Nat.reduceLT, Nat.reduceLeDiff, reduceCtorEq, List.map_cons, List.map_nil, hwi]

theorem shr_div {x : Nat} (a : Nat) (hx : x < 2 ^ 64) : (x : Int).fdiv (2 ^ min a IntKind.u64.bits) = ((x / 2 ^ a : Nat) : Int) := by rw [uShr a hx, Nat.shiftRight_eq_div_pow]
theorem and_m {x : Nat} (m : Nat) (hx : x < 2 ^ 64) : IntKind.u64.wrap ((BitVec.ofInt IntKind.u64.bits (x : Int) &&& BitVec.ofInt IntKind.u64.bits (m : Int)).toNat : Int) = ((x &&& m : Nat) : Int) := uAnd hx
theorem add_u {x y : Nat} (h : x + y < 18446744073709551616) : IntKind.u64.wrap ((x : Int) + (y : Int)) = ((x + y : Nat) : Int) := by
  have e : (x : Int) + (y : Int) = ((x + y : Nat) : Int) := by omega
  rw [e, uWrapN h]
theorem low7 (x : Nat) (hx : x < 18446744073709551616) : IntKind.i64.wrap ((BitVec.ofInt IntKind.i64.bits (IntKind.i64.wrap (x : Int)) &&& BitVec.ofInt IntKind.i64.bits 127).toNat : Int) = ((x &&& 127 : Nat) : Int) := by
  have e1 : BitVec.ofInt 64 (IntKind.i64.wrap (x : Int)) = BitVec.ofInt 64 (x : Int) := by
    apply BitVec.eq_of_toNat_eq
    rw [BitVec.toNat_ofInt, BitVec.toNat_ofInt]
    have : IntKind.i64.wrap (x : Int) = if (x : Int) < 9223372036854775808 then (x : Int) else (x : Int) - 18446744073709551616 := by
      unfold IntKind.wrap
      have hb : IntKind.i64.bits = 64 := rfl
      have hsg : IntKind.i64.signed = true := rfl
      simp only [hb, hsg, Bool.true_and, decide_eq_true_eq]
      split <;> split <;> omega
    rw [this]
    split
    · rfl
    · congr 1
      omega
  show IntKind.i64.wrap ((BitVec.ofInt 64 (IntKind.i64.wrap (x : Int)) &&& BitVec.ofInt 64 127).toNat : Int) = _
  rw [e1]
  have e2 : (BitVec.ofInt 64 (x : Int) &&& BitVec.ofInt 64 127).toNat = x &&& 127 := and_nat (x := x) (y := 127) hx
  rw [e2]
  have : x &&& 127 ≤ 127 := Nat.and_le_right
  exact wrapId ⟨by omega, by omega⟩
set_option maxRecDepth 10000 in
/- math/bits.OnesCount64 -/
theorem c41 (Γ : Nat → PV) (x : Nat) (hx : x < 2 ^ 64) : Gives Tryd.prog Γ 41 [.int .u64 (x : Int)] (.int .i64 (((bitsOf x).length : Nat) : Int)) := by
  have hpop := pop_all x hx
  simp only at hpop
  generalize hx1 : (x / 2 &&& 6148914691236517205) + (x &&& 6148914691236517205) = x1 at hpop
  generalize hx2 : (x1 / 4 &&& 3689348814741910323) + (x1 &&& 3689348814741910323) = x2 at hpop
  generalize hx3 : (x2 / 16 + x2) &&& 1085102592571150095 = x3 at hpop
  generalize hy1 : x3 + x3 / 256 = y1 at hpop
  generalize hy2 : y1 + y1 / 65536 = y2 at hpop
  generalize hy3 : y2 + y2 / 4294967296 = y3 at hpop
  obtain ⟨p1, p2, p3, p4, p5, p6, p7⟩ := hpop
  rw [← p7]
  have l0 : x / 2 < 2 ^ 64 := Nat.lt_of_le_of_lt (Nat.div_le_self _ _) hx
  have l1 : x1 / 4 < 2 ^ 64 := Nat.lt_of_le_of_lt (Nat.div_le_self _ _) p1
  have p3' : x3 < 18446744073709551616 := by rw [← hx3]; exact Nat.lt_of_le_of_lt Nat.and_le_left p3
  have a1 : (x : Int).fdiv (2 ^ min 1 IntKind.u64.bits) = ((x / 2 : Nat) : Int) := shr_div 1 hx
  have a2 : IntKind.u64.wrap ((BitVec.ofInt IntKind.u64.bits ((x / 2 : Nat) : Int) &&& BitVec.ofInt IntKind.u64.bits 6148914691236517205).toNat : Int) = ((x / 2 &&& 6148914691236517205 : Nat) : Int) := and_m 6148914691236517205 l0
  have a3 : IntKind.u64.wrap ((BitVec.ofInt IntKind.u64.bits (x : Int) &&& BitVec.ofInt IntKind.u64.bits 6148914691236517205).toNat : Int) = ((x &&& 6148914691236517205 : Nat) : Int) := and_m 6148914691236517205 hx
  have a4 : IntKind.u64.wrap (((x / 2 &&& 6148914691236517205 : Nat) : Int) + ((x &&& 6148914691236517205 : Nat) : Int)) = (x1 : Int) := by rw [add_u (by rw [hx1]; exact p1), hx1]
  have b1 : (x1 : Int).fdiv (2 ^ min 2 IntKind.u64.bits) = ((x1 / 4 : Nat) : Int) := shr_div 2 p1
  have b2 : IntKind.u64.wrap ((BitVec.ofInt IntKind.u64.bits ((x1 / 4 : Nat) : Int) &&& BitVec.ofInt IntKind.u64.bits 3689348814741910323).toNat : Int) = ((x1 / 4 &&& 3689348814741910323 : Nat) : Int) := and_m 3689348814741910323 l1
  have b3 : IntKind.u64.wrap ((BitVec.ofInt IntKind.u64.bits (x1 : Int) &&& BitVec.ofInt IntKind.u64.bits 3689348814741910323).toNat : Int) = ((x1 &&& 3689348814741910323 : Nat) : Int) := and_m 3689348814741910323 p1
  have b4 : IntKind.u64.wrap (((x1 / 4 &&& 3689348814741910323 : Nat) : Int) + ((x1 &&& 3689348814741910323 : Nat) : Int)) = (x2 : Int) := by rw [add_u (by rw [hx2]; exact p2), hx2]
  have d1 : (x2 : Int).fdiv (2 ^ min 4 IntKind.u64.bits) = ((x2 / 16 : Nat) : Int) := shr_div 4 p2
  have d2 : IntKind.u64.wrap (((x2 / 16 : Nat) : Int) + (x2 : Int)) = ((x2 / 16 + x2 : Nat) : Int) := add_u p3
  have d3 : IntKind.u64.wrap ((BitVec.ofInt IntKind.u64.bits ((x2 / 16 + x2 : Nat) : Int) &&& BitVec.ofInt IntKind.u64.bits 1085102592571150095).toNat : Int) = (x3 : Int) := by rw [← hx3]; exact and_m 1085102592571150095 p3
  have e1 : (x3 : Int).fdiv (2 ^ min 8 IntKind.u64.bits) = ((x3 / 256 : Nat) : Int) := shr_div 8 p3'
  have e2 : IntKind.u64.wrap ((x3 : Int) + ((x3 / 256 : Nat) : Int)) = (y1 : Int) := by rw [add_u (by rw [hy1]; exact p4), hy1]
  have f1 : (y1 : Int).fdiv (2 ^ min 16 IntKind.u64.bits) = ((y1 / 65536 : Nat) : Int) := shr_div 16 p4
  have f2 : IntKind.u64.wrap ((y1 : Int) + ((y1 / 65536 : Nat) : Int)) = (y2 : Int) := by rw [add_u (by rw [hy2]; exact p5), hy2]
  have k1 : (y2 : Int).fdiv (2 ^ min 32 IntKind.u64.bits) = ((y2 / 4294967296 : Nat) : Int) := shr_div 32 p5
  have k2 : IntKind.u64.wrap ((y2 : Int) + ((y2 / 4294967296 : Nat) : Int)) = (y3 : Int) := by rw [add_u (by rw [hy3]; exact p6), hy3]
  have k3 := low7 y3 p6
  clear hx1 hx2 hx3 hy1 hy2 hy3 p7
  refine fn_of_awp Tryd.func41 rfl (by simp [Tryd.f41]) rfl fun H => ?_
  refine awp_seq ?_
  refine awp_run rfl (by simp only [fwA, ↓reduceIte, Nat.reduceAdd, Nat.reduceMul, Nat.reduceEqDiff, Nat.reduceLT, Nat.reduceLeDiff, reduceCtorEq] <;> rfl) ?_
  refine awp_seq ?_
  refine awp_run rfl (by simp only [fwA, ↓reduceIte, Nat.reduceAdd, Nat.reduceMul, Nat.reduceEqDiff, Nat.reduceLT, Nat.reduceLeDiff, reduceCtorEq, bitfw, List.length_map, List.getElem?_map, Option.map_some, Int.natCast_nonneg, Int.toNat_natCast, decide_true, decide_false, Bool.and_true, Bool.and_self, Bool.not_true, Bool.not_false, Bool.false_and, Bool.true_and, un9, un25, un26, el25, el26, ti9, ti25, ti26, ti28, ti53, un53, un3, ti3, ti4, fl28_0, fl28_1, S1_fw, U1_fw, Int.reduceToNat, Int.reduceLE, a1, a2, a3, a4] <;> rfl) ?_
  refine awp_seq ?_
  refine awp_run rfl (by simp only [fwA, ↓reduceIte, Nat.reduceAdd, Nat.reduceMul, Nat.reduceEqDiff, Nat.reduceLT, Nat.reduceLeDiff, reduceCtorEq, bitfw, List.length_map, List.getElem?_map, Option.map_some, Int.natCast_nonneg, Int.toNat_natCast, decide_true, decide_false, Bool.and_true, Bool.and_self, Bool.not_true, Bool.not_false, Bool.false_and, Bool.true_and, un9, un25, un26, el25, el26, ti9, ti25, ti26, ti28, ti53, un53, un3, ti3, ti4, fl28_0, fl28_1, S1_fw, U1_fw, Int.reduceToNat, Int.reduceLE, b1, b2, b3, b4] <;> rfl) ?_
  refine awp_seq ?_
  refine awp_run rfl (by simp only [fwA, ↓reduceIte, Nat.reduceAdd, Nat.reduceMul, Nat.reduceEqDiff, Nat.reduceLT, Nat.reduceLeDiff, reduceCtorEq, bitfw, List.length_map, List.getElem?_map, Option.map_some, Int.natCast_nonneg, Int.toNat_natCast, decide_true, decide_false, Bool.and_true, Bool.and_self, Bool.not_true, Bool.not_false, Bool.false_and, Bool.true_and, un9, un25, un26, el25, el26, ti9, ti25, ti26, ti28, ti53, un53, un3, ti3, ti4, fl28_0, fl28_1, S1_fw, U1_fw, Int.reduceToNat, Int.reduceLE, d1, d2, d3] <;> rfl) ?_
  refine awp_seq ?_
  refine awp_run rfl (by simp only [fwA, ↓reduceIte, Nat.reduceAdd, Nat.reduceMul, Nat.reduceEqDiff, Nat.reduceLT, Nat.reduceLeDiff, reduceCtorEq, bitfw, List.length_map, List.getElem?_map, Option.map_some, Int.natCast_nonneg, Int.toNat_natCast, decide_true, decide_false, Bool.and_true, Bool.and_self, Bool.not_true, Bool.not_false, Bool.false_and, Bool.true_and, un9, un25, un26, el25, el26, ti9, ti25, ti26, ti28, ti53, un53, un3, ti3, ti4, fl28_0, fl28_1, S1_fw, U1_fw, Int.reduceToNat, Int.reduceLE, e1, e2] <;> rfl) ?_
  refine awp_seq ?_
  refine awp_run rfl (by simp only [fwA, ↓reduceIte, Nat.reduceAdd, Nat.reduceMul, Nat.reduceEqDiff, Nat.reduceLT, Nat.reduceLeDiff, reduceCtorEq, bitfw, List.length_map, List.getElem?_map, Option.map_some, Int.natCast_nonneg, Int.toNat_natCast, decide_true, decide_false, Bool.and_true, Bool.and_self, Bool.not_true, Bool.not_false, Bool.false_and, Bool.true_and, un9, un25, un26, el25, el26, ti9, ti25, ti26, ti28, ti53, un53, un3, ti3, ti4, fl28_0, fl28_1, S1_fw, U1_fw, Int.reduceToNat, Int.reduceLE, f1, f2] <;> rfl) ?_
  refine awp_seq ?_
  refine awp_run rfl (by simp only [fwA, ↓reduceIte, Nat.reduceAdd, Nat.reduceMul, Nat.reduceEqDiff, Nat.reduceLT, Nat.reduceLeDiff, reduceCtorEq, bitfw, List.length_map, List.getElem?_map, Option.map_some, Int.natCast_nonneg, Int.toNat_natCast, decide_true, decide_false, Bool.and_true, Bool.and_self, Bool.not_true, Bool.not_false, Bool.false_and, Bool.true_and, un9, un25, un26, el25, el26, ti9, ti25, ti26, ti28, ti53, un53, un3, ti3, ti4, fl28_0, fl28_1, S1_fw, U1_fw, Int.reduceToNat, Int.reduceLE, k1, k2] <;> rfl) ?_
  refine awp_seq ?_
  refine awp_run rfl (by simp only [fwA, ↓reduceIte, Nat.reduceAdd, Nat.reduceMul, Nat.reduceEqDiff, Nat.reduceLT, Nat.reduceLeDiff, reduceCtorEq, bitfw, List.length_map, List.getElem?_map, Option.map_some, Int.natCast_nonneg, Int.toNat_natCast, decide_true, decide_false, Bool.and_true, Bool.and_self, Bool.not_true, Bool.not_false, Bool.false_and, Bool.true_and, un9, un25, un26, el25, el26, ti9, ti25, ti26, ti28, ti53, un53, un3, ti3, ti4, fl28_0, fl28_1, S1_fw, U1_fw, k3] <;> rfl) ?_
  refine awp_ret ?_
  exact gives_end0 (.inl rfl) rfl

/- chancel/lat.Top's test of a row -/
theorem c40 (Γ : Nat → PV) (x : Nat) (hx : x < 2 ^ 64) : Gives Tryd.prog Γ 40 [.int .u64 (x : Int)] (.bool (decide ((bitsOf x).length = 1))) := by
  have h58 := c41 Γ x hx
  refine fn_of_awp Tryd.func40 rfl (by simp [Tryd.f40]) rfl fun H => ?_
  refine awp_seq ?_
  refine awp_run rfl (by simp only [fwA, ↓reduceIte, Nat.reduceAdd, Nat.reduceMul, Nat.reduceEqDiff, Nat.reduceLT, Nat.reduceLeDiff, reduceCtorEq] <;> rfl) ?_
  refine awp_seq ?_
  refine awp_region rfl ?_
  refine aops_run 1 (by simp only [fwA, ↓reduceIte, Nat.reduceAdd, Nat.reduceMul, Nat.reduceEqDiff, Nat.reduceLT, Nat.reduceLeDiff, reduceCtorEq, bitfw, List.length_map, List.getElem?_map, Option.map_some, Int.natCast_nonneg, Int.toNat_natCast, decide_true, decide_false, Bool.and_true, Bool.and_self, Bool.not_true, Bool.not_false, Bool.false_and, Bool.true_and, un9, un25, un26, el25, el26, ti9, ti25, ti26, ti28, ti53, un53, un3, ti3, ti4, fl28_0, fl28_1, S1_fw, U1_fw] <;> rfl) ?_
  refine aops_fn rfl rfl rfl en41 h58 ?_
  refine aops_run 2 (by simp only [fwA, ↓reduceIte, Nat.reduceAdd, Nat.reduceMul, Nat.reduceEqDiff, Nat.reduceLT, Nat.reduceLeDiff, reduceCtorEq, bitfw, List.length_map, List.getElem?_map, Option.map_some, Int.natCast_nonneg, Int.toNat_natCast, decide_true, decide_false, Bool.and_true, Bool.and_self, Bool.not_true, Bool.not_false, Bool.false_and, Bool.true_and, un9, un25, un26, el25, el26, ti9, ti25, ti26, ti28, ti53, un53, un3, ti3, ti4, fl28_0, fl28_1, S1_fw, U1_fw] <;> rfl) ?_
  refine aops_end ?_
  refine awp_ret ?_
  have e : decide ((((bitsOf x).length : Nat) : Int) = 1) = decide ((bitsOf x).length = 1) := decide_eq_decide.2 (by omega)
  exact gives_end0 (.inl rfl) (by rw [← e]; rfl)

end Go.Proofs.YtpkpbfemglmejaaDoor

/- The contracts of the document's order, joins and meets. -/
namespace Go.Proofs.YtpkpbfemglmejaaDoor
set_option linter.unusedVariables false
set_option linter.unusedSimpArgs false
set_option maxRecDepth 100000
open Go.RowKit Fw

theorem leq_nat {ns : List (List UInt8)} {us : List Nat} (hl : us.length = ns.length) {a b : Nat} (ha : a < us.length) (hb : b < us.length) : leqB (min ns.length us.length) us (a : Int) (b : Int) = lq us a b := by
  unfold leqB ptB
  rw [decide_eq_true (by omega : (0 : Int) ≤ a), decide_eq_true (by omega : (0 : Int) ≤ b), decide_eq_true (by omega : (a : Int) < ((min ns.length us.length : Nat) : Int)), decide_eq_true (by omega : (b : Int) < ((min ns.length us.length : Nat) : Int))]; rfl
theorem all_le {p : Nat → Bool} {j n : Nat} (hj : j ≤ n) (h : (List.range j).all p = false) : (List.range n).all p = false := by
  rw [List.all_eq_false] at h ⊢
  obtain ⟨x, hx, hp⟩ := h
  exact ⟨x, List.mem_range.2 (Nat.lt_of_lt_of_le (List.mem_range.1 hx) hj), hp⟩

end Go.Proofs.YtpkpbfemglmejaaDoor

/- The contracts of the document's order and bounds. -/
namespace Go.Proofs.YtpkpbfemglmejaaDoor
set_option linter.unusedVariables false
set_option linter.unusedSimpArgs false
set_option maxRecDepth 100000
open Go.RowKit Fw

def P3 (r : Nat → Nat → Bool) (a b k : Nat) : Bool := (List.range k).all fun c => !(r a b && r b c) || r a c
def P2 (r : Nat → Nat → Bool) (n a k : Nat) : Bool := (List.range k).all fun b => (!(r a b && r b a) || decide (a = b)) && P3 r a b n
def P1 (r : Nat → Nat → Bool) (n a : Nat) : Bool := r a a && P2 r n a n
theorem ordB_P1 (n : Nat) (r : Nat → Nat → Bool) : ordB n r = (List.range n).all (P1 r n) := rfl
theorem P3_off {r : Nat → Nat → Bool} {a b : Nat} (h : r a b = false) (k : Nat) : P3 r a b k = true := by
  unfold P3
  rw [List.all_eq_true]
  intro c _
  rw [h]; rfl

theorem oI_lt (o : Option Nat) : decide (oI o < 0) = !o.isSome := by
  cases o with
  | none => rfl
  | some c => exact decide_eq_false (by show ¬ (c : Int) < 0; omega)
def B2 (n : Nat) (r : Nat → Nat → Bool) (a k : Nat) : Bool := (List.range k).all fun b => (jn n r a b).isSome && (jn n (tr r) a b).isSome
theorem boundB_B2 (n : Nat) (r : Nat → Nat → Bool) : boundB n r = (List.range n).all (fun a => B2 n r a n) := rfl
end Go.Proofs.YtpkpbfemglmejaaDoor

/- The contracts of the document's names, and of what it calls a lattice. -/
namespace Go.Proofs.YtpkpbfemglmejaaDoor
set_option linter.unusedVariables false
set_option linter.unusedSimpArgs false
set_option maxRecDepth 100000
open Go.RowKit Fw

def N2 (l : List (List UInt8)) (i k : Nat) : Bool := (List.range k).all fun j => !decide (l.getD j [] = l.getD i [])
def N1 (l : List (List UInt8)) (i : Nat) : Bool := nameB (l.getD i []) && N2 l i i
/-- Whether names are right, and no two alike. -/
def namesD (l : List (List UInt8)) : Bool := (List.range l.length).all (N1 l)

theorem idxS_first (l : List (List UInt8)) {k : Nat} (hk : k < l.length) : decide (idxS l (l.getD k []) = (k : Int)) = N2 l k k := by
  have gk : l[k]? = some (l.getD k []) := by rw [List.getD_eq_getElem?_getD, List.getElem?_eq_getElem hk]; rfl
  generalize l.getD k [] = s at gk
  have hN : N2 l k k = (List.range k).all fun j => !decide (l.getD j [] = s) := by
    unfold N2
    rw [List.getD_eq_getElem?_getD (i := k), gk]; rfl
  rw [hN]
  cases h : (List.range k).all fun j => !decide (l.getD j [] = s)
  · rw [List.all_eq_false] at h
    obtain ⟨j, hj, h2⟩ := h
    have hjk := List.mem_range.1 hj
    simp only [Bool.not_eq_true', decide_eq_false_iff_not, Decidable.not_not] at h2
    refine decide_eq_false fun e => ?_
    unfold idxS at e
    cases hf : l.findIdx? (fun x => decide (s = x)) with
    | none => rw [hf] at e; simp only at e; omega
    | some m =>
      rw [hf] at e
      simp only at e
      obtain ⟨h3, _, h5⟩ := List.findIdx?_eq_some_iff_getElem.1 hf
      have hm : m = k := by omega
      subst hm
      have := h5 j hjk
      have gj : l.getD j [] = l[j] := by rw [List.getD_eq_getElem?_getD, List.getElem?_eq_getElem (by omega)]; rfl
      rw [gj] at h2
      rw [h2] at this
      simp at this
  · rw [List.all_eq_true] at h
    refine decide_eq_true (idxS_some (fun j hj e => ?_) gk)
    have := h j (List.mem_range.2 hj)
    rw [List.getD_eq_getElem?_getD, e] at this
    simp at this
theorem named_names (l : List (List UInt8)) : namedB l = (decide (0 < l.length) && namesD l) := by
  unfold namedB namesD
  congr 1
  refine Bool.eq_iff_iff.2 ?_
  simp only [List.all_eq_true, List.mem_range]
  constructor
  · intro h k hk
    have := h k hk
    rw [idxS_first l hk] at this; exact this
  · intro h k hk
    have := h k hk
    rw [idxS_first l hk]; exact this

theorem shr_zero {x : Nat} (n : Nat) : decide (((x >>> n : Nat) : Int) = 0) = decide (x < 2 ^ n) := by
  refine decide_eq_decide.2 ?_
  rw [Nat.shiftRight_eq_div_pow]
  have hp := Nat.two_pow_pos n
  have : x / 2 ^ n = 0 ↔ x < 2 ^ n := Nat.div_eq_zero_iff_lt hp
  omega
end Go.Proofs.YtpkpbfemglmejaaDoor

/- The contracts of joins, meets, bounds, places, by the program and by the document. -/
namespace Go.Proofs.YtpkpbfemglmejaaDoor
set_option linter.unusedVariables false
set_option linter.unusedSimpArgs false
set_option maxRecDepth 100000
open Go.RowKit Fw

/-- The join of two points, as it is told. -/
def joinV (ns : List (List UInt8)) (us : List Nat) (a b : Int) : Int := if rightB ns us = true ∧ ptB (min ns.length us.length) a = true ∧ ptB (min ns.length us.length) b = true then oI (jn us.length (lq us) a.toNat b.toNat) else -1
def meetV (ns : List (List UInt8)) (us : List Nat) (a b : Int) : Int := if rightB ns us = true ∧ ptB (min ns.length us.length) a = true ∧ ptB (min ns.length us.length) b = true then oI (jn us.length (tr (lq us)) a.toNat b.toNat) else -1
def botV (ns : List (List UInt8)) (us : List Nat) : Int := if rightB ns us = true then oI (foldM us.length (lq us) us.length) else -1
def topV (ns : List (List UInt8)) (us : List Nat) : Int := if rightB ns us = true then oI (foldM us.length (tr (lq us)) us.length) else -1
theorem ptB_nat {n : Nat} {a : Int} (h : ptB n a = true) : ∃ k : Nat, a = (k : Int) ∧ k < n := by
  unfold ptB at h
  simp only [Bool.and_eq_true, decide_eq_true_eq] at h
  exact ⟨a.toNat, by omega, by omega⟩
/- chancel/lat.Join -/
theorem c47 (Γ : Nat → PV) (hΓ : Tab64 Γ) (ns : List (List UInt8)) (us : List Nat) (hw : W64 us) (a b : Int) : Gives Tryd.prog Γ 47 [.agg [.vec (ns.map S1) false, .vec (us.map U1) false], .int .i64 a, .int .i64 b] (.int .i64 (joinV ns us a b)) := by
  have h15 := c38 Γ hΓ ns us hw
  have ha := c33 Γ ns us a
  have hb := c33 Γ ns us b
  refine fn_of_awp Tryd.func47 rfl (by simp [Tryd.f47]) rfl fun H => ?_
  refine awp_seq ?_
  refine awp_run rfl (by simp only [fwA, ↓reduceIte, Nat.reduceAdd, Nat.reduceMul, Nat.reduceEqDiff, Nat.reduceLT, Nat.reduceLeDiff, reduceCtorEq] <;> rfl) ?_
  have hK0 : (H ++ [Blk.box [.vec (ns.map S1) false, .vec (us.map U1) false]])[H.length]? = some (.box [.vec (ns.map S1) false, .vec (us.map U1) false]) := by rw [Fw.get_at0]; rfl
  generalize hK : H ++ [Blk.box [.vec (ns.map S1) false, .vec (us.map U1) false]] = K at hK0 ⊢
  have hend : ∀ (A' : List (Nat × PV)) (v : Int), alook A' 6 = .int .i64 v → ((Exit.ret = .ret ∨ Exit.ret = .normal) ∧ ([] : List Nat).Nodup ∧ (∀ b ∈ ([] : List Nat), K[b]? = some .dfr ∧ H.length ≤ b) ∧ ares Tryd.prog Γ A' K Tryd.f47.results.toList = some (.int .i64 v) ∧ ∃ L', K = H ++ L') := fun A' v hv => by
    subst hK
    exact gives_end (.inl rfl) _ (by simp [ares, aresL, ares1, Tryd.f47, hv])
  refine awp_seq ?_
  refine awp_seq ?_
  cases hR : rightB ns us
  · rw [hR] at h15
    refine awp_region rfl ?_
    refine aops_run 1 (by simp only [fwA, ↓reduceIte, Nat.reduceAdd, Nat.reduceMul, Nat.reduceEqDiff, Nat.reduceLT, Nat.reduceLeDiff, reduceCtorEq, bitfw, List.length_map, List.getElem?_map, Option.map_some, Int.natCast_nonneg, Int.toNat_natCast, decide_true, decide_false, Bool.and_true, Bool.and_self, Bool.not_true, Bool.not_false, Bool.false_and, Bool.true_and, un9, un25, un26, el25, el26, ti9, ti25, ti26, ti28, pl28, ti53, un53, un3, ti3, ti4, fl28_0, fl28_1, S1_fw, U1_fw, hK0] <;> rfl) ?_
    refine aops_fn rfl rfl rfl en38 h15 ?_
    refine aops_run 13 (by simp only [fwA, ↓reduceIte, Nat.reduceAdd, Nat.reduceMul, Nat.reduceEqDiff, Nat.reduceLT, Nat.reduceLeDiff, reduceCtorEq, bitfw, List.length_map, List.getElem?_map, Option.map_some, Int.natCast_nonneg, Int.toNat_natCast, decide_true, decide_false, Bool.and_true, Bool.and_self, Bool.not_true, Bool.not_false, Bool.false_and, Bool.true_and, un9, un25, un26, el25, el26, ti9, ti25, ti26, ti28, pl28, ti53, un53, un3, ti3, ti4, fl28_0, fl28_1, S1_fw, U1_fw, hK0] <;> rfl) ?_
    refine aops_end ?_
    refine awp_cond (b := true) (by simp [alook, aput, ev]) ?_
    refine awp_seq ?_
    refine awp_run rfl (by simp only [fwA, ↓reduceIte, Nat.reduceAdd, Nat.reduceMul, Nat.reduceEqDiff, Nat.reduceLT, Nat.reduceLeDiff, reduceCtorEq] <;> rfl) ?_
    refine awp_ret ?_
    have e : joinV ns us a b = -1 := by unfold joinV; rw [if_neg (by rw [hR]; simp)]
    rw [e]
    exact hend _ _ rfl
  rw [hR] at h15
  cases h1 : ptB (min ns.length us.length) a
  · rw [h1] at ha
    refine awp_region rfl ?_
    refine aops_run 1 (by simp only [fwA, ↓reduceIte, Nat.reduceAdd, Nat.reduceMul, Nat.reduceEqDiff, Nat.reduceLT, Nat.reduceLeDiff, reduceCtorEq, bitfw, List.length_map, List.getElem?_map, Option.map_some, Int.natCast_nonneg, Int.toNat_natCast, decide_true, decide_false, Bool.and_true, Bool.and_self, Bool.not_true, Bool.not_false, Bool.false_and, Bool.true_and, un9, un25, un26, el25, el26, ti9, ti25, ti26, ti28, pl28, ti53, un53, un3, ti3, ti4, fl28_0, fl28_1, S1_fw, U1_fw, hK0] <;> rfl) ?_
    refine aops_fn rfl rfl rfl en38 h15 ?_
    refine aops_run 4 (by simp only [fwA, ↓reduceIte, Nat.reduceAdd, Nat.reduceMul, Nat.reduceEqDiff, Nat.reduceLT, Nat.reduceLeDiff, reduceCtorEq, bitfw, List.length_map, List.getElem?_map, Option.map_some, Int.natCast_nonneg, Int.toNat_natCast, decide_true, decide_false, Bool.and_true, Bool.and_self, Bool.not_true, Bool.not_false, Bool.false_and, Bool.true_and, un9, un25, un26, el25, el26, ti9, ti25, ti26, ti28, pl28, ti53, un53, un3, ti3, ti4, fl28_0, fl28_1, S1_fw, U1_fw, hK0] <;> rfl) ?_
    refine aops_fnIf rfl rfl rfl rfl rfl en33 ha ?_
    refine aops_run 8 (by simp only [fwA, ↓reduceIte, Nat.reduceAdd, Nat.reduceMul, Nat.reduceEqDiff, Nat.reduceLT, Nat.reduceLeDiff, reduceCtorEq, bitfw, List.length_map, List.getElem?_map, Option.map_some, Int.natCast_nonneg, Int.toNat_natCast, decide_true, decide_false, Bool.and_true, Bool.and_self, Bool.not_true, Bool.not_false, Bool.false_and, Bool.true_and, un9, un25, un26, el25, el26, ti9, ti25, ti26, ti28, pl28, ti53, un53, un3, ti3, ti4, fl28_0, fl28_1, S1_fw, U1_fw, hK0] <;> rfl) ?_
    refine aops_end ?_
    refine awp_cond (b := true) (by simp [alook, aput, ev]) ?_
    refine awp_seq ?_
    refine awp_run rfl (by simp only [fwA, ↓reduceIte, Nat.reduceAdd, Nat.reduceMul, Nat.reduceEqDiff, Nat.reduceLT, Nat.reduceLeDiff, reduceCtorEq] <;> rfl) ?_
    refine awp_ret ?_
    have e : joinV ns us a b = -1 := by unfold joinV; rw [if_neg (by rw [h1]; simp)]
    rw [e]
    exact hend _ _ rfl
  rw [h1] at ha
  cases h2 : ptB (min ns.length us.length) b
  · rw [h2] at hb
    refine awp_region rfl ?_
    refine aops_run 1 (by simp only [fwA, ↓reduceIte, Nat.reduceAdd, Nat.reduceMul, Nat.reduceEqDiff, Nat.reduceLT, Nat.reduceLeDiff, reduceCtorEq, bitfw, List.length_map, List.getElem?_map, Option.map_some, Int.natCast_nonneg, Int.toNat_natCast, decide_true, decide_false, Bool.and_true, Bool.and_self, Bool.not_true, Bool.not_false, Bool.false_and, Bool.true_and, un9, un25, un26, el25, el26, ti9, ti25, ti26, ti28, pl28, ti53, un53, un3, ti3, ti4, fl28_0, fl28_1, S1_fw, U1_fw, hK0] <;> rfl) ?_
    refine aops_fn rfl rfl rfl en38 h15 ?_
    refine aops_run 4 (by simp only [fwA, ↓reduceIte, Nat.reduceAdd, Nat.reduceMul, Nat.reduceEqDiff, Nat.reduceLT, Nat.reduceLeDiff, reduceCtorEq, bitfw, List.length_map, List.getElem?_map, Option.map_some, Int.natCast_nonneg, Int.toNat_natCast, decide_true, decide_false, Bool.and_true, Bool.and_self, Bool.not_true, Bool.not_false, Bool.false_and, Bool.true_and, un9, un25, un26, el25, el26, ti9, ti25, ti26, ti28, pl28, ti53, un53, un3, ti3, ti4, fl28_0, fl28_1, S1_fw, U1_fw, hK0] <;> rfl) ?_
    refine aops_fnIf rfl rfl rfl rfl rfl en33 ha ?_
    refine aops_run 5 (by simp only [fwA, ↓reduceIte, Nat.reduceAdd, Nat.reduceMul, Nat.reduceEqDiff, Nat.reduceLT, Nat.reduceLeDiff, reduceCtorEq, bitfw, List.length_map, List.getElem?_map, Option.map_some, Int.natCast_nonneg, Int.toNat_natCast, decide_true, decide_false, Bool.and_true, Bool.and_self, Bool.not_true, Bool.not_false, Bool.false_and, Bool.true_and, un9, un25, un26, el25, el26, ti9, ti25, ti26, ti28, pl28, ti53, un53, un3, ti3, ti4, fl28_0, fl28_1, S1_fw, U1_fw, hK0] <;> rfl) ?_
    refine aops_fnIf rfl rfl rfl rfl rfl en33 hb ?_
    refine aops_run 2 (by simp only [fwA, ↓reduceIte, Nat.reduceAdd, Nat.reduceMul, Nat.reduceEqDiff, Nat.reduceLT, Nat.reduceLeDiff, reduceCtorEq, bitfw, List.length_map, List.getElem?_map, Option.map_some, Int.natCast_nonneg, Int.toNat_natCast, decide_true, decide_false, Bool.and_true, Bool.and_self, Bool.not_true, Bool.not_false, Bool.false_and, Bool.true_and, un9, un25, un26, el25, el26, ti9, ti25, ti26, ti28, pl28, ti53, un53, un3, ti3, ti4, fl28_0, fl28_1, S1_fw, U1_fw, hK0] <;> rfl) ?_
    refine aops_end ?_
    refine awp_cond (b := true) (by simp [alook, aput, ev]) ?_
    refine awp_seq ?_
    refine awp_run rfl (by simp only [fwA, ↓reduceIte, Nat.reduceAdd, Nat.reduceMul, Nat.reduceEqDiff, Nat.reduceLT, Nat.reduceLeDiff, reduceCtorEq] <;> rfl) ?_
    refine awp_ret ?_
    have e : joinV ns us a b = -1 := by unfold joinV; rw [if_neg (by rw [h2]; simp)]
    rw [e]
    exact hend _ _ rfl
  rw [h2] at hb
  refine awp_region rfl ?_
  refine aops_run 1 (by simp only [fwA, ↓reduceIte, Nat.reduceAdd, Nat.reduceMul, Nat.reduceEqDiff, Nat.reduceLT, Nat.reduceLeDiff, reduceCtorEq, bitfw, List.length_map, List.getElem?_map, Option.map_some, Int.natCast_nonneg, Int.toNat_natCast, decide_true, decide_false, Bool.and_true, Bool.and_self, Bool.not_true, Bool.not_false, Bool.false_and, Bool.true_and, un9, un25, un26, el25, el26, ti9, ti25, ti26, ti28, pl28, ti53, un53, un3, ti3, ti4, fl28_0, fl28_1, S1_fw, U1_fw, hK0] <;> rfl) ?_
  refine aops_fn rfl rfl rfl en38 h15 ?_
  refine aops_run 4 (by simp only [fwA, ↓reduceIte, Nat.reduceAdd, Nat.reduceMul, Nat.reduceEqDiff, Nat.reduceLT, Nat.reduceLeDiff, reduceCtorEq, bitfw, List.length_map, List.getElem?_map, Option.map_some, Int.natCast_nonneg, Int.toNat_natCast, decide_true, decide_false, Bool.and_true, Bool.and_self, Bool.not_true, Bool.not_false, Bool.false_and, Bool.true_and, un9, un25, un26, el25, el26, ti9, ti25, ti26, ti28, pl28, ti53, un53, un3, ti3, ti4, fl28_0, fl28_1, S1_fw, U1_fw, hK0] <;> rfl) ?_
  refine aops_fnIf rfl rfl rfl rfl rfl en33 ha ?_
  refine aops_run 5 (by simp only [fwA, ↓reduceIte, Nat.reduceAdd, Nat.reduceMul, Nat.reduceEqDiff, Nat.reduceLT, Nat.reduceLeDiff, reduceCtorEq, bitfw, List.length_map, List.getElem?_map, Option.map_some, Int.natCast_nonneg, Int.toNat_natCast, decide_true, decide_false, Bool.and_true, Bool.and_self, Bool.not_true, Bool.not_false, Bool.false_and, Bool.true_and, un9, un25, un26, el25, el26, ti9, ti25, ti26, ti28, pl28, ti53, un53, un3, ti3, ti4, fl28_0, fl28_1, S1_fw, U1_fw, hK0] <;> rfl) ?_
  refine aops_fnIf rfl rfl rfl rfl rfl en33 hb ?_
  refine aops_run 2 (by simp only [fwA, ↓reduceIte, Nat.reduceAdd, Nat.reduceMul, Nat.reduceEqDiff, Nat.reduceLT, Nat.reduceLeDiff, reduceCtorEq, bitfw, List.length_map, List.getElem?_map, Option.map_some, Int.natCast_nonneg, Int.toNat_natCast, decide_true, decide_false, Bool.and_true, Bool.and_self, Bool.not_true, Bool.not_false, Bool.false_and, Bool.true_and, un9, un25, un26, el25, el26, ti9, ti25, ti26, ti28, pl28, ti53, un53, un3, ti3, ti4, fl28_0, fl28_1, S1_fw, U1_fw, hK0] <;> rfl) ?_
  refine aops_end ?_
  refine awp_cond (b := false) (by simp [alook, aput, ev]) (awp_skip ?_)
  obtain ⟨r1, r2, r3, r4, r5⟩ := right_spec hR
  have e : joinV ns us a b = oI (jn us.length (lq us) a.toNat b.toNat) := by unfold joinV; rw [if_pos ⟨hR, h1, h2⟩]
  rw [e]
  obtain ⟨a, rfl, hal⟩ := ptB_nat h1
  obtain ⟨b, rfl, hbl⟩ := ptB_nat h2
  have h51 := c59 Γ hΓ ns us (by omega) r4 a b (by omega) (by omega)
  rw [Int.toNat_natCast, Int.toNat_natCast]
  refine awp_seq ?_
  refine awp_region rfl ?_
  refine aops_run 3 (by simp only [fwA, ↓reduceIte, Nat.reduceAdd, Nat.reduceMul, Nat.reduceEqDiff, Nat.reduceLT, Nat.reduceLeDiff, reduceCtorEq, bitfw, List.length_map, List.getElem?_map, Option.map_some, Int.natCast_nonneg, Int.toNat_natCast, decide_true, decide_false, Bool.and_true, Bool.and_self, Bool.not_true, Bool.not_false, Bool.false_and, Bool.true_and, un9, un25, un26, el25, el26, ti9, ti25, ti26, ti28, pl28, ti53, un53, un3, ti3, ti4, fl28_0, fl28_1, S1_fw, U1_fw, hK0] <;> rfl) ?_
  refine aops_fn rfl rfl rfl en59 h51 ?_
  refine aops_run 1 (by simp only [fwA, ↓reduceIte, Nat.reduceAdd, Nat.reduceMul, Nat.reduceEqDiff, Nat.reduceLT, Nat.reduceLeDiff, reduceCtorEq, bitfw, List.length_map, List.getElem?_map, Option.map_some, Int.natCast_nonneg, Int.toNat_natCast, decide_true, decide_false, Bool.and_true, Bool.and_self, Bool.not_true, Bool.not_false, Bool.false_and, Bool.true_and, un9, un25, un26, el25, el26, ti9, ti25, ti26, ti28, pl28, ti53, un53, un3, ti3, ti4, fl28_0, fl28_1, S1_fw, U1_fw, hK0] <;> rfl) ?_
  refine aops_end ?_
  refine awp_ret ?_
  exact hend _ _ rfl
/- chancel/lat.Bottom -/
theorem c19 (Γ : Nat → PV) (hΓ : Tab64 Γ) (ns : List (List UInt8)) (us : List Nat) (hw : W64 us) : Gives Tryd.prog Γ 19 [.agg [.vec (ns.map S1) false, .vec (us.map U1) false]] (.int .i64 (botV ns us)) := by
  have h15 := c38 Γ hΓ ns us hw
  refine fn_of_awp Tryd.func19 rfl (by simp [Tryd.f19]) rfl fun H => ?_
  refine awp_seq ?_
  refine awp_run rfl (by simp only [fwA, ↓reduceIte, Nat.reduceAdd, Nat.reduceMul, Nat.reduceEqDiff, Nat.reduceLT, Nat.reduceLeDiff, reduceCtorEq] <;> rfl) ?_
  refine awp_seq ?_
  refine awp_seq ?_
  cases hR : rightB ns us
  · rw [hR] at h15
    refine awp_region rfl ?_
    refine aops_run 1 (by simp only [fwA, ↓reduceIte, Nat.reduceAdd, Nat.reduceMul, Nat.reduceEqDiff, Nat.reduceLT, Nat.reduceLeDiff, reduceCtorEq, bitfw, List.length_map, List.getElem?_map, Option.map_some, Int.natCast_nonneg, Int.toNat_natCast, decide_true, decide_false, Bool.and_true, Bool.and_self, Bool.not_true, Bool.not_false, Bool.false_and, Bool.true_and, un9, un25, un26, el25, el26, ti9, ti25, ti26, ti28, pl28, ti53, un53, un3, ti3, ti4, fl28_0, fl28_1, S1_fw, U1_fw] <;> rfl) ?_
    refine aops_fn rfl rfl rfl en38 h15 ?_
    refine aops_run 1 (by simp only [fwA, ↓reduceIte, Nat.reduceAdd, Nat.reduceMul, Nat.reduceEqDiff, Nat.reduceLT, Nat.reduceLeDiff, reduceCtorEq, bitfw, List.length_map, List.getElem?_map, Option.map_some, Int.natCast_nonneg, Int.toNat_natCast, decide_true, decide_false, Bool.and_true, Bool.and_self, Bool.not_true, Bool.not_false, Bool.false_and, Bool.true_and, un9, un25, un26, el25, el26, ti9, ti25, ti26, ti28, pl28, ti53, un53, un3, ti3, ti4, fl28_0, fl28_1, S1_fw, U1_fw] <;> rfl) ?_
    refine aops_end ?_
    refine awp_cond (b := true) (by simp [alook, aput, ev]) ?_
    refine awp_seq ?_
    refine awp_run rfl (by simp only [fwA, ↓reduceIte, Nat.reduceAdd, Nat.reduceMul, Nat.reduceEqDiff, Nat.reduceLT, Nat.reduceLeDiff, reduceCtorEq] <;> rfl) ?_
    refine awp_ret ?_
    have e : botV ns us = -1 := by unfold botV; rw [if_neg (by rw [hR]; simp)]
    rw [e]
    exact gives_end (.inl rfl) _ rfl
  rw [hR] at h15
  obtain ⟨r1, r2, r3, r4, r5⟩ := right_spec hR
  have h45 := c43 Γ ns us (by omega)
  have h55 := c42 Γ us (2 ^ us.length - 1)
  rw [bot_idx r4 r5] at h55
  have e : botV ns us = oI (foldM us.length (lq us) us.length) := by unfold botV; rw [if_pos hR]
  rw [e]
  refine awp_region rfl ?_
  refine aops_run 1 (by simp only [fwA, ↓reduceIte, Nat.reduceAdd, Nat.reduceMul, Nat.reduceEqDiff, Nat.reduceLT, Nat.reduceLeDiff, reduceCtorEq, bitfw, List.length_map, List.getElem?_map, Option.map_some, Int.natCast_nonneg, Int.toNat_natCast, decide_true, decide_false, Bool.and_true, Bool.and_self, Bool.not_true, Bool.not_false, Bool.false_and, Bool.true_and, un9, un25, un26, el25, el26, ti9, ti25, ti26, ti28, pl28, ti53, un53, un3, ti3, ti4, fl28_0, fl28_1, S1_fw, U1_fw] <;> rfl) ?_
  refine aops_fn rfl rfl rfl en38 h15 ?_
  refine aops_run 1 (by simp only [fwA, ↓reduceIte, Nat.reduceAdd, Nat.reduceMul, Nat.reduceEqDiff, Nat.reduceLT, Nat.reduceLeDiff, reduceCtorEq, bitfw, List.length_map, List.getElem?_map, Option.map_some, Int.natCast_nonneg, Int.toNat_natCast, decide_true, decide_false, Bool.and_true, Bool.and_self, Bool.not_true, Bool.not_false, Bool.false_and, Bool.true_and, un9, un25, un26, el25, el26, ti9, ti25, ti26, ti28, pl28, ti53, un53, un3, ti3, ti4, fl28_0, fl28_1, S1_fw, U1_fw] <;> rfl) ?_
  refine aops_end ?_
  refine awp_cond (b := false) (by simp [alook, aput, ev]) (awp_skip ?_)
  refine awp_seq ?_
  refine awp_drawn [0, 1, 1, 0, 0, 0] [0, 1, 0, 4, 15, 31] mixed rfl (by kernel_rfl) ?_
  refine dops_run 3 (by simp only [fwA, ↓reduceIte, Nat.reduceAdd, Nat.reduceMul, Nat.reduceEqDiff, Nat.reduceLT, Nat.reduceLeDiff, reduceCtorEq, bitfw, List.length_map, List.getElem?_map, Option.map_some, Int.natCast_nonneg, Int.toNat_natCast, decide_true, decide_false, Bool.and_true, Bool.and_self, Bool.not_true, Bool.not_false, Bool.false_and, Bool.true_and, un9, un25, un26, el25, el26, ti9, ti25, ti26, ti28, pl28, ti53, un53, un3, ti3, ti4, fl28_0, fl28_1, S1_fw, U1_fw] <;> rfl) ?_
  refine dops_fn rfl (by simp only [fwA, ↓reduceIte, Nat.reduceAdd, Nat.reduceMul, Nat.reduceEqDiff, Nat.reduceLT, Nat.reduceLeDiff, reduceCtorEq] <;> rfl) rfl rfl en43 h45 ?_
  refine dops_fn rfl (by simp only [fwA, ↓reduceIte, Nat.reduceAdd, Nat.reduceMul, Nat.reduceEqDiff, Nat.reduceLT, Nat.reduceLeDiff, reduceCtorEq] <;> rfl) rfl rfl en42 h55 ?_
  refine dops_run 1 (by simp only [fwA, ↓reduceIte, Nat.reduceAdd, Nat.reduceMul, Nat.reduceEqDiff, Nat.reduceLT, Nat.reduceLeDiff, reduceCtorEq, bitfw, List.length_map, List.getElem?_map, Option.map_some, Int.natCast_nonneg, Int.toNat_natCast, decide_true, decide_false, Bool.and_true, Bool.and_self, Bool.not_true, Bool.not_false, Bool.false_and, Bool.true_and, un9, un25, un26, el25, el26, ti9, ti25, ti26, ti28, pl28, ti53, un53, un3, ti3, ti4, fl28_0, fl28_1, S1_fw, U1_fw] <;> rfl) ?_
  refine dops_end ?_
  refine awp_ret ?_
  exact gives_end (.inl rfl) _ rfl

/- chancel/lat.Top -/
theorem c18 (Γ : Nat → PV) (hΓ : Tab64 Γ) (ns : List (List UInt8)) (us : List Nat) (hw : W64 us) : Gives Tryd.prog Γ 18 [.agg [.vec (ns.map S1) false, .vec (us.map U1) false]] (.int .i64 (topV ns us)) := by
  have h15 := c38 Γ hΓ ns us hw
  refine fn_of_awp Tryd.func18 rfl (by simp [Tryd.f18]) rfl fun H => ?_
  refine awp_bd fun hbd0 => ?_
  refine awp_seq ?_
  refine awp_run rfl (by simp only [fwA, ↓reduceIte, Nat.reduceAdd, Nat.reduceMul, Nat.reduceEqDiff, Nat.reduceLT, Nat.reduceLeDiff, reduceCtorEq] <;> rfl) ?_
  refine awp_seq ?_
  refine awp_seq ?_
  cases hR : rightB ns us
  · rw [hR] at h15
    refine awp_region rfl ?_
    refine aops_run 1 (by simp only [fwA, ↓reduceIte, Nat.reduceAdd, Nat.reduceMul, Nat.reduceEqDiff, Nat.reduceLT, Nat.reduceLeDiff, reduceCtorEq, bitfw, List.length_map, List.getElem?_map, Option.map_some, Int.natCast_nonneg, Int.toNat_natCast, decide_true, decide_false, Bool.and_true, Bool.and_self, Bool.not_true, Bool.not_false, Bool.false_and, Bool.true_and, un9, un25, un26, el25, el26, ti9, ti25, ti26, ti28, pl28, ti53, un53, un3, ti3, ti4, fl28_0, fl28_1, S1_fw, U1_fw] <;> rfl) ?_
    refine aops_fn rfl rfl rfl en38 h15 ?_
    refine aops_run 1 (by simp only [fwA, ↓reduceIte, Nat.reduceAdd, Nat.reduceMul, Nat.reduceEqDiff, Nat.reduceLT, Nat.reduceLeDiff, reduceCtorEq, bitfw, List.length_map, List.getElem?_map, Option.map_some, Int.natCast_nonneg, Int.toNat_natCast, decide_true, decide_false, Bool.and_true, Bool.and_self, Bool.not_true, Bool.not_false, Bool.false_and, Bool.true_and, un9, un25, un26, el25, el26, ti9, ti25, ti26, ti28, pl28, ti53, un53, un3, ti3, ti4, fl28_0, fl28_1, S1_fw, U1_fw] <;> rfl) ?_
    refine aops_end ?_
    refine awp_cond (b := true) (by simp [alook, aput, ev]) ?_
    refine awp_seq ?_
    refine awp_run rfl (by simp only [fwA, ↓reduceIte, Nat.reduceAdd, Nat.reduceMul, Nat.reduceEqDiff, Nat.reduceLT, Nat.reduceLeDiff, reduceCtorEq] <;> rfl) ?_
    refine awp_ret ?_
    have e : topV ns us = -1 := by unfold topV; rw [if_neg (by rw [hR]; simp)]
    rw [e]
    exact gives_end (.inl rfl) _ rfl
  rw [hR] at h15
  obtain ⟨r1, r2, r3, r4, r5⟩ := right_spec hR
  have e : topV ns us = oI (foldM us.length (tr (lq us)) us.length) := by unfold topV; rw [if_pos hR]
  rw [e]
  refine awp_region rfl ?_
  refine aops_run 1 (by simp only [fwA, ↓reduceIte, Nat.reduceAdd, Nat.reduceMul, Nat.reduceEqDiff, Nat.reduceLT, Nat.reduceLeDiff, reduceCtorEq, bitfw, List.length_map, List.getElem?_map, Option.map_some, Int.natCast_nonneg, Int.toNat_natCast, decide_true, decide_false, Bool.and_true, Bool.and_self, Bool.not_true, Bool.not_false, Bool.false_and, Bool.true_and, un9, un25, un26, el25, el26, ti9, ti25, ti26, ti28, pl28, ti53, un53, un3, ti3, ti4, fl28_0, fl28_1, S1_fw, U1_fw] <;> rfl) ?_
  refine aops_fn rfl rfl rfl en38 h15 ?_
  refine aops_run 1 (by simp only [fwA, ↓reduceIte, Nat.reduceAdd, Nat.reduceMul, Nat.reduceEqDiff, Nat.reduceLT, Nat.reduceLeDiff, reduceCtorEq, bitfw, List.length_map, List.getElem?_map, Option.map_some, Int.natCast_nonneg, Int.toNat_natCast, decide_true, decide_false, Bool.and_true, Bool.and_self, Bool.not_true, Bool.not_false, Bool.false_and, Bool.true_and, un9, un25, un26, el25, el26, ti9, ti25, ti26, ti28, pl28, ti53, un53, un3, ti3, ti4, fl28_0, fl28_1, S1_fw, U1_fw] <;> rfl) ?_
  refine aops_end ?_
  refine awp_cond (b := false) (by simp [alook, aput, ev]) (awp_skip ?_)
  refine awp_seq ?_
  refine awp_region rfl ?_
  refine aops_run 2 (by simp only [fwA, ↓reduceIte, Nat.reduceAdd, Nat.reduceMul, Nat.reduceEqDiff, Nat.reduceLT, Nat.reduceLeDiff, reduceCtorEq, bitfw, List.length_map, List.getElem?_map, Option.map_some, Int.natCast_nonneg, Int.toNat_natCast, decide_true, decide_false, Bool.and_true, Bool.and_self, Bool.not_true, Bool.not_false, Bool.false_and, Bool.true_and, un9, un25, un26, el25, el26, ti9, ti25, ti26, ti28, pl28, ti53, un53, un3, ti3, ti4, fl28_0, fl28_1, S1_fw, U1_fw] <;> rfl) ?_
  have hc56 := c39 Γ 40 en40 [] (fun x => decide ((bitsOf x).length = 1)) us (H ++ [.box [.vec (ns.map S1) false, .vec (us.map U1) false]]) (fun x hx => c40 Γ x (hw x hx) _)
  rw [top_idx (by omega) r4 r5] at hc56
  refine aops_call rfl rfl rfl en39 (hc56.mono fun p H' hp => ?_)
  obtain ⟨rfl, rfl⟩ := hp
  refine aops_run 1 (by simp only [fwA, ↓reduceIte, Nat.reduceAdd, Nat.reduceMul, Nat.reduceEqDiff, Nat.reduceLT, Nat.reduceLeDiff, reduceCtorEq, bitfw, List.length_map, List.getElem?_map, Option.map_some, Int.natCast_nonneg, Int.toNat_natCast, decide_true, decide_false, Bool.and_true, Bool.and_self, Bool.not_true, Bool.not_false, Bool.false_and, Bool.true_and, un9, un25, un26, el25, el26, ti9, ti25, ti26, ti28, pl28, ti53, un53, un3, ti3, ti4, fl28_0, fl28_1, S1_fw, U1_fw] <;> rfl) ?_
  refine aops_end ?_
  refine awp_ret ?_
  exact gives_end (.inl rfl) _ rfl

end Go.Proofs.YtpkpbfemglmejaaDoor

/- The framework on: parts of one's own rows; their clearing. -/
namespace Go.Proofs.YtpkpbfemglmejaaDoor.Fw
set_option linter.unusedVariables false
set_option linter.unusedSimpArgs false
set_option maxRecDepth 100000
open Go.RowKit

theorem rep_flat {X : Type} (z : List X) (h0 : 0 < z.length) : ∀ (k j : Nat), j < k * z.length → (List.replicate k z).flatten[j]? = z[j % z.length]?
  | 0, j, hj => by omega
  | k + 1, j, hj => by
    rw [List.replicate_succ, List.flatten_cons]
    by_cases h : j < z.length
    · rw [List.getElem?_append_left h, Nat.mod_eq_of_lt h]
    · rw [List.getElem?_append_right (by omega), rep_flat z h0 k (j - z.length) (by rw [Nat.add_mul] at hj; omega)]
      congr 1
      exact (Nat.mod_eq_sub_mod (by omega)).symm
theorem rep_len {X : Type} (z : List X) (k : Nat) : (List.replicate k z).flatten.length = k * z.length := by
  induction k with
  | zero => simp
  | succ k ih => rw [List.replicate_succ, List.flatten_cons, List.length_append, ih, Nat.add_mul]; omega

section
variable {P : Program} {Γ : Nat → PV} {o : Oper} {A : List (Nat × PV)} {H : List Blk} {K : PV → List Blk → Prop}

/-- What stands from a place of one's own row on. -/
theorem os_sliceSuf {t : TypeId} {x lo : Operand} {kk : IntKind} {b q k sz by' l : Nat} {cs : List PV} (ho : o.op = .slice t x (some lo) none none) (ht : elOf P t = some (sz, by')) (hx : ev Γ A x = .row b q k sz) (hlo : ev Γ A lo = .int kk l) (hl : l ≤ k)
    (hb : H[b]? = some (.row sz cs)) (hlen : cs.length = q + k * sz) (hk : K (.row b (q + l * sz) (k - l) sz) H) : OStep P Γ o A H K :=
  ostep_pure (by simp [ho]) _ hk fun w0 G w N a hs ha => by
    have h1 := ha.ev hs.glob x
    rw [hx] at h1
    have hlr := ha.ev hs.glob lo
    rw [hlo] at hlr
    have hlv := hlr.int_inv
    obtain ⟨te, i, hu, hinf, rfl, _⟩ := elOf_spec ht
    obtain ⟨_, hbl, _, hsub, _, _⟩ := hs.blk b _ hb
    have hkn := h1.row_len
    obtain ⟨ad, cap, hax, hlt, hr, hle, had⟩ := h1.row_inv
    obtain ⟨hcap, hcase⟩ := had (by omega)
    have hmul : l * i.size + (k - l) * i.size = k * i.size := by rw [← Nat.add_mul]; congr 1; omega
    refine ⟨.slice (if cap = l then ad else ad.map (·.add (l * i.size))) (k - l) (cap - l), ?_, .row _ _ _ _ _ _ _ (by omega) hlt hr (by omega) fun _ => ⟨by omega, ?_⟩⟩
    · have hbd : (Instr.sliceBounds true k cap (some (.int kk l)) none none).run P w = .ok (l, k, cap) w := by
        simp [Instr.sliceBounds, Instr.sliceBound, asIntOf, hl]
      simp [execOp, ho, Instr.sliceAt, Instr.slice, run_under hu, hax, hlv, hbd, run_size hinf]
    · by_cases hcl : cap = l
      · rw [if_pos hcl]; exact .inr ⟨by omega, by omega⟩
      · rw [if_neg hcl]
        rcases hcase with ⟨h2, rfl, h3⟩ | ⟨h2, h3⟩
        · refine .inl ⟨by omega, ?_, ?_⟩
          · rw [Option.map_some, Fw.add_at]
            congr 2
            omega
          · have : (cap - l) * i.size + l * i.size = cap * i.size := by rw [← Nat.add_mul]; congr 1; omega
            omega
        · omega

/-- The first elements of one's own row: another row; the old one is not looked at any more. -/
theorem os_slicePre {t : TypeId} {x hi : Operand} {kk : IntKind} {b q k sz by' h : Nat} {cs : List PV} (ho : o.op = .slice t x none (some hi) none) (ht : elOf P t = some (sz, by')) (hx : ev Γ A x = .row b q k sz) (hhi : ev Γ A hi = .int kk h) (hh : h ≤ k)
    (hb : H[b]? = some (.row sz cs)) (hlen : cs.length = q + k * sz) (hk : K (.row H.length q h sz) (H.set b .dead ++ [.row sz (cs.take (q + h * sz))])) : OStep P Γ o A H K :=
  ostep_value (by simp [ho]) fun w0 G w N a hs ha => by
    have h1 := ha.ev hs.glob x
    rw [hx] at h1
    have hlr := ha.ev hs.glob hi
    rw [hhi] at hlr
    have hlv := hlr.int_inv
    obtain ⟨te, i, hu, hinf, rfl, _⟩ := elOf_spec ht
    obtain ⟨hisr, hbl, hsz0, hsub, hbdc, hrest⟩ := hs.blk b _ hb
    have hblt := (List.getElem?_eq_some_iff.1 hb).1
    have hkn := h1.row_len
    obtain ⟨ad, cap, hax, hlt, hr, hle, had⟩ := h1.row_inv
    obtain ⟨hcap, hcase⟩ := had (by omega)
    have hmul : h * i.size ≤ k * i.size := Nat.mul_le_mul_right _ hh
    have hsubq : (G.info b).sub ≤ q + h * i.size := by
      rcases hcase with ⟨h2, _⟩ | ⟨h2, h3⟩
      · omega
      · subst h2; rw [Nat.zero_mul] at hlen; omega
    have htl : (cs.take (q + h * i.size)).length = q + h * i.size := by rw [List.length_take]; omega
    let inf : Info := { (G.info b) with len := q + h * i.size }
    let G' := G.setInfo H.length inf
    have he : Evol G H.length G' := Evol.setInfo_new G H.length inf
    have hi' : ∀ j, j < H.length → G'.info j = G.info j := fun j hj => G.setInfo_other inf (by omega)
    have hlast : G'.info H.length = inf := G.setInfo_same ..
    have hL : (H.set b Blk.dead ++ [Blk.row i.size (cs.take (q + h * i.size))]).length = H.length + 1 := by simp
    have key : ∀ (j : Nat) B, (H.set b Blk.dead ++ [Blk.row i.size (cs.take (q + h * i.size))])[j]? = some B → (j ≠ b ∧ j < H.length ∧ H[j]? = some B) ∨ (j = b ∧ B = .dead) ∨ (j = H.length ∧ B = .row i.size (cs.take (q + h * i.size))) := fun j B hB => by
      by_cases hj : j < H.length
      · rw [List.getElem?_append_left (by simpa using hj)] at hB
        by_cases e : j = b
        · subst e; rw [List.getElem?_set_self hj] at hB; exact .inr (.inl ⟨rfl, (Option.some.inj hB).symm⟩)
        · rw [List.getElem?_set_ne (Ne.symm e)] at hB; exact .inl ⟨e, hj, hB⟩
      · rw [List.getElem?_append_right (by simpa using hj)] at hB
        simp only [List.length_set] at hB
        have h0 : j - H.length = 0 := by
          rcases Nat.eq_zero_or_pos (j - H.length) with h0 | h0
          · exact h0
          · rw [List.getElem?_eq_none (by simp; omega)] at hB; cases hB
        rw [h0] at hB
        exact .inr (.inr ⟨by omega, by simpa using hB.symm⟩)
    have hlive : (Blk.row i.size (cs.take (q + h * i.size))).live inf = true → (Blk.row i.size cs).live (G.info b) = true := fun h => h
    have hsim : Sim Γ w0 G' (H.set b Blk.dead ++ [Blk.row i.size (cs.take (q + h * i.size))]) w := by
      refine ⟨hs.below, hs.mem, fun j B hB => ?_, fun j B hB hlv => ?_, fun j j' B B' hB hB' hlv hlv' hq => ?_, fun g => (hs.glob g).mono 0 (he.less (Nat.zero_le _)) (Nat.le_refl _), hs.tab⟩
      · rw [hL]
        rcases key j B hB with ⟨_, hj, hB⟩ | ⟨rfl, rfl⟩ | ⟨rfl, rfl⟩
        · rw [hi' j hj]; exact (hs.blk j B hB).mono he (by omega) (fun _ => rfl)
        · trivial
        · rw [hlast]
          refine ⟨hisr, htl.symm, hsz0, by rw [htl]; exact hsubq, ?_, ?_⟩
          · rw [PV.bdL_iff] at hbdc ⊢
            exact fun p hp => PV.bd_mono (by omega) p (hbdc p (List.mem_of_mem_take hp))
          · rcases hrest with ⟨hz, hcs⟩ | ⟨hpos, C, e, hh', hCs, hle', h5⟩
            · exact .inl ⟨hz, by rw [htl]; show _ = (G.info b).sub; omega⟩
            · refine .inr ⟨hpos, C, e, hh', hCs, by rw [htl]; show _ - (G.info b).sub ≤ _; omega, fun j c u hc hu => ?_⟩
              have hc' : cs[(G.info b).sub + j]? = some c := by
                have hc2 : (cs.take (q + h * i.size))[(G.info b).sub + j]? = some c := hc
                rw [List.getElem?_take] at hc2
                split at hc2
                · exact hc2
                · cases hc2
              exact ⟨(h5 j c u hc' hu).1.mono _ he (by omega), (h5 j c u hc' hu).2⟩
      · rcases key j B hB with ⟨_, hj, hB⟩ | ⟨rfl, rfl⟩ | ⟨rfl, rfl⟩
        · rw [hi' j hj] at hlv ⊢; exact hs.own j B hB hlv
        · cases hlv
        · rw [hlast] at hlv ⊢; exact hs.own b _ hb (hlive hlv)
      · rcases key j B hB with ⟨n1, hj, hB⟩ | ⟨rfl, rfl⟩ | ⟨rfl, rfl⟩
        · rcases key j' B' hB' with ⟨n2, hj', hB'⟩ | ⟨rfl, rfl⟩ | ⟨rfl, rfl⟩
          · rw [hi' j hj] at hlv hq; rw [hi' j' hj'] at hlv' hq; exact hs.inj j j' B B' hB hB' hlv hlv' hq
          · cases hlv'
          · rw [hi' j hj] at hlv hq; rw [hlast] at hlv' hq
            exact absurd (hs.inj j b B _ hB hb hlv (hlive hlv') hq) n1
        · cases hlv
        · rcases key j' B' hB' with ⟨n2, hj', hB'⟩ | ⟨rfl, rfl⟩ | ⟨rfl, rfl⟩
          · rw [hlast] at hlv hq; rw [hi' j' hj'] at hlv' hq
            exact absurd (hs.inj j' b B' _ hB' hb hlv' (hlive hlv) hq.symm) n2
          · cases hlv'
          · rfl
    refine ⟨.slice (if cap = 0 then ad else ad.map (·.add (0 * i.size))) h cap, w, G', _, _, ?_, hsim, ?_, he, by rw [hL]; omega, hk⟩
    · have hbd : (Instr.sliceBounds true k cap none (some (.int kk h)) none).run P w = .ok (0, h, cap) w := by
        have hhc : (h : Int) ≤ cap := by omega
        have hhn : h ≤ cap := by omega
        simp [Instr.sliceBounds, Instr.sliceBound, asIntOf, hhc, hhn]
      simp [execOp, ho, Instr.sliceAt, Instr.slice, run_under hu, hax, hlv, hbd, run_size hinf]
    · rw [hL]
      refine .row _ _ _ _ _ _ _ (by omega) (by omega) (by rw [hlast]; exact hisr) (by rw [hlast]; exact Nat.le_refl _) fun _ => ⟨by omega, ?_⟩
      rw [hlast]
      rcases hcase with ⟨h2, rfl, h3⟩ | ⟨h2, h3⟩
      · refine .inl ⟨h2, ?_, h3⟩
        split
        · rfl
        · rw [Nat.zero_mul, Option.map_some, Fw.add_at]; rfl
      · exact .inr ⟨by omega, h3⟩

/-- The clearing of what stands at the end of one's own row. -/
theorem os_clearRow {t : TypeId} {x : Operand} {e : TypeId} {ti : TI} {b q k : Nat} {cs : List PV} (ho : o.op = .call { callee := .builtin .clear, args := #[x], argTypes := #[t] }) (ht : P.underlying t = some (.slice e)) (he : tiOf P e = some ti)
    (hx : ev Γ A x = .row b q k ti.size) (hb : H[b]? = some (.row ti.size cs)) (hlen : cs.length = q + k * ti.size)
    (hk : K (.tup []) (H.set b (.row ti.size (splice cs q (List.replicate k ti.zero).flatten)))) : OStep P Γ o A H K :=
  ostep_value (by simp [ho]) fun w0 G w N a hs ha => by
    obtain ⟨i, d, z, hi, hd, hzo, hzs, hisz, _, hone, _, hzl⟩ := tiOf_spec he
    have h1 := ha.ev hs.glob x
    rw [hx] at h1
    obtain ⟨hisr, hbl, hsz0, hsub, hbdc, hrest⟩ := hs.blk b _ hb
    obtain ⟨ad, cap, hax, hlt, hr, hle, had⟩ := h1.row_inv
    obtain ⟨hcap, hcase⟩ := had (by omega)
    have hrun : ∀ w', (match (Value.slice ad k cap) with
        | .slice none _ _ => (pure () : Sem Unit)
        | .slice _ 0 _ => pure ()
        | .slice (some a) n _ => do storeCells a (Builtin.zeroCells (← zeroValue e).cells n).toList
        | _ => stuck "").run P w = .ok () w' → (execOp a.eval o).run P w = .ok (.value (.tuple #[])) w' := fun w' hw => by
      cases ad with
      | none => simp at hw; subst hw; simp [execOp, ho, resolve, invoke, builtin, Builtin.clear_, run_under ht, hax]
      | some a' =>
        cases k with
        | zero => simp at hw; subst hw; simp [execOp, ho, resolve, invoke, builtin, Builtin.clear_, run_under ht, hax]
        | succ k =>
          simp [run_zero hi hzo] at hw
          simp [execOp, ho, resolve, invoke, builtin, Builtin.clear_, run_under ht, hax, run_zero hi hzo, hw]
    have hzlen : ti.zero.length = ti.size := by rw [hzl, List.length_map, Array.length_toList, hzs]
    rcases Nat.eq_zero_or_pos k with hk0 | hkp
    · subst hk0
      have hsame : H.set b (.row ti.size (splice cs q (List.replicate 0 ti.zero).flatten)) = H := by
        have : splice cs q (List.replicate 0 ti.zero).flatten = cs := by simp [splice]
        rw [this]
        obtain ⟨g1, g2⟩ := List.getElem?_eq_some_iff.1 hb
        rw [← g2]; exact List.set_getElem_self _
      rw [hsame] at hk
      refine ⟨_, w, G, _, H, hrun w ?_, hs, .tup _ _ _ rfl (fun i c v h => by simp at h), Evol.refl _ _, Nat.le_refl _, hk⟩
      cases ad <;> rfl
    · rcases hcase with ⟨h2, rfl, h3⟩ | ⟨h2, _⟩
      · have hxs : Reps G H.length (List.replicate k ti.zero).flatten (Builtin.zeroCells z.cells k).toList := by
          refine ⟨by rw [rep_len, hzlen, Array.length_toList, size_zeroCells, hzs], fun j c v hc hv => ?_⟩
          have hj : j < k * ti.zero.length := by have := (List.getElem?_eq_some_iff.1 hc).1; rwa [rep_len] at this
          rw [rep_flat _ (by omega) k j hj, hzlen] at hc
          rw [Array.getElem?_toList] at hv
          have hjz : j % ti.size < z.cells.size := by rw [hzs]; exact Nat.mod_lt _ hsz0
          have hv' : z.cells[j % ti.size]? = some v := by
            unfold Builtin.zeroCells at hv
            rw [Array.getElem?_map] at hv
            obtain ⟨y, hy, rfl⟩ := Option.map_eq_some_iff.1 hv
            obtain ⟨hy1, hy2⟩ := Array.getElem?_eq_some_iff.1 hy
            simp only [Array.getElem_range] at hy2
            subst hy2
            rw [hzs, Array.getElem?_eq_getElem hjz]
            congr 1
            exact (getElem!_pos z.cells (j % ti.size) hjz).symm
          rw [hzl, List.getElem?_map, Array.getElem?_toList, hv'] at hc
          simp only [Option.map_some, Option.some.injEq] at hc
          subst hc
          exact ofC_rep G _ v
        obtain ⟨w', hw', hsim⟩ := hs.writeRow (P := P) (q := q) hb hxs (fun j u hu => by
          have hjz : ∀ j, j % ti.size < z.cells.size := fun j => by rw [hzs]; exact Nat.mod_lt _ hsz0
          unfold Builtin.zeroCells at hu
          rw [Array.getElem?_map] at hu
          obtain ⟨y, hy, rfl⟩ := Option.map_eq_some_iff.1 hu
          refine hone (y % z.cells.size) _ ?_
          have hyz : y % z.cells.size < z.cells.size := by rw [hzs]; exact Nat.mod_lt _ hsz0
          rw [Array.getElem?_eq_getElem hyz]
          congr 1
          exact (getElem!_pos z.cells _ hyz).symm) (by rw [rep_len, hzlen]; omega) h2 (by rw [rep_len, hzlen]; exact Nat.mul_pos hkp hsz0)
        refine ⟨_, w', G, _, _, hrun w' ?_, hsim, .tup _ _ _ rfl (fun i c v h => by simp at h), Evol.refl _ _, by simp, hk⟩
        obtain ⟨k', rfl⟩ : ∃ k', k = k' + 1 := ⟨k - 1, by omega⟩
        simpa [run_zero hi hzo] using hw'
      · omega
end

end Go.Proofs.YtpkpbfemglmejaaDoor.Fw

/- The framework on: a row that a contract of the library's turns as a whole. -/
namespace Go.Proofs.YtpkpbfemglmejaaDoor.Fw
set_option linter.unusedVariables false
set_option linter.unusedSimpArgs false
set_option maxRecDepth 100000
open Go.RowKit
open Go.Sort (putCells putRow mapBlock onCells)

/-- The world grows, and nothing that lay is turned. -/
theorem Sim.grown {Γ : Nat → PV} {w0 w w' : World} {G : Ghost} {H : List Blk} (h : Sim Γ w0 G H w) (hb : Below w.heap.size w w') : Sim Γ w0 G H w' :=
  h.step (Evol.refl _ _) (fun _ _ => rfl) (h.below.trans ⟨hb.os, hb.tape, hb.output, hb.size, fun k hk => hb.block k (Nat.lt_of_lt_of_le hk h.size)⟩) hb.size (fun k B hB hl => hb.block _ (h.own k B hB hl).2.1)
    (fun a v ha => by
      have := h.mem a v ha
      rw [cell_of_heap (w := w) (hb.block _ (World.block_lt_of_cell? w a this))]; exact this)
    (fun k B hB hl => (h.own k B hB hl).2.2)

theorem Sim.drawn {Γ : Nat → PV} {w0 w : World} {G : Ghost} {H : List Blk} (h : Sim Γ w0 G H w) (n : Nat) : Sim Γ w0 G H (Sort.ahead w n) :=
  h.grown ⟨rfl, rfl, rfl, Nat.le_refl _, fun _ _ => rfl⟩

theorem putCells_enc {X : Type} [Inhabited X] (enc : X → Value) (off : Nat) (d : Array X) (c : Array Value) : putCells enc off d c = putCells id off (d.map enc) c := by
  apply Array.ext_getElem?
  intro k
  simp only [putCells, Array.getElem?_mapIdx, Array.size_map]
  cases c[k]? with
  | none => rfl
  | some y =>
    simp only [Option.map_some]
    split
    · rename_i h
      rw [getElem!_pos d (k - off) (by omega), getElem!_pos (d.map enc) (k - off) (by simp; omega)]
      simp
    · rfl

theorem putRow_enc {X : Type} [Inhabited X] (enc : X → Value) (w : World) (blk off : Nat) (d : Array X) : putRow enc w blk off d = putRow id w blk off (d.map enc) := by
  unfold putRow mapBlock
  rw [show putCells enc off d = putCells id off (d.map enc) from funext fun c => putCells_enc enc off d c]

/-- A whole row is laid anew in its own place. -/
theorem Sim.putRow0 {Γ : Nat → PV} {w0 w : World} {G : Ghost} {H : List Blk} {b sz : Nat} {cs ys : List PV} {vs : Array Value} (h : Sim Γ w0 G H w) (hb : H[b]? = some (.row sz cs)) (hsub : (G.info b).sub = 0) (hpos : 0 < (G.info b).size) (hl : ys.length = cs.length)
    (hr : Reps G H.length ys vs.toList) (h1 : ∀ (j : Nat) u, vs[j]? = some u → u.oneCell' = true) : Sim Γ w0 G (H.set b (.row sz ys)) (putRow id w (G.info b).blk 0 vs) := by
  obtain ⟨k1, k2, k3, k4, k5, k6⟩ := h.blk b _ hb
  obtain ⟨kz, _⟩ | ⟨_, C, e, k7, k8, k9, k10⟩ := k6
  · omega
  have hvs : vs.size = ys.length := by have := hr.1; simp at this; omega
  refine h.setSame hb (by simpa [Blk.live] using hpos) (fun k hk => ?_) (by simp [putRow, mapBlock]) ⟨rfl, rfl, rfl⟩ ⟨k1, by omega, k3, by omega, hr.bound, .inr ⟨hpos, putCells id 0 vs C, e, ?_, by simpa [putCells] using k8, by simp [putCells]; omega, fun j c u hc hu => ?_⟩⟩
  · simp only [putRow, mapBlock, Array.getElem?_modify]
    rw [if_neg (Ne.symm hk)]
  · simp only [putRow, mapBlock, Array.getElem?_modify, if_pos, k7, Option.map_some, onCells]
  · rw [hsub, Nat.zero_add] at hc
    have hj := (List.getElem?_eq_some_iff.1 hc).1
    simp only [putCells, Array.getElem?_mapIdx] at hu
    obtain ⟨x, hx, rfl⟩ := Option.map_eq_some_iff.1 hu
    rw [if_pos ⟨Nat.zero_le _, by omega⟩]
    have hv : vs[j]? = some (id vs[j - 0]!) := by
      rw [Nat.sub_zero, Array.getElem?_eq_getElem (by omega)]
      congr 1
      exact (getElem!_pos vs j (by omega)).symm
    exact ⟨hr.2 j c _ hc (by rw [Array.getElem?_toList]; exact hv), h1 j _ hv⟩

/-- What one's own row, looked at whole, is in the world. -/
theorem Sim.rowCells {Γ : Nat → PV} {w0 w : World} {G : Ghost} {H : List Blk} {b k sz : Nat} {cs : List PV} {v : Value} (h : Sim Γ w0 G H w) (hb : H[b]? = some (.row sz cs)) (hlen : cs.length = k * sz) (hv : Rep G H.length (.row b 0 k sz) v) :
    ∃ ad cap, v = .slice ad k cap ∧ (k = 0 ∨ (ad = some ⟨(G.info b).blk, 0, none⟩ ∧ (G.info b).sub = 0 ∧ 0 < (G.info b).size ∧ (G.info b).blk < w.heap.size ∧
      ∀ (j : Nat) c, cs[j]? = some c → ∃ u, w.cell? ⟨(G.info b).blk, j, none⟩ = some u ∧ w.frozen? ⟨(G.info b).blk, j, none⟩ = false ∧ Rep G H.length c u ∧ u.oneCell' = true)) := by
  obtain ⟨ad, cap, rfl, _, _, h3, h4⟩ := hv.row_inv
  refine ⟨ad, cap, rfl, ?_⟩
  obtain rfl | hk := Nat.eq_zero_or_pos k
  · exact .inl rfl
  obtain ⟨k1, k2, k3, k4, k5, k6⟩ := h.blk b _ hb
  obtain ⟨q1, q2⟩ := h4 (by omega)
  have q2' : (G.info b).sub ≤ 0 ∧ ad = some ⟨(G.info b).blk, 0 - (G.info b).sub, none⟩ := by
    rcases q2 with ⟨q2, q3, q4⟩ | ⟨q2, _⟩
    · exact ⟨q2, q3⟩
    · omega
  obtain ⟨q2, q3⟩ := q2'
  have hpos : 0 < k * sz := Nat.mul_pos hk k3
  obtain ⟨kz, kl⟩ | ⟨hp, C, e, k7, k8, k9, k10⟩ := k6
  · omega
  have hs0 : (G.info b).sub = 0 := by omega
  refine .inr ⟨by rw [q3]; simp, hs0, hp, (h.own b _ hb (by simpa [Blk.live] using hp)).2.1, fun j c hc => ?_⟩
  have hj := (List.getElem?_eq_some_iff.1 hc).1
  have hjC : j < C.size := by omega
  obtain ⟨g1, g2⟩ := k10 j c C[j] (by rw [hs0, Nat.zero_add]; exact hc) (Array.getElem?_eq_getElem hjC)
  refine ⟨C[j], ?_, ?_, g1, g2⟩
  · simp [World.cell?, k7, hjC]
  · simp [World.frozen?, k7]

end Go.Proofs.YtpkpbfemglmejaaDoor.Fw

/- The framework on: one's own row as a list of elements. -/
namespace Go.Proofs.YtpkpbfemglmejaaDoor.Fw
set_option linter.unusedVariables false
set_option linter.unusedSimpArgs false
set_option maxRecDepth 100000
open Go.RowKit

section
variable {X : Type} {enc : X → List PV} {sz : Nat}

theorem flat_drop (h : ∀ x, (enc x).length = sz) : ∀ (l : List X) (i : Nat), ((l.map enc).flatten).drop (i * sz) = ((l.drop i).map enc).flatten
  | [], i => by simp
  | x :: l, 0 => by simp
  | x :: l, i + 1 => by
    rw [List.map_cons, List.flatten_cons, show (i + 1) * sz = (enc x).length + i * sz by rw [h, Nat.add_mul]; omega, List.drop_length_add_append]
    exact flat_drop h l i

theorem flat_take (h : ∀ x, (enc x).length = sz) : ∀ (l : List X) (i : Nat), ((l.map enc).flatten).take (i * sz) = ((l.take i).map enc).flatten
  | [], i => by simp
  | x :: l, 0 => by simp
  | x :: l, i + 1 => by
    rw [List.map_cons, List.flatten_cons, show (i + 1) * sz = (enc x).length + i * sz by rw [h, Nat.add_mul]; omega, List.take_length_add_append]
    rw [flat_take h l i]; rfl

theorem flat_setAt (h : ∀ x, (enc x).length = sz) {l : List X} {i : Nat} (y : X) (hi : i < l.length) : splice ((l.map enc).flatten) (i * sz) (enc y) = ((l.set i y).map enc).flatten := by
  unfold splice
  rw [h, flat_take h, show i * sz + sz = (i + 1) * sz by rw [Nat.add_mul]; omega, flat_drop h, List.set_eq_take_append_cons_drop, if_pos hi]
  simp

theorem take_splice {cs xs : List PV} {q : Nat} (h : q ≤ cs.length) : (splice cs q xs).take q = cs.take q := by
  unfold splice
  rw [List.append_assoc, List.take_append_of_le_length (by rw [List.length_take]; omega), List.take_take, Nat.min_self]

variable {P : Program} {Γ : Nat → PV} {o : Oper} {A : List (Nat × PV)} {H : List Blk} {K : PV → List Blk → Prop}

theorem os_idxRow {t : TypeId} {x ix : Operand} {by' b q m i : Nat} {k : IntKind} {l : List X} (h : ∀ x, (enc x).length = sz) (ho : o.op = .indexAddr t x ix) (ht : elOf P t = some (sz, by')) (hx : ev Γ A x = .row b q m sz) (hi : ev Γ A ix = .int k (i : Int))
    (hb : H[b]? = some (.row sz ((l.map enc).flatten))) (hl : l.length * sz = q + m * sz) (hn : i < m) (hk : K (.eptr b (q + i * sz) (l.length * sz)) H) : OStep P Γ o A H K :=
  os_index_row ho ht hx hi hb (by rw [flat_len h]; exact hl) (by omega) (by omega) (by rw [flat_len h, Int.toNat_natCast]; exact hk)

theorem os_loadRow {t : TypeId} {x : Operand} {ti : TI} {b q i len : Nat} {l : List X} {y : X} {p : PV} (h : ∀ x, (enc x).length = sz) (ho : o.op = .load t x) (ht : tiOf P t = some ti) (hx : ev Γ A x = .eptr b q len) (hb : H[b]? = some (.row sz ((l.map enc).flatten)))
    (hq : q = i * sz) (hlen : len = l.length * sz) (hy : l[i]? = some y) (hsz : ti.size = sz) (hp : if ti.agg = true then p = .agg (enc y) else (enc y)[0]? = some p) (hk : K p H) : OStep P Γ o A H K := by
  have hd : ((l.map enc).flatten).drop q = enc y ++ ((l.drop (i + 1)).map enc).flatten := by
    rw [hq, flat_drop h]
    have hi := (List.getElem?_eq_some_iff.1 hy)
    obtain ⟨hi, rfl⟩ := hi
    rw [List.drop_eq_getElem_cons hi, List.map_cons, List.flatten_cons]
  refine os_load (cs := ((l.map enc).flatten).drop q) ho ht (by unfold rd; rw [hx]; simp only [hb]; rw [if_pos (by rw [flat_len h]; exact hlen.symm)]) ?_ hk
  rw [hd]
  by_cases ha : ti.agg = true
  · rw [if_pos ha] at hp ⊢
    refine ⟨by rw [List.length_append, h]; omega, ?_⟩
    rw [hp, hsz, ← h y, List.take_left]
  · rw [if_neg ha] at hp ⊢
    rw [List.getElem?_append_left (List.getElem?_eq_some_iff.1 hp).1]; exact hp

theorem os_putRow {t : TypeId} {x y : Operand} {ti : TI} {b q i len : Nat} {l : List X} {e : X} (h : ∀ x, (enc x).length = sz) (ho : o.op = .store t x y) (ht : tiOf P t = some ti) (hx : ev Γ A x = .eptr b q len) (hb : H[b]? = some (.row sz ((l.map enc).flatten)))
    (hq : q = i * sz) (hlen : len = l.length * sz) (hi : i < l.length) (hy : (ev Γ A y).shaped = true) (hc : (ev Γ A y).cells = enc e) (hsz : ti.size = sz) (h0 : 0 < sz) (hk : K .any (H.set b (.row sz (((l.set i e).map enc).flatten)))) : OStep P Γ o A H K := by
  have hm : (i + 1) * sz ≤ l.length * sz := Nat.mul_le_mul_right _ hi
  rw [Nat.add_mul] at hm
  refine os_storeE ho ht hx hb (by rw [flat_len h]; exact hlen.symm) hy (by rw [hc, h, hsz]) (by rw [flat_len h, hsz, hq]; omega) (by omega) ?_
  rw [hc, hq, flat_setAt h e hi]
  exact hk

variable {ops : Array Oper} {cls : List Nat} {n0 : View} {KD : List (Nat × PV) → List Blk → Prop} {j : Nat} {rest : List (Nat × Oper)}

theorem dops_idxRow {t : TypeId} {x ix : Operand} {by' b q m i : Nat} {k : IntKind} {l : List X} (h : ∀ x, (enc x).length = sz) (ho : o.op = .indexAddr t x ix) (hw : wantA ops A o = some true) (hc : cls.getD j 0 = 1) (ht : elOf P t = some (sz, by')) (hx : ev Γ A x = .row b q m sz) (hi : ev Γ A ix = .int k (i : Int))
    (hb : H[b]? = some (.row sz ((l.map enc).flatten))) (hl : l.length * sz = q + m * sz) (hn : i < m) (hk : DOps P Γ ops cls n0 KD rest (aput A o.dst (.eptr b (q + i * sz) (l.length * sz))) H) : DOps P Γ ops cls n0 KD ((j, o) :: rest) A H :=
  dops_reads _ hw hc (fun A' hev => os_idxRow h ho ht ((hev x (by simp [ho, Op.operands])).trans hx) ((hev ix (by simp [ho, Op.operands])).trans hi) hb hl hn ⟨rfl, rfl⟩) hk

theorem dops_loadRow {t : TypeId} {x : Operand} {ti : TI} {b q i len : Nat} {l : List X} {y : X} (p : PV) (h : ∀ x, (enc x).length = sz) (ho : o.op = .load t x) (hw : wantA ops A o = some true) (hc : cls.getD j 0 = 1) (ht : tiOf P t = some ti) (hx : ev Γ A x = .eptr b q len) (hb : H[b]? = some (.row sz ((l.map enc).flatten)))
    (hq : q = i * sz) (hlen : len = l.length * sz) (hy : l[i]? = some y) (hsz : ti.size = sz) (hp : if ti.agg = true then p = .agg (enc y) else (enc y)[0]? = some p) (hk : DOps P Γ ops cls n0 KD rest (aput A o.dst p) H) : DOps P Γ ops cls n0 KD ((j, o) :: rest) A H :=
  dops_reads p hw hc (fun A' hev => os_loadRow h ho ht ((hev x (by simp [ho, Op.operands])).trans hx) hb hq hlen hy hsz hp ⟨rfl, rfl⟩) hk
end


/-- A list stands in one's own row, among blocks that come behind H0. -/
def RowIn (H0 : List Blk) (sz k : Nat) (cs : List PV) (p : PV) (H' : List Blk) : Prop := ∃ b L, p = .row b 0 k sz ∧ H' = H0 ++ L ∧ H0.length ≤ b ∧ H'[b]? = some (.row sz cs)

end Go.Proofs.YtpkpbfemglmejaaDoor.Fw

/- The library's contracts of sorting and comparing, at this program's numbers (printed by a tool of mine; each line is compared by the kernel). -/
namespace Go.Proofs.YtpkpbfemglmejaaDoor
set_option linter.unusedVariables false
set_option linter.unusedSimpArgs false
set_option maxRecDepth 100000
open Go.RowKit Go.Shelf
def sort55_ren : Go.Shelf.Ren := { f := fun x => match x with | 5 => 67 | 8 => 61 | 7 => 83 | 19 => 78 | 20 => 79 | 10 => 90 | 11 => 91 | 12 => 92 | 13 => 93 | 14 => 94 | 15 => 95 | 16 => 96 | 17 => 97 | 18 => 98 | 30 => 100 | 31 => 85 | 32 => 86 | 33 => 101 | 34 => 102 | 35 => 103 | 40 => 104 | n => n, t := fun x => match x with | 23 => 79 | 25 => 3 | 3 => 3 | 32 => 90 | 22 => 79 | 0 => 0 | 44 => 113 | 46 => 53 | 4 => 4 | 36 => 106 | 35 => 105 | 41 => 82 | 5 => 5 | 9 => 9 | 53 => 116 | 57 => 119 | 63 => 128 | 64 => 129 | n => n, g := fun x => have n := x; n }
theorem sort55 : Go.Proofs.SlLaysM.n5 Tryd.prog sort55_ren where
  mixed := by kernel_rfl
  f5 := ⟨"slices.Sort[[]int,int]", of_decide_eq_true (by kernel_rfl), Tryd.func67.trans (congrArg some (by kernel_rfl))⟩
  f7 := ⟨"slices.pdqsortOrdered[int]", of_decide_eq_true (by kernel_rfl), Tryd.func83.trans (congrArg some (by kernel_rfl))⟩
  f8 := Tryd.func61.trans (congrArg some (by kernel_rfl))
  f10 := ⟨"slices.insertionSortOrdered[int]", of_decide_eq_true (by kernel_rfl), Tryd.func90.trans (congrArg some (by kernel_rfl))⟩
  f11 := ⟨"slices.heapSortOrdered[int]", of_decide_eq_true (by kernel_rfl), Tryd.func91.trans (congrArg some (by kernel_rfl))⟩
  f12 := ⟨"slices.breakPatternsOrdered[int]", of_decide_eq_true (by kernel_rfl), Tryd.func92.trans (congrArg some (by kernel_rfl))⟩
  f13 := ⟨"slices.choosePivotOrdered[int]", of_decide_eq_true (by kernel_rfl), Tryd.func93.trans (congrArg some (by kernel_rfl))⟩
  f14 := ⟨"slices.reverseRangeOrdered[int]", of_decide_eq_true (by kernel_rfl), Tryd.func94.trans (congrArg some (by kernel_rfl))⟩
  f15 := ⟨"slices.partialInsertionSortOrdered[int]", of_decide_eq_true (by kernel_rfl), Tryd.func95.trans (congrArg some (by kernel_rfl))⟩
  f16 := ⟨"cmp.Less[int]", of_decide_eq_true (by kernel_rfl), Tryd.func96.trans (congrArg some (by kernel_rfl))⟩
  f17 := ⟨"slices.partitionEqualOrdered[int]", of_decide_eq_true (by kernel_rfl), Tryd.func97.trans (congrArg some (by kernel_rfl))⟩
  f18 := ⟨"slices.partitionOrdered[int]", of_decide_eq_true (by kernel_rfl), Tryd.func98.trans (congrArg some (by kernel_rfl))⟩
  f19 := Tryd.func78.trans (congrArg some (by kernel_rfl))
  f20 := Tryd.func79.trans (congrArg some (by kernel_rfl))
  f30 := ⟨"slices.siftDownOrdered[int]", of_decide_eq_true (by kernel_rfl), Tryd.func100.trans (congrArg some (by kernel_rfl))⟩
  f31 := Tryd.func85.trans (congrArg some (by kernel_rfl))
  f32 := Tryd.func86.trans (congrArg some (by kernel_rfl))
  f33 := ⟨"slices.medianAdjacentOrdered[int]", of_decide_eq_true (by kernel_rfl), Tryd.func101.trans (congrArg some (by kernel_rfl))⟩
  f34 := ⟨"slices.medianOrdered[int]", of_decide_eq_true (by kernel_rfl), Tryd.func102.trans (congrArg some (by kernel_rfl))⟩
  f35 := ⟨"cmp.isNaN[int]", of_decide_eq_true (by kernel_rfl), Tryd.func103.trans (congrArg some (by kernel_rfl))⟩
  f40 := ⟨"slices.order2Ordered[int]", of_decide_eq_true (by kernel_rfl), Tryd.func104.trans (congrArg some (by kernel_rfl))⟩
  t0 := Tryd.underlying0
  a0 := Tryd.isAgg0
  z0 := Tryd.sizeOf0
  v0 := Tryd.zeroValue0
  t3 := Tryd.underlying3
  a3 := Tryd.isAgg3
  z3 := Tryd.sizeOf3
  v3 := Tryd.zeroValue3
  t4 := Tryd.underlying4
  a4 := Tryd.isAgg4
  z4 := Tryd.sizeOf4
  v4 := Tryd.zeroValue4
  t5 := Tryd.underlying5
  a5 := Tryd.isAgg5
  z5 := Tryd.sizeOf5
  v5 := Tryd.zeroValue5
  t9 := Tryd.underlying9
  a9 := Tryd.isAgg9
  z9 := Tryd.sizeOf9
  v9 := Tryd.zeroValue9
  t22 := Tryd.underlying79
  a22 := Tryd.isAgg79
  z22 := Tryd.sizeOf79
  v22 := Tryd.zeroValue79
  t23 := Tryd.underlying79
  a23 := Tryd.isAgg79
  z23 := Tryd.sizeOf79
  v23 := Tryd.zeroValue79
  t25 := Tryd.underlying3
  a25 := Tryd.isAgg3
  z25 := Tryd.sizeOf3
  v25 := Tryd.zeroValue3
  t32 := Tryd.underlying90
  a32 := Tryd.isAgg90
  z32 := Tryd.sizeOf90
  v32 := Tryd.zeroValue90
  t35 := Tryd.underlying105
  a35 := Tryd.isAgg105
  z35 := Tryd.sizeOf105
  v35 := Tryd.zeroValue105
  t36 := Tryd.underlying106
  a36 := Tryd.isAgg106
  z36 := Tryd.sizeOf106
  v36 := Tryd.zeroValue106
  t41 := Tryd.underlying82
  a41 := Tryd.isAgg82
  z41 := Tryd.sizeOf82
  v41 := Tryd.zeroValue82
  t44 := Tryd.underlying113
  a44 := Tryd.isAgg113
  z44 := Tryd.sizeOf113
  v44 := Tryd.zeroValue113
  t46 := Tryd.underlying53
  a46 := Tryd.isAgg53
  z46 := Tryd.sizeOf53
  v46 := Tryd.zeroValue53
  t53 := Tryd.underlying116
  a53 := Tryd.isAgg116
  z53 := Tryd.sizeOf116
  v53 := Tryd.zeroValue116
  t57 := Tryd.underlying119
  a57 := Tryd.isAgg119
  z57 := Tryd.sizeOf119
  v57 := Tryd.zeroValue119
  t63 := Tryd.underlying128
  a63 := Tryd.isAgg128
  z63 := Tryd.sizeOf128
  v63 := Tryd.zeroValue128
  t64 := Tryd.underlying129
  a64 := Tryd.isAgg129
  z64 := Tryd.sizeOf129
  v64 := Tryd.zeroValue129
def sort53_ren : Go.Shelf.Ren := { f := fun x => match x with | 5 => 49 | 8 => 61 | 7 => 60 | 19 => 78 | 20 => 79 | 10 => 69 | 11 => 70 | 12 => 71 | 13 => 72 | 14 => 73 | 15 => 74 | 16 => 75 | 17 => 76 | 18 => 77 | 30 => 84 | 31 => 85 | 32 => 86 | 33 => 87 | 34 => 88 | 35 => 89 | 40 => 99 | n => n, t := fun x => match x with | 23 => 47 | 25 => 35 | 3 => 3 | 32 => 90 | 22 => 47 | 0 => 0 | 44 => 113 | 46 => 53 | 4 => 4 | 36 => 106 | 35 => 105 | 41 => 82 | 5 => 5 | 9 => 9 | 53 => 116 | 57 => 119 | 63 => 128 | 64 => 129 | n => n, g := fun x => have n := x; n }
theorem sort53 : Go.Proofs.SlLaysM.n5 Tryd.prog sort53_ren where
  mixed := by kernel_rfl
  f5 := ⟨"slices.Sort[[]chancel/atom.Atom,chancel/atom.Atom]", of_decide_eq_true (by kernel_rfl), Tryd.func49.trans (congrArg some (by kernel_rfl))⟩
  f7 := ⟨"slices.pdqsortOrdered[chancel/atom.Atom]", of_decide_eq_true (by kernel_rfl), Tryd.func60.trans (congrArg some (by kernel_rfl))⟩
  f8 := Tryd.func61.trans (congrArg some (by kernel_rfl))
  f10 := ⟨"slices.insertionSortOrdered[chancel/atom.Atom]", of_decide_eq_true (by kernel_rfl), Tryd.func69.trans (congrArg some (by kernel_rfl))⟩
  f11 := ⟨"slices.heapSortOrdered[chancel/atom.Atom]", of_decide_eq_true (by kernel_rfl), Tryd.func70.trans (congrArg some (by kernel_rfl))⟩
  f12 := ⟨"slices.breakPatternsOrdered[chancel/atom.Atom]", of_decide_eq_true (by kernel_rfl), Tryd.func71.trans (congrArg some (by kernel_rfl))⟩
  f13 := ⟨"slices.choosePivotOrdered[chancel/atom.Atom]", of_decide_eq_true (by kernel_rfl), Tryd.func72.trans (congrArg some (by kernel_rfl))⟩
  f14 := ⟨"slices.reverseRangeOrdered[chancel/atom.Atom]", of_decide_eq_true (by kernel_rfl), Tryd.func73.trans (congrArg some (by kernel_rfl))⟩
  f15 := ⟨"slices.partialInsertionSortOrdered[chancel/atom.Atom]", of_decide_eq_true (by kernel_rfl), Tryd.func74.trans (congrArg some (by kernel_rfl))⟩
  f16 := ⟨"cmp.Less[chancel/atom.Atom]", of_decide_eq_true (by kernel_rfl), Tryd.func75.trans (congrArg some (by kernel_rfl))⟩
  f17 := ⟨"slices.partitionEqualOrdered[chancel/atom.Atom]", of_decide_eq_true (by kernel_rfl), Tryd.func76.trans (congrArg some (by kernel_rfl))⟩
  f18 := ⟨"slices.partitionOrdered[chancel/atom.Atom]", of_decide_eq_true (by kernel_rfl), Tryd.func77.trans (congrArg some (by kernel_rfl))⟩
  f19 := Tryd.func78.trans (congrArg some (by kernel_rfl))
  f20 := Tryd.func79.trans (congrArg some (by kernel_rfl))
  f30 := ⟨"slices.siftDownOrdered[chancel/atom.Atom]", of_decide_eq_true (by kernel_rfl), Tryd.func84.trans (congrArg some (by kernel_rfl))⟩
  f31 := Tryd.func85.trans (congrArg some (by kernel_rfl))
  f32 := Tryd.func86.trans (congrArg some (by kernel_rfl))
  f33 := ⟨"slices.medianAdjacentOrdered[chancel/atom.Atom]", of_decide_eq_true (by kernel_rfl), Tryd.func87.trans (congrArg some (by kernel_rfl))⟩
  f34 := ⟨"slices.medianOrdered[chancel/atom.Atom]", of_decide_eq_true (by kernel_rfl), Tryd.func88.trans (congrArg some (by kernel_rfl))⟩
  f35 := ⟨"cmp.isNaN[chancel/atom.Atom]", of_decide_eq_true (by kernel_rfl), Tryd.func89.trans (congrArg some (by kernel_rfl))⟩
  f40 := ⟨"slices.order2Ordered[chancel/atom.Atom]", of_decide_eq_true (by kernel_rfl), Tryd.func99.trans (congrArg some (by kernel_rfl))⟩
  t0 := Tryd.underlying0
  a0 := Tryd.isAgg0
  z0 := Tryd.sizeOf0
  v0 := Tryd.zeroValue0
  t3 := Tryd.underlying3
  a3 := Tryd.isAgg3
  z3 := Tryd.sizeOf3
  v3 := Tryd.zeroValue3
  t4 := Tryd.underlying4
  a4 := Tryd.isAgg4
  z4 := Tryd.sizeOf4
  v4 := Tryd.zeroValue4
  t5 := Tryd.underlying5
  a5 := Tryd.isAgg5
  z5 := Tryd.sizeOf5
  v5 := Tryd.zeroValue5
  t9 := Tryd.underlying9
  a9 := Tryd.isAgg9
  z9 := Tryd.sizeOf9
  v9 := Tryd.zeroValue9
  t22 := Tryd.underlying47
  a22 := Tryd.isAgg47
  z22 := Tryd.sizeOf47
  v22 := Tryd.zeroValue47
  t23 := Tryd.underlying47
  a23 := Tryd.isAgg47
  z23 := Tryd.sizeOf47
  v23 := Tryd.zeroValue47
  t25 := Tryd.underlying35
  a25 := Tryd.isAgg35
  z25 := Tryd.sizeOf35
  v25 := Tryd.zeroValue35
  t32 := Tryd.underlying90
  a32 := Tryd.isAgg90
  z32 := Tryd.sizeOf90
  v32 := Tryd.zeroValue90
  t35 := Tryd.underlying105
  a35 := Tryd.isAgg105
  z35 := Tryd.sizeOf105
  v35 := Tryd.zeroValue105
  t36 := Tryd.underlying106
  a36 := Tryd.isAgg106
  z36 := Tryd.sizeOf106
  v36 := Tryd.zeroValue106
  t41 := Tryd.underlying82
  a41 := Tryd.isAgg82
  z41 := Tryd.sizeOf82
  v41 := Tryd.zeroValue82
  t44 := Tryd.underlying113
  a44 := Tryd.isAgg113
  z44 := Tryd.sizeOf113
  v44 := Tryd.zeroValue113
  t46 := Tryd.underlying53
  a46 := Tryd.isAgg53
  z46 := Tryd.sizeOf53
  v46 := Tryd.zeroValue53
  t53 := Tryd.underlying116
  a53 := Tryd.isAgg116
  z53 := Tryd.sizeOf116
  v53 := Tryd.zeroValue116
  t57 := Tryd.underlying119
  a57 := Tryd.isAgg119
  z57 := Tryd.sizeOf119
  v57 := Tryd.zeroValue119
  t63 := Tryd.underlying128
  a63 := Tryd.isAgg128
  z63 := Tryd.sizeOf128
  v63 := Tryd.zeroValue128
  t64 := Tryd.underlying129
  a64 := Tryd.isAgg129
  z64 := Tryd.sizeOf129
  v64 := Tryd.zeroValue129
end Go.Proofs.YtpkpbfemglmejaaDoor

/- Sorting, by the library's contracts: numbers. -/
namespace Go.Proofs.YtpkpbfemglmejaaDoor
set_option linter.unusedVariables false
set_option linter.unusedSimpArgs false
set_option maxRecDepth 100000
open Go.RowKit Go.Shelf Fw

def leI (x y : Int) : Bool := decide (x ≤ y)

theorem flatI (zs : List Int) : (zs.map I1).flatten = zs.map (PV.int .i64) := by
  induction zs with
  | nil => rfl
  | cons z zs ih => rw [List.map_cons, List.flatten_cons, ih]; rfl

theorem sortInts {ρ : Ren} (L : SlLaysM.n5 Tryd.prog ρ) (Γ : Nat → PV) (H : List Blk) (b : Nat) (zs : List Int) (hb : H[b]? = some (.row 1 ((zs.map I1).flatten))) (hlen : zs.length ≤ 1000000000000) :
    ACalls Tryd.prog Γ (ρ.f 5) [.row b 0 zs.length 1] H (fun p H' => p = .tup [] ∧ H' = H.set b (.row 1 (((zs.mergeSort leI).map I1).flatten))) := by
  intro w0 G w us hs hr
  obtain ⟨l⟩ := us
  obtain ⟨v, vs, rfl, r1, r2⟩ := hr.cons_inv
  have : vs = [] := by have := r2.1; simpa using this.symm
  subst this
  rw [flatI] at hb
  rw [flatI]
  have hms : (fun x y : Int => decide (x ≤ y)) = leI := rfl
  have hml : (zs.mergeSort leI).length = zs.length := List.length_mergeSort _
  obtain ⟨ad, cap, rfl, hcase⟩ := hs.rowCells hb (by simp) r1
  rcases hcase with h0 | ⟨rfl, hsub, hpos, hblk, hcells⟩
  · obtain rfl := List.eq_nil_of_length_eq_zero h0
    refine callsIn_wide.2 ((AnyM.slices_Sort_int_none L ad cap w).mono fun e w' hq => ?_)
    obtain ⟨rfl, rfl⟩ := hq
    refine ⟨_, _, H, G, rfl, hs, .tup _ _ _ rfl (fun i c v h => by simp at h), Evol.refl _ _, Nat.le_refl _, rfl, ?_⟩
    obtain ⟨g1, g2⟩ := List.getElem?_eq_some_iff.1 hb
    show H = H.set b _
    rw [List.mergeSort_nil, ← g2]
    exact (List.set_getElem_self _).symm
  · have hH : Sort.Holds (Value.int .i64) w (G.info b).blk 0 zs.toArray := fun j hj => by
      have hj' : j < zs.length := by simpa using hj
      obtain ⟨u, g1, g2, g3, _⟩ := hcells j (.int .i64 zs[j]) (by rw [List.getElem?_map, List.getElem?_eq_getElem hj']; rfl)
      rw [Nat.zero_add, g1, g2, g3.int_inv, getElem!_pos zs.toArray j hj]
      exact ⟨rfl, rfl⟩
    refine callsIn_wide.2 ((AnyM.slices_Sort_int L (G.info b).blk 0 cap zs w hH hblk (by omega)).mono fun e w' hq => ?_)
    obtain ⟨rfl, n, os, rfl⟩ := hq
    rw [hms, putRow_enc]
    have hr' : Reps G H.length ((zs.mergeSort leI).map (PV.int .i64)) ((zs.mergeSort leI).toArray.map (Value.int .i64)).toList := by
      refine ⟨by simp, fun i p v h1 h2 => ?_⟩
      simp only [Array.toList_map, List.getElem?_map] at h1 h2
      obtain ⟨x, hx, rfl⟩ := Option.map_eq_some_iff.1 h1
      rw [hx] at h2
      simp at h2
      subst h2
      exact .int _ _ _
    have hsim := ((hs.drawn n).putRow0 hb hsub hpos (ys := (zs.mergeSort leI).map (PV.int .i64)) (by simp [hml]) hr' (fun j u hu => by
      simp only [Array.getElem?_map] at hu
      obtain ⟨x, _, rfl⟩ := Option.map_eq_some_iff.1 hu
      rfl)).grow 0 os
    refine ⟨_, _, _, G, rfl, hsim, .tup _ _ _ rfl (fun i c v h => by simp at h), Evol.refl _ _, by simp, rfl, rfl⟩

end Go.Proofs.YtpkpbfemglmejaaDoor

/- The contracts of what Norm goes through: the test, the first place, the copy. -/
namespace Go.Proofs.YtpkpbfemglmejaaDoor
set_option linter.unusedVariables false
set_option linter.unusedSimpArgs false
set_option maxRecDepth 100000
open Go.RowKit Fw

/-- Two like atoms. -/
def like (p : Pr) : Bool := decide (p.a = p.b)

/-- Where the first one is that is so. -/
def Found (l : List Pr) (p : PV) : Prop := (p = .int .i64 (-1) ∧ ∀ x ∈ l, like x = false) ∨ ∃ i : Nat, i < l.length ∧ p = .int .i64 (i : Int) ∧ (∀ x, l[i]? = some x → like x = true) ∧ (∀ j x, j < i → l[j]? = some x → like x = false)

/- slices.Clone[[]chancel/atom.Pair,chancel/atom.Pair] -/
theorem c26 (Γ : Nat → PV) (H : List Blk) (l : List Pr) (f : Bool) (hl : l.length ≤ 1000000000000) :
    ACalls Tryd.prog Γ 26 [.vec (l.map Pr.enc) f] H (fun p H' => p = .row H.length 0 l.length 2 ∧ H' = H ++ [.row 2 ((l.map Pr.enc).flatten)]) := by
  refine acalls_of_awp Tryd.func26 rfl (by simp [Tryd.f26]) fun hbd => ?_
  refine awp_vlen 0 rfl fun hlen => ?_
  rw [List.length_map] at hlen
  refine awp_seq ?_
  refine awp_run rfl (by simp only [fwA, ↓reduceIte, Nat.reduceAdd, Nat.reduceMul, Nat.reduceEqDiff, Nat.reduceLT, Nat.reduceLeDiff, reduceCtorEq] <;> rfl) ?_
  refine awp_seq ?_
  refine awp_seq ?_
  refine awp_region rfl ?_
  refine aops_run 1 (by simp only [fwA, ↓reduceIte, Nat.reduceAdd, Nat.reduceMul, Nat.reduceEqDiff, Nat.reduceLT, Nat.reduceLeDiff, reduceCtorEq] <;> rfl) ?_
  refine aops_one rfl (os_nilSlice rfl un22 rfl (.inl rfl) fun b p hb hp => ?_)
  obtain rfl : p = .bool b := by cases b <;> simpa [eqv] using hp.symm
  refine aops_end ?_
  refine awp_cond (by simp only [fwA, ↓reduceIte, Nat.reduceAdd, Nat.reduceMul, Nat.reduceEqDiff, Nat.reduceLT, Nat.reduceLeDiff, reduceCtorEq] <;> rfl) ?_
  cases b with
  | true =>
    obtain rfl : l = [] := by
      by_cases hne : l = []
      · exact hne
      · exact absurd (hb (by simpa using hne)) (by decide)
    simp only [↓reduceIte]
    refine awp_seq ?_
    refine awp_run rfl (by simp only [fwA, ↓reduceIte, Nat.reduceAdd, Nat.reduceMul, Nat.reduceEqDiff, Nat.reduceLT, Nat.reduceLeDiff, reduceCtorEq] <;> rfl) ?_
    refine awp_told (told_adopt 2 2 (by decide) rfl) ?_
    refine awp_bd fun hbd' => ?_
    refine awp_ret ?_
    show RetQ Tryd.prog Γ Tryd.f26 H.length (fun p H' => p = .row H.length 0 0 2 ∧ H' = H ++ [.row 2 []]) .ret _ _ []
    exact calls_at (p := .row H.length 0 0 2) (.inl rfl) hbd' rfl (by simp [PV.bd]) (by simp) ⟨rfl, rfl⟩
  | false =>
    simp only [Bool.false_eq_true, ↓reduceIte]
    refine awp_skip ?_
    refine awp_seq ?_
    refine awp_region rfl ?_
    refine aops_run 2 (by simp only [fwA, ↓reduceIte, Nat.reduceAdd, Nat.reduceMul, Nat.reduceEqDiff, Nat.reduceLT, Nat.reduceLeDiff, reduceCtorEq, un22, ti43] <;> rfl) ?_
    refine aops_one rfl (os_appendNew rfl un22 ti43 un22 (.inl ⟨_, rfl⟩) (by decide) rfl (by simp only [fwA, ↓reduceIte, Nat.reduceAdd, Nat.reduceMul, Nat.reduceEqDiff, Nat.reduceLT, Nat.reduceLeDiff, reduceCtorEq] <;> rfl) (fun es f h e he => by
        simp only [fwA, ↓reduceIte, Nat.reduceAdd, Nat.reduceMul, Nat.reduceEqDiff, Nat.reduceLT, Nat.reduceLeDiff, reduceCtorEq, PV.vec.injEq] at h
        obtain ⟨rfl, rfl⟩ := h
        obtain ⟨x, _, rfl⟩ := List.mem_map.1 he
        rfl) (by simp only [fwA, ↓reduceIte, Nat.reduceAdd, Nat.reduceMul, Nat.reduceEqDiff, Nat.reduceLT, Nat.reduceLeDiff, reduceCtorEq] <;> rfl) (by rw [List.length_map]; show l.length * 16 ≤ _; omega) (by rw [List.length_map]; omega) ?_)
    refine aops_run 1 (by simp only [fwA, ↓reduceIte, Nat.reduceAdd, Nat.reduceMul, Nat.reduceEqDiff, Nat.reduceLT, Nat.reduceLeDiff, reduceCtorEq] <;> rfl) ?_
    refine awp_bd fun hbd' => ?_
    refine awp_ret ?_
    exact calls_at (p := .row H.length 0 l.length 2) (.inl rfl) hbd' (by simp [ares, aresL, ares1, alook, Tryd.f26]) (by simp [PV.bd]) (by simp) ⟨rfl, rfl⟩

end Go.Proofs.YtpkpbfemglmejaaDoor

/- The contracts of atoms: points, texts (turned by a tool of mine from chapter 13's texts). -/
namespace Go.Proofs.YtpkpbfemglmejaaDoor
set_option linter.unusedVariables false
set_option linter.unusedSimpArgs false
set_option maxRecDepth 100000
open Go.RowKit Fw

theorem cpl_eq {n : Int} (h : I64 n) : IntKind.i64.wrap ((BitVec.ofInt IntKind.i64.bits (if IntKind.i64.signed then -1 else IntKind.i64.max) ^^^ BitVec.ofInt IntKind.i64.bits n).toNat) = -1 - n := by
  obtain ⟨h1, h2⟩ := h
  have hb : IntKind.i64.bits = 64 := rfl
  have hsg : IntKind.i64.signed = true := rfl
  rw [hsg, if_pos rfl, hb]
  have e1 : BitVec.ofInt 64 (-1) = BitVec.allOnes 64 := rfl
  rw [e1, BitVec.allOnes_xor, BitVec.toNat_not, BitVec.toNat_ofInt]
  unfold IntKind.wrap
  simp only [hb, hsg, Bool.true_and, decide_eq_true_eq]
  have hm : (n % ((2 ^ 64 : Nat) : Int)).toNat = (if 0 ≤ n then n.toNat else (n + 18446744073709551616).toNat) := by
    split <;> omega
  rw [hm]
  split <;> split <;> omega

def pointOf (a : Int) : Int := if 0 ≤ a then -1 else -1 - a

/-- atom.IsPoint -/
theorem c15 (Γ : Nat → PV) (a : Int) : Gives Tryd.prog Γ 15 [.int .i64 a] (.bool (decide (a < 0))) := by
  refine fn_of_awp Tryd.func15 rfl (by simp [Tryd.f15]) rfl fun H => ?_
  refine awp_seq ?_
  refine awp_run rfl (by simp only [fwA, ↓reduceIte, Nat.reduceAdd, Nat.reduceMul, Nat.reduceEqDiff, Nat.reduceLT, Nat.reduceLeDiff, reduceCtorEq] <;> rfl) ?_
  refine awp_seq ?_
  refine awp_run rfl (by simp only [fwA, ↓reduceIte, Nat.reduceAdd, Nat.reduceMul, Nat.reduceEqDiff, Nat.reduceLT, Nat.reduceLeDiff, reduceCtorEq] <;> rfl) (awp_ret ?_)
  exact gives_end0 (.inl rfl) rfl
/-- atom.PointOf -/
theorem c25 (Γ : Nat → PV) (a : Int) (ha : I64 a) : Gives Tryd.prog Γ 25 [.int .i64 a] (.int .i64 (pointOf a)) := by
  refine fn_of_awp Tryd.func25 rfl (by simp [Tryd.f25]) rfl fun H => ?_
  refine awp_seq ?_
  refine awp_run rfl (by simp only [fwA, ↓reduceIte, Nat.reduceAdd, Nat.reduceMul, Nat.reduceEqDiff, Nat.reduceLT, Nat.reduceLeDiff, reduceCtorEq] <;> rfl) ?_
  refine awp_seq ?_
  refine awp_region rfl ?_
  refine aops_run 1 (by simp only [fwA, ↓reduceIte, Nat.reduceAdd, Nat.reduceMul, Nat.reduceEqDiff, Nat.reduceLT, Nat.reduceLeDiff, reduceCtorEq] <;> rfl) ?_
  refine aops_one rfl (os_cpl rfl rfl ?_)
  rw [cpl_eq ha]
  refine aops_one rfl (os_max rfl rfl rfl ?_)
  refine aops_run 1 (by simp only [fwA, ↓reduceIte, Nat.reduceAdd, Nat.reduceMul, Nat.reduceEqDiff, Nat.reduceLT, Nat.reduceLeDiff, reduceCtorEq] <;> rfl) (awp_ret ?_)
  have e : (if -1 - a < -1 then -1 else -1 - a) = pointOf a := by unfold pointOf; split <;> split <;> omega
  exact gives_end0 (.inl rfl) (by rw [← e]; rfl)
/-- atom.Point -/
theorem c21 (Γ : Nat → PV) (a : Int) (ha : I64 a) : Gives Tryd.prog Γ 21 [.int .i64 a] (.int .i64 (if a < 0 then 0 else -1 - a)) := by
  refine fn_of_awp Tryd.func21 rfl (by simp [Tryd.f21]) rfl fun H => ?_
  refine awp_seq ?_
  refine awp_run rfl (by simp only [fwA, ↓reduceIte, Nat.reduceAdd, Nat.reduceMul, Nat.reduceEqDiff, Nat.reduceLT, Nat.reduceLeDiff, reduceCtorEq] <;> rfl) ?_
  refine awp_seq ?_
  refine awp_seq ?_
  refine awp_run rfl (by simp only [fwA, ↓reduceIte, Nat.reduceAdd, Nat.reduceMul, Nat.reduceEqDiff, Nat.reduceLT, Nat.reduceLeDiff, reduceCtorEq] <;> rfl) ?_
  refine awp_cond (by simp only [fwA, ↓reduceIte, Nat.reduceAdd, Nat.reduceMul, Nat.reduceEqDiff, Nat.reduceLT, Nat.reduceLeDiff, reduceCtorEq] <;> rfl) ?_
  by_cases h : a < 0
  · simp only [h, decide_true, ↓reduceIte]
    refine awp_seq (awp_run rfl (by simp only [fwA, ↓reduceIte, Nat.reduceAdd, Nat.reduceMul, Nat.reduceEqDiff, Nat.reduceLT, Nat.reduceLeDiff, reduceCtorEq] <;> rfl) (awp_ret ?_))
    exact gives_end0 (.inl rfl) rfl
  · simp only [h, decide_false, Bool.false_eq_true, ↓reduceIte]
    refine awp_skip ?_
    refine awp_seq ?_
    refine awp_region rfl ?_
    refine aops_run 1 (by simp only [fwA, ↓reduceIte, Nat.reduceAdd, Nat.reduceMul, Nat.reduceEqDiff, Nat.reduceLT, Nat.reduceLeDiff, reduceCtorEq] <;> rfl) ?_
    refine aops_one rfl (os_cpl rfl rfl ?_)
    rw [cpl_eq ha]
    refine aops_run 1 (by simp only [fwA, ↓reduceIte, Nat.reduceAdd, Nat.reduceMul, Nat.reduceEqDiff, Nat.reduceLT, Nat.reduceLeDiff, reduceCtorEq] <;> rfl) (awp_ret ?_)
    exact gives_end0 (.inl rfl) rfl

theorem wrapN (n : Nat) (h : n < 9223372036854775808) : IntKind.i64.wrap (n : Int) = n := wrapId ⟨by omega, by omega⟩
theorem ints1 {G : Ghost} {n : Nat} {k : IntKind} {x : Int} {us : Array Value} (h : Reps G n [.int k x] us.toList) : us = #[.int k x] := by
  obtain ⟨l⟩ := us
  obtain ⟨v, vs, rfl, h1, h2⟩ := h.cons_inv
  have : vs = [] := by have := h2.1; simpa using this.symm
  subst this
  rw [h1.int_inv]
theorem wrapU (n : Nat) (h : n < 18446744073709551616) : IntKind.u64.wrap (n : Int) = n := by
  unfold IntKind.wrap
  have hb : IntKind.u64.bits = 64 := rfl
  have hsg : IntKind.u64.signed = false := rfl
  simp only [hb, hsg, Bool.false_and, Bool.false_eq_true, ↓reduceIte]
  omega
theorem wrapB (n : Nat) (h : n < 256) : IntKind.u8.wrap (n : Int) = n := by
  unfold IntKind.wrap
  have hb : IntKind.u8.bits = 8 := rfl
  have hsg : IntKind.u8.signed = false := rfl
  simp only [hb, hsg, Bool.false_and, Bool.false_eq_true, ↓reduceIte]
  omega

theorem digit (n : Nat) (h : n < 10) : IntKind.u8.wrap (IntKind.u64.wrap (48 + (n : Int))) = ((UInt8.ofNat (48 + n)).toNat : Int) := by
  rw [show (48 + (n : Int)) = ((48 + n : Nat) : Int) by omega, wrapU _ (by omega), wrapB _ (by omega)]
  simp
  omega

end Go.Proofs.YtpkpbfemglmejaaDoor

/- The contract of slices.DeleteFunc, at pairs of two like atoms. -/
namespace Go.Proofs.YtpkpbfemglmejaaDoor
set_option linter.unusedVariables false
set_option linter.unusedSimpArgs false
set_option maxRecDepth 100000
open Go.RowKit Fw

def unl (p : Pr) : Bool := !like p

/-- A list in one's own row, behind the first n0 blocks, that stay. -/
def RowAt (H : List Blk) (n0 sz k : Nat) (cs : List PV) (p : PV) (H' : List Blk) : Prop := ∃ b, p = .row b 0 k sz ∧ H'[b]? = some (.row sz cs) ∧ n0 ≤ b ∧ H'.take n0 = H.take n0 ∧ H.length ≤ H'.length

theorem kept_step (l : List Pr) (i : Nat) (x : Pr) (h : l[i]? = some x) : (l.take (i + 1)).filter unl = (l.take i).filter unl ++ (if unl x then [x] else []) := by
  rw [List.take_add_one, h, List.filter_append]
  cases hu : unl x <;> simp [List.filter_cons, hu]

theorem kept_le (l : List Pr) (i : Nat) : ((l.take i).filter unl).length ≤ i := by
  have := List.length_filter_le unl (l.take i)
  rw [List.length_take] at this
  omega

end Go.Proofs.YtpkpbfemglmejaaDoor

/- The contract of slices.Compact, at pairs. -/
namespace Go.Proofs.YtpkpbfemglmejaaDoor
set_option linter.unusedVariables false
set_option linter.unusedSimpArgs false
set_option maxRecDepth 100000
open Go.RowKit Fw

/-- What is left of the first i elements, each that is like the one before it left out. -/
def cpt {X : Type} [DecidableEq X] (l : List X) : Nat → List X
  | 0 => []
  | i + 1 => cpt l i ++ (match l[i]? with | none => [] | some x => if 0 < i ∧ l[i - 1]? = some x then [] else [x])

section
variable {X : Type} [DecidableEq X]
theorem cpt_dup {l : List X} {i : Nat} {x : X} (h0 : 0 < i) (h : l[i]? = some x) (h1 : l[i - 1]? = some x) : cpt l (i + 1) = cpt l i := by
  simp only [cpt, h]; rw [if_pos ⟨h0, h1⟩, List.append_nil]
theorem cpt_new {l : List X} {i : Nat} {x : X} (h : l[i]? = some x) (h1 : 0 < i → l[i - 1]? ≠ some x) : cpt l (i + 1) = cpt l i ++ [x] := by
  simp only [cpt, h]; rw [if_neg fun e => h1 e.1 e.2]
theorem cpt_le (l : List X) : ∀ i, (cpt l i).length ≤ i
  | 0 => Nat.le_refl _
  | i + 1 => by
    have := cpt_le l i
    rw [cpt, List.length_append]
    split
    · simp; omega
    · split <;> simp <;> omega
theorem cpt_one {l : List X} (h : l.length < 2) : cpt l l.length = l := by
  match l, h with
  | [], _ => rfl
  | [x], _ => simp [cpt]
end

theorem prDec (x y : Pr) : (decide (x.a = y.a) && (decide (x.b = y.b) && true)) = decide (x = y) := by
  cases x; cases y
  simp only [Pr.mk.injEq, Bool.decide_and, Bool.and_true]

end Go.Proofs.YtpkpbfemglmejaaDoor

/- The contract of slices.Compact, at atoms and numbers. -/
namespace Go.Proofs.YtpkpbfemglmejaaDoor
set_option linter.unusedVariables false
set_option linter.unusedSimpArgs false
set_option maxRecDepth 100000
open Go.RowKit Fw

set_option maxHeartbeats 1000000 in
/- slices.Compact, atoms -/
theorem c50 (Γ : Nat → PV) (H : List Blk) (n0 b : Nat) (l : List Int) (hn0 : n0 ≤ b) (hb : H[b]? = some (.row 1 ((l.map I1).flatten))) (hbl : l.length ≤ 1000000000000) :
    ACalls Tryd.prog Γ 50 [.row b 0 l.length 1] H (RowAt H n0 1 (cpt l l.length).length (((cpt l l.length).map I1).flatten)) := by
  refine acalls_of_awp Tryd.func50 rfl (by simp [Tryd.f50]) fun hbd => ?_
  have hbH : b < H.length := (List.getElem?_eq_some_iff.1 hb).1
  refine awp_seq ?_
  refine awp_run rfl (by simp only [fwA, ↓reduceIte, Nat.reduceAdd, Nat.reduceMul, Nat.reduceEqDiff, Nat.reduceLT, Nat.reduceLeDiff, reduceCtorEq] <;> rfl) ?_
  refine awp_seq ?_
  refine awp_seq ?_
  refine awp_run rfl (by simp only [fwA, ↓reduceIte, Nat.reduceAdd, Nat.reduceMul, Nat.reduceEqDiff, Nat.reduceLT, Nat.reduceLeDiff, reduceCtorEq, un47] <;> rfl) ?_
  refine awp_cond (by simp only [fwA, ↓reduceIte, Nat.reduceAdd, Nat.reduceMul, Nat.reduceEqDiff, Nat.reduceLT, Nat.reduceLeDiff, reduceCtorEq] <;> rfl) ?_
  by_cases h2 : (l.length : Int) < 2
  · simp only [h2, decide_true, ↓reduceIte]
    refine awp_seq ?_
    refine awp_run rfl (by simp only [fwA, ↓reduceIte, Nat.reduceAdd, Nat.reduceMul, Nat.reduceEqDiff, Nat.reduceLT, Nat.reduceLeDiff, reduceCtorEq] <;> rfl) ?_
    refine awp_ret ?_
    have hfl : cpt l l.length = l := cpt_one (by omega)
    exact calls_end0 (p := .row b 0 l.length 1) (.inl rfl) hbd rfl (by simp [PV.bd]; omega) ⟨b, by rw [hfl], by rw [hfl]; exact hb, hn0, rfl, Nat.le_refl _⟩
  simp only [h2, decide_false, Bool.false_eq_true, ↓reduceIte]
  refine awp_skip ?_
  refine awp_seq ?_
  refine awp_seq ?_
  refine awp_run rfl (by simp only [fwA, ↓reduceIte, Nat.reduceAdd, Nat.reduceMul, Nat.reduceEqDiff, Nat.reduceLT, Nat.reduceLeDiff, reduceCtorEq] <;> rfl) ?_
  refine awp_block ?_
  have h1 : cpt l 1 = l.take 1 := by
    obtain ⟨x, hx⟩ : ∃ x, l[0]? = some x := ⟨_, List.getElem?_eq_getElem (by omega)⟩
    rw [cpt_new hx (fun h => by omega), List.take_add_one, hx]; rfl
  refine awp_for [0, 3] (fun k : Nat => [.row b 0 l.length 1, .int .i64 (k : Int)]) (fun _ => H) (fun k => l.length - k) (fun k => 0 < k ∧ k ≤ l.length ∧ cpt l k = l.take k) 1 rfl rfl ⟨by omega, by omega, h1⟩ fun k hk => ?_
  obtain ⟨hk0, hkl, hkc⟩ := hk
  refine awp_seq ?_
  refine awp_seq ?_
  refine awp_run rfl (by simp only [fwA, ↓reduceIte, Nat.reduceAdd, Nat.reduceMul, Nat.reduceEqDiff, Nat.reduceLT, Nat.reduceLeDiff, reduceCtorEq, un47] <;> rfl) ?_
  refine awp_cond (by simp only [fwA, ↓reduceIte, Nat.reduceAdd, Nat.reduceMul, Nat.reduceEqDiff, Nat.reduceLT, Nat.reduceLeDiff, reduceCtorEq] <;> rfl) ?_
  by_cases hc : (k : Int) < l.length
  rotate_left
  · simp only [hc, decide_false, Bool.false_eq_true, ↓reduceIte]
    refine awp_exit ?_
    refine awp_seq ?_
    refine awp_run rfl (by simp only [fwA, ↓reduceIte, Nat.reduceAdd, Nat.reduceMul, Nat.reduceEqDiff, Nat.reduceLT, Nat.reduceLeDiff, reduceCtorEq] <;> rfl) ?_
    refine awp_ret ?_
    have e : k = l.length := by omega
    subst e
    rw [List.take_length] at hkc
    exact calls_end0 (fn := Tryd.f50) (R := RowAt H n0 1 (cpt l l.length).length (((cpt l l.length).map I1).flatten)) (p := .row b 0 l.length 1) (.inl rfl) hbd rfl (by simp [PV.bd]; omega) ⟨b, by rw [hkc], by rw [hkc]; exact hb, hn0, rfl, Nat.le_refl _⟩
  simp only [hc, decide_true, ↓reduceIte]
  have hil : k < l.length := by omega
  have hx : l[k]? = some l[k] := List.getElem?_eq_getElem hil
  have hx1 : l[k - 1]? = some l[k - 1] := List.getElem?_eq_getElem (by omega)
  have hsub : IntKind.i64.wrap ((k : Int) - 1) = ((k - 1 : Nat) : Int) := by rw [wrapId ⟨by omega, by omega⟩]; omega
  refine awp_skip ?_
  refine awp_seq ?_
  refine awp_block ?_
  refine awp_seq ?_
  refine awp_drawn [0, 0, 1, 1, 0, 0, 0, 1, 1, 0] [0, 0, 3, 7, 0, 0, 32, 112, 240, 511] mixed rfl (by kernel_rfl) ?_
  refine dops_run 2 (by simp only [fwA, ↓reduceIte, Nat.reduceAdd, Nat.reduceMul, Nat.reduceEqDiff, Nat.reduceLT, Nat.reduceLeDiff, reduceCtorEq] <;> rfl) ?_
  refine dops_idxRow I1_len rfl rfl rfl el47 rfl rfl hb (by omega) hil ?_
  refine dops_loadRow (.int .i64 l[k]) I1_len rfl rfl rfl ti35 rfl hb (by omega) rfl hx rfl (by rw [if_neg (by decide)]; rfl) ?_
  refine dops_run 3 (by simp only [fwA, ↓reduceIte, Nat.reduceAdd, Nat.reduceMul, Nat.reduceEqDiff, Nat.reduceLT, Nat.reduceLeDiff, reduceCtorEq, hsub] <;> rfl) ?_
  refine dops_idxRow (i := k - 1) I1_len rfl rfl rfl el47 rfl rfl hb (by omega) (by omega) ?_
  refine dops_loadRow (.int .i64 l[k - 1]) I1_len rfl rfl rfl ti35 rfl hb (by omega) rfl hx1 rfl (by rw [if_neg (by decide)]; rfl) ?_
  refine dops_run 1 (by simp only [fwA, ↓reduceIte, Nat.reduceAdd, Nat.reduceMul, Nat.reduceEqDiff, Nat.reduceLT, Nat.reduceLeDiff, reduceCtorEq, un47] <;> rfl) ?_
  refine dops_end ?_
  refine awp_cond (by simp only [fwA, ↓reduceIte, Nat.reduceAdd, Nat.reduceMul, Nat.reduceEqDiff, Nat.reduceLT, Nat.reduceLeDiff, reduceCtorEq] <;> rfl) ?_
  have hdec : decide (l[k] = l[k - 1]) = decide (l[k] = l[k - 1]) := rfl
  rw [hdec]
  by_cases he : l[k] = l[k - 1]
  rotate_left
  · simp only [he, decide_false, Bool.false_eq_true, ↓reduceIte]
    refine awp_skip ?_
    refine awp_run rfl (by simp only [fwA, ↓reduceIte, Nat.reduceAdd, Nat.reduceMul, Nat.reduceEqDiff, Nat.reduceLT, Nat.reduceLeDiff, reduceCtorEq] <;> rfl) ?_
    refine ⟨k + 1, by omega, ⟨by omega, hil, ?_⟩, ?_, rfl, rfl⟩
    · rw [cpt_new hx (fun _ e => he (by rw [hx1] at e; exact (Option.some.inj e).symm)), hkc, List.take_add_one, hx]; rfl
    · simp only [fwA, ↓reduceIte, Nat.reduceAdd, Nat.reduceMul, Nat.reduceEqDiff, Nat.reduceLT, Nat.reduceLeDiff, reduceCtorEq, List.map_cons, List.map_nil, wrapS k (by omega)]
  simp only [he, decide_true, ↓reduceIte]
  refine awp_seq ?_
  refine awp_region rfl ?_
  refine aops_run 2 (by simp only [fwA, ↓reduceIte, Nat.reduceAdd, Nat.reduceMul, Nat.reduceEqDiff, Nat.reduceLT, Nat.reduceLeDiff, reduceCtorEq] <;> rfl) ?_
  refine aops_one rfl (os_sliceSuf rfl el47 rfl rfl hkl hb (by rw [flat_len I1_len]; omega) ?_)
  refine aops_run 1 (by simp only [fwA, ↓reduceIte, Nat.reduceAdd, Nat.reduceMul, Nat.reduceEqDiff, Nat.reduceLT, Nat.reduceLeDiff, reduceCtorEq] <;> rfl) ?_
  refine awp_seq ?_
  refine awp_seq ?_
  refine awp_run rfl (by simp only [fwA, ↓reduceIte, Nat.reduceAdd, Nat.reduceMul, Nat.reduceEqDiff, Nat.reduceLT, Nat.reduceLeDiff, reduceCtorEq] <;> rfl) ?_
  refine awp_block ?_
  have hck : cpt l (k + 1) = cpt l k := cpt_dup hk0 hx (by rw [hx1, he])
  have hck2 : (cpt l (k + 1)).length = k := by rw [hck, hkc, List.length_take]; omega
  have hset : ∀ arr : List Int, (H.set b (.row 1 ((arr.map I1).flatten)))[b]? = some (.row 1 ((arr.map I1).flatten)) := fun arr => List.getElem?_set_self hbH
  refine awp_for [0, 3, 4, 5] (fun s : Nat × List Int => [.row b 0 l.length 1, .int .i64 ((cpt l (k + s.1)).length : Int), .row b (0 + k * 1) (l.length - k) 1, .int .i64 (s.1 : Int)])
    (fun s => H.set b (.row 1 ((s.2.map I1).flatten))) (fun s => l.length - (k + s.1))
    (fun s => 0 < s.1 ∧ k + s.1 ≤ l.length ∧ s.2.length = l.length ∧ (cpt l (k + s.1)).length ≤ k + s.1 - 1 ∧ s.2.drop (k + s.1 - 1) = l.drop (k + s.1 - 1) ∧ s.2.take (cpt l (k + s.1)).length = cpt l (k + s.1)) (1, l) ?_ ?_
    ⟨by omega, by omega, rfl, by show (cpt l (k + 1)).length ≤ _; rw [hck2]; omega, rfl, by show l.take (cpt l (k + 1)).length = cpt l (k + 1); rw [hck2, hck, hkc]⟩ fun s hs => ?_
  · simp only [fwA, ↓reduceIte, Nat.reduceAdd, Nat.reduceMul, Nat.reduceEqDiff, Nat.reduceLT, Nat.reduceLeDiff, reduceCtorEq, List.map_cons, List.map_nil, hck2]; rfl
  · obtain ⟨_, g2⟩ := List.getElem?_eq_some_iff.1 hb
    show H = H.set b _
    rw [← g2]; exact (List.set_getElem_self _).symm
  obtain ⟨j, arr⟩ := s
  obtain ⟨hj0, hjn, hal, hcl, hdr, htk⟩ := hs
  simp only at hj0 hjn hal hcl hdr htk ⊢
  have hH := hset arr
  refine awp_seq ?_
  refine awp_seq ?_
  refine awp_run rfl (by simp only [fwA, ↓reduceIte, Nat.reduceAdd, Nat.reduceMul, Nat.reduceEqDiff, Nat.reduceLT, Nat.reduceLeDiff, reduceCtorEq, un47] <;> rfl) ?_
  refine awp_cond (by simp only [fwA, ↓reduceIte, Nat.reduceAdd, Nat.reduceMul, Nat.reduceEqDiff, Nat.reduceLT, Nat.reduceLeDiff, reduceCtorEq] <;> rfl) ?_
  by_cases hc2 : (j : Int) < ((l.length - k : Nat) : Int)
  rotate_left
  · have e : k + j = l.length := by omega
    rw [e] at htk hcl
    have hjl : (cpt l l.length).length ≤ l.length := cpt_le _ _
    simp only [hc2, decide_false, Bool.false_eq_true, ↓reduceIte, e]
    refine awp_exit ?_
    refine awp_seq ?_
    refine awp_region rfl ?_
    refine aops_run 2 (by simp only [fwA, ↓reduceIte, Nat.reduceAdd, Nat.reduceMul, Nat.reduceEqDiff, Nat.reduceLT, Nat.reduceLeDiff, reduceCtorEq] <;> rfl) ?_
    refine aops_one rfl (os_sliceSuf rfl el47 rfl rfl hjl hH (by rw [flat_len I1_len]; omega) ?_)
    refine aops_one rfl (os_clearRow rfl un47 ti35 rfl hH (by rw [flat_len I1_len, hal]; show _ = 0 + _ * 1 + (l.length - _) * 1; omega) ?_)
    have hkey : ∃ cs2, splice ((arr.map I1).flatten) (0 + (cpt l l.length).length * 1) (List.replicate (l.length - (cpt l l.length).length) [PV.int .i64 0]).flatten = cs2 ∧ cs2.length = 0 + l.length * 1 ∧ cs2.take (0 + (cpt l l.length).length * 1) = ((cpt l l.length).map I1).flatten := by
      have hcl : ((arr.map I1).flatten).length = l.length * 1 := by rw [flat_len I1_len, hal]
      have hzl : ((List.replicate (l.length - (cpt l l.length).length) ([PV.int .i64 0] : List PV)).flatten).length = (l.length - (cpt l l.length).length) * 1 := by rw [rep_len]; rfl
      refine ⟨_, rfl, (splice_length (by rw [hcl, hzl]; omega)).trans (by omega), ?_⟩
      rw [Nat.zero_add, take_splice (by rw [hcl]; omega), flat_take I1_len, htk]
    obtain ⟨cs2, hk1, hk2, hk3⟩ := hkey
    refine aops_end ?_
    refine awp_heap (H' := H.set b (.row 1 cs2)) (by rw [List.set_set, ← hk1]) ?_
    refine awp_seq ?_
    refine awp_region rfl ?_
    refine aops_run 2 (by simp only [fwA, ↓reduceIte, Nat.reduceAdd, Nat.reduceMul, Nat.reduceEqDiff, Nat.reduceLT, Nat.reduceLeDiff, reduceCtorEq] <;> rfl) ?_
    refine aops_one rfl (os_slicePre rfl el47 rfl rfl hjl (List.getElem?_set_self hbH) hk2 ?_)
    rw [hk3]
    refine aops_run 1 (by simp only [fwA, ↓reduceIte, Nat.reduceAdd, Nat.reduceMul, Nat.reduceEqDiff, Nat.reduceLT, Nat.reduceLeDiff, reduceCtorEq] <;> rfl) ?_
    refine awp_bd fun hbd' => ?_
    refine awp_ret ?_
    refine calls_at (fn := Tryd.f50) (R := RowAt H n0 1 (cpt l l.length).length (((cpt l l.length).map I1).flatten)) (p := .row H.length 0 (cpt l l.length).length 1) (.inl rfl) hbd' (by simp [ares, aresL, ares1, alook, Tryd.f50]) (by simp [PV.bd]) (by simp) ⟨H.length, rfl, ?_, by omega, ?_, by simp⟩
    · rw [List.getElem?_append_right (by simp)]; simp
    · rw [List.take_append_of_le_length (by simp; omega), List.take_set_of_le hn0, List.take_set_of_le hn0]
  have hjl : k + j < l.length := by omega
  have hy : l[k + j]? = some l[k + j] := List.getElem?_eq_getElem hjl
  have hy1 : l[k + j - 1]? = some l[k + j - 1] := List.getElem?_eq_getElem (by omega)
  have hdr1 : arr.drop (k + j) = l.drop (k + j) := by
    have := congrArg (List.drop 1) hdr
    rw [List.drop_drop, List.drop_drop] at this
    rwa [show k + j - 1 + 1 = k + j by omega] at this
  have hay : arr[k + j]? = some l[k + j] := by
    have := congrArg (·[0]?) hdr1
    simp only [List.getElem?_drop, Nat.add_zero] at this
    rw [this, hy]
  have hay1 : arr[k + j - 1]? = some l[k + j - 1] := by
    have := congrArg (·[0]?) hdr
    simp only [List.getElem?_drop, Nat.add_zero] at this
    rw [this, hy1]
  have hHl : b < (H.set b (.row 1 ((arr.map I1).flatten))).length := by rw [List.length_set]; exact hbH
  have hHs : ∀ B, (H.set b (.row 1 ((arr.map I1).flatten))).set b B = H.set b B := fun B => List.set_set ..
  have hsub2 : IntKind.i64.wrap ((j : Int) - 1) = ((j - 1 : Nat) : Int) := by rw [wrapId ⟨by omega, by omega⟩]; omega
  simp only [hc2, decide_true, ↓reduceIte]
  refine awp_skip ?_
  refine awp_seq ?_
  refine awp_block ?_
  refine awp_seq ?_
  refine awp_drawn [0, 0, 1, 1, 0, 0, 0, 1, 1, 0] [0, 0, 3, 7, 0, 0, 32, 112, 240, 511] mixed rfl (by kernel_rfl) ?_
  refine dops_run 2 (by simp only [fwA, ↓reduceIte, Nat.reduceAdd, Nat.reduceMul, Nat.reduceEqDiff, Nat.reduceLT, Nat.reduceLeDiff, reduceCtorEq] <;> rfl) ?_
  refine dops_idxRow I1_len rfl rfl rfl el47 rfl rfl hH (by omega) (by omega) ?_
  refine dops_loadRow (i := k + j) (.int .i64 l[k + j]) I1_len rfl rfl rfl ti35 rfl hH (by omega) (by rw [hal]) hay rfl (by rw [if_neg (by decide)]; rfl) ?_
  refine dops_run 3 (by simp only [fwA, ↓reduceIte, Nat.reduceAdd, Nat.reduceMul, Nat.reduceEqDiff, Nat.reduceLT, Nat.reduceLeDiff, reduceCtorEq, hsub2] <;> rfl) ?_
  refine dops_idxRow (i := j - 1) I1_len rfl rfl rfl el47 rfl rfl hH (by omega) (by omega) ?_
  refine dops_loadRow (i := k + j - 1) (.int .i64 l[k + j - 1]) I1_len rfl rfl rfl ti35 rfl hH (by omega) (by rw [hal]) hay1 rfl (by rw [if_neg (by decide)]; rfl) ?_
  refine dops_run 1 (by simp only [fwA, ↓reduceIte, Nat.reduceAdd, Nat.reduceMul, Nat.reduceEqDiff, Nat.reduceLT, Nat.reduceLeDiff, reduceCtorEq, un47] <;> rfl) ?_
  refine dops_end ?_
  refine awp_cond (by simp only [fwA, ↓reduceIte, Nat.reduceAdd, Nat.reduceMul, Nat.reduceEqDiff, Nat.reduceLT, Nat.reduceLeDiff, reduceCtorEq] <;> rfl) ?_
  have hdec2 : decide (l[k + j] = l[k + j - 1]) = decide (l[k + j] = l[k + j - 1]) := rfl
  rw [hdec2]
  by_cases he2 : l[k + j] = l[k + j - 1]
  · simp only [he2, decide_true, Bool.not_true, Bool.false_eq_true, ↓reduceIte]
    refine awp_skip ?_
    refine awp_run rfl (by simp only [fwA, ↓reduceIte, Nat.reduceAdd, Nat.reduceMul, Nat.reduceEqDiff, Nat.reduceLT, Nat.reduceLeDiff, reduceCtorEq] <;> rfl) ?_
    have hcd : cpt l (k + (j + 1)) = cpt l (k + j) := cpt_dup (i := k + j) (by omega) hy (by rw [hy1, he2])
    refine ⟨(j + 1, arr), by show l.length - (k + (j + 1)) < l.length - (k + j); omega, ⟨by omega, by omega, hal, by show (cpt l (k + (j + 1))).length ≤ _; rw [hcd]; omega, hdr1, by show arr.take (cpt l (k + (j + 1))).length = _; rw [hcd]; exact htk⟩, ?_, rfl, rfl⟩
    simp only [fwA, ↓reduceIte, Nat.reduceAdd, Nat.reduceMul, Nat.reduceEqDiff, Nat.reduceLT, Nat.reduceLeDiff, reduceCtorEq, List.map_cons, List.map_nil, wrapS j (by omega), hcd]
  simp only [he2, decide_false, Bool.not_false, ↓reduceIte]
  refine awp_seq ?_
  refine awp_region rfl ?_
  refine aops_run 4 (by simp only [fwA, ↓reduceIte, Nat.reduceAdd, Nat.reduceMul, Nat.reduceEqDiff, Nat.reduceLT, Nat.reduceLeDiff, reduceCtorEq] <;> rfl) ?_
  refine aops_one rfl (os_idxRow I1_len rfl el47 rfl rfl hH (by omega) (by omega) ?_)
  refine aops_one rfl (os_loadRow (i := k + j) I1_len rfl ti35 rfl hH (by omega) (by rw [hal]) hay rfl (by rw [if_neg (by decide)]; rfl) ?_)
  refine aops_one rfl (os_idxRow I1_len rfl el47 rfl rfl hH (by omega) (by omega) ?_)
  refine aops_one rfl (os_putRow I1_len rfl ti35 rfl hH (Nat.zero_add _) (by rw [hal]) (by omega) rfl rfl rfl (by omega) ?_)
  refine aops_end ?_
  refine awp_run rfl (by simp only [fwA, ↓reduceIte, Nat.reduceAdd, Nat.reduceMul, Nat.reduceEqDiff, Nat.reduceLT, Nat.reduceLeDiff, reduceCtorEq] <;> rfl) ?_
  refine awp_run rfl (by simp only [fwA, ↓reduceIte, Nat.reduceAdd, Nat.reduceMul, Nat.reduceEqDiff, Nat.reduceLT, Nat.reduceLeDiff, reduceCtorEq] <;> rfl) ?_
  have hcn : cpt l (k + (j + 1)) = cpt l (k + j) ++ [l[k + j]] := cpt_new (i := k + j) hy (fun _ e => he2 (by rw [hy1] at e; exact (Option.some.inj e).symm))
  refine ⟨(j + 1, arr.set (cpt l (k + j)).length l[k + j]), by show l.length - (k + (j + 1)) < l.length - (k + j); omega, ⟨by omega, by omega, by rw [List.length_set]; exact hal, ?_, ?_, ?_⟩, ?_, hHs _, rfl⟩
  · show (cpt l (k + (j + 1))).length ≤ _
    rw [hcn, List.length_append]; simp; omega
  · show (arr.set _ _).drop (k + (j + 1) - 1) = _
    rw [List.drop_set_of_lt (by omega)]; exact hdr1
  · show (arr.set _ _).take (cpt l (k + (j + 1))).length = cpt l (k + (j + 1))
    rw [hcn, List.length_append, show [l[k + j]].length = 1 from rfl, List.take_add_one, List.take_set_of_le (Nat.le_refl _), htk, List.getElem?_set_self (by omega)]
    rfl
  · simp only [fwA, ↓reduceIte, Nat.reduceAdd, Nat.reduceMul, Nat.reduceEqDiff, Nat.reduceLT, Nat.reduceLeDiff, reduceCtorEq, List.map_cons, List.map_nil, wrapS j (by omega), hcn, List.length_append, List.length_cons, List.length_nil, Nat.zero_add, wrapS _ (show (cpt l (k + j)).length + 1 < 9223372036854775808 by omega)]

set_option maxHeartbeats 1000000 in
/- slices.Compact, numbers -/
theorem c68 (Γ : Nat → PV) (H : List Blk) (n0 b : Nat) (l : List Int) (hn0 : n0 ≤ b) (hb : H[b]? = some (.row 1 ((l.map I1).flatten))) (hbl : l.length ≤ 1000000000000) :
    ACalls Tryd.prog Γ 68 [.row b 0 l.length 1] H (RowAt H n0 1 (cpt l l.length).length (((cpt l l.length).map I1).flatten)) := by
  refine acalls_of_awp Tryd.func68 rfl (by simp [Tryd.f68]) fun hbd => ?_
  have hbH : b < H.length := (List.getElem?_eq_some_iff.1 hb).1
  refine awp_seq ?_
  refine awp_run rfl (by simp only [fwA, ↓reduceIte, Nat.reduceAdd, Nat.reduceMul, Nat.reduceEqDiff, Nat.reduceLT, Nat.reduceLeDiff, reduceCtorEq] <;> rfl) ?_
  refine awp_seq ?_
  refine awp_seq ?_
  refine awp_run rfl (by simp only [fwA, ↓reduceIte, Nat.reduceAdd, Nat.reduceMul, Nat.reduceEqDiff, Nat.reduceLT, Nat.reduceLeDiff, reduceCtorEq, un79] <;> rfl) ?_
  refine awp_cond (by simp only [fwA, ↓reduceIte, Nat.reduceAdd, Nat.reduceMul, Nat.reduceEqDiff, Nat.reduceLT, Nat.reduceLeDiff, reduceCtorEq] <;> rfl) ?_
  by_cases h2 : (l.length : Int) < 2
  · simp only [h2, decide_true, ↓reduceIte]
    refine awp_seq ?_
    refine awp_run rfl (by simp only [fwA, ↓reduceIte, Nat.reduceAdd, Nat.reduceMul, Nat.reduceEqDiff, Nat.reduceLT, Nat.reduceLeDiff, reduceCtorEq] <;> rfl) ?_
    refine awp_ret ?_
    have hfl : cpt l l.length = l := cpt_one (by omega)
    exact calls_end0 (p := .row b 0 l.length 1) (.inl rfl) hbd rfl (by simp [PV.bd]; omega) ⟨b, by rw [hfl], by rw [hfl]; exact hb, hn0, rfl, Nat.le_refl _⟩
  simp only [h2, decide_false, Bool.false_eq_true, ↓reduceIte]
  refine awp_skip ?_
  refine awp_seq ?_
  refine awp_seq ?_
  refine awp_run rfl (by simp only [fwA, ↓reduceIte, Nat.reduceAdd, Nat.reduceMul, Nat.reduceEqDiff, Nat.reduceLT, Nat.reduceLeDiff, reduceCtorEq] <;> rfl) ?_
  refine awp_block ?_
  have h1 : cpt l 1 = l.take 1 := by
    obtain ⟨x, hx⟩ : ∃ x, l[0]? = some x := ⟨_, List.getElem?_eq_getElem (by omega)⟩
    rw [cpt_new hx (fun h => by omega), List.take_add_one, hx]; rfl
  refine awp_for [0, 3] (fun k : Nat => [.row b 0 l.length 1, .int .i64 (k : Int)]) (fun _ => H) (fun k => l.length - k) (fun k => 0 < k ∧ k ≤ l.length ∧ cpt l k = l.take k) 1 rfl rfl ⟨by omega, by omega, h1⟩ fun k hk => ?_
  obtain ⟨hk0, hkl, hkc⟩ := hk
  refine awp_seq ?_
  refine awp_seq ?_
  refine awp_run rfl (by simp only [fwA, ↓reduceIte, Nat.reduceAdd, Nat.reduceMul, Nat.reduceEqDiff, Nat.reduceLT, Nat.reduceLeDiff, reduceCtorEq, un79] <;> rfl) ?_
  refine awp_cond (by simp only [fwA, ↓reduceIte, Nat.reduceAdd, Nat.reduceMul, Nat.reduceEqDiff, Nat.reduceLT, Nat.reduceLeDiff, reduceCtorEq] <;> rfl) ?_
  by_cases hc : (k : Int) < l.length
  rotate_left
  · simp only [hc, decide_false, Bool.false_eq_true, ↓reduceIte]
    refine awp_exit ?_
    refine awp_seq ?_
    refine awp_run rfl (by simp only [fwA, ↓reduceIte, Nat.reduceAdd, Nat.reduceMul, Nat.reduceEqDiff, Nat.reduceLT, Nat.reduceLeDiff, reduceCtorEq] <;> rfl) ?_
    refine awp_ret ?_
    have e : k = l.length := by omega
    subst e
    rw [List.take_length] at hkc
    exact calls_end0 (fn := Tryd.f68) (R := RowAt H n0 1 (cpt l l.length).length (((cpt l l.length).map I1).flatten)) (p := .row b 0 l.length 1) (.inl rfl) hbd rfl (by simp [PV.bd]; omega) ⟨b, by rw [hkc], by rw [hkc]; exact hb, hn0, rfl, Nat.le_refl _⟩
  simp only [hc, decide_true, ↓reduceIte]
  have hil : k < l.length := by omega
  have hx : l[k]? = some l[k] := List.getElem?_eq_getElem hil
  have hx1 : l[k - 1]? = some l[k - 1] := List.getElem?_eq_getElem (by omega)
  have hsub : IntKind.i64.wrap ((k : Int) - 1) = ((k - 1 : Nat) : Int) := by rw [wrapId ⟨by omega, by omega⟩]; omega
  refine awp_skip ?_
  refine awp_seq ?_
  refine awp_block ?_
  refine awp_seq ?_
  refine awp_drawn [0, 0, 1, 1, 0, 0, 0, 1, 1, 0] [0, 0, 3, 7, 0, 0, 32, 112, 240, 511] mixed rfl (by kernel_rfl) ?_
  refine dops_run 2 (by simp only [fwA, ↓reduceIte, Nat.reduceAdd, Nat.reduceMul, Nat.reduceEqDiff, Nat.reduceLT, Nat.reduceLeDiff, reduceCtorEq] <;> rfl) ?_
  refine dops_idxRow I1_len rfl rfl rfl el79 rfl rfl hb (by omega) hil ?_
  refine dops_loadRow (.int .i64 l[k]) I1_len rfl rfl rfl ti3 rfl hb (by omega) rfl hx rfl (by rw [if_neg (by decide)]; rfl) ?_
  refine dops_run 3 (by simp only [fwA, ↓reduceIte, Nat.reduceAdd, Nat.reduceMul, Nat.reduceEqDiff, Nat.reduceLT, Nat.reduceLeDiff, reduceCtorEq, hsub] <;> rfl) ?_
  refine dops_idxRow (i := k - 1) I1_len rfl rfl rfl el79 rfl rfl hb (by omega) (by omega) ?_
  refine dops_loadRow (.int .i64 l[k - 1]) I1_len rfl rfl rfl ti3 rfl hb (by omega) rfl hx1 rfl (by rw [if_neg (by decide)]; rfl) ?_
  refine dops_run 1 (by simp only [fwA, ↓reduceIte, Nat.reduceAdd, Nat.reduceMul, Nat.reduceEqDiff, Nat.reduceLT, Nat.reduceLeDiff, reduceCtorEq, un79] <;> rfl) ?_
  refine dops_end ?_
  refine awp_cond (by simp only [fwA, ↓reduceIte, Nat.reduceAdd, Nat.reduceMul, Nat.reduceEqDiff, Nat.reduceLT, Nat.reduceLeDiff, reduceCtorEq] <;> rfl) ?_
  have hdec : decide (l[k] = l[k - 1]) = decide (l[k] = l[k - 1]) := rfl
  rw [hdec]
  by_cases he : l[k] = l[k - 1]
  rotate_left
  · simp only [he, decide_false, Bool.false_eq_true, ↓reduceIte]
    refine awp_skip ?_
    refine awp_run rfl (by simp only [fwA, ↓reduceIte, Nat.reduceAdd, Nat.reduceMul, Nat.reduceEqDiff, Nat.reduceLT, Nat.reduceLeDiff, reduceCtorEq] <;> rfl) ?_
    refine ⟨k + 1, by omega, ⟨by omega, hil, ?_⟩, ?_, rfl, rfl⟩
    · rw [cpt_new hx (fun _ e => he (by rw [hx1] at e; exact (Option.some.inj e).symm)), hkc, List.take_add_one, hx]; rfl
    · simp only [fwA, ↓reduceIte, Nat.reduceAdd, Nat.reduceMul, Nat.reduceEqDiff, Nat.reduceLT, Nat.reduceLeDiff, reduceCtorEq, List.map_cons, List.map_nil, wrapS k (by omega)]
  simp only [he, decide_true, ↓reduceIte]
  refine awp_seq ?_
  refine awp_region rfl ?_
  refine aops_run 2 (by simp only [fwA, ↓reduceIte, Nat.reduceAdd, Nat.reduceMul, Nat.reduceEqDiff, Nat.reduceLT, Nat.reduceLeDiff, reduceCtorEq] <;> rfl) ?_
  refine aops_one rfl (os_sliceSuf rfl el79 rfl rfl hkl hb (by rw [flat_len I1_len]; omega) ?_)
  refine aops_run 1 (by simp only [fwA, ↓reduceIte, Nat.reduceAdd, Nat.reduceMul, Nat.reduceEqDiff, Nat.reduceLT, Nat.reduceLeDiff, reduceCtorEq] <;> rfl) ?_
  refine awp_seq ?_
  refine awp_seq ?_
  refine awp_run rfl (by simp only [fwA, ↓reduceIte, Nat.reduceAdd, Nat.reduceMul, Nat.reduceEqDiff, Nat.reduceLT, Nat.reduceLeDiff, reduceCtorEq] <;> rfl) ?_
  refine awp_block ?_
  have hck : cpt l (k + 1) = cpt l k := cpt_dup hk0 hx (by rw [hx1, he])
  have hck2 : (cpt l (k + 1)).length = k := by rw [hck, hkc, List.length_take]; omega
  have hset : ∀ arr : List Int, (H.set b (.row 1 ((arr.map I1).flatten)))[b]? = some (.row 1 ((arr.map I1).flatten)) := fun arr => List.getElem?_set_self hbH
  refine awp_for [0, 3, 4, 5] (fun s : Nat × List Int => [.row b 0 l.length 1, .int .i64 ((cpt l (k + s.1)).length : Int), .row b (0 + k * 1) (l.length - k) 1, .int .i64 (s.1 : Int)])
    (fun s => H.set b (.row 1 ((s.2.map I1).flatten))) (fun s => l.length - (k + s.1))
    (fun s => 0 < s.1 ∧ k + s.1 ≤ l.length ∧ s.2.length = l.length ∧ (cpt l (k + s.1)).length ≤ k + s.1 - 1 ∧ s.2.drop (k + s.1 - 1) = l.drop (k + s.1 - 1) ∧ s.2.take (cpt l (k + s.1)).length = cpt l (k + s.1)) (1, l) ?_ ?_
    ⟨by omega, by omega, rfl, by show (cpt l (k + 1)).length ≤ _; rw [hck2]; omega, rfl, by show l.take (cpt l (k + 1)).length = cpt l (k + 1); rw [hck2, hck, hkc]⟩ fun s hs => ?_
  · simp only [fwA, ↓reduceIte, Nat.reduceAdd, Nat.reduceMul, Nat.reduceEqDiff, Nat.reduceLT, Nat.reduceLeDiff, reduceCtorEq, List.map_cons, List.map_nil, hck2]; rfl
  · obtain ⟨_, g2⟩ := List.getElem?_eq_some_iff.1 hb
    show H = H.set b _
    rw [← g2]; exact (List.set_getElem_self _).symm
  obtain ⟨j, arr⟩ := s
  obtain ⟨hj0, hjn, hal, hcl, hdr, htk⟩ := hs
  simp only at hj0 hjn hal hcl hdr htk ⊢
  have hH := hset arr
  refine awp_seq ?_
  refine awp_seq ?_
  refine awp_run rfl (by simp only [fwA, ↓reduceIte, Nat.reduceAdd, Nat.reduceMul, Nat.reduceEqDiff, Nat.reduceLT, Nat.reduceLeDiff, reduceCtorEq, un79] <;> rfl) ?_
  refine awp_cond (by simp only [fwA, ↓reduceIte, Nat.reduceAdd, Nat.reduceMul, Nat.reduceEqDiff, Nat.reduceLT, Nat.reduceLeDiff, reduceCtorEq] <;> rfl) ?_
  by_cases hc2 : (j : Int) < ((l.length - k : Nat) : Int)
  rotate_left
  · have e : k + j = l.length := by omega
    rw [e] at htk hcl
    have hjl : (cpt l l.length).length ≤ l.length := cpt_le _ _
    simp only [hc2, decide_false, Bool.false_eq_true, ↓reduceIte, e]
    refine awp_exit ?_
    refine awp_seq ?_
    refine awp_region rfl ?_
    refine aops_run 2 (by simp only [fwA, ↓reduceIte, Nat.reduceAdd, Nat.reduceMul, Nat.reduceEqDiff, Nat.reduceLT, Nat.reduceLeDiff, reduceCtorEq] <;> rfl) ?_
    refine aops_one rfl (os_sliceSuf rfl el79 rfl rfl hjl hH (by rw [flat_len I1_len]; omega) ?_)
    refine aops_one rfl (os_clearRow rfl un79 ti3 rfl hH (by rw [flat_len I1_len, hal]; show _ = 0 + _ * 1 + (l.length - _) * 1; omega) ?_)
    have hkey : ∃ cs2, splice ((arr.map I1).flatten) (0 + (cpt l l.length).length * 1) (List.replicate (l.length - (cpt l l.length).length) [PV.int .i64 0]).flatten = cs2 ∧ cs2.length = 0 + l.length * 1 ∧ cs2.take (0 + (cpt l l.length).length * 1) = ((cpt l l.length).map I1).flatten := by
      have hcl : ((arr.map I1).flatten).length = l.length * 1 := by rw [flat_len I1_len, hal]
      have hzl : ((List.replicate (l.length - (cpt l l.length).length) ([PV.int .i64 0] : List PV)).flatten).length = (l.length - (cpt l l.length).length) * 1 := by rw [rep_len]; rfl
      refine ⟨_, rfl, (splice_length (by rw [hcl, hzl]; omega)).trans (by omega), ?_⟩
      rw [Nat.zero_add, take_splice (by rw [hcl]; omega), flat_take I1_len, htk]
    obtain ⟨cs2, hk1, hk2, hk3⟩ := hkey
    refine aops_end ?_
    refine awp_heap (H' := H.set b (.row 1 cs2)) (by rw [List.set_set, ← hk1]) ?_
    refine awp_seq ?_
    refine awp_region rfl ?_
    refine aops_run 2 (by simp only [fwA, ↓reduceIte, Nat.reduceAdd, Nat.reduceMul, Nat.reduceEqDiff, Nat.reduceLT, Nat.reduceLeDiff, reduceCtorEq] <;> rfl) ?_
    refine aops_one rfl (os_slicePre rfl el79 rfl rfl hjl (List.getElem?_set_self hbH) hk2 ?_)
    rw [hk3]
    refine aops_run 1 (by simp only [fwA, ↓reduceIte, Nat.reduceAdd, Nat.reduceMul, Nat.reduceEqDiff, Nat.reduceLT, Nat.reduceLeDiff, reduceCtorEq] <;> rfl) ?_
    refine awp_bd fun hbd' => ?_
    refine awp_ret ?_
    refine calls_at (fn := Tryd.f68) (R := RowAt H n0 1 (cpt l l.length).length (((cpt l l.length).map I1).flatten)) (p := .row H.length 0 (cpt l l.length).length 1) (.inl rfl) hbd' (by simp [ares, aresL, ares1, alook, Tryd.f68]) (by simp [PV.bd]) (by simp) ⟨H.length, rfl, ?_, by omega, ?_, by simp⟩
    · rw [List.getElem?_append_right (by simp)]; simp
    · rw [List.take_append_of_le_length (by simp; omega), List.take_set_of_le hn0, List.take_set_of_le hn0]
  have hjl : k + j < l.length := by omega
  have hy : l[k + j]? = some l[k + j] := List.getElem?_eq_getElem hjl
  have hy1 : l[k + j - 1]? = some l[k + j - 1] := List.getElem?_eq_getElem (by omega)
  have hdr1 : arr.drop (k + j) = l.drop (k + j) := by
    have := congrArg (List.drop 1) hdr
    rw [List.drop_drop, List.drop_drop] at this
    rwa [show k + j - 1 + 1 = k + j by omega] at this
  have hay : arr[k + j]? = some l[k + j] := by
    have := congrArg (·[0]?) hdr1
    simp only [List.getElem?_drop, Nat.add_zero] at this
    rw [this, hy]
  have hay1 : arr[k + j - 1]? = some l[k + j - 1] := by
    have := congrArg (·[0]?) hdr
    simp only [List.getElem?_drop, Nat.add_zero] at this
    rw [this, hy1]
  have hHl : b < (H.set b (.row 1 ((arr.map I1).flatten))).length := by rw [List.length_set]; exact hbH
  have hHs : ∀ B, (H.set b (.row 1 ((arr.map I1).flatten))).set b B = H.set b B := fun B => List.set_set ..
  have hsub2 : IntKind.i64.wrap ((j : Int) - 1) = ((j - 1 : Nat) : Int) := by rw [wrapId ⟨by omega, by omega⟩]; omega
  simp only [hc2, decide_true, ↓reduceIte]
  refine awp_skip ?_
  refine awp_seq ?_
  refine awp_block ?_
  refine awp_seq ?_
  refine awp_drawn [0, 0, 1, 1, 0, 0, 0, 1, 1, 0] [0, 0, 3, 7, 0, 0, 32, 112, 240, 511] mixed rfl (by kernel_rfl) ?_
  refine dops_run 2 (by simp only [fwA, ↓reduceIte, Nat.reduceAdd, Nat.reduceMul, Nat.reduceEqDiff, Nat.reduceLT, Nat.reduceLeDiff, reduceCtorEq] <;> rfl) ?_
  refine dops_idxRow I1_len rfl rfl rfl el79 rfl rfl hH (by omega) (by omega) ?_
  refine dops_loadRow (i := k + j) (.int .i64 l[k + j]) I1_len rfl rfl rfl ti3 rfl hH (by omega) (by rw [hal]) hay rfl (by rw [if_neg (by decide)]; rfl) ?_
  refine dops_run 3 (by simp only [fwA, ↓reduceIte, Nat.reduceAdd, Nat.reduceMul, Nat.reduceEqDiff, Nat.reduceLT, Nat.reduceLeDiff, reduceCtorEq, hsub2] <;> rfl) ?_
  refine dops_idxRow (i := j - 1) I1_len rfl rfl rfl el79 rfl rfl hH (by omega) (by omega) ?_
  refine dops_loadRow (i := k + j - 1) (.int .i64 l[k + j - 1]) I1_len rfl rfl rfl ti3 rfl hH (by omega) (by rw [hal]) hay1 rfl (by rw [if_neg (by decide)]; rfl) ?_
  refine dops_run 1 (by simp only [fwA, ↓reduceIte, Nat.reduceAdd, Nat.reduceMul, Nat.reduceEqDiff, Nat.reduceLT, Nat.reduceLeDiff, reduceCtorEq, un79] <;> rfl) ?_
  refine dops_end ?_
  refine awp_cond (by simp only [fwA, ↓reduceIte, Nat.reduceAdd, Nat.reduceMul, Nat.reduceEqDiff, Nat.reduceLT, Nat.reduceLeDiff, reduceCtorEq] <;> rfl) ?_
  have hdec2 : decide (l[k + j] = l[k + j - 1]) = decide (l[k + j] = l[k + j - 1]) := rfl
  rw [hdec2]
  by_cases he2 : l[k + j] = l[k + j - 1]
  · simp only [he2, decide_true, Bool.not_true, Bool.false_eq_true, ↓reduceIte]
    refine awp_skip ?_
    refine awp_run rfl (by simp only [fwA, ↓reduceIte, Nat.reduceAdd, Nat.reduceMul, Nat.reduceEqDiff, Nat.reduceLT, Nat.reduceLeDiff, reduceCtorEq] <;> rfl) ?_
    have hcd : cpt l (k + (j + 1)) = cpt l (k + j) := cpt_dup (i := k + j) (by omega) hy (by rw [hy1, he2])
    refine ⟨(j + 1, arr), by show l.length - (k + (j + 1)) < l.length - (k + j); omega, ⟨by omega, by omega, hal, by show (cpt l (k + (j + 1))).length ≤ _; rw [hcd]; omega, hdr1, by show arr.take (cpt l (k + (j + 1))).length = _; rw [hcd]; exact htk⟩, ?_, rfl, rfl⟩
    simp only [fwA, ↓reduceIte, Nat.reduceAdd, Nat.reduceMul, Nat.reduceEqDiff, Nat.reduceLT, Nat.reduceLeDiff, reduceCtorEq, List.map_cons, List.map_nil, wrapS j (by omega), hcd]
  simp only [he2, decide_false, Bool.not_false, ↓reduceIte]
  refine awp_seq ?_
  refine awp_region rfl ?_
  refine aops_run 4 (by simp only [fwA, ↓reduceIte, Nat.reduceAdd, Nat.reduceMul, Nat.reduceEqDiff, Nat.reduceLT, Nat.reduceLeDiff, reduceCtorEq] <;> rfl) ?_
  refine aops_one rfl (os_idxRow I1_len rfl el79 rfl rfl hH (by omega) (by omega) ?_)
  refine aops_one rfl (os_loadRow (i := k + j) I1_len rfl ti3 rfl hH (by omega) (by rw [hal]) hay rfl (by rw [if_neg (by decide)]; rfl) ?_)
  refine aops_one rfl (os_idxRow I1_len rfl el79 rfl rfl hH (by omega) (by omega) ?_)
  refine aops_one rfl (os_putRow I1_len rfl ti3 rfl hH (Nat.zero_add _) (by rw [hal]) (by omega) rfl rfl rfl (by omega) ?_)
  refine aops_end ?_
  refine awp_run rfl (by simp only [fwA, ↓reduceIte, Nat.reduceAdd, Nat.reduceMul, Nat.reduceEqDiff, Nat.reduceLT, Nat.reduceLeDiff, reduceCtorEq] <;> rfl) ?_
  refine awp_run rfl (by simp only [fwA, ↓reduceIte, Nat.reduceAdd, Nat.reduceMul, Nat.reduceEqDiff, Nat.reduceLT, Nat.reduceLeDiff, reduceCtorEq] <;> rfl) ?_
  have hcn : cpt l (k + (j + 1)) = cpt l (k + j) ++ [l[k + j]] := cpt_new (i := k + j) hy (fun _ e => he2 (by rw [hy1] at e; exact (Option.some.inj e).symm))
  refine ⟨(j + 1, arr.set (cpt l (k + j)).length l[k + j]), by show l.length - (k + (j + 1)) < l.length - (k + j); omega, ⟨by omega, by omega, by rw [List.length_set]; exact hal, ?_, ?_, ?_⟩, ?_, hHs _, rfl⟩
  · show (cpt l (k + (j + 1))).length ≤ _
    rw [hcn, List.length_append]; simp; omega
  · show (arr.set _ _).drop (k + (j + 1) - 1) = _
    rw [List.drop_set_of_lt (by omega)]; exact hdr1
  · show (arr.set _ _).take (cpt l (k + (j + 1))).length = cpt l (k + (j + 1))
    rw [hcn, List.length_append, show [l[k + j]].length = 1 from rfl, List.take_add_one, List.take_set_of_le (Nat.le_refl _), htk, List.getElem?_set_self (by omega)]
    rfl
  · simp only [fwA, ↓reduceIte, Nat.reduceAdd, Nat.reduceMul, Nat.reduceEqDiff, Nat.reduceLT, Nat.reduceLeDiff, reduceCtorEq, List.map_cons, List.map_nil, wrapS j (by omega), hcn, List.length_append, List.length_cons, List.length_nil, Nat.zero_add, wrapS _ (show (cpt l (k + j)).length + 1 < 9223372036854775808 by omega)]

end Go.Proofs.YtpkpbfemglmejaaDoor

/- The contracts of what is gathered of pairs' atoms. -/
namespace Go.Proofs.YtpkpbfemglmejaaDoor
set_option linter.unusedVariables false
set_option linter.unusedSimpArgs false
set_option maxRecDepth 100000
open Go.RowKit Fw

/-- What one atom gives. -/
def outs (g : Int → Int × Bool) (a : Int) : List Int := if (g a).2 then [(g a).1] else []
/-- What all atoms of pairs give. -/
def outsP (g : Int → Int × Bool) (ps : List Pr) : List Int := ps.flatMap fun p => outs g p.a ++ outs g p.b
/-- Rising, each once. -/
def onceI (l : List Int) : List Int := cpt (l.mergeSort leI) (l.mergeSort leI).length
def gath (g : Int → Int × Bool) (ps : List Pr) : List Int := onceI (outsP g ps)

theorem outs_le (g : Int → Int × Bool) (a : Int) : (outs g a).length ≤ 1 := by unfold outs; split <;> simp
theorem outsP_le (g : Int → Int × Bool) (ps : List Pr) : (outsP g ps).length ≤ 2 * ps.length := by
  induction ps with
  | nil => simp [outsP]
  | cons p ps ih =>
    have h1 := outs_le g p.a
    have h2 := outs_le g p.b
    unfold outsP at ih ⊢
    rw [List.flatMap_cons, List.length_append, List.length_append, List.length_cons]
    omega
theorem outsP_snoc (g : Int → Int × Bool) (ps : List Pr) (i : Nat) (p : Pr) (h : ps[i]? = some p) : outsP g (ps.take (i + 1)) = outsP g (ps.take i) ++ (outs g p.a ++ outs g p.b) := by
  unfold outsP
  rw [List.take_add_one, h, List.flatMap_append]
  simp

/-- What the first j of two atoms give. -/
def inn (g : Int → Int × Bool) (a b : Int) : Nat → List Int
  | 0 => []
  | 1 => outs g a
  | _ => outs g a ++ outs g b
theorem inn_le (g : Int → Int × Bool) (a b : Int) (j : Nat) : (inn g a b j).length ≤ 2 := by
  have h1 := outs_le g a
  have h2 := outs_le g b
  unfold inn
  split <;> simp <;> omega
theorem take_pre' {H H' : List Blk} (h : H'.take H.length = H) : H' = H ++ H'.drop H.length := by
  conv => lhs; rw [← List.take_append_drop H.length H', h]

set_option maxHeartbeats 1000000 in
/- chancel/atom.gathered, atoms -/
theorem c36 (Γ : Nat → PV) (f : Nat) (he : Enters Tryd.prog f) (g : Int → Int × Bool) (ps : List Pr) (fl : Bool) (hbl : ps.length ≤ 100000000)
    (hf : ∀ p ∈ ps, Gives Tryd.prog Γ f [.int .i64 p.a] (.tup [.int .i64 (g p.a).1, .bool (g p.a).2]) ∧ Gives Tryd.prog Γ f [.int .i64 p.b] (.tup [.int .i64 (g p.b).1, .bool (g p.b).2])) :
    Gives Tryd.prog Γ 36 [.vec (ps.map Pr.enc) fl, .func (.func f) [] []] (.vec ((gath g ps).map I1) false) := by
  refine fn_of_awp Tryd.func36 rfl (by simp [Tryd.f36]) rfl fun H => ?_
  refine awp_bd fun hbd => ?_
  have hout := outsP_le g ps
  refine awp_seq ?_
  refine awp_run rfl (by simp only [fwA, ↓reduceIte, Nat.reduceAdd, Nat.reduceMul, Nat.reduceEqDiff, Nat.reduceLT, Nat.reduceLeDiff, reduceCtorEq] <;> rfl) ?_
  refine awp_seq ?_
  refine awp_run rfl (by simp only [fwA, ↓reduceIte, Nat.reduceAdd, Nat.reduceMul, Nat.reduceEqDiff, Nat.reduceLT, Nat.reduceLeDiff, reduceCtorEq] <;> rfl) ?_
  refine awp_seq ?_
  refine awp_seq ?_
  refine awp_run rfl (by simp only [fwA, ↓reduceIte, Nat.reduceAdd, Nat.reduceMul, Nat.reduceEqDiff, Nat.reduceLT, Nat.reduceLeDiff, reduceCtorEq, un22, List.length_map] <;> rfl) ?_
  refine awp_told (told_adopt 5 1 (by decide) rfl) ?_
  refine awp_block ?_
  refine awp_forG [1, 5, 12, 13, 14] (fun i : Nat => [.func (.func f) [] [], .row H.length 0 (outsP g (ps.take i)).length 1, .vec (ps.map Pr.enc) fl, .int .i64 (ps.length : Int), .int .i64 (i : Int)])
    (fun i => H ++ [.row 1 (((outsP g (ps.take i)).map I1).flatten)]) (fun i => ps.length - i) (fun i => i ≤ ps.length) 0 rfl rfl (Nat.zero_le _)
    (fun i _ => ⟨bd_app (fun B hB => hbd B hB) (by simp only [List.all_cons, List.all_nil, Blk.bd, flat_bd (fun x => I1_fw.2.2 _ x), Bool.and_true]), by simp [PV.bdL, PV.bd]⟩) (fun i _ b hb => by cases hb) fun i hi => ?_
  refine awp_seq ?_
  refine awp_run rfl (by simp only [fwA, ↓reduceIte, Nat.reduceAdd, Nat.reduceMul, Nat.reduceEqDiff, Nat.reduceLT, Nat.reduceLeDiff, reduceCtorEq] <;> rfl) ?_
  refine awp_seq ?_
  refine awp_cond (by simp only [fwA, ↓reduceIte, Nat.reduceAdd, Nat.reduceMul, Nat.reduceEqDiff, Nat.reduceLT, Nat.reduceLeDiff, reduceCtorEq] <;> rfl) ?_
  by_cases hc : (i : Int) < ps.length
  rotate_left
  · simp only [hc, decide_false, Bool.false_eq_true, ↓reduceIte]
    refine awp_exit ?_
    have e : i = ps.length := by omega
    subst e
    rw [List.take_length]
    have hb0 : (H ++ [Blk.row 1 (((outsP g ps).map I1).flatten)])[H.length]? = some (.row 1 (((outsP g ps).map I1).flatten)) := get_at0 H _
    refine awp_seq ?_
    refine awp_region rfl ?_
    refine aops_run 1 (by simp only [fwA, ↓reduceIte, Nat.reduceAdd, Nat.reduceMul, Nat.reduceEqDiff, Nat.reduceLT, Nat.reduceLeDiff, reduceCtorEq] <;> rfl) ?_
    refine aops_call rfl rfl rfl en49 ((sortInts sort53 Γ _ H.length (outsP g ps) hb0 (by omega)).mono fun p H1 hp => ?_)
    obtain ⟨rfl, rfl⟩ := hp
    refine aops_end ?_
    have hb1 : (H ++ [Blk.row 1 ((((outsP g ps).mergeSort leI).map I1).flatten)])[H.length]? = some (.row 1 ((((outsP g ps).mergeSort leI).map I1).flatten)) := get_at0 H _
    have hml : (outsP g ps).length = ((outsP g ps).mergeSort leI).length := (List.length_mergeSort _).symm
    refine awp_seq ?_
    refine awp_region rfl ?_
    rw [hml]
    refine aops_run 1 (by simp only [fwA, ↓reduceIte, Nat.reduceAdd, Nat.reduceMul, Nat.reduceEqDiff, Nat.reduceLT, Nat.reduceLeDiff, reduceCtorEq] <;> rfl) ?_
    refine aops_call rfl rfl rfl en50 ((c50 Γ _ H.length H.length ((outsP g ps).mergeSort leI) (Nat.le_refl _) hb1 (by omega)).mono fun p H4 hp => ?_)
    obtain ⟨b2, rfl, hb2, hnb2, ht2, _⟩ := hp
    rw [List.take_left' rfl] at ht2
    refine aops_run 1 (by simp only [fwA, ↓reduceIte, Nat.reduceAdd, Nat.reduceMul, Nat.reduceEqDiff, Nat.reduceLT, Nat.reduceLeDiff, reduceCtorEq] <;> rfl) ?_
    have hH4 := take_pre' ht2
    generalize H4.drop H.length = L at hH4
    subst hH4
    obtain ⟨j, rfl⟩ : ∃ j, b2 = H.length + j := ⟨b2 - H.length, by omega⟩
    rw [List.getElem?_append_right (by omega), show H.length + j - H.length = j by omega] at hb2
    have hfold : cpt ((outsP g ps).mergeSort leI) ((outsP g ps).mergeSort leI).length = gath g ps := rfl
    rw [hfold] at hb2 ⊢
    refine awp_told (told_freezeAt H L j hb2 (flat_bd (fun _ => rfl) _)) ?_
    refine awp_ret ?_
    refine gives_end (.inl rfl) _ ?_
    have hl := flat_len I1_len (gath g ps)
    have hch := flat_chunk I1_len (gath g ps)
    simp only [fwA, ↓reduceIte, Nat.reduceAdd, Nat.reduceMul, Nat.reduceEqDiff, Nat.reduceLT, Nat.reduceLeDiff, reduceCtorEq, hl, hch]
    rfl
  simp only [hc, decide_true, ↓reduceIte]
  refine awp_skip ?_
  have hil : i < ps.length := by omega
  have ga : ps[i]? = some ps[i] := List.getElem?_eq_getElem hil
  obtain ⟨hfa, hfb⟩ := hf ps[i] (List.getElem_mem hil)
  have hacc := outsP_le g (ps.take i)
  have hnext := outsP_snoc g ps i _ ga
  rw [List.length_take] at hacc
  generalize ps[i] = p at ga hfa hfb hnext
  generalize outsP g (ps.take i) = acc at hacc hnext
  refine awp_seq ?_
  refine awp_block ?_
  refine awp_seq ?_
  refine awp_run rfl (by simp only [fwA, ↓reduceIte, Nat.reduceAdd, Nat.reduceMul, Nat.reduceEqDiff, Nat.reduceLT, Nat.reduceLeDiff, reduceCtorEq, el22, ti43, Pr.fw, List.getElem?_map, ga, Option.map_some, Int.natCast_nonneg] <;> rfl) ?_
  refine awp_seq ?_
  refine awp_run rfl (by simp only [fwA, ↓reduceIte, Nat.reduceAdd, Nat.reduceMul, Nat.reduceEqDiff, Nat.reduceLT, Nat.reduceLeDiff, reduceCtorEq, fl43_0, ti35, fl43_1, un47, Pr.fw] <;> rfl) ?_
  refine awp_block ?_
  refine awp_for [1, 5, 12, 13, 14, 22, 23, 24] (fun j : Nat => [.func (.func f) [] [], .row H.length 0 (acc ++ inn g p.a p.b j).length 1, .vec (ps.map Pr.enc) fl, .int .i64 (ps.length : Int), .int .i64 (i : Int), .vec [[.int .i64 p.a], [.int .i64 p.b]] true, .int .i64 2, .int .i64 (j : Int)])
    (fun j => H ++ [.row 1 (((acc ++ inn g p.a p.b j).map I1).flatten), .box p.enc]) (fun j => 2 - j) (fun j => j ≤ 2) 0 (by simp only [fwA, ↓reduceIte, Nat.reduceAdd, Nat.reduceMul, Nat.reduceEqDiff, Nat.reduceLT, Nat.reduceLeDiff, reduceCtorEq, List.map_cons, List.map_nil, inn, List.append_nil]; rfl) (by simp only [inn, List.append_nil, List.append_assoc]) (by omega) fun j hj => ?_
  refine awp_seq ?_
  refine awp_run rfl (by simp only [fwA, ↓reduceIte, Nat.reduceAdd, Nat.reduceMul, Nat.reduceEqDiff, Nat.reduceLT, Nat.reduceLeDiff, reduceCtorEq] <;> rfl) ?_
  refine awp_seq ?_
  refine awp_cond (by simp only [fwA, ↓reduceIte, Nat.reduceAdd, Nat.reduceMul, Nat.reduceEqDiff, Nat.reduceLT, Nat.reduceLeDiff, reduceCtorEq] <;> rfl) ?_
  obtain rfl | hlt : j = 2 ∨ j < 2 := by omega
  · have h2 : ¬ ((2 : Nat) : Int) < 2 := by omega
    simp only [h2, decide_false, Bool.false_eq_true, ↓reduceIte]
    refine awp_exit ?_
    refine awp_run rfl (by simp only [fwA, ↓reduceIte, Nat.reduceAdd, Nat.reduceMul, Nat.reduceEqDiff, Nat.reduceLT, Nat.reduceLeDiff, reduceCtorEq] <;> rfl) ?_
    refine ⟨i + 1, [.box p.enc], by omega, by omega, ?_, ?_, rfl, by simp⟩
    · rw [hnext]; simp only [fwA, ↓reduceIte, Nat.reduceAdd, Nat.reduceMul, Nat.reduceEqDiff, Nat.reduceLT, Nat.reduceLeDiff, reduceCtorEq, List.map_cons, List.map_nil, wrapS i (by omega), inn]
    · rw [hnext]; simp only [inn, List.append_assoc]; rfl
  have h2 : (j : Int) < 2 := by omega
  simp only [h2, decide_true, ↓reduceIte]
  refine awp_skip ?_
  obtain ⟨x, hx, hfx, hin⟩ : ∃ x, [[PV.int .i64 p.a], [PV.int .i64 p.b]][j]? = some [.int .i64 x] ∧ Gives Tryd.prog Γ f [.int .i64 x] (.tup [.int .i64 (g x).1, .bool (g x).2]) ∧ inn g p.a p.b (j + 1) = inn g p.a p.b j ++ outs g x := by
    obtain rfl | rfl : j = 0 ∨ j = 1 := by omega
    · exact ⟨p.a, rfl, hfa, rfl⟩
    · exact ⟨p.b, rfl, hfb, rfl⟩
  have hwj : IntKind.i64.wrap ((j : Int) + 1) = ((j + 1 : Nat) : Int) := wrapS j (by omega)
  have hinl := inn_le g p.a p.b j
  refine awp_seq ?_
  refine awp_block ?_
  refine awp_seq ?_
  refine awp_run rfl (by simp only [fwA, ↓reduceIte, Nat.reduceAdd, Nat.reduceMul, Nat.reduceEqDiff, Nat.reduceLT, Nat.reduceLeDiff, reduceCtorEq, el47, ti35, Int.toNat_natCast, Int.natCast_nonneg, hx] <;> rfl) ?_
  refine awp_seq ?_
  refine awp_region rfl ?_
  refine aops_run 2 (by simp only [fwA, ↓reduceIte, Nat.reduceAdd, Nat.reduceMul, Nat.reduceEqDiff, Nat.reduceLT, Nat.reduceLeDiff, reduceCtorEq] <;> rfl) ?_
  refine aops_fn rfl rfl rfl he hfx ?_
  refine aops_run 5 (by simp only [fwA, ↓reduceIte, Nat.reduceAdd, Nat.reduceMul, Nat.reduceEqDiff, Nat.reduceLT, Nat.reduceLeDiff, reduceCtorEq] <;> rfl) ?_
  refine awp_seq ?_
  refine awp_run rfl (by simp only [fwA, ↓reduceIte, Nat.reduceAdd, Nat.reduceMul, Nat.reduceEqDiff, Nat.reduceLT, Nat.reduceLeDiff, reduceCtorEq] <;> rfl) ?_
  refine awp_cond (by simp only [fwA, ↓reduceIte, Nat.reduceAdd, Nat.reduceMul, Nat.reduceEqDiff, Nat.reduceLT, Nat.reduceLeDiff, reduceCtorEq] <;> rfl) ?_
  cases hg : (g x).2 with
  | false =>
    have ho : outs g x = [] := by unfold outs; rw [hg]; rfl
    rw [ho, List.append_nil] at hin
    simp only [Bool.false_eq_true, ↓reduceIte]
    refine awp_skip ?_
    refine awp_run rfl (by simp only [fwA, ↓reduceIte, Nat.reduceAdd, Nat.reduceMul, Nat.reduceEqDiff, Nat.reduceLT, Nat.reduceLeDiff, reduceCtorEq] <;> rfl) ?_
    refine ⟨j + 1, by omega, by omega, ?_, by rw [hin], rfl⟩
    rw [hin]; simp only [fwA, ↓reduceIte, Nat.reduceAdd, Nat.reduceMul, Nat.reduceEqDiff, Nat.reduceLT, Nat.reduceLeDiff, reduceCtorEq, List.map_cons, List.map_nil, hwj]
  | true =>
    have ho : outs g x = [(g x).1] := by unfold outs; rw [hg]; rfl
    rw [ho] at hin
    simp only [↓reduceIte]
    have hfl := flat_len I1_len (acc ++ inn g p.a p.b j)
    refine awp_region rfl ?_
    refine aops_run 3 (by simp only [fwA, ↓reduceIte, Nat.reduceAdd, Nat.reduceMul, Nat.reduceEqDiff, Nat.reduceLT, Nat.reduceLeDiff, reduceCtorEq, un47, ti35] <;> rfl) ?_
    refine aops_one rfl (os_appendR rfl un47 ti35 un47 (.inl ⟨_, rfl⟩) rfl (get_at0 H _) (by rw [hfl]; exact (Nat.zero_add _).symm) rfl (fun es f h e he => by
      simp only [fwA, ↓reduceIte, Nat.reduceAdd, Nat.reduceMul, Nat.reduceEqDiff, Nat.reduceLT, Nat.reduceLeDiff, reduceCtorEq, PV.vec.injEq] at h
      obtain ⟨rfl, rfl⟩ := h
      simp only [List.mem_singleton] at he
      subst he; rfl) rfl (by simp only [List.length_append]; show (_ + _ + 1) * 8 ≤ _; omega) (by simp only [List.length_append]; show _ + _ + 1 ≤ _; omega) ?_)
    refine aops_run 1 (by simp only [fwA, ↓reduceIte, Nat.reduceAdd, Nat.reduceMul, Nat.reduceEqDiff, Nat.reduceLT, Nat.reduceLeDiff, reduceCtorEq] <;> rfl) ?_
    refine awp_run rfl (by simp only [fwA, ↓reduceIte, Nat.reduceAdd, Nat.reduceMul, Nat.reduceEqDiff, Nat.reduceLT, Nat.reduceLeDiff, reduceCtorEq] <;> rfl) ?_
    have hap : acc ++ inn g p.a p.b (j + 1) = (acc ++ inn g p.a p.b j) ++ [(g x).1] := by rw [hin, List.append_assoc]
    refine ⟨j + 1, by omega, by omega, ?_, ?_, rfl⟩
    · rw [hap]
      generalize acc ++ inn g p.a p.b j = acc2
      simp only [fwA, ↓reduceIte, Nat.reduceAdd, Nat.reduceMul, Nat.reduceEqDiff, Nat.reduceLT, Nat.reduceLeDiff, reduceCtorEq, List.map_cons, List.map_nil, hwj, List.length_append]
      rfl
    · rw [hap]
      generalize acc ++ inn g p.a p.b j = acc2
      rw [List.map_append, List.flatten_append]
      simp [I1]

set_option maxHeartbeats 1000000 in
/- chancel/atom.gathered, numbers -/
theorem c57 (Γ : Nat → PV) (f : Nat) (he : Enters Tryd.prog f) (g : Int → Int × Bool) (ps : List Pr) (fl : Bool) (hbl : ps.length ≤ 100000000)
    (hf : ∀ p ∈ ps, Gives Tryd.prog Γ f [.int .i64 p.a] (.tup [.int .i64 (g p.a).1, .bool (g p.a).2]) ∧ Gives Tryd.prog Γ f [.int .i64 p.b] (.tup [.int .i64 (g p.b).1, .bool (g p.b).2])) :
    Gives Tryd.prog Γ 57 [.vec (ps.map Pr.enc) fl, .func (.func f) [] []] (.vec ((gath g ps).map I1) false) := by
  refine fn_of_awp Tryd.func57 rfl (by simp [Tryd.f57]) rfl fun H => ?_
  refine awp_bd fun hbd => ?_
  have hout := outsP_le g ps
  refine awp_seq ?_
  refine awp_run rfl (by simp only [fwA, ↓reduceIte, Nat.reduceAdd, Nat.reduceMul, Nat.reduceEqDiff, Nat.reduceLT, Nat.reduceLeDiff, reduceCtorEq] <;> rfl) ?_
  refine awp_seq ?_
  refine awp_run rfl (by simp only [fwA, ↓reduceIte, Nat.reduceAdd, Nat.reduceMul, Nat.reduceEqDiff, Nat.reduceLT, Nat.reduceLeDiff, reduceCtorEq] <;> rfl) ?_
  refine awp_seq ?_
  refine awp_seq ?_
  refine awp_run rfl (by simp only [fwA, ↓reduceIte, Nat.reduceAdd, Nat.reduceMul, Nat.reduceEqDiff, Nat.reduceLT, Nat.reduceLeDiff, reduceCtorEq, un22, List.length_map] <;> rfl) ?_
  refine awp_told (told_adopt 5 1 (by decide) rfl) ?_
  refine awp_block ?_
  refine awp_forG [1, 5, 12, 13, 14] (fun i : Nat => [.func (.func f) [] [], .row H.length 0 (outsP g (ps.take i)).length 1, .vec (ps.map Pr.enc) fl, .int .i64 (ps.length : Int), .int .i64 (i : Int)])
    (fun i => H ++ [.row 1 (((outsP g (ps.take i)).map I1).flatten)]) (fun i => ps.length - i) (fun i => i ≤ ps.length) 0 rfl rfl (Nat.zero_le _)
    (fun i _ => ⟨bd_app (fun B hB => hbd B hB) (by simp only [List.all_cons, List.all_nil, Blk.bd, flat_bd (fun x => I1_fw.2.2 _ x), Bool.and_true]), by simp [PV.bdL, PV.bd]⟩) (fun i _ b hb => by cases hb) fun i hi => ?_
  refine awp_seq ?_
  refine awp_run rfl (by simp only [fwA, ↓reduceIte, Nat.reduceAdd, Nat.reduceMul, Nat.reduceEqDiff, Nat.reduceLT, Nat.reduceLeDiff, reduceCtorEq] <;> rfl) ?_
  refine awp_seq ?_
  refine awp_cond (by simp only [fwA, ↓reduceIte, Nat.reduceAdd, Nat.reduceMul, Nat.reduceEqDiff, Nat.reduceLT, Nat.reduceLeDiff, reduceCtorEq] <;> rfl) ?_
  by_cases hc : (i : Int) < ps.length
  rotate_left
  · simp only [hc, decide_false, Bool.false_eq_true, ↓reduceIte]
    refine awp_exit ?_
    have e : i = ps.length := by omega
    subst e
    rw [List.take_length]
    have hb0 : (H ++ [Blk.row 1 (((outsP g ps).map I1).flatten)])[H.length]? = some (.row 1 (((outsP g ps).map I1).flatten)) := get_at0 H _
    refine awp_seq ?_
    refine awp_region rfl ?_
    refine aops_run 1 (by simp only [fwA, ↓reduceIte, Nat.reduceAdd, Nat.reduceMul, Nat.reduceEqDiff, Nat.reduceLT, Nat.reduceLeDiff, reduceCtorEq] <;> rfl) ?_
    refine aops_call rfl rfl rfl en67 ((sortInts sort55 Γ _ H.length (outsP g ps) hb0 (by omega)).mono fun p H1 hp => ?_)
    obtain ⟨rfl, rfl⟩ := hp
    refine aops_end ?_
    have hb1 : (H ++ [Blk.row 1 ((((outsP g ps).mergeSort leI).map I1).flatten)])[H.length]? = some (.row 1 ((((outsP g ps).mergeSort leI).map I1).flatten)) := get_at0 H _
    have hml : (outsP g ps).length = ((outsP g ps).mergeSort leI).length := (List.length_mergeSort _).symm
    refine awp_seq ?_
    refine awp_region rfl ?_
    rw [hml]
    refine aops_run 1 (by simp only [fwA, ↓reduceIte, Nat.reduceAdd, Nat.reduceMul, Nat.reduceEqDiff, Nat.reduceLT, Nat.reduceLeDiff, reduceCtorEq] <;> rfl) ?_
    refine aops_call rfl rfl rfl en68 ((c68 Γ _ H.length H.length ((outsP g ps).mergeSort leI) (Nat.le_refl _) hb1 (by omega)).mono fun p H4 hp => ?_)
    obtain ⟨b2, rfl, hb2, hnb2, ht2, _⟩ := hp
    rw [List.take_left' rfl] at ht2
    refine aops_run 1 (by simp only [fwA, ↓reduceIte, Nat.reduceAdd, Nat.reduceMul, Nat.reduceEqDiff, Nat.reduceLT, Nat.reduceLeDiff, reduceCtorEq] <;> rfl) ?_
    have hH4 := take_pre' ht2
    generalize H4.drop H.length = L at hH4
    subst hH4
    obtain ⟨j, rfl⟩ : ∃ j, b2 = H.length + j := ⟨b2 - H.length, by omega⟩
    rw [List.getElem?_append_right (by omega), show H.length + j - H.length = j by omega] at hb2
    have hfold : cpt ((outsP g ps).mergeSort leI) ((outsP g ps).mergeSort leI).length = gath g ps := rfl
    rw [hfold] at hb2 ⊢
    refine awp_told (told_freezeAt H L j hb2 (flat_bd (fun _ => rfl) _)) ?_
    refine awp_ret ?_
    refine gives_end (.inl rfl) _ ?_
    have hl := flat_len I1_len (gath g ps)
    have hch := flat_chunk I1_len (gath g ps)
    simp only [fwA, ↓reduceIte, Nat.reduceAdd, Nat.reduceMul, Nat.reduceEqDiff, Nat.reduceLT, Nat.reduceLeDiff, reduceCtorEq, hl, hch]
    rfl
  simp only [hc, decide_true, ↓reduceIte]
  refine awp_skip ?_
  have hil : i < ps.length := by omega
  have ga : ps[i]? = some ps[i] := List.getElem?_eq_getElem hil
  obtain ⟨hfa, hfb⟩ := hf ps[i] (List.getElem_mem hil)
  have hacc := outsP_le g (ps.take i)
  have hnext := outsP_snoc g ps i _ ga
  rw [List.length_take] at hacc
  generalize ps[i] = p at ga hfa hfb hnext
  generalize outsP g (ps.take i) = acc at hacc hnext
  refine awp_seq ?_
  refine awp_block ?_
  refine awp_seq ?_
  refine awp_run rfl (by simp only [fwA, ↓reduceIte, Nat.reduceAdd, Nat.reduceMul, Nat.reduceEqDiff, Nat.reduceLT, Nat.reduceLeDiff, reduceCtorEq, el22, ti43, Pr.fw, List.getElem?_map, ga, Option.map_some, Int.natCast_nonneg] <;> rfl) ?_
  refine awp_seq ?_
  refine awp_run rfl (by simp only [fwA, ↓reduceIte, Nat.reduceAdd, Nat.reduceMul, Nat.reduceEqDiff, Nat.reduceLT, Nat.reduceLeDiff, reduceCtorEq, fl43_0, ti35, fl43_1, un47, Pr.fw] <;> rfl) ?_
  refine awp_block ?_
  refine awp_for [1, 5, 12, 13, 14, 22, 23, 24] (fun j : Nat => [.func (.func f) [] [], .row H.length 0 (acc ++ inn g p.a p.b j).length 1, .vec (ps.map Pr.enc) fl, .int .i64 (ps.length : Int), .int .i64 (i : Int), .vec [[.int .i64 p.a], [.int .i64 p.b]] true, .int .i64 2, .int .i64 (j : Int)])
    (fun j => H ++ [.row 1 (((acc ++ inn g p.a p.b j).map I1).flatten), .box p.enc]) (fun j => 2 - j) (fun j => j ≤ 2) 0 (by simp only [fwA, ↓reduceIte, Nat.reduceAdd, Nat.reduceMul, Nat.reduceEqDiff, Nat.reduceLT, Nat.reduceLeDiff, reduceCtorEq, List.map_cons, List.map_nil, inn, List.append_nil]; rfl) (by simp only [inn, List.append_nil, List.append_assoc]) (by omega) fun j hj => ?_
  refine awp_seq ?_
  refine awp_run rfl (by simp only [fwA, ↓reduceIte, Nat.reduceAdd, Nat.reduceMul, Nat.reduceEqDiff, Nat.reduceLT, Nat.reduceLeDiff, reduceCtorEq] <;> rfl) ?_
  refine awp_seq ?_
  refine awp_cond (by simp only [fwA, ↓reduceIte, Nat.reduceAdd, Nat.reduceMul, Nat.reduceEqDiff, Nat.reduceLT, Nat.reduceLeDiff, reduceCtorEq] <;> rfl) ?_
  obtain rfl | hlt : j = 2 ∨ j < 2 := by omega
  · have h2 : ¬ ((2 : Nat) : Int) < 2 := by omega
    simp only [h2, decide_false, Bool.false_eq_true, ↓reduceIte]
    refine awp_exit ?_
    refine awp_run rfl (by simp only [fwA, ↓reduceIte, Nat.reduceAdd, Nat.reduceMul, Nat.reduceEqDiff, Nat.reduceLT, Nat.reduceLeDiff, reduceCtorEq] <;> rfl) ?_
    refine ⟨i + 1, [.box p.enc], by omega, by omega, ?_, ?_, rfl, by simp⟩
    · rw [hnext]; simp only [fwA, ↓reduceIte, Nat.reduceAdd, Nat.reduceMul, Nat.reduceEqDiff, Nat.reduceLT, Nat.reduceLeDiff, reduceCtorEq, List.map_cons, List.map_nil, wrapS i (by omega), inn]
    · rw [hnext]; simp only [inn, List.append_assoc]; rfl
  have h2 : (j : Int) < 2 := by omega
  simp only [h2, decide_true, ↓reduceIte]
  refine awp_skip ?_
  obtain ⟨x, hx, hfx, hin⟩ : ∃ x, [[PV.int .i64 p.a], [PV.int .i64 p.b]][j]? = some [.int .i64 x] ∧ Gives Tryd.prog Γ f [.int .i64 x] (.tup [.int .i64 (g x).1, .bool (g x).2]) ∧ inn g p.a p.b (j + 1) = inn g p.a p.b j ++ outs g x := by
    obtain rfl | rfl : j = 0 ∨ j = 1 := by omega
    · exact ⟨p.a, rfl, hfa, rfl⟩
    · exact ⟨p.b, rfl, hfb, rfl⟩
  have hwj : IntKind.i64.wrap ((j : Int) + 1) = ((j + 1 : Nat) : Int) := wrapS j (by omega)
  have hinl := inn_le g p.a p.b j
  refine awp_seq ?_
  refine awp_block ?_
  refine awp_seq ?_
  refine awp_run rfl (by simp only [fwA, ↓reduceIte, Nat.reduceAdd, Nat.reduceMul, Nat.reduceEqDiff, Nat.reduceLT, Nat.reduceLeDiff, reduceCtorEq, el47, ti35, Int.toNat_natCast, Int.natCast_nonneg, hx] <;> rfl) ?_
  refine awp_seq ?_
  refine awp_region rfl ?_
  refine aops_run 2 (by simp only [fwA, ↓reduceIte, Nat.reduceAdd, Nat.reduceMul, Nat.reduceEqDiff, Nat.reduceLT, Nat.reduceLeDiff, reduceCtorEq] <;> rfl) ?_
  refine aops_fn rfl rfl rfl he hfx ?_
  refine aops_run 5 (by simp only [fwA, ↓reduceIte, Nat.reduceAdd, Nat.reduceMul, Nat.reduceEqDiff, Nat.reduceLT, Nat.reduceLeDiff, reduceCtorEq] <;> rfl) ?_
  refine awp_seq ?_
  refine awp_run rfl (by simp only [fwA, ↓reduceIte, Nat.reduceAdd, Nat.reduceMul, Nat.reduceEqDiff, Nat.reduceLT, Nat.reduceLeDiff, reduceCtorEq] <;> rfl) ?_
  refine awp_cond (by simp only [fwA, ↓reduceIte, Nat.reduceAdd, Nat.reduceMul, Nat.reduceEqDiff, Nat.reduceLT, Nat.reduceLeDiff, reduceCtorEq] <;> rfl) ?_
  cases hg : (g x).2 with
  | false =>
    have ho : outs g x = [] := by unfold outs; rw [hg]; rfl
    rw [ho, List.append_nil] at hin
    simp only [Bool.false_eq_true, ↓reduceIte]
    refine awp_skip ?_
    refine awp_run rfl (by simp only [fwA, ↓reduceIte, Nat.reduceAdd, Nat.reduceMul, Nat.reduceEqDiff, Nat.reduceLT, Nat.reduceLeDiff, reduceCtorEq] <;> rfl) ?_
    refine ⟨j + 1, by omega, by omega, ?_, by rw [hin], rfl⟩
    rw [hin]; simp only [fwA, ↓reduceIte, Nat.reduceAdd, Nat.reduceMul, Nat.reduceEqDiff, Nat.reduceLT, Nat.reduceLeDiff, reduceCtorEq, List.map_cons, List.map_nil, hwj]
  | true =>
    have ho : outs g x = [(g x).1] := by unfold outs; rw [hg]; rfl
    rw [ho] at hin
    simp only [↓reduceIte]
    have hfl := flat_len I1_len (acc ++ inn g p.a p.b j)
    refine awp_region rfl ?_
    refine aops_run 3 (by simp only [fwA, ↓reduceIte, Nat.reduceAdd, Nat.reduceMul, Nat.reduceEqDiff, Nat.reduceLT, Nat.reduceLeDiff, reduceCtorEq, un79, ti3] <;> rfl) ?_
    refine aops_one rfl (os_appendR rfl un79 ti3 un79 (.inl ⟨_, rfl⟩) rfl (get_at0 H _) (by rw [hfl]; exact (Nat.zero_add _).symm) rfl (fun es f h e he => by
      simp only [fwA, ↓reduceIte, Nat.reduceAdd, Nat.reduceMul, Nat.reduceEqDiff, Nat.reduceLT, Nat.reduceLeDiff, reduceCtorEq, PV.vec.injEq] at h
      obtain ⟨rfl, rfl⟩ := h
      simp only [List.mem_singleton] at he
      subst he; rfl) rfl (by simp only [List.length_append]; show (_ + _ + 1) * 8 ≤ _; omega) (by simp only [List.length_append]; show _ + _ + 1 ≤ _; omega) ?_)
    refine aops_run 1 (by simp only [fwA, ↓reduceIte, Nat.reduceAdd, Nat.reduceMul, Nat.reduceEqDiff, Nat.reduceLT, Nat.reduceLeDiff, reduceCtorEq] <;> rfl) ?_
    refine awp_run rfl (by simp only [fwA, ↓reduceIte, Nat.reduceAdd, Nat.reduceMul, Nat.reduceEqDiff, Nat.reduceLT, Nat.reduceLeDiff, reduceCtorEq] <;> rfl) ?_
    have hap : acc ++ inn g p.a p.b (j + 1) = (acc ++ inn g p.a p.b j) ++ [(g x).1] := by rw [hin, List.append_assoc]
    refine ⟨j + 1, by omega, by omega, ?_, ?_, rfl⟩
    · rw [hap]
      generalize acc ++ inn g p.a p.b j = acc2
      simp only [fwA, ↓reduceIte, Nat.reduceAdd, Nat.reduceMul, Nat.reduceEqDiff, Nat.reduceLT, Nat.reduceLeDiff, reduceCtorEq, List.map_cons, List.map_nil, hwj, List.length_append]
      rfl
    · rw [hap]
      generalize acc ++ inn g p.a p.b j = acc2
      rw [List.map_append, List.flatten_append]
      simp [I1]

end Go.Proofs.YtpkpbfemglmejaaDoor

/- The contracts of two lists that are the same; of variables and points; of renaming, by the document. -/
namespace Go.Proofs.YtpkpbfemglmejaaDoor
set_option linter.unusedVariables false
set_option linter.unusedSimpArgs false
set_option maxRecDepth 100000
open Go.RowKit Fw

/- chancel/atom.Vars$1 -/
theorem c37 (Γ : Nat → PV) (a : Int) : Gives Tryd.prog Γ 37 [.int .i64 a] (.tup [.int .i64 a, .bool (!decide (a < 0))]) := by
  refine fn_of_awp Tryd.func37 rfl (by simp [Tryd.f37]) rfl fun H => ?_
  refine awp_seq ?_
  refine awp_run rfl (by simp only [fwA, ↓reduceIte, Nat.reduceAdd, Nat.reduceMul, Nat.reduceEqDiff, Nat.reduceLT, Nat.reduceLeDiff, reduceCtorEq] <;> rfl) ?_
  refine awp_seq ?_
  refine awp_region rfl ?_
  refine aops_run 2 (by simp only [fwA, ↓reduceIte, Nat.reduceAdd, Nat.reduceMul, Nat.reduceEqDiff, Nat.reduceLT, Nat.reduceLeDiff, reduceCtorEq] <;> rfl) ?_
  refine aops_fn rfl rfl rfl en15 (c15 Γ _) ?_
  refine aops_run 3 (by simp only [fwA, ↓reduceIte, Nat.reduceAdd, Nat.reduceMul, Nat.reduceEqDiff, Nat.reduceLT, Nat.reduceLeDiff, reduceCtorEq] <;> rfl) ?_
  refine awp_ret ?_
  exact gives_end0 (.inl rfl) rfl

/- chancel/atom.Points$1 -/
theorem c58 (Γ : Nat → PV) (a : Int) (ha : I64 a) : Gives Tryd.prog Γ 58 [.int .i64 a] (.tup [.int .i64 (pointOf a), .bool (decide (a < 0))]) := by
  refine fn_of_awp Tryd.func58 rfl (by simp [Tryd.f58]) rfl fun H => ?_
  refine awp_seq ?_
  refine awp_run rfl (by simp only [fwA, ↓reduceIte, Nat.reduceAdd, Nat.reduceMul, Nat.reduceEqDiff, Nat.reduceLT, Nat.reduceLeDiff, reduceCtorEq] <;> rfl) ?_
  refine awp_seq ?_
  refine awp_region rfl ?_
  refine aops_run 1 (by simp only [fwA, ↓reduceIte, Nat.reduceAdd, Nat.reduceMul, Nat.reduceEqDiff, Nat.reduceLT, Nat.reduceLeDiff, reduceCtorEq] <;> rfl) ?_
  refine aops_fn rfl rfl rfl en25 (c25 Γ _ ha) ?_
  refine aops_run 1 (by simp only [fwA, ↓reduceIte, Nat.reduceAdd, Nat.reduceMul, Nat.reduceEqDiff, Nat.reduceLT, Nat.reduceLeDiff, reduceCtorEq] <;> rfl) ?_
  refine aops_fn rfl rfl rfl en15 (c15 Γ _) ?_
  refine aops_run 2 (by simp only [fwA, ↓reduceIte, Nat.reduceAdd, Nat.reduceMul, Nat.reduceEqDiff, Nat.reduceLT, Nat.reduceLeDiff, reduceCtorEq] <;> rfl) ?_
  refine awp_ret ?_
  exact gives_end0 (.inl rfl) rfl

def gV (a : Int) : Int × Bool := (a, !decide (a < 0))
def gP (a : Int) : Int × Bool := (pointOf a, decide (a < 0))
/-- The numbers of pairs are of a machine word. -/
def OkP (ps : List Pr) : Prop := ∀ p ∈ ps, I64 p.a ∧ I64 p.b

/- chancel/atom.Vars -/
theorem c17 (Γ : Nat → PV) (ps : List Pr) (f : Bool) (hl : ps.length ≤ 100000000) : Gives Tryd.prog Γ 17 [.vec (ps.map Pr.enc) f] (.vec ((gath gV ps).map I1) false) := by
  refine fn_of_awp Tryd.func17 rfl (by simp [Tryd.f17]) rfl fun H => ?_
  refine awp_seq ?_
  refine awp_run rfl (by simp only [fwA, ↓reduceIte, Nat.reduceAdd, Nat.reduceMul, Nat.reduceEqDiff, Nat.reduceLT, Nat.reduceLeDiff, reduceCtorEq] <;> rfl) ?_
  refine awp_seq ?_
  refine awp_region rfl ?_
  refine aops_run 1 (by simp only [fwA, ↓reduceIte, Nat.reduceAdd, Nat.reduceMul, Nat.reduceEqDiff, Nat.reduceLT, Nat.reduceLeDiff, reduceCtorEq] <;> rfl) ?_
  refine aops_fn rfl rfl rfl en36 (c36 Γ 37 en37 gV ps f hl fun p _ => ⟨c37 Γ _, c37 Γ _⟩) ?_
  refine aops_run 1 (by simp only [fwA, ↓reduceIte, Nat.reduceAdd, Nat.reduceMul, Nat.reduceEqDiff, Nat.reduceLT, Nat.reduceLeDiff, reduceCtorEq] <;> rfl) ?_
  refine awp_ret ?_
  exact gives_end0 (.inl rfl) rfl

/- chancel/atom.Points -/
theorem c45 (Γ : Nat → PV) (ps : List Pr) (f : Bool) (hl : ps.length ≤ 100000000) (ho : OkP ps) : Gives Tryd.prog Γ 45 [.vec (ps.map Pr.enc) f] (.vec ((gath gP ps).map I1) false) := by
  refine fn_of_awp Tryd.func45 rfl (by simp [Tryd.f45]) rfl fun H => ?_
  refine awp_seq ?_
  refine awp_run rfl (by simp only [fwA, ↓reduceIte, Nat.reduceAdd, Nat.reduceMul, Nat.reduceEqDiff, Nat.reduceLT, Nat.reduceLeDiff, reduceCtorEq] <;> rfl) ?_
  refine awp_seq ?_
  refine awp_region rfl ?_
  refine aops_run 1 (by simp only [fwA, ↓reduceIte, Nat.reduceAdd, Nat.reduceMul, Nat.reduceEqDiff, Nat.reduceLT, Nat.reduceLeDiff, reduceCtorEq] <;> rfl) ?_
  refine aops_fn rfl rfl rfl en57 (c57 Γ 58 en58 gP ps f hl fun p hp => ⟨c58 Γ _ (ho p hp).1, c58 Γ _ (ho p hp).2⟩) ?_
  refine aops_run 1 (by simp only [fwA, ↓reduceIte, Nat.reduceAdd, Nat.reduceMul, Nat.reduceEqDiff, Nat.reduceLT, Nat.reduceLeDiff, reduceCtorEq] <;> rfl) ?_
  refine awp_ret ?_
  exact gives_end0 (.inl rfl) rfl

end Go.Proofs.YtpkpbfemglmejaaDoor

/- Lists that rise: what is left of a sorted list, each element once. -/
namespace Go.Proofs.YtpkpbfemglmejaaDoor
set_option linter.unusedVariables false
set_option linter.unusedSimpArgs false
set_option maxRecDepth 100000
open Go.RowKit Fw

section
variable {X : Type} [DecidableEq X]

theorem cpt_mem (l : List X) : ∀ i x, x ∈ cpt l i ↔ x ∈ l.take i
  | 0, x => by simp [cpt]
  | i + 1, x => by
    have ih := cpt_mem l i x
    cases h : l[i]? with
    | none =>
      have e : cpt l (i + 1) = cpt l i := by simp only [cpt, h]; rw [List.append_nil]
      rw [e, ih, List.take_add_one, h]; simp
    | some y =>
      by_cases hd : 0 < i ∧ l[i - 1]? = some y
      · rw [cpt_dup hd.1 h hd.2, ih, List.take_add_one, h]
        have hm : y ∈ l.take i := List.mem_of_getElem? (i := i - 1) (by rw [List.getElem?_take_of_lt (by omega)]; exact hd.2)
        simp only [Option.toList_some, List.mem_append, List.mem_singleton]
        exact ⟨.inl, fun h => h.elim id fun e => e ▸ hm⟩
      · rw [cpt_new h (fun h0 e => hd ⟨h0, e⟩), List.mem_append, ih, List.take_add_one, h, List.mem_append]
        simp

theorem cpt_rise {le : X → X → Prop} (anti : ∀ x y, le x y → le y x → x = y) (l : List X) (hl : l.Pairwise le) : ∀ i, (cpt l i).Pairwise fun x y => le x y ∧ x ≠ y
  | 0 => List.Pairwise.nil
  | i + 1 => by
    have ih := cpt_rise anti l hl i
    cases h : l[i]? with
    | none =>
      have e : cpt l (i + 1) = cpt l i := by simp only [cpt, h]; rw [List.append_nil]
      rw [e]; exact ih
    | some y =>
      by_cases hd : 0 < i ∧ l[i - 1]? = some y
      · rw [cpt_dup hd.1 h hd.2]; exact ih
      · rw [cpt_new h (fun h0 e => hd ⟨h0, e⟩)]
        refine List.pairwise_append.2 ⟨ih, List.pairwise_singleton _ _, fun x hx z hz => ?_⟩
        obtain rfl := List.mem_singleton.1 hz
        rw [cpt_mem] at hx
        obtain ⟨j, hj⟩ := List.getElem?_of_mem hx
        have hji : j < i := by have := (List.getElem?_eq_some_iff.1 hj).1; rw [List.length_take] at this; omega
        rw [List.getElem?_take_of_lt hji] at hj
        obtain ⟨hjl, rfl⟩ := List.getElem?_eq_some_iff.1 hj
        obtain ⟨hil, rfl⟩ := List.getElem?_eq_some_iff.1 h
        have hp := List.pairwise_iff_getElem.1 hl
        refine ⟨hp j i hjl hil hji, fun e => hd ⟨by omega, ?_⟩⟩
        rw [List.getElem?_eq_getElem (show i - 1 < l.length by omega)]
        congr 1
        by_cases hj1 : j = i - 1
        · subst hj1; exact e
        · exact anti _ _ (hp (i - 1) i (by omega) hil (by omega)) (e ▸ hp j (i - 1) hjl (by omega) (by omega))

omit [DecidableEq X] in
/-- Two lists that rise and have the same members are the same. -/
theorem rise_eq {lt : X → X → Prop} (asym : ∀ x y, lt x y → ¬ lt y x) : ∀ l k : List X, l.Pairwise lt → k.Pairwise lt → (∀ x, x ∈ l ↔ x ∈ k) → l = k
  | [], [], _, _, _ => rfl
  | [], y :: k, _, _, h => absurd ((h y).2 (by simp)) (by simp)
  | x :: l, [], _, _, h => absurd ((h x).1 (by simp)) (by simp)
  | x :: l, y :: k, hl, hk, h => by
    rw [List.pairwise_cons] at hl hk
    have irr : ∀ a, ¬ lt a a := fun a h => asym a a h h
    have hxy : x = y := by
      rcases List.mem_cons.1 ((h x).1 (by simp)) with e | hm
      · exact e
      · rcases List.mem_cons.1 ((h y).2 (by simp)) with e | hm2
        · exact e.symm
        · exact absurd (hk.1 x hm) (asym _ _ (hl.1 y hm2))
    subst hxy
    congr 1
    refine rise_eq asym l k hl.2 hk.2 fun z => ⟨fun hz => ?_, fun hz => ?_⟩
    · rcases List.mem_cons.1 ((h z).1 (by simp [hz])) with e | hm
      · exact absurd (e ▸ hl.1 z hz) (irr _)
      · exact hm
    · rcases List.mem_cons.1 ((h z).2 (by simp [hz])) with e | hm
      · exact absurd (e ▸ hk.1 z hz) (irr _)
      · exact hm
end

/-- One pair stands ahead of another one. -/
def ltP (x y : Pr) : Prop := x.a < y.a ∨ (x.a = y.a ∧ x.b < y.b)
theorem ltP_asym (x y : Pr) (h : ltP x y) : ¬ ltP y x := by unfold ltP at *; omega
theorem onceI_mem (l : List Int) (x : Int) : x ∈ onceI l ↔ x ∈ l := by
  unfold onceI
  rw [cpt_mem, List.take_length, (List.mergeSort_perm _ _).mem_iff]
theorem onceI_rise (l : List Int) : (onceI l).Pairwise (· < ·) := by
  unfold onceI
  refine (cpt_rise (le := fun x y : Int => leI x y = true) (fun x y h1 h2 => ?_) _ (List.pairwise_mergeSort (fun a b c h1 h2 => ?_) (fun a b => ?_) _) _).imp fun {x y} h => ?_
  · unfold leI at *; simp only [decide_eq_true_eq] at *; omega
  · unfold leI at *; simp only [decide_eq_true_eq] at *; omega
  · unfold leI; simp only [Bool.or_eq_true, decide_eq_true_eq]; omega
  · obtain ⟨h1, h2⟩ := h
    unfold leI at h1
    simp only [decide_eq_true_eq] at h1
    omega
theorem onceI_is {l k : List Int} (hk : k.Pairwise (· < ·)) (h : ∀ x, x ∈ k ↔ x ∈ l) : onceI l = k :=
  rise_eq (fun x y h1 h2 => by omega) _ _ (onceI_rise l) hk fun x => by rw [onceI_mem, h]

end Go.Proofs.YtpkpbfemglmejaaDoor

/- The law on variables and points. -/
namespace Go.Proofs.YtpkpbfemglmejaaDoor
set_option linter.unusedVariables false
set_option linter.unusedSimpArgs false
set_option maxRecDepth 100000
open Go.RowKit Fw

theorem vars_mem (l : List Pr) (x : Int) : x ∈ gath gV l ↔ 0 ≤ x ∧ ∃ p ∈ l, x = p.a ∨ x = p.b := by
  unfold gath
  rw [onceI_mem]
  unfold outsP
  rw [List.mem_flatMap]
  have h1 : ∀ a, x ∈ outs gV a ↔ 0 ≤ x ∧ x = a := fun a => by
    unfold outs gV
    by_cases h : a < 0
    · simp [h]; omega
    · simp [h]; omega
  constructor
  · rintro ⟨p, hp, hx⟩
    rw [List.mem_append, h1, h1] at hx
    rcases hx with h | h
    · exact ⟨h.1, p, hp, .inl h.2⟩
    · exact ⟨h.1, p, hp, .inr h.2⟩
  · rintro ⟨h0, p, hp, hx⟩
    refine ⟨p, hp, ?_⟩
    rw [List.mem_append, h1, h1]
    rcases hx with h | h
    · exact .inl ⟨h0, h⟩
    · exact .inr ⟨h0, h⟩
theorem points_mem (l : List Pr) (x : Int) : x ∈ gath gP l ↔ 0 ≤ x ∧ ∃ p ∈ l, -1 - x = p.a ∨ -1 - x = p.b := by
  unfold gath
  rw [onceI_mem]
  unfold outsP
  rw [List.mem_flatMap]
  have h1 : ∀ a, x ∈ outs gP a ↔ 0 ≤ x ∧ -1 - x = a := fun a => by
    unfold outs gP pointOf
    by_cases h : a < 0
    · have h2 : ¬ 0 ≤ a := by omega
      simp [h, h2]; omega
    · simp [h]; omega
  constructor
  · rintro ⟨p, hp, hx⟩
    rw [List.mem_append, h1, h1] at hx
    rcases hx with h | h
    · exact ⟨h.1, p, hp, .inl h.2⟩
    · exact ⟨h.1, p, hp, .inr h.2⟩
  · rintro ⟨h0, p, hp, hx⟩
    refine ⟨p, hp, ?_⟩
    rw [List.mem_append, h1, h1]
    rcases hx with h | h
    · exact .inl ⟨h0, h⟩
    · exact .inr ⟨h0, h⟩
theorem once_le (l : List Int) : (onceI l).length ≤ l.length := by
  have := cpt_le (l.mergeSort leI) (l.mergeSort leI).length
  rw [List.length_mergeSort] at this
  unfold onceI
  rw [List.length_mergeSort]; exact this
theorem both_le (l : List Pr) : (gath gV l).length + (gath gP l).length ≤ 2 * l.length := by
  have h : (outsP gV l).length + (outsP gP l).length = 2 * l.length := by
    induction l with
    | nil => rfl
    | cons p l ih =>
      have h1 : ∀ a, (outs gV a).length + (outs gP a).length = 1 := fun a => by
        unfold outs gV gP
        by_cases h : a < 0 <;> simp [h]
      have ha := h1 p.a
      have hb := h1 p.b
      unfold outsP at ih ⊢
      simp only [List.flatMap_cons, List.length_append, List.length_cons]
      omega
  have h1 := once_le (outsP gV l)
  have h2 := once_le (outsP gP l)
  unfold gath
  omega

/-- A point's number in a word. -/
theorem pt_word {l : List Pr} (ho : OkP l) {x : Int} (hx : x ∈ gath gP l) : I64 x := by
  obtain ⟨h0, p, hp, h⟩ := (points_mem l x).1 hx
  obtain ⟨h1, h2⟩ := ho p hp
  unfold I64 at *
  rcases h with h | h <;> omega

end Go.Proofs.YtpkpbfemglmejaaDoor

/- The laws on the order, and on joins and meets. -/
namespace Go.Proofs.YtpkpbfemglmejaaDoor
set_option linter.unusedVariables false
set_option linter.unusedSimpArgs false
set_option maxRecDepth 100000
open Go.RowKit Fw

theorem join_nat {ns : List (List UInt8)} {us : List Nat} (hR : rightB ns us = true) {x y : Nat} (hx : x < us.length) (hy : y < us.length) : ∃ c : Nat, joinV ns us (x : Int) (y : Int) = (c : Int) ∧ IsJ us.length (lq us) x y c := by
  obtain ⟨r1, r2, r3, r4, r5⟩ := right_spec hR
  obtain ⟨c, h1, h2⟩ := r5.join hx hy
  refine ⟨c, ?_, h2⟩
  unfold joinV ptB
  rw [if_pos ⟨hR, by rw [decide_eq_true (by omega : (0 : Int) ≤ x), decide_eq_true (by omega : (x : Int) < ((min ns.length us.length : Nat) : Int))]; rfl, by rw [decide_eq_true (by omega : (0 : Int) ≤ y), decide_eq_true (by omega : (y : Int) < ((min ns.length us.length : Nat) : Int))]; rfl⟩, Int.toNat_natCast, Int.toNat_natCast, h1]; rfl
theorem meet_nat {ns : List (List UInt8)} {us : List Nat} (hR : rightB ns us = true) {x y : Nat} (hx : x < us.length) (hy : y < us.length) : ∃ c : Nat, meetV ns us (x : Int) (y : Int) = (c : Int) ∧ IsJ us.length (tr (lq us)) x y c := by
  obtain ⟨r1, r2, r3, r4, r5⟩ := right_spec hR
  obtain ⟨c, h1, h2⟩ := r5.tr.join hx hy
  refine ⟨c, ?_, h2⟩
  unfold meetV ptB
  rw [if_pos ⟨hR, by rw [decide_eq_true (by omega : (0 : Int) ≤ x), decide_eq_true (by omega : (x : Int) < ((min ns.length us.length : Nat) : Int))]; rfl, by rw [decide_eq_true (by omega : (0 : Int) ≤ y), decide_eq_true (by omega : (y : Int) < ((min ns.length us.length : Nat) : Int))]; rfl⟩, Int.toNat_natCast, Int.toNat_natCast, h1]; rfl
theorem bot_nat {ns : List (List UInt8)} {us : List Nat} (hR : rightB ns us = true) : ∃ c : Nat, botV ns us = (c : Int) ∧ IsBot us.length (lq us) c := by
  obtain ⟨r1, r2, r3, r4, r5⟩ := right_spec hR
  obtain ⟨c, h1, h2⟩ := r5.bot
  exact ⟨c, by unfold botV; rw [if_pos hR, h1]; rfl, h2⟩
theorem top_nat {ns : List (List UInt8)} {us : List Nat} (hR : rightB ns us = true) : ∃ c : Nat, topV ns us = (c : Int) ∧ IsBot us.length (tr (lq us)) c := by
  obtain ⟨r1, r2, r3, r4, r5⟩ := right_spec hR
  obtain ⟨c, h1, h2⟩ := r5.tr.bot
  exact ⟨c, by unfold topV; rw [if_pos hR, h1]; rfl, h2⟩
theorem tmod_nat {a : Int} {n : Nat} (h0 : 0 ≤ a) : a.tmod (n : Int) = ((a.toNat % n : Nat) : Int) := by
  obtain ⟨k, rfl⟩ : ∃ k : Nat, a = k := ⟨a.toNat, by omega⟩
  rw [Int.tmod_eq_emod_of_nonneg (Int.natCast_nonneg _)]; simp
theorem joinV_off {ns : List (List UInt8)} {us : List Nat} (hR : rightB ns us = false) (a b : Int) : joinV ns us a b = -1 := by unfold joinV; rw [if_neg (by rw [hR]; simp)]
theorem meetV_off {ns : List (List UInt8)} {us : List Nat} (hR : rightB ns us = false) (a b : Int) : meetV ns us a b = -1 := by unfold meetV; rw [if_neg (by rw [hR]; simp)]
end Go.Proofs.YtpkpbfemglmejaaDoor
