/- The law on points. -/
import Derived.Test.YtdacialfjlcboaaGreatDoorT10a
namespace Go.Proofs.YtdacialfjlcboaaGreatDoor
set_option linter.unusedVariables false
set_option linter.unusedSimpArgs false
set_option maxRecDepth 100000
open Go.RowKit Fw

set_option maxHeartbeats 4000000 in
/-- AtomPoints -/
theorem c4 (Γ : Nat → PV) (hΓ : Tab Γ) (p a : Int) (hp0 : 0 ≤ p) (hp1 : p < 4294967296) (ha : I64 a) : Gives Tryz.prog Γ 4 [.int .u32 p, .int .i64 a] (.bool true) := by
  have hp : IntKind.i64.wrap p = p := wrapId ⟨by omega, by omega⟩
  have hpe : decide (p = p) = true := decide_eq_true rfl
  have h1 := c23 Γ p ⟨by omega, by omega⟩
  rw [if_neg (show ¬ p < 0 by omega)] at h1
  have h2 := c27 Γ (-1 - p)
  rw [decide_eq_true (show -1 - p < 0 by omega)] at h2
  have h3 := c25 Γ (-1 - p) ⟨by omega, by omega⟩
  rw [show pointOf (-1 - p) = p by unfold pointOf; rw [if_neg (by omega)]; omega] at h3
  have h4 := c27 Γ a
  have h5 := c25 Γ a ha
  have h7 : Gives Tryz.prog Γ 23 [.int .i64 (-1)] (.int .i64 0) := c23 Γ (-1) ⟨by decide, by decide⟩
  refine fn_of_awp Tryz.func4 rfl (by simp [Tryz.f4]) rfl fun H => ?_
  refine awp_seq ?_
  refine awp_run rfl (by simp only [fwA, ↓reduceIte, Nat.reduceAdd, Nat.reduceMul, Nat.reduceEqDiff, Nat.reduceLT, Nat.reduceLeDiff, reduceCtorEq] <;> rfl) ?_
  refine awp_seq ?_
  refine awp_region rfl ?_
  refine aops_fn rfl rfl rfl en9 (c9 Γ hΓ) ?_
  refine aops_run 1 (by simp only [fwA, ↓reduceIte, Nat.reduceAdd, Nat.reduceMul, Nat.reduceEqDiff, Nat.reduceLT, Nat.reduceLeDiff, reduceCtorEq] <;> rfl) ?_
  refine awp_seq ?_
  refine awp_seq ?_
  refine awp_run rfl (by simp only [fwA, ↓reduceIte, Nat.reduceAdd, Nat.reduceMul, Nat.reduceEqDiff, Nat.reduceLT, Nat.reduceLeDiff, reduceCtorEq] <;> rfl) ?_
  refine awp_cond (b := false) (by simp [alook, aput, ev]) (awp_skip ?_)
  refine awp_seq ?_
  refine awp_region rfl ?_
  refine aops_run 2 (by simp only [fwA, ↓reduceIte, Nat.reduceAdd, Nat.reduceMul, Nat.reduceEqDiff, Nat.reduceLT, Nat.reduceLeDiff, reduceCtorEq, Pr.fw, ti53, pl53, un22, un50, un3, un4, ti24, ti3, ti9, un23, un25, un29, un9, el22, el23, el29, eq53, fl53_0, Int.reduceEq, Int.reduceToNat, Int.reduceNeg, decide_true, decide_false, Bool.and_true, Bool.and_self, Bool.not_true, Bool.not_false, ne_eq, Int.reduceLE, hp, hpe, beq_self_eq_true] <;> rfl) ?_
  refine aops_fn rfl rfl rfl en23 h1 ?_
  refine aops_run 1 (by simp only [fwA, ↓reduceIte, Nat.reduceAdd, Nat.reduceMul, Nat.reduceEqDiff, Nat.reduceLT, Nat.reduceLeDiff, reduceCtorEq, Pr.fw, ti53, pl53, un22, un50, un3, un4, ti24, ti3, ti9, un23, un25, un29, un9, el22, el23, el29, eq53, fl53_0, Int.reduceEq, Int.reduceToNat, Int.reduceNeg, decide_true, decide_false, Bool.and_true, Bool.and_self, Bool.not_true, Bool.not_false, ne_eq, Int.reduceLE, hp, hpe, beq_self_eq_true] <;> rfl) ?_
  refine aops_end ?_
  refine awp_seq ?_
  by_cases hn : a < 0
  · have hpa : pointOf a = -1 - a := by unfold pointOf; rw [if_neg (by omega)]
    have hae : decide (a = a) = true := decide_eq_true rfl
    have hge : decide (0 ≤ -1 - a) = true := decide_eq_true (by omega)
    rw [decide_eq_true hn] at h4
    rw [hpa] at h5
    have h6 := c23 Γ (-1 - a) ⟨by have := ha.1; omega, by have := ha.1; omega⟩
    rw [if_neg (show ¬ -1 - a < 0 by omega), show -1 - (-1 - a) = a by omega] at h6
    refine awp_region rfl ?_
    refine aops_run 3 (by simp only [fwA, ↓reduceIte, Nat.reduceAdd, Nat.reduceMul, Nat.reduceEqDiff, Nat.reduceLT, Nat.reduceLeDiff, reduceCtorEq, Pr.fw, ti53, pl53, un22, un50, un3, un4, ti24, ti3, ti9, un23, un25, un29, un9, el22, el23, el29, eq53, fl53_0, Int.reduceEq, Int.reduceToNat, Int.reduceNeg, decide_true, decide_false, Bool.and_true, Bool.and_self, Bool.not_true, Bool.not_false, ne_eq, Int.reduceLE, hp, hpe, beq_self_eq_true, hae, hge] <;> rfl) ?_
    refine aops_fnIf rfl rfl rfl rfl rfl en27 h2 ?_
    refine aops_run 3 (by simp only [fwA, ↓reduceIte, Nat.reduceAdd, Nat.reduceMul, Nat.reduceEqDiff, Nat.reduceLT, Nat.reduceLeDiff, reduceCtorEq, Pr.fw, ti53, pl53, un22, un50, un3, un4, ti24, ti3, ti9, un23, un25, un29, un9, el22, el23, el29, eq53, fl53_0, Int.reduceEq, Int.reduceToNat, Int.reduceNeg, decide_true, decide_false, Bool.and_true, Bool.and_self, Bool.not_true, Bool.not_false, ne_eq, Int.reduceLE, hp, hpe, beq_self_eq_true, hae, hge] <;> rfl) ?_
    refine aops_fnIf rfl rfl rfl rfl rfl en25 h3 ?_
    refine aops_run 6 (by simp only [fwA, ↓reduceIte, Nat.reduceAdd, Nat.reduceMul, Nat.reduceEqDiff, Nat.reduceLT, Nat.reduceLeDiff, reduceCtorEq, Pr.fw, ti53, pl53, un22, un50, un3, un4, ti24, ti3, ti9, un23, un25, un29, un9, el22, el23, el29, eq53, fl53_0, Int.reduceEq, Int.reduceToNat, Int.reduceNeg, decide_true, decide_false, Bool.and_true, Bool.and_self, Bool.not_true, Bool.not_false, ne_eq, Int.reduceLE, hp, hpe, beq_self_eq_true, hae, hge] <;> rfl) ?_
    refine aops_fnIf rfl rfl rfl rfl rfl en27 h4 ?_
    refine aops_run 1 (by simp only [fwA, ↓reduceIte, Nat.reduceAdd, Nat.reduceMul, Nat.reduceEqDiff, Nat.reduceLT, Nat.reduceLeDiff, reduceCtorEq, Pr.fw, ti53, pl53, un22, un50, un3, un4, ti24, ti3, ti9, un23, un25, un29, un9, el22, el23, el29, eq53, fl53_0, Int.reduceEq, Int.reduceToNat, Int.reduceNeg, decide_true, decide_false, Bool.and_true, Bool.and_self, Bool.not_true, Bool.not_false, ne_eq, Int.reduceLE, hp, hpe, beq_self_eq_true, hae, hge] <;> rfl) ?_
    refine aops_fnIf rfl rfl rfl rfl rfl en25 h5 ?_
    refine aops_run 5 (by simp only [fwA, ↓reduceIte, Nat.reduceAdd, Nat.reduceMul, Nat.reduceEqDiff, Nat.reduceLT, Nat.reduceLeDiff, reduceCtorEq, Pr.fw, ti53, pl53, un22, un50, un3, un4, ti24, ti3, ti9, un23, un25, un29, un9, el22, el23, el29, eq53, fl53_0, Int.reduceEq, Int.reduceToNat, Int.reduceNeg, decide_true, decide_false, Bool.and_true, Bool.and_self, Bool.not_true, Bool.not_false, ne_eq, Int.reduceLE, hp, hpe, beq_self_eq_true, hae, hge] <;> rfl) ?_
    refine aops_fnIf rfl rfl rfl rfl rfl en27 h4 ?_
    refine aops_run 3 (by simp only [fwA, ↓reduceIte, Nat.reduceAdd, Nat.reduceMul, Nat.reduceEqDiff, Nat.reduceLT, Nat.reduceLeDiff, reduceCtorEq, Pr.fw, ti53, pl53, un22, un50, un3, un4, ti24, ti3, ti9, un23, un25, un29, un9, el22, el23, el29, eq53, fl53_0, Int.reduceEq, Int.reduceToNat, Int.reduceNeg, decide_true, decide_false, Bool.and_true, Bool.and_self, Bool.not_true, Bool.not_false, ne_eq, Int.reduceLE, hp, hpe, beq_self_eq_true, hae, hge] <;> rfl) ?_
    refine aops_fnIf rfl rfl rfl rfl rfl en25 h5 ?_
    refine aops_fnIf rfl rfl rfl rfl rfl en23 h6 ?_
    refine aops_run 5 (by simp only [fwA, ↓reduceIte, Nat.reduceAdd, Nat.reduceMul, Nat.reduceEqDiff, Nat.reduceLT, Nat.reduceLeDiff, reduceCtorEq, Pr.fw, ti53, pl53, un22, un50, un3, un4, ti24, ti3, ti9, un23, un25, un29, un9, el22, el23, el29, eq53, fl53_0, Int.reduceEq, Int.reduceToNat, Int.reduceNeg, decide_true, decide_false, Bool.and_true, Bool.and_self, Bool.not_true, Bool.not_false, ne_eq, Int.reduceLE, hp, hpe, beq_self_eq_true, hae, hge] <;> rfl) ?_
    refine aops_fnIf rfl rfl rfl rfl rfl en23 h7 ?_
    refine aops_run 3 (by simp only [fwA, ↓reduceIte, Nat.reduceAdd, Nat.reduceMul, Nat.reduceEqDiff, Nat.reduceLT, Nat.reduceLeDiff, reduceCtorEq, Pr.fw, ti53, pl53, un22, un50, un3, un4, ti24, ti3, ti9, un23, un25, un29, un9, el22, el23, el29, eq53, fl53_0, Int.reduceEq, Int.reduceToNat, Int.reduceNeg, decide_true, decide_false, Bool.and_true, Bool.and_self, Bool.not_true, Bool.not_false, ne_eq, Int.reduceLE, hp, hpe, beq_self_eq_true, hae, hge] <;> rfl) ?_
    refine aops_end ?_
    refine awp_ret ?_
    exact gives_end0 (.inl rfl) rfl
  · have hpa : pointOf a = -1 := by unfold pointOf; rw [if_pos (by omega)]
    have hae : decide (a = a) = true := decide_eq_true rfl
    rw [decide_eq_false hn] at h4
    rw [hpa] at h5
    refine awp_region rfl ?_
    refine aops_run 3 (by simp only [fwA, ↓reduceIte, Nat.reduceAdd, Nat.reduceMul, Nat.reduceEqDiff, Nat.reduceLT, Nat.reduceLeDiff, reduceCtorEq, Pr.fw, ti53, pl53, un22, un50, un3, un4, ti24, ti3, ti9, un23, un25, un29, un9, el22, el23, el29, eq53, fl53_0, Int.reduceEq, Int.reduceToNat, Int.reduceNeg, decide_true, decide_false, Bool.and_true, Bool.and_self, Bool.not_true, Bool.not_false, ne_eq, Int.reduceLE, hp, hpe, beq_self_eq_true, hae] <;> rfl) ?_
    refine aops_fnIf rfl rfl rfl rfl rfl en27 h2 ?_
    refine aops_run 3 (by simp only [fwA, ↓reduceIte, Nat.reduceAdd, Nat.reduceMul, Nat.reduceEqDiff, Nat.reduceLT, Nat.reduceLeDiff, reduceCtorEq, Pr.fw, ti53, pl53, un22, un50, un3, un4, ti24, ti3, ti9, un23, un25, un29, un9, el22, el23, el29, eq53, fl53_0, Int.reduceEq, Int.reduceToNat, Int.reduceNeg, decide_true, decide_false, Bool.and_true, Bool.and_self, Bool.not_true, Bool.not_false, ne_eq, Int.reduceLE, hp, hpe, beq_self_eq_true, hae] <;> rfl) ?_
    refine aops_fnIf rfl rfl rfl rfl rfl en25 h3 ?_
    refine aops_run 6 (by simp only [fwA, ↓reduceIte, Nat.reduceAdd, Nat.reduceMul, Nat.reduceEqDiff, Nat.reduceLT, Nat.reduceLeDiff, reduceCtorEq, Pr.fw, ti53, pl53, un22, un50, un3, un4, ti24, ti3, ti9, un23, un25, un29, un9, el22, el23, el29, eq53, fl53_0, Int.reduceEq, Int.reduceToNat, Int.reduceNeg, decide_true, decide_false, Bool.and_true, Bool.and_self, Bool.not_true, Bool.not_false, ne_eq, Int.reduceLE, hp, hpe, beq_self_eq_true, hae] <;> rfl) ?_
    refine aops_fnIf rfl rfl rfl rfl rfl en27 h4 ?_
    refine aops_run 1 (by simp only [fwA, ↓reduceIte, Nat.reduceAdd, Nat.reduceMul, Nat.reduceEqDiff, Nat.reduceLT, Nat.reduceLeDiff, reduceCtorEq, Pr.fw, ti53, pl53, un22, un50, un3, un4, ti24, ti3, ti9, un23, un25, un29, un9, el22, el23, el29, eq53, fl53_0, Int.reduceEq, Int.reduceToNat, Int.reduceNeg, decide_true, decide_false, Bool.and_true, Bool.and_self, Bool.not_true, Bool.not_false, ne_eq, Int.reduceLE, hp, hpe, beq_self_eq_true, hae] <;> rfl) ?_
    refine aops_fnIf rfl rfl rfl rfl rfl en25 h5 ?_
    refine aops_run 5 (by simp only [fwA, ↓reduceIte, Nat.reduceAdd, Nat.reduceMul, Nat.reduceEqDiff, Nat.reduceLT, Nat.reduceLeDiff, reduceCtorEq, Pr.fw, ti53, pl53, un22, un50, un3, un4, ti24, ti3, ti9, un23, un25, un29, un9, el22, el23, el29, eq53, fl53_0, Int.reduceEq, Int.reduceToNat, Int.reduceNeg, decide_true, decide_false, Bool.and_true, Bool.and_self, Bool.not_true, Bool.not_false, ne_eq, Int.reduceLE, hp, hpe, beq_self_eq_true, hae] <;> rfl) ?_
    refine aops_fnIf rfl rfl rfl rfl rfl en27 h4 ?_
    refine aops_run 10 (by simp only [fwA, ↓reduceIte, Nat.reduceAdd, Nat.reduceMul, Nat.reduceEqDiff, Nat.reduceLT, Nat.reduceLeDiff, reduceCtorEq, Pr.fw, ti53, pl53, un22, un50, un3, un4, ti24, ti3, ti9, un23, un25, un29, un9, el22, el23, el29, eq53, fl53_0, Int.reduceEq, Int.reduceToNat, Int.reduceNeg, decide_true, decide_false, Bool.and_true, Bool.and_self, Bool.not_true, Bool.not_false, ne_eq, Int.reduceLE, hp, hpe, beq_self_eq_true, hae] <;> rfl) ?_
    refine aops_fnIf rfl rfl rfl rfl rfl en23 h7 ?_
    refine aops_run 3 (by simp only [fwA, ↓reduceIte, Nat.reduceAdd, Nat.reduceMul, Nat.reduceEqDiff, Nat.reduceLT, Nat.reduceLeDiff, reduceCtorEq, Pr.fw, ti53, pl53, un22, un50, un3, un4, ti24, ti3, ti9, un23, un25, un29, un9, el22, el23, el29, eq53, fl53_0, Int.reduceEq, Int.reduceToNat, Int.reduceNeg, decide_true, decide_false, Bool.and_true, Bool.and_self, Bool.not_true, Bool.not_false, ne_eq, Int.reduceLE, hp, hpe, beq_self_eq_true, hae] <;> rfl) ?_
    refine aops_end ?_
    refine awp_ret ?_
    exact gives_end0 (.inl rfl) rfl


end Go.Proofs.YtdacialfjlcboaaGreatDoor
