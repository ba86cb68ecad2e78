/- The laws that the program tells what the document tells, and on what is the same. -/
import Derived.Test.YtlbmlhpjibgepaaDoorWE
namespace Go.Proofs.YtlbmlhpjibgepaaDoor
set_option linter.unusedVariables false
set_option linter.unusedSimpArgs false
set_option maxRecDepth 100000
open Go.RowKit Fw

set_option maxHeartbeats 4000000 in
/-- TermTells -/
theorem c3 (Γ : Nat → PV) (hΓ : Tab Γ) (A B : Tm) (oA : A.Ok) (wA : A.w ≤ 2000000) (oB : B.Ok) : Gives Tryd.prog Γ 3 [.agg A.enc, .agg B.enc] (.bool true) := by
  have h10 := c10 Γ A oA
  have h10B := c10 Γ B oB
  have h11 := c11 Γ A (by omega)
  have h12 := c12 Γ A (by omega)
  have h13 := c13 Γ A (by omega)
  have h14 := c14 Γ A (by omega)
  have h15 := c15 Γ hΓ A (by omega)
  have h16 := c16 Γ A (by omega)
  generalize decide (RightT A) = br at h15 h16
  have h17 := c17 Γ A B
  have h18 := c18 Γ A B
  generalize decide (A = B) = be at h17 h18
  have h20 := c20 Γ A (by omega)
  have h21 := c21 Γ A (by omega)
  have h19 := c19 Γ A.free A.free false false
  rw [decide_eq_true rfl] at h19
  generalize A.free = fr at h20 h21 h19
  have h22 := c22 Γ A
  have h23 := c23 Γ A
  generalize A.binder = bb at h22 h23
  refine fn_of_awp Tryd.func3 rfl (by simp [Tryd.f3]) rfl fun H => ?_
  refine awp_seq ?_
  refine awp_run rfl (by simp only [fwA, ↓reduceIte, Nat.reduceAdd, Nat.reduceMul, Nat.reduceEqDiff, Nat.reduceLT, Nat.reduceLeDiff, reduceCtorEq, Tm.fw] <;> rfl) ?_
  refine awp_seq ?_
  refine awp_region rfl ?_
  refine aops_fn rfl rfl rfl en9 (c9 Γ hΓ) ?_
  refine aops_run 1 (by simp only [fwA, ↓reduceIte, Nat.reduceAdd, Nat.reduceMul, Nat.reduceEqDiff, Nat.reduceLT, Nat.reduceLeDiff, reduceCtorEq] <;> rfl) ?_
  refine awp_seq ?_
  refine awp_seq ?_
  refine awp_run rfl (by simp only [fwA, ↓reduceIte, Nat.reduceAdd, Nat.reduceMul, Nat.reduceEqDiff, Nat.reduceLT, Nat.reduceLeDiff, reduceCtorEq] <;> rfl) ?_
  refine awp_cond (b := false) (by simp [alook, aput, ev]) (awp_skip ?_)
  refine awp_seq ?_
  refine awp_region rfl ?_
  refine aops_run 1 (by simp only [fwA, ↓reduceIte, Nat.reduceAdd, Nat.reduceMul, Nat.reduceEqDiff, Nat.reduceLT, Nat.reduceLeDiff, reduceCtorEq, Tm.fw, ti24, ti28, ti9, ti3, un4, un3, un37, decide_true, decide_false, beq_self_eq_true, Bool.not_true, Bool.not_false, Bool.and_self] <;> rfl) ?_
  refine aops_fn rfl rfl rfl en10 h10 ?_
  refine aops_run 2 (by simp only [fwA, ↓reduceIte, Nat.reduceAdd, Nat.reduceMul, Nat.reduceEqDiff, Nat.reduceLT, Nat.reduceLeDiff, reduceCtorEq, Tm.fw, ti24, ti28, ti9, ti3, un4, un3, un37, decide_true, decide_false, beq_self_eq_true, Bool.not_true, Bool.not_false, Bool.and_self] <;> rfl) ?_
  refine aops_end ?_
  refine awp_keep (A' := [(2, .ptr H.length 0), (3, .ptr (H.length + 1) 0), (5, .bool true), (6, .ptr (H.length + 2) 0)]) [2, 3, 5, 6] (by simp [akeep, alook, aput, ev]) ?_
  refine awp_heap (H' := H ++ [.box A.enc, .box B.enc, .box A.enc]) (by simp) ?_
  refine awp_seq ?_
  refine awp_drawn [0, 0, 1, 0, 1, 0, 0, 0, 0, 1, 0, 1, 0, 0, 0, 0, 1, 0, 1, 0, 0, 0, 0, 1, 1, 0, 1, 1, 0, 0, 0, 0, 0, 1, 0, 1, 0, 0, 0, 0, 1, 0, 1, 0, 0, 0, 0] [0, 1, 3, 7, 3, 31, 63, 127, 255, 511, 1023, 511, 4095, 8191, 16383, 32767, 65535, 131071, 65535, 524287, 1048575, 2097151, 4194303, 8388607, 8388607, 33554431, 8388607, 8388607, 201326591, 536870911, 1073741823, 2147483647, 4294967295, 8589934591, 17179869183, 8589934591, 68719476735, 137438953471, 274877906943, 549755813887, 1099511627775, 2199023255551, 1099511627775, 8796093022207, 17592186044415, 35184372088831, 70368744177663] mixed rfl (by kernel_rfl) ?_
  refine dops_run 3 (by simp only [fwA, ↓reduceIte, Nat.reduceAdd, Nat.reduceMul, Nat.reduceEqDiff, Nat.reduceLT, Nat.reduceLeDiff, reduceCtorEq, Tm.fw, ti24, ti28, ti9, ti3, un4, un3, un37, decide_true, decide_false, beq_self_eq_true, Bool.not_true, Bool.not_false, Bool.and_self] <;> rfl) ?_
  refine dops_fn rfl (by simp only [fwA, ↓reduceIte, Nat.reduceAdd, Nat.reduceMul, Nat.reduceEqDiff, Nat.reduceLT, Nat.reduceLeDiff, reduceCtorEq] <;> rfl) rfl rfl en11 h11 ?_
  refine dops_run 1 (by simp only [fwA, ↓reduceIte, Nat.reduceAdd, Nat.reduceMul, Nat.reduceEqDiff, Nat.reduceLT, Nat.reduceLeDiff, reduceCtorEq, Tm.fw, ti24, ti28, ti9, ti3, un4, un3, un37, decide_true, decide_false, beq_self_eq_true, Bool.not_true, Bool.not_false, Bool.and_self] <;> rfl) ?_
  refine dops_fn rfl (by simp only [fwA, ↓reduceIte, Nat.reduceAdd, Nat.reduceMul, Nat.reduceEqDiff, Nat.reduceLT, Nat.reduceLeDiff, reduceCtorEq] <;> rfl) rfl rfl en12 h12 ?_
  refine dops_run 4 (by simp only [fwA, ↓reduceIte, Nat.reduceAdd, Nat.reduceMul, Nat.reduceEqDiff, Nat.reduceLT, Nat.reduceLeDiff, reduceCtorEq, Tm.fw, ti24, ti28, ti9, ti3, un4, un3, un37, decide_true, decide_false, beq_self_eq_true, Bool.not_true, Bool.not_false, Bool.and_self] <;> rfl) ?_
  refine dops_fn rfl (by simp only [fwA, ↓reduceIte, Nat.reduceAdd, Nat.reduceMul, Nat.reduceEqDiff, Nat.reduceLT, Nat.reduceLeDiff, reduceCtorEq] <;> rfl) rfl rfl en13 h13 ?_
  refine dops_run 1 (by simp only [fwA, ↓reduceIte, Nat.reduceAdd, Nat.reduceMul, Nat.reduceEqDiff, Nat.reduceLT, Nat.reduceLeDiff, reduceCtorEq, Tm.fw, ti24, ti28, ti9, ti3, un4, un3, un37, decide_true, decide_false, beq_self_eq_true, Bool.not_true, Bool.not_false, Bool.and_self] <;> rfl) ?_
  refine dops_fn rfl (by simp only [fwA, ↓reduceIte, Nat.reduceAdd, Nat.reduceMul, Nat.reduceEqDiff, Nat.reduceLT, Nat.reduceLeDiff, reduceCtorEq] <;> rfl) rfl rfl en14 h14 ?_
  refine dops_run 4 (by simp only [fwA, ↓reduceIte, Nat.reduceAdd, Nat.reduceMul, Nat.reduceEqDiff, Nat.reduceLT, Nat.reduceLeDiff, reduceCtorEq, Tm.fw, ti24, ti28, ti9, ti3, un4, un3, un37, decide_true, decide_false, beq_self_eq_true, Bool.not_true, Bool.not_false, Bool.and_self] <;> rfl) ?_
  refine dops_fn rfl (by simp only [fwA, ↓reduceIte, Nat.reduceAdd, Nat.reduceMul, Nat.reduceEqDiff, Nat.reduceLT, Nat.reduceLeDiff, reduceCtorEq] <;> rfl) rfl rfl en15 h15 ?_
  refine dops_run 1 (by simp only [fwA, ↓reduceIte, Nat.reduceAdd, Nat.reduceMul, Nat.reduceEqDiff, Nat.reduceLT, Nat.reduceLeDiff, reduceCtorEq, Tm.fw, ti24, ti28, ti9, ti3, un4, un3, un37, decide_true, decide_false, beq_self_eq_true, Bool.not_true, Bool.not_false, Bool.and_self] <;> rfl) ?_
  refine dops_fn rfl (by simp only [fwA, ↓reduceIte, Nat.reduceAdd, Nat.reduceMul, Nat.reduceEqDiff, Nat.reduceLT, Nat.reduceLeDiff, reduceCtorEq] <;> rfl) rfl rfl en16 h16 ?_
  refine dops_run 5 (by simp only [fwA, ↓reduceIte, Nat.reduceAdd, Nat.reduceMul, Nat.reduceEqDiff, Nat.reduceLT, Nat.reduceLeDiff, reduceCtorEq, Tm.fw, ti24, ti28, ti9, ti3, un4, un3, un37, decide_true, decide_false, beq_self_eq_true, Bool.not_true, Bool.not_false, Bool.and_self] <;> rfl) ?_
  refine dops_fn rfl (by simp only [fwA, ↓reduceIte, Nat.reduceAdd, Nat.reduceMul, Nat.reduceEqDiff, Nat.reduceLT, Nat.reduceLeDiff, reduceCtorEq] <;> rfl) rfl rfl en17 h17 ?_
  refine dops_run 2 (by simp only [fwA, ↓reduceIte, Nat.reduceAdd, Nat.reduceMul, Nat.reduceEqDiff, Nat.reduceLT, Nat.reduceLeDiff, reduceCtorEq, Tm.fw, ti24, ti28, ti9, ti3, un4, un3, un37, decide_true, decide_false, beq_self_eq_true, Bool.not_true, Bool.not_false, Bool.and_self] <;> rfl) ?_
  refine dops_fn rfl (by simp only [fwA, ↓reduceIte, Nat.reduceAdd, Nat.reduceMul, Nat.reduceEqDiff, Nat.reduceLT, Nat.reduceLeDiff, reduceCtorEq] <;> rfl) rfl rfl en10 h10B ?_
  refine dops_fn rfl (by simp only [fwA, ↓reduceIte, Nat.reduceAdd, Nat.reduceMul, Nat.reduceEqDiff, Nat.reduceLT, Nat.reduceLeDiff, reduceCtorEq] <;> rfl) rfl rfl en18 h18 ?_
  refine dops_run 4 (by simp only [fwA, ↓reduceIte, Nat.reduceAdd, Nat.reduceMul, Nat.reduceEqDiff, Nat.reduceLT, Nat.reduceLeDiff, reduceCtorEq, Tm.fw, ti24, ti28, ti9, ti3, un4, un3, un37, decide_true, decide_false, beq_self_eq_true, Bool.not_true, Bool.not_false, Bool.and_self] <;> rfl) ?_
  refine dops_fn rfl (by simp only [fwA, ↓reduceIte, Nat.reduceAdd, Nat.reduceMul, Nat.reduceEqDiff, Nat.reduceLT, Nat.reduceLeDiff, reduceCtorEq] <;> rfl) rfl rfl en20 h20 ?_
  refine dops_run 1 (by simp only [fwA, ↓reduceIte, Nat.reduceAdd, Nat.reduceMul, Nat.reduceEqDiff, Nat.reduceLT, Nat.reduceLeDiff, reduceCtorEq, Tm.fw, ti24, ti28, ti9, ti3, un4, un3, un37, decide_true, decide_false, beq_self_eq_true, Bool.not_true, Bool.not_false, Bool.and_self] <;> rfl) ?_
  refine dops_fn rfl (by simp only [fwA, ↓reduceIte, Nat.reduceAdd, Nat.reduceMul, Nat.reduceEqDiff, Nat.reduceLT, Nat.reduceLeDiff, reduceCtorEq] <;> rfl) rfl rfl en21 h21 ?_
  refine dops_fn rfl (by simp only [fwA, ↓reduceIte, Nat.reduceAdd, Nat.reduceMul, Nat.reduceEqDiff, Nat.reduceLT, Nat.reduceLeDiff, reduceCtorEq] <;> rfl) rfl rfl en19 h19 ?_
  refine dops_run 3 (by simp only [fwA, ↓reduceIte, Nat.reduceAdd, Nat.reduceMul, Nat.reduceEqDiff, Nat.reduceLT, Nat.reduceLeDiff, reduceCtorEq, Tm.fw, ti24, ti28, ti9, ti3, un4, un3, un37, decide_true, decide_false, beq_self_eq_true, Bool.not_true, Bool.not_false, Bool.and_self] <;> rfl) ?_
  refine dops_fn rfl (by simp only [fwA, ↓reduceIte, Nat.reduceAdd, Nat.reduceMul, Nat.reduceEqDiff, Nat.reduceLT, Nat.reduceLeDiff, reduceCtorEq] <;> rfl) rfl rfl en22 h22 ?_
  refine dops_run 1 (by simp only [fwA, ↓reduceIte, Nat.reduceAdd, Nat.reduceMul, Nat.reduceEqDiff, Nat.reduceLT, Nat.reduceLeDiff, reduceCtorEq, Tm.fw, ti24, ti28, ti9, ti3, un4, un3, un37, decide_true, decide_false, beq_self_eq_true, Bool.not_true, Bool.not_false, Bool.and_self] <;> rfl) ?_
  refine dops_fn rfl (by simp only [fwA, ↓reduceIte, Nat.reduceAdd, Nat.reduceMul, Nat.reduceEqDiff, Nat.reduceLT, Nat.reduceLeDiff, reduceCtorEq] <;> rfl) rfl rfl en23 h23 ?_
  refine dops_run 3 (by simp only [fwA, ↓reduceIte, Nat.reduceAdd, Nat.reduceMul, Nat.reduceEqDiff, Nat.reduceLT, Nat.reduceLeDiff, reduceCtorEq, Tm.fw, ti24, ti28, ti9, ti3, un4, un3, un37, decide_true, decide_false, beq_self_eq_true, Bool.not_true, Bool.not_false, Bool.and_self] <;> rfl) ?_
  refine dops_end ?_
  exact awp_ret (gives_end (.inl rfl) _ rfl)

set_option maxHeartbeats 4000000 in
/-- TermSame -/
theorem c4 (Γ : Nat → PV) (hΓ : Tab Γ) (A B C : Tm) (wA : A.w ≤ 2000000) : Gives Tryd.prog Γ 4 [.agg A.enc, .agg B.enc, .agg C.enc] (.bool true) := by
  have hAA := c17 Γ A A
  rw [decide_eq_true rfl] at hAA
  have hAB := c17 Γ A B
  have hBA := c17 Γ B A
  refine fn_of_awp Tryd.func4 rfl (by simp [Tryd.f4]) rfl fun H => ?_
  refine awp_seq ?_
  refine awp_run rfl (by simp only [fwA, ↓reduceIte, Nat.reduceAdd, Nat.reduceMul, Nat.reduceEqDiff, Nat.reduceLT, Nat.reduceLeDiff, reduceCtorEq, Tm.fw] <;> rfl) ?_
  refine awp_seq ?_
  refine awp_region rfl ?_
  refine aops_fn rfl rfl rfl en9 (c9 Γ hΓ) ?_
  refine aops_run 1 (by simp only [fwA, ↓reduceIte, Nat.reduceAdd, Nat.reduceMul, Nat.reduceEqDiff, Nat.reduceLT, Nat.reduceLeDiff, reduceCtorEq] <;> rfl) ?_
  refine awp_seq ?_
  refine awp_seq ?_
  refine awp_run rfl (by simp only [fwA, ↓reduceIte, Nat.reduceAdd, Nat.reduceMul, Nat.reduceEqDiff, Nat.reduceLT, Nat.reduceLeDiff, reduceCtorEq] <;> rfl) ?_
  refine awp_cond (b := false) (by simp [alook, aput, ev]) (awp_skip ?_)
  refine awp_keep (A' := [(3, .ptr H.length 0), (4, .ptr (H.length + 1) 0), (5, .ptr (H.length + 2) 0), (7, .bool true)]) [3, 4, 5, 7] (by simp [akeep, alook, aput, ev]) ?_
  refine awp_heap (H' := H ++ [.box A.enc, .box B.enc, .box C.enc]) (by simp) ?_
  by_cases e : A = B
  rotate_left
  · rw [decide_eq_false e] at hAB
    rw [decide_eq_false (fun h => e h.symm)] at hBA
    refine awp_seq ?_
    refine awp_region rfl ?_
    refine aops_run 2 (by simp only [fwA, ↓reduceIte, Nat.reduceAdd, Nat.reduceMul, Nat.reduceEqDiff, Nat.reduceLT, Nat.reduceLeDiff, reduceCtorEq, Tm.fw, ti24, ti28, ti9, ti3, un4, un3, un37, decide_true, decide_false, beq_self_eq_true, Bool.not_true, Bool.not_false, Bool.and_self] <;> rfl) ?_
    refine aops_fn rfl rfl rfl en17 hAB ?_
    refine aops_run 1 (by simp only [fwA, ↓reduceIte, Nat.reduceAdd, Nat.reduceMul, Nat.reduceEqDiff, Nat.reduceLT, Nat.reduceLeDiff, reduceCtorEq, Tm.fw, ti24, ti28, ti9, ti3, un4, un3, un37, decide_true, decide_false, beq_self_eq_true, Bool.not_true, Bool.not_false, Bool.and_self] <;> rfl) ?_
    refine aops_end ?_
    refine awp_seq ?_
    refine awp_seq ?_
    refine awp_region rfl ?_
    refine aops_run 2 (by simp only [fwA, ↓reduceIte, Nat.reduceAdd, Nat.reduceMul, Nat.reduceEqDiff, Nat.reduceLT, Nat.reduceLeDiff, reduceCtorEq, Tm.fw, ti24, ti28, ti9, ti3, un4, un3, un37, decide_true, decide_false, beq_self_eq_true, Bool.not_true, Bool.not_false, Bool.and_self] <;> rfl) ?_
    refine aops_fn rfl rfl rfl en17 hAA ?_
    refine aops_run 5 (by simp only [fwA, ↓reduceIte, Nat.reduceAdd, Nat.reduceMul, Nat.reduceEqDiff, Nat.reduceLT, Nat.reduceLeDiff, reduceCtorEq, Tm.fw, ti24, ti28, ti9, ti3, un4, un3, un37, decide_true, decide_false, beq_self_eq_true, Bool.not_true, Bool.not_false, Bool.and_self] <;> rfl) ?_
    refine aops_fnIf rfl rfl rfl rfl rfl en17 hBA ?_
    refine aops_run 13 (by simp only [fwA, ↓reduceIte, Nat.reduceAdd, Nat.reduceMul, Nat.reduceEqDiff, Nat.reduceLT, Nat.reduceLeDiff, reduceCtorEq, Tm.fw, ti24, ti28, ti9, ti3, un4, un3, un37, decide_true, decide_false, beq_self_eq_true, Bool.not_true, Bool.not_false, Bool.and_self] <;> rfl) ?_
    refine aops_run 3 (by simp only [fwA, ↓reduceIte, Nat.reduceAdd, Nat.reduceMul, Nat.reduceEqDiff, Nat.reduceLT, Nat.reduceLeDiff, reduceCtorEq, Tm.fw, ti24, ti28, ti9, ti3, un4, un3, un37, decide_true, decide_false, beq_self_eq_true, Bool.not_true, Bool.not_false, Bool.and_self] <;> rfl) ?_
    refine aops_end ?_
    refine awp_cond (b := false) (by simp [alook, aput, ev]) (awp_skip ?_)
    refine awp_seq ?_
    refine awp_drawn [0, 0, 0, 0, 0, 1, 0, 1, 0, 0, 0, 1, 0, 1, 0, 0, 0, 0, 1, 0, 1, 0, 0, 0, 0, 1, 0, 1, 0, 0, 0, 0, 0, 0] [0, 1, 3, 7, 15, 31, 63, 31, 255, 511, 1023, 2047, 4095, 2047, 16383, 32767, 65535, 131071, 262143, 524287, 262143, 2097151, 4194303, 8388607, 16777215, 33554431, 67108863, 33554431, 268435455, 536870911, 1073741823, 2147483647, 4294967295, 8589934591] mixed rfl (by kernel_rfl) ?_
    refine dops_run 13 (by simp only [fwA, ↓reduceIte, Nat.reduceAdd, Nat.reduceMul, Nat.reduceEqDiff, Nat.reduceLT, Nat.reduceLeDiff, reduceCtorEq, Tm.fw, ti24, ti28, ti9, ti3, un4, un3, un37, decide_true, decide_false, beq_self_eq_true, Bool.not_true, Bool.not_false, Bool.and_self] <;> rfl) ?_
    refine dops_run 13 (by simp only [fwA, ↓reduceIte, Nat.reduceAdd, Nat.reduceMul, Nat.reduceEqDiff, Nat.reduceLT, Nat.reduceLeDiff, reduceCtorEq, Tm.fw, ti24, ti28, ti9, ti3, un4, un3, un37, decide_true, decide_false, beq_self_eq_true, Bool.not_true, Bool.not_false, Bool.and_self] <;> rfl) ?_
    refine dops_run 8 (by simp only [fwA, ↓reduceIte, Nat.reduceAdd, Nat.reduceMul, Nat.reduceEqDiff, Nat.reduceLT, Nat.reduceLeDiff, reduceCtorEq, Tm.fw, ti24, ti28, ti9, ti3, un4, un3, un37, decide_true, decide_false, beq_self_eq_true, Bool.not_true, Bool.not_false, Bool.and_self] <;> rfl) ?_
    refine dops_end ?_
    exact awp_ret (gives_end (.inl rfl) _ rfl)
  subst e
  have hAC := c17 Γ A C
  have h11 := c11 Γ A (by omega)
  have h13 := c13 Γ A (by omega)
  have h15 := c15 Γ hΓ A (by omega)
  generalize decide (RightT A) = br at h15
  have h20 := c20 Γ A (by omega)
  have h19 := c19 Γ A.free A.free false false
  rw [decide_eq_true rfl] at h19
  generalize A.free = fr at h20 h19
  generalize decide (A = C) = q at hAC
  refine awp_seq ?_
  refine awp_region rfl ?_
  refine aops_run 2 (by simp only [fwA, ↓reduceIte, Nat.reduceAdd, Nat.reduceMul, Nat.reduceEqDiff, Nat.reduceLT, Nat.reduceLeDiff, reduceCtorEq, Tm.fw, ti24, ti28, ti9, ti3, un4, un3, un37, decide_true, decide_false, beq_self_eq_true, Bool.not_true, Bool.not_false, Bool.and_self] <;> rfl) ?_
  refine aops_fn rfl rfl rfl en17 hAA ?_
  refine aops_run 1 (by simp only [fwA, ↓reduceIte, Nat.reduceAdd, Nat.reduceMul, Nat.reduceEqDiff, Nat.reduceLT, Nat.reduceLeDiff, reduceCtorEq, Tm.fw, ti24, ti28, ti9, ti3, un4, un3, un37, decide_true, decide_false, beq_self_eq_true, Bool.not_true, Bool.not_false, Bool.and_self] <;> rfl) ?_
  refine aops_end ?_
  refine awp_seq ?_
  refine awp_seq ?_
  refine AWP.mono (Q := fun e A' H' D' => e = .normal ∧ akeep [3, 4, 5, 7, 8, 39] A' = [(3, .ptr H.length 0), (4, .ptr (H.length + 1) 0), (5, .ptr (H.length + 2) 0), (7, .bool true), (8, .bool true), (39, .bool false)] ∧ H' = H ++ [.box A.enc, .box A.enc, .box C.enc] ∧ D' = []) ?_ fun e A' H' D' hq => ?_
  · cases q with
    | false =>
      refine awp_region rfl ?_
      refine aops_run 2 (by simp only [fwA, ↓reduceIte, Nat.reduceAdd, Nat.reduceMul, Nat.reduceEqDiff, Nat.reduceLT, Nat.reduceLeDiff, reduceCtorEq, Tm.fw, ti24, ti28, ti9, ti3, un4, un3, un37, decide_true, decide_false, beq_self_eq_true, Bool.not_true, Bool.not_false, Bool.and_self] <;> rfl) ?_
      refine aops_fn rfl rfl rfl en17 hAA ?_
      refine aops_run 5 (by simp only [fwA, ↓reduceIte, Nat.reduceAdd, Nat.reduceMul, Nat.reduceEqDiff, Nat.reduceLT, Nat.reduceLeDiff, reduceCtorEq, Tm.fw, ti24, ti28, ti9, ti3, un4, un3, un37, decide_true, decide_false, beq_self_eq_true, Bool.not_true, Bool.not_false, Bool.and_self] <;> rfl) ?_
      refine aops_fnIf rfl rfl rfl rfl rfl en17 hAA ?_
      refine aops_run 7 (by simp only [fwA, ↓reduceIte, Nat.reduceAdd, Nat.reduceMul, Nat.reduceEqDiff, Nat.reduceLT, Nat.reduceLeDiff, reduceCtorEq, Tm.fw, ti24, ti28, ti9, ti3, un4, un3, un37, decide_true, decide_false, beq_self_eq_true, Bool.not_true, Bool.not_false, Bool.and_self] <;> rfl) ?_
      refine aops_fnIf rfl rfl rfl rfl rfl en17 hAC ?_
      refine aops_run 8 (by simp only [fwA, ↓reduceIte, Nat.reduceAdd, Nat.reduceMul, Nat.reduceEqDiff, Nat.reduceLT, Nat.reduceLeDiff, reduceCtorEq, Tm.fw, ti24, ti28, ti9, ti3, un4, un3, un37, decide_true, decide_false, beq_self_eq_true, Bool.not_true, Bool.not_false, Bool.and_self] <;> rfl) ?_
      refine aops_end ?_
      exact ⟨rfl, by simp [akeep, alook, aput, ev], rfl, rfl⟩
    | true =>
      refine awp_region rfl ?_
      refine aops_run 2 (by simp only [fwA, ↓reduceIte, Nat.reduceAdd, Nat.reduceMul, Nat.reduceEqDiff, Nat.reduceLT, Nat.reduceLeDiff, reduceCtorEq, Tm.fw, ti24, ti28, ti9, ti3, un4, un3, un37, decide_true, decide_false, beq_self_eq_true, Bool.not_true, Bool.not_false, Bool.and_self] <;> rfl) ?_
      refine aops_fn rfl rfl rfl en17 hAA ?_
      refine aops_run 5 (by simp only [fwA, ↓reduceIte, Nat.reduceAdd, Nat.reduceMul, Nat.reduceEqDiff, Nat.reduceLT, Nat.reduceLeDiff, reduceCtorEq, Tm.fw, ti24, ti28, ti9, ti3, un4, un3, un37, decide_true, decide_false, beq_self_eq_true, Bool.not_true, Bool.not_false, Bool.and_self] <;> rfl) ?_
      refine aops_fnIf rfl rfl rfl rfl rfl en17 hAA ?_
      refine aops_run 7 (by simp only [fwA, ↓reduceIte, Nat.reduceAdd, Nat.reduceMul, Nat.reduceEqDiff, Nat.reduceLT, Nat.reduceLeDiff, reduceCtorEq, Tm.fw, ti24, ti28, ti9, ti3, un4, un3, un37, decide_true, decide_false, beq_self_eq_true, Bool.not_true, Bool.not_false, Bool.and_self] <;> rfl) ?_
      refine aops_fnIf rfl rfl rfl rfl rfl en17 hAC ?_
      refine aops_run 4 (by simp only [fwA, ↓reduceIte, Nat.reduceAdd, Nat.reduceMul, Nat.reduceEqDiff, Nat.reduceLT, Nat.reduceLeDiff, reduceCtorEq, Tm.fw, ti24, ti28, ti9, ti3, un4, un3, un37, decide_true, decide_false, beq_self_eq_true, Bool.not_true, Bool.not_false, Bool.and_self] <;> rfl) ?_
      refine aops_fnIf rfl rfl rfl rfl rfl en17 hAC ?_
      refine aops_run 3 (by simp only [fwA, ↓reduceIte, Nat.reduceAdd, Nat.reduceMul, Nat.reduceEqDiff, Nat.reduceLT, Nat.reduceLeDiff, reduceCtorEq, Tm.fw, ti24, ti28, ti9, ti3, un4, un3, un37, decide_true, decide_false, beq_self_eq_true, Bool.not_true, Bool.not_false, Bool.and_self] <;> rfl) ?_
      refine aops_end ?_
      exact ⟨rfl, by simp [akeep, alook, aput, ev], rfl, rfl⟩
  obtain ⟨rfl, hA, rfl, rfl⟩ := hq
  refine awp_keep _ hA ?_
  refine awp_cond (b := false) rfl (awp_skip ?_)
  refine awp_seq ?_
  refine awp_drawn [0, 0, 0, 0, 0, 1, 0, 1, 0, 0, 0, 1, 0, 1, 0, 0, 0, 0, 1, 0, 1, 0, 0, 0, 0, 1, 0, 1, 0, 0, 0, 0, 0, 0] [0, 1, 3, 7, 15, 31, 63, 31, 255, 511, 1023, 2047, 4095, 2047, 16383, 32767, 65535, 131071, 262143, 524287, 262143, 2097151, 4194303, 8388607, 16777215, 33554431, 67108863, 33554431, 268435455, 536870911, 1073741823, 2147483647, 4294967295, 8589934591] mixed rfl (by kernel_rfl) ?_
  refine dops_run 6 (by simp only [fwA, ↓reduceIte, Nat.reduceAdd, Nat.reduceMul, Nat.reduceEqDiff, Nat.reduceLT, Nat.reduceLeDiff, reduceCtorEq, Tm.fw, ti24, ti28, ti9, ti3, un4, un3, un37, decide_true, decide_false, beq_self_eq_true, Bool.not_true, Bool.not_false, Bool.and_self] <;> rfl) ?_
  refine dops_fn rfl (by simp only [fwA, ↓reduceIte, Nat.reduceAdd, Nat.reduceMul, Nat.reduceEqDiff, Nat.reduceLT, Nat.reduceLeDiff, reduceCtorEq] <;> rfl) rfl rfl en11 h11 ?_
  refine dops_run 1 (by simp only [fwA, ↓reduceIte, Nat.reduceAdd, Nat.reduceMul, Nat.reduceEqDiff, Nat.reduceLT, Nat.reduceLeDiff, reduceCtorEq, Tm.fw, ti24, ti28, ti9, ti3, un4, un3, un37, decide_true, decide_false, beq_self_eq_true, Bool.not_true, Bool.not_false, Bool.and_self] <;> rfl) ?_
  refine dops_fn rfl (by simp only [fwA, ↓reduceIte, Nat.reduceAdd, Nat.reduceMul, Nat.reduceEqDiff, Nat.reduceLT, Nat.reduceLeDiff, reduceCtorEq] <;> rfl) rfl rfl en11 h11 ?_
  refine dops_run 3 (by simp only [fwA, ↓reduceIte, Nat.reduceAdd, Nat.reduceMul, Nat.reduceEqDiff, Nat.reduceLT, Nat.reduceLeDiff, reduceCtorEq, Tm.fw, ti24, ti28, ti9, ti3, un4, un3, un37, decide_true, decide_false, beq_self_eq_true, Bool.not_true, Bool.not_false, Bool.and_self] <;> rfl) ?_
  refine dops_fn rfl (by simp only [fwA, ↓reduceIte, Nat.reduceAdd, Nat.reduceMul, Nat.reduceEqDiff, Nat.reduceLT, Nat.reduceLeDiff, reduceCtorEq] <;> rfl) rfl rfl en13 h13 ?_
  refine dops_run 1 (by simp only [fwA, ↓reduceIte, Nat.reduceAdd, Nat.reduceMul, Nat.reduceEqDiff, Nat.reduceLT, Nat.reduceLeDiff, reduceCtorEq, Tm.fw, ti24, ti28, ti9, ti3, un4, un3, un37, decide_true, decide_false, beq_self_eq_true, Bool.not_true, Bool.not_false, Bool.and_self] <;> rfl) ?_
  refine dops_fn rfl (by simp only [fwA, ↓reduceIte, Nat.reduceAdd, Nat.reduceMul, Nat.reduceEqDiff, Nat.reduceLT, Nat.reduceLeDiff, reduceCtorEq] <;> rfl) rfl rfl en13 h13 ?_
  refine dops_run 4 (by simp only [fwA, ↓reduceIte, Nat.reduceAdd, Nat.reduceMul, Nat.reduceEqDiff, Nat.reduceLT, Nat.reduceLeDiff, reduceCtorEq, Tm.fw, ti24, ti28, ti9, ti3, un4, un3, un37, decide_true, decide_false, beq_self_eq_true, Bool.not_true, Bool.not_false, Bool.and_self] <;> rfl) ?_
  refine dops_fn rfl (by simp only [fwA, ↓reduceIte, Nat.reduceAdd, Nat.reduceMul, Nat.reduceEqDiff, Nat.reduceLT, Nat.reduceLeDiff, reduceCtorEq] <;> rfl) rfl rfl en20 h20 ?_
  refine dops_run 1 (by simp only [fwA, ↓reduceIte, Nat.reduceAdd, Nat.reduceMul, Nat.reduceEqDiff, Nat.reduceLT, Nat.reduceLeDiff, reduceCtorEq, Tm.fw, ti24, ti28, ti9, ti3, un4, un3, un37, decide_true, decide_false, beq_self_eq_true, Bool.not_true, Bool.not_false, Bool.and_self] <;> rfl) ?_
  refine dops_fn rfl (by simp only [fwA, ↓reduceIte, Nat.reduceAdd, Nat.reduceMul, Nat.reduceEqDiff, Nat.reduceLT, Nat.reduceLeDiff, reduceCtorEq] <;> rfl) rfl rfl en20 h20 ?_
  refine dops_fn rfl (by simp only [fwA, ↓reduceIte, Nat.reduceAdd, Nat.reduceMul, Nat.reduceEqDiff, Nat.reduceLT, Nat.reduceLeDiff, reduceCtorEq] <;> rfl) rfl rfl en19 h19 ?_
  refine dops_run 3 (by simp only [fwA, ↓reduceIte, Nat.reduceAdd, Nat.reduceMul, Nat.reduceEqDiff, Nat.reduceLT, Nat.reduceLeDiff, reduceCtorEq, Tm.fw, ti24, ti28, ti9, ti3, un4, un3, un37, decide_true, decide_false, beq_self_eq_true, Bool.not_true, Bool.not_false, Bool.and_self] <;> rfl) ?_
  refine dops_fn rfl (by simp only [fwA, ↓reduceIte, Nat.reduceAdd, Nat.reduceMul, Nat.reduceEqDiff, Nat.reduceLT, Nat.reduceLeDiff, reduceCtorEq] <;> rfl) rfl rfl en15 h15 ?_
  refine dops_run 1 (by simp only [fwA, ↓reduceIte, Nat.reduceAdd, Nat.reduceMul, Nat.reduceEqDiff, Nat.reduceLT, Nat.reduceLeDiff, reduceCtorEq, Tm.fw, ti24, ti28, ti9, ti3, un4, un3, un37, decide_true, decide_false, beq_self_eq_true, Bool.not_true, Bool.not_false, Bool.and_self] <;> rfl) ?_
  refine dops_fn rfl (by simp only [fwA, ↓reduceIte, Nat.reduceAdd, Nat.reduceMul, Nat.reduceEqDiff, Nat.reduceLT, Nat.reduceLeDiff, reduceCtorEq] <;> rfl) rfl rfl en15 h15 ?_
  refine dops_run 5 (by simp only [fwA, ↓reduceIte, Nat.reduceAdd, Nat.reduceMul, Nat.reduceEqDiff, Nat.reduceLT, Nat.reduceLeDiff, reduceCtorEq, Tm.fw, ti24, ti28, ti9, ti3, un4, un3, un37, decide_true, decide_false, beq_self_eq_true, Bool.not_true, Bool.not_false, Bool.and_self] <;> rfl) ?_
  refine dops_end ?_
  exact awp_ret (gives_end (.inl rfl) _ rfl)

end Go.Proofs.YtlbmlhpjibgepaaDoor
