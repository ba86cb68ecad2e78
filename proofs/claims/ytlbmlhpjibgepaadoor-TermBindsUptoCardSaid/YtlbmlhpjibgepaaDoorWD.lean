/- The contracts of what tells whether terms may be. -/
import Derived.Test.YtlbmlhpjibgepaaDoorWC
import Derived.Sort.Walk0
namespace Go.Proofs.YtlbmlhpjibgepaaDoor
set_option linter.unusedVariables false
set_option linter.unusedSimpArgs false
set_option maxRecDepth 100000
open Go.RowKit Fw

theorem many_out {k : Int} (h : ¬ (1 ≤ k ∧ k < 14)) : manyI k = -1 := if_neg h

/-- chancelref03.many -/
theorem c47 (Γ : Nat → PV) (k : Int) : Gives Tryd.prog Γ 47 [.int .i64 k] (.int .i64 (manyI k)) := by
  by_cases hk : 1 ≤ k ∧ k < 14
  rotate_left
  · rw [many_out hk]
    have n1 : ¬ k = 1 := by omega
    have n2 : ¬ k = 2 := by omega
    have n3 : ¬ k = 3 := by omega
    have n4 : ¬ k = 4 := by omega
    have n5 : ¬ k = 5 := by omega
    have n6 : ¬ k = 6 := by omega
    have n7 : ¬ k = 7 := by omega
    have n8 : ¬ k = 8 := by omega
    have n9 : ¬ k = 9 := by omega
    have n10 : ¬ k = 10 := by omega
    have n11 : ¬ k = 11 := by omega
    have n12 : ¬ k = 12 := by omega
    have n13 : ¬ k = 13 := by omega
    refine fn_of_awp Tryd.func47 rfl (by simp [Tryd.f47]) rfl fun H => ?_
    repeat' first
      | exact awp_ret (gives_end0 (.inl rfl) rfl)
      | refine awp_seq ?_
      | refine awp_skip ?_
      | refine awp_block ?_
      | refine awp_cond (b := true) rfl ?_
      | refine awp_cond (b := false) rfl ?_
      | refine awp_run rfl (by simp only [fwA, ↓reduceIte, Nat.reduceAdd, Nat.reduceMul, Nat.reduceEqDiff, Nat.reduceLT, Nat.reduceLeDiff, reduceCtorEq, n1, n2, n3, n4, n5, n6, n7, n8, n9, n10, n11, n12, n13, decide_true, decide_false, Int.reduceEq] <;> rfl) ?_
  · have : k = 1 ∨ k = 2 ∨ k = 3 ∨ k = 4 ∨ k = 5 ∨ k = 6 ∨ k = 7 ∨ k = 8 ∨ k = 9 ∨ k = 10 ∨ k = 11 ∨ k = 12 ∨ k = 13 := by omega
    rcases this with rfl | rfl | rfl | rfl | rfl | rfl | rfl | rfl | rfl | rfl | rfl | rfl | rfl
    all_goals
      refine fn_of_awp Tryd.func47 rfl (by simp [Tryd.f47]) rfl fun H => ?_
      repeat' first
        | exact awp_ret (gives_end0 (.inl rfl) rfl)
        | refine awp_seq ?_
        | refine awp_skip ?_
        | refine awp_block ?_
        | refine awp_cond (b := true) rfl ?_
        | refine awp_cond (b := false) rfl ?_
        | refine awp_run rfl (by simp only [fwA, ↓reduceIte, Nat.reduceAdd, Nat.reduceMul, Nat.reduceEqDiff, Nat.reduceLT, Nat.reduceLeDiff, reduceCtorEq, decide_true, decide_false, Int.reduceEq] <;> rfl) ?_

theorem tab_at {k : Int} (h1 : 1 ≤ k) (h2 : k < 14) : ((kidsTab.map fun z => PV.int .i64 z).drop (k.toNat * 1))[0]? = some (.int .i64 (kidsTab.getD k.toNat 0)) := by
  have : k = 1 ∨ k = 2 ∨ k = 3 ∨ k = 4 ∨ k = 5 ∨ k = 6 ∨ k = 7 ∨ k = 8 ∨ k = 9 ∨ k = 10 ∨ k = 11 ∨ k = 12 ∨ k = 13 := by omega
  rcases this with rfl | rfl | rfl | rfl | rfl | rfl | rfl | rfl | rfl | rfl | rfl | rfl | rfl <;> rfl

set_option maxHeartbeats 1000000 in
/-- term.Term.node -/
theorem c29 (Γ : Nat → PV) (hΓ : Tab Γ) (t : Tm) : Gives Tryd.prog Γ 29 [.agg t.enc] (.bool (decide (nodeP t))) := by
  have h0 := hΓ.1
  refine fn_of_awp Tryd.func29 rfl (by simp [Tryd.f29]) rfl fun H => ?_
  refine awp_seq ?_
  refine awp_run rfl (by simp only [fwA, ↓reduceIte, Nat.reduceAdd, Nat.reduceMul, Nat.reduceEqDiff, Nat.reduceLT, Nat.reduceLeDiff, reduceCtorEq, Tm.fw] <;> rfl) ?_
  have hsh : 0 ≤ t.kind → t.kind < 14 → (0 ≤ t.kind ∧ t.kind < ((14 : Nat) : Int)) := fun a b => ⟨a, b⟩
  refine awp_seq ?_
  refine awp_seq ?_
  by_cases k1 : t.kind < 1
  · refine awp_drawn [0, 1, 0, 0, 0, 1, 0, 0, 0, 0, 1, 0, 0, 1, 0, 1, 0, 0, 0, 0, 1, 0, 0, 0, 0, 1, 0, 0, 0, 0, 1, 0, 0, 0, 1, 0, 0, 0] [0, 1, 3, 7, 15, 31, 63, 127, 255, 511, 1023, 2047, 511, 4607, 12799, 29183, 65535, 131071, 262143, 524287, 1048575, 2097151, 4194303, 8388607, 16777215, 33554431, 67108863, 134217727, 268435455, 536870911, 1073741823, 2147483647, 4294967295, 8589934591, 17179869183, 34359738367, 68719476735, 137438953471] mixed rfl (by kernel_rfl) ?_
    refine dops_run 13 (by simp only [fwA, ↓reduceIte, Nat.reduceAdd, Nat.reduceMul, Nat.reduceEqDiff, Nat.reduceLT, Nat.reduceLeDiff, reduceCtorEq, fl24_0, ti3, fl24_3, ti22, un22, el57, ar57, fl24_2, ti2, Tm.fw, List.length_map, h0, hsh, decide_true, decide_false, Bool.not_true, Bool.not_false, k1] <;> rfl) ?_
    refine dops_run 13 (by simp only [fwA, ↓reduceIte, Nat.reduceAdd, Nat.reduceMul, Nat.reduceEqDiff, Nat.reduceLT, Nat.reduceLeDiff, reduceCtorEq, fl24_0, ti3, fl24_3, ti22, un22, el57, ar57, fl24_2, ti2, Tm.fw, List.length_map, h0, hsh, decide_true, decide_false, Bool.not_true, Bool.not_false, k1] <;> rfl) ?_
    refine dops_run 12 (by simp only [fwA, ↓reduceIte, Nat.reduceAdd, Nat.reduceMul, Nat.reduceEqDiff, Nat.reduceLT, Nat.reduceLeDiff, reduceCtorEq, fl24_0, ti3, fl24_3, ti22, un22, el57, ar57, fl24_2, ti2, Tm.fw, List.length_map, h0, hsh, decide_true, decide_false, Bool.not_true, Bool.not_false, k1] <;> rfl) ?_
    refine dops_end ?_
    refine awp_cond (b := true) (by simp [alook, aput, ev]) ?_
    refine awp_seq (awp_run rfl (by simp only [fwA, ↓reduceIte, Nat.reduceAdd, Nat.reduceMul, Nat.reduceEqDiff, Nat.reduceLT, Nat.reduceLeDiff, reduceCtorEq] <;> rfl) (awp_ret ?_))
    exact gives_end (.inl rfl) _ (by rw [decide_eq_false (fun e => absurd e.1.1 (by omega))]; rfl)
  by_cases k2 : 14 ≤ t.kind
  · refine awp_drawn [0, 1, 0, 0, 0, 1, 0, 0, 0, 0, 1, 0, 0, 1, 0, 1, 0, 0, 0, 0, 1, 0, 0, 0, 0, 1, 0, 0, 0, 0, 1, 0, 0, 0, 1, 0, 0, 0] [0, 1, 3, 7, 15, 31, 63, 127, 255, 511, 1023, 2047, 511, 4607, 12799, 29183, 65535, 131071, 262143, 524287, 1048575, 2097151, 4194303, 8388607, 16777215, 33554431, 67108863, 134217727, 268435455, 536870911, 1073741823, 2147483647, 4294967295, 8589934591, 17179869183, 34359738367, 68719476735, 137438953471] mixed rfl (by kernel_rfl) ?_
    refine dops_run 13 (by simp only [fwA, ↓reduceIte, Nat.reduceAdd, Nat.reduceMul, Nat.reduceEqDiff, Nat.reduceLT, Nat.reduceLeDiff, reduceCtorEq, fl24_0, ti3, fl24_3, ti22, un22, el57, ar57, fl24_2, ti2, Tm.fw, List.length_map, h0, hsh, decide_true, decide_false, Bool.not_true, Bool.not_false, k1, k2] <;> rfl) ?_
    refine dops_run 13 (by simp only [fwA, ↓reduceIte, Nat.reduceAdd, Nat.reduceMul, Nat.reduceEqDiff, Nat.reduceLT, Nat.reduceLeDiff, reduceCtorEq, fl24_0, ti3, fl24_3, ti22, un22, el57, ar57, fl24_2, ti2, Tm.fw, List.length_map, h0, hsh, decide_true, decide_false, Bool.not_true, Bool.not_false, k1, k2] <;> rfl) ?_
    refine dops_run 12 (by simp only [fwA, ↓reduceIte, Nat.reduceAdd, Nat.reduceMul, Nat.reduceEqDiff, Nat.reduceLT, Nat.reduceLeDiff, reduceCtorEq, fl24_0, ti3, fl24_3, ti22, un22, el57, ar57, fl24_2, ti2, Tm.fw, List.length_map, h0, hsh, decide_true, decide_false, Bool.not_true, Bool.not_false, k1, k2] <;> rfl) ?_
    refine dops_end ?_
    refine awp_cond (b := true) (by simp [alook, aput, ev]) ?_
    refine awp_seq (awp_run rfl (by simp only [fwA, ↓reduceIte, Nat.reduceAdd, Nat.reduceMul, Nat.reduceEqDiff, Nat.reduceLT, Nat.reduceLeDiff, reduceCtorEq] <;> rfl) (awp_ret ?_))
    exact gives_end (.inl rfl) _ (by rw [decide_eq_false (fun e => absurd e.1.2 (by omega))]; rfl)
  have gt := tab_at (k := t.kind) (by omega) (by omega)
  have hin : 0 ≤ t.kind ∧ t.kind < ((14 : Nat) : Int) := ⟨by omega, by omega⟩
  generalize (kidsTab.map fun z => PV.int .i64 z) = T at h0 gt
  have hnd : nodeP t ↔ (t.kids.length : Int) = kidsTab.getD t.kind.toNat 0 ∧ (t.kind ≠ 1 → t.n = 0) ∧ 0 ≤ t.n ∧ t.n < 2147483648 ∧ nmOk t := ⟨fun h => h.2, fun h => ⟨⟨by omega, by omega⟩, h⟩⟩
  generalize kidsTab.getD t.kind.toNat 0 = m at gt hnd
  rw [decide_eq_decide.2 hnd]
  by_cases k3 : (t.kids.length : Int) = m
  rotate_left
  · refine awp_drawn [0, 1, 0, 0, 0, 1, 0, 0, 0, 0, 1, 0, 0, 1, 0, 1, 0, 0, 0, 0, 1, 0, 0, 0, 0, 1, 0, 0, 0, 0, 1, 0, 0, 0, 1, 0, 0, 0] [0, 1, 3, 7, 15, 31, 63, 127, 255, 511, 1023, 2047, 511, 4607, 12799, 29183, 65535, 131071, 262143, 524287, 1048575, 2097151, 4194303, 8388607, 16777215, 33554431, 67108863, 134217727, 268435455, 536870911, 1073741823, 2147483647, 4294967295, 8589934591, 17179869183, 34359738367, 68719476735, 137438953471] mixed rfl (by kernel_rfl) ?_
    refine dops_run 13 (by simp only [fwA, ↓reduceIte, Nat.reduceAdd, Nat.reduceMul, Nat.reduceEqDiff, Nat.reduceLT, Nat.reduceLeDiff, reduceCtorEq, fl24_0, ti3, fl24_3, ti22, un22, el57, ar57, fl24_2, ti2, Tm.fw, List.length_map, h0, hsh, decide_true, decide_false, Bool.not_true, Bool.not_false, k1, k2, hin, gt, if_pos, and_self, k3] <;> rfl) ?_
    refine dops_run 13 (by simp only [fwA, ↓reduceIte, Nat.reduceAdd, Nat.reduceMul, Nat.reduceEqDiff, Nat.reduceLT, Nat.reduceLeDiff, reduceCtorEq, fl24_0, ti3, fl24_3, ti22, un22, el57, ar57, fl24_2, ti2, Tm.fw, List.length_map, h0, hsh, decide_true, decide_false, Bool.not_true, Bool.not_false, k1, k2, hin, gt, if_pos, and_self, k3] <;> rfl) ?_
    refine dops_run 12 (by simp only [fwA, ↓reduceIte, Nat.reduceAdd, Nat.reduceMul, Nat.reduceEqDiff, Nat.reduceLT, Nat.reduceLeDiff, reduceCtorEq, fl24_0, ti3, fl24_3, ti22, un22, el57, ar57, fl24_2, ti2, Tm.fw, List.length_map, h0, hsh, decide_true, decide_false, Bool.not_true, Bool.not_false, k1, k2, hin, gt, if_pos, and_self, k3] <;> rfl) ?_
    refine dops_end ?_
    refine awp_cond (b := true) (by simp [alook, aput, ev]) ?_
    refine awp_seq (awp_run rfl (by simp only [fwA, ↓reduceIte, Nat.reduceAdd, Nat.reduceMul, Nat.reduceEqDiff, Nat.reduceLT, Nat.reduceLeDiff, reduceCtorEq] <;> rfl) (awp_ret ?_))
    exact gives_end (.inl rfl) _ (by rw [decide_eq_false (fun e => absurd e.1 k3)]; rfl)
  by_cases k4 : t.n < 0
  · refine awp_drawn [0, 1, 0, 0, 0, 1, 0, 0, 0, 0, 1, 0, 0, 1, 0, 1, 0, 0, 0, 0, 1, 0, 0, 0, 0, 1, 0, 0, 0, 0, 1, 0, 0, 0, 1, 0, 0, 0] [0, 1, 3, 7, 15, 31, 63, 127, 255, 511, 1023, 2047, 511, 4607, 12799, 29183, 65535, 131071, 262143, 524287, 1048575, 2097151, 4194303, 8388607, 16777215, 33554431, 67108863, 134217727, 268435455, 536870911, 1073741823, 2147483647, 4294967295, 8589934591, 17179869183, 34359738367, 68719476735, 137438953471] mixed rfl (by kernel_rfl) ?_
    refine dops_run 13 (by simp only [fwA, ↓reduceIte, Nat.reduceAdd, Nat.reduceMul, Nat.reduceEqDiff, Nat.reduceLT, Nat.reduceLeDiff, reduceCtorEq, fl24_0, ti3, fl24_3, ti22, un22, el57, ar57, fl24_2, ti2, Tm.fw, List.length_map, h0, hsh, decide_true, decide_false, Bool.not_true, Bool.not_false, k1, k2, hin, gt, if_pos, and_self, k3, k4] <;> rfl) ?_
    refine dops_run 13 (by simp only [fwA, ↓reduceIte, Nat.reduceAdd, Nat.reduceMul, Nat.reduceEqDiff, Nat.reduceLT, Nat.reduceLeDiff, reduceCtorEq, fl24_0, ti3, fl24_3, ti22, un22, el57, ar57, fl24_2, ti2, Tm.fw, List.length_map, h0, hsh, decide_true, decide_false, Bool.not_true, Bool.not_false, k1, k2, hin, gt, if_pos, and_self, k3, k4] <;> rfl) ?_
    refine dops_run 12 (by simp only [fwA, ↓reduceIte, Nat.reduceAdd, Nat.reduceMul, Nat.reduceEqDiff, Nat.reduceLT, Nat.reduceLeDiff, reduceCtorEq, fl24_0, ti3, fl24_3, ti22, un22, el57, ar57, fl24_2, ti2, Tm.fw, List.length_map, h0, hsh, decide_true, decide_false, Bool.not_true, Bool.not_false, k1, k2, hin, gt, if_pos, and_self, k3, k4] <;> rfl) ?_
    refine dops_end ?_
    refine awp_cond (b := true) (by simp [alook, aput, ev]) ?_
    refine awp_seq (awp_run rfl (by simp only [fwA, ↓reduceIte, Nat.reduceAdd, Nat.reduceMul, Nat.reduceEqDiff, Nat.reduceLT, Nat.reduceLeDiff, reduceCtorEq] <;> rfl) (awp_ret ?_))
    exact gives_end (.inl rfl) _ (by rw [decide_eq_false (fun e => absurd e.2.2.1 (by omega))]; rfl)
  by_cases k5 : 2147483648 ≤ t.n
  · refine awp_drawn [0, 1, 0, 0, 0, 1, 0, 0, 0, 0, 1, 0, 0, 1, 0, 1, 0, 0, 0, 0, 1, 0, 0, 0, 0, 1, 0, 0, 0, 0, 1, 0, 0, 0, 1, 0, 0, 0] [0, 1, 3, 7, 15, 31, 63, 127, 255, 511, 1023, 2047, 511, 4607, 12799, 29183, 65535, 131071, 262143, 524287, 1048575, 2097151, 4194303, 8388607, 16777215, 33554431, 67108863, 134217727, 268435455, 536870911, 1073741823, 2147483647, 4294967295, 8589934591, 17179869183, 34359738367, 68719476735, 137438953471] mixed rfl (by kernel_rfl) ?_
    refine dops_run 13 (by simp only [fwA, ↓reduceIte, Nat.reduceAdd, Nat.reduceMul, Nat.reduceEqDiff, Nat.reduceLT, Nat.reduceLeDiff, reduceCtorEq, fl24_0, ti3, fl24_3, ti22, un22, el57, ar57, fl24_2, ti2, Tm.fw, List.length_map, h0, hsh, decide_true, decide_false, Bool.not_true, Bool.not_false, k1, k2, hin, gt, if_pos, and_self, k3, k4, k5] <;> rfl) ?_
    refine dops_run 13 (by simp only [fwA, ↓reduceIte, Nat.reduceAdd, Nat.reduceMul, Nat.reduceEqDiff, Nat.reduceLT, Nat.reduceLeDiff, reduceCtorEq, fl24_0, ti3, fl24_3, ti22, un22, el57, ar57, fl24_2, ti2, Tm.fw, List.length_map, h0, hsh, decide_true, decide_false, Bool.not_true, Bool.not_false, k1, k2, hin, gt, if_pos, and_self, k3, k4, k5] <;> rfl) ?_
    refine dops_run 12 (by simp only [fwA, ↓reduceIte, Nat.reduceAdd, Nat.reduceMul, Nat.reduceEqDiff, Nat.reduceLT, Nat.reduceLeDiff, reduceCtorEq, fl24_0, ti3, fl24_3, ti22, un22, el57, ar57, fl24_2, ti2, Tm.fw, List.length_map, h0, hsh, decide_true, decide_false, Bool.not_true, Bool.not_false, k1, k2, hin, gt, if_pos, and_self, k3, k4, k5] <;> rfl) ?_
    refine dops_end ?_
    refine awp_cond (b := true) (by simp [alook, aput, ev]) ?_
    refine awp_seq (awp_run rfl (by simp only [fwA, ↓reduceIte, Nat.reduceAdd, Nat.reduceMul, Nat.reduceEqDiff, Nat.reduceLT, Nat.reduceLeDiff, reduceCtorEq] <;> rfl) (awp_ret ?_))
    exact gives_end (.inl rfl) _ (by rw [decide_eq_false (fun e => absurd e.2.2.2.1 (by omega))]; rfl)
  by_cases k6 : t.kind = 1 ∨ t.n = 0
  rotate_left
  · have k6a : ¬ t.kind = 1 := fun h => k6 (.inl h)
    have k6b : ¬ t.n = 0 := fun h => k6 (.inr h)
    refine awp_drawn [0, 1, 0, 0, 0, 1, 0, 0, 0, 0, 1, 0, 0, 1, 0, 1, 0, 0, 0, 0, 1, 0, 0, 0, 0, 1, 0, 0, 0, 0, 1, 0, 0, 0, 1, 0, 0, 0] [0, 1, 3, 7, 15, 31, 63, 127, 255, 511, 1023, 2047, 511, 4607, 12799, 29183, 65535, 131071, 262143, 524287, 1048575, 2097151, 4194303, 8388607, 16777215, 33554431, 67108863, 134217727, 268435455, 536870911, 1073741823, 2147483647, 4294967295, 8589934591, 17179869183, 34359738367, 68719476735, 137438953471] mixed rfl (by kernel_rfl) ?_
    refine dops_run 13 (by simp only [fwA, ↓reduceIte, Nat.reduceAdd, Nat.reduceMul, Nat.reduceEqDiff, Nat.reduceLT, Nat.reduceLeDiff, reduceCtorEq, fl24_0, ti3, fl24_3, ti22, un22, el57, ar57, fl24_2, ti2, Tm.fw, List.length_map, h0, hsh, decide_true, decide_false, Bool.not_true, Bool.not_false, k1, k2, hin, gt, if_pos, and_self, k3, k4, k5, k6a, k6b] <;> rfl) ?_
    refine dops_run 13 (by simp only [fwA, ↓reduceIte, Nat.reduceAdd, Nat.reduceMul, Nat.reduceEqDiff, Nat.reduceLT, Nat.reduceLeDiff, reduceCtorEq, fl24_0, ti3, fl24_3, ti22, un22, el57, ar57, fl24_2, ti2, Tm.fw, List.length_map, h0, hsh, decide_true, decide_false, Bool.not_true, Bool.not_false, k1, k2, hin, gt, if_pos, and_self, k3, k4, k5, k6a, k6b] <;> rfl) ?_
    refine dops_run 12 (by simp only [fwA, ↓reduceIte, Nat.reduceAdd, Nat.reduceMul, Nat.reduceEqDiff, Nat.reduceLT, Nat.reduceLeDiff, reduceCtorEq, fl24_0, ti3, fl24_3, ti22, un22, el57, ar57, fl24_2, ti2, Tm.fw, List.length_map, h0, hsh, decide_true, decide_false, Bool.not_true, Bool.not_false, k1, k2, hin, gt, if_pos, and_self, k3, k4, k5, k6a, k6b] <;> rfl) ?_
    refine dops_end ?_
    refine awp_cond (b := true) (by simp [alook, aput, ev]) ?_
    refine awp_seq (awp_run rfl (by simp only [fwA, ↓reduceIte, Nat.reduceAdd, Nat.reduceMul, Nat.reduceEqDiff, Nat.reduceLT, Nat.reduceLeDiff, reduceCtorEq] <;> rfl) (awp_ret ?_))
    exact gives_end (.inl rfl) _ (by rw [decide_eq_false (fun e => k6b (e.2.1 k6a))]; rfl)
  refine AWP.mono (Q := fun e A' H' D' => e = .normal ∧ akeep [1, 40] A' = [(1, .ptr H.length 0), (40, .bool false)] ∧ H' = H ++ [.box t.enc] ∧ D' = []) ?_ fun e A' H' D' hq => ?_
  · by_cases k7 : t.kind = 1
    · have k7d : decide (t.kind = 1) = true := decide_eq_true k7
      refine awp_drawn [0, 1, 0, 0, 0, 1, 0, 0, 0, 0, 1, 0, 0, 1, 0, 1, 0, 0, 0, 0, 1, 0, 0, 0, 0, 1, 0, 0, 0, 0, 1, 0, 0, 0, 1, 0, 0, 0] [0, 1, 3, 7, 15, 31, 63, 127, 255, 511, 1023, 2047, 511, 4607, 12799, 29183, 65535, 131071, 262143, 524287, 1048575, 2097151, 4194303, 8388607, 16777215, 33554431, 67108863, 134217727, 268435455, 536870911, 1073741823, 2147483647, 4294967295, 8589934591, 17179869183, 34359738367, 68719476735, 137438953471] mixed rfl (by kernel_rfl) ?_
      refine dops_run 13 (by simp only [fwA, ↓reduceIte, Nat.reduceAdd, Nat.reduceMul, Nat.reduceEqDiff, Nat.reduceLT, Nat.reduceLeDiff, reduceCtorEq, fl24_0, ti3, fl24_3, ti22, un22, el57, ar57, fl24_2, ti2, Tm.fw, List.length_map, h0, hsh, decide_true, decide_false, Bool.not_true, Bool.not_false, k1, k2, hin, gt, if_pos, and_self, k3, k4, k5, k7d] <;> rfl) ?_
      refine dops_run 13 (by simp only [fwA, ↓reduceIte, Nat.reduceAdd, Nat.reduceMul, Nat.reduceEqDiff, Nat.reduceLT, Nat.reduceLeDiff, reduceCtorEq, fl24_0, ti3, fl24_3, ti22, un22, el57, ar57, fl24_2, ti2, Tm.fw, List.length_map, h0, hsh, decide_true, decide_false, Bool.not_true, Bool.not_false, k1, k2, hin, gt, if_pos, and_self, k3, k4, k5, k7d] <;> rfl) ?_
      refine dops_run 12 (by simp only [fwA, ↓reduceIte, Nat.reduceAdd, Nat.reduceMul, Nat.reduceEqDiff, Nat.reduceLT, Nat.reduceLeDiff, reduceCtorEq, fl24_0, ti3, fl24_3, ti22, un22, el57, ar57, fl24_2, ti2, Tm.fw, List.length_map, h0, hsh, decide_true, decide_false, Bool.not_true, Bool.not_false, k1, k2, hin, gt, if_pos, and_self, k3, k4, k5, k7d] <;> rfl) ?_
      refine dops_end ?_
      exact ⟨rfl, by simp [akeep, alook, aput, ev], rfl, rfl⟩
    · have k8 : t.n = 0 := k6.resolve_left k7
      refine awp_drawn [0, 1, 0, 0, 0, 1, 0, 0, 0, 0, 1, 0, 0, 1, 0, 1, 0, 0, 0, 0, 1, 0, 0, 0, 0, 1, 0, 0, 0, 0, 1, 0, 0, 0, 1, 0, 0, 0] [0, 1, 3, 7, 15, 31, 63, 127, 255, 511, 1023, 2047, 511, 4607, 12799, 29183, 65535, 131071, 262143, 524287, 1048575, 2097151, 4194303, 8388607, 16777215, 33554431, 67108863, 134217727, 268435455, 536870911, 1073741823, 2147483647, 4294967295, 8589934591, 17179869183, 34359738367, 68719476735, 137438953471] mixed rfl (by kernel_rfl) ?_
      refine dops_run 13 (by simp only [fwA, ↓reduceIte, Nat.reduceAdd, Nat.reduceMul, Nat.reduceEqDiff, Nat.reduceLT, Nat.reduceLeDiff, reduceCtorEq, fl24_0, ti3, fl24_3, ti22, un22, el57, ar57, fl24_2, ti2, Tm.fw, List.length_map, h0, hsh, decide_true, decide_false, Bool.not_true, Bool.not_false, k1, k2, hin, gt, if_pos, and_self, k3, k4, k5, k7, k8, Int.reduceLT, Int.reduceLE] <;> rfl) ?_
      refine dops_run 13 (by simp only [fwA, ↓reduceIte, Nat.reduceAdd, Nat.reduceMul, Nat.reduceEqDiff, Nat.reduceLT, Nat.reduceLeDiff, reduceCtorEq, fl24_0, ti3, fl24_3, ti22, un22, el57, ar57, fl24_2, ti2, Tm.fw, List.length_map, h0, hsh, decide_true, decide_false, Bool.not_true, Bool.not_false, k1, k2, hin, gt, if_pos, and_self, k3, k4, k5, k7, k8, Int.reduceLT, Int.reduceLE] <;> rfl) ?_
      refine dops_run 12 (by simp only [fwA, ↓reduceIte, Nat.reduceAdd, Nat.reduceMul, Nat.reduceEqDiff, Nat.reduceLT, Nat.reduceLeDiff, reduceCtorEq, fl24_0, ti3, fl24_3, ti22, un22, el57, ar57, fl24_2, ti2, Tm.fw, List.length_map, h0, hsh, decide_true, decide_false, Bool.not_true, Bool.not_false, k1, k2, hin, gt, if_pos, and_self, k3, k4, k5, k7, k8, Int.reduceLT, Int.reduceLE] <;> rfl) ?_
      refine dops_end ?_
      exact ⟨rfl, by simp [akeep, alook, aput, ev], rfl, rfl⟩
  obtain ⟨rfl, hA, rfl, rfl⟩ := hq
  refine awp_keep _ hA ?_
  have hnm : decide ((t.kids.length : Int) = m ∧ (t.kind ≠ 1 → t.n = 0) ∧ 0 ≤ t.n ∧ t.n < 2147483648 ∧ nmOk t) = decide (nmOk t) := decide_eq_decide.2 ⟨fun h => h.2.2.2.2, fun h => ⟨k3, fun a => k6.resolve_left a, by omega, by omega, h⟩⟩
  rw [hnm]
  refine awp_cond (b := false) rfl (awp_skip ?_)
  have hbk : t.binder = true → ¬ t.kind = 12 := fun kb h => by unfold Tm.binder at kb; rw [h] at kb; revert kb; decide
  have hw : t.binder = true ∨ t.kind = 2 → decide (nmOk t) = decide (wordP t.name) := fun kb => decide_eq_decide.2 (by unfold nmOk; rw [if_neg (kb.elim hbk fun h => by omega), if_pos (Or.comm.1 kb)])
  refine awp_seq ?_
  refine awp_block ?_
  refine awp_seq ?_
  refine AWP.mono (Q := fun e A' H' D' => e = .normal ∧ akeep [1, 41] A' = [(1, .ptr H.length 0), (41, .bool (t.binder || decide (t.kind = 2)))] ∧ H' = H ++ [.box t.enc] ∧ D' = []) ?_ fun e A' H' D' hq => ?_
  · -- region 3
    refine awp_region rfl ?_
    refine aops_run 1 (by simp only [fwA, ↓reduceIte, Nat.reduceAdd, Nat.reduceMul, Nat.reduceEqDiff, Nat.reduceLT, Nat.reduceLeDiff, reduceCtorEq, ti24, Tm.fw] <;> rfl) ?_
    refine aops_fn rfl rfl rfl en22 (c22 Γ t) ?_
    cases hb : t.binder with
    | true =>
      refine aops_run 6 (by simp only [fwA, ↓reduceIte, Nat.reduceAdd, Nat.reduceMul, Nat.reduceEqDiff, Nat.reduceLT, Nat.reduceLeDiff, reduceCtorEq, fl24_0, ti3, Tm.fw] <;> rfl) ?_
      exact ⟨rfl, by simp [akeep, alook, aput, ev], rfl, rfl⟩
    | false =>
      refine aops_run 6 (by simp only [fwA, ↓reduceIte, Nat.reduceAdd, Nat.reduceMul, Nat.reduceEqDiff, Nat.reduceLT, Nat.reduceLeDiff, reduceCtorEq, fl24_0, ti3, Tm.fw] <;> rfl) ?_
      exact ⟨rfl, by simp [akeep, alook, aput, ev], rfl, rfl⟩
  obtain ⟨rfl, hA, rfl, rfl⟩ := hq
  refine awp_keep _ hA ?_
  refine awp_cond (by simp only [fwA, ↓reduceIte, Nat.reduceAdd, Nat.reduceMul, Nat.reduceEqDiff, Nat.reduceLT, Nat.reduceLeDiff, reduceCtorEq] <;> rfl) ?_
  by_cases kb : t.binder = true ∨ t.kind = 2
  · have hbt : (t.binder || decide (t.kind = 2)) = true := by rcases kb with kb | kb <;> simp [kb]
    simp only [hbt, ↓reduceIte]
    rw [hw kb]
    refine awp_seq ?_
    refine awp_region rfl ?_
    refine aops_run 2 (by simp only [fwA, ↓reduceIte, Nat.reduceAdd, Nat.reduceMul, Nat.reduceEqDiff, Nat.reduceLT, Nat.reduceLeDiff, reduceCtorEq, fl24_1, ti9, Tm.fw] <;> rfl) ?_
    refine aops_fn rfl rfl rfl en37 (c37 Γ t.name) ?_
    by_cases h1 : nameP t.name
    rotate_left
    · refine aops_run 7 (by simp only [fwA, ↓reduceIte, Nat.reduceAdd, Nat.reduceMul, Nat.reduceEqDiff, Nat.reduceLT, Nat.reduceLeDiff, reduceCtorEq, h1, decide_false] <;> rfl) ?_
      exact awp_ret (gives_end (.inl rfl) _ (by rw [decide_eq_false (fun e => h1 e.1)]; rfl))
    refine aops_run 3 (by simp only [fwA, ↓reduceIte, Nat.reduceAdd, Nat.reduceMul, Nat.reduceEqDiff, Nat.reduceLT, Nat.reduceLeDiff, reduceCtorEq, fl24_1, ti9, Tm.fw, h1, decide_true] <;> rfl) ?_
    refine aops_fnIf rfl rfl rfl rfl rfl en38 (c38 Γ hΓ t.name) ?_
    by_cases h2 : t.name ∈ kws
    · refine aops_run 3 (by simp only [fwA, ↓reduceIte, Nat.reduceAdd, Nat.reduceMul, Nat.reduceEqDiff, Nat.reduceLT, Nat.reduceLeDiff, reduceCtorEq, h2, decide_true] <;> rfl) ?_
      exact awp_ret (gives_end (.inl rfl) _ (by rw [decide_eq_false (fun e => e.2 h2)]; rfl))
    · refine aops_run 3 (by simp only [fwA, ↓reduceIte, Nat.reduceAdd, Nat.reduceMul, Nat.reduceEqDiff, Nat.reduceLT, Nat.reduceLeDiff, reduceCtorEq, h2, decide_false] <;> rfl) ?_
      exact awp_ret (gives_end (.inl rfl) _ (by rw [decide_eq_true (show wordP t.name from ⟨h1, h2⟩)]; rfl))
  have hbf : (t.binder || decide (t.kind = 2)) = false := by
    have a1 : t.binder = false := by cases h : t.binder with | false => rfl | true => exact absurd (.inl h) kb
    have a2 : decide (t.kind = 2) = false := decide_eq_false fun h => kb (.inr h)
    rw [a1, a2]; rfl
  simp only [hbf, Bool.false_eq_true, ↓reduceIte]
  refine awp_seq ?_
  -- region 5
  refine awp_run rfl (by simp only [fwA, ↓reduceIte, Nat.reduceAdd, Nat.reduceMul, Nat.reduceEqDiff, Nat.reduceLT, Nat.reduceLeDiff, reduceCtorEq, fl24_0, ti3, Tm.fw] <;> rfl) ?_
  refine awp_cond (by simp only [fwA, ↓reduceIte, Nat.reduceAdd, Nat.reduceMul, Nat.reduceEqDiff, Nat.reduceLT, Nat.reduceLeDiff, reduceCtorEq] <;> rfl) ?_
  by_cases k12 : t.kind = 12
  · simp only [k12, decide_true, ↓reduceIte]
    have hw2 : decide (nmOk t) = decide (t.name ∈ opNs) := decide_eq_decide.2 (by unfold nmOk; rw [if_pos k12])
    rw [hw2]
    refine awp_seq ?_
    refine awp_drawn [0, 0, 1, 0, 0] [0, 0, 2, 7, 15] mixed rfl (by kernel_rfl) ?_
    refine dops_one _ rfl rfl (fun H A' hev => os_sliceArr rfl ar59 ((hev (.global 1) (by simp [Op.operands])).trans (show ev Γ _ (.global 1) = _ from hΓ.2.1)) rfl (by decide) (by decide) ⟨rfl, rfl⟩) ?_
    refine dops_run 2 (by simp only [fwA, ↓reduceIte, Nat.reduceAdd, Nat.reduceMul, Nat.reduceEqDiff, Nat.reduceLT, Nat.reduceLeDiff, reduceCtorEq, fl24_1, ti9, Tm.fw] <;> rfl) ?_
    refine dops_fn rfl rfl rfl rfl en39 (c39 Γ opNs true t.name) ?_
    refine dops_run 1 (by simp only [fwA, ↓reduceIte, Nat.reduceAdd, Nat.reduceMul, Nat.reduceEqDiff, Nat.reduceLT, Nat.reduceLeDiff, reduceCtorEq] <;> rfl) ?_
    refine dops_end ?_
    exact awp_ret (gives_end (.inl rfl) _ rfl)
  simp only [k12, decide_false, Bool.false_eq_true, ↓reduceIte]
  refine awp_skip ?_
  have hw3 : decide (nmOk t) = decide (t.name = []) := decide_eq_decide.2 (by unfold nmOk; rw [if_neg k12, if_neg (fun h => kb (Or.comm.1 h))])
  rw [hw3]
  simp only [Post.block, Post.then, ↓reduceIte]
  refine awp_seq ?_
  -- region 7
  refine awp_run rfl (by simp only [fwA, ↓reduceIte, Nat.reduceAdd, Nat.reduceMul, Nat.reduceEqDiff, Nat.reduceLT, Nat.reduceLeDiff, reduceCtorEq, fl24_1, ti9, Tm.fw] <;> rfl) ?_
  exact awp_ret (gives_end (.inl rfl) _ rfl)


end Go.Proofs.YtlbmlhpjibgepaaDoor

/- The contracts of what tells whether terms may be: the document's, and the program's over all nodes. -/
namespace Go.Proofs.YtlbmlhpjibgepaaDoor
set_option linter.unusedVariables false
set_option linter.unusedSimpArgs false
set_option maxRecDepth 100000
open Go.RowKit Fw

theorem many_len {t : Tm} (h : manyI t.kind = t.kids.length) : (1 ≤ t.kind ∧ t.kind < 14) ∧ (t.kids.length : Int) = kidsTab.getD t.kind.toNat 0 := by
  unfold manyI at h
  split at h
  · exact ⟨by assumption, h.symm⟩
  · omega
theorem many_node {t : Tm} (h : nodeP t) : manyI t.kind = t.kids.length := by
  unfold manyI; rw [if_pos h.1]; exact h.2.1.symm

/-- chancelref03.node -/
theorem c41 (Γ : Nat → PV) (t : Tm) : Gives Tryd.prog Γ 41 [.agg t.enc] (.bool (decide (nodeP t))) := by
  refine fn_of_awp Tryd.func41 rfl (by simp [Tryd.f41]) rfl fun H => ?_
  refine awp_seq ?_
  refine awp_run rfl (by simp only [fwA, ↓reduceIte, Nat.reduceAdd, Nat.reduceMul, Nat.reduceEqDiff, Nat.reduceLT, Nat.reduceLeDiff, reduceCtorEq, Tm.fw] <;> rfl) ?_
  refine awp_seq ?_
  refine awp_seq ?_
  by_cases k1 : manyI t.kind = t.kids.length
  rotate_left
  · refine awp_drawn [0, 1, 0, 0, 1, 0, 0, 0, 0, 1, 0, 0, 0, 1, 0, 0, 0, 0, 0, 1, 0, 0, 0, 0, 1, 0, 0] [0, 1, 3, 0, 8, 24, 63, 127, 255, 511, 1023, 2047, 4095, 8191, 16383, 32767, 65535, 131071, 262143, 524287, 1048575, 2097151, 4194303, 8388607, 16777215, 33554431, 67108863] mixed rfl (by kernel_rfl) ?_
    refine dops_run 2 (by simp only [fwA, ↓reduceIte, Nat.reduceAdd, Nat.reduceMul, Nat.reduceEqDiff, Nat.reduceLT, Nat.reduceLeDiff, reduceCtorEq, fl28_0, ti3, Tm.fw] <;> rfl) ?_
    refine dops_fn rfl rfl rfl rfl en47 (c47 Γ t.kind) ?_
    refine dops_run 12 (by simp only [fwA, ↓reduceIte, Nat.reduceAdd, Nat.reduceMul, Nat.reduceEqDiff, Nat.reduceLT, Nat.reduceLeDiff, reduceCtorEq, fl28_3, ti26, un26, fl28_0, ti3, fl28_2, ti2, Tm.fw, List.length_map, decide_true, decide_false, Bool.not_true, Bool.not_false, k1] <;> rfl) ?_
    refine dops_run 12 (by simp only [fwA, ↓reduceIte, Nat.reduceAdd, Nat.reduceMul, Nat.reduceEqDiff, Nat.reduceLT, Nat.reduceLeDiff, reduceCtorEq, fl28_3, ti26, un26, fl28_0, ti3, fl28_2, ti2, Tm.fw, List.length_map, decide_true, decide_false, Bool.not_true, Bool.not_false, k1] <;> rfl) ?_
    refine dops_end ?_
    refine awp_cond (b := true) (by simp [alook, aput, ev]) ?_
    refine awp_seq (awp_run rfl (by simp only [fwA, ↓reduceIte, Nat.reduceAdd, Nat.reduceMul, Nat.reduceEqDiff, Nat.reduceLT, Nat.reduceLeDiff, reduceCtorEq] <;> rfl) (awp_ret ?_))
    exact gives_end (.inl rfl) _ (by rw [decide_eq_false (fun e => k1 (many_node e))]; rfl)
  by_cases k2 : t.kind = 1 ∨ t.n = 0
  rotate_left
  · have k2a : ¬ t.kind = 1 := fun h => k2 (.inl h)
    have k2b : ¬ t.n = 0 := fun h => k2 (.inr h)
    refine awp_drawn [0, 1, 0, 0, 1, 0, 0, 0, 0, 1, 0, 0, 0, 1, 0, 0, 0, 0, 0, 1, 0, 0, 0, 0, 1, 0, 0] [0, 1, 3, 0, 8, 24, 63, 127, 255, 511, 1023, 2047, 4095, 8191, 16383, 32767, 65535, 131071, 262143, 524287, 1048575, 2097151, 4194303, 8388607, 16777215, 33554431, 67108863] mixed rfl (by kernel_rfl) ?_
    refine dops_run 2 (by simp only [fwA, ↓reduceIte, Nat.reduceAdd, Nat.reduceMul, Nat.reduceEqDiff, Nat.reduceLT, Nat.reduceLeDiff, reduceCtorEq, fl28_0, ti3, Tm.fw] <;> rfl) ?_
    refine dops_fn rfl rfl rfl rfl en47 (c47 Γ t.kind) ?_
    refine dops_run 12 (by simp only [fwA, ↓reduceIte, Nat.reduceAdd, Nat.reduceMul, Nat.reduceEqDiff, Nat.reduceLT, Nat.reduceLeDiff, reduceCtorEq, fl28_3, ti26, un26, fl28_0, ti3, fl28_2, ti2, Tm.fw, List.length_map, decide_true, decide_false, Bool.not_true, Bool.not_false, k1, k2a, k2b] <;> rfl) ?_
    refine dops_run 12 (by simp only [fwA, ↓reduceIte, Nat.reduceAdd, Nat.reduceMul, Nat.reduceEqDiff, Nat.reduceLT, Nat.reduceLeDiff, reduceCtorEq, fl28_3, ti26, un26, fl28_0, ti3, fl28_2, ti2, Tm.fw, List.length_map, decide_true, decide_false, Bool.not_true, Bool.not_false, k1, k2a, k2b] <;> rfl) ?_
    refine dops_end ?_
    refine awp_cond (b := true) (by simp [alook, aput, ev]) ?_
    refine awp_seq (awp_run rfl (by simp only [fwA, ↓reduceIte, Nat.reduceAdd, Nat.reduceMul, Nat.reduceEqDiff, Nat.reduceLT, Nat.reduceLeDiff, reduceCtorEq] <;> rfl) (awp_ret ?_))
    exact gives_end (.inl rfl) _ (by rw [decide_eq_false (fun e => k2b (e.2.2.1 k2a))]; rfl)
  have kk : decide (t.kind = 1) = true ∨ decide (t.kind = 1) = false ∧ decide (t.n = 0) = true := by
    by_cases h : t.kind = 1
    · exact .inl (decide_eq_true h)
    · exact .inr ⟨decide_eq_false h, decide_eq_true (k2.resolve_left h)⟩
  by_cases k3 : t.n < 0
  · have k3d := decide_eq_true k3
    rcases kk with kk | ⟨kk, kz⟩
    · refine awp_drawn [0, 1, 0, 0, 1, 0, 0, 0, 0, 1, 0, 0, 0, 1, 0, 0, 0, 0, 0, 1, 0, 0, 0, 0, 1, 0, 0] [0, 1, 3, 0, 8, 24, 63, 127, 255, 511, 1023, 2047, 4095, 8191, 16383, 32767, 65535, 131071, 262143, 524287, 1048575, 2097151, 4194303, 8388607, 16777215, 33554431, 67108863] mixed rfl (by kernel_rfl) ?_
      refine dops_run 2 (by simp only [fwA, ↓reduceIte, Nat.reduceAdd, Nat.reduceMul, Nat.reduceEqDiff, Nat.reduceLT, Nat.reduceLeDiff, reduceCtorEq, fl28_0, ti3, Tm.fw] <;> rfl) ?_
      refine dops_fn rfl rfl rfl rfl en47 (c47 Γ t.kind) ?_
      refine dops_run 12 (by simp only [fwA, ↓reduceIte, Nat.reduceAdd, Nat.reduceMul, Nat.reduceEqDiff, Nat.reduceLT, Nat.reduceLeDiff, reduceCtorEq, fl28_3, ti26, un26, fl28_0, ti3, fl28_2, ti2, Tm.fw, List.length_map, decide_true, decide_false, Bool.not_true, Bool.not_false, k1, kk, k3d] <;> rfl) ?_
      refine dops_run 12 (by simp only [fwA, ↓reduceIte, Nat.reduceAdd, Nat.reduceMul, Nat.reduceEqDiff, Nat.reduceLT, Nat.reduceLeDiff, reduceCtorEq, fl28_3, ti26, un26, fl28_0, ti3, fl28_2, ti2, Tm.fw, List.length_map, decide_true, decide_false, Bool.not_true, Bool.not_false, k1, kk, k3d] <;> rfl) ?_
      refine dops_end ?_
      refine awp_cond (b := true) (by simp [alook, aput, ev]) ?_
      refine awp_seq (awp_run rfl (by simp only [fwA, ↓reduceIte, Nat.reduceAdd, Nat.reduceMul, Nat.reduceEqDiff, Nat.reduceLT, Nat.reduceLeDiff, reduceCtorEq] <;> rfl) (awp_ret ?_))
      exact gives_end (.inl rfl) _ (by rw [decide_eq_false (fun e => absurd e.2.2.2.1 (by omega))]; rfl)
    · refine awp_drawn [0, 1, 0, 0, 1, 0, 0, 0, 0, 1, 0, 0, 0, 1, 0, 0, 0, 0, 0, 1, 0, 0, 0, 0, 1, 0, 0] [0, 1, 3, 0, 8, 24, 63, 127, 255, 511, 1023, 2047, 4095, 8191, 16383, 32767, 65535, 131071, 262143, 524287, 1048575, 2097151, 4194303, 8388607, 16777215, 33554431, 67108863] mixed rfl (by kernel_rfl) ?_
      refine dops_run 2 (by simp only [fwA, ↓reduceIte, Nat.reduceAdd, Nat.reduceMul, Nat.reduceEqDiff, Nat.reduceLT, Nat.reduceLeDiff, reduceCtorEq, fl28_0, ti3, Tm.fw] <;> rfl) ?_
      refine dops_fn rfl rfl rfl rfl en47 (c47 Γ t.kind) ?_
      refine dops_run 12 (by simp only [fwA, ↓reduceIte, Nat.reduceAdd, Nat.reduceMul, Nat.reduceEqDiff, Nat.reduceLT, Nat.reduceLeDiff, reduceCtorEq, fl28_3, ti26, un26, fl28_0, ti3, fl28_2, ti2, Tm.fw, List.length_map, decide_true, decide_false, Bool.not_true, Bool.not_false, k1, kk, kz, k3d] <;> rfl) ?_
      refine dops_run 12 (by simp only [fwA, ↓reduceIte, Nat.reduceAdd, Nat.reduceMul, Nat.reduceEqDiff, Nat.reduceLT, Nat.reduceLeDiff, reduceCtorEq, fl28_3, ti26, un26, fl28_0, ti3, fl28_2, ti2, Tm.fw, List.length_map, decide_true, decide_false, Bool.not_true, Bool.not_false, k1, kk, kz, k3d] <;> rfl) ?_
      refine dops_end ?_
      refine awp_cond (b := true) (by simp [alook, aput, ev]) ?_
      refine awp_seq (awp_run rfl (by simp only [fwA, ↓reduceIte, Nat.reduceAdd, Nat.reduceMul, Nat.reduceEqDiff, Nat.reduceLT, Nat.reduceLeDiff, reduceCtorEq] <;> rfl) (awp_ret ?_))
      exact gives_end (.inl rfl) _ (by rw [decide_eq_false (fun e => absurd e.2.2.2.1 (by omega))]; rfl)
  have k3d := decide_eq_false k3
  by_cases k4 : 2147483648 ≤ t.n
  · have k4d := decide_eq_true k4
    rcases kk with kk | ⟨kk, kz⟩
    · refine awp_drawn [0, 1, 0, 0, 1, 0, 0, 0, 0, 1, 0, 0, 0, 1, 0, 0, 0, 0, 0, 1, 0, 0, 0, 0, 1, 0, 0] [0, 1, 3, 0, 8, 24, 63, 127, 255, 511, 1023, 2047, 4095, 8191, 16383, 32767, 65535, 131071, 262143, 524287, 1048575, 2097151, 4194303, 8388607, 16777215, 33554431, 67108863] mixed rfl (by kernel_rfl) ?_
      refine dops_run 2 (by simp only [fwA, ↓reduceIte, Nat.reduceAdd, Nat.reduceMul, Nat.reduceEqDiff, Nat.reduceLT, Nat.reduceLeDiff, reduceCtorEq, fl28_0, ti3, Tm.fw] <;> rfl) ?_
      refine dops_fn rfl rfl rfl rfl en47 (c47 Γ t.kind) ?_
      refine dops_run 12 (by simp only [fwA, ↓reduceIte, Nat.reduceAdd, Nat.reduceMul, Nat.reduceEqDiff, Nat.reduceLT, Nat.reduceLeDiff, reduceCtorEq, fl28_3, ti26, un26, fl28_0, ti3, fl28_2, ti2, Tm.fw, List.length_map, decide_true, decide_false, Bool.not_true, Bool.not_false, k1, kk, k3d, k4d] <;> rfl) ?_
      refine dops_run 12 (by simp only [fwA, ↓reduceIte, Nat.reduceAdd, Nat.reduceMul, Nat.reduceEqDiff, Nat.reduceLT, Nat.reduceLeDiff, reduceCtorEq, fl28_3, ti26, un26, fl28_0, ti3, fl28_2, ti2, Tm.fw, List.length_map, decide_true, decide_false, Bool.not_true, Bool.not_false, k1, kk, k3d, k4d] <;> rfl) ?_
      refine dops_end ?_
      refine awp_cond (b := true) (by simp [alook, aput, ev]) ?_
      refine awp_seq (awp_run rfl (by simp only [fwA, ↓reduceIte, Nat.reduceAdd, Nat.reduceMul, Nat.reduceEqDiff, Nat.reduceLT, Nat.reduceLeDiff, reduceCtorEq] <;> rfl) (awp_ret ?_))
      exact gives_end (.inl rfl) _ (by rw [decide_eq_false (fun e => absurd e.2.2.2.2.1 (by omega))]; rfl)
    · refine awp_drawn [0, 1, 0, 0, 1, 0, 0, 0, 0, 1, 0, 0, 0, 1, 0, 0, 0, 0, 0, 1, 0, 0, 0, 0, 1, 0, 0] [0, 1, 3, 0, 8, 24, 63, 127, 255, 511, 1023, 2047, 4095, 8191, 16383, 32767, 65535, 131071, 262143, 524287, 1048575, 2097151, 4194303, 8388607, 16777215, 33554431, 67108863] mixed rfl (by kernel_rfl) ?_
      refine dops_run 2 (by simp only [fwA, ↓reduceIte, Nat.reduceAdd, Nat.reduceMul, Nat.reduceEqDiff, Nat.reduceLT, Nat.reduceLeDiff, reduceCtorEq, fl28_0, ti3, Tm.fw] <;> rfl) ?_
      refine dops_fn rfl rfl rfl rfl en47 (c47 Γ t.kind) ?_
      refine dops_run 12 (by simp only [fwA, ↓reduceIte, Nat.reduceAdd, Nat.reduceMul, Nat.reduceEqDiff, Nat.reduceLT, Nat.reduceLeDiff, reduceCtorEq, fl28_3, ti26, un26, fl28_0, ti3, fl28_2, ti2, Tm.fw, List.length_map, decide_true, decide_false, Bool.not_true, Bool.not_false, k1, kk, kz, k3d, k4d] <;> rfl) ?_
      refine dops_run 12 (by simp only [fwA, ↓reduceIte, Nat.reduceAdd, Nat.reduceMul, Nat.reduceEqDiff, Nat.reduceLT, Nat.reduceLeDiff, reduceCtorEq, fl28_3, ti26, un26, fl28_0, ti3, fl28_2, ti2, Tm.fw, List.length_map, decide_true, decide_false, Bool.not_true, Bool.not_false, k1, kk, kz, k3d, k4d] <;> rfl) ?_
      refine dops_end ?_
      refine awp_cond (b := true) (by simp [alook, aput, ev]) ?_
      refine awp_seq (awp_run rfl (by simp only [fwA, ↓reduceIte, Nat.reduceAdd, Nat.reduceMul, Nat.reduceEqDiff, Nat.reduceLT, Nat.reduceLeDiff, reduceCtorEq] <;> rfl) (awp_ret ?_))
      exact gives_end (.inl rfl) _ (by rw [decide_eq_false (fun e => absurd e.2.2.2.2.1 (by omega))]; rfl)
  have k4d := decide_eq_false k4
  refine AWP.mono (Q := fun e A' H' D' => e = .normal ∧ akeep [1, 29] A' = [(1, .ptr H.length 0), (29, .bool false)] ∧ H' = H ++ [.box t.enc] ∧ D' = []) ?_ fun e A' H' D' hq => ?_
  · rcases kk with kk | ⟨kk, kz⟩
    · refine awp_drawn [0, 1, 0, 0, 1, 0, 0, 0, 0, 1, 0, 0, 0, 1, 0, 0, 0, 0, 0, 1, 0, 0, 0, 0, 1, 0, 0] [0, 1, 3, 0, 8, 24, 63, 127, 255, 511, 1023, 2047, 4095, 8191, 16383, 32767, 65535, 131071, 262143, 524287, 1048575, 2097151, 4194303, 8388607, 16777215, 33554431, 67108863] mixed rfl (by kernel_rfl) ?_
      refine dops_run 2 (by simp only [fwA, ↓reduceIte, Nat.reduceAdd, Nat.reduceMul, Nat.reduceEqDiff, Nat.reduceLT, Nat.reduceLeDiff, reduceCtorEq, fl28_0, ti3, Tm.fw] <;> rfl) ?_
      refine dops_fn rfl rfl rfl rfl en47 (c47 Γ t.kind) ?_
      refine dops_run 12 (by simp only [fwA, ↓reduceIte, Nat.reduceAdd, Nat.reduceMul, Nat.reduceEqDiff, Nat.reduceLT, Nat.reduceLeDiff, reduceCtorEq, fl28_3, ti26, un26, fl28_0, ti3, fl28_2, ti2, Tm.fw, List.length_map, decide_true, decide_false, Bool.not_true, Bool.not_false, k1, kk, k3d, k4d] <;> rfl) ?_
      refine dops_run 12 (by simp only [fwA, ↓reduceIte, Nat.reduceAdd, Nat.reduceMul, Nat.reduceEqDiff, Nat.reduceLT, Nat.reduceLeDiff, reduceCtorEq, fl28_3, ti26, un26, fl28_0, ti3, fl28_2, ti2, Tm.fw, List.length_map, decide_true, decide_false, Bool.not_true, Bool.not_false, k1, kk, k3d, k4d] <;> rfl) ?_
      refine dops_end ?_
      exact ⟨rfl, by simp [akeep, alook, aput, ev], rfl, rfl⟩
    · refine awp_drawn [0, 1, 0, 0, 1, 0, 0, 0, 0, 1, 0, 0, 0, 1, 0, 0, 0, 0, 0, 1, 0, 0, 0, 0, 1, 0, 0] [0, 1, 3, 0, 8, 24, 63, 127, 255, 511, 1023, 2047, 4095, 8191, 16383, 32767, 65535, 131071, 262143, 524287, 1048575, 2097151, 4194303, 8388607, 16777215, 33554431, 67108863] mixed rfl (by kernel_rfl) ?_
      refine dops_run 2 (by simp only [fwA, ↓reduceIte, Nat.reduceAdd, Nat.reduceMul, Nat.reduceEqDiff, Nat.reduceLT, Nat.reduceLeDiff, reduceCtorEq, fl28_0, ti3, Tm.fw] <;> rfl) ?_
      refine dops_fn rfl rfl rfl rfl en47 (c47 Γ t.kind) ?_
      refine dops_run 12 (by simp only [fwA, ↓reduceIte, Nat.reduceAdd, Nat.reduceMul, Nat.reduceEqDiff, Nat.reduceLT, Nat.reduceLeDiff, reduceCtorEq, fl28_3, ti26, un26, fl28_0, ti3, fl28_2, ti2, Tm.fw, List.length_map, decide_true, decide_false, Bool.not_true, Bool.not_false, k1, kk, kz, k3d, k4d] <;> rfl) ?_
      refine dops_run 12 (by simp only [fwA, ↓reduceIte, Nat.reduceAdd, Nat.reduceMul, Nat.reduceEqDiff, Nat.reduceLT, Nat.reduceLeDiff, reduceCtorEq, fl28_3, ti26, un26, fl28_0, ti3, fl28_2, ti2, Tm.fw, List.length_map, decide_true, decide_false, Bool.not_true, Bool.not_false, k1, kk, kz, k3d, k4d] <;> rfl) ?_
      refine dops_end ?_
      exact ⟨rfl, by simp [akeep, alook, aput, ev], rfl, rfl⟩
  obtain ⟨rfl, hA, rfl, rfl⟩ := hq
  refine awp_keep _ hA ?_
  obtain ⟨hm1, hm2⟩ := many_len k1
  have hnm : decide (nodeP t) = decide (nmOk t) := decide_eq_decide.2 ⟨fun h => h.2.2.2.2.2, fun h => ⟨hm1, hm2, fun a => k2.resolve_left a, by omega, by omega, h⟩⟩
  rw [hnm]
  refine awp_cond (b := false) rfl (awp_skip ?_)
  have hbk : t.binder = true → ¬ t.kind = 12 := fun kb h => by unfold Tm.binder at kb; rw [h] at kb; revert kb; decide
  refine awp_seq ?_
  refine awp_block ?_
  refine awp_seq ?_
  -- region 3
  refine awp_run rfl (by simp only [fwA, ↓reduceIte, Nat.reduceAdd, Nat.reduceMul, Nat.reduceEqDiff, Nat.reduceLT, Nat.reduceLeDiff, reduceCtorEq, fl28_0, ti3, Tm.fw] <;> rfl) ?_
  refine awp_cond (by simp only [fwA, ↓reduceIte, Nat.reduceAdd, Nat.reduceMul, Nat.reduceEqDiff, Nat.reduceLT, Nat.reduceLeDiff, reduceCtorEq] <;> rfl) ?_
  by_cases k12 : t.kind = 12
  · simp only [k12, decide_true, ↓reduceIte]
    have hw2 : decide (nmOk t) = decide (t.name ∈ opNs) := decide_eq_decide.2 (by unfold nmOk; rw [if_pos k12])
    rw [hw2]
    refine awp_seq ?_
    -- region 4
    refine awp_region rfl ?_
    refine aops_run 3 (by simp only [fwA, ↓reduceIte, Nat.reduceAdd, Nat.reduceMul, Nat.reduceEqDiff, Nat.reduceLT, Nat.reduceLeDiff, reduceCtorEq, un37, ti9, fl28_1, Tm.fw, Bool.and_self] <;> rfl) ?_
    refine aops_fn rfl rfl rfl en48 (c48 Γ opNs true t.name) ?_
    refine aops_run 1 (by simp only [fwA, ↓reduceIte, Nat.reduceAdd, Nat.reduceMul, Nat.reduceEqDiff, Nat.reduceLT, Nat.reduceLeDiff, reduceCtorEq] <;> rfl) ?_
    exact awp_ret (gives_end (.inl rfl) _ rfl)
  simp only [k12, decide_false, Bool.false_eq_true, ↓reduceIte]
  refine awp_seq ?_
  refine AWP.mono (Q := fun e A' H' D' => e = .normal ∧ akeep [1, 38] A' = [(1, .ptr H.length 0), (38, .bool (decide (t.kind = 2) || t.binder))] ∧ H' = H ++ [.box t.enc] ∧ D' = []) ?_ fun e A' H' D' hq => ?_
  · -- region 5
    refine awp_region rfl ?_
    by_cases kv : t.kind = 2
    · refine aops_run 8 (by simp only [fwA, ↓reduceIte, Nat.reduceAdd, Nat.reduceMul, Nat.reduceEqDiff, Nat.reduceLT, Nat.reduceLeDiff, reduceCtorEq, fl28_0, ti3, ti28, Tm.fw, kv, decide_true] <;> rfl) ?_
      exact ⟨rfl, by simp [akeep, alook, aput, ev, kv], rfl, rfl⟩
    refine aops_run 5 (by simp only [fwA, ↓reduceIte, Nat.reduceAdd, Nat.reduceMul, Nat.reduceEqDiff, Nat.reduceLT, Nat.reduceLeDiff, reduceCtorEq, fl28_0, ti3, ti28, Tm.fw, kv, decide_false] <;> rfl) ?_
    refine aops_fnIf rfl rfl rfl rfl rfl en23 (c23 Γ t) ?_
    refine aops_run 2 (by simp only [fwA, ↓reduceIte, Nat.reduceAdd, Nat.reduceMul, Nat.reduceEqDiff, Nat.reduceLT, Nat.reduceLeDiff, reduceCtorEq] <;> rfl) ?_
    exact ⟨rfl, by simp [akeep, alook, aput, ev, kv], rfl, rfl⟩
  obtain ⟨rfl, hA, rfl, rfl⟩ := hq
  refine awp_keep _ hA ?_
  refine awp_cond (by simp only [fwA, ↓reduceIte, Nat.reduceAdd, Nat.reduceMul, Nat.reduceEqDiff, Nat.reduceLT, Nat.reduceLeDiff, reduceCtorEq] <;> rfl) ?_
  by_cases kb : t.kind = 2 ∨ t.binder = true
  · have hbt : (decide (t.kind = 2) || t.binder) = true := by rcases kb with kb | kb <;> simp [kb]
    simp only [hbt, ↓reduceIte]
    have hw : decide (nmOk t) = decide (wordP t.name) := decide_eq_decide.2 (by unfold nmOk; rw [if_neg k12, if_pos kb])
    rw [hw]
    refine awp_seq ?_
    refine awp_region rfl ?_
    refine aops_run 2 (by simp only [fwA, ↓reduceIte, Nat.reduceAdd, Nat.reduceMul, Nat.reduceEqDiff, Nat.reduceLT, Nat.reduceLeDiff, reduceCtorEq, fl28_1, ti9, Tm.fw] <;> rfl) ?_
    refine aops_fn rfl rfl rfl en49 (c49 Γ t.name) ?_
    refine aops_run 1 (by simp only [fwA, ↓reduceIte, Nat.reduceAdd, Nat.reduceMul, Nat.reduceEqDiff, Nat.reduceLT, Nat.reduceLeDiff, reduceCtorEq] <;> rfl) ?_
    exact awp_ret (gives_end (.inl rfl) _ rfl)
  have hbf : (decide (t.kind = 2) || t.binder) = false := by
    have a1 : t.binder = false := by cases h : t.binder with | false => rfl | true => exact absurd (.inr h) kb
    have a2 : decide (t.kind = 2) = false := decide_eq_false fun h => kb (.inl h)
    rw [a1, a2]; rfl
  simp only [hbf, Bool.false_eq_true, ↓reduceIte]
  refine awp_skip ?_
  have hw3 : decide (nmOk t) = decide (t.name = []) := decide_eq_decide.2 (by unfold nmOk; rw [if_neg k12, if_neg kb])
  rw [hw3]
  simp only [Post.block, Post.then, ↓reduceIte]
  refine awp_seq ?_
  -- region 7
  refine awp_run rfl (by simp only [fwA, ↓reduceIte, Nat.reduceAdd, Nat.reduceMul, Nat.reduceEqDiff, Nat.reduceLT, Nat.reduceLeDiff, reduceCtorEq, fl28_1, ti9, Tm.fw] <;> rfl) ?_
  exact awp_ret (gives_end (.inl rfl) _ rfl)

/-- chancelref03.nodes -/
theorem c31 (Γ : Nat → PV) : ∀ t : Tm, Gives Tryd.prog Γ 31 [.agg t.enc] (.bool (decide (Nodes t))) := by
  refine Tm.ind fun t ih => ?_
  refine fn_of_awp Tryd.func31 rfl (by simp [Tryd.f31]) rfl fun H => ?_
  refine awp_seq ?_
  refine awp_run rfl (by simp only [fwA, ↓reduceIte, Nat.reduceAdd, Nat.reduceMul, Nat.reduceEqDiff, Nat.reduceLT, Nat.reduceLeDiff, reduceCtorEq] <;> rfl) ?_
  refine awp_seq ?_
  refine awp_seq ?_
  refine awp_region rfl ?_
  refine aops_run 1 (by simp only [fwA, ↓reduceIte, Nat.reduceAdd, Nat.reduceMul, Nat.reduceEqDiff, Nat.reduceLT, Nat.reduceLeDiff, reduceCtorEq, ti28, Tm.fw] <;> rfl) ?_
  refine aops_fn rfl rfl rfl en41 (c41 Γ t) ?_
  refine aops_run 1 (by simp only [fwA, ↓reduceIte, Nat.reduceAdd, Nat.reduceMul, Nat.reduceEqDiff, Nat.reduceLT, Nat.reduceLeDiff, reduceCtorEq] <;> rfl) ?_
  refine awp_cond (by simp only [fwA, ↓reduceIte, Nat.reduceAdd, Nat.reduceMul, Nat.reduceEqDiff, Nat.reduceLT, Nat.reduceLeDiff, reduceCtorEq] <;> rfl) ?_
  by_cases hn : nodeP t
  rotate_left
  · simp only [hn, decide_false, Bool.not_false, ↓reduceIte]
    refine awp_seq (awp_run rfl (by simp only [fwA, ↓reduceIte, Nat.reduceAdd, Nat.reduceMul, Nat.reduceEqDiff, Nat.reduceLT, Nat.reduceLeDiff, reduceCtorEq] <;> rfl) (awp_ret ?_))
    exact gives_end (.inl rfl) _ (by rw [decide_eq_false (fun e => hn e.node)]; rfl)
  simp only [hn, decide_true, Bool.not_true, Bool.false_eq_true, ↓reduceIte]
  refine awp_skip ?_
  refine awp_seq ?_
  refine awp_seq ?_
  refine awp_run rfl (by simp only [fwA, ↓reduceIte, Nat.reduceAdd, Nat.reduceMul, Nat.reduceEqDiff, Nat.reduceLT, Nat.reduceLeDiff, reduceCtorEq] <;> rfl) ?_
  refine awp_block ?_
  refine awp_for [1, 3] (fun i : Nat => [.ptr H.length 0, .int .i64 i]) (fun _ => H ++ [.box t.enc]) (fun i => t.kids.length - i) (fun i => i ≤ t.kids.length ∧ ∀ k ∈ t.kids.take i, Nodes k) 0 rfl rfl ⟨Nat.zero_le _, fun k hk => by cases hk⟩ fun i hs => ?_
  obtain ⟨hi, hp⟩ := hs
  refine awp_seq ?_
  refine awp_seq ?_
  refine awp_run rfl (by simp only [fwA, ↓reduceIte, Nat.reduceAdd, Nat.reduceMul, Nat.reduceEqDiff, Nat.reduceLT, Nat.reduceLeDiff, reduceCtorEq, fl28_3, ti26, un26, Tm.fw, List.length_map] <;> rfl) ?_
  refine awp_vlen 9 rfl fun hlen => ?_
  rw [List.length_map] at hlen
  refine awp_cond (by simp only [fwA, ↓reduceIte, Nat.reduceAdd, Nat.reduceMul, Nat.reduceEqDiff, Nat.reduceLT, Nat.reduceLeDiff, reduceCtorEq] <;> rfl) ?_
  by_cases hc : (i : Int) < t.kids.length
  rotate_left
  · simp only [hc, decide_false, Bool.false_eq_true, ↓reduceIte]
    refine awp_exit ?_
    have hie : i = t.kids.length := by omega
    rw [hie, List.take_length] at hp
    refine awp_seq (awp_run rfl (by simp only [fwA, ↓reduceIte, Nat.reduceAdd, Nat.reduceMul, Nat.reduceEqDiff, Nat.reduceLT, Nat.reduceLeDiff, reduceCtorEq] <;> rfl) (awp_ret ?_))
    exact gives_end (.inl rfl) _ (by rw [decide_eq_true (Nodes.mk t hn hp)]; rfl)
  simp only [hc, decide_true, ↓reduceIte]
  refine awp_skip ?_
  have hia : i < t.kids.length := by omega
  have ga : t.kids[i]? = some t.kids[i] := List.getElem?_eq_getElem hia
  refine awp_seq ?_
  refine awp_block ?_
  refine awp_seq ?_
  refine awp_region rfl ?_
  refine aops_run 5 (by simp only [fwA, ↓reduceIte, Nat.reduceAdd, Nat.reduceMul, Nat.reduceEqDiff, Nat.reduceLT, Nat.reduceLeDiff, reduceCtorEq, fl28_3, ti26, el26, ti28, Tm.fw, List.getElem?_map, ga, Option.map_some, Int.natCast_nonneg] <;> rfl) ?_
  refine aops_fn rfl rfl rfl en31 (ih _ (List.getElem_mem hia)) ?_
  refine aops_run 1 (by simp only [fwA, ↓reduceIte, Nat.reduceAdd, Nat.reduceMul, Nat.reduceEqDiff, Nat.reduceLT, Nat.reduceLeDiff, reduceCtorEq] <;> rfl) ?_
  refine awp_cond (by simp only [fwA, ↓reduceIte, Nat.reduceAdd, Nat.reduceMul, Nat.reduceEqDiff, Nat.reduceLT, Nat.reduceLeDiff, reduceCtorEq] <;> rfl) ?_
  by_cases hk : Nodes t.kids[i]
  rotate_left
  · simp only [hk, decide_false, Bool.not_false, ↓reduceIte]
    refine awp_seq (awp_run rfl (by simp only [fwA, ↓reduceIte, Nat.reduceAdd, Nat.reduceMul, Nat.reduceEqDiff, Nat.reduceLT, Nat.reduceLeDiff, reduceCtorEq] <;> rfl) (awp_ret ?_))
    exact gives_end (.inl rfl) _ (by rw [decide_eq_false (fun e => hk (e.kids _ (List.getElem_mem hia)))]; rfl)
  simp only [hk, decide_true, Bool.not_true, Bool.false_eq_true, ↓reduceIte]
  refine awp_skip ?_
  refine awp_run rfl (by simp only [fwA, ↓reduceIte, Nat.reduceAdd, Nat.reduceMul, Nat.reduceEqDiff, Nat.reduceLT, Nat.reduceLeDiff, reduceCtorEq] <;> rfl) ?_
  refine ⟨i + 1, by omega, ⟨by omega, fun k hk' => ?_⟩, by rw [wrapS i (by omega)]; rfl, rfl, rfl⟩
  rw [List.take_add_one, ga] at hk'
  rcases List.mem_append.1 hk' with h | h
  · exact hp k h
  · simp only [Option.toList_some, List.mem_singleton] at h; exact h ▸ hk

/-- slices.IndexFunc[[]chancel/term.Term,chancel/term.Term] -/
theorem c40 (Γ : Nat → PV) (f : Nat) (he : Enters Tryd.prog f) (caps : List PV) (l : List Tm) (S Z : Nat → List Blk → Prop)
    (hS : ∀ (i : Nat) (x : Tm) (H : List Blk), l[i]? = some x → S i H → ACalls Tryd.prog Γ f ([.agg (Tm.enc x)] ++ caps) H (fun p H' => p = .bool false ∧ S (i + 1) H' ∨ p = .bool true ∧ Z i H')) (H : List Blk) (h0 : S 0 H) :
    ACalls Tryd.prog Γ 40 [.vec (l.map Tm.enc) false, .func (.func f) [] caps] H (fun p H' => H.length ≤ H'.length ∧ (p = .int .i64 (-1) ∧ S l.length H' ∨ ∃ i : Nat, p = .int .i64 i ∧ Z i H')) := by
  refine acalls_of_awp Tryd.func40 rfl (by simp [Tryd.f40]) fun hbd => ?_
  refine awp_seq ?_
  refine awp_run rfl (by simp only [fwA, ↓reduceIte, Nat.reduceAdd, Nat.reduceMul, Nat.reduceEqDiff, Nat.reduceLT, Nat.reduceLeDiff, reduceCtorEq] <;> rfl) ?_
  refine awp_vlen 0 rfl fun hlen => ?_
  rw [List.length_map] at hlen
  refine awp_seq ?_
  refine awp_seq ?_
  refine awp_run rfl (by simp only [fwA, ↓reduceIte, Nat.reduceAdd, Nat.reduceMul, Nat.reduceEqDiff, Nat.reduceLT, Nat.reduceLeDiff, reduceCtorEq, un22, List.length_map] <;> rfl) ?_
  refine awp_block ?_
  refine awp_for [0, 1, 7, 8] (fun s : Nat × List Blk => [.vec (l.map Tm.enc) false, .func (.func f) [] caps, .int .i64 l.length, .int .i64 (s.1 : Int)]) (fun s => s.2) (fun s => l.length - s.1)
    (fun s => s.1 ≤ l.length ∧ S s.1 s.2 ∧ H.length ≤ s.2.length) (0, H) rfl rfl ⟨Nat.zero_le _, h0, Nat.le_refl _⟩ fun s hs => ?_
  obtain ⟨i, Hi⟩ := s
  obtain ⟨hi, hSi, hn⟩ := hs
  dsimp only at hi hSi hn ⊢
  refine awp_seq ?_
  refine awp_run rfl (by simp only [fwA, ↓reduceIte, Nat.reduceAdd, Nat.reduceMul, Nat.reduceEqDiff, Nat.reduceLT, Nat.reduceLeDiff, reduceCtorEq] <;> rfl) ?_
  refine awp_seq ?_
  refine awp_cond (by simp only [fwA, ↓reduceIte, Nat.reduceAdd, Nat.reduceMul, Nat.reduceEqDiff, Nat.reduceLT, Nat.reduceLeDiff, reduceCtorEq] <;> rfl) ?_
  by_cases hc : (i : Int) < l.length
  rotate_left
  · simp only [hc, decide_false, Bool.false_eq_true, ↓reduceIte]
    refine awp_exit ?_
    have hie : i = l.length := by omega
    subst hie
    refine awp_bd fun hbd' => ?_
    refine awp_seq (awp_run rfl (by simp only [fwA, ↓reduceIte, Nat.reduceAdd, Nat.reduceMul, Nat.reduceEqDiff, Nat.reduceLT, Nat.reduceLeDiff, reduceCtorEq] <;> rfl) (awp_ret ?_))
    exact calls_at (p := .int .i64 (-1)) (.inl rfl) hbd' rfl rfl hn ⟨hn, .inl ⟨rfl, hSi⟩⟩
  simp only [hc, decide_true, ↓reduceIte]
  refine awp_skip ?_
  have hia : i < l.length := by omega
  have ga : l[i]? = some l[i] := List.getElem?_eq_getElem hia
  refine awp_seq ?_
  refine awp_block ?_
  refine awp_seq ?_
  refine awp_run rfl (by simp only [fwA, ↓reduceIte, Nat.reduceAdd, Nat.reduceMul, Nat.reduceEqDiff, Nat.reduceLT, Nat.reduceLeDiff, reduceCtorEq] <;> rfl) ?_
  refine awp_seq ?_
  refine awp_region rfl ?_
  refine aops_run 5 (by simp only [fwA, ↓reduceIte, Nat.reduceAdd, Nat.reduceMul, Nat.reduceEqDiff, Nat.reduceLT, Nat.reduceLeDiff, reduceCtorEq, el22, ti24, Tm.fw, List.getElem?_map, ga, Option.map_some, Int.natCast_nonneg] <;> rfl) ?_
  refine aops_call rfl rfl rfl he ((hS i l[i] Hi ga hSi).lenLe.mono fun p H' hp => ?_)
  obtain ⟨hp, hn'⟩ := hp
  rcases hp with ⟨rfl, hS'⟩ | ⟨rfl, hZ⟩
  · refine awp_cond (b := false) (by simp only [fwA, ↓reduceIte, Nat.reduceAdd, Nat.reduceMul, Nat.reduceEqDiff, Nat.reduceLT, Nat.reduceLeDiff, reduceCtorEq] <;> rfl) ?_
    refine awp_skip ?_
    refine awp_run rfl (by simp only [fwA, ↓reduceIte, Nat.reduceAdd, Nat.reduceMul, Nat.reduceEqDiff, Nat.reduceLT, Nat.reduceLeDiff, reduceCtorEq] <;> rfl) ?_
    exact ⟨(i + 1, H'), by dsimp only; omega, ⟨by dsimp only; omega, hS', by dsimp only; omega⟩, by rw [wrapS i (by omega)]; rfl, rfl, rfl⟩
  · refine awp_cond (b := true) (by simp only [fwA, ↓reduceIte, Nat.reduceAdd, Nat.reduceMul, Nat.reduceEqDiff, Nat.reduceLT, Nat.reduceLeDiff, reduceCtorEq] <;> rfl) ?_
    refine awp_bd fun hbd' => ?_
    refine awp_seq (awp_run rfl (by simp only [fwA, ↓reduceIte, Nat.reduceAdd, Nat.reduceMul, Nat.reduceEqDiff, Nat.reduceLT, Nat.reduceLeDiff, reduceCtorEq] <;> rfl) (awp_ret ?_))
    simp only [Post.block, Post.then]
    refine calls_at (p := .int .i64 (i : Int)) (.inl rfl) hbd' ?_ rfl (by omega) ⟨by omega, .inr ⟨i, rfl, hZ⟩⟩
    rfl

/-- slices.ContainsFunc[[]chancel/term.Term,chancel/term.Term] -/
theorem c30 (Γ : Nat → PV) (f : Nat) (he : Enters Tryd.prog f) (caps : List PV) (l : List Tm) (S Z : Nat → List Blk → Prop)
    (hS : ∀ (i : Nat) (x : Tm) (H : List Blk), l[i]? = some x → S i H → ACalls Tryd.prog Γ f ([.agg (Tm.enc x)] ++ caps) H (fun p H' => p = .bool false ∧ S (i + 1) H' ∨ p = .bool true ∧ Z i H')) (H : List Blk) (h0 : S 0 H) :
    ACalls Tryd.prog Γ 30 [.vec (l.map Tm.enc) false, .func (.func f) [] caps] H (fun p H' => H.length ≤ H'.length ∧ (p = .bool false ∧ S l.length H' ∨ p = .bool true ∧ ∃ i : Nat, Z i H')) := by
  refine acalls_of_awp Tryd.func30 rfl (by simp [Tryd.f30]) fun hbd => ?_
  refine awp_seq ?_
  refine awp_run rfl (by simp only [fwA, ↓reduceIte, Nat.reduceAdd, Nat.reduceMul, Nat.reduceEqDiff, Nat.reduceLT, Nat.reduceLeDiff, reduceCtorEq] <;> rfl) ?_
  refine awp_seq ?_
  refine awp_region rfl ?_
  refine aops_run 2 (by simp only [fwA, ↓reduceIte, Nat.reduceAdd, Nat.reduceMul, Nat.reduceEqDiff, Nat.reduceLT, Nat.reduceLeDiff, reduceCtorEq] <;> rfl) ?_
  refine aops_call rfl rfl rfl en40 ((c40 Γ f he caps l S Z hS H h0).mono fun p H' hp => ?_)
  obtain ⟨hn, hp⟩ := hp
  rcases hp with ⟨rfl, hS'⟩ | ⟨i, rfl, hZ⟩
  · refine aops_run 2 (by simp only [fwA, ↓reduceIte, Nat.reduceAdd, Nat.reduceMul, Nat.reduceEqDiff, Nat.reduceLT, Nat.reduceLeDiff, reduceCtorEq] <;> rfl) ?_
    refine awp_bd fun hbd' => ?_
    refine awp_ret ?_
    exact calls_at (p := .bool false) (.inl rfl) hbd' rfl rfl hn ⟨hn, .inl ⟨rfl, hS'⟩⟩
  · refine aops_run 2 (by simp only [fwA, ↓reduceIte, Nat.reduceAdd, Nat.reduceMul, Nat.reduceEqDiff, Nat.reduceLT, Nat.reduceLeDiff, reduceCtorEq, ge_iff_le, Int.natCast_nonneg, decide_true] <;> rfl) ?_
    refine awp_bd fun hbd' => ?_
    refine awp_ret ?_
    exact calls_at (p := .bool true) (.inl rfl) hbd' rfl rfl hn ⟨hn, .inr ⟨rfl, i, hZ⟩⟩

/-- term.Right$1 -/
theorem c28 (Γ : Nat → PV) (hΓ : Tab Γ) : ∀ (t : Tm) (H : List Blk) (b : Nat), H[b]? = some (.box [.func (.func 28) [] [.ptr b 0]]) → ACalls Tryd.prog Γ 28 [.agg t.enc, .ptr b 0] H (fun p H' => p = .bool (!decide (Nodes t)) ∧ H' = H) := by
  refine Tm.ind fun t ih => fun H b hb => ?_
  refine acalls_of_awp Tryd.func28 rfl (by simp [Tryd.f28]) fun hbd => ?_
  have hbl := (List.getElem?_eq_some_iff.1 hb).1
  refine awp_seq ?_
  refine awp_run rfl (by simp only [fwA, ↓reduceIte, Nat.reduceAdd, Nat.reduceMul, Nat.reduceEqDiff, Nat.reduceLT, Nat.reduceLeDiff, reduceCtorEq, Tm.fw] <;> rfl) ?_
  refine awp_seq ?_
  refine awp_region rfl ?_
  refine aops_run 1 (by simp only [fwA, ↓reduceIte, Nat.reduceAdd, Nat.reduceMul, Nat.reduceEqDiff, Nat.reduceLT, Nat.reduceLeDiff, reduceCtorEq, ti24, Tm.fw] <;> rfl) ?_
  refine aops_fn rfl rfl rfl en29 (c29 Γ hΓ t) ?_
  by_cases hn : nodeP t
  rotate_left
  · refine aops_run 8 (by simp only [fwA, ↓reduceIte, Nat.reduceAdd, Nat.reduceMul, Nat.reduceEqDiff, Nat.reduceLT, Nat.reduceLeDiff, reduceCtorEq, hn, decide_false, Bool.not_false] <;> rfl) ?_
    exact awp_ret (calls_end (p := .bool (!decide (Nodes t))) _ (.inl rfl) hbd (by rw [decide_eq_false (fun e => hn (Nodes.node e))]; rfl) rfl ⟨rfl, rfl⟩)
  have hb2 : (H ++ [Blk.box t.enc])[b]? = some (.box [.func (.func 28) [] [.ptr b 0]]) := by rw [List.getElem?_append_left hbl]; exact hb
  refine aops_run 5 (by simp only [fwA, ↓reduceIte, Nat.reduceAdd, Nat.reduceMul, Nat.reduceEqDiff, Nat.reduceLT, Nat.reduceLeDiff, reduceCtorEq, fl24_3, ti22, ti32, Tm.fw, hn, decide_true, Bool.not_true, hb2] <;> rfl) ?_
  refine aops_if rfl rfl rfl (os_call rfl rfl en30 ((c30 Γ 28 en28 [.ptr b 0] t.kids (fun i H' => H' = H ++ [.box t.enc] ∧ ∀ k ∈ t.kids.take i, Nodes k) (fun _ H' => H' = H ++ [.box t.enc] ∧ ∃ k ∈ t.kids, ¬ Nodes k) (fun i x H2 hx hs => ?_) _ ⟨rfl, fun k hk => by cases hk⟩).mono fun p H' hp => ?_))
  · obtain ⟨rfl, hs⟩ := hs
    refine (ih x (List.mem_of_getElem? hx) _ b hb2).mono fun p H' hp => ?_
    obtain ⟨rfl, rfl⟩ := hp
    by_cases hx' : Nodes x
    · refine .inl ⟨by rw [decide_eq_true hx']; rfl, rfl, fun k hk => ?_⟩
      rw [List.take_add_one, hx] at hk
      rcases List.mem_append.1 hk with h | h
      · exact hs k h
      · simp only [Option.toList_some, List.mem_singleton] at h; exact h ▸ hx'
    · exact .inr ⟨by rw [decide_eq_false hx']; rfl, rfl, x, List.mem_of_getElem? hx, hx'⟩
  · rcases hp.2 with ⟨rfl, rfl, hs⟩ | ⟨rfl, i, rfl, k, hk, hk'⟩
    · refine aops_run 2 (by simp only [fwA, ↓reduceIte, Nat.reduceAdd, Nat.reduceMul, Nat.reduceEqDiff, Nat.reduceLT, Nat.reduceLeDiff, reduceCtorEq] <;> rfl) ?_
      rw [List.take_length] at hs
      exact awp_ret (calls_end (p := .bool (!decide (Nodes t))) _ (.inl rfl) hbd (by rw [decide_eq_true (Nodes.mk t hn hs)]; rfl) rfl ⟨rfl, rfl⟩)
    · refine aops_run 2 (by simp only [fwA, ↓reduceIte, Nat.reduceAdd, Nat.reduceMul, Nat.reduceEqDiff, Nat.reduceLT, Nat.reduceLeDiff, reduceCtorEq] <;> rfl) ?_
      exact awp_ret (calls_end (p := .bool (!decide (Nodes t))) _ (.inl rfl) hbd (by rw [decide_eq_false (fun e => hk' (Nodes.kids e k hk))]; rfl) rfl ⟨rfl, rfl⟩)

/-- chancelref03.Right -/
theorem c16 (Γ : Nat → PV) (t : Tm) (hw : t.w ≤ 4611686018427387904) : Gives Tryd.prog Γ 16 [.agg t.enc] (.bool (decide (RightT t))) := by
  refine fn_of_awp Tryd.func16 rfl (by simp [Tryd.f16]) rfl fun H => ?_
  refine awp_seq ?_
  refine awp_run rfl (by simp only [fwA, ↓reduceIte, Nat.reduceAdd, Nat.reduceMul, Nat.reduceEqDiff, Nat.reduceLT, Nat.reduceLeDiff, reduceCtorEq] <;> rfl) ?_
  refine awp_seq ?_
  refine awp_region rfl ?_
  refine aops_run 1 (by simp only [fwA, ↓reduceIte, Nat.reduceAdd, Nat.reduceMul, Nat.reduceEqDiff, Nat.reduceLT, Nat.reduceLeDiff, reduceCtorEq, ti28, Tm.fw] <;> rfl) ?_
  refine aops_fn rfl rfl rfl en14 (c14 Γ t hw) ?_
  by_cases h1 : (t.dep : Int) ≤ 200
  rotate_left
  · refine aops_run 11 (by simp only [fwA, ↓reduceIte, Nat.reduceAdd, Nat.reduceMul, Nat.reduceEqDiff, Nat.reduceLT, Nat.reduceLeDiff, reduceCtorEq, ti28, Tm.fw, h1, decide_false] <;> rfl) ?_
    exact awp_ret (gives_end (.inl rfl) _ (by rw [decide_eq_false (fun e => h1 (by have := e.1; omega))]; rfl))
  refine aops_run 3 (by simp only [fwA, ↓reduceIte, Nat.reduceAdd, Nat.reduceMul, Nat.reduceEqDiff, Nat.reduceLT, Nat.reduceLeDiff, reduceCtorEq, ti28, Tm.fw, h1, decide_true] <;> rfl) ?_
  refine aops_fnIf rfl rfl rfl rfl rfl en12 (c12 Γ t hw) ?_
  by_cases h2 : (t.w : Int) ≤ 10000
  rotate_left
  · refine aops_run 7 (by simp only [fwA, ↓reduceIte, Nat.reduceAdd, Nat.reduceMul, Nat.reduceEqDiff, Nat.reduceLT, Nat.reduceLeDiff, reduceCtorEq, ti28, Tm.fw, h2, decide_false] <;> rfl) ?_
    exact awp_ret (gives_end (.inl rfl) _ (by rw [decide_eq_false (fun e => h2 (by have := e.2.1; omega))]; rfl))
  refine aops_run 4 (by simp only [fwA, ↓reduceIte, Nat.reduceAdd, Nat.reduceMul, Nat.reduceEqDiff, Nat.reduceLT, Nat.reduceLeDiff, reduceCtorEq, ti28, Tm.fw, h2, decide_true] <;> rfl) ?_
  refine aops_fnIf rfl rfl rfl rfl rfl en31 (c31 Γ t) ?_
  refine aops_run 2 (by simp only [fwA, ↓reduceIte, Nat.reduceAdd, Nat.reduceMul, Nat.reduceEqDiff, Nat.reduceLT, Nat.reduceLeDiff, reduceCtorEq] <;> rfl) ?_
  exact awp_ret (gives_end (.inl rfl) _ (by rw [show decide (RightT t) = decide (Nodes t) from decide_eq_decide.2 ⟨fun h => h.2.2, fun h => ⟨by omega, by omega, h⟩⟩]; rfl))

/-- term.Right -/
theorem c15 (Γ : Nat → PV) (hΓ : Tab Γ) (t : Tm) (hw : t.w ≤ 4611686018427387904) : Gives Tryd.prog Γ 15 [.agg t.enc] (.bool (decide (RightT t))) := by
  refine fn_of_awp Tryd.func15 rfl (by simp [Tryd.f15]) rfl fun H => ?_
  refine awp_seq ?_
  refine awp_run rfl (by simp only [fwA, ↓reduceIte, Nat.reduceAdd, Nat.reduceMul, Nat.reduceEqDiff, Nat.reduceLT, Nat.reduceLeDiff, reduceCtorEq, Tm.fw] <;> rfl) ?_
  refine awp_seq ?_
  refine awp_run rfl (by simp only [fwA, ↓reduceIte, Nat.reduceAdd, Nat.reduceMul, Nat.reduceEqDiff, Nat.reduceLT, Nat.reduceLeDiff, reduceCtorEq, ti32] <;> rfl) ?_
  refine awp_seq ?_
  refine awp_run rfl (by simp only [fwA, ↓reduceIte, Nat.reduceAdd, Nat.reduceMul, Nat.reduceEqDiff, Nat.reduceLT, Nat.reduceLeDiff, reduceCtorEq, ti32] <;> rfl) ?_
  refine awp_heap (H' := H ++ [.box t.enc, .box [.func (.func 28) [] [.ptr (H.length + 1) 0]]]) (by simp) ?_
  refine awp_seq ?_
  refine awp_region rfl ?_
  refine aops_run 1 (by simp only [fwA, ↓reduceIte, Nat.reduceAdd, Nat.reduceMul, Nat.reduceEqDiff, Nat.reduceLT, Nat.reduceLeDiff, reduceCtorEq, ti24, Tm.fw] <;> rfl) ?_
  refine aops_fn rfl rfl rfl en13 (c13 Γ t hw) ?_
  by_cases h1 : (t.dep : Int) ≤ 200
  rotate_left
  · refine aops_run 13 (by simp only [fwA, ↓reduceIte, Nat.reduceAdd, Nat.reduceMul, Nat.reduceEqDiff, Nat.reduceLT, Nat.reduceLeDiff, reduceCtorEq, ti24, Tm.fw, h1, decide_false] <;> rfl) ?_
    exact awp_ret (gives_end (.inl rfl) _ (by rw [decide_eq_false (fun e => h1 (by have := e.1; omega))]; rfl))
  refine aops_run 3 (by simp only [fwA, ↓reduceIte, Nat.reduceAdd, Nat.reduceMul, Nat.reduceEqDiff, Nat.reduceLT, Nat.reduceLeDiff, reduceCtorEq, ti24, Tm.fw, h1, decide_true] <;> rfl) ?_
  refine aops_fnIf rfl rfl rfl rfl rfl en11 (c11 Γ t hw) ?_
  by_cases h2 : (t.w : Int) ≤ 10000
  rotate_left
  · refine aops_run 9 (by simp only [fwA, ↓reduceIte, Nat.reduceAdd, Nat.reduceMul, Nat.reduceEqDiff, Nat.reduceLT, Nat.reduceLeDiff, reduceCtorEq, ti24, Tm.fw, h2, decide_false] <;> rfl) ?_
    exact awp_ret (gives_end (.inl rfl) _ (by rw [decide_eq_false (fun e => h2 (by have := e.2.1; omega))]; rfl))
  refine aops_run 5 (by simp only [fwA, ↓reduceIte, Nat.reduceAdd, Nat.reduceMul, Nat.reduceEqDiff, Nat.reduceLT, Nat.reduceLeDiff, reduceCtorEq, ti32, ti24, Tm.fw, h2, decide_true] <;> rfl) ?_
  refine aops_if rfl rfl rfl (os_call rfl rfl en28 ((c28 Γ hΓ t _ (H.length + 1) (by simp)).mono fun p H' hp => ?_))
  obtain ⟨rfl, rfl⟩ := hp
  refine aops_run 3 (by simp only [fwA, ↓reduceIte, Nat.reduceAdd, Nat.reduceMul, Nat.reduceEqDiff, Nat.reduceLT, Nat.reduceLeDiff, reduceCtorEq, Bool.not_not] <;> rfl) ?_
  exact awp_ret (gives_end (.inl rfl) _ (by rw [show decide (RightT t) = decide (Nodes t) from decide_eq_decide.2 ⟨fun h => h.2.2, fun h => ⟨by omega, by omega, h⟩⟩]; rfl))

end Go.Proofs.YtlbmlhpjibgepaaDoor

/- The contract of what adds a text to some, once. -/
namespace Go.Proofs.YtlbmlhpjibgepaaDoor
set_option linter.unusedVariables false
set_option linter.unusedSimpArgs false
set_option maxRecDepth 100000
open Go.RowKit Fw

theorem add_found {s : List UInt8} : ∀ {l : List (List UInt8)} {i : Nat}, (∀ j, j < i → ∀ x, l[j]? = some x → x < s) → l[i]? = some s → addT l s = l
  | [], _, _, h => by simp at h
  | x :: l, 0, _, h => by
    simp only [List.getElem?_cons_zero, Option.some.injEq] at h
    subst h
    unfold addT
    rw [if_neg (List.lt_irrefl _), if_pos rfl]
  | x :: l, i + 1, hl, h => by
    have h0 := hl 0 (by omega) x rfl
    unfold addT
    rw [if_pos h0, add_found (i := i) (fun j hj y hy => hl (j + 1) (by omega) y (by simpa using hy)) (by simpa using h)]
theorem add_ins {s : List UInt8} : ∀ {l : List (List UInt8)} {i : Nat}, (∀ j, j < i → ∀ x, l[j]? = some x → x < s) → (∀ x, l[i]? = some x → ¬ x < s ∧ x ≠ s) → addT l s = l.take i ++ s :: l.drop i
  | [], i, _, _ => by simp [addT]
  | x :: l, 0, _, h => by
    obtain ⟨h1, h2⟩ := h x rfl
    unfold addT
    rw [if_neg h1, if_neg h2]; rfl
  | x :: l, i + 1, hl, h => by
    have h0 := hl 0 (by omega) x rfl
    unfold addT
    rw [if_pos h0, add_ins (i := i) (fun j hj y hy => hl (j + 1) (by omega) y (by simpa using hy)) (fun y hy => h y (by simpa using hy))]
    rfl
theorem lessD (a b : List UInt8) : Op.bytesLess a b = decide (a < b) := Go.Proofs.bytesLess_eq a b

/-- chancelref03.Add -/
theorem c36 (Γ : Nat → PV) (l : List (List UInt8)) (s : List UInt8) (hl : l.length ≤ 1000000000000) : Gives Tryd.prog Γ 36 [.vec (l.map S1) false, .str s] (.vec ((addT l s).map S1) false) := by
  refine fn_of_awp Tryd.func36 rfl (by simp [Tryd.f36]) rfl fun H => ?_
  refine awp_seq ?_
  refine awp_run rfl (by simp only [fwA, ↓reduceIte, Nat.reduceAdd, Nat.reduceMul, Nat.reduceEqDiff, Nat.reduceLT, Nat.reduceLeDiff, reduceCtorEq] <;> rfl) ?_
  refine awp_seq ?_
  refine awp_run rfl (by simp only [fwA, ↓reduceIte, Nat.reduceAdd, Nat.reduceMul, Nat.reduceEqDiff, Nat.reduceLT, Nat.reduceLeDiff, reduceCtorEq] <;> rfl) ?_
  refine awp_seq ?_
  refine awp_block ?_
  refine awp_for [0, 1, 5] (fun i : Nat => [.vec (l.map S1) false, .str s, .int .i64 i]) (fun _ => H) (fun i => l.length - i) (fun i => i ≤ l.length ∧ ∀ j, j < i → ∀ x, l[j]? = some x → x < s) 0 rfl rfl ⟨Nat.zero_le _, fun j hj => by omega⟩ fun i hs => ?_
  obtain ⟨hi, hp⟩ := hs
  refine awp_seq ?_
  refine awp_seq ?_
  have e1 : ((l.map S1).drop 0).take (i - 0) = (l.take i).map S1 := by simp [List.map_take]
  have e2 : ((l.map S1).drop i).take (l.length - i) = (l.drop i).map S1 := by rw [List.take_of_length_le (by simp), List.map_drop]
  have hti : (l.take i).length = i := by rw [List.length_take]; omega
  have htd : (l.drop i).length = l.length - i := List.length_drop ..
  by_cases hc : (i : Int) < l.length
  rotate_left
  · refine awp_run rfl (by simp only [fwA, ↓reduceIte, Nat.reduceAdd, Nat.reduceMul, Nat.reduceEqDiff, Nat.reduceLT, Nat.reduceLeDiff, reduceCtorEq, un37, el37, ti9, List.length_map, List.getElem?_map, S1_fw, Option.map_some, Int.natCast_nonneg, lessD, decide_true, decide_false, hc] <;> rfl) ?_
    refine awp_cond (b := false) (by simp [alook, aput, ev]) ?_
    refine awp_exit ?_
    have hadd : addT l s = l.take i ++ s :: l.drop i := add_ins hp fun x hx => by
      rw [List.getElem?_eq_none (by omega)] at hx; cases hx
    refine awp_seq ?_
    refine awp_seq ?_
    refine awp_run rfl (by simp only [fwA, ↓reduceIte, Nat.reduceAdd, Nat.reduceMul, Nat.reduceEqDiff, Nat.reduceLT, Nat.reduceLeDiff, reduceCtorEq, un37, el37, ti9, List.length_map, List.getElem?_map, S1_fw, Option.map_some, Int.natCast_nonneg, lessD, decide_true, decide_false, hc] <;> rfl) ?_
    refine awp_cond (b := false) (by simp [alook, aput, ev]) (awp_skip ?_)
    refine awp_seq ?_
    refine awp_drawn [0, 0, 0, 3, 0, 0, 2, 0, 0, 0, 2, 0] [0, 0, 3, 7, 0, 16, 63, 0, 0, 384, 1023, 2047] mixed rfl (by kernel_rfl) ?_
    refine dops_run 2 (by simp only [fwA, ↓reduceIte, Nat.reduceAdd, Nat.reduceMul, Nat.reduceEqDiff, Nat.reduceLT, Nat.reduceLeDiff, reduceCtorEq] <;> rfl) ?_
    refine dops_one (.vec ((l.take i).map S1) false) rfl rfl (fun H A' hev => os_sliceVec (l := 0) (h := i) (es := l.map S1) (f := false) rfl el37 ((hev _ (by simp [Op.operands])).trans rfl) (fun e he => by obtain ⟨x, _, rfl⟩ := List.mem_map.1 he; rfl) rfl ⟨_, (hev _ (by simp [Op.operands])).trans rfl⟩ trivial (Nat.zero_le _) (by rw [List.length_map]; omega) ⟨congrArg (fun z => PV.vec z false) e1, rfl⟩) ?_
    refine dops_appendNew (xs := ((l.take i).map S1).flatten) (n := i) rfl rfl (.inr rfl) (Nat.le_refl _) un37 ti9 un37 (.inl ⟨_, rfl⟩) (by decide) rfl (by simp only [fwA, ↓reduceIte, Nat.reduceAdd, Nat.reduceMul, Nat.reduceEqDiff, Nat.reduceLT, Nat.reduceLeDiff, reduceCtorEq] <;> rfl) (fun es f h e he => by
        simp only [fwA, ↓reduceIte, Nat.reduceAdd, Nat.reduceMul, Nat.reduceEqDiff, Nat.reduceLT, Nat.reduceLeDiff, reduceCtorEq, PV.vec.injEq] at h
        obtain ⟨rfl, rfl⟩ := h
        obtain ⟨x, _, rfl⟩ := List.mem_map.1 he
        rfl) (by simp only [fwA, ↓reduceIte, Nat.reduceAdd, Nat.reduceMul, Nat.reduceEqDiff, Nat.reduceLT, Nat.reduceLeDiff, reduceCtorEq, alen, List.length_map, hti]) (by show i * 16 ≤ _; omega) (by omega) ?_
    refine dops_run 2 (by simp only [fwA, ↓reduceIte, Nat.reduceAdd, Nat.reduceMul, Nat.reduceEqDiff, Nat.reduceLT, Nat.reduceLeDiff, reduceCtorEq, un37, ti9] <;> rfl) ?_
    refine dops_appendR (b := H.length) (q := 0) (k := i) (n := 1) (cs := ((l.take i).map S1).flatten) (xs := [.str s]) rfl rfl rfl un37 ti9 un37 (.inl ⟨_, rfl⟩) rfl (by simp only [fwA, ↓reduceIte, Nat.reduceAdd, Nat.reduceMul, Nat.reduceEqDiff, Nat.reduceLT, Nat.reduceLeDiff, reduceCtorEq] <;> rfl) (by rw [flat_len S1_len, hti]; exact (Nat.zero_add _).symm) (by simp only [fwA, ↓reduceIte, Nat.reduceAdd, Nat.reduceMul, Nat.reduceEqDiff, Nat.reduceLT, Nat.reduceLeDiff, reduceCtorEq] <;> rfl) (fun es f h e he => by
        simp only [fwA, ↓reduceIte, Nat.reduceAdd, Nat.reduceMul, Nat.reduceEqDiff, Nat.reduceLT, Nat.reduceLeDiff, reduceCtorEq, PV.vec.injEq] at h
        obtain ⟨rfl, rfl⟩ := h
        simp only [List.mem_singleton] at he
        subst he; rfl) (by simp only [fwA, ↓reduceIte, Nat.reduceAdd, Nat.reduceMul, Nat.reduceEqDiff, Nat.reduceLT, Nat.reduceLeDiff, reduceCtorEq] <;> rfl) (by show (i + 1) * 16 ≤ _; omega) (by omega) ?_
    refine dops_run 2 (by simp only [fwA, ↓reduceIte, Nat.reduceAdd, Nat.reduceMul, Nat.reduceEqDiff, Nat.reduceLT, Nat.reduceLeDiff, reduceCtorEq] <;> rfl) ?_
    refine dops_one (.vec ((l.drop i).map S1) false) rfl rfl (fun H A' hev => os_sliceVec (l := i) (h := l.length) (es := l.map S1) (f := false) rfl el37 ((hev _ (by simp [Op.operands])).trans rfl) (fun e he => by obtain ⟨x, _, rfl⟩ := List.mem_map.1 he; rfl) ⟨_, (hev _ (by simp [Op.operands])).trans rfl⟩ (by rw [onOpt, List.length_map]) trivial hi (by rw [List.length_map]; omega) ⟨congrArg (fun z => PV.vec z false) e2, rfl⟩) ?_
    refine dops_appendR (b := H.length) (q := 0) (k := i + 1) (n := l.length - i) (cs := ((l.take i).map S1).flatten ++ [.str s]) (xs := ((l.drop i).map S1).flatten) rfl rfl rfl un37 ti9 un37 (.inl ⟨_, rfl⟩) rfl (by simp only [fwA, ↓reduceIte, Nat.reduceAdd, Nat.reduceMul, Nat.reduceEqDiff, Nat.reduceLT, Nat.reduceLeDiff, reduceCtorEq] <;> rfl) (by rw [List.length_append, flat_len S1_len, hti]; simp) (by simp only [fwA, ↓reduceIte, Nat.reduceAdd, Nat.reduceMul, Nat.reduceEqDiff, Nat.reduceLT, Nat.reduceLeDiff, reduceCtorEq] <;> rfl) (fun es f h e he => by
        simp only [fwA, ↓reduceIte, Nat.reduceAdd, Nat.reduceMul, Nat.reduceEqDiff, Nat.reduceLT, Nat.reduceLeDiff, reduceCtorEq, PV.vec.injEq] at h
        obtain ⟨rfl, rfl⟩ := h
        obtain ⟨x, _, rfl⟩ := List.mem_map.1 he
        rfl) (by simp only [fwA, ↓reduceIte, Nat.reduceAdd, Nat.reduceMul, Nat.reduceEqDiff, Nat.reduceLT, Nat.reduceLeDiff, reduceCtorEq, alen, List.length_map, htd]) (by show (i + 1 + (l.length - i)) * 16 ≤ _; omega) (by omega) ?_
    refine dops_run 1 (by simp only [fwA, ↓reduceIte, Nat.reduceAdd, Nat.reduceMul, Nat.reduceEqDiff, Nat.reduceLT, Nat.reduceLeDiff, reduceCtorEq] <;> rfl) ?_
    refine dops_end ?_
    have hC : (((l.take i ++ s :: l.drop i).map S1).flatten) = ((l.take i).map S1).flatten ++ [.str s] ++ ((l.drop i).map S1).flatten := by simp [S1]
    have hCl : (l.take i ++ s :: l.drop i).length = l.length + 1 := by rw [List.length_append, List.length_cons, hti, htd]; omega
    rw [hadd]
    refine awp_keep (A' := [(4, .row H.length 0 (l.length + 1) 1)]) [4] (by simp only [akeep, alook, aput, ev, show i + 1 + (l.length - i) = l.length + 1 by omega] <;> rfl) ?_
    generalize l.take i ++ s :: l.drop i = r at hC hCl ⊢
    refine awp_heap (H' := H ++ [.row 1 ((r.map S1).flatten)]) (by rw [hC]; simp) ?_
    refine awp_told (told_freezeAt H _ 0 (C := (r.map S1).flatten) rfl (flat_bd (fun t => by simp only [S1_fw]) _)) ?_
    have hch := flat_chunk S1_len r
    have hfl := flat_len S1_len r
    rw [hCl] at hch hfl
    generalize l.length + 1 = m at hch hfl ⊢
    refine awp_ret (gives_end (.inl rfl) _ ?_)
    simp only [fwA, ↓reduceIte, Nat.reduceAdd, Nat.reduceMul, Nat.reduceEqDiff, Nat.reduceLT, Nat.reduceLeDiff, reduceCtorEq, ares, aresL, ares1, Tryd.f36, hfl, hch]
  have hia : i < l.length := by omega
  have ga : l[i]? = some l[i] := List.getElem?_eq_getElem hia
  generalize l[i] = x at ga
  by_cases hlt : x < s
  rotate_left
  · refine awp_run rfl (by simp only [fwA, ↓reduceIte, Nat.reduceAdd, Nat.reduceMul, Nat.reduceEqDiff, Nat.reduceLT, Nat.reduceLeDiff, reduceCtorEq, un37, el37, ti9, List.length_map, List.getElem?_map, S1_fw, Option.map_some, Int.natCast_nonneg, lessD, decide_true, decide_false, hc, ga, hlt] <;> rfl) ?_
    refine awp_cond (b := false) (by simp [alook, aput, ev]) ?_
    refine awp_exit ?_
    by_cases hxs : x = s
    · subst hxs
      have hadd := add_found hp ga
      refine awp_seq ?_
      refine awp_seq ?_
      refine awp_run rfl (by simp only [fwA, ↓reduceIte, Nat.reduceAdd, Nat.reduceMul, Nat.reduceEqDiff, Nat.reduceLT, Nat.reduceLeDiff, reduceCtorEq, un37, el37, ti9, List.length_map, List.getElem?_map, S1_fw, Option.map_some, Int.natCast_nonneg, lessD, decide_true, decide_false, hc, ga] <;> rfl) ?_
      refine awp_cond (b := true) (by simp [alook, aput, ev]) ?_
      refine awp_seq (awp_run rfl (by simp only [fwA, ↓reduceIte, Nat.reduceAdd, Nat.reduceMul, Nat.reduceEqDiff, Nat.reduceLT, Nat.reduceLeDiff, reduceCtorEq] <;> rfl) (awp_ret ?_))
      exact gives_end0 (.inl rfl) (by rw [hadd]; rfl)
    have hadd : addT l s = l.take i ++ s :: l.drop i := add_ins hp fun y hy => by
      rw [ga] at hy; cases hy; exact ⟨hlt, hxs⟩
    refine awp_seq ?_
    refine awp_seq ?_
    refine awp_run rfl (by simp only [fwA, ↓reduceIte, Nat.reduceAdd, Nat.reduceMul, Nat.reduceEqDiff, Nat.reduceLT, Nat.reduceLeDiff, reduceCtorEq, un37, el37, ti9, List.length_map, List.getElem?_map, S1_fw, Option.map_some, Int.natCast_nonneg, lessD, decide_true, decide_false, hc, ga, hxs] <;> rfl) ?_
    refine awp_cond (b := false) (by simp [alook, aput, ev]) (awp_skip ?_)
    refine awp_seq ?_
    refine awp_drawn [0, 0, 0, 3, 0, 0, 2, 0, 0, 0, 2, 0] [0, 0, 3, 7, 0, 16, 63, 0, 0, 384, 1023, 2047] mixed rfl (by kernel_rfl) ?_
    refine dops_run 2 (by simp only [fwA, ↓reduceIte, Nat.reduceAdd, Nat.reduceMul, Nat.reduceEqDiff, Nat.reduceLT, Nat.reduceLeDiff, reduceCtorEq] <;> rfl) ?_
    refine dops_one (.vec ((l.take i).map S1) false) rfl rfl (fun H A' hev => os_sliceVec (l := 0) (h := i) (es := l.map S1) (f := false) rfl el37 ((hev _ (by simp [Op.operands])).trans rfl) (fun e he => by obtain ⟨x, _, rfl⟩ := List.mem_map.1 he; rfl) rfl ⟨_, (hev _ (by simp [Op.operands])).trans rfl⟩ trivial (Nat.zero_le _) (by rw [List.length_map]; omega) ⟨congrArg (fun z => PV.vec z false) e1, rfl⟩) ?_
    refine dops_appendNew (xs := ((l.take i).map S1).flatten) (n := i) rfl rfl (.inr rfl) (Nat.le_refl _) un37 ti9 un37 (.inl ⟨_, rfl⟩) (by decide) rfl (by simp only [fwA, ↓reduceIte, Nat.reduceAdd, Nat.reduceMul, Nat.reduceEqDiff, Nat.reduceLT, Nat.reduceLeDiff, reduceCtorEq] <;> rfl) (fun es f h e he => by
        simp only [fwA, ↓reduceIte, Nat.reduceAdd, Nat.reduceMul, Nat.reduceEqDiff, Nat.reduceLT, Nat.reduceLeDiff, reduceCtorEq, PV.vec.injEq] at h
        obtain ⟨rfl, rfl⟩ := h
        obtain ⟨x, _, rfl⟩ := List.mem_map.1 he
        rfl) (by simp only [fwA, ↓reduceIte, Nat.reduceAdd, Nat.reduceMul, Nat.reduceEqDiff, Nat.reduceLT, Nat.reduceLeDiff, reduceCtorEq, alen, List.length_map, hti]) (by show i * 16 ≤ _; omega) (by omega) ?_
    refine dops_run 2 (by simp only [fwA, ↓reduceIte, Nat.reduceAdd, Nat.reduceMul, Nat.reduceEqDiff, Nat.reduceLT, Nat.reduceLeDiff, reduceCtorEq, un37, ti9] <;> rfl) ?_
    refine dops_appendR (b := H.length) (q := 0) (k := i) (n := 1) (cs := ((l.take i).map S1).flatten) (xs := [.str s]) rfl rfl rfl un37 ti9 un37 (.inl ⟨_, rfl⟩) rfl (by simp only [fwA, ↓reduceIte, Nat.reduceAdd, Nat.reduceMul, Nat.reduceEqDiff, Nat.reduceLT, Nat.reduceLeDiff, reduceCtorEq] <;> rfl) (by rw [flat_len S1_len, hti]; exact (Nat.zero_add _).symm) (by simp only [fwA, ↓reduceIte, Nat.reduceAdd, Nat.reduceMul, Nat.reduceEqDiff, Nat.reduceLT, Nat.reduceLeDiff, reduceCtorEq] <;> rfl) (fun es f h e he => by
        simp only [fwA, ↓reduceIte, Nat.reduceAdd, Nat.reduceMul, Nat.reduceEqDiff, Nat.reduceLT, Nat.reduceLeDiff, reduceCtorEq, PV.vec.injEq] at h
        obtain ⟨rfl, rfl⟩ := h
        simp only [List.mem_singleton] at he
        subst he; rfl) (by simp only [fwA, ↓reduceIte, Nat.reduceAdd, Nat.reduceMul, Nat.reduceEqDiff, Nat.reduceLT, Nat.reduceLeDiff, reduceCtorEq] <;> rfl) (by show (i + 1) * 16 ≤ _; omega) (by omega) ?_
    refine dops_run 2 (by simp only [fwA, ↓reduceIte, Nat.reduceAdd, Nat.reduceMul, Nat.reduceEqDiff, Nat.reduceLT, Nat.reduceLeDiff, reduceCtorEq] <;> rfl) ?_
    refine dops_one (.vec ((l.drop i).map S1) false) rfl rfl (fun H A' hev => os_sliceVec (l := i) (h := l.length) (es := l.map S1) (f := false) rfl el37 ((hev _ (by simp [Op.operands])).trans rfl) (fun e he => by obtain ⟨x, _, rfl⟩ := List.mem_map.1 he; rfl) ⟨_, (hev _ (by simp [Op.operands])).trans rfl⟩ (by rw [onOpt, List.length_map]) trivial hi (by rw [List.length_map]; omega) ⟨congrArg (fun z => PV.vec z false) e2, rfl⟩) ?_
    refine dops_appendR (b := H.length) (q := 0) (k := i + 1) (n := l.length - i) (cs := ((l.take i).map S1).flatten ++ [.str s]) (xs := ((l.drop i).map S1).flatten) rfl rfl rfl un37 ti9 un37 (.inl ⟨_, rfl⟩) rfl (by simp only [fwA, ↓reduceIte, Nat.reduceAdd, Nat.reduceMul, Nat.reduceEqDiff, Nat.reduceLT, Nat.reduceLeDiff, reduceCtorEq] <;> rfl) (by rw [List.length_append, flat_len S1_len, hti]; simp) (by simp only [fwA, ↓reduceIte, Nat.reduceAdd, Nat.reduceMul, Nat.reduceEqDiff, Nat.reduceLT, Nat.reduceLeDiff, reduceCtorEq] <;> rfl) (fun es f h e he => by
        simp only [fwA, ↓reduceIte, Nat.reduceAdd, Nat.reduceMul, Nat.reduceEqDiff, Nat.reduceLT, Nat.reduceLeDiff, reduceCtorEq, PV.vec.injEq] at h
        obtain ⟨rfl, rfl⟩ := h
        obtain ⟨x, _, rfl⟩ := List.mem_map.1 he
        rfl) (by simp only [fwA, ↓reduceIte, Nat.reduceAdd, Nat.reduceMul, Nat.reduceEqDiff, Nat.reduceLT, Nat.reduceLeDiff, reduceCtorEq, alen, List.length_map, htd]) (by show (i + 1 + (l.length - i)) * 16 ≤ _; omega) (by omega) ?_
    refine dops_run 1 (by simp only [fwA, ↓reduceIte, Nat.reduceAdd, Nat.reduceMul, Nat.reduceEqDiff, Nat.reduceLT, Nat.reduceLeDiff, reduceCtorEq] <;> rfl) ?_
    refine dops_end ?_
    have hC : (((l.take i ++ s :: l.drop i).map S1).flatten) = ((l.take i).map S1).flatten ++ [.str s] ++ ((l.drop i).map S1).flatten := by simp [S1]
    have hCl : (l.take i ++ s :: l.drop i).length = l.length + 1 := by rw [List.length_append, List.length_cons, hti, htd]; omega
    rw [hadd]
    refine awp_keep (A' := [(4, .row H.length 0 (l.length + 1) 1)]) [4] (by simp only [akeep, alook, aput, ev, show i + 1 + (l.length - i) = l.length + 1 by omega] <;> rfl) ?_
    generalize l.take i ++ s :: l.drop i = r at hC hCl ⊢
    refine awp_heap (H' := H ++ [.row 1 ((r.map S1).flatten)]) (by rw [hC]; simp) ?_
    refine awp_told (told_freezeAt H _ 0 (C := (r.map S1).flatten) rfl (flat_bd (fun t => by simp only [S1_fw]) _)) ?_
    have hch := flat_chunk S1_len r
    have hfl := flat_len S1_len r
    rw [hCl] at hch hfl
    generalize l.length + 1 = m at hch hfl ⊢
    refine awp_ret (gives_end (.inl rfl) _ ?_)
    simp only [fwA, ↓reduceIte, Nat.reduceAdd, Nat.reduceMul, Nat.reduceEqDiff, Nat.reduceLT, Nat.reduceLeDiff, reduceCtorEq, ares, aresL, ares1, Tryd.f36, hfl, hch]
  refine awp_run rfl (by simp only [fwA, ↓reduceIte, Nat.reduceAdd, Nat.reduceMul, Nat.reduceEqDiff, Nat.reduceLT, Nat.reduceLeDiff, reduceCtorEq, un37, el37, ti9, List.length_map, List.getElem?_map, S1_fw, Option.map_some, Int.natCast_nonneg, lessD, decide_true, decide_false, hc, ga, hlt] <;> rfl) ?_
  refine awp_cond (b := true) (by simp [alook, aput, ev]) (awp_skip ?_)
  refine awp_block ?_
  refine awp_run rfl (by simp only [fwA, ↓reduceIte, Nat.reduceAdd, Nat.reduceMul, Nat.reduceEqDiff, Nat.reduceLT, Nat.reduceLeDiff, reduceCtorEq] <;> rfl) ?_
  refine ⟨i + 1, by omega, ⟨by omega, fun j hj y hy => ?_⟩, by rw [wrapS i (by omega)]; rfl, rfl, rfl⟩
  by_cases e : j = i
  · subst e; rw [ga] at hy; cases hy; exact hlt
  · exact hp j (by omega) y hy

end Go.Proofs.YtlbmlhpjibgepaaDoor

/- The contract of the names that are free in a term: the document's. -/
namespace Go.Proofs.YtlbmlhpjibgepaaDoor
set_option linter.unusedVariables false
set_option linter.unusedSimpArgs false
set_option maxRecDepth 100000
open Go.RowKit Fw

theorem addT_len (l : List (List UInt8)) (s : List UInt8) : (addT l s).length ≤ l.length + 1 := by
  induction l with
  | nil => exact Nat.le_refl _
  | cons x l ih => unfold addT; split
                   · rw [List.length_cons, List.length_cons]; omega
                   · split
                     · omega
                     · simp
theorem addTs_len (b : Bool) (nm : List UInt8) (l : List (List UInt8)) : ∀ out, (addTs out b nm l).length ≤ out.length + l.length := by
  induction l with
  | nil => exact fun out => Nat.le_refl _
  | cons x l ih =>
    intro out
    unfold addTs
    refine Nat.le_trans (ih _) ?_
    rw [List.length_cons]
    split
    · have := addT_len out x; omega
    · omega
theorem frees_len : ∀ (ks : List Tm) (out : List (List UInt8)) (b : Bool) (s : List UInt8), (∀ k ∈ ks, k.free.length ≤ k.w) → (Tm.frees ks out b s).length ≤ out.length + (ks.map Tm.w).sum
  | [], out, b, s, _ => by unfold Tm.frees; simp
  | t :: ts, out, b, s, h => by
    unfold Tm.frees
    refine Nat.le_trans (frees_len ts _ b s fun k hk => h k (List.mem_cons_of_mem _ hk)) ?_
    have := addTs_len (b && ts.isEmpty) s t.free out
    have := h t (List.mem_cons_self ..)
    rw [List.map_cons, List.sum_cons]
    omega
theorem free_len : ∀ t : Tm, t.free.length ≤ t.w := by
  refine Tm.ind fun t ih => ?_
  rw [Tm.free_eq, Tm.w_eq]
  refine Nat.le_trans (frees_len _ _ _ _ ih) ?_
  split <;> simp <;> omega

set_option maxHeartbeats 1000000 in
/-- chancelref03.Free -/
theorem c21 (Γ : Nat → PV) : ∀ t : Tm, t.w ≤ 500000000000 → Gives Tryd.prog Γ 21 [.agg t.enc] (.vec (t.free.map S1) false) := by
  refine Tm.ind fun t ih hw => ?_
  have hkw := Tm.kids_w t
  have hwe := Tm.w_eq t
  have hfe := Tm.free_eq t
  refine fn_of_awp Tryd.func21 rfl (by simp [Tryd.f21]) rfl fun H => ?_
  refine awp_seq ?_
  refine awp_run rfl (by simp only [fwA, ↓reduceIte, Nat.reduceAdd, Nat.reduceMul, Nat.reduceEqDiff, Nat.reduceLT, Nat.reduceLeDiff, reduceCtorEq, Tm.fw] <;> rfl) ?_
  refine awp_seq ?_
  refine awp_run rfl (by simp only [fwA, ↓reduceIte, Nat.reduceAdd, Nat.reduceMul, Nat.reduceEqDiff, Nat.reduceLT, Nat.reduceLeDiff, reduceCtorEq] <;> rfl) ?_
  refine awp_seq ?_
  refine AWP.mono (Q := fun e A' H' D' => e = .normal ∧ akeep [1, 3] A' = [(1, .ptr H.length 0), (3, .vec ((if t.kind = 2 then [t.name] else []).map S1) false)] ∧ H' = H ++ [.box t.enc] ∧ D' = []) ?_ fun e A' H' D' hq => ?_
  · refine awp_seq ?_
    refine awp_run rfl (by simp only [fwA, ↓reduceIte, Nat.reduceAdd, Nat.reduceMul, Nat.reduceEqDiff, Nat.reduceLT, Nat.reduceLeDiff, reduceCtorEq, fl28_0, ti3, Tm.fw] <;> rfl) ?_
    refine awp_cond (by simp only [fwA, ↓reduceIte, Nat.reduceAdd, Nat.reduceMul, Nat.reduceEqDiff, Nat.reduceLT, Nat.reduceLeDiff, reduceCtorEq] <;> rfl) ?_
    by_cases k2 : t.kind = 2
    · simp only [k2, decide_true, ↓reduceIte]
      refine awp_region rfl ?_
      refine aops_run 4 (by simp only [fwA, ↓reduceIte, Nat.reduceAdd, Nat.reduceMul, Nat.reduceEqDiff, Nat.reduceLT, Nat.reduceLeDiff, reduceCtorEq, fl28_1, ti9, un37, Tm.fw] <;> rfl) ?_
      refine aops_one rfl (os_appendVV (es := []) (fs := [[.str t.name]]) rfl un37 ti9 un37 rfl (fun e he => by cases he) rfl (fun e he => by simp only [List.mem_singleton] at he; subst he; rfl) (by show (0 + 1) * 16 ≤ _; omega) (by show 0 + 1 ≤ _; omega) ?_)
      refine aops_run 1 (by simp only [fwA, ↓reduceIte, Nat.reduceAdd, Nat.reduceMul, Nat.reduceEqDiff, Nat.reduceLT, Nat.reduceLeDiff, reduceCtorEq] <;> rfl) ?_
      exact ⟨rfl, rfl, rfl, rfl⟩
    · simp only [k2, decide_false, Bool.false_eq_true, ↓reduceIte]
      refine awp_told (told_le 3 (.vec [] false) ⟨nofun, PV.leLL_refl _⟩) ?_
      refine awp_skip ?_
      exact ⟨rfl, rfl, rfl, rfl⟩
  obtain ⟨rfl, hA, rfl, rfl⟩ := hq
  refine awp_keep _ hA ?_
  have ho : (if t.kind = 2 then [t.name] else []).length ≤ 1 := by split <;> simp
  generalize (if t.kind = 2 then [t.name] else []) = out0 at ho hfe ⊢
  refine awp_seq ?_
  refine awp_seq ?_
  refine awp_run rfl (by simp only [fwA, ↓reduceIte, Nat.reduceAdd, Nat.reduceMul, Nat.reduceEqDiff, Nat.reduceLT, Nat.reduceLeDiff, reduceCtorEq] <;> rfl) ?_
  refine awp_block ?_
  refine awp_for [1, 3, 4] (fun s : Nat × List (List UInt8) => [.ptr H.length 0, .vec (s.2.map S1) false, .int .i64 s.1]) (fun _ => H ++ [.box t.enc]) (fun s => t.kids.length - s.1)
    (fun s => s.1 ≤ t.kids.length ∧ Tm.frees (t.kids.drop s.1) s.2 t.binder t.name = t.free ∧ s.2.length + ((t.kids.drop s.1).map Tm.w).sum ≤ t.w) (0, out0) rfl rfl ⟨Nat.zero_le _, by rw [hfe]; rfl, by dsimp only; rw [List.drop_zero]; omega⟩ fun s hs => ?_
  obtain ⟨i, out⟩ := s
  obtain ⟨hi, hfr, hln⟩ := hs
  dsimp only at hi hfr hln ⊢
  refine awp_seq ?_
  refine awp_seq ?_
  refine awp_run rfl (by simp only [fwA, ↓reduceIte, Nat.reduceAdd, Nat.reduceMul, Nat.reduceEqDiff, Nat.reduceLT, Nat.reduceLeDiff, reduceCtorEq, fl28_3, ti26, un26, Tm.fw, List.length_map] <;> rfl) ?_
  refine awp_cond (by simp only [fwA, ↓reduceIte, Nat.reduceAdd, Nat.reduceMul, Nat.reduceEqDiff, Nat.reduceLT, Nat.reduceLeDiff, reduceCtorEq] <;> rfl) ?_
  by_cases hc : (i : Int) < t.kids.length
  rotate_left
  · simp only [hc, decide_false, Bool.false_eq_true, ↓reduceIte]
    refine awp_exit ?_
    have hie : i = t.kids.length := by omega
    rw [hie, List.drop_length] at hfr
    unfold Tm.frees at hfr
    refine awp_seq (awp_run rfl (by simp only [fwA, ↓reduceIte, Nat.reduceAdd, Nat.reduceMul, Nat.reduceEqDiff, Nat.reduceLT, Nat.reduceLeDiff, reduceCtorEq] <;> rfl) (awp_ret ?_))
    exact gives_end (.inl rfl) _ (by rw [← hfr]; rfl)
  simp only [hc, decide_true, ↓reduceIte]
  refine awp_skip ?_
  have hia : i < t.kids.length := by omega
  have ga : t.kids[i]? = some t.kids[i] := List.getElem?_eq_getElem hia
  have hdr : t.kids.drop i = t.kids[i] :: t.kids.drop (i + 1) := List.drop_eq_getElem_cons hia
  have hem : (t.kids.drop (i + 1)).isEmpty = decide (i + 1 = t.kids.length) := by
    by_cases h : i + 1 = t.kids.length
    · rw [decide_eq_true h, h, List.drop_length]; rfl
    · rw [decide_eq_false h, List.drop_eq_getElem_cons (by omega)]; rfl
  rw [hdr] at hfr hln
  unfold Tm.frees at hfr
  rw [hem] at hfr
  rw [List.map_cons, List.sum_cons] at hln
  have hkw := Tm.kid_w (List.getElem_mem hia)
  have hkf := free_len t.kids[i]
  have h21 := ih t.kids[i] (List.getElem_mem hia) (by omega)
  generalize t.kids[i].free = fk at hfr hkf h21
  have hwr : IntKind.i64.wrap ((t.kids.length : Int) - 1) = (t.kids.length : Int) - 1 := wrapId ⟨by omega, by omega⟩
  refine awp_seq ?_
  refine awp_block ?_
  refine awp_seq ?_
  refine awp_region rfl ?_
  refine aops_run 5 (by simp only [fwA, ↓reduceIte, Nat.reduceAdd, Nat.reduceMul, Nat.reduceEqDiff, Nat.reduceLT, Nat.reduceLeDiff, reduceCtorEq, fl28_3, ti26, el26, ti28, Tm.fw, List.getElem?_map, ga, Option.map_some, Int.natCast_nonneg] <;> rfl) ?_
  refine aops_fn rfl rfl rfl en21 h21 ?_
  refine aops_run 1 (by simp only [fwA, ↓reduceIte, Nat.reduceAdd, Nat.reduceMul, Nat.reduceEqDiff, Nat.reduceLT, Nat.reduceLeDiff, reduceCtorEq] <;> rfl) ?_
  refine awp_seq ?_
  refine AWP.mono (Q := fun e A' H' D' => e = .normal ∧ akeep [1, 3, 4, 5, 6] A' = [(1, .ptr H.length 0), (3, .vec (out.map S1) false), (4, .int .i64 i), (5, .vec (fk.map S1) false), (6, .bool (t.binder && decide (i + 1 = t.kids.length)))] ∧ H' = H ++ [.box t.enc] ∧ D' = []) ?_ fun e A' H' D' hq => ?_
  · refine awp_region rfl ?_
    refine aops_run 1 (by simp only [fwA, ↓reduceIte, Nat.reduceAdd, Nat.reduceMul, Nat.reduceEqDiff, Nat.reduceLT, Nat.reduceLeDiff, reduceCtorEq, ti28, Tm.fw] <;> rfl) ?_
    refine aops_fn rfl rfl rfl en23 (c23 Γ t) ?_
    cases hb : t.binder with
    | false =>
      refine aops_run 9 (by simp only [fwA, ↓reduceIte, Nat.reduceAdd, Nat.reduceMul, Nat.reduceEqDiff, Nat.reduceLT, Nat.reduceLeDiff, reduceCtorEq] <;> rfl) ?_
      exact ⟨rfl, rfl, rfl, rfl⟩
    | true =>
      have hd : decide ((i : Int) = (t.kids.length : Int) - 1) = decide (i + 1 = t.kids.length) := decide_eq_decide.2 (by omega)
      refine aops_run 9 (by simp only [fwA, ↓reduceIte, Nat.reduceAdd, Nat.reduceMul, Nat.reduceEqDiff, Nat.reduceLT, Nat.reduceLeDiff, reduceCtorEq, fl28_3, ti26, un26, Tm.fw, List.length_map, hwr, hd] <;> rfl) ?_
      exact ⟨rfl, by simp [akeep, alook, aput, ev], rfl, rfl⟩
  obtain ⟨rfl, hA, rfl, rfl⟩ := hq
  refine awp_keep _ hA ?_
  generalize (t.binder && decide (i + 1 = t.kids.length)) = bd at hfr ⊢
  obtain ⟨R, hR⟩ : ∃ R, addTs out bd t.name fk = R := ⟨_, rfl⟩
  rw [hR] at hfr
  refine awp_seq ?_
  refine awp_run rfl (by simp only [fwA, ↓reduceIte, Nat.reduceAdd, Nat.reduceMul, Nat.reduceEqDiff, Nat.reduceLT, Nat.reduceLeDiff, reduceCtorEq] <;> rfl) ?_
  refine awp_block ?_
  refine awp_for [1, 3, 4, 5, 6, 7] (fun s : Nat × List (List UInt8) => [.ptr H.length 0, .vec (s.2.map S1) false, .int .i64 i, .vec (fk.map S1) false, .bool bd, .int .i64 s.1]) (fun _ => H ++ [.box t.enc]) (fun s => fk.length - s.1)
    (fun s => s.1 ≤ fk.length ∧ addTs s.2 bd t.name (fk.drop s.1) = R ∧ s.2.length + (fk.length - s.1) ≤ out.length + fk.length) (0, out) rfl rfl ⟨Nat.zero_le _, hR, Nat.le_refl _⟩ fun s hs => ?_
  obtain ⟨k, o2⟩ := s
  obtain ⟨hk, had, hln2⟩ := hs
  dsimp only at hk had hln2 ⊢
  refine awp_seq ?_
  refine awp_seq ?_
  refine awp_run rfl (by simp only [fwA, ↓reduceIte, Nat.reduceAdd, Nat.reduceMul, Nat.reduceEqDiff, Nat.reduceLT, Nat.reduceLeDiff, reduceCtorEq, un37, List.length_map] <;> rfl) ?_
  refine awp_cond (by simp only [fwA, ↓reduceIte, Nat.reduceAdd, Nat.reduceMul, Nat.reduceEqDiff, Nat.reduceLT, Nat.reduceLeDiff, reduceCtorEq] <;> rfl) ?_
  by_cases hc2 : (k : Int) < fk.length
  rotate_left
  · simp only [hc2, decide_false, Bool.false_eq_true, ↓reduceIte]
    refine awp_exit ?_
    have hke : k = fk.length := by omega
    rw [hke, List.drop_length] at had
    unfold addTs at had
    rw [← had] at hfr
    refine awp_run rfl (by simp only [fwA, ↓reduceIte, Nat.reduceAdd, Nat.reduceMul, Nat.reduceEqDiff, Nat.reduceLT, Nat.reduceLeDiff, reduceCtorEq] <;> rfl) ?_
    exact ⟨(i + 1, o2), by dsimp only; omega, ⟨by dsimp only; omega, hfr, by dsimp only; omega⟩, by rw [wrapS i (by omega)]; rfl, rfl, rfl⟩
  simp only [hc2, decide_true, ↓reduceIte]
  refine awp_skip ?_
  have hka : k < fk.length := by omega
  have gk : fk[k]? = some fk[k] := List.getElem?_eq_getElem hka
  rw [List.drop_eq_getElem_cons hka] at had
  unfold addTs at had
  generalize fk[k] = x at gk had
  have hadl := addT_len o2 x
  have h36 := c36 Γ o2 x (by omega)
  refine awp_seq ?_
  refine awp_block ?_
  refine awp_seq ?_
  refine AWP.mono (Q := fun e A' H' D' => e = .normal ∧ akeep [1, 3, 4, 5, 6, 7, 55] A' = [(1, .ptr H.length 0), (3, .vec (o2.map S1) false), (4, .int .i64 i), (5, .vec (fk.map S1) false), (6, .bool bd), (7, .int .i64 k), (55, .bool (!bd || !decide (x = t.name)))] ∧ H' = H ++ [.box t.enc] ∧ D' = []) ?_ fun e A' H' D' hq => ?_
  · cases bd with
    | false => exact awp_drun [0, 0, 0, 0, 0, 0, 1, 0, 1, 0, 0] [0, 1, 3, 7, 7, 31, 63, 7, 135, 511, 1023] mixed rfl (by kernel_rfl) (by simp only [fwA, ↓reduceIte, Nat.reduceAdd, Nat.reduceMul, Nat.reduceEqDiff, Nat.reduceLT, Nat.reduceLeDiff, reduceCtorEq, el37, ti9, fl28_1] <;> rfl) ⟨rfl, by simp [akeep, alook, aput, ev], rfl, rfl⟩
    | true => exact awp_drun [0, 0, 0, 0, 0, 0, 1, 0, 1, 0, 0] [0, 1, 3, 7, 7, 31, 63, 7, 135, 511, 1023] mixed rfl (by kernel_rfl) (by simp only [fwA, ↓reduceIte, Nat.reduceAdd, Nat.reduceMul, Nat.reduceEqDiff, Nat.reduceLT, Nat.reduceLeDiff, reduceCtorEq, el37, ti9, fl28_1, Tm.fw, List.getElem?_map, gk, Option.map_some, Int.natCast_nonneg, S1_fw] <;> rfl) ⟨rfl, by simp [akeep, alook, aput, ev], rfl, rfl⟩
  obtain ⟨rfl, hA, rfl, rfl⟩ := hq
  refine awp_keep _ hA ?_
  generalize (!bd || !decide (x = t.name)) = go at had ⊢
  cases go with
  | true =>
    refine awp_cond (b := true) rfl ?_
    refine awp_region rfl ?_
    refine aops_run 5 (by simp only [fwA, ↓reduceIte, Nat.reduceAdd, Nat.reduceMul, Nat.reduceEqDiff, Nat.reduceLT, Nat.reduceLeDiff, reduceCtorEq, el37, ti9, List.getElem?_map, gk, Option.map_some, Int.natCast_nonneg, S1_fw] <;> rfl) ?_
    refine aops_fn rfl rfl rfl en36 h36 ?_
    refine aops_run 1 (by simp only [fwA, ↓reduceIte, Nat.reduceAdd, Nat.reduceMul, Nat.reduceEqDiff, Nat.reduceLT, Nat.reduceLeDiff, reduceCtorEq] <;> rfl) ?_
    refine awp_run rfl (by simp only [fwA, ↓reduceIte, Nat.reduceAdd, Nat.reduceMul, Nat.reduceEqDiff, Nat.reduceLT, Nat.reduceLeDiff, reduceCtorEq] <;> rfl) ?_
    exact ⟨(k + 1, addT o2 x), by dsimp only; omega, ⟨by dsimp only; omega, by simpa using had, by dsimp only; omega⟩, by rw [wrapS k (by omega)]; rfl, rfl, rfl⟩
  | false =>
    refine awp_cond (b := false) rfl (awp_skip ?_)
    refine awp_run rfl (by simp only [fwA, ↓reduceIte, Nat.reduceAdd, Nat.reduceMul, Nat.reduceEqDiff, Nat.reduceLT, Nat.reduceLeDiff, reduceCtorEq] <;> rfl) ?_
    exact ⟨(k + 1, o2), by dsimp only; omega, ⟨by dsimp only; omega, by simpa using had, by dsimp only; omega⟩, by rw [wrapS k (by omega)]; rfl, rfl, rfl⟩

end Go.Proofs.YtlbmlhpjibgepaaDoor
