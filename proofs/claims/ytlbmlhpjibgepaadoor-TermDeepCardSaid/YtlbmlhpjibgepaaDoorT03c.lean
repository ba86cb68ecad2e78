/- The laws on two terms in one, and on what binds a name. -/
import Derived.Test.YtlbmlhpjibgepaaDoorT03b
namespace Go.Proofs.YtlbmlhpjibgepaaDoor
set_option linter.unusedVariables false
set_option linter.unusedSimpArgs false
set_option maxRecDepth 100000
open Go.RowKit Fw

def twoT' (k : Int) (nm : List UInt8) (a b : Tm) : Tm := .mk k nm 0 [a, b]
theorem two_w (k : Int) (nm : List UInt8) (a b : Tm) : (Tm.mk k nm 0 [a, b]).w = 1 + a.w + b.w := by
  rw [Tm.w_eq]; show ([a, b].map Tm.w).sum + 1 = _; simp only [List.map_cons, List.map_nil, List.sum_cons, List.sum_nil]; omega
theorem one_w (k : Int) (nm : List UInt8) (a : Tm) : (Tm.mk k nm 0 [a]).w = 1 + a.w := by
  rw [Tm.w_eq]; show ([a].map Tm.w).sum + 1 = _; simp only [List.map_cons, List.map_nil, List.sum_cons, List.sum_nil]; omega
theorem two_dep (k : Int) (nm : List UInt8) (a b : Tm) : (Tm.mk k nm 0 [a, b]).dep = 1 + max a.dep b.dep := by
  rw [Tm.dep_eq]; show maxL [a.dep, b.dep] + 1 = _; rw [maxL_cons, maxL_cons]; show max a.dep (max b.dep 0) + 1 = _; omega
theorem mem_two {k : Int} {nm s : List UInt8} {a b : Tm} (h2 : k ≠ 2) (hb : (k = 3 ∨ k = 5 ∨ k = 9) ↔ False) : s ∈ (Tm.mk k nm 0 [a, b]).free ↔ s ∈ a.free ∨ s ∈ b.free := by
  rw [mem_free]
  have hbf : (Tm.mk k nm 0 [a, b]).binder = false := by
    have h3 : ¬ k = 3 := fun h => hb.1 (.inl h)
    have h5 : ¬ k = 5 := fun h => hb.1 (.inr (.inl h))
    have h9 : ¬ k = 9 := fun h => hb.1 (.inr (.inr h))
    show (decide (k = 3) || decide (k = 5) || decide (k = 9)) = false
    rw [decide_eq_false h3, decide_eq_false h5, decide_eq_false h9]; rfl
  rw [hbf]
  constructor
  · rintro (h | ⟨i, kk, h1, h2', _⟩)
    · exact absurd h.1 h2
    · match i, h1 with
      | 0, h1 => cases h1; exact .inl h2'
      | 1, h1 => cases h1; exact .inr h2'
  · rintro (h | h)
    · exact .inr ⟨0, a, rfl, h, fun h => nomatch h.1⟩
    · exact .inr ⟨1, b, rfl, h, fun h => nomatch h.1⟩
theorem mem_bind2 {k : Int} {nm s : List UInt8} {a b : Tm} (hk : k = 5 ∨ k = 9) : s ∈ (Tm.mk k nm 0 [a, b]).free ↔ s ∈ a.free ∨ (s ∈ b.free ∧ s ≠ nm) := by
  rw [mem_free]
  have hbt : (Tm.mk k nm 0 [a, b]).binder = true := by rcases hk with rfl | rfl <;> rfl
  have h2 : ¬ k = 2 := by omega
  rw [hbt]
  constructor
  · rintro (h | ⟨i, kk, h1, h2', h3⟩)
    · exact absurd h.1 h2
    · match i, h1 with
      | 0, h1 => cases h1; exact .inl h2'
      | 1, h1 => cases h1; exact .inr ⟨h2', fun e => h3 ⟨rfl, rfl, e⟩⟩
  · rintro (h | ⟨h, hn⟩)
    · exact .inr ⟨0, a, rfl, h, fun h => nomatch h.2.1⟩
    · exact .inr ⟨1, b, rfl, h, fun h => hn h.2.2⟩
theorem mem_bind1 {nm s : List UInt8} {a : Tm} : s ∈ (Tm.mk 3 nm 0 [a]).free ↔ s ∈ a.free ∧ s ≠ nm := by
  rw [mem_free]
  constructor
  · rintro (h | ⟨i, kk, h1, h2', h3⟩)
    · exact absurd h.1 (show ¬ (3 : Int) = 2 by decide)
    · match i, h1 with
      | 0, h1 => cases h1; exact ⟨h2', fun e => h3 ⟨rfl, rfl, e⟩⟩
  · rintro ⟨h, hn⟩
    exact .inr ⟨0, a, rfl, h, fun h => hn h.2.2⟩
theorem right_kid {t k : Tm} (h : RightT t) (hk : k ∈ t.kids) : RightT k := by
  refine ⟨?_, ?_, h.2.2.kids k hk⟩
  · have h1 := h.1
    rw [Tm.dep_eq] at h1
    have : k.dep ≤ maxL (t.kids.map Tm.dep) := by
      have hm : ∀ (l : List Tm), k ∈ l → k.dep ≤ maxL (l.map Tm.dep) := fun l => by
        induction l with
        | nil => intro h; cases h
        | cons x l ih =>
          intro h
          rw [List.map_cons, maxL_cons]
          rcases List.mem_cons.1 h with rfl | h
          · omega
          · have := ih h; omega
      exact hm _ hk
    omega
  · have := Tm.kid_w hk; have := h.2.1; omega
theorem geD (a b : List UInt8) (h : a < b) : (!Op.bytesLess a b) = false := by rw [lessD, decide_eq_true h]; rfl

set_option maxHeartbeats 4000000 in
/-- TermSums -/
theorem c5 (Γ : Nat → PV) (hΓ : Tab Γ) (A B : Tm) (wA : A.w ≤ 2000000) (wB : B.w ≤ 2000000) : Gives Tryd.prog Γ 5 [.agg A.enc, .agg B.enc] (.bool true) := by
  have h24 := c24e Γ 13 [] A B
  have hTw := two_w 13 [] A B
  have hTd := two_dep 13 [] A B
  have hdA := Tm.dep_w A
  have hdB := Tm.dep_w B
  have hTm : ∀ s, s ∈ (Tm.mk 13 [] 0 [A, B]).free ↔ s ∈ A.free ∨ s ∈ B.free := fun s => mem_two (by decide) (by decide)
  have hTr := rising_free (Tm.mk 13 [] 0 [A, B])
  have hlT := free_len (Tm.mk 13 [] 0 [A, B])
  have hlA := free_len A
  have hlB := free_len B
  have hRA : RightT (Tm.mk 13 [] 0 [A, B]) → RightT A := fun h => right_kid h (List.mem_cons_self ..)
  have hRB : RightT (Tm.mk 13 [] 0 [A, B]) → RightT B := fun h => right_kid h (List.mem_cons_of_mem _ (List.mem_cons_self ..))
  generalize hT : Tm.mk 13 [] 0 [A, B] = T at h24 hTw hTd hTm hTr hlT hRA hRB
  have a11 := c11 Γ A (by omega)
  have b11 := c11 Γ B (by omega)
  have t11 := c11 Γ T (by omega)
  have a13 := c13 Γ A (by omega)
  have b13 := c13 Γ B (by omega)
  have t13 := c13 Γ T (by omega)
  have a15 := c15 Γ hΓ A (by omega)
  have b15 := c15 Γ hΓ B (by omega)
  have t15 := c15 Γ hΓ T (by omega)
  have a20 := c20 Γ A (by omega)
  have b20 := c20 Γ B (by omega)
  have t20 := c20 Γ T (by omega)
  generalize A.free = n at hTm a20 hlA
  generalize B.free = m at hTm b20 hlB
  generalize T.free = f at hTm hTr t20 hlT
  refine fn_of_awp Tryd.func5 rfl (by simp [Tryd.f5]) rfl fun H => ?_
  refine awp_seq ?_
  refine awp_run rfl (by simp only [fwA, ↓reduceIte, Nat.reduceAdd, Nat.reduceMul, Nat.reduceEqDiff, Nat.reduceLT, Nat.reduceLeDiff, reduceCtorEq, Tm.fw] <;> rfl) ?_
  refine awp_seq ?_
  refine awp_region rfl ?_
  refine aops_fn rfl rfl rfl en9 (c9 Γ hΓ) ?_
  refine aops_run 1 (by simp only [fwA, ↓reduceIte, Nat.reduceAdd, Nat.reduceMul, Nat.reduceEqDiff, Nat.reduceLT, Nat.reduceLeDiff, reduceCtorEq] <;> rfl) ?_
  refine awp_seq ?_
  refine awp_seq ?_
  refine awp_run rfl (by simp only [fwA, ↓reduceIte, Nat.reduceAdd, Nat.reduceMul, Nat.reduceEqDiff, Nat.reduceLT, Nat.reduceLeDiff, reduceCtorEq] <;> rfl) ?_
  refine awp_cond (b := false) (by simp [alook, aput, ev]) (awp_skip ?_)
  refine awp_seq ?_
  refine awp_region rfl ?_
  refine aops_run 2 (by simp only [fwA, ↓reduceIte, Nat.reduceAdd, Nat.reduceMul, Nat.reduceEqDiff, Nat.reduceLT, Nat.reduceLeDiff, reduceCtorEq, Tm.fw, ti24, ti28, ti9, ti3, un4, un3, un37, un22, pl24, decide_true, decide_false, beq_self_eq_true, Bool.not_true, Bool.not_false, Bool.and_self] <;> rfl) ?_
  refine aops_fn rfl rfl rfl en24 h24 ?_
  refine aops_run 2 (by simp only [fwA, ↓reduceIte, Nat.reduceAdd, Nat.reduceMul, Nat.reduceEqDiff, Nat.reduceLT, Nat.reduceLeDiff, reduceCtorEq, Tm.fw, ti24, ti28, ti9, ti3, un4, un3, un37, un22, pl24, decide_true, decide_false, beq_self_eq_true, Bool.not_true, Bool.not_false, Bool.and_self] <;> rfl) ?_
  refine aops_end ?_
  refine awp_keep (A' := [(2, .ptr H.length 0), (3, .ptr (H.length + 1) 0), (5, .bool true), (6, .ptr (H.length + 2) 0)]) [2, 3, 5, 6] (by simp [akeep, alook, aput, ev]) ?_
  refine awp_heap (H' := H ++ [.box A.enc, .box B.enc, .box T.enc]) (by simp) ?_
  refine awp_seq ?_
  refine awp_region rfl ?_
  refine aops_run 1 (by simp only [fwA, ↓reduceIte, Nat.reduceAdd, Nat.reduceMul, Nat.reduceEqDiff, Nat.reduceLT, Nat.reduceLeDiff, reduceCtorEq, Tm.fw, ti24, ti28, ti9, ti3, un4, un3, un37, un22, pl24, decide_true, decide_false, beq_self_eq_true, Bool.not_true, Bool.not_false, Bool.and_self] <;> rfl) ?_
  refine aops_fn rfl rfl rfl en20 a20 ?_
  refine aops_run 1 (by simp only [fwA, ↓reduceIte, Nat.reduceAdd, Nat.reduceMul, Nat.reduceEqDiff, Nat.reduceLT, Nat.reduceLeDiff, reduceCtorEq, Tm.fw, ti24, ti28, ti9, ti3, un4, un3, un37, un22, pl24, decide_true, decide_false, beq_self_eq_true, Bool.not_true, Bool.not_false, Bool.and_self] <;> rfl) ?_
  refine aops_end ?_
  refine awp_seq ?_
  refine awp_region rfl ?_
  refine aops_run 1 (by simp only [fwA, ↓reduceIte, Nat.reduceAdd, Nat.reduceMul, Nat.reduceEqDiff, Nat.reduceLT, Nat.reduceLeDiff, reduceCtorEq, Tm.fw, ti24, ti28, ti9, ti3, un4, un3, un37, un22, pl24, decide_true, decide_false, beq_self_eq_true, Bool.not_true, Bool.not_false, Bool.and_self] <;> rfl) ?_
  refine aops_fn rfl rfl rfl en20 b20 ?_
  refine aops_run 1 (by simp only [fwA, ↓reduceIte, Nat.reduceAdd, Nat.reduceMul, Nat.reduceEqDiff, Nat.reduceLT, Nat.reduceLeDiff, reduceCtorEq, Tm.fw, ti24, ti28, ti9, ti3, un4, un3, un37, un22, pl24, decide_true, decide_false, beq_self_eq_true, Bool.not_true, Bool.not_false, Bool.and_self] <;> rfl) ?_
  refine aops_end ?_
  refine awp_seq ?_
  refine awp_region rfl ?_
  refine aops_run 1 (by simp only [fwA, ↓reduceIte, Nat.reduceAdd, Nat.reduceMul, Nat.reduceEqDiff, Nat.reduceLT, Nat.reduceLeDiff, reduceCtorEq, Tm.fw, ti24, ti28, ti9, ti3, un4, un3, un37, un22, pl24, decide_true, decide_false, beq_self_eq_true, Bool.not_true, Bool.not_false, Bool.and_self] <;> rfl) ?_
  refine aops_fn rfl rfl rfl en20 t20 ?_
  refine aops_run 1 (by simp only [fwA, ↓reduceIte, Nat.reduceAdd, Nat.reduceMul, Nat.reduceEqDiff, Nat.reduceLT, Nat.reduceLeDiff, reduceCtorEq, Tm.fw, ti24, ti28, ti9, ti3, un4, un3, un37, un22, pl24, decide_true, decide_false, beq_self_eq_true, Bool.not_true, Bool.not_false, Bool.and_self] <;> rfl) ?_
  refine aops_end ?_
  refine awp_seq ?_
  refine awp_seq ?_
  refine awp_run rfl (by simp only [fwA, ↓reduceIte, Nat.reduceAdd, Nat.reduceMul, Nat.reduceEqDiff, Nat.reduceLT, Nat.reduceLeDiff, reduceCtorEq] <;> rfl) ?_
  obtain ⟨L, hL⟩ : ∃ L, [Blk.box A.enc, Blk.box B.enc, Blk.box T.enc] = L := ⟨_, rfl⟩
  rw [hL]
  refine awp_block ?_
  refine awp_for [2, 3, 5, 6, 7, 8, 9, 10] (fun i : Nat => [.ptr H.length 0, .ptr (H.length + 1) 0, .bool true, .ptr (H.length + 2) 0, .vec (n.map S1) false, .vec (m.map S1) false, .vec (f.map S1) false, .int .i64 i]) (fun _ => H ++ L) (fun i => f.length - i) (fun i => i ≤ f.length) 0 (by simp [alook, aput, ev]) rfl (Nat.zero_le _) fun i hi => ?_
  refine awp_seq ?_
  refine awp_seq ?_
  refine awp_run rfl (by simp only [fwA, ↓reduceIte, Nat.reduceAdd, Nat.reduceMul, Nat.reduceEqDiff, Nat.reduceLT, Nat.reduceLeDiff, reduceCtorEq, un37, List.length_map] <;> rfl) ?_
  refine awp_cond (by simp only [fwA, ↓reduceIte, Nat.reduceAdd, Nat.reduceMul, Nat.reduceEqDiff, Nat.reduceLT, Nat.reduceLeDiff, reduceCtorEq] <;> rfl) ?_
  by_cases hc : (i : Int) < f.length
  rotate_left
  · simp only [hc, decide_false, Bool.false_eq_true, ↓reduceIte]
    refine awp_exit ?_
    refine awp_seq ?_
    refine awp_seq ?_
    refine awp_run rfl (by simp only [fwA, ↓reduceIte, Nat.reduceAdd, Nat.reduceMul, Nat.reduceEqDiff, Nat.reduceLT, Nat.reduceLeDiff, reduceCtorEq] <;> rfl) ?_
    refine awp_block ?_
    refine awp_for [2, 3, 5, 6, 7, 8, 9, 11] (fun i : Nat => [.ptr H.length 0, .ptr (H.length + 1) 0, .bool true, .ptr (H.length + 2) 0, .vec (n.map S1) false, .vec (m.map S1) false, .vec (f.map S1) false, .int .i64 i]) (fun _ => H ++ L) (fun i => n.length - i) (fun i => i ≤ n.length) 0 (by simp [alook, aput, ev]) rfl (Nat.zero_le _) fun i hi => ?_
    refine awp_seq ?_
    refine awp_seq ?_
    refine awp_run rfl (by simp only [fwA, ↓reduceIte, Nat.reduceAdd, Nat.reduceMul, Nat.reduceEqDiff, Nat.reduceLT, Nat.reduceLeDiff, reduceCtorEq, un37, List.length_map] <;> rfl) ?_
    refine awp_cond (by simp only [fwA, ↓reduceIte, Nat.reduceAdd, Nat.reduceMul, Nat.reduceEqDiff, Nat.reduceLT, Nat.reduceLeDiff, reduceCtorEq] <;> rfl) ?_
    by_cases hc : (i : Int) < n.length
    rotate_left
    · simp only [hc, decide_false, Bool.false_eq_true, ↓reduceIte]
      refine awp_exit ?_
      refine awp_seq ?_
      refine awp_seq ?_
      refine awp_run rfl (by simp only [fwA, ↓reduceIte, Nat.reduceAdd, Nat.reduceMul, Nat.reduceEqDiff, Nat.reduceLT, Nat.reduceLeDiff, reduceCtorEq] <;> rfl) ?_
      refine awp_block ?_
      refine awp_for [2, 3, 5, 6, 7, 8, 9, 12] (fun i : Nat => [.ptr H.length 0, .ptr (H.length + 1) 0, .bool true, .ptr (H.length + 2) 0, .vec (n.map S1) false, .vec (m.map S1) false, .vec (f.map S1) false, .int .i64 i]) (fun _ => H ++ L) (fun i => m.length - i) (fun i => i ≤ m.length) 0 (by simp [alook, aput, ev]) rfl (Nat.zero_le _) fun i hi => ?_
      refine awp_seq ?_
      refine awp_seq ?_
      refine awp_run rfl (by simp only [fwA, ↓reduceIte, Nat.reduceAdd, Nat.reduceMul, Nat.reduceEqDiff, Nat.reduceLT, Nat.reduceLeDiff, reduceCtorEq, un37, List.length_map] <;> rfl) ?_
      refine awp_cond (by simp only [fwA, ↓reduceIte, Nat.reduceAdd, Nat.reduceMul, Nat.reduceEqDiff, Nat.reduceLT, Nat.reduceLeDiff, reduceCtorEq] <;> rfl) ?_
      by_cases hc : (i : Int) < m.length
      rotate_left
      · simp only [hc, decide_false, Bool.false_eq_true, ↓reduceIte]
        refine awp_exit ?_
        subst hL
        have e1 : IntKind.i64.wrap (1 + (A.w : Int)) = 1 + (A.w : Int) := wrapId ⟨by omega, by omega⟩
        have e2 : IntKind.i64.wrap (1 + (A.w : Int) + (B.w : Int)) = (T.w : Int) := by rw [wrapId ⟨by omega, by omega⟩]; omega
        have e3 : IntKind.i64.wrap (1 + ((max A.dep B.dep : Nat) : Int)) = (T.dep : Int) := by rw [wrapId ⟨by omega, by omega⟩]; omega
        refine awp_seq ?_
        by_cases hr : RightT T
        · rw [decide_eq_true hr] at t15
          rw [decide_eq_true (hRA hr)] at a15
          rw [decide_eq_true (hRB hr)] at b15
          refine awp_drawn [0, 0, 1, 0, 1, 0, 0, 1, 0, 0, 0, 0, 0, 1, 0, 1, 0, 1, 0, 0, 0, 0, 0, 0, 1, 0, 0, 0, 1, 0, 0, 1, 0, 0, 0, 0, 0] [0, 1, 3, 7, 3, 31, 63, 3, 191, 511, 1023, 2047, 4095, 8191, 16383, 8191, 65535, 8191, 262143, 524287, 1048575, 2097151, 4194303, 8388607, 16777215, 33554431, 67108863, 134217727, 268435455, 536870911, 1073741823, 2147483647, 4294967295, 8589934591, 17179869183, 34359738367, 68719476735] mixed rfl (by kernel_rfl) ?_
          refine dops_run 3 (by simp only [fwA, ↓reduceIte, Nat.reduceAdd, Nat.reduceMul, Nat.reduceEqDiff, Nat.reduceLT, Nat.reduceLeDiff, reduceCtorEq, Tm.fw, ti24, ti28, ti9, ti3, un4, un3, un37, un22, pl24, decide_true, decide_false, beq_self_eq_true, Bool.not_true, Bool.not_false, Bool.and_self, e1, e2, e3] <;> rfl) ?_
          refine dops_fn rfl (by simp only [fwA, ↓reduceIte, Nat.reduceAdd, Nat.reduceMul, Nat.reduceEqDiff, Nat.reduceLT, Nat.reduceLeDiff, reduceCtorEq] <;> rfl) rfl rfl en11 t11 ?_
          refine dops_run 1 (by simp only [fwA, ↓reduceIte, Nat.reduceAdd, Nat.reduceMul, Nat.reduceEqDiff, Nat.reduceLT, Nat.reduceLeDiff, reduceCtorEq, Tm.fw, ti24, ti28, ti9, ti3, un4, un3, un37, un22, pl24, decide_true, decide_false, beq_self_eq_true, Bool.not_true, Bool.not_false, Bool.and_self, e1, e2, e3] <;> rfl) ?_
          refine dops_fn rfl (by simp only [fwA, ↓reduceIte, Nat.reduceAdd, Nat.reduceMul, Nat.reduceEqDiff, Nat.reduceLT, Nat.reduceLeDiff, reduceCtorEq] <;> rfl) rfl rfl en11 a11 ?_
          refine dops_run 2 (by simp only [fwA, ↓reduceIte, Nat.reduceAdd, Nat.reduceMul, Nat.reduceEqDiff, Nat.reduceLT, Nat.reduceLeDiff, reduceCtorEq, Tm.fw, ti24, ti28, ti9, ti3, un4, un3, un37, un22, pl24, decide_true, decide_false, beq_self_eq_true, Bool.not_true, Bool.not_false, Bool.and_self, e1, e2, e3] <;> rfl) ?_
          refine dops_fn rfl (by simp only [fwA, ↓reduceIte, Nat.reduceAdd, Nat.reduceMul, Nat.reduceEqDiff, Nat.reduceLT, Nat.reduceLeDiff, reduceCtorEq] <;> rfl) rfl rfl en11 b11 ?_
          refine dops_run 5 (by simp only [fwA, ↓reduceIte, Nat.reduceAdd, Nat.reduceMul, Nat.reduceEqDiff, Nat.reduceLT, Nat.reduceLeDiff, reduceCtorEq, Tm.fw, ti24, ti28, ti9, ti3, un4, un3, un37, un22, pl24, decide_true, decide_false, beq_self_eq_true, Bool.not_true, Bool.not_false, Bool.and_self, e1, e2, e3] <;> rfl) ?_
          refine dops_fn rfl (by simp only [fwA, ↓reduceIte, Nat.reduceAdd, Nat.reduceMul, Nat.reduceEqDiff, Nat.reduceLT, Nat.reduceLeDiff, reduceCtorEq] <;> rfl) rfl rfl en13 t13 ?_
          refine dops_run 1 (by simp only [fwA, ↓reduceIte, Nat.reduceAdd, Nat.reduceMul, Nat.reduceEqDiff, Nat.reduceLT, Nat.reduceLeDiff, reduceCtorEq, Tm.fw, ti24, ti28, ti9, ti3, un4, un3, un37, un22, pl24, decide_true, decide_false, beq_self_eq_true, Bool.not_true, Bool.not_false, Bool.and_self, e1, e2, e3] <;> rfl) ?_
          refine dops_fn rfl (by simp only [fwA, ↓reduceIte, Nat.reduceAdd, Nat.reduceMul, Nat.reduceEqDiff, Nat.reduceLT, Nat.reduceLeDiff, reduceCtorEq] <;> rfl) rfl rfl en13 a13 ?_
          refine dops_run 1 (by simp only [fwA, ↓reduceIte, Nat.reduceAdd, Nat.reduceMul, Nat.reduceEqDiff, Nat.reduceLT, Nat.reduceLeDiff, reduceCtorEq, Tm.fw, ti24, ti28, ti9, ti3, un4, un3, un37, un22, pl24, decide_true, decide_false, beq_self_eq_true, Bool.not_true, Bool.not_false, Bool.and_self, e1, e2, e3] <;> rfl) ?_
          refine dops_fn rfl (by simp only [fwA, ↓reduceIte, Nat.reduceAdd, Nat.reduceMul, Nat.reduceEqDiff, Nat.reduceLT, Nat.reduceLeDiff, reduceCtorEq] <;> rfl) rfl rfl en13 b13 ?_
          refine dops_one (.int .i64 ((max A.dep B.dep : Nat) : Int)) (by simp only [fwA, ↓reduceIte, Nat.reduceAdd, Nat.reduceMul, Nat.reduceEqDiff, Nat.reduceLT, Nat.reduceLeDiff, reduceCtorEq] <;> rfl) rfl (fun H A' hev => os_max rfl ((hev _ (by simp [Op.operands, Call.operands])).trans rfl) ((hev _ (by simp [Op.operands, Call.operands])).trans rfl) ⟨by rw [max_of], rfl⟩) ?_
          refine dops_run 5 (by simp only [fwA, ↓reduceIte, Nat.reduceAdd, Nat.reduceMul, Nat.reduceEqDiff, Nat.reduceLT, Nat.reduceLeDiff, reduceCtorEq, Tm.fw, ti24, ti28, ti9, ti3, un4, un3, un37, un22, pl24, decide_true, decide_false, beq_self_eq_true, Bool.not_true, Bool.not_false, Bool.and_self, e1, e2, e3] <;> rfl) ?_
          refine dops_fn rfl (by simp only [fwA, ↓reduceIte, Nat.reduceAdd, Nat.reduceMul, Nat.reduceEqDiff, Nat.reduceLT, Nat.reduceLeDiff, reduceCtorEq] <;> rfl) rfl rfl en15 t15 ?_
          refine dops_run 3 (by simp only [fwA, ↓reduceIte, Nat.reduceAdd, Nat.reduceMul, Nat.reduceEqDiff, Nat.reduceLT, Nat.reduceLeDiff, reduceCtorEq, Tm.fw, ti24, ti28, ti9, ti3, un4, un3, un37, un22, pl24, decide_true, decide_false, beq_self_eq_true, Bool.not_true, Bool.not_false, Bool.and_self, e1, e2, e3] <;> rfl) ?_
          refine dops_fn rfl (by simp only [fwA, ↓reduceIte, Nat.reduceAdd, Nat.reduceMul, Nat.reduceEqDiff, Nat.reduceLT, Nat.reduceLeDiff, reduceCtorEq] <;> rfl) rfl rfl en15 a15 ?_
          refine dops_run 2 (by simp only [fwA, ↓reduceIte, Nat.reduceAdd, Nat.reduceMul, Nat.reduceEqDiff, Nat.reduceLT, Nat.reduceLeDiff, reduceCtorEq, Tm.fw, ti24, ti28, ti9, ti3, un4, un3, un37, un22, pl24, decide_true, decide_false, beq_self_eq_true, Bool.not_true, Bool.not_false, Bool.and_self, e1, e2, e3] <;> rfl) ?_
          refine dops_fn rfl (by simp only [fwA, ↓reduceIte, Nat.reduceAdd, Nat.reduceMul, Nat.reduceEqDiff, Nat.reduceLT, Nat.reduceLeDiff, reduceCtorEq] <;> rfl) rfl rfl en15 b15 ?_
          refine dops_run 4 (by simp only [fwA, ↓reduceIte, Nat.reduceAdd, Nat.reduceMul, Nat.reduceEqDiff, Nat.reduceLT, Nat.reduceLeDiff, reduceCtorEq, Tm.fw, ti24, ti28, ti9, ti3, un4, un3, un37, un22, pl24, decide_true, decide_false, beq_self_eq_true, Bool.not_true, Bool.not_false, Bool.and_self, e1, e2, e3] <;> rfl) ?_
          refine dops_end ?_
          exact awp_ret (gives_end (.inl rfl) _ rfl)
        · rw [decide_eq_false hr] at t15
          refine awp_drawn [0, 0, 1, 0, 1, 0, 0, 1, 0, 0, 0, 0, 0, 1, 0, 1, 0, 1, 0, 0, 0, 0, 0, 0, 1, 0, 0, 0, 1, 0, 0, 1, 0, 0, 0, 0, 0] [0, 1, 3, 7, 3, 31, 63, 3, 191, 511, 1023, 2047, 4095, 8191, 16383, 8191, 65535, 8191, 262143, 524287, 1048575, 2097151, 4194303, 8388607, 16777215, 33554431, 67108863, 134217727, 268435455, 536870911, 1073741823, 2147483647, 4294967295, 8589934591, 17179869183, 34359738367, 68719476735] mixed rfl (by kernel_rfl) ?_
          refine dops_run 3 (by simp only [fwA, ↓reduceIte, Nat.reduceAdd, Nat.reduceMul, Nat.reduceEqDiff, Nat.reduceLT, Nat.reduceLeDiff, reduceCtorEq, Tm.fw, ti24, ti28, ti9, ti3, un4, un3, un37, un22, pl24, decide_true, decide_false, beq_self_eq_true, Bool.not_true, Bool.not_false, Bool.and_self, e1, e2, e3] <;> rfl) ?_
          refine dops_fn rfl (by simp only [fwA, ↓reduceIte, Nat.reduceAdd, Nat.reduceMul, Nat.reduceEqDiff, Nat.reduceLT, Nat.reduceLeDiff, reduceCtorEq] <;> rfl) rfl rfl en11 t11 ?_
          refine dops_run 1 (by simp only [fwA, ↓reduceIte, Nat.reduceAdd, Nat.reduceMul, Nat.reduceEqDiff, Nat.reduceLT, Nat.reduceLeDiff, reduceCtorEq, Tm.fw, ti24, ti28, ti9, ti3, un4, un3, un37, un22, pl24, decide_true, decide_false, beq_self_eq_true, Bool.not_true, Bool.not_false, Bool.and_self, e1, e2, e3] <;> rfl) ?_
          refine dops_fn rfl (by simp only [fwA, ↓reduceIte, Nat.reduceAdd, Nat.reduceMul, Nat.reduceEqDiff, Nat.reduceLT, Nat.reduceLeDiff, reduceCtorEq] <;> rfl) rfl rfl en11 a11 ?_
          refine dops_run 2 (by simp only [fwA, ↓reduceIte, Nat.reduceAdd, Nat.reduceMul, Nat.reduceEqDiff, Nat.reduceLT, Nat.reduceLeDiff, reduceCtorEq, Tm.fw, ti24, ti28, ti9, ti3, un4, un3, un37, un22, pl24, decide_true, decide_false, beq_self_eq_true, Bool.not_true, Bool.not_false, Bool.and_self, e1, e2, e3] <;> rfl) ?_
          refine dops_fn rfl (by simp only [fwA, ↓reduceIte, Nat.reduceAdd, Nat.reduceMul, Nat.reduceEqDiff, Nat.reduceLT, Nat.reduceLeDiff, reduceCtorEq] <;> rfl) rfl rfl en11 b11 ?_
          refine dops_run 5 (by simp only [fwA, ↓reduceIte, Nat.reduceAdd, Nat.reduceMul, Nat.reduceEqDiff, Nat.reduceLT, Nat.reduceLeDiff, reduceCtorEq, Tm.fw, ti24, ti28, ti9, ti3, un4, un3, un37, un22, pl24, decide_true, decide_false, beq_self_eq_true, Bool.not_true, Bool.not_false, Bool.and_self, e1, e2, e3] <;> rfl) ?_
          refine dops_fn rfl (by simp only [fwA, ↓reduceIte, Nat.reduceAdd, Nat.reduceMul, Nat.reduceEqDiff, Nat.reduceLT, Nat.reduceLeDiff, reduceCtorEq] <;> rfl) rfl rfl en13 t13 ?_
          refine dops_run 1 (by simp only [fwA, ↓reduceIte, Nat.reduceAdd, Nat.reduceMul, Nat.reduceEqDiff, Nat.reduceLT, Nat.reduceLeDiff, reduceCtorEq, Tm.fw, ti24, ti28, ti9, ti3, un4, un3, un37, un22, pl24, decide_true, decide_false, beq_self_eq_true, Bool.not_true, Bool.not_false, Bool.and_self, e1, e2, e3] <;> rfl) ?_
          refine dops_fn rfl (by simp only [fwA, ↓reduceIte, Nat.reduceAdd, Nat.reduceMul, Nat.reduceEqDiff, Nat.reduceLT, Nat.reduceLeDiff, reduceCtorEq] <;> rfl) rfl rfl en13 a13 ?_
          refine dops_run 1 (by simp only [fwA, ↓reduceIte, Nat.reduceAdd, Nat.reduceMul, Nat.reduceEqDiff, Nat.reduceLT, Nat.reduceLeDiff, reduceCtorEq, Tm.fw, ti24, ti28, ti9, ti3, un4, un3, un37, un22, pl24, decide_true, decide_false, beq_self_eq_true, Bool.not_true, Bool.not_false, Bool.and_self, e1, e2, e3] <;> rfl) ?_
          refine dops_fn rfl (by simp only [fwA, ↓reduceIte, Nat.reduceAdd, Nat.reduceMul, Nat.reduceEqDiff, Nat.reduceLT, Nat.reduceLeDiff, reduceCtorEq] <;> rfl) rfl rfl en13 b13 ?_
          refine dops_one (.int .i64 ((max A.dep B.dep : Nat) : Int)) (by simp only [fwA, ↓reduceIte, Nat.reduceAdd, Nat.reduceMul, Nat.reduceEqDiff, Nat.reduceLT, Nat.reduceLeDiff, reduceCtorEq] <;> rfl) rfl (fun H A' hev => os_max rfl ((hev _ (by simp [Op.operands, Call.operands])).trans rfl) ((hev _ (by simp [Op.operands, Call.operands])).trans rfl) ⟨by rw [max_of], rfl⟩) ?_
          refine dops_run 5 (by simp only [fwA, ↓reduceIte, Nat.reduceAdd, Nat.reduceMul, Nat.reduceEqDiff, Nat.reduceLT, Nat.reduceLeDiff, reduceCtorEq, Tm.fw, ti24, ti28, ti9, ti3, un4, un3, un37, un22, pl24, decide_true, decide_false, beq_self_eq_true, Bool.not_true, Bool.not_false, Bool.and_self, e1, e2, e3] <;> rfl) ?_
          refine dops_fn rfl (by simp only [fwA, ↓reduceIte, Nat.reduceAdd, Nat.reduceMul, Nat.reduceEqDiff, Nat.reduceLT, Nat.reduceLeDiff, reduceCtorEq] <;> rfl) rfl rfl en15 t15 ?_
          refine dops_run 11 (by simp only [fwA, ↓reduceIte, Nat.reduceAdd, Nat.reduceMul, Nat.reduceEqDiff, Nat.reduceLT, Nat.reduceLeDiff, reduceCtorEq, Tm.fw, ti24, ti28, ti9, ti3, un4, un3, un37, un22, pl24, decide_true, decide_false, beq_self_eq_true, Bool.not_true, Bool.not_false, Bool.and_self, e1, e2, e3] <;> rfl) ?_
          refine dops_end ?_
          exact awp_ret (gives_end (.inl rfl) _ rfl)
      simp only [hc, decide_true, ↓reduceIte]
      refine awp_skip ?_
      have hia : i < m.length := by omega
      have gx : m[i]? = some m[i] := List.getElem?_eq_getElem hia
      have hxm := List.getElem_mem hia
      have h25 := c25 Γ f false m[i]
      rw [decide_eq_true ((hTm m[i]).2 (.inr hxm))] at h25
      generalize m[i] = x at gx h25
      refine awp_seq ?_
      refine awp_block ?_
      refine awp_seq ?_
      refine awp_region rfl ?_
      refine aops_run 5 (by simp only [fwA, ↓reduceIte, Nat.reduceAdd, Nat.reduceMul, Nat.reduceEqDiff, Nat.reduceLT, Nat.reduceLeDiff, reduceCtorEq, el37, ti9, List.getElem?_map, gx, Option.map_some, Int.natCast_nonneg, S1_fw, decide_true, decide_false, Bool.not_true, Bool.not_false] <;> rfl) ?_
      refine aops_fn rfl rfl rfl en25 h25 ?_
      refine aops_run 1 (by simp only [fwA, ↓reduceIte, Nat.reduceAdd, Nat.reduceMul, Nat.reduceEqDiff, Nat.reduceLT, Nat.reduceLeDiff, reduceCtorEq, el37, ti9, List.getElem?_map, gx, Option.map_some, Int.natCast_nonneg, S1_fw, decide_true, decide_false, Bool.not_true, Bool.not_false] <;> rfl) ?_
      refine aops_end ?_
      refine awp_cond (b := false) (by simp [alook, aput, ev]) (awp_skip ?_)
      refine awp_run rfl (by simp only [fwA, ↓reduceIte, Nat.reduceAdd, Nat.reduceMul, Nat.reduceEqDiff, Nat.reduceLT, Nat.reduceLeDiff, reduceCtorEq] <;> rfl) ?_
      exact ⟨i + 1, by omega, by omega, by rw [wrapS i (by omega)]; rfl, rfl, rfl⟩
    simp only [hc, decide_true, ↓reduceIte]
    refine awp_skip ?_
    have hia : i < n.length := by omega
    have gx : n[i]? = some n[i] := List.getElem?_eq_getElem hia
    have hxm := List.getElem_mem hia
    have h25 := c25 Γ f false n[i]
    rw [decide_eq_true ((hTm n[i]).2 (.inl hxm))] at h25
    generalize n[i] = x at gx h25
    refine awp_seq ?_
    refine awp_block ?_
    refine awp_seq ?_
    refine awp_region rfl ?_
    refine aops_run 5 (by simp only [fwA, ↓reduceIte, Nat.reduceAdd, Nat.reduceMul, Nat.reduceEqDiff, Nat.reduceLT, Nat.reduceLeDiff, reduceCtorEq, el37, ti9, List.getElem?_map, gx, Option.map_some, Int.natCast_nonneg, S1_fw, decide_true, decide_false, Bool.not_true, Bool.not_false] <;> rfl) ?_
    refine aops_fn rfl rfl rfl en25 h25 ?_
    refine aops_run 1 (by simp only [fwA, ↓reduceIte, Nat.reduceAdd, Nat.reduceMul, Nat.reduceEqDiff, Nat.reduceLT, Nat.reduceLeDiff, reduceCtorEq, el37, ti9, List.getElem?_map, gx, Option.map_some, Int.natCast_nonneg, S1_fw, decide_true, decide_false, Bool.not_true, Bool.not_false] <;> rfl) ?_
    refine aops_end ?_
    refine awp_cond (b := false) (by simp [alook, aput, ev]) (awp_skip ?_)
    refine awp_run rfl (by simp only [fwA, ↓reduceIte, Nat.reduceAdd, Nat.reduceMul, Nat.reduceEqDiff, Nat.reduceLT, Nat.reduceLeDiff, reduceCtorEq] <;> rfl) ?_
    exact ⟨i + 1, by omega, by omega, by rw [wrapS i (by omega)]; rfl, rfl, rfl⟩
  simp only [hc, decide_true, ↓reduceIte]
  refine awp_skip ?_
  have hia : i < f.length := by omega
  have gx : f[i]? = some f[i] := List.getElem?_eq_getElem hia
  have hxm := List.getElem_mem hia
  have h25n := c25 Γ n false f[i]
  have h25m := c25 Γ m false f[i]
  have hor := (hTm f[i]).1 hxm
  have hprev : ∀ y, 0 < i → f[i - 1]? = some y → y < f[i] := fun y h0 hy => by
    obtain ⟨hj, rfl⟩ := List.getElem?_eq_some_iff.1 hy
    exact List.pairwise_iff_getElem.1 hTr (i - 1) i hj hia (by omega)
  generalize f[i] = x at gx h25n h25m hor hprev
  refine awp_seq ?_
  refine awp_block ?_
  refine awp_seq ?_
  refine AWP.mono (Q := fun e A' H' D' => e = .normal ∧ akeep [2, 3, 5, 6, 7, 8, 9, 10, 62] A' = [(2, .ptr H.length 0), (3, .ptr (H.length + 1) 0), (5, .bool true), (6, .ptr (H.length + 2) 0), (7, .vec (n.map S1) false), (8, .vec (m.map S1) false), (9, .vec (f.map S1) false), (10, .int .i64 i), (62, .bool false)] ∧ H' = H ++ L ∧ D' = []) ?_ fun e A' H' D' hq => ?_
  · by_cases h0 : 0 < (i : Int)
    · have hwr : IntKind.i64.wrap ((i : Int) - 1) = ((i - 1 : Nat) : Int) := by rw [wrapId ⟨by omega, by omega⟩]; omega
      have gy : f[i - 1]? = some (f[i - 1]'(by omega)) := List.getElem?_eq_getElem (by omega)
      have hge := geD _ _ (hprev _ (by omega) gy)
      generalize f[i - 1]'(by omega) = y at gy hge
      by_cases hn : x ∈ n
      · rw [decide_eq_true hn] at h25n
        refine awp_drawn [0, 0, 0, 0, 1, 0, 0, 0, 0, 0, 0, 0, 1, 0, 0, 0, 0, 0, 0, 0, 0, 0, 0, 0, 1, 0, 0, 0, 1, 0, 0, 0] [0, 0, 0, 6, 14, 31, 63, 127, 255, 255, 255, 1791, 3839, 8191, 16383, 32767, 65535, 131071, 262143, 524287, 1048575, 1048575, 3145727, 8388607, 16777215, 1048575, 1048575, 101711871, 235929599, 536870911, 1073741823, 2147483647] mixed rfl (by kernel_rfl) ?_
        refine dops_run 5 (by simp only [fwA, ↓reduceIte, Nat.reduceAdd, Nat.reduceMul, Nat.reduceEqDiff, Nat.reduceLT, Nat.reduceLeDiff, reduceCtorEq, el37, ti9, List.getElem?_map, gx, Option.map_some, Int.natCast_nonneg, S1_fw, decide_true, decide_false, Bool.not_true, Bool.not_false, h0, hwr, gy, hge, Int.toNat_natCast] <;> rfl) ?_
        refine dops_fn rfl (by simp only [fwA, ↓reduceIte, Nat.reduceAdd, Nat.reduceMul, Nat.reduceEqDiff, Nat.reduceLT, Nat.reduceLeDiff, reduceCtorEq] <;> rfl) rfl rfl en25 h25n ?_
        refine dops_run 13 (by simp only [fwA, ↓reduceIte, Nat.reduceAdd, Nat.reduceMul, Nat.reduceEqDiff, Nat.reduceLT, Nat.reduceLeDiff, reduceCtorEq, el37, ti9, List.getElem?_map, gx, Option.map_some, Int.natCast_nonneg, S1_fw, decide_true, decide_false, Bool.not_true, Bool.not_false, h0, hwr, gy, hge, Int.toNat_natCast] <;> rfl) ?_
        refine dops_run 13 (by simp only [fwA, ↓reduceIte, Nat.reduceAdd, Nat.reduceMul, Nat.reduceEqDiff, Nat.reduceLT, Nat.reduceLeDiff, reduceCtorEq, el37, ti9, List.getElem?_map, gx, Option.map_some, Int.natCast_nonneg, S1_fw, decide_true, decide_false, Bool.not_true, Bool.not_false, h0, hwr, gy, hge, Int.toNat_natCast] <;> rfl) ?_
        refine dops_end ?_
        exact ⟨rfl, by simp [akeep, alook, aput, ev], rfl, rfl⟩
      · rw [decide_eq_false hn] at h25n
        rw [decide_eq_true (hor.resolve_left hn)] at h25m
        refine awp_drawn [0, 0, 0, 0, 1, 0, 0, 0, 0, 0, 0, 0, 1, 0, 0, 0, 0, 0, 0, 0, 0, 0, 0, 0, 1, 0, 0, 0, 1, 0, 0, 0] [0, 0, 0, 6, 14, 31, 63, 127, 255, 255, 255, 1791, 3839, 8191, 16383, 32767, 65535, 131071, 262143, 524287, 1048575, 1048575, 3145727, 8388607, 16777215, 1048575, 1048575, 101711871, 235929599, 536870911, 1073741823, 2147483647] mixed rfl (by kernel_rfl) ?_
        refine dops_run 5 (by simp only [fwA, ↓reduceIte, Nat.reduceAdd, Nat.reduceMul, Nat.reduceEqDiff, Nat.reduceLT, Nat.reduceLeDiff, reduceCtorEq, el37, ti9, List.getElem?_map, gx, Option.map_some, Int.natCast_nonneg, S1_fw, decide_true, decide_false, Bool.not_true, Bool.not_false, h0, hwr, gy, hge, Int.toNat_natCast] <;> rfl) ?_
        refine dops_fn rfl (by simp only [fwA, ↓reduceIte, Nat.reduceAdd, Nat.reduceMul, Nat.reduceEqDiff, Nat.reduceLT, Nat.reduceLeDiff, reduceCtorEq] <;> rfl) rfl rfl en25 h25n ?_
        refine dops_run 7 (by simp only [fwA, ↓reduceIte, Nat.reduceAdd, Nat.reduceMul, Nat.reduceEqDiff, Nat.reduceLT, Nat.reduceLeDiff, reduceCtorEq, el37, ti9, List.getElem?_map, gx, Option.map_some, Int.natCast_nonneg, S1_fw, decide_true, decide_false, Bool.not_true, Bool.not_false, h0, hwr, gy, hge, Int.toNat_natCast] <;> rfl) ?_
        refine dops_fn rfl (by simp only [fwA, ↓reduceIte, Nat.reduceAdd, Nat.reduceMul, Nat.reduceEqDiff, Nat.reduceLT, Nat.reduceLeDiff, reduceCtorEq] <;> rfl) rfl rfl en25 h25m ?_
        refine dops_run 13 (by simp only [fwA, ↓reduceIte, Nat.reduceAdd, Nat.reduceMul, Nat.reduceEqDiff, Nat.reduceLT, Nat.reduceLeDiff, reduceCtorEq, el37, ti9, List.getElem?_map, gx, Option.map_some, Int.natCast_nonneg, S1_fw, decide_true, decide_false, Bool.not_true, Bool.not_false, h0, hwr, gy, hge, Int.toNat_natCast] <;> rfl) ?_
        refine dops_run 5 (by simp only [fwA, ↓reduceIte, Nat.reduceAdd, Nat.reduceMul, Nat.reduceEqDiff, Nat.reduceLT, Nat.reduceLeDiff, reduceCtorEq, el37, ti9, List.getElem?_map, gx, Option.map_some, Int.natCast_nonneg, S1_fw, decide_true, decide_false, Bool.not_true, Bool.not_false, h0, hwr, gy, hge, Int.toNat_natCast] <;> rfl) ?_
        refine dops_end ?_
        exact ⟨rfl, by simp [akeep, alook, aput, ev], rfl, rfl⟩
    · by_cases hn : x ∈ n
      · rw [decide_eq_true hn] at h25n
        refine awp_drawn [0, 0, 0, 0, 1, 0, 0, 0, 0, 0, 0, 0, 1, 0, 0, 0, 0, 0, 0, 0, 0, 0, 0, 0, 1, 0, 0, 0, 1, 0, 0, 0] [0, 0, 0, 6, 14, 31, 63, 127, 255, 255, 255, 1791, 3839, 8191, 16383, 32767, 65535, 131071, 262143, 524287, 1048575, 1048575, 3145727, 8388607, 16777215, 1048575, 1048575, 101711871, 235929599, 536870911, 1073741823, 2147483647] mixed rfl (by kernel_rfl) ?_
        refine dops_run 5 (by simp only [fwA, ↓reduceIte, Nat.reduceAdd, Nat.reduceMul, Nat.reduceEqDiff, Nat.reduceLT, Nat.reduceLeDiff, reduceCtorEq, el37, ti9, List.getElem?_map, gx, Option.map_some, Int.natCast_nonneg, S1_fw, decide_true, decide_false, Bool.not_true, Bool.not_false, h0] <;> rfl) ?_
        refine dops_fn rfl (by simp only [fwA, ↓reduceIte, Nat.reduceAdd, Nat.reduceMul, Nat.reduceEqDiff, Nat.reduceLT, Nat.reduceLeDiff, reduceCtorEq] <;> rfl) rfl rfl en25 h25n ?_
        refine dops_run 13 (by simp only [fwA, ↓reduceIte, Nat.reduceAdd, Nat.reduceMul, Nat.reduceEqDiff, Nat.reduceLT, Nat.reduceLeDiff, reduceCtorEq, el37, ti9, List.getElem?_map, gx, Option.map_some, Int.natCast_nonneg, S1_fw, decide_true, decide_false, Bool.not_true, Bool.not_false, h0] <;> rfl) ?_
        refine dops_run 13 (by simp only [fwA, ↓reduceIte, Nat.reduceAdd, Nat.reduceMul, Nat.reduceEqDiff, Nat.reduceLT, Nat.reduceLeDiff, reduceCtorEq, el37, ti9, List.getElem?_map, gx, Option.map_some, Int.natCast_nonneg, S1_fw, decide_true, decide_false, Bool.not_true, Bool.not_false, h0] <;> rfl) ?_
        refine dops_end ?_
        exact ⟨rfl, by simp [akeep, alook, aput, ev], rfl, rfl⟩
      · rw [decide_eq_false hn] at h25n
        rw [decide_eq_true (hor.resolve_left hn)] at h25m
        refine awp_drawn [0, 0, 0, 0, 1, 0, 0, 0, 0, 0, 0, 0, 1, 0, 0, 0, 0, 0, 0, 0, 0, 0, 0, 0, 1, 0, 0, 0, 1, 0, 0, 0] [0, 0, 0, 6, 14, 31, 63, 127, 255, 255, 255, 1791, 3839, 8191, 16383, 32767, 65535, 131071, 262143, 524287, 1048575, 1048575, 3145727, 8388607, 16777215, 1048575, 1048575, 101711871, 235929599, 536870911, 1073741823, 2147483647] mixed rfl (by kernel_rfl) ?_
        refine dops_run 5 (by simp only [fwA, ↓reduceIte, Nat.reduceAdd, Nat.reduceMul, Nat.reduceEqDiff, Nat.reduceLT, Nat.reduceLeDiff, reduceCtorEq, el37, ti9, List.getElem?_map, gx, Option.map_some, Int.natCast_nonneg, S1_fw, decide_true, decide_false, Bool.not_true, Bool.not_false, h0] <;> rfl) ?_
        refine dops_fn rfl (by simp only [fwA, ↓reduceIte, Nat.reduceAdd, Nat.reduceMul, Nat.reduceEqDiff, Nat.reduceLT, Nat.reduceLeDiff, reduceCtorEq] <;> rfl) rfl rfl en25 h25n ?_
        refine dops_run 7 (by simp only [fwA, ↓reduceIte, Nat.reduceAdd, Nat.reduceMul, Nat.reduceEqDiff, Nat.reduceLT, Nat.reduceLeDiff, reduceCtorEq, el37, ti9, List.getElem?_map, gx, Option.map_some, Int.natCast_nonneg, S1_fw, decide_true, decide_false, Bool.not_true, Bool.not_false, h0] <;> rfl) ?_
        refine dops_fn rfl (by simp only [fwA, ↓reduceIte, Nat.reduceAdd, Nat.reduceMul, Nat.reduceEqDiff, Nat.reduceLT, Nat.reduceLeDiff, reduceCtorEq] <;> rfl) rfl rfl en25 h25m ?_
        refine dops_run 13 (by simp only [fwA, ↓reduceIte, Nat.reduceAdd, Nat.reduceMul, Nat.reduceEqDiff, Nat.reduceLT, Nat.reduceLeDiff, reduceCtorEq, el37, ti9, List.getElem?_map, gx, Option.map_some, Int.natCast_nonneg, S1_fw, decide_true, decide_false, Bool.not_true, Bool.not_false, h0] <;> rfl) ?_
        refine dops_run 5 (by simp only [fwA, ↓reduceIte, Nat.reduceAdd, Nat.reduceMul, Nat.reduceEqDiff, Nat.reduceLT, Nat.reduceLeDiff, reduceCtorEq, el37, ti9, List.getElem?_map, gx, Option.map_some, Int.natCast_nonneg, S1_fw, decide_true, decide_false, Bool.not_true, Bool.not_false, h0] <;> rfl) ?_
        refine dops_end ?_
        exact ⟨rfl, by simp [akeep, alook, aput, ev], rfl, rfl⟩
  obtain ⟨rfl, hA, rfl, rfl⟩ := hq
  refine awp_keep _ hA ?_
  refine awp_cond (b := false) rfl (awp_skip ?_)
  refine awp_run rfl (by simp only [fwA, ↓reduceIte, Nat.reduceAdd, Nat.reduceMul, Nat.reduceEqDiff, Nat.reduceLT, Nat.reduceLeDiff, reduceCtorEq] <;> rfl) ?_
  exact ⟨i + 1, by omega, by omega, by rw [wrapS i (by omega)]; rfl, rfl, rfl⟩

end Go.Proofs.YtlbmlhpjibgepaaDoor
