/- The law on how deep and how wide a term may be. -/
import Derived.Test.YtlbmlhpjibgepaaDoorT03d
namespace Go.Proofs.YtlbmlhpjibgepaaDoor
set_option linter.unusedVariables false
set_option linter.unusedSimpArgs false
set_option maxRecDepth 100000
open Go.RowKit Fw

def rT : Nat → Tm
  | 0 => .mk 1 [] 1 []
  | n + 1 => .mk 8 [] 0 [rT n]
def sT : Nat → Tm
  | 0 => .mk 1 [] 0 []
  | n + 1 => .mk 13 [] 0 [sT n, sT n]
theorem one_dep (k : Int) (nm : List UInt8) (a : Tm) : (Tm.mk k nm 0 [a]).dep = 1 + a.dep := by
  rw [Tm.dep_eq]; show maxL [a.dep] + 1 = _; rw [maxL_cons]; show max a.dep 0 + 1 = _; omega
theorem rT_dep : ∀ n, (rT n).dep = n + 1
  | 0 => rfl
  | n + 1 => by unfold rT; rw [one_dep, rT_dep n]; omega
theorem rT_w : ∀ n, (rT n).w = n + 1
  | 0 => rfl
  | n + 1 => by unfold rT; rw [one_w, rT_w n]; omega
theorem rT_nodes : ∀ n, Nodes (rT n)
  | 0 => .mk _ (nodeB_iff.1 (by decide)) fun k hk => nomatch hk
  | n + 1 => .mk _ (nodeB_iff.1 rfl) fun k hk => by
    have : k = rT n := by simpa [rT, Tm.kids] using hk
    rw [this]; exact rT_nodes n
theorem sT_dep : ∀ n, (sT n).dep = n + 1
  | 0 => rfl
  | n + 1 => by unfold sT; rw [two_dep, sT_dep n]; omega
theorem sT_w : ∀ n, (sT n).w + 1 = 2 ^ (n + 1)
  | 0 => rfl
  | n + 1 => by
    unfold sT
    rw [two_w]
    have h := sT_w n
    rw [Nat.pow_succ]
    omega
theorem sT_nodes : ∀ n, Nodes (sT n)
  | 0 => .mk _ (nodeB_iff.1 (by decide)) fun k hk => nomatch hk
  | n + 1 => .mk _ (nodeB_iff.1 rfl) fun k hk => by
    have : k = sT n := by simpa [sT, Tm.kids] using hk
    rw [this]; exact sT_nodes n
theorem tmod_nat (a : Int) (n : Nat) (h : 0 ≤ a) : a.tmod n = ((a.toNat % n : Nat) : Int) := by
  obtain ⟨m, rfl⟩ : ∃ m : Nat, a = m := ⟨a.toNat, by omega⟩
  rw [Int.toNat_natCast]; rfl

set_option maxHeartbeats 4000000 in
/-- TermDeep -/
theorem c7 (Γ : Nat → PV) (hΓ : Tab Γ) (n m : Int) (hn0 : 0 ≤ n) (hm0 : 0 ≤ m) : Gives Tryd.prog Γ 7 [.int .u8 n, .int .u8 m] (.bool true) := by
  have h1 := c26e Γ 1
  have h0 := c26e Γ 0
  have hn := tmod_nat n 12 hn0
  have hm := tmod_nat m 2 hm0
  have hr := Nat.mod_lt n.toNat (show 0 < 12 by decide)
  have hq := Nat.mod_lt m.toNat (show 0 < 2 by decide)
  generalize n.toNat % 12 = r at hn hr
  generalize m.toNat % 2 = q at hm hq
  rw [show ((12 : Nat) : Int) = 12 from rfl] at hn
  rw [show ((2 : Nat) : Int) = 2 from rfl] at hm
  have hr1 : IntKind.i64.wrap (r : Int) = r := wrapId ⟨by omega, by omega⟩
  have hq1 : IntKind.i64.wrap (q : Int) = q := wrapId ⟨by omega, by omega⟩
  have e194 : IntKind.i64.wrap (194 + (r : Int)) = 194 + (r : Int) := wrapId ⟨by omega, by omega⟩
  have e195 : IntKind.i64.wrap (195 + (r : Int)) = 195 + (r : Int) := wrapId ⟨by omega, by omega⟩
  have t15 := c15 Γ hΓ (rT (194 + r)) (by rw [rT_w]; omega)
  rw [show decide (RightT (rT (194 + r))) = decide (195 + (r : Int) ≤ 200) from decide_eq_decide.2 ⟨fun h => by have := h.1; rw [rT_dep] at this; omega, fun h => ⟨by rw [rT_dep]; omega, by rw [rT_w]; omega, rT_nodes _⟩⟩] at t15
  have t13 := c13 Γ (rT (194 + r)) (by rw [rT_w]; omega)
  rw [show ((rT (194 + r)).dep : Int) = 195 + (r : Int) by rw [rT_dep]; omega] at t13
  have hww := sT_w (12 + q)
  have hwq : (sT (12 + q)).w ≤ 16383 ∧ decide (((sT (12 + q)).w : Int) ≤ 10000) = decide ((q : Int) = 0) ∧ decide (RightT (sT (12 + q))) = decide ((q : Int) = 0) := by
    have : q = 0 ∨ q = 1 := by omega
    rcases this with rfl | rfl
    · rw [show (2 : Nat) ^ (12 + 0 + 1) = 8192 by decide] at hww
      exact ⟨by omega, decide_eq_decide.2 ⟨fun _ => rfl, fun _ => by omega⟩, decide_eq_decide.2 ⟨fun _ => rfl, fun _ => ⟨by rw [sT_dep]; omega, by omega, sT_nodes _⟩⟩⟩
    · rw [show (2 : Nat) ^ (12 + 1 + 1) = 16384 by decide] at hww
      exact ⟨by omega, decide_eq_decide.2 ⟨fun h => by omega, fun h => by omega⟩, decide_eq_decide.2 ⟨fun h => by have := h.2.1; omega, fun h => by omega⟩⟩
  obtain ⟨hw1, hw2, hw3⟩ := hwq
  have w15 := c15 Γ hΓ (sT (12 + q)) (by omega)
  rw [hw3] at w15
  have w11 := c11 Γ (sT (12 + q)) (by omega)
  refine fn_of_awp Tryd.func7 rfl (by simp [Tryd.f7]) rfl fun H => ?_
  refine awp_seq ?_
  refine awp_run rfl (by simp only [fwA, ↓reduceIte, Nat.reduceAdd, Nat.reduceMul, Nat.reduceEqDiff, Nat.reduceLT, Nat.reduceLeDiff, reduceCtorEq] <;> rfl) ?_
  refine awp_seq ?_
  refine awp_region rfl ?_
  refine aops_fn rfl rfl rfl en9 (c9 Γ hΓ) ?_
  refine aops_run 1 (by simp only [fwA, ↓reduceIte, Nat.reduceAdd, Nat.reduceMul, Nat.reduceEqDiff, Nat.reduceLT, Nat.reduceLeDiff, reduceCtorEq] <;> rfl) ?_
  refine awp_seq ?_
  refine awp_seq ?_
  refine awp_run rfl (by simp only [fwA, ↓reduceIte, Nat.reduceAdd, Nat.reduceMul, Nat.reduceEqDiff, Nat.reduceLT, Nat.reduceLeDiff, reduceCtorEq] <;> rfl) ?_
  refine awp_cond (b := false) (by simp [alook, aput, ev]) (awp_skip ?_)
  refine awp_seq ?_
  refine awp_region rfl ?_
  refine aops_fn rfl rfl rfl en26 h1 ?_
  refine aops_run 2 (by simp only [fwA, ↓reduceIte, Nat.reduceAdd, Nat.reduceMul, Nat.reduceEqDiff, Nat.reduceLT, Nat.reduceLeDiff, reduceCtorEq, Tm.fw, ti24, ti28, ti9, ti3, un5, un4, un3, un37, un22, pl24, decide_true, decide_false, beq_self_eq_true, Bool.not_true, Bool.not_false, Bool.and_self] <;> rfl) ?_
  refine aops_end ?_
  refine awp_keep (A' := [(0, .int .u8 n), (1, .int .u8 m), (5, .bool true), (6, .ptr H.length 0)]) [0, 1, 5, 6] (by simp [akeep, alook, aput, ev]) ?_
  refine awp_heap (H' := H ++ [.box (rT 0).enc]) (by simp [rT]) ?_
  refine awp_seq ?_
  refine awp_seq ?_
  refine awp_run rfl (by simp only [fwA, ↓reduceIte, Nat.reduceAdd, Nat.reduceMul, Nat.reduceEqDiff, Nat.reduceLT, Nat.reduceLeDiff, reduceCtorEq] <;> rfl) ?_
  refine awp_block ?_
  refine awp_for [0, 1, 5, 6, 7] (fun i : Nat => [.int .u8 n, .int .u8 m, .bool true, .ptr H.length 0, .int .i64 i]) (fun i => H ++ [.box (rT i).enc]) (fun i => 194 + r - i) (fun i => i ≤ 194 + r) 0 (by simp [alook, aput, ev]) rfl (Nat.zero_le _) fun i hi => ?_
  refine awp_seq ?_
  refine awp_seq ?_
  refine awp_run rfl (by simp only [fwA, ↓reduceIte, Nat.reduceAdd, Nat.reduceMul, Nat.reduceEqDiff, Nat.reduceLT, Nat.reduceLeDiff, reduceCtorEq, Tm.fw, ti24, ti28, ti9, ti3, un5, un4, un3, un37, un22, pl24, decide_true, decide_false, beq_self_eq_true, Bool.not_true, Bool.not_false, Bool.and_self, hn, hm, hr1, hq1, e194, e195, ne_eq, Int.reduceEq, not_false_eq_true, and_self, and_true] <;> rfl) ?_
  refine awp_cond (by simp only [fwA, ↓reduceIte, Nat.reduceAdd, Nat.reduceMul, Nat.reduceEqDiff, Nat.reduceLT, Nat.reduceLeDiff, reduceCtorEq] <;> rfl) ?_
  by_cases hc : (i : Int) < 194 + (r : Int)
  · simp only [hc, decide_true, ↓reduceIte]
    refine awp_skip ?_
    refine awp_seq ?_
    refine awp_block ?_
    refine awp_run rfl (by simp only [fwA, ↓reduceIte, Nat.reduceAdd, Nat.reduceMul, Nat.reduceEqDiff, Nat.reduceLT, Nat.reduceLeDiff, reduceCtorEq, Tm.fw, ti24, ti28, ti9, ti3, un5, un4, un3, un37, un22, pl24, decide_true, decide_false, beq_self_eq_true, Bool.not_true, Bool.not_false, Bool.and_self] <;> rfl) ?_
    refine awp_heap (H' := H ++ [.box [.int .i64 8, .str [], .int .i64 0, .vec [(rT i).enc] true]]) (by simp [Tm.enc_len]) ?_
    refine awp_told (told_leBox H.length (get_at0 H _) (one_le 8 [] (rT i))) ?_
    refine awp_heap (H' := H ++ [.box (rT (i + 1)).enc]) (by simp [rT]) ?_
    refine awp_run rfl (by simp only [fwA, ↓reduceIte, Nat.reduceAdd, Nat.reduceMul, Nat.reduceEqDiff, Nat.reduceLT, Nat.reduceLeDiff, reduceCtorEq] <;> rfl) ?_
    exact ⟨i + 1, by omega, by omega, by rw [wrapS i (by omega)]; rfl, rfl, rfl⟩
  simp only [hc, decide_false, Bool.false_eq_true, ↓reduceIte]
  refine awp_exit ?_
  have hie : i = 194 + r := by omega
  subst hie
  refine awp_seq ?_
  refine awp_region rfl ?_
  refine aops_fn rfl rfl rfl en26 h0 ?_
  refine aops_run 2 (by simp only [fwA, ↓reduceIte, Nat.reduceAdd, Nat.reduceMul, Nat.reduceEqDiff, Nat.reduceLT, Nat.reduceLeDiff, reduceCtorEq, Tm.fw, ti24, ti28, ti9, ti3, un5, un4, un3, un37, un22, pl24, decide_true, decide_false, beq_self_eq_true, Bool.not_true, Bool.not_false, Bool.and_self] <;> rfl) ?_
  refine aops_end ?_
  refine awp_keep (A' := [(0, .int .u8 n), (1, .int .u8 m), (5, .bool true), (6, .ptr H.length 0), (8, .ptr (H.length + 1) 0)]) [0, 1, 5, 6, 8] (by simp [akeep, alook, aput, ev]) ?_
  refine awp_heap (H' := H ++ [.box (rT (194 + r)).enc, .box (sT 0).enc]) (by simp [sT]) ?_
  generalize rT (194 + r) = T at t15 t13 ⊢
  refine awp_seq ?_
  refine awp_seq ?_
  refine awp_run rfl (by simp only [fwA, ↓reduceIte, Nat.reduceAdd, Nat.reduceMul, Nat.reduceEqDiff, Nat.reduceLT, Nat.reduceLeDiff, reduceCtorEq] <;> rfl) ?_
  refine awp_block ?_
  refine awp_for [0, 1, 5, 6, 8, 9] (fun i : Nat => [.int .u8 n, .int .u8 m, .bool true, .ptr H.length 0, .ptr (H.length + 1) 0, .int .i64 i]) (fun i => H ++ [.box T.enc, .box (sT i).enc]) (fun i => 12 - i) (fun i => i ≤ 12) 0 (by simp [alook, aput, ev]) rfl (Nat.zero_le _) fun i hi => ?_
  refine awp_seq ?_
  refine awp_seq ?_
  refine awp_run rfl (by simp only [fwA, ↓reduceIte, Nat.reduceAdd, Nat.reduceMul, Nat.reduceEqDiff, Nat.reduceLT, Nat.reduceLeDiff, reduceCtorEq] <;> rfl) ?_
  refine awp_cond (by simp only [fwA, ↓reduceIte, Nat.reduceAdd, Nat.reduceMul, Nat.reduceEqDiff, Nat.reduceLT, Nat.reduceLeDiff, reduceCtorEq] <;> rfl) ?_
  by_cases hc : (i : Int) < 12
  · simp only [hc, decide_true, ↓reduceIte]
    refine awp_skip ?_
    have h24 := c24e Γ 13 [] (sT i) (sT i)
    refine awp_seq ?_
    refine awp_block ?_
    refine awp_region rfl ?_
    refine aops_run 2 (by simp only [fwA, ↓reduceIte, Nat.reduceAdd, Nat.reduceMul, Nat.reduceEqDiff, Nat.reduceLT, Nat.reduceLeDiff, reduceCtorEq, Tm.fw, ti24, ti28, ti9, ti3, un5, un4, un3, un37, un22, pl24, decide_true, decide_false, beq_self_eq_true, Bool.not_true, Bool.not_false, Bool.and_self] <;> rfl) ?_
    refine aops_fn rfl rfl rfl en24 h24 ?_
    refine aops_run 1 (by simp only [fwA, ↓reduceIte, Nat.reduceAdd, Nat.reduceMul, Nat.reduceEqDiff, Nat.reduceLT, Nat.reduceLeDiff, reduceCtorEq, Tm.fw, ti24, ti28, ti9, ti3, un5, un4, un3, un37, un22, pl24, decide_true, decide_false, beq_self_eq_true, Bool.not_true, Bool.not_false, Bool.and_self] <;> rfl) ?_
    refine aops_end ?_
    refine awp_heap (H' := H ++ [.box T.enc, .box (sT (i + 1)).enc]) (by simp [sT, Tm.enc_len]) ?_
    refine awp_run rfl (by simp only [fwA, ↓reduceIte, Nat.reduceAdd, Nat.reduceMul, Nat.reduceEqDiff, Nat.reduceLT, Nat.reduceLeDiff, reduceCtorEq] <;> rfl) ?_
    exact ⟨i + 1, by omega, by omega, by rw [wrapS i (by omega)]; rfl, rfl, rfl⟩
  simp only [hc, decide_false, Bool.false_eq_true, ↓reduceIte]
  refine awp_exit ?_
  have hie : i = 12 := by omega
  subst hie
  refine awp_seq ?_
  refine awp_seq ?_
  refine awp_run rfl (by simp only [fwA, ↓reduceIte, Nat.reduceAdd, Nat.reduceMul, Nat.reduceEqDiff, Nat.reduceLT, Nat.reduceLeDiff, reduceCtorEq] <;> rfl) ?_
  refine awp_block ?_
  refine awp_for [0, 1, 5, 6, 8, 10] (fun i : Nat => [.int .u8 n, .int .u8 m, .bool true, .ptr H.length 0, .ptr (H.length + 1) 0, .int .i64 i]) (fun i => H ++ [.box T.enc, .box (sT (12 + i)).enc]) (fun i => q - i) (fun i => i ≤ q) 0 (by simp [alook, aput, ev]) rfl (Nat.zero_le _) fun i hi => ?_
  refine awp_seq ?_
  refine awp_seq ?_
  refine awp_run rfl (by simp only [fwA, ↓reduceIte, Nat.reduceAdd, Nat.reduceMul, Nat.reduceEqDiff, Nat.reduceLT, Nat.reduceLeDiff, reduceCtorEq, Tm.fw, ti24, ti28, ti9, ti3, un5, un4, un3, un37, un22, pl24, decide_true, decide_false, beq_self_eq_true, Bool.not_true, Bool.not_false, Bool.and_self, hn, hm, hr1, hq1, e194, e195, ne_eq, Int.reduceEq, not_false_eq_true, and_self, and_true] <;> rfl) ?_
  refine awp_cond (by simp only [fwA, ↓reduceIte, Nat.reduceAdd, Nat.reduceMul, Nat.reduceEqDiff, Nat.reduceLT, Nat.reduceLeDiff, reduceCtorEq] <;> rfl) ?_
  by_cases hc : (i : Int) < (q : Int)
  · simp only [hc, decide_true, ↓reduceIte]
    refine awp_skip ?_
    have h24 := c24e Γ 13 [] (sT (12 + i)) (sT (12 + i))
    refine awp_seq ?_
    refine awp_block ?_
    refine awp_region rfl ?_
    refine aops_run 2 (by simp only [fwA, ↓reduceIte, Nat.reduceAdd, Nat.reduceMul, Nat.reduceEqDiff, Nat.reduceLT, Nat.reduceLeDiff, reduceCtorEq, Tm.fw, ti24, ti28, ti9, ti3, un5, un4, un3, un37, un22, pl24, decide_true, decide_false, beq_self_eq_true, Bool.not_true, Bool.not_false, Bool.and_self] <;> rfl) ?_
    refine aops_fn rfl rfl rfl en24 h24 ?_
    refine aops_run 1 (by simp only [fwA, ↓reduceIte, Nat.reduceAdd, Nat.reduceMul, Nat.reduceEqDiff, Nat.reduceLT, Nat.reduceLeDiff, reduceCtorEq, Tm.fw, ti24, ti28, ti9, ti3, un5, un4, un3, un37, un22, pl24, decide_true, decide_false, beq_self_eq_true, Bool.not_true, Bool.not_false, Bool.and_self] <;> rfl) ?_
    refine aops_end ?_
    refine awp_heap (H' := H ++ [.box T.enc, .box (sT (12 + (i + 1))).enc]) (by rw [← Nat.add_assoc]; simp [sT, Tm.enc_len]) ?_
    refine awp_run rfl (by simp only [fwA, ↓reduceIte, Nat.reduceAdd, Nat.reduceMul, Nat.reduceEqDiff, Nat.reduceLT, Nat.reduceLeDiff, reduceCtorEq] <;> rfl) ?_
    exact ⟨i + 1, by omega, by omega, by rw [wrapS i (by omega)]; rfl, rfl, rfl⟩
  simp only [hc, decide_false, Bool.false_eq_true, ↓reduceIte]
  refine awp_exit ?_
  have hie : i = q := by omega
  subst hie
  generalize sT (12 + i) = W at w15 w11 hw2 ⊢
  refine awp_seq ?_
  refine awp_drawn [0, 0, 1, 0, 0, 0, 0, 0, 0, 0, 0, 0, 1, 0, 0, 0, 0, 0, 0, 0, 0, 1, 0, 1, 0, 0, 0, 0, 0, 1, 0, 0, 0, 0, 0, 0, 0] [0, 1, 3, 7, 3, 19, 51, 115, 243, 511, 1023, 2047, 4095, 8191, 4095, 20479, 53247, 118783, 262143, 524287, 1048575, 2097151, 4194303, 2097151, 16777215, 33554431, 67108863, 134217727, 268435455, 536870911, 1073741823, 536870911, 2684354559, 6979321855, 17179869183, 34359738367, 68719476735] mixed rfl (by kernel_rfl) ?_
  refine dops_run 3 (by simp only [fwA, ↓reduceIte, Nat.reduceAdd, Nat.reduceMul, Nat.reduceEqDiff, Nat.reduceLT, Nat.reduceLeDiff, reduceCtorEq, Tm.fw, ti24, ti28, ti9, ti3, un5, un4, un3, un37, un22, pl24, decide_true, decide_false, beq_self_eq_true, Bool.not_true, Bool.not_false, Bool.and_self, hn, hm, hr1, hq1, e194, e195, ne_eq, Int.reduceEq, not_false_eq_true, and_self, and_true, hw2] <;> rfl) ?_
  refine dops_fn rfl (by simp only [fwA, ↓reduceIte, Nat.reduceAdd, Nat.reduceMul, Nat.reduceEqDiff, Nat.reduceLT, Nat.reduceLeDiff, reduceCtorEq] <;> rfl) rfl rfl en15 t15 ?_
  refine dops_run 9 (by simp only [fwA, ↓reduceIte, Nat.reduceAdd, Nat.reduceMul, Nat.reduceEqDiff, Nat.reduceLT, Nat.reduceLeDiff, reduceCtorEq, Tm.fw, ti24, ti28, ti9, ti3, un5, un4, un3, un37, un22, pl24, decide_true, decide_false, beq_self_eq_true, Bool.not_true, Bool.not_false, Bool.and_self, hn, hm, hr1, hq1, e194, e195, ne_eq, Int.reduceEq, not_false_eq_true, and_self, and_true, hw2] <;> rfl) ?_
  refine dops_fn rfl (by simp only [fwA, ↓reduceIte, Nat.reduceAdd, Nat.reduceMul, Nat.reduceEqDiff, Nat.reduceLT, Nat.reduceLeDiff, reduceCtorEq] <;> rfl) rfl rfl en13 t13 ?_
  refine dops_run 8 (by simp only [fwA, ↓reduceIte, Nat.reduceAdd, Nat.reduceMul, Nat.reduceEqDiff, Nat.reduceLT, Nat.reduceLeDiff, reduceCtorEq, Tm.fw, ti24, ti28, ti9, ti3, un5, un4, un3, un37, un22, pl24, decide_true, decide_false, beq_self_eq_true, Bool.not_true, Bool.not_false, Bool.and_self, hn, hm, hr1, hq1, e194, e195, ne_eq, Int.reduceEq, not_false_eq_true, and_self, and_true, hw2] <;> rfl) ?_
  refine dops_fn rfl (by simp only [fwA, ↓reduceIte, Nat.reduceAdd, Nat.reduceMul, Nat.reduceEqDiff, Nat.reduceLT, Nat.reduceLeDiff, reduceCtorEq] <;> rfl) rfl rfl en15 w15 ?_
  refine dops_run 1 (by simp only [fwA, ↓reduceIte, Nat.reduceAdd, Nat.reduceMul, Nat.reduceEqDiff, Nat.reduceLT, Nat.reduceLeDiff, reduceCtorEq, Tm.fw, ti24, ti28, ti9, ti3, un5, un4, un3, un37, un22, pl24, decide_true, decide_false, beq_self_eq_true, Bool.not_true, Bool.not_false, Bool.and_self, hn, hm, hr1, hq1, e194, e195, ne_eq, Int.reduceEq, not_false_eq_true, and_self, and_true, hw2] <;> rfl) ?_
  refine dops_fn rfl (by simp only [fwA, ↓reduceIte, Nat.reduceAdd, Nat.reduceMul, Nat.reduceEqDiff, Nat.reduceLT, Nat.reduceLeDiff, reduceCtorEq] <;> rfl) rfl rfl en11 w11 ?_
  refine dops_run 5 (by simp only [fwA, ↓reduceIte, Nat.reduceAdd, Nat.reduceMul, Nat.reduceEqDiff, Nat.reduceLT, Nat.reduceLeDiff, reduceCtorEq, Tm.fw, ti24, ti28, ti9, ti3, un5, un4, un3, un37, un22, pl24, decide_true, decide_false, beq_self_eq_true, Bool.not_true, Bool.not_false, Bool.and_self, hn, hm, hr1, hq1, e194, e195, ne_eq, Int.reduceEq, not_false_eq_true, and_self, and_true, hw2] <;> rfl) ?_
  refine dops_fn rfl (by simp only [fwA, ↓reduceIte, Nat.reduceAdd, Nat.reduceMul, Nat.reduceEqDiff, Nat.reduceLT, Nat.reduceLeDiff, reduceCtorEq] <;> rfl) rfl rfl en15 w15 ?_
  refine dops_run 6 (by simp only [fwA, ↓reduceIte, Nat.reduceAdd, Nat.reduceMul, Nat.reduceEqDiff, Nat.reduceLT, Nat.reduceLeDiff, reduceCtorEq, Tm.fw, ti24, ti28, ti9, ti3, un5, un4, un3, un37, un22, pl24, decide_true, decide_false, beq_self_eq_true, Bool.not_true, Bool.not_false, Bool.and_self, hn, hm, hr1, hq1, e194, e195, ne_eq, Int.reduceEq, not_false_eq_true, and_self, and_true, hw2] <;> rfl) ?_
  refine dops_end ?_
  exact awp_ret (gives_end (.inl rfl) _ rfl)

end Go.Proofs.YtlbmlhpjibgepaaDoor
