/- The law on how many kids a kind has. -/
import Derived.Test.YtlbmlhpjibgepaaDoorT03e
namespace Go.Proofs.YtlbmlhpjibgepaaDoor
set_option linter.unusedVariables false
set_option linter.unusedSimpArgs false
set_option maxRecDepth 100000
open Go.RowKit Fw

def threeT : Tm := .mk 1 [] 3 []
def nmK (k : Int) : List UInt8 := if k = 12 then [43] else if k = 2 ∨ (Tm.mk k [] 0 []).binder = true then [120] else []
def kT (k : Int) (j : Nat) : Tm := .mk k (nmK k) 0 (List.replicate j threeT)
theorem kT_w (k : Int) (j : Nat) : (kT k j).w = j + 1 := by
  rw [Tm.w_eq]
  show ((List.replicate j threeT).map Tm.w).sum + 1 = _
  rw [List.map_replicate, List.sum_replicate_nat, show threeT.w = 1 from rfl]
  omega
theorem kT_dep (k : Int) (j : Nat) : (kT k j).dep ≤ 2 := by
  rw [Tm.dep_eq]
  have : maxL ((List.replicate j threeT).map Tm.dep) ≤ 1 := maxL_le fun x hx => by
    obtain ⟨y, hy, rfl⟩ := List.mem_map.1 hx
    rw [List.eq_of_mem_replicate hy]; decide
  show maxL ((List.replicate j threeT).map Tm.dep) + 1 ≤ 2
  omega
theorem kT_right {k : Int} {j : Nat} (h1 : 1 ≤ k) (h2 : k < 14) (hj : j < 5) : RightT (kT k j) ↔ (j : Int) = kidsTab.getD k.toNat 0 := by
  have hn : nmOk (kT k j) := by
    have : k = 1 ∨ k = 2 ∨ k = 3 ∨ k = 4 ∨ k = 5 ∨ k = 6 ∨ k = 7 ∨ k = 8 ∨ k = 9 ∨ k = 10 ∨ k = 11 ∨ k = 12 ∨ k = 13 := by omega
    refine nmB_iff.1 ?_
    rcases this with rfl | rfl | rfl | rfl | rfl | rfl | rfl | rfl | rfl | rfl | rfl | rfl | rfl <;> rfl
  have hl : ((kT k j).kids.length : Int) = j := by show ((List.replicate j threeT).length : Int) = j; rw [List.length_replicate]
  constructor
  · intro h
    have := h.2.2.node.2.1
    rw [hl] at this
    exact this
  · intro h
    refine ⟨by have := kT_dep k j; omega, by rw [kT_w]; omega, .mk _ ⟨⟨h1, h2⟩, hl.trans h, fun _ => rfl, Int.le_refl _, (by decide : (0 : Int) < 2147483648), hn⟩ fun x hx => ?_⟩
    rw [List.eq_of_mem_replicate hx]
    exact .mk _ (nodeB_iff.1 (by decide)) fun k hk => nomatch hk
theorem want_at {k : Int} (h1 : 1 ≤ k) (h2 : k < 14) : ([[.int .i64 0], [.int .i64 0], [.int .i64 0], [.int .i64 1], [.int .i64 2], [.int .i64 2], [.int .i64 3], [.int .i64 2], [.int .i64 1], [.int .i64 2], [.int .i64 1], [.int .i64 2], [.int .i64 2], [.int .i64 2]] : List (List PV))[k.toNat]? = some [.int .i64 (kidsTab.getD k.toNat 0)] := by
  have : k = 1 ∨ k = 2 ∨ k = 3 ∨ k = 4 ∨ k = 5 ∨ k = 6 ∨ k = 7 ∨ k = 8 ∨ k = 9 ∨ k = 10 ∨ k = 11 ∨ k = 12 ∨ k = 13 := by omega
  rcases this with rfl | rfl | rfl | rfl | rfl | rfl | rfl | rfl | rfl | rfl | rfl | rfl | rfl <;> rfl

set_option maxHeartbeats 4000000 in
/-- TermKinds -/
theorem c8 (Γ : Nat → PV) (hΓ : Tab Γ) (n m : Int) (hn0 : 0 ≤ n) (hm0 : 0 ≤ m) : Gives Tryd.prog Γ 8 [.int .u8 n, .int .u8 m] (.bool true) := by
  have h3 := c26e Γ 3
  have hn := tmod_nat n 13 hn0
  have hm := tmod_nat m 5 hm0
  have hr := Nat.mod_lt n.toNat (show 0 < 13 by decide)
  have hq := Nat.mod_lt m.toNat (show 0 < 5 by decide)
  generalize n.toNat % 13 = r at hn hr
  generalize m.toNat % 5 = q at hm hq
  rw [show ((13 : Nat) : Int) = 13 from rfl] at hn
  rw [show ((5 : Nat) : Int) = 5 from rfl] at hm
  have hr1 : IntKind.i64.wrap (r : Int) = r := wrapId ⟨by omega, by omega⟩
  have hq1 : IntKind.i64.wrap (q : Int) = q := wrapId ⟨by omega, by omega⟩
  obtain ⟨k, hk⟩ : ∃ k : Int, 1 + (r : Int) = k := ⟨_, rfl⟩
  have ek : IntKind.i64.wrap (1 + (r : Int)) = k := by rw [hk]; exact wrapId ⟨by omega, by omega⟩
  have k1 : 1 ≤ k := by omega
  have k2 : k < 14 := by omega
  have b22 := c22 Γ (Tm.mk k [] 0 [])
  have ble : PV.leL [PV.agg [.int .i64 k, .str [], .int .i64 0, .vec [] true]] [.agg (Tm.mk k [] 0 []).enc] := ⟨leaf_le k 0 [], trivial⟩
  have b22' := b22.args ble
  have w22 := c22 Γ (kT k q)
  have hbk : (kT k q).binder = (Tm.mk k [] 0 []).binder := rfl
  have hbe : (Tm.mk k [] 0 []).binder = (decide (k = 3) || decide (k = 5) || decide (k = 9)) := rfl
  have hnm : nmK k = if k = 12 then [43] else if k = 2 ∨ (Tm.mk k [] 0 []).binder = true then [120] else [] := rfl
  rw [hbk] at w22
  have w15 := c15 Γ hΓ (kT k q) (by rw [kT_w]; omega)
  rw [show decide (RightT (kT k q)) = decide ((q : Int) = kidsTab.getD k.toNat 0) from decide_eq_decide.2 (kT_right k1 k2 hq)] at w15
  have hwt := want_at k1 k2
  refine fn_of_awp Tryd.func8 rfl (by simp [Tryd.f8]) rfl fun H => ?_
  refine awp_seq ?_
  refine awp_run rfl (by simp only [fwA, ↓reduceIte, Nat.reduceAdd, Nat.reduceMul, Nat.reduceEqDiff, Nat.reduceLT, Nat.reduceLeDiff, reduceCtorEq] <;> rfl) ?_
  refine awp_seq ?_
  refine awp_region rfl ?_
  refine aops_fn rfl rfl rfl en9 (c9 Γ hΓ) ?_
  refine aops_run 1 (by simp only [fwA, ↓reduceIte, Nat.reduceAdd, Nat.reduceMul, Nat.reduceEqDiff, Nat.reduceLT, Nat.reduceLeDiff, reduceCtorEq] <;> rfl) ?_
  refine awp_seq ?_
  refine awp_seq ?_
  refine awp_run rfl (by simp only [fwA, ↓reduceIte, Nat.reduceAdd, Nat.reduceMul, Nat.reduceEqDiff, Nat.reduceLT, Nat.reduceLeDiff, reduceCtorEq] <;> rfl) ?_
  refine awp_cond (b := false) (by simp [alook, aput, ev]) (awp_skip ?_)
  refine awp_seq ?_
  -- region 4
  refine awp_run rfl (by simp only [fwA, ↓reduceIte, Nat.reduceAdd, Nat.reduceMul, Nat.reduceEqDiff, Nat.reduceLT, Nat.reduceLeDiff, reduceCtorEq, Tm.fw, ti24, ti22, ti9, ti3, un5, un4, un3, un22, un46, el46, pl24, fl24_1, fl24_3, decide_true, decide_false, beq_self_eq_true, Bool.not_true, Bool.not_false, Bool.and_self, hn, hm, hr1, hq1, ek, ne_eq, Int.reduceEq, not_false_eq_true, and_self, and_true] <;> rfl) ?_
  refine awp_seq ?_
  -- region 5
  refine awp_run rfl (by simp only [fwA, ↓reduceIte, Nat.reduceAdd, Nat.reduceMul, Nat.reduceEqDiff, Nat.reduceLT, Nat.reduceLeDiff, reduceCtorEq, Tm.fw, ti24, ti22, ti9, ti3, un5, un4, un3, un22, un46, el46, pl24, fl24_1, fl24_3, decide_true, decide_false, beq_self_eq_true, Bool.not_true, Bool.not_false, Bool.and_self] <;> rfl) ?_
  refine awp_keep (A' := [(0, .int .u8 n), (1, .int .u8 m), (5, .bool true), (6, .int .i64 k), (7, .ptr H.length 0)]) [0, 1, 5, 6, 7] (by simp [akeep, alook, aput, ev]) ?_
  refine awp_heap (H' := H ++ [.box [.int .i64 k, .str [], .int .i64 0, .vec [] true]]) (by simp) ?_
  refine awp_seq ?_
  refine AWP.mono (Q := fun e A' H' D' => e = .normal ∧ akeep [0, 1, 5, 6, 7] A' = [(0, .int .u8 n), (1, .int .u8 m), (5, .bool true), (6, .int .i64 k), (7, .ptr H.length 0)] ∧ H' = H ++ [.box [.int .i64 k, .str (nmK k), .int .i64 0, .vec [] true]] ∧ D' = []) ?_ fun e A' H' D' hq => ?_
  · refine awp_block ?_
    refine awp_seq ?_
    refine awp_run rfl (by simp only [fwA, ↓reduceIte, Nat.reduceAdd, Nat.reduceMul, Nat.reduceEqDiff, Nat.reduceLT, Nat.reduceLeDiff, reduceCtorEq] <;> rfl) ?_
    refine awp_cond (by simp only [fwA, ↓reduceIte, Nat.reduceAdd, Nat.reduceMul, Nat.reduceEqDiff, Nat.reduceLT, Nat.reduceLeDiff, reduceCtorEq] <;> rfl) ?_
    by_cases k12 : k = 12
    · rw [hnm, if_pos k12]
      simp only [k12, decide_true, ↓reduceIte]
      refine awp_run rfl (by simp only [fwA, ↓reduceIte, Nat.reduceAdd, Nat.reduceMul, Nat.reduceEqDiff, Nat.reduceLT, Nat.reduceLeDiff, reduceCtorEq, Tm.fw, ti24, ti22, ti9, ti3, un5, un4, un3, un22, un46, el46, pl24, fl24_1, fl24_3, decide_true, decide_false, beq_self_eq_true, Bool.not_true, Bool.not_false, Bool.and_self] <;> rfl) ?_
      exact ⟨rfl, by simp [akeep, alook, aput, ev, k12], by simp [k12], rfl⟩
    have k12d : decide (k = 12) = false := decide_eq_false k12
    rw [hnm, if_neg k12]
    simp only [k12d, Bool.false_eq_true, ↓reduceIte]
    refine awp_seq ?_
    refine AWP.mono (Q := fun e A' H' D' => e = .normal ∧ akeep [0, 1, 5, 6, 7, 23] A' = [(0, .int .u8 n), (1, .int .u8 m), (5, .bool true), (6, .int .i64 k), (7, .ptr H.length 0), (23, .bool (decide (k = 2) || (Tm.mk k [] 0 []).binder))] ∧ H' = H ++ [.box [.int .i64 k, .str [], .int .i64 0, .vec [] true]] ∧ D' = []) ?_ fun e A' H' D' hq => ?_
    · refine awp_region rfl ?_
      by_cases kk : k = 2
      · have kkd : decide (k = 2) = true := decide_eq_true kk
        refine aops_run 7 (by simp only [fwA, ↓reduceIte, Nat.reduceAdd, Nat.reduceMul, Nat.reduceEqDiff, Nat.reduceLT, Nat.reduceLeDiff, reduceCtorEq, Tm.fw, ti24, ti22, ti9, ti3, un5, un4, un3, un22, un46, el46, pl24, fl24_1, fl24_3, decide_true, decide_false, beq_self_eq_true, Bool.not_true, Bool.not_false, Bool.and_self, kkd] <;> rfl) ?_
        exact ⟨rfl, by simp [akeep, alook, aput, ev, kkd], rfl, rfl⟩
      · have kkd : decide (k = 2) = false := decide_eq_false kk
        refine aops_run 4 (by simp only [fwA, ↓reduceIte, Nat.reduceAdd, Nat.reduceMul, Nat.reduceEqDiff, Nat.reduceLT, Nat.reduceLeDiff, reduceCtorEq, Tm.fw, ti24, ti22, ti9, ti3, un5, un4, un3, un22, un46, el46, pl24, fl24_1, fl24_3, decide_true, decide_false, beq_self_eq_true, Bool.not_true, Bool.not_false, Bool.and_self, kkd] <;> rfl) ?_
        refine aops_fnIf rfl rfl rfl rfl rfl en22 b22' ?_
        refine aops_run 2 (by simp only [fwA, ↓reduceIte, Nat.reduceAdd, Nat.reduceMul, Nat.reduceEqDiff, Nat.reduceLT, Nat.reduceLeDiff, reduceCtorEq, Tm.fw, ti24, ti22, ti9, ti3, un5, un4, un3, un22, un46, el46, pl24, fl24_1, fl24_3, decide_true, decide_false, beq_self_eq_true, Bool.not_true, Bool.not_false, Bool.and_self] <;> rfl) ?_
        exact ⟨rfl, by simp [akeep, alook, aput, ev, kkd], rfl, rfl⟩
    obtain ⟨rfl, hA, rfl, rfl⟩ := hq
    refine awp_keep _ hA ?_
    refine awp_cond (by simp only [fwA, ↓reduceIte, Nat.reduceAdd, Nat.reduceMul, Nat.reduceEqDiff, Nat.reduceLT, Nat.reduceLeDiff, reduceCtorEq] <;> rfl) ?_
    by_cases kv : k = 2 ∨ (Tm.mk k [] 0 []).binder = true
    · have hbt : (decide (k = 2) || (Tm.mk k [] 0 []).binder) = true := by
        rcases kv with kv | kv
        · rw [decide_eq_true kv]; rfl
        · rw [kv, Bool.or_true]
      rw [if_pos kv, hbt]
      refine awp_run rfl (by simp only [fwA, ↓reduceIte, Nat.reduceAdd, Nat.reduceMul, Nat.reduceEqDiff, Nat.reduceLT, Nat.reduceLeDiff, reduceCtorEq, Tm.fw, ti24, ti22, ti9, ti3, un5, un4, un3, un22, un46, el46, pl24, fl24_1, fl24_3, decide_true, decide_false, beq_self_eq_true, Bool.not_true, Bool.not_false, Bool.and_self] <;> rfl) ?_
      exact ⟨rfl, by simp [akeep, alook, aput, ev], by simp, rfl⟩
    · have hbf : (decide (k = 2) || (Tm.mk k [] 0 []).binder) = false := by
        have a1 : (Tm.mk k [] 0 []).binder = false := by cases h : (Tm.mk k [] 0 []).binder with | false => rfl | true => exact absurd (.inr h) kv
        have a2 : decide (k = 2) = false := decide_eq_false fun h => kv (.inl h)
        rw [a1, a2]; rfl
      rw [if_neg kv, hbf]
      refine awp_skip ?_
      exact ⟨rfl, by simp [akeep, alook, aput, ev], rfl, rfl⟩
  obtain ⟨rfl, hA, rfl, rfl⟩ := hq
  refine awp_keep _ hA ?_
  refine awp_seq ?_
  refine awp_seq ?_
  refine awp_run rfl (by simp only [fwA, ↓reduceIte, Nat.reduceAdd, Nat.reduceMul, Nat.reduceEqDiff, Nat.reduceLT, Nat.reduceLeDiff, reduceCtorEq] <;> rfl) ?_
  refine awp_told (told_adoptBox H.length 3 4 (by decide) (by simp only [fwA, ↓reduceIte, Nat.reduceAdd, Nat.reduceMul, Nat.reduceEqDiff, Nat.reduceLT, Nat.reduceLeDiff, reduceCtorEq] <;> rfl) rfl) ?_
  refine awp_block ?_
  refine awp_for [0, 1, 5, 6, 7, 8] (fun i : Nat => [.int .u8 n, .int .u8 m, .bool true, .int .i64 k, .ptr H.length 0, .int .i64 i])
    (fun i => H ++ [.box [.int .i64 k, .str (nmK k), .int .i64 0, .row (H.length + 1) 0 i 4], .row 4 ((List.replicate i threeT).map Tm.enc).flatten])
    (fun i => q - i) (fun i => i ≤ q) 0 (by simp [alook, aput, ev]) (by simp) (Nat.zero_le _) fun i hi => ?_
  have hti : (List.replicate i threeT).length = i := List.length_replicate ..
  refine awp_seq ?_
  refine awp_seq ?_
  refine awp_run rfl (by simp only [fwA, ↓reduceIte, Nat.reduceAdd, Nat.reduceMul, Nat.reduceEqDiff, Nat.reduceLT, Nat.reduceLeDiff, reduceCtorEq, Tm.fw, ti24, ti22, ti9, ti3, un5, un4, un3, un22, un46, el46, pl24, fl24_1, fl24_3, decide_true, decide_false, beq_self_eq_true, Bool.not_true, Bool.not_false, Bool.and_self, hn, hm, hr1, hq1, ek, ne_eq, Int.reduceEq, not_false_eq_true, and_self, and_true] <;> rfl) ?_
  refine awp_cond (by simp only [fwA, ↓reduceIte, Nat.reduceAdd, Nat.reduceMul, Nat.reduceEqDiff, Nat.reduceLT, Nat.reduceLeDiff, reduceCtorEq] <;> rfl) ?_
  by_cases hc : (i : Int) < (q : Int)
  rotate_left
  · simp only [hc, decide_false, Bool.false_eq_true, ↓reduceIte]
    refine awp_exit ?_
    have hie : i = q := by omega
    subst hie
    refine awp_told (told_freezeAt H _ 1 (C := ((List.replicate i threeT).map Tm.enc).flatten) rfl (flat_bd (fun t => by simp only [Tm.fw]) _)) ?_
    have hl : (((List.replicate i threeT).map Tm.enc).flatten).length = i * 4 := by rw [flat_len Tm.enc_len, hti]
    have hch : chunk 4 i (((List.replicate i threeT).map Tm.enc).flatten) = (List.replicate i threeT).map Tm.enc := by
      have := flat_chunk Tm.enc_len (List.replicate i threeT)
      rwa [hti] at this
    have hke : (kT k i).enc = [.int .i64 k, .str (nmK k), .int .i64 0, .vec ((List.replicate i threeT).map Tm.enc) false] := Tm.enc_eq _
    refine awp_heap (H' := H ++ [.box (kT k i).enc, .dead]) (by simp only [fwA, ↓reduceIte, Nat.reduceAdd, Nat.reduceMul, Nat.reduceEqDiff, Nat.reduceLT, Nat.reduceLeDiff, reduceCtorEq, hl, hch, hke] <;> rfl) ?_
    refine awp_keep (A' := [(0, .int .u8 n), (1, .int .u8 m), (5, .bool true), (6, .int .i64 k), (7, .ptr H.length 0)]) [0, 1, 5, 6, 7] (by simp [akeep, alook, aput, ev, frz]) ?_
    refine awp_seq ?_
    -- region 14
    have hkk : 0 ≤ k := by omega
    refine awp_run rfl (by simp only [fwA, ↓reduceIte, Nat.reduceAdd, Nat.reduceMul, Nat.reduceEqDiff, Nat.reduceLT, Nat.reduceLeDiff, reduceCtorEq, Tm.fw, ti24, ti22, ti9, ti3, un5, un4, un3, un22, un46, el46, pl24, fl24_1, fl24_3, decide_true, decide_false, beq_self_eq_true, Bool.not_true, Bool.not_false, Bool.and_self, hwt, hkk] <;> rfl) ?_
    refine awp_seq ?_
    -- region 15

    by_cases a3 : k = 3
    · have d3 : decide (k = 3) = true := decide_eq_true a3
      rw [d3, Bool.true_or, Bool.true_or] at hbe
      rw [hbe] at w22
      refine awp_region rfl ?_
      refine aops_run 3 (by simp only [fwA, ↓reduceIte, Nat.reduceAdd, Nat.reduceMul, Nat.reduceEqDiff, Nat.reduceLT, Nat.reduceLeDiff, reduceCtorEq, Tm.fw, ti24, ti22, ti9, ti3, un5, un4, un3, un22, un46, el46, pl24, fl24_1, fl24_3, decide_true, decide_false, beq_self_eq_true, Bool.not_true, Bool.not_false, Bool.and_self, hn, hm, hr1, hq1, ek, ne_eq, Int.reduceEq, not_false_eq_true, and_self, and_true, d3] <;> rfl) ?_
      refine aops_fnIf rfl rfl rfl rfl rfl en15 w15 ?_
      refine aops_run 9 (by simp only [fwA, ↓reduceIte, Nat.reduceAdd, Nat.reduceMul, Nat.reduceEqDiff, Nat.reduceLT, Nat.reduceLeDiff, reduceCtorEq, Tm.fw, ti24, ti22, ti9, ti3, un5, un4, un3, un22, un46, el46, pl24, fl24_1, fl24_3, decide_true, decide_false, beq_self_eq_true, Bool.not_true, Bool.not_false, Bool.and_self, hn, hm, hr1, hq1, ek, ne_eq, Int.reduceEq, not_false_eq_true, and_self, and_true, d3] <;> rfl) ?_
      refine aops_fnIf rfl rfl rfl rfl rfl en22 w22 ?_
      refine aops_run 13 (by simp only [fwA, ↓reduceIte, Nat.reduceAdd, Nat.reduceMul, Nat.reduceEqDiff, Nat.reduceLT, Nat.reduceLeDiff, reduceCtorEq, Tm.fw, ti24, ti22, ti9, ti3, un5, un4, un3, un22, un46, el46, pl24, fl24_1, fl24_3, decide_true, decide_false, beq_self_eq_true, Bool.not_true, Bool.not_false, Bool.and_self, hn, hm, hr1, hq1, ek, ne_eq, Int.reduceEq, not_false_eq_true, and_self, and_true, d3] <;> rfl) ?_
      refine aops_end ?_
      exact awp_ret (gives_end (.inl rfl) _ rfl)
    have d3 : decide (k = 3) = false := decide_eq_false a3
    by_cases a5 : k = 5
    · have d5 : decide (k = 5) = true := decide_eq_true a5
      rw [d3, d5, Bool.false_or, Bool.true_or] at hbe
      rw [hbe] at w22
      refine awp_region rfl ?_
      refine aops_run 3 (by simp only [fwA, ↓reduceIte, Nat.reduceAdd, Nat.reduceMul, Nat.reduceEqDiff, Nat.reduceLT, Nat.reduceLeDiff, reduceCtorEq, Tm.fw, ti24, ti22, ti9, ti3, un5, un4, un3, un22, un46, el46, pl24, fl24_1, fl24_3, decide_true, decide_false, beq_self_eq_true, Bool.not_true, Bool.not_false, Bool.and_self, hn, hm, hr1, hq1, ek, ne_eq, Int.reduceEq, not_false_eq_true, and_self, and_true, d3, d5] <;> rfl) ?_
      refine aops_fnIf rfl rfl rfl rfl rfl en15 w15 ?_
      refine aops_run 9 (by simp only [fwA, ↓reduceIte, Nat.reduceAdd, Nat.reduceMul, Nat.reduceEqDiff, Nat.reduceLT, Nat.reduceLeDiff, reduceCtorEq, Tm.fw, ti24, ti22, ti9, ti3, un5, un4, un3, un22, un46, el46, pl24, fl24_1, fl24_3, decide_true, decide_false, beq_self_eq_true, Bool.not_true, Bool.not_false, Bool.and_self, hn, hm, hr1, hq1, ek, ne_eq, Int.reduceEq, not_false_eq_true, and_self, and_true, d3, d5] <;> rfl) ?_
      refine aops_fnIf rfl rfl rfl rfl rfl en22 w22 ?_
      refine aops_run 13 (by simp only [fwA, ↓reduceIte, Nat.reduceAdd, Nat.reduceMul, Nat.reduceEqDiff, Nat.reduceLT, Nat.reduceLeDiff, reduceCtorEq, Tm.fw, ti24, ti22, ti9, ti3, un5, un4, un3, un22, un46, el46, pl24, fl24_1, fl24_3, decide_true, decide_false, beq_self_eq_true, Bool.not_true, Bool.not_false, Bool.and_self, hn, hm, hr1, hq1, ek, ne_eq, Int.reduceEq, not_false_eq_true, and_self, and_true, d3, d5] <;> rfl) ?_
      refine aops_end ?_
      exact awp_ret (gives_end (.inl rfl) _ rfl)
    have d5 : decide (k = 5) = false := decide_eq_false a5
    by_cases a9 : k = 9
    · have d9 : decide (k = 9) = true := decide_eq_true a9
      have hb9 : (Tm.mk k [] 0 []).binder = true := by rw [hbe, d3, d5, d9]; rfl
      rw [hb9] at w22
      refine awp_region rfl ?_
      refine aops_run 3 (by simp only [fwA, ↓reduceIte, Nat.reduceAdd, Nat.reduceMul, Nat.reduceEqDiff, Nat.reduceLT, Nat.reduceLeDiff, reduceCtorEq, Tm.fw, ti24, ti22, ti9, ti3, un5, un4, un3, un22, un46, el46, pl24, fl24_1, fl24_3, decide_true, decide_false, beq_self_eq_true, Bool.not_true, Bool.not_false, Bool.and_self, hn, hm, hr1, hq1, ek, ne_eq, Int.reduceEq, not_false_eq_true, and_self, and_true, d3, d5, d9] <;> rfl) ?_
      refine aops_fnIf rfl rfl rfl rfl rfl en15 w15 ?_
      refine aops_run 9 (by simp only [fwA, ↓reduceIte, Nat.reduceAdd, Nat.reduceMul, Nat.reduceEqDiff, Nat.reduceLT, Nat.reduceLeDiff, reduceCtorEq, Tm.fw, ti24, ti22, ti9, ti3, un5, un4, un3, un22, un46, el46, pl24, fl24_1, fl24_3, decide_true, decide_false, beq_self_eq_true, Bool.not_true, Bool.not_false, Bool.and_self, hn, hm, hr1, hq1, ek, ne_eq, Int.reduceEq, not_false_eq_true, and_self, and_true, d3, d5, d9] <;> rfl) ?_
      refine aops_fnIf rfl rfl rfl rfl rfl en22 w22 ?_
      refine aops_run 13 (by simp only [fwA, ↓reduceIte, Nat.reduceAdd, Nat.reduceMul, Nat.reduceEqDiff, Nat.reduceLT, Nat.reduceLeDiff, reduceCtorEq, Tm.fw, ti24, ti22, ti9, ti3, un5, un4, un3, un22, un46, el46, pl24, fl24_1, fl24_3, decide_true, decide_false, beq_self_eq_true, Bool.not_true, Bool.not_false, Bool.and_self, hn, hm, hr1, hq1, ek, ne_eq, Int.reduceEq, not_false_eq_true, and_self, and_true, d3, d5, d9] <;> rfl) ?_
      refine aops_end ?_
      exact awp_ret (gives_end (.inl rfl) _ rfl)
    have d9 : decide (k = 9) = false := decide_eq_false a9
    have hb9 : (Tm.mk k [] 0 []).binder = false := by rw [hbe, d3, d5, d9]; rfl
    rw [hb9] at w22
    refine awp_region rfl ?_
    refine aops_run 3 (by simp only [fwA, ↓reduceIte, Nat.reduceAdd, Nat.reduceMul, Nat.reduceEqDiff, Nat.reduceLT, Nat.reduceLeDiff, reduceCtorEq, Tm.fw, ti24, ti22, ti9, ti3, un5, un4, un3, un22, un46, el46, pl24, fl24_1, fl24_3, decide_true, decide_false, beq_self_eq_true, Bool.not_true, Bool.not_false, Bool.and_self, hn, hm, hr1, hq1, ek, ne_eq, Int.reduceEq, not_false_eq_true, and_self, and_true, d3, d5, d9] <;> rfl) ?_
    refine aops_fnIf rfl rfl rfl rfl rfl en15 w15 ?_
    refine aops_run 9 (by simp only [fwA, ↓reduceIte, Nat.reduceAdd, Nat.reduceMul, Nat.reduceEqDiff, Nat.reduceLT, Nat.reduceLeDiff, reduceCtorEq, Tm.fw, ti24, ti22, ti9, ti3, un5, un4, un3, un22, un46, el46, pl24, fl24_1, fl24_3, decide_true, decide_false, beq_self_eq_true, Bool.not_true, Bool.not_false, Bool.and_self, hn, hm, hr1, hq1, ek, ne_eq, Int.reduceEq, not_false_eq_true, and_self, and_true, d3, d5, d9] <;> rfl) ?_
    refine aops_fnIf rfl rfl rfl rfl rfl en22 w22 ?_
    refine aops_run 13 (by simp only [fwA, ↓reduceIte, Nat.reduceAdd, Nat.reduceMul, Nat.reduceEqDiff, Nat.reduceLT, Nat.reduceLeDiff, reduceCtorEq, Tm.fw, ti24, ti22, ti9, ti3, un5, un4, un3, un22, un46, el46, pl24, fl24_1, fl24_3, decide_true, decide_false, beq_self_eq_true, Bool.not_true, Bool.not_false, Bool.and_self, hn, hm, hr1, hq1, ek, ne_eq, Int.reduceEq, not_false_eq_true, and_self, and_true, d3, d5, d9] <;> rfl) ?_
    refine aops_end ?_
    exact awp_ret (gives_end (.inl rfl) _ rfl)
  simp only [hc, decide_true, ↓reduceIte]
  refine awp_skip ?_
  refine awp_seq ?_
  refine awp_block ?_
  refine awp_drawn [0, 1, 0, 0, 2, 0, 2] [0, 1, 0, 4, 15, 31, 63] mixed rfl (by kernel_rfl) ?_
  refine dops_run 2 (by simp only [fwA, ↓reduceIte, Nat.reduceAdd, Nat.reduceMul, Nat.reduceEqDiff, Nat.reduceLT, Nat.reduceLeDiff, reduceCtorEq, Tm.fw, ti24, ti22, ti9, ti3, un5, un4, un3, un22, un46, el46, pl24, fl24_1, fl24_3, decide_true, decide_false, beq_self_eq_true, Bool.not_true, Bool.not_false, Bool.and_self] <;> rfl) ?_
  refine dops_fn rfl rfl rfl rfl en26 h3 ?_
  refine dops_run 1 (by simp only [fwA, ↓reduceIte, Nat.reduceAdd, Nat.reduceMul, Nat.reduceEqDiff, Nat.reduceLT, Nat.reduceLeDiff, reduceCtorEq, Tm.fw, ti24, ti22, ti9, ti3, un5, un4, un3, un22, un46, el46, pl24, fl24_1, fl24_3, decide_true, decide_false, beq_self_eq_true, Bool.not_true, Bool.not_false, Bool.and_self] <;> rfl) ?_
  refine dops_appendR (b := H.length + 1) (q := 0) (k := i) (n := 1) (cs := ((List.replicate i threeT).map Tm.enc).flatten) (xs := threeT.enc) rfl rfl rfl un22 ti24 un22 (.inl ⟨_, rfl⟩) rfl (by simp only [fwA, ↓reduceIte, Nat.reduceAdd, Nat.reduceMul, Nat.reduceEqDiff, Nat.reduceLT, Nat.reduceLeDiff, reduceCtorEq] <;> rfl) (by rw [flat_len Tm.enc_len, hti]; exact (Nat.zero_add _).symm) (congrArg some (List.append_nil _))
    (fun es f h e he => by
      simp only [fwA, ↓reduceIte, Nat.reduceAdd, Nat.reduceMul, Nat.reduceEqDiff, Nat.reduceLT, Nat.reduceLeDiff, reduceCtorEq, PV.vec.injEq] at h
      obtain ⟨rfl, rfl⟩ := h
      simp only [List.mem_singleton] at he
      subst he; exact Tm.enc_len _) rfl (by show (i + 1) * 56 ≤ _; omega) (by show i + 1 ≤ _; omega) ?_
  refine dops_run 2 (by simp only [fwA, ↓reduceIte, Nat.reduceAdd, Nat.reduceMul, Nat.reduceEqDiff, Nat.reduceLT, Nat.reduceLeDiff, reduceCtorEq, Tm.fw, ti24, ti22, ti9, ti3, un5, un4, un3, un22, un46, el46, pl24, fl24_1, fl24_3, decide_true, decide_false, beq_self_eq_true, Bool.not_true, Bool.not_false, Bool.and_self] <;> rfl) ?_
  refine dops_end ?_
  refine awp_run rfl (by simp only [fwA, ↓reduceIte, Nat.reduceAdd, Nat.reduceMul, Nat.reduceEqDiff, Nat.reduceLT, Nat.reduceLeDiff, reduceCtorEq] <;> rfl) ?_
  refine ⟨i + 1, by omega, by omega, by rw [wrapS i (by omega)]; rfl, ?_, rfl⟩
  have hrep : ((List.replicate (i + 1) threeT).map Tm.enc).flatten = ((List.replicate i threeT).map Tm.enc).flatten ++ threeT.enc := by
    rw [List.replicate_succ', List.map_append, List.flatten_append]; simp
  rw [hrep]

end Go.Proofs.YtlbmlhpjibgepaaDoor
