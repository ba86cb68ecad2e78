/- The law on what binds a name. -/
import Derived.Test.YtlbmlhpjibgepaaDoorT03c
namespace Go.Proofs.YtlbmlhpjibgepaaDoor
set_option linter.unusedVariables false
set_option linter.unusedSimpArgs false
set_option maxRecDepth 100000
open Go.RowKit Fw

set_option maxHeartbeats 4000000 in
/-- TermBinds -/
theorem c6 (Γ : Nat → PV) (hΓ : Tab Γ) (A B : Tm) (nm : List UInt8) (wA : A.w ≤ 2000000) (wB : B.w ≤ 2000000) : Gives Tryd.prog Γ 6 [.agg A.enc, .agg B.enc, .str nm] (.bool true) := by
  have hl24 := c24e Γ 5 nm A B
  have ht24 := c24e Γ 9 nm A B
  have hFw := one_w 3 nm A
  have hLw := two_w 5 nm A B
  have hTw := two_w 9 nm A B
  have f20 := c20 Γ (Tm.mk 3 nm 0 [A]) (by omega)
  have l20 := c20 Γ (Tm.mk 5 nm 0 [A, B]) (by omega)
  have t20 := c20 Γ (Tm.mk 9 nm 0 [A, B]) (by omega)
  have hFl : (Tm.mk 3 nm 0 [A]).free.length ≤ A.free.length := by
    rw [Tm.free_eq]
    show (Tm.frees [A] [] true nm).length ≤ _
    unfold Tm.frees Tm.frees
    have := addTs_len true nm A.free []
    rw [List.length_nil, Nat.zero_add] at this
    exact this
  have hFm : ∀ s, s ∈ (Tm.mk 3 nm 0 [A]).free ↔ s ∈ A.free ∧ s ≠ nm := fun s => mem_bind1
  have hLm : ∀ s, s ∈ (Tm.mk 5 nm 0 [A, B]).free ↔ s ∈ A.free ∨ (s ∈ B.free ∧ s ≠ nm) := fun s => mem_bind2 (.inl rfl)
  have hTe : (Tm.mk 9 nm 0 [A, B]).free = (Tm.mk 5 nm 0 [A, B]).free := by rw [Tm.free_eq, Tm.free_eq]; rfl
  rw [hTe] at t20
  have hle : PV.leL [PV.agg [.int .i64 3, .str nm, .int .i64 0, .vec [A.enc] true]] [.agg (Tm.mk 3 nm 0 [A]).enc] := ⟨one_le 3 nm A, trivial⟩
  have f20' := f20.args hle
  have a20 := c20 Γ A (by omega)
  have b20 := c20 Γ B (by omega)
  have hlA := free_len A
  have hlB := free_len B
  generalize Tm.mk 5 nm 0 [A, B] = LT at hl24 l20 t20 hLm
  generalize Tm.mk 9 nm 0 [A, B] = TT at ht24 t20
  generalize (Tm.mk 3 nm 0 [A]).free = f at f20' hFl hFm
  generalize LT.free = l at l20 t20 hLm
  generalize A.free = n at a20 hFl hFm hLm hlA
  generalize B.free = m at b20 hLm hlB
  have t19 := c19 Γ l l false false
  rw [decide_eq_true rfl] at t19
  have f25 := c25 Γ f false nm
  rw [decide_eq_false (fun h => ((hFm nm).1 h).2 rfl)] at f25
  have l25 := c25 Γ l false nm
  have n25 := c25 Γ n false nm
  have hnl : decide (nm ∈ l) = decide (nm ∈ n) := decide_eq_decide.2 ⟨fun h => ((hLm nm).1 h).elim id fun h => absurd rfl h.2, fun h => (hLm nm).2 (.inl h)⟩
  rw [hnl] at l25
  generalize decide (nm ∈ n) = q at l25 n25
  refine fn_of_awp Tryd.func6 rfl (by simp [Tryd.f6]) rfl fun H => ?_
  refine awp_seq ?_
  refine awp_run rfl (by simp only [fwA, ↓reduceIte, Nat.reduceAdd, Nat.reduceMul, Nat.reduceEqDiff, Nat.reduceLT, Nat.reduceLeDiff, reduceCtorEq, Tm.fw] <;> rfl) ?_
  refine awp_seq ?_
  refine awp_region rfl ?_
  refine aops_fn rfl rfl rfl en9 (c9 Γ hΓ) ?_
  refine aops_run 1 (by simp only [fwA, ↓reduceIte, Nat.reduceAdd, Nat.reduceMul, Nat.reduceEqDiff, Nat.reduceLT, Nat.reduceLeDiff, reduceCtorEq] <;> rfl) ?_
  refine awp_seq ?_
  refine awp_seq ?_
  refine awp_run rfl (by simp only [fwA, ↓reduceIte, Nat.reduceAdd, Nat.reduceMul, Nat.reduceEqDiff, Nat.reduceLT, Nat.reduceLeDiff, reduceCtorEq] <;> rfl) ?_
  refine awp_cond (b := false) (by simp [alook, aput, ev]) (awp_skip ?_)
  refine awp_keep (A' := [(2, .str nm), (3, .ptr H.length 0), (4, .ptr (H.length + 1) 0), (7, .bool true)]) [2, 3, 4, 7] (by simp [akeep, alook, aput, ev]) ?_
  refine awp_heap (H' := H ++ [.box A.enc, .box B.enc]) (by simp) ?_
  refine awp_seq ?_
  refine awp_region rfl ?_
  refine aops_run 4 (by simp only [fwA, ↓reduceIte, Nat.reduceAdd, Nat.reduceMul, Nat.reduceEqDiff, Nat.reduceLT, Nat.reduceLeDiff, reduceCtorEq, Tm.fw, ti24, ti28, ti9, ti3, un4, un3, un37, un22, pl24, decide_true, decide_false, beq_self_eq_true, Bool.not_true, Bool.not_false, Bool.and_self] <;> rfl) ?_
  refine aops_fn rfl rfl rfl en20 f20' ?_
  refine aops_run 1 (by simp only [fwA, ↓reduceIte, Nat.reduceAdd, Nat.reduceMul, Nat.reduceEqDiff, Nat.reduceLT, Nat.reduceLeDiff, reduceCtorEq, Tm.fw, ti24, ti28, ti9, ti3, un4, un3, un37, un22, pl24, decide_true, decide_false, beq_self_eq_true, Bool.not_true, Bool.not_false, Bool.and_self] <;> rfl) ?_
  refine aops_end ?_
  refine awp_seq ?_
  refine awp_region rfl ?_
  refine aops_run 3 (by simp only [fwA, ↓reduceIte, Nat.reduceAdd, Nat.reduceMul, Nat.reduceEqDiff, Nat.reduceLT, Nat.reduceLeDiff, reduceCtorEq, Tm.fw, ti24, ti28, ti9, ti3, un4, un3, un37, un22, pl24, decide_true, decide_false, beq_self_eq_true, Bool.not_true, Bool.not_false, Bool.and_self] <;> rfl) ?_
  refine aops_fn rfl rfl rfl en24 hl24 ?_
  refine aops_fn rfl rfl rfl en20 l20 ?_
  refine aops_run 1 (by simp only [fwA, ↓reduceIte, Nat.reduceAdd, Nat.reduceMul, Nat.reduceEqDiff, Nat.reduceLT, Nat.reduceLeDiff, reduceCtorEq, Tm.fw, ti24, ti28, ti9, ti3, un4, un3, un37, un22, pl24, decide_true, decide_false, beq_self_eq_true, Bool.not_true, Bool.not_false, Bool.and_self] <;> rfl) ?_
  refine aops_end ?_
  refine awp_seq ?_
  refine awp_region rfl ?_
  refine aops_run 3 (by simp only [fwA, ↓reduceIte, Nat.reduceAdd, Nat.reduceMul, Nat.reduceEqDiff, Nat.reduceLT, Nat.reduceLeDiff, reduceCtorEq, Tm.fw, ti24, ti28, ti9, ti3, un4, un3, un37, un22, pl24, decide_true, decide_false, beq_self_eq_true, Bool.not_true, Bool.not_false, Bool.and_self] <;> rfl) ?_
  refine aops_fn rfl rfl rfl en24 ht24 ?_
  refine aops_fn rfl rfl rfl en20 t20 ?_
  refine aops_run 1 (by simp only [fwA, ↓reduceIte, Nat.reduceAdd, Nat.reduceMul, Nat.reduceEqDiff, Nat.reduceLT, Nat.reduceLeDiff, reduceCtorEq, Tm.fw, ti24, ti28, ti9, ti3, un4, un3, un37, un22, pl24, decide_true, decide_false, beq_self_eq_true, Bool.not_true, Bool.not_false, Bool.and_self] <;> rfl) ?_
  refine aops_end ?_
  refine awp_seq ?_
  refine awp_region rfl ?_
  refine aops_run 1 (by simp only [fwA, ↓reduceIte, Nat.reduceAdd, Nat.reduceMul, Nat.reduceEqDiff, Nat.reduceLT, Nat.reduceLeDiff, reduceCtorEq, Tm.fw, ti24, ti28, ti9, ti3, un4, un3, un37, un22, pl24, decide_true, decide_false, beq_self_eq_true, Bool.not_true, Bool.not_false, Bool.and_self] <;> rfl) ?_
  refine aops_fn rfl rfl rfl en20 a20 ?_
  refine aops_run 1 (by simp only [fwA, ↓reduceIte, Nat.reduceAdd, Nat.reduceMul, Nat.reduceEqDiff, Nat.reduceLT, Nat.reduceLeDiff, reduceCtorEq, Tm.fw, ti24, ti28, ti9, ti3, un4, un3, un37, un22, pl24, decide_true, decide_false, beq_self_eq_true, Bool.not_true, Bool.not_false, Bool.and_self] <;> rfl) ?_
  refine aops_end ?_
  refine awp_seq ?_
  refine awp_region rfl ?_
  refine aops_run 1 (by simp only [fwA, ↓reduceIte, Nat.reduceAdd, Nat.reduceMul, Nat.reduceEqDiff, Nat.reduceLT, Nat.reduceLeDiff, reduceCtorEq, Tm.fw, ti24, ti28, ti9, ti3, un4, un3, un37, un22, pl24, decide_true, decide_false, beq_self_eq_true, Bool.not_true, Bool.not_false, Bool.and_self] <;> rfl) ?_
  refine aops_fn rfl rfl rfl en20 b20 ?_
  refine aops_run 1 (by simp only [fwA, ↓reduceIte, Nat.reduceAdd, Nat.reduceMul, Nat.reduceEqDiff, Nat.reduceLT, Nat.reduceLeDiff, reduceCtorEq, Tm.fw, ti24, ti28, ti9, ti3, un4, un3, un37, un22, pl24, decide_true, decide_false, beq_self_eq_true, Bool.not_true, Bool.not_false, Bool.and_self] <;> rfl) ?_
  refine aops_end ?_
  refine awp_seq ?_
  refine awp_seq ?_
  refine awp_region rfl ?_
  refine aops_run 2 (by simp only [fwA, ↓reduceIte, Nat.reduceAdd, Nat.reduceMul, Nat.reduceEqDiff, Nat.reduceLT, Nat.reduceLeDiff, reduceCtorEq, Tm.fw, ti24, ti28, ti9, ti3, un4, un3, un37, un22, pl24, decide_true, decide_false, beq_self_eq_true, Bool.not_true, Bool.not_false, Bool.and_self] <;> rfl) ?_
  refine aops_fn rfl rfl rfl en25 f25 ?_
  refine aops_run 3 (by simp only [fwA, ↓reduceIte, Nat.reduceAdd, Nat.reduceMul, Nat.reduceEqDiff, Nat.reduceLT, Nat.reduceLeDiff, reduceCtorEq, Tm.fw, ti24, ti28, ti9, ti3, un4, un3, un37, un22, pl24, decide_true, decide_false, beq_self_eq_true, Bool.not_true, Bool.not_false, Bool.and_self] <;> rfl) ?_
  refine aops_fnIf rfl rfl rfl rfl rfl en25 l25 ?_
  refine aops_run 2 (by simp only [fwA, ↓reduceIte, Nat.reduceAdd, Nat.reduceMul, Nat.reduceEqDiff, Nat.reduceLT, Nat.reduceLeDiff, reduceCtorEq, Tm.fw, ti24, ti28, ti9, ti3, un4, un3, un37, un22, pl24, decide_true, decide_false, beq_self_eq_true, Bool.not_true, Bool.not_false, Bool.and_self] <;> rfl) ?_
  refine aops_fnIf rfl rfl rfl rfl rfl en25 n25 ?_
  refine aops_run 5 (by simp only [fwA, ↓reduceIte, Nat.reduceAdd, Nat.reduceMul, Nat.reduceEqDiff, Nat.reduceLT, Nat.reduceLeDiff, reduceCtorEq, Tm.fw, ti24, ti28, ti9, ti3, un4, un3, un37, un22, pl24, decide_true, decide_false, beq_self_eq_true, Bool.not_true, Bool.not_false, Bool.and_self] <;> rfl) ?_
  refine aops_fnIf rfl rfl rfl rfl rfl en19 t19 ?_
  refine aops_run 2 (by simp only [fwA, ↓reduceIte, Nat.reduceAdd, Nat.reduceMul, Nat.reduceEqDiff, Nat.reduceLT, Nat.reduceLeDiff, reduceCtorEq, Tm.fw, ti24, ti28, ti9, ti3, un4, un3, un37, un22, pl24, decide_true, decide_false, beq_self_eq_true, Bool.not_true, Bool.not_false, Bool.and_self] <;> rfl) ?_
  refine aops_end ?_
  refine awp_cond (b := false) (by simp [alook, aput, ev]) (awp_skip ?_)
  refine awp_seq ?_
  refine awp_seq ?_
  refine awp_run rfl (by simp only [fwA, ↓reduceIte, Nat.reduceAdd, Nat.reduceMul, Nat.reduceEqDiff, Nat.reduceLT, Nat.reduceLeDiff, reduceCtorEq] <;> rfl) ?_
  obtain ⟨L, hL⟩ : ∃ L, [Blk.box A.enc, Blk.box B.enc] = L := ⟨_, rfl⟩
  rw [hL]
  refine awp_block ?_
  refine awp_for [2, 7, 8, 9, 11, 12, 13] (fun i : Nat => [.str nm, .bool true, .vec (f.map S1) false, .vec (l.map S1) false, .vec (n.map S1) false, .vec (m.map S1) false, .int .i64 i]) (fun _ => H ++ L) (fun i => n.length - i) (fun i => i ≤ n.length) 0 (by simp [alook, aput, ev]) rfl (Nat.zero_le _) fun i hi => ?_
  refine awp_seq ?_
  refine awp_seq ?_
  refine awp_run rfl (by simp only [fwA, ↓reduceIte, Nat.reduceAdd, Nat.reduceMul, Nat.reduceEqDiff, Nat.reduceLT, Nat.reduceLeDiff, reduceCtorEq, un37, List.length_map] <;> rfl) ?_
  refine awp_cond (by simp only [fwA, ↓reduceIte, Nat.reduceAdd, Nat.reduceMul, Nat.reduceEqDiff, Nat.reduceLT, Nat.reduceLeDiff, reduceCtorEq] <;> rfl) ?_
  by_cases hc : (i : Int) < n.length
  rotate_left
  · simp only [hc, decide_false, Bool.false_eq_true, ↓reduceIte]
    refine awp_exit ?_
    refine awp_seq ?_
    refine awp_seq ?_
    refine awp_run rfl (by simp only [fwA, ↓reduceIte, Nat.reduceAdd, Nat.reduceMul, Nat.reduceEqDiff, Nat.reduceLT, Nat.reduceLeDiff, reduceCtorEq] <;> rfl) ?_
    refine awp_block ?_
    refine awp_for [2, 7, 8, 9, 11, 12, 14] (fun i : Nat => [.str nm, .bool true, .vec (f.map S1) false, .vec (l.map S1) false, .vec (n.map S1) false, .vec (m.map S1) false, .int .i64 i]) (fun _ => H ++ L) (fun i => m.length - i) (fun i => i ≤ m.length) 0 (by simp [alook, aput, ev]) rfl (Nat.zero_le _) fun i hi => ?_
    refine awp_seq ?_
    refine awp_seq ?_
    refine awp_run rfl (by simp only [fwA, ↓reduceIte, Nat.reduceAdd, Nat.reduceMul, Nat.reduceEqDiff, Nat.reduceLT, Nat.reduceLeDiff, reduceCtorEq, un37, List.length_map] <;> rfl) ?_
    refine awp_cond (by simp only [fwA, ↓reduceIte, Nat.reduceAdd, Nat.reduceMul, Nat.reduceEqDiff, Nat.reduceLT, Nat.reduceLeDiff, reduceCtorEq] <;> rfl) ?_
    by_cases hc : (i : Int) < m.length
    rotate_left
    · simp only [hc, decide_false, Bool.false_eq_true, ↓reduceIte]
      refine awp_exit ?_
      have hfl : (f.length : Int) ≤ n.length := by omega
      refine awp_seq ?_
      refine awp_region rfl ?_
      refine aops_run 9 (by simp only [fwA, ↓reduceIte, Nat.reduceAdd, Nat.reduceMul, Nat.reduceEqDiff, Nat.reduceLT, Nat.reduceLeDiff, reduceCtorEq, Tm.fw, ti24, ti28, ti9, ti3, un4, un3, un37, un22, pl24, decide_true, decide_false, beq_self_eq_true, Bool.not_true, Bool.not_false, Bool.and_self, List.length_map, hfl] <;> rfl) ?_
      refine aops_end ?_
      exact awp_ret (gives_end (.inl rfl) _ rfl)
    simp only [hc, decide_true, ↓reduceIte]
    refine awp_skip ?_
    have hia : i < m.length := by omega
    have gx : m[i]? = some m[i] := List.getElem?_eq_getElem hia
    have hxm := List.getElem_mem hia
    have h25 := c25 Γ l false m[i]
    have hml : m[i] ≠ nm → m[i] ∈ l := fun h => (hLm m[i]).2 (.inr ⟨hxm, h⟩)
    generalize m[i] = x at gx h25 hml
    refine awp_seq ?_
    refine awp_block ?_
    refine awp_seq ?_
    refine AWP.mono (Q := fun e A' H' D' => e = .normal ∧ akeep [2, 7, 8, 9, 11, 12, 14, 105] A' = [(2, .str nm), (7, .bool true), (8, .vec (f.map S1) false), (9, .vec (l.map S1) false), (11, .vec (n.map S1) false), (12, .vec (m.map S1) false), (14, .int .i64 i), (105, .bool false)] ∧ H' = H ++ L ∧ D' = []) ?_ fun e A' H' D' hq => ?_
    · by_cases hx : x = nm
      · have hxd : decide (x = nm) = true := decide_eq_true hx
        refine awp_region rfl ?_
        refine aops_run 13 (by simp only [fwA, ↓reduceIte, Nat.reduceAdd, Nat.reduceMul, Nat.reduceEqDiff, Nat.reduceLT, Nat.reduceLeDiff, reduceCtorEq, el37, ti9, List.getElem?_map, gx, Option.map_some, Int.natCast_nonneg, S1_fw, decide_true, decide_false, Bool.not_true, Bool.not_false, hxd] <;> rfl) ?_
        refine aops_run 2 (by simp only [fwA, ↓reduceIte, Nat.reduceAdd, Nat.reduceMul, Nat.reduceEqDiff, Nat.reduceLT, Nat.reduceLeDiff, reduceCtorEq, el37, ti9, List.getElem?_map, gx, Option.map_some, Int.natCast_nonneg, S1_fw, decide_true, decide_false, Bool.not_true, Bool.not_false, hxd] <;> rfl) ?_
        refine aops_end ?_
        exact ⟨rfl, by simp [akeep, alook, aput, ev], rfl, rfl⟩
      · rw [decide_eq_true (hml hx)] at h25
        have hxd : decide (x = nm) = false := decide_eq_false hx
        refine awp_region rfl ?_
        refine aops_run 12 (by simp only [fwA, ↓reduceIte, Nat.reduceAdd, Nat.reduceMul, Nat.reduceEqDiff, Nat.reduceLT, Nat.reduceLeDiff, reduceCtorEq, el37, ti9, List.getElem?_map, gx, Option.map_some, Int.natCast_nonneg, S1_fw, decide_true, decide_false, Bool.not_true, Bool.not_false, hxd] <;> rfl) ?_
        refine aops_fnIf rfl rfl rfl rfl rfl en25 h25 ?_
        refine aops_run 2 (by simp only [fwA, ↓reduceIte, Nat.reduceAdd, Nat.reduceMul, Nat.reduceEqDiff, Nat.reduceLT, Nat.reduceLeDiff, reduceCtorEq, el37, ti9, List.getElem?_map, gx, Option.map_some, Int.natCast_nonneg, S1_fw, decide_true, decide_false, Bool.not_true, Bool.not_false, hxd] <;> rfl) ?_
        refine aops_end ?_
        exact ⟨rfl, by simp [akeep, alook, aput, ev], rfl, rfl⟩
    obtain ⟨rfl, hA, rfl, rfl⟩ := hq
    refine awp_keep _ hA ?_
    refine awp_cond (b := false) rfl (awp_skip ?_)
    refine awp_run rfl (by simp only [fwA, ↓reduceIte, Nat.reduceAdd, Nat.reduceMul, Nat.reduceEqDiff, Nat.reduceLT, Nat.reduceLeDiff, reduceCtorEq] <;> rfl) ?_
    exact ⟨i + 1, by omega, by omega, by rw [wrapS i (by omega)]; rfl, rfl, rfl⟩
  simp only [hc, decide_true, ↓reduceIte]
  refine awp_skip ?_
  have hia : i < n.length := by omega
  have gx : n[i]? = some n[i] := List.getElem?_eq_getElem hia
  have hxm := List.getElem_mem hia
  have hf25 := c25 Γ f false n[i]
  have hl25 := c25 Γ l false n[i]
  rw [decide_eq_true ((hLm n[i]).2 (.inl hxm))] at hl25
  have hmf : n[i] ≠ nm → n[i] ∈ f := fun h => (hFm n[i]).2 ⟨hxm, h⟩
  generalize n[i] = x at gx hf25 hl25 hmf
  refine awp_seq ?_
  refine awp_block ?_
  refine awp_seq ?_
  refine AWP.mono (Q := fun e A' H' D' => e = .normal ∧ akeep [2, 7, 8, 9, 11, 12, 13, 84] A' = [(2, .str nm), (7, .bool true), (8, .vec (f.map S1) false), (9, .vec (l.map S1) false), (11, .vec (n.map S1) false), (12, .vec (m.map S1) false), (13, .int .i64 i), (84, .bool false)] ∧ H' = H ++ L ∧ D' = []) ?_ fun e A' H' D' hq => ?_
  · by_cases hx : x = nm
    · have hxd : decide (x = nm) = true := decide_eq_true hx
      refine awp_region rfl ?_
      refine aops_run 13 (by simp only [fwA, ↓reduceIte, Nat.reduceAdd, Nat.reduceMul, Nat.reduceEqDiff, Nat.reduceLT, Nat.reduceLeDiff, reduceCtorEq, el37, ti9, List.getElem?_map, gx, Option.map_some, Int.natCast_nonneg, S1_fw, decide_true, decide_false, Bool.not_true, Bool.not_false, hxd] <;> rfl) ?_
      refine aops_run 8 (by simp only [fwA, ↓reduceIte, Nat.reduceAdd, Nat.reduceMul, Nat.reduceEqDiff, Nat.reduceLT, Nat.reduceLeDiff, reduceCtorEq, el37, ti9, List.getElem?_map, gx, Option.map_some, Int.natCast_nonneg, S1_fw, decide_true, decide_false, Bool.not_true, Bool.not_false, hxd] <;> rfl) ?_
      refine aops_fnIf rfl rfl rfl rfl rfl en25 hl25 ?_
      refine aops_run 2 (by simp only [fwA, ↓reduceIte, Nat.reduceAdd, Nat.reduceMul, Nat.reduceEqDiff, Nat.reduceLT, Nat.reduceLeDiff, reduceCtorEq, el37, ti9, List.getElem?_map, gx, Option.map_some, Int.natCast_nonneg, S1_fw, decide_true, decide_false, Bool.not_true, Bool.not_false, hxd] <;> rfl) ?_
      refine aops_end ?_
      exact ⟨rfl, by simp [akeep, alook, aput, ev], rfl, rfl⟩
    · rw [decide_eq_true (hmf hx)] at hf25
      have hxd : decide (x = nm) = false := decide_eq_false hx
      refine awp_region rfl ?_
      refine aops_run 12 (by simp only [fwA, ↓reduceIte, Nat.reduceAdd, Nat.reduceMul, Nat.reduceEqDiff, Nat.reduceLT, Nat.reduceLeDiff, reduceCtorEq, el37, ti9, List.getElem?_map, gx, Option.map_some, Int.natCast_nonneg, S1_fw, decide_true, decide_false, Bool.not_true, Bool.not_false, hxd] <;> rfl) ?_
      refine aops_fnIf rfl rfl rfl rfl rfl en25 hf25 ?_
      refine aops_run 8 (by simp only [fwA, ↓reduceIte, Nat.reduceAdd, Nat.reduceMul, Nat.reduceEqDiff, Nat.reduceLT, Nat.reduceLeDiff, reduceCtorEq, el37, ti9, List.getElem?_map, gx, Option.map_some, Int.natCast_nonneg, S1_fw, decide_true, decide_false, Bool.not_true, Bool.not_false, hxd] <;> rfl) ?_
      refine aops_fnIf rfl rfl rfl rfl rfl en25 hl25 ?_
      refine aops_run 2 (by simp only [fwA, ↓reduceIte, Nat.reduceAdd, Nat.reduceMul, Nat.reduceEqDiff, Nat.reduceLT, Nat.reduceLeDiff, reduceCtorEq, el37, ti9, List.getElem?_map, gx, Option.map_some, Int.natCast_nonneg, S1_fw, decide_true, decide_false, Bool.not_true, Bool.not_false, hxd] <;> rfl) ?_
      refine aops_end ?_
      exact ⟨rfl, by simp [akeep, alook, aput, ev], rfl, rfl⟩
  obtain ⟨rfl, hA, rfl, rfl⟩ := hq
  refine awp_keep _ hA ?_
  refine awp_cond (b := false) rfl (awp_skip ?_)
  refine awp_run rfl (by simp only [fwA, ↓reduceIte, Nat.reduceAdd, Nat.reduceMul, Nat.reduceEqDiff, Nat.reduceLT, Nat.reduceLeDiff, reduceCtorEq] <;> rfl) ?_
  exact ⟨i + 1, by omega, by omega, by rw [wrapS i (by omega)]; rfl, rfl, rfl⟩

end Go.Proofs.YtlbmlhpjibgepaaDoor
