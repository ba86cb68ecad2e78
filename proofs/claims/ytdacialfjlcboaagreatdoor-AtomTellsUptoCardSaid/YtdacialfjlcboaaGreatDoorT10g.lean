/- The law by the document. -/
import Derived.Test.YtdacialfjlcboaaGreatDoorT10f
import Derived.Test.YtdacialfjlcboaaGreatDoorR10u
namespace Go.Proofs.YtdacialfjlcboaaGreatDoor
set_option linter.unusedVariables false
set_option linter.unusedSimpArgs false
set_option maxRecDepth 100000
open Go.RowKit Fw

theorem sum_mem_le {X : Type} {f : X → Nat} {x : X} : ∀ {l : List X}, x ∈ l → f x ≤ (l.map f).sum
  | y :: l, h => by
    rw [List.map_cons, List.sum_cons]
    rcases List.mem_cons.1 h with rfl | h
    · omega
    · have := sum_mem_le (f := f) h; omega

set_option maxHeartbeats 8000000 in
/-- AtomTells -/
theorem c3 (Γ : Nat → PV) (hΓ : Tab Γ) (l : List Pr) (fr to : List Int) (a n : Int) (names : List (List UInt8)) (hl : l.length ≤ 2000000) (hf : fr.length ≤ 2000000) (ht : to.length ≤ 2000000) (ho : OkP l) (ha : I64 a) (hn : I64 n) (hB : ∀ s ∈ names, s.length ≤ 2000000) :
    Gives Tryz.prog Γ 3 [.vec (l.map Pr.enc) false, .vec (fr.map I1) false, .vec (to.map I1) false, .int .i64 a, .int .i64 n, .vec (names.map fun s => [.str s]) false] (.bool true) := by
  have h10 := c10 Γ l (by omega)
  have h12 := c12 Γ l false (by omega)
  have h13 := c13 Γ l (by omega)
  have h14 := c14 Γ l false (by omega) ho
  have h15 := c15 Γ l (by omega) ho
  have hle := both_le l
  have h11 := c11 Γ (gath gV l) (by omega)
  generalize gath gV l = V at *
  generalize gath gP l = Q at *
  have hVl : V.length ≤ 4000000 := by omega
  have hQl : Q.length ≤ 4000000 := by omega
  have h17 := c17 Γ l false (by omega)
  have h18 := c18 Γ l (by omega)
  have h16a := c16 Γ (normL l) (normL l) (by have := norm_len l; omega)
  rw [decide_eq_true rfl] at h16a
  have h19 := c19 Γ n l (by omega)
  have h20 := c20 Γ n l (by omega)
  have h16b := c16 Γ (l.map (Pr.map (shI n))) (l.map (Pr.map (shI n))) (by rw [List.length_map]; omega)
  rw [decide_eq_true rfl] at h16b
  have h21 := c21 Γ fr to l (by omega)
  have h22 := c22 Γ fr to l (by omega)
  have h11f := c11 Γ fr (by omega)
  have h11t := c11 Γ to (by omega)
  have h16c := c16 Γ (l.map (Pr.map (renI fr to))) (l.map (Pr.map (renI fr to))) (by rw [List.length_map]; omega)
  rw [decide_eq_true rfl] at h16c
  have h23 := c23 Γ n hn
  have h24 := c24 Γ n hn
  have h25 := c25 Γ a ha
  have h26 := c26 Γ a ha
  have h27 := c27 Γ a
  have h28 := c28 Γ hΓ names a ha
  have h29 := c29 Γ names a ha
  have h30 := c30 Γ hΓ names l false hl ho hB
  have h31 := c31 Γ names l hl ho hB
  refine fn_of_awp Tryz.func3 rfl (by simp [Tryz.f3]) rfl fun H => ?_
  refine awp_seq ?_
  refine awp_run rfl (by simp only [fwA, ↓reduceIte, Nat.reduceAdd, Nat.reduceMul, Nat.reduceEqDiff, Nat.reduceLT, Nat.reduceLeDiff, reduceCtorEq] <;> rfl) ?_
  refine awp_seq ?_
  refine awp_region rfl ?_
  refine aops_fn rfl rfl rfl en9 (c9 Γ hΓ) ?_
  refine aops_run 1 (by simp only [fwA, ↓reduceIte, Nat.reduceAdd, Nat.reduceMul, Nat.reduceEqDiff, Nat.reduceLT, Nat.reduceLeDiff, reduceCtorEq] <;> rfl) ?_
  refine awp_seq ?_
  refine awp_seq ?_
  refine awp_run rfl (by simp only [fwA, ↓reduceIte, Nat.reduceAdd, Nat.reduceMul, Nat.reduceEqDiff, Nat.reduceLT, Nat.reduceLeDiff, reduceCtorEq] <;> rfl) ?_
  refine awp_cond (b := false) (by simp [alook, aput, ev]) (awp_skip ?_)
  refine awp_seq ?_
  refine awp_region rfl ?_
  refine aops_run 1 (by simp only [fwA, ↓reduceIte, Nat.reduceAdd, Nat.reduceMul, Nat.reduceEqDiff, Nat.reduceLT, Nat.reduceLeDiff, reduceCtorEq, Pr.fw, I1_fw, ti53, pl53, un22, un3, un4, un24, ti24, ti3, un23, un25, un27, un29, un9, el22, el23, el27, el29, List.length_map, List.getElem?_map, Option.map_some, Int.natCast_nonneg, Int.toNat_natCast, decide_true, decide_false, Bool.and_true, Bool.and_self, Bool.not_true, Bool.not_false, ne_eq, eq_self, not_true_eq_false, beq_self_eq_true] <;> rfl) ?_
  refine aops_fn rfl rfl rfl en10 h10 ?_
  refine aops_run 1 (by simp only [fwA, ↓reduceIte, Nat.reduceAdd, Nat.reduceMul, Nat.reduceEqDiff, Nat.reduceLT, Nat.reduceLeDiff, reduceCtorEq, Pr.fw, I1_fw, ti53, pl53, un22, un3, un4, un24, ti24, ti3, un23, un25, un27, un29, un9, el22, el23, el27, el29, List.length_map, List.getElem?_map, Option.map_some, Int.natCast_nonneg, Int.toNat_natCast, decide_true, decide_false, Bool.and_true, Bool.and_self, Bool.not_true, Bool.not_false, ne_eq, eq_self, not_true_eq_false, beq_self_eq_true] <;> rfl) ?_
  refine aops_end ?_
  refine awp_seq ?_
  refine awp_region rfl ?_
  refine aops_run 1 (by simp only [fwA, ↓reduceIte, Nat.reduceAdd, Nat.reduceMul, Nat.reduceEqDiff, Nat.reduceLT, Nat.reduceLeDiff, reduceCtorEq, Pr.fw, I1_fw, ti53, pl53, un22, un3, un4, un24, ti24, ti3, un23, un25, un27, un29, un9, el22, el23, el27, el29, List.length_map, List.getElem?_map, Option.map_some, Int.natCast_nonneg, Int.toNat_natCast, decide_true, decide_false, Bool.and_true, Bool.and_self, Bool.not_true, Bool.not_false, ne_eq, eq_self, not_true_eq_false, beq_self_eq_true] <;> rfl) ?_
  refine aops_fn rfl rfl rfl en12 h12 ?_
  refine aops_fn rfl rfl rfl en11 h11 ?_
  refine aops_run 1 (by simp only [fwA, ↓reduceIte, Nat.reduceAdd, Nat.reduceMul, Nat.reduceEqDiff, Nat.reduceLT, Nat.reduceLeDiff, reduceCtorEq, Pr.fw, I1_fw, ti53, pl53, un22, un3, un4, un24, ti24, ti3, un23, un25, un27, un29, un9, el22, el23, el27, el29, List.length_map, List.getElem?_map, Option.map_some, Int.natCast_nonneg, Int.toNat_natCast, decide_true, decide_false, Bool.and_true, Bool.and_self, Bool.not_true, Bool.not_false, ne_eq, eq_self, not_true_eq_false, beq_self_eq_true] <;> rfl) ?_
  refine aops_end ?_
  refine awp_seq ?_
  refine awp_region rfl ?_
  refine aops_run 1 (by simp only [fwA, ↓reduceIte, Nat.reduceAdd, Nat.reduceMul, Nat.reduceEqDiff, Nat.reduceLT, Nat.reduceLeDiff, reduceCtorEq, Pr.fw, I1_fw, ti53, pl53, un22, un3, un4, un24, ti24, ti3, un23, un25, un27, un29, un9, el22, el23, el27, el29, List.length_map, List.getElem?_map, Option.map_some, Int.natCast_nonneg, Int.toNat_natCast, decide_true, decide_false, Bool.and_true, Bool.and_self, Bool.not_true, Bool.not_false, ne_eq, eq_self, not_true_eq_false, beq_self_eq_true] <;> rfl) ?_
  refine aops_fn rfl rfl rfl en13 h13 ?_
  refine aops_run 1 (by simp only [fwA, ↓reduceIte, Nat.reduceAdd, Nat.reduceMul, Nat.reduceEqDiff, Nat.reduceLT, Nat.reduceLeDiff, reduceCtorEq, Pr.fw, I1_fw, ti53, pl53, un22, un3, un4, un24, ti24, ti3, un23, un25, un27, un29, un9, el22, el23, el27, el29, List.length_map, List.getElem?_map, Option.map_some, Int.natCast_nonneg, Int.toNat_natCast, decide_true, decide_false, Bool.and_true, Bool.and_self, Bool.not_true, Bool.not_false, ne_eq, eq_self, not_true_eq_false, beq_self_eq_true] <;> rfl) ?_
  refine aops_end ?_
  refine awp_seq ?_
  refine awp_region rfl ?_
  refine aops_run 1 (by simp only [fwA, ↓reduceIte, Nat.reduceAdd, Nat.reduceMul, Nat.reduceEqDiff, Nat.reduceLT, Nat.reduceLeDiff, reduceCtorEq, Pr.fw, I1_fw, ti53, pl53, un22, un3, un4, un24, ti24, ti3, un23, un25, un27, un29, un9, el22, el23, el27, el29, List.length_map, List.getElem?_map, Option.map_some, Int.natCast_nonneg, Int.toNat_natCast, decide_true, decide_false, Bool.and_true, Bool.and_self, Bool.not_true, Bool.not_false, ne_eq, eq_self, not_true_eq_false, beq_self_eq_true] <;> rfl) ?_
  refine aops_fn rfl rfl rfl en14 h14 ?_
  refine aops_run 1 (by simp only [fwA, ↓reduceIte, Nat.reduceAdd, Nat.reduceMul, Nat.reduceEqDiff, Nat.reduceLT, Nat.reduceLeDiff, reduceCtorEq, Pr.fw, I1_fw, ti53, pl53, un22, un3, un4, un24, ti24, ti3, un23, un25, un27, un29, un9, el22, el23, el27, el29, List.length_map, List.getElem?_map, Option.map_some, Int.natCast_nonneg, Int.toNat_natCast, decide_true, decide_false, Bool.and_true, Bool.and_self, Bool.not_true, Bool.not_false, ne_eq, eq_self, not_true_eq_false, beq_self_eq_true] <;> rfl) ?_
  refine aops_end ?_
  refine awp_seq ?_
  refine awp_region rfl ?_
  refine aops_run 1 (by simp only [fwA, ↓reduceIte, Nat.reduceAdd, Nat.reduceMul, Nat.reduceEqDiff, Nat.reduceLT, Nat.reduceLeDiff, reduceCtorEq, Pr.fw, I1_fw, ti53, pl53, un22, un3, un4, un24, ti24, ti3, un23, un25, un27, un29, un9, el22, el23, el27, el29, List.length_map, List.getElem?_map, Option.map_some, Int.natCast_nonneg, Int.toNat_natCast, decide_true, decide_false, Bool.and_true, Bool.and_self, Bool.not_true, Bool.not_false, ne_eq, eq_self, not_true_eq_false, beq_self_eq_true] <;> rfl) ?_
  refine aops_fn rfl rfl rfl en15 h15 ?_
  refine aops_run 1 (by simp only [fwA, ↓reduceIte, Nat.reduceAdd, Nat.reduceMul, Nat.reduceEqDiff, Nat.reduceLT, Nat.reduceLeDiff, reduceCtorEq, Pr.fw, I1_fw, ti53, pl53, un22, un3, un4, un24, ti24, ti3, un23, un25, un27, un29, un9, el22, el23, el27, el29, List.length_map, List.getElem?_map, Option.map_some, Int.natCast_nonneg, Int.toNat_natCast, decide_true, decide_false, Bool.and_true, Bool.and_self, Bool.not_true, Bool.not_false, ne_eq, eq_self, not_true_eq_false, beq_self_eq_true] <;> rfl) ?_
  refine aops_end ?_
  refine awp_seq ?_
  refine awp_seq ?_
  refine awp_region rfl ?_
  refine aops_run 12 (by simp only [fwA, ↓reduceIte, Nat.reduceAdd, Nat.reduceMul, Nat.reduceEqDiff, Nat.reduceLT, Nat.reduceLeDiff, reduceCtorEq, Pr.fw, I1_fw, ti53, pl53, un22, un3, un4, un24, ti24, ti3, un23, un25, un27, un29, un9, el22, el23, el27, el29, List.length_map, List.getElem?_map, Option.map_some, Int.natCast_nonneg, Int.toNat_natCast, decide_true, decide_false, Bool.and_true, Bool.and_self, Bool.not_true, Bool.not_false, ne_eq, eq_self, not_true_eq_false, beq_self_eq_true] <;> rfl) ?_
  refine aops_end ?_
  refine awp_cond (b := false) (by simp [alook, aput, ev]) (awp_skip ?_)
  refine awp_seq ?_
  refine awp_seq ?_
  refine awp_run rfl (by simp only [fwA, ↓reduceIte, Nat.reduceAdd, Nat.reduceMul, Nat.reduceEqDiff, Nat.reduceLT, Nat.reduceLeDiff, reduceCtorEq] <;> rfl) ?_
  refine awp_block ?_
  refine awp_for [0, 1, 2, 3, 4, 5, 13, 14, 15, 16, 17, 18, 19] (fun i : Nat => [.vec (l.map Pr.enc) false, .vec (fr.map I1) false, .vec (to.map I1) false, .int .i64 a, .int .i64 n, .vec (names.map fun s => [.str s]) false, .bool true, .vec (l.map Pr.enc) false, .vec (V.map I1) false, .vec (V.map I1) false, .vec (Q.map I1) false, .vec (Q.map I1) false, .int .i64 (i : Int)]) (fun _ => H) (fun i => V.length - i) (fun i => i ≤ V.length) 0 rfl rfl (Nat.zero_le _) fun i hi => ?_
  refine awp_seq ?_
  refine awp_seq ?_
  refine awp_run rfl (by simp only [fwA, ↓reduceIte, Nat.reduceAdd, Nat.reduceMul, Nat.reduceEqDiff, Nat.reduceLT, Nat.reduceLeDiff, reduceCtorEq, Pr.fw, I1_fw, ti53, pl53, un22, un3, un4, un24, ti24, ti3, un23, un25, un27, un29, un9, el22, el23, el27, el29, List.length_map, List.getElem?_map, Option.map_some, Int.natCast_nonneg, Int.toNat_natCast, decide_true, decide_false, Bool.and_true, Bool.and_self, Bool.not_true, Bool.not_false, ne_eq, eq_self, not_true_eq_false, beq_self_eq_true] <;> rfl) ?_
  refine awp_cond (by simp only [fwA, ↓reduceIte, Nat.reduceAdd, Nat.reduceMul, Nat.reduceEqDiff, Nat.reduceLT, Nat.reduceLeDiff, reduceCtorEq] <;> rfl) ?_
  by_cases hc19 : (i : Int) < V.length
  · simp only [hc19, decide_true, ↓reduceIte]
    refine awp_skip ?_
    have hil : i < V.length := by omega
    have ga : V[i]? = some V[i] := List.getElem?_eq_getElem hil
    have hwi : IntKind.i64.wrap ((i : Int) + 1) = ((i + 1 : Nat) : Int) := wrapS i (by omega)
    refine awp_seq ?_
    refine awp_block ?_
    refine awp_seq ?_
    refine awp_drun [0, 0, 0, 1, 0, 0, 0, 1, 0] [0, 0, 3, 7, 0, 0, 48, 112, 255] mixed rfl (by kernel_rfl) (by simp only [fwA, ↓reduceIte, Nat.reduceAdd, Nat.reduceMul, Nat.reduceEqDiff, Nat.reduceLT, Nat.reduceLeDiff, reduceCtorEq, Pr.fw, I1_fw, ti53, pl53, un22, un3, un4, un24, ti24, ti3, un23, un25, un27, un29, un9, el22, el23, el27, el29, List.length_map, List.getElem?_map, Option.map_some, Int.natCast_nonneg, Int.toNat_natCast, decide_true, decide_false, Bool.and_true, Bool.and_self, Bool.not_true, Bool.not_false, ne_eq, eq_self, not_true_eq_false, beq_self_eq_true, ga] <;> rfl) ?_
    refine awp_cond (b := false) (by simp [alook, aput, ev]) (awp_skip ?_)
    refine awp_run rfl (by simp only [fwA, ↓reduceIte, Nat.reduceAdd, Nat.reduceMul, Nat.reduceEqDiff, Nat.reduceLT, Nat.reduceLeDiff, reduceCtorEq] <;> rfl) ?_
    refine ⟨i + 1, by omega, by omega, ?_, rfl, rfl⟩
    simp only [fwA, ↓reduceIte, Nat.reduceAdd, Nat.reduceMul, Nat.reduceEqDiff, Nat.reduceLT, Nat.reduceLeDiff, reduceCtorEq, List.map_cons, List.map_nil, hwi]
  simp only [hc19, decide_false, Bool.false_eq_true, ↓reduceIte]
  refine awp_exit ?_
  refine awp_seq ?_
  refine awp_seq ?_
  refine awp_run rfl (by simp only [fwA, ↓reduceIte, Nat.reduceAdd, Nat.reduceMul, Nat.reduceEqDiff, Nat.reduceLT, Nat.reduceLeDiff, reduceCtorEq] <;> rfl) ?_
  refine awp_block ?_
  refine awp_for [0, 1, 2, 3, 4, 5, 13, 14, 15, 16, 17, 18, 20] (fun i : Nat => [.vec (l.map Pr.enc) false, .vec (fr.map I1) false, .vec (to.map I1) false, .int .i64 a, .int .i64 n, .vec (names.map fun s => [.str s]) false, .bool true, .vec (l.map Pr.enc) false, .vec (V.map I1) false, .vec (V.map I1) false, .vec (Q.map I1) false, .vec (Q.map I1) false, .int .i64 (i : Int)]) (fun _ => H) (fun i => Q.length - i) (fun i => i ≤ Q.length) 0 rfl rfl (Nat.zero_le _) fun i hi => ?_
  refine awp_seq ?_
  refine awp_seq ?_
  refine awp_run rfl (by simp only [fwA, ↓reduceIte, Nat.reduceAdd, Nat.reduceMul, Nat.reduceEqDiff, Nat.reduceLT, Nat.reduceLeDiff, reduceCtorEq, Pr.fw, I1_fw, ti53, pl53, un22, un3, un4, un24, ti24, ti3, un23, un25, un27, un29, un9, el22, el23, el27, el29, List.length_map, List.getElem?_map, Option.map_some, Int.natCast_nonneg, Int.toNat_natCast, decide_true, decide_false, Bool.and_true, Bool.and_self, Bool.not_true, Bool.not_false, ne_eq, eq_self, not_true_eq_false, beq_self_eq_true] <;> rfl) ?_
  refine awp_cond (by simp only [fwA, ↓reduceIte, Nat.reduceAdd, Nat.reduceMul, Nat.reduceEqDiff, Nat.reduceLT, Nat.reduceLeDiff, reduceCtorEq] <;> rfl) ?_
  by_cases hc20 : (i : Int) < Q.length
  · simp only [hc20, decide_true, ↓reduceIte]
    refine awp_skip ?_
    have hil : i < Q.length := by omega
    have ga : Q[i]? = some Q[i] := List.getElem?_eq_getElem hil
    have hwi : IntKind.i64.wrap ((i : Int) + 1) = ((i + 1 : Nat) : Int) := wrapS i (by omega)
    refine awp_seq ?_
    refine awp_block ?_
    refine awp_seq ?_
    refine awp_drun [0, 0, 0, 1, 0, 0, 0, 1, 0] [0, 0, 3, 7, 0, 0, 48, 112, 255] mixed rfl (by kernel_rfl) (by simp only [fwA, ↓reduceIte, Nat.reduceAdd, Nat.reduceMul, Nat.reduceEqDiff, Nat.reduceLT, Nat.reduceLeDiff, reduceCtorEq, Pr.fw, I1_fw, ti53, pl53, un22, un3, un4, un24, ti24, ti3, un23, un25, un27, un29, un9, el22, el23, el27, el29, List.length_map, List.getElem?_map, Option.map_some, Int.natCast_nonneg, Int.toNat_natCast, decide_true, decide_false, Bool.and_true, Bool.and_self, Bool.not_true, Bool.not_false, ne_eq, eq_self, not_true_eq_false, beq_self_eq_true, ga] <;> rfl) ?_
    refine awp_cond (b := false) (by simp [alook, aput, ev]) (awp_skip ?_)
    refine awp_run rfl (by simp only [fwA, ↓reduceIte, Nat.reduceAdd, Nat.reduceMul, Nat.reduceEqDiff, Nat.reduceLT, Nat.reduceLeDiff, reduceCtorEq] <;> rfl) ?_
    refine ⟨i + 1, by omega, by omega, ?_, rfl, rfl⟩
    simp only [fwA, ↓reduceIte, Nat.reduceAdd, Nat.reduceMul, Nat.reduceEqDiff, Nat.reduceLT, Nat.reduceLeDiff, reduceCtorEq, List.map_cons, List.map_nil, hwi]
  simp only [hc20, decide_false, Bool.false_eq_true, ↓reduceIte]
  refine awp_exit ?_
  refine awp_seq ?_
  refine awp_seq ?_
  refine awp_region rfl ?_
  refine aops_run 1 (by simp only [fwA, ↓reduceIte, Nat.reduceAdd, Nat.reduceMul, Nat.reduceEqDiff, Nat.reduceLT, Nat.reduceLeDiff, reduceCtorEq, Pr.fw, I1_fw, ti53, pl53, un22, un3, un4, un24, ti24, ti3, un23, un25, un27, un29, un9, el22, el23, el27, el29, List.length_map, List.getElem?_map, Option.map_some, Int.natCast_nonneg, Int.toNat_natCast, decide_true, decide_false, Bool.and_true, Bool.and_self, Bool.not_true, Bool.not_false, ne_eq, eq_self, not_true_eq_false, beq_self_eq_true] <;> rfl) ?_
  refine aops_fn rfl rfl rfl en17 h17 ?_
  refine aops_run 1 (by simp only [fwA, ↓reduceIte, Nat.reduceAdd, Nat.reduceMul, Nat.reduceEqDiff, Nat.reduceLT, Nat.reduceLeDiff, reduceCtorEq, Pr.fw, I1_fw, ti53, pl53, un22, un3, un4, un24, ti24, ti3, un23, un25, un27, un29, un9, el22, el23, el27, el29, List.length_map, List.getElem?_map, Option.map_some, Int.natCast_nonneg, Int.toNat_natCast, decide_true, decide_false, Bool.and_true, Bool.and_self, Bool.not_true, Bool.not_false, ne_eq, eq_self, not_true_eq_false, beq_self_eq_true] <;> rfl) ?_
  refine aops_fn rfl rfl rfl en18 h18 ?_
  refine aops_fn rfl rfl rfl en16 h16a ?_
  refine aops_run 4 (by simp only [fwA, ↓reduceIte, Nat.reduceAdd, Nat.reduceMul, Nat.reduceEqDiff, Nat.reduceLT, Nat.reduceLeDiff, reduceCtorEq, Pr.fw, I1_fw, ti53, pl53, un22, un3, un4, un24, ti24, ti3, un23, un25, un27, un29, un9, el22, el23, el27, el29, List.length_map, List.getElem?_map, Option.map_some, Int.natCast_nonneg, Int.toNat_natCast, decide_true, decide_false, Bool.and_true, Bool.and_self, Bool.not_true, Bool.not_false, ne_eq, eq_self, not_true_eq_false, beq_self_eq_true] <;> rfl) ?_
  refine aops_fnIf rfl rfl rfl rfl rfl en19 h19 ?_
  refine aops_run 2 (by simp only [fwA, ↓reduceIte, Nat.reduceAdd, Nat.reduceMul, Nat.reduceEqDiff, Nat.reduceLT, Nat.reduceLeDiff, reduceCtorEq, Pr.fw, I1_fw, ti53, pl53, un22, un3, un4, un24, ti24, ti3, un23, un25, un27, un29, un9, el22, el23, el27, el29, List.length_map, List.getElem?_map, Option.map_some, Int.natCast_nonneg, Int.toNat_natCast, decide_true, decide_false, Bool.and_true, Bool.and_self, Bool.not_true, Bool.not_false, ne_eq, eq_self, not_true_eq_false, beq_self_eq_true] <;> rfl) ?_
  refine aops_fnIf rfl rfl rfl rfl rfl en20 h20 ?_
  refine aops_fnIf rfl rfl rfl rfl rfl en16 h16b ?_
  refine aops_run 6 (by simp only [fwA, ↓reduceIte, Nat.reduceAdd, Nat.reduceMul, Nat.reduceEqDiff, Nat.reduceLT, Nat.reduceLeDiff, reduceCtorEq, Pr.fw, I1_fw, ti53, pl53, un22, un3, un4, un24, ti24, ti3, un23, un25, un27, un29, un9, el22, el23, el27, el29, List.length_map, List.getElem?_map, Option.map_some, Int.natCast_nonneg, Int.toNat_natCast, decide_true, decide_false, Bool.and_true, Bool.and_self, Bool.not_true, Bool.not_false, ne_eq, eq_self, not_true_eq_false, beq_self_eq_true] <;> rfl) ?_
  refine aops_fnIf rfl rfl rfl rfl rfl en21 h21 ?_
  refine aops_run 2 (by simp only [fwA, ↓reduceIte, Nat.reduceAdd, Nat.reduceMul, Nat.reduceEqDiff, Nat.reduceLT, Nat.reduceLeDiff, reduceCtorEq, Pr.fw, I1_fw, ti53, pl53, un22, un3, un4, un24, ti24, ti3, un23, un25, un27, un29, un9, el22, el23, el27, el29, List.length_map, List.getElem?_map, Option.map_some, Int.natCast_nonneg, Int.toNat_natCast, decide_true, decide_false, Bool.and_true, Bool.and_self, Bool.not_true, Bool.not_false, ne_eq, eq_self, not_true_eq_false, beq_self_eq_true] <;> rfl) ?_
  refine aops_fnIf rfl rfl rfl rfl rfl en11 h11f ?_
  refine aops_run 1 (by simp only [fwA, ↓reduceIte, Nat.reduceAdd, Nat.reduceMul, Nat.reduceEqDiff, Nat.reduceLT, Nat.reduceLeDiff, reduceCtorEq, Pr.fw, I1_fw, ti53, pl53, un22, un3, un4, un24, ti24, ti3, un23, un25, un27, un29, un9, el22, el23, el27, el29, List.length_map, List.getElem?_map, Option.map_some, Int.natCast_nonneg, Int.toNat_natCast, decide_true, decide_false, Bool.and_true, Bool.and_self, Bool.not_true, Bool.not_false, ne_eq, eq_self, not_true_eq_false, beq_self_eq_true] <;> rfl) ?_
  refine aops_fnIf rfl rfl rfl rfl rfl en11 h11t ?_
  refine aops_fnIf rfl rfl rfl rfl rfl en22 h22 ?_
  refine aops_fnIf rfl rfl rfl rfl rfl en16 h16c ?_
  refine aops_run 2 (by simp only [fwA, ↓reduceIte, Nat.reduceAdd, Nat.reduceMul, Nat.reduceEqDiff, Nat.reduceLT, Nat.reduceLeDiff, reduceCtorEq, Pr.fw, I1_fw, ti53, pl53, un22, un3, un4, un24, ti24, ti3, un23, un25, un27, un29, un9, el22, el23, el27, el29, List.length_map, List.getElem?_map, Option.map_some, Int.natCast_nonneg, Int.toNat_natCast, decide_true, decide_false, Bool.and_true, Bool.and_self, Bool.not_true, Bool.not_false, ne_eq, eq_self, not_true_eq_false, beq_self_eq_true] <;> rfl) ?_
  refine aops_end ?_
  refine awp_cond (b := false) (by simp [alook, aput, ev]) (awp_skip ?_)
  refine awp_seq ?_
  refine awp_region rfl ?_
  refine aops_run 3 (by simp only [fwA, ↓reduceIte, Nat.reduceAdd, Nat.reduceMul, Nat.reduceEqDiff, Nat.reduceLT, Nat.reduceLeDiff, reduceCtorEq, Pr.fw, I1_fw, ti53, pl53, un22, un3, un4, un24, ti24, ti3, un23, un25, un27, un29, un9, el22, el23, el27, el29, List.length_map, List.getElem?_map, Option.map_some, Int.natCast_nonneg, Int.toNat_natCast, decide_true, decide_false, Bool.and_true, Bool.and_self, Bool.not_true, Bool.not_false, ne_eq, eq_self, not_true_eq_false, beq_self_eq_true] <;> rfl) ?_
  refine aops_fnIf rfl rfl rfl rfl rfl en23 h23 ?_
  refine aops_run 1 (by simp only [fwA, ↓reduceIte, Nat.reduceAdd, Nat.reduceMul, Nat.reduceEqDiff, Nat.reduceLT, Nat.reduceLeDiff, reduceCtorEq, Pr.fw, I1_fw, ti53, pl53, un22, un3, un4, un24, ti24, ti3, un23, un25, un27, un29, un9, el22, el23, el27, el29, List.length_map, List.getElem?_map, Option.map_some, Int.natCast_nonneg, Int.toNat_natCast, decide_true, decide_false, Bool.and_true, Bool.and_self, Bool.not_true, Bool.not_false, ne_eq, eq_self, not_true_eq_false, beq_self_eq_true] <;> rfl) ?_
  refine aops_fnIf rfl rfl rfl rfl rfl en24 h24 ?_
  refine aops_run 4 (by simp only [fwA, ↓reduceIte, Nat.reduceAdd, Nat.reduceMul, Nat.reduceEqDiff, Nat.reduceLT, Nat.reduceLeDiff, reduceCtorEq, Pr.fw, I1_fw, ti53, pl53, un22, un3, un4, un24, ti24, ti3, un23, un25, un27, un29, un9, el22, el23, el27, el29, List.length_map, List.getElem?_map, Option.map_some, Int.natCast_nonneg, Int.toNat_natCast, decide_true, decide_false, Bool.and_true, Bool.and_self, Bool.not_true, Bool.not_false, ne_eq, eq_self, not_true_eq_false, beq_self_eq_true] <;> rfl) ?_
  refine aops_fnIf rfl rfl rfl rfl rfl en25 h25 ?_
  refine aops_run 1 (by simp only [fwA, ↓reduceIte, Nat.reduceAdd, Nat.reduceMul, Nat.reduceEqDiff, Nat.reduceLT, Nat.reduceLeDiff, reduceCtorEq, Pr.fw, I1_fw, ti53, pl53, un22, un3, un4, un24, ti24, ti3, un23, un25, un27, un29, un9, el22, el23, el27, el29, List.length_map, List.getElem?_map, Option.map_some, Int.natCast_nonneg, Int.toNat_natCast, decide_true, decide_false, Bool.and_true, Bool.and_self, Bool.not_true, Bool.not_false, ne_eq, eq_self, not_true_eq_false, beq_self_eq_true] <;> rfl) ?_
  refine aops_fnIf rfl rfl rfl rfl rfl en26 h26 ?_
  refine aops_run 4 (by simp only [fwA, ↓reduceIte, Nat.reduceAdd, Nat.reduceMul, Nat.reduceEqDiff, Nat.reduceLT, Nat.reduceLeDiff, reduceCtorEq, Pr.fw, I1_fw, ti53, pl53, un22, un3, un4, un24, ti24, ti3, un23, un25, un27, un29, un9, el22, el23, el27, el29, List.length_map, List.getElem?_map, Option.map_some, Int.natCast_nonneg, Int.toNat_natCast, decide_true, decide_false, Bool.and_true, Bool.and_self, Bool.not_true, Bool.not_false, ne_eq, eq_self, not_true_eq_false, beq_self_eq_true] <;> rfl) ?_
  refine aops_fnIf rfl rfl rfl rfl rfl en27 h27 ?_
  refine aops_run 7 (by simp only [fwA, ↓reduceIte, Nat.reduceAdd, Nat.reduceMul, Nat.reduceEqDiff, Nat.reduceLT, Nat.reduceLeDiff, reduceCtorEq, Pr.fw, I1_fw, ti53, pl53, un22, un3, un4, un24, ti24, ti3, un23, un25, un27, un29, un9, el22, el23, el27, el29, List.length_map, List.getElem?_map, Option.map_some, Int.natCast_nonneg, Int.toNat_natCast, decide_true, decide_false, Bool.and_true, Bool.and_self, Bool.not_true, Bool.not_false, ne_eq, eq_self, not_true_eq_false, beq_self_eq_true] <;> rfl) ?_
  refine aops_fnIf rfl rfl rfl rfl rfl en28 h28 ?_
  refine aops_run 2 (by simp only [fwA, ↓reduceIte, Nat.reduceAdd, Nat.reduceMul, Nat.reduceEqDiff, Nat.reduceLT, Nat.reduceLeDiff, reduceCtorEq, Pr.fw, I1_fw, ti53, pl53, un22, un3, un4, un24, ti24, ti3, un23, un25, un27, un29, un9, el22, el23, el27, el29, List.length_map, List.getElem?_map, Option.map_some, Int.natCast_nonneg, Int.toNat_natCast, decide_true, decide_false, Bool.and_true, Bool.and_self, Bool.not_true, Bool.not_false, ne_eq, eq_self, not_true_eq_false, beq_self_eq_true] <;> rfl) ?_
  refine aops_fnIf rfl rfl rfl rfl rfl en29 h29 ?_
  refine aops_run 5 (by simp only [fwA, ↓reduceIte, Nat.reduceAdd, Nat.reduceMul, Nat.reduceEqDiff, Nat.reduceLT, Nat.reduceLeDiff, reduceCtorEq, Pr.fw, I1_fw, ti53, pl53, un22, un3, un4, un24, ti24, ti3, un23, un25, un27, un29, un9, el22, el23, el27, el29, List.length_map, List.getElem?_map, Option.map_some, Int.natCast_nonneg, Int.toNat_natCast, decide_true, decide_false, Bool.and_true, Bool.and_self, Bool.not_true, Bool.not_false, ne_eq, eq_self, not_true_eq_false, beq_self_eq_true] <;> rfl) ?_
  refine aops_fnIf rfl rfl rfl rfl rfl en30 h30 ?_
  refine aops_run 2 (by simp only [fwA, ↓reduceIte, Nat.reduceAdd, Nat.reduceMul, Nat.reduceEqDiff, Nat.reduceLT, Nat.reduceLeDiff, reduceCtorEq, Pr.fw, I1_fw, ti53, pl53, un22, un3, un4, un24, ti24, ti3, un23, un25, un27, un29, un9, el22, el23, el27, el29, List.length_map, List.getElem?_map, Option.map_some, Int.natCast_nonneg, Int.toNat_natCast, decide_true, decide_false, Bool.and_true, Bool.and_self, Bool.not_true, Bool.not_false, ne_eq, eq_self, not_true_eq_false, beq_self_eq_true] <;> rfl) ?_
  refine aops_fnIf rfl rfl rfl rfl rfl en31 h31 ?_
  refine aops_run 3 (by simp only [fwA, ↓reduceIte, Nat.reduceAdd, Nat.reduceMul, Nat.reduceEqDiff, Nat.reduceLT, Nat.reduceLeDiff, reduceCtorEq, Pr.fw, I1_fw, ti53, pl53, un22, un3, un4, un24, ti24, ti3, un23, un25, un27, un29, un9, el22, el23, el27, el29, List.length_map, List.getElem?_map, Option.map_some, Int.natCast_nonneg, Int.toNat_natCast, decide_true, decide_false, Bool.and_true, Bool.and_self, Bool.not_true, Bool.not_false, ne_eq, eq_self, not_true_eq_false, beq_self_eq_true] <;> rfl) ?_
  refine aops_end ?_
  refine awp_ret ?_
  exact gives_end0 (.inl rfl) rfl

end Go.Proofs.YtdacialfjlcboaaGreatDoor
