/- The chapter's examples. -/
import Derived.Test.YtdhlghhokbmhdaaDoorR01p
namespace Go.Proofs.YtdhlghhokbmhdaaDoor
set_option linter.unusedVariables false
set_option linter.unusedSimpArgs false
set_option maxRecDepth 100000
open Go.RowKit Fw

def Tab (Γ : Nat → PV) : Prop := Tab64 Γ ∧ TabM Γ
def t1L : List UInt8 := [76, 111, 32, 72, 105, 10, 49, 49, 10, 48, 49, 10]
def t2L : List UInt8 := [76, 111, 32, 72, 105, 10, 49, 49, 10, 49, 49, 10]
def t3L : List UInt8 := [65, 32, 66, 10, 49, 48, 10, 48, 49, 10]
def t4L : List UInt8 := [65, 32, 66, 10, 49, 48, 10, 48, 49]
def lN : List (List UInt8) := [[76, 111], [72, 105]]
def lU : List Nat := [3, 2]
def dN : List (List UInt8) := [[76], [65], [66], [72]]
def dU : List Nat := [15, 10, 12, 8]
theorem ex1 : parseL t1L = (lN, lU, 0) := by decide +kernel
theorem ex2 : parseL t2L = ([], [], 3) := by decide +kernel
theorem ex3 : parseL t3L = ([], [], 4) := by decide +kernel
theorem ex4 : parseL t4L = ([], [], 2) := by decide +kernel
theorem wL : W64 lU := fun x hx => by
  simp only [lU, List.mem_cons, List.not_mem_nil, or_false] at hx
  rcases hx with rfl | rfl <;> decide
theorem wD : W64 dU := fun x hx => by
  simp only [dU, List.mem_cons, List.not_mem_nil, or_false] at hx
  rcases hx with rfl | rfl | rfl | rfl <;> decide
set_option maxHeartbeats 4000000 in
/- chancellaw01.examples -/
theorem c10 (Γ : Nat → PV) (hT : Tab Γ) : Gives Tryd.prog Γ 10 [] (.bool true) := by
  obtain ⟨hΓ, hM⟩ := hT
  have h33 : Gives Tryd.prog Γ 33 [] (.agg [.vec [[.str [76]], [.str [65]], [.str [66]], [.str [72]]] false, .vec [[.int .u64 15], [.int .u64 10], [.int .u64 12], [.int .u64 8]] false]) := c33 Γ
  have p1 : Gives Tryd.prog Γ 12 [.str [76, 111, 32, 72, 105, 10, 49, 49, 10, 48, 49, 10]] (.tup [.agg [.vec [[.str [76, 111]], [.str [72, 105]]] false, .vec [[.int .u64 3], [.int .u64 2]] false], .int .i64 0]) := by
    have := c12 Γ hΓ hM t1L (by decide)
    unfold parseV at this
    rw [ex1] at this; exact this
  have p2 : Gives Tryd.prog Γ 12 [.str [76, 111, 32, 72, 105, 10, 49, 49, 10, 49, 49, 10]] (.tup [.agg [.vec [] false, .vec [] false], .int .i64 3]) := by
    have := c12 Γ hΓ hM t2L (by decide)
    unfold parseV at this
    rw [ex2] at this; exact this
  have p3 : Gives Tryd.prog Γ 12 [.str [65, 32, 66, 10, 49, 48, 10, 48, 49, 10]] (.tup [.agg [.vec [] false, .vec [] false], .int .i64 4]) := by
    have := c12 Γ hΓ hM t3L (by decide)
    unfold parseV at this
    rw [ex3] at this; exact this
  have p4 : Gives Tryd.prog Γ 12 [.str [65, 32, 66, 10, 49, 48, 10, 48, 49]] (.tup [.agg [.vec [] false, .vec [] false], .int .i64 2]) := by
    have := c12 Γ hΓ hM t4L (by decide)
    unfold parseV at this
    rw [ex4] at this; exact this
  have q1 : Gives Tryd.prog Γ 23 [.agg [.vec [[.str [76, 111]], [.str [72, 105]]] false, .vec [[.int .u64 3], [.int .u64 2]] false], .int .i64 0, .int .i64 1] (.int .i64 1) := by
    have := c23 Γ hΓ lN lU wL 0 1
    rw [show joinV lN lU 0 1 = 1 by decide +kernel] at this; exact this
  have q2 : Gives Tryd.prog Γ 27 [.agg [.vec [[.str [76, 111]], [.str [72, 105]]] false, .vec [[.int .u64 3], [.int .u64 2]] false]] (.int .i64 0) := by
    have := c27 Γ hΓ lN lU wL
    rw [show botV lN lU = 0 by decide +kernel] at this; exact this
  have q3 : Gives Tryd.prog Γ 29 [.agg [.vec [[.str [76, 111]], [.str [72, 105]]] false, .vec [[.int .u64 3], [.int .u64 2]] false]] (.int .i64 1) := by
    have := c29 Γ hΓ lN lU wL
    rw [show topV lN lU = 1 by decide +kernel] at this; exact this
  have q4 : Gives Tryd.prog Γ 15 [.agg [.vec [[.str [76]], [.str [65]], [.str [66]], [.str [72]]] false, .vec [[.int .u64 15], [.int .u64 10], [.int .u64 12], [.int .u64 8]] false]] (.bool true) := by
    have := c15 Γ hΓ dN dU wD
    rw [show rightB dN dU = true by decide +kernel] at this; exact this
  have q5 : Gives Tryd.prog Γ 23 [.agg [.vec [[.str [76]], [.str [65]], [.str [66]], [.str [72]]] false, .vec [[.int .u64 15], [.int .u64 10], [.int .u64 12], [.int .u64 8]] false], .int .i64 1, .int .i64 2] (.int .i64 3) := by
    have := c23 Γ hΓ dN dU wD 1 2
    rw [show joinV dN dU 1 2 = 3 by decide +kernel] at this; exact this
  have q6 : Gives Tryd.prog Γ 25 [.agg [.vec [[.str [76]], [.str [65]], [.str [66]], [.str [72]]] false, .vec [[.int .u64 15], [.int .u64 10], [.int .u64 12], [.int .u64 8]] false], .int .i64 1, .int .i64 2] (.int .i64 0) := by
    have := c25 Γ hΓ dN dU wD 1 2
    rw [show meetV dN dU 1 2 = 0 by decide +kernel] at this; exact this
  have q7 : Gives Tryd.prog Γ 21 [.agg [.vec [[.str [76]], [.str [65]], [.str [66]], [.str [72]]] false, .vec [[.int .u64 15], [.int .u64 10], [.int .u64 12], [.int .u64 8]] false], .str [66]] (.int .i64 2) := by
    have := c21 Γ dN dU [66]
    rw [show idxS dN [66] = 2 by decide +kernel] at this; exact this
  have q8 : Gives Tryd.prog Γ 21 [.agg [.vec [[.str [76]], [.str [65]], [.str [66]], [.str [72]]] false, .vec [[.int .u64 15], [.int .u64 10], [.int .u64 12], [.int .u64 8]] false], .str [67]] (.int .i64 (-1)) := by
    have := c21 Γ dN dU [67]
    rw [show idxS dN [67] = -1 by decide +kernel] at this; exact this
  have q9 : Gives Tryd.prog Γ 31 [.agg [.vec [[.str [76, 111]], [.str [72, 105]]] false, .vec [[.int .u64 3], [.int .u64 2]] false]] (.str [76, 111, 32, 72, 105, 10, 49, 49, 10, 48, 49, 10]) := by
    have := c31 Γ hΓ lN lU wL
    rw [show printL lN lU = t1L by decide +kernel] at this; exact this
  have r1 : Gives Tryd.prog Γ 17 [.agg [.vec [[.str [76]], [.str [65]], [.str [66]], [.str [72]]] false, .vec [[.int .u64 15], [.int .u64 10], [.int .u64 12], [.int .u64 8]] false], .int .i64 1, .int .i64 3] (.bool true) := by
    have := c17 Γ dN dU wD 1 3
    rw [show leqB (min dN.length dU.length) dU 1 3 = true by decide +kernel] at this; exact this
  have r2 : Gives Tryd.prog Γ 17 [.agg [.vec [[.str [76]], [.str [65]], [.str [66]], [.str [72]]] false, .vec [[.int .u64 15], [.int .u64 10], [.int .u64 12], [.int .u64 8]] false], .int .i64 1, .int .i64 2] (.bool false) := by
    have := c17 Γ dN dU wD 1 2
    rw [show leqB (min dN.length dU.length) dU 1 2 = false by decide +kernel] at this; exact this
  have r3 : Gives Tryd.prog Γ 19 [.str [97, 49]] (.bool true) := by
    have := c19 Γ [97, 49]
    rw [show nameB [97, 49] = true by decide +kernel] at this; exact this
  have r4 : Gives Tryd.prog Γ 19 [.str [49, 97]] (.bool false) := by
    have := c19 Γ [49, 97]
    rw [show nameB [49, 97] = false by decide +kernel] at this; exact this
  have r5 : Gives Tryd.prog Γ 15 [.agg [.vec [] true, .vec [] true]] (.bool false) := by
    have := c15 Γ hΓ [] [] (fun x hx => nomatch hx)
    rw [show rightB [] [] = false by decide +kernel] at this
    exact this.args ⟨leZ [] [] true true, trivial⟩
  refine fn_of_awp Tryd.func10 rfl (by simp [Tryd.f10]) rfl fun H => ?_
  refine awp_seq ?_
  refine awp_run rfl (by simp only [fwA, ↓reduceIte, Nat.reduceAdd, Nat.reduceMul, Nat.reduceEqDiff, Nat.reduceLT, Nat.reduceLeDiff, reduceCtorEq] <;> rfl) ?_
  refine awp_seq ?_
  refine awp_region rfl ?_
  refine aops_fn rfl rfl rfl en33 h33 ?_
  refine aops_run 2 (by simp only [fwA, ↓reduceIte, Nat.reduceAdd, Nat.reduceMul, Nat.reduceEqDiff, Nat.reduceLT, Nat.reduceLeDiff, reduceCtorEq, bitfw, Int.reduceToNat, Int.reduceLE, Int.reduceEq, Int.reduceNeg, List.length_map, List.getElem?_map, Option.map_some, Int.natCast_nonneg, Int.toNat_natCast, decide_true, decide_false, Bool.and_true, Bool.and_self, Bool.not_true, Bool.not_false, Bool.false_and, Bool.true_and, ne_eq, not_true_eq_false, un9, un21, un22, un23, un5, un50, ti9, ti22, ti23, ti50, ti25, ti27, pl25, pl27, fl25_0, fl25_1, fl27_0, fl27_1, el22, el23, un3] <;> rfl) ?_
  refine aops_end ?_
  refine awp_seq ?_
  refine awp_region rfl ?_
  refine aops_fn rfl rfl rfl en12 p1 ?_
  refine aops_run 6 (by simp only [fwA, ↓reduceIte, Nat.reduceAdd, Nat.reduceMul, Nat.reduceEqDiff, Nat.reduceLT, Nat.reduceLeDiff, reduceCtorEq, bitfw, Int.reduceToNat, Int.reduceLE, Int.reduceEq, Int.reduceNeg, List.length_map, List.getElem?_map, Option.map_some, Int.natCast_nonneg, Int.toNat_natCast, decide_true, decide_false, Bool.and_true, Bool.and_self, Bool.not_true, Bool.not_false, Bool.false_and, Bool.true_and, ne_eq, not_true_eq_false, un9, un21, un22, un23, un5, un50, ti9, ti22, ti23, ti50, ti25, ti27, pl25, pl27, fl25_0, fl25_1, fl27_0, fl27_1, el22, el23, un3] <;> rfl) ?_
  refine aops_end ?_
  refine awp_seq ?_
  refine awp_region rfl ?_
  refine aops_fn rfl rfl rfl en12 p2 ?_
  refine aops_run 6 (by simp only [fwA, ↓reduceIte, Nat.reduceAdd, Nat.reduceMul, Nat.reduceEqDiff, Nat.reduceLT, Nat.reduceLeDiff, reduceCtorEq, bitfw, Int.reduceToNat, Int.reduceLE, Int.reduceEq, Int.reduceNeg, List.length_map, List.getElem?_map, Option.map_some, Int.natCast_nonneg, Int.toNat_natCast, decide_true, decide_false, Bool.and_true, Bool.and_self, Bool.not_true, Bool.not_false, Bool.false_and, Bool.true_and, ne_eq, not_true_eq_false, un9, un21, un22, un23, un5, un50, ti9, ti22, ti23, ti50, ti25, ti27, pl25, pl27, fl25_0, fl25_1, fl27_0, fl27_1, el22, el23, un3] <;> rfl) ?_
  refine aops_end ?_
  refine awp_seq ?_
  refine awp_region rfl ?_
  refine aops_fn rfl rfl rfl en12 p3 ?_
  refine aops_run 6 (by simp only [fwA, ↓reduceIte, Nat.reduceAdd, Nat.reduceMul, Nat.reduceEqDiff, Nat.reduceLT, Nat.reduceLeDiff, reduceCtorEq, bitfw, Int.reduceToNat, Int.reduceLE, Int.reduceEq, Int.reduceNeg, List.length_map, List.getElem?_map, Option.map_some, Int.natCast_nonneg, Int.toNat_natCast, decide_true, decide_false, Bool.and_true, Bool.and_self, Bool.not_true, Bool.not_false, Bool.false_and, Bool.true_and, ne_eq, not_true_eq_false, un9, un21, un22, un23, un5, un50, ti9, ti22, ti23, ti50, ti25, ti27, pl25, pl27, fl25_0, fl25_1, fl27_0, fl27_1, el22, el23, un3] <;> rfl) ?_
  refine aops_end ?_
  refine awp_seq ?_
  refine awp_region rfl ?_
  refine aops_fn rfl rfl rfl en12 p4 ?_
  refine aops_run 6 (by simp only [fwA, ↓reduceIte, Nat.reduceAdd, Nat.reduceMul, Nat.reduceEqDiff, Nat.reduceLT, Nat.reduceLeDiff, reduceCtorEq, bitfw, Int.reduceToNat, Int.reduceLE, Int.reduceEq, Int.reduceNeg, List.length_map, List.getElem?_map, Option.map_some, Int.natCast_nonneg, Int.toNat_natCast, decide_true, decide_false, Bool.and_true, Bool.and_self, Bool.not_true, Bool.not_false, Bool.false_and, Bool.true_and, ne_eq, not_true_eq_false, un9, un21, un22, un23, un5, un50, ti9, ti22, ti23, ti50, ti25, ti27, pl25, pl27, fl25_0, fl25_1, fl27_0, fl27_1, el22, el23, un3] <;> rfl) ?_
  refine aops_end ?_
  refine awp_seq ?_
  refine awp_seq ?_
  refine awp_run rfl (by simp only [fwA, ↓reduceIte, Nat.reduceAdd, Nat.reduceMul, Nat.reduceEqDiff, Nat.reduceLT, Nat.reduceLeDiff, reduceCtorEq, bitfw, Int.reduceToNat, Int.reduceLE, Int.reduceEq, Int.reduceNeg, List.length_map, List.getElem?_map, Option.map_some, Int.natCast_nonneg, Int.toNat_natCast, decide_true, decide_false, Bool.and_true, Bool.and_self, Bool.not_true, Bool.not_false, Bool.false_and, Bool.true_and, ne_eq, not_true_eq_false, un9, un21, un22, un23, un5, un50, ti9, ti22, ti23, ti50, ti25, ti27, pl25, pl27, fl25_0, fl25_1, fl27_0, fl27_1, el22, el23, un3] <;> rfl) ?_
  refine awp_cond (b := false) (by simp [alook, aput, ev]) (awp_skip ?_)
  refine awp_seq ?_
  refine awp_region rfl ?_
  refine aops_run 13 (by simp only [fwA, ↓reduceIte, Nat.reduceAdd, Nat.reduceMul, Nat.reduceEqDiff, Nat.reduceLT, Nat.reduceLeDiff, reduceCtorEq, bitfw, Int.reduceToNat, Int.reduceLE, Int.reduceEq, Int.reduceNeg, List.length_map, List.getElem?_map, Option.map_some, Int.natCast_nonneg, Int.toNat_natCast, decide_true, decide_false, Bool.and_true, Bool.and_self, Bool.not_true, Bool.not_false, Bool.false_and, Bool.true_and, ne_eq, not_true_eq_false, un9, un21, un22, un23, un5, un50, ti9, ti22, ti23, ti50, ti25, ti27, pl25, pl27, fl25_0, fl25_1, fl27_0, fl27_1, el22, el23, un3] <;> rfl) ?_
  refine aops_run 3 (by simp only [fwA, ↓reduceIte, Nat.reduceAdd, Nat.reduceMul, Nat.reduceEqDiff, Nat.reduceLT, Nat.reduceLeDiff, reduceCtorEq, bitfw, Int.reduceToNat, Int.reduceLE, Int.reduceEq, Int.reduceNeg, List.length_map, List.getElem?_map, Option.map_some, Int.natCast_nonneg, Int.toNat_natCast, decide_true, decide_false, Bool.and_true, Bool.and_self, Bool.not_true, Bool.not_false, Bool.false_and, Bool.true_and, ne_eq, not_true_eq_false, un9, un21, un22, un23, un5, un50, ti9, ti22, ti23, ti50, ti25, ti27, pl25, pl27, fl25_0, fl25_1, fl27_0, fl27_1, el22, el23, un3] <;> rfl) ?_
  refine aops_fnIf rfl rfl rfl rfl rfl en23 q1 ?_
  refine aops_run 4 (by simp only [fwA, ↓reduceIte, Nat.reduceAdd, Nat.reduceMul, Nat.reduceEqDiff, Nat.reduceLT, Nat.reduceLeDiff, reduceCtorEq, bitfw, Int.reduceToNat, Int.reduceLE, Int.reduceEq, Int.reduceNeg, List.length_map, List.getElem?_map, Option.map_some, Int.natCast_nonneg, Int.toNat_natCast, decide_true, decide_false, Bool.and_true, Bool.and_self, Bool.not_true, Bool.not_false, Bool.false_and, Bool.true_and, ne_eq, not_true_eq_false, un9, un21, un22, un23, un5, un50, ti9, ti22, ti23, ti50, ti25, ti27, pl25, pl27, fl25_0, fl25_1, fl27_0, fl27_1, el22, el23, un3] <;> rfl) ?_
  refine aops_fnIf rfl rfl rfl rfl rfl en27 q2 ?_
  refine aops_run 4 (by simp only [fwA, ↓reduceIte, Nat.reduceAdd, Nat.reduceMul, Nat.reduceEqDiff, Nat.reduceLT, Nat.reduceLeDiff, reduceCtorEq, bitfw, Int.reduceToNat, Int.reduceLE, Int.reduceEq, Int.reduceNeg, List.length_map, List.getElem?_map, Option.map_some, Int.natCast_nonneg, Int.toNat_natCast, decide_true, decide_false, Bool.and_true, Bool.and_self, Bool.not_true, Bool.not_false, Bool.false_and, Bool.true_and, ne_eq, not_true_eq_false, un9, un21, un22, un23, un5, un50, ti9, ti22, ti23, ti50, ti25, ti27, pl25, pl27, fl25_0, fl25_1, fl27_0, fl27_1, el22, el23, un3] <;> rfl) ?_
  refine aops_fnIf rfl rfl rfl rfl rfl en29 q3 ?_
  refine aops_run 4 (by simp only [fwA, ↓reduceIte, Nat.reduceAdd, Nat.reduceMul, Nat.reduceEqDiff, Nat.reduceLT, Nat.reduceLeDiff, reduceCtorEq, bitfw, Int.reduceToNat, Int.reduceLE, Int.reduceEq, Int.reduceNeg, List.length_map, List.getElem?_map, Option.map_some, Int.natCast_nonneg, Int.toNat_natCast, decide_true, decide_false, Bool.and_true, Bool.and_self, Bool.not_true, Bool.not_false, Bool.false_and, Bool.true_and, ne_eq, not_true_eq_false, un9, un21, un22, un23, un5, un50, ti9, ti22, ti23, ti50, ti25, ti27, pl25, pl27, fl25_0, fl25_1, fl27_0, fl27_1, el22, el23, un3] <;> rfl) ?_
  refine aops_fnIf rfl rfl rfl rfl rfl en15 q4 ?_
  refine aops_run 3 (by simp only [fwA, ↓reduceIte, Nat.reduceAdd, Nat.reduceMul, Nat.reduceEqDiff, Nat.reduceLT, Nat.reduceLeDiff, reduceCtorEq, bitfw, Int.reduceToNat, Int.reduceLE, Int.reduceEq, Int.reduceNeg, List.length_map, List.getElem?_map, Option.map_some, Int.natCast_nonneg, Int.toNat_natCast, decide_true, decide_false, Bool.and_true, Bool.and_self, Bool.not_true, Bool.not_false, Bool.false_and, Bool.true_and, ne_eq, not_true_eq_false, un9, un21, un22, un23, un5, un50, ti9, ti22, ti23, ti50, ti25, ti27, pl25, pl27, fl25_0, fl25_1, fl27_0, fl27_1, el22, el23, un3] <;> rfl) ?_
  refine aops_fnIf rfl rfl rfl rfl rfl en23 q5 ?_
  refine aops_run 4 (by simp only [fwA, ↓reduceIte, Nat.reduceAdd, Nat.reduceMul, Nat.reduceEqDiff, Nat.reduceLT, Nat.reduceLeDiff, reduceCtorEq, bitfw, Int.reduceToNat, Int.reduceLE, Int.reduceEq, Int.reduceNeg, List.length_map, List.getElem?_map, Option.map_some, Int.natCast_nonneg, Int.toNat_natCast, decide_true, decide_false, Bool.and_true, Bool.and_self, Bool.not_true, Bool.not_false, Bool.false_and, Bool.true_and, ne_eq, not_true_eq_false, un9, un21, un22, un23, un5, un50, ti9, ti22, ti23, ti50, ti25, ti27, pl25, pl27, fl25_0, fl25_1, fl27_0, fl27_1, el22, el23, un3] <;> rfl) ?_
  refine aops_fnIf rfl rfl rfl rfl rfl en25 q6 ?_
  refine aops_run 4 (by simp only [fwA, ↓reduceIte, Nat.reduceAdd, Nat.reduceMul, Nat.reduceEqDiff, Nat.reduceLT, Nat.reduceLeDiff, reduceCtorEq, bitfw, Int.reduceToNat, Int.reduceLE, Int.reduceEq, Int.reduceNeg, List.length_map, List.getElem?_map, Option.map_some, Int.natCast_nonneg, Int.toNat_natCast, decide_true, decide_false, Bool.and_true, Bool.and_self, Bool.not_true, Bool.not_false, Bool.false_and, Bool.true_and, ne_eq, not_true_eq_false, un9, un21, un22, un23, un5, un50, ti9, ti22, ti23, ti50, ti25, ti27, pl25, pl27, fl25_0, fl25_1, fl27_0, fl27_1, el22, el23, un3] <;> rfl) ?_
  refine aops_fnIf rfl rfl rfl rfl rfl en21 q7 ?_
  refine aops_run 4 (by simp only [fwA, ↓reduceIte, Nat.reduceAdd, Nat.reduceMul, Nat.reduceEqDiff, Nat.reduceLT, Nat.reduceLeDiff, reduceCtorEq, bitfw, Int.reduceToNat, Int.reduceLE, Int.reduceEq, Int.reduceNeg, List.length_map, List.getElem?_map, Option.map_some, Int.natCast_nonneg, Int.toNat_natCast, decide_true, decide_false, Bool.and_true, Bool.and_self, Bool.not_true, Bool.not_false, Bool.false_and, Bool.true_and, ne_eq, not_true_eq_false, un9, un21, un22, un23, un5, un50, ti9, ti22, ti23, ti50, ti25, ti27, pl25, pl27, fl25_0, fl25_1, fl27_0, fl27_1, el22, el23, un3] <;> rfl) ?_
  refine aops_fnIf rfl rfl rfl rfl rfl en21 q8 ?_
  refine aops_run 4 (by simp only [fwA, ↓reduceIte, Nat.reduceAdd, Nat.reduceMul, Nat.reduceEqDiff, Nat.reduceLT, Nat.reduceLeDiff, reduceCtorEq, bitfw, Int.reduceToNat, Int.reduceLE, Int.reduceEq, Int.reduceNeg, List.length_map, List.getElem?_map, Option.map_some, Int.natCast_nonneg, Int.toNat_natCast, decide_true, decide_false, Bool.and_true, Bool.and_self, Bool.not_true, Bool.not_false, Bool.false_and, Bool.true_and, ne_eq, not_true_eq_false, un9, un21, un22, un23, un5, un50, ti9, ti22, ti23, ti50, ti25, ti27, pl25, pl27, fl25_0, fl25_1, fl27_0, fl27_1, el22, el23, un3] <;> rfl) ?_
  refine aops_fnIf rfl rfl rfl rfl rfl en31 q9 ?_
  refine aops_run 4 (by simp only [fwA, ↓reduceIte, Nat.reduceAdd, Nat.reduceMul, Nat.reduceEqDiff, Nat.reduceLT, Nat.reduceLeDiff, reduceCtorEq, bitfw, Int.reduceToNat, Int.reduceLE, Int.reduceEq, Int.reduceNeg, List.length_map, List.getElem?_map, Option.map_some, Int.natCast_nonneg, Int.toNat_natCast, decide_true, decide_false, Bool.and_true, Bool.and_self, Bool.not_true, Bool.not_false, Bool.false_and, Bool.true_and, ne_eq, not_true_eq_false, un9, un21, un22, un23, un5, un50, ti9, ti22, ti23, ti50, ti25, ti27, pl25, pl27, fl25_0, fl25_1, fl27_0, fl27_1, el22, el23, un3] <;> rfl) ?_
  refine aops_fnIf rfl rfl rfl rfl rfl en17 r1 ?_
  refine aops_run 3 (by simp only [fwA, ↓reduceIte, Nat.reduceAdd, Nat.reduceMul, Nat.reduceEqDiff, Nat.reduceLT, Nat.reduceLeDiff, reduceCtorEq, bitfw, Int.reduceToNat, Int.reduceLE, Int.reduceEq, Int.reduceNeg, List.length_map, List.getElem?_map, Option.map_some, Int.natCast_nonneg, Int.toNat_natCast, decide_true, decide_false, Bool.and_true, Bool.and_self, Bool.not_true, Bool.not_false, Bool.false_and, Bool.true_and, ne_eq, not_true_eq_false, un9, un21, un22, un23, un5, un50, ti9, ti22, ti23, ti50, ti25, ti27, pl25, pl27, fl25_0, fl25_1, fl27_0, fl27_1, el22, el23, un3] <;> rfl) ?_
  refine aops_fnIf rfl rfl rfl rfl rfl en17 r2 ?_
  refine aops_run 3 (by simp only [fwA, ↓reduceIte, Nat.reduceAdd, Nat.reduceMul, Nat.reduceEqDiff, Nat.reduceLT, Nat.reduceLeDiff, reduceCtorEq, bitfw, Int.reduceToNat, Int.reduceLE, Int.reduceEq, Int.reduceNeg, List.length_map, List.getElem?_map, Option.map_some, Int.natCast_nonneg, Int.toNat_natCast, decide_true, decide_false, Bool.and_true, Bool.and_self, Bool.not_true, Bool.not_false, Bool.false_and, Bool.true_and, ne_eq, not_true_eq_false, un9, un21, un22, un23, un5, un50, ti9, ti22, ti23, ti50, ti25, ti27, pl25, pl27, fl25_0, fl25_1, fl27_0, fl27_1, el22, el23, un3] <;> rfl) ?_
  refine aops_fnIf rfl rfl rfl rfl rfl en19 r3 ?_
  refine aops_run 2 (by simp only [fwA, ↓reduceIte, Nat.reduceAdd, Nat.reduceMul, Nat.reduceEqDiff, Nat.reduceLT, Nat.reduceLeDiff, reduceCtorEq, bitfw, Int.reduceToNat, Int.reduceLE, Int.reduceEq, Int.reduceNeg, List.length_map, List.getElem?_map, Option.map_some, Int.natCast_nonneg, Int.toNat_natCast, decide_true, decide_false, Bool.and_true, Bool.and_self, Bool.not_true, Bool.not_false, Bool.false_and, Bool.true_and, ne_eq, not_true_eq_false, un9, un21, un22, un23, un5, un50, ti9, ti22, ti23, ti50, ti25, ti27, pl25, pl27, fl25_0, fl25_1, fl27_0, fl27_1, el22, el23, un3] <;> rfl) ?_
  refine aops_fnIf rfl rfl rfl rfl rfl en19 r4 ?_
  refine aops_run 4 (by simp only [fwA, ↓reduceIte, Nat.reduceAdd, Nat.reduceMul, Nat.reduceEqDiff, Nat.reduceLT, Nat.reduceLeDiff, reduceCtorEq, bitfw, Int.reduceToNat, Int.reduceLE, Int.reduceEq, Int.reduceNeg, List.length_map, List.getElem?_map, Option.map_some, Int.natCast_nonneg, Int.toNat_natCast, decide_true, decide_false, Bool.and_true, Bool.and_self, Bool.not_true, Bool.not_false, Bool.false_and, Bool.true_and, ne_eq, not_true_eq_false, un9, un21, un22, un23, un5, un50, ti9, ti22, ti23, ti50, ti25, ti27, pl25, pl27, fl25_0, fl25_1, fl27_0, fl27_1, el22, el23, un3] <;> rfl) ?_
  refine aops_fnIf rfl rfl rfl rfl rfl en15 r5 ?_
  refine aops_run 3 (by simp only [fwA, ↓reduceIte, Nat.reduceAdd, Nat.reduceMul, Nat.reduceEqDiff, Nat.reduceLT, Nat.reduceLeDiff, reduceCtorEq, bitfw, Int.reduceToNat, Int.reduceLE, Int.reduceEq, Int.reduceNeg, List.length_map, List.getElem?_map, Option.map_some, Int.natCast_nonneg, Int.toNat_natCast, decide_true, decide_false, Bool.and_true, Bool.and_self, Bool.not_true, Bool.not_false, Bool.false_and, Bool.true_and, ne_eq, not_true_eq_false, un9, un21, un22, un23, un5, un50, ti9, ti22, ti23, ti50, ti25, ti27, pl25, pl27, fl25_0, fl25_1, fl27_0, fl27_1, el22, el23, un3] <;> rfl) ?_
  refine aops_end ?_
  refine awp_ret ?_
  exact gives_end (.inl rfl) _ rfl

end Go.Proofs.YtdhlghhokbmhdaaDoor
