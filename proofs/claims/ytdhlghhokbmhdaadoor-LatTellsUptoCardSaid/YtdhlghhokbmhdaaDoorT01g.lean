/- The law that all is told as the document's. -/
import Derived.Test.YtdhlghhokbmhdaaDoorT01e
namespace Go.Proofs.YtdhlghhokbmhdaaDoor
set_option linter.unusedVariables false
set_option linter.unusedSimpArgs false
set_option maxRecDepth 100000
open Go.RowKit Fw

set_option maxHeartbeats 4000000 in
/- chancel/chancellaw01.same -/
theorem c14 (Γ : Nat → PV) (ns : List (List UInt8)) (us : List Nat) (hn : ns.length ≤ 1000000000) (hu : us.length ≤ 1000000000) : Gives Tryd.prog Γ 14 [.agg [.vec (ns.map S1) false, .vec (us.map U1) false], .agg [.vec (ns.map S1) false, .vec (us.map U1) false]] (.bool true) := by
  refine fn_of_awp Tryd.func14 rfl (by simp [Tryd.f14]) rfl fun H => ?_
  refine awp_seq ?_
  refine awp_run rfl (by simp only [fwA, ↓reduceIte, Nat.reduceAdd, Nat.reduceMul, Nat.reduceEqDiff, Nat.reduceLT, Nat.reduceLeDiff, reduceCtorEq] <;> rfl) ?_
  refine awp_seq ?_
  refine awp_seq ?_
  refine awp_run rfl (by simp only [fwA, ↓reduceIte, Nat.reduceAdd, Nat.reduceMul, Nat.reduceEqDiff, Nat.reduceLT, Nat.reduceLeDiff, reduceCtorEq, bitfw, Int.reduceToNat, Int.reduceLE, Int.reduceEq, Int.reduceNeg, List.length_map, List.getElem?_map, Option.map_some, Int.natCast_nonneg, Int.toNat_natCast, decide_true, decide_false, Bool.and_true, Bool.and_self, Bool.not_true, Bool.not_false, Bool.false_and, Bool.true_and, ne_eq, not_true_eq_false, not_false_eq_true, beq_self_eq_true, un9, un21, un22, un23, un5, un50, un4, ti9, ti22, ti23, ti50, ti25, ti27, pl25, pl27, fl25_0, fl25_1, fl27_0, fl27_1, el22, el23, un3, S1_fw, U1_fw, bne_self_eq_false] <;> rfl) ?_
  refine awp_cond (b := false) (by simp [alook, aput, ev]) (awp_skip ?_)
  refine awp_seq ?_
  refine awp_seq ?_
  refine awp_run rfl (by simp only [fwA, ↓reduceIte, Nat.reduceAdd, Nat.reduceMul, Nat.reduceEqDiff, Nat.reduceLT, Nat.reduceLeDiff, reduceCtorEq] <;> rfl) ?_
  refine awp_block ?_
  refine awp_for [2, 3, 5] (fun i : Nat => [.ptr H.length 0, .ptr (H.length + 1) 0, .int .i64 (i : Int)]) (fun _ => H ++ [.box [.vec (ns.map S1) false, .vec (us.map U1) false], .box [.vec (ns.map S1) false, .vec (us.map U1) false]]) (fun i => ns.length - i) (fun i => i ≤ ns.length) 0 rfl rfl (Nat.zero_le _) fun i hil => ?_
  refine awp_seq ?_
  refine awp_seq ?_
  refine awp_run rfl (by simp only [fwA, ↓reduceIte, Nat.reduceAdd, Nat.reduceMul, Nat.reduceEqDiff, Nat.reduceLT, Nat.reduceLeDiff, reduceCtorEq, bitfw, Int.reduceToNat, Int.reduceLE, Int.reduceEq, Int.reduceNeg, List.length_map, List.getElem?_map, Option.map_some, Int.natCast_nonneg, Int.toNat_natCast, decide_true, decide_false, Bool.and_true, Bool.and_self, Bool.not_true, Bool.not_false, Bool.false_and, Bool.true_and, ne_eq, not_true_eq_false, not_false_eq_true, beq_self_eq_true, un9, un21, un22, un23, un5, un50, un4, ti9, ti22, ti23, ti50, ti25, ti27, pl25, pl27, fl25_0, fl25_1, fl27_0, fl27_1, el22, el23, un3, S1_fw, U1_fw] <;> rfl) ?_
  refine awp_cond (by simp only [fwA, ↓reduceIte, Nat.reduceAdd, Nat.reduceMul, Nat.reduceEqDiff, Nat.reduceLT, Nat.reduceLeDiff, reduceCtorEq] <;> rfl) ?_
  by_cases hc : (i : Int) < ns.length
  · simp only [hc, decide_true, ↓reduceIte]
    refine awp_skip ?_
    have hi : i < ns.length := by omega
    have hwi : IntKind.i64.wrap ((i : Int) + 1) = ((i + 1 : Nat) : Int) := wrapS i (by omega)
    have gs : ns[i]? = some ns[i] := List.getElem?_eq_getElem hi
    generalize ns[i] = s at gs
    refine awp_seq ?_
    refine awp_block ?_
    refine awp_seq ?_
    refine awp_drun [0, 1, 0, 0, 1, 0, 1, 0, 0, 1, 0] [0, 1, 0, 7, 15, 0, 32, 0, 224, 480, 1023] mixed rfl (by kernel_rfl) (by simp only [fwA, ↓reduceIte, Nat.reduceAdd, Nat.reduceMul, Nat.reduceEqDiff, Nat.reduceLT, Nat.reduceLeDiff, reduceCtorEq, bitfw, Int.reduceToNat, Int.reduceLE, Int.reduceEq, Int.reduceNeg, List.length_map, List.getElem?_map, Option.map_some, Int.natCast_nonneg, Int.toNat_natCast, decide_true, decide_false, Bool.and_true, Bool.and_self, Bool.not_true, Bool.not_false, Bool.false_and, Bool.true_and, ne_eq, not_true_eq_false, not_false_eq_true, beq_self_eq_true, un9, un21, un22, un23, un5, un50, un4, ti9, ti22, ti23, ti50, ti25, ti27, pl25, pl27, fl25_0, fl25_1, fl27_0, fl27_1, el22, el23, un3, S1_fw, U1_fw, gs, bne_self_eq_false] <;> rfl) ?_
    refine awp_cond (b := false) (by simp [alook, aput, ev]) (awp_skip ?_)
    refine awp_run rfl (by simp only [fwA, ↓reduceIte, Nat.reduceAdd, Nat.reduceMul, Nat.reduceEqDiff, Nat.reduceLT, Nat.reduceLeDiff, reduceCtorEq] <;> rfl) ?_
    exact ⟨i + 1, by omega, by omega, by simp only [fwA, ↓reduceIte, Nat.reduceAdd, Nat.reduceMul, Nat.reduceEqDiff, Nat.reduceLT, Nat.reduceLeDiff, reduceCtorEq, List.map_cons, List.map_nil, hwi], rfl, rfl⟩
  simp only [hc, decide_false, Bool.false_eq_true, ↓reduceIte]
  refine awp_exit ?_
  refine awp_seq ?_
  refine awp_seq ?_
  refine awp_run rfl (by simp only [fwA, ↓reduceIte, Nat.reduceAdd, Nat.reduceMul, Nat.reduceEqDiff, Nat.reduceLT, Nat.reduceLeDiff, reduceCtorEq] <;> rfl) ?_
  refine awp_block ?_
  refine awp_for [2, 3, 6] (fun i : Nat => [.ptr H.length 0, .ptr (H.length + 1) 0, .int .i64 (i : Int)]) (fun _ => H ++ [.box [.vec (ns.map S1) false, .vec (us.map U1) false], .box [.vec (ns.map S1) false, .vec (us.map U1) false]]) (fun i => us.length - i) (fun i => i ≤ us.length) 0 rfl rfl (Nat.zero_le _) fun i hil => ?_
  refine awp_seq ?_
  refine awp_seq ?_
  refine awp_run rfl (by simp only [fwA, ↓reduceIte, Nat.reduceAdd, Nat.reduceMul, Nat.reduceEqDiff, Nat.reduceLT, Nat.reduceLeDiff, reduceCtorEq, bitfw, Int.reduceToNat, Int.reduceLE, Int.reduceEq, Int.reduceNeg, List.length_map, List.getElem?_map, Option.map_some, Int.natCast_nonneg, Int.toNat_natCast, decide_true, decide_false, Bool.and_true, Bool.and_self, Bool.not_true, Bool.not_false, Bool.false_and, Bool.true_and, ne_eq, not_true_eq_false, not_false_eq_true, beq_self_eq_true, un9, un21, un22, un23, un5, un50, un4, ti9, ti22, ti23, ti50, ti25, ti27, pl25, pl27, fl25_0, fl25_1, fl27_0, fl27_1, el22, el23, un3, S1_fw, U1_fw] <;> rfl) ?_
  refine awp_cond (by simp only [fwA, ↓reduceIte, Nat.reduceAdd, Nat.reduceMul, Nat.reduceEqDiff, Nat.reduceLT, Nat.reduceLeDiff, reduceCtorEq] <;> rfl) ?_
  by_cases hc : (i : Int) < us.length
  · simp only [hc, decide_true, ↓reduceIte]
    refine awp_skip ?_
    have hi : i < us.length := by omega
    have hwi : IntKind.i64.wrap ((i : Int) + 1) = ((i + 1 : Nat) : Int) := wrapS i (by omega)
    have gs : us[i]? = some us[i] := List.getElem?_eq_getElem hi
    generalize us[i] = s at gs
    refine awp_seq ?_
    refine awp_block ?_
    refine awp_seq ?_
    refine awp_drun [0, 1, 0, 0, 1, 0, 1, 0, 0, 1, 0] [0, 1, 0, 7, 15, 0, 32, 0, 224, 480, 1023] mixed rfl (by kernel_rfl) (by simp only [fwA, ↓reduceIte, Nat.reduceAdd, Nat.reduceMul, Nat.reduceEqDiff, Nat.reduceLT, Nat.reduceLeDiff, reduceCtorEq, bitfw, Int.reduceToNat, Int.reduceLE, Int.reduceEq, Int.reduceNeg, List.length_map, List.getElem?_map, Option.map_some, Int.natCast_nonneg, Int.toNat_natCast, decide_true, decide_false, Bool.and_true, Bool.and_self, Bool.not_true, Bool.not_false, Bool.false_and, Bool.true_and, ne_eq, not_true_eq_false, not_false_eq_true, beq_self_eq_true, un9, un21, un22, un23, un5, un50, un4, ti9, ti22, ti23, ti50, ti25, ti27, pl25, pl27, fl25_0, fl25_1, fl27_0, fl27_1, el22, el23, un3, S1_fw, U1_fw, gs, bne_self_eq_false] <;> rfl) ?_
    refine awp_cond (b := false) (by simp [alook, aput, ev]) (awp_skip ?_)
    refine awp_run rfl (by simp only [fwA, ↓reduceIte, Nat.reduceAdd, Nat.reduceMul, Nat.reduceEqDiff, Nat.reduceLT, Nat.reduceLeDiff, reduceCtorEq] <;> rfl) ?_
    exact ⟨i + 1, by omega, by omega, by simp only [fwA, ↓reduceIte, Nat.reduceAdd, Nat.reduceMul, Nat.reduceEqDiff, Nat.reduceLT, Nat.reduceLeDiff, reduceCtorEq, List.map_cons, List.map_nil, hwi], rfl, rfl⟩
  simp only [hc, decide_false, Bool.false_eq_true, ↓reduceIte]
  refine awp_exit ?_
  refine awp_seq ?_
  refine awp_run rfl (by simp only [fwA, ↓reduceIte, Nat.reduceAdd, Nat.reduceMul, Nat.reduceEqDiff, Nat.reduceLT, Nat.reduceLeDiff, reduceCtorEq] <;> rfl) ?_
  refine awp_ret ?_
  exact gives_end (.inl rfl) _ rfl

theorem min66 (n : Nat) : (if (66 : Int) < (n : Int) then 66 else (n : Int)) = ((min n 66 : Nat) : Int) := by split <;> omega
theorem take_map {X Y : Type} (f : X → Y) (l : List X) (k : Nat) : ((l.map f).drop 0).take (k - 0) = (l.take k).map f := by
  rw [List.drop_zero, Nat.sub_zero, List.map_take]
set_option maxHeartbeats 16000000 in
/-- LatTells -/
theorem c3 (Γ : Nat → PV) (hT : Tab Γ) (ns : List (List UInt8)) (us : List Nat) (hw : W64 us) (a b : Int) (name text : List UInt8) (ht : text.length < 2000000) : Gives Tryd.prog Γ 3 [.agg [.vec (ns.map S1) false, .vec (us.map U1) false], .int .i64 a, .int .i64 b, .str name, .str text] (.bool true) := by
  obtain ⟨hΓ, hM⟩ := id hT
  have h10 := c10 Γ hT
  have h12 := c12 Γ hΓ hM text (by omega)
  have h13 := c13 Γ text (by omega)
  refine fn_of_awp Tryd.func3 rfl (by simp [Tryd.f3]) rfl fun H => ?_
  refine awp_seq ?_
  refine awp_run rfl (by simp only [fwA, ↓reduceIte, Nat.reduceAdd, Nat.reduceMul, Nat.reduceEqDiff, Nat.reduceLT, Nat.reduceLeDiff, reduceCtorEq] <;> rfl) ?_
  have hK0 : (H ++ [Blk.box [.vec (ns.map S1) false, .vec (us.map U1) false]])[H.length]? = some (.box [.vec (ns.map S1) false, .vec (us.map U1) false]) := by rw [Fw.get_at0]; rfl
  refine awp_seq ?_
  refine awp_region rfl ?_
  refine aops_fn rfl rfl rfl en10 h10 ?_
  refine aops_run 1 (by simp only [fwA, ↓reduceIte, Nat.reduceAdd, Nat.reduceMul, Nat.reduceEqDiff, Nat.reduceLT, Nat.reduceLeDiff, reduceCtorEq, bitfw, Int.reduceToNat, Int.reduceLE, Int.reduceEq, Int.reduceNeg, List.length_map, List.getElem?_map, Option.map_some, Int.natCast_nonneg, Int.toNat_natCast, decide_true, decide_false, Bool.and_true, Bool.and_self, Bool.not_true, Bool.not_false, Bool.false_and, Bool.true_and, ne_eq, not_true_eq_false, not_false_eq_true, beq_self_eq_true, un9, un21, un22, un23, un5, un50, un4, ti9, ti22, ti23, ti50, ti25, ti27, pl25, pl27, fl25_0, fl25_1, fl27_0, fl27_1, el22, el23, un3, S1_fw, U1_fw] <;> rfl) ?_
  refine aops_end ?_
  refine awp_seq ?_
  refine awp_seq ?_
  refine awp_run rfl (by simp only [fwA, ↓reduceIte, Nat.reduceAdd, Nat.reduceMul, Nat.reduceEqDiff, Nat.reduceLT, Nat.reduceLeDiff, reduceCtorEq] <;> rfl) ?_
  refine awp_cond (b := false) (by simp [alook, aput, ev]) (awp_skip ?_)
  refine awp_seq ?_
  refine awp_region rfl ?_
  refine aops_run 5 (by simp only [fwA, ↓reduceIte, Nat.reduceAdd, Nat.reduceMul, Nat.reduceEqDiff, Nat.reduceLT, Nat.reduceLeDiff, reduceCtorEq, bitfw, Int.reduceToNat, Int.reduceLE, Int.reduceEq, Int.reduceNeg, List.length_map, List.getElem?_map, Option.map_some, Int.natCast_nonneg, Int.toNat_natCast, decide_true, decide_false, Bool.and_true, Bool.and_self, Bool.not_true, Bool.not_false, Bool.false_and, Bool.true_and, ne_eq, not_true_eq_false, not_false_eq_true, beq_self_eq_true, un9, un21, un22, un23, un5, un50, un4, ti9, ti22, ti23, ti50, ti25, ti27, pl25, pl27, fl25_0, fl25_1, fl27_0, fl27_1, el22, el23, un3, S1_fw, U1_fw] <;> rfl) ?_
  refine aops_one rfl (os_min rfl rfl rfl ?_)
  refine aops_one rfl (os_sliceVec (l := 0) (h := min ns.length 66) (es := ns.map S1) (f := false) rfl el22 rfl (fun e he => by obtain ⟨x, _, rfl⟩ := List.mem_map.1 he; rfl) rfl ⟨_, congrArg (PV.int .i64) (min66 ns.length)⟩ trivial (Nat.zero_le _) (by rw [List.length_map]; omega) ?_)
  rw [take_map]
  refine aops_run 2 (by simp only [fwA, ↓reduceIte, Nat.reduceAdd, Nat.reduceMul, Nat.reduceEqDiff, Nat.reduceLT, Nat.reduceLeDiff, reduceCtorEq, bitfw, Int.reduceToNat, Int.reduceLE, Int.reduceEq, Int.reduceNeg, List.length_map, List.getElem?_map, Option.map_some, Int.natCast_nonneg, Int.toNat_natCast, decide_true, decide_false, Bool.and_true, Bool.and_self, Bool.not_true, Bool.not_false, Bool.false_and, Bool.true_and, ne_eq, not_true_eq_false, not_false_eq_true, beq_self_eq_true, un9, un21, un22, un23, un5, un50, un4, ti9, ti22, ti23, ti50, ti25, ti27, pl25, pl27, fl25_0, fl25_1, fl27_0, fl27_1, el22, el23, un3, S1_fw, U1_fw] <;> rfl) ?_
  refine aops_end ?_
  refine awp_seq ?_
  refine awp_region rfl ?_
  refine aops_run 5 (by simp only [fwA, ↓reduceIte, Nat.reduceAdd, Nat.reduceMul, Nat.reduceEqDiff, Nat.reduceLT, Nat.reduceLeDiff, reduceCtorEq, bitfw, Int.reduceToNat, Int.reduceLE, Int.reduceEq, Int.reduceNeg, List.length_map, List.getElem?_map, Option.map_some, Int.natCast_nonneg, Int.toNat_natCast, decide_true, decide_false, Bool.and_true, Bool.and_self, Bool.not_true, Bool.not_false, Bool.false_and, Bool.true_and, ne_eq, not_true_eq_false, not_false_eq_true, beq_self_eq_true, un9, un21, un22, un23, un5, un50, un4, ti9, ti22, ti23, ti50, ti25, ti27, pl25, pl27, fl25_0, fl25_1, fl27_0, fl27_1, el22, el23, un3, S1_fw, U1_fw] <;> rfl) ?_
  refine aops_one rfl (os_min rfl rfl rfl ?_)
  refine aops_one rfl (os_sliceVec (l := 0) (h := min us.length 66) (es := us.map U1) (f := false) rfl el23 rfl (fun e he => by obtain ⟨x, _, rfl⟩ := List.mem_map.1 he; rfl) rfl ⟨_, congrArg (PV.int .i64) (min66 us.length)⟩ trivial (Nat.zero_le _) (by rw [List.length_map]; omega) ?_)
  rw [take_map]
  refine aops_run 2 (by simp only [fwA, ↓reduceIte, Nat.reduceAdd, Nat.reduceMul, Nat.reduceEqDiff, Nat.reduceLT, Nat.reduceLeDiff, reduceCtorEq, bitfw, Int.reduceToNat, Int.reduceLE, Int.reduceEq, Int.reduceNeg, List.length_map, List.getElem?_map, Option.map_some, Int.natCast_nonneg, Int.toNat_natCast, decide_true, decide_false, Bool.and_true, Bool.and_self, Bool.not_true, Bool.not_false, Bool.false_and, Bool.true_and, ne_eq, not_true_eq_false, not_false_eq_true, beq_self_eq_true, un9, un21, un22, un23, un5, un50, un4, ti9, ti22, ti23, ti50, ti25, ti27, pl25, pl27, fl25_0, fl25_1, fl27_0, fl27_1, el22, el23, un3, S1_fw, U1_fw] <;> rfl) ?_
  refine aops_end ?_
  have hml : (ns.take (min ns.length 66)).length ≤ 66 := by rw [List.length_take]; omega
  have hvl : (us.take (min us.length 66)).length ≤ 66 := by rw [List.length_take]; omega
  have hwv : W64 (us.take (min us.length 66)) := fun x hx => hw x (List.mem_of_mem_take hx)
  generalize ns.take (min ns.length 66) = ms at hml ⊢
  generalize us.take (min us.length 66) = vs at hvl hwv ⊢
  have h11 := c11 Γ ms vs
  have h15 := c15 Γ hΓ ms vs hwv
  have h16 := c16 Γ ms vs hwv
  have h17 := c17 Γ ms vs hwv a b
  have h18 := c18 Γ ms vs hwv a b
  have h19 := c19 Γ name
  have h20 := c20 Γ name
  have h21 := c21 Γ ms vs name
  have h22 := c22 Γ ms vs name (by omega)
  have h23 := c23 Γ hΓ ms vs hwv a b
  have h24 := c24 Γ ms vs hwv a b
  have h25 := c25 Γ hΓ ms vs hwv a b
  have h26 := c26 Γ ms vs hwv a b
  have h27 := c27 Γ hΓ ms vs hwv
  have h28 := c28 Γ ms vs hwv
  have h29 := c29 Γ hΓ ms vs hwv
  have h30 := c30 Γ ms vs hwv
  have h31 := c31 Γ hΓ ms vs hwv
  have h32 := c32 Γ ms vs hwv
  have hback := parse_back text
  unfold parseV at h12 h13
  generalize parseL text = px at h12 h13 hback
  obtain ⟨xn, xu, xe⟩ := px
  simp only at h12 h13 hback
  have hxl : xn.length ≤ 64 ∧ xu.length ≤ 64 := by
    rcases hback with ⟨rfl, rfl, _⟩ | ⟨_, b1, _⟩
    · exact ⟨by simp, by simp⟩
    · obtain ⟨r1, r2, _⟩ := right_spec b1
      omega
  have h14 := c14 Γ xn xu (by omega) (by omega)
  generalize rightB ms vs = v15 at h15 h16
  generalize leqB (min ms.length vs.length) vs a b = v17 at h17 h18
  generalize nameB name = v19 at h19 h20
  generalize idxS ms name = v21 at h21 h22
  generalize joinV ms vs a b = v23 at h23 h24
  generalize meetV ms vs a b = v25 at h25 h26
  generalize botV ms vs = v27 at h27 h28
  generalize topV ms vs = v29 at h29 h30
  generalize printL ms vs = v31 at h31 h32
  refine awp_seq ?_
  refine awp_region rfl ?_
  refine aops_run 1 (by simp only [fwA, ↓reduceIte, Nat.reduceAdd, Nat.reduceMul, Nat.reduceEqDiff, Nat.reduceLT, Nat.reduceLeDiff, reduceCtorEq, bitfw, Int.reduceToNat, Int.reduceLE, Int.reduceEq, Int.reduceNeg, List.length_map, List.getElem?_map, Option.map_some, Int.natCast_nonneg, Int.toNat_natCast, decide_true, decide_false, Bool.and_true, Bool.and_self, Bool.not_true, Bool.not_false, Bool.false_and, Bool.true_and, ne_eq, not_true_eq_false, not_false_eq_true, beq_self_eq_true, un9, un21, un22, un23, un5, un50, un4, ti9, ti22, ti23, ti50, ti25, ti27, pl25, pl27, fl25_0, fl25_1, fl27_0, fl27_1, el22, el23, un3, S1_fw, U1_fw] <;> rfl) ?_
  refine aops_fn rfl rfl rfl en11 h11 ?_
  refine aops_run 2 (by simp only [fwA, ↓reduceIte, Nat.reduceAdd, Nat.reduceMul, Nat.reduceEqDiff, Nat.reduceLT, Nat.reduceLeDiff, reduceCtorEq, bitfw, Int.reduceToNat, Int.reduceLE, Int.reduceEq, Int.reduceNeg, List.length_map, List.getElem?_map, Option.map_some, Int.natCast_nonneg, Int.toNat_natCast, decide_true, decide_false, Bool.and_true, Bool.and_self, Bool.not_true, Bool.not_false, Bool.false_and, Bool.true_and, ne_eq, not_true_eq_false, not_false_eq_true, beq_self_eq_true, un9, un21, un22, un23, un5, un50, un4, ti9, ti22, ti23, ti50, ti25, ti27, pl25, pl27, fl25_0, fl25_1, fl27_0, fl27_1, el22, el23, un3, S1_fw, U1_fw] <;> rfl) ?_
  refine aops_end ?_
  refine awp_seq ?_
  refine awp_region rfl ?_
  refine aops_run 1 (by simp only [fwA, ↓reduceIte, Nat.reduceAdd, Nat.reduceMul, Nat.reduceEqDiff, Nat.reduceLT, Nat.reduceLeDiff, reduceCtorEq, bitfw, Int.reduceToNat, Int.reduceLE, Int.reduceEq, Int.reduceNeg, List.length_map, List.getElem?_map, Option.map_some, Int.natCast_nonneg, Int.toNat_natCast, decide_true, decide_false, Bool.and_true, Bool.and_self, Bool.not_true, Bool.not_false, Bool.false_and, Bool.true_and, ne_eq, not_true_eq_false, not_false_eq_true, beq_self_eq_true, un9, un21, un22, un23, un5, un50, un4, ti9, ti22, ti23, ti50, ti25, ti27, pl25, pl27, fl25_0, fl25_1, fl27_0, fl27_1, el22, el23, un3, S1_fw, U1_fw] <;> rfl) ?_
  refine aops_fn rfl rfl rfl en12 h12 ?_
  refine aops_run 6 (by simp only [fwA, ↓reduceIte, Nat.reduceAdd, Nat.reduceMul, Nat.reduceEqDiff, Nat.reduceLT, Nat.reduceLeDiff, reduceCtorEq, bitfw, Int.reduceToNat, Int.reduceLE, Int.reduceEq, Int.reduceNeg, List.length_map, List.getElem?_map, Option.map_some, Int.natCast_nonneg, Int.toNat_natCast, decide_true, decide_false, Bool.and_true, Bool.and_self, Bool.not_true, Bool.not_false, Bool.false_and, Bool.true_and, ne_eq, not_true_eq_false, not_false_eq_true, beq_self_eq_true, un9, un21, un22, un23, un5, un50, un4, ti9, ti22, ti23, ti50, ti25, ti27, pl25, pl27, fl25_0, fl25_1, fl27_0, fl27_1, el22, el23, un3, S1_fw, U1_fw] <;> rfl) ?_
  refine aops_end ?_
  refine awp_seq ?_
  refine awp_region rfl ?_
  refine aops_run 1 (by simp only [fwA, ↓reduceIte, Nat.reduceAdd, Nat.reduceMul, Nat.reduceEqDiff, Nat.reduceLT, Nat.reduceLeDiff, reduceCtorEq, bitfw, Int.reduceToNat, Int.reduceLE, Int.reduceEq, Int.reduceNeg, List.length_map, List.getElem?_map, Option.map_some, Int.natCast_nonneg, Int.toNat_natCast, decide_true, decide_false, Bool.and_true, Bool.and_self, Bool.not_true, Bool.not_false, Bool.false_and, Bool.true_and, ne_eq, not_true_eq_false, not_false_eq_true, beq_self_eq_true, un9, un21, un22, un23, un5, un50, un4, ti9, ti22, ti23, ti50, ti25, ti27, pl25, pl27, fl25_0, fl25_1, fl27_0, fl27_1, el22, el23, un3, S1_fw, U1_fw] <;> rfl) ?_
  refine aops_fn rfl rfl rfl en13 h13 ?_
  refine aops_run 6 (by simp only [fwA, ↓reduceIte, Nat.reduceAdd, Nat.reduceMul, Nat.reduceEqDiff, Nat.reduceLT, Nat.reduceLeDiff, reduceCtorEq, bitfw, Int.reduceToNat, Int.reduceLE, Int.reduceEq, Int.reduceNeg, List.length_map, List.getElem?_map, Option.map_some, Int.natCast_nonneg, Int.toNat_natCast, decide_true, decide_false, Bool.and_true, Bool.and_self, Bool.not_true, Bool.not_false, Bool.false_and, Bool.true_and, ne_eq, not_true_eq_false, not_false_eq_true, beq_self_eq_true, un9, un21, un22, un23, un5, un50, un4, ti9, ti22, ti23, ti50, ti25, ti27, pl25, pl27, fl25_0, fl25_1, fl27_0, fl27_1, el22, el23, un3, S1_fw, U1_fw] <;> rfl) ?_
  refine aops_end ?_
  refine awp_seq ?_
  refine awp_seq ?_
  refine awp_drawn [1, 1, 0, 0, 0, 0, 0, 0, 0, 0, 1, 0, 1, 0, 0, 0, 0, 1, 0, 0, 0, 1, 0, 0, 0, 0, 0, 0, 0, 0, 0, 0, 0, 0, 0, 1, 0, 0, 1, 0, 0, 0, 0] [0, 0, 3, 7, 15, 31, 31, 127, 255, 511, 1023, 2047, 1023, 8191, 16383, 32767, 65535, 131071, 131071, 131071, 1048575, 131071, 131071, 131071, 16777215, 33554431, 67108863, 134217727, 268435455, 536870911, 268435455, 2147483647, 4294967295, 8589934591, 17179869183, 34359738367, 34359738367, 137438953471, 34359738367, 34359738367, 1099511627775, 2199023255551, 4398046511103] mixed rfl (by kernel_rfl) ?_
  refine dops_run 2 (by simp only [fwA, ↓reduceIte, Nat.reduceAdd, Nat.reduceMul, Nat.reduceEqDiff, Nat.reduceLT, Nat.reduceLeDiff, reduceCtorEq, bitfw, Int.reduceToNat, Int.reduceLE, Int.reduceEq, Int.reduceNeg, List.length_map, List.getElem?_map, Option.map_some, Int.natCast_nonneg, Int.toNat_natCast, decide_true, decide_false, Bool.and_true, Bool.and_self, Bool.not_true, Bool.not_false, Bool.false_and, Bool.true_and, ne_eq, not_true_eq_false, not_false_eq_true, beq_self_eq_true, un9, un21, un22, un23, un5, un50, un4, ti9, ti22, ti23, ti50, ti25, ti27, pl25, pl27, fl25_0, fl25_1, fl27_0, fl27_1, el22, el23, un3, S1_fw, U1_fw, bne_self_eq_false] <;> rfl) ?_
  refine dops_fn rfl (by simp only [fwA, ↓reduceIte, Nat.reduceAdd, Nat.reduceMul, Nat.reduceEqDiff, Nat.reduceLT, Nat.reduceLeDiff, reduceCtorEq] <;> rfl) rfl rfl en14 h14 ?_
  refine dops_run 8 (by simp only [fwA, ↓reduceIte, Nat.reduceAdd, Nat.reduceMul, Nat.reduceEqDiff, Nat.reduceLT, Nat.reduceLeDiff, reduceCtorEq, bitfw, Int.reduceToNat, Int.reduceLE, Int.reduceEq, Int.reduceNeg, List.length_map, List.getElem?_map, Option.map_some, Int.natCast_nonneg, Int.toNat_natCast, decide_true, decide_false, Bool.and_true, Bool.and_self, Bool.not_true, Bool.not_false, Bool.false_and, Bool.true_and, ne_eq, not_true_eq_false, not_false_eq_true, beq_self_eq_true, un9, un21, un22, un23, un5, un50, un4, ti9, ti22, ti23, ti50, ti25, ti27, pl25, pl27, fl25_0, fl25_1, fl27_0, fl27_1, el22, el23, un3, S1_fw, U1_fw, bne_self_eq_false] <;> rfl) ?_
  refine dops_fn rfl (by simp only [fwA, ↓reduceIte, Nat.reduceAdd, Nat.reduceMul, Nat.reduceEqDiff, Nat.reduceLT, Nat.reduceLeDiff, reduceCtorEq] <;> rfl) rfl rfl en15 h15 ?_
  refine dops_run 1 (by simp only [fwA, ↓reduceIte, Nat.reduceAdd, Nat.reduceMul, Nat.reduceEqDiff, Nat.reduceLT, Nat.reduceLeDiff, reduceCtorEq, bitfw, Int.reduceToNat, Int.reduceLE, Int.reduceEq, Int.reduceNeg, List.length_map, List.getElem?_map, Option.map_some, Int.natCast_nonneg, Int.toNat_natCast, decide_true, decide_false, Bool.and_true, Bool.and_self, Bool.not_true, Bool.not_false, Bool.false_and, Bool.true_and, ne_eq, not_true_eq_false, not_false_eq_true, beq_self_eq_true, un9, un21, un22, un23, un5, un50, un4, ti9, ti22, ti23, ti50, ti25, ti27, pl25, pl27, fl25_0, fl25_1, fl27_0, fl27_1, el22, el23, un3, S1_fw, U1_fw, bne_self_eq_false] <;> rfl) ?_
  refine dops_fn rfl (by simp only [fwA, ↓reduceIte, Nat.reduceAdd, Nat.reduceMul, Nat.reduceEqDiff, Nat.reduceLT, Nat.reduceLeDiff, reduceCtorEq] <;> rfl) rfl rfl en16 h16 ?_
  refine dops_run 6 (by simp only [fwA, ↓reduceIte, Nat.reduceAdd, Nat.reduceMul, Nat.reduceEqDiff, Nat.reduceLT, Nat.reduceLeDiff, reduceCtorEq, bitfw, Int.reduceToNat, Int.reduceLE, Int.reduceEq, Int.reduceNeg, List.length_map, List.getElem?_map, Option.map_some, Int.natCast_nonneg, Int.toNat_natCast, decide_true, decide_false, Bool.and_true, Bool.and_self, Bool.not_true, Bool.not_false, Bool.false_and, Bool.true_and, ne_eq, not_true_eq_false, not_false_eq_true, beq_self_eq_true, un9, un21, un22, un23, un5, un50, un4, ti9, ti22, ti23, ti50, ti25, ti27, pl25, pl27, fl25_0, fl25_1, fl27_0, fl27_1, el22, el23, un3, S1_fw, U1_fw, bne_self_eq_false] <;> rfl) ?_
  refine dops_fn rfl (by simp only [fwA, ↓reduceIte, Nat.reduceAdd, Nat.reduceMul, Nat.reduceEqDiff, Nat.reduceLT, Nat.reduceLeDiff, reduceCtorEq] <;> rfl) rfl rfl en17 h17 ?_
  refine dops_run 3 (by simp only [fwA, ↓reduceIte, Nat.reduceAdd, Nat.reduceMul, Nat.reduceEqDiff, Nat.reduceLT, Nat.reduceLeDiff, reduceCtorEq, bitfw, Int.reduceToNat, Int.reduceLE, Int.reduceEq, Int.reduceNeg, List.length_map, List.getElem?_map, Option.map_some, Int.natCast_nonneg, Int.toNat_natCast, decide_true, decide_false, Bool.and_true, Bool.and_self, Bool.not_true, Bool.not_false, Bool.false_and, Bool.true_and, ne_eq, not_true_eq_false, not_false_eq_true, beq_self_eq_true, un9, un21, un22, un23, un5, un50, un4, ti9, ti22, ti23, ti50, ti25, ti27, pl25, pl27, fl25_0, fl25_1, fl27_0, fl27_1, el22, el23, un3, S1_fw, U1_fw, bne_self_eq_false] <;> rfl) ?_
  refine dops_fn rfl (by simp only [fwA, ↓reduceIte, Nat.reduceAdd, Nat.reduceMul, Nat.reduceEqDiff, Nat.reduceLT, Nat.reduceLeDiff, reduceCtorEq] <;> rfl) rfl rfl en18 h18 ?_
  refine dops_run 4 (by simp only [fwA, ↓reduceIte, Nat.reduceAdd, Nat.reduceMul, Nat.reduceEqDiff, Nat.reduceLT, Nat.reduceLeDiff, reduceCtorEq, bitfw, Int.reduceToNat, Int.reduceLE, Int.reduceEq, Int.reduceNeg, List.length_map, List.getElem?_map, Option.map_some, Int.natCast_nonneg, Int.toNat_natCast, decide_true, decide_false, Bool.and_true, Bool.and_self, Bool.not_true, Bool.not_false, Bool.false_and, Bool.true_and, ne_eq, not_true_eq_false, not_false_eq_true, beq_self_eq_true, un9, un21, un22, un23, un5, un50, un4, ti9, ti22, ti23, ti50, ti25, ti27, pl25, pl27, fl25_0, fl25_1, fl27_0, fl27_1, el22, el23, un3, S1_fw, U1_fw, bne_self_eq_false] <;> rfl) ?_
  refine dops_fn rfl (by simp only [fwA, ↓reduceIte, Nat.reduceAdd, Nat.reduceMul, Nat.reduceEqDiff, Nat.reduceLT, Nat.reduceLeDiff, reduceCtorEq] <;> rfl) rfl rfl en19 h19 ?_
  refine dops_run 1 (by simp only [fwA, ↓reduceIte, Nat.reduceAdd, Nat.reduceMul, Nat.reduceEqDiff, Nat.reduceLT, Nat.reduceLeDiff, reduceCtorEq, bitfw, Int.reduceToNat, Int.reduceLE, Int.reduceEq, Int.reduceNeg, List.length_map, List.getElem?_map, Option.map_some, Int.natCast_nonneg, Int.toNat_natCast, decide_true, decide_false, Bool.and_true, Bool.and_self, Bool.not_true, Bool.not_false, Bool.false_and, Bool.true_and, ne_eq, not_true_eq_false, not_false_eq_true, beq_self_eq_true, un9, un21, un22, un23, un5, un50, un4, ti9, ti22, ti23, ti50, ti25, ti27, pl25, pl27, fl25_0, fl25_1, fl27_0, fl27_1, el22, el23, un3, S1_fw, U1_fw, bne_self_eq_false] <;> rfl) ?_
  refine dops_fn rfl (by simp only [fwA, ↓reduceIte, Nat.reduceAdd, Nat.reduceMul, Nat.reduceEqDiff, Nat.reduceLT, Nat.reduceLeDiff, reduceCtorEq] <;> rfl) rfl rfl en20 h20 ?_
  refine dops_run 5 (by simp only [fwA, ↓reduceIte, Nat.reduceAdd, Nat.reduceMul, Nat.reduceEqDiff, Nat.reduceLT, Nat.reduceLeDiff, reduceCtorEq, bitfw, Int.reduceToNat, Int.reduceLE, Int.reduceEq, Int.reduceNeg, List.length_map, List.getElem?_map, Option.map_some, Int.natCast_nonneg, Int.toNat_natCast, decide_true, decide_false, Bool.and_true, Bool.and_self, Bool.not_true, Bool.not_false, Bool.false_and, Bool.true_and, ne_eq, not_true_eq_false, not_false_eq_true, beq_self_eq_true, un9, un21, un22, un23, un5, un50, un4, ti9, ti22, ti23, ti50, ti25, ti27, pl25, pl27, fl25_0, fl25_1, fl27_0, fl27_1, el22, el23, un3, S1_fw, U1_fw, bne_self_eq_false] <;> rfl) ?_
  refine dops_fn rfl (by simp only [fwA, ↓reduceIte, Nat.reduceAdd, Nat.reduceMul, Nat.reduceEqDiff, Nat.reduceLT, Nat.reduceLeDiff, reduceCtorEq] <;> rfl) rfl rfl en21 h21 ?_
  refine dops_run 2 (by simp only [fwA, ↓reduceIte, Nat.reduceAdd, Nat.reduceMul, Nat.reduceEqDiff, Nat.reduceLT, Nat.reduceLeDiff, reduceCtorEq, bitfw, Int.reduceToNat, Int.reduceLE, Int.reduceEq, Int.reduceNeg, List.length_map, List.getElem?_map, Option.map_some, Int.natCast_nonneg, Int.toNat_natCast, decide_true, decide_false, Bool.and_true, Bool.and_self, Bool.not_true, Bool.not_false, Bool.false_and, Bool.true_and, ne_eq, not_true_eq_false, not_false_eq_true, beq_self_eq_true, un9, un21, un22, un23, un5, un50, un4, ti9, ti22, ti23, ti50, ti25, ti27, pl25, pl27, fl25_0, fl25_1, fl27_0, fl27_1, el22, el23, un3, S1_fw, U1_fw, bne_self_eq_false] <;> rfl) ?_
  refine dops_fn rfl (by simp only [fwA, ↓reduceIte, Nat.reduceAdd, Nat.reduceMul, Nat.reduceEqDiff, Nat.reduceLT, Nat.reduceLeDiff, reduceCtorEq] <;> rfl) rfl rfl en22 h22 ?_
  refine dops_run 2 (by simp only [fwA, ↓reduceIte, Nat.reduceAdd, Nat.reduceMul, Nat.reduceEqDiff, Nat.reduceLT, Nat.reduceLeDiff, reduceCtorEq, bitfw, Int.reduceToNat, Int.reduceLE, Int.reduceEq, Int.reduceNeg, List.length_map, List.getElem?_map, Option.map_some, Int.natCast_nonneg, Int.toNat_natCast, decide_true, decide_false, Bool.and_true, Bool.and_self, Bool.not_true, Bool.not_false, Bool.false_and, Bool.true_and, ne_eq, not_true_eq_false, not_false_eq_true, beq_self_eq_true, un9, un21, un22, un23, un5, un50, un4, ti9, ti22, ti23, ti50, ti25, ti27, pl25, pl27, fl25_0, fl25_1, fl27_0, fl27_1, el22, el23, un3, S1_fw, U1_fw, bne_self_eq_false] <;> rfl) ?_
  refine dops_end ?_
  refine awp_cond (b := false) (by simp [alook, aput, ev]) (awp_skip ?_)
  refine awp_seq ?_
  refine awp_drawn [0, 0, 1, 0, 0, 0, 1, 0, 0, 0, 0, 0, 0, 1, 0, 0, 0, 1, 0, 0, 0, 0, 0, 0, 1, 0, 1, 0, 0, 0, 0, 1, 0, 1, 0, 0, 0, 0, 1, 0, 1, 0, 0, 0, 0] [0, 1, 3, 3, 3, 31, 3, 3, 3, 511, 1023, 2047, 4095, 8191, 8191, 8191, 65535, 8191, 8191, 8191, 1048575, 2097151, 4194303, 8388607, 16777215, 33554431, 16777215, 134217727, 268435455, 536870911, 1073741823, 2147483647, 4294967295, 2147483647, 17179869183, 34359738367, 68719476735, 137438953471, 274877906943, 549755813887, 274877906943, 2199023255551, 4398046511103, 8796093022207, 17592186044415] mixed rfl (by kernel_rfl) ?_
  refine dops_run 5 (by simp only [fwA, ↓reduceIte, Nat.reduceAdd, Nat.reduceMul, Nat.reduceEqDiff, Nat.reduceLT, Nat.reduceLeDiff, reduceCtorEq, bitfw, Int.reduceToNat, Int.reduceLE, Int.reduceEq, Int.reduceNeg, List.length_map, List.getElem?_map, Option.map_some, Int.natCast_nonneg, Int.toNat_natCast, decide_true, decide_false, Bool.and_true, Bool.and_self, Bool.not_true, Bool.not_false, Bool.false_and, Bool.true_and, ne_eq, not_true_eq_false, not_false_eq_true, beq_self_eq_true, un9, un21, un22, un23, un5, un50, un4, ti9, ti22, ti23, ti50, ti25, ti27, pl25, pl27, fl25_0, fl25_1, fl27_0, fl27_1, el22, el23, un3, S1_fw, U1_fw] <;> rfl) ?_
  refine dops_fn rfl (by simp only [fwA, ↓reduceIte, Nat.reduceAdd, Nat.reduceMul, Nat.reduceEqDiff, Nat.reduceLT, Nat.reduceLeDiff, reduceCtorEq] <;> rfl) rfl rfl en23 h23 ?_
  refine dops_run 3 (by simp only [fwA, ↓reduceIte, Nat.reduceAdd, Nat.reduceMul, Nat.reduceEqDiff, Nat.reduceLT, Nat.reduceLeDiff, reduceCtorEq, bitfw, Int.reduceToNat, Int.reduceLE, Int.reduceEq, Int.reduceNeg, List.length_map, List.getElem?_map, Option.map_some, Int.natCast_nonneg, Int.toNat_natCast, decide_true, decide_false, Bool.and_true, Bool.and_self, Bool.not_true, Bool.not_false, Bool.false_and, Bool.true_and, ne_eq, not_true_eq_false, not_false_eq_true, beq_self_eq_true, un9, un21, un22, un23, un5, un50, un4, ti9, ti22, ti23, ti50, ti25, ti27, pl25, pl27, fl25_0, fl25_1, fl27_0, fl27_1, el22, el23, un3, S1_fw, U1_fw] <;> rfl) ?_
  refine dops_fn rfl (by simp only [fwA, ↓reduceIte, Nat.reduceAdd, Nat.reduceMul, Nat.reduceEqDiff, Nat.reduceLT, Nat.reduceLeDiff, reduceCtorEq] <;> rfl) rfl rfl en24 h24 ?_
  refine dops_run 6 (by simp only [fwA, ↓reduceIte, Nat.reduceAdd, Nat.reduceMul, Nat.reduceEqDiff, Nat.reduceLT, Nat.reduceLeDiff, reduceCtorEq, bitfw, Int.reduceToNat, Int.reduceLE, Int.reduceEq, Int.reduceNeg, List.length_map, List.getElem?_map, Option.map_some, Int.natCast_nonneg, Int.toNat_natCast, decide_true, decide_false, Bool.and_true, Bool.and_self, Bool.not_true, Bool.not_false, Bool.false_and, Bool.true_and, ne_eq, not_true_eq_false, not_false_eq_true, beq_self_eq_true, un9, un21, un22, un23, un5, un50, un4, ti9, ti22, ti23, ti50, ti25, ti27, pl25, pl27, fl25_0, fl25_1, fl27_0, fl27_1, el22, el23, un3, S1_fw, U1_fw] <;> rfl) ?_
  refine dops_fn rfl (by simp only [fwA, ↓reduceIte, Nat.reduceAdd, Nat.reduceMul, Nat.reduceEqDiff, Nat.reduceLT, Nat.reduceLeDiff, reduceCtorEq] <;> rfl) rfl rfl en25 h25 ?_
  refine dops_run 3 (by simp only [fwA, ↓reduceIte, Nat.reduceAdd, Nat.reduceMul, Nat.reduceEqDiff, Nat.reduceLT, Nat.reduceLeDiff, reduceCtorEq, bitfw, Int.reduceToNat, Int.reduceLE, Int.reduceEq, Int.reduceNeg, List.length_map, List.getElem?_map, Option.map_some, Int.natCast_nonneg, Int.toNat_natCast, decide_true, decide_false, Bool.and_true, Bool.and_self, Bool.not_true, Bool.not_false, Bool.false_and, Bool.true_and, ne_eq, not_true_eq_false, not_false_eq_true, beq_self_eq_true, un9, un21, un22, un23, un5, un50, un4, ti9, ti22, ti23, ti50, ti25, ti27, pl25, pl27, fl25_0, fl25_1, fl27_0, fl27_1, el22, el23, un3, S1_fw, U1_fw] <;> rfl) ?_
  refine dops_fn rfl (by simp only [fwA, ↓reduceIte, Nat.reduceAdd, Nat.reduceMul, Nat.reduceEqDiff, Nat.reduceLT, Nat.reduceLeDiff, reduceCtorEq] <;> rfl) rfl rfl en26 h26 ?_
  refine dops_run 4 (by simp only [fwA, ↓reduceIte, Nat.reduceAdd, Nat.reduceMul, Nat.reduceEqDiff, Nat.reduceLT, Nat.reduceLeDiff, reduceCtorEq, bitfw, Int.reduceToNat, Int.reduceLE, Int.reduceEq, Int.reduceNeg, List.length_map, List.getElem?_map, Option.map_some, Int.natCast_nonneg, Int.toNat_natCast, decide_true, decide_false, Bool.and_true, Bool.and_self, Bool.not_true, Bool.not_false, Bool.false_and, Bool.true_and, ne_eq, not_true_eq_false, not_false_eq_true, beq_self_eq_true, un9, un21, un22, un23, un5, un50, un4, ti9, ti22, ti23, ti50, ti25, ti27, pl25, pl27, fl25_0, fl25_1, fl27_0, fl27_1, el22, el23, un3, S1_fw, U1_fw] <;> rfl) ?_
  refine dops_fn rfl (by simp only [fwA, ↓reduceIte, Nat.reduceAdd, Nat.reduceMul, Nat.reduceEqDiff, Nat.reduceLT, Nat.reduceLeDiff, reduceCtorEq] <;> rfl) rfl rfl en27 h27 ?_
  refine dops_run 1 (by simp only [fwA, ↓reduceIte, Nat.reduceAdd, Nat.reduceMul, Nat.reduceEqDiff, Nat.reduceLT, Nat.reduceLeDiff, reduceCtorEq, bitfw, Int.reduceToNat, Int.reduceLE, Int.reduceEq, Int.reduceNeg, List.length_map, List.getElem?_map, Option.map_some, Int.natCast_nonneg, Int.toNat_natCast, decide_true, decide_false, Bool.and_true, Bool.and_self, Bool.not_true, Bool.not_false, Bool.false_and, Bool.true_and, ne_eq, not_true_eq_false, not_false_eq_true, beq_self_eq_true, un9, un21, un22, un23, un5, un50, un4, ti9, ti22, ti23, ti50, ti25, ti27, pl25, pl27, fl25_0, fl25_1, fl27_0, fl27_1, el22, el23, un3, S1_fw, U1_fw] <;> rfl) ?_
  refine dops_fn rfl (by simp only [fwA, ↓reduceIte, Nat.reduceAdd, Nat.reduceMul, Nat.reduceEqDiff, Nat.reduceLT, Nat.reduceLeDiff, reduceCtorEq] <;> rfl) rfl rfl en28 h28 ?_
  refine dops_run 4 (by simp only [fwA, ↓reduceIte, Nat.reduceAdd, Nat.reduceMul, Nat.reduceEqDiff, Nat.reduceLT, Nat.reduceLeDiff, reduceCtorEq, bitfw, Int.reduceToNat, Int.reduceLE, Int.reduceEq, Int.reduceNeg, List.length_map, List.getElem?_map, Option.map_some, Int.natCast_nonneg, Int.toNat_natCast, decide_true, decide_false, Bool.and_true, Bool.and_self, Bool.not_true, Bool.not_false, Bool.false_and, Bool.true_and, ne_eq, not_true_eq_false, not_false_eq_true, beq_self_eq_true, un9, un21, un22, un23, un5, un50, un4, ti9, ti22, ti23, ti50, ti25, ti27, pl25, pl27, fl25_0, fl25_1, fl27_0, fl27_1, el22, el23, un3, S1_fw, U1_fw] <;> rfl) ?_
  refine dops_fn rfl (by simp only [fwA, ↓reduceIte, Nat.reduceAdd, Nat.reduceMul, Nat.reduceEqDiff, Nat.reduceLT, Nat.reduceLeDiff, reduceCtorEq] <;> rfl) rfl rfl en29 h29 ?_
  refine dops_run 1 (by simp only [fwA, ↓reduceIte, Nat.reduceAdd, Nat.reduceMul, Nat.reduceEqDiff, Nat.reduceLT, Nat.reduceLeDiff, reduceCtorEq, bitfw, Int.reduceToNat, Int.reduceLE, Int.reduceEq, Int.reduceNeg, List.length_map, List.getElem?_map, Option.map_some, Int.natCast_nonneg, Int.toNat_natCast, decide_true, decide_false, Bool.and_true, Bool.and_self, Bool.not_true, Bool.not_false, Bool.false_and, Bool.true_and, ne_eq, not_true_eq_false, not_false_eq_true, beq_self_eq_true, un9, un21, un22, un23, un5, un50, un4, ti9, ti22, ti23, ti50, ti25, ti27, pl25, pl27, fl25_0, fl25_1, fl27_0, fl27_1, el22, el23, un3, S1_fw, U1_fw] <;> rfl) ?_
  refine dops_fn rfl (by simp only [fwA, ↓reduceIte, Nat.reduceAdd, Nat.reduceMul, Nat.reduceEqDiff, Nat.reduceLT, Nat.reduceLeDiff, reduceCtorEq] <;> rfl) rfl rfl en30 h30 ?_
  refine dops_run 4 (by simp only [fwA, ↓reduceIte, Nat.reduceAdd, Nat.reduceMul, Nat.reduceEqDiff, Nat.reduceLT, Nat.reduceLeDiff, reduceCtorEq, bitfw, Int.reduceToNat, Int.reduceLE, Int.reduceEq, Int.reduceNeg, List.length_map, List.getElem?_map, Option.map_some, Int.natCast_nonneg, Int.toNat_natCast, decide_true, decide_false, Bool.and_true, Bool.and_self, Bool.not_true, Bool.not_false, Bool.false_and, Bool.true_and, ne_eq, not_true_eq_false, not_false_eq_true, beq_self_eq_true, un9, un21, un22, un23, un5, un50, un4, ti9, ti22, ti23, ti50, ti25, ti27, pl25, pl27, fl25_0, fl25_1, fl27_0, fl27_1, el22, el23, un3, S1_fw, U1_fw] <;> rfl) ?_
  refine dops_fn rfl (by simp only [fwA, ↓reduceIte, Nat.reduceAdd, Nat.reduceMul, Nat.reduceEqDiff, Nat.reduceLT, Nat.reduceLeDiff, reduceCtorEq] <;> rfl) rfl rfl en31 h31 ?_
  refine dops_run 1 (by simp only [fwA, ↓reduceIte, Nat.reduceAdd, Nat.reduceMul, Nat.reduceEqDiff, Nat.reduceLT, Nat.reduceLeDiff, reduceCtorEq, bitfw, Int.reduceToNat, Int.reduceLE, Int.reduceEq, Int.reduceNeg, List.length_map, List.getElem?_map, Option.map_some, Int.natCast_nonneg, Int.toNat_natCast, decide_true, decide_false, Bool.and_true, Bool.and_self, Bool.not_true, Bool.not_false, Bool.false_and, Bool.true_and, ne_eq, not_true_eq_false, not_false_eq_true, beq_self_eq_true, un9, un21, un22, un23, un5, un50, un4, ti9, ti22, ti23, ti50, ti25, ti27, pl25, pl27, fl25_0, fl25_1, fl27_0, fl27_1, el22, el23, un3, S1_fw, U1_fw] <;> rfl) ?_
  refine dops_fn rfl (by simp only [fwA, ↓reduceIte, Nat.reduceAdd, Nat.reduceMul, Nat.reduceEqDiff, Nat.reduceLT, Nat.reduceLeDiff, reduceCtorEq] <;> rfl) rfl rfl en32 h32 ?_
  refine dops_run 3 (by simp only [fwA, ↓reduceIte, Nat.reduceAdd, Nat.reduceMul, Nat.reduceEqDiff, Nat.reduceLT, Nat.reduceLeDiff, reduceCtorEq, bitfw, Int.reduceToNat, Int.reduceLE, Int.reduceEq, Int.reduceNeg, List.length_map, List.getElem?_map, Option.map_some, Int.natCast_nonneg, Int.toNat_natCast, decide_true, decide_false, Bool.and_true, Bool.and_self, Bool.not_true, Bool.not_false, Bool.false_and, Bool.true_and, ne_eq, not_true_eq_false, not_false_eq_true, beq_self_eq_true, un9, un21, un22, un23, un5, un50, un4, ti9, ti22, ti23, ti50, ti25, ti27, pl25, pl27, fl25_0, fl25_1, fl27_0, fl27_1, el22, el23, un3, S1_fw, U1_fw] <;> rfl) ?_
  refine dops_end ?_
  refine awp_ret ?_
  exact gives_end (.inl rfl) _ rfl

end Go.Proofs.YtdhlghhokbmhdaaDoor
