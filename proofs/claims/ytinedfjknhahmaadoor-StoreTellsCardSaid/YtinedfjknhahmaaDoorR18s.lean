/- The law of the whole chapter. -/
import Derived.Test.YtinedfjknhahmaaDoorR18r
namespace Go.Proofs.YtinedfjknhahmaaDoor
set_option linter.unusedVariables false
set_option linter.unusedSimpArgs false
open Go.RowKit Fw

theorem c3a (Γ : Nat → PV) (hΓ : Tab Γ) (v w x : Val) (l lb : List Bd) (sl m2 : List Sl) (nm op t : List UInt8) (a b n1 d1 : Int) (o1 o2 o3 o4 s : Bool) (hx : x.Ok) (hv : v.Ok) (hw : w.Ok) (ha : (wholeV a).Ok)
    (h10 : Gives Tryd.prog Γ 10 [.vec (l.map Bd.enc) false, .str nm] (.tup [.agg x.enc, .bool o1])) (h12 : Gives Tryd.prog Γ 12 [.vec (l.map Bd.enc) false] (.vec (l.map Bd.enc) false)) (h11 : Gives Tryd.prog Γ 11 [.vec (l.map Bd.enc) false, .str nm] (.tup [.agg x.enc, .bool o1]))
    (h13 : Gives Tryd.prog Γ 13 [.vec (sl.map Sl.enc) false, .str nm] (.tup [.int .i64 n1, .bool o2])) (h15 : Gives Tryd.prog Γ 15 [.vec (sl.map Sl.enc) false] (.vec (sl.map Sl.enc) false)) (h14 : Gives Tryd.prog Γ 14 [.vec (sl.map Sl.enc) false, .str nm] (.tup [.int .i64 n1, .bool o2]))
    (h16 : Gives Tryd.prog Γ 16 [.vec (sl.map Sl.enc) false, .str nm, .int .i64 a] (.tup [.vec (m2.map Sl.enc) false, .bool o3])) (h17 : Gives Tryd.prog Γ 17 [.vec (sl.map Sl.enc) false, .str nm, .int .i64 a] (.tup [.vec (m2.map Sl.enc) false, .bool o3]))
    (h18 : Gives Tryd.prog Γ 18 [.str op, .int .i64 a, .int .i64 b] (.tup [.int .i64 d1, .bool o4])) (h19 : Gives Tryd.prog Γ 19 [.str op, .int .i64 a, .int .i64 b] (.tup [.int .i64 d1, .bool o4]))
    (h21 : ∀ v : Val, v.Ok → Gives Tryd.prog Γ 21 [.agg v.enc] (.agg v.enc)) (hs : ∀ v : Val, Gives Tryd.prog Γ 20 [.agg v.enc, .agg v.enc] (.bool true)) (h22 : Gives Tryd.prog Γ 22 [.vec (m2.map Sl.enc) false, .vec (m2.map Sl.enc) false] (.bool true))
    (h23 : Gives Tryd.prog Γ 23 [.vec (l.map Bd.enc) false, .str nm, .agg v.enc] (.vec (lb.map Bd.enc) false)) (h12b : Gives Tryd.prog Γ 12 [.vec (lb.map Bd.enc) false] (.vec (lb.map Bd.enc) false)) (h24 : Gives Tryd.prog Γ 24 [.vec (l.map Bd.enc) false, .str nm, .agg v.enc] (.vec (lb.map Bd.enc) false))
    (h25 : Gives Tryd.prog Γ 25 [.agg v.enc] (.str t)) (h26 : Gives Tryd.prog Γ 26 [.agg v.enc] (.str t)) (h27 : Gives Tryd.prog Γ 27 [.agg v.enc, .agg w.enc] (.bool s)) (h20 : Gives Tryd.prog Γ 20 [.agg v.enc, .agg w.enc] (.bool s)) :
    Gives Tryd.prog Γ 3 [.agg v.enc, .agg w.enc, .vec (l.map Bd.enc) false, .vec (sl.map Sl.enc) false, .str nm, .str op, .int .i64 a, .int .i64 b] (.bool true) := by
  refine fn_of_awp Tryd.func3 rfl (by simp [Tryd.f3]) rfl fun H => ?_
  refine awp_seq ?_
  -- region 0
  refine awp_run rfl (by simp only [fw0, fw1, fw2, fw3, fw4, fw5, fw6, fw7, ↓reduceIte, Nat.reduceAdd, Nat.reduceMul, Nat.reduceEqDiff, Nat.reduceLT, Nat.reduceLeDiff, reduceCtorEq, Bool.false_eq_true, Bool.not_true, Bool.not_false, and_self, Nat.le_refl] <;> rfl) ?_
  refine awp_seq ?_
  -- region 1
  refine awp_region rfl ?_
  refine aops_fn rfl rfl rfl en9 (c9 Γ hΓ) ?_
  refine aops_run 1 (by simp only [fw0, fw1, fw2, fw3, fw4, fw5, fw6, fw7, ↓reduceIte, Nat.reduceAdd, Nat.reduceMul, Nat.reduceEqDiff, Nat.reduceLT, Nat.reduceLeDiff, reduceCtorEq, Bool.false_eq_true, Bool.not_true, Bool.not_false, and_self, Nat.le_refl] <;> rfl) ?_
  refine awp_seq ?_
  refine awp_seq ?_
  -- region 2
  refine awp_run rfl (by simp only [fw0, fw1, fw2, fw3, fw4, fw5, fw6, fw7, ↓reduceIte, Nat.reduceAdd, Nat.reduceMul, Nat.reduceEqDiff, Nat.reduceLT, Nat.reduceLeDiff, reduceCtorEq, Bool.false_eq_true, Bool.not_true, Bool.not_false, and_self, Nat.le_refl] <;> rfl) ?_
  refine awp_cond (b := false) rfl ?_
  refine awp_skip ?_
  refine awp_seq ?_
  -- region 4
  refine awp_region rfl ?_
  refine aops_run 2 (by simp only [fw0, fw1, fw2, fw3, fw4, fw5, fw6, fw7, ↓reduceIte, Nat.reduceAdd, Nat.reduceMul, Nat.reduceEqDiff, Nat.reduceLT, Nat.reduceLeDiff, reduceCtorEq, Bool.false_eq_true, Bool.not_true, Bool.not_false, and_self, Nat.le_refl] <;> rfl) ?_
  refine aops_fn rfl rfl rfl en10 (h10) ?_
  refine aops_run 6 (by simp only [fw0, fw1, fw2, fw3, fw4, fw5, fw6, fw7, ↓reduceIte, Nat.reduceAdd, Nat.reduceMul, Nat.reduceEqDiff, Nat.reduceLT, Nat.reduceLeDiff, reduceCtorEq, Bool.false_eq_true, Bool.not_true, Bool.not_false, and_self, Nat.le_refl, ti27, Val.fw] <;> rfl) ?_
  refine awp_seq ?_
  -- region 5
  refine awp_region rfl ?_
  refine aops_run 1 (by simp only [fw0, fw1, fw2, fw3, fw4, fw5, fw6, fw7, ↓reduceIte, Nat.reduceAdd, Nat.reduceMul, Nat.reduceEqDiff, Nat.reduceLT, Nat.reduceLeDiff, reduceCtorEq, Bool.false_eq_true, Bool.not_true, Bool.not_false, and_self, Nat.le_refl] <;> rfl) ?_
  refine aops_fn rfl rfl rfl en12 (h12) ?_
  refine aops_run 1 (by simp only [fw0, fw1, fw2, fw3, fw4, fw5, fw6, fw7, ↓reduceIte, Nat.reduceAdd, Nat.reduceMul, Nat.reduceEqDiff, Nat.reduceLT, Nat.reduceLeDiff, reduceCtorEq, Bool.false_eq_true, Bool.not_true, Bool.not_false, and_self, Nat.le_refl] <;> rfl) ?_
  refine aops_fn rfl rfl rfl en11 (h11) ?_
  refine aops_run 6 (by simp only [fw0, fw1, fw2, fw3, fw4, fw5, fw6, fw7, ↓reduceIte, Nat.reduceAdd, Nat.reduceMul, Nat.reduceEqDiff, Nat.reduceLT, Nat.reduceLeDiff, reduceCtorEq, Bool.false_eq_true, Bool.not_true, Bool.not_false, and_self, Nat.le_refl, ti37, Val.fw] <;> rfl) ?_
  refine awp_seq ?_
  -- region 6
  refine awp_region rfl ?_
  refine aops_run 2 (by simp only [fw0, fw1, fw2, fw3, fw4, fw5, fw6, fw7, ↓reduceIte, Nat.reduceAdd, Nat.reduceMul, Nat.reduceEqDiff, Nat.reduceLT, Nat.reduceLeDiff, reduceCtorEq, Bool.false_eq_true, Bool.not_true, Bool.not_false, and_self, Nat.le_refl] <;> rfl) ?_
  refine aops_fn rfl rfl rfl en13 (h13) ?_
  refine aops_run 5 (by simp only [fw0, fw1, fw2, fw3, fw4, fw5, fw6, fw7, ↓reduceIte, Nat.reduceAdd, Nat.reduceMul, Nat.reduceEqDiff, Nat.reduceLT, Nat.reduceLeDiff, reduceCtorEq, Bool.false_eq_true, Bool.not_true, Bool.not_false, and_self, Nat.le_refl] <;> rfl) ?_
  refine awp_seq ?_
  -- region 7
  refine awp_region rfl ?_
  refine aops_run 1 (by simp only [fw0, fw1, fw2, fw3, fw4, fw5, fw6, fw7, ↓reduceIte, Nat.reduceAdd, Nat.reduceMul, Nat.reduceEqDiff, Nat.reduceLT, Nat.reduceLeDiff, reduceCtorEq, Bool.false_eq_true, Bool.not_true, Bool.not_false, and_self, Nat.le_refl] <;> rfl) ?_
  refine aops_fn rfl rfl rfl en15 (h15) ?_
  refine aops_run 1 (by simp only [fw0, fw1, fw2, fw3, fw4, fw5, fw6, fw7, ↓reduceIte, Nat.reduceAdd, Nat.reduceMul, Nat.reduceEqDiff, Nat.reduceLT, Nat.reduceLeDiff, reduceCtorEq, Bool.false_eq_true, Bool.not_true, Bool.not_false, and_self, Nat.le_refl] <;> rfl) ?_
  refine aops_fn rfl rfl rfl en14 (h14) ?_
  refine aops_run 5 (by simp only [fw0, fw1, fw2, fw3, fw4, fw5, fw6, fw7, ↓reduceIte, Nat.reduceAdd, Nat.reduceMul, Nat.reduceEqDiff, Nat.reduceLT, Nat.reduceLeDiff, reduceCtorEq, Bool.false_eq_true, Bool.not_true, Bool.not_false, and_self, Nat.le_refl] <;> rfl) ?_
  refine awp_seq ?_
  -- region 8
  refine awp_region rfl ?_
  refine aops_run 3 (by simp only [fw0, fw1, fw2, fw3, fw4, fw5, fw6, fw7, ↓reduceIte, Nat.reduceAdd, Nat.reduceMul, Nat.reduceEqDiff, Nat.reduceLT, Nat.reduceLeDiff, reduceCtorEq, Bool.false_eq_true, Bool.not_true, Bool.not_false, and_self, Nat.le_refl] <;> rfl) ?_
  refine aops_fn rfl rfl rfl en16 (h16) ?_
  refine aops_run 5 (by simp only [fw0, fw1, fw2, fw3, fw4, fw5, fw6, fw7, ↓reduceIte, Nat.reduceAdd, Nat.reduceMul, Nat.reduceEqDiff, Nat.reduceLT, Nat.reduceLeDiff, reduceCtorEq, Bool.false_eq_true, Bool.not_true, Bool.not_false, and_self, Nat.le_refl] <;> rfl) ?_
  refine awp_seq ?_
  -- region 9
  refine awp_region rfl ?_
  refine aops_run 1 (by simp only [fw0, fw1, fw2, fw3, fw4, fw5, fw6, fw7, ↓reduceIte, Nat.reduceAdd, Nat.reduceMul, Nat.reduceEqDiff, Nat.reduceLT, Nat.reduceLeDiff, reduceCtorEq, Bool.false_eq_true, Bool.not_true, Bool.not_false, and_self, Nat.le_refl] <;> rfl) ?_
  refine aops_fn rfl rfl rfl en15 (h15) ?_
  refine aops_run 2 (by simp only [fw0, fw1, fw2, fw3, fw4, fw5, fw6, fw7, ↓reduceIte, Nat.reduceAdd, Nat.reduceMul, Nat.reduceEqDiff, Nat.reduceLT, Nat.reduceLeDiff, reduceCtorEq, Bool.false_eq_true, Bool.not_true, Bool.not_false, and_self, Nat.le_refl] <;> rfl) ?_
  refine aops_fn rfl rfl rfl en17 (h17) ?_
  refine aops_run 5 (by simp only [fw0, fw1, fw2, fw3, fw4, fw5, fw6, fw7, ↓reduceIte, Nat.reduceAdd, Nat.reduceMul, Nat.reduceEqDiff, Nat.reduceLT, Nat.reduceLeDiff, reduceCtorEq, Bool.false_eq_true, Bool.not_true, Bool.not_false, and_self, Nat.le_refl] <;> rfl) ?_
  refine awp_seq ?_
  -- region 10
  refine awp_region rfl ?_
  refine aops_run 3 (by simp only [fw0, fw1, fw2, fw3, fw4, fw5, fw6, fw7, ↓reduceIte, Nat.reduceAdd, Nat.reduceMul, Nat.reduceEqDiff, Nat.reduceLT, Nat.reduceLeDiff, reduceCtorEq, Bool.false_eq_true, Bool.not_true, Bool.not_false, and_self, Nat.le_refl] <;> rfl) ?_
  refine aops_fn rfl rfl rfl en18 (h18) ?_
  refine aops_run 5 (by simp only [fw0, fw1, fw2, fw3, fw4, fw5, fw6, fw7, ↓reduceIte, Nat.reduceAdd, Nat.reduceMul, Nat.reduceEqDiff, Nat.reduceLT, Nat.reduceLeDiff, reduceCtorEq, Bool.false_eq_true, Bool.not_true, Bool.not_false, and_self, Nat.le_refl] <;> rfl) ?_
  refine awp_seq ?_
  -- region 11
  refine awp_region rfl ?_
  refine aops_run 3 (by simp only [fw0, fw1, fw2, fw3, fw4, fw5, fw6, fw7, ↓reduceIte, Nat.reduceAdd, Nat.reduceMul, Nat.reduceEqDiff, Nat.reduceLT, Nat.reduceLeDiff, reduceCtorEq, Bool.false_eq_true, Bool.not_true, Bool.not_false, and_self, Nat.le_refl] <;> rfl) ?_
  refine aops_fn rfl rfl rfl en19 (h19) ?_
  refine aops_run 5 (by simp only [fw0, fw1, fw2, fw3, fw4, fw5, fw6, fw7, ↓reduceIte, Nat.reduceAdd, Nat.reduceMul, Nat.reduceEqDiff, Nat.reduceLT, Nat.reduceLeDiff, reduceCtorEq, Bool.false_eq_true, Bool.not_true, Bool.not_false, and_self, Nat.le_refl] <;> rfl) ?_
  refine awp_seq ?_
  refine awp_seq ?_
  -- region 12 drawn
  refine awp_drawn [1, 0, 1, 0, 0, 0, 0, 0, 0, 0, 0, 0, 0, 0, 0, 0, 0, 0, 0, 0, 0, 0, 0, 0, 0, 0, 0, 0, 0, 0, 0, 0, 0, 0, 0, 0, 0, 0, 0, 0, 0] [0, 1, 0, 7, 15, 31, 63, 63, 255, 511, 1023, 2047, 2047, 8191, 16383, 32767, 65535, 65535, 262143, 524287, 1048575, 2097151, 2097151, 8388607, 16777215, 33554431, 67108863, 134217727, 134217727, 536870911, 1073741823, 2147483647, 4294967295, 4294967295, 17179869183, 34359738367, 68719476735, 137438953471, 137438953471, 549755813887, 1099511627775] mixed (by kernel_rfl) (by kernel_rfl) ?_
  refine dops_run 1 (by simp only [fw0, fw1, fw2, fw3, fw4, fw5, fw6, fw7, ↓reduceIte, Nat.reduceAdd, Nat.reduceMul, Nat.reduceEqDiff, Nat.reduceLT, Nat.reduceLeDiff, reduceCtorEq, Bool.false_eq_true, Bool.not_true, Bool.not_false, and_self, Nat.le_refl, ti27, Val.fw] <;> rfl) ?_
  refine dops_fn rfl rfl rfl rfl en21 (h21 x hx) ?_
  refine dops_run 1 (by simp only [fw0, fw1, fw2, fw3, fw4, fw5, fw6, fw7, ↓reduceIte, Nat.reduceAdd, Nat.reduceMul, Nat.reduceEqDiff, Nat.reduceLT, Nat.reduceLeDiff, reduceCtorEq, Bool.false_eq_true, Bool.not_true, Bool.not_false, and_self, Nat.le_refl, ti37, Val.fw] <;> rfl) ?_
  refine dops_fn rfl rfl rfl rfl en20 (hs x) ?_
  refine dops_run 19 (by simp only [fw0, fw1, fw2, fw3, fw4, fw5, fw6, fw7, ↓reduceIte, Nat.reduceAdd, Nat.reduceMul, Nat.reduceEqDiff, Nat.reduceLT, Nat.reduceLeDiff, reduceCtorEq, Bool.false_eq_true, Bool.not_true, Bool.not_false, and_self, Nat.le_refl, un4, beq_self_eq_true, decide_true] <;> rfl) ?_
  refine dops_fn rfl rfl rfl rfl en22 (h22) ?_
  refine dops_run 17 (by simp only [fw0, fw1, fw2, fw3, fw4, fw5, fw6, fw7, ↓reduceIte, Nat.reduceAdd, Nat.reduceMul, Nat.reduceEqDiff, Nat.reduceLT, Nat.reduceLeDiff, reduceCtorEq, Bool.false_eq_true, Bool.not_true, Bool.not_false, and_self, Nat.le_refl, un4, beq_self_eq_true, decide_true] <;> rfl) ?_
  refine dops_end ?_
  refine awp_cond (b := false) rfl ?_
  refine awp_skip ?_
  refine awp_seq ?_
  -- region 14
  refine awp_region rfl ?_
  refine aops_run 3 (by simp only [fw0, fw1, fw2, fw3, fw4, fw5, fw6, fw7, ↓reduceIte, Nat.reduceAdd, Nat.reduceMul, Nat.reduceEqDiff, Nat.reduceLT, Nat.reduceLeDiff, reduceCtorEq, Bool.false_eq_true, Bool.not_true, Bool.not_false, and_self, Nat.le_refl, ti27, Val.fw] <;> rfl) ?_
  refine aops_fn rfl rfl rfl en23 (h23) ?_
  refine aops_fn rfl rfl rfl en12 (h12b) ?_
  refine aops_run 1 (by simp only [fw0, fw1, fw2, fw3, fw4, fw5, fw6, fw7, ↓reduceIte, Nat.reduceAdd, Nat.reduceMul, Nat.reduceEqDiff, Nat.reduceLT, Nat.reduceLeDiff, reduceCtorEq, Bool.false_eq_true, Bool.not_true, Bool.not_false, and_self, Nat.le_refl] <;> rfl) ?_
  refine awp_seq ?_
  -- region 15 drawn
  refine awp_drawn [0, 0, 0, 1, 0, 0, 0] [0, 1, 0, 0, 11, 31, 63] mixed (by kernel_rfl) (by kernel_rfl) ?_
  refine dops_run 1 (by simp only [fw0, fw1, fw2, fw3, fw4, fw5, fw6, fw7, ↓reduceIte, Nat.reduceAdd, Nat.reduceMul, Nat.reduceEqDiff, Nat.reduceLT, Nat.reduceLeDiff, reduceCtorEq, Bool.false_eq_true, Bool.not_true, Bool.not_false, and_self, Nat.le_refl] <;> rfl) ?_
  refine dops_fn rfl rfl rfl rfl en12 (h12) ?_
  refine dops_run 2 (by simp only [fw0, fw1, fw2, fw3, fw4, fw5, fw6, fw7, ↓reduceIte, Nat.reduceAdd, Nat.reduceMul, Nat.reduceEqDiff, Nat.reduceLT, Nat.reduceLeDiff, reduceCtorEq, Bool.false_eq_true, Bool.not_true, Bool.not_false, and_self, Nat.le_refl, ti27, Val.fw] <;> rfl) ?_
  refine dops_fn rfl rfl rfl rfl en21 (h21 v hv) ?_
  refine dops_fn rfl rfl rfl rfl en24 (h24) ?_
  refine dops_run 1 (by simp only [fw0, fw1, fw2, fw3, fw4, fw5, fw6, fw7, ↓reduceIte, Nat.reduceAdd, Nat.reduceMul, Nat.reduceEqDiff, Nat.reduceLT, Nat.reduceLeDiff, reduceCtorEq, Bool.false_eq_true, Bool.not_true, Bool.not_false, and_self, Nat.le_refl] <;> rfl) ?_
  refine dops_end ?_
  refine awp_vlen 34 rfl fun hlen => ?_
  rw [List.length_map] at hlen
  refine awp_seq ?_
  refine awp_seq ?_
  -- region 16
  refine awp_run rfl (by simp only [fw0, fw1, fw2, fw3, fw4, fw5, fw6, fw7, ↓reduceIte, Nat.reduceAdd, Nat.reduceMul, Nat.reduceEqDiff, Nat.reduceLT, Nat.reduceLeDiff, reduceCtorEq, Bool.false_eq_true, Bool.not_true, Bool.not_false, and_self, Nat.le_refl, un35, List.length_map, decide_true] <;> rfl) ?_
  refine awp_cond (b := false) rfl ?_
  refine awp_skip ?_
  refine awp_seq ?_
  refine awp_seq ?_
  -- region 18
  refine awp_run rfl (by simp only [fw0, fw1, fw2, fw3, fw4, fw5, fw6, fw7, ↓reduceIte, Nat.reduceAdd, Nat.reduceMul, Nat.reduceEqDiff, Nat.reduceLT, Nat.reduceLeDiff, reduceCtorEq, Bool.false_eq_true, Bool.not_true, Bool.not_false, and_self, Nat.le_refl] <;> rfl) ?_
  refine awp_block ?_
  refine awp_for [6, 8, 9, 17, 34, 35, 36] (fun i : Nat => [.int .i64 a, .ptr H.length 0, .ptr (H.length + 1) 0, .bool true, .vec (lb.map Bd.enc) false, .vec (lb.map Bd.enc) false, .int .i64 i]) (fun _ => H ++ [.box v.enc, .box w.enc, .box x.enc, .box x.enc]) (fun i => lb.length - i) (fun i => i ≤ lb.length) 0 rfl (by simp) (Nat.zero_le _) fun i hi => ?_
  refine awp_seq ?_
  refine awp_seq ?_
  -- region 19
  refine awp_run rfl (by simp only [fw0, fw1, fw2, fw3, fw4, fw5, fw6, fw7, ↓reduceIte, Nat.reduceAdd, Nat.reduceMul, Nat.reduceEqDiff, Nat.reduceLT, Nat.reduceLeDiff, reduceCtorEq, Bool.false_eq_true, Bool.not_true, Bool.not_false, and_self, Nat.le_refl, un35, List.length_map] <;> rfl) ?_
  refine awp_cond (by simp only [fw0, fw1, fw2, fw3, fw4, fw5, fw6, fw7, ↓reduceIte, Nat.reduceAdd, Nat.reduceMul, Nat.reduceEqDiff, Nat.reduceLT, Nat.reduceLeDiff, reduceCtorEq, Bool.false_eq_true, Bool.not_true, Bool.not_false, and_self, Nat.le_refl] <;> rfl) ?_
  by_cases hc : (i : Int) < lb.length
  rotate_left
  · simp only [hc, decide_false, Bool.false_eq_true, ↓reduceIte]
    refine awp_exit ?_
    simp only [Post.block, Post.then, ↓reduceIte]
    refine awp_seq ?_
    -- region 23 drawn
    refine awp_drawn [0, 0, 1, 0, 1, 0, 0, 0, 0, 0, 1, 1, 0, 1, 0, 1, 0, 0, 0, 0, 0, 0, 0, 0, 0, 0, 0, 0, 0] [0, 1, 3, 7, 3, 31, 63, 127, 255, 511, 1023, 1023, 4095, 1023, 16383, 1023, 65535, 131071, 262143, 524287, 1048575, 2097151, 4194303, 8388607, 2097151, 33554431, 67108863, 134217727, 268435455] mixed (by kernel_rfl) (by kernel_rfl) ?_
    refine dops_run 3 (by simp only [fw0, fw1, fw2, fw3, fw4, fw5, fw6, fw7, ↓reduceIte, Nat.reduceAdd, Nat.reduceMul, Nat.reduceEqDiff, Nat.reduceLT, Nat.reduceLeDiff, reduceCtorEq, Bool.false_eq_true, Bool.not_true, Bool.not_false, and_self, Nat.le_refl, ti27, Val.fw] <;> rfl) ?_
    refine dops_fn rfl rfl rfl rfl en25 (h25) ?_
    refine dops_run 1 (by simp only [fw0, fw1, fw2, fw3, fw4, fw5, fw6, fw7, ↓reduceIte, Nat.reduceAdd, Nat.reduceMul, Nat.reduceEqDiff, Nat.reduceLT, Nat.reduceLeDiff, reduceCtorEq, Bool.false_eq_true, Bool.not_true, Bool.not_false, and_self, Nat.le_refl, ti27, Val.fw] <;> rfl) ?_
    refine dops_fn rfl rfl rfl rfl en21 (h21 v hv) ?_
    refine dops_fn rfl rfl rfl rfl en26 (h26) ?_
    refine dops_run 5 (by simp only [fw0, fw1, fw2, fw3, fw4, fw5, fw6, fw7, ↓reduceIte, Nat.reduceAdd, Nat.reduceMul, Nat.reduceEqDiff, Nat.reduceLT, Nat.reduceLeDiff, reduceCtorEq, Bool.false_eq_true, Bool.not_true, Bool.not_false, and_self, Nat.le_refl, ti27, Val.fw, decide_true] <;> rfl) ?_
    refine dops_fn rfl rfl rfl rfl en27 (h27) ?_
    refine dops_run 1 (by simp only [fw0, fw1, fw2, fw3, fw4, fw5, fw6, fw7, ↓reduceIte, Nat.reduceAdd, Nat.reduceMul, Nat.reduceEqDiff, Nat.reduceLT, Nat.reduceLeDiff, reduceCtorEq, Bool.false_eq_true, Bool.not_true, Bool.not_false, and_self, Nat.le_refl, ti27, Val.fw] <;> rfl) ?_
    refine dops_fn rfl rfl rfl rfl en21 (h21 v hv) ?_
    refine dops_run 1 (by simp only [fw0, fw1, fw2, fw3, fw4, fw5, fw6, fw7, ↓reduceIte, Nat.reduceAdd, Nat.reduceMul, Nat.reduceEqDiff, Nat.reduceLT, Nat.reduceLeDiff, reduceCtorEq, Bool.false_eq_true, Bool.not_true, Bool.not_false, and_self, Nat.le_refl, ti27, Val.fw] <;> rfl) ?_
    refine dops_fn rfl rfl rfl rfl en21 (h21 w hw) ?_
    refine dops_fn rfl rfl rfl rfl en20 (h20) ?_
    refine dops_run 4 (by simp only [fw0, fw1, fw2, fw3, fw4, fw5, fw6, fw7, ↓reduceIte, Nat.reduceAdd, Nat.reduceMul, Nat.reduceEqDiff, Nat.reduceLT, Nat.reduceLeDiff, reduceCtorEq, Bool.false_eq_true, Bool.not_true, Bool.not_false, and_self, Nat.le_refl, un4, beq_self_eq_true, decide_true] <;> rfl) ?_
    refine dops_fn rfl rfl rfl rfl en28 (c28 Γ a) ?_
    refine dops_fn rfl rfl rfl rfl en21 (h21 _ ha) ?_
    refine dops_run 1 (by simp only [fw0, fw1, fw2, fw3, fw4, fw5, fw6, fw7, ↓reduceIte, Nat.reduceAdd, Nat.reduceMul, Nat.reduceEqDiff, Nat.reduceLT, Nat.reduceLeDiff, reduceCtorEq, Bool.false_eq_true, Bool.not_true, Bool.not_false, and_self, Nat.le_refl] <;> rfl) ?_
    refine dops_fn rfl rfl rfl rfl en29 (c29 Γ a) ?_
    refine dops_fn rfl rfl rfl rfl en20 (hs _) ?_
    refine dops_run 2 (by simp only [fw0, fw1, fw2, fw3, fw4, fw5, fw6, fw7, ↓reduceIte, Nat.reduceAdd, Nat.reduceMul, Nat.reduceEqDiff, Nat.reduceLT, Nat.reduceLeDiff, reduceCtorEq, Bool.false_eq_true, Bool.not_true, Bool.not_false, and_self, Nat.le_refl] <;> rfl) ?_
    refine dops_end ?_
    refine awp_ret ?_
    exact gives_end (.inl rfl) _ rfl
  simp only [hc, decide_true, ↓reduceIte]
  refine awp_skip ?_
  have hil : i < lb.length := by omega
  have gl : lb[i]? = some lb[i] := List.getElem?_eq_getElem hil
  refine awp_seq ?_
  refine awp_block ?_
  refine awp_seq ?_
  -- region 21 drawn
  refine awp_drawn [0, 0, 0, 0, 1, 0, 0, 0, 0, 1, 0, 0, 0, 0, 0, 0, 1, 0, 0, 0, 0, 1, 0, 0, 0] [0, 0, 3, 7, 15, 0, 0, 96, 224, 480, 1023, 2047, 4095, 4095, 16383, 32767, 65535, 4095, 4095, 397311, 921599, 1970175, 4194303, 8388607, 16777215] mixed (by kernel_rfl) (by kernel_rfl) ?_
  refine dops_run 11 (by simp only [fw0, fw1, fw2, fw3, fw4, fw5, fw6, fw7, ↓reduceIte, Nat.reduceAdd, Nat.reduceMul, Nat.reduceEqDiff, Nat.reduceLT, Nat.reduceLeDiff, reduceCtorEq, Bool.false_eq_true, Bool.not_true, Bool.not_false, and_self, Nat.le_refl, el35, fl57_0, ti9, fl57_1, ti37, Bd.fw, Val.fw, List.getElem?_map, gl, Option.map_some, Int.natCast_nonneg, decide_true] <;> rfl) ?_
  refine dops_run 11 (by simp only [fw0, fw1, fw2, fw3, fw4, fw5, fw6, fw7, ↓reduceIte, Nat.reduceAdd, Nat.reduceMul, Nat.reduceEqDiff, Nat.reduceLT, Nat.reduceLeDiff, reduceCtorEq, Bool.false_eq_true, Bool.not_true, Bool.not_false, and_self, Nat.le_refl, el35, fl57_0, ti9, fl57_1, ti37, Bd.fw, Val.fw, List.getElem?_map, gl, Option.map_some, Int.natCast_nonneg, decide_true] <;> rfl) ?_
  refine dops_fn rfl rfl rfl rfl en20 (hs _) ?_
  refine dops_run 2 (by simp only [fw0, fw1, fw2, fw3, fw4, fw5, fw6, fw7, ↓reduceIte, Nat.reduceAdd, Nat.reduceMul, Nat.reduceEqDiff, Nat.reduceLT, Nat.reduceLeDiff, reduceCtorEq, Bool.false_eq_true, Bool.not_true, Bool.not_false, and_self, Nat.le_refl] <;> rfl) ?_
  refine dops_end ?_
  refine awp_cond (b := false) rfl ?_
  refine awp_skip ?_
  -- region 20
  refine awp_run rfl (by simp only [fw0, fw1, fw2, fw3, fw4, fw5, fw6, fw7, ↓reduceIte, Nat.reduceAdd, Nat.reduceMul, Nat.reduceEqDiff, Nat.reduceLT, Nat.reduceLeDiff, reduceCtorEq, Bool.false_eq_true, Bool.not_true, Bool.not_false, and_self, Nat.le_refl] <;> rfl) ?_
  exact ⟨i + 1, by omega, by omega, by simp only [fw0, fw1, fw2, fw3, fw4, fw5, fw6, fw7, ↓reduceIte, Nat.reduceAdd, Nat.reduceMul, Nat.reduceEqDiff, Nat.reduceLT, Nat.reduceLeDiff, reduceCtorEq, Bool.false_eq_true, Bool.not_true, Bool.not_false, and_self, Nat.le_refl, List.map_cons, List.map_nil]; rw [wrapS i (by omega)], rfl, rfl⟩

theorem zeroV_ok : zeroV.Ok := .mk _ (Nat.zero_le _) (.mk _ (Nat.zero_le _) (Nat.zero_le _) (fun k h => by cases h)) (Nat.zero_le _) (fun b h => by cases h)
theorem wholeV_ok (a : Int) : (wholeV a).Ok := .mk _ (Nat.zero_le _) (.mk _ (Nat.zero_le _) (Nat.zero_le _) (fun k h => by cases h)) (Nat.zero_le _) (fun b h => by cases h)
theorem lookV_ok {l : List Bd} (h : ∀ b ∈ l, b.Ok) (nm : List UInt8) : ((lookV l nm).getD zeroV).Ok := by
  unfold lookV
  cases hf : l.reverse.find? fun b => decide (b.name = nm) with
  | none => exact zeroV_ok
  | some b =>
    have := List.mem_of_find?_eq_some hf
    cases h b (by simpa using this)
    assumption

/-- chancellaw18.StoreTells -/
theorem c3 (Γ : Nat → PV) (hΓ : Tab Γ) (v w : Val) (l : List Bd) (sl : List Sl) (nm op : List UInt8) (a b : Int) (hv : v.Ok) (hw : w.Ok) (hl : l.length * 128 ≤ reachBytes) (hlo : ∀ b ∈ l, b.Ok) (hsl : sl.length * 24 ≤ reachBytes) (hnm : nm.length ≤ reachBytes) (hvn : I64 v.n) :
    Gives Tryd.prog Γ 3 [.agg v.enc, .agg w.enc, .vec (l.map Bd.enc) false, .vec (sl.map Sl.enc) false, .str nm, .str op, .int .i64 a, .int .i64 b] (.bool true) := by
  have hl' : l.length * 128 ≤ 140737488355328 := by unfold reachBytes at hl; omega
  have hvs : v.name.length ≤ reachBytes := by cases hv; assumption
  have hs : ∀ v : Val, Gives Tryd.prog Γ 20 [.agg v.enc, .agg v.enc] (.bool true) := fun v => by
    have := c20 Γ v v
    rwa [decide_eq_true rfl] at this
  have h22 := c22 Γ ((writeV sl nm a).getD sl) ((writeV sl nm a).getD sl) (by rw [wr_len]; exact hsl)
  rw [decide_eq_true rfl] at h22
  exact c3a Γ hΓ v w _ l (l ++ [.mk nm v]) sl _ nm op _ a b _ _ _ _ _ _ _ (lookV_ok hlo nm) hv hw (wholeV_ok a) (c10 Γ l nm) (c12 Γ l hl' hlo) (c11 Γ l nm) (c13 Γ sl nm) (c15 Γ sl hsl) (c14 Γ sl nm) (c16 Γ sl nm a hsl) (c17 Γ sl nm a hsl) (c18 Γ op a b) (c19 Γ op a b)
    (fun v h => c21 Γ v h) hs h22 (c23 Γ l nm v hl) (c12 Γ _ (by rw [List.length_append]; unfold reachBytes at hl; show (l.length + 1) * 128 ≤ _; omega) (fun b hb => by
      rcases List.mem_append.1 hb with hb | hb
      · exact hlo b hb
      · simp only [List.mem_singleton] at hb
        subst hb
        exact .mk _ hnm hv)) (c24 Γ l nm v hl) (c25 Γ hΓ v hvn hvs) (c26 Γ v hvn hvs) (c27 Γ v w) (c20 Γ v w)

end Go.Proofs.YtinedfjknhahmaaDoor
