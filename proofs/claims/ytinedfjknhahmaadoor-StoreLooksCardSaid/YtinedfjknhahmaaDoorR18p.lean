/- The law of what is the same. -/
import Derived.Test.YtinedfjknhahmaaDoorR18o
namespace Go.Proofs.YtinedfjknhahmaaDoor
set_option linter.unusedVariables false
set_option linter.unusedSimpArgs false
open Go.RowKit Fw

set_option maxRecDepth 100000 in
theorem c8a (Γ : Nat → PV) (hΓ : Tab Γ) (v w : Val) (a b : Int) (s be : Bool) (tv tw ta tb : List UInt8)
    (g1 : Gives Tryd.prog Γ 27 [.agg v.enc, .agg w.enc] (.bool s)) (g2 : Gives Tryd.prog Γ 27 [.agg v.enc, .agg v.enc] (.bool true)) (g3 : Gives Tryd.prog Γ 27 [.agg w.enc, .agg v.enc] (.bool s))
    (g4 : Gives Tryd.prog Γ 25 [.agg v.enc] (.str tv)) (g5 : Gives Tryd.prog Γ 25 [.agg w.enc] (.str tw)) (g6 : Gives Tryd.prog Γ 25 [.agg (wholeV a).enc] (.str ta)) (g7 : Gives Tryd.prog Γ 25 [.agg (wholeV b).enc] (.str tb))
    (g8 : Gives Tryd.prog Γ 27 [.agg (wholeV a).enc, .agg (wholeV b).enc] (.bool be)) (hst : s = true → tv = tw) (hab1 : decide (ta = tb) = be) (hab2 : decide (a = b) = be) :
    Gives Tryd.prog Γ 8 [.agg v.enc, .agg w.enc, .int .i64 a, .int .i64 b] (.bool true) := by
  refine fn_of_awp Tryd.func8 rfl (by simp [Tryd.f8]) rfl fun H => ?_
  refine awp_seq ?_
  -- region 0
  refine awp_run rfl (by simp only [fw0, fw1, fw2, fw3, fw4, fw5, fw6, fw7, ↓reduceIte, Nat.reduceAdd, Nat.reduceMul, Nat.reduceEqDiff, Nat.reduceLT, Nat.reduceLeDiff, reduceCtorEq, Bool.false_eq_true, Bool.not_true, Bool.not_false, and_self, Nat.le_refl] <;> rfl) ?_
  refine awp_seq ?_
  -- region 1
  refine awp_region rfl ?_
  refine aops_fn rfl rfl rfl en9 (c9 Γ hΓ) ?_
  refine aops_run 1 (by simp only [fw0, fw1, fw2, fw3, fw4, fw5, fw6, fw7, ↓reduceIte, Nat.reduceAdd, Nat.reduceMul, Nat.reduceEqDiff, Nat.reduceLT, Nat.reduceLeDiff, reduceCtorEq, Bool.false_eq_true, Bool.not_true, Bool.not_false, and_self, Nat.le_refl] <;> rfl) ?_
  refine awp_seq ?_
  refine awp_seq ?_
  -- region 2
  refine awp_run rfl (by simp only [fw0, fw1, fw2, fw3, fw4, fw5, fw6, fw7, ↓reduceIte, Nat.reduceAdd, Nat.reduceMul, Nat.reduceEqDiff, Nat.reduceLT, Nat.reduceLeDiff, reduceCtorEq, Bool.false_eq_true, Bool.not_true, Bool.not_false, and_self, Nat.le_refl] <;> rfl) ?_
  refine awp_cond (b := false) rfl ?_
  refine awp_skip ?_
  refine awp_seq ?_
  -- region 4
  refine awp_region rfl ?_
  refine aops_run 2 (by simp only [fw0, fw1, fw2, fw3, fw4, fw5, fw6, fw7, ↓reduceIte, Nat.reduceAdd, Nat.reduceMul, Nat.reduceEqDiff, Nat.reduceLT, Nat.reduceLeDiff, reduceCtorEq, Bool.false_eq_true, Bool.not_true, Bool.not_false, and_self, Nat.le_refl, ti27, Val.fw] <;> rfl) ?_
  refine aops_fn rfl rfl rfl en27 (g1) ?_
  refine aops_run 1 (by simp only [fw0, fw1, fw2, fw3, fw4, fw5, fw6, fw7, ↓reduceIte, Nat.reduceAdd, Nat.reduceMul, Nat.reduceEqDiff, Nat.reduceLT, Nat.reduceLeDiff, reduceCtorEq, Bool.false_eq_true, Bool.not_true, Bool.not_false, and_self, Nat.le_refl] <;> rfl) ?_
  refine awp_seq ?_
  cases s with
  | true =>
    -- region 5 drawn
    refine awp_drawn [0, 0, 1, 1, 0, 0, 0, 0, 1, 1, 0, 0, 0, 0, 0, 0, 0, 1, 0, 1, 0, 0, 0, 0, 0, 0, 0, 0, 0, 0, 0, 0, 0, 0, 0, 0, 0, 0, 0, 0, 0, 0, 0, 0, 0, 0, 0, 0, 0] [0, 1, 3, 3, 15, 31, 63, 127, 127, 127, 895, 2047, 4095, 8191, 16383, 32767, 65535, 131071, 262143, 131071, 1048575, 2097151, 4194303, 8388607, 16777215, 33554431, 67108863, 134217727, 33554431, 536870911, 1073741823, 2147483647, 33554431, 33554431, 12918456319, 34359738367, 68719476735, 137438953471, 274877906943, 549755813887, 274877906943, 2199023255551, 4398046511103, 274877906943, 274877906943, 26663156973567, 70368744177663, 140737488355327, 281474976710655] mixed (by kernel_rfl) (by kernel_rfl) ?_
    refine dops_run 4 (by simp only [fw0, fw1, fw2, fw3, fw4, fw5, fw6, fw7, ↓reduceIte, Nat.reduceAdd, Nat.reduceMul, Nat.reduceEqDiff, Nat.reduceLT, Nat.reduceLeDiff, reduceCtorEq, Bool.false_eq_true, Bool.not_true, Bool.not_false, and_self, Nat.le_refl, ti27, Val.fw] <;> rfl) ?_
    refine dops_fn rfl rfl rfl rfl en27 (g2) ?_
    refine dops_run 5 (by simp only [fw0, fw1, fw2, fw3, fw4, fw5, fw6, fw7, ↓reduceIte, Nat.reduceAdd, Nat.reduceMul, Nat.reduceEqDiff, Nat.reduceLT, Nat.reduceLeDiff, reduceCtorEq, Bool.false_eq_true, Bool.not_true, Bool.not_false, and_self, Nat.le_refl, ti27, Val.fw] <;> rfl) ?_
    refine dops_fn rfl rfl rfl rfl en27 (g3) ?_
    refine dops_run 7 (by simp only [fw0, fw1, fw2, fw3, fw4, fw5, fw6, fw7, ↓reduceIte, Nat.reduceAdd, Nat.reduceMul, Nat.reduceEqDiff, Nat.reduceLT, Nat.reduceLeDiff, reduceCtorEq, Bool.false_eq_true, Bool.not_true, Bool.not_false, and_self, Nat.le_refl, un4, ti27, Val.fw, hab1, hab2, beq_self_eq_true] <;> rfl) ?_
    refine dops_fn rfl rfl rfl rfl en25 (g4) ?_
    refine dops_run 1 (by simp only [fw0, fw1, fw2, fw3, fw4, fw5, fw6, fw7, ↓reduceIte, Nat.reduceAdd, Nat.reduceMul, Nat.reduceEqDiff, Nat.reduceLT, Nat.reduceLeDiff, reduceCtorEq, Bool.false_eq_true, Bool.not_true, Bool.not_false, and_self, Nat.le_refl, ti27, Val.fw] <;> rfl) ?_
    refine dops_fn rfl rfl rfl rfl en25 (g5) ?_
    refine dops_run 5 (by simp only [fw0, fw1, fw2, fw3, fw4, fw5, fw6, fw7, ↓reduceIte, Nat.reduceAdd, Nat.reduceMul, Nat.reduceEqDiff, Nat.reduceLT, Nat.reduceLeDiff, reduceCtorEq, Bool.false_eq_true, Bool.not_true, Bool.not_false, and_self, Nat.le_refl, hst rfl, decide_true] <;> rfl) ?_
    refine dops_fn rfl rfl rfl rfl en28 (c28 Γ a) ?_
    refine dops_fn rfl rfl rfl rfl en25 (g6) ?_
    refine dops_run 1 (by simp only [fw0, fw1, fw2, fw3, fw4, fw5, fw6, fw7, ↓reduceIte, Nat.reduceAdd, Nat.reduceMul, Nat.reduceEqDiff, Nat.reduceLT, Nat.reduceLeDiff, reduceCtorEq, Bool.false_eq_true, Bool.not_true, Bool.not_false, and_self, Nat.le_refl] <;> rfl) ?_
    refine dops_fn rfl rfl rfl rfl en28 (c28 Γ b) ?_
    refine dops_fn rfl rfl rfl rfl en25 (g7) ?_
    refine dops_run 8 (by simp only [fw0, fw1, fw2, fw3, fw4, fw5, fw6, fw7, ↓reduceIte, Nat.reduceAdd, Nat.reduceMul, Nat.reduceEqDiff, Nat.reduceLT, Nat.reduceLeDiff, reduceCtorEq, Bool.false_eq_true, Bool.not_true, Bool.not_false, and_self, Nat.le_refl, un4, hab1, hab2, beq_self_eq_true] <;> rfl) ?_
    refine dops_fn rfl rfl rfl rfl en28 (c28 Γ a) ?_
    refine dops_run 1 (by simp only [fw0, fw1, fw2, fw3, fw4, fw5, fw6, fw7, ↓reduceIte, Nat.reduceAdd, Nat.reduceMul, Nat.reduceEqDiff, Nat.reduceLT, Nat.reduceLeDiff, reduceCtorEq, Bool.false_eq_true, Bool.not_true, Bool.not_false, and_self, Nat.le_refl] <;> rfl) ?_
    refine dops_fn rfl rfl rfl rfl en28 (c28 Γ b) ?_
    refine dops_fn rfl rfl rfl rfl en27 (g8) ?_
    refine dops_run 6 (by simp only [fw0, fw1, fw2, fw3, fw4, fw5, fw6, fw7, ↓reduceIte, Nat.reduceAdd, Nat.reduceMul, Nat.reduceEqDiff, Nat.reduceLT, Nat.reduceLeDiff, reduceCtorEq, Bool.false_eq_true, Bool.not_true, Bool.not_false, and_self, Nat.le_refl, un4, hab1, hab2, beq_self_eq_true] <;> rfl) ?_
    refine dops_end ?_
    refine awp_ret ?_
    exact gives_end (.inl rfl) _ rfl
  | false =>
    -- region 5 drawn
    refine awp_drawn [0, 0, 1, 1, 0, 0, 0, 0, 1, 1, 0, 0, 0, 0, 0, 0, 0, 1, 0, 1, 0, 0, 0, 0, 0, 0, 0, 0, 0, 0, 0, 0, 0, 0, 0, 0, 0, 0, 0, 0, 0, 0, 0, 0, 0, 0, 0, 0, 0] [0, 1, 3, 3, 15, 31, 63, 127, 127, 127, 895, 2047, 4095, 8191, 16383, 32767, 65535, 131071, 262143, 131071, 1048575, 2097151, 4194303, 8388607, 16777215, 33554431, 67108863, 134217727, 33554431, 536870911, 1073741823, 2147483647, 33554431, 33554431, 12918456319, 34359738367, 68719476735, 137438953471, 274877906943, 549755813887, 274877906943, 2199023255551, 4398046511103, 274877906943, 274877906943, 26663156973567, 70368744177663, 140737488355327, 281474976710655] mixed (by kernel_rfl) (by kernel_rfl) ?_
    refine dops_run 4 (by simp only [fw0, fw1, fw2, fw3, fw4, fw5, fw6, fw7, ↓reduceIte, Nat.reduceAdd, Nat.reduceMul, Nat.reduceEqDiff, Nat.reduceLT, Nat.reduceLeDiff, reduceCtorEq, Bool.false_eq_true, Bool.not_true, Bool.not_false, and_self, Nat.le_refl, ti27, Val.fw] <;> rfl) ?_
    refine dops_fn rfl rfl rfl rfl en27 (g2) ?_
    refine dops_run 5 (by simp only [fw0, fw1, fw2, fw3, fw4, fw5, fw6, fw7, ↓reduceIte, Nat.reduceAdd, Nat.reduceMul, Nat.reduceEqDiff, Nat.reduceLT, Nat.reduceLeDiff, reduceCtorEq, Bool.false_eq_true, Bool.not_true, Bool.not_false, and_self, Nat.le_refl, ti27, Val.fw] <;> rfl) ?_
    refine dops_fn rfl rfl rfl rfl en27 (g3) ?_
    refine dops_run 15 (by simp only [fw0, fw1, fw2, fw3, fw4, fw5, fw6, fw7, ↓reduceIte, Nat.reduceAdd, Nat.reduceMul, Nat.reduceEqDiff, Nat.reduceLT, Nat.reduceLeDiff, reduceCtorEq, Bool.false_eq_true, Bool.not_true, Bool.not_false, and_self, Nat.le_refl, un4, ti27, Val.fw] <;> rfl) ?_
    refine dops_fn rfl rfl rfl rfl en28 (c28 Γ a) ?_
    refine dops_fn rfl rfl rfl rfl en25 (g6) ?_
    refine dops_run 1 (by simp only [fw0, fw1, fw2, fw3, fw4, fw5, fw6, fw7, ↓reduceIte, Nat.reduceAdd, Nat.reduceMul, Nat.reduceEqDiff, Nat.reduceLT, Nat.reduceLeDiff, reduceCtorEq, Bool.false_eq_true, Bool.not_true, Bool.not_false, and_self, Nat.le_refl] <;> rfl) ?_
    refine dops_fn rfl rfl rfl rfl en28 (c28 Γ b) ?_
    refine dops_fn rfl rfl rfl rfl en25 (g7) ?_
    refine dops_run 8 (by simp only [fw0, fw1, fw2, fw3, fw4, fw5, fw6, fw7, ↓reduceIte, Nat.reduceAdd, Nat.reduceMul, Nat.reduceEqDiff, Nat.reduceLT, Nat.reduceLeDiff, reduceCtorEq, Bool.false_eq_true, Bool.not_true, Bool.not_false, and_self, Nat.le_refl, un4, hab1, hab2, beq_self_eq_true] <;> rfl) ?_
    refine dops_fn rfl rfl rfl rfl en28 (c28 Γ a) ?_
    refine dops_run 1 (by simp only [fw0, fw1, fw2, fw3, fw4, fw5, fw6, fw7, ↓reduceIte, Nat.reduceAdd, Nat.reduceMul, Nat.reduceEqDiff, Nat.reduceLT, Nat.reduceLeDiff, reduceCtorEq, Bool.false_eq_true, Bool.not_true, Bool.not_false, and_self, Nat.le_refl] <;> rfl) ?_
    refine dops_fn rfl rfl rfl rfl en28 (c28 Γ b) ?_
    refine dops_fn rfl rfl rfl rfl en27 (g8) ?_
    refine dops_run 6 (by simp only [fw0, fw1, fw2, fw3, fw4, fw5, fw6, fw7, ↓reduceIte, Nat.reduceAdd, Nat.reduceMul, Nat.reduceEqDiff, Nat.reduceLT, Nat.reduceLeDiff, reduceCtorEq, Bool.false_eq_true, Bool.not_true, Bool.not_false, and_self, Nat.le_refl, un4, hab1, hab2, beq_self_eq_true] <;> rfl) ?_
    refine dops_end ?_
    refine awp_ret ?_
    exact gives_end (.inl rfl) _ rfl

/-- chancellaw18.StoreSame -/
theorem c8 (Γ : Nat → PV) (hΓ : Tab Γ) (v w : Val) (a b : Int) (hv : I64 v.n) (hw : I64 w.n) (hvs : v.name.length ≤ reachBytes) (hws : w.name.length ≤ reachBytes) (ha : I64 a) (hb : I64 b) :
    Gives Tryd.prog Γ 8 [.agg v.enc, .agg w.enc, .int .i64 a, .int .i64 b] (.bool true) := by
  have g2 := c27 Γ v v
  rw [decide_eq_true rfl] at g2
  have g3 := c27 Γ w v
  rw [show decide (w = v) = decide (v = w) from decide_eq_decide.2 eq_comm] at g3
  have g8 := c27 Γ (wholeV a) (wholeV b)
  have e8 : decide (wholeV a = wholeV b) = decide (a = b) := decide_eq_decide.2 ⟨fun h => by simpa [wholeV, Val.n] using congrArg Val.n h, fun h => by rw [h]⟩
  rw [e8] at g8
  exact c8a Γ hΓ v w a b _ _ _ _ _ _ (c27 Γ v w) g2 g3 (c25 Γ hΓ v hv hvs) (c25 Γ hΓ w hw hws) (c25 Γ hΓ (wholeV a) ha (Nat.zero_le _)) (c25 Γ hΓ (wholeV b) hb (Nat.zero_le _)) g8
    (fun h => by rw [of_decide_eq_true h]) (decide_eq_decide.2 ⟨fun h => itoa_inj h, fun h => by rw [h]⟩) rfl

end Go.Proofs.YtinedfjknhahmaaDoor
