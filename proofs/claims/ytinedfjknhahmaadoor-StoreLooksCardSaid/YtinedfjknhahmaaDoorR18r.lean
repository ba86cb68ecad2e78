/- The law of what names stand for. -/
import Derived.Test.YtinedfjknhahmaaDoorR18q
namespace Go.Proofs.YtinedfjknhahmaaDoor
set_option linter.unusedVariables false
set_option linter.unusedSimpArgs false
open Go.RowKit Fw

theorem c6a (Γ : Nat → PV) (hΓ : Tab Γ) (l la lb : List Bd) (nm other : List UInt8) (v w p q : Val) (s h : Bool) (hl : l.length * 128 ≤ reachBytes)
    (g1 : Gives Tryd.prog Γ 23 [.vec (l.map Bd.enc) false, .str nm, .agg v.enc] (.vec (la.map Bd.enc) false)) (g2 : Gives Tryd.prog Γ 23 [.vec (l.map Bd.enc) false, .str nm, .agg w.enc] (.vec (lb.map Bd.enc) false))
    (g3 : Gives Tryd.prog Γ 10 [.vec (la.map Bd.enc) false, .str nm] (.tup [.agg v.enc, .bool true])) (g4 : Gives Tryd.prog Γ 10 [.vec (lb.map Bd.enc) false, .str nm] (.tup [.agg w.enc, .bool true]))
    (g5 : Gives Tryd.prog Γ 10 [.vec (l.map Bd.enc) false, .str other] (.tup [.agg p.enc, .bool s])) (g6 : Gives Tryd.prog Γ 10 [.vec (la.map Bd.enc) false, .str other] (.tup [.agg q.enc, .bool h]))
    (hla : la.length = l.length + 1) (hpq : nm = other ∨ (s = h ∧ p = q)) :
    Gives Tryd.prog Γ 6 [.vec (l.map Bd.enc) false, .str nm, .str other, .agg v.enc, .agg w.enc] (.bool true) := by
  have gs : ∀ v : Val, Gives Tryd.prog Γ 27 [.agg v.enc, .agg v.enc] (.bool true) := fun v => by
    have := c27 Γ v v
    rwa [decide_eq_true rfl] at this
  have hw1 : IntKind.i64.wrap ((l.length : Int) + 1) = ((l.length + 1 : Nat) : Int) := wrapS _ (by unfold reachBytes at hl; omega)
  refine fn_of_awp Tryd.func6 rfl (by simp [Tryd.f6]) rfl fun H => ?_
  refine awp_seq ?_
  -- region 0
  refine awp_run rfl (by simp only [fw0, fw1, fw2, fw3, fw4, fw5, fw6, fw7, ↓reduceIte, Nat.reduceAdd, Nat.reduceMul, Nat.reduceEqDiff, Nat.reduceLT, Nat.reduceLeDiff, reduceCtorEq, Bool.false_eq_true, Bool.not_true, Bool.not_false, and_self, Nat.le_refl] <;> rfl) ?_
  refine awp_seq ?_
  -- region 1
  refine awp_region rfl ?_
  refine aops_fn rfl rfl rfl en9 (c9 Γ hΓ) ?_
  refine aops_run 1 (by simp only [fw0, fw1, fw2, fw3, fw4, fw5, fw6, fw7, ↓reduceIte, Nat.reduceAdd, Nat.reduceMul, Nat.reduceEqDiff, Nat.reduceLT, Nat.reduceLeDiff, reduceCtorEq, Bool.false_eq_true, Bool.not_true, Bool.not_false, and_self, Nat.le_refl] <;> rfl) ?_
  refine awp_seq ?_
  refine awp_seq ?_
  -- region 2
  refine awp_run rfl (by simp only [fw0, fw1, fw2, fw3, fw4, fw5, fw6, fw7, ↓reduceIte, Nat.reduceAdd, Nat.reduceMul, Nat.reduceEqDiff, Nat.reduceLT, Nat.reduceLeDiff, reduceCtorEq, Bool.false_eq_true, Bool.not_true, Bool.not_false, and_self, Nat.le_refl] <;> rfl) ?_
  refine awp_cond (b := false) rfl ?_
  refine awp_skip ?_
  refine awp_seq ?_
  -- region 4
  refine awp_region rfl ?_
  refine aops_run 3 (by simp only [fw0, fw1, fw2, fw3, fw4, fw5, fw6, fw7, ↓reduceIte, Nat.reduceAdd, Nat.reduceMul, Nat.reduceEqDiff, Nat.reduceLT, Nat.reduceLeDiff, reduceCtorEq, Bool.false_eq_true, Bool.not_true, Bool.not_false, and_self, Nat.le_refl, ti27, Val.fw] <;> rfl) ?_
  refine aops_fn rfl rfl rfl en23 (g1) ?_
  refine aops_run 1 (by simp only [fw0, fw1, fw2, fw3, fw4, fw5, fw6, fw7, ↓reduceIte, Nat.reduceAdd, Nat.reduceMul, Nat.reduceEqDiff, Nat.reduceLT, Nat.reduceLeDiff, reduceCtorEq, Bool.false_eq_true, Bool.not_true, Bool.not_false, and_self, Nat.le_refl] <;> rfl) ?_
  refine awp_seq ?_
  -- region 5
  refine awp_region rfl ?_
  refine aops_run 3 (by simp only [fw0, fw1, fw2, fw3, fw4, fw5, fw6, fw7, ↓reduceIte, Nat.reduceAdd, Nat.reduceMul, Nat.reduceEqDiff, Nat.reduceLT, Nat.reduceLeDiff, reduceCtorEq, Bool.false_eq_true, Bool.not_true, Bool.not_false, and_self, Nat.le_refl, ti27, Val.fw] <;> rfl) ?_
  refine aops_fn rfl rfl rfl en23 (g2) ?_
  refine aops_run 1 (by simp only [fw0, fw1, fw2, fw3, fw4, fw5, fw6, fw7, ↓reduceIte, Nat.reduceAdd, Nat.reduceMul, Nat.reduceEqDiff, Nat.reduceLT, Nat.reduceLeDiff, reduceCtorEq, Bool.false_eq_true, Bool.not_true, Bool.not_false, and_self, Nat.le_refl] <;> rfl) ?_
  refine awp_seq ?_
  -- region 6
  refine awp_region rfl ?_
  refine aops_run 2 (by simp only [fw0, fw1, fw2, fw3, fw4, fw5, fw6, fw7, ↓reduceIte, Nat.reduceAdd, Nat.reduceMul, Nat.reduceEqDiff, Nat.reduceLT, Nat.reduceLeDiff, reduceCtorEq, Bool.false_eq_true, Bool.not_true, Bool.not_false, and_self, Nat.le_refl] <;> rfl) ?_
  refine aops_fn rfl rfl rfl en10 (g3) ?_
  refine aops_run 6 (by simp only [fw0, fw1, fw2, fw3, fw4, fw5, fw6, fw7, ↓reduceIte, Nat.reduceAdd, Nat.reduceMul, Nat.reduceEqDiff, Nat.reduceLT, Nat.reduceLeDiff, reduceCtorEq, Bool.false_eq_true, Bool.not_true, Bool.not_false, and_self, Nat.le_refl, ti27, Val.fw] <;> rfl) ?_
  refine awp_seq ?_
  -- region 7
  refine awp_region rfl ?_
  refine aops_run 2 (by simp only [fw0, fw1, fw2, fw3, fw4, fw5, fw6, fw7, ↓reduceIte, Nat.reduceAdd, Nat.reduceMul, Nat.reduceEqDiff, Nat.reduceLT, Nat.reduceLeDiff, reduceCtorEq, Bool.false_eq_true, Bool.not_true, Bool.not_false, and_self, Nat.le_refl] <;> rfl) ?_
  refine aops_fn rfl rfl rfl en10 (g4) ?_
  refine aops_run 6 (by simp only [fw0, fw1, fw2, fw3, fw4, fw5, fw6, fw7, ↓reduceIte, Nat.reduceAdd, Nat.reduceMul, Nat.reduceEqDiff, Nat.reduceLT, Nat.reduceLeDiff, reduceCtorEq, Bool.false_eq_true, Bool.not_true, Bool.not_false, and_self, Nat.le_refl, ti27, Val.fw] <;> rfl) ?_
  refine awp_seq ?_
  -- region 8
  refine awp_region rfl ?_
  refine aops_run 2 (by simp only [fw0, fw1, fw2, fw3, fw4, fw5, fw6, fw7, ↓reduceIte, Nat.reduceAdd, Nat.reduceMul, Nat.reduceEqDiff, Nat.reduceLT, Nat.reduceLeDiff, reduceCtorEq, Bool.false_eq_true, Bool.not_true, Bool.not_false, and_self, Nat.le_refl] <;> rfl) ?_
  refine aops_fn rfl rfl rfl en10 (g5) ?_
  refine aops_run 6 (by simp only [fw0, fw1, fw2, fw3, fw4, fw5, fw6, fw7, ↓reduceIte, Nat.reduceAdd, Nat.reduceMul, Nat.reduceEqDiff, Nat.reduceLT, Nat.reduceLeDiff, reduceCtorEq, Bool.false_eq_true, Bool.not_true, Bool.not_false, and_self, Nat.le_refl, ti27, Val.fw] <;> rfl) ?_
  refine awp_seq ?_
  -- region 9
  refine awp_region rfl ?_
  refine aops_run 2 (by simp only [fw0, fw1, fw2, fw3, fw4, fw5, fw6, fw7, ↓reduceIte, Nat.reduceAdd, Nat.reduceMul, Nat.reduceEqDiff, Nat.reduceLT, Nat.reduceLeDiff, reduceCtorEq, Bool.false_eq_true, Bool.not_true, Bool.not_false, and_self, Nat.le_refl] <;> rfl) ?_
  refine aops_fn rfl rfl rfl en10 (g6) ?_
  refine aops_run 6 (by simp only [fw0, fw1, fw2, fw3, fw4, fw5, fw6, fw7, ↓reduceIte, Nat.reduceAdd, Nat.reduceMul, Nat.reduceEqDiff, Nat.reduceLT, Nat.reduceLeDiff, reduceCtorEq, Bool.false_eq_true, Bool.not_true, Bool.not_false, and_self, Nat.le_refl, ti27, Val.fw] <;> rfl) ?_
  refine awp_seq ?_
  refine awp_seq ?_
  -- region 10
  refine awp_region rfl ?_
  refine aops_run 9 (by simp only [fw0, fw1, fw2, fw3, fw4, fw5, fw6, fw7, ↓reduceIte, Nat.reduceAdd, Nat.reduceMul, Nat.reduceEqDiff, Nat.reduceLT, Nat.reduceLeDiff, reduceCtorEq, Bool.false_eq_true, Bool.not_true, Bool.not_false, and_self, Nat.le_refl, ti27, Val.fw] <;> rfl) ?_
  refine aops_fnIf rfl rfl rfl rfl rfl en27 (gs v) ?_
  refine aops_run 5 (by simp only [fw0, fw1, fw2, fw3, fw4, fw5, fw6, fw7, ↓reduceIte, Nat.reduceAdd, Nat.reduceMul, Nat.reduceEqDiff, Nat.reduceLT, Nat.reduceLeDiff, reduceCtorEq, Bool.false_eq_true, Bool.not_true, Bool.not_false, and_self, Nat.le_refl, ti27, Val.fw] <;> rfl) ?_
  refine aops_fnIf rfl rfl rfl rfl rfl en27 (gs w) ?_
  refine aops_run 10 (by simp only [fw0, fw1, fw2, fw3, fw4, fw5, fw6, fw7, ↓reduceIte, Nat.reduceAdd, Nat.reduceMul, Nat.reduceEqDiff, Nat.reduceLT, Nat.reduceLeDiff, reduceCtorEq, Bool.false_eq_true, Bool.not_true, Bool.not_false, and_self, Nat.le_refl, un25, List.length_map, hla, hw1, decide_true] <;> rfl) ?_
  refine awp_cond (b := false) rfl ?_
  refine awp_skip ?_
  refine awp_seq ?_
  -- region 12
  refine awp_region rfl ?_
  by_cases hno : nm = other
  · refine aops_run 17 (by simp only [fw0, fw1, fw2, fw3, fw4, fw5, fw6, fw7, ↓reduceIte, Nat.reduceAdd, Nat.reduceMul, Nat.reduceEqDiff, Nat.reduceLT, Nat.reduceLeDiff, reduceCtorEq, Bool.false_eq_true, Bool.not_true, Bool.not_false, and_self, Nat.le_refl, un4, ti27, Val.fw, hno, decide_true] <;> rfl) ?_
    refine awp_ret ?_
    exact gives_end (.inl rfl) _ rfl
  · obtain ⟨rfl, rfl⟩ := hpq.resolve_left hno
    refine aops_run 6 (by simp only [fw0, fw1, fw2, fw3, fw4, fw5, fw6, fw7, ↓reduceIte, Nat.reduceAdd, Nat.reduceMul, Nat.reduceEqDiff, Nat.reduceLT, Nat.reduceLeDiff, reduceCtorEq, Bool.false_eq_true, Bool.not_true, Bool.not_false, and_self, Nat.le_refl, un4, ti27, Val.fw, hno, decide_false, beq_self_eq_true] <;> rfl) ?_
    refine aops_run 6 (by simp only [fw0, fw1, fw2, fw3, fw4, fw5, fw6, fw7, ↓reduceIte, Nat.reduceAdd, Nat.reduceMul, Nat.reduceEqDiff, Nat.reduceLT, Nat.reduceLeDiff, reduceCtorEq, Bool.false_eq_true, Bool.not_true, Bool.not_false, and_self, Nat.le_refl, un4, ti27, Val.fw, hno, decide_false, beq_self_eq_true] <;> rfl) ?_
    refine aops_fnIf rfl rfl rfl rfl rfl en27 (gs p) ?_
    refine aops_run 4 (by simp only [fw0, fw1, fw2, fw3, fw4, fw5, fw6, fw7, ↓reduceIte, Nat.reduceAdd, Nat.reduceMul, Nat.reduceEqDiff, Nat.reduceLT, Nat.reduceLeDiff, reduceCtorEq, Bool.false_eq_true, Bool.not_true, Bool.not_false, and_self, Nat.le_refl] <;> rfl) ?_
    refine awp_ret ?_
    exact gives_end (.inl rfl) _ rfl

theorem lookV_snoc (l : List Bd) (nm other : List UInt8) (v : Val) : lookV (l ++ [.mk nm v]) other = if nm = other then some v else lookV l other := by
  unfold lookV
  rw [List.reverse_append]
  simp only [List.reverse_cons, List.reverse_nil, List.nil_append, List.singleton_append, List.find?_cons, Bd.name]
  by_cases e : nm = other <;> simp [e, Bd.v]

/-- chancellaw18.StoreLooks -/
theorem c6 (Γ : Nat → PV) (hΓ : Tab Γ) (l : List Bd) (nm other : List UInt8) (v w : Val) (hl : l.length * 128 ≤ reachBytes) : Gives Tryd.prog Γ 6 [.vec (l.map Bd.enc) false, .str nm, .str other, .agg v.enc, .agg w.enc] (.bool true) := by
  have g3 := c10 Γ (l ++ [.mk nm v]) nm
  have g4 := c10 Γ (l ++ [.mk nm w]) nm
  have g6 := c10 Γ (l ++ [.mk nm v]) other
  rw [show lookP (l ++ [.mk nm v]) nm = .tup [.agg v.enc, .bool true] by simp [lookP, lookV_snoc]] at g3
  rw [show lookP (l ++ [.mk nm w]) nm = .tup [.agg w.enc, .bool true] by simp [lookP, lookV_snoc]] at g4
  exact c6a Γ hΓ l _ _ nm other v w _ _ _ _ hl (c23 Γ l nm v hl) (c23 Γ l nm w hl) g3 g4 (c10 Γ l other) g6 (by simp) (by
    by_cases hno : nm = other
    · exact .inl hno
    · refine .inr ?_
      rw [lookV_snoc, if_neg hno]
      exact ⟨rfl, rfl⟩)

end Go.Proofs.YtinedfjknhahmaaDoor
