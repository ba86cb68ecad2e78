/- The contracts of what compares values, in the program. -/
import Derived.Test.YtinedfjknhahmaaDoorR18c
namespace Go.Proofs.YtinedfjknhahmaaDoor
set_option linter.unusedVariables false
set_option linter.unusedSimpArgs false
open Go.RowKit Fw

/-- slices.EqualFunc, of names -/
theorem c47 (Γ : Nat → PV) (f : Nat) (he : Enters Tryd.prog f) (xs ys : List Bd) (h : ∀ x ∈ xs, ∀ y : Bd, Gives Tryd.prog Γ f [.agg x.enc, .agg y.enc] (.bool (decide (x = y)))) :
    Gives Tryd.prog Γ 47 [.vec (xs.map Bd.enc) false, .vec (ys.map Bd.enc) false, .func (.func f) [] []] (.bool (decide (xs = ys))) := by
  refine fn_of_awp Tryd.func47 rfl (by simp [Tryd.f47]) rfl fun H => awp_bd fun hbd => ?_
  refine awp_seq ?_
  -- region 0
  refine awp_run rfl (by simp only [fw0, fw1, fw2, fw3, fw4, fw5, fw6, fw7, ↓reduceIte, Nat.reduceAdd, Nat.reduceMul, Nat.reduceEqDiff, Nat.reduceLT, Nat.reduceLeDiff, reduceCtorEq, Bool.false_eq_true, Bool.not_true, Bool.not_false, and_self, Nat.le_refl] <;> rfl) ?_
  refine awp_vlen 0 rfl fun hlen => ?_
  rw [List.length_map] at hlen
  refine awp_seq ?_
  refine awp_seq ?_
  -- region 1
  refine awp_run rfl (by simp only [fw0, fw1, fw2, fw3, fw4, fw5, fw6, fw7, ↓reduceIte, Nat.reduceAdd, Nat.reduceMul, Nat.reduceEqDiff, Nat.reduceLT, Nat.reduceLeDiff, reduceCtorEq, Bool.false_eq_true, Bool.not_true, Bool.not_false, and_self, Nat.le_refl, un25, List.length_map] <;> rfl) ?_
  refine awp_cond (by simp only [fw0, fw1, fw2, fw3, fw4, fw5, fw6, fw7, ↓reduceIte, Nat.reduceAdd, Nat.reduceMul, Nat.reduceEqDiff, Nat.reduceLT, Nat.reduceLeDiff, reduceCtorEq, Bool.false_eq_true, Bool.not_true, Bool.not_false, and_self, Nat.le_refl] <;> rfl) ?_
  by_cases hl : (xs.length : Int) = ys.length
  rotate_left
  · simp only [hl, decide_false, Bool.not_false, ↓reduceIte]
    refine awp_seq (awp_run rfl (by simp only [fw0, fw1, fw2, fw3, fw4, fw5, fw6, fw7, ↓reduceIte, Nat.reduceAdd, Nat.reduceMul, Nat.reduceEqDiff, Nat.reduceLT, Nat.reduceLeDiff, reduceCtorEq, Bool.false_eq_true, Bool.not_true, Bool.not_false, and_self, Nat.le_refl] <;> rfl) (awp_ret ?_))
    exact gives_end0 (.inl rfl) (by rw [decide_eq_false (fun e => hl (by rw [e]))]; rfl)
  simp only [hl, decide_true, Bool.not_true, Bool.false_eq_true, ↓reduceIte]
  refine awp_skip ?_
  have hl' : xs.length = ys.length := by omega
  refine awp_seq ?_
  refine awp_seq ?_
  -- region 3
  refine awp_run rfl (by simp only [fw0, fw1, fw2, fw3, fw4, fw5, fw6, fw7, ↓reduceIte, Nat.reduceAdd, Nat.reduceMul, Nat.reduceEqDiff, Nat.reduceLT, Nat.reduceLeDiff, reduceCtorEq, Bool.false_eq_true, Bool.not_true, Bool.not_false, and_self, Nat.le_refl, un25, List.length_map] <;> rfl) ?_
  refine awp_block ?_
  refine awp_forG [1, 2, 15, 16, 17] (fun i : Nat => [.vec (ys.map Bd.enc) false, .func (.func f) [] [], .vec (xs.map Bd.enc) false, .int .i64 xs.length, .int .i64 (i : Int)]) (fun _ => H) (fun i => xs.length - i)
    (fun i => i ≤ xs.length ∧ xs.take i = ys.take i) 0 rfl rfl ⟨Nat.zero_le _, rfl⟩ (fun i _ => ⟨hbd, rfl⟩) (fun i _ b hb => by cases hb) fun i hi => ?_
  refine awp_seq ?_
  -- region 4
  refine awp_run rfl (by simp only [fw0, fw1, fw2, fw3, fw4, fw5, fw6, fw7, ↓reduceIte, Nat.reduceAdd, Nat.reduceMul, Nat.reduceEqDiff, Nat.reduceLT, Nat.reduceLeDiff, reduceCtorEq, Bool.false_eq_true, Bool.not_true, Bool.not_false, and_self, Nat.le_refl] <;> rfl) ?_
  refine awp_seq ?_
  refine awp_cond (by simp only [fw0, fw1, fw2, fw3, fw4, fw5, fw6, fw7, ↓reduceIte, Nat.reduceAdd, Nat.reduceMul, Nat.reduceEqDiff, Nat.reduceLT, Nat.reduceLeDiff, reduceCtorEq, Bool.false_eq_true, Bool.not_true, Bool.not_false, and_self, Nat.le_refl] <;> rfl) ?_
  by_cases hc : (i : Int) < xs.length
  rotate_left
  · simp only [hc, decide_false, Bool.false_eq_true, ↓reduceIte]
    refine awp_exit ?_
    have hi' : i = xs.length := by omega
    refine awp_seq (awp_run rfl (by simp only [fw0, fw1, fw2, fw3, fw4, fw5, fw6, fw7, ↓reduceIte, Nat.reduceAdd, Nat.reduceMul, Nat.reduceEqDiff, Nat.reduceLT, Nat.reduceLeDiff, reduceCtorEq, Bool.false_eq_true, Bool.not_true, Bool.not_false, and_self, Nat.le_refl] <;> rfl) (awp_ret ?_))
    have e : xs = ys := by
      have := hi.2
      rwa [hi', List.take_length, hl', List.take_length] at this
    exact gives_end0 (.inl rfl) (by rw [decide_eq_true e]; rfl)
  simp only [hc, decide_true, ↓reduceIte]
  refine awp_skip ?_
  have hix : i < xs.length := by omega
  have gx : xs[i]? = some xs[i] := List.getElem?_eq_getElem hix
  have gy : ys[i]? = some (ys[i]'(by omega)) := List.getElem?_eq_getElem (by omega)
  refine awp_seq ?_
  refine awp_block ?_
  refine awp_seq ?_
  -- region 5
  refine awp_run rfl (by simp only [fw0, fw1, fw2, fw3, fw4, fw5, fw6, fw7, ↓reduceIte, Nat.reduceAdd, Nat.reduceMul, Nat.reduceEqDiff, Nat.reduceLT, Nat.reduceLeDiff, reduceCtorEq, Bool.false_eq_true, Bool.not_true, Bool.not_false, and_self, Nat.le_refl, el25, ti75, Bd.fw, List.getElem?_map, gx, Option.map_some, Int.natCast_nonneg] <;> rfl) ?_
  refine awp_seq ?_
  -- region 6
  refine awp_run rfl (by simp only [fw0, fw1, fw2, fw3, fw4, fw5, fw6, fw7, ↓reduceIte, Nat.reduceAdd, Nat.reduceMul, Nat.reduceEqDiff, Nat.reduceLT, Nat.reduceLeDiff, reduceCtorEq, Bool.false_eq_true, Bool.not_true, Bool.not_false, and_self, Nat.le_refl, el25, ti75, Bd.fw, List.getElem?_map, gy, Option.map_some, Int.natCast_nonneg] <;> rfl) ?_
  refine awp_seq ?_
  -- region 7
  refine awp_region rfl ?_
  refine aops_run 3 (by simp only [fw0, fw1, fw2, fw3, fw4, fw5, fw6, fw7, ↓reduceIte, Nat.reduceAdd, Nat.reduceMul, Nat.reduceEqDiff, Nat.reduceLT, Nat.reduceLeDiff, reduceCtorEq, Bool.false_eq_true, Bool.not_true, Bool.not_false, and_self, Nat.le_refl, ti75, Bd.fw] <;> rfl) ?_
  refine aops_fn rfl rfl rfl he (h _ (List.getElem_mem hix) _) ?_
  refine aops_run 1 (by simp only [fw0, fw1, fw2, fw3, fw4, fw5, fw6, fw7, ↓reduceIte, Nat.reduceAdd, Nat.reduceMul, Nat.reduceEqDiff, Nat.reduceLT, Nat.reduceLeDiff, reduceCtorEq, Bool.false_eq_true, Bool.not_true, Bool.not_false, and_self, Nat.le_refl] <;> rfl) ?_
  refine awp_cond (by simp only [fw0, fw1, fw2, fw3, fw4, fw5, fw6, fw7, ↓reduceIte, Nat.reduceAdd, Nat.reduceMul, Nat.reduceEqDiff, Nat.reduceLT, Nat.reduceLeDiff, reduceCtorEq, Bool.false_eq_true, Bool.not_true, Bool.not_false, and_self, Nat.le_refl] <;> rfl) ?_
  by_cases hk : xs[i] = ys[i]'(by omega)
  rotate_left
  · simp only [hk, decide_false, Bool.not_false, ↓reduceIte]
    refine awp_seq (awp_run rfl (by simp only [fw0, fw1, fw2, fw3, fw4, fw5, fw6, fw7, ↓reduceIte, Nat.reduceAdd, Nat.reduceMul, Nat.reduceEqDiff, Nat.reduceLT, Nat.reduceLeDiff, reduceCtorEq, Bool.false_eq_true, Bool.not_true, Bool.not_false, and_self, Nat.le_refl] <;> rfl) (awp_ret ?_))
    exact gives_end (.inl rfl) _ (by rw [decide_eq_false (fun e => hk (by subst e; rfl))]; rfl)
  simp only [hk, decide_true, Bool.not_true, Bool.false_eq_true, ↓reduceIte]
  refine awp_skip ?_
  -- region 9
  refine awp_run rfl (by simp only [fw0, fw1, fw2, fw3, fw4, fw5, fw6, fw7, ↓reduceIte, Nat.reduceAdd, Nat.reduceMul, Nat.reduceEqDiff, Nat.reduceLT, Nat.reduceLeDiff, reduceCtorEq, Bool.false_eq_true, Bool.not_true, Bool.not_false, and_self, Nat.le_refl] <;> rfl) ?_
  exact ⟨i + 1, _, by omega, ⟨by omega, by rw [List.take_add_one, List.take_add_one, hi.2, gx, gy, hk]⟩, by rw [wrapS i (by omega)]; rfl, rfl, rfl, Nat.le_refl _⟩

/-- store.Same, of values that are not the first's size. -/
theorem c27 (Γ : Nat → PV) : ∀ a b : Val, Gives Tryd.prog Γ 27 [.agg a.enc, .agg b.enc] (.bool (decide (a = b))) := by
  suffices ∀ n, ∀ a, SizeOf.sizeOf a < n → ∀ b : Val, Gives Tryd.prog Γ 27 [.agg a.enc, .agg b.enc] (.bool (decide (a = b))) from fun a b => this _ a (Nat.lt_succ_self _) b
  intro n
  induction n with
  | zero => intro a ha; omega
  | succ n ih =>
  intro a ha b
  -- the like of bounds
  have c48 : ∀ x ∈ a.env, ∀ y : Bd, Gives Tryd.prog Γ 48 [.agg x.enc, .agg y.enc] (.bool (decide (x = y))) := by
    intro x hx y
    have ihx := ih x.v (by have := Val.env_lt hx; omega) y.v
    refine fn_of_awp Tryd.func48 rfl (by simp [Tryd.f48]) rfl fun H => ?_
    refine awp_seq ?_
    refine awp_run rfl (by simp only [fw0, fw1, fw2, fw3, fw4, fw5, fw6, fw7, ↓reduceIte, Nat.reduceAdd, Nat.reduceMul, Nat.reduceEqDiff, Nat.reduceLT, Nat.reduceLeDiff, reduceCtorEq, Bool.false_eq_true, Bool.not_true, Bool.not_false, and_self, Nat.le_refl] <;> rfl) ?_
    refine awp_seq ?_
    by_cases h1 : x.name = y.name
    rotate_left
    · refine awp_region rfl (aops_run 10 (by simp only [fw0, fw1, fw2, fw3, fw4, fw5, fw6, fw7, ↓reduceIte, Nat.reduceAdd, Nat.reduceMul, Nat.reduceEqDiff, Nat.reduceLT, Nat.reduceLeDiff, reduceCtorEq, Bool.false_eq_true, Bool.not_true, Bool.not_false, and_self, Nat.le_refl, fl75_0, ti9, fl75_1, ti27, Bd.fw, h1, decide_false] <;> rfl) (aops_run 3 (by simp only [fw0, fw1, fw2, fw3, fw4, fw5, fw6, fw7, ↓reduceIte, Nat.reduceAdd, Nat.reduceMul, Nat.reduceEqDiff, Nat.reduceLT, Nat.reduceLeDiff, reduceCtorEq, Bool.false_eq_true, Bool.not_true, Bool.not_false, and_self, Nat.le_refl] <;> rfl) (awp_ret ?_)))
      exact gives_end (.inl rfl) _ (by rw [decide_eq_false (fun e => h1 (by rw [e]))]; rfl)
    refine awp_region rfl (aops_run 10 (by simp only [fw0, fw1, fw2, fw3, fw4, fw5, fw6, fw7, ↓reduceIte, Nat.reduceAdd, Nat.reduceMul, Nat.reduceEqDiff, Nat.reduceLT, Nat.reduceLeDiff, reduceCtorEq, Bool.false_eq_true, Bool.not_true, Bool.not_false, and_self, Nat.le_refl, fl75_0, ti9, fl75_1, ti27, Bd.fw, Val.fw, h1, decide_true] <;> rfl) ?_)
    refine aops_fnIf rfl rfl rfl rfl rfl en27 ihx ?_
    refine aops_run 2 (by simp only [fw0, fw1, fw2, fw3, fw4, fw5, fw6, fw7, ↓reduceIte, Nat.reduceAdd, Nat.reduceMul, Nat.reduceEqDiff, Nat.reduceLT, Nat.reduceLeDiff, reduceCtorEq, Bool.false_eq_true, Bool.not_true, Bool.not_false, and_self, Nat.le_refl] <;> rfl) (awp_ret ?_)
    refine gives_end (.inl rfl) _ ?_
    by_cases h4 : x.v = y.v
    · rw [decide_eq_true (Bd.ext h1 h4)]; simp [ares, aresL, ares1, alook, Tryd.f48, h4]
    · have e1 : decide (x = y) = false := decide_eq_false (fun e => h4 (by rw [e]))
      rw [e1]; simp [ares, aresL, ares1, alook, Tryd.f48, h4]
  refine fn_of_awp Tryd.func27 rfl (by simp [Tryd.f27]) rfl fun H => ?_
  refine awp_seq ?_
  -- region 0
  refine awp_run rfl (by simp only [fw0, fw1, fw2, fw3, fw4, fw5, fw6, fw7, ↓reduceIte, Nat.reduceAdd, Nat.reduceMul, Nat.reduceEqDiff, Nat.reduceLT, Nat.reduceLeDiff, reduceCtorEq, Bool.false_eq_true, Bool.not_true, Bool.not_false, and_self, Nat.le_refl] <;> rfl) ?_
  refine awp_seq ?_
  -- region 1
  by_cases h1 : a.kind = b.kind
  rotate_left
  · refine awp_run rfl (by simp only [fw0, fw1, fw2, fw3, fw4, fw5, fw6, fw7, ↓reduceIte, Nat.reduceAdd, Nat.reduceMul, Nat.reduceEqDiff, Nat.reduceLT, Nat.reduceLeDiff, reduceCtorEq, Bool.false_eq_true, Bool.not_true, Bool.not_false, and_self, Nat.le_refl, fl27_0, ti3, fl27_1, ti9, fl27_2, ti2, Val.fw, h1, decide_false, decide_true] <;> rfl) ?_
    refine awp_seq (awp_region rfl (aops_run 16 (by simp only [fw0, fw1, fw2, fw3, fw4, fw5, fw6, fw7, ↓reduceIte, Nat.reduceAdd, Nat.reduceMul, Nat.reduceEqDiff, Nat.reduceLT, Nat.reduceLeDiff, reduceCtorEq, Bool.false_eq_true, Bool.not_true, Bool.not_false, and_self, Nat.le_refl, fl27_3, ti24, fl27_4, ti25] <;> rfl) (awp_ret ?_)))
    exact gives_end (.inl rfl) _ (by rw [decide_eq_false (fun e => h1 (by rw [e]))]; rfl)
  by_cases h2 : a.n = b.n
  rotate_left
  · refine awp_run rfl (by simp only [fw0, fw1, fw2, fw3, fw4, fw5, fw6, fw7, ↓reduceIte, Nat.reduceAdd, Nat.reduceMul, Nat.reduceEqDiff, Nat.reduceLT, Nat.reduceLeDiff, reduceCtorEq, Bool.false_eq_true, Bool.not_true, Bool.not_false, and_self, Nat.le_refl, fl27_0, ti3, fl27_1, ti9, fl27_2, ti2, Val.fw, h1, h2, decide_false, decide_true] <;> rfl) ?_
    refine awp_seq (awp_region rfl (aops_run 16 (by simp only [fw0, fw1, fw2, fw3, fw4, fw5, fw6, fw7, ↓reduceIte, Nat.reduceAdd, Nat.reduceMul, Nat.reduceEqDiff, Nat.reduceLT, Nat.reduceLeDiff, reduceCtorEq, Bool.false_eq_true, Bool.not_true, Bool.not_false, and_self, Nat.le_refl, fl27_3, ti24, fl27_4, ti25] <;> rfl) (awp_ret ?_)))
    exact gives_end (.inl rfl) _ (by rw [decide_eq_false (fun e => h2 (by rw [e]))]; rfl)
  by_cases h3 : a.name = b.name
  rotate_left
  · refine awp_run rfl (by simp only [fw0, fw1, fw2, fw3, fw4, fw5, fw6, fw7, ↓reduceIte, Nat.reduceAdd, Nat.reduceMul, Nat.reduceEqDiff, Nat.reduceLT, Nat.reduceLeDiff, reduceCtorEq, Bool.false_eq_true, Bool.not_true, Bool.not_false, and_self, Nat.le_refl, fl27_0, ti3, fl27_1, ti9, fl27_2, ti2, Val.fw, h1, h2, h3, decide_false, decide_true] <;> rfl) ?_
    refine awp_seq (awp_region rfl (aops_run 16 (by simp only [fw0, fw1, fw2, fw3, fw4, fw5, fw6, fw7, ↓reduceIte, Nat.reduceAdd, Nat.reduceMul, Nat.reduceEqDiff, Nat.reduceLT, Nat.reduceLeDiff, reduceCtorEq, Bool.false_eq_true, Bool.not_true, Bool.not_false, and_self, Nat.le_refl, fl27_3, ti24, fl27_4, ti25] <;> rfl) (awp_ret ?_)))
    exact gives_end (.inl rfl) _ (by rw [decide_eq_false (fun e => h3 (by rw [e]))]; rfl)
  refine awp_run rfl (by simp only [fw0, fw1, fw2, fw3, fw4, fw5, fw6, fw7, ↓reduceIte, Nat.reduceAdd, Nat.reduceMul, Nat.reduceEqDiff, Nat.reduceLT, Nat.reduceLeDiff, reduceCtorEq, Bool.false_eq_true, Bool.not_true, Bool.not_false, and_self, Nat.le_refl, fl27_0, ti3, fl27_1, ti9, fl27_2, ti2, Val.fw, h1, h2, h3, decide_true] <;> rfl) ?_
  refine awp_seq ?_
  -- region 2
  refine awp_region rfl ?_
  refine aops_run 6 (by simp only [fw0, fw1, fw2, fw3, fw4, fw5, fw6, fw7, ↓reduceIte, Nat.reduceAdd, Nat.reduceMul, Nat.reduceEqDiff, Nat.reduceLT, Nat.reduceLeDiff, reduceCtorEq, Bool.false_eq_true, Bool.not_true, Bool.not_false, and_self, Nat.le_refl, fl27_3, ti24, Val.fw, Tm.fw] <;> rfl) ?_
  refine aops_fnIf rfl rfl rfl rfl rfl en46 (c46 Γ a.t b.t) ?_
  by_cases h4 : a.t = b.t
  rotate_left
  · refine aops_run 9 (by simp only [fw0, fw1, fw2, fw3, fw4, fw5, fw6, fw7, ↓reduceIte, Nat.reduceAdd, Nat.reduceMul, Nat.reduceEqDiff, Nat.reduceLT, Nat.reduceLeDiff, reduceCtorEq, Bool.false_eq_true, Bool.not_true, Bool.not_false, and_self, Nat.le_refl, h4, decide_false] <;> rfl) (awp_ret ?_)
    exact gives_end (.inl rfl) _ (by rw [decide_eq_false (fun e => h4 (by rw [e]))]; rfl)
  refine aops_run 6 (by simp only [fw0, fw1, fw2, fw3, fw4, fw5, fw6, fw7, ↓reduceIte, Nat.reduceAdd, Nat.reduceMul, Nat.reduceEqDiff, Nat.reduceLT, Nat.reduceLeDiff, reduceCtorEq, Bool.false_eq_true, Bool.not_true, Bool.not_false, and_self, Nat.le_refl, fl27_4, ti25, Val.fw, h4, decide_true] <;> rfl) ?_
  refine aops_fnIf rfl rfl rfl rfl rfl en47 (c47 Γ 48 en48 a.env b.env c48) ?_
  refine aops_run 2 (by simp only [fw0, fw1, fw2, fw3, fw4, fw5, fw6, fw7, ↓reduceIte, Nat.reduceAdd, Nat.reduceMul, Nat.reduceEqDiff, Nat.reduceLT, Nat.reduceLeDiff, reduceCtorEq, Bool.false_eq_true, Bool.not_true, Bool.not_false, and_self, Nat.le_refl] <;> rfl) (awp_ret ?_)
  refine gives_end (.inl rfl) _ ?_
  by_cases h5 : a.env = b.env
  · rw [decide_eq_true (Val.ext h1 h2 h3 h4 h5)]; simp [ares, aresL, ares1, alook, Tryd.f27, h5]
  · have e1 : decide (a = b) = false := decide_eq_false (fun e => h5 (by rw [e]))
    rw [e1]; simp [ares, aresL, ares1, alook, Tryd.f27, h5]

end Go.Proofs.YtinedfjknhahmaaDoor
