/- The contracts of the document's functions on values, names and cells. -/
import Derived.Test.YtinedfjknhahmaaDoorR18e
namespace Go.Proofs.YtinedfjknhahmaaDoor
set_option linter.unusedVariables false
set_option linter.unusedSimpArgs false
open Go.RowKit Fw

/-- chancelref18.Same -/
theorem c20 (Γ : Nat → PV) : ∀ a b : Val, Gives Tryd.prog Γ 20 [.agg a.enc, .agg b.enc] (.bool (decide (a = b))) := by
  suffices ∀ n, ∀ a : Val, SizeOf.sizeOf a < n → ∀ b : Val, Gives Tryd.prog Γ 20 [.agg a.enc, .agg b.enc] (.bool (decide (a = b))) from fun a b => this _ a (Nat.lt_succ_self _) b
  intro n
  induction n with
  | zero => intro a ha; omega
  | succ n ih =>
  intro a ha b
  refine fn_of_awp Tryd.func20 rfl (by simp [Tryd.f20]) rfl fun H => ?_
  refine awp_seq ?_
  -- region 0
  refine awp_run rfl (by simp only [fw0, fw1, fw2, fw3, fw4, fw5, fw6, fw7, ↓reduceIte, Nat.reduceAdd, Nat.reduceMul, Nat.reduceEqDiff, Nat.reduceLT, Nat.reduceLeDiff, reduceCtorEq, Bool.false_eq_true, Bool.not_true, Bool.not_false, and_self, Nat.le_refl] <;> rfl) ?_
  refine awp_seq ?_
  refine awp_seq ?_
  -- region 1
  by_cases h1 : a.kind = b.kind
  rotate_left
  · refine awp_region rfl (aops_run 36 (by simp only [fw0, fw1, fw2, fw3, fw4, fw5, fw6, fw7, ↓reduceIte, Nat.reduceAdd, Nat.reduceMul, Nat.reduceEqDiff, Nat.reduceLT, Nat.reduceLeDiff, reduceCtorEq, Bool.false_eq_true, Bool.not_true, Bool.not_false, and_self, Nat.le_refl, fl37_0, ti3, fl37_1, ti2, fl37_2, ti9, fl37_3, ti34, fl37_4, ti35, un35, Val.fw, Tm.fw, h1, decide_false, decide_true, Bool.not_false, Bool.not_true] <;> rfl) ?_)
    refine awp_cond (by simp only [fw0, fw1, fw2, fw3, fw4, fw5, fw6, fw7, ↓reduceIte, Nat.reduceAdd, Nat.reduceMul, Nat.reduceEqDiff, Nat.reduceLT, Nat.reduceLeDiff, reduceCtorEq, Bool.false_eq_true, Bool.not_true, Bool.not_false, and_self, Nat.le_refl] <;> rfl) ?_
    refine awp_seq (awp_run rfl (by simp only [fw0, fw1, fw2, fw3, fw4, fw5, fw6, fw7, ↓reduceIte, Nat.reduceAdd, Nat.reduceMul, Nat.reduceEqDiff, Nat.reduceLT, Nat.reduceLeDiff, reduceCtorEq, Bool.false_eq_true, Bool.not_true, Bool.not_false, and_self, Nat.le_refl] <;> rfl) (awp_ret ?_))
    exact gives_end (.inl rfl) _ (by rw [decide_eq_false (fun e => h1 (by rw [e]))]; rfl)
  by_cases h2 : a.n = b.n
  rotate_left
  · refine awp_region rfl (aops_run 36 (by simp only [fw0, fw1, fw2, fw3, fw4, fw5, fw6, fw7, ↓reduceIte, Nat.reduceAdd, Nat.reduceMul, Nat.reduceEqDiff, Nat.reduceLT, Nat.reduceLeDiff, reduceCtorEq, Bool.false_eq_true, Bool.not_true, Bool.not_false, and_self, Nat.le_refl, fl37_0, ti3, fl37_1, ti2, fl37_2, ti9, fl37_3, ti34, fl37_4, ti35, un35, Val.fw, Tm.fw, h1, h2, decide_false, decide_true, Bool.not_false, Bool.not_true] <;> rfl) ?_)
    refine awp_cond (by simp only [fw0, fw1, fw2, fw3, fw4, fw5, fw6, fw7, ↓reduceIte, Nat.reduceAdd, Nat.reduceMul, Nat.reduceEqDiff, Nat.reduceLT, Nat.reduceLeDiff, reduceCtorEq, Bool.false_eq_true, Bool.not_true, Bool.not_false, and_self, Nat.le_refl] <;> rfl) ?_
    refine awp_seq (awp_run rfl (by simp only [fw0, fw1, fw2, fw3, fw4, fw5, fw6, fw7, ↓reduceIte, Nat.reduceAdd, Nat.reduceMul, Nat.reduceEqDiff, Nat.reduceLT, Nat.reduceLeDiff, reduceCtorEq, Bool.false_eq_true, Bool.not_true, Bool.not_false, and_self, Nat.le_refl] <;> rfl) (awp_ret ?_))
    exact gives_end (.inl rfl) _ (by rw [decide_eq_false (fun e => h2 (by rw [e]))]; rfl)
  by_cases h3 : a.name = b.name
  rotate_left
  · refine awp_region rfl (aops_run 36 (by simp only [fw0, fw1, fw2, fw3, fw4, fw5, fw6, fw7, ↓reduceIte, Nat.reduceAdd, Nat.reduceMul, Nat.reduceEqDiff, Nat.reduceLT, Nat.reduceLeDiff, reduceCtorEq, Bool.false_eq_true, Bool.not_true, Bool.not_false, and_self, Nat.le_refl, fl37_0, ti3, fl37_1, ti2, fl37_2, ti9, fl37_3, ti34, fl37_4, ti35, un35, Val.fw, Tm.fw, h1, h2, h3, decide_false, decide_true, Bool.not_false, Bool.not_true] <;> rfl) ?_)
    refine awp_cond (by simp only [fw0, fw1, fw2, fw3, fw4, fw5, fw6, fw7, ↓reduceIte, Nat.reduceAdd, Nat.reduceMul, Nat.reduceEqDiff, Nat.reduceLT, Nat.reduceLeDiff, reduceCtorEq, Bool.false_eq_true, Bool.not_true, Bool.not_false, and_self, Nat.le_refl] <;> rfl) ?_
    refine awp_seq (awp_run rfl (by simp only [fw0, fw1, fw2, fw3, fw4, fw5, fw6, fw7, ↓reduceIte, Nat.reduceAdd, Nat.reduceMul, Nat.reduceEqDiff, Nat.reduceLT, Nat.reduceLeDiff, reduceCtorEq, Bool.false_eq_true, Bool.not_true, Bool.not_false, and_self, Nat.le_refl] <;> rfl) (awp_ret ?_))
    exact gives_end (.inl rfl) _ (by rw [decide_eq_false (fun e => h3 (by rw [e]))]; rfl)
  refine awp_region rfl ?_
  refine aops_run 24 (by simp only [fw0, fw1, fw2, fw3, fw4, fw5, fw6, fw7, ↓reduceIte, Nat.reduceAdd, Nat.reduceMul, Nat.reduceEqDiff, Nat.reduceLT, Nat.reduceLeDiff, reduceCtorEq, Bool.false_eq_true, Bool.not_true, Bool.not_false, and_self, Nat.le_refl, fl37_0, ti3, fl37_1, ti2, fl37_2, ti9, fl37_3, ti34, fl37_4, ti35, un35, Val.fw, Tm.fw, h1, h2, h3, decide_true, Bool.not_true] <;> rfl) ?_
  refine aops_fnIf rfl rfl rfl rfl rfl en41 (c41 Γ a.t b.t) ?_
  by_cases h4 : a.t = b.t
  rotate_left
  · refine aops_run 11 (by simp only [fw0, fw1, fw2, fw3, fw4, fw5, fw6, fw7, ↓reduceIte, Nat.reduceAdd, Nat.reduceMul, Nat.reduceEqDiff, Nat.reduceLT, Nat.reduceLeDiff, reduceCtorEq, Bool.false_eq_true, Bool.not_true, Bool.not_false, and_self, Nat.le_refl, h4, decide_false, Bool.not_false] <;> rfl) ?_
    refine awp_cond (by simp only [fw0, fw1, fw2, fw3, fw4, fw5, fw6, fw7, ↓reduceIte, Nat.reduceAdd, Nat.reduceMul, Nat.reduceEqDiff, Nat.reduceLT, Nat.reduceLeDiff, reduceCtorEq, Bool.false_eq_true, Bool.not_true, Bool.not_false, and_self, Nat.le_refl] <;> rfl) ?_
    refine awp_seq (awp_run rfl (by simp only [fw0, fw1, fw2, fw3, fw4, fw5, fw6, fw7, ↓reduceIte, Nat.reduceAdd, Nat.reduceMul, Nat.reduceEqDiff, Nat.reduceLT, Nat.reduceLeDiff, reduceCtorEq, Bool.false_eq_true, Bool.not_true, Bool.not_false, and_self, Nat.le_refl] <;> rfl) (awp_ret ?_))
    exact gives_end (.inl rfl) _ (by rw [decide_eq_false (fun e => h4 (by rw [e]))]; rfl)
  by_cases h5 : (a.env.length : Int) = b.env.length
  rotate_left
  · refine aops_run 11 (by simp only [fw0, fw1, fw2, fw3, fw4, fw5, fw6, fw7, ↓reduceIte, Nat.reduceAdd, Nat.reduceMul, Nat.reduceEqDiff, Nat.reduceLT, Nat.reduceLeDiff, reduceCtorEq, Bool.false_eq_true, Bool.not_true, Bool.not_false, and_self, Nat.le_refl, fl37_0, ti3, fl37_1, ti2, fl37_2, ti9, fl37_3, ti34, fl37_4, ti35, un35, Val.fw, Tm.fw, h4, h5, List.length_map, decide_true, decide_false, Bool.not_false, Bool.not_true] <;> rfl) ?_
    refine awp_cond (by simp only [fw0, fw1, fw2, fw3, fw4, fw5, fw6, fw7, ↓reduceIte, Nat.reduceAdd, Nat.reduceMul, Nat.reduceEqDiff, Nat.reduceLT, Nat.reduceLeDiff, reduceCtorEq, Bool.false_eq_true, Bool.not_true, Bool.not_false, and_self, Nat.le_refl] <;> rfl) ?_
    refine awp_seq (awp_run rfl (by simp only [fw0, fw1, fw2, fw3, fw4, fw5, fw6, fw7, ↓reduceIte, Nat.reduceAdd, Nat.reduceMul, Nat.reduceEqDiff, Nat.reduceLT, Nat.reduceLeDiff, reduceCtorEq, Bool.false_eq_true, Bool.not_true, Bool.not_false, and_self, Nat.le_refl] <;> rfl) (awp_ret ?_))
    exact gives_end (.inl rfl) _ (by rw [decide_eq_false (fun e => h5 (by rw [e]))]; rfl)
  refine aops_run 11 (by simp only [fw0, fw1, fw2, fw3, fw4, fw5, fw6, fw7, ↓reduceIte, Nat.reduceAdd, Nat.reduceMul, Nat.reduceEqDiff, Nat.reduceLT, Nat.reduceLeDiff, reduceCtorEq, Bool.false_eq_true, Bool.not_true, Bool.not_false, and_self, Nat.le_refl, fl37_0, ti3, fl37_1, ti2, fl37_2, ti9, fl37_3, ti34, fl37_4, ti35, un35, Val.fw, Tm.fw, h4, h5, List.length_map, decide_true, Bool.not_true] <;> rfl) ?_
  refine awp_cond (by simp only [fw0, fw1, fw2, fw3, fw4, fw5, fw6, fw7, ↓reduceIte, Nat.reduceAdd, Nat.reduceMul, Nat.reduceEqDiff, Nat.reduceLT, Nat.reduceLeDiff, reduceCtorEq, Bool.false_eq_true, Bool.not_true, Bool.not_false, and_self, Nat.le_refl] <;> rfl) (awp_skip ?_)
  have h5' : a.env.length = b.env.length := by omega
  refine awp_seq ?_
  refine awp_seq ?_
  -- region 3
  refine awp_run rfl (by simp only [fw0, fw1, fw2, fw3, fw4, fw5, fw6, fw7, ↓reduceIte, Nat.reduceAdd, Nat.reduceMul, Nat.reduceEqDiff, Nat.reduceLT, Nat.reduceLeDiff, reduceCtorEq, Bool.false_eq_true, Bool.not_true, Bool.not_false, and_self, Nat.le_refl] <;> rfl) ?_
  refine awp_block ?_
  refine awp_for [2, 3, 5] (fun i : Nat => [.ptr H.length 0, .ptr (H.length + 1) 0, .int .i64 (i : Int)]) (fun _ => H ++ [.box a.enc, .box b.enc]) (fun i => a.env.length - i)
    (fun i => i ≤ a.env.length ∧ a.env.take i = b.env.take i) 0 rfl rfl ⟨Nat.zero_le _, rfl⟩ fun i hi => ?_
  refine awp_seq ?_
  refine awp_seq ?_
  -- region 4
  refine awp_run rfl (by simp only [fw0, fw1, fw2, fw3, fw4, fw5, fw6, fw7, ↓reduceIte, Nat.reduceAdd, Nat.reduceMul, Nat.reduceEqDiff, Nat.reduceLT, Nat.reduceLeDiff, reduceCtorEq, Bool.false_eq_true, Bool.not_true, Bool.not_false, and_self, Nat.le_refl, fl37_4, ti35, un35, Val.fw, List.length_map] <;> rfl) ?_
  refine awp_vlen 44 rfl fun hlen => ?_
  rw [List.length_map] at hlen
  refine awp_cond (by simp only [fw0, fw1, fw2, fw3, fw4, fw5, fw6, fw7, ↓reduceIte, Nat.reduceAdd, Nat.reduceMul, Nat.reduceEqDiff, Nat.reduceLT, Nat.reduceLeDiff, reduceCtorEq, Bool.false_eq_true, Bool.not_true, Bool.not_false, and_self, Nat.le_refl] <;> rfl) ?_
  by_cases hc : (i : Int) < a.env.length
  rotate_left
  · simp only [hc, decide_false, Bool.false_eq_true, ↓reduceIte]
    refine awp_exit ?_
    have hi' : i = a.env.length := by omega
    refine awp_seq (awp_run rfl (by simp only [fw0, fw1, fw2, fw3, fw4, fw5, fw6, fw7, ↓reduceIte, Nat.reduceAdd, Nat.reduceMul, Nat.reduceEqDiff, Nat.reduceLT, Nat.reduceLeDiff, reduceCtorEq, Bool.false_eq_true, Bool.not_true, Bool.not_false, and_self, Nat.le_refl] <;> rfl) (awp_ret ?_))
    have e : a = b := Val.ext h1 h2 h3 h4 (by
      have := hi.2
      rwa [hi', List.take_length, h5', List.take_length] at this)
    exact gives_end (.inl rfl) _ (by rw [decide_eq_true e]; rfl)
  simp only [hc, decide_true, ↓reduceIte]
  refine awp_skip ?_
  refine awp_seq ?_
  refine awp_block ?_
  refine awp_seq ?_
  have hia : i < a.env.length := by omega
  have ga : a.env[i]? = some a.env[i] := List.getElem?_eq_getElem hia
  have gb : b.env[i]? = some (b.env[i]'(by omega)) := List.getElem?_eq_getElem (by omega)
  -- region 6 drawn
  refine awp_drawn [0, 1, 0, 0, 0, 1, 0, 1, 0, 0, 0, 1, 0, 0, 0, 1, 0, 0, 0, 1, 0, 1, 0, 0, 0, 1, 0, 0, 0] [0, 1, 0, 7, 15, 31, 0, 64, 0, 448, 960, 1984, 4095, 8191, 16383, 32767, 16383, 131071, 262143, 524287, 16383, 1064959, 16383, 7356415, 15745023, 32522239, 67108863, 134217727, 268435455] mixed rfl (by kernel_rfl) ?_
  by_cases hn : a.env[i].name = (b.env[i]'(by omega)).name
  rotate_left
  · refine dops_run 29 (by simp only [fw0, fw1, fw2, fw3, fw4, fw5, fw6, fw7, ↓reduceIte, Nat.reduceAdd, Nat.reduceMul, Nat.reduceEqDiff, Nat.reduceLT, Nat.reduceLeDiff, reduceCtorEq, Bool.false_eq_true, Bool.not_true, Bool.not_false, and_self, Nat.le_refl, fl37_4, ti35, el35, fl57_0, ti9, fl57_1, ti37, Val.fw, Bd.fw, List.getElem?_map, ga, gb, Option.map_some, Int.natCast_nonneg, hn, decide_false, Bool.not_false] <;> rfl) ?_
    refine dops_end ?_
    refine awp_cond (by simp only [fw0, fw1, fw2, fw3, fw4, fw5, fw6, fw7, ↓reduceIte, Nat.reduceAdd, Nat.reduceMul, Nat.reduceEqDiff, Nat.reduceLT, Nat.reduceLeDiff, reduceCtorEq, Bool.false_eq_true, Bool.not_true, Bool.not_false, and_self, Nat.le_refl] <;> rfl) ?_
    refine awp_seq (awp_run rfl (by simp only [fw0, fw1, fw2, fw3, fw4, fw5, fw6, fw7, ↓reduceIte, Nat.reduceAdd, Nat.reduceMul, Nat.reduceEqDiff, Nat.reduceLT, Nat.reduceLeDiff, reduceCtorEq, Bool.false_eq_true, Bool.not_true, Bool.not_false, and_self, Nat.le_refl] <;> rfl) (awp_ret ?_))
    exact gives_end (.inl rfl) _ (by rw [decide_eq_false (fun e => hn (by subst e; rfl))]; rfl)
  refine dops_run 26 (by simp only [fw0, fw1, fw2, fw3, fw4, fw5, fw6, fw7, ↓reduceIte, Nat.reduceAdd, Nat.reduceMul, Nat.reduceEqDiff, Nat.reduceLT, Nat.reduceLeDiff, reduceCtorEq, Bool.false_eq_true, Bool.not_true, Bool.not_false, and_self, Nat.le_refl, fl37_4, ti35, el35, fl57_0, ti9, fl57_1, ti37, Val.fw, Bd.fw, List.getElem?_map, ga, gb, Option.map_some, Int.natCast_nonneg, hn, decide_true, Bool.not_true] <;> rfl) ?_
  refine dops_fn rfl rfl rfl rfl en20 (ih _ (by have := Val.env_lt (List.getElem_mem hia); omega) _) ?_
  refine dops_run 2 (by simp only [fw0, fw1, fw2, fw3, fw4, fw5, fw6, fw7, ↓reduceIte, Nat.reduceAdd, Nat.reduceMul, Nat.reduceEqDiff, Nat.reduceLT, Nat.reduceLeDiff, reduceCtorEq, Bool.false_eq_true, Bool.not_true, Bool.not_false, and_self, Nat.le_refl] <;> rfl) ?_
  refine dops_end ?_
  refine awp_cond (by simp only [fw0, fw1, fw2, fw3, fw4, fw5, fw6, fw7, ↓reduceIte, Nat.reduceAdd, Nat.reduceMul, Nat.reduceEqDiff, Nat.reduceLT, Nat.reduceLeDiff, reduceCtorEq, Bool.false_eq_true, Bool.not_true, Bool.not_false, and_self, Nat.le_refl] <;> rfl) ?_
  by_cases hk : a.env[i].v = (b.env[i]'(by omega)).v
  rotate_left
  · simp only [hk, decide_false, Bool.not_false, ↓reduceIte]
    refine awp_seq (awp_run rfl (by simp only [fw0, fw1, fw2, fw3, fw4, fw5, fw6, fw7, ↓reduceIte, Nat.reduceAdd, Nat.reduceMul, Nat.reduceEqDiff, Nat.reduceLT, Nat.reduceLeDiff, reduceCtorEq, Bool.false_eq_true, Bool.not_true, Bool.not_false, and_self, Nat.le_refl] <;> rfl) (awp_ret ?_))
    exact gives_end (.inl rfl) _ (by rw [decide_eq_false (fun e => hk (by subst e; rfl))]; rfl)
  simp only [hk, decide_true, Bool.not_true, Bool.false_eq_true, ↓reduceIte]
  refine awp_skip ?_
  -- region 5
  refine awp_run rfl (by simp only [fw0, fw1, fw2, fw3, fw4, fw5, fw6, fw7, ↓reduceIte, Nat.reduceAdd, Nat.reduceMul, Nat.reduceEqDiff, Nat.reduceLT, Nat.reduceLeDiff, reduceCtorEq, Bool.false_eq_true, Bool.not_true, Bool.not_false, and_self, Nat.le_refl] <;> rfl) ?_
  exact ⟨i + 1, by omega, ⟨by omega, by rw [List.take_add_one, List.take_add_one, hi.2, ga, gb, Bd.ext hn hk]⟩, by rw [wrapS i (by omega)]; rfl, rfl, rfl⟩

end Go.Proofs.YtinedfjknhahmaaDoor
