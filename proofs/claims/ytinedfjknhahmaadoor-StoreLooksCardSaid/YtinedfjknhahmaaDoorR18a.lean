/- The contracts of what compares terms: the document's, and the program's. -/
import Derived.Test.YtinedfjknhahmaaDoorE18
namespace Go.Proofs.YtinedfjknhahmaaDoor
set_option linter.unusedVariables false
set_option linter.unusedSimpArgs false
open Go.RowKit Fw

theorem wrapN (n : Nat) (h : n < 9223372036854775808) : IntKind.i64.wrap (n : Int) = n := by
  unfold IntKind.wrap
  have hb : IntKind.i64.bits = 64 := rfl
  have hsg : IntKind.i64.signed = true := rfl
  simp only [hb, hsg, Bool.true_and, decide_eq_true_eq]
  have : (n : Int) % 2 ^ 64 = n := by omega
  rw [this, if_neg (by omega)]

theorem wrapS (n : Nat) (h : n + 1 < 9223372036854775808) : IntKind.i64.wrap ((n : Int) + 1) = ((n + 1 : Nat) : Int) := wrapN (n + 1) h

/-- chancelref03.Same -/
theorem c41 (Γ : Nat → PV) : ∀ a b : Tm, Gives Tryd.prog Γ 41 [.agg a.enc, .agg b.enc] (.bool (decide (a = b))) := by
  suffices ∀ n, ∀ a, SizeOf.sizeOf a < n → ∀ b : Tm, Gives Tryd.prog Γ 41 [.agg a.enc, .agg b.enc] (.bool (decide (a = b))) from fun a b => this _ a (Nat.lt_succ_self _) b
  intro n
  induction n with
  | zero => intro a ha; omega
  | succ n ih =>
  intro a ha b
  refine fn_of_awp Tryd.func41 rfl (by simp [Tryd.f41]) rfl fun H => ?_
  refine awp_seq ?_
  -- region 0
  refine awp_run rfl (by simp only [fw0, fw1, fw2, fw3, fw4, fw5, fw6, fw7, ↓reduceIte, Nat.reduceAdd, Nat.reduceMul, Nat.reduceEqDiff, Nat.reduceLT, Nat.reduceLeDiff, reduceCtorEq, Bool.false_eq_true, Bool.not_true, Bool.not_false, and_self, Nat.le_refl] <;> rfl) ?_
  refine awp_seq ?_
  refine awp_seq ?_
  -- region 1
  by_cases h1 : a.kind = b.kind
  rotate_left
  · refine awp_run rfl (by simp only [fw0, fw1, fw2, fw3, fw4, fw5, fw6, fw7, ↓reduceIte, Nat.reduceAdd, Nat.reduceMul, Nat.reduceEqDiff, Nat.reduceLT, Nat.reduceLeDiff, reduceCtorEq, Bool.false_eq_true, Bool.not_true, Bool.not_false, and_self, Nat.le_refl, fl34_0, ti3, fl34_1, ti9, fl34_2, ti2, fl34_3, ti32, un32, Tm.fw, h1, decide_false, decide_true, Bool.not_false, Bool.not_true] <;> rfl) ?_
    refine awp_cond (by simp only [fw0, fw1, fw2, fw3, fw4, fw5, fw6, fw7, ↓reduceIte, Nat.reduceAdd, Nat.reduceMul, Nat.reduceEqDiff, Nat.reduceLT, Nat.reduceLeDiff, reduceCtorEq, Bool.false_eq_true, Bool.not_true, Bool.not_false, and_self, Nat.le_refl] <;> rfl) ?_
    refine awp_seq (awp_run rfl (by simp only [fw0, fw1, fw2, fw3, fw4, fw5, fw6, fw7, ↓reduceIte, Nat.reduceAdd, Nat.reduceMul, Nat.reduceEqDiff, Nat.reduceLT, Nat.reduceLeDiff, reduceCtorEq, Bool.false_eq_true, Bool.not_true, Bool.not_false, and_self, Nat.le_refl] <;> rfl) (awp_ret ?_))
    exact gives_end (.inl rfl) _ (by rw [decide_eq_false (fun e => h1 (by rw [e]))]; rfl)
  by_cases h2 : a.name = b.name
  rotate_left
  · refine awp_run rfl (by simp only [fw0, fw1, fw2, fw3, fw4, fw5, fw6, fw7, ↓reduceIte, Nat.reduceAdd, Nat.reduceMul, Nat.reduceEqDiff, Nat.reduceLT, Nat.reduceLeDiff, reduceCtorEq, Bool.false_eq_true, Bool.not_true, Bool.not_false, and_self, Nat.le_refl, fl34_0, ti3, fl34_1, ti9, fl34_2, ti2, fl34_3, ti32, un32, Tm.fw, h1, h2, decide_false, decide_true, Bool.not_false, Bool.not_true] <;> rfl) ?_
    refine awp_cond (by simp only [fw0, fw1, fw2, fw3, fw4, fw5, fw6, fw7, ↓reduceIte, Nat.reduceAdd, Nat.reduceMul, Nat.reduceEqDiff, Nat.reduceLT, Nat.reduceLeDiff, reduceCtorEq, Bool.false_eq_true, Bool.not_true, Bool.not_false, and_self, Nat.le_refl] <;> rfl) ?_
    refine awp_seq (awp_run rfl (by simp only [fw0, fw1, fw2, fw3, fw4, fw5, fw6, fw7, ↓reduceIte, Nat.reduceAdd, Nat.reduceMul, Nat.reduceEqDiff, Nat.reduceLT, Nat.reduceLeDiff, reduceCtorEq, Bool.false_eq_true, Bool.not_true, Bool.not_false, and_self, Nat.le_refl] <;> rfl) (awp_ret ?_))
    exact gives_end (.inl rfl) _ (by rw [decide_eq_false (fun e => h2 (by rw [e]))]; rfl)
  by_cases h3 : a.n = b.n
  rotate_left
  · refine awp_run rfl (by simp only [fw0, fw1, fw2, fw3, fw4, fw5, fw6, fw7, ↓reduceIte, Nat.reduceAdd, Nat.reduceMul, Nat.reduceEqDiff, Nat.reduceLT, Nat.reduceLeDiff, reduceCtorEq, Bool.false_eq_true, Bool.not_true, Bool.not_false, and_self, Nat.le_refl, fl34_0, ti3, fl34_1, ti9, fl34_2, ti2, fl34_3, ti32, un32, Tm.fw, h1, h2, h3, decide_false, decide_true, Bool.not_false, Bool.not_true] <;> rfl) ?_
    refine awp_cond (by simp only [fw0, fw1, fw2, fw3, fw4, fw5, fw6, fw7, ↓reduceIte, Nat.reduceAdd, Nat.reduceMul, Nat.reduceEqDiff, Nat.reduceLT, Nat.reduceLeDiff, reduceCtorEq, Bool.false_eq_true, Bool.not_true, Bool.not_false, and_self, Nat.le_refl] <;> rfl) ?_
    refine awp_seq (awp_run rfl (by simp only [fw0, fw1, fw2, fw3, fw4, fw5, fw6, fw7, ↓reduceIte, Nat.reduceAdd, Nat.reduceMul, Nat.reduceEqDiff, Nat.reduceLT, Nat.reduceLeDiff, reduceCtorEq, Bool.false_eq_true, Bool.not_true, Bool.not_false, and_self, Nat.le_refl] <;> rfl) (awp_ret ?_))
    exact gives_end (.inl rfl) _ (by rw [decide_eq_false (fun e => h3 (by rw [e]))]; rfl)
  by_cases h4 : (a.kids.length : Int) = b.kids.length
  rotate_left
  · refine awp_run rfl (by simp only [fw0, fw1, fw2, fw3, fw4, fw5, fw6, fw7, ↓reduceIte, Nat.reduceAdd, Nat.reduceMul, Nat.reduceEqDiff, Nat.reduceLT, Nat.reduceLeDiff, reduceCtorEq, Bool.false_eq_true, Bool.not_true, Bool.not_false, and_self, Nat.le_refl, fl34_0, ti3, fl34_1, ti9, fl34_2, ti2, fl34_3, ti32, un32, Tm.fw, h1, h2, h3, h4, List.length_map, decide_false, decide_true, Bool.not_false, Bool.not_true] <;> rfl) ?_
    refine awp_cond (by simp only [fw0, fw1, fw2, fw3, fw4, fw5, fw6, fw7, ↓reduceIte, Nat.reduceAdd, Nat.reduceMul, Nat.reduceEqDiff, Nat.reduceLT, Nat.reduceLeDiff, reduceCtorEq, Bool.false_eq_true, Bool.not_true, Bool.not_false, and_self, Nat.le_refl] <;> rfl) ?_
    refine awp_seq (awp_run rfl (by simp only [fw0, fw1, fw2, fw3, fw4, fw5, fw6, fw7, ↓reduceIte, Nat.reduceAdd, Nat.reduceMul, Nat.reduceEqDiff, Nat.reduceLT, Nat.reduceLeDiff, reduceCtorEq, Bool.false_eq_true, Bool.not_true, Bool.not_false, and_self, Nat.le_refl] <;> rfl) (awp_ret ?_))
    exact gives_end (.inl rfl) _ (by rw [decide_eq_false (fun e => h4 (by rw [e]))]; rfl)
  refine awp_run rfl (by simp only [fw0, fw1, fw2, fw3, fw4, fw5, fw6, fw7, ↓reduceIte, Nat.reduceAdd, Nat.reduceMul, Nat.reduceEqDiff, Nat.reduceLT, Nat.reduceLeDiff, reduceCtorEq, Bool.false_eq_true, Bool.not_true, Bool.not_false, and_self, Nat.le_refl, fl34_0, ti3, fl34_1, ti9, fl34_2, ti2, fl34_3, ti32, un32, Tm.fw, h1, h2, h3, h4, List.length_map, decide_true, Bool.not_true] <;> rfl) ?_
  refine awp_cond (by simp only [fw0, fw1, fw2, fw3, fw4, fw5, fw6, fw7, ↓reduceIte, Nat.reduceAdd, Nat.reduceMul, Nat.reduceEqDiff, Nat.reduceLT, Nat.reduceLeDiff, reduceCtorEq, Bool.false_eq_true, Bool.not_true, Bool.not_false, and_self, Nat.le_refl] <;> rfl) (awp_skip ?_)
  refine awp_seq ?_
  refine awp_seq ?_
  -- region 3
  refine awp_run rfl (by simp only [fw0, fw1, fw2, fw3, fw4, fw5, fw6, fw7, ↓reduceIte, Nat.reduceAdd, Nat.reduceMul, Nat.reduceEqDiff, Nat.reduceLT, Nat.reduceLeDiff, reduceCtorEq, Bool.false_eq_true, Bool.not_true, Bool.not_false, and_self, Nat.le_refl] <;> rfl) ?_
  have h4' : a.kids.length = b.kids.length := by omega
  refine awp_block ?_
  refine awp_for [2, 3, 5] (fun i : Nat => [.ptr H.length 0, .ptr (H.length + 1) 0, .int .i64 (i : Int)]) (fun _ => H ++ [.box a.enc, .box b.enc]) (fun i => a.kids.length - i)
    (fun i => i ≤ a.kids.length ∧ a.kids.take i = b.kids.take i) 0 rfl rfl ⟨Nat.zero_le _, rfl⟩ fun i hi => ?_
  refine awp_seq ?_
  refine awp_seq ?_
  -- region 4
  refine awp_run rfl (by simp only [fw0, fw1, fw2, fw3, fw4, fw5, fw6, fw7, ↓reduceIte, Nat.reduceAdd, Nat.reduceMul, Nat.reduceEqDiff, Nat.reduceLT, Nat.reduceLeDiff, reduceCtorEq, Bool.false_eq_true, Bool.not_true, Bool.not_false, and_self, Nat.le_refl, fl34_3, ti32, un32, Tm.fw, List.length_map] <;> rfl) ?_
  refine awp_vlen 36 rfl fun hlen => ?_
  rw [List.length_map] at hlen
  refine awp_cond (by simp only [fw0, fw1, fw2, fw3, fw4, fw5, fw6, fw7, ↓reduceIte, Nat.reduceAdd, Nat.reduceMul, Nat.reduceEqDiff, Nat.reduceLT, Nat.reduceLeDiff, reduceCtorEq, Bool.false_eq_true, Bool.not_true, Bool.not_false, and_self, Nat.le_refl] <;> rfl) ?_
  by_cases hc : (i : Int) < a.kids.length
  rotate_left
  · simp only [hc, decide_false, Bool.false_eq_true, ↓reduceIte]
    refine awp_exit ?_
    have hi' : i = a.kids.length := by omega
    refine awp_seq (awp_run rfl (by simp only [fw0, fw1, fw2, fw3, fw4, fw5, fw6, fw7, ↓reduceIte, Nat.reduceAdd, Nat.reduceMul, Nat.reduceEqDiff, Nat.reduceLT, Nat.reduceLeDiff, reduceCtorEq, Bool.false_eq_true, Bool.not_true, Bool.not_false, and_self, Nat.le_refl] <;> rfl) (awp_ret ?_))
    have e : a = b := Tm.ext h1 h2 h3 (by
      have := hi.2
      rwa [hi', List.take_length, h4', List.take_length] at this)
    exact gives_end (.inl rfl) _ (by rw [decide_eq_true e]; rfl)
  simp only [hc, decide_true, ↓reduceIte]
  refine awp_skip ?_
  refine awp_seq ?_
  refine awp_block ?_
  refine awp_seq ?_
  have hia : i < a.kids.length := by omega
  have ga : a.kids[i]? = some a.kids[i] := List.getElem?_eq_getElem hia
  have gb : b.kids[i]? = some (b.kids[i]'(by omega)) := List.getElem?_eq_getElem (by omega)
  -- region 6 drawn
  refine awp_drawn [0, 1, 0, 0, 1, 0, 1, 0, 0, 1, 0, 0] [0, 1, 0, 7, 15, 0, 32, 0, 224, 480, 1023, 2047] mixed rfl (by kernel_rfl) ?_
  refine dops_run 10 (by simp only [fw0, fw1, fw2, fw3, fw4, fw5, fw6, fw7, ↓reduceIte, Nat.reduceAdd, Nat.reduceMul, Nat.reduceEqDiff, Nat.reduceLT, Nat.reduceLeDiff, reduceCtorEq, Bool.false_eq_true, Bool.not_true, Bool.not_false, and_self, Nat.le_refl, fl34_3, ti32, el32, ti34, Tm.fw, List.getElem?_map, ga, gb, Option.map_some, Int.natCast_nonneg] <;> rfl) ?_
  refine dops_fn rfl rfl rfl rfl en41 (ih _ (by have := Tm.kids_lt (List.getElem_mem hia); omega) _) ?_
  refine dops_run 1 (by simp only [fw0, fw1, fw2, fw3, fw4, fw5, fw6, fw7, ↓reduceIte, Nat.reduceAdd, Nat.reduceMul, Nat.reduceEqDiff, Nat.reduceLT, Nat.reduceLeDiff, reduceCtorEq, Bool.false_eq_true, Bool.not_true, Bool.not_false, and_self, Nat.le_refl] <;> rfl) ?_
  refine dops_end ?_
  refine awp_cond (by simp only [fw0, fw1, fw2, fw3, fw4, fw5, fw6, fw7, ↓reduceIte, Nat.reduceAdd, Nat.reduceMul, Nat.reduceEqDiff, Nat.reduceLT, Nat.reduceLeDiff, reduceCtorEq, Bool.false_eq_true, Bool.not_true, Bool.not_false, and_self, Nat.le_refl] <;> rfl) ?_
  by_cases hk : a.kids[i] = b.kids[i]'(by omega)
  rotate_left
  · simp only [hk, decide_false, Bool.not_false, ↓reduceIte]
    refine awp_seq (awp_run rfl (by simp only [fw0, fw1, fw2, fw3, fw4, fw5, fw6, fw7, ↓reduceIte, Nat.reduceAdd, Nat.reduceMul, Nat.reduceEqDiff, Nat.reduceLT, Nat.reduceLeDiff, reduceCtorEq, Bool.false_eq_true, Bool.not_true, Bool.not_false, and_self, Nat.le_refl] <;> rfl) (awp_ret ?_))
    exact gives_end (.inl rfl) _ (by rw [decide_eq_false (fun e => hk (by subst e; rfl))]; rfl)
  simp only [hk, decide_true, Bool.not_true, Bool.false_eq_true, ↓reduceIte]
  refine awp_skip ?_
  -- region 5
  refine awp_run rfl (by simp only [fw0, fw1, fw2, fw3, fw4, fw5, fw6, fw7, ↓reduceIte, Nat.reduceAdd, Nat.reduceMul, Nat.reduceEqDiff, Nat.reduceLT, Nat.reduceLeDiff, reduceCtorEq, Bool.false_eq_true, Bool.not_true, Bool.not_false, and_self, Nat.le_refl] <;> rfl) ?_
  exact ⟨i + 1, by omega, ⟨by omega, by rw [List.take_add_one, List.take_add_one, hi.2, ga, gb, hk]⟩, by rw [wrapS i (by omega)]; rfl, rfl, rfl⟩
end Go.Proofs.YtinedfjknhahmaaDoor
