/- The contracts of what binds names. -/
import Derived.Test.YtinedfjknhahmaaDoorR18g
namespace Go.Proofs.YtinedfjknhahmaaDoor
set_option linter.unusedVariables false
set_option linter.unusedSimpArgs false
open Go.RowKit Fw

/-- slices.Clip, of names -/
theorem c43 (Γ : Nat → PV) (l : List Bd) : Gives Tryd.prog Γ 43 [.vec (l.map Bd.enc) false] (.vec (l.map Bd.enc) true) := by
  refine fn_of_awp Tryd.func43 rfl (by simp [Tryd.f43]) rfl fun H => ?_
  refine awp_seq ?_
  refine awp_run rfl (by simp only [fw0, fw1, fw2, fw3, fw4, fw5, fw6, fw7, ↓reduceIte, Nat.reduceAdd, Nat.reduceMul, Nat.reduceEqDiff, Nat.reduceLT, Nat.reduceLeDiff, reduceCtorEq, Bool.false_eq_true, Bool.not_true, Bool.not_false, and_self, Nat.le_refl] <;> rfl) ?_
  refine awp_seq ?_
  refine awp_region rfl ?_
  refine aops_run 5 (by simp only [fw0, fw1, fw2, fw3, fw4, fw5, fw6, fw7, ↓reduceIte, Nat.reduceAdd, Nat.reduceMul, Nat.reduceEqDiff, Nat.reduceLT, Nat.reduceLeDiff, reduceCtorEq, Bool.false_eq_true, Bool.not_true, Bool.not_false, and_self, Nat.le_refl, un25, List.length_map] <;> rfl) ?_
  refine aops_one rfl (os_sliceVec (l := 0) (h := l.length) rfl el25 rfl (fun e he => by obtain ⟨x, _, rfl⟩ := List.mem_map.1 he; exact Bd.enc_len x) rfl ⟨_, rfl⟩ ⟨rfl, _, rfl⟩ (Nat.zero_le _) (by rw [List.length_map]; exact Nat.le_refl _) ?_)
  refine aops_run 1 (by simp only [fw0, fw1, fw2, fw3, fw4, fw5, fw6, fw7, ↓reduceIte, Nat.reduceAdd, Nat.reduceMul, Nat.reduceEqDiff, Nat.reduceLT, Nat.reduceLeDiff, reduceCtorEq, Bool.false_eq_true, Bool.not_true, Bool.not_false, and_self, Nat.le_refl] <;> rfl) ?_
  refine awp_ret ?_
  refine gives_end0 (.inl rfl) ?_
  have e : (l.map Bd.enc).take l.length = l.map Bd.enc := List.take_of_length_le (by simp)
  simp [ares, aresL, ares1, alook, Tryd.f43, e]

/-- store.Bind -/
theorem c23 (Γ : Nat → PV) (l : List Bd) (nm : List UInt8) (v : Val) (hl : l.length * 128 ≤ reachBytes) : Gives Tryd.prog Γ 23 [.vec (l.map Bd.enc) false, .str nm, .agg v.enc] (.vec ((l ++ [Bd.mk nm v]).map Bd.enc) false) := by
  refine fn_of_awp Tryd.func23 rfl (by simp [Tryd.f23]) rfl fun H => ?_
  refine awp_seq ?_
  refine awp_run rfl (by simp only [fw0, fw1, fw2, fw3, fw4, fw5, fw6, fw7, ↓reduceIte, Nat.reduceAdd, Nat.reduceMul, Nat.reduceEqDiff, Nat.reduceLT, Nat.reduceLeDiff, reduceCtorEq, Bool.false_eq_true, Bool.not_true, Bool.not_false, and_self, Nat.le_refl] <;> rfl) ?_
  refine awp_seq ?_
  refine awp_drawn [0, 0, 0, 1, 0, 0, 0, 0] [0, 1, 0, 0, 12, 28, 63, 127] mixed rfl (by kernel_rfl) ?_
  refine dops_run 1 (by simp only [fw0, fw1, fw2, fw3, fw4, fw5, fw6, fw7, ↓reduceIte, Nat.reduceAdd, Nat.reduceMul, Nat.reduceEqDiff, Nat.reduceLT, Nat.reduceLeDiff, reduceCtorEq, Bool.false_eq_true, Bool.not_true, Bool.not_false, and_self, Nat.le_refl] <;> rfl) ?_
  refine dops_fn rfl rfl rfl rfl en43 (c43 Γ l) ?_
  refine dops_run 4 (by simp only [fw0, fw1, fw2, fw3, fw4, fw5, fw6, fw7, ↓reduceIte, Nat.reduceAdd, Nat.reduceMul, Nat.reduceEqDiff, Nat.reduceLT, Nat.reduceLeDiff, reduceCtorEq, Bool.false_eq_true, Bool.not_true, Bool.not_false, and_self, Nat.le_refl, ti27, ti75, pl75, un25, Val.fw] <;> rfl) ?_
  refine dops_appendVV rfl rfl rfl un25 ti75 un25 rfl (fun e he => by obtain ⟨x, _, rfl⟩ := List.mem_map.1 he; exact Bd.enc_len x) rfl (fun e he => by
    simp only [List.mem_singleton] at he
    subst he; simp only [fw0, fw1, fw2, fw3, fw4, fw5, fw6, fw7, ↓reduceIte, Nat.reduceAdd, Nat.reduceMul, Nat.reduceEqDiff, Nat.reduceLT, Nat.reduceLeDiff, reduceCtorEq, Bool.false_eq_true, Bool.not_true, Bool.not_false, and_self, Nat.le_refl, Val.fw]) (by unfold reachBytes at hl; rw [List.length_map]; show (l.length + 1) * 128 ≤ _; omega) (by unfold reachBytes at hl; rw [List.length_map]; show l.length + 1 ≤ _; omega) ?_
  refine dops_run 1 (by simp only [fw0, fw1, fw2, fw3, fw4, fw5, fw6, fw7, ↓reduceIte, Nat.reduceAdd, Nat.reduceMul, Nat.reduceEqDiff, Nat.reduceLT, Nat.reduceLeDiff, reduceCtorEq, Bool.false_eq_true, Bool.not_true, Bool.not_false, and_self, Nat.le_refl] <;> rfl) ?_
  refine dops_end ?_
  refine awp_ret ?_
  refine gives_end (.inl rfl) _ ?_
  simp [ares, aresL, ares1, alook, Tryd.f23, Bd.enc_eq (Bd.mk nm v), Bd.name, Bd.v]

/-- A whole number, as a value. -/
def wholeV (n : Int) : Val := .mk 1 n [] (.mk 0 [] 0 []) []
def wholeP (n : Int) : PV := .agg [.int .i64 1, .int .i64 n, .str [], .int .i64 0, .str [], .int .i64 0, .vec [] true, .vec [] true]

/-- store.Whole -/
theorem c28 (Γ : Nat → PV) (n : Int) : Gives Tryd.prog Γ 28 [.int .i64 n] (.agg (wholeV n).enc) := by
  refine Gives.res (p := wholeP n) ?_ (by
    simp [wholeP, wholeV, Val.enc, Tm.enc, Tm.encs, Bd.encs, PV.le, PV.leL, PV.leLL])
  refine fn_of_awp Tryd.func28 rfl (by simp [Tryd.f28]) rfl fun H => ?_
  refine awp_seq ?_
  refine awp_run rfl (by simp only [fw0, fw1, fw2, fw3, fw4, fw5, fw6, fw7, ↓reduceIte, Nat.reduceAdd, Nat.reduceMul, Nat.reduceEqDiff, Nat.reduceLT, Nat.reduceLeDiff, reduceCtorEq, Bool.false_eq_true, Bool.not_true, Bool.not_false, and_self, Nat.le_refl, ti27] <;> rfl) ?_
  refine awp_seq ?_
  refine awp_run rfl (by simp only [fw0, fw1, fw2, fw3, fw4, fw5, fw6, fw7, ↓reduceIte, Nat.reduceAdd, Nat.reduceMul, Nat.reduceEqDiff, Nat.reduceLT, Nat.reduceLeDiff, reduceCtorEq, Bool.false_eq_true, Bool.not_true, Bool.not_false, and_self, Nat.le_refl, ti27, pl27] <;> rfl) ?_
  refine awp_ret ?_
  refine gives_end (.inl rfl) _ ?_
  simp only [fw0, fw1, fw2, fw3, fw4, fw5, fw6, fw7, ↓reduceIte, Nat.reduceAdd, Nat.reduceMul, Nat.reduceEqDiff, Nat.reduceLT, Nat.reduceLeDiff, reduceCtorEq, Bool.false_eq_true, Bool.not_true, Bool.not_false, and_self, Nat.le_refl, ares, aresL, ares1, Tryd.f28, ti27, wholeP]

/-- chancelref18.Whole -/
theorem c29 (Γ : Nat → PV) (n : Int) : Gives Tryd.prog Γ 29 [.int .i64 n] (.agg (wholeV n).enc) := by
  refine Gives.res (p := wholeP n) ?_ (by
    simp [wholeP, wholeV, Val.enc, Tm.enc, Tm.encs, Bd.encs, PV.le, PV.leL, PV.leLL])
  refine fn_of_awp Tryd.func29 rfl (by simp [Tryd.f29]) rfl fun H => ?_
  refine awp_seq ?_
  refine awp_run rfl (by simp only [fw0, fw1, fw2, fw3, fw4, fw5, fw6, fw7, ↓reduceIte, Nat.reduceAdd, Nat.reduceMul, Nat.reduceEqDiff, Nat.reduceLT, Nat.reduceLeDiff, reduceCtorEq, Bool.false_eq_true, Bool.not_true, Bool.not_false, and_self, Nat.le_refl, ti37] <;> rfl) ?_
  refine awp_seq ?_
  refine awp_run rfl (by simp only [fw0, fw1, fw2, fw3, fw4, fw5, fw6, fw7, ↓reduceIte, Nat.reduceAdd, Nat.reduceMul, Nat.reduceEqDiff, Nat.reduceLT, Nat.reduceLeDiff, reduceCtorEq, Bool.false_eq_true, Bool.not_true, Bool.not_false, and_self, Nat.le_refl, ti37, pl37] <;> rfl) ?_
  refine awp_ret ?_
  refine gives_end (.inl rfl) _ ?_
  simp only [fw0, fw1, fw2, fw3, fw4, fw5, fw6, fw7, ↓reduceIte, Nat.reduceAdd, Nat.reduceMul, Nat.reduceEqDiff, Nat.reduceLT, Nat.reduceLeDiff, reduceCtorEq, Bool.false_eq_true, Bool.not_true, Bool.not_false, and_self, Nat.le_refl, ares, aresL, ares1, Tryd.f29, ti37, wholeP]

end Go.Proofs.YtinedfjknhahmaaDoor
