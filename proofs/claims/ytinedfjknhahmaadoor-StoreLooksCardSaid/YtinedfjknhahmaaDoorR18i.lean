/- The contracts of the program's functions on cells. -/
import Derived.Test.YtinedfjknhahmaaDoorR18h
namespace Go.Proofs.YtinedfjknhahmaaDoor
set_option linter.unusedVariables false
set_option linter.unusedSimpArgs false
open Go.RowKit Fw

/-- store.place's closure -/
theorem c51 (Γ : Nat → PV) (H : List Blk) (b : Nat) (nm : List UInt8) (hb : H[b]? = some (.box [.str nm])) (s : Sl) :
    ACalls Tryd.prog Γ 51 [.agg s.enc, .ptr b 0] H (fun p H' => p = .bool (decide (s.name = nm)) ∧ H' = H) := by
  refine acalls_of_awp Tryd.func51 rfl (by simp [Tryd.f51]) fun hbd => ?_
  have hb' := get_old [.box [.str s.name, .int .i64 s.n]] hb
  refine awp_seq (awp_run rfl (by simp only [fw0, fw1, fw2, fw3, fw4, fw5, fw6, fw7, ↓reduceIte, Nat.reduceAdd, Nat.reduceMul, Nat.reduceEqDiff, Nat.reduceLT, Nat.reduceLeDiff, reduceCtorEq, Bool.false_eq_true, Bool.not_true, Bool.not_false, and_self, Nat.le_refl] <;> rfl) ?_)
  refine awp_seq (awp_run rfl (by simp only [fw0, fw1, fw2, fw3, fw4, fw5, fw6, fw7, ↓reduceIte, Nat.reduceAdd, Nat.reduceMul, Nat.reduceEqDiff, Nat.reduceLT, Nat.reduceLeDiff, reduceCtorEq, Bool.false_eq_true, Bool.not_true, Bool.not_false, and_self, Nat.le_refl, ti65, ti9, fl65_1, ti2, pl65, eq65, Sl.fw, hb', show s.enc = [.str s.name, .int .i64 s.n] from rfl] <;> rfl) ?_)
  refine awp_ret (calls_end _ (.inl rfl) hbd rfl rfl ⟨?_, rfl⟩)
  show PV.bool (decide (s.name = nm) && (decide True && true)) = _
  simp

/-- slices.IndexFunc, of cells -/
theorem c50 (Γ : Nat → PV) (H : List Blk) (f : Nat) (he : Enters Tryd.prog f) (caps : List PV) (hcaps : PV.bdL H.length caps = true) (l : List Sl) (nm : List UInt8)
    (h : ∀ s : Sl, ACalls Tryd.prog Γ f ([.agg s.enc] ++ caps) H (fun p H' => p = .bool (decide (s.name = nm)) ∧ H' = H)) :
    ACalls Tryd.prog Γ 50 [.vec (l.map Sl.enc) false, .func (.func f) [] caps] H (fun p H' => p = .int .i64 (fndI l nm) ∧ H' = H) := by
  refine acalls_of_awp Tryd.func50 rfl (by simp [Tryd.f50]) fun hbd => ?_
  refine awp_seq ?_
  refine awp_run rfl (by simp only [fw0, fw1, fw2, fw3, fw4, fw5, fw6, fw7, ↓reduceIte, Nat.reduceAdd, Nat.reduceMul, Nat.reduceEqDiff, Nat.reduceLT, Nat.reduceLeDiff, reduceCtorEq, Bool.false_eq_true, Bool.not_true, Bool.not_false, and_self, Nat.le_refl] <;> rfl) ?_
  refine awp_vlen 0 rfl fun hlen => ?_
  rw [List.length_map] at hlen
  refine awp_seq ?_
  refine awp_seq ?_
  refine awp_run rfl (by simp only [fw0, fw1, fw2, fw3, fw4, fw5, fw6, fw7, ↓reduceIte, Nat.reduceAdd, Nat.reduceMul, Nat.reduceEqDiff, Nat.reduceLT, Nat.reduceLeDiff, reduceCtorEq, Bool.false_eq_true, Bool.not_true, Bool.not_false, and_self, Nat.le_refl, un28, List.length_map] <;> rfl) ?_
  refine awp_block ?_
  refine awp_for [0, 1, 7, 8] (fun i : Nat => [.vec (l.map Sl.enc) false, .func (.func f) [] caps, .int .i64 l.length, .int .i64 (i : Int)]) (fun _ => H) (fun i => l.length - i)
    (fun i => i ≤ l.length ∧ fnd l nm = (fnd (l.drop i) nm).map (· + i)) 0 rfl rfl ⟨Nat.zero_le _, by simp⟩ fun i hi => ?_
  refine awp_seq ?_
  refine awp_run rfl (by simp only [fw0, fw1, fw2, fw3, fw4, fw5, fw6, fw7, ↓reduceIte, Nat.reduceAdd, Nat.reduceMul, Nat.reduceEqDiff, Nat.reduceLT, Nat.reduceLeDiff, reduceCtorEq, Bool.false_eq_true, Bool.not_true, Bool.not_false, and_self, Nat.le_refl] <;> rfl) ?_
  refine awp_seq ?_
  refine awp_cond (by simp only [fw0, fw1, fw2, fw3, fw4, fw5, fw6, fw7, ↓reduceIte, Nat.reduceAdd, Nat.reduceMul, Nat.reduceEqDiff, Nat.reduceLT, Nat.reduceLeDiff, reduceCtorEq, Bool.false_eq_true, Bool.not_true, Bool.not_false, and_self, Nat.le_refl] <;> rfl) ?_
  by_cases hc : (i : Int) < l.length
  rotate_left
  · simp only [hc, decide_false, Bool.false_eq_true, ↓reduceIte]
    refine awp_exit ?_
    refine awp_seq (awp_run rfl (by simp only [fw0, fw1, fw2, fw3, fw4, fw5, fw6, fw7, ↓reduceIte, Nat.reduceAdd, Nat.reduceMul, Nat.reduceEqDiff, Nat.reduceLT, Nat.reduceLeDiff, reduceCtorEq, Bool.false_eq_true, Bool.not_true, Bool.not_false, and_self, Nat.le_refl] <;> rfl) (awp_ret ?_))
    have e : fndI l nm = -1 := by
      unfold fndI
      rw [hi.2, List.drop_of_length_le (by omega)]; rfl
    exact calls_end0 (p := .int .i64 (-1)) (.inl rfl) hbd rfl rfl ⟨by rw [e], rfl⟩
  simp only [hc, decide_true, ↓reduceIte]
  refine awp_skip ?_
  have hia : i < l.length := by omega
  have ga : l[i]? = some l[i] := List.getElem?_eq_getElem hia
  refine awp_seq ?_
  refine awp_block ?_
  refine awp_seq ?_
  refine awp_run rfl (by simp only [fw0, fw1, fw2, fw3, fw4, fw5, fw6, fw7, ↓reduceIte, Nat.reduceAdd, Nat.reduceMul, Nat.reduceEqDiff, Nat.reduceLT, Nat.reduceLeDiff, reduceCtorEq, Bool.false_eq_true, Bool.not_true, Bool.not_false, and_self, Nat.le_refl] <;> rfl) ?_
  refine awp_seq ?_
  refine awp_region rfl ?_
  refine aops_run 5 (by simp only [fw0, fw1, fw2, fw3, fw4, fw5, fw6, fw7, ↓reduceIte, Nat.reduceAdd, Nat.reduceMul, Nat.reduceEqDiff, Nat.reduceLT, Nat.reduceLeDiff, reduceCtorEq, Bool.false_eq_true, Bool.not_true, Bool.not_false, and_self, Nat.le_refl, el28, ti65, Sl.fw, List.getElem?_map, ga, Option.map_some, Int.natCast_nonneg] <;> rfl) ?_
  refine aops_call rfl rfl rfl he ((h l[i]).mono fun p H' hp => ?_)
  obtain ⟨rfl, rfl⟩ := hp
  refine awp_cond (by simp only [fw0, fw1, fw2, fw3, fw4, fw5, fw6, fw7, ↓reduceIte, Nat.reduceAdd, Nat.reduceMul, Nat.reduceEqDiff, Nat.reduceLT, Nat.reduceLeDiff, reduceCtorEq, Bool.false_eq_true, Bool.not_true, Bool.not_false, and_self, Nat.le_refl] <;> rfl) ?_
  by_cases hn : l[i].name = nm
  · simp only [hn, decide_true, ↓reduceIte]
    refine awp_seq (awp_run rfl (by simp only [fw0, fw1, fw2, fw3, fw4, fw5, fw6, fw7, ↓reduceIte, Nat.reduceAdd, Nat.reduceMul, Nat.reduceEqDiff, Nat.reduceLT, Nat.reduceLeDiff, reduceCtorEq, Bool.false_eq_true, Bool.not_true, Bool.not_false, and_self, Nat.le_refl] <;> rfl) (awp_ret ?_))
    have e : fndI l nm = i := by
      unfold fndI
      rw [hi.2, fnd_drop ga, if_pos hn]; simp
    simp only [Post.block, Post.then]
    refine calls_end0 (p := .int .i64 (i : Int)) (.inl rfl) hbd ?_ ?_ ?_
    · rfl
    · rfl
    · exact ⟨by rw [e], rfl⟩
  simp only [hn, decide_false, Bool.false_eq_true, ↓reduceIte]
  refine awp_skip ?_
  refine awp_run rfl (by simp only [fw0, fw1, fw2, fw3, fw4, fw5, fw6, fw7, ↓reduceIte, Nat.reduceAdd, Nat.reduceMul, Nat.reduceEqDiff, Nat.reduceLT, Nat.reduceLeDiff, reduceCtorEq, Bool.false_eq_true, Bool.not_true, Bool.not_false, and_self, Nat.le_refl] <;> rfl) ?_
  refine ⟨i + 1, by omega, ⟨by omega, ?_⟩, by rw [wrapS i (by omega)]; rfl, rfl, rfl⟩
  rw [hi.2, fnd_drop ga, if_neg hn, Option.map_map]
  congr 1
  funext k
  simp only [Function.comp]; omega

/-- store.place -/
theorem c31 (Γ : Nat → PV) (l : List Sl) (nm : List UInt8) : Gives Tryd.prog Γ 31 [.vec (l.map Sl.enc) false, .str nm] (.int .i64 (fndI l nm)) := by
  refine fn_of_awp Tryd.func31 rfl (by simp [Tryd.f31]) rfl fun H => ?_
  refine awp_seq ?_
  refine awp_run rfl (by simp only [fw0, fw1, fw2, fw3, fw4, fw5, fw6, fw7, ↓reduceIte, Nat.reduceAdd, Nat.reduceMul, Nat.reduceEqDiff, Nat.reduceLT, Nat.reduceLeDiff, reduceCtorEq, Bool.false_eq_true, Bool.not_true, Bool.not_false, and_self, Nat.le_refl] <;> rfl) ?_
  refine awp_seq ?_
  refine awp_region rfl ?_
  refine aops_run 2 (by simp only [fw0, fw1, fw2, fw3, fw4, fw5, fw6, fw7, ↓reduceIte, Nat.reduceAdd, Nat.reduceMul, Nat.reduceEqDiff, Nat.reduceLT, Nat.reduceLeDiff, reduceCtorEq, Bool.false_eq_true, Bool.not_true, Bool.not_false, and_self, Nat.le_refl] <;> rfl) ?_
  refine aops_call rfl rfl rfl en50 ((c50 Γ _ 51 en51 [.ptr H.length 0] (by simp [PV.bdL, PV.bd]) l nm (fun s => c51 Γ _ _ nm (by simp only [fw0, fw1, fw2, fw3, fw4, fw5, fw6, fw7, ↓reduceIte, Nat.reduceAdd, Nat.reduceMul, Nat.reduceEqDiff, Nat.reduceLT, Nat.reduceLeDiff, reduceCtorEq, Bool.false_eq_true, Bool.not_true, Bool.not_false, and_self, Nat.le_refl]) s)).mono fun p H' hp => ?_)
  obtain ⟨rfl, rfl⟩ := hp
  refine aops_run 1 (by simp only [fw0, fw1, fw2, fw3, fw4, fw5, fw6, fw7, ↓reduceIte, Nat.reduceAdd, Nat.reduceMul, Nat.reduceEqDiff, Nat.reduceLT, Nat.reduceLeDiff, reduceCtorEq, Bool.false_eq_true, Bool.not_true, Bool.not_false, and_self, Nat.le_refl] <;> rfl) ?_
  refine awp_ret ?_
  exact gives_end (.inl rfl) _ rfl

/-- store.Read -/
theorem c13 (Γ : Nat → PV) (l : List Sl) (nm : List UInt8) : Gives Tryd.prog Γ 13 [.vec (l.map Sl.enc) false, .str nm] (readP l nm) := by
  refine fn_of_awp Tryd.func13 rfl (by simp [Tryd.f13]) rfl fun H => ?_
  refine awp_seq ?_
  -- region 0
  refine awp_run rfl (by simp only [fw0, fw1, fw2, fw3, fw4, fw5, fw6, fw7, ↓reduceIte, Nat.reduceAdd, Nat.reduceMul, Nat.reduceEqDiff, Nat.reduceLT, Nat.reduceLeDiff, reduceCtorEq, Bool.false_eq_true, Bool.not_true, Bool.not_false, and_self, Nat.le_refl] <;> rfl) ?_
  refine awp_seq ?_
  -- region 1
  refine awp_region rfl ?_
  refine aops_run 2 (by simp only [fw0, fw1, fw2, fw3, fw4, fw5, fw6, fw7, ↓reduceIte, Nat.reduceAdd, Nat.reduceMul, Nat.reduceEqDiff, Nat.reduceLT, Nat.reduceLeDiff, reduceCtorEq, Bool.false_eq_true, Bool.not_true, Bool.not_false, and_self, Nat.le_refl] <;> rfl) ?_
  refine aops_fn rfl rfl rfl en31 (c31 Γ _ _) ?_
  refine aops_run 1 (by simp only [fw0, fw1, fw2, fw3, fw4, fw5, fw6, fw7, ↓reduceIte, Nat.reduceAdd, Nat.reduceMul, Nat.reduceEqDiff, Nat.reduceLT, Nat.reduceLeDiff, reduceCtorEq, Bool.false_eq_true, Bool.not_true, Bool.not_false, and_self, Nat.le_refl] <;> rfl) ?_
  refine awp_seq ?_
  refine awp_seq ?_
  -- region 2
  refine awp_run rfl (by simp only [fw0, fw1, fw2, fw3, fw4, fw5, fw6, fw7, ↓reduceIte, Nat.reduceAdd, Nat.reduceMul, Nat.reduceEqDiff, Nat.reduceLT, Nat.reduceLeDiff, reduceCtorEq, Bool.false_eq_true, Bool.not_true, Bool.not_false, and_self, Nat.le_refl] <;> rfl) ?_
  refine awp_cond (by simp only [fw0, fw1, fw2, fw3, fw4, fw5, fw6, fw7, ↓reduceIte, Nat.reduceAdd, Nat.reduceMul, Nat.reduceEqDiff, Nat.reduceLT, Nat.reduceLeDiff, reduceCtorEq, Bool.false_eq_true, Bool.not_true, Bool.not_false, and_self, Nat.le_refl] <;> rfl) ?_
  cases hf : fnd l nm with
  | none =>
    have e : fndI l nm = -1 := by unfold fndI; rw [hf]
    simp only [e, show decide ((-1 : Int) < 0) = true from rfl, ↓reduceIte]
    refine awp_seq (awp_run rfl (by simp only [fw0, fw1, fw2, fw3, fw4, fw5, fw6, fw7, ↓reduceIte, Nat.reduceAdd, Nat.reduceMul, Nat.reduceEqDiff, Nat.reduceLT, Nat.reduceLeDiff, reduceCtorEq, Bool.false_eq_true, Bool.not_true, Bool.not_false, and_self, Nat.le_refl] <;> rfl) (awp_ret ?_))
    exact gives_end0 (.inl rfl) (by simp [readP, readV, hf, ares, aresL, ares1, alook, Tryd.f13])
  | some i =>
    have e : fndI l nm = i := by unfold fndI; rw [hf]
    have hi := fnd_lt hf
    have ga : l[i]? = some l[i] := List.getElem?_eq_getElem hi
    have h0 : ¬ ((i : Int) < 0) := by omega
    simp only [e, h0, decide_false, Bool.false_eq_true, ↓reduceIte]
    refine awp_skip ?_
    refine awp_seq (awp_run rfl (by simp only [fw0, fw1, fw2, fw3, fw4, fw5, fw6, fw7, ↓reduceIte, Nat.reduceAdd, Nat.reduceMul, Nat.reduceEqDiff, Nat.reduceLT, Nat.reduceLeDiff, reduceCtorEq, Bool.false_eq_true, Bool.not_true, Bool.not_false, and_self, Nat.le_refl, e, el28, fl65_1, ti2, Sl.fw, List.getElem?_map, ga, Option.map_some, Int.natCast_nonneg] <;> rfl) (awp_ret ?_))
    exact gives_end0 (.inl rfl) (by simp [readP, readV, hf, ga, ares, aresL, ares1, alook, Tryd.f13])


end Go.Proofs.YtinedfjknhahmaaDoor
