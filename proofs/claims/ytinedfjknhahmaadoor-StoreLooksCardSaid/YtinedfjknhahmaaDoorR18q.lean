/- The laws of what is written to cells. -/
import Derived.Test.YtinedfjknhahmaaDoorR18p
namespace Go.Proofs.YtinedfjknhahmaaDoor
set_option linter.unusedVariables false
set_option linter.unusedSimpArgs false
open Go.RowKit Fw

theorem c4t (Γ : Nat → PV) (hΓ : Tab Γ) (l m : List Sl) (nm other : List UInt8) (n av xv yv zv : Int) (h : Bool) (R : Nat → Prop)
    (g16 : Gives Tryd.prog Γ 16 [.vec (l.map Sl.enc) false, .str nm, .int .i64 n] (.tup [.vec (m.map Sl.enc) false, .bool true]))
    (g13a : Gives Tryd.prog Γ 13 [.vec (m.map Sl.enc) false, .str nm] (.tup [.int .i64 av, .bool true])) (g13b : Gives Tryd.prog Γ 13 [.vec (l.map Sl.enc) false, .str other] (.tup [.int .i64 xv, .bool h]))
    (g13c : Gives Tryd.prog Γ 13 [.vec (m.map Sl.enc) false, .str other] (.tup [.int .i64 yv, .bool h])) (g13d : Gives Tryd.prog Γ 13 [.vec (l.map Sl.enc) false, .str nm] (.tup [.int .i64 zv, .bool true]))
    (hl : m.length = l.length) (hav : true = true → av = n) (hxy : nm = other ∨ xv = yv) (hname : ∀ (i : Nat) (h1 : i < m.length) (h2 : i < l.length), m[i].name = l[i].name)
    (hdiff : ∀ (i : Nat) (h1 : i < m.length) (h2 : i < l.length), m[i] ≠ l[i] → ¬ R i ∧ R (i + 1)) (hR0 : ∀ i, R i → R (i + 1)) (hR1 : true = false → ∀ i, ¬ R i) :
    Gives Tryd.prog Γ 4 [.vec (l.map Sl.enc) false, .str nm, .str other, .int .i64 n] (.bool true) := by
  have hav' : true = true → decide (av = n) = true := fun e => decide_eq_true (hav e)
  refine fn_of_awp Tryd.func4 rfl (by simp [Tryd.f4]) rfl fun H => ?_
  refine awp_vlen 0 rfl fun hlen => ?_
  rw [List.length_map] at hlen
  refine awp_seq ?_
  -- region 0
  refine awp_run rfl (by simp only [fw0, fw1, fw2, fw3, fw4, fw5, fw6, fw7, ↓reduceIte, Nat.reduceAdd, Nat.reduceMul, Nat.reduceEqDiff, Nat.reduceLT, Nat.reduceLeDiff, reduceCtorEq, Bool.false_eq_true, Bool.not_true, Bool.not_false, and_self, Nat.le_refl] <;> rfl) ?_
  refine awp_seq ?_
  -- region 1
  refine awp_region rfl ?_
  refine aops_fn rfl rfl rfl en9 (c9 Γ hΓ) ?_
  refine aops_run 1 (by simp only [fw0, fw1, fw2, fw3, fw4, fw5, fw6, fw7, ↓reduceIte, Nat.reduceAdd, Nat.reduceMul, Nat.reduceEqDiff, Nat.reduceLT, Nat.reduceLeDiff, reduceCtorEq, Bool.false_eq_true, Bool.not_true, Bool.not_false, and_self, Nat.le_refl] <;> rfl) ?_
  refine awp_seq ?_
  refine awp_seq ?_
  -- region 2
  refine awp_run rfl (by simp only [fw0, fw1, fw2, fw3, fw4, fw5, fw6, fw7, ↓reduceIte, Nat.reduceAdd, Nat.reduceMul, Nat.reduceEqDiff, Nat.reduceLT, Nat.reduceLeDiff, reduceCtorEq, Bool.false_eq_true, Bool.not_true, Bool.not_false, and_self, Nat.le_refl] <;> rfl) ?_
  refine awp_cond (b := false) rfl ?_
  refine awp_skip ?_
  refine awp_seq ?_
  -- region 4
  refine awp_region rfl ?_
  refine aops_run 3 (by simp only [fw0, fw1, fw2, fw3, fw4, fw5, fw6, fw7, ↓reduceIte, Nat.reduceAdd, Nat.reduceMul, Nat.reduceEqDiff, Nat.reduceLT, Nat.reduceLeDiff, reduceCtorEq, Bool.false_eq_true, Bool.not_true, Bool.not_false, and_self, Nat.le_refl] <;> rfl) ?_
  refine aops_fn rfl rfl rfl en16 (g16) ?_
  refine aops_run 5 (by simp only [fw0, fw1, fw2, fw3, fw4, fw5, fw6, fw7, ↓reduceIte, Nat.reduceAdd, Nat.reduceMul, Nat.reduceEqDiff, Nat.reduceLT, Nat.reduceLeDiff, reduceCtorEq, Bool.false_eq_true, Bool.not_true, Bool.not_false, and_self, Nat.le_refl] <;> rfl) ?_
  refine awp_seq ?_
  -- region 5
  refine awp_region rfl ?_
  refine aops_run 2 (by simp only [fw0, fw1, fw2, fw3, fw4, fw5, fw6, fw7, ↓reduceIte, Nat.reduceAdd, Nat.reduceMul, Nat.reduceEqDiff, Nat.reduceLT, Nat.reduceLeDiff, reduceCtorEq, Bool.false_eq_true, Bool.not_true, Bool.not_false, and_self, Nat.le_refl] <;> rfl) ?_
  refine aops_fn rfl rfl rfl en13 (g13a) ?_
  refine aops_run 5 (by simp only [fw0, fw1, fw2, fw3, fw4, fw5, fw6, fw7, ↓reduceIte, Nat.reduceAdd, Nat.reduceMul, Nat.reduceEqDiff, Nat.reduceLT, Nat.reduceLeDiff, reduceCtorEq, Bool.false_eq_true, Bool.not_true, Bool.not_false, and_self, Nat.le_refl] <;> rfl) ?_
  refine awp_seq ?_
  -- region 6
  refine awp_region rfl ?_
  refine aops_run 2 (by simp only [fw0, fw1, fw2, fw3, fw4, fw5, fw6, fw7, ↓reduceIte, Nat.reduceAdd, Nat.reduceMul, Nat.reduceEqDiff, Nat.reduceLT, Nat.reduceLeDiff, reduceCtorEq, Bool.false_eq_true, Bool.not_true, Bool.not_false, and_self, Nat.le_refl] <;> rfl) ?_
  refine aops_fn rfl rfl rfl en13 (g13b) ?_
  refine aops_run 5 (by simp only [fw0, fw1, fw2, fw3, fw4, fw5, fw6, fw7, ↓reduceIte, Nat.reduceAdd, Nat.reduceMul, Nat.reduceEqDiff, Nat.reduceLT, Nat.reduceLeDiff, reduceCtorEq, Bool.false_eq_true, Bool.not_true, Bool.not_false, and_self, Nat.le_refl] <;> rfl) ?_
  refine awp_seq ?_
  -- region 7
  refine awp_region rfl ?_
  refine aops_run 2 (by simp only [fw0, fw1, fw2, fw3, fw4, fw5, fw6, fw7, ↓reduceIte, Nat.reduceAdd, Nat.reduceMul, Nat.reduceEqDiff, Nat.reduceLT, Nat.reduceLeDiff, reduceCtorEq, Bool.false_eq_true, Bool.not_true, Bool.not_false, and_self, Nat.le_refl] <;> rfl) ?_
  refine aops_fn rfl rfl rfl en13 (g13c) ?_
  refine aops_run 5 (by simp only [fw0, fw1, fw2, fw3, fw4, fw5, fw6, fw7, ↓reduceIte, Nat.reduceAdd, Nat.reduceMul, Nat.reduceEqDiff, Nat.reduceLT, Nat.reduceLeDiff, reduceCtorEq, Bool.false_eq_true, Bool.not_true, Bool.not_false, and_self, Nat.le_refl] <;> rfl) ?_
  refine awp_seq ?_
  -- region 8
  refine awp_region rfl ?_
  refine aops_run 2 (by simp only [fw0, fw1, fw2, fw3, fw4, fw5, fw6, fw7, ↓reduceIte, Nat.reduceAdd, Nat.reduceMul, Nat.reduceEqDiff, Nat.reduceLT, Nat.reduceLeDiff, reduceCtorEq, Bool.false_eq_true, Bool.not_true, Bool.not_false, and_self, Nat.le_refl] <;> rfl) ?_
  refine aops_fn rfl rfl rfl en13 (g13d) ?_
  refine aops_run 5 (by simp only [fw0, fw1, fw2, fw3, fw4, fw5, fw6, fw7, ↓reduceIte, Nat.reduceAdd, Nat.reduceMul, Nat.reduceEqDiff, Nat.reduceLT, Nat.reduceLeDiff, reduceCtorEq, Bool.false_eq_true, Bool.not_true, Bool.not_false, and_self, Nat.le_refl] <;> rfl) ?_
  refine awp_seq ?_
  refine awp_seq ?_
  -- region 9
  refine awp_run rfl (by simp only [fw0, fw1, fw2, fw3, fw4, fw5, fw6, fw7, ↓reduceIte, Nat.reduceAdd, Nat.reduceMul, Nat.reduceEqDiff, Nat.reduceLT, Nat.reduceLeDiff, reduceCtorEq, Bool.false_eq_true, Bool.not_true, Bool.not_false, and_self, Nat.le_refl, un28, un4, List.length_map, hl, hav', beq_self_eq_true, decide_true] <;> rfl) ?_
  refine awp_cond (b := false) rfl ?_
  refine awp_skip ?_
  refine awp_seq ?_
  -- region 11
  refine awp_run rfl (by simp only [fw0, fw1, fw2, fw3, fw4, fw5, fw6, fw7, ↓reduceIte, Nat.reduceAdd, Nat.reduceMul, Nat.reduceEqDiff, Nat.reduceLT, Nat.reduceLeDiff, reduceCtorEq, Bool.false_eq_true, Bool.not_true, Bool.not_false, and_self, Nat.le_refl] <;> rfl) ?_
  refine awp_seq ?_
  refine awp_seq ?_
  -- region 12
  refine awp_run rfl (by simp only [fw0, fw1, fw2, fw3, fw4, fw5, fw6, fw7, ↓reduceIte, Nat.reduceAdd, Nat.reduceMul, Nat.reduceEqDiff, Nat.reduceLT, Nat.reduceLeDiff, reduceCtorEq, Bool.false_eq_true, Bool.not_true, Bool.not_false, and_self, Nat.le_refl] <;> rfl) ?_
  refine awp_block ?_
  refine awp_for [0, 1, 2, 9, 10, 11, 14, 15, 16, 17, 20, 21] (fun s : Nat × Nat => [.vec (l.map Sl.enc) false, .str nm, .str other, .bool true, .vec (m.map Sl.enc) false, .bool true, .int .i64 xv, .bool h, .int .i64 yv, .bool h, .int .i64 s.2, .int .i64 s.1]) (fun _ => H) (fun s => l.length - s.1) (fun s => s.1 ≤ l.length ∧ s.2 ≤ 1 ∧ (s.2 = 1 → R s.1)) (0, 0) rfl rfl ⟨Nat.zero_le _, Nat.zero_le _, fun h => by cases h⟩ fun s hs => ?_
  obtain ⟨i, t⟩ := s
  obtain ⟨hi, ht1, ht2⟩ := hs
  dsimp only at hi ht1 ht2 ⊢
  refine awp_seq ?_
  refine awp_seq ?_
  -- region 13
  refine awp_run rfl (by simp only [fw0, fw1, fw2, fw3, fw4, fw5, fw6, fw7, ↓reduceIte, Nat.reduceAdd, Nat.reduceMul, Nat.reduceEqDiff, Nat.reduceLT, Nat.reduceLeDiff, reduceCtorEq, Bool.false_eq_true, Bool.not_true, Bool.not_false, and_self, Nat.le_refl, un28, List.length_map] <;> rfl) ?_
  refine awp_cond (by simp only [fw0, fw1, fw2, fw3, fw4, fw5, fw6, fw7, ↓reduceIte, Nat.reduceAdd, Nat.reduceMul, Nat.reduceEqDiff, Nat.reduceLT, Nat.reduceLeDiff, reduceCtorEq, Bool.false_eq_true, Bool.not_true, Bool.not_false, and_self, Nat.le_refl] <;> rfl) ?_
  by_cases hc : (i : Int) < l.length
  rotate_left
  · simp only [hc, decide_false, Bool.false_eq_true, ↓reduceIte]
    refine awp_exit ?_
    simp only [Post.block, Post.then, ↓reduceIte]
    refine awp_seq ?_
    -- region 19
    have et : decide ((t : Int) ≤ 1) = true := decide_eq_true (by omega)
    have e0 : true = false → decide ((t : Int) = 0) = true := fun e => decide_eq_true (by
      have : ¬ t = 1 := fun h => hR1 e _ (ht2 h)
      omega)
    by_cases hno : nm = other
    · refine awp_run rfl (by simp only [fw0, fw1, fw2, fw3, fw4, fw5, fw6, fw7, ↓reduceIte, Nat.reduceAdd, Nat.reduceMul, Nat.reduceEqDiff, Nat.reduceLT, Nat.reduceLeDiff, reduceCtorEq, Bool.false_eq_true, Bool.not_true, Bool.not_false, and_self, Nat.le_refl, un4, beq_self_eq_true, hno, decide_true, et, e0] <;> rfl) ?_
      refine awp_ret ?_
      exact gives_end0 (.inl rfl) rfl
    · have hx : xv = yv := hxy.resolve_left hno
      refine awp_run rfl (by simp only [fw0, fw1, fw2, fw3, fw4, fw5, fw6, fw7, ↓reduceIte, Nat.reduceAdd, Nat.reduceMul, Nat.reduceEqDiff, Nat.reduceLT, Nat.reduceLeDiff, reduceCtorEq, Bool.false_eq_true, Bool.not_true, Bool.not_false, and_self, Nat.le_refl, un4, beq_self_eq_true, hno, hx, decide_true, decide_false, et, e0] <;> rfl) ?_
      refine awp_ret ?_
      exact gives_end0 (.inl rfl) rfl
  simp only [hc, decide_true, ↓reduceIte]
  refine awp_skip ?_
  have hil : i < l.length := by omega
  have him : i < m.length := by omega
  have gl : l[i]? = some l[i] := List.getElem?_eq_getElem hil
  have gm : m[i]? = some m[i] := List.getElem?_eq_getElem him
  have hn := hname i him hil
  refine awp_seq ?_
  refine awp_block ?_
  refine awp_seq ?_
  refine awp_seq ?_
  -- region 15 drawn
  refine awp_drun [0, 0, 0, 0, 1, 0, 0, 0, 0, 1, 0] [0, 0, 3, 7, 15, 0, 0, 96, 224, 480, 1023] mixed rfl (by kernel_rfl) (by simp only [fw0, fw1, fw2, fw3, fw4, fw5, fw6, fw7, ↓reduceIte, Nat.reduceAdd, Nat.reduceMul, Nat.reduceEqDiff, Nat.reduceLT, Nat.reduceLeDiff, reduceCtorEq, Bool.false_eq_true, Bool.not_true, Bool.not_false, and_self, Nat.le_refl, el28, fl65_0, ti9, Sl.fw, List.getElem?_map, gl, gm, Option.map_some, Int.natCast_nonneg, hn, decide_true] <;> rfl) ?_
  refine awp_cond (b := false) rfl ?_
  refine awp_skip ?_
  refine awp_seq ?_
  -- region 17 drawn
  refine awp_drun [0, 0, 0, 1, 0, 0, 0, 1, 0] [0, 0, 3, 7, 0, 0, 48, 112, 255] mixed rfl (by kernel_rfl) (by simp only [fw0, fw1, fw2, fw3, fw4, fw5, fw6, fw7, ↓reduceIte, Nat.reduceAdd, Nat.reduceMul, Nat.reduceEqDiff, Nat.reduceLT, Nat.reduceLeDiff, reduceCtorEq, Bool.false_eq_true, Bool.not_true, Bool.not_false, and_self, Nat.le_refl, el28, ti65, eq65, Sl.fw, List.getElem?_map, gl, gm, Option.map_some, Int.natCast_nonneg, show ∀ s : Sl, s.enc = [.str s.name, .int .i64 s.n] from fun _ => rfl] <;> rfl) ?_
  refine awp_cond (by simp only [fw0, fw1, fw2, fw3, fw4, fw5, fw6, fw7, ↓reduceIte, Nat.reduceAdd, Nat.reduceMul, Nat.reduceEqDiff, Nat.reduceLT, Nat.reduceLeDiff, reduceCtorEq, Bool.false_eq_true, Bool.not_true, Bool.not_false, and_self, Nat.le_refl] <;> rfl) ?_
  by_cases hd : m[i].n = l[i].n
  · simp only [hn, hd, decide_true, Bool.and_true, Bool.not_true, Bool.false_eq_true, ↓reduceIte]
    refine awp_skip ?_
    -- region 14
    refine awp_run rfl (by simp only [fw0, fw1, fw2, fw3, fw4, fw5, fw6, fw7, ↓reduceIte, Nat.reduceAdd, Nat.reduceMul, Nat.reduceEqDiff, Nat.reduceLT, Nat.reduceLeDiff, reduceCtorEq, Bool.false_eq_true, Bool.not_true, Bool.not_false, and_self, Nat.le_refl] <;> rfl) ?_
    exact ⟨(i + 1, t), by simp only; omega, ⟨by simp only; omega, ht1, fun h => hR0 _ (ht2 h)⟩, by simp only [fw0, fw1, fw2, fw3, fw4, fw5, fw6, fw7, ↓reduceIte, Nat.reduceAdd, Nat.reduceMul, Nat.reduceEqDiff, Nat.reduceLT, Nat.reduceLeDiff, reduceCtorEq, Bool.false_eq_true, Bool.not_true, Bool.not_false, and_self, Nat.le_refl, List.map_cons, List.map_nil]; rw [wrapS i (by omega)], rfl, rfl⟩
  · simp only [hn, hd, decide_true, decide_false, Bool.and_true, Bool.and_false, Bool.not_false, ↓reduceIte]
    obtain ⟨hnR, hR⟩ := hdiff i him hil (fun e => hd (by rw [e]))
    have ht : t = 0 := by
      rcases Nat.lt_or_ge t 1 with h | h
      · omega
      · exact (hnR (ht2 (by omega))).elim
    subst ht
    -- region 18
    refine awp_run rfl (by simp only [fw0, fw1, fw2, fw3, fw4, fw5, fw6, fw7, ↓reduceIte, Nat.reduceAdd, Nat.reduceMul, Nat.reduceEqDiff, Nat.reduceLT, Nat.reduceLeDiff, reduceCtorEq, Bool.false_eq_true, Bool.not_true, Bool.not_false, and_self, Nat.le_refl] <;> rfl) ?_
    -- region 14
    refine awp_run rfl (by simp only [fw0, fw1, fw2, fw3, fw4, fw5, fw6, fw7, ↓reduceIte, Nat.reduceAdd, Nat.reduceMul, Nat.reduceEqDiff, Nat.reduceLT, Nat.reduceLeDiff, reduceCtorEq, Bool.false_eq_true, Bool.not_true, Bool.not_false, and_self, Nat.le_refl] <;> rfl) ?_
    exact ⟨(i + 1, 1), by simp only; omega, ⟨by simp only; omega, Nat.le_refl _, fun _ => hR⟩, by simp only [fw0, fw1, fw2, fw3, fw4, fw5, fw6, fw7, ↓reduceIte, Nat.reduceAdd, Nat.reduceMul, Nat.reduceEqDiff, Nat.reduceLT, Nat.reduceLeDiff, reduceCtorEq, Bool.false_eq_true, Bool.not_true, Bool.not_false, and_self, Nat.le_refl, List.map_cons, List.map_nil]; rw [wrapS i (by omega), wrapS 0 (by decide)], rfl, rfl⟩

theorem c4f (Γ : Nat → PV) (hΓ : Tab Γ) (l m : List Sl) (nm other : List UInt8) (n av xv yv zv : Int) (h : Bool) (R : Nat → Prop)
    (g16 : Gives Tryd.prog Γ 16 [.vec (l.map Sl.enc) false, .str nm, .int .i64 n] (.tup [.vec (m.map Sl.enc) false, .bool false]))
    (g13a : Gives Tryd.prog Γ 13 [.vec (m.map Sl.enc) false, .str nm] (.tup [.int .i64 av, .bool false])) (g13b : Gives Tryd.prog Γ 13 [.vec (l.map Sl.enc) false, .str other] (.tup [.int .i64 xv, .bool h]))
    (g13c : Gives Tryd.prog Γ 13 [.vec (m.map Sl.enc) false, .str other] (.tup [.int .i64 yv, .bool h])) (g13d : Gives Tryd.prog Γ 13 [.vec (l.map Sl.enc) false, .str nm] (.tup [.int .i64 zv, .bool false]))
    (hl : m.length = l.length) (hav : false = true → av = n) (hxy : nm = other ∨ xv = yv) (hname : ∀ (i : Nat) (h1 : i < m.length) (h2 : i < l.length), m[i].name = l[i].name)
    (hdiff : ∀ (i : Nat) (h1 : i < m.length) (h2 : i < l.length), m[i] ≠ l[i] → ¬ R i ∧ R (i + 1)) (hR0 : ∀ i, R i → R (i + 1)) (hR1 : false = false → ∀ i, ¬ R i) :
    Gives Tryd.prog Γ 4 [.vec (l.map Sl.enc) false, .str nm, .str other, .int .i64 n] (.bool true) := by
  have hav' : false = true → decide (av = n) = true := fun e => decide_eq_true (hav e)
  refine fn_of_awp Tryd.func4 rfl (by simp [Tryd.f4]) rfl fun H => ?_
  refine awp_vlen 0 rfl fun hlen => ?_
  rw [List.length_map] at hlen
  refine awp_seq ?_
  -- region 0
  refine awp_run rfl (by simp only [fw0, fw1, fw2, fw3, fw4, fw5, fw6, fw7, ↓reduceIte, Nat.reduceAdd, Nat.reduceMul, Nat.reduceEqDiff, Nat.reduceLT, Nat.reduceLeDiff, reduceCtorEq, Bool.false_eq_true, Bool.not_true, Bool.not_false, and_self, Nat.le_refl] <;> rfl) ?_
  refine awp_seq ?_
  -- region 1
  refine awp_region rfl ?_
  refine aops_fn rfl rfl rfl en9 (c9 Γ hΓ) ?_
  refine aops_run 1 (by simp only [fw0, fw1, fw2, fw3, fw4, fw5, fw6, fw7, ↓reduceIte, Nat.reduceAdd, Nat.reduceMul, Nat.reduceEqDiff, Nat.reduceLT, Nat.reduceLeDiff, reduceCtorEq, Bool.false_eq_true, Bool.not_true, Bool.not_false, and_self, Nat.le_refl] <;> rfl) ?_
  refine awp_seq ?_
  refine awp_seq ?_
  -- region 2
  refine awp_run rfl (by simp only [fw0, fw1, fw2, fw3, fw4, fw5, fw6, fw7, ↓reduceIte, Nat.reduceAdd, Nat.reduceMul, Nat.reduceEqDiff, Nat.reduceLT, Nat.reduceLeDiff, reduceCtorEq, Bool.false_eq_true, Bool.not_true, Bool.not_false, and_self, Nat.le_refl] <;> rfl) ?_
  refine awp_cond (b := false) rfl ?_
  refine awp_skip ?_
  refine awp_seq ?_
  -- region 4
  refine awp_region rfl ?_
  refine aops_run 3 (by simp only [fw0, fw1, fw2, fw3, fw4, fw5, fw6, fw7, ↓reduceIte, Nat.reduceAdd, Nat.reduceMul, Nat.reduceEqDiff, Nat.reduceLT, Nat.reduceLeDiff, reduceCtorEq, Bool.false_eq_true, Bool.not_true, Bool.not_false, and_self, Nat.le_refl] <;> rfl) ?_
  refine aops_fn rfl rfl rfl en16 (g16) ?_
  refine aops_run 5 (by simp only [fw0, fw1, fw2, fw3, fw4, fw5, fw6, fw7, ↓reduceIte, Nat.reduceAdd, Nat.reduceMul, Nat.reduceEqDiff, Nat.reduceLT, Nat.reduceLeDiff, reduceCtorEq, Bool.false_eq_true, Bool.not_true, Bool.not_false, and_self, Nat.le_refl] <;> rfl) ?_
  refine awp_seq ?_
  -- region 5
  refine awp_region rfl ?_
  refine aops_run 2 (by simp only [fw0, fw1, fw2, fw3, fw4, fw5, fw6, fw7, ↓reduceIte, Nat.reduceAdd, Nat.reduceMul, Nat.reduceEqDiff, Nat.reduceLT, Nat.reduceLeDiff, reduceCtorEq, Bool.false_eq_true, Bool.not_true, Bool.not_false, and_self, Nat.le_refl] <;> rfl) ?_
  refine aops_fn rfl rfl rfl en13 (g13a) ?_
  refine aops_run 5 (by simp only [fw0, fw1, fw2, fw3, fw4, fw5, fw6, fw7, ↓reduceIte, Nat.reduceAdd, Nat.reduceMul, Nat.reduceEqDiff, Nat.reduceLT, Nat.reduceLeDiff, reduceCtorEq, Bool.false_eq_true, Bool.not_true, Bool.not_false, and_self, Nat.le_refl] <;> rfl) ?_
  refine awp_seq ?_
  -- region 6
  refine awp_region rfl ?_
  refine aops_run 2 (by simp only [fw0, fw1, fw2, fw3, fw4, fw5, fw6, fw7, ↓reduceIte, Nat.reduceAdd, Nat.reduceMul, Nat.reduceEqDiff, Nat.reduceLT, Nat.reduceLeDiff, reduceCtorEq, Bool.false_eq_true, Bool.not_true, Bool.not_false, and_self, Nat.le_refl] <;> rfl) ?_
  refine aops_fn rfl rfl rfl en13 (g13b) ?_
  refine aops_run 5 (by simp only [fw0, fw1, fw2, fw3, fw4, fw5, fw6, fw7, ↓reduceIte, Nat.reduceAdd, Nat.reduceMul, Nat.reduceEqDiff, Nat.reduceLT, Nat.reduceLeDiff, reduceCtorEq, Bool.false_eq_true, Bool.not_true, Bool.not_false, and_self, Nat.le_refl] <;> rfl) ?_
  refine awp_seq ?_
  -- region 7
  refine awp_region rfl ?_
  refine aops_run 2 (by simp only [fw0, fw1, fw2, fw3, fw4, fw5, fw6, fw7, ↓reduceIte, Nat.reduceAdd, Nat.reduceMul, Nat.reduceEqDiff, Nat.reduceLT, Nat.reduceLeDiff, reduceCtorEq, Bool.false_eq_true, Bool.not_true, Bool.not_false, and_self, Nat.le_refl] <;> rfl) ?_
  refine aops_fn rfl rfl rfl en13 (g13c) ?_
  refine aops_run 5 (by simp only [fw0, fw1, fw2, fw3, fw4, fw5, fw6, fw7, ↓reduceIte, Nat.reduceAdd, Nat.reduceMul, Nat.reduceEqDiff, Nat.reduceLT, Nat.reduceLeDiff, reduceCtorEq, Bool.false_eq_true, Bool.not_true, Bool.not_false, and_self, Nat.le_refl] <;> rfl) ?_
  refine awp_seq ?_
  -- region 8
  refine awp_region rfl ?_
  refine aops_run 2 (by simp only [fw0, fw1, fw2, fw3, fw4, fw5, fw6, fw7, ↓reduceIte, Nat.reduceAdd, Nat.reduceMul, Nat.reduceEqDiff, Nat.reduceLT, Nat.reduceLeDiff, reduceCtorEq, Bool.false_eq_true, Bool.not_true, Bool.not_false, and_self, Nat.le_refl] <;> rfl) ?_
  refine aops_fn rfl rfl rfl en13 (g13d) ?_
  refine aops_run 5 (by simp only [fw0, fw1, fw2, fw3, fw4, fw5, fw6, fw7, ↓reduceIte, Nat.reduceAdd, Nat.reduceMul, Nat.reduceEqDiff, Nat.reduceLT, Nat.reduceLeDiff, reduceCtorEq, Bool.false_eq_true, Bool.not_true, Bool.not_false, and_self, Nat.le_refl] <;> rfl) ?_
  refine awp_seq ?_
  refine awp_seq ?_
  -- region 9
  refine awp_run rfl (by simp only [fw0, fw1, fw2, fw3, fw4, fw5, fw6, fw7, ↓reduceIte, Nat.reduceAdd, Nat.reduceMul, Nat.reduceEqDiff, Nat.reduceLT, Nat.reduceLeDiff, reduceCtorEq, Bool.false_eq_true, Bool.not_true, Bool.not_false, and_self, Nat.le_refl, un28, un4, List.length_map, hl, hav', beq_self_eq_true, decide_true] <;> rfl) ?_
  refine awp_cond (b := false) rfl ?_
  refine awp_skip ?_
  refine awp_seq ?_
  -- region 11
  refine awp_run rfl (by simp only [fw0, fw1, fw2, fw3, fw4, fw5, fw6, fw7, ↓reduceIte, Nat.reduceAdd, Nat.reduceMul, Nat.reduceEqDiff, Nat.reduceLT, Nat.reduceLeDiff, reduceCtorEq, Bool.false_eq_true, Bool.not_true, Bool.not_false, and_self, Nat.le_refl] <;> rfl) ?_
  refine awp_seq ?_
  refine awp_seq ?_
  -- region 12
  refine awp_run rfl (by simp only [fw0, fw1, fw2, fw3, fw4, fw5, fw6, fw7, ↓reduceIte, Nat.reduceAdd, Nat.reduceMul, Nat.reduceEqDiff, Nat.reduceLT, Nat.reduceLeDiff, reduceCtorEq, Bool.false_eq_true, Bool.not_true, Bool.not_false, and_self, Nat.le_refl] <;> rfl) ?_
  refine awp_block ?_
  refine awp_for [0, 1, 2, 9, 10, 11, 14, 15, 16, 17, 20, 21] (fun s : Nat × Nat => [.vec (l.map Sl.enc) false, .str nm, .str other, .bool true, .vec (m.map Sl.enc) false, .bool false, .int .i64 xv, .bool h, .int .i64 yv, .bool h, .int .i64 s.2, .int .i64 s.1]) (fun _ => H) (fun s => l.length - s.1) (fun s => s.1 ≤ l.length ∧ s.2 ≤ 1 ∧ (s.2 = 1 → R s.1)) (0, 0) rfl rfl ⟨Nat.zero_le _, Nat.zero_le _, fun h => by cases h⟩ fun s hs => ?_
  obtain ⟨i, t⟩ := s
  obtain ⟨hi, ht1, ht2⟩ := hs
  dsimp only at hi ht1 ht2 ⊢
  refine awp_seq ?_
  refine awp_seq ?_
  -- region 13
  refine awp_run rfl (by simp only [fw0, fw1, fw2, fw3, fw4, fw5, fw6, fw7, ↓reduceIte, Nat.reduceAdd, Nat.reduceMul, Nat.reduceEqDiff, Nat.reduceLT, Nat.reduceLeDiff, reduceCtorEq, Bool.false_eq_true, Bool.not_true, Bool.not_false, and_self, Nat.le_refl, un28, List.length_map] <;> rfl) ?_
  refine awp_cond (by simp only [fw0, fw1, fw2, fw3, fw4, fw5, fw6, fw7, ↓reduceIte, Nat.reduceAdd, Nat.reduceMul, Nat.reduceEqDiff, Nat.reduceLT, Nat.reduceLeDiff, reduceCtorEq, Bool.false_eq_true, Bool.not_true, Bool.not_false, and_self, Nat.le_refl] <;> rfl) ?_
  by_cases hc : (i : Int) < l.length
  rotate_left
  · simp only [hc, decide_false, Bool.false_eq_true, ↓reduceIte]
    refine awp_exit ?_
    simp only [Post.block, Post.then, ↓reduceIte]
    refine awp_seq ?_
    -- region 19
    have et : decide ((t : Int) ≤ 1) = true := decide_eq_true (by omega)
    have e0 : false = false → decide ((t : Int) = 0) = true := fun e => decide_eq_true (by
      have : ¬ t = 1 := fun h => hR1 e _ (ht2 h)
      omega)
    by_cases hno : nm = other
    · refine awp_run rfl (by simp only [fw0, fw1, fw2, fw3, fw4, fw5, fw6, fw7, ↓reduceIte, Nat.reduceAdd, Nat.reduceMul, Nat.reduceEqDiff, Nat.reduceLT, Nat.reduceLeDiff, reduceCtorEq, Bool.false_eq_true, Bool.not_true, Bool.not_false, and_self, Nat.le_refl, un4, beq_self_eq_true, hno, decide_true, et, e0] <;> rfl) ?_
      refine awp_ret ?_
      exact gives_end0 (.inl rfl) rfl
    · have hx : xv = yv := hxy.resolve_left hno
      refine awp_run rfl (by simp only [fw0, fw1, fw2, fw3, fw4, fw5, fw6, fw7, ↓reduceIte, Nat.reduceAdd, Nat.reduceMul, Nat.reduceEqDiff, Nat.reduceLT, Nat.reduceLeDiff, reduceCtorEq, Bool.false_eq_true, Bool.not_true, Bool.not_false, and_self, Nat.le_refl, un4, beq_self_eq_true, hno, hx, decide_true, decide_false, et, e0] <;> rfl) ?_
      refine awp_ret ?_
      exact gives_end0 (.inl rfl) rfl
  simp only [hc, decide_true, ↓reduceIte]
  refine awp_skip ?_
  have hil : i < l.length := by omega
  have him : i < m.length := by omega
  have gl : l[i]? = some l[i] := List.getElem?_eq_getElem hil
  have gm : m[i]? = some m[i] := List.getElem?_eq_getElem him
  have hn := hname i him hil
  refine awp_seq ?_
  refine awp_block ?_
  refine awp_seq ?_
  refine awp_seq ?_
  -- region 15 drawn
  refine awp_drun [0, 0, 0, 0, 1, 0, 0, 0, 0, 1, 0] [0, 0, 3, 7, 15, 0, 0, 96, 224, 480, 1023] mixed rfl (by kernel_rfl) (by simp only [fw0, fw1, fw2, fw3, fw4, fw5, fw6, fw7, ↓reduceIte, Nat.reduceAdd, Nat.reduceMul, Nat.reduceEqDiff, Nat.reduceLT, Nat.reduceLeDiff, reduceCtorEq, Bool.false_eq_true, Bool.not_true, Bool.not_false, and_self, Nat.le_refl, el28, fl65_0, ti9, Sl.fw, List.getElem?_map, gl, gm, Option.map_some, Int.natCast_nonneg, hn, decide_true] <;> rfl) ?_
  refine awp_cond (b := false) rfl ?_
  refine awp_skip ?_
  refine awp_seq ?_
  -- region 17 drawn
  refine awp_drun [0, 0, 0, 1, 0, 0, 0, 1, 0] [0, 0, 3, 7, 0, 0, 48, 112, 255] mixed rfl (by kernel_rfl) (by simp only [fw0, fw1, fw2, fw3, fw4, fw5, fw6, fw7, ↓reduceIte, Nat.reduceAdd, Nat.reduceMul, Nat.reduceEqDiff, Nat.reduceLT, Nat.reduceLeDiff, reduceCtorEq, Bool.false_eq_true, Bool.not_true, Bool.not_false, and_self, Nat.le_refl, el28, ti65, eq65, Sl.fw, List.getElem?_map, gl, gm, Option.map_some, Int.natCast_nonneg, show ∀ s : Sl, s.enc = [.str s.name, .int .i64 s.n] from fun _ => rfl] <;> rfl) ?_
  refine awp_cond (by simp only [fw0, fw1, fw2, fw3, fw4, fw5, fw6, fw7, ↓reduceIte, Nat.reduceAdd, Nat.reduceMul, Nat.reduceEqDiff, Nat.reduceLT, Nat.reduceLeDiff, reduceCtorEq, Bool.false_eq_true, Bool.not_true, Bool.not_false, and_self, Nat.le_refl] <;> rfl) ?_
  by_cases hd : m[i].n = l[i].n
  · simp only [hn, hd, decide_true, Bool.and_true, Bool.not_true, Bool.false_eq_true, ↓reduceIte]
    refine awp_skip ?_
    -- region 14
    refine awp_run rfl (by simp only [fw0, fw1, fw2, fw3, fw4, fw5, fw6, fw7, ↓reduceIte, Nat.reduceAdd, Nat.reduceMul, Nat.reduceEqDiff, Nat.reduceLT, Nat.reduceLeDiff, reduceCtorEq, Bool.false_eq_true, Bool.not_true, Bool.not_false, and_self, Nat.le_refl] <;> rfl) ?_
    exact ⟨(i + 1, t), by simp only; omega, ⟨by simp only; omega, ht1, fun h => hR0 _ (ht2 h)⟩, by simp only [fw0, fw1, fw2, fw3, fw4, fw5, fw6, fw7, ↓reduceIte, Nat.reduceAdd, Nat.reduceMul, Nat.reduceEqDiff, Nat.reduceLT, Nat.reduceLeDiff, reduceCtorEq, Bool.false_eq_true, Bool.not_true, Bool.not_false, and_self, Nat.le_refl, List.map_cons, List.map_nil]; rw [wrapS i (by omega)], rfl, rfl⟩
  · simp only [hn, hd, decide_true, decide_false, Bool.and_true, Bool.and_false, Bool.not_false, ↓reduceIte]
    obtain ⟨hnR, hR⟩ := hdiff i him hil (fun e => hd (by rw [e]))
    have ht : t = 0 := by
      rcases Nat.lt_or_ge t 1 with h | h
      · omega
      · exact (hnR (ht2 (by omega))).elim
    subst ht
    -- region 18
    refine awp_run rfl (by simp only [fw0, fw1, fw2, fw3, fw4, fw5, fw6, fw7, ↓reduceIte, Nat.reduceAdd, Nat.reduceMul, Nat.reduceEqDiff, Nat.reduceLT, Nat.reduceLeDiff, reduceCtorEq, Bool.false_eq_true, Bool.not_true, Bool.not_false, and_self, Nat.le_refl] <;> rfl) ?_
    -- region 14
    refine awp_run rfl (by simp only [fw0, fw1, fw2, fw3, fw4, fw5, fw6, fw7, ↓reduceIte, Nat.reduceAdd, Nat.reduceMul, Nat.reduceEqDiff, Nat.reduceLT, Nat.reduceLeDiff, reduceCtorEq, Bool.false_eq_true, Bool.not_true, Bool.not_false, and_self, Nat.le_refl] <;> rfl) ?_
    exact ⟨(i + 1, 1), by simp only; omega, ⟨by simp only; omega, Nat.le_refl _, fun _ => hR⟩, by simp only [fw0, fw1, fw2, fw3, fw4, fw5, fw6, fw7, ↓reduceIte, Nat.reduceAdd, Nat.reduceMul, Nat.reduceEqDiff, Nat.reduceLT, Nat.reduceLeDiff, reduceCtorEq, Bool.false_eq_true, Bool.not_true, Bool.not_false, and_self, Nat.le_refl, List.map_cons, List.map_nil]; rw [wrapS i (by omega), wrapS 0 (by decide)], rfl, rfl⟩


theorem wr_len (l : List Sl) (nm : List UInt8) (n : Int) : ((writeV l nm n).getD l).length = l.length := by
  unfold writeV
  cases fnd l nm <;> simp

/-- Cells, one of them turned: each keeps its name. -/
theorem set_name {l : List Sl} {nm : List UInt8} {k : Nat} (hf : fnd l nm = some k) (n : Int) (i : Nat) (h1 : i < (l.set k ⟨nm, n⟩).length) (h2 : i < l.length) : ((l.set k ⟨nm, n⟩)[i]).name = l[i].name := by
  rw [List.getElem_set]
  split
  · rename_i e; subst e; exact (fnd_name hf).symm
  · rfl

theorem fnd_set {l : List Sl} {nm other : List UInt8} {k : Nat} (hf : fnd l nm = some k) (n : Int) : fnd (l.set k ⟨nm, n⟩) other = fnd l other := by
  have hm : (l.set k ⟨nm, n⟩).map (·.name) = l.map (·.name) := by
    apply List.ext_getElem (by simp)
    intro i h1 h2
    simp only [List.getElem_map]
    exact set_name hf n i (by simpa using h1) (by simpa using h2)
  have key : ∀ l : List Sl, fnd l other = (l.map (·.name)).findIdx? fun s => decide (s = other) := fun l => by
    unfold fnd
    rw [List.findIdx?_map]
    rfl
  rw [key, key, hm]

/-- chancellaw18.StoreWrites -/
theorem c4 (Γ : Nat → PV) (hΓ : Tab Γ) (l : List Sl) (nm other : List UInt8) (n : Int) (hl24 : l.length * 24 ≤ reachBytes) : Gives Tryd.prog Γ 4 [.vec (l.map Sl.enc) false, .str nm, .str other, .int .i64 n] (.bool true) := by
  have g16 := c16 Γ l nm n hl24
  have g13b := c13 Γ l other
  have g13d := c13 Γ l nm
  cases hf : fnd l nm with
  | none =>
    have e1 : writeP l nm n = .tup [.vec (l.map Sl.enc) false, .bool false] := by simp [writeP, writeV, hf]
    have e2 : readP l nm = .tup [.int .i64 0, .bool false] := by simp [readP, readV, hf]
    rw [e1] at g16
    rw [e2] at g13d
    exact c4f Γ hΓ l l nm other n 0 _ _ 0 _ (fun _ => False) g16 g13d g13b g13b g13d rfl (fun h => by cases h) (.inr rfl) (fun _ _ _ => rfl) (fun _ _ _ h => (h rfl).elim) (fun _ h => h) (fun _ _ h => h)
  | some k =>
    have hk := fnd_lt hf
    have e1 : writeP l nm n = .tup [.vec ((l.set k ⟨nm, n⟩).map Sl.enc) false, .bool true] := by simp [writeP, writeV, hf]
    have e2 : readP l nm = .tup [.int .i64 l[k].n, .bool true] := by simp [readP, readV, hf, hk]
    have e3 : readP (l.set k ⟨nm, n⟩) nm = .tup [.int .i64 n, .bool true] := by simp [readP, readV, fnd_set hf, hf, hk]
    have g13a := c13 Γ (l.set k ⟨nm, n⟩) nm
    have g13c := c13 Γ (l.set k ⟨nm, n⟩) other
    rw [e1] at g16
    rw [e2] at g13d
    rw [e3] at g13a
    unfold readP at g13b g13c
    have e4 : (readV (l.set k ⟨nm, n⟩) other).isSome = (readV l other).isSome := by
      unfold readV
      rw [fnd_set hf]
      cases ho : fnd l other with
      | none => rfl
      | some j => simp [fnd_lt ho]
    have e5 : nm = other ∨ (readV l other).getD 0 = (readV (l.set k ⟨nm, n⟩) other).getD 0 := by
      by_cases hno : nm = other
      · exact .inl hno
      · refine .inr ?_
        unfold readV
        rw [fnd_set hf]
        cases ho : fnd l other with
        | none => rfl
        | some j =>
          have hkj : k ≠ j := fun e => hno (by subst e; rw [← fnd_name hf, ← fnd_name ho])
          simp [List.getElem?_set_ne hkj]
    rw [e4] at g13c
    exact c4t Γ hΓ l (l.set k ⟨nm, n⟩) nm other n n _ _ _ _ (fun i => k < i) g16 g13a g13b g13c g13d (by simp) (fun _ => rfl) e5 (fun i h1 h2 => set_name hf n i h1 h2) (fun i h1 h2 h => by
      rw [List.getElem_set] at h
      split at h
      · rename_i e; exact ⟨by omega, by omega⟩
      · exact (h rfl).elim) (fun i h => by omega) (fun h => by cases h)

set_option maxHeartbeats 1600000 in
theorem c5a (Γ : Nat → PV) (hΓ : Tab Γ) (l x y z u v : List Sl) (a b : List UInt8) (n m : Int) (o1 o2 o3 o4 o5 o6 : Bool)
    (g1 : Gives Tryd.prog Γ 16 [.vec (l.map Sl.enc) false, .str a, .int .i64 n] (.tup [.vec (x.map Sl.enc) false, .bool o1])) (g2 : Gives Tryd.prog Γ 16 [.vec (x.map Sl.enc) false, .str b, .int .i64 m] (.tup [.vec (y.map Sl.enc) false, .bool o2]))
    (g3 : Gives Tryd.prog Γ 16 [.vec (l.map Sl.enc) false, .str b, .int .i64 m] (.tup [.vec (z.map Sl.enc) false, .bool o3])) (g4 : Gives Tryd.prog Γ 16 [.vec (z.map Sl.enc) false, .str a, .int .i64 n] (.tup [.vec (u.map Sl.enc) false, .bool o4]))
    (g5 : Gives Tryd.prog Γ 16 [.vec (y.map Sl.enc) false, .str b, .int .i64 n] (.tup [.vec (v.map Sl.enc) false, .bool o5])) (g6 : Gives Tryd.prog Γ 16 [.vec (x.map Sl.enc) false, .str b, .int .i64 n] (.tup [.vec (v.map Sl.enc) false, .bool o6]))
    (hy : y.length = l.length) (hu : u.length = l.length) (hv : v.length = l.length) (hyu : a = b ∨ y = u) :
    Gives Tryd.prog Γ 5 [.vec (l.map Sl.enc) false, .str a, .str b, .int .i64 n, .int .i64 m] (.bool true) := by
  refine fn_of_awp Tryd.func5 rfl (by simp [Tryd.f5]) rfl fun H => ?_
  refine awp_vlen 0 rfl fun hlen => ?_
  rw [List.length_map] at hlen
  refine awp_seq ?_
  -- region 0
  refine awp_run rfl (by simp only [fw0, fw1, fw2, fw3, fw4, fw5, fw6, fw7, ↓reduceIte, Nat.reduceAdd, Nat.reduceMul, Nat.reduceEqDiff, Nat.reduceLT, Nat.reduceLeDiff, reduceCtorEq, Bool.false_eq_true, Bool.not_true, Bool.not_false, and_self, Nat.le_refl] <;> rfl) ?_
  refine awp_seq ?_
  -- region 1
  refine awp_region rfl ?_
  refine aops_fn rfl rfl rfl en9 (c9 Γ hΓ) ?_
  refine aops_run 1 (by simp only [fw0, fw1, fw2, fw3, fw4, fw5, fw6, fw7, ↓reduceIte, Nat.reduceAdd, Nat.reduceMul, Nat.reduceEqDiff, Nat.reduceLT, Nat.reduceLeDiff, reduceCtorEq, Bool.false_eq_true, Bool.not_true, Bool.not_false, and_self, Nat.le_refl] <;> rfl) ?_
  refine awp_seq ?_
  refine awp_seq ?_
  -- region 2
  refine awp_run rfl (by simp only [fw0, fw1, fw2, fw3, fw4, fw5, fw6, fw7, ↓reduceIte, Nat.reduceAdd, Nat.reduceMul, Nat.reduceEqDiff, Nat.reduceLT, Nat.reduceLeDiff, reduceCtorEq, Bool.false_eq_true, Bool.not_true, Bool.not_false, and_self, Nat.le_refl] <;> rfl) ?_
  refine awp_cond (b := false) rfl ?_
  refine awp_skip ?_
  refine awp_seq ?_
  -- region 4
  refine awp_region rfl ?_
  refine aops_run 3 (by simp only [fw0, fw1, fw2, fw3, fw4, fw5, fw6, fw7, ↓reduceIte, Nat.reduceAdd, Nat.reduceMul, Nat.reduceEqDiff, Nat.reduceLT, Nat.reduceLeDiff, reduceCtorEq, Bool.false_eq_true, Bool.not_true, Bool.not_false, and_self, Nat.le_refl] <;> rfl) ?_
  refine aops_fn rfl rfl rfl en16 (g1) ?_
  refine aops_run 5 (by simp only [fw0, fw1, fw2, fw3, fw4, fw5, fw6, fw7, ↓reduceIte, Nat.reduceAdd, Nat.reduceMul, Nat.reduceEqDiff, Nat.reduceLT, Nat.reduceLeDiff, reduceCtorEq, Bool.false_eq_true, Bool.not_true, Bool.not_false, and_self, Nat.le_refl] <;> rfl) ?_
  refine awp_seq ?_
  -- region 5
  refine awp_region rfl ?_
  refine aops_run 3 (by simp only [fw0, fw1, fw2, fw3, fw4, fw5, fw6, fw7, ↓reduceIte, Nat.reduceAdd, Nat.reduceMul, Nat.reduceEqDiff, Nat.reduceLT, Nat.reduceLeDiff, reduceCtorEq, Bool.false_eq_true, Bool.not_true, Bool.not_false, and_self, Nat.le_refl] <;> rfl) ?_
  refine aops_fn rfl rfl rfl en16 (g2) ?_
  refine aops_run 5 (by simp only [fw0, fw1, fw2, fw3, fw4, fw5, fw6, fw7, ↓reduceIte, Nat.reduceAdd, Nat.reduceMul, Nat.reduceEqDiff, Nat.reduceLT, Nat.reduceLeDiff, reduceCtorEq, Bool.false_eq_true, Bool.not_true, Bool.not_false, and_self, Nat.le_refl] <;> rfl) ?_
  refine awp_seq ?_
  -- region 6
  refine awp_region rfl ?_
  refine aops_run 3 (by simp only [fw0, fw1, fw2, fw3, fw4, fw5, fw6, fw7, ↓reduceIte, Nat.reduceAdd, Nat.reduceMul, Nat.reduceEqDiff, Nat.reduceLT, Nat.reduceLeDiff, reduceCtorEq, Bool.false_eq_true, Bool.not_true, Bool.not_false, and_self, Nat.le_refl] <;> rfl) ?_
  refine aops_fn rfl rfl rfl en16 (g3) ?_
  refine aops_run 5 (by simp only [fw0, fw1, fw2, fw3, fw4, fw5, fw6, fw7, ↓reduceIte, Nat.reduceAdd, Nat.reduceMul, Nat.reduceEqDiff, Nat.reduceLT, Nat.reduceLeDiff, reduceCtorEq, Bool.false_eq_true, Bool.not_true, Bool.not_false, and_self, Nat.le_refl] <;> rfl) ?_
  refine awp_seq ?_
  -- region 7
  refine awp_region rfl ?_
  refine aops_run 3 (by simp only [fw0, fw1, fw2, fw3, fw4, fw5, fw6, fw7, ↓reduceIte, Nat.reduceAdd, Nat.reduceMul, Nat.reduceEqDiff, Nat.reduceLT, Nat.reduceLeDiff, reduceCtorEq, Bool.false_eq_true, Bool.not_true, Bool.not_false, and_self, Nat.le_refl] <;> rfl) ?_
  refine aops_fn rfl rfl rfl en16 (g4) ?_
  refine aops_run 5 (by simp only [fw0, fw1, fw2, fw3, fw4, fw5, fw6, fw7, ↓reduceIte, Nat.reduceAdd, Nat.reduceMul, Nat.reduceEqDiff, Nat.reduceLT, Nat.reduceLeDiff, reduceCtorEq, Bool.false_eq_true, Bool.not_true, Bool.not_false, and_self, Nat.le_refl] <;> rfl) ?_
  refine awp_seq ?_
  -- region 8
  refine awp_region rfl ?_
  refine aops_run 3 (by simp only [fw0, fw1, fw2, fw3, fw4, fw5, fw6, fw7, ↓reduceIte, Nat.reduceAdd, Nat.reduceMul, Nat.reduceEqDiff, Nat.reduceLT, Nat.reduceLeDiff, reduceCtorEq, Bool.false_eq_true, Bool.not_true, Bool.not_false, and_self, Nat.le_refl] <;> rfl) ?_
  refine aops_fn rfl rfl rfl en16 (g5) ?_
  refine aops_run 5 (by simp only [fw0, fw1, fw2, fw3, fw4, fw5, fw6, fw7, ↓reduceIte, Nat.reduceAdd, Nat.reduceMul, Nat.reduceEqDiff, Nat.reduceLT, Nat.reduceLeDiff, reduceCtorEq, Bool.false_eq_true, Bool.not_true, Bool.not_false, and_self, Nat.le_refl] <;> rfl) ?_
  refine awp_seq ?_
  -- region 9
  refine awp_region rfl ?_
  refine aops_run 3 (by simp only [fw0, fw1, fw2, fw3, fw4, fw5, fw6, fw7, ↓reduceIte, Nat.reduceAdd, Nat.reduceMul, Nat.reduceEqDiff, Nat.reduceLT, Nat.reduceLeDiff, reduceCtorEq, Bool.false_eq_true, Bool.not_true, Bool.not_false, and_self, Nat.le_refl] <;> rfl) ?_
  refine aops_fn rfl rfl rfl en16 (g6) ?_
  refine aops_run 5 (by simp only [fw0, fw1, fw2, fw3, fw4, fw5, fw6, fw7, ↓reduceIte, Nat.reduceAdd, Nat.reduceMul, Nat.reduceEqDiff, Nat.reduceLT, Nat.reduceLeDiff, reduceCtorEq, Bool.false_eq_true, Bool.not_true, Bool.not_false, and_self, Nat.le_refl] <;> rfl) ?_
  refine awp_seq ?_
  refine awp_seq ?_
  -- region 10
  refine awp_run rfl (by simp only [fw0, fw1, fw2, fw3, fw4, fw5, fw6, fw7, ↓reduceIte, Nat.reduceAdd, Nat.reduceMul, Nat.reduceEqDiff, Nat.reduceLT, Nat.reduceLeDiff, reduceCtorEq, Bool.false_eq_true, Bool.not_true, Bool.not_false, and_self, Nat.le_refl, un28, List.length_map, hy, hu, hv, decide_true] <;> rfl) ?_
  refine awp_cond (b := false) rfl ?_
  refine awp_skip ?_
  refine awp_seq ?_
  refine awp_seq ?_
  -- region 12
  refine awp_run rfl (by simp only [fw0, fw1, fw2, fw3, fw4, fw5, fw6, fw7, ↓reduceIte, Nat.reduceAdd, Nat.reduceMul, Nat.reduceEqDiff, Nat.reduceLT, Nat.reduceLeDiff, reduceCtorEq, Bool.false_eq_true, Bool.not_true, Bool.not_false, and_self, Nat.le_refl] <;> rfl) ?_
  refine awp_block ?_
  refine awp_for [0, 1, 2, 11, 14, 18, 20, 22, 24] (fun i : Nat => [.vec (l.map Sl.enc) false, .str a, .str b, .bool true, .vec (y.map Sl.enc) false, .vec (u.map Sl.enc) false, .vec (v.map Sl.enc) false, .vec (v.map Sl.enc) false, .int .i64 i]) (fun _ => H) (fun i => l.length - i) (fun i => i ≤ l.length) 0 rfl rfl (Nat.zero_le _) fun i hi => ?_
  refine awp_seq ?_
  refine awp_seq ?_
  -- region 13
  refine awp_run rfl (by simp only [fw0, fw1, fw2, fw3, fw4, fw5, fw6, fw7, ↓reduceIte, Nat.reduceAdd, Nat.reduceMul, Nat.reduceEqDiff, Nat.reduceLT, Nat.reduceLeDiff, reduceCtorEq, Bool.false_eq_true, Bool.not_true, Bool.not_false, and_self, Nat.le_refl, un28, List.length_map] <;> rfl) ?_
  refine awp_cond (by simp only [fw0, fw1, fw2, fw3, fw4, fw5, fw6, fw7, ↓reduceIte, Nat.reduceAdd, Nat.reduceMul, Nat.reduceEqDiff, Nat.reduceLT, Nat.reduceLeDiff, reduceCtorEq, Bool.false_eq_true, Bool.not_true, Bool.not_false, and_self, Nat.le_refl] <;> rfl) ?_
  by_cases hc : (i : Int) < l.length
  rotate_left
  · simp only [hc, decide_false, Bool.false_eq_true, ↓reduceIte]
    refine awp_exit ?_
    simp only [Post.block, Post.then, ↓reduceIte]
    refine awp_seq ?_
    -- region 17
    refine awp_run rfl (by simp only [fw0, fw1, fw2, fw3, fw4, fw5, fw6, fw7, ↓reduceIte, Nat.reduceAdd, Nat.reduceMul, Nat.reduceEqDiff, Nat.reduceLT, Nat.reduceLeDiff, reduceCtorEq, Bool.false_eq_true, Bool.not_true, Bool.not_false, and_self, Nat.le_refl] <;> rfl) ?_
    refine awp_ret ?_
    exact gives_end0 (.inl rfl) rfl
  simp only [hc, decide_true, ↓reduceIte]
  refine awp_skip ?_
  have hil : i < l.length := by omega
  have gy : y[i]? = some (y[i]'(by omega)) := List.getElem?_eq_getElem (by omega)
  have gu : u[i]? = some (u[i]'(by omega)) := List.getElem?_eq_getElem (by omega)
  have gv : v[i]? = some (v[i]'(by omega)) := List.getElem?_eq_getElem (by omega)
  refine awp_seq ?_
  refine awp_block ?_
  refine awp_seq ?_
  by_cases hab : a = b
  · -- region 15 drawn
    refine awp_drawn [0, 0, 0, 0, 0, 0, 0, 1, 0, 0, 0, 1, 0, 0, 0, 0, 0, 0, 1, 0, 0, 0, 1, 0, 0] [0, 0, 3, 7, 15, 15, 63, 127, 15, 15, 783, 1807, 4095, 8191, 16383, 32767, 32767, 131071, 262143, 32767, 32767, 1605631, 3702783, 8388607, 16777215] mixed (by kernel_rfl) (by kernel_rfl) ?_
    refine dops_run 7 (by simp only [fw0, fw1, fw2, fw3, fw4, fw5, fw6, fw7, ↓reduceIte, Nat.reduceAdd, Nat.reduceMul, Nat.reduceEqDiff, Nat.reduceLT, Nat.reduceLeDiff, reduceCtorEq, Bool.false_eq_true, Bool.not_true, Bool.not_false, and_self, Nat.le_refl, el28, ti65, eq65, hab, decide_true, Sl.fw, List.getElem?_map, gv, Option.map_some, Int.natCast_nonneg, show ∀ s : Sl, s.enc = [.str s.name, .int .i64 s.n] from fun _ => rfl, Bool.and_true] <;> rfl) ?_
    refine dops_run 6 (by simp only [fw0, fw1, fw2, fw3, fw4, fw5, fw6, fw7, ↓reduceIte, Nat.reduceAdd, Nat.reduceMul, Nat.reduceEqDiff, Nat.reduceLT, Nat.reduceLeDiff, reduceCtorEq, Bool.false_eq_true, Bool.not_true, Bool.not_false, and_self, Nat.le_refl, el28, ti65, eq65, hab, decide_true, Sl.fw, List.getElem?_map, gv, Option.map_some, Int.natCast_nonneg, show ∀ s : Sl, s.enc = [.str s.name, .int .i64 s.n] from fun _ => rfl, Bool.and_true] <;> rfl) ?_
    refine dops_run 6 (by simp only [fw0, fw1, fw2, fw3, fw4, fw5, fw6, fw7, ↓reduceIte, Nat.reduceAdd, Nat.reduceMul, Nat.reduceEqDiff, Nat.reduceLT, Nat.reduceLeDiff, reduceCtorEq, Bool.false_eq_true, Bool.not_true, Bool.not_false, and_self, Nat.le_refl, el28, ti65, eq65, hab, decide_true, Sl.fw, List.getElem?_map, gv, Option.map_some, Int.natCast_nonneg, show ∀ s : Sl, s.enc = [.str s.name, .int .i64 s.n] from fun _ => rfl, Bool.and_true] <;> rfl) ?_
    refine dops_run 6 (by simp only [fw0, fw1, fw2, fw3, fw4, fw5, fw6, fw7, ↓reduceIte, Nat.reduceAdd, Nat.reduceMul, Nat.reduceEqDiff, Nat.reduceLT, Nat.reduceLeDiff, reduceCtorEq, Bool.false_eq_true, Bool.not_true, Bool.not_false, and_self, Nat.le_refl, el28, ti65, eq65, hab, decide_true, Sl.fw, List.getElem?_map, gv, Option.map_some, Int.natCast_nonneg, show ∀ s : Sl, s.enc = [.str s.name, .int .i64 s.n] from fun _ => rfl, Bool.and_true] <;> rfl) ?_
    refine dops_end ?_
    refine awp_cond (b := false) rfl ?_
    refine awp_skip ?_
    -- region 14
    refine awp_run rfl (by simp only [fw0, fw1, fw2, fw3, fw4, fw5, fw6, fw7, ↓reduceIte, Nat.reduceAdd, Nat.reduceMul, Nat.reduceEqDiff, Nat.reduceLT, Nat.reduceLeDiff, reduceCtorEq, Bool.false_eq_true, Bool.not_true, Bool.not_false, and_self, Nat.le_refl] <;> rfl) ?_
    exact ⟨i + 1, by omega, by omega, by simp only [fw0, fw1, fw2, fw3, fw4, fw5, fw6, fw7, ↓reduceIte, Nat.reduceAdd, Nat.reduceMul, Nat.reduceEqDiff, Nat.reduceLT, Nat.reduceLeDiff, reduceCtorEq, Bool.false_eq_true, Bool.not_true, Bool.not_false, and_self, Nat.le_refl, List.map_cons, List.map_nil, hab]; rw [wrapS i (by omega)], rfl, rfl⟩
  · obtain rfl : y = u := hyu.resolve_left hab
    -- region 15 drawn
    refine awp_drawn [0, 0, 0, 0, 0, 0, 0, 1, 0, 0, 0, 1, 0, 0, 0, 0, 0, 0, 1, 0, 0, 0, 1, 0, 0] [0, 0, 3, 7, 15, 15, 63, 127, 15, 15, 783, 1807, 4095, 8191, 16383, 32767, 32767, 131071, 262143, 32767, 32767, 1605631, 3702783, 8388607, 16777215] mixed (by kernel_rfl) (by kernel_rfl) ?_
    refine dops_run 7 (by simp only [fw0, fw1, fw2, fw3, fw4, fw5, fw6, fw7, ↓reduceIte, Nat.reduceAdd, Nat.reduceMul, Nat.reduceEqDiff, Nat.reduceLT, Nat.reduceLeDiff, reduceCtorEq, Bool.false_eq_true, Bool.not_true, Bool.not_false, and_self, Nat.le_refl, el28, ti65, eq65, hab, decide_true, decide_false, Sl.fw, List.getElem?_map, gv, gy, Option.map_some, Int.natCast_nonneg, show ∀ s : Sl, s.enc = [.str s.name, .int .i64 s.n] from fun _ => rfl, Bool.and_true] <;> rfl) ?_
    refine dops_run 6 (by simp only [fw0, fw1, fw2, fw3, fw4, fw5, fw6, fw7, ↓reduceIte, Nat.reduceAdd, Nat.reduceMul, Nat.reduceEqDiff, Nat.reduceLT, Nat.reduceLeDiff, reduceCtorEq, Bool.false_eq_true, Bool.not_true, Bool.not_false, and_self, Nat.le_refl, el28, ti65, eq65, hab, decide_true, decide_false, Sl.fw, List.getElem?_map, gv, gy, Option.map_some, Int.natCast_nonneg, show ∀ s : Sl, s.enc = [.str s.name, .int .i64 s.n] from fun _ => rfl, Bool.and_true] <;> rfl) ?_
    refine dops_run 6 (by simp only [fw0, fw1, fw2, fw3, fw4, fw5, fw6, fw7, ↓reduceIte, Nat.reduceAdd, Nat.reduceMul, Nat.reduceEqDiff, Nat.reduceLT, Nat.reduceLeDiff, reduceCtorEq, Bool.false_eq_true, Bool.not_true, Bool.not_false, and_self, Nat.le_refl, el28, ti65, eq65, hab, decide_true, decide_false, Sl.fw, List.getElem?_map, gv, gy, Option.map_some, Int.natCast_nonneg, show ∀ s : Sl, s.enc = [.str s.name, .int .i64 s.n] from fun _ => rfl, Bool.and_true] <;> rfl) ?_
    refine dops_run 6 (by simp only [fw0, fw1, fw2, fw3, fw4, fw5, fw6, fw7, ↓reduceIte, Nat.reduceAdd, Nat.reduceMul, Nat.reduceEqDiff, Nat.reduceLT, Nat.reduceLeDiff, reduceCtorEq, Bool.false_eq_true, Bool.not_true, Bool.not_false, and_self, Nat.le_refl, el28, ti65, eq65, hab, decide_true, decide_false, Sl.fw, List.getElem?_map, gv, gy, Option.map_some, Int.natCast_nonneg, show ∀ s : Sl, s.enc = [.str s.name, .int .i64 s.n] from fun _ => rfl, Bool.and_true] <;> rfl) ?_
    refine dops_end ?_
    refine awp_cond (b := false) rfl ?_
    refine awp_skip ?_
    -- region 14
    refine awp_run rfl (by simp only [fw0, fw1, fw2, fw3, fw4, fw5, fw6, fw7, ↓reduceIte, Nat.reduceAdd, Nat.reduceMul, Nat.reduceEqDiff, Nat.reduceLT, Nat.reduceLeDiff, reduceCtorEq, Bool.false_eq_true, Bool.not_true, Bool.not_false, and_self, Nat.le_refl] <;> rfl) ?_
    exact ⟨i + 1, by omega, by omega, by simp only [fw0, fw1, fw2, fw3, fw4, fw5, fw6, fw7, ↓reduceIte, Nat.reduceAdd, Nat.reduceMul, Nat.reduceEqDiff, Nat.reduceLT, Nat.reduceLeDiff, reduceCtorEq, Bool.false_eq_true, Bool.not_true, Bool.not_false, and_self, Nat.le_refl, List.map_cons, List.map_nil]; rw [wrapS i (by omega)], rfl, rfl⟩

/-- What cells are behind a write. -/
def wr (l : List Sl) (nm : List UInt8) (n : Int) : List Sl := (writeV l nm n).getD l
theorem wr_some {l : List Sl} {nm : List UInt8} {k : Nat} (h : fnd l nm = some k) (n : Int) : wr l nm n = l.set k ⟨nm, n⟩ := by simp [wr, writeV, h]
theorem wr_none {l : List Sl} {nm : List UInt8} (h : fnd l nm = none) (n : Int) : wr l nm n = l := by simp [wr, writeV, h]
theorem fnd_wr (l : List Sl) (nm other : List UInt8) (n : Int) : fnd (wr l nm n) other = fnd l other := by
  cases h : fnd l nm with
  | none => rw [wr_none h]
  | some k => rw [wr_some h, fnd_set h]
theorem wr_again (l : List Sl) (b : List UInt8) (m n : Int) : wr (wr l b m) b n = wr l b n := by
  cases h : fnd l b with
  | none => rw [wr_none (l := wr l b m) (by rw [fnd_wr, h]), wr_none h, wr_none h]
  | some k => rw [wr_some (k := k) (by rw [fnd_wr, h]), wr_some h, wr_some h, List.set_set]
theorem wr_swap (l : List Sl) {a b : List UInt8} (hab : a ≠ b) (n m : Int) : wr (wr l a n) b m = wr (wr l b m) a n := by
  cases ha : fnd l a with
  | none => rw [wr_none ha, wr_none (l := wr l b m) (by rw [fnd_wr, ha])]
  | some i =>
    cases hb : fnd l b with
    | none => rw [wr_none hb, wr_none (l := wr l a n) (by rw [fnd_wr, hb])]
    | some j =>
      have hij : i ≠ j := fun e => hab (by subst e; rw [← fnd_name ha, ← fnd_name hb])
      rw [wr_some (k := j) (by rw [fnd_wr, hb]), wr_some ha, wr_some (k := i) (by rw [fnd_wr, ha]), wr_some hb, List.set_comm _ _ hij]

/-- chancellaw18.StoreTwice -/
theorem c5 (Γ : Nat → PV) (hΓ : Tab Γ) (l : List Sl) (a b : List UInt8) (n m : Int) (hl24 : l.length * 24 ≤ reachBytes) : Gives Tryd.prog Γ 5 [.vec (l.map Sl.enc) false, .str a, .str b, .int .i64 n, .int .i64 m] (.bool true) := by
  have hlen : ∀ (l : List Sl) nm n, (wr l nm n).length = l.length := fun l nm n => wr_len l nm n
  have g : ∀ (l : List Sl) nm n, l.length * 24 ≤ reachBytes → Gives Tryd.prog Γ 16 [.vec (l.map Sl.enc) false, .str nm, .int .i64 n] (.tup [.vec ((wr l nm n).map Sl.enc) false, .bool (writeV l nm n).isSome]) := fun l nm n h => c16 Γ l nm n h
  have g5 := g (wr (wr l a n) b m) b n (by rw [hlen, hlen]; exact hl24)
  rw [wr_again] at g5
  exact c5a Γ hΓ l (wr l a n) (wr (wr l a n) b m) (wr l b m) (wr (wr l b m) a n) (wr (wr l a n) b n) a b n m _ _ _ _ _ _ (g _ _ _ hl24) (g _ _ _ (by rw [hlen]; exact hl24)) (g _ _ _ hl24) (g _ _ _ (by rw [hlen]; exact hl24)) g5 (g _ _ _ (by rw [hlen]; exact hl24))
    (by rw [hlen, hlen]) (by rw [hlen, hlen]) (by rw [hlen, hlen]) (by
      by_cases hab : a = b
      · exact .inl hab
      · exact .inr (wr_swap l hab n m))

end Go.Proofs.YtinedfjknhahmaaDoor
