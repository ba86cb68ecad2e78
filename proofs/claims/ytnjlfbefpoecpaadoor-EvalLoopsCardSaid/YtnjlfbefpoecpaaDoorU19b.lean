/- The law of loops. -/
import Derived.Test.YtnjlfbefpoecpaaDoorU19a
namespace Go.Proofs.YtnjlfbefpoecpaaDoor
set_option linter.unusedVariables false
set_option linter.unusedSimpArgs false
set_option maxRecDepth 100000
open Go.RowKit Fw

theorem wrapId {a : Int} (h : I64 a) : IntKind.i64.wrap a = a := by
  obtain ⟨h1, h2⟩ := h
  unfold IntKind.wrap
  have hb : IntKind.i64.bits = 64 := rfl
  have hsg : IntKind.i64.signed = true := rfl
  simp only [hb, hsg, Bool.true_and, decide_eq_true_eq]
  split <;> omega

theorem quo_ok : ∀ n : Nat, n < 50 → IntKind.i64.wrap ((IntKind.i64.wrap ((n : Int) * IntKind.i64.wrap ((n : Int) + 1))).tdiv 2) = ((n * (n + 1) / 2 : Nat) : Int) := by decide

theorem loopPg_le (n : Int) (b : Tm) (hb : b = loopT) : PV.leL (.vec [] true :: .vec ((loopPg n).cells.map Dl.enc) true :: .vec [] true :: b.enc) (loopPg n).enc := by
  subst hb
  simp [Pg.enc, loopPg, PV.le, PV.leL, PV.leLL, PV.leL_refl, PV.leLL_refl]

/-- EvalLoops -/
theorem c4 (Γ : Nat → PV) (hΓ : TabK Γ) (k : Int) (h0 : 0 ≤ k) (h1 : k < 256) : Gives Tryd.prog Γ 4 [.int .u8 k] (.bool true) := by
  refine fn_of_awp Tryd.func4 rfl (by simp [Tryd.f4]) rfl fun H => ?_
  refine awp_seq ?_
  obtain ⟨n, hn, hkn⟩ : ∃ n : Nat, n < 50 ∧ IntKind.i64.wrap (k.tmod 50) = n := ⟨(k.tmod 50).toNat, by
    have := Int.tmod_lt_of_pos k (show (0 : Int) < 50 by decide)
    have := Int.tmod_nonneg 50 h0
    omega, by
    have := Int.tmod_lt_of_pos k (show (0 : Int) < 50 by decide)
    have := Int.tmod_nonneg 50 h0
    rw [wrapId ⟨by omega, by omega⟩]; omega⟩
  have hk := loops_ok
  rw [List.all_eq_true] at hk
  have hok := hk n (List.mem_range.2 hn)
  simp only [loopOk, Bool.and_eq_true, decide_eq_true_eq] at hok
  obtain ⟨⟨⟨ho1, ho2⟩, ho3⟩, ho4⟩ := hok
  -- region 0
  refine awp_run rfl (by simp only [fw0, fw1, fw2, fw3, fw4, fw5, fw6, fw7, ↓reduceIte, Nat.reduceAdd, Nat.reduceMul, Nat.reduceEqDiff, Nat.reduceLT, Nat.reduceLeDiff, reduceCtorEq, Bool.false_eq_true, Bool.not_true, Bool.not_false, and_self, Nat.le_refl] <;> rfl) ?_
  refine awp_seq ?_
  -- region 1
  refine awp_region rfl ?_
  refine aops_fn rfl rfl rfl en9 (c9 Γ hΓ) ?_
  refine aops_run 1 (by simp only [fw0, fw1, fw2, fw3, fw4, fw5, fw6, fw7, ↓reduceIte, Nat.reduceAdd, Nat.reduceMul, Nat.reduceEqDiff, Nat.reduceLT, Nat.reduceLeDiff, reduceCtorEq, Bool.false_eq_true, Bool.not_true, Bool.not_false, and_self, Nat.le_refl] <;> rfl) ?_
  refine awp_seq ?_
  refine awp_seq ?_
  -- region 2
  refine awp_run rfl (by simp only [fw0, fw1, fw2, fw3, fw4, fw5, fw6, fw7, ↓reduceIte, Nat.reduceAdd, Nat.reduceMul, Nat.reduceEqDiff, Nat.reduceLT, Nat.reduceLeDiff, reduceCtorEq, Bool.false_eq_true, Bool.not_true, Bool.not_false, and_self, Nat.le_refl] <;> rfl) ?_
  refine awp_cond (b := false) rfl ?_
  refine awp_skip ?_
  refine awp_seq ?_
  -- region 4
  refine awp_run rfl (by simp only [fw0, fw1, fw2, fw3, fw4, fw5, fw6, fw7, ↓reduceIte, Nat.reduceAdd, Nat.reduceMul, Nat.reduceEqDiff, Nat.reduceLT, Nat.reduceLeDiff, reduceCtorEq, Bool.false_eq_true, Bool.not_true, Bool.not_false, and_self, Nat.le_refl, un5, un2] <;> rfl) ?_
  refine awp_seq ?_
  -- region 5
  refine awp_region rfl ?_
  refine aops_fn rfl rfl rfl en13 (c13 Γ [99]) ?_
  refine aops_fn rfl rfl rfl en16 (c16 Γ [99]) ?_
  refine aops_fn rfl rfl rfl en14 (c14 Γ 1) ?_
  refine aops_fn rfl rfl rfl en12 (c12 Γ 12 [45] (getT [99]) (numT 1)) ?_
  refine aops_fn rfl rfl rfl en12 (c12 Γ 11 [] (varT [99]) (twoT 12 [45] (getT [99]) (numT 1))) ?_
  refine aops_run 2 (by simp only [fw0, fw1, fw2, fw3, fw4, fw5, fw6, fw7, ↓reduceIte, Nat.reduceAdd, Nat.reduceMul, Nat.reduceEqDiff, Nat.reduceLT, Nat.reduceLeDiff, reduceCtorEq, Bool.false_eq_true, Bool.not_true, Bool.not_false, and_self, Nat.le_refl, ti29, Tm.fw] <;> rfl) ?_
  refine awp_seq ?_
  -- region 6
  refine awp_region rfl ?_
  refine aops_fn rfl rfl rfl en13 (c13 Γ [100]) ?_
  refine aops_fn rfl rfl rfl en16 (c16 Γ [100]) ?_
  refine aops_fn rfl rfl rfl en16 (c16 Γ [99]) ?_
  refine aops_fn rfl rfl rfl en12 (c12 Γ 12 [43] (getT [100]) (getT [99])) ?_
  refine aops_fn rfl rfl rfl en12 (c12 Γ 11 [] (varT [100]) (twoT 12 [43] (getT [100]) (getT [99]))) ?_
  refine aops_run 2 (by simp only [fw0, fw1, fw2, fw3, fw4, fw5, fw6, fw7, ↓reduceIte, Nat.reduceAdd, Nat.reduceMul, Nat.reduceEqDiff, Nat.reduceLT, Nat.reduceLeDiff, reduceCtorEq, Bool.false_eq_true, Bool.not_true, Bool.not_false, and_self, Nat.le_refl, ti29, Tm.fw] <;> rfl) ?_
  refine awp_seq ?_
  -- region 7
  refine awp_run rfl (by simp only [fw0, fw1, fw2, fw3, fw4, fw5, fw6, fw7, ↓reduceIte, Nat.reduceAdd, Nat.reduceMul, Nat.reduceEqDiff, Nat.reduceLT, Nat.reduceLeDiff, reduceCtorEq, Bool.false_eq_true, Bool.not_true, Bool.not_false, and_self, Nat.le_refl, ti51, pl51, un25, ti31, pl31] <;> rfl) ?_
  refine awp_seq ?_
  -- region 8 drawn
  refine awp_drawn [0, 1, 1, 0, 0, 0, 0, 0, 2] [0, 0, 0, 7, 15, 31, 63, 127, 255] mixed rfl (by kernel_rfl) ?_
  refine dops_fn rfl rfl rfl rfl en16 (c16 Γ [99]) ?_
  refine dops_run 2 (by simp only [fw0, fw1, fw2, fw3, fw4, fw5, fw6, fw7, ↓reduceIte, Nat.reduceAdd, Nat.reduceMul, Nat.reduceEqDiff, Nat.reduceLT, Nat.reduceLeDiff, reduceCtorEq, Bool.false_eq_true, Bool.not_true, Bool.not_false, and_self, Nat.le_refl, ti29, Tm.fw] <;> rfl) ?_
  refine dops_fn rfl rfl rfl rfl en12 (c12 Γ 13 [] moreT lessT) ?_
  refine dops_fn rfl rfl rfl rfl en12 (c12 Γ 7 [] (getT [99]) (twoT 13 [] moreT lessT)) ?_
  refine dops_fn rfl rfl rfl rfl en16 (c16 Γ [100]) ?_
  refine dops_fn rfl rfl rfl rfl en12 (c12 Γ 13 [] (twoT 7 [] (getT [99]) (twoT 13 [] moreT lessT)) (getT [100])) ?_
  refine dops_run 2 (by simp only [fw0, fw1, fw2, fw3, fw4, fw5, fw6, fw7, ↓reduceIte, Nat.reduceAdd, Nat.reduceMul, Nat.reduceEqDiff, Nat.reduceLT, Nat.reduceLeDiff, reduceCtorEq, Bool.false_eq_true, Bool.not_true, Bool.not_false, and_self, Nat.le_refl, fl31_3, ti29, Tm.fw] <;> rfl) ?_
  refine dops_end ?_
  refine awp_seq ?_
  -- region 9
  refine awp_region rfl ?_
  refine aops_run 1 (by simp only [fw0, fw1, fw2, fw3, fw4, fw5, fw6, fw7, ↓reduceIte, Nat.reduceAdd, Nat.reduceMul, Nat.reduceEqDiff, Nat.reduceLT, Nat.reduceLeDiff, reduceCtorEq, Bool.false_eq_true, Bool.not_true, Bool.not_false, and_self, Nat.le_refl, ti31] <;> rfl) ?_
  refine aops_fnLe rfl rfl rfl en15 (c15 Γ hΓ (loopPg (IntKind.i64.wrap (k.tmod 50))) [] 5000 (by decide) (by simp [loopPg])) ?_ ?_
  · exact ⟨loopPg_le _ _ rfl, ⟨nofun, trivial⟩, PV.le_refl _, trivial⟩
  refine aops_run 2 (by simp only [fw0, fw1, fw2, fw3, fw4, fw5, fw6, fw7, ↓reduceIte, Nat.reduceAdd, Nat.reduceMul, Nat.reduceEqDiff, Nat.reduceLT, Nat.reduceLeDiff, reduceCtorEq, Bool.false_eq_true, Bool.not_true, Bool.not_false, and_self, Nat.le_refl, ti47, resE_fw] <;> rfl) ?_
  rw [hkn]
  generalize runP (loopPg n) [] 5000 = r at ho1 ho2 ho3 ho4 ⊢
  obtain ⟨x, y, hx, hx0, hy0⟩ : ∃ x y, r.c = [x, y] ∧ x.n = 0 ∧ y.n = ((n * (n + 1) / 2 : Nat) : Int) := by
    cases h : r.c with
    | nil => rw [h] at ho3; cases ho3
    | cons x l =>
      rw [h] at ho3
      cases l with
      | nil => simp at ho3
      | cons y l =>
        cases l with
        | nil => simp only [List.map_cons, List.map_nil, List.cons.injEq, and_true] at ho3; exact ⟨x, y, rfl, ho3.1, ho3.2⟩
        | cons z l => simp at ho3
  have hd9 : (resE r).drop 9 = [.vec [x.enc, y.enc] false, .int .i64 r.f] := by simp only [resE_fw, hx]; rfl
  refine awp_seq ?_
  refine awp_seq ?_
  -- region 10
  refine awp_run rfl (by simp only [fw0, fw1, fw2, fw3, fw4, fw5, fw6, fw7, ↓reduceIte, Nat.reduceAdd, Nat.reduceMul, Nat.reduceEqDiff, Nat.reduceLT, Nat.reduceLeDiff, reduceCtorEq, Bool.false_eq_true, Bool.not_true, Bool.not_false, and_self, Nat.le_refl, fl47_2, ti45, un45, hd9, List.length_cons, List.length_nil, Fw.get_at] <;> rfl) ?_
  refine awp_cond (b := false) rfl ?_
  refine awp_skip ?_
  refine awp_seq ?_
  have hq : IntKind.i64.wrap ((IntKind.i64.wrap ((n : Int) * IntKind.i64.wrap ((n : Int) + 1))).tdiv 2) = ((n * (n + 1) / 2 : Nat) : Int) := quo_ok n hn
  have hf : IntKind.i64.wrap (4994 - IntKind.i64.wrap (17 * (n : Int))) = 4994 - 17 * (n : Int) := by
    rw [wrapId (a := 17 * (n : Int)) ⟨by omega, by omega⟩, wrapId ⟨by omega, by omega⟩]
  -- region 12 drawn
  refine awp_drawn [0, 0, 0, 1, 0, 0, 0, 0, 0, 1, 0, 0, 0, 0, 0, 0, 0, 0, 0, 1, 0, 0, 1, 0, 0, 0, 0, 1, 0, 0, 1, 0, 0, 1, 0, 0, 0, 0, 1, 0, 0, 0, 0, 0, 0] [0, 1, 3, 7, 15, 31, 63, 127, 255, 511, 127, 127, 2175, 7295, 15487, 32767, 65535, 131071, 262143, 524287, 1048575, 2097151, 4194303, 8388607, 16777215, 33554431, 67108863, 134217727, 268435455, 536870911, 1073741823, 67108863, 2214592511, 6509559807, 17179869183, 34359738367, 68719476735, 137438953471, 274877906943, 137438953471, 687194767359, 1786706395135, 4398046511103, 8796093022207, 17592186044415] mixed rfl (by kernel_rfl) ?_
  refine dops_run 6 (by simp only [fw0, fw1, fw2, fw3, fw4, fw5, fw6, fw7, ↓reduceIte, Nat.reduceAdd, Nat.reduceMul, Nat.reduceEqDiff, Nat.reduceLT, Nat.reduceLeDiff, reduceCtorEq, Bool.false_eq_true, Bool.not_true, Bool.not_false, and_self, Nat.le_refl, fl47_0, ti3, fl47_1, fl44_1, ti2, fl47_2, ti45, el45, fl53_1, fl47_3, hd9, resE_fw, resB_fw, Sl.fw, ho1, ho2, hx0, hy0, ho4, hq, hf, decide_true] <;> rfl) ?_
  refine dops_run 6 (by simp only [fw0, fw1, fw2, fw3, fw4, fw5, fw6, fw7, ↓reduceIte, Nat.reduceAdd, Nat.reduceMul, Nat.reduceEqDiff, Nat.reduceLT, Nat.reduceLeDiff, reduceCtorEq, Bool.false_eq_true, Bool.not_true, Bool.not_false, and_self, Nat.le_refl, fl47_0, ti3, fl47_1, fl44_1, ti2, fl47_2, ti45, el45, fl53_1, fl47_3, hd9, resE_fw, resB_fw, Sl.fw, ho1, ho2, hx0, hy0, ho4, hq, hf, decide_true] <;> rfl) ?_
  refine dops_run 6 (by simp only [fw0, fw1, fw2, fw3, fw4, fw5, fw6, fw7, ↓reduceIte, Nat.reduceAdd, Nat.reduceMul, Nat.reduceEqDiff, Nat.reduceLT, Nat.reduceLeDiff, reduceCtorEq, Bool.false_eq_true, Bool.not_true, Bool.not_false, and_self, Nat.le_refl, fl47_0, ti3, fl47_1, fl44_1, ti2, fl47_2, ti45, el45, fl53_1, fl47_3, hd9, resE_fw, resB_fw, Sl.fw, ho1, ho2, hx0, hy0, ho4, hq, hf, decide_true] <;> rfl) ?_
  refine dops_run 6 (by simp only [fw0, fw1, fw2, fw3, fw4, fw5, fw6, fw7, ↓reduceIte, Nat.reduceAdd, Nat.reduceMul, Nat.reduceEqDiff, Nat.reduceLT, Nat.reduceLeDiff, reduceCtorEq, Bool.false_eq_true, Bool.not_true, Bool.not_false, and_self, Nat.le_refl, fl47_0, ti3, fl47_1, fl44_1, ti2, fl47_2, ti45, el45, fl53_1, fl47_3, hd9, resE_fw, resB_fw, Sl.fw, ho1, ho2, hx0, hy0, ho4, hq, hf, decide_true] <;> rfl) ?_
  refine dops_run 7 (by simp only [fw0, fw1, fw2, fw3, fw4, fw5, fw6, fw7, ↓reduceIte, Nat.reduceAdd, Nat.reduceMul, Nat.reduceEqDiff, Nat.reduceLT, Nat.reduceLeDiff, reduceCtorEq, Bool.false_eq_true, Bool.not_true, Bool.not_false, and_self, Nat.le_refl, fl47_0, ti3, fl47_1, fl44_1, ti2, fl47_2, ti45, el45, fl53_1, fl47_3, hd9, resE_fw, resB_fw, Sl.fw, ho1, ho2, hx0, hy0, ho4, hq, hf, decide_true] <;> rfl) ?_
  refine dops_run 7 (by simp only [fw0, fw1, fw2, fw3, fw4, fw5, fw6, fw7, ↓reduceIte, Nat.reduceAdd, Nat.reduceMul, Nat.reduceEqDiff, Nat.reduceLT, Nat.reduceLeDiff, reduceCtorEq, Bool.false_eq_true, Bool.not_true, Bool.not_false, and_self, Nat.le_refl, fl47_0, ti3, fl47_1, fl44_1, ti2, fl47_2, ti45, el45, fl53_1, fl47_3, hd9, resE_fw, resB_fw, Sl.fw, ho1, ho2, hx0, hy0, ho4, hq, hf, decide_true] <;> rfl) ?_
  refine dops_run 7 (by simp only [fw0, fw1, fw2, fw3, fw4, fw5, fw6, fw7, ↓reduceIte, Nat.reduceAdd, Nat.reduceMul, Nat.reduceEqDiff, Nat.reduceLT, Nat.reduceLeDiff, reduceCtorEq, Bool.false_eq_true, Bool.not_true, Bool.not_false, and_self, Nat.le_refl, fl47_0, ti3, fl47_1, fl44_1, ti2, fl47_2, ti45, el45, fl53_1, fl47_3, hd9, resE_fw, resB_fw, Sl.fw, ho1, ho2, hx0, hy0, ho4, hq, hf, decide_true] <;> rfl) ?_
  refine dops_end ?_
  refine awp_ret ?_
  refine gives_end (.inl rfl) _ ?_
  simp [ares, aresL, ares1, rd, ev, alook, aput, Tryd.f4]

end Go.Proofs.YtnjlfbefpoecpaaDoor
