/- What the laws of runs of programs of bytes have in common; the law of tries. -/
import Derived.Test.YtnjlfbefpoecpaaDoorWG
import Derived.Test.YtnjlfbefpoecpaaDoorWF
namespace Go.Proofs.YtnjlfbefpoecpaaDoor
set_option linter.unusedVariables false
set_option linter.unusedSimpArgs false
set_option maxRecDepth 100000
open Go.RowKit Fw

def loHi : Names := [[76, 111], [72, 105]]
abbrev bytesV (l : List Int) : PV := .vec (l.map fun n => [.int .u8 n]) false
abbrev insV (l : List Int) : PV := .vec (l.map fun n => [.int .i64 n]) false
theorem c10' (Γ : Nat → PV) (l : List Int) (hl : ∀ x ∈ l, 0 ≤ x ∧ x < 256) (n : Int) (hn0 : 0 ≤ n) (hn1 : n < 256) :
    Gives Tryd.prog Γ 10 [.vec [[.str [76, 111]], [.str [72, 105]]] true, bytesV l, .int .u8 n] (.agg (wellF loHi l n).enc) :=
  (c10 Γ loHi (by decide) (by decide) l hl n hn0 hn1).args ⟨⟨nofun, PV.leLL_refl _⟩, PV.le_refl _, PV.le_refl _, trivial⟩
theorem wellF_small (l : List Int) {n : Int} (h0 : 0 ≤ n) : (wellF loHi l n).ins.length + (wellF loHi l n).cells.length + (wellF loHi l n).defs.length ≤ 1000 := by
  have h := wellF_ok loHi l h0
  have h1 := h.ins
  have h2 := h.cells
  have h3 := h.ndefs
  omega
theorem body_splice (p : Pg) (t : Tm) : List.take 3 p.enc ++ (t.enc ++ List.drop 7 p.enc) = ({ p with body := t } : Pg).enc := by
  simp [Pg.enc, Tm.fw]
theorem latsL1 : latsL[1]? = some [.vec [[.str [76, 111]], [.str [72, 105]]] true, .vec [[.int .u64 3], [.int .u64 2]] true] := rfl

/-- EvalTries -/
theorem c3 (Γ : Nat → PV) (hΓ : TabK Γ) (l : List Int) (hl : ∀ x ∈ l, 0 ≤ x ∧ x < 256) (n : Int) (hn0 : 0 ≤ n) (hn1 : n < 256) (ins : List Int) : Gives Tryd.prog Γ 3 [bytesV l, .int .u8 n, insV ins] (.bool true) := by
  refine fn_of_awp Tryd.func3 rfl (by simp [Tryd.f3]) rfl fun H => ?_
  refine awp_seq ?_
  -- region 0
  refine awp_run rfl (by simp only [fw0, fw1, fw2, fw3, fw4, fw5, fw6, fw7, ↓reduceIte, Nat.reduceAdd, Nat.reduceMul, Nat.reduceEqDiff, Nat.reduceLT, Nat.reduceLeDiff, reduceCtorEq, Bool.false_eq_true, Bool.not_true, Bool.not_false, and_self, Nat.le_refl] <;> rfl) ?_
  refine awp_seq ?_
  -- region 1
  refine awp_region rfl ?_
  refine aops_fn rfl rfl rfl en9 (c9 Γ hΓ) ?_
  refine aops_run 1 (by simp only [fw0, fw1, fw2, fw3, fw4, fw5, fw6, fw7, ↓reduceIte, Nat.reduceAdd, Nat.reduceMul, Nat.reduceEqDiff, Nat.reduceLT, Nat.reduceLeDiff, reduceCtorEq, Bool.false_eq_true, Bool.not_true, Bool.not_false, and_self, Nat.le_refl] <;> rfl) ?_
  refine awp_seq ?_
  refine awp_seq ?_
  -- region 2
  refine awp_run rfl (by simp only [fw0, fw1, fw2, fw3, fw4, fw5, fw6, fw7, ↓reduceIte, Nat.reduceAdd, Nat.reduceMul, Nat.reduceEqDiff, Nat.reduceLT, Nat.reduceLeDiff, reduceCtorEq, Bool.false_eq_true, Bool.not_true, Bool.not_false, and_self, Nat.le_refl] <;> rfl) ?_
  refine awp_cond (b := false) rfl ?_
  refine awp_skip ?_
  refine awp_seq ?_
  -- region 4
  refine awp_region rfl ?_
  refine aops_fn rfl rfl rfl en11 (c11 Γ) ?_
  refine aops_run 5 (by simp only [fw0, fw1, fw2, fw3, fw4, fw5, fw6, fw7, ↓reduceIte, Nat.reduceAdd, Nat.reduceMul, Nat.reduceEqDiff, Nat.reduceLT, Nat.reduceLeDiff, reduceCtorEq, Bool.false_eq_true, Bool.not_true, Bool.not_false, and_self, Nat.le_refl, el37, fl36_0, ti33, latsL1] <;> rfl) ?_
  refine aops_fn rfl rfl rfl en10 (c10' Γ l hl n hn0 hn1) ?_
  have hok := wellF_ok loHi l hn0
  have hsm := wellF_small l hn0
  generalize wellF loHi l n = p at hok hsm ⊢
  have hlaw := tries_law hok.defs ins
  dsimp only at hlaw
  refine aops_run 2 (by simp only [fw0, fw1, fw2, fw3, fw4, fw5, fw6, fw7, ↓reduceIte, Nat.reduceAdd, Nat.reduceMul, Nat.reduceEqDiff, Nat.reduceLT, Nat.reduceLeDiff, reduceCtorEq, Bool.false_eq_true, Bool.not_true, Bool.not_false, and_self, Nat.le_refl, ti31, Pg.fw] <;> rfl) ?_
  refine awp_seq ?_
  -- region 5
  refine awp_run rfl (by simp only [fw0, fw1, fw2, fw3, fw4, fw5, fw6, fw7, ↓reduceIte, Nat.reduceAdd, Nat.reduceMul, Nat.reduceEqDiff, Nat.reduceLT, Nat.reduceLeDiff, reduceCtorEq, Bool.false_eq_true, Bool.not_true, Bool.not_false, and_self, Nat.le_refl, ti31, Pg.fw] <;> rfl) ?_
  refine awp_seq ?_
  -- region 6 drawn
  refine awp_drawn [0, 1, 0, 0, 0, 0, 0, 2] [0, 1, 0, 4, 12, 31, 63, 127] mixed rfl (by kernel_rfl) ?_
  refine dops_run 2 (by simp only [fw0, fw1, fw2, fw3, fw4, fw5, fw6, fw7, ↓reduceIte, Nat.reduceAdd, Nat.reduceMul, Nat.reduceEqDiff, Nat.reduceLT, Nat.reduceLeDiff, reduceCtorEq, Bool.false_eq_true, Bool.not_true, Bool.not_false, and_self, Nat.le_refl, fl31_3, ti29, Pg.fw, Tm.fw] <;> rfl) ?_
  refine dops_fn rfl rfl rfl rfl en13 (c13 Γ [122]) ?_
  refine dops_fn rfl rfl rfl rfl en14 (c14 Γ 1) ?_
  refine dops_fn rfl rfl rfl rfl en12 (c12 Γ 12 [43] (varT [122]) (numT 1)) ?_
  refine dops_fn rfl rfl rfl rfl en12 (c12 Γ 9 [122] p.body (twoT 12 [43] (varT [122]) (numT 1))) ?_
  refine dops_run 2 (by simp only [fw0, fw1, fw2, fw3, fw4, fw5, fw6, fw7, ↓reduceIte, Nat.reduceAdd, Nat.reduceMul, Nat.reduceEqDiff, Nat.reduceLT, Nat.reduceLeDiff, reduceCtorEq, Bool.false_eq_true, Bool.not_true, Bool.not_false, and_self, Nat.le_refl, fl31_3, ti29, Tm.fw, Pg.fw, body_splice] <;> rfl) ?_
  refine dops_end ?_
  refine awp_seq ?_
  -- region 7
  refine awp_region rfl ?_
  refine aops_run 2 (by simp only [fw0, fw1, fw2, fw3, fw4, fw5, fw6, fw7, ↓reduceIte, Nat.reduceAdd, Nat.reduceMul, Nat.reduceEqDiff, Nat.reduceLT, Nat.reduceLeDiff, reduceCtorEq, Bool.false_eq_true, Bool.not_true, Bool.not_false, and_self, Nat.le_refl, ti31, Pg.fw] <;> rfl) ?_
  refine aops_fn rfl rfl rfl en15 (c15 Γ hΓ p ins 3000 (by decide) hsm) ?_
  refine aops_run 2 (by simp only [fw0, fw1, fw2, fw3, fw4, fw5, fw6, fw7, ↓reduceIte, Nat.reduceAdd, Nat.reduceMul, Nat.reduceEqDiff, Nat.reduceLT, Nat.reduceLeDiff, reduceCtorEq, Bool.false_eq_true, Bool.not_true, Bool.not_false, and_self, Nat.le_refl, ti47, resE_fw] <;> rfl) ?_
  refine awp_seq ?_
  -- region 8
  refine awp_region rfl ?_
  refine aops_run 2 (by simp only [fw0, fw1, fw2, fw3, fw4, fw5, fw6, fw7, ↓reduceIte, Nat.reduceAdd, Nat.reduceMul, Nat.reduceEqDiff, Nat.reduceLT, Nat.reduceLeDiff, reduceCtorEq, Bool.false_eq_true, Bool.not_true, Bool.not_false, and_self, Nat.le_refl, ti31, Pg.fw] <;> rfl) ?_
  refine aops_fn rfl rfl rfl en15 (c15 Γ hΓ { p with body := twoT 9 [122] p.body (twoT 12 [43] (varT [122]) (numT 1)) } ins 3010 (by decide) hsm) ?_
  refine aops_run 2 (by simp only [fw0, fw1, fw2, fw3, fw4, fw5, fw6, fw7, ↓reduceIte, Nat.reduceAdd, Nat.reduceMul, Nat.reduceEqDiff, Nat.reduceLT, Nat.reduceLeDiff, reduceCtorEq, Bool.false_eq_true, Bool.not_true, Bool.not_false, and_self, Nat.le_refl, ti47, resE_fw] <;> rfl) ?_
  generalize runP p ins 3000 = a at hlaw ⊢
  generalize runP { p with body := twoT 9 [122] p.body (twoT 12 [43] (varT [122]) (numT 1)) } ins 3010 = b at hlaw ⊢
  obtain ⟨h2, h1, h0, hf0, hf1⟩ := hlaw
  refine awp_seq ?_
  refine awp_seq ?_
  -- region 9
  refine awp_run rfl (by simp only [fw0, fw1, fw2, fw3, fw4, fw5, fw6, fw7, ↓reduceIte, Nat.reduceAdd, Nat.reduceMul, Nat.reduceEqDiff, Nat.reduceLT, Nat.reduceLeDiff, reduceCtorEq, Bool.false_eq_true, Bool.not_true, Bool.not_false, and_self, Nat.le_refl, fl47_0, ti3, resE_fw] <;> rfl) ?_
  refine awp_block ?_
  refine awp_seq ?_
  -- region 10
  refine awp_run rfl (by simp only [fw0, fw1, fw2, fw3, fw4, fw5, fw6, fw7, ↓reduceIte, Nat.reduceAdd, Nat.reduceMul, Nat.reduceEqDiff, Nat.reduceLT, Nat.reduceLeDiff, reduceCtorEq, Bool.false_eq_true, Bool.not_true, Bool.not_false, and_self, Nat.le_refl] <;> rfl) ?_
  refine awp_cond (by simp only [fw0, fw1, fw2, fw3, fw4, fw5, fw6, fw7, ↓reduceIte, Nat.reduceAdd, Nat.reduceMul, Nat.reduceEqDiff, Nat.reduceLT, Nat.reduceLeDiff, reduceCtorEq, Bool.false_eq_true, Bool.not_true, Bool.not_false, and_self, Nat.le_refl] <;> rfl) ?_
  by_cases hc : a.st = 2
  · obtain ⟨g1, g2, g3⟩ := h2 hc
    have w6 : IntKind.i64.wrap (a.f + 6) = a.f + 6 := wrapId ⟨by omega, by omega⟩
    simp only [hc, decide_true, ↓reduceIte]
    refine awp_seq ?_
    -- region 11
    refine awp_run rfl (by simp only [fw0, fw1, fw2, fw3, fw4, fw5, fw6, fw7, ↓reduceIte, Nat.reduceAdd, Nat.reduceMul, Nat.reduceEqDiff, Nat.reduceLT, Nat.reduceLeDiff, reduceCtorEq, Bool.false_eq_true, Bool.not_true, Bool.not_false, and_self, Nat.le_refl, fl47_0, ti3, fl47_1, fl44_1, ti2, fl47_3, resE_fw, resB_fw, g1, g2, g3, w6, decide_true] <;> rfl) ?_
    refine awp_ret ?_
    refine gives_end (.inl rfl) _ ?_
    simp [ares, aresL, ares1, rd, ev, alook, aput, Tryd.f3]
  · simp only [hc, decide_false, Bool.false_eq_true, ↓reduceIte]
    refine awp_seq ?_
    -- region 12
    refine awp_run rfl (by simp only [fw0, fw1, fw2, fw3, fw4, fw5, fw6, fw7, ↓reduceIte, Nat.reduceAdd, Nat.reduceMul, Nat.reduceEqDiff, Nat.reduceLT, Nat.reduceLeDiff, reduceCtorEq, Bool.false_eq_true, Bool.not_true, Bool.not_false, and_self, Nat.le_refl] <;> rfl) ?_
    refine awp_cond (by simp only [fw0, fw1, fw2, fw3, fw4, fw5, fw6, fw7, ↓reduceIte, Nat.reduceAdd, Nat.reduceMul, Nat.reduceEqDiff, Nat.reduceLT, Nat.reduceLeDiff, reduceCtorEq, Bool.false_eq_true, Bool.not_true, Bool.not_false, and_self, Nat.le_refl] <;> rfl) ?_
    by_cases hc1 : a.st = 1
    · obtain ⟨g1, g2, g3⟩ := h1 hc1
      have w9 : IntKind.i64.wrap (a.f + 9) = a.f + 9 := wrapId ⟨by omega, by omega⟩
      simp only [hc1, decide_true, ↓reduceIte]
      refine awp_seq ?_
      -- region 13
      refine awp_run rfl (by simp only [fw0, fw1, fw2, fw3, fw4, fw5, fw6, fw7, ↓reduceIte, Nat.reduceAdd, Nat.reduceMul, Nat.reduceEqDiff, Nat.reduceLT, Nat.reduceLeDiff, reduceCtorEq, Bool.false_eq_true, Bool.not_true, Bool.not_false, and_self, Nat.le_refl, fl47_0, ti3, fl47_1, fl44_1, ti2, fl47_3, resE_fw, resB_fw, g1, g2, g3, w9, decide_true] <;> rfl) ?_
      refine awp_ret ?_
      refine gives_end (.inl rfl) _ ?_
      simp [ares, aresL, ares1, rd, ev, alook, aput, Tryd.f3]
    · simp only [hc1, decide_false, Bool.false_eq_true, ↓reduceIte]
      refine awp_skip ?_
      simp only [Post.block, Post.then, ↓reduceIte]
      refine awp_seq ?_
      -- region 14
      by_cases hc0 : a.st = 0
      · refine awp_run rfl (by simp only [fw0, fw1, fw2, fw3, fw4, fw5, fw6, fw7, ↓reduceIte, Nat.reduceAdd, Nat.reduceMul, Nat.reduceEqDiff, Nat.reduceLT, Nat.reduceLeDiff, reduceCtorEq, Bool.false_eq_true, Bool.not_true, Bool.not_false, and_self, Nat.le_refl, fl47_0, ti3, resE_fw, hc0, decide_true] <;> rfl) ?_
        refine awp_ret ?_
        refine gives_end (.inl rfl) _ ?_
        simp [ares, aresL, ares1, rd, ev, alook, aput, Tryd.f3]
      · have g := (h0 hc).resolve_left hc0
        refine awp_run rfl (by simp only [fw0, fw1, fw2, fw3, fw4, fw5, fw6, fw7, ↓reduceIte, Nat.reduceAdd, Nat.reduceMul, Nat.reduceEqDiff, Nat.reduceLT, Nat.reduceLeDiff, reduceCtorEq, Bool.false_eq_true, Bool.not_true, Bool.not_false, and_self, Nat.le_refl, fl47_0, ti3, resE_fw, hc0, g, decide_true, decide_false] <;> rfl) ?_
        refine awp_ret ?_
        refine gives_end (.inl rfl) _ ?_
        simp [ares, aresL, ares1, rd, ev, alook, aput, Tryd.f3]

end Go.Proofs.YtnjlfbefpoecpaaDoor
