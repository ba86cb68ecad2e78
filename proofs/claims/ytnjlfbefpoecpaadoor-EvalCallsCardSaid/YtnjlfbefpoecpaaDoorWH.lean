/- What the laws of runs of programs of bytes have in common; the law of tries. -/
import Derived.Test.YtnjlfbefpoecpaaDoorWG
import Derived.Test.YtnjlfbefpoecpaaDoorWF
namespace Go.Proofs.YtnjlfbefpoecpaaDoor
set_option linter.unusedVariables false
set_option linter.unusedSimpArgs false
set_option maxRecDepth 100000
open Go.RowKit Fw

def loHi : Names := [[76, 111], [72, 105]]
abbrev bytesV (l : List Int) : PV := .vec (l.map fun n => [.int .u8 n]) false
abbrev insV (l : List Int) : PV := .vec (l.map fun n => [.int .i64 n]) false
theorem c10' (Γ : Nat → PV) (l : List Int) (hl : ∀ x ∈ l, 0 ≤ x ∧ x < 256) (n : Int) (hn0 : 0 ≤ n) (hn1 : n < 256) :
    Gives Tryd.prog Γ 10 [.vec [[.str [76, 111]], [.str [72, 105]]] true, bytesV l, .int .u8 n] (.agg (wellF loHi l n).enc) :=
  (c10 Γ loHi (by decide) (by decide) l hl n hn0 hn1).args ⟨⟨nofun, PV.leLL_refl _⟩, PV.le_refl _, PV.le_refl _, trivial⟩
theorem wellF_small (l : List Int) {n : Int} (h0 : 0 ≤ n) : (wellF loHi l n).ins.length + (wellF loHi l n).cells.length + (wellF loHi l n).defs.length ≤ 1000 := by
  have h := wellF_ok loHi l h0
  have h1 := h.ins
  have h2 := h.cells
  have h3 := h.ndefs
  omega
theorem body_splice (p : Pg) (t : Tm) : List.take 3 p.enc ++ (t.enc ++ List.drop 7 p.enc) = ({ p with body := t } : Pg).enc := by
  simp [Pg.enc, Tm.fw]
theorem latsL1 : latsL[1]? = some [.vec [[.str [76, 111]], [.str [72, 105]]] true, .vec [[.int .u64 3], [.int .u64 2]] true] := rfl

/-- EvalTries -/
theorem c3 (Γ : Nat → PV) (hΓ : TabK Γ) (l : List Int) (hl : ∀ x ∈ l, 0 ≤ x ∧ x < 256) (n : Int) (hn0 : 0 ≤ n) (hn1 : n < 256) (ins : List Int) : Gives Tryd.prog Γ 3 [bytesV l, .int .u8 n, insV ins] (.bool true) := by
  refine fn_of_awp Tryd.func3 rfl (by simp [Tryd.f3]) rfl fun H => ?_
  refine awp_seq ?_
  -- region 0
  refine awp_run rfl (by simp only [fw0, fw1, fw2, fw3, fw4, fw5, fw6, fw7, ↓reduceIte, Nat.reduceAdd, Nat.reduceMul, Nat.reduceEqDiff, Nat.reduceLT, Nat.reduceLeDiff, reduceCtorEq, Bool.false_eq_true, Bool.not_true, Bool.not_false, and_self, Nat.le_refl] <;> rfl) ?_
  refine awp_seq ?_
  -- region 1
  refine awp_region rfl ?_
  refine aops_fn rfl rfl rfl en9 (c9 Γ hΓ) ?_
  refine aops_run 1 (by simp only [fw0, fw1, fw2, fw3, fw4, fw5, fw6, fw7, ↓reduceIte, Nat.reduceAdd, Nat.reduceMul, Nat.reduceEqDiff, Nat.reduceLT, Nat.reduceLeDiff, reduceCtorEq, Bool.false_eq_true, Bool.not_true, Bool.not_false, and_self, Nat.le_refl] <;> rfl) ?_
  refine awp_seq ?_
  refine awp_seq ?_
  -- region 2
  refine awp_run rfl (by simp only [fw0, fw1, fw2, fw3, fw4, fw5, fw6, fw7, ↓reduceIte, Nat.reduceAdd, Nat.reduceMul, Nat.reduceEqDiff, Nat.reduceLT, Nat.reduceLeDiff, reduceCtorEq, Bool.false_eq_true, Bool.not_true, Bool.not_false, and_self, Nat.le_refl] <;> rfl) ?_
  refine awp_cond (b := false) rfl ?_
  refine awp_skip ?_
  refine awp_seq ?_
  -- region 4
  refine awp_region rfl ?_
  refine aops_fn rfl rfl rfl en11 (c11 Γ) ?_
  refine aops_run 5 (by simp only [fw0, fw1, fw2, fw3, fw4, fw5, fw6, fw7, ↓reduceIte, Nat.reduceAdd, Nat.reduceMul, Nat.reduceEqDiff, Nat.reduceLT, Nat.reduceLeDiff, reduceCtorEq, Bool.false_eq_true, Bool.not_true, Bool.not_false, and_self, Nat.le_refl, el37, fl36_0, ti33, latsL1] <;> rfl) ?_
  refine aops_fn rfl rfl rfl en10 (c10' Γ l hl n hn0 hn1) ?_
  have hok := wellF_ok loHi l hn0
  have hsm := wellF_small l hn0
  generalize wellF loHi l n = p at hok hsm ⊢
  have hlaw := tries_law hok.defs ins
  dsimp only at hlaw
  refine aops_run 2 (by simp only [fw0, fw1, fw2, fw3, fw4, fw5, fw6, fw7, ↓reduceIte, Nat.reduceAdd, Nat.reduceMul, Nat.reduceEqDiff, Nat.reduceLT, Nat.reduceLeDiff, reduceCtorEq, Bool.false_eq_true, Bool.not_true, Bool.not_false, and_self, Nat.le_refl, ti31, Pg.fw] <;> rfl) ?_
  refine awp_seq ?_
  -- region 5
  refine awp_run rfl (by simp only [fw0, fw1, fw2, fw3, fw4, fw5, fw6, fw7, ↓reduceIte, Nat.reduceAdd, Nat.reduceMul, Nat.reduceEqDiff, Nat.reduceLT, Nat.reduceLeDiff, reduceCtorEq, Bool.false_eq_true, Bool.not_true, Bool.not_false, and_self, Nat.le_refl, ti31, Pg.fw] <;> rfl) ?_
  refine awp_seq ?_
  -- region 6 drawn
  refine awp_drawn [0, 1, 0, 0, 0, 0, 0, 2] [0, 1, 0, 4, 12, 31, 63, 127] mixed rfl (by kernel_rfl) ?_
  refine dops_run 2 (by simp only [fw0, fw1, fw2, fw3, fw4, fw5, fw6, fw7, ↓reduceIte, Nat.reduceAdd, Nat.reduceMul, Nat.reduceEqDiff, Nat.reduceLT, Nat.reduceLeDiff, reduceCtorEq, Bool.false_eq_true, Bool.not_true, Bool.not_false, and_self, Nat.le_refl, fl31_3, ti29, Pg.fw, Tm.fw] <;> rfl) ?_
  refine dops_fn rfl rfl rfl rfl en13 (c13 Γ [122]) ?_
  refine dops_fn rfl rfl rfl rfl en14 (c14 Γ 1) ?_
  refine dops_fn rfl rfl rfl rfl en12 (c12 Γ 12 [43] (varT [122]) (numT 1)) ?_
  refine dops_fn rfl rfl rfl rfl en12 (c12 Γ 9 [122] p.body (twoT 12 [43] (varT [122]) (numT 1))) ?_
  refine dops_run 2 (by simp only [fw0, fw1, fw2, fw3, fw4, fw5, fw6, fw7, ↓reduceIte, Nat.reduceAdd, Nat.reduceMul, Nat.reduceEqDiff, Nat.reduceLT, Nat.reduceLeDiff, reduceCtorEq, Bool.false_eq_true, Bool.not_true, Bool.not_false, and_self, Nat.le_refl, fl31_3, ti29, Tm.fw, Pg.fw, body_splice] <;> rfl) ?_
  refine dops_end ?_
  refine awp_seq ?_
  -- region 7
  refine awp_region rfl ?_
  refine aops_run 2 (by simp only [fw0, fw1, fw2, fw3, fw4, fw5, fw6, fw7, ↓reduceIte, Nat.reduceAdd, Nat.reduceMul, Nat.reduceEqDiff, Nat.reduceLT, Nat.reduceLeDiff, reduceCtorEq, Bool.false_eq_true, Bool.not_true, Bool.not_false, and_self, Nat.le_refl, ti31, Pg.fw] <;> rfl) ?_
  refine aops_fn rfl rfl rfl en15 (c15 Γ hΓ p ins 3000 (by decide) hsm) ?_
  refine aops_run 2 (by simp only [fw0, fw1, fw2, fw3, fw4, fw5, fw6, fw7, ↓reduceIte, Nat.reduceAdd, Nat.reduceMul, Nat.reduceEqDiff, Nat.reduceLT, Nat.reduceLeDiff, reduceCtorEq, Bool.false_eq_true, Bool.not_true, Bool.not_false, and_self, Nat.le_refl, ti47, resE_fw] <;> rfl) ?_
  refine awp_seq ?_
  -- region 8
  refine awp_region rfl ?_
  refine aops_run 2 (by simp only [fw0, fw1, fw2, fw3, fw4, fw5, fw6, fw7, ↓reduceIte, Nat.reduceAdd, Nat.reduceMul, Nat.reduceEqDiff, Nat.reduceLT, Nat.reduceLeDiff, reduceCtorEq, Bool.false_eq_true, Bool.not_true, Bool.not_false, and_self, Nat.le_refl, ti31, Pg.fw] <;> rfl) ?_
  refine aops_fn rfl rfl rfl en15 (c15 Γ hΓ { p with body := twoT 9 [122] p.body (twoT 12 [43] (varT [122]) (numT 1)) } ins 3010 (by decide) hsm) ?_
  refine aops_run 2 (by simp only [fw0, fw1, fw2, fw3, fw4, fw5, fw6, fw7, ↓reduceIte, Nat.reduceAdd, Nat.reduceMul, Nat.reduceEqDiff, Nat.reduceLT, Nat.reduceLeDiff, reduceCtorEq, Bool.false_eq_true, Bool.not_true, Bool.not_false, and_self, Nat.le_refl, ti47, resE_fw] <;> rfl) ?_
  generalize runP p ins 3000 = a at hlaw ⊢
  generalize runP { p with body := twoT 9 [122] p.body (twoT 12 [43] (varT [122]) (numT 1)) } ins 3010 = b at hlaw ⊢
  obtain ⟨h2, h1, h0, hf0, hf1⟩ := hlaw
  refine awp_seq ?_
  refine awp_seq ?_
  -- region 9
  refine awp_run rfl (by simp only [fw0, fw1, fw2, fw3, fw4, fw5, fw6, fw7, ↓reduceIte, Nat.reduceAdd, Nat.reduceMul, Nat.reduceEqDiff, Nat.reduceLT, Nat.reduceLeDiff, reduceCtorEq, Bool.false_eq_true, Bool.not_true, Bool.not_false, and_self, Nat.le_refl, fl47_0, ti3, resE_fw] <;> rfl) ?_
  refine awp_block ?_
  refine awp_seq ?_
  -- region 10
  refine awp_run rfl (by simp only [fw0, fw1, fw2, fw3, fw4, fw5, fw6, fw7, ↓reduceIte, Nat.reduceAdd, Nat.reduceMul, Nat.reduceEqDiff, Nat.reduceLT, Nat.reduceLeDiff, reduceCtorEq, Bool.false_eq_true, Bool.not_true, Bool.not_false, and_self, Nat.le_refl] <;> rfl) ?_
  refine awp_cond (by simp only [fw0, fw1, fw2, fw3, fw4, fw5, fw6, fw7, ↓reduceIte, Nat.reduceAdd, Nat.reduceMul, Nat.reduceEqDiff, Nat.reduceLT, Nat.reduceLeDiff, reduceCtorEq, Bool.false_eq_true, Bool.not_true, Bool.not_false, and_self, Nat.le_refl] <;> rfl) ?_
  by_cases hc : a.st = 2
  · obtain ⟨g1, g2, g3⟩ := h2 hc
    have w6 : IntKind.i64.wrap (a.f + 6) = a.f + 6 := wrapId ⟨by omega, by omega⟩
    simp only [hc, decide_true, ↓reduceIte]
    refine awp_seq ?_
    -- region 11
    refine awp_run rfl (by simp only [fw0, fw1, fw2, fw3, fw4, fw5, fw6, fw7, ↓reduceIte, Nat.reduceAdd, Nat.reduceMul, Nat.reduceEqDiff, Nat.reduceLT, Nat.reduceLeDiff, reduceCtorEq, Bool.false_eq_true, Bool.not_true, Bool.not_false, and_self, Nat.le_refl, fl47_0, ti3, fl47_1, fl44_1, ti2, fl47_3, resE_fw, resB_fw, g1, g2, g3, w6, decide_true] <;> rfl) ?_
    refine awp_ret ?_
    refine gives_end (.inl rfl) _ ?_
    simp [ares, aresL, ares1, rd, ev, alook, aput, Tryd.f3]
  · simp only [hc, decide_false, Bool.false_eq_true, ↓reduceIte]
    refine awp_seq ?_
    -- region 12
    refine awp_run rfl (by simp only [fw0, fw1, fw2, fw3, fw4, fw5, fw6, fw7, ↓reduceIte, Nat.reduceAdd, Nat.reduceMul, Nat.reduceEqDiff, Nat.reduceLT, Nat.reduceLeDiff, reduceCtorEq, Bool.false_eq_true, Bool.not_true, Bool.not_false, and_self, Nat.le_refl] <;> rfl) ?_
    refine awp_cond (by simp only [fw0, fw1, fw2, fw3, fw4, fw5, fw6, fw7, ↓reduceIte, Nat.reduceAdd, Nat.reduceMul, Nat.reduceEqDiff, Nat.reduceLT, Nat.reduceLeDiff, reduceCtorEq, Bool.false_eq_true, Bool.not_true, Bool.not_false, and_self, Nat.le_refl] <;> rfl) ?_
    by_cases hc1 : a.st = 1
    · obtain ⟨g1, g2, g3⟩ := h1 hc1
      have w9 : IntKind.i64.wrap (a.f + 9) = a.f + 9 := wrapId ⟨by omega, by omega⟩
      simp only [hc1, decide_true, ↓reduceIte]
      refine awp_seq ?_
      -- region 13
      refine awp_run rfl (by simp only [fw0, fw1, fw2, fw3, fw4, fw5, fw6, fw7, ↓reduceIte, Nat.reduceAdd, Nat.reduceMul, Nat.reduceEqDiff, Nat.reduceLT, Nat.reduceLeDiff, reduceCtorEq, Bool.false_eq_true, Bool.not_true, Bool.not_false, and_self, Nat.le_refl, fl47_0, ti3, fl47_1, fl44_1, ti2, fl47_3, resE_fw, resB_fw, g1, g2, g3, w9, decide_true] <;> rfl) ?_
      refine awp_ret ?_
      refine gives_end (.inl rfl) _ ?_
      simp [ares, aresL, ares1, rd, ev, alook, aput, Tryd.f3]
    · simp only [hc1, decide_false, Bool.false_eq_true, ↓reduceIte]
      refine awp_skip ?_
      simp only [Post.block, Post.then, ↓reduceIte]
      refine awp_seq ?_
      -- region 14
      by_cases hc0 : a.st = 0
      · refine awp_run rfl (by simp only [fw0, fw1, fw2, fw3, fw4, fw5, fw6, fw7, ↓reduceIte, Nat.reduceAdd, Nat.reduceMul, Nat.reduceEqDiff, Nat.reduceLT, Nat.reduceLeDiff, reduceCtorEq, Bool.false_eq_true, Bool.not_true, Bool.not_false, and_self, Nat.le_refl, fl47_0, ti3, resE_fw, hc0, decide_true] <;> rfl) ?_
        refine awp_ret ?_
        refine gives_end (.inl rfl) _ ?_
        simp [ares, aresL, ares1, rd, ev, alook, aput, Tryd.f3]
      · have g := (h0 hc).resolve_left hc0
        refine awp_run rfl (by simp only [fw0, fw1, fw2, fw3, fw4, fw5, fw6, fw7, ↓reduceIte, Nat.reduceAdd, Nat.reduceMul, Nat.reduceEqDiff, Nat.reduceLT, Nat.reduceLeDiff, reduceCtorEq, Bool.false_eq_true, Bool.not_true, Bool.not_false, and_self, Nat.le_refl, fl47_0, ti3, resE_fw, hc0, g, decide_true, decide_false] <;> rfl) ?_
        refine awp_ret ?_
        refine gives_end (.inl rfl) _ ?_
        simp [ares, aresL, ares1, rd, ev, alook, aput, Tryd.f3]

end Go.Proofs.YtnjlfbefpoecpaaDoor

/- The law of more fuel. -/
namespace Go.Proofs.YtnjlfbefpoecpaaDoor
set_option linter.unusedVariables false
set_option linter.unusedSimpArgs false
set_option maxRecDepth 100000
open Go.RowKit Fw

theorem more_fw : (∀ (k : Int) (r : Res), (r.more k).st = r.st) ∧ (∀ (k : Int) (r : Res), (r.more k).v = r.v) ∧ (∀ (k : Int) (r : Res), (r.more k).c = r.c) ∧ (∀ (k : Int) (r : Res), (r.more k).f = r.f + k) := ⟨fun _ _ => rfl, fun _ _ => rfl, fun _ _ => rfl, fun _ _ => rfl⟩

/-- EvalMore -/
theorem c5 (Γ : Nat → PV) (hΓ : TabK Γ) (l : List Int) (hl : ∀ x ∈ l, 0 ≤ x ∧ x < 256) (n : Int) (hn0 : 0 ≤ n) (hn1 : n < 256) (ins : List Int) (f m : Int) (hf0 : 0 ≤ f) (hf1 : f < 256) (hm0 : 0 ≤ m) (hm1 : m < 256) : Gives Tryd.prog Γ 5 [bytesV l, .int .u8 n, insV ins, .int .u8 f, .int .u8 m] (.bool true) := by
  refine fn_of_awp Tryd.func5 rfl (by simp [Tryd.f5]) rfl fun H => ?_
  refine awp_seq ?_
  -- region 0
  refine awp_run rfl (by simp only [fw0, fw1, fw2, fw3, fw4, fw5, fw6, fw7, ↓reduceIte, Nat.reduceAdd, Nat.reduceMul, Nat.reduceEqDiff, Nat.reduceLT, Nat.reduceLeDiff, reduceCtorEq, Bool.false_eq_true, Bool.not_true, Bool.not_false, and_self, Nat.le_refl] <;> rfl) ?_
  refine awp_seq ?_
  -- region 1
  refine awp_region rfl ?_
  refine aops_fn rfl rfl rfl en9 (c9 Γ hΓ) ?_
  refine aops_run 1 (by simp only [fw0, fw1, fw2, fw3, fw4, fw5, fw6, fw7, ↓reduceIte, Nat.reduceAdd, Nat.reduceMul, Nat.reduceEqDiff, Nat.reduceLT, Nat.reduceLeDiff, reduceCtorEq, Bool.false_eq_true, Bool.not_true, Bool.not_false, and_self, Nat.le_refl] <;> rfl) ?_
  refine awp_seq ?_
  refine awp_seq ?_
  -- region 2
  refine awp_run rfl (by simp only [fw0, fw1, fw2, fw3, fw4, fw5, fw6, fw7, ↓reduceIte, Nat.reduceAdd, Nat.reduceMul, Nat.reduceEqDiff, Nat.reduceLT, Nat.reduceLeDiff, reduceCtorEq, Bool.false_eq_true, Bool.not_true, Bool.not_false, and_self, Nat.le_refl] <;> rfl) ?_
  refine awp_cond (b := false) rfl ?_
  refine awp_skip ?_
  refine awp_seq ?_
  -- region 4
  refine awp_region rfl ?_
  refine aops_fn rfl rfl rfl en11 (c11 Γ) ?_
  refine aops_run 5 (by simp only [fw0, fw1, fw2, fw3, fw4, fw5, fw6, fw7, ↓reduceIte, Nat.reduceAdd, Nat.reduceMul, Nat.reduceEqDiff, Nat.reduceLT, Nat.reduceLeDiff, reduceCtorEq, Bool.false_eq_true, Bool.not_true, Bool.not_false, and_self, Nat.le_refl, el37, fl36_0, ti33, latsL1] <;> rfl) ?_
  refine aops_fn rfl rfl rfl en10 (c10' Γ l hl n hn0 hn1) ?_
  have hok := wellF_ok loHi l hn0
  have hsm := wellF_small l hn0
  generalize wellF loHi l n = p at hok hsm ⊢
  have hlaw := more_law hok.defs ins hf0 hm0 (by omega)
  have wf : IntKind.i64.wrap f = f := wrapId ⟨by omega, by omega⟩
  have wm : IntKind.i64.wrap m = m := wrapId ⟨by omega, by omega⟩
  have wfm : IntKind.i64.wrap (f + m) = f + m := wrapId ⟨by omega, by omega⟩
  refine aops_run 2 (by simp only [fw0, fw1, fw2, fw3, fw4, fw5, fw6, fw7, ↓reduceIte, Nat.reduceAdd, Nat.reduceMul, Nat.reduceEqDiff, Nat.reduceLT, Nat.reduceLeDiff, reduceCtorEq, Bool.false_eq_true, Bool.not_true, Bool.not_false, and_self, Nat.le_refl, ti31, Pg.fw] <;> rfl) ?_
  refine awp_seq ?_
  -- region 5
  refine awp_region rfl ?_
  refine aops_run 4 (by simp only [fw0, fw1, fw2, fw3, fw4, fw5, fw6, fw7, ↓reduceIte, Nat.reduceAdd, Nat.reduceMul, Nat.reduceEqDiff, Nat.reduceLT, Nat.reduceLeDiff, reduceCtorEq, Bool.false_eq_true, Bool.not_true, Bool.not_false, and_self, Nat.le_refl, ti31, un5, un3, Pg.fw, wf] <;> rfl) ?_
  refine aops_fn rfl rfl rfl en15 (c15 Γ hΓ p ins f (by omega) hsm) ?_
  refine aops_run 2 (by simp only [fw0, fw1, fw2, fw3, fw4, fw5, fw6, fw7, ↓reduceIte, Nat.reduceAdd, Nat.reduceMul, Nat.reduceEqDiff, Nat.reduceLT, Nat.reduceLeDiff, reduceCtorEq, Bool.false_eq_true, Bool.not_true, Bool.not_false, and_self, Nat.le_refl, ti47, resE_fw] <;> rfl) ?_
  refine awp_seq ?_
  -- region 6
  refine awp_region rfl ?_
  refine aops_run 7 (by simp only [fw0, fw1, fw2, fw3, fw4, fw5, fw6, fw7, ↓reduceIte, Nat.reduceAdd, Nat.reduceMul, Nat.reduceEqDiff, Nat.reduceLT, Nat.reduceLeDiff, reduceCtorEq, Bool.false_eq_true, Bool.not_true, Bool.not_false, and_self, Nat.le_refl, ti31, un5, un3, Pg.fw, wf, wm, wfm] <;> rfl) ?_
  refine aops_fn rfl rfl rfl en15 (c15 Γ hΓ p ins (f + m) (by omega) hsm) ?_
  refine aops_run 2 (by simp only [fw0, fw1, fw2, fw3, fw4, fw5, fw6, fw7, ↓reduceIte, Nat.reduceAdd, Nat.reduceMul, Nat.reduceEqDiff, Nat.reduceLT, Nat.reduceLeDiff, reduceCtorEq, Bool.false_eq_true, Bool.not_true, Bool.not_false, and_self, Nat.le_refl, ti47, resE_fw] <;> rfl) ?_
  obtain ⟨h0, h1⟩ := hlaw
  refine awp_seq ?_
  refine awp_seq ?_
  -- region 7
  refine awp_run rfl (by simp only [fw0, fw1, fw2, fw3, fw4, fw5, fw6, fw7, ↓reduceIte, Nat.reduceAdd, Nat.reduceMul, Nat.reduceEqDiff, Nat.reduceLT, Nat.reduceLeDiff, reduceCtorEq, Bool.false_eq_true, Bool.not_true, Bool.not_false, and_self, Nat.le_refl, fl47_0, ti3, resE_fw] <;> rfl) ?_
  refine awp_cond (by simp only [fw0, fw1, fw2, fw3, fw4, fw5, fw6, fw7, ↓reduceIte, Nat.reduceAdd, Nat.reduceMul, Nat.reduceEqDiff, Nat.reduceLT, Nat.reduceLeDiff, reduceCtorEq, Bool.false_eq_true, Bool.not_true, Bool.not_false, and_self, Nat.le_refl] <;> rfl) ?_
  by_cases hc : (runP p ins f).st = 0
  · simp only [hc, decide_true, ↓reduceIte]
    refine awp_seq ?_
    -- region 8
    refine awp_run rfl (by simp only [fw0, fw1, fw2, fw3, fw4, fw5, fw6, fw7, ↓reduceIte, Nat.reduceAdd, Nat.reduceMul, Nat.reduceEqDiff, Nat.reduceLT, Nat.reduceLeDiff, reduceCtorEq, Bool.false_eq_true, Bool.not_true, Bool.not_false, and_self, Nat.le_refl, fl47_3, ti3, resE_fw, h0 hc, decide_true] <;> rfl) ?_
    refine awp_ret ?_
    refine gives_end (.inl rfl) _ ?_
    simp [ares, aresL, ares1, rd, ev, alook, aput, Tryd.f5]
  simp only [hc, decide_false, Bool.false_eq_true, ↓reduceIte]
  refine awp_skip ?_
  obtain ⟨hb, hlt, hpos⟩ := h1 hc
  rw [hb]
  generalize runP p ins f = a at hc hlt hpos ⊢
  have wam : IntKind.i64.wrap (a.f + m) = a.f + m := wrapId ⟨by omega, by omega⟩
  refine awp_seq ?_
  refine awp_seq ?_
  -- region 9
  refine awp_region rfl ?_
  refine aops_run 20 (by simp only [fw0, fw1, fw2, fw3, fw4, fw5, fw6, fw7, ↓reduceIte, Nat.reduceAdd, Nat.reduceMul, Nat.reduceEqDiff, Nat.reduceLT, Nat.reduceLeDiff, reduceCtorEq, Bool.false_eq_true, Bool.not_true, Bool.not_false, and_self, Nat.le_refl, fl47_0, ti3, fl47_1, fl44_1, ti2, fl47_2, fl47_3, ti44, ti45, un45, un5, un3, resE_fw, resB_fw, enc_take, Val.fw, List.take_zero, List.append_nil, more_fw, List.length_map, wm, wam, decide_true, Bool.not_true] <;> rfl) ?_
  refine aops_fnIf rfl rfl rfl rfl rfl en17 (c17 Γ a.v a.v) ?_
  refine aops_run 11 (by simp only [fw0, fw1, fw2, fw3, fw4, fw5, fw6, fw7, ↓reduceIte, Nat.reduceAdd, Nat.reduceMul, Nat.reduceEqDiff, Nat.reduceLT, Nat.reduceLeDiff, reduceCtorEq, Bool.false_eq_true, Bool.not_true, Bool.not_false, and_self, Nat.le_refl, fl47_0, ti3, fl47_1, fl44_1, ti2, fl47_2, fl47_3, ti44, ti45, un45, un5, un3, resE_fw, resB_fw, enc_take, Val.fw, List.take_zero, List.append_nil, more_fw, List.length_map, decide_true, Bool.not_true] <;> rfl) ?_
  refine awp_cond (b := false) rfl ?_
  refine awp_skip ?_
  refine awp_seq ?_
  refine awp_seq ?_
  -- the counter
  refine awp_run rfl (by simp only [fw0, fw1, fw2, fw3, fw4, fw5, fw6, fw7, ↓reduceIte, Nat.reduceAdd, Nat.reduceMul, Nat.reduceEqDiff, Nat.reduceLT, Nat.reduceLeDiff, reduceCtorEq, Bool.false_eq_true, Bool.not_true, Bool.not_false, and_self, Nat.le_refl] <;> rfl) ?_
  refine awp_block ?_
  refine awp_for [3, 11, 13, 14, 15] (fun i : Nat => [.int .u8 f, .bool true, .ptr (H.length + 1) 0, .ptr (H.length + 2) 0, .int .i64 (i : Int)]) (fun _ => H ++ [.box p.enc, .box (resE a), .box (resE (a.more m))]) (fun i => a.c.length - i) (fun i => i ≤ a.c.length) 0 (by simp [alook, aput, ev]) rfl (Nat.zero_le _) fun i hi => ?_
  refine awp_seq ?_
  refine awp_seq ?_
  -- the test
  refine awp_run rfl (by simp only [fw0, fw1, fw2, fw3, fw4, fw5, fw6, fw7, ↓reduceIte, Nat.reduceAdd, Nat.reduceMul, Nat.reduceEqDiff, Nat.reduceLT, Nat.reduceLeDiff, reduceCtorEq, Bool.false_eq_true, Bool.not_true, Bool.not_false, and_self, Nat.le_refl, fl47_0, ti3, fl47_1, fl44_1, ti2, fl47_2, fl47_3, ti44, ti45, un45, un5, un3, resE_fw, resB_fw, enc_take, Val.fw, List.take_zero, List.append_nil, more_fw, List.length_map] <;> rfl) ?_
  refine awp_vlen 82 rfl fun hvl => ?_
  rw [List.length_map] at hvl
  refine awp_cond (by simp only [fw0, fw1, fw2, fw3, fw4, fw5, fw6, fw7, ↓reduceIte, Nat.reduceAdd, Nat.reduceMul, Nat.reduceEqDiff, Nat.reduceLT, Nat.reduceLeDiff, reduceCtorEq, Bool.false_eq_true, Bool.not_true, Bool.not_false, and_self, Nat.le_refl] <;> rfl) ?_
  by_cases hc : (i : Int) < (a.c.length : Nat)
  · simp only [hc, decide_true, ↓reduceIte]
    refine awp_skip ?_
    have hil : i < a.c.length := by omega
    have gx : a.c[i]? = some a.c[i] := List.getElem?_eq_getElem hil
    refine awp_seq ?_
    refine awp_block ?_
    refine awp_seq ?_
    refine awp_drun [0, 1, 0, 0, 1, 0, 1, 0, 0, 1, 0] [0, 1, 0, 7, 15, 0, 32, 0, 224, 480, 1023] mixed rfl (by kernel_rfl) (by simp only [fw0, fw1, fw2, fw3, fw4, fw5, fw6, fw7, ↓reduceIte, Nat.reduceAdd, Nat.reduceMul, Nat.reduceEqDiff, Nat.reduceLT, Nat.reduceLeDiff, reduceCtorEq, Bool.false_eq_true, Bool.not_true, Bool.not_false, and_self, Nat.le_refl, fl47_2, ti45, el45, ti53, eq53, resE_fw, more_fw, Sl.fw, List.getElem?_map, gx, Option.map_some, Int.natCast_nonneg, show ∀ s : Sl, s.enc = [.str s.name, .int .i64 s.n] from fun _ => rfl, decide_true, Bool.and_self, Bool.not_true] <;> rfl) ?_
    refine awp_cond (b := false) rfl ?_
    refine awp_skip ?_
    refine awp_run rfl (by simp only [fw0, fw1, fw2, fw3, fw4, fw5, fw6, fw7, ↓reduceIte, Nat.reduceAdd, Nat.reduceMul, Nat.reduceEqDiff, Nat.reduceLT, Nat.reduceLeDiff, reduceCtorEq, Bool.false_eq_true, Bool.not_true, Bool.not_false, and_self, Nat.le_refl, wrapS i (by omega)] <;> rfl) ?_
    refine ⟨i + 1, by omega, by omega, by rfl, rfl, rfl⟩
  simp only [hc, decide_false, Bool.false_eq_true, ↓reduceIte]
  refine awp_exit ?_
  simp only [Post.block, Post.then, ↓reduceIte]
  refine awp_seq ?_
  -- region 16
  have hlt' : decide (a.f < f) = true := decide_eq_true hlt
  have hps' : decide (0 ≤ a.f) = true := decide_eq_true hpos
  refine awp_run rfl (by simp only [fw0, fw1, fw2, fw3, fw4, fw5, fw6, fw7, ↓reduceIte, Nat.reduceAdd, Nat.reduceMul, Nat.reduceEqDiff, Nat.reduceLT, Nat.reduceLeDiff, reduceCtorEq, Bool.false_eq_true, Bool.not_true, Bool.not_false, and_self, Nat.le_refl, fl47_0, ti3, fl47_1, fl44_1, ti2, fl47_2, fl47_3, ti44, ti45, un45, un5, un3, resE_fw, resB_fw, enc_take, Val.fw, List.take_zero, List.append_nil, more_fw, List.length_map, wf, hlt', hps', ge_iff_le] <;> rfl) ?_
  refine awp_ret ?_
  refine gives_end (.inl rfl) _ ?_
  simp [ares, aresL, ares1, rd, ev, alook, aput, Tryd.f5]

end Go.Proofs.YtnjlfbefpoecpaaDoor

/- The law of calls. -/
namespace Go.Proofs.YtnjlfbefpoecpaaDoor
set_option linter.unusedVariables false
set_option linter.unusedSimpArgs false
set_option maxRecDepth 100000
open Go.RowKit Fw

theorem one_fw : (∀ k s a, (oneT k s a).name = s) ∧ (∀ k s a, (oneT k s a).kids = [a]) := ⟨fun _ _ _ => rfl, fun _ _ _ => rfl⟩
theorem at0_fw (e : List PV) : [e][Int.toNat 0]? = some e := rfl
theorem funF_one (L : List Int) (W : WF) (d : Int) (a : Nat) (I F : Names) : ∃ x t, (funF L W d a I F).1 = oneT 3 x t := ⟨_, _, rfl⟩

/-- EvalCalls -/
theorem c7 (Γ : Nat → PV) (hΓ : TabK Γ) (l : List Int) (hl : ∀ x ∈ l, 0 ≤ x ∧ x < 256) (n : Int) (hn0 : 0 ≤ n) (hn1 : n < 256) (m : List Int) (hm : ∀ x ∈ m, 0 ≤ x ∧ x < 256) (ins : List Int) : Gives Tryd.prog Γ 7 [bytesV l, .int .u8 n, bytesV m, insV ins] (.bool true) := by
  refine fn_of_awp Tryd.func7 rfl (by simp [Tryd.f7]) rfl fun H => ?_
  refine awp_vlen 2 rfl fun hlen => ?_
  rw [List.length_map] at hlen
  refine awp_seq ?_
  -- region 0
  refine awp_run rfl (by simp only [fw0, fw1, fw2, fw3, fw4, fw5, fw6, fw7, ↓reduceIte, Nat.reduceAdd, Nat.reduceMul, Nat.reduceEqDiff, Nat.reduceLT, Nat.reduceLeDiff, reduceCtorEq, Bool.false_eq_true, Bool.not_true, Bool.not_false, and_self, Nat.le_refl] <;> rfl) ?_
  refine awp_seq ?_
  -- region 1
  refine awp_region rfl ?_
  refine aops_fn rfl rfl rfl en9 (c9 Γ hΓ) ?_
  refine aops_run 1 (by simp only [fw0, fw1, fw2, fw3, fw4, fw5, fw6, fw7, ↓reduceIte, Nat.reduceAdd, Nat.reduceMul, Nat.reduceEqDiff, Nat.reduceLT, Nat.reduceLeDiff, reduceCtorEq, Bool.false_eq_true, Bool.not_true, Bool.not_false, and_self, Nat.le_refl] <;> rfl) ?_
  refine awp_seq ?_
  refine awp_seq ?_
  -- region 2
  refine awp_run rfl (by simp only [fw0, fw1, fw2, fw3, fw4, fw5, fw6, fw7, ↓reduceIte, Nat.reduceAdd, Nat.reduceMul, Nat.reduceEqDiff, Nat.reduceLT, Nat.reduceLeDiff, reduceCtorEq, Bool.false_eq_true, Bool.not_true, Bool.not_false, and_self, Nat.le_refl] <;> rfl) ?_
  refine awp_cond (b := false) rfl ?_
  refine awp_skip ?_
  refine awp_seq ?_
  -- region 4
  refine awp_region rfl ?_
  refine aops_fn rfl rfl rfl en11 (c11 Γ) ?_
  refine aops_run 5 (by simp only [fw0, fw1, fw2, fw3, fw4, fw5, fw6, fw7, ↓reduceIte, Nat.reduceAdd, Nat.reduceMul, Nat.reduceEqDiff, Nat.reduceLT, Nat.reduceLeDiff, reduceCtorEq, Bool.false_eq_true, Bool.not_true, Bool.not_false, and_self, Nat.le_refl, el37, fl36_0, ti33, latsL1] <;> rfl) ?_
  refine aops_fn rfl rfl rfl en10 (c10' Γ l hl n hn0 hn1) ?_
  have hok := wellF_ok loHi l hn0
  have hsm := wellF_small l hn0
  generalize wellF loHi l n = p at hok hsm ⊢
  refine aops_run 2 (by simp only [fw0, fw1, fw2, fw3, fw4, fw5, fw6, fw7, ↓reduceIte, Nat.reduceAdd, Nat.reduceMul, Nat.reduceEqDiff, Nat.reduceLT, Nat.reduceLeDiff, reduceCtorEq, Bool.false_eq_true, Bool.not_true, Bool.not_false, and_self, Nat.le_refl, ti31, Pg.fw] <;> rfl) ?_
  refine awp_seq ?_
  -- region 5
  have hcap : (if (40 : Int) < (m.length : Int) then (40 : Int) else (m.length : Int)) = ((min m.length 40 : Nat) : Int) := by split <;> omega
  have hcap' : (if (m.length : Int) < 40 then (m.length : Int) else (40 : Int)) = ((min m.length 40 : Nat) : Int) := by split <;> omega
  refine awp_region rfl ?_
  refine aops_run 3 (by simp only [fw0, fw1, fw2, fw3, fw4, fw5, fw6, fw7, ↓reduceIte, Nat.reduceAdd, Nat.reduceMul, Nat.reduceEqDiff, Nat.reduceLT, Nat.reduceLeDiff, reduceCtorEq, Bool.false_eq_true, Bool.not_true, Bool.not_false, and_self, Nat.le_refl, un22, List.length_map] <;> rfl) ?_
  refine aops_one rfl (os_min rfl rfl rfl ?_)
  simp only [hcap, hcap']
  refine aops_one rfl (os_sliceVec (l := 0) (h := min m.length 40) rfl el22 rfl (fun e he => by obtain ⟨x, _, rfl⟩ := List.mem_map.1 he; rfl) rfl ⟨_, rfl⟩ trivial (Nat.zero_le _) (by rw [List.length_map]; omega) ?_)
  have hL90 : ((m.map fun n => [PV.int .u8 n]).drop 0).take (min m.length 40 - 0) = (m.take 40).map fun n => [PV.int .u8 n] := by
    rw [List.drop_zero, Nat.sub_zero, List.map_take]
    rcases Nat.le_total m.length 40 with h | h
    · rw [Nat.min_eq_left h, List.take_of_length_le (by simp), List.take_of_length_le (by simpa using h)]
    · rw [Nat.min_eq_right h]
  simp only [hL90, Option.isSome_none]
  have hL : U8s (m.take 40) := ⟨by rw [List.length_take]; omega, fun x hx => hm x (List.mem_of_mem_take hx)⟩
  generalize m.take 40 = L at hL ⊢
  refine aops_run 4 (by simp only [fw0, fw1, fw2, fw3, fw4, fw5, fw6, fw7, ↓reduceIte, Nat.reduceAdd, Nat.reduceMul, Nat.reduceEqDiff, Nat.reduceLT, Nat.reduceLeDiff, reduceCtorEq, Bool.false_eq_true, Bool.not_true, Bool.not_false, and_self, Nat.le_refl, un33, ti9, pl59, ti59] <;> rfl) ?_
  refine awp_heap (H' := H ++ [.box p.enc, .box [bytesV L, .int .i64 0, .vec [[.str [97]]] true, .vec [] true, .vec [] true]]) (by simp [PV.cells]) ?_
  refine awp_told (told_leBox (H.length + 1) (cs := [bytesV L, .int .i64 0, .vec [[.str [97]]] true, .vec [] true, .vec [] true]) (cs' := mk5 L 0 (sv [[97]]) (sv []) (sv [])) (by simp) (by simp [PV.le, PV.leL, PV.leLL, PV.leLL_refl, mk5, sv])) ?_
  refine awp_heap (H' := Bp (H ++ [.box p.enc, .box []]) (H.length + 1) (mk5 L 0 (sv [[97]]) (sv []) (sv []))) (by simp [Bp]) ?_
  refine awp_seq ?_
  -- region 6
  refine awp_region rfl ?_
  refine aops_run 1 (by simp only [fw0, fw1, fw2, fw3, fw4, fw5, fw6, fw7, ↓reduceIte, Nat.reduceAdd, Nat.reduceMul, Nat.reduceEqDiff, Nat.reduceLT, Nat.reduceLeDiff, reduceCtorEq, Bool.false_eq_true, Bool.not_true, Bool.not_false, and_self, Nat.le_refl] <;> rfl) ?_
  have h18 := c18 Γ hL (c34 Γ hL [] 10) (H ++ [Blk.box p.enc, Blk.box []]) (H.length + 1) 0 [[97]] [] 4 (sv []) (by simp) (.inl rfl) ⟨by decide, by decide⟩ (by decide) (by decide) (by decide) (by decide)
  refine aops_call rfl rfl rfl en18 (h18.mono fun q H' hq => ?_)
  obtain ⟨rfl, rfl⟩ := hq
  generalize (funF L (wholeF L [] 10) 4 0 [[97]] []).2 = a1
  obtain ⟨x, tb, hft⟩ := funF_one L (wholeF L [] 10) 4 0 [[97]] []
  rw [hft]
  have hHB : Bp (H ++ [.box p.enc, .box []]) (H.length + 1) (mk5 L a1 (sv [[97]]) (sv []) (sv [])) = H ++ [.box p.enc, .box (mk5 L a1 (sv [[97]]) (sv []) (sv []))] := by simp [Bp]
  rw [hHB]
  generalize mk5 L a1 (sv [[97]]) (sv []) (sv []) = X
  refine aops_run 2 (by simp only [fw0, fw1, fw2, fw3, fw4, fw5, fw6, fw7, ↓reduceIte, Nat.reduceAdd, Nat.reduceMul, Nat.reduceEqDiff, Nat.reduceLT, Nat.reduceLeDiff, reduceCtorEq, Bool.false_eq_true, Bool.not_true, Bool.not_false, and_self, Nat.le_refl, ti29, Tm.fw] <;> rfl) ?_
  refine awp_seq ?_
  refine awp_seq ?_
  -- region 7
  refine awp_run rfl (by simp only [fw0, fw1, fw2, fw3, fw4, fw5, fw6, fw7, ↓reduceIte, Nat.reduceAdd, Nat.reduceMul, Nat.reduceEqDiff, Nat.reduceLT, Nat.reduceLeDiff, reduceCtorEq, Bool.false_eq_true, Bool.not_true, Bool.not_false, and_self, Nat.le_refl, fl29_3, ti27, un27, Tm.fw, one_fw, List.map_cons, List.map_nil, List.length_cons, List.length_nil] <;> rfl) ?_
  refine awp_cond (b := false) rfl ?_
  refine awp_skip ?_
  refine awp_seq ?_
  -- region 9
  refine awp_run rfl (by simp only [fw0, fw1, fw2, fw3, fw4, fw5, fw6, fw7, ↓reduceIte, Nat.reduceAdd, Nat.reduceMul, Nat.reduceEqDiff, Nat.reduceLT, Nat.reduceLeDiff, reduceCtorEq, Bool.false_eq_true, Bool.not_true, Bool.not_false, and_self, Nat.le_refl, ti31, Pg.fw] <;> rfl) ?_
  refine awp_seq ?_
  -- region 10
  refine awp_region rfl ?_
  refine aops_run 3 (by simp only [fw0, fw1, fw2, fw3, fw4, fw5, fw6, fw7, ↓reduceIte, Nat.reduceAdd, Nat.reduceMul, Nat.reduceEqDiff, Nat.reduceLT, Nat.reduceLeDiff, reduceCtorEq, Bool.false_eq_true, Bool.not_true, Bool.not_false, and_self, Nat.le_refl, ti29, fl31_3, Pg.fw, Tm.fw] <;> rfl) ?_
  refine aops_fn rfl rfl rfl en12 (c12 Γ 4 [] (oneT 3 x tb) p.body) ?_
  refine aops_run 2 (by simp only [fw0, fw1, fw2, fw3, fw4, fw5, fw6, fw7, ↓reduceIte, Nat.reduceAdd, Nat.reduceMul, Nat.reduceEqDiff, Nat.reduceLT, Nat.reduceLeDiff, reduceCtorEq, Bool.false_eq_true, Bool.not_true, Bool.not_false, and_self, Nat.le_refl, fl31_3, ti29, Tm.fw, Pg.fw, body_splice] <;> rfl) ?_
  refine awp_seq ?_
  -- region 11
  refine awp_run rfl (by simp only [fw0, fw1, fw2, fw3, fw4, fw5, fw6, fw7, ↓reduceIte, Nat.reduceAdd, Nat.reduceMul, Nat.reduceEqDiff, Nat.reduceLT, Nat.reduceLeDiff, reduceCtorEq, Bool.false_eq_true, Bool.not_true, Bool.not_false, and_self, Nat.le_refl, ti31, Pg.fw] <;> rfl) ?_
  refine awp_seq ?_
  -- region 12 drawn
  refine awp_drawn [0, 1, 0, 1, 0, 1, 0, 1, 0, 0, 2] [0, 1, 0, 4, 0, 16, 48, 112, 255, 511, 1023] mixed rfl (by kernel_rfl) ?_
  refine dops_run 8 (by simp only [fw0, fw1, fw2, fw3, fw4, fw5, fw6, fw7, ↓reduceIte, Nat.reduceAdd, Nat.reduceMul, Nat.reduceEqDiff, Nat.reduceLT, Nat.reduceLeDiff, reduceCtorEq, Bool.false_eq_true, Bool.not_true, Bool.not_false, and_self, Nat.le_refl, fl29_1, ti9, fl31_3, ti29, fl29_3, ti27, el27, Pg.fw, Tm.fw, one_fw, at0_fw, Int.le_refl, true_and, List.map_cons, List.map_nil] <;> rfl) ?_
  refine dops_fn rfl rfl rfl rfl en12 (c12 Γ 5 x p.body tb) ?_
  refine dops_run 2 (by simp only [fw0, fw1, fw2, fw3, fw4, fw5, fw6, fw7, ↓reduceIte, Nat.reduceAdd, Nat.reduceMul, Nat.reduceEqDiff, Nat.reduceLT, Nat.reduceLeDiff, reduceCtorEq, Bool.false_eq_true, Bool.not_true, Bool.not_false, and_self, Nat.le_refl, fl31_3, ti29, Tm.fw, Pg.fw, body_splice] <;> rfl) ?_
  refine dops_end ?_
  refine awp_seq ?_
  -- region 13
  refine awp_region rfl ?_
  refine aops_run 2 (by simp only [fw0, fw1, fw2, fw3, fw4, fw5, fw6, fw7, ↓reduceIte, Nat.reduceAdd, Nat.reduceMul, Nat.reduceEqDiff, Nat.reduceLT, Nat.reduceLeDiff, reduceCtorEq, Bool.false_eq_true, Bool.not_true, Bool.not_false, and_self, Nat.le_refl, ti31, Pg.fw] <;> rfl) ?_
  refine aops_fn rfl rfl rfl en15 (c15 Γ hΓ { p with body := twoT 4 [] (oneT 3 x tb) p.body } ins 3001 (by decide) hsm) ?_
  refine aops_run 2 (by simp only [fw0, fw1, fw2, fw3, fw4, fw5, fw6, fw7, ↓reduceIte, Nat.reduceAdd, Nat.reduceMul, Nat.reduceEqDiff, Nat.reduceLT, Nat.reduceLeDiff, reduceCtorEq, Bool.false_eq_true, Bool.not_true, Bool.not_false, and_self, Nat.le_refl, ti47, resE_fw] <;> rfl) ?_
  refine awp_seq ?_
  -- region 14
  refine awp_region rfl ?_
  refine aops_run 2 (by simp only [fw0, fw1, fw2, fw3, fw4, fw5, fw6, fw7, ↓reduceIte, Nat.reduceAdd, Nat.reduceMul, Nat.reduceEqDiff, Nat.reduceLT, Nat.reduceLeDiff, reduceCtorEq, Bool.false_eq_true, Bool.not_true, Bool.not_false, and_self, Nat.le_refl, ti31, Pg.fw] <;> rfl) ?_
  refine aops_fn rfl rfl rfl en15 (c15 Γ hΓ { p with body := twoT 5 x p.body tb } ins 3000 (by decide) hsm) ?_
  refine aops_run 2 (by simp only [fw0, fw1, fw2, fw3, fw4, fw5, fw6, fw7, ↓reduceIte, Nat.reduceAdd, Nat.reduceMul, Nat.reduceEqDiff, Nat.reduceLT, Nat.reduceLeDiff, reduceCtorEq, Bool.false_eq_true, Bool.not_true, Bool.not_false, and_self, Nat.le_refl, ti47, resE_fw] <;> rfl) ?_
  rw [calls_law hok.defs ins x tb]
  generalize runP { p with body := twoT 5 x p.body tb } ins 3000 = a
  generalize hHH : H ++ [.box p.enc, .box X, .box (oneT 3 x tb).enc, .box ({ p with body := twoT 4 [] (oneT 3 x tb) p.body } : Pg).enc, .box ({ p with body := twoT 5 x p.body tb } : Pg).enc] = H2
  refine awp_keep (A' := [(9, .bool true), (15, .ptr H2.length 0), (16, .ptr (H2.length + 1) 0)]) [9, 15, 16] (by rw [← hHH]; simp [akeep, alook]) ?_
  refine awp_heap (H' := H2 ++ [.box (resE a), .box (resE a)]) (by rw [← hHH]; simp) ?_
  refine awp_seq ?_
  refine awp_seq ?_
  -- region 15
  refine awp_region rfl ?_
  by_cases hst : a.st = 0
  · refine aops_run 22 (by simp only [fw0, fw1, fw2, fw3, fw4, fw5, fw6, fw7, ↓reduceIte, Nat.reduceAdd, Nat.reduceMul, Nat.reduceEqDiff, Nat.reduceLT, Nat.reduceLeDiff, reduceCtorEq, Bool.false_eq_true, Bool.not_true, Bool.not_false, and_self, Nat.le_refl, fl47_0, ti3, fl47_1, fl44_1, ti2, fl47_2, fl47_3, ti44, ti45, un45, un5, un3, resE_fw, resB_fw, enc_take, Val.fw, List.take_zero, List.append_nil, more_fw, List.length_map, hst, decide_true, Bool.not_true] <;> rfl) ?_
    refine aops_fnIf rfl rfl rfl rfl rfl en17 (c17 Γ a.v a.v) ?_
    refine aops_run 11 (by simp only [fw0, fw1, fw2, fw3, fw4, fw5, fw6, fw7, ↓reduceIte, Nat.reduceAdd, Nat.reduceMul, Nat.reduceEqDiff, Nat.reduceLT, Nat.reduceLeDiff, reduceCtorEq, Bool.false_eq_true, Bool.not_true, Bool.not_false, and_self, Nat.le_refl, fl47_0, ti3, fl47_1, fl44_1, ti2, fl47_2, fl47_3, ti44, ti45, un45, un5, un3, resE_fw, resB_fw, enc_take, Val.fw, List.take_zero, List.append_nil, more_fw, List.length_map, decide_true, Bool.not_true] <;> rfl) ?_
    refine awp_cond (b := false) rfl ?_
    refine awp_skip ?_
    refine awp_seq ?_
    refine awp_seq ?_
    -- the counter
    refine awp_run rfl (by simp only [fw0, fw1, fw2, fw3, fw4, fw5, fw6, fw7, ↓reduceIte, Nat.reduceAdd, Nat.reduceMul, Nat.reduceEqDiff, Nat.reduceLT, Nat.reduceLeDiff, reduceCtorEq, Bool.false_eq_true, Bool.not_true, Bool.not_false, and_self, Nat.le_refl] <;> rfl) ?_
    refine awp_block ?_
    refine awp_for [9, 15, 16, 17] (fun i : Nat => [.bool true, .ptr H2.length 0, .ptr (H2.length + 1) 0, .int .i64 (i : Int)]) (fun _ => H2 ++ [.box (resE a), .box (resE a)]) (fun i => a.c.length - i) (fun i => i ≤ a.c.length) 0 (by simp [alook, aput, ev]) rfl (Nat.zero_le _) fun i hi => ?_
    refine awp_seq ?_
    refine awp_seq ?_
    -- the test
    refine awp_run rfl (by simp only [fw0, fw1, fw2, fw3, fw4, fw5, fw6, fw7, ↓reduceIte, Nat.reduceAdd, Nat.reduceMul, Nat.reduceEqDiff, Nat.reduceLT, Nat.reduceLeDiff, reduceCtorEq, Bool.false_eq_true, Bool.not_true, Bool.not_false, and_self, Nat.le_refl, fl47_0, ti3, fl47_1, fl44_1, ti2, fl47_2, fl47_3, ti44, ti45, un45, un5, un3, resE_fw, resB_fw, enc_take, Val.fw, List.take_zero, List.append_nil, more_fw, List.length_map] <;> rfl) ?_
    refine awp_vlen 101 rfl fun hvl => ?_
    rw [List.length_map] at hvl
    refine awp_cond (by simp only [fw0, fw1, fw2, fw3, fw4, fw5, fw6, fw7, ↓reduceIte, Nat.reduceAdd, Nat.reduceMul, Nat.reduceEqDiff, Nat.reduceLT, Nat.reduceLeDiff, reduceCtorEq, Bool.false_eq_true, Bool.not_true, Bool.not_false, and_self, Nat.le_refl] <;> rfl) ?_
    by_cases hc : (i : Int) < (a.c.length : Nat)
    · simp only [hc, decide_true, ↓reduceIte]
      refine awp_skip ?_
      have hil : i < a.c.length := by omega
      have gx : a.c[i]? = some a.c[i] := List.getElem?_eq_getElem hil
      refine awp_seq ?_
      refine awp_block ?_
      refine awp_seq ?_
      refine awp_drun [0, 1, 0, 0, 1, 0, 1, 0, 0, 1, 0] [0, 1, 0, 7, 15, 0, 32, 0, 224, 480, 1023] mixed rfl (by kernel_rfl) (by simp only [fw0, fw1, fw2, fw3, fw4, fw5, fw6, fw7, ↓reduceIte, Nat.reduceAdd, Nat.reduceMul, Nat.reduceEqDiff, Nat.reduceLT, Nat.reduceLeDiff, reduceCtorEq, Bool.false_eq_true, Bool.not_true, Bool.not_false, and_self, Nat.le_refl, fl47_2, ti45, el45, ti53, eq53, resE_fw, more_fw, Sl.fw, List.getElem?_map, gx, Option.map_some, Int.natCast_nonneg, show ∀ s : Sl, s.enc = [.str s.name, .int .i64 s.n] from fun _ => rfl, decide_true, Bool.and_self, Bool.not_true] <;> rfl) ?_
      refine awp_cond (b := false) rfl ?_
      refine awp_skip ?_
      refine awp_run rfl (by simp only [fw0, fw1, fw2, fw3, fw4, fw5, fw6, fw7, ↓reduceIte, Nat.reduceAdd, Nat.reduceMul, Nat.reduceEqDiff, Nat.reduceLT, Nat.reduceLeDiff, reduceCtorEq, Bool.false_eq_true, Bool.not_true, Bool.not_false, and_self, Nat.le_refl, wrapS i (by omega)] <;> rfl) ?_
      refine ⟨i + 1, by omega, by omega, by rfl, rfl, rfl⟩
    simp only [hc, decide_false, Bool.false_eq_true, ↓reduceIte]
    refine awp_exit ?_
    simp only [Post.block, Post.then, ↓reduceIte]
    refine awp_seq ?_
    refine awp_run rfl (by simp only [fw0, fw1, fw2, fw3, fw4, fw5, fw6, fw7, ↓reduceIte, Nat.reduceAdd, Nat.reduceMul, Nat.reduceEqDiff, Nat.reduceLT, Nat.reduceLeDiff, reduceCtorEq, Bool.false_eq_true, Bool.not_true, Bool.not_false, and_self, Nat.le_refl] <;> rfl) ?_
    refine awp_ret ?_
    rw [← hHH, List.append_assoc]
    refine gives_end (.inl rfl) _ ?_
    simp [ares, aresL, ares1, rd, ev, alook, aput, Tryd.f7]
  · refine aops_run 22 (by simp only [fw0, fw1, fw2, fw3, fw4, fw5, fw6, fw7, ↓reduceIte, Nat.reduceAdd, Nat.reduceMul, Nat.reduceEqDiff, Nat.reduceLT, Nat.reduceLeDiff, reduceCtorEq, Bool.false_eq_true, Bool.not_true, Bool.not_false, and_self, Nat.le_refl, fl47_0, ti3, fl47_1, fl44_1, ti2, fl47_2, fl47_3, ti44, ti45, un45, un5, un3, resE_fw, resB_fw, enc_take, Val.fw, List.take_zero, List.append_nil, more_fw, List.length_map, hst, decide_true, decide_false, Bool.not_true, Bool.not_false] <;> rfl) ?_
    refine aops_fnIf rfl rfl rfl rfl rfl en17 (c17 Γ a.v a.v) ?_
    refine aops_run 11 (by simp only [fw0, fw1, fw2, fw3, fw4, fw5, fw6, fw7, ↓reduceIte, Nat.reduceAdd, Nat.reduceMul, Nat.reduceEqDiff, Nat.reduceLT, Nat.reduceLeDiff, reduceCtorEq, Bool.false_eq_true, Bool.not_true, Bool.not_false, and_self, Nat.le_refl, fl47_0, ti3, fl47_1, fl44_1, ti2, fl47_2, fl47_3, ti44, ti45, un45, un5, un3, resE_fw, resB_fw, enc_take, Val.fw, List.take_zero, List.append_nil, more_fw, List.length_map, decide_true, Bool.not_true] <;> rfl) ?_
    refine awp_cond (b := false) rfl ?_
    refine awp_skip ?_
    refine awp_seq ?_
    refine awp_seq ?_
    -- the counter
    refine awp_run rfl (by simp only [fw0, fw1, fw2, fw3, fw4, fw5, fw6, fw7, ↓reduceIte, Nat.reduceAdd, Nat.reduceMul, Nat.reduceEqDiff, Nat.reduceLT, Nat.reduceLeDiff, reduceCtorEq, Bool.false_eq_true, Bool.not_true, Bool.not_false, and_self, Nat.le_refl] <;> rfl) ?_
    refine awp_block ?_
    refine awp_for [9, 15, 16, 17] (fun i : Nat => [.bool true, .ptr H2.length 0, .ptr (H2.length + 1) 0, .int .i64 (i : Int)]) (fun _ => H2 ++ [.box (resE a), .box (resE a)]) (fun i => a.c.length - i) (fun i => i ≤ a.c.length) 0 (by simp [alook, aput, ev]) rfl (Nat.zero_le _) fun i hi => ?_
    refine awp_seq ?_
    refine awp_seq ?_
    -- the test
    refine awp_run rfl (by simp only [fw0, fw1, fw2, fw3, fw4, fw5, fw6, fw7, ↓reduceIte, Nat.reduceAdd, Nat.reduceMul, Nat.reduceEqDiff, Nat.reduceLT, Nat.reduceLeDiff, reduceCtorEq, Bool.false_eq_true, Bool.not_true, Bool.not_false, and_self, Nat.le_refl, fl47_0, ti3, fl47_1, fl44_1, ti2, fl47_2, fl47_3, ti44, ti45, un45, un5, un3, resE_fw, resB_fw, enc_take, Val.fw, List.take_zero, List.append_nil, more_fw, List.length_map] <;> rfl) ?_
    refine awp_vlen 101 rfl fun hvl => ?_
    rw [List.length_map] at hvl
    refine awp_cond (by simp only [fw0, fw1, fw2, fw3, fw4, fw5, fw6, fw7, ↓reduceIte, Nat.reduceAdd, Nat.reduceMul, Nat.reduceEqDiff, Nat.reduceLT, Nat.reduceLeDiff, reduceCtorEq, Bool.false_eq_true, Bool.not_true, Bool.not_false, and_self, Nat.le_refl] <;> rfl) ?_
    by_cases hc : (i : Int) < (a.c.length : Nat)
    · simp only [hc, decide_true, ↓reduceIte]
      refine awp_skip ?_
      have hil : i < a.c.length := by omega
      have gx : a.c[i]? = some a.c[i] := List.getElem?_eq_getElem hil
      refine awp_seq ?_
      refine awp_block ?_
      refine awp_seq ?_
      refine awp_drun [0, 1, 0, 0, 1, 0, 1, 0, 0, 1, 0] [0, 1, 0, 7, 15, 0, 32, 0, 224, 480, 1023] mixed rfl (by kernel_rfl) (by simp only [fw0, fw1, fw2, fw3, fw4, fw5, fw6, fw7, ↓reduceIte, Nat.reduceAdd, Nat.reduceMul, Nat.reduceEqDiff, Nat.reduceLT, Nat.reduceLeDiff, reduceCtorEq, Bool.false_eq_true, Bool.not_true, Bool.not_false, and_self, Nat.le_refl, fl47_2, ti45, el45, ti53, eq53, resE_fw, more_fw, Sl.fw, List.getElem?_map, gx, Option.map_some, Int.natCast_nonneg, show ∀ s : Sl, s.enc = [.str s.name, .int .i64 s.n] from fun _ => rfl, decide_true, Bool.and_self, Bool.not_true] <;> rfl) ?_
      refine awp_cond (b := false) rfl ?_
      refine awp_skip ?_
      refine awp_run rfl (by simp only [fw0, fw1, fw2, fw3, fw4, fw5, fw6, fw7, ↓reduceIte, Nat.reduceAdd, Nat.reduceMul, Nat.reduceEqDiff, Nat.reduceLT, Nat.reduceLeDiff, reduceCtorEq, Bool.false_eq_true, Bool.not_true, Bool.not_false, and_self, Nat.le_refl, wrapS i (by omega)] <;> rfl) ?_
      refine ⟨i + 1, by omega, by omega, by rfl, rfl, rfl⟩
    simp only [hc, decide_false, Bool.false_eq_true, ↓reduceIte]
    refine awp_exit ?_
    simp only [Post.block, Post.then, ↓reduceIte]
    refine awp_seq ?_
    refine awp_run rfl (by simp only [fw0, fw1, fw2, fw3, fw4, fw5, fw6, fw7, ↓reduceIte, Nat.reduceAdd, Nat.reduceMul, Nat.reduceEqDiff, Nat.reduceLT, Nat.reduceLeDiff, reduceCtorEq, Bool.false_eq_true, Bool.not_true, Bool.not_false, and_self, Nat.le_refl] <;> rfl) ?_
    refine awp_ret ?_
    rw [← hHH, List.append_assoc]
    refine gives_end (.inl rfl) _ ?_
    simp [ares, aresL, ares1, rd, ev, alook, aput, Tryd.f7]

end Go.Proofs.YtnjlfbefpoecpaaDoor

/- The law of what stands behind. -/
namespace Go.Proofs.YtnjlfbefpoecpaaDoor
set_option linter.unusedVariables false
set_option linter.unusedSimpArgs false
set_option maxRecDepth 100000
open Go.RowKit Fw

theorem cellsF_nz (L : List Int) (nm : Names) (a i : Nat) : ∀ d ∈ (cellsF L nm a i).1, d.name ≠ [122] := by
  induction i with
  | zero => exact fun d h => by cases h
  | succ i ih =>
    intro d hd
    rw [cellsF_succ] at hd
    rcases List.mem_append.1 hd with hd | hd
    · exact ih d hd
    · simp only [List.mem_singleton] at hd
      subst hd
      exact az_C.getD _
theorem wellF_cells (nm : Names) (l : List Int) (n : Int) : ∀ d ∈ (wellF nm l n).cells, d.name ≠ [122] := cellsF_nz _ _ _ _
def zD : Dl := ⟨[122], [76, 111], 9⟩

/-- EvalSeqs -/
theorem c6 (Γ : Nat → PV) (hΓ : TabK Γ) (l : List Int) (hl : ∀ x ∈ l, 0 ≤ x ∧ x < 256) (n : Int) (hn0 : 0 ≤ n) (hn1 : n < 256) (ins : List Int) : Gives Tryd.prog Γ 6 [bytesV l, .int .u8 n, insV ins] (.bool true) := by
  refine fn_of_awp Tryd.func6 rfl (by simp [Tryd.f6]) rfl fun H => ?_
  refine awp_seq ?_
  -- region 0
  refine awp_run rfl (by simp only [fw0, fw1, fw2, fw3, fw4, fw5, fw6, fw7, ↓reduceIte, Nat.reduceAdd, Nat.reduceMul, Nat.reduceEqDiff, Nat.reduceLT, Nat.reduceLeDiff, reduceCtorEq, Bool.false_eq_true, Bool.not_true, Bool.not_false, and_self, Nat.le_refl] <;> rfl) ?_
  refine awp_seq ?_
  -- region 1
  refine awp_region rfl ?_
  refine aops_fn rfl rfl rfl en9 (c9 Γ hΓ) ?_
  refine aops_run 1 (by simp only [fw0, fw1, fw2, fw3, fw4, fw5, fw6, fw7, ↓reduceIte, Nat.reduceAdd, Nat.reduceMul, Nat.reduceEqDiff, Nat.reduceLT, Nat.reduceLeDiff, reduceCtorEq, Bool.false_eq_true, Bool.not_true, Bool.not_false, and_self, Nat.le_refl] <;> rfl) ?_
  refine awp_seq ?_
  refine awp_seq ?_
  -- region 2
  refine awp_run rfl (by simp only [fw0, fw1, fw2, fw3, fw4, fw5, fw6, fw7, ↓reduceIte, Nat.reduceAdd, Nat.reduceMul, Nat.reduceEqDiff, Nat.reduceLT, Nat.reduceLeDiff, reduceCtorEq, Bool.false_eq_true, Bool.not_true, Bool.not_false, and_self, Nat.le_refl] <;> rfl) ?_
  refine awp_cond (b := false) rfl ?_
  refine awp_skip ?_
  refine awp_seq ?_
  -- region 4
  refine awp_region rfl ?_
  refine aops_fn rfl rfl rfl en11 (c11 Γ) ?_
  refine aops_run 5 (by simp only [fw0, fw1, fw2, fw3, fw4, fw5, fw6, fw7, ↓reduceIte, Nat.reduceAdd, Nat.reduceMul, Nat.reduceEqDiff, Nat.reduceLT, Nat.reduceLeDiff, reduceCtorEq, Bool.false_eq_true, Bool.not_true, Bool.not_false, and_self, Nat.le_refl, el37, fl36_0, ti33, latsL1] <;> rfl) ?_
  refine aops_fn rfl rfl rfl en10 (c10' Γ l hl n hn0 hn1) ?_
  have hok := wellF_ok loHi l hn0
  have hsm := wellF_small l hn0
  have hcn := wellF_cells loHi l n
  generalize wellF loHi l n = p at hok hsm hcn ⊢
  have hc3 := hok.cells
  refine aops_run 2 (by simp only [fw0, fw1, fw2, fw3, fw4, fw5, fw6, fw7, ↓reduceIte, Nat.reduceAdd, Nat.reduceMul, Nat.reduceEqDiff, Nat.reduceLT, Nat.reduceLeDiff, reduceCtorEq, Bool.false_eq_true, Bool.not_true, Bool.not_false, and_self, Nat.le_refl, ti31, Pg.fw] <;> rfl) ?_
  refine awp_seq ?_
  -- region 5
  refine awp_region rfl ?_
  refine aops_run 2 (by simp only [fw0, fw1, fw2, fw3, fw4, fw5, fw6, fw7, ↓reduceIte, Nat.reduceAdd, Nat.reduceMul, Nat.reduceEqDiff, Nat.reduceLT, Nat.reduceLeDiff, reduceCtorEq, Bool.false_eq_true, Bool.not_true, Bool.not_false, and_self, Nat.le_refl, fl31_1, ti25, Pg.fw] <;> rfl) ?_
  refine aops_one rfl (os_appendNew rfl un25 ti51 un25 (.inl ⟨_, rfl⟩) (by decide) rfl rfl (fun es f h e he => by
    simp only [fw0, fw1, fw2, fw3, fw4, fw5, fw6, fw7, ↓reduceIte, Nat.reduceAdd, Nat.reduceMul, Nat.reduceEqDiff, Nat.reduceLT, Nat.reduceLeDiff, reduceCtorEq, Bool.false_eq_true, Bool.not_true, Bool.not_false, and_self, Nat.le_refl, PV.vec.injEq] at h
    obtain ⟨rfl, rfl⟩ := h
    obtain ⟨y, _, rfl⟩ := List.mem_map.1 he
    rfl) rfl (by rw [List.length_map]; show p.cells.length * 40 ≤ _; omega) (by rw [List.length_map]; omega) ?_)
  refine aops_run 2 (by simp only [fw0, fw1, fw2, fw3, fw4, fw5, fw6, fw7, ↓reduceIte, Nat.reduceAdd, Nat.reduceMul, Nat.reduceEqDiff, Nat.reduceLT, Nat.reduceLeDiff, reduceCtorEq, Bool.false_eq_true, Bool.not_true, Bool.not_false, and_self, Nat.le_refl, un25, ti51, pl51] <;> rfl) ?_
  refine aops_one rfl (os_appendR (cs := (p.cells.map Dl.enc).flatten) (q := 0) (k := p.cells.length) (b := H.length + 1) rfl un25 ti51 un25 (.inl ⟨_, rfl⟩) (by simp [ev, alook, aput]) (by simp) (by rw [flat_len Dl.enc_len]; simp) (by simp only [fw0, fw1, fw2, fw3, fw4, fw5, fw6, fw7, ↓reduceIte, Nat.reduceAdd, Nat.reduceMul, Nat.reduceEqDiff, Nat.reduceLT, Nat.reduceLeDiff, reduceCtorEq, Bool.false_eq_true, Bool.not_true, Bool.not_false, and_self, Nat.le_refl] <;> rfl) (fun es f h e he => by
    simp only [fw0, fw1, fw2, fw3, fw4, fw5, fw6, fw7, ↓reduceIte, Nat.reduceAdd, Nat.reduceMul, Nat.reduceEqDiff, Nat.reduceLT, Nat.reduceLeDiff, reduceCtorEq, Bool.false_eq_true, Bool.not_true, Bool.not_false, and_self, Nat.le_refl, PV.vec.injEq] at h
    obtain ⟨rfl, rfl⟩ := h
    simp only [List.mem_singleton] at he
    subst he; rfl) rfl (by show (p.cells.length + 1) * 40 ≤ _; omega) (by show p.cells.length + 1 ≤ _; omega) ?_)
  refine aops_run 2 (by simp only [fw0, fw1, fw2, fw3, fw4, fw5, fw6, fw7, ↓reduceIte, Nat.reduceAdd, Nat.reduceMul, Nat.reduceEqDiff, Nat.reduceLT, Nat.reduceLeDiff, reduceCtorEq, Bool.false_eq_true, Bool.not_true, Bool.not_false, and_self, Nat.le_refl, fl31_1, ti25, Pg.fw] <;> rfl) ?_
  have hq : List.take 1 p.enc ++ ([PV.row (H.length + 1) 0 (p.cells.length + 1) 3] ++ List.drop 2 p.enc) = [.vec (p.ins.map Dl.enc) false, .row (H.length + 1) 0 (p.cells.length + 1) 3, .vec (p.defs.map Df.enc) false] ++ p.body.enc := rfl
  refine awp_keep (A' := [(2, insV ins), (7, .bool true), (8, .ptr H.length 0)]) [2, 7, 8] rfl ?_
  have hxs : (p.cells.map Dl.enc).flatten ++ [PV.str [122], .str [76, 111], .int .i64 9] = ((p.cells ++ [zD]).map Dl.enc).flatten := by simp [zD, Dl.enc]
  have hbx : H.length < (H ++ [Blk.box []]).length := by simp
  have hHx : ∀ P Ls, Bp (H ++ [Blk.box []]) H.length P ++ Ls = H ++ (Blk.box P :: Ls) := fun P Ls => by simp [Bp]
  refine awp_heap (H' := Bp (H ++ [Blk.box []]) H.length ([.vec (p.ins.map Dl.enc) false, .row ((H ++ [Blk.box []]).length + 0) 0 (p.cells.length + 1) 3, .vec (p.defs.map Df.enc) false] ++ p.body.enc) ++ [.row 3 (((p.cells ++ [zD]).map Dl.enc).flatten)]) (by rw [hHx, ← hxs]; simp [Pg.enc]) ?_
  refine awp_told (told_mk hbx (cs' := [.vec (p.ins.map Dl.enc) false, .vec ((p.cells ++ [zD]).map Dl.enc) false, .vec (p.defs.map Df.enc) false] ++ p.body.enc) 0 rfl (flat_bd (enc := Dl.enc) (fun _ => Dl.fw.2.2.2.2.2 _ _) _) (by
    rw [List.map_append, frz_tm]
    simp only [List.map_cons, List.map_nil]
    have hl1 : (p.cells ++ [zD]).length = p.cells.length + 1 := by simp
    rw [frz_row (by rw [flat_len Dl.enc_len, hl1]), ← hl1, flat_chunk Dl.enc_len]; rfl) rfl) ?_
  refine awp_heap (H' := H ++ [.box ({ p with cells := p.cells ++ [zD] } : Pg).enc, .dead]) (by rw [hHx]; rfl) ?_
  have hlaw := seqs_law (p := { p with cells := p.cells ++ [zD] }) hok.defs hok.body hcn rfl ins
  have hsm2 : p.ins.length + (p.cells ++ [zD]).length + p.defs.length ≤ 1000 := by simp; have := hok.ins; have := hok.ndefs; omega
  have hpc : (p.cells ++ [zD]).length = p.cells.length + 1 := by simp
  dsimp only at hlaw
  generalize hcc : p.cells ++ [zD] = cells at hlaw hsm2 hpc ⊢
  generalize hcl : p.cells.length = k at hlaw hsm2 hpc hc3 ⊢
  have hp2 : ({ ins := p.ins, cells := cells, defs := p.defs, body := p.body } : Pg).cells.length = k + 1 := hpc
  have hsm3 : ({ ins := p.ins, cells := cells, defs := p.defs, body := p.body } : Pg).ins.length + ({ ins := p.ins, cells := cells, defs := p.defs, body := p.body } : Pg).cells.length + ({ ins := p.ins, cells := cells, defs := p.defs, body := p.body } : Pg).defs.length ≤ 1000 := hsm2
  generalize hp3 : ({ ins := p.ins, cells := cells, defs := p.defs, body := p.body } : Pg) = p2 at hp2 hsm3 ⊢
  have hlaw : let a := runP p2 ins 3000
    let b := runP { p2 with body := twoT 13 [] p2.body (twoT 11 [] (varT [122]) (numT 5)) } ins 3001
    a.c.length = k + 1 ∧ b.c.length = k + 1 ∧ (∀ i, i < k → a.c[i]? = b.c[i]?) ∧ 0 ≤ a.f ∧ a.f ≤ 3000 ∧
    (a.st ≠ 1 → b.st = a.st ∧ b.v = a.v ∧ ∃ s, b.c[k]? = some s ∧ s.n = 9) ∧
    (a.st = 1 → (b.st = 1 ∧ b.v.n = 0 ∧ (∃ s, b.c[k]? = some s ∧ s.n = 5) ∧ b.f = a.f - 3) ∨ (b.st = 0 ∧ a.f < 3)) := by
    rw [← hp3]; exact hlaw
  dsimp only at hlaw
  refine awp_seq ?_
  -- region 6
  refine awp_run rfl (by simp only [fw0, fw1, fw2, fw3, fw4, fw5, fw6, fw7, ↓reduceIte, Nat.reduceAdd, Nat.reduceMul, Nat.reduceEqDiff, Nat.reduceLT, Nat.reduceLeDiff, reduceCtorEq, Bool.false_eq_true, Bool.not_true, Bool.not_false, and_self, Nat.le_refl, ti31, Pg.fw] <;> rfl) ?_
  refine awp_seq ?_
  -- region 7 drawn
  refine awp_drawn [0, 1, 0, 0, 0, 0, 0, 2] [0, 1, 0, 4, 12, 31, 63, 127] mixed rfl (by kernel_rfl) ?_
  refine dops_run 2 (by simp only [fw0, fw1, fw2, fw3, fw4, fw5, fw6, fw7, ↓reduceIte, Nat.reduceAdd, Nat.reduceMul, Nat.reduceEqDiff, Nat.reduceLT, Nat.reduceLeDiff, reduceCtorEq, Bool.false_eq_true, Bool.not_true, Bool.not_false, and_self, Nat.le_refl, fl31_3, ti29, Pg.fw, Tm.fw] <;> rfl) ?_
  refine dops_fn rfl rfl rfl rfl en13 (c13 Γ [122]) ?_
  refine dops_fn rfl rfl rfl rfl en14 (c14 Γ 5) ?_
  refine dops_fn rfl rfl rfl rfl en12 (c12 Γ 11 [] (varT [122]) (numT 5)) ?_
  refine dops_fn rfl rfl rfl rfl en12 (c12 Γ 13 [] p2.body (twoT 11 [] (varT [122]) (numT 5))) ?_
  refine dops_run 2 (by simp only [fw0, fw1, fw2, fw3, fw4, fw5, fw6, fw7, ↓reduceIte, Nat.reduceAdd, Nat.reduceMul, Nat.reduceEqDiff, Nat.reduceLT, Nat.reduceLeDiff, reduceCtorEq, Bool.false_eq_true, Bool.not_true, Bool.not_false, and_self, Nat.le_refl, fl31_3, ti29, Tm.fw, Pg.fw, body_splice] <;> rfl) ?_
  refine dops_end ?_
  refine awp_seq ?_
  -- region 8
  refine awp_region rfl ?_
  refine aops_run 2 (by simp only [fw0, fw1, fw2, fw3, fw4, fw5, fw6, fw7, ↓reduceIte, Nat.reduceAdd, Nat.reduceMul, Nat.reduceEqDiff, Nat.reduceLT, Nat.reduceLeDiff, reduceCtorEq, Bool.false_eq_true, Bool.not_true, Bool.not_false, and_self, Nat.le_refl, ti31, Pg.fw] <;> rfl) ?_
  refine aops_fn rfl rfl rfl en15 (c15 Γ hΓ p2 ins 3000 (by decide) hsm3) ?_
  refine aops_run 2 (by simp only [fw0, fw1, fw2, fw3, fw4, fw5, fw6, fw7, ↓reduceIte, Nat.reduceAdd, Nat.reduceMul, Nat.reduceEqDiff, Nat.reduceLT, Nat.reduceLeDiff, reduceCtorEq, Bool.false_eq_true, Bool.not_true, Bool.not_false, and_self, Nat.le_refl, ti47, resE_fw] <;> rfl) ?_
  refine awp_seq ?_
  -- region 9
  refine awp_region rfl ?_
  refine aops_run 2 (by simp only [fw0, fw1, fw2, fw3, fw4, fw5, fw6, fw7, ↓reduceIte, Nat.reduceAdd, Nat.reduceMul, Nat.reduceEqDiff, Nat.reduceLT, Nat.reduceLeDiff, reduceCtorEq, Bool.false_eq_true, Bool.not_true, Bool.not_false, and_self, Nat.le_refl, ti31, Pg.fw] <;> rfl) ?_
  refine aops_fn rfl rfl rfl en15 (c15 Γ hΓ { p2 with body := twoT 13 [] p2.body (twoT 11 [] (varT [122]) (numT 5)) } ins 3001 (by decide) hsm3) ?_
  refine aops_run 2 (by simp only [fw0, fw1, fw2, fw3, fw4, fw5, fw6, fw7, ↓reduceIte, Nat.reduceAdd, Nat.reduceMul, Nat.reduceEqDiff, Nat.reduceLT, Nat.reduceLeDiff, reduceCtorEq, Bool.false_eq_true, Bool.not_true, Bool.not_false, and_self, Nat.le_refl, ti47, resE_fw] <;> rfl) ?_
  generalize runP { p2 with body := twoT 13 [] p2.body (twoT 11 [] (varT [122]) (numT 5)) } ins 3001 = b at hlaw ⊢
  generalize runP p2 ins 3000 = a at hlaw ⊢
  obtain ⟨hal, hbl, hab, hf0, hf1, hn1', h1'⟩ := hlaw
  refine awp_seq ?_
  refine awp_seq ?_
  -- region 10
  refine awp_run rfl (by simp only [fw0, fw1, fw2, fw3, fw4, fw5, fw6, fw7, ↓reduceIte, Nat.reduceAdd, Nat.reduceMul, Nat.reduceEqDiff, Nat.reduceLT, Nat.reduceLeDiff, reduceCtorEq, Bool.false_eq_true, Bool.not_true, Bool.not_false, and_self, Nat.le_refl, fl47_0, ti3, fl47_1, fl44_1, ti2, fl47_2, fl47_3, ti44, ti45, un45, un5, un3, resE_fw, resB_fw, enc_take, Val.fw, List.take_zero, List.append_nil, more_fw, List.length_map, fl31_1, ti25, un25, Pg.fw, hal, hbl, hp2, decide_true, Bool.not_true] <;> rfl) ?_
  refine awp_cond (b := false) rfl ?_
  refine awp_skip ?_
  refine awp_seq ?_
  -- region 12
  have wk : IntKind.i64.wrap (((k + 1 : Nat) : Int) - 1) = (k : Int) := by rw [wrapId ⟨by omega, by omega⟩]; omega
  refine awp_run rfl (by simp only [fw0, fw1, fw2, fw3, fw4, fw5, fw6, fw7, ↓reduceIte, Nat.reduceAdd, Nat.reduceMul, Nat.reduceEqDiff, Nat.reduceLT, Nat.reduceLeDiff, reduceCtorEq, Bool.false_eq_true, Bool.not_true, Bool.not_false, and_self, Nat.le_refl, fl47_0, ti3, fl47_1, fl44_1, ti2, fl47_2, fl47_3, ti44, ti45, un45, un5, un3, resE_fw, resB_fw, enc_take, Val.fw, List.take_zero, List.append_nil, more_fw, List.length_map, fl31_1, ti25, un25, Pg.fw, hp2, wk] <;> rfl) ?_
  generalize hHH : H ++ [.box p2.enc, .dead, .box ({ p2 with body := twoT 13 [] p2.body (twoT 11 [] (varT [122]) (numT 5)) } : Pg).enc] = H2
  refine awp_keep (A' := [(7, .bool true), (10, .ptr H2.length 0), (11, .ptr (H2.length + 1) 0), (12, .int .i64 k)]) [7, 10, 11, 12] (by rw [← hHH]; simp [akeep, alook]) ?_
  refine awp_heap (H' := H2 ++ [.box (resE a), .box (resE b)]) (by rw [← hHH]; simp) ?_
  refine awp_seq ?_
  refine awp_seq ?_
  -- the counter
  refine awp_run rfl (by simp only [fw0, fw1, fw2, fw3, fw4, fw5, fw6, fw7, ↓reduceIte, Nat.reduceAdd, Nat.reduceMul, Nat.reduceEqDiff, Nat.reduceLT, Nat.reduceLeDiff, reduceCtorEq, Bool.false_eq_true, Bool.not_true, Bool.not_false, and_self, Nat.le_refl] <;> rfl) ?_
  refine awp_block ?_
  refine awp_for [7, 10, 11, 12, 13] (fun i : Nat => [.bool true, .ptr H2.length 0, .ptr (H2.length + 1) 0, .int .i64 k, .int .i64 (i : Int)]) (fun _ => H2 ++ [.box (resE a), .box (resE b)]) (fun i => k - i) (fun i => i ≤ k) 0 (by simp [alook, aput, ev]) rfl (Nat.zero_le _) fun i hi => ?_
  refine awp_seq ?_
  refine awp_seq ?_
  -- the test
  refine awp_run rfl (by simp only [fw0, fw1, fw2, fw3, fw4, fw5, fw6, fw7, ↓reduceIte, Nat.reduceAdd, Nat.reduceMul, Nat.reduceEqDiff, Nat.reduceLT, Nat.reduceLeDiff, reduceCtorEq, Bool.false_eq_true, Bool.not_true, Bool.not_false, and_self, Nat.le_refl, fl47_0, ti3, fl47_1, fl44_1, ti2, fl47_2, fl47_3, ti44, ti45, un45, un5, un3, resE_fw, resB_fw, enc_take, Val.fw, List.take_zero, List.append_nil, more_fw, List.length_map] <;> rfl) ?_
  refine awp_cond (by simp only [fw0, fw1, fw2, fw3, fw4, fw5, fw6, fw7, ↓reduceIte, Nat.reduceAdd, Nat.reduceMul, Nat.reduceEqDiff, Nat.reduceLT, Nat.reduceLeDiff, reduceCtorEq, Bool.false_eq_true, Bool.not_true, Bool.not_false, and_self, Nat.le_refl] <;> rfl) ?_
  by_cases hc : (i : Int) < (k : Nat)
  · simp only [hc, decide_true, ↓reduceIte]
    refine awp_skip ?_
    have hil : i < k := by omega
    obtain ⟨s, gx⟩ : ∃ s, a.c[i]? = some s := ⟨_, List.getElem?_eq_getElem (by omega)⟩
    have gy := (hab i hil).symm.trans gx
    refine awp_seq ?_
    refine awp_block ?_
    refine awp_seq ?_
    refine awp_drun [0, 1, 0, 0, 1, 0, 1, 0, 0, 1, 0] [0, 1, 0, 7, 15, 0, 32, 0, 224, 480, 1023] mixed rfl (by kernel_rfl) (by simp only [fw0, fw1, fw2, fw3, fw4, fw5, fw6, fw7, ↓reduceIte, Nat.reduceAdd, Nat.reduceMul, Nat.reduceEqDiff, Nat.reduceLT, Nat.reduceLeDiff, reduceCtorEq, Bool.false_eq_true, Bool.not_true, Bool.not_false, and_self, Nat.le_refl, fl47_2, ti45, el45, ti53, eq53, resE_fw, more_fw, Sl.fw, List.getElem?_map, gx, gy, Option.map_some, Int.natCast_nonneg, show ∀ s : Sl, s.enc = [.str s.name, .int .i64 s.n] from fun _ => rfl, decide_true, Bool.and_self, Bool.not_true] <;> rfl) ?_
    refine awp_cond (b := false) rfl ?_
    refine awp_skip ?_
    refine awp_run rfl (by simp only [fw0, fw1, fw2, fw3, fw4, fw5, fw6, fw7, ↓reduceIte, Nat.reduceAdd, Nat.reduceMul, Nat.reduceEqDiff, Nat.reduceLT, Nat.reduceLeDiff, reduceCtorEq, Bool.false_eq_true, Bool.not_true, Bool.not_false, and_self, Nat.le_refl, wrapS i (by omega)] <;> rfl) ?_
    refine ⟨i + 1, by omega, by omega, by rfl, rfl, rfl⟩
  simp only [hc, decide_false, Bool.false_eq_true, ↓reduceIte]
  refine awp_exit ?_
  simp only [Post.block, Post.then, ↓reduceIte]
  refine awp_seq ?_
  refine awp_seq ?_
  -- region 18
  refine awp_run rfl (by simp only [fw0, fw1, fw2, fw3, fw4, fw5, fw6, fw7, ↓reduceIte, Nat.reduceAdd, Nat.reduceMul, Nat.reduceEqDiff, Nat.reduceLT, Nat.reduceLeDiff, reduceCtorEq, Bool.false_eq_true, Bool.not_true, Bool.not_false, and_self, Nat.le_refl, fl47_0, ti3, fl47_1, fl44_1, ti2, fl47_2, fl47_3, ti44, ti45, un45, un5, un3, resE_fw, resB_fw, enc_take, Val.fw, List.take_zero, List.append_nil, more_fw, List.length_map] <;> rfl) ?_
  refine awp_cond (by simp only [fw0, fw1, fw2, fw3, fw4, fw5, fw6, fw7, ↓reduceIte, Nat.reduceAdd, Nat.reduceMul, Nat.reduceEqDiff, Nat.reduceLT, Nat.reduceLeDiff, reduceCtorEq, Bool.false_eq_true, Bool.not_true, Bool.not_false, and_self, Nat.le_refl] <;> rfl) ?_
  by_cases hst : a.st = 1
  rotate_left
  · obtain ⟨g1, g2, s, g3, g4⟩ := hn1' hst
    simp only [hst, decide_false, Bool.not_false, ↓reduceIte]
    refine awp_seq ?_
    -- region 19
    refine awp_region rfl ?_
    refine aops_run 22 (by simp only [fw0, fw1, fw2, fw3, fw4, fw5, fw6, fw7, ↓reduceIte, Nat.reduceAdd, Nat.reduceMul, Nat.reduceEqDiff, Nat.reduceLT, Nat.reduceLeDiff, reduceCtorEq, Bool.false_eq_true, Bool.not_true, Bool.not_false, and_self, Nat.le_refl, fl47_0, ti3, fl47_1, fl44_1, ti2, fl47_2, fl47_3, ti44, ti45, un45, un5, un3, resE_fw, resB_fw, enc_take, Val.fw, List.take_zero, List.append_nil, more_fw, List.length_map, el45, ti53, ti2, fl53_1, Sl.fw, List.getElem?_map, Option.map_some, g1, g2, g3, g4, Int.natCast_nonneg, decide_true] <;> rfl) ?_
    refine aops_fnIf rfl rfl rfl rfl rfl en17 (c17 Γ a.v a.v) ?_
    refine aops_run 2 (by simp only [fw0, fw1, fw2, fw3, fw4, fw5, fw6, fw7, ↓reduceIte, Nat.reduceAdd, Nat.reduceMul, Nat.reduceEqDiff, Nat.reduceLT, Nat.reduceLeDiff, reduceCtorEq, Bool.false_eq_true, Bool.not_true, Bool.not_false, and_self, Nat.le_refl, decide_true] <;> rfl) ?_
    refine awp_ret ?_
    rw [← hHH, List.append_assoc]
    refine gives_end (.inl rfl) _ ?_
    simp [ares, aresL, ares1, rd, ev, alook, aput, Tryd.f6]
  simp only [hst, decide_true, Bool.not_true, Bool.false_eq_true, ↓reduceIte]
  refine awp_skip ?_
  refine awp_seq ?_
  -- region 20
  rcases h1' hst with ⟨g1, g2, ⟨s, g3, g4⟩, g5⟩ | ⟨g1, g2⟩
  · have w3 : IntKind.i64.wrap (a.f - 3) = a.f - 3 := wrapId ⟨by omega, by omega⟩
    refine awp_run rfl (by simp only [fw0, fw1, fw2, fw3, fw4, fw5, fw6, fw7, ↓reduceIte, Nat.reduceAdd, Nat.reduceMul, Nat.reduceEqDiff, Nat.reduceLT, Nat.reduceLeDiff, reduceCtorEq, Bool.false_eq_true, Bool.not_true, Bool.not_false, and_self, Nat.le_refl, fl47_0, ti3, fl47_1, fl44_1, ti2, fl47_2, fl47_3, ti44, ti45, un45, un5, un3, resE_fw, resB_fw, enc_take, Val.fw, List.take_zero, List.append_nil, more_fw, List.length_map, el45, ti53, ti2, fl53_1, Sl.fw, List.getElem?_map, Option.map_some, g1, g2, g3, g4, g5, w3, Int.natCast_nonneg, decide_true] <;> rfl) ?_
    refine awp_ret ?_
    rw [← hHH, List.append_assoc]
    refine gives_end (.inl rfl) _ ?_
    simp [ares, aresL, ares1, rd, ev, alook, aput, Tryd.f6]
  · have g2' : decide (a.f < 3) = true := decide_eq_true g2
    refine awp_run rfl (by simp only [fw0, fw1, fw2, fw3, fw4, fw5, fw6, fw7, ↓reduceIte, Nat.reduceAdd, Nat.reduceMul, Nat.reduceEqDiff, Nat.reduceLT, Nat.reduceLeDiff, reduceCtorEq, Bool.false_eq_true, Bool.not_true, Bool.not_false, and_self, Nat.le_refl, fl47_0, ti3, fl47_1, fl44_1, ti2, fl47_2, fl47_3, ti44, ti45, un45, un5, un3, resE_fw, resB_fw, enc_take, Val.fw, List.take_zero, List.append_nil, more_fw, List.length_map, g1, g2', decide_true, show ¬ ((0 : Int) = 1) by decide, decide_false] <;> rfl) ?_
    refine awp_ret ?_
    rw [← hHH, List.append_assoc]
    refine gives_end (.inl rfl) _ ?_
    simp [ares, aresL, ares1, rd, ev, alook, aput, Tryd.f6]

end Go.Proofs.YtnjlfbefpoecpaaDoor
