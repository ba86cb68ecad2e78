/- The contracts of the document's run's small functions. -/
import Derived.Test.YtnjlfbefpoecpaaDoorWD
namespace Go.Proofs.YtnjlfbefpoecpaaDoor
set_option linter.unusedVariables false
set_option linter.unusedSimpArgs false
set_option maxRecDepth 100000
open Go.RowKit Fw

def stuckZ (c : List Sl) (f : Int) : List PV := .int .i64 3 :: (zeroVP ++ [.vec (c.map Sl.enc) false, .int .i64 f])
def manyV (k : Int) : Int := if 0 ≤ k ∧ k < 14 then kidsOf.getD k.toNat 0 else -1
theorem many_right (t : Tm) : right t ↔ manyV t.kind = (t.kids.length : Int) := by
  unfold right manyV
  constructor
  · intro ⟨h1, h2, h3⟩
    rw [if_pos ⟨h1, h2⟩]; exact h3
  · intro h
    by_cases hk : 0 ≤ t.kind ∧ t.kind < 14
    · rw [if_pos hk] at h; exact ⟨hk.1, hk.2, h⟩
    · rw [if_neg hk] at h; omega

/-- chancelref19.many -/
theorem c43 (Γ : Nat → PV) (k : Int) : Gives Tryd.prog Γ 43 [.int .i64 k] (.int .i64 (manyV k)) := by
  refine fn_of_awp Tryd.func43 rfl (by simp [Tryd.f43]) rfl fun H => ?_
  refine awp_seq ?_
  -- region 0
  refine awp_run rfl (by simp only [fw0, fw1, fw2, fw3, fw4, fw5, fw6, fw7, ↓reduceIte, Nat.reduceAdd, Nat.reduceMul, Nat.reduceEqDiff, Nat.reduceLT, Nat.reduceLeDiff, reduceCtorEq, Bool.false_eq_true, Bool.not_true, Bool.not_false, and_self, Nat.le_refl] <;> rfl) ?_
  refine awp_seq ?_
  -- region 1
  refine awp_run rfl (by simp only [fw0, fw1, fw2, fw3, fw4, fw5, fw6, fw7, ↓reduceIte, Nat.reduceAdd, Nat.reduceMul, Nat.reduceEqDiff, Nat.reduceLT, Nat.reduceLeDiff, reduceCtorEq, Bool.false_eq_true, Bool.not_true, Bool.not_false, and_self, Nat.le_refl, un88, ti3] <;> rfl) ?_
  refine awp_seq ?_
  refine awp_seq ?_
  -- region 2
  by_cases h0 : k < 0
  · refine awp_run rfl (by simp only [fw0, fw1, fw2, fw3, fw4, fw5, fw6, fw7, ↓reduceIte, Nat.reduceAdd, Nat.reduceMul, Nat.reduceEqDiff, Nat.reduceLT, Nat.reduceLeDiff, reduceCtorEq, Bool.false_eq_true, Bool.not_true, Bool.not_false, and_self, Nat.le_refl, un88, h0, decide_true] <;> rfl) ?_
    refine awp_cond (b := true) rfl ?_
    refine awp_seq ?_
    -- region 3
    refine awp_run rfl (by simp only [fw0, fw1, fw2, fw3, fw4, fw5, fw6, fw7, ↓reduceIte, Nat.reduceAdd, Nat.reduceMul, Nat.reduceEqDiff, Nat.reduceLT, Nat.reduceLeDiff, reduceCtorEq, Bool.false_eq_true, Bool.not_true, Bool.not_false, and_self, Nat.le_refl] <;> rfl) ?_
    refine awp_ret ?_
    have : manyV k = -1 := by unfold manyV; rw [if_neg (by omega)]
    rw [this]
    exact gives_end0 (.inl rfl) rfl
  by_cases h1 : 14 ≤ k
  · have h1' : decide (14 ≤ k) = true := decide_eq_true h1
    refine awp_run rfl (by simp only [fw0, fw1, fw2, fw3, fw4, fw5, fw6, fw7, ↓reduceIte, Nat.reduceAdd, Nat.reduceMul, Nat.reduceEqDiff, Nat.reduceLT, Nat.reduceLeDiff, reduceCtorEq, Bool.false_eq_true, Bool.not_true, Bool.not_false, and_self, Nat.le_refl, un88, h0, decide_false, List.length_cons, List.length_nil, ge_iff_le, Int.cast_ofNat_Int, h1'] <;> rfl) ?_
    refine awp_cond (b := true) rfl ?_
    refine awp_seq ?_
    -- region 3
    refine awp_run rfl (by simp only [fw0, fw1, fw2, fw3, fw4, fw5, fw6, fw7, ↓reduceIte, Nat.reduceAdd, Nat.reduceMul, Nat.reduceEqDiff, Nat.reduceLT, Nat.reduceLeDiff, reduceCtorEq, Bool.false_eq_true, Bool.not_true, Bool.not_false, and_self, Nat.le_refl] <;> rfl) ?_
    refine awp_ret ?_
    have : manyV k = -1 := by unfold manyV; rw [if_neg (by omega)]
    rw [this]
    exact gives_end0 (.inl rfl) rfl
  have h1' : decide (14 ≤ k) = false := decide_eq_false h1
  refine awp_run rfl (by simp only [fw0, fw1, fw2, fw3, fw4, fw5, fw6, fw7, ↓reduceIte, Nat.reduceAdd, Nat.reduceMul, Nat.reduceEqDiff, Nat.reduceLT, Nat.reduceLeDiff, reduceCtorEq, Bool.false_eq_true, Bool.not_true, Bool.not_false, and_self, Nat.le_refl, un88, h0, decide_false, List.length_cons, List.length_nil, ge_iff_le, Int.cast_ofNat_Int, h1'] <;> rfl) ?_
  refine awp_cond (b := false) rfl ?_
  refine awp_skip ?_
  refine awp_seq ?_
  -- region 4
  have hlist : ∀ i : Nat, i < 14 → ([-1, 0, 0, 1, 2, 2, 3, 2, 1, 2, 1, 2, 2, 2].map fun z => [PV.int IntKind.i64 z])[i]? = some [PV.int .i64 (kidsOf.getD i 0)] := fun i hi => by
    have : ∀ i : Fin 14, ([-1, 0, 0, 1, 2, 2, 3, 2, 1, 2, 1, 2, 2, 2] : List Int)[i.val]? = some (kidsOf.getD i.val 0) := by decide
    rw [List.getElem?_map, this ⟨i, hi⟩]; rfl
  have hk0 : 0 ≤ k := by omega
  have hg := hlist k.toNat (by omega)
  simp only [List.map_cons, List.map_nil] at hg
  refine awp_run rfl (by simp only [fw0, fw1, fw2, fw3, fw4, fw5, fw6, fw7, ↓reduceIte, Nat.reduceAdd, Nat.reduceMul, Nat.reduceEqDiff, Nat.reduceLT, Nat.reduceLeDiff, reduceCtorEq, Bool.false_eq_true, Bool.not_true, Bool.not_false, and_self, Nat.le_refl, el88, ti3, hg, hk0, true_and] <;> rfl) ?_
  refine awp_ret ?_
  have : manyV k = kidsOf.getD k.toNat 0 := by unfold manyV; rw [if_pos (by omega)]
  rw [this]
  exact gives_end0 (.inl rfl) rfl

theorem resV_fw : (∀ r, ((resE r).drop 1).take 8 = r.v.enc) := fun r => by
  simp [resE, enc_take r.v _ 0]

/-- chancelref19.stuck -/
theorem c44 (Γ : Nat → PV) (r : Res) : Gives Tryd.prog Γ 44 [.agg (resE r)] (.agg (resE (stuckR r.c r.f))) := by
  refine fn_of_awpLe Tryd.func44 rfl (by simp [Tryd.f44]) (p := .agg (stuckZ r.c r.f)) rfl (resZ_le r.c r.f) fun H => ?_
  refine awp_seq ?_
  -- region 0
  refine awp_run rfl (by simp only [fw0, fw1, fw2, fw3, fw4, fw5, fw6, fw7, ↓reduceIte, Nat.reduceAdd, Nat.reduceMul, Nat.reduceEqDiff, Nat.reduceLT, Nat.reduceLeDiff, reduceCtorEq, Bool.false_eq_true, Bool.not_true, Bool.not_false, and_self, Nat.le_refl, ti73] <;> rfl) ?_
  refine awp_seq ?_
  -- region 1
  refine awp_run rfl (by simp only [fw0, fw1, fw2, fw3, fw4, fw5, fw6, fw7, ↓reduceIte, Nat.reduceAdd, Nat.reduceMul, Nat.reduceEqDiff, Nat.reduceLT, Nat.reduceLeDiff, reduceCtorEq, Bool.false_eq_true, Bool.not_true, Bool.not_false, and_self, Nat.le_refl, fl73_2, ti71, fl73_3, ti3, ti73, pl73, resE_fw] <;> rfl) ?_
  refine awp_ret ?_
  refine gives_end (.inl rfl) _ ?_
  simp [ares, aresL, ares1, rd, ev, alook, Tryd.f44, ti73, stuckZ, zeroVP]

/-- chancelref19.value -/
theorem c47 (Γ : Nat → PV) (r : Res) (v : Val) : Gives Tryd.prog Γ 47 [.agg (resE r), .agg v.enc] (.agg (resE ⟨1, v, r.c, r.f⟩)) := by
  refine fn_of_awp Tryd.func47 rfl (by simp [Tryd.f47]) (by simp [PV.plain, PV.bd, resE_fw]) fun H => ?_
  refine awp_seq ?_
  -- region 0
  refine awp_run rfl (by simp only [fw0, fw1, fw2, fw3, fw4, fw5, fw6, fw7, ↓reduceIte, Nat.reduceAdd, Nat.reduceMul, Nat.reduceEqDiff, Nat.reduceLT, Nat.reduceLeDiff, reduceCtorEq, Bool.false_eq_true, Bool.not_true, Bool.not_false, and_self, Nat.le_refl, ti73] <;> rfl) ?_
  refine awp_seq ?_
  -- region 1
  refine awp_run rfl (by simp only [fw0, fw1, fw2, fw3, fw4, fw5, fw6, fw7, ↓reduceIte, Nat.reduceAdd, Nat.reduceMul, Nat.reduceEqDiff, Nat.reduceLT, Nat.reduceLeDiff, reduceCtorEq, Bool.false_eq_true, Bool.not_true, Bool.not_false, and_self, Nat.le_refl, ti70, fl73_2, ti71, fl73_3, ti3, ti73, pl73, resE_fw, Val.fw, enc_drop, enc_take, zeroVP, List.append_assoc, List.cons_append, List.nil_append, List.drop_zero, List.take_zero, List.drop_succ_cons, List.take_succ_cons, List.length_append, List.length_cons, List.length_nil] <;> rfl) ?_
  refine awp_heap (H' := H ++ [.box (resE r), .box v.enc, .box (resE ⟨1, v, r.c, r.f⟩)]) rfl ?_
  refine awp_ret ?_
  refine gives_end (.inl rfl) _ ?_
  simp [ares, aresL, ares1, rd, ev, alook, Tryd.f47, ti73, resE_fw]

/-- chancelref19.whole -/
theorem c45 (Γ : Nat → PV) (r : Res) (n : Int) : Gives Tryd.prog Γ 45 [.agg (resE r), .int .i64 n] (.agg (resE ⟨1, wholeV n, r.c, r.f⟩)) := by
  refine fn_of_awp Tryd.func45 rfl (by simp [Tryd.f45]) (by simp [PV.plain, PV.bd, resE_fw]) fun H => ?_
  refine awp_seq ?_
  -- region 0
  refine awp_run rfl (by simp only [fw0, fw1, fw2, fw3, fw4, fw5, fw6, fw7, ↓reduceIte, Nat.reduceAdd, Nat.reduceMul, Nat.reduceEqDiff, Nat.reduceLT, Nat.reduceLeDiff, reduceCtorEq, Bool.false_eq_true, Bool.not_true, Bool.not_false, and_self, Nat.le_refl, ti73] <;> rfl) ?_
  refine awp_seq ?_
  -- region 1
  refine awp_drawn [1, 0, 0, 0, 2] [0, 0, 2, 7, 15] mixed rfl (by kernel_rfl) ?_
  refine dops_run 2 (by simp only [fw0, fw1, fw2, fw3, fw4, fw5, fw6, fw7, ↓reduceIte, Nat.reduceAdd, Nat.reduceMul, Nat.reduceEqDiff, Nat.reduceLT, Nat.reduceLeDiff, reduceCtorEq, Bool.false_eq_true, Bool.not_true, Bool.not_false, and_self, Nat.le_refl, ti73, resE_fw] <;> rfl) ?_
  refine dops_fn rfl rfl rfl rfl en53 (c53 Γ n) ?_
  refine dops_fn rfl rfl rfl rfl en47 (c47 Γ r (wholeV n)) ?_
  refine dops_run 1 (by simp only [fw0, fw1, fw2, fw3, fw4, fw5, fw6, fw7, ↓reduceIte, Nat.reduceAdd, Nat.reduceMul, Nat.reduceEqDiff, Nat.reduceLT, Nat.reduceLeDiff, reduceCtorEq, Bool.false_eq_true, Bool.not_true, Bool.not_false, and_self, Nat.le_refl, ti73, resE_fw] <;> rfl) ?_
  refine dops_end ?_
  refine awp_ret ?_
  refine gives_end (.inl rfl) _ ?_
  simp [ares, aresL, ares1, rd, ev, alook, Tryd.f45, ti73, resE_fw]

/-- chancelref19.number -/
theorem c66 (Γ : Nat → PV) (r : Res) : Gives Tryd.prog Γ 66 [.agg (resE r)] (.bool (decide (r.st = 1) && decide (r.v.kind = 1))) := by
  refine fn_of_awp Tryd.func66 rfl (by simp [Tryd.f66]) rfl fun H => ?_
  refine awp_seq ?_
  -- region 0
  refine awp_run rfl (by simp only [fw0, fw1, fw2, fw3, fw4, fw5, fw6, fw7, ↓reduceIte, Nat.reduceAdd, Nat.reduceMul, Nat.reduceEqDiff, Nat.reduceLT, Nat.reduceLeDiff, reduceCtorEq, Bool.false_eq_true, Bool.not_true, Bool.not_false, and_self, Nat.le_refl, ti73] <;> rfl) ?_
  refine awp_seq ?_
  -- region 1
  by_cases h : r.st = 1
  · refine awp_run rfl (by simp only [fw0, fw1, fw2, fw3, fw4, fw5, fw6, fw7, ↓reduceIte, Nat.reduceAdd, Nat.reduceMul, Nat.reduceEqDiff, Nat.reduceLT, Nat.reduceLeDiff, reduceCtorEq, Bool.false_eq_true, Bool.not_true, Bool.not_false, and_self, Nat.le_refl, fl73_0, ti3, fl73_1, fl70_0, resE_fw, encA_fw, h, decide_true] <;> rfl) ?_
    refine awp_ret ?_
    refine gives_end (.inl rfl) _ ?_
    simp [ares, aresL, ares1, rd, ev, alook, aput, Tryd.f66, h]
  · refine awp_run rfl (by simp only [fw0, fw1, fw2, fw3, fw4, fw5, fw6, fw7, ↓reduceIte, Nat.reduceAdd, Nat.reduceMul, Nat.reduceEqDiff, Nat.reduceLT, Nat.reduceLeDiff, reduceCtorEq, Bool.false_eq_true, Bool.not_true, Bool.not_false, and_self, Nat.le_refl, fl73_0, ti3, fl73_1, fl70_0, resE_fw, encA_fw, h, decide_false] <;> rfl) ?_
    refine awp_ret ?_
    refine gives_end (.inl rfl) _ ?_
    simp [ares, aresL, ares1, rd, ev, alook, aput, Tryd.f66, h]

end Go.Proofs.YtnjlfbefpoecpaaDoor

/- The document's run: its contract; loops. -/
namespace Go.Proofs.YtnjlfbefpoecpaaDoor
set_option linter.unusedVariables false
set_option linter.unusedSimpArgs false
set_option maxRecDepth 100000
open Go.RowKit Fw

theorem resD_fw : (∀ r : Res, (resE r).drop 3 = .str r.v.name :: (r.v.t.enc ++ [.vec (r.v.env.map Bd.enc) false] ++ [.vec (r.c.map Sl.enc) false, .int .i64 r.f])) := fun r => by
  simp only [resE, Val.enc_eq]; rfl
/-- The contract of the document's run of a term. -/
def EvC (Γ : Nat → PV) (B n : Nat) (rn : Runner) : Prop := ∀ (t : Tm) (env : List Bd) (c : List Sl) (f : Int), capF f ≤ n → (capF f).toNat ≤ B → EL (B - (capF f).toNat) env → c.length * 24 ≤ reachBytes →
  Gives Tryd.prog Γ 23 [.agg t.enc, .vec (env.map Bd.enc) false, .vec (c.map Sl.enc) false, .int .i64 f] (.agg (resE (rn t env c (capF f))))
theorem EvC.at {Γ : Nat → PV} {B n : Nat} {rn : Runner} (h : EvC Γ B n rn) (hn : n ≤ 100000) (t : Tm) {env : List Bd} {c : List Sl} {f : Int} (h1 : f ≤ n) (h2 : f.toNat ≤ B) (h3 : EL (B - f.toNat) env) (h4 : c.length * 24 ≤ reachBytes) :
    Gives Tryd.prog Γ 23 [.agg t.enc, .vec (env.map Bd.enc) false, .vec (c.map Sl.enc) false, .int .i64 f] (.agg (resE (rn t env c f))) := by
  have e : capF f = f := by unfold capF; rw [if_neg (by omega)]
  have := h t env c f (by rw [e]; exact h1) (by rw [e]; exact h2) (by rw [e]; exact h3) h4
  rwa [e] at this

/-- A loop, whose first kid has a value. -/
def tailR (rn : Runner) (t : Tm) (env : List Bd) (a : Res) : Res :=
  if a.v.kind = 1 then
    if a.v.n = 0 then ⟨1, wholeV 0, a.c, a.f⟩
    else
      let b := rn (kid t 1) env a.c a.f
      if b.st = 1 then rn t env b.c b.f else b
  else stuckR a.c a.f

/-- chancelref19.loop -/
theorem c67 (Γ : Nat → PV) {B n : Nat} {rn : Runner} (hT : EvC Γ B n rn) (hI : RunInv B n rn) (hn : n ≤ 100000) (t : Tm) (env : List Bd) (a : Res) (ha : a.st = 1) (hf : a.f ≤ n) (hf0 : 0 ≤ a.f) (hB : a.f.toNat ≤ B) (he : EL (B - a.f.toNat) env) (hc : a.c.length * 24 ≤ reachBytes) (hk : 1 < t.kids.length) :
    Gives Tryd.prog Γ 67 [.agg t.enc, .vec (env.map Bd.enc) false, .agg (resE a)] (.agg (resE (tailR rn t env a))) := by
  refine fn_of_awp Tryd.func67 rfl (by simp [Tryd.f67]) (by simp [PV.plain, PV.bd, resE_fw]) fun H => ?_
  refine awp_seq ?_
  -- region 0
  refine awp_run rfl (by simp only [fw0, fw1, fw2, fw3, fw4, fw5, fw6, fw7, ↓reduceIte, Nat.reduceAdd, Nat.reduceMul, Nat.reduceEqDiff, Nat.reduceLT, Nat.reduceLeDiff, reduceCtorEq, Bool.false_eq_true, Bool.not_true, Bool.not_false, and_self, Nat.le_refl, ti67, ti65, el65, ti73, ti71, ti3, ti70, ti9, ti2, ti68, fl67_0, fl67_1, fl67_2, fl67_3, fl73_0, fl73_1, fl73_2, fl73_3, fl70_0, fl70_1, fl70_2, fl70_3, fl70_4, resE_fw, resB_fw, resD_fw, encA_fw, enc_take, Tm.fw, Val.fw, List.take_zero, List.append_nil] <;> rfl) ?_
  refine awp_seq ?_
  refine awp_seq ?_
  -- region 1
  refine awp_region rfl ?_
  refine aops_run 1 (by simp only [fw0, fw1, fw2, fw3, fw4, fw5, fw6, fw7, ↓reduceIte, Nat.reduceAdd, Nat.reduceMul, Nat.reduceEqDiff, Nat.reduceLT, Nat.reduceLeDiff, reduceCtorEq, Bool.false_eq_true, Bool.not_true, Bool.not_false, and_self, Nat.le_refl, ti67, ti65, el65, ti73, ti71, ti3, ti70, ti9, ti2, ti68, fl67_0, fl67_1, fl67_2, fl67_3, fl73_0, fl73_1, fl73_2, fl73_3, fl70_0, fl70_1, fl70_2, fl70_3, fl70_4, resE_fw, resB_fw, resD_fw, encA_fw, enc_take, Tm.fw, Val.fw, List.take_zero, List.append_nil] <;> rfl) ?_
  refine aops_fn rfl rfl rfl en66 (c66 Γ a) ?_
  refine aops_run 1 (by simp only [fw0, fw1, fw2, fw3, fw4, fw5, fw6, fw7, ↓reduceIte, Nat.reduceAdd, Nat.reduceMul, Nat.reduceEqDiff, Nat.reduceLT, Nat.reduceLeDiff, reduceCtorEq, Bool.false_eq_true, Bool.not_true, Bool.not_false, and_self, Nat.le_refl] <;> rfl) ?_
  refine awp_cond (by simp only [fw0, fw1, fw2, fw3, fw4, fw5, fw6, fw7, ↓reduceIte, Nat.reduceAdd, Nat.reduceMul, Nat.reduceEqDiff, Nat.reduceLT, Nat.reduceLeDiff, reduceCtorEq, Bool.false_eq_true, Bool.not_true, Bool.not_false, and_self, Nat.le_refl, ha, decide_true, Bool.true_and] <;> rfl) ?_
  by_cases h1 : a.v.kind = 1
  rotate_left
  · simp only [h1, decide_false, Bool.not_false, ↓reduceIte]
    have hr : tailR rn t env a = stuckR a.c a.f := by simp only [tailR, if_neg h1]
    refine awp_seq ?_
    -- region 2
    refine awp_region rfl ?_
    refine aops_run 1 (by simp only [fw0, fw1, fw2, fw3, fw4, fw5, fw6, fw7, ↓reduceIte, Nat.reduceAdd, Nat.reduceMul, Nat.reduceEqDiff, Nat.reduceLT, Nat.reduceLeDiff, reduceCtorEq, Bool.false_eq_true, Bool.not_true, Bool.not_false, and_self, Nat.le_refl, ti67, ti65, el65, ti73, ti71, ti3, ti70, ti9, ti2, ti68, fl67_0, fl67_1, fl67_2, fl67_3, fl73_0, fl73_1, fl73_2, fl73_3, fl70_0, fl70_1, fl70_2, fl70_3, fl70_4, resE_fw, resB_fw, resD_fw, encA_fw, enc_take, Tm.fw, Val.fw, List.take_zero, List.append_nil] <;> rfl) ?_
    refine aops_fn rfl rfl rfl en44 (c44 Γ a) ?_
    refine aops_run 1 (by simp only [fw0, fw1, fw2, fw3, fw4, fw5, fw6, fw7, ↓reduceIte, Nat.reduceAdd, Nat.reduceMul, Nat.reduceEqDiff, Nat.reduceLT, Nat.reduceLeDiff, reduceCtorEq, Bool.false_eq_true, Bool.not_true, Bool.not_false, and_self, Nat.le_refl, ti67, ti65, el65, ti73, ti71, ti3, ti70, ti9, ti2, ti68, fl67_0, fl67_1, fl67_2, fl67_3, fl73_0, fl73_1, fl73_2, fl73_3, fl70_0, fl70_1, fl70_2, fl70_3, fl70_4, resE_fw, resB_fw, resD_fw, encA_fw, enc_take, Tm.fw, Val.fw, List.take_zero, List.append_nil] <;> rfl) ?_
    refine awp_ret ?_
    refine gives_end (.inl rfl) _ ?_
    simp [ares, aresL, ares1, rd, ev, alook, aput, Tryd.f67, ti73, resE_fw, hr]
  simp only [h1, decide_true, Bool.not_true, Bool.false_eq_true, ↓reduceIte]
  refine awp_skip ?_
  refine awp_seq ?_
  refine awp_seq ?_
  -- region 3
  refine awp_run rfl (by simp only [fw0, fw1, fw2, fw3, fw4, fw5, fw6, fw7, ↓reduceIte, Nat.reduceAdd, Nat.reduceMul, Nat.reduceEqDiff, Nat.reduceLT, Nat.reduceLeDiff, reduceCtorEq, Bool.false_eq_true, Bool.not_true, Bool.not_false, and_self, Nat.le_refl, ti67, ti65, el65, ti73, ti71, ti3, ti70, ti9, ti2, ti68, fl67_0, fl67_1, fl67_2, fl67_3, fl73_0, fl73_1, fl73_2, fl73_3, fl70_0, fl70_1, fl70_2, fl70_3, fl70_4, resE_fw, resB_fw, resD_fw, encA_fw, enc_take, Tm.fw, Val.fw, List.take_zero, List.append_nil] <;> rfl) ?_
  refine awp_cond (by simp only [fw0, fw1, fw2, fw3, fw4, fw5, fw6, fw7, ↓reduceIte, Nat.reduceAdd, Nat.reduceMul, Nat.reduceEqDiff, Nat.reduceLT, Nat.reduceLeDiff, reduceCtorEq, Bool.false_eq_true, Bool.not_true, Bool.not_false, and_self, Nat.le_refl] <;> rfl) ?_
  by_cases h0 : a.v.n = 0
  · simp only [h0, decide_true, ↓reduceIte]
    have hr : tailR rn t env a = ⟨1, wholeV 0, a.c, a.f⟩ := by simp only [tailR, if_pos h1, if_pos h0]
    refine awp_seq ?_
    -- region 4
    refine awp_region rfl ?_
    refine aops_run 1 (by simp only [fw0, fw1, fw2, fw3, fw4, fw5, fw6, fw7, ↓reduceIte, Nat.reduceAdd, Nat.reduceMul, Nat.reduceEqDiff, Nat.reduceLT, Nat.reduceLeDiff, reduceCtorEq, Bool.false_eq_true, Bool.not_true, Bool.not_false, and_self, Nat.le_refl, ti67, ti65, el65, ti73, ti71, ti3, ti70, ti9, ti2, ti68, fl67_0, fl67_1, fl67_2, fl67_3, fl73_0, fl73_1, fl73_2, fl73_3, fl70_0, fl70_1, fl70_2, fl70_3, fl70_4, resE_fw, resB_fw, resD_fw, encA_fw, enc_take, Tm.fw, Val.fw, List.take_zero, List.append_nil] <;> rfl) ?_
    refine aops_fn rfl rfl rfl en45 (c45 Γ a 0) ?_
    refine aops_run 1 (by simp only [fw0, fw1, fw2, fw3, fw4, fw5, fw6, fw7, ↓reduceIte, Nat.reduceAdd, Nat.reduceMul, Nat.reduceEqDiff, Nat.reduceLT, Nat.reduceLeDiff, reduceCtorEq, Bool.false_eq_true, Bool.not_true, Bool.not_false, and_self, Nat.le_refl, ti67, ti65, el65, ti73, ti71, ti3, ti70, ti9, ti2, ti68, fl67_0, fl67_1, fl67_2, fl67_3, fl73_0, fl73_1, fl73_2, fl73_3, fl70_0, fl70_1, fl70_2, fl70_3, fl70_4, resE_fw, resB_fw, resD_fw, encA_fw, enc_take, Tm.fw, Val.fw, List.take_zero, List.append_nil] <;> rfl) ?_
    refine awp_ret ?_
    refine gives_end (.inl rfl) _ ?_
    simp [ares, aresL, ares1, rd, ev, alook, aput, Tryd.f67, ti73, resE_fw, hr]
  simp only [h0, decide_false, Bool.false_eq_true, ↓reduceIte]
  refine awp_skip ?_
  refine awp_seq ?_
  -- region 5 drawn
  refine awp_drawn [0, 4, 0, 4, 0, 0, 4, 0, 4, 0, 3, 2] [0, 1, 3, 7, 0, 0, 32, 0, 128, 511, 0, 2047] mixed rfl (by kernel_rfl) ?_
  refine dops_run 9 (by simp only [fw0, fw1, fw2, fw3, fw4, fw5, fw6, fw7, ↓reduceIte, Nat.reduceAdd, Nat.reduceMul, Nat.reduceEqDiff, Nat.reduceLT, Nat.reduceLeDiff, reduceCtorEq, Bool.false_eq_true, Bool.not_true, Bool.not_false, and_self, Nat.le_refl, ti67, ti65, el65, ti73, ti71, ti3, ti70, ti9, ti2, ti68, fl67_0, fl67_1, fl67_2, fl67_3, fl73_0, fl73_1, fl73_2, fl73_3, fl70_0, fl70_1, fl70_2, fl70_3, fl70_4, resE_fw, resB_fw, resD_fw, encA_fw, enc_take, Tm.fw, Val.fw, List.take_zero, List.append_nil, List.take_length, Int.reduceToNat, Int.reduceLE, true_and, List.getElem?_map, kid_get hk, Option.map_some] <;> rfl) ?_
  refine dops_fn rfl rfl rfl rfl en23 (hT.at hn (kid t 1) hf hB he hc) ?_
  refine dops_make1 rfl rfl (by simp only [fw0, fw1, fw2, fw3, fw4, fw5, fw6, fw7, ↓reduceIte, Nat.reduceAdd, Nat.reduceMul, Nat.reduceEqDiff, Nat.reduceLT, Nat.reduceLeDiff, reduceCtorEq, Bool.false_eq_true, Bool.not_true, Bool.not_false, and_self, Nat.le_refl, ti67, ti65, el65, ti73, ti71, ti3, ti70, ti9, ti2, ti68, fl67_0, fl67_1, fl67_2, fl67_3, fl73_0, fl73_1, fl73_2, fl73_3, fl70_0, fl70_1, fl70_2, fl70_3, fl70_4, resE_fw, resB_fw, resD_fw, encA_fw, enc_take, Tm.fw, Val.fw, List.take_zero, List.append_nil] <;> rfl) (by simp [View.vw, List.take_append]) ?_
  refine dops_run 1 (by simp only [fw0, fw1, fw2, fw3, fw4, fw5, fw6, fw7, ↓reduceIte, Nat.reduceAdd, Nat.reduceMul, Nat.reduceEqDiff, Nat.reduceLT, Nat.reduceLeDiff, reduceCtorEq, Bool.false_eq_true, Bool.not_true, Bool.not_false, and_self, Nat.le_refl, ti67, ti65, el65, ti73, ti71, ti3, ti70, ti9, ti2, ti68, fl67_0, fl67_1, fl67_2, fl67_3, fl73_0, fl73_1, fl73_2, fl73_3, fl70_0, fl70_1, fl70_2, fl70_3, fl70_4, resE_fw, resB_fw, resD_fw, encA_fw, enc_take, Tm.fw, Val.fw, List.take_zero, List.append_nil] <;> rfl) ?_
  refine dops_end ?_
  obtain ⟨hb, hb'⟩ := hI (kid t 1) env a.c a.f hf hB he
  have hbp := hb.pos hf0
  have hbl := hb.le
  have hbc := hb.c
  refine awp_seq ?_
  refine awp_seq ?_
  have hr : tailR rn t env a = (if (rn (kid t 1) env a.c a.f).st = 1 then rn t env (rn (kid t 1) env a.c a.f).c (rn (kid t 1) env a.c a.f).f else rn (kid t 1) env a.c a.f) := by simp only [tailR, if_pos h1, if_neg h0]
  generalize rn (kid t 1) env a.c a.f = b at hb hb' hbp hbl hbc hr ⊢
  -- region 6
  refine awp_run rfl (by simp only [fw0, fw1, fw2, fw3, fw4, fw5, fw6, fw7, ↓reduceIte, Nat.reduceAdd, Nat.reduceMul, Nat.reduceEqDiff, Nat.reduceLT, Nat.reduceLeDiff, reduceCtorEq, Bool.false_eq_true, Bool.not_true, Bool.not_false, and_self, Nat.le_refl, ti67, ti65, el65, ti73, ti71, ti3, ti70, ti9, ti2, ti68, fl67_0, fl67_1, fl67_2, fl67_3, fl73_0, fl73_1, fl73_2, fl73_3, fl70_0, fl70_1, fl70_2, fl70_3, fl70_4, resE_fw, resB_fw, resD_fw, encA_fw, enc_take, Tm.fw, Val.fw, List.take_zero, List.append_nil] <;> rfl) ?_
  refine awp_cond (by simp only [fw0, fw1, fw2, fw3, fw4, fw5, fw6, fw7, ↓reduceIte, Nat.reduceAdd, Nat.reduceMul, Nat.reduceEqDiff, Nat.reduceLT, Nat.reduceLeDiff, reduceCtorEq, Bool.false_eq_true, Bool.not_true, Bool.not_false, and_self, Nat.le_refl] <;> rfl) ?_
  by_cases hst : b.st = 1
  rotate_left
  · simp only [hst, decide_false, Bool.not_false, ↓reduceIte]
    rw [if_neg hst] at hr
    refine awp_seq ?_
    -- region 7
    refine awp_run rfl (by simp only [fw0, fw1, fw2, fw3, fw4, fw5, fw6, fw7, ↓reduceIte, Nat.reduceAdd, Nat.reduceMul, Nat.reduceEqDiff, Nat.reduceLT, Nat.reduceLeDiff, reduceCtorEq, Bool.false_eq_true, Bool.not_true, Bool.not_false, and_self, Nat.le_refl, ti67, ti65, el65, ti73, ti71, ti3, ti70, ti9, ti2, ti68, fl67_0, fl67_1, fl67_2, fl67_3, fl73_0, fl73_1, fl73_2, fl73_3, fl70_0, fl70_1, fl70_2, fl70_3, fl70_4, resE_fw, resB_fw, resD_fw, encA_fw, enc_take, Tm.fw, Val.fw, List.take_zero, List.append_nil] <;> rfl) ?_
    refine awp_ret ?_
    refine gives_end (.inl rfl) _ ?_
    simp [ares, aresL, ares1, rd, ev, alook, aput, Tryd.f67, ti73, resE_fw, hr]
  simp only [hst, decide_true, Bool.not_true, Bool.false_eq_true, ↓reduceIte]
  rw [if_pos hst] at hr
  refine awp_skip ?_
  refine awp_seq ?_
  -- region 8
  refine awp_region rfl ?_
  refine aops_run 6 (by simp only [fw0, fw1, fw2, fw3, fw4, fw5, fw6, fw7, ↓reduceIte, Nat.reduceAdd, Nat.reduceMul, Nat.reduceEqDiff, Nat.reduceLT, Nat.reduceLeDiff, reduceCtorEq, Bool.false_eq_true, Bool.not_true, Bool.not_false, and_self, Nat.le_refl, ti67, ti65, el65, ti73, ti71, ti3, ti70, ti9, ti2, ti68, fl67_0, fl67_1, fl67_2, fl67_3, fl73_0, fl73_1, fl73_2, fl73_3, fl70_0, fl70_1, fl70_2, fl70_3, fl70_4, resE_fw, resB_fw, resD_fw, encA_fw, enc_take, Tm.fw, Val.fw, List.take_zero, List.append_nil] <;> rfl) ?_
  refine aops_fn rfl rfl rfl en23 (hT.at hn t (by omega) (by omega) (EL_mono (by omega) he) (by rw [hbc]; exact hc)) ?_
  refine aops_run 1 (by simp only [fw0, fw1, fw2, fw3, fw4, fw5, fw6, fw7, ↓reduceIte, Nat.reduceAdd, Nat.reduceMul, Nat.reduceEqDiff, Nat.reduceLT, Nat.reduceLeDiff, reduceCtorEq, Bool.false_eq_true, Bool.not_true, Bool.not_false, and_self, Nat.le_refl, ti67, ti65, el65, ti73, ti71, ti3, ti70, ti9, ti2, ti68, fl67_0, fl67_1, fl67_2, fl67_3, fl73_0, fl73_1, fl73_2, fl73_3, fl70_0, fl70_1, fl70_2, fl70_3, fl70_4, resE_fw, resB_fw, resD_fw, encA_fw, enc_take, Tm.fw, Val.fw, List.take_zero, List.append_nil] <;> rfl) ?_
  refine awp_ret ?_
  refine gives_end (.inl rfl) _ ?_
  simp [ares, aresL, ares1, rd, ev, alook, aput, Tryd.f67, ti73, resE_fw, hr]

end Go.Proofs.YtnjlfbefpoecpaaDoor

/- The document's run: what stands behind both kids. -/
namespace Go.Proofs.YtnjlfbefpoecpaaDoor
set_option linter.unusedVariables false
set_option linter.unusedSimpArgs false
set_option maxRecDepth 100000
open Go.RowKit Fw

/-- chancelref19.two -/
theorem c69 (Γ : Nat → PV) {B n : Nat} {rn : Runner} (hT : EvC Γ B n rn) (hn : n ≤ 100000) (hB : B * 128 ≤ reachBytes) (t : Tm) (a : Val) (b : Res) (hb : b.st = 1) (hf : b.f ≤ n) (hf0 : 0 ≤ b.f) (hfB : b.f.toNat + 1 ≤ B) (ha : Val.EB (B - (b.f.toNat + 1)) a) (hv : Val.EB (B - b.f.toNat) b.v) (hc : b.c.length * 24 ≤ reachBytes) :
    Gives Tryd.prog Γ 69 [.agg t.enc, .agg a.enc, .agg (resE b)] (.agg (resE (bothR rn t a b.v b.c b.f))) := by
  refine fn_of_awp Tryd.func69 rfl (by simp [Tryd.f69]) (by simp [PV.plain, PV.bd, resE_fw]) fun H => ?_
  refine awp_seq ?_
  -- region 0
  refine awp_run rfl (by simp only [fw0, fw1, fw2, fw3, fw4, fw5, fw6, fw7, ↓reduceIte, Nat.reduceAdd, Nat.reduceMul, Nat.reduceEqDiff, Nat.reduceLT, Nat.reduceLeDiff, reduceCtorEq, Bool.false_eq_true, Bool.not_true, Bool.not_false, and_self, Nat.le_refl, ti67, ti65, el65, ti73, ti71, ti3, ti70, ti9, ti2, ti68, fl67_0, fl67_1, fl67_2, fl67_3, fl73_0, fl73_1, fl73_2, fl73_3, fl70_0, fl70_1, fl70_2, fl70_3, fl70_4, resE_fw, resB_fw, resD_fw, encA_fw, enc_take, Tm.fw, Val.fw, List.take_zero, List.append_nil] <;> rfl) ?_
  refine awp_seq ?_
  refine awp_seq ?_
  -- region 1
  refine awp_run rfl (by simp only [fw0, fw1, fw2, fw3, fw4, fw5, fw6, fw7, ↓reduceIte, Nat.reduceAdd, Nat.reduceMul, Nat.reduceEqDiff, Nat.reduceLT, Nat.reduceLeDiff, reduceCtorEq, Bool.false_eq_true, Bool.not_true, Bool.not_false, and_self, Nat.le_refl, ti67, ti65, el65, ti73, ti71, ti3, ti70, ti9, ti2, ti68, fl67_0, fl67_1, fl67_2, fl67_3, fl73_0, fl73_1, fl73_2, fl73_3, fl70_0, fl70_1, fl70_2, fl70_3, fl70_4, resE_fw, resB_fw, resD_fw, encA_fw, enc_take, Tm.fw, Val.fw, List.take_zero, List.append_nil] <;> rfl) ?_
  refine awp_block ?_
  refine awp_seq ?_
  -- region 2
  refine awp_run rfl (by simp only [fw0, fw1, fw2, fw3, fw4, fw5, fw6, fw7, ↓reduceIte, Nat.reduceAdd, Nat.reduceMul, Nat.reduceEqDiff, Nat.reduceLT, Nat.reduceLeDiff, reduceCtorEq, Bool.false_eq_true, Bool.not_true, Bool.not_false, and_self, Nat.le_refl] <;> rfl) ?_
  refine awp_cond (by simp only [fw0, fw1, fw2, fw3, fw4, fw5, fw6, fw7, ↓reduceIte, Nat.reduceAdd, Nat.reduceMul, Nat.reduceEqDiff, Nat.reduceLT, Nat.reduceLeDiff, reduceCtorEq, Bool.false_eq_true, Bool.not_true, Bool.not_false, and_self, Nat.le_refl] <;> rfl) ?_
  by_cases k4 : t.kind = 4
  · simp only [k4, decide_true, ↓reduceIte]
    refine awp_seq ?_
    refine awp_seq ?_
    -- region 3
    refine awp_run rfl (by simp only [fw0, fw1, fw2, fw3, fw4, fw5, fw6, fw7, ↓reduceIte, Nat.reduceAdd, Nat.reduceMul, Nat.reduceEqDiff, Nat.reduceLT, Nat.reduceLeDiff, reduceCtorEq, Bool.false_eq_true, Bool.not_true, Bool.not_false, and_self, Nat.le_refl, ti67, ti65, el65, ti73, ti71, ti3, ti70, ti9, ti2, ti68, fl67_0, fl67_1, fl67_2, fl67_3, fl73_0, fl73_1, fl73_2, fl73_3, fl70_0, fl70_1, fl70_2, fl70_3, fl70_4, resE_fw, resB_fw, resD_fw, encA_fw, enc_take, Tm.fw, Val.fw, List.take_zero, List.append_nil] <;> rfl) ?_
    refine awp_cond (by simp only [fw0, fw1, fw2, fw3, fw4, fw5, fw6, fw7, ↓reduceIte, Nat.reduceAdd, Nat.reduceMul, Nat.reduceEqDiff, Nat.reduceLT, Nat.reduceLeDiff, reduceCtorEq, Bool.false_eq_true, Bool.not_true, Bool.not_false, and_self, Nat.le_refl] <;> rfl) ?_
    by_cases h3 : a.kind = 3
    · simp only [h3, decide_true, Bool.not_true, Bool.false_eq_true, ↓reduceIte]
      refine awp_skip ?_
      refine awp_seq ?_
      have hr : bothR rn t a b.v b.c b.f = rn a.t (a.env ++ [.mk a.name b.v]) b.c b.f := by simp only [bothR, if_pos k4, if_pos h3]
      -- region 5 drawn
      refine awp_drawn [0, 1, 0, 1, 0, 1, 0, 1, 0, 0, 1, 0, 1, 0, 2] [0, 1, 0, 4, 0, 16, 0, 64, 252, 0, 512, 0, 2048, 8191, 16383] mixed rfl (by kernel_rfl) ?_
      refine dops_run 8 (by simp only [fw0, fw1, fw2, fw3, fw4, fw5, fw6, fw7, ↓reduceIte, Nat.reduceAdd, Nat.reduceMul, Nat.reduceEqDiff, Nat.reduceLT, Nat.reduceLeDiff, reduceCtorEq, Bool.false_eq_true, Bool.not_true, Bool.not_false, and_self, Nat.le_refl, ti67, ti65, el65, ti73, ti71, ti3, ti70, ti9, ti2, ti68, fl67_0, fl67_1, fl67_2, fl67_3, fl73_0, fl73_1, fl73_2, fl73_3, fl70_0, fl70_1, fl70_2, fl70_3, fl70_4, resE_fw, resB_fw, resD_fw, encA_fw, enc_take, Tm.fw, Val.fw, List.take_zero, List.append_nil] <;> rfl) ?_
      refine dops_fn rfl rfl rfl rfl en48 (c48 Γ a.env a.name b.v (by have := (EB_env ha).1; omega)) ?_
      refine dops_run 4 (by simp only [fw0, fw1, fw2, fw3, fw4, fw5, fw6, fw7, ↓reduceIte, Nat.reduceAdd, Nat.reduceMul, Nat.reduceEqDiff, Nat.reduceLT, Nat.reduceLeDiff, reduceCtorEq, Bool.false_eq_true, Bool.not_true, Bool.not_false, and_self, Nat.le_refl, ti67, ti65, el65, ti73, ti71, ti3, ti70, ti9, ti2, ti68, fl67_0, fl67_1, fl67_2, fl67_3, fl73_0, fl73_1, fl73_2, fl73_3, fl70_0, fl70_1, fl70_2, fl70_3, fl70_4, resE_fw, resB_fw, resD_fw, encA_fw, enc_take, Tm.fw, Val.fw, List.take_zero, List.append_nil] <;> rfl) ?_
      refine dops_fn rfl rfl rfl rfl en23 (hT.at hn a.t hf (by omega) (EL_bind (EB_env ha) (by omega) hv _) hc) ?_
      refine dops_run 1 (by simp only [fw0, fw1, fw2, fw3, fw4, fw5, fw6, fw7, ↓reduceIte, Nat.reduceAdd, Nat.reduceMul, Nat.reduceEqDiff, Nat.reduceLT, Nat.reduceLeDiff, reduceCtorEq, Bool.false_eq_true, Bool.not_true, Bool.not_false, and_self, Nat.le_refl, ti67, ti65, el65, ti73, ti71, ti3, ti70, ti9, ti2, ti68, fl67_0, fl67_1, fl67_2, fl67_3, fl73_0, fl73_1, fl73_2, fl73_3, fl70_0, fl70_1, fl70_2, fl70_3, fl70_4, resE_fw, resB_fw, resD_fw, encA_fw, enc_take, Tm.fw, Val.fw, List.take_zero, List.append_nil] <;> rfl) ?_
      refine dops_end ?_
      refine awp_ret ?_
      refine gives_end (.inl rfl) _ ?_
      simp [ares, aresL, ares1, rd, ev, alook, aput, Tryd.f69, ti73, resE_fw, hr]
    · simp only [h3, decide_false, Bool.not_false, ↓reduceIte]
      have hr : bothR rn t a b.v b.c b.f = stuckR b.c b.f := by simp only [bothR, if_pos k4, if_neg h3]
      refine awp_seq ?_
      -- region 4
      refine awp_region rfl ?_
      refine aops_run 1 (by simp only [fw0, fw1, fw2, fw3, fw4, fw5, fw6, fw7, ↓reduceIte, Nat.reduceAdd, Nat.reduceMul, Nat.reduceEqDiff, Nat.reduceLT, Nat.reduceLeDiff, reduceCtorEq, Bool.false_eq_true, Bool.not_true, Bool.not_false, and_self, Nat.le_refl, ti67, ti65, el65, ti73, ti71, ti3, ti70, ti9, ti2, ti68, fl67_0, fl67_1, fl67_2, fl67_3, fl73_0, fl73_1, fl73_2, fl73_3, fl70_0, fl70_1, fl70_2, fl70_3, fl70_4, resE_fw, resB_fw, resD_fw, encA_fw, enc_take, Tm.fw, Val.fw, List.take_zero, List.append_nil] <;> rfl) ?_
      refine aops_fn rfl rfl rfl en44 (c44 Γ b) ?_
      refine aops_run 1 (by simp only [fw0, fw1, fw2, fw3, fw4, fw5, fw6, fw7, ↓reduceIte, Nat.reduceAdd, Nat.reduceMul, Nat.reduceEqDiff, Nat.reduceLT, Nat.reduceLeDiff, reduceCtorEq, Bool.false_eq_true, Bool.not_true, Bool.not_false, and_self, Nat.le_refl, ti67, ti65, el65, ti73, ti71, ti3, ti70, ti9, ti2, ti68, fl67_0, fl67_1, fl67_2, fl67_3, fl73_0, fl73_1, fl73_2, fl73_3, fl70_0, fl70_1, fl70_2, fl70_3, fl70_4, resE_fw, resB_fw, resD_fw, encA_fw, enc_take, Tm.fw, Val.fw, List.take_zero, List.append_nil] <;> rfl) ?_
      refine awp_ret ?_
      refine gives_end (.inl rfl) _ ?_
      simp [ares, aresL, ares1, rd, ev, alook, aput, Tryd.f69, ti73, resE_fw, hr]
  simp only [k4, decide_false, Bool.false_eq_true, ↓reduceIte]
  refine awp_seq ?_
  -- region 6
  refine awp_run rfl (by simp only [fw0, fw1, fw2, fw3, fw4, fw5, fw6, fw7, ↓reduceIte, Nat.reduceAdd, Nat.reduceMul, Nat.reduceEqDiff, Nat.reduceLT, Nat.reduceLeDiff, reduceCtorEq, Bool.false_eq_true, Bool.not_true, Bool.not_false, and_self, Nat.le_refl] <;> rfl) ?_
  refine awp_cond (by simp only [fw0, fw1, fw2, fw3, fw4, fw5, fw6, fw7, ↓reduceIte, Nat.reduceAdd, Nat.reduceMul, Nat.reduceEqDiff, Nat.reduceLT, Nat.reduceLeDiff, reduceCtorEq, Bool.false_eq_true, Bool.not_true, Bool.not_false, and_self, Nat.le_refl] <;> rfl) ?_
  by_cases k11 : t.kind = 11
  · simp only [k11, decide_true, ↓reduceIte]
    refine awp_seq ?_
    -- region 7
    refine awp_region rfl ?_
    refine aops_run 7 (by simp only [fw0, fw1, fw2, fw3, fw4, fw5, fw6, fw7, ↓reduceIte, Nat.reduceAdd, Nat.reduceMul, Nat.reduceEqDiff, Nat.reduceLT, Nat.reduceLeDiff, reduceCtorEq, Bool.false_eq_true, Bool.not_true, Bool.not_false, and_self, Nat.le_refl, ti67, ti65, el65, ti73, ti71, ti3, ti70, ti9, ti2, ti68, fl67_0, fl67_1, fl67_2, fl67_3, fl73_0, fl73_1, fl73_2, fl73_3, fl70_0, fl70_1, fl70_2, fl70_3, fl70_4, resE_fw, resB_fw, resD_fw, encA_fw, enc_take, Tm.fw, Val.fw, List.take_zero, List.append_nil] <;> rfl) ?_
    refine aops_fn rfl rfl rfl en76 (c76 Γ b.c a.name b.v.n hc) ?_
    refine aops_run 5 (by simp only [fw0, fw1, fw2, fw3, fw4, fw5, fw6, fw7, ↓reduceIte, Nat.reduceAdd, Nat.reduceMul, Nat.reduceEqDiff, Nat.reduceLT, Nat.reduceLeDiff, reduceCtorEq, Bool.false_eq_true, Bool.not_true, Bool.not_false, and_self, Nat.le_refl, writeP] <;> rfl) ?_
    have hres : bothR rn t a b.v b.c b.f = (if (writeV b.c a.name b.v.n).isSome = true ∧ a.kind = 2 ∧ b.v.kind = 1 then ⟨1, wholeV 0, (writeV b.c a.name b.v.n).getD b.c, b.f⟩ else stuckR b.c b.f) := by simp only [bothR, if_neg k4, if_pos k11]
    generalize (writeV b.c a.name b.v.n).isSome = ok at hres ⊢
    generalize (writeV b.c a.name b.v.n).getD b.c = cc at hres ⊢
    refine awp_seq ?_
    refine awp_seq ?_
    -- region 8
    by_cases h2 : a.kind = 2
    rotate_left
    · have hr : bothR rn t a b.v b.c b.f = stuckR b.c b.f := by rw [hres, if_neg (fun h => h2 h.2.1)]
      refine awp_run rfl (by simp only [fw0, fw1, fw2, fw3, fw4, fw5, fw6, fw7, ↓reduceIte, Nat.reduceAdd, Nat.reduceMul, Nat.reduceEqDiff, Nat.reduceLT, Nat.reduceLeDiff, reduceCtorEq, Bool.false_eq_true, Bool.not_true, Bool.not_false, and_self, Nat.le_refl, ti67, ti65, el65, ti73, ti71, ti3, ti70, ti9, ti2, ti68, fl67_0, fl67_1, fl67_2, fl67_3, fl73_0, fl73_1, fl73_2, fl73_3, fl70_0, fl70_1, fl70_2, fl70_3, fl70_4, resE_fw, resB_fw, resD_fw, encA_fw, enc_take, Tm.fw, Val.fw, List.take_zero, List.append_nil, h2, decide_false, Bool.not_false] <;> rfl) ?_
      refine awp_cond (b := true) rfl ?_
      refine awp_seq ?_
      -- region 9
      refine awp_region rfl ?_
      refine aops_run 1 (by simp only [fw0, fw1, fw2, fw3, fw4, fw5, fw6, fw7, ↓reduceIte, Nat.reduceAdd, Nat.reduceMul, Nat.reduceEqDiff, Nat.reduceLT, Nat.reduceLeDiff, reduceCtorEq, Bool.false_eq_true, Bool.not_true, Bool.not_false, and_self, Nat.le_refl, ti67, ti65, el65, ti73, ti71, ti3, ti70, ti9, ti2, ti68, fl67_0, fl67_1, fl67_2, fl67_3, fl73_0, fl73_1, fl73_2, fl73_3, fl70_0, fl70_1, fl70_2, fl70_3, fl70_4, resE_fw, resB_fw, resD_fw, encA_fw, enc_take, Tm.fw, Val.fw, List.take_zero, List.append_nil] <;> rfl) ?_
      refine aops_fn rfl rfl rfl en44 (c44 Γ b) ?_
      refine aops_run 1 (by simp only [fw0, fw1, fw2, fw3, fw4, fw5, fw6, fw7, ↓reduceIte, Nat.reduceAdd, Nat.reduceMul, Nat.reduceEqDiff, Nat.reduceLT, Nat.reduceLeDiff, reduceCtorEq, Bool.false_eq_true, Bool.not_true, Bool.not_false, and_self, Nat.le_refl, ti67, ti65, el65, ti73, ti71, ti3, ti70, ti9, ti2, ti68, fl67_0, fl67_1, fl67_2, fl67_3, fl73_0, fl73_1, fl73_2, fl73_3, fl70_0, fl70_1, fl70_2, fl70_3, fl70_4, resE_fw, resB_fw, resD_fw, encA_fw, enc_take, Tm.fw, Val.fw, List.take_zero, List.append_nil] <;> rfl) ?_
      refine awp_ret ?_
      refine gives_end (.inl rfl) _ ?_
      simp [ares, aresL, ares1, rd, ev, alook, aput, Tryd.f69, ti73, resE_fw, hr]
    refine awp_region rfl ?_
    refine aops_run 5 (by simp only [fw0, fw1, fw2, fw3, fw4, fw5, fw6, fw7, ↓reduceIte, Nat.reduceAdd, Nat.reduceMul, Nat.reduceEqDiff, Nat.reduceLT, Nat.reduceLeDiff, reduceCtorEq, Bool.false_eq_true, Bool.not_true, Bool.not_false, and_self, Nat.le_refl, ti67, ti65, el65, ti73, ti71, ti3, ti70, ti9, ti2, ti68, fl67_0, fl67_1, fl67_2, fl67_3, fl73_0, fl73_1, fl73_2, fl73_3, fl70_0, fl70_1, fl70_2, fl70_3, fl70_4, resE_fw, resB_fw, resD_fw, encA_fw, enc_take, Tm.fw, Val.fw, List.take_zero, List.append_nil, h2, decide_true, Bool.not_true] <;> rfl) ?_
    refine aops_fnIf rfl rfl rfl rfl rfl en66 (c66 Γ b) ?_
    by_cases h5 : b.v.kind = 1
    rotate_left
    · have hr : bothR rn t a b.v b.c b.f = stuckR b.c b.f := by rw [hres, if_neg (fun h => h5 h.2.2)]
      refine aops_run 6 (by simp only [fw0, fw1, fw2, fw3, fw4, fw5, fw6, fw7, ↓reduceIte, Nat.reduceAdd, Nat.reduceMul, Nat.reduceEqDiff, Nat.reduceLT, Nat.reduceLeDiff, reduceCtorEq, Bool.false_eq_true, Bool.not_true, Bool.not_false, and_self, Nat.le_refl, hb, h5, decide_true, decide_false, Bool.and_false, Bool.not_false] <;> rfl) ?_
      refine awp_cond (b := true) rfl ?_
      refine awp_seq ?_
      -- region 9
      refine awp_region rfl ?_
      refine aops_run 1 (by simp only [fw0, fw1, fw2, fw3, fw4, fw5, fw6, fw7, ↓reduceIte, Nat.reduceAdd, Nat.reduceMul, Nat.reduceEqDiff, Nat.reduceLT, Nat.reduceLeDiff, reduceCtorEq, Bool.false_eq_true, Bool.not_true, Bool.not_false, and_self, Nat.le_refl, ti67, ti65, el65, ti73, ti71, ti3, ti70, ti9, ti2, ti68, fl67_0, fl67_1, fl67_2, fl67_3, fl73_0, fl73_1, fl73_2, fl73_3, fl70_0, fl70_1, fl70_2, fl70_3, fl70_4, resE_fw, resB_fw, resD_fw, encA_fw, enc_take, Tm.fw, Val.fw, List.take_zero, List.append_nil] <;> rfl) ?_
      refine aops_fn rfl rfl rfl en44 (c44 Γ b) ?_
      refine aops_run 1 (by simp only [fw0, fw1, fw2, fw3, fw4, fw5, fw6, fw7, ↓reduceIte, Nat.reduceAdd, Nat.reduceMul, Nat.reduceEqDiff, Nat.reduceLT, Nat.reduceLeDiff, reduceCtorEq, Bool.false_eq_true, Bool.not_true, Bool.not_false, and_self, Nat.le_refl, ti67, ti65, el65, ti73, ti71, ti3, ti70, ti9, ti2, ti68, fl67_0, fl67_1, fl67_2, fl67_3, fl73_0, fl73_1, fl73_2, fl73_3, fl70_0, fl70_1, fl70_2, fl70_3, fl70_4, resE_fw, resB_fw, resD_fw, encA_fw, enc_take, Tm.fw, Val.fw, List.take_zero, List.append_nil] <;> rfl) ?_
      refine awp_ret ?_
      refine gives_end (.inl rfl) _ ?_
      simp [ares, aresL, ares1, rd, ev, alook, aput, Tryd.f69, ti73, resE_fw, hr]
    refine aops_run 6 (by simp only [fw0, fw1, fw2, fw3, fw4, fw5, fw6, fw7, ↓reduceIte, Nat.reduceAdd, Nat.reduceMul, Nat.reduceEqDiff, Nat.reduceLT, Nat.reduceLeDiff, reduceCtorEq, Bool.false_eq_true, Bool.not_true, Bool.not_false, and_self, Nat.le_refl, hb, h5, decide_true, Bool.and_self, Bool.not_true] <;> rfl) ?_
    cases ok with
    | false =>
      have hr : bothR rn t a b.v b.c b.f = stuckR b.c b.f := by rw [hres, if_neg (fun h => by cases h.1)]
      refine awp_cond (b := true) rfl ?_
      refine awp_seq ?_
      -- region 9
      refine awp_region rfl ?_
      refine aops_run 1 (by simp only [fw0, fw1, fw2, fw3, fw4, fw5, fw6, fw7, ↓reduceIte, Nat.reduceAdd, Nat.reduceMul, Nat.reduceEqDiff, Nat.reduceLT, Nat.reduceLeDiff, reduceCtorEq, Bool.false_eq_true, Bool.not_true, Bool.not_false, and_self, Nat.le_refl, ti67, ti65, el65, ti73, ti71, ti3, ti70, ti9, ti2, ti68, fl67_0, fl67_1, fl67_2, fl67_3, fl73_0, fl73_1, fl73_2, fl73_3, fl70_0, fl70_1, fl70_2, fl70_3, fl70_4, resE_fw, resB_fw, resD_fw, encA_fw, enc_take, Tm.fw, Val.fw, List.take_zero, List.append_nil] <;> rfl) ?_
      refine aops_fn rfl rfl rfl en44 (c44 Γ b) ?_
      refine aops_run 1 (by simp only [fw0, fw1, fw2, fw3, fw4, fw5, fw6, fw7, ↓reduceIte, Nat.reduceAdd, Nat.reduceMul, Nat.reduceEqDiff, Nat.reduceLT, Nat.reduceLeDiff, reduceCtorEq, Bool.false_eq_true, Bool.not_true, Bool.not_false, and_self, Nat.le_refl, ti67, ti65, el65, ti73, ti71, ti3, ti70, ti9, ti2, ti68, fl67_0, fl67_1, fl67_2, fl67_3, fl73_0, fl73_1, fl73_2, fl73_3, fl70_0, fl70_1, fl70_2, fl70_3, fl70_4, resE_fw, resB_fw, resD_fw, encA_fw, enc_take, Tm.fw, Val.fw, List.take_zero, List.append_nil] <;> rfl) ?_
      refine awp_ret ?_
      refine gives_end (.inl rfl) _ ?_
      simp [ares, aresL, ares1, rd, ev, alook, aput, Tryd.f69, ti73, resE_fw, hr]
    | true =>
      have hr : bothR rn t a b.v b.c b.f = ⟨1, wholeV 0, cc, b.f⟩ := by rw [hres, if_pos ⟨rfl, h2, h5⟩]
      refine awp_cond (b := false) rfl ?_
      refine awp_skip ?_
      refine awp_seq ?_
      -- region 10
      refine awp_run rfl (by simp only [fw0, fw1, fw2, fw3, fw4, fw5, fw6, fw7, ↓reduceIte, Nat.reduceAdd, Nat.reduceMul, Nat.reduceEqDiff, Nat.reduceLT, Nat.reduceLeDiff, reduceCtorEq, Bool.false_eq_true, Bool.not_true, Bool.not_false, and_self, Nat.le_refl, ti67, ti65, el65, ti73, ti71, ti3, ti70, ti9, ti2, ti68, fl67_0, fl67_1, fl67_2, fl67_3, fl73_0, fl73_1, fl73_2, fl73_3, fl70_0, fl70_1, fl70_2, fl70_3, fl70_4, resE_fw, resB_fw, resD_fw, encA_fw, enc_take, Tm.fw, Val.fw, List.take_zero, List.append_nil] <;> rfl) ?_
      have hspl : List.take 9 (resE b) ++ PV.vec (cc.map Sl.enc) false :: List.drop 10 (resE b) = resE ⟨b.st, b.v, cc, b.f⟩ := by
        simp only [resE, List.take_succ_cons, List.drop_succ_cons, enc_take b.v _ 0, enc_drop b.v _ 1, List.take_zero, List.append_nil, List.drop_zero, List.cons_append]
      refine awp_heap (H' := H ++ [.box t.enc, .box a.enc, .box (resE ⟨b.st, b.v, cc, b.f⟩), .box ([.int .i64 0] ++ zeroVP ++ [.vec [] true, .int .i64 0])]) (by rw [← hspl]; simp [resE_fw, zeroVP]) ?_
      refine awp_seq ?_
      -- region 11
      refine awp_region rfl ?_
      refine aops_run 1 (by simp only [fw0, fw1, fw2, fw3, fw4, fw5, fw6, fw7, ↓reduceIte, Nat.reduceAdd, Nat.reduceMul, Nat.reduceEqDiff, Nat.reduceLT, Nat.reduceLeDiff, reduceCtorEq, Bool.false_eq_true, Bool.not_true, Bool.not_false, and_self, Nat.le_refl, ti67, ti65, el65, ti73, ti71, ti3, ti70, ti9, ti2, ti68, fl67_0, fl67_1, fl67_2, fl67_3, fl73_0, fl73_1, fl73_2, fl73_3, fl70_0, fl70_1, fl70_2, fl70_3, fl70_4, resE_fw, resB_fw, resD_fw, encA_fw, enc_take, Tm.fw, Val.fw, List.take_zero, List.append_nil] <;> rfl) ?_
      refine aops_fn rfl rfl rfl en45 (c45 Γ ⟨b.st, b.v, cc, b.f⟩ 0) ?_
      refine aops_run 1 (by simp only [fw0, fw1, fw2, fw3, fw4, fw5, fw6, fw7, ↓reduceIte, Nat.reduceAdd, Nat.reduceMul, Nat.reduceEqDiff, Nat.reduceLT, Nat.reduceLeDiff, reduceCtorEq, Bool.false_eq_true, Bool.not_true, Bool.not_false, and_self, Nat.le_refl, ti67, ti65, el65, ti73, ti71, ti3, ti70, ti9, ti2, ti68, fl67_0, fl67_1, fl67_2, fl67_3, fl73_0, fl73_1, fl73_2, fl73_3, fl70_0, fl70_1, fl70_2, fl70_3, fl70_4, resE_fw, resB_fw, resD_fw, encA_fw, enc_take, Tm.fw, Val.fw, List.take_zero, List.append_nil] <;> rfl) ?_
      refine awp_ret ?_
      refine gives_end (.inl rfl) _ ?_
      simp [ares, aresL, ares1, rd, ev, alook, aput, Tryd.f69, ti73, resE_fw, hr]
  simp only [k11, decide_false, Bool.false_eq_true, ↓reduceIte]
  refine awp_skip ?_
  simp only [Post.block, Post.then]
  refine awp_seq ?_
  -- region 12
  refine awp_region rfl ?_
  refine aops_run 7 (by simp only [fw0, fw1, fw2, fw3, fw4, fw5, fw6, fw7, ↓reduceIte, Nat.reduceAdd, Nat.reduceMul, Nat.reduceEqDiff, Nat.reduceLT, Nat.reduceLeDiff, reduceCtorEq, Bool.false_eq_true, Bool.not_true, Bool.not_false, and_self, Nat.le_refl, ti67, ti65, el65, ti73, ti71, ti3, ti70, ti9, ti2, ti68, fl67_0, fl67_1, fl67_2, fl67_3, fl73_0, fl73_1, fl73_2, fl73_3, fl70_0, fl70_1, fl70_2, fl70_3, fl70_4, resE_fw, resB_fw, resD_fw, encA_fw, enc_take, Tm.fw, Val.fw, List.take_zero, List.append_nil] <;> rfl) ?_
  refine aops_fn rfl rfl rfl en77 (c77 Γ t.name a.n b.v.n) ?_
  refine aops_run 5 (by simp only [fw0, fw1, fw2, fw3, fw4, fw5, fw6, fw7, ↓reduceIte, Nat.reduceAdd, Nat.reduceMul, Nat.reduceEqDiff, Nat.reduceLT, Nat.reduceLeDiff, reduceCtorEq, Bool.false_eq_true, Bool.not_true, Bool.not_false, and_self, Nat.le_refl, doP] <;> rfl) ?_
  have hres : bothR rn t a b.v b.c b.f = (if (doV t.name a.n b.v.n).isSome = true ∧ a.kind = 1 ∧ b.v.kind = 1 then ⟨1, wholeV ((doV t.name a.n b.v.n).getD 0), b.c, b.f⟩ else stuckR b.c b.f) := by simp only [bothR, if_neg k4, if_neg k11]
  generalize (doV t.name a.n b.v.n).isSome = ok at hres ⊢
  generalize (doV t.name a.n b.v.n).getD 0 = nn at hres ⊢
  refine awp_seq ?_
  refine awp_seq ?_
  -- region 13
  by_cases h2 : a.kind = 1
  rotate_left
  · have hr : bothR rn t a b.v b.c b.f = stuckR b.c b.f := by rw [hres, if_neg (fun h => h2 h.2.1)]
    refine awp_run rfl (by simp only [fw0, fw1, fw2, fw3, fw4, fw5, fw6, fw7, ↓reduceIte, Nat.reduceAdd, Nat.reduceMul, Nat.reduceEqDiff, Nat.reduceLT, Nat.reduceLeDiff, reduceCtorEq, Bool.false_eq_true, Bool.not_true, Bool.not_false, and_self, Nat.le_refl, ti67, ti65, el65, ti73, ti71, ti3, ti70, ti9, ti2, ti68, fl67_0, fl67_1, fl67_2, fl67_3, fl73_0, fl73_1, fl73_2, fl73_3, fl70_0, fl70_1, fl70_2, fl70_3, fl70_4, resE_fw, resB_fw, resD_fw, encA_fw, enc_take, Tm.fw, Val.fw, List.take_zero, List.append_nil, h2, decide_false, Bool.not_false] <;> rfl) ?_
    refine awp_cond (b := true) rfl ?_
    refine awp_seq ?_
    -- region 14
    refine awp_region rfl ?_
    refine aops_run 1 (by simp only [fw0, fw1, fw2, fw3, fw4, fw5, fw6, fw7, ↓reduceIte, Nat.reduceAdd, Nat.reduceMul, Nat.reduceEqDiff, Nat.reduceLT, Nat.reduceLeDiff, reduceCtorEq, Bool.false_eq_true, Bool.not_true, Bool.not_false, and_self, Nat.le_refl, ti67, ti65, el65, ti73, ti71, ti3, ti70, ti9, ti2, ti68, fl67_0, fl67_1, fl67_2, fl67_3, fl73_0, fl73_1, fl73_2, fl73_3, fl70_0, fl70_1, fl70_2, fl70_3, fl70_4, resE_fw, resB_fw, resD_fw, encA_fw, enc_take, Tm.fw, Val.fw, List.take_zero, List.append_nil] <;> rfl) ?_
    refine aops_fn rfl rfl rfl en44 (c44 Γ b) ?_
    refine aops_run 1 (by simp only [fw0, fw1, fw2, fw3, fw4, fw5, fw6, fw7, ↓reduceIte, Nat.reduceAdd, Nat.reduceMul, Nat.reduceEqDiff, Nat.reduceLT, Nat.reduceLeDiff, reduceCtorEq, Bool.false_eq_true, Bool.not_true, Bool.not_false, and_self, Nat.le_refl, ti67, ti65, el65, ti73, ti71, ti3, ti70, ti9, ti2, ti68, fl67_0, fl67_1, fl67_2, fl67_3, fl73_0, fl73_1, fl73_2, fl73_3, fl70_0, fl70_1, fl70_2, fl70_3, fl70_4, resE_fw, resB_fw, resD_fw, encA_fw, enc_take, Tm.fw, Val.fw, List.take_zero, List.append_nil] <;> rfl) ?_
    refine awp_ret ?_
    refine gives_end (.inl rfl) _ ?_
    simp [ares, aresL, ares1, rd, ev, alook, aput, Tryd.f69, ti73, resE_fw, hr]
  refine awp_region rfl ?_
  refine aops_run 5 (by simp only [fw0, fw1, fw2, fw3, fw4, fw5, fw6, fw7, ↓reduceIte, Nat.reduceAdd, Nat.reduceMul, Nat.reduceEqDiff, Nat.reduceLT, Nat.reduceLeDiff, reduceCtorEq, Bool.false_eq_true, Bool.not_true, Bool.not_false, and_self, Nat.le_refl, ti67, ti65, el65, ti73, ti71, ti3, ti70, ti9, ti2, ti68, fl67_0, fl67_1, fl67_2, fl67_3, fl73_0, fl73_1, fl73_2, fl73_3, fl70_0, fl70_1, fl70_2, fl70_3, fl70_4, resE_fw, resB_fw, resD_fw, encA_fw, enc_take, Tm.fw, Val.fw, List.take_zero, List.append_nil, h2, decide_true, Bool.not_true] <;> rfl) ?_
  refine aops_fnIf rfl rfl rfl rfl rfl en66 (c66 Γ b) ?_
  by_cases h5 : b.v.kind = 1
  rotate_left
  · have hr : bothR rn t a b.v b.c b.f = stuckR b.c b.f := by rw [hres, if_neg (fun h => h5 h.2.2)]
    refine aops_run 6 (by simp only [fw0, fw1, fw2, fw3, fw4, fw5, fw6, fw7, ↓reduceIte, Nat.reduceAdd, Nat.reduceMul, Nat.reduceEqDiff, Nat.reduceLT, Nat.reduceLeDiff, reduceCtorEq, Bool.false_eq_true, Bool.not_true, Bool.not_false, and_self, Nat.le_refl, hb, h5, decide_true, decide_false, Bool.and_false, Bool.not_false] <;> rfl) ?_
    refine awp_cond (b := true) rfl ?_
    refine awp_seq ?_
    -- region 14
    refine awp_region rfl ?_
    refine aops_run 1 (by simp only [fw0, fw1, fw2, fw3, fw4, fw5, fw6, fw7, ↓reduceIte, Nat.reduceAdd, Nat.reduceMul, Nat.reduceEqDiff, Nat.reduceLT, Nat.reduceLeDiff, reduceCtorEq, Bool.false_eq_true, Bool.not_true, Bool.not_false, and_self, Nat.le_refl, ti67, ti65, el65, ti73, ti71, ti3, ti70, ti9, ti2, ti68, fl67_0, fl67_1, fl67_2, fl67_3, fl73_0, fl73_1, fl73_2, fl73_3, fl70_0, fl70_1, fl70_2, fl70_3, fl70_4, resE_fw, resB_fw, resD_fw, encA_fw, enc_take, Tm.fw, Val.fw, List.take_zero, List.append_nil] <;> rfl) ?_
    refine aops_fn rfl rfl rfl en44 (c44 Γ b) ?_
    refine aops_run 1 (by simp only [fw0, fw1, fw2, fw3, fw4, fw5, fw6, fw7, ↓reduceIte, Nat.reduceAdd, Nat.reduceMul, Nat.reduceEqDiff, Nat.reduceLT, Nat.reduceLeDiff, reduceCtorEq, Bool.false_eq_true, Bool.not_true, Bool.not_false, and_self, Nat.le_refl, ti67, ti65, el65, ti73, ti71, ti3, ti70, ti9, ti2, ti68, fl67_0, fl67_1, fl67_2, fl67_3, fl73_0, fl73_1, fl73_2, fl73_3, fl70_0, fl70_1, fl70_2, fl70_3, fl70_4, resE_fw, resB_fw, resD_fw, encA_fw, enc_take, Tm.fw, Val.fw, List.take_zero, List.append_nil] <;> rfl) ?_
    refine awp_ret ?_
    refine gives_end (.inl rfl) _ ?_
    simp [ares, aresL, ares1, rd, ev, alook, aput, Tryd.f69, ti73, resE_fw, hr]
  refine aops_run 6 (by simp only [fw0, fw1, fw2, fw3, fw4, fw5, fw6, fw7, ↓reduceIte, Nat.reduceAdd, Nat.reduceMul, Nat.reduceEqDiff, Nat.reduceLT, Nat.reduceLeDiff, reduceCtorEq, Bool.false_eq_true, Bool.not_true, Bool.not_false, and_self, Nat.le_refl, hb, h5, decide_true, Bool.and_self, Bool.not_true] <;> rfl) ?_
  cases ok with
  | false =>
    have hr : bothR rn t a b.v b.c b.f = stuckR b.c b.f := by rw [hres, if_neg (fun h => by cases h.1)]
    refine awp_cond (b := true) rfl ?_
    refine awp_seq ?_
    -- region 14
    refine awp_region rfl ?_
    refine aops_run 1 (by simp only [fw0, fw1, fw2, fw3, fw4, fw5, fw6, fw7, ↓reduceIte, Nat.reduceAdd, Nat.reduceMul, Nat.reduceEqDiff, Nat.reduceLT, Nat.reduceLeDiff, reduceCtorEq, Bool.false_eq_true, Bool.not_true, Bool.not_false, and_self, Nat.le_refl, ti67, ti65, el65, ti73, ti71, ti3, ti70, ti9, ti2, ti68, fl67_0, fl67_1, fl67_2, fl67_3, fl73_0, fl73_1, fl73_2, fl73_3, fl70_0, fl70_1, fl70_2, fl70_3, fl70_4, resE_fw, resB_fw, resD_fw, encA_fw, enc_take, Tm.fw, Val.fw, List.take_zero, List.append_nil] <;> rfl) ?_
    refine aops_fn rfl rfl rfl en44 (c44 Γ b) ?_
    refine aops_run 1 (by simp only [fw0, fw1, fw2, fw3, fw4, fw5, fw6, fw7, ↓reduceIte, Nat.reduceAdd, Nat.reduceMul, Nat.reduceEqDiff, Nat.reduceLT, Nat.reduceLeDiff, reduceCtorEq, Bool.false_eq_true, Bool.not_true, Bool.not_false, and_self, Nat.le_refl, ti67, ti65, el65, ti73, ti71, ti3, ti70, ti9, ti2, ti68, fl67_0, fl67_1, fl67_2, fl67_3, fl73_0, fl73_1, fl73_2, fl73_3, fl70_0, fl70_1, fl70_2, fl70_3, fl70_4, resE_fw, resB_fw, resD_fw, encA_fw, enc_take, Tm.fw, Val.fw, List.take_zero, List.append_nil] <;> rfl) ?_
    refine awp_ret ?_
    refine gives_end (.inl rfl) _ ?_
    simp [ares, aresL, ares1, rd, ev, alook, aput, Tryd.f69, ti73, resE_fw, hr]
  | true =>
    have hr : bothR rn t a b.v b.c b.f = ⟨1, wholeV nn, b.c, b.f⟩ := by rw [hres, if_pos ⟨rfl, h2, h5⟩]
    refine awp_cond (b := false) rfl ?_
    refine awp_skip ?_
    refine awp_seq ?_
    -- region 15
    refine awp_region rfl ?_
    refine aops_run 2 (by simp only [fw0, fw1, fw2, fw3, fw4, fw5, fw6, fw7, ↓reduceIte, Nat.reduceAdd, Nat.reduceMul, Nat.reduceEqDiff, Nat.reduceLT, Nat.reduceLeDiff, reduceCtorEq, Bool.false_eq_true, Bool.not_true, Bool.not_false, and_self, Nat.le_refl, ti67, ti65, el65, ti73, ti71, ti3, ti70, ti9, ti2, ti68, fl67_0, fl67_1, fl67_2, fl67_3, fl73_0, fl73_1, fl73_2, fl73_3, fl70_0, fl70_1, fl70_2, fl70_3, fl70_4, resE_fw, resB_fw, resD_fw, encA_fw, enc_take, Tm.fw, Val.fw, List.take_zero, List.append_nil] <;> rfl) ?_
    refine aops_fn rfl rfl rfl en45 (c45 Γ b nn) ?_
    refine aops_run 1 (by simp only [fw0, fw1, fw2, fw3, fw4, fw5, fw6, fw7, ↓reduceIte, Nat.reduceAdd, Nat.reduceMul, Nat.reduceEqDiff, Nat.reduceLT, Nat.reduceLeDiff, reduceCtorEq, Bool.false_eq_true, Bool.not_true, Bool.not_false, and_self, Nat.le_refl, ti67, ti65, el65, ti73, ti71, ti3, ti70, ti9, ti2, ti68, fl67_0, fl67_1, fl67_2, fl67_3, fl73_0, fl73_1, fl73_2, fl73_3, fl70_0, fl70_1, fl70_2, fl70_3, fl70_4, resE_fw, resB_fw, resD_fw, encA_fw, enc_take, Tm.fw, Val.fw, List.take_zero, List.append_nil] <;> rfl) ?_
    refine awp_ret ?_
    refine gives_end (.inl rfl) _ ?_
    simp [ares, aresL, ares1, rd, ev, alook, aput, Tryd.f69, ti73, resE_fw, hr]

end Go.Proofs.YtnjlfbefpoecpaaDoor

/- The document's run: what stands behind a first kid. -/
namespace Go.Proofs.YtnjlfbefpoecpaaDoor
set_option linter.unusedVariables false
set_option linter.unusedSimpArgs false
set_option maxRecDepth 100000
open Go.RowKit Fw

/-- What is run behind a first kid that has a value. -/
def oneR (rn : Runner) (t : Tm) (env : List Bd) (a : Res) : Res := if t.kind = 7 then tailR rn t env a else behindR rn t env a.v a.c a.f

/-- chancelref19.one -/
theorem c49 (Γ : Nat → PV) {B n : Nat} {rn : Runner} (hT : EvC Γ B n rn) (hI : RunInv B n rn) (hn : n ≤ 100000) (hB : B * 128 ≤ reachBytes) (t : Tm) (env : List Bd) (a : Res) (ha : a.st = 1) (hf : a.f ≤ n) (hf0 : 0 ≤ a.f) (hfB : a.f.toNat + 1 ≤ B) (he : EL (B - (a.f.toNat + 1)) env) (hv : Val.EB (B - a.f.toNat) a.v) (hc : a.c.length * 24 ≤ reachBytes)
    (hk1' : t.kind ≠ 8 → t.kind ≠ 10 → 1 < t.kids.length) (hk2' : t.kind = 6 → 2 < t.kids.length) :
    Gives Tryd.prog Γ 49 [.agg t.enc, .vec (env.map Bd.enc) false, .agg (resE a)] (.agg (resE (oneR rn t env a))) := by
  have he' : EL (B - a.f.toNat) env := EL_mono (by omega) he
  refine fn_of_awp Tryd.func49 rfl (by simp [Tryd.f49]) (by simp [PV.plain, PV.bd, resE_fw]) fun H => ?_
  refine awp_seq ?_
  -- region 0
  refine awp_run rfl (by simp only [fw0, fw1, fw2, fw3, fw4, fw5, fw6, fw7, ↓reduceIte, Nat.reduceAdd, Nat.reduceMul, Nat.reduceEqDiff, Nat.reduceLT, Nat.reduceLeDiff, reduceCtorEq, Bool.false_eq_true, Bool.not_true, Bool.not_false, and_self, Nat.le_refl, ti67, ti65, el65, ti73, ti71, ti3, ti70, ti9, ti2, ti68, fl67_0, fl67_1, fl67_2, fl67_3, fl73_0, fl73_1, fl73_2, fl73_3, fl70_0, fl70_1, fl70_2, fl70_3, fl70_4, resE_fw, resB_fw, resD_fw, encA_fw, enc_take, Tm.fw, Val.fw, List.take_zero, List.append_nil] <;> rfl) ?_
  refine awp_seq ?_
  refine awp_seq ?_
  -- region 1
  refine awp_run rfl (by simp only [fw0, fw1, fw2, fw3, fw4, fw5, fw6, fw7, ↓reduceIte, Nat.reduceAdd, Nat.reduceMul, Nat.reduceEqDiff, Nat.reduceLT, Nat.reduceLeDiff, reduceCtorEq, Bool.false_eq_true, Bool.not_true, Bool.not_false, and_self, Nat.le_refl, ti67, ti65, el65, ti73, ti71, ti3, ti70, ti9, ti2, ti68, fl67_0, fl67_1, fl67_2, fl67_3, fl73_0, fl73_1, fl73_2, fl73_3, fl70_0, fl70_1, fl70_2, fl70_3, fl70_4, resE_fw, resB_fw, resD_fw, encA_fw, enc_take, Tm.fw, Val.fw, List.take_zero, List.append_nil] <;> rfl) ?_
  refine awp_block ?_
  refine awp_seq ?_
  refine awp_run rfl (by simp only [fw0, fw1, fw2, fw3, fw4, fw5, fw6, fw7, ↓reduceIte, Nat.reduceAdd, Nat.reduceMul, Nat.reduceEqDiff, Nat.reduceLT, Nat.reduceLeDiff, reduceCtorEq, Bool.false_eq_true, Bool.not_true, Bool.not_false, and_self, Nat.le_refl] <;> rfl) ?_
  refine awp_cond (by simp only [fw0, fw1, fw2, fw3, fw4, fw5, fw6, fw7, ↓reduceIte, Nat.reduceAdd, Nat.reduceMul, Nat.reduceEqDiff, Nat.reduceLT, Nat.reduceLeDiff, reduceCtorEq, Bool.false_eq_true, Bool.not_true, Bool.not_false, and_self, Nat.le_refl] <;> rfl) ?_
  by_cases k5 : t.kind = 5
  · simp only [k5, decide_true, ↓reduceIte]
    have hk1 := hk1' (by omega) (by omega)
    have hr : oneR rn t env a = rn (kid t 1) (env ++ [.mk t.name a.v]) a.c a.f := by simp only [oneR, behindR, if_pos k5, if_neg (show ¬ t.kind = 7 by omega)]
    refine awp_seq ?_
    -- region 3 drawn
    refine awp_drawn [0, 1, 0, 1, 0, 0, 1, 0, 1, 0, 0, 1, 0, 1, 0, 2] [0, 1, 3, 7, 0, 0, 32, 0, 128, 496, 0, 1024, 0, 4096, 16383, 32767] mixed rfl (by kernel_rfl) ?_
    refine dops_run 9 (by simp only [fw0, fw1, fw2, fw3, fw4, fw5, fw6, fw7, ↓reduceIte, Nat.reduceAdd, Nat.reduceMul, Nat.reduceEqDiff, Nat.reduceLT, Nat.reduceLeDiff, reduceCtorEq, Bool.false_eq_true, Bool.not_true, Bool.not_false, and_self, Nat.le_refl, ti67, ti65, el65, ti73, ti71, ti3, ti70, ti9, ti2, ti68, fl67_0, fl67_1, fl67_2, fl67_3, fl73_0, fl73_1, fl73_2, fl73_3, fl70_0, fl70_1, fl70_2, fl70_3, fl70_4, resE_fw, resB_fw, resD_fw, encA_fw, enc_take, Tm.fw, Val.fw, List.take_zero, List.append_nil, Int.reduceToNat, Int.reduceLE, true_and, List.getElem?_map, kid_get hk1, Option.map_some] <;> rfl) ?_
    refine dops_fn rfl rfl rfl rfl en48 (c48 Γ env t.name a.v (by have := he.1; omega)) ?_
    refine dops_run 4 (by simp only [fw0, fw1, fw2, fw3, fw4, fw5, fw6, fw7, ↓reduceIte, Nat.reduceAdd, Nat.reduceMul, Nat.reduceEqDiff, Nat.reduceLT, Nat.reduceLeDiff, reduceCtorEq, Bool.false_eq_true, Bool.not_true, Bool.not_false, and_self, Nat.le_refl, ti67, ti65, el65, ti73, ti71, ti3, ti70, ti9, ti2, ti68, fl67_0, fl67_1, fl67_2, fl67_3, fl73_0, fl73_1, fl73_2, fl73_3, fl70_0, fl70_1, fl70_2, fl70_3, fl70_4, resE_fw, resB_fw, resD_fw, encA_fw, enc_take, Tm.fw, Val.fw, List.take_zero, List.append_nil] <;> rfl) ?_
    refine dops_fn rfl rfl rfl rfl en23 (hT.at hn (kid t 1) hf (by omega) (EL_bind he (by omega) hv _) hc) ?_
    refine dops_run 1 (by simp only [fw0, fw1, fw2, fw3, fw4, fw5, fw6, fw7, ↓reduceIte, Nat.reduceAdd, Nat.reduceMul, Nat.reduceEqDiff, Nat.reduceLT, Nat.reduceLeDiff, reduceCtorEq, Bool.false_eq_true, Bool.not_true, Bool.not_false, and_self, Nat.le_refl, ti67, ti65, el65, ti73, ti71, ti3, ti70, ti9, ti2, ti68, fl67_0, fl67_1, fl67_2, fl67_3, fl73_0, fl73_1, fl73_2, fl73_3, fl70_0, fl70_1, fl70_2, fl70_3, fl70_4, resE_fw, resB_fw, resD_fw, encA_fw, enc_take, Tm.fw, Val.fw, List.take_zero, List.append_nil] <;> rfl) ?_
    refine dops_end ?_
    refine awp_ret ?_
    refine gives_end (.inl rfl) _ ?_
    simp [ares, aresL, ares1, rd, ev, alook, aput, Tryd.f49, ti73, resE_fw, hr]
  simp only [k5, decide_false, Bool.false_eq_true, ↓reduceIte]
  refine awp_seq ?_
  refine awp_run rfl (by simp only [fw0, fw1, fw2, fw3, fw4, fw5, fw6, fw7, ↓reduceIte, Nat.reduceAdd, Nat.reduceMul, Nat.reduceEqDiff, Nat.reduceLT, Nat.reduceLeDiff, reduceCtorEq, Bool.false_eq_true, Bool.not_true, Bool.not_false, and_self, Nat.le_refl] <;> rfl) ?_
  refine awp_cond (by simp only [fw0, fw1, fw2, fw3, fw4, fw5, fw6, fw7, ↓reduceIte, Nat.reduceAdd, Nat.reduceMul, Nat.reduceEqDiff, Nat.reduceLT, Nat.reduceLeDiff, reduceCtorEq, Bool.false_eq_true, Bool.not_true, Bool.not_false, and_self, Nat.le_refl] <;> rfl) ?_
  by_cases k13 : t.kind = 13
  · simp only [k13, decide_true, ↓reduceIte]
    have hk1 := hk1' (by omega) (by omega)
    have hr : oneR rn t env a = rn (kid t 1) env a.c a.f := by simp only [oneR, behindR, if_neg k5, if_pos k13, if_neg (show ¬ t.kind = 7 by omega)]
    refine awp_seq ?_
    -- drawn
    refine awp_drawn [0, 1, 0, 1, 0, 0, 1, 0, 1, 0, 2] [0, 1, 3, 7, 0, 0, 32, 0, 128, 511, 1023] mixed rfl (by kernel_rfl) ?_
    refine dops_run 9 (by simp only [fw0, fw1, fw2, fw3, fw4, fw5, fw6, fw7, ↓reduceIte, Nat.reduceAdd, Nat.reduceMul, Nat.reduceEqDiff, Nat.reduceLT, Nat.reduceLeDiff, reduceCtorEq, Bool.false_eq_true, Bool.not_true, Bool.not_false, and_self, Nat.le_refl, ti67, ti65, el65, ti73, ti71, ti3, ti70, ti9, ti2, ti68, fl67_0, fl67_1, fl67_2, fl67_3, fl73_0, fl73_1, fl73_2, fl73_3, fl70_0, fl70_1, fl70_2, fl70_3, fl70_4, resE_fw, resB_fw, resD_fw, encA_fw, enc_take, Tm.fw, Val.fw, List.take_zero, List.append_nil, Int.reduceToNat, Int.reduceLE, true_and, List.getElem?_map, kid_get hk1, Option.map_some] <;> rfl) ?_
    refine dops_fn rfl rfl rfl rfl en23 (hT.at hn (kid t 1) hf (by omega) he' hc) ?_
    refine dops_run 1 (by simp only [fw0, fw1, fw2, fw3, fw4, fw5, fw6, fw7, ↓reduceIte, Nat.reduceAdd, Nat.reduceMul, Nat.reduceEqDiff, Nat.reduceLT, Nat.reduceLeDiff, reduceCtorEq, Bool.false_eq_true, Bool.not_true, Bool.not_false, and_self, Nat.le_refl, ti67, ti65, el65, ti73, ti71, ti3, ti70, ti9, ti2, ti68, fl67_0, fl67_1, fl67_2, fl67_3, fl73_0, fl73_1, fl73_2, fl73_3, fl70_0, fl70_1, fl70_2, fl70_3, fl70_4, resE_fw, resB_fw, resD_fw, encA_fw, enc_take, Tm.fw, Val.fw, List.take_zero, List.append_nil] <;> rfl) ?_
    refine dops_end ?_
    refine awp_ret ?_
    refine gives_end (.inl rfl) _ ?_
    simp [ares, aresL, ares1, rd, ev, alook, aput, Tryd.f49, ti73, resE_fw, hr]
  simp only [k13, decide_false, Bool.false_eq_true, ↓reduceIte]
  refine awp_seq ?_
  refine awp_run rfl (by simp only [fw0, fw1, fw2, fw3, fw4, fw5, fw6, fw7, ↓reduceIte, Nat.reduceAdd, Nat.reduceMul, Nat.reduceEqDiff, Nat.reduceLT, Nat.reduceLeDiff, reduceCtorEq, Bool.false_eq_true, Bool.not_true, Bool.not_false, and_self, Nat.le_refl] <;> rfl) ?_
  refine awp_cond (by simp only [fw0, fw1, fw2, fw3, fw4, fw5, fw6, fw7, ↓reduceIte, Nat.reduceAdd, Nat.reduceMul, Nat.reduceEqDiff, Nat.reduceLT, Nat.reduceLeDiff, reduceCtorEq, Bool.false_eq_true, Bool.not_true, Bool.not_false, and_self, Nat.le_refl] <;> rfl) ?_
  by_cases k6 : t.kind = 6
  · simp only [k6, decide_true, ↓reduceIte]
    have hk1 := hk1' (by omega) (by omega)
    have hk2 := hk2' k6
    refine awp_seq ?_
    refine awp_seq ?_
    -- region 7
    refine awp_region rfl ?_
    refine aops_run 1 (by simp only [fw0, fw1, fw2, fw3, fw4, fw5, fw6, fw7, ↓reduceIte, Nat.reduceAdd, Nat.reduceMul, Nat.reduceEqDiff, Nat.reduceLT, Nat.reduceLeDiff, reduceCtorEq, Bool.false_eq_true, Bool.not_true, Bool.not_false, and_self, Nat.le_refl, ti67, ti65, el65, ti73, ti71, ti3, ti70, ti9, ti2, ti68, fl67_0, fl67_1, fl67_2, fl67_3, fl73_0, fl73_1, fl73_2, fl73_3, fl70_0, fl70_1, fl70_2, fl70_3, fl70_4, resE_fw, resB_fw, resD_fw, encA_fw, enc_take, Tm.fw, Val.fw, List.take_zero, List.append_nil] <;> rfl) ?_
    refine aops_fn rfl rfl rfl en66 (c66 Γ a) ?_
    refine aops_run 1 (by simp only [fw0, fw1, fw2, fw3, fw4, fw5, fw6, fw7, ↓reduceIte, Nat.reduceAdd, Nat.reduceMul, Nat.reduceEqDiff, Nat.reduceLT, Nat.reduceLeDiff, reduceCtorEq, Bool.false_eq_true, Bool.not_true, Bool.not_false, and_self, Nat.le_refl] <;> rfl) ?_
    refine awp_cond (by simp only [fw0, fw1, fw2, fw3, fw4, fw5, fw6, fw7, ↓reduceIte, Nat.reduceAdd, Nat.reduceMul, Nat.reduceEqDiff, Nat.reduceLT, Nat.reduceLeDiff, reduceCtorEq, Bool.false_eq_true, Bool.not_true, Bool.not_false, and_self, Nat.le_refl, ha, decide_true, Bool.true_and] <;> rfl) ?_
    by_cases h1 : a.v.kind = 1
    rotate_left
    · simp only [h1, decide_false, Bool.not_false, ↓reduceIte]
      have hr : oneR rn t env a = stuckR a.c a.f := by simp only [oneR, behindR, if_neg k5, if_neg k13, if_pos k6, if_neg (show ¬ t.kind = 7 by omega), if_neg h1]
      refine awp_seq ?_
      refine awp_region rfl ?_
      refine aops_run 1 (by simp only [fw0, fw1, fw2, fw3, fw4, fw5, fw6, fw7, ↓reduceIte, Nat.reduceAdd, Nat.reduceMul, Nat.reduceEqDiff, Nat.reduceLT, Nat.reduceLeDiff, reduceCtorEq, Bool.false_eq_true, Bool.not_true, Bool.not_false, and_self, Nat.le_refl, ti67, ti65, el65, ti73, ti71, ti3, ti70, ti9, ti2, ti68, fl67_0, fl67_1, fl67_2, fl67_3, fl73_0, fl73_1, fl73_2, fl73_3, fl70_0, fl70_1, fl70_2, fl70_3, fl70_4, resE_fw, resB_fw, resD_fw, encA_fw, enc_take, Tm.fw, Val.fw, List.take_zero, List.append_nil] <;> rfl) ?_
      refine aops_fn rfl rfl rfl en44 (c44 Γ a) ?_
      refine aops_run 1 (by simp only [fw0, fw1, fw2, fw3, fw4, fw5, fw6, fw7, ↓reduceIte, Nat.reduceAdd, Nat.reduceMul, Nat.reduceEqDiff, Nat.reduceLT, Nat.reduceLeDiff, reduceCtorEq, Bool.false_eq_true, Bool.not_true, Bool.not_false, and_self, Nat.le_refl, ti67, ti65, el65, ti73, ti71, ti3, ti70, ti9, ti2, ti68, fl67_0, fl67_1, fl67_2, fl67_3, fl73_0, fl73_1, fl73_2, fl73_3, fl70_0, fl70_1, fl70_2, fl70_3, fl70_4, resE_fw, resB_fw, resD_fw, encA_fw, enc_take, Tm.fw, Val.fw, List.take_zero, List.append_nil] <;> rfl) ?_
      refine awp_ret ?_
      refine gives_end (.inl rfl) _ ?_
      simp [ares, aresL, ares1, rd, ev, alook, aput, Tryd.f49, ti73, resE_fw, hr]
    simp only [h1, decide_true, Bool.not_true, Bool.false_eq_true, ↓reduceIte]
    refine awp_skip ?_
    refine awp_seq ?_
    refine awp_seq ?_
    -- region 9
    refine awp_run rfl (by simp only [fw0, fw1, fw2, fw3, fw4, fw5, fw6, fw7, ↓reduceIte, Nat.reduceAdd, Nat.reduceMul, Nat.reduceEqDiff, Nat.reduceLT, Nat.reduceLeDiff, reduceCtorEq, Bool.false_eq_true, Bool.not_true, Bool.not_false, and_self, Nat.le_refl, ti67, ti65, el65, ti73, ti71, ti3, ti70, ti9, ti2, ti68, fl67_0, fl67_1, fl67_2, fl67_3, fl73_0, fl73_1, fl73_2, fl73_3, fl70_0, fl70_1, fl70_2, fl70_3, fl70_4, resE_fw, resB_fw, resD_fw, encA_fw, enc_take, Tm.fw, Val.fw, List.take_zero, List.append_nil] <;> rfl) ?_
    refine awp_cond (by simp only [fw0, fw1, fw2, fw3, fw4, fw5, fw6, fw7, ↓reduceIte, Nat.reduceAdd, Nat.reduceMul, Nat.reduceEqDiff, Nat.reduceLT, Nat.reduceLeDiff, reduceCtorEq, Bool.false_eq_true, Bool.not_true, Bool.not_false, and_self, Nat.le_refl] <;> rfl) ?_
    by_cases h0 : a.v.n = 0
    · simp only [h0, decide_true, Bool.not_true, Bool.false_eq_true, ↓reduceIte]
      have hr : oneR rn t env a = rn (kid t 2) env a.c a.f := by simp only [oneR, behindR, if_neg k5, if_neg k13, if_pos k6, if_neg (show ¬ t.kind = 7 by omega), if_pos h1, if_pos h0]
      refine awp_skip ?_
      refine awp_seq ?_
      -- drawn
      refine awp_drawn [0, 1, 0, 1, 0, 0, 1, 0, 1, 0, 2] [0, 1, 3, 7, 0, 0, 32, 0, 128, 511, 1023] mixed rfl (by kernel_rfl) ?_
      refine dops_run 9 (by simp only [fw0, fw1, fw2, fw3, fw4, fw5, fw6, fw7, ↓reduceIte, Nat.reduceAdd, Nat.reduceMul, Nat.reduceEqDiff, Nat.reduceLT, Nat.reduceLeDiff, reduceCtorEq, Bool.false_eq_true, Bool.not_true, Bool.not_false, and_self, Nat.le_refl, ti67, ti65, el65, ti73, ti71, ti3, ti70, ti9, ti2, ti68, fl67_0, fl67_1, fl67_2, fl67_3, fl73_0, fl73_1, fl73_2, fl73_3, fl70_0, fl70_1, fl70_2, fl70_3, fl70_4, resE_fw, resB_fw, resD_fw, encA_fw, enc_take, Tm.fw, Val.fw, List.take_zero, List.append_nil, Int.reduceToNat, Int.reduceLE, true_and, List.getElem?_map, kid_get hk2, Option.map_some] <;> rfl) ?_
      refine dops_fn rfl rfl rfl rfl en23 (hT.at hn (kid t 2) hf (by omega) he' hc) ?_
      refine dops_run 1 (by simp only [fw0, fw1, fw2, fw3, fw4, fw5, fw6, fw7, ↓reduceIte, Nat.reduceAdd, Nat.reduceMul, Nat.reduceEqDiff, Nat.reduceLT, Nat.reduceLeDiff, reduceCtorEq, Bool.false_eq_true, Bool.not_true, Bool.not_false, and_self, Nat.le_refl, ti67, ti65, el65, ti73, ti71, ti3, ti70, ti9, ti2, ti68, fl67_0, fl67_1, fl67_2, fl67_3, fl73_0, fl73_1, fl73_2, fl73_3, fl70_0, fl70_1, fl70_2, fl70_3, fl70_4, resE_fw, resB_fw, resD_fw, encA_fw, enc_take, Tm.fw, Val.fw, List.take_zero, List.append_nil] <;> rfl) ?_
      refine dops_end ?_
      refine awp_ret ?_
      refine gives_end (.inl rfl) _ ?_
      simp [ares, aresL, ares1, rd, ev, alook, aput, Tryd.f49, ti73, resE_fw, hr]
    · simp only [h0, decide_false, Bool.not_false, ↓reduceIte]
      have hr : oneR rn t env a = rn (kid t 1) env a.c a.f := by simp only [oneR, behindR, if_neg k5, if_neg k13, if_pos k6, if_neg (show ¬ t.kind = 7 by omega), if_pos h1, if_neg h0]
      refine awp_seq ?_
      -- drawn
      refine awp_drawn [0, 1, 0, 1, 0, 0, 1, 0, 1, 0, 2] [0, 1, 3, 7, 0, 0, 32, 0, 128, 511, 1023] mixed rfl (by kernel_rfl) ?_
      refine dops_run 9 (by simp only [fw0, fw1, fw2, fw3, fw4, fw5, fw6, fw7, ↓reduceIte, Nat.reduceAdd, Nat.reduceMul, Nat.reduceEqDiff, Nat.reduceLT, Nat.reduceLeDiff, reduceCtorEq, Bool.false_eq_true, Bool.not_true, Bool.not_false, and_self, Nat.le_refl, ti67, ti65, el65, ti73, ti71, ti3, ti70, ti9, ti2, ti68, fl67_0, fl67_1, fl67_2, fl67_3, fl73_0, fl73_1, fl73_2, fl73_3, fl70_0, fl70_1, fl70_2, fl70_3, fl70_4, resE_fw, resB_fw, resD_fw, encA_fw, enc_take, Tm.fw, Val.fw, List.take_zero, List.append_nil, Int.reduceToNat, Int.reduceLE, true_and, List.getElem?_map, kid_get hk1, Option.map_some] <;> rfl) ?_
      refine dops_fn rfl rfl rfl rfl en23 (hT.at hn (kid t 1) hf (by omega) he' hc) ?_
      refine dops_run 1 (by simp only [fw0, fw1, fw2, fw3, fw4, fw5, fw6, fw7, ↓reduceIte, Nat.reduceAdd, Nat.reduceMul, Nat.reduceEqDiff, Nat.reduceLT, Nat.reduceLeDiff, reduceCtorEq, Bool.false_eq_true, Bool.not_true, Bool.not_false, and_self, Nat.le_refl, ti67, ti65, el65, ti73, ti71, ti3, ti70, ti9, ti2, ti68, fl67_0, fl67_1, fl67_2, fl67_3, fl73_0, fl73_1, fl73_2, fl73_3, fl70_0, fl70_1, fl70_2, fl70_3, fl70_4, resE_fw, resB_fw, resD_fw, encA_fw, enc_take, Tm.fw, Val.fw, List.take_zero, List.append_nil] <;> rfl) ?_
      refine dops_end ?_
      refine awp_ret ?_
      refine gives_end (.inl rfl) _ ?_
      simp [ares, aresL, ares1, rd, ev, alook, aput, Tryd.f49, ti73, resE_fw, hr]
  simp only [k6, decide_false, Bool.false_eq_true, ↓reduceIte]
  refine awp_seq ?_
  refine awp_run rfl (by simp only [fw0, fw1, fw2, fw3, fw4, fw5, fw6, fw7, ↓reduceIte, Nat.reduceAdd, Nat.reduceMul, Nat.reduceEqDiff, Nat.reduceLT, Nat.reduceLeDiff, reduceCtorEq, Bool.false_eq_true, Bool.not_true, Bool.not_false, and_self, Nat.le_refl] <;> rfl) ?_
  refine awp_cond (by simp only [fw0, fw1, fw2, fw3, fw4, fw5, fw6, fw7, ↓reduceIte, Nat.reduceAdd, Nat.reduceMul, Nat.reduceEqDiff, Nat.reduceLT, Nat.reduceLeDiff, reduceCtorEq, Bool.false_eq_true, Bool.not_true, Bool.not_false, and_self, Nat.le_refl] <;> rfl) ?_
  by_cases k7 : t.kind = 7
  · simp only [k7, decide_true, ↓reduceIte]
    have hk1 := hk1' (by omega) (by omega)
    have hr : oneR rn t env a = tailR rn t env a := by simp only [oneR, if_pos k7]
    refine awp_seq ?_
    -- region 13
    refine awp_region rfl ?_
    refine aops_run 3 (by simp only [fw0, fw1, fw2, fw3, fw4, fw5, fw6, fw7, ↓reduceIte, Nat.reduceAdd, Nat.reduceMul, Nat.reduceEqDiff, Nat.reduceLT, Nat.reduceLeDiff, reduceCtorEq, Bool.false_eq_true, Bool.not_true, Bool.not_false, and_self, Nat.le_refl, ti67, ti65, el65, ti73, ti71, ti3, ti70, ti9, ti2, ti68, fl67_0, fl67_1, fl67_2, fl67_3, fl73_0, fl73_1, fl73_2, fl73_3, fl70_0, fl70_1, fl70_2, fl70_3, fl70_4, resE_fw, resB_fw, resD_fw, encA_fw, enc_take, Tm.fw, Val.fw, List.take_zero, List.append_nil] <;> rfl) ?_
    refine aops_fn rfl rfl rfl en67 (c67 Γ hT hI hn t env a ha hf hf0 (by omega) he' hc hk1) ?_
    refine aops_run 1 (by simp only [fw0, fw1, fw2, fw3, fw4, fw5, fw6, fw7, ↓reduceIte, Nat.reduceAdd, Nat.reduceMul, Nat.reduceEqDiff, Nat.reduceLT, Nat.reduceLeDiff, reduceCtorEq, Bool.false_eq_true, Bool.not_true, Bool.not_false, and_self, Nat.le_refl, ti67, ti65, el65, ti73, ti71, ti3, ti70, ti9, ti2, ti68, fl67_0, fl67_1, fl67_2, fl67_3, fl73_0, fl73_1, fl73_2, fl73_3, fl70_0, fl70_1, fl70_2, fl70_3, fl70_4, resE_fw, resB_fw, resD_fw, encA_fw, enc_take, Tm.fw, Val.fw, List.take_zero, List.append_nil] <;> rfl) ?_
    refine awp_ret ?_
    refine gives_end (.inl rfl) _ ?_
    simp [ares, aresL, ares1, rd, ev, alook, aput, Tryd.f49, ti73, resE_fw, hr]
  simp only [k7, decide_false, Bool.false_eq_true, ↓reduceIte]
  refine awp_seq ?_
  refine awp_run rfl (by simp only [fw0, fw1, fw2, fw3, fw4, fw5, fw6, fw7, ↓reduceIte, Nat.reduceAdd, Nat.reduceMul, Nat.reduceEqDiff, Nat.reduceLT, Nat.reduceLeDiff, reduceCtorEq, Bool.false_eq_true, Bool.not_true, Bool.not_false, and_self, Nat.le_refl] <;> rfl) ?_
  refine awp_cond (by simp only [fw0, fw1, fw2, fw3, fw4, fw5, fw6, fw7, ↓reduceIte, Nat.reduceAdd, Nat.reduceMul, Nat.reduceEqDiff, Nat.reduceLT, Nat.reduceLeDiff, reduceCtorEq, Bool.false_eq_true, Bool.not_true, Bool.not_false, and_self, Nat.le_refl] <;> rfl) ?_
  by_cases k8 : t.kind = 8
  · simp only [k8, decide_true, ↓reduceIte]
    have hone : oneR rn t env a = (if a.v.kind = 1 then ⟨2, a.v, a.c, a.f⟩ else stuckR a.c a.f) := by simp only [oneR, behindR, if_neg k5, if_neg k13, if_neg k6, if_neg k7, if_pos k8]
    refine awp_seq ?_
    refine awp_seq ?_
    -- region 15
    refine awp_region rfl ?_
    refine aops_run 1 (by simp only [fw0, fw1, fw2, fw3, fw4, fw5, fw6, fw7, ↓reduceIte, Nat.reduceAdd, Nat.reduceMul, Nat.reduceEqDiff, Nat.reduceLT, Nat.reduceLeDiff, reduceCtorEq, Bool.false_eq_true, Bool.not_true, Bool.not_false, and_self, Nat.le_refl, ti67, ti65, el65, ti73, ti71, ti3, ti70, ti9, ti2, ti68, fl67_0, fl67_1, fl67_2, fl67_3, fl73_0, fl73_1, fl73_2, fl73_3, fl70_0, fl70_1, fl70_2, fl70_3, fl70_4, resE_fw, resB_fw, resD_fw, encA_fw, enc_take, Tm.fw, Val.fw, List.take_zero, List.append_nil] <;> rfl) ?_
    refine aops_fn rfl rfl rfl en66 (c66 Γ a) ?_
    refine aops_run 1 (by simp only [fw0, fw1, fw2, fw3, fw4, fw5, fw6, fw7, ↓reduceIte, Nat.reduceAdd, Nat.reduceMul, Nat.reduceEqDiff, Nat.reduceLT, Nat.reduceLeDiff, reduceCtorEq, Bool.false_eq_true, Bool.not_true, Bool.not_false, and_self, Nat.le_refl] <;> rfl) ?_
    refine awp_cond (by simp only [fw0, fw1, fw2, fw3, fw4, fw5, fw6, fw7, ↓reduceIte, Nat.reduceAdd, Nat.reduceMul, Nat.reduceEqDiff, Nat.reduceLT, Nat.reduceLeDiff, reduceCtorEq, Bool.false_eq_true, Bool.not_true, Bool.not_false, and_self, Nat.le_refl, ha, decide_true, Bool.true_and] <;> rfl) ?_
    by_cases h1 : a.v.kind = 1
    rotate_left
    · simp only [h1, decide_false, Bool.not_false, ↓reduceIte]
      have hr : oneR rn t env a = stuckR a.c a.f := by rw [hone, if_neg h1]
      refine awp_seq ?_
      refine awp_region rfl ?_
      refine aops_run 1 (by simp only [fw0, fw1, fw2, fw3, fw4, fw5, fw6, fw7, ↓reduceIte, Nat.reduceAdd, Nat.reduceMul, Nat.reduceEqDiff, Nat.reduceLT, Nat.reduceLeDiff, reduceCtorEq, Bool.false_eq_true, Bool.not_true, Bool.not_false, and_self, Nat.le_refl, ti67, ti65, el65, ti73, ti71, ti3, ti70, ti9, ti2, ti68, fl67_0, fl67_1, fl67_2, fl67_3, fl73_0, fl73_1, fl73_2, fl73_3, fl70_0, fl70_1, fl70_2, fl70_3, fl70_4, resE_fw, resB_fw, resD_fw, encA_fw, enc_take, Tm.fw, Val.fw, List.take_zero, List.append_nil] <;> rfl) ?_
      refine aops_fn rfl rfl rfl en44 (c44 Γ a) ?_
      refine aops_run 1 (by simp only [fw0, fw1, fw2, fw3, fw4, fw5, fw6, fw7, ↓reduceIte, Nat.reduceAdd, Nat.reduceMul, Nat.reduceEqDiff, Nat.reduceLT, Nat.reduceLeDiff, reduceCtorEq, Bool.false_eq_true, Bool.not_true, Bool.not_false, and_self, Nat.le_refl, ti67, ti65, el65, ti73, ti71, ti3, ti70, ti9, ti2, ti68, fl67_0, fl67_1, fl67_2, fl67_3, fl73_0, fl73_1, fl73_2, fl73_3, fl70_0, fl70_1, fl70_2, fl70_3, fl70_4, resE_fw, resB_fw, resD_fw, encA_fw, enc_take, Tm.fw, Val.fw, List.take_zero, List.append_nil] <;> rfl) ?_
      refine awp_ret ?_
      refine gives_end (.inl rfl) _ ?_
      simp [ares, aresL, ares1, rd, ev, alook, aput, Tryd.f49, ti73, resE_fw, hr]
    simp only [h1, decide_true, Bool.not_true, Bool.false_eq_true, ↓reduceIte]
    have hr : oneR rn t env a = ⟨2, a.v, a.c, a.f⟩ := by rw [hone, if_pos h1]
    refine awp_skip ?_
    refine awp_seq ?_
    -- region 17
    refine awp_run rfl (by simp only [fw0, fw1, fw2, fw3, fw4, fw5, fw6, fw7, ↓reduceIte, Nat.reduceAdd, Nat.reduceMul, Nat.reduceEqDiff, Nat.reduceLT, Nat.reduceLeDiff, reduceCtorEq, Bool.false_eq_true, Bool.not_true, Bool.not_false, and_self, Nat.le_refl, ti67, ti65, el65, ti73, ti71, ti3, ti70, ti9, ti2, ti68, fl67_0, fl67_1, fl67_2, fl67_3, fl73_0, fl73_1, fl73_2, fl73_3, fl70_0, fl70_1, fl70_2, fl70_3, fl70_4, resE_fw, resB_fw, resD_fw, encA_fw, enc_take, Tm.fw, Val.fw, List.take_zero, List.append_nil] <;> rfl) ?_
    refine awp_heap (H' := H ++ [.box t.enc, .box (resE ⟨2, a.v, a.c, a.f⟩), .box ([.int .i64 0] ++ zeroVP ++ [.vec [] true, .int .i64 0])]) (by simp [resE, zeroVP]) ?_
    refine awp_seq ?_
    -- region 18
    refine awp_run rfl (by simp only [fw0, fw1, fw2, fw3, fw4, fw5, fw6, fw7, ↓reduceIte, Nat.reduceAdd, Nat.reduceMul, Nat.reduceEqDiff, Nat.reduceLT, Nat.reduceLeDiff, reduceCtorEq, Bool.false_eq_true, Bool.not_true, Bool.not_false, and_self, Nat.le_refl, ti67, ti65, el65, ti73, ti71, ti3, ti70, ti9, ti2, ti68, fl67_0, fl67_1, fl67_2, fl67_3, fl73_0, fl73_1, fl73_2, fl73_3, fl70_0, fl70_1, fl70_2, fl70_3, fl70_4, resE_fw, resB_fw, resD_fw, encA_fw, enc_take, Tm.fw, Val.fw, List.take_zero, List.append_nil] <;> rfl) ?_
    refine awp_ret ?_
    refine gives_end (.inl rfl) _ ?_
    simp [ares, aresL, ares1, rd, ev, alook, aput, Tryd.f49, ti73, resE_fw, hr]
  simp only [k8, decide_false, Bool.false_eq_true, ↓reduceIte]
  refine awp_seq ?_
  refine awp_run rfl (by simp only [fw0, fw1, fw2, fw3, fw4, fw5, fw6, fw7, ↓reduceIte, Nat.reduceAdd, Nat.reduceMul, Nat.reduceEqDiff, Nat.reduceLT, Nat.reduceLeDiff, reduceCtorEq, Bool.false_eq_true, Bool.not_true, Bool.not_false, and_self, Nat.le_refl] <;> rfl) ?_
  refine awp_cond (by simp only [fw0, fw1, fw2, fw3, fw4, fw5, fw6, fw7, ↓reduceIte, Nat.reduceAdd, Nat.reduceMul, Nat.reduceEqDiff, Nat.reduceLT, Nat.reduceLeDiff, reduceCtorEq, Bool.false_eq_true, Bool.not_true, Bool.not_false, and_self, Nat.le_refl] <;> rfl) ?_
  by_cases k10 : t.kind = 10
  · simp only [k10, decide_true, ↓reduceIte]
    have hone : oneR rn t env a = (if (readV a.c a.v.name).isSome = true ∧ a.v.kind = 2 then ⟨1, wholeV ((readV a.c a.v.name).getD 0), a.c, a.f⟩ else stuckR a.c a.f) := by simp only [oneR, behindR, if_neg k5, if_neg k13, if_neg k6, if_neg k7, if_neg k8, if_pos k10]
    refine awp_seq ?_
    -- region 20
    refine awp_region rfl ?_
    refine aops_run 5 (by simp only [fw0, fw1, fw2, fw3, fw4, fw5, fw6, fw7, ↓reduceIte, Nat.reduceAdd, Nat.reduceMul, Nat.reduceEqDiff, Nat.reduceLT, Nat.reduceLeDiff, reduceCtorEq, Bool.false_eq_true, Bool.not_true, Bool.not_false, and_self, Nat.le_refl, ti67, ti65, el65, ti73, ti71, ti3, ti70, ti9, ti2, ti68, fl67_0, fl67_1, fl67_2, fl67_3, fl73_0, fl73_1, fl73_2, fl73_3, fl70_0, fl70_1, fl70_2, fl70_3, fl70_4, resE_fw, resB_fw, resD_fw, encA_fw, enc_take, Tm.fw, Val.fw, List.take_zero, List.append_nil] <;> rfl) ?_
    refine aops_fn rfl rfl rfl en68 (c68 Γ a.c a.v.name) ?_
    refine aops_run 5 (by simp only [fw0, fw1, fw2, fw3, fw4, fw5, fw6, fw7, ↓reduceIte, Nat.reduceAdd, Nat.reduceMul, Nat.reduceEqDiff, Nat.reduceLT, Nat.reduceLeDiff, reduceCtorEq, Bool.false_eq_true, Bool.not_true, Bool.not_false, and_self, Nat.le_refl, readP] <;> rfl) ?_
    generalize (readV a.c a.v.name).isSome = ok at hone ⊢
    generalize (readV a.c a.v.name).getD 0 = nn at hone ⊢
    refine awp_seq ?_
    refine awp_seq ?_
    -- region 21
    by_cases h2 : a.v.kind = 2
    rotate_left
    · have hr : oneR rn t env a = stuckR a.c a.f := by rw [hone, if_neg (fun h => h2 h.2)]
      refine awp_run rfl (by simp only [fw0, fw1, fw2, fw3, fw4, fw5, fw6, fw7, ↓reduceIte, Nat.reduceAdd, Nat.reduceMul, Nat.reduceEqDiff, Nat.reduceLT, Nat.reduceLeDiff, reduceCtorEq, Bool.false_eq_true, Bool.not_true, Bool.not_false, and_self, Nat.le_refl, ti67, ti65, el65, ti73, ti71, ti3, ti70, ti9, ti2, ti68, fl67_0, fl67_1, fl67_2, fl67_3, fl73_0, fl73_1, fl73_2, fl73_3, fl70_0, fl70_1, fl70_2, fl70_3, fl70_4, resE_fw, resB_fw, resD_fw, encA_fw, enc_take, Tm.fw, Val.fw, List.take_zero, List.append_nil, h2, decide_false, Bool.not_false] <;> rfl) ?_
      refine awp_cond (b := true) rfl ?_
      refine awp_seq ?_
      refine awp_region rfl ?_
      refine aops_run 1 (by simp only [fw0, fw1, fw2, fw3, fw4, fw5, fw6, fw7, ↓reduceIte, Nat.reduceAdd, Nat.reduceMul, Nat.reduceEqDiff, Nat.reduceLT, Nat.reduceLeDiff, reduceCtorEq, Bool.false_eq_true, Bool.not_true, Bool.not_false, and_self, Nat.le_refl, ti67, ti65, el65, ti73, ti71, ti3, ti70, ti9, ti2, ti68, fl67_0, fl67_1, fl67_2, fl67_3, fl73_0, fl73_1, fl73_2, fl73_3, fl70_0, fl70_1, fl70_2, fl70_3, fl70_4, resE_fw, resB_fw, resD_fw, encA_fw, enc_take, Tm.fw, Val.fw, List.take_zero, List.append_nil] <;> rfl) ?_
      refine aops_fn rfl rfl rfl en44 (c44 Γ a) ?_
      refine aops_run 1 (by simp only [fw0, fw1, fw2, fw3, fw4, fw5, fw6, fw7, ↓reduceIte, Nat.reduceAdd, Nat.reduceMul, Nat.reduceEqDiff, Nat.reduceLT, Nat.reduceLeDiff, reduceCtorEq, Bool.false_eq_true, Bool.not_true, Bool.not_false, and_self, Nat.le_refl, ti67, ti65, el65, ti73, ti71, ti3, ti70, ti9, ti2, ti68, fl67_0, fl67_1, fl67_2, fl67_3, fl73_0, fl73_1, fl73_2, fl73_3, fl70_0, fl70_1, fl70_2, fl70_3, fl70_4, resE_fw, resB_fw, resD_fw, encA_fw, enc_take, Tm.fw, Val.fw, List.take_zero, List.append_nil] <;> rfl) ?_
      refine awp_ret ?_
      refine gives_end (.inl rfl) _ ?_
      simp [ares, aresL, ares1, rd, ev, alook, aput, Tryd.f49, ti73, resE_fw, hr]
    refine awp_run rfl (by simp only [fw0, fw1, fw2, fw3, fw4, fw5, fw6, fw7, ↓reduceIte, Nat.reduceAdd, Nat.reduceMul, Nat.reduceEqDiff, Nat.reduceLT, Nat.reduceLeDiff, reduceCtorEq, Bool.false_eq_true, Bool.not_true, Bool.not_false, and_self, Nat.le_refl, ti67, ti65, el65, ti73, ti71, ti3, ti70, ti9, ti2, ti68, fl67_0, fl67_1, fl67_2, fl67_3, fl73_0, fl73_1, fl73_2, fl73_3, fl70_0, fl70_1, fl70_2, fl70_3, fl70_4, resE_fw, resB_fw, resD_fw, encA_fw, enc_take, Tm.fw, Val.fw, List.take_zero, List.append_nil, h2, decide_true, Bool.not_true] <;> rfl) ?_
    cases ok with
    | false =>
      have hr : oneR rn t env a = stuckR a.c a.f := by rw [hone, if_neg (fun h => by cases h.1)]
      refine awp_cond (b := true) rfl ?_
      refine awp_seq ?_
      refine awp_region rfl ?_
      refine aops_run 1 (by simp only [fw0, fw1, fw2, fw3, fw4, fw5, fw6, fw7, ↓reduceIte, Nat.reduceAdd, Nat.reduceMul, Nat.reduceEqDiff, Nat.reduceLT, Nat.reduceLeDiff, reduceCtorEq, Bool.false_eq_true, Bool.not_true, Bool.not_false, and_self, Nat.le_refl, ti67, ti65, el65, ti73, ti71, ti3, ti70, ti9, ti2, ti68, fl67_0, fl67_1, fl67_2, fl67_3, fl73_0, fl73_1, fl73_2, fl73_3, fl70_0, fl70_1, fl70_2, fl70_3, fl70_4, resE_fw, resB_fw, resD_fw, encA_fw, enc_take, Tm.fw, Val.fw, List.take_zero, List.append_nil] <;> rfl) ?_
      refine aops_fn rfl rfl rfl en44 (c44 Γ a) ?_
      refine aops_run 1 (by simp only [fw0, fw1, fw2, fw3, fw4, fw5, fw6, fw7, ↓reduceIte, Nat.reduceAdd, Nat.reduceMul, Nat.reduceEqDiff, Nat.reduceLT, Nat.reduceLeDiff, reduceCtorEq, Bool.false_eq_true, Bool.not_true, Bool.not_false, and_self, Nat.le_refl, ti67, ti65, el65, ti73, ti71, ti3, ti70, ti9, ti2, ti68, fl67_0, fl67_1, fl67_2, fl67_3, fl73_0, fl73_1, fl73_2, fl73_3, fl70_0, fl70_1, fl70_2, fl70_3, fl70_4, resE_fw, resB_fw, resD_fw, encA_fw, enc_take, Tm.fw, Val.fw, List.take_zero, List.append_nil] <;> rfl) ?_
      refine awp_ret ?_
      refine gives_end (.inl rfl) _ ?_
      simp [ares, aresL, ares1, rd, ev, alook, aput, Tryd.f49, ti73, resE_fw, hr]
    | true =>
      have hr : oneR rn t env a = ⟨1, wholeV nn, a.c, a.f⟩ := by rw [hone, if_pos ⟨rfl, h2⟩]
      refine awp_cond (b := false) rfl ?_
      refine awp_skip ?_
      refine awp_seq ?_
      -- region 23
      refine awp_region rfl ?_
      refine aops_run 2 (by simp only [fw0, fw1, fw2, fw3, fw4, fw5, fw6, fw7, ↓reduceIte, Nat.reduceAdd, Nat.reduceMul, Nat.reduceEqDiff, Nat.reduceLT, Nat.reduceLeDiff, reduceCtorEq, Bool.false_eq_true, Bool.not_true, Bool.not_false, and_self, Nat.le_refl, ti67, ti65, el65, ti73, ti71, ti3, ti70, ti9, ti2, ti68, fl67_0, fl67_1, fl67_2, fl67_3, fl73_0, fl73_1, fl73_2, fl73_3, fl70_0, fl70_1, fl70_2, fl70_3, fl70_4, resE_fw, resB_fw, resD_fw, encA_fw, enc_take, Tm.fw, Val.fw, List.take_zero, List.append_nil] <;> rfl) ?_
      refine aops_fn rfl rfl rfl en45 (c45 Γ a nn) ?_
      refine aops_run 1 (by simp only [fw0, fw1, fw2, fw3, fw4, fw5, fw6, fw7, ↓reduceIte, Nat.reduceAdd, Nat.reduceMul, Nat.reduceEqDiff, Nat.reduceLT, Nat.reduceLeDiff, reduceCtorEq, Bool.false_eq_true, Bool.not_true, Bool.not_false, and_self, Nat.le_refl, ti67, ti65, el65, ti73, ti71, ti3, ti70, ti9, ti2, ti68, fl67_0, fl67_1, fl67_2, fl67_3, fl73_0, fl73_1, fl73_2, fl73_3, fl70_0, fl70_1, fl70_2, fl70_3, fl70_4, resE_fw, resB_fw, resD_fw, encA_fw, enc_take, Tm.fw, Val.fw, List.take_zero, List.append_nil] <;> rfl) ?_
      refine awp_ret ?_
      refine gives_end (.inl rfl) _ ?_
      simp [ares, aresL, ares1, rd, ev, alook, aput, Tryd.f49, ti73, resE_fw, hr]
  simp only [k10, decide_false, Bool.false_eq_true, ↓reduceIte]
  refine awp_skip ?_
  simp only [Post.block, Post.then]
  have hk1 := hk1' k8 k10
  have hone : oneR rn t env a = (if (rn (kid t 1) env a.c a.f).st = 1 then bothR rn t a.v (rn (kid t 1) env a.c a.f).v (rn (kid t 1) env a.c a.f).c (rn (kid t 1) env a.c a.f).f else rn (kid t 1) env a.c a.f) := by simp only [oneR, behindR, if_neg k5, if_neg k13, if_neg k6, if_neg k7, if_neg k8, if_neg k10]
  refine awp_seq ?_
  -- region 24 drawn
  refine awp_drawn [0, 4, 0, 4, 0, 0, 4, 0, 4, 0, 3, 2] [0, 1, 3, 7, 0, 0, 32, 0, 128, 511, 0, 2047] mixed rfl (by kernel_rfl) ?_
  refine dops_run 9 (by simp only [fw0, fw1, fw2, fw3, fw4, fw5, fw6, fw7, ↓reduceIte, Nat.reduceAdd, Nat.reduceMul, Nat.reduceEqDiff, Nat.reduceLT, Nat.reduceLeDiff, reduceCtorEq, Bool.false_eq_true, Bool.not_true, Bool.not_false, and_self, Nat.le_refl, ti67, ti65, el65, ti73, ti71, ti3, ti70, ti9, ti2, ti68, fl67_0, fl67_1, fl67_2, fl67_3, fl73_0, fl73_1, fl73_2, fl73_3, fl70_0, fl70_1, fl70_2, fl70_3, fl70_4, resE_fw, resB_fw, resD_fw, encA_fw, enc_take, Tm.fw, Val.fw, List.take_zero, List.append_nil, List.take_length, Int.reduceToNat, Int.reduceLE, true_and, List.getElem?_map, kid_get hk1, Option.map_some] <;> rfl) ?_
  refine dops_fn rfl rfl rfl rfl en23 (hT.at hn (kid t 1) hf (by omega) he' hc) ?_
  refine dops_make1 rfl rfl (by simp only [fw0, fw1, fw2, fw3, fw4, fw5, fw6, fw7, ↓reduceIte, Nat.reduceAdd, Nat.reduceMul, Nat.reduceEqDiff, Nat.reduceLT, Nat.reduceLeDiff, reduceCtorEq, Bool.false_eq_true, Bool.not_true, Bool.not_false, and_self, Nat.le_refl, ti67, ti65, el65, ti73, ti71, ti3, ti70, ti9, ti2, ti68, fl67_0, fl67_1, fl67_2, fl67_3, fl73_0, fl73_1, fl73_2, fl73_3, fl70_0, fl70_1, fl70_2, fl70_3, fl70_4, resE_fw, resB_fw, resD_fw, encA_fw, enc_take, Tm.fw, Val.fw, List.take_zero, List.append_nil] <;> rfl) (by simp [View.vw, List.take_append]) ?_
  refine dops_run 1 (by simp only [fw0, fw1, fw2, fw3, fw4, fw5, fw6, fw7, ↓reduceIte, Nat.reduceAdd, Nat.reduceMul, Nat.reduceEqDiff, Nat.reduceLT, Nat.reduceLeDiff, reduceCtorEq, Bool.false_eq_true, Bool.not_true, Bool.not_false, and_self, Nat.le_refl, ti67, ti65, el65, ti73, ti71, ti3, ti70, ti9, ti2, ti68, fl67_0, fl67_1, fl67_2, fl67_3, fl73_0, fl73_1, fl73_2, fl73_3, fl70_0, fl70_1, fl70_2, fl70_3, fl70_4, resE_fw, resB_fw, resD_fw, encA_fw, enc_take, Tm.fw, Val.fw, List.take_zero, List.append_nil] <;> rfl) ?_
  refine dops_end ?_
  obtain ⟨hb, hb'⟩ := hI (kid t 1) env a.c a.f hf (by omega) he'
  have hbp := hb.pos hf0
  have hbl := hb.le
  have hbc := hb.c
  have hbv := hb.v
  generalize rn (kid t 1) env a.c a.f = b at hb hb' hbp hbl hbc hbv hone ⊢
  refine awp_seq ?_
  refine awp_seq ?_
  -- region 25
  refine awp_run rfl (by simp only [fw0, fw1, fw2, fw3, fw4, fw5, fw6, fw7, ↓reduceIte, Nat.reduceAdd, Nat.reduceMul, Nat.reduceEqDiff, Nat.reduceLT, Nat.reduceLeDiff, reduceCtorEq, Bool.false_eq_true, Bool.not_true, Bool.not_false, and_self, Nat.le_refl, ti67, ti65, el65, ti73, ti71, ti3, ti70, ti9, ti2, ti68, fl67_0, fl67_1, fl67_2, fl67_3, fl73_0, fl73_1, fl73_2, fl73_3, fl70_0, fl70_1, fl70_2, fl70_3, fl70_4, resE_fw, resB_fw, resD_fw, encA_fw, enc_take, Tm.fw, Val.fw, List.take_zero, List.append_nil] <;> rfl) ?_
  refine awp_cond (by simp only [fw0, fw1, fw2, fw3, fw4, fw5, fw6, fw7, ↓reduceIte, Nat.reduceAdd, Nat.reduceMul, Nat.reduceEqDiff, Nat.reduceLT, Nat.reduceLeDiff, reduceCtorEq, Bool.false_eq_true, Bool.not_true, Bool.not_false, and_self, Nat.le_refl] <;> rfl) ?_
  by_cases hst : b.st = 1
  rotate_left
  · simp only [hst, decide_false, Bool.not_false, ↓reduceIte]
    have hr : oneR rn t env a = b := by rw [hone, if_neg hst]
    refine awp_seq ?_
    -- region 26
    refine awp_run rfl (by simp only [fw0, fw1, fw2, fw3, fw4, fw5, fw6, fw7, ↓reduceIte, Nat.reduceAdd, Nat.reduceMul, Nat.reduceEqDiff, Nat.reduceLT, Nat.reduceLeDiff, reduceCtorEq, Bool.false_eq_true, Bool.not_true, Bool.not_false, and_self, Nat.le_refl, ti67, ti65, el65, ti73, ti71, ti3, ti70, ti9, ti2, ti68, fl67_0, fl67_1, fl67_2, fl67_3, fl73_0, fl73_1, fl73_2, fl73_3, fl70_0, fl70_1, fl70_2, fl70_3, fl70_4, resE_fw, resB_fw, resD_fw, encA_fw, enc_take, Tm.fw, Val.fw, List.take_zero, List.append_nil] <;> rfl) ?_
    refine awp_ret ?_
    refine gives_end (.inl rfl) _ ?_
    simp [ares, aresL, ares1, rd, ev, alook, aput, Tryd.f49, ti73, resE_fw, hr]
  simp only [hst, decide_true, Bool.not_true, Bool.false_eq_true, ↓reduceIte]
  have hr : oneR rn t env a = bothR rn t a.v b.v b.c b.f := by rw [hone, if_pos hst]
  have hlt := hb'.resolve_left (by omega)
  refine awp_skip ?_
  refine awp_seq ?_
  -- region 27
  refine awp_region rfl ?_
  refine aops_run 4 (by simp only [fw0, fw1, fw2, fw3, fw4, fw5, fw6, fw7, ↓reduceIte, Nat.reduceAdd, Nat.reduceMul, Nat.reduceEqDiff, Nat.reduceLT, Nat.reduceLeDiff, reduceCtorEq, Bool.false_eq_true, Bool.not_true, Bool.not_false, and_self, Nat.le_refl, ti67, ti65, el65, ti73, ti71, ti3, ti70, ti9, ti2, ti68, fl67_0, fl67_1, fl67_2, fl67_3, fl73_0, fl73_1, fl73_2, fl73_3, fl70_0, fl70_1, fl70_2, fl70_3, fl70_4, resE_fw, resB_fw, resD_fw, encA_fw, enc_take, Tm.fw, Val.fw, List.take_zero, List.append_nil] <;> rfl) ?_
  refine aops_fn rfl rfl rfl en69 (c69 Γ hT hn hB t a.v b hst (by omega) hbp (by omega) (EB_mono (by omega) hv) hbv (by rw [hbc]; exact hc)) ?_
  refine aops_run 1 (by simp only [fw0, fw1, fw2, fw3, fw4, fw5, fw6, fw7, ↓reduceIte, Nat.reduceAdd, Nat.reduceMul, Nat.reduceEqDiff, Nat.reduceLT, Nat.reduceLeDiff, reduceCtorEq, Bool.false_eq_true, Bool.not_true, Bool.not_false, and_self, Nat.le_refl, ti67, ti65, el65, ti73, ti71, ti3, ti70, ti9, ti2, ti68, fl67_0, fl67_1, fl67_2, fl67_3, fl73_0, fl73_1, fl73_2, fl73_3, fl70_0, fl70_1, fl70_2, fl70_3, fl70_4, resE_fw, resB_fw, resD_fw, encA_fw, enc_take, Tm.fw, Val.fw, List.take_zero, List.append_nil] <;> rfl) ?_
  refine awp_ret ?_
  refine gives_end (.inl rfl) _ ?_
  simp [ares, aresL, ares1, rd, ev, alook, aput, Tryd.f49, ti73, resE_fw, hr]
end Go.Proofs.YtnjlfbefpoecpaaDoor

/- The document's run: a term. -/
namespace Go.Proofs.YtnjlfbefpoecpaaDoor
set_option linter.unusedVariables false
set_option linter.unusedSimpArgs false
set_option maxRecDepth 100000
open Go.RowKit Fw

theorem resZ_le' (st : Int) (c : List Sl) (g : Int) : PV.leL (.int .i64 st :: (zeroVP ++ [.vec (c.map Sl.enc) false, .int .i64 g])) (resE ⟨st, zeroV, c, g⟩) := by
  simp [zeroVP, resE, zeroV, Val.enc, Tm.enc, Tm.encs, Bd.encs, PV.le, PV.leL, PV.leLL, PV.leLL_refl]
theorem kids_two : ∀ k : Fin 14, k.val = 0 ∨ k.val = 1 ∨ k.val = 2 ∨ k.val = 3 ∨ k.val = 8 ∨ k.val = 10 ∨ 1 < kidsOf.getD k.val 0 := by decide

/-- chancelref19.Eval, without fuel -/
theorem c23z (Γ : Nat → PV) {B : Nat} : EvC Γ B 0 (run 0) := by
  intro t env c f0 hf hfB he hc
  have hcapd : capF f0 = (if (100000 : Int) < f0 then (100000 : Int) else f0) := rfl
  refine fn_of_awp Tryd.func23 rfl (by simp [Tryd.f23]) (by simp [PV.plain, PV.bd, resE_fw]) fun H => ?_
  refine awp_seq ?_
  -- region 0
  refine awp_run rfl (by simp only [fw0, fw1, fw2, fw3, fw4, fw5, fw6, fw7, ↓reduceIte, Nat.reduceAdd, Nat.reduceMul, Nat.reduceEqDiff, Nat.reduceLT, Nat.reduceLeDiff, reduceCtorEq, Bool.false_eq_true, Bool.not_true, Bool.not_false, and_self, Nat.le_refl, ti67, ti65, el65, ti73, ti71, ti3, ti70, ti9, ti2, ti68, fl67_0, fl67_1, fl67_2, fl67_3, fl73_0, fl73_1, fl73_2, fl73_3, fl70_0, fl70_1, fl70_2, fl70_3, fl70_4, resE_fw, resB_fw, resD_fw, encA_fw, enc_take, Tm.fw, Val.fw, List.take_zero, List.append_nil] <;> rfl) ?_
  refine awp_seq ?_
  -- region 1
  refine awp_region rfl ?_
  refine aops_run 1 (by simp only [fw0, fw1, fw2, fw3, fw4, fw5, fw6, fw7, ↓reduceIte, Nat.reduceAdd, Nat.reduceMul, Nat.reduceEqDiff, Nat.reduceLT, Nat.reduceLeDiff, reduceCtorEq, Bool.false_eq_true, Bool.not_true, Bool.not_false, and_self, Nat.le_refl] <;> rfl) ?_
  refine aops_one rfl (os_min rfl rfl rfl ?_)
  rw [← hcapd]
  generalize capF f0 = f at hf hfB he ⊢
  refine aops_run 1 (by simp only [fw0, fw1, fw2, fw3, fw4, fw5, fw6, fw7, ↓reduceIte, Nat.reduceAdd, Nat.reduceMul, Nat.reduceEqDiff, Nat.reduceLT, Nat.reduceLeDiff, reduceCtorEq, Bool.false_eq_true, Bool.not_true, Bool.not_false, and_self, Nat.le_refl] <;> rfl) ?_
  refine awp_seq ?_
  refine awp_seq ?_
  -- region 2
  refine awp_run rfl (by simp only [fw0, fw1, fw2, fw3, fw4, fw5, fw6, fw7, ↓reduceIte, Nat.reduceAdd, Nat.reduceMul, Nat.reduceEqDiff, Nat.reduceLT, Nat.reduceLeDiff, reduceCtorEq, Bool.false_eq_true, Bool.not_true, Bool.not_false, and_self, Nat.le_refl] <;> rfl) ?_
  refine awp_cond (by simp only [fw0, fw1, fw2, fw3, fw4, fw5, fw6, fw7, ↓reduceIte, Nat.reduceAdd, Nat.reduceMul, Nat.reduceEqDiff, Nat.reduceLT, Nat.reduceLeDiff, reduceCtorEq, Bool.false_eq_true, Bool.not_true, Bool.not_false, and_self, Nat.le_refl] <;> rfl) ?_
  have h0 : f ≤ 0 := by omega
  · simp only [h0, decide_true, ↓reduceIte]
    have hr : run 0 t env c f = ⟨0, zeroV, c, f⟩ := run_spent h0
    refine awp_seq ?_
    -- region 3
    refine awp_run rfl (by simp only [fw0, fw1, fw2, fw3, fw4, fw5, fw6, fw7, ↓reduceIte, Nat.reduceAdd, Nat.reduceMul, Nat.reduceEqDiff, Nat.reduceLT, Nat.reduceLeDiff, reduceCtorEq, Bool.false_eq_true, Bool.not_true, Bool.not_false, and_self, Nat.le_refl, ti67, ti65, el65, ti73, ti71, ti3, ti70, ti9, ti2, ti68, fl67_0, fl67_1, fl67_2, fl67_3, fl73_0, fl73_1, fl73_2, fl73_3, fl70_0, fl70_1, fl70_2, fl70_3, fl70_4, resE_fw, resB_fw, resD_fw, encA_fw, enc_take, Tm.fw, Val.fw, List.take_zero, List.append_nil, pl73, zeroVP] <;> rfl) ?_
    refine awp_told (told_leBox (H.length + 1) (cs := .int .i64 0 :: (zeroVP ++ [.vec (c.map Sl.enc) false, .int .i64 f])) (by rw [Fw.get_at]; rfl) (resZ_le' 0 c f)) ?_
    refine awp_heap (H' := H ++ [.box t.enc, .box (resE ⟨0, zeroV, c, f⟩)]) (by rw [Fw.set_at]; rfl) ?_
    refine awp_ret ?_
    refine gives_end (.inl rfl) _ ?_
    simp [ares, aresL, ares1, rd, ev, alook, aput, Tryd.f23, ti73, resE_fw, hr]
/-- chancelref19.Eval, one depth -/
theorem c23s (Γ : Nat → PV) {B : Nat} (hB : B * 128 ≤ reachBytes) (n : Nat) (hn : n + 1 ≤ 100000) (hT : EvC Γ B n (run n)) : EvC Γ B (n + 1) (run (n + 1)) := by
  intro t env c f0 hf hfB he hc
  have hcapd : capF f0 = (if (100000 : Int) < f0 then (100000 : Int) else f0) := rfl
  have hn' : n ≤ 100000 := by omega
  refine fn_of_awp Tryd.func23 rfl (by simp [Tryd.f23]) (by simp [PV.plain, PV.bd, resE_fw]) fun H => ?_
  refine awp_seq ?_
  -- region 0
  refine awp_run rfl (by simp only [fw0, fw1, fw2, fw3, fw4, fw5, fw6, fw7, ↓reduceIte, Nat.reduceAdd, Nat.reduceMul, Nat.reduceEqDiff, Nat.reduceLT, Nat.reduceLeDiff, reduceCtorEq, Bool.false_eq_true, Bool.not_true, Bool.not_false, and_self, Nat.le_refl, ti67, ti65, el65, ti73, ti71, ti3, ti70, ti9, ti2, ti68, fl67_0, fl67_1, fl67_2, fl67_3, fl73_0, fl73_1, fl73_2, fl73_3, fl70_0, fl70_1, fl70_2, fl70_3, fl70_4, resE_fw, resB_fw, resD_fw, encA_fw, enc_take, Tm.fw, Val.fw, List.take_zero, List.append_nil] <;> rfl) ?_
  refine awp_seq ?_
  -- region 1
  refine awp_region rfl ?_
  refine aops_run 1 (by simp only [fw0, fw1, fw2, fw3, fw4, fw5, fw6, fw7, ↓reduceIte, Nat.reduceAdd, Nat.reduceMul, Nat.reduceEqDiff, Nat.reduceLT, Nat.reduceLeDiff, reduceCtorEq, Bool.false_eq_true, Bool.not_true, Bool.not_false, and_self, Nat.le_refl] <;> rfl) ?_
  refine aops_one rfl (os_min rfl rfl rfl ?_)
  rw [← hcapd]
  generalize capF f0 = f at hf hfB he ⊢
  refine aops_run 1 (by simp only [fw0, fw1, fw2, fw3, fw4, fw5, fw6, fw7, ↓reduceIte, Nat.reduceAdd, Nat.reduceMul, Nat.reduceEqDiff, Nat.reduceLT, Nat.reduceLeDiff, reduceCtorEq, Bool.false_eq_true, Bool.not_true, Bool.not_false, and_self, Nat.le_refl] <;> rfl) ?_
  refine awp_seq ?_
  refine awp_seq ?_
  -- region 2
  refine awp_run rfl (by simp only [fw0, fw1, fw2, fw3, fw4, fw5, fw6, fw7, ↓reduceIte, Nat.reduceAdd, Nat.reduceMul, Nat.reduceEqDiff, Nat.reduceLT, Nat.reduceLeDiff, reduceCtorEq, Bool.false_eq_true, Bool.not_true, Bool.not_false, and_self, Nat.le_refl] <;> rfl) ?_
  refine awp_cond (by simp only [fw0, fw1, fw2, fw3, fw4, fw5, fw6, fw7, ↓reduceIte, Nat.reduceAdd, Nat.reduceMul, Nat.reduceEqDiff, Nat.reduceLT, Nat.reduceLeDiff, reduceCtorEq, Bool.false_eq_true, Bool.not_true, Bool.not_false, and_self, Nat.le_refl] <;> rfl) ?_
  by_cases h0 : f ≤ 0
  · simp only [h0, decide_true, ↓reduceIte]
    have hr : run (n + 1) t env c f = ⟨0, zeroV, c, f⟩ := run_spent h0
    refine awp_seq ?_
    -- region 3
    refine awp_run rfl (by simp only [fw0, fw1, fw2, fw3, fw4, fw5, fw6, fw7, ↓reduceIte, Nat.reduceAdd, Nat.reduceMul, Nat.reduceEqDiff, Nat.reduceLT, Nat.reduceLeDiff, reduceCtorEq, Bool.false_eq_true, Bool.not_true, Bool.not_false, and_self, Nat.le_refl, ti67, ti65, el65, ti73, ti71, ti3, ti70, ti9, ti2, ti68, fl67_0, fl67_1, fl67_2, fl67_3, fl73_0, fl73_1, fl73_2, fl73_3, fl70_0, fl70_1, fl70_2, fl70_3, fl70_4, resE_fw, resB_fw, resD_fw, encA_fw, enc_take, Tm.fw, Val.fw, List.take_zero, List.append_nil, pl73, zeroVP] <;> rfl) ?_
    refine awp_told (told_leBox (H.length + 1) (cs := .int .i64 0 :: (zeroVP ++ [.vec (c.map Sl.enc) false, .int .i64 f])) (by rw [Fw.get_at]; rfl) (resZ_le' 0 c f)) ?_
    refine awp_heap (H' := H ++ [.box t.enc, .box (resE ⟨0, zeroV, c, f⟩)]) (by rw [Fw.set_at]; rfl) ?_
    refine awp_ret ?_
    refine gives_end (.inl rfl) _ ?_
    simp [ares, aresL, ares1, rd, ev, alook, aput, Tryd.f23, ti73, resE_fw, hr]
  simp only [h0, decide_false, Bool.false_eq_true, ↓reduceIte]
  refine awp_skip ?_
  have hw : IntKind.i64.wrap (f - 1) = f - 1 := by
    obtain ⟨j, hj⟩ : ∃ j : Nat, f = ((j + 1 : Nat) : Int) := ⟨(f - 1).toNat, by omega⟩
    rw [hj, predN j (by unfold reachBytes at hB; omega)]; omega
  have hrun : run (n + 1) t env c f = (if right t then stepR (run n) t env c (f - 1) else stuckR c (f - 1)) := by simp only [run, if_neg h0]
  have hfB' : (f - 1).toNat + 1 ≤ B := by omega
  have hf' : f - 1 ≤ n := by omega
  have hf0 : 0 ≤ f - 1 := by omega
  have he2 : EL (B - ((f - 1).toNat + 1)) env := EL_mono (by omega) he
  refine awp_seq ?_
  -- region 4
  refine awp_run rfl (by simp only [fw0, fw1, fw2, fw3, fw4, fw5, fw6, fw7, ↓reduceIte, Nat.reduceAdd, Nat.reduceMul, Nat.reduceEqDiff, Nat.reduceLT, Nat.reduceLeDiff, reduceCtorEq, Bool.false_eq_true, Bool.not_true, Bool.not_false, and_self, Nat.le_refl, ti67, ti65, el65, ti73, ti71, ti3, ti70, ti9, ti2, ti68, fl67_0, fl67_1, fl67_2, fl67_3, fl73_0, fl73_1, fl73_2, fl73_3, fl70_0, fl70_1, fl70_2, fl70_3, fl70_4, resE_fw, resB_fw, resD_fw, encA_fw, enc_take, Tm.fw, Val.fw, List.take_zero, List.append_nil, pl73, zeroVP, hw] <;> rfl) ?_
  generalize f - 1 = g at hrun hfB' hf' hf0 he2 ⊢
  have he1 : EL (B - g.toNat) env := EL_mono (by omega) he2
  refine awp_told (told_leBox (H.length + 2) (cs := .int .i64 0 :: (zeroVP ++ [.vec (c.map Sl.enc) false, .int .i64 g])) (by rw [Fw.get_at]; rfl) (resZ_le' 0 c g)) ?_
  refine awp_heap (H' := H ++ [.box t.enc, .box ([.int .i64 0] ++ zeroVP ++ [.vec [] true, .int .i64 0]), .box (resE ⟨0, zeroV, c, g⟩)]) (by rw [Fw.set_at]; rfl) ?_
  refine awp_keep (A' := [(1, .vec (env.map Bd.enc) false), (4, .ptr H.length 0), (8, .ptr (H.length + 1) 0), (9, .ptr (H.length + 2) 0)]) [1, 4, 8, 9] rfl ?_
  refine awp_seq ?_
  refine awp_seq ?_
  -- region 5 drawn
  refine awp_drawn [0, 1, 0, 0, 1, 0, 0] [0, 1, 3, 0, 8, 24, 63] mixed rfl (by kernel_rfl) ?_
  refine dops_run 2 (by simp only [fw0, fw1, fw2, fw3, fw4, fw5, fw6, fw7, ↓reduceIte, Nat.reduceAdd, Nat.reduceMul, Nat.reduceEqDiff, Nat.reduceLT, Nat.reduceLeDiff, reduceCtorEq, Bool.false_eq_true, Bool.not_true, Bool.not_false, and_self, Nat.le_refl, ti67, ti65, el65, ti73, ti71, ti3, ti70, ti9, ti2, ti68, fl67_0, fl67_1, fl67_2, fl67_3, fl73_0, fl73_1, fl73_2, fl73_3, fl70_0, fl70_1, fl70_2, fl70_3, fl70_4, resE_fw, resB_fw, resD_fw, encA_fw, enc_take, Tm.fw, Val.fw, List.take_zero, List.append_nil] <;> rfl) ?_
  refine dops_fn rfl rfl rfl rfl en43 (c43 Γ t.kind) ?_
  refine dops_run 4 (by simp only [fw0, fw1, fw2, fw3, fw4, fw5, fw6, fw7, ↓reduceIte, Nat.reduceAdd, Nat.reduceMul, Nat.reduceEqDiff, Nat.reduceLT, Nat.reduceLeDiff, reduceCtorEq, Bool.false_eq_true, Bool.not_true, Bool.not_false, and_self, Nat.le_refl, ti67, ti65, el65, ti73, ti71, ti3, ti70, ti9, ti2, ti68, fl67_0, fl67_1, fl67_2, fl67_3, fl73_0, fl73_1, fl73_2, fl73_3, fl70_0, fl70_1, fl70_2, fl70_3, fl70_4, resE_fw, resB_fw, resD_fw, encA_fw, enc_take, Tm.fw, Val.fw, List.take_zero, List.append_nil, un65, List.length_map] <;> rfl) ?_
  refine dops_end ?_
  refine awp_cond (by simp only [fw0, fw1, fw2, fw3, fw4, fw5, fw6, fw7, ↓reduceIte, Nat.reduceAdd, Nat.reduceMul, Nat.reduceEqDiff, Nat.reduceLT, Nat.reduceLeDiff, reduceCtorEq, Bool.false_eq_true, Bool.not_true, Bool.not_false, and_self, Nat.le_refl] <;> rfl) ?_
  by_cases hri : right t
  rotate_left
  · have hm : ¬ manyV t.kind = (t.kids.length : Int) := fun e => hri ((many_right t).2 e)
    simp only [hm, decide_false, Bool.not_false, ↓reduceIte]
    have hr : run (n + 1) t env c f = stuckR c g := by rw [hrun, if_neg hri]
    refine awp_seq ?_
    -- region 6
    refine awp_region rfl ?_
    refine aops_run 1 (by simp only [fw0, fw1, fw2, fw3, fw4, fw5, fw6, fw7, ↓reduceIte, Nat.reduceAdd, Nat.reduceMul, Nat.reduceEqDiff, Nat.reduceLT, Nat.reduceLeDiff, reduceCtorEq, Bool.false_eq_true, Bool.not_true, Bool.not_false, and_self, Nat.le_refl, ti67, ti65, el65, ti73, ti71, ti3, ti70, ti9, ti2, ti68, fl67_0, fl67_1, fl67_2, fl67_3, fl73_0, fl73_1, fl73_2, fl73_3, fl70_0, fl70_1, fl70_2, fl70_3, fl70_4, resE_fw, resB_fw, resD_fw, encA_fw, enc_take, Tm.fw, Val.fw, List.take_zero, List.append_nil] <;> rfl) ?_
    refine aops_fn rfl rfl rfl en44 (c44 Γ ⟨0, zeroV, c, g⟩) ?_
    refine aops_run 1 (by simp only [fw0, fw1, fw2, fw3, fw4, fw5, fw6, fw7, ↓reduceIte, Nat.reduceAdd, Nat.reduceMul, Nat.reduceEqDiff, Nat.reduceLT, Nat.reduceLeDiff, reduceCtorEq, Bool.false_eq_true, Bool.not_true, Bool.not_false, and_self, Nat.le_refl, ti67, ti65, el65, ti73, ti71, ti3, ti70, ti9, ti2, ti68, fl67_0, fl67_1, fl67_2, fl67_3, fl73_0, fl73_1, fl73_2, fl73_3, fl70_0, fl70_1, fl70_2, fl70_3, fl70_4, resE_fw, resB_fw, resD_fw, encA_fw, enc_take, Tm.fw, Val.fw, List.take_zero, List.append_nil, zeroVP] <;> rfl) ?_
    refine awp_ret ?_
    refine gives_end (.inl rfl) _ ?_
    simp [ares, aresL, ares1, rd, ev, alook, aput, Tryd.f23, ti73, resE_fw, hr]
  have hm := (many_right t).1 hri
  simp only [hm, decide_true, Bool.not_true, Bool.false_eq_true, ↓reduceIte]
  refine awp_skip ?_
  rw [if_pos hri] at hrun
  have hkid : ∀ i : Nat, i < t.kids.length → (t.kids.map Tm.enc)[i]? = some (kid t i).enc := fun i hi => by rw [List.getElem?_map, kid_get hi]; rfl
  refine awp_seq ?_
  refine awp_seq ?_
  -- region 7
  refine awp_run rfl (by simp only [fw0, fw1, fw2, fw3, fw4, fw5, fw6, fw7, ↓reduceIte, Nat.reduceAdd, Nat.reduceMul, Nat.reduceEqDiff, Nat.reduceLT, Nat.reduceLeDiff, reduceCtorEq, Bool.false_eq_true, Bool.not_true, Bool.not_false, and_self, Nat.le_refl, ti67, ti65, el65, ti73, ti71, ti3, ti70, ti9, ti2, ti68, fl67_0, fl67_1, fl67_2, fl67_3, fl73_0, fl73_1, fl73_2, fl73_3, fl70_0, fl70_1, fl70_2, fl70_3, fl70_4, resE_fw, resB_fw, resD_fw, encA_fw, enc_take, Tm.fw, Val.fw, List.take_zero, List.append_nil] <;> rfl) ?_
  refine awp_block ?_
  refine awp_seq ?_
  refine awp_run rfl (by simp only [fw0, fw1, fw2, fw3, fw4, fw5, fw6, fw7, ↓reduceIte, Nat.reduceAdd, Nat.reduceMul, Nat.reduceEqDiff, Nat.reduceLT, Nat.reduceLeDiff, reduceCtorEq, Bool.false_eq_true, Bool.not_true, Bool.not_false, and_self, Nat.le_refl] <;> rfl) ?_
  refine awp_cond (by simp only [fw0, fw1, fw2, fw3, fw4, fw5, fw6, fw7, ↓reduceIte, Nat.reduceAdd, Nat.reduceMul, Nat.reduceEqDiff, Nat.reduceLT, Nat.reduceLeDiff, reduceCtorEq, Bool.false_eq_true, Bool.not_true, Bool.not_false, and_self, Nat.le_refl] <;> rfl) ?_
  by_cases k1 : t.kind = 1
  · simp only [k1, decide_true, ↓reduceIte]
    have hr : run (n + 1) t env c f = ⟨1, wholeV t.n, c, g⟩ := by rw [hrun]; simp only [stepR, if_pos k1]
    refine awp_seq ?_
    -- region 9
    refine awp_region rfl ?_
    refine aops_run 3 (by simp only [fw0, fw1, fw2, fw3, fw4, fw5, fw6, fw7, ↓reduceIte, Nat.reduceAdd, Nat.reduceMul, Nat.reduceEqDiff, Nat.reduceLT, Nat.reduceLeDiff, reduceCtorEq, Bool.false_eq_true, Bool.not_true, Bool.not_false, and_self, Nat.le_refl, ti67, ti65, el65, ti73, ti71, ti3, ti70, ti9, ti2, ti68, fl67_0, fl67_1, fl67_2, fl67_3, fl73_0, fl73_1, fl73_2, fl73_3, fl70_0, fl70_1, fl70_2, fl70_3, fl70_4, resE_fw, resB_fw, resD_fw, encA_fw, enc_take, Tm.fw, Val.fw, List.take_zero, List.append_nil] <;> rfl) ?_
    refine aops_fn rfl rfl rfl en45 (c45 Γ ⟨0, zeroV, c, g⟩ t.n) ?_
    refine aops_run 1 (by simp only [fw0, fw1, fw2, fw3, fw4, fw5, fw6, fw7, ↓reduceIte, Nat.reduceAdd, Nat.reduceMul, Nat.reduceEqDiff, Nat.reduceLT, Nat.reduceLeDiff, reduceCtorEq, Bool.false_eq_true, Bool.not_true, Bool.not_false, and_self, Nat.le_refl, ti67, ti65, el65, ti73, ti71, ti3, ti70, ti9, ti2, ti68, fl67_0, fl67_1, fl67_2, fl67_3, fl73_0, fl73_1, fl73_2, fl73_3, fl70_0, fl70_1, fl70_2, fl70_3, fl70_4, resE_fw, resB_fw, resD_fw, encA_fw, enc_take, Tm.fw, Val.fw, List.take_zero, List.append_nil, zeroVP] <;> rfl) ?_
    refine awp_ret ?_
    refine gives_end (.inl rfl) _ ?_
    simp [ares, aresL, ares1, rd, ev, alook, aput, Tryd.f23, ti73, resE_fw, hr]
  simp only [k1, decide_false, Bool.false_eq_true, ↓reduceIte]
  refine awp_seq ?_
  refine awp_run rfl (by simp only [fw0, fw1, fw2, fw3, fw4, fw5, fw6, fw7, ↓reduceIte, Nat.reduceAdd, Nat.reduceMul, Nat.reduceEqDiff, Nat.reduceLT, Nat.reduceLeDiff, reduceCtorEq, Bool.false_eq_true, Bool.not_true, Bool.not_false, and_self, Nat.le_refl] <;> rfl) ?_
  refine awp_cond (by simp only [fw0, fw1, fw2, fw3, fw4, fw5, fw6, fw7, ↓reduceIte, Nat.reduceAdd, Nat.reduceMul, Nat.reduceEqDiff, Nat.reduceLT, Nat.reduceLeDiff, reduceCtorEq, Bool.false_eq_true, Bool.not_true, Bool.not_false, and_self, Nat.le_refl] <;> rfl) ?_
  by_cases k2 : t.kind = 2
  · simp only [k2, decide_true, ↓reduceIte]
    have hone : run (n + 1) t env c f = (if (lookV env t.name).isSome = true then ⟨1, (lookV env t.name).getD zeroV, c, g⟩ else stuckR c g) := by rw [hrun]; simp only [stepR, if_neg k1, if_pos k2]
    refine awp_seq ?_
    -- region 11
    refine awp_region rfl ?_
    refine aops_run 3 (by simp only [fw0, fw1, fw2, fw3, fw4, fw5, fw6, fw7, ↓reduceIte, Nat.reduceAdd, Nat.reduceMul, Nat.reduceEqDiff, Nat.reduceLT, Nat.reduceLeDiff, reduceCtorEq, Bool.false_eq_true, Bool.not_true, Bool.not_false, and_self, Nat.le_refl, ti67, ti65, el65, ti73, ti71, ti3, ti70, ti9, ti2, ti68, fl67_0, fl67_1, fl67_2, fl67_3, fl73_0, fl73_1, fl73_2, fl73_3, fl70_0, fl70_1, fl70_2, fl70_3, fl70_4, resE_fw, resB_fw, resD_fw, encA_fw, enc_take, Tm.fw, Val.fw, List.take_zero, List.append_nil] <;> rfl) ?_
    refine aops_fn rfl rfl rfl en46 (c46 Γ env t.name) ?_
    refine aops_run 6 (by simp only [fw0, fw1, fw2, fw3, fw4, fw5, fw6, fw7, ↓reduceIte, Nat.reduceAdd, Nat.reduceMul, Nat.reduceEqDiff, Nat.reduceLT, Nat.reduceLeDiff, reduceCtorEq, Bool.false_eq_true, Bool.not_true, Bool.not_false, and_self, Nat.le_refl, ti67, ti65, el65, ti73, ti71, ti3, ti70, ti9, ti2, ti68, fl67_0, fl67_1, fl67_2, fl67_3, fl73_0, fl73_1, fl73_2, fl73_3, fl70_0, fl70_1, fl70_2, fl70_3, fl70_4, resE_fw, resB_fw, resD_fw, encA_fw, enc_take, Tm.fw, Val.fw, List.take_zero, List.append_nil, lookP] <;> rfl) ?_
    generalize (lookV env t.name).isSome = ok at hone ⊢
    generalize (lookV env t.name).getD zeroV = v at hone ⊢
    refine awp_seq ?_
    refine awp_seq ?_
    -- region 12
    refine awp_run rfl (by simp only [fw0, fw1, fw2, fw3, fw4, fw5, fw6, fw7, ↓reduceIte, Nat.reduceAdd, Nat.reduceMul, Nat.reduceEqDiff, Nat.reduceLT, Nat.reduceLeDiff, reduceCtorEq, Bool.false_eq_true, Bool.not_true, Bool.not_false, and_self, Nat.le_refl] <;> rfl) ?_
    cases ok with
    | false =>
      have hr : run (n + 1) t env c f = stuckR c g := by rw [hone, if_neg (by decide)]
      refine awp_cond (b := true) rfl ?_
      refine awp_seq ?_
      -- region 13
      refine awp_region rfl ?_
      refine aops_run 1 (by simp only [fw0, fw1, fw2, fw3, fw4, fw5, fw6, fw7, ↓reduceIte, Nat.reduceAdd, Nat.reduceMul, Nat.reduceEqDiff, Nat.reduceLT, Nat.reduceLeDiff, reduceCtorEq, Bool.false_eq_true, Bool.not_true, Bool.not_false, and_self, Nat.le_refl, ti67, ti65, el65, ti73, ti71, ti3, ti70, ti9, ti2, ti68, fl67_0, fl67_1, fl67_2, fl67_3, fl73_0, fl73_1, fl73_2, fl73_3, fl70_0, fl70_1, fl70_2, fl70_3, fl70_4, resE_fw, resB_fw, resD_fw, encA_fw, enc_take, Tm.fw, Val.fw, List.take_zero, List.append_nil] <;> rfl) ?_
      refine aops_fn rfl rfl rfl en44 (c44 Γ ⟨0, zeroV, c, g⟩) ?_
      refine aops_run 1 (by simp only [fw0, fw1, fw2, fw3, fw4, fw5, fw6, fw7, ↓reduceIte, Nat.reduceAdd, Nat.reduceMul, Nat.reduceEqDiff, Nat.reduceLT, Nat.reduceLeDiff, reduceCtorEq, Bool.false_eq_true, Bool.not_true, Bool.not_false, and_self, Nat.le_refl, ti67, ti65, el65, ti73, ti71, ti3, ti70, ti9, ti2, ti68, fl67_0, fl67_1, fl67_2, fl67_3, fl73_0, fl73_1, fl73_2, fl73_3, fl70_0, fl70_1, fl70_2, fl70_3, fl70_4, resE_fw, resB_fw, resD_fw, encA_fw, enc_take, Tm.fw, Val.fw, List.take_zero, List.append_nil, zeroVP] <;> rfl) ?_
      refine awp_ret ?_
      refine gives_end (.inl rfl) _ ?_
      simp [ares, aresL, ares1, rd, ev, alook, aput, Tryd.f23, ti73, resE_fw, hr]
    | true =>
      have hr : run (n + 1) t env c f = ⟨1, v, c, g⟩ := by rw [hone, if_pos rfl]
      refine awp_cond (b := false) rfl ?_
      refine awp_skip ?_
      refine awp_seq ?_
      -- region 14
      refine awp_region rfl ?_
      refine aops_run 2 (by simp only [fw0, fw1, fw2, fw3, fw4, fw5, fw6, fw7, ↓reduceIte, Nat.reduceAdd, Nat.reduceMul, Nat.reduceEqDiff, Nat.reduceLT, Nat.reduceLeDiff, reduceCtorEq, Bool.false_eq_true, Bool.not_true, Bool.not_false, and_self, Nat.le_refl, ti67, ti65, el65, ti73, ti71, ti3, ti70, ti9, ti2, ti68, fl67_0, fl67_1, fl67_2, fl67_3, fl73_0, fl73_1, fl73_2, fl73_3, fl70_0, fl70_1, fl70_2, fl70_3, fl70_4, resE_fw, resB_fw, resD_fw, encA_fw, enc_take, Tm.fw, Val.fw, List.take_zero, List.append_nil] <;> rfl) ?_
      refine aops_fn rfl rfl rfl en47 (c47 Γ ⟨0, zeroV, c, g⟩ v) ?_
      refine aops_run 1 (by simp only [fw0, fw1, fw2, fw3, fw4, fw5, fw6, fw7, ↓reduceIte, Nat.reduceAdd, Nat.reduceMul, Nat.reduceEqDiff, Nat.reduceLT, Nat.reduceLeDiff, reduceCtorEq, Bool.false_eq_true, Bool.not_true, Bool.not_false, and_self, Nat.le_refl, ti67, ti65, el65, ti73, ti71, ti3, ti70, ti9, ti2, ti68, fl67_0, fl67_1, fl67_2, fl67_3, fl73_0, fl73_1, fl73_2, fl73_3, fl70_0, fl70_1, fl70_2, fl70_3, fl70_4, resE_fw, resB_fw, resD_fw, encA_fw, enc_take, Tm.fw, Val.fw, List.take_zero, List.append_nil, zeroVP] <;> rfl) ?_
      refine awp_ret ?_
      refine gives_end (.inl rfl) _ ?_
      simp [ares, aresL, ares1, rd, ev, alook, aput, Tryd.f23, ti73, resE_fw, hr]
  simp only [k2, decide_false, Bool.false_eq_true, ↓reduceIte]
  refine awp_seq ?_
  refine awp_run rfl (by simp only [fw0, fw1, fw2, fw3, fw4, fw5, fw6, fw7, ↓reduceIte, Nat.reduceAdd, Nat.reduceMul, Nat.reduceEqDiff, Nat.reduceLT, Nat.reduceLeDiff, reduceCtorEq, Bool.false_eq_true, Bool.not_true, Bool.not_false, and_self, Nat.le_refl] <;> rfl) ?_
  refine awp_cond (by simp only [fw0, fw1, fw2, fw3, fw4, fw5, fw6, fw7, ↓reduceIte, Nat.reduceAdd, Nat.reduceMul, Nat.reduceEqDiff, Nat.reduceLT, Nat.reduceLeDiff, reduceCtorEq, Bool.false_eq_true, Bool.not_true, Bool.not_false, and_self, Nat.le_refl] <;> rfl) ?_
  by_cases k3 : t.kind = 3
  · simp only [k3, decide_true, ↓reduceIte]
    have hr : run (n + 1) t env c f = ⟨1, funV t.name (kid t 0) env, c, g⟩ := by rw [hrun]; simp only [stepR, if_neg k1, if_neg k2, if_pos k3]
    have hk0 : 0 < t.kids.length := by
      have := hm; rw [k3] at this; have h3 : manyV 3 = 1 := rfl; rw [h3] at this; omega
    refine awp_seq ?_
    -- region 16 drawn
    refine awp_drawn [1, 0, 1, 0, 1, 0, 1, 0, 0, 0, 2] [0, 0, 2, 0, 8, 24, 56, 0, 254, 511, 1023] mixed rfl (by kernel_rfl) ?_
    refine dops_run 9 (by simp only [fw0, fw1, fw2, fw3, fw4, fw5, fw6, fw7, ↓reduceIte, Nat.reduceAdd, Nat.reduceMul, Nat.reduceEqDiff, Nat.reduceLT, Nat.reduceLeDiff, reduceCtorEq, Bool.false_eq_true, Bool.not_true, Bool.not_false, and_self, Nat.le_refl, ti67, ti65, el65, ti73, ti71, ti3, ti70, ti9, ti2, ti68, fl67_0, fl67_1, fl67_2, fl67_3, fl73_0, fl73_1, fl73_2, fl73_3, fl70_0, fl70_1, fl70_2, fl70_3, fl70_4, resE_fw, resB_fw, resD_fw, encA_fw, enc_take, Tm.fw, Val.fw, List.take_zero, List.append_nil, pl70, zeroVP, Int.reduceToNat, Int.reduceLE, Int.le_refl, true_and, hkid 0 hk0] <;> rfl) ?_
    refine dops_fn rfl rfl rfl rfl en47 (by
      have h := c47 Γ ⟨0, zeroV, c, g⟩ (funV t.name (kid t 0) env)
      rw [fun_enc] at h
      exact h) ?_
    refine dops_run 1 (by simp only [fw0, fw1, fw2, fw3, fw4, fw5, fw6, fw7, ↓reduceIte, Nat.reduceAdd, Nat.reduceMul, Nat.reduceEqDiff, Nat.reduceLT, Nat.reduceLeDiff, reduceCtorEq, Bool.false_eq_true, Bool.not_true, Bool.not_false, and_self, Nat.le_refl, ti67, ti65, el65, ti73, ti71, ti3, ti70, ti9, ti2, ti68, fl67_0, fl67_1, fl67_2, fl67_3, fl73_0, fl73_1, fl73_2, fl73_3, fl70_0, fl70_1, fl70_2, fl70_3, fl70_4, resE_fw, resB_fw, resD_fw, encA_fw, enc_take, Tm.fw, Val.fw, List.take_zero, List.append_nil, zeroVP] <;> rfl) ?_
    refine dops_end ?_
    refine awp_ret ?_
    refine gives_end (.inl rfl) _ ?_
    simp [ares, aresL, ares1, rd, ev, alook, aput, Tryd.f23, ti73, resE_fw, hr]
  simp only [k3, decide_false, Bool.false_eq_true, ↓reduceIte]
  refine awp_skip ?_
  simp only [Post.block, Post.then]
  have hk0 : 0 < t.kids.length := by
    obtain ⟨h1, h2, h3⟩ := hri
    have : ∀ k : Nat, k < 14 → k ≠ 0 → k ≠ 1 → k ≠ 2 → 0 < kidsOf.getD k 0 := by decide
    have hk00 : t.kind.toNat ≠ 0 := fun e => by
      rw [e] at h3; have : kidsOf.getD 0 0 = -1 := rfl; omega
    have := this t.kind.toNat (by omega) hk00 (by omega) (by omega)
    omega
  have hk1' : t.kind ≠ 8 → t.kind ≠ 10 → t.kind ≠ 9 → 1 < t.kids.length := fun e1 e2 e3 => by
    obtain ⟨h1, h2, h3⟩ := hri
    have hq := kids_two ⟨t.kind.toNat, by omega⟩
    dsimp only at hq
    have hk00 : t.kind.toNat ≠ 0 := fun e => by
      rw [e] at h3; have : kidsOf.getD 0 0 = -1 := rfl; omega
    rcases hq with hq | hq | hq | hq | hq | hq | hq <;> omega
  have hk9 : t.kind = 9 → 1 < t.kids.length := fun e => by
    have := hm; rw [e] at this; have h3 : manyV 9 = 2 := rfl; rw [h3] at this; omega
  have hk6 : t.kind = 6 → 2 < t.kids.length := fun e => by
    have := hm; rw [e] at this; have h3 : manyV 6 = 3 := rfl; rw [h3] at this; omega
  refine awp_seq ?_
  -- region 17 drawn
  refine awp_drawn [0, 4, 0, 4, 0, 0, 4, 0, 4, 0, 3, 2] [0, 1, 3, 7, 0, 0, 32, 0, 128, 511, 0, 2047] mixed rfl (by kernel_rfl) ?_
  refine dops_run 9 (by simp only [fw0, fw1, fw2, fw3, fw4, fw5, fw6, fw7, ↓reduceIte, Nat.reduceAdd, Nat.reduceMul, Nat.reduceEqDiff, Nat.reduceLT, Nat.reduceLeDiff, reduceCtorEq, Bool.false_eq_true, Bool.not_true, Bool.not_false, and_self, Nat.le_refl, ti67, ti65, el65, ti73, ti71, ti3, ti70, ti9, ti2, ti68, fl67_0, fl67_1, fl67_2, fl67_3, fl73_0, fl73_1, fl73_2, fl73_3, fl70_0, fl70_1, fl70_2, fl70_3, fl70_4, resE_fw, resB_fw, resD_fw, encA_fw, enc_take, Tm.fw, Val.fw, List.take_zero, List.append_nil, zeroVP, List.take_length, Int.reduceToNat, Int.reduceLE, Int.le_refl, true_and, hkid 0 hk0] <;> rfl) ?_
  refine dops_fn rfl rfl rfl rfl en23 (hT.at hn' (kid t 0) hf' (by omega) he1 hc) ?_
  refine dops_make1 rfl rfl (by simp only [fw0, fw1, fw2, fw3, fw4, fw5, fw6, fw7, ↓reduceIte, Nat.reduceAdd, Nat.reduceMul, Nat.reduceEqDiff, Nat.reduceLT, Nat.reduceLeDiff, reduceCtorEq, Bool.false_eq_true, Bool.not_true, Bool.not_false, and_self, Nat.le_refl, ti67, ti65, el65, ti73, ti71, ti3, ti70, ti9, ti2, ti68, fl67_0, fl67_1, fl67_2, fl67_3, fl73_0, fl73_1, fl73_2, fl73_3, fl70_0, fl70_1, fl70_2, fl70_3, fl70_4, resE_fw, resB_fw, resD_fw, encA_fw, enc_take, Tm.fw, Val.fw, List.take_zero, List.append_nil] <;> rfl) (by simp [View.vw, List.take_append]) ?_
  refine dops_run 1 (by simp only [fw0, fw1, fw2, fw3, fw4, fw5, fw6, fw7, ↓reduceIte, Nat.reduceAdd, Nat.reduceMul, Nat.reduceEqDiff, Nat.reduceLT, Nat.reduceLeDiff, reduceCtorEq, Bool.false_eq_true, Bool.not_true, Bool.not_false, and_self, Nat.le_refl, ti67, ti65, el65, ti73, ti71, ti3, ti70, ti9, ti2, ti68, fl67_0, fl67_1, fl67_2, fl67_3, fl73_0, fl73_1, fl73_2, fl73_3, fl70_0, fl70_1, fl70_2, fl70_3, fl70_4, resE_fw, resB_fw, resD_fw, encA_fw, enc_take, Tm.fw, Val.fw, List.take_zero, List.append_nil] <;> rfl) ?_
  refine dops_end ?_
  have hstep : run (n + 1) t env c f = (let a := run n (kid t 0) env c g
    if t.kind = 9 then (if a.st = 2 then run n (kid t 1) (env ++ [.mk t.name a.v]) a.c a.f else a)
    else if a.st = 1 then oneR (run n) t env a else a) := by
    rw [hrun]
    by_cases k7 : t.kind = 7
    · simp only [stepR, oneR, if_neg k1, if_neg k2, if_neg k3, if_pos k7, if_neg (show ¬ t.kind = 9 by omega)]
      rfl
    · simp only [stepR, oneR, if_neg k1, if_neg k2, if_neg k3, if_neg k7]
  obtain ⟨ha, ha'⟩ := run_inv B n (kid t 0) env c g hf' (by omega) he1
  have hap := ha.pos hf0
  have hal := ha.le
  have hac := ha.c
  have hav := ha.v
  dsimp only at hstep
  generalize run n (kid t 0) env c g = a at ha ha' hap hal hac hav hstep ⊢
  refine awp_heap (H' := H ++ [.box t.enc, .box ([.int .i64 0] ++ zeroVP ++ [.vec [] true, .int .i64 0]), .box (resE ⟨0, zeroV, c, g⟩), .box (resE a)]) (by simp [zeroVP]) ?_
  refine awp_seq ?_
  refine awp_seq ?_
  -- region 18
  by_cases k9 : t.kind = 9
  · rw [if_pos k9] at hstep
    refine awp_run rfl (by simp only [fw0, fw1, fw2, fw3, fw4, fw5, fw6, fw7, ↓reduceIte, Nat.reduceAdd, Nat.reduceMul, Nat.reduceEqDiff, Nat.reduceLT, Nat.reduceLeDiff, reduceCtorEq, Bool.false_eq_true, Bool.not_true, Bool.not_false, and_self, Nat.le_refl, ti67, ti65, el65, ti73, ti71, ti3, ti70, ti9, ti2, ti68, fl67_0, fl67_1, fl67_2, fl67_3, fl73_0, fl73_1, fl73_2, fl73_3, fl70_0, fl70_1, fl70_2, fl70_3, fl70_4, resE_fw, resB_fw, resD_fw, encA_fw, enc_take, Tm.fw, Val.fw, List.take_zero, List.append_nil, k9, decide_true] <;> rfl) ?_
    refine awp_cond (by simp only [fw0, fw1, fw2, fw3, fw4, fw5, fw6, fw7, ↓reduceIte, Nat.reduceAdd, Nat.reduceMul, Nat.reduceEqDiff, Nat.reduceLT, Nat.reduceLeDiff, reduceCtorEq, Bool.false_eq_true, Bool.not_true, Bool.not_false, and_self, Nat.le_refl] <;> rfl) ?_
    by_cases h2 : a.st = 2
    · have hr : run (n + 1) t env c f = run n (kid t 1) (env ++ [.mk t.name a.v]) a.c a.f := by rw [hstep, if_pos h2]
      simp only [h2, decide_true, ↓reduceIte]
      have hlt := ha'.resolve_left (by omega)
      have hk1 := hk9 k9
      refine awp_seq ?_
      -- region 19 drawn
      refine awp_drawn [0, 1, 0, 1, 0, 0, 1, 0, 1, 0, 0, 1, 0, 1, 0, 2] [0, 1, 3, 7, 0, 0, 32, 0, 128, 496, 0, 1024, 0, 4096, 16383, 32767] mixed rfl (by kernel_rfl) ?_
      refine dops_run 9 (by simp only [fw0, fw1, fw2, fw3, fw4, fw5, fw6, fw7, ↓reduceIte, Nat.reduceAdd, Nat.reduceMul, Nat.reduceEqDiff, Nat.reduceLT, Nat.reduceLeDiff, reduceCtorEq, Bool.false_eq_true, Bool.not_true, Bool.not_false, and_self, Nat.le_refl, ti67, ti65, el65, ti73, ti71, ti3, ti70, ti9, ti2, ti68, fl67_0, fl67_1, fl67_2, fl67_3, fl73_0, fl73_1, fl73_2, fl73_3, fl70_0, fl70_1, fl70_2, fl70_3, fl70_4, resE_fw, resB_fw, resD_fw, encA_fw, enc_take, Tm.fw, Val.fw, List.take_zero, List.append_nil, Int.reduceToNat, Int.reduceLE, Int.le_refl, true_and, hkid 1 hk1] <;> rfl) ?_
      refine dops_fn rfl rfl rfl rfl en48 (c48 Γ env t.name a.v (by have := he1.1; omega)) ?_
      refine dops_run 4 (by simp only [fw0, fw1, fw2, fw3, fw4, fw5, fw6, fw7, ↓reduceIte, Nat.reduceAdd, Nat.reduceMul, Nat.reduceEqDiff, Nat.reduceLT, Nat.reduceLeDiff, reduceCtorEq, Bool.false_eq_true, Bool.not_true, Bool.not_false, and_self, Nat.le_refl, ti67, ti65, el65, ti73, ti71, ti3, ti70, ti9, ti2, ti68, fl67_0, fl67_1, fl67_2, fl67_3, fl73_0, fl73_1, fl73_2, fl73_3, fl70_0, fl70_1, fl70_2, fl70_3, fl70_4, resE_fw, resB_fw, resD_fw, encA_fw, enc_take, Tm.fw, Val.fw, List.take_zero, List.append_nil] <;> rfl) ?_
      refine dops_fn rfl rfl rfl rfl en23 (hT.at hn' (kid t 1) (by omega) (by omega) (EL_bind (k := B - (g.toNat + 1)) he2 (by omega) hav _) (by rw [hac]; exact hc)) ?_
      refine dops_run 1 (by simp only [fw0, fw1, fw2, fw3, fw4, fw5, fw6, fw7, ↓reduceIte, Nat.reduceAdd, Nat.reduceMul, Nat.reduceEqDiff, Nat.reduceLT, Nat.reduceLeDiff, reduceCtorEq, Bool.false_eq_true, Bool.not_true, Bool.not_false, and_self, Nat.le_refl, ti67, ti65, el65, ti73, ti71, ti3, ti70, ti9, ti2, ti68, fl67_0, fl67_1, fl67_2, fl67_3, fl73_0, fl73_1, fl73_2, fl73_3, fl70_0, fl70_1, fl70_2, fl70_3, fl70_4, resE_fw, resB_fw, resD_fw, encA_fw, enc_take, Tm.fw, Val.fw, List.take_zero, List.append_nil, zeroVP] <;> rfl) ?_
      refine dops_end ?_
      refine awp_ret ?_
      refine gives_end (.inl rfl) _ ?_
      simp [ares, aresL, ares1, rd, ev, alook, aput, Tryd.f23, ti73, resE_fw, hr]
    · have hr : run (n + 1) t env c f = a := by rw [hstep, if_neg h2]
      simp only [h2, decide_false, Bool.false_eq_true, ↓reduceIte]
      refine awp_skip ?_
      refine awp_seq ?_
      refine awp_seq ?_
      -- region 20
      by_cases h1 : a.st = 1
      · refine awp_run rfl (by simp only [fw0, fw1, fw2, fw3, fw4, fw5, fw6, fw7, ↓reduceIte, Nat.reduceAdd, Nat.reduceMul, Nat.reduceEqDiff, Nat.reduceLT, Nat.reduceLeDiff, reduceCtorEq, Bool.false_eq_true, Bool.not_true, Bool.not_false, and_self, Nat.le_refl, ti67, ti65, el65, ti73, ti71, ti3, ti70, ti9, ti2, ti68, fl67_0, fl67_1, fl67_2, fl67_3, fl73_0, fl73_1, fl73_2, fl73_3, fl70_0, fl70_1, fl70_2, fl70_3, fl70_4, resE_fw, resB_fw, resD_fw, encA_fw, enc_take, Tm.fw, Val.fw, List.take_zero, List.append_nil, h1, k9, decide_true, Bool.not_true] <;> rfl) ?_
        refine awp_cond (b := true) rfl ?_
        refine awp_seq ?_
        -- region 21
        refine awp_run rfl (by simp only [fw0, fw1, fw2, fw3, fw4, fw5, fw6, fw7, ↓reduceIte, Nat.reduceAdd, Nat.reduceMul, Nat.reduceEqDiff, Nat.reduceLT, Nat.reduceLeDiff, reduceCtorEq, Bool.false_eq_true, Bool.not_true, Bool.not_false, and_self, Nat.le_refl, ti67, ti65, el65, ti73, ti71, ti3, ti70, ti9, ti2, ti68, fl67_0, fl67_1, fl67_2, fl67_3, fl73_0, fl73_1, fl73_2, fl73_3, fl70_0, fl70_1, fl70_2, fl70_3, fl70_4, resE_fw, resB_fw, resD_fw, encA_fw, enc_take, Tm.fw, Val.fw, List.take_zero, List.append_nil, zeroVP] <;> rfl) ?_
        refine awp_ret ?_
        refine gives_end (.inl rfl) _ ?_
        simp [ares, aresL, ares1, rd, ev, alook, aput, Tryd.f23, ti73, resE_fw, hr]
      · refine awp_run rfl (by simp only [fw0, fw1, fw2, fw3, fw4, fw5, fw6, fw7, ↓reduceIte, Nat.reduceAdd, Nat.reduceMul, Nat.reduceEqDiff, Nat.reduceLT, Nat.reduceLeDiff, reduceCtorEq, Bool.false_eq_true, Bool.not_true, Bool.not_false, and_self, Nat.le_refl, ti67, ti65, el65, ti73, ti71, ti3, ti70, ti9, ti2, ti68, fl67_0, fl67_1, fl67_2, fl67_3, fl73_0, fl73_1, fl73_2, fl73_3, fl70_0, fl70_1, fl70_2, fl70_3, fl70_4, resE_fw, resB_fw, resD_fw, encA_fw, enc_take, Tm.fw, Val.fw, List.take_zero, List.append_nil, h1, decide_false, Bool.not_false] <;> rfl) ?_
        refine awp_cond (b := true) rfl ?_
        refine awp_seq ?_
        -- region 21
        refine awp_run rfl (by simp only [fw0, fw1, fw2, fw3, fw4, fw5, fw6, fw7, ↓reduceIte, Nat.reduceAdd, Nat.reduceMul, Nat.reduceEqDiff, Nat.reduceLT, Nat.reduceLeDiff, reduceCtorEq, Bool.false_eq_true, Bool.not_true, Bool.not_false, and_self, Nat.le_refl, ti67, ti65, el65, ti73, ti71, ti3, ti70, ti9, ti2, ti68, fl67_0, fl67_1, fl67_2, fl67_3, fl73_0, fl73_1, fl73_2, fl73_3, fl70_0, fl70_1, fl70_2, fl70_3, fl70_4, resE_fw, resB_fw, resD_fw, encA_fw, enc_take, Tm.fw, Val.fw, List.take_zero, List.append_nil, zeroVP] <;> rfl) ?_
        refine awp_ret ?_
        refine gives_end (.inl rfl) _ ?_
        simp [ares, aresL, ares1, rd, ev, alook, aput, Tryd.f23, ti73, resE_fw, hr]
  rw [if_neg k9] at hstep
  refine awp_run rfl (by simp only [fw0, fw1, fw2, fw3, fw4, fw5, fw6, fw7, ↓reduceIte, Nat.reduceAdd, Nat.reduceMul, Nat.reduceEqDiff, Nat.reduceLT, Nat.reduceLeDiff, reduceCtorEq, Bool.false_eq_true, Bool.not_true, Bool.not_false, and_self, Nat.le_refl, ti67, ti65, el65, ti73, ti71, ti3, ti70, ti9, ti2, ti68, fl67_0, fl67_1, fl67_2, fl67_3, fl73_0, fl73_1, fl73_2, fl73_3, fl70_0, fl70_1, fl70_2, fl70_3, fl70_4, resE_fw, resB_fw, resD_fw, encA_fw, enc_take, Tm.fw, Val.fw, List.take_zero, List.append_nil, k9, decide_false] <;> rfl) ?_
  refine awp_cond (b := false) rfl ?_
  refine awp_skip ?_
  refine awp_seq ?_
  refine awp_seq ?_
  -- region 20
  by_cases h1 : a.st = 1
  rotate_left
  · have hr : run (n + 1) t env c f = a := by rw [hstep, if_neg h1]
    refine awp_run rfl (by simp only [fw0, fw1, fw2, fw3, fw4, fw5, fw6, fw7, ↓reduceIte, Nat.reduceAdd, Nat.reduceMul, Nat.reduceEqDiff, Nat.reduceLT, Nat.reduceLeDiff, reduceCtorEq, Bool.false_eq_true, Bool.not_true, Bool.not_false, and_self, Nat.le_refl, ti67, ti65, el65, ti73, ti71, ti3, ti70, ti9, ti2, ti68, fl67_0, fl67_1, fl67_2, fl67_3, fl73_0, fl73_1, fl73_2, fl73_3, fl70_0, fl70_1, fl70_2, fl70_3, fl70_4, resE_fw, resB_fw, resD_fw, encA_fw, enc_take, Tm.fw, Val.fw, List.take_zero, List.append_nil, h1, decide_false, Bool.not_false] <;> rfl) ?_
    refine awp_cond (b := true) rfl ?_
    refine awp_seq ?_
    -- region 21
    refine awp_run rfl (by simp only [fw0, fw1, fw2, fw3, fw4, fw5, fw6, fw7, ↓reduceIte, Nat.reduceAdd, Nat.reduceMul, Nat.reduceEqDiff, Nat.reduceLT, Nat.reduceLeDiff, reduceCtorEq, Bool.false_eq_true, Bool.not_true, Bool.not_false, and_self, Nat.le_refl, ti67, ti65, el65, ti73, ti71, ti3, ti70, ti9, ti2, ti68, fl67_0, fl67_1, fl67_2, fl67_3, fl73_0, fl73_1, fl73_2, fl73_3, fl70_0, fl70_1, fl70_2, fl70_3, fl70_4, resE_fw, resB_fw, resD_fw, encA_fw, enc_take, Tm.fw, Val.fw, List.take_zero, List.append_nil, zeroVP] <;> rfl) ?_
    refine awp_ret ?_
    refine gives_end (.inl rfl) _ ?_
    simp [ares, aresL, ares1, rd, ev, alook, aput, Tryd.f23, ti73, resE_fw, hr]
  have hr : run (n + 1) t env c f = oneR (run n) t env a := by rw [hstep, if_pos h1]
  have hlt := ha'.resolve_left (by omega)
  refine awp_run rfl (by simp only [fw0, fw1, fw2, fw3, fw4, fw5, fw6, fw7, ↓reduceIte, Nat.reduceAdd, Nat.reduceMul, Nat.reduceEqDiff, Nat.reduceLT, Nat.reduceLeDiff, reduceCtorEq, Bool.false_eq_true, Bool.not_true, Bool.not_false, and_self, Nat.le_refl, ti67, ti65, el65, ti73, ti71, ti3, ti70, ti9, ti2, ti68, fl67_0, fl67_1, fl67_2, fl67_3, fl73_0, fl73_1, fl73_2, fl73_3, fl70_0, fl70_1, fl70_2, fl70_3, fl70_4, resE_fw, resB_fw, resD_fw, encA_fw, enc_take, Tm.fw, Val.fw, List.take_zero, List.append_nil, h1, k9, decide_true, decide_false, Bool.not_true] <;> rfl) ?_
  refine awp_cond (b := false) rfl ?_
  refine awp_skip ?_
  refine awp_seq ?_
  -- region 22
  refine awp_region rfl ?_
  refine aops_run 3 (by simp only [fw0, fw1, fw2, fw3, fw4, fw5, fw6, fw7, ↓reduceIte, Nat.reduceAdd, Nat.reduceMul, Nat.reduceEqDiff, Nat.reduceLT, Nat.reduceLeDiff, reduceCtorEq, Bool.false_eq_true, Bool.not_true, Bool.not_false, and_self, Nat.le_refl, ti67, ti65, el65, ti73, ti71, ti3, ti70, ti9, ti2, ti68, fl67_0, fl67_1, fl67_2, fl67_3, fl73_0, fl73_1, fl73_2, fl73_3, fl70_0, fl70_1, fl70_2, fl70_3, fl70_4, resE_fw, resB_fw, resD_fw, encA_fw, enc_take, Tm.fw, Val.fw, List.take_zero, List.append_nil] <;> rfl) ?_
  refine aops_fn rfl rfl rfl en49 (c49 Γ hT (run_inv B n) hn' hB t env a h1 (by omega) hap (by omega) (EL_mono (by omega) he2) hav (by rw [hac]; exact hc) (fun e1 e2 => hk1' e1 e2 k9) hk6) ?_
  refine aops_run 1 (by simp only [fw0, fw1, fw2, fw3, fw4, fw5, fw6, fw7, ↓reduceIte, Nat.reduceAdd, Nat.reduceMul, Nat.reduceEqDiff, Nat.reduceLT, Nat.reduceLeDiff, reduceCtorEq, Bool.false_eq_true, Bool.not_true, Bool.not_false, and_self, Nat.le_refl, ti67, ti65, el65, ti73, ti71, ti3, ti70, ti9, ti2, ti68, fl67_0, fl67_1, fl67_2, fl67_3, fl73_0, fl73_1, fl73_2, fl73_3, fl70_0, fl70_1, fl70_2, fl70_3, fl70_4, resE_fw, resB_fw, resD_fw, encA_fw, enc_take, Tm.fw, Val.fw, List.take_zero, List.append_nil, zeroVP] <;> rfl) ?_
  refine awp_ret ?_
  refine gives_end (.inl rfl) _ ?_
  simp [ares, aresL, ares1, rd, ev, alook, aput, Tryd.f23, ti73, resE_fw, hr]
theorem c23 (Γ : Nat → PV) {B : Nat} (hB : B * 128 ≤ reachBytes) (n : Nat) (hn : n + 1 ≤ 100000) : EvC Γ B (n + 1) (run (n + 1)) := by
  induction n with
  | zero => exact c23s Γ hB 0 hn (c23z Γ)
  | succ n ih => exact c23s Γ hB (n + 1) hn (ih (by omega))

end Go.Proofs.YtnjlfbefpoecpaaDoor
