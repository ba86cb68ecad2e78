/- The law on renaming. -/
import Derived.Test.YtdacialfjlcboaaGreatDoorT10e
namespace Go.Proofs.YtdacialfjlcboaaGreatDoor
set_option linter.unusedVariables false
set_option linter.unusedSimpArgs false
set_option maxRecDepth 100000
open Go.RowKit Fw

/-- The new atoms. -/
def newT (n : Int) (k : Nat) : List Int := (List.range k).map fun i : Nat => -1 - (1000000 + n + (i : Int))
theorem newT_len (n : Int) (k : Nat) : (newT n k).length = k := by simp [newT]
theorem newT_get (n : Int) {k i : Nat} (h : i < k) : (newT n k)[i]? = some (-1 - (1000000 + n + (i : Int))) := by
  unfold newT
  rw [List.getElem?_map, List.getElem?_range h]; rfl
theorem newT_snoc (n : Int) (k : Nat) : newT n (k + 1) = newT n k ++ [-1 - (1000000 + n + (k : Int))] := by
  unfold newT
  rw [List.range_succ, List.map_append]; rfl
theorem newT_low {n : Int} (hn : 0 ≤ n) {k j : Nat} {a : Int} (ha : -1000000 ≤ a) : (newT n k)[j]? ≠ some a := fun h => by
  by_cases hj : j < k
  · rw [newT_get n hj, Option.some.injEq] at h; omega
  · rw [List.getElem?_eq_none (by rw [newT_len]; omega)] at h; cases h
theorem ren_pos {V : List Int} (hV : V.Pairwise (· < ·)) {a : Int} (T : List Int) (ha : a ∈ V) : ∃ k, ∃ h : k < V.length, V[k]? = some a ∧ renI V T a = T.getD k a := by
  obtain ⟨k, h, rfl⟩ := List.getElem_of_mem ha
  refine ⟨k, h, List.getElem?_eq_getElem h, renI_some (fun j hj => ?_) (List.getElem?_eq_getElem h)⟩
  rw [List.getElem?_eq_getElem (Nat.lt_trans hj h)]
  intro e
  have := List.pairwise_iff_getElem.1 hV j k (Nat.lt_trans hj h) h hj
  rw [Option.some.injEq] at e; omega
theorem ren_mem {V : List Int} (hV : V.Pairwise (· < ·)) {n : Int} {a : Int} (ha : a ∈ V) : ∃ k, ∃ h : k < V.length, V[k]? = some a ∧ renI V (newT n V.length) a = -1 - (1000000 + n + (k : Int)) := by
  obtain ⟨k, h, h1, h2⟩ := ren_pos hV (newT n V.length) ha
  refine ⟨k, h, h1, h2.trans ?_⟩
  rw [List.getD_eq_getElem?_getD, newT_get n h]; rfl
theorem ren_not {V : List Int} {a : Int} (T : List Int) (ha : a ∉ V) : renI V T a = a := renI_none fun j _ h => ha (List.mem_of_getElem? h)
theorem ren_neg {V : List Int} (hV : V.Pairwise (· < ·)) {n : Int} (hn : 0 ≤ n) (hp : ∀ x ∈ V, 0 ≤ x) {a : Int} (ha : 0 ≤ a → a ∈ V) : renI V (newT n V.length) a < 0 := by
  by_cases h : 0 ≤ a
  · obtain ⟨k, _, _, h2⟩ := ren_mem hV (n := n) (ha h)
    rw [h2]; omega
  · rw [ren_not _ fun hm => h (hp a hm)]; omega
theorem ren_back {V : List Int} (hV : V.Pairwise (· < ·)) {n : Int} (hn : 0 ≤ n) (hp : ∀ x ∈ V, 0 ≤ x) {a : Int} (ha : 0 ≤ a → a ∈ V) (hl : -1000000 ≤ a) : renI (newT n V.length) V (renI V (newT n V.length) a) = a := by
  by_cases h : 0 ≤ a
  · obtain ⟨k, hk, h1, h2⟩ := ren_mem hV (n := n) (ha h)
    rw [h2, renI_some (i := k) (fun j hj e => ?_) (newT_get n hk), List.getD_eq_getElem?_getD, h1]
    · rfl
    · rw [newT_get n (Nat.lt_trans hj hk), Option.some.injEq] at e; omega
  · rw [ren_not _ fun hm => h (hp a hm)]
    exact renI_none fun j _ => newT_low hn hl
theorem vars_sorted (l : List Pr) : (gath gV l).Pairwise (· < ·) := onceI_rise (outsP gV l)
theorem vars_nil {l : List Pr} (h : ∀ p ∈ l, p.a < 0 ∧ p.b < 0) : gath gV l = [] := by
  refine List.eq_nil_iff_forall_not_mem.2 fun x hx => ?_
  obtain ⟨h0, p, hp, h1⟩ := (vars_mem l x).1 hx
  obtain ⟨h2, h3⟩ := h p hp
  rcases h1 with h1 | h1 <;> omega
theorem map_same {g : Int → Int} {l : List Pr} (h : ∀ p ∈ l, g p.a = p.a ∧ g p.b = p.b) : l.map (Pr.map g) = l := by
  conv => rhs; rw [← List.map_id l]
  refine List.map_congr_left fun p hp => ?_
  exact pr_ext (h p hp).1 (h p hp).2

set_option maxHeartbeats 4000000 in
/-- AtomRenames -/
theorem c8 (Γ : Nat → PV) (hΓ : Tab Γ) (l : List Pr) (n : Int) (hn0 : 0 ≤ n) (hn1 : n < 256) (hl : l.length ≤ 2000000) (ho : OkP l) : Gives Tryz.prog Γ 8 [.vec (l.map Pr.enc) false, .int .u8 n] (.bool true) := by
  have hnw : IntKind.i64.wrap n = n := wrapId ⟨by omega, by omega⟩
  have hnm : IntKind.i64.wrap (1000000 + n) = 1000000 + n := wrapId ⟨by omega, by omega⟩
  have h12 := c12 Γ l false (by omega)
  have hVs := vars_sorted l
  have hVm := vars_mem l
  have hVl := both_le l
  generalize hV : gath gV l = V at *
  have hV0 : ∀ x ∈ V, 0 ≤ x := fun x hx => ((hVm x).1 hx).1
  have hin : ∀ p ∈ l, (0 ≤ p.a → p.a ∈ V) ∧ (0 ≤ p.b → p.b ∈ V) := fun p hp => ⟨fun h => (hVm _).2 ⟨h, p, hp, .inl rfl⟩, fun h => (hVm _).2 ⟨h, p, hp, .inr rfl⟩⟩
  have hVl2 : V.length ≤ 4000000 := by omega
  refine fn_of_awp Tryz.func8 rfl (by simp [Tryz.f8]) rfl fun H => ?_
  refine awp_bd fun hbd => ?_
  refine awp_seq ?_
  refine awp_run rfl (by simp only [fwA, ↓reduceIte, Nat.reduceAdd, Nat.reduceMul, Nat.reduceEqDiff, Nat.reduceLT, Nat.reduceLeDiff, reduceCtorEq] <;> rfl) ?_
  refine awp_seq ?_
  refine awp_region rfl ?_
  refine aops_fn rfl rfl rfl en9 (c9 Γ hΓ) ?_
  refine aops_run 1 (by simp only [fwA, ↓reduceIte, Nat.reduceAdd, Nat.reduceMul, Nat.reduceEqDiff, Nat.reduceLT, Nat.reduceLeDiff, reduceCtorEq] <;> rfl) ?_
  refine awp_seq ?_
  refine awp_seq ?_
  refine awp_run rfl (by simp only [fwA, ↓reduceIte, Nat.reduceAdd, Nat.reduceMul, Nat.reduceEqDiff, Nat.reduceLT, Nat.reduceLeDiff, reduceCtorEq] <;> rfl) ?_
  refine awp_cond (b := false) (by simp [alook, aput, ev]) (awp_skip ?_)
  refine awp_seq ?_
  refine awp_region rfl ?_
  refine aops_run 1 (by simp only [fwA, ↓reduceIte, Nat.reduceAdd, Nat.reduceMul, Nat.reduceEqDiff, Nat.reduceLT, Nat.reduceLeDiff, reduceCtorEq, Pr.fw, I1_fw, ti53, pl53, un22, un3, un4, un24, un5, ti24, ti3, un23, un25, un29, el22, el23, el29, eq53, fl53_0, fl53_1, List.length_map, List.getElem?_map, Option.map_some, Int.natCast_nonneg, Int.toNat_natCast, Int.reduceEq, Int.reduceToNat, Int.reduceNeg, decide_true, decide_false, Bool.and_true, Bool.and_self, Bool.not_true, Bool.not_false, ne_eq, Int.reduceLE] <;> rfl) ?_
  refine aops_fn rfl rfl rfl en12 h12 ?_
  refine aops_run 1 (by simp only [fwA, ↓reduceIte, Nat.reduceAdd, Nat.reduceMul, Nat.reduceEqDiff, Nat.reduceLT, Nat.reduceLeDiff, reduceCtorEq, Pr.fw, I1_fw, ti53, pl53, un22, un3, un4, un24, un5, ti24, ti3, un23, un25, un29, el22, el23, el29, eq53, fl53_0, fl53_1, List.length_map, List.getElem?_map, Option.map_some, Int.natCast_nonneg, Int.toNat_natCast, Int.reduceEq, Int.reduceToNat, Int.reduceNeg, decide_true, decide_false, Bool.and_true, Bool.and_self, Bool.not_true, Bool.not_false, ne_eq, Int.reduceLE] <;> rfl) ?_
  refine aops_end ?_
  refine awp_seq ?_
  refine awp_run rfl (by simp only [fwA, ↓reduceIte, Nat.reduceAdd, Nat.reduceMul, Nat.reduceEqDiff, Nat.reduceLT, Nat.reduceLeDiff, reduceCtorEq] <;> rfl) ?_
  refine awp_seq ?_
  refine awp_seq ?_
  refine awp_run rfl (by simp only [fwA, ↓reduceIte, Nat.reduceAdd, Nat.reduceMul, Nat.reduceEqDiff, Nat.reduceLT, Nat.reduceLeDiff, reduceCtorEq] <;> rfl) ?_
  refine awp_told (told_adopt 7 1 (by decide) rfl) ?_
  refine awp_block ?_
  refine awp_for [0, 1, 5, 6, 7, 8] (fun i : Nat => [.vec (l.map Pr.enc) false, .int .u8 n, .bool true, .vec (V.map I1) false, .row H.length 0 i 1, .int .i64 (i : Int)]) (fun i => H ++ [.row 1 (((newT n i).map I1).flatten)]) (fun i => V.length - i) (fun i => i ≤ V.length) 0 rfl rfl (Nat.zero_le _) fun i hi => ?_
  refine awp_seq ?_
  refine awp_seq ?_
  refine awp_run rfl (by simp only [fwA, ↓reduceIte, Nat.reduceAdd, Nat.reduceMul, Nat.reduceEqDiff, Nat.reduceLT, Nat.reduceLeDiff, reduceCtorEq, Pr.fw, I1_fw, ti53, pl53, un22, un3, un4, un24, un5, ti24, ti3, un23, un25, un29, el22, el23, el29, eq53, fl53_0, fl53_1, List.length_map, List.getElem?_map, Option.map_some, Int.natCast_nonneg, Int.toNat_natCast, Int.reduceEq, Int.reduceToNat, Int.reduceNeg, decide_true, decide_false, Bool.and_true, Bool.and_self, Bool.not_true, Bool.not_false, ne_eq, Int.reduceLE] <;> rfl) ?_
  refine awp_cond (by simp only [fwA, ↓reduceIte, Nat.reduceAdd, Nat.reduceMul, Nat.reduceEqDiff, Nat.reduceLT, Nat.reduceLeDiff, reduceCtorEq] <;> rfl) ?_
  by_cases hc : (i : Int) < V.length
  rotate_left
  · simp only [hc, decide_false, Bool.false_eq_true, ↓reduceIte]
    refine awp_exit ?_
    have e : i = V.length := by omega
    subst e
    have hTl := newT_len n V.length
    have hlow : ∀ j a, -1000000 ≤ a → (newT n V.length)[j]? ≠ some a := fun j a ha => newT_low hn0 ha
    have hneg : ∀ a, (0 ≤ a → a ∈ V) → renI V (newT n V.length) a < 0 := fun a ha => ren_neg hVs hn0 hV0 ha
    have hback : ∀ a, (0 ≤ a → a ∈ V) → -1000000 ≤ a → renI (newT n V.length) V (renI V (newT n V.length) a) = a := fun a ha h => ren_back hVs hn0 hV0 ha h
    generalize newT n V.length = T at *
    refine awp_told (told_freezeAt H _ 0 (C := (T.map I1).flatten) rfl (flat_bd (fun _ => rfl) _)) ?_
    have hlm : ((T.map I1).flatten).length = V.length * 1 := by rw [flat_len I1_len, hTl]
    have hch := flat_chunk I1_len T
    rw [hTl] at hch
    refine awp_keep (A' := [(0, .vec (l.map Pr.enc) false), (5, .bool true), (6, .vec (V.map I1) false), (7, .vec (T.map I1) false)]) [0, 5, 6, 7] (by simp only [fwA, ↓reduceIte, Nat.reduceAdd, Nat.reduceMul, Nat.reduceEqDiff, Nat.reduceLT, Nat.reduceLeDiff, reduceCtorEq, akeep, hlm, hch] <;> rfl) ?_
    generalize hH2 : H ++ _ = H2
    refine awp_seq ?_
    refine awp_seq ?_
    refine awp_run rfl (by simp only [fwA, ↓reduceIte, Nat.reduceAdd, Nat.reduceMul, Nat.reduceEqDiff, Nat.reduceLT, Nat.reduceLeDiff, reduceCtorEq] <;> rfl) ?_
    refine awp_block ?_
    refine awp_for [0, 5, 6, 7, 9] (fun i : Nat => [.vec (l.map Pr.enc) false, .bool true, .vec (V.map I1) false, .vec (T.map I1) false, .int .i64 (i : Int)]) (fun _ => H2) (fun i => l.length - i) (fun i => i ≤ l.length ∧ ∀ p ∈ l.take i, -1000000 ≤ p.a ∧ -1000000 ≤ p.b) 0 rfl rfl ⟨Nat.zero_le _, fun p hp => by simp at hp⟩ fun i hs => ?_
    obtain ⟨hi, hlo⟩ := hs
    refine awp_seq ?_
    refine awp_seq ?_
    refine awp_run rfl (by simp only [fwA, ↓reduceIte, Nat.reduceAdd, Nat.reduceMul, Nat.reduceEqDiff, Nat.reduceLT, Nat.reduceLeDiff, reduceCtorEq, Pr.fw, I1_fw, ti53, pl53, un22, un3, un4, un24, un5, ti24, ti3, un23, un25, un29, el22, el23, el29, eq53, fl53_0, fl53_1, List.length_map, List.getElem?_map, Option.map_some, Int.natCast_nonneg, Int.toNat_natCast, Int.reduceEq, Int.reduceToNat, Int.reduceNeg, decide_true, decide_false, Bool.and_true, Bool.and_self, Bool.not_true, Bool.not_false, ne_eq, Int.reduceLE] <;> rfl) ?_
    refine awp_cond (by simp only [fwA, ↓reduceIte, Nat.reduceAdd, Nat.reduceMul, Nat.reduceEqDiff, Nat.reduceLT, Nat.reduceLeDiff, reduceCtorEq] <;> rfl) ?_
    by_cases hc2 : (i : Int) < l.length
    rotate_left
    · simp only [hc2, decide_false, Bool.false_eq_true, ↓reduceIte]
      refine awp_exit ?_
      have e : i = l.length := by omega
      subst e
      rw [List.take_length] at hlo
      have h21 := c21 Γ V T l (by omega)
      have h21c := c21 Γ T V l (by omega)
      have h21d := c21 Γ [] [] l (by omega)
      have h12b := c12 Γ (l.map (Pr.map (renI V T))) false (by rw [List.length_map]; omega)
      have h21b := c21 Γ T V (l.map (Pr.map (renI V T))) (by rw [List.length_map]; omega)
      have h32 := c32 Γ l l
      rw [decide_eq_true rfl] at h32
      have e1 : (l.map (Pr.map (renI V T))).map (Pr.map (renI T V)) = l := by
        rw [List.map_map]
        conv => rhs; rw [← List.map_id l]
        refine List.map_congr_left fun p hp => ?_
        exact pr_ext (hback _ (hin p hp).1 (hlo p hp).1) (hback _ (hin p hp).2 (hlo p hp).2)
      have e2 : l.map (Pr.map (renI T V)) = l := map_same fun p hp => ⟨renI_none fun j _ => hlow j _ (hlo p hp).1, renI_none fun j _ => hlow j _ (hlo p hp).2⟩
      have e3 : l.map (Pr.map (renI [] [])) = l := map_same fun p hp => ⟨renI_none fun j hj => by simp at hj, renI_none fun j hj => by simp at hj⟩
      have e4 : gath gV (l.map (Pr.map (renI V T))) = [] := vars_nil fun p hp => by
        obtain ⟨q, hq, rfl⟩ := List.mem_map.1 hp
        exact ⟨hneg _ (hin q hq).1, hneg _ (hin q hq).2⟩
      rw [e1] at h21b
      rw [e2] at h21c
      rw [e3] at h21d
      rw [e4] at h12b
      have h21e : Gives Tryz.prog Γ 21 [.vec (l.map Pr.enc) false, .vec [] true, .vec [] true] (.vec (l.map Pr.enc) false) := h21d.args ⟨PV.le_refl _, vle _, vle _, trivial⟩
      refine awp_seq ?_
      refine awp_region rfl ?_
      refine aops_run 3 (by simp only [fwA, ↓reduceIte, Nat.reduceAdd, Nat.reduceMul, Nat.reduceEqDiff, Nat.reduceLT, Nat.reduceLeDiff, reduceCtorEq, Pr.fw, I1_fw, ti53, pl53, un22, un3, un4, un24, un5, ti24, ti3, un23, un25, un29, el22, el23, el29, eq53, fl53_0, fl53_1, List.length_map, List.getElem?_map, Option.map_some, Int.natCast_nonneg, Int.toNat_natCast, Int.reduceEq, Int.reduceToNat, Int.reduceNeg, decide_true, decide_false, Bool.and_true, Bool.and_self, Bool.not_true, Bool.not_false, ne_eq, Int.reduceLE] <;> rfl) ?_
      refine aops_fn rfl rfl rfl en21 h21 ?_
      refine aops_run 1 (by simp only [fwA, ↓reduceIte, Nat.reduceAdd, Nat.reduceMul, Nat.reduceEqDiff, Nat.reduceLT, Nat.reduceLeDiff, reduceCtorEq, Pr.fw, I1_fw, ti53, pl53, un22, un3, un4, un24, un5, ti24, ti3, un23, un25, un29, el22, el23, el29, eq53, fl53_0, fl53_1, List.length_map, List.getElem?_map, Option.map_some, Int.natCast_nonneg, Int.toNat_natCast, Int.reduceEq, Int.reduceToNat, Int.reduceNeg, decide_true, decide_false, Bool.and_true, Bool.and_self, Bool.not_true, Bool.not_false, ne_eq, Int.reduceLE] <;> rfl) ?_
      refine aops_end ?_
      refine awp_seq ?_
      refine awp_region rfl ?_
      refine aops_run 3 (by simp only [fwA, ↓reduceIte, Nat.reduceAdd, Nat.reduceMul, Nat.reduceEqDiff, Nat.reduceLT, Nat.reduceLeDiff, reduceCtorEq, Pr.fw, I1_fw, ti53, pl53, un22, un3, un4, un24, un5, ti24, ti3, un23, un25, un29, el22, el23, el29, eq53, fl53_0, fl53_1, List.length_map, List.getElem?_map, Option.map_some, Int.natCast_nonneg, Int.toNat_natCast, Int.reduceEq, Int.reduceToNat, Int.reduceNeg, decide_true, decide_false, Bool.and_true, Bool.and_self, Bool.not_true, Bool.not_false, ne_eq, Int.reduceLE, List.map_nil, List.length_nil] <;> rfl) ?_
      refine aops_fnIf rfl rfl rfl rfl rfl en12 h12b ?_
      refine aops_run 7 (by simp only [fwA, ↓reduceIte, Nat.reduceAdd, Nat.reduceMul, Nat.reduceEqDiff, Nat.reduceLT, Nat.reduceLeDiff, reduceCtorEq, Pr.fw, I1_fw, ti53, pl53, un22, un3, un4, un24, un5, ti24, ti3, un23, un25, un29, el22, el23, el29, eq53, fl53_0, fl53_1, List.length_map, List.getElem?_map, Option.map_some, Int.natCast_nonneg, Int.toNat_natCast, Int.reduceEq, Int.reduceToNat, Int.reduceNeg, decide_true, decide_false, Bool.and_true, Bool.and_self, Bool.not_true, Bool.not_false, ne_eq, Int.reduceLE, List.map_nil, List.length_nil] <;> rfl) ?_
      refine aops_fnIf rfl rfl rfl rfl rfl en21 h21b ?_
      refine aops_run 1 (by simp only [fwA, ↓reduceIte, Nat.reduceAdd, Nat.reduceMul, Nat.reduceEqDiff, Nat.reduceLT, Nat.reduceLeDiff, reduceCtorEq, Pr.fw, I1_fw, ti53, pl53, un22, un3, un4, un24, un5, ti24, ti3, un23, un25, un29, el22, el23, el29, eq53, fl53_0, fl53_1, List.length_map, List.getElem?_map, Option.map_some, Int.natCast_nonneg, Int.toNat_natCast, Int.reduceEq, Int.reduceToNat, Int.reduceNeg, decide_true, decide_false, Bool.and_true, Bool.and_self, Bool.not_true, Bool.not_false, ne_eq, Int.reduceLE, List.map_nil, List.length_nil] <;> rfl) ?_
      refine aops_fnIf rfl rfl rfl rfl rfl en32 h32 ?_
      refine aops_run 5 (by simp only [fwA, ↓reduceIte, Nat.reduceAdd, Nat.reduceMul, Nat.reduceEqDiff, Nat.reduceLT, Nat.reduceLeDiff, reduceCtorEq, Pr.fw, I1_fw, ti53, pl53, un22, un3, un4, un24, un5, ti24, ti3, un23, un25, un29, el22, el23, el29, eq53, fl53_0, fl53_1, List.length_map, List.getElem?_map, Option.map_some, Int.natCast_nonneg, Int.toNat_natCast, Int.reduceEq, Int.reduceToNat, Int.reduceNeg, decide_true, decide_false, Bool.and_true, Bool.and_self, Bool.not_true, Bool.not_false, ne_eq, Int.reduceLE, List.map_nil, List.length_nil] <;> rfl) ?_
      refine aops_fnIf rfl rfl rfl rfl rfl en21 h21c ?_
      refine aops_run 1 (by simp only [fwA, ↓reduceIte, Nat.reduceAdd, Nat.reduceMul, Nat.reduceEqDiff, Nat.reduceLT, Nat.reduceLeDiff, reduceCtorEq, Pr.fw, I1_fw, ti53, pl53, un22, un3, un4, un24, un5, ti24, ti3, un23, un25, un29, el22, el23, el29, eq53, fl53_0, fl53_1, List.length_map, List.getElem?_map, Option.map_some, Int.natCast_nonneg, Int.toNat_natCast, Int.reduceEq, Int.reduceToNat, Int.reduceNeg, decide_true, decide_false, Bool.and_true, Bool.and_self, Bool.not_true, Bool.not_false, ne_eq, Int.reduceLE, List.map_nil, List.length_nil] <;> rfl) ?_
      refine aops_fnIf rfl rfl rfl rfl rfl en32 h32 ?_
      refine aops_run 3 (by simp only [fwA, ↓reduceIte, Nat.reduceAdd, Nat.reduceMul, Nat.reduceEqDiff, Nat.reduceLT, Nat.reduceLeDiff, reduceCtorEq, Pr.fw, I1_fw, ti53, pl53, un22, un3, un4, un24, un5, ti24, ti3, un23, un25, un29, el22, el23, el29, eq53, fl53_0, fl53_1, List.length_map, List.getElem?_map, Option.map_some, Int.natCast_nonneg, Int.toNat_natCast, Int.reduceEq, Int.reduceToNat, Int.reduceNeg, decide_true, decide_false, Bool.and_true, Bool.and_self, Bool.not_true, Bool.not_false, ne_eq, Int.reduceLE, List.map_nil, List.length_nil] <;> rfl) ?_
      refine aops_fnIf rfl rfl rfl rfl rfl en21 h21e ?_
      refine aops_run 1 (by simp only [fwA, ↓reduceIte, Nat.reduceAdd, Nat.reduceMul, Nat.reduceEqDiff, Nat.reduceLT, Nat.reduceLeDiff, reduceCtorEq, Pr.fw, I1_fw, ti53, pl53, un22, un3, un4, un24, un5, ti24, ti3, un23, un25, un29, el22, el23, el29, eq53, fl53_0, fl53_1, List.length_map, List.getElem?_map, Option.map_some, Int.natCast_nonneg, Int.toNat_natCast, Int.reduceEq, Int.reduceToNat, Int.reduceNeg, decide_true, decide_false, Bool.and_true, Bool.and_self, Bool.not_true, Bool.not_false, ne_eq, Int.reduceLE, List.map_nil, List.length_nil] <;> rfl) ?_
      refine aops_fnIf rfl rfl rfl rfl rfl en32 h32 ?_
      refine aops_run 2 (by simp only [fwA, ↓reduceIte, Nat.reduceAdd, Nat.reduceMul, Nat.reduceEqDiff, Nat.reduceLT, Nat.reduceLeDiff, reduceCtorEq, Pr.fw, I1_fw, ti53, pl53, un22, un3, un4, un24, un5, ti24, ti3, un23, un25, un29, el22, el23, el29, eq53, fl53_0, fl53_1, List.length_map, List.getElem?_map, Option.map_some, Int.natCast_nonneg, Int.toNat_natCast, Int.reduceEq, Int.reduceToNat, Int.reduceNeg, decide_true, decide_false, Bool.and_true, Bool.and_self, Bool.not_true, Bool.not_false, ne_eq, Int.reduceLE, List.map_nil, List.length_nil] <;> rfl) ?_
      refine aops_end ?_
      refine awp_ret ?_
      subst hH2
      exact gives_end (.inl rfl) _ rfl
    simp only [hc2, decide_true, ↓reduceIte]
    refine awp_skip ?_
    have hil : i < l.length := by omega
    have ga : l[i]? = some l[i] := List.getElem?_eq_getElem hil
    generalize l[i] = p at ga
    have hwi : IntKind.i64.wrap ((i : Int) + 1) = ((i + 1 : Nat) : Int) := wrapS i (by omega)
    refine awp_seq ?_
    refine awp_block ?_
    refine awp_seq ?_
    by_cases hA : p.a < -1000000
    · refine awp_run rfl (by simp only [fwA, ↓reduceIte, Nat.reduceAdd, Nat.reduceMul, Nat.reduceEqDiff, Nat.reduceLT, Nat.reduceLeDiff, reduceCtorEq, Pr.fw, I1_fw, ti53, pl53, un22, un3, un4, un24, un5, ti24, ti3, un23, un25, un29, el22, el23, el29, eq53, fl53_0, fl53_1, List.length_map, List.getElem?_map, Option.map_some, Int.natCast_nonneg, Int.toNat_natCast, Int.reduceEq, Int.reduceToNat, Int.reduceNeg, decide_true, decide_false, Bool.and_true, Bool.and_self, Bool.not_true, Bool.not_false, ne_eq, Int.reduceLE, ga, hA] <;> rfl) ?_
      refine awp_cond (b := true) (by simp [alook, aput, ev]) ?_
      refine awp_seq ?_
      refine awp_run rfl (by simp only [fwA, ↓reduceIte, Nat.reduceAdd, Nat.reduceMul, Nat.reduceEqDiff, Nat.reduceLT, Nat.reduceLeDiff, reduceCtorEq] <;> rfl) ?_
      refine awp_ret ?_
      subst hH2
      exact gives_end (.inl rfl) _ rfl
    · by_cases hB : p.b < -1000000
      · refine awp_run rfl (by simp only [fwA, ↓reduceIte, Nat.reduceAdd, Nat.reduceMul, Nat.reduceEqDiff, Nat.reduceLT, Nat.reduceLeDiff, reduceCtorEq, Pr.fw, I1_fw, ti53, pl53, un22, un3, un4, un24, un5, ti24, ti3, un23, un25, un29, el22, el23, el29, eq53, fl53_0, fl53_1, List.length_map, List.getElem?_map, Option.map_some, Int.natCast_nonneg, Int.toNat_natCast, Int.reduceEq, Int.reduceToNat, Int.reduceNeg, decide_true, decide_false, Bool.and_true, Bool.and_self, Bool.not_true, Bool.not_false, ne_eq, Int.reduceLE, ga, hA, hB] <;> rfl) ?_
        refine awp_cond (b := true) (by simp [alook, aput, ev]) ?_
        refine awp_seq ?_
        refine awp_run rfl (by simp only [fwA, ↓reduceIte, Nat.reduceAdd, Nat.reduceMul, Nat.reduceEqDiff, Nat.reduceLT, Nat.reduceLeDiff, reduceCtorEq] <;> rfl) ?_
        refine awp_ret ?_
        subst hH2
        exact gives_end (.inl rfl) _ rfl
      · refine awp_run rfl (by simp only [fwA, ↓reduceIte, Nat.reduceAdd, Nat.reduceMul, Nat.reduceEqDiff, Nat.reduceLT, Nat.reduceLeDiff, reduceCtorEq, Pr.fw, I1_fw, ti53, pl53, un22, un3, un4, un24, un5, ti24, ti3, un23, un25, un29, el22, el23, el29, eq53, fl53_0, fl53_1, List.length_map, List.getElem?_map, Option.map_some, Int.natCast_nonneg, Int.toNat_natCast, Int.reduceEq, Int.reduceToNat, Int.reduceNeg, decide_true, decide_false, Bool.and_true, Bool.and_self, Bool.not_true, Bool.not_false, ne_eq, Int.reduceLE, ga, hA, hB] <;> rfl) ?_
        refine awp_cond (b := false) (by simp [alook, aput, ev]) (awp_skip ?_)
        refine awp_run rfl (by simp only [fwA, ↓reduceIte, Nat.reduceAdd, Nat.reduceMul, Nat.reduceEqDiff, Nat.reduceLT, Nat.reduceLeDiff, reduceCtorEq] <;> rfl) ?_
        refine ⟨i + 1, by omega, ⟨by omega, fun q hq => ?_⟩, ?_, rfl, rfl⟩
        · rw [List.take_add_one, ga, List.mem_append] at hq
          rcases hq with hq | hq
          · exact hlo q hq
          · simp only [Option.toList, List.mem_singleton] at hq
            subst hq
            exact ⟨by omega, by omega⟩
        · simp only [fwA, ↓reduceIte, Nat.reduceAdd, Nat.reduceMul, Nat.reduceEqDiff, Nat.reduceLT, Nat.reduceLeDiff, reduceCtorEq, List.map_cons, List.map_nil, hwi]
  simp only [hc, decide_true, ↓reduceIte]
  refine awp_skip ?_
  have hil : i < V.length := by omega
  have hwi : IntKind.i64.wrap ((i : Int) + 1) = ((i + 1 : Nat) : Int) := wrapS i (by omega)
  have hw2 : IntKind.i64.wrap (1000000 + n + (i : Int)) = 1000000 + n + (i : Int) := wrapId ⟨by omega, by omega⟩
  have h23 := c23 Γ (1000000 + n + (i : Int)) ⟨by omega, by omega⟩
  rw [if_neg (by omega)] at h23
  refine awp_seq ?_
  refine awp_block ?_
  refine awp_region rfl ?_
  refine aops_run 6 (by simp only [fwA, ↓reduceIte, Nat.reduceAdd, Nat.reduceMul, Nat.reduceEqDiff, Nat.reduceLT, Nat.reduceLeDiff, reduceCtorEq, Pr.fw, I1_fw, ti53, pl53, un22, un3, un4, un24, un5, ti24, ti3, un23, un25, un29, el22, el23, el29, eq53, fl53_0, fl53_1, List.length_map, List.getElem?_map, Option.map_some, Int.natCast_nonneg, Int.toNat_natCast, Int.reduceEq, Int.reduceToNat, Int.reduceNeg, decide_true, decide_false, Bool.and_true, Bool.and_self, Bool.not_true, Bool.not_false, ne_eq, Int.reduceLE, hnw, hnm, hw2] <;> rfl) ?_
  refine aops_fn rfl rfl rfl en23 h23 ?_
  refine aops_run 1 (by simp only [fwA, ↓reduceIte, Nat.reduceAdd, Nat.reduceMul, Nat.reduceEqDiff, Nat.reduceLT, Nat.reduceLeDiff, reduceCtorEq, Pr.fw, I1_fw, ti53, pl53, un22, un3, un4, un24, un5, ti24, ti3, un23, un25, un29, el22, el23, el29, eq53, fl53_0, fl53_1, List.length_map, List.getElem?_map, Option.map_some, Int.natCast_nonneg, Int.toNat_natCast, Int.reduceEq, Int.reduceToNat, Int.reduceNeg, decide_true, decide_false, Bool.and_true, Bool.and_self, Bool.not_true, Bool.not_false, ne_eq, Int.reduceLE, hnw] <;> rfl) ?_
  refine aops_one rfl (os_appendR rfl un23 ti24 un23 (.inl ⟨_, rfl⟩) rfl (get_at0 H _) (by rw [flat_len I1_len, newT_len]; exact (Nat.zero_add _).symm) rfl (fun es f h e he => by
    simp only [fwA, ↓reduceIte, Nat.reduceAdd, Nat.reduceMul, Nat.reduceEqDiff, Nat.reduceLT, Nat.reduceLeDiff, reduceCtorEq, PV.vec.injEq] at h
    obtain ⟨rfl, rfl⟩ := h
    simp only [List.mem_singleton] at he
    subst he; rfl) rfl (by show (_ + 1) * 8 ≤ _; omega) (by show _ + 1 ≤ _; omega) ?_)
  refine aops_run 1 (by simp only [fwA, ↓reduceIte, Nat.reduceAdd, Nat.reduceMul, Nat.reduceEqDiff, Nat.reduceLT, Nat.reduceLeDiff, reduceCtorEq] <;> rfl) ?_
  refine awp_run rfl (by simp only [fwA, ↓reduceIte, Nat.reduceAdd, Nat.reduceMul, Nat.reduceEqDiff, Nat.reduceLT, Nat.reduceLeDiff, reduceCtorEq] <;> rfl) ?_
  refine ⟨i + 1, by omega, by omega, ?_, ?_, rfl⟩
  · simp only [fwA, ↓reduceIte, Nat.reduceAdd, Nat.reduceMul, Nat.reduceEqDiff, Nat.reduceLT, Nat.reduceLeDiff, reduceCtorEq, List.map_cons, List.map_nil, hwi]
  · rw [newT_snoc, List.map_append, List.flatten_append]; simp [I1]

end Go.Proofs.YtdacialfjlcboaaGreatDoor
