/- The law on variables and points. -/
import Derived.Test.YtdacialfjlcboaaGreatDoorT10b
namespace Go.Proofs.YtdacialfjlcboaaGreatDoor
set_option linter.unusedVariables false
set_option linter.unusedSimpArgs false
set_option maxRecDepth 100000
open Go.RowKit Fw

theorem vars_mem (l : List Pr) (x : Int) : x ∈ gath gV l ↔ 0 ≤ x ∧ ∃ p ∈ l, x = p.a ∨ x = p.b := by
  unfold gath
  rw [onceI_mem]
  unfold outsP
  rw [List.mem_flatMap]
  have h1 : ∀ a, x ∈ outs gV a ↔ 0 ≤ x ∧ x = a := fun a => by
    unfold outs gV
    by_cases h : a < 0
    · simp [h]; omega
    · simp [h]; omega
  constructor
  · rintro ⟨p, hp, hx⟩
    rw [List.mem_append, h1, h1] at hx
    rcases hx with h | h
    · exact ⟨h.1, p, hp, .inl h.2⟩
    · exact ⟨h.1, p, hp, .inr h.2⟩
  · rintro ⟨h0, p, hp, hx⟩
    refine ⟨p, hp, ?_⟩
    rw [List.mem_append, h1, h1]
    rcases hx with h | h
    · exact .inl ⟨h0, h⟩
    · exact .inr ⟨h0, h⟩
theorem points_mem (l : List Pr) (x : Int) : x ∈ gath gP l ↔ 0 ≤ x ∧ ∃ p ∈ l, -1 - x = p.a ∨ -1 - x = p.b := by
  unfold gath
  rw [onceI_mem]
  unfold outsP
  rw [List.mem_flatMap]
  have h1 : ∀ a, x ∈ outs gP a ↔ 0 ≤ x ∧ -1 - x = a := fun a => by
    unfold outs gP pointOf
    by_cases h : a < 0
    · have h2 : ¬ 0 ≤ a := by omega
      simp [h, h2]; omega
    · simp [h]; omega
  constructor
  · rintro ⟨p, hp, hx⟩
    rw [List.mem_append, h1, h1] at hx
    rcases hx with h | h
    · exact ⟨h.1, p, hp, .inl h.2⟩
    · exact ⟨h.1, p, hp, .inr h.2⟩
  · rintro ⟨h0, p, hp, hx⟩
    refine ⟨p, hp, ?_⟩
    rw [List.mem_append, h1, h1]
    rcases hx with h | h
    · exact .inl ⟨h0, h⟩
    · exact .inr ⟨h0, h⟩
theorem once_le (l : List Int) : (onceI l).length ≤ l.length := by
  have := cpt_le (l.mergeSort leI) (l.mergeSort leI).length
  rw [List.length_mergeSort] at this
  unfold onceI
  rw [List.length_mergeSort]; exact this
theorem both_le (l : List Pr) : (gath gV l).length + (gath gP l).length ≤ 2 * l.length := by
  have h : (outsP gV l).length + (outsP gP l).length = 2 * l.length := by
    induction l with
    | nil => rfl
    | cons p l ih =>
      have h1 : ∀ a, (outs gV a).length + (outs gP a).length = 1 := fun a => by
        unfold outs gV gP
        by_cases h : a < 0 <;> simp [h]
      have ha := h1 p.a
      have hb := h1 p.b
      unfold outsP at ih ⊢
      simp only [List.flatMap_cons, List.length_append, List.length_cons]
      omega
  have h1 := once_le (outsP gV l)
  have h2 := once_le (outsP gP l)
  unfold gath
  omega

/-- A point's number in a word. -/
theorem pt_word {l : List Pr} (ho : OkP l) {x : Int} (hx : x ∈ gath gP l) : I64 x := by
  obtain ⟨h0, p, hp, h⟩ := (points_mem l x).1 hx
  obtain ⟨h1, h2⟩ := ho p hp
  unfold I64 at *
  rcases h with h | h <;> omega

set_option maxHeartbeats 4000000 in
/-- AtomVars -/
theorem c6 (Γ : Nat → PV) (hΓ : Tab Γ) (l : List Pr) (hl : l.length ≤ 2000000) (ho : OkP l) : Gives Tryz.prog Γ 6 [.vec (l.map Pr.enc) false] (.bool true) := by
  have h12 := c12 Γ l false (by omega)
  have h14 := c14 Γ l false (by omega) ho
  have hVm := vars_mem l
  have hPm := points_mem l
  have hVr := onceI_rise (outsP gV l)
  have hPr := onceI_rise (outsP gP l)
  have hle := both_le l
  have hpw : ∀ x ∈ gath gP l, I64 x := fun x hx => pt_word ho hx
  have hVf : onceI (outsP gV l) = gath gV l := rfl
  have hPf : onceI (outsP gP l) = gath gP l := rfl
  rw [hVf] at hVr
  rw [hPf] at hPr
  generalize gath gV l = V at *
  generalize gath gP l = P at *
  refine fn_of_awp Tryz.func6 rfl (by simp [Tryz.f6]) rfl fun H => ?_
  refine awp_seq ?_
  refine awp_run rfl (by simp only [fwA, ↓reduceIte, Nat.reduceAdd, Nat.reduceMul, Nat.reduceEqDiff, Nat.reduceLT, Nat.reduceLeDiff, reduceCtorEq] <;> rfl) ?_
  refine awp_seq ?_
  refine awp_region rfl ?_
  refine aops_fn rfl rfl rfl en9 (c9 Γ hΓ) ?_
  refine aops_run 1 (by simp only [fwA, ↓reduceIte, Nat.reduceAdd, Nat.reduceMul, Nat.reduceEqDiff, Nat.reduceLT, Nat.reduceLeDiff, reduceCtorEq] <;> rfl) ?_
  refine awp_seq ?_
  refine awp_seq ?_
  refine awp_run rfl (by simp only [fwA, ↓reduceIte, Nat.reduceAdd, Nat.reduceMul, Nat.reduceEqDiff, Nat.reduceLT, Nat.reduceLeDiff, reduceCtorEq] <;> rfl) ?_
  refine awp_cond (b := false) (by simp [alook, aput, ev]) (awp_skip ?_)
  refine awp_seq ?_
  refine awp_region rfl ?_
  refine aops_run 1 (by simp only [fwA, ↓reduceIte, Nat.reduceAdd, Nat.reduceMul, Nat.reduceEqDiff, Nat.reduceLT, Nat.reduceLeDiff, reduceCtorEq, Pr.fw, I1_fw, ti53, pl53, un22, un3, un4, ti24, ti3, un23, un25, un29, el22, el23, el29, eq53, fl53_0, fl53_1, List.length_map, List.getElem?_map, Option.map_some, Int.natCast_nonneg, Int.toNat_natCast, Int.reduceEq, Int.reduceToNat, Int.reduceNeg, decide_true, decide_false, Bool.and_true, Bool.and_self, Bool.not_true, Bool.not_false, ne_eq, Int.reduceLE] <;> rfl) ?_
  refine aops_fn rfl rfl rfl en12 h12 ?_
  refine aops_run 1 (by simp only [fwA, ↓reduceIte, Nat.reduceAdd, Nat.reduceMul, Nat.reduceEqDiff, Nat.reduceLT, Nat.reduceLeDiff, reduceCtorEq, Pr.fw, I1_fw, ti53, pl53, un22, un3, un4, ti24, ti3, un23, un25, un29, el22, el23, el29, eq53, fl53_0, fl53_1, List.length_map, List.getElem?_map, Option.map_some, Int.natCast_nonneg, Int.toNat_natCast, Int.reduceEq, Int.reduceToNat, Int.reduceNeg, decide_true, decide_false, Bool.and_true, Bool.and_self, Bool.not_true, Bool.not_false, ne_eq, Int.reduceLE] <;> rfl) ?_
  refine aops_end ?_
  refine awp_seq ?_
  refine awp_region rfl ?_
  refine aops_run 1 (by simp only [fwA, ↓reduceIte, Nat.reduceAdd, Nat.reduceMul, Nat.reduceEqDiff, Nat.reduceLT, Nat.reduceLeDiff, reduceCtorEq, Pr.fw, I1_fw, ti53, pl53, un22, un3, un4, ti24, ti3, un23, un25, un29, el22, el23, el29, eq53, fl53_0, fl53_1, List.length_map, List.getElem?_map, Option.map_some, Int.natCast_nonneg, Int.toNat_natCast, Int.reduceEq, Int.reduceToNat, Int.reduceNeg, decide_true, decide_false, Bool.and_true, Bool.and_self, Bool.not_true, Bool.not_false, ne_eq, Int.reduceLE] <;> rfl) ?_
  refine aops_fn rfl rfl rfl en14 h14 ?_
  refine aops_run 1 (by simp only [fwA, ↓reduceIte, Nat.reduceAdd, Nat.reduceMul, Nat.reduceEqDiff, Nat.reduceLT, Nat.reduceLeDiff, reduceCtorEq, Pr.fw, I1_fw, ti53, pl53, un22, un3, un4, ti24, ti3, un23, un25, un29, el22, el23, el29, eq53, fl53_0, fl53_1, List.length_map, List.getElem?_map, Option.map_some, Int.natCast_nonneg, Int.toNat_natCast, Int.reduceEq, Int.reduceToNat, Int.reduceNeg, decide_true, decide_false, Bool.and_true, Bool.and_self, Bool.not_true, Bool.not_false, ne_eq, Int.reduceLE] <;> rfl) ?_
  refine aops_end ?_
  refine awp_seq ?_
  refine awp_seq ?_
  refine awp_run rfl (by simp only [fwA, ↓reduceIte, Nat.reduceAdd, Nat.reduceMul, Nat.reduceEqDiff, Nat.reduceLT, Nat.reduceLeDiff, reduceCtorEq] <;> rfl) ?_
  refine awp_block ?_
  refine awp_for [0, 3, 4, 5, 6] (fun i : Nat => [.vec (l.map Pr.enc) false, .bool true, .vec (V.map I1) false, .vec (P.map I1) false, .int .i64 (i : Int)]) (fun _ => H) (fun i => l.length - i) (fun i => i ≤ l.length) 0 rfl rfl (Nat.zero_le _) fun i hi => ?_
  refine awp_seq ?_
  refine awp_seq ?_
  refine awp_run rfl (by simp only [fwA, ↓reduceIte, Nat.reduceAdd, Nat.reduceMul, Nat.reduceEqDiff, Nat.reduceLT, Nat.reduceLeDiff, reduceCtorEq, Pr.fw, I1_fw, ti53, pl53, un22, un3, un4, ti24, ti3, un23, un25, un29, el22, el23, el29, eq53, fl53_0, fl53_1, List.length_map, List.getElem?_map, Option.map_some, Int.natCast_nonneg, Int.toNat_natCast, Int.reduceEq, Int.reduceToNat, Int.reduceNeg, decide_true, decide_false, Bool.and_true, Bool.and_self, Bool.not_true, Bool.not_false, ne_eq, Int.reduceLE] <;> rfl) ?_
  refine awp_cond (by simp only [fwA, ↓reduceIte, Nat.reduceAdd, Nat.reduceMul, Nat.reduceEqDiff, Nat.reduceLT, Nat.reduceLeDiff, reduceCtorEq] <;> rfl) ?_
  by_cases hc : (i : Int) < l.length
  rotate_left
  · simp only [hc, decide_false, Bool.false_eq_true, ↓reduceIte]
    refine awp_exit ?_
    refine awp_seq ?_
    refine awp_seq ?_
    refine awp_run rfl (by simp only [fwA, ↓reduceIte, Nat.reduceAdd, Nat.reduceMul, Nat.reduceEqDiff, Nat.reduceLT, Nat.reduceLeDiff, reduceCtorEq] <;> rfl) ?_
    refine awp_block ?_
    refine awp_for [0, 3, 4, 5, 12] (fun k : Nat => [.vec (l.map Pr.enc) false, .bool true, .vec (V.map I1) false, .vec (P.map I1) false, .int .i64 (k : Int)]) (fun _ => H) (fun k => V.length - k) (fun k => k ≤ V.length) 0 rfl rfl (Nat.zero_le _) fun k hk => ?_
    refine awp_seq ?_
    refine awp_seq ?_
    refine awp_run rfl (by simp only [fwA, ↓reduceIte, Nat.reduceAdd, Nat.reduceMul, Nat.reduceEqDiff, Nat.reduceLT, Nat.reduceLeDiff, reduceCtorEq, Pr.fw, I1_fw, ti53, pl53, un22, un3, un4, ti24, ti3, un23, un25, un29, el22, el23, el29, eq53, fl53_0, fl53_1, List.length_map, List.getElem?_map, Option.map_some, Int.natCast_nonneg, Int.toNat_natCast, Int.reduceEq, Int.reduceToNat, Int.reduceNeg, decide_true, decide_false, Bool.and_true, Bool.and_self, Bool.not_true, Bool.not_false, ne_eq, Int.reduceLE] <;> rfl) ?_
    refine awp_cond (by simp only [fwA, ↓reduceIte, Nat.reduceAdd, Nat.reduceMul, Nat.reduceEqDiff, Nat.reduceLT, Nat.reduceLeDiff, reduceCtorEq] <;> rfl) ?_
    by_cases hk2 : (k : Int) < V.length
    rotate_left
    · simp only [hk2, decide_false, Bool.false_eq_true, ↓reduceIte]
      refine awp_exit ?_
      refine awp_seq ?_
      refine awp_seq ?_
      refine awp_run rfl (by simp only [fwA, ↓reduceIte, Nat.reduceAdd, Nat.reduceMul, Nat.reduceEqDiff, Nat.reduceLT, Nat.reduceLeDiff, reduceCtorEq] <;> rfl) ?_
      refine awp_block ?_
      refine awp_for [0, 3, 4, 5, 13] (fun k : Nat => [.vec (l.map Pr.enc) false, .bool true, .vec (V.map I1) false, .vec (P.map I1) false, .int .i64 (k : Int)]) (fun _ => H) (fun k => P.length - k) (fun k => k ≤ P.length) 0 rfl rfl (Nat.zero_le _) fun k hk => ?_
      refine awp_seq ?_
      refine awp_seq ?_
      refine awp_run rfl (by simp only [fwA, ↓reduceIte, Nat.reduceAdd, Nat.reduceMul, Nat.reduceEqDiff, Nat.reduceLT, Nat.reduceLeDiff, reduceCtorEq, Pr.fw, I1_fw, ti53, pl53, un22, un3, un4, ti24, ti3, un23, un25, un29, el22, el23, el29, eq53, fl53_0, fl53_1, List.length_map, List.getElem?_map, Option.map_some, Int.natCast_nonneg, Int.toNat_natCast, Int.reduceEq, Int.reduceToNat, Int.reduceNeg, decide_true, decide_false, Bool.and_true, Bool.and_self, Bool.not_true, Bool.not_false, ne_eq, Int.reduceLE] <;> rfl) ?_
      refine awp_cond (by simp only [fwA, ↓reduceIte, Nat.reduceAdd, Nat.reduceMul, Nat.reduceEqDiff, Nat.reduceLT, Nat.reduceLeDiff, reduceCtorEq] <;> rfl) ?_
      by_cases hk3 : (k : Int) < P.length
      rotate_left
      · simp only [hk3, decide_false, Bool.false_eq_true, ↓reduceIte]
        refine awp_exit ?_
        have hw1 : IntKind.i64.wrap ((V.length : Int) + P.length) = (V.length : Int) + P.length := wrapId ⟨by omega, by omega⟩
        have hw2 : IntKind.i64.wrap (2 * (l.length : Int)) = 2 * (l.length : Int) := wrapId ⟨by omega, by omega⟩
        have hle2 : (V.length : Int) + P.length ≤ 2 * (l.length : Int) := by omega
        refine awp_seq ?_
        refine awp_run rfl (by simp only [fwA, ↓reduceIte, Nat.reduceAdd, Nat.reduceMul, Nat.reduceEqDiff, Nat.reduceLT, Nat.reduceLeDiff, reduceCtorEq, Pr.fw, I1_fw, ti53, pl53, un22, un3, un4, ti24, ti3, un23, un25, un29, el22, el23, el29, eq53, fl53_0, fl53_1, List.length_map, List.getElem?_map, Option.map_some, Int.natCast_nonneg, Int.toNat_natCast, Int.reduceEq, Int.reduceToNat, Int.reduceNeg, decide_true, decide_false, Bool.and_true, Bool.and_self, Bool.not_true, Bool.not_false, ne_eq, Int.reduceLE, hw1, hw2, hle2] <;> rfl) ?_
        refine awp_ret ?_
        exact gives_end0 (.inl rfl) rfl
      simp only [hk3, decide_true, ↓reduceIte]
      refine awp_skip ?_
      have hkl : k < P.length := by omega
      have gk : P[k]? = some P[k] := List.getElem?_eq_getElem hkl
      have h0 : ¬ P[k] < 0 := by have := (hPm P[k]).1 (List.getElem_mem hkl); omega
      have hw : IntKind.i64.wrap ((k : Int) + 1) = ((k + 1 : Nat) : Int) := wrapS k (by omega)
      refine awp_seq ?_
      refine awp_block ?_
      refine awp_seq ?_
      by_cases hk0 : k = 0
      · subst hk0
        refine awp_drun [0, 0, 0, 1, 0, 0, 0, 0, 0, 0, 0, 0, 0, 1, 0, 0, 0, 1, 0, 0, 0] [0, 0, 3, 7, 15, 31, 63, 127, 255, 511, 511, 1535, 4095, 8191, 511, 511, 49663, 115199, 262143, 524287, 1048575] mixed rfl (by kernel_rfl) (by simp only [fwA, ↓reduceIte, Nat.reduceAdd, Nat.reduceMul, Nat.reduceEqDiff, Nat.reduceLT, Nat.reduceLeDiff, reduceCtorEq, Pr.fw, I1_fw, ti53, pl53, un22, un3, un4, ti24, ti3, un23, un25, un29, el22, el23, el29, eq53, fl53_0, fl53_1, List.length_map, List.getElem?_map, Option.map_some, Int.natCast_nonneg, Int.toNat_natCast, Int.reduceEq, Int.reduceToNat, Int.reduceNeg, decide_true, decide_false, Bool.and_true, Bool.and_self, Bool.not_true, Bool.not_false, ne_eq, Int.reduceLE, gk, h0] <;> rfl) ?_
        refine awp_cond (b := false) (by simp [alook, aput, ev]) (awp_skip ?_)
        refine awp_run rfl (by simp only [fwA, ↓reduceIte, Nat.reduceAdd, Nat.reduceMul, Nat.reduceEqDiff, Nat.reduceLT, Nat.reduceLeDiff, reduceCtorEq] <;> rfl) ?_
        exact ⟨1, by omega, by omega, rfl, rfl, rfl⟩
      have hk1 : (0 : Int) < (k : Int) := by omega
      have hsub : IntKind.i64.wrap ((k : Int) - 1) = ((k - 1 : Nat) : Int) := by rw [wrapId ⟨by omega, by omega⟩]; omega
      have gk1 : P[k - 1]? = some P[k - 1] := List.getElem?_eq_getElem (by omega)
      have hlt2 : ¬ P[k] ≤ P[k - 1] := by have := List.pairwise_iff_getElem.1 hPr (k - 1) k (by omega) hkl (by omega); omega
      refine awp_drun [0, 0, 0, 1, 0, 0, 0, 0, 0, 0, 0, 0, 0, 1, 0, 0, 0, 1, 0, 0, 0] [0, 0, 3, 7, 15, 31, 63, 127, 255, 511, 511, 1535, 4095, 8191, 511, 511, 49663, 115199, 262143, 524287, 1048575] mixed rfl (by kernel_rfl) (by simp only [fwA, ↓reduceIte, Nat.reduceAdd, Nat.reduceMul, Nat.reduceEqDiff, Nat.reduceLT, Nat.reduceLeDiff, reduceCtorEq, Pr.fw, I1_fw, ti53, pl53, un22, un3, un4, ti24, ti3, un23, un25, un29, el22, el23, el29, eq53, fl53_0, fl53_1, List.length_map, List.getElem?_map, Option.map_some, Int.natCast_nonneg, Int.toNat_natCast, Int.reduceEq, Int.reduceToNat, Int.reduceNeg, decide_true, decide_false, Bool.and_true, Bool.and_self, Bool.not_true, Bool.not_false, ne_eq, Int.reduceLE, gk, h0, hk1, hsub, gk1, hlt2] <;> rfl) ?_
      refine awp_cond (b := false) (by simp [alook, aput, ev]) (awp_skip ?_)
      refine awp_run rfl (by simp only [fwA, ↓reduceIte, Nat.reduceAdd, Nat.reduceMul, Nat.reduceEqDiff, Nat.reduceLT, Nat.reduceLeDiff, reduceCtorEq] <;> rfl) ?_
      refine ⟨k + 1, by omega, by omega, ?_, rfl, rfl⟩
      simp only [fwA, ↓reduceIte, Nat.reduceAdd, Nat.reduceMul, Nat.reduceEqDiff, Nat.reduceLT, Nat.reduceLeDiff, reduceCtorEq, List.map_cons, List.map_nil, hw]
    simp only [hk2, decide_true, ↓reduceIte]
    refine awp_skip ?_
    have hkl : k < V.length := by omega
    have gk : V[k]? = some V[k] := List.getElem?_eq_getElem hkl
    have h0 : ¬ V[k] < 0 := by have := (hVm V[k]).1 (List.getElem_mem hkl); omega
    have hw : IntKind.i64.wrap ((k : Int) + 1) = ((k + 1 : Nat) : Int) := wrapS k (by omega)
    refine awp_seq ?_
    refine awp_block ?_
    refine awp_seq ?_
    by_cases hk0 : k = 0
    · subst hk0
      refine awp_drun [0, 0, 0, 1, 0, 0, 0, 0, 0, 0, 0, 0, 0, 1, 0, 0, 0, 1, 0, 0, 0] [0, 0, 3, 7, 15, 31, 63, 127, 255, 511, 511, 1535, 4095, 8191, 511, 511, 49663, 115199, 262143, 524287, 1048575] mixed rfl (by kernel_rfl) (by simp only [fwA, ↓reduceIte, Nat.reduceAdd, Nat.reduceMul, Nat.reduceEqDiff, Nat.reduceLT, Nat.reduceLeDiff, reduceCtorEq, Pr.fw, I1_fw, ti53, pl53, un22, un3, un4, ti24, ti3, un23, un25, un29, el22, el23, el29, eq53, fl53_0, fl53_1, List.length_map, List.getElem?_map, Option.map_some, Int.natCast_nonneg, Int.toNat_natCast, Int.reduceEq, Int.reduceToNat, Int.reduceNeg, decide_true, decide_false, Bool.and_true, Bool.and_self, Bool.not_true, Bool.not_false, ne_eq, Int.reduceLE, gk, h0] <;> rfl) ?_
      refine awp_cond (b := false) (by simp [alook, aput, ev]) (awp_skip ?_)
      refine awp_run rfl (by simp only [fwA, ↓reduceIte, Nat.reduceAdd, Nat.reduceMul, Nat.reduceEqDiff, Nat.reduceLT, Nat.reduceLeDiff, reduceCtorEq] <;> rfl) ?_
      exact ⟨1, by omega, by omega, rfl, rfl, rfl⟩
    have hk1 : (0 : Int) < (k : Int) := by omega
    have hsub : IntKind.i64.wrap ((k : Int) - 1) = ((k - 1 : Nat) : Int) := by rw [wrapId ⟨by omega, by omega⟩]; omega
    have gk1 : V[k - 1]? = some V[k - 1] := List.getElem?_eq_getElem (by omega)
    have hlt2 : ¬ V[k] ≤ V[k - 1] := by have := List.pairwise_iff_getElem.1 hVr (k - 1) k (by omega) hkl (by omega); omega
    refine awp_drun [0, 0, 0, 1, 0, 0, 0, 0, 0, 0, 0, 0, 0, 1, 0, 0, 0, 1, 0, 0, 0] [0, 0, 3, 7, 15, 31, 63, 127, 255, 511, 511, 1535, 4095, 8191, 511, 511, 49663, 115199, 262143, 524287, 1048575] mixed rfl (by kernel_rfl) (by simp only [fwA, ↓reduceIte, Nat.reduceAdd, Nat.reduceMul, Nat.reduceEqDiff, Nat.reduceLT, Nat.reduceLeDiff, reduceCtorEq, Pr.fw, I1_fw, ti53, pl53, un22, un3, un4, ti24, ti3, un23, un25, un29, el22, el23, el29, eq53, fl53_0, fl53_1, List.length_map, List.getElem?_map, Option.map_some, Int.natCast_nonneg, Int.toNat_natCast, Int.reduceEq, Int.reduceToNat, Int.reduceNeg, decide_true, decide_false, Bool.and_true, Bool.and_self, Bool.not_true, Bool.not_false, ne_eq, Int.reduceLE, gk, h0, hk1, hsub, gk1, hlt2] <;> rfl) ?_
    refine awp_cond (b := false) (by simp [alook, aput, ev]) (awp_skip ?_)
    refine awp_run rfl (by simp only [fwA, ↓reduceIte, Nat.reduceAdd, Nat.reduceMul, Nat.reduceEqDiff, Nat.reduceLT, Nat.reduceLeDiff, reduceCtorEq] <;> rfl) ?_
    refine ⟨k + 1, by omega, by omega, ?_, rfl, rfl⟩
    simp only [fwA, ↓reduceIte, Nat.reduceAdd, Nat.reduceMul, Nat.reduceEqDiff, Nat.reduceLT, Nat.reduceLeDiff, reduceCtorEq, List.map_cons, List.map_nil, hw]
  simp only [hc, decide_true, ↓reduceIte]
  refine awp_skip ?_
  have hil : i < l.length := by omega
  have ga : l[i]? = some l[i] := List.getElem?_eq_getElem hil
  have hpl : l[i] ∈ l := List.getElem_mem hil
  have hoi := ho l[i] hpl
  generalize l[i] = p at ga hpl hoi
  refine awp_seq ?_
  refine awp_block ?_
  refine awp_seq ?_
  refine awp_drun [0, 0, 0, 0, 1, 0, 0, 0, 0, 1, 0, 0, 0] [0, 0, 3, 7, 15, 0, 0, 96, 224, 480, 1023, 2047, 0] mixed rfl (by kernel_rfl) (by simp only [fwA, ↓reduceIte, Nat.reduceAdd, Nat.reduceMul, Nat.reduceEqDiff, Nat.reduceLT, Nat.reduceLeDiff, reduceCtorEq, Pr.fw, I1_fw, ti53, pl53, un22, un3, un4, ti24, ti3, un23, un25, un29, el22, el23, el29, eq53, fl53_0, fl53_1, List.length_map, List.getElem?_map, Option.map_some, Int.natCast_nonneg, Int.toNat_natCast, Int.reduceEq, Int.reduceToNat, Int.reduceNeg, decide_true, decide_false, Bool.and_true, Bool.and_self, Bool.not_true, Bool.not_false, ne_eq, Int.reduceLE, ga] <;> rfl) ?_
  refine awp_block ?_
  refine awp_for [0, 3, 4, 5, 6, 37, 38, 39] (fun j : Nat => [.vec (l.map Pr.enc) false, .bool true, .vec (V.map I1) false, .vec (P.map I1) false, .int .i64 (i : Int), .vec [[.int .i64 p.a], [.int .i64 p.b]] true, .int .i64 2, .int .i64 (j : Int)]) (fun _ => H) (fun j => 2 - j) (fun j => j ≤ 2) 0 rfl rfl (by omega) fun j hj => ?_
  refine awp_seq ?_
  refine awp_run rfl (by simp only [fwA, ↓reduceIte, Nat.reduceAdd, Nat.reduceMul, Nat.reduceEqDiff, Nat.reduceLT, Nat.reduceLeDiff, reduceCtorEq] <;> rfl) ?_
  refine awp_seq ?_
  refine awp_cond (by simp only [fwA, ↓reduceIte, Nat.reduceAdd, Nat.reduceMul, Nat.reduceEqDiff, Nat.reduceLT, Nat.reduceLeDiff, reduceCtorEq] <;> rfl) ?_
  obtain rfl | hlt : j = 2 ∨ j < 2 := by omega
  · have h2 : ¬ ((2 : Nat) : Int) < 2 := by omega
    simp only [h2, decide_false, Bool.false_eq_true, ↓reduceIte]
    refine awp_exit ?_
    have hwi : IntKind.i64.wrap ((i : Int) + 1) = ((i + 1 : Nat) : Int) := wrapS i (by omega)
    refine awp_run rfl (by simp only [fwA, ↓reduceIte, Nat.reduceAdd, Nat.reduceMul, Nat.reduceEqDiff, Nat.reduceLT, Nat.reduceLeDiff, reduceCtorEq] <;> rfl) ?_
    refine ⟨i + 1, by omega, by omega, ?_, rfl, rfl⟩
    simp only [fwA, ↓reduceIte, Nat.reduceAdd, Nat.reduceMul, Nat.reduceEqDiff, Nat.reduceLT, Nat.reduceLeDiff, reduceCtorEq, List.map_cons, List.map_nil, hwi]
  have h2 : (j : Int) < 2 := by omega
  have hwj : IntKind.i64.wrap ((j : Int) + 1) = ((j + 1 : Nat) : Int) := wrapS j (by omega)
  simp only [h2, decide_true, ↓reduceIte]
  refine awp_skip ?_
  obtain ⟨x, hx, hxp, hxw⟩ : ∃ x, [[PV.int .i64 p.a], [PV.int .i64 p.b]][j]? = some [.int .i64 x] ∧ (x = p.a ∨ x = p.b) ∧ I64 x := by
    obtain rfl | rfl : j = 0 ∨ j = 1 := by omega
    · exact ⟨p.a, rfl, .inl rfl, hoi.1⟩
    · exact ⟨p.b, rfl, .inr rfl, hoi.2⟩
  have hmet : x ∈ V ∨ ∃ y ∈ P, -1 - y = x := by
    by_cases h0 : 0 ≤ x
    · exact .inl ((hVm x).2 ⟨h0, p, hpl, hxp⟩)
    · refine .inr ⟨-1 - x, (hPm _).2 ⟨by omega, p, hpl, ?_⟩, by omega⟩
      rcases hxp with h | h
      · exact .inl (by omega)
      · exact .inr (by omega)
  refine awp_seq ?_
  refine awp_block ?_
  refine awp_seq ?_
  refine awp_run rfl (by simp only [fwA, ↓reduceIte, Nat.reduceAdd, Nat.reduceMul, Nat.reduceEqDiff, Nat.reduceLT, Nat.reduceLeDiff, reduceCtorEq, Pr.fw, I1_fw, ti53, pl53, un22, un3, un4, ti24, ti3, un23, un25, un29, el22, el23, el29, eq53, fl53_0, fl53_1, List.length_map, List.getElem?_map, Option.map_some, Int.natCast_nonneg, Int.toNat_natCast, Int.reduceEq, Int.reduceToNat, Int.reduceNeg, decide_true, decide_false, Bool.and_true, Bool.and_self, Bool.not_true, Bool.not_false, ne_eq, Int.reduceLE, hx] <;> rfl) ?_
  refine awp_seq ?_
  refine awp_run rfl (by simp only [fwA, ↓reduceIte, Nat.reduceAdd, Nat.reduceMul, Nat.reduceEqDiff, Nat.reduceLT, Nat.reduceLeDiff, reduceCtorEq] <;> rfl) ?_
  refine awp_seq ?_
  refine awp_seq ?_
  refine awp_run rfl (by simp only [fwA, ↓reduceIte, Nat.reduceAdd, Nat.reduceMul, Nat.reduceEqDiff, Nat.reduceLT, Nat.reduceLeDiff, reduceCtorEq] <;> rfl) ?_
  refine awp_block ?_
  refine awp_for [0, 3, 4, 5, 6, 37, 38, 39, 8, 9, 10] (fun s : Nat × Bool => [.vec (l.map Pr.enc) false, .bool true, .vec (V.map I1) false, .vec (P.map I1) false, .int .i64 (i : Int), .vec [[.int .i64 p.a], [.int .i64 p.b]] true, .int .i64 2, .int .i64 (j : Int), .int .i64 x, .bool s.2, .int .i64 (s.1 : Int)]) (fun _ => H) (fun s => V.length - s.1)
    (fun s => s.1 ≤ V.length ∧ s.2 = decide (x ∈ V.take s.1)) (0, false) rfl rfl ⟨Nat.zero_le _, by simp⟩ fun s hs => ?_
  obtain ⟨k, met⟩ := s
  obtain ⟨hk, hm⟩ := hs
  simp only at hk hm ⊢
  refine awp_seq ?_
  refine awp_seq ?_
  refine awp_run rfl (by simp only [fwA, ↓reduceIte, Nat.reduceAdd, Nat.reduceMul, Nat.reduceEqDiff, Nat.reduceLT, Nat.reduceLeDiff, reduceCtorEq, Pr.fw, I1_fw, ti53, pl53, un22, un3, un4, ti24, ti3, un23, un25, un29, el22, el23, el29, eq53, fl53_0, fl53_1, List.length_map, List.getElem?_map, Option.map_some, Int.natCast_nonneg, Int.toNat_natCast, Int.reduceEq, Int.reduceToNat, Int.reduceNeg, decide_true, decide_false, Bool.and_true, Bool.and_self, Bool.not_true, Bool.not_false, ne_eq, Int.reduceLE] <;> rfl) ?_
  refine awp_cond (by simp only [fwA, ↓reduceIte, Nat.reduceAdd, Nat.reduceMul, Nat.reduceEqDiff, Nat.reduceLT, Nat.reduceLeDiff, reduceCtorEq] <;> rfl) ?_
  by_cases hk2 : (k : Int) < V.length
  rotate_left
  · simp only [hk2, decide_false, Bool.false_eq_true, ↓reduceIte]
    refine awp_exit ?_
    have e : k = V.length := by omega
    subst e
    rw [List.take_length] at hm
    refine awp_seq ?_
    refine awp_seq ?_
    refine awp_run rfl (by simp only [fwA, ↓reduceIte, Nat.reduceAdd, Nat.reduceMul, Nat.reduceEqDiff, Nat.reduceLT, Nat.reduceLeDiff, reduceCtorEq] <;> rfl) ?_
    refine awp_block ?_
    refine awp_for [0, 3, 4, 5, 6, 37, 38, 39, 8, 9, 11] (fun s : Nat × Bool => [.vec (l.map Pr.enc) false, .bool true, .vec (V.map I1) false, .vec (P.map I1) false, .int .i64 (i : Int), .vec [[.int .i64 p.a], [.int .i64 p.b]] true, .int .i64 2, .int .i64 (j : Int), .int .i64 x, .bool s.2, .int .i64 (s.1 : Int)]) (fun _ => H) (fun s => P.length - s.1)
      (fun s => s.1 ≤ P.length ∧ (s.2 = true ↔ (x ∈ V ∨ ∃ y ∈ P.take s.1, -1 - y = x))) (0, met) rfl rfl ⟨Nat.zero_le _, by simp [hm]⟩ fun s hs => ?_
    obtain ⟨k, met2⟩ := s
    obtain ⟨hk, hm2⟩ := hs
    simp only at hk hm2 ⊢
    refine awp_seq ?_
    refine awp_seq ?_
    refine awp_run rfl (by simp only [fwA, ↓reduceIte, Nat.reduceAdd, Nat.reduceMul, Nat.reduceEqDiff, Nat.reduceLT, Nat.reduceLeDiff, reduceCtorEq, Pr.fw, I1_fw, ti53, pl53, un22, un3, un4, ti24, ti3, un23, un25, un29, el22, el23, el29, eq53, fl53_0, fl53_1, List.length_map, List.getElem?_map, Option.map_some, Int.natCast_nonneg, Int.toNat_natCast, Int.reduceEq, Int.reduceToNat, Int.reduceNeg, decide_true, decide_false, Bool.and_true, Bool.and_self, Bool.not_true, Bool.not_false, ne_eq, Int.reduceLE] <;> rfl) ?_
    refine awp_cond (by simp only [fwA, ↓reduceIte, Nat.reduceAdd, Nat.reduceMul, Nat.reduceEqDiff, Nat.reduceLT, Nat.reduceLeDiff, reduceCtorEq] <;> rfl) ?_
    by_cases hk3 : (k : Int) < P.length
    rotate_left
    · simp only [hk3, decide_false, Bool.false_eq_true, ↓reduceIte]
      refine awp_exit ?_
      have e : k = P.length := by omega
      subst e
      rw [List.take_length] at hm2
      obtain rfl : met2 = true := hm2.2 hmet
      refine awp_seq ?_
      refine awp_run rfl (by simp only [fwA, ↓reduceIte, Nat.reduceAdd, Nat.reduceMul, Nat.reduceEqDiff, Nat.reduceLT, Nat.reduceLeDiff, reduceCtorEq] <;> rfl) ?_
      refine awp_cond (b := false) (by simp [alook, aput, ev]) (awp_skip ?_)
      refine awp_run rfl (by simp only [fwA, ↓reduceIte, Nat.reduceAdd, Nat.reduceMul, Nat.reduceEqDiff, Nat.reduceLT, Nat.reduceLeDiff, reduceCtorEq] <;> rfl) ?_
      refine ⟨j + 1, by omega, by omega, ?_, rfl, rfl⟩
      simp only [fwA, ↓reduceIte, Nat.reduceAdd, Nat.reduceMul, Nat.reduceEqDiff, Nat.reduceLT, Nat.reduceLeDiff, reduceCtorEq, List.map_cons, List.map_nil, hwj]
    simp only [hk3, decide_true, ↓reduceIte]
    refine awp_skip ?_
    have hkl : k < P.length := by omega
    have gk : P[k]? = some P[k] := List.getElem?_eq_getElem hkl
    have hyw := hpw P[k] (List.getElem_mem hkl)
    have hy0 : ¬ P[k] < 0 := by have := (hPm P[k]).1 (List.getElem_mem hkl); omega
    have h23 := c23 Γ P[k] hyw
    rw [if_neg hy0] at h23
    have hw : IntKind.i64.wrap ((k : Int) + 1) = ((k + 1 : Nat) : Int) := wrapS k (by omega)
    have htk : P.take (k + 1) = P.take k ++ [P[k]] := by rw [List.take_add_one, gk]; rfl
    refine awp_seq ?_
    refine awp_block ?_
    cases met2 with
    | true =>
      refine awp_region rfl ?_
      refine aops_run 11 (by simp only [fwA, ↓reduceIte, Nat.reduceAdd, Nat.reduceMul, Nat.reduceEqDiff, Nat.reduceLT, Nat.reduceLeDiff, reduceCtorEq, Pr.fw, I1_fw, ti53, pl53, un22, un3, un4, ti24, ti3, un23, un25, un29, el22, el23, el29, eq53, fl53_0, fl53_1, List.length_map, List.getElem?_map, Option.map_some, Int.natCast_nonneg, Int.toNat_natCast, Int.reduceEq, Int.reduceToNat, Int.reduceNeg, decide_true, decide_false, Bool.and_true, Bool.and_self, Bool.not_true, Bool.not_false, ne_eq, Int.reduceLE, gk] <;> rfl) ?_
      refine aops_end ?_
      refine awp_run rfl (by simp only [fwA, ↓reduceIte, Nat.reduceAdd, Nat.reduceMul, Nat.reduceEqDiff, Nat.reduceLT, Nat.reduceLeDiff, reduceCtorEq] <;> rfl) ?_
      refine ⟨(k + 1, true), by show P.length - (k + 1) < P.length - k; omega, ⟨hkl, ⟨fun _ => ?_, fun _ => rfl⟩⟩, ?_, rfl, rfl⟩
      · rcases hm2.1 rfl with h | ⟨y, hy, e⟩
        · exact .inl h
        · exact .inr ⟨y, by rw [htk]; exact List.mem_append_left _ hy, e⟩
      · simp only [fwA, ↓reduceIte, Nat.reduceAdd, Nat.reduceMul, Nat.reduceEqDiff, Nat.reduceLT, Nat.reduceLeDiff, reduceCtorEq, List.map_cons, List.map_nil, hw]
    | false =>
      refine awp_region rfl ?_
      refine aops_run 6 (by simp only [fwA, ↓reduceIte, Nat.reduceAdd, Nat.reduceMul, Nat.reduceEqDiff, Nat.reduceLT, Nat.reduceLeDiff, reduceCtorEq, Pr.fw, I1_fw, ti53, pl53, un22, un3, un4, ti24, ti3, un23, un25, un29, el22, el23, el29, eq53, fl53_0, fl53_1, List.length_map, List.getElem?_map, Option.map_some, Int.natCast_nonneg, Int.toNat_natCast, Int.reduceEq, Int.reduceToNat, Int.reduceNeg, decide_true, decide_false, Bool.and_true, Bool.and_self, Bool.not_true, Bool.not_false, ne_eq, Int.reduceLE, gk] <;> rfl) ?_
      refine aops_fnIf rfl rfl rfl rfl rfl en23 h23 ?_
      refine aops_run 4 (by simp only [fwA, ↓reduceIte, Nat.reduceAdd, Nat.reduceMul, Nat.reduceEqDiff, Nat.reduceLT, Nat.reduceLeDiff, reduceCtorEq, Pr.fw, I1_fw, ti53, pl53, un22, un3, un4, ti24, ti3, un23, un25, un29, el22, el23, el29, eq53, fl53_0, fl53_1, List.length_map, List.getElem?_map, Option.map_some, Int.natCast_nonneg, Int.toNat_natCast, Int.reduceEq, Int.reduceToNat, Int.reduceNeg, decide_true, decide_false, Bool.and_true, Bool.and_self, Bool.not_true, Bool.not_false, ne_eq, Int.reduceLE, gk] <;> rfl) ?_
      refine aops_end ?_
      refine awp_run rfl (by simp only [fwA, ↓reduceIte, Nat.reduceAdd, Nat.reduceMul, Nat.reduceEqDiff, Nat.reduceLT, Nat.reduceLeDiff, reduceCtorEq] <;> rfl) ?_
      refine ⟨(k + 1, decide (-1 - P[k] = x)), by show P.length - (k + 1) < P.length - k; omega, ⟨hkl, ?_⟩, ?_, rfl, rfl⟩
      · simp only [decide_eq_true_eq, htk, List.mem_append, List.mem_singleton]
        constructor
        · exact fun e => .inr ⟨_, .inr rfl, e⟩
        · rintro (h | ⟨y, hy | rfl, e⟩)
          · exact absurd (hm2.2 (.inl h)) (by decide)
          · exact absurd (hm2.2 (.inr ⟨y, hy, e⟩)) (by decide)
          · exact e
      · simp only [fwA, ↓reduceIte, Nat.reduceAdd, Nat.reduceMul, Nat.reduceEqDiff, Nat.reduceLT, Nat.reduceLeDiff, reduceCtorEq, List.map_cons, List.map_nil, hw]
  simp only [hk2, decide_true, ↓reduceIte]
  refine awp_skip ?_
  have hkl : k < V.length := by omega
  have gk : V[k]? = some V[k] := List.getElem?_eq_getElem hkl
  have hw : IntKind.i64.wrap ((k : Int) + 1) = ((k + 1 : Nat) : Int) := wrapS k (by omega)
  have htk : V.take (k + 1) = V.take k ++ [V[k]] := by rw [List.take_add_one, gk]; rfl
  refine awp_seq ?_
  refine awp_block ?_
  cases met with
  | true =>
    refine awp_region rfl ?_
    refine aops_run 10 (by simp only [fwA, ↓reduceIte, Nat.reduceAdd, Nat.reduceMul, Nat.reduceEqDiff, Nat.reduceLT, Nat.reduceLeDiff, reduceCtorEq, Pr.fw, I1_fw, ti53, pl53, un22, un3, un4, ti24, ti3, un23, un25, un29, el22, el23, el29, eq53, fl53_0, fl53_1, List.length_map, List.getElem?_map, Option.map_some, Int.natCast_nonneg, Int.toNat_natCast, Int.reduceEq, Int.reduceToNat, Int.reduceNeg, decide_true, decide_false, Bool.and_true, Bool.and_self, Bool.not_true, Bool.not_false, ne_eq, Int.reduceLE, gk] <;> rfl) ?_
    refine aops_end ?_
    refine awp_run rfl (by simp only [fwA, ↓reduceIte, Nat.reduceAdd, Nat.reduceMul, Nat.reduceEqDiff, Nat.reduceLT, Nat.reduceLeDiff, reduceCtorEq] <;> rfl) ?_
    refine ⟨(k + 1, true), by show V.length - (k + 1) < V.length - k; omega, ⟨hkl, ?_⟩, ?_, rfl, rfl⟩
    · show true = decide _
      rw [htk]
      exact (decide_eq_true (List.mem_append_left _ (of_decide_eq_true hm.symm))).symm
    · simp only [fwA, ↓reduceIte, Nat.reduceAdd, Nat.reduceMul, Nat.reduceEqDiff, Nat.reduceLT, Nat.reduceLeDiff, reduceCtorEq, List.map_cons, List.map_nil, hw]
  | false =>
    refine awp_region rfl ?_
    refine aops_run 10 (by simp only [fwA, ↓reduceIte, Nat.reduceAdd, Nat.reduceMul, Nat.reduceEqDiff, Nat.reduceLT, Nat.reduceLeDiff, reduceCtorEq, Pr.fw, I1_fw, ti53, pl53, un22, un3, un4, ti24, ti3, un23, un25, un29, el22, el23, el29, eq53, fl53_0, fl53_1, List.length_map, List.getElem?_map, Option.map_some, Int.natCast_nonneg, Int.toNat_natCast, Int.reduceEq, Int.reduceToNat, Int.reduceNeg, decide_true, decide_false, Bool.and_true, Bool.and_self, Bool.not_true, Bool.not_false, ne_eq, Int.reduceLE, gk] <;> rfl) ?_
    refine aops_end ?_
    refine awp_run rfl (by simp only [fwA, ↓reduceIte, Nat.reduceAdd, Nat.reduceMul, Nat.reduceEqDiff, Nat.reduceLT, Nat.reduceLeDiff, reduceCtorEq] <;> rfl) ?_
    refine ⟨(k + 1, decide (V[k] = x)), by show V.length - (k + 1) < V.length - k; omega, ⟨hkl, ?_⟩, ?_, rfl, rfl⟩
    · show decide _ = decide _
      refine decide_eq_decide.2 ?_
      rw [htk, List.mem_append, List.mem_singleton]
      exact ⟨fun e => .inr e.symm, fun h => h.elim (fun h => absurd h (of_decide_eq_false hm.symm)) fun e => e.symm⟩
    · simp only [fwA, ↓reduceIte, Nat.reduceAdd, Nat.reduceMul, Nat.reduceEqDiff, Nat.reduceLT, Nat.reduceLeDiff, reduceCtorEq, List.map_cons, List.map_nil, hw]

end Go.Proofs.YtdacialfjlcboaaGreatDoor
