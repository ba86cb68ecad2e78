/- The law on what is in order. -/
import Derived.Test.YtdacialfjlcboaaGreatDoorT10c
namespace Go.Proofs.YtdacialfjlcboaaGreatDoor
set_option linter.unusedVariables false
set_option linter.unusedSimpArgs false
set_option maxRecDepth 100000
open Go.RowKit Fw

/-- The first i pairs, said twice, the other way round. -/
def twice (l : List Pr) : Nat → List Pr
  | 0 => []
  | i + 1 => (match l[i]? with | none => [] | some p => [p, p]) ++ twice l i
theorem twice_mem (l : List Pr) : ∀ i x, x ∈ twice l i ↔ x ∈ l.take i
  | 0, x => by simp [twice]
  | i + 1, x => by
    rw [twice, List.mem_append, twice_mem l i, List.take_add_one, List.mem_append, Or.comm]
    cases l[i]? <;> simp
theorem twice_len (l : List Pr) : ∀ i, (twice l i).length ≤ 2 * i
  | 0 => Nat.le_refl _
  | i + 1 => by
    have := twice_len l i
    rw [twice, List.length_append]
    cases l[i]? <;> simp <;> omega
theorem norm_same {l k : List Pr} (h : ∀ x, x ∈ l ↔ x ∈ k) : normL l = normL k := normL_is (normL_rise k) fun x => by rw [normL_mem, h]
theorem norm_norm (l : List Pr) : normL (normL l) = normL l := normL_is (normL_rise l) fun x => by
  rw [normL_mem]
  exact ⟨fun h => ⟨h, h.2⟩, fun h => h.1⟩
theorem norm_len (l : List Pr) : (normL l).length ≤ l.length := by
  have h1 := cpt_le (sortP l) (sortP l).length
  have h2 := List.length_filter_le unl l
  have h3 := sortP_len l
  unfold normL
  omega

set_option maxHeartbeats 4000000 in
/-- AtomNorm -/
theorem c5 (Γ : Nat → PV) (hΓ : Tab Γ) (l : List Pr) (hl : l.length ≤ 2000000) : Gives Tryz.prog Γ 5 [.vec (l.map Pr.enc) false] (.bool true) := by
  have h17 := c17 Γ l false (by omega)
  have h17b := c17 Γ (normL l) false (by have := norm_len l; omega)
  rw [norm_norm] at h17b
  have h17c := fun f => c17 Γ (twice l l.length) f (by have := twice_len l l.length; omega)
  rw [norm_same (l := twice l l.length) (k := l) (fun x => by rw [twice_mem, List.take_length])] at h17c
  have h32 := c32 Γ (normL l) (normL l)
  rw [decide_eq_true rfl] at h32
  have hNm := normL_mem l
  have hNr := normL_rise l
  have hNl := norm_len l
  generalize normL l = N at *
  refine fn_of_awp Tryz.func5 rfl (by simp [Tryz.f5]) rfl fun H => ?_
  refine awp_seq ?_
  refine awp_run rfl (by simp only [fwA, ↓reduceIte, Nat.reduceAdd, Nat.reduceMul, Nat.reduceEqDiff, Nat.reduceLT, Nat.reduceLeDiff, reduceCtorEq] <;> rfl) ?_
  refine awp_seq ?_
  refine awp_region rfl ?_
  refine aops_fn rfl rfl rfl en9 (c9 Γ hΓ) ?_
  refine aops_run 1 (by simp only [fwA, ↓reduceIte, Nat.reduceAdd, Nat.reduceMul, Nat.reduceEqDiff, Nat.reduceLT, Nat.reduceLeDiff, reduceCtorEq] <;> rfl) ?_
  refine awp_seq ?_
  refine awp_seq ?_
  refine awp_run rfl (by simp only [fwA, ↓reduceIte, Nat.reduceAdd, Nat.reduceMul, Nat.reduceEqDiff, Nat.reduceLT, Nat.reduceLeDiff, reduceCtorEq] <;> rfl) ?_
  refine awp_cond (b := false) (by simp [alook, aput, ev]) (awp_skip ?_)
  refine awp_seq ?_
  refine awp_region rfl ?_
  refine aops_run 1 (by simp only [fwA, ↓reduceIte, Nat.reduceAdd, Nat.reduceMul, Nat.reduceEqDiff, Nat.reduceLT, Nat.reduceLeDiff, reduceCtorEq, Pr.fw, ti53, pl53, un22, un3, un4, ti24, ti3, un23, un25, un29, el22, el23, el29, eq53, fl53_0, fl53_1, List.length_map, List.getElem?_map, Option.map_some, Int.natCast_nonneg, Int.toNat_natCast, Int.reduceEq, Int.reduceToNat, Int.reduceNeg, decide_true, decide_false, Bool.and_true, Bool.and_self, Bool.not_true, Bool.not_false, ne_eq, Int.reduceLE] <;> rfl) ?_
  refine aops_fn rfl rfl rfl en17 h17 ?_
  refine aops_run 1 (by simp only [fwA, ↓reduceIte, Nat.reduceAdd, Nat.reduceMul, Nat.reduceEqDiff, Nat.reduceLT, Nat.reduceLeDiff, reduceCtorEq, Pr.fw, ti53, pl53, un22, un3, un4, ti24, ti3, un23, un25, un29, el22, el23, el29, eq53, fl53_0, fl53_1, List.length_map, List.getElem?_map, Option.map_some, Int.natCast_nonneg, Int.toNat_natCast, Int.reduceEq, Int.reduceToNat, Int.reduceNeg, decide_true, decide_false, Bool.and_true, Bool.and_self, Bool.not_true, Bool.not_false, ne_eq, Int.reduceLE] <;> rfl) ?_
  refine aops_end ?_
  refine awp_seq ?_
  refine awp_run rfl (by simp only [fwA, ↓reduceIte, Nat.reduceAdd, Nat.reduceMul, Nat.reduceEqDiff, Nat.reduceLT, Nat.reduceLeDiff, reduceCtorEq] <;> rfl) ?_
  refine awp_seq ?_
  refine awp_seq ?_
  refine awp_run rfl (by simp only [fwA, ↓reduceIte, Nat.reduceAdd, Nat.reduceMul, Nat.reduceEqDiff, Nat.reduceLT, Nat.reduceLeDiff, reduceCtorEq] <;> rfl) ?_
  refine awp_block ?_
  refine awp_for [0, 3, 4, 5, 6] (fun i : Nat => [.vec (l.map Pr.enc) false, .bool true, .vec (N.map Pr.enc) false, .vec ((twice l i).map Pr.enc) (decide (i = 0)), .int .i64 (i : Int)]) (fun _ => H) (fun i => l.length - i) (fun i => i ≤ l.length) 0 rfl rfl (Nat.zero_le _) fun i hi => ?_
  refine awp_seq ?_
  refine awp_seq ?_
  refine awp_run rfl (by simp only [fwA, ↓reduceIte, Nat.reduceAdd, Nat.reduceMul, Nat.reduceEqDiff, Nat.reduceLT, Nat.reduceLeDiff, reduceCtorEq, Pr.fw, ti53, pl53, un22, un3, un4, ti24, ti3, un23, un25, un29, el22, el23, el29, eq53, fl53_0, fl53_1, List.length_map, List.getElem?_map, Option.map_some, Int.natCast_nonneg, Int.toNat_natCast, Int.reduceEq, Int.reduceToNat, Int.reduceNeg, decide_true, decide_false, Bool.and_true, Bool.and_self, Bool.not_true, Bool.not_false, ne_eq, Int.reduceLE] <;> rfl) ?_
  refine awp_cond (by simp only [fwA, ↓reduceIte, Nat.reduceAdd, Nat.reduceMul, Nat.reduceEqDiff, Nat.reduceLT, Nat.reduceLeDiff, reduceCtorEq] <;> rfl) ?_
  by_cases hc : (i : Int) < l.length
  rotate_left
  · simp only [hc, decide_false, Bool.false_eq_true, ↓reduceIte]
    refine awp_exit ?_
    have e : i = l.length := by omega
    subst e
    have h17d := h17c (decide (l.length = 0))
    generalize decide (l.length = 0) = fl at h17d ⊢
    refine awp_seq ?_
    refine awp_seq ?_
    refine awp_run rfl (by simp only [fwA, ↓reduceIte, Nat.reduceAdd, Nat.reduceMul, Nat.reduceEqDiff, Nat.reduceLT, Nat.reduceLeDiff, reduceCtorEq] <;> rfl) ?_
    refine awp_block ?_
    refine awp_for [0, 3, 4, 5, 9] (fun k : Nat => [.vec (l.map Pr.enc) false, .bool true, .vec (N.map Pr.enc) false, .vec ((twice l l.length).map Pr.enc) fl, .int .i64 (k : Int)]) (fun _ => H) (fun k => N.length - k) (fun k => k ≤ N.length) 0 rfl rfl (Nat.zero_le _) fun k hk => ?_
    refine awp_seq ?_
    refine awp_seq ?_
    refine awp_run rfl (by simp only [fwA, ↓reduceIte, Nat.reduceAdd, Nat.reduceMul, Nat.reduceEqDiff, Nat.reduceLT, Nat.reduceLeDiff, reduceCtorEq, Pr.fw, ti53, pl53, un22, un3, un4, ti24, ti3, un23, un25, un29, el22, el23, el29, eq53, fl53_0, fl53_1, List.length_map, List.getElem?_map, Option.map_some, Int.natCast_nonneg, Int.toNat_natCast, Int.reduceEq, Int.reduceToNat, Int.reduceNeg, decide_true, decide_false, Bool.and_true, Bool.and_self, Bool.not_true, Bool.not_false, ne_eq, Int.reduceLE] <;> rfl) ?_
    refine awp_cond (by simp only [fwA, ↓reduceIte, Nat.reduceAdd, Nat.reduceMul, Nat.reduceEqDiff, Nat.reduceLT, Nat.reduceLeDiff, reduceCtorEq] <;> rfl) ?_
    by_cases hk2 : (k : Int) < N.length
    rotate_left
    · simp only [hk2, decide_false, Bool.false_eq_true, ↓reduceIte]
      refine awp_exit ?_
      have hle : (N.length : Int) ≤ l.length := by omega
      refine awp_seq ?_
      refine awp_region rfl ?_
      refine aops_run 3 (by simp only [fwA, ↓reduceIte, Nat.reduceAdd, Nat.reduceMul, Nat.reduceEqDiff, Nat.reduceLT, Nat.reduceLeDiff, reduceCtorEq, Pr.fw, ti53, pl53, un22, un3, un4, ti24, ti3, un23, un25, un29, el22, el23, el29, eq53, fl53_0, fl53_1, List.length_map, List.getElem?_map, Option.map_some, Int.natCast_nonneg, Int.toNat_natCast, Int.reduceEq, Int.reduceToNat, Int.reduceNeg, decide_true, decide_false, Bool.and_true, Bool.and_self, Bool.not_true, Bool.not_false, ne_eq, Int.reduceLE, hle] <;> rfl) ?_
      refine aops_fnIf rfl rfl rfl rfl rfl en17 h17b ?_
      refine aops_run 1 (by simp only [fwA, ↓reduceIte, Nat.reduceAdd, Nat.reduceMul, Nat.reduceEqDiff, Nat.reduceLT, Nat.reduceLeDiff, reduceCtorEq, Pr.fw, ti53, pl53, un22, un3, un4, ti24, ti3, un23, un25, un29, el22, el23, el29, eq53, fl53_0, fl53_1, List.length_map, List.getElem?_map, Option.map_some, Int.natCast_nonneg, Int.toNat_natCast, Int.reduceEq, Int.reduceToNat, Int.reduceNeg, decide_true, decide_false, Bool.and_true, Bool.and_self, Bool.not_true, Bool.not_false, ne_eq, Int.reduceLE, hle] <;> rfl) ?_
      refine aops_fnIf rfl rfl rfl rfl rfl en32 h32 ?_
      refine aops_run 3 (by simp only [fwA, ↓reduceIte, Nat.reduceAdd, Nat.reduceMul, Nat.reduceEqDiff, Nat.reduceLT, Nat.reduceLeDiff, reduceCtorEq, Pr.fw, ti53, pl53, un22, un3, un4, ti24, ti3, un23, un25, un29, el22, el23, el29, eq53, fl53_0, fl53_1, List.length_map, List.getElem?_map, Option.map_some, Int.natCast_nonneg, Int.toNat_natCast, Int.reduceEq, Int.reduceToNat, Int.reduceNeg, decide_true, decide_false, Bool.and_true, Bool.and_self, Bool.not_true, Bool.not_false, ne_eq, Int.reduceLE, hle] <;> rfl) ?_
      refine aops_fnIf rfl rfl rfl rfl rfl en17 h17d ?_
      refine aops_run 1 (by simp only [fwA, ↓reduceIte, Nat.reduceAdd, Nat.reduceMul, Nat.reduceEqDiff, Nat.reduceLT, Nat.reduceLeDiff, reduceCtorEq, Pr.fw, ti53, pl53, un22, un3, un4, ti24, ti3, un23, un25, un29, el22, el23, el29, eq53, fl53_0, fl53_1, List.length_map, List.getElem?_map, Option.map_some, Int.natCast_nonneg, Int.toNat_natCast, Int.reduceEq, Int.reduceToNat, Int.reduceNeg, decide_true, decide_false, Bool.and_true, Bool.and_self, Bool.not_true, Bool.not_false, ne_eq, Int.reduceLE, hle] <;> rfl) ?_
      refine aops_fnIf rfl rfl rfl rfl rfl en32 h32 ?_
      refine aops_run 9 (by simp only [fwA, ↓reduceIte, Nat.reduceAdd, Nat.reduceMul, Nat.reduceEqDiff, Nat.reduceLT, Nat.reduceLeDiff, reduceCtorEq, Pr.fw, ti53, pl53, un22, un3, un4, ti24, ti3, un23, un25, un29, el22, el23, el29, eq53, fl53_0, fl53_1, List.length_map, List.getElem?_map, Option.map_some, Int.natCast_nonneg, Int.toNat_natCast, Int.reduceEq, Int.reduceToNat, Int.reduceNeg, decide_true, decide_false, Bool.and_true, Bool.and_self, Bool.not_true, Bool.not_false, ne_eq, Int.reduceLE, hle] <;> rfl) ?_
      refine aops_end ?_
      refine awp_ret ?_
      exact gives_end0 (.inl rfl) rfl
    simp only [hk2, decide_true, ↓reduceIte]
    refine awp_skip ?_
    have hkl : k < N.length := by omega
    have gk : N[k]? = some N[k] := List.getElem?_eq_getElem hkl
    have hu : ¬ N[k].a = N[k].b := by
      have := ((hNm N[k]).1 (List.getElem_mem hkl)).2
      unfold unl like at this
      simpa using this
    have hw : IntKind.i64.wrap ((k : Int) + 1) = ((k + 1 : Nat) : Int) := wrapS k (by omega)
    refine awp_seq ?_
    refine awp_block ?_
    refine awp_seq ?_
    by_cases hk0 : k = 0
    · subst hk0
      refine awp_drawn [0, 0, 0, 0, 1, 0, 0, 0, 0, 1, 0, 0, 0, 0, 0, 0, 0, 0, 0, 0, 1, 0, 0, 0, 0, 1, 0, 0, 0, 0, 0, 0, 0, 1, 0, 0, 0, 0, 1, 0, 0, 0, 0, 0, 0, 0, 1, 0, 0, 0, 0, 1, 0, 0, 0, 0, 0] [0, 0, 3, 7, 15, 0, 0, 96, 224, 480, 1023, 2047, 4095, 8191, 16383, 32767, 32767, 98303, 262143, 524287, 1048575, 32767, 32767, 6324223, 14712831, 31490047, 67108863, 134217727, 268435455, 268435455, 805306367, 2147483647, 4294967295, 8589934591, 268435455, 268435455, 51808043007, 120527519743, 257966473215, 549755813887, 1099511627775, 2199023255551, 2199023255551, 6597069766655, 17592186044415, 35184372088831, 70368744177663, 2199023255551, 2199023255551, 424411488321535, 987361441742847, 2113261348585471, 4503599627370495, 9007199254740991, 18014398509481983, 36028797018963967, 72057594037927935] mixed rfl (by kernel_rfl) ?_
      refine dops_run 13 (by simp only [fwA, ↓reduceIte, Nat.reduceAdd, Nat.reduceMul, Nat.reduceEqDiff, Nat.reduceLT, Nat.reduceLeDiff, reduceCtorEq, Pr.fw, ti53, pl53, un22, un3, un4, ti24, ti3, un23, un25, un29, el22, el23, el29, eq53, fl53_0, fl53_1, List.length_map, List.getElem?_map, Option.map_some, Int.natCast_nonneg, Int.toNat_natCast, Int.reduceEq, Int.reduceToNat, Int.reduceNeg, decide_true, decide_false, Bool.and_true, Bool.and_self, Bool.not_true, Bool.not_false, ne_eq, Int.reduceLE, gk, hu] <;> rfl) ?_
      refine dops_run 13 (by simp only [fwA, ↓reduceIte, Nat.reduceAdd, Nat.reduceMul, Nat.reduceEqDiff, Nat.reduceLT, Nat.reduceLeDiff, reduceCtorEq, Pr.fw, ti53, pl53, un22, un3, un4, ti24, ti3, un23, un25, un29, el22, el23, el29, eq53, fl53_0, fl53_1, List.length_map, List.getElem?_map, Option.map_some, Int.natCast_nonneg, Int.toNat_natCast, Int.reduceEq, Int.reduceToNat, Int.reduceNeg, decide_true, decide_false, Bool.and_true, Bool.and_self, Bool.not_true, Bool.not_false, ne_eq, Int.reduceLE, gk, hu] <;> rfl) ?_
      refine dops_run 13 (by simp only [fwA, ↓reduceIte, Nat.reduceAdd, Nat.reduceMul, Nat.reduceEqDiff, Nat.reduceLT, Nat.reduceLeDiff, reduceCtorEq, Pr.fw, ti53, pl53, un22, un3, un4, ti24, ti3, un23, un25, un29, el22, el23, el29, eq53, fl53_0, fl53_1, List.length_map, List.getElem?_map, Option.map_some, Int.natCast_nonneg, Int.toNat_natCast, Int.reduceEq, Int.reduceToNat, Int.reduceNeg, decide_true, decide_false, Bool.and_true, Bool.and_self, Bool.not_true, Bool.not_false, ne_eq, Int.reduceLE, gk, hu] <;> rfl) ?_
      refine dops_run 13 (by simp only [fwA, ↓reduceIte, Nat.reduceAdd, Nat.reduceMul, Nat.reduceEqDiff, Nat.reduceLT, Nat.reduceLeDiff, reduceCtorEq, Pr.fw, ti53, pl53, un22, un3, un4, ti24, ti3, un23, un25, un29, el22, el23, el29, eq53, fl53_0, fl53_1, List.length_map, List.getElem?_map, Option.map_some, Int.natCast_nonneg, Int.toNat_natCast, Int.reduceEq, Int.reduceToNat, Int.reduceNeg, decide_true, decide_false, Bool.and_true, Bool.and_self, Bool.not_true, Bool.not_false, ne_eq, Int.reduceLE, gk, hu] <;> rfl) ?_
      refine dops_run 5 (by simp only [fwA, ↓reduceIte, Nat.reduceAdd, Nat.reduceMul, Nat.reduceEqDiff, Nat.reduceLT, Nat.reduceLeDiff, reduceCtorEq, Pr.fw, ti53, pl53, un22, un3, un4, ti24, ti3, un23, un25, un29, el22, el23, el29, eq53, fl53_0, fl53_1, List.length_map, List.getElem?_map, Option.map_some, Int.natCast_nonneg, Int.toNat_natCast, Int.reduceEq, Int.reduceToNat, Int.reduceNeg, decide_true, decide_false, Bool.and_true, Bool.and_self, Bool.not_true, Bool.not_false, ne_eq, Int.reduceLE, gk, hu] <;> rfl) ?_
      refine dops_end ?_
      refine awp_cond (b := false) (by simp [alook, aput, ev]) (awp_skip ?_)
      refine awp_run rfl (by simp only [fwA, ↓reduceIte, Nat.reduceAdd, Nat.reduceMul, Nat.reduceEqDiff, Nat.reduceLT, Nat.reduceLeDiff, reduceCtorEq] <;> rfl) ?_
      exact ⟨1, by omega, by omega, rfl, rfl, rfl⟩
    have hk1 : (0 : Int) < (k : Int) := by omega
    have hsub : IntKind.i64.wrap ((k : Int) - 1) = ((k - 1 : Nat) : Int) := by rw [wrapId ⟨by omega, by omega⟩]; omega
    have gk1 : N[k - 1]? = some N[k - 1] := List.getElem?_eq_getElem (by omega)
    have hlt : ltP N[k - 1] N[k] := List.pairwise_iff_getElem.1 hNr (k - 1) k (by omega) hkl (by omega)
    have hg : ¬ N[k].a < N[k - 1].a := by unfold ltP at hlt; omega
    by_cases hq : N[k - 1].a = N[k].a
    · have hb : ¬ N[k].b ≤ N[k - 1].b := by unfold ltP at hlt; omega
      have hg2 : ¬ N[k].a < N[k].a := Int.lt_irrefl _
      refine awp_drawn [0, 0, 0, 0, 1, 0, 0, 0, 0, 1, 0, 0, 0, 0, 0, 0, 0, 0, 0, 0, 1, 0, 0, 0, 0, 1, 0, 0, 0, 0, 0, 0, 0, 1, 0, 0, 0, 0, 1, 0, 0, 0, 0, 0, 0, 0, 1, 0, 0, 0, 0, 1, 0, 0, 0, 0, 0] [0, 0, 3, 7, 15, 0, 0, 96, 224, 480, 1023, 2047, 4095, 8191, 16383, 32767, 32767, 98303, 262143, 524287, 1048575, 32767, 32767, 6324223, 14712831, 31490047, 67108863, 134217727, 268435455, 268435455, 805306367, 2147483647, 4294967295, 8589934591, 268435455, 268435455, 51808043007, 120527519743, 257966473215, 549755813887, 1099511627775, 2199023255551, 2199023255551, 6597069766655, 17592186044415, 35184372088831, 70368744177663, 2199023255551, 2199023255551, 424411488321535, 987361441742847, 2113261348585471, 4503599627370495, 9007199254740991, 18014398509481983, 36028797018963967, 72057594037927935] mixed rfl (by kernel_rfl) ?_
      refine dops_run 13 (by simp only [fwA, ↓reduceIte, Nat.reduceAdd, Nat.reduceMul, Nat.reduceEqDiff, Nat.reduceLT, Nat.reduceLeDiff, reduceCtorEq, Pr.fw, ti53, pl53, un22, un3, un4, ti24, ti3, un23, un25, un29, el22, el23, el29, eq53, fl53_0, fl53_1, List.length_map, List.getElem?_map, Option.map_some, Int.natCast_nonneg, Int.toNat_natCast, Int.reduceEq, Int.reduceToNat, Int.reduceNeg, decide_true, decide_false, Bool.and_true, Bool.and_self, Bool.not_true, Bool.not_false, ne_eq, Int.reduceLE, gk, hu, hk1, hsub, gk1, hg, hg2, hq, hb] <;> rfl) ?_
      refine dops_run 13 (by simp only [fwA, ↓reduceIte, Nat.reduceAdd, Nat.reduceMul, Nat.reduceEqDiff, Nat.reduceLT, Nat.reduceLeDiff, reduceCtorEq, Pr.fw, ti53, pl53, un22, un3, un4, ti24, ti3, un23, un25, un29, el22, el23, el29, eq53, fl53_0, fl53_1, List.length_map, List.getElem?_map, Option.map_some, Int.natCast_nonneg, Int.toNat_natCast, Int.reduceEq, Int.reduceToNat, Int.reduceNeg, decide_true, decide_false, Bool.and_true, Bool.and_self, Bool.not_true, Bool.not_false, ne_eq, Int.reduceLE, gk, hu, hk1, hsub, gk1, hg, hg2, hq, hb] <;> rfl) ?_
      refine dops_run 13 (by simp only [fwA, ↓reduceIte, Nat.reduceAdd, Nat.reduceMul, Nat.reduceEqDiff, Nat.reduceLT, Nat.reduceLeDiff, reduceCtorEq, Pr.fw, ti53, pl53, un22, un3, un4, ti24, ti3, un23, un25, un29, el22, el23, el29, eq53, fl53_0, fl53_1, List.length_map, List.getElem?_map, Option.map_some, Int.natCast_nonneg, Int.toNat_natCast, Int.reduceEq, Int.reduceToNat, Int.reduceNeg, decide_true, decide_false, Bool.and_true, Bool.and_self, Bool.not_true, Bool.not_false, ne_eq, Int.reduceLE, gk, hu, hk1, hsub, gk1, hg, hg2, hq, hb] <;> rfl) ?_
      refine dops_run 13 (by simp only [fwA, ↓reduceIte, Nat.reduceAdd, Nat.reduceMul, Nat.reduceEqDiff, Nat.reduceLT, Nat.reduceLeDiff, reduceCtorEq, Pr.fw, ti53, pl53, un22, un3, un4, ti24, ti3, un23, un25, un29, el22, el23, el29, eq53, fl53_0, fl53_1, List.length_map, List.getElem?_map, Option.map_some, Int.natCast_nonneg, Int.toNat_natCast, Int.reduceEq, Int.reduceToNat, Int.reduceNeg, decide_true, decide_false, Bool.and_true, Bool.and_self, Bool.not_true, Bool.not_false, ne_eq, Int.reduceLE, gk, hu, hk1, hsub, gk1, hg, hg2, hq, hb] <;> rfl) ?_
      refine dops_run 5 (by simp only [fwA, ↓reduceIte, Nat.reduceAdd, Nat.reduceMul, Nat.reduceEqDiff, Nat.reduceLT, Nat.reduceLeDiff, reduceCtorEq, Pr.fw, ti53, pl53, un22, un3, un4, ti24, ti3, un23, un25, un29, el22, el23, el29, eq53, fl53_0, fl53_1, List.length_map, List.getElem?_map, Option.map_some, Int.natCast_nonneg, Int.toNat_natCast, Int.reduceEq, Int.reduceToNat, Int.reduceNeg, decide_true, decide_false, Bool.and_true, Bool.and_self, Bool.not_true, Bool.not_false, ne_eq, Int.reduceLE, gk, hu, hk1, hsub, gk1, hg, hg2, hq, hb] <;> rfl) ?_
      refine dops_end ?_
      refine awp_cond (b := false) (by simp [alook, aput, ev]) (awp_skip ?_)
      refine awp_run rfl (by simp only [fwA, ↓reduceIte, Nat.reduceAdd, Nat.reduceMul, Nat.reduceEqDiff, Nat.reduceLT, Nat.reduceLeDiff, reduceCtorEq] <;> rfl) ?_
      refine ⟨k + 1, by omega, by omega, ?_, rfl, rfl⟩
      simp only [fwA, ↓reduceIte, Nat.reduceAdd, Nat.reduceMul, Nat.reduceEqDiff, Nat.reduceLT, Nat.reduceLeDiff, reduceCtorEq, List.map_cons, List.map_nil, hw]
    refine awp_drawn [0, 0, 0, 0, 1, 0, 0, 0, 0, 1, 0, 0, 0, 0, 0, 0, 0, 0, 0, 0, 1, 0, 0, 0, 0, 1, 0, 0, 0, 0, 0, 0, 0, 1, 0, 0, 0, 0, 1, 0, 0, 0, 0, 0, 0, 0, 1, 0, 0, 0, 0, 1, 0, 0, 0, 0, 0] [0, 0, 3, 7, 15, 0, 0, 96, 224, 480, 1023, 2047, 4095, 8191, 16383, 32767, 32767, 98303, 262143, 524287, 1048575, 32767, 32767, 6324223, 14712831, 31490047, 67108863, 134217727, 268435455, 268435455, 805306367, 2147483647, 4294967295, 8589934591, 268435455, 268435455, 51808043007, 120527519743, 257966473215, 549755813887, 1099511627775, 2199023255551, 2199023255551, 6597069766655, 17592186044415, 35184372088831, 70368744177663, 2199023255551, 2199023255551, 424411488321535, 987361441742847, 2113261348585471, 4503599627370495, 9007199254740991, 18014398509481983, 36028797018963967, 72057594037927935] mixed rfl (by kernel_rfl) ?_
    refine dops_run 13 (by simp only [fwA, ↓reduceIte, Nat.reduceAdd, Nat.reduceMul, Nat.reduceEqDiff, Nat.reduceLT, Nat.reduceLeDiff, reduceCtorEq, Pr.fw, ti53, pl53, un22, un3, un4, ti24, ti3, un23, un25, un29, el22, el23, el29, eq53, fl53_0, fl53_1, List.length_map, List.getElem?_map, Option.map_some, Int.natCast_nonneg, Int.toNat_natCast, Int.reduceEq, Int.reduceToNat, Int.reduceNeg, decide_true, decide_false, Bool.and_true, Bool.and_self, Bool.not_true, Bool.not_false, ne_eq, Int.reduceLE, gk, hu, hk1, hsub, gk1, hg, hq] <;> rfl) ?_
    refine dops_run 13 (by simp only [fwA, ↓reduceIte, Nat.reduceAdd, Nat.reduceMul, Nat.reduceEqDiff, Nat.reduceLT, Nat.reduceLeDiff, reduceCtorEq, Pr.fw, ti53, pl53, un22, un3, un4, ti24, ti3, un23, un25, un29, el22, el23, el29, eq53, fl53_0, fl53_1, List.length_map, List.getElem?_map, Option.map_some, Int.natCast_nonneg, Int.toNat_natCast, Int.reduceEq, Int.reduceToNat, Int.reduceNeg, decide_true, decide_false, Bool.and_true, Bool.and_self, Bool.not_true, Bool.not_false, ne_eq, Int.reduceLE, gk, hu, hk1, hsub, gk1, hg, hq] <;> rfl) ?_
    refine dops_run 13 (by simp only [fwA, ↓reduceIte, Nat.reduceAdd, Nat.reduceMul, Nat.reduceEqDiff, Nat.reduceLT, Nat.reduceLeDiff, reduceCtorEq, Pr.fw, ti53, pl53, un22, un3, un4, ti24, ti3, un23, un25, un29, el22, el23, el29, eq53, fl53_0, fl53_1, List.length_map, List.getElem?_map, Option.map_some, Int.natCast_nonneg, Int.toNat_natCast, Int.reduceEq, Int.reduceToNat, Int.reduceNeg, decide_true, decide_false, Bool.and_true, Bool.and_self, Bool.not_true, Bool.not_false, ne_eq, Int.reduceLE, gk, hu, hk1, hsub, gk1, hg, hq] <;> rfl) ?_
    refine dops_run 13 (by simp only [fwA, ↓reduceIte, Nat.reduceAdd, Nat.reduceMul, Nat.reduceEqDiff, Nat.reduceLT, Nat.reduceLeDiff, reduceCtorEq, Pr.fw, ti53, pl53, un22, un3, un4, ti24, ti3, un23, un25, un29, el22, el23, el29, eq53, fl53_0, fl53_1, List.length_map, List.getElem?_map, Option.map_some, Int.natCast_nonneg, Int.toNat_natCast, Int.reduceEq, Int.reduceToNat, Int.reduceNeg, decide_true, decide_false, Bool.and_true, Bool.and_self, Bool.not_true, Bool.not_false, ne_eq, Int.reduceLE, gk, hu, hk1, hsub, gk1, hg, hq] <;> rfl) ?_
    refine dops_run 5 (by simp only [fwA, ↓reduceIte, Nat.reduceAdd, Nat.reduceMul, Nat.reduceEqDiff, Nat.reduceLT, Nat.reduceLeDiff, reduceCtorEq, Pr.fw, ti53, pl53, un22, un3, un4, ti24, ti3, un23, un25, un29, el22, el23, el29, eq53, fl53_0, fl53_1, List.length_map, List.getElem?_map, Option.map_some, Int.natCast_nonneg, Int.toNat_natCast, Int.reduceEq, Int.reduceToNat, Int.reduceNeg, decide_true, decide_false, Bool.and_true, Bool.and_self, Bool.not_true, Bool.not_false, ne_eq, Int.reduceLE, gk, hu, hk1, hsub, gk1, hg, hq] <;> rfl) ?_
    refine dops_end ?_
    refine awp_cond (b := false) (by simp [alook, aput, ev]) (awp_skip ?_)
    refine awp_run rfl (by simp only [fwA, ↓reduceIte, Nat.reduceAdd, Nat.reduceMul, Nat.reduceEqDiff, Nat.reduceLT, Nat.reduceLeDiff, reduceCtorEq] <;> rfl) ?_
    refine ⟨k + 1, by omega, by omega, ?_, rfl, rfl⟩
    simp only [fwA, ↓reduceIte, Nat.reduceAdd, Nat.reduceMul, Nat.reduceEqDiff, Nat.reduceLT, Nat.reduceLeDiff, reduceCtorEq, List.map_cons, List.map_nil, hw]
  simp only [hc, decide_true, ↓reduceIte]
  refine awp_skip ?_
  have hil : i < l.length := by omega
  have ga : l[i]? = some l[i] := List.getElem?_eq_getElem hil
  have hpl : l[i] ∈ l := List.getElem_mem hil
  have htw : twice l (i + 1) = [l[i], l[i]] ++ twice l i := by rw [twice, ga]
  have htl := twice_len l i
  have hwi : IntKind.i64.wrap ((i : Int) + 1) = ((i + 1 : Nat) : Int) := wrapS i (by omega)
  generalize l[i] = p at ga hpl htw
  have hmet : like p = true ∨ p ∈ N := by
    by_cases h : like p = true
    · exact .inl h
    · exact .inr ((hNm p).2 ⟨hpl, by unfold unl; rw [Bool.eq_false_iff.2 h]; rfl⟩)
  refine awp_seq ?_
  refine awp_block ?_
  refine awp_seq ?_
  refine awp_drawn [0, 0, 0, 1, 0, 0, 0, 1, 0, 0, 0, 0] [0, 0, 3, 7, 0, 0, 48, 112, 255, 0, 1023, 2047] mixed rfl (by kernel_rfl) ?_
  refine dops_run 10 (by simp only [fwA, ↓reduceIte, Nat.reduceAdd, Nat.reduceMul, Nat.reduceEqDiff, Nat.reduceLT, Nat.reduceLeDiff, reduceCtorEq, Pr.fw, ti53, pl53, un22, un3, un4, ti24, ti3, un23, un25, un29, el22, el23, el29, eq53, fl53_0, fl53_1, List.length_map, List.getElem?_map, Option.map_some, Int.natCast_nonneg, Int.toNat_natCast, Int.reduceEq, Int.reduceToNat, Int.reduceNeg, decide_true, decide_false, Bool.and_true, Bool.and_self, Bool.not_true, Bool.not_false, ne_eq, Int.reduceLE, ga] <;> rfl) ?_
  refine dops_one (.vec ([p.enc, p.enc] ++ (twice l i).map Pr.enc) false) rfl rfl (fun H A' hev => os_appendVV rfl un22 ti53 un22 ((hev _ (by simp [Op.operands, Call.operands])).trans rfl) (by simp [Pr.enc_len]) ((hev _ (by simp [Op.operands, Call.operands])).trans rfl) (fun e he => by obtain ⟨x, _, rfl⟩ := List.mem_map.1 he; rfl) (by simp only [List.length_map, List.length_cons, List.length_nil]; show (2 + _) * 16 ≤ _; omega) (by simp only [List.length_map, List.length_cons, List.length_nil]; omega) ⟨rfl, rfl⟩) ?_
  refine dops_run 1 (by simp only [fwA, ↓reduceIte, Nat.reduceAdd, Nat.reduceMul, Nat.reduceEqDiff, Nat.reduceLT, Nat.reduceLeDiff, reduceCtorEq, Pr.fw, ti53, pl53, un22, un3, un4, ti24, ti3, un23, un25, un29, el22, el23, el29, eq53, fl53_0, fl53_1, List.length_map, List.getElem?_map, Option.map_some, Int.natCast_nonneg, Int.toNat_natCast, Int.reduceEq, Int.reduceToNat, Int.reduceNeg, decide_true, decide_false, Bool.and_true, Bool.and_self, Bool.not_true, Bool.not_false, ne_eq, Int.reduceLE, ga] <;> rfl) ?_
  refine dops_end ?_
  refine awp_seq ?_
  refine awp_drun [0, 0, 0, 0, 1, 0, 0, 0, 0, 1, 0, 0] [0, 0, 3, 7, 15, 0, 0, 96, 224, 480, 1023, 2047] mixed rfl (by kernel_rfl) (by simp only [fwA, ↓reduceIte, Nat.reduceAdd, Nat.reduceMul, Nat.reduceEqDiff, Nat.reduceLT, Nat.reduceLeDiff, reduceCtorEq, Pr.fw, ti53, pl53, un22, un3, un4, ti24, ti3, un23, un25, un29, el22, el23, el29, eq53, fl53_0, fl53_1, List.length_map, List.getElem?_map, Option.map_some, Int.natCast_nonneg, Int.toNat_natCast, Int.reduceEq, Int.reduceToNat, Int.reduceNeg, decide_true, decide_false, Bool.and_true, Bool.and_self, Bool.not_true, Bool.not_false, ne_eq, Int.reduceLE, ga] <;> rfl) ?_
  refine awp_seq ?_
  refine awp_seq ?_
  refine awp_run rfl (by simp only [fwA, ↓reduceIte, Nat.reduceAdd, Nat.reduceMul, Nat.reduceEqDiff, Nat.reduceLT, Nat.reduceLeDiff, reduceCtorEq] <;> rfl) ?_
  refine awp_block ?_
  refine awp_for [0, 3, 4, 5, 6, 7, 8] (fun s : Nat × Bool => [.vec (l.map Pr.enc) false, .bool true, .vec (N.map Pr.enc) false, .vec ((twice l (i + 1)).map Pr.enc) false, .int .i64 (i : Int), .bool s.2, .int .i64 (s.1 : Int)]) (fun _ => H) (fun s => N.length - s.1)
    (fun s => s.1 ≤ N.length ∧ (s.2 = true ↔ (like p = true ∨ p ∈ N.take s.1))) (0, like p) (by rw [htw, List.map_append]; rfl) rfl ⟨Nat.zero_le _, by simp⟩ fun s hs => ?_
  obtain ⟨k, met⟩ := s
  obtain ⟨hk, hm⟩ := hs
  simp only at hk hm ⊢
  refine awp_seq ?_
  refine awp_seq ?_
  refine awp_run rfl (by simp only [fwA, ↓reduceIte, Nat.reduceAdd, Nat.reduceMul, Nat.reduceEqDiff, Nat.reduceLT, Nat.reduceLeDiff, reduceCtorEq, Pr.fw, ti53, pl53, un22, un3, un4, ti24, ti3, un23, un25, un29, el22, el23, el29, eq53, fl53_0, fl53_1, List.length_map, List.getElem?_map, Option.map_some, Int.natCast_nonneg, Int.toNat_natCast, Int.reduceEq, Int.reduceToNat, Int.reduceNeg, decide_true, decide_false, Bool.and_true, Bool.and_self, Bool.not_true, Bool.not_false, ne_eq, Int.reduceLE] <;> rfl) ?_
  refine awp_cond (by simp only [fwA, ↓reduceIte, Nat.reduceAdd, Nat.reduceMul, Nat.reduceEqDiff, Nat.reduceLT, Nat.reduceLeDiff, reduceCtorEq] <;> rfl) ?_
  by_cases hk2 : (k : Int) < N.length
  rotate_left
  · simp only [hk2, decide_false, Bool.false_eq_true, ↓reduceIte]
    refine awp_exit ?_
    have e : k = N.length := by omega
    subst e
    rw [List.take_length] at hm
    obtain rfl : met = true := hm.2 hmet
    refine awp_seq ?_
    refine awp_run rfl (by simp only [fwA, ↓reduceIte, Nat.reduceAdd, Nat.reduceMul, Nat.reduceEqDiff, Nat.reduceLT, Nat.reduceLeDiff, reduceCtorEq] <;> rfl) ?_
    refine awp_cond (b := false) (by simp [alook, aput, ev]) (awp_skip ?_)
    refine awp_run rfl (by simp only [fwA, ↓reduceIte, Nat.reduceAdd, Nat.reduceMul, Nat.reduceEqDiff, Nat.reduceLT, Nat.reduceLeDiff, reduceCtorEq] <;> rfl) ?_
    refine ⟨i + 1, by omega, by omega, ?_, rfl, rfl⟩
    simp only [fwA, ↓reduceIte, Nat.reduceAdd, Nat.reduceMul, Nat.reduceEqDiff, Nat.reduceLT, Nat.reduceLeDiff, reduceCtorEq, List.map_cons, List.map_nil, hwi, decide_false]
  simp only [hk2, decide_true, ↓reduceIte]
  refine awp_skip ?_
  have hkl : k < N.length := by omega
  have gk : N[k]? = some N[k] := List.getElem?_eq_getElem hkl
  have hw : IntKind.i64.wrap ((k : Int) + 1) = ((k + 1 : Nat) : Int) := wrapS k (by omega)
  have htk : N.take (k + 1) = N.take k ++ [N[k]] := by rw [List.take_add_one, gk]; rfl
  refine awp_seq ?_
  refine awp_block ?_
  cases met with
  | true =>
    refine awp_drun [0, 0, 0, 0, 0, 1, 0, 0, 0, 1, 0, 0, 0] [0, 1, 3, 3, 15, 31, 3, 3, 195, 451, 1023, 2047, 4095] mixed rfl (by kernel_rfl) (by simp only [fwA, ↓reduceIte, Nat.reduceAdd, Nat.reduceMul, Nat.reduceEqDiff, Nat.reduceLT, Nat.reduceLeDiff, reduceCtorEq, Pr.fw, ti53, pl53, un22, un3, un4, ti24, ti3, un23, un25, un29, el22, el23, el29, eq53, fl53_0, fl53_1, List.length_map, List.getElem?_map, Option.map_some, Int.natCast_nonneg, Int.toNat_natCast, Int.reduceEq, Int.reduceToNat, Int.reduceNeg, decide_true, decide_false, Bool.and_true, Bool.and_self, Bool.not_true, Bool.not_false, ne_eq, Int.reduceLE, gk, ga] <;> rfl) ?_
    refine awp_run rfl (by simp only [fwA, ↓reduceIte, Nat.reduceAdd, Nat.reduceMul, Nat.reduceEqDiff, Nat.reduceLT, Nat.reduceLeDiff, reduceCtorEq] <;> rfl) ?_
    refine ⟨(k + 1, true), by show N.length - (k + 1) < N.length - k; omega, ⟨hkl, ⟨fun _ => ?_, fun _ => rfl⟩⟩, ?_, rfl, rfl⟩
    · rcases hm.1 rfl with h | h
      · exact .inl h
      · exact .inr (by rw [htk]; exact List.mem_append_left _ h)
    · simp only [fwA, ↓reduceIte, Nat.reduceAdd, Nat.reduceMul, Nat.reduceEqDiff, Nat.reduceLT, Nat.reduceLeDiff, reduceCtorEq, List.map_cons, List.map_nil, hw]
  | false =>
    have hdc := prDec N[k] p
    refine awp_drun [0, 0, 0, 0, 0, 1, 0, 0, 0, 1, 0, 0, 0] [0, 1, 3, 3, 15, 31, 3, 3, 195, 451, 1023, 2047, 4095] mixed rfl (by kernel_rfl) (by simp only [fwA, ↓reduceIte, Nat.reduceAdd, Nat.reduceMul, Nat.reduceEqDiff, Nat.reduceLT, Nat.reduceLeDiff, reduceCtorEq, Pr.fw, ti53, pl53, un22, un3, un4, ti24, ti3, un23, un25, un29, el22, el23, el29, eq53, fl53_0, fl53_1, List.length_map, List.getElem?_map, Option.map_some, Int.natCast_nonneg, Int.toNat_natCast, Int.reduceEq, Int.reduceToNat, Int.reduceNeg, decide_true, decide_false, Bool.and_true, Bool.and_self, Bool.not_true, Bool.not_false, ne_eq, Int.reduceLE, gk, ga] <;> rfl) ?_
    refine awp_run rfl (by simp only [fwA, ↓reduceIte, Nat.reduceAdd, Nat.reduceMul, Nat.reduceEqDiff, Nat.reduceLT, Nat.reduceLeDiff, reduceCtorEq] <;> rfl) ?_
    refine ⟨(k + 1, decide (N[k] = p)), by show N.length - (k + 1) < N.length - k; omega, ⟨hkl, ?_⟩, ?_, rfl, rfl⟩
    · simp only [decide_eq_true_eq, htk, List.mem_append, List.mem_singleton]
      constructor
      · exact fun e => .inr (.inr e.symm)
      · rintro (h | h | h)
        · exact absurd (hm.2 (.inl h)) (by decide)
        · exact absurd (hm.2 (.inr h)) (by decide)
        · exact h.symm
    · simp only [fwA, ↓reduceIte, Nat.reduceAdd, Nat.reduceMul, Nat.reduceEqDiff, Nat.reduceLT, Nat.reduceLeDiff, reduceCtorEq, List.map_cons, List.map_nil, hw, ← hdc, Bool.and_true]

end Go.Proofs.YtdacialfjlcboaaGreatDoor
