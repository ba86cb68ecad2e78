/- The law on shifting. -/
import Derived.Test.YtdacialfjlcboaaGreatDoorT10d
namespace Go.Proofs.YtdacialfjlcboaaGreatDoor
set_option linter.unusedVariables false
set_option linter.unusedSimpArgs false
set_option maxRecDepth 100000
open Go.RowKit Fw

/-- The pairs whose atoms are no great numbers. -/
def smB (p : Pr) : Bool := decide (p.a < 1099511627776) && decide (p.b < 1099511627776)
theorem shI_good {n a : Int} (hn0 : 0 ≤ n) (hn1 : n < 65536) (ha : I64 a) (ha2 : a < 1099511627776) : shI n a = if a < 0 then a else a + n := by
  unfold shI
  split
  · rfl
  · rw [wrapId (a := a + n) ⟨by omega, by omega⟩, if_neg (by omega)]
theorem shI_back {n a : Int} (hn0 : 0 ≤ n) (hn1 : n < 65536) (ha : I64 a) (ha2 : a < 1099511627776) : shI (-n) (shI n a) = a := by
  rw [shI_good hn0 hn1 ha ha2]
  unfold shI
  by_cases h : a < 0
  · rw [if_pos h, if_pos h]
  · rw [if_neg h, if_neg (by omega), wrapId (a := a + n + -n) ⟨by omega, by omega⟩, if_neg (by omega)]; omega
/-- Pairs that may be shifted there and back. -/
def Small (p : Pr) : Prop := I64 p.a ∧ I64 p.b ∧ p.a < 1099511627776 ∧ p.b < 1099511627776
theorem sh_lt {n : Int} (hn0 : 0 ≤ n) (hn1 : n < 65536) {p q : Pr} (hp : Small p) (hq : Small q) (h : ltP p q) : ltP (p.map (shI n)) (q.map (shI n)) := by
  unfold ltP Pr.map at *
  obtain ⟨p1, p2, p3, p4⟩ := hp
  obtain ⟨q1, q2, q3, q4⟩ := hq
  simp only [shI_good hn0 hn1 p1 p3, shI_good hn0 hn1 p2 p4, shI_good hn0 hn1 q1 q3, shI_good hn0 hn1 q2 q4]
  split <;> split <;> split <;> split <;> omega
theorem sh_unl {n : Int} (hn0 : 0 ≤ n) (hn1 : n < 65536) {p : Pr} (hp : Small p) : unl (p.map (shI n)) = unl p := by
  obtain ⟨p1, p2, p3, p4⟩ := hp
  unfold unl like Pr.map
  congr 1
  refine decide_eq_decide.2 ?_
  simp only [shI_good hn0 hn1 p1 p3, shI_good hn0 hn1 p2 p4]
  split <;> split <;> omega
theorem sh_norm {n : Int} (hn0 : 0 ≤ n) (hn1 : n < 65536) {l : List Pr} (hl : ∀ p ∈ l, Small p) : normL (l.map (Pr.map (shI n))) = (normL l).map (Pr.map (shI n)) := by
  have hm : ∀ p ∈ normL l, Small p := fun p hp => hl p ((normL_mem l p).1 hp).1
  refine normL_is ?_ fun x => ?_
  · rw [List.pairwise_map]
    exact List.Pairwise.imp_of_mem (fun {p q} hp hq h => sh_lt hn0 hn1 (hm p hp) (hm q hq) h) (normL_rise l)
  · simp only [List.mem_map, normL_mem]
    constructor
    · rintro ⟨p, ⟨hp, hu⟩, rfl⟩
      exact ⟨⟨p, hp, rfl⟩, by rw [sh_unl hn0 hn1 (hl p hp)]; exact hu⟩
    · rintro ⟨⟨p, hp, rfl⟩, hu⟩
      exact ⟨p, ⟨hp, by rw [sh_unl hn0 hn1 (hl p hp)] at hu; exact hu⟩, rfl⟩
theorem small_step (l : List Pr) (i : Nat) (x : Pr) (h : l[i]? = some x) : (l.take (i + 1)).filter smB = (l.take i).filter smB ++ (if smB x then [x] else []) := by
  rw [List.take_add_one, h, List.filter_append]
  cases hu : smB x <;> simp [List.filter_cons, hu]

set_option maxHeartbeats 4000000 in
/-- AtomShift -/
theorem c7 (Γ : Nat → PV) (hΓ : Tab Γ) (l : List Pr) (n : Int) (hn0 : 0 ≤ n) (hn1 : n < 65536) (hl : l.length ≤ 2000000) (ho : OkP l) : Gives Tryz.prog Γ 7 [.vec (l.map Pr.enc) false, .int .u16 n] (.bool true) := by
  have hnw : IntKind.i64.wrap n = n := wrapId ⟨by omega, by omega⟩
  have hng : IntKind.i64.wrap (0 - n) = -n := by rw [wrapId ⟨by omega, by omega⟩]; omega
  have hM : ∀ p ∈ l.filter smB, Small p := fun p hp => by
    obtain ⟨h1, h2⟩ := List.mem_filter.1 hp
    obtain ⟨h3, h4⟩ := ho p h1
    unfold smB at h2
    simp only [Bool.and_eq_true, decide_eq_true_eq] at h2
    exact ⟨h3, h4, h2.1, h2.2⟩
  have hMl : (l.filter smB).length ≤ l.length := List.length_filter_le _ _
  have h19 := c19 Γ n (l.filter smB) (by omega)
  have h19b := c19 Γ (-n) ((l.filter smB).map (Pr.map (shI n))) (by rw [List.length_map]; omega)
  have hback : ((l.filter smB).map (Pr.map (shI n))).map (Pr.map (shI (-n))) = l.filter smB := by
    rw [List.map_map]
    conv => rhs; rw [← List.map_id (l.filter smB)]
    refine List.map_congr_left fun p hp => ?_
    obtain ⟨h1, h2, h3, h4⟩ := hM p hp
    exact pr_ext (shI_back hn0 hn1 h1 h3) (shI_back hn0 hn1 h2 h4)
  rw [hback] at h19b
  have h32 := c32 Γ (l.filter smB) (l.filter smB)
  rw [decide_eq_true rfl] at h32
  have h17 := c17 Γ (l.filter smB) false (by omega)
  have h17b := c17 Γ ((l.filter smB).map (Pr.map (shI n))) false (by rw [List.length_map]; omega)
  rw [sh_norm hn0 hn1 hM] at h17b
  have h19c := c19 Γ n (normL (l.filter smB)) (by have := norm_len (l.filter smB); omega)
  have h32b := c32 Γ ((normL (l.filter smB)).map (Pr.map (shI n))) ((normL (l.filter smB)).map (Pr.map (shI n)))
  rw [decide_eq_true rfl] at h32b
  refine fn_of_awp Tryz.func7 rfl (by simp [Tryz.f7]) rfl fun H => ?_
  refine awp_bd fun hbd => ?_
  refine awp_seq ?_
  refine awp_run rfl (by simp only [fwA, ↓reduceIte, Nat.reduceAdd, Nat.reduceMul, Nat.reduceEqDiff, Nat.reduceLT, Nat.reduceLeDiff, reduceCtorEq] <;> rfl) ?_
  refine awp_seq ?_
  refine awp_region rfl ?_
  refine aops_fn rfl rfl rfl en9 (c9 Γ hΓ) ?_
  refine aops_run 1 (by simp only [fwA, ↓reduceIte, Nat.reduceAdd, Nat.reduceMul, Nat.reduceEqDiff, Nat.reduceLT, Nat.reduceLeDiff, reduceCtorEq] <;> rfl) ?_
  refine awp_seq ?_
  refine awp_seq ?_
  refine awp_run rfl (by simp only [fwA, ↓reduceIte, Nat.reduceAdd, Nat.reduceMul, Nat.reduceEqDiff, Nat.reduceLT, Nat.reduceLeDiff, reduceCtorEq] <;> rfl) ?_
  refine awp_cond (b := false) (by simp [alook, aput, ev]) (awp_skip ?_)
  refine awp_seq ?_
  refine awp_run rfl (by simp only [fwA, ↓reduceIte, Nat.reduceAdd, Nat.reduceMul, Nat.reduceEqDiff, Nat.reduceLT, Nat.reduceLeDiff, reduceCtorEq] <;> rfl) ?_
  refine awp_seq ?_
  refine awp_seq ?_
  refine awp_run rfl (by simp only [fwA, ↓reduceIte, Nat.reduceAdd, Nat.reduceMul, Nat.reduceEqDiff, Nat.reduceLT, Nat.reduceLeDiff, reduceCtorEq] <;> rfl) ?_
  refine awp_told (told_adopt 6 2 (by decide) rfl) ?_
  refine awp_block ?_
  refine awp_for [0, 1, 5, 6, 7] (fun i : Nat => [.vec (l.map Pr.enc) false, .int .u16 n, .bool true, .row H.length 0 ((l.take i).filter smB).length 2, .int .i64 (i : Int)]) (fun i => H ++ [.row 2 ((((l.take i).filter smB).map Pr.enc).flatten)]) (fun i => l.length - i) (fun i => i ≤ l.length) 0 rfl rfl (Nat.zero_le _) fun i hi => ?_
  refine awp_seq ?_
  refine awp_seq ?_
  refine awp_run rfl (by simp only [fwA, ↓reduceIte, Nat.reduceAdd, Nat.reduceMul, Nat.reduceEqDiff, Nat.reduceLT, Nat.reduceLeDiff, reduceCtorEq, Pr.fw, ti53, pl53, un22, un3, un4, un24, un56, ti24, ti3, un23, un25, un29, el22, el23, el29, eq53, fl53_0, fl53_1, List.length_map, List.getElem?_map, Option.map_some, Int.natCast_nonneg, Int.toNat_natCast, Int.reduceEq, Int.reduceToNat, Int.reduceNeg, decide_true, decide_false, Bool.and_true, Bool.and_self, Bool.not_true, Bool.not_false, ne_eq, Int.reduceLE] <;> rfl) ?_
  refine awp_cond (by simp only [fwA, ↓reduceIte, Nat.reduceAdd, Nat.reduceMul, Nat.reduceEqDiff, Nat.reduceLT, Nat.reduceLeDiff, reduceCtorEq] <;> rfl) ?_
  by_cases hc : (i : Int) < l.length
  rotate_left
  · simp only [hc, decide_false, Bool.false_eq_true, ↓reduceIte]
    refine awp_exit ?_
    have e : i = l.length := by omega
    subst e
    rw [List.take_length]
    generalize l.filter smB = M at *
    refine awp_told (told_freezeAt H _ 0 (C := (M.map Pr.enc).flatten) rfl (flatP_bd _ _)) ?_
    have hlm : ((M.map Pr.enc).flatten).length = M.length * 2 := by rw [flatP_len]; omega
    have hch := flatP_chunk M
    refine awp_keep (A' := [(0, .vec (l.map Pr.enc) false), (1, .int .u16 n), (5, .bool true), (6, .vec (M.map Pr.enc) false)]) [0, 1, 5, 6] (by simp only [fwA, ↓reduceIte, Nat.reduceAdd, Nat.reduceMul, Nat.reduceEqDiff, Nat.reduceLT, Nat.reduceLeDiff, reduceCtorEq, akeep, hlm, hch] <;> rfl) ?_
    generalize hH2 : H ++ _ = H2
    refine awp_seq ?_
    refine awp_region rfl ?_
    refine aops_run 3 (by simp only [fwA, ↓reduceIte, Nat.reduceAdd, Nat.reduceMul, Nat.reduceEqDiff, Nat.reduceLT, Nat.reduceLeDiff, reduceCtorEq, Pr.fw, ti53, pl53, un22, un3, un4, un24, un56, ti24, ti3, un23, un25, un29, el22, el23, el29, eq53, fl53_0, fl53_1, List.length_map, List.getElem?_map, Option.map_some, Int.natCast_nonneg, Int.toNat_natCast, Int.reduceEq, Int.reduceToNat, Int.reduceNeg, decide_true, decide_false, Bool.and_true, Bool.and_self, Bool.not_true, Bool.not_false, ne_eq, Int.reduceLE, hnw] <;> rfl) ?_
    refine aops_fn rfl rfl rfl en19 h19 ?_
    refine aops_run 1 (by simp only [fwA, ↓reduceIte, Nat.reduceAdd, Nat.reduceMul, Nat.reduceEqDiff, Nat.reduceLT, Nat.reduceLeDiff, reduceCtorEq, Pr.fw, ti53, pl53, un22, un3, un4, un24, un56, ti24, ti3, un23, un25, un29, el22, el23, el29, eq53, fl53_0, fl53_1, List.length_map, List.getElem?_map, Option.map_some, Int.natCast_nonneg, Int.toNat_natCast, Int.reduceEq, Int.reduceToNat, Int.reduceNeg, decide_true, decide_false, Bool.and_true, Bool.and_self, Bool.not_true, Bool.not_false, ne_eq, Int.reduceLE, hnw] <;> rfl) ?_
    refine aops_end ?_
    refine awp_seq ?_
    refine awp_seq ?_
    refine awp_run rfl (by simp only [fwA, ↓reduceIte, Nat.reduceAdd, Nat.reduceMul, Nat.reduceEqDiff, Nat.reduceLT, Nat.reduceLeDiff, reduceCtorEq] <;> rfl) ?_
    refine awp_block ?_
    refine awp_for [0, 1, 5, 6, 8, 9] (fun i : Nat => [.vec (l.map Pr.enc) false, .int .u16 n, .bool true, .vec (M.map Pr.enc) false, .vec ((M.map (Pr.map (shI n))).map Pr.enc) false, .int .i64 (i : Int)]) (fun _ => H2) (fun i => M.length - i) (fun i => i ≤ M.length) 0 rfl rfl (Nat.zero_le _) fun i hi => ?_
    refine awp_seq ?_
    refine awp_seq ?_
    by_cases hc2 : (i : Int) < M.length
    rotate_left
    · refine awp_run rfl (by simp only [fwA, ↓reduceIte, Nat.reduceAdd, Nat.reduceMul, Nat.reduceEqDiff, Nat.reduceLT, Nat.reduceLeDiff, reduceCtorEq, Pr.fw, ti53, pl53, un22, un3, un4, un24, un56, ti24, ti3, un23, un25, un29, el22, el23, el29, eq53, fl53_0, fl53_1, List.length_map, List.getElem?_map, Option.map_some, Int.natCast_nonneg, Int.toNat_natCast, Int.reduceEq, Int.reduceToNat, Int.reduceNeg, decide_true, decide_false, Bool.and_true, Bool.and_self, Bool.not_true, Bool.not_false, ne_eq, Int.reduceLE, hc2] <;> rfl) ?_
      refine awp_cond (b := false) (by simp [alook, aput, ev]) ?_
      refine awp_exit ?_
      refine awp_seq ?_
      refine awp_region rfl ?_
      refine aops_run 6 (by simp only [fwA, ↓reduceIte, Nat.reduceAdd, Nat.reduceMul, Nat.reduceEqDiff, Nat.reduceLT, Nat.reduceLeDiff, reduceCtorEq, Pr.fw, ti53, pl53, un22, un3, un4, un24, un56, ti24, ti3, un23, un25, un29, el22, el23, el29, eq53, fl53_0, fl53_1, List.length_map, List.getElem?_map, Option.map_some, Int.natCast_nonneg, Int.toNat_natCast, Int.reduceEq, Int.reduceToNat, Int.reduceNeg, decide_true, decide_false, Bool.and_true, Bool.and_self, Bool.not_true, Bool.not_false, ne_eq, Int.reduceLE, hnw, hng] <;> rfl) ?_
      refine aops_fnIf rfl rfl rfl rfl rfl en19 h19b ?_
      refine aops_run 1 (by simp only [fwA, ↓reduceIte, Nat.reduceAdd, Nat.reduceMul, Nat.reduceEqDiff, Nat.reduceLT, Nat.reduceLeDiff, reduceCtorEq, Pr.fw, ti53, pl53, un22, un3, un4, un24, un56, ti24, ti3, un23, un25, un29, el22, el23, el29, eq53, fl53_0, fl53_1, List.length_map, List.getElem?_map, Option.map_some, Int.natCast_nonneg, Int.toNat_natCast, Int.reduceEq, Int.reduceToNat, Int.reduceNeg, decide_true, decide_false, Bool.and_true, Bool.and_self, Bool.not_true, Bool.not_false, ne_eq, Int.reduceLE, hnw, hng] <;> rfl) ?_
      refine aops_fnIf rfl rfl rfl rfl rfl en32 h32 ?_
      refine aops_run 3 (by simp only [fwA, ↓reduceIte, Nat.reduceAdd, Nat.reduceMul, Nat.reduceEqDiff, Nat.reduceLT, Nat.reduceLeDiff, reduceCtorEq, Pr.fw, ti53, pl53, un22, un3, un4, un24, un56, ti24, ti3, un23, un25, un29, el22, el23, el29, eq53, fl53_0, fl53_1, List.length_map, List.getElem?_map, Option.map_some, Int.natCast_nonneg, Int.toNat_natCast, Int.reduceEq, Int.reduceToNat, Int.reduceNeg, decide_true, decide_false, Bool.and_true, Bool.and_self, Bool.not_true, Bool.not_false, ne_eq, Int.reduceLE, hnw, hng] <;> rfl) ?_
      refine aops_fnIf rfl rfl rfl rfl rfl en17 h17b ?_
      refine aops_run 1 (by simp only [fwA, ↓reduceIte, Nat.reduceAdd, Nat.reduceMul, Nat.reduceEqDiff, Nat.reduceLT, Nat.reduceLeDiff, reduceCtorEq, Pr.fw, ti53, pl53, un22, un3, un4, un24, un56, ti24, ti3, un23, un25, un29, el22, el23, el29, eq53, fl53_0, fl53_1, List.length_map, List.getElem?_map, Option.map_some, Int.natCast_nonneg, Int.toNat_natCast, Int.reduceEq, Int.reduceToNat, Int.reduceNeg, decide_true, decide_false, Bool.and_true, Bool.and_self, Bool.not_true, Bool.not_false, ne_eq, Int.reduceLE, hnw, hng] <;> rfl) ?_
      refine aops_fnIf rfl rfl rfl rfl rfl en17 h17 ?_
      refine aops_run 2 (by simp only [fwA, ↓reduceIte, Nat.reduceAdd, Nat.reduceMul, Nat.reduceEqDiff, Nat.reduceLT, Nat.reduceLeDiff, reduceCtorEq, Pr.fw, ti53, pl53, un22, un3, un4, un24, un56, ti24, ti3, un23, un25, un29, el22, el23, el29, eq53, fl53_0, fl53_1, List.length_map, List.getElem?_map, Option.map_some, Int.natCast_nonneg, Int.toNat_natCast, Int.reduceEq, Int.reduceToNat, Int.reduceNeg, decide_true, decide_false, Bool.and_true, Bool.and_self, Bool.not_true, Bool.not_false, ne_eq, Int.reduceLE, hnw, hng] <;> rfl) ?_
      refine aops_fnIf rfl rfl rfl rfl rfl en19 h19c ?_
      refine aops_fnIf rfl rfl rfl rfl rfl en32 h32b ?_
      refine aops_run 2 (by simp only [fwA, ↓reduceIte, Nat.reduceAdd, Nat.reduceMul, Nat.reduceEqDiff, Nat.reduceLT, Nat.reduceLeDiff, reduceCtorEq, Pr.fw, ti53, pl53, un22, un3, un4, un24, un56, ti24, ti3, un23, un25, un29, el22, el23, el29, eq53, fl53_0, fl53_1, List.length_map, List.getElem?_map, Option.map_some, Int.natCast_nonneg, Int.toNat_natCast, Int.reduceEq, Int.reduceToNat, Int.reduceNeg, decide_true, decide_false, Bool.and_true, Bool.and_self, Bool.not_true, Bool.not_false, ne_eq, Int.reduceLE, hnw, hng] <;> rfl) ?_
      refine aops_end ?_
      refine awp_ret ?_
      subst hH2
      exact gives_end (.inl rfl) _ rfl
    refine awp_run rfl (by simp only [fwA, ↓reduceIte, Nat.reduceAdd, Nat.reduceMul, Nat.reduceEqDiff, Nat.reduceLT, Nat.reduceLeDiff, reduceCtorEq, Pr.fw, ti53, pl53, un22, un3, un4, un24, un56, ti24, ti3, un23, un25, un29, el22, el23, el29, eq53, fl53_0, fl53_1, List.length_map, List.getElem?_map, Option.map_some, Int.natCast_nonneg, Int.toNat_natCast, Int.reduceEq, Int.reduceToNat, Int.reduceNeg, decide_true, decide_false, Bool.and_true, Bool.and_self, Bool.not_true, Bool.not_false, ne_eq, Int.reduceLE, hc2] <;> rfl) ?_
    refine awp_cond (b := true) (by simp [alook, aput, ev]) (awp_skip ?_)
    have him : i < M.length := by omega
    have gm : M[i]? = some M[i] := List.getElem?_eq_getElem him
    obtain ⟨q1, q2, q3, q4⟩ := hM M[i] (List.getElem_mem him)
    have hwi : IntKind.i64.wrap ((i : Int) + 1) = ((i + 1 : Nat) : Int) := wrapS i (by omega)
    generalize M[i] = q at gm q1 q2 q3 q4
    have hsh := shI_good hn0 hn1 q1 q3
    have hpa : (Pr.map (shI n) q).a = shI n q.a := rfl
    have h27 := c27 Γ q.a
    refine awp_seq ?_
    refine awp_block ?_
    refine awp_seq ?_
    by_cases hq : q.a < 0
    · rw [if_pos hq] at hsh
      rw [decide_eq_true hq] at h27
      refine awp_drawn [0, 0, 0, 0, 1, 0, 0, 0, 0, 0, 0, 1, 0, 0, 0, 0, 1, 0, 0, 0, 0, 0, 0, 0, 1, 0, 0, 0, 0, 0, 0, 0, 1, 0, 0, 0, 0, 1, 0, 0, 0, 0, 0, 0] [0, 0, 3, 7, 15, 31, 63, 127, 127, 511, 1023, 2047, 127, 127, 12415, 28799, 61567, 131071, 262143, 524287, 1048575, 1048575, 4194303, 8388607, 16777215, 33554431, 67108863, 134217727, 268435455, 268435455, 1073741823, 2147483647, 4294967295, 268435455, 268435455, 26038239231, 60397977599, 129117454335, 268435455, 275146342399, 1091190128639, 2199023255551, 4398046511103, 8796093022207] mixed rfl (by kernel_rfl) ?_
      refine dops_run 5 (by simp only [fwA, ↓reduceIte, Nat.reduceAdd, Nat.reduceMul, Nat.reduceEqDiff, Nat.reduceLT, Nat.reduceLeDiff, reduceCtorEq, Pr.fw, ti53, pl53, un22, un3, un4, un24, un56, ti24, ti3, un23, un25, un29, el22, el23, el29, eq53, fl53_0, fl53_1, List.length_map, List.getElem?_map, Option.map_some, Int.natCast_nonneg, Int.toNat_natCast, Int.reduceEq, Int.reduceToNat, Int.reduceNeg, decide_true, decide_false, Bool.and_true, Bool.and_self, Bool.not_true, Bool.not_false, ne_eq, Int.reduceLE, gm, hpa, hsh, hnw, decide_true, decide_false] <;> rfl) ?_
      refine dops_fn rfl (by simp only [fwA, ↓reduceIte, Nat.reduceAdd, Nat.reduceMul, Nat.reduceEqDiff, Nat.reduceLT, Nat.reduceLeDiff, reduceCtorEq] <;> rfl) rfl rfl en27 h27 ?_
      refine dops_run 13 (by simp only [fwA, ↓reduceIte, Nat.reduceAdd, Nat.reduceMul, Nat.reduceEqDiff, Nat.reduceLT, Nat.reduceLeDiff, reduceCtorEq, Pr.fw, ti53, pl53, un22, un3, un4, un24, un56, ti24, ti3, un23, un25, un29, el22, el23, el29, eq53, fl53_0, fl53_1, List.length_map, List.getElem?_map, Option.map_some, Int.natCast_nonneg, Int.toNat_natCast, Int.reduceEq, Int.reduceToNat, Int.reduceNeg, decide_true, decide_false, Bool.and_true, Bool.and_self, Bool.not_true, Bool.not_false, ne_eq, Int.reduceLE, gm, hpa, hsh, hnw, decide_true, decide_false] <;> rfl) ?_
      refine dops_run 6 (by simp only [fwA, ↓reduceIte, Nat.reduceAdd, Nat.reduceMul, Nat.reduceEqDiff, Nat.reduceLT, Nat.reduceLeDiff, reduceCtorEq, Pr.fw, ti53, pl53, un22, un3, un4, un24, un56, ti24, ti3, un23, un25, un29, el22, el23, el29, eq53, fl53_0, fl53_1, List.length_map, List.getElem?_map, Option.map_some, Int.natCast_nonneg, Int.toNat_natCast, Int.reduceEq, Int.reduceToNat, Int.reduceNeg, decide_true, decide_false, Bool.and_true, Bool.and_self, Bool.not_true, Bool.not_false, ne_eq, Int.reduceLE, gm, hpa, hsh, hnw, decide_true, decide_false] <;> rfl) ?_
      refine dops_fn rfl (by simp only [fwA, ↓reduceIte, Nat.reduceAdd, Nat.reduceMul, Nat.reduceEqDiff, Nat.reduceLT, Nat.reduceLeDiff, reduceCtorEq] <;> rfl) rfl rfl en27 h27 ?_
      refine dops_run 13 (by simp only [fwA, ↓reduceIte, Nat.reduceAdd, Nat.reduceMul, Nat.reduceEqDiff, Nat.reduceLT, Nat.reduceLeDiff, reduceCtorEq, Pr.fw, ti53, pl53, un22, un3, un4, un24, un56, ti24, ti3, un23, un25, un29, el22, el23, el29, eq53, fl53_0, fl53_1, List.length_map, List.getElem?_map, Option.map_some, Int.natCast_nonneg, Int.toNat_natCast, Int.reduceEq, Int.reduceToNat, Int.reduceNeg, decide_true, decide_false, Bool.and_true, Bool.and_self, Bool.not_true, Bool.not_false, ne_eq, Int.reduceLE, gm, hpa, hsh, hnw, decide_true, decide_false] <;> rfl) ?_
      refine dops_run 5 (by simp only [fwA, ↓reduceIte, Nat.reduceAdd, Nat.reduceMul, Nat.reduceEqDiff, Nat.reduceLT, Nat.reduceLeDiff, reduceCtorEq, Pr.fw, ti53, pl53, un22, un3, un4, un24, un56, ti24, ti3, un23, un25, un29, el22, el23, el29, eq53, fl53_0, fl53_1, List.length_map, List.getElem?_map, Option.map_some, Int.natCast_nonneg, Int.toNat_natCast, Int.reduceEq, Int.reduceToNat, Int.reduceNeg, decide_true, decide_false, Bool.and_true, Bool.and_self, Bool.not_true, Bool.not_false, ne_eq, Int.reduceLE, gm, hpa, hsh, hnw, decide_true, decide_false] <;> rfl) ?_
      refine dops_end ?_
      refine awp_cond (b := false) (by simp [alook, aput, ev]) (awp_skip ?_)
      refine awp_run rfl (by simp only [fwA, ↓reduceIte, Nat.reduceAdd, Nat.reduceMul, Nat.reduceEqDiff, Nat.reduceLT, Nat.reduceLeDiff, reduceCtorEq] <;> rfl) ?_
      refine ⟨i + 1, by omega, by omega, ?_, rfl, rfl⟩
      simp only [fwA, ↓reduceIte, Nat.reduceAdd, Nat.reduceMul, Nat.reduceEqDiff, Nat.reduceLT, Nat.reduceLeDiff, reduceCtorEq, List.map_cons, List.map_nil, hwi]
    · rw [if_neg hq] at hsh
      rw [decide_eq_false hq] at h27
      have hwq : IntKind.i64.wrap (q.a + n) = q.a + n := wrapId ⟨by omega, by omega⟩
      refine awp_drawn [0, 0, 0, 0, 1, 0, 0, 0, 0, 0, 0, 1, 0, 0, 0, 0, 1, 0, 0, 0, 0, 0, 0, 0, 1, 0, 0, 0, 0, 0, 0, 0, 1, 0, 0, 0, 0, 1, 0, 0, 0, 0, 0, 0] [0, 0, 3, 7, 15, 31, 63, 127, 127, 511, 1023, 2047, 127, 127, 12415, 28799, 61567, 131071, 262143, 524287, 1048575, 1048575, 4194303, 8388607, 16777215, 33554431, 67108863, 134217727, 268435455, 268435455, 1073741823, 2147483647, 4294967295, 268435455, 268435455, 26038239231, 60397977599, 129117454335, 268435455, 275146342399, 1091190128639, 2199023255551, 4398046511103, 8796093022207] mixed rfl (by kernel_rfl) ?_
      refine dops_run 5 (by simp only [fwA, ↓reduceIte, Nat.reduceAdd, Nat.reduceMul, Nat.reduceEqDiff, Nat.reduceLT, Nat.reduceLeDiff, reduceCtorEq, Pr.fw, ti53, pl53, un22, un3, un4, un24, un56, ti24, ti3, un23, un25, un29, el22, el23, el29, eq53, fl53_0, fl53_1, List.length_map, List.getElem?_map, Option.map_some, Int.natCast_nonneg, Int.toNat_natCast, Int.reduceEq, Int.reduceToNat, Int.reduceNeg, decide_true, decide_false, Bool.and_true, Bool.and_self, Bool.not_true, Bool.not_false, ne_eq, Int.reduceLE, gm, hpa, hsh, hnw, decide_true, decide_false, hwq] <;> rfl) ?_
      refine dops_fn rfl (by simp only [fwA, ↓reduceIte, Nat.reduceAdd, Nat.reduceMul, Nat.reduceEqDiff, Nat.reduceLT, Nat.reduceLeDiff, reduceCtorEq] <;> rfl) rfl rfl en27 h27 ?_
      refine dops_run 13 (by simp only [fwA, ↓reduceIte, Nat.reduceAdd, Nat.reduceMul, Nat.reduceEqDiff, Nat.reduceLT, Nat.reduceLeDiff, reduceCtorEq, Pr.fw, ti53, pl53, un22, un3, un4, un24, un56, ti24, ti3, un23, un25, un29, el22, el23, el29, eq53, fl53_0, fl53_1, List.length_map, List.getElem?_map, Option.map_some, Int.natCast_nonneg, Int.toNat_natCast, Int.reduceEq, Int.reduceToNat, Int.reduceNeg, decide_true, decide_false, Bool.and_true, Bool.and_self, Bool.not_true, Bool.not_false, ne_eq, Int.reduceLE, gm, hpa, hsh, hnw, decide_true, decide_false, hwq] <;> rfl) ?_
      refine dops_run 6 (by simp only [fwA, ↓reduceIte, Nat.reduceAdd, Nat.reduceMul, Nat.reduceEqDiff, Nat.reduceLT, Nat.reduceLeDiff, reduceCtorEq, Pr.fw, ti53, pl53, un22, un3, un4, un24, un56, ti24, ti3, un23, un25, un29, el22, el23, el29, eq53, fl53_0, fl53_1, List.length_map, List.getElem?_map, Option.map_some, Int.natCast_nonneg, Int.toNat_natCast, Int.reduceEq, Int.reduceToNat, Int.reduceNeg, decide_true, decide_false, Bool.and_true, Bool.and_self, Bool.not_true, Bool.not_false, ne_eq, Int.reduceLE, gm, hpa, hsh, hnw, decide_true, decide_false, hwq] <;> rfl) ?_
      refine dops_fn rfl (by simp only [fwA, ↓reduceIte, Nat.reduceAdd, Nat.reduceMul, Nat.reduceEqDiff, Nat.reduceLT, Nat.reduceLeDiff, reduceCtorEq] <;> rfl) rfl rfl en27 h27 ?_
      refine dops_run 13 (by simp only [fwA, ↓reduceIte, Nat.reduceAdd, Nat.reduceMul, Nat.reduceEqDiff, Nat.reduceLT, Nat.reduceLeDiff, reduceCtorEq, Pr.fw, ti53, pl53, un22, un3, un4, un24, un56, ti24, ti3, un23, un25, un29, el22, el23, el29, eq53, fl53_0, fl53_1, List.length_map, List.getElem?_map, Option.map_some, Int.natCast_nonneg, Int.toNat_natCast, Int.reduceEq, Int.reduceToNat, Int.reduceNeg, decide_true, decide_false, Bool.and_true, Bool.and_self, Bool.not_true, Bool.not_false, ne_eq, Int.reduceLE, gm, hpa, hsh, hnw, decide_true, decide_false, hwq] <;> rfl) ?_
      refine dops_run 5 (by simp only [fwA, ↓reduceIte, Nat.reduceAdd, Nat.reduceMul, Nat.reduceEqDiff, Nat.reduceLT, Nat.reduceLeDiff, reduceCtorEq, Pr.fw, ti53, pl53, un22, un3, un4, un24, un56, ti24, ti3, un23, un25, un29, el22, el23, el29, eq53, fl53_0, fl53_1, List.length_map, List.getElem?_map, Option.map_some, Int.natCast_nonneg, Int.toNat_natCast, Int.reduceEq, Int.reduceToNat, Int.reduceNeg, decide_true, decide_false, Bool.and_true, Bool.and_self, Bool.not_true, Bool.not_false, ne_eq, Int.reduceLE, gm, hpa, hsh, hnw, decide_true, decide_false, hwq] <;> rfl) ?_
      refine dops_end ?_
      refine awp_cond (b := false) (by simp [alook, aput, ev]) (awp_skip ?_)
      refine awp_run rfl (by simp only [fwA, ↓reduceIte, Nat.reduceAdd, Nat.reduceMul, Nat.reduceEqDiff, Nat.reduceLT, Nat.reduceLeDiff, reduceCtorEq] <;> rfl) ?_
      refine ⟨i + 1, by omega, by omega, ?_, rfl, rfl⟩
      simp only [fwA, ↓reduceIte, Nat.reduceAdd, Nat.reduceMul, Nat.reduceEqDiff, Nat.reduceLT, Nat.reduceLeDiff, reduceCtorEq, List.map_cons, List.map_nil, hwi]
  simp only [hc, decide_true, ↓reduceIte]
  refine awp_skip ?_
  have hil : i < l.length := by omega
  have ga : l[i]? = some l[i] := List.getElem?_eq_getElem hil
  have hst := small_step l i _ ga
  have hfl : ((l.take i).filter smB).length ≤ i := by have := List.length_filter_le smB (l.take i); rw [List.length_take] at this; omega
  generalize l[i] = p at ga hst
  have hwi : IntKind.i64.wrap ((i : Int) + 1) = ((i + 1 : Nat) : Int) := wrapS i (by omega)
  refine awp_seq ?_
  refine awp_block ?_
  refine awp_seq ?_
  have hno : ∀ b : Bool, smB p = b → (b = false → (l.take (i + 1)).filter smB = (l.take i).filter smB) := fun b h hb => by
    rw [hst, h, hb]; simp
  by_cases hA : p.a < 1099511627776
  · by_cases hB : p.b < 1099511627776
    · have hs : smB p = true := by unfold smB; rw [decide_eq_true hA, decide_eq_true hB]; rfl
      rw [hs] at hst
      simp only [↓reduceIte] at hst
      refine awp_run rfl (by simp only [fwA, ↓reduceIte, Nat.reduceAdd, Nat.reduceMul, Nat.reduceEqDiff, Nat.reduceLT, Nat.reduceLeDiff, reduceCtorEq, Pr.fw, ti53, pl53, un22, un3, un4, un24, un56, ti24, ti3, un23, un25, un29, el22, el23, el29, eq53, fl53_0, fl53_1, List.length_map, List.getElem?_map, Option.map_some, Int.natCast_nonneg, Int.toNat_natCast, Int.reduceEq, Int.reduceToNat, Int.reduceNeg, decide_true, decide_false, Bool.and_true, Bool.and_self, Bool.not_true, Bool.not_false, ne_eq, Int.reduceLE, ga, hA, hB] <;> rfl) ?_
      refine awp_cond (b := true) (by simp [alook, aput, ev]) ?_
      simp only [↓reduceIte]
      refine awp_region rfl ?_
      refine aops_run 6 (by simp only [fwA, ↓reduceIte, Nat.reduceAdd, Nat.reduceMul, Nat.reduceEqDiff, Nat.reduceLT, Nat.reduceLeDiff, reduceCtorEq, Pr.fw, ti53, pl53, un22, un3, un4, un24, un56, ti24, ti3, un23, un25, un29, el22, el23, el29, eq53, fl53_0, fl53_1, List.length_map, List.getElem?_map, Option.map_some, Int.natCast_nonneg, Int.toNat_natCast, Int.reduceEq, Int.reduceToNat, Int.reduceNeg, decide_true, decide_false, Bool.and_true, Bool.and_self, Bool.not_true, Bool.not_false, ne_eq, Int.reduceLE, ga] <;> rfl) ?_
      refine aops_one rfl (os_appendR rfl un22 ti53 un22 (.inl ⟨_, rfl⟩) rfl (get_at0 H _) (by rw [flat_len Pr.enc_len]; exact (Nat.zero_add _).symm) rfl (fun es f h e he => by
        simp only [fwA, ↓reduceIte, Nat.reduceAdd, Nat.reduceMul, Nat.reduceEqDiff, Nat.reduceLT, Nat.reduceLeDiff, reduceCtorEq, PV.vec.injEq] at h
        obtain ⟨rfl, rfl⟩ := h
        simp only [List.mem_singleton] at he
        subst he; rfl) rfl (by show (_ + 1) * 16 ≤ _; omega) (by show _ + 1 ≤ _; omega) ?_)
      refine aops_run 1 (by simp only [fwA, ↓reduceIte, Nat.reduceAdd, Nat.reduceMul, Nat.reduceEqDiff, Nat.reduceLT, Nat.reduceLeDiff, reduceCtorEq] <;> rfl) ?_
      refine awp_run rfl (by simp only [fwA, ↓reduceIte, Nat.reduceAdd, Nat.reduceMul, Nat.reduceEqDiff, Nat.reduceLT, Nat.reduceLeDiff, reduceCtorEq] <;> rfl) ?_
      refine ⟨i + 1, by omega, by omega, ?_, ?_, rfl⟩
      · rw [hst]; simp only [fwA, ↓reduceIte, Nat.reduceAdd, Nat.reduceMul, Nat.reduceEqDiff, Nat.reduceLT, Nat.reduceLeDiff, reduceCtorEq, List.map_cons, List.map_nil, hwi, List.length_append]; rfl
      · rw [hst, List.map_append, List.flatten_append]; simp [Pr.enc]
    · have hs := hno (smB p) rfl (by unfold smB; rw [decide_eq_false hB, Bool.and_false])
      refine awp_run rfl (by simp only [fwA, ↓reduceIte, Nat.reduceAdd, Nat.reduceMul, Nat.reduceEqDiff, Nat.reduceLT, Nat.reduceLeDiff, reduceCtorEq, Pr.fw, ti53, pl53, un22, un3, un4, un24, un56, ti24, ti3, un23, un25, un29, el22, el23, el29, eq53, fl53_0, fl53_1, List.length_map, List.getElem?_map, Option.map_some, Int.natCast_nonneg, Int.toNat_natCast, Int.reduceEq, Int.reduceToNat, Int.reduceNeg, decide_true, decide_false, Bool.and_true, Bool.and_self, Bool.not_true, Bool.not_false, ne_eq, Int.reduceLE, ga, hA, hB] <;> rfl) ?_
      refine awp_cond (b := false) (by simp [alook, aput, ev]) (awp_skip ?_)
      refine awp_run rfl (by simp only [fwA, ↓reduceIte, Nat.reduceAdd, Nat.reduceMul, Nat.reduceEqDiff, Nat.reduceLT, Nat.reduceLeDiff, reduceCtorEq] <;> rfl) ?_
      refine ⟨i + 1, by omega, by omega, ?_, by rw [hs], rfl⟩
      rw [hs]; simp only [fwA, ↓reduceIte, Nat.reduceAdd, Nat.reduceMul, Nat.reduceEqDiff, Nat.reduceLT, Nat.reduceLeDiff, reduceCtorEq, List.map_cons, List.map_nil, hwi]
  · have hs := hno (smB p) rfl (by unfold smB; rw [decide_eq_false hA]; rfl)
    refine awp_run rfl (by simp only [fwA, ↓reduceIte, Nat.reduceAdd, Nat.reduceMul, Nat.reduceEqDiff, Nat.reduceLT, Nat.reduceLeDiff, reduceCtorEq, Pr.fw, ti53, pl53, un22, un3, un4, un24, un56, ti24, ti3, un23, un25, un29, el22, el23, el29, eq53, fl53_0, fl53_1, List.length_map, List.getElem?_map, Option.map_some, Int.natCast_nonneg, Int.toNat_natCast, Int.reduceEq, Int.reduceToNat, Int.reduceNeg, decide_true, decide_false, Bool.and_true, Bool.and_self, Bool.not_true, Bool.not_false, ne_eq, Int.reduceLE, ga, hA] <;> rfl) ?_
    refine awp_cond (b := false) (by simp [alook, aput, ev]) (awp_skip ?_)
    refine awp_run rfl (by simp only [fwA, ↓reduceIte, Nat.reduceAdd, Nat.reduceMul, Nat.reduceEqDiff, Nat.reduceLT, Nat.reduceLeDiff, reduceCtorEq] <;> rfl) ?_
    refine ⟨i + 1, by omega, by omega, ?_, by rw [hs], rfl⟩
    rw [hs]; simp only [fwA, ↓reduceIte, Nat.reduceAdd, Nat.reduceMul, Nat.reduceEqDiff, Nat.reduceLT, Nat.reduceLeDiff, reduceCtorEq, List.map_cons, List.map_nil, hwi]

end Go.Proofs.YtdacialfjlcboaaGreatDoor
