/- The laws of chapter 11. -/
import Derived.Test.YtpkpbfemglmejaaDoorWF
namespace Go.Proofs.YtpkpbfemglmejaaDoor
set_option linter.unusedVariables false
set_option linter.unusedSimpArgs false
set_option maxRecDepth 100000
open Go.RowKit Fw

theorem lats_ok : (latsV.all fun x => rightB x.1 x.2 && x.2.all fun y => decide (y < 18446744073709551616)) = true := by kernel_rfl
theorem lats_at {k : Int} (h0 : 0 ≤ k) : ∃ (j : Nat) (ns : List (List UInt8)) (us : List Nat), k.tmod 6 = (j : Int) ∧ latsV[j]? = some (ns, us) ∧ laE false (ns, us) = [.vec (ns.map S1) false, .vec (us.map U1) false] ∧ rightB ns us = true ∧ W64 us := by
  have hm := tmod_nat (n := 6) h0
  have hj : k.toNat % 6 < latsV.length := Nat.mod_lt _ (by decide)
  have hall := lats_ok
  rw [List.all_eq_true] at hall
  have := hall latsV[k.toNat % 6] (List.getElem_mem hj)
  rw [Bool.and_eq_true, List.all_eq_true] at this
  exact ⟨k.toNat % 6, latsV[k.toNat % 6].1, latsV[k.toNat % 6].2, hm, List.getElem?_eq_getElem hj, rfl, this.1, fun x hx => by have := this.2 x hx; simpa using this⟩
theorem value_pt {ns : List (List UInt8)} {us : List Nat} {s : List So} {b : Nat} (hb : b < ns.length) : valueV ns us s (-1 - (b : Int)) = (b : Int) := by
  have h : pointOf (-1 - (b : Int)) = b := by unfold pointOf; rw [if_neg (by omega)]; omega
  unfold valueV
  rw [if_pos (by omega), h]
  unfold ptI
  rw [if_pos (ptB_iff.2 ⟨by omega, by omega⟩)]
set_option maxHeartbeats 8000000 in
/- chancel/chancellaw11.SolveVars -/
theorem c7 (Γ : Nat → PV) (hΓ : Tab64 Γ) (k : Int) (hk0 : 0 ≤ k) (c : List Pr) (ho : OkP c) : Gives Tryd.prog Γ 7 [.int .u8 k, .vec (c.map Pr.enc) false] (.bool true) := by
  have h8 := c8 Γ hΓ
  have h9 := c9 Γ
  obtain ⟨j, ns, us, ej, hget, hla, hR, hw⟩ := lats_at hk0
  obtain ⟨r1, r2, _, _, r5⟩ := right_spec hR
  have rp := r5.pos
  have hn : 0 < ns.length := by omega
  have h10 := c10 Γ ns us hn c ho
  have ho' := ptsV_ok (c := c) hn ho
  have hl' := ptsV_len ns.length c
  have hkn := ptsV_known (c := c) hR ho
  have hvr := fun x => ptsV_vars (x := x) hR ho
  refine fn_of_awp Tryd.func7 rfl (by simp [Tryd.f7]) rfl fun H => ?_
  refine awp_bd fun hbd => ?_
  refine awp_seq ?_
  refine awp_run rfl (by simp only [fwA, ↓reduceIte, Nat.reduceAdd, Nat.reduceMul, Nat.reduceEqDiff, Nat.reduceLT, Nat.reduceLeDiff, reduceCtorEq, bitfw, List.length_map, List.getElem?_map, Option.map_some, Int.natCast_nonneg, Int.toNat_natCast, decide_true, decide_false, Bool.and_true, Bool.and_self, Bool.not_true, Bool.not_false, Bool.false_and, Bool.true_and, Bool.or_false, Bool.false_or, el22, el23, el25, el26, el29, el32, el47, el79, el121, fl28_0, fl28_1, fl37_0, fl37_1, fl43_0, fl43_1, pl28, pl37, pl43, ti3, ti4, ti5, ti9, ti22, ti25, ti26, ti28, ti32, ti35, ti37, ti43, ti53, ti58, ti116, ti121, un3, un4, un5, un9, un22, un23, un25, un26, un29, un32, un35, un47, un53, un55, un58, un59, un79, un90, un113, un116, S1_fw, U1_fw, I1_fw, Pr.fw, So.fw, pl57, ti57, fl57_0, fl57_1, ti55, ti81, ne_eq, not_false_eq_true, not_true_eq_false, and_self, and_true, true_and, Int.reduceEq, Int.reduceNeg, Int.reduceToNat, Int.reduceLE, Int.reduceLT] <;> rfl) ?_
  refine awp_seq ?_
  refine awp_region rfl ?_
  refine aops_fn rfl rfl rfl en8 h8 ?_
  refine aops_run 1 (by simp only [fwA, ↓reduceIte, Nat.reduceAdd, Nat.reduceMul, Nat.reduceEqDiff, Nat.reduceLT, Nat.reduceLeDiff, reduceCtorEq, bitfw, List.length_map, List.getElem?_map, Option.map_some, Int.natCast_nonneg, Int.toNat_natCast, decide_true, decide_false, Bool.and_true, Bool.and_self, Bool.not_true, Bool.not_false, Bool.false_and, Bool.true_and, Bool.or_false, Bool.false_or, el22, el23, el25, el26, el29, el32, el47, el79, el121, fl28_0, fl28_1, fl37_0, fl37_1, fl43_0, fl43_1, pl28, pl37, pl43, ti3, ti4, ti5, ti9, ti22, ti25, ti26, ti28, ti32, ti35, ti37, ti43, ti53, ti58, ti116, ti121, un3, un4, un5, un9, un22, un23, un25, un26, un29, un32, un35, un47, un53, un55, un58, un59, un79, un90, un113, un116, S1_fw, U1_fw, I1_fw, Pr.fw, So.fw, pl57, ti57, fl57_0, fl57_1, ti55, ti81, ne_eq, not_false_eq_true, not_true_eq_false, and_self, and_true, true_and, Int.reduceEq, Int.reduceNeg, Int.reduceToNat, Int.reduceLE, Int.reduceLT] <;> rfl) ?_
  refine aops_end ?_
  refine awp_seq ?_
  refine awp_seq ?_
  refine awp_run rfl (by simp only [fwA, ↓reduceIte, Nat.reduceAdd, Nat.reduceMul, Nat.reduceEqDiff, Nat.reduceLT, Nat.reduceLeDiff, reduceCtorEq] <;> rfl) ?_
  refine awp_cond (b := false) (by simp [alook, aput, ev]) (awp_skip ?_)
  refine awp_seq ?_
  refine awp_region rfl ?_
  refine aops_fn rfl rfl rfl en9 h9 ?_
  refine aops_run 6 (by simp only [fwA, ↓reduceIte, Nat.reduceAdd, Nat.reduceMul, Nat.reduceEqDiff, Nat.reduceLT, Nat.reduceLeDiff, reduceCtorEq, bitfw, List.length_map, List.getElem?_map, Option.map_some, Int.natCast_nonneg, Int.toNat_natCast, decide_true, decide_false, Bool.and_true, Bool.and_self, Bool.not_true, Bool.not_false, Bool.false_and, Bool.true_and, Bool.or_false, Bool.false_or, el22, el23, el25, el26, el29, el32, el47, el79, el121, fl28_0, fl28_1, fl37_0, fl37_1, fl43_0, fl43_1, pl28, pl37, pl43, ti3, ti4, ti5, ti9, ti22, ti25, ti26, ti28, ti32, ti35, ti37, ti43, ti53, ti58, ti116, ti121, un3, un4, un5, un9, un22, un23, un25, un26, un29, un32, un35, un47, un53, un55, un58, un59, un79, un90, un113, un116, S1_fw, U1_fw, I1_fw, Pr.fw, So.fw, pl57, ti57, fl57_0, fl57_1, ti55, ti81, ne_eq, not_false_eq_true, not_true_eq_false, and_self, and_true, true_and, Int.reduceEq, Int.reduceNeg, Int.reduceToNat, Int.reduceLE, Int.reduceLT, ej, hget, hla] <;> rfl) ?_
  refine aops_end ?_
  refine awp_seq ?_
  refine awp_region rfl ?_
  refine aops_run 2 (by simp only [fwA, ↓reduceIte, Nat.reduceAdd, Nat.reduceMul, Nat.reduceEqDiff, Nat.reduceLT, Nat.reduceLeDiff, reduceCtorEq, bitfw, List.length_map, List.getElem?_map, Option.map_some, Int.natCast_nonneg, Int.toNat_natCast, decide_true, decide_false, Bool.and_true, Bool.and_self, Bool.not_true, Bool.not_false, Bool.false_and, Bool.true_and, Bool.or_false, Bool.false_or, el22, el23, el25, el26, el29, el32, el47, el79, el121, fl28_0, fl28_1, fl37_0, fl37_1, fl43_0, fl43_1, pl28, pl37, pl43, ti3, ti4, ti5, ti9, ti22, ti25, ti26, ti28, ti32, ti35, ti37, ti43, ti53, ti58, ti116, ti121, un3, un4, un5, un9, un22, un23, un25, un26, un29, un32, un35, un47, un53, un55, un58, un59, un79, un90, un113, un116, S1_fw, U1_fw, I1_fw, Pr.fw, So.fw, pl57, ti57, fl57_0, fl57_1, ti55, ti81, ne_eq, not_false_eq_true, not_true_eq_false, and_self, and_true, true_and, Int.reduceEq, Int.reduceNeg, Int.reduceToNat, Int.reduceLE, Int.reduceLT] <;> rfl) ?_
  refine aops_fn rfl rfl rfl en10 h10 ?_
  refine aops_run 1 (by simp only [fwA, ↓reduceIte, Nat.reduceAdd, Nat.reduceMul, Nat.reduceEqDiff, Nat.reduceLT, Nat.reduceLeDiff, reduceCtorEq, bitfw, List.length_map, List.getElem?_map, Option.map_some, Int.natCast_nonneg, Int.toNat_natCast, decide_true, decide_false, Bool.and_true, Bool.and_self, Bool.not_true, Bool.not_false, Bool.false_and, Bool.true_and, Bool.or_false, Bool.false_or, el22, el23, el25, el26, el29, el32, el47, el79, el121, fl28_0, fl28_1, fl37_0, fl37_1, fl43_0, fl43_1, pl28, pl37, pl43, ti3, ti4, ti5, ti9, ti22, ti25, ti26, ti28, ti32, ti35, ti37, ti43, ti53, ti58, ti116, ti121, un3, un4, un5, un9, un22, un23, un25, un26, un29, un32, un35, un47, un53, un55, un58, un59, un79, un90, un113, un116, S1_fw, U1_fw, I1_fw, Pr.fw, So.fw, pl57, ti57, fl57_0, fl57_1, ti55, ti81, ne_eq, not_false_eq_true, not_true_eq_false, and_self, and_true, true_and, Int.reduceEq, Int.reduceNeg, Int.reduceToNat, Int.reduceLE, Int.reduceLT] <;> rfl) ?_
  refine aops_end ?_
  generalize ptsV ns.length c = d at *
  have h11 := c11 Γ hΓ ns us hw d (by omega) ho'
  have hL := leastV_is ns us d
  generalize leastV ns us d = X at h11 hL
  obtain ⟨s, ok⟩ := X
  have h17 := c17 Γ d false (by omega)
  have h19 := c19 Γ hΓ ns us hw
  obtain ⟨bt, ebt, hbt⟩ := bot_nat hR
  have h20 := c20 Γ hΓ ns us hw bt ebt (by have := hbt.1; omega)
  refine awp_seq ?_
  refine awp_region rfl ?_
  refine aops_run 2 (by simp only [fwA, ↓reduceIte, Nat.reduceAdd, Nat.reduceMul, Nat.reduceEqDiff, Nat.reduceLT, Nat.reduceLeDiff, reduceCtorEq, bitfw, List.length_map, List.getElem?_map, Option.map_some, Int.natCast_nonneg, Int.toNat_natCast, decide_true, decide_false, Bool.and_true, Bool.and_self, Bool.not_true, Bool.not_false, Bool.false_and, Bool.true_and, Bool.or_false, Bool.false_or, el22, el23, el25, el26, el29, el32, el47, el79, el121, fl28_0, fl28_1, fl37_0, fl37_1, fl43_0, fl43_1, pl28, pl37, pl43, ti3, ti4, ti5, ti9, ti22, ti25, ti26, ti28, ti32, ti35, ti37, ti43, ti53, ti58, ti116, ti121, un3, un4, un5, un9, un22, un23, un25, un26, un29, un32, un35, un47, un53, un55, un58, un59, un79, un90, un113, un116, S1_fw, U1_fw, I1_fw, Pr.fw, So.fw, pl57, ti57, fl57_0, fl57_1, ti55, ti81, ne_eq, not_false_eq_true, not_true_eq_false, and_self, and_true, true_and, Int.reduceEq, Int.reduceNeg, Int.reduceToNat, Int.reduceLE, Int.reduceLT, leastEnc] <;> rfl) ?_
  refine aops_fn rfl rfl rfl en11 h11 ?_
  refine aops_run 5 (by simp only [fwA, ↓reduceIte, Nat.reduceAdd, Nat.reduceMul, Nat.reduceEqDiff, Nat.reduceLT, Nat.reduceLeDiff, reduceCtorEq, bitfw, List.length_map, List.getElem?_map, Option.map_some, Int.natCast_nonneg, Int.toNat_natCast, decide_true, decide_false, Bool.and_true, Bool.and_self, Bool.not_true, Bool.not_false, Bool.false_and, Bool.true_and, Bool.or_false, Bool.false_or, el22, el23, el25, el26, el29, el32, el47, el79, el121, fl28_0, fl28_1, fl37_0, fl37_1, fl43_0, fl43_1, pl28, pl37, pl43, ti3, ti4, ti5, ti9, ti22, ti25, ti26, ti28, ti32, ti35, ti37, ti43, ti53, ti58, ti116, ti121, un3, un4, un5, un9, un22, un23, un25, un26, un29, un32, un35, un47, un53, un55, un58, un59, un79, un90, un113, un116, S1_fw, U1_fw, I1_fw, Pr.fw, So.fw, pl57, ti57, fl57_0, fl57_1, ti55, ti81, ne_eq, not_false_eq_true, not_true_eq_false, and_self, and_true, true_and, Int.reduceEq, Int.reduceNeg, Int.reduceToNat, Int.reduceLE, Int.reduceLT, leastEnc] <;> rfl) ?_
  refine aops_end ?_
  refine awp_seq ?_
  refine awp_region rfl ?_
  refine aops_run 1 (by simp only [fwA, ↓reduceIte, Nat.reduceAdd, Nat.reduceMul, Nat.reduceEqDiff, Nat.reduceLT, Nat.reduceLeDiff, reduceCtorEq, bitfw, List.length_map, List.getElem?_map, Option.map_some, Int.natCast_nonneg, Int.toNat_natCast, decide_true, decide_false, Bool.and_true, Bool.and_self, Bool.not_true, Bool.not_false, Bool.false_and, Bool.true_and, Bool.or_false, Bool.false_or, el22, el23, el25, el26, el29, el32, el47, el79, el121, fl28_0, fl28_1, fl37_0, fl37_1, fl43_0, fl43_1, pl28, pl37, pl43, ti3, ti4, ti5, ti9, ti22, ti25, ti26, ti28, ti32, ti35, ti37, ti43, ti53, ti58, ti116, ti121, un3, un4, un5, un9, un22, un23, un25, un26, un29, un32, un35, un47, un53, un55, un58, un59, un79, un90, un113, un116, S1_fw, U1_fw, I1_fw, Pr.fw, So.fw, pl57, ti57, fl57_0, fl57_1, ti55, ti81, ne_eq, not_false_eq_true, not_true_eq_false, and_self, and_true, true_and, Int.reduceEq, Int.reduceNeg, Int.reduceToNat, Int.reduceLE, Int.reduceLT] <;> rfl) ?_
  refine aops_fn rfl rfl rfl en17 h17 ?_
  refine aops_run 1 (by simp only [fwA, ↓reduceIte, Nat.reduceAdd, Nat.reduceMul, Nat.reduceEqDiff, Nat.reduceLT, Nat.reduceLeDiff, reduceCtorEq, bitfw, List.length_map, List.getElem?_map, Option.map_some, Int.natCast_nonneg, Int.toNat_natCast, decide_true, decide_false, Bool.and_true, Bool.and_self, Bool.not_true, Bool.not_false, Bool.false_and, Bool.true_and, Bool.or_false, Bool.false_or, el22, el23, el25, el26, el29, el32, el47, el79, el121, fl28_0, fl28_1, fl37_0, fl37_1, fl43_0, fl43_1, pl28, pl37, pl43, ti3, ti4, ti5, ti9, ti22, ti25, ti26, ti28, ti32, ti35, ti37, ti43, ti53, ti58, ti116, ti121, un3, un4, un5, un9, un22, un23, un25, un26, un29, un32, un35, un47, un53, un55, un58, un59, un79, un90, un113, un116, S1_fw, U1_fw, I1_fw, Pr.fw, So.fw, pl57, ti57, fl57_0, fl57_1, ti55, ti81, ne_eq, not_false_eq_true, not_true_eq_false, and_self, and_true, true_and, Int.reduceEq, Int.reduceNeg, Int.reduceToNat, Int.reduceLE, Int.reduceLT] <;> rfl) ?_
  refine aops_end ?_
  refine awp_seq ?_
  refine awp_seq ?_
  refine awp_run rfl (by simp only [fwA, ↓reduceIte, Nat.reduceAdd, Nat.reduceMul, Nat.reduceEqDiff, Nat.reduceLT, Nat.reduceLeDiff, reduceCtorEq] <;> rfl) ?_
  cases ok
  · refine awp_cond (b := true) (by simp [alook, aput, ev]) ?_
    refine awp_seq ?_
    refine awp_run rfl (by simp only [fwA, ↓reduceIte, Nat.reduceAdd, Nat.reduceMul, Nat.reduceEqDiff, Nat.reduceLT, Nat.reduceLeDiff, reduceCtorEq] <;> rfl) ?_
    refine awp_ret ?_
    exact gives_end (.inl rfl) _ rfl
  obtain ⟨v1, v2, v3⟩ := least_vars hkn hL rfl
  have hsl : s.length = (gath gV d).length := by rw [← v1, List.length_map]
  refine awp_cond (b := false) (by simp [alook, aput, ev]) (awp_skip ?_)
  refine awp_seq ?_
  refine awp_seq ?_
  refine awp_run rfl (by simp only [fwA, ↓reduceIte, Nat.reduceAdd, Nat.reduceMul, Nat.reduceEqDiff, Nat.reduceLT, Nat.reduceLeDiff, reduceCtorEq, bitfw, List.length_map, List.getElem?_map, Option.map_some, Int.natCast_nonneg, Int.toNat_natCast, decide_true, decide_false, Bool.and_true, Bool.and_self, Bool.not_true, Bool.not_false, Bool.false_and, Bool.true_and, Bool.or_false, Bool.false_or, el22, el23, el25, el26, el29, el32, el47, el79, el121, fl28_0, fl28_1, fl37_0, fl37_1, fl43_0, fl43_1, pl28, pl37, pl43, ti3, ti4, ti5, ti9, ti22, ti25, ti26, ti28, ti32, ti35, ti37, ti43, ti53, ti58, ti116, ti121, un3, un4, un5, un9, un22, un23, un25, un26, un29, un32, un35, un47, un53, un55, un58, un59, un79, un90, un113, un116, S1_fw, U1_fw, I1_fw, Pr.fw, So.fw, pl57, ti57, fl57_0, fl57_1, ti55, ti81, ne_eq, not_false_eq_true, not_true_eq_false, and_self, and_true, true_and, Int.reduceEq, Int.reduceNeg, Int.reduceToNat, Int.reduceLE, Int.reduceLT, hsl] <;> rfl) ?_
  refine awp_cond (b := false) (by simp [alook, aput, ev]) (awp_skip ?_)
  refine awp_seq ?_
  refine awp_seq ?_
  refine awp_run rfl (by simp only [fwA, ↓reduceIte, Nat.reduceAdd, Nat.reduceMul, Nat.reduceEqDiff, Nat.reduceLT, Nat.reduceLeDiff, reduceCtorEq] <;> rfl) ?_
  refine awp_block ?_
  refine awp_for [1, 5, 6, 7, 9, 10] (fun i : Nat => [.vec (d.map Pr.enc) false, .bool true, .ptr H.length 0, .vec (s.map So.enc) false, .vec ((gath gV d).map I1) false, .int .i64 (i : Int)]) (fun _ => H ++ [.box [.vec (ns.map S1) false, .vec (us.map U1) false]]) (fun i => s.length - i) (fun i => i ≤ s.length) 0 rfl rfl (Nat.zero_le _) fun i hi => ?_
  refine awp_seq ?_
  refine awp_seq ?_
  by_cases hc : (i : Int) < s.length
  rotate_left
  · rw [hsl] at hc
    refine awp_run rfl (by simp only [fwA, ↓reduceIte, Nat.reduceAdd, Nat.reduceMul, Nat.reduceEqDiff, Nat.reduceLT, Nat.reduceLeDiff, reduceCtorEq, bitfw, List.length_map, List.getElem?_map, Option.map_some, Int.natCast_nonneg, Int.toNat_natCast, decide_true, decide_false, Bool.and_true, Bool.and_self, Bool.not_true, Bool.not_false, Bool.false_and, Bool.true_and, Bool.or_false, Bool.false_or, el22, el23, el25, el26, el29, el32, el47, el79, el121, fl28_0, fl28_1, fl37_0, fl37_1, fl43_0, fl43_1, pl28, pl37, pl43, ti3, ti4, ti5, ti9, ti22, ti25, ti26, ti28, ti32, ti35, ti37, ti43, ti53, ti58, ti116, ti121, un3, un4, un5, un9, un22, un23, un25, un26, un29, un32, un35, un47, un53, un55, un58, un59, un79, un90, un113, un116, S1_fw, U1_fw, I1_fw, Pr.fw, So.fw, pl57, ti57, fl57_0, fl57_1, ti55, ti81, ne_eq, not_false_eq_true, not_true_eq_false, and_self, and_true, true_and, Int.reduceEq, Int.reduceNeg, Int.reduceToNat, Int.reduceLE, Int.reduceLT, hc] <;> rfl) ?_
    refine awp_cond (b := false) (by simp [alook, aput, ev]) ?_
    refine awp_exit ?_
    have h77 := c14 Γ hΓ ns us hw s 77 ⟨by decide, by decide⟩
    have hlo := c14 Γ hΓ ns us hw s (-1 - (bt : Int)) ⟨by have := hbt.1; omega, by omega⟩
    rw [show valueV ns us s 77 = botV ns us from v3 77 (by decide) (fun h => by have := hvr 77 h; omega)] at h77
    rw [value_pt (by have := hbt.1; omega)] at hlo
    rw [ebt] at h19 h77
    refine awp_seq ?_
    refine awp_drawn [0, 0, 1, 0, 0, 1, 0, 0, 0, 0, 1, 0, 1, 0, 0, 1, 0, 0, 0, 0] [0, 1, 3, 3, 15, 3, 63, 127, 255, 511, 1023, 1023, 1023, 5119, 16383, 1023, 65535, 131071, 262143, 524287] mixed rfl (by kernel_rfl) ?_
    refine dops_run 4 (by simp only [fwA, ↓reduceIte, Nat.reduceAdd, Nat.reduceMul, Nat.reduceEqDiff, Nat.reduceLT, Nat.reduceLeDiff, reduceCtorEq, bitfw, List.length_map, List.getElem?_map, Option.map_some, Int.natCast_nonneg, Int.toNat_natCast, decide_true, decide_false, Bool.and_true, Bool.and_self, Bool.not_true, Bool.not_false, Bool.false_and, Bool.true_and, Bool.or_false, Bool.false_or, el22, el23, el25, el26, el29, el32, el47, el79, el121, fl28_0, fl28_1, fl37_0, fl37_1, fl43_0, fl43_1, pl28, pl37, pl43, ti3, ti4, ti5, ti9, ti22, ti25, ti26, ti28, ti32, ti35, ti37, ti43, ti53, ti58, ti116, ti121, un3, un4, un5, un9, un22, un23, un25, un26, un29, un32, un35, un47, un53, un55, un58, un59, un79, un90, un113, un116, S1_fw, U1_fw, I1_fw, Pr.fw, So.fw, pl57, ti57, fl57_0, fl57_1, ti55, ti81, ne_eq, not_false_eq_true, not_true_eq_false, and_self, and_true, true_and, Int.reduceEq, Int.reduceNeg, Int.reduceToNat, Int.reduceLE, Int.reduceLT] <;> rfl) ?_
    refine dops_fn rfl (by simp only [fwA, ↓reduceIte, Nat.reduceAdd, Nat.reduceMul, Nat.reduceEqDiff, Nat.reduceLT, Nat.reduceLeDiff, reduceCtorEq] <;> rfl) rfl rfl en14 h77 ?_
    refine dops_run 1 (by simp only [fwA, ↓reduceIte, Nat.reduceAdd, Nat.reduceMul, Nat.reduceEqDiff, Nat.reduceLT, Nat.reduceLeDiff, reduceCtorEq, bitfw, List.length_map, List.getElem?_map, Option.map_some, Int.natCast_nonneg, Int.toNat_natCast, decide_true, decide_false, Bool.and_true, Bool.and_self, Bool.not_true, Bool.not_false, Bool.false_and, Bool.true_and, Bool.or_false, Bool.false_or, el22, el23, el25, el26, el29, el32, el47, el79, el121, fl28_0, fl28_1, fl37_0, fl37_1, fl43_0, fl43_1, pl28, pl37, pl43, ti3, ti4, ti5, ti9, ti22, ti25, ti26, ti28, ti32, ti35, ti37, ti43, ti53, ti58, ti116, ti121, un3, un4, un5, un9, un22, un23, un25, un26, un29, un32, un35, un47, un53, un55, un58, un59, un79, un90, un113, un116, S1_fw, U1_fw, I1_fw, Pr.fw, So.fw, pl57, ti57, fl57_0, fl57_1, ti55, ti81, ne_eq, not_false_eq_true, not_true_eq_false, and_self, and_true, true_and, Int.reduceEq, Int.reduceNeg, Int.reduceToNat, Int.reduceLE, Int.reduceLT] <;> rfl) ?_
    refine dops_fn rfl (by simp only [fwA, ↓reduceIte, Nat.reduceAdd, Nat.reduceMul, Nat.reduceEqDiff, Nat.reduceLT, Nat.reduceLeDiff, reduceCtorEq] <;> rfl) rfl rfl en19 h19 ?_
    refine dops_run 6 (by simp only [fwA, ↓reduceIte, Nat.reduceAdd, Nat.reduceMul, Nat.reduceEqDiff, Nat.reduceLT, Nat.reduceLeDiff, reduceCtorEq, bitfw, List.length_map, List.getElem?_map, Option.map_some, Int.natCast_nonneg, Int.toNat_natCast, decide_true, decide_false, Bool.and_true, Bool.and_self, Bool.not_true, Bool.not_false, Bool.false_and, Bool.true_and, Bool.or_false, Bool.false_or, el22, el23, el25, el26, el29, el32, el47, el79, el121, fl28_0, fl28_1, fl37_0, fl37_1, fl43_0, fl43_1, pl28, pl37, pl43, ti3, ti4, ti5, ti9, ti22, ti25, ti26, ti28, ti32, ti35, ti37, ti43, ti53, ti58, ti116, ti121, un3, un4, un5, un9, un22, un23, un25, un26, un29, un32, un35, un47, un53, un55, un58, un59, un79, un90, un113, un116, S1_fw, U1_fw, I1_fw, Pr.fw, So.fw, pl57, ti57, fl57_0, fl57_1, ti55, ti81, ne_eq, not_false_eq_true, not_true_eq_false, and_self, and_true, true_and, Int.reduceEq, Int.reduceNeg, Int.reduceToNat, Int.reduceLE, Int.reduceLT] <;> rfl) ?_
    refine dops_fn rfl (by simp only [fwA, ↓reduceIte, Nat.reduceAdd, Nat.reduceMul, Nat.reduceEqDiff, Nat.reduceLT, Nat.reduceLeDiff, reduceCtorEq] <;> rfl) rfl rfl en20 h20 ?_
    refine dops_fn rfl (by simp only [fwA, ↓reduceIte, Nat.reduceAdd, Nat.reduceMul, Nat.reduceEqDiff, Nat.reduceLT, Nat.reduceLeDiff, reduceCtorEq] <;> rfl) rfl rfl en14 hlo ?_
    refine dops_run 1 (by simp only [fwA, ↓reduceIte, Nat.reduceAdd, Nat.reduceMul, Nat.reduceEqDiff, Nat.reduceLT, Nat.reduceLeDiff, reduceCtorEq, bitfw, List.length_map, List.getElem?_map, Option.map_some, Int.natCast_nonneg, Int.toNat_natCast, decide_true, decide_false, Bool.and_true, Bool.and_self, Bool.not_true, Bool.not_false, Bool.false_and, Bool.true_and, Bool.or_false, Bool.false_or, el22, el23, el25, el26, el29, el32, el47, el79, el121, fl28_0, fl28_1, fl37_0, fl37_1, fl43_0, fl43_1, pl28, pl37, pl43, ti3, ti4, ti5, ti9, ti22, ti25, ti26, ti28, ti32, ti35, ti37, ti43, ti53, ti58, ti116, ti121, un3, un4, un5, un9, un22, un23, un25, un26, un29, un32, un35, un47, un53, un55, un58, un59, un79, un90, un113, un116, S1_fw, U1_fw, I1_fw, Pr.fw, So.fw, pl57, ti57, fl57_0, fl57_1, ti55, ti81, ne_eq, not_false_eq_true, not_true_eq_false, and_self, and_true, true_and, Int.reduceEq, Int.reduceNeg, Int.reduceToNat, Int.reduceLE, Int.reduceLT] <;> rfl) ?_
    refine dops_fn rfl (by simp only [fwA, ↓reduceIte, Nat.reduceAdd, Nat.reduceMul, Nat.reduceEqDiff, Nat.reduceLT, Nat.reduceLeDiff, reduceCtorEq] <;> rfl) rfl rfl en19 h19 ?_
    refine dops_run 3 (by simp only [fwA, ↓reduceIte, Nat.reduceAdd, Nat.reduceMul, Nat.reduceEqDiff, Nat.reduceLT, Nat.reduceLeDiff, reduceCtorEq, bitfw, List.length_map, List.getElem?_map, Option.map_some, Int.natCast_nonneg, Int.toNat_natCast, decide_true, decide_false, Bool.and_true, Bool.and_self, Bool.not_true, Bool.not_false, Bool.false_and, Bool.true_and, Bool.or_false, Bool.false_or, el22, el23, el25, el26, el29, el32, el47, el79, el121, fl28_0, fl28_1, fl37_0, fl37_1, fl43_0, fl43_1, pl28, pl37, pl43, ti3, ti4, ti5, ti9, ti22, ti25, ti26, ti28, ti32, ti35, ti37, ti43, ti53, ti58, ti116, ti121, un3, un4, un5, un9, un22, un23, un25, un26, un29, un32, un35, un47, un53, un55, un58, un59, un79, un90, un113, un116, S1_fw, U1_fw, I1_fw, Pr.fw, So.fw, pl57, ti57, fl57_0, fl57_1, ti55, ti81, ne_eq, not_false_eq_true, not_true_eq_false, and_self, and_true, true_and, Int.reduceEq, Int.reduceNeg, Int.reduceToNat, Int.reduceLE, Int.reduceLT] <;> rfl) ?_
    refine dops_end ?_
    refine awp_ret ?_
    exact gives_end (.inl rfl) _ rfl
  have hi' : i < s.length := by omega
  obtain ⟨z, hz⟩ : ∃ z, s[i]? = some z := ⟨_, List.getElem?_eq_getElem hi'⟩
  have hzm := List.mem_of_getElem? hz
  have hv : (gath gV d)[i]? = some z.v := by rw [← v1, List.getElem?_map, hz]; rfl
  obtain ⟨w1, w2⟩ := v2 z hzm
  have w3 := ptB_iff.1 w1
  have h14 := c14 Γ hΓ ns us hw s z.v (by have := hvr z.v (List.mem_of_getElem? hv); exact ⟨by omega, by omega⟩)
  rw [w2] at h14
  have hwi : IntKind.i64.wrap ((i : Int) + 1) = ((i + 1 : Nat) : Int) := wrapS i (by have := both_le d; omega)
  have hc2 : (i : Int) < (gath gV d).length := by omega
  have hg1 : ¬ z.p < 0 := by omega
  have hg2 : ¬ (ns.length : Int) ≤ z.p := by omega
  refine awp_run rfl (by simp only [fwA, ↓reduceIte, Nat.reduceAdd, Nat.reduceMul, Nat.reduceEqDiff, Nat.reduceLT, Nat.reduceLeDiff, reduceCtorEq, bitfw, List.length_map, List.getElem?_map, Option.map_some, Int.natCast_nonneg, Int.toNat_natCast, decide_true, decide_false, Bool.and_true, Bool.and_self, Bool.not_true, Bool.not_false, Bool.false_and, Bool.true_and, Bool.or_false, Bool.false_or, el22, el23, el25, el26, el29, el32, el47, el79, el121, fl28_0, fl28_1, fl37_0, fl37_1, fl43_0, fl43_1, pl28, pl37, pl43, ti3, ti4, ti5, ti9, ti22, ti25, ti26, ti28, ti32, ti35, ti37, ti43, ti53, ti58, ti116, ti121, un3, un4, un5, un9, un22, un23, un25, un26, un29, un32, un35, un47, un53, un55, un58, un59, un79, un90, un113, un116, S1_fw, U1_fw, I1_fw, Pr.fw, So.fw, pl57, ti57, fl57_0, fl57_1, ti55, ti81, ne_eq, not_false_eq_true, not_true_eq_false, and_self, and_true, true_and, Int.reduceEq, Int.reduceNeg, Int.reduceToNat, Int.reduceLE, Int.reduceLT, hc2] <;> rfl) ?_
  refine awp_cond (b := true) (by simp [alook, aput, ev]) ?_
  refine awp_skip ?_
  refine awp_seq ?_
  refine awp_block ?_
  refine awp_seq ?_
  refine awp_drawn [0, 0, 0, 0, 1, 0, 0, 0, 1, 0, 0, 0, 0, 0, 0, 1, 0, 0, 0, 0, 0, 0, 0, 1, 0, 1, 0, 0, 0, 0, 1, 0, 0, 0, 0, 1, 0, 0, 0, 0, 0, 1, 0, 0] [0, 0, 3, 7, 15, 0, 0, 96, 224, 511, 1023, 2047, 2047, 8191, 16383, 32767, 65535, 131071, 262143, 524287, 524287, 2097151, 4194303, 8388607, 524287, 17301503, 50855935, 134217727, 268435455, 536870911, 1073741823, 1073741823, 1073741823, 1073741823, 13958643711, 31138512895, 68719476735, 1073741823, 1073741823, 413390602239, 963146416127, 2062658043903, 4398046511103, 8796093022207] mixed rfl (by kernel_rfl) ?_
  refine dops_run 13 (by simp only [fwA, ↓reduceIte, Nat.reduceAdd, Nat.reduceMul, Nat.reduceEqDiff, Nat.reduceLT, Nat.reduceLeDiff, reduceCtorEq, bitfw, List.length_map, List.getElem?_map, Option.map_some, Int.natCast_nonneg, Int.toNat_natCast, decide_true, decide_false, Bool.and_true, Bool.and_self, Bool.not_true, Bool.not_false, Bool.false_and, Bool.true_and, Bool.or_false, Bool.false_or, el22, el23, el25, el26, el29, el32, el47, el79, el121, fl28_0, fl28_1, fl37_0, fl37_1, fl43_0, fl43_1, pl28, pl37, pl43, ti3, ti4, ti5, ti9, ti22, ti25, ti26, ti28, ti32, ti35, ti37, ti43, ti53, ti58, ti116, ti121, un3, un4, un5, un9, un22, un23, un25, un26, un29, un32, un35, un47, un53, un55, un58, un59, un79, un90, un113, un116, S1_fw, U1_fw, I1_fw, Pr.fw, So.fw, pl57, ti57, fl57_0, fl57_1, ti55, ti81, ne_eq, not_false_eq_true, not_true_eq_false, and_self, and_true, true_and, Int.reduceEq, Int.reduceNeg, Int.reduceToNat, Int.reduceLE, Int.reduceLT, hz, hv, hg1, hg2] <;> rfl) ?_
  refine dops_run 13 (by simp only [fwA, ↓reduceIte, Nat.reduceAdd, Nat.reduceMul, Nat.reduceEqDiff, Nat.reduceLT, Nat.reduceLeDiff, reduceCtorEq, bitfw, List.length_map, List.getElem?_map, Option.map_some, Int.natCast_nonneg, Int.toNat_natCast, decide_true, decide_false, Bool.and_true, Bool.and_self, Bool.not_true, Bool.not_false, Bool.false_and, Bool.true_and, Bool.or_false, Bool.false_or, el22, el23, el25, el26, el29, el32, el47, el79, el121, fl28_0, fl28_1, fl37_0, fl37_1, fl43_0, fl43_1, pl28, pl37, pl43, ti3, ti4, ti5, ti9, ti22, ti25, ti26, ti28, ti32, ti35, ti37, ti43, ti53, ti58, ti116, ti121, un3, un4, un5, un9, un22, un23, un25, un26, un29, un32, un35, un47, un53, un55, un58, un59, un79, un90, un113, un116, S1_fw, U1_fw, I1_fw, Pr.fw, So.fw, pl57, ti57, fl57_0, fl57_1, ti55, ti81, ne_eq, not_false_eq_true, not_true_eq_false, and_self, and_true, true_and, Int.reduceEq, Int.reduceNeg, Int.reduceToNat, Int.reduceLE, Int.reduceLT, hz, hv, hg1, hg2] <;> rfl) ?_
  refine dops_run 10 (by simp only [fwA, ↓reduceIte, Nat.reduceAdd, Nat.reduceMul, Nat.reduceEqDiff, Nat.reduceLT, Nat.reduceLeDiff, reduceCtorEq, bitfw, List.length_map, List.getElem?_map, Option.map_some, Int.natCast_nonneg, Int.toNat_natCast, decide_true, decide_false, Bool.and_true, Bool.and_self, Bool.not_true, Bool.not_false, Bool.false_and, Bool.true_and, Bool.or_false, Bool.false_or, el22, el23, el25, el26, el29, el32, el47, el79, el121, fl28_0, fl28_1, fl37_0, fl37_1, fl43_0, fl43_1, pl28, pl37, pl43, ti3, ti4, ti5, ti9, ti22, ti25, ti26, ti28, ti32, ti35, ti37, ti43, ti53, ti58, ti116, ti121, un3, un4, un5, un9, un22, un23, un25, un26, un29, un32, un35, un47, un53, un55, un58, un59, un79, un90, un113, un116, S1_fw, U1_fw, I1_fw, Pr.fw, So.fw, pl57, ti57, fl57_0, fl57_1, ti55, ti81, ne_eq, not_false_eq_true, not_true_eq_false, and_self, and_true, true_and, Int.reduceEq, Int.reduceNeg, Int.reduceToNat, Int.reduceLE, Int.reduceLT, hz, hv, hg1, hg2] <;> rfl) ?_
  refine dops_fn rfl (by simp only [fwA, ↓reduceIte, Nat.reduceAdd, Nat.reduceMul, Nat.reduceEqDiff, Nat.reduceLT, Nat.reduceLeDiff, reduceCtorEq] <;> rfl) rfl rfl en14 h14 ?_
  refine dops_run 7 (by simp only [fwA, ↓reduceIte, Nat.reduceAdd, Nat.reduceMul, Nat.reduceEqDiff, Nat.reduceLT, Nat.reduceLeDiff, reduceCtorEq, bitfw, List.length_map, List.getElem?_map, Option.map_some, Int.natCast_nonneg, Int.toNat_natCast, decide_true, decide_false, Bool.and_true, Bool.and_self, Bool.not_true, Bool.not_false, Bool.false_and, Bool.true_and, Bool.or_false, Bool.false_or, el22, el23, el25, el26, el29, el32, el47, el79, el121, fl28_0, fl28_1, fl37_0, fl37_1, fl43_0, fl43_1, pl28, pl37, pl43, ti3, ti4, ti5, ti9, ti22, ti25, ti26, ti28, ti32, ti35, ti37, ti43, ti53, ti58, ti116, ti121, un3, un4, un5, un9, un22, un23, un25, un26, un29, un32, un35, un47, un53, un55, un58, un59, un79, un90, un113, un116, S1_fw, U1_fw, I1_fw, Pr.fw, So.fw, pl57, ti57, fl57_0, fl57_1, ti55, ti81, ne_eq, not_false_eq_true, not_true_eq_false, and_self, and_true, true_and, Int.reduceEq, Int.reduceNeg, Int.reduceToNat, Int.reduceLE, Int.reduceLT, hz, hv, hg1, hg2] <;> rfl) ?_
  refine dops_end ?_
  refine awp_cond (b := false) (by simp [alook, aput, ev]) (awp_skip ?_)
  refine awp_run rfl (by simp only [fwA, ↓reduceIte, Nat.reduceAdd, Nat.reduceMul, Nat.reduceEqDiff, Nat.reduceLT, Nat.reduceLeDiff, reduceCtorEq] <;> rfl) ?_
  exact ⟨i + 1, by omega, by omega, by simp only [fwA, ↓reduceIte, Nat.reduceAdd, Nat.reduceMul, Nat.reduceEqDiff, Nat.reduceLT, Nat.reduceLeDiff, reduceCtorEq, List.map_cons, List.map_nil, hwi], rfl, rfl⟩
def dbl (l : List Pr) : List Pr := (l.reverse.map fun p => [p, p]).flatten
theorem dbl_snoc (l : List Pr) (x : Pr) : dbl (l ++ [x]) = [x, x] ++ dbl l := by simp [dbl, List.reverse_append]
theorem dbl_mem (l : List Pr) (p : Pr) : p ∈ l ↔ p ∈ dbl l := by
  unfold dbl
  rw [List.mem_flatten]
  constructor
  · intro h; exact ⟨[p, p], List.mem_map.2 ⟨p, List.mem_reverse.2 h, rfl⟩, by simp⟩
  · rintro ⟨_, h, hp⟩
    obtain ⟨q, hq, rfl⟩ := List.mem_map.1 h
    have : p = q := by simpa using hp
    subst this
    exact List.mem_reverse.1 hq
theorem dbl2 : ∀ r : List Pr, ((r.map fun p => [p, p]).flatten).length = 2 * r.length
  | [] => rfl
  | x :: r => by simp only [List.map_cons, List.flatten_cons, List.length_append, List.length_cons, List.length_nil, dbl2 r]; omega
theorem dbl_len (l : List Pr) : (dbl l).length = 2 * l.length := by unfold dbl; rw [dbl2, List.length_reverse]
set_option maxHeartbeats 8000000 in
/- chancel/chancellaw11.SolveOrder -/
theorem c6 (Γ : Nat → PV) (hΓ : Tab64 Γ) (k : Int) (hk0 : 0 ≤ k) (c : List Pr) (ho : OkP c) : Gives Tryd.prog Γ 6 [.int .u8 k, .vec (c.map Pr.enc) false] (.bool true) := by
  have h8 := c8 Γ hΓ
  have h9 := c9 Γ
  obtain ⟨j, ns, us, ej, hget, hla, hR, hw⟩ := lats_at hk0
  obtain ⟨r1, r2, _, _, r5⟩ := right_spec hR
  have rp := r5.pos
  have hn : 0 < ns.length := by omega
  have h10 := c10 Γ ns us hn c ho
  have ho' := ptsV_ok (c := c) hn ho
  have hl' := ptsV_len ns.length c
  have hkn := ptsV_known (c := c) hR ho
  have hvr := fun x => ptsV_vars (x := x) hR ho
  refine fn_of_awp Tryd.func6 rfl (by simp [Tryd.f6]) rfl fun H => ?_
  refine awp_bd fun hbd => ?_
  refine awp_seq ?_
  refine awp_run rfl (by simp only [fwA, ↓reduceIte, Nat.reduceAdd, Nat.reduceMul, Nat.reduceEqDiff, Nat.reduceLT, Nat.reduceLeDiff, reduceCtorEq, bitfw, List.length_map, List.getElem?_map, Option.map_some, Int.natCast_nonneg, Int.toNat_natCast, decide_true, decide_false, Bool.and_true, Bool.and_self, Bool.not_true, Bool.not_false, Bool.false_and, Bool.true_and, Bool.or_false, Bool.false_or, el22, el23, el25, el26, el29, el32, el47, el79, el121, fl28_0, fl28_1, fl37_0, fl37_1, fl43_0, fl43_1, pl28, pl37, pl43, ti3, ti4, ti5, ti9, ti22, ti25, ti26, ti28, ti32, ti35, ti37, ti43, ti53, ti58, ti116, ti121, un3, un4, un5, un9, un22, un23, un25, un26, un29, un32, un35, un47, un53, un55, un58, un59, un79, un90, un113, un116, S1_fw, U1_fw, I1_fw, Pr.fw, So.fw, pl57, ti57, fl57_0, fl57_1, ti55, ti81, ne_eq, not_false_eq_true, not_true_eq_false, and_self, and_true, true_and, Int.reduceEq, Int.reduceNeg, Int.reduceToNat, Int.reduceLE, Int.reduceLT] <;> rfl) ?_
  refine awp_seq ?_
  refine awp_region rfl ?_
  refine aops_fn rfl rfl rfl en8 h8 ?_
  refine aops_run 1 (by simp only [fwA, ↓reduceIte, Nat.reduceAdd, Nat.reduceMul, Nat.reduceEqDiff, Nat.reduceLT, Nat.reduceLeDiff, reduceCtorEq, bitfw, List.length_map, List.getElem?_map, Option.map_some, Int.natCast_nonneg, Int.toNat_natCast, decide_true, decide_false, Bool.and_true, Bool.and_self, Bool.not_true, Bool.not_false, Bool.false_and, Bool.true_and, Bool.or_false, Bool.false_or, el22, el23, el25, el26, el29, el32, el47, el79, el121, fl28_0, fl28_1, fl37_0, fl37_1, fl43_0, fl43_1, pl28, pl37, pl43, ti3, ti4, ti5, ti9, ti22, ti25, ti26, ti28, ti32, ti35, ti37, ti43, ti53, ti58, ti116, ti121, un3, un4, un5, un9, un22, un23, un25, un26, un29, un32, un35, un47, un53, un55, un58, un59, un79, un90, un113, un116, S1_fw, U1_fw, I1_fw, Pr.fw, So.fw, pl57, ti57, fl57_0, fl57_1, ti55, ti81, ne_eq, not_false_eq_true, not_true_eq_false, and_self, and_true, true_and, Int.reduceEq, Int.reduceNeg, Int.reduceToNat, Int.reduceLE, Int.reduceLT] <;> rfl) ?_
  refine aops_end ?_
  refine awp_seq ?_
  refine awp_seq ?_
  refine awp_run rfl (by simp only [fwA, ↓reduceIte, Nat.reduceAdd, Nat.reduceMul, Nat.reduceEqDiff, Nat.reduceLT, Nat.reduceLeDiff, reduceCtorEq] <;> rfl) ?_
  refine awp_cond (b := false) (by simp [alook, aput, ev]) (awp_skip ?_)
  refine awp_seq ?_
  refine awp_region rfl ?_
  refine aops_fn rfl rfl rfl en9 h9 ?_
  refine aops_run 6 (by simp only [fwA, ↓reduceIte, Nat.reduceAdd, Nat.reduceMul, Nat.reduceEqDiff, Nat.reduceLT, Nat.reduceLeDiff, reduceCtorEq, bitfw, List.length_map, List.getElem?_map, Option.map_some, Int.natCast_nonneg, Int.toNat_natCast, decide_true, decide_false, Bool.and_true, Bool.and_self, Bool.not_true, Bool.not_false, Bool.false_and, Bool.true_and, Bool.or_false, Bool.false_or, el22, el23, el25, el26, el29, el32, el47, el79, el121, fl28_0, fl28_1, fl37_0, fl37_1, fl43_0, fl43_1, pl28, pl37, pl43, ti3, ti4, ti5, ti9, ti22, ti25, ti26, ti28, ti32, ti35, ti37, ti43, ti53, ti58, ti116, ti121, un3, un4, un5, un9, un22, un23, un25, un26, un29, un32, un35, un47, un53, un55, un58, un59, un79, un90, un113, un116, S1_fw, U1_fw, I1_fw, Pr.fw, So.fw, pl57, ti57, fl57_0, fl57_1, ti55, ti81, ne_eq, not_false_eq_true, not_true_eq_false, and_self, and_true, true_and, Int.reduceEq, Int.reduceNeg, Int.reduceToNat, Int.reduceLE, Int.reduceLT, ej, hget, hla] <;> rfl) ?_
  refine aops_end ?_
  refine awp_seq ?_
  refine awp_region rfl ?_
  refine aops_run 2 (by simp only [fwA, ↓reduceIte, Nat.reduceAdd, Nat.reduceMul, Nat.reduceEqDiff, Nat.reduceLT, Nat.reduceLeDiff, reduceCtorEq, bitfw, List.length_map, List.getElem?_map, Option.map_some, Int.natCast_nonneg, Int.toNat_natCast, decide_true, decide_false, Bool.and_true, Bool.and_self, Bool.not_true, Bool.not_false, Bool.false_and, Bool.true_and, Bool.or_false, Bool.false_or, el22, el23, el25, el26, el29, el32, el47, el79, el121, fl28_0, fl28_1, fl37_0, fl37_1, fl43_0, fl43_1, pl28, pl37, pl43, ti3, ti4, ti5, ti9, ti22, ti25, ti26, ti28, ti32, ti35, ti37, ti43, ti53, ti58, ti116, ti121, un3, un4, un5, un9, un22, un23, un25, un26, un29, un32, un35, un47, un53, un55, un58, un59, un79, un90, un113, un116, S1_fw, U1_fw, I1_fw, Pr.fw, So.fw, pl57, ti57, fl57_0, fl57_1, ti55, ti81, ne_eq, not_false_eq_true, not_true_eq_false, and_self, and_true, true_and, Int.reduceEq, Int.reduceNeg, Int.reduceToNat, Int.reduceLE, Int.reduceLT] <;> rfl) ?_
  refine aops_fn rfl rfl rfl en10 h10 ?_
  refine aops_run 1 (by simp only [fwA, ↓reduceIte, Nat.reduceAdd, Nat.reduceMul, Nat.reduceEqDiff, Nat.reduceLT, Nat.reduceLeDiff, reduceCtorEq, bitfw, List.length_map, List.getElem?_map, Option.map_some, Int.natCast_nonneg, Int.toNat_natCast, decide_true, decide_false, Bool.and_true, Bool.and_self, Bool.not_true, Bool.not_false, Bool.false_and, Bool.true_and, Bool.or_false, Bool.false_or, el22, el23, el25, el26, el29, el32, el47, el79, el121, fl28_0, fl28_1, fl37_0, fl37_1, fl43_0, fl43_1, pl28, pl37, pl43, ti3, ti4, ti5, ti9, ti22, ti25, ti26, ti28, ti32, ti35, ti37, ti43, ti53, ti58, ti116, ti121, un3, un4, un5, un9, un22, un23, un25, un26, un29, un32, un35, un47, un53, un55, un58, un59, un79, un90, un113, un116, S1_fw, U1_fw, I1_fw, Pr.fw, So.fw, pl57, ti57, fl57_0, fl57_1, ti55, ti81, ne_eq, not_false_eq_true, not_true_eq_false, and_self, and_true, true_and, Int.reduceEq, Int.reduceNeg, Int.reduceToNat, Int.reduceLE, Int.reduceLT] <;> rfl) ?_
  refine aops_end ?_
  generalize ptsV ns.length c = d at *
  have h11 := c11 Γ hΓ ns us hw d (by omega) ho'
  have h11b := c11 Γ hΓ ns us hw (dbl d) (by rw [dbl_len]; omega) (fun p hp => ho' p ((dbl_mem d p).2 hp))
  rw [← least_congr (dbl_mem d)] at h11b
  generalize leastV ns us d = X at h11 h11b
  obtain ⟨s, ok⟩ := X
  refine awp_seq ?_
  refine awp_run rfl (by simp only [fwA, ↓reduceIte, Nat.reduceAdd, Nat.reduceMul, Nat.reduceEqDiff, Nat.reduceLT, Nat.reduceLeDiff, reduceCtorEq] <;> rfl) ?_
  refine awp_told (told_le 7 (.vec [] false) ⟨nofun, trivial⟩) ?_
  refine awp_seq ?_
  refine awp_seq ?_
  refine awp_run rfl (by simp only [fwA, ↓reduceIte, Nat.reduceAdd, Nat.reduceMul, Nat.reduceEqDiff, Nat.reduceLT, Nat.reduceLeDiff, reduceCtorEq] <;> rfl) ?_
  refine awp_block ?_
  refine awp_for [1, 5, 6, 7, 8] (fun i : Nat => [.vec (d.map Pr.enc) false, .bool true, .ptr H.length 0, .vec ((dbl (d.take i)).map Pr.enc) false, .int .i64 (i : Int)]) (fun _ => H ++ [.box [.vec (ns.map S1) false, .vec (us.map U1) false]]) (fun i => d.length - i) (fun i => i ≤ d.length) 0 rfl rfl (Nat.zero_le _) fun i hi => ?_
  refine awp_seq ?_
  refine awp_seq ?_
  by_cases hc : (i : Int) < d.length
  rotate_left
  · refine awp_run rfl (by simp only [fwA, ↓reduceIte, Nat.reduceAdd, Nat.reduceMul, Nat.reduceEqDiff, Nat.reduceLT, Nat.reduceLeDiff, reduceCtorEq, bitfw, List.length_map, List.getElem?_map, Option.map_some, Int.natCast_nonneg, Int.toNat_natCast, decide_true, decide_false, Bool.and_true, Bool.and_self, Bool.not_true, Bool.not_false, Bool.false_and, Bool.true_and, Bool.or_false, Bool.false_or, el22, el23, el25, el26, el29, el32, el47, el79, el121, fl28_0, fl28_1, fl37_0, fl37_1, fl43_0, fl43_1, pl28, pl37, pl43, ti3, ti4, ti5, ti9, ti22, ti25, ti26, ti28, ti32, ti35, ti37, ti43, ti53, ti58, ti116, ti121, un3, un4, un5, un9, un22, un23, un25, un26, un29, un32, un35, un47, un53, un55, un58, un59, un79, un90, un113, un116, S1_fw, U1_fw, I1_fw, Pr.fw, So.fw, pl57, ti57, fl57_0, fl57_1, ti55, ti81, ne_eq, not_false_eq_true, not_true_eq_false, and_self, and_true, true_and, Int.reduceEq, Int.reduceNeg, Int.reduceToNat, Int.reduceLE, Int.reduceLT, hc] <;> rfl) ?_
    refine awp_cond (b := false) (by simp [alook, aput, ev]) ?_
    refine awp_exit ?_
    rw [show d.take i = d from List.take_of_length_le (by omega)]
    refine awp_seq ?_
    refine awp_region rfl ?_
    refine aops_run 2 (by simp only [fwA, ↓reduceIte, Nat.reduceAdd, Nat.reduceMul, Nat.reduceEqDiff, Nat.reduceLT, Nat.reduceLeDiff, reduceCtorEq, bitfw, List.length_map, List.getElem?_map, Option.map_some, Int.natCast_nonneg, Int.toNat_natCast, decide_true, decide_false, Bool.and_true, Bool.and_self, Bool.not_true, Bool.not_false, Bool.false_and, Bool.true_and, Bool.or_false, Bool.false_or, el22, el23, el25, el26, el29, el32, el47, el79, el121, fl28_0, fl28_1, fl37_0, fl37_1, fl43_0, fl43_1, pl28, pl37, pl43, ti3, ti4, ti5, ti9, ti22, ti25, ti26, ti28, ti32, ti35, ti37, ti43, ti53, ti58, ti116, ti121, un3, un4, un5, un9, un22, un23, un25, un26, un29, un32, un35, un47, un53, un55, un58, un59, un79, un90, un113, un116, S1_fw, U1_fw, I1_fw, Pr.fw, So.fw, pl57, ti57, fl57_0, fl57_1, ti55, ti81, ne_eq, not_false_eq_true, not_true_eq_false, and_self, and_true, true_and, Int.reduceEq, Int.reduceNeg, Int.reduceToNat, Int.reduceLE, Int.reduceLT, leastEnc] <;> rfl) ?_
    refine aops_fn rfl rfl rfl en11 h11 ?_
    refine aops_run 5 (by simp only [fwA, ↓reduceIte, Nat.reduceAdd, Nat.reduceMul, Nat.reduceEqDiff, Nat.reduceLT, Nat.reduceLeDiff, reduceCtorEq, bitfw, List.length_map, List.getElem?_map, Option.map_some, Int.natCast_nonneg, Int.toNat_natCast, decide_true, decide_false, Bool.and_true, Bool.and_self, Bool.not_true, Bool.not_false, Bool.false_and, Bool.true_and, Bool.or_false, Bool.false_or, el22, el23, el25, el26, el29, el32, el47, el79, el121, fl28_0, fl28_1, fl37_0, fl37_1, fl43_0, fl43_1, pl28, pl37, pl43, ti3, ti4, ti5, ti9, ti22, ti25, ti26, ti28, ti32, ti35, ti37, ti43, ti53, ti58, ti116, ti121, un3, un4, un5, un9, un22, un23, un25, un26, un29, un32, un35, un47, un53, un55, un58, un59, un79, un90, un113, un116, S1_fw, U1_fw, I1_fw, Pr.fw, So.fw, pl57, ti57, fl57_0, fl57_1, ti55, ti81, ne_eq, not_false_eq_true, not_true_eq_false, and_self, and_true, true_and, Int.reduceEq, Int.reduceNeg, Int.reduceToNat, Int.reduceLE, Int.reduceLT, leastEnc] <;> rfl) ?_
    refine aops_end ?_
    refine awp_seq ?_
    refine awp_region rfl ?_
    refine aops_run 2 (by simp only [fwA, ↓reduceIte, Nat.reduceAdd, Nat.reduceMul, Nat.reduceEqDiff, Nat.reduceLT, Nat.reduceLeDiff, reduceCtorEq, bitfw, List.length_map, List.getElem?_map, Option.map_some, Int.natCast_nonneg, Int.toNat_natCast, decide_true, decide_false, Bool.and_true, Bool.and_self, Bool.not_true, Bool.not_false, Bool.false_and, Bool.true_and, Bool.or_false, Bool.false_or, el22, el23, el25, el26, el29, el32, el47, el79, el121, fl28_0, fl28_1, fl37_0, fl37_1, fl43_0, fl43_1, pl28, pl37, pl43, ti3, ti4, ti5, ti9, ti22, ti25, ti26, ti28, ti32, ti35, ti37, ti43, ti53, ti58, ti116, ti121, un3, un4, un5, un9, un22, un23, un25, un26, un29, un32, un35, un47, un53, un55, un58, un59, un79, un90, un113, un116, S1_fw, U1_fw, I1_fw, Pr.fw, So.fw, pl57, ti57, fl57_0, fl57_1, ti55, ti81, ne_eq, not_false_eq_true, not_true_eq_false, and_self, and_true, true_and, Int.reduceEq, Int.reduceNeg, Int.reduceToNat, Int.reduceLE, Int.reduceLT, leastEnc] <;> rfl) ?_
    refine aops_fn rfl rfl rfl en11 h11b ?_
    refine aops_run 5 (by simp only [fwA, ↓reduceIte, Nat.reduceAdd, Nat.reduceMul, Nat.reduceEqDiff, Nat.reduceLT, Nat.reduceLeDiff, reduceCtorEq, bitfw, List.length_map, List.getElem?_map, Option.map_some, Int.natCast_nonneg, Int.toNat_natCast, decide_true, decide_false, Bool.and_true, Bool.and_self, Bool.not_true, Bool.not_false, Bool.false_and, Bool.true_and, Bool.or_false, Bool.false_or, el22, el23, el25, el26, el29, el32, el47, el79, el121, fl28_0, fl28_1, fl37_0, fl37_1, fl43_0, fl43_1, pl28, pl37, pl43, ti3, ti4, ti5, ti9, ti22, ti25, ti26, ti28, ti32, ti35, ti37, ti43, ti53, ti58, ti116, ti121, un3, un4, un5, un9, un22, un23, un25, un26, un29, un32, un35, un47, un53, un55, un58, un59, un79, un90, un113, un116, S1_fw, U1_fw, I1_fw, Pr.fw, So.fw, pl57, ti57, fl57_0, fl57_1, ti55, ti81, ne_eq, not_false_eq_true, not_true_eq_false, and_self, and_true, true_and, Int.reduceEq, Int.reduceNeg, Int.reduceToNat, Int.reduceLE, Int.reduceLT, leastEnc] <;> rfl) ?_
    refine aops_end ?_
    refine awp_seq ?_
    refine awp_seq ?_
    refine awp_run rfl (by simp only [fwA, ↓reduceIte, Nat.reduceAdd, Nat.reduceMul, Nat.reduceEqDiff, Nat.reduceLT, Nat.reduceLeDiff, reduceCtorEq, bitfw, List.length_map, List.getElem?_map, Option.map_some, Int.natCast_nonneg, Int.toNat_natCast, decide_true, decide_false, Bool.and_true, Bool.and_self, Bool.not_true, Bool.not_false, Bool.false_and, Bool.true_and, Bool.or_false, Bool.false_or, el22, el23, el25, el26, el29, el32, el47, el79, el121, fl28_0, fl28_1, fl37_0, fl37_1, fl43_0, fl43_1, pl28, pl37, pl43, ti3, ti4, ti5, ti9, ti22, ti25, ti26, ti28, ti32, ti35, ti37, ti43, ti53, ti58, ti116, ti121, un3, un4, un5, un9, un22, un23, un25, un26, un29, un32, un35, un47, un53, un55, un58, un59, un79, un90, un113, un116, S1_fw, U1_fw, I1_fw, Pr.fw, So.fw, pl57, ti57, fl57_0, fl57_1, ti55, ti81, ne_eq, not_false_eq_true, not_true_eq_false, and_self, and_true, true_and, Int.reduceEq, Int.reduceNeg, Int.reduceToNat, Int.reduceLE, Int.reduceLT, beq_self_eq_true] <;> rfl) ?_
    refine awp_cond (b := false) (by simp [alook, aput, ev]) (awp_skip ?_)
    refine awp_seq ?_
    refine awp_seq ?_
    refine awp_run rfl (by simp only [fwA, ↓reduceIte, Nat.reduceAdd, Nat.reduceMul, Nat.reduceEqDiff, Nat.reduceLT, Nat.reduceLeDiff, reduceCtorEq] <;> rfl) ?_
    refine awp_block ?_
    refine awp_for [5, 9, 11, 13] (fun i : Nat => [.bool true, .vec (s.map So.enc) false, .vec (s.map So.enc) false, .int .i64 (i : Int)]) (fun _ => H ++ [.box [.vec (ns.map S1) false, .vec (us.map U1) false]]) (fun i => s.length - i) (fun i => i ≤ s.length) 0 rfl rfl (Nat.zero_le _) fun i hi => ?_
    refine awp_vlen 9 rfl fun hsl => ?_
    rw [List.length_map] at hsl
    refine awp_seq ?_
    refine awp_seq ?_
    by_cases hc : (i : Int) < s.length
    rotate_left
    · refine awp_run rfl (by simp only [fwA, ↓reduceIte, Nat.reduceAdd, Nat.reduceMul, Nat.reduceEqDiff, Nat.reduceLT, Nat.reduceLeDiff, reduceCtorEq, bitfw, List.length_map, List.getElem?_map, Option.map_some, Int.natCast_nonneg, Int.toNat_natCast, decide_true, decide_false, Bool.and_true, Bool.and_self, Bool.not_true, Bool.not_false, Bool.false_and, Bool.true_and, Bool.or_false, Bool.false_or, el22, el23, el25, el26, el29, el32, el47, el79, el121, fl28_0, fl28_1, fl37_0, fl37_1, fl43_0, fl43_1, pl28, pl37, pl43, ti3, ti4, ti5, ti9, ti22, ti25, ti26, ti28, ti32, ti35, ti37, ti43, ti53, ti58, ti116, ti121, un3, un4, un5, un9, un22, un23, un25, un26, un29, un32, un35, un47, un53, un55, un58, un59, un79, un90, un113, un116, S1_fw, U1_fw, I1_fw, Pr.fw, So.fw, pl57, ti57, fl57_0, fl57_1, ti55, ti81, ne_eq, not_false_eq_true, not_true_eq_false, and_self, and_true, true_and, Int.reduceEq, Int.reduceNeg, Int.reduceToNat, Int.reduceLE, Int.reduceLT, hc] <;> rfl) ?_
      refine awp_cond (b := false) (by simp [alook, aput, ev]) ?_
      refine awp_exit ?_
      refine awp_seq ?_
      refine awp_run rfl (by simp only [fwA, ↓reduceIte, Nat.reduceAdd, Nat.reduceMul, Nat.reduceEqDiff, Nat.reduceLT, Nat.reduceLeDiff, reduceCtorEq] <;> rfl) ?_
      refine awp_ret ?_
      exact gives_end (.inl rfl) _ rfl
    have hi' : i < s.length := by omega
    obtain ⟨z, hz⟩ : ∃ z, s[i]? = some z := ⟨_, List.getElem?_eq_getElem hi'⟩
    have hwi : IntKind.i64.wrap ((i : Int) + 1) = ((i + 1 : Nat) : Int) := wrapS i (by omega)
    refine awp_run rfl (by simp only [fwA, ↓reduceIte, Nat.reduceAdd, Nat.reduceMul, Nat.reduceEqDiff, Nat.reduceLT, Nat.reduceLeDiff, reduceCtorEq, bitfw, List.length_map, List.getElem?_map, Option.map_some, Int.natCast_nonneg, Int.toNat_natCast, decide_true, decide_false, Bool.and_true, Bool.and_self, Bool.not_true, Bool.not_false, Bool.false_and, Bool.true_and, Bool.or_false, Bool.false_or, el22, el23, el25, el26, el29, el32, el47, el79, el121, fl28_0, fl28_1, fl37_0, fl37_1, fl43_0, fl43_1, pl28, pl37, pl43, ti3, ti4, ti5, ti9, ti22, ti25, ti26, ti28, ti32, ti35, ti37, ti43, ti53, ti58, ti116, ti121, un3, un4, un5, un9, un22, un23, un25, un26, un29, un32, un35, un47, un53, un55, un58, un59, un79, un90, un113, un116, S1_fw, U1_fw, I1_fw, Pr.fw, So.fw, pl57, ti57, fl57_0, fl57_1, ti55, ti81, ne_eq, not_false_eq_true, not_true_eq_false, and_self, and_true, true_and, Int.reduceEq, Int.reduceNeg, Int.reduceToNat, Int.reduceLE, Int.reduceLT, hc] <;> rfl) ?_
    refine awp_cond (b := true) (by simp [alook, aput, ev]) ?_
    refine awp_skip ?_
    refine awp_seq ?_
    refine awp_block ?_
    refine awp_seq ?_
    refine awp_drun [0, 0, 0, 1, 0, 0, 0, 1, 0] [0, 0, 3, 7, 0, 0, 48, 112, 255] mixed rfl (by kernel_rfl) (by simp only [fwA, ↓reduceIte, Nat.reduceAdd, Nat.reduceMul, Nat.reduceEqDiff, Nat.reduceLT, Nat.reduceLeDiff, reduceCtorEq, bitfw, List.length_map, List.getElem?_map, Option.map_some, Int.natCast_nonneg, Int.toNat_natCast, decide_true, decide_false, Bool.and_true, Bool.and_self, Bool.not_true, Bool.not_false, Bool.false_and, Bool.true_and, Bool.or_false, Bool.false_or, el22, el23, el25, el26, el29, el32, el47, el79, el121, fl28_0, fl28_1, fl37_0, fl37_1, fl43_0, fl43_1, pl28, pl37, pl43, ti3, ti4, ti5, ti9, ti22, ti25, ti26, ti28, ti32, ti35, ti37, ti43, ti53, ti58, ti116, ti121, un3, un4, un5, un9, un22, un23, un25, un26, un29, un32, un35, un47, un53, un55, un58, un59, un79, un90, un113, un116, S1_fw, U1_fw, I1_fw, Pr.fw, So.fw, pl57, ti57, fl57_0, fl57_1, ti55, ti81, ne_eq, not_false_eq_true, not_true_eq_false, and_self, and_true, true_and, Int.reduceEq, Int.reduceNeg, Int.reduceToNat, Int.reduceLE, Int.reduceLT, hz, eq37] <;> rfl) ?_
    refine awp_cond (b := false) (by simp [alook, aput, ev]) (awp_skip ?_)
    refine awp_run rfl (by simp only [fwA, ↓reduceIte, Nat.reduceAdd, Nat.reduceMul, Nat.reduceEqDiff, Nat.reduceLT, Nat.reduceLeDiff, reduceCtorEq] <;> rfl) ?_
    exact ⟨i + 1, by omega, by omega, by simp only [fwA, ↓reduceIte, Nat.reduceAdd, Nat.reduceMul, Nat.reduceEqDiff, Nat.reduceLT, Nat.reduceLeDiff, reduceCtorEq, List.map_cons, List.map_nil, hwi], rfl, rfl⟩
  have hi' : i < d.length := by omega
  obtain ⟨z, hz⟩ : ∃ z, d[i]? = some z := ⟨_, List.getElem?_eq_getElem hi'⟩
  have hts := take_snoc hz
  have hwi : IntKind.i64.wrap ((i : Int) + 1) = ((i + 1 : Nat) : Int) := wrapS i (by omega)
  have hln : (dbl (d.take i)).length ≤ 60 := by rw [dbl_len, List.length_take]; omega
  refine awp_run rfl (by simp only [fwA, ↓reduceIte, Nat.reduceAdd, Nat.reduceMul, Nat.reduceEqDiff, Nat.reduceLT, Nat.reduceLeDiff, reduceCtorEq, bitfw, List.length_map, List.getElem?_map, Option.map_some, Int.natCast_nonneg, Int.toNat_natCast, decide_true, decide_false, Bool.and_true, Bool.and_self, Bool.not_true, Bool.not_false, Bool.false_and, Bool.true_and, Bool.or_false, Bool.false_or, el22, el23, el25, el26, el29, el32, el47, el79, el121, fl28_0, fl28_1, fl37_0, fl37_1, fl43_0, fl43_1, pl28, pl37, pl43, ti3, ti4, ti5, ti9, ti22, ti25, ti26, ti28, ti32, ti35, ti37, ti43, ti53, ti58, ti116, ti121, un3, un4, un5, un9, un22, un23, un25, un26, un29, un32, un35, un47, un53, un55, un58, un59, un79, un90, un113, un116, S1_fw, U1_fw, I1_fw, Pr.fw, So.fw, pl57, ti57, fl57_0, fl57_1, ti55, ti81, ne_eq, not_false_eq_true, not_true_eq_false, and_self, and_true, true_and, Int.reduceEq, Int.reduceNeg, Int.reduceToNat, Int.reduceLE, Int.reduceLT, hc] <;> rfl) ?_
  refine awp_cond (b := true) (by simp [alook, aput, ev]) ?_
  refine awp_skip ?_
  refine awp_seq ?_
  refine awp_block ?_
  refine awp_drawn [0, 0, 0, 1, 0, 0, 0, 1, 0, 0, 0, 0] [0, 0, 3, 7, 0, 0, 48, 112, 255, 0, 1023, 2047] mixed rfl (by kernel_rfl) ?_
  refine dops_run 10 (by simp only [fwA, ↓reduceIte, Nat.reduceAdd, Nat.reduceMul, Nat.reduceEqDiff, Nat.reduceLT, Nat.reduceLeDiff, reduceCtorEq, bitfw, List.length_map, List.getElem?_map, Option.map_some, Int.natCast_nonneg, Int.toNat_natCast, decide_true, decide_false, Bool.and_true, Bool.and_self, Bool.not_true, Bool.not_false, Bool.false_and, Bool.true_and, Bool.or_false, Bool.false_or, el22, el23, el25, el26, el29, el32, el47, el79, el121, fl28_0, fl28_1, fl37_0, fl37_1, fl43_0, fl43_1, pl28, pl37, pl43, ti3, ti4, ti5, ti9, ti22, ti25, ti26, ti28, ti32, ti35, ti37, ti43, ti53, ti58, ti116, ti121, un3, un4, un5, un9, un22, un23, un25, un26, un29, un32, un35, un47, un53, un55, un58, un59, un79, un90, un113, un116, S1_fw, U1_fw, I1_fw, Pr.fw, So.fw, pl57, ti57, fl57_0, fl57_1, ti55, ti81, ne_eq, not_false_eq_true, not_true_eq_false, and_self, and_true, true_and, Int.reduceEq, Int.reduceNeg, Int.reduceToNat, Int.reduceLE, Int.reduceLT, hz] <;> rfl) ?_
  refine dops_appendVV rfl rfl rfl un22 ti43 un22 rfl (fun e he => by simp only [List.mem_cons, List.not_mem_nil, or_false] at he; rcases he with rfl | rfl <;> rfl) rfl (fun e he => by obtain ⟨q, _, rfl⟩ := List.mem_map.1 he; rfl) (by simp only [List.length_map, List.length_cons, List.length_nil]; omega) (by simp only [List.length_map, List.length_cons, List.length_nil]; omega) ?_
  refine dops_run 1 (by simp only [fwA, ↓reduceIte, Nat.reduceAdd, Nat.reduceMul, Nat.reduceEqDiff, Nat.reduceLT, Nat.reduceLeDiff, reduceCtorEq, bitfw, List.length_map, List.getElem?_map, Option.map_some, Int.natCast_nonneg, Int.toNat_natCast, decide_true, decide_false, Bool.and_true, Bool.and_self, Bool.not_true, Bool.not_false, Bool.false_and, Bool.true_and, Bool.or_false, Bool.false_or, el22, el23, el25, el26, el29, el32, el47, el79, el121, fl28_0, fl28_1, fl37_0, fl37_1, fl43_0, fl43_1, pl28, pl37, pl43, ti3, ti4, ti5, ti9, ti22, ti25, ti26, ti28, ti32, ti35, ti37, ti43, ti53, ti58, ti116, ti121, un3, un4, un5, un9, un22, un23, un25, un26, un29, un32, un35, un47, un53, un55, un58, un59, un79, un90, un113, un116, S1_fw, U1_fw, I1_fw, Pr.fw, So.fw, pl57, ti57, fl57_0, fl57_1, ti55, ti81, ne_eq, not_false_eq_true, not_true_eq_false, and_self, and_true, true_and, Int.reduceEq, Int.reduceNeg, Int.reduceToNat, Int.reduceLE, Int.reduceLT, hz] <;> rfl) ?_
  refine dops_end ?_
  refine awp_run rfl (by simp only [fwA, ↓reduceIte, Nat.reduceAdd, Nat.reduceMul, Nat.reduceEqDiff, Nat.reduceLT, Nat.reduceLeDiff, reduceCtorEq] <;> rfl) ?_
  exact ⟨i + 1, by omega, by omega, by simp only [fwA, ↓reduceIte, Nat.reduceAdd, Nat.reduceMul, Nat.reduceEqDiff, Nat.reduceLT, Nat.reduceLeDiff, reduceCtorEq, List.map_cons, List.map_nil, hwi, hts, dbl_snoc, List.cons_append, List.nil_append]; rfl, rfl, rfl⟩
def B8 (n : Int) : List PV := [.int .u8 n]
theorem B8_fw : (∀ n, (B8 n).length = 1) ∧ (∀ n, (B8 n)[0]? = some (.int .u8 n)) ∧ (∀ (m : Nat) n, PV.bdL m (B8 n) = true) := ⟨fun _ => rfl, fun _ => rfl, fun _ _ => rfl⟩
/-- The point that bytes say for a variable. -/
def pz (n : Nat) (p : List Int) (i : Nat) : Int := match p[i]? with | some x => x.tmod n | none => 0
def tS (n : Nat) (p : List Int) (m : Nat) : List So := (List.range m).map fun i : Nat => (⟨(i : Int), pz n p i⟩ : So)
theorem tS_len (n : Nat) (p : List Int) (m : Nat) : (tS n p m).length = m := by simp [tS]
theorem tS_snoc (n : Nat) (p : List Int) (m : Nat) : tS n p m ++ [⟨(m : Int), pz n p m⟩] = tS n p (m + 1) := by simp [tS, List.range_succ]
set_option maxHeartbeats 16000000 in
/- chancel/chancellaw11.SolveLeast -/
theorem c3 (Γ : Nat → PV) (hΓ : Tab64 Γ) (k : Int) (hk0 : 0 ≤ k) (c : List Pr) (ho : OkP c) (p : List Int) (hp : ∀ x ∈ p, 0 ≤ x ∧ x < 256) : Gives Tryd.prog Γ 3 [.int .u8 k, .vec (c.map Pr.enc) false, .vec (p.map B8) false] (.bool true) := by
  have h8 := c8 Γ hΓ
  have h9 := c9 Γ
  obtain ⟨j, ns, us, ej, hget, hla, hR, hw⟩ := lats_at hk0
  obtain ⟨r1, r2, _, _, r5⟩ := right_spec hR
  have rp := r5.pos
  have hn : 0 < ns.length := by omega
  have h10 := c10 Γ ns us hn c ho
  have ho' := ptsV_ok (c := c) hn ho
  have hl' := ptsV_len ns.length c
  have hkn := ptsV_known (c := c) hR ho
  have hvr := fun x => ptsV_vars (x := x) hR ho
  refine fn_of_awp Tryd.func3 rfl (by simp [Tryd.f3]) rfl fun H => ?_
  refine awp_bd fun hbd => ?_
  refine awp_seq ?_
  refine awp_run rfl (by simp only [fwA, ↓reduceIte, Nat.reduceAdd, Nat.reduceMul, Nat.reduceEqDiff, Nat.reduceLT, Nat.reduceLeDiff, reduceCtorEq, bitfw, List.length_map, List.getElem?_map, Option.map_some, Int.natCast_nonneg, Int.toNat_natCast, decide_true, decide_false, Bool.and_true, Bool.and_self, Bool.not_true, Bool.not_false, Bool.false_and, Bool.true_and, Bool.or_false, Bool.false_or, el22, el23, el25, el26, el29, el32, el47, el79, el121, fl28_0, fl28_1, fl37_0, fl37_1, fl43_0, fl43_1, pl28, pl37, pl43, ti3, ti4, ti5, ti9, ti22, ti25, ti26, ti28, ti32, ti35, ti37, ti43, ti53, ti58, ti116, ti121, un3, un4, un5, un9, un22, un23, un25, un26, un29, un32, un35, un47, un53, un55, un58, un59, un79, un90, un113, un116, S1_fw, U1_fw, I1_fw, Pr.fw, So.fw, pl57, ti57, fl57_0, fl57_1, ti55, ti81, ne_eq, not_false_eq_true, not_true_eq_false, and_self, and_true, true_and, Int.reduceEq, Int.reduceNeg, Int.reduceToNat, Int.reduceLE, Int.reduceLT] <;> rfl) ?_
  refine awp_seq ?_
  refine awp_region rfl ?_
  refine aops_fn rfl rfl rfl en8 h8 ?_
  refine aops_run 1 (by simp only [fwA, ↓reduceIte, Nat.reduceAdd, Nat.reduceMul, Nat.reduceEqDiff, Nat.reduceLT, Nat.reduceLeDiff, reduceCtorEq, bitfw, List.length_map, List.getElem?_map, Option.map_some, Int.natCast_nonneg, Int.toNat_natCast, decide_true, decide_false, Bool.and_true, Bool.and_self, Bool.not_true, Bool.not_false, Bool.false_and, Bool.true_and, Bool.or_false, Bool.false_or, el22, el23, el25, el26, el29, el32, el47, el79, el121, fl28_0, fl28_1, fl37_0, fl37_1, fl43_0, fl43_1, pl28, pl37, pl43, ti3, ti4, ti5, ti9, ti22, ti25, ti26, ti28, ti32, ti35, ti37, ti43, ti53, ti58, ti116, ti121, un3, un4, un5, un9, un22, un23, un25, un26, un29, un32, un35, un47, un53, un55, un58, un59, un79, un90, un113, un116, S1_fw, U1_fw, I1_fw, Pr.fw, So.fw, pl57, ti57, fl57_0, fl57_1, ti55, ti81, ne_eq, not_false_eq_true, not_true_eq_false, and_self, and_true, true_and, Int.reduceEq, Int.reduceNeg, Int.reduceToNat, Int.reduceLE, Int.reduceLT] <;> rfl) ?_
  refine aops_end ?_
  refine awp_seq ?_
  refine awp_seq ?_
  refine awp_run rfl (by simp only [fwA, ↓reduceIte, Nat.reduceAdd, Nat.reduceMul, Nat.reduceEqDiff, Nat.reduceLT, Nat.reduceLeDiff, reduceCtorEq] <;> rfl) ?_
  refine awp_cond (b := false) (by simp [alook, aput, ev]) (awp_skip ?_)
  refine awp_seq ?_
  refine awp_region rfl ?_
  refine aops_fn rfl rfl rfl en9 h9 ?_
  refine aops_run 6 (by simp only [fwA, ↓reduceIte, Nat.reduceAdd, Nat.reduceMul, Nat.reduceEqDiff, Nat.reduceLT, Nat.reduceLeDiff, reduceCtorEq, bitfw, List.length_map, List.getElem?_map, Option.map_some, Int.natCast_nonneg, Int.toNat_natCast, decide_true, decide_false, Bool.and_true, Bool.and_self, Bool.not_true, Bool.not_false, Bool.false_and, Bool.true_and, Bool.or_false, Bool.false_or, el22, el23, el25, el26, el29, el32, el47, el79, el121, fl28_0, fl28_1, fl37_0, fl37_1, fl43_0, fl43_1, pl28, pl37, pl43, ti3, ti4, ti5, ti9, ti22, ti25, ti26, ti28, ti32, ti35, ti37, ti43, ti53, ti58, ti116, ti121, un3, un4, un5, un9, un22, un23, un25, un26, un29, un32, un35, un47, un53, un55, un58, un59, un79, un90, un113, un116, S1_fw, U1_fw, I1_fw, Pr.fw, So.fw, pl57, ti57, fl57_0, fl57_1, ti55, ti81, ne_eq, not_false_eq_true, not_true_eq_false, and_self, and_true, true_and, Int.reduceEq, Int.reduceNeg, Int.reduceToNat, Int.reduceLE, Int.reduceLT, ej, hget, hla] <;> rfl) ?_
  refine aops_end ?_
  refine awp_seq ?_
  refine awp_region rfl ?_
  refine aops_run 2 (by simp only [fwA, ↓reduceIte, Nat.reduceAdd, Nat.reduceMul, Nat.reduceEqDiff, Nat.reduceLT, Nat.reduceLeDiff, reduceCtorEq, bitfw, List.length_map, List.getElem?_map, Option.map_some, Int.natCast_nonneg, Int.toNat_natCast, decide_true, decide_false, Bool.and_true, Bool.and_self, Bool.not_true, Bool.not_false, Bool.false_and, Bool.true_and, Bool.or_false, Bool.false_or, el22, el23, el25, el26, el29, el32, el47, el79, el121, fl28_0, fl28_1, fl37_0, fl37_1, fl43_0, fl43_1, pl28, pl37, pl43, ti3, ti4, ti5, ti9, ti22, ti25, ti26, ti28, ti32, ti35, ti37, ti43, ti53, ti58, ti116, ti121, un3, un4, un5, un9, un22, un23, un25, un26, un29, un32, un35, un47, un53, un55, un58, un59, un79, un90, un113, un116, S1_fw, U1_fw, I1_fw, Pr.fw, So.fw, pl57, ti57, fl57_0, fl57_1, ti55, ti81, ne_eq, not_false_eq_true, not_true_eq_false, and_self, and_true, true_and, Int.reduceEq, Int.reduceNeg, Int.reduceToNat, Int.reduceLE, Int.reduceLT] <;> rfl) ?_
  refine aops_fn rfl rfl rfl en10 h10 ?_
  refine aops_run 1 (by simp only [fwA, ↓reduceIte, Nat.reduceAdd, Nat.reduceMul, Nat.reduceEqDiff, Nat.reduceLT, Nat.reduceLeDiff, reduceCtorEq, bitfw, List.length_map, List.getElem?_map, Option.map_some, Int.natCast_nonneg, Int.toNat_natCast, decide_true, decide_false, Bool.and_true, Bool.and_self, Bool.not_true, Bool.not_false, Bool.false_and, Bool.true_and, Bool.or_false, Bool.false_or, el22, el23, el25, el26, el29, el32, el47, el79, el121, fl28_0, fl28_1, fl37_0, fl37_1, fl43_0, fl43_1, pl28, pl37, pl43, ti3, ti4, ti5, ti9, ti22, ti25, ti26, ti28, ti32, ti35, ti37, ti43, ti53, ti58, ti116, ti121, un3, un4, un5, un9, un22, un23, un25, un26, un29, un32, un35, un47, un53, un55, un58, un59, un79, un90, un113, un116, S1_fw, U1_fw, I1_fw, Pr.fw, So.fw, pl57, ti57, fl57_0, fl57_1, ti55, ti81, ne_eq, not_false_eq_true, not_true_eq_false, and_self, and_true, true_and, Int.reduceEq, Int.reduceNeg, Int.reduceToNat, Int.reduceLE, Int.reduceLT] <;> rfl) ?_
  refine aops_end ?_
  generalize ptsV ns.length c = d at *
  have h11 := c11 Γ hΓ ns us hw d (by omega) ho'
  have hL := leastV_is ns us d
  generalize leastV ns us d = X at h11 hL
  obtain ⟨s, ok⟩ := X
  have h12s := c12 Γ hΓ ns us hw d (by omega) ho' s
  have h12t := c12 Γ hΓ ns us hw d (by omega) ho' (tS ns.length p 10)
  refine awp_seq ?_
  refine awp_region rfl ?_
  refine aops_run 2 (by simp only [fwA, ↓reduceIte, Nat.reduceAdd, Nat.reduceMul, Nat.reduceEqDiff, Nat.reduceLT, Nat.reduceLeDiff, reduceCtorEq, bitfw, List.length_map, List.getElem?_map, Option.map_some, Int.natCast_nonneg, Int.toNat_natCast, decide_true, decide_false, Bool.and_true, Bool.and_self, Bool.not_true, Bool.not_false, Bool.false_and, Bool.true_and, Bool.or_false, Bool.false_or, el22, el23, el25, el26, el29, el32, el47, el79, el121, fl28_0, fl28_1, fl37_0, fl37_1, fl43_0, fl43_1, pl28, pl37, pl43, ti3, ti4, ti5, ti9, ti22, ti25, ti26, ti28, ti32, ti35, ti37, ti43, ti53, ti58, ti116, ti121, un3, un4, un5, un9, un22, un23, un25, un26, un29, un32, un35, un47, un53, un55, un58, un59, un79, un90, un113, un116, S1_fw, U1_fw, I1_fw, Pr.fw, So.fw, pl57, ti57, fl57_0, fl57_1, ti55, ti81, ne_eq, not_false_eq_true, not_true_eq_false, and_self, and_true, true_and, Int.reduceEq, Int.reduceNeg, Int.reduceToNat, Int.reduceLE, Int.reduceLT, leastEnc] <;> rfl) ?_
  refine aops_fn rfl rfl rfl en11 h11 ?_
  refine aops_run 5 (by simp only [fwA, ↓reduceIte, Nat.reduceAdd, Nat.reduceMul, Nat.reduceEqDiff, Nat.reduceLT, Nat.reduceLeDiff, reduceCtorEq, bitfw, List.length_map, List.getElem?_map, Option.map_some, Int.natCast_nonneg, Int.toNat_natCast, decide_true, decide_false, Bool.and_true, Bool.and_self, Bool.not_true, Bool.not_false, Bool.false_and, Bool.true_and, Bool.or_false, Bool.false_or, el22, el23, el25, el26, el29, el32, el47, el79, el121, fl28_0, fl28_1, fl37_0, fl37_1, fl43_0, fl43_1, pl28, pl37, pl43, ti3, ti4, ti5, ti9, ti22, ti25, ti26, ti28, ti32, ti35, ti37, ti43, ti53, ti58, ti116, ti121, un3, un4, un5, un9, un22, un23, un25, un26, un29, un32, un35, un47, un53, un55, un58, un59, un79, un90, un113, un116, S1_fw, U1_fw, I1_fw, Pr.fw, So.fw, pl57, ti57, fl57_0, fl57_1, ti55, ti81, ne_eq, not_false_eq_true, not_true_eq_false, and_self, and_true, true_and, Int.reduceEq, Int.reduceNeg, Int.reduceToNat, Int.reduceLE, Int.reduceLT, leastEnc] <;> rfl) ?_
  refine aops_end ?_
  refine awp_seq ?_
  refine awp_run rfl (by simp only [fwA, ↓reduceIte, Nat.reduceAdd, Nat.reduceMul, Nat.reduceEqDiff, Nat.reduceLT, Nat.reduceLeDiff, reduceCtorEq] <;> rfl) ?_
  refine awp_told (told_adopt 11 2 (by decide) (by simp [alook])) ?_
  refine awp_heap (H' := H ++ [.box [.vec (ns.map S1) false, .vec (us.map U1) false], .row 2 (((tS ns.length p 0).map So.enc).flatten)]) (by simp [tS]) ?_
  refine awp_seq ?_
  refine awp_seq ?_
  refine awp_run rfl (by simp only [fwA, ↓reduceIte, Nat.reduceAdd, Nat.reduceMul, Nat.reduceEqDiff, Nat.reduceLT, Nat.reduceLeDiff, reduceCtorEq] <;> rfl) ?_
  refine awp_block ?_
  refine awp_for [1, 2, 7, 8, 9, 10, 11, 12] (fun i : Nat => [.vec (d.map Pr.enc) false, .vec (p.map B8) false, .bool true, .ptr H.length 0, .vec (s.map So.enc) false, .bool ok, .row (H.length + 1) 0 i 2, .int .i64 (i : Int)]) (fun i => H ++ [.box [.vec (ns.map S1) false, .vec (us.map U1) false], .row 2 (((tS ns.length p i).map So.enc).flatten)]) (fun i => 10 - i) (fun i => i ≤ 10) 0 rfl rfl (Nat.zero_le _) fun i hi => ?_
  refine awp_seq ?_
  refine awp_seq ?_
  by_cases hc : (i : Int) < 10
  rotate_left
  · refine awp_run rfl (by simp only [fwA, ↓reduceIte, Nat.reduceAdd, Nat.reduceMul, Nat.reduceEqDiff, Nat.reduceLT, Nat.reduceLeDiff, reduceCtorEq, bitfw, List.length_map, List.getElem?_map, Option.map_some, Int.natCast_nonneg, Int.toNat_natCast, decide_true, decide_false, Bool.and_true, Bool.and_self, Bool.not_true, Bool.not_false, Bool.false_and, Bool.true_and, Bool.or_false, Bool.false_or, el22, el23, el25, el26, el29, el32, el47, el79, el121, fl28_0, fl28_1, fl37_0, fl37_1, fl43_0, fl43_1, pl28, pl37, pl43, ti3, ti4, ti5, ti9, ti22, ti25, ti26, ti28, ti32, ti35, ti37, ti43, ti53, ti58, ti116, ti121, un3, un4, un5, un9, un22, un23, un25, un26, un29, un32, un35, un47, un53, un55, un58, un59, un79, un90, un113, un116, S1_fw, U1_fw, I1_fw, Pr.fw, So.fw, pl57, ti57, fl57_0, fl57_1, ti55, ti81, ne_eq, not_false_eq_true, not_true_eq_false, and_self, and_true, true_and, Int.reduceEq, Int.reduceNeg, Int.reduceToNat, Int.reduceLE, Int.reduceLT, hc] <;> rfl) ?_
    refine awp_cond (b := false) (by simp [alook, aput, ev]) ?_
    refine awp_exit ?_
    have e10 : i = 10 := by omega
    subst e10
    refine awp_told (told_freezeAt H _ 1 (C := ((tS ns.length p 10).map So.enc).flatten) rfl (flat_bd (fun t => by simp only [So.fw]) _)) ?_
    have hl1 := flat_len So.enc_len (tS ns.length p 10)
    have hch := flat_chunk So.enc_len (tS ns.length p 10)
    rw [tS_len] at hl1 hch
    refine awp_keep (A' := [(1, .vec (d.map Pr.enc) false), (7, .bool true), (8, .ptr H.length 0), (9, .vec (s.map So.enc) false), (10, .bool ok), (11, .vec ((tS ns.length p 10).map So.enc) false)]) [1, 7, 8, 9, 10, 11] (by simp only [fwA, ↓reduceIte, Nat.reduceAdd, Nat.reduceMul, Nat.reduceEqDiff, Nat.reduceLT, Nat.reduceLeDiff, reduceCtorEq, akeep, hl1, hch, List.map_cons, List.map_nil] <;> rfl) ?_
    simp only [List.set_cons_succ, List.set_cons_zero, List.map_cons, List.map_nil, frzB, frz]
    generalize tS ns.length p 10 = t at *
    refine awp_seq ?_
    refine awp_seq ?_
    refine awp_run rfl (by simp only [fwA, ↓reduceIte, Nat.reduceAdd, Nat.reduceMul, Nat.reduceEqDiff, Nat.reduceLT, Nat.reduceLeDiff, reduceCtorEq] <;> rfl) ?_
    cases ok
    · rw [least_none hkn hL rfl] at h12t
      have hs0 : s = [] := least_off hL rfl
      subst hs0
      refine awp_cond (b := true) (by simp [alook, aput, ev]) ?_
      refine awp_seq ?_
      refine awp_region rfl ?_
      refine aops_run 10 (by simp only [fwA, ↓reduceIte, Nat.reduceAdd, Nat.reduceMul, Nat.reduceEqDiff, Nat.reduceLT, Nat.reduceLeDiff, reduceCtorEq, bitfw, List.length_map, List.getElem?_map, Option.map_some, Int.natCast_nonneg, Int.toNat_natCast, decide_true, decide_false, Bool.and_true, Bool.and_self, Bool.not_true, Bool.not_false, Bool.false_and, Bool.true_and, Bool.or_false, Bool.false_or, el22, el23, el25, el26, el29, el32, el47, el79, el121, fl28_0, fl28_1, fl37_0, fl37_1, fl43_0, fl43_1, pl28, pl37, pl43, ti3, ti4, ti5, ti9, ti22, ti25, ti26, ti28, ti32, ti35, ti37, ti43, ti53, ti58, ti116, ti121, un3, un4, un5, un9, un22, un23, un25, un26, un29, un32, un35, un47, un53, un55, un58, un59, un79, un90, un113, un116, S1_fw, U1_fw, I1_fw, Pr.fw, So.fw, pl57, ti57, fl57_0, fl57_1, ti55, ti81, ne_eq, not_false_eq_true, not_true_eq_false, and_self, and_true, true_and, Int.reduceEq, Int.reduceNeg, Int.reduceToNat, Int.reduceLE, Int.reduceLT, List.map_nil, List.length_nil] <;> rfl) ?_
      refine aops_fnIf rfl rfl rfl rfl rfl en12 h12t ?_
      refine aops_run 3 (by simp only [fwA, ↓reduceIte, Nat.reduceAdd, Nat.reduceMul, Nat.reduceEqDiff, Nat.reduceLT, Nat.reduceLeDiff, reduceCtorEq, bitfw, List.length_map, List.getElem?_map, Option.map_some, Int.natCast_nonneg, Int.toNat_natCast, decide_true, decide_false, Bool.and_true, Bool.and_self, Bool.not_true, Bool.not_false, Bool.false_and, Bool.true_and, Bool.or_false, Bool.false_or, el22, el23, el25, el26, el29, el32, el47, el79, el121, fl28_0, fl28_1, fl37_0, fl37_1, fl43_0, fl43_1, pl28, pl37, pl43, ti3, ti4, ti5, ti9, ti22, ti25, ti26, ti28, ti32, ti35, ti37, ti43, ti53, ti58, ti116, ti121, un3, un4, un5, un9, un22, un23, un25, un26, un29, un32, un35, un47, un53, un55, un58, un59, un79, un90, un113, un116, S1_fw, U1_fw, I1_fw, Pr.fw, So.fw, pl57, ti57, fl57_0, fl57_1, ti55, ti81, ne_eq, not_false_eq_true, not_true_eq_false, and_self, and_true, true_and, Int.reduceEq, Int.reduceNeg, Int.reduceToNat, Int.reduceLE, Int.reduceLT, List.map_nil, List.length_nil] <;> rfl) ?_
      refine aops_end ?_
      refine awp_ret ?_
      exact gives_end (.inl rfl) _ rfl
    · rw [least_is hkn hL rfl] at h12s
      refine awp_cond (b := false) (by simp [alook, aput, ev]) (awp_skip ?_)
      refine awp_seq ?_
      refine awp_seq ?_
      refine awp_region rfl ?_
      refine aops_run 3 (by simp only [fwA, ↓reduceIte, Nat.reduceAdd, Nat.reduceMul, Nat.reduceEqDiff, Nat.reduceLT, Nat.reduceLeDiff, reduceCtorEq, bitfw, List.length_map, List.getElem?_map, Option.map_some, Int.natCast_nonneg, Int.toNat_natCast, decide_true, decide_false, Bool.and_true, Bool.and_self, Bool.not_true, Bool.not_false, Bool.false_and, Bool.true_and, Bool.or_false, Bool.false_or, el22, el23, el25, el26, el29, el32, el47, el79, el121, fl28_0, fl28_1, fl37_0, fl37_1, fl43_0, fl43_1, pl28, pl37, pl43, ti3, ti4, ti5, ti9, ti22, ti25, ti26, ti28, ti32, ti35, ti37, ti43, ti53, ti58, ti116, ti121, un3, un4, un5, un9, un22, un23, un25, un26, un29, un32, un35, un47, un53, un55, un58, un59, un79, un90, un113, un116, S1_fw, U1_fw, I1_fw, Pr.fw, So.fw, pl57, ti57, fl57_0, fl57_1, ti55, ti81, ne_eq, not_false_eq_true, not_true_eq_false, and_self, and_true, true_and, Int.reduceEq, Int.reduceNeg, Int.reduceToNat, Int.reduceLE, Int.reduceLT] <;> rfl) ?_
      refine aops_fn rfl rfl rfl en12 h12s ?_
      refine aops_run 1 (by simp only [fwA, ↓reduceIte, Nat.reduceAdd, Nat.reduceMul, Nat.reduceEqDiff, Nat.reduceLT, Nat.reduceLeDiff, reduceCtorEq, bitfw, List.length_map, List.getElem?_map, Option.map_some, Int.natCast_nonneg, Int.toNat_natCast, decide_true, decide_false, Bool.and_true, Bool.and_self, Bool.not_true, Bool.not_false, Bool.false_and, Bool.true_and, Bool.or_false, Bool.false_or, el22, el23, el25, el26, el29, el32, el47, el79, el121, fl28_0, fl28_1, fl37_0, fl37_1, fl43_0, fl43_1, pl28, pl37, pl43, ti3, ti4, ti5, ti9, ti22, ti25, ti26, ti28, ti32, ti35, ti37, ti43, ti53, ti58, ti116, ti121, un3, un4, un5, un9, un22, un23, un25, un26, un29, un32, un35, un47, un53, un55, un58, un59, un79, un90, un113, un116, S1_fw, U1_fw, I1_fw, Pr.fw, So.fw, pl57, ti57, fl57_0, fl57_1, ti55, ti81, ne_eq, not_false_eq_true, not_true_eq_false, and_self, and_true, true_and, Int.reduceEq, Int.reduceNeg, Int.reduceToNat, Int.reduceLE, Int.reduceLT] <;> rfl) ?_
      refine aops_end ?_
      refine awp_cond (b := false) (by simp [alook, aput, ev]) (awp_skip ?_)
      refine awp_seq ?_
      refine awp_seq ?_
      refine awp_region rfl ?_
      refine aops_run 3 (by simp only [fwA, ↓reduceIte, Nat.reduceAdd, Nat.reduceMul, Nat.reduceEqDiff, Nat.reduceLT, Nat.reduceLeDiff, reduceCtorEq, bitfw, List.length_map, List.getElem?_map, Option.map_some, Int.natCast_nonneg, Int.toNat_natCast, decide_true, decide_false, Bool.and_true, Bool.and_self, Bool.not_true, Bool.not_false, Bool.false_and, Bool.true_and, Bool.or_false, Bool.false_or, el22, el23, el25, el26, el29, el32, el47, el79, el121, fl28_0, fl28_1, fl37_0, fl37_1, fl43_0, fl43_1, pl28, pl37, pl43, ti3, ti4, ti5, ti9, ti22, ti25, ti26, ti28, ti32, ti35, ti37, ti43, ti53, ti58, ti116, ti121, un3, un4, un5, un9, un22, un23, un25, un26, un29, un32, un35, un47, un53, un55, un58, un59, un79, un90, un113, un116, S1_fw, U1_fw, I1_fw, Pr.fw, So.fw, pl57, ti57, fl57_0, fl57_1, ti55, ti81, ne_eq, not_false_eq_true, not_true_eq_false, and_self, and_true, true_and, Int.reduceEq, Int.reduceNeg, Int.reduceToNat, Int.reduceLE, Int.reduceLT] <;> rfl) ?_
      refine aops_fn rfl rfl rfl en12 h12t ?_
      refine aops_end ?_
      cases hst : solvesB ns us d t
      · rw [hst] at h12t
        refine awp_cond (b := false) (by simp [alook, aput, ev]) (awp_skip ?_)
        refine awp_seq ?_
        refine awp_run rfl (by simp only [fwA, ↓reduceIte, Nat.reduceAdd, Nat.reduceMul, Nat.reduceEqDiff, Nat.reduceLT, Nat.reduceLeDiff, reduceCtorEq] <;> rfl) ?_
        refine awp_ret ?_
        exact gives_end (.inl rfl) _ rfl
      have hund := least_under hkn hL hst
      refine awp_cond (b := true) (by simp [alook, aput, ev]) ?_
      refine awp_seq ?_
      refine awp_run rfl (by simp only [fwA, ↓reduceIte, Nat.reduceAdd, Nat.reduceMul, Nat.reduceEqDiff, Nat.reduceLT, Nat.reduceLeDiff, reduceCtorEq] <;> rfl) ?_
      refine awp_block ?_
      refine awp_for [7, 8, 9, 11, 14] (fun i : Nat => [.bool true, .ptr H.length 0, .vec (s.map So.enc) false, .vec (t.map So.enc) false, .int .i64 (i : Int)]) (fun _ => H ++ [.box [.vec (ns.map S1) false, .vec (us.map U1) false], .dead]) (fun i => s.length - i) (fun i => i ≤ s.length) 0 rfl rfl (Nat.zero_le _) fun i hi => ?_
      refine awp_vlen 9 rfl fun hsl => ?_
      rw [List.length_map] at hsl
      refine awp_seq ?_
      refine awp_seq ?_
      by_cases hc : (i : Int) < s.length
      rotate_left
      · refine awp_run rfl (by simp only [fwA, ↓reduceIte, Nat.reduceAdd, Nat.reduceMul, Nat.reduceEqDiff, Nat.reduceLT, Nat.reduceLeDiff, reduceCtorEq, bitfw, List.length_map, List.getElem?_map, Option.map_some, Int.natCast_nonneg, Int.toNat_natCast, decide_true, decide_false, Bool.and_true, Bool.and_self, Bool.not_true, Bool.not_false, Bool.false_and, Bool.true_and, Bool.or_false, Bool.false_or, el22, el23, el25, el26, el29, el32, el47, el79, el121, fl28_0, fl28_1, fl37_0, fl37_1, fl43_0, fl43_1, pl28, pl37, pl43, ti3, ti4, ti5, ti9, ti22, ti25, ti26, ti28, ti32, ti35, ti37, ti43, ti53, ti58, ti116, ti121, un3, un4, un5, un9, un22, un23, un25, un26, un29, un32, un35, un47, un53, un55, un58, un59, un79, un90, un113, un116, S1_fw, U1_fw, I1_fw, Pr.fw, So.fw, pl57, ti57, fl57_0, fl57_1, ti55, ti81, ne_eq, not_false_eq_true, not_true_eq_false, and_self, and_true, true_and, Int.reduceEq, Int.reduceNeg, Int.reduceToNat, Int.reduceLE, Int.reduceLT, hc] <;> rfl) ?_
        refine awp_cond (b := false) (by simp [alook, aput, ev]) ?_
        refine awp_exit ?_
        refine awp_seq ?_
        refine awp_run rfl (by simp only [fwA, ↓reduceIte, Nat.reduceAdd, Nat.reduceMul, Nat.reduceEqDiff, Nat.reduceLT, Nat.reduceLeDiff, reduceCtorEq] <;> rfl) ?_
        refine awp_ret ?_
        exact gives_end (.inl rfl) _ rfl
      have hi' : i < s.length := by omega
      obtain ⟨z, hz⟩ : ∃ z, s[i]? = some z := ⟨_, List.getElem?_eq_getElem hi'⟩
      have hwi : IntKind.i64.wrap ((i : Int) + 1) = ((i + 1 : Nat) : Int) := wrapS i (by omega)
      have hzv : z.v ∈ gath gV d := by rw [← (least_vars hkn hL rfl).1]; exact List.mem_map_of_mem (List.mem_of_getElem? hz)
      have h14 := c14 Γ hΓ ns us hw t z.v (by have := hvr z.v hzv; exact ⟨by omega, by omega⟩)
      have h13 := c13 Γ ns us hw z.p (valueV ns us t z.v)
      rw [hund z (List.mem_of_getElem? hz)] at h13
      refine awp_run rfl (by simp only [fwA, ↓reduceIte, Nat.reduceAdd, Nat.reduceMul, Nat.reduceEqDiff, Nat.reduceLT, Nat.reduceLeDiff, reduceCtorEq, bitfw, List.length_map, List.getElem?_map, Option.map_some, Int.natCast_nonneg, Int.toNat_natCast, decide_true, decide_false, Bool.and_true, Bool.and_self, Bool.not_true, Bool.not_false, Bool.false_and, Bool.true_and, Bool.or_false, Bool.false_or, el22, el23, el25, el26, el29, el32, el47, el79, el121, fl28_0, fl28_1, fl37_0, fl37_1, fl43_0, fl43_1, pl28, pl37, pl43, ti3, ti4, ti5, ti9, ti22, ti25, ti26, ti28, ti32, ti35, ti37, ti43, ti53, ti58, ti116, ti121, un3, un4, un5, un9, un22, un23, un25, un26, un29, un32, un35, un47, un53, un55, un58, un59, un79, un90, un113, un116, S1_fw, U1_fw, I1_fw, Pr.fw, So.fw, pl57, ti57, fl57_0, fl57_1, ti55, ti81, ne_eq, not_false_eq_true, not_true_eq_false, and_self, and_true, true_and, Int.reduceEq, Int.reduceNeg, Int.reduceToNat, Int.reduceLE, Int.reduceLT, hc] <;> rfl) ?_
      refine awp_cond (b := true) (by simp [alook, aput, ev]) ?_
      refine awp_skip ?_
      refine awp_seq ?_
      refine awp_block ?_
      refine awp_seq ?_
      refine awp_drawn [1, 0, 0, 0, 0, 1, 1, 0, 0, 0, 0, 0, 1, 0, 0, 0] [0, 0, 0, 6, 14, 30, 0, 0, 0, 0, 768, 1792, 3840, 8128, 16383, 32767] mixed rfl (by kernel_rfl) ?_
      refine dops_run 13 (by simp only [fwA, ↓reduceIte, Nat.reduceAdd, Nat.reduceMul, Nat.reduceEqDiff, Nat.reduceLT, Nat.reduceLeDiff, reduceCtorEq, bitfw, List.length_map, List.getElem?_map, Option.map_some, Int.natCast_nonneg, Int.toNat_natCast, decide_true, decide_false, Bool.and_true, Bool.and_self, Bool.not_true, Bool.not_false, Bool.false_and, Bool.true_and, Bool.or_false, Bool.false_or, el22, el23, el25, el26, el29, el32, el47, el79, el121, fl28_0, fl28_1, fl37_0, fl37_1, fl43_0, fl43_1, pl28, pl37, pl43, ti3, ti4, ti5, ti9, ti22, ti25, ti26, ti28, ti32, ti35, ti37, ti43, ti53, ti58, ti116, ti121, un3, un4, un5, un9, un22, un23, un25, un26, un29, un32, un35, un47, un53, un55, un58, un59, un79, un90, un113, un116, S1_fw, U1_fw, I1_fw, Pr.fw, So.fw, pl57, ti57, fl57_0, fl57_1, ti55, ti81, ne_eq, not_false_eq_true, not_true_eq_false, and_self, and_true, true_and, Int.reduceEq, Int.reduceNeg, Int.reduceToNat, Int.reduceLE, Int.reduceLT, hz] <;> rfl) ?_
      refine dops_fn rfl (by simp only [fwA, ↓reduceIte, Nat.reduceAdd, Nat.reduceMul, Nat.reduceEqDiff, Nat.reduceLT, Nat.reduceLeDiff, reduceCtorEq] <;> rfl) rfl rfl en14 h14 ?_
      refine dops_fn rfl (by simp only [fwA, ↓reduceIte, Nat.reduceAdd, Nat.reduceMul, Nat.reduceEqDiff, Nat.reduceLT, Nat.reduceLeDiff, reduceCtorEq] <;> rfl) rfl rfl en13 h13 ?_
      refine dops_run 1 (by simp only [fwA, ↓reduceIte, Nat.reduceAdd, Nat.reduceMul, Nat.reduceEqDiff, Nat.reduceLT, Nat.reduceLeDiff, reduceCtorEq, bitfw, List.length_map, List.getElem?_map, Option.map_some, Int.natCast_nonneg, Int.toNat_natCast, decide_true, decide_false, Bool.and_true, Bool.and_self, Bool.not_true, Bool.not_false, Bool.false_and, Bool.true_and, Bool.or_false, Bool.false_or, el22, el23, el25, el26, el29, el32, el47, el79, el121, fl28_0, fl28_1, fl37_0, fl37_1, fl43_0, fl43_1, pl28, pl37, pl43, ti3, ti4, ti5, ti9, ti22, ti25, ti26, ti28, ti32, ti35, ti37, ti43, ti53, ti58, ti116, ti121, un3, un4, un5, un9, un22, un23, un25, un26, un29, un32, un35, un47, un53, un55, un58, un59, un79, un90, un113, un116, S1_fw, U1_fw, I1_fw, Pr.fw, So.fw, pl57, ti57, fl57_0, fl57_1, ti55, ti81, ne_eq, not_false_eq_true, not_true_eq_false, and_self, and_true, true_and, Int.reduceEq, Int.reduceNeg, Int.reduceToNat, Int.reduceLE, Int.reduceLT, hz] <;> rfl) ?_
      refine dops_end ?_
      refine awp_cond (b := false) (by simp [alook, aput, ev]) (awp_skip ?_)
      refine awp_run rfl (by simp only [fwA, ↓reduceIte, Nat.reduceAdd, Nat.reduceMul, Nat.reduceEqDiff, Nat.reduceLT, Nat.reduceLeDiff, reduceCtorEq] <;> rfl) ?_
      exact ⟨i + 1, by omega, by omega, by simp only [fwA, ↓reduceIte, Nat.reduceAdd, Nat.reduceMul, Nat.reduceEqDiff, Nat.reduceLT, Nat.reduceLeDiff, reduceCtorEq, List.map_cons, List.map_nil, hwi], rfl, rfl⟩
  have hwi : IntKind.i64.wrap ((i : Int) + 1) = ((i + 1 : Nat) : Int) := wrapS i (by omega)
  refine awp_run rfl (by simp only [fwA, ↓reduceIte, Nat.reduceAdd, Nat.reduceMul, Nat.reduceEqDiff, Nat.reduceLT, Nat.reduceLeDiff, reduceCtorEq, bitfw, List.length_map, List.getElem?_map, Option.map_some, Int.natCast_nonneg, Int.toNat_natCast, decide_true, decide_false, Bool.and_true, Bool.and_self, Bool.not_true, Bool.not_false, Bool.false_and, Bool.true_and, Bool.or_false, Bool.false_or, el22, el23, el25, el26, el29, el32, el47, el79, el121, fl28_0, fl28_1, fl37_0, fl37_1, fl43_0, fl43_1, pl28, pl37, pl43, ti3, ti4, ti5, ti9, ti22, ti25, ti26, ti28, ti32, ti35, ti37, ti43, ti53, ti58, ti116, ti121, un3, un4, un5, un9, un22, un23, un25, un26, un29, un32, un35, un47, un53, un55, un58, un59, un79, un90, un113, un116, S1_fw, U1_fw, I1_fw, Pr.fw, So.fw, pl57, ti57, fl57_0, fl57_1, ti55, ti81, ne_eq, not_false_eq_true, not_true_eq_false, and_self, and_true, true_and, Int.reduceEq, Int.reduceNeg, Int.reduceToNat, Int.reduceLE, Int.reduceLT, hc] <;> rfl) ?_
  refine awp_cond (b := true) (by simp [alook, aput, ev]) ?_
  refine awp_skip ?_
  refine awp_seq ?_
  refine awp_block ?_
  refine awp_seq ?_
  refine awp_run rfl (by simp only [fwA, ↓reduceIte, Nat.reduceAdd, Nat.reduceMul, Nat.reduceEqDiff, Nat.reduceLT, Nat.reduceLeDiff, reduceCtorEq] <;> rfl) ?_
  refine awp_join [1, 2, 7, 8, 9, 10, 11, 12, 13] (fun _ : Unit => [.vec (d.map Pr.enc) false, .vec (p.map B8) false, .bool true, .ptr H.length 0, .vec (s.map So.enc) false, .bool ok, .row (H.length + 1) 0 i 2, .int .i64 (i : Int), .int .i64 (pz ns.length p i)]) (fun _ => H ++ [.box [.vec (ns.map S1) false, .vec (us.map U1) false], .row 2 (((tS ns.length p i).map So.enc).flatten)]) (fun _ => True) ?_ fun _ _ => ?_
  · refine awp_seq ?_
    by_cases hp1 : (i : Int) < p.length
    · obtain ⟨x, hx⟩ : ∃ x, p[i]? = some x := ⟨_, List.getElem?_eq_getElem (by omega)⟩
      have hx0 := hp x (List.mem_of_getElem? hx)
      have hwx : IntKind.i64.wrap x = x := wrapId ⟨by omega, by omega⟩
      have hn0 : ¬ ((ns.length : Int) = 0) := by omega
      have hpz : pz ns.length p i = x.tmod ns.length := by unfold pz; rw [hx]
      refine awp_run rfl (by simp only [fwA, ↓reduceIte, Nat.reduceAdd, Nat.reduceMul, Nat.reduceEqDiff, Nat.reduceLT, Nat.reduceLeDiff, reduceCtorEq, bitfw, List.length_map, List.getElem?_map, Option.map_some, Int.natCast_nonneg, Int.toNat_natCast, decide_true, decide_false, Bool.and_true, Bool.and_self, Bool.not_true, Bool.not_false, Bool.false_and, Bool.true_and, Bool.or_false, Bool.false_or, el22, el23, el25, el26, el29, el32, el47, el79, el121, fl28_0, fl28_1, fl37_0, fl37_1, fl43_0, fl43_1, pl28, pl37, pl43, ti3, ti4, ti5, ti9, ti22, ti25, ti26, ti28, ti32, ti35, ti37, ti43, ti53, ti58, ti116, ti121, un3, un4, un5, un9, un22, un23, un25, un26, un29, un32, un35, un47, un53, un55, un58, un59, un79, un90, un113, un116, S1_fw, U1_fw, I1_fw, Pr.fw, So.fw, pl57, ti57, fl57_0, fl57_1, ti55, ti81, ne_eq, not_false_eq_true, not_true_eq_false, and_self, and_true, true_and, Int.reduceEq, Int.reduceNeg, Int.reduceToNat, Int.reduceLE, Int.reduceLT, hp1] <;> rfl) ?_
      refine awp_cond (b := true) (by simp [alook, aput, ev]) ?_
      refine awp_drun [0, 0, 0, 1, 0, 0, 1, 0, 0, 0] [0, 0, 3, 7, 15, 0, 32, 96, 255, 511] mixed rfl (by kernel_rfl) (by simp only [fwA, ↓reduceIte, Nat.reduceAdd, Nat.reduceMul, Nat.reduceEqDiff, Nat.reduceLT, Nat.reduceLeDiff, reduceCtorEq, bitfw, List.length_map, List.getElem?_map, Option.map_some, Int.natCast_nonneg, Int.toNat_natCast, decide_true, decide_false, Bool.and_true, Bool.and_self, Bool.not_true, Bool.not_false, Bool.false_and, Bool.true_and, Bool.or_false, Bool.false_or, el22, el23, el25, el26, el29, el32, el47, el79, el121, fl28_0, fl28_1, fl37_0, fl37_1, fl43_0, fl43_1, pl28, pl37, pl43, ti3, ti4, ti5, ti9, ti22, ti25, ti26, ti28, ti32, ti35, ti37, ti43, ti53, ti58, ti116, ti121, un3, un4, un5, un9, un22, un23, un25, un26, un29, un32, un35, un47, un53, un55, un58, un59, un79, un90, un113, un116, S1_fw, U1_fw, I1_fw, Pr.fw, So.fw, pl57, ti57, fl57_0, fl57_1, ti55, ti81, ne_eq, not_false_eq_true, not_true_eq_false, and_self, and_true, true_and, Int.reduceEq, Int.reduceNeg, Int.reduceToNat, Int.reduceLE, Int.reduceLT, hx, hwx, hn0, B8_fw] <;> rfl) ?_
      exact ⟨(), trivial, by simp only [fwA, ↓reduceIte, Nat.reduceAdd, Nat.reduceMul, Nat.reduceEqDiff, Nat.reduceLT, Nat.reduceLeDiff, reduceCtorEq, List.map_cons, List.map_nil, hpz], rfl, rfl⟩
    · have hpz : pz ns.length p i = 0 := by unfold pz; rw [List.getElem?_eq_none (by omega)]
      refine awp_run rfl (by simp only [fwA, ↓reduceIte, Nat.reduceAdd, Nat.reduceMul, Nat.reduceEqDiff, Nat.reduceLT, Nat.reduceLeDiff, reduceCtorEq, bitfw, List.length_map, List.getElem?_map, Option.map_some, Int.natCast_nonneg, Int.toNat_natCast, decide_true, decide_false, Bool.and_true, Bool.and_self, Bool.not_true, Bool.not_false, Bool.false_and, Bool.true_and, Bool.or_false, Bool.false_or, el22, el23, el25, el26, el29, el32, el47, el79, el121, fl28_0, fl28_1, fl37_0, fl37_1, fl43_0, fl43_1, pl28, pl37, pl43, ti3, ti4, ti5, ti9, ti22, ti25, ti26, ti28, ti32, ti35, ti37, ti43, ti53, ti58, ti116, ti121, un3, un4, un5, un9, un22, un23, un25, un26, un29, un32, un35, un47, un53, un55, un58, un59, un79, un90, un113, un116, S1_fw, U1_fw, I1_fw, Pr.fw, So.fw, pl57, ti57, fl57_0, fl57_1, ti55, ti81, ne_eq, not_false_eq_true, not_true_eq_false, and_self, and_true, true_and, Int.reduceEq, Int.reduceNeg, Int.reduceToNat, Int.reduceLE, Int.reduceLT, hp1] <;> rfl) ?_
      refine awp_cond (b := false) (by simp [alook, aput, ev]) (awp_skip ?_)
      exact ⟨(), trivial, by simp only [fwA, ↓reduceIte, Nat.reduceAdd, Nat.reduceMul, Nat.reduceEqDiff, Nat.reduceLT, Nat.reduceLeDiff, reduceCtorEq, List.map_cons, List.map_nil, hpz], rfl, rfl⟩
  refine awp_region rfl ?_
  refine aops_run 5 (by simp only [fwA, ↓reduceIte, Nat.reduceAdd, Nat.reduceMul, Nat.reduceEqDiff, Nat.reduceLT, Nat.reduceLeDiff, reduceCtorEq, bitfw, List.length_map, List.getElem?_map, Option.map_some, Int.natCast_nonneg, Int.toNat_natCast, decide_true, decide_false, Bool.and_true, Bool.and_self, Bool.not_true, Bool.not_false, Bool.false_and, Bool.true_and, Bool.or_false, Bool.false_or, el22, el23, el25, el26, el29, el32, el47, el79, el121, fl28_0, fl28_1, fl37_0, fl37_1, fl43_0, fl43_1, pl28, pl37, pl43, ti3, ti4, ti5, ti9, ti22, ti25, ti26, ti28, ti32, ti35, ti37, ti43, ti53, ti58, ti116, ti121, un3, un4, un5, un9, un22, un23, un25, un26, un29, un32, un35, un47, un53, un55, un58, un59, un79, un90, un113, un116, S1_fw, U1_fw, I1_fw, Pr.fw, So.fw, pl57, ti57, fl57_0, fl57_1, ti55, ti81, ne_eq, not_false_eq_true, not_true_eq_false, and_self, and_true, true_and, Int.reduceEq, Int.reduceNeg, Int.reduceToNat, Int.reduceLE, Int.reduceLT] <;> rfl) ?_
  refine aops_push (enc := So.enc) (l := tS ns.length p i) (z := ⟨(i : Int), pz ns.length p i⟩) So.enc_len rfl rfl un32 ti37 rfl un32 rfl (by simp [Fw.get_at]) (tS_len _ _ _).symm rfl (by show (i + 1) * 16 ≤ _; omega) (by omega) rfl ?_
  refine aops_run 1 (by simp only [fwA, ↓reduceIte, Nat.reduceAdd, Nat.reduceMul, Nat.reduceEqDiff, Nat.reduceLT, Nat.reduceLeDiff, reduceCtorEq, bitfw, List.length_map, List.getElem?_map, Option.map_some, Int.natCast_nonneg, Int.toNat_natCast, decide_true, decide_false, Bool.and_true, Bool.and_self, Bool.not_true, Bool.not_false, Bool.false_and, Bool.true_and, Bool.or_false, Bool.false_or, el22, el23, el25, el26, el29, el32, el47, el79, el121, fl28_0, fl28_1, fl37_0, fl37_1, fl43_0, fl43_1, pl28, pl37, pl43, ti3, ti4, ti5, ti9, ti22, ti25, ti26, ti28, ti32, ti35, ti37, ti43, ti53, ti58, ti116, ti121, un3, un4, un5, un9, un22, un23, un25, un26, un29, un32, un35, un47, un53, un55, un58, un59, un79, un90, un113, un116, S1_fw, U1_fw, I1_fw, Pr.fw, So.fw, pl57, ti57, fl57_0, fl57_1, ti55, ti81, ne_eq, not_false_eq_true, not_true_eq_false, and_self, and_true, true_and, Int.reduceEq, Int.reduceNeg, Int.reduceToNat, Int.reduceLE, Int.reduceLT] <;> rfl) ?_
  refine aops_end ?_
  refine awp_run rfl (by simp only [fwA, ↓reduceIte, Nat.reduceAdd, Nat.reduceMul, Nat.reduceEqDiff, Nat.reduceLT, Nat.reduceLeDiff, reduceCtorEq] <;> rfl) ?_
  refine ⟨i + 1, by omega, by omega, by simp only [fwA, ↓reduceIte, Nat.reduceAdd, Nat.reduceMul, Nat.reduceEqDiff, Nat.reduceLT, Nat.reduceLeDiff, reduceCtorEq, List.map_cons, List.map_nil, hwi], ?_, rfl⟩
  rw [tS_snoc]
theorem known_app {ns : List (List UInt8)} {us : List Nat} {c d : List Pr} (h1 : knownB ns us c = true) (h2 : knownB ns us d = true) : knownB ns us (c ++ d) = true := by
  rw [known_spec] at h1 h2 ⊢
  exact ⟨h1.1, fun p hp => by
    rcases List.mem_append.1 hp with h | h
    · exact h1.2 p h
    · exact h2.2 p h⟩
theorem pr_lens (l : List Pr) : ∀ e ∈ l.map Pr.enc, e.length = 2 := fun e he => by obtain ⟨q, _, rfl⟩ := List.mem_map.1 he; rfl
set_option maxHeartbeats 16000000 in
/- chancel/chancellaw11.SolveMore -/
theorem c4 (Γ : Nat → PV) (hΓ : Tab64 Γ) (k : Int) (hk0 : 0 ≤ k) (c : List Pr) (ho : OkP c) (p : Pr) (hop : I64 p.a ∧ I64 p.b) : Gives Tryd.prog Γ 4 [.int .u8 k, .vec (c.map Pr.enc) false, .agg p.enc] (.bool true) := by
  have h8 := c8 Γ hΓ
  have h9 := c9 Γ
  obtain ⟨j, ns, us, ej, hget, hla, hR, hw⟩ := lats_at hk0
  obtain ⟨r1, r2, _, _, r5⟩ := right_spec hR
  have rp := r5.pos
  have hn : 0 < ns.length := by omega
  have h10 := c10 Γ ns us hn c ho
  have ho' := ptsV_ok (c := c) hn ho
  have hl' := ptsV_len ns.length c
  have hkn := ptsV_known (c := c) hR ho
  have hvr := fun x => ptsV_vars (x := x) hR ho
  refine fn_of_awp Tryd.func4 rfl (by simp [Tryd.f4]) rfl fun H => ?_
  refine awp_bd fun hbd => ?_
  refine awp_seq ?_
  refine awp_run rfl (by simp only [fwA, ↓reduceIte, Nat.reduceAdd, Nat.reduceMul, Nat.reduceEqDiff, Nat.reduceLT, Nat.reduceLeDiff, reduceCtorEq, bitfw, List.length_map, List.getElem?_map, Option.map_some, Int.natCast_nonneg, Int.toNat_natCast, decide_true, decide_false, Bool.and_true, Bool.and_self, Bool.not_true, Bool.not_false, Bool.false_and, Bool.true_and, Bool.or_false, Bool.false_or, el22, el23, el25, el26, el29, el32, el47, el79, el121, fl28_0, fl28_1, fl37_0, fl37_1, fl43_0, fl43_1, pl28, pl37, pl43, ti3, ti4, ti5, ti9, ti22, ti25, ti26, ti28, ti32, ti35, ti37, ti43, ti53, ti58, ti116, ti121, un3, un4, un5, un9, un22, un23, un25, un26, un29, un32, un35, un47, un53, un55, un58, un59, un79, un90, un113, un116, S1_fw, U1_fw, I1_fw, Pr.fw, So.fw, pl57, ti57, fl57_0, fl57_1, ti55, ti81, ne_eq, not_false_eq_true, not_true_eq_false, and_self, and_true, true_and, Int.reduceEq, Int.reduceNeg, Int.reduceToNat, Int.reduceLE, Int.reduceLT] <;> rfl) ?_
  refine awp_seq ?_
  refine awp_region rfl ?_
  refine aops_fn rfl rfl rfl en8 h8 ?_
  refine aops_run 1 (by simp only [fwA, ↓reduceIte, Nat.reduceAdd, Nat.reduceMul, Nat.reduceEqDiff, Nat.reduceLT, Nat.reduceLeDiff, reduceCtorEq, bitfw, List.length_map, List.getElem?_map, Option.map_some, Int.natCast_nonneg, Int.toNat_natCast, decide_true, decide_false, Bool.and_true, Bool.and_self, Bool.not_true, Bool.not_false, Bool.false_and, Bool.true_and, Bool.or_false, Bool.false_or, el22, el23, el25, el26, el29, el32, el47, el79, el121, fl28_0, fl28_1, fl37_0, fl37_1, fl43_0, fl43_1, pl28, pl37, pl43, ti3, ti4, ti5, ti9, ti22, ti25, ti26, ti28, ti32, ti35, ti37, ti43, ti53, ti58, ti116, ti121, un3, un4, un5, un9, un22, un23, un25, un26, un29, un32, un35, un47, un53, un55, un58, un59, un79, un90, un113, un116, S1_fw, U1_fw, I1_fw, Pr.fw, So.fw, pl57, ti57, fl57_0, fl57_1, ti55, ti81, ne_eq, not_false_eq_true, not_true_eq_false, and_self, and_true, true_and, Int.reduceEq, Int.reduceNeg, Int.reduceToNat, Int.reduceLE, Int.reduceLT] <;> rfl) ?_
  refine aops_end ?_
  refine awp_seq ?_
  refine awp_seq ?_
  refine awp_run rfl (by simp only [fwA, ↓reduceIte, Nat.reduceAdd, Nat.reduceMul, Nat.reduceEqDiff, Nat.reduceLT, Nat.reduceLeDiff, reduceCtorEq] <;> rfl) ?_
  refine awp_cond (b := false) (by simp [alook, aput, ev]) (awp_skip ?_)
  refine awp_seq ?_
  refine awp_region rfl ?_
  refine aops_fn rfl rfl rfl en9 h9 ?_
  refine aops_run 6 (by simp only [fwA, ↓reduceIte, Nat.reduceAdd, Nat.reduceMul, Nat.reduceEqDiff, Nat.reduceLT, Nat.reduceLeDiff, reduceCtorEq, bitfw, List.length_map, List.getElem?_map, Option.map_some, Int.natCast_nonneg, Int.toNat_natCast, decide_true, decide_false, Bool.and_true, Bool.and_self, Bool.not_true, Bool.not_false, Bool.false_and, Bool.true_and, Bool.or_false, Bool.false_or, el22, el23, el25, el26, el29, el32, el47, el79, el121, fl28_0, fl28_1, fl37_0, fl37_1, fl43_0, fl43_1, pl28, pl37, pl43, ti3, ti4, ti5, ti9, ti22, ti25, ti26, ti28, ti32, ti35, ti37, ti43, ti53, ti58, ti116, ti121, un3, un4, un5, un9, un22, un23, un25, un26, un29, un32, un35, un47, un53, un55, un58, un59, un79, un90, un113, un116, S1_fw, U1_fw, I1_fw, Pr.fw, So.fw, pl57, ti57, fl57_0, fl57_1, ti55, ti81, ne_eq, not_false_eq_true, not_true_eq_false, and_self, and_true, true_and, Int.reduceEq, Int.reduceNeg, Int.reduceToNat, Int.reduceLE, Int.reduceLT, ej, hget, hla] <;> rfl) ?_
  refine aops_end ?_
  refine awp_seq ?_
  refine awp_region rfl ?_
  refine aops_run 2 (by simp only [fwA, ↓reduceIte, Nat.reduceAdd, Nat.reduceMul, Nat.reduceEqDiff, Nat.reduceLT, Nat.reduceLeDiff, reduceCtorEq, bitfw, List.length_map, List.getElem?_map, Option.map_some, Int.natCast_nonneg, Int.toNat_natCast, decide_true, decide_false, Bool.and_true, Bool.and_self, Bool.not_true, Bool.not_false, Bool.false_and, Bool.true_and, Bool.or_false, Bool.false_or, el22, el23, el25, el26, el29, el32, el47, el79, el121, fl28_0, fl28_1, fl37_0, fl37_1, fl43_0, fl43_1, pl28, pl37, pl43, ti3, ti4, ti5, ti9, ti22, ti25, ti26, ti28, ti32, ti35, ti37, ti43, ti53, ti58, ti116, ti121, un3, un4, un5, un9, un22, un23, un25, un26, un29, un32, un35, un47, un53, un55, un58, un59, un79, un90, un113, un116, S1_fw, U1_fw, I1_fw, Pr.fw, So.fw, pl57, ti57, fl57_0, fl57_1, ti55, ti81, ne_eq, not_false_eq_true, not_true_eq_false, and_self, and_true, true_and, Int.reduceEq, Int.reduceNeg, Int.reduceToNat, Int.reduceLE, Int.reduceLT] <;> rfl) ?_
  refine aops_fn rfl rfl rfl en10 h10 ?_
  refine aops_run 1 (by simp only [fwA, ↓reduceIte, Nat.reduceAdd, Nat.reduceMul, Nat.reduceEqDiff, Nat.reduceLT, Nat.reduceLeDiff, reduceCtorEq, bitfw, List.length_map, List.getElem?_map, Option.map_some, Int.natCast_nonneg, Int.toNat_natCast, decide_true, decide_false, Bool.and_true, Bool.and_self, Bool.not_true, Bool.not_false, Bool.false_and, Bool.true_and, Bool.or_false, Bool.false_or, el22, el23, el25, el26, el29, el32, el47, el79, el121, fl28_0, fl28_1, fl37_0, fl37_1, fl43_0, fl43_1, pl28, pl37, pl43, ti3, ti4, ti5, ti9, ti22, ti25, ti26, ti28, ti32, ti35, ti37, ti43, ti53, ti58, ti116, ti121, un3, un4, un5, un9, un22, un23, un25, un26, un29, un32, un35, un47, un53, un55, un58, un59, un79, un90, un113, un116, S1_fw, U1_fw, I1_fw, Pr.fw, So.fw, pl57, ti57, fl57_0, fl57_1, ti55, ti81, ne_eq, not_false_eq_true, not_true_eq_false, and_self, and_true, true_and, Int.reduceEq, Int.reduceNeg, Int.reduceToNat, Int.reduceLE, Int.reduceLT] <;> rfl) ?_
  refine aops_end ?_
  have hop1 : OkP [p] := fun q hq => by have : q = p := by simpa using hq
                                        subst this; exact hop
  have h10b := c10 Γ ns us hn [p] hop1
  have hoe := ptsV_ok (c := [p]) hn hop1
  have hle := ptsV_len ns.length [p]
  have hke := ptsV_known (c := [p]) hR hop1
  generalize ptsV ns.length c = d at *
  generalize ptsV ns.length [p] = e at *
  have h11 := c11 Γ hΓ ns us hw d (by omega) ho'
  have h11b := c11 Γ hΓ ns us hw (d ++ e) (by rw [List.length_append]; omega) (fun q hq => (List.mem_append.1 hq).elim (ho' q) (hoe q))
  have hL := leastV_is ns us d
  have hL2 := leastV_is ns us (d ++ e)
  have hkd := known_app hkn hke
  generalize leastV ns us d = X at h11 hL
  generalize leastV ns us (d ++ e) = Y at h11b hL2
  obtain ⟨s, ok⟩ := X
  obtain ⟨t, is⟩ := Y
  have hadd := least_two hkn hkd hL hL2 (fun q hq => List.mem_append.2 (.inl hq))
  have h10b := h10b.args (args := [.agg [.vec (ns.map S1) false, .vec (us.map U1) false], .vec [p.enc] true]) ⟨PV.le_refl _, ⟨nofun, PV.leLL_refl _⟩, trivial⟩
  refine awp_seq ?_
  refine awp_region rfl ?_
  refine aops_run 2 (by simp only [fwA, ↓reduceIte, Nat.reduceAdd, Nat.reduceMul, Nat.reduceEqDiff, Nat.reduceLT, Nat.reduceLeDiff, reduceCtorEq, bitfw, List.length_map, List.getElem?_map, Option.map_some, Int.natCast_nonneg, Int.toNat_natCast, decide_true, decide_false, Bool.and_true, Bool.and_self, Bool.not_true, Bool.not_false, Bool.false_and, Bool.true_and, Bool.or_false, Bool.false_or, el22, el23, el25, el26, el29, el32, el47, el79, el121, fl28_0, fl28_1, fl37_0, fl37_1, fl43_0, fl43_1, pl28, pl37, pl43, ti3, ti4, ti5, ti9, ti22, ti25, ti26, ti28, ti32, ti35, ti37, ti43, ti53, ti58, ti116, ti121, un3, un4, un5, un9, un22, un23, un25, un26, un29, un32, un35, un47, un53, un55, un58, un59, un79, un90, un113, un116, S1_fw, U1_fw, I1_fw, Pr.fw, So.fw, pl57, ti57, fl57_0, fl57_1, ti55, ti81, ne_eq, not_false_eq_true, not_true_eq_false, and_self, and_true, true_and, Int.reduceEq, Int.reduceNeg, Int.reduceToNat, Int.reduceLE, Int.reduceLT, leastEnc] <;> rfl) ?_
  refine aops_fn rfl rfl rfl en11 h11 ?_
  refine aops_run 5 (by simp only [fwA, ↓reduceIte, Nat.reduceAdd, Nat.reduceMul, Nat.reduceEqDiff, Nat.reduceLT, Nat.reduceLeDiff, reduceCtorEq, bitfw, List.length_map, List.getElem?_map, Option.map_some, Int.natCast_nonneg, Int.toNat_natCast, decide_true, decide_false, Bool.and_true, Bool.and_self, Bool.not_true, Bool.not_false, Bool.false_and, Bool.true_and, Bool.or_false, Bool.false_or, el22, el23, el25, el26, el29, el32, el47, el79, el121, fl28_0, fl28_1, fl37_0, fl37_1, fl43_0, fl43_1, pl28, pl37, pl43, ti3, ti4, ti5, ti9, ti22, ti25, ti26, ti28, ti32, ti35, ti37, ti43, ti53, ti58, ti116, ti121, un3, un4, un5, un9, un22, un23, un25, un26, un29, un32, un35, un47, un53, un55, un58, un59, un79, un90, un113, un116, S1_fw, U1_fw, I1_fw, Pr.fw, So.fw, pl57, ti57, fl57_0, fl57_1, ti55, ti81, ne_eq, not_false_eq_true, not_true_eq_false, and_self, and_true, true_and, Int.reduceEq, Int.reduceNeg, Int.reduceToNat, Int.reduceLE, Int.reduceLT, leastEnc] <;> rfl) ?_
  refine aops_end ?_
  have hK1 : (H ++ [Blk.box p.enc, Blk.box [.vec (ns.map S1) false, .vec (us.map U1) false]])[H.length]? = some (.box p.enc) := Fw.get_at0 _ _
  have hK2 : (H ++ [Blk.box p.enc, Blk.box [.vec (ns.map S1) false, .vec (us.map U1) false]])[H.length + 1]? = some (.box [.vec (ns.map S1) false, .vec (us.map U1) false]) := Fw.get_at _ _ 1
  have hKH : ∀ L, ∃ L', (H ++ [Blk.box p.enc, Blk.box [.vec (ns.map S1) false, .vec (us.map U1) false]]) ++ L = H ++ L' := fun L => ⟨_, List.append_assoc _ _ _⟩
  generalize H ++ [Blk.box p.enc, Blk.box [.vec (ns.map S1) false, .vec (us.map U1) false]] = K at *
  have hK1' : ∀ L, (K ++ L)[H.length]? = some (.box p.enc) := fun L => Fw.get_old L hK1
  have hK2' : ∀ L, (K ++ L)[H.length + 1]? = some (.box [.vec (ns.map S1) false, .vec (us.map U1) false]) := fun L => Fw.get_old L hK2
  have hv0 : View.vw ⟨K.length, none⟩ K = K := by simp [View.vw]
  have hv1 : ∀ L, View.vw ⟨K.length, none⟩ (K ++ L) = K := fun L => by simp [View.vw]
  refine awp_seq ?_
  refine awp_drawn [4,0,3,4,4,0,0,3,3,0,0,0,0,0] [0, 0, 2, 0, 0, 16, 62, 126, 255, 511, 1023, 1023, 2047, 8191] mixed rfl (by kernel_rfl) ?_
  refine dops_run 2 (by simp only [fwA, ↓reduceIte, Nat.reduceAdd, Nat.reduceMul, Nat.reduceEqDiff, Nat.reduceLT, Nat.reduceLeDiff, reduceCtorEq, bitfw, List.length_map, List.getElem?_map, Option.map_some, Int.natCast_nonneg, Int.toNat_natCast, decide_true, decide_false, Bool.and_true, Bool.and_self, Bool.not_true, Bool.not_false, Bool.false_and, Bool.true_and, Bool.or_false, Bool.false_or, el22, el23, el25, el26, el29, el32, el47, el79, el121, fl28_0, fl28_1, fl37_0, fl37_1, fl43_0, fl43_1, pl28, pl37, pl43, ti3, ti4, ti5, ti9, ti22, ti25, ti26, ti28, ti32, ti35, ti37, ti43, ti53, ti58, ti116, ti121, un3, un4, un5, un9, un22, un23, un25, un26, un29, un32, un35, un47, un53, un55, un58, un59, un79, un90, un113, un116, S1_fw, U1_fw, I1_fw, Pr.fw, So.fw, pl57, ti57, fl57_0, fl57_1, ti55, ti81, ne_eq, not_false_eq_true, not_true_eq_false, and_self, and_true, true_and, Int.reduceEq, Int.reduceNeg, Int.reduceToNat, Int.reduceLE, Int.reduceLT, hK1, hK2, hK1', hK2', hv0, hv1, leastEnc] <;> rfl) ?_
  refine dops_appendNew (n := d.length) rfl rfl (.inr rfl) (Nat.le_refl _) un22 ti43 un22 (.inl ⟨_, rfl⟩) (by decide) rfl rfl (fun es f h q hq => by simp only [fwA, ↓reduceIte, Nat.reduceAdd, Nat.reduceMul, Nat.reduceEqDiff, Nat.reduceLT, Nat.reduceLeDiff, reduceCtorEq, PV.vec.injEq] at h; obtain ⟨rfl, rfl⟩ := h; exact pr_lens _ q hq) (by simp only [fwA, ↓reduceIte, Nat.reduceAdd, Nat.reduceMul, Nat.reduceEqDiff, Nat.reduceLT, Nat.reduceLeDiff, reduceCtorEq, alen, List.length_map]) (by show d.length * 16 ≤ _; omega) (by omega) ?_
  refine dops_run 3 (by simp only [fwA, ↓reduceIte, Nat.reduceAdd, Nat.reduceMul, Nat.reduceEqDiff, Nat.reduceLT, Nat.reduceLeDiff, reduceCtorEq, bitfw, List.length_map, List.getElem?_map, Option.map_some, Int.natCast_nonneg, Int.toNat_natCast, decide_true, decide_false, Bool.and_true, Bool.and_self, Bool.not_true, Bool.not_false, Bool.false_and, Bool.true_and, Bool.or_false, Bool.false_or, el22, el23, el25, el26, el29, el32, el47, el79, el121, fl28_0, fl28_1, fl37_0, fl37_1, fl43_0, fl43_1, pl28, pl37, pl43, ti3, ti4, ti5, ti9, ti22, ti25, ti26, ti28, ti32, ti35, ti37, ti43, ti53, ti58, ti116, ti121, un3, un4, un5, un9, un22, un23, un25, un26, un29, un32, un35, un47, un53, un55, un58, un59, un79, un90, un113, un116, S1_fw, U1_fw, I1_fw, Pr.fw, So.fw, pl57, ti57, fl57_0, fl57_1, ti55, ti81, ne_eq, not_false_eq_true, not_true_eq_false, and_self, and_true, true_and, Int.reduceEq, Int.reduceNeg, Int.reduceToNat, Int.reduceLE, Int.reduceLT, hK1, hK2, hK1', hK2', hv0, hv1, leastEnc] <;> rfl) ?_
  refine dops_fn rfl (by simp only [fwA, ↓reduceIte, Nat.reduceAdd, Nat.reduceMul, Nat.reduceEqDiff, Nat.reduceLT, Nat.reduceLeDiff, reduceCtorEq] <;> rfl) rfl rfl en10 h10b ?_
  refine dops_append3 (n := e.length) (b := K.length) (q := 0) (k := d.length) (cs := (d.map Pr.enc).flatten) (xs := (e.map Pr.enc).flatten) rfl rfl rfl un22 ti43 un22 (.inl ⟨_, rfl⟩) rfl (Fw.get_at0 _ _) (by rw [flat_len Pr.enc_len, Nat.zero_add]) rfl (fun es f h q hq => by simp only [fwA, ↓reduceIte, Nat.reduceAdd, Nat.reduceMul, Nat.reduceEqDiff, Nat.reduceLT, Nat.reduceLeDiff, reduceCtorEq, PV.vec.injEq] at h; obtain ⟨rfl, rfl⟩ := h; exact pr_lens _ q hq) (by simp only [fwA, ↓reduceIte, Nat.reduceAdd, Nat.reduceMul, Nat.reduceEqDiff, Nat.reduceLT, Nat.reduceLeDiff, reduceCtorEq, alen, List.length_map]) (by show (d.length + e.length) * 16 ≤ _; omega) (by omega) (vw_above _ _ (Nat.le_refl _)) ?_
  refine dops_call3 (p := leastEnc (t, is)) (H' := K ++ [.dead]) rfl rfl rfl rfl en11 (acalls_frz (b := K.length) (sz := 2) (C := (d.map Pr.enc).flatten ++ (e.map Pr.enc).flatten) (by rw [Fw.set_at0]; exact Fw.get_at0 _ _) (by rw [← List.flatten_append, ← List.map_append]; exact flat_bd (fun t => by simp only [Pr.fw]) _) ?_) (by rw [Fw.set_at0, hv1, hv1]) ?_
  · have hl1 := flat_len Pr.enc_len (d ++ e)
    have hch := flat_chunk Pr.enc_len (d ++ e)
    rw [List.map_append, List.flatten_append, List.length_append] at hl1 hch
    have := h11b ((K ++ [Blk.dead]))
    simp only [fwA, ↓reduceIte, Nat.reduceAdd, Nat.reduceMul, Nat.reduceEqDiff, Nat.reduceLT, Nat.reduceLeDiff, reduceCtorEq, Fw.set_at0, List.set_cons_zero, List.map_cons, List.map_nil, List.append_nil, List.nil_append, hl1, hch, List.drop_zero, List.length_append, List.map_append, true_and, eq_self] at this ⊢
    exact this
  refine dops_run 5 (by simp only [fwA, ↓reduceIte, Nat.reduceAdd, Nat.reduceMul, Nat.reduceEqDiff, Nat.reduceLT, Nat.reduceLeDiff, reduceCtorEq, bitfw, List.length_map, List.getElem?_map, Option.map_some, Int.natCast_nonneg, Int.toNat_natCast, decide_true, decide_false, Bool.and_true, Bool.and_self, Bool.not_true, Bool.not_false, Bool.false_and, Bool.true_and, Bool.or_false, Bool.false_or, el22, el23, el25, el26, el29, el32, el47, el79, el121, fl28_0, fl28_1, fl37_0, fl37_1, fl43_0, fl43_1, pl28, pl37, pl43, ti3, ti4, ti5, ti9, ti22, ti25, ti26, ti28, ti32, ti35, ti37, ti43, ti53, ti58, ti116, ti121, un3, un4, un5, un9, un22, un23, un25, un26, un29, un32, un35, un47, un53, un55, un58, un59, un79, un90, un113, un116, S1_fw, U1_fw, I1_fw, Pr.fw, So.fw, pl57, ti57, fl57_0, fl57_1, ti55, ti81, ne_eq, not_false_eq_true, not_true_eq_false, and_self, and_true, true_and, Int.reduceEq, Int.reduceNeg, Int.reduceToNat, Int.reduceLE, Int.reduceLT, hK1, hK2, hK1', hK2', hv0, hv1, leastEnc] <;> rfl) ?_
  refine dops_end ?_
  refine awp_seq ?_
  refine awp_seq ?_
  refine awp_run rfl (by simp only [fwA, ↓reduceIte, Nat.reduceAdd, Nat.reduceMul, Nat.reduceEqDiff, Nat.reduceLT, Nat.reduceLeDiff, reduceCtorEq] <;> rfl) ?_
  cases is
  · have ht0 : t = [] := least_off hL2 rfl
    subst ht0
    refine awp_cond (b := true) (by simp [alook, aput, ev]) ?_
    refine awp_seq ?_
    refine awp_run rfl (by simp only [fwA, ↓reduceIte, Nat.reduceAdd, Nat.reduceMul, Nat.reduceEqDiff, Nat.reduceLT, Nat.reduceLeDiff, reduceCtorEq, bitfw, List.length_map, List.getElem?_map, Option.map_some, Int.natCast_nonneg, Int.toNat_natCast, decide_true, decide_false, Bool.and_true, Bool.and_self, Bool.not_true, Bool.not_false, Bool.false_and, Bool.true_and, Bool.or_false, Bool.false_or, el22, el23, el25, el26, el29, el32, el47, el79, el121, fl28_0, fl28_1, fl37_0, fl37_1, fl43_0, fl43_1, pl28, pl37, pl43, ti3, ti4, ti5, ti9, ti22, ti25, ti26, ti28, ti32, ti35, ti37, ti43, ti53, ti58, ti116, ti121, un3, un4, un5, un9, un22, un23, un25, un26, un29, un32, un35, un47, un53, un55, un58, un59, un79, un90, un113, un116, S1_fw, U1_fw, I1_fw, Pr.fw, So.fw, pl57, ti57, fl57_0, fl57_1, ti55, ti81, ne_eq, not_false_eq_true, not_true_eq_false, and_self, and_true, true_and, Int.reduceEq, Int.reduceNeg, Int.reduceToNat, Int.reduceLE, Int.reduceLT, List.map_nil, List.length_nil] <;> rfl) ?_
    refine awp_ret ?_
    obtain ⟨L', eL⟩ := hKH [.dead]
    rw [eL]
    exact gives_end (.inl rfl) _ rfl
  obtain ⟨hok, hund⟩ := hadd rfl
  have hok' : ok = true := hok
  subst hok'
  refine awp_cond (b := false) (by simp [alook, aput, ev]) (awp_skip ?_)
  refine awp_seq ?_
  refine awp_seq ?_
  refine awp_run rfl (by simp only [fwA, ↓reduceIte, Nat.reduceAdd, Nat.reduceMul, Nat.reduceEqDiff, Nat.reduceLT, Nat.reduceLeDiff, reduceCtorEq] <;> rfl) ?_
  refine awp_block ?_
  refine awp_for [7, 8, 9, 10, 11, 13] (fun i : Nat => [.bool true, .ptr (H.length + 1) 0, .vec (s.map So.enc) false, .bool true, .vec (t.map So.enc) false, .int .i64 (i : Int)]) (fun _ => K ++ [.dead]) (fun i => s.length - i) (fun i => i ≤ s.length) 0 rfl rfl (Nat.zero_le _) fun i hi => ?_
  refine awp_vlen 9 rfl fun hsl => ?_
  rw [List.length_map] at hsl
  refine awp_seq ?_
  refine awp_seq ?_
  by_cases hc : (i : Int) < s.length
  rotate_left
  · refine awp_run rfl (by simp only [fwA, ↓reduceIte, Nat.reduceAdd, Nat.reduceMul, Nat.reduceEqDiff, Nat.reduceLT, Nat.reduceLeDiff, reduceCtorEq, bitfw, List.length_map, List.getElem?_map, Option.map_some, Int.natCast_nonneg, Int.toNat_natCast, decide_true, decide_false, Bool.and_true, Bool.and_self, Bool.not_true, Bool.not_false, Bool.false_and, Bool.true_and, Bool.or_false, Bool.false_or, el22, el23, el25, el26, el29, el32, el47, el79, el121, fl28_0, fl28_1, fl37_0, fl37_1, fl43_0, fl43_1, pl28, pl37, pl43, ti3, ti4, ti5, ti9, ti22, ti25, ti26, ti28, ti32, ti35, ti37, ti43, ti53, ti58, ti116, ti121, un3, un4, un5, un9, un22, un23, un25, un26, un29, un32, un35, un47, un53, un55, un58, un59, un79, un90, un113, un116, S1_fw, U1_fw, I1_fw, Pr.fw, So.fw, pl57, ti57, fl57_0, fl57_1, ti55, ti81, ne_eq, not_false_eq_true, not_true_eq_false, and_self, and_true, true_and, Int.reduceEq, Int.reduceNeg, Int.reduceToNat, Int.reduceLE, Int.reduceLT, hc] <;> rfl) ?_
    refine awp_cond (b := false) (by simp [alook, aput, ev]) ?_
    refine awp_exit ?_
    refine awp_seq ?_
    refine awp_run rfl (by simp only [fwA, ↓reduceIte, Nat.reduceAdd, Nat.reduceMul, Nat.reduceEqDiff, Nat.reduceLT, Nat.reduceLeDiff, reduceCtorEq, bitfw, List.length_map, List.getElem?_map, Option.map_some, Int.natCast_nonneg, Int.toNat_natCast, decide_true, decide_false, Bool.and_true, Bool.and_self, Bool.not_true, Bool.not_false, Bool.false_and, Bool.true_and, Bool.or_false, Bool.false_or, el22, el23, el25, el26, el29, el32, el47, el79, el121, fl28_0, fl28_1, fl37_0, fl37_1, fl43_0, fl43_1, pl28, pl37, pl43, ti3, ti4, ti5, ti9, ti22, ti25, ti26, ti28, ti32, ti35, ti37, ti43, ti53, ti58, ti116, ti121, un3, un4, un5, un9, un22, un23, un25, un26, un29, un32, un35, un47, un53, un55, un58, un59, un79, un90, un113, un116, S1_fw, U1_fw, I1_fw, Pr.fw, So.fw, pl57, ti57, fl57_0, fl57_1, ti55, ti81, ne_eq, not_false_eq_true, not_true_eq_false, and_self, and_true, true_and, Int.reduceEq, Int.reduceNeg, Int.reduceToNat, Int.reduceLE, Int.reduceLT] <;> rfl) ?_
    refine awp_ret ?_
    obtain ⟨L', eL⟩ := hKH [.dead]
    rw [eL]
    exact gives_end (.inl rfl) _ rfl
  have hi' : i < s.length := by omega
  obtain ⟨z, hz⟩ : ∃ z, s[i]? = some z := ⟨_, List.getElem?_eq_getElem hi'⟩
  have hwi : IntKind.i64.wrap ((i : Int) + 1) = ((i + 1 : Nat) : Int) := wrapS i (by omega)
  have hzv : z.v ∈ gath gV d := by rw [← (least_vars hkn hL rfl).1]; exact List.mem_map_of_mem (List.mem_of_getElem? hz)
  have h14 := c14 Γ hΓ ns us hw t z.v (by have := hvr z.v hzv; exact ⟨by omega, by omega⟩)
  have h13 := c13 Γ ns us hw z.p (valueV ns us t z.v)
  rw [show leqB (min ns.length us.length) us z.p (valueV ns us t z.v) = true from hund z (List.mem_of_getElem? hz)] at h13
  refine awp_run rfl (by simp only [fwA, ↓reduceIte, Nat.reduceAdd, Nat.reduceMul, Nat.reduceEqDiff, Nat.reduceLT, Nat.reduceLeDiff, reduceCtorEq, bitfw, List.length_map, List.getElem?_map, Option.map_some, Int.natCast_nonneg, Int.toNat_natCast, decide_true, decide_false, Bool.and_true, Bool.and_self, Bool.not_true, Bool.not_false, Bool.false_and, Bool.true_and, Bool.or_false, Bool.false_or, el22, el23, el25, el26, el29, el32, el47, el79, el121, fl28_0, fl28_1, fl37_0, fl37_1, fl43_0, fl43_1, pl28, pl37, pl43, ti3, ti4, ti5, ti9, ti22, ti25, ti26, ti28, ti32, ti35, ti37, ti43, ti53, ti58, ti116, ti121, un3, un4, un5, un9, un22, un23, un25, un26, un29, un32, un35, un47, un53, un55, un58, un59, un79, un90, un113, un116, S1_fw, U1_fw, I1_fw, Pr.fw, So.fw, pl57, ti57, fl57_0, fl57_1, ti55, ti81, ne_eq, not_false_eq_true, not_true_eq_false, and_self, and_true, true_and, Int.reduceEq, Int.reduceNeg, Int.reduceToNat, Int.reduceLE, Int.reduceLT, hc] <;> rfl) ?_
  refine awp_cond (b := true) (by simp [alook, aput, ev]) ?_
  refine awp_skip ?_
  refine awp_seq ?_
  refine awp_block ?_
  refine awp_seq ?_
  refine awp_drawn [1, 0, 0, 0, 0, 1, 1, 0, 0, 0, 0, 0, 1, 0, 0, 0] [0, 0, 0, 6, 14, 30, 0, 0, 0, 0, 768, 1792, 3840, 8128, 16383, 32767] mixed rfl (by kernel_rfl) ?_
  refine dops_run 13 (by simp only [fwA, ↓reduceIte, Nat.reduceAdd, Nat.reduceMul, Nat.reduceEqDiff, Nat.reduceLT, Nat.reduceLeDiff, reduceCtorEq, bitfw, List.length_map, List.getElem?_map, Option.map_some, Int.natCast_nonneg, Int.toNat_natCast, decide_true, decide_false, Bool.and_true, Bool.and_self, Bool.not_true, Bool.not_false, Bool.false_and, Bool.true_and, Bool.or_false, Bool.false_or, el22, el23, el25, el26, el29, el32, el47, el79, el121, fl28_0, fl28_1, fl37_0, fl37_1, fl43_0, fl43_1, pl28, pl37, pl43, ti3, ti4, ti5, ti9, ti22, ti25, ti26, ti28, ti32, ti35, ti37, ti43, ti53, ti58, ti116, ti121, un3, un4, un5, un9, un22, un23, un25, un26, un29, un32, un35, un47, un53, un55, un58, un59, un79, un90, un113, un116, S1_fw, U1_fw, I1_fw, Pr.fw, So.fw, pl57, ti57, fl57_0, fl57_1, ti55, ti81, ne_eq, not_false_eq_true, not_true_eq_false, and_self, and_true, true_and, Int.reduceEq, Int.reduceNeg, Int.reduceToNat, Int.reduceLE, Int.reduceLT, hz, hK2'] <;> rfl) ?_
  refine dops_fn rfl (by simp only [fwA, ↓reduceIte, Nat.reduceAdd, Nat.reduceMul, Nat.reduceEqDiff, Nat.reduceLT, Nat.reduceLeDiff, reduceCtorEq] <;> rfl) rfl rfl en14 h14 ?_
  refine dops_fn rfl (by simp only [fwA, ↓reduceIte, Nat.reduceAdd, Nat.reduceMul, Nat.reduceEqDiff, Nat.reduceLT, Nat.reduceLeDiff, reduceCtorEq] <;> rfl) rfl rfl en13 h13 ?_
  refine dops_run 1 (by simp only [fwA, ↓reduceIte, Nat.reduceAdd, Nat.reduceMul, Nat.reduceEqDiff, Nat.reduceLT, Nat.reduceLeDiff, reduceCtorEq, bitfw, List.length_map, List.getElem?_map, Option.map_some, Int.natCast_nonneg, Int.toNat_natCast, decide_true, decide_false, Bool.and_true, Bool.and_self, Bool.not_true, Bool.not_false, Bool.false_and, Bool.true_and, Bool.or_false, Bool.false_or, el22, el23, el25, el26, el29, el32, el47, el79, el121, fl28_0, fl28_1, fl37_0, fl37_1, fl43_0, fl43_1, pl28, pl37, pl43, ti3, ti4, ti5, ti9, ti22, ti25, ti26, ti28, ti32, ti35, ti37, ti43, ti53, ti58, ti116, ti121, un3, un4, un5, un9, un22, un23, un25, un26, un29, un32, un35, un47, un53, un55, un58, un59, un79, un90, un113, un116, S1_fw, U1_fw, I1_fw, Pr.fw, So.fw, pl57, ti57, fl57_0, fl57_1, ti55, ti81, ne_eq, not_false_eq_true, not_true_eq_false, and_self, and_true, true_and, Int.reduceEq, Int.reduceNeg, Int.reduceToNat, Int.reduceLE, Int.reduceLT, hz, hK2'] <;> rfl) ?_
  refine dops_end ?_
  refine awp_cond (b := false) (by simp [alook, aput, ev]) (awp_skip ?_)
  refine awp_run rfl (by simp only [fwA, ↓reduceIte, Nat.reduceAdd, Nat.reduceMul, Nat.reduceEqDiff, Nat.reduceLT, Nat.reduceLeDiff, reduceCtorEq] <;> rfl) ?_
  exact ⟨i + 1, by omega, by omega, by simp only [fwA, ↓reduceIte, Nat.reduceAdd, Nat.reduceMul, Nat.reduceEqDiff, Nat.reduceLT, Nat.reduceLeDiff, reduceCtorEq, List.map_cons, List.map_nil, hwi], rfl, rfl⟩
/-- A pair whose right point is the top. -/
def topP (t : Nat) (p : Pr) : Pr := ⟨p.a, if p.b < 0 then -1 - (t : Int) else p.b⟩
def vTop (t : Nat) (v : Int) : So := ⟨v, (t : Int)⟩
theorem plain_pr (l : List Pr) (m : Nat) : PV.bdL m ((l.map Pr.enc).flatten) = true := flat_bd (fun t => by simp only [Pr.fw]) _
theorem plain_so (l : List So) (m : Nat) : PV.bdL m ((l.map So.enc).flatten) = true := flat_bd (fun t => by simp only [So.fw]) _
theorem plain_vec (ns : List (List UInt8)) (us : List Nat) (m : Nat) : PV.bdL m [.vec (ns.map S1) false, .vec (us.map U1) false] = true := rfl
set_option maxHeartbeats 16000000 in
/- chancel/chancellaw11.SolveTop -/
theorem c5 (Γ : Nat → PV) (hΓ : Tab64 Γ) (k : Int) (hk0 : 0 ≤ k) (c : List Pr) (ho : OkP c) : Gives Tryd.prog Γ 5 [.int .u8 k, .vec (c.map Pr.enc) false] (.bool true) := by
  have h8 := c8 Γ hΓ
  have h9 := c9 Γ
  obtain ⟨j, ns, us, ej, hget, hla, hR, hw⟩ := lats_at hk0
  obtain ⟨r1, r2, _, _, r5⟩ := right_spec hR
  have rp := r5.pos
  have hn : 0 < ns.length := by omega
  have h10 := c10 Γ ns us hn c ho
  have ho' := ptsV_ok (c := c) hn ho
  have hl' := ptsV_len ns.length c
  have hkn := ptsV_known (c := c) hR ho
  have hvr := fun x => ptsV_vars (x := x) hR ho
  refine fn_of_awp Tryd.func5 rfl (by simp [Tryd.f5]) rfl fun H => ?_
  refine awp_bd fun hbd => ?_
  refine awp_seq ?_
  refine awp_run rfl (by simp only [fwA, ↓reduceIte, Nat.reduceAdd, Nat.reduceMul, Nat.reduceEqDiff, Nat.reduceLT, Nat.reduceLeDiff, reduceCtorEq, bitfw, List.length_map, List.getElem?_map, Option.map_some, Int.natCast_nonneg, Int.toNat_natCast, decide_true, decide_false, Bool.and_true, Bool.and_self, Bool.not_true, Bool.not_false, Bool.false_and, Bool.true_and, Bool.or_false, Bool.false_or, el22, el23, el25, el26, el29, el32, el47, el79, el121, fl28_0, fl28_1, fl37_0, fl37_1, fl43_0, fl43_1, pl28, pl37, pl43, ti3, ti4, ti5, ti9, ti22, ti25, ti26, ti28, ti32, ti35, ti37, ti43, ti53, ti58, ti116, ti121, un3, un4, un5, un9, un22, un23, un25, un26, un29, un32, un35, un47, un53, un55, un58, un59, un79, un90, un113, un116, S1_fw, U1_fw, I1_fw, Pr.fw, So.fw, pl57, ti57, fl57_0, fl57_1, ti55, ti81, ne_eq, not_false_eq_true, not_true_eq_false, and_self, and_true, true_and, Int.reduceEq, Int.reduceNeg, Int.reduceToNat, Int.reduceLE, Int.reduceLT] <;> rfl) ?_
  refine awp_seq ?_
  refine awp_region rfl ?_
  refine aops_fn rfl rfl rfl en8 h8 ?_
  refine aops_run 1 (by simp only [fwA, ↓reduceIte, Nat.reduceAdd, Nat.reduceMul, Nat.reduceEqDiff, Nat.reduceLT, Nat.reduceLeDiff, reduceCtorEq, bitfw, List.length_map, List.getElem?_map, Option.map_some, Int.natCast_nonneg, Int.toNat_natCast, decide_true, decide_false, Bool.and_true, Bool.and_self, Bool.not_true, Bool.not_false, Bool.false_and, Bool.true_and, Bool.or_false, Bool.false_or, el22, el23, el25, el26, el29, el32, el47, el79, el121, fl28_0, fl28_1, fl37_0, fl37_1, fl43_0, fl43_1, pl28, pl37, pl43, ti3, ti4, ti5, ti9, ti22, ti25, ti26, ti28, ti32, ti35, ti37, ti43, ti53, ti58, ti116, ti121, un3, un4, un5, un9, un22, un23, un25, un26, un29, un32, un35, un47, un53, un55, un58, un59, un79, un90, un113, un116, S1_fw, U1_fw, I1_fw, Pr.fw, So.fw, pl57, ti57, fl57_0, fl57_1, ti55, ti81, ne_eq, not_false_eq_true, not_true_eq_false, and_self, and_true, true_and, Int.reduceEq, Int.reduceNeg, Int.reduceToNat, Int.reduceLE, Int.reduceLT] <;> rfl) ?_
  refine aops_end ?_
  refine awp_seq ?_
  refine awp_seq ?_
  refine awp_run rfl (by simp only [fwA, ↓reduceIte, Nat.reduceAdd, Nat.reduceMul, Nat.reduceEqDiff, Nat.reduceLT, Nat.reduceLeDiff, reduceCtorEq] <;> rfl) ?_
  refine awp_cond (b := false) (by simp [alook, aput, ev]) (awp_skip ?_)
  refine awp_seq ?_
  refine awp_region rfl ?_
  refine aops_fn rfl rfl rfl en9 h9 ?_
  refine aops_run 6 (by simp only [fwA, ↓reduceIte, Nat.reduceAdd, Nat.reduceMul, Nat.reduceEqDiff, Nat.reduceLT, Nat.reduceLeDiff, reduceCtorEq, bitfw, List.length_map, List.getElem?_map, Option.map_some, Int.natCast_nonneg, Int.toNat_natCast, decide_true, decide_false, Bool.and_true, Bool.and_self, Bool.not_true, Bool.not_false, Bool.false_and, Bool.true_and, Bool.or_false, Bool.false_or, el22, el23, el25, el26, el29, el32, el47, el79, el121, fl28_0, fl28_1, fl37_0, fl37_1, fl43_0, fl43_1, pl28, pl37, pl43, ti3, ti4, ti5, ti9, ti22, ti25, ti26, ti28, ti32, ti35, ti37, ti43, ti53, ti58, ti116, ti121, un3, un4, un5, un9, un22, un23, un25, un26, un29, un32, un35, un47, un53, un55, un58, un59, un79, un90, un113, un116, S1_fw, U1_fw, I1_fw, Pr.fw, So.fw, pl57, ti57, fl57_0, fl57_1, ti55, ti81, ne_eq, not_false_eq_true, not_true_eq_false, and_self, and_true, true_and, Int.reduceEq, Int.reduceNeg, Int.reduceToNat, Int.reduceLE, Int.reduceLT, ej, hget, hla] <;> rfl) ?_
  refine aops_end ?_
  refine awp_seq ?_
  have hne1 : ¬ (H.length + 1 = H.length) := by omega
  obtain ⟨tp, etp, htp⟩ := top_nat hR
  have htl := htp.1
  have h16 := c16 Γ hΓ ns us hw tp etp (by omega)
  have h18 := c18 Γ hΓ ns us hw
  rw [etp] at h18
  refine awp_run rfl (by simp only [fwA, ↓reduceIte, Nat.reduceAdd, Nat.reduceMul, Nat.reduceEqDiff, Nat.reduceLT, Nat.reduceLeDiff, reduceCtorEq] <;> rfl) ?_
  refine awp_seq ?_
  refine awp_run rfl (by simp only [fwA, ↓reduceIte, Nat.reduceAdd, Nat.reduceMul, Nat.reduceEqDiff, Nat.reduceLT, Nat.reduceLeDiff, reduceCtorEq] <;> rfl) ?_
  refine awp_told (told_adopt 7 2 (by decide) (by simp [alook])) ?_
  refine awp_told (told_adopt 8 2 (by decide) (by simp [alook])) ?_
  refine awp_heap (H' := H ++ [.box [.vec (ns.map S1) false, .vec (us.map U1) false], .row 2 (((([] : List Pr).map (topP tp)).map Pr.enc).flatten), .row 2 ((([] : List So).map So.enc).flatten)]) (by simp) ?_
  refine awp_seq ?_
  refine awp_seq ?_
  refine awp_region rfl ?_
  refine aops_run 2 (by simp only [fwA, ↓reduceIte, Nat.reduceAdd, Nat.reduceMul, Nat.reduceEqDiff, Nat.reduceLT, Nat.reduceLeDiff, reduceCtorEq, bitfw, List.length_map, List.getElem?_map, Option.map_some, Int.natCast_nonneg, Int.toNat_natCast, decide_true, decide_false, Bool.and_true, Bool.and_self, Bool.not_true, Bool.not_false, Bool.false_and, Bool.true_and, Bool.or_false, Bool.false_or, el22, el23, el25, el26, el29, el32, el47, el79, el121, fl28_0, fl28_1, fl37_0, fl37_1, fl43_0, fl43_1, pl28, pl37, pl43, ti3, ti4, ti5, ti9, ti22, ti25, ti26, ti28, ti32, ti35, ti37, ti43, ti53, ti58, ti116, ti121, un3, un4, un5, un9, un22, un23, un25, un26, un29, un32, un35, un47, un53, un55, un58, un59, un79, un90, un113, un116, S1_fw, U1_fw, I1_fw, Pr.fw, So.fw, pl57, ti57, fl57_0, fl57_1, ti55, ti81, ne_eq, not_false_eq_true, not_true_eq_false, and_self, and_true, true_and, Int.reduceEq, Int.reduceNeg, Int.reduceToNat, Int.reduceLE, Int.reduceLT] <;> rfl) ?_
  refine aops_fn rfl rfl rfl en10 h10 ?_
  refine aops_run 2 (by simp only [fwA, ↓reduceIte, Nat.reduceAdd, Nat.reduceMul, Nat.reduceEqDiff, Nat.reduceLT, Nat.reduceLeDiff, reduceCtorEq, bitfw, List.length_map, List.getElem?_map, Option.map_some, Int.natCast_nonneg, Int.toNat_natCast, decide_true, decide_false, Bool.and_true, Bool.and_self, Bool.not_true, Bool.not_false, Bool.false_and, Bool.true_and, Bool.or_false, Bool.false_or, el22, el23, el25, el26, el29, el32, el47, el79, el121, fl28_0, fl28_1, fl37_0, fl37_1, fl43_0, fl43_1, pl28, pl37, pl43, ti3, ti4, ti5, ti9, ti22, ti25, ti26, ti28, ti32, ti35, ti37, ti43, ti53, ti58, ti116, ti121, un3, un4, un5, un9, un22, un23, un25, un26, un29, un32, un35, un47, un53, un55, un58, un59, un79, un90, un113, un116, S1_fw, U1_fw, I1_fw, Pr.fw, So.fw, pl57, ti57, fl57_0, fl57_1, ti55, ti81, ne_eq, not_false_eq_true, not_true_eq_false, and_self, and_true, true_and, Int.reduceEq, Int.reduceNeg, Int.reduceToNat, Int.reduceLE, Int.reduceLT] <;> rfl) ?_
  refine aops_end ?_
  generalize ptsV ns.length c = d at *
  refine awp_block ?_
  refine awp_forG [5, 6, 7, 8, 25, 26, 27] (fun i : Nat => [.bool true, .ptr H.length 0, .row (H.length + 1) 0 i 2, .row (H.length + 2) 0 0 2, .vec (d.map Pr.enc) false, .int .i64 (d.length : Int), .int .i64 (i : Int)]) (fun i => H ++ [.box [.vec (ns.map S1) false, .vec (us.map U1) false], .row 2 ((((d.take i).map (topP tp)).map Pr.enc).flatten), .row 2 ((([] : List So).map So.enc).flatten)]) (fun i => d.length - i) (fun i => i ≤ d.length) 0 (by simp only [fwA, ↓reduceIte, Nat.reduceAdd, Nat.reduceMul, Nat.reduceEqDiff, Nat.reduceLT, Nat.reduceLeDiff, reduceCtorEq, List.map_cons, List.map_nil]; rfl) (by simp) (Nat.zero_le _) (fun i _ => ⟨bd_app hbd (by simp only [List.all_cons, List.all_nil, Blk.bd, Bool.and_true, plain_pr, plain_so, plain_vec, Bool.and_self]), by simp [PV.bdL, PV.bd]⟩) (fun _ _ b hb => by cases hb) fun i hi => ?_
  refine awp_seq ?_
  refine awp_run rfl (by simp only [fwA, ↓reduceIte, Nat.reduceAdd, Nat.reduceMul, Nat.reduceEqDiff, Nat.reduceLT, Nat.reduceLeDiff, reduceCtorEq] <;> rfl) ?_
  refine awp_seq ?_
  by_cases hc : (i : Int) < d.length
  rotate_left
  · refine awp_cond (b := false) (by simp [alook, aput, ev, hc]) ?_
    refine awp_exit ?_
    rw [show d.take i = d from List.take_of_length_le (by omega)]
    have hid : i = d.length := by omega
    subst hid
    refine awp_told (told_freezeAt H _ 1 (C := (((d.map (topP tp)).map Pr.enc).flatten)) rfl (plain_pr _ _)) ?_
    have hl1 := flat_len Pr.enc_len (d.map (topP tp))
    have hch := flat_chunk Pr.enc_len (d.map (topP tp))
    rw [List.length_map] at hl1 hch
    refine awp_keep (A' := [(5, .bool true), (6, .ptr H.length 0), (7, .vec ((d.map (topP tp)).map Pr.enc) false), (8, .row (H.length + 2) 0 0 2)]) [5, 6, 7, 8] (by simp only [fwA, ↓reduceIte, Nat.reduceAdd, Nat.reduceMul, Nat.reduceEqDiff, Nat.reduceLT, Nat.reduceLeDiff, reduceCtorEq, akeep, hl1, hch, List.map_cons, List.map_nil, hne1, false_and] <;> rfl) ?_
    refine awp_heap (H' := H ++ [.box [.vec (ns.map S1) false, .vec (us.map U1) false], .dead, .row 2 ((([] : List So).map So.enc).flatten)]) (by simp [frzB, frz]) ?_
    have hkd : knownB ns us (d.map (topP tp)) = true := by
      rw [known_spec] at hkn ⊢
      refine ⟨hR, fun p hp => ?_⟩
      obtain ⟨q, hq, rfl⟩ := List.mem_map.1 hp
      refine ⟨(hkn.2 q hq).1, fun h => ?_⟩
      show (-1 - (if q.b < 0 then -1 - (tp : Int) else q.b)).toNat < us.length
      by_cases h2 : q.b < 0
      · rw [if_pos h2]; omega
      · exfalso; have h : (if q.b < 0 then -1 - (tp : Int) else q.b) < 0 := h
        rw [if_neg h2] at h; exact h2 h
    have hod : OkP (d.map (topP tp)) := fun p hp => by
      obtain ⟨q, hq, rfl⟩ := List.mem_map.1 hp
      refine ⟨(ho' q hq).1, ?_⟩
      show I64 (if q.b < 0 then -1 - (tp : Int) else q.b)
      split
      · exact ⟨by omega, by omega⟩
      · exact (ho' q hq).2
    obtain ⟨tt1, tt2⟩ := top_solves (us := us) hkd etp (fun p hp h => by
      obtain ⟨q, hq, rfl⟩ := List.mem_map.1 hp
      have h : (if q.b < 0 then -1 - (tp : Int) else q.b) < 0 := h
      show (if q.b < 0 then -1 - (tp : Int) else q.b) = _
      by_cases h2 : q.b < 0
      · rw [if_pos h2]
      · rw [if_neg h2] at h; exact absurd h h2)
    have hld : (d.map (topP tp)).length ≤ 30 := by rw [List.length_map]; omega
    generalize d.map (topP tp) = e at *
    have h17 := c17 Γ e false (by omega)
    have hvl := both_le e
    rw [show ((gath gV e).map fun v => (⟨v, topV ns us⟩ : So)) = (gath gV e).map (vTop tp) by rw [etp]; rfl] at tt2
    generalize gath gV e = vs at *
    refine awp_seq ?_
    refine awp_seq ?_
    refine awp_region rfl ?_
    refine aops_run 1 (by simp only [fwA, ↓reduceIte, Nat.reduceAdd, Nat.reduceMul, Nat.reduceEqDiff, Nat.reduceLT, Nat.reduceLeDiff, reduceCtorEq, bitfw, List.length_map, List.getElem?_map, Option.map_some, Int.natCast_nonneg, Int.toNat_natCast, decide_true, decide_false, Bool.and_true, Bool.and_self, Bool.not_true, Bool.not_false, Bool.false_and, Bool.true_and, Bool.or_false, Bool.false_or, el22, el23, el25, el26, el29, el32, el47, el79, el121, fl28_0, fl28_1, fl37_0, fl37_1, fl43_0, fl43_1, pl28, pl37, pl43, ti3, ti4, ti5, ti9, ti22, ti25, ti26, ti28, ti32, ti35, ti37, ti43, ti53, ti58, ti116, ti121, un3, un4, un5, un9, un22, un23, un25, un26, un29, un32, un35, un47, un53, un55, un58, un59, un79, un90, un113, un116, S1_fw, U1_fw, I1_fw, Pr.fw, So.fw, pl57, ti57, fl57_0, fl57_1, ti55, ti81, ne_eq, not_false_eq_true, not_true_eq_false, and_self, and_true, true_and, Int.reduceEq, Int.reduceNeg, Int.reduceToNat, Int.reduceLE, Int.reduceLT] <;> rfl) ?_
    refine aops_fn rfl rfl rfl en17 h17 ?_
    refine aops_run 2 (by simp only [fwA, ↓reduceIte, Nat.reduceAdd, Nat.reduceMul, Nat.reduceEqDiff, Nat.reduceLT, Nat.reduceLeDiff, reduceCtorEq, bitfw, List.length_map, List.getElem?_map, Option.map_some, Int.natCast_nonneg, Int.toNat_natCast, decide_true, decide_false, Bool.and_true, Bool.and_self, Bool.not_true, Bool.not_false, Bool.false_and, Bool.true_and, Bool.or_false, Bool.false_or, el22, el23, el25, el26, el29, el32, el47, el79, el121, fl28_0, fl28_1, fl37_0, fl37_1, fl43_0, fl43_1, pl28, pl37, pl43, ti3, ti4, ti5, ti9, ti22, ti25, ti26, ti28, ti32, ti35, ti37, ti43, ti53, ti58, ti116, ti121, un3, un4, un5, un9, un22, un23, un25, un26, un29, un32, un35, un47, un53, un55, un58, un59, un79, un90, un113, un116, S1_fw, U1_fw, I1_fw, Pr.fw, So.fw, pl57, ti57, fl57_0, fl57_1, ti55, ti81, ne_eq, not_false_eq_true, not_true_eq_false, and_self, and_true, true_and, Int.reduceEq, Int.reduceNeg, Int.reduceToNat, Int.reduceLE, Int.reduceLT] <;> rfl) ?_
    refine aops_end ?_
    refine awp_block ?_
    refine awp_for [5, 6, 7, 8, 43, 44, 45] (fun i : Nat => [.bool true, .ptr H.length 0, .vec (e.map Pr.enc) false, .row (H.length + 2) 0 i 2, .vec (vs.map I1) false, .int .i64 (vs.length : Int), .int .i64 (i : Int)]) (fun i => H ++ [.box [.vec (ns.map S1) false, .vec (us.map U1) false], .dead, .row 2 ((((vs.take i).map (vTop tp)).map So.enc).flatten)]) (fun i => vs.length - i) (fun i => i ≤ vs.length) 0 rfl rfl (Nat.zero_le _) fun i hi => ?_
    refine awp_seq ?_
    refine awp_run rfl (by simp only [fwA, ↓reduceIte, Nat.reduceAdd, Nat.reduceMul, Nat.reduceEqDiff, Nat.reduceLT, Nat.reduceLeDiff, reduceCtorEq] <;> rfl) ?_
    refine awp_seq ?_
    by_cases hc : (i : Int) < vs.length
    rotate_left
    · refine awp_cond (b := false) (by simp [alook, aput, ev, hc]) ?_
      refine awp_exit ?_
      rw [show vs.take i = vs from List.take_of_length_le (by omega)]
      have hid : i = vs.length := by omega
      subst hid
      refine awp_told (told_freezeAt H _ 2 (C := (((vs.map (vTop tp)).map So.enc).flatten)) rfl (plain_so _ _)) ?_
      have hl1 := flat_len So.enc_len (vs.map (vTop tp))
      have hch := flat_chunk So.enc_len (vs.map (vTop tp))
      rw [List.length_map] at hl1 hch
      refine awp_keep (A' := [(5, .bool true), (6, .ptr H.length 0), (7, .vec (e.map Pr.enc) false), (8, .vec ((vs.map (vTop tp)).map So.enc) false)]) [5, 6, 7, 8] (by simp only [fwA, ↓reduceIte, Nat.reduceAdd, Nat.reduceMul, Nat.reduceEqDiff, Nat.reduceLT, Nat.reduceLeDiff, reduceCtorEq, akeep, hl1, hch, List.map_cons, List.map_nil] <;> rfl) ?_
      refine awp_heap (H' := H ++ [.box [.vec (ns.map S1) false, .vec (us.map U1) false], .dead, .dead]) (by simp [frzB, frz]) ?_
      have h11 := c11 Γ hΓ ns us hw e (by omega) hod
      have h12 := c12 Γ hΓ ns us hw e (by omega) hod (vs.map (vTop tp))
      rw [tt2] at h12
      generalize leastV ns us e = X at h11 tt1
      obtain ⟨s, ok⟩ := X
      have tt1' : ok = true := tt1
      subst tt1'
      refine awp_seq ?_
      refine awp_region rfl ?_
      refine aops_run 2 (by simp only [fwA, ↓reduceIte, Nat.reduceAdd, Nat.reduceMul, Nat.reduceEqDiff, Nat.reduceLT, Nat.reduceLeDiff, reduceCtorEq, bitfw, List.length_map, List.getElem?_map, Option.map_some, Int.natCast_nonneg, Int.toNat_natCast, decide_true, decide_false, Bool.and_true, Bool.and_self, Bool.not_true, Bool.not_false, Bool.false_and, Bool.true_and, Bool.or_false, Bool.false_or, el22, el23, el25, el26, el29, el32, el47, el79, el121, fl28_0, fl28_1, fl37_0, fl37_1, fl43_0, fl43_1, pl28, pl37, pl43, ti3, ti4, ti5, ti9, ti22, ti25, ti26, ti28, ti32, ti35, ti37, ti43, ti53, ti58, ti116, ti121, un3, un4, un5, un9, un22, un23, un25, un26, un29, un32, un35, un47, un53, un55, un58, un59, un79, un90, un113, un116, S1_fw, U1_fw, I1_fw, Pr.fw, So.fw, pl57, ti57, fl57_0, fl57_1, ti55, ti81, ne_eq, not_false_eq_true, not_true_eq_false, and_self, and_true, true_and, Int.reduceEq, Int.reduceNeg, Int.reduceToNat, Int.reduceLE, Int.reduceLT, leastEnc] <;> rfl) ?_
      refine aops_fn rfl rfl rfl en11 h11 ?_
      refine aops_run 5 (by simp only [fwA, ↓reduceIte, Nat.reduceAdd, Nat.reduceMul, Nat.reduceEqDiff, Nat.reduceLT, Nat.reduceLeDiff, reduceCtorEq, bitfw, List.length_map, List.getElem?_map, Option.map_some, Int.natCast_nonneg, Int.toNat_natCast, decide_true, decide_false, Bool.and_true, Bool.and_self, Bool.not_true, Bool.not_false, Bool.false_and, Bool.true_and, Bool.or_false, Bool.false_or, el22, el23, el25, el26, el29, el32, el47, el79, el121, fl28_0, fl28_1, fl37_0, fl37_1, fl43_0, fl43_1, pl28, pl37, pl43, ti3, ti4, ti5, ti9, ti22, ti25, ti26, ti28, ti32, ti35, ti37, ti43, ti53, ti58, ti116, ti121, un3, un4, un5, un9, un22, un23, un25, un26, un29, un32, un35, un47, un53, un55, un58, un59, un79, un90, un113, un116, S1_fw, U1_fw, I1_fw, Pr.fw, So.fw, pl57, ti57, fl57_0, fl57_1, ti55, ti81, ne_eq, not_false_eq_true, not_true_eq_false, and_self, and_true, true_and, Int.reduceEq, Int.reduceNeg, Int.reduceToNat, Int.reduceLE, Int.reduceLT, leastEnc] <;> rfl) ?_
      refine aops_end ?_
      refine awp_seq ?_
      refine awp_region rfl ?_
      refine aops_run 8 (by simp only [fwA, ↓reduceIte, Nat.reduceAdd, Nat.reduceMul, Nat.reduceEqDiff, Nat.reduceLT, Nat.reduceLeDiff, reduceCtorEq, bitfw, List.length_map, List.getElem?_map, Option.map_some, Int.natCast_nonneg, Int.toNat_natCast, decide_true, decide_false, Bool.and_true, Bool.and_self, Bool.not_true, Bool.not_false, Bool.false_and, Bool.true_and, Bool.or_false, Bool.false_or, el22, el23, el25, el26, el29, el32, el47, el79, el121, fl28_0, fl28_1, fl37_0, fl37_1, fl43_0, fl43_1, pl28, pl37, pl43, ti3, ti4, ti5, ti9, ti22, ti25, ti26, ti28, ti32, ti35, ti37, ti43, ti53, ti58, ti116, ti121, un3, un4, un5, un9, un22, un23, un25, un26, un29, un32, un35, un47, un53, un55, un58, un59, un79, un90, un113, un116, S1_fw, U1_fw, I1_fw, Pr.fw, So.fw, pl57, ti57, fl57_0, fl57_1, ti55, ti81, ne_eq, not_false_eq_true, not_true_eq_false, and_self, and_true, true_and, Int.reduceEq, Int.reduceNeg, Int.reduceToNat, Int.reduceLE, Int.reduceLT] <;> rfl) ?_
      refine aops_fnIf rfl rfl rfl rfl rfl en12 h12 ?_
      refine aops_run 2 (by simp only [fwA, ↓reduceIte, Nat.reduceAdd, Nat.reduceMul, Nat.reduceEqDiff, Nat.reduceLT, Nat.reduceLeDiff, reduceCtorEq, bitfw, List.length_map, List.getElem?_map, Option.map_some, Int.natCast_nonneg, Int.toNat_natCast, decide_true, decide_false, Bool.and_true, Bool.and_self, Bool.not_true, Bool.not_false, Bool.false_and, Bool.true_and, Bool.or_false, Bool.false_or, el22, el23, el25, el26, el29, el32, el47, el79, el121, fl28_0, fl28_1, fl37_0, fl37_1, fl43_0, fl43_1, pl28, pl37, pl43, ti3, ti4, ti5, ti9, ti22, ti25, ti26, ti28, ti32, ti35, ti37, ti43, ti53, ti58, ti116, ti121, un3, un4, un5, un9, un22, un23, un25, un26, un29, un32, un35, un47, un53, un55, un58, un59, un79, un90, un113, un116, S1_fw, U1_fw, I1_fw, Pr.fw, So.fw, pl57, ti57, fl57_0, fl57_1, ti55, ti81, ne_eq, not_false_eq_true, not_true_eq_false, and_self, and_true, true_and, Int.reduceEq, Int.reduceNeg, Int.reduceToNat, Int.reduceLE, Int.reduceLT] <;> rfl) ?_
      refine aops_end ?_
      refine awp_ret ?_
      exact gives_end (.inl rfl) _ rfl
    have hi' : i < vs.length := by omega
    obtain ⟨z, hz⟩ : ∃ z, vs[i]? = some z := ⟨_, List.getElem?_eq_getElem hi'⟩
    have hts := take_snoc hz
    have hwi : IntKind.i64.wrap ((i : Int) + 1) = ((i + 1 : Nat) : Int) := wrapS i (by omega)
    refine awp_cond (b := true) (by simp [alook, aput, ev, hc]) ?_
    refine awp_skip ?_
    refine awp_seq ?_
    refine awp_block ?_
    refine awp_seq ?_
    refine awp_run rfl (by simp only [fwA, ↓reduceIte, Nat.reduceAdd, Nat.reduceMul, Nat.reduceEqDiff, Nat.reduceLT, Nat.reduceLeDiff, reduceCtorEq, bitfw, List.length_map, List.getElem?_map, Option.map_some, Int.natCast_nonneg, Int.toNat_natCast, decide_true, decide_false, Bool.and_true, Bool.and_self, Bool.not_true, Bool.not_false, Bool.false_and, Bool.true_and, Bool.or_false, Bool.false_or, el22, el23, el25, el26, el29, el32, el47, el79, el121, fl28_0, fl28_1, fl37_0, fl37_1, fl43_0, fl43_1, pl28, pl37, pl43, ti3, ti4, ti5, ti9, ti22, ti25, ti26, ti28, ti32, ti35, ti37, ti43, ti53, ti58, ti116, ti121, un3, un4, un5, un9, un22, un23, un25, un26, un29, un32, un35, un47, un53, un55, un58, un59, un79, un90, un113, un116, S1_fw, U1_fw, I1_fw, Pr.fw, So.fw, pl57, ti57, fl57_0, fl57_1, ti55, ti81, ne_eq, not_false_eq_true, not_true_eq_false, and_self, and_true, true_and, Int.reduceEq, Int.reduceNeg, Int.reduceToNat, Int.reduceLE, Int.reduceLT, hz] <;> rfl) ?_
    refine awp_region rfl ?_
    refine aops_run 3 (by simp only [fwA, ↓reduceIte, Nat.reduceAdd, Nat.reduceMul, Nat.reduceEqDiff, Nat.reduceLT, Nat.reduceLeDiff, reduceCtorEq, bitfw, List.length_map, List.getElem?_map, Option.map_some, Int.natCast_nonneg, Int.toNat_natCast, decide_true, decide_false, Bool.and_true, Bool.and_self, Bool.not_true, Bool.not_false, Bool.false_and, Bool.true_and, Bool.or_false, Bool.false_or, el22, el23, el25, el26, el29, el32, el47, el79, el121, fl28_0, fl28_1, fl37_0, fl37_1, fl43_0, fl43_1, pl28, pl37, pl43, ti3, ti4, ti5, ti9, ti22, ti25, ti26, ti28, ti32, ti35, ti37, ti43, ti53, ti58, ti116, ti121, un3, un4, un5, un9, un22, un23, un25, un26, un29, un32, un35, un47, un53, un55, un58, un59, un79, un90, un113, un116, S1_fw, U1_fw, I1_fw, Pr.fw, So.fw, pl57, ti57, fl57_0, fl57_1, ti55, ti81, ne_eq, not_false_eq_true, not_true_eq_false, and_self, and_true, true_and, Int.reduceEq, Int.reduceNeg, Int.reduceToNat, Int.reduceLE, Int.reduceLT] <;> rfl) ?_
    refine aops_fn rfl rfl rfl en18 h18 ?_
    refine aops_run 2 (by simp only [fwA, ↓reduceIte, Nat.reduceAdd, Nat.reduceMul, Nat.reduceEqDiff, Nat.reduceLT, Nat.reduceLeDiff, reduceCtorEq, bitfw, List.length_map, List.getElem?_map, Option.map_some, Int.natCast_nonneg, Int.toNat_natCast, decide_true, decide_false, Bool.and_true, Bool.and_self, Bool.not_true, Bool.not_false, Bool.false_and, Bool.true_and, Bool.or_false, Bool.false_or, el22, el23, el25, el26, el29, el32, el47, el79, el121, fl28_0, fl28_1, fl37_0, fl37_1, fl43_0, fl43_1, pl28, pl37, pl43, ti3, ti4, ti5, ti9, ti22, ti25, ti26, ti28, ti32, ti35, ti37, ti43, ti53, ti58, ti116, ti121, un3, un4, un5, un9, un22, un23, un25, un26, un29, un32, un35, un47, un53, un55, un58, un59, un79, un90, un113, un116, S1_fw, U1_fw, I1_fw, Pr.fw, So.fw, pl57, ti57, fl57_0, fl57_1, ti55, ti81, ne_eq, not_false_eq_true, not_true_eq_false, and_self, and_true, true_and, Int.reduceEq, Int.reduceNeg, Int.reduceToNat, Int.reduceLE, Int.reduceLT] <;> rfl) ?_
    refine aops_push (enc := So.enc) (l := (vs.take i).map (vTop tp)) (z := vTop tp z) So.enc_len rfl rfl un32 ti37 rfl un32 rfl (by simp [Fw.get_at]) (by rw [List.length_map, List.length_take]; omega) rfl (by show (i + 1) * 16 ≤ _; omega) (by omega) rfl ?_
    refine aops_run 1 (by simp only [fwA, ↓reduceIte, Nat.reduceAdd, Nat.reduceMul, Nat.reduceEqDiff, Nat.reduceLT, Nat.reduceLeDiff, reduceCtorEq, bitfw, List.length_map, List.getElem?_map, Option.map_some, Int.natCast_nonneg, Int.toNat_natCast, decide_true, decide_false, Bool.and_true, Bool.and_self, Bool.not_true, Bool.not_false, Bool.false_and, Bool.true_and, Bool.or_false, Bool.false_or, el22, el23, el25, el26, el29, el32, el47, el79, el121, fl28_0, fl28_1, fl37_0, fl37_1, fl43_0, fl43_1, pl28, pl37, pl43, ti3, ti4, ti5, ti9, ti22, ti25, ti26, ti28, ti32, ti35, ti37, ti43, ti53, ti58, ti116, ti121, un3, un4, un5, un9, un22, un23, un25, un26, un29, un32, un35, un47, un53, un55, un58, un59, un79, un90, un113, un116, S1_fw, U1_fw, I1_fw, Pr.fw, So.fw, pl57, ti57, fl57_0, fl57_1, ti55, ti81, ne_eq, not_false_eq_true, not_true_eq_false, and_self, and_true, true_and, Int.reduceEq, Int.reduceNeg, Int.reduceToNat, Int.reduceLE, Int.reduceLT] <;> rfl) ?_
    refine aops_end ?_
    refine awp_run rfl (by simp only [fwA, ↓reduceIte, Nat.reduceAdd, Nat.reduceMul, Nat.reduceEqDiff, Nat.reduceLT, Nat.reduceLeDiff, reduceCtorEq] <;> rfl) ?_
    refine ⟨i + 1, by omega, by omega, by simp only [fwA, ↓reduceIte, Nat.reduceAdd, Nat.reduceMul, Nat.reduceEqDiff, Nat.reduceLT, Nat.reduceLeDiff, reduceCtorEq, List.map_cons, List.map_nil, hwi], ?_, rfl⟩
    rw [hts, List.map_append]
    simp [Fw.set_at, vTop]
  have hi' : i < d.length := by omega
  obtain ⟨z, hz⟩ : ∃ z, d[i]? = some z := ⟨_, List.getElem?_eq_getElem hi'⟩
  have hts := take_snoc hz
  have hwi : IntKind.i64.wrap ((i : Int) + 1) = ((i + 1 : Nat) : Int) := wrapS i (by omega)
  have h15 := c15 Γ z.b
  refine awp_cond (b := true) (by simp [alook, aput, ev, hc]) ?_
  refine awp_skip ?_
  refine awp_seq ?_
  refine awp_block ?_
  refine awp_seq ?_
  refine awp_run rfl (by simp only [fwA, ↓reduceIte, Nat.reduceAdd, Nat.reduceMul, Nat.reduceEqDiff, Nat.reduceLT, Nat.reduceLeDiff, reduceCtorEq, bitfw, List.length_map, List.getElem?_map, Option.map_some, Int.natCast_nonneg, Int.toNat_natCast, decide_true, decide_false, Bool.and_true, Bool.and_self, Bool.not_true, Bool.not_false, Bool.false_and, Bool.true_and, Bool.or_false, Bool.false_or, el22, el23, el25, el26, el29, el32, el47, el79, el121, fl28_0, fl28_1, fl37_0, fl37_1, fl43_0, fl43_1, pl28, pl37, pl43, ti3, ti4, ti5, ti9, ti22, ti25, ti26, ti28, ti32, ti35, ti37, ti43, ti53, ti58, ti116, ti121, un3, un4, un5, un9, un22, un23, un25, un26, un29, un32, un35, un47, un53, un55, un58, un59, un79, un90, un113, un116, S1_fw, U1_fw, I1_fw, Pr.fw, So.fw, pl57, ti57, fl57_0, fl57_1, ti55, ti81, ne_eq, not_false_eq_true, not_true_eq_false, and_self, and_true, true_and, Int.reduceEq, Int.reduceNeg, Int.reduceToNat, Int.reduceLE, Int.reduceLT, hz] <;> rfl) ?_
  refine awp_join [5, 6, 7, 8, 10, 25, 26, 27] (fun _ : Unit => [.bool true, .ptr H.length 0, .row (H.length + 1) 0 i 2, .row (H.length + 2) 0 0 2, .ptr (H.length + 3) 0, .vec (d.map Pr.enc) false, .int .i64 (d.length : Int), .int .i64 (i : Int)]) (fun _ => H ++ [.box [.vec (ns.map S1) false, .vec (us.map U1) false], .row 2 ((((d.take i).map (topP tp)).map Pr.enc).flatten), .row 2 ((([] : List So).map So.enc).flatten), .box (topP tp z).enc]) (fun _ => True) ?_ fun _ _ => ?_
  · refine awp_seq ?_
    refine awp_region rfl ?_
    refine aops_run 2 (by simp only [fwA, ↓reduceIte, Nat.reduceAdd, Nat.reduceMul, Nat.reduceEqDiff, Nat.reduceLT, Nat.reduceLeDiff, reduceCtorEq, bitfw, List.length_map, List.getElem?_map, Option.map_some, Int.natCast_nonneg, Int.toNat_natCast, decide_true, decide_false, Bool.and_true, Bool.and_self, Bool.not_true, Bool.not_false, Bool.false_and, Bool.true_and, Bool.or_false, Bool.false_or, el22, el23, el25, el26, el29, el32, el47, el79, el121, fl28_0, fl28_1, fl37_0, fl37_1, fl43_0, fl43_1, pl28, pl37, pl43, ti3, ti4, ti5, ti9, ti22, ti25, ti26, ti28, ti32, ti35, ti37, ti43, ti53, ti58, ti116, ti121, un3, un4, un5, un9, un22, un23, un25, un26, un29, un32, un35, un47, un53, un55, un58, un59, un79, un90, un113, un116, S1_fw, U1_fw, I1_fw, Pr.fw, So.fw, pl57, ti57, fl57_0, fl57_1, ti55, ti81, ne_eq, not_false_eq_true, not_true_eq_false, and_self, and_true, true_and, Int.reduceEq, Int.reduceNeg, Int.reduceToNat, Int.reduceLE, Int.reduceLT] <;> rfl) ?_
    refine aops_fn rfl rfl rfl en15 h15 ?_
    refine aops_end ?_
    by_cases hb : z.b < 0
    · refine awp_cond (b := true) (by simp [alook, aput, ev, hb]) ?_
      refine awp_region rfl ?_
      refine aops_run 1 (by simp only [fwA, ↓reduceIte, Nat.reduceAdd, Nat.reduceMul, Nat.reduceEqDiff, Nat.reduceLT, Nat.reduceLeDiff, reduceCtorEq, bitfw, List.length_map, List.getElem?_map, Option.map_some, Int.natCast_nonneg, Int.toNat_natCast, decide_true, decide_false, Bool.and_true, Bool.and_self, Bool.not_true, Bool.not_false, Bool.false_and, Bool.true_and, Bool.or_false, Bool.false_or, el22, el23, el25, el26, el29, el32, el47, el79, el121, fl28_0, fl28_1, fl37_0, fl37_1, fl43_0, fl43_1, pl28, pl37, pl43, ti3, ti4, ti5, ti9, ti22, ti25, ti26, ti28, ti32, ti35, ti37, ti43, ti53, ti58, ti116, ti121, un3, un4, un5, un9, un22, un23, un25, un26, un29, un32, un35, un47, un53, un55, un58, un59, un79, un90, un113, un116, S1_fw, U1_fw, I1_fw, Pr.fw, So.fw, pl57, ti57, fl57_0, fl57_1, ti55, ti81, ne_eq, not_false_eq_true, not_true_eq_false, and_self, and_true, true_and, Int.reduceEq, Int.reduceNeg, Int.reduceToNat, Int.reduceLE, Int.reduceLT] <;> rfl) ?_
      refine aops_fn rfl rfl rfl en16 h16 ?_
      refine aops_run 2 (by simp only [fwA, ↓reduceIte, Nat.reduceAdd, Nat.reduceMul, Nat.reduceEqDiff, Nat.reduceLT, Nat.reduceLeDiff, reduceCtorEq, bitfw, List.length_map, List.getElem?_map, Option.map_some, Int.natCast_nonneg, Int.toNat_natCast, decide_true, decide_false, Bool.and_true, Bool.and_self, Bool.not_true, Bool.not_false, Bool.false_and, Bool.true_and, Bool.or_false, Bool.false_or, el22, el23, el25, el26, el29, el32, el47, el79, el121, fl28_0, fl28_1, fl37_0, fl37_1, fl43_0, fl43_1, pl28, pl37, pl43, ti3, ti4, ti5, ti9, ti22, ti25, ti26, ti28, ti32, ti35, ti37, ti43, ti53, ti58, ti116, ti121, un3, un4, un5, un9, un22, un23, un25, un26, un29, un32, un35, un47, un53, un55, un58, un59, un79, un90, un113, un116, S1_fw, U1_fw, I1_fw, Pr.fw, So.fw, pl57, ti57, fl57_0, fl57_1, ti55, ti81, ne_eq, not_false_eq_true, not_true_eq_false, and_self, and_true, true_and, Int.reduceEq, Int.reduceNeg, Int.reduceToNat, Int.reduceLE, Int.reduceLT] <;> rfl) ?_
      refine aops_end ?_
      refine ⟨(), trivial, by simp only [fwA, ↓reduceIte, Nat.reduceAdd, Nat.reduceMul, Nat.reduceEqDiff, Nat.reduceLT, Nat.reduceLeDiff, reduceCtorEq, List.map_cons, List.map_nil], ?_, rfl⟩
      simp [topP, hb, Pr.enc]
    · refine awp_cond (b := false) (by simp [alook, aput, ev, hb]) (awp_skip ?_)
      refine ⟨(), trivial, by simp only [fwA, ↓reduceIte, Nat.reduceAdd, Nat.reduceMul, Nat.reduceEqDiff, Nat.reduceLT, Nat.reduceLeDiff, reduceCtorEq, List.map_cons, List.map_nil], ?_, rfl⟩
      simp [topP, hb, Pr.enc]
  refine awp_region rfl ?_
  refine aops_run 3 (by simp only [fwA, ↓reduceIte, Nat.reduceAdd, Nat.reduceMul, Nat.reduceEqDiff, Nat.reduceLT, Nat.reduceLeDiff, reduceCtorEq, bitfw, List.length_map, List.getElem?_map, Option.map_some, Int.natCast_nonneg, Int.toNat_natCast, decide_true, decide_false, Bool.and_true, Bool.and_self, Bool.not_true, Bool.not_false, Bool.false_and, Bool.true_and, Bool.or_false, Bool.false_or, el22, el23, el25, el26, el29, el32, el47, el79, el121, fl28_0, fl28_1, fl37_0, fl37_1, fl43_0, fl43_1, pl28, pl37, pl43, ti3, ti4, ti5, ti9, ti22, ti25, ti26, ti28, ti32, ti35, ti37, ti43, ti53, ti58, ti116, ti121, un3, un4, un5, un9, un22, un23, un25, un26, un29, un32, un35, un47, un53, un55, un58, un59, un79, un90, un113, un116, S1_fw, U1_fw, I1_fw, Pr.fw, So.fw, pl57, ti57, fl57_0, fl57_1, ti55, ti81, ne_eq, not_false_eq_true, not_true_eq_false, and_self, and_true, true_and, Int.reduceEq, Int.reduceNeg, Int.reduceToNat, Int.reduceLE, Int.reduceLT] <;> rfl) ?_
  refine aops_push (enc := Pr.enc) (l := (d.take i).map (topP tp)) (z := topP tp z) Pr.enc_len rfl rfl un22 ti43 rfl un22 rfl (by simp [Fw.get_at]) (by rw [List.length_map, List.length_take]; omega) rfl (by show (i + 1) * 16 ≤ _; omega) (by omega) rfl ?_
  refine aops_run 1 (by simp only [fwA, ↓reduceIte, Nat.reduceAdd, Nat.reduceMul, Nat.reduceEqDiff, Nat.reduceLT, Nat.reduceLeDiff, reduceCtorEq, bitfw, List.length_map, List.getElem?_map, Option.map_some, Int.natCast_nonneg, Int.toNat_natCast, decide_true, decide_false, Bool.and_true, Bool.and_self, Bool.not_true, Bool.not_false, Bool.false_and, Bool.true_and, Bool.or_false, Bool.false_or, el22, el23, el25, el26, el29, el32, el47, el79, el121, fl28_0, fl28_1, fl37_0, fl37_1, fl43_0, fl43_1, pl28, pl37, pl43, ti3, ti4, ti5, ti9, ti22, ti25, ti26, ti28, ti32, ti35, ti37, ti43, ti53, ti58, ti116, ti121, un3, un4, un5, un9, un22, un23, un25, un26, un29, un32, un35, un47, un53, un55, un58, un59, un79, un90, un113, un116, S1_fw, U1_fw, I1_fw, Pr.fw, So.fw, pl57, ti57, fl57_0, fl57_1, ti55, ti81, ne_eq, not_false_eq_true, not_true_eq_false, and_self, and_true, true_and, Int.reduceEq, Int.reduceNeg, Int.reduceToNat, Int.reduceLE, Int.reduceLT] <;> rfl) ?_
  refine aops_end ?_
  refine awp_run rfl (by simp only [fwA, ↓reduceIte, Nat.reduceAdd, Nat.reduceMul, Nat.reduceEqDiff, Nat.reduceLT, Nat.reduceLeDiff, reduceCtorEq] <;> rfl) ?_
  refine ⟨i + 1, [.box (topP tp z).enc], by omega, by omega, by simp only [fwA, ↓reduceIte, Nat.reduceAdd, Nat.reduceMul, Nat.reduceEqDiff, Nat.reduceLT, Nat.reduceLeDiff, reduceCtorEq, List.map_cons, List.map_nil, hwi], ?_, rfl, by simp⟩
  rw [hts, List.map_append]
  simp [Fw.set_at]
end Go.Proofs.YtpkpbfemglmejaaDoor
