/- The chapter's examples; points. -/
import Derived.Test.YtdacialfjlcboaaGreatDoorWG
namespace Go.Proofs.YtdacialfjlcboaaGreatDoor
set_option linter.unusedVariables false
set_option linter.unusedSimpArgs false
set_option maxRecDepth 100000
open Go.RowKit Fw

theorem vle (es : List (List PV)) : PV.le (.vec es true) (.vec es false) := ⟨nofun, PV.leLL_refl es⟩
theorem loHi : ([[76, 111], [72, 105]] : List (List UInt8)) = [[76, 111], [72, 105]] := rfl
def exL : List Pr := [⟨3, 0⟩, ⟨2, 2⟩, ⟨-2, 3⟩, ⟨3, 0⟩]
def exN : List Pr := [⟨-2, 3⟩, ⟨3, 0⟩]
theorem exNorm : normL exL = exN := by
  refine normL_is ?_ fun x => ?_
  · unfold exN
    simp [ltP]
  · obtain ⟨a, b⟩ := x
    simp only [exN, exL, List.mem_cons, Pr.mk.injEq, List.not_mem_nil, or_false, unl, like, Bool.not_eq_true', decide_eq_false_iff_not]
    omega
theorem exVars : gath gV exN = [0, 3] := by
  refine onceI_is (by simp) fun x => ?_
  simp [exN, outsP, outs, gV]
  omega
theorem exPoints : gath gP exN = [1] := by
  refine onceI_is (by simp) fun x => ?_
  simp [exN, outsP, outs, gP, pointOf]
theorem exShift : exN.map (Pr.map (shI 2)) = [⟨-2, 5⟩, ⟨5, 2⟩] := by decide
theorem exRen : exN.map (Pr.map (renI [3, -2] [7])) = [⟨-2, 7⟩, ⟨7, 0⟩] := by decide
theorem itoa_nat {a : Int} (h : 0 ≤ a) : Lib.itoa a = Lib.decDigits a.toNat := by
  obtain ⟨n, rfl⟩ : ∃ n : Nat, a = n := ⟨a.toNat, by omega⟩
  rw [Lib.itoa_nonneg]; rfl
theorem exTexts : textsL [[76, 111], [72, 105]] exN = [72, 105, 32, 60, 61, 32, 39, 51, 44, 32, 39, 51, 32, 60, 61, 32, 39, 48] := by
  have h3 : Lib.itoa 3 = [51] := by rw [itoa_nat (by decide), dec_one (by decide)]; rfl
  have h0 : Lib.itoa 0 = [48] := by rw [itoa_nat (by decide), dec_one (by decide)]; rfl
  have ha : atomT [[76, 111], [72, 105]] 3 = [39, 51] := by unfold atomT; rw [if_pos (by decide), h3]
  have hb : atomT [[76, 111], [72, 105]] 0 = [39, 48] := by unfold atomT; rw [if_pos (by decide), h0]
  have hc : atomT [[76, 111], [72, 105]] (-2) = [72, 105] := by unfold atomT; rw [if_neg (by decide)]; rfl
  unfold textsL exN
  rw [if_neg (by simp)]
  simp only [List.map_cons, List.map_nil, pairT, ha, hb, hc]
  rfl
theorem okN : OkP exN := fun p hp => by
  simp only [exN, List.mem_cons, List.not_mem_nil, or_false] at hp
  rcases hp with rfl | rfl <;> exact ⟨⟨by decide, by decide⟩, ⟨by decide, by decide⟩⟩

set_option maxHeartbeats 4000000 in
/-- chancellaw10.examples -/
theorem c9 (Γ : Nat → PV) (hΓ : Tab Γ) : Gives Tryz.prog Γ 9 [] (.bool true) := by
  have h1 := c23 Γ 1 ⟨by decide, by decide⟩
  rw [show (if (1 : Int) < 0 then (0 : Int) else -1 - 1) = -2 by decide] at h1
  have h2 : Gives Tryz.prog Γ 17 [.vec [[.int .i64 3, .int .i64 0], [.int .i64 2, .int .i64 2], [.int .i64 (-2), .int .i64 3], [.int .i64 3, .int .i64 0]] true] (.vec [[.int .i64 (-2), .int .i64 3], [.int .i64 3, .int .i64 0]] false) := by
    have := c17 Γ exL true (by decide)
    rw [exNorm] at this; exact this
  have h3 : Gives Tryz.prog Γ 12 [.vec [[.int .i64 (-2), .int .i64 3], [.int .i64 3, .int .i64 0]] false] (.vec [[.int .i64 0], [.int .i64 3]] false) := by
    have := c12 Γ exN false (by decide)
    rw [exVars] at this; exact this
  have h4 : Gives Tryz.prog Γ 14 [.vec [[.int .i64 (-2), .int .i64 3], [.int .i64 3, .int .i64 0]] false] (.vec [[.int .i64 1]] false) := by
    have := c14 Γ exN false (by decide) okN
    rw [exPoints] at this; exact this
  have h5 : Gives Tryz.prog Γ 19 [.vec [[.int .i64 (-2), .int .i64 3], [.int .i64 3, .int .i64 0]] false, .int .i64 2] (.vec [[.int .i64 (-2), .int .i64 5], [.int .i64 5, .int .i64 2]] false) := by
    have := c19 Γ 2 exN (by decide)
    rw [exShift] at this; exact this
  have h6 : Gives Tryz.prog Γ 21 [.vec [[.int .i64 (-2), .int .i64 3], [.int .i64 3, .int .i64 0]] false, .vec [[.int .i64 3], [.int .i64 (-2)]] true, .vec [[.int .i64 7]] true] (.vec [[.int .i64 (-2), .int .i64 7], [.int .i64 7, .int .i64 0]] false) := by
    have := c21 Γ [3, -2] [7] exN (by decide)
    rw [exRen] at this
    exact this.args ⟨PV.le_refl _, vle _, vle _, trivial⟩
  have h7 := c27 Γ (-2)
  rw [show decide ((-2 : Int) < 0) = true by decide] at h7
  have h8 := c25 Γ (-2) ⟨by decide, by decide⟩
  rw [show pointOf (-2) = 1 by decide] at h8
  have h9 := c25 Γ 4 ⟨by decide, by decide⟩
  rw [show pointOf 4 = -1 by decide] at h9
  have h10 : Gives Tryz.prog Γ 30 [.vec [[.str [76, 111]], [.str [72, 105]]] true, .vec [[.int .i64 (-2), .int .i64 3], [.int .i64 3, .int .i64 0]] false] (.str [72, 105, 32, 60, 61, 32, 39, 51, 44, 32, 39, 51, 32, 60, 61, 32, 39, 48]) := by
    have := c30 Γ hΓ [[76, 111], [72, 105]] exN false (by decide) okN (fun s hs => by
      simp only [List.mem_cons, List.not_mem_nil, or_false] at hs
      rcases hs with rfl | rfl <;> decide)
    rw [exTexts] at this
    exact this.args ⟨vle _, PV.le_refl _, trivial⟩
  have h11 : Gives Tryz.prog Γ 30 [.vec [] true, .vec [] true] (.str [45]) := by
    have := c30 Γ hΓ [] [] true (by decide) (fun p hp => nomatch hp) (fun s hs => nomatch hs)
    exact this.args ⟨vle _, PV.le_refl _, trivial⟩
  have h12 : Gives Tryz.prog Γ 28 [.vec [] true, .int .i64 (-2)] (.str [63]) := by
    have := c28 Γ hΓ [] (-2) ⟨by decide, by decide⟩
    exact this.args ⟨vle _, PV.le_refl _, trivial⟩
  refine fn_of_awp Tryz.func9 rfl (by simp [Tryz.f9]) rfl fun H => ?_
  refine awp_seq ?_
  refine awp_run rfl (by simp only [fwA, ↓reduceIte, Nat.reduceAdd, Nat.reduceMul, Nat.reduceEqDiff, Nat.reduceLT, Nat.reduceLeDiff, reduceCtorEq] <;> rfl) ?_
  refine awp_seq ?_
  refine awp_region rfl ?_
  refine aops_fn rfl rfl rfl en23 h1 ?_
  refine aops_run 1 (by simp only [fwA, ↓reduceIte, Nat.reduceAdd, Nat.reduceMul, Nat.reduceEqDiff, Nat.reduceLT, Nat.reduceLeDiff, reduceCtorEq, Pr.fw, ti53, pl53, un22, ti24, ti3, ti9, un23, un25, un29, un9, el22, el23, el29, eq53, fl53_0, Int.reduceEq, Int.reduceToNat, Int.reduceNeg, decide_true, decide_false, Bool.and_true, Bool.and_self, Bool.not_true, Bool.not_false, ne_eq, Int.reduceLE] <;> rfl) ?_
  refine aops_end ?_
  refine awp_seq ?_
  refine awp_region rfl ?_
  refine aops_run 6 (by simp only [fwA, ↓reduceIte, Nat.reduceAdd, Nat.reduceMul, Nat.reduceEqDiff, Nat.reduceLT, Nat.reduceLeDiff, reduceCtorEq, Pr.fw, ti53, pl53, un22, ti24, ti3, ti9, un23, un25, un29, un9, el22, el23, el29, eq53, fl53_0, Int.reduceEq, Int.reduceToNat, Int.reduceNeg, decide_true, decide_false, Bool.and_true, Bool.and_self, Bool.not_true, Bool.not_false, ne_eq, Int.reduceLE] <;> rfl) ?_
  refine aops_fn rfl rfl rfl en17 h2 ?_
  refine aops_run 1 (by simp only [fwA, ↓reduceIte, Nat.reduceAdd, Nat.reduceMul, Nat.reduceEqDiff, Nat.reduceLT, Nat.reduceLeDiff, reduceCtorEq, Pr.fw, ti53, pl53, un22, ti24, ti3, ti9, un23, un25, un29, un9, el22, el23, el29, eq53, fl53_0, Int.reduceEq, Int.reduceToNat, Int.reduceNeg, decide_true, decide_false, Bool.and_true, Bool.and_self, Bool.not_true, Bool.not_false, ne_eq, Int.reduceLE] <;> rfl) ?_
  refine aops_end ?_
  refine awp_seq ?_
  refine awp_region rfl ?_
  refine aops_run 1 (by simp only [fwA, ↓reduceIte, Nat.reduceAdd, Nat.reduceMul, Nat.reduceEqDiff, Nat.reduceLT, Nat.reduceLeDiff, reduceCtorEq, Pr.fw, ti53, pl53, un22, ti24, ti3, ti9, un23, un25, un29, un9, el22, el23, el29, eq53, fl53_0, Int.reduceEq, Int.reduceToNat, Int.reduceNeg, decide_true, decide_false, Bool.and_true, Bool.and_self, Bool.not_true, Bool.not_false, ne_eq, Int.reduceLE] <;> rfl) ?_
  refine aops_fn rfl rfl rfl en12 h3 ?_
  refine aops_run 1 (by simp only [fwA, ↓reduceIte, Nat.reduceAdd, Nat.reduceMul, Nat.reduceEqDiff, Nat.reduceLT, Nat.reduceLeDiff, reduceCtorEq, Pr.fw, ti53, pl53, un22, ti24, ti3, ti9, un23, un25, un29, un9, el22, el23, el29, eq53, fl53_0, Int.reduceEq, Int.reduceToNat, Int.reduceNeg, decide_true, decide_false, Bool.and_true, Bool.and_self, Bool.not_true, Bool.not_false, ne_eq, Int.reduceLE] <;> rfl) ?_
  refine aops_end ?_
  refine awp_seq ?_
  refine awp_region rfl ?_
  refine aops_run 1 (by simp only [fwA, ↓reduceIte, Nat.reduceAdd, Nat.reduceMul, Nat.reduceEqDiff, Nat.reduceLT, Nat.reduceLeDiff, reduceCtorEq, Pr.fw, ti53, pl53, un22, ti24, ti3, ti9, un23, un25, un29, un9, el22, el23, el29, eq53, fl53_0, Int.reduceEq, Int.reduceToNat, Int.reduceNeg, decide_true, decide_false, Bool.and_true, Bool.and_self, Bool.not_true, Bool.not_false, ne_eq, Int.reduceLE] <;> rfl) ?_
  refine aops_fn rfl rfl rfl en14 h4 ?_
  refine aops_run 1 (by simp only [fwA, ↓reduceIte, Nat.reduceAdd, Nat.reduceMul, Nat.reduceEqDiff, Nat.reduceLT, Nat.reduceLeDiff, reduceCtorEq, Pr.fw, ti53, pl53, un22, ti24, ti3, ti9, un23, un25, un29, un9, el22, el23, el29, eq53, fl53_0, Int.reduceEq, Int.reduceToNat, Int.reduceNeg, decide_true, decide_false, Bool.and_true, Bool.and_self, Bool.not_true, Bool.not_false, ne_eq, Int.reduceLE] <;> rfl) ?_
  refine aops_end ?_
  refine awp_seq ?_
  refine awp_region rfl ?_
  refine aops_run 1 (by simp only [fwA, ↓reduceIte, Nat.reduceAdd, Nat.reduceMul, Nat.reduceEqDiff, Nat.reduceLT, Nat.reduceLeDiff, reduceCtorEq, Pr.fw, ti53, pl53, un22, ti24, ti3, ti9, un23, un25, un29, un9, el22, el23, el29, eq53, fl53_0, Int.reduceEq, Int.reduceToNat, Int.reduceNeg, decide_true, decide_false, Bool.and_true, Bool.and_self, Bool.not_true, Bool.not_false, ne_eq, Int.reduceLE] <;> rfl) ?_
  refine aops_fn rfl rfl rfl en19 h5 ?_
  refine aops_run 1 (by simp only [fwA, ↓reduceIte, Nat.reduceAdd, Nat.reduceMul, Nat.reduceEqDiff, Nat.reduceLT, Nat.reduceLeDiff, reduceCtorEq, Pr.fw, ti53, pl53, un22, ti24, ti3, ti9, un23, un25, un29, un9, el22, el23, el29, eq53, fl53_0, Int.reduceEq, Int.reduceToNat, Int.reduceNeg, decide_true, decide_false, Bool.and_true, Bool.and_self, Bool.not_true, Bool.not_false, ne_eq, Int.reduceLE] <;> rfl) ?_
  refine aops_end ?_
  refine awp_seq ?_
  refine awp_region rfl ?_
  refine aops_run 4 (by simp only [fwA, ↓reduceIte, Nat.reduceAdd, Nat.reduceMul, Nat.reduceEqDiff, Nat.reduceLT, Nat.reduceLeDiff, reduceCtorEq, Pr.fw, ti53, pl53, un22, ti24, ti3, ti9, un23, un25, un29, un9, el22, el23, el29, eq53, fl53_0, Int.reduceEq, Int.reduceToNat, Int.reduceNeg, decide_true, decide_false, Bool.and_true, Bool.and_self, Bool.not_true, Bool.not_false, ne_eq, Int.reduceLE] <;> rfl) ?_
  refine aops_fn rfl rfl rfl en21 h6 ?_
  refine aops_run 1 (by simp only [fwA, ↓reduceIte, Nat.reduceAdd, Nat.reduceMul, Nat.reduceEqDiff, Nat.reduceLT, Nat.reduceLeDiff, reduceCtorEq, Pr.fw, ti53, pl53, un22, ti24, ti3, ti9, un23, un25, un29, un9, el22, el23, el29, eq53, fl53_0, Int.reduceEq, Int.reduceToNat, Int.reduceNeg, decide_true, decide_false, Bool.and_true, Bool.and_self, Bool.not_true, Bool.not_false, ne_eq, Int.reduceLE] <;> rfl) ?_
  refine aops_end ?_
  refine awp_seq ?_
  refine awp_seq ?_
  refine awp_region rfl ?_
  refine aops_run 13 (by simp only [fwA, ↓reduceIte, Nat.reduceAdd, Nat.reduceMul, Nat.reduceEqDiff, Nat.reduceLT, Nat.reduceLeDiff, reduceCtorEq, Pr.fw, ti53, pl53, un22, ti24, ti3, ti9, un23, un25, un29, un9, el22, el23, el29, eq53, fl53_0, Int.reduceEq, Int.reduceToNat, Int.reduceNeg, decide_true, decide_false, Bool.and_true, Bool.and_self, Bool.not_true, Bool.not_false, ne_eq, Int.reduceLE] <;> rfl) ?_
  refine aops_run 10 (by simp only [fwA, ↓reduceIte, Nat.reduceAdd, Nat.reduceMul, Nat.reduceEqDiff, Nat.reduceLT, Nat.reduceLeDiff, reduceCtorEq, Pr.fw, ti53, pl53, un22, ti24, ti3, ti9, un23, un25, un29, un9, el22, el23, el29, eq53, fl53_0, Int.reduceEq, Int.reduceToNat, Int.reduceNeg, decide_true, decide_false, Bool.and_true, Bool.and_self, Bool.not_true, Bool.not_false, ne_eq, Int.reduceLE] <;> rfl) ?_
  refine aops_end ?_
  refine awp_cond (b := false) (by simp [alook, aput, ev]) (awp_skip ?_)
  refine awp_seq ?_
  refine awp_region rfl ?_
  refine aops_run 4 (by simp only [fwA, ↓reduceIte, Nat.reduceAdd, Nat.reduceMul, Nat.reduceEqDiff, Nat.reduceLT, Nat.reduceLeDiff, reduceCtorEq, Pr.fw, ti53, pl53, un22, ti24, ti3, ti9, un23, un25, un29, un9, el22, el23, el29, eq53, fl53_0, Int.reduceEq, Int.reduceToNat, Int.reduceNeg, decide_true, decide_false, Bool.and_true, Bool.and_self, Bool.not_true, Bool.not_false, ne_eq, Int.reduceLE] <;> rfl) ?_
  refine aops_fnIf rfl rfl rfl rfl rfl en27 h7 ?_
  refine aops_run 3 (by simp only [fwA, ↓reduceIte, Nat.reduceAdd, Nat.reduceMul, Nat.reduceEqDiff, Nat.reduceLT, Nat.reduceLeDiff, reduceCtorEq, Pr.fw, ti53, pl53, un22, ti24, ti3, ti9, un23, un25, un29, un9, el22, el23, el29, eq53, fl53_0, Int.reduceEq, Int.reduceToNat, Int.reduceNeg, decide_true, decide_false, Bool.and_true, Bool.and_self, Bool.not_true, Bool.not_false, ne_eq, Int.reduceLE] <;> rfl) ?_
  refine aops_fnIf rfl rfl rfl rfl rfl en25 h8 ?_
  refine aops_run 3 (by simp only [fwA, ↓reduceIte, Nat.reduceAdd, Nat.reduceMul, Nat.reduceEqDiff, Nat.reduceLT, Nat.reduceLeDiff, reduceCtorEq, Pr.fw, ti53, pl53, un22, ti24, ti3, ti9, un23, un25, un29, un9, el22, el23, el29, eq53, fl53_0, Int.reduceEq, Int.reduceToNat, Int.reduceNeg, decide_true, decide_false, Bool.and_true, Bool.and_self, Bool.not_true, Bool.not_false, ne_eq, Int.reduceLE] <;> rfl) ?_
  refine aops_fnIf rfl rfl rfl rfl rfl en25 h9 ?_
  refine aops_run 13 (by simp only [fwA, ↓reduceIte, Nat.reduceAdd, Nat.reduceMul, Nat.reduceEqDiff, Nat.reduceLT, Nat.reduceLeDiff, reduceCtorEq, Pr.fw, ti53, pl53, un22, ti24, ti3, ti9, un23, un25, un29, un9, el22, el23, el29, eq53, fl53_0, Int.reduceEq, Int.reduceToNat, Int.reduceNeg, decide_true, decide_false, Bool.and_true, Bool.and_self, Bool.not_true, Bool.not_false, ne_eq, Int.reduceLE] <;> rfl) ?_
  refine aops_run 13 (by simp only [fwA, ↓reduceIte, Nat.reduceAdd, Nat.reduceMul, Nat.reduceEqDiff, Nat.reduceLT, Nat.reduceLeDiff, reduceCtorEq, Pr.fw, ti53, pl53, un22, ti24, ti3, ti9, un23, un25, un29, un9, el22, el23, el29, eq53, fl53_0, Int.reduceEq, Int.reduceToNat, Int.reduceNeg, decide_true, decide_false, Bool.and_true, Bool.and_self, Bool.not_true, Bool.not_false, ne_eq, Int.reduceLE] <;> rfl) ?_
  refine aops_run 13 (by simp only [fwA, ↓reduceIte, Nat.reduceAdd, Nat.reduceMul, Nat.reduceEqDiff, Nat.reduceLT, Nat.reduceLeDiff, reduceCtorEq, Pr.fw, ti53, pl53, un22, ti24, ti3, ti9, un23, un25, un29, un9, el22, el23, el29, eq53, fl53_0, Int.reduceEq, Int.reduceToNat, Int.reduceNeg, decide_true, decide_false, Bool.and_true, Bool.and_self, Bool.not_true, Bool.not_false, ne_eq, Int.reduceLE] <;> rfl) ?_
  refine aops_run 13 (by simp only [fwA, ↓reduceIte, Nat.reduceAdd, Nat.reduceMul, Nat.reduceEqDiff, Nat.reduceLT, Nat.reduceLeDiff, reduceCtorEq, Pr.fw, ti53, pl53, un22, ti24, ti3, ti9, un23, un25, un29, un9, el22, el23, el29, eq53, fl53_0, Int.reduceEq, Int.reduceToNat, Int.reduceNeg, decide_true, decide_false, Bool.and_true, Bool.and_self, Bool.not_true, Bool.not_false, ne_eq, Int.reduceLE] <;> rfl) ?_
  refine aops_run 9 (by simp only [fwA, ↓reduceIte, Nat.reduceAdd, Nat.reduceMul, Nat.reduceEqDiff, Nat.reduceLT, Nat.reduceLeDiff, reduceCtorEq, Pr.fw, ti53, pl53, un22, ti24, ti3, ti9, un23, un25, un29, un9, el22, el23, el29, eq53, fl53_0, Int.reduceEq, Int.reduceToNat, Int.reduceNeg, decide_true, decide_false, Bool.and_true, Bool.and_self, Bool.not_true, Bool.not_false, ne_eq, Int.reduceLE] <;> rfl) ?_
  refine aops_fnIf rfl rfl rfl rfl rfl en30 h10 ?_
  refine aops_run 3 (by simp only [fwA, ↓reduceIte, Nat.reduceAdd, Nat.reduceMul, Nat.reduceEqDiff, Nat.reduceLT, Nat.reduceLeDiff, reduceCtorEq, Pr.fw, ti53, pl53, un22, ti24, ti3, ti9, un23, un25, un29, un9, el22, el23, el29, eq53, fl53_0, Int.reduceEq, Int.reduceToNat, Int.reduceNeg, decide_true, decide_false, Bool.and_true, Bool.and_self, Bool.not_true, Bool.not_false, ne_eq, Int.reduceLE] <;> rfl) ?_
  refine aops_fnIf rfl rfl rfl rfl rfl en30 h11 ?_
  refine aops_run 4 (by simp only [fwA, ↓reduceIte, Nat.reduceAdd, Nat.reduceMul, Nat.reduceEqDiff, Nat.reduceLT, Nat.reduceLeDiff, reduceCtorEq, Pr.fw, ti53, pl53, un22, ti24, ti3, ti9, un23, un25, un29, un9, el22, el23, el29, eq53, fl53_0, Int.reduceEq, Int.reduceToNat, Int.reduceNeg, decide_true, decide_false, Bool.and_true, Bool.and_self, Bool.not_true, Bool.not_false, ne_eq, Int.reduceLE] <;> rfl) ?_
  refine aops_fnIf rfl rfl rfl rfl rfl en28 h12 ?_
  refine aops_run 3 (by simp only [fwA, ↓reduceIte, Nat.reduceAdd, Nat.reduceMul, Nat.reduceEqDiff, Nat.reduceLT, Nat.reduceLeDiff, reduceCtorEq, Pr.fw, ti53, pl53, un22, ti24, ti3, ti9, un23, un25, un29, un9, el22, el23, el29, eq53, fl53_0, Int.reduceEq, Int.reduceToNat, Int.reduceNeg, decide_true, decide_false, Bool.and_true, Bool.and_self, Bool.not_true, Bool.not_false, ne_eq, Int.reduceLE] <;> rfl) ?_
  refine aops_end ?_
  refine awp_ret ?_
  exact gives_end0 (.inl rfl) rfl


end Go.Proofs.YtdacialfjlcboaaGreatDoor
