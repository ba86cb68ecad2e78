/- The contracts of the document's names, and of what it calls a lattice. -/
import Derived.Test.YtdhlghhokbmhdaaDoorR01i
namespace Go.Proofs.YtdhlghhokbmhdaaDoor
set_option linter.unusedVariables false
set_option linter.unusedSimpArgs false
set_option maxRecDepth 100000
open Go.RowKit Fw

/- chancel/chancelref01.Name -/
theorem c20 (Γ : Nat → PV) (s : List UInt8) : Gives Tryd.prog Γ 20 [.str s] (.bool (nameB s)) := by
  refine fn_of_awp Tryd.func20 rfl (by simp [Tryd.f20]) rfl fun H => ?_
  refine awp_slen 0 rfl fun hsl => ?_
  refine awp_seq ?_
  refine awp_run rfl (by simp only [fwA, ↓reduceIte, Nat.reduceAdd, Nat.reduceMul, Nat.reduceEqDiff, Nat.reduceLT, Nat.reduceLeDiff, reduceCtorEq] <;> rfl) ?_
  refine awp_seq ?_
  refine awp_seq ?_
  by_cases h1 : (s.length : Int) < 1
  · refine awp_run rfl (by simp only [fwA, ↓reduceIte, Nat.reduceAdd, Nat.reduceMul, Nat.reduceEqDiff, Nat.reduceLT, Nat.reduceLeDiff, reduceCtorEq, bitfw, List.length_map, List.getElem?_map, Option.map_some, Int.natCast_nonneg, Int.toNat_natCast, decide_true, decide_false, Bool.and_true, Bool.and_self, Bool.not_true, Bool.not_false, Bool.false_and, Bool.true_and, un9, un22, un23, el22, el23, ti9, ti22, ti23, ti25, ti27, ti50, un50, un3, ti3, ti4, fl25_0, fl25_1, fl27_0, fl27_1, S1_fw, U1_fw, h1] <;> rfl) ?_
    refine awp_cond (b := true) (by simp [alook, aput, ev]) ?_
    refine awp_seq ?_
    refine awp_run rfl (by simp only [fwA, ↓reduceIte, Nat.reduceAdd, Nat.reduceMul, Nat.reduceEqDiff, Nat.reduceLT, Nat.reduceLeDiff, reduceCtorEq] <;> rfl) ?_
    refine awp_ret ?_
    exact gives_end0 (.inl rfl) (by unfold nameB; rw [decide_eq_false (by omega : ¬ 0 < s.length)]; rfl)
  by_cases h2 : (16 : Int) < (s.length : Int)
  · refine awp_run rfl (by simp only [fwA, ↓reduceIte, Nat.reduceAdd, Nat.reduceMul, Nat.reduceEqDiff, Nat.reduceLT, Nat.reduceLeDiff, reduceCtorEq, bitfw, List.length_map, List.getElem?_map, Option.map_some, Int.natCast_nonneg, Int.toNat_natCast, decide_true, decide_false, Bool.and_true, Bool.and_self, Bool.not_true, Bool.not_false, Bool.false_and, Bool.true_and, un9, un22, un23, el22, el23, ti9, ti22, ti23, ti25, ti27, ti50, un50, un3, ti3, ti4, fl25_0, fl25_1, fl27_0, fl27_1, S1_fw, U1_fw, h1, h2] <;> rfl) ?_
    refine awp_cond (b := true) (by simp [alook, aput, ev]) ?_
    refine awp_seq ?_
    refine awp_run rfl (by simp only [fwA, ↓reduceIte, Nat.reduceAdd, Nat.reduceMul, Nat.reduceEqDiff, Nat.reduceLT, Nat.reduceLeDiff, reduceCtorEq] <;> rfl) ?_
    refine awp_ret ?_
    exact gives_end0 (.inl rfl) (by unfold nameB; rw [decide_eq_false (by omega : ¬ s.length ≤ 16), Bool.and_false]; rfl)
  refine awp_run rfl (by simp only [fwA, ↓reduceIte, Nat.reduceAdd, Nat.reduceMul, Nat.reduceEqDiff, Nat.reduceLT, Nat.reduceLeDiff, reduceCtorEq, bitfw, List.length_map, List.getElem?_map, Option.map_some, Int.natCast_nonneg, Int.toNat_natCast, decide_true, decide_false, Bool.and_true, Bool.and_self, Bool.not_true, Bool.not_false, Bool.false_and, Bool.true_and, un9, un22, un23, el22, el23, ti9, ti22, ti23, ti25, ti27, ti50, un50, un3, ti3, ti4, fl25_0, fl25_1, fl27_0, fl27_1, S1_fw, U1_fw, h1, h2] <;> rfl) ?_
  refine awp_cond (b := false) (by simp [alook, aput, ev]) (awp_skip ?_)
  refine awp_seq ?_
  refine awp_seq ?_
  refine awp_run rfl (by simp only [fwA, ↓reduceIte, Nat.reduceAdd, Nat.reduceMul, Nat.reduceEqDiff, Nat.reduceLT, Nat.reduceLeDiff, reduceCtorEq] <;> rfl) ?_
  refine awp_block ?_
  refine awp_for [0, 3] (fun i : Nat => [.str s, .int .i64 (i : Int)]) (fun _ => H) (fun i => s.length - i) (fun i => i ≤ s.length ∧ chsB s i = true) 0 rfl rfl ⟨Nat.zero_le _, rfl⟩ fun i hi => ?_
  obtain ⟨hi, hch⟩ := hi
  refine awp_seq ?_
  refine awp_seq ?_
  refine awp_run rfl (by simp only [fwA, ↓reduceIte, Nat.reduceAdd, Nat.reduceMul, Nat.reduceEqDiff, Nat.reduceLT, Nat.reduceLeDiff, reduceCtorEq, bitfw, List.length_map, List.getElem?_map, Option.map_some, Int.natCast_nonneg, Int.toNat_natCast, decide_true, decide_false, Bool.and_true, Bool.and_self, Bool.not_true, Bool.not_false, Bool.false_and, Bool.true_and, un9, un22, un23, el22, el23, ti9, ti22, ti23, ti25, ti27, ti50, un50, un3, ti3, ti4, fl25_0, fl25_1, fl27_0, fl27_1, S1_fw, U1_fw] <;> rfl) ?_
  refine awp_cond (by simp only [fwA, ↓reduceIte, Nat.reduceAdd, Nat.reduceMul, Nat.reduceEqDiff, Nat.reduceLT, Nat.reduceLeDiff, reduceCtorEq] <;> rfl) ?_
  by_cases hc : (i : Int) < s.length
  rotate_left
  · simp only [hc, decide_false, Bool.false_eq_true, ↓reduceIte]
    refine awp_exit ?_
    have e : i = s.length := by omega
    subst e
    refine awp_seq ?_
    refine awp_run rfl (by simp only [fwA, ↓reduceIte, Nat.reduceAdd, Nat.reduceMul, Nat.reduceEqDiff, Nat.reduceLT, Nat.reduceLeDiff, reduceCtorEq] <;> rfl) ?_
    refine awp_ret ?_
    exact gives_end0 (.inl rfl) (by unfold nameB; rw [hch, decide_eq_true (by omega : 0 < s.length), decide_eq_true (by omega : s.length ≤ 16)]; rfl)
  simp only [hc, decide_true, ↓reduceIte]
  refine awp_skip ?_
  have hil : i < s.length := by omega
  have ga : s[i]? = some s[i] := List.getElem?_eq_getElem hil
  generalize s[i] = c at ga
  have hwi : IntKind.i64.wrap ((i : Int) + 1) = ((i + 1 : Nat) : Int) := wrapS i (by omega)
  have hst := chsB_succ ga
  refine awp_seq ?_
  refine awp_block ?_
  refine awp_join [0, 3, 4] (fun d : Bool => [.str s, .int .i64 (i : Int), .bool d]) (fun _ => H) (fun d => d = letB c) ?_ fun d hd => ?_
  · have e1 : decide ((97 : Int) ≤ (c.toNat : Int)) = decide (97 ≤ c.toNat) := decide_eq_decide.2 (by omega)
    have e2 : decide ((c.toNat : Int) ≤ 122) = decide (c.toNat ≤ 122) := decide_eq_decide.2 (by omega)
    have e3 : decide ((65 : Int) ≤ (c.toNat : Int)) = decide (65 ≤ c.toNat) := decide_eq_decide.2 (by omega)
    have e4 : decide ((c.toNat : Int) ≤ 90) = decide (c.toNat ≤ 90) := decide_eq_decide.2 (by omega)
    unfold letB
    rw [← e1, ← e2, ← e3, ← e4]
    by_cases h3 : (97 : Int) ≤ (c.toNat : Int)
    · by_cases h4 : (c.toNat : Int) ≤ 122
      · refine awp_run rfl (by simp only [fwA, ↓reduceIte, Nat.reduceAdd, Nat.reduceMul, Nat.reduceEqDiff, Nat.reduceLT, Nat.reduceLeDiff, reduceCtorEq, bitfw, List.length_map, List.getElem?_map, Option.map_some, Int.natCast_nonneg, Int.toNat_natCast, decide_true, decide_false, Bool.and_true, Bool.and_self, Bool.not_true, Bool.not_false, Bool.false_and, Bool.true_and, un9, un22, un23, el22, el23, ti9, ti22, ti23, ti25, ti27, ti50, un50, un3, ti3, ti4, fl25_0, fl25_1, fl27_0, fl27_1, S1_fw, U1_fw, ga, h3, h4] <;> rfl) ?_
        exact ⟨true, by rw [decide_eq_true h3, decide_eq_true h4]; rfl, rfl, rfl, rfl⟩
      · by_cases h5 : (65 : Int) ≤ (c.toNat : Int)
        · refine awp_run rfl (by simp only [fwA, ↓reduceIte, Nat.reduceAdd, Nat.reduceMul, Nat.reduceEqDiff, Nat.reduceLT, Nat.reduceLeDiff, reduceCtorEq, bitfw, List.length_map, List.getElem?_map, Option.map_some, Int.natCast_nonneg, Int.toNat_natCast, decide_true, decide_false, Bool.and_true, Bool.and_self, Bool.not_true, Bool.not_false, Bool.false_and, Bool.true_and, un9, un22, un23, el22, el23, ti9, ti22, ti23, ti25, ti27, ti50, un50, un3, ti3, ti4, fl25_0, fl25_1, fl27_0, fl27_1, S1_fw, U1_fw, ga, h3, h4, h5] <;> rfl) ?_
          exact ⟨_, by rw [decide_eq_false h4, decide_eq_true h5, Bool.and_false, Bool.false_or, Bool.true_and], rfl, rfl, rfl⟩
        · refine awp_run rfl (by simp only [fwA, ↓reduceIte, Nat.reduceAdd, Nat.reduceMul, Nat.reduceEqDiff, Nat.reduceLT, Nat.reduceLeDiff, reduceCtorEq, bitfw, List.length_map, List.getElem?_map, Option.map_some, Int.natCast_nonneg, Int.toNat_natCast, decide_true, decide_false, Bool.and_true, Bool.and_self, Bool.not_true, Bool.not_false, Bool.false_and, Bool.true_and, un9, un22, un23, el22, el23, ti9, ti22, ti23, ti25, ti27, ti50, un50, un3, ti3, ti4, fl25_0, fl25_1, fl27_0, fl27_1, S1_fw, U1_fw, ga, h3, h4, h5] <;> rfl) ?_
          exact ⟨_, by rw [decide_eq_false h4, decide_eq_false h5, Bool.and_false, Bool.false_or, Bool.false_and], rfl, rfl, rfl⟩
    · by_cases h5 : (65 : Int) ≤ (c.toNat : Int)
      · refine awp_run rfl (by simp only [fwA, ↓reduceIte, Nat.reduceAdd, Nat.reduceMul, Nat.reduceEqDiff, Nat.reduceLT, Nat.reduceLeDiff, reduceCtorEq, bitfw, List.length_map, List.getElem?_map, Option.map_some, Int.natCast_nonneg, Int.toNat_natCast, decide_true, decide_false, Bool.and_true, Bool.and_self, Bool.not_true, Bool.not_false, Bool.false_and, Bool.true_and, un9, un22, un23, el22, el23, ti9, ti22, ti23, ti25, ti27, ti50, un50, un3, ti3, ti4, fl25_0, fl25_1, fl27_0, fl27_1, S1_fw, U1_fw, ga, h3, h5] <;> rfl) ?_
        exact ⟨_, by rw [decide_eq_false h3, decide_eq_true h5, Bool.false_and, Bool.false_or, Bool.true_and], rfl, rfl, rfl⟩
      · refine awp_run rfl (by simp only [fwA, ↓reduceIte, Nat.reduceAdd, Nat.reduceMul, Nat.reduceEqDiff, Nat.reduceLT, Nat.reduceLeDiff, reduceCtorEq, bitfw, List.length_map, List.getElem?_map, Option.map_some, Int.natCast_nonneg, Int.toNat_natCast, decide_true, decide_false, Bool.and_true, Bool.and_self, Bool.not_true, Bool.not_false, Bool.false_and, Bool.true_and, un9, un22, un23, el22, el23, ti9, ti22, ti23, ti25, ti27, ti50, un50, un3, ti3, ti4, fl25_0, fl25_1, fl27_0, fl27_1, S1_fw, U1_fw, ga, h3, h5] <;> rfl) ?_
        exact ⟨_, by rw [decide_eq_false h3, decide_eq_false h5, Bool.false_and, Bool.false_or, Bool.false_and], rfl, rfl, rfl⟩
  subst hd
  refine awp_join [0, 3, 4, 5] (fun d : Bool => [.str s, .int .i64 (i : Int), .bool (letB c), .bool d]) (fun _ => H) (fun d => d = digB c) ?_ fun d hd => ?_
  · have e1 : decide ((48 : Int) ≤ (c.toNat : Int)) = decide (48 ≤ c.toNat) := decide_eq_decide.2 (by omega)
    have e2 : decide ((c.toNat : Int) ≤ 57) = decide (c.toNat ≤ 57) := decide_eq_decide.2 (by omega)
    by_cases h3 : (48 : Int) ≤ (c.toNat : Int)
    · refine awp_run rfl (by simp only [fwA, ↓reduceIte, Nat.reduceAdd, Nat.reduceMul, Nat.reduceEqDiff, Nat.reduceLT, Nat.reduceLeDiff, reduceCtorEq, bitfw, List.length_map, List.getElem?_map, Option.map_some, Int.natCast_nonneg, Int.toNat_natCast, decide_true, decide_false, Bool.and_true, Bool.and_self, Bool.not_true, Bool.not_false, Bool.false_and, Bool.true_and, un9, un22, un23, el22, el23, ti9, ti22, ti23, ti25, ti27, ti50, un50, un3, ti3, ti4, fl25_0, fl25_1, fl27_0, fl27_1, S1_fw, U1_fw, ga, h3] <;> rfl) ?_
      exact ⟨_, by unfold digB; rw [← e1, ← e2, decide_eq_true h3, Bool.true_and], rfl, rfl, rfl⟩
    · refine awp_run rfl (by simp only [fwA, ↓reduceIte, Nat.reduceAdd, Nat.reduceMul, Nat.reduceEqDiff, Nat.reduceLT, Nat.reduceLeDiff, reduceCtorEq, bitfw, List.length_map, List.getElem?_map, Option.map_some, Int.natCast_nonneg, Int.toNat_natCast, decide_true, decide_false, Bool.and_true, Bool.and_self, Bool.not_true, Bool.not_false, Bool.false_and, Bool.true_and, un9, un22, un23, el22, el23, ti9, ti22, ti23, ti25, ti27, ti50, un50, un3, ti3, ti4, fl25_0, fl25_1, fl27_0, fl27_1, S1_fw, U1_fw, ga, h3] <;> rfl) ?_
      exact ⟨_, by unfold digB; rw [← e1, decide_eq_false h3, Bool.false_and], rfl, rfl, rfl⟩
  subst hd
  refine awp_seq ?_
  cases hL : letB c
  · by_cases h0 : (i : Int) = 0
    · have hd0 : decide ((i : Int) = 0) = true := decide_eq_true h0
      refine awp_run rfl (by simp only [fwA, ↓reduceIte, Nat.reduceAdd, Nat.reduceMul, Nat.reduceEqDiff, Nat.reduceLT, Nat.reduceLeDiff, reduceCtorEq, bitfw, List.length_map, List.getElem?_map, Option.map_some, Int.natCast_nonneg, Int.toNat_natCast, decide_true, decide_false, Bool.and_true, Bool.and_self, Bool.not_true, Bool.not_false, Bool.false_and, Bool.true_and, un9, un22, un23, el22, el23, ti9, ti22, ti23, ti25, ti27, ti50, un50, un3, ti3, ti4, fl25_0, fl25_1, fl27_0, fl27_1, S1_fw, U1_fw, ga, hd0] <;> rfl) ?_
      refine awp_cond (b := true) (by simp [alook, aput, ev]) ?_
      refine awp_seq ?_
      refine awp_run rfl (by simp only [fwA, ↓reduceIte, Nat.reduceAdd, Nat.reduceMul, Nat.reduceEqDiff, Nat.reduceLT, Nat.reduceLeDiff, reduceCtorEq] <;> rfl) ?_
      refine awp_ret ?_
      exact gives_end0 (.inl rfl) (by rw [chsB_false ga (by unfold chB; rw [hL, decide_eq_false (by omega)]; rfl)]; rfl)
    · have h0' : 0 < i := by omega
      cases hD : digB c
      · refine awp_run rfl (by simp only [fwA, ↓reduceIte, Nat.reduceAdd, Nat.reduceMul, Nat.reduceEqDiff, Nat.reduceLT, Nat.reduceLeDiff, reduceCtorEq, bitfw, List.length_map, List.getElem?_map, Option.map_some, Int.natCast_nonneg, Int.toNat_natCast, decide_true, decide_false, Bool.and_true, Bool.and_self, Bool.not_true, Bool.not_false, Bool.false_and, Bool.true_and, un9, un22, un23, el22, el23, ti9, ti22, ti23, ti25, ti27, ti50, un50, un3, ti3, ti4, fl25_0, fl25_1, fl27_0, fl27_1, S1_fw, U1_fw, ga, h0] <;> rfl) ?_
        refine awp_cond (b := true) (by simp [alook, aput, ev]) ?_
        refine awp_seq ?_
        refine awp_run rfl (by simp only [fwA, ↓reduceIte, Nat.reduceAdd, Nat.reduceMul, Nat.reduceEqDiff, Nat.reduceLT, Nat.reduceLeDiff, reduceCtorEq] <;> rfl) ?_
        refine awp_ret ?_
        exact gives_end0 (.inl rfl) (by rw [chsB_false ga (by unfold chB; rw [hL, hD, Bool.and_false]; rfl)]; rfl)
      · refine awp_run rfl (by simp only [fwA, ↓reduceIte, Nat.reduceAdd, Nat.reduceMul, Nat.reduceEqDiff, Nat.reduceLT, Nat.reduceLeDiff, reduceCtorEq, bitfw, List.length_map, List.getElem?_map, Option.map_some, Int.natCast_nonneg, Int.toNat_natCast, decide_true, decide_false, Bool.and_true, Bool.and_self, Bool.not_true, Bool.not_false, Bool.false_and, Bool.true_and, un9, un22, un23, el22, el23, ti9, ti22, ti23, ti25, ti27, ti50, un50, un3, ti3, ti4, fl25_0, fl25_1, fl27_0, fl27_1, S1_fw, U1_fw, ga, h0] <;> rfl) ?_
        refine awp_cond (b := false) (by simp [alook, aput, ev]) (awp_skip ?_)
        refine awp_run rfl (by simp only [fwA, ↓reduceIte, Nat.reduceAdd, Nat.reduceMul, Nat.reduceEqDiff, Nat.reduceLT, Nat.reduceLeDiff, reduceCtorEq] <;> rfl) ?_
        refine ⟨i + 1, by omega, ⟨by omega, by rw [hst, hch]; unfold chB; rw [hL, hD, decide_eq_true h0']; rfl⟩, ?_, rfl, rfl⟩
        simp only [fwA, ↓reduceIte, Nat.reduceAdd, Nat.reduceMul, Nat.reduceEqDiff, Nat.reduceLT, Nat.reduceLeDiff, reduceCtorEq, List.map_cons, List.map_nil, hwi]
  · refine awp_run rfl (by simp only [fwA, ↓reduceIte, Nat.reduceAdd, Nat.reduceMul, Nat.reduceEqDiff, Nat.reduceLT, Nat.reduceLeDiff, reduceCtorEq, bitfw, List.length_map, List.getElem?_map, Option.map_some, Int.natCast_nonneg, Int.toNat_natCast, decide_true, decide_false, Bool.and_true, Bool.and_self, Bool.not_true, Bool.not_false, Bool.false_and, Bool.true_and, un9, un22, un23, el22, el23, ti9, ti22, ti23, ti25, ti27, ti50, un50, un3, ti3, ti4, fl25_0, fl25_1, fl27_0, fl27_1, S1_fw, U1_fw, ga] <;> rfl) ?_
    refine awp_cond (b := false) (by simp [alook, aput, ev]) (awp_skip ?_)
    refine awp_run rfl (by simp only [fwA, ↓reduceIte, Nat.reduceAdd, Nat.reduceMul, Nat.reduceEqDiff, Nat.reduceLT, Nat.reduceLeDiff, reduceCtorEq] <;> rfl) ?_
    refine ⟨i + 1, by omega, ⟨by omega, by rw [hst, hch]; unfold chB; rw [hL]; rfl⟩, ?_, rfl, rfl⟩
    simp only [fwA, ↓reduceIte, Nat.reduceAdd, Nat.reduceMul, Nat.reduceEqDiff, Nat.reduceLT, Nat.reduceLeDiff, reduceCtorEq, List.map_cons, List.map_nil, hwi]

def N2 (l : List (List UInt8)) (i k : Nat) : Bool := (List.range k).all fun j => !decide (l.getD j [] = l.getD i [])
def N1 (l : List (List UInt8)) (i : Nat) : Bool := nameB (l.getD i []) && N2 l i i
/-- Whether names are right, and no two alike. -/
def namesD (l : List (List UInt8)) : Bool := (List.range l.length).all (N1 l)

/- chancel/chancelref01.names -/
theorem c40 (Γ : Nat → PV) (l : List (List UInt8)) : Gives Tryd.prog Γ 40 [.vec (l.map S1) false] (.bool (namesD l)) := by
  refine fn_of_awp Tryd.func40 rfl (by simp [Tryd.f40]) rfl fun H => ?_
  refine awp_vlen 0 rfl fun hsl => ?_
  rw [List.length_map] at hsl
  refine awp_seq ?_
  refine awp_run rfl (by simp only [fwA, ↓reduceIte, Nat.reduceAdd, Nat.reduceMul, Nat.reduceEqDiff, Nat.reduceLT, Nat.reduceLeDiff, reduceCtorEq] <;> rfl) ?_
  refine awp_seq ?_
  refine awp_seq ?_
  refine awp_run rfl (by simp only [fwA, ↓reduceIte, Nat.reduceAdd, Nat.reduceMul, Nat.reduceEqDiff, Nat.reduceLT, Nat.reduceLeDiff, reduceCtorEq] <;> rfl) ?_
  refine awp_block ?_
  refine awp_for [0, 3] (fun i : Nat => [.vec (l.map S1) false, .int .i64 (i : Int)]) (fun _ => H) (fun i => l.length - i) (fun i => i ≤ l.length ∧ (List.range i).all (N1 l) = true) 0 rfl rfl ⟨Nat.zero_le _, rfl⟩ fun i hs => ?_
  obtain ⟨hil, hall⟩ := hs
  refine awp_seq ?_
  refine awp_seq ?_
  refine awp_run rfl (by simp only [fwA, ↓reduceIte, Nat.reduceAdd, Nat.reduceMul, Nat.reduceEqDiff, Nat.reduceLT, Nat.reduceLeDiff, reduceCtorEq, bitfw, List.length_map, List.getElem?_map, Option.map_some, Int.natCast_nonneg, Int.toNat_natCast, decide_true, decide_false, Bool.and_true, Bool.and_self, Bool.not_true, Bool.not_false, Bool.false_and, Bool.true_and, un9, un22, un23, el22, el23, ti9, ti22, ti23, ti25, ti27, ti50, un50, un3, ti3, ti4, fl25_0, fl25_1, fl27_0, fl27_1, S1_fw, U1_fw] <;> rfl) ?_
  refine awp_cond (by simp only [fwA, ↓reduceIte, Nat.reduceAdd, Nat.reduceMul, Nat.reduceEqDiff, Nat.reduceLT, Nat.reduceLeDiff, reduceCtorEq] <;> rfl) ?_
  by_cases hc : (i : Int) < l.length
  rotate_left
  · simp only [hc, decide_false, Bool.false_eq_true, ↓reduceIte]
    refine awp_exit ?_
    have e : i = l.length := by omega
    subst e
    refine awp_seq ?_
    refine awp_run rfl (by simp only [fwA, ↓reduceIte, Nat.reduceAdd, Nat.reduceMul, Nat.reduceEqDiff, Nat.reduceLT, Nat.reduceLeDiff, reduceCtorEq] <;> rfl) ?_
    refine awp_ret ?_
    exact gives_end0 (.inl rfl) (by unfold namesD; rw [hall]; rfl)
  simp only [hc, decide_true, ↓reduceIte]
  refine awp_skip ?_
  have hill : i < l.length := by omega
  have ga : l[i]? = some l[i] := List.getElem?_eq_getElem hill
  have gd : l.getD i [] = l[i] := by rw [List.getD_eq_getElem?_getD, ga]; rfl
  have hwi : IntKind.i64.wrap ((i : Int) + 1) = ((i + 1 : Nat) : Int) := wrapS i (by omega)
  have hbad : N1 l i = false → namesD l = false := fun h => all_false hill h
  have hN1 : N1 l i = (nameB l[i] && N2 l i i) := by unfold N1; rw [gd]
  have hN2 : ∀ j, N2 l i (j + 1) = (N2 l i j && !decide (l.getD j [] = l[i])) := fun j => by unfold N2; rw [all_succ, gd]
  have hN2f : ∀ j, j < i → (!decide (l.getD j [] = l[i])) = false → N2 l i i = false := fun j hj h => by unfold N2; exact all_false hj (by rw [gd]; exact h)
  generalize l[i] = s at ga gd hN1 hN2 hN2f
  have h20 := c20 Γ s
  refine awp_seq ?_
  refine awp_block ?_
  refine awp_seq ?_
  refine awp_seq ?_
  cases hs1 : nameB s
  · rw [hs1] at h20
    refine awp_region rfl ?_
    refine aops_run 4 (by simp only [fwA, ↓reduceIte, Nat.reduceAdd, Nat.reduceMul, Nat.reduceEqDiff, Nat.reduceLT, Nat.reduceLeDiff, reduceCtorEq, bitfw, List.length_map, List.getElem?_map, Option.map_some, Int.natCast_nonneg, Int.toNat_natCast, decide_true, decide_false, Bool.and_true, Bool.and_self, Bool.not_true, Bool.not_false, Bool.false_and, Bool.true_and, un9, un22, un23, el22, el23, ti9, ti22, ti23, ti25, ti27, ti50, un50, un3, ti3, ti4, fl25_0, fl25_1, fl27_0, fl27_1, S1_fw, U1_fw, ga] <;> rfl) ?_
    refine aops_fn rfl rfl rfl en20 h20 ?_
    refine aops_run 1 (by simp only [fwA, ↓reduceIte, Nat.reduceAdd, Nat.reduceMul, Nat.reduceEqDiff, Nat.reduceLT, Nat.reduceLeDiff, reduceCtorEq, bitfw, List.length_map, List.getElem?_map, Option.map_some, Int.natCast_nonneg, Int.toNat_natCast, decide_true, decide_false, Bool.and_true, Bool.and_self, Bool.not_true, Bool.not_false, Bool.false_and, Bool.true_and, un9, un22, un23, el22, el23, ti9, ti22, ti23, ti25, ti27, ti50, un50, un3, ti3, ti4, fl25_0, fl25_1, fl27_0, fl27_1, S1_fw, U1_fw, ga] <;> rfl) ?_
    refine aops_end ?_
    refine awp_cond (b := true) (by simp [alook, aput, ev]) ?_
    refine awp_seq ?_
    refine awp_run rfl (by simp only [fwA, ↓reduceIte, Nat.reduceAdd, Nat.reduceMul, Nat.reduceEqDiff, Nat.reduceLT, Nat.reduceLeDiff, reduceCtorEq] <;> rfl) ?_
    refine awp_ret ?_
    rw [hbad (by rw [hN1, hs1]; rfl)]
    exact gives_end0 (.inl rfl) rfl
  rw [hs1] at h20
  refine awp_region rfl ?_
  refine aops_run 4 (by simp only [fwA, ↓reduceIte, Nat.reduceAdd, Nat.reduceMul, Nat.reduceEqDiff, Nat.reduceLT, Nat.reduceLeDiff, reduceCtorEq, bitfw, List.length_map, List.getElem?_map, Option.map_some, Int.natCast_nonneg, Int.toNat_natCast, decide_true, decide_false, Bool.and_true, Bool.and_self, Bool.not_true, Bool.not_false, Bool.false_and, Bool.true_and, un9, un22, un23, el22, el23, ti9, ti22, ti23, ti25, ti27, ti50, un50, un3, ti3, ti4, fl25_0, fl25_1, fl27_0, fl27_1, S1_fw, U1_fw, ga] <;> rfl) ?_
  refine aops_fn rfl rfl rfl en20 h20 ?_
  refine aops_run 1 (by simp only [fwA, ↓reduceIte, Nat.reduceAdd, Nat.reduceMul, Nat.reduceEqDiff, Nat.reduceLT, Nat.reduceLeDiff, reduceCtorEq, bitfw, List.length_map, List.getElem?_map, Option.map_some, Int.natCast_nonneg, Int.toNat_natCast, decide_true, decide_false, Bool.and_true, Bool.and_self, Bool.not_true, Bool.not_false, Bool.false_and, Bool.true_and, un9, un22, un23, el22, el23, ti9, ti22, ti23, ti25, ti27, ti50, un50, un3, ti3, ti4, fl25_0, fl25_1, fl27_0, fl27_1, S1_fw, U1_fw, ga] <;> rfl) ?_
  refine aops_end ?_
  refine awp_cond (b := false) (by simp [alook, aput, ev]) (awp_skip ?_)
  refine awp_seq ?_
  refine awp_run rfl (by simp only [fwA, ↓reduceIte, Nat.reduceAdd, Nat.reduceMul, Nat.reduceEqDiff, Nat.reduceLT, Nat.reduceLeDiff, reduceCtorEq] <;> rfl) ?_
  refine awp_block ?_
  refine awp_for [0, 3, 4] (fun j : Nat => [.vec (l.map S1) false, .int .i64 (i : Int), .int .i64 (j : Int)]) (fun _ => H) (fun j => i - j) (fun j => j ≤ i ∧ N2 l i j = true) 0 rfl rfl ⟨Nat.zero_le _, rfl⟩ fun j hs => ?_
  obtain ⟨hjl, hallj⟩ := hs
  refine awp_seq ?_
  refine awp_seq ?_
  refine awp_run rfl (by simp only [fwA, ↓reduceIte, Nat.reduceAdd, Nat.reduceMul, Nat.reduceEqDiff, Nat.reduceLT, Nat.reduceLeDiff, reduceCtorEq, bitfw, List.length_map, List.getElem?_map, Option.map_some, Int.natCast_nonneg, Int.toNat_natCast, decide_true, decide_false, Bool.and_true, Bool.and_self, Bool.not_true, Bool.not_false, Bool.false_and, Bool.true_and, un9, un22, un23, el22, el23, ti9, ti22, ti23, ti25, ti27, ti50, un50, un3, ti3, ti4, fl25_0, fl25_1, fl27_0, fl27_1, S1_fw, U1_fw] <;> rfl) ?_
  refine awp_cond (by simp only [fwA, ↓reduceIte, Nat.reduceAdd, Nat.reduceMul, Nat.reduceEqDiff, Nat.reduceLT, Nat.reduceLeDiff, reduceCtorEq] <;> rfl) ?_
  by_cases hcj : (j : Int) < i
  rotate_left
  · simp only [hcj, decide_false, Bool.false_eq_true, ↓reduceIte]
    refine awp_exit ?_
    have e : j = i := by omega
    rw [e] at hallj
    refine awp_run rfl (by simp only [fwA, ↓reduceIte, Nat.reduceAdd, Nat.reduceMul, Nat.reduceEqDiff, Nat.reduceLT, Nat.reduceLeDiff, reduceCtorEq] <;> rfl) ?_
    refine ⟨i + 1, by omega, ⟨by omega, by rw [all_succ, hall, hN1, hs1, hallj]; rfl⟩, ?_, rfl, rfl⟩
    simp only [fwA, ↓reduceIte, Nat.reduceAdd, Nat.reduceMul, Nat.reduceEqDiff, Nat.reduceLT, Nat.reduceLeDiff, reduceCtorEq, List.map_cons, List.map_nil, hwi]
  simp only [hcj, decide_true, ↓reduceIte]
  refine awp_skip ?_
  have hjll : j < l.length := by omega
  have gj : l[j]? = some l[j] := List.getElem?_eq_getElem hjll
  have gdj : l.getD j [] = l[j] := by rw [List.getD_eq_getElem?_getD, gj]; rfl
  have hwj : IntKind.i64.wrap ((j : Int) + 1) = ((j + 1 : Nat) : Int) := wrapS j (by omega)
  generalize l[j] = u at gj gdj
  refine awp_seq ?_
  refine awp_block ?_
  refine awp_seq ?_
  by_cases he : u = s
  · have hde : decide (u = s) = true := decide_eq_true he
    refine awp_drun [0, 0, 0, 1, 0, 0, 0, 1, 0] [0, 0, 3, 7, 0, 0, 48, 112, 255] mixed rfl (by kernel_rfl) (by simp only [fwA, ↓reduceIte, Nat.reduceAdd, Nat.reduceMul, Nat.reduceEqDiff, Nat.reduceLT, Nat.reduceLeDiff, reduceCtorEq, bitfw, List.length_map, List.getElem?_map, Option.map_some, Int.natCast_nonneg, Int.toNat_natCast, decide_true, decide_false, Bool.and_true, Bool.and_self, Bool.not_true, Bool.not_false, Bool.false_and, Bool.true_and, un9, un22, un23, el22, el23, ti9, ti22, ti23, ti25, ti27, ti50, un50, un3, ti3, ti4, fl25_0, fl25_1, fl27_0, fl27_1, S1_fw, U1_fw, ga, gj, hde] <;> rfl) ?_
    refine awp_cond (b := true) (by simp [alook, aput, ev]) ?_
    refine awp_seq ?_
    refine awp_run rfl (by simp only [fwA, ↓reduceIte, Nat.reduceAdd, Nat.reduceMul, Nat.reduceEqDiff, Nat.reduceLT, Nat.reduceLeDiff, reduceCtorEq] <;> rfl) ?_
    refine awp_ret ?_
    rw [hbad (by rw [hN1, hN2f j (by omega) (by rw [gdj, hde]; rfl), Bool.and_false])]
    exact gives_end0 (.inl rfl) rfl
  · have hde : decide (u = s) = false := decide_eq_false he
    refine awp_drun [0, 0, 0, 1, 0, 0, 0, 1, 0] [0, 0, 3, 7, 0, 0, 48, 112, 255] mixed rfl (by kernel_rfl) (by simp only [fwA, ↓reduceIte, Nat.reduceAdd, Nat.reduceMul, Nat.reduceEqDiff, Nat.reduceLT, Nat.reduceLeDiff, reduceCtorEq, bitfw, List.length_map, List.getElem?_map, Option.map_some, Int.natCast_nonneg, Int.toNat_natCast, decide_true, decide_false, Bool.and_true, Bool.and_self, Bool.not_true, Bool.not_false, Bool.false_and, Bool.true_and, un9, un22, un23, el22, el23, ti9, ti22, ti23, ti25, ti27, ti50, un50, un3, ti3, ti4, fl25_0, fl25_1, fl27_0, fl27_1, S1_fw, U1_fw, ga, gj, hde] <;> rfl) ?_
    refine awp_cond (b := false) (by simp [alook, aput, ev]) (awp_skip ?_)
    refine awp_run rfl (by simp only [fwA, ↓reduceIte, Nat.reduceAdd, Nat.reduceMul, Nat.reduceEqDiff, Nat.reduceLT, Nat.reduceLeDiff, reduceCtorEq] <;> rfl) ?_
    refine ⟨j + 1, by omega, ⟨by omega, by rw [hN2, hallj, gdj, hde]; rfl⟩, ?_, rfl, rfl⟩
    simp only [fwA, ↓reduceIte, Nat.reduceAdd, Nat.reduceMul, Nat.reduceEqDiff, Nat.reduceLT, Nat.reduceLeDiff, reduceCtorEq, List.map_cons, List.map_nil, hwj]

theorem idxS_first (l : List (List UInt8)) {k : Nat} (hk : k < l.length) : decide (idxS l (l.getD k []) = (k : Int)) = N2 l k k := by
  have gk : l[k]? = some (l.getD k []) := by rw [List.getD_eq_getElem?_getD, List.getElem?_eq_getElem hk]; rfl
  generalize l.getD k [] = s at gk
  have hN : N2 l k k = (List.range k).all fun j => !decide (l.getD j [] = s) := by
    unfold N2
    rw [List.getD_eq_getElem?_getD (i := k), gk]; rfl
  rw [hN]
  cases h : (List.range k).all fun j => !decide (l.getD j [] = s)
  · rw [List.all_eq_false] at h
    obtain ⟨j, hj, h2⟩ := h
    have hjk := List.mem_range.1 hj
    simp only [Bool.not_eq_true', decide_eq_false_iff_not, Decidable.not_not] at h2
    refine decide_eq_false fun e => ?_
    unfold idxS at e
    cases hf : l.findIdx? (fun x => decide (s = x)) with
    | none => rw [hf] at e; simp only at e; omega
    | some m =>
      rw [hf] at e
      simp only at e
      obtain ⟨h3, _, h5⟩ := List.findIdx?_eq_some_iff_getElem.1 hf
      have hm : m = k := by omega
      subst hm
      have := h5 j hjk
      have gj : l.getD j [] = l[j] := by rw [List.getD_eq_getElem?_getD, List.getElem?_eq_getElem (by omega)]; rfl
      rw [gj] at h2
      rw [h2] at this
      simp at this
  · rw [List.all_eq_true] at h
    refine decide_eq_true (idxS_some (fun j hj e => ?_) gk)
    have := h j (List.mem_range.2 hj)
    rw [List.getD_eq_getElem?_getD, e] at this
    simp at this
theorem named_names (l : List (List UInt8)) : namedB l = (decide (0 < l.length) && namesD l) := by
  unfold namedB namesD
  congr 1
  refine Bool.eq_iff_iff.2 ?_
  simp only [List.all_eq_true, List.mem_range]
  constructor
  · intro h k hk
    have := h k hk
    rw [idxS_first l hk] at this; exact this
  · intro h k hk
    have := h k hk
    rw [idxS_first l hk]; exact this

theorem shr_zero {x : Nat} (n : Nat) : decide (((x >>> n : Nat) : Int) = 0) = decide (x < 2 ^ n) := by
  refine decide_eq_decide.2 ?_
  rw [Nat.shiftRight_eq_div_pow]
  have hp := Nat.two_pow_pos n
  have : x / 2 ^ n = 0 ↔ x < 2 ^ n := Nat.div_eq_zero_iff_lt hp
  omega
/- chancel/chancelref01.Right -/
theorem c16 (Γ : Nat → PV) (ns : List (List UInt8)) (us : List Nat) (hw : W64 us) : Gives Tryd.prog Γ 16 [.agg [.vec (ns.map S1) false, .vec (us.map U1) false]] (.bool (rightB ns us)) := by
  refine fn_of_awp Tryd.func16 rfl (by simp [Tryd.f16]) rfl fun H => ?_
  refine awp_seq ?_
  refine awp_run rfl (by simp only [fwA, ↓reduceIte, Nat.reduceAdd, Nat.reduceMul, Nat.reduceEqDiff, Nat.reduceLT, Nat.reduceLeDiff, reduceCtorEq] <;> rfl) ?_
  refine awp_seq ?_
  have hK0 : (H ++ [Blk.box [.vec (ns.map S1) false, .vec (us.map U1) false]])[H.length]? = some (.box [.vec (ns.map S1) false, .vec (us.map U1) false]) := by rw [Fw.get_at0]; rfl
  generalize hK : H ++ [Blk.box [.vec (ns.map S1) false, .vec (us.map U1) false]] = K at hK0 ⊢
  have hend : ∀ (A' : List (Nat × PV)) (v : Bool), alook A' 2 = .bool v → ((Exit.ret = .ret ∨ Exit.ret = .normal) ∧ ([] : List Nat).Nodup ∧ (∀ b ∈ ([] : List Nat), K[b]? = some .dfr ∧ H.length ≤ b) ∧ ares Tryd.prog Γ A' K Tryd.f16.results.toList = some (.bool v) ∧ ∃ L', K = H ++ L') := fun A' v hv => by
    subst hK
    exact gives_end (.inl rfl) _ (by simp [ares, aresL, ares1, Tryd.f16, hv])
  have h40 := c40 Γ ns
  have hnn := named_names ns
  refine awp_run rfl (by simp only [fwA, ↓reduceIte, Nat.reduceAdd, Nat.reduceMul, Nat.reduceEqDiff, Nat.reduceLT, Nat.reduceLeDiff, reduceCtorEq, bitfw, List.length_map, List.getElem?_map, Option.map_some, Int.natCast_nonneg, Int.toNat_natCast, decide_true, decide_false, Bool.and_true, Bool.and_self, Bool.not_true, Bool.not_false, Bool.false_and, Bool.true_and, un9, un22, un23, el22, el23, ti9, ti22, ti23, ti25, ti27, ti50, un50, un3, ti3, ti4, fl25_0, fl25_1, fl27_0, fl27_1, S1_fw, U1_fw, hK0] <;> rfl) ?_
  refine awp_seq ?_
  refine awp_seq ?_
  by_cases h1 : (ns.length : Int) < 1
  · refine awp_region rfl ?_
    refine aops_run 13 (by simp only [fwA, ↓reduceIte, Nat.reduceAdd, Nat.reduceMul, Nat.reduceEqDiff, Nat.reduceLT, Nat.reduceLeDiff, reduceCtorEq, bitfw, List.length_map, List.getElem?_map, Option.map_some, Int.natCast_nonneg, Int.toNat_natCast, decide_true, decide_false, Bool.and_true, Bool.and_self, Bool.not_true, Bool.not_false, Bool.false_and, Bool.true_and, un9, un22, un23, el22, el23, ti9, ti22, ti23, ti25, ti27, ti50, un50, un3, ti3, ti4, fl25_0, fl25_1, fl27_0, fl27_1, S1_fw, U1_fw, hK0, h1] <;> rfl) ?_
    refine aops_run 6 (by simp only [fwA, ↓reduceIte, Nat.reduceAdd, Nat.reduceMul, Nat.reduceEqDiff, Nat.reduceLT, Nat.reduceLeDiff, reduceCtorEq, bitfw, List.length_map, List.getElem?_map, Option.map_some, Int.natCast_nonneg, Int.toNat_natCast, decide_true, decide_false, Bool.and_true, Bool.and_self, Bool.not_true, Bool.not_false, Bool.false_and, Bool.true_and, un9, un22, un23, el22, el23, ti9, ti22, ti23, ti25, ti27, ti50, un50, un3, ti3, ti4, fl25_0, fl25_1, fl27_0, fl27_1, S1_fw, U1_fw, hK0, h1] <;> rfl) ?_
    refine aops_end ?_
    refine awp_cond (b := true) (by simp [alook, aput, ev]) ?_
    refine awp_seq ?_
    refine awp_run rfl (by simp only [fwA, ↓reduceIte, Nat.reduceAdd, Nat.reduceMul, Nat.reduceEqDiff, Nat.reduceLT, Nat.reduceLeDiff, reduceCtorEq] <;> rfl) ?_
    refine awp_ret ?_
    have e : rightB ns us = false := by unfold rightB; rw [hnn, decide_eq_false (by omega : ¬ 0 < ns.length), Bool.false_and, Bool.and_false]; rfl
    rw [e]
    exact hend _ _ rfl
  by_cases h2 : (64 : Int) < (ns.length : Int)
  · refine awp_region rfl ?_
    refine aops_run 13 (by simp only [fwA, ↓reduceIte, Nat.reduceAdd, Nat.reduceMul, Nat.reduceEqDiff, Nat.reduceLT, Nat.reduceLeDiff, reduceCtorEq, bitfw, List.length_map, List.getElem?_map, Option.map_some, Int.natCast_nonneg, Int.toNat_natCast, decide_true, decide_false, Bool.and_true, Bool.and_self, Bool.not_true, Bool.not_false, Bool.false_and, Bool.true_and, un9, un22, un23, el22, el23, ti9, ti22, ti23, ti25, ti27, ti50, un50, un3, ti3, ti4, fl25_0, fl25_1, fl27_0, fl27_1, S1_fw, U1_fw, hK0, h1, h2] <;> rfl) ?_
    refine aops_run 6 (by simp only [fwA, ↓reduceIte, Nat.reduceAdd, Nat.reduceMul, Nat.reduceEqDiff, Nat.reduceLT, Nat.reduceLeDiff, reduceCtorEq, bitfw, List.length_map, List.getElem?_map, Option.map_some, Int.natCast_nonneg, Int.toNat_natCast, decide_true, decide_false, Bool.and_true, Bool.and_self, Bool.not_true, Bool.not_false, Bool.false_and, Bool.true_and, un9, un22, un23, el22, el23, ti9, ti22, ti23, ti25, ti27, ti50, un50, un3, ti3, ti4, fl25_0, fl25_1, fl27_0, fl27_1, S1_fw, U1_fw, hK0, h1, h2] <;> rfl) ?_
    refine aops_end ?_
    refine awp_cond (b := true) (by simp [alook, aput, ev]) ?_
    refine awp_seq ?_
    refine awp_run rfl (by simp only [fwA, ↓reduceIte, Nat.reduceAdd, Nat.reduceMul, Nat.reduceEqDiff, Nat.reduceLT, Nat.reduceLeDiff, reduceCtorEq] <;> rfl) ?_
    refine awp_ret ?_
    have e : rightB ns us = false := by unfold rightB; rw [decide_eq_false (by omega : ¬ ns.length ≤ 64)]; rfl
    rw [e]
    exact hend _ _ rfl
  by_cases h3 : (us.length : Int) = (ns.length : Int)
  rotate_left
  · refine awp_region rfl ?_
    refine aops_run 13 (by simp only [fwA, ↓reduceIte, Nat.reduceAdd, Nat.reduceMul, Nat.reduceEqDiff, Nat.reduceLT, Nat.reduceLeDiff, reduceCtorEq, bitfw, List.length_map, List.getElem?_map, Option.map_some, Int.natCast_nonneg, Int.toNat_natCast, decide_true, decide_false, Bool.and_true, Bool.and_self, Bool.not_true, Bool.not_false, Bool.false_and, Bool.true_and, un9, un22, un23, el22, el23, ti9, ti22, ti23, ti25, ti27, ti50, un50, un3, ti3, ti4, fl25_0, fl25_1, fl27_0, fl27_1, S1_fw, U1_fw, hK0, h1, h2, h3] <;> rfl) ?_
    refine aops_run 6 (by simp only [fwA, ↓reduceIte, Nat.reduceAdd, Nat.reduceMul, Nat.reduceEqDiff, Nat.reduceLT, Nat.reduceLeDiff, reduceCtorEq, bitfw, List.length_map, List.getElem?_map, Option.map_some, Int.natCast_nonneg, Int.toNat_natCast, decide_true, decide_false, Bool.and_true, Bool.and_self, Bool.not_true, Bool.not_false, Bool.false_and, Bool.true_and, un9, un22, un23, el22, el23, ti9, ti22, ti23, ti25, ti27, ti50, un50, un3, ti3, ti4, fl25_0, fl25_1, fl27_0, fl27_1, S1_fw, U1_fw, hK0, h1, h2, h3] <;> rfl) ?_
    refine aops_end ?_
    refine awp_cond (b := true) (by simp [alook, aput, ev]) ?_
    refine awp_seq ?_
    refine awp_run rfl (by simp only [fwA, ↓reduceIte, Nat.reduceAdd, Nat.reduceMul, Nat.reduceEqDiff, Nat.reduceLT, Nat.reduceLeDiff, reduceCtorEq] <;> rfl) ?_
    refine awp_ret ?_
    have e : rightB ns us = false := by unfold rightB; rw [decide_eq_false (by omega : ¬ us.length = ns.length), Bool.and_false]; rfl
    rw [e]
    exact hend _ _ rfl
  rw [decide_eq_true (by omega : 0 < ns.length), Bool.true_and] at hnn
  cases h4 : namesD ns
  · rw [h4] at h40
    refine awp_region rfl ?_
    refine aops_run 13 (by simp only [fwA, ↓reduceIte, Nat.reduceAdd, Nat.reduceMul, Nat.reduceEqDiff, Nat.reduceLT, Nat.reduceLeDiff, reduceCtorEq, bitfw, List.length_map, List.getElem?_map, Option.map_some, Int.natCast_nonneg, Int.toNat_natCast, decide_true, decide_false, Bool.and_true, Bool.and_self, Bool.not_true, Bool.not_false, Bool.false_and, Bool.true_and, un9, un22, un23, el22, el23, ti9, ti22, ti23, ti25, ti27, ti50, un50, un3, ti3, ti4, fl25_0, fl25_1, fl27_0, fl27_1, S1_fw, U1_fw, hK0, h1, h2, h3] <;> rfl) ?_
    refine aops_run 3 (by simp only [fwA, ↓reduceIte, Nat.reduceAdd, Nat.reduceMul, Nat.reduceEqDiff, Nat.reduceLT, Nat.reduceLeDiff, reduceCtorEq, bitfw, List.length_map, List.getElem?_map, Option.map_some, Int.natCast_nonneg, Int.toNat_natCast, decide_true, decide_false, Bool.and_true, Bool.and_self, Bool.not_true, Bool.not_false, Bool.false_and, Bool.true_and, un9, un22, un23, el22, el23, ti9, ti22, ti23, ti25, ti27, ti50, un50, un3, ti3, ti4, fl25_0, fl25_1, fl27_0, fl27_1, S1_fw, U1_fw, hK0, h1, h2, h3] <;> rfl) ?_
    refine aops_fnIf rfl rfl rfl rfl rfl en40 h40 ?_
    refine aops_run 2 (by simp only [fwA, ↓reduceIte, Nat.reduceAdd, Nat.reduceMul, Nat.reduceEqDiff, Nat.reduceLT, Nat.reduceLeDiff, reduceCtorEq, bitfw, List.length_map, List.getElem?_map, Option.map_some, Int.natCast_nonneg, Int.toNat_natCast, decide_true, decide_false, Bool.and_true, Bool.and_self, Bool.not_true, Bool.not_false, Bool.false_and, Bool.true_and, un9, un22, un23, el22, el23, ti9, ti22, ti23, ti25, ti27, ti50, un50, un3, ti3, ti4, fl25_0, fl25_1, fl27_0, fl27_1, S1_fw, U1_fw, hK0, h1, h2, h3] <;> rfl) ?_
    refine aops_end ?_
    refine awp_cond (b := true) (by simp [alook, aput, ev]) ?_
    refine awp_seq ?_
    refine awp_run rfl (by simp only [fwA, ↓reduceIte, Nat.reduceAdd, Nat.reduceMul, Nat.reduceEqDiff, Nat.reduceLT, Nat.reduceLeDiff, reduceCtorEq] <;> rfl) ?_
    refine awp_ret ?_
    have e : rightB ns us = false := by unfold rightB; rw [hnn, h4, Bool.and_false]; rfl
    rw [e]
    exact hend _ _ rfl
  rw [h4] at h40 hnn
  refine awp_region rfl ?_
  refine aops_run 13 (by simp only [fwA, ↓reduceIte, Nat.reduceAdd, Nat.reduceMul, Nat.reduceEqDiff, Nat.reduceLT, Nat.reduceLeDiff, reduceCtorEq, bitfw, List.length_map, List.getElem?_map, Option.map_some, Int.natCast_nonneg, Int.toNat_natCast, decide_true, decide_false, Bool.and_true, Bool.and_self, Bool.not_true, Bool.not_false, Bool.false_and, Bool.true_and, un9, un22, un23, el22, el23, ti9, ti22, ti23, ti25, ti27, ti50, un50, un3, ti3, ti4, fl25_0, fl25_1, fl27_0, fl27_1, S1_fw, U1_fw, hK0, h1, h2, h3] <;> rfl) ?_
  refine aops_run 3 (by simp only [fwA, ↓reduceIte, Nat.reduceAdd, Nat.reduceMul, Nat.reduceEqDiff, Nat.reduceLT, Nat.reduceLeDiff, reduceCtorEq, bitfw, List.length_map, List.getElem?_map, Option.map_some, Int.natCast_nonneg, Int.toNat_natCast, decide_true, decide_false, Bool.and_true, Bool.and_self, Bool.not_true, Bool.not_false, Bool.false_and, Bool.true_and, un9, un22, un23, el22, el23, ti9, ti22, ti23, ti25, ti27, ti50, un50, un3, ti3, ti4, fl25_0, fl25_1, fl27_0, fl27_1, S1_fw, U1_fw, hK0, h1, h2, h3] <;> rfl) ?_
  refine aops_fnIf rfl rfl rfl rfl rfl en40 h40 ?_
  refine aops_run 2 (by simp only [fwA, ↓reduceIte, Nat.reduceAdd, Nat.reduceMul, Nat.reduceEqDiff, Nat.reduceLT, Nat.reduceLeDiff, reduceCtorEq, bitfw, List.length_map, List.getElem?_map, Option.map_some, Int.natCast_nonneg, Int.toNat_natCast, decide_true, decide_false, Bool.and_true, Bool.and_self, Bool.not_true, Bool.not_false, Bool.false_and, Bool.true_and, un9, un22, un23, el22, el23, ti9, ti22, ti23, ti25, ti27, ti50, un50, un3, ti3, ti4, fl25_0, fl25_1, fl27_0, fl27_1, S1_fw, U1_fw, hK0, h1, h2, h3] <;> rfl) ?_
  refine aops_end ?_
  refine awp_cond (b := false) (by simp [alook, aput, ev]) (awp_skip ?_)
  have hl : us.length = ns.length := by omega
  have hn : us.length ≤ 64 := by omega
  have hR : rightB ns us = (us.all (fun x => decide (x < 2 ^ us.length)) && (ordB us.length (lq us) && boundB us.length (lq us))) := by
    unfold rightB
    rw [hnn, decide_eq_true (by omega : ns.length ≤ 64), decide_eq_true hl]; rfl
  rw [hR]
  refine awp_seq ?_
  refine awp_seq ?_
  refine awp_run rfl (by simp only [fwA, ↓reduceIte, Nat.reduceAdd, Nat.reduceMul, Nat.reduceEqDiff, Nat.reduceLT, Nat.reduceLeDiff, reduceCtorEq] <;> rfl) ?_
  refine awp_block ?_
  refine awp_for [1, 3, 4] (fun i : Nat => [.ptr H.length 0, .int .i64 (ns.length : Int), .int .i64 (i : Int)]) (fun _ => K) (fun i => us.length - i) (fun i => i ≤ us.length ∧ ∀ j x, j < i → us[j]? = some x → x < 2 ^ us.length) 0 rfl rfl ⟨Nat.zero_le _, fun j x hj => by omega⟩ fun i hs => ?_
  obtain ⟨hil, hall⟩ := hs
  refine awp_seq ?_
  refine awp_seq ?_
  refine awp_run rfl (by simp only [fwA, ↓reduceIte, Nat.reduceAdd, Nat.reduceMul, Nat.reduceEqDiff, Nat.reduceLT, Nat.reduceLeDiff, reduceCtorEq, bitfw, List.length_map, List.getElem?_map, Option.map_some, Int.natCast_nonneg, Int.toNat_natCast, decide_true, decide_false, Bool.and_true, Bool.and_self, Bool.not_true, Bool.not_false, Bool.false_and, Bool.true_and, un9, un22, un23, el22, el23, ti9, ti22, ti23, ti25, ti27, ti50, un50, un3, ti3, ti4, fl25_0, fl25_1, fl27_0, fl27_1, S1_fw, U1_fw] <;> rfl) ?_
  refine awp_cond (by simp only [fwA, ↓reduceIte, Nat.reduceAdd, Nat.reduceMul, Nat.reduceEqDiff, Nat.reduceLT, Nat.reduceLeDiff, reduceCtorEq] <;> rfl) ?_
  by_cases hc : (i : Int) < ns.length
  rotate_left
  · simp only [hc, decide_false, Bool.false_eq_true, ↓reduceIte]
    refine awp_exit ?_
    have ha : us.all (fun x => decide (x < 2 ^ us.length)) = true := by
      rw [List.all_eq_true]
      intro x hx
      obtain ⟨j, hj⟩ := List.getElem?_of_mem hx
      exact decide_eq_true (hall j x (by have := (List.getElem?_eq_some_iff.1 hj).1; omega) hj)
    have hi : Inn us.length us := fun x hx => by
      rw [List.all_eq_true] at ha
      exact of_decide_eq_true (ha x hx)
    have h42 := c42 Γ ns us hw hl hn
    have h43 := c43 Γ ns us hw hl hn
    rw [ha, Bool.true_and]
    refine awp_seq ?_
    cases h5 : ordB us.length (lq us)
    · rw [h5] at h42
      refine awp_region rfl ?_
      refine aops_run 1 (by simp only [fwA, ↓reduceIte, Nat.reduceAdd, Nat.reduceMul, Nat.reduceEqDiff, Nat.reduceLT, Nat.reduceLeDiff, reduceCtorEq, bitfw, List.length_map, List.getElem?_map, Option.map_some, Int.natCast_nonneg, Int.toNat_natCast, decide_true, decide_false, Bool.and_true, Bool.and_self, Bool.not_true, Bool.not_false, Bool.false_and, Bool.true_and, un9, un22, un23, el22, el23, ti9, ti22, ti23, ti25, ti27, ti50, un50, un3, ti3, ti4, fl25_0, fl25_1, fl27_0, fl27_1, S1_fw, U1_fw, hK0] <;> rfl) ?_
      refine aops_fn rfl rfl rfl en42 h42 ?_
      refine aops_run 5 (by simp only [fwA, ↓reduceIte, Nat.reduceAdd, Nat.reduceMul, Nat.reduceEqDiff, Nat.reduceLT, Nat.reduceLeDiff, reduceCtorEq, bitfw, List.length_map, List.getElem?_map, Option.map_some, Int.natCast_nonneg, Int.toNat_natCast, decide_true, decide_false, Bool.and_true, Bool.and_self, Bool.not_true, Bool.not_false, Bool.false_and, Bool.true_and, un9, un22, un23, el22, el23, ti9, ti22, ti23, ti25, ti27, ti50, un50, un3, ti3, ti4, fl25_0, fl25_1, fl27_0, fl27_1, S1_fw, U1_fw, hK0] <;> rfl) ?_
      refine aops_end ?_
      refine awp_ret ?_
      exact hend _ _ rfl
    · rw [h5] at h42
      refine awp_region rfl ?_
      refine aops_run 1 (by simp only [fwA, ↓reduceIte, Nat.reduceAdd, Nat.reduceMul, Nat.reduceEqDiff, Nat.reduceLT, Nat.reduceLeDiff, reduceCtorEq, bitfw, List.length_map, List.getElem?_map, Option.map_some, Int.natCast_nonneg, Int.toNat_natCast, decide_true, decide_false, Bool.and_true, Bool.and_self, Bool.not_true, Bool.not_false, Bool.false_and, Bool.true_and, un9, un22, un23, el22, el23, ti9, ti22, ti23, ti25, ti27, ti50, un50, un3, ti3, ti4, fl25_0, fl25_1, fl27_0, fl27_1, S1_fw, U1_fw, hK0] <;> rfl) ?_
      refine aops_fn rfl rfl rfl en42 h42 ?_
      refine aops_run 2 (by simp only [fwA, ↓reduceIte, Nat.reduceAdd, Nat.reduceMul, Nat.reduceEqDiff, Nat.reduceLT, Nat.reduceLeDiff, reduceCtorEq, bitfw, List.length_map, List.getElem?_map, Option.map_some, Int.natCast_nonneg, Int.toNat_natCast, decide_true, decide_false, Bool.and_true, Bool.and_self, Bool.not_true, Bool.not_false, Bool.false_and, Bool.true_and, un9, un22, un23, el22, el23, ti9, ti22, ti23, ti25, ti27, ti50, un50, un3, ti3, ti4, fl25_0, fl25_1, fl27_0, fl27_1, S1_fw, U1_fw, hK0] <;> rfl) ?_
      refine aops_fnIf rfl rfl rfl rfl rfl en43 h43 ?_
      refine aops_run 2 (by simp only [fwA, ↓reduceIte, Nat.reduceAdd, Nat.reduceMul, Nat.reduceEqDiff, Nat.reduceLT, Nat.reduceLeDiff, reduceCtorEq, bitfw, List.length_map, List.getElem?_map, Option.map_some, Int.natCast_nonneg, Int.toNat_natCast, decide_true, decide_false, Bool.and_true, Bool.and_self, Bool.not_true, Bool.not_false, Bool.false_and, Bool.true_and, un9, un22, un23, el22, el23, ti9, ti22, ti23, ti25, ti27, ti50, un50, un3, ti3, ti4, fl25_0, fl25_1, fl27_0, fl27_1, S1_fw, U1_fw, hK0] <;> rfl) ?_
      refine aops_end ?_
      refine awp_ret ?_
      rw [Bool.true_and]
      exact hend _ _ rfl
  simp only [hc, decide_true, ↓reduceIte]
  refine awp_skip ?_
  have hill : i < us.length := by omega
  have hwi : IntKind.i64.wrap ((i : Int) + 1) = ((i + 1 : Nat) : Int) := wrapS i (by omega)
  obtain ⟨x, gx, hx, ex⟩ := getW hw hill
  have hstep : x < 2 ^ us.length → ∀ j y, j < i + 1 → us[j]? = some y → y < 2 ^ us.length := fun h j y hj hy => by
    by_cases hji : j = i
    · subst hji; rw [gx] at hy; cases hy; exact h
    · exact hall j y (by omega) hy
  refine awp_seq ?_
  refine awp_block ?_
  refine awp_seq ?_
  by_cases h6 : (ns.length : Int) < 64
  · have hs := uShr ns.length hx
    have hz := shr_zero (x := x) ns.length
    by_cases h7 : x < 2 ^ ns.length
    · rw [decide_eq_true h7] at hz
      refine awp_run rfl (by simp only [fwA, ↓reduceIte, Nat.reduceAdd, Nat.reduceMul, Nat.reduceEqDiff, Nat.reduceLT, Nat.reduceLeDiff, reduceCtorEq, bitfw, List.length_map, List.getElem?_map, Option.map_some, Int.natCast_nonneg, Int.toNat_natCast, decide_true, decide_false, Bool.and_true, Bool.and_self, Bool.not_true, Bool.not_false, Bool.false_and, Bool.true_and, un9, un22, un23, el22, el23, ti9, ti22, ti23, ti25, ti27, ti50, un50, un3, ti3, ti4, fl25_0, fl25_1, fl27_0, fl27_1, S1_fw, U1_fw, hK0, h6, gx, hs, hz] <;> rfl) ?_
      refine awp_cond (b := false) (by simp [alook, aput, ev]) (awp_skip ?_)
      refine awp_run rfl (by simp only [fwA, ↓reduceIte, Nat.reduceAdd, Nat.reduceMul, Nat.reduceEqDiff, Nat.reduceLT, Nat.reduceLeDiff, reduceCtorEq] <;> rfl) ?_
      refine ⟨i + 1, by omega, ⟨by omega, hstep (by rw [hl]; exact h7)⟩, ?_, rfl, rfl⟩
      simp only [fwA, ↓reduceIte, Nat.reduceAdd, Nat.reduceMul, Nat.reduceEqDiff, Nat.reduceLT, Nat.reduceLeDiff, reduceCtorEq, List.map_cons, List.map_nil, hwi]
    · rw [decide_eq_false h7] at hz
      refine awp_run rfl (by simp only [fwA, ↓reduceIte, Nat.reduceAdd, Nat.reduceMul, Nat.reduceEqDiff, Nat.reduceLT, Nat.reduceLeDiff, reduceCtorEq, bitfw, List.length_map, List.getElem?_map, Option.map_some, Int.natCast_nonneg, Int.toNat_natCast, decide_true, decide_false, Bool.and_true, Bool.and_self, Bool.not_true, Bool.not_false, Bool.false_and, Bool.true_and, un9, un22, un23, el22, el23, ti9, ti22, ti23, ti25, ti27, ti50, un50, un3, ti3, ti4, fl25_0, fl25_1, fl27_0, fl27_1, S1_fw, U1_fw, hK0, h6, gx, hs, hz] <;> rfl) ?_
      refine awp_cond (b := true) (by simp [alook, aput, ev]) ?_
      refine awp_seq ?_
      refine awp_run rfl (by simp only [fwA, ↓reduceIte, Nat.reduceAdd, Nat.reduceMul, Nat.reduceEqDiff, Nat.reduceLT, Nat.reduceLeDiff, reduceCtorEq] <;> rfl) ?_
      refine awp_ret ?_
      have ha : us.all (fun x => decide (x < 2 ^ us.length)) = false := by
        rw [List.all_eq_false]
        exact ⟨x, List.mem_of_getElem? gx, by rw [hl]; simpa using h7⟩
      rw [ha]
      exact hend _ _ rfl
  · refine awp_run rfl (by simp only [fwA, ↓reduceIte, Nat.reduceAdd, Nat.reduceMul, Nat.reduceEqDiff, Nat.reduceLT, Nat.reduceLeDiff, reduceCtorEq, bitfw, List.length_map, List.getElem?_map, Option.map_some, Int.natCast_nonneg, Int.toNat_natCast, decide_true, decide_false, Bool.and_true, Bool.and_self, Bool.not_true, Bool.not_false, Bool.false_and, Bool.true_and, un9, un22, un23, el22, el23, ti9, ti22, ti23, ti25, ti27, ti50, un50, un3, ti3, ti4, fl25_0, fl25_1, fl27_0, fl27_1, S1_fw, U1_fw, hK0, h6, gx] <;> rfl) ?_
    refine awp_cond (b := false) (by simp [alook, aput, ev]) (awp_skip ?_)
    refine awp_run rfl (by simp only [fwA, ↓reduceIte, Nat.reduceAdd, Nat.reduceMul, Nat.reduceEqDiff, Nat.reduceLT, Nat.reduceLeDiff, reduceCtorEq] <;> rfl) ?_
    refine ⟨i + 1, by omega, ⟨by omega, hstep (by rw [show us.length = 64 by omega]; exact hx)⟩, ?_, rfl, rfl⟩
    simp only [fwA, ↓reduceIte, Nat.reduceAdd, Nat.reduceMul, Nat.reduceEqDiff, Nat.reduceLT, Nat.reduceLeDiff, reduceCtorEq, List.map_cons, List.map_nil, hwi]

end Go.Proofs.YtdhlghhokbmhdaaDoor
