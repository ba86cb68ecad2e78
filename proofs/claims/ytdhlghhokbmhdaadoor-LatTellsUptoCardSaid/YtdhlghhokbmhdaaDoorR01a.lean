/- The contracts of names, points, and of the small functions. -/
import Derived.Test.YtdhlghhokbmhdaaDoorE01
namespace Go.Proofs.YtdhlghhokbmhdaaDoor
set_option linter.unusedVariables false
set_option linter.unusedSimpArgs false
set_option maxRecDepth 100000
open Go.RowKit Fw

theorem all_succ (p : Nat → Bool) (i : Nat) : (List.range (i + 1)).all p = ((List.range i).all p && p i) := by
  rw [List.range_succ, List.all_append]; simp
theorem all_false {p : Nat → Bool} {j n : Nat} (hj : j < n) (h : p j = false) : (List.range n).all p = false := by
  rw [List.all_eq_false]
  exact ⟨j, List.mem_range.2 hj, by rw [h]; simp⟩
def letB (c : UInt8) : Bool := decide (97 ≤ c.toNat) && decide (c.toNat ≤ 122) || decide (65 ≤ c.toNat) && decide (c.toNat ≤ 90)
def digB (c : UInt8) : Bool := decide (48 ≤ c.toNat) && decide (c.toNat ≤ 57)
/-- Whether a byte may stand at a place of a name. -/
def chB (j : Nat) (c : UInt8) : Bool := letB c || (decide (0 < j) && digB c)
def chsB (s : List UInt8) (k : Nat) : Bool := (List.range k).all fun j => chB j (s.getD j 0)
/-- Whether a text is a name. -/
def nameB (s : List UInt8) : Bool := decide (0 < s.length) && decide (s.length ≤ 16) && chsB s s.length
theorem chsB_succ {s : List UInt8} {i : Nat} {c : UInt8} (h : s[i]? = some c) : chsB s (i + 1) = (chsB s i && chB i c) := by
  unfold chsB
  rw [all_succ, List.getD_eq_getElem?_getD, h]; rfl
theorem chsB_false {s : List UInt8} {i : Nat} {c : UInt8} (h : s[i]? = some c) (hc : chB i c = false) : nameB s = false := by
  have hi : i < s.length := (List.getElem?_eq_some_iff.1 h).1
  have : chsB s s.length = false := by
    unfold chsB
    exact all_false hi (by rw [List.getD_eq_getElem?_getD, h]; exact hc)
  unfold nameB
  rw [this, Bool.and_false]
def orX (c : UInt8) : Int := IntKind.u8.wrap ((BitVec.ofInt IntKind.u8.bits (c.toNat : Int) ||| BitVec.ofInt IntKind.u8.bits 32).toNat : Int)
theorem letX_fin : ∀ n : Fin 256, (decide (97 ≤ IntKind.u8.wrap ((BitVec.ofInt IntKind.u8.bits (n.val : Int) ||| BitVec.ofInt IntKind.u8.bits 32).toNat : Int)) && decide (IntKind.u8.wrap ((BitVec.ofInt IntKind.u8.bits (n.val : Int) ||| BitVec.ofInt IntKind.u8.bits 32).toNat : Int) ≤ 122)) = (decide (97 ≤ n.val) && decide (n.val ≤ 122) || decide (65 ≤ n.val) && decide (n.val ≤ 90)) := by
  decide +kernel
theorem letX (c : UInt8) : (decide (97 ≤ orX c) && decide (orX c ≤ 122)) = letB c := letX_fin ⟨c.toNat, c.toNat_lt⟩

/- chancel/lat.letter -/
theorem c49 (Γ : Nat → PV) (c : UInt8) : Gives Tryd.prog Γ 49 [.int .u8 (c.toNat : Int)] (.bool (letB c)) := by
  refine fn_of_awp Tryd.func49 rfl (by simp [Tryd.f49]) rfl fun H => ?_
  rw [← letX]
  have hX : orX c = IntKind.u8.wrap ((BitVec.ofInt IntKind.u8.bits (c.toNat : Int) ||| BitVec.ofInt IntKind.u8.bits 32).toNat : Int) := rfl
  refine awp_seq ?_
  refine awp_run rfl (by simp only [fwA, ↓reduceIte, Nat.reduceAdd, Nat.reduceMul, Nat.reduceEqDiff, Nat.reduceLT, Nat.reduceLeDiff, reduceCtorEq] <;> rfl) ?_
  refine awp_seq ?_
  by_cases h : 97 ≤ orX c
  · rw [decide_eq_true h, Bool.true_and]
    refine awp_run rfl (by simp only [fwA, ↓reduceIte, Nat.reduceAdd, Nat.reduceMul, Nat.reduceEqDiff, Nat.reduceLT, Nat.reduceLeDiff, reduceCtorEq, bitfw, ← hX, h, decide_true] <;> rfl) ?_
    refine awp_ret ?_
    exact gives_end0 (.inl rfl) rfl
  · rw [decide_eq_false h, Bool.false_and]
    refine awp_run rfl (by simp only [fwA, ↓reduceIte, Nat.reduceAdd, Nat.reduceMul, Nat.reduceEqDiff, Nat.reduceLT, Nat.reduceLeDiff, reduceCtorEq, bitfw, ← hX, h, decide_false] <;> rfl) ?_
    refine awp_ret ?_
    exact gives_end0 (.inl rfl) rfl

/- chancel/lat.Name -/
theorem c19 (Γ : Nat → PV) (s : List UInt8) : Gives Tryd.prog Γ 19 [.str s] (.bool (nameB s)) := by
  refine fn_of_awp Tryd.func19 rfl (by simp [Tryd.f19]) rfl fun H => ?_
  refine awp_slen 0 rfl fun hsl => ?_
  refine awp_seq ?_
  refine awp_run rfl (by simp only [fwA, ↓reduceIte, Nat.reduceAdd, Nat.reduceMul, Nat.reduceEqDiff, Nat.reduceLT, Nat.reduceLeDiff, reduceCtorEq] <;> rfl) ?_
  refine awp_seq ?_
  refine awp_seq ?_
  refine awp_run rfl (by simp only [fwA, ↓reduceIte, Nat.reduceAdd, Nat.reduceMul, Nat.reduceEqDiff, Nat.reduceLT, Nat.reduceLeDiff, reduceCtorEq, List.length_map, List.getElem?_map, Option.map_some, Int.natCast_nonneg, Int.toNat_natCast, decide_true, decide_false, Bool.and_true, Bool.and_self, Bool.not_true, Bool.not_false, un9, un22, el22, ti9, S1_fw] <;> rfl) ?_
  refine awp_block ?_
  refine awp_for [0, 6, 7] (fun i : Nat => [.str s, .int .i64 (s.length : Int), .int .i64 (i : Int)]) (fun _ => H) (fun i => s.length - i) (fun i => i ≤ s.length ∧ chsB s i = true) 0 rfl rfl ⟨Nat.zero_le _, rfl⟩ fun i hi => ?_
  obtain ⟨hi, hch⟩ := hi
  refine awp_seq ?_
  refine awp_run rfl (by simp only [fwA, ↓reduceIte, Nat.reduceAdd, Nat.reduceMul, Nat.reduceEqDiff, Nat.reduceLT, Nat.reduceLeDiff, reduceCtorEq, List.length_map, List.getElem?_map, Option.map_some, Int.natCast_nonneg, Int.toNat_natCast, decide_true, decide_false, Bool.and_true, Bool.and_self, Bool.not_true, Bool.not_false, un9, un22, el22, ti9, S1_fw] <;> rfl) ?_
  refine awp_seq ?_
  refine awp_cond (by simp only [fwA, ↓reduceIte, Nat.reduceAdd, Nat.reduceMul, Nat.reduceEqDiff, Nat.reduceLT, Nat.reduceLeDiff, reduceCtorEq] <;> rfl) ?_
  by_cases hc : (i : Int) < s.length
  rotate_left
  · simp only [hc, decide_false, Bool.false_eq_true, ↓reduceIte]
    refine awp_exit ?_
    have e : i = s.length := by omega
    subst e
    refine awp_seq ?_
    by_cases h0 : (0 : Int) < s.length
    · refine awp_run rfl (by simp only [fwA, ↓reduceIte, Nat.reduceAdd, Nat.reduceMul, Nat.reduceEqDiff, Nat.reduceLT, Nat.reduceLeDiff, reduceCtorEq, List.length_map, List.getElem?_map, Option.map_some, Int.natCast_nonneg, Int.toNat_natCast, decide_true, decide_false, Bool.and_true, Bool.and_self, Bool.not_true, Bool.not_false, un9, un22, el22, ti9, S1_fw, h0] <;> rfl) ?_
      refine awp_ret ?_
      have h0' : 0 < s.length := by omega
      have e2 : decide ((s.length : Int) ≤ 16) = decide (s.length ≤ 16) := decide_eq_decide.2 (by omega)
      exact gives_end0 (.inl rfl) (by unfold nameB; rw [hch, decide_eq_true h0', ← e2, Bool.true_and, Bool.and_true]; rfl)
    · refine awp_run rfl (by simp only [fwA, ↓reduceIte, Nat.reduceAdd, Nat.reduceMul, Nat.reduceEqDiff, Nat.reduceLT, Nat.reduceLeDiff, reduceCtorEq, List.length_map, List.getElem?_map, Option.map_some, Int.natCast_nonneg, Int.toNat_natCast, decide_true, decide_false, Bool.and_true, Bool.and_self, Bool.not_true, Bool.not_false, un9, un22, el22, ti9, S1_fw, h0] <;> rfl) ?_
      refine awp_ret ?_
      have h0' : ¬ 0 < s.length := by omega
      exact gives_end0 (.inl rfl) (by unfold nameB; rw [decide_eq_false h0']; rfl)
  simp only [hc, decide_true, ↓reduceIte]
  refine awp_skip ?_
  have hil : i < s.length := by omega
  have ga : s[i]? = some s[i] := List.getElem?_eq_getElem hil
  generalize s[i] = c at ga
  have hwi : IntKind.i64.wrap ((i : Int) + 1) = ((i + 1 : Nat) : Int) := wrapS i (by omega)
  have hst := chsB_succ ga
  refine awp_seq ?_
  refine awp_block ?_
  refine awp_seq ?_
  refine awp_run rfl (by simp only [fwA, ↓reduceIte, Nat.reduceAdd, Nat.reduceMul, Nat.reduceEqDiff, Nat.reduceLT, Nat.reduceLeDiff, reduceCtorEq] <;> rfl) ?_
  refine awp_join [0, 3, 4, 6, 7] (fun d : Bool => [.str s, .int .i64 (i : Int), .bool d, .int .i64 (s.length : Int), .int .i64 (i : Int)]) (fun _ => H) (fun d => d = digB c) ?_ fun d hd => ?_
  · have e1 : decide ((48 : Int) ≤ (c.toNat : Int)) = decide (48 ≤ c.toNat) := decide_eq_decide.2 (by omega)
    have e2 : decide ((c.toNat : Int) ≤ 57) = decide (c.toNat ≤ 57) := decide_eq_decide.2 (by omega)
    by_cases h1 : (48 : Int) ≤ (c.toNat : Int)
    · refine awp_run rfl (by simp only [fwA, ↓reduceIte, Nat.reduceAdd, Nat.reduceMul, Nat.reduceEqDiff, Nat.reduceLT, Nat.reduceLeDiff, reduceCtorEq, List.length_map, List.getElem?_map, Option.map_some, Int.natCast_nonneg, Int.toNat_natCast, decide_true, decide_false, Bool.and_true, Bool.and_self, Bool.not_true, Bool.not_false, un9, un22, el22, ti9, S1_fw, ga, h1] <;> rfl) ?_
      exact ⟨_, by unfold digB; rw [← e1, ← e2, decide_eq_true h1, Bool.true_and], rfl, rfl, rfl⟩
    · refine awp_run rfl (by simp only [fwA, ↓reduceIte, Nat.reduceAdd, Nat.reduceMul, Nat.reduceEqDiff, Nat.reduceLT, Nat.reduceLeDiff, reduceCtorEq, List.length_map, List.getElem?_map, Option.map_some, Int.natCast_nonneg, Int.toNat_natCast, decide_true, decide_false, Bool.and_true, Bool.and_self, Bool.not_true, Bool.not_false, un9, un22, el22, ti9, S1_fw, ga, h1] <;> rfl) ?_
      exact ⟨_, by unfold digB; rw [← e1, decide_eq_false h1, Bool.false_and], rfl, rfl, rfl⟩
  subst hd
  have h49 := c49 Γ c
  refine awp_seq ?_
  cases hL : letB c
  · rw [hL] at h49
    by_cases h0 : (i : Int) = 0
    · have hd0 : decide ((i : Int) = 0) = true := decide_eq_true h0
      refine awp_region rfl ?_
      refine aops_run 3 (by simp only [fwA, ↓reduceIte, Nat.reduceAdd, Nat.reduceMul, Nat.reduceEqDiff, Nat.reduceLT, Nat.reduceLeDiff, reduceCtorEq, List.length_map, List.getElem?_map, Option.map_some, Int.natCast_nonneg, Int.toNat_natCast, decide_true, decide_false, Bool.and_true, Bool.and_self, Bool.not_true, Bool.not_false, un9, un22, el22, ti9, S1_fw, ga, hd0] <;> rfl) ?_
      refine aops_fn rfl rfl rfl en49 h49 ?_
      refine aops_run 9 (by simp only [fwA, ↓reduceIte, Nat.reduceAdd, Nat.reduceMul, Nat.reduceEqDiff, Nat.reduceLT, Nat.reduceLeDiff, reduceCtorEq, List.length_map, List.getElem?_map, Option.map_some, Int.natCast_nonneg, Int.toNat_natCast, decide_true, decide_false, Bool.and_true, Bool.and_self, Bool.not_true, Bool.not_false, un9, un22, el22, ti9, S1_fw, ga, hd0] <;> rfl) ?_
      refine aops_end ?_
      refine awp_cond (b := true) (by simp [alook, aput, ev]) ?_
      refine awp_seq ?_
      refine awp_run rfl (by simp only [fwA, ↓reduceIte, Nat.reduceAdd, Nat.reduceMul, Nat.reduceEqDiff, Nat.reduceLT, Nat.reduceLeDiff, reduceCtorEq] <;> rfl) ?_
      refine awp_ret ?_
      exact gives_end0 (.inl rfl) (by rw [chsB_false ga (by unfold chB; rw [hL, decide_eq_false (by omega)]; rfl)]; rfl)
    · have h0' : 0 < i := by omega
      cases hD : digB c
      · refine awp_region rfl ?_
        refine aops_run 3 (by simp only [fwA, ↓reduceIte, Nat.reduceAdd, Nat.reduceMul, Nat.reduceEqDiff, Nat.reduceLT, Nat.reduceLeDiff, reduceCtorEq, List.length_map, List.getElem?_map, Option.map_some, Int.natCast_nonneg, Int.toNat_natCast, decide_true, decide_false, Bool.and_true, Bool.and_self, Bool.not_true, Bool.not_false, un9, un22, el22, ti9, S1_fw, ga, h0] <;> rfl) ?_
        refine aops_fn rfl rfl rfl en49 h49 ?_
        refine aops_run 9 (by simp only [fwA, ↓reduceIte, Nat.reduceAdd, Nat.reduceMul, Nat.reduceEqDiff, Nat.reduceLT, Nat.reduceLeDiff, reduceCtorEq, List.length_map, List.getElem?_map, Option.map_some, Int.natCast_nonneg, Int.toNat_natCast, decide_true, decide_false, Bool.and_true, Bool.and_self, Bool.not_true, Bool.not_false, un9, un22, el22, ti9, S1_fw, ga, h0] <;> rfl) ?_
        refine aops_end ?_
        refine awp_cond (b := true) (by simp [alook, aput, ev]) ?_
        refine awp_seq ?_
        refine awp_run rfl (by simp only [fwA, ↓reduceIte, Nat.reduceAdd, Nat.reduceMul, Nat.reduceEqDiff, Nat.reduceLT, Nat.reduceLeDiff, reduceCtorEq] <;> rfl) ?_
        refine awp_ret ?_
        exact gives_end0 (.inl rfl) (by rw [chsB_false ga (by unfold chB; rw [hL, hD, Bool.and_false]; rfl)]; rfl)
      · refine awp_region rfl ?_
        refine aops_run 3 (by simp only [fwA, ↓reduceIte, Nat.reduceAdd, Nat.reduceMul, Nat.reduceEqDiff, Nat.reduceLT, Nat.reduceLeDiff, reduceCtorEq, List.length_map, List.getElem?_map, Option.map_some, Int.natCast_nonneg, Int.toNat_natCast, decide_true, decide_false, Bool.and_true, Bool.and_self, Bool.not_true, Bool.not_false, un9, un22, el22, ti9, S1_fw, ga, h0] <;> rfl) ?_
        refine aops_fn rfl rfl rfl en49 h49 ?_
        refine aops_run 9 (by simp only [fwA, ↓reduceIte, Nat.reduceAdd, Nat.reduceMul, Nat.reduceEqDiff, Nat.reduceLT, Nat.reduceLeDiff, reduceCtorEq, List.length_map, List.getElem?_map, Option.map_some, Int.natCast_nonneg, Int.toNat_natCast, decide_true, decide_false, Bool.and_true, Bool.and_self, Bool.not_true, Bool.not_false, un9, un22, el22, ti9, S1_fw, ga, h0] <;> rfl) ?_
        refine aops_end ?_
        refine awp_cond (b := false) (by simp [alook, aput, ev]) (awp_skip ?_)
        refine awp_run rfl (by simp only [fwA, ↓reduceIte, Nat.reduceAdd, Nat.reduceMul, Nat.reduceEqDiff, Nat.reduceLT, Nat.reduceLeDiff, reduceCtorEq] <;> rfl) ?_
        refine ⟨i + 1, by omega, ⟨by omega, by rw [hst, hch]; unfold chB; rw [hL, hD, decide_eq_true h0']; rfl⟩, ?_, rfl, rfl⟩
        simp only [fwA, ↓reduceIte, Nat.reduceAdd, Nat.reduceMul, Nat.reduceEqDiff, Nat.reduceLT, Nat.reduceLeDiff, reduceCtorEq, List.map_cons, List.map_nil, hwi]
  · rw [hL] at h49
    refine awp_region rfl ?_
    refine aops_run 3 (by simp only [fwA, ↓reduceIte, Nat.reduceAdd, Nat.reduceMul, Nat.reduceEqDiff, Nat.reduceLT, Nat.reduceLeDiff, reduceCtorEq, List.length_map, List.getElem?_map, Option.map_some, Int.natCast_nonneg, Int.toNat_natCast, decide_true, decide_false, Bool.and_true, Bool.and_self, Bool.not_true, Bool.not_false, un9, un22, el22, ti9, S1_fw, ga] <;> rfl) ?_
    refine aops_fn rfl rfl rfl en49 h49 ?_
    refine aops_run 9 (by simp only [fwA, ↓reduceIte, Nat.reduceAdd, Nat.reduceMul, Nat.reduceEqDiff, Nat.reduceLT, Nat.reduceLeDiff, reduceCtorEq, List.length_map, List.getElem?_map, Option.map_some, Int.natCast_nonneg, Int.toNat_natCast, decide_true, decide_false, Bool.and_true, Bool.and_self, Bool.not_true, Bool.not_false, un9, un22, el22, ti9, S1_fw, ga] <;> rfl) ?_
    refine aops_end ?_
    refine awp_cond (b := false) (by simp [alook, aput, ev]) (awp_skip ?_)
    refine awp_run rfl (by simp only [fwA, ↓reduceIte, Nat.reduceAdd, Nat.reduceMul, Nat.reduceEqDiff, Nat.reduceLT, Nat.reduceLeDiff, reduceCtorEq] <;> rfl) ?_
    refine ⟨i + 1, by omega, ⟨by omega, by rw [hst, hch]; unfold chB; rw [hL]; rfl⟩, ?_, rfl, rfl⟩
    simp only [fwA, ↓reduceIte, Nat.reduceAdd, Nat.reduceMul, Nat.reduceEqDiff, Nat.reduceLT, Nat.reduceLeDiff, reduceCtorEq, List.map_cons, List.map_nil, hwi]

/-- The first place of a text in a list; -1: there is none. -/
def idxS (l : List (List UInt8)) (s : List UInt8) : Int := match l.findIdx? (fun x => decide (s = x)) with | some k => (k : Int) | none => -1
theorem idxS_none {l : List (List UInt8)} {s : List UInt8} (h : ∀ j, j < l.length → l[j]? ≠ some s) : idxS l s = -1 := by
  unfold idxS
  have : l.findIdx? (fun x => decide (s = x)) = none := by
    rw [List.findIdx?_eq_none_iff]
    intro x hx
    obtain ⟨j, hj⟩ := List.getElem?_of_mem hx
    have := h j (List.getElem?_eq_some_iff.1 hj).1
    rw [hj] at this
    simpa using fun e : s = x => this (by rw [e])
  rw [this]
theorem idxS_some {l : List (List UInt8)} {s : List UInt8} {i : Nat} (h : ∀ j, j < i → l[j]? ≠ some s) (hi : l[i]? = some s) : idxS l s = i := by
  unfold idxS
  have : l.findIdx? (fun x => decide (s = x)) = some i := by
    obtain ⟨h1, h2⟩ := List.getElem?_eq_some_iff.1 hi
    rw [List.findIdx?_eq_some_iff_getElem]
    refine ⟨h1, by simp [h2], fun j hj => ?_⟩
    have := h j hj
    rw [List.getElem?_eq_getElem (by omega)] at this
    simpa using fun e : s = l[j] => this (by rw [e])
  rw [this]

/- slices.Index at texts -/
theorem c50 (Γ : Nat → PV) (l : List (List UInt8)) (s : List UInt8) : Gives Tryd.prog Γ 50 [.vec (l.map S1) false, .str s] (.int .i64 (idxS l s)) := by
  refine fn_of_awp Tryd.func50 rfl (by simp [Tryd.f50]) rfl fun H => ?_
  refine awp_vlen 0 rfl fun hsl => ?_
  rw [List.length_map] at hsl
  refine awp_seq ?_
  refine awp_run rfl (by simp only [fwA, ↓reduceIte, Nat.reduceAdd, Nat.reduceMul, Nat.reduceEqDiff, Nat.reduceLT, Nat.reduceLeDiff, reduceCtorEq] <;> rfl) ?_
  refine awp_seq ?_
  refine awp_seq ?_
  refine awp_run rfl (by simp only [fwA, ↓reduceIte, Nat.reduceAdd, Nat.reduceMul, Nat.reduceEqDiff, Nat.reduceLT, Nat.reduceLeDiff, reduceCtorEq, List.length_map, List.getElem?_map, Option.map_some, Int.natCast_nonneg, Int.toNat_natCast, decide_true, decide_false, Bool.and_true, Bool.and_self, Bool.not_true, Bool.not_false, un9, un22, el22, ti9, S1_fw] <;> rfl) ?_
  refine awp_block ?_
  refine awp_for [0, 1, 7, 8] (fun i : Nat => [.vec (l.map S1) false, .str s, .int .i64 (l.length : Int), .int .i64 (i : Int)]) (fun _ => H) (fun i => l.length - i) (fun i => i ≤ l.length ∧ ∀ j, j < i → l[j]? ≠ some s) 0 rfl rfl ⟨Nat.zero_le _, fun j hj => by omega⟩ fun i hi => ?_
  obtain ⟨hi, hno⟩ := hi
  refine awp_seq ?_
  refine awp_run rfl (by simp only [fwA, ↓reduceIte, Nat.reduceAdd, Nat.reduceMul, Nat.reduceEqDiff, Nat.reduceLT, Nat.reduceLeDiff, reduceCtorEq, List.length_map, List.getElem?_map, Option.map_some, Int.natCast_nonneg, Int.toNat_natCast, decide_true, decide_false, Bool.and_true, Bool.and_self, Bool.not_true, Bool.not_false, un9, un22, el22, ti9, S1_fw] <;> rfl) ?_
  refine awp_seq ?_
  refine awp_cond (by simp only [fwA, ↓reduceIte, Nat.reduceAdd, Nat.reduceMul, Nat.reduceEqDiff, Nat.reduceLT, Nat.reduceLeDiff, reduceCtorEq] <;> rfl) ?_
  by_cases hc : (i : Int) < l.length
  rotate_left
  · simp only [hc, decide_false, Bool.false_eq_true, ↓reduceIte]
    refine awp_exit ?_
    have e : i = l.length := by omega
    subst e
    refine awp_seq ?_
    refine awp_run rfl (by simp only [fwA, ↓reduceIte, Nat.reduceAdd, Nat.reduceMul, Nat.reduceEqDiff, Nat.reduceLT, Nat.reduceLeDiff, reduceCtorEq] <;> rfl) ?_
    refine awp_ret ?_
    exact gives_end0 (.inl rfl) (by rw [idxS_none hno]; rfl)
  simp only [hc, decide_true, ↓reduceIte]
  refine awp_skip ?_
  have hil : i < l.length := by omega
  have ga : l[i]? = some l[i] := List.getElem?_eq_getElem hil
  generalize l[i] = c at ga
  have hwi : IntKind.i64.wrap ((i : Int) + 1) = ((i + 1 : Nat) : Int) := wrapS i (by omega)
  refine awp_seq ?_
  refine awp_block ?_
  refine awp_seq ?_
  refine awp_run rfl (by simp only [fwA, ↓reduceIte, Nat.reduceAdd, Nat.reduceMul, Nat.reduceEqDiff, Nat.reduceLT, Nat.reduceLeDiff, reduceCtorEq] <;> rfl) ?_
  refine awp_seq ?_
  by_cases he : s = c
  · refine awp_run rfl (by simp only [fwA, ↓reduceIte, Nat.reduceAdd, Nat.reduceMul, Nat.reduceEqDiff, Nat.reduceLT, Nat.reduceLeDiff, reduceCtorEq, List.length_map, List.getElem?_map, Option.map_some, Int.natCast_nonneg, Int.toNat_natCast, decide_true, decide_false, Bool.and_true, Bool.and_self, Bool.not_true, Bool.not_false, un9, un22, el22, ti9, S1_fw, ga, he] <;> rfl) ?_
    refine awp_cond (b := true) (by simp [alook, aput, ev]) ?_
    refine awp_seq ?_
    refine awp_run rfl (by simp only [fwA, ↓reduceIte, Nat.reduceAdd, Nat.reduceMul, Nat.reduceEqDiff, Nat.reduceLT, Nat.reduceLeDiff, reduceCtorEq] <;> rfl) ?_
    refine awp_ret ?_
    exact gives_end0 (.inl rfl) (by rw [idxS_some hno (by rw [he]; exact ga)]; rfl)
  · refine awp_run rfl (by simp only [fwA, ↓reduceIte, Nat.reduceAdd, Nat.reduceMul, Nat.reduceEqDiff, Nat.reduceLT, Nat.reduceLeDiff, reduceCtorEq, List.length_map, List.getElem?_map, Option.map_some, Int.natCast_nonneg, Int.toNat_natCast, decide_true, decide_false, Bool.and_true, Bool.and_self, Bool.not_true, Bool.not_false, un9, un22, el22, ti9, S1_fw, ga, he] <;> rfl) ?_
    refine awp_cond (b := false) (by simp [alook, aput, ev]) (awp_skip ?_)
    refine awp_run rfl (by simp only [fwA, ↓reduceIte, Nat.reduceAdd, Nat.reduceMul, Nat.reduceEqDiff, Nat.reduceLT, Nat.reduceLeDiff, reduceCtorEq] <;> rfl) ?_
    refine ⟨i + 1, by omega, ⟨by omega, fun j hj e => ?_⟩, ?_, rfl, rfl⟩
    · by_cases hji : j = i
      · subst hji; rw [ga, Option.some.injEq] at e; exact he e.symm
      · exact hno j (by omega) e
    · simp only [fwA, ↓reduceIte, Nat.reduceAdd, Nat.reduceMul, Nat.reduceEqDiff, Nat.reduceLT, Nat.reduceLeDiff, reduceCtorEq, List.map_cons, List.map_nil, hwi]

end Go.Proofs.YtdhlghhokbmhdaaDoor
