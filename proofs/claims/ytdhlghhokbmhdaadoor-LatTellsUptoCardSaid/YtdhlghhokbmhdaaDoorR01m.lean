/- The contracts of a row's line. -/
import Derived.Test.YtdhlghhokbmhdaaDoorR01l
namespace Go.Proofs.YtdhlghhokbmhdaaDoor
set_option linter.unusedVariables false
set_option linter.unusedSimpArgs false
set_option maxRecDepth 100000
open Go.RowKit Fw

/-- A nought or a one. -/
def binB (c : UInt8) : Bool := decide (c.toNat = 48) || decide (c.toNat = 49)
def binsB (s : List UInt8) (k : Nat) : Bool := (List.range k).all fun j => binB (s.getD j 0)
/-- The set of the first bytes of a line. -/
def rowX (s : List UInt8) : Nat → Nat
  | 0 => 0
  | k + 1 => rowX s k ||| (((s.getD k 0).toNat - 48) <<< k) % 2 ^ 64
theorem rowX_lt (s : List UInt8) : ∀ k, rowX s k < 2 ^ 64
  | 0 => Nat.two_pow_pos 64
  | k + 1 => Nat.or_lt_two_pow (rowX_lt s k) (Nat.mod_lt _ (by decide))
theorem getD_at {s : List UInt8} {i : Nat} {c : UInt8} (h : s[i]? = some c) : s.getD i 0 = c := by rw [List.getD_eq_getElem?_getD, h]; rfl
theorem binsB_false {s : List UInt8} {i : Nat} {c : UInt8} (h : s[i]? = some c) (hc : binB c = false) : binsB s s.length = false := by
  unfold binsB
  exact all_false (List.getElem?_eq_some_iff.1 h).1 (by rw [getD_at h]; exact hc)
theorem uWrapMod (z : Int) : IntKind.u64.wrap z = z % 18446744073709551616 := by simp [IntKind.wrap, IntKind.signed, IntKind.bits]
theorem uShlMod (x k : Nat) : IntKind.u64.wrap ((x : Int) * 2 ^ min k IntKind.u64.bits) = (((x <<< k) % 2 ^ 64 : Nat) : Int) := by
  rw [uWrapMod, ubits, Nat.shiftLeft_eq]
  by_cases h : k ≤ 64
  · rw [Nat.min_eq_left h]
    have e : (x : Int) * 2 ^ k = ((x * 2 ^ k : Nat) : Int) := by simp
    rw [e]; omega
  · rw [Nat.min_eq_right (by omega)]
    obtain ⟨d, rfl⟩ : ∃ d, k = 64 + d := ⟨k - 64, by omega⟩
    have e2 : x * 2 ^ (64 + d) % 2 ^ 64 = 0 := by rw [Nat.pow_add, Nat.mul_comm (2 ^ 64), ← Nat.mul_assoc]; exact Nat.mul_mod_left _ _
    rw [e2]
    have e3 : (x : Int) * 2 ^ 64 = (x : Int) * 18446744073709551616 := rfl
    rw [e3]; omega
theorem binX_fin : ∀ n : Fin 256, decide (IntKind.u8.wrap ((BitVec.ofInt IntKind.u8.bits (n.val : Int) &&& ~~~BitVec.ofInt IntKind.u8.bits 1).toNat : Int) = 48) = (decide (n.val = 48) || decide (n.val = 49)) := by decide +kernel
theorem binX (c : UInt8) : decide (IntKind.u8.wrap ((BitVec.ofInt IntKind.u8.bits (c.toNat : Int) &&& ~~~BitVec.ofInt IntKind.u8.bits 1).toNat : Int) = 48) = binB c := binX_fin ⟨c.toNat, c.toNat_lt⟩
theorem bin_cases {c : UInt8} (h : binB c = true) : c.toNat = 48 ∨ c.toNat = 49 := by
  unfold binB at h
  simpa using h
theorem u8sub {c : UInt8} (h : binB c = true) : IntKind.u8.wrap ((c.toNat : Int) - 48) = ((c.toNat - 48 : Nat) : Int) := by
  rcases bin_cases h with h | h <;> rw [h] <;> decide
theorem u64of {c : UInt8} (h : binB c = true) : IntKind.u64.wrap ((c.toNat - 48 : Nat) : Int) = ((c.toNat - 48 : Nat) : Int) := by
  rcases bin_cases h with h | h <;> rw [h] <;> decide
/-- What a line is read as. -/
def rowP (s : List UInt8) (n : Int) : Nat × Bool := if binsB s s.length = true then (rowX s s.length, decide ((s.length : Int) = n)) else (0, false)

/- chancel/lat.row -/
theorem c36 (Γ : Nat → PV) (s : List UInt8) (n : Int) : Gives Tryd.prog Γ 36 [.str s, .int .i64 n] (.tup [.int .u64 ((rowP s n).1 : Int), .bool (rowP s n).2]) := by
  refine fn_of_awp Tryd.func36 rfl (by simp [Tryd.f36]) rfl fun H => ?_
  refine awp_slen 0 rfl fun hsl => ?_
  refine awp_seq ?_
  refine awp_run rfl (by simp only [fwA, ↓reduceIte, Nat.reduceAdd, Nat.reduceMul, Nat.reduceEqDiff, Nat.reduceLT, Nat.reduceLeDiff, reduceCtorEq] <;> rfl) ?_
  refine awp_seq ?_
  refine awp_run rfl (by simp only [fwA, ↓reduceIte, Nat.reduceAdd, Nat.reduceMul, Nat.reduceEqDiff, Nat.reduceLT, Nat.reduceLeDiff, reduceCtorEq] <;> rfl) ?_
  refine awp_seq ?_
  refine awp_seq ?_
  refine awp_run rfl (by simp only [fwA, ↓reduceIte, Nat.reduceAdd, Nat.reduceMul, Nat.reduceEqDiff, Nat.reduceLT, Nat.reduceLeDiff, reduceCtorEq, bitfw, List.length_map, List.getElem?_map, Option.map_some, Int.natCast_nonneg, Int.toNat_natCast, decide_true, decide_false, Bool.and_true, Bool.and_self, Bool.not_true, Bool.not_false, Bool.false_and, Bool.true_and, un9, un22, un5, un50, ti9, ti22, ti50, un3, S1_fw, U1_fw] <;> rfl) ?_
  refine awp_block ?_
  refine awp_for [0, 1, 6, 9, 10] (fun i : Nat => [.str s, .int .i64 n, .int .u64 (rowX s i : Int), .int .i64 (s.length : Int), .int .i64 (i : Int)]) (fun _ => H) (fun i => s.length - i) (fun i => i ≤ s.length ∧ binsB s i = true) 0 rfl rfl ⟨Nat.zero_le _, rfl⟩ fun i hs => ?_
  obtain ⟨hil, hb⟩ := hs
  refine awp_seq ?_
  refine awp_run rfl (by simp only [fwA, ↓reduceIte, Nat.reduceAdd, Nat.reduceMul, Nat.reduceEqDiff, Nat.reduceLT, Nat.reduceLeDiff, reduceCtorEq, bitfw, List.length_map, List.getElem?_map, Option.map_some, Int.natCast_nonneg, Int.toNat_natCast, decide_true, decide_false, Bool.and_true, Bool.and_self, Bool.not_true, Bool.not_false, Bool.false_and, Bool.true_and, un9, un22, un5, un50, ti9, ti22, ti50, un3, S1_fw, U1_fw] <;> rfl) ?_
  refine awp_seq ?_
  refine awp_cond (by simp only [fwA, ↓reduceIte, Nat.reduceAdd, Nat.reduceMul, Nat.reduceEqDiff, Nat.reduceLT, Nat.reduceLeDiff, reduceCtorEq] <;> rfl) ?_
  by_cases hc : (i : Int) < s.length
  rotate_left
  · simp only [hc, decide_false, Bool.false_eq_true, ↓reduceIte]
    refine awp_exit ?_
    have e : i = s.length := by omega
    subst e
    have er : rowP s n = (rowX s s.length, decide ((s.length : Int) = n)) := by unfold rowP; rw [if_pos hb]
    rw [er]
    refine awp_seq ?_
    refine awp_run rfl (by simp only [fwA, ↓reduceIte, Nat.reduceAdd, Nat.reduceMul, Nat.reduceEqDiff, Nat.reduceLT, Nat.reduceLeDiff, reduceCtorEq, bitfw, List.length_map, List.getElem?_map, Option.map_some, Int.natCast_nonneg, Int.toNat_natCast, decide_true, decide_false, Bool.and_true, Bool.and_self, Bool.not_true, Bool.not_false, Bool.false_and, Bool.true_and, un9, un22, un5, un50, ti9, ti22, ti50, un3, S1_fw, U1_fw] <;> rfl) ?_
    refine awp_ret ?_
    exact gives_end0 (.inl rfl) rfl
  simp only [hc, decide_true, ↓reduceIte]
  refine awp_skip ?_
  have hlt : i < s.length := by omega
  have ga : s[i]? = some s[i] := List.getElem?_eq_getElem hlt
  generalize s[i] = c at ga
  have hwi : IntKind.i64.wrap ((i : Int) + 1) = ((i + 1 : Nat) : Int) := wrapS i (by omega)
  have hbx := binX c
  refine awp_seq ?_
  refine awp_block ?_
  refine awp_seq ?_
  refine awp_run rfl (by simp only [fwA, ↓reduceIte, Nat.reduceAdd, Nat.reduceMul, Nat.reduceEqDiff, Nat.reduceLT, Nat.reduceLeDiff, reduceCtorEq] <;> rfl) ?_
  refine awp_seq ?_
  refine awp_seq ?_
  cases hbc : binB c
  · rw [hbc] at hbx
    refine awp_run rfl (by simp only [fwA, ↓reduceIte, Nat.reduceAdd, Nat.reduceMul, Nat.reduceEqDiff, Nat.reduceLT, Nat.reduceLeDiff, reduceCtorEq, bitfw, List.length_map, List.getElem?_map, Option.map_some, Int.natCast_nonneg, Int.toNat_natCast, decide_true, decide_false, Bool.and_true, Bool.and_self, Bool.not_true, Bool.not_false, Bool.false_and, Bool.true_and, un9, un22, un5, un50, ti9, ti22, ti50, un3, S1_fw, U1_fw, ga, hbx] <;> rfl) ?_
    refine awp_cond (b := true) (by simp [alook, aput, ev]) ?_
    refine awp_seq ?_
    refine awp_run rfl (by simp only [fwA, ↓reduceIte, Nat.reduceAdd, Nat.reduceMul, Nat.reduceEqDiff, Nat.reduceLT, Nat.reduceLeDiff, reduceCtorEq] <;> rfl) ?_
    refine awp_ret ?_
    have er : rowP s n = (0, false) := by unfold rowP; rw [if_neg (by rw [binsB_false ga hbc]; simp)]
    rw [er]
    exact gives_end0 (.inl rfl) rfl
  · rw [hbc] at hbx
    refine awp_run rfl (by simp only [fwA, ↓reduceIte, Nat.reduceAdd, Nat.reduceMul, Nat.reduceEqDiff, Nat.reduceLT, Nat.reduceLeDiff, reduceCtorEq, bitfw, List.length_map, List.getElem?_map, Option.map_some, Int.natCast_nonneg, Int.toNat_natCast, decide_true, decide_false, Bool.and_true, Bool.and_self, Bool.not_true, Bool.not_false, Bool.false_and, Bool.true_and, un9, un22, un5, un50, ti9, ti22, ti50, un3, S1_fw, U1_fw, ga, hbx] <;> rfl) ?_
    refine awp_cond (b := false) (by simp [alook, aput, ev]) (awp_skip ?_)
    have e1 := u8sub hbc
    have e2 := u64of hbc
    have e3 := uShlMod (c.toNat - 48) i
    have e4 := uOr (rowX_lt s i) (Nat.mod_lt ((c.toNat - 48) <<< i) (by decide : 0 < 2 ^ 64))
    have hst : rowX s (i + 1) = rowX s i ||| ((c.toNat - 48) <<< i) % 2 ^ 64 := by show rowX s i ||| (((s.getD i 0).toNat - 48) <<< i) % 2 ^ 64 = _; rw [getD_at ga]
    refine awp_run rfl (by simp only [fwA, ↓reduceIte, Nat.reduceAdd, Nat.reduceMul, Nat.reduceEqDiff, Nat.reduceLT, Nat.reduceLeDiff, reduceCtorEq, bitfw, List.length_map, List.getElem?_map, Option.map_some, Int.natCast_nonneg, Int.toNat_natCast, decide_true, decide_false, Bool.and_true, Bool.and_self, Bool.not_true, Bool.not_false, Bool.false_and, Bool.true_and, un9, un22, un5, un50, ti9, ti22, ti50, un3, S1_fw, U1_fw, ga, e1, e2, e3, e4] <;> rfl) ?_
    refine awp_run rfl (by simp only [fwA, ↓reduceIte, Nat.reduceAdd, Nat.reduceMul, Nat.reduceEqDiff, Nat.reduceLT, Nat.reduceLeDiff, reduceCtorEq] <;> rfl) ?_
    refine ⟨i + 1, by omega, ⟨by omega, by unfold binsB at hb ⊢; rw [all_succ, hb, getD_at ga, hbc]; rfl⟩, ?_, rfl, rfl⟩
    rw [hst]
    simp only [fwA, ↓reduceIte, Nat.reduceAdd, Nat.reduceMul, Nat.reduceEqDiff, Nat.reduceLT, Nat.reduceLeDiff, reduceCtorEq, List.map_cons, List.map_nil, hwi]

/- chancel/chancelref01.row -/
theorem c41 (Γ : Nat → PV) (s : List UInt8) (n : Int) : Gives Tryd.prog Γ 41 [.str s, .int .i64 n] (.tup [.int .u64 ((if (s.length : Int) = n then (rowP s n).1 else 0 : Nat) : Int), .bool (rowP s n).2]) := by
  refine fn_of_awp Tryd.func41 rfl (by simp [Tryd.f41]) rfl fun H => ?_
  refine awp_slen 0 rfl fun hsl => ?_
  refine awp_seq ?_
  refine awp_run rfl (by simp only [fwA, ↓reduceIte, Nat.reduceAdd, Nat.reduceMul, Nat.reduceEqDiff, Nat.reduceLT, Nat.reduceLeDiff, reduceCtorEq] <;> rfl) ?_
  refine awp_seq ?_
  refine awp_seq ?_
  by_cases hn : (s.length : Int) = n
  rotate_left
  · refine awp_run rfl (by simp only [fwA, ↓reduceIte, Nat.reduceAdd, Nat.reduceMul, Nat.reduceEqDiff, Nat.reduceLT, Nat.reduceLeDiff, reduceCtorEq, bitfw, List.length_map, List.getElem?_map, Option.map_some, Int.natCast_nonneg, Int.toNat_natCast, decide_true, decide_false, Bool.and_true, Bool.and_self, Bool.not_true, Bool.not_false, Bool.false_and, Bool.true_and, un9, un22, un5, un50, ti9, ti22, ti50, un3, S1_fw, U1_fw, hn] <;> rfl) ?_
    refine awp_cond (b := true) (by simp [alook, aput, ev]) ?_
    refine awp_seq ?_
    refine awp_run rfl (by simp only [fwA, ↓reduceIte, Nat.reduceAdd, Nat.reduceMul, Nat.reduceEqDiff, Nat.reduceLT, Nat.reduceLeDiff, reduceCtorEq] <;> rfl) ?_
    refine awp_ret ?_
    have er : (rowP s n).2 = false := by
      unfold rowP
      split
      · exact decide_eq_false hn
      · rfl
    rw [er, if_neg hn]
    exact gives_end0 (.inl rfl) rfl
  rw [if_pos hn]
  subst hn
  refine awp_run rfl (by simp only [fwA, ↓reduceIte, Nat.reduceAdd, Nat.reduceMul, Nat.reduceEqDiff, Nat.reduceLT, Nat.reduceLeDiff, reduceCtorEq, bitfw, List.length_map, List.getElem?_map, Option.map_some, Int.natCast_nonneg, Int.toNat_natCast, decide_true, decide_false, Bool.and_true, Bool.and_self, Bool.not_true, Bool.not_false, Bool.false_and, Bool.true_and, un9, un22, un5, un50, ti9, ti22, ti50, un3, S1_fw, U1_fw] <;> rfl) ?_
  refine awp_cond (b := false) (by simp [alook, aput, ev]) (awp_skip ?_)
  refine awp_seq ?_
  refine awp_run rfl (by simp only [fwA, ↓reduceIte, Nat.reduceAdd, Nat.reduceMul, Nat.reduceEqDiff, Nat.reduceLT, Nat.reduceLeDiff, reduceCtorEq] <;> rfl) ?_
  refine awp_seq ?_
  refine awp_seq ?_
  refine awp_run rfl (by simp only [fwA, ↓reduceIte, Nat.reduceAdd, Nat.reduceMul, Nat.reduceEqDiff, Nat.reduceLT, Nat.reduceLeDiff, reduceCtorEq] <;> rfl) ?_
  refine awp_block ?_
  refine awp_for [0, 1, 6, 7] (fun i : Nat => [.str s, .int .i64 (s.length : Int), .int .u64 (rowX s i : Int), .int .i64 (i : Int)]) (fun _ => H) (fun i => s.length - i) (fun i => i ≤ s.length ∧ binsB s i = true) 0 rfl rfl ⟨Nat.zero_le _, rfl⟩ fun i hs => ?_
  obtain ⟨hil, hb⟩ := hs
  refine awp_seq ?_
  refine awp_seq ?_
  refine awp_run rfl (by simp only [fwA, ↓reduceIte, Nat.reduceAdd, Nat.reduceMul, Nat.reduceEqDiff, Nat.reduceLT, Nat.reduceLeDiff, reduceCtorEq, bitfw, List.length_map, List.getElem?_map, Option.map_some, Int.natCast_nonneg, Int.toNat_natCast, decide_true, decide_false, Bool.and_true, Bool.and_self, Bool.not_true, Bool.not_false, Bool.false_and, Bool.true_and, un9, un22, un5, un50, ti9, ti22, ti50, un3, S1_fw, U1_fw] <;> rfl) ?_
  refine awp_cond (by simp only [fwA, ↓reduceIte, Nat.reduceAdd, Nat.reduceMul, Nat.reduceEqDiff, Nat.reduceLT, Nat.reduceLeDiff, reduceCtorEq] <;> rfl) ?_
  by_cases hc : (i : Int) < s.length
  rotate_left
  · simp only [hc, decide_false, Bool.false_eq_true, ↓reduceIte]
    refine awp_exit ?_
    have e : i = s.length := by omega
    rw [e] at hb ⊢
    have er : rowP s s.length = (rowX s s.length, true) := by unfold rowP; rw [if_pos hb, decide_eq_true rfl]
    rw [er]
    refine awp_seq ?_
    refine awp_run rfl (by simp only [fwA, ↓reduceIte, Nat.reduceAdd, Nat.reduceMul, Nat.reduceEqDiff, Nat.reduceLT, Nat.reduceLeDiff, reduceCtorEq, bitfw, List.length_map, List.getElem?_map, Option.map_some, Int.natCast_nonneg, Int.toNat_natCast, decide_true, decide_false, Bool.and_true, Bool.and_self, Bool.not_true, Bool.not_false, Bool.false_and, Bool.true_and, un9, un22, un5, un50, ti9, ti22, ti50, un3, S1_fw, U1_fw] <;> rfl) ?_
    refine awp_ret ?_
    exact gives_end0 (.inl rfl) rfl
  simp only [hc, decide_true, ↓reduceIte]
  refine awp_skip ?_
  have hlt : i < s.length := by omega
  have ga : s[i]? = some s[i] := List.getElem?_eq_getElem hlt
  generalize s[i] = c at ga
  have hwi : IntKind.i64.wrap ((i : Int) + 1) = ((i + 1 : Nat) : Int) := wrapS i (by omega)
  have d1 : decide ((c.toNat : Int) = 48) = decide (c.toNat = 48) := decide_eq_decide.2 (by omega)
  have d2 : decide ((c.toNat : Int) = 49) = decide (c.toNat = 49) := decide_eq_decide.2 (by omega)
  refine awp_seq ?_
  refine awp_block ?_
  refine awp_seq ?_
  refine awp_seq ?_
  have hgo : binB c = true → True := fun _ => trivial
  by_cases h1 : c.toNat = 48
  · have hbc : binB c = true := by unfold binB; rw [decide_eq_true h1]; rfl
    rw [decide_eq_true h1] at d1
    refine awp_run rfl (by simp only [fwA, ↓reduceIte, Nat.reduceAdd, Nat.reduceMul, Nat.reduceEqDiff, Nat.reduceLT, Nat.reduceLeDiff, reduceCtorEq, bitfw, List.length_map, List.getElem?_map, Option.map_some, Int.natCast_nonneg, Int.toNat_natCast, decide_true, decide_false, Bool.and_true, Bool.and_self, Bool.not_true, Bool.not_false, Bool.false_and, Bool.true_and, un9, un22, un5, un50, ti9, ti22, ti50, un3, S1_fw, U1_fw, ga, d1] <;> rfl) ?_
    refine awp_cond (b := false) (by simp [alook, aput, ev]) (awp_skip ?_)
    have e1 := u8sub hbc
    have e2 := u64of hbc
    have e3 := uShlMod (c.toNat - 48) i
    have e4 := uOr (rowX_lt s i) (Nat.mod_lt ((c.toNat - 48) <<< i) (by decide : 0 < 2 ^ 64))
    have hst : rowX s (i + 1) = rowX s i ||| ((c.toNat - 48) <<< i) % 2 ^ 64 := by show rowX s i ||| (((s.getD i 0).toNat - 48) <<< i) % 2 ^ 64 = _; rw [getD_at ga]
    refine awp_run rfl (by simp only [fwA, ↓reduceIte, Nat.reduceAdd, Nat.reduceMul, Nat.reduceEqDiff, Nat.reduceLT, Nat.reduceLeDiff, reduceCtorEq, bitfw, List.length_map, List.getElem?_map, Option.map_some, Int.natCast_nonneg, Int.toNat_natCast, decide_true, decide_false, Bool.and_true, Bool.and_self, Bool.not_true, Bool.not_false, Bool.false_and, Bool.true_and, un9, un22, un5, un50, ti9, ti22, ti50, un3, S1_fw, U1_fw, ga, e1, e2, e3, e4] <;> rfl) ?_
    refine awp_run rfl (by simp only [fwA, ↓reduceIte, Nat.reduceAdd, Nat.reduceMul, Nat.reduceEqDiff, Nat.reduceLT, Nat.reduceLeDiff, reduceCtorEq] <;> rfl) ?_
    refine ⟨i + 1, by omega, ⟨by omega, by unfold binsB at hb ⊢; rw [all_succ, hb, getD_at ga, hbc]; rfl⟩, ?_, rfl, rfl⟩
    rw [hst]
    simp only [fwA, ↓reduceIte, Nat.reduceAdd, Nat.reduceMul, Nat.reduceEqDiff, Nat.reduceLT, Nat.reduceLeDiff, reduceCtorEq, List.map_cons, List.map_nil, hwi]
  by_cases h2 : c.toNat = 49
  · have hbc : binB c = true := by unfold binB; rw [decide_eq_true h2, Bool.or_true]
    rw [decide_eq_false h1] at d1
    rw [decide_eq_true h2] at d2
    refine awp_run rfl (by simp only [fwA, ↓reduceIte, Nat.reduceAdd, Nat.reduceMul, Nat.reduceEqDiff, Nat.reduceLT, Nat.reduceLeDiff, reduceCtorEq, bitfw, List.length_map, List.getElem?_map, Option.map_some, Int.natCast_nonneg, Int.toNat_natCast, decide_true, decide_false, Bool.and_true, Bool.and_self, Bool.not_true, Bool.not_false, Bool.false_and, Bool.true_and, un9, un22, un5, un50, ti9, ti22, ti50, un3, S1_fw, U1_fw, ga, d1, d2] <;> rfl) ?_
    refine awp_cond (b := false) (by simp [alook, aput, ev]) (awp_skip ?_)
    have e1 := u8sub hbc
    have e2 := u64of hbc
    have e3 := uShlMod (c.toNat - 48) i
    have e4 := uOr (rowX_lt s i) (Nat.mod_lt ((c.toNat - 48) <<< i) (by decide : 0 < 2 ^ 64))
    have hst : rowX s (i + 1) = rowX s i ||| ((c.toNat - 48) <<< i) % 2 ^ 64 := by show rowX s i ||| (((s.getD i 0).toNat - 48) <<< i) % 2 ^ 64 = _; rw [getD_at ga]
    refine awp_run rfl (by simp only [fwA, ↓reduceIte, Nat.reduceAdd, Nat.reduceMul, Nat.reduceEqDiff, Nat.reduceLT, Nat.reduceLeDiff, reduceCtorEq, bitfw, List.length_map, List.getElem?_map, Option.map_some, Int.natCast_nonneg, Int.toNat_natCast, decide_true, decide_false, Bool.and_true, Bool.and_self, Bool.not_true, Bool.not_false, Bool.false_and, Bool.true_and, un9, un22, un5, un50, ti9, ti22, ti50, un3, S1_fw, U1_fw, ga, e1, e2, e3, e4] <;> rfl) ?_
    refine awp_run rfl (by simp only [fwA, ↓reduceIte, Nat.reduceAdd, Nat.reduceMul, Nat.reduceEqDiff, Nat.reduceLT, Nat.reduceLeDiff, reduceCtorEq] <;> rfl) ?_
    refine ⟨i + 1, by omega, ⟨by omega, by unfold binsB at hb ⊢; rw [all_succ, hb, getD_at ga, hbc]; rfl⟩, ?_, rfl, rfl⟩
    rw [hst]
    simp only [fwA, ↓reduceIte, Nat.reduceAdd, Nat.reduceMul, Nat.reduceEqDiff, Nat.reduceLT, Nat.reduceLeDiff, reduceCtorEq, List.map_cons, List.map_nil, hwi]
  · have hbc : binB c = false := by unfold binB; rw [decide_eq_false h1, decide_eq_false h2]; rfl
    rw [decide_eq_false h1] at d1
    rw [decide_eq_false h2] at d2
    refine awp_run rfl (by simp only [fwA, ↓reduceIte, Nat.reduceAdd, Nat.reduceMul, Nat.reduceEqDiff, Nat.reduceLT, Nat.reduceLeDiff, reduceCtorEq, bitfw, List.length_map, List.getElem?_map, Option.map_some, Int.natCast_nonneg, Int.toNat_natCast, decide_true, decide_false, Bool.and_true, Bool.and_self, Bool.not_true, Bool.not_false, Bool.false_and, Bool.true_and, un9, un22, un5, un50, ti9, ti22, ti50, un3, S1_fw, U1_fw, ga, d1, d2] <;> rfl) ?_
    refine awp_cond (b := true) (by simp [alook, aput, ev]) ?_
    refine awp_seq ?_
    refine awp_run rfl (by simp only [fwA, ↓reduceIte, Nat.reduceAdd, Nat.reduceMul, Nat.reduceEqDiff, Nat.reduceLT, Nat.reduceLeDiff, reduceCtorEq] <;> rfl) ?_
    refine awp_ret ?_
    have er : rowP s s.length = (0, false) := by unfold rowP; rw [if_neg (by rw [binsB_false ga hbc]; simp)]
    rw [er]
    exact gives_end0 (.inl rfl) rfl

end Go.Proofs.YtdhlghhokbmhdaaDoor
