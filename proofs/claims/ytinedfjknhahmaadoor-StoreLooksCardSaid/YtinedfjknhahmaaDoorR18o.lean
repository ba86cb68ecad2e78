/- The laws of operations, and of what is the same. -/
import Derived.Test.YtinedfjknhahmaaDoorR18n
namespace Go.Proofs.YtinedfjknhahmaaDoor
set_option linter.unusedVariables false
set_option linter.unusedSimpArgs false
open Go.RowKit Fw

theorem wrapId {a : Int} (h : I64 a) : IntKind.i64.wrap a = a := by
  obtain ⟨h1, h2⟩ := h
  unfold IntKind.wrap
  have hb : IntKind.i64.bits = 64 := rfl
  have hsg : IntKind.i64.signed = true := rfl
  simp only [hb, hsg, Bool.true_and, decide_eq_true_eq]
  split <;> omega
theorem wrapBack {a b : Int} (h : I64 a) : IntKind.i64.wrap (IntKind.i64.wrap (a + b) - b) = a := by
  obtain ⟨h1, h2⟩ := h
  unfold IntKind.wrap
  have hb : IntKind.i64.bits = 64 := rfl
  have hsg : IntKind.i64.signed = true := rfl
  simp only [hb, hsg, Bool.true_and, decide_eq_true_eq]
  split <;> split <;> omega

theorem c7a (Γ : Nat → PV) (hΓ : Tab Γ) (a b s p l g e : Int) (bl be : Bool)
    (g1 : Gives Tryd.prog Γ 18 [.str [43], .int .i64 a, .int .i64 b] (.tup [.int .i64 s, .bool true]))
    (g2 : Gives Tryd.prog Γ 18 [.str [43], .int .i64 b, .int .i64 a] (.tup [.int .i64 s, .bool true]))
    (g3 : Gives Tryd.prog Γ 18 [.str [45], .int .i64 s, .int .i64 b] (.tup [.int .i64 a, .bool true]))
    (g4 : Gives Tryd.prog Γ 18 [.str [42], .int .i64 a, .int .i64 b] (.tup [.int .i64 p, .bool true]))
    (g5 : Gives Tryd.prog Γ 18 [.str [42], .int .i64 b, .int .i64 a] (.tup [.int .i64 p, .bool true]))
    (g6 : Gives Tryd.prog Γ 18 [.str [60], .int .i64 a, .int .i64 b] (.tup [.int .i64 l, .bool true]))
    (g7 : Gives Tryd.prog Γ 18 [.str [60], .int .i64 b, .int .i64 a] (.tup [.int .i64 g, .bool true]))
    (g8 : Gives Tryd.prog Γ 18 [.str [61], .int .i64 a, .int .i64 b] (.tup [.int .i64 e, .bool true]))
    (g9 : Gives Tryd.prog Γ 18 [.str [42], .int .i64 a, .int .i64 1] (.tup [.int .i64 a, .bool true]))
    (dab : decide (a = b) = be) (dlt : decide (a < b) = bl) (hsum : IntKind.i64.wrap (IntKind.i64.wrap (l + g) + e) = 1) (he : decide (e = 1) = be) (hl : decide (l = 1) = bl) (hm1 : True) :
    Gives Tryd.prog Γ 7 [.int .i64 a, .int .i64 b] (.bool true) := by
  refine fn_of_awp Tryd.func7 rfl (by simp [Tryd.f7]) rfl fun H => ?_
  refine awp_seq ?_
  -- region 0
  refine awp_run rfl (by simp only [fw0, fw1, fw2, fw3, fw4, fw5, fw6, fw7, ↓reduceIte, Nat.reduceAdd, Nat.reduceMul, Nat.reduceEqDiff, Nat.reduceLT, Nat.reduceLeDiff, reduceCtorEq, Bool.false_eq_true, Bool.not_true, Bool.not_false, and_self, Nat.le_refl] <;> rfl) ?_
  refine awp_seq ?_
  -- region 1
  refine awp_region rfl ?_
  refine aops_fn rfl rfl rfl en9 (c9 Γ hΓ) ?_  -- t24 := call F9() :[]
  refine aops_run 1 (by simp only [fw0, fw1, fw2, fw3, fw4, fw5, fw6, fw7, ↓reduceIte, Nat.reduceAdd, Nat.reduceMul, Nat.reduceEqDiff, Nat.reduceLT, Nat.reduceLeDiff, reduceCtorEq, Bool.false_eq_true, Bool.not_true, Bool.not_false, and_self, Nat.le_refl] <;> rfl) ?_
  refine awp_seq ?_
  refine awp_seq ?_
  -- region 2
  refine awp_run rfl (by simp only [fw0, fw1, fw2, fw3, fw4, fw5, fw6, fw7, ↓reduceIte, Nat.reduceAdd, Nat.reduceMul, Nat.reduceEqDiff, Nat.reduceLT, Nat.reduceLeDiff, reduceCtorEq, Bool.false_eq_true, Bool.not_true, Bool.not_false, and_self, Nat.le_refl] <;> rfl) ?_
  refine awp_cond (b := false) rfl ?_
  refine awp_skip ?_
  refine awp_seq ?_
  -- region 4
  refine awp_region rfl ?_
  refine aops_run 2 (by simp only [fw0, fw1, fw2, fw3, fw4, fw5, fw6, fw7, ↓reduceIte, Nat.reduceAdd, Nat.reduceMul, Nat.reduceEqDiff, Nat.reduceLT, Nat.reduceLeDiff, reduceCtorEq, Bool.false_eq_true, Bool.not_true, Bool.not_false, and_self, Nat.le_refl] <;> rfl) ?_
  refine aops_fn rfl rfl rfl en18 (g1) ?_  -- t30 := call F18($b'+', t28, t29) :[9, 2, 2]
  refine aops_run 5 (by simp only [fw0, fw1, fw2, fw3, fw4, fw5, fw6, fw7, ↓reduceIte, Nat.reduceAdd, Nat.reduceMul, Nat.reduceEqDiff, Nat.reduceLT, Nat.reduceLeDiff, reduceCtorEq, Bool.false_eq_true, Bool.not_true, Bool.not_false, and_self, Nat.le_refl] <;> rfl) ?_
  refine awp_seq ?_
  -- region 5
  refine awp_region rfl ?_
  refine aops_run 2 (by simp only [fw0, fw1, fw2, fw3, fw4, fw5, fw6, fw7, ↓reduceIte, Nat.reduceAdd, Nat.reduceMul, Nat.reduceEqDiff, Nat.reduceLT, Nat.reduceLeDiff, reduceCtorEq, Bool.false_eq_true, Bool.not_true, Bool.not_false, and_self, Nat.le_refl] <;> rfl) ?_
  refine aops_fn rfl rfl rfl en18 (g2) ?_  -- t36 := call F18($b'+', t34, t35) :[9, 2, 2]
  refine aops_run 5 (by simp only [fw0, fw1, fw2, fw3, fw4, fw5, fw6, fw7, ↓reduceIte, Nat.reduceAdd, Nat.reduceMul, Nat.reduceEqDiff, Nat.reduceLT, Nat.reduceLeDiff, reduceCtorEq, Bool.false_eq_true, Bool.not_true, Bool.not_false, and_self, Nat.le_refl] <;> rfl) ?_
  refine awp_seq ?_
  -- region 6
  refine awp_region rfl ?_
  refine aops_run 2 (by simp only [fw0, fw1, fw2, fw3, fw4, fw5, fw6, fw7, ↓reduceIte, Nat.reduceAdd, Nat.reduceMul, Nat.reduceEqDiff, Nat.reduceLT, Nat.reduceLeDiff, reduceCtorEq, Bool.false_eq_true, Bool.not_true, Bool.not_false, and_self, Nat.le_refl] <;> rfl) ?_
  refine aops_fn rfl rfl rfl en18 (g3) ?_  -- t42 := call F18($b'-', t40, t41) :[9, 2, 2]
  refine aops_run 5 (by simp only [fw0, fw1, fw2, fw3, fw4, fw5, fw6, fw7, ↓reduceIte, Nat.reduceAdd, Nat.reduceMul, Nat.reduceEqDiff, Nat.reduceLT, Nat.reduceLeDiff, reduceCtorEq, Bool.false_eq_true, Bool.not_true, Bool.not_false, and_self, Nat.le_refl] <;> rfl) ?_
  refine awp_seq ?_
  -- region 7
  refine awp_region rfl ?_
  refine aops_run 2 (by simp only [fw0, fw1, fw2, fw3, fw4, fw5, fw6, fw7, ↓reduceIte, Nat.reduceAdd, Nat.reduceMul, Nat.reduceEqDiff, Nat.reduceLT, Nat.reduceLeDiff, reduceCtorEq, Bool.false_eq_true, Bool.not_true, Bool.not_false, and_self, Nat.le_refl] <;> rfl) ?_
  refine aops_fn rfl rfl rfl en18 (g4) ?_  -- t48 := call F18($b'*', t46, t47) :[9, 2, 2]
  refine aops_run 5 (by simp only [fw0, fw1, fw2, fw3, fw4, fw5, fw6, fw7, ↓reduceIte, Nat.reduceAdd, Nat.reduceMul, Nat.reduceEqDiff, Nat.reduceLT, Nat.reduceLeDiff, reduceCtorEq, Bool.false_eq_true, Bool.not_true, Bool.not_false, and_self, Nat.le_refl] <;> rfl) ?_
  refine awp_seq ?_
  -- region 8
  refine awp_region rfl ?_
  refine aops_run 2 (by simp only [fw0, fw1, fw2, fw3, fw4, fw5, fw6, fw7, ↓reduceIte, Nat.reduceAdd, Nat.reduceMul, Nat.reduceEqDiff, Nat.reduceLT, Nat.reduceLeDiff, reduceCtorEq, Bool.false_eq_true, Bool.not_true, Bool.not_false, and_self, Nat.le_refl] <;> rfl) ?_
  refine aops_fn rfl rfl rfl en18 (g5) ?_  -- t54 := call F18($b'*', t52, t53) :[9, 2, 2]
  refine aops_run 5 (by simp only [fw0, fw1, fw2, fw3, fw4, fw5, fw6, fw7, ↓reduceIte, Nat.reduceAdd, Nat.reduceMul, Nat.reduceEqDiff, Nat.reduceLT, Nat.reduceLeDiff, reduceCtorEq, Bool.false_eq_true, Bool.not_true, Bool.not_false, and_self, Nat.le_refl] <;> rfl) ?_
  refine awp_seq ?_
  -- region 9
  refine awp_region rfl ?_
  refine aops_run 2 (by simp only [fw0, fw1, fw2, fw3, fw4, fw5, fw6, fw7, ↓reduceIte, Nat.reduceAdd, Nat.reduceMul, Nat.reduceEqDiff, Nat.reduceLT, Nat.reduceLeDiff, reduceCtorEq, Bool.false_eq_true, Bool.not_true, Bool.not_false, and_self, Nat.le_refl] <;> rfl) ?_
  refine aops_fn rfl rfl rfl en18 (g6) ?_  -- t60 := call F18($b'<', t58, t59) :[9, 2, 2]
  refine aops_run 5 (by simp only [fw0, fw1, fw2, fw3, fw4, fw5, fw6, fw7, ↓reduceIte, Nat.reduceAdd, Nat.reduceMul, Nat.reduceEqDiff, Nat.reduceLT, Nat.reduceLeDiff, reduceCtorEq, Bool.false_eq_true, Bool.not_true, Bool.not_false, and_self, Nat.le_refl] <;> rfl) ?_
  refine awp_seq ?_
  -- region 10
  refine awp_region rfl ?_
  refine aops_run 2 (by simp only [fw0, fw1, fw2, fw3, fw4, fw5, fw6, fw7, ↓reduceIte, Nat.reduceAdd, Nat.reduceMul, Nat.reduceEqDiff, Nat.reduceLT, Nat.reduceLeDiff, reduceCtorEq, Bool.false_eq_true, Bool.not_true, Bool.not_false, and_self, Nat.le_refl] <;> rfl) ?_
  refine aops_fn rfl rfl rfl en18 (g7) ?_  -- t66 := call F18($b'<', t64, t65) :[9, 2, 2]
  refine aops_run 5 (by simp only [fw0, fw1, fw2, fw3, fw4, fw5, fw6, fw7, ↓reduceIte, Nat.reduceAdd, Nat.reduceMul, Nat.reduceEqDiff, Nat.reduceLT, Nat.reduceLeDiff, reduceCtorEq, Bool.false_eq_true, Bool.not_true, Bool.not_false, and_self, Nat.le_refl] <;> rfl) ?_
  refine awp_seq ?_
  -- region 11
  refine awp_region rfl ?_
  refine aops_run 2 (by simp only [fw0, fw1, fw2, fw3, fw4, fw5, fw6, fw7, ↓reduceIte, Nat.reduceAdd, Nat.reduceMul, Nat.reduceEqDiff, Nat.reduceLT, Nat.reduceLeDiff, reduceCtorEq, Bool.false_eq_true, Bool.not_true, Bool.not_false, and_self, Nat.le_refl] <;> rfl) ?_
  refine aops_fn rfl rfl rfl en18 (g8) ?_  -- t72 := call F18($b'=', t70, t71) :[9, 2, 2]
  refine aops_run 5 (by simp only [fw0, fw1, fw2, fw3, fw4, fw5, fw6, fw7, ↓reduceIte, Nat.reduceAdd, Nat.reduceMul, Nat.reduceEqDiff, Nat.reduceLT, Nat.reduceLeDiff, reduceCtorEq, Bool.false_eq_true, Bool.not_true, Bool.not_false, and_self, Nat.le_refl] <;> rfl) ?_
  refine awp_seq ?_
  -- region 12
  refine awp_region rfl ?_
  refine aops_run 1 (by simp only [fw0, fw1, fw2, fw3, fw4, fw5, fw6, fw7, ↓reduceIte, Nat.reduceAdd, Nat.reduceMul, Nat.reduceEqDiff, Nat.reduceLT, Nat.reduceLeDiff, reduceCtorEq, Bool.false_eq_true, Bool.not_true, Bool.not_false, and_self, Nat.le_refl] <;> rfl) ?_
  refine aops_fn rfl rfl rfl en18 (g9) ?_  -- t77 := call F18($b'*', t76, $1:i64) :[9, 2, 2]
  refine aops_run 5 (by simp only [fw0, fw1, fw2, fw3, fw4, fw5, fw6, fw7, ↓reduceIte, Nat.reduceAdd, Nat.reduceMul, Nat.reduceEqDiff, Nat.reduceLT, Nat.reduceLeDiff, reduceCtorEq, Bool.false_eq_true, Bool.not_true, Bool.not_false, and_self, Nat.le_refl] <;> rfl) ?_
  refine awp_seq ?_
  -- region 13
  refine awp_run rfl (by simp only [fw0, fw1, fw2, fw3, fw4, fw5, fw6, fw7, ↓reduceIte, Nat.reduceAdd, Nat.reduceMul, Nat.reduceEqDiff, Nat.reduceLT, Nat.reduceLeDiff, reduceCtorEq, Bool.false_eq_true, Bool.not_true, Bool.not_false, and_self, Nat.le_refl, un4, dab, dlt, decide_true, hsum, he, hl, hm1, beq_self_eq_true] <;> rfl) ?_
  refine awp_ret ?_
  exact gives_end0 (.inl rfl) rfl

/-- chancellaw18.StoreOps -/
theorem c7 (Γ : Nat → PV) (hΓ : Tab Γ) (a b : Int) (ha : I64 a) : Gives Tryd.prog Γ 7 [.int .i64 a, .int .i64 b] (.bool true) := by
  have g1 : Gives Tryd.prog Γ 18 [.str [43], .int .i64 a, .int .i64 b] (.tup [.int .i64 (IntKind.i64.wrap (a + b)), .bool true]) := c18 Γ [43] a b
  have g2 : Gives Tryd.prog Γ 18 [.str [43], .int .i64 b, .int .i64 a] (.tup [.int .i64 (IntKind.i64.wrap (b + a)), .bool true]) := c18 Γ [43] b a
  have g3 : Gives Tryd.prog Γ 18 [.str [45], .int .i64 (IntKind.i64.wrap (a + b)), .int .i64 b] (.tup [.int .i64 (IntKind.i64.wrap (IntKind.i64.wrap (a + b) - b)), .bool true]) := c18 Γ [45] _ b
  have g4 : Gives Tryd.prog Γ 18 [.str [42], .int .i64 a, .int .i64 b] (.tup [.int .i64 (IntKind.i64.wrap (a * b)), .bool true]) := c18 Γ [42] a b
  have g5 : Gives Tryd.prog Γ 18 [.str [42], .int .i64 b, .int .i64 a] (.tup [.int .i64 (IntKind.i64.wrap (b * a)), .bool true]) := c18 Γ [42] b a
  have g6 : Gives Tryd.prog Γ 18 [.str [60], .int .i64 a, .int .i64 b] (.tup [.int .i64 (if a < b then 1 else 0), .bool true]) := c18 Γ [60] a b
  have g7 : Gives Tryd.prog Γ 18 [.str [60], .int .i64 b, .int .i64 a] (.tup [.int .i64 (if b < a then 1 else 0), .bool true]) := c18 Γ [60] b a
  have g8 : Gives Tryd.prog Γ 18 [.str [61], .int .i64 a, .int .i64 b] (.tup [.int .i64 (if a = b then 1 else 0), .bool true]) := c18 Γ [61] a b
  have g9 : Gives Tryd.prog Γ 18 [.str [42], .int .i64 a, .int .i64 1] (.tup [.int .i64 (IntKind.i64.wrap (a * 1)), .bool true]) := c18 Γ [42] a 1
  rw [Int.add_comm b a] at g2
  rw [wrapBack ha] at g3
  rw [Int.mul_comm b a] at g5
  rw [Int.mul_one, wrapId ha] at g9
  rcases Int.lt_trichotomy a b with h | h | h
  · have d1 : decide (a < b) = true := decide_eq_true h
    have d3 : decide (a = b) = false := decide_eq_false (by omega)
    rw [if_pos h] at g6; rw [if_neg (by omega)] at g7; rw [if_neg (by omega)] at g8
    exact c7a Γ hΓ a b _ _ 1 0 0 true false g1 g2 g3 g4 g5 g6 g7 g8 g9 d3 d1 rfl rfl rfl trivial
  · have d1 : decide (a < b) = false := decide_eq_false (by omega)
    have d3 : decide (a = b) = true := decide_eq_true h
    rw [if_neg (by omega)] at g6; rw [if_neg (by omega)] at g7; rw [if_pos h] at g8
    exact c7a Γ hΓ a b _ _ 0 0 1 false true g1 g2 g3 g4 g5 g6 g7 g8 g9 d3 d1 rfl rfl rfl trivial
  · have d1 : decide (a < b) = false := decide_eq_false (by omega)
    have d3 : decide (a = b) = false := decide_eq_false (by omega)
    rw [if_neg (by omega)] at g6; rw [if_pos h] at g7; rw [if_neg (by omega)] at g8
    exact c7a Γ hΓ a b _ _ 0 1 0 false false g1 g2 g3 g4 g5 g6 g7 g8 g9 d3 d1 rfl rfl rfl trivial

/-- What a numeral is worth. -/
def decVal (l : List UInt8) : Nat := l.foldl (fun a c => a * 10 + (c.toNat - 48)) 0
theorem decVal_dec (u : Nat) : decVal (Lib.decDigits u) = u := by
  induction u using Nat.strongRecOn with
  | _ u ih =>
    have hc : ∀ k : Nat, k < 10 → (UInt8.ofNat (48 + k)).toNat - 48 = k := fun k hk => by simp; omega
    by_cases h : u < 10
    · rw [Lib.decDigits_one h]
      show 0 * 10 + ((UInt8.ofNat (48 + u)).toNat - 48) = u
      rw [hc u h]; omega
    · rw [dec_step h]
      unfold decVal
      rw [List.foldl_append]
      show (decVal (Lib.decDigits (u / 10))) * 10 + ((UInt8.ofNat (48 + u % 10)).toNat - 48) = u
      rw [ih (u / 10) (by omega), hc _ (by omega)]; omega
theorem dec_head (u : Nat) : ∀ c ∈ Lib.decDigits u, c ≠ 45 := by
  induction u using Nat.strongRecOn with
  | _ u ih =>
    have hc : ∀ k : Nat, k < 10 → UInt8.ofNat (48 + k) ≠ 45 := fun k hk e => by
      have := congrArg UInt8.toNat e
      simp at this
      omega
    by_cases h : u < 10
    · rw [Lib.decDigits_one h]
      intro c hm
      simp only [List.mem_singleton] at hm
      subst hm; exact hc u h
    · rw [dec_step h]
      intro c hm
      rcases List.mem_append.1 hm with hm | hm
      · exact ih (u / 10) (by omega) c hm
      · simp only [List.mem_singleton] at hm
        subst hm; exact hc _ (by omega)
theorem itoa_inj {a b : Int} (h : Lib.itoa a = Lib.itoa b) : a = b := by
  unfold Lib.itoa at h
  split at h <;> split at h
  · have := congrArg decVal (List.cons.inj h).2
    rw [decVal_dec, decVal_dec] at this; omega
  · exact absurd rfl (dec_head b.toNat 45 (by rw [← h]; simp))
  · exact absurd rfl (dec_head a.toNat 45 (by rw [h]; simp))
  · have := congrArg decVal h
    rw [decVal_dec, decVal_dec] at this; omega

end Go.Proofs.YtinedfjknhahmaaDoor
