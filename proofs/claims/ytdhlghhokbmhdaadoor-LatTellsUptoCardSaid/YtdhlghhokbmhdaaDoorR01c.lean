/- The contracts of the loop over the points of a set. -/
import Derived.Test.YtdhlghhokbmhdaaDoorR01b
namespace Go.Proofs.YtdhlghhokbmhdaaDoor
set_option linter.unusedVariables false
set_option linter.unusedSimpArgs false
set_option maxRecDepth 100000
open Go.RowKit Fw

/-- The library's table. -/
def T64 : List Int := Lib.deBruijn64tab.map fun z : Nat => (z : Int)
def Tab64 (Γ : Nat → PV) : Prop := Γ 0 = .cptr (T64.map fun z => .int .u8 z)

theorem getD_some {l : List Nat} {q k : Nat} (h : q < l.length) (e : l.getD q 0 = k) : l[q]? = some k := by
  rw [List.getD_eq_getElem?_getD, List.getElem?_eq_getElem h] at e
  rw [List.getElem?_eq_getElem h]
  exact congrArg some e

theorem wrap64 {k : Nat} (h : k < 64) : IntKind.i64.wrap (k : Int) = (k : Int) := wrapId ⟨by omega, by omega⟩

/- math/bits.TrailingZeros64 -/
theorem c70 (Γ : Nat → PV) (hΓ : Tab64 Γ) (x : Nat) (hx : x < 2 ^ 64) : Gives Tryd.prog Γ 70 [.int .u64 (x : Int)] (.int .i64 ((Lib.ctz 64 x : Nat) : Int)) := by
  have hΓ' : Γ 0 = .cptr (T64.map fun z => .int .u8 z) := hΓ
  refine fn_of_awp Tryd.func70 rfl (by simp [Tryd.f70]) rfl fun H => ?_
  refine awp_seq ?_
  refine awp_run rfl (by simp only [fwA, ↓reduceIte, Nat.reduceAdd, Nat.reduceMul, Nat.reduceEqDiff, Nat.reduceLT, Nat.reduceLeDiff, reduceCtorEq] <;> rfl) ?_
  refine awp_seq ?_
  refine awp_seq ?_
  by_cases h0 : x = 0
  · subst h0
    refine awp_run rfl (by simp only [fwA, ↓reduceIte, Nat.reduceAdd, Nat.reduceMul, Nat.reduceEqDiff, Nat.reduceLT, Nat.reduceLeDiff, reduceCtorEq] <;> rfl) ?_
    refine awp_cond (b := true) (by simp [alook, aput, ev]) ?_
    refine awp_seq ?_
    refine awp_run rfl (by simp only [fwA, ↓reduceIte, Nat.reduceAdd, Nat.reduceMul, Nat.reduceEqDiff, Nat.reduceLT, Nat.reduceLeDiff, reduceCtorEq] <;> rfl) ?_
    refine awp_ret ?_
    exact gives_end0 (.inl rfl) rfl
  have h0' : ¬ (x : Int) = 0 := by omega
  refine awp_run rfl (by simp only [fwA, ↓reduceIte, Nat.reduceAdd, Nat.reduceMul, Nat.reduceEqDiff, Nat.reduceLT, Nat.reduceLeDiff, reduceCtorEq, bitfw, List.getElem?_map, Option.map_some, Int.natCast_nonneg, Int.toNat_natCast, decide_true, decide_false, Bool.not_true, Bool.not_false, un50, un3, un5, ti3, ti5, ti50, ar94, el94, Int.reduceToNat, Int.reduceLE, Nat.mul_one, h0'] <;> rfl) ?_
  refine awp_cond (b := false) (by simp [alook, aput, ev]) (awp_skip ?_)
  obtain ⟨hlow, hk⟩ := Lib.lowest_bit 64 x h0 hx
  obtain ⟨hi, htab⟩ := Lib.deBruijn64_at _ hk
  generalize Lib.ctz 64 x = k at *
  have e1 : IntKind.u64.wrap (0 - (x : Int)) = ((2 ^ 64 - x : Nat) : Int) := by
    have : IntKind.u64.wrap (0 - (x : Int)) = (0 - (x : Int)) % 18446744073709551616 := by simp [IntKind.wrap, IntKind.signed, IntKind.bits]
    rw [this]; omega
  have e2 := uAnd (x := x) (y := 2 ^ 64 - x) hx
  rw [hlow] at e2
  have e3 : IntKind.u64.wrap (((2 ^ k : Nat) : Int) * 285870213051353865) = ((2 ^ k * 285870213051353865 % 18446744073709551616 : Nat) : Int) := by
    have : IntKind.u64.wrap (((2 ^ k : Nat) : Int) * 285870213051353865) = (((2 ^ k : Nat) : Int) * 285870213051353865) % 18446744073709551616 := by simp [IntKind.wrap, IntKind.signed, IntKind.bits]
    rw [this]; omega
  have hlt : 2 ^ k * 285870213051353865 % 18446744073709551616 < 2 ^ 64 := Nat.mod_lt _ (by decide)
  have e4 := uShr (x := 2 ^ k * 285870213051353865 % 18446744073709551616) 58 hlt
  rw [Nat.shiftRight_eq_div_pow] at e4
  have e6 : (2 : Nat) ^ 58 = 288230376151711744 := by decide
  rw [e6] at e4
  have hlen : Lib.deBruijn64tab.length = 64 := by decide
  generalize hq : 2 ^ k * 285870213051353865 % 18446744073709551616 / 288230376151711744 = q at hi htab e4
  have gt : Lib.deBruijn64tab[q]? = some k := getD_some (by rw [hlen]; exact hi) htab
  have gt2 : T64[q]? = some (k : Int) := by unfold T64; rw [List.getElem?_map, gt]; rfl
  have hkw : IntKind.i64.wrap (k : Int) = (k : Int) := wrap64 hk
  have hi2 : (q : Int) < ((64 : Nat) : Int) := Int.ofNat_lt.2 hi
  refine awp_seq ?_
  refine awp_run rfl (by simp only [fwA, ↓reduceIte, Nat.reduceAdd, Nat.reduceMul, Nat.reduceEqDiff, Nat.reduceLT, Nat.reduceLeDiff, reduceCtorEq, bitfw, List.getElem?_map, Option.map_some, Int.natCast_nonneg, Int.toNat_natCast, decide_true, decide_false, Bool.not_true, Bool.not_false, un50, un3, un5, ti3, ti5, ti50, ar94, el94, Int.reduceToNat, Int.reduceLE, Nat.mul_one, List.getElem?_drop, Nat.add_zero, hΓ', e1, e2, e3, e4, gt2, hkw, hi2] <;> rfl) ?_
  refine awp_ret ?_
  exact gives_end0 (.inl rfl) rfl

/-- The points of a set as the loop hands them on. -/
def bitsP (x : Nat) : List (List PV) := (bitsOf x).map fun j => [.int .i64 ((j : Nat) : Int)]
theorem bitsP_len (x : Nat) : (bitsP x).length = (bitsOf x).length := by simp [bitsP]

/- chancel/lat.each's loop -/
theorem c69 (Γ : Nat → PV) (hΓ : Tab64 Γ) (b : Nat) (x : Nat) (hx : x < 2 ^ 64) : AIterM Tryd.prog Γ 69 [.ptr b 0] b (.box [.int .u64 (x : Int)]) 1 (bitsP x) := by
  intro lb n0 Inv Stop hI Hb hInv hb0
  refine acalls_of_awp Tryd.func69 rfl (by simp [Tryd.f69]) fun hbd => ?_
  obtain ⟨hn0, hcl, rec, cs, hl0, hbl, hpar, _⟩ := hI 0 Hb hInv
  have hbn : b < n0 := by have := (List.getElem?_eq_some_iff.1 hb0).1; omega
  refine awp_block ?_
  refine awp_for [0, 1] (fun s : Nat × Nat × List Blk => [.yld lb, .ptr b 0]) (fun s => s.2.2) (fun s => (bitsOf s.2.1).length) (fun s => s.2.1 < 2 ^ 64 ∧ s.1 ≤ (bitsOf x).length ∧ bitsOf s.2.1 = (bitsOf x).drop s.1 ∧ Inv s.1 s.2.2 ∧ s.2.2[b]? = some (.box [.int .u64 ((s.2.1 : Nat) : Int)])) (0, x, Hb) rfl rfl ⟨hx, Nat.zero_le _, rfl, hInv, hb0⟩ fun s hs => ?_
  obtain ⟨k, y, Hk⟩ := s
  obtain ⟨hy, hkx, hbits, hInvk, hbk⟩ := hs
  simp only at hy hkx hbits hInvk hbk ⊢
  obtain ⟨hnk, hclk, reck, csk, hlk, _, hpark, hround⟩ := hI k Hk hInvk
  refine awp_seq ?_
  refine awp_seq ?_
  by_cases h0 : y = 0
  · have h0' : (y : Int) = 0 := by omega
    subst h0
    refine awp_run rfl (by simp only [fwA, ↓reduceIte, Nat.reduceAdd, Nat.reduceMul, Nat.reduceEqDiff, Nat.reduceLT, Nat.reduceLeDiff, reduceCtorEq, bitfw, List.getElem?_map, Option.map_some, Int.natCast_nonneg, Int.toNat_natCast, decide_true, decide_false, Bool.not_true, Bool.not_false, un50, un3, un5, ti3, ti5, ti50, ar94, el94, Int.reduceToNat, Int.reduceLE, Nat.mul_one, hbk] <;> rfl) ?_
    refine awp_cond (b := false) (by simp [alook, aput, ev]) ?_
    refine awp_bd fun hbd' => ?_
    refine awp_exit ?_
    simp only [Post.block, Post.then, ↓reduceIte]
    refine calls_at (p := .tup []) (.inr rfl) hbd' rfl rfl ?_ ?_
    · omega
    · rw [bitsOf_zero] at hbits
      have hkl : (bitsOf x).length ≤ k := by
        have := congrArg List.length hbits
        rw [List.length_drop, List.length_nil] at this; omega
      have hk : k = (bitsOf x).length := by omega
      exact .inl (by rw [bitsP_len, ← hk]; exact hInvk)
  have h0' : ¬ (y : Int) = 0 := by omega
  refine awp_run rfl (by simp only [fwA, ↓reduceIte, Nat.reduceAdd, Nat.reduceMul, Nat.reduceEqDiff, Nat.reduceLT, Nat.reduceLeDiff, reduceCtorEq, bitfw, List.getElem?_map, Option.map_some, Int.natCast_nonneg, Int.toNat_natCast, decide_true, decide_false, Bool.not_true, Bool.not_false, un50, un3, un5, ti3, ti5, ti50, ar94, el94, Int.reduceToNat, Int.reduceLE, Nat.mul_one, hbk, h0'] <;> rfl) ?_
  refine awp_cond (b := true) (by simp [alook, aput, ev]) (awp_skip ?_)
  have hstep := bitsOf_step h0 hy
  have hkl : k < (bitsOf x).length := by
    refine Nat.lt_of_not_le fun hle => ?_
    rw [List.drop_of_length_le hle, hstep] at hbits
    cases hbits
  have hdr := List.drop_eq_getElem_cons hkl
  rw [hstep, hdr] at hbits
  injection hbits with hc1 hc2
  have h70 := c70 Γ hΓ y hy
  have hgx : (bitsP x)[k]? = some [.int .i64 ((Lib.ctz 64 y : Nat) : Int)] := by
    unfold bitsP
    rw [List.getElem?_map, List.getElem?_eq_getElem hkl, ← hc1]; rfl
  have hy1 : IntKind.u64.wrap ((y : Int) - 1) = ((y - 1 : Nat) : Int) := by
    have e : (y : Int) - 1 = ((y - 1 : Nat) : Int) := by omega
    rw [e, uWrapN (by omega)]
  have hand := uAnd (x := y) (y := y - 1) hy
  generalize Lib.ctz 64 y = c at *
  refine awp_seq ?_
  refine awp_block ?_
  refine awp_seq ?_
  refine awp_region rfl ?_
  refine aops_run 2 (by simp only [fwA, ↓reduceIte, Nat.reduceAdd, Nat.reduceMul, Nat.reduceEqDiff, Nat.reduceLT, Nat.reduceLeDiff, reduceCtorEq, bitfw, List.getElem?_map, Option.map_some, Int.natCast_nonneg, Int.toNat_natCast, decide_true, decide_false, Bool.not_true, Bool.not_false, un50, un3, un5, ti3, ti5, ti50, ar94, el94, Int.reduceToNat, Int.reduceLE, Nat.mul_one, hbk] <;> rfl) ?_
  refine aops_fn rfl rfl rfl en70 h70 ?_
  have hr := hround _ [] hgx
  rw [List.append_nil] at hr
  refine aops_one rfl (os_yield rfl rfl hlk (by rw [hpark]; rfl) (hr.mono fun bo H' hq => ?_))
  obtain ⟨Hb', rfl, hkeep, hq⟩ := hq
  rw [List.append_nil]
  refine aops_run 1 (by simp only [fwA, ↓reduceIte, Nat.reduceAdd, Nat.reduceMul, Nat.reduceEqDiff, Nat.reduceLT, Nat.reduceLeDiff, reduceCtorEq, bitfw, List.getElem?_map, Option.map_some, Int.natCast_nonneg, Int.toNat_natCast, decide_true, decide_false, Bool.not_true, Bool.not_false, un50, un3, un5, ti3, ti5, ti50, ar94, el94, Int.reduceToNat, Int.reduceLE, Nat.mul_one] <;> rfl) ?_
  refine aops_end ?_
  refine awp_cond (by simp only [fwA, ↓reduceIte, Nat.reduceAdd, Nat.reduceMul, Nat.reduceEqDiff, Nat.reduceLT, Nat.reduceLeDiff, reduceCtorEq] <;> rfl) ?_
  rw [hbk] at hkeep
  cases bo with
  | false =>
    simp only [Bool.false_eq_true, ↓reduceIte] at hq
    refine awp_bd fun hbd' => ?_
    refine awp_ret ?_
    simp only [Post.block, Post.then]
    refine calls_at (p := .tup []) (.inl rfl) hbd' rfl rfl ?_ ?_
    · omega
    · exact .inr hq
  | true =>
    simp only [↓reduceIte] at hq
    refine awp_skip ?_
    obtain ⟨hn1, hcl1, _⟩ := hI (k + 1) Hb' hq
    refine awp_run rfl (by simp only [fwA, ↓reduceIte, Nat.reduceAdd, Nat.reduceMul, Nat.reduceEqDiff, Nat.reduceLT, Nat.reduceLeDiff, reduceCtorEq, bitfw, List.getElem?_map, Option.map_some, Int.natCast_nonneg, Int.toNat_natCast, decide_true, decide_false, Bool.not_true, Bool.not_false, un50, un3, un5, ti3, ti5, ti50, ar94, el94, Int.reduceToNat, Int.reduceLE, Nat.mul_one, hkeep, hy1, hand] <;> rfl) ?_
    refine ⟨(k + 1, y &&& (y - 1), Hb'.set b (.box [.int .u64 ((y &&& (y - 1) : Nat) : Int)])), ?_, ⟨and_pred_lt hy, by simp only; omega, hc2, hcl1 _ rfl, ?_⟩, rfl, rfl, rfl⟩
    · simp only [hstep, List.length_cons]; omega
    · simp only
      rw [List.getElem?_set_self (by omega)]

/- chancel/lat.each -/
theorem c62 (Γ : Nat → PV) (x : Nat) (H : List Blk) : ACalls Tryd.prog Γ 62 [.int .u64 (x : Int)] H (fun p H' => p = .func (.func 69) [] [.ptr H.length 0] ∧ H' = H ++ [.box [.int .u64 (x : Int)]]) := by
  refine acalls_of_awp Tryd.func62 rfl (by simp [Tryd.f62]) fun hbd => ?_
  refine awp_seq ?_
  refine awp_run rfl (by simp only [fwA, ↓reduceIte, Nat.reduceAdd, Nat.reduceMul, Nat.reduceEqDiff, Nat.reduceLT, Nat.reduceLeDiff, reduceCtorEq] <;> rfl) ?_
  refine awp_seq ?_
  refine awp_run rfl (by simp only [fwA, ↓reduceIte, Nat.reduceAdd, Nat.reduceMul, Nat.reduceEqDiff, Nat.reduceLT, Nat.reduceLeDiff, reduceCtorEq] <;> rfl) ?_
  refine awp_bd fun hbd' => ?_
  refine awp_ret ?_
  exact calls_at (p := .func (.func 69) [] [.ptr H.length 0]) (.inl rfl) hbd' rfl (by simp [PV.bd, PV.bdL]) (by simp) ⟨rfl, rfl⟩

end Go.Proofs.YtdhlghhokbmhdaaDoor
