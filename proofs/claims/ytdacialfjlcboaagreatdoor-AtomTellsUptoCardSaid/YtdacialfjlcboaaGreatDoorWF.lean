/- The contracts of what Norm goes through: the test, the first place, the copy. -/
import Derived.Test.YtdacialfjlcboaaGreatDoorWE
namespace Go.Proofs.YtdacialfjlcboaaGreatDoor
set_option linter.unusedVariables false
set_option linter.unusedSimpArgs false
set_option maxRecDepth 100000
open Go.RowKit Fw

/-- Two like atoms. -/
def like (p : Pr) : Bool := decide (p.a = p.b)

/- chancel/atom.Norm$1 -/
theorem c40 (Γ : Nat → PV) (p : Pr) : Gives Tryz.prog Γ 40 [.agg p.enc] (.bool (like p)) := by
  refine fn_of_awp Tryz.func40 rfl (by simp [Tryz.f40]) rfl fun H => ?_
  refine awp_seq ?_
  refine awp_run rfl (by simp only [fwA, ↓reduceIte, Nat.reduceAdd, Nat.reduceMul, Nat.reduceEqDiff, Nat.reduceLT, Nat.reduceLeDiff, reduceCtorEq] <;> rfl) ?_
  refine awp_seq ?_
  refine awp_run rfl (by simp only [fwA, ↓reduceIte, Nat.reduceAdd, Nat.reduceMul, Nat.reduceEqDiff, Nat.reduceLT, Nat.reduceLeDiff, reduceCtorEq, fl53_0, ti24, fl53_1, Pr.fw] <;> rfl) ?_
  refine awp_ret ?_
  exact gives_end (.inl rfl) _ rfl

/-- Where the first one is that is so. -/
def Found (l : List Pr) (p : PV) : Prop := (p = .int .i64 (-1) ∧ ∀ x ∈ l, like x = false) ∨ ∃ i : Nat, i < l.length ∧ p = .int .i64 (i : Int) ∧ (∀ x, l[i]? = some x → like x = true) ∧ (∀ j x, j < i → l[j]? = some x → like x = false)

/- slices.IndexFunc[[]chancel/atom.Pair,chancel/atom.Pair] -/
theorem c57 (Γ : Nat → PV) (H : List Blk) (b : Nat) (l : List Pr) (hb : H[b]? = some (.row 2 ((l.map Pr.enc).flatten))) (hbl : l.length ≤ 1000000000000) :
    ACalls Tryz.prog Γ 57 [.row b 0 l.length 2, .func (.func 40) [] []] H (fun p H' => Found l p ∧ H' = H) := by
  refine acalls_of_awp Tryz.func57 rfl (by simp [Tryz.f57]) fun hbd => ?_
  refine awp_seq ?_
  refine awp_run rfl (by simp only [fwA, ↓reduceIte, Nat.reduceAdd, Nat.reduceMul, Nat.reduceEqDiff, Nat.reduceLT, Nat.reduceLeDiff, reduceCtorEq] <;> rfl) ?_
  refine awp_seq ?_
  refine awp_seq ?_
  refine awp_run rfl (by simp only [fwA, ↓reduceIte, Nat.reduceAdd, Nat.reduceMul, Nat.reduceEqDiff, Nat.reduceLT, Nat.reduceLeDiff, reduceCtorEq, un22] <;> rfl) ?_
  refine awp_block ?_
  refine awp_for [0, 1, 7, 8] (fun i : Nat => [.row b 0 l.length 2, .func (.func 40) [] [], .int .i64 (l.length : Int), .int .i64 (i : Int)]) (fun _ => H) (fun i => l.length - i)
    (fun i => i ≤ l.length ∧ ∀ j x, j < i → l[j]? = some x → like x = false) 0 rfl rfl ⟨Nat.zero_le _, fun j x h => by omega⟩ fun i hi => ?_
  refine awp_seq ?_
  refine awp_run rfl (by simp only [fwA, ↓reduceIte, Nat.reduceAdd, Nat.reduceMul, Nat.reduceEqDiff, Nat.reduceLT, Nat.reduceLeDiff, reduceCtorEq] <;> rfl) ?_
  refine awp_seq ?_
  refine awp_cond (by simp only [fwA, ↓reduceIte, Nat.reduceAdd, Nat.reduceMul, Nat.reduceEqDiff, Nat.reduceLT, Nat.reduceLeDiff, reduceCtorEq] <;> rfl) ?_
  by_cases hc : (i : Int) < l.length
  rotate_left
  · simp only [hc, decide_false, Bool.false_eq_true, ↓reduceIte]
    refine awp_exit ?_
    refine awp_seq ?_
    refine awp_run rfl (by simp only [fwA, ↓reduceIte, Nat.reduceAdd, Nat.reduceMul, Nat.reduceEqDiff, Nat.reduceLT, Nat.reduceLeDiff, reduceCtorEq] <;> rfl) ?_
    refine awp_ret ?_
    refine calls_end0 (p := .int .i64 (-1)) (.inl rfl) hbd rfl rfl ⟨.inl ⟨rfl, fun x hx => ?_⟩, rfl⟩
    obtain ⟨j, hj⟩ := List.getElem?_of_mem hx
    exact hi.2 j x (by have := (List.getElem?_eq_some_iff.1 hj).1; omega) hj
  simp only [hc, decide_true, ↓reduceIte]
  have hil : i < l.length := by omega
  have hx : l[i]? = some l[i] := List.getElem?_eq_getElem hil
  refine awp_skip ?_
  refine awp_seq ?_
  refine awp_block ?_
  refine awp_seq ?_
  refine awp_run rfl (by simp only [fwA, ↓reduceIte, Nat.reduceAdd, Nat.reduceMul, Nat.reduceEqDiff, Nat.reduceLT, Nat.reduceLeDiff, reduceCtorEq] <;> rfl) ?_
  refine awp_seq ?_
  refine awp_region rfl ?_
  refine aops_run 3 (by simp only [fwA, ↓reduceIte, Nat.reduceAdd, Nat.reduceMul, Nat.reduceEqDiff, Nat.reduceLT, Nat.reduceLeDiff, reduceCtorEq] <;> rfl) ?_
  refine aops_one rfl (os_idxRow Pr.enc_len rfl el22 rfl rfl hb (by omega) hil ?_)
  refine aops_one rfl (os_loadRow Pr.enc_len rfl ti53 rfl hb (by omega) rfl hx rfl (by rw [if_pos rfl]) ?_)
  refine aops_fn rfl rfl rfl en40 (c40 Γ l[i]) ?_
  refine aops_end ?_
  refine awp_cond (by simp only [fwA, ↓reduceIte, Nat.reduceAdd, Nat.reduceMul, Nat.reduceEqDiff, Nat.reduceLT, Nat.reduceLeDiff, reduceCtorEq] <;> rfl) ?_
  cases hl : like l[i] with
  | true =>
    simp only [↓reduceIte]
    refine awp_seq ?_
    refine awp_run rfl (by simp only [fwA, ↓reduceIte, Nat.reduceAdd, Nat.reduceMul, Nat.reduceEqDiff, Nat.reduceLT, Nat.reduceLeDiff, reduceCtorEq] <;> rfl) ?_
    refine awp_ret ?_
    exact calls_end0 (fn := Tryz.f57) (R := fun p H' => Found l p ∧ H' = H) (p := .int .i64 (i : Int)) (.inl rfl) hbd rfl rfl ⟨.inr ⟨i, hil, rfl, fun x h => by rw [hx] at h; cases h; exact hl, hi.2⟩, rfl⟩
  | false =>
    simp only [Bool.false_eq_true, ↓reduceIte]
    refine awp_skip ?_
    refine awp_run rfl (by simp only [fwA, ↓reduceIte, Nat.reduceAdd, Nat.reduceMul, Nat.reduceEqDiff, Nat.reduceLT, Nat.reduceLeDiff, reduceCtorEq] <;> rfl) ?_
    refine ⟨i + 1, by omega, ⟨by omega, fun j x hj hjx => ?_⟩, ?_, rfl, rfl⟩
    · obtain hj | rfl : j < i ∨ j = i := by omega
      · exact hi.2 j x hj hjx
      · rw [hx] at hjx; cases hjx; exact hl
    · simp only [fwA, ↓reduceIte, Nat.reduceAdd, Nat.reduceMul, Nat.reduceEqDiff, Nat.reduceLT, Nat.reduceLeDiff, reduceCtorEq, List.map_cons, List.map_nil, wrapS i (by omega)]

/- slices.Clone[[]chancel/atom.Pair,chancel/atom.Pair] -/
theorem c39 (Γ : Nat → PV) (H : List Blk) (l : List Pr) (f : Bool) (hl : l.length ≤ 1000000000000) :
    ACalls Tryz.prog Γ 39 [.vec (l.map Pr.enc) f] H (fun p H' => p = .row H.length 0 l.length 2 ∧ H' = H ++ [.row 2 ((l.map Pr.enc).flatten)]) := by
  refine acalls_of_awp Tryz.func39 rfl (by simp [Tryz.f39]) fun hbd => ?_
  refine awp_vlen 0 rfl fun hlen => ?_
  rw [List.length_map] at hlen
  refine awp_seq ?_
  refine awp_run rfl (by simp only [fwA, ↓reduceIte, Nat.reduceAdd, Nat.reduceMul, Nat.reduceEqDiff, Nat.reduceLT, Nat.reduceLeDiff, reduceCtorEq] <;> rfl) ?_
  refine awp_seq ?_
  refine awp_seq ?_
  refine awp_region rfl ?_
  refine aops_run 1 (by simp only [fwA, ↓reduceIte, Nat.reduceAdd, Nat.reduceMul, Nat.reduceEqDiff, Nat.reduceLT, Nat.reduceLeDiff, reduceCtorEq] <;> rfl) ?_
  refine aops_one rfl (os_nilSlice rfl un22 rfl (.inl rfl) fun b p hb hp => ?_)
  obtain rfl : p = .bool b := by cases b <;> simpa [eqv] using hp.symm
  refine aops_end ?_
  refine awp_cond (by simp only [fwA, ↓reduceIte, Nat.reduceAdd, Nat.reduceMul, Nat.reduceEqDiff, Nat.reduceLT, Nat.reduceLeDiff, reduceCtorEq] <;> rfl) ?_
  cases b with
  | true =>
    obtain rfl : l = [] := by
      by_cases hne : l = []
      · exact hne
      · exact absurd (hb (by simpa using hne)) (by decide)
    simp only [↓reduceIte]
    refine awp_seq ?_
    refine awp_run rfl (by simp only [fwA, ↓reduceIte, Nat.reduceAdd, Nat.reduceMul, Nat.reduceEqDiff, Nat.reduceLT, Nat.reduceLeDiff, reduceCtorEq] <;> rfl) ?_
    refine awp_told (told_adopt 2 2 (by decide) rfl) ?_
    refine awp_bd fun hbd' => ?_
    refine awp_ret ?_
    show RetQ Tryz.prog Γ Tryz.f39 H.length (fun p H' => p = .row H.length 0 0 2 ∧ H' = H ++ [.row 2 []]) .ret _ _ []
    exact calls_at (p := .row H.length 0 0 2) (.inl rfl) hbd' rfl (by simp [PV.bd]) (by simp) ⟨rfl, rfl⟩
  | false =>
    simp only [Bool.false_eq_true, ↓reduceIte]
    refine awp_skip ?_
    refine awp_seq ?_
    refine awp_region rfl ?_
    refine aops_run 2 (by simp only [fwA, ↓reduceIte, Nat.reduceAdd, Nat.reduceMul, Nat.reduceEqDiff, Nat.reduceLT, Nat.reduceLeDiff, reduceCtorEq, un22, ti53] <;> rfl) ?_
    refine aops_one rfl (os_appendNew rfl un22 ti53 un22 (.inl ⟨_, rfl⟩) (by decide) rfl (by simp only [fwA, ↓reduceIte, Nat.reduceAdd, Nat.reduceMul, Nat.reduceEqDiff, Nat.reduceLT, Nat.reduceLeDiff, reduceCtorEq] <;> rfl) (fun es f h e he => by
        simp only [fwA, ↓reduceIte, Nat.reduceAdd, Nat.reduceMul, Nat.reduceEqDiff, Nat.reduceLT, Nat.reduceLeDiff, reduceCtorEq, PV.vec.injEq] at h
        obtain ⟨rfl, rfl⟩ := h
        obtain ⟨x, _, rfl⟩ := List.mem_map.1 he
        rfl) (by simp only [fwA, ↓reduceIte, Nat.reduceAdd, Nat.reduceMul, Nat.reduceEqDiff, Nat.reduceLT, Nat.reduceLeDiff, reduceCtorEq] <;> rfl) (by rw [List.length_map]; show l.length * 16 ≤ _; omega) (by rw [List.length_map]; omega) ?_)
    refine aops_run 1 (by simp only [fwA, ↓reduceIte, Nat.reduceAdd, Nat.reduceMul, Nat.reduceEqDiff, Nat.reduceLT, Nat.reduceLeDiff, reduceCtorEq] <;> rfl) ?_
    refine awp_bd fun hbd' => ?_
    refine awp_ret ?_
    exact calls_at (p := .row H.length 0 l.length 2) (.inl rfl) hbd' (by simp [ares, aresL, ares1, alook, Tryz.f39]) (by simp [PV.bd]) (by simp) ⟨rfl, rfl⟩

end Go.Proofs.YtdacialfjlcboaaGreatDoor

/- The contracts of atoms: points, texts (turned by a tool of mine from chapter 13's texts). -/
namespace Go.Proofs.YtdacialfjlcboaaGreatDoor
set_option linter.unusedVariables false
set_option linter.unusedSimpArgs false
set_option maxRecDepth 100000
open Go.RowKit Fw

theorem dec_step {n : Nat} (h : ¬ n < 10) : Lib.decDigits n = Lib.decDigits (n / 10) ++ [UInt8.ofNat (48 + n % 10)] := by rw [Lib.decDigits, dif_neg h]
theorem dec_one {n : Nat} (h : n < 10) : Lib.decDigits n = [UInt8.ofNat (48 + n)] := by rw [Lib.decDigits, dif_pos h]
/-- An atom as it is read. -/
def atomT (names : List (List UInt8)) (a : Int) : List UInt8 := if 0 ≤ a then 39 :: Lib.itoa a else names.getD (-1 - a).toNat [63]

theorem cpl_eq {n : Int} (h : I64 n) : IntKind.i64.wrap ((BitVec.ofInt IntKind.i64.bits (if IntKind.i64.signed then -1 else IntKind.i64.max) ^^^ BitVec.ofInt IntKind.i64.bits n).toNat) = -1 - n := by
  obtain ⟨h1, h2⟩ := h
  have hb : IntKind.i64.bits = 64 := rfl
  have hsg : IntKind.i64.signed = true := rfl
  rw [hsg, if_pos rfl, hb]
  have e1 : BitVec.ofInt 64 (-1) = BitVec.allOnes 64 := rfl
  rw [e1, BitVec.allOnes_xor, BitVec.toNat_not, BitVec.toNat_ofInt]
  unfold IntKind.wrap
  simp only [hb, hsg, Bool.true_and, decide_eq_true_eq]
  have hm : (n % ((2 ^ 64 : Nat) : Int)).toNat = (if 0 ≤ n then n.toNat else (n + 18446744073709551616).toNat) := by
    split <;> omega
  rw [hm]
  split <;> split <;> omega

def pointOf (a : Int) : Int := if 0 ≤ a then -1 else -1 - a

/-- atom.IsPoint -/
theorem c27 (Γ : Nat → PV) (a : Int) : Gives Tryz.prog Γ 27 [.int .i64 a] (.bool (decide (a < 0))) := by
  refine fn_of_awp Tryz.func27 rfl (by simp [Tryz.f27]) rfl fun H => ?_
  refine awp_seq ?_
  refine awp_run rfl (by simp only [fwA, ↓reduceIte, Nat.reduceAdd, Nat.reduceMul, Nat.reduceEqDiff, Nat.reduceLT, Nat.reduceLeDiff, reduceCtorEq] <;> rfl) ?_
  refine awp_seq ?_
  refine awp_run rfl (by simp only [fwA, ↓reduceIte, Nat.reduceAdd, Nat.reduceMul, Nat.reduceEqDiff, Nat.reduceLT, Nat.reduceLeDiff, reduceCtorEq] <;> rfl) (awp_ret ?_)
  exact gives_end0 (.inl rfl) rfl
/-- atom.PointOf -/
theorem c25 (Γ : Nat → PV) (a : Int) (ha : I64 a) : Gives Tryz.prog Γ 25 [.int .i64 a] (.int .i64 (pointOf a)) := by
  refine fn_of_awp Tryz.func25 rfl (by simp [Tryz.f25]) rfl fun H => ?_
  refine awp_seq ?_
  refine awp_run rfl (by simp only [fwA, ↓reduceIte, Nat.reduceAdd, Nat.reduceMul, Nat.reduceEqDiff, Nat.reduceLT, Nat.reduceLeDiff, reduceCtorEq] <;> rfl) ?_
  refine awp_seq ?_
  refine awp_region rfl ?_
  refine aops_run 1 (by simp only [fwA, ↓reduceIte, Nat.reduceAdd, Nat.reduceMul, Nat.reduceEqDiff, Nat.reduceLT, Nat.reduceLeDiff, reduceCtorEq] <;> rfl) ?_
  refine aops_one rfl (os_cpl rfl rfl ?_)
  rw [cpl_eq ha]
  refine aops_one rfl (os_max rfl rfl rfl ?_)
  refine aops_run 1 (by simp only [fwA, ↓reduceIte, Nat.reduceAdd, Nat.reduceMul, Nat.reduceEqDiff, Nat.reduceLT, Nat.reduceLeDiff, reduceCtorEq] <;> rfl) (awp_ret ?_)
  have e : (if -1 - a < -1 then -1 else -1 - a) = pointOf a := by unfold pointOf; split <;> split <;> omega
  exact gives_end0 (.inl rfl) (by rw [← e]; rfl)
/-- chancelref10.PointOf -/
theorem c26 (Γ : Nat → PV) (a : Int) (ha : I64 a) : Gives Tryz.prog Γ 26 [.int .i64 a] (.int .i64 (pointOf a)) := by
  refine fn_of_awp Tryz.func26 rfl (by simp [Tryz.f26]) rfl fun H => ?_
  refine awp_seq ?_
  refine awp_run rfl (by simp only [fwA, ↓reduceIte, Nat.reduceAdd, Nat.reduceMul, Nat.reduceEqDiff, Nat.reduceLT, Nat.reduceLeDiff, reduceCtorEq] <;> rfl) ?_
  refine awp_seq ?_
  refine awp_seq ?_
  refine awp_run rfl (by simp only [fwA, ↓reduceIte, Nat.reduceAdd, Nat.reduceMul, Nat.reduceEqDiff, Nat.reduceLT, Nat.reduceLeDiff, reduceCtorEq, ge_iff_le] <;> rfl) ?_
  refine awp_cond (by simp only [fwA, ↓reduceIte, Nat.reduceAdd, Nat.reduceMul, Nat.reduceEqDiff, Nat.reduceLT, Nat.reduceLeDiff, reduceCtorEq] <;> rfl) ?_
  by_cases h : 0 ≤ a
  · simp only [h, decide_true, ↓reduceIte]
    refine awp_seq (awp_run rfl (by simp only [fwA, ↓reduceIte, Nat.reduceAdd, Nat.reduceMul, Nat.reduceEqDiff, Nat.reduceLT, Nat.reduceLeDiff, reduceCtorEq] <;> rfl) (awp_ret ?_))
    exact gives_end0 (.inl rfl) (by unfold pointOf; rw [if_pos h]; rfl)
  · simp only [h, decide_false, Bool.false_eq_true, ↓reduceIte]
    refine awp_skip ?_
    have hw : IntKind.i64.wrap (-1 - a) = -1 - a := wrapId ⟨by have := ha.1; have := ha.2; omega, by have := ha.1; have := ha.2; omega⟩
    refine awp_seq (awp_run rfl (by simp only [fwA, ↓reduceIte, Nat.reduceAdd, Nat.reduceMul, Nat.reduceEqDiff, Nat.reduceLT, Nat.reduceLeDiff, reduceCtorEq, hw] <;> rfl) (awp_ret ?_))
    exact gives_end0 (.inl rfl) (by unfold pointOf; rw [if_neg h]; rfl)
/-- atom.Point -/
theorem c23 (Γ : Nat → PV) (a : Int) (ha : I64 a) : Gives Tryz.prog Γ 23 [.int .i64 a] (.int .i64 (if a < 0 then 0 else -1 - a)) := by
  refine fn_of_awp Tryz.func23 rfl (by simp [Tryz.f23]) rfl fun H => ?_
  refine awp_seq ?_
  refine awp_run rfl (by simp only [fwA, ↓reduceIte, Nat.reduceAdd, Nat.reduceMul, Nat.reduceEqDiff, Nat.reduceLT, Nat.reduceLeDiff, reduceCtorEq] <;> rfl) ?_
  refine awp_seq ?_
  refine awp_seq ?_
  refine awp_run rfl (by simp only [fwA, ↓reduceIte, Nat.reduceAdd, Nat.reduceMul, Nat.reduceEqDiff, Nat.reduceLT, Nat.reduceLeDiff, reduceCtorEq] <;> rfl) ?_
  refine awp_cond (by simp only [fwA, ↓reduceIte, Nat.reduceAdd, Nat.reduceMul, Nat.reduceEqDiff, Nat.reduceLT, Nat.reduceLeDiff, reduceCtorEq] <;> rfl) ?_
  by_cases h : a < 0
  · simp only [h, decide_true, ↓reduceIte]
    refine awp_seq (awp_run rfl (by simp only [fwA, ↓reduceIte, Nat.reduceAdd, Nat.reduceMul, Nat.reduceEqDiff, Nat.reduceLT, Nat.reduceLeDiff, reduceCtorEq] <;> rfl) (awp_ret ?_))
    exact gives_end0 (.inl rfl) rfl
  · simp only [h, decide_false, Bool.false_eq_true, ↓reduceIte]
    refine awp_skip ?_
    refine awp_seq ?_
    refine awp_region rfl ?_
    refine aops_run 1 (by simp only [fwA, ↓reduceIte, Nat.reduceAdd, Nat.reduceMul, Nat.reduceEqDiff, Nat.reduceLT, Nat.reduceLeDiff, reduceCtorEq] <;> rfl) ?_
    refine aops_one rfl (os_cpl rfl rfl ?_)
    rw [cpl_eq ha]
    refine aops_run 1 (by simp only [fwA, ↓reduceIte, Nat.reduceAdd, Nat.reduceMul, Nat.reduceEqDiff, Nat.reduceLT, Nat.reduceLeDiff, reduceCtorEq] <;> rfl) (awp_ret ?_)
    exact gives_end0 (.inl rfl) rfl

/-- The library's table of the powers of ten. -/
def Tab (Γ : Nat → PV) : Prop := Γ 0 = .cptr (Lib.pow10Tab.map fun z => .int .u64 z)
theorem wrapN (n : Nat) (h : n < 9223372036854775808) : IntKind.i64.wrap (n : Int) = n := wrapId ⟨by omega, by omega⟩
theorem itoa_room {n : Int} (h : I64 n) : (Lib.itoa n).length ≤ 21 := by have := Lib.itoa_length_le n h.1 h.2; omega
theorem ints1 {G : Ghost} {n : Nat} {k : IntKind} {x : Int} {us : Array Value} (h : Reps G n [.int k x] us.toList) : us = #[.int k x] := by
  obtain ⟨l⟩ := us
  obtain ⟨v, vs, rfl, h1, h2⟩ := h.cons_inv
  have : vs = [] := by have := h2.1; simpa using this.symm
  subst this
  rw [h1.int_inv]
/-- strconv.Itoa -/
theorem c50 (Γ : Nat → PV) (hΓ : Tab Γ) (n : Int) (hn : I64 n) : Gives Tryz.prog Γ 50 [.int .i64 n] (.str (Lib.itoa n)) :=
  gives_text lays.m17 hΓ (fun _ _ _ h => ints1 h) (by have := itoa_room hn; omega) fun w hw => Any.strconv_Itoa lays n hn.1 hn.2 w hw

theorem wrapU (n : Nat) (h : n < 18446744073709551616) : IntKind.u64.wrap (n : Int) = n := by
  unfold IntKind.wrap
  have hb : IntKind.u64.bits = 64 := rfl
  have hsg : IntKind.u64.signed = false := rfl
  simp only [hb, hsg, Bool.false_and, Bool.false_eq_true, ↓reduceIte]
  omega
theorem wrapB (n : Nat) (h : n < 256) : IntKind.u8.wrap (n : Int) = n := by
  unfold IntKind.wrap
  have hb : IntKind.u8.bits = 8 := rfl
  have hsg : IntKind.u8.signed = false := rfl
  simp only [hb, hsg, Bool.false_and, Bool.false_eq_true, ↓reduceIte]
  omega

theorem digit (n : Nat) (h : n < 10) : IntKind.u8.wrap (IntKind.u64.wrap (48 + (n : Int))) = ((UInt8.ofNat (48 + n)).toNat : Int) := by
  rw [show (48 + (n : Int)) = ((48 + n : Nat) : Int) by omega, wrapU _ (by omega), wrapB _ (by omega)]
  simp
  omega

/-- chancelref07.digits -/
theorem c63 (Γ : Nat → PV) (n : Nat) (hn : n < 18446744073709551616) : Gives Tryz.prog Γ 63 [.int .u64 n] (.str (Lib.decDigits n)) := by
  have hlen : (Lib.decDigits n).length ≤ 20 := by rw [Lib.decDigits_length]; exact Lib.nDigits_le20 n hn
  refine fn_of_awp Tryz.func63 rfl (by simp [Tryz.f63]) rfl fun H => ?_
  refine awp_seq ?_
  -- region 0
  refine awp_run rfl (by simp only [fwA, ↓reduceIte, Nat.reduceAdd, Nat.reduceMul, Nat.reduceEqDiff, Nat.reduceLT, Nat.reduceLeDiff, reduceCtorEq] <;> rfl) ?_
  refine awp_seq ?_
  -- region 1
  refine awp_run rfl (by simp only [fwA, ↓reduceIte, Nat.reduceAdd, Nat.reduceMul, Nat.reduceEqDiff, Nat.reduceLT, Nat.reduceLeDiff, reduceCtorEq] <;> rfl) ?_
  refine awp_seq ?_
  refine awp_block ?_
  refine awp_for [0, 3] (fun s : Nat × List UInt8 => [.int .u64 (s.1 : Int), .str s.2]) (fun _ => H) (fun s => s.1) (fun s => s.1 < 18446744073709551616 ∧ Lib.decDigits n = Lib.decDigits s.1 ++ s.2) (n, []) rfl rfl ⟨hn, by simp⟩ fun s hs => ?_
  obtain ⟨m, t⟩ := s
  obtain ⟨hm, hd⟩ := hs
  simp only at hm hd ⊢
  have ht : t.length ≤ 20 := by
    have := congrArg List.length hd
    rw [List.length_append] at this; omega
  refine awp_seq ?_
  refine awp_seq ?_
  -- region 2
  refine awp_run rfl (by simp only [fwA, ↓reduceIte, Nat.reduceAdd, Nat.reduceMul, Nat.reduceEqDiff, Nat.reduceLT, Nat.reduceLeDiff, reduceCtorEq] <;> rfl) ?_
  refine awp_cond (by simp only [fwA, ↓reduceIte, Nat.reduceAdd, Nat.reduceMul, Nat.reduceEqDiff, Nat.reduceLT, Nat.reduceLeDiff, reduceCtorEq] <;> rfl) ?_
  by_cases hc : (9 : Int) < m
  rotate_left
  · simp only [hc, decide_false, Bool.false_eq_true, ↓reduceIte]
    refine awp_exit ?_
    simp only [Post.block, Post.then, ↓reduceIte]
    have hm9 : m < 10 := by omega
    refine awp_seq ?_
    -- region 5
    refine awp_region rfl ?_
    refine aops_run 4 (by simp only [fwA, ↓reduceIte, Nat.reduceAdd, Nat.reduceMul, Nat.reduceEqDiff, Nat.reduceLT, Nat.reduceLeDiff, reduceCtorEq, un89, un5, un92, ti5, un9, digit m hm9] <;> rfl) ?_
    refine aops_one rfl (os_convBytes (l := [UInt8.ofNat (48 + m)]) (f := true) rfl un92 un5 un9 rfl ?_)
    refine aops_run 3 (by simp only [fwA, ↓reduceIte, Nat.reduceAdd, Nat.reduceMul, Nat.reduceEqDiff, Nat.reduceLT, Nat.reduceLeDiff, reduceCtorEq, show 0 + 1 + t.length ≤ 9223372036854775807 by omega] <;> rfl) ?_
    refine awp_ret ?_
    refine gives_end0 (.inl rfl) ?_
    rw [hd, Lib.decDigits_one hm9]
    rfl
  simp only [hc, decide_true, ↓reduceIte]
  refine awp_skip ?_
  have hm10 : ¬ m < 10 := by omega
  have e1 : IntKind.u8.wrap (IntKind.u64.wrap (48 + (m : Int).tmod 10)) = ((UInt8.ofNat (48 + m % 10)).toNat : Int) := digit (m % 10) (Nat.mod_lt _ (by decide))
  have e2 : (m : Int).tdiv 10 = ((m / 10 : Nat) : Int) := rfl
  refine awp_block ?_
  refine awp_seq ?_
  -- region 3
  refine awp_region rfl ?_
  refine aops_run 5 (by simp only [fwA, ↓reduceIte, Nat.reduceAdd, Nat.reduceMul, Nat.reduceEqDiff, Nat.reduceLT, Nat.reduceLeDiff, reduceCtorEq, un89, un5, un92, ti5, un9, e1, show ¬ ((10 : Int) = 0) by decide, ne_eq, not_false_eq_true, and_self] <;> rfl) ?_
  refine aops_one rfl (os_convBytes (l := [UInt8.ofNat (48 + m % 10)]) (f := true) rfl un92 un5 un9 rfl ?_)
  refine aops_run 3 (by simp only [fwA, ↓reduceIte, Nat.reduceAdd, Nat.reduceMul, Nat.reduceEqDiff, Nat.reduceLT, Nat.reduceLeDiff, reduceCtorEq, show 0 + 1 + t.length ≤ 9223372036854775807 by omega] <;> rfl) ?_
  -- region 4
  refine awp_run rfl (by simp only [fwA, ↓reduceIte, Nat.reduceAdd, Nat.reduceMul, Nat.reduceEqDiff, Nat.reduceLT, Nat.reduceLeDiff, reduceCtorEq, e2, wrapU (m / 10) (by omega), show ¬ ((10 : Int) = 0) by decide, ne_eq, not_false_eq_true, and_self] <;> rfl) ?_
  refine ⟨(m / 10, UInt8.ofNat (48 + m % 10) :: t), by simp only; omega, ⟨by simp only; omega, ?_⟩, rfl, rfl, rfl⟩
  simp only
  rw [hd, dec_step hm10]
  simp

/-- chancelref07.Name -/
theorem c51 (Γ : Nat → PV) (n : Int) (hn : I64 n) : Gives Tryz.prog Γ 51 [.int .i64 n] (.str (Lib.itoa n)) := by
  obtain ⟨h1, h2⟩ := hn
  refine fn_of_awp Tryz.func51 rfl (by simp [Tryz.f51]) rfl fun H => ?_
  refine awp_seq ?_
  -- region 0
  refine awp_run rfl (by simp only [fwA, ↓reduceIte, Nat.reduceAdd, Nat.reduceMul, Nat.reduceEqDiff, Nat.reduceLT, Nat.reduceLeDiff, reduceCtorEq] <;> rfl) ?_
  refine awp_seq ?_
  refine awp_seq ?_
  -- region 1
  refine awp_run rfl (by simp only [fwA, ↓reduceIte, Nat.reduceAdd, Nat.reduceMul, Nat.reduceEqDiff, Nat.reduceLT, Nat.reduceLeDiff, reduceCtorEq] <;> rfl) ?_
  refine awp_cond (by simp only [fwA, ↓reduceIte, Nat.reduceAdd, Nat.reduceMul, Nat.reduceEqDiff, Nat.reduceLT, Nat.reduceLeDiff, reduceCtorEq] <;> rfl) ?_
  by_cases hc : n < 0
  · simp only [hc, decide_true, ↓reduceIte]
    obtain ⟨m, rfl⟩ : ∃ m : Nat, n = -((m : Int) + 1) := ⟨(-n - 1).toNat, by omega⟩
    have hm : m < 9223372036854775808 := by omega
    have e1 : IntKind.i64.wrap (-((m : Int) + 1) + 1) = -(m : Int) := by
      rw [show -((m : Int) + 1) + 1 = -(m : Int) by omega]
      unfold IntKind.wrap
      have hb : IntKind.i64.bits = 64 := rfl
      have hsg : IntKind.i64.signed = true := rfl
      simp only [hb, hsg, Bool.true_and, decide_eq_true_eq]
      split <;> omega
    have e2 : IntKind.i64.wrap (0 - -(m : Int)) = m := by
      rw [show 0 - -(m : Int) = (m : Int) by omega]; exact wrapN m hm
    have e3 : IntKind.u64.wrap ((m : Int) + 1) = ((m + 1 : Nat) : Int) := wrapU (m + 1) (by omega)
    refine awp_seq ?_
    -- region 2
    refine awp_run rfl (by simp only [fwA, ↓reduceIte, Nat.reduceAdd, Nat.reduceMul, Nat.reduceEqDiff, Nat.reduceLT, Nat.reduceLeDiff, reduceCtorEq, un3, un89, e1, e2, wrapU m (by omega), e3] <;> rfl) ?_
    refine awp_seq ?_
    -- region 3
    refine awp_region rfl ?_
    refine aops_run 1 (by simp only [fwA, ↓reduceIte, Nat.reduceAdd, Nat.reduceMul, Nat.reduceEqDiff, Nat.reduceLT, Nat.reduceLeDiff, reduceCtorEq] <;> rfl) ?_
    refine aops_fn rfl rfl rfl en63 (c63 Γ (m + 1) (by omega)) ?_
    have hlen : (Lib.decDigits (m + 1)).length ≤ 20 := by rw [Lib.decDigits_length]; exact Lib.nDigits_le20 _ (by omega)
    refine aops_run 2 (by simp only [fwA, ↓reduceIte, Nat.reduceAdd, Nat.reduceMul, Nat.reduceEqDiff, Nat.reduceLT, Nat.reduceLeDiff, reduceCtorEq, show 0 + 1 + (Lib.decDigits (m + 1)).length ≤ 9223372036854775807 by omega] <;> rfl) ?_
    refine awp_ret ?_
    refine gives_end0 (.inl rfl) ?_
    rw [show -((m : Int) + 1) = -((m + 1 : Nat) : Int) by omega, Lib.itoa_neg _ (by omega)]
    rfl
  · simp only [hc, decide_false, Bool.false_eq_true, ↓reduceIte]
    obtain ⟨m, rfl⟩ : ∃ m : Nat, n = (m : Int) := ⟨n.toNat, by omega⟩
    refine awp_skip ?_
    refine awp_seq ?_
    -- region 4
    refine awp_region rfl ?_
    refine aops_run 2 (by simp only [fwA, ↓reduceIte, Nat.reduceAdd, Nat.reduceMul, Nat.reduceEqDiff, Nat.reduceLT, Nat.reduceLeDiff, reduceCtorEq, un3, un89, wrapU m (by omega)] <;> rfl) ?_
    refine aops_fn rfl rfl rfl en63 (c63 Γ m (by omega)) ?_
    refine aops_run 1 (by simp only [fwA, ↓reduceIte, Nat.reduceAdd, Nat.reduceMul, Nat.reduceEqDiff, Nat.reduceLT, Nat.reduceLeDiff, reduceCtorEq] <;> rfl) ?_
    refine awp_ret ?_
    refine gives_end0 (.inl rfl) ?_
    rw [Lib.itoa_nonneg]
    rfl

theorem atomT_len {names : List (List UInt8)} {B : Nat} (hB : ∀ s ∈ names, s.length ≤ B) {a : Int} (ha : I64 a) : (atomT names a).length ≤ B + 22 := by
  unfold atomT
  split
  · have := itoa_room ha
    rw [List.length_cons]; omega
  · rw [List.getD_eq_getElem?_getD]
    cases h : names[(-1 - a).toNat]? with
    | none => show 1 ≤ _; omega
    | some s => have := hB s (List.mem_of_getElem? h); show s.length ≤ _; omega
/-- atom.Text -/
theorem c28 (Γ : Nat → PV) (hΓ : Tab Γ) (names : List (List UInt8)) (a : Int) (ha : I64 a) : Gives Tryz.prog Γ 28 [.vec (names.map fun s => [.str s]) false, .int .i64 a] (.str (atomT names a)) := by
  refine fn_of_awp Tryz.func28 rfl (by simp [Tryz.f28]) rfl fun H => ?_
  have hit := itoa_room ha
  refine awp_seq ?_
  -- region 0
  refine awp_run rfl (by simp only [fwA, ↓reduceIte, Nat.reduceAdd, Nat.reduceMul, Nat.reduceEqDiff, Nat.reduceLT, Nat.reduceLeDiff, reduceCtorEq] <;> rfl) ?_
  refine awp_seq ?_
  refine awp_block ?_
  refine awp_seq ?_
  -- region 1
  refine awp_region rfl ?_
  refine aops_run 1 (by simp only [fwA, ↓reduceIte, Nat.reduceAdd, Nat.reduceMul, Nat.reduceEqDiff, Nat.reduceLT, Nat.reduceLeDiff, reduceCtorEq] <;> rfl) ?_
  refine aops_fn rfl rfl rfl en27 (c27 Γ a) ?_
  refine aops_run 2 (by simp only [fwA, ↓reduceIte, Nat.reduceAdd, Nat.reduceMul, Nat.reduceEqDiff, Nat.reduceLT, Nat.reduceLeDiff, reduceCtorEq] <;> rfl) ?_
  refine awp_cond (by simp only [fwA, ↓reduceIte, Nat.reduceAdd, Nat.reduceMul, Nat.reduceEqDiff, Nat.reduceLT, Nat.reduceLeDiff, reduceCtorEq] <;> rfl) ?_
  by_cases h0 : 0 ≤ a
  · have hn : ¬ a < 0 := by omega
    simp only [hn, decide_false, Bool.not_false, ↓reduceIte]
    refine awp_seq ?_
    -- region 2
    refine awp_region rfl ?_
    refine aops_run 1 (by simp only [fwA, ↓reduceIte, Nat.reduceAdd, Nat.reduceMul, Nat.reduceEqDiff, Nat.reduceLT, Nat.reduceLeDiff, reduceCtorEq] <;> rfl) ?_
    refine aops_fn rfl rfl rfl en50 (c50 Γ hΓ a ha) ?_
    refine aops_run 2 (by simp (disch := omega) only [fwA, ↓reduceIte, Nat.reduceAdd, Nat.reduceMul, Nat.reduceEqDiff, Nat.reduceLT, Nat.reduceLeDiff, reduceCtorEq, if_pos] <;> rfl) (awp_ret ?_)
    exact gives_end0 (.inl rfl) (by unfold atomT; rw [if_pos h0]; rfl)
  have hn : a < 0 := by omega
  simp only [hn, decide_true, Bool.not_true, Bool.false_eq_true, ↓reduceIte]
  have hp : pointOf a = -1 - a := by unfold pointOf; rw [if_neg h0]
  have hat : atomT names a = names.getD (-1 - a).toNat [63] := by unfold atomT; rw [if_neg h0]
  refine awp_vlen 0 rfl fun hlen => ?_
  rw [List.length_map] at hlen
  refine awp_seq ?_
  -- region 3
  refine awp_region rfl ?_
  refine aops_run 1 (by simp only [fwA, ↓reduceIte, Nat.reduceAdd, Nat.reduceMul, Nat.reduceEqDiff, Nat.reduceLT, Nat.reduceLeDiff, reduceCtorEq] <;> rfl) ?_
  refine aops_fn rfl rfl rfl en25 (c25 Γ a ha) ?_
  rw [hp]
  refine aops_run 4 (by simp only [fwA, ↓reduceIte, Nat.reduceAdd, Nat.reduceMul, Nat.reduceEqDiff, Nat.reduceLT, Nat.reduceLeDiff, reduceCtorEq, un25, List.length_map] <;> rfl) ?_
  refine awp_cond (by simp only [fwA, ↓reduceIte, Nat.reduceAdd, Nat.reduceMul, Nat.reduceEqDiff, Nat.reduceLT, Nat.reduceLeDiff, reduceCtorEq] <;> rfl) ?_
  by_cases hl : -1 - a < (names.length : Int)
  · simp only [hl, decide_true, ↓reduceIte]
    have hil : (-1 - a).toNat < names.length := by omega
    have gi : names[(-1 - a).toNat]? = some (names.getD (-1 - a).toNat [63]) := by rw [List.getD_eq_getElem?_getD, List.getElem?_eq_getElem hil]; rfl
    have hnn : 0 ≤ -1 - a := by omega
    refine awp_seq ?_
    -- region 4
    refine awp_region rfl ?_
    refine aops_run 2 (by simp only [fwA, ↓reduceIte, Nat.reduceAdd, Nat.reduceMul, Nat.reduceEqDiff, Nat.reduceLT, Nat.reduceLeDiff, reduceCtorEq] <;> rfl) ?_
    refine aops_fn rfl rfl rfl en25 (c25 Γ a ha) ?_
    rw [hp]
    refine aops_run 3 (by simp only [fwA, ↓reduceIte, Nat.reduceAdd, Nat.reduceMul, Nat.reduceEqDiff, Nat.reduceLT, Nat.reduceLeDiff, reduceCtorEq, el25, ti9, List.getElem?_map, gi, Option.map_some, hnn, List.length_cons, List.length_nil, true_and] <;> rfl) (awp_ret ?_)
    exact gives_end0 (.inl rfl) (by rw [hat]; rfl)
  simp only [hl, decide_false, Bool.false_eq_true, ↓reduceIte]
  refine awp_skip ?_
  simp only [Post.block, Post.then]
  refine awp_seq (awp_run rfl (by simp only [fwA, ↓reduceIte, Nat.reduceAdd, Nat.reduceMul, Nat.reduceEqDiff, Nat.reduceLT, Nat.reduceLeDiff, reduceCtorEq] <;> rfl) (awp_ret ?_))
  exact gives_end0 (.inl rfl) (by rw [hat, List.getD_eq_getElem?_getD, List.getElem?_eq_none (by omega)]; rfl)

/-- chancelref10.Text -/
theorem c29 (Γ : Nat → PV) (names : List (List UInt8)) (a : Int) (ha : I64 a) : Gives Tryz.prog Γ 29 [.vec (names.map fun s => [.str s]) false, .int .i64 a] (.str (atomT names a)) := by
  refine fn_of_awp Tryz.func29 rfl (by simp [Tryz.f29]) rfl fun H => ?_
  have hit := itoa_room ha
  refine awp_seq ?_
  -- region 0
  refine awp_run rfl (by simp only [fwA, ↓reduceIte, Nat.reduceAdd, Nat.reduceMul, Nat.reduceEqDiff, Nat.reduceLT, Nat.reduceLeDiff, reduceCtorEq] <;> rfl) ?_
  refine awp_seq ?_
  refine awp_seq ?_
  -- region 1
  refine awp_run rfl (by simp only [fwA, ↓reduceIte, Nat.reduceAdd, Nat.reduceMul, Nat.reduceEqDiff, Nat.reduceLT, Nat.reduceLeDiff, reduceCtorEq, ge_iff_le] <;> rfl) ?_
  refine awp_cond (by simp only [fwA, ↓reduceIte, Nat.reduceAdd, Nat.reduceMul, Nat.reduceEqDiff, Nat.reduceLT, Nat.reduceLeDiff, reduceCtorEq] <;> rfl) ?_
  by_cases h0 : 0 ≤ a
  · simp only [h0, decide_true, ↓reduceIte]
    refine awp_seq ?_
    -- region 2
    refine awp_region rfl ?_
    refine aops_run 1 (by simp only [fwA, ↓reduceIte, Nat.reduceAdd, Nat.reduceMul, Nat.reduceEqDiff, Nat.reduceLT, Nat.reduceLeDiff, reduceCtorEq] <;> rfl) ?_
    refine aops_fn rfl rfl rfl en51 (c51 Γ a ha) ?_
    refine aops_run 2 (by simp (disch := omega) only [fwA, ↓reduceIte, Nat.reduceAdd, Nat.reduceMul, Nat.reduceEqDiff, Nat.reduceLT, Nat.reduceLeDiff, reduceCtorEq, if_pos] <;> rfl) (awp_ret ?_)
    exact gives_end0 (.inl rfl) (by unfold atomT; rw [if_pos h0]; rfl)
  simp only [h0, decide_false, Bool.false_eq_true, ↓reduceIte]
  refine awp_skip ?_
  have hp : pointOf a = -1 - a := by unfold pointOf; rw [if_neg h0]
  have hat : atomT names a = names.getD (-1 - a).toNat [63] := by unfold atomT; rw [if_neg h0]
  refine awp_vlen 0 rfl fun hlen => ?_
  rw [List.length_map] at hlen
  refine awp_seq ?_
  refine awp_seq ?_
  -- region 3
  refine awp_region rfl ?_
  refine aops_run 1 (by simp only [fwA, ↓reduceIte, Nat.reduceAdd, Nat.reduceMul, Nat.reduceEqDiff, Nat.reduceLT, Nat.reduceLeDiff, reduceCtorEq] <;> rfl) ?_
  refine aops_fn rfl rfl rfl en26 (c26 Γ a ha) ?_
  rw [hp]
  refine aops_run 3 (by simp only [fwA, ↓reduceIte, Nat.reduceAdd, Nat.reduceMul, Nat.reduceEqDiff, Nat.reduceLT, Nat.reduceLeDiff, reduceCtorEq, un25, List.length_map] <;> rfl) ?_
  refine awp_cond (by simp only [fwA, ↓reduceIte, Nat.reduceAdd, Nat.reduceMul, Nat.reduceEqDiff, Nat.reduceLT, Nat.reduceLeDiff, reduceCtorEq] <;> rfl) ?_
  by_cases hl : -1 - a < (names.length : Int)
  · simp only [hl, decide_true, ↓reduceIte]
    have hil : (-1 - a).toNat < names.length := by omega
    have gi : names[(-1 - a).toNat]? = some (names.getD (-1 - a).toNat [63]) := by rw [List.getD_eq_getElem?_getD, List.getElem?_eq_getElem hil]; rfl
    have hnn : 0 ≤ -1 - a := by omega
    refine awp_seq ?_
    -- region 4
    refine awp_region rfl ?_
    refine aops_run 2 (by simp only [fwA, ↓reduceIte, Nat.reduceAdd, Nat.reduceMul, Nat.reduceEqDiff, Nat.reduceLT, Nat.reduceLeDiff, reduceCtorEq] <;> rfl) ?_
    refine aops_fn rfl rfl rfl en26 (c26 Γ a ha) ?_
    rw [hp]
    refine aops_run 3 (by simp only [fwA, ↓reduceIte, Nat.reduceAdd, Nat.reduceMul, Nat.reduceEqDiff, Nat.reduceLT, Nat.reduceLeDiff, reduceCtorEq, el25, ti9, List.getElem?_map, gi, Option.map_some, hnn, List.length_cons, List.length_nil, true_and] <;> rfl) (awp_ret ?_)
    exact gives_end0 (.inl rfl) (by rw [hat]; rfl)
  simp only [hl, decide_false, Bool.false_eq_true, ↓reduceIte]
  refine awp_skip ?_
  refine awp_seq (awp_run rfl (by simp only [fwA, ↓reduceIte, Nat.reduceAdd, Nat.reduceMul, Nat.reduceEqDiff, Nat.reduceLT, Nat.reduceLeDiff, reduceCtorEq] <;> rfl) (awp_ret ?_))
  exact gives_end0 (.inl rfl) (by rw [hat, List.getD_eq_getElem?_getD, List.getElem?_eq_none (by omega)]; rfl)

end Go.Proofs.YtdacialfjlcboaaGreatDoor

/- The contract of slices.DeleteFunc, at pairs of two like atoms. -/
namespace Go.Proofs.YtdacialfjlcboaaGreatDoor
set_option linter.unusedVariables false
set_option linter.unusedSimpArgs false
set_option maxRecDepth 100000
open Go.RowKit Fw

def unl (p : Pr) : Bool := !like p

/-- A list in one's own row, behind the first n0 blocks, that stay. -/
def RowAt (H : List Blk) (n0 sz k : Nat) (cs : List PV) (p : PV) (H' : List Blk) : Prop := ∃ b, p = .row b 0 k sz ∧ H'[b]? = some (.row sz cs) ∧ n0 ≤ b ∧ H'.take n0 = H.take n0 ∧ H.length ≤ H'.length

theorem kept_step (l : List Pr) (i : Nat) (x : Pr) (h : l[i]? = some x) : (l.take (i + 1)).filter unl = (l.take i).filter unl ++ (if unl x then [x] else []) := by
  rw [List.take_add_one, h, List.filter_append]
  cases hu : unl x <;> simp [List.filter_cons, hu]

theorem kept_le (l : List Pr) (i : Nat) : ((l.take i).filter unl).length ≤ i := by
  have := List.length_filter_le unl (l.take i)
  rw [List.length_take] at this
  omega

set_option maxHeartbeats 1000000 in
/- slices.DeleteFunc[[]chancel/atom.Pair,chancel/atom.Pair] -/
theorem c38 (Γ : Nat → PV) (H : List Blk) (n0 b : Nat) (l : List Pr) (hn0 : n0 ≤ b) (hb : H[b]? = some (.row 2 ((l.map Pr.enc).flatten))) (hbl : l.length ≤ 1000000000000) :
    ACalls Tryz.prog Γ 38 [.row b 0 l.length 2, .func (.func 40) [] []] H (RowAt H n0 2 (l.filter unl).length (((l.filter unl).map Pr.enc).flatten)) := by
  refine acalls_of_awp Tryz.func38 rfl (by simp [Tryz.f38]) fun hbd => ?_
  have hbH : b < H.length := (List.getElem?_eq_some_iff.1 hb).1
  refine awp_seq ?_
  refine awp_run rfl (by simp only [fwA, ↓reduceIte, Nat.reduceAdd, Nat.reduceMul, Nat.reduceEqDiff, Nat.reduceLT, Nat.reduceLeDiff, reduceCtorEq] <;> rfl) ?_
  refine awp_seq ?_
  refine awp_region rfl ?_
  refine aops_run 2 (by simp only [fwA, ↓reduceIte, Nat.reduceAdd, Nat.reduceMul, Nat.reduceEqDiff, Nat.reduceLT, Nat.reduceLeDiff, reduceCtorEq] <;> rfl) ?_
  refine aops_call rfl rfl rfl en57 ((c57 Γ H b l hb hbl).mono fun p H' hp => ?_)
  obtain ⟨hf, e⟩ := hp
  rw [e]
  clear e H'
  obtain ⟨rfl, hall⟩ | ⟨i0, hi0, rfl, hlk, hbef⟩ := hf
  · refine aops_run 1 (by simp only [fwA, ↓reduceIte, Nat.reduceAdd, Nat.reduceMul, Nat.reduceEqDiff, Nat.reduceLT, Nat.reduceLeDiff, reduceCtorEq] <;> rfl) ?_
    refine awp_seq ?_
    refine awp_seq ?_
    refine awp_run rfl (by simp only [fwA, ↓reduceIte, Nat.reduceAdd, Nat.reduceMul, Nat.reduceEqDiff, Nat.reduceLT, Nat.reduceLeDiff, reduceCtorEq] <;> rfl) ?_
    refine awp_cond (by simp only [fwA, ↓reduceIte, Nat.reduceAdd, Nat.reduceMul, Nat.reduceEqDiff, Nat.reduceLT, Nat.reduceLeDiff, reduceCtorEq] <;> rfl) ?_
    simp only [decide_true, ↓reduceIte]
    refine awp_seq ?_
    refine awp_run rfl (by simp only [fwA, ↓reduceIte, Nat.reduceAdd, Nat.reduceMul, Nat.reduceEqDiff, Nat.reduceLT, Nat.reduceLeDiff, reduceCtorEq] <;> rfl) ?_
    refine awp_ret ?_
    have hfl : l.filter unl = l := List.filter_eq_self.2 fun x hx => by unfold unl; rw [hall x hx]; rfl
    exact calls_end0 (p := .row b 0 l.length 2) (.inl rfl) hbd rfl (by simp [PV.bd]; omega) ⟨b, by rw [hfl], by rw [hfl]; exact hb, hn0, rfl, Nat.le_refl _⟩
  have hm1 : ¬ ((i0 : Int) = -1) := by omega
  refine aops_run 1 (by simp only [fwA, ↓reduceIte, Nat.reduceAdd, Nat.reduceMul, Nat.reduceEqDiff, Nat.reduceLT, Nat.reduceLeDiff, reduceCtorEq] <;> rfl) ?_
  refine awp_seq ?_
  refine awp_seq ?_
  refine awp_run rfl (by simp only [fwA, ↓reduceIte, Nat.reduceAdd, Nat.reduceMul, Nat.reduceEqDiff, Nat.reduceLT, Nat.reduceLeDiff, reduceCtorEq] <;> rfl) ?_
  refine awp_cond (by simp only [fwA, ↓reduceIte, Nat.reduceAdd, Nat.reduceMul, Nat.reduceEqDiff, Nat.reduceLT, Nat.reduceLeDiff, reduceCtorEq] <;> rfl) ?_
  simp only [hm1, decide_false, Bool.false_eq_true, ↓reduceIte]
  refine awp_skip ?_
  refine awp_seq ?_
  refine awp_seq ?_
  refine awp_run rfl (by simp only [fwA, ↓reduceIte, Nat.reduceAdd, Nat.reduceMul, Nat.reduceEqDiff, Nat.reduceLT, Nat.reduceLeDiff, reduceCtorEq] <;> rfl) ?_
  refine awp_block ?_
  have hk0 : (l.take (i0 + 1)).filter unl = l.take i0 := by
    rw [kept_step l i0 _ (List.getElem?_eq_getElem hi0), show unl l[i0] = false by unfold unl; rw [hlk _ (List.getElem?_eq_getElem hi0)]; rfl]
    simp only [Bool.false_eq_true, ↓reduceIte, List.append_nil]
    refine List.filter_eq_self.2 fun x hx => ?_
    obtain ⟨j, hj⟩ := List.getElem?_of_mem hx
    have hj2 := (List.getElem?_eq_some_iff.1 hj).1
    rw [List.length_take] at hj2
    rw [List.getElem?_take_of_lt (by omega)] at hj
    unfold unl
    rw [hbef j x (by omega) hj]; rfl
  have hset : ∀ arr : List Pr, (H.set b (.row 2 ((arr.map Pr.enc).flatten)))[b]? = some (.row 2 ((arr.map Pr.enc).flatten)) := fun arr => List.getElem?_set_self hbH
  refine awp_forG [0, 1, 5, 6] (fun s : Nat × List Pr => [.row b 0 l.length 2, .func (.func 40) [] [], .int .i64 (((l.take s.1).filter unl).length : Int), .int .i64 (s.1 : Int)])
    (fun s => H.set b (.row 2 ((s.2.map Pr.enc).flatten))) (fun s => l.length - s.1)
    (fun s => s.1 ≤ l.length ∧ s.2.length = l.length ∧ s.2.drop s.1 = l.drop s.1 ∧ s.2.take ((l.take s.1).filter unl).length = (l.take s.1).filter unl) (i0 + 1, l) ?_ ?_
    ⟨hi0, rfl, rfl, by rw [hk0, List.length_take, Nat.min_eq_left (by omega)]⟩ (fun s hs => ⟨fun B hB => ?_, by simp [PV.bdL, PV.bd]; omega⟩) (fun s hs q hq => by cases hq) fun s hs => ?_
  · simp only [fwA, ↓reduceIte, Nat.reduceAdd, Nat.reduceMul, Nat.reduceEqDiff, Nat.reduceLT, Nat.reduceLeDiff, reduceCtorEq, List.map_cons, List.map_nil, wrapS i0 (by omega), hk0, List.length_take, Nat.min_eq_left (Nat.le_of_lt hi0)]
  · obtain ⟨_, g2⟩ := List.getElem?_eq_some_iff.1 hb
    show H = H.set b _
    rw [← g2]; exact (List.set_getElem_self _).symm
  · rw [List.length_set]
    rcases List.mem_or_eq_of_mem_set hB with h | rfl
    · exact hbd B h
    · exact flat_bd (fun _ => rfl) _
  obtain ⟨i, arr⟩ := s
  obtain ⟨hin, hal, hdr, htk⟩ := hs
  simp only at hin hal hdr htk ⊢
  have hH := hset arr
  refine awp_seq ?_
  refine awp_seq ?_
  refine awp_run rfl (by simp only [fwA, ↓reduceIte, Nat.reduceAdd, Nat.reduceMul, Nat.reduceEqDiff, Nat.reduceLT, Nat.reduceLeDiff, reduceCtorEq, un22] <;> rfl) ?_
  refine awp_cond (by simp only [fwA, ↓reduceIte, Nat.reduceAdd, Nat.reduceMul, Nat.reduceEqDiff, Nat.reduceLT, Nat.reduceLeDiff, reduceCtorEq] <;> rfl) ?_
  by_cases hc : (i : Int) < l.length
  rotate_left
  · have e : i = l.length := by omega
    subst e
    rw [List.take_length] at htk
    have hjl : (l.filter unl).length ≤ l.length := List.length_filter_le _ _
    simp only [hc, decide_false, Bool.false_eq_true, ↓reduceIte]
    refine awp_exit ?_
    refine awp_seq ?_
    refine awp_region rfl ?_
    refine aops_run 2 (by simp only [fwA, ↓reduceIte, Nat.reduceAdd, Nat.reduceMul, Nat.reduceEqDiff, Nat.reduceLT, Nat.reduceLeDiff, reduceCtorEq, List.take_length] <;> rfl) ?_
    refine aops_one rfl (os_sliceSuf rfl el22 rfl rfl hjl hH (by rw [flat_len Pr.enc_len]; omega) ?_)
    refine aops_one rfl (os_clearRow rfl un22 ti53 rfl hH (by rw [flat_len Pr.enc_len, hal]; show _ = 0 + _ * 2 + (l.length - _) * 2; omega) ?_)
    have hkey : ∃ cs2, splice ((arr.map Pr.enc).flatten) (0 + (l.filter unl).length * 2) (List.replicate (l.length - (l.filter unl).length) [PV.int .i64 0, .int .i64 0]).flatten = cs2 ∧ cs2.length = 0 + l.length * 2 ∧ cs2.take (0 + (l.filter unl).length * 2) = ((l.filter unl).map Pr.enc).flatten := by
      have hcl : ((arr.map Pr.enc).flatten).length = l.length * 2 := by rw [flat_len Pr.enc_len, hal]
      have hzl : ((List.replicate (l.length - (l.filter unl).length) [PV.int .i64 0, .int .i64 0]).flatten).length = (l.length - (l.filter unl).length) * 2 := by rw [rep_len]; rfl
      refine ⟨_, rfl, (splice_length (by rw [hcl, hzl]; omega)).trans (by omega), ?_⟩
      rw [Nat.zero_add, take_splice (by rw [hcl]; omega), flat_take Pr.enc_len, htk]
    obtain ⟨cs2, hk1, hk2, hk3⟩ := hkey
    refine aops_end ?_
    refine awp_heap (H' := H.set b (.row 2 cs2)) (by rw [List.set_set, ← hk1]) ?_
    refine awp_seq ?_
    refine awp_region rfl ?_
    refine aops_run 2 (by simp only [fwA, ↓reduceIte, Nat.reduceAdd, Nat.reduceMul, Nat.reduceEqDiff, Nat.reduceLT, Nat.reduceLeDiff, reduceCtorEq] <;> rfl) ?_
    refine aops_one rfl (os_slicePre rfl el22 rfl rfl hjl (List.getElem?_set_self hbH) hk2 ?_)
    rw [hk3]
    refine aops_run 1 (by simp only [fwA, ↓reduceIte, Nat.reduceAdd, Nat.reduceMul, Nat.reduceEqDiff, Nat.reduceLT, Nat.reduceLeDiff, reduceCtorEq] <;> rfl) ?_
    refine awp_bd fun hbd' => ?_
    refine awp_ret ?_
    refine calls_at (fn := Tryz.f38) (p := .row H.length 0 (l.filter unl).length 2) (.inl rfl) hbd' (by simp [ares, aresL, ares1, alook, Tryz.f38]) (by simp [PV.bd]) (by simp) ⟨H.length, rfl, ?_, by omega, ?_, by simp⟩
    · rw [List.getElem?_append_right (by simp)]; simp
    · rw [List.take_append_of_le_length (by simp; omega), List.take_set_of_le hn0, List.take_set_of_le hn0]
  have hil : i < l.length := by omega
  have hx : l[i]? = some l[i] := List.getElem?_eq_getElem hil
  have hax : arr[i]? = some l[i] := by
    have := congrArg (·[0]?) hdr
    simp only [List.getElem?_drop, Nat.add_zero] at this
    rw [this, hx]
  have hHl : b < (H.set b (.row 2 ((arr.map Pr.enc).flatten))).length := by rw [List.length_set]; exact hbH
  have hHs : ∀ B, (H.set b (.row 2 ((arr.map Pr.enc).flatten))).set b B = H.set b B := fun B => List.set_set ..
  have hHd := hHs (.row 2 ((arr.map Pr.enc).flatten))
  generalize hgen : H.set b (.row 2 ((arr.map Pr.enc).flatten)) = Hr at hH hHl hHs hHd ⊢
  simp only [hc, decide_true, ↓reduceIte]
  refine awp_skip ?_
  refine awp_seq ?_
  refine awp_block ?_
  refine awp_seq ?_
  refine awp_region rfl ?_
  refine aops_run 2 (by simp only [fwA, ↓reduceIte, Nat.reduceAdd, Nat.reduceMul, Nat.reduceEqDiff, Nat.reduceLT, Nat.reduceLeDiff, reduceCtorEq] <;> rfl) ?_
  refine aops_one rfl (os_idxRow Pr.enc_len rfl el22 rfl rfl hH (by omega) hil ?_)
  refine aops_one rfl (os_loadRow Pr.enc_len rfl ti53 rfl hH (by omega) (by rw [hal]) hax rfl (by rw [if_pos rfl]) ?_)
  refine aops_run 2 (by simp only [fwA, ↓reduceIte, Nat.reduceAdd, Nat.reduceMul, Nat.reduceEqDiff, Nat.reduceLT, Nat.reduceLeDiff, reduceCtorEq, ti53, Pr.fw] <;> rfl) ?_
  refine aops_end ?_
  have hH3 : ∀ L : List Blk, (Hr ++ L)[b]? = some (.row 2 ((arr.map Pr.enc).flatten)) := fun L => get_old L hH
  refine awp_seq ?_
  refine awp_region rfl ?_
  refine aops_run 2 (by simp only [fwA, ↓reduceIte, Nat.reduceAdd, Nat.reduceMul, Nat.reduceEqDiff, Nat.reduceLT, Nat.reduceLeDiff, reduceCtorEq, ti53, Pr.fw] <;> rfl) ?_
  refine aops_fn rfl rfl rfl en40 (c40 Γ l[i]) ?_
  refine aops_run 1 (by simp only [fwA, ↓reduceIte, Nat.reduceAdd, Nat.reduceMul, Nat.reduceEqDiff, Nat.reduceLT, Nat.reduceLeDiff, reduceCtorEq] <;> rfl) ?_
  refine awp_cond (by simp only [fwA, ↓reduceIte, Nat.reduceAdd, Nat.reduceMul, Nat.reduceEqDiff, Nat.reduceLT, Nat.reduceLeDiff, reduceCtorEq] <;> rfl) ?_
  have hks := kept_step l i _ hx
  cases hu : like l[i] with
  | true =>
    simp only [Bool.not_true, Bool.false_eq_true, ↓reduceIte]
    rw [show unl l[i] = false by unfold unl; rw [hu]; rfl] at hks
    simp only [Bool.false_eq_true, ↓reduceIte, List.append_nil] at hks
    refine awp_skip ?_
    refine awp_run rfl (by simp only [fwA, ↓reduceIte, Nat.reduceAdd, Nat.reduceMul, Nat.reduceEqDiff, Nat.reduceLT, Nat.reduceLeDiff, reduceCtorEq] <;> rfl) ?_
    refine ⟨(i + 1, arr), [.box l[i].enc], by show l.length - (i + 1) < l.length - i; omega, ⟨hil, hal, ?_, by rw [hks]; exact htk⟩, ?_, by rw [hgen], rfl, by rw [hgen]; exact Nat.le_refl _⟩
    · have := congrArg (List.drop 1) hdr
      simpa [List.drop_drop, Nat.add_comm] using this
    · simp only [fwA, ↓reduceIte, Nat.reduceAdd, Nat.reduceMul, Nat.reduceEqDiff, Nat.reduceLT, Nat.reduceLeDiff, reduceCtorEq, List.map_cons, List.map_nil, wrapS i (by omega), hks]
  | false =>
    simp only [Bool.not_false, ↓reduceIte]
    rw [show unl l[i] = true by unfold unl; rw [hu]; rfl] at hks
    simp only [↓reduceIte] at hks
    have hkl := kept_le l i
    refine awp_seq ?_
    refine awp_region rfl ?_
    refine aops_run 3 (by simp only [fwA, ↓reduceIte, Nat.reduceAdd, Nat.reduceMul, Nat.reduceEqDiff, Nat.reduceLT, Nat.reduceLeDiff, reduceCtorEq, ti53, Pr.fw] <;> rfl) ?_
    refine aops_one rfl (os_idxRow Pr.enc_len rfl el22 rfl rfl (hH3 _) (by omega) (by omega) ?_)
    refine aops_one rfl (os_putRow Pr.enc_len rfl ti53 rfl (hH3 _) (Nat.zero_add _) (by rw [hal]) (by omega) rfl rfl rfl (by omega) ?_)
    refine aops_end ?_
    refine awp_run rfl (by simp only [fwA, ↓reduceIte, Nat.reduceAdd, Nat.reduceMul, Nat.reduceEqDiff, Nat.reduceLT, Nat.reduceLeDiff, reduceCtorEq] <;> rfl) ?_
    refine awp_run rfl (by simp only [fwA, ↓reduceIte, Nat.reduceAdd, Nat.reduceMul, Nat.reduceEqDiff, Nat.reduceLT, Nat.reduceLeDiff, reduceCtorEq] <;> rfl) ?_
    refine ⟨(i + 1, arr.set ((l.take i).filter unl).length l[i]), [.box l[i].enc], by show l.length - (i + 1) < l.length - i; omega, ⟨hil, by rw [List.length_set]; exact hal, ?_, ?_⟩, ?_, ?_, rfl, by rw [← hgen, List.length_set, List.length_set]; exact Nat.le_refl _⟩
    · rw [List.drop_set_of_lt (by omega)]
      have := congrArg (List.drop 1) hdr
      simpa [List.drop_drop, Nat.add_comm] using this
    · show (arr.set _ _).take _ = _
      rw [hks, List.length_append, show [l[i]].length = 1 from rfl, List.take_add_one, List.take_set_of_le (Nat.le_refl _), htk, List.getElem?_set_self (by omega)]
      rfl
    · simp only [fwA, ↓reduceIte, Nat.reduceAdd, Nat.reduceMul, Nat.reduceEqDiff, Nat.reduceLT, Nat.reduceLeDiff, reduceCtorEq, List.map_cons, List.map_nil, wrapS i (by omega), hks, List.length_append, List.length_cons, List.length_nil, Nat.zero_add, wrapS _ (show ((l.take i).filter unl).length + 1 < 9223372036854775808 by omega)]
    · rw [List.set_append_left _ _ hHl, hHs]

end Go.Proofs.YtdacialfjlcboaaGreatDoor

/- The contract of slices.Compact, at pairs. -/
namespace Go.Proofs.YtdacialfjlcboaaGreatDoor
set_option linter.unusedVariables false
set_option linter.unusedSimpArgs false
set_option maxRecDepth 100000
open Go.RowKit Fw

/-- What is left of the first i elements, each that is like the one before it left out. -/
def cpt {X : Type} [DecidableEq X] (l : List X) : Nat → List X
  | 0 => []
  | i + 1 => cpt l i ++ (match l[i]? with | none => [] | some x => if 0 < i ∧ l[i - 1]? = some x then [] else [x])

section
variable {X : Type} [DecidableEq X]
theorem cpt_dup {l : List X} {i : Nat} {x : X} (h0 : 0 < i) (h : l[i]? = some x) (h1 : l[i - 1]? = some x) : cpt l (i + 1) = cpt l i := by
  simp only [cpt, h]; rw [if_pos ⟨h0, h1⟩, List.append_nil]
theorem cpt_new {l : List X} {i : Nat} {x : X} (h : l[i]? = some x) (h1 : 0 < i → l[i - 1]? ≠ some x) : cpt l (i + 1) = cpt l i ++ [x] := by
  simp only [cpt, h]; rw [if_neg fun e => h1 e.1 e.2]
theorem cpt_le (l : List X) : ∀ i, (cpt l i).length ≤ i
  | 0 => Nat.le_refl _
  | i + 1 => by
    have := cpt_le l i
    rw [cpt, List.length_append]
    split
    · simp; omega
    · split <;> simp <;> omega
theorem cpt_one {l : List X} (h : l.length < 2) : cpt l l.length = l := by
  match l, h with
  | [], _ => rfl
  | [x], _ => simp [cpt]
end

theorem prDec (x y : Pr) : (decide (x.a = y.a) && (decide (x.b = y.b) && true)) = decide (x = y) := by
  cases x; cases y
  simp only [Pr.mk.injEq, Bool.decide_and, Bool.and_true]

set_option maxHeartbeats 1000000 in
/- slices.Compact, pairs -/
theorem c43 (Γ : Nat → PV) (H : List Blk) (n0 b : Nat) (l : List Pr) (hn0 : n0 ≤ b) (hb : H[b]? = some (.row 2 ((l.map Pr.enc).flatten))) (hbl : l.length ≤ 1000000000000) :
    ACalls Tryz.prog Γ 43 [.row b 0 l.length 2] H (RowAt H n0 2 (cpt l l.length).length (((cpt l l.length).map Pr.enc).flatten)) := by
  refine acalls_of_awp Tryz.func43 rfl (by simp [Tryz.f43]) fun hbd => ?_
  have hbH : b < H.length := (List.getElem?_eq_some_iff.1 hb).1
  refine awp_seq ?_
  refine awp_run rfl (by simp only [fwA, ↓reduceIte, Nat.reduceAdd, Nat.reduceMul, Nat.reduceEqDiff, Nat.reduceLT, Nat.reduceLeDiff, reduceCtorEq] <;> rfl) ?_
  refine awp_seq ?_
  refine awp_seq ?_
  refine awp_run rfl (by simp only [fwA, ↓reduceIte, Nat.reduceAdd, Nat.reduceMul, Nat.reduceEqDiff, Nat.reduceLT, Nat.reduceLeDiff, reduceCtorEq, un22] <;> rfl) ?_
  refine awp_cond (by simp only [fwA, ↓reduceIte, Nat.reduceAdd, Nat.reduceMul, Nat.reduceEqDiff, Nat.reduceLT, Nat.reduceLeDiff, reduceCtorEq] <;> rfl) ?_
  by_cases h2 : (l.length : Int) < 2
  · simp only [h2, decide_true, ↓reduceIte]
    refine awp_seq ?_
    refine awp_run rfl (by simp only [fwA, ↓reduceIte, Nat.reduceAdd, Nat.reduceMul, Nat.reduceEqDiff, Nat.reduceLT, Nat.reduceLeDiff, reduceCtorEq] <;> rfl) ?_
    refine awp_ret ?_
    have hfl : cpt l l.length = l := cpt_one (by omega)
    exact calls_end0 (p := .row b 0 l.length 2) (.inl rfl) hbd rfl (by simp [PV.bd]; omega) ⟨b, by rw [hfl], by rw [hfl]; exact hb, hn0, rfl, Nat.le_refl _⟩
  simp only [h2, decide_false, Bool.false_eq_true, ↓reduceIte]
  refine awp_skip ?_
  refine awp_seq ?_
  refine awp_seq ?_
  refine awp_run rfl (by simp only [fwA, ↓reduceIte, Nat.reduceAdd, Nat.reduceMul, Nat.reduceEqDiff, Nat.reduceLT, Nat.reduceLeDiff, reduceCtorEq] <;> rfl) ?_
  refine awp_block ?_
  have h1 : cpt l 1 = l.take 1 := by
    obtain ⟨x, hx⟩ : ∃ x, l[0]? = some x := ⟨_, List.getElem?_eq_getElem (by omega)⟩
    rw [cpt_new hx (fun h => by omega), List.take_add_one, hx]; rfl
  refine awp_for [0, 3] (fun k : Nat => [.row b 0 l.length 2, .int .i64 (k : Int)]) (fun _ => H) (fun k => l.length - k) (fun k => 0 < k ∧ k ≤ l.length ∧ cpt l k = l.take k) 1 rfl rfl ⟨by omega, by omega, h1⟩ fun k hk => ?_
  obtain ⟨hk0, hkl, hkc⟩ := hk
  refine awp_seq ?_
  refine awp_seq ?_
  refine awp_run rfl (by simp only [fwA, ↓reduceIte, Nat.reduceAdd, Nat.reduceMul, Nat.reduceEqDiff, Nat.reduceLT, Nat.reduceLeDiff, reduceCtorEq, un22] <;> rfl) ?_
  refine awp_cond (by simp only [fwA, ↓reduceIte, Nat.reduceAdd, Nat.reduceMul, Nat.reduceEqDiff, Nat.reduceLT, Nat.reduceLeDiff, reduceCtorEq] <;> rfl) ?_
  by_cases hc : (k : Int) < l.length
  rotate_left
  · simp only [hc, decide_false, Bool.false_eq_true, ↓reduceIte]
    refine awp_exit ?_
    refine awp_seq ?_
    refine awp_run rfl (by simp only [fwA, ↓reduceIte, Nat.reduceAdd, Nat.reduceMul, Nat.reduceEqDiff, Nat.reduceLT, Nat.reduceLeDiff, reduceCtorEq] <;> rfl) ?_
    refine awp_ret ?_
    have e : k = l.length := by omega
    subst e
    rw [List.take_length] at hkc
    exact calls_end0 (fn := Tryz.f43) (R := RowAt H n0 2 (cpt l l.length).length (((cpt l l.length).map Pr.enc).flatten)) (p := .row b 0 l.length 2) (.inl rfl) hbd rfl (by simp [PV.bd]; omega) ⟨b, by rw [hkc], by rw [hkc]; exact hb, hn0, rfl, Nat.le_refl _⟩
  simp only [hc, decide_true, ↓reduceIte]
  have hil : k < l.length := by omega
  have hx : l[k]? = some l[k] := List.getElem?_eq_getElem hil
  have hx1 : l[k - 1]? = some l[k - 1] := List.getElem?_eq_getElem (by omega)
  have hsub : IntKind.i64.wrap ((k : Int) - 1) = ((k - 1 : Nat) : Int) := by rw [wrapId ⟨by omega, by omega⟩]; omega
  refine awp_skip ?_
  refine awp_seq ?_
  refine awp_block ?_
  refine awp_seq ?_
  refine awp_drawn [0, 0, 1, 1, 0, 0, 0, 1, 1, 0] [0, 0, 3, 7, 0, 0, 32, 112, 240, 511] mixed rfl (by kernel_rfl) ?_
  refine dops_run 2 (by simp only [fwA, ↓reduceIte, Nat.reduceAdd, Nat.reduceMul, Nat.reduceEqDiff, Nat.reduceLT, Nat.reduceLeDiff, reduceCtorEq] <;> rfl) ?_
  refine dops_idxRow Pr.enc_len rfl rfl rfl el22 rfl rfl hb (by omega) hil ?_
  refine dops_loadRow (.agg l[k].enc) Pr.enc_len rfl rfl rfl ti53 rfl hb (by omega) rfl hx rfl (by rw [if_pos rfl]) ?_
  refine dops_run 3 (by simp only [fwA, ↓reduceIte, Nat.reduceAdd, Nat.reduceMul, Nat.reduceEqDiff, Nat.reduceLT, Nat.reduceLeDiff, reduceCtorEq, hsub] <;> rfl) ?_
  refine dops_idxRow (i := k - 1) Pr.enc_len rfl rfl rfl el22 rfl rfl hb (by omega) (by omega) ?_
  refine dops_loadRow (.agg l[k - 1].enc) Pr.enc_len rfl rfl rfl ti53 rfl hb (by omega) rfl hx1 rfl (by rw [if_pos rfl]) ?_
  refine dops_run 1 (by simp only [fwA, ↓reduceIte, Nat.reduceAdd, Nat.reduceMul, Nat.reduceEqDiff, Nat.reduceLT, Nat.reduceLeDiff, reduceCtorEq, eq53, Pr.fw] <;> rfl) ?_
  refine dops_end ?_
  refine awp_cond (by simp only [fwA, ↓reduceIte, Nat.reduceAdd, Nat.reduceMul, Nat.reduceEqDiff, Nat.reduceLT, Nat.reduceLeDiff, reduceCtorEq] <;> rfl) ?_
  have hdec : (decide (l[k].a = l[k - 1].a) && (decide (l[k].b = l[k - 1].b) && true)) = decide (l[k] = l[k - 1]) := prDec _ _
  rw [hdec]
  by_cases he : l[k] = l[k - 1]
  rotate_left
  · simp only [he, decide_false, Bool.false_eq_true, ↓reduceIte]
    refine awp_skip ?_
    refine awp_run rfl (by simp only [fwA, ↓reduceIte, Nat.reduceAdd, Nat.reduceMul, Nat.reduceEqDiff, Nat.reduceLT, Nat.reduceLeDiff, reduceCtorEq] <;> rfl) ?_
    refine ⟨k + 1, by omega, ⟨by omega, hil, ?_⟩, ?_, rfl, rfl⟩
    · rw [cpt_new hx (fun _ e => he (by rw [hx1] at e; exact (Option.some.inj e).symm)), hkc, List.take_add_one, hx]; rfl
    · simp only [fwA, ↓reduceIte, Nat.reduceAdd, Nat.reduceMul, Nat.reduceEqDiff, Nat.reduceLT, Nat.reduceLeDiff, reduceCtorEq, List.map_cons, List.map_nil, wrapS k (by omega)]
  simp only [he, decide_true, ↓reduceIte]
  refine awp_seq ?_
  refine awp_region rfl ?_
  refine aops_run 2 (by simp only [fwA, ↓reduceIte, Nat.reduceAdd, Nat.reduceMul, Nat.reduceEqDiff, Nat.reduceLT, Nat.reduceLeDiff, reduceCtorEq] <;> rfl) ?_
  refine aops_one rfl (os_sliceSuf rfl el22 rfl rfl hkl hb (by rw [flat_len Pr.enc_len]; omega) ?_)
  refine aops_run 1 (by simp only [fwA, ↓reduceIte, Nat.reduceAdd, Nat.reduceMul, Nat.reduceEqDiff, Nat.reduceLT, Nat.reduceLeDiff, reduceCtorEq] <;> rfl) ?_
  refine awp_seq ?_
  refine awp_seq ?_
  refine awp_run rfl (by simp only [fwA, ↓reduceIte, Nat.reduceAdd, Nat.reduceMul, Nat.reduceEqDiff, Nat.reduceLT, Nat.reduceLeDiff, reduceCtorEq] <;> rfl) ?_
  refine awp_block ?_
  have hck : cpt l (k + 1) = cpt l k := cpt_dup hk0 hx (by rw [hx1, he])
  have hck2 : (cpt l (k + 1)).length = k := by rw [hck, hkc, List.length_take]; omega
  have hset : ∀ arr : List Pr, (H.set b (.row 2 ((arr.map Pr.enc).flatten)))[b]? = some (.row 2 ((arr.map Pr.enc).flatten)) := fun arr => List.getElem?_set_self hbH
  refine awp_for [0, 3, 4, 5] (fun s : Nat × List Pr => [.row b 0 l.length 2, .int .i64 ((cpt l (k + s.1)).length : Int), .row b (0 + k * 2) (l.length - k) 2, .int .i64 (s.1 : Int)])
    (fun s => H.set b (.row 2 ((s.2.map Pr.enc).flatten))) (fun s => l.length - (k + s.1))
    (fun s => 0 < s.1 ∧ k + s.1 ≤ l.length ∧ s.2.length = l.length ∧ (cpt l (k + s.1)).length ≤ k + s.1 - 1 ∧ s.2.drop (k + s.1 - 1) = l.drop (k + s.1 - 1) ∧ s.2.take (cpt l (k + s.1)).length = cpt l (k + s.1)) (1, l) ?_ ?_
    ⟨by omega, by omega, rfl, by show (cpt l (k + 1)).length ≤ _; rw [hck2]; omega, rfl, by show l.take (cpt l (k + 1)).length = cpt l (k + 1); rw [hck2, hck, hkc]⟩ fun s hs => ?_
  · simp only [fwA, ↓reduceIte, Nat.reduceAdd, Nat.reduceMul, Nat.reduceEqDiff, Nat.reduceLT, Nat.reduceLeDiff, reduceCtorEq, List.map_cons, List.map_nil, hck2]; rfl
  · obtain ⟨_, g2⟩ := List.getElem?_eq_some_iff.1 hb
    show H = H.set b _
    rw [← g2]; exact (List.set_getElem_self _).symm
  obtain ⟨j, arr⟩ := s
  obtain ⟨hj0, hjn, hal, hcl, hdr, htk⟩ := hs
  simp only at hj0 hjn hal hcl hdr htk ⊢
  have hH := hset arr
  refine awp_seq ?_
  refine awp_seq ?_
  refine awp_run rfl (by simp only [fwA, ↓reduceIte, Nat.reduceAdd, Nat.reduceMul, Nat.reduceEqDiff, Nat.reduceLT, Nat.reduceLeDiff, reduceCtorEq, un22] <;> rfl) ?_
  refine awp_cond (by simp only [fwA, ↓reduceIte, Nat.reduceAdd, Nat.reduceMul, Nat.reduceEqDiff, Nat.reduceLT, Nat.reduceLeDiff, reduceCtorEq] <;> rfl) ?_
  by_cases hc2 : (j : Int) < ((l.length - k : Nat) : Int)
  rotate_left
  · have e : k + j = l.length := by omega
    rw [e] at htk hcl
    have hjl : (cpt l l.length).length ≤ l.length := cpt_le _ _
    simp only [hc2, decide_false, Bool.false_eq_true, ↓reduceIte, e]
    refine awp_exit ?_
    refine awp_seq ?_
    refine awp_region rfl ?_
    refine aops_run 2 (by simp only [fwA, ↓reduceIte, Nat.reduceAdd, Nat.reduceMul, Nat.reduceEqDiff, Nat.reduceLT, Nat.reduceLeDiff, reduceCtorEq] <;> rfl) ?_
    refine aops_one rfl (os_sliceSuf rfl el22 rfl rfl hjl hH (by rw [flat_len Pr.enc_len]; omega) ?_)
    refine aops_one rfl (os_clearRow rfl un22 ti53 rfl hH (by rw [flat_len Pr.enc_len, hal]; show _ = 0 + _ * 2 + (l.length - _) * 2; omega) ?_)
    have hkey : ∃ cs2, splice ((arr.map Pr.enc).flatten) (0 + (cpt l l.length).length * 2) (List.replicate (l.length - (cpt l l.length).length) [PV.int .i64 0, .int .i64 0]).flatten = cs2 ∧ cs2.length = 0 + l.length * 2 ∧ cs2.take (0 + (cpt l l.length).length * 2) = ((cpt l l.length).map Pr.enc).flatten := by
      have hcl : ((arr.map Pr.enc).flatten).length = l.length * 2 := by rw [flat_len Pr.enc_len, hal]
      have hzl : ((List.replicate (l.length - (cpt l l.length).length) ([PV.int .i64 0, .int .i64 0] : List PV)).flatten).length = (l.length - (cpt l l.length).length) * 2 := by rw [rep_len]; rfl
      refine ⟨_, rfl, (splice_length (by rw [hcl, hzl]; omega)).trans (by omega), ?_⟩
      rw [Nat.zero_add, take_splice (by rw [hcl]; omega), flat_take Pr.enc_len, htk]
    obtain ⟨cs2, hk1, hk2, hk3⟩ := hkey
    refine aops_end ?_
    refine awp_heap (H' := H.set b (.row 2 cs2)) (by rw [List.set_set, ← hk1]) ?_
    refine awp_seq ?_
    refine awp_region rfl ?_
    refine aops_run 2 (by simp only [fwA, ↓reduceIte, Nat.reduceAdd, Nat.reduceMul, Nat.reduceEqDiff, Nat.reduceLT, Nat.reduceLeDiff, reduceCtorEq] <;> rfl) ?_
    refine aops_one rfl (os_slicePre rfl el22 rfl rfl hjl (List.getElem?_set_self hbH) hk2 ?_)
    rw [hk3]
    refine aops_run 1 (by simp only [fwA, ↓reduceIte, Nat.reduceAdd, Nat.reduceMul, Nat.reduceEqDiff, Nat.reduceLT, Nat.reduceLeDiff, reduceCtorEq] <;> rfl) ?_
    refine awp_bd fun hbd' => ?_
    refine awp_ret ?_
    refine calls_at (fn := Tryz.f43) (R := RowAt H n0 2 (cpt l l.length).length (((cpt l l.length).map Pr.enc).flatten)) (p := .row H.length 0 (cpt l l.length).length 2) (.inl rfl) hbd' (by simp [ares, aresL, ares1, alook, Tryz.f43]) (by simp [PV.bd]) (by simp) ⟨H.length, rfl, ?_, by omega, ?_, by simp⟩
    · rw [List.getElem?_append_right (by simp)]; simp
    · rw [List.take_append_of_le_length (by simp; omega), List.take_set_of_le hn0, List.take_set_of_le hn0]
  have hjl : k + j < l.length := by omega
  have hy : l[k + j]? = some l[k + j] := List.getElem?_eq_getElem hjl
  have hy1 : l[k + j - 1]? = some l[k + j - 1] := List.getElem?_eq_getElem (by omega)
  have hdr1 : arr.drop (k + j) = l.drop (k + j) := by
    have := congrArg (List.drop 1) hdr
    rw [List.drop_drop, List.drop_drop] at this
    rwa [show k + j - 1 + 1 = k + j by omega] at this
  have hay : arr[k + j]? = some l[k + j] := by
    have := congrArg (·[0]?) hdr1
    simp only [List.getElem?_drop, Nat.add_zero] at this
    rw [this, hy]
  have hay1 : arr[k + j - 1]? = some l[k + j - 1] := by
    have := congrArg (·[0]?) hdr
    simp only [List.getElem?_drop, Nat.add_zero] at this
    rw [this, hy1]
  have hHl : b < (H.set b (.row 2 ((arr.map Pr.enc).flatten))).length := by rw [List.length_set]; exact hbH
  have hHs : ∀ B, (H.set b (.row 2 ((arr.map Pr.enc).flatten))).set b B = H.set b B := fun B => List.set_set ..
  have hsub2 : IntKind.i64.wrap ((j : Int) - 1) = ((j - 1 : Nat) : Int) := by rw [wrapId ⟨by omega, by omega⟩]; omega
  simp only [hc2, decide_true, ↓reduceIte]
  refine awp_skip ?_
  refine awp_seq ?_
  refine awp_block ?_
  refine awp_seq ?_
  refine awp_drawn [0, 0, 1, 1, 0, 0, 0, 1, 1, 0] [0, 0, 3, 7, 0, 0, 32, 112, 240, 511] mixed rfl (by kernel_rfl) ?_
  refine dops_run 2 (by simp only [fwA, ↓reduceIte, Nat.reduceAdd, Nat.reduceMul, Nat.reduceEqDiff, Nat.reduceLT, Nat.reduceLeDiff, reduceCtorEq] <;> rfl) ?_
  refine dops_idxRow Pr.enc_len rfl rfl rfl el22 rfl rfl hH (by omega) (by omega) ?_
  refine dops_loadRow (i := k + j) (.agg l[k + j].enc) Pr.enc_len rfl rfl rfl ti53 rfl hH (by omega) (by rw [hal]) hay rfl (by rw [if_pos rfl]) ?_
  refine dops_run 3 (by simp only [fwA, ↓reduceIte, Nat.reduceAdd, Nat.reduceMul, Nat.reduceEqDiff, Nat.reduceLT, Nat.reduceLeDiff, reduceCtorEq, hsub2] <;> rfl) ?_
  refine dops_idxRow (i := j - 1) Pr.enc_len rfl rfl rfl el22 rfl rfl hH (by omega) (by omega) ?_
  refine dops_loadRow (i := k + j - 1) (.agg l[k + j - 1].enc) Pr.enc_len rfl rfl rfl ti53 rfl hH (by omega) (by rw [hal]) hay1 rfl (by rw [if_pos rfl]) ?_
  refine dops_run 1 (by simp only [fwA, ↓reduceIte, Nat.reduceAdd, Nat.reduceMul, Nat.reduceEqDiff, Nat.reduceLT, Nat.reduceLeDiff, reduceCtorEq, eq53, Pr.fw] <;> rfl) ?_
  refine dops_end ?_
  refine awp_cond (by simp only [fwA, ↓reduceIte, Nat.reduceAdd, Nat.reduceMul, Nat.reduceEqDiff, Nat.reduceLT, Nat.reduceLeDiff, reduceCtorEq] <;> rfl) ?_
  have hdec2 : (decide (l[k + j].a = l[k + j - 1].a) && (decide (l[k + j].b = l[k + j - 1].b) && true)) = decide (l[k + j] = l[k + j - 1]) := prDec _ _
  rw [hdec2]
  by_cases he2 : l[k + j] = l[k + j - 1]
  · simp only [he2, decide_true, Bool.not_true, Bool.false_eq_true, ↓reduceIte]
    refine awp_skip ?_
    refine awp_run rfl (by simp only [fwA, ↓reduceIte, Nat.reduceAdd, Nat.reduceMul, Nat.reduceEqDiff, Nat.reduceLT, Nat.reduceLeDiff, reduceCtorEq] <;> rfl) ?_
    have hcd : cpt l (k + (j + 1)) = cpt l (k + j) := cpt_dup (i := k + j) (by omega) hy (by rw [hy1, he2])
    refine ⟨(j + 1, arr), by show l.length - (k + (j + 1)) < l.length - (k + j); omega, ⟨by omega, by omega, hal, by show (cpt l (k + (j + 1))).length ≤ _; rw [hcd]; omega, hdr1, by show arr.take (cpt l (k + (j + 1))).length = _; rw [hcd]; exact htk⟩, ?_, rfl, rfl⟩
    simp only [fwA, ↓reduceIte, Nat.reduceAdd, Nat.reduceMul, Nat.reduceEqDiff, Nat.reduceLT, Nat.reduceLeDiff, reduceCtorEq, List.map_cons, List.map_nil, wrapS j (by omega), hcd]
  simp only [he2, decide_false, Bool.not_false, ↓reduceIte]
  refine awp_seq ?_
  refine awp_region rfl ?_
  refine aops_run 4 (by simp only [fwA, ↓reduceIte, Nat.reduceAdd, Nat.reduceMul, Nat.reduceEqDiff, Nat.reduceLT, Nat.reduceLeDiff, reduceCtorEq] <;> rfl) ?_
  refine aops_one rfl (os_idxRow Pr.enc_len rfl el22 rfl rfl hH (by omega) (by omega) ?_)
  refine aops_one rfl (os_loadRow (i := k + j) Pr.enc_len rfl ti53 rfl hH (by omega) (by rw [hal]) hay rfl (by rw [if_pos rfl]) ?_)
  refine aops_one rfl (os_idxRow Pr.enc_len rfl el22 rfl rfl hH (by omega) (by omega) ?_)
  refine aops_one rfl (os_putRow Pr.enc_len rfl ti53 rfl hH (Nat.zero_add _) (by rw [hal]) (by omega) rfl rfl rfl (by omega) ?_)
  refine aops_end ?_
  refine awp_run rfl (by simp only [fwA, ↓reduceIte, Nat.reduceAdd, Nat.reduceMul, Nat.reduceEqDiff, Nat.reduceLT, Nat.reduceLeDiff, reduceCtorEq] <;> rfl) ?_
  refine awp_run rfl (by simp only [fwA, ↓reduceIte, Nat.reduceAdd, Nat.reduceMul, Nat.reduceEqDiff, Nat.reduceLT, Nat.reduceLeDiff, reduceCtorEq] <;> rfl) ?_
  have hcn : cpt l (k + (j + 1)) = cpt l (k + j) ++ [l[k + j]] := cpt_new (i := k + j) hy (fun _ e => he2 (by rw [hy1] at e; exact (Option.some.inj e).symm))
  refine ⟨(j + 1, arr.set (cpt l (k + j)).length l[k + j]), by show l.length - (k + (j + 1)) < l.length - (k + j); omega, ⟨by omega, by omega, by rw [List.length_set]; exact hal, ?_, ?_, ?_⟩, ?_, hHs _, rfl⟩
  · show (cpt l (k + (j + 1))).length ≤ _
    rw [hcn, List.length_append]; simp; omega
  · show (arr.set _ _).drop (k + (j + 1) - 1) = _
    rw [List.drop_set_of_lt (by omega)]; exact hdr1
  · show (arr.set _ _).take (cpt l (k + (j + 1))).length = cpt l (k + (j + 1))
    rw [hcn, List.length_append, show [l[k + j]].length = 1 from rfl, List.take_add_one, List.take_set_of_le (Nat.le_refl _), htk, List.getElem?_set_self (by omega)]
    rfl
  · simp only [fwA, ↓reduceIte, Nat.reduceAdd, Nat.reduceMul, Nat.reduceEqDiff, Nat.reduceLT, Nat.reduceLeDiff, reduceCtorEq, List.map_cons, List.map_nil, wrapS j (by omega), hcn, List.length_append, List.length_cons, List.length_nil, Nat.zero_add, wrapS _ (show (cpt l (k + j)).length + 1 < 9223372036854775808 by omega)]

end Go.Proofs.YtdacialfjlcboaaGreatDoor

/- The contract of slices.Compact, at atoms and numbers. -/
namespace Go.Proofs.YtdacialfjlcboaaGreatDoor
set_option linter.unusedVariables false
set_option linter.unusedSimpArgs false
set_option maxRecDepth 100000
open Go.RowKit Fw

set_option maxHeartbeats 1000000 in
/- slices.Compact, atoms -/
theorem c54 (Γ : Nat → PV) (H : List Blk) (n0 b : Nat) (l : List Int) (hn0 : n0 ≤ b) (hb : H[b]? = some (.row 1 ((l.map I1).flatten))) (hbl : l.length ≤ 1000000000000) :
    ACalls Tryz.prog Γ 54 [.row b 0 l.length 1] H (RowAt H n0 1 (cpt l l.length).length (((cpt l l.length).map I1).flatten)) := by
  refine acalls_of_awp Tryz.func54 rfl (by simp [Tryz.f54]) fun hbd => ?_
  have hbH : b < H.length := (List.getElem?_eq_some_iff.1 hb).1
  refine awp_seq ?_
  refine awp_run rfl (by simp only [fwA, ↓reduceIte, Nat.reduceAdd, Nat.reduceMul, Nat.reduceEqDiff, Nat.reduceLT, Nat.reduceLeDiff, reduceCtorEq] <;> rfl) ?_
  refine awp_seq ?_
  refine awp_seq ?_
  refine awp_run rfl (by simp only [fwA, ↓reduceIte, Nat.reduceAdd, Nat.reduceMul, Nat.reduceEqDiff, Nat.reduceLT, Nat.reduceLeDiff, reduceCtorEq, un23] <;> rfl) ?_
  refine awp_cond (by simp only [fwA, ↓reduceIte, Nat.reduceAdd, Nat.reduceMul, Nat.reduceEqDiff, Nat.reduceLT, Nat.reduceLeDiff, reduceCtorEq] <;> rfl) ?_
  by_cases h2 : (l.length : Int) < 2
  · simp only [h2, decide_true, ↓reduceIte]
    refine awp_seq ?_
    refine awp_run rfl (by simp only [fwA, ↓reduceIte, Nat.reduceAdd, Nat.reduceMul, Nat.reduceEqDiff, Nat.reduceLT, Nat.reduceLeDiff, reduceCtorEq] <;> rfl) ?_
    refine awp_ret ?_
    have hfl : cpt l l.length = l := cpt_one (by omega)
    exact calls_end0 (p := .row b 0 l.length 1) (.inl rfl) hbd rfl (by simp [PV.bd]; omega) ⟨b, by rw [hfl], by rw [hfl]; exact hb, hn0, rfl, Nat.le_refl _⟩
  simp only [h2, decide_false, Bool.false_eq_true, ↓reduceIte]
  refine awp_skip ?_
  refine awp_seq ?_
  refine awp_seq ?_
  refine awp_run rfl (by simp only [fwA, ↓reduceIte, Nat.reduceAdd, Nat.reduceMul, Nat.reduceEqDiff, Nat.reduceLT, Nat.reduceLeDiff, reduceCtorEq] <;> rfl) ?_
  refine awp_block ?_
  have h1 : cpt l 1 = l.take 1 := by
    obtain ⟨x, hx⟩ : ∃ x, l[0]? = some x := ⟨_, List.getElem?_eq_getElem (by omega)⟩
    rw [cpt_new hx (fun h => by omega), List.take_add_one, hx]; rfl
  refine awp_for [0, 3] (fun k : Nat => [.row b 0 l.length 1, .int .i64 (k : Int)]) (fun _ => H) (fun k => l.length - k) (fun k => 0 < k ∧ k ≤ l.length ∧ cpt l k = l.take k) 1 rfl rfl ⟨by omega, by omega, h1⟩ fun k hk => ?_
  obtain ⟨hk0, hkl, hkc⟩ := hk
  refine awp_seq ?_
  refine awp_seq ?_
  refine awp_run rfl (by simp only [fwA, ↓reduceIte, Nat.reduceAdd, Nat.reduceMul, Nat.reduceEqDiff, Nat.reduceLT, Nat.reduceLeDiff, reduceCtorEq, un23] <;> rfl) ?_
  refine awp_cond (by simp only [fwA, ↓reduceIte, Nat.reduceAdd, Nat.reduceMul, Nat.reduceEqDiff, Nat.reduceLT, Nat.reduceLeDiff, reduceCtorEq] <;> rfl) ?_
  by_cases hc : (k : Int) < l.length
  rotate_left
  · simp only [hc, decide_false, Bool.false_eq_true, ↓reduceIte]
    refine awp_exit ?_
    refine awp_seq ?_
    refine awp_run rfl (by simp only [fwA, ↓reduceIte, Nat.reduceAdd, Nat.reduceMul, Nat.reduceEqDiff, Nat.reduceLT, Nat.reduceLeDiff, reduceCtorEq] <;> rfl) ?_
    refine awp_ret ?_
    have e : k = l.length := by omega
    subst e
    rw [List.take_length] at hkc
    exact calls_end0 (fn := Tryz.f54) (R := RowAt H n0 1 (cpt l l.length).length (((cpt l l.length).map I1).flatten)) (p := .row b 0 l.length 1) (.inl rfl) hbd rfl (by simp [PV.bd]; omega) ⟨b, by rw [hkc], by rw [hkc]; exact hb, hn0, rfl, Nat.le_refl _⟩
  simp only [hc, decide_true, ↓reduceIte]
  have hil : k < l.length := by omega
  have hx : l[k]? = some l[k] := List.getElem?_eq_getElem hil
  have hx1 : l[k - 1]? = some l[k - 1] := List.getElem?_eq_getElem (by omega)
  have hsub : IntKind.i64.wrap ((k : Int) - 1) = ((k - 1 : Nat) : Int) := by rw [wrapId ⟨by omega, by omega⟩]; omega
  refine awp_skip ?_
  refine awp_seq ?_
  refine awp_block ?_
  refine awp_seq ?_
  refine awp_drawn [0, 0, 1, 1, 0, 0, 0, 1, 1, 0] [0, 0, 3, 7, 0, 0, 32, 112, 240, 511] mixed rfl (by kernel_rfl) ?_
  refine dops_run 2 (by simp only [fwA, ↓reduceIte, Nat.reduceAdd, Nat.reduceMul, Nat.reduceEqDiff, Nat.reduceLT, Nat.reduceLeDiff, reduceCtorEq] <;> rfl) ?_
  refine dops_idxRow I1_len rfl rfl rfl el23 rfl rfl hb (by omega) hil ?_
  refine dops_loadRow (.int .i64 l[k]) I1_len rfl rfl rfl ti24 rfl hb (by omega) rfl hx rfl (by rw [if_neg (by decide)]; rfl) ?_
  refine dops_run 3 (by simp only [fwA, ↓reduceIte, Nat.reduceAdd, Nat.reduceMul, Nat.reduceEqDiff, Nat.reduceLT, Nat.reduceLeDiff, reduceCtorEq, hsub] <;> rfl) ?_
  refine dops_idxRow (i := k - 1) I1_len rfl rfl rfl el23 rfl rfl hb (by omega) (by omega) ?_
  refine dops_loadRow (.int .i64 l[k - 1]) I1_len rfl rfl rfl ti24 rfl hb (by omega) rfl hx1 rfl (by rw [if_neg (by decide)]; rfl) ?_
  refine dops_run 1 (by simp only [fwA, ↓reduceIte, Nat.reduceAdd, Nat.reduceMul, Nat.reduceEqDiff, Nat.reduceLT, Nat.reduceLeDiff, reduceCtorEq, un23] <;> rfl) ?_
  refine dops_end ?_
  refine awp_cond (by simp only [fwA, ↓reduceIte, Nat.reduceAdd, Nat.reduceMul, Nat.reduceEqDiff, Nat.reduceLT, Nat.reduceLeDiff, reduceCtorEq] <;> rfl) ?_
  have hdec : decide (l[k] = l[k - 1]) = decide (l[k] = l[k - 1]) := rfl
  rw [hdec]
  by_cases he : l[k] = l[k - 1]
  rotate_left
  · simp only [he, decide_false, Bool.false_eq_true, ↓reduceIte]
    refine awp_skip ?_
    refine awp_run rfl (by simp only [fwA, ↓reduceIte, Nat.reduceAdd, Nat.reduceMul, Nat.reduceEqDiff, Nat.reduceLT, Nat.reduceLeDiff, reduceCtorEq] <;> rfl) ?_
    refine ⟨k + 1, by omega, ⟨by omega, hil, ?_⟩, ?_, rfl, rfl⟩
    · rw [cpt_new hx (fun _ e => he (by rw [hx1] at e; exact (Option.some.inj e).symm)), hkc, List.take_add_one, hx]; rfl
    · simp only [fwA, ↓reduceIte, Nat.reduceAdd, Nat.reduceMul, Nat.reduceEqDiff, Nat.reduceLT, Nat.reduceLeDiff, reduceCtorEq, List.map_cons, List.map_nil, wrapS k (by omega)]
  simp only [he, decide_true, ↓reduceIte]
  refine awp_seq ?_
  refine awp_region rfl ?_
  refine aops_run 2 (by simp only [fwA, ↓reduceIte, Nat.reduceAdd, Nat.reduceMul, Nat.reduceEqDiff, Nat.reduceLT, Nat.reduceLeDiff, reduceCtorEq] <;> rfl) ?_
  refine aops_one rfl (os_sliceSuf rfl el23 rfl rfl hkl hb (by rw [flat_len I1_len]; omega) ?_)
  refine aops_run 1 (by simp only [fwA, ↓reduceIte, Nat.reduceAdd, Nat.reduceMul, Nat.reduceEqDiff, Nat.reduceLT, Nat.reduceLeDiff, reduceCtorEq] <;> rfl) ?_
  refine awp_seq ?_
  refine awp_seq ?_
  refine awp_run rfl (by simp only [fwA, ↓reduceIte, Nat.reduceAdd, Nat.reduceMul, Nat.reduceEqDiff, Nat.reduceLT, Nat.reduceLeDiff, reduceCtorEq] <;> rfl) ?_
  refine awp_block ?_
  have hck : cpt l (k + 1) = cpt l k := cpt_dup hk0 hx (by rw [hx1, he])
  have hck2 : (cpt l (k + 1)).length = k := by rw [hck, hkc, List.length_take]; omega
  have hset : ∀ arr : List Int, (H.set b (.row 1 ((arr.map I1).flatten)))[b]? = some (.row 1 ((arr.map I1).flatten)) := fun arr => List.getElem?_set_self hbH
  refine awp_for [0, 3, 4, 5] (fun s : Nat × List Int => [.row b 0 l.length 1, .int .i64 ((cpt l (k + s.1)).length : Int), .row b (0 + k * 1) (l.length - k) 1, .int .i64 (s.1 : Int)])
    (fun s => H.set b (.row 1 ((s.2.map I1).flatten))) (fun s => l.length - (k + s.1))
    (fun s => 0 < s.1 ∧ k + s.1 ≤ l.length ∧ s.2.length = l.length ∧ (cpt l (k + s.1)).length ≤ k + s.1 - 1 ∧ s.2.drop (k + s.1 - 1) = l.drop (k + s.1 - 1) ∧ s.2.take (cpt l (k + s.1)).length = cpt l (k + s.1)) (1, l) ?_ ?_
    ⟨by omega, by omega, rfl, by show (cpt l (k + 1)).length ≤ _; rw [hck2]; omega, rfl, by show l.take (cpt l (k + 1)).length = cpt l (k + 1); rw [hck2, hck, hkc]⟩ fun s hs => ?_
  · simp only [fwA, ↓reduceIte, Nat.reduceAdd, Nat.reduceMul, Nat.reduceEqDiff, Nat.reduceLT, Nat.reduceLeDiff, reduceCtorEq, List.map_cons, List.map_nil, hck2]; rfl
  · obtain ⟨_, g2⟩ := List.getElem?_eq_some_iff.1 hb
    show H = H.set b _
    rw [← g2]; exact (List.set_getElem_self _).symm
  obtain ⟨j, arr⟩ := s
  obtain ⟨hj0, hjn, hal, hcl, hdr, htk⟩ := hs
  simp only at hj0 hjn hal hcl hdr htk ⊢
  have hH := hset arr
  refine awp_seq ?_
  refine awp_seq ?_
  refine awp_run rfl (by simp only [fwA, ↓reduceIte, Nat.reduceAdd, Nat.reduceMul, Nat.reduceEqDiff, Nat.reduceLT, Nat.reduceLeDiff, reduceCtorEq, un23] <;> rfl) ?_
  refine awp_cond (by simp only [fwA, ↓reduceIte, Nat.reduceAdd, Nat.reduceMul, Nat.reduceEqDiff, Nat.reduceLT, Nat.reduceLeDiff, reduceCtorEq] <;> rfl) ?_
  by_cases hc2 : (j : Int) < ((l.length - k : Nat) : Int)
  rotate_left
  · have e : k + j = l.length := by omega
    rw [e] at htk hcl
    have hjl : (cpt l l.length).length ≤ l.length := cpt_le _ _
    simp only [hc2, decide_false, Bool.false_eq_true, ↓reduceIte, e]
    refine awp_exit ?_
    refine awp_seq ?_
    refine awp_region rfl ?_
    refine aops_run 2 (by simp only [fwA, ↓reduceIte, Nat.reduceAdd, Nat.reduceMul, Nat.reduceEqDiff, Nat.reduceLT, Nat.reduceLeDiff, reduceCtorEq] <;> rfl) ?_
    refine aops_one rfl (os_sliceSuf rfl el23 rfl rfl hjl hH (by rw [flat_len I1_len]; omega) ?_)
    refine aops_one rfl (os_clearRow rfl un23 ti24 rfl hH (by rw [flat_len I1_len, hal]; show _ = 0 + _ * 1 + (l.length - _) * 1; omega) ?_)
    have hkey : ∃ cs2, splice ((arr.map I1).flatten) (0 + (cpt l l.length).length * 1) (List.replicate (l.length - (cpt l l.length).length) [PV.int .i64 0]).flatten = cs2 ∧ cs2.length = 0 + l.length * 1 ∧ cs2.take (0 + (cpt l l.length).length * 1) = ((cpt l l.length).map I1).flatten := by
      have hcl : ((arr.map I1).flatten).length = l.length * 1 := by rw [flat_len I1_len, hal]
      have hzl : ((List.replicate (l.length - (cpt l l.length).length) ([PV.int .i64 0] : List PV)).flatten).length = (l.length - (cpt l l.length).length) * 1 := by rw [rep_len]; rfl
      refine ⟨_, rfl, (splice_length (by rw [hcl, hzl]; omega)).trans (by omega), ?_⟩
      rw [Nat.zero_add, take_splice (by rw [hcl]; omega), flat_take I1_len, htk]
    obtain ⟨cs2, hk1, hk2, hk3⟩ := hkey
    refine aops_end ?_
    refine awp_heap (H' := H.set b (.row 1 cs2)) (by rw [List.set_set, ← hk1]) ?_
    refine awp_seq ?_
    refine awp_region rfl ?_
    refine aops_run 2 (by simp only [fwA, ↓reduceIte, Nat.reduceAdd, Nat.reduceMul, Nat.reduceEqDiff, Nat.reduceLT, Nat.reduceLeDiff, reduceCtorEq] <;> rfl) ?_
    refine aops_one rfl (os_slicePre rfl el23 rfl rfl hjl (List.getElem?_set_self hbH) hk2 ?_)
    rw [hk3]
    refine aops_run 1 (by simp only [fwA, ↓reduceIte, Nat.reduceAdd, Nat.reduceMul, Nat.reduceEqDiff, Nat.reduceLT, Nat.reduceLeDiff, reduceCtorEq] <;> rfl) ?_
    refine awp_bd fun hbd' => ?_
    refine awp_ret ?_
    refine calls_at (fn := Tryz.f54) (R := RowAt H n0 1 (cpt l l.length).length (((cpt l l.length).map I1).flatten)) (p := .row H.length 0 (cpt l l.length).length 1) (.inl rfl) hbd' (by simp [ares, aresL, ares1, alook, Tryz.f54]) (by simp [PV.bd]) (by simp) ⟨H.length, rfl, ?_, by omega, ?_, by simp⟩
    · rw [List.getElem?_append_right (by simp)]; simp
    · rw [List.take_append_of_le_length (by simp; omega), List.take_set_of_le hn0, List.take_set_of_le hn0]
  have hjl : k + j < l.length := by omega
  have hy : l[k + j]? = some l[k + j] := List.getElem?_eq_getElem hjl
  have hy1 : l[k + j - 1]? = some l[k + j - 1] := List.getElem?_eq_getElem (by omega)
  have hdr1 : arr.drop (k + j) = l.drop (k + j) := by
    have := congrArg (List.drop 1) hdr
    rw [List.drop_drop, List.drop_drop] at this
    rwa [show k + j - 1 + 1 = k + j by omega] at this
  have hay : arr[k + j]? = some l[k + j] := by
    have := congrArg (·[0]?) hdr1
    simp only [List.getElem?_drop, Nat.add_zero] at this
    rw [this, hy]
  have hay1 : arr[k + j - 1]? = some l[k + j - 1] := by
    have := congrArg (·[0]?) hdr
    simp only [List.getElem?_drop, Nat.add_zero] at this
    rw [this, hy1]
  have hHl : b < (H.set b (.row 1 ((arr.map I1).flatten))).length := by rw [List.length_set]; exact hbH
  have hHs : ∀ B, (H.set b (.row 1 ((arr.map I1).flatten))).set b B = H.set b B := fun B => List.set_set ..
  have hsub2 : IntKind.i64.wrap ((j : Int) - 1) = ((j - 1 : Nat) : Int) := by rw [wrapId ⟨by omega, by omega⟩]; omega
  simp only [hc2, decide_true, ↓reduceIte]
  refine awp_skip ?_
  refine awp_seq ?_
  refine awp_block ?_
  refine awp_seq ?_
  refine awp_drawn [0, 0, 1, 1, 0, 0, 0, 1, 1, 0] [0, 0, 3, 7, 0, 0, 32, 112, 240, 511] mixed rfl (by kernel_rfl) ?_
  refine dops_run 2 (by simp only [fwA, ↓reduceIte, Nat.reduceAdd, Nat.reduceMul, Nat.reduceEqDiff, Nat.reduceLT, Nat.reduceLeDiff, reduceCtorEq] <;> rfl) ?_
  refine dops_idxRow I1_len rfl rfl rfl el23 rfl rfl hH (by omega) (by omega) ?_
  refine dops_loadRow (i := k + j) (.int .i64 l[k + j]) I1_len rfl rfl rfl ti24 rfl hH (by omega) (by rw [hal]) hay rfl (by rw [if_neg (by decide)]; rfl) ?_
  refine dops_run 3 (by simp only [fwA, ↓reduceIte, Nat.reduceAdd, Nat.reduceMul, Nat.reduceEqDiff, Nat.reduceLT, Nat.reduceLeDiff, reduceCtorEq, hsub2] <;> rfl) ?_
  refine dops_idxRow (i := j - 1) I1_len rfl rfl rfl el23 rfl rfl hH (by omega) (by omega) ?_
  refine dops_loadRow (i := k + j - 1) (.int .i64 l[k + j - 1]) I1_len rfl rfl rfl ti24 rfl hH (by omega) (by rw [hal]) hay1 rfl (by rw [if_neg (by decide)]; rfl) ?_
  refine dops_run 1 (by simp only [fwA, ↓reduceIte, Nat.reduceAdd, Nat.reduceMul, Nat.reduceEqDiff, Nat.reduceLT, Nat.reduceLeDiff, reduceCtorEq, un23] <;> rfl) ?_
  refine dops_end ?_
  refine awp_cond (by simp only [fwA, ↓reduceIte, Nat.reduceAdd, Nat.reduceMul, Nat.reduceEqDiff, Nat.reduceLT, Nat.reduceLeDiff, reduceCtorEq] <;> rfl) ?_
  have hdec2 : decide (l[k + j] = l[k + j - 1]) = decide (l[k + j] = l[k + j - 1]) := rfl
  rw [hdec2]
  by_cases he2 : l[k + j] = l[k + j - 1]
  · simp only [he2, decide_true, Bool.not_true, Bool.false_eq_true, ↓reduceIte]
    refine awp_skip ?_
    refine awp_run rfl (by simp only [fwA, ↓reduceIte, Nat.reduceAdd, Nat.reduceMul, Nat.reduceEqDiff, Nat.reduceLT, Nat.reduceLeDiff, reduceCtorEq] <;> rfl) ?_
    have hcd : cpt l (k + (j + 1)) = cpt l (k + j) := cpt_dup (i := k + j) (by omega) hy (by rw [hy1, he2])
    refine ⟨(j + 1, arr), by show l.length - (k + (j + 1)) < l.length - (k + j); omega, ⟨by omega, by omega, hal, by show (cpt l (k + (j + 1))).length ≤ _; rw [hcd]; omega, hdr1, by show arr.take (cpt l (k + (j + 1))).length = _; rw [hcd]; exact htk⟩, ?_, rfl, rfl⟩
    simp only [fwA, ↓reduceIte, Nat.reduceAdd, Nat.reduceMul, Nat.reduceEqDiff, Nat.reduceLT, Nat.reduceLeDiff, reduceCtorEq, List.map_cons, List.map_nil, wrapS j (by omega), hcd]
  simp only [he2, decide_false, Bool.not_false, ↓reduceIte]
  refine awp_seq ?_
  refine awp_region rfl ?_
  refine aops_run 4 (by simp only [fwA, ↓reduceIte, Nat.reduceAdd, Nat.reduceMul, Nat.reduceEqDiff, Nat.reduceLT, Nat.reduceLeDiff, reduceCtorEq] <;> rfl) ?_
  refine aops_one rfl (os_idxRow I1_len rfl el23 rfl rfl hH (by omega) (by omega) ?_)
  refine aops_one rfl (os_loadRow (i := k + j) I1_len rfl ti24 rfl hH (by omega) (by rw [hal]) hay rfl (by rw [if_neg (by decide)]; rfl) ?_)
  refine aops_one rfl (os_idxRow I1_len rfl el23 rfl rfl hH (by omega) (by omega) ?_)
  refine aops_one rfl (os_putRow I1_len rfl ti24 rfl hH (Nat.zero_add _) (by rw [hal]) (by omega) rfl rfl rfl (by omega) ?_)
  refine aops_end ?_
  refine awp_run rfl (by simp only [fwA, ↓reduceIte, Nat.reduceAdd, Nat.reduceMul, Nat.reduceEqDiff, Nat.reduceLT, Nat.reduceLeDiff, reduceCtorEq] <;> rfl) ?_
  refine awp_run rfl (by simp only [fwA, ↓reduceIte, Nat.reduceAdd, Nat.reduceMul, Nat.reduceEqDiff, Nat.reduceLT, Nat.reduceLeDiff, reduceCtorEq] <;> rfl) ?_
  have hcn : cpt l (k + (j + 1)) = cpt l (k + j) ++ [l[k + j]] := cpt_new (i := k + j) hy (fun _ e => he2 (by rw [hy1] at e; exact (Option.some.inj e).symm))
  refine ⟨(j + 1, arr.set (cpt l (k + j)).length l[k + j]), by show l.length - (k + (j + 1)) < l.length - (k + j); omega, ⟨by omega, by omega, by rw [List.length_set]; exact hal, ?_, ?_, ?_⟩, ?_, hHs _, rfl⟩
  · show (cpt l (k + (j + 1))).length ≤ _
    rw [hcn, List.length_append]; simp; omega
  · show (arr.set _ _).drop (k + (j + 1) - 1) = _
    rw [List.drop_set_of_lt (by omega)]; exact hdr1
  · show (arr.set _ _).take (cpt l (k + (j + 1))).length = cpt l (k + (j + 1))
    rw [hcn, List.length_append, show [l[k + j]].length = 1 from rfl, List.take_add_one, List.take_set_of_le (Nat.le_refl _), htk, List.getElem?_set_self (by omega)]
    rfl
  · simp only [fwA, ↓reduceIte, Nat.reduceAdd, Nat.reduceMul, Nat.reduceEqDiff, Nat.reduceLT, Nat.reduceLeDiff, reduceCtorEq, List.map_cons, List.map_nil, wrapS j (by omega), hcn, List.length_append, List.length_cons, List.length_nil, Nat.zero_add, wrapS _ (show (cpt l (k + j)).length + 1 < 9223372036854775808 by omega)]

set_option maxHeartbeats 1000000 in
/- slices.Compact, numbers -/
theorem c56 (Γ : Nat → PV) (H : List Blk) (n0 b : Nat) (l : List Int) (hn0 : n0 ≤ b) (hb : H[b]? = some (.row 1 ((l.map I1).flatten))) (hbl : l.length ≤ 1000000000000) :
    ACalls Tryz.prog Γ 56 [.row b 0 l.length 1] H (RowAt H n0 1 (cpt l l.length).length (((cpt l l.length).map I1).flatten)) := by
  refine acalls_of_awp Tryz.func56 rfl (by simp [Tryz.f56]) fun hbd => ?_
  have hbH : b < H.length := (List.getElem?_eq_some_iff.1 hb).1
  refine awp_seq ?_
  refine awp_run rfl (by simp only [fwA, ↓reduceIte, Nat.reduceAdd, Nat.reduceMul, Nat.reduceEqDiff, Nat.reduceLT, Nat.reduceLeDiff, reduceCtorEq] <;> rfl) ?_
  refine awp_seq ?_
  refine awp_seq ?_
  refine awp_run rfl (by simp only [fwA, ↓reduceIte, Nat.reduceAdd, Nat.reduceMul, Nat.reduceEqDiff, Nat.reduceLT, Nat.reduceLeDiff, reduceCtorEq, un29] <;> rfl) ?_
  refine awp_cond (by simp only [fwA, ↓reduceIte, Nat.reduceAdd, Nat.reduceMul, Nat.reduceEqDiff, Nat.reduceLT, Nat.reduceLeDiff, reduceCtorEq] <;> rfl) ?_
  by_cases h2 : (l.length : Int) < 2
  · simp only [h2, decide_true, ↓reduceIte]
    refine awp_seq ?_
    refine awp_run rfl (by simp only [fwA, ↓reduceIte, Nat.reduceAdd, Nat.reduceMul, Nat.reduceEqDiff, Nat.reduceLT, Nat.reduceLeDiff, reduceCtorEq] <;> rfl) ?_
    refine awp_ret ?_
    have hfl : cpt l l.length = l := cpt_one (by omega)
    exact calls_end0 (p := .row b 0 l.length 1) (.inl rfl) hbd rfl (by simp [PV.bd]; omega) ⟨b, by rw [hfl], by rw [hfl]; exact hb, hn0, rfl, Nat.le_refl _⟩
  simp only [h2, decide_false, Bool.false_eq_true, ↓reduceIte]
  refine awp_skip ?_
  refine awp_seq ?_
  refine awp_seq ?_
  refine awp_run rfl (by simp only [fwA, ↓reduceIte, Nat.reduceAdd, Nat.reduceMul, Nat.reduceEqDiff, Nat.reduceLT, Nat.reduceLeDiff, reduceCtorEq] <;> rfl) ?_
  refine awp_block ?_
  have h1 : cpt l 1 = l.take 1 := by
    obtain ⟨x, hx⟩ : ∃ x, l[0]? = some x := ⟨_, List.getElem?_eq_getElem (by omega)⟩
    rw [cpt_new hx (fun h => by omega), List.take_add_one, hx]; rfl
  refine awp_for [0, 3] (fun k : Nat => [.row b 0 l.length 1, .int .i64 (k : Int)]) (fun _ => H) (fun k => l.length - k) (fun k => 0 < k ∧ k ≤ l.length ∧ cpt l k = l.take k) 1 rfl rfl ⟨by omega, by omega, h1⟩ fun k hk => ?_
  obtain ⟨hk0, hkl, hkc⟩ := hk
  refine awp_seq ?_
  refine awp_seq ?_
  refine awp_run rfl (by simp only [fwA, ↓reduceIte, Nat.reduceAdd, Nat.reduceMul, Nat.reduceEqDiff, Nat.reduceLT, Nat.reduceLeDiff, reduceCtorEq, un29] <;> rfl) ?_
  refine awp_cond (by simp only [fwA, ↓reduceIte, Nat.reduceAdd, Nat.reduceMul, Nat.reduceEqDiff, Nat.reduceLT, Nat.reduceLeDiff, reduceCtorEq] <;> rfl) ?_
  by_cases hc : (k : Int) < l.length
  rotate_left
  · simp only [hc, decide_false, Bool.false_eq_true, ↓reduceIte]
    refine awp_exit ?_
    refine awp_seq ?_
    refine awp_run rfl (by simp only [fwA, ↓reduceIte, Nat.reduceAdd, Nat.reduceMul, Nat.reduceEqDiff, Nat.reduceLT, Nat.reduceLeDiff, reduceCtorEq] <;> rfl) ?_
    refine awp_ret ?_
    have e : k = l.length := by omega
    subst e
    rw [List.take_length] at hkc
    exact calls_end0 (fn := Tryz.f56) (R := RowAt H n0 1 (cpt l l.length).length (((cpt l l.length).map I1).flatten)) (p := .row b 0 l.length 1) (.inl rfl) hbd rfl (by simp [PV.bd]; omega) ⟨b, by rw [hkc], by rw [hkc]; exact hb, hn0, rfl, Nat.le_refl _⟩
  simp only [hc, decide_true, ↓reduceIte]
  have hil : k < l.length := by omega
  have hx : l[k]? = some l[k] := List.getElem?_eq_getElem hil
  have hx1 : l[k - 1]? = some l[k - 1] := List.getElem?_eq_getElem (by omega)
  have hsub : IntKind.i64.wrap ((k : Int) - 1) = ((k - 1 : Nat) : Int) := by rw [wrapId ⟨by omega, by omega⟩]; omega
  refine awp_skip ?_
  refine awp_seq ?_
  refine awp_block ?_
  refine awp_seq ?_
  refine awp_drawn [0, 0, 1, 1, 0, 0, 0, 1, 1, 0] [0, 0, 3, 7, 0, 0, 32, 112, 240, 511] mixed rfl (by kernel_rfl) ?_
  refine dops_run 2 (by simp only [fwA, ↓reduceIte, Nat.reduceAdd, Nat.reduceMul, Nat.reduceEqDiff, Nat.reduceLT, Nat.reduceLeDiff, reduceCtorEq] <;> rfl) ?_
  refine dops_idxRow I1_len rfl rfl rfl el29 rfl rfl hb (by omega) hil ?_
  refine dops_loadRow (.int .i64 l[k]) I1_len rfl rfl rfl ti3 rfl hb (by omega) rfl hx rfl (by rw [if_neg (by decide)]; rfl) ?_
  refine dops_run 3 (by simp only [fwA, ↓reduceIte, Nat.reduceAdd, Nat.reduceMul, Nat.reduceEqDiff, Nat.reduceLT, Nat.reduceLeDiff, reduceCtorEq, hsub] <;> rfl) ?_
  refine dops_idxRow (i := k - 1) I1_len rfl rfl rfl el29 rfl rfl hb (by omega) (by omega) ?_
  refine dops_loadRow (.int .i64 l[k - 1]) I1_len rfl rfl rfl ti3 rfl hb (by omega) rfl hx1 rfl (by rw [if_neg (by decide)]; rfl) ?_
  refine dops_run 1 (by simp only [fwA, ↓reduceIte, Nat.reduceAdd, Nat.reduceMul, Nat.reduceEqDiff, Nat.reduceLT, Nat.reduceLeDiff, reduceCtorEq, un29] <;> rfl) ?_
  refine dops_end ?_
  refine awp_cond (by simp only [fwA, ↓reduceIte, Nat.reduceAdd, Nat.reduceMul, Nat.reduceEqDiff, Nat.reduceLT, Nat.reduceLeDiff, reduceCtorEq] <;> rfl) ?_
  have hdec : decide (l[k] = l[k - 1]) = decide (l[k] = l[k - 1]) := rfl
  rw [hdec]
  by_cases he : l[k] = l[k - 1]
  rotate_left
  · simp only [he, decide_false, Bool.false_eq_true, ↓reduceIte]
    refine awp_skip ?_
    refine awp_run rfl (by simp only [fwA, ↓reduceIte, Nat.reduceAdd, Nat.reduceMul, Nat.reduceEqDiff, Nat.reduceLT, Nat.reduceLeDiff, reduceCtorEq] <;> rfl) ?_
    refine ⟨k + 1, by omega, ⟨by omega, hil, ?_⟩, ?_, rfl, rfl⟩
    · rw [cpt_new hx (fun _ e => he (by rw [hx1] at e; exact (Option.some.inj e).symm)), hkc, List.take_add_one, hx]; rfl
    · simp only [fwA, ↓reduceIte, Nat.reduceAdd, Nat.reduceMul, Nat.reduceEqDiff, Nat.reduceLT, Nat.reduceLeDiff, reduceCtorEq, List.map_cons, List.map_nil, wrapS k (by omega)]
  simp only [he, decide_true, ↓reduceIte]
  refine awp_seq ?_
  refine awp_region rfl ?_
  refine aops_run 2 (by simp only [fwA, ↓reduceIte, Nat.reduceAdd, Nat.reduceMul, Nat.reduceEqDiff, Nat.reduceLT, Nat.reduceLeDiff, reduceCtorEq] <;> rfl) ?_
  refine aops_one rfl (os_sliceSuf rfl el29 rfl rfl hkl hb (by rw [flat_len I1_len]; omega) ?_)
  refine aops_run 1 (by simp only [fwA, ↓reduceIte, Nat.reduceAdd, Nat.reduceMul, Nat.reduceEqDiff, Nat.reduceLT, Nat.reduceLeDiff, reduceCtorEq] <;> rfl) ?_
  refine awp_seq ?_
  refine awp_seq ?_
  refine awp_run rfl (by simp only [fwA, ↓reduceIte, Nat.reduceAdd, Nat.reduceMul, Nat.reduceEqDiff, Nat.reduceLT, Nat.reduceLeDiff, reduceCtorEq] <;> rfl) ?_
  refine awp_block ?_
  have hck : cpt l (k + 1) = cpt l k := cpt_dup hk0 hx (by rw [hx1, he])
  have hck2 : (cpt l (k + 1)).length = k := by rw [hck, hkc, List.length_take]; omega
  have hset : ∀ arr : List Int, (H.set b (.row 1 ((arr.map I1).flatten)))[b]? = some (.row 1 ((arr.map I1).flatten)) := fun arr => List.getElem?_set_self hbH
  refine awp_for [0, 3, 4, 5] (fun s : Nat × List Int => [.row b 0 l.length 1, .int .i64 ((cpt l (k + s.1)).length : Int), .row b (0 + k * 1) (l.length - k) 1, .int .i64 (s.1 : Int)])
    (fun s => H.set b (.row 1 ((s.2.map I1).flatten))) (fun s => l.length - (k + s.1))
    (fun s => 0 < s.1 ∧ k + s.1 ≤ l.length ∧ s.2.length = l.length ∧ (cpt l (k + s.1)).length ≤ k + s.1 - 1 ∧ s.2.drop (k + s.1 - 1) = l.drop (k + s.1 - 1) ∧ s.2.take (cpt l (k + s.1)).length = cpt l (k + s.1)) (1, l) ?_ ?_
    ⟨by omega, by omega, rfl, by show (cpt l (k + 1)).length ≤ _; rw [hck2]; omega, rfl, by show l.take (cpt l (k + 1)).length = cpt l (k + 1); rw [hck2, hck, hkc]⟩ fun s hs => ?_
  · simp only [fwA, ↓reduceIte, Nat.reduceAdd, Nat.reduceMul, Nat.reduceEqDiff, Nat.reduceLT, Nat.reduceLeDiff, reduceCtorEq, List.map_cons, List.map_nil, hck2]; rfl
  · obtain ⟨_, g2⟩ := List.getElem?_eq_some_iff.1 hb
    show H = H.set b _
    rw [← g2]; exact (List.set_getElem_self _).symm
  obtain ⟨j, arr⟩ := s
  obtain ⟨hj0, hjn, hal, hcl, hdr, htk⟩ := hs
  simp only at hj0 hjn hal hcl hdr htk ⊢
  have hH := hset arr
  refine awp_seq ?_
  refine awp_seq ?_
  refine awp_run rfl (by simp only [fwA, ↓reduceIte, Nat.reduceAdd, Nat.reduceMul, Nat.reduceEqDiff, Nat.reduceLT, Nat.reduceLeDiff, reduceCtorEq, un29] <;> rfl) ?_
  refine awp_cond (by simp only [fwA, ↓reduceIte, Nat.reduceAdd, Nat.reduceMul, Nat.reduceEqDiff, Nat.reduceLT, Nat.reduceLeDiff, reduceCtorEq] <;> rfl) ?_
  by_cases hc2 : (j : Int) < ((l.length - k : Nat) : Int)
  rotate_left
  · have e : k + j = l.length := by omega
    rw [e] at htk hcl
    have hjl : (cpt l l.length).length ≤ l.length := cpt_le _ _
    simp only [hc2, decide_false, Bool.false_eq_true, ↓reduceIte, e]
    refine awp_exit ?_
    refine awp_seq ?_
    refine awp_region rfl ?_
    refine aops_run 2 (by simp only [fwA, ↓reduceIte, Nat.reduceAdd, Nat.reduceMul, Nat.reduceEqDiff, Nat.reduceLT, Nat.reduceLeDiff, reduceCtorEq] <;> rfl) ?_
    refine aops_one rfl (os_sliceSuf rfl el29 rfl rfl hjl hH (by rw [flat_len I1_len]; omega) ?_)
    refine aops_one rfl (os_clearRow rfl un29 ti3 rfl hH (by rw [flat_len I1_len, hal]; show _ = 0 + _ * 1 + (l.length - _) * 1; omega) ?_)
    have hkey : ∃ cs2, splice ((arr.map I1).flatten) (0 + (cpt l l.length).length * 1) (List.replicate (l.length - (cpt l l.length).length) [PV.int .i64 0]).flatten = cs2 ∧ cs2.length = 0 + l.length * 1 ∧ cs2.take (0 + (cpt l l.length).length * 1) = ((cpt l l.length).map I1).flatten := by
      have hcl : ((arr.map I1).flatten).length = l.length * 1 := by rw [flat_len I1_len, hal]
      have hzl : ((List.replicate (l.length - (cpt l l.length).length) ([PV.int .i64 0] : List PV)).flatten).length = (l.length - (cpt l l.length).length) * 1 := by rw [rep_len]; rfl
      refine ⟨_, rfl, (splice_length (by rw [hcl, hzl]; omega)).trans (by omega), ?_⟩
      rw [Nat.zero_add, take_splice (by rw [hcl]; omega), flat_take I1_len, htk]
    obtain ⟨cs2, hk1, hk2, hk3⟩ := hkey
    refine aops_end ?_
    refine awp_heap (H' := H.set b (.row 1 cs2)) (by rw [List.set_set, ← hk1]) ?_
    refine awp_seq ?_
    refine awp_region rfl ?_
    refine aops_run 2 (by simp only [fwA, ↓reduceIte, Nat.reduceAdd, Nat.reduceMul, Nat.reduceEqDiff, Nat.reduceLT, Nat.reduceLeDiff, reduceCtorEq] <;> rfl) ?_
    refine aops_one rfl (os_slicePre rfl el29 rfl rfl hjl (List.getElem?_set_self hbH) hk2 ?_)
    rw [hk3]
    refine aops_run 1 (by simp only [fwA, ↓reduceIte, Nat.reduceAdd, Nat.reduceMul, Nat.reduceEqDiff, Nat.reduceLT, Nat.reduceLeDiff, reduceCtorEq] <;> rfl) ?_
    refine awp_bd fun hbd' => ?_
    refine awp_ret ?_
    refine calls_at (fn := Tryz.f56) (R := RowAt H n0 1 (cpt l l.length).length (((cpt l l.length).map I1).flatten)) (p := .row H.length 0 (cpt l l.length).length 1) (.inl rfl) hbd' (by simp [ares, aresL, ares1, alook, Tryz.f56]) (by simp [PV.bd]) (by simp) ⟨H.length, rfl, ?_, by omega, ?_, by simp⟩
    · rw [List.getElem?_append_right (by simp)]; simp
    · rw [List.take_append_of_le_length (by simp; omega), List.take_set_of_le hn0, List.take_set_of_le hn0]
  have hjl : k + j < l.length := by omega
  have hy : l[k + j]? = some l[k + j] := List.getElem?_eq_getElem hjl
  have hy1 : l[k + j - 1]? = some l[k + j - 1] := List.getElem?_eq_getElem (by omega)
  have hdr1 : arr.drop (k + j) = l.drop (k + j) := by
    have := congrArg (List.drop 1) hdr
    rw [List.drop_drop, List.drop_drop] at this
    rwa [show k + j - 1 + 1 = k + j by omega] at this
  have hay : arr[k + j]? = some l[k + j] := by
    have := congrArg (·[0]?) hdr1
    simp only [List.getElem?_drop, Nat.add_zero] at this
    rw [this, hy]
  have hay1 : arr[k + j - 1]? = some l[k + j - 1] := by
    have := congrArg (·[0]?) hdr
    simp only [List.getElem?_drop, Nat.add_zero] at this
    rw [this, hy1]
  have hHl : b < (H.set b (.row 1 ((arr.map I1).flatten))).length := by rw [List.length_set]; exact hbH
  have hHs : ∀ B, (H.set b (.row 1 ((arr.map I1).flatten))).set b B = H.set b B := fun B => List.set_set ..
  have hsub2 : IntKind.i64.wrap ((j : Int) - 1) = ((j - 1 : Nat) : Int) := by rw [wrapId ⟨by omega, by omega⟩]; omega
  simp only [hc2, decide_true, ↓reduceIte]
  refine awp_skip ?_
  refine awp_seq ?_
  refine awp_block ?_
  refine awp_seq ?_
  refine awp_drawn [0, 0, 1, 1, 0, 0, 0, 1, 1, 0] [0, 0, 3, 7, 0, 0, 32, 112, 240, 511] mixed rfl (by kernel_rfl) ?_
  refine dops_run 2 (by simp only [fwA, ↓reduceIte, Nat.reduceAdd, Nat.reduceMul, Nat.reduceEqDiff, Nat.reduceLT, Nat.reduceLeDiff, reduceCtorEq] <;> rfl) ?_
  refine dops_idxRow I1_len rfl rfl rfl el29 rfl rfl hH (by omega) (by omega) ?_
  refine dops_loadRow (i := k + j) (.int .i64 l[k + j]) I1_len rfl rfl rfl ti3 rfl hH (by omega) (by rw [hal]) hay rfl (by rw [if_neg (by decide)]; rfl) ?_
  refine dops_run 3 (by simp only [fwA, ↓reduceIte, Nat.reduceAdd, Nat.reduceMul, Nat.reduceEqDiff, Nat.reduceLT, Nat.reduceLeDiff, reduceCtorEq, hsub2] <;> rfl) ?_
  refine dops_idxRow (i := j - 1) I1_len rfl rfl rfl el29 rfl rfl hH (by omega) (by omega) ?_
  refine dops_loadRow (i := k + j - 1) (.int .i64 l[k + j - 1]) I1_len rfl rfl rfl ti3 rfl hH (by omega) (by rw [hal]) hay1 rfl (by rw [if_neg (by decide)]; rfl) ?_
  refine dops_run 1 (by simp only [fwA, ↓reduceIte, Nat.reduceAdd, Nat.reduceMul, Nat.reduceEqDiff, Nat.reduceLT, Nat.reduceLeDiff, reduceCtorEq, un29] <;> rfl) ?_
  refine dops_end ?_
  refine awp_cond (by simp only [fwA, ↓reduceIte, Nat.reduceAdd, Nat.reduceMul, Nat.reduceEqDiff, Nat.reduceLT, Nat.reduceLeDiff, reduceCtorEq] <;> rfl) ?_
  have hdec2 : decide (l[k + j] = l[k + j - 1]) = decide (l[k + j] = l[k + j - 1]) := rfl
  rw [hdec2]
  by_cases he2 : l[k + j] = l[k + j - 1]
  · simp only [he2, decide_true, Bool.not_true, Bool.false_eq_true, ↓reduceIte]
    refine awp_skip ?_
    refine awp_run rfl (by simp only [fwA, ↓reduceIte, Nat.reduceAdd, Nat.reduceMul, Nat.reduceEqDiff, Nat.reduceLT, Nat.reduceLeDiff, reduceCtorEq] <;> rfl) ?_
    have hcd : cpt l (k + (j + 1)) = cpt l (k + j) := cpt_dup (i := k + j) (by omega) hy (by rw [hy1, he2])
    refine ⟨(j + 1, arr), by show l.length - (k + (j + 1)) < l.length - (k + j); omega, ⟨by omega, by omega, hal, by show (cpt l (k + (j + 1))).length ≤ _; rw [hcd]; omega, hdr1, by show arr.take (cpt l (k + (j + 1))).length = _; rw [hcd]; exact htk⟩, ?_, rfl, rfl⟩
    simp only [fwA, ↓reduceIte, Nat.reduceAdd, Nat.reduceMul, Nat.reduceEqDiff, Nat.reduceLT, Nat.reduceLeDiff, reduceCtorEq, List.map_cons, List.map_nil, wrapS j (by omega), hcd]
  simp only [he2, decide_false, Bool.not_false, ↓reduceIte]
  refine awp_seq ?_
  refine awp_region rfl ?_
  refine aops_run 4 (by simp only [fwA, ↓reduceIte, Nat.reduceAdd, Nat.reduceMul, Nat.reduceEqDiff, Nat.reduceLT, Nat.reduceLeDiff, reduceCtorEq] <;> rfl) ?_
  refine aops_one rfl (os_idxRow I1_len rfl el29 rfl rfl hH (by omega) (by omega) ?_)
  refine aops_one rfl (os_loadRow (i := k + j) I1_len rfl ti3 rfl hH (by omega) (by rw [hal]) hay rfl (by rw [if_neg (by decide)]; rfl) ?_)
  refine aops_one rfl (os_idxRow I1_len rfl el29 rfl rfl hH (by omega) (by omega) ?_)
  refine aops_one rfl (os_putRow I1_len rfl ti3 rfl hH (Nat.zero_add _) (by rw [hal]) (by omega) rfl rfl rfl (by omega) ?_)
  refine aops_end ?_
  refine awp_run rfl (by simp only [fwA, ↓reduceIte, Nat.reduceAdd, Nat.reduceMul, Nat.reduceEqDiff, Nat.reduceLT, Nat.reduceLeDiff, reduceCtorEq] <;> rfl) ?_
  refine awp_run rfl (by simp only [fwA, ↓reduceIte, Nat.reduceAdd, Nat.reduceMul, Nat.reduceEqDiff, Nat.reduceLT, Nat.reduceLeDiff, reduceCtorEq] <;> rfl) ?_
  have hcn : cpt l (k + (j + 1)) = cpt l (k + j) ++ [l[k + j]] := cpt_new (i := k + j) hy (fun _ e => he2 (by rw [hy1] at e; exact (Option.some.inj e).symm))
  refine ⟨(j + 1, arr.set (cpt l (k + j)).length l[k + j]), by show l.length - (k + (j + 1)) < l.length - (k + j); omega, ⟨by omega, by omega, by rw [List.length_set]; exact hal, ?_, ?_, ?_⟩, ?_, hHs _, rfl⟩
  · show (cpt l (k + (j + 1))).length ≤ _
    rw [hcn, List.length_append]; simp; omega
  · show (arr.set _ _).drop (k + (j + 1) - 1) = _
    rw [List.drop_set_of_lt (by omega)]; exact hdr1
  · show (arr.set _ _).take (cpt l (k + (j + 1))).length = cpt l (k + (j + 1))
    rw [hcn, List.length_append, show [l[k + j]].length = 1 from rfl, List.take_add_one, List.take_set_of_le (Nat.le_refl _), htk, List.getElem?_set_self (by omega)]
    rfl
  · simp only [fwA, ↓reduceIte, Nat.reduceAdd, Nat.reduceMul, Nat.reduceEqDiff, Nat.reduceLT, Nat.reduceLeDiff, reduceCtorEq, List.map_cons, List.map_nil, wrapS j (by omega), hcn, List.length_append, List.length_cons, List.length_nil, Nat.zero_add, wrapS _ (show (cpt l (k + j)).length + 1 < 9223372036854775808 by omega)]

end Go.Proofs.YtdacialfjlcboaaGreatDoor

/- The contract of Norm. -/
namespace Go.Proofs.YtdacialfjlcboaaGreatDoor
set_option linter.unusedVariables false
set_option linter.unusedSimpArgs false
set_option maxRecDepth 100000
open Go.RowKit Fw

/-- Pairs in order. -/
def sortP (l : List Pr) : List Pr := (l.filter unl).mergeSort leP
/-- What Norm makes of pairs. -/
def normL (l : List Pr) : List Pr := cpt (sortP l) (sortP l).length

theorem sortP_len (l : List Pr) : (sortP l).length = (l.filter unl).length := List.length_mergeSort _
theorem take_pre {H H' : List Blk} (h : H'.take H.length = H) : H' = H ++ H'.drop H.length := by
  conv => lhs; rw [← List.take_append_drop H.length H', h]
theorem plain_flat {X : Type} {enc : X → List PV} (h : ∀ x, PV.plainL (enc x) = true) (l : List X) : PV.plainL ((l.map enc).flatten) = true := flat_bd h l

/- chancel/atom.Norm -/
theorem c17 (Γ : Nat → PV) (l : List Pr) (f : Bool) (hbl : l.length ≤ 1000000000000) : Gives Tryz.prog Γ 17 [.vec (l.map Pr.enc) f] (.vec ((normL l).map Pr.enc) false) := by
  refine fn_of_awp Tryz.func17 rfl (by simp [Tryz.f17]) rfl fun H => ?_
  have hll : (l.filter unl).length ≤ l.length := List.length_filter_le _ _
  refine awp_seq ?_
  refine awp_run rfl (by simp only [fwA, ↓reduceIte, Nat.reduceAdd, Nat.reduceMul, Nat.reduceEqDiff, Nat.reduceLT, Nat.reduceLeDiff, reduceCtorEq] <;> rfl) ?_
  refine awp_seq ?_
  refine awp_region rfl ?_
  refine aops_run 1 (by simp only [fwA, ↓reduceIte, Nat.reduceAdd, Nat.reduceMul, Nat.reduceEqDiff, Nat.reduceLT, Nat.reduceLeDiff, reduceCtorEq] <;> rfl) ?_
  refine aops_call rfl rfl rfl en39 ((c39 Γ H l f hbl).mono fun p H1 hp => ?_)
  obtain ⟨rfl, rfl⟩ := hp
  refine aops_call rfl rfl rfl en38 ((c38 Γ _ H.length H.length l (Nat.le_refl _) (by simp) hbl).mono fun p H2 hp => ?_)
  obtain ⟨b, rfl, hb, hnb, ht, _⟩ := hp
  rw [List.take_left' rfl] at ht
  refine aops_run 1 (by simp only [fwA, ↓reduceIte, Nat.reduceAdd, Nat.reduceMul, Nat.reduceEqDiff, Nat.reduceLT, Nat.reduceLeDiff, reduceCtorEq] <;> rfl) ?_
  refine awp_seq ?_
  refine awp_region rfl ?_
  refine aops_run 1 (by simp only [fwA, ↓reduceIte, Nat.reduceAdd, Nat.reduceMul, Nat.reduceEqDiff, Nat.reduceLT, Nat.reduceLeDiff, reduceCtorEq] <;> rfl) ?_
  refine aops_call rfl rfl rfl en41 ((sortPairs Γ H2 b (l.filter unl) hb (by omega)).mono fun p H3 hp => ?_)
  obtain ⟨rfl, rfl⟩ := hp
  refine aops_end ?_
  refine awp_seq ?_
  refine awp_region rfl ?_
  rw [← sortP_len]
  refine aops_run 1 (by simp only [fwA, ↓reduceIte, Nat.reduceAdd, Nat.reduceMul, Nat.reduceEqDiff, Nat.reduceLT, Nat.reduceLeDiff, reduceCtorEq] <;> rfl) ?_
  refine aops_call rfl rfl rfl en43 ((c43 Γ _ H.length b (sortP l) hnb (List.getElem?_set_self (List.getElem?_eq_some_iff.1 hb).1) (by rw [sortP_len]; omega)).mono fun p H4 hp => ?_)
  obtain ⟨b2, rfl, hb2, hnb2, ht2, _⟩ := hp
  rw [List.take_set_of_le hnb, ht] at ht2
  refine aops_run 1 (by simp only [fwA, ↓reduceIte, Nat.reduceAdd, Nat.reduceMul, Nat.reduceEqDiff, Nat.reduceLT, Nat.reduceLeDiff, reduceCtorEq] <;> rfl) ?_
  have hH4 := take_pre ht2
  generalize H4.drop H.length = L at hH4
  subst hH4
  obtain ⟨j, rfl⟩ : ∃ j, b2 = H.length + j := ⟨b2 - H.length, by omega⟩
  rw [List.getElem?_append_right (by omega), show H.length + j - H.length = j by omega] at hb2
  have hfold : cpt (sortP l) (sortP l).length = normL l := rfl
  rw [hfold] at hb2 ⊢
  refine awp_told (told_freezeAt H L j hb2 (plain_flat (fun _ => rfl) _)) ?_
  refine awp_ret ?_
  refine gives_end (.inl rfl) _ ?_
  have hl := flat_len Pr.enc_len (normL l)
  have hch := flat_chunk Pr.enc_len (normL l)
  simp only [fwA, ↓reduceIte, Nat.reduceAdd, Nat.reduceMul, Nat.reduceEqDiff, Nat.reduceLT, Nat.reduceLeDiff, reduceCtorEq, hl, hch]
  rfl

end Go.Proofs.YtdacialfjlcboaaGreatDoor

/- The contracts of what is gathered of pairs' atoms. -/
namespace Go.Proofs.YtdacialfjlcboaaGreatDoor
set_option linter.unusedVariables false
set_option linter.unusedSimpArgs false
set_option maxRecDepth 100000
open Go.RowKit Fw

/-- What one atom gives. -/
def outs (g : Int → Int × Bool) (a : Int) : List Int := if (g a).2 then [(g a).1] else []
/-- What all atoms of pairs give. -/
def outsP (g : Int → Int × Bool) (ps : List Pr) : List Int := ps.flatMap fun p => outs g p.a ++ outs g p.b
/-- Rising, each once. -/
def onceI (l : List Int) : List Int := cpt (l.mergeSort leI) (l.mergeSort leI).length
def gath (g : Int → Int × Bool) (ps : List Pr) : List Int := onceI (outsP g ps)

theorem outs_le (g : Int → Int × Bool) (a : Int) : (outs g a).length ≤ 1 := by unfold outs; split <;> simp
theorem outsP_le (g : Int → Int × Bool) (ps : List Pr) : (outsP g ps).length ≤ 2 * ps.length := by
  induction ps with
  | nil => simp [outsP]
  | cons p ps ih =>
    have h1 := outs_le g p.a
    have h2 := outs_le g p.b
    unfold outsP at ih ⊢
    rw [List.flatMap_cons, List.length_append, List.length_append, List.length_cons]
    omega
theorem outsP_snoc (g : Int → Int × Bool) (ps : List Pr) (i : Nat) (p : Pr) (h : ps[i]? = some p) : outsP g (ps.take (i + 1)) = outsP g (ps.take i) ++ (outs g p.a ++ outs g p.b) := by
  unfold outsP
  rw [List.take_add_one, h, List.flatMap_append]
  simp

/-- What the first j of two atoms give. -/
def inn (g : Int → Int × Bool) (a b : Int) : Nat → List Int
  | 0 => []
  | 1 => outs g a
  | _ => outs g a ++ outs g b
theorem inn_le (g : Int → Int × Bool) (a b : Int) (j : Nat) : (inn g a b j).length ≤ 2 := by
  have h1 := outs_le g a
  have h2 := outs_le g b
  unfold inn
  split <;> simp <;> omega
theorem take_pre' {H H' : List Blk} (h : H'.take H.length = H) : H' = H ++ H'.drop H.length := by
  conv => lhs; rw [← List.take_append_drop H.length H', h]

set_option maxHeartbeats 1000000 in
/- chancel/atom.gathered, atoms -/
theorem c33 (Γ : Nat → PV) (f : Nat) (he : Enters Tryz.prog f) (g : Int → Int × Bool) (ps : List Pr) (fl : Bool) (hbl : ps.length ≤ 100000000)
    (hf : ∀ p ∈ ps, Gives Tryz.prog Γ f [.int .i64 p.a] (.tup [.int .i64 (g p.a).1, .bool (g p.a).2]) ∧ Gives Tryz.prog Γ f [.int .i64 p.b] (.tup [.int .i64 (g p.b).1, .bool (g p.b).2])) :
    Gives Tryz.prog Γ 33 [.vec (ps.map Pr.enc) fl, .func (.func f) [] []] (.vec ((gath g ps).map I1) false) := by
  refine fn_of_awp Tryz.func33 rfl (by simp [Tryz.f33]) rfl fun H => ?_
  refine awp_bd fun hbd => ?_
  have hout := outsP_le g ps
  refine awp_seq ?_
  refine awp_run rfl (by simp only [fwA, ↓reduceIte, Nat.reduceAdd, Nat.reduceMul, Nat.reduceEqDiff, Nat.reduceLT, Nat.reduceLeDiff, reduceCtorEq] <;> rfl) ?_
  refine awp_seq ?_
  refine awp_run rfl (by simp only [fwA, ↓reduceIte, Nat.reduceAdd, Nat.reduceMul, Nat.reduceEqDiff, Nat.reduceLT, Nat.reduceLeDiff, reduceCtorEq] <;> rfl) ?_
  refine awp_seq ?_
  refine awp_seq ?_
  refine awp_run rfl (by simp only [fwA, ↓reduceIte, Nat.reduceAdd, Nat.reduceMul, Nat.reduceEqDiff, Nat.reduceLT, Nat.reduceLeDiff, reduceCtorEq, un22, List.length_map] <;> rfl) ?_
  refine awp_told (told_adopt 5 1 (by decide) rfl) ?_
  refine awp_block ?_
  refine awp_forG [1, 5, 12, 13, 14] (fun i : Nat => [.func (.func f) [] [], .row H.length 0 (outsP g (ps.take i)).length 1, .vec (ps.map Pr.enc) fl, .int .i64 (ps.length : Int), .int .i64 (i : Int)])
    (fun i => H ++ [.row 1 (((outsP g (ps.take i)).map I1).flatten)]) (fun i => ps.length - i) (fun i => i ≤ ps.length) 0 rfl rfl (Nat.zero_le _)
    (fun i _ => ⟨bd_app (fun B hB => hbd B hB) (by simp only [List.all_cons, List.all_nil, Blk.bd, flat_bd (fun x => I1_fw.2.2 _ x), Bool.and_true]), by simp [PV.bdL, PV.bd]⟩) (fun i _ b hb => by cases hb) fun i hi => ?_
  refine awp_seq ?_
  refine awp_run rfl (by simp only [fwA, ↓reduceIte, Nat.reduceAdd, Nat.reduceMul, Nat.reduceEqDiff, Nat.reduceLT, Nat.reduceLeDiff, reduceCtorEq] <;> rfl) ?_
  refine awp_seq ?_
  refine awp_cond (by simp only [fwA, ↓reduceIte, Nat.reduceAdd, Nat.reduceMul, Nat.reduceEqDiff, Nat.reduceLT, Nat.reduceLeDiff, reduceCtorEq] <;> rfl) ?_
  by_cases hc : (i : Int) < ps.length
  rotate_left
  · simp only [hc, decide_false, Bool.false_eq_true, ↓reduceIte]
    refine awp_exit ?_
    have e : i = ps.length := by omega
    subst e
    rw [List.take_length]
    have hb0 : (H ++ [Blk.row 1 (((outsP g ps).map I1).flatten)])[H.length]? = some (.row 1 (((outsP g ps).map I1).flatten)) := get_at0 H _
    refine awp_seq ?_
    refine awp_region rfl ?_
    refine aops_run 1 (by simp only [fwA, ↓reduceIte, Nat.reduceAdd, Nat.reduceMul, Nat.reduceEqDiff, Nat.reduceLT, Nat.reduceLeDiff, reduceCtorEq] <;> rfl) ?_
    refine aops_call rfl rfl rfl en53 ((sortInts sort53 Γ _ H.length (outsP g ps) hb0 (by omega)).mono fun p H1 hp => ?_)
    obtain ⟨rfl, rfl⟩ := hp
    refine aops_end ?_
    have hb1 : (H ++ [Blk.row 1 ((((outsP g ps).mergeSort leI).map I1).flatten)])[H.length]? = some (.row 1 ((((outsP g ps).mergeSort leI).map I1).flatten)) := get_at0 H _
    have hml : (outsP g ps).length = ((outsP g ps).mergeSort leI).length := (List.length_mergeSort _).symm
    refine awp_seq ?_
    refine awp_region rfl ?_
    rw [hml]
    refine aops_run 1 (by simp only [fwA, ↓reduceIte, Nat.reduceAdd, Nat.reduceMul, Nat.reduceEqDiff, Nat.reduceLT, Nat.reduceLeDiff, reduceCtorEq] <;> rfl) ?_
    refine aops_call rfl rfl rfl en54 ((c54 Γ _ H.length H.length ((outsP g ps).mergeSort leI) (Nat.le_refl _) hb1 (by omega)).mono fun p H4 hp => ?_)
    obtain ⟨b2, rfl, hb2, hnb2, ht2, _⟩ := hp
    rw [List.take_left' rfl] at ht2
    refine aops_run 1 (by simp only [fwA, ↓reduceIte, Nat.reduceAdd, Nat.reduceMul, Nat.reduceEqDiff, Nat.reduceLT, Nat.reduceLeDiff, reduceCtorEq] <;> rfl) ?_
    have hH4 := take_pre' ht2
    generalize H4.drop H.length = L at hH4
    subst hH4
    obtain ⟨j, rfl⟩ : ∃ j, b2 = H.length + j := ⟨b2 - H.length, by omega⟩
    rw [List.getElem?_append_right (by omega), show H.length + j - H.length = j by omega] at hb2
    have hfold : cpt ((outsP g ps).mergeSort leI) ((outsP g ps).mergeSort leI).length = gath g ps := rfl
    rw [hfold] at hb2 ⊢
    refine awp_told (told_freezeAt H L j hb2 (flat_bd (fun _ => rfl) _)) ?_
    refine awp_ret ?_
    refine gives_end (.inl rfl) _ ?_
    have hl := flat_len I1_len (gath g ps)
    have hch := flat_chunk I1_len (gath g ps)
    simp only [fwA, ↓reduceIte, Nat.reduceAdd, Nat.reduceMul, Nat.reduceEqDiff, Nat.reduceLT, Nat.reduceLeDiff, reduceCtorEq, hl, hch]
    rfl
  simp only [hc, decide_true, ↓reduceIte]
  refine awp_skip ?_
  have hil : i < ps.length := by omega
  have ga : ps[i]? = some ps[i] := List.getElem?_eq_getElem hil
  obtain ⟨hfa, hfb⟩ := hf ps[i] (List.getElem_mem hil)
  have hacc := outsP_le g (ps.take i)
  have hnext := outsP_snoc g ps i _ ga
  rw [List.length_take] at hacc
  generalize ps[i] = p at ga hfa hfb hnext
  generalize outsP g (ps.take i) = acc at hacc hnext
  refine awp_seq ?_
  refine awp_block ?_
  refine awp_seq ?_
  refine awp_run rfl (by simp only [fwA, ↓reduceIte, Nat.reduceAdd, Nat.reduceMul, Nat.reduceEqDiff, Nat.reduceLT, Nat.reduceLeDiff, reduceCtorEq, el22, ti53, Pr.fw, List.getElem?_map, ga, Option.map_some, Int.natCast_nonneg] <;> rfl) ?_
  refine awp_seq ?_
  refine awp_run rfl (by simp only [fwA, ↓reduceIte, Nat.reduceAdd, Nat.reduceMul, Nat.reduceEqDiff, Nat.reduceLT, Nat.reduceLeDiff, reduceCtorEq, fl53_0, ti24, fl53_1, un23, Pr.fw] <;> rfl) ?_
  refine awp_block ?_
  refine awp_for [1, 5, 12, 13, 14, 22, 23, 24] (fun j : Nat => [.func (.func f) [] [], .row H.length 0 (acc ++ inn g p.a p.b j).length 1, .vec (ps.map Pr.enc) fl, .int .i64 (ps.length : Int), .int .i64 (i : Int), .vec [[.int .i64 p.a], [.int .i64 p.b]] true, .int .i64 2, .int .i64 (j : Int)])
    (fun j => H ++ [.row 1 (((acc ++ inn g p.a p.b j).map I1).flatten), .box p.enc]) (fun j => 2 - j) (fun j => j ≤ 2) 0 (by simp only [fwA, ↓reduceIte, Nat.reduceAdd, Nat.reduceMul, Nat.reduceEqDiff, Nat.reduceLT, Nat.reduceLeDiff, reduceCtorEq, List.map_cons, List.map_nil, inn, List.append_nil]; rfl) (by simp only [inn, List.append_nil, List.append_assoc]) (by omega) fun j hj => ?_
  refine awp_seq ?_
  refine awp_run rfl (by simp only [fwA, ↓reduceIte, Nat.reduceAdd, Nat.reduceMul, Nat.reduceEqDiff, Nat.reduceLT, Nat.reduceLeDiff, reduceCtorEq] <;> rfl) ?_
  refine awp_seq ?_
  refine awp_cond (by simp only [fwA, ↓reduceIte, Nat.reduceAdd, Nat.reduceMul, Nat.reduceEqDiff, Nat.reduceLT, Nat.reduceLeDiff, reduceCtorEq] <;> rfl) ?_
  obtain rfl | hlt : j = 2 ∨ j < 2 := by omega
  · have h2 : ¬ ((2 : Nat) : Int) < 2 := by omega
    simp only [h2, decide_false, Bool.false_eq_true, ↓reduceIte]
    refine awp_exit ?_
    refine awp_run rfl (by simp only [fwA, ↓reduceIte, Nat.reduceAdd, Nat.reduceMul, Nat.reduceEqDiff, Nat.reduceLT, Nat.reduceLeDiff, reduceCtorEq] <;> rfl) ?_
    refine ⟨i + 1, [.box p.enc], by omega, by omega, ?_, ?_, rfl, by simp⟩
    · rw [hnext]; simp only [fwA, ↓reduceIte, Nat.reduceAdd, Nat.reduceMul, Nat.reduceEqDiff, Nat.reduceLT, Nat.reduceLeDiff, reduceCtorEq, List.map_cons, List.map_nil, wrapS i (by omega), inn]
    · rw [hnext]; simp only [inn, List.append_assoc]; rfl
  have h2 : (j : Int) < 2 := by omega
  simp only [h2, decide_true, ↓reduceIte]
  refine awp_skip ?_
  obtain ⟨x, hx, hfx, hin⟩ : ∃ x, [[PV.int .i64 p.a], [PV.int .i64 p.b]][j]? = some [.int .i64 x] ∧ Gives Tryz.prog Γ f [.int .i64 x] (.tup [.int .i64 (g x).1, .bool (g x).2]) ∧ inn g p.a p.b (j + 1) = inn g p.a p.b j ++ outs g x := by
    obtain rfl | rfl : j = 0 ∨ j = 1 := by omega
    · exact ⟨p.a, rfl, hfa, rfl⟩
    · exact ⟨p.b, rfl, hfb, rfl⟩
  have hwj : IntKind.i64.wrap ((j : Int) + 1) = ((j + 1 : Nat) : Int) := wrapS j (by omega)
  have hinl := inn_le g p.a p.b j
  refine awp_seq ?_
  refine awp_block ?_
  refine awp_seq ?_
  refine awp_run rfl (by simp only [fwA, ↓reduceIte, Nat.reduceAdd, Nat.reduceMul, Nat.reduceEqDiff, Nat.reduceLT, Nat.reduceLeDiff, reduceCtorEq, el23, ti24, Int.toNat_natCast, Int.natCast_nonneg, hx] <;> rfl) ?_
  refine awp_seq ?_
  refine awp_region rfl ?_
  refine aops_run 2 (by simp only [fwA, ↓reduceIte, Nat.reduceAdd, Nat.reduceMul, Nat.reduceEqDiff, Nat.reduceLT, Nat.reduceLeDiff, reduceCtorEq] <;> rfl) ?_
  refine aops_fn rfl rfl rfl he hfx ?_
  refine aops_run 5 (by simp only [fwA, ↓reduceIte, Nat.reduceAdd, Nat.reduceMul, Nat.reduceEqDiff, Nat.reduceLT, Nat.reduceLeDiff, reduceCtorEq] <;> rfl) ?_
  refine awp_seq ?_
  refine awp_run rfl (by simp only [fwA, ↓reduceIte, Nat.reduceAdd, Nat.reduceMul, Nat.reduceEqDiff, Nat.reduceLT, Nat.reduceLeDiff, reduceCtorEq] <;> rfl) ?_
  refine awp_cond (by simp only [fwA, ↓reduceIte, Nat.reduceAdd, Nat.reduceMul, Nat.reduceEqDiff, Nat.reduceLT, Nat.reduceLeDiff, reduceCtorEq] <;> rfl) ?_
  cases hg : (g x).2 with
  | false =>
    have ho : outs g x = [] := by unfold outs; rw [hg]; rfl
    rw [ho, List.append_nil] at hin
    simp only [Bool.false_eq_true, ↓reduceIte]
    refine awp_skip ?_
    refine awp_run rfl (by simp only [fwA, ↓reduceIte, Nat.reduceAdd, Nat.reduceMul, Nat.reduceEqDiff, Nat.reduceLT, Nat.reduceLeDiff, reduceCtorEq] <;> rfl) ?_
    refine ⟨j + 1, by omega, by omega, ?_, by rw [hin], rfl⟩
    rw [hin]; simp only [fwA, ↓reduceIte, Nat.reduceAdd, Nat.reduceMul, Nat.reduceEqDiff, Nat.reduceLT, Nat.reduceLeDiff, reduceCtorEq, List.map_cons, List.map_nil, hwj]
  | true =>
    have ho : outs g x = [(g x).1] := by unfold outs; rw [hg]; rfl
    rw [ho] at hin
    simp only [↓reduceIte]
    have hfl := flat_len I1_len (acc ++ inn g p.a p.b j)
    refine awp_region rfl ?_
    refine aops_run 3 (by simp only [fwA, ↓reduceIte, Nat.reduceAdd, Nat.reduceMul, Nat.reduceEqDiff, Nat.reduceLT, Nat.reduceLeDiff, reduceCtorEq, un23, ti24] <;> rfl) ?_
    refine aops_one rfl (os_appendR rfl un23 ti24 un23 (.inl ⟨_, rfl⟩) rfl (get_at0 H _) (by rw [hfl]; exact (Nat.zero_add _).symm) rfl (fun es f h e he => by
      simp only [fwA, ↓reduceIte, Nat.reduceAdd, Nat.reduceMul, Nat.reduceEqDiff, Nat.reduceLT, Nat.reduceLeDiff, reduceCtorEq, PV.vec.injEq] at h
      obtain ⟨rfl, rfl⟩ := h
      simp only [List.mem_singleton] at he
      subst he; rfl) rfl (by simp only [List.length_append]; show (_ + _ + 1) * 8 ≤ _; omega) (by simp only [List.length_append]; show _ + _ + 1 ≤ _; omega) ?_)
    refine aops_run 1 (by simp only [fwA, ↓reduceIte, Nat.reduceAdd, Nat.reduceMul, Nat.reduceEqDiff, Nat.reduceLT, Nat.reduceLeDiff, reduceCtorEq] <;> rfl) ?_
    refine awp_run rfl (by simp only [fwA, ↓reduceIte, Nat.reduceAdd, Nat.reduceMul, Nat.reduceEqDiff, Nat.reduceLT, Nat.reduceLeDiff, reduceCtorEq] <;> rfl) ?_
    have hap : acc ++ inn g p.a p.b (j + 1) = (acc ++ inn g p.a p.b j) ++ [(g x).1] := by rw [hin, List.append_assoc]
    refine ⟨j + 1, by omega, by omega, ?_, ?_, rfl⟩
    · rw [hap]
      generalize acc ++ inn g p.a p.b j = acc2
      simp only [fwA, ↓reduceIte, Nat.reduceAdd, Nat.reduceMul, Nat.reduceEqDiff, Nat.reduceLT, Nat.reduceLeDiff, reduceCtorEq, List.map_cons, List.map_nil, hwj, List.length_append]
      rfl
    · rw [hap]
      generalize acc ++ inn g p.a p.b j = acc2
      rw [List.map_append, List.flatten_append]
      simp [I1]

set_option maxHeartbeats 1000000 in
/- chancel/atom.gathered, numbers -/
theorem c36 (Γ : Nat → PV) (f : Nat) (he : Enters Tryz.prog f) (g : Int → Int × Bool) (ps : List Pr) (fl : Bool) (hbl : ps.length ≤ 100000000)
    (hf : ∀ p ∈ ps, Gives Tryz.prog Γ f [.int .i64 p.a] (.tup [.int .i64 (g p.a).1, .bool (g p.a).2]) ∧ Gives Tryz.prog Γ f [.int .i64 p.b] (.tup [.int .i64 (g p.b).1, .bool (g p.b).2])) :
    Gives Tryz.prog Γ 36 [.vec (ps.map Pr.enc) fl, .func (.func f) [] []] (.vec ((gath g ps).map I1) false) := by
  refine fn_of_awp Tryz.func36 rfl (by simp [Tryz.f36]) rfl fun H => ?_
  refine awp_bd fun hbd => ?_
  have hout := outsP_le g ps
  refine awp_seq ?_
  refine awp_run rfl (by simp only [fwA, ↓reduceIte, Nat.reduceAdd, Nat.reduceMul, Nat.reduceEqDiff, Nat.reduceLT, Nat.reduceLeDiff, reduceCtorEq] <;> rfl) ?_
  refine awp_seq ?_
  refine awp_run rfl (by simp only [fwA, ↓reduceIte, Nat.reduceAdd, Nat.reduceMul, Nat.reduceEqDiff, Nat.reduceLT, Nat.reduceLeDiff, reduceCtorEq] <;> rfl) ?_
  refine awp_seq ?_
  refine awp_seq ?_
  refine awp_run rfl (by simp only [fwA, ↓reduceIte, Nat.reduceAdd, Nat.reduceMul, Nat.reduceEqDiff, Nat.reduceLT, Nat.reduceLeDiff, reduceCtorEq, un22, List.length_map] <;> rfl) ?_
  refine awp_told (told_adopt 5 1 (by decide) rfl) ?_
  refine awp_block ?_
  refine awp_forG [1, 5, 12, 13, 14] (fun i : Nat => [.func (.func f) [] [], .row H.length 0 (outsP g (ps.take i)).length 1, .vec (ps.map Pr.enc) fl, .int .i64 (ps.length : Int), .int .i64 (i : Int)])
    (fun i => H ++ [.row 1 (((outsP g (ps.take i)).map I1).flatten)]) (fun i => ps.length - i) (fun i => i ≤ ps.length) 0 rfl rfl (Nat.zero_le _)
    (fun i _ => ⟨bd_app (fun B hB => hbd B hB) (by simp only [List.all_cons, List.all_nil, Blk.bd, flat_bd (fun x => I1_fw.2.2 _ x), Bool.and_true]), by simp [PV.bdL, PV.bd]⟩) (fun i _ b hb => by cases hb) fun i hi => ?_
  refine awp_seq ?_
  refine awp_run rfl (by simp only [fwA, ↓reduceIte, Nat.reduceAdd, Nat.reduceMul, Nat.reduceEqDiff, Nat.reduceLT, Nat.reduceLeDiff, reduceCtorEq] <;> rfl) ?_
  refine awp_seq ?_
  refine awp_cond (by simp only [fwA, ↓reduceIte, Nat.reduceAdd, Nat.reduceMul, Nat.reduceEqDiff, Nat.reduceLT, Nat.reduceLeDiff, reduceCtorEq] <;> rfl) ?_
  by_cases hc : (i : Int) < ps.length
  rotate_left
  · simp only [hc, decide_false, Bool.false_eq_true, ↓reduceIte]
    refine awp_exit ?_
    have e : i = ps.length := by omega
    subst e
    rw [List.take_length]
    have hb0 : (H ++ [Blk.row 1 (((outsP g ps).map I1).flatten)])[H.length]? = some (.row 1 (((outsP g ps).map I1).flatten)) := get_at0 H _
    refine awp_seq ?_
    refine awp_region rfl ?_
    refine aops_run 1 (by simp only [fwA, ↓reduceIte, Nat.reduceAdd, Nat.reduceMul, Nat.reduceEqDiff, Nat.reduceLT, Nat.reduceLeDiff, reduceCtorEq] <;> rfl) ?_
    refine aops_call rfl rfl rfl en55 ((sortInts sort55 Γ _ H.length (outsP g ps) hb0 (by omega)).mono fun p H1 hp => ?_)
    obtain ⟨rfl, rfl⟩ := hp
    refine aops_end ?_
    have hb1 : (H ++ [Blk.row 1 ((((outsP g ps).mergeSort leI).map I1).flatten)])[H.length]? = some (.row 1 ((((outsP g ps).mergeSort leI).map I1).flatten)) := get_at0 H _
    have hml : (outsP g ps).length = ((outsP g ps).mergeSort leI).length := (List.length_mergeSort _).symm
    refine awp_seq ?_
    refine awp_region rfl ?_
    rw [hml]
    refine aops_run 1 (by simp only [fwA, ↓reduceIte, Nat.reduceAdd, Nat.reduceMul, Nat.reduceEqDiff, Nat.reduceLT, Nat.reduceLeDiff, reduceCtorEq] <;> rfl) ?_
    refine aops_call rfl rfl rfl en56 ((c56 Γ _ H.length H.length ((outsP g ps).mergeSort leI) (Nat.le_refl _) hb1 (by omega)).mono fun p H4 hp => ?_)
    obtain ⟨b2, rfl, hb2, hnb2, ht2, _⟩ := hp
    rw [List.take_left' rfl] at ht2
    refine aops_run 1 (by simp only [fwA, ↓reduceIte, Nat.reduceAdd, Nat.reduceMul, Nat.reduceEqDiff, Nat.reduceLT, Nat.reduceLeDiff, reduceCtorEq] <;> rfl) ?_
    have hH4 := take_pre' ht2
    generalize H4.drop H.length = L at hH4
    subst hH4
    obtain ⟨j, rfl⟩ : ∃ j, b2 = H.length + j := ⟨b2 - H.length, by omega⟩
    rw [List.getElem?_append_right (by omega), show H.length + j - H.length = j by omega] at hb2
    have hfold : cpt ((outsP g ps).mergeSort leI) ((outsP g ps).mergeSort leI).length = gath g ps := rfl
    rw [hfold] at hb2 ⊢
    refine awp_told (told_freezeAt H L j hb2 (flat_bd (fun _ => rfl) _)) ?_
    refine awp_ret ?_
    refine gives_end (.inl rfl) _ ?_
    have hl := flat_len I1_len (gath g ps)
    have hch := flat_chunk I1_len (gath g ps)
    simp only [fwA, ↓reduceIte, Nat.reduceAdd, Nat.reduceMul, Nat.reduceEqDiff, Nat.reduceLT, Nat.reduceLeDiff, reduceCtorEq, hl, hch]
    rfl
  simp only [hc, decide_true, ↓reduceIte]
  refine awp_skip ?_
  have hil : i < ps.length := by omega
  have ga : ps[i]? = some ps[i] := List.getElem?_eq_getElem hil
  obtain ⟨hfa, hfb⟩ := hf ps[i] (List.getElem_mem hil)
  have hacc := outsP_le g (ps.take i)
  have hnext := outsP_snoc g ps i _ ga
  rw [List.length_take] at hacc
  generalize ps[i] = p at ga hfa hfb hnext
  generalize outsP g (ps.take i) = acc at hacc hnext
  refine awp_seq ?_
  refine awp_block ?_
  refine awp_seq ?_
  refine awp_run rfl (by simp only [fwA, ↓reduceIte, Nat.reduceAdd, Nat.reduceMul, Nat.reduceEqDiff, Nat.reduceLT, Nat.reduceLeDiff, reduceCtorEq, el22, ti53, Pr.fw, List.getElem?_map, ga, Option.map_some, Int.natCast_nonneg] <;> rfl) ?_
  refine awp_seq ?_
  refine awp_run rfl (by simp only [fwA, ↓reduceIte, Nat.reduceAdd, Nat.reduceMul, Nat.reduceEqDiff, Nat.reduceLT, Nat.reduceLeDiff, reduceCtorEq, fl53_0, ti24, fl53_1, un23, Pr.fw] <;> rfl) ?_
  refine awp_block ?_
  refine awp_for [1, 5, 12, 13, 14, 22, 23, 24] (fun j : Nat => [.func (.func f) [] [], .row H.length 0 (acc ++ inn g p.a p.b j).length 1, .vec (ps.map Pr.enc) fl, .int .i64 (ps.length : Int), .int .i64 (i : Int), .vec [[.int .i64 p.a], [.int .i64 p.b]] true, .int .i64 2, .int .i64 (j : Int)])
    (fun j => H ++ [.row 1 (((acc ++ inn g p.a p.b j).map I1).flatten), .box p.enc]) (fun j => 2 - j) (fun j => j ≤ 2) 0 (by simp only [fwA, ↓reduceIte, Nat.reduceAdd, Nat.reduceMul, Nat.reduceEqDiff, Nat.reduceLT, Nat.reduceLeDiff, reduceCtorEq, List.map_cons, List.map_nil, inn, List.append_nil]; rfl) (by simp only [inn, List.append_nil, List.append_assoc]) (by omega) fun j hj => ?_
  refine awp_seq ?_
  refine awp_run rfl (by simp only [fwA, ↓reduceIte, Nat.reduceAdd, Nat.reduceMul, Nat.reduceEqDiff, Nat.reduceLT, Nat.reduceLeDiff, reduceCtorEq] <;> rfl) ?_
  refine awp_seq ?_
  refine awp_cond (by simp only [fwA, ↓reduceIte, Nat.reduceAdd, Nat.reduceMul, Nat.reduceEqDiff, Nat.reduceLT, Nat.reduceLeDiff, reduceCtorEq] <;> rfl) ?_
  obtain rfl | hlt : j = 2 ∨ j < 2 := by omega
  · have h2 : ¬ ((2 : Nat) : Int) < 2 := by omega
    simp only [h2, decide_false, Bool.false_eq_true, ↓reduceIte]
    refine awp_exit ?_
    refine awp_run rfl (by simp only [fwA, ↓reduceIte, Nat.reduceAdd, Nat.reduceMul, Nat.reduceEqDiff, Nat.reduceLT, Nat.reduceLeDiff, reduceCtorEq] <;> rfl) ?_
    refine ⟨i + 1, [.box p.enc], by omega, by omega, ?_, ?_, rfl, by simp⟩
    · rw [hnext]; simp only [fwA, ↓reduceIte, Nat.reduceAdd, Nat.reduceMul, Nat.reduceEqDiff, Nat.reduceLT, Nat.reduceLeDiff, reduceCtorEq, List.map_cons, List.map_nil, wrapS i (by omega), inn]
    · rw [hnext]; simp only [inn, List.append_assoc]; rfl
  have h2 : (j : Int) < 2 := by omega
  simp only [h2, decide_true, ↓reduceIte]
  refine awp_skip ?_
  obtain ⟨x, hx, hfx, hin⟩ : ∃ x, [[PV.int .i64 p.a], [PV.int .i64 p.b]][j]? = some [.int .i64 x] ∧ Gives Tryz.prog Γ f [.int .i64 x] (.tup [.int .i64 (g x).1, .bool (g x).2]) ∧ inn g p.a p.b (j + 1) = inn g p.a p.b j ++ outs g x := by
    obtain rfl | rfl : j = 0 ∨ j = 1 := by omega
    · exact ⟨p.a, rfl, hfa, rfl⟩
    · exact ⟨p.b, rfl, hfb, rfl⟩
  have hwj : IntKind.i64.wrap ((j : Int) + 1) = ((j + 1 : Nat) : Int) := wrapS j (by omega)
  have hinl := inn_le g p.a p.b j
  refine awp_seq ?_
  refine awp_block ?_
  refine awp_seq ?_
  refine awp_run rfl (by simp only [fwA, ↓reduceIte, Nat.reduceAdd, Nat.reduceMul, Nat.reduceEqDiff, Nat.reduceLT, Nat.reduceLeDiff, reduceCtorEq, el23, ti24, Int.toNat_natCast, Int.natCast_nonneg, hx] <;> rfl) ?_
  refine awp_seq ?_
  refine awp_region rfl ?_
  refine aops_run 2 (by simp only [fwA, ↓reduceIte, Nat.reduceAdd, Nat.reduceMul, Nat.reduceEqDiff, Nat.reduceLT, Nat.reduceLeDiff, reduceCtorEq] <;> rfl) ?_
  refine aops_fn rfl rfl rfl he hfx ?_
  refine aops_run 5 (by simp only [fwA, ↓reduceIte, Nat.reduceAdd, Nat.reduceMul, Nat.reduceEqDiff, Nat.reduceLT, Nat.reduceLeDiff, reduceCtorEq] <;> rfl) ?_
  refine awp_seq ?_
  refine awp_run rfl (by simp only [fwA, ↓reduceIte, Nat.reduceAdd, Nat.reduceMul, Nat.reduceEqDiff, Nat.reduceLT, Nat.reduceLeDiff, reduceCtorEq] <;> rfl) ?_
  refine awp_cond (by simp only [fwA, ↓reduceIte, Nat.reduceAdd, Nat.reduceMul, Nat.reduceEqDiff, Nat.reduceLT, Nat.reduceLeDiff, reduceCtorEq] <;> rfl) ?_
  cases hg : (g x).2 with
  | false =>
    have ho : outs g x = [] := by unfold outs; rw [hg]; rfl
    rw [ho, List.append_nil] at hin
    simp only [Bool.false_eq_true, ↓reduceIte]
    refine awp_skip ?_
    refine awp_run rfl (by simp only [fwA, ↓reduceIte, Nat.reduceAdd, Nat.reduceMul, Nat.reduceEqDiff, Nat.reduceLT, Nat.reduceLeDiff, reduceCtorEq] <;> rfl) ?_
    refine ⟨j + 1, by omega, by omega, ?_, by rw [hin], rfl⟩
    rw [hin]; simp only [fwA, ↓reduceIte, Nat.reduceAdd, Nat.reduceMul, Nat.reduceEqDiff, Nat.reduceLT, Nat.reduceLeDiff, reduceCtorEq, List.map_cons, List.map_nil, hwj]
  | true =>
    have ho : outs g x = [(g x).1] := by unfold outs; rw [hg]; rfl
    rw [ho] at hin
    simp only [↓reduceIte]
    have hfl := flat_len I1_len (acc ++ inn g p.a p.b j)
    refine awp_region rfl ?_
    refine aops_run 3 (by simp only [fwA, ↓reduceIte, Nat.reduceAdd, Nat.reduceMul, Nat.reduceEqDiff, Nat.reduceLT, Nat.reduceLeDiff, reduceCtorEq, un29, ti3] <;> rfl) ?_
    refine aops_one rfl (os_appendR rfl un29 ti3 un29 (.inl ⟨_, rfl⟩) rfl (get_at0 H _) (by rw [hfl]; exact (Nat.zero_add _).symm) rfl (fun es f h e he => by
      simp only [fwA, ↓reduceIte, Nat.reduceAdd, Nat.reduceMul, Nat.reduceEqDiff, Nat.reduceLT, Nat.reduceLeDiff, reduceCtorEq, PV.vec.injEq] at h
      obtain ⟨rfl, rfl⟩ := h
      simp only [List.mem_singleton] at he
      subst he; rfl) rfl (by simp only [List.length_append]; show (_ + _ + 1) * 8 ≤ _; omega) (by simp only [List.length_append]; show _ + _ + 1 ≤ _; omega) ?_)
    refine aops_run 1 (by simp only [fwA, ↓reduceIte, Nat.reduceAdd, Nat.reduceMul, Nat.reduceEqDiff, Nat.reduceLT, Nat.reduceLeDiff, reduceCtorEq] <;> rfl) ?_
    refine awp_run rfl (by simp only [fwA, ↓reduceIte, Nat.reduceAdd, Nat.reduceMul, Nat.reduceEqDiff, Nat.reduceLT, Nat.reduceLeDiff, reduceCtorEq] <;> rfl) ?_
    have hap : acc ++ inn g p.a p.b (j + 1) = (acc ++ inn g p.a p.b j) ++ [(g x).1] := by rw [hin, List.append_assoc]
    refine ⟨j + 1, by omega, by omega, ?_, ?_, rfl⟩
    · rw [hap]
      generalize acc ++ inn g p.a p.b j = acc2
      simp only [fwA, ↓reduceIte, Nat.reduceAdd, Nat.reduceMul, Nat.reduceEqDiff, Nat.reduceLT, Nat.reduceLeDiff, reduceCtorEq, List.map_cons, List.map_nil, hwj, List.length_append]
      rfl
    · rw [hap]
      generalize acc ++ inn g p.a p.b j = acc2
      rw [List.map_append, List.flatten_append]
      simp [I1]

end Go.Proofs.YtdacialfjlcboaaGreatDoor
