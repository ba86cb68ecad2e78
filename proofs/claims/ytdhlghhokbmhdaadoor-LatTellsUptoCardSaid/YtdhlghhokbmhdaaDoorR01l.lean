/- The contracts of texts that are cut, and joined; of a row's line. -/
import Derived.Test.YtdhlghhokbmhdaaDoorR01k
import Derived.Test.YtdhlghhokbmhdaaDoorLJ01
import Derived.Test.YtdhlghhokbmhdaaDoorZ01
import Derived.Test.YtdhlghhokbmhdaaDoorL01g
namespace Go.Proofs.YtdhlghhokbmhdaaDoor
set_option linter.unusedVariables false
set_option linter.unusedSimpArgs false
set_option maxRecDepth 100000
open Go.RowKit Go.Shelf Fw

/-- A variable of the library's that holds a number. -/
def TabM (Γ : Nat → PV) : Prop := ∃ m : Int, Γ 1 = .cptr (([m] : List Int).map fun z => .int .i64 z)
theorem gMax : Tryd.prog.globalNamed "internal/bytealg.MaxLen" = some 1 := by kernel_rfl

/- strings.Split at one byte -/
theorem c34 (Γ : Nat → PV) (hΓ : TabM Γ) (s : List UInt8) (c : UInt8) (hs : s.length < 4294967281) : Gives Tryd.prog Γ 34 [.str s, .str [c]] (.vec ((splitL c s).map S1) false) := by
  intro H w0 G w us hsim hr
  obtain ⟨m, hm⟩ := hΓ
  obtain ⟨l⟩ := us
  obtain ⟨v, vs, rfl, r1, r2⟩ := hr.cons_inv
  obtain ⟨v2, vs, rfl, r3, r4⟩ := r2.cons_inv
  have : vs = [] := by have := r4.1; simpa using this.symm
  subst this
  have hv1 := r1.str_inv
  subst hv1
  have hv2 := r3.str_inv
  subst hv2
  have h1c : 1 ≤ (⟨[c].toArray⟩ : ByteArray).size := by show 1 ≤ [c].toArray.size; simp
  have htab := hsim.table gMax hm
  have hcell := htab.cell gMax 0 (by simp)
  have hcall := Any.strings_Split splits (by kernel_rfl) ⟨s.toArray⟩ ⟨[c].toArray⟩ m w (by show s.toArray.size < _; simpa using hs) hcell h1c
  refine callsIn_wide.2 (hcall.mono fun e w' hq => ?_)
  obtain ⟨rfl, rfl⟩ := hq
  have hcnt : Lib.countB ⟨s.toArray⟩ ⟨[c].toArray⟩ = Lib.count s [c] := rfl
  have hpc : (Lib.splitB ⟨[c].toArray⟩ 0 (Lib.countB ⟨s.toArray⟩ ⟨[c].toArray⟩) ⟨s.toArray⟩).map (·.data.toList) = splitL c s := by
    rw [Lib.splitB_data, ← split_one]; rfl
  have hlen := Lib.splitB_all ⟨[c].toArray⟩ h1c 0 _ ⟨s.toArray⟩ rfl
  generalize Lib.countB ⟨s.toArray⟩ ⟨[c].toArray⟩ = k at hpc hlen ⊢
  have hval : (Lib.splitB ⟨[c].toArray⟩ 0 k ⟨s.toArray⟩).map Value.string = (splitL c s).map fun t => Value.string ⟨t.toArray⟩ := by
    rw [← hpc, List.map_map]
    exact List.map_congr_left fun t _ => by simp
  rw [hval]
  have hl2 : (splitL c s).length = k + 1 := by rw [← hpc, List.length_map, hlen]
  have hsl := splitL_len c s
  have hpiece : ∀ t ∈ splitL c s, t.length ≤ 9223372036854775807 := fun t ht => by
    have := splitL_mem ht; omega
  have hown : (w.alloc (.cells ((splitL c s).map fun t => Value.string ⟨t.toArray⟩).toArray (splits_ren.t 9))).ownsRow w.heap.size 9 1 (.slice (some ⟨w.heap.size, 0, none⟩) (k + 1) (k + 1)) (splitL c s).length ((splitL c s).map fun t => Value.string ⟨t.toArray⟩) := by
    refine ⟨by simp, .inr ⟨w.heap.size, k + 1, ((splitL c s).map fun t => Value.string ⟨t.toArray⟩).toArray, by rw [hl2], Nat.le_refl _, ?_, by omega, by unfold maxLen; omega, by simp [hl2], ?_⟩⟩
    · show (w.heap.push _)[w.heap.size]? = _
      rw [Array.getElem?_push_size]; rfl
    · rw [Nat.mul_one]
      exact List.take_of_length_le (by simp)
  obtain ⟨G', g1, g2, g3⟩ := hsim.newOwn (encP := fun t => PV.str t) (encV := fun t => Value.string ⟨t.toArray⟩) ((Below.refl _ _).alloc (Nat.le_refl _) _) hown (Nat.le_refl _) (fun x hx G => .str _ _ (hpiece x hx)) (fun _ => rfl)
  exact ⟨_, _, H, G', rfl, g1, g3 _, g2, Nat.le_refl _, rfl, rfl⟩

/- strings.Join -/
theorem c59 (Γ : Nat → PV) (ts : List (List UInt8)) (sep : List UInt8) (hne : ts ≠ []) (hN : ts.length ≤ 1000000000000) (hlen : (Lib.join ts sep).length ≤ 140737488355328) :
    Gives Tryd.prog Γ 59 [.vec (ts.map S1) false, .str sep] (.str (Lib.join ts sep)) := by
  intro H w0 G w us hs hr
  obtain ⟨l⟩ := us
  obtain ⟨v, vs, rfl, r1, r2⟩ := hr.cons_inv
  obtain ⟨v2, vs, rfl, r3, r4⟩ := r2.cons_inv
  have : vs = [] := by have := r4.1; simpa using this.symm
  subst this
  have hv2 := r3.str_inv
  subst hv2
  have hxs : ((ts.map fun s => (⟨s.toArray⟩ : ByteArray)).map (·.data.toList)) = ts := by
    rw [List.map_map]
    conv => rhs; rw [← List.map_id ts]
    exact List.map_congr_left fun s _ => by simp
  generalize hes : ts.map S1 = es at r1
  have hel : es.length = ts.length := by rw [← hes, List.length_map]
  cases r1 with
  | vec0 => exact absurd (List.eq_nil_of_length_eq_zero (by simpa using hel.symm)) hne
  | vec _ _ _ b o sz cap vs k1 k2 k3 k4 k5 k6 k7 =>
    have hat : ∀ (j : Nat) s, ts[j]? = some s → es[j]? = some [.str s] := fun j s h => by rw [← hes, List.getElem?_map, h]; rfl
    have hsz : sz = 1 := by
      obtain ⟨s, ts', rfl⟩ := List.exists_cons_of_ne_nil hne
      have := k4 [.str s] (List.mem_of_getElem? (hat 0 s rfl))
      simpa using this.symm
    subst hsz
    have hcell : ∀ (j : Nat) s, ts[j]? = some s → w.cell? ⟨b, o + j, none⟩ = some (.string ⟨s.toArray⟩) := fun j s h => by
      have a1 := hs.mem _ _ (k5 j 0 _ _ (hat j s h) rfl)
      have a2 := k6 j 0 _ _ (hat j s h) rfl
      have a3 := a2.str_inv
      rw [show o + (j * 1 + 0) = o + j by omega] at a1
      rw [a1, a3]
    have hbk : b < w.heap.size := by
      obtain ⟨s, ts', rfl⟩ := List.exists_cons_of_ne_nil hne
      exact World.block_lt_of_cell? w _ (hcell 0 s rfl)
    have hc := Any.strings_Join joins extra b o cap (ts.map fun s => (⟨s.toArray⟩ : ByteArray)) ⟨sep.toArray⟩ w (fun j x hx => by
      rw [List.getElem?_map] at hx
      obtain ⟨s, hs', rfl⟩ := Option.map_eq_some_iff.1 hx
      exact hcell j s hs') hbk (by rw [List.length_map]; omega) (by rw [List.length_map]; omega) (by rw [hxs]; simpa using hlen)
    rw [hxs, List.length_map, ← hel] at hc
    refine callsIn_wide.2 (hc.mono fun e w' hq => ?_)
    obtain ⟨rfl, hbel⟩ := hq
    exact ⟨_, .str (Lib.join ts sep), H, G, rfl, hs.grown hbel, .str _ _ (by omega), Evol.refl _ _, Nat.le_refl _, rfl, rfl⟩

/- chancel/chancelref01.Cut -/
theorem c39 (Γ : Nat → PV) (s : List UInt8) (b : UInt8) (hs : s.length < 4294967281) : Gives Tryd.prog Γ 39 [.str s, .int .u8 (b.toNat : Int)] (.vec ((splitL b s).map S1) false) := by
  refine fn_of_awp Tryd.func39 rfl (by simp [Tryd.f39]) rfl fun H => ?_
  refine awp_bd fun hbd => ?_
  refine awp_seq ?_
  refine awp_run rfl (by simp only [fwA, ↓reduceIte, Nat.reduceAdd, Nat.reduceMul, Nat.reduceEqDiff, Nat.reduceLT, Nat.reduceLeDiff, reduceCtorEq] <;> rfl) ?_
  refine awp_seq ?_
  refine awp_run rfl (by simp only [fwA, ↓reduceIte, Nat.reduceAdd, Nat.reduceMul, Nat.reduceEqDiff, Nat.reduceLT, Nat.reduceLeDiff, reduceCtorEq] <;> rfl) ?_
  refine awp_seq ?_
  refine awp_run rfl (by simp only [fwA, ↓reduceIte, Nat.reduceAdd, Nat.reduceMul, Nat.reduceEqDiff, Nat.reduceLT, Nat.reduceLeDiff, reduceCtorEq] <;> rfl) ?_
  refine awp_seq ?_
  refine awp_seq ?_
  refine awp_run rfl (by simp only [fwA, ↓reduceIte, Nat.reduceAdd, Nat.reduceMul, Nat.reduceEqDiff, Nat.reduceLT, Nat.reduceLeDiff, reduceCtorEq] <;> rfl) ?_
  refine awp_told (told_adopt 5 1 (by decide) rfl) ?_
  refine awp_block ?_
  refine awp_for [0, 1, 5, 6, 7] (fun t : Nat × Nat × List (List UInt8) => [.str s, .int .u8 (b.toNat : Int), .row H.length 0 t.2.2.length 1, .int .i64 (t.2.1 : Int), .int .i64 (t.1 : Int)]) (fun t => H ++ [.row 1 ((t.2.2.map S1).flatten)]) (fun t => s.length + 1 - t.1)
    (fun t => t.2.2.length ≤ t.1 ∧ ((t.1 ≤ s.length ∧ t.2.1 ≤ t.1 ∧ t.2.2 ++ splitL b (s.drop t.2.1) = splitL b s ∧ ∀ j, t.2.1 ≤ j → j < t.1 → s[j]? ≠ some b) ∨ (t.1 = s.length + 1 ∧ t.2.2 = splitL b s))) (0, 0, []) rfl rfl ⟨Nat.le_refl _, .inl ⟨Nat.zero_le _, Nat.le_refl _, rfl, fun j h1 h2 => by omega⟩⟩ fun t ht => ?_
  obtain ⟨i, fr, out⟩ := t
  obtain ⟨hol, hcase⟩ := ht
  simp only at hol hcase ⊢
  refine awp_seq ?_
  refine awp_seq ?_
  refine awp_run rfl (by simp only [fwA, ↓reduceIte, Nat.reduceAdd, Nat.reduceMul, Nat.reduceEqDiff, Nat.reduceLT, Nat.reduceLeDiff, reduceCtorEq, bitfw, List.length_map, List.getElem?_map, Option.map_some, Int.natCast_nonneg, Int.toNat_natCast, decide_true, decide_false, Bool.and_true, Bool.and_self, Bool.not_true, Bool.not_false, Bool.false_and, Bool.true_and, un9, un22, un5, un50, ti9, ti22, ti50, un3, S1_fw, U1_fw] <;> rfl) ?_
  refine awp_cond (by simp only [fwA, ↓reduceIte, Nat.reduceAdd, Nat.reduceMul, Nat.reduceEqDiff, Nat.reduceLT, Nat.reduceLeDiff, reduceCtorEq] <;> rfl) ?_
  by_cases hc : (i : Int) ≤ s.length
  rotate_left
  · simp only [hc, decide_false, Bool.false_eq_true, ↓reduceIte]
    refine awp_exit ?_
    have hout : out = splitL b s := by
      rcases hcase with h | h
      · omega
      · exact h.2
    rw [← hout]
    refine awp_told (told_freezeAt H _ 0 (C := (out.map S1).flatten) rfl (flat_bd (fun _ => rfl) _)) ?_
    have hlm : ((out.map S1).flatten).length = out.length * 1 := by rw [flat_len S1_len]
    have hch := flat_chunk S1_len out
    refine awp_seq ?_
    refine awp_run rfl (by simp only [fwA, ↓reduceIte, Nat.reduceAdd, Nat.reduceMul, Nat.reduceEqDiff, Nat.reduceLT, Nat.reduceLeDiff, reduceCtorEq, hlm, hch] <;> rfl) ?_
    refine awp_ret ?_
    exact gives_end (.inl rfl) _ rfl
  simp only [hc, decide_true, ↓reduceIte]
  refine awp_skip ?_
  obtain ⟨hil, hfi, hsp, hno⟩ : i ≤ s.length ∧ fr ≤ i ∧ out ++ splitL b (s.drop fr) = splitL b s ∧ ∀ j, fr ≤ j → j < i → s[j]? ≠ some b := by
    rcases hcase with h | h
    · exact h
    · omega
  have hwi : IntKind.i64.wrap ((i : Int) + 1) = ((i + 1 : Nat) : Int) := wrapS i (by omega)
  have hpre : ∀ j : Nat, j < i - fr → (s.drop fr)[j]? ≠ some b := fun j hj => by
    rw [List.getElem?_drop]; exact hno _ (by omega) (by omega)
  have htk : (s.drop fr).take (i - fr) = (s.take i).drop fr := by rw [List.drop_take]
  -- the piece goes behind
  have hpush : ∀ (A : List (Nat × PV)) (Q : List (Nat × PV) → List Blk → Prop), True := fun _ _ => trivial
  refine awp_seq ?_
  refine awp_block ?_
  refine awp_seq ?_
  by_cases he : (i : Int) = (s.length : Int)
  · have hde : decide ((i : Int) = (s.length : Int)) = true := decide_eq_true he
    refine awp_run rfl (by simp only [fwA, ↓reduceIte, Nat.reduceAdd, Nat.reduceMul, Nat.reduceEqDiff, Nat.reduceLT, Nat.reduceLeDiff, reduceCtorEq, bitfw, List.length_map, List.getElem?_map, Option.map_some, Int.natCast_nonneg, Int.toNat_natCast, decide_true, decide_false, Bool.and_true, Bool.and_self, Bool.not_true, Bool.not_false, Bool.false_and, Bool.true_and, un9, un22, un5, un50, ti9, ti22, ti50, un3, S1_fw, U1_fw, hde] <;> rfl) ?_
    refine awp_cond (b := true) (by simp [alook, aput, ev]) ?_
    have hi : i = s.length := by omega
    have hfin : splitL b (s.drop fr) = [s.drop fr] := splitL_none fun j e => by
      have hj := (List.getElem?_eq_some_iff.1 e).1
      rw [List.length_drop] at hj
      exact hpre j (by omega) e
    have hpc : (s.take i).drop fr = s.drop fr := by rw [hi, List.take_length]
    refine awp_seq ?_
    refine awp_region rfl ?_
    refine aops_run 4 (by simp only [fwA, ↓reduceIte, Nat.reduceAdd, Nat.reduceMul, Nat.reduceEqDiff, Nat.reduceLT, Nat.reduceLeDiff, reduceCtorEq, bitfw, List.length_map, List.getElem?_map, Option.map_some, Int.natCast_nonneg, Int.toNat_natCast, decide_true, decide_false, Bool.and_true, Bool.and_self, Bool.not_true, Bool.not_false, Bool.false_and, Bool.true_and, un9, un22, un5, un50, ti9, ti22, ti50, un3, S1_fw, U1_fw] <;> rfl) ?_
    refine aops_one rfl (os_sliceStr (l := fr) (h := i) rfl un9 rfl ⟨_, rfl⟩ ⟨_, rfl⟩ hfi hil ?_)
    refine aops_run 1 (by simp only [fwA, ↓reduceIte, Nat.reduceAdd, Nat.reduceMul, Nat.reduceEqDiff, Nat.reduceLT, Nat.reduceLeDiff, reduceCtorEq, bitfw, List.length_map, List.getElem?_map, Option.map_some, Int.natCast_nonneg, Int.toNat_natCast, decide_true, decide_false, Bool.and_true, Bool.and_self, Bool.not_true, Bool.not_false, Bool.false_and, Bool.true_and, un9, un22, un5, un50, ti9, ti22, ti50, un3, S1_fw, U1_fw] <;> rfl) ?_
    refine aops_one rfl (os_appendR rfl un22 ti9 un22 (.inl ⟨_, rfl⟩) rfl (get_at0 H _) (by rw [flat_len S1_len]; exact (Nat.zero_add _).symm) rfl (fun es f h e he => by
      simp only [fwA, ↓reduceIte, Nat.reduceAdd, Nat.reduceMul, Nat.reduceEqDiff, Nat.reduceLT, Nat.reduceLeDiff, reduceCtorEq, PV.vec.injEq] at h
      obtain ⟨rfl, rfl⟩ := h
      simp only [List.mem_singleton] at he
      subst he; rfl) rfl (by show (_ + 1) * 16 ≤ _; omega) (by show _ + 1 ≤ _; omega) ?_)
    refine aops_run 1 (by simp only [fwA, ↓reduceIte, Nat.reduceAdd, Nat.reduceMul, Nat.reduceEqDiff, Nat.reduceLT, Nat.reduceLeDiff, reduceCtorEq, bitfw, List.length_map, List.getElem?_map, Option.map_some, Int.natCast_nonneg, Int.toNat_natCast, decide_true, decide_false, Bool.and_true, Bool.and_self, Bool.not_true, Bool.not_false, Bool.false_and, Bool.true_and, un9, un22, un5, un50, ti9, ti22, ti50, un3, S1_fw, U1_fw] <;> rfl) ?_
    refine aops_end ?_
    refine awp_run rfl (by simp only [fwA, ↓reduceIte, Nat.reduceAdd, Nat.reduceMul, Nat.reduceEqDiff, Nat.reduceLT, Nat.reduceLeDiff, reduceCtorEq, bitfw, List.length_map, List.getElem?_map, Option.map_some, Int.natCast_nonneg, Int.toNat_natCast, decide_true, decide_false, Bool.and_true, Bool.and_self, Bool.not_true, Bool.not_false, Bool.false_and, Bool.true_and, un9, un22, un5, un50, ti9, ti22, ti50, un3, S1_fw, U1_fw, hwi] <;> rfl) ?_
    refine awp_run rfl (by simp only [fwA, ↓reduceIte, Nat.reduceAdd, Nat.reduceMul, Nat.reduceEqDiff, Nat.reduceLT, Nat.reduceLeDiff, reduceCtorEq, bitfw, List.length_map, List.getElem?_map, Option.map_some, Int.natCast_nonneg, Int.toNat_natCast, decide_true, decide_false, Bool.and_true, Bool.and_self, Bool.not_true, Bool.not_false, Bool.false_and, Bool.true_and, un9, un22, un5, un50, ti9, ti22, ti50, un3, S1_fw, U1_fw, hwi] <;> rfl) ?_
    refine ⟨(i + 1, i + 1, out ++ [s.drop fr]), by simp only; omega, ⟨by simp only [List.length_append, List.length_cons, List.length_nil]; omega, .inr ⟨by simp only; omega, by simp only; rw [← hsp, hfin]⟩⟩, ?_, ?_, rfl⟩
    · simp only [fwA, ↓reduceIte, Nat.reduceAdd, Nat.reduceMul, Nat.reduceEqDiff, Nat.reduceLT, Nat.reduceLeDiff, reduceCtorEq, List.map_cons, List.map_nil, List.length_append, List.length_cons, List.length_nil]
    · rw [List.map_append, List.flatten_append]; simp [S1, htk, hpc]
  have hlt : i < s.length := by omega
  have ga : s[i]? = some s[i] := List.getElem?_eq_getElem hlt
  generalize s[i] = x at ga
  by_cases hx : (x.toNat : Int) = (b.toNat : Int)
  · have hde : decide ((x.toNat : Int) = (b.toNat : Int)) = true := decide_eq_true hx
    have hxb : x = b := UInt8.toNat_inj.1 (by omega)
    refine awp_run rfl (by simp only [fwA, ↓reduceIte, Nat.reduceAdd, Nat.reduceMul, Nat.reduceEqDiff, Nat.reduceLT, Nat.reduceLeDiff, reduceCtorEq, bitfw, List.length_map, List.getElem?_map, Option.map_some, Int.natCast_nonneg, Int.toNat_natCast, decide_true, decide_false, Bool.and_true, Bool.and_self, Bool.not_true, Bool.not_false, Bool.false_and, Bool.true_and, un9, un22, un5, un50, ti9, ti22, ti50, un3, S1_fw, U1_fw, he, ga, hde] <;> rfl) ?_
    refine awp_cond (b := true) (by simp [alook, aput, ev]) ?_
    have hfin : splitL b (s.drop fr) = (s.take i).drop fr :: splitL b (s.drop (i + 1)) := by
      rw [splitL_at (k := i - fr) hpre (by rw [List.getElem?_drop, show fr + (i - fr) = i by omega, ga, hxb]), htk, List.drop_drop, show fr + (i - fr + 1) = i + 1 by omega]
    refine awp_seq ?_
    refine awp_region rfl ?_
    refine aops_run 4 (by simp only [fwA, ↓reduceIte, Nat.reduceAdd, Nat.reduceMul, Nat.reduceEqDiff, Nat.reduceLT, Nat.reduceLeDiff, reduceCtorEq, bitfw, List.length_map, List.getElem?_map, Option.map_some, Int.natCast_nonneg, Int.toNat_natCast, decide_true, decide_false, Bool.and_true, Bool.and_self, Bool.not_true, Bool.not_false, Bool.false_and, Bool.true_and, un9, un22, un5, un50, ti9, ti22, ti50, un3, S1_fw, U1_fw] <;> rfl) ?_
    refine aops_one rfl (os_sliceStr (l := fr) (h := i) rfl un9 rfl ⟨_, rfl⟩ ⟨_, rfl⟩ hfi hil ?_)
    refine aops_run 1 (by simp only [fwA, ↓reduceIte, Nat.reduceAdd, Nat.reduceMul, Nat.reduceEqDiff, Nat.reduceLT, Nat.reduceLeDiff, reduceCtorEq, bitfw, List.length_map, List.getElem?_map, Option.map_some, Int.natCast_nonneg, Int.toNat_natCast, decide_true, decide_false, Bool.and_true, Bool.and_self, Bool.not_true, Bool.not_false, Bool.false_and, Bool.true_and, un9, un22, un5, un50, ti9, ti22, ti50, un3, S1_fw, U1_fw] <;> rfl) ?_
    refine aops_one rfl (os_appendR rfl un22 ti9 un22 (.inl ⟨_, rfl⟩) rfl (get_at0 H _) (by rw [flat_len S1_len]; exact (Nat.zero_add _).symm) rfl (fun es f h e he => by
      simp only [fwA, ↓reduceIte, Nat.reduceAdd, Nat.reduceMul, Nat.reduceEqDiff, Nat.reduceLT, Nat.reduceLeDiff, reduceCtorEq, PV.vec.injEq] at h
      obtain ⟨rfl, rfl⟩ := h
      simp only [List.mem_singleton] at he
      subst he; rfl) rfl (by show (_ + 1) * 16 ≤ _; omega) (by show _ + 1 ≤ _; omega) ?_)
    refine aops_run 1 (by simp only [fwA, ↓reduceIte, Nat.reduceAdd, Nat.reduceMul, Nat.reduceEqDiff, Nat.reduceLT, Nat.reduceLeDiff, reduceCtorEq, bitfw, List.length_map, List.getElem?_map, Option.map_some, Int.natCast_nonneg, Int.toNat_natCast, decide_true, decide_false, Bool.and_true, Bool.and_self, Bool.not_true, Bool.not_false, Bool.false_and, Bool.true_and, un9, un22, un5, un50, ti9, ti22, ti50, un3, S1_fw, U1_fw] <;> rfl) ?_
    refine aops_end ?_
    refine awp_run rfl (by simp only [fwA, ↓reduceIte, Nat.reduceAdd, Nat.reduceMul, Nat.reduceEqDiff, Nat.reduceLT, Nat.reduceLeDiff, reduceCtorEq, bitfw, List.length_map, List.getElem?_map, Option.map_some, Int.natCast_nonneg, Int.toNat_natCast, decide_true, decide_false, Bool.and_true, Bool.and_self, Bool.not_true, Bool.not_false, Bool.false_and, Bool.true_and, un9, un22, un5, un50, ti9, ti22, ti50, un3, S1_fw, U1_fw, hwi] <;> rfl) ?_
    refine awp_run rfl (by simp only [fwA, ↓reduceIte, Nat.reduceAdd, Nat.reduceMul, Nat.reduceEqDiff, Nat.reduceLT, Nat.reduceLeDiff, reduceCtorEq, bitfw, List.length_map, List.getElem?_map, Option.map_some, Int.natCast_nonneg, Int.toNat_natCast, decide_true, decide_false, Bool.and_true, Bool.and_self, Bool.not_true, Bool.not_false, Bool.false_and, Bool.true_and, un9, un22, un5, un50, ti9, ti22, ti50, un3, S1_fw, U1_fw, hwi] <;> rfl) ?_
    refine ⟨(i + 1, i + 1, out ++ [(s.take i).drop fr]), by simp only; omega, ⟨by simp only [List.length_append, List.length_cons, List.length_nil]; omega, .inl ⟨by simp only; omega, Nat.le_refl _, by simp only; rw [← hsp, hfin]; simp, fun j h1 h2 => by simp only at h1 h2; omega⟩⟩, ?_, ?_, rfl⟩
    · simp only [fwA, ↓reduceIte, Nat.reduceAdd, Nat.reduceMul, Nat.reduceEqDiff, Nat.reduceLT, Nat.reduceLeDiff, reduceCtorEq, List.map_cons, List.map_nil, List.length_append, List.length_cons, List.length_nil]
    · rw [List.map_append, List.flatten_append]; simp [S1, htk]
  · refine awp_run rfl (by simp only [fwA, ↓reduceIte, Nat.reduceAdd, Nat.reduceMul, Nat.reduceEqDiff, Nat.reduceLT, Nat.reduceLeDiff, reduceCtorEq, bitfw, List.length_map, List.getElem?_map, Option.map_some, Int.natCast_nonneg, Int.toNat_natCast, decide_true, decide_false, Bool.and_true, Bool.and_self, Bool.not_true, Bool.not_false, Bool.false_and, Bool.true_and, un9, un22, un5, un50, ti9, ti22, ti50, un3, S1_fw, U1_fw, he, ga, hx] <;> rfl) ?_
    refine awp_cond (b := false) (by simp [alook, aput, ev]) (awp_skip ?_)
    refine awp_run rfl (by simp only [fwA, ↓reduceIte, Nat.reduceAdd, Nat.reduceMul, Nat.reduceEqDiff, Nat.reduceLT, Nat.reduceLeDiff, reduceCtorEq, bitfw, List.length_map, List.getElem?_map, Option.map_some, Int.natCast_nonneg, Int.toNat_natCast, decide_true, decide_false, Bool.and_true, Bool.and_self, Bool.not_true, Bool.not_false, Bool.false_and, Bool.true_and, un9, un22, un5, un50, ti9, ti22, ti50, un3, S1_fw, U1_fw, hwi] <;> rfl) ?_
    refine ⟨(i + 1, fr, out), by simp only; omega, ⟨by simp only; omega, .inl ⟨by simp only; omega, by simp only; omega, hsp, fun j h1 h2 e => ?_⟩⟩, ?_, rfl, rfl⟩
    · simp only at h1 h2
      by_cases hji : j = i
      · subst hji; rw [ga, Option.some.injEq] at e; subst e; exact hx rfl
      · exact hno j h1 (by omega) e
    · simp only [fwA, ↓reduceIte, Nat.reduceAdd, Nat.reduceMul, Nat.reduceEqDiff, Nat.reduceLT, Nat.reduceLeDiff, reduceCtorEq, List.map_cons, List.map_nil, hwi]

end Go.Proofs.YtdhlghhokbmhdaaDoor
