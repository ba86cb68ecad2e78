/- The contracts of small functions: functions' shapes, outer labels, points, pairs, shapes by bytes. -/
import Derived.Test.YtlnffadolfkggaaDoorWC
namespace Go.Proofs.YtlnffadolfkggaaDoor
set_option linter.unusedVariables false
set_option linter.unusedSimpArgs false
set_option maxRecDepth 100000
open Go.RowKit Fw

theorem cpl_eq {n : Int} (h : I64 n) : IntKind.i64.wrap ((BitVec.ofInt IntKind.i64.bits (if IntKind.i64.signed then -1 else IntKind.i64.max) ^^^ BitVec.ofInt IntKind.i64.bits n).toNat) = -1 - n := by
  obtain ⟨h1, h2⟩ := h
  have hb : IntKind.i64.bits = 64 := rfl
  have hsg : IntKind.i64.signed = true := rfl
  rw [hsg, if_pos rfl, hb]
  have e1 : BitVec.ofInt 64 (-1) = BitVec.allOnes 64 := rfl
  rw [e1, BitVec.allOnes_xor, BitVec.toNat_not, BitVec.toNat_ofInt]
  unfold IntKind.wrap
  simp only [hb, hsg, Bool.true_and, decide_eq_true_eq]
  have hm : (n % ((2 ^ 64 : Nat) : Int)).toNat = (if 0 ≤ n then n.toNat else (n + 18446744073709551616).toNat) := by
    split <;> omega
  rw [hm]
  split <;> split <;> omega

def pointOf (a : Int) : Int := if 0 ≤ a then -1 else -1 - a

/-- atom.IsPoint -/
theorem c63 (Γ : Nat → PV) (a : Int) : Gives Tryd.prog Γ 63 [.int .i64 a] (.bool (decide (a < 0))) := by
  refine fn_of_awp Tryd.func63 rfl (by simp [Tryd.f63]) rfl fun H => ?_
  refine awp_seq ?_
  refine awp_run rfl (by simp only [fwA, ↓reduceIte, Nat.reduceAdd, Nat.reduceMul, Nat.reduceEqDiff, Nat.reduceLT, Nat.reduceLeDiff, reduceCtorEq] <;> rfl) ?_
  refine awp_seq ?_
  refine awp_run rfl (by simp only [fwA, ↓reduceIte, Nat.reduceAdd, Nat.reduceMul, Nat.reduceEqDiff, Nat.reduceLT, Nat.reduceLeDiff, reduceCtorEq] <;> rfl) (awp_ret ?_)
  exact gives_end0 (.inl rfl) rfl
/-- atom.PointOf -/
theorem c65 (Γ : Nat → PV) (a : Int) (ha : I64 a) : Gives Tryd.prog Γ 65 [.int .i64 a] (.int .i64 (pointOf a)) := by
  refine fn_of_awp Tryd.func65 rfl (by simp [Tryd.f65]) rfl fun H => ?_
  refine awp_seq ?_
  refine awp_run rfl (by simp only [fwA, ↓reduceIte, Nat.reduceAdd, Nat.reduceMul, Nat.reduceEqDiff, Nat.reduceLT, Nat.reduceLeDiff, reduceCtorEq] <;> rfl) ?_
  refine awp_seq ?_
  refine awp_region rfl ?_
  refine aops_run 1 (by simp only [fwA, ↓reduceIte, Nat.reduceAdd, Nat.reduceMul, Nat.reduceEqDiff, Nat.reduceLT, Nat.reduceLeDiff, reduceCtorEq] <;> rfl) ?_
  refine aops_one rfl (os_cpl rfl rfl ?_)
  rw [cpl_eq ha]
  refine aops_one rfl (os_max rfl rfl rfl ?_)
  refine aops_run 1 (by simp only [fwA, ↓reduceIte, Nat.reduceAdd, Nat.reduceMul, Nat.reduceEqDiff, Nat.reduceLT, Nat.reduceLeDiff, reduceCtorEq] <;> rfl) (awp_ret ?_)
  have e : (if -1 - a < -1 then -1 else -1 - a) = pointOf a := by unfold pointOf; split <;> split <;> omega
  exact gives_end0 (.inl rfl) (by rw [← e]; rfl)
/-- chancelref10.PointOf -/
theorem c67 (Γ : Nat → PV) (a : Int) (ha : I64 a) : Gives Tryd.prog Γ 67 [.int .i64 a] (.int .i64 (pointOf a)) := by
  refine fn_of_awp Tryd.func67 rfl (by simp [Tryd.f67]) rfl fun H => ?_
  refine awp_seq ?_
  refine awp_run rfl (by simp only [fwA, ↓reduceIte, Nat.reduceAdd, Nat.reduceMul, Nat.reduceEqDiff, Nat.reduceLT, Nat.reduceLeDiff, reduceCtorEq] <;> rfl) ?_
  refine awp_seq ?_
  refine awp_seq ?_
  refine awp_run rfl (by simp only [fwA, ↓reduceIte, Nat.reduceAdd, Nat.reduceMul, Nat.reduceEqDiff, Nat.reduceLT, Nat.reduceLeDiff, reduceCtorEq, ge_iff_le] <;> rfl) ?_
  refine awp_cond (by simp only [fwA, ↓reduceIte, Nat.reduceAdd, Nat.reduceMul, Nat.reduceEqDiff, Nat.reduceLT, Nat.reduceLeDiff, reduceCtorEq] <;> rfl) ?_
  by_cases h : 0 ≤ a
  · simp only [h, decide_true, ↓reduceIte]
    refine awp_seq (awp_run rfl (by simp only [fwA, ↓reduceIte, Nat.reduceAdd, Nat.reduceMul, Nat.reduceEqDiff, Nat.reduceLT, Nat.reduceLeDiff, reduceCtorEq] <;> rfl) (awp_ret ?_))
    exact gives_end0 (.inl rfl) (by unfold pointOf; rw [if_pos h]; rfl)
  · simp only [h, decide_false, Bool.false_eq_true, ↓reduceIte]
    refine awp_skip ?_
    have hw : IntKind.i64.wrap (-1 - a) = -1 - a := wrapId ⟨by have := ha.1; have := ha.2; omega, by have := ha.1; have := ha.2; omega⟩
    refine awp_seq (awp_run rfl (by simp only [fwA, ↓reduceIte, Nat.reduceAdd, Nat.reduceMul, Nat.reduceEqDiff, Nat.reduceLT, Nat.reduceLeDiff, reduceCtorEq, hw] <;> rfl) (awp_ret ?_))
    exact gives_end0 (.inl rfl) (by unfold pointOf; rw [if_neg h]; rfl)
/-- atom.Point -/
theorem c37 (Γ : Nat → PV) (a : Int) (ha : I64 a) : Gives Tryd.prog Γ 37 [.int .i64 a] (.int .i64 (if a < 0 then 0 else -1 - a)) := by
  refine fn_of_awp Tryd.func37 rfl (by simp [Tryd.f37]) rfl fun H => ?_
  refine awp_seq ?_
  refine awp_run rfl (by simp only [fwA, ↓reduceIte, Nat.reduceAdd, Nat.reduceMul, Nat.reduceEqDiff, Nat.reduceLT, Nat.reduceLeDiff, reduceCtorEq] <;> rfl) ?_
  refine awp_seq ?_
  refine awp_seq ?_
  refine awp_run rfl (by simp only [fwA, ↓reduceIte, Nat.reduceAdd, Nat.reduceMul, Nat.reduceEqDiff, Nat.reduceLT, Nat.reduceLeDiff, reduceCtorEq] <;> rfl) ?_
  refine awp_cond (by simp only [fwA, ↓reduceIte, Nat.reduceAdd, Nat.reduceMul, Nat.reduceEqDiff, Nat.reduceLT, Nat.reduceLeDiff, reduceCtorEq] <;> rfl) ?_
  by_cases h : a < 0
  · simp only [h, decide_true, ↓reduceIte]
    refine awp_seq (awp_run rfl (by simp only [fwA, ↓reduceIte, Nat.reduceAdd, Nat.reduceMul, Nat.reduceEqDiff, Nat.reduceLT, Nat.reduceLeDiff, reduceCtorEq] <;> rfl) (awp_ret ?_))
    exact gives_end0 (.inl rfl) rfl
  · simp only [h, decide_false, Bool.false_eq_true, ↓reduceIte]
    refine awp_skip ?_
    refine awp_seq ?_
    refine awp_region rfl ?_
    refine aops_run 1 (by simp only [fwA, ↓reduceIte, Nat.reduceAdd, Nat.reduceMul, Nat.reduceEqDiff, Nat.reduceLT, Nat.reduceLeDiff, reduceCtorEq] <;> rfl) ?_
    refine aops_one rfl (os_cpl rfl rfl ?_)
    rw [cpl_eq ha]
    refine aops_run 1 (by simp only [fwA, ↓reduceIte, Nat.reduceAdd, Nat.reduceMul, Nat.reduceEqDiff, Nat.reduceLT, Nat.reduceLeDiff, reduceCtorEq] <;> rfl) (awp_ret ?_)
    exact gives_end0 (.inl rfl) rfl

theorem funS_le (a b : Sh) : PV.leL [.int .i64 3, .int .i64 0, .vec [a.enc, b.enc] true] (funS a b).enc := by
  have e : (funS a b).enc = [.int .i64 3, .int .i64 0, .vec [a.enc, b.enc] false] := Sh.enc_eq _
  rw [e]
  exact ⟨rfl, rfl, ⟨nofun, PV.leLL_refl _⟩, trivial⟩
theorem leaf_le (k : Int) : PV.leL [.int .i64 k, .int .i64 0, .vec [] true] (Sh.mk k 0 []).enc := by
  have e : (Sh.mk k 0 []).enc = [.int .i64 k, .int .i64 0, .vec [] false] := Sh.enc_eq _
  rw [e]
  exact ⟨rfl, rfl, ⟨nofun, trivial⟩, trivial⟩
/-- fun -/
theorem c13 (Γ : Nat → PV) (a b : Sh) : Gives Tryd.prog Γ 13 [.agg a.enc, .agg b.enc] (.agg (funS a b).enc) := by
  refine fn_of_awpLe Tryd.func13 rfl (by simp [Tryd.f13]) (p := .agg [.int .i64 3, .int .i64 0, .vec [a.enc, b.enc] true]) (by simp [PV.plain, PV.bd, PV.bdL, Sh.bd]) (funS_le a b) fun H => ?_
  refine awp_seq ?_
  refine awp_run rfl (by simp only [fwA, ↓reduceIte, Nat.reduceAdd, Nat.reduceMul, Nat.reduceEqDiff, Nat.reduceLT, Nat.reduceLeDiff, reduceCtorEq, ti26, un24, pl26] <;> rfl) ?_
  refine awp_seq ?_
  refine awp_run rfl (by simp only [fwA, ↓reduceIte, Nat.reduceAdd, Nat.reduceMul, Nat.reduceEqDiff, Nat.reduceLT, Nat.reduceLeDiff, reduceCtorEq, ti26, un24, pl26, Sh.fw, PV.plainL, PV.bdL, PV.bd, PV.bdL_append, List.take_zero, List.append_nil, Bool.and_self] <;> rfl) ?_
  refine awp_ret ?_
  refine gives_end (.inl rfl) _ ?_
  simp [ares, aresL, ares1, rd, ev, alook, aput, Tryd.f13, ti26]

theorem outer_splice (t : Ty) (l : Int) : List.take 1 t.enc ++ ([PV.int .i64 l] ++ List.drop 2 t.enc) = (Ty.mk t.kind l t.c t.pc t.x t.kids).enc := by
  rw [Ty.enc_eq, Ty.enc_eq]; rfl
theorem outer_splice' (t : Ty) (l : Int) : List.take 1 t.enc ++ [PV.int .i64 l, .int .i64 t.c, .int .i64 t.pc, .int .i64 t.x, .vec (t.kids.map Ty.enc) false] = (Ty.mk t.kind l t.c t.pc t.x t.kids).enc := by
  rw [Ty.enc_eq (Ty.mk t.kind l t.c t.pc t.x t.kids), Ty.enc_eq t]; rfl
def outer (t : Ty) (l : Int) : Ty := .mk t.kind l t.c t.pc t.x t.kids
/-- Outer -/
theorem c31 (Γ : Nat → PV) (t : Ty) (l : Int) : Gives Tryd.prog Γ 31 [.agg t.enc, .int .i64 l] (.agg (outer t l).enc) := by
  refine fn_of_awp Tryd.func31 rfl (by simp [Tryd.f31]) (by simp [PV.plain, PV.bd, Ty.bd]) fun H => ?_
  refine awp_seq ?_
  refine awp_run rfl (by simp only [fwA, ↓reduceIte, Nat.reduceAdd, Nat.reduceMul, Nat.reduceEqDiff, Nat.reduceLT, Nat.reduceLeDiff, reduceCtorEq, ti31, fl31_1, ti28] <;> rfl) ?_
  refine awp_seq ?_
  refine awp_run rfl (by simp only [fwA, ↓reduceIte, Nat.reduceAdd, Nat.reduceMul, Nat.reduceEqDiff, Nat.reduceLT, Nat.reduceLeDiff, reduceCtorEq, ti31, fl31_1, ti28, Ty.fw] <;> rfl) ?_
  refine awp_heap (H' := H ++ [.box (outer t l).enc, .box [.int .i64 0, .int .i64 0, .int .i64 0, .int .i64 0, .int .i64 0, .vec [] true]]) (by rw [outer, ← outer_splice']) ?_
  refine awp_seq ?_
  refine awp_run rfl (by simp only [fwA, ↓reduceIte, Nat.reduceAdd, Nat.reduceMul, Nat.reduceEqDiff, Nat.reduceLT, Nat.reduceLeDiff, reduceCtorEq, ti31, fl31_1, ti28, Ty.fw] <;> rfl) ?_
  refine awp_ret ?_
  refine gives_end (.inl rfl) _ ?_
  simp [ares, aresL, ares1, rd, ev, alook, aput, Tryd.f31, ti31, Ty.fw]

/-- Outer -/
theorem c32 (Γ : Nat → PV) (t : Ty) (l : Int) : Gives Tryd.prog Γ 32 [.agg t.enc, .int .i64 l] (.agg (outer t l).enc) := by
  refine fn_of_awp Tryd.func32 rfl (by simp [Tryd.f32]) (by simp [PV.plain, PV.bd, Ty.bd]) fun H => ?_
  refine awp_seq ?_
  refine awp_run rfl (by simp only [fwA, ↓reduceIte, Nat.reduceAdd, Nat.reduceMul, Nat.reduceEqDiff, Nat.reduceLT, Nat.reduceLeDiff, reduceCtorEq, ti45, fl45_1, ti3] <;> rfl) ?_
  refine awp_seq ?_
  refine awp_run rfl (by simp only [fwA, ↓reduceIte, Nat.reduceAdd, Nat.reduceMul, Nat.reduceEqDiff, Nat.reduceLT, Nat.reduceLeDiff, reduceCtorEq, ti45, fl45_1, ti3, Ty.fw] <;> rfl) ?_
  refine awp_heap (H' := H ++ [.box (outer t l).enc, .box [.int .i64 0, .int .i64 0, .int .i64 0, .int .i64 0, .int .i64 0, .vec [] true]]) (by rw [outer, ← outer_splice']) ?_
  refine awp_seq ?_
  refine awp_run rfl (by simp only [fwA, ↓reduceIte, Nat.reduceAdd, Nat.reduceMul, Nat.reduceEqDiff, Nat.reduceLT, Nat.reduceLeDiff, reduceCtorEq, ti45, fl45_1, ti3, Ty.fw] <;> rfl) ?_
  refine awp_ret ?_
  refine gives_end (.inl rfl) _ ?_
  simp [ares, aresL, ares1, rd, ev, alook, aput, Tryd.f32, ti45, Ty.fw]


/-- Two by two. -/
def prs : List Int → List Pr
  | a :: b :: l => ⟨a, b⟩ :: prs l
  | _ => []
theorem prs_get : ∀ (l : List Int) (j : Nat) (a b : Int), l[2 * j]? = some a → l[2 * j + 1]? = some b → (prs l)[j]? = some ⟨a, b⟩
  | [], j, a, b, h, _ => by simp at h
  | [x], j, a, b, h, h' => by
    have := (List.getElem?_eq_some_iff.1 h').1
    simp at this
  | x :: y :: l, 0, a, b, h, h' => by simp at h h'; simp [prs, h, h']
  | x :: y :: l, j + 1, a, b, h, h' => by
    have e1 : 2 * (j + 1) = 2 * j + 1 + 1 := by omega
    rw [e1] at h h'
    simp only [List.getElem?_cons_succ] at h h'
    simp only [prs, List.getElem?_cons_succ]
    exact prs_get l j a b h h'
theorem prs_len : ∀ l : List Int, (prs l).length = l.length / 2
  | [] => rfl
  | [x] => by simp [prs]
  | x :: y :: l => by simp only [prs, List.length_cons, prs_len l]; omega
/-- ltype.pairs -/
theorem c59 (Γ : Nat → PV) (l : List Int) (hlb : l.length ≤ 1000000) : Gives Tryd.prog Γ 59 [.vec (l.map I1) false] (.vec ((prs l).map Pr.enc) false) := by
  refine fn_of_awp Tryd.func59 rfl (by simp [Tryd.f59]) rfl fun H => ?_
  refine awp_seq ?_
  refine awp_run rfl (by simp only [fwA, ↓reduceIte, Nat.reduceAdd, Nat.reduceMul, Nat.reduceEqDiff, Nat.reduceLT, Nat.reduceLeDiff, reduceCtorEq] <;> rfl) ?_
  refine awp_seq ?_
  refine awp_run rfl (by simp only [fwA, ↓reduceIte, Nat.reduceAdd, Nat.reduceMul, Nat.reduceEqDiff, Nat.reduceLT, Nat.reduceLeDiff, reduceCtorEq] <;> rfl) ?_
  refine awp_seq ?_
  refine awp_seq ?_
  refine awp_run rfl (by simp only [fwA, ↓reduceIte, Nat.reduceAdd, Nat.reduceMul, Nat.reduceEqDiff, Nat.reduceLT, Nat.reduceLeDiff, reduceCtorEq] <;> rfl) ?_
  refine awp_told (told_adopt 3 2 (by decide) rfl) ?_
  refine awp_block ?_
  refine awp_for [0, 3, 4] (fun j : Nat => [.vec (l.map I1) false, .row H.length 0 j 2, .int .i64 ((2 * j : Nat) : Int)])
    (fun j => H ++ [.row 2 (((prs l).take j).map Pr.enc).flatten])
    (fun j => l.length - j) (fun j => j ≤ l.length / 2) 0 rfl rfl (Nat.zero_le _) fun j hj => ?_
  have hpl := prs_len l
  have hti : ((prs l).take j).length = j := by rw [List.length_take]; omega
  refine awp_seq ?_
  refine awp_seq ?_
  have hw1 : IntKind.i64.wrap (((2 * j : Nat) : Int) + 1) = ((2 * j + 1 : Nat) : Int) := wrapS (2 * j) (by omega)
  have hw2 : IntKind.i64.wrap (((2 * j : Nat) : Int) + 2) = ((2 * (j + 1) : Nat) : Int) := by rw [wrapId ⟨by omega, by omega⟩]; omega
  refine awp_run rfl (by simp only [fwA, ↓reduceIte, Nat.reduceAdd, Nat.reduceMul, Nat.reduceEqDiff, Nat.reduceLT, Nat.reduceLeDiff, reduceCtorEq, un42, el42, ti28, ti38, pl38, un34, List.length_map, hw1] <;> rfl) ?_
  refine awp_cond (by simp only [fwA, ↓reduceIte, Nat.reduceAdd, Nat.reduceMul, Nat.reduceEqDiff, Nat.reduceLT, Nat.reduceLeDiff, reduceCtorEq] <;> rfl) ?_
  by_cases hc : ((2 * j + 1 : Nat) : Int) < l.length
  rotate_left
  · simp only [hc, decide_false, Bool.false_eq_true, ↓reduceIte]
    refine awp_exit ?_
    have hj' : j = (prs l).length := by omega
    refine awp_told (told_freezeAt H _ 0 (C := (((prs l).take j).map Pr.enc).flatten) rfl (flat_bd (fun t => by simp only [Pr.fw]) _)) ?_
    have hl : ((((prs l).take j).map Pr.enc).flatten).length = j * 2 := by rw [flat_len (sz := 2) (fun _ => by simp only [Pr.fw]), hti]
    have hch : chunk 2 j ((((prs l).take j).map Pr.enc).flatten) = ((prs l).take j).map Pr.enc := by
      have := flat_chunk (enc := Pr.enc) (sz := 2) (fun _ => by simp only [Pr.fw]) ((prs l).take j)
      rwa [hti] at this
    refine awp_seq (awp_run rfl (by simp only [fwA, ↓reduceIte, Nat.reduceAdd, Nat.reduceMul, Nat.reduceEqDiff, Nat.reduceLT, Nat.reduceLeDiff, reduceCtorEq, hl, hch] <;> rfl) (awp_ret ?_))
    refine gives_end (.inl rfl) _ ?_
    simp only [fwA, ↓reduceIte, Nat.reduceAdd, Nat.reduceMul, Nat.reduceEqDiff, Nat.reduceLT, Nat.reduceLeDiff, reduceCtorEq, ares, aresL, ares1, Tryd.f59, hj', List.take_length]
  simp only [hc, decide_true, ↓reduceIte]
  refine awp_skip ?_
  have ga : l[2 * j]? = some l[2 * j] := List.getElem?_eq_getElem (by omega)
  have gb : l[2 * j + 1]? = some l[2 * j + 1] := List.getElem?_eq_getElem (by omega)
  have gp := prs_get l j _ _ ga gb
  refine awp_seq ?_
  refine awp_block ?_
  refine awp_drawn [0, 0, 0, 0, 1, 0, 0, 0, 0, 1, 0, 0, 2, 0] [0, 0, 0, 6, 14, 0, 0, 64, 224, 480, 1022, 2046, 4095, 8191] mixed rfl (by kernel_rfl) ?_
  refine dops_run 12 (by simp only [fwA, ↓reduceIte, Nat.reduceAdd, Nat.reduceMul, Nat.reduceEqDiff, Nat.reduceLT, Nat.reduceLeDiff, reduceCtorEq, un42, el42, ti28, ti38, pl38, un34, I1_fw, List.getElem?_map, ga, gb, Option.map_some, Int.natCast_nonneg, hw1] <;> rfl) ?_
  refine dops_appendR rfl rfl rfl un34 ti38 un34 (.inl ⟨_, rfl⟩) rfl (by simp only [fwA, ↓reduceIte, Nat.reduceAdd, Nat.reduceMul, Nat.reduceEqDiff, Nat.reduceLT, Nat.reduceLeDiff, reduceCtorEq] <;> rfl) (by rw [flat_len (sz := 2) (fun _ => by simp only [Pr.fw]), hti]; exact (Nat.zero_add _).symm) rfl (fun es f h e he => by
      simp only [fwA, ↓reduceIte, Nat.reduceAdd, Nat.reduceMul, Nat.reduceEqDiff, Nat.reduceLT, Nat.reduceLeDiff, reduceCtorEq, PV.vec.injEq] at h
      obtain ⟨rfl, rfl⟩ := h
      simp only [List.mem_singleton] at he
      subst he; rfl) rfl (by show (j + 1) * 16 ≤ _; omega) (by show j + 1 ≤ _; omega) ?_
  refine dops_run 1 (by simp only [fwA, ↓reduceIte, Nat.reduceAdd, Nat.reduceMul, Nat.reduceEqDiff, Nat.reduceLT, Nat.reduceLeDiff, reduceCtorEq] <;> rfl) ?_
  refine dops_end ?_
  refine awp_run rfl (by simp only [fwA, ↓reduceIte, Nat.reduceAdd, Nat.reduceMul, Nat.reduceEqDiff, Nat.reduceLT, Nat.reduceLeDiff, reduceCtorEq, hw2] <;> rfl) ?_
  refine ⟨j + 1, by omega, by omega, rfl, ?_, rfl⟩
  rw [flatten_enc Pr.enc _ _ _ gp]
  rfl

/-- build -/
theorem c38 (Γ : Nat → PV) (l : List Int) (hl : l.length ≤ 1000000) (h8 : ∀ x ∈ l, 0 ≤ x ∧ x < 256) : ∀ k a : Nat, a ≤ l.length → l.length - a < k → Gives Tryd.prog Γ 38 [.vec (l.map fun n => [.int .u8 n]) false, .int .i64 a] (.tup [.agg (buildF l k a).1.enc, .int .i64 (buildF l k a).2]) := by
  intro k
  induction k with
  | zero => intro a _ h; omega
  | succ k ih =>
  intro a ha hk
  refine fn_of_awp Tryd.func38 rfl (by simp [Tryd.f38]) (by simp [PV.plain, PV.bd, PV.bdL, Sh.bd]) fun H => ?_
  refine awp_seq ?_
  -- region 0
  refine awp_run rfl (by simp only [fwA, ↓reduceIte, Nat.reduceAdd, Nat.reduceMul, Nat.reduceEqDiff, Nat.reduceLT, Nat.reduceLeDiff, reduceCtorEq, ti26, un22, pl26, el22, ti5] <;> rfl) ?_
  refine awp_seq ?_
  refine awp_seq ?_
  -- region 1
  refine awp_run rfl (by simp only [fwA, ↓reduceIte, Nat.reduceAdd, Nat.reduceMul, Nat.reduceEqDiff, Nat.reduceLT, Nat.reduceLeDiff, reduceCtorEq, ti26, un22, pl26, el22, ti5, List.length_map, ge_iff_le] <;> rfl) ?_
  refine awp_cond (by simp only [fwA, ↓reduceIte, Nat.reduceAdd, Nat.reduceMul, Nat.reduceEqDiff, Nat.reduceLT, Nat.reduceLeDiff, reduceCtorEq] <;> rfl) ?_
  by_cases h1 : (l.length : Int) ≤ a
  · have e : buildF l (k + 1) a = (intS, a) := by unfold buildF; rw [if_pos (by omega)]
    rw [e]
    simp only [h1, decide_true, ↓reduceIte]
    refine awp_seq ?_
    refine awp_run rfl (by simp only [fwA, ↓reduceIte, Nat.reduceAdd, Nat.reduceMul, Nat.reduceEqDiff, Nat.reduceLT, Nat.reduceLeDiff, reduceCtorEq, ti26, un22, pl26, el22, ti5] <;> rfl) ?_
    refine awp_told (told_leBox H.length (cs := [.int .i64 1, .int .i64 0, .vec [] true]) (by rw [Fw.get_at0]; rfl) (leaf_le 1)) ?_
    refine awp_heap (H' := H ++ [.box intS.enc]) (by rw [Fw.set_at0]; rfl) ?_
    refine awp_ret ?_
    refine gives_end (.inl rfl) _ ?_
    simp [ares, aresL, ares1, rd, ev, alook, aput, Tryd.f38, ti26, Sh.fw]
  simp only [h1, decide_false, Bool.false_eq_true, ↓reduceIte]
  refine awp_skip ?_
  have hal : a < l.length := by omega
  have ga : l[a]? = some (l.getD a 0) := by rw [List.getD_eq_getElem?_getD, List.getElem?_eq_getElem hal]; rfl
  have hb := h8 _ (List.mem_of_getElem? ga)
  have hwa : IntKind.i64.wrap ((a : Int) + 1) = ((a + 1 : Nat) : Int) := wrapS a (by omega)
  refine awp_seq ?_
  refine awp_seq ?_
  -- region 3
  refine awp_run rfl (by simp only [fwA, ↓reduceIte, Nat.reduceAdd, Nat.reduceMul, Nat.reduceEqDiff, Nat.reduceLT, Nat.reduceLeDiff, reduceCtorEq, ti26, un22, pl26, el22, ti5, List.getElem?_map, ga, Option.map_some, Int.natCast_nonneg] <;> rfl) ?_
  generalize hbb : l.getD a 0 = b at hb ⊢
  refine awp_block ?_
  refine awp_seq ?_
  -- region 4
  refine awp_run rfl (by simp only [fwA, ↓reduceIte, Nat.reduceAdd, Nat.reduceMul, Nat.reduceEqDiff, Nat.reduceLT, Nat.reduceLeDiff, reduceCtorEq, ti26, un22, pl26, el22, ti5, ne_eq, Int.reduceEq, not_false_eq_true] <;> rfl) ?_
  refine awp_cond (by simp only [fwA, ↓reduceIte, Nat.reduceAdd, Nat.reduceMul, Nat.reduceEqDiff, Nat.reduceLT, Nat.reduceLeDiff, reduceCtorEq] <;> rfl) ?_
  by_cases h2 : b.tmod 3 = 0
  · obtain ⟨x1, x2, _⟩ := buildF_ok l k (a + 1) (by omega)
    have e : buildF l (k + 1) a = (funS (buildF l k (a + 1)).1 (buildF l k (buildF l k (a + 1)).2).1, (buildF l k (buildF l k (a + 1)).2).2) := by
      conv => lhs; unfold buildF
      rw [if_neg (by omega), hbb, if_pos h2]
    rw [e]
    have g1 := ih (a + 1) (by omega) (by omega)
    have g2 := ih (buildF l k (a + 1)).2 x2 (by omega)
    generalize buildF l k (a + 1) = r at g1 g2 x1 x2 ⊢
    obtain ⟨x, n1⟩ := r
    dsimp only at g1 g2 x1 x2 ⊢
    generalize buildF l k n1 = r2 at g2 ⊢
    obtain ⟨y, n2⟩ := r2
    dsimp only at g2 ⊢
    simp only [h2, decide_true, ↓reduceIte]
    refine awp_seq ?_
    -- region 5
    refine awp_region rfl ?_
    refine aops_run 3 (by simp only [fwA, ↓reduceIte, Nat.reduceAdd, Nat.reduceMul, Nat.reduceEqDiff, Nat.reduceLT, Nat.reduceLeDiff, reduceCtorEq, hwa] <;> rfl) ?_
    refine aops_fn rfl rfl rfl en38 g1 ?_
    refine aops_run 6 (by simp only [fwA, ↓reduceIte, Nat.reduceAdd, Nat.reduceMul, Nat.reduceEqDiff, Nat.reduceLT, Nat.reduceLeDiff, reduceCtorEq, ti26, un22, pl26, el22, ti5, Sh.fw] <;> rfl) ?_
    refine awp_seq ?_
    -- region 6
    refine awp_region rfl ?_
    refine aops_run 2 (by simp only [fwA, ↓reduceIte, Nat.reduceAdd, Nat.reduceMul, Nat.reduceEqDiff, Nat.reduceLT, Nat.reduceLeDiff, reduceCtorEq] <;> rfl) ?_
    refine aops_fn rfl rfl rfl en38 g2 ?_
    refine aops_run 6 (by simp only [fwA, ↓reduceIte, Nat.reduceAdd, Nat.reduceMul, Nat.reduceEqDiff, Nat.reduceLT, Nat.reduceLeDiff, reduceCtorEq, ti26, un22, pl26, el22, ti5, Sh.fw] <;> rfl) ?_
    refine awp_seq ?_
    -- region 7
    refine awp_region rfl ?_
    refine aops_run 2 (by simp only [fwA, ↓reduceIte, Nat.reduceAdd, Nat.reduceMul, Nat.reduceEqDiff, Nat.reduceLT, Nat.reduceLeDiff, reduceCtorEq, ti26, un22, pl26, el22, ti5, Sh.fw] <;> rfl) ?_
    refine aops_fn rfl rfl rfl en13 (c13 Γ x y) ?_
    refine aops_run 3 (by simp only [fwA, ↓reduceIte, Nat.reduceAdd, Nat.reduceMul, Nat.reduceEqDiff, Nat.reduceLT, Nat.reduceLeDiff, reduceCtorEq, ti26, un22, pl26, el22, ti5, Sh.fw] <;> rfl) (awp_ret ?_)
    refine gives_end (.inl rfl) _ ?_
    simp [ares, aresL, ares1, rd, ev, alook, aput, Tryd.f38, ti26, Sh.fw]
  have e : buildF l (k + 1) a = if b.tmod 3 = 1 then (refS, a + 1) else (intS, a + 1) := by
    conv => lhs; unfold buildF
    rw [if_neg (by omega), hbb, if_neg h2]
  rw [e]
  simp only [h2, decide_false, Bool.false_eq_true, ↓reduceIte]
  refine awp_seq ?_
  -- region 8
  refine awp_run rfl (by simp only [fwA, ↓reduceIte, Nat.reduceAdd, Nat.reduceMul, Nat.reduceEqDiff, Nat.reduceLT, Nat.reduceLeDiff, reduceCtorEq, ti26, un22, pl26, el22, ti5, ne_eq, Int.reduceEq, not_false_eq_true] <;> rfl) ?_
  refine awp_cond (by simp only [fwA, ↓reduceIte, Nat.reduceAdd, Nat.reduceMul, Nat.reduceEqDiff, Nat.reduceLT, Nat.reduceLeDiff, reduceCtorEq] <;> rfl) ?_
  by_cases h3 : b.tmod 3 = 1
  · simp only [h3, decide_true, ↓reduceIte]
    refine awp_seq ?_
    refine awp_run rfl (by simp only [fwA, ↓reduceIte, Nat.reduceAdd, Nat.reduceMul, Nat.reduceEqDiff, Nat.reduceLT, Nat.reduceLeDiff, reduceCtorEq, ti26, un22, pl26, el22, ti5, hwa] <;> rfl) ?_
    refine awp_told (told_leBox H.length (cs := [.int .i64 2, .int .i64 0, .vec [] true]) (by rw [Fw.get_at0]; rfl) (leaf_le 2)) ?_
    refine awp_heap (H' := H ++ [.box refS.enc]) (by rw [Fw.set_at0]; rfl) ?_
    refine awp_ret ?_
    refine gives_end (.inl rfl) _ ?_
    simp [ares, aresL, ares1, rd, ev, alook, aput, Tryd.f38, ti26, Sh.fw]
  simp only [h3, decide_false, Bool.false_eq_true, ↓reduceIte]
  refine awp_skip ?_
  simp only [Post.block, Post.then]
  refine awp_seq ?_
  refine awp_run rfl (by simp only [fwA, ↓reduceIte, Nat.reduceAdd, Nat.reduceMul, Nat.reduceEqDiff, Nat.reduceLT, Nat.reduceLeDiff, reduceCtorEq, ti26, un22, pl26, el22, ti5, hwa] <;> rfl) ?_
  refine awp_told (told_leBox H.length (cs := [.int .i64 1, .int .i64 0, .vec [] true]) (by rw [Fw.get_at0]; rfl) (leaf_le 1)) ?_
  refine awp_heap (H' := H ++ [.box intS.enc]) (by rw [Fw.set_at0]; rfl) ?_
  refine awp_ret ?_
  refine gives_end (.inl rfl) _ ?_
  simp [ares, aresL, ares1, rd, ev, alook, aput, Tryd.f38, ti26, Sh.fw]

/-- made -/
theorem c10 (Γ : Nat → PV) (l : List Int) (h8 : ∀ x ∈ l, 0 ≤ x ∧ x < 256) : Gives Tryd.prog Γ 10 [.vec (l.map fun n => [.int .u8 n]) false] (.agg (madeF l).enc) := by
  refine fn_of_awp Tryd.func10 rfl (by simp [Tryd.f10]) (by simp [PV.plain, PV.bd, Sh.bd]) fun H => ?_
  refine awp_vlen 0 rfl fun hlen => ?_
  rw [List.length_map] at hlen
  refine awp_seq ?_
  refine awp_run rfl (by simp only [fwA, ↓reduceIte, Nat.reduceAdd, Nat.reduceMul, Nat.reduceEqDiff, Nat.reduceLT, Nat.reduceLeDiff, reduceCtorEq, ti26, un22, el22] <;> rfl) ?_
  refine awp_seq ?_
  have hcap : (if (12 : Int) < (l.length : Int) then (12 : Int) else (l.length : Int)) = ((min l.length 12 : Nat) : Int) := by split <;> omega
  refine awp_region rfl ?_
  refine aops_run 3 (by simp only [fwA, ↓reduceIte, Nat.reduceAdd, Nat.reduceMul, Nat.reduceEqDiff, Nat.reduceLT, Nat.reduceLeDiff, reduceCtorEq, ti26, un22, el22, List.length_map] <;> rfl) ?_
  refine aops_one rfl (os_min rfl rfl rfl ?_)
  simp only [hcap]
  refine aops_one rfl (os_sliceVec (l := 0) (h := min l.length 12) rfl el22 rfl (fun e he => by obtain ⟨x, _, rfl⟩ := List.mem_map.1 he; rfl) rfl ⟨_, rfl⟩ trivial (Nat.zero_le _) (by rw [List.length_map]; omega) ?_)
  have hL : ((l.map fun n => [PV.int .u8 n]).drop 0).take (min l.length 12 - 0) = (l.take 12).map fun n => [PV.int .u8 n] := by
    rw [List.drop_zero, Nat.sub_zero, List.map_take]
    rcases Nat.le_total l.length 12 with h | h
    · rw [Nat.min_eq_left h, List.take_of_length_le (by simp), List.take_of_length_le (by simpa using h)]
    · rw [Nat.min_eq_right h]
  simp only [hL, Option.isSome_none]
  have h38 := c38 Γ (l.take 12) (by rw [List.length_take]; omega) (fun x hx => h8 x (List.mem_of_mem_take hx)) 14 0 (Nat.zero_le _) (by rw [List.length_take]; omega)
  have hm : (buildF (l.take 12) 14 0).1 = madeF l := rfl
  rw [hm] at h38
  generalize (buildF (l.take 12) 14 0).2 = m at h38
  refine aops_fn rfl rfl rfl en38 h38 ?_
  refine aops_run 6 (by simp only [fwA, ↓reduceIte, Nat.reduceAdd, Nat.reduceMul, Nat.reduceEqDiff, Nat.reduceLT, Nat.reduceLeDiff, reduceCtorEq, ti26, un22, el22, Sh.fw] <;> rfl) ?_
  refine awp_seq ?_
  refine awp_run rfl (by simp only [fwA, ↓reduceIte, Nat.reduceAdd, Nat.reduceMul, Nat.reduceEqDiff, Nat.reduceLT, Nat.reduceLeDiff, reduceCtorEq, ti26, un22, el22, Sh.fw] <;> rfl) (awp_ret ?_)
  refine gives_end (.inl rfl) _ ?_
  simp [ares, aresL, ares1, rd, ev, alook, aput, Tryd.f10, ti26, Sh.fw]

end Go.Proofs.YtlnffadolfkggaaDoor

/- The contracts of what atoms and types are shown as. -/
namespace Go.Proofs.YtlnffadolfkggaaDoor
set_option linter.unusedVariables false
set_option linter.unusedSimpArgs false
set_option maxRecDepth 100000
open Go.RowKit Fw

/-- The library's table of the powers of ten. -/
def Tab (Γ : Nat → PV) : Prop := Γ 0 = .cptr (Lib.pow10Tab.map fun z => .int .u64 z)
theorem wrapN (n : Nat) (h : n < 9223372036854775808) : IntKind.i64.wrap (n : Int) = n := wrapId ⟨by omega, by omega⟩
theorem itoa_room {n : Int} (h : I64 n) : (Lib.itoa n).length ≤ 21 := by have := Lib.itoa_length_le n h.1 h.2; omega
theorem ints1 {G : Ghost} {n : Nat} {k : IntKind} {x : Int} {us : Array Value} (h : Reps G n [.int k x] us.toList) : us = #[.int k x] := by
  obtain ⟨l⟩ := us
  obtain ⟨v, vs, rfl, h1, h2⟩ := h.cons_inv
  have : vs = [] := by have := h2.1; simpa using this.symm
  subst this
  rw [h1.int_inv]
/-- strconv.Itoa -/
theorem c64 (Γ : Nat → PV) (hΓ : Tab Γ) (n : Int) (hn : I64 n) : Gives Tryd.prog Γ 64 [.int .i64 n] (.str (Lib.itoa n)) :=
  gives_text lays.m17 hΓ (fun _ _ _ h => ints1 h) (by have := itoa_room hn; omega) fun w hw => Any.strconv_Itoa lays n hn.1 hn.2 w hw

theorem wrapU (n : Nat) (h : n < 18446744073709551616) : IntKind.u64.wrap (n : Int) = n := by
  unfold IntKind.wrap
  have hb : IntKind.u64.bits = 64 := rfl
  have hsg : IntKind.u64.signed = false := rfl
  simp only [hb, hsg, Bool.false_and, Bool.false_eq_true, ↓reduceIte]
  omega
theorem wrapB (n : Nat) (h : n < 256) : IntKind.u8.wrap (n : Int) = n := by
  unfold IntKind.wrap
  have hb : IntKind.u8.bits = 8 := rfl
  have hsg : IntKind.u8.signed = false := rfl
  simp only [hb, hsg, Bool.false_and, Bool.false_eq_true, ↓reduceIte]
  omega

theorem digit (n : Nat) (h : n < 10) : IntKind.u8.wrap (IntKind.u64.wrap (48 + (n : Int))) = ((UInt8.ofNat (48 + n)).toNat : Int) := by
  rw [show (48 + (n : Int)) = ((48 + n : Nat) : Int) by omega, wrapU _ (by omega), wrapB _ (by omega)]
  simp
  omega

/-- chancelref07.digits -/
theorem c74 (Γ : Nat → PV) (n : Nat) (hn : n < 18446744073709551616) : Gives Tryd.prog Γ 74 [.int .u64 n] (.str (Lib.decDigits n)) := by
  have hlen : (Lib.decDigits n).length ≤ 20 := by rw [Lib.decDigits_length]; exact Lib.nDigits_le20 n hn
  refine fn_of_awp Tryd.func74 rfl (by simp [Tryd.f74]) rfl fun H => ?_
  refine awp_seq ?_
  -- region 0
  refine awp_run rfl (by simp only [fwA, ↓reduceIte, Nat.reduceAdd, Nat.reduceMul, Nat.reduceEqDiff, Nat.reduceLT, Nat.reduceLeDiff, reduceCtorEq] <;> rfl) ?_
  refine awp_seq ?_
  -- region 1
  refine awp_run rfl (by simp only [fwA, ↓reduceIte, Nat.reduceAdd, Nat.reduceMul, Nat.reduceEqDiff, Nat.reduceLT, Nat.reduceLeDiff, reduceCtorEq] <;> rfl) ?_
  refine awp_seq ?_
  refine awp_block ?_
  refine awp_for [0, 3] (fun s : Nat × List UInt8 => [.int .u64 (s.1 : Int), .str s.2]) (fun _ => H) (fun s => s.1) (fun s => s.1 < 18446744073709551616 ∧ Lib.decDigits n = Lib.decDigits s.1 ++ s.2) (n, []) rfl rfl ⟨hn, by simp⟩ fun s hs => ?_
  obtain ⟨m, t⟩ := s
  obtain ⟨hm, hd⟩ := hs
  simp only at hm hd ⊢
  have ht : t.length ≤ 20 := by
    have := congrArg List.length hd
    rw [List.length_append] at this; omega
  refine awp_seq ?_
  refine awp_seq ?_
  -- region 2
  refine awp_run rfl (by simp only [fwA, ↓reduceIte, Nat.reduceAdd, Nat.reduceMul, Nat.reduceEqDiff, Nat.reduceLT, Nat.reduceLeDiff, reduceCtorEq] <;> rfl) ?_
  refine awp_cond (by simp only [fwA, ↓reduceIte, Nat.reduceAdd, Nat.reduceMul, Nat.reduceEqDiff, Nat.reduceLT, Nat.reduceLeDiff, reduceCtorEq] <;> rfl) ?_
  by_cases hc : (9 : Int) < m
  rotate_left
  · simp only [hc, decide_false, Bool.false_eq_true, ↓reduceIte]
    refine awp_exit ?_
    simp only [Post.block, Post.then, ↓reduceIte]
    have hm9 : m < 10 := by omega
    refine awp_seq ?_
    -- region 5
    refine awp_region rfl ?_
    refine aops_run 4 (by simp only [fwA, ↓reduceIte, Nat.reduceAdd, Nat.reduceMul, Nat.reduceEqDiff, Nat.reduceLT, Nat.reduceLeDiff, reduceCtorEq, un117, un5, un22, ti5, un9, digit m hm9] <;> rfl) ?_
    refine aops_one rfl (os_convBytes (l := [UInt8.ofNat (48 + m)]) (f := true) rfl un22 un5 un9 rfl ?_)
    refine aops_run 3 (by simp only [fwA, ↓reduceIte, Nat.reduceAdd, Nat.reduceMul, Nat.reduceEqDiff, Nat.reduceLT, Nat.reduceLeDiff, reduceCtorEq, show 0 + 1 + t.length ≤ 9223372036854775807 by omega] <;> rfl) ?_
    refine awp_ret ?_
    refine gives_end0 (.inl rfl) ?_
    rw [hd, Lib.decDigits_one hm9]
    rfl
  simp only [hc, decide_true, ↓reduceIte]
  refine awp_skip ?_
  have hm10 : ¬ m < 10 := by omega
  have e1 : IntKind.u8.wrap (IntKind.u64.wrap (48 + (m : Int).tmod 10)) = ((UInt8.ofNat (48 + m % 10)).toNat : Int) := digit (m % 10) (Nat.mod_lt _ (by decide))
  have e2 : (m : Int).tdiv 10 = ((m / 10 : Nat) : Int) := rfl
  refine awp_block ?_
  refine awp_seq ?_
  -- region 3
  refine awp_region rfl ?_
  refine aops_run 5 (by simp only [fwA, ↓reduceIte, Nat.reduceAdd, Nat.reduceMul, Nat.reduceEqDiff, Nat.reduceLT, Nat.reduceLeDiff, reduceCtorEq, un117, un5, un22, ti5, un9, e1, show ¬ ((10 : Int) = 0) by decide, ne_eq, not_false_eq_true, and_self] <;> rfl) ?_
  refine aops_one rfl (os_convBytes (l := [UInt8.ofNat (48 + m % 10)]) (f := true) rfl un22 un5 un9 rfl ?_)
  refine aops_run 3 (by simp only [fwA, ↓reduceIte, Nat.reduceAdd, Nat.reduceMul, Nat.reduceEqDiff, Nat.reduceLT, Nat.reduceLeDiff, reduceCtorEq, show 0 + 1 + t.length ≤ 9223372036854775807 by omega] <;> rfl) ?_
  -- region 4
  refine awp_run rfl (by simp only [fwA, ↓reduceIte, Nat.reduceAdd, Nat.reduceMul, Nat.reduceEqDiff, Nat.reduceLT, Nat.reduceLeDiff, reduceCtorEq, e2, wrapU (m / 10) (by omega), show ¬ ((10 : Int) = 0) by decide, ne_eq, not_false_eq_true, and_self] <;> rfl) ?_
  refine ⟨(m / 10, UInt8.ofNat (48 + m % 10) :: t), by simp only; omega, ⟨by simp only; omega, ?_⟩, rfl, rfl, rfl⟩
  simp only
  rw [hd, dec_step hm10]
  simp

/-- chancelref07.Name -/
theorem c66 (Γ : Nat → PV) (n : Int) (hn : I64 n) : Gives Tryd.prog Γ 66 [.int .i64 n] (.str (Lib.itoa n)) := by
  obtain ⟨h1, h2⟩ := hn
  refine fn_of_awp Tryd.func66 rfl (by simp [Tryd.f66]) rfl fun H => ?_
  refine awp_seq ?_
  -- region 0
  refine awp_run rfl (by simp only [fwA, ↓reduceIte, Nat.reduceAdd, Nat.reduceMul, Nat.reduceEqDiff, Nat.reduceLT, Nat.reduceLeDiff, reduceCtorEq] <;> rfl) ?_
  refine awp_seq ?_
  refine awp_seq ?_
  -- region 1
  refine awp_run rfl (by simp only [fwA, ↓reduceIte, Nat.reduceAdd, Nat.reduceMul, Nat.reduceEqDiff, Nat.reduceLT, Nat.reduceLeDiff, reduceCtorEq] <;> rfl) ?_
  refine awp_cond (by simp only [fwA, ↓reduceIte, Nat.reduceAdd, Nat.reduceMul, Nat.reduceEqDiff, Nat.reduceLT, Nat.reduceLeDiff, reduceCtorEq] <;> rfl) ?_
  by_cases hc : n < 0
  · simp only [hc, decide_true, ↓reduceIte]
    obtain ⟨m, rfl⟩ : ∃ m : Nat, n = -((m : Int) + 1) := ⟨(-n - 1).toNat, by omega⟩
    have hm : m < 9223372036854775808 := by omega
    have e1 : IntKind.i64.wrap (-((m : Int) + 1) + 1) = -(m : Int) := by
      rw [show -((m : Int) + 1) + 1 = -(m : Int) by omega]
      unfold IntKind.wrap
      have hb : IntKind.i64.bits = 64 := rfl
      have hsg : IntKind.i64.signed = true := rfl
      simp only [hb, hsg, Bool.true_and, decide_eq_true_eq]
      split <;> omega
    have e2 : IntKind.i64.wrap (0 - -(m : Int)) = m := by
      rw [show 0 - -(m : Int) = (m : Int) by omega]; exact wrapN m hm
    have e3 : IntKind.u64.wrap ((m : Int) + 1) = ((m + 1 : Nat) : Int) := wrapU (m + 1) (by omega)
    refine awp_seq ?_
    -- region 2
    refine awp_run rfl (by simp only [fwA, ↓reduceIte, Nat.reduceAdd, Nat.reduceMul, Nat.reduceEqDiff, Nat.reduceLT, Nat.reduceLeDiff, reduceCtorEq, un3, un117, e1, e2, wrapU m (by omega), e3] <;> rfl) ?_
    refine awp_seq ?_
    -- region 3
    refine awp_region rfl ?_
    refine aops_run 1 (by simp only [fwA, ↓reduceIte, Nat.reduceAdd, Nat.reduceMul, Nat.reduceEqDiff, Nat.reduceLT, Nat.reduceLeDiff, reduceCtorEq] <;> rfl) ?_
    refine aops_fn rfl rfl rfl en74 (c74 Γ (m + 1) (by omega)) ?_
    have hlen : (Lib.decDigits (m + 1)).length ≤ 20 := by rw [Lib.decDigits_length]; exact Lib.nDigits_le20 _ (by omega)
    refine aops_run 2 (by simp only [fwA, ↓reduceIte, Nat.reduceAdd, Nat.reduceMul, Nat.reduceEqDiff, Nat.reduceLT, Nat.reduceLeDiff, reduceCtorEq, show 0 + 1 + (Lib.decDigits (m + 1)).length ≤ 9223372036854775807 by omega] <;> rfl) ?_
    refine awp_ret ?_
    refine gives_end0 (.inl rfl) ?_
    rw [show -((m : Int) + 1) = -((m + 1 : Nat) : Int) by omega, Lib.itoa_neg _ (by omega)]
    rfl
  · simp only [hc, decide_false, Bool.false_eq_true, ↓reduceIte]
    obtain ⟨m, rfl⟩ : ∃ m : Nat, n = (m : Int) := ⟨n.toNat, by omega⟩
    refine awp_skip ?_
    refine awp_seq ?_
    -- region 4
    refine awp_region rfl ?_
    refine aops_run 2 (by simp only [fwA, ↓reduceIte, Nat.reduceAdd, Nat.reduceMul, Nat.reduceEqDiff, Nat.reduceLT, Nat.reduceLeDiff, reduceCtorEq, un3, un117, wrapU m (by omega)] <;> rfl) ?_
    refine aops_fn rfl rfl rfl en74 (c74 Γ m (by omega)) ?_
    refine aops_run 1 (by simp only [fwA, ↓reduceIte, Nat.reduceAdd, Nat.reduceMul, Nat.reduceEqDiff, Nat.reduceLT, Nat.reduceLeDiff, reduceCtorEq] <;> rfl) ?_
    refine awp_ret ?_
    refine gives_end0 (.inl rfl) ?_
    rw [Lib.itoa_nonneg]
    rfl


theorem atomT_len {names : List (List UInt8)} {B : Nat} (hB : ∀ s ∈ names, s.length ≤ B) {a : Int} (ha : I64 a) : (atomT names a).length ≤ B + 22 := by
  unfold atomT
  split
  · have := itoa_room ha
    rw [List.length_cons]; omega
  · rw [List.getD_eq_getElem?_getD]
    cases h : names[(-1 - a).toNat]? with
    | none => show 1 ≤ _; omega
    | some s => have := hB s (List.mem_of_getElem? h); show s.length ≤ _; omega
/-- atom.Text -/
theorem c50 (Γ : Nat → PV) (hΓ : Tab Γ) (names : List (List UInt8)) (a : Int) (ha : I64 a) : Gives Tryd.prog Γ 50 [.vec (names.map fun s => [.str s]) false, .int .i64 a] (.str (atomT names a)) := by
  refine fn_of_awp Tryd.func50 rfl (by simp [Tryd.f50]) rfl fun H => ?_
  have hit := itoa_room ha
  refine awp_seq ?_
  -- region 0
  refine awp_run rfl (by simp only [fwA, ↓reduceIte, Nat.reduceAdd, Nat.reduceMul, Nat.reduceEqDiff, Nat.reduceLT, Nat.reduceLeDiff, reduceCtorEq] <;> rfl) ?_
  refine awp_seq ?_
  refine awp_block ?_
  refine awp_seq ?_
  -- region 1
  refine awp_region rfl ?_
  refine aops_run 1 (by simp only [fwA, ↓reduceIte, Nat.reduceAdd, Nat.reduceMul, Nat.reduceEqDiff, Nat.reduceLT, Nat.reduceLeDiff, reduceCtorEq] <;> rfl) ?_
  refine aops_fn rfl rfl rfl en63 (c63 Γ a) ?_
  refine aops_run 2 (by simp only [fwA, ↓reduceIte, Nat.reduceAdd, Nat.reduceMul, Nat.reduceEqDiff, Nat.reduceLT, Nat.reduceLeDiff, reduceCtorEq] <;> rfl) ?_
  refine awp_cond (by simp only [fwA, ↓reduceIte, Nat.reduceAdd, Nat.reduceMul, Nat.reduceEqDiff, Nat.reduceLT, Nat.reduceLeDiff, reduceCtorEq] <;> rfl) ?_
  by_cases h0 : 0 ≤ a
  · have hn : ¬ a < 0 := by omega
    simp only [hn, decide_false, Bool.not_false, ↓reduceIte]
    refine awp_seq ?_
    -- region 2
    refine awp_region rfl ?_
    refine aops_run 1 (by simp only [fwA, ↓reduceIte, Nat.reduceAdd, Nat.reduceMul, Nat.reduceEqDiff, Nat.reduceLT, Nat.reduceLeDiff, reduceCtorEq] <;> rfl) ?_
    refine aops_fn rfl rfl rfl en64 (c64 Γ hΓ a ha) ?_
    refine aops_run 2 (by simp (disch := omega) only [fwA, ↓reduceIte, Nat.reduceAdd, Nat.reduceMul, Nat.reduceEqDiff, Nat.reduceLT, Nat.reduceLeDiff, reduceCtorEq, if_pos] <;> rfl) (awp_ret ?_)
    exact gives_end0 (.inl rfl) (by unfold atomT; rw [if_pos h0]; rfl)
  have hn : a < 0 := by omega
  simp only [hn, decide_true, Bool.not_true, Bool.false_eq_true, ↓reduceIte]
  have hp : pointOf a = -1 - a := by unfold pointOf; rw [if_neg h0]
  have hat : atomT names a = names.getD (-1 - a).toNat [63] := by unfold atomT; rw [if_neg h0]
  refine awp_vlen 0 rfl fun hlen => ?_
  rw [List.length_map] at hlen
  refine awp_seq ?_
  -- region 3
  refine awp_region rfl ?_
  refine aops_run 1 (by simp only [fwA, ↓reduceIte, Nat.reduceAdd, Nat.reduceMul, Nat.reduceEqDiff, Nat.reduceLT, Nat.reduceLeDiff, reduceCtorEq] <;> rfl) ?_
  refine aops_fn rfl rfl rfl en65 (c65 Γ a ha) ?_
  rw [hp]
  refine aops_run 4 (by simp only [fwA, ↓reduceIte, Nat.reduceAdd, Nat.reduceMul, Nat.reduceEqDiff, Nat.reduceLT, Nat.reduceLeDiff, reduceCtorEq, un62, List.length_map] <;> rfl) ?_
  refine awp_cond (by simp only [fwA, ↓reduceIte, Nat.reduceAdd, Nat.reduceMul, Nat.reduceEqDiff, Nat.reduceLT, Nat.reduceLeDiff, reduceCtorEq] <;> rfl) ?_
  by_cases hl : -1 - a < (names.length : Int)
  · simp only [hl, decide_true, ↓reduceIte]
    have hil : (-1 - a).toNat < names.length := by omega
    have gi : names[(-1 - a).toNat]? = some (names.getD (-1 - a).toNat [63]) := by rw [List.getD_eq_getElem?_getD, List.getElem?_eq_getElem hil]; rfl
    have hnn : 0 ≤ -1 - a := by omega
    refine awp_seq ?_
    -- region 4
    refine awp_region rfl ?_
    refine aops_run 2 (by simp only [fwA, ↓reduceIte, Nat.reduceAdd, Nat.reduceMul, Nat.reduceEqDiff, Nat.reduceLT, Nat.reduceLeDiff, reduceCtorEq] <;> rfl) ?_
    refine aops_fn rfl rfl rfl en65 (c65 Γ a ha) ?_
    rw [hp]
    refine aops_run 3 (by simp only [fwA, ↓reduceIte, Nat.reduceAdd, Nat.reduceMul, Nat.reduceEqDiff, Nat.reduceLT, Nat.reduceLeDiff, reduceCtorEq, el62, ti9, List.getElem?_map, gi, Option.map_some, hnn, List.length_cons, List.length_nil, true_and] <;> rfl) (awp_ret ?_)
    exact gives_end0 (.inl rfl) (by rw [hat]; rfl)
  simp only [hl, decide_false, Bool.false_eq_true, ↓reduceIte]
  refine awp_skip ?_
  simp only [Post.block, Post.then]
  refine awp_seq (awp_run rfl (by simp only [fwA, ↓reduceIte, Nat.reduceAdd, Nat.reduceMul, Nat.reduceEqDiff, Nat.reduceLT, Nat.reduceLeDiff, reduceCtorEq] <;> rfl) (awp_ret ?_))
  exact gives_end0 (.inl rfl) (by rw [hat, List.getD_eq_getElem?_getD, List.getElem?_eq_none (by omega)]; rfl)

/-- chancelref10.Text -/
theorem c51 (Γ : Nat → PV) (names : List (List UInt8)) (a : Int) (ha : I64 a) : Gives Tryd.prog Γ 51 [.vec (names.map fun s => [.str s]) false, .int .i64 a] (.str (atomT names a)) := by
  refine fn_of_awp Tryd.func51 rfl (by simp [Tryd.f51]) rfl fun H => ?_
  have hit := itoa_room ha
  refine awp_seq ?_
  -- region 0
  refine awp_run rfl (by simp only [fwA, ↓reduceIte, Nat.reduceAdd, Nat.reduceMul, Nat.reduceEqDiff, Nat.reduceLT, Nat.reduceLeDiff, reduceCtorEq] <;> rfl) ?_
  refine awp_seq ?_
  refine awp_seq ?_
  -- region 1
  refine awp_run rfl (by simp only [fwA, ↓reduceIte, Nat.reduceAdd, Nat.reduceMul, Nat.reduceEqDiff, Nat.reduceLT, Nat.reduceLeDiff, reduceCtorEq, ge_iff_le] <;> rfl) ?_
  refine awp_cond (by simp only [fwA, ↓reduceIte, Nat.reduceAdd, Nat.reduceMul, Nat.reduceEqDiff, Nat.reduceLT, Nat.reduceLeDiff, reduceCtorEq] <;> rfl) ?_
  by_cases h0 : 0 ≤ a
  · simp only [h0, decide_true, ↓reduceIte]
    refine awp_seq ?_
    -- region 2
    refine awp_region rfl ?_
    refine aops_run 1 (by simp only [fwA, ↓reduceIte, Nat.reduceAdd, Nat.reduceMul, Nat.reduceEqDiff, Nat.reduceLT, Nat.reduceLeDiff, reduceCtorEq] <;> rfl) ?_
    refine aops_fn rfl rfl rfl en66 (c66 Γ a ha) ?_
    refine aops_run 2 (by simp (disch := omega) only [fwA, ↓reduceIte, Nat.reduceAdd, Nat.reduceMul, Nat.reduceEqDiff, Nat.reduceLT, Nat.reduceLeDiff, reduceCtorEq, if_pos] <;> rfl) (awp_ret ?_)
    exact gives_end0 (.inl rfl) (by unfold atomT; rw [if_pos h0]; rfl)
  simp only [h0, decide_false, Bool.false_eq_true, ↓reduceIte]
  refine awp_skip ?_
  have hp : pointOf a = -1 - a := by unfold pointOf; rw [if_neg h0]
  have hat : atomT names a = names.getD (-1 - a).toNat [63] := by unfold atomT; rw [if_neg h0]
  refine awp_vlen 0 rfl fun hlen => ?_
  rw [List.length_map] at hlen
  refine awp_seq ?_
  refine awp_seq ?_
  -- region 3
  refine awp_region rfl ?_
  refine aops_run 1 (by simp only [fwA, ↓reduceIte, Nat.reduceAdd, Nat.reduceMul, Nat.reduceEqDiff, Nat.reduceLT, Nat.reduceLeDiff, reduceCtorEq] <;> rfl) ?_
  refine aops_fn rfl rfl rfl en67 (c67 Γ a ha) ?_
  rw [hp]
  refine aops_run 3 (by simp only [fwA, ↓reduceIte, Nat.reduceAdd, Nat.reduceMul, Nat.reduceEqDiff, Nat.reduceLT, Nat.reduceLeDiff, reduceCtorEq, un62, List.length_map] <;> rfl) ?_
  refine awp_cond (by simp only [fwA, ↓reduceIte, Nat.reduceAdd, Nat.reduceMul, Nat.reduceEqDiff, Nat.reduceLT, Nat.reduceLeDiff, reduceCtorEq] <;> rfl) ?_
  by_cases hl : -1 - a < (names.length : Int)
  · simp only [hl, decide_true, ↓reduceIte]
    have hil : (-1 - a).toNat < names.length := by omega
    have gi : names[(-1 - a).toNat]? = some (names.getD (-1 - a).toNat [63]) := by rw [List.getD_eq_getElem?_getD, List.getElem?_eq_getElem hil]; rfl
    have hnn : 0 ≤ -1 - a := by omega
    refine awp_seq ?_
    -- region 4
    refine awp_region rfl ?_
    refine aops_run 2 (by simp only [fwA, ↓reduceIte, Nat.reduceAdd, Nat.reduceMul, Nat.reduceEqDiff, Nat.reduceLT, Nat.reduceLeDiff, reduceCtorEq] <;> rfl) ?_
    refine aops_fn rfl rfl rfl en67 (c67 Γ a ha) ?_
    rw [hp]
    refine aops_run 3 (by simp only [fwA, ↓reduceIte, Nat.reduceAdd, Nat.reduceMul, Nat.reduceEqDiff, Nat.reduceLT, Nat.reduceLeDiff, reduceCtorEq, el62, ti9, List.getElem?_map, gi, Option.map_some, hnn, List.length_cons, List.length_nil, true_and] <;> rfl) (awp_ret ?_)
    exact gives_end0 (.inl rfl) (by rw [hat]; rfl)
  simp only [hl, decide_false, Bool.false_eq_true, ↓reduceIte]
  refine awp_skip ?_
  refine awp_seq (awp_run rfl (by simp only [fwA, ↓reduceIte, Nat.reduceAdd, Nat.reduceMul, Nat.reduceEqDiff, Nat.reduceLT, Nat.reduceLeDiff, reduceCtorEq] <;> rfl) (awp_ret ?_))
  exact gives_end0 (.inl rfl) (by rw [hat, List.getD_eq_getElem?_getD, List.getElem?_eq_none (by omega)]; rfl)

end Go.Proofs.YtlnffadolfkggaaDoor

/- The contracts of what types are shown as. -/
namespace Go.Proofs.YtlnffadolfkggaaDoor
set_option linter.unusedVariables false
set_option linter.unusedSimpArgs false
set_option maxRecDepth 100000
open Go.RowKit Fw

/-- A type whose labels are numbers of the machine. -/
inductive Ty.In : Ty → Prop
  | mk (t : Ty) (h1 : I64 t.l) (h2 : I64 t.c) (h3 : I64 t.pc) (h4 : I64 t.x) (hk : ∀ k ∈ t.kids, Ty.In k) : Ty.In t
theorem Ty.w_pos (t : Ty) : 0 < t.w := by rw [Ty.w_eq]; omega
theorem Ty.w_kid {t k : Ty} (h : k ∈ t.kids) : k.w < t.w := by
  rw [Ty.w_eq t]
  have : ∀ l : List Ty, k ∈ l → k.w ≤ (l.map Ty.w).sum := by
    intro l hl
    induction l with
    | nil => cases hl
    | cons x l ih =>
      rw [List.map_cons, List.sum_cons]
      rcases List.mem_cons.1 hl with rfl | hl
      · omega
      · have := ih hl; omega
  have := this _ h
  omega
theorem Ty.w_two {t : Ty} (h : t.kids.length = 2) : t.w = (kid t 0).w + (kid t 1).w + 1 := by
  rw [Ty.w_eq, two_kids h]; simp only [List.map_cons, List.map_nil, List.sum_cons, List.sum_nil]; omega

theorem textR1 {names : List (List UInt8)} {t : Ty} (h : t.kind = 1) : t.textR names = [105, 110, 116] ++ (64 :: atomT names t.l) := by
  cases t with
  | mk k l c pc x ks =>
    have h : k = 1 := h
    unfold Ty.textR; rw [if_pos h]; rfl
theorem textR2 {names : List (List UInt8)} {t : Ty} (h : t.kind = 2) : t.textR names = [114, 101, 102] ++ (64 :: atomT names t.l) ++ [91] ++ atomT names t.c ++ [93] := by
  cases t with
  | mk k l c pc x ks =>
    have h : k = 2 := h
    unfold Ty.textR; rw [if_neg (by omega), if_pos h]; rfl
theorem textR3 {names : List (List UInt8)} {t : Ty} (h : t.kind = 3) (h2 : t.kids.length = 2) : t.textR names = [40] ++ (kid t 0).textR names ++ [32, 45] ++ atomT names t.pc ++ [44] ++ atomT names t.x ++ [45, 62, 32] ++ (kid t 1).textR names ++ [41] ++ (64 :: atomT names t.l) := by
  have hk := two_kids h2
  cases t with
  | mk k l c pc x ks =>
    have h : k = 3 := h
    rw [Ty.textR, if_neg (by omega), if_neg (by omega), Ty.textsR_map]
    have hk : ks = [kid (Ty.mk k l c pc x ks) 0, kid (Ty.mk k l c pc x ks) 1] := hk
    conv => lhs; rw [hk]
    simp only [List.map_cons, List.map_nil, List.getD_cons_zero, List.getD_cons_succ]
    rfl
theorem textR_len {names : List (List UInt8)} (hB : ∀ s ∈ names, s.length ≤ 1000) : ∀ t : Ty, t.Right → t.In → (t.textR names).length ≤ 4000 * t.w := by
  refine Ty.ind fun t ih hr hin => ?_
  obtain ⟨_, i1, i2, i3, i4, ik⟩ := hin
  have a1 := atomT_len hB i1
  have a2 := atomT_len hB i2
  have a3 := atomT_len hB i3
  have a4 := atomT_len hB i4
  have hw := t.w_pos
  have hn := hr.node
  have h3 : t.kind = 1 ∨ t.kind = 2 ∨ t.kind = 3 := by have := hn.1; have := hn.2.1; omega
  rcases h3 with h | h | h
  · rw [textR1 h]; simp only [List.length_append, List.length_cons, List.length_nil]; omega
  · rw [textR2 h]; simp only [List.length_append, List.length_cons, List.length_nil]; omega
  · have hl := ((ty3 h).1 hr).2.1
    have k0 := ih (kid t 0) (kid_mem (by omega)) ((ty3 h).1 hr).2.2.1 (ik _ (kid_mem (by omega)))
    have k1 := ih (kid t 1) (kid_mem (by omega)) ((ty3 h).1 hr).2.2.2 (ik _ (kid_mem (by omega)))
    have hw2 := Ty.w_two hl
    rw [textR3 h hl]; simp only [List.length_append, List.length_cons, List.length_nil]; omega
theorem text_right {names : List (List UInt8)} {t : Ty} (h : t.Right) : t.text names = t.textR names := by unfold Ty.text; rw [if_pos h]
abbrev namesV (l : List (List UInt8)) : PV := .vec (l.map fun s => [.str s]) false

/-- chancel/ltype.Text -/
theorem c26 (Γ : Nat → PV) (hΓ : Tab Γ) (names : List (List UInt8)) (hB : ∀ s ∈ names, s.length ≤ 1000) : ∀ t : Ty, t.In → t.w ≤ 1000000000 → Gives Tryd.prog Γ 26 [namesV names, .agg t.enc] (.str (t.text names)) := by
  refine Ty.ind fun t ih hin hw => ?_
  obtain ⟨_, i1, i2, i3, i4, ik⟩ := hin
  have a1 := atomT_len hB i1
  have a2 := atomT_len hB i2
  have a3 := atomT_len hB i3
  have a4 := atomT_len hB i4
  refine fn_of_awp Tryd.func26 rfl (by simp [Tryd.f26]) rfl fun H => ?_
  refine awp_seq ?_
  -- region 0
  refine awp_run rfl (by simp only [fwA, ↓reduceIte, Nat.reduceAdd, Nat.reduceMul, Nat.reduceEqDiff, Nat.reduceLT, Nat.reduceLeDiff, reduceCtorEq] <;> rfl) ?_
  refine awp_seq ?_
  refine awp_seq ?_
  -- region 1
  refine awp_region rfl ?_
  refine aops_run 1 (by simp only [fwA, ↓reduceIte, Nat.reduceAdd, Nat.reduceMul, Nat.reduceEqDiff, Nat.reduceLT, Nat.reduceLeDiff, reduceCtorEq, ti31, fl31_1, ti28, fl31_0, ti3, fl31_2, fl31_3, fl31_4, fl31_5, ti29, el29, Ty.fw] <;> rfl) ?_
  refine aops_fn rfl rfl rfl en23 (c23 Γ t) ?_
  refine aops_run 1 (by simp only [fwA, ↓reduceIte, Nat.reduceAdd, Nat.reduceMul, Nat.reduceEqDiff, Nat.reduceLT, Nat.reduceLeDiff, reduceCtorEq] <;> rfl) ?_
  refine awp_cond (by simp only [fwA, ↓reduceIte, Nat.reduceAdd, Nat.reduceMul, Nat.reduceEqDiff, Nat.reduceLT, Nat.reduceLeDiff, reduceCtorEq] <;> rfl) ?_
  by_cases hr : t.Right
  rotate_left
  · simp only [hr, decide_false, Bool.not_false, ↓reduceIte]
    refine awp_seq (awp_run rfl (by simp only [fwA, ↓reduceIte, Nat.reduceAdd, Nat.reduceMul, Nat.reduceEqDiff, Nat.reduceLT, Nat.reduceLeDiff, reduceCtorEq] <;> rfl) (awp_ret ?_))
    exact gives_end (.inl rfl) _ (by unfold Ty.text; rw [if_neg hr]; rfl)
  simp only [hr, decide_true, Bool.not_true, Bool.false_eq_true, ↓reduceIte]
  refine awp_skip ?_
  rw [text_right hr]
  refine awp_seq ?_
  -- region 3
  refine awp_region rfl ?_
  refine aops_run 3 (by simp only [fwA, ↓reduceIte, Nat.reduceAdd, Nat.reduceMul, Nat.reduceEqDiff, Nat.reduceLT, Nat.reduceLeDiff, reduceCtorEq, ti31, fl31_1, ti28, fl31_0, ti3, fl31_2, fl31_3, fl31_4, fl31_5, ti29, el29, Ty.fw] <;> rfl) ?_
  refine aops_fn rfl rfl rfl en50 (c50 Γ hΓ names t.l i1) ?_
  refine aops_run 2 (by simp (disch := omega) only [fwA, ↓reduceIte, Nat.reduceAdd, Nat.reduceMul, Nat.reduceEqDiff, Nat.reduceLT, Nat.reduceLeDiff, reduceCtorEq, if_pos, List.length_append, List.length_cons, List.length_nil] <;> rfl) ?_
  refine awp_seq ?_
  refine awp_seq ?_
  -- region 4
  refine awp_run rfl (by simp only [fwA, ↓reduceIte, Nat.reduceAdd, Nat.reduceMul, Nat.reduceEqDiff, Nat.reduceLT, Nat.reduceLeDiff, reduceCtorEq, ti31, fl31_1, ti28, fl31_0, ti3, fl31_2, fl31_3, fl31_4, fl31_5, ti29, el29, Ty.fw] <;> rfl) ?_
  refine awp_block ?_
  refine awp_seq ?_
  -- region 5
  refine awp_run rfl (by simp only [fwA, ↓reduceIte, Nat.reduceAdd, Nat.reduceMul, Nat.reduceEqDiff, Nat.reduceLT, Nat.reduceLeDiff, reduceCtorEq] <;> rfl) ?_
  refine awp_cond (by simp only [fwA, ↓reduceIte, Nat.reduceAdd, Nat.reduceMul, Nat.reduceEqDiff, Nat.reduceLT, Nat.reduceLeDiff, reduceCtorEq] <;> rfl) ?_
  by_cases k1 : t.kind = 1
  · simp only [k1, decide_true, ↓reduceIte]
    refine awp_seq ?_
    refine awp_run rfl (by simp (disch := omega) only [fwA, ↓reduceIte, Nat.reduceAdd, Nat.reduceMul, Nat.reduceEqDiff, Nat.reduceLT, Nat.reduceLeDiff, reduceCtorEq, if_pos, List.length_append, List.length_cons, List.length_nil] <;> rfl) (awp_ret ?_)
    exact gives_end (.inl rfl) _ (by rw [textR1 k1]; rfl)
  simp only [k1, decide_false, Bool.false_eq_true, ↓reduceIte]
  refine awp_seq ?_
  -- region 7
  refine awp_run rfl (by simp only [fwA, ↓reduceIte, Nat.reduceAdd, Nat.reduceMul, Nat.reduceEqDiff, Nat.reduceLT, Nat.reduceLeDiff, reduceCtorEq] <;> rfl) ?_
  refine awp_cond (by simp only [fwA, ↓reduceIte, Nat.reduceAdd, Nat.reduceMul, Nat.reduceEqDiff, Nat.reduceLT, Nat.reduceLeDiff, reduceCtorEq] <;> rfl) ?_
  by_cases k2 : t.kind = 2
  · simp only [k2, decide_true, ↓reduceIte]
    refine awp_seq ?_
    -- region 8
    refine awp_region rfl ?_
    refine aops_run 6 (by simp (disch := omega) only [fwA, ↓reduceIte, Nat.reduceAdd, Nat.reduceMul, Nat.reduceEqDiff, Nat.reduceLT, Nat.reduceLeDiff, reduceCtorEq, if_pos, List.length_append, List.length_cons, List.length_nil, ti31, fl31_1, ti28, fl31_0, ti3, fl31_2, fl31_3, fl31_4, fl31_5, ti29, el29, Ty.fw] <;> rfl) ?_
    refine aops_fn rfl rfl rfl en50 (c50 Γ hΓ names t.c i2) ?_
    refine aops_run 3 (by simp (disch := omega) only [fwA, ↓reduceIte, Nat.reduceAdd, Nat.reduceMul, Nat.reduceEqDiff, Nat.reduceLT, Nat.reduceLeDiff, reduceCtorEq, if_pos, List.length_append, List.length_cons, List.length_nil] <;> rfl) (awp_ret ?_)
    exact gives_end (.inl rfl) _ (by rw [textR2 k2]; simp [ares, aresL, ares1, alook, aput, Tryd.f26])
  simp only [k2, decide_false, Bool.false_eq_true, ↓reduceIte]
  refine awp_skip ?_
  simp only [Post.block, Post.then]
  have k3 : t.kind = 3 := by have := hr.node.1; have := hr.node.2.1; omega
  have hl := ((ty3 k3).1 hr).2.1
  have r0 := ((ty3 k3).1 hr).2.2.1
  have r1 := ((ty3 k3).1 hr).2.2.2
  have m0 : kid t 0 ∈ t.kids := kid_mem (by omega)
  have m1 : kid t 1 ∈ t.kids := kid_mem (by omega)
  have w2 := Ty.w_two hl
  have g0 : (t.kids.map Ty.enc)[Int.toNat 0]? = some (kid t 0).enc := by rw [List.getElem?_map]; show (t.kids[0]?).map _ = _; rw [kid_get (by omega)]; rfl
  have g1 : (t.kids.map Ty.enc)[Int.toNat 1]? = some (kid t 1).enc := by rw [List.getElem?_map]; show (t.kids[1]?).map _ = _; rw [kid_get (by omega)]; rfl
  have ih0 := ih (kid t 0) m0 (ik _ m0) (by omega)
  have ih1 := ih (kid t 1) m1 (ik _ m1) (by omega)
  rw [text_right r0] at ih0
  rw [text_right r1] at ih1
  have l0 := textR_len hB _ r0 (ik _ m0)
  have l1 := textR_len hB _ r1 (ik _ m1)
  rw [textR3 k3 hl]
  generalize (kid t 0).textR names = s0 at ih0 l0 ⊢
  generalize (kid t 1).textR names = s1 at ih1 l1 ⊢
  refine awp_seq ?_
  -- region 9
  refine awp_drawn [0, 0, 1, 0, 0, 0, 0, 0, 1, 0, 0, 0, 0] [0, 0, 2, 7, 15, 31, 0, 0, 128, 463, 1023, 2047, 4095] mixed rfl (by kernel_rfl) ?_
  refine dops_run 3 (by simp (disch := omega) only [fwA, ↓reduceIte, Nat.reduceAdd, Nat.reduceMul, Nat.reduceEqDiff, Nat.reduceLT, Nat.reduceLeDiff, reduceCtorEq, if_pos, List.length_append, List.length_cons, List.length_nil, ti31, fl31_1, ti28, fl31_0, ti3, fl31_2, fl31_3, fl31_4, fl31_5, ti29, el29, Ty.fw, g0, g1, Int.reduceLE, Int.le_refl, true_and] <;> rfl) ?_
  refine dops_fn rfl rfl rfl rfl en50 (c50 Γ hΓ names t.pc i3) ?_
  refine dops_run 5 (by simp (disch := omega) only [fwA, ↓reduceIte, Nat.reduceAdd, Nat.reduceMul, Nat.reduceEqDiff, Nat.reduceLT, Nat.reduceLeDiff, reduceCtorEq, if_pos, List.length_append, List.length_cons, List.length_nil, ti31, fl31_1, ti28, fl31_0, ti3, fl31_2, fl31_3, fl31_4, fl31_5, ti29, el29, Ty.fw, g0, g1, Int.reduceLE, Int.le_refl, true_and] <;> rfl) ?_
  refine dops_fn rfl rfl rfl rfl en50 (c50 Γ hΓ names t.x i4) ?_
  refine dops_run 3 (by simp (disch := omega) only [fwA, ↓reduceIte, Nat.reduceAdd, Nat.reduceMul, Nat.reduceEqDiff, Nat.reduceLT, Nat.reduceLeDiff, reduceCtorEq, if_pos, List.length_append, List.length_cons, List.length_nil] <;> rfl) ?_
  refine dops_end ?_
  refine awp_seq ?_
  -- region 10
  refine awp_drawn [0, 0, 1, 0, 1, 0, 0, 0, 0, 0, 0, 1, 0, 1, 0, 0, 0, 0, 0, 0] [0, 0, 2, 6, 14, 31, 63, 0, 255, 0, 0, 1024, 3072, 7168, 15935, 32767, 65535, 0, 262143, 524287] mixed rfl (by kernel_rfl) ?_
  refine dops_run 5 (by simp (disch := omega) only [fwA, ↓reduceIte, Nat.reduceAdd, Nat.reduceMul, Nat.reduceEqDiff, Nat.reduceLT, Nat.reduceLeDiff, reduceCtorEq, if_pos, List.length_append, List.length_cons, List.length_nil, ti31, fl31_1, ti28, fl31_0, ti3, fl31_2, fl31_3, fl31_4, fl31_5, ti29, el29, Ty.fw, g0, g1, Int.reduceLE, Int.le_refl, true_and] <;> rfl) ?_
  refine dops_fn rfl rfl rfl rfl en26 ih0 ?_
  refine dops_run 8 (by simp (disch := omega) only [fwA, ↓reduceIte, Nat.reduceAdd, Nat.reduceMul, Nat.reduceEqDiff, Nat.reduceLT, Nat.reduceLeDiff, reduceCtorEq, if_pos, List.length_append, List.length_cons, List.length_nil, ti31, fl31_1, ti28, fl31_0, ti3, fl31_2, fl31_3, fl31_4, fl31_5, ti29, el29, Ty.fw, g0, g1, Int.reduceLE, Int.le_refl, true_and] <;> rfl) ?_
  refine dops_fn rfl rfl rfl rfl en26 ih1 ?_
  refine dops_run 5 (by simp (disch := omega) only [fwA, ↓reduceIte, Nat.reduceAdd, Nat.reduceMul, Nat.reduceEqDiff, Nat.reduceLT, Nat.reduceLeDiff, reduceCtorEq, if_pos, List.length_append, List.length_cons, List.length_nil] <;> rfl) ?_
  refine dops_end ?_
  refine awp_ret ?_
  exact gives_end (.inl rfl) _ (by simp [ares, aresL, ares1, alook, aput, Tryd.f26])

/-- chancel/chancelref13.Text -/
theorem c27 (Γ : Nat → PV) (names : List (List UInt8)) (hB : ∀ s ∈ names, s.length ≤ 1000) : ∀ t : Ty, t.In → t.w ≤ 1000000000 → Gives Tryd.prog Γ 27 [namesV names, .agg t.enc] (.str (t.text names)) := by
  refine Ty.ind fun t ih hin hw => ?_
  obtain ⟨_, i1, i2, i3, i4, ik⟩ := hin
  have a1 := atomT_len hB i1
  have a2 := atomT_len hB i2
  have a3 := atomT_len hB i3
  have a4 := atomT_len hB i4
  refine fn_of_awp Tryd.func27 rfl (by simp [Tryd.f27]) rfl fun H => ?_
  refine awp_seq ?_
  -- region 0
  refine awp_run rfl (by simp only [fwA, ↓reduceIte, Nat.reduceAdd, Nat.reduceMul, Nat.reduceEqDiff, Nat.reduceLT, Nat.reduceLeDiff, reduceCtorEq] <;> rfl) ?_
  refine awp_seq ?_
  refine awp_seq ?_
  -- region 1
  refine awp_region rfl ?_
  refine aops_run 1 (by simp only [fwA, ↓reduceIte, Nat.reduceAdd, Nat.reduceMul, Nat.reduceEqDiff, Nat.reduceLT, Nat.reduceLeDiff, reduceCtorEq, ti45, fl45_1, ti3, fl45_0, fl45_2, fl45_5, ti43, el43, fl45_3, fl45_4, Ty.fw] <;> rfl) ?_
  refine aops_fn rfl rfl rfl en24 (c24 Γ t) ?_
  refine aops_run 1 (by simp only [fwA, ↓reduceIte, Nat.reduceAdd, Nat.reduceMul, Nat.reduceEqDiff, Nat.reduceLT, Nat.reduceLeDiff, reduceCtorEq] <;> rfl) ?_
  refine awp_cond (by simp only [fwA, ↓reduceIte, Nat.reduceAdd, Nat.reduceMul, Nat.reduceEqDiff, Nat.reduceLT, Nat.reduceLeDiff, reduceCtorEq] <;> rfl) ?_
  by_cases hr : t.Right
  rotate_left
  · simp only [hr, decide_false, Bool.not_false, ↓reduceIte]
    refine awp_seq (awp_run rfl (by simp only [fwA, ↓reduceIte, Nat.reduceAdd, Nat.reduceMul, Nat.reduceEqDiff, Nat.reduceLT, Nat.reduceLeDiff, reduceCtorEq] <;> rfl) (awp_ret ?_))
    exact gives_end (.inl rfl) _ (by unfold Ty.text; rw [if_neg hr]; rfl)
  simp only [hr, decide_true, Bool.not_true, Bool.false_eq_true, ↓reduceIte]
  refine awp_skip ?_
  rw [text_right hr]
  refine awp_seq ?_
  -- region 3
  refine awp_region rfl ?_
  refine aops_run 3 (by simp only [fwA, ↓reduceIte, Nat.reduceAdd, Nat.reduceMul, Nat.reduceEqDiff, Nat.reduceLT, Nat.reduceLeDiff, reduceCtorEq, ti45, fl45_1, ti3, fl45_0, fl45_2, fl45_5, ti43, el43, fl45_3, fl45_4, Ty.fw] <;> rfl) ?_
  refine aops_fn rfl rfl rfl en51 (c51 Γ names t.l i1) ?_
  refine aops_run 2 (by simp (disch := omega) only [fwA, ↓reduceIte, Nat.reduceAdd, Nat.reduceMul, Nat.reduceEqDiff, Nat.reduceLT, Nat.reduceLeDiff, reduceCtorEq, if_pos, List.length_append, List.length_cons, List.length_nil] <;> rfl) ?_
  refine awp_seq ?_
  refine awp_seq ?_
  -- region 4
  refine awp_run rfl (by simp only [fwA, ↓reduceIte, Nat.reduceAdd, Nat.reduceMul, Nat.reduceEqDiff, Nat.reduceLT, Nat.reduceLeDiff, reduceCtorEq, ti45, fl45_1, ti3, fl45_0, fl45_2, fl45_5, ti43, el43, fl45_3, fl45_4, Ty.fw] <;> rfl) ?_
  refine awp_block ?_
  refine awp_seq ?_
  -- region 5
  refine awp_run rfl (by simp only [fwA, ↓reduceIte, Nat.reduceAdd, Nat.reduceMul, Nat.reduceEqDiff, Nat.reduceLT, Nat.reduceLeDiff, reduceCtorEq] <;> rfl) ?_
  refine awp_cond (by simp only [fwA, ↓reduceIte, Nat.reduceAdd, Nat.reduceMul, Nat.reduceEqDiff, Nat.reduceLT, Nat.reduceLeDiff, reduceCtorEq] <;> rfl) ?_
  by_cases k1 : t.kind = 1
  · simp only [k1, decide_true, ↓reduceIte]
    refine awp_seq ?_
    refine awp_run rfl (by simp (disch := omega) only [fwA, ↓reduceIte, Nat.reduceAdd, Nat.reduceMul, Nat.reduceEqDiff, Nat.reduceLT, Nat.reduceLeDiff, reduceCtorEq, if_pos, List.length_append, List.length_cons, List.length_nil] <;> rfl) (awp_ret ?_)
    exact gives_end (.inl rfl) _ (by rw [textR1 k1]; rfl)
  simp only [k1, decide_false, Bool.false_eq_true, ↓reduceIte]
  refine awp_seq ?_
  -- region 7
  refine awp_run rfl (by simp only [fwA, ↓reduceIte, Nat.reduceAdd, Nat.reduceMul, Nat.reduceEqDiff, Nat.reduceLT, Nat.reduceLeDiff, reduceCtorEq] <;> rfl) ?_
  refine awp_cond (by simp only [fwA, ↓reduceIte, Nat.reduceAdd, Nat.reduceMul, Nat.reduceEqDiff, Nat.reduceLT, Nat.reduceLeDiff, reduceCtorEq] <;> rfl) ?_
  by_cases k2 : t.kind = 2
  · simp only [k2, decide_true, ↓reduceIte]
    refine awp_seq ?_
    -- region 8
    refine awp_region rfl ?_
    refine aops_run 6 (by simp (disch := omega) only [fwA, ↓reduceIte, Nat.reduceAdd, Nat.reduceMul, Nat.reduceEqDiff, Nat.reduceLT, Nat.reduceLeDiff, reduceCtorEq, if_pos, List.length_append, List.length_cons, List.length_nil, ti45, fl45_1, ti3, fl45_0, fl45_2, fl45_5, ti43, el43, fl45_3, fl45_4, Ty.fw] <;> rfl) ?_
    refine aops_fn rfl rfl rfl en51 (c51 Γ names t.c i2) ?_
    refine aops_run 3 (by simp (disch := omega) only [fwA, ↓reduceIte, Nat.reduceAdd, Nat.reduceMul, Nat.reduceEqDiff, Nat.reduceLT, Nat.reduceLeDiff, reduceCtorEq, if_pos, List.length_append, List.length_cons, List.length_nil] <;> rfl) (awp_ret ?_)
    exact gives_end (.inl rfl) _ (by rw [textR2 k2]; simp [ares, aresL, ares1, alook, aput, Tryd.f27])
  simp only [k2, decide_false, Bool.false_eq_true, ↓reduceIte]
  refine awp_skip ?_
  simp only [Post.block, Post.then]
  have k3 : t.kind = 3 := by have := hr.node.1; have := hr.node.2.1; omega
  have hl := ((ty3 k3).1 hr).2.1
  have r0 := ((ty3 k3).1 hr).2.2.1
  have r1 := ((ty3 k3).1 hr).2.2.2
  have m0 : kid t 0 ∈ t.kids := kid_mem (by omega)
  have m1 : kid t 1 ∈ t.kids := kid_mem (by omega)
  have w2 := Ty.w_two hl
  have g0 : (t.kids.map Ty.enc)[Int.toNat 0]? = some (kid t 0).enc := by rw [List.getElem?_map]; show (t.kids[0]?).map _ = _; rw [kid_get (by omega)]; rfl
  have g1 : (t.kids.map Ty.enc)[Int.toNat 1]? = some (kid t 1).enc := by rw [List.getElem?_map]; show (t.kids[1]?).map _ = _; rw [kid_get (by omega)]; rfl
  have ih0 := ih (kid t 0) m0 (ik _ m0) (by omega)
  have ih1 := ih (kid t 1) m1 (ik _ m1) (by omega)
  rw [text_right r0] at ih0
  rw [text_right r1] at ih1
  have l0 := textR_len hB _ r0 (ik _ m0)
  have l1 := textR_len hB _ r1 (ik _ m1)
  rw [textR3 k3 hl]
  generalize (kid t 0).textR names = s0 at ih0 l0 ⊢
  generalize (kid t 1).textR names = s1 at ih1 l1 ⊢
  refine awp_seq ?_
  -- region 9
  refine awp_drawn [0, 0, 1, 0, 1, 0, 0, 0, 0, 0, 1, 0, 0, 0, 0, 0, 1, 0, 0, 0, 0, 0, 1, 0, 1, 0, 0, 0, 0, 0, 0] [0, 0, 2, 6, 14, 31, 63, 127, 0, 0, 512, 1855, 4095, 8191, 0, 0, 32768, 118591, 262143, 524287, 0, 0, 2097152, 6291456, 14680064, 32755519, 67108863, 134217727, 0, 536870911, 1073741823] mixed rfl (by kernel_rfl) ?_
  refine dops_run 5 (by simp (disch := omega) only [fwA, ↓reduceIte, Nat.reduceAdd, Nat.reduceMul, Nat.reduceEqDiff, Nat.reduceLT, Nat.reduceLeDiff, reduceCtorEq, if_pos, List.length_append, List.length_cons, List.length_nil, ti45, fl45_1, ti3, fl45_0, fl45_2, fl45_5, ti43, el43, fl45_3, fl45_4, Ty.fw, g0, g1, Int.reduceLE, Int.le_refl, true_and] <;> rfl) ?_
  refine dops_fn rfl rfl rfl rfl en27 ih0 ?_
  refine dops_run 5 (by simp (disch := omega) only [fwA, ↓reduceIte, Nat.reduceAdd, Nat.reduceMul, Nat.reduceEqDiff, Nat.reduceLT, Nat.reduceLeDiff, reduceCtorEq, if_pos, List.length_append, List.length_cons, List.length_nil, ti45, fl45_1, ti3, fl45_0, fl45_2, fl45_5, ti43, el43, fl45_3, fl45_4, Ty.fw, g0, g1, Int.reduceLE, Int.le_refl, true_and] <;> rfl) ?_
  refine dops_fn rfl rfl rfl rfl en51 (c51 Γ names t.pc i3) ?_
  refine dops_run 5 (by simp (disch := omega) only [fwA, ↓reduceIte, Nat.reduceAdd, Nat.reduceMul, Nat.reduceEqDiff, Nat.reduceLT, Nat.reduceLeDiff, reduceCtorEq, if_pos, List.length_append, List.length_cons, List.length_nil, ti45, fl45_1, ti3, fl45_0, fl45_2, fl45_5, ti43, el43, fl45_3, fl45_4, Ty.fw, g0, g1, Int.reduceLE, Int.le_refl, true_and] <;> rfl) ?_
  refine dops_fn rfl rfl rfl rfl en51 (c51 Γ names t.x i4) ?_
  refine dops_run 7 (by simp (disch := omega) only [fwA, ↓reduceIte, Nat.reduceAdd, Nat.reduceMul, Nat.reduceEqDiff, Nat.reduceLT, Nat.reduceLeDiff, reduceCtorEq, if_pos, List.length_append, List.length_cons, List.length_nil, ti45, fl45_1, ti3, fl45_0, fl45_2, fl45_5, ti43, el43, fl45_3, fl45_4, Ty.fw, g0, g1, Int.reduceLE, Int.le_refl, true_and] <;> rfl) ?_
  refine dops_fn rfl rfl rfl rfl en27 ih1 ?_
  refine dops_run 5 (by simp (disch := omega) only [fwA, ↓reduceIte, Nat.reduceAdd, Nat.reduceMul, Nat.reduceEqDiff, Nat.reduceLT, Nat.reduceLeDiff, reduceCtorEq, if_pos, List.length_append, List.length_cons, List.length_nil] <;> rfl) ?_
  refine dops_end ?_
  refine awp_ret ?_
  exact gives_end (.inl rfl) _ (by simp [ares, aresL, ares1, alook, aput, Tryd.f27])

end Go.Proofs.YtlnffadolfkggaaDoor

/- The contracts of types' shapes. -/
namespace Go.Proofs.YtlnffadolfkggaaDoor
set_option linter.unusedVariables false
set_option linter.unusedSimpArgs false
set_option maxRecDepth 100000
open Go.RowKit Fw

/-- The shape of a type; of what may not be one nothing. -/
noncomputable def shapeOf (t : Ty) : Sh := if t.Right then t.shape else .mk 0 0 []
theorem kids_le2 {t : Ty} (h : t.Right) : t.kids.length ≤ 2 := by
  have := h.node.2.2.2.2
  unfold Ty.want at this
  split at this <;> omega
theorem zero_le_sh : PV.leL [.int .i64 0, .int .i64 0, .vec [] true] (Sh.mk 0 0 []).enc := leaf_le 0

/-- chancel/chancelref13.Shape -/
theorem c30 (Γ : Nat → PV) : ∀ t : Ty, Gives Tryd.prog Γ 30 [.agg t.enc] (.agg (shapeOf t).enc) := by
  refine Ty.ind fun t ih => ?_
  refine fn_of_awp Tryd.func30 rfl (by simp [Tryd.f30]) (by simp [PV.plain, PV.bd, Sh.bd]) fun H => ?_
  refine awp_bd fun hbdH => ?_
  refine awp_seq ?_
  -- region 0
  refine awp_run rfl (by simp only [fwA, ↓reduceIte, Nat.reduceAdd, Nat.reduceMul, Nat.reduceEqDiff, Nat.reduceLT, Nat.reduceLeDiff, reduceCtorEq, ti51, ti45, pl51, fl45_0, ti3, fl45_5, ti43, un43, fl51_2, ti49, el43, un49] <;> rfl) ?_
  refine awp_seq ?_
  refine awp_seq ?_
  -- region 1
  refine awp_region rfl ?_
  refine aops_run 1 (by simp only [fwA, ↓reduceIte, Nat.reduceAdd, Nat.reduceMul, Nat.reduceEqDiff, Nat.reduceLT, Nat.reduceLeDiff, reduceCtorEq, ti51, ti45, pl51, fl45_0, ti3, fl45_5, ti43, un43, fl51_2, ti49, el43, un49, Ty.fw] <;> rfl) ?_
  refine aops_fn rfl rfl rfl en24 (c24 Γ t) ?_
  refine aops_run 1 (by simp only [fwA, ↓reduceIte, Nat.reduceAdd, Nat.reduceMul, Nat.reduceEqDiff, Nat.reduceLT, Nat.reduceLeDiff, reduceCtorEq] <;> rfl) ?_
  refine awp_cond (by simp only [fwA, ↓reduceIte, Nat.reduceAdd, Nat.reduceMul, Nat.reduceEqDiff, Nat.reduceLT, Nat.reduceLeDiff, reduceCtorEq] <;> rfl) ?_
  by_cases hr : t.Right
  rotate_left
  · have e : shapeOf t = .mk 0 0 [] := by unfold shapeOf; rw [if_neg hr]
    rw [e]
    simp only [hr, decide_false, Bool.not_false, ↓reduceIte]
    refine awp_seq ?_
    refine awp_run rfl (by simp only [fwA, ↓reduceIte, Nat.reduceAdd, Nat.reduceMul, Nat.reduceEqDiff, Nat.reduceLT, Nat.reduceLeDiff, reduceCtorEq, ti51, ti45, pl51, fl45_0, ti3, fl45_5, ti43, un43, fl51_2, ti49, el43, un49] <;> rfl) ?_
    refine awp_told (told_leBox (H.length + 1) (cs := [.int .i64 0, .int .i64 0, .vec [] true]) (by rw [Fw.get_at]; rfl) zero_le_sh) ?_
    refine awp_heap (H' := H ++ [.box t.enc, .box (Sh.mk 0 0 []).enc]) (by rw [Fw.set_at]; rfl) ?_
    refine awp_ret ?_
    refine gives_end (.inl rfl) _ ?_
    simp [ares, aresL, ares1, rd, ev, alook, aput, Tryd.f30, ti51, Sh.fw]
  have e : shapeOf t = t.shape := by unfold shapeOf; rw [if_pos hr]
  rw [e, Ty.shape_eq]
  have hk2 := kids_le2 hr
  simp only [hr, decide_true, Bool.not_true, Bool.false_eq_true, ↓reduceIte]
  refine awp_skip ?_
  refine awp_seq ?_
  -- region 3
  refine awp_run rfl (by simp only [fwA, ↓reduceIte, Nat.reduceAdd, Nat.reduceMul, Nat.reduceEqDiff, Nat.reduceLT, Nat.reduceLeDiff, reduceCtorEq, ti51, ti45, pl51, fl45_0, ti3, fl45_5, ti43, un43, fl51_2, ti49, el43, un49, Ty.fw] <;> rfl) ?_
  refine awp_keep (A' := [(1, .ptr H.length 0), (2, .ptr (H.length + 1) 0), (3, .ptr (H.length + 2) 0)]) [1, 2, 3] rfl ?_
  refine awp_seq ?_
  refine awp_seq ?_
  refine awp_run rfl (by simp only [fwA, ↓reduceIte, Nat.reduceAdd, Nat.reduceMul, Nat.reduceEqDiff, Nat.reduceLT, Nat.reduceLeDiff, reduceCtorEq] <;> rfl) ?_
  refine awp_told (told_adoptBox (H.length + 2) 2 3 (by decide) (by simp only [fwA, ↓reduceIte, Nat.reduceAdd, Nat.reduceMul, Nat.reduceEqDiff, Nat.reduceLT, Nat.reduceLeDiff, reduceCtorEq] <;> rfl) rfl) ?_
  refine awp_bd fun hbd => ?_
  refine awp_block ?_
  refine awp_forG [1, 2, 3, 4] (fun i : Nat => [.ptr H.length 0, .ptr (H.length + 1) 0, .ptr (H.length + 2) 0, .int .i64 (i : Int)])
    (fun i => H ++ [.box t.enc, .box [.int .i64 0, .int .i64 0, .vec [] true], .box [.int .i64 t.kind, .int .i64 0, .row (H.length + 3) 0 i 3], .row 3 ((((t.kids.take i).map Ty.shape)).map Sh.enc).flatten])
    (fun i => t.kids.length - i) (fun i => i ≤ t.kids.length) 0 rfl (by simp only [fwA, ↓reduceIte, Nat.reduceAdd, Nat.reduceMul, Nat.reduceEqDiff, Nat.reduceLT, Nat.reduceLeDiff, reduceCtorEq] <;> rfl) (Nat.zero_le _) (fun i _ => ⟨bd_app (fun B hB => hbdH B hB) (by simp only [List.all_cons, List.all_nil, Blk.bd, Ty.bd, PV.bdL, PV.bd, List.length_append, List.length_cons, List.length_nil, flat_bd (enc := Sh.enc) (fun _ => Sh.bd _ _), Bool.and_true, Bool.true_and, decide_eq_true_eq]; omega), by simp [PV.bdL, PV.bd]; try omega⟩) (fun i _ b hb => by cases hb) fun i hi => ?_
  have hti : ((t.kids.take i).map Ty.shape).length = i := by simp; omega
  refine awp_seq ?_
  refine awp_seq ?_
  refine awp_run rfl (by simp only [fwA, ↓reduceIte, Nat.reduceAdd, Nat.reduceMul, Nat.reduceEqDiff, Nat.reduceLT, Nat.reduceLeDiff, reduceCtorEq, ti51, ti45, pl51, fl45_0, ti3, fl45_5, ti43, un43, fl51_2, ti49, el43, un49, Ty.fw, List.length_map] <;> rfl) ?_
  refine awp_cond (by simp only [fwA, ↓reduceIte, Nat.reduceAdd, Nat.reduceMul, Nat.reduceEqDiff, Nat.reduceLT, Nat.reduceLeDiff, reduceCtorEq] <;> rfl) ?_
  by_cases hc : (i : Int) < t.kids.length
  rotate_left
  · simp only [hc, decide_false, Bool.false_eq_true, ↓reduceIte]
    refine awp_exit ?_
    have hi' : i = t.kids.length := by omega
    refine awp_told (told_freezeAt H _ 3 (C := (((t.kids.take i).map Ty.shape).map Sh.enc).flatten) rfl (flat_bd (fun t => by simp only [Sh.fw]) _)) ?_
    have hl : ((((t.kids.take i).map Ty.shape).map Sh.enc).flatten).length = i * 3 := by rw [flat_len Sh.enc_len, hti]
    have hch : chunk 3 i ((((t.kids.take i).map Ty.shape).map Sh.enc).flatten) = ((t.kids.take i).map Ty.shape).map Sh.enc := by
      have := flat_chunk Sh.enc_len ((t.kids.take i).map Ty.shape)
      rwa [hti] at this
    refine awp_seq (awp_run rfl (by simp only [fwA, ↓reduceIte, Nat.reduceAdd, Nat.reduceMul, Nat.reduceEqDiff, Nat.reduceLT, Nat.reduceLeDiff, reduceCtorEq, ti51, ti45, pl51, fl45_0, ti3, fl45_5, ti43, un43, fl51_2, ti49, el43, un49, hl, hch] <;> rfl) (awp_ret ?_))
    refine gives_end (.inl rfl) _ ?_
    rw [Sh.enc_eq]
    simp only [fwA, ↓reduceIte, Nat.reduceAdd, Nat.reduceMul, Nat.reduceEqDiff, Nat.reduceLT, Nat.reduceLeDiff, reduceCtorEq, ares, aresL, ares1, Tryd.f30, ti51, hi', List.take_length]
    rfl
  simp only [hc, decide_true, ↓reduceIte]
  refine awp_skip ?_
  have hia : i < t.kids.length := by omega
  have ga : t.kids[i]? = some t.kids[i] := List.getElem?_eq_getElem hia
  have hsh : shapeOf t.kids[i] = t.kids[i].shape := by unfold shapeOf; rw [if_pos (hr.kids _ (List.getElem_mem hia))]
  have ihk := ih t.kids[i] (List.getElem_mem hia)
  rw [hsh] at ihk
  refine awp_seq ?_
  refine awp_block ?_
  -- drawn
  refine awp_drawn [0, 1, 0, 1, 0, 0, 1, 0, 0, 2, 0, 2] [0, 1, 0, 4, 0, 28, 60, 124, 252, 511, 1023, 2047] mixed rfl (by kernel_rfl) ?_
  refine dops_run 7 (by simp only [fwA, ↓reduceIte, Nat.reduceAdd, Nat.reduceMul, Nat.reduceEqDiff, Nat.reduceLT, Nat.reduceLeDiff, reduceCtorEq, ti51, ti45, pl51, fl45_0, ti3, fl45_5, ti43, un43, fl51_2, ti49, el43, un49, Ty.fw, List.getElem?_map, ga, Option.map_some, Int.natCast_nonneg] <;> rfl) ?_
  refine dops_fn rfl rfl rfl rfl en30 ihk ?_
  refine dops_run 1 (by simp only [fwA, ↓reduceIte, Nat.reduceAdd, Nat.reduceMul, Nat.reduceEqDiff, Nat.reduceLT, Nat.reduceLeDiff, reduceCtorEq, ti51, ti45, pl51, fl45_0, ti3, fl45_5, ti43, un43, fl51_2, ti49, el43, un49, Sh.fw] <;> rfl) ?_
  refine dops_appendR rfl rfl rfl un49 ti51 un49 (.inl ⟨_, rfl⟩) rfl (by simp only [fwA, ↓reduceIte, Nat.reduceAdd, Nat.reduceMul, Nat.reduceEqDiff, Nat.reduceLT, Nat.reduceLeDiff, reduceCtorEq] <;> rfl) (by rw [flat_len Sh.enc_len, hti]; exact (Nat.zero_add _).symm) rfl
    (fun es f h e he => by
      simp only [fwA, ↓reduceIte, Nat.reduceAdd, Nat.reduceMul, Nat.reduceEqDiff, Nat.reduceLT, Nat.reduceLeDiff, reduceCtorEq, PV.vec.injEq] at h
      obtain ⟨rfl, rfl⟩ := h
      simp only [List.mem_singleton] at he
      subst he; exact Sh.enc_len _) rfl (by show (i + 1) * 40 ≤ _; omega) (by show i + 1 ≤ _; omega) ?_
  refine dops_run 2 (by simp only [fwA, ↓reduceIte, Nat.reduceAdd, Nat.reduceMul, Nat.reduceEqDiff, Nat.reduceLT, Nat.reduceLeDiff, reduceCtorEq, ti51, ti45, pl51, fl45_0, ti3, fl45_5, ti43, un43, fl51_2, ti49, el43, un49] <;> rfl) ?_
  refine dops_end ?_
  refine awp_run rfl (by simp only [fwA, ↓reduceIte, Nat.reduceAdd, Nat.reduceMul, Nat.reduceEqDiff, Nat.reduceLT, Nat.reduceLeDiff, reduceCtorEq] <;> rfl) ?_
  have hmp : ((t.kids.take (i + 1)).map Ty.shape) = ((t.kids.take i).map Ty.shape) ++ [t.kids[i].shape] := by rw [List.take_add_one, ga, List.map_append]; rfl
  refine ⟨i + 1, [], by omega, by omega, by rw [wrapS i (by omega)]; rfl, ?_, rfl, by simp⟩
  rw [hmp, List.map_append, List.flatten_append]
  simp only [List.map_cons, List.map_nil, List.flatten_cons, List.flatten_nil, List.append_nil, List.append_assoc, List.cons_append, List.nil_append]

/-- chancel/ltype.Shape -/
theorem c29 (Γ : Nat → PV) : ∀ t : Ty, Gives Tryd.prog Γ 29 [.agg t.enc] (.agg (shapeOf t).enc) := by
  refine Ty.ind fun t ih => ?_
  refine fn_of_awp Tryd.func29 rfl (by simp [Tryd.f29]) (by simp [PV.plain, PV.bd, Sh.bd]) fun H => ?_
  refine awp_bd fun hbdH => ?_
  refine awp_seq ?_
  -- region 0
  refine awp_run rfl (by simp only [fwA, ↓reduceIte, Nat.reduceAdd, Nat.reduceMul, Nat.reduceEqDiff, Nat.reduceLT, Nat.reduceLeDiff, reduceCtorEq, ti26, ti31, pl26, fl31_0, ti3, fl31_5, ti29, un29, el29, fl26_2, ti24, un24] <;> rfl) ?_
  refine awp_seq ?_
  refine awp_seq ?_
  -- region 1
  refine awp_region rfl ?_
  refine aops_run 1 (by simp only [fwA, ↓reduceIte, Nat.reduceAdd, Nat.reduceMul, Nat.reduceEqDiff, Nat.reduceLT, Nat.reduceLeDiff, reduceCtorEq, ti26, ti31, pl26, fl31_0, ti3, fl31_5, ti29, un29, el29, fl26_2, ti24, un24, Ty.fw] <;> rfl) ?_
  refine aops_fn rfl rfl rfl en23 (c23 Γ t) ?_
  refine aops_run 1 (by simp only [fwA, ↓reduceIte, Nat.reduceAdd, Nat.reduceMul, Nat.reduceEqDiff, Nat.reduceLT, Nat.reduceLeDiff, reduceCtorEq] <;> rfl) ?_
  refine awp_cond (by simp only [fwA, ↓reduceIte, Nat.reduceAdd, Nat.reduceMul, Nat.reduceEqDiff, Nat.reduceLT, Nat.reduceLeDiff, reduceCtorEq] <;> rfl) ?_
  by_cases hr : t.Right
  rotate_left
  · have e : shapeOf t = .mk 0 0 [] := by unfold shapeOf; rw [if_neg hr]
    rw [e]
    simp only [hr, decide_false, Bool.not_false, ↓reduceIte]
    refine awp_seq ?_
    refine awp_run rfl (by simp only [fwA, ↓reduceIte, Nat.reduceAdd, Nat.reduceMul, Nat.reduceEqDiff, Nat.reduceLT, Nat.reduceLeDiff, reduceCtorEq, ti26, ti31, pl26, fl31_0, ti3, fl31_5, ti29, un29, el29, fl26_2, ti24, un24] <;> rfl) ?_
    refine awp_told (told_leBox (H.length + 1) (cs := [.int .i64 0, .int .i64 0, .vec [] true]) (by rw [Fw.get_at]; rfl) zero_le_sh) ?_
    refine awp_heap (H' := H ++ [.box t.enc, .box (Sh.mk 0 0 []).enc]) (by rw [Fw.set_at]; rfl) ?_
    refine awp_ret ?_
    refine gives_end (.inl rfl) _ ?_
    simp [ares, aresL, ares1, rd, ev, alook, aput, Tryd.f29, ti26, Sh.fw]
  have e : shapeOf t = t.shape := by unfold shapeOf; rw [if_pos hr]
  rw [e, Ty.shape_eq]
  have hk2 := kids_le2 hr
  simp only [hr, decide_true, Bool.not_true, Bool.false_eq_true, ↓reduceIte]
  refine awp_skip ?_
  refine awp_seq ?_
  -- region 3
  refine awp_run rfl (by simp only [fwA, ↓reduceIte, Nat.reduceAdd, Nat.reduceMul, Nat.reduceEqDiff, Nat.reduceLT, Nat.reduceLeDiff, reduceCtorEq, ti26, ti31, pl26, fl31_0, ti3, fl31_5, ti29, un29, el29, fl26_2, ti24, un24, Ty.fw] <;> rfl) ?_
  refine awp_keep (A' := [(1, .ptr H.length 0), (2, .ptr (H.length + 1) 0), (3, .ptr (H.length + 2) 0)]) [1, 2, 3] rfl ?_
  refine awp_seq ?_
  refine awp_seq ?_
  refine awp_run rfl (by simp only [fwA, ↓reduceIte, Nat.reduceAdd, Nat.reduceMul, Nat.reduceEqDiff, Nat.reduceLT, Nat.reduceLeDiff, reduceCtorEq, ti26, ti31, pl26, fl31_0, ti3, fl31_5, ti29, un29, el29, fl26_2, ti24, un24, Ty.fw, List.length_map] <;> rfl) ?_
  refine awp_told (told_adoptBox (H.length + 2) 2 3 (by decide) (by simp only [fwA, ↓reduceIte, Nat.reduceAdd, Nat.reduceMul, Nat.reduceEqDiff, Nat.reduceLT, Nat.reduceLeDiff, reduceCtorEq] <;> rfl) rfl) ?_
  refine awp_bd fun hbd => ?_
  refine awp_block ?_
  refine awp_forG [1, 2, 3, 14, 15, 16] (fun i : Nat => [.ptr H.length 0, .ptr (H.length + 1) 0, .ptr (H.length + 2) 0, .vec (t.kids.map Ty.enc) false, .int .i64 t.kids.length, .int .i64 (i : Int)])
    (fun i => H ++ [.box t.enc, .box [.int .i64 0, .int .i64 0, .vec [] true], .box [.int .i64 t.kind, .int .i64 0, .row (H.length + 3) 0 i 3], .row 3 ((((t.kids.take i).map Ty.shape)).map Sh.enc).flatten])
    (fun i => t.kids.length - i) (fun i => i ≤ t.kids.length) 0 rfl (by simp only [fwA, ↓reduceIte, Nat.reduceAdd, Nat.reduceMul, Nat.reduceEqDiff, Nat.reduceLT, Nat.reduceLeDiff, reduceCtorEq] <;> rfl) (Nat.zero_le _) (fun i _ => ⟨bd_app (fun B hB => hbdH B hB) (by simp only [List.all_cons, List.all_nil, Blk.bd, Ty.bd, PV.bdL, PV.bd, List.length_append, List.length_cons, List.length_nil, flat_bd (enc := Sh.enc) (fun _ => Sh.bd _ _), Bool.and_true, Bool.true_and, decide_eq_true_eq]; omega), by simp [PV.bdL, PV.bd]; try omega⟩) (fun i _ b hb => by cases hb) fun i hi => ?_
  have hti : ((t.kids.take i).map Ty.shape).length = i := by simp; omega
  refine awp_seq ?_
  refine awp_run rfl (by simp only [fwA, ↓reduceIte, Nat.reduceAdd, Nat.reduceMul, Nat.reduceEqDiff, Nat.reduceLT, Nat.reduceLeDiff, reduceCtorEq] <;> rfl) ?_
  refine awp_seq ?_
  refine awp_cond (by simp only [fwA, ↓reduceIte, Nat.reduceAdd, Nat.reduceMul, Nat.reduceEqDiff, Nat.reduceLT, Nat.reduceLeDiff, reduceCtorEq] <;> rfl) ?_
  by_cases hc : (i : Int) < t.kids.length
  rotate_left
  · simp only [hc, decide_false, Bool.false_eq_true, ↓reduceIte]
    refine awp_exit ?_
    have hi' : i = t.kids.length := by omega
    refine awp_told (told_freezeAt H _ 3 (C := (((t.kids.take i).map Ty.shape).map Sh.enc).flatten) rfl (flat_bd (fun t => by simp only [Sh.fw]) _)) ?_
    have hl : ((((t.kids.take i).map Ty.shape).map Sh.enc).flatten).length = i * 3 := by rw [flat_len Sh.enc_len, hti]
    have hch : chunk 3 i ((((t.kids.take i).map Ty.shape).map Sh.enc).flatten) = ((t.kids.take i).map Ty.shape).map Sh.enc := by
      have := flat_chunk Sh.enc_len ((t.kids.take i).map Ty.shape)
      rwa [hti] at this
    refine awp_seq (awp_run rfl (by simp only [fwA, ↓reduceIte, Nat.reduceAdd, Nat.reduceMul, Nat.reduceEqDiff, Nat.reduceLT, Nat.reduceLeDiff, reduceCtorEq, ti26, ti31, pl26, fl31_0, ti3, fl31_5, ti29, un29, el29, fl26_2, ti24, un24, hl, hch] <;> rfl) (awp_ret ?_))
    refine gives_end (.inl rfl) _ ?_
    rw [Sh.enc_eq]
    simp only [fwA, ↓reduceIte, Nat.reduceAdd, Nat.reduceMul, Nat.reduceEqDiff, Nat.reduceLT, Nat.reduceLeDiff, reduceCtorEq, ares, aresL, ares1, Tryd.f29, ti26, hi', List.take_length]
    rfl
  simp only [hc, decide_true, ↓reduceIte]
  refine awp_skip ?_
  have hia : i < t.kids.length := by omega
  have ga : t.kids[i]? = some t.kids[i] := List.getElem?_eq_getElem hia
  have hsh : shapeOf t.kids[i] = t.kids[i].shape := by unfold shapeOf; rw [if_pos (hr.kids _ (List.getElem_mem hia))]
  have ihk := ih t.kids[i] (List.getElem_mem hia)
  rw [hsh] at ihk
  refine awp_seq ?_
  refine awp_block ?_
  refine awp_seq ?_
  refine awp_run rfl (by simp only [fwA, ↓reduceIte, Nat.reduceAdd, Nat.reduceMul, Nat.reduceEqDiff, Nat.reduceLT, Nat.reduceLeDiff, reduceCtorEq, ti26, ti31, pl26, fl31_0, ti3, fl31_5, ti29, un29, el29, fl26_2, ti24, un24, Ty.fw, List.getElem?_map, ga, Option.map_some, Int.natCast_nonneg] <;> rfl) ?_
  -- drawn
  refine awp_drawn [0, 1, 1, 0, 0, 2, 0, 2] [0, 1, 0, 4, 12, 31, 63, 127] mixed rfl (by kernel_rfl) ?_
  refine dops_run 3 (by simp only [fwA, ↓reduceIte, Nat.reduceAdd, Nat.reduceMul, Nat.reduceEqDiff, Nat.reduceLT, Nat.reduceLeDiff, reduceCtorEq, ti26, ti31, pl26, fl31_0, ti3, fl31_5, ti29, un29, el29, fl26_2, ti24, un24, Ty.fw, List.getElem?_map, ga, Option.map_some, Int.natCast_nonneg] <;> rfl) ?_
  refine dops_fn rfl rfl rfl rfl en29 ihk ?_
  refine dops_run 1 (by simp only [fwA, ↓reduceIte, Nat.reduceAdd, Nat.reduceMul, Nat.reduceEqDiff, Nat.reduceLT, Nat.reduceLeDiff, reduceCtorEq, ti26, ti31, pl26, fl31_0, ti3, fl31_5, ti29, un29, el29, fl26_2, ti24, un24, Sh.fw] <;> rfl) ?_
  refine dops_appendR rfl rfl rfl un24 ti26 un24 (.inl ⟨_, rfl⟩) rfl (by simp only [fwA, ↓reduceIte, Nat.reduceAdd, Nat.reduceMul, Nat.reduceEqDiff, Nat.reduceLT, Nat.reduceLeDiff, reduceCtorEq] <;> rfl) (by rw [flat_len Sh.enc_len, hti]; exact (Nat.zero_add _).symm) rfl
    (fun es f h e he => by
      simp only [fwA, ↓reduceIte, Nat.reduceAdd, Nat.reduceMul, Nat.reduceEqDiff, Nat.reduceLT, Nat.reduceLeDiff, reduceCtorEq, PV.vec.injEq] at h
      obtain ⟨rfl, rfl⟩ := h
      simp only [List.mem_singleton] at he
      subst he; exact Sh.enc_len _) rfl (by show (i + 1) * 40 ≤ _; omega) (by show i + 1 ≤ _; omega) ?_
  refine dops_run 2 (by simp only [fwA, ↓reduceIte, Nat.reduceAdd, Nat.reduceMul, Nat.reduceEqDiff, Nat.reduceLT, Nat.reduceLeDiff, reduceCtorEq, ti26, ti31, pl26, fl31_0, ti3, fl31_5, ti29, un29, el29, fl26_2, ti24, un24] <;> rfl) ?_
  refine dops_end ?_
  refine awp_run rfl (by simp only [fwA, ↓reduceIte, Nat.reduceAdd, Nat.reduceMul, Nat.reduceEqDiff, Nat.reduceLT, Nat.reduceLeDiff, reduceCtorEq] <;> rfl) ?_
  have hmp : ((t.kids.take (i + 1)).map Ty.shape) = ((t.kids.take i).map Ty.shape) ++ [t.kids[i].shape] := by rw [List.take_add_one, ga, List.map_append]; rfl
  refine ⟨i + 1, [.box t.kids[i].enc], by omega, by omega, by rw [wrapS i (by omega)]; rfl, ?_, rfl, by simp⟩
  rw [hmp, List.map_append, List.flatten_append]
  simp only [List.map_cons, List.map_nil, List.flatten_cons, List.flatten_nil, List.append_nil, List.append_assoc, List.cons_append, List.nil_append]

end Go.Proofs.YtlnffadolfkggaaDoor

/- The contracts of the document's places, and of what has to hold. -/
namespace Go.Proofs.YtlnffadolfkggaaDoor
set_option linter.unusedVariables false
set_option linter.unusedSimpArgs false
set_option maxRecDepth 100000
open Go.RowKit Fw

/-- The labels of a type; of what may not be one none. -/
noncomputable def placesOf (t : Ty) : List Int := if t.Right then t.places else []
theorem places_len : ∀ t : Ty, t.places.length ≤ 3 * t.w := by
  refine Ty.ind fun t ih => ?_
  rw [Ty.places_eq, Ty.w_eq, List.length_append]
  have h1 : t.own.length ≤ 3 := by unfold Ty.own; split <;> (try split) <;> simp
  have h2 : ∀ l : List Ty, (∀ k ∈ l, k.places.length ≤ 3 * k.w) → (l.map Ty.places).flatten.length ≤ 3 * (l.map Ty.w).sum := by
    intro l
    induction l with
    | nil => intro _; simp
    | cons x l ihl =>
      intro h
      have a := h x (by simp)
      have b := ihl fun k hk => h k (by simp [hk])
      simp only [List.map_cons, List.flatten_cons, List.length_append, List.sum_cons]
      omega
  have := h2 t.kids ih
  omega
theorem own_eq (t : Ty) : t.own = (t.l :: (if t.kind = 2 then [t.c] else [])) ++ (if t.kind = 3 then [t.pc, t.x] else []) := by
  unfold Ty.own
  by_cases h : t.kind = 2
  · rw [if_pos h, if_pos h, if_neg (by omega)]; rfl
  · rw [if_neg h, if_neg h]; rfl
theorem I1_flat (l l' : List Int) : ((l ++ l').map I1).flatten = (l.map I1).flatten ++ (l'.map I1).flatten := by simp
theorem flatI_len (l : List Int) : ((l.map I1).flatten).length = 0 + l.length * 1 := by rw [flat_len (sz := 1) (fun _ => rfl)]; omega
theorem flatP_len (l : List Pr) : ((l.map Pr.enc).flatten).length = 0 + l.length * 2 := by rw [flat_len (sz := 2) (fun _ => rfl)]; omega
theorem flatI_bd (m : Nat) (l : List Int) : PV.bdL m ((l.map I1).flatten) = true := flat_bd (fun _ => rfl) l
theorem flatP_bd (m : Nat) (l : List Pr) : PV.bdL m ((l.map Pr.enc).flatten) = true := flat_bd (fun _ => rfl) l
theorem flatI_chunk (l : List Int) : chunk 1 l.length ((l.map I1).flatten) = l.map I1 := flat_chunk (enc := I1) (sz := 1) (fun _ => rfl) l
theorem flatP_chunk (l : List Pr) : chunk 2 l.length ((l.map Pr.enc).flatten) = l.map Pr.enc := flat_chunk (enc := Pr.enc) (sz := 2) (fun _ => rfl) l

/-- chancelref13.Places -/
theorem c20 (Γ : Nat → PV) : ∀ t : Ty, t.w ≤ 1000000000 → Gives Tryd.prog Γ 20 [.agg t.enc] (.vec ((placesOf t).map I1) false) := by
  refine Ty.ind fun t ih hw => ?_
  refine fn_of_awp Tryd.func20 rfl (by simp [Tryd.f20]) rfl fun H => ?_
  refine awp_seq ?_
  -- region 0
  refine awp_run rfl (by simp only [fwA, ↓reduceIte, Nat.reduceAdd, Nat.reduceMul, Nat.reduceEqDiff, Nat.reduceLT, Nat.reduceLeDiff, reduceCtorEq] <;> rfl) ?_
  refine awp_seq ?_
  refine awp_seq ?_
  -- region 1
  refine awp_region rfl ?_
  refine aops_run 1 (by simp only [fwA, ↓reduceIte, Nat.reduceAdd, Nat.reduceMul, Nat.reduceEqDiff, Nat.reduceLT, Nat.reduceLeDiff, reduceCtorEq, ti45, fl45_1, ti3, un56, fl45_0, fl45_2, fl45_3, fl45_4, fl45_5, ti43, un43, el43, Ty.fw] <;> rfl) ?_
  refine aops_fn rfl rfl rfl en24 (c24 Γ t) ?_
  refine aops_run 1 (by simp only [fwA, ↓reduceIte, Nat.reduceAdd, Nat.reduceMul, Nat.reduceEqDiff, Nat.reduceLT, Nat.reduceLeDiff, reduceCtorEq] <;> rfl) ?_
  refine awp_cond (by simp only [fwA, ↓reduceIte, Nat.reduceAdd, Nat.reduceMul, Nat.reduceEqDiff, Nat.reduceLT, Nat.reduceLeDiff, reduceCtorEq] <;> rfl) ?_
  by_cases hr : t.Right
  rotate_left
  · have e : placesOf t = [] := by unfold placesOf; rw [if_neg hr]
    rw [e]
    simp only [hr, decide_false, Bool.not_false, ↓reduceIte]
    refine awp_seq (awp_run rfl (by simp only [fwA, ↓reduceIte, Nat.reduceAdd, Nat.reduceMul, Nat.reduceEqDiff, Nat.reduceLT, Nat.reduceLeDiff, reduceCtorEq] <;> rfl) ?_)
    refine awp_told (told_le 2 (.vec [] false) ⟨nofun, trivial⟩) (awp_ret ?_)
    exact gives_end (.inl rfl) _ rfl
  have e : placesOf t = t.places := by unfold placesOf; rw [if_pos hr]
  have hk2 := kids_le2 hr
  have hpl := places_len t
  rw [e]
  simp only [hr, decide_true, Bool.not_true, Bool.false_eq_true, ↓reduceIte]
  refine awp_skip ?_
  refine awp_seq ?_
  -- region 3
  refine awp_region rfl ?_
  refine aops_run 2 (by simp only [fwA, ↓reduceIte, Nat.reduceAdd, Nat.reduceMul, Nat.reduceEqDiff, Nat.reduceLT, Nat.reduceLeDiff, reduceCtorEq, ti45, fl45_1, ti3, un56, fl45_0, fl45_2, fl45_3, fl45_4, fl45_5, ti43, un43, el43, Ty.fw] <;> rfl) ?_
  refine aops_one rfl (os_bsliceR (cs := [.int .i64 t.l]) rfl un56 ti3 (by decide) (by decide) (by simp only [fwA, ↓reduceIte, Nat.reduceAdd, Nat.reduceMul, Nat.reduceEqDiff, Nat.reduceLT, Nat.reduceLeDiff, reduceCtorEq] <;> rfl) ?_)
  refine aops_run 1 (by simp only [fwA, ↓reduceIte, Nat.reduceAdd, Nat.reduceMul, Nat.reduceEqDiff, Nat.reduceLT, Nat.reduceLeDiff, reduceCtorEq] <;> rfl) ?_
  refine awp_keep (A' := [(1, .ptr H.length 0), (3, .row (H.length + 1) 0 1 1)]) [1, 3] (by simp [akeep, alook, aput, ev]) ?_
  refine awp_heap (H' := H ++ [.box t.enc, .row 1 (([t.l].map I1).flatten)]) (by simp [I1]) ?_
  refine awp_seq ?_
  refine AWP.mono (Q := fun e A' H' D' => e = .normal ∧ akeep [1, 3] A' = [(1, .ptr H.length 0), (3, .row (H.length + 1) 0 (t.l :: (if t.kind = 2 then [t.c] else [])).length 1)] ∧ H' = H ++ [.box t.enc, .row 1 (((t.l :: (if t.kind = 2 then [t.c] else [])).map I1).flatten)] ∧ D' = []) ?_ fun e A' H' D' hq => ?_
  · refine awp_seq ?_
    -- region 4
    refine awp_run rfl (by simp only [fwA, ↓reduceIte, Nat.reduceAdd, Nat.reduceMul, Nat.reduceEqDiff, Nat.reduceLT, Nat.reduceLeDiff, reduceCtorEq, ti45, fl45_1, ti3, un56, fl45_0, fl45_2, fl45_3, fl45_4, fl45_5, ti43, un43, el43, Ty.fw] <;> rfl) ?_
    refine awp_cond (by simp only [fwA, ↓reduceIte, Nat.reduceAdd, Nat.reduceMul, Nat.reduceEqDiff, Nat.reduceLT, Nat.reduceLeDiff, reduceCtorEq] <;> rfl) ?_
    by_cases k2 : t.kind = 2
    · simp only [k2, decide_true, ↓reduceIte]
      -- region 5
      refine awp_region rfl ?_
      refine aops_run 4 (by simp only [fwA, ↓reduceIte, Nat.reduceAdd, Nat.reduceMul, Nat.reduceEqDiff, Nat.reduceLT, Nat.reduceLeDiff, reduceCtorEq, ti45, fl45_1, ti3, un56, fl45_0, fl45_2, fl45_3, fl45_4, fl45_5, ti43, un43, el43, Ty.fw] <;> rfl) ?_
      refine aops_one rfl (os_appendR (b := H.length + 1) (q := 0) (k := 1) (cs := ([t.l].map I1).flatten) rfl un56 ti3 un56 (.inl ⟨_, rfl⟩) rfl (by simp only [fwA, ↓reduceIte, Nat.reduceAdd, Nat.reduceMul, Nat.reduceEqDiff, Nat.reduceLT, Nat.reduceLeDiff, reduceCtorEq] <;> rfl) (flatI_len _) rfl (fun es f h e he => by
        simp only [fwA, ↓reduceIte, Nat.reduceAdd, Nat.reduceMul, Nat.reduceEqDiff, Nat.reduceLT, Nat.reduceLeDiff, reduceCtorEq, PV.vec.injEq] at h
        obtain ⟨rfl, rfl⟩ := h
        simp only [List.mem_singleton] at he
        subst he; rfl) rfl (by show (1 + 1) * 8 ≤ _; decide) (by show 1 + 1 ≤ _; decide) ?_)
      refine aops_run 1 (by simp only [fwA, ↓reduceIte, Nat.reduceAdd, Nat.reduceMul, Nat.reduceEqDiff, Nat.reduceLT, Nat.reduceLeDiff, reduceCtorEq] <;> rfl) ?_
      refine ⟨rfl, rfl, ?_, rfl⟩
      simp [I1]
    · simp only [k2, decide_false, Bool.false_eq_true, ↓reduceIte]
      refine awp_skip ?_
      exact ⟨rfl, rfl, rfl, rfl⟩
  obtain ⟨rfl, hA, rfl, rfl⟩ := hq
  refine awp_keep _ hA ?_
  have hol : (t.l :: (if t.kind = 2 then [t.c] else [])).length ≤ 2 := by split <;> simp
  have hoe := own_eq t
  generalize (t.l :: (if t.kind = 2 then [t.c] else [])) = o1 at hol hoe ⊢
  refine awp_seq ?_
  refine AWP.mono (Q := fun e A' H' D' => e = .normal ∧ akeep [1, 3] A' = [(1, .ptr H.length 0), (3, .row (H.length + 1) 0 t.own.length 1)] ∧ H' = H ++ [.box t.enc, .row 1 ((t.own.map I1).flatten)] ∧ D' = []) ?_ fun e A' H' D' hq => ?_
  · rw [hoe]
    refine awp_seq ?_
    -- region 6
    refine awp_run rfl (by simp only [fwA, ↓reduceIte, Nat.reduceAdd, Nat.reduceMul, Nat.reduceEqDiff, Nat.reduceLT, Nat.reduceLeDiff, reduceCtorEq, ti45, fl45_1, ti3, un56, fl45_0, fl45_2, fl45_3, fl45_4, fl45_5, ti43, un43, el43, Ty.fw] <;> rfl) ?_
    refine awp_cond (by simp only [fwA, ↓reduceIte, Nat.reduceAdd, Nat.reduceMul, Nat.reduceEqDiff, Nat.reduceLT, Nat.reduceLeDiff, reduceCtorEq] <;> rfl) ?_
    by_cases k3 : t.kind = 3
    · simp only [k3, decide_true, ↓reduceIte]
      -- region 7
      refine awp_region rfl ?_
      refine aops_run 6 (by simp only [fwA, ↓reduceIte, Nat.reduceAdd, Nat.reduceMul, Nat.reduceEqDiff, Nat.reduceLT, Nat.reduceLeDiff, reduceCtorEq, ti45, fl45_1, ti3, un56, fl45_0, fl45_2, fl45_3, fl45_4, fl45_5, ti43, un43, el43, Ty.fw] <;> rfl) ?_
      refine aops_one rfl (os_appendR (b := H.length + 1) (q := 0) (k := o1.length) (cs := (o1.map I1).flatten) rfl un56 ti3 un56 (.inl ⟨_, rfl⟩) rfl (by simp only [fwA, ↓reduceIte, Nat.reduceAdd, Nat.reduceMul, Nat.reduceEqDiff, Nat.reduceLT, Nat.reduceLeDiff, reduceCtorEq] <;> rfl) (flatI_len _) rfl (fun es f h e he => by
        simp only [fwA, ↓reduceIte, Nat.reduceAdd, Nat.reduceMul, Nat.reduceEqDiff, Nat.reduceLT, Nat.reduceLeDiff, reduceCtorEq, PV.vec.injEq] at h
        obtain ⟨rfl, rfl⟩ := h
        simp only [List.mem_cons, List.not_mem_nil, or_false] at he
        rcases he with rfl | rfl <;> rfl) rfl (by show (o1.length + 2) * 8 ≤ _; omega) (by show o1.length + 2 ≤ _; omega) ?_)
      refine aops_run 1 (by simp only [fwA, ↓reduceIte, Nat.reduceAdd, Nat.reduceMul, Nat.reduceEqDiff, Nat.reduceLT, Nat.reduceLeDiff, reduceCtorEq] <;> rfl) ?_
      refine ⟨rfl, by rw [List.length_append]; rfl, ?_, rfl⟩
      simp [I1]
    · simp only [k3, decide_false, Bool.false_eq_true, ↓reduceIte]
      refine awp_skip ?_
      rw [List.append_nil]
      exact ⟨rfl, rfl, rfl, rfl⟩
  obtain ⟨rfl, hA, rfl, rfl⟩ := hq
  refine awp_keep _ hA ?_
  have hpe := Ty.places_eq t
  refine awp_seq ?_
  refine awp_seq ?_
  -- region 8
  refine awp_run rfl (by simp only [fwA, ↓reduceIte, Nat.reduceAdd, Nat.reduceMul, Nat.reduceEqDiff, Nat.reduceLT, Nat.reduceLeDiff, reduceCtorEq] <;> rfl) ?_
  refine awp_block ?_
  refine awp_for [1, 3, 4] (fun i : Nat => [.ptr H.length 0, .row (H.length + 1) 0 (t.own ++ ((t.kids.take i).map Ty.places).flatten).length 1, .int .i64 (i : Int)])
    (fun i => H ++ [.box t.enc, .row 1 (((t.own ++ ((t.kids.take i).map Ty.places).flatten).map I1).flatten)]) (fun i => t.kids.length - i) (fun i => i ≤ t.kids.length) 0 (by simp [alook, aput, ev]) (by simp) (Nat.zero_le _) fun i hi => ?_
  refine awp_seq ?_
  refine awp_seq ?_
  refine awp_run rfl (by simp only [fwA, ↓reduceIte, Nat.reduceAdd, Nat.reduceMul, Nat.reduceEqDiff, Nat.reduceLT, Nat.reduceLeDiff, reduceCtorEq, ti45, fl45_1, ti3, un56, fl45_0, fl45_2, fl45_3, fl45_4, fl45_5, ti43, un43, el43, Ty.fw, List.length_map] <;> rfl) ?_
  refine awp_cond (by simp only [fwA, ↓reduceIte, Nat.reduceAdd, Nat.reduceMul, Nat.reduceEqDiff, Nat.reduceLT, Nat.reduceLeDiff, reduceCtorEq] <;> rfl) ?_
  by_cases hc : (i : Int) < t.kids.length
  rotate_left
  · simp only [hc, decide_false, Bool.false_eq_true, ↓reduceIte]
    refine awp_exit ?_
    have hi' : i = t.kids.length := by omega
    have hfull : t.own ++ ((t.kids.take i).map Ty.places).flatten = t.places := by rw [hi', List.take_length, ← hpe]
    rw [hfull]
    refine awp_told (told_freezeAt H _ 1 (C := ((t.places.map I1).flatten)) rfl (flatI_bd _ _)) ?_
    have hl : ((t.places.map I1).flatten).length = t.places.length * 1 := by rw [flatI_len]; omega
    refine awp_seq (awp_run rfl (by simp only [fwA, ↓reduceIte, Nat.reduceAdd, Nat.reduceMul, Nat.reduceEqDiff, Nat.reduceLT, Nat.reduceLeDiff, reduceCtorEq, hl, flatI_chunk] <;> rfl) (awp_ret ?_))
    refine gives_end (.inl rfl) _ ?_
    simp only [fwA, ↓reduceIte, Nat.reduceAdd, Nat.reduceMul, Nat.reduceEqDiff, Nat.reduceLT, Nat.reduceLeDiff, reduceCtorEq, ares, aresL, ares1, Tryd.f20]
  simp only [hc, decide_true, ↓reduceIte]
  refine awp_skip ?_
  have hia : i < t.kids.length := by omega
  have ga : t.kids[i]? = some t.kids[i] := List.getElem?_eq_getElem hia
  have hm := List.getElem_mem hia
  have hpk : placesOf t.kids[i] = t.kids[i].places := by unfold placesOf; rw [if_pos (hr.kids _ hm)]
  have ihk := ih t.kids[i] hm (by have := Ty.w_kid hm; omega)
  rw [hpk] at ihk
  have hmp : t.own ++ ((t.kids.take (i + 1)).map Ty.places).flatten = (t.own ++ ((t.kids.take i).map Ty.places).flatten) ++ t.kids[i].places := by
    rw [List.take_add_one, ga, List.map_append, List.flatten_append, List.append_assoc]; simp
  have hle : (t.own ++ ((t.kids.take i).map Ty.places).flatten).length + t.kids[i].places.length ≤ t.places.length := by
    rw [← List.length_append, ← hmp, hpe]
    conv => rhs; rw [← List.take_append_drop (i + 1) t.kids, List.map_append, List.flatten_append]
    simp only [List.length_append]; omega
  generalize t.own ++ ((t.kids.take i).map Ty.places).flatten = o at hle hmp ⊢
  refine awp_seq ?_
  refine awp_block ?_
  -- region 11
  refine awp_region rfl ?_
  refine aops_run 6 (by simp only [fwA, ↓reduceIte, Nat.reduceAdd, Nat.reduceMul, Nat.reduceEqDiff, Nat.reduceLT, Nat.reduceLeDiff, reduceCtorEq, ti45, fl45_1, ti3, un56, fl45_0, fl45_2, fl45_3, fl45_4, fl45_5, ti43, un43, el43, Ty.fw, List.getElem?_map, ga, Option.map_some, Int.natCast_nonneg] <;> rfl) ?_
  refine aops_fn rfl rfl rfl en20 ihk ?_
  refine aops_one rfl (os_appendR (b := H.length + 1) (q := 0) (k := o.length) (n := t.kids[i].places.length) (xs := (t.kids[i].places.map I1).flatten) (cs := (o.map I1).flatten) rfl un56 ti3 un56 (.inl ⟨_, rfl⟩) rfl (by simp only [fwA, ↓reduceIte, Nat.reduceAdd, Nat.reduceMul, Nat.reduceEqDiff, Nat.reduceLT, Nat.reduceLeDiff, reduceCtorEq] <;> rfl) (flatI_len _) rfl (fun es f h e he => by
    simp only [fwA, ↓reduceIte, Nat.reduceAdd, Nat.reduceMul, Nat.reduceEqDiff, Nat.reduceLT, Nat.reduceLeDiff, reduceCtorEq, PV.vec.injEq] at h
    obtain ⟨rfl, rfl⟩ := h
    obtain ⟨x, _, rfl⟩ := List.mem_map.1 he
    rfl) (by simp only [fwA, ↓reduceIte, Nat.reduceAdd, Nat.reduceMul, Nat.reduceEqDiff, Nat.reduceLT, Nat.reduceLeDiff, reduceCtorEq, alen, List.length_map]) (by show (o.length + t.kids[i].places.length) * 8 ≤ _; omega) (by omega) ?_)
  refine aops_run 1 (by simp only [fwA, ↓reduceIte, Nat.reduceAdd, Nat.reduceMul, Nat.reduceEqDiff, Nat.reduceLT, Nat.reduceLeDiff, reduceCtorEq] <;> rfl) ?_
  refine awp_run rfl (by simp only [fwA, ↓reduceIte, Nat.reduceAdd, Nat.reduceMul, Nat.reduceEqDiff, Nat.reduceLT, Nat.reduceLeDiff, reduceCtorEq, wrapS i (by omega)] <;> rfl) ?_
  refine ⟨i + 1, by omega, by omega, by rw [hmp, List.length_append]; rfl, by rw [hmp, I1_flat], rfl⟩

end Go.Proofs.YtlnffadolfkggaaDoor

/- The contracts of the document's sub. -/
namespace Go.Proofs.YtlnffadolfkggaaDoor
set_option linter.unusedVariables false
set_option linter.unusedSimpArgs false
set_option maxRecDepth 100000
open Go.RowKit Fw

theorem w_shape : ∀ t : Ty, t.shape.w = t.w := by
  refine Ty.ind fun t ih => ?_
  rw [Ty.shape_eq, Sh.w_eq, Ty.w_eq]
  show ((t.kids.map Ty.shape).map Sh.w).sum + 1 = _
  rw [List.map_map, List.map_congr_left (f := Sh.w ∘ Ty.shape) (g := Ty.w) fun k hk => ih k hk]
theorem w_same {a b : Ty} (h : a.shape = b.shape) : a.w = b.w := by rw [← w_shape a, h, w_shape]
/-- What has to hold, first: what the atoms ask. -/
def own1 (a b : Ty) : List Pr := ⟨a.l, b.l⟩ :: (if a.kind = 2 then [⟨a.c, b.c⟩, ⟨b.c, a.c⟩] else [])
theorem own1_len (a b : Ty) : (own1 a b).length ≤ 3 := by unfold own1; split <;> simp
theorem subN_eq (n : Nat) (a b : Ty) : subN (n + 1) a b = own1 a b ++ (if a.kind = 3 then [⟨b.pc, a.pc⟩, ⟨a.x, b.x⟩] ++ subN n (kid b 0) (kid a 0) ++ subN n (kid a 1) (kid b 1) else []) := by
  unfold own1
  rw [subN]
  by_cases h : a.kind = 2
  · rw [if_pos h, if_pos h, if_neg (by omega)]; rfl
  · rw [if_neg h, if_neg h]; rfl
theorem kids_two {t : Ty} (hr : t.Right) (k3 : t.kind = 3) : t.kids.length = 2 := by have := hr.node.2.2.2.2; unfold Ty.want at this; rw [if_pos k3] at this; exact this
theorem subN_len (n : Nat) : ∀ a b : Ty, a.Right → b.Right → a.shape = b.shape → (subN n a b).length ≤ 3 * a.w := by
  induction n with
  | zero => intro a b _ _ _; simp [subN]
  | succ n ih =>
    intro a b ha hb hs
    have h1 := own1_len a b
    rw [subN_eq, List.length_append]
    by_cases k : a.kind = 3
    · have kb : b.kind = 3 := by rw [← kind_shape hs]; exact k
      have la := kids_two ha k
      have lb := kids_two hb kb
      have wa := Ty.w_two la
      have s0 := kid_shape hs 0
      have s1 := kid_shape hs 1
      have i0 := ih (kid b 0) (kid a 0) (hb.kids _ (kid_mem (by omega))) (ha.kids _ (kid_mem (by omega))) s0.symm
      have i1 := ih (kid a 1) (kid b 1) (ha.kids _ (kid_mem (by omega))) (hb.kids _ (kid_mem (by omega))) s1
      have e0 := w_same s0
      have h2 : (own1 a b).length = 1 := by unfold own1; rw [if_neg (by omega)]; rfl
      rw [if_pos k]
      simp only [List.length_append, List.length_cons, List.length_nil]
      omega
    · rw [if_neg k]
      have := Ty.w_pos a
      simp only [List.length_nil]
      omega

/-- chancel/chancelref13.sub -/
theorem c44 (Γ : Nat → PV) : ∀ (n : Nat) (a b : Ty), a.w ≤ n → a.w ≤ 1000000000 → a.Right → b.Right → a.shape = b.shape → Gives Tryd.prog Γ 44 [.agg a.enc, .agg b.enc] (.vec ((subN n a b).map Pr.enc) false) := by
  intro n
  induction n with
  | zero => intro a b h; have := Ty.w_pos a; omega
  | succ n ih =>
  intro a b hwn hw ha hb hs
  have hlen := subN_len (n + 1) a b ha hb hs
  have hso := subN_eq n a b
  refine fn_of_awp Tryd.func44 rfl (by simp [Tryd.f44]) rfl fun H => ?_
  refine awp_seq ?_
  -- region 0
  refine awp_run rfl (by simp only [fwA, ↓reduceIte, Nat.reduceAdd, Nat.reduceMul, Nat.reduceEqDiff, Nat.reduceLT, Nat.reduceLeDiff, reduceCtorEq] <;> rfl) ?_
  refine awp_seq ?_
  -- region 1
  refine awp_region rfl ?_
  refine aops_run 5 (by simp only [fwA, ↓reduceIte, Nat.reduceAdd, Nat.reduceMul, Nat.reduceEqDiff, Nat.reduceLT, Nat.reduceLeDiff, reduceCtorEq, ti45, fl45_1, ti3, un56, fl45_0, fl45_2, fl45_3, fl45_4, fl45_5, ti43, un43, el43, ti94, pl94, un53, Ty.fw, Pr.fw] <;> rfl) ?_
  refine aops_one rfl (os_bsliceR (cs := Pr.enc ⟨a.l, b.l⟩) rfl un53 ti94 (by decide) (by decide) (by simp only [fwA, ↓reduceIte, Nat.reduceAdd, Nat.reduceMul, Nat.reduceEqDiff, Nat.reduceLT, Nat.reduceLeDiff, reduceCtorEq] <;> rfl) ?_)
  refine aops_run 1 (by simp only [fwA, ↓reduceIte, Nat.reduceAdd, Nat.reduceMul, Nat.reduceEqDiff, Nat.reduceLT, Nat.reduceLeDiff, reduceCtorEq] <;> rfl) ?_
  refine awp_keep (A' := [(2, .ptr H.length 0), (3, .ptr (H.length + 1) 0), (5, .row (H.length + 2) 0 1 2)]) [2, 3, 5] (by simp [akeep, alook, aput, ev]) ?_
  refine awp_heap (H' := H ++ [.box a.enc, .box b.enc, .row 2 (([⟨a.l, b.l⟩].map Pr.enc).flatten)]) (by simp) ?_
  refine awp_seq ?_
  refine AWP.mono (Q := fun e A' H' D' => e = .normal ∧ akeep [2, 3, 5] A' = [(2, .ptr H.length 0), (3, .ptr (H.length + 1) 0), (5, .row (H.length + 2) 0 (own1 a b).length 2)] ∧ H' = H ++ [.box a.enc, .box b.enc, .row 2 (((own1 a b).map Pr.enc).flatten)] ∧ D' = []) ?_ fun e A' H' D' hq => ?_
  · refine awp_seq ?_
    -- region 2
    refine awp_run rfl (by simp only [fwA, ↓reduceIte, Nat.reduceAdd, Nat.reduceMul, Nat.reduceEqDiff, Nat.reduceLT, Nat.reduceLeDiff, reduceCtorEq, ti45, fl45_1, ti3, un56, fl45_0, fl45_2, fl45_3, fl45_4, fl45_5, ti43, un43, el43, ti94, pl94, un53, Ty.fw, Pr.fw] <;> rfl) ?_
    refine awp_cond (by simp only [fwA, ↓reduceIte, Nat.reduceAdd, Nat.reduceMul, Nat.reduceEqDiff, Nat.reduceLT, Nat.reduceLeDiff, reduceCtorEq] <;> rfl) ?_
    by_cases k2 : a.kind = 2
    · simp only [k2, decide_true, ↓reduceIte]
      have e1 : own1 a b = [⟨a.l, b.l⟩] ++ [⟨a.c, b.c⟩, ⟨b.c, a.c⟩] := by unfold own1; rw [if_pos k2]; rfl
      -- region 3
      refine awp_region rfl ?_
      refine aops_run 12 (by simp only [fwA, ↓reduceIte, Nat.reduceAdd, Nat.reduceMul, Nat.reduceEqDiff, Nat.reduceLT, Nat.reduceLeDiff, reduceCtorEq, ti45, fl45_1, ti3, un56, fl45_0, fl45_2, fl45_3, fl45_4, fl45_5, ti43, un43, el43, ti94, pl94, un53, Ty.fw, Pr.fw] <;> rfl) ?_
      refine aops_one rfl (os_appendR (b := H.length + 2) (q := 0) (k := 1) (cs := (([⟨a.l, b.l⟩] : List Pr).map Pr.enc).flatten) rfl un53 ti94 un53 (.inl ⟨_, rfl⟩) rfl (by simp only [fwA, ↓reduceIte, Nat.reduceAdd, Nat.reduceMul, Nat.reduceEqDiff, Nat.reduceLT, Nat.reduceLeDiff, reduceCtorEq] <;> rfl) (flatP_len _) rfl (fun es f h e he => by
        simp only [fwA, ↓reduceIte, Nat.reduceAdd, Nat.reduceMul, Nat.reduceEqDiff, Nat.reduceLT, Nat.reduceLeDiff, reduceCtorEq, PV.vec.injEq] at h
        obtain ⟨rfl, rfl⟩ := h
        simp only [List.mem_cons, List.not_mem_nil, or_false] at he
        rcases he with rfl | rfl <;> rfl) rfl (by show (1 + 2) * 16 ≤ _; decide) (by show 1 + 2 ≤ _; decide) ?_)
      refine aops_run 1 (by simp only [fwA, ↓reduceIte, Nat.reduceAdd, Nat.reduceMul, Nat.reduceEqDiff, Nat.reduceLT, Nat.reduceLeDiff, reduceCtorEq] <;> rfl) ?_
      refine ⟨rfl, by rw [e1]; rfl, ?_, rfl⟩
      rw [e1]
      simp [Pr.enc]
    · simp only [k2, decide_false, Bool.false_eq_true, ↓reduceIte]
      refine awp_skip ?_
      have e1 : own1 a b = [⟨a.l, b.l⟩] := by unfold own1; rw [if_neg k2]
      rw [e1]
      exact ⟨rfl, rfl, rfl, rfl⟩
  obtain ⟨rfl, hA, rfl, rfl⟩ := hq
  refine awp_keep _ hA ?_
  have hol := own1_len a b
  generalize own1 a b = o at hol hso ⊢
  refine awp_seq ?_
  refine AWP.mono (Q := fun e A' H' D' => e = .normal ∧ akeep [2, 3, 5] A' = [(2, .ptr H.length 0), (3, .ptr (H.length + 1) 0), (5, .row (H.length + 2) 0 (subN (n + 1) a b).length 2)] ∧ H' = H ++ [.box a.enc, .box b.enc, .row 2 (((subN (n + 1) a b).map Pr.enc).flatten)] ∧ D' = []) ?_ fun e A' H' D' hq => ?_
  · refine awp_seq ?_
    -- region 4
    refine awp_run rfl (by simp only [fwA, ↓reduceIte, Nat.reduceAdd, Nat.reduceMul, Nat.reduceEqDiff, Nat.reduceLT, Nat.reduceLeDiff, reduceCtorEq, ti45, fl45_1, ti3, un56, fl45_0, fl45_2, fl45_3, fl45_4, fl45_5, ti43, un43, el43, ti94, pl94, un53, Ty.fw, Pr.fw] <;> rfl) ?_
    refine awp_cond (by simp only [fwA, ↓reduceIte, Nat.reduceAdd, Nat.reduceMul, Nat.reduceEqDiff, Nat.reduceLT, Nat.reduceLeDiff, reduceCtorEq] <;> rfl) ?_
    by_cases k3 : a.kind = 3
    rotate_left
    · simp only [k3, decide_false, Bool.false_eq_true, ↓reduceIte]
      refine awp_skip ?_
      rw [if_neg k3, List.append_nil] at hso
      rw [hso]
      exact ⟨rfl, rfl, rfl, rfl⟩
    simp only [k3, decide_true, ↓reduceIte]
    rw [if_pos k3] at hso
    have kb : b.kind = 3 := by rw [← kind_shape hs]; exact k3
    have la := kids_two ha k3
    have lb := kids_two hb kb
    have wa := Ty.w_two la
    have s0 := kid_shape hs 0
    have s1 := kid_shape hs 1
    have e0 := w_same s0
    have ra0 := ha.kids _ (kid_mem (t := a) (i := 0) (by omega))
    have ra1 := ha.kids _ (kid_mem (t := a) (i := 1) (by omega))
    have rb0 := hb.kids _ (kid_mem (t := b) (i := 0) (by omega))
    have rb1 := hb.kids _ (kid_mem (t := b) (i := 1) (by omega))
    have i0 := ih (kid b 0) (kid a 0) (by omega) (by omega) rb0 ra0 s0.symm
    have i1 := ih (kid a 1) (kid b 1) (by omega) (by omega) ra1 rb1 s1
    have l0 := subN_len n (kid b 0) (kid a 0) rb0 ra0 s0.symm
    have l1 := subN_len n (kid a 1) (kid b 1) ra1 rb1 s1
    have ga0 : (a.kids.map Ty.enc)[Int.toNat 0]? = some (kid a 0).enc := by rw [List.getElem?_map]; show (a.kids[0]?).map _ = _; rw [kid_get (by omega)]; rfl
    have ga1 : (a.kids.map Ty.enc)[Int.toNat 1]? = some (kid a 1).enc := by rw [List.getElem?_map]; show (a.kids[1]?).map _ = _; rw [kid_get (by omega)]; rfl
    have gb0 : (b.kids.map Ty.enc)[Int.toNat 0]? = some (kid b 0).enc := by rw [List.getElem?_map]; show (b.kids[0]?).map _ = _; rw [kid_get (by omega)]; rfl
    have gb1 : (b.kids.map Ty.enc)[Int.toNat 1]? = some (kid b 1).enc := by rw [List.getElem?_map]; show (b.kids[1]?).map _ = _; rw [kid_get (by omega)]; rfl
    generalize subN n (kid b 0) (kid a 0) = u0 at i0 l0 hso
    generalize subN n (kid a 1) (kid b 1) = u1 at i1 l1 hso
    refine awp_seq ?_
    -- region 5
    refine awp_region rfl ?_
    refine aops_run 12 (by simp only [fwA, ↓reduceIte, Nat.reduceAdd, Nat.reduceMul, Nat.reduceEqDiff, Nat.reduceLT, Nat.reduceLeDiff, reduceCtorEq, ti45, fl45_1, ti3, un56, fl45_0, fl45_2, fl45_3, fl45_4, fl45_5, ti43, un43, el43, ti94, pl94, un53, Ty.fw, Pr.fw] <;> rfl) ?_
    refine aops_one rfl (os_appendR (b := H.length + 2) (q := 0) (k := o.length) (cs := (o.map Pr.enc).flatten) rfl un53 ti94 un53 (.inl ⟨_, rfl⟩) rfl (by simp only [fwA, ↓reduceIte, Nat.reduceAdd, Nat.reduceMul, Nat.reduceEqDiff, Nat.reduceLT, Nat.reduceLeDiff, reduceCtorEq] <;> rfl) (flatP_len _) rfl (fun es f h e he => by
        simp only [fwA, ↓reduceIte, Nat.reduceAdd, Nat.reduceMul, Nat.reduceEqDiff, Nat.reduceLT, Nat.reduceLeDiff, reduceCtorEq, PV.vec.injEq] at h
        obtain ⟨rfl, rfl⟩ := h
        simp only [List.mem_cons, List.not_mem_nil, or_false] at he
        rcases he with rfl | rfl <;> rfl) rfl (by show (o.length + 2) * 16 ≤ _; omega) (by show o.length + 2 ≤ _; omega) ?_)
    refine aops_run 1 (by simp only [fwA, ↓reduceIte, Nat.reduceAdd, Nat.reduceMul, Nat.reduceEqDiff, Nat.reduceLT, Nat.reduceLeDiff, reduceCtorEq] <;> rfl) ?_
    refine awp_keep (A' := [(2, .ptr H.length 0), (3, .ptr (H.length + 1) 0), (5, .row (H.length + 2) 0 (o ++ [⟨b.pc, a.pc⟩, ⟨a.x, b.x⟩] : List Pr).length 2)]) [2, 3, 5] (by simp only [akeep, alook, aput, ev, List.length_append, List.length_cons, List.length_nil] <;> rfl) ?_
    refine awp_heap (H' := H ++ [.box a.enc, .box b.enc, .row 2 (((o ++ [⟨b.pc, a.pc⟩, ⟨a.x, b.x⟩] : List Pr).map Pr.enc).flatten)]) (by simp [Pr.enc]) ?_
    have ho2 : (o ++ [⟨b.pc, a.pc⟩, ⟨a.x, b.x⟩] : List Pr).length ≤ 5 := by simp; omega
    rw [← List.append_assoc, ← List.append_assoc] at hso
    generalize (o ++ [⟨b.pc, a.pc⟩, ⟨a.x, b.x⟩] : List Pr) = o2 at ho2 hso ⊢
    refine awp_seq ?_
    -- region 6 drawn
    refine awp_drawn [0, 0, 1, 0, 1, 0, 1, 0, 1, 0, 2, 0] [0, 0, 2, 6, 14, 0, 32, 96, 224, 510, 1023, 2047] mixed rfl (by kernel_rfl) ?_
    refine dops_run 9 (by simp only [fwA, ↓reduceIte, Nat.reduceAdd, Nat.reduceMul, Nat.reduceEqDiff, Nat.reduceLT, Nat.reduceLeDiff, reduceCtorEq, ti45, fl45_1, ti3, un56, fl45_0, fl45_2, fl45_3, fl45_4, fl45_5, ti43, un43, el43, ti94, pl94, un53, Ty.fw, Pr.fw, ga0, gb0, Int.reduceLE, Int.le_refl, true_and] <;> rfl) ?_
    refine dops_fn rfl rfl rfl rfl en44 i0 ?_
    refine dops_appendR (b := H.length + 2) (q := 0) (k := o2.length) (n := u0.length) (xs := (u0.map Pr.enc).flatten) (cs := (o2.map Pr.enc).flatten) rfl rfl rfl un53 ti94 un53 (.inl ⟨_, rfl⟩) rfl (by simp only [fwA, ↓reduceIte, Nat.reduceAdd, Nat.reduceMul, Nat.reduceEqDiff, Nat.reduceLT, Nat.reduceLeDiff, reduceCtorEq] <;> rfl) (flatP_len _) rfl (fun es f h e he => by
      simp only [fwA, ↓reduceIte, Nat.reduceAdd, Nat.reduceMul, Nat.reduceEqDiff, Nat.reduceLT, Nat.reduceLeDiff, reduceCtorEq, PV.vec.injEq] at h
      obtain ⟨rfl, rfl⟩ := h
      obtain ⟨x, _, rfl⟩ := List.mem_map.1 he
      rfl) (by simp only [fwA, ↓reduceIte, Nat.reduceAdd, Nat.reduceMul, Nat.reduceEqDiff, Nat.reduceLT, Nat.reduceLeDiff, reduceCtorEq, alen, List.length_map]) (by show (o2.length + u0.length) * 16 ≤ _; omega) (by omega) ?_
    refine dops_run 1 (by simp only [fwA, ↓reduceIte, Nat.reduceAdd, Nat.reduceMul, Nat.reduceEqDiff, Nat.reduceLT, Nat.reduceLeDiff, reduceCtorEq] <;> rfl) ?_
    refine dops_end ?_
    refine awp_keep (A' := [(2, .ptr H.length 0), (3, .ptr (H.length + 1) 0), (5, .row (H.length + 2) 0 (o2 ++ u0).length 2)]) [2, 3, 5] (by simp only [akeep, alook, aput, ev, List.length_append] <;> rfl) ?_
    refine awp_heap (H' := H ++ [.box a.enc, .box b.enc, .row 2 (((o2 ++ u0).map Pr.enc).flatten)]) (by simp) ?_
    have ho3 : (o2 ++ u0).length ≤ 5 + 3 * (kid b 0).w := by rw [List.length_append]; omega
    generalize (o2 ++ u0) = o3 at ho3 hso ⊢
    -- region 7 drawn
    refine awp_drawn [0, 0, 1, 0, 1, 0, 1, 0, 1, 0, 2, 0] [0, 0, 2, 6, 14, 0, 32, 96, 224, 510, 1023, 2047] mixed rfl (by kernel_rfl) ?_
    refine dops_run 9 (by simp only [fwA, ↓reduceIte, Nat.reduceAdd, Nat.reduceMul, Nat.reduceEqDiff, Nat.reduceLT, Nat.reduceLeDiff, reduceCtorEq, ti45, fl45_1, ti3, un56, fl45_0, fl45_2, fl45_3, fl45_4, fl45_5, ti43, un43, el43, ti94, pl94, un53, Ty.fw, Pr.fw, ga1, gb1, Int.reduceLE, Int.le_refl, true_and] <;> rfl) ?_
    refine dops_fn rfl rfl rfl rfl en44 i1 ?_
    refine dops_appendR (b := H.length + 2) (q := 0) (k := o3.length) (n := u1.length) (xs := (u1.map Pr.enc).flatten) (cs := (o3.map Pr.enc).flatten) rfl rfl rfl un53 ti94 un53 (.inl ⟨_, rfl⟩) rfl (by simp only [fwA, ↓reduceIte, Nat.reduceAdd, Nat.reduceMul, Nat.reduceEqDiff, Nat.reduceLT, Nat.reduceLeDiff, reduceCtorEq] <;> rfl) (flatP_len _) rfl (fun es f h e he => by
      simp only [fwA, ↓reduceIte, Nat.reduceAdd, Nat.reduceMul, Nat.reduceEqDiff, Nat.reduceLT, Nat.reduceLeDiff, reduceCtorEq, PV.vec.injEq] at h
      obtain ⟨rfl, rfl⟩ := h
      obtain ⟨x, _, rfl⟩ := List.mem_map.1 he
      rfl) (by simp only [fwA, ↓reduceIte, Nat.reduceAdd, Nat.reduceMul, Nat.reduceEqDiff, Nat.reduceLT, Nat.reduceLeDiff, reduceCtorEq, alen, List.length_map]) (by show (o3.length + u1.length) * 16 ≤ _; omega) (by omega) ?_
    refine dops_run 1 (by simp only [fwA, ↓reduceIte, Nat.reduceAdd, Nat.reduceMul, Nat.reduceEqDiff, Nat.reduceLT, Nat.reduceLeDiff, reduceCtorEq] <;> rfl) ?_
    refine dops_end ?_
    rw [hso]
    exact ⟨rfl, by simp only [akeep, alook, aput, ev, List.length_append] <;> rfl, by simp, rfl⟩
  obtain ⟨rfl, hA, rfl, rfl⟩ := hq
  refine awp_keep _ hA ?_
  refine awp_told (told_freezeAt H _ 2 (C := (((subN (n + 1) a b).map Pr.enc).flatten)) rfl (flatP_bd _ _)) ?_
  have hl : (((subN (n + 1) a b).map Pr.enc).flatten).length = (subN (n + 1) a b).length * 2 := by rw [flatP_len]; omega
  refine awp_seq (awp_run rfl (by simp only [fwA, ↓reduceIte, Nat.reduceAdd, Nat.reduceMul, Nat.reduceEqDiff, Nat.reduceLT, Nat.reduceLeDiff, reduceCtorEq, hl, flatP_chunk] <;> rfl) (awp_ret ?_))
  refine gives_end (.inl rfl) _ ?_
  simp only [fwA, ↓reduceIte, Nat.reduceAdd, Nat.reduceMul, Nat.reduceEqDiff, Nat.reduceLT, Nat.reduceLeDiff, reduceCtorEq, ares, aresL, ares1, Tryd.f44]

theorem right_w0 {t : Ty} (h : ¬t.Right) : shapeOf t = .mk 0 0 [] := by unfold shapeOf; rw [if_neg h]

/-- The document's Sub: what has to hold, and whether it can. -/
noncomputable def subOf (a b : Ty) : List Pr × Bool := if a.Right ∧ b.Right ∧ a.shape = b.shape then (subN a.w a b, true) else ([], false)

/-- chancel/chancelref13.Sub -/
theorem c17 (Γ : Nat → PV) (a b : Ty) (hw : a.w ≤ 1000000000) : Gives Tryd.prog Γ 17 [.agg a.enc, .agg b.enc] (.tup [.vec ((subOf a b).1.map Pr.enc) false, .bool (subOf a b).2]) := by
  refine fn_of_awp Tryd.func17 rfl (by simp [Tryd.f17]) rfl fun H => ?_
  refine awp_seq ?_
  -- region 0
  refine awp_run rfl (by simp only [fwA, ↓reduceIte, Nat.reduceAdd, Nat.reduceMul, Nat.reduceEqDiff, Nat.reduceLT, Nat.reduceLeDiff, reduceCtorEq] <;> rfl) ?_
  refine awp_seq ?_
  refine awp_seq ?_
  -- region 1 drawn
  refine awp_drawn [1, 0, 0, 0, 1, 0, 0, 0, 0, 1, 0, 1, 0, 0, 0, 0] [0, 1, 3, 7, 15, 31, 63, 127, 255, 511, 1023, 511, 4095, 8191, 16383, 32767] mixed rfl (by kernel_rfl) ?_
  refine dops_run 1 (by simp only [fwA, ↓reduceIte, Nat.reduceAdd, Nat.reduceMul, Nat.reduceEqDiff, Nat.reduceLT, Nat.reduceLeDiff, reduceCtorEq, ti45, Ty.fw] <;> rfl) ?_
  refine dops_fn rfl rfl rfl rfl en24 (c24 Γ a) ?_
  by_cases ha : a.Right
  rotate_left
  · have e : subOf a b = ([], false) := by unfold subOf; rw [if_neg fun h => ha h.1]
    refine dops_run 14 (by simp only [fwA, ↓reduceIte, Nat.reduceAdd, Nat.reduceMul, Nat.reduceEqDiff, Nat.reduceLT, Nat.reduceLeDiff, reduceCtorEq, ha, decide_false, Bool.not_false] <;> rfl) ?_
    refine dops_end ?_
    refine awp_cond (by simp only [fwA, ↓reduceIte, Nat.reduceAdd, Nat.reduceMul, Nat.reduceEqDiff, Nat.reduceLT, Nat.reduceLeDiff, reduceCtorEq] <;> rfl) ?_
    refine awp_seq (awp_run rfl (by simp only [fwA, ↓reduceIte, Nat.reduceAdd, Nat.reduceMul, Nat.reduceEqDiff, Nat.reduceLT, Nat.reduceLeDiff, reduceCtorEq] <;> rfl) ?_)
    refine awp_told (told_le 4 (.vec [] false) ⟨nofun, trivial⟩) (awp_ret ?_)
    exact gives_end (.inl rfl) _ (by rw [e]; rfl)
  refine dops_run 3 (by simp only [fwA, ↓reduceIte, Nat.reduceAdd, Nat.reduceMul, Nat.reduceEqDiff, Nat.reduceLT, Nat.reduceLeDiff, reduceCtorEq, ti45, ha, decide_true, Bool.not_true, Ty.fw] <;> rfl) ?_
  refine dops_fn rfl (by simp only [fwA, ↓reduceIte, Nat.reduceAdd, Nat.reduceMul, Nat.reduceEqDiff, Nat.reduceLT, Nat.reduceLeDiff, reduceCtorEq] <;> rfl) rfl rfl en24 (c24 Γ b) ?_
  by_cases hb : b.Right
  rotate_left
  · have e : subOf a b = ([], false) := by unfold subOf; rw [if_neg fun h => hb h.2.1]
    refine dops_run 10 (by simp only [fwA, ↓reduceIte, Nat.reduceAdd, Nat.reduceMul, Nat.reduceEqDiff, Nat.reduceLT, Nat.reduceLeDiff, reduceCtorEq, hb, decide_false, Bool.not_false] <;> rfl) ?_
    refine dops_end ?_
    refine awp_cond (by simp only [fwA, ↓reduceIte, Nat.reduceAdd, Nat.reduceMul, Nat.reduceEqDiff, Nat.reduceLT, Nat.reduceLeDiff, reduceCtorEq] <;> rfl) ?_
    refine awp_seq (awp_run rfl (by simp only [fwA, ↓reduceIte, Nat.reduceAdd, Nat.reduceMul, Nat.reduceEqDiff, Nat.reduceLT, Nat.reduceLeDiff, reduceCtorEq] <;> rfl) ?_)
    refine awp_told (told_le 4 (.vec [] false) ⟨nofun, trivial⟩) (awp_ret ?_)
    exact gives_end (.inl rfl) _ (by rw [e]; rfl)
  refine dops_run 4 (by simp only [fwA, ↓reduceIte, Nat.reduceAdd, Nat.reduceMul, Nat.reduceEqDiff, Nat.reduceLT, Nat.reduceLeDiff, reduceCtorEq, ti45, hb, decide_true, Bool.not_true, Ty.fw] <;> rfl) ?_
  have ea : shapeOf a = a.shape := by unfold shapeOf; rw [if_pos ha]
  have eb : shapeOf b = b.shape := by unfold shapeOf; rw [if_pos hb]
  have ia := c30 Γ a
  have ib := c30 Γ b
  rw [ea] at ia
  rw [eb] at ib
  refine dops_fn rfl (by simp only [fwA, ↓reduceIte, Nat.reduceAdd, Nat.reduceMul, Nat.reduceEqDiff, Nat.reduceLT, Nat.reduceLeDiff, reduceCtorEq] <;> rfl) rfl rfl en30 ia ?_
  refine dops_run 1 (by simp only [fwA, ↓reduceIte, Nat.reduceAdd, Nat.reduceMul, Nat.reduceEqDiff, Nat.reduceLT, Nat.reduceLeDiff, reduceCtorEq, ti45, Ty.fw] <;> rfl) ?_
  refine dops_fn rfl (by simp only [fwA, ↓reduceIte, Nat.reduceAdd, Nat.reduceMul, Nat.reduceEqDiff, Nat.reduceLT, Nat.reduceLeDiff, reduceCtorEq] <;> rfl) rfl rfl en30 ib ?_
  refine dops_fn rfl (by simp only [fwA, ↓reduceIte, Nat.reduceAdd, Nat.reduceMul, Nat.reduceEqDiff, Nat.reduceLT, Nat.reduceLeDiff, reduceCtorEq] <;> rfl) rfl rfl en28 (c28 Γ a.shape b.shape) ?_
  by_cases hs : a.shape = b.shape
  rotate_left
  · have e : subOf a b = ([], false) := by unfold subOf; rw [if_neg fun h => hs h.2.2]
    refine dops_run 2 (by simp only [fwA, ↓reduceIte, Nat.reduceAdd, Nat.reduceMul, Nat.reduceEqDiff, Nat.reduceLT, Nat.reduceLeDiff, reduceCtorEq, hs, decide_false, Bool.not_false] <;> rfl) ?_
    refine dops_end ?_
    refine awp_cond (by simp only [fwA, ↓reduceIte, Nat.reduceAdd, Nat.reduceMul, Nat.reduceEqDiff, Nat.reduceLT, Nat.reduceLeDiff, reduceCtorEq] <;> rfl) ?_
    refine awp_seq (awp_run rfl (by simp only [fwA, ↓reduceIte, Nat.reduceAdd, Nat.reduceMul, Nat.reduceEqDiff, Nat.reduceLT, Nat.reduceLeDiff, reduceCtorEq] <;> rfl) ?_)
    refine awp_told (told_le 4 (.vec [] false) ⟨nofun, trivial⟩) (awp_ret ?_)
    exact gives_end (.inl rfl) _ (by rw [e]; rfl)
  have e : subOf a b = (subN a.w a b, true) := by unfold subOf; rw [if_pos ⟨ha, hb, hs⟩]
  refine dops_run 2 (by simp only [fwA, ↓reduceIte, Nat.reduceAdd, Nat.reduceMul, Nat.reduceEqDiff, Nat.reduceLT, Nat.reduceLeDiff, reduceCtorEq, hs, decide_true, Bool.not_true] <;> rfl) ?_
  refine dops_end ?_
  refine awp_cond (by simp only [fwA, ↓reduceIte, Nat.reduceAdd, Nat.reduceMul, Nat.reduceEqDiff, Nat.reduceLT, Nat.reduceLeDiff, reduceCtorEq] <;> rfl) ?_
  refine awp_skip ?_
  refine awp_seq ?_
  -- region 3
  refine awp_region rfl ?_
  refine aops_run 2 (by simp only [fwA, ↓reduceIte, Nat.reduceAdd, Nat.reduceMul, Nat.reduceEqDiff, Nat.reduceLT, Nat.reduceLeDiff, reduceCtorEq, ti45, Ty.fw] <;> rfl) ?_
  refine aops_fn rfl rfl rfl en44 (c44 Γ a.w a b (Nat.le_refl _) hw ha hb hs) ?_
  refine aops_run 2 (by simp only [fwA, ↓reduceIte, Nat.reduceAdd, Nat.reduceMul, Nat.reduceEqDiff, Nat.reduceLT, Nat.reduceLeDiff, reduceCtorEq] <;> rfl) ?_
  refine awp_ret ?_
  exact gives_end (.inl rfl) _ (by rw [e]; rfl)

end Go.Proofs.YtlnffadolfkggaaDoor

/- The contracts of the document's renaming and of its fresh types. -/
namespace Go.Proofs.YtlnffadolfkggaaDoor
set_option linter.unusedVariables false
set_option linter.unusedSimpArgs false
set_option maxRecDepth 100000
open Go.RowKit Fw

theorem renI_none {fr to : List Int} {a : Int} (h : ∀ j, j < fr.length → fr[j]? ≠ some a) : renI fr to a = a := by
  unfold renI
  have : fr.findIdx? (fun b => decide (b = a)) = none := by
    rw [List.findIdx?_eq_none_iff]
    intro x hx
    obtain ⟨j, hj⟩ := List.getElem?_of_mem hx
    have := h j (List.getElem?_eq_some_iff.1 hj).1
    rw [hj] at this
    simpa using this
  rw [this]
theorem renI_some {fr to : List Int} {a : Int} {i : Nat} (h : ∀ j, j < i → fr[j]? ≠ some a) (hi : fr[i]? = some a) : renI fr to a = to.getD i a := by
  unfold renI
  have : fr.findIdx? (fun b => decide (b = a)) = some i := by
    obtain ⟨h1, h2⟩ := List.getElem?_eq_some_iff.1 hi
    rw [List.findIdx?_eq_some_iff_getElem]
    refine ⟨h1, by simp [h2], fun j hj => ?_⟩
    have := h j hj
    rw [List.getElem?_eq_getElem (by omega)] at this
    simpa using this
  rw [this]

/-- chancel/chancelref10.One -/
theorem c54 (Γ : Nat → PV) (fr to : List Int) (a : Int) : Gives Tryd.prog Γ 54 [.int .i64 a, .vec (fr.map I1) false, .vec (to.map I1) false] (.int .i64 (renI fr to a)) := by
  refine fn_of_awp Tryd.func54 rfl (by simp [Tryd.f54]) rfl fun H => ?_
  refine awp_vlen 1 rfl fun hlen => ?_
  rw [List.length_map] at hlen
  refine awp_seq ?_
  refine awp_run rfl (by simp only [fwA, ↓reduceIte, Nat.reduceAdd, Nat.reduceMul, Nat.reduceEqDiff, Nat.reduceLT, Nat.reduceLeDiff, reduceCtorEq] <;> rfl) ?_
  refine awp_seq ?_
  refine awp_seq ?_
  refine awp_run rfl (by simp only [fwA, ↓reduceIte, Nat.reduceAdd, Nat.reduceMul, Nat.reduceEqDiff, Nat.reduceLT, Nat.reduceLeDiff, reduceCtorEq] <;> rfl) ?_
  refine awp_block ?_
  refine awp_for [0, 1, 2, 7] (fun i : Nat => [.int .i64 a, .vec (fr.map I1) false, .vec (to.map I1) false, .int .i64 (i : Int)]) (fun _ => H) (fun i => fr.length - i) (fun i => i ≤ fr.length ∧ ∀ j, j < i → fr[j]? ≠ some a) 0 rfl rfl ⟨Nat.zero_le _, fun j hj => by omega⟩ fun i hs => ?_
  obtain ⟨hi, hno⟩ := hs
  refine awp_seq ?_
  refine awp_seq ?_
  refine awp_run rfl (by simp only [fwA, ↓reduceIte, Nat.reduceAdd, Nat.reduceMul, Nat.reduceEqDiff, Nat.reduceLT, Nat.reduceLeDiff, reduceCtorEq, un56, List.length_map] <;> rfl) ?_
  refine awp_cond (by simp only [fwA, ↓reduceIte, Nat.reduceAdd, Nat.reduceMul, Nat.reduceEqDiff, Nat.reduceLT, Nat.reduceLeDiff, reduceCtorEq] <;> rfl) ?_
  by_cases hc : (i : Int) < fr.length
  rotate_left
  · simp only [hc, decide_false, Bool.false_eq_true, ↓reduceIte]
    refine awp_exit ?_
    refine awp_seq (awp_run rfl (by simp only [fwA, ↓reduceIte, Nat.reduceAdd, Nat.reduceMul, Nat.reduceEqDiff, Nat.reduceLT, Nat.reduceLeDiff, reduceCtorEq] <;> rfl) (awp_ret ?_))
    have hi' : i = fr.length := by omega
    rw [hi'] at hno
    exact gives_end0 (.inl rfl) (by rw [renI_none hno]; rfl)
  simp only [hc, decide_true, ↓reduceIte]
  refine awp_skip ?_
  have hia : i < fr.length := by omega
  have ga : fr[i]? = some fr[i] := List.getElem?_eq_getElem hia
  refine awp_seq ?_
  refine awp_block ?_
  refine awp_seq ?_
  -- region 4
  refine awp_run rfl (by simp only [fwA, ↓reduceIte, Nat.reduceAdd, Nat.reduceMul, Nat.reduceEqDiff, Nat.reduceLT, Nat.reduceLeDiff, reduceCtorEq, el56, ti3, List.getElem?_map, ga, Option.map_some, Int.natCast_nonneg, I1_fw] <;> rfl) ?_
  refine awp_cond (by simp only [fwA, ↓reduceIte, Nat.reduceAdd, Nat.reduceMul, Nat.reduceEqDiff, Nat.reduceLT, Nat.reduceLeDiff, reduceCtorEq] <;> rfl) ?_
  by_cases he : fr[i] = a
  · simp only [he, decide_true, ↓reduceIte]
    have hri := renI_some (to := to) hno (ga.trans (congrArg some he))
    rw [hri]
    refine awp_seq ?_
    refine awp_seq ?_
    -- region 5
    refine awp_run rfl (by simp only [fwA, ↓reduceIte, Nat.reduceAdd, Nat.reduceMul, Nat.reduceEqDiff, Nat.reduceLT, Nat.reduceLeDiff, reduceCtorEq, un56, List.length_map] <;> rfl) ?_
    refine awp_cond (by simp only [fwA, ↓reduceIte, Nat.reduceAdd, Nat.reduceMul, Nat.reduceEqDiff, Nat.reduceLT, Nat.reduceLeDiff, reduceCtorEq] <;> rfl) ?_
    by_cases ht : (i : Int) < to.length
    · simp only [ht, decide_true, ↓reduceIte]
      have hta : i < to.length := by omega
      have gt : to[i]? = some to[i] := List.getElem?_eq_getElem hta
      refine awp_seq ?_
      refine awp_run rfl (by simp only [fwA, ↓reduceIte, Nat.reduceAdd, Nat.reduceMul, Nat.reduceEqDiff, Nat.reduceLT, Nat.reduceLeDiff, reduceCtorEq, el56, ti3, List.getElem?_map, gt, Option.map_some, Int.natCast_nonneg, I1_fw] <;> rfl) (awp_ret ?_)
      exact gives_end0 (.inl rfl) (by rw [List.getD_eq_getElem?_getD, gt]; rfl)
    · simp only [ht, decide_false, Bool.false_eq_true, ↓reduceIte]
      refine awp_skip ?_
      refine awp_seq ?_
      refine awp_run rfl (by simp only [fwA, ↓reduceIte, Nat.reduceAdd, Nat.reduceMul, Nat.reduceEqDiff, Nat.reduceLT, Nat.reduceLeDiff, reduceCtorEq] <;> rfl) (awp_ret ?_)
      exact gives_end0 (.inl rfl) (by rw [List.getD_eq_getElem?_getD, List.getElem?_eq_none (by omega)]; rfl)
  simp only [he, decide_false, Bool.false_eq_true, ↓reduceIte]
  refine awp_skip ?_
  -- region 3
  refine awp_run rfl (by simp only [fwA, ↓reduceIte, Nat.reduceAdd, Nat.reduceMul, Nat.reduceEqDiff, Nat.reduceLT, Nat.reduceLeDiff, reduceCtorEq] <;> rfl) ?_
  refine ⟨i + 1, by omega, ⟨by omega, fun j hj => ?_⟩, by rw [wrapS i (by omega)]; rfl, rfl, rfl⟩
  by_cases hji : j = i
  · subst hji; rw [ga]; simpa using he
  · exact hno j (by omega)

theorem kids_len_w (t : Ty) : t.kids.length ≤ t.w := by
  rw [Ty.w_eq]
  have : ∀ l : List Ty, l.length ≤ (l.map Ty.w).sum := by
    intro l
    induction l with
    | nil => simp
    | cons k l ih => have := Ty.w_pos k; simp only [List.length_cons, List.map_cons, List.sum_cons]; omega
  have := this t.kids
  omega

/-- chancel/chancelref13.Rename -/
theorem c34 (Γ : Nat → PV) (fr to : List Int) : ∀ t : Ty, t.w ≤ 1000000000 → Gives Tryd.prog Γ 34 [.agg t.enc, .vec (fr.map I1) false, .vec (to.map I1) false] (.agg (t.map (renI fr to)).enc) := by
  refine Ty.ind fun t ih hw => ?_
  have hkw := kids_len_w t
  refine fn_of_awp Tryd.func34 rfl (by simp [Tryd.f34]) (by simp [PV.plain, PV.bd, Ty.bd]) fun H => ?_
  refine awp_seq ?_
  -- region 0
  refine awp_run rfl (by simp only [fwA, ↓reduceIte, Nat.reduceAdd, Nat.reduceMul, Nat.reduceEqDiff, Nat.reduceLT, Nat.reduceLeDiff, reduceCtorEq, ti45, fl45_1, ti3, fl45_0, fl45_2, fl45_3, fl45_4, fl45_5, ti43, un43, el43, pl45, Ty.fw] <;> rfl) ?_
  refine awp_seq ?_
  -- region 1 drawn
  refine awp_drawn [0, 4, 0, 4, 0, 0, 0, 0, 4, 0, 4, 0, 4, 0, 3, 2] [0, 1, 0, 4, 0, 0, 60, 0, 128, 0, 512, 0, 2048, 8191, 0, 32767] mixed rfl (by kernel_rfl) ?_
  refine dops_run 6 (by simp only [fwA, ↓reduceIte, Nat.reduceAdd, Nat.reduceMul, Nat.reduceEqDiff, Nat.reduceLT, Nat.reduceLeDiff, reduceCtorEq, ti45, fl45_1, ti3, fl45_0, fl45_2, fl45_3, fl45_4, fl45_5, ti43, un43, el43, pl45, Ty.fw, View.vw] <;> rfl) ?_
  refine dops_fn rfl rfl rfl rfl en54 (c54 Γ fr to t.l) ?_
  refine dops_run 7 (by simp only [fwA, ↓reduceIte, Nat.reduceAdd, Nat.reduceMul, Nat.reduceEqDiff, Nat.reduceLT, Nat.reduceLeDiff, reduceCtorEq, ti45, fl45_1, ti3, fl45_0, fl45_2, fl45_3, fl45_4, fl45_5, ti43, un43, el43, pl45, Ty.fw, View.vw] <;> rfl) ?_
  refine dops_make1 rfl rfl (by simp only [fwA, ↓reduceIte, Nat.reduceAdd, Nat.reduceMul, Nat.reduceEqDiff, Nat.reduceLT, Nat.reduceLeDiff, reduceCtorEq, ti45] <;> rfl) (by simp [View.vw, List.take_append]) ?_
  refine dops_run 1 (by simp only [fwA, ↓reduceIte, Nat.reduceAdd, Nat.reduceMul, Nat.reduceEqDiff, Nat.reduceLT, Nat.reduceLeDiff, reduceCtorEq, ti45, fl45_1, ti3, fl45_0, fl45_2, fl45_3, fl45_4, fl45_5, ti43, un43, el43, pl45, Ty.fw] <;> rfl) ?_
  refine dops_end ?_
  refine awp_keep (A' := [(1, .vec (fr.map I1) false), (2, .vec (to.map I1) false), (3, .ptr H.length 0), (6, .ptr (H.length + 1) 0), (7, .ptr (H.length + 2) 0)]) [1, 2, 3, 6, 7] (by simp [akeep, alook, aput, ev]) ?_
  refine awp_heap (H' := H ++ [.box t.enc, .box [.int .i64 0, .int .i64 0, .int .i64 0, .int .i64 0, .int .i64 0, .vec [] true], .box [.int .i64 t.kind, .int .i64 (renI fr to t.l), .int .i64 t.c, .int .i64 t.pc, .int .i64 t.x, .vec [] true]]) (by simp) ?_
  refine awp_seq ?_
  refine AWP.mono (Q := fun e A' H' D' => e = .normal ∧ akeep [1, 2, 3, 6, 7] A' = [(1, .vec (fr.map I1) false), (2, .vec (to.map I1) false), (3, .ptr H.length 0), (6, .ptr (H.length + 1) 0), (7, .ptr (H.length + 2) 0)] ∧ H' = H ++ [.box t.enc, .box [.int .i64 0, .int .i64 0, .int .i64 0, .int .i64 0, .int .i64 0, .vec [] true], .box [.int .i64 t.kind, .int .i64 (renI fr to t.l), .int .i64 (if t.kind = 2 then renI fr to t.c else t.c), .int .i64 t.pc, .int .i64 t.x, .vec [] true]] ∧ D' = []) ?_ fun e A' H' D' hq => ?_
  · refine awp_seq ?_
    -- region 2
    refine awp_run rfl (by simp only [fwA, ↓reduceIte, Nat.reduceAdd, Nat.reduceMul, Nat.reduceEqDiff, Nat.reduceLT, Nat.reduceLeDiff, reduceCtorEq, ti45, fl45_1, ti3, fl45_0, fl45_2, fl45_3, fl45_4, fl45_5, ti43, un43, el43, pl45, Ty.fw] <;> rfl) ?_
    refine awp_cond (by simp only [fwA, ↓reduceIte, Nat.reduceAdd, Nat.reduceMul, Nat.reduceEqDiff, Nat.reduceLT, Nat.reduceLeDiff, reduceCtorEq] <;> rfl) ?_
    by_cases k2 : t.kind = 2
    · simp only [k2, decide_true, ↓reduceIte]
      refine awp_region rfl ?_
      refine aops_run 4 (by simp only [fwA, ↓reduceIte, Nat.reduceAdd, Nat.reduceMul, Nat.reduceEqDiff, Nat.reduceLT, Nat.reduceLeDiff, reduceCtorEq, ti45, fl45_1, ti3, fl45_0, fl45_2, fl45_3, fl45_4, fl45_5, ti43, un43, el43, pl45, Ty.fw] <;> rfl) ?_
      refine aops_fn rfl rfl rfl en54 (c54 Γ fr to t.c) ?_
      refine aops_run 2 (by simp only [fwA, ↓reduceIte, Nat.reduceAdd, Nat.reduceMul, Nat.reduceEqDiff, Nat.reduceLT, Nat.reduceLeDiff, reduceCtorEq, ti45, fl45_1, ti3, fl45_0, fl45_2, fl45_3, fl45_4, fl45_5, ti43, un43, el43, pl45, Ty.fw] <;> rfl) ?_
      refine ⟨rfl, rfl, ?_, rfl⟩
      simp
    · simp only [k2, decide_false, Bool.false_eq_true, ↓reduceIte]
      refine awp_skip ?_
      exact ⟨rfl, rfl, rfl, rfl⟩
  obtain ⟨rfl, hA, rfl, rfl⟩ := hq
  refine awp_keep _ hA ?_
  have hm := Ty.map_eq (renI fr to) t
  generalize (if t.kind = 2 then renI fr to t.c else t.c) = gc at hm ⊢
  refine awp_seq ?_
  refine AWP.mono (Q := fun e A' H' D' => e = .normal ∧ akeep [1, 2, 3, 6, 7] A' = [(1, .vec (fr.map I1) false), (2, .vec (to.map I1) false), (3, .ptr H.length 0), (6, .ptr (H.length + 1) 0), (7, .ptr (H.length + 2) 0)] ∧ H' = H ++ [.box t.enc, .box [.int .i64 0, .int .i64 0, .int .i64 0, .int .i64 0, .int .i64 0, .vec [] true], .box [.int .i64 t.kind, .int .i64 (renI fr to t.l), .int .i64 gc, .int .i64 (if t.kind = 3 then renI fr to t.pc else t.pc), .int .i64 (if t.kind = 3 then renI fr to t.x else t.x), .vec [] true]] ∧ D' = []) ?_ fun e A' H' D' hq => ?_
  · refine awp_seq ?_
    -- region 4
    refine awp_run rfl (by simp only [fwA, ↓reduceIte, Nat.reduceAdd, Nat.reduceMul, Nat.reduceEqDiff, Nat.reduceLT, Nat.reduceLeDiff, reduceCtorEq, ti45, fl45_1, ti3, fl45_0, fl45_2, fl45_3, fl45_4, fl45_5, ti43, un43, el43, pl45, Ty.fw] <;> rfl) ?_
    refine awp_cond (by simp only [fwA, ↓reduceIte, Nat.reduceAdd, Nat.reduceMul, Nat.reduceEqDiff, Nat.reduceLT, Nat.reduceLeDiff, reduceCtorEq] <;> rfl) ?_
    by_cases k3 : t.kind = 3
    · simp only [k3, decide_true, ↓reduceIte]
      refine awp_seq ?_
      refine awp_region rfl ?_
      refine aops_run 4 (by simp only [fwA, ↓reduceIte, Nat.reduceAdd, Nat.reduceMul, Nat.reduceEqDiff, Nat.reduceLT, Nat.reduceLeDiff, reduceCtorEq, ti45, fl45_1, ti3, fl45_0, fl45_2, fl45_3, fl45_4, fl45_5, ti43, un43, el43, pl45, Ty.fw] <;> rfl) ?_
      refine aops_fn rfl rfl rfl en54 (c54 Γ fr to t.pc) ?_
      refine aops_run 2 (by simp only [fwA, ↓reduceIte, Nat.reduceAdd, Nat.reduceMul, Nat.reduceEqDiff, Nat.reduceLT, Nat.reduceLeDiff, reduceCtorEq, ti45, fl45_1, ti3, fl45_0, fl45_2, fl45_3, fl45_4, fl45_5, ti43, un43, el43, pl45, Ty.fw] <;> rfl) ?_
      refine awp_heap (H' := H ++ [.box t.enc, .box [.int .i64 0, .int .i64 0, .int .i64 0, .int .i64 0, .int .i64 0, .vec [] true], .box [.int .i64 3, .int .i64 (renI fr to t.l), .int .i64 gc, .int .i64 (renI fr to t.pc), .int .i64 t.x, .vec [] true]]) (by simp) ?_
      refine awp_region rfl ?_
      refine aops_run 4 (by simp only [fwA, ↓reduceIte, Nat.reduceAdd, Nat.reduceMul, Nat.reduceEqDiff, Nat.reduceLT, Nat.reduceLeDiff, reduceCtorEq, ti45, fl45_1, ti3, fl45_0, fl45_2, fl45_3, fl45_4, fl45_5, ti43, un43, el43, pl45, Ty.fw] <;> rfl) ?_
      refine aops_fn rfl rfl rfl en54 (c54 Γ fr to t.x) ?_
      refine aops_run 2 (by simp only [fwA, ↓reduceIte, Nat.reduceAdd, Nat.reduceMul, Nat.reduceEqDiff, Nat.reduceLT, Nat.reduceLeDiff, reduceCtorEq, ti45, fl45_1, ti3, fl45_0, fl45_2, fl45_3, fl45_4, fl45_5, ti43, un43, el43, pl45, Ty.fw] <;> rfl) ?_
      refine ⟨rfl, rfl, ?_, rfl⟩
      simp
    · simp only [k3, decide_false, Bool.false_eq_true, ↓reduceIte]
      refine awp_skip ?_
      exact ⟨rfl, rfl, rfl, rfl⟩
  obtain ⟨rfl, hA, rfl, rfl⟩ := hq
  refine awp_keep _ hA ?_
  generalize (if t.kind = 3 then renI fr to t.pc else t.pc) = gp at hm ⊢
  generalize (if t.kind = 3 then renI fr to t.x else t.x) = gx at hm ⊢
  generalize renI fr to t.l = gl at hm ⊢
  rw [hm]
  refine awp_seq ?_
  refine awp_seq ?_
  refine awp_run rfl (by simp only [fwA, ↓reduceIte, Nat.reduceAdd, Nat.reduceMul, Nat.reduceEqDiff, Nat.reduceLT, Nat.reduceLeDiff, reduceCtorEq] <;> rfl) ?_
  refine awp_told (told_adoptBox (H.length + 2) 5 6 (by decide) (by simp only [fwA, ↓reduceIte, Nat.reduceAdd, Nat.reduceMul, Nat.reduceEqDiff, Nat.reduceLT, Nat.reduceLeDiff, reduceCtorEq] <;> rfl) rfl) ?_
  refine awp_block ?_
  refine awp_for [1, 2, 3, 6, 7, 8] (fun i : Nat => [.vec (fr.map I1) false, .vec (to.map I1) false, .ptr H.length 0, .ptr (H.length + 1) 0, .ptr (H.length + 2) 0, .int .i64 (i : Int)])
    (fun i => H ++ [.box t.enc, .box [.int .i64 0, .int .i64 0, .int .i64 0, .int .i64 0, .int .i64 0, .vec [] true], .box [.int .i64 t.kind, .int .i64 gl, .int .i64 gc, .int .i64 gp, .int .i64 gx, .row (H.length + 3) 0 i 6], .row 6 ((((t.kids.take i).map (Ty.map (renI fr to)))).map Ty.enc).flatten])
    (fun i => t.kids.length - i) (fun i => i ≤ t.kids.length) 0 rfl (by simp only [fwA, ↓reduceIte, Nat.reduceAdd, Nat.reduceMul, Nat.reduceEqDiff, Nat.reduceLT, Nat.reduceLeDiff, reduceCtorEq] <;> rfl) (Nat.zero_le _) fun i hi => ?_
  have hti : ((t.kids.take i).map (Ty.map (renI fr to))).length = i := by simp; omega
  refine awp_seq ?_
  refine awp_seq ?_
  refine awp_run rfl (by simp only [fwA, ↓reduceIte, Nat.reduceAdd, Nat.reduceMul, Nat.reduceEqDiff, Nat.reduceLT, Nat.reduceLeDiff, reduceCtorEq, ti45, fl45_1, ti3, fl45_0, fl45_2, fl45_3, fl45_4, fl45_5, ti43, un43, el43, pl45, Ty.fw, List.length_map] <;> rfl) ?_
  refine awp_cond (by simp only [fwA, ↓reduceIte, Nat.reduceAdd, Nat.reduceMul, Nat.reduceEqDiff, Nat.reduceLT, Nat.reduceLeDiff, reduceCtorEq] <;> rfl) ?_
  by_cases hc : (i : Int) < t.kids.length
  rotate_left
  · simp only [hc, decide_false, Bool.false_eq_true, ↓reduceIte]
    refine awp_exit ?_
    have hi' : i = t.kids.length := by omega
    refine awp_told (told_freezeAt H _ 3 (C := (((t.kids.take i).map (Ty.map (renI fr to))).map Ty.enc).flatten) rfl (flat_bd (fun t => by simp only [Ty.fw]) _)) ?_
    have hl : ((((t.kids.take i).map (Ty.map (renI fr to))).map Ty.enc).flatten).length = i * 6 := by rw [flat_len Ty.enc_len, hti]
    have hch : chunk 6 i ((((t.kids.take i).map (Ty.map (renI fr to))).map Ty.enc).flatten) = ((t.kids.take i).map (Ty.map (renI fr to))).map Ty.enc := by
      have := flat_chunk Ty.enc_len ((t.kids.take i).map (Ty.map (renI fr to)))
      rwa [hti] at this
    refine awp_seq (awp_run rfl (by simp only [fwA, ↓reduceIte, Nat.reduceAdd, Nat.reduceMul, Nat.reduceEqDiff, Nat.reduceLT, Nat.reduceLeDiff, reduceCtorEq, ti45, fl45_1, ti3, fl45_0, fl45_2, fl45_3, fl45_4, fl45_5, ti43, un43, el43, pl45, Ty.fw, hl, hch] <;> rfl) (awp_ret ?_))
    refine gives_end (.inl rfl) _ ?_
    simp only [fwA, ↓reduceIte, Nat.reduceAdd, Nat.reduceMul, Nat.reduceEqDiff, Nat.reduceLT, Nat.reduceLeDiff, reduceCtorEq, ares, aresL, ares1, Tryd.f34, ti45, hi', List.take_length]
    rw [Ty.enc_eq (Ty.mk _ _ _ _ _ _)]
    rfl
  simp only [hc, decide_true, ↓reduceIte]
  refine awp_skip ?_
  have hia : i < t.kids.length := by omega
  have ga : t.kids[i]? = some t.kids[i] := List.getElem?_eq_getElem hia
  have ihk := ih t.kids[i] (List.getElem_mem hia) (by have := Ty.w_kid (List.getElem_mem hia); omega)
  refine awp_seq ?_
  refine awp_block ?_
  -- drawn
  refine awp_drawn [0, 1, 0, 1, 0, 0, 1, 0, 0, 0, 0, 2, 0, 2] [0, 1, 0, 4, 0, 28, 60, 0, 0, 508, 1020, 2047, 4095, 8191] mixed rfl (by kernel_rfl) ?_
  refine dops_run 9 (by simp only [fwA, ↓reduceIte, Nat.reduceAdd, Nat.reduceMul, Nat.reduceEqDiff, Nat.reduceLT, Nat.reduceLeDiff, reduceCtorEq, ti45, fl45_1, ti3, fl45_0, fl45_2, fl45_3, fl45_4, fl45_5, ti43, un43, el43, pl45, Ty.fw, List.getElem?_map, ga, Option.map_some, Int.natCast_nonneg] <;> rfl) ?_
  refine dops_fn rfl rfl rfl rfl en34 ihk ?_
  refine dops_run 1 (by simp only [fwA, ↓reduceIte, Nat.reduceAdd, Nat.reduceMul, Nat.reduceEqDiff, Nat.reduceLT, Nat.reduceLeDiff, reduceCtorEq, ti45, fl45_1, ti3, fl45_0, fl45_2, fl45_3, fl45_4, fl45_5, ti43, un43, el43, pl45, Ty.fw] <;> rfl) ?_
  refine dops_appendR rfl rfl rfl un43 ti45 un43 (.inl ⟨_, rfl⟩) rfl (by simp only [fwA, ↓reduceIte, Nat.reduceAdd, Nat.reduceMul, Nat.reduceEqDiff, Nat.reduceLT, Nat.reduceLeDiff, reduceCtorEq] <;> rfl) (by rw [flat_len Ty.enc_len, hti]; exact (Nat.zero_add _).symm) rfl
    (fun es f h e he => by
      simp only [fwA, ↓reduceIte, Nat.reduceAdd, Nat.reduceMul, Nat.reduceEqDiff, Nat.reduceLT, Nat.reduceLeDiff, reduceCtorEq, PV.vec.injEq] at h
      obtain ⟨rfl, rfl⟩ := h
      simp only [List.mem_singleton] at he
      subst he; exact Ty.enc_len _) rfl (by show (i + 1) * 64 ≤ _; omega) (by show i + 1 ≤ _; omega) ?_
  refine dops_run 2 (by simp only [fwA, ↓reduceIte, Nat.reduceAdd, Nat.reduceMul, Nat.reduceEqDiff, Nat.reduceLT, Nat.reduceLeDiff, reduceCtorEq, ti45, fl45_1, ti3, fl45_0, fl45_2, fl45_3, fl45_4, fl45_5, ti43, un43, el43, pl45, Ty.fw] <;> rfl) ?_
  refine dops_end ?_
  refine awp_run rfl (by simp only [fwA, ↓reduceIte, Nat.reduceAdd, Nat.reduceMul, Nat.reduceEqDiff, Nat.reduceLT, Nat.reduceLeDiff, reduceCtorEq] <;> rfl) ?_
  have hmp : ((t.kids.take (i + 1)).map (Ty.map (renI fr to))) = ((t.kids.take i).map (Ty.map (renI fr to))) ++ [t.kids[i].map (renI fr to)] := by rw [List.take_add_one, ga, List.map_append]; rfl
  refine ⟨i + 1, by omega, by omega, by rw [wrapS i (by omega)]; rfl, ?_, rfl⟩
  rw [hmp, List.map_append, List.flatten_append]
  simp only [List.map_cons, List.map_nil, List.flatten_cons, List.flatten_nil, List.append_nil, List.append_assoc, List.cons_append, List.nil_append]

theorem wrap_add (a b : Int) : IntKind.i64.wrap (IntKind.i64.wrap a + b) = IntKind.i64.wrap (a + b) := by
  unfold IntKind.wrap
  have hb : IntKind.i64.bits = 64 := rfl
  have hsg : IntKind.i64.signed = true := rfl
  simp only [hb, hsg, Bool.true_and, decide_eq_true_eq]
  split <;> split <;> (try split) <;> omega
theorem nx2 (n : Int) : IntKind.i64.wrap (n + 2) = nx (nx n) := by unfold nx; rw [wrap_add, Int.add_assoc]; rfl
theorem nx3 (n : Int) : IntKind.i64.wrap (n + 3) = nx (nx (nx n)) := by unfold nx; rw [wrap_add, Int.add_assoc, wrap_add, Int.add_assoc]; rfl
theorem nx1 (n : Int) : IntKind.i64.wrap (n + 1) = nx n := rfl
theorem sh_kids0 {s : Sh} (hr : s.Right) (h : s.kind ≠ 3) : s.kids = [] := by
  have := hr.node.2.2.2.2; unfold Sh.want at this; rw [if_neg h] at this; exact List.eq_nil_of_length_eq_zero this
theorem sh_kids2 {s : Sh} (hr : s.Right) (h : s.kind = 3) : ∃ u v, s.kids = [u, v] := by
  have := hr.node.2.2.2.2; unfold Sh.want at this; rw [if_pos h] at this; exact match s.kids, this with | [u, v], _ => ⟨u, v, rfl⟩
theorem fresh_eq2 {s : Sh} (hr : s.Right) (n : Int) (h : s.kind = 2) : Ty.fresh s n = (.mk 2 n (nx n) 0 0 [], nx (nx n)) := by
  have hk := sh_kids0 hr (by omega)
  cases s with | mk k m ks => simp only [Sh.kind, Sh.kids] at h hk; subst hk; rw [Ty.fresh, if_pos h]; rfl
theorem fresh_eq3 {s : Sh} (n : Int) (h : s.kind = 3) {u v : Sh} (hk : s.kids = [u, v]) : Ty.fresh s n = (.mk 3 n 0 (nx n) (nx (nx n)) [(Ty.fresh u (nx (nx (nx n)))).1, (Ty.fresh v (Ty.fresh u (nx (nx (nx n)))).2).1], (Ty.fresh v (Ty.fresh u (nx (nx (nx n)))).2).2) := by
  cases s with | mk k m ks => simp only [Sh.kind, Sh.kids] at h hk; subst hk; rw [Ty.fresh, if_neg (by omega), if_pos h]; rfl
theorem fresh_eq1 {s : Sh} (hr : s.Right) (n : Int) (h : s.kind ≠ 2) (h3 : s.kind ≠ 3) : Ty.fresh s n = (.mk 1 n 0 0 0 [], nx n) := by
  have hk := sh_kids0 hr h3
  have hn := hr.node
  cases s with | mk k m ks =>
    simp only [Sh.kind, Sh.kids] at h h3 hk
    obtain ⟨h1, h4, _⟩ := hn
    simp only [Sh.kind] at h1 h4
    subst hk; rw [Ty.fresh, if_neg h, if_neg h3]
    have : (if k = 4 then (1 : Int) else k) = 1 := by split <;> omega
    rw [this]; rfl
theorem tleaf_le (k l c pc x : Int) : PV.leL [.int .i64 k, .int .i64 l, .int .i64 c, .int .i64 pc, .int .i64 x, .vec [] true] (Ty.mk k l c pc x []).enc := by
  have e : (Ty.mk k l c pc x []).enc = [.int .i64 k, .int .i64 l, .int .i64 c, .int .i64 pc, .int .i64 x, .vec [] false] := Ty.enc_eq _
  rw [e]
  exact ⟨rfl, rfl, rfl, rfl, rfl, ⟨nofun, trivial⟩, trivial⟩
theorem tfun_le (k l c pc x : Int) (a b : Ty) : PV.leL [.int .i64 k, .int .i64 l, .int .i64 c, .int .i64 pc, .int .i64 x, .vec [a.enc, b.enc] true] (Ty.mk k l c pc x [a, b]).enc := by
  have e : (Ty.mk k l c pc x [a, b]).enc = [.int .i64 k, .int .i64 l, .int .i64 c, .int .i64 pc, .int .i64 x, .vec [a.enc, b.enc] false] := Ty.enc_eq _
  rw [e]
  exact ⟨rfl, rfl, rfl, rfl, rfl, ⟨nofun, PV.leLL_refl _⟩, trivial⟩

/-- chancel/chancelref13.fresh -/
theorem c43 (Γ : Nat → PV) : ∀ (s : Sh), s.Right → ∀ n : Int, Gives Tryd.prog Γ 43 [.agg s.enc, .int .i64 n] (.tup [.agg (Ty.fresh s n).1.enc, .int .i64 (Ty.fresh s n).2]) := by
  refine Sh.ind fun s ih hr n => ?_
  refine fn_of_awp Tryd.func43 rfl (by simp [Tryd.f43]) (by simp [PV.plain, PV.bd, PV.bdL, Ty.bd]) fun H => ?_
  refine awp_seq ?_
  -- region 0
  refine awp_run rfl (by simp only [fwA, ↓reduceIte, Nat.reduceAdd, Nat.reduceMul, Nat.reduceEqDiff, Nat.reduceLT, Nat.reduceLeDiff, reduceCtorEq, ti45, ti3, ti43, un43, pl45, fl51_0, fl51_2, ti49, el49, ti51, Sh.fw] <;> rfl) ?_
  refine awp_seq ?_
  refine awp_seq ?_
  -- region 1
  refine awp_run rfl (by simp only [fwA, ↓reduceIte, Nat.reduceAdd, Nat.reduceMul, Nat.reduceEqDiff, Nat.reduceLT, Nat.reduceLeDiff, reduceCtorEq, ti45, ti3, ti43, un43, pl45, fl51_0, fl51_2, ti49, el49, ti51, Sh.fw] <;> rfl) ?_
  refine awp_block ?_
  refine awp_seq ?_
  -- region 2
  refine awp_run rfl (by simp only [fwA, ↓reduceIte, Nat.reduceAdd, Nat.reduceMul, Nat.reduceEqDiff, Nat.reduceLT, Nat.reduceLeDiff, reduceCtorEq, ti45, ti3, ti43, un43, pl45, fl51_0, fl51_2, ti49, el49, ti51, Sh.fw] <;> rfl) ?_
  refine awp_cond (by simp only [fwA, ↓reduceIte, Nat.reduceAdd, Nat.reduceMul, Nat.reduceEqDiff, Nat.reduceLT, Nat.reduceLeDiff, reduceCtorEq] <;> rfl) ?_
  by_cases k2 : s.kind = 2
  · simp only [k2, decide_true, ↓reduceIte]
    rw [fresh_eq2 hr n k2]
    refine awp_seq ?_
    refine awp_run rfl (by simp only [fwA, ↓reduceIte, Nat.reduceAdd, Nat.reduceMul, Nat.reduceEqDiff, Nat.reduceLT, Nat.reduceLeDiff, reduceCtorEq, ti45, ti3, ti43, un43, pl45, fl51_0, fl51_2, ti49, el49, ti51, Sh.fw, nx1, nx2] <;> rfl) ?_
    refine awp_told (told_leBox (H.length + 1) (cs := [.int .i64 2, .int .i64 n, .int .i64 (nx n), .int .i64 0, .int .i64 0, .vec [] true]) (by rw [Fw.get_at]; rfl) (tleaf_le _ _ _ _ _)) ?_
    refine awp_heap (H' := H ++ [.box s.enc, .box (Ty.mk 2 n (nx n) 0 0 []).enc]) (by rw [Fw.set_at]; rfl) ?_
    refine awp_ret ?_
    refine gives_end (.inl rfl) _ ?_
    simp [ares, aresL, ares1, rd, ev, alook, aput, Tryd.f43, ti45, Ty.fw]
  simp only [k2, decide_false, Bool.false_eq_true, ↓reduceIte]
  refine awp_seq ?_
  -- region 4
  refine awp_run rfl (by simp only [fwA, ↓reduceIte, Nat.reduceAdd, Nat.reduceMul, Nat.reduceEqDiff, Nat.reduceLT, Nat.reduceLeDiff, reduceCtorEq, ti45, ti3, ti43, un43, pl45, fl51_0, fl51_2, ti49, el49, ti51, Sh.fw] <;> rfl) ?_
  refine awp_cond (by simp only [fwA, ↓reduceIte, Nat.reduceAdd, Nat.reduceMul, Nat.reduceEqDiff, Nat.reduceLT, Nat.reduceLeDiff, reduceCtorEq] <;> rfl) ?_
  by_cases k3 : s.kind = 3
  · simp only [k3, decide_true, ↓reduceIte]
    obtain ⟨u, v, hk⟩ := sh_kids2 hr k3
    rw [fresh_eq3 n k3 hk]
    have g0 : (s.kids.map Sh.enc)[Int.toNat 0]? = some u.enc := by rw [hk]; rfl
    have g1 : (s.kids.map Sh.enc)[Int.toNat 1]? = some v.enc := by rw [hk]; rfl
    have iu := ih u (by rw [hk]; simp) (hr.kids u (by rw [hk]; simp)) (nx (nx (nx n)))
    generalize Ty.fresh u (nx (nx (nx n))) = fu at iu ⊢
    have iv := ih v (by rw [hk]; simp) (hr.kids v (by rw [hk]; simp)) fu.2
    generalize Ty.fresh v fu.2 = fv at iv ⊢
    refine awp_seq ?_
    -- region 5
    refine awp_region rfl ?_
    refine aops_run 6 (by simp only [fwA, ↓reduceIte, Nat.reduceAdd, Nat.reduceMul, Nat.reduceEqDiff, Nat.reduceLT, Nat.reduceLeDiff, reduceCtorEq, ti45, ti3, ti43, un43, pl45, fl51_0, fl51_2, ti49, el49, ti51, Sh.fw, g0, g1, nx1, nx2, nx3, Int.reduceLE, Int.le_refl, true_and] <;> rfl) ?_
    refine aops_fn rfl rfl rfl en43 iu ?_
    refine aops_run 6 (by simp only [fwA, ↓reduceIte, Nat.reduceAdd, Nat.reduceMul, Nat.reduceEqDiff, Nat.reduceLT, Nat.reduceLeDiff, reduceCtorEq, ti45, ti3, ti43, un43, pl45, fl51_0, fl51_2, ti49, el49, ti51, Sh.fw, Ty.fw] <;> rfl) ?_
    refine awp_seq ?_
    -- region 6
    refine awp_region rfl ?_
    refine aops_run 5 (by simp only [fwA, ↓reduceIte, Nat.reduceAdd, Nat.reduceMul, Nat.reduceEqDiff, Nat.reduceLT, Nat.reduceLeDiff, reduceCtorEq, ti45, ti3, ti43, un43, pl45, fl51_0, fl51_2, ti49, el49, ti51, Sh.fw, g0, g1, Int.reduceLE, Int.le_refl, true_and] <;> rfl) ?_
    refine aops_fn rfl rfl rfl en43 iv ?_
    refine aops_run 6 (by simp only [fwA, ↓reduceIte, Nat.reduceAdd, Nat.reduceMul, Nat.reduceEqDiff, Nat.reduceLT, Nat.reduceLeDiff, reduceCtorEq, ti45, ti3, ti43, un43, pl45, fl51_0, fl51_2, ti49, el49, ti51, Sh.fw, Ty.fw] <;> rfl) ?_
    refine awp_seq ?_
    -- region 7
    refine awp_run rfl (by simp only [fwA, ↓reduceIte, Nat.reduceAdd, Nat.reduceMul, Nat.reduceEqDiff, Nat.reduceLT, Nat.reduceLeDiff, reduceCtorEq, ti45, ti3, ti43, un43, pl45, fl51_0, fl51_2, ti49, el49, ti51, Sh.fw, Ty.fw, nx1, nx2, nx3, PV.plainL, PV.bdL, PV.bd, PV.bdL_append, List.take_zero, List.append_nil, Bool.and_self] <;> rfl) ?_
    refine awp_told (told_leBox (H.length + 1) (cs := [.int .i64 3, .int .i64 n, .int .i64 0, .int .i64 (nx n), .int .i64 (nx (nx n)), .vec [fu.1.enc, fv.1.enc] true]) (by rw [Fw.get_at]; rfl) (tfun_le _ _ _ _ _ _ _)) ?_
    refine awp_heap (H' := H ++ [.box s.enc, .box (Ty.mk 3 n 0 (nx n) (nx (nx n)) [fu.1, fv.1]).enc, .box fu.1.enc, .box fv.1.enc]) (by rw [Fw.set_at]; rfl) ?_
    refine awp_ret ?_
    refine gives_end (.inl rfl) _ ?_
    simp [ares, aresL, ares1, rd, ev, alook, aput, Tryd.f43, ti45, Ty.fw]
  simp only [k3, decide_false, Bool.false_eq_true, ↓reduceIte]
  refine awp_skip ?_
  rw [fresh_eq1 hr n k2 k3]
  refine awp_seq ?_
  -- region 8
  refine awp_run rfl (by simp only [fwA, ↓reduceIte, Nat.reduceAdd, Nat.reduceMul, Nat.reduceEqDiff, Nat.reduceLT, Nat.reduceLeDiff, reduceCtorEq, ti45, ti3, ti43, un43, pl45, fl51_0, fl51_2, ti49, el49, ti51, Sh.fw, nx1] <;> rfl) ?_
  refine awp_told (told_leBox (H.length + 1) (cs := [.int .i64 1, .int .i64 n, .int .i64 0, .int .i64 0, .int .i64 0, .vec [] true]) (by rw [Fw.get_at]; rfl) (tleaf_le _ _ _ _ _)) ?_
  refine awp_heap (H' := H ++ [.box s.enc, .box (Ty.mk 1 n 0 0 0 []).enc]) (by rw [Fw.set_at]; rfl) ?_
  refine awp_ret ?_
  refine gives_end (.inl rfl) _ ?_
  simp [ares, aresL, ares1, rd, ev, alook, aput, Tryd.f43, ti45, Ty.fw]

def noTy : Ty := .mk 0 0 0 0 0 []
/-- A fresh type, and the next number; of what may not be a type nothing. -/
noncomputable def freshOf (s : Sh) (n : Int) : Ty × Int := if s.Right ∧ 0 ≤ n then Ty.fresh s n else (noTy, n)

/-- chancel/chancelref13.Fresh -/
theorem c15 (Γ : Nat → PV) (s : Sh) (n : Int) : Gives Tryd.prog Γ 15 [.agg s.enc, .int .i64 n] (.tup [.agg (freshOf s n).1.enc, .int .i64 (freshOf s n).2]) := by
  refine fn_of_awp Tryd.func15 rfl (by simp [Tryd.f15]) (by simp [PV.plain, PV.bd, PV.bdL, Ty.bd]) fun H => ?_
  refine awp_seq ?_
  -- region 0
  refine awp_run rfl (by simp only [fwA, ↓reduceIte, Nat.reduceAdd, Nat.reduceMul, Nat.reduceEqDiff, Nat.reduceLT, Nat.reduceLeDiff, reduceCtorEq, ti45, ti3, ti43, un43, pl45, fl51_0, fl51_2, ti49, el49, ti51, Sh.fw] <;> rfl) ?_
  refine awp_seq ?_
  refine awp_seq ?_
  -- region 1
  refine awp_region rfl ?_
  refine aops_run 1 (by simp only [fwA, ↓reduceIte, Nat.reduceAdd, Nat.reduceMul, Nat.reduceEqDiff, Nat.reduceLT, Nat.reduceLeDiff, reduceCtorEq, ti45, ti3, ti43, un43, pl45, fl51_0, fl51_2, ti49, el49, ti51, Sh.fw] <;> rfl) ?_
  refine aops_fn rfl rfl rfl en42 (c42 Γ s) ?_
  by_cases hr : s.Right
  rotate_left
  · have e : freshOf s n = (noTy, n) := by unfold freshOf; rw [if_neg fun h => hr h.1]
    refine aops_run 5 (by simp only [fwA, ↓reduceIte, Nat.reduceAdd, Nat.reduceMul, Nat.reduceEqDiff, Nat.reduceLT, Nat.reduceLeDiff, reduceCtorEq, hr, decide_false, Bool.not_false] <;> rfl) ?_
    refine awp_cond (by simp only [fwA, ↓reduceIte, Nat.reduceAdd, Nat.reduceMul, Nat.reduceEqDiff, Nat.reduceLT, Nat.reduceLeDiff, reduceCtorEq] <;> rfl) ?_
    refine awp_seq ?_
    refine awp_run rfl (by simp only [fwA, ↓reduceIte, Nat.reduceAdd, Nat.reduceMul, Nat.reduceEqDiff, Nat.reduceLT, Nat.reduceLeDiff, reduceCtorEq, ti45, ti3, ti43, un43, pl45, fl51_0, fl51_2, ti49, el49, ti51, Sh.fw] <;> rfl) ?_
    refine awp_told (told_leBox (H.length + 1) (cs := [.int .i64 0, .int .i64 0, .int .i64 0, .int .i64 0, .int .i64 0, .vec [] true]) (by rw [Fw.get_at]; rfl) (tleaf_le _ _ _ _ _)) ?_
    refine awp_heap (H' := H ++ [.box s.enc, .box noTy.enc]) (by rw [Fw.set_at]; rfl) ?_
    refine awp_ret ?_
    refine gives_end (.inl rfl) _ ?_
    rw [e]
    simp [ares, aresL, ares1, rd, ev, alook, aput, Tryd.f15, ti45, Ty.fw]
  by_cases hn : 0 ≤ n
  rotate_left
  · have e : freshOf s n = (noTy, n) := by unfold freshOf; rw [if_neg fun h => hn h.2]
    have hlt : n < 0 := by omega
    refine aops_run 5 (by simp only [fwA, ↓reduceIte, Nat.reduceAdd, Nat.reduceMul, Nat.reduceEqDiff, Nat.reduceLT, Nat.reduceLeDiff, reduceCtorEq, hr, hlt, decide_true, Bool.not_true] <;> rfl) ?_
    refine awp_cond (by simp only [fwA, ↓reduceIte, Nat.reduceAdd, Nat.reduceMul, Nat.reduceEqDiff, Nat.reduceLT, Nat.reduceLeDiff, reduceCtorEq] <;> rfl) ?_
    refine awp_seq ?_
    refine awp_run rfl (by simp only [fwA, ↓reduceIte, Nat.reduceAdd, Nat.reduceMul, Nat.reduceEqDiff, Nat.reduceLT, Nat.reduceLeDiff, reduceCtorEq, ti45, ti3, ti43, un43, pl45, fl51_0, fl51_2, ti49, el49, ti51, Sh.fw] <;> rfl) ?_
    refine awp_told (told_leBox (H.length + 1) (cs := [.int .i64 0, .int .i64 0, .int .i64 0, .int .i64 0, .int .i64 0, .vec [] true]) (by rw [Fw.get_at]; rfl) (tleaf_le _ _ _ _ _)) ?_
    refine awp_heap (H' := H ++ [.box s.enc, .box noTy.enc]) (by rw [Fw.set_at]; rfl) ?_
    refine awp_ret ?_
    refine gives_end (.inl rfl) _ ?_
    rw [e]
    simp [ares, aresL, ares1, rd, ev, alook, aput, Tryd.f15, ti45, Ty.fw]
  have hlt : ¬ n < 0 := by omega
  have e : freshOf s n = Ty.fresh s n := by unfold freshOf; rw [if_pos ⟨hr, hn⟩]
  refine aops_run 5 (by simp only [fwA, ↓reduceIte, Nat.reduceAdd, Nat.reduceMul, Nat.reduceEqDiff, Nat.reduceLT, Nat.reduceLeDiff, reduceCtorEq, hr, hlt, decide_true, decide_false, Bool.not_true] <;> rfl) ?_
  refine awp_cond (by simp only [fwA, ↓reduceIte, Nat.reduceAdd, Nat.reduceMul, Nat.reduceEqDiff, Nat.reduceLT, Nat.reduceLeDiff, reduceCtorEq] <;> rfl) ?_
  refine awp_skip ?_
  rw [e]
  refine awp_seq ?_
  -- region 3
  refine awp_region rfl ?_
  refine aops_run 2 (by simp only [fwA, ↓reduceIte, Nat.reduceAdd, Nat.reduceMul, Nat.reduceEqDiff, Nat.reduceLT, Nat.reduceLeDiff, reduceCtorEq, ti45, ti3, ti43, un43, pl45, fl51_0, fl51_2, ti49, el49, ti51, Sh.fw] <;> rfl) ?_
  refine aops_fn rfl rfl rfl en43 (c43 Γ s hr n) ?_
  refine aops_run 4 (by simp only [fwA, ↓reduceIte, Nat.reduceAdd, Nat.reduceMul, Nat.reduceEqDiff, Nat.reduceLT, Nat.reduceLeDiff, reduceCtorEq, ti45, ti3, ti43, un43, pl45, fl51_0, fl51_2, ti49, el49, ti51, Sh.fw, Ty.fw] <;> rfl) ?_
  refine awp_ret ?_
  refine gives_end (.inl rfl) _ ?_
  simp [ares, aresL, ares1, rd, ev, alook, aput, Tryd.f15, ti45, Ty.fw]

end Go.Proofs.YtlnffadolfkggaaDoor
