/- The contract of the document's pairs as they are read. -/
import Derived.Test.YtdacialfjlcboaaGreatDoorR10q
namespace Go.Proofs.YtdacialfjlcboaaGreatDoor
set_option linter.unusedVariables false
set_option linter.unusedSimpArgs false
set_option maxRecDepth 100000
open Go.RowKit Fw

theorem join_cons2 (t u : List UInt8) (ts : List (List UInt8)) (sep : List UInt8) : Lib.join (t :: u :: ts) sep = t ++ sep ++ Lib.join (u :: ts) sep := by
  simp [Lib.join, List.intercalate, List.intersperse]
theorem join_snoc (sep t : List UInt8) : ∀ ts : List (List UInt8), Lib.join (ts ++ [t]) sep = Lib.join ts sep ++ (if ts = [] then [] else sep) ++ t
  | [] => by rw [List.nil_append, Lib.join_one, if_pos rfl]; simp [Lib.join, List.intercalate]
  | [u] => by rw [if_neg (by simp), Lib.join_one, List.singleton_append, join_cons2, Lib.join_one]
  | u :: v :: ts => by
    rw [if_neg (by simp)]
    have h := join_snoc sep t (v :: ts)
    rw [if_neg (by simp)] at h
    rw [List.cons_append, List.cons_append, join_cons2, join_cons2]
    rw [List.cons_append] at h
    rw [h]; simp
theorem pairT_ne (names : List (List UInt8)) (p : Pr) : pairT names p ≠ [] := by unfold pairT; simp
theorem join_ne {sep : List UInt8} : ∀ (t : List UInt8) (ts : List (List UInt8)), t ≠ [] → Lib.join (t :: ts) sep ≠ []
  | t, [], h => by rw [Lib.join_one]; exact h
  | t, u :: ts, h => by rw [join_cons2]; simp [h]

set_option maxHeartbeats 1000000 in
/- chancel/chancelref10.Texts -/
theorem c31 (Γ : Nat → PV) (names : List (List UInt8)) (ps : List Pr) (hl : ps.length ≤ 2000000) (ho : OkP ps) (hB : ∀ s ∈ names, s.length ≤ 2000000) :
    Gives Tryz.prog Γ 31 [.vec (names.map fun s => [.str s]) false, .vec (ps.map Pr.enc) false] (.str (textsL names ps)) := by
  refine fn_of_awp Tryz.func31 rfl (by simp [Tryz.f31]) rfl fun H => ?_
  refine awp_seq ?_
  refine awp_run rfl (by simp only [fwA, ↓reduceIte, Nat.reduceAdd, Nat.reduceMul, Nat.reduceEqDiff, Nat.reduceLT, Nat.reduceLeDiff, reduceCtorEq] <;> rfl) ?_
  refine awp_seq ?_
  refine awp_run rfl (by simp only [fwA, ↓reduceIte, Nat.reduceAdd, Nat.reduceMul, Nat.reduceEqDiff, Nat.reduceLT, Nat.reduceLeDiff, reduceCtorEq] <;> rfl) ?_
  refine awp_seq ?_
  refine awp_seq ?_
  refine awp_run rfl (by simp only [fwA, ↓reduceIte, Nat.reduceAdd, Nat.reduceMul, Nat.reduceEqDiff, Nat.reduceLT, Nat.reduceLeDiff, reduceCtorEq] <;> rfl) ?_
  refine awp_block ?_
  refine awp_for [0, 1, 5, 6] (fun i : Nat => [.vec (names.map fun s => [.str s]) false, .vec (ps.map Pr.enc) false, .str (Lib.join ((ps.take i).map (pairT names)) [44, 32]), .int .i64 (i : Int)]) (fun _ => H) (fun i => ps.length - i) (fun i => i ≤ ps.length) 0 rfl rfl (Nat.zero_le _) fun i hi => ?_
  refine awp_seq ?_
  refine awp_seq ?_
  refine awp_run rfl (by simp only [fwA, ↓reduceIte, Nat.reduceAdd, Nat.reduceMul, Nat.reduceEqDiff, Nat.reduceLT, Nat.reduceLeDiff, reduceCtorEq, Pr.fw, un27, ti60, ti3, el27, fl60_0, fl60_1, List.length_map, List.getElem?_map, Option.map_some, Int.natCast_nonneg] <;> rfl) ?_
  refine awp_cond (by simp only [fwA, ↓reduceIte, Nat.reduceAdd, Nat.reduceMul, Nat.reduceEqDiff, Nat.reduceLT, Nat.reduceLeDiff, reduceCtorEq] <;> rfl) ?_
  by_cases hc : (i : Int) < ps.length
  rotate_left
  · simp only [hc, decide_false, Bool.false_eq_true, ↓reduceIte]
    refine awp_exit ?_
    have e : i = ps.length := by omega
    subst e
    rw [List.take_length]
    refine awp_seq ?_
    refine awp_seq ?_
    refine awp_run rfl (by simp only [fwA, ↓reduceIte, Nat.reduceAdd, Nat.reduceMul, Nat.reduceEqDiff, Nat.reduceLT, Nat.reduceLeDiff, reduceCtorEq] <;> rfl) ?_
    by_cases h0 : ps = []
    · refine awp_cond (b := true) (by rw [h0]; simp [alook, aput, ev, Lib.join, List.intercalate]) ?_
      refine awp_seq ?_
      refine awp_run rfl (by simp only [fwA, ↓reduceIte, Nat.reduceAdd, Nat.reduceMul, Nat.reduceEqDiff, Nat.reduceLT, Nat.reduceLeDiff, reduceCtorEq] <;> rfl) ?_
      refine awp_ret ?_
      exact gives_end0 (.inl rfl) (by unfold textsL; rw [if_pos h0]; rfl)
    · have hne : Lib.join (ps.map (pairT names)) [44, 32] ≠ [] := by
        cases ps with
        | nil => exact absurd rfl h0
        | cons p ps => exact join_ne _ _ (pairT_ne names p)
      refine awp_cond (b := false) (by simp [alook, aput, ev, hne]) (awp_skip ?_)
      refine awp_seq ?_
      refine awp_run rfl (by simp only [fwA, ↓reduceIte, Nat.reduceAdd, Nat.reduceMul, Nat.reduceEqDiff, Nat.reduceLT, Nat.reduceLeDiff, reduceCtorEq] <;> rfl) ?_
      refine awp_ret ?_
      exact gives_end0 (.inl rfl) (by unfold textsL; rw [if_neg h0]; rfl)
  simp only [hc, decide_true, ↓reduceIte]
  refine awp_skip ?_
  have hil : i < ps.length := by omega
  have ga : ps[i]? = some ps[i] := List.getElem?_eq_getElem hil
  obtain ⟨hoa, hob⟩ := ho ps[i] (List.getElem_mem hil)
  have h1 := atomT_len hB hoa
  have h2 := atomT_len hB hob
  have hj := join_len (sep := [44, 32]) (B := 4000048) ((ps.take i).map (pairT names)) (fun t ht => by
    obtain ⟨p, hp, rfl⟩ := List.mem_map.1 ht
    have := pairT_len hB (ho p (List.mem_of_mem_take hp)); omega)
  rw [List.length_map, List.length_take] at hj
  have hj2 : min i ps.length * (4000048 + 2) ≤ 2000000 * (4000048 + 2) := Nat.mul_le_mul_right _ (by omega)
  have hJ0 : ((ps.take i).map (pairT names) = []) ↔ ¬ 0 < i := by
    rw [List.map_eq_nil_iff, List.take_eq_nil_iff]
    constructor
    · rintro (h | h)
      · omega
      · rw [h] at hil; simp at hil
    · intro h; left; omega
  have hmp : ((ps.take (i + 1)).map (pairT names)) = ((ps.take i).map (pairT names)) ++ [pairT names ps[i]] := by rw [List.take_add_one, ga, List.map_append]; rfl
  have hst := join_snoc [44, 32] (pairT names ps[i]) ((ps.take i).map (pairT names))
  rw [← hmp] at hst
  have hJl : (Lib.join ((ps.take i).map (pairT names)) [44, 32]).length ≤ 9000000000000 := Nat.le_trans hj (Nat.le_trans hj2 (by decide))
  have hq0 : (Lib.join ((ps.take i).map (pairT names)) [44, 32]).length ≤ 9223372036854775805 := by omega
  refine awp_seq ?_
  refine awp_block ?_
  refine awp_join [0, 1, 5, 6] (fun X : List UInt8 => [.vec (names.map fun s => [.str s]) false, .vec (ps.map Pr.enc) false, .str X, .int .i64 (i : Int)]) (fun _ => H) (fun X => X = Lib.join ((ps.take i).map (pairT names)) [44, 32] ++ (if (ps.take i).map (pairT names) = [] then [] else [44, 32])) ?_ fun X hX => ?_
  · refine awp_seq ?_
    by_cases h0 : 0 < i
    · have h0' : (0 : Int) < (i : Int) := by omega
      refine awp_run rfl (by simp only [fwA, ↓reduceIte, Nat.reduceAdd, Nat.reduceMul, Nat.reduceEqDiff, Nat.reduceLT, Nat.reduceLeDiff, reduceCtorEq, Pr.fw, un27, ti60, ti3, el27, fl60_0, fl60_1, List.length_map, List.getElem?_map, Option.map_some, Int.natCast_nonneg, h0', decide_true] <;> rfl) ?_
      refine awp_cond (b := true) (by simp [alook, aput, ev]) ?_
      refine awp_run rfl (by simp only [fwA, ↓reduceIte, Nat.reduceAdd, Nat.reduceMul, Nat.reduceEqDiff, Nat.reduceLT, Nat.reduceLeDiff, reduceCtorEq, List.length_cons, List.length_nil, hq0] <;> rfl) ?_
      exact ⟨_, by rw [if_neg (fun h => hJ0.1 h h0)], rfl, rfl, rfl⟩
    · have h0' : ¬ (0 : Int) < (i : Int) := by omega
      refine awp_run rfl (by simp only [fwA, ↓reduceIte, Nat.reduceAdd, Nat.reduceMul, Nat.reduceEqDiff, Nat.reduceLT, Nat.reduceLeDiff, reduceCtorEq, Pr.fw, un27, ti60, ti3, el27, fl60_0, fl60_1, List.length_map, List.getElem?_map, Option.map_some, Int.natCast_nonneg, h0', decide_false] <;> rfl) ?_
      refine awp_cond (b := false) (by simp [alook, aput, ev]) (awp_skip ?_)
      exact ⟨_, by rw [if_pos (hJ0.2 h0), List.append_nil], rfl, rfl, rfl⟩
  rw [← hX] at hst
  have hXl : X.length ≤ 9000000000002 := by
    rw [hX, List.length_append]
    split <;> simp only [List.length_cons, List.length_nil] <;> omega
  generalize ps[i] = p at ga hoa hob h1 h2 hst
  have hq1 : X.length + (atomT names p.a).length ≤ 9223372036854775807 := by omega
  have hq2 : X.length + (atomT names p.a).length + 4 ≤ 9223372036854775807 := by omega
  have hq3 : X.length + (atomT names p.a).length + 4 + (atomT names p.b).length ≤ 9223372036854775807 := by omega
  refine awp_drawn [0, 0, 0, 0, 0, 0, 1, 0, 0, 0, 0, 0, 0, 0, 0, 1, 0, 0, 0] [0, 0, 0, 0, 12, 28, 60, 126, 255, 511, 0, 0, 0, 6144, 14336, 30720, 64766, 131071, 262143] mixed rfl (by kernel_rfl) ?_
  refine dops_run 7 (by simp only [fwA, ↓reduceIte, Nat.reduceAdd, Nat.reduceMul, Nat.reduceEqDiff, Nat.reduceLT, Nat.reduceLeDiff, reduceCtorEq, Pr.fw, un27, ti60, ti3, el27, fl60_0, fl60_1, List.length_map, List.getElem?_map, Option.map_some, Int.natCast_nonneg, ga] <;> rfl) ?_
  refine dops_fn rfl rfl rfl rfl en29 (c29 Γ names _ hoa) ?_
  refine dops_run 8 (by simp only [fwA, ↓reduceIte, Nat.reduceAdd, Nat.reduceMul, Nat.reduceEqDiff, Nat.reduceLT, Nat.reduceLeDiff, reduceCtorEq, Pr.fw, un27, ti60, ti3, el27, fl60_0, fl60_1, List.length_map, List.getElem?_map, Option.map_some, Int.natCast_nonneg, ga, List.length_append, List.length_cons, List.length_nil, hq1, hq2] <;> rfl) ?_
  refine dops_fn rfl rfl rfl rfl en29 (c29 Γ names _ hob) ?_
  refine dops_run 2 (by simp only [fwA, ↓reduceIte, Nat.reduceAdd, Nat.reduceMul, Nat.reduceEqDiff, Nat.reduceLT, Nat.reduceLeDiff, reduceCtorEq, Pr.fw, un27, ti60, ti3, el27, fl60_0, fl60_1, List.length_map, List.getElem?_map, Option.map_some, Int.natCast_nonneg, List.length_append, List.length_cons, List.length_nil, hq3] <;> rfl) ?_
  refine dops_end ?_
  refine awp_run rfl (by simp only [fwA, ↓reduceIte, Nat.reduceAdd, Nat.reduceMul, Nat.reduceEqDiff, Nat.reduceLT, Nat.reduceLeDiff, reduceCtorEq] <;> rfl) ?_
  refine ⟨i + 1, by omega, by omega, ?_, rfl, rfl⟩
  rw [hst, wrapS i (by omega)]
  simp only [fwA, ↓reduceIte, Nat.reduceAdd, Nat.reduceMul, Nat.reduceEqDiff, Nat.reduceLT, Nat.reduceLeDiff, reduceCtorEq, List.map_cons, List.map_nil, pairT, List.append_assoc]

end Go.Proofs.YtdacialfjlcboaaGreatDoor
