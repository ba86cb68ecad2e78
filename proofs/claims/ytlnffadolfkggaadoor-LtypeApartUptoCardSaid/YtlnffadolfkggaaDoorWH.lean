/- The law on what has to hold. -/
import Derived.Test.YtlnffadolfkggaaDoorWG
namespace Go.Proofs.YtlnffadolfkggaaDoor
set_option linter.unusedVariables false
set_option linter.unusedSimpArgs false
set_option maxRecDepth 100000
open Go.RowKit Fw

theorem sub_of {a b : Ty} (ha : a.Right) (hb : b.Right) (hs : a.shape = b.shape) : subOf a b = (subN a.w a b, true) := by unfold subOf; rw [if_pos ⟨ha, hb, hs⟩]

/-- LtypeSub -/
theorem c3 (Γ : Nat → PV) (hΓ : Tab Γ) (l : List Int) (h8 : ∀ x ∈ l, 0 ≤ x ∧ x < 256) : Gives Tryd.prog Γ 3 [.vec (l.map fun n => [.int .u8 n]) false] (.bool true) := by
  have hm := madeF_ok l
  have h10 := c10 Γ l h8
  generalize madeF l = s at hm h10
  have hcn := hm.cnt
  have hw := made_w hm
  have fr : ∀ n : Int, 0 ≤ n → n ≤ 1000 → Gives Tryd.prog Γ 11 [.agg s.enc, .int .i64 n] (.tup [.agg (Ty.fresh s n).1.enc, .int .i64 (n + s.cnt)]) := fun n h0 h1 => by
    have h11 := c11 Γ s (by omega) n
    rw [fresh_of hm.right h0, (Ty.fresh_places s n hm.right h0 (by omega)).2] at h11
    exact h11
  have f0 := fr 0 (by decide) (by decide)
  have f1 := fr (0 + s.cnt) (by omega) (by omega)
  have f2 := fr (0 + s.cnt + s.cnt) (by omega) (by omega)
  have rA := Ty.fresh_right s 0 hm.right
  have rB := Ty.fresh_right s (0 + s.cnt) hm.right
  have rC := Ty.fresh_right s (0 + s.cnt + s.cnt) hm.right
  have sA := Ty.fresh_shape s 0 hm.solid
  have sB := Ty.fresh_shape s (0 + s.cnt) hm.solid
  have sC := Ty.fresh_shape s (0 + s.cnt + s.cnt) hm.solid
  have wA := fresh_w hm 0
  have wB := fresh_w hm (0 + s.cnt)
  generalize (Ty.fresh s 0).1 = A at f0 rA sA wA
  generalize (Ty.fresh s (0 + s.cnt)).1 = B at f1 rB sB wB
  generalize (Ty.fresh s (0 + s.cnt + s.cnt)).1 = C at f2 rC sC
  generalize (0 : Int) + s.cnt = n1 at f0 f1 f2
  generalize n1 + s.cnt = n2 at f1 f2
  generalize n2 + s.cnt = n3 at f2
  have eAB : A.shape = B.shape := sA.trans sB.symm
  have eBC : B.shape = C.shape := sB.trans sC.symm
  have h12AB := c12 Γ A B (by omega)
  have h12BC := c12 Γ B C (by omega)
  have h12AC := c12 Γ A C (by omega)
  have h12AA := c12 Γ A A (by omega)
  rw [sub_of rA rB eAB] at h12AB
  rw [sub_of rB rC eBC, ← w_same eAB] at h12BC
  rw [sub_of rA rC (eAB.trans eBC)] at h12AC
  rw [sub_of rA rA rfl] at h12AA
  have h3 := sub3 A.w A B C eAB eBC
  have hqq := sub_self A.w A
  have hql := sub_len A.w A A A C rfl (eAB.trans eBC) rfl
  generalize subN A.w A B = xs at h12AB h3
  generalize subN A.w B C = ys at h12BC h3
  generalize subN A.w A C = zs at h12AC h3 hql
  generalize subN A.w A A = qs at h12AA hqq hql
  dsimp only at h12AB h12BC h12AC h12AA
  obtain ⟨hxl, hyl⟩ := h3.len
  refine fn_of_awp Tryd.func3 rfl (by simp [Tryd.f3]) rfl fun H => ?_
  refine awp_seq ?_
  refine awp_run rfl (by simp only [fwA, ↓reduceIte, Nat.reduceAdd, Nat.reduceMul, Nat.reduceEqDiff, Nat.reduceLT, Nat.reduceLeDiff, reduceCtorEq] <;> rfl) ?_
  refine awp_seq ?_
  -- region 1
  refine awp_region rfl ?_
  refine aops_fn rfl rfl rfl en9 (c9 Γ hΓ) ?_
  refine aops_run 1 (by simp only [fwA, ↓reduceIte, Nat.reduceAdd, Nat.reduceMul, Nat.reduceEqDiff, Nat.reduceLT, Nat.reduceLeDiff, reduceCtorEq] <;> rfl) ?_
  refine awp_seq ?_
  refine awp_seq ?_
  -- region 2
  refine awp_run rfl (by simp only [fwA, ↓reduceIte, Nat.reduceAdd, Nat.reduceMul, Nat.reduceEqDiff, Nat.reduceLT, Nat.reduceLeDiff, reduceCtorEq] <;> rfl) ?_
  refine awp_cond (by simp only [fwA, ↓reduceIte, Nat.reduceAdd, Nat.reduceMul, Nat.reduceEqDiff, Nat.reduceLT, Nat.reduceLeDiff, reduceCtorEq] <;> rfl) ?_
  refine awp_skip ?_
  refine awp_seq ?_
  -- region 4
  refine awp_region rfl ?_
  refine aops_run 1 (by simp only [fwA, ↓reduceIte, Nat.reduceAdd, Nat.reduceMul, Nat.reduceEqDiff, Nat.reduceLT, Nat.reduceLeDiff, reduceCtorEq] <;> rfl) ?_
  refine aops_fn rfl rfl rfl en10 h10 ?_
  refine aops_run 2 (by simp only [fwA, ↓reduceIte, Nat.reduceAdd, Nat.reduceMul, Nat.reduceEqDiff, Nat.reduceLT, Nat.reduceLeDiff, reduceCtorEq, ti31, ti26, ti3, ti28, un3, un34, el34, fl38_0, fl38_1, Sh.fw, Ty.fw, Pr.fw] <;> rfl) ?_
  refine awp_seq ?_
  -- region 5
  refine awp_region rfl ?_
  refine aops_run 1 (by simp only [fwA, ↓reduceIte, Nat.reduceAdd, Nat.reduceMul, Nat.reduceEqDiff, Nat.reduceLT, Nat.reduceLeDiff, reduceCtorEq, ti31, ti26, ti3, ti28, un3, un34, el34, fl38_0, fl38_1, Sh.fw, Ty.fw, Pr.fw] <;> rfl) ?_
  refine aops_fn rfl rfl rfl en11 f0 ?_
  refine aops_run 6 (by simp only [fwA, ↓reduceIte, Nat.reduceAdd, Nat.reduceMul, Nat.reduceEqDiff, Nat.reduceLT, Nat.reduceLeDiff, reduceCtorEq, ti31, ti26, ti3, ti28, un3, un34, el34, fl38_0, fl38_1, Sh.fw, Ty.fw, Pr.fw] <;> rfl) ?_
  refine awp_seq ?_
  -- region 6
  refine awp_region rfl ?_
  refine aops_run 2 (by simp only [fwA, ↓reduceIte, Nat.reduceAdd, Nat.reduceMul, Nat.reduceEqDiff, Nat.reduceLT, Nat.reduceLeDiff, reduceCtorEq, ti31, ti26, ti3, ti28, un3, un34, el34, fl38_0, fl38_1, Sh.fw, Ty.fw, Pr.fw] <;> rfl) ?_
  refine aops_fn rfl rfl rfl en11 f1 ?_
  refine aops_run 6 (by simp only [fwA, ↓reduceIte, Nat.reduceAdd, Nat.reduceMul, Nat.reduceEqDiff, Nat.reduceLT, Nat.reduceLeDiff, reduceCtorEq, ti31, ti26, ti3, ti28, un3, un34, el34, fl38_0, fl38_1, Sh.fw, Ty.fw, Pr.fw] <;> rfl) ?_
  refine awp_seq ?_
  -- region 7
  refine awp_region rfl ?_
  refine aops_run 2 (by simp only [fwA, ↓reduceIte, Nat.reduceAdd, Nat.reduceMul, Nat.reduceEqDiff, Nat.reduceLT, Nat.reduceLeDiff, reduceCtorEq, ti31, ti26, ti3, ti28, un3, un34, el34, fl38_0, fl38_1, Sh.fw, Ty.fw, Pr.fw] <;> rfl) ?_
  refine aops_fn rfl rfl rfl en11 f2 ?_
  refine aops_run 6 (by simp only [fwA, ↓reduceIte, Nat.reduceAdd, Nat.reduceMul, Nat.reduceEqDiff, Nat.reduceLT, Nat.reduceLeDiff, reduceCtorEq, ti31, ti26, ti3, ti28, un3, un34, el34, fl38_0, fl38_1, Sh.fw, Ty.fw, Pr.fw] <;> rfl) ?_
  refine awp_keep (A' := [(3, .bool true), (5, .ptr (H.length + 1) 0), (7, .ptr (H.length + 2) 0), (9, .ptr (H.length + 3) 0)]) [3, 5, 7, 9] (by simp [akeep, alook, aput, ev]) ?_
  refine awp_heap (H' := H ++ [.box s.enc, .box A.enc, .box B.enc, .box C.enc]) (by simp) ?_
  refine awp_seq ?_
  refine awp_region rfl ?_
  refine aops_run 2 (by simp only [fwA, ↓reduceIte, Nat.reduceAdd, Nat.reduceMul, Nat.reduceEqDiff, Nat.reduceLT, Nat.reduceLeDiff, reduceCtorEq, ti31, ti26, ti3, ti28, un3, un34, el34, fl38_0, fl38_1, Sh.fw, Ty.fw, Pr.fw] <;> rfl) ?_
  refine aops_fn rfl rfl rfl en12 h12AB ?_
  refine aops_run 5 (by simp only [fwA, ↓reduceIte, Nat.reduceAdd, Nat.reduceMul, Nat.reduceEqDiff, Nat.reduceLT, Nat.reduceLeDiff, reduceCtorEq] <;> rfl) ?_
  refine awp_seq ?_
  refine awp_region rfl ?_
  refine aops_run 2 (by simp only [fwA, ↓reduceIte, Nat.reduceAdd, Nat.reduceMul, Nat.reduceEqDiff, Nat.reduceLT, Nat.reduceLeDiff, reduceCtorEq, ti31, ti26, ti3, ti28, un3, un34, el34, fl38_0, fl38_1, Sh.fw, Ty.fw, Pr.fw] <;> rfl) ?_
  refine aops_fn rfl rfl rfl en12 h12BC ?_
  refine aops_run 5 (by simp only [fwA, ↓reduceIte, Nat.reduceAdd, Nat.reduceMul, Nat.reduceEqDiff, Nat.reduceLT, Nat.reduceLeDiff, reduceCtorEq] <;> rfl) ?_
  refine awp_seq ?_
  refine awp_region rfl ?_
  refine aops_run 2 (by simp only [fwA, ↓reduceIte, Nat.reduceAdd, Nat.reduceMul, Nat.reduceEqDiff, Nat.reduceLT, Nat.reduceLeDiff, reduceCtorEq, ti31, ti26, ti3, ti28, un3, un34, el34, fl38_0, fl38_1, Sh.fw, Ty.fw, Pr.fw] <;> rfl) ?_
  refine aops_fn rfl rfl rfl en12 h12AC ?_
  refine aops_run 5 (by simp only [fwA, ↓reduceIte, Nat.reduceAdd, Nat.reduceMul, Nat.reduceEqDiff, Nat.reduceLT, Nat.reduceLeDiff, reduceCtorEq] <;> rfl) ?_
  refine awp_seq ?_
  refine awp_region rfl ?_
  refine aops_run 2 (by simp only [fwA, ↓reduceIte, Nat.reduceAdd, Nat.reduceMul, Nat.reduceEqDiff, Nat.reduceLT, Nat.reduceLeDiff, reduceCtorEq, ti31, ti26, ti3, ti28, un3, un34, el34, fl38_0, fl38_1, Sh.fw, Ty.fw, Pr.fw] <;> rfl) ?_
  refine aops_fn rfl rfl rfl en12 h12AA ?_
  refine aops_run 5 (by simp only [fwA, ↓reduceIte, Nat.reduceAdd, Nat.reduceMul, Nat.reduceEqDiff, Nat.reduceLT, Nat.reduceLeDiff, reduceCtorEq] <;> rfl) ?_
  generalize hK : H ++ [Blk.box s.enc, Blk.box A.enc, Blk.box B.enc, Blk.box C.enc] = K
  refine awp_keep (A' := [(3, .bool true), (11, .vec (xs.map Pr.enc) false), (12, .bool true), (13, .vec (ys.map Pr.enc) false), (14, .bool true), (15, .vec (zs.map Pr.enc) false), (16, .bool true), (17, .vec (qs.map Pr.enc) false), (18, .bool true)]) [3, 11, 12, 13, 14, 15, 16, 17, 18] (by simp [akeep, alook, aput, ev]) ?_
  refine awp_seq ?_
  refine awp_seq ?_
  -- region 12
  refine awp_run rfl (by simp only [fwA, ↓reduceIte, Nat.reduceAdd, Nat.reduceMul, Nat.reduceEqDiff, Nat.reduceLT, Nat.reduceLeDiff, reduceCtorEq, ti31, ti26, ti3, ti28, un3, un34, el34, fl38_0, fl38_1, Sh.fw, Ty.fw, Pr.fw, List.length_map, hxl, hyl, hql] <;> rfl) ?_
  refine awp_cond (b := false) (by simp [alook, aput, ev]) ?_
  refine awp_skip ?_
  refine awp_seq ?_
  refine awp_seq ?_
  -- region 14
  refine awp_run rfl (by simp only [fwA, ↓reduceIte, Nat.reduceAdd, Nat.reduceMul, Nat.reduceEqDiff, Nat.reduceLT, Nat.reduceLeDiff, reduceCtorEq] <;> rfl) ?_
  refine awp_block ?_
  refine awp_for [3, 11, 13, 15, 17, 19] (fun i : Nat => [.bool true, .vec (xs.map Pr.enc) false, .vec (ys.map Pr.enc) false, .vec (zs.map Pr.enc) false, .vec (qs.map Pr.enc) false, .int .i64 (i : Int)]) (fun _ => K) (fun i => zs.length - i) (fun i => i ≤ zs.length) 0 (by simp [alook, aput, ev]) rfl (Nat.zero_le _) fun i hi => ?_
  refine awp_vlen 15 rfl fun hlen => ?_
  rw [List.length_map] at hlen
  refine awp_seq ?_
  refine awp_seq ?_
  -- region 15
  refine awp_run rfl (by simp only [fwA, ↓reduceIte, Nat.reduceAdd, Nat.reduceMul, Nat.reduceEqDiff, Nat.reduceLT, Nat.reduceLeDiff, reduceCtorEq, ti31, ti26, ti3, ti28, un3, un34, el34, fl38_0, fl38_1, Sh.fw, Ty.fw, Pr.fw, List.length_map] <;> rfl) ?_
  refine awp_cond (by simp only [fwA, ↓reduceIte, Nat.reduceAdd, Nat.reduceMul, Nat.reduceEqDiff, Nat.reduceLT, Nat.reduceLeDiff, reduceCtorEq] <;> rfl) ?_
  by_cases hc : (i : Int) < zs.length
  rotate_left
  · simp only [hc, decide_false, Bool.false_eq_true, ↓reduceIte]
    refine awp_exit ?_
    refine awp_seq (awp_run rfl (by simp only [fwA, ↓reduceIte, Nat.reduceAdd, Nat.reduceMul, Nat.reduceEqDiff, Nat.reduceLT, Nat.reduceLeDiff, reduceCtorEq] <;> rfl) (awp_ret ?_))
    subst hK
    exact gives_end (.inl rfl) _ rfl
  simp only [hc, decide_true, ↓reduceIte]
  refine awp_skip ?_
  have hiz : i < zs.length := by omega
  have gx : xs[i]? = some xs[i] := List.getElem?_eq_getElem (by omega)
  have gy : ys[i]? = some ys[i] := List.getElem?_eq_getElem (by omega)
  have gz : zs[i]? = some zs[i] := List.getElem?_eq_getElem hiz
  have gq : qs[i]? = some qs[i] := List.getElem?_eq_getElem (by omega)
  have hud := h3.get gx gy gz
  have hqi := hqq qs[i] (List.getElem_mem _)
  generalize xs[i] = x at gx hud
  generalize ys[i] = y at gy hud
  generalize zs[i] = z at gz hud
  generalize qs[i] = q at gq hqi
  refine awp_keep (A' := [(3, .bool true), (11, .vec (xs.map Pr.enc) false), (13, .vec (ys.map Pr.enc) false), (15, .vec (zs.map Pr.enc) false), (17, .vec (qs.map Pr.enc) false), (19, .int .i64 (i : Int))]) [3, 11, 13, 15, 17, 19] rfl ?_
  refine awp_seq ?_
  refine awp_block ?_
  refine awp_seq ?_
  refine awp_seq ?_
  -- region 17 drawn
  refine awp_drun [0, 0, 0, 0, 1, 0, 0, 0, 0, 1, 0] [0, 0, 3, 7, 15, 0, 0, 96, 224, 480, 1023] mixed rfl (by kernel_rfl) (by simp only [fwA, ↓reduceIte, Nat.reduceAdd, Nat.reduceMul, Nat.reduceEqDiff, Nat.reduceLT, Nat.reduceLeDiff, reduceCtorEq, ti31, ti26, ti3, ti28, un3, un34, el34, fl38_0, fl38_1, Sh.fw, Ty.fw, Pr.fw, List.getElem?_map, gx, gy, gz, gq, Option.map_some, Int.natCast_nonneg, hqi] <;> rfl) ?_
  refine awp_cond (b := false) (by simp [alook, aput, ev]) ?_
  refine awp_skip ?_
  refine awp_seq ?_
  refine AWP.mono (Q := fun e A' H' D' => e = .normal ∧ akeep [3, 11, 13, 15, 17, 19, 20] A' = [(3, .bool true), (11, .vec (xs.map Pr.enc) false), (13, .vec (ys.map Pr.enc) false), (15, .vec (zs.map Pr.enc) false), (17, .vec (qs.map Pr.enc) false), (19, .int .i64 (i : Int)), (20, .bool (decide (x.a = z.a ∧ x.b = y.a ∧ y.b = z.b)))] ∧ H' = K ∧ D' = []) ?_ fun e A' H' D' hq' => ?_
  · refine awp_drawn [0, 0, 0, 0, 1, 0, 0, 0, 0, 1, 0, 0, 0, 0, 0, 0, 1, 0, 0, 0, 0, 1, 0, 0, 0, 0, 0, 0, 0, 1, 0, 0, 0, 0, 1, 0, 0, 0] [0, 0, 3, 7, 15, 0, 0, 96, 224, 480, 1023, 2047, 4095, 4095, 16383, 32767, 65535, 4095, 4095, 397311, 921599, 1970175, 4194303, 8388607, 16777215, 33554431, 33554431, 134217727, 268435455, 536870911, 33554431, 33554431, 3254779903, 7549747199, 16139681791, 34359738367, 68719476735, 137438953471] mixed rfl (by kernel_rfl) ?_
    by_cases e1 : x.a = z.a
    rotate_left
    · have eP : decide (x.a = z.a ∧ x.b = y.a ∧ y.b = z.b) = false := decide_eq_false fun h => e1 h.1
      refine dops_run 14 (by simp only [fwA, ↓reduceIte, Nat.reduceAdd, Nat.reduceMul, Nat.reduceEqDiff, Nat.reduceLT, Nat.reduceLeDiff, reduceCtorEq, ti31, ti26, ti3, ti28, un3, un34, el34, fl38_0, fl38_1, Sh.fw, Ty.fw, Pr.fw, List.getElem?_map, gx, gy, gz, gq, Option.map_some, Int.natCast_nonneg, e1, decide_false] <;> rfl) ?_
      refine dops_run 12 (by simp only [fwA, ↓reduceIte, Nat.reduceAdd, Nat.reduceMul, Nat.reduceEqDiff, Nat.reduceLT, Nat.reduceLeDiff, reduceCtorEq, ti31, ti26, ti3, ti28, un3, un34, el34, fl38_0, fl38_1, Sh.fw, Ty.fw, Pr.fw, List.getElem?_map, gx, gy, gz, gq, Option.map_some, Int.natCast_nonneg] <;> rfl) ?_
      refine dops_run 12 (by simp only [fwA, ↓reduceIte, Nat.reduceAdd, Nat.reduceMul, Nat.reduceEqDiff, Nat.reduceLT, Nat.reduceLeDiff, reduceCtorEq, ti31, ti26, ti3, ti28, un3, un34, el34, fl38_0, fl38_1, Sh.fw, Ty.fw, Pr.fw, List.getElem?_map, gx, gy, gz, gq, Option.map_some, Int.natCast_nonneg] <;> rfl) ?_
      refine dops_end ?_
      rw [eP]
      exact ⟨rfl, rfl, rfl, rfl⟩
    by_cases e2 : x.b = y.a
    rotate_left
    · have eP : decide (x.a = z.a ∧ x.b = y.a ∧ y.b = z.b) = false := decide_eq_false fun h => e2 h.2.1
      refine dops_run 14 (by simp only [fwA, ↓reduceIte, Nat.reduceAdd, Nat.reduceMul, Nat.reduceEqDiff, Nat.reduceLT, Nat.reduceLeDiff, reduceCtorEq, ti31, ti26, ti3, ti28, un3, un34, el34, fl38_0, fl38_1, Sh.fw, Ty.fw, Pr.fw, List.getElem?_map, gx, gy, gz, gq, Option.map_some, Int.natCast_nonneg, e1, decide_true] <;> rfl) ?_
      refine dops_run 12 (by simp only [fwA, ↓reduceIte, Nat.reduceAdd, Nat.reduceMul, Nat.reduceEqDiff, Nat.reduceLT, Nat.reduceLeDiff, reduceCtorEq, ti31, ti26, ti3, ti28, un3, un34, el34, fl38_0, fl38_1, Sh.fw, Ty.fw, Pr.fw, List.getElem?_map, gx, gy, gz, gq, Option.map_some, Int.natCast_nonneg, e2, decide_false] <;> rfl) ?_
      refine dops_run 12 (by simp only [fwA, ↓reduceIte, Nat.reduceAdd, Nat.reduceMul, Nat.reduceEqDiff, Nat.reduceLT, Nat.reduceLeDiff, reduceCtorEq, ti31, ti26, ti3, ti28, un3, un34, el34, fl38_0, fl38_1, Sh.fw, Ty.fw, Pr.fw, List.getElem?_map, gx, gy, gz, gq, Option.map_some, Int.natCast_nonneg] <;> rfl) ?_
      refine dops_end ?_
      rw [eP]
      exact ⟨rfl, rfl, rfl, rfl⟩
    have eP : decide (x.a = z.a ∧ x.b = y.a ∧ y.b = z.b) = decide (y.b = z.b) := decide_eq_decide.2 ⟨fun h => h.2.2, fun h => ⟨e1, e2, h⟩⟩
    refine dops_run 14 (by simp only [fwA, ↓reduceIte, Nat.reduceAdd, Nat.reduceMul, Nat.reduceEqDiff, Nat.reduceLT, Nat.reduceLeDiff, reduceCtorEq, ti31, ti26, ti3, ti28, un3, un34, el34, fl38_0, fl38_1, Sh.fw, Ty.fw, Pr.fw, List.getElem?_map, gx, gy, gz, gq, Option.map_some, Int.natCast_nonneg, e1, decide_true] <;> rfl) ?_
    refine dops_run 12 (by simp only [fwA, ↓reduceIte, Nat.reduceAdd, Nat.reduceMul, Nat.reduceEqDiff, Nat.reduceLT, Nat.reduceLeDiff, reduceCtorEq, ti31, ti26, ti3, ti28, un3, un34, el34, fl38_0, fl38_1, Sh.fw, Ty.fw, Pr.fw, List.getElem?_map, gx, gy, gz, gq, Option.map_some, Int.natCast_nonneg, e2, decide_true] <;> rfl) ?_
    refine dops_run 12 (by simp only [fwA, ↓reduceIte, Nat.reduceAdd, Nat.reduceMul, Nat.reduceEqDiff, Nat.reduceLT, Nat.reduceLeDiff, reduceCtorEq, ti31, ti26, ti3, ti28, un3, un34, el34, fl38_0, fl38_1, Sh.fw, Ty.fw, Pr.fw, List.getElem?_map, gx, gy, gz, gq, Option.map_some, Int.natCast_nonneg] <;> rfl) ?_
    refine dops_end ?_
    rw [eP]
    exact ⟨rfl, rfl, rfl, rfl⟩
  obtain ⟨rfl, hA, hH, rfl⟩ := hq'
  rw [hH]
  refine awp_keep _ hA ?_
  generalize hbu : decide (x.a = z.a ∧ x.b = y.a ∧ y.b = z.b) = bu
  refine awp_seq ?_
  refine AWP.mono (Q := fun e A' H' D' => e = .normal ∧ akeep [3, 11, 13, 15, 17, 19, 20, 21] A' = [(3, .bool true), (11, .vec (xs.map Pr.enc) false), (13, .vec (ys.map Pr.enc) false), (15, .vec (zs.map Pr.enc) false), (17, .vec (qs.map Pr.enc) false), (19, .int .i64 (i : Int)), (20, .bool bu), (21, .bool (decide (y.a = z.a ∧ y.b = x.a ∧ x.b = z.b)))] ∧ H' = K ∧ D' = []) ?_ fun e A' H' D' hq' => ?_
  · refine awp_drawn [0, 0, 0, 0, 1, 0, 0, 0, 0, 1, 0, 0, 0, 0, 0, 0, 1, 0, 0, 0, 0, 1, 0, 0, 0, 0, 0, 0, 0, 1, 0, 0, 0, 0, 1, 0, 0, 0] [0, 0, 3, 7, 15, 0, 0, 96, 224, 480, 1023, 2047, 4095, 4095, 16383, 32767, 65535, 4095, 4095, 397311, 921599, 1970175, 4194303, 8388607, 16777215, 33554431, 33554431, 134217727, 268435455, 536870911, 33554431, 33554431, 3254779903, 7549747199, 16139681791, 34359738367, 68719476735, 137438953471] mixed rfl (by kernel_rfl) ?_
    by_cases e1 : y.a = z.a
    rotate_left
    · have eP : decide (y.a = z.a ∧ y.b = x.a ∧ x.b = z.b) = false := decide_eq_false fun h => e1 h.1
      refine dops_run 14 (by simp only [fwA, ↓reduceIte, Nat.reduceAdd, Nat.reduceMul, Nat.reduceEqDiff, Nat.reduceLT, Nat.reduceLeDiff, reduceCtorEq, ti31, ti26, ti3, ti28, un3, un34, el34, fl38_0, fl38_1, Sh.fw, Ty.fw, Pr.fw, List.getElem?_map, gx, gy, gz, gq, Option.map_some, Int.natCast_nonneg, e1, decide_false] <;> rfl) ?_
      refine dops_run 12 (by simp only [fwA, ↓reduceIte, Nat.reduceAdd, Nat.reduceMul, Nat.reduceEqDiff, Nat.reduceLT, Nat.reduceLeDiff, reduceCtorEq, ti31, ti26, ti3, ti28, un3, un34, el34, fl38_0, fl38_1, Sh.fw, Ty.fw, Pr.fw, List.getElem?_map, gx, gy, gz, gq, Option.map_some, Int.natCast_nonneg] <;> rfl) ?_
      refine dops_run 12 (by simp only [fwA, ↓reduceIte, Nat.reduceAdd, Nat.reduceMul, Nat.reduceEqDiff, Nat.reduceLT, Nat.reduceLeDiff, reduceCtorEq, ti31, ti26, ti3, ti28, un3, un34, el34, fl38_0, fl38_1, Sh.fw, Ty.fw, Pr.fw, List.getElem?_map, gx, gy, gz, gq, Option.map_some, Int.natCast_nonneg] <;> rfl) ?_
      refine dops_end ?_
      rw [eP]
      exact ⟨rfl, rfl, rfl, rfl⟩
    by_cases e2 : y.b = x.a
    rotate_left
    · have eP : decide (y.a = z.a ∧ y.b = x.a ∧ x.b = z.b) = false := decide_eq_false fun h => e2 h.2.1
      refine dops_run 14 (by simp only [fwA, ↓reduceIte, Nat.reduceAdd, Nat.reduceMul, Nat.reduceEqDiff, Nat.reduceLT, Nat.reduceLeDiff, reduceCtorEq, ti31, ti26, ti3, ti28, un3, un34, el34, fl38_0, fl38_1, Sh.fw, Ty.fw, Pr.fw, List.getElem?_map, gx, gy, gz, gq, Option.map_some, Int.natCast_nonneg, e1, decide_true] <;> rfl) ?_
      refine dops_run 12 (by simp only [fwA, ↓reduceIte, Nat.reduceAdd, Nat.reduceMul, Nat.reduceEqDiff, Nat.reduceLT, Nat.reduceLeDiff, reduceCtorEq, ti31, ti26, ti3, ti28, un3, un34, el34, fl38_0, fl38_1, Sh.fw, Ty.fw, Pr.fw, List.getElem?_map, gx, gy, gz, gq, Option.map_some, Int.natCast_nonneg, e2, decide_false] <;> rfl) ?_
      refine dops_run 12 (by simp only [fwA, ↓reduceIte, Nat.reduceAdd, Nat.reduceMul, Nat.reduceEqDiff, Nat.reduceLT, Nat.reduceLeDiff, reduceCtorEq, ti31, ti26, ti3, ti28, un3, un34, el34, fl38_0, fl38_1, Sh.fw, Ty.fw, Pr.fw, List.getElem?_map, gx, gy, gz, gq, Option.map_some, Int.natCast_nonneg] <;> rfl) ?_
      refine dops_end ?_
      rw [eP]
      exact ⟨rfl, rfl, rfl, rfl⟩
    have eP : decide (y.a = z.a ∧ y.b = x.a ∧ x.b = z.b) = decide (x.b = z.b) := decide_eq_decide.2 ⟨fun h => h.2.2, fun h => ⟨e1, e2, h⟩⟩
    refine dops_run 14 (by simp only [fwA, ↓reduceIte, Nat.reduceAdd, Nat.reduceMul, Nat.reduceEqDiff, Nat.reduceLT, Nat.reduceLeDiff, reduceCtorEq, ti31, ti26, ti3, ti28, un3, un34, el34, fl38_0, fl38_1, Sh.fw, Ty.fw, Pr.fw, List.getElem?_map, gx, gy, gz, gq, Option.map_some, Int.natCast_nonneg, e1, decide_true] <;> rfl) ?_
    refine dops_run 12 (by simp only [fwA, ↓reduceIte, Nat.reduceAdd, Nat.reduceMul, Nat.reduceEqDiff, Nat.reduceLT, Nat.reduceLeDiff, reduceCtorEq, ti31, ti26, ti3, ti28, un3, un34, el34, fl38_0, fl38_1, Sh.fw, Ty.fw, Pr.fw, List.getElem?_map, gx, gy, gz, gq, Option.map_some, Int.natCast_nonneg, e2, decide_true] <;> rfl) ?_
    refine dops_run 12 (by simp only [fwA, ↓reduceIte, Nat.reduceAdd, Nat.reduceMul, Nat.reduceEqDiff, Nat.reduceLT, Nat.reduceLeDiff, reduceCtorEq, ti31, ti26, ti3, ti28, un3, un34, el34, fl38_0, fl38_1, Sh.fw, Ty.fw, Pr.fw, List.getElem?_map, gx, gy, gz, gq, Option.map_some, Int.natCast_nonneg] <;> rfl) ?_
    refine dops_end ?_
    rw [eP]
    exact ⟨rfl, rfl, rfl, rfl⟩
  obtain ⟨rfl, hA, hH, rfl⟩ := hq'
  rw [hH]
  refine awp_keep _ hA ?_
  refine awp_seq ?_
  -- region 21
  rcases Classical.em (x.a = z.a ∧ x.b = y.a ∧ y.b = z.b) with hu | hu
  · have hbt : bu = true := by rw [← hbu]; exact decide_eq_true hu
    subst hbt
    refine awp_run rfl (by simp only [fwA, ↓reduceIte, Nat.reduceAdd, Nat.reduceMul, Nat.reduceEqDiff, Nat.reduceLT, Nat.reduceLeDiff, reduceCtorEq] <;> rfl) ?_
    refine awp_cond (by simp only [fwA, ↓reduceIte, Nat.reduceAdd, Nat.reduceMul, Nat.reduceEqDiff, Nat.reduceLT, Nat.reduceLeDiff, reduceCtorEq] <;> rfl) ?_
    refine awp_skip ?_
    refine awp_run rfl (by simp only [fwA, ↓reduceIte, Nat.reduceAdd, Nat.reduceMul, Nat.reduceEqDiff, Nat.reduceLT, Nat.reduceLeDiff, reduceCtorEq] <;> rfl) ?_
    exact ⟨i + 1, by omega, by omega, by rw [wrapS i (by omega)]; rfl, rfl, rfl⟩
  · have hd : y.a = z.a ∧ y.b = x.a ∧ x.b = z.b := hud.resolve_left hu
    have hbf : bu = false := by rw [← hbu]; exact decide_eq_false hu
    subst hbf
    refine awp_run rfl (by simp only [fwA, ↓reduceIte, Nat.reduceAdd, Nat.reduceMul, Nat.reduceEqDiff, Nat.reduceLT, Nat.reduceLeDiff, reduceCtorEq, decide_eq_true hd] <;> rfl) ?_
    refine awp_cond (by simp only [fwA, ↓reduceIte, Nat.reduceAdd, Nat.reduceMul, Nat.reduceEqDiff, Nat.reduceLT, Nat.reduceLeDiff, reduceCtorEq] <;> rfl) ?_
    refine awp_skip ?_
    refine awp_run rfl (by simp only [fwA, ↓reduceIte, Nat.reduceAdd, Nat.reduceMul, Nat.reduceEqDiff, Nat.reduceLT, Nat.reduceLeDiff, reduceCtorEq] <;> rfl) ?_
    exact ⟨i + 1, by omega, by omega, by rw [wrapS i (by omega)]; rfl, rfl, rfl⟩

end Go.Proofs.YtlnffadolfkggaaDoor
