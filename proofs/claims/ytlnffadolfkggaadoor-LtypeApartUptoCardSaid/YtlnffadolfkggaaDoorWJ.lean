/- Places and Sub with the rows that they hand on. -/
import Derived.Test.YtlnffadolfkggaaDoorWF
namespace Go.Proofs.YtlnffadolfkggaaDoor
set_option linter.unusedVariables false
set_option linter.unusedSimpArgs false
set_option maxRecDepth 100000
open Go.RowKit Fw

/-- ltype.sub, its row handed on -/
theorem c41r (Γ : Nat → PV) (n : Nat) (a b : Ty) (hwn : a.w ≤ n + 1) (hw : a.w ≤ 1000000000) (ha : a.Right) (hb : b.Right) (hs : a.shape = b.shape) (H : List Blk) :
    ACalls Tryd.prog Γ 41 [.agg a.enc, .agg b.enc] H (fun p H' => p = .row (H.length + 2) 0 (subN (n + 1) a b).length 2 ∧ H' = H ++ [.box a.enc, .box b.enc, .row 2 (((subN (n + 1) a b).map Pr.enc).flatten)]) := by
  have hlen := subN_len (n + 1) a b ha hb hs
  have hso := subN_eq n a b
  refine acalls_of_awp Tryd.func41 rfl (by simp [Tryd.f41]) fun hbd => ?_
  refine awp_seq ?_
  -- region 0
  refine awp_run rfl (by simp only [fwA, ↓reduceIte, Nat.reduceAdd, Nat.reduceMul, Nat.reduceEqDiff, Nat.reduceLT, Nat.reduceLeDiff, reduceCtorEq] <;> rfl) ?_
  refine awp_seq ?_
  -- region 1
  refine awp_region rfl ?_
  refine aops_run 5 (by simp only [fwA, ↓reduceIte, Nat.reduceAdd, Nat.reduceMul, Nat.reduceEqDiff, Nat.reduceLT, Nat.reduceLeDiff, reduceCtorEq, ti31, fl31_1, ti28, fl31_0, ti3, fl31_2, fl31_3, fl31_4, fl31_5, ti29, un29, el29, un42, ti42, Ty.fw] <;> rfl) ?_
  refine aops_call rfl rfl rfl en59 ((c59r Γ [a.l, b.l] true (by simp) _).mono fun p H' hp => ?_)
  obtain ⟨rfl, rfl⟩ := hp
  refine aops_run 1 (by simp only [fwA, ↓reduceIte, Nat.reduceAdd, Nat.reduceMul, Nat.reduceEqDiff, Nat.reduceLT, Nat.reduceLeDiff, reduceCtorEq] <;> rfl) ?_
  refine awp_keep (A' := [(2, .ptr H.length 0), (3, .ptr (H.length + 1) 0), (5, .row (H.length + 2) 0 1 2)]) [2, 3, 5] (by simp [akeep, alook, aput, ev, prs]) ?_
  refine awp_heap (H' := H ++ [.box a.enc, .box b.enc, .row 2 ((([⟨a.l, b.l⟩] : List Pr).map Pr.enc).flatten)]) (by simp [prs]) ?_
  refine awp_seq ?_
  refine AWP.mono (Q := fun e A' H' D' => e = .normal ∧ akeep [2, 3, 5] A' = [(2, .ptr H.length 0), (3, .ptr (H.length + 1) 0), (5, .row (H.length + 2) 0 (subN (n + 1) a b).length 2)] ∧ H' = H ++ [.box a.enc, .box b.enc, .row 2 (((subN (n + 1) a b).map Pr.enc).flatten)] ∧ D' = []) ?_ fun e A' H' D' hq => ?_
  · refine awp_seq ?_
    -- region 2
    refine awp_run rfl (by simp only [fwA, ↓reduceIte, Nat.reduceAdd, Nat.reduceMul, Nat.reduceEqDiff, Nat.reduceLT, Nat.reduceLeDiff, reduceCtorEq, ti31, fl31_1, ti28, fl31_0, ti3, fl31_2, fl31_3, fl31_4, fl31_5, ti29, un29, el29, un42, ti42, Ty.fw] <;> rfl) ?_
    refine awp_block ?_
    refine awp_seq ?_
    refine awp_run rfl (by simp only [fwA, ↓reduceIte, Nat.reduceAdd, Nat.reduceMul, Nat.reduceEqDiff, Nat.reduceLT, Nat.reduceLeDiff, reduceCtorEq] <;> rfl) ?_
    refine awp_cond (by simp only [fwA, ↓reduceIte, Nat.reduceAdd, Nat.reduceMul, Nat.reduceEqDiff, Nat.reduceLT, Nat.reduceLeDiff, reduceCtorEq] <;> rfl) ?_
    by_cases k2 : a.kind = 2
    · simp only [k2, decide_true, ↓reduceIte]
      have e1 : subN (n + 1) a b = [⟨a.l, b.l⟩] ++ [⟨a.c, b.c⟩, ⟨b.c, a.c⟩] := by rw [hso, if_neg (by omega), List.append_nil]; unfold own1; rw [if_pos k2]; rfl
      -- region 4
      refine awp_region rfl ?_
      refine aops_run 10 (by simp only [fwA, ↓reduceIte, Nat.reduceAdd, Nat.reduceMul, Nat.reduceEqDiff, Nat.reduceLT, Nat.reduceLeDiff, reduceCtorEq, ti31, fl31_1, ti28, fl31_0, ti3, fl31_2, fl31_3, fl31_4, fl31_5, ti29, un29, el29, un42, ti42, Ty.fw] <;> rfl) ?_
      refine aops_fnLe rfl rfl rfl en59 (c59 Γ [a.c, b.c, b.c, a.c] (by simp)) ⟨⟨nofun, PV.leLL_refl _⟩, trivial⟩ ?_
      refine aops_one rfl (os_appendR (b := H.length + 2) (q := 0) (k := 1) (n := 2) (cs := (([⟨a.l, b.l⟩] : List Pr).map Pr.enc).flatten) (xs := (([⟨a.c, b.c⟩, ⟨b.c, a.c⟩] : List Pr).map Pr.enc).flatten) rfl un34 ti38 un34 (.inl ⟨_, rfl⟩) rfl (by simp only [fwA, ↓reduceIte, Nat.reduceAdd, Nat.reduceMul, Nat.reduceEqDiff, Nat.reduceLT, Nat.reduceLeDiff, reduceCtorEq] <;> rfl) (flatP_len _) (by simp only [fwA, ↓reduceIte, Nat.reduceAdd, Nat.reduceMul, Nat.reduceEqDiff, Nat.reduceLT, Nat.reduceLeDiff, reduceCtorEq] <;> rfl) (fun es f h e he => by
          simp only [fwA, ↓reduceIte, Nat.reduceAdd, Nat.reduceMul, Nat.reduceEqDiff, Nat.reduceLT, Nat.reduceLeDiff, reduceCtorEq, PV.vec.injEq] at h
          obtain ⟨rfl, rfl⟩ := h
          obtain ⟨x, _, rfl⟩ := List.mem_map.1 he
          rfl) rfl (by show (1 + 2) * 16 ≤ _; omega) (by show 1 + 2 ≤ _; omega) ?_)
      refine aops_run 1 (by simp only [fwA, ↓reduceIte, Nat.reduceAdd, Nat.reduceMul, Nat.reduceEqDiff, Nat.reduceLT, Nat.reduceLeDiff, reduceCtorEq] <;> rfl) ?_
      refine ⟨rfl, by rw [e1]; rfl, ?_, rfl⟩
      rw [e1]
      simp [Pr.enc, prs]
    simp only [k2, decide_false, Bool.false_eq_true, ↓reduceIte]
    refine awp_seq ?_
    refine awp_run rfl (by simp only [fwA, ↓reduceIte, Nat.reduceAdd, Nat.reduceMul, Nat.reduceEqDiff, Nat.reduceLT, Nat.reduceLeDiff, reduceCtorEq] <;> rfl) ?_
    refine awp_cond (by simp only [fwA, ↓reduceIte, Nat.reduceAdd, Nat.reduceMul, Nat.reduceEqDiff, Nat.reduceLT, Nat.reduceLeDiff, reduceCtorEq] <;> rfl) ?_
    have e1 : own1 a b = [⟨a.l, b.l⟩] := by unfold own1; rw [if_neg k2]
    rw [e1] at hso
    by_cases k3 : a.kind = 3
    rotate_left
    · simp only [k3, decide_false, Bool.false_eq_true, ↓reduceIte]
      refine awp_skip ?_
      rw [if_neg k3, List.append_nil] at hso
      rw [hso]
      exact ⟨rfl, rfl, rfl, rfl⟩
    simp only [k3, decide_true, ↓reduceIte]
    rw [if_pos k3] at hso
    have kb : b.kind = 3 := by rw [← kind_shape hs]; exact k3
    have la := kids_two ha k3
    have lb := kids_two hb kb
    have wa := Ty.w_two la
    have s0 := kid_shape hs 0
    have s1 := kid_shape hs 1
    have e0 := w_same s0
    have ra0 := ha.kids _ (kid_mem (t := a) (i := 0) (by omega))
    have ra1 := ha.kids _ (kid_mem (t := a) (i := 1) (by omega))
    have rb0 := hb.kids _ (kid_mem (t := b) (i := 0) (by omega))
    have rb1 := hb.kids _ (kid_mem (t := b) (i := 1) (by omega))
    have i0 := c41 Γ n (kid b 0) (kid a 0) (by omega) (by omega) rb0 ra0 s0.symm
    have i1 := c41 Γ n (kid a 1) (kid b 1) (by omega) (by omega) ra1 rb1 s1
    have l0 := subN_len n (kid b 0) (kid a 0) rb0 ra0 s0.symm
    have l1 := subN_len n (kid a 1) (kid b 1) ra1 rb1 s1
    have ga0 : (a.kids.map Ty.enc)[Int.toNat 0]? = some (kid a 0).enc := by rw [List.getElem?_map]; show (a.kids[0]?).map _ = _; rw [kid_get (by omega)]; rfl
    have ga1 : (a.kids.map Ty.enc)[Int.toNat 1]? = some (kid a 1).enc := by rw [List.getElem?_map]; show (a.kids[1]?).map _ = _; rw [kid_get (by omega)]; rfl
    have gb0 : (b.kids.map Ty.enc)[Int.toNat 0]? = some (kid b 0).enc := by rw [List.getElem?_map]; show (b.kids[0]?).map _ = _; rw [kid_get (by omega)]; rfl
    have gb1 : (b.kids.map Ty.enc)[Int.toNat 1]? = some (kid b 1).enc := by rw [List.getElem?_map]; show (b.kids[1]?).map _ = _; rw [kid_get (by omega)]; rfl
    generalize subN n (kid b 0) (kid a 0) = u0 at i0 l0 hso
    generalize subN n (kid a 1) (kid b 1) = u1 at i1 l1 hso
    refine awp_seq ?_
    -- region 6
    refine awp_region rfl ?_
    refine aops_run 10 (by simp only [fwA, ↓reduceIte, Nat.reduceAdd, Nat.reduceMul, Nat.reduceEqDiff, Nat.reduceLT, Nat.reduceLeDiff, reduceCtorEq, ti31, fl31_1, ti28, fl31_0, ti3, fl31_2, fl31_3, fl31_4, fl31_5, ti29, un29, el29, un42, ti42, Ty.fw] <;> rfl) ?_
    refine aops_fnLe rfl rfl rfl en59 (c59 Γ [b.pc, a.pc, a.x, b.x] (by simp)) ⟨⟨nofun, PV.leLL_refl _⟩, trivial⟩ ?_
    refine aops_one rfl (os_appendR (b := H.length + 2) (q := 0) (k := 1) (n := 2) (cs := (([⟨a.l, b.l⟩] : List Pr).map Pr.enc).flatten) (xs := (([⟨b.pc, a.pc⟩, ⟨a.x, b.x⟩] : List Pr).map Pr.enc).flatten) rfl un34 ti38 un34 (.inl ⟨_, rfl⟩) rfl (by simp only [fwA, ↓reduceIte, Nat.reduceAdd, Nat.reduceMul, Nat.reduceEqDiff, Nat.reduceLT, Nat.reduceLeDiff, reduceCtorEq] <;> rfl) (flatP_len _) (by simp only [fwA, ↓reduceIte, Nat.reduceAdd, Nat.reduceMul, Nat.reduceEqDiff, Nat.reduceLT, Nat.reduceLeDiff, reduceCtorEq] <;> rfl) (fun es f h e he => by
          simp only [fwA, ↓reduceIte, Nat.reduceAdd, Nat.reduceMul, Nat.reduceEqDiff, Nat.reduceLT, Nat.reduceLeDiff, reduceCtorEq, PV.vec.injEq] at h
          obtain ⟨rfl, rfl⟩ := h
          obtain ⟨x, _, rfl⟩ := List.mem_map.1 he
          rfl) rfl (by show (1 + 2) * 16 ≤ _; omega) (by show 1 + 2 ≤ _; omega) ?_)
    refine aops_run 1 (by simp only [fwA, ↓reduceIte, Nat.reduceAdd, Nat.reduceMul, Nat.reduceEqDiff, Nat.reduceLT, Nat.reduceLeDiff, reduceCtorEq] <;> rfl) ?_
    refine awp_keep (A' := [(2, .ptr H.length 0), (3, .ptr (H.length + 1) 0), (5, .row (H.length + 2) 0 ([⟨a.l, b.l⟩, ⟨b.pc, a.pc⟩, ⟨a.x, b.x⟩] : List Pr).length 2)]) [2, 3, 5] rfl ?_
    refine awp_heap (H' := H ++ [.box a.enc, .box b.enc, .row 2 ((([⟨a.l, b.l⟩, ⟨b.pc, a.pc⟩, ⟨a.x, b.x⟩] : List Pr).map Pr.enc).flatten)]) (by simp [Pr.enc, prs]) ?_
    have ho2 : ([⟨a.l, b.l⟩, ⟨b.pc, a.pc⟩, ⟨a.x, b.x⟩] : List Pr).length ≤ 5 := by simp
    rw [← List.append_assoc, ← List.append_assoc, List.singleton_append] at hso
    generalize ([⟨a.l, b.l⟩, ⟨b.pc, a.pc⟩, ⟨a.x, b.x⟩] : List Pr) = o2 at ho2 hso ⊢
    refine awp_seq ?_
    -- region 7 drawn
    refine awp_drawn [0, 0, 1, 0, 1, 0, 1, 0, 1, 0, 2, 0] [0, 0, 2, 6, 14, 0, 32, 96, 224, 510, 1023, 2047] mixed rfl (by kernel_rfl) ?_
    refine dops_run 9 (by simp only [fwA, ↓reduceIte, Nat.reduceAdd, Nat.reduceMul, Nat.reduceEqDiff, Nat.reduceLT, Nat.reduceLeDiff, reduceCtorEq, ti31, fl31_1, ti28, fl31_0, ti3, fl31_2, fl31_3, fl31_4, fl31_5, ti29, un29, el29, un42, ti42, Ty.fw, ga0, gb0, Int.reduceLE, Int.le_refl, true_and] <;> rfl) ?_
    refine dops_fn rfl rfl rfl rfl en41 i0 ?_
    refine dops_appendR (b := H.length + 2) (q := 0) (k := o2.length) (n := u0.length) (xs := (u0.map Pr.enc).flatten) (cs := (o2.map Pr.enc).flatten) rfl rfl rfl un34 ti38 un34 (.inl ⟨_, rfl⟩) rfl (by simp only [fwA, ↓reduceIte, Nat.reduceAdd, Nat.reduceMul, Nat.reduceEqDiff, Nat.reduceLT, Nat.reduceLeDiff, reduceCtorEq] <;> rfl) (flatP_len _) rfl (fun es f h e he => by
        simp only [fwA, ↓reduceIte, Nat.reduceAdd, Nat.reduceMul, Nat.reduceEqDiff, Nat.reduceLT, Nat.reduceLeDiff, reduceCtorEq, PV.vec.injEq] at h
        obtain ⟨rfl, rfl⟩ := h
        obtain ⟨x, _, rfl⟩ := List.mem_map.1 he
        rfl) (by simp only [fwA, ↓reduceIte, Nat.reduceAdd, Nat.reduceMul, Nat.reduceEqDiff, Nat.reduceLT, Nat.reduceLeDiff, reduceCtorEq, alen, List.length_map]) (by show (o2.length + u0.length) * 16 ≤ _; omega) (by omega) ?_
    refine dops_run 1 (by simp only [fwA, ↓reduceIte, Nat.reduceAdd, Nat.reduceMul, Nat.reduceEqDiff, Nat.reduceLT, Nat.reduceLeDiff, reduceCtorEq] <;> rfl) ?_
    refine dops_end ?_
    refine awp_keep (A' := [(2, .ptr H.length 0), (3, .ptr (H.length + 1) 0), (5, .row (H.length + 2) 0 (o2 ++ u0).length 2)]) [2, 3, 5] (by simp only [akeep, alook, aput, ev, List.length_append] <;> rfl) ?_
    refine awp_heap (H' := H ++ [.box a.enc, .box b.enc, .row 2 (((o2 ++ u0).map Pr.enc).flatten)]) (by simp) ?_
    have ho3 : (o2 ++ u0).length ≤ 5 + 3 * (kid b 0).w := by rw [List.length_append]; omega
    generalize (o2 ++ u0) = o3 at ho3 hso ⊢
    -- region 8 drawn
    refine awp_drawn [0, 0, 1, 0, 1, 0, 1, 0, 1, 0, 2, 0] [0, 0, 2, 6, 14, 0, 32, 96, 224, 510, 1023, 2047] mixed rfl (by kernel_rfl) ?_
    refine dops_run 9 (by simp only [fwA, ↓reduceIte, Nat.reduceAdd, Nat.reduceMul, Nat.reduceEqDiff, Nat.reduceLT, Nat.reduceLeDiff, reduceCtorEq, ti31, fl31_1, ti28, fl31_0, ti3, fl31_2, fl31_3, fl31_4, fl31_5, ti29, un29, el29, un42, ti42, Ty.fw, ga1, gb1, Int.reduceLE, Int.le_refl, true_and] <;> rfl) ?_
    refine dops_fn rfl rfl rfl rfl en41 i1 ?_
    refine dops_appendR (b := H.length + 2) (q := 0) (k := o3.length) (n := u1.length) (xs := (u1.map Pr.enc).flatten) (cs := (o3.map Pr.enc).flatten) rfl rfl rfl un34 ti38 un34 (.inl ⟨_, rfl⟩) rfl (by simp only [fwA, ↓reduceIte, Nat.reduceAdd, Nat.reduceMul, Nat.reduceEqDiff, Nat.reduceLT, Nat.reduceLeDiff, reduceCtorEq] <;> rfl) (flatP_len _) rfl (fun es f h e he => by
        simp only [fwA, ↓reduceIte, Nat.reduceAdd, Nat.reduceMul, Nat.reduceEqDiff, Nat.reduceLT, Nat.reduceLeDiff, reduceCtorEq, PV.vec.injEq] at h
        obtain ⟨rfl, rfl⟩ := h
        obtain ⟨x, _, rfl⟩ := List.mem_map.1 he
        rfl) (by simp only [fwA, ↓reduceIte, Nat.reduceAdd, Nat.reduceMul, Nat.reduceEqDiff, Nat.reduceLT, Nat.reduceLeDiff, reduceCtorEq, alen, List.length_map]) (by show (o3.length + u1.length) * 16 ≤ _; omega) (by omega) ?_
    refine dops_run 1 (by simp only [fwA, ↓reduceIte, Nat.reduceAdd, Nat.reduceMul, Nat.reduceEqDiff, Nat.reduceLT, Nat.reduceLeDiff, reduceCtorEq] <;> rfl) ?_
    refine dops_end ?_
    rw [hso]
    exact ⟨rfl, by simp only [akeep, alook, aput, ev, List.length_append] <;> rfl, by simp, rfl⟩
  obtain ⟨rfl, hA, rfl, rfl⟩ := hq
  refine awp_keep _ hA ?_
  refine awp_seq (awp_run rfl (by simp only [fwA, ↓reduceIte, Nat.reduceAdd, Nat.reduceMul, Nat.reduceEqDiff, Nat.reduceLT, Nat.reduceLeDiff, reduceCtorEq] <;> rfl) ?_)
  refine awp_bd fun hbd' => ?_
  refine awp_ret ?_
  exact calls_at (p := .row (H.length + 2) 0 (subN (n + 1) a b).length 2) (.inl rfl) hbd' rfl (by simp [PV.bd]) (by simp) ⟨rfl, rfl⟩

/-- ltype.Sub, its row handed on -/
theorem c12r (Γ : Nat → PV) (n : Nat) (a b : Ty) (hwn : a.w ≤ n + 1) (hw : a.w ≤ 1000000000) (ha : a.Right) (hb : b.Right) (hs : a.shape = b.shape) (H : List Blk) :
    ACalls Tryd.prog Γ 12 [.agg a.enc, .agg b.enc] H (fun p H' => p = .tup [.row (H.length + 4) 0 (subN (n + 1) a b).length 2, .bool true] ∧ H' = H ++ [.box a.enc, .box b.enc, .box a.enc, .box b.enc, .row 2 (((subN (n + 1) a b).map Pr.enc).flatten)]) := by
  refine acalls_of_awp Tryd.func12 rfl (by simp [Tryd.f12]) fun hbd => ?_
  refine awp_seq ?_
  -- region 0
  refine awp_run rfl (by simp only [fwA, ↓reduceIte, Nat.reduceAdd, Nat.reduceMul, Nat.reduceEqDiff, Nat.reduceLT, Nat.reduceLeDiff, reduceCtorEq] <;> rfl) ?_
  refine awp_seq ?_
  refine awp_seq ?_
  -- region 1 drawn
  refine awp_drawn [1, 0, 0, 0, 1, 0, 0, 0, 0, 1, 0, 1, 0, 0, 0, 0] [0, 1, 3, 7, 15, 31, 63, 127, 255, 511, 1023, 511, 4095, 8191, 16383, 32767] mixed rfl (by kernel_rfl) ?_
  refine dops_run 1 (by simp only [fwA, ↓reduceIte, Nat.reduceAdd, Nat.reduceMul, Nat.reduceEqDiff, Nat.reduceLT, Nat.reduceLeDiff, reduceCtorEq, ti31, Ty.fw] <;> rfl) ?_
  refine dops_fn rfl rfl rfl rfl en23 (c23 Γ a) ?_
  refine dops_run 3 (by simp only [fwA, ↓reduceIte, Nat.reduceAdd, Nat.reduceMul, Nat.reduceEqDiff, Nat.reduceLT, Nat.reduceLeDiff, reduceCtorEq, ti31, ha, decide_true, Bool.not_true, Ty.fw] <;> rfl) ?_
  refine dops_fn rfl (by simp only [fwA, ↓reduceIte, Nat.reduceAdd, Nat.reduceMul, Nat.reduceEqDiff, Nat.reduceLT, Nat.reduceLeDiff, reduceCtorEq] <;> rfl) rfl rfl en23 (c23 Γ b) ?_
  refine dops_run 4 (by simp only [fwA, ↓reduceIte, Nat.reduceAdd, Nat.reduceMul, Nat.reduceEqDiff, Nat.reduceLT, Nat.reduceLeDiff, reduceCtorEq, ti31, hb, decide_true, Bool.not_true, Ty.fw] <;> rfl) ?_
  have ea : shapeOf a = a.shape := by unfold shapeOf; rw [if_pos ha]
  have eb : shapeOf b = b.shape := by unfold shapeOf; rw [if_pos hb]
  have ia := c29 Γ a
  have ib := c29 Γ b
  rw [ea] at ia
  rw [eb] at ib
  refine dops_fn rfl (by simp only [fwA, ↓reduceIte, Nat.reduceAdd, Nat.reduceMul, Nat.reduceEqDiff, Nat.reduceLT, Nat.reduceLeDiff, reduceCtorEq] <;> rfl) rfl rfl en29 ia ?_
  refine dops_run 1 (by simp only [fwA, ↓reduceIte, Nat.reduceAdd, Nat.reduceMul, Nat.reduceEqDiff, Nat.reduceLT, Nat.reduceLeDiff, reduceCtorEq, ti31, Ty.fw] <;> rfl) ?_
  refine dops_fn rfl (by simp only [fwA, ↓reduceIte, Nat.reduceAdd, Nat.reduceMul, Nat.reduceEqDiff, Nat.reduceLT, Nat.reduceLeDiff, reduceCtorEq] <;> rfl) rfl rfl en29 ib ?_
  refine dops_fn rfl (by simp only [fwA, ↓reduceIte, Nat.reduceAdd, Nat.reduceMul, Nat.reduceEqDiff, Nat.reduceLT, Nat.reduceLeDiff, reduceCtorEq] <;> rfl) rfl rfl en35 (c35 Γ a.shape b.shape) ?_
  have e : subOf a b = (subN a.w a b, true) := by unfold subOf; rw [if_pos ⟨ha, hb, hs⟩]
  refine dops_run 2 (by simp only [fwA, ↓reduceIte, Nat.reduceAdd, Nat.reduceMul, Nat.reduceEqDiff, Nat.reduceLT, Nat.reduceLeDiff, reduceCtorEq, hs, decide_true, Bool.not_true] <;> rfl) ?_
  refine dops_end ?_
  refine awp_cond (by simp only [fwA, ↓reduceIte, Nat.reduceAdd, Nat.reduceMul, Nat.reduceEqDiff, Nat.reduceLT, Nat.reduceLeDiff, reduceCtorEq] <;> rfl) ?_
  refine awp_skip ?_
  refine awp_seq ?_
  -- region 3
  refine awp_region rfl ?_
  refine aops_run 2 (by simp only [fwA, ↓reduceIte, Nat.reduceAdd, Nat.reduceMul, Nat.reduceEqDiff, Nat.reduceLT, Nat.reduceLeDiff, reduceCtorEq, ti31, Ty.fw] <;> rfl) ?_
  refine aops_call rfl rfl rfl en41 ((c41r Γ n a b (by omega) hw ha hb hs _).mono fun p H' hp => ?_)
  obtain ⟨rfl, rfl⟩ := hp
  refine aops_run 2 (by simp only [fwA, ↓reduceIte, Nat.reduceAdd, Nat.reduceMul, Nat.reduceEqDiff, Nat.reduceLT, Nat.reduceLeDiff, reduceCtorEq] <;> rfl) ?_
  refine awp_bd fun hbd' => ?_
  refine awp_ret ?_
  refine calls_at (p := .tup [.row (H.length + 4) 0 (subN (n + 1) a b).length 2, .bool true]) (.inl rfl) hbd' (by simp [ares, aresL, ares1, alook, aput, Tryd.f12]) (by simp [PV.bd, PV.bdL]) (by simp) ⟨rfl, by simp⟩

/-- ltype.Places, its row handed on -/
theorem c19r (Γ : Nat → PV) (t : Ty) (hw : t.w ≤ 1000000000) (hr : t.Right) (H : List Blk) :
    ACalls Tryd.prog Γ 19 [.agg t.enc] H (fun p H' => p = .row (H.length + 3) 0 t.places.length 1 ∧ H' = H ++ [.box t.enc, .box [.row (H.length + 3) 0 t.places.length 1], .box t.enc, .row 1 ((t.places.map I1).flatten)]) := by
  refine acalls_of_awp Tryd.func19 rfl (by simp [Tryd.f19]) fun hbdH => ?_
  refine awp_seq ?_
  -- region 0
  refine awp_run rfl (by simp only [fwA, ↓reduceIte, Nat.reduceAdd, Nat.reduceMul, Nat.reduceEqDiff, Nat.reduceLT, Nat.reduceLeDiff, reduceCtorEq] <;> rfl) ?_
  refine awp_seq ?_
  refine awp_seq ?_
  -- region 1
  refine awp_region rfl ?_
  refine aops_run 1 (by simp only [fwA, ↓reduceIte, Nat.reduceAdd, Nat.reduceMul, Nat.reduceEqDiff, Nat.reduceLT, Nat.reduceLeDiff, reduceCtorEq, ti31, fl31_1, ti28, fl31_0, ti3, fl31_2, fl31_3, fl31_4, fl31_5, ti29, un29, el29, un42, ti42, Ty.fw] <;> rfl) ?_
  refine aops_fn rfl rfl rfl en23 (c23 Γ t) ?_
  refine aops_run 1 (by simp only [fwA, ↓reduceIte, Nat.reduceAdd, Nat.reduceMul, Nat.reduceEqDiff, Nat.reduceLT, Nat.reduceLeDiff, reduceCtorEq] <;> rfl) ?_
  refine awp_cond (by simp only [fwA, ↓reduceIte, Nat.reduceAdd, Nat.reduceMul, Nat.reduceEqDiff, Nat.reduceLT, Nat.reduceLeDiff, reduceCtorEq] <;> rfl) ?_
  have hpl := places_len t
  simp only [hr, decide_true, Bool.not_true, Bool.false_eq_true, ↓reduceIte]
  refine awp_skip ?_
  refine awp_seq ?_
  -- region 3
  refine awp_run rfl (by simp only [fwA, ↓reduceIte, Nat.reduceAdd, Nat.reduceMul, Nat.reduceEqDiff, Nat.reduceLT, Nat.reduceLeDiff, reduceCtorEq, ti31, fl31_1, ti28, fl31_0, ti3, fl31_2, fl31_3, fl31_4, fl31_5, ti29, un29, el29, un42, ti42, Ty.fw] <;> rfl) ?_
  refine awp_seq ?_
  refine awp_seq ?_
  -- region 4
  refine awp_region rfl ?_
  refine aops_run 1 (by simp only [fwA, ↓reduceIte, Nat.reduceAdd, Nat.reduceMul, Nat.reduceEqDiff, Nat.reduceLT, Nat.reduceLeDiff, reduceCtorEq, ti31, fl31_1, ti28, fl31_0, ti3, fl31_2, fl31_3, fl31_4, fl31_5, ti29, un29, el29, un42, ti42, Ty.fw] <;> rfl) ?_
  refine aops_call rfl rfl rfl en45 ((c45 Γ t _).mono fun p H' hp => ?_)
  obtain ⟨rfl, rfl⟩ := hp
  refine awp_heap (H' := H ++ [.box t.enc, .box [.vec [] true], .box t.enc]) (by simp) ?_
  refine awp_keep (A' := [(3, .ptr (H.length + 1) 0), (9, .func (.func 60) [] [.ptr (H.length + 2) 0])]) [3, 9] (by simp [akeep, alook, aput, ev]) ?_
  refine awp_told (told_adoptBox (H.length + 1) 0 1 (by decide) (by simp only [fwA, ↓reduceIte, Nat.reduceAdd, Nat.reduceMul, Nat.reduceEqDiff, Nat.reduceLT, Nat.reduceLeDiff, reduceCtorEq] <;> rfl) rfl) ?_
  refine awp_heap (H' := H ++ [.box t.enc, .box [.row (H.length + 3) 0 0 1], .box t.enc, .row 1 []]) (by simp only [fwA, ↓reduceIte, Nat.reduceAdd, Nat.reduceMul, Nat.reduceEqDiff, Nat.reduceLT, Nat.reduceLeDiff, reduceCtorEq] <;> rfl) ?_
  have hbdJ : ∀ xs : List Int, ∀ B ∈ H ++ [.box t.enc, .box [.row (H.length + 3) 0 xs.length 1], .box t.enc, .row 1 ((xs.map I1).flatten)], B.bd (H.length + 4) = true := fun xs => by
    have := bd_app (L := [.box t.enc, .box [.row (H.length + 3) 0 xs.length 1], .box t.enc, .row 1 ((xs.map I1).flatten)]) hbdH (by simp [Blk.bd, Ty.bd, PV.bdL, PV.bd, flatI_bd])
    rwa [List.length_append] at this
  refine awp_block ?_
  refine awp_rangeFuncS (gf := 60) (caps := [.ptr (H.length + 2) 0]) (by simp only [fwA, ↓reduceIte, Nat.reduceAdd, Nat.reduceMul, Nat.reduceEqDiff, Nat.reduceLT, Nat.reduceLeDiff, reduceCtorEq] <;> rfl) en60 (c60 Γ (H.length + 2) t hw) (by simp [Tryd.f19])
    (fun i Hf => i ≤ t.places.length ∧ Hf = H ++ [.box t.enc, .box [.row (H.length + 3) 0 (t.places.take i).length 1], .box t.enc, .row 1 (((t.places.take i).map I1).flatten)])
    (fun _ _ => False) (fun Stop h Hb hs => by obtain ⟨_, _, hx⟩ := h Hb hs; exact hx) ⟨Nat.zero_le _, rfl⟩ ?_ ?_ ?_ ?_
  · rintro i Hf ⟨hi, rfl⟩
    refine ⟨by simp, fun L hL => ⟨by rw [List.append_assoc, Fw.get_at]; rfl, fun B hB => ?_⟩⟩
    rcases List.mem_append.1 hB with hB | hB
    · exact blk_mono (by simp <;> omega) (hbdJ _ B hB)
    · exact blk_mono (by simp <;> omega) (hL B hB)
  · rintro i x Hf L L' ro hx ⟨hi, rfl⟩ hL hL' hbd hbd'
    have hil : i < t.places.length := by have := (List.getElem?_eq_some_iff.1 hx).1; simpa using this
    have gp : t.places[i]? = some t.places[i] := List.getElem?_eq_getElem hil
    have hxe : x = [.int .i64 t.places[i]] := by rw [List.getElem?_map, gp] at hx; exact (Option.some.inj hx).symm
    subst hxe
    have hti : (t.places.take i).length = i := by simp; omega
    have htk : t.places.take (i + 1) = t.places.take i ++ [t.places[i]] := by rw [List.take_add_one, gp]; rfl
    generalize t.places[i] = v at htk ⊢
    refine awp_less (A' := [(3, .ptr (H.length + 1) 0), (10, .int .i64 v)]) (fun u => zip_look [3, 10] [.ptr (H.length + 1) 0, .int .i64 v] u _ rfl) ?_
    -- region 5
    refine awp_run rfl (by simp only [fwA, ↓reduceIte, Nat.reduceAdd, Nat.reduceMul, Nat.reduceEqDiff, Nat.reduceLT, Nat.reduceLeDiff, reduceCtorEq] <;> rfl) ?_
    refine ⟨rfl, H ++ [.box t.enc, .box [.row (H.length + 3) 0 (t.places.take i).length 1], .box t.enc, .row 1 (((t.places.take i).map I1).flatten)], [], by simp, by simp, ?_⟩
    have hb2 := hbdJ (t.places.take i ++ [v])
    generalize t.places.take i = F at hti htk hb2 ⊢
    refine awp_heap (H' := H ++ ([.box t.enc, .box [.row (H.length + 3) 0 F.length 1], .box t.enc, .row 1 ((F.map I1).flatten)] ++ L')) (by simp) ?_
    refine awp_block ?_
    -- region 6
    refine awp_region rfl ?_
    refine aops_run 3 (by simp only [fwA, ↓reduceIte, Nat.reduceAdd, Nat.reduceMul, Nat.reduceEqDiff, Nat.reduceLT, Nat.reduceLeDiff, reduceCtorEq, ti31, fl31_1, ti28, fl31_0, ti3, fl31_2, fl31_3, fl31_4, fl31_5, ti29, un29, el29, un42, ti42, Ty.fw, List.cons_append] <;> rfl) ?_
    refine aops_one rfl (os_appendR (b := H.length + 3) (q := 0) (k := F.length) (cs := (F.map I1).flatten) rfl un42 ti28 un42 (.inl ⟨_, rfl⟩) rfl (by simp only [fwA, ↓reduceIte, Nat.reduceAdd, Nat.reduceMul, Nat.reduceEqDiff, Nat.reduceLT, Nat.reduceLeDiff, reduceCtorEq, List.cons_append] <;> rfl) (flatI_len _) rfl (fun es f h e he => by
      simp only [fwA, ↓reduceIte, Nat.reduceAdd, Nat.reduceMul, Nat.reduceEqDiff, Nat.reduceLT, Nat.reduceLeDiff, reduceCtorEq, PV.vec.injEq] at h
      obtain ⟨rfl, rfl⟩ := h
      simp only [List.mem_singleton] at he
      subst he; rfl) rfl (by show (F.length + 1) * 8 ≤ _; omega) (by show F.length + 1 ≤ _; omega) ?_)
    refine aops_run 1 (by simp only [fwA, ↓reduceIte, Nat.reduceAdd, Nat.reduceMul, Nat.reduceEqDiff, Nat.reduceLT, Nat.reduceLeDiff, reduceCtorEq, ti31, fl31_1, ti28, fl31_0, ti3, fl31_2, fl31_3, fl31_4, fl31_5, ti29, un29, el29, un42, ti42, Ty.fw, List.cons_append] <;> rfl) ?_
    refine ⟨H ++ [.box t.enc, .box [.row (H.length + 3) 0 (F ++ [v]).length 1], .box t.enc, .row 1 (((F ++ [v]).map I1).flatten)], [], by simp, by simp [I1], fun B hB => ?_, ?_⟩
    · exact blk_mono (by simp <;> omega) (hb2 B hB)
    · exact ⟨by omega, by rw [htk]⟩
  · rintro Hf B ⟨_, rfl⟩
    rw [List.length_map, List.take_length]
    simp only [Post.block, Post.then]
    refine awp_heap (H' := H ++ [.box t.enc, .box [.row (H.length + 3) 0 t.places.length 1], .box t.enc, .row 1 ((t.places.map I1).flatten), .dfr, B]) (by simp) ?_
    refine awp_seq ?_
    -- region 7
    refine awp_run rfl (by simp only [fwA, ↓reduceIte, Nat.reduceAdd, Nat.reduceMul, Nat.reduceEqDiff, Nat.reduceLT, Nat.reduceLeDiff, reduceCtorEq, ti31, fl31_1, ti28, fl31_0, ti3, fl31_2, fl31_3, fl31_4, fl31_5, ti29, un29, el29, un42, ti42, Ty.fw] <;> rfl) ?_
    refine awp_ret ?_
    have ht : ∀ L M : List Blk, L.length = 4 → (H ++ (L ++ M)).take (H.length + 4) = H ++ L := fun L M h => by
      rw [← List.append_assoc]; exact List.take_left' (by simp [h])
    have ht' := ht [.box t.enc, .box [.row (H.length + 3) 0 t.places.length 1], .box t.enc, .row 1 ((t.places.map I1).flatten)] [.dfr, B] rfl
    simp only [List.cons_append, List.nil_append] at ht'
    refine ⟨.inl rfl, by simp, fun b hb => ?_, .row (H.length + 3) 0 t.places.length 1, H.length + 4, by simp [ares, aresL, ares1, alook, aput, Tryd.f19], by omega, by simp, fun b hb => ?_, by simp [PV.bd], ?_, rfl, ?_⟩
    · simp only [List.length_append, List.length_cons, List.length_nil, List.mem_singleton] at hb
      subst hb
      rw [Fw.get_at]; rfl
    · simp only [List.length_append, List.length_cons, List.length_nil, List.mem_singleton] at hb
      omega
    · rw [ht']; exact hbdJ _
    · exact ht'
  · rintro c Hf B hX _
    exact hX.elim

end Go.Proofs.YtlnffadolfkggaaDoor
