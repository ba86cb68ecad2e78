/- The law that the program tells what the document tells. -/
import Derived.Test.YtlnffadolfkggaaDoorWG
namespace Go.Proofs.YtlnffadolfkggaaDoor
set_option linter.unusedVariables false
set_option linter.unusedSimpArgs false
set_option maxRecDepth 100000
open Go.RowKit Fw

theorem right_ok : ∀ t : Ty, t.Right → t.Ok := by
  refine Ty.ind fun t ih hr => ?_
  exact .mk t (by have := kids_le2 hr; unfold reachBytes; omega) fun k hk => ih k hk (hr.kids k hk)
theorem right_okS : ∀ s : Sh, s.Right → s.Ok := by
  refine Sh.ind fun s ih hr => ?_
  refine .mk s ?_ fun k hk => ih k hk (hr.kids k hk)
  have := hr.node.2.2.2.2
  unfold Sh.want at this
  unfold reachBytes
  split at this <;> omega
theorem shape_right : ∀ t : Ty, t.Right → t.shape.Right := by
  refine Ty.ind fun t ih hr => ?_
  have hn := hr.node
  refine .mk _ ?_ fun k hk => ?_
  · rw [Ty.shape_eq]
    refine ⟨hn.1, by show t.kind ≤ 4; have := hn.2.1; omega, Int.le_refl _, .inl rfl, ?_⟩
    show (t.kids.map Ty.shape).length = _
    rw [List.length_map, hn.2.2.2.2]; rfl
  · rw [Ty.shape_eq] at hk
    obtain ⟨k', hk', rfl⟩ := List.mem_map.1 hk
    exact ih k' hk' (hr.kids k' hk')
theorem shapeOf_ok (t : Ty) : (shapeOf t).Ok := by
  unfold shapeOf
  split
  · rename_i h; exact right_okS _ (shape_right t h)
  · exact .mk _ (by simp [Sh.kids, reachBytes]) fun k hk => nomatch hk
theorem freshOf_ok (s : Sh) (n : Int) : (freshOf s n).1.Ok := by
  unfold freshOf
  split
  · rename_i h; exact right_ok _ (Ty.fresh_right s n h.1)
  · exact .mk _ (by simp [noTy, Ty.kids, reachBytes]) fun k hk => nomatch hk
theorem map_ok (g : Int → Int) : ∀ t : Ty, t.Ok → (t.map g).Ok := by
  refine Ty.ind fun t ih h => ?_
  cases h with | mk _ h1 h2 =>
  rw [Ty.map_eq]
  refine .mk _ (by show (t.kids.map (Ty.map g)).length * 64 ≤ reachBytes; rw [List.length_map]; exact h1) fun k hk => ?_
  obtain ⟨k', hk', rfl⟩ := List.mem_map.1 hk
  exact ih k' hk' (h2 k' hk')
theorem outer_ok {t : Ty} (h : t.Ok) (l : Int) : (outer t l).Ok := by
  cases h with | mk _ h1 h2 => exact .mk _ h1 h2
theorem subOf_len (a b : Ty) : (subOf a b).1.length ≤ 3 * a.w := by
  unfold subOf
  split
  · rename_i h; exact subN_len _ a b h.1 h.2.1 h.2.2
  · simp
theorem placesOf_len (t : Ty) : (placesOf t).length ≤ 3 * t.w := by
  unfold placesOf
  split
  · exact places_len t
  · simp

set_option maxHeartbeats 4000000 in
/-- LtypeTells -/
theorem c5 (Γ : Nat → PV) (hΓ : Tab Γ) (A B : Ty) (s : Sh) (n : Int) (fr to : List Int) (a : Int) (oA : A.Ok) (iA : A.In) (wA : A.w ≤ 2000000) (oB : B.Ok) (oS : s.Ok) (wS : s.w ≤ 2000000) (hf : fr.length ≤ 2000000) (ht : to.length ≤ 2000000) :
    Gives Tryd.prog Γ 5 [.agg A.enc, .agg B.enc, .agg s.enc, .int .i64 n, .vec (fr.map I1) false, .vec (to.map I1) false, .int .i64 a] (.bool true) := by
  have h14A := c14 Γ A oA
  have h14B := c14 Γ B oB
  have h11 := c11 Γ s (by omega) n
  have h15 := c15 Γ s n
  have h16 := c16 Γ s oS
  have h14F := c14 Γ (freshOf s n).1 (freshOf_ok s n)
  have h21F := c21 Γ (freshOf s n).1 (freshOf s n).1
  rw [decide_eq_true rfl] at h21F
  generalize (freshOf s n).1 = F at h11 h15 h14F h21F
  generalize (freshOf s n).2 = nF at h11 h15
  have h12 := c12 Γ A B (by omega)
  have h17 := c17 Γ A B (by omega)
  have hsl := subOf_len A B
  have h22 := c22 Γ (subOf A B).1 (subOf A B).1 (by omega)
  rw [decide_eq_true rfl] at h22
  generalize (subOf A B).1 = xs at h12 h17 h22
  generalize (subOf A B).2 = xb at h12 h17
  have h19 := c19 Γ A (by omega)
  have h20 := c20 Γ A (by omega)
  have hpl := placesOf_len A
  have h18P := c18 Γ (placesOf A) (by omega)
  generalize placesOf A = ps at h19 h20 hpl h18P
  have h23 := c23 Γ A
  have h24 := c24 Γ A
  have h25 := c25 Γ A B
  have h21 := c21 Γ A B
  generalize decide A.Right = br at h23 h24
  generalize decide (A = B) = be at h25 h21
  have h26 := c26 Γ hΓ loHi (by decide) A iA (by omega)
  have h27 := c27 Γ loHi (by decide) A iA (by omega)
  generalize A.text loHi = tx at h26 h27
  have h29 := c29 Γ A
  have h16S := c16 Γ (shapeOf A) (shapeOf_ok A)
  have h30 := c30 Γ A
  have h28 := c28 Γ (shapeOf A) (shapeOf A)
  rw [decide_eq_true rfl] at h28
  generalize shapeOf A = sA at h29 h16S h30 h28
  have h31 := c31 Γ A a
  have h14O := c14 Γ (outer A a) (outer_ok oA a)
  have h32 := c32 Γ A a
  have h21O := c21 Γ (outer A a) (outer A a)
  rw [decide_eq_true rfl] at h21O
  generalize outer A a = O at h31 h14O h32 h21O
  have h33 := c33 Γ fr to A (by omega)
  have h14M := c14 Γ (A.map (renI fr to)) (map_ok _ A oA)
  have h18f := c18 Γ fr (by omega)
  have h18t := c18 Γ to (by omega)
  have h34 := c34 Γ fr to A (by omega)
  have h21M := c21 Γ (A.map (renI fr to)) (A.map (renI fr to))
  rw [decide_eq_true rfl] at h21M
  generalize A.map (renI fr to) = M at h33 h14M h34 h21M
  have hle14 : PV.leL [.vec [[.str [76, 111]], [.str [72, 105]]] true, .agg A.enc] [namesV loHi, .agg A.enc] := ⟨⟨nofun, PV.leLL_refl _⟩, PV.leL_refl _⟩
  refine fn_of_awp Tryd.func5 rfl (by simp [Tryd.f5]) rfl fun H => ?_
  refine awp_seq ?_
  refine awp_run rfl (by simp only [fwA, ↓reduceIte, Nat.reduceAdd, Nat.reduceMul, Nat.reduceEqDiff, Nat.reduceLT, Nat.reduceLeDiff, reduceCtorEq, Sh.fw, Ty.fw] <;> rfl) ?_
  refine awp_seq ?_
  -- region 1
  refine awp_region rfl ?_
  refine aops_fn rfl rfl rfl en9 (c9 Γ hΓ) ?_
  refine aops_run 1 (by simp only [fwA, ↓reduceIte, Nat.reduceAdd, Nat.reduceMul, Nat.reduceEqDiff, Nat.reduceLT, Nat.reduceLeDiff, reduceCtorEq] <;> rfl) ?_
  refine awp_seq ?_
  refine awp_seq ?_
  -- region 2
  refine awp_run rfl (by simp only [fwA, ↓reduceIte, Nat.reduceAdd, Nat.reduceMul, Nat.reduceEqDiff, Nat.reduceLT, Nat.reduceLeDiff, reduceCtorEq] <;> rfl) ?_
  refine awp_cond (by simp only [fwA, ↓reduceIte, Nat.reduceAdd, Nat.reduceMul, Nat.reduceEqDiff, Nat.reduceLT, Nat.reduceLeDiff, reduceCtorEq] <;> rfl) ?_
  refine awp_skip ?_
  refine awp_seq ?_
  -- region 4
  refine awp_region rfl ?_
  refine aops_run 1 (by simp only [fwA, ↓reduceIte, Nat.reduceAdd, Nat.reduceMul, Nat.reduceEqDiff, Nat.reduceLT, Nat.reduceLeDiff, reduceCtorEq, decide_true, ti31, ti45, ti26, ti3, un3, un56, un62, ti9, el56, Sh.fw, Ty.fw] <;> rfl) ?_
  refine aops_fn rfl rfl rfl en14 h14A ?_
  refine aops_run 2 (by simp only [fwA, ↓reduceIte, Nat.reduceAdd, Nat.reduceMul, Nat.reduceEqDiff, Nat.reduceLT, Nat.reduceLeDiff, reduceCtorEq, decide_true, ti31, ti45, ti26, ti3, un3, un56, un62, ti9, el56, Sh.fw, Ty.fw] <;> rfl) ?_
  refine awp_seq ?_
  -- region 5
  refine awp_region rfl ?_
  refine aops_run 2 (by simp only [fwA, ↓reduceIte, Nat.reduceAdd, Nat.reduceMul, Nat.reduceEqDiff, Nat.reduceLT, Nat.reduceLeDiff, reduceCtorEq, decide_true, ti31, ti45, ti26, ti3, un3, un56, un62, ti9, el56, Sh.fw, Ty.fw] <;> rfl) ?_
  refine aops_fn rfl rfl rfl en11 h11 ?_
  refine aops_run 6 (by simp only [fwA, ↓reduceIte, Nat.reduceAdd, Nat.reduceMul, Nat.reduceEqDiff, Nat.reduceLT, Nat.reduceLeDiff, reduceCtorEq, decide_true, ti31, ti45, ti26, ti3, un3, un56, un62, ti9, el56, Sh.fw, Ty.fw] <;> rfl) ?_
  refine awp_seq ?_
  -- region 6
  refine awp_region rfl ?_
  refine aops_run 1 (by simp only [fwA, ↓reduceIte, Nat.reduceAdd, Nat.reduceMul, Nat.reduceEqDiff, Nat.reduceLT, Nat.reduceLeDiff, reduceCtorEq, decide_true, ti31, ti45, ti26, ti3, un3, un56, un62, ti9, el56, Sh.fw, Ty.fw] <;> rfl) ?_
  refine aops_fn rfl rfl rfl en16 h16 ?_
  refine aops_run 1 (by simp only [fwA, ↓reduceIte, Nat.reduceAdd, Nat.reduceMul, Nat.reduceEqDiff, Nat.reduceLT, Nat.reduceLeDiff, reduceCtorEq, decide_true, ti31, ti45, ti26, ti3, un3, un56, un62, ti9, el56, Sh.fw, Ty.fw] <;> rfl) ?_
  refine aops_fn rfl rfl rfl en15 h15 ?_
  refine aops_run 6 (by simp only [fwA, ↓reduceIte, Nat.reduceAdd, Nat.reduceMul, Nat.reduceEqDiff, Nat.reduceLT, Nat.reduceLeDiff, reduceCtorEq, decide_true, ti31, ti45, ti26, ti3, un3, un56, un62, ti9, el56, Sh.fw, Ty.fw] <;> rfl) ?_
  refine awp_keep (A' := [(4, .vec (fr.map I1) false), (5, .vec (to.map I1) false), (6, .int .i64 a), (7, .ptr H.length 0), (8, .ptr (H.length + 1) 0), (15, .bool true), (16, .ptr (H.length + 3) 0), (17, .ptr (H.length + 4) 0), (18, .int .i64 nF), (19, .ptr (H.length + 5) 0), (20, .int .i64 nF)]) [4, 5, 6, 7, 8, 15, 16, 17, 18, 19, 20] (by simp [akeep, alook, aput, ev]) ?_
  refine awp_heap (H' := H ++ [.box A.enc, .box B.enc, .box s.enc, .box A.enc, .box F.enc, .box F.enc]) (by simp) ?_
  refine awp_seq ?_
  -- region 7
  refine awp_region rfl ?_
  refine aops_run 2 (by simp only [fwA, ↓reduceIte, Nat.reduceAdd, Nat.reduceMul, Nat.reduceEqDiff, Nat.reduceLT, Nat.reduceLeDiff, reduceCtorEq, decide_true, ti31, ti45, ti26, ti3, un3, un56, un62, ti9, el56, Sh.fw, Ty.fw] <;> rfl) ?_
  refine aops_fn rfl rfl rfl en12 h12 ?_
  refine aops_run 5 (by simp only [fwA, ↓reduceIte, Nat.reduceAdd, Nat.reduceMul, Nat.reduceEqDiff, Nat.reduceLT, Nat.reduceLeDiff, reduceCtorEq, decide_true, ti31, ti45, ti26, ti3, un3, un56, un62, ti9, el56, Sh.fw, Ty.fw] <;> rfl) ?_
  refine awp_seq ?_
  -- region 8 drawn
  refine awp_drawn [1, 1, 0, 0, 0, 0, 0, 0, 0] [0, 0, 2, 7, 15, 31, 31, 63, 255] mixed rfl (by kernel_rfl) ?_
  refine dops_run 2 (by simp only [fwA, ↓reduceIte, Nat.reduceAdd, Nat.reduceMul, Nat.reduceEqDiff, Nat.reduceLT, Nat.reduceLeDiff, reduceCtorEq, decide_true, ti31, ti45, ti26, ti3, un3, un56, un62, ti9, el56, Sh.fw, Ty.fw] <;> rfl) ?_
  refine dops_fn rfl rfl rfl rfl en14 h14B ?_
  refine dops_fn rfl rfl rfl rfl en17 h17 ?_
  refine dops_run 5 (by simp only [fwA, ↓reduceIte, Nat.reduceAdd, Nat.reduceMul, Nat.reduceEqDiff, Nat.reduceLT, Nat.reduceLeDiff, reduceCtorEq] <;> rfl) ?_
  refine dops_end ?_
  refine awp_seq ?_
  -- region 9
  refine awp_region rfl ?_
  refine aops_run 1 (by simp only [fwA, ↓reduceIte, Nat.reduceAdd, Nat.reduceMul, Nat.reduceEqDiff, Nat.reduceLT, Nat.reduceLeDiff, reduceCtorEq, decide_true, ti31, ti45, ti26, ti3, un3, un56, un62, ti9, el56, Sh.fw, Ty.fw] <;> rfl) ?_
  refine aops_fn rfl rfl rfl en19 h19 ?_
  refine aops_fn rfl rfl rfl en18 h18P ?_
  refine aops_run 1 (by simp only [fwA, ↓reduceIte, Nat.reduceAdd, Nat.reduceMul, Nat.reduceEqDiff, Nat.reduceLT, Nat.reduceLeDiff, reduceCtorEq, decide_true, ti31, ti45, ti26, ti3, un3, un56, un62, ti9, el56, Sh.fw, Ty.fw] <;> rfl) ?_
  refine awp_seq ?_
  -- region 10
  refine awp_region rfl ?_
  refine aops_run 1 (by simp only [fwA, ↓reduceIte, Nat.reduceAdd, Nat.reduceMul, Nat.reduceEqDiff, Nat.reduceLT, Nat.reduceLeDiff, reduceCtorEq, decide_true, ti31, ti45, ti26, ti3, un3, un56, un62, ti9, el56, Sh.fw, Ty.fw] <;> rfl) ?_
  refine aops_fn rfl rfl rfl en20 h20 ?_
  refine aops_run 1 (by simp only [fwA, ↓reduceIte, Nat.reduceAdd, Nat.reduceMul, Nat.reduceEqDiff, Nat.reduceLT, Nat.reduceLeDiff, reduceCtorEq, decide_true, ti31, ti45, ti26, ti3, un3, un56, un62, ti9, el56, Sh.fw, Ty.fw] <;> rfl) ?_
  refine awp_keep (A' := [(4, .vec (fr.map I1) false), (5, .vec (to.map I1) false), (6, .int .i64 a), (7, .ptr H.length 0), (8, .ptr (H.length + 1) 0), (15, .bool true), (16, .ptr (H.length + 3) 0), (17, .ptr (H.length + 4) 0), (18, .int .i64 nF), (19, .ptr (H.length + 5) 0), (20, .int .i64 nF), (21, .vec (xs.map Pr.enc) false), (22, .bool xb), (23, .vec (xs.map Pr.enc) false), (24, .bool xb), (25, .vec (ps.map I1) false), (26, .vec (ps.map I1) false)]) [4, 5, 6, 7, 8, 15, 16, 17, 18, 19, 20, 21, 22, 23, 24, 25, 26] (by simp [akeep, alook, aput, ev]) ?_
  refine awp_seq ?_
  refine awp_seq ?_
  -- region 11 drawn
  refine awp_drawn [1, 0, 1, 0, 0, 0, 0, 0, 0, 0, 0, 0, 0, 0, 0, 0, 0, 0, 0, 0, 0, 0, 0, 0, 0, 0, 0, 0] [0, 1, 0, 7, 15, 31, 63, 63, 255, 511, 1023, 2047, 2047, 8191, 16383, 32767, 65535, 131071, 131071, 524287, 1048575, 2097151, 4194303, 8388607, 4194303, 20971519, 67108863, 134217727] mixed rfl (by kernel_rfl) ?_
  refine dops_run 1 (by simp only [fwA, ↓reduceIte, Nat.reduceAdd, Nat.reduceMul, Nat.reduceEqDiff, Nat.reduceLT, Nat.reduceLeDiff, reduceCtorEq, decide_true, ti31, ti45, ti26, ti3, un3, un56, un62, ti9, el56, Sh.fw, Ty.fw] <;> rfl) ?_
  refine dops_fn rfl rfl rfl rfl en14 h14F ?_
  refine dops_run 1 (by simp only [fwA, ↓reduceIte, Nat.reduceAdd, Nat.reduceMul, Nat.reduceEqDiff, Nat.reduceLT, Nat.reduceLeDiff, reduceCtorEq, decide_true, ti31, ti45, ti26, ti3, un3, un56, un62, ti9, el56, Sh.fw, Ty.fw] <;> rfl) ?_
  refine dops_fn rfl rfl rfl rfl en21 h21F ?_
  refine dops_run 9 (by simp only [fwA, ↓reduceIte, Nat.reduceAdd, Nat.reduceMul, Nat.reduceEqDiff, Nat.reduceLT, Nat.reduceLeDiff, reduceCtorEq, decide_true, ti31, ti45, ti26, ti3, un3, un56, un62, ti9, el56, Sh.fw, Ty.fw] <;> rfl) ?_
  refine dops_fn rfl (by simp only [fwA, ↓reduceIte, Nat.reduceAdd, Nat.reduceMul, Nat.reduceEqDiff, Nat.reduceLT, Nat.reduceLeDiff, reduceCtorEq] <;> rfl) rfl rfl en22 h22 ?_
  have hxb : (xb == xb) = true := by cases xb <;> rfl
  refine dops_run 14 (by simp only [fwA, ↓reduceIte, Nat.reduceAdd, Nat.reduceMul, Nat.reduceEqDiff, Nat.reduceLT, Nat.reduceLeDiff, reduceCtorEq, decide_true, ti31, ti45, ti26, ti3, un3, un56, un62, ti9, el56, Sh.fw, Ty.fw, un4, beq_self_eq_true, List.length_map, decide_true] <;> rfl) ?_
  refine dops_end ?_
  refine awp_cond (b := false) (by simp [alook, aput, ev]) ?_
  refine awp_skip ?_
  refine awp_keep (A' := [(4, .vec (fr.map I1) false), (5, .vec (to.map I1) false), (6, .int .i64 a), (7, .ptr H.length 0), (8, .ptr (H.length + 1) 0), (15, .bool true), (16, .ptr (H.length + 3) 0), (25, .vec (ps.map I1) false), (26, .vec (ps.map I1) false)]) [4, 5, 6, 7, 8, 15, 16, 25, 26] (by simp [akeep, alook, aput, ev]) ?_
  generalize hL : [Blk.box A.enc, Blk.box B.enc, Blk.box s.enc, Blk.box A.enc, Blk.box F.enc, Blk.box F.enc] = L
  refine awp_seq ?_
  refine awp_seq ?_
  -- region 13
  refine awp_run rfl (by simp only [fwA, ↓reduceIte, Nat.reduceAdd, Nat.reduceMul, Nat.reduceEqDiff, Nat.reduceLT, Nat.reduceLeDiff, reduceCtorEq] <;> rfl) ?_
  refine awp_block ?_
  refine awp_for [4, 5, 6, 7, 8, 15, 16, 25, 26, 27] (fun i : Nat => [.vec (fr.map I1) false, .vec (to.map I1) false, .int .i64 a, .ptr H.length 0, .ptr (H.length + 1) 0, .bool true, .ptr (H.length + 3) 0, .vec (ps.map I1) false, .vec (ps.map I1) false, .int .i64 (i : Int)]) (fun _ => H ++ L) (fun i => ps.length - i) (fun i => i ≤ ps.length) 0 (by simp [alook, aput, ev]) rfl (Nat.zero_le _) fun i hi => ?_
  refine awp_seq ?_
  refine awp_seq ?_
  -- region 14
  refine awp_run rfl (by simp only [fwA, ↓reduceIte, Nat.reduceAdd, Nat.reduceMul, Nat.reduceEqDiff, Nat.reduceLT, Nat.reduceLeDiff, reduceCtorEq, decide_true, ti31, ti45, ti26, ti3, un3, un56, un62, ti9, el56, Sh.fw, Ty.fw, List.length_map] <;> rfl) ?_
  refine awp_cond (by simp only [fwA, ↓reduceIte, Nat.reduceAdd, Nat.reduceMul, Nat.reduceEqDiff, Nat.reduceLT, Nat.reduceLeDiff, reduceCtorEq] <;> rfl) ?_
  by_cases hc : (i : Int) < ps.length
  rotate_left
  · simp only [hc, decide_false, Bool.false_eq_true, ↓reduceIte]
    refine awp_exit ?_
    subst hL
    refine awp_seq ?_
    -- region 18
    refine awp_run rfl (by simp only [fwA, ↓reduceIte, Nat.reduceAdd, Nat.reduceMul, Nat.reduceEqDiff, Nat.reduceLT, Nat.reduceLeDiff, reduceCtorEq, decide_true, ti31, ti45, ti26, ti3, un3, un56, un62, ti9, el56, Sh.fw, Ty.fw, List.length_cons, List.length_nil, if_pos, Nat.reduceAdd, Nat.reduceLeDiff] <;> rfl) ?_
    refine awp_seq ?_
    refine awp_seq ?_
    -- region 19 drawn
    refine awp_drawn [1, 0, 1, 0, 0, 0, 1, 1, 0, 1, 1, 0, 0, 0, 0, 0, 0, 1, 0, 0, 1, 0, 0, 0] [0, 1, 0, 7, 15, 31, 63, 63, 255, 63, 63, 1535, 4095, 8191, 16383, 32767, 65535, 65535, 262143, 65535, 65535, 2097151, 4194303, 8388607] mixed rfl (by kernel_rfl) ?_
    refine dops_run 1 (by simp only [fwA, ↓reduceIte, Nat.reduceAdd, Nat.reduceMul, Nat.reduceEqDiff, Nat.reduceLT, Nat.reduceLeDiff, reduceCtorEq, decide_true, ti31, ti45, ti26, ti3, un3, un56, un62, ti9, el56, Sh.fw, Ty.fw] <;> rfl) ?_
    refine dops_fn rfl rfl rfl rfl en23 h23 ?_
    refine dops_run 1 (by simp only [fwA, ↓reduceIte, Nat.reduceAdd, Nat.reduceMul, Nat.reduceEqDiff, Nat.reduceLT, Nat.reduceLeDiff, reduceCtorEq, decide_true, ti31, ti45, ti26, ti3, un3, un56, un62, ti9, el56, Sh.fw, Ty.fw] <;> rfl) ?_
    refine dops_fn rfl rfl rfl rfl en24 h24 ?_
    refine dops_run 4 (by simp only [fwA, ↓reduceIte, Nat.reduceAdd, Nat.reduceMul, Nat.reduceEqDiff, Nat.reduceLT, Nat.reduceLeDiff, reduceCtorEq, decide_true, ti31, ti45, ti26, ti3, un3, un56, un62, ti9, el56, Sh.fw, Ty.fw, un4, beq_self_eq_true] <;> rfl) ?_
    refine dops_fn rfl (by simp only [fwA, ↓reduceIte, Nat.reduceAdd, Nat.reduceMul, Nat.reduceEqDiff, Nat.reduceLT, Nat.reduceLeDiff, reduceCtorEq] <;> rfl) rfl rfl en25 h25 ?_
    refine dops_run 2 (by simp only [fwA, ↓reduceIte, Nat.reduceAdd, Nat.reduceMul, Nat.reduceEqDiff, Nat.reduceLT, Nat.reduceLeDiff, reduceCtorEq, decide_true, ti31, ti45, ti26, ti3, un3, un56, un62, ti9, el56, Sh.fw, Ty.fw] <;> rfl) ?_
    refine dops_fn rfl (by simp only [fwA, ↓reduceIte, Nat.reduceAdd, Nat.reduceMul, Nat.reduceEqDiff, Nat.reduceLT, Nat.reduceLeDiff, reduceCtorEq] <;> rfl) rfl rfl en14 h14B ?_
    refine dops_fn rfl (by simp only [fwA, ↓reduceIte, Nat.reduceAdd, Nat.reduceMul, Nat.reduceEqDiff, Nat.reduceLT, Nat.reduceLeDiff, reduceCtorEq] <;> rfl) rfl rfl en21 h21 ?_
    refine dops_run 5 (by simp only [fwA, ↓reduceIte, Nat.reduceAdd, Nat.reduceMul, Nat.reduceEqDiff, Nat.reduceLT, Nat.reduceLeDiff, reduceCtorEq, decide_true, ti31, ti45, ti26, ti3, un3, un56, un62, ti9, el56, Sh.fw, Ty.fw, un4, beq_self_eq_true] <;> rfl) ?_
    refine dops_fnLe rfl (by simp only [fwA, ↓reduceIte, Nat.reduceAdd, Nat.reduceMul, Nat.reduceEqDiff, Nat.reduceLT, Nat.reduceLeDiff, reduceCtorEq] <;> rfl) rfl rfl en26 h26 hle14 ?_
    refine dops_run 2 (by simp only [fwA, ↓reduceIte, Nat.reduceAdd, Nat.reduceMul, Nat.reduceEqDiff, Nat.reduceLT, Nat.reduceLeDiff, reduceCtorEq, decide_true, ti31, ti45, ti26, ti3, un3, un56, un62, ti9, el56, Sh.fw, Ty.fw] <;> rfl) ?_
    refine dops_fnLe rfl (by simp only [fwA, ↓reduceIte, Nat.reduceAdd, Nat.reduceMul, Nat.reduceEqDiff, Nat.reduceLT, Nat.reduceLeDiff, reduceCtorEq] <;> rfl) rfl rfl en27 h27 hle14 ?_
    refine dops_run 2 (by simp only [fwA, ↓reduceIte, Nat.reduceAdd, Nat.reduceMul, Nat.reduceEqDiff, Nat.reduceLT, Nat.reduceLeDiff, reduceCtorEq, decide_true, ti31, ti45, ti26, ti3, un3, un56, un62, ti9, el56, Sh.fw, Ty.fw] <;> rfl) ?_
    refine dops_end ?_
    refine awp_cond (b := false) (by simp [alook, aput, ev]) ?_
    refine awp_skip ?_
    refine awp_seq ?_
    -- region 21 drawn
    refine awp_drawn [0, 0, 1, 0, 0, 1, 0, 0, 0, 0, 1, 0, 0, 0, 1, 0, 0, 0, 0, 0, 1, 0, 0, 0, 0, 1, 0, 0, 0, 0, 0, 0, 0, 0] [0, 1, 3, 7, 15, 3, 63, 127, 255, 511, 1023, 1023, 4095, 8191, 1023, 1023, 65535, 131071, 262143, 524287, 1048575, 1048575, 1048575, 8388607, 16777215, 1048575, 1048575, 100663295, 1048575, 503316479, 1073741823, 2147483647, 4294967295, 8589934591] mixed rfl (by kernel_rfl) ?_
    refine dops_run 3 (by simp only [fwA, ↓reduceIte, Nat.reduceAdd, Nat.reduceMul, Nat.reduceEqDiff, Nat.reduceLT, Nat.reduceLeDiff, reduceCtorEq, decide_true, ti31, ti45, ti26, ti3, un3, un56, un62, ti9, el56, Sh.fw, Ty.fw] <;> rfl) ?_
    refine dops_fn rfl (by simp only [fwA, ↓reduceIte, Nat.reduceAdd, Nat.reduceMul, Nat.reduceEqDiff, Nat.reduceLT, Nat.reduceLeDiff, reduceCtorEq] <;> rfl) rfl rfl en29 h29 ?_
    refine dops_fn rfl (by simp only [fwA, ↓reduceIte, Nat.reduceAdd, Nat.reduceMul, Nat.reduceEqDiff, Nat.reduceLT, Nat.reduceLeDiff, reduceCtorEq] <;> rfl) rfl rfl en16 h16S ?_
    refine dops_run 1 (by simp only [fwA, ↓reduceIte, Nat.reduceAdd, Nat.reduceMul, Nat.reduceEqDiff, Nat.reduceLT, Nat.reduceLeDiff, reduceCtorEq, decide_true, ti31, ti45, ti26, ti3, un3, un56, un62, ti9, el56, Sh.fw, Ty.fw] <;> rfl) ?_
    refine dops_fn rfl (by simp only [fwA, ↓reduceIte, Nat.reduceAdd, Nat.reduceMul, Nat.reduceEqDiff, Nat.reduceLT, Nat.reduceLeDiff, reduceCtorEq] <;> rfl) rfl rfl en30 h30 ?_
    refine dops_fn rfl (by simp only [fwA, ↓reduceIte, Nat.reduceAdd, Nat.reduceMul, Nat.reduceEqDiff, Nat.reduceLT, Nat.reduceLeDiff, reduceCtorEq] <;> rfl) rfl rfl en28 h28 ?_
    refine dops_run 4 (by simp only [fwA, ↓reduceIte, Nat.reduceAdd, Nat.reduceMul, Nat.reduceEqDiff, Nat.reduceLT, Nat.reduceLeDiff, reduceCtorEq, decide_true, ti31, ti45, ti26, ti3, un3, un56, un62, ti9, el56, Sh.fw, Ty.fw] <;> rfl) ?_
    refine dops_fn rfl (by simp only [fwA, ↓reduceIte, Nat.reduceAdd, Nat.reduceMul, Nat.reduceEqDiff, Nat.reduceLT, Nat.reduceLeDiff, reduceCtorEq] <;> rfl) rfl rfl en31 h31 ?_
    refine dops_fn rfl (by simp only [fwA, ↓reduceIte, Nat.reduceAdd, Nat.reduceMul, Nat.reduceEqDiff, Nat.reduceLT, Nat.reduceLeDiff, reduceCtorEq] <;> rfl) rfl rfl en14 h14O ?_
    refine dops_run 2 (by simp only [fwA, ↓reduceIte, Nat.reduceAdd, Nat.reduceMul, Nat.reduceEqDiff, Nat.reduceLT, Nat.reduceLeDiff, reduceCtorEq, decide_true, ti31, ti45, ti26, ti3, un3, un56, un62, ti9, el56, Sh.fw, Ty.fw] <;> rfl) ?_
    refine dops_fn rfl (by simp only [fwA, ↓reduceIte, Nat.reduceAdd, Nat.reduceMul, Nat.reduceEqDiff, Nat.reduceLT, Nat.reduceLeDiff, reduceCtorEq] <;> rfl) rfl rfl en32 h32 ?_
    refine dops_fn rfl (by simp only [fwA, ↓reduceIte, Nat.reduceAdd, Nat.reduceMul, Nat.reduceEqDiff, Nat.reduceLT, Nat.reduceLeDiff, reduceCtorEq] <;> rfl) rfl rfl en21 h21O ?_
    refine dops_run 5 (by simp only [fwA, ↓reduceIte, Nat.reduceAdd, Nat.reduceMul, Nat.reduceEqDiff, Nat.reduceLT, Nat.reduceLeDiff, reduceCtorEq, decide_true, ti31, ti45, ti26, ti3, un3, un56, un62, ti9, el56, Sh.fw, Ty.fw] <;> rfl) ?_
    refine dops_fn rfl (by simp only [fwA, ↓reduceIte, Nat.reduceAdd, Nat.reduceMul, Nat.reduceEqDiff, Nat.reduceLT, Nat.reduceLeDiff, reduceCtorEq] <;> rfl) rfl rfl en33 h33 ?_
    refine dops_fn rfl (by simp only [fwA, ↓reduceIte, Nat.reduceAdd, Nat.reduceMul, Nat.reduceEqDiff, Nat.reduceLT, Nat.reduceLeDiff, reduceCtorEq] <;> rfl) rfl rfl en14 h14M ?_
    refine dops_run 2 (by simp only [fwA, ↓reduceIte, Nat.reduceAdd, Nat.reduceMul, Nat.reduceEqDiff, Nat.reduceLT, Nat.reduceLeDiff, reduceCtorEq, decide_true, ti31, ti45, ti26, ti3, un3, un56, un62, ti9, el56, Sh.fw, Ty.fw] <;> rfl) ?_
    refine dops_fn rfl (by simp only [fwA, ↓reduceIte, Nat.reduceAdd, Nat.reduceMul, Nat.reduceEqDiff, Nat.reduceLT, Nat.reduceLeDiff, reduceCtorEq] <;> rfl) rfl rfl en18 h18f ?_
    refine dops_run 1 (by simp only [fwA, ↓reduceIte, Nat.reduceAdd, Nat.reduceMul, Nat.reduceEqDiff, Nat.reduceLT, Nat.reduceLeDiff, reduceCtorEq, decide_true, ti31, ti45, ti26, ti3, un3, un56, un62, ti9, el56, Sh.fw, Ty.fw] <;> rfl) ?_
    refine dops_fn rfl (by simp only [fwA, ↓reduceIte, Nat.reduceAdd, Nat.reduceMul, Nat.reduceEqDiff, Nat.reduceLT, Nat.reduceLeDiff, reduceCtorEq] <;> rfl) rfl rfl en18 h18t ?_
    refine dops_fn rfl (by simp only [fwA, ↓reduceIte, Nat.reduceAdd, Nat.reduceMul, Nat.reduceEqDiff, Nat.reduceLT, Nat.reduceLeDiff, reduceCtorEq] <;> rfl) rfl rfl en34 h34 ?_
    refine dops_fn rfl (by simp only [fwA, ↓reduceIte, Nat.reduceAdd, Nat.reduceMul, Nat.reduceEqDiff, Nat.reduceLT, Nat.reduceLeDiff, reduceCtorEq] <;> rfl) rfl rfl en21 h21M ?_
    refine dops_run 2 (by simp only [fwA, ↓reduceIte, Nat.reduceAdd, Nat.reduceMul, Nat.reduceEqDiff, Nat.reduceLT, Nat.reduceLeDiff, reduceCtorEq, decide_true, ti31, ti45, ti26, ti3, un3, un56, un62, ti9, el56, Sh.fw, Ty.fw] <;> rfl) ?_
    refine dops_end ?_
    refine awp_ret ?_
    exact gives_end (.inl rfl) _ rfl
  simp only [hc, decide_true, ↓reduceIte]
  refine awp_skip ?_
  have ga : ps[i]? = some ps[i] := List.getElem?_eq_getElem (by omega)
  refine awp_seq ?_
  refine awp_block ?_
  refine awp_seq ?_
  -- region 16 drawn
  refine awp_drun [0, 0, 0, 1, 0, 0, 0, 1, 0] [0, 0, 3, 7, 0, 0, 48, 112, 255] mixed rfl (by kernel_rfl) (by simp only [fwA, ↓reduceIte, Nat.reduceAdd, Nat.reduceMul, Nat.reduceEqDiff, Nat.reduceLT, Nat.reduceLeDiff, reduceCtorEq, decide_true, ti31, ti45, ti26, ti3, un3, un56, un62, ti9, el56, Sh.fw, Ty.fw, List.getElem?_map, ga, Option.map_some, Int.natCast_nonneg, I1_fw] <;> rfl) ?_
  refine awp_cond (b := false) (by simp [alook, aput, ev]) ?_
  refine awp_skip ?_
  -- region 15
  refine awp_run rfl (by simp only [fwA, ↓reduceIte, Nat.reduceAdd, Nat.reduceMul, Nat.reduceEqDiff, Nat.reduceLT, Nat.reduceLeDiff, reduceCtorEq] <;> rfl) ?_
  exact ⟨i + 1, by omega, by omega, by rw [wrapS i (by omega)]; rfl, rfl, rfl⟩

end Go.Proofs.YtlnffadolfkggaaDoor
