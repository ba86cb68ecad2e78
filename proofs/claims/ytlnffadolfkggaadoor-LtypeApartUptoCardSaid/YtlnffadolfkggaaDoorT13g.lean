/- The law that two right types are shown alike just if they are the same. -/
import Derived.Test.YtlnffadolfkggaaDoorT13f
import Derived.Test.YtlnffadolfkggaaDoorT13e
namespace Go.Proofs.YtlnffadolfkggaaDoor
set_option linter.unusedVariables false
set_option linter.unusedSimpArgs false
set_option maxRecDepth 100000
open Go.RowKit Fw

/-- A call in a drawn region that leaves the blocks that are looked upon. -/
theorem dops_callM {P : Program} {Γ : Nat → PV} {ops : Array Oper} {cls : List Nat} {n0 : View} {K : List (Nat × PV) → List Blk → Prop} {i : Nat} {o : Oper} {rest : List (Nat × Oper)} {A : List (Nat × PV)} {H H' : List Blk} {x : Operand} {args : Array Operand} {ts : Array TypeId} {f : FuncId} {fs cs : List PV} {p : PV}
    (ho : o.op = .call { callee := .value x, args := args, argTypes := ts }) (hw : wantA ops A o = some true) (hc : cls.getD i 0 = 3) (hx : ev Γ A x = .func (.func f) fs cs) (he : Enters P f)
    (h : ACalls P Γ f (fs ++ args.toList.map (ev Γ A) ++ cs) H (fun q H1 => q = p ∧ H1 = H')) (hv : n0.vw H' = n0.vw H) (hk : DOps P Γ ops cls n0 K rest (aput A o.dst p) H') : DOps P Γ ops cls n0 K ((i, o) :: rest) A H :=
  dops_makes _ hw hc hv (fun A' hev => by
    have hops : ∀ y, y = x ∨ y ∈ args → ev Γ A' y = ev Γ A y := fun y hy => hev y (by
      rw [ho]
      simp only [Op.operands, Call.operands, Array.mem_append]
      rcases hy with rfl | hy
      · exact .inl (by simp)
      · exact .inr hy)
    refine os_call ho (by rw [hops x (.inl rfl)]; exact hx) he ?_
    rw [List.map_congr_left (l := args.toList) fun y hy => hops y (.inr (by simpa using hy))]
    exact h) hk

/-- The first so many are known labels. -/
def knN (zs : List Int) (i : Nat) : Bool := (zs.take i).all fun x => decide (-2 ≤ x)
theorem knN_succ {zs : List Int} {i : Nat} (h : i < zs.length) : knN zs (i + 1) = (knN zs i && decide (-2 ≤ zs[i])) := by
  unfold knN
  rw [List.take_add_one, List.getElem?_eq_getElem h, List.all_append]
  simp
theorem knN_all {zs : List Int} (h : knN zs zs.length = true) : ∀ x ∈ zs, -2 ≤ x := fun x hx => by
  unfold knN at h
  rw [List.take_length, List.all_eq_true] at h
  exact of_decide_eq_true (h x hx)

set_option maxHeartbeats 4000000 in
/-- LtypeApart -/
theorem c7 (Γ : Nat → PV) (hΓ : Tab Γ) (A B : Ty) (iA : A.In) (wA : A.w ≤ 2000000) (iB : B.In) (wB : B.w ≤ 2000000) :
    Gives Tryd.prog Γ 7 [.agg A.enc, .agg B.enc] (.bool true) := by
  have h25 := c25 Γ A A
  rw [decide_eq_true rfl] at h25
  have h23 := c23 Γ A
  have h26 := c26 Γ hΓ loHi (by decide) A iA (by omega)
  have h12 := c12 Γ A B (by omega)
  have h19 := c19 Γ A (by omega)
  have h19B := c19 Γ B (by omega)
  have hplB := placesOf_len B
  have h29 := c29 Γ A
  have hle14 : PV.leL [.vec [[.str [76, 111]], [.str [72, 105]]] true, .agg A.enc] [namesV loHi, .agg A.enc] := ⟨⟨nofun, PV.leLL_refl _⟩, PV.leL_refl _⟩
  have hle14B : PV.leL [.vec [[.str [76, 111]], [.str [72, 105]]] true, .agg B.enc] [namesV loHi, .agg B.enc] := ⟨⟨nofun, PV.leLL_refl _⟩, PV.leL_refl _⟩
  refine fn_of_awp Tryd.func7 rfl (by simp [Tryd.f7]) rfl fun H => ?_
  refine awp_seq ?_
  -- region 0
  refine awp_run rfl (by simp only [fwA, ↓reduceIte, Nat.reduceAdd, Nat.reduceMul, Nat.reduceEqDiff, Nat.reduceLT, Nat.reduceLeDiff, reduceCtorEq, decide_true, Ty.fw] <;> rfl) ?_
  refine awp_seq ?_
  -- region 1
  refine awp_region rfl ?_
  refine aops_fn rfl rfl rfl en9 (c9 Γ hΓ) ?_
  refine aops_run 1 (by simp only [fwA, ↓reduceIte, Nat.reduceAdd, Nat.reduceMul, Nat.reduceEqDiff, Nat.reduceLT, Nat.reduceLeDiff, reduceCtorEq, decide_true] <;> rfl) ?_
  refine awp_seq ?_
  refine awp_seq ?_
  -- region 2
  refine awp_run rfl (by simp only [fwA, ↓reduceIte, Nat.reduceAdd, Nat.reduceMul, Nat.reduceEqDiff, Nat.reduceLT, Nat.reduceLeDiff, reduceCtorEq, decide_true] <;> rfl) ?_
  refine awp_cond (by simp only [fwA, ↓reduceIte, Nat.reduceAdd, Nat.reduceMul, Nat.reduceEqDiff, Nat.reduceLT, Nat.reduceLeDiff, reduceCtorEq, decide_true] <;> rfl) ?_
  refine awp_skip ?_
  refine awp_seq ?_
  -- region 4
  refine awp_run rfl (by simp only [fwA, ↓reduceIte, Nat.reduceAdd, Nat.reduceMul, Nat.reduceEqDiff, Nat.reduceLT, Nat.reduceLeDiff, reduceCtorEq, decide_true, un62, ti9] <;> rfl) ?_
  refine awp_seq ?_
  refine awp_seq ?_
  -- region 5
  refine awp_region rfl ?_
  refine aops_run 1 (by simp only [fwA, ↓reduceIte, Nat.reduceAdd, Nat.reduceMul, Nat.reduceEqDiff, Nat.reduceLT, Nat.reduceLeDiff, reduceCtorEq, decide_true, ti31, Ty.fw] <;> rfl) ?_
  refine aops_fn rfl rfl rfl en23 h23 ?_
  refine aops_run 1 (by simp only [fwA, ↓reduceIte, Nat.reduceAdd, Nat.reduceMul, Nat.reduceEqDiff, Nat.reduceLT, Nat.reduceLeDiff, reduceCtorEq, decide_true] <;> rfl) ?_
  refine awp_cond (by simp only [fwA, ↓reduceIte, Nat.reduceAdd, Nat.reduceMul, Nat.reduceEqDiff, Nat.reduceLT, Nat.reduceLeDiff, reduceCtorEq, decide_true] <;> rfl) ?_
  by_cases hr : A.Right
  rotate_left
  · simp only [hr, decide_false, Bool.not_false, ↓reduceIte]
    have e12 : subOf A B = ([], false) := by unfold subOf; rw [if_neg fun h => hr h.1]
    have e19 : placesOf A = [] := by unfold placesOf; rw [if_neg hr]
    have e29 : shapeOf A = .mk 0 0 [] := by unfold shapeOf; rw [if_neg hr]
    have e26 : A.text loHi = [63] := by unfold Ty.text; rw [if_neg hr]
    rw [e12] at h12
    rw [e19, List.map_nil] at h19
    rw [e29, show (Sh.mk 0 0 []).enc = [.int .i64 0, .int .i64 0, .vec [] false] from rfl] at h29
    rw [e26] at h26
    refine awp_seq ?_
    -- region 6
    refine awp_region rfl ?_
    refine aops_run 2 (by simp only [fwA, ↓reduceIte, Nat.reduceAdd, Nat.reduceMul, Nat.reduceEqDiff, Nat.reduceLT, Nat.reduceLeDiff, reduceCtorEq, decide_true, ti31, Ty.fw] <;> rfl) ?_
    refine aops_fn rfl rfl rfl en12 h12 ?_
    refine aops_run 5 (by simp only [fwA, ↓reduceIte, Nat.reduceAdd, Nat.reduceMul, Nat.reduceEqDiff, Nat.reduceLT, Nat.reduceLeDiff, reduceCtorEq, decide_true] <;> rfl) ?_
    refine awp_seq ?_
    -- region 7 drawn
    refine awp_region rfl ?_
    refine aops_run 3 (by simp only [fwA, ↓reduceIte, Nat.reduceAdd, Nat.reduceMul, Nat.reduceEqDiff, Nat.reduceLT, Nat.reduceLeDiff, reduceCtorEq, decide_true, ti31, Ty.fw] <;> rfl) ?_
    refine aops_fnIf rfl rfl rfl rfl rfl en19 h19 ?_
    refine aops_run 5 (by simp only [fwA, ↓reduceIte, Nat.reduceAdd, Nat.reduceMul, Nat.reduceEqDiff, Nat.reduceLT, Nat.reduceLeDiff, reduceCtorEq, decide_true, un42, ti31, Ty.fw, List.length_nil, Int.ofNat_zero] <;> rfl) ?_
    refine aops_fnIf rfl rfl rfl rfl rfl en29 h29 ?_
    refine aops_run 6 (by simp only [fwA, ↓reduceIte, Nat.reduceAdd, Nat.reduceMul, Nat.reduceEqDiff, Nat.reduceLT, Nat.reduceLeDiff, reduceCtorEq, decide_true, fl26_0, ti31, Ty.fw, Sh.fw] <;> rfl) ?_
    refine aops_fnIf rfl rfl rfl rfl rfl en26 (h26.args hle14) ?_
    refine aops_run 9 (by simp only [fwA, ↓reduceIte, Nat.reduceAdd, Nat.reduceMul, Nat.reduceEqDiff, Nat.reduceLT, Nat.reduceLeDiff, reduceCtorEq, decide_true, ti31, Ty.fw] <;> rfl) ?_
    refine aops_fnIf rfl rfl rfl rfl rfl en25 h25 ?_
    refine aops_run 2 (by simp only [fwA, ↓reduceIte, Nat.reduceAdd, Nat.reduceMul, Nat.reduceEqDiff, Nat.reduceLT, Nat.reduceLeDiff, reduceCtorEq, decide_true] <;> rfl) ?_
    refine awp_ret ?_
    exact gives_end (.inl rfl) _ rfl
  simp only [hr, decide_true, Bool.not_true, Bool.false_eq_true, ↓reduceIte]
  refine awp_skip ?_
  refine awp_seq ?_
  -- region 8
  refine awp_run rfl (by simp only [fwA, ↓reduceIte, Nat.reduceAdd, Nat.reduceMul, Nat.reduceEqDiff, Nat.reduceLT, Nat.reduceLeDiff, reduceCtorEq, decide_true] <;> rfl) ?_
  refine awp_keep (A' := [(2, .ptr H.length 0), (3, .ptr (H.length + 1) 0), (5, .bool true), (6, .vec [[.str [76, 111]], [.str [72, 105]]] true), (9, .bool true)]) [2, 3, 5, 6, 9] (by simp [akeep, alook, aput, ev]) ?_
  refine awp_heap (H' := H ++ [.box A.enc, .box B.enc]) (by simp) ?_
  have hpl := places_len A
  refine awp_seq ?_
  refine awp_seq ?_
  -- region 9 drawn
  refine awp_drawn [4, 3, 4, 0, 2, 0, 0] [0, 1, 0, 7, 15, 31, 0] mixed rfl (by kernel_rfl) ?_
  refine dops_run 1 (by simp only [fwA, ↓reduceIte, Nat.reduceAdd, Nat.reduceMul, Nat.reduceEqDiff, Nat.reduceLT, Nat.reduceLeDiff, reduceCtorEq, decide_true, ti31, Ty.fw] <;> rfl) ?_
  refine dops_callM rfl rfl rfl rfl en19 (c19r Γ A (by omega) hr _) (View.vw_append _ (by simp) _) ?_
  refine dops_run 1 (by simp only [fwA, ↓reduceIte, Nat.reduceAdd, Nat.reduceMul, Nat.reduceEqDiff, Nat.reduceLT, Nat.reduceLeDiff, reduceCtorEq, decide_true, ti31, Ty.fw] <;> rfl) ?_
  refine dops_fn rfl rfl rfl rfl en19 h19B ?_
  refine dops_appendR (b := H.length + 5) (q := 0) (k := A.places.length) (n := (placesOf B).length) (xs := ((placesOf B).map I1).flatten) (cs := (A.places.map I1).flatten) rfl rfl rfl un42 ti28 un42 (.inl ⟨_, rfl⟩) rfl (by simp only [fwA, ↓reduceIte, Nat.reduceAdd, Nat.reduceMul, Nat.reduceEqDiff, Nat.reduceLT, Nat.reduceLeDiff, reduceCtorEq, decide_true] <;> rfl) (flatI_len _) rfl (fun es f h e he => by
      simp only [fwA, ↓reduceIte, Nat.reduceAdd, Nat.reduceMul, Nat.reduceEqDiff, Nat.reduceLT, Nat.reduceLeDiff, reduceCtorEq, decide_true, PV.vec.injEq] at h
      obtain ⟨rfl, rfl⟩ := h
      obtain ⟨x, _, rfl⟩ := List.mem_map.1 he
      rfl) (by simp only [fwA, ↓reduceIte, Nat.reduceAdd, Nat.reduceMul, Nat.reduceEqDiff, Nat.reduceLT, Nat.reduceLeDiff, reduceCtorEq, decide_true, alen, List.length_map]) (by show (A.places.length + (placesOf B).length) * 8 ≤ _; omega) (by omega) ?_
  refine dops_run 2 (by simp only [fwA, ↓reduceIte, Nat.reduceAdd, Nat.reduceMul, Nat.reduceEqDiff, Nat.reduceLT, Nat.reduceLeDiff, reduceCtorEq, decide_true, un42] <;> rfl) ?_
  refine dops_end ?_
  have hlz : (A.places ++ placesOf B).length ≤ 12000000 := by rw [List.length_append]; omega
  refine awp_keep (A' := [(2, .ptr H.length 0), (3, .ptr (H.length + 1) 0), (5, .bool true), (6, .vec [[.str [76, 111]], [.str [72, 105]]] true), (9, .bool true), (57, .row (H.length + 5) 0 (A.places ++ placesOf B).length 1), (58, .int .i64 (A.places ++ placesOf B).length), (59, .int .i64 0)]) [2, 3, 5, 6, 9, 57, 58, 59] (by simp only [akeep, alook, aput, ev, List.length_append] <;> rfl) ?_
  refine awp_heap (H' := H ++ [.box A.enc, .box B.enc, .box A.enc, .box [.row (H.length + 5) 0 A.places.length 1], .box A.enc, .row 1 (((A.places ++ placesOf B).map I1).flatten)]) (by simp) ?_
  have hkn : knN (A.places ++ placesOf B) (A.places ++ placesOf B).length = true → Known A ∧ (B.Right → Known B) := fun h => by
    have := knN_all h
    refine ⟨fun x hx => this x (List.mem_append_left _ hx), fun hb x hx => this x (List.mem_append_right _ ?_)⟩
    unfold placesOf
    rw [if_pos hb]; exact hx
  generalize A.places ++ placesOf B = zs at hlz hkn ⊢
  generalize hL : [Blk.box A.enc, .box B.enc, .box A.enc, .box [.row (H.length + 5) 0 A.places.length 1], .box A.enc, .row 1 ((zs.map I1).flatten)] = L
  refine awp_block ?_
  refine awp_for [2, 3, 5, 6, 9, 57, 58, 59] (fun i : Nat => [.ptr H.length 0, .ptr (H.length + 1) 0, .bool true, .vec [[.str [76, 111]], [.str [72, 105]]] true, .bool (knN zs i), .row (H.length + 5) 0 zs.length 1, .int .i64 zs.length, .int .i64 (i : Int)]) (fun _ => H ++ L) (fun i => zs.length - i) (fun i => i ≤ zs.length) 0 rfl rfl (Nat.zero_le _) fun i hi => ?_
  refine awp_seq ?_
  -- region 10
  refine awp_run rfl (by simp only [fwA, ↓reduceIte, Nat.reduceAdd, Nat.reduceMul, Nat.reduceEqDiff, Nat.reduceLT, Nat.reduceLeDiff, reduceCtorEq, decide_true] <;> rfl) ?_
  refine awp_seq ?_
  refine awp_cond (by simp only [fwA, ↓reduceIte, Nat.reduceAdd, Nat.reduceMul, Nat.reduceEqDiff, Nat.reduceLT, Nat.reduceLeDiff, reduceCtorEq, decide_true] <;> rfl) ?_
  by_cases hc : (i : Int) < zs.length
  rotate_left
  · simp only [hc, decide_false, Bool.false_eq_true, ↓reduceIte]
    have hi' : i = zs.length := by omega
    subst hi'
    refine awp_exit ?_
    subst hL
    -- region 14 drawn
    refine awp_seq ?_
    refine awp_drawn [0, 0, 1, 1, 0, 0, 0, 0, 0, 0, 1, 0, 0, 0, 0, 0, 1, 0, 0, 1, 0, 0, 1, 1, 0, 0, 0, 0, 0] [0, 1, 3, 3, 15, 31, 63, 127, 255, 511, 1023, 2047, 4095, 8191, 16383, 32767, 32767, 131071, 32767, 32767, 1048575, 2097151, 32767, 32767, 14680063, 33554431, 67108863, 134217727, 268435455] mixed rfl (by kernel_rfl) ?_
    refine dops_run 4 (by simp only [fwA, ↓reduceIte, Nat.reduceAdd, Nat.reduceMul, Nat.reduceEqDiff, Nat.reduceLT, Nat.reduceLeDiff, reduceCtorEq, decide_true, ti31, Ty.fw] <;> rfl) ?_
    refine dops_fn rfl rfl rfl rfl en25 h25 ?_
    cases hk : knN zs zs.length with
    | false =>
      refine dops_run 12 (by simp only [fwA, ↓reduceIte, Nat.reduceAdd, Nat.reduceMul, Nat.reduceEqDiff, Nat.reduceLT, Nat.reduceLeDiff, reduceCtorEq, decide_true, ti31, Ty.fw] <;> rfl) ?_
      refine dops_run 12 (by simp only [fwA, ↓reduceIte, Nat.reduceAdd, Nat.reduceMul, Nat.reduceEqDiff, Nat.reduceLT, Nat.reduceLeDiff, reduceCtorEq, decide_true, ti31, Ty.fw] <;> rfl) ?_
      refine dops_end ?_
      refine awp_ret ?_
      exact gives_end (.inl rfl) _ rfl
    | true =>
      obtain ⟨kA, kB⟩ := hkn hk
      refine dops_run 6 (by simp only [fwA, ↓reduceIte, Nat.reduceAdd, Nat.reduceMul, Nat.reduceEqDiff, Nat.reduceLT, Nat.reduceLeDiff, reduceCtorEq, decide_true, ti31, Ty.fw] <;> rfl) ?_
      refine dops_fn rfl rfl rfl rfl en23 (c23 Γ B) ?_
      by_cases hb : B.Right
      rotate_left
      · refine dops_run 9 (by simp only [fwA, ↓reduceIte, Nat.reduceAdd, Nat.reduceMul, Nat.reduceEqDiff, Nat.reduceLT, Nat.reduceLeDiff, reduceCtorEq, decide_true, hb, decide_false, ti31, Ty.fw] <;> rfl) ?_
        refine dops_run 8 (by simp only [fwA, ↓reduceIte, Nat.reduceAdd, Nat.reduceMul, Nat.reduceEqDiff, Nat.reduceLT, Nat.reduceLeDiff, reduceCtorEq, decide_true, ti31, Ty.fw] <;> rfl) ?_
        refine dops_end ?_
        refine awp_ret ?_
        exact gives_end (.inl rfl) _ rfl
      have h26B := c26 Γ hΓ loHi (by decide) B iB (by omega)
      have ht := text_inj hr kA hb (kB hb)
      have h25B := c25 Γ A B
      have hdt : decide (A.text loHi = B.text loHi) = decide (A = B) := decide_eq_decide.2 ht
      refine dops_run 5 (by simp only [fwA, ↓reduceIte, Nat.reduceAdd, Nat.reduceMul, Nat.reduceEqDiff, Nat.reduceLT, Nat.reduceLeDiff, reduceCtorEq, decide_true, hb, decide_true, ti31, Ty.fw] <;> rfl) ?_
      refine dops_fnLe rfl rfl rfl rfl en26 h26 hle14 ?_
      refine dops_run 2 (by simp only [fwA, ↓reduceIte, Nat.reduceAdd, Nat.reduceMul, Nat.reduceEqDiff, Nat.reduceLT, Nat.reduceLeDiff, reduceCtorEq, decide_true, ti31, Ty.fw] <;> rfl) ?_
      refine dops_fnLe rfl rfl rfl rfl en26 h26B hle14B ?_
      refine dops_run 3 (by simp only [fwA, ↓reduceIte, Nat.reduceAdd, Nat.reduceMul, Nat.reduceEqDiff, Nat.reduceLT, Nat.reduceLeDiff, reduceCtorEq, decide_true, ti31, Ty.fw, hdt] <;> rfl) ?_
      refine dops_fn rfl rfl rfl rfl en25 h25B ?_
      refine dops_run 4 (by simp only [fwA, ↓reduceIte, Nat.reduceAdd, Nat.reduceMul, Nat.reduceEqDiff, Nat.reduceLT, Nat.reduceLeDiff, reduceCtorEq, decide_true, un4, beq_self_eq_true] <;> rfl) ?_
      refine dops_end ?_
      refine awp_ret ?_
      exact gives_end (.inl rfl) _ rfl
  simp only [hc, decide_true, ↓reduceIte]
  refine awp_skip ?_
  have hia : i < zs.length := by omega
  have ga : zs[i]? = some zs[i] := List.getElem?_eq_getElem hia
  have hrow : (H ++ L)[H.length + 5]? = some (.row 1 ((zs.map I1).flatten)) := by rw [List.getElem?_append_right (by omega), ← hL]; simp
  have hs := knN_succ hia
  generalize zs[i] = z at ga hs
  refine awp_seq ?_
  refine awp_block ?_
  refine awp_seq ?_
  -- region 11
  refine awp_region rfl ?_
  refine aops_one rfl (os_index_row (sz := 1) rfl el42 rfl rfl hrow (by rw [flatI_len]) (Int.natCast_nonneg _) hc ?_)
  refine aops_one rfl (os_load (cs := ((zs.map I1).flatten).drop (0 + (i : Int).toNat * 1)) rfl ti28 (by simp only [fwA, ↓reduceIte, Nat.reduceAdd, Nat.reduceMul, Nat.reduceEqDiff, Nat.reduceLT, Nat.reduceLeDiff, reduceCtorEq, decide_true, rd, hrow, if_pos]) (row_int ga) ?_)
  refine aops_run 1 (by simp only [fwA, ↓reduceIte, Nat.reduceAdd, Nat.reduceMul, Nat.reduceEqDiff, Nat.reduceLT, Nat.reduceLeDiff, reduceCtorEq, decide_true] <;> rfl) ?_
  -- region 12
  cases hk : knN zs i with
  | false =>
    refine awp_run rfl (by simp only [fwA, ↓reduceIte, Nat.reduceAdd, Nat.reduceMul, Nat.reduceEqDiff, Nat.reduceLT, Nat.reduceLeDiff, reduceCtorEq, decide_true] <;> rfl) ?_
    refine awp_run rfl (by simp only [fwA, ↓reduceIte, Nat.reduceAdd, Nat.reduceMul, Nat.reduceEqDiff, Nat.reduceLT, Nat.reduceLeDiff, reduceCtorEq, decide_true] <;> rfl) ?_
    exact ⟨i + 1, by omega, by omega, by rw [hs, hk, Bool.false_and, wrapS i (by omega)]; rfl, rfl, rfl⟩
  | true =>
    refine awp_run rfl (by simp only [fwA, ↓reduceIte, Nat.reduceAdd, Nat.reduceMul, Nat.reduceEqDiff, Nat.reduceLT, Nat.reduceLeDiff, reduceCtorEq, decide_true] <;> rfl) ?_
    refine awp_run rfl (by simp only [fwA, ↓reduceIte, Nat.reduceAdd, Nat.reduceMul, Nat.reduceEqDiff, Nat.reduceLT, Nat.reduceLeDiff, reduceCtorEq, decide_true] <;> rfl) ?_
    exact ⟨i + 1, by omega, by omega, by rw [hs, hk, Bool.true_and, wrapS i (by omega)]; rfl, rfl, rfl⟩

end Go.Proofs.YtlnffadolfkggaaDoor
