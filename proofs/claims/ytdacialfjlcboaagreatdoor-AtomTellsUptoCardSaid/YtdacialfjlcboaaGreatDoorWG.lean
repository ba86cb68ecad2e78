/- The contracts of atoms: renaming (turned by a tool of mine from chapter 13's texts). -/
import Derived.Test.YtdacialfjlcboaaGreatDoorWF
import Derived.Test.YtdacialfjlcboaaGreatDoorWE
namespace Go.Proofs.YtdacialfjlcboaaGreatDoor
set_option linter.unusedVariables false
set_option linter.unusedSimpArgs false
set_option maxRecDepth 100000
open Go.RowKit Fw

theorem flatP_len (l : List Pr) : ((l.map Pr.enc).flatten).length = 0 + l.length * 2 := by rw [flat_len (sz := 2) (fun _ => rfl)]; omega
theorem flatP_bd (m : Nat) (l : List Pr) : PV.bdL m ((l.map Pr.enc).flatten) = true := flat_bd (fun _ => rfl) l
theorem flatP_chunk (l : List Pr) : chunk 2 l.length ((l.map Pr.enc).flatten) = l.map Pr.enc := flat_chunk (enc := Pr.enc) (sz := 2) (fun _ => rfl) l

/-- The first place of an atom in a list; what stands there in another one; else itself. -/
def renI (fr to : List Int) (a : Int) : Int :=
  match fr.findIdx? (fun b => decide (b = a)) with
  | some k => to.getD k a
  | none => a

theorem renI_none {fr to : List Int} {a : Int} (h : ∀ j, j < fr.length → fr[j]? ≠ some a) : renI fr to a = a := by
  unfold renI
  have : fr.findIdx? (fun b => decide (b = a)) = none := by
    rw [List.findIdx?_eq_none_iff]
    intro x hx
    obtain ⟨j, hj⟩ := List.getElem?_of_mem hx
    have := h j (List.getElem?_eq_some_iff.1 hj).1
    rw [hj] at this
    simpa using this
  rw [this]
theorem renI_some {fr to : List Int} {a : Int} {i : Nat} (h : ∀ j, j < i → fr[j]? ≠ some a) (hi : fr[i]? = some a) : renI fr to a = to.getD i a := by
  unfold renI
  have : fr.findIdx? (fun b => decide (b = a)) = some i := by
    obtain ⟨h1, h2⟩ := List.getElem?_eq_some_iff.1 hi
    rw [List.findIdx?_eq_some_iff_getElem]
    refine ⟨h1, by simp [h2], fun j hj => ?_⟩
    have := h j hj
    rw [List.getElem?_eq_getElem (by omega)] at this
    simpa using this
  rw [this]

/-- chancel/chancelref10.One -/
theorem c49 (Γ : Nat → PV) (fr to : List Int) (a : Int) : Gives Tryz.prog Γ 49 [.int .i64 a, .vec (fr.map I1) false, .vec (to.map I1) false] (.int .i64 (renI fr to a)) := by
  refine fn_of_awp Tryz.func49 rfl (by simp [Tryz.f49]) rfl fun H => ?_
  refine awp_vlen 1 rfl fun hlen => ?_
  rw [List.length_map] at hlen
  refine awp_seq ?_
  refine awp_run rfl (by simp only [fwA, ↓reduceIte, Nat.reduceAdd, Nat.reduceMul, Nat.reduceEqDiff, Nat.reduceLT, Nat.reduceLeDiff, reduceCtorEq] <;> rfl) ?_
  refine awp_seq ?_
  refine awp_seq ?_
  refine awp_run rfl (by simp only [fwA, ↓reduceIte, Nat.reduceAdd, Nat.reduceMul, Nat.reduceEqDiff, Nat.reduceLT, Nat.reduceLeDiff, reduceCtorEq] <;> rfl) ?_
  refine awp_block ?_
  refine awp_for [0, 1, 2, 7] (fun i : Nat => [.int .i64 a, .vec (fr.map I1) false, .vec (to.map I1) false, .int .i64 (i : Int)]) (fun _ => H) (fun i => fr.length - i) (fun i => i ≤ fr.length ∧ ∀ j, j < i → fr[j]? ≠ some a) 0 rfl rfl ⟨Nat.zero_le _, fun j hj => by omega⟩ fun i hs => ?_
  obtain ⟨hi, hno⟩ := hs
  refine awp_seq ?_
  refine awp_seq ?_
  refine awp_run rfl (by simp only [fwA, ↓reduceIte, Nat.reduceAdd, Nat.reduceMul, Nat.reduceEqDiff, Nat.reduceLT, Nat.reduceLeDiff, reduceCtorEq, un29, List.length_map] <;> rfl) ?_
  refine awp_cond (by simp only [fwA, ↓reduceIte, Nat.reduceAdd, Nat.reduceMul, Nat.reduceEqDiff, Nat.reduceLT, Nat.reduceLeDiff, reduceCtorEq] <;> rfl) ?_
  by_cases hc : (i : Int) < fr.length
  rotate_left
  · simp only [hc, decide_false, Bool.false_eq_true, ↓reduceIte]
    refine awp_exit ?_
    refine awp_seq (awp_run rfl (by simp only [fwA, ↓reduceIte, Nat.reduceAdd, Nat.reduceMul, Nat.reduceEqDiff, Nat.reduceLT, Nat.reduceLeDiff, reduceCtorEq] <;> rfl) (awp_ret ?_))
    have hi' : i = fr.length := by omega
    rw [hi'] at hno
    exact gives_end0 (.inl rfl) (by rw [renI_none hno]; rfl)
  simp only [hc, decide_true, ↓reduceIte]
  refine awp_skip ?_
  have hia : i < fr.length := by omega
  have ga : fr[i]? = some fr[i] := List.getElem?_eq_getElem hia
  refine awp_seq ?_
  refine awp_block ?_
  refine awp_seq ?_
  -- region 4
  refine awp_run rfl (by simp only [fwA, ↓reduceIte, Nat.reduceAdd, Nat.reduceMul, Nat.reduceEqDiff, Nat.reduceLT, Nat.reduceLeDiff, reduceCtorEq, el29, ti3, List.getElem?_map, ga, Option.map_some, Int.natCast_nonneg, I1_fw] <;> rfl) ?_
  refine awp_cond (by simp only [fwA, ↓reduceIte, Nat.reduceAdd, Nat.reduceMul, Nat.reduceEqDiff, Nat.reduceLT, Nat.reduceLeDiff, reduceCtorEq] <;> rfl) ?_
  by_cases he : fr[i] = a
  · simp only [he, decide_true, ↓reduceIte]
    have hri := renI_some (to := to) hno (ga.trans (congrArg some he))
    rw [hri]
    refine awp_seq ?_
    refine awp_seq ?_
    -- region 5
    refine awp_run rfl (by simp only [fwA, ↓reduceIte, Nat.reduceAdd, Nat.reduceMul, Nat.reduceEqDiff, Nat.reduceLT, Nat.reduceLeDiff, reduceCtorEq, un29, List.length_map] <;> rfl) ?_
    refine awp_cond (by simp only [fwA, ↓reduceIte, Nat.reduceAdd, Nat.reduceMul, Nat.reduceEqDiff, Nat.reduceLT, Nat.reduceLeDiff, reduceCtorEq] <;> rfl) ?_
    by_cases ht : (i : Int) < to.length
    · simp only [ht, decide_true, ↓reduceIte]
      have hta : i < to.length := by omega
      have gt : to[i]? = some to[i] := List.getElem?_eq_getElem hta
      refine awp_seq ?_
      refine awp_run rfl (by simp only [fwA, ↓reduceIte, Nat.reduceAdd, Nat.reduceMul, Nat.reduceEqDiff, Nat.reduceLT, Nat.reduceLeDiff, reduceCtorEq, el29, ti3, List.getElem?_map, gt, Option.map_some, Int.natCast_nonneg, I1_fw] <;> rfl) (awp_ret ?_)
      exact gives_end0 (.inl rfl) (by rw [List.getD_eq_getElem?_getD, gt]; rfl)
    · simp only [ht, decide_false, Bool.false_eq_true, ↓reduceIte]
      refine awp_skip ?_
      refine awp_seq ?_
      refine awp_run rfl (by simp only [fwA, ↓reduceIte, Nat.reduceAdd, Nat.reduceMul, Nat.reduceEqDiff, Nat.reduceLT, Nat.reduceLeDiff, reduceCtorEq] <;> rfl) (awp_ret ?_)
      exact gives_end0 (.inl rfl) (by rw [List.getD_eq_getElem?_getD, List.getElem?_eq_none (by omega)]; rfl)
  simp only [he, decide_false, Bool.false_eq_true, ↓reduceIte]
  refine awp_skip ?_
  -- region 3
  refine awp_run rfl (by simp only [fwA, ↓reduceIte, Nat.reduceAdd, Nat.reduceMul, Nat.reduceEqDiff, Nat.reduceLT, Nat.reduceLeDiff, reduceCtorEq] <;> rfl) ?_
  refine ⟨i + 1, by omega, ⟨by omega, fun j hj => ?_⟩, by rw [wrapS i (by omega)]; rfl, rfl, rfl⟩
  by_cases hji : j = i
  · subst hji; rw [ga]; simpa using he
  · exact hno j (by omega)

section
variable {P : Program} {Γ : Nat → PV}
/-- A piece that ends with more blocks than are looked at. -/
theorem awp_cut {N : Nat} {ro : Option Nat} {c : Code} {A : List (Nat × PV)} {H : List Blk} {Q : Post} (ks : List Nat) (S : List PV) (H1 : List Blk) (bd1 : ∀ B ∈ H1, B.bd H1.length = true) (bd2 : PV.bdL H1.length S = true) (hn : H.length ≤ H1.length)
    (h : AWP P Γ N ro c A H [] (fun e A' H' D' => e = .normal ∧ ks.map (alook A') = S ∧ (∃ L, H' = H1 ++ L) ∧ D' = [])) (hk : Q .normal (ks.zip S) H1 []) : AWP P Γ N ro c A H [] Q := by
  intro w0 G w a hs ha hd
  refine wpIn_mono (h w0 G w a hs ha hd) fun e a' w' hl => ?_
  obtain ⟨G', A1, H1', D1, g1, g2, g3, g4, g5, g6⟩ := hl
  obtain ⟨rfl, hks, ⟨L, rfl⟩, rfl⟩ := g6
  have ht : (H1 ++ L).take H1.length = H1 := List.take_left' rfl
  have g1' := g1.take H1.length (by simp) (by rw [ht]; exact bd1)
  rw [ht] at g1'
  refine ⟨G', ks.zip S, H1, [], g1', ⟨g2.1, fun t => ?_⟩, ⟨g3.1, fun b hb => by cases hb⟩, g4, hn, hk⟩
  have hz := (g2.less fun t => zip_look ks _ t A1 hks).2 t
  refine hz.cut _ ?_
  have : ∀ (keep : List Nat) (ps : List PV), PV.bdL H1.length ps = true → (alook (keep.zip ps) t).bd H1.length = true := by
    intro keep
    induction keep with
    | nil => intro ps _; rfl
    | cons k keep ih =>
      intro ps hp
      cases ps with
      | nil => rfl
      | cons p ps =>
        simp only [PV.bdL, Bool.and_eq_true] at hp
        simp only [List.zip_cons_cons, alook]
        split
        · exact hp.1
        · exact ih ps hp.2
  exact this ks _ bd2

/-- A call that reads, in a drawn region. -/
theorem dops_rcall {ops : Array Oper} {cls : List Nat} {n0 : View} {K : List (Nat × PV) → List Blk → Prop} {i : Nat} {o : Oper} {rest : List (Nat × Oper)} {A : List (Nat × PV)} {H : List Blk} {x : Operand} {args : Array Operand} {ts : Array TypeId} {f : FuncId} {fs cs : List PV} {p : PV}
    (ho : o.op = .call { callee := .value x, args := args, argTypes := ts }) (hw : wantA ops A o = some true) (hc : cls.getD i 0 = 1) (hx : ev Γ A x = .func (.func f) fs cs) (he : Enters P f)
    (h : ACalls P Γ f (fs ++ args.toList.map (ev Γ A) ++ cs) H (fun q H1 => q = p ∧ H1 = H)) (hk : DOps P Γ ops cls n0 K rest (aput A o.dst p) H) : DOps P Γ ops cls n0 K ((i, o) :: rest) A H :=
  dops_reads p hw hc (fun A' hev => by
    have hops : ∀ y, y = x ∨ y ∈ args → ev Γ A' y = ev Γ A y := fun y hy => hev y (by
      rw [ho]
      simp only [Op.operands, Call.operands, Array.mem_append]
      rcases hy with rfl | hy
      · exact .inl (by simp)
      · exact .inr hy)
    refine os_call ho (by rw [hops x (.inl rfl)]; exact hx) he ?_
    rw [List.map_congr_left (l := args.toList) fun y hy => hops y (.inr (by simpa using hy))]
    exact h) hk
end

def idxI (fr : List Int) (a : Int) : Int := match fr.findIdx? (fun b => decide (b = a)) with
  | some k => k
  | none => -1
theorem idxI_none {fr : List Int} {a : Int} (h : ∀ j, j < fr.length → fr[j]? ≠ some a) : idxI fr a = -1 := by
  unfold idxI
  have : fr.findIdx? (fun b => decide (b = a)) = none := by
    rw [List.findIdx?_eq_none_iff]
    intro x hx
    obtain ⟨j, hj⟩ := List.getElem?_of_mem hx
    have := h j (List.getElem?_eq_some_iff.1 hj).1
    rw [hj] at this
    simpa using this
  rw [this]
theorem idxI_some {fr : List Int} {a : Int} {i : Nat} (h : ∀ j, j < i → fr[j]? ≠ some a) (hi : fr[i]? = some a) : idxI fr a = i := by
  unfold idxI
  have : fr.findIdx? (fun b => decide (b = a)) = some i := by
    obtain ⟨h1, h2⟩ := List.getElem?_eq_some_iff.1 hi
    rw [List.findIdx?_eq_some_iff_getElem]
    refine ⟨h1, by simp [h2], fun j hj => ?_⟩
    have := h j hj
    rw [List.getElem?_eq_getElem (by omega)] at this
    simpa using this
  rw [this]

/-- slices.Index[[]chancel/atom.Atom,chancel/atom.Atom] -/
theorem c48 (Γ : Nat → PV) (fr : List Int) (a : Int) : Gives Tryz.prog Γ 48 [.vec (fr.map I1) false, .int .i64 a] (.int .i64 (idxI fr a)) := by
  refine fn_of_awp Tryz.func48 rfl (by simp [Tryz.f48]) rfl fun H => ?_
  refine awp_vlen 0 rfl fun hlen => ?_
  rw [List.length_map] at hlen
  refine awp_seq ?_
  refine awp_run rfl (by simp only [fwA, ↓reduceIte, Nat.reduceAdd, Nat.reduceMul, Nat.reduceEqDiff, Nat.reduceLT, Nat.reduceLeDiff, reduceCtorEq] <;> rfl) ?_
  refine awp_seq ?_
  refine awp_seq ?_
  refine awp_run rfl (by simp only [fwA, ↓reduceIte, Nat.reduceAdd, Nat.reduceMul, Nat.reduceEqDiff, Nat.reduceLT, Nat.reduceLeDiff, reduceCtorEq, un23, List.length_map] <;> rfl) ?_
  refine awp_block ?_
  refine awp_for [0, 1, 7, 8] (fun i : Nat => [.vec (fr.map I1) false, .int .i64 a, .int .i64 fr.length, .int .i64 (i : Int)]) (fun _ => H) (fun i => fr.length - i) (fun i => i ≤ fr.length ∧ ∀ j, j < i → fr[j]? ≠ some a) 0 rfl rfl ⟨Nat.zero_le _, fun j hj => by omega⟩ fun i hs => ?_
  obtain ⟨hi, hno⟩ := hs
  refine awp_seq ?_
  refine awp_run rfl (by simp only [fwA, ↓reduceIte, Nat.reduceAdd, Nat.reduceMul, Nat.reduceEqDiff, Nat.reduceLT, Nat.reduceLeDiff, reduceCtorEq] <;> rfl) ?_
  refine awp_seq ?_
  refine awp_cond (by simp only [fwA, ↓reduceIte, Nat.reduceAdd, Nat.reduceMul, Nat.reduceEqDiff, Nat.reduceLT, Nat.reduceLeDiff, reduceCtorEq] <;> rfl) ?_
  by_cases hc : (i : Int) < fr.length
  rotate_left
  · simp only [hc, decide_false, Bool.false_eq_true, ↓reduceIte]
    refine awp_exit ?_
    refine awp_seq (awp_run rfl (by simp only [fwA, ↓reduceIte, Nat.reduceAdd, Nat.reduceMul, Nat.reduceEqDiff, Nat.reduceLT, Nat.reduceLeDiff, reduceCtorEq] <;> rfl) (awp_ret ?_))
    have hi' : i = fr.length := by omega
    rw [hi'] at hno
    exact gives_end0 (.inl rfl) (by rw [idxI_none hno]; rfl)
  simp only [hc, decide_true, ↓reduceIte]
  refine awp_skip ?_
  have hia : i < fr.length := by omega
  have ga : fr[i]? = some fr[i] := List.getElem?_eq_getElem hia
  refine awp_seq ?_
  refine awp_block ?_
  refine awp_seq ?_
  refine awp_run rfl (by simp only [fwA, ↓reduceIte, Nat.reduceAdd, Nat.reduceMul, Nat.reduceEqDiff, Nat.reduceLT, Nat.reduceLeDiff, reduceCtorEq] <;> rfl) ?_
  refine awp_seq ?_
  -- region 4
  refine awp_run rfl (by simp only [fwA, ↓reduceIte, Nat.reduceAdd, Nat.reduceMul, Nat.reduceEqDiff, Nat.reduceLT, Nat.reduceLeDiff, reduceCtorEq, el23, ti24, List.getElem?_map, ga, Option.map_some, Int.natCast_nonneg, I1_fw] <;> rfl) ?_
  refine awp_cond (by simp only [fwA, ↓reduceIte, Nat.reduceAdd, Nat.reduceMul, Nat.reduceEqDiff, Nat.reduceLT, Nat.reduceLeDiff, reduceCtorEq] <;> rfl) ?_
  by_cases he : a = fr[i]
  · simp only [← he, decide_true, ↓reduceIte]
    have hri := idxI_some hno (ga.trans (congrArg some he.symm))
    rw [hri]
    refine awp_seq ?_
    refine awp_run rfl (by simp only [fwA, ↓reduceIte, Nat.reduceAdd, Nat.reduceMul, Nat.reduceEqDiff, Nat.reduceLT, Nat.reduceLeDiff, reduceCtorEq] <;> rfl) (awp_ret ?_)
    exact gives_end0 (.inl rfl) rfl
  simp only [he, decide_false, Bool.false_eq_true, ↓reduceIte]
  refine awp_skip ?_
  refine awp_run rfl (by simp only [fwA, ↓reduceIte, Nat.reduceAdd, Nat.reduceMul, Nat.reduceEqDiff, Nat.reduceLT, Nat.reduceLeDiff, reduceCtorEq] <;> rfl) ?_
  refine ⟨i + 1, by omega, ⟨by omega, fun j hj => ?_⟩, by rw [wrapS i (by omega)]; rfl, rfl, rfl⟩
  by_cases hji : j = i
  · subst hji; rw [ga]; simpa using fun h => he h.symm
  · exact hno j (by omega)

/-- chancel/atom.Rename$1 -/
theorem c47 (Γ : Nat → PV) (fr to : List Int) (a : Int) (b1 b2 : Nat) (H : List Blk) (h1 : H[b1]? = some (.box [.vec (fr.map I1) false])) (h2 : H[b2]? = some (.box [.vec (to.map I1) false])) :
    ACalls Tryz.prog Γ 47 [.int .i64 a, .ptr b1 0, .ptr b2 0] H (fun p H' => p = .int .i64 (renI fr to a) ∧ H' = H) := by
  refine acalls_of_awp Tryz.func47 rfl (by simp [Tryz.f47]) fun hbd => ?_
  refine awp_seq ?_
  refine awp_run rfl (by simp only [fwA, ↓reduceIte, Nat.reduceAdd, Nat.reduceMul, Nat.reduceEqDiff, Nat.reduceLT, Nat.reduceLeDiff, reduceCtorEq] <;> rfl) ?_
  refine awp_seq ?_
  refine awp_seq ?_
  -- region 1
  refine awp_region rfl ?_
  refine aops_run 2 (by simp only [fwA, ↓reduceIte, Nat.reduceAdd, Nat.reduceMul, Nat.reduceEqDiff, Nat.reduceLT, Nat.reduceLeDiff, reduceCtorEq, ti23, h1] <;> rfl) ?_
  refine aops_fn rfl rfl rfl en48 (c48 Γ fr a) ?_
  refine aops_run 1 (by simp only [fwA, ↓reduceIte, Nat.reduceAdd, Nat.reduceMul, Nat.reduceEqDiff, Nat.reduceLT, Nat.reduceLeDiff, reduceCtorEq] <;> rfl) ?_
  have hri : renI fr to a = if 0 ≤ idxI fr a ∧ idxI fr a < to.length then to.getD (idxI fr a).toNat a else a := by
    unfold renI idxI
    cases fr.findIdx? (fun b => decide (b = a)) with
    | none => exact (if_neg (show ¬(0 ≤ (-1 : Int) ∧ (-1 : Int) < to.length) by omega)).symm
    | some k =>
      show to.getD k a = if 0 ≤ (k : Int) ∧ (k : Int) < to.length then to.getD (k : Int).toNat a else a
      split
      · rfl
      · rename_i hn
        rw [List.getD_eq_getElem?_getD, List.getElem?_eq_none (by omega)]; rfl
  generalize idxI fr a = k at hri ⊢
  refine awp_seq ?_
  -- region 2
  by_cases hk : 0 ≤ k
  · refine awp_run rfl (by simp only [fwA, ↓reduceIte, Nat.reduceAdd, Nat.reduceMul, Nat.reduceEqDiff, Nat.reduceLT, Nat.reduceLeDiff, reduceCtorEq, ti23, un23, h2, ge_iff_le, hk, decide_true, List.length_map] <;> rfl) ?_
    refine awp_cond (by simp only [fwA, ↓reduceIte, Nat.reduceAdd, Nat.reduceMul, Nat.reduceEqDiff, Nat.reduceLT, Nat.reduceLeDiff, reduceCtorEq] <;> rfl) ?_
    by_cases hl : k < to.length
    · simp only [hl, decide_true, ↓reduceIte]
      have hta : k.toNat < to.length := by omega
      have gt : to[k.toNat]? = some to[k.toNat] := List.getElem?_eq_getElem hta
      refine awp_seq ?_
      refine awp_run rfl (by simp only [fwA, ↓reduceIte, Nat.reduceAdd, Nat.reduceMul, Nat.reduceEqDiff, Nat.reduceLT, Nat.reduceLeDiff, reduceCtorEq, ti23, el23, ti24, h2, hk, List.getElem?_map, gt, Option.map_some, I1_fw] <;> rfl) ?_
      refine awp_ret ?_
      refine calls_at (p := .int .i64 (renI fr to a)) (R := fun p H' => p = .int .i64 (renI fr to a) ∧ H' = H) (.inl rfl) hbd ?_ rfl (Nat.le_refl _) ⟨rfl, rfl⟩
      rw [hri, if_pos ⟨hk, hl⟩, List.getD_eq_getElem?_getD, gt]
      rfl
    · simp only [hl, decide_false, Bool.false_eq_true, ↓reduceIte]
      refine awp_skip ?_
      refine awp_seq ?_
      refine awp_run rfl (by simp only [fwA, ↓reduceIte, Nat.reduceAdd, Nat.reduceMul, Nat.reduceEqDiff, Nat.reduceLT, Nat.reduceLeDiff, reduceCtorEq] <;> rfl) ?_
      refine awp_ret ?_
      refine calls_at (p := .int .i64 (renI fr to a)) (R := fun p H' => p = .int .i64 (renI fr to a) ∧ H' = H) (.inl rfl) hbd ?_ rfl (Nat.le_refl _) ⟨rfl, rfl⟩
      rw [hri, if_neg fun h => hl h.2]
      rfl
  · refine awp_run rfl (by simp only [fwA, ↓reduceIte, Nat.reduceAdd, Nat.reduceMul, Nat.reduceEqDiff, Nat.reduceLT, Nat.reduceLeDiff, reduceCtorEq, ti23, un23, h2, ge_iff_le, hk, decide_false] <;> rfl) ?_
    refine awp_cond (by simp only [fwA, ↓reduceIte, Nat.reduceAdd, Nat.reduceMul, Nat.reduceEqDiff, Nat.reduceLT, Nat.reduceLeDiff, reduceCtorEq] <;> rfl) ?_
    refine awp_skip ?_
    refine awp_seq ?_
    refine awp_run rfl (by simp only [fwA, ↓reduceIte, Nat.reduceAdd, Nat.reduceMul, Nat.reduceEqDiff, Nat.reduceLT, Nat.reduceLeDiff, reduceCtorEq] <;> rfl) ?_
    refine awp_ret ?_
    refine calls_at (p := .int .i64 (renI fr to a)) (R := fun p H' => p = .int .i64 (renI fr to a) ∧ H' = H) (.inl rfl) hbd ?_ rfl (Nat.le_refl _) ⟨rfl, rfl⟩
    rw [hri, if_neg fun h => hk h.1]
    rfl

def Pr.map (g : Int → Int) (p : Pr) : Pr := ⟨g p.a, g p.b⟩

/-- chancel/atom.turned -/
theorem c44 (Γ : Nat → PV) (f : Nat) (he : Enters Tryz.prog f) (caps : List PV) (g : Int → Int) (ps : List Pr) (hl : ps.length ≤ 1000000000) (H : List Blk) (hcaps : PV.bdL H.length caps = true)
    (hf : ∀ (a : Int) (L : List Blk), ACalls Tryz.prog Γ f (.int .i64 a :: caps) (H ++ L) (fun p H' => p = .int .i64 (g a) ∧ H' = H ++ L)) :
    ACalls Tryz.prog Γ 44 [.vec (ps.map Pr.enc) false, .func (.func f) [] caps] H (fun p H' => p = .vec ((ps.map (Pr.map g)).map Pr.enc) false ∧ H' = H) := by
  refine acalls_of_awp Tryz.func44 rfl (by simp [Tryz.f44]) fun hbd => ?_
  refine awp_seq ?_
  refine awp_run rfl (by simp only [fwA, ↓reduceIte, Nat.reduceAdd, Nat.reduceMul, Nat.reduceEqDiff, Nat.reduceLT, Nat.reduceLeDiff, reduceCtorEq] <;> rfl) ?_
  refine awp_seq ?_
  refine awp_run rfl (by simp only [fwA, ↓reduceIte, Nat.reduceAdd, Nat.reduceMul, Nat.reduceEqDiff, Nat.reduceLT, Nat.reduceLeDiff, reduceCtorEq] <;> rfl) ?_
  refine awp_seq ?_
  refine awp_seq ?_
  -- region 2
  refine awp_run rfl (by simp only [fwA, ↓reduceIte, Nat.reduceAdd, Nat.reduceMul, Nat.reduceEqDiff, Nat.reduceLT, Nat.reduceLeDiff, reduceCtorEq, un22, List.length_map] <;> rfl) ?_
  refine awp_told (told_adopt 5 2 (by decide) rfl) ?_
  refine awp_block ?_
  refine awp_forG [1, 5, 8, 9, 10] (fun i : Nat => [.func (.func f) [] caps, .row H.length 0 i 2, .vec (ps.map Pr.enc) false, .int .i64 ps.length, .int .i64 (i : Int)])
    (fun i => H ++ [.row 2 ((((ps.take i).map (Pr.map g))).map Pr.enc).flatten])
    (fun i => ps.length - i) (fun i => i ≤ ps.length) 0 rfl rfl (Nat.zero_le _) (fun i _ => ⟨bd_app (fun B hB => hbd B hB) (by simp only [List.all_cons, List.all_nil, Blk.bd, flatP_bd, Bool.and_true]), by simp [PV.bdL, PV.bd]; exact PV.bdL_mono (Nat.le_succ _) _ hcaps⟩) (fun i _ b hb => by cases hb) fun i hi => ?_
  have hti : ((ps.take i).map (Pr.map g)).length = i := by simp; omega
  refine awp_seq ?_
  refine awp_run rfl (by simp only [fwA, ↓reduceIte, Nat.reduceAdd, Nat.reduceMul, Nat.reduceEqDiff, Nat.reduceLT, Nat.reduceLeDiff, reduceCtorEq] <;> rfl) ?_
  refine awp_seq ?_
  refine awp_cond (by simp only [fwA, ↓reduceIte, Nat.reduceAdd, Nat.reduceMul, Nat.reduceEqDiff, Nat.reduceLT, Nat.reduceLeDiff, reduceCtorEq] <;> rfl) ?_
  by_cases hc : (i : Int) < ps.length
  rotate_left
  · simp only [hc, decide_false, Bool.false_eq_true, ↓reduceIte]
    refine awp_exit ?_
    have hi' : i = ps.length := by omega
    refine awp_told (told_freezeAt H _ 0 (C := (((ps.take i).map (Pr.map g)).map Pr.enc).flatten) rfl (flatP_bd _ _)) ?_
    have hl : ((((ps.take i).map (Pr.map g)).map Pr.enc).flatten).length = i * 2 := by rw [flatP_len, hti]; omega
    have hch : chunk 2 i ((((ps.take i).map (Pr.map g)).map Pr.enc).flatten) = ((ps.take i).map (Pr.map g)).map Pr.enc := by
      have := flatP_chunk ((ps.take i).map (Pr.map g))
      rwa [hti] at this
    refine awp_seq (awp_run rfl (by simp only [fwA, ↓reduceIte, Nat.reduceAdd, Nat.reduceMul, Nat.reduceEqDiff, Nat.reduceLT, Nat.reduceLeDiff, reduceCtorEq, hl, hch] <;> rfl) (awp_ret ?_))
    refine calls_end _ (.inl rfl) hbd (p := .vec ((ps.map (Pr.map g)).map Pr.enc) false) ?_ rfl ⟨rfl, rfl⟩
    simp only [fwA, ↓reduceIte, Nat.reduceAdd, Nat.reduceMul, Nat.reduceEqDiff, Nat.reduceLT, Nat.reduceLeDiff, reduceCtorEq, ares, aresL, ares1, Tryz.f44, hi', List.take_length]
  simp only [hc, decide_true, ↓reduceIte]
  refine awp_skip ?_
  have hia : i < ps.length := by omega
  have ga : ps[i]? = some ps[i] := List.getElem?_eq_getElem hia
  refine awp_seq ?_
  refine awp_block ?_
  refine awp_seq ?_
  -- region 4
  refine awp_run rfl (by simp only [fwA, ↓reduceIte, Nat.reduceAdd, Nat.reduceMul, Nat.reduceEqDiff, Nat.reduceLT, Nat.reduceLeDiff, reduceCtorEq, el22, ti53, Pr.fw, List.getElem?_map, ga, Option.map_some, Int.natCast_nonneg] <;> rfl) ?_
  -- region 5 drawn
  refine awp_drawn [0, 0, 0, 1, 1, 0, 0, 1, 1, 0, 0, 2, 0] [0, 0, 0, 4, 14, 0, 0, 64, 254, 510, 1022, 2047, 4095] mixed rfl (by kernel_rfl) ?_
  refine dops_run 4 (by simp only [fwA, ↓reduceIte, Nat.reduceAdd, Nat.reduceMul, Nat.reduceEqDiff, Nat.reduceLT, Nat.reduceLeDiff, reduceCtorEq, fl53_0, ti24, Pr.fw] <;> rfl) ?_
  refine dops_rcall rfl rfl rfl rfl he (hf ps[i].a _) ?_
  refine dops_run 3 (by simp only [fwA, ↓reduceIte, Nat.reduceAdd, Nat.reduceMul, Nat.reduceEqDiff, Nat.reduceLT, Nat.reduceLeDiff, reduceCtorEq, fl53_1, ti24, Pr.fw] <;> rfl) ?_
  refine dops_rcall rfl rfl rfl rfl he (hf ps[i].b _) ?_
  refine dops_run 2 (by simp only [fwA, ↓reduceIte, Nat.reduceAdd, Nat.reduceMul, Nat.reduceEqDiff, Nat.reduceLT, Nat.reduceLeDiff, reduceCtorEq, ti53, pl53, un22] <;> rfl) ?_
  refine dops_appendR rfl rfl rfl un22 ti53 un22 (.inl ⟨_, rfl⟩) rfl (by simp only [fwA, ↓reduceIte, Nat.reduceAdd, Nat.reduceMul, Nat.reduceEqDiff, Nat.reduceLT, Nat.reduceLeDiff, reduceCtorEq] <;> rfl) (by rw [flat_len (sz := 2) (fun _ => rfl), hti]; exact (Nat.zero_add _).symm) rfl (fun es f h e he => by
      simp only [fwA, ↓reduceIte, Nat.reduceAdd, Nat.reduceMul, Nat.reduceEqDiff, Nat.reduceLT, Nat.reduceLeDiff, reduceCtorEq, PV.vec.injEq] at h
      obtain ⟨rfl, rfl⟩ := h
      simp only [List.mem_singleton] at he
      subst he; rfl) rfl (by show (i + 1) * 16 ≤ _; omega) (by show i + 1 ≤ _; omega) ?_
  refine dops_run 1 (by simp only [fwA, ↓reduceIte, Nat.reduceAdd, Nat.reduceMul, Nat.reduceEqDiff, Nat.reduceLT, Nat.reduceLeDiff, reduceCtorEq] <;> rfl) ?_
  refine dops_end ?_
  -- region 6
  refine awp_run rfl (by simp only [fwA, ↓reduceIte, Nat.reduceAdd, Nat.reduceMul, Nat.reduceEqDiff, Nat.reduceLT, Nat.reduceLeDiff, reduceCtorEq] <;> rfl) ?_
  have hmp : ((ps.take (i + 1)).map (Pr.map g)) = ((ps.take i).map (Pr.map g)) ++ [ps[i].map g] := by rw [List.take_add_one, ga, List.map_append]; rfl
  refine ⟨i + 1, [.box ps[i].enc], by omega, by omega, by rw [wrapS i (by omega)]; rfl, ?_, rfl, by simp⟩
  rw [hmp, List.map_append, List.flatten_append]
  simp [Pr.map, Pr.enc]

/-- chancel/atom.Rename -/
theorem c21 (Γ : Nat → PV) (fr to : List Int) (ps : List Pr) (hl : ps.length ≤ 1000000000) : Gives Tryz.prog Γ 21 [.vec (ps.map Pr.enc) false, .vec (fr.map I1) false, .vec (to.map I1) false] (.vec ((ps.map (Pr.map (renI fr to))).map Pr.enc) false) := by
  refine fn_of_awp Tryz.func21 rfl (by simp [Tryz.f21]) rfl fun H => ?_
  refine awp_seq ?_
  refine awp_run rfl (by simp only [fwA, ↓reduceIte, Nat.reduceAdd, Nat.reduceMul, Nat.reduceEqDiff, Nat.reduceLT, Nat.reduceLeDiff, reduceCtorEq, ti23] <;> rfl) ?_
  refine awp_seq ?_
  refine awp_region rfl ?_
  refine aops_run 2 (by simp only [fwA, ↓reduceIte, Nat.reduceAdd, Nat.reduceMul, Nat.reduceEqDiff, Nat.reduceLT, Nat.reduceLeDiff, reduceCtorEq] <;> rfl) ?_
  refine aops_call rfl rfl rfl en44 ((c44 Γ 47 en47 [.ptr H.length 0, .ptr (H.length + 1) 0] (renI fr to) ps hl _ (by simp [PV.bdL, PV.bd]) fun a L => ?_).mono fun p H' hp => ?_)
  · exact c47 Γ fr to a H.length (H.length + 1) _ (by simp only [fwA, ↓reduceIte, Nat.reduceAdd, Nat.reduceMul, Nat.reduceEqDiff, Nat.reduceLT, Nat.reduceLeDiff, reduceCtorEq]) (by simp only [fwA, ↓reduceIte, Nat.reduceAdd, Nat.reduceMul, Nat.reduceEqDiff, Nat.reduceLT, Nat.reduceLeDiff, reduceCtorEq])
  obtain ⟨rfl, rfl⟩ := hp
  refine aops_run 1 (by simp only [fwA, ↓reduceIte, Nat.reduceAdd, Nat.reduceMul, Nat.reduceEqDiff, Nat.reduceLT, Nat.reduceLeDiff, reduceCtorEq] <;> rfl) ?_
  refine awp_ret ?_
  refine gives_end (.inl rfl) _ ?_
  simp only [fwA, ↓reduceIte, Nat.reduceAdd, Nat.reduceMul, Nat.reduceEqDiff, Nat.reduceLT, Nat.reduceLeDiff, reduceCtorEq, ares, aresL, ares1, Tryz.f21]

end Go.Proofs.YtdacialfjlcboaaGreatDoor

/- The contracts of shifting. -/
namespace Go.Proofs.YtdacialfjlcboaaGreatDoor
set_option linter.unusedVariables false
set_option linter.unusedSimpArgs false
set_option maxRecDepth 100000
open Go.RowKit Fw

/-- An atom, shifted. -/
def shI (n a : Int) : Int := if a < 0 then a else if IntKind.i64.wrap (a + n) < 0 then 0 else IntKind.i64.wrap (a + n)

/- chancel/atom.Shift$1 -/
theorem c45 (Γ : Nat → PV) (a n : Int) (b : Nat) (H : List Blk) (h1 : H[b]? = some (.box [.int .i64 n])) : ACalls Tryz.prog Γ 45 [.int .i64 a, .ptr b 0] H (fun p H' => p = .int .i64 (shI n a) ∧ H' = H) := by
  refine acalls_of_awp Tryz.func45 rfl (by simp [Tryz.f45]) fun hbd => ?_
  refine awp_seq ?_
  refine awp_run rfl (by simp only [fwA, ↓reduceIte, Nat.reduceAdd, Nat.reduceMul, Nat.reduceEqDiff, Nat.reduceLT, Nat.reduceLeDiff, reduceCtorEq] <;> rfl) ?_
  refine awp_seq ?_
  refine awp_seq ?_
  refine awp_region rfl ?_
  refine aops_run 1 (by simp only [fwA, ↓reduceIte, Nat.reduceAdd, Nat.reduceMul, Nat.reduceEqDiff, Nat.reduceLT, Nat.reduceLeDiff, reduceCtorEq] <;> rfl) ?_
  refine aops_fn rfl rfl rfl en27 (c27 Γ _) ?_
  refine aops_end ?_
  refine awp_cond (by simp only [fwA, ↓reduceIte, Nat.reduceAdd, Nat.reduceMul, Nat.reduceEqDiff, Nat.reduceLT, Nat.reduceLeDiff, reduceCtorEq] <;> rfl) ?_
  by_cases hc : a < 0
  · simp only [hc, decide_true, ↓reduceIte]
    refine awp_seq ?_
    refine awp_run rfl (by simp only [fwA, ↓reduceIte, Nat.reduceAdd, Nat.reduceMul, Nat.reduceEqDiff, Nat.reduceLT, Nat.reduceLeDiff, reduceCtorEq] <;> rfl) ?_
    refine awp_ret ?_
    show RetQ Tryz.prog Γ Tryz.f45 H.length (fun p H' => p = .int .i64 (shI n a) ∧ H' = H) .ret _ _ []
    exact calls_end0 (p := .int .i64 (shI n a)) (.inl rfl) hbd (by unfold shI; rw [if_pos hc]; rfl) rfl ⟨rfl, rfl⟩
  simp only [hc, decide_false, Bool.false_eq_true, ↓reduceIte]
  refine awp_skip ?_
  refine awp_seq ?_
  refine awp_region rfl ?_
  refine aops_run 3 (by simp only [fwA, ↓reduceIte, Nat.reduceAdd, Nat.reduceMul, Nat.reduceEqDiff, Nat.reduceLT, Nat.reduceLeDiff, reduceCtorEq, ti3, h1] <;> rfl) ?_
  refine aops_one rfl (os_max rfl rfl rfl ?_)
  refine aops_run 1 (by simp only [fwA, ↓reduceIte, Nat.reduceAdd, Nat.reduceMul, Nat.reduceEqDiff, Nat.reduceLT, Nat.reduceLeDiff, reduceCtorEq] <;> rfl) ?_
  refine awp_ret ?_
  exact calls_end0 (p := .int .i64 (shI n a)) (.inl rfl) hbd (by unfold shI; rw [if_neg hc]; rfl) rfl ⟨rfl, rfl⟩

/- chancel/chancelref10.shift -/
theorem c46 (Γ : Nat → PV) (a n : Int) : Gives Tryz.prog Γ 46 [.int .i64 a, .int .i64 n] (.int .i64 (shI n a)) := by
  refine fn_of_awp Tryz.func46 rfl (by simp [Tryz.f46]) rfl fun H => ?_
  refine awp_seq ?_
  refine awp_run rfl (by simp only [fwA, ↓reduceIte, Nat.reduceAdd, Nat.reduceMul, Nat.reduceEqDiff, Nat.reduceLT, Nat.reduceLeDiff, reduceCtorEq] <;> rfl) ?_
  refine awp_seq ?_
  refine awp_seq ?_
  refine awp_run rfl (by simp only [fwA, ↓reduceIte, Nat.reduceAdd, Nat.reduceMul, Nat.reduceEqDiff, Nat.reduceLT, Nat.reduceLeDiff, reduceCtorEq] <;> rfl) ?_
  refine awp_cond (by simp only [fwA, ↓reduceIte, Nat.reduceAdd, Nat.reduceMul, Nat.reduceEqDiff, Nat.reduceLT, Nat.reduceLeDiff, reduceCtorEq] <;> rfl) ?_
  by_cases hc : a < 0
  · simp only [hc, decide_true, ↓reduceIte]
    refine awp_seq ?_
    refine awp_run rfl (by simp only [fwA, ↓reduceIte, Nat.reduceAdd, Nat.reduceMul, Nat.reduceEqDiff, Nat.reduceLT, Nat.reduceLeDiff, reduceCtorEq] <;> rfl) ?_
    refine awp_ret ?_
    exact gives_end0 (.inl rfl) (by unfold shI; rw [if_pos hc]; rfl)
  simp only [hc, decide_false, Bool.false_eq_true, ↓reduceIte]
  refine awp_skip ?_
  refine awp_seq ?_
  refine awp_region rfl ?_
  refine aops_run 3 (by simp only [fwA, ↓reduceIte, Nat.reduceAdd, Nat.reduceMul, Nat.reduceEqDiff, Nat.reduceLT, Nat.reduceLeDiff, reduceCtorEq] <;> rfl) ?_
  refine aops_one rfl (os_max rfl rfl rfl ?_)
  refine aops_run 1 (by simp only [fwA, ↓reduceIte, Nat.reduceAdd, Nat.reduceMul, Nat.reduceEqDiff, Nat.reduceLT, Nat.reduceLeDiff, reduceCtorEq] <;> rfl) ?_
  refine awp_ret ?_
  exact gives_end0 (.inl rfl) (by unfold shI; rw [if_neg hc]; rfl)

/- chancel/atom.Shift -/
theorem c19 (Γ : Nat → PV) (n : Int) (ps : List Pr) (hl : ps.length ≤ 1000000000) : Gives Tryz.prog Γ 19 [.vec (ps.map Pr.enc) false, .int .i64 n] (.vec ((ps.map (Pr.map (shI n))).map Pr.enc) false) := by
  refine fn_of_awp Tryz.func19 rfl (by simp [Tryz.f19]) rfl fun H => ?_
  refine awp_seq ?_
  refine awp_run rfl (by simp only [fwA, ↓reduceIte, Nat.reduceAdd, Nat.reduceMul, Nat.reduceEqDiff, Nat.reduceLT, Nat.reduceLeDiff, reduceCtorEq, ti3] <;> rfl) ?_
  refine awp_seq ?_
  refine awp_region rfl ?_
  refine aops_run 2 (by simp only [fwA, ↓reduceIte, Nat.reduceAdd, Nat.reduceMul, Nat.reduceEqDiff, Nat.reduceLT, Nat.reduceLeDiff, reduceCtorEq] <;> rfl) ?_
  refine aops_call rfl rfl rfl en44 ((c44 Γ 45 en45 [.ptr H.length 0] (shI n) ps hl _ (by simp [PV.bdL, PV.bd]) fun a L => ?_).mono fun p H' hp => ?_)
  · exact c45 Γ a n H.length _ (by simp only [fwA, ↓reduceIte, Nat.reduceAdd, Nat.reduceMul, Nat.reduceEqDiff, Nat.reduceLT, Nat.reduceLeDiff, reduceCtorEq])
  obtain ⟨rfl, rfl⟩ := hp
  refine aops_run 1 (by simp only [fwA, ↓reduceIte, Nat.reduceAdd, Nat.reduceMul, Nat.reduceEqDiff, Nat.reduceLT, Nat.reduceLeDiff, reduceCtorEq] <;> rfl) ?_
  refine awp_ret ?_
  refine gives_end (.inl rfl) _ ?_
  simp only [fwA, ↓reduceIte, Nat.reduceAdd, Nat.reduceMul, Nat.reduceEqDiff, Nat.reduceLT, Nat.reduceLeDiff, reduceCtorEq, ares, aresL, ares1, Tryz.f19]

/- chancel/chancelref10.Shift -/
theorem c20 (Γ : Nat → PV) (n : Int) (ps : List Pr) (hl : ps.length ≤ 1000000000) : Gives Tryz.prog Γ 20 [.vec (ps.map Pr.enc) false, .int .i64 n] (.vec ((ps.map (Pr.map (shI n))).map Pr.enc) false) := by
  refine fn_of_awp Tryz.func20 rfl (by simp [Tryz.f20]) rfl fun H => ?_
  refine awp_bd fun hbd => ?_
  refine awp_seq ?_
  refine awp_run rfl (by simp only [fwA, ↓reduceIte, Nat.reduceAdd, Nat.reduceMul, Nat.reduceEqDiff, Nat.reduceLT, Nat.reduceLeDiff, reduceCtorEq] <;> rfl) ?_
  refine awp_seq ?_
  refine awp_run rfl (by simp only [fwA, ↓reduceIte, Nat.reduceAdd, Nat.reduceMul, Nat.reduceEqDiff, Nat.reduceLT, Nat.reduceLeDiff, reduceCtorEq] <;> rfl) ?_
  refine awp_seq ?_
  refine awp_seq ?_
  refine awp_run rfl (by simp only [fwA, ↓reduceIte, Nat.reduceAdd, Nat.reduceMul, Nat.reduceEqDiff, Nat.reduceLT, Nat.reduceLeDiff, reduceCtorEq] <;> rfl) ?_
  refine awp_told (told_adopt 5 2 (by decide) rfl) ?_
  refine awp_block ?_
  refine awp_for [0, 1, 5, 6] (fun i : Nat => [.vec (ps.map Pr.enc) false, .int .i64 n, .row H.length 0 i 2, .int .i64 (i : Int)])
    (fun i => H ++ [.row 2 ((((ps.take i).map (Pr.map (shI n)))).map Pr.enc).flatten])
    (fun i => ps.length - i) (fun i => i ≤ ps.length) 0 rfl rfl (Nat.zero_le _) fun i hi => ?_
  have hti : ((ps.take i).map (Pr.map (shI n))).length = i := by simp; omega
  refine awp_seq ?_
  refine awp_seq ?_
  refine awp_run rfl (by simp only [fwA, ↓reduceIte, Nat.reduceAdd, Nat.reduceMul, Nat.reduceEqDiff, Nat.reduceLT, Nat.reduceLeDiff, reduceCtorEq, un27, List.length_map] <;> rfl) ?_
  refine awp_cond (by simp only [fwA, ↓reduceIte, Nat.reduceAdd, Nat.reduceMul, Nat.reduceEqDiff, Nat.reduceLT, Nat.reduceLeDiff, reduceCtorEq] <;> rfl) ?_
  by_cases hc : (i : Int) < ps.length
  rotate_left
  · simp only [hc, decide_false, Bool.false_eq_true, ↓reduceIte]
    refine awp_exit ?_
    have hi' : i = ps.length := by omega
    refine awp_told (told_freezeAt H _ 0 (C := (((ps.take i).map (Pr.map (shI n))).map Pr.enc).flatten) rfl (flatP_bd _ _)) ?_
    have hl : ((((ps.take i).map (Pr.map (shI n))).map Pr.enc).flatten).length = i * 2 := by rw [flatP_len, hti]; omega
    have hch : chunk 2 i ((((ps.take i).map (Pr.map (shI n))).map Pr.enc).flatten) = ((ps.take i).map (Pr.map (shI n))).map Pr.enc := by
      have := flatP_chunk ((ps.take i).map (Pr.map (shI n)))
      rwa [hti] at this
    refine awp_seq (awp_run rfl (by simp only [fwA, ↓reduceIte, Nat.reduceAdd, Nat.reduceMul, Nat.reduceEqDiff, Nat.reduceLT, Nat.reduceLeDiff, reduceCtorEq, hl, hch] <;> rfl) (awp_ret ?_))
    refine gives_end (.inl rfl) _ ?_
    simp only [fwA, ↓reduceIte, Nat.reduceAdd, Nat.reduceMul, Nat.reduceEqDiff, Nat.reduceLT, Nat.reduceLeDiff, reduceCtorEq, ares, aresL, ares1, Tryz.f20, hi', List.take_length]
  simp only [hc, decide_true, ↓reduceIte]
  refine awp_skip ?_
  have hia : i < ps.length := by omega
  have ga : ps[i]? = some ps[i] := List.getElem?_eq_getElem hia
  refine awp_seq ?_
  refine awp_block ?_
  refine awp_drawn [0, 0, 0, 0, 0, 1, 0, 0, 0, 0, 0, 0, 1, 0, 0, 0, 0, 2, 0] [0, 0, 0, 6, 14, 30, 0, 126, 0, 0, 768, 1792, 3840, 0, 16382, 32766, 65534, 131071, 262143] mixed rfl (by kernel_rfl) ?_
  refine dops_run 7 (by simp only [fwA, ↓reduceIte, Nat.reduceAdd, Nat.reduceMul, Nat.reduceEqDiff, Nat.reduceLT, Nat.reduceLeDiff, reduceCtorEq, el27, fl60_0, ti3, Pr.fw, List.getElem?_map, ga, Option.map_some, Int.natCast_nonneg] <;> rfl) ?_
  refine dops_fn rfl rfl rfl rfl en46 (c46 Γ _ _) ?_
  refine dops_run 6 (by simp only [fwA, ↓reduceIte, Nat.reduceAdd, Nat.reduceMul, Nat.reduceEqDiff, Nat.reduceLT, Nat.reduceLeDiff, reduceCtorEq, el27, fl60_1, ti3, Pr.fw, List.getElem?_map, ga, Option.map_some, Int.natCast_nonneg] <;> rfl) ?_
  refine dops_fn rfl rfl rfl rfl en46 (c46 Γ _ _) ?_
  refine dops_run 2 (by simp only [fwA, ↓reduceIte, Nat.reduceAdd, Nat.reduceMul, Nat.reduceEqDiff, Nat.reduceLT, Nat.reduceLeDiff, reduceCtorEq, ti60, pl60, un27] <;> rfl) ?_
  refine dops_appendR rfl rfl rfl un27 ti60 un27 (.inl ⟨_, rfl⟩) rfl (by simp only [fwA, ↓reduceIte, Nat.reduceAdd, Nat.reduceMul, Nat.reduceEqDiff, Nat.reduceLT, Nat.reduceLeDiff, reduceCtorEq] <;> rfl) (by rw [flat_len (sz := 2) (fun _ => rfl), hti]; exact (Nat.zero_add _).symm) rfl (fun es f h e he => by
      simp only [fwA, ↓reduceIte, Nat.reduceAdd, Nat.reduceMul, Nat.reduceEqDiff, Nat.reduceLT, Nat.reduceLeDiff, reduceCtorEq, PV.vec.injEq] at h
      obtain ⟨rfl, rfl⟩ := h
      simp only [List.mem_singleton] at he
      subst he; rfl) rfl (by show (i + 1) * 16 ≤ _; omega) (by show i + 1 ≤ _; omega) ?_
  refine dops_run 1 (by simp only [fwA, ↓reduceIte, Nat.reduceAdd, Nat.reduceMul, Nat.reduceEqDiff, Nat.reduceLT, Nat.reduceLeDiff, reduceCtorEq] <;> rfl) ?_
  refine dops_end ?_
  refine awp_run rfl (by simp only [fwA, ↓reduceIte, Nat.reduceAdd, Nat.reduceMul, Nat.reduceEqDiff, Nat.reduceLT, Nat.reduceLeDiff, reduceCtorEq] <;> rfl) ?_
  have hmp : ((ps.take (i + 1)).map (Pr.map (shI n))) = ((ps.take i).map (Pr.map (shI n))) ++ [ps[i].map (shI n)] := by rw [List.take_add_one, ga, List.map_append]; rfl
  refine ⟨i + 1, by omega, by omega, by rw [wrapS i (by omega)]; rfl, ?_, rfl⟩
  rw [hmp, List.map_append, List.flatten_append]
  simp [Pr.map, Pr.enc]

end Go.Proofs.YtdacialfjlcboaaGreatDoor

/- The contracts of the document's lists of atoms: a number in a rising list, once; the variables; the points. -/
namespace Go.Proofs.YtdacialfjlcboaaGreatDoor
set_option linter.unusedVariables false
set_option linter.unusedSimpArgs false
set_option maxRecDepth 100000
open Go.RowKit Fw

/-- A number in a rising list, once. -/
def addI : List Int → Int → List Int
  | [], s => [s]
  | x :: l, s => if x < s then x :: addI l s else if x = s then x :: l else s :: x :: l

theorem add_found {s : Int} : ∀ {l : List Int} {i : Nat}, (∀ j, j < i → ∀ x, l[j]? = some x → x < s) → l[i]? = some s → addI l s = l
  | [], _, _, h => by simp at h
  | x :: l, 0, _, h => by
    simp only [List.getElem?_cons_zero, Option.some.injEq] at h
    subst h
    unfold addI
    rw [if_neg (Int.lt_irrefl _), if_pos rfl]
  | x :: l, i + 1, hl, h => by
    have h0 := hl 0 (by omega) x rfl
    unfold addI
    rw [if_pos h0, add_found (i := i) (fun j hj y hy => hl (j + 1) (by omega) y (by simpa using hy)) (by simpa using h)]
theorem add_ins {s : Int} : ∀ {l : List Int} {i : Nat}, (∀ j, j < i → ∀ x, l[j]? = some x → x < s) → (∀ x, l[i]? = some x → ¬ x < s ∧ x ≠ s) → addI l s = l.take i ++ s :: l.drop i
  | [], i, _, _ => by simp [addI]
  | x :: l, 0, _, h => by
    obtain ⟨h1, h2⟩ := h x rfl
    unfold addI
    rw [if_neg h1, if_neg h2]; rfl
  | x :: l, i + 1, hl, h => by
    have h0 := hl 0 (by omega) x rfl
    unfold addI
    rw [if_pos h0, add_ins (i := i) (fun j hj y hy => hl (j + 1) (by omega) y (by simpa using hy)) (fun y hy => h y (by simpa using hy))]
    rfl

/-- chancelref10.Add -/
theorem c35 (Γ : Nat → PV) (l : List Int) (s : Int) (hl : l.length ≤ 1000000000000) : Gives Tryz.prog Γ 35 [.vec (l.map I1) false, .int .i64 s] (.vec ((addI l s).map I1) false) := by
  refine fn_of_awp Tryz.func35 rfl (by simp [Tryz.f35]) rfl fun H => ?_
  refine awp_seq ?_
  refine awp_run rfl (by simp only [fwA, ↓reduceIte, Nat.reduceAdd, Nat.reduceMul, Nat.reduceEqDiff, Nat.reduceLT, Nat.reduceLeDiff, reduceCtorEq] <;> rfl) ?_
  refine awp_seq ?_
  refine awp_run rfl (by simp only [fwA, ↓reduceIte, Nat.reduceAdd, Nat.reduceMul, Nat.reduceEqDiff, Nat.reduceLT, Nat.reduceLeDiff, reduceCtorEq] <;> rfl) ?_
  refine awp_seq ?_
  refine awp_block ?_
  refine awp_for [0, 1, 5] (fun i : Nat => [.vec (l.map I1) false, .int .i64 s, .int .i64 i]) (fun _ => H) (fun i => l.length - i) (fun i => i ≤ l.length ∧ ∀ j, j < i → ∀ x, l[j]? = some x → x < s) 0 rfl rfl ⟨Nat.zero_le _, fun j hj => by omega⟩ fun i hs => ?_
  obtain ⟨hi, hp⟩ := hs
  refine awp_seq ?_
  refine awp_seq ?_
  have e1 : ((l.map I1).drop 0).take (i - 0) = (l.take i).map I1 := by simp [List.map_take]
  have e2 : ((l.map I1).drop i).take (l.length - i) = (l.drop i).map I1 := by rw [List.take_of_length_le (by simp), List.map_drop]
  have hti : (l.take i).length = i := by rw [List.length_take]; omega
  have htd : (l.drop i).length = l.length - i := List.length_drop ..
  by_cases hc : (i : Int) < l.length
  rotate_left
  · refine awp_run rfl (by simp only [fwA, ↓reduceIte, Nat.reduceAdd, Nat.reduceMul, Nat.reduceEqDiff, Nat.reduceLT, Nat.reduceLeDiff, reduceCtorEq, un29, el29, ti3, List.length_map, List.getElem?_map, I1_fw, Option.map_some, Int.natCast_nonneg, decide_true, decide_false, hc] <;> rfl) ?_
    refine awp_cond (b := false) (by simp [alook, aput, ev]) ?_
    refine awp_exit ?_
    have hadd : addI l s = l.take i ++ s :: l.drop i := add_ins hp fun x hx => by
      rw [List.getElem?_eq_none (by omega)] at hx; cases hx
    refine awp_seq ?_
    refine awp_seq ?_
    refine awp_run rfl (by simp only [fwA, ↓reduceIte, Nat.reduceAdd, Nat.reduceMul, Nat.reduceEqDiff, Nat.reduceLT, Nat.reduceLeDiff, reduceCtorEq, un29, el29, ti3, List.length_map, List.getElem?_map, I1_fw, Option.map_some, Int.natCast_nonneg, decide_true, decide_false, hc] <;> rfl) ?_
    refine awp_cond (b := false) (by simp [alook, aput, ev]) (awp_skip ?_)
    refine awp_seq ?_
    refine awp_drawn [0, 0, 0, 3, 0, 0, 2, 0, 0, 0, 2, 0] [0, 0, 3, 7, 0, 16, 63, 0, 0, 384, 1023, 2047] mixed rfl (by kernel_rfl) ?_
    refine dops_run 2 (by simp only [fwA, ↓reduceIte, Nat.reduceAdd, Nat.reduceMul, Nat.reduceEqDiff, Nat.reduceLT, Nat.reduceLeDiff, reduceCtorEq] <;> rfl) ?_
    refine dops_one (.vec ((l.take i).map I1) false) rfl rfl (fun H A' hev => os_sliceVec (l := 0) (h := i) (es := l.map I1) (f := false) rfl el29 ((hev _ (by simp [Op.operands])).trans rfl) (fun e he => by obtain ⟨x, _, rfl⟩ := List.mem_map.1 he; rfl) rfl ⟨_, (hev _ (by simp [Op.operands])).trans rfl⟩ trivial (Nat.zero_le _) (by rw [List.length_map]; omega) ⟨congrArg (fun z => PV.vec z false) e1, rfl⟩) ?_
    refine dops_appendNew (xs := ((l.take i).map I1).flatten) (n := i) rfl rfl (.inr rfl) (Nat.le_refl _) un29 ti3 un29 (.inl ⟨_, rfl⟩) (by decide) rfl (by simp only [fwA, ↓reduceIte, Nat.reduceAdd, Nat.reduceMul, Nat.reduceEqDiff, Nat.reduceLT, Nat.reduceLeDiff, reduceCtorEq] <;> rfl) (fun es f h e he => by
        simp only [fwA, ↓reduceIte, Nat.reduceAdd, Nat.reduceMul, Nat.reduceEqDiff, Nat.reduceLT, Nat.reduceLeDiff, reduceCtorEq, PV.vec.injEq] at h
        obtain ⟨rfl, rfl⟩ := h
        obtain ⟨x, _, rfl⟩ := List.mem_map.1 he
        rfl) (by simp only [fwA, ↓reduceIte, Nat.reduceAdd, Nat.reduceMul, Nat.reduceEqDiff, Nat.reduceLT, Nat.reduceLeDiff, reduceCtorEq, alen, List.length_map, hti]) (by show i * 8 ≤ _; omega) (by omega) ?_
    refine dops_run 2 (by simp only [fwA, ↓reduceIte, Nat.reduceAdd, Nat.reduceMul, Nat.reduceEqDiff, Nat.reduceLT, Nat.reduceLeDiff, reduceCtorEq, un29, ti3] <;> rfl) ?_
    refine dops_appendR (b := H.length) (q := 0) (k := i) (n := 1) (cs := ((l.take i).map I1).flatten) (xs := [.int .i64 s]) rfl rfl rfl un29 ti3 un29 (.inl ⟨_, rfl⟩) rfl (by simp only [fwA, ↓reduceIte, Nat.reduceAdd, Nat.reduceMul, Nat.reduceEqDiff, Nat.reduceLT, Nat.reduceLeDiff, reduceCtorEq] <;> rfl) (by rw [flat_len I1_len, hti]; exact (Nat.zero_add _).symm) (by simp only [fwA, ↓reduceIte, Nat.reduceAdd, Nat.reduceMul, Nat.reduceEqDiff, Nat.reduceLT, Nat.reduceLeDiff, reduceCtorEq] <;> rfl) (fun es f h e he => by
        simp only [fwA, ↓reduceIte, Nat.reduceAdd, Nat.reduceMul, Nat.reduceEqDiff, Nat.reduceLT, Nat.reduceLeDiff, reduceCtorEq, PV.vec.injEq] at h
        obtain ⟨rfl, rfl⟩ := h
        simp only [List.mem_singleton] at he
        subst he; rfl) (by simp only [fwA, ↓reduceIte, Nat.reduceAdd, Nat.reduceMul, Nat.reduceEqDiff, Nat.reduceLT, Nat.reduceLeDiff, reduceCtorEq] <;> rfl) (by show (i + 1) * 8 ≤ _; omega) (by omega) ?_
    refine dops_run 2 (by simp only [fwA, ↓reduceIte, Nat.reduceAdd, Nat.reduceMul, Nat.reduceEqDiff, Nat.reduceLT, Nat.reduceLeDiff, reduceCtorEq] <;> rfl) ?_
    refine dops_one (.vec ((l.drop i).map I1) false) rfl rfl (fun H A' hev => os_sliceVec (l := i) (h := l.length) (es := l.map I1) (f := false) rfl el29 ((hev _ (by simp [Op.operands])).trans rfl) (fun e he => by obtain ⟨x, _, rfl⟩ := List.mem_map.1 he; rfl) ⟨_, (hev _ (by simp [Op.operands])).trans rfl⟩ (by rw [onOpt, List.length_map]) trivial hi (by rw [List.length_map]; omega) ⟨congrArg (fun z => PV.vec z false) e2, rfl⟩) ?_
    refine dops_appendR (b := H.length) (q := 0) (k := i + 1) (n := l.length - i) (cs := ((l.take i).map I1).flatten ++ [.int .i64 s]) (xs := ((l.drop i).map I1).flatten) rfl rfl rfl un29 ti3 un29 (.inl ⟨_, rfl⟩) rfl (by simp only [fwA, ↓reduceIte, Nat.reduceAdd, Nat.reduceMul, Nat.reduceEqDiff, Nat.reduceLT, Nat.reduceLeDiff, reduceCtorEq] <;> rfl) (by rw [List.length_append, flat_len I1_len, hti]; simp) (by simp only [fwA, ↓reduceIte, Nat.reduceAdd, Nat.reduceMul, Nat.reduceEqDiff, Nat.reduceLT, Nat.reduceLeDiff, reduceCtorEq] <;> rfl) (fun es f h e he => by
        simp only [fwA, ↓reduceIte, Nat.reduceAdd, Nat.reduceMul, Nat.reduceEqDiff, Nat.reduceLT, Nat.reduceLeDiff, reduceCtorEq, PV.vec.injEq] at h
        obtain ⟨rfl, rfl⟩ := h
        obtain ⟨x, _, rfl⟩ := List.mem_map.1 he
        rfl) (by simp only [fwA, ↓reduceIte, Nat.reduceAdd, Nat.reduceMul, Nat.reduceEqDiff, Nat.reduceLT, Nat.reduceLeDiff, reduceCtorEq, alen, List.length_map, htd]) (by show (i + 1 + (l.length - i)) * 8 ≤ _; omega) (by omega) ?_
    refine dops_run 1 (by simp only [fwA, ↓reduceIte, Nat.reduceAdd, Nat.reduceMul, Nat.reduceEqDiff, Nat.reduceLT, Nat.reduceLeDiff, reduceCtorEq] <;> rfl) ?_
    refine dops_end ?_
    have hC : (((l.take i ++ s :: l.drop i).map I1).flatten) = ((l.take i).map I1).flatten ++ [.int .i64 s] ++ ((l.drop i).map I1).flatten := by simp [I1]
    have hCl : (l.take i ++ s :: l.drop i).length = l.length + 1 := by rw [List.length_append, List.length_cons, hti, htd]; omega
    rw [hadd]
    refine awp_keep (A' := [(4, .row H.length 0 (l.length + 1) 1)]) [4] (by simp only [akeep, alook, aput, ev, show i + 1 + (l.length - i) = l.length + 1 by omega] <;> rfl) ?_
    generalize l.take i ++ s :: l.drop i = r at hC hCl ⊢
    refine awp_heap (H' := H ++ [.row 1 ((r.map I1).flatten)]) (by rw [hC]; simp) ?_
    refine awp_told (told_freezeAt H _ 0 (C := (r.map I1).flatten) rfl (flat_bd (fun t => by simp only [I1_fw]) _)) ?_
    have hch := flat_chunk I1_len r
    have hfl := flat_len I1_len r
    rw [hCl] at hch hfl
    generalize l.length + 1 = m at hch hfl ⊢
    refine awp_ret (gives_end (.inl rfl) _ ?_)
    simp only [fwA, ↓reduceIte, Nat.reduceAdd, Nat.reduceMul, Nat.reduceEqDiff, Nat.reduceLT, Nat.reduceLeDiff, reduceCtorEq, ares, aresL, ares1, Tryz.f35, hfl, hch]
  have hia : i < l.length := by omega
  have ga : l[i]? = some l[i] := List.getElem?_eq_getElem hia
  generalize l[i] = x at ga
  by_cases hlt : x < s
  rotate_left
  · refine awp_run rfl (by simp only [fwA, ↓reduceIte, Nat.reduceAdd, Nat.reduceMul, Nat.reduceEqDiff, Nat.reduceLT, Nat.reduceLeDiff, reduceCtorEq, un29, el29, ti3, List.length_map, List.getElem?_map, I1_fw, Option.map_some, Int.natCast_nonneg, decide_true, decide_false, hc, ga, hlt] <;> rfl) ?_
    refine awp_cond (b := false) (by simp [alook, aput, ev]) ?_
    refine awp_exit ?_
    by_cases hxs : x = s
    · subst hxs
      have hadd := add_found hp ga
      refine awp_seq ?_
      refine awp_seq ?_
      refine awp_run rfl (by simp only [fwA, ↓reduceIte, Nat.reduceAdd, Nat.reduceMul, Nat.reduceEqDiff, Nat.reduceLT, Nat.reduceLeDiff, reduceCtorEq, un29, el29, ti3, List.length_map, List.getElem?_map, I1_fw, Option.map_some, Int.natCast_nonneg, decide_true, decide_false, hc, ga] <;> rfl) ?_
      refine awp_cond (b := true) (by simp [alook, aput, ev]) ?_
      refine awp_seq (awp_run rfl (by simp only [fwA, ↓reduceIte, Nat.reduceAdd, Nat.reduceMul, Nat.reduceEqDiff, Nat.reduceLT, Nat.reduceLeDiff, reduceCtorEq] <;> rfl) (awp_ret ?_))
      exact gives_end0 (.inl rfl) (by rw [hadd]; rfl)
    have hadd : addI l s = l.take i ++ s :: l.drop i := add_ins hp fun y hy => by
      rw [ga] at hy; cases hy; exact ⟨hlt, hxs⟩
    refine awp_seq ?_
    refine awp_seq ?_
    refine awp_run rfl (by simp only [fwA, ↓reduceIte, Nat.reduceAdd, Nat.reduceMul, Nat.reduceEqDiff, Nat.reduceLT, Nat.reduceLeDiff, reduceCtorEq, un29, el29, ti3, List.length_map, List.getElem?_map, I1_fw, Option.map_some, Int.natCast_nonneg, decide_true, decide_false, hc, ga, hxs] <;> rfl) ?_
    refine awp_cond (b := false) (by simp [alook, aput, ev]) (awp_skip ?_)
    refine awp_seq ?_
    refine awp_drawn [0, 0, 0, 3, 0, 0, 2, 0, 0, 0, 2, 0] [0, 0, 3, 7, 0, 16, 63, 0, 0, 384, 1023, 2047] mixed rfl (by kernel_rfl) ?_
    refine dops_run 2 (by simp only [fwA, ↓reduceIte, Nat.reduceAdd, Nat.reduceMul, Nat.reduceEqDiff, Nat.reduceLT, Nat.reduceLeDiff, reduceCtorEq] <;> rfl) ?_
    refine dops_one (.vec ((l.take i).map I1) false) rfl rfl (fun H A' hev => os_sliceVec (l := 0) (h := i) (es := l.map I1) (f := false) rfl el29 ((hev _ (by simp [Op.operands])).trans rfl) (fun e he => by obtain ⟨x, _, rfl⟩ := List.mem_map.1 he; rfl) rfl ⟨_, (hev _ (by simp [Op.operands])).trans rfl⟩ trivial (Nat.zero_le _) (by rw [List.length_map]; omega) ⟨congrArg (fun z => PV.vec z false) e1, rfl⟩) ?_
    refine dops_appendNew (xs := ((l.take i).map I1).flatten) (n := i) rfl rfl (.inr rfl) (Nat.le_refl _) un29 ti3 un29 (.inl ⟨_, rfl⟩) (by decide) rfl (by simp only [fwA, ↓reduceIte, Nat.reduceAdd, Nat.reduceMul, Nat.reduceEqDiff, Nat.reduceLT, Nat.reduceLeDiff, reduceCtorEq] <;> rfl) (fun es f h e he => by
        simp only [fwA, ↓reduceIte, Nat.reduceAdd, Nat.reduceMul, Nat.reduceEqDiff, Nat.reduceLT, Nat.reduceLeDiff, reduceCtorEq, PV.vec.injEq] at h
        obtain ⟨rfl, rfl⟩ := h
        obtain ⟨x, _, rfl⟩ := List.mem_map.1 he
        rfl) (by simp only [fwA, ↓reduceIte, Nat.reduceAdd, Nat.reduceMul, Nat.reduceEqDiff, Nat.reduceLT, Nat.reduceLeDiff, reduceCtorEq, alen, List.length_map, hti]) (by show i * 8 ≤ _; omega) (by omega) ?_
    refine dops_run 2 (by simp only [fwA, ↓reduceIte, Nat.reduceAdd, Nat.reduceMul, Nat.reduceEqDiff, Nat.reduceLT, Nat.reduceLeDiff, reduceCtorEq, un29, ti3] <;> rfl) ?_
    refine dops_appendR (b := H.length) (q := 0) (k := i) (n := 1) (cs := ((l.take i).map I1).flatten) (xs := [.int .i64 s]) rfl rfl rfl un29 ti3 un29 (.inl ⟨_, rfl⟩) rfl (by simp only [fwA, ↓reduceIte, Nat.reduceAdd, Nat.reduceMul, Nat.reduceEqDiff, Nat.reduceLT, Nat.reduceLeDiff, reduceCtorEq] <;> rfl) (by rw [flat_len I1_len, hti]; exact (Nat.zero_add _).symm) (by simp only [fwA, ↓reduceIte, Nat.reduceAdd, Nat.reduceMul, Nat.reduceEqDiff, Nat.reduceLT, Nat.reduceLeDiff, reduceCtorEq] <;> rfl) (fun es f h e he => by
        simp only [fwA, ↓reduceIte, Nat.reduceAdd, Nat.reduceMul, Nat.reduceEqDiff, Nat.reduceLT, Nat.reduceLeDiff, reduceCtorEq, PV.vec.injEq] at h
        obtain ⟨rfl, rfl⟩ := h
        simp only [List.mem_singleton] at he
        subst he; rfl) (by simp only [fwA, ↓reduceIte, Nat.reduceAdd, Nat.reduceMul, Nat.reduceEqDiff, Nat.reduceLT, Nat.reduceLeDiff, reduceCtorEq] <;> rfl) (by show (i + 1) * 8 ≤ _; omega) (by omega) ?_
    refine dops_run 2 (by simp only [fwA, ↓reduceIte, Nat.reduceAdd, Nat.reduceMul, Nat.reduceEqDiff, Nat.reduceLT, Nat.reduceLeDiff, reduceCtorEq] <;> rfl) ?_
    refine dops_one (.vec ((l.drop i).map I1) false) rfl rfl (fun H A' hev => os_sliceVec (l := i) (h := l.length) (es := l.map I1) (f := false) rfl el29 ((hev _ (by simp [Op.operands])).trans rfl) (fun e he => by obtain ⟨x, _, rfl⟩ := List.mem_map.1 he; rfl) ⟨_, (hev _ (by simp [Op.operands])).trans rfl⟩ (by rw [onOpt, List.length_map]) trivial hi (by rw [List.length_map]; omega) ⟨congrArg (fun z => PV.vec z false) e2, rfl⟩) ?_
    refine dops_appendR (b := H.length) (q := 0) (k := i + 1) (n := l.length - i) (cs := ((l.take i).map I1).flatten ++ [.int .i64 s]) (xs := ((l.drop i).map I1).flatten) rfl rfl rfl un29 ti3 un29 (.inl ⟨_, rfl⟩) rfl (by simp only [fwA, ↓reduceIte, Nat.reduceAdd, Nat.reduceMul, Nat.reduceEqDiff, Nat.reduceLT, Nat.reduceLeDiff, reduceCtorEq] <;> rfl) (by rw [List.length_append, flat_len I1_len, hti]; simp) (by simp only [fwA, ↓reduceIte, Nat.reduceAdd, Nat.reduceMul, Nat.reduceEqDiff, Nat.reduceLT, Nat.reduceLeDiff, reduceCtorEq] <;> rfl) (fun es f h e he => by
        simp only [fwA, ↓reduceIte, Nat.reduceAdd, Nat.reduceMul, Nat.reduceEqDiff, Nat.reduceLT, Nat.reduceLeDiff, reduceCtorEq, PV.vec.injEq] at h
        obtain ⟨rfl, rfl⟩ := h
        obtain ⟨x, _, rfl⟩ := List.mem_map.1 he
        rfl) (by simp only [fwA, ↓reduceIte, Nat.reduceAdd, Nat.reduceMul, Nat.reduceEqDiff, Nat.reduceLT, Nat.reduceLeDiff, reduceCtorEq, alen, List.length_map, htd]) (by show (i + 1 + (l.length - i)) * 8 ≤ _; omega) (by omega) ?_
    refine dops_run 1 (by simp only [fwA, ↓reduceIte, Nat.reduceAdd, Nat.reduceMul, Nat.reduceEqDiff, Nat.reduceLT, Nat.reduceLeDiff, reduceCtorEq] <;> rfl) ?_
    refine dops_end ?_
    have hC : (((l.take i ++ s :: l.drop i).map I1).flatten) = ((l.take i).map I1).flatten ++ [.int .i64 s] ++ ((l.drop i).map I1).flatten := by simp [I1]
    have hCl : (l.take i ++ s :: l.drop i).length = l.length + 1 := by rw [List.length_append, List.length_cons, hti, htd]; omega
    rw [hadd]
    refine awp_keep (A' := [(4, .row H.length 0 (l.length + 1) 1)]) [4] (by simp only [akeep, alook, aput, ev, show i + 1 + (l.length - i) = l.length + 1 by omega] <;> rfl) ?_
    generalize l.take i ++ s :: l.drop i = r at hC hCl ⊢
    refine awp_heap (H' := H ++ [.row 1 ((r.map I1).flatten)]) (by rw [hC]; simp) ?_
    refine awp_told (told_freezeAt H _ 0 (C := (r.map I1).flatten) rfl (flat_bd (fun t => by simp only [I1_fw]) _)) ?_
    have hch := flat_chunk I1_len r
    have hfl := flat_len I1_len r
    rw [hCl] at hch hfl
    generalize l.length + 1 = m at hch hfl ⊢
    refine awp_ret (gives_end (.inl rfl) _ ?_)
    simp only [fwA, ↓reduceIte, Nat.reduceAdd, Nat.reduceMul, Nat.reduceEqDiff, Nat.reduceLT, Nat.reduceLeDiff, reduceCtorEq, ares, aresL, ares1, Tryz.f35, hfl, hch]
  refine awp_run rfl (by simp only [fwA, ↓reduceIte, Nat.reduceAdd, Nat.reduceMul, Nat.reduceEqDiff, Nat.reduceLT, Nat.reduceLeDiff, reduceCtorEq, un29, el29, ti3, List.length_map, List.getElem?_map, I1_fw, Option.map_some, Int.natCast_nonneg, decide_true, decide_false, hc, ga, hlt] <;> rfl) ?_
  refine awp_cond (b := true) (by simp [alook, aput, ev]) (awp_skip ?_)
  refine awp_block ?_
  refine awp_run rfl (by simp only [fwA, ↓reduceIte, Nat.reduceAdd, Nat.reduceMul, Nat.reduceEqDiff, Nat.reduceLT, Nat.reduceLeDiff, reduceCtorEq] <;> rfl) ?_
  refine ⟨i + 1, by omega, ⟨by omega, fun j hj y hy => ?_⟩, by rw [wrapS i (by omega)]; rfl, rfl, rfl⟩
  by_cases e : j = i
  · subst e; rw [ga] at hy; cases hy; exact hlt
  · exact hp j (by omega) y hy

end Go.Proofs.YtdacialfjlcboaaGreatDoor

/- The contracts of the document's pairs and atoms (turned by a tool of mine from chapter 13's texts). -/
namespace Go.Proofs.YtdacialfjlcboaaGreatDoor
set_option linter.unusedVariables false
set_option linter.unusedSimpArgs false
set_option maxRecDepth 100000
open Go.RowKit Fw

/-- chancel/chancellaw13.refAtoms -/
theorem c11 (Γ : Nat → PV) (l : List Int) (hlb : l.length * 8 ≤ 140737488355328) : Gives Tryz.prog Γ 11 [.vec (l.map I1) false] (.vec (l.map I1) false) := by
  refine fn_of_awp Tryz.func11 rfl (by simp [Tryz.f11]) rfl fun H => ?_
  refine awp_seq ?_
  -- region 0
  refine awp_run rfl (by simp only [fwA, ↓reduceIte, Nat.reduceAdd, Nat.reduceMul, Nat.reduceEqDiff, Nat.reduceLT, Nat.reduceLeDiff, reduceCtorEq] <;> rfl) ?_
  refine awp_seq ?_
  -- region 1
  refine awp_run rfl (by simp only [fwA, ↓reduceIte, Nat.reduceAdd, Nat.reduceMul, Nat.reduceEqDiff, Nat.reduceLT, Nat.reduceLeDiff, reduceCtorEq] <;> rfl) ?_
  refine awp_seq ?_
  refine awp_seq ?_
  -- region 2
  refine awp_run rfl (by simp only [fwA, ↓reduceIte, Nat.reduceAdd, Nat.reduceMul, Nat.reduceEqDiff, Nat.reduceLT, Nat.reduceLeDiff, reduceCtorEq] <;> rfl) ?_
  refine awp_told (told_adopt 3 1 (by decide) rfl) ?_
  refine awp_block ?_
  refine awp_for [0, 3, 4] (fun i : Nat => [.vec (l.map I1) false, .row H.length 0 i 1, .int .i64 (i : Int)])
    (fun i => H ++ [.row 1 ((l.take i).map I1).flatten])
    (fun i => l.length - i) (fun i => i ≤ l.length) 0 rfl rfl (Nat.zero_le _) fun i hi => ?_
  have hti : (l.take i).length = i := by simp; omega
  refine awp_seq ?_
  refine awp_seq ?_
  -- region 3
  refine awp_run rfl (by simp only [fwA, ↓reduceIte, Nat.reduceAdd, Nat.reduceMul, Nat.reduceEqDiff, Nat.reduceLT, Nat.reduceLeDiff, reduceCtorEq, un23, el23, ti24, un29, ti3, List.length_map] <;> rfl) ?_
  refine awp_vlen 0 rfl fun hlen => ?_
  rw [List.length_map] at hlen
  refine awp_cond (by simp only [fwA, ↓reduceIte, Nat.reduceAdd, Nat.reduceMul, Nat.reduceEqDiff, Nat.reduceLT, Nat.reduceLeDiff, reduceCtorEq] <;> rfl) ?_
  by_cases hc : (i : Int) < l.length
  rotate_left
  · simp only [hc, decide_false, Bool.false_eq_true, ↓reduceIte]
    refine awp_exit ?_
    have hi' : i = l.length := by omega
    refine awp_told (told_freezeAt H _ 0 (C := ((l.take i).map I1).flatten) rfl (flat_bd (fun t => by simp only [I1_fw]) _)) ?_
    have hl : (((l.take i).map I1).flatten).length = i * 1 := by rw [flat_len (sz := 1) (fun _ => by simp only [I1_fw]), hti]
    have hch : chunk 1 i (((l.take i).map I1).flatten) = (l.take i).map I1 := by
      have := flat_chunk (enc := I1) (sz := 1) (fun _ => by simp only [I1_fw]) (l.take i)
      rwa [hti] at this
    refine awp_seq (awp_run rfl (by simp only [fwA, ↓reduceIte, Nat.reduceAdd, Nat.reduceMul, Nat.reduceEqDiff, Nat.reduceLT, Nat.reduceLeDiff, reduceCtorEq, hl, hch] <;> rfl) (awp_ret ?_))
    refine gives_end (.inl rfl) _ ?_
    simp only [fwA, ↓reduceIte, Nat.reduceAdd, Nat.reduceMul, Nat.reduceEqDiff, Nat.reduceLT, Nat.reduceLeDiff, reduceCtorEq, ares, aresL, ares1, Tryz.f11, hi', List.take_length]
  simp only [hc, decide_true, ↓reduceIte]
  refine awp_skip ?_
  have hia : i < l.length := by omega
  have ga : l[i]? = some l[i] := List.getElem?_eq_getElem hia
  refine awp_seq ?_
  refine awp_block ?_
  refine awp_region rfl ?_
  refine aops_run 6 (by simp only [fwA, ↓reduceIte, Nat.reduceAdd, Nat.reduceMul, Nat.reduceEqDiff, Nat.reduceLT, Nat.reduceLeDiff, reduceCtorEq, un23, el23, ti24, un29, ti3, I1_fw, List.getElem?_map, ga, Option.map_some, Int.natCast_nonneg] <;> rfl) ?_
  refine aops_one rfl (os_appendR rfl un29 ti3 un29 (.inl ⟨_, rfl⟩) rfl (by simp only [fwA, ↓reduceIte, Nat.reduceAdd, Nat.reduceMul, Nat.reduceEqDiff, Nat.reduceLT, Nat.reduceLeDiff, reduceCtorEq] <;> rfl) (by rw [flat_len (sz := 1) (fun _ => by simp only [I1_fw]), hti]; exact (Nat.zero_add _).symm) rfl (fun es f h e he => by
      simp only [fwA, ↓reduceIte, Nat.reduceAdd, Nat.reduceMul, Nat.reduceEqDiff, Nat.reduceLT, Nat.reduceLeDiff, reduceCtorEq, PV.vec.injEq] at h
      obtain ⟨rfl, rfl⟩ := h
      simp only [List.mem_singleton] at he
      subst he; rfl) rfl (by show (i + 1) * 8 ≤ _; omega) (by show i + 1 ≤ _; omega) ?_)
  refine aops_run 1 (by simp only [fwA, ↓reduceIte, Nat.reduceAdd, Nat.reduceMul, Nat.reduceEqDiff, Nat.reduceLT, Nat.reduceLeDiff, reduceCtorEq, un23, el23, ti24, un29, ti3] <;> rfl) ?_
  -- the next
  refine awp_run rfl (by simp only [fwA, ↓reduceIte, Nat.reduceAdd, Nat.reduceMul, Nat.reduceEqDiff, Nat.reduceLT, Nat.reduceLeDiff, reduceCtorEq] <;> rfl) ?_
  refine ⟨i + 1, by omega, by omega, by rw [wrapS i (by omega)]; rfl, ?_, rfl⟩
  rw [flatten_enc I1 _ _ _ ga]
  rfl

/-- chancel/chancellaw13.refPairs -/
theorem c10 (Γ : Nat → PV) (l : List Pr) (hlb : l.length * 16 ≤ 140737488355328) : Gives Tryz.prog Γ 10 [.vec (l.map Pr.enc) false] (.vec (l.map Pr.enc) false) := by
  refine fn_of_awp Tryz.func10 rfl (by simp [Tryz.f10]) rfl fun H => ?_
  refine awp_seq ?_
  -- region 0
  refine awp_run rfl (by simp only [fwA, ↓reduceIte, Nat.reduceAdd, Nat.reduceMul, Nat.reduceEqDiff, Nat.reduceLT, Nat.reduceLeDiff, reduceCtorEq] <;> rfl) ?_
  refine awp_seq ?_
  -- region 1
  refine awp_run rfl (by simp only [fwA, ↓reduceIte, Nat.reduceAdd, Nat.reduceMul, Nat.reduceEqDiff, Nat.reduceLT, Nat.reduceLeDiff, reduceCtorEq] <;> rfl) ?_
  refine awp_seq ?_
  refine awp_seq ?_
  -- region 2
  refine awp_run rfl (by simp only [fwA, ↓reduceIte, Nat.reduceAdd, Nat.reduceMul, Nat.reduceEqDiff, Nat.reduceLT, Nat.reduceLeDiff, reduceCtorEq] <;> rfl) ?_
  refine awp_told (told_adopt 3 2 (by decide) rfl) ?_
  refine awp_block ?_
  refine awp_for [0, 3, 4] (fun i : Nat => [.vec (l.map Pr.enc) false, .row H.length 0 i 2, .int .i64 (i : Int)])
    (fun i => H ++ [.row 2 ((l.take i).map Pr.enc).flatten])
    (fun i => l.length - i) (fun i => i ≤ l.length) 0 rfl rfl (Nat.zero_le _) fun i hi => ?_
  have hti : (l.take i).length = i := by simp; omega
  refine awp_seq ?_
  refine awp_seq ?_
  -- region 3
  refine awp_run rfl (by simp only [fwA, ↓reduceIte, Nat.reduceAdd, Nat.reduceMul, Nat.reduceEqDiff, Nat.reduceLT, Nat.reduceLeDiff, reduceCtorEq, un22, el22, fl53_0, ti24, fl53_1, ti60, pl60, un27, List.length_map] <;> rfl) ?_
  refine awp_vlen 0 rfl fun hlen => ?_
  rw [List.length_map] at hlen
  refine awp_cond (by simp only [fwA, ↓reduceIte, Nat.reduceAdd, Nat.reduceMul, Nat.reduceEqDiff, Nat.reduceLT, Nat.reduceLeDiff, reduceCtorEq] <;> rfl) ?_
  by_cases hc : (i : Int) < l.length
  rotate_left
  · simp only [hc, decide_false, Bool.false_eq_true, ↓reduceIte]
    refine awp_exit ?_
    have hi' : i = l.length := by omega
    refine awp_told (told_freezeAt H _ 0 (C := ((l.take i).map Pr.enc).flatten) rfl (flat_bd (fun t => by simp only [Pr.fw]) _)) ?_
    have hl : (((l.take i).map Pr.enc).flatten).length = i * 2 := by rw [flat_len (sz := 2) (fun _ => by simp only [Pr.fw]), hti]
    have hch : chunk 2 i (((l.take i).map Pr.enc).flatten) = (l.take i).map Pr.enc := by
      have := flat_chunk (enc := Pr.enc) (sz := 2) (fun _ => by simp only [Pr.fw]) (l.take i)
      rwa [hti] at this
    refine awp_seq (awp_run rfl (by simp only [fwA, ↓reduceIte, Nat.reduceAdd, Nat.reduceMul, Nat.reduceEqDiff, Nat.reduceLT, Nat.reduceLeDiff, reduceCtorEq, hl, hch] <;> rfl) (awp_ret ?_))
    refine gives_end (.inl rfl) _ ?_
    simp only [fwA, ↓reduceIte, Nat.reduceAdd, Nat.reduceMul, Nat.reduceEqDiff, Nat.reduceLT, Nat.reduceLeDiff, reduceCtorEq, ares, aresL, ares1, Tryz.f10, hi', List.take_length]
  simp only [hc, decide_true, ↓reduceIte]
  refine awp_skip ?_
  have hia : i < l.length := by omega
  have ga : l[i]? = some l[i] := List.getElem?_eq_getElem hia
  refine awp_seq ?_
  refine awp_block ?_
  refine awp_drawn [0, 0, 0, 0, 0, 1, 0, 0, 0, 0, 1, 0, 0, 2, 0] [0, 0, 0, 6, 14, 30, 0, 0, 192, 448, 960, 2046, 4094, 8191, 16383] mixed rfl (by kernel_rfl) ?_
  refine dops_run 13 (by simp only [fwA, ↓reduceIte, Nat.reduceAdd, Nat.reduceMul, Nat.reduceEqDiff, Nat.reduceLT, Nat.reduceLeDiff, reduceCtorEq, un22, el22, fl53_0, ti24, fl53_1, ti60, pl60, un27, Pr.fw, List.getElem?_map, ga, Option.map_some, Int.natCast_nonneg] <;> rfl) ?_
  refine dops_appendR rfl rfl rfl un27 ti60 un27 (.inl ⟨_, rfl⟩) rfl (by simp only [fwA, ↓reduceIte, Nat.reduceAdd, Nat.reduceMul, Nat.reduceEqDiff, Nat.reduceLT, Nat.reduceLeDiff, reduceCtorEq] <;> rfl) (by rw [flat_len (sz := 2) (fun _ => by simp only [Pr.fw]), hti]; exact (Nat.zero_add _).symm) rfl (fun es f h e he => by
      simp only [fwA, ↓reduceIte, Nat.reduceAdd, Nat.reduceMul, Nat.reduceEqDiff, Nat.reduceLT, Nat.reduceLeDiff, reduceCtorEq, PV.vec.injEq] at h
      obtain ⟨rfl, rfl⟩ := h
      simp only [List.mem_singleton] at he
      subst he; rfl) rfl (by show (i + 1) * 16 ≤ _; omega) (by show i + 1 ≤ _; omega) ?_
  refine dops_run 1 (by simp only [fwA, ↓reduceIte, Nat.reduceAdd, Nat.reduceMul, Nat.reduceEqDiff, Nat.reduceLT, Nat.reduceLeDiff, reduceCtorEq, un22, el22, fl53_0, ti24, fl53_1, ti60, pl60, un27] <;> rfl) ?_
  refine dops_end ?_
  -- the next
  refine awp_run rfl (by simp only [fwA, ↓reduceIte, Nat.reduceAdd, Nat.reduceMul, Nat.reduceEqDiff, Nat.reduceLT, Nat.reduceLeDiff, reduceCtorEq] <;> rfl) ?_
  refine ⟨i + 1, by omega, by omega, by rw [wrapS i (by omega)]; rfl, ?_, rfl⟩
  rw [flatten_enc Pr.enc _ _ _ ga]
  rfl

/-- samePairs -/
theorem c16 (Γ : Nat → PV) (xs ys : List Pr) (hlb : xs.length * 16 ≤ 140737488355328) : Gives Tryz.prog Γ 16 [.vec (xs.map Pr.enc) false, .vec (ys.map Pr.enc) false] (.bool (decide (xs = ys))) := by
  refine fn_of_awp Tryz.func16 rfl (by simp [Tryz.f16]) rfl fun H => ?_
  refine awp_seq ?_
  refine awp_run rfl (by simp only [fwA, ↓reduceIte, Nat.reduceAdd, Nat.reduceMul, Nat.reduceEqDiff, Nat.reduceLT, Nat.reduceLeDiff, reduceCtorEq] <;> rfl) ?_
  refine awp_seq ?_
  refine awp_region rfl ?_
  refine aops_run 1 (by simp only [fwA, ↓reduceIte, Nat.reduceAdd, Nat.reduceMul, Nat.reduceEqDiff, Nat.reduceLT, Nat.reduceLeDiff, reduceCtorEq] <;> rfl) ?_
  refine aops_fn rfl rfl rfl en10 (c10 Γ xs hlb) ?_
  refine aops_run 1 (by simp only [fwA, ↓reduceIte, Nat.reduceAdd, Nat.reduceMul, Nat.reduceEqDiff, Nat.reduceLT, Nat.reduceLeDiff, reduceCtorEq] <;> rfl) ?_
  refine awp_vlen 5 rfl fun hlx => ?_
  rw [List.length_map] at hlx
  refine awp_seq ?_
  refine awp_seq ?_
  -- region 2
  refine awp_run rfl (by simp only [fwA, ↓reduceIte, Nat.reduceAdd, Nat.reduceMul, Nat.reduceEqDiff, Nat.reduceLT, Nat.reduceLeDiff, reduceCtorEq, un27, el27, ti60, eq60, List.length_map] <;> rfl) ?_
  refine awp_cond (by simp only [fwA, ↓reduceIte, Nat.reduceAdd, Nat.reduceMul, Nat.reduceEqDiff, Nat.reduceLT, Nat.reduceLeDiff, reduceCtorEq] <;> rfl) ?_
  by_cases hl : (xs.length : Int) = ys.length
  rotate_left
  · simp only [hl, decide_false, Bool.not_false, ↓reduceIte]
    refine awp_seq (awp_run rfl (by simp only [fwA, ↓reduceIte, Nat.reduceAdd, Nat.reduceMul, Nat.reduceEqDiff, Nat.reduceLT, Nat.reduceLeDiff, reduceCtorEq] <;> rfl) (awp_ret ?_))
    exact gives_end0 (.inl rfl) (by rw [decide_eq_false (fun e => hl (by rw [e]))]; rfl)
  simp only [hl, decide_true, Bool.not_true, Bool.false_eq_true, ↓reduceIte]
  refine awp_skip ?_
  refine awp_seq ?_
  refine awp_seq ?_
  refine awp_run rfl (by simp only [fwA, ↓reduceIte, Nat.reduceAdd, Nat.reduceMul, Nat.reduceEqDiff, Nat.reduceLT, Nat.reduceLeDiff, reduceCtorEq] <;> rfl) ?_
  refine awp_block ?_
  refine awp_for [1, 5, 6] (fun i : Nat => [.vec (ys.map Pr.enc) false, .vec (xs.map Pr.enc) false, .int .i64 (i : Int)]) (fun _ => H) (fun i => xs.length - i) (fun i => i ≤ xs.length ∧ xs.take i = ys.take i) 0 rfl rfl ⟨Nat.zero_le _, rfl⟩ fun i hi => ?_
  refine awp_seq ?_
  refine awp_seq ?_
  refine awp_run rfl (by simp only [fwA, ↓reduceIte, Nat.reduceAdd, Nat.reduceMul, Nat.reduceEqDiff, Nat.reduceLT, Nat.reduceLeDiff, reduceCtorEq, un27, el27, ti60, eq60, List.length_map] <;> rfl) ?_
  refine awp_cond (by simp only [fwA, ↓reduceIte, Nat.reduceAdd, Nat.reduceMul, Nat.reduceEqDiff, Nat.reduceLT, Nat.reduceLeDiff, reduceCtorEq] <;> rfl) ?_
  by_cases hc : (i : Int) < xs.length
  rotate_left
  · simp only [hc, decide_false, Bool.false_eq_true, ↓reduceIte]
    refine awp_exit ?_
    refine awp_seq (awp_run rfl (by simp only [fwA, ↓reduceIte, Nat.reduceAdd, Nat.reduceMul, Nat.reduceEqDiff, Nat.reduceLT, Nat.reduceLeDiff, reduceCtorEq] <;> rfl) (awp_ret ?_))
    have e : xs = ys := by
      have := hi.2
      rwa [List.take_of_length_le (by omega), List.take_of_length_le (by omega)] at this
    exact gives_end0 (.inl rfl) (by rw [decide_eq_true e]; rfl)
  simp only [hc, decide_true, ↓reduceIte]
  refine awp_skip ?_
  have hix : i < xs.length := by omega
  have hiy : i < ys.length := by omega
  have gx : xs[i]? = some xs[i] := List.getElem?_eq_getElem hix
  have gy : ys[i]? = some ys[i] := List.getElem?_eq_getElem hiy
  refine awp_seq ?_
  refine awp_block ?_
  refine awp_seq ?_
  -- region 7 drawn
  refine awp_drun [0, 0, 0, 1, 0, 0, 0, 1, 0] [0, 0, 3, 7, 0, 0, 48, 112, 255] mixed rfl (by kernel_rfl) (by simp only [fwA, ↓reduceIte, Nat.reduceAdd, Nat.reduceMul, Nat.reduceEqDiff, Nat.reduceLT, Nat.reduceLeDiff, reduceCtorEq, un27, el27, ti60, eq60, Pr.fw, List.getElem?_map, gx, gy, Option.map_some, Int.natCast_nonneg] <;> rfl) ?_
  refine awp_cond (by simp only [fwA, ↓reduceIte, Nat.reduceAdd, Nat.reduceMul, Nat.reduceEqDiff, Nat.reduceLT, Nat.reduceLeDiff, reduceCtorEq] <;> rfl) ?_
  by_cases hn : xs[i] = ys[i]
  rotate_left
  · have hb : (!(decide (xs[i].a = ys[i].a) && (decide (xs[i].b = ys[i].b) && true))) = true := by
      have : ¬ (xs[i].a = ys[i].a ∧ xs[i].b = ys[i].b) := fun ⟨h1, h2⟩ => hn (by
        cases hxi : xs[i]; cases hyi : ys[i]; rw [hxi, hyi] at h1 h2; simp_all)
      simp only [Bool.and_true, Bool.not_eq_true', Bool.and_eq_false_iff, decide_eq_false_iff_not]
      by_cases h1 : xs[i].a = ys[i].a
      · exact .inr fun h2 => this ⟨h1, h2⟩
      · exact .inl h1
    simp only [hb, ↓reduceIte]
    refine awp_seq (awp_run rfl (by simp only [fwA, ↓reduceIte, Nat.reduceAdd, Nat.reduceMul, Nat.reduceEqDiff, Nat.reduceLT, Nat.reduceLeDiff, reduceCtorEq] <;> rfl) (awp_ret ?_))
    exact gives_end0 (.inl rfl) (by rw [decide_eq_false (fun e => hn (by subst e; rfl))]; rfl)
  have hb : (!(decide (xs[i].a = ys[i].a) && (decide (xs[i].b = ys[i].b) && true))) = false := by rw [hn]; simp
  simp only [hb, Bool.false_eq_true, ↓reduceIte]
  refine awp_skip ?_
  refine awp_run rfl (by simp only [fwA, ↓reduceIte, Nat.reduceAdd, Nat.reduceMul, Nat.reduceEqDiff, Nat.reduceLT, Nat.reduceLeDiff, reduceCtorEq] <;> rfl) ?_
  exact ⟨i + 1, by omega, ⟨by omega, by rw [List.take_add_one, List.take_add_one, hi.2, gx, gy, hn]⟩, by rw [wrapS i (by omega)]; rfl, rfl, rfl⟩

end Go.Proofs.YtdacialfjlcboaaGreatDoor

/- The contracts of two lists that are the same; of variables and points; of renaming, by the document. -/
namespace Go.Proofs.YtdacialfjlcboaaGreatDoor
set_option linter.unusedVariables false
set_option linter.unusedSimpArgs false
set_option maxRecDepth 100000
open Go.RowKit Fw

/- chancel/chancellaw10.same -/
theorem c32 (Γ : Nat → PV) (xs ys : List Pr) : Gives Tryz.prog Γ 32 [.vec (xs.map Pr.enc) false, .vec (ys.map Pr.enc) false] (.bool (decide (xs = ys))) := by
  refine fn_of_awp Tryz.func32 rfl (by simp [Tryz.f32]) rfl fun H => ?_
  refine awp_seq ?_
  refine awp_run rfl (by simp only [fwA, ↓reduceIte, Nat.reduceAdd, Nat.reduceMul, Nat.reduceEqDiff, Nat.reduceLT, Nat.reduceLeDiff, reduceCtorEq] <;> rfl) ?_
  refine awp_seq ?_
  refine awp_vlen 0 rfl fun hlx => ?_
  rw [List.length_map] at hlx
  refine awp_seq ?_
  -- region 2
  refine awp_run rfl (by simp only [fwA, ↓reduceIte, Nat.reduceAdd, Nat.reduceMul, Nat.reduceEqDiff, Nat.reduceLT, Nat.reduceLeDiff, reduceCtorEq, un22, el22, ti53, eq53, List.length_map] <;> rfl) ?_
  refine awp_cond (by simp only [fwA, ↓reduceIte, Nat.reduceAdd, Nat.reduceMul, Nat.reduceEqDiff, Nat.reduceLT, Nat.reduceLeDiff, reduceCtorEq] <;> rfl) ?_
  by_cases hl : (xs.length : Int) = ys.length
  rotate_left
  · simp only [hl, decide_false, Bool.not_false, ↓reduceIte]
    refine awp_seq (awp_run rfl (by simp only [fwA, ↓reduceIte, Nat.reduceAdd, Nat.reduceMul, Nat.reduceEqDiff, Nat.reduceLT, Nat.reduceLeDiff, reduceCtorEq] <;> rfl) (awp_ret ?_))
    exact gives_end0 (.inl rfl) (by rw [decide_eq_false (fun e => hl (by rw [e]))]; rfl)
  simp only [hl, decide_true, Bool.not_true, Bool.false_eq_true, ↓reduceIte]
  refine awp_skip ?_
  refine awp_seq ?_
  refine awp_seq ?_
  refine awp_run rfl (by simp only [fwA, ↓reduceIte, Nat.reduceAdd, Nat.reduceMul, Nat.reduceEqDiff, Nat.reduceLT, Nat.reduceLeDiff, reduceCtorEq] <;> rfl) ?_
  refine awp_block ?_
  refine awp_for [0, 1, 5] (fun i : Nat => [.vec (xs.map Pr.enc) false, .vec (ys.map Pr.enc) false, .int .i64 (i : Int)]) (fun _ => H) (fun i => xs.length - i) (fun i => i ≤ xs.length ∧ xs.take i = ys.take i) 0 rfl rfl ⟨Nat.zero_le _, rfl⟩ fun i hi => ?_
  refine awp_seq ?_
  refine awp_seq ?_
  refine awp_run rfl (by simp only [fwA, ↓reduceIte, Nat.reduceAdd, Nat.reduceMul, Nat.reduceEqDiff, Nat.reduceLT, Nat.reduceLeDiff, reduceCtorEq, un22, el22, ti53, eq53, List.length_map] <;> rfl) ?_
  refine awp_cond (by simp only [fwA, ↓reduceIte, Nat.reduceAdd, Nat.reduceMul, Nat.reduceEqDiff, Nat.reduceLT, Nat.reduceLeDiff, reduceCtorEq] <;> rfl) ?_
  by_cases hc : (i : Int) < xs.length
  rotate_left
  · simp only [hc, decide_false, Bool.false_eq_true, ↓reduceIte]
    refine awp_exit ?_
    refine awp_seq (awp_run rfl (by simp only [fwA, ↓reduceIte, Nat.reduceAdd, Nat.reduceMul, Nat.reduceEqDiff, Nat.reduceLT, Nat.reduceLeDiff, reduceCtorEq] <;> rfl) (awp_ret ?_))
    have e : xs = ys := by
      have := hi.2
      rwa [List.take_of_length_le (by omega), List.take_of_length_le (by omega)] at this
    exact gives_end0 (.inl rfl) (by rw [decide_eq_true e]; rfl)
  simp only [hc, decide_true, ↓reduceIte]
  refine awp_skip ?_
  have hix : i < xs.length := by omega
  have hiy : i < ys.length := by omega
  have gx : xs[i]? = some xs[i] := List.getElem?_eq_getElem hix
  have gy : ys[i]? = some ys[i] := List.getElem?_eq_getElem hiy
  refine awp_seq ?_
  refine awp_block ?_
  refine awp_seq ?_
  -- region 7 drawn
  refine awp_drun [0, 0, 0, 1, 0, 0, 0, 1, 0] [0, 0, 3, 7, 0, 0, 48, 112, 255] mixed rfl (by kernel_rfl) (by simp only [fwA, ↓reduceIte, Nat.reduceAdd, Nat.reduceMul, Nat.reduceEqDiff, Nat.reduceLT, Nat.reduceLeDiff, reduceCtorEq, un22, el22, ti53, eq53, Pr.fw, List.getElem?_map, gx, gy, Option.map_some, Int.natCast_nonneg] <;> rfl) ?_
  refine awp_cond (by simp only [fwA, ↓reduceIte, Nat.reduceAdd, Nat.reduceMul, Nat.reduceEqDiff, Nat.reduceLT, Nat.reduceLeDiff, reduceCtorEq] <;> rfl) ?_
  by_cases hn : xs[i] = ys[i]
  rotate_left
  · have hb : (!(decide (xs[i].a = ys[i].a) && (decide (xs[i].b = ys[i].b) && true))) = true := by
      have : ¬ (xs[i].a = ys[i].a ∧ xs[i].b = ys[i].b) := fun ⟨h1, h2⟩ => hn (by
        cases hxi : xs[i]; cases hyi : ys[i]; rw [hxi, hyi] at h1 h2; simp_all)
      simp only [Bool.and_true, Bool.not_eq_true', Bool.and_eq_false_iff, decide_eq_false_iff_not]
      by_cases h1 : xs[i].a = ys[i].a
      · exact .inr fun h2 => this ⟨h1, h2⟩
      · exact .inl h1
    simp only [hb, ↓reduceIte]
    refine awp_seq (awp_run rfl (by simp only [fwA, ↓reduceIte, Nat.reduceAdd, Nat.reduceMul, Nat.reduceEqDiff, Nat.reduceLT, Nat.reduceLeDiff, reduceCtorEq] <;> rfl) (awp_ret ?_))
    exact gives_end0 (.inl rfl) (by rw [decide_eq_false (fun e => hn (by subst e; rfl))]; rfl)
  have hb : (!(decide (xs[i].a = ys[i].a) && (decide (xs[i].b = ys[i].b) && true))) = false := by rw [hn]; simp
  simp only [hb, Bool.false_eq_true, ↓reduceIte]
  refine awp_skip ?_
  refine awp_run rfl (by simp only [fwA, ↓reduceIte, Nat.reduceAdd, Nat.reduceMul, Nat.reduceEqDiff, Nat.reduceLT, Nat.reduceLeDiff, reduceCtorEq] <;> rfl) ?_
  exact ⟨i + 1, by omega, ⟨by omega, by rw [List.take_add_one, List.take_add_one, hi.2, gx, gy, hn]⟩, by rw [wrapS i (by omega)]; rfl, rfl, rfl⟩


/- chancel/atom.Vars$1 -/
theorem c34 (Γ : Nat → PV) (a : Int) : Gives Tryz.prog Γ 34 [.int .i64 a] (.tup [.int .i64 a, .bool (!decide (a < 0))]) := by
  refine fn_of_awp Tryz.func34 rfl (by simp [Tryz.f34]) rfl fun H => ?_
  refine awp_seq ?_
  refine awp_run rfl (by simp only [fwA, ↓reduceIte, Nat.reduceAdd, Nat.reduceMul, Nat.reduceEqDiff, Nat.reduceLT, Nat.reduceLeDiff, reduceCtorEq] <;> rfl) ?_
  refine awp_seq ?_
  refine awp_region rfl ?_
  refine aops_run 2 (by simp only [fwA, ↓reduceIte, Nat.reduceAdd, Nat.reduceMul, Nat.reduceEqDiff, Nat.reduceLT, Nat.reduceLeDiff, reduceCtorEq] <;> rfl) ?_
  refine aops_fn rfl rfl rfl en27 (c27 Γ _) ?_
  refine aops_run 3 (by simp only [fwA, ↓reduceIte, Nat.reduceAdd, Nat.reduceMul, Nat.reduceEqDiff, Nat.reduceLT, Nat.reduceLeDiff, reduceCtorEq] <;> rfl) ?_
  refine awp_ret ?_
  exact gives_end0 (.inl rfl) rfl

/- chancel/atom.Points$1 -/
theorem c37 (Γ : Nat → PV) (a : Int) (ha : I64 a) : Gives Tryz.prog Γ 37 [.int .i64 a] (.tup [.int .i64 (pointOf a), .bool (decide (a < 0))]) := by
  refine fn_of_awp Tryz.func37 rfl (by simp [Tryz.f37]) rfl fun H => ?_
  refine awp_seq ?_
  refine awp_run rfl (by simp only [fwA, ↓reduceIte, Nat.reduceAdd, Nat.reduceMul, Nat.reduceEqDiff, Nat.reduceLT, Nat.reduceLeDiff, reduceCtorEq] <;> rfl) ?_
  refine awp_seq ?_
  refine awp_region rfl ?_
  refine aops_run 1 (by simp only [fwA, ↓reduceIte, Nat.reduceAdd, Nat.reduceMul, Nat.reduceEqDiff, Nat.reduceLT, Nat.reduceLeDiff, reduceCtorEq] <;> rfl) ?_
  refine aops_fn rfl rfl rfl en25 (c25 Γ _ ha) ?_
  refine aops_run 1 (by simp only [fwA, ↓reduceIte, Nat.reduceAdd, Nat.reduceMul, Nat.reduceEqDiff, Nat.reduceLT, Nat.reduceLeDiff, reduceCtorEq] <;> rfl) ?_
  refine aops_fn rfl rfl rfl en27 (c27 Γ _) ?_
  refine aops_run 2 (by simp only [fwA, ↓reduceIte, Nat.reduceAdd, Nat.reduceMul, Nat.reduceEqDiff, Nat.reduceLT, Nat.reduceLeDiff, reduceCtorEq] <;> rfl) ?_
  refine awp_ret ?_
  exact gives_end0 (.inl rfl) rfl

def gV (a : Int) : Int × Bool := (a, !decide (a < 0))
def gP (a : Int) : Int × Bool := (pointOf a, decide (a < 0))
/-- The numbers of pairs are of a machine word. -/
def OkP (ps : List Pr) : Prop := ∀ p ∈ ps, I64 p.a ∧ I64 p.b

/- chancel/atom.Vars -/
theorem c12 (Γ : Nat → PV) (ps : List Pr) (f : Bool) (hl : ps.length ≤ 100000000) : Gives Tryz.prog Γ 12 [.vec (ps.map Pr.enc) f] (.vec ((gath gV ps).map I1) false) := by
  refine fn_of_awp Tryz.func12 rfl (by simp [Tryz.f12]) rfl fun H => ?_
  refine awp_seq ?_
  refine awp_run rfl (by simp only [fwA, ↓reduceIte, Nat.reduceAdd, Nat.reduceMul, Nat.reduceEqDiff, Nat.reduceLT, Nat.reduceLeDiff, reduceCtorEq] <;> rfl) ?_
  refine awp_seq ?_
  refine awp_region rfl ?_
  refine aops_run 1 (by simp only [fwA, ↓reduceIte, Nat.reduceAdd, Nat.reduceMul, Nat.reduceEqDiff, Nat.reduceLT, Nat.reduceLeDiff, reduceCtorEq] <;> rfl) ?_
  refine aops_fn rfl rfl rfl en33 (c33 Γ 34 en34 gV ps f hl fun p _ => ⟨c34 Γ _, c34 Γ _⟩) ?_
  refine aops_run 1 (by simp only [fwA, ↓reduceIte, Nat.reduceAdd, Nat.reduceMul, Nat.reduceEqDiff, Nat.reduceLT, Nat.reduceLeDiff, reduceCtorEq] <;> rfl) ?_
  refine awp_ret ?_
  exact gives_end0 (.inl rfl) rfl

/- chancel/atom.Points -/
theorem c14 (Γ : Nat → PV) (ps : List Pr) (f : Bool) (hl : ps.length ≤ 100000000) (ho : OkP ps) : Gives Tryz.prog Γ 14 [.vec (ps.map Pr.enc) f] (.vec ((gath gP ps).map I1) false) := by
  refine fn_of_awp Tryz.func14 rfl (by simp [Tryz.f14]) rfl fun H => ?_
  refine awp_seq ?_
  refine awp_run rfl (by simp only [fwA, ↓reduceIte, Nat.reduceAdd, Nat.reduceMul, Nat.reduceEqDiff, Nat.reduceLT, Nat.reduceLeDiff, reduceCtorEq] <;> rfl) ?_
  refine awp_seq ?_
  refine awp_region rfl ?_
  refine aops_run 1 (by simp only [fwA, ↓reduceIte, Nat.reduceAdd, Nat.reduceMul, Nat.reduceEqDiff, Nat.reduceLT, Nat.reduceLeDiff, reduceCtorEq] <;> rfl) ?_
  refine aops_fn rfl rfl rfl en36 (c36 Γ 37 en37 gP ps f hl fun p hp => ⟨c37 Γ _ (ho p hp).1, c37 Γ _ (ho p hp).2⟩) ?_
  refine aops_run 1 (by simp only [fwA, ↓reduceIte, Nat.reduceAdd, Nat.reduceMul, Nat.reduceEqDiff, Nat.reduceLT, Nat.reduceLeDiff, reduceCtorEq] <;> rfl) ?_
  refine awp_ret ?_
  exact gives_end0 (.inl rfl) rfl

/- chancel/chancelref10.Point -/
theorem c24 (Γ : Nat → PV) (a : Int) (ha : I64 a) : Gives Tryz.prog Γ 24 [.int .i64 a] (.int .i64 (if a < 0 then 0 else -1 - a)) := by
  refine fn_of_awp Tryz.func24 rfl (by simp [Tryz.f24]) rfl fun H => ?_
  refine awp_seq ?_
  refine awp_run rfl (by simp only [fwA, ↓reduceIte, Nat.reduceAdd, Nat.reduceMul, Nat.reduceEqDiff, Nat.reduceLT, Nat.reduceLeDiff, reduceCtorEq] <;> rfl) ?_
  refine awp_seq ?_
  refine awp_seq ?_
  refine awp_run rfl (by simp only [fwA, ↓reduceIte, Nat.reduceAdd, Nat.reduceMul, Nat.reduceEqDiff, Nat.reduceLT, Nat.reduceLeDiff, reduceCtorEq] <;> rfl) ?_
  refine awp_cond (by simp only [fwA, ↓reduceIte, Nat.reduceAdd, Nat.reduceMul, Nat.reduceEqDiff, Nat.reduceLT, Nat.reduceLeDiff, reduceCtorEq] <;> rfl) ?_
  by_cases hc : a < 0
  · simp only [hc, decide_true, ↓reduceIte]
    refine awp_seq ?_
    refine awp_run rfl (by simp only [fwA, ↓reduceIte, Nat.reduceAdd, Nat.reduceMul, Nat.reduceEqDiff, Nat.reduceLT, Nat.reduceLeDiff, reduceCtorEq] <;> rfl) ?_
    refine awp_ret ?_
    exact gives_end0 (.inl rfl) rfl
  simp only [hc, decide_false, Bool.false_eq_true, ↓reduceIte]
  refine awp_skip ?_
  refine awp_seq ?_
  have hw : IntKind.i64.wrap (-1 - a) = -1 - a := wrapId ⟨by have := ha.2; omega, by omega⟩
  refine awp_run rfl (by simp only [fwA, ↓reduceIte, Nat.reduceAdd, Nat.reduceMul, Nat.reduceEqDiff, Nat.reduceLT, Nat.reduceLeDiff, reduceCtorEq] <;> rfl) ?_
  refine awp_ret ?_
  exact gives_end0 (.inl rfl) (by simp only [hw]; rfl)

end Go.Proofs.YtdacialfjlcboaaGreatDoor

/- The contracts of pairs' texts. -/
namespace Go.Proofs.YtdacialfjlcboaaGreatDoor
set_option linter.unusedVariables false
set_option linter.unusedSimpArgs false
set_option maxRecDepth 100000
open Go.RowKit Go.Shelf Fw

def S1 (s : List UInt8) : List PV := [.str s]
theorem S1_len (n : List UInt8) : (S1 n).length = 1 := rfl
theorem S1_fw : (∀ n, (S1 n).length = 1) ∧ (∀ n, (S1 n)[0]? = some (.str n)) ∧ (∀ (m : Nat) n, PV.bdL m (S1 n) = true) := ⟨fun _ => rfl, fun _ => rfl, fun _ _ => rfl⟩
theorem flatS (ts : List (List UInt8)) : (ts.map S1).flatten = ts.map PV.str := by
  induction ts with
  | nil => rfl
  | cons z zs ih => rw [List.map_cons, List.flatten_cons, ih]; rfl

theorem rowCap {Γ : Nat → PV} {w0 w : World} {G : Ghost} {H : List Blk} {b k sz : Nat} {cs : List PV} {v : Value} (h : Sim Γ w0 G H w) (hb : H[b]? = some (.row sz cs)) (hlen : cs.length = k * sz) (hv : Rep G H.length (.row b 0 k sz) v) : ∀ ad k' cap, v = .slice ad k' cap → k ≤ cap := fun ad k' cap e => by
  obtain ⟨ad2, cap2, rfl, _, _, h3, h4⟩ := hv.row_inv
  cases e
  obtain ⟨_, k2, _⟩ := h.blk b _ hb
  exact (h4 (by omega)).1

/- strings.Join -/
theorem c52 (Γ : Nat → PV) (H : List Blk) (b : Nat) (ts : List (List UInt8)) (sep : List UInt8) (hb : H[b]? = some (.row 1 ((ts.map S1).flatten))) (hne : ts ≠ []) (hN : ts.length ≤ 1000000000000) (hlen : (Lib.join ts sep).length ≤ 140737488355328) :
    ACalls Tryz.prog Γ 52 [.row b 0 ts.length 1, .str sep] H (fun p H' => p = .str (Lib.join ts sep) ∧ H' = H) := by
  intro w0 G w us hs hr
  obtain ⟨l⟩ := us
  obtain ⟨v, vs, rfl, r1, r2⟩ := hr.cons_inv
  obtain ⟨v2, vs, rfl, r3, r4⟩ := r2.cons_inv
  have : vs = [] := by have := r4.1; simpa using this.symm
  subst this
  have hv2 := r3.str_inv
  subst hv2
  have hl1 : ((ts.map S1).flatten).length = ts.length * 1 := flat_len S1_len ts
  have hcap := rowCap hs hb hl1 r1
  obtain ⟨ad, cap, rfl, hcase⟩ := hs.rowCells hb hl1 r1
  have hcap2 : ts.length ≤ cap := hcap _ _ _ rfl
  rcases hcase with h0 | ⟨rfl, hsub, hpos, hblk, hcells⟩
  · exact absurd (List.eq_nil_of_length_eq_zero h0) hne
  have hxs : ((ts.map fun s => (⟨s.toArray⟩ : ByteArray)).map (·.data.toList)) = ts := by
    rw [List.map_map]
    conv => rhs; rw [← List.map_id ts]
    exact List.map_congr_left fun s _ => by simp
  have hc := Any.strings_Join joins extra (G.info b).blk 0 cap (ts.map fun s => (⟨s.toArray⟩ : ByteArray)) ⟨sep.toArray⟩ w (fun j x hx => by
    rw [List.getElem?_map] at hx
    obtain ⟨s, hs', rfl⟩ := Option.map_eq_some_iff.1 hx
    obtain ⟨u, g1, _, g3, _⟩ := hcells j (.str s) (by rw [flatS, List.getElem?_map, hs']; rfl)
    rw [Nat.zero_add, g1, g3.str_inv]) hblk (by rw [List.length_map]; omega) (by rw [List.length_map]; exact hcap2) (by rw [hxs]; simpa using hlen)
  rw [hxs, List.length_map] at hc
  refine callsIn_wide.2 (hc.mono fun e w' hq => ?_)
  obtain ⟨rfl, hbel⟩ := hq
  exact ⟨_, .str (Lib.join ts sep), H, G, rfl, hs.grown hbel, .str _ _ (by omega), Evol.refl _ _, Nat.le_refl _, rfl, rfl⟩

/-- A pair as it is read. -/
def pairT (names : List (List UInt8)) (p : Pr) : List UInt8 := atomT names p.a ++ [32, 60, 61, 32] ++ atomT names p.b
/-- Pairs as they are read. -/
def textsL (names : List (List UInt8)) (ps : List Pr) : List UInt8 := if ps = [] then [45] else Lib.join (ps.map (pairT names)) [44, 32]

theorem pairT_len {names : List (List UInt8)} {B : Nat} (hB : ∀ s ∈ names, s.length ≤ B) {p : Pr} (ha : I64 p.a ∧ I64 p.b) : (pairT names p).length ≤ 2 * B + 48 := by
  have h1 := atomT_len hB ha.1
  have h2 := atomT_len hB ha.2
  unfold pairT
  rw [List.length_append, List.length_append]
  simp only [List.length_cons, List.length_nil]
  omega

theorem join_len {sep : List UInt8} {B : Nat} : ∀ ts : List (List UInt8), (∀ t ∈ ts, t.length ≤ B) → (Lib.join ts sep).length ≤ ts.length * (B + sep.length)
  | [], _ => by simp [Lib.join, List.intercalate]
  | [t], h => by rw [Lib.join_one]; have := h t (by simp); simp; omega
  | t :: u :: ts, h => by
    have ih := join_len (sep := sep) (u :: ts) (fun x hx => h x (by simp [hx]))
    have h0 := h t (by simp)
    have e : (Lib.join (t :: u :: ts) sep).length = t.length + sep.length + (Lib.join (u :: ts) sep).length := by
      simp [Lib.join, List.intercalate, List.intersperse]; omega
    rw [e, List.length_cons, Nat.add_mul]
    omega

set_option maxHeartbeats 1000000 in
/- chancel/atom.Texts -/
theorem c30 (Γ : Nat → PV) (hΓ : Tab Γ) (names : List (List UInt8)) (ps : List Pr) (fl : Bool) (hl : ps.length ≤ 2000000) (ho : OkP ps) (hB : ∀ s ∈ names, s.length ≤ 2000000) :
    Gives Tryz.prog Γ 30 [.vec (names.map fun s => [.str s]) false, .vec (ps.map Pr.enc) fl] (.str (textsL names ps)) := by
  refine fn_of_awp Tryz.func30 rfl (by simp [Tryz.f30]) rfl fun H => ?_
  refine awp_bd fun hbd => ?_
  refine awp_seq ?_
  refine awp_run rfl (by simp only [fwA, ↓reduceIte, Nat.reduceAdd, Nat.reduceMul, Nat.reduceEqDiff, Nat.reduceLT, Nat.reduceLeDiff, reduceCtorEq] <;> rfl) ?_
  refine awp_seq ?_
  refine awp_run rfl (by simp only [fwA, ↓reduceIte, Nat.reduceAdd, Nat.reduceMul, Nat.reduceEqDiff, Nat.reduceLT, Nat.reduceLeDiff, reduceCtorEq] <;> rfl) ?_
  refine awp_seq ?_
  refine awp_seq ?_
  refine awp_run rfl (by simp only [fwA, ↓reduceIte, Nat.reduceAdd, Nat.reduceMul, Nat.reduceEqDiff, Nat.reduceLT, Nat.reduceLeDiff, reduceCtorEq, un22, List.length_map] <;> rfl) ?_
  refine awp_told (told_adopt 5 1 (by decide) rfl) ?_
  refine awp_block ?_
  refine awp_forG [0, 5, 8, 9, 10] (fun i : Nat => [.vec (names.map fun s => [.str s]) false, .row H.length 0 i 1, .vec (ps.map Pr.enc) fl, .int .i64 (ps.length : Int), .int .i64 (i : Int)])
    (fun i => H ++ [.row 1 ((((ps.take i).map (pairT names)).map S1).flatten)]) (fun i => ps.length - i) (fun i => i ≤ ps.length) 0 rfl rfl (Nat.zero_le _)
    (fun i _ => ⟨bd_app (fun B hB => hbd B hB) (by simp only [List.all_cons, List.all_nil, Blk.bd, flat_bd (fun x => S1_fw.2.2 _ x), Bool.and_true]), by simp [PV.bdL, PV.bd]⟩) (fun i _ b hb => by cases hb) fun i hi => ?_
  have hti : ((ps.take i).map (pairT names)).length = i := by simp; omega
  refine awp_seq ?_
  refine awp_run rfl (by simp only [fwA, ↓reduceIte, Nat.reduceAdd, Nat.reduceMul, Nat.reduceEqDiff, Nat.reduceLT, Nat.reduceLeDiff, reduceCtorEq] <;> rfl) ?_
  refine awp_seq ?_
  refine awp_cond (by simp only [fwA, ↓reduceIte, Nat.reduceAdd, Nat.reduceMul, Nat.reduceEqDiff, Nat.reduceLT, Nat.reduceLeDiff, reduceCtorEq] <;> rfl) ?_
  by_cases hc : (i : Int) < ps.length
  rotate_left
  · simp only [hc, decide_false, Bool.false_eq_true, ↓reduceIte]
    refine awp_exit ?_
    have e : i = ps.length := by omega
    subst e
    rw [List.take_length]
    refine awp_seq ?_
    refine awp_seq ?_
    refine awp_run rfl (by simp only [fwA, ↓reduceIte, Nat.reduceAdd, Nat.reduceMul, Nat.reduceEqDiff, Nat.reduceLT, Nat.reduceLeDiff, reduceCtorEq, un25] <;> rfl) ?_
    refine awp_cond (by simp only [fwA, ↓reduceIte, Nat.reduceAdd, Nat.reduceMul, Nat.reduceEqDiff, Nat.reduceLT, Nat.reduceLeDiff, reduceCtorEq] <;> rfl) ?_
    by_cases h0 : (ps.length : Int) = 0
    · simp only [h0, decide_true, ↓reduceIte]
      refine awp_seq ?_
      refine awp_run rfl (by simp only [fwA, ↓reduceIte, Nat.reduceAdd, Nat.reduceMul, Nat.reduceEqDiff, Nat.reduceLT, Nat.reduceLeDiff, reduceCtorEq] <;> rfl) ?_
      refine awp_ret ?_
      have hps : ps = [] := List.eq_nil_of_length_eq_zero (by omega)
      exact gives_end (.inl rfl) _ (by unfold textsL; rw [if_pos hps]; rfl)
    have hps : ps ≠ [] := fun h => h0 (by rw [h]; rfl)
    simp only [h0, decide_false, Bool.false_eq_true, ↓reduceIte]
    refine awp_skip ?_
    refine awp_seq ?_
    refine awp_region rfl ?_
    have hj := join_len (sep := [44, 32]) (B := 4000048) (ps.map (pairT names)) (fun t ht => by
      obtain ⟨p, hp, rfl⟩ := List.mem_map.1 ht
      have := pairT_len hB (ho p hp); omega)
    rw [List.length_map] at hj
    have hj2 : ps.length * (4000048 + 2) ≤ 2000000 * (4000048 + 2) := Nat.mul_le_mul_right _ hl
    have hc52 := c52 Γ (H ++ [.row 1 (((ps.map (pairT names)).map S1).flatten)]) H.length (ps.map (pairT names)) [44, 32] (get_at0 H _) (by simpa using hps) (by rw [List.length_map]; omega) (Nat.le_trans hj (Nat.le_trans hj2 (by decide)))
    rw [List.length_map] at hc52
    refine aops_run 1 (by simp only [fwA, ↓reduceIte, Nat.reduceAdd, Nat.reduceMul, Nat.reduceEqDiff, Nat.reduceLT, Nat.reduceLeDiff, reduceCtorEq] <;> rfl) ?_
    refine aops_call rfl rfl rfl en52 (hc52.mono fun p H4 hp => ?_)
    obtain ⟨rfl, rfl⟩ := hp
    refine aops_run 1 (by simp only [fwA, ↓reduceIte, Nat.reduceAdd, Nat.reduceMul, Nat.reduceEqDiff, Nat.reduceLT, Nat.reduceLeDiff, reduceCtorEq] <;> rfl) ?_
    refine awp_ret ?_
    exact gives_end (.inl rfl) _ (by unfold textsL; rw [if_neg hps]; rfl)
  simp only [hc, decide_true, ↓reduceIte]
  refine awp_skip ?_
  have hil : i < ps.length := by omega
  have ga : ps[i]? = some ps[i] := List.getElem?_eq_getElem hil
  obtain ⟨hoa, hob⟩ := ho ps[i] (List.getElem_mem hil)
  have h1 := atomT_len hB hoa
  have h2 := atomT_len hB hob
  have hq2 : (atomT names ps[i].a ++ [32, 60, 61, 32]).length + (atomT names ps[i].b).length ≤ 9223372036854775807 := by rw [List.length_append]; simp only [List.length_cons, List.length_nil]; omega
  have hq1 : (atomT names ps[i].a).length ≤ 9223372036854775803 := by omega
  refine awp_seq ?_
  refine awp_block ?_
  refine awp_seq ?_
  refine awp_run rfl (by simp only [fwA, ↓reduceIte, Nat.reduceAdd, Nat.reduceMul, Nat.reduceEqDiff, Nat.reduceLT, Nat.reduceLeDiff, reduceCtorEq, el22, ti53, Pr.fw, List.getElem?_map, ga, Option.map_some, Int.natCast_nonneg] <;> rfl) ?_
  refine awp_drawn [0, 0, 0, 1, 0, 0, 0, 0, 1, 0, 0, 0, 2, 0] [0, 0, 0, 4, 14, 30, 0, 0, 128, 478, 1022, 2046, 4095, 8191] mixed rfl (by kernel_rfl) ?_
  refine dops_run 4 (by simp only [fwA, ↓reduceIte, Nat.reduceAdd, Nat.reduceMul, Nat.reduceEqDiff, Nat.reduceLT, Nat.reduceLeDiff, reduceCtorEq, fl53_0, ti24, Pr.fw] <;> rfl) ?_
  refine dops_fn rfl rfl rfl rfl en28 (c28 Γ hΓ names _ hoa) ?_
  refine dops_run 4 (by simp only [fwA, ↓reduceIte, Nat.reduceAdd, Nat.reduceMul, Nat.reduceEqDiff, Nat.reduceLT, Nat.reduceLeDiff, reduceCtorEq, fl53_1, ti24, Pr.fw, hq1] <;> rfl) ?_
  refine dops_fn rfl rfl rfl rfl en28 (c28 Γ hΓ names _ hob) ?_
  refine dops_run 2 (by simp only [fwA, ↓reduceIte, Nat.reduceAdd, Nat.reduceMul, Nat.reduceEqDiff, Nat.reduceLT, Nat.reduceLeDiff, reduceCtorEq, un25, ti9, hq2] <;> rfl) ?_
  refine dops_appendR rfl rfl rfl un25 ti9 un25 (.inl ⟨_, rfl⟩) rfl (by simp only [fwA, ↓reduceIte, Nat.reduceAdd, Nat.reduceMul, Nat.reduceEqDiff, Nat.reduceLT, Nat.reduceLeDiff, reduceCtorEq] <;> rfl) (by rw [flat_len S1_len, hti]; exact (Nat.zero_add _).symm) rfl (fun es f h e he => by
      simp only [fwA, ↓reduceIte, Nat.reduceAdd, Nat.reduceMul, Nat.reduceEqDiff, Nat.reduceLT, Nat.reduceLeDiff, reduceCtorEq, PV.vec.injEq] at h
      obtain ⟨rfl, rfl⟩ := h
      simp only [List.mem_singleton] at he
      subst he; rfl) rfl (by show (i + 1) * 16 ≤ _; omega) (by show i + 1 ≤ _; omega) ?_
  refine dops_run 1 (by simp only [fwA, ↓reduceIte, Nat.reduceAdd, Nat.reduceMul, Nat.reduceEqDiff, Nat.reduceLT, Nat.reduceLeDiff, reduceCtorEq] <;> rfl) ?_
  refine dops_end ?_
  refine awp_run rfl (by simp only [fwA, ↓reduceIte, Nat.reduceAdd, Nat.reduceMul, Nat.reduceEqDiff, Nat.reduceLT, Nat.reduceLeDiff, reduceCtorEq] <;> rfl) ?_
  have hmp : ((ps.take (i + 1)).map (pairT names)) = ((ps.take i).map (pairT names)) ++ [pairT names ps[i]] := by rw [List.take_add_one, ga, List.map_append]; rfl
  refine ⟨i + 1, [.box ps[i].enc], by omega, by omega, by rw [wrapS i (by omega)]; rfl, ?_, rfl, by simp⟩
  rw [hmp, List.map_append, List.flatten_append]
  simp [S1, pairT]

end Go.Proofs.YtdacialfjlcboaaGreatDoor

/- Lists that rise: what is left of a sorted list, each element once. -/
namespace Go.Proofs.YtdacialfjlcboaaGreatDoor
set_option linter.unusedVariables false
set_option linter.unusedSimpArgs false
set_option maxRecDepth 100000
open Go.RowKit Fw

section
variable {X : Type} [DecidableEq X]

theorem cpt_mem (l : List X) : ∀ i x, x ∈ cpt l i ↔ x ∈ l.take i
  | 0, x => by simp [cpt]
  | i + 1, x => by
    have ih := cpt_mem l i x
    cases h : l[i]? with
    | none =>
      have e : cpt l (i + 1) = cpt l i := by simp only [cpt, h]; rw [List.append_nil]
      rw [e, ih, List.take_add_one, h]; simp
    | some y =>
      by_cases hd : 0 < i ∧ l[i - 1]? = some y
      · rw [cpt_dup hd.1 h hd.2, ih, List.take_add_one, h]
        have hm : y ∈ l.take i := List.mem_of_getElem? (i := i - 1) (by rw [List.getElem?_take_of_lt (by omega)]; exact hd.2)
        simp only [Option.toList_some, List.mem_append, List.mem_singleton]
        exact ⟨.inl, fun h => h.elim id fun e => e ▸ hm⟩
      · rw [cpt_new h (fun h0 e => hd ⟨h0, e⟩), List.mem_append, ih, List.take_add_one, h, List.mem_append]
        simp

theorem cpt_rise {le : X → X → Prop} (anti : ∀ x y, le x y → le y x → x = y) (l : List X) (hl : l.Pairwise le) : ∀ i, (cpt l i).Pairwise fun x y => le x y ∧ x ≠ y
  | 0 => List.Pairwise.nil
  | i + 1 => by
    have ih := cpt_rise anti l hl i
    cases h : l[i]? with
    | none =>
      have e : cpt l (i + 1) = cpt l i := by simp only [cpt, h]; rw [List.append_nil]
      rw [e]; exact ih
    | some y =>
      by_cases hd : 0 < i ∧ l[i - 1]? = some y
      · rw [cpt_dup hd.1 h hd.2]; exact ih
      · rw [cpt_new h (fun h0 e => hd ⟨h0, e⟩)]
        refine List.pairwise_append.2 ⟨ih, List.pairwise_singleton _ _, fun x hx z hz => ?_⟩
        obtain rfl := List.mem_singleton.1 hz
        rw [cpt_mem] at hx
        obtain ⟨j, hj⟩ := List.getElem?_of_mem hx
        have hji : j < i := by have := (List.getElem?_eq_some_iff.1 hj).1; rw [List.length_take] at this; omega
        rw [List.getElem?_take_of_lt hji] at hj
        obtain ⟨hjl, rfl⟩ := List.getElem?_eq_some_iff.1 hj
        obtain ⟨hil, rfl⟩ := List.getElem?_eq_some_iff.1 h
        have hp := List.pairwise_iff_getElem.1 hl
        refine ⟨hp j i hjl hil hji, fun e => hd ⟨by omega, ?_⟩⟩
        rw [List.getElem?_eq_getElem (show i - 1 < l.length by omega)]
        congr 1
        by_cases hj1 : j = i - 1
        · subst hj1; exact e
        · exact anti _ _ (hp (i - 1) i (by omega) hil (by omega)) (e ▸ hp j (i - 1) hjl (by omega) (by omega))

omit [DecidableEq X] in
/-- Two lists that rise and have the same members are the same. -/
theorem rise_eq {lt : X → X → Prop} (asym : ∀ x y, lt x y → ¬ lt y x) : ∀ l k : List X, l.Pairwise lt → k.Pairwise lt → (∀ x, x ∈ l ↔ x ∈ k) → l = k
  | [], [], _, _, _ => rfl
  | [], y :: k, _, _, h => absurd ((h y).2 (by simp)) (by simp)
  | x :: l, [], _, _, h => absurd ((h x).1 (by simp)) (by simp)
  | x :: l, y :: k, hl, hk, h => by
    rw [List.pairwise_cons] at hl hk
    have irr : ∀ a, ¬ lt a a := fun a h => asym a a h h
    have hxy : x = y := by
      rcases List.mem_cons.1 ((h x).1 (by simp)) with e | hm
      · exact e
      · rcases List.mem_cons.1 ((h y).2 (by simp)) with e | hm2
        · exact e.symm
        · exact absurd (hk.1 x hm) (asym _ _ (hl.1 y hm2))
    subst hxy
    congr 1
    refine rise_eq asym l k hl.2 hk.2 fun z => ⟨fun hz => ?_, fun hz => ?_⟩
    · rcases List.mem_cons.1 ((h z).1 (by simp [hz])) with e | hm
      · exact absurd (e ▸ hl.1 z hz) (irr _)
      · exact hm
    · rcases List.mem_cons.1 ((h z).2 (by simp [hz])) with e | hm
      · exact absurd (e ▸ hk.1 z hz) (irr _)
      · exact hm
end

/-- One pair stands ahead of another one. -/
def ltP (x y : Pr) : Prop := x.a < y.a ∨ (x.a = y.a ∧ x.b < y.b)
theorem ltP_asym (x y : Pr) (h : ltP x y) : ¬ ltP y x := by unfold ltP at *; omega
theorem leP_anti (x y : Pr) (h : leP x y = true) (h2 : leP y x = true) : x = y := by
  unfold leP at *
  simp only [decide_eq_true_eq] at *
  exact pr_ext (by omega) (by omega)

theorem sortP_rise (l : List Pr) : (sortP l).Pairwise fun x y => leP x y = true := by
  unfold sortP
  refine List.pairwise_mergeSort (fun a b c h1 h2 => ?_) (fun a b => ?_) _
  · unfold leP at *; simp only [decide_eq_true_eq] at *; omega
  · unfold leP; simp only [Bool.or_eq_true, decide_eq_true_eq]; omega
theorem normL_mem (l : List Pr) (x : Pr) : x ∈ normL l ↔ x ∈ l ∧ unl x = true := by
  unfold normL
  rw [cpt_mem, List.take_length]
  unfold sortP
  rw [(List.mergeSort_perm _ _).mem_iff, List.mem_filter]
theorem normL_rise (l : List Pr) : (normL l).Pairwise ltP := by
  unfold normL
  refine (cpt_rise leP_anti (sortP l) (sortP_rise l) _).imp fun {x y} h => ?_
  obtain ⟨h1, h2⟩ := h
  unfold leP at h1
  simp only [decide_eq_true_eq] at h1
  unfold ltP
  by_cases h3 : x.a < y.a
  · exact .inl h3
  · refine .inr ⟨by omega, ?_⟩
    have : x.b ≠ y.b := fun e => h2 (pr_ext (by omega) e)
    omega
theorem normL_is {l k : List Pr} (hk : k.Pairwise ltP) (h : ∀ x, x ∈ k ↔ x ∈ l ∧ unl x = true) : normL l = k :=
  rise_eq ltP_asym _ _ (normL_rise l) hk fun x => by rw [normL_mem, h]

theorem onceI_mem (l : List Int) (x : Int) : x ∈ onceI l ↔ x ∈ l := by
  unfold onceI
  rw [cpt_mem, List.take_length, (List.mergeSort_perm _ _).mem_iff]
theorem onceI_rise (l : List Int) : (onceI l).Pairwise (· < ·) := by
  unfold onceI
  refine (cpt_rise (le := fun x y : Int => leI x y = true) (fun x y h1 h2 => ?_) _ (List.pairwise_mergeSort (fun a b c h1 h2 => ?_) (fun a b => ?_) _) _).imp fun {x y} h => ?_
  · unfold leI at *; simp only [decide_eq_true_eq] at *; omega
  · unfold leI at *; simp only [decide_eq_true_eq] at *; omega
  · unfold leI; simp only [Bool.or_eq_true, decide_eq_true_eq]; omega
  · obtain ⟨h1, h2⟩ := h
    unfold leI at h1
    simp only [decide_eq_true_eq] at h1
    omega
theorem onceI_is {l k : List Int} (hk : k.Pairwise (· < ·)) (h : ∀ x, x ∈ k ↔ x ∈ l) : onceI l = k :=
  rise_eq (fun x y h1 h2 => by omega) _ _ (onceI_rise l) hk fun x => by rw [onceI_mem, h]

end Go.Proofs.YtdacialfjlcboaaGreatDoor
