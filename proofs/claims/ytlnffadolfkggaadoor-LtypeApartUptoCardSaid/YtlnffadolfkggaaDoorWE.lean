/- The contracts of the program's renaming of atoms and pairs. -/
import Derived.Test.YtlnffadolfkggaaDoorWD
namespace Go.Proofs.YtlnffadolfkggaaDoor
set_option linter.unusedVariables false
set_option linter.unusedSimpArgs false
set_option maxRecDepth 100000
open Go.RowKit Fw

section
variable {P : Program} {Γ : Nat → PV}
/-- A piece that ends with more blocks than are looked at. -/
theorem awp_cut {N : Nat} {ro : Option Nat} {c : Code} {A : List (Nat × PV)} {H : List Blk} {Q : Post} (ks : List Nat) (S : List PV) (H1 : List Blk) (bd1 : ∀ B ∈ H1, B.bd H1.length = true) (bd2 : PV.bdL H1.length S = true) (hn : H.length ≤ H1.length)
    (h : AWP P Γ N ro c A H [] (fun e A' H' D' => e = .normal ∧ ks.map (alook A') = S ∧ (∃ L, H' = H1 ++ L) ∧ D' = [])) (hk : Q .normal (ks.zip S) H1 []) : AWP P Γ N ro c A H [] Q := by
  intro w0 G w a hs ha hd
  refine wpIn_mono (h w0 G w a hs ha hd) fun e a' w' hl => ?_
  obtain ⟨G', A1, H1', D1, g1, g2, g3, g4, g5, g6⟩ := hl
  obtain ⟨rfl, hks, ⟨L, rfl⟩, rfl⟩ := g6
  have ht : (H1 ++ L).take H1.length = H1 := List.take_left' rfl
  have g1' := g1.take H1.length (by simp) (by rw [ht]; exact bd1)
  rw [ht] at g1'
  refine ⟨G', ks.zip S, H1, [], g1', ⟨g2.1, fun t => ?_⟩, ⟨g3.1, fun b hb => by cases hb⟩, g4, hn, hk⟩
  have hz := (g2.less fun t => zip_look ks _ t A1 hks).2 t
  refine hz.cut _ ?_
  have : ∀ (keep : List Nat) (ps : List PV), PV.bdL H1.length ps = true → (alook (keep.zip ps) t).bd H1.length = true := by
    intro keep
    induction keep with
    | nil => intro ps _; rfl
    | cons k keep ih =>
      intro ps hp
      cases ps with
      | nil => rfl
      | cons p ps =>
        simp only [PV.bdL, Bool.and_eq_true] at hp
        simp only [List.zip_cons_cons, alook]
        split
        · exact hp.1
        · exact ih ps hp.2
  exact this ks _ bd2

/-- A call that reads, in a drawn region. -/
theorem dops_rcall {ops : Array Oper} {cls : List Nat} {n0 : View} {K : List (Nat × PV) → List Blk → Prop} {i : Nat} {o : Oper} {rest : List (Nat × Oper)} {A : List (Nat × PV)} {H : List Blk} {x : Operand} {args : Array Operand} {ts : Array TypeId} {f : FuncId} {fs cs : List PV} {p : PV}
    (ho : o.op = .call { callee := .value x, args := args, argTypes := ts }) (hw : wantA ops A o = some true) (hc : cls.getD i 0 = 1) (hx : ev Γ A x = .func (.func f) fs cs) (he : Enters P f)
    (h : ACalls P Γ f (fs ++ args.toList.map (ev Γ A) ++ cs) H (fun q H1 => q = p ∧ H1 = H)) (hk : DOps P Γ ops cls n0 K rest (aput A o.dst p) H) : DOps P Γ ops cls n0 K ((i, o) :: rest) A H :=
  dops_reads p hw hc (fun A' hev => by
    have hops : ∀ y, y = x ∨ y ∈ args → ev Γ A' y = ev Γ A y := fun y hy => hev y (by
      rw [ho]
      simp only [Op.operands, Call.operands, Array.mem_append]
      rcases hy with rfl | hy
      · exact .inl (by simp)
      · exact .inr hy)
    refine os_call ho (by rw [hops x (.inl rfl)]; exact hx) he ?_
    rw [List.map_congr_left (l := args.toList) fun y hy => hops y (.inr (by simpa using hy))]
    exact h) hk
end

def idxI (fr : List Int) (a : Int) : Int := match fr.findIdx? (fun b => decide (b = a)) with
  | some k => k
  | none => -1
theorem idxI_none {fr : List Int} {a : Int} (h : ∀ j, j < fr.length → fr[j]? ≠ some a) : idxI fr a = -1 := by
  unfold idxI
  have : fr.findIdx? (fun b => decide (b = a)) = none := by
    rw [List.findIdx?_eq_none_iff]
    intro x hx
    obtain ⟨j, hj⟩ := List.getElem?_of_mem hx
    have := h j (List.getElem?_eq_some_iff.1 hj).1
    rw [hj] at this
    simpa using this
  rw [this]
theorem idxI_some {fr : List Int} {a : Int} {i : Nat} (h : ∀ j, j < i → fr[j]? ≠ some a) (hi : fr[i]? = some a) : idxI fr a = i := by
  unfold idxI
  have : fr.findIdx? (fun b => decide (b = a)) = some i := by
    obtain ⟨h1, h2⟩ := List.getElem?_eq_some_iff.1 hi
    rw [List.findIdx?_eq_some_iff_getElem]
    refine ⟨h1, by simp [h2], fun j hj => ?_⟩
    have := h j hj
    rw [List.getElem?_eq_getElem (by omega)] at this
    simpa using this
  rw [this]

/-- slices.Index[[]chancel/atom.Atom,chancel/atom.Atom] -/
theorem c70 (Γ : Nat → PV) (fr : List Int) (a : Int) : Gives Tryd.prog Γ 70 [.vec (fr.map I1) false, .int .i64 a] (.int .i64 (idxI fr a)) := by
  refine fn_of_awp Tryd.func70 rfl (by simp [Tryd.f70]) rfl fun H => ?_
  refine awp_vlen 0 rfl fun hlen => ?_
  rw [List.length_map] at hlen
  refine awp_seq ?_
  refine awp_run rfl (by simp only [fwA, ↓reduceIte, Nat.reduceAdd, Nat.reduceMul, Nat.reduceEqDiff, Nat.reduceLT, Nat.reduceLeDiff, reduceCtorEq] <;> rfl) ?_
  refine awp_seq ?_
  refine awp_seq ?_
  refine awp_run rfl (by simp only [fwA, ↓reduceIte, Nat.reduceAdd, Nat.reduceMul, Nat.reduceEqDiff, Nat.reduceLT, Nat.reduceLeDiff, reduceCtorEq, un42, List.length_map] <;> rfl) ?_
  refine awp_block ?_
  refine awp_for [0, 1, 7, 8] (fun i : Nat => [.vec (fr.map I1) false, .int .i64 a, .int .i64 fr.length, .int .i64 (i : Int)]) (fun _ => H) (fun i => fr.length - i) (fun i => i ≤ fr.length ∧ ∀ j, j < i → fr[j]? ≠ some a) 0 rfl rfl ⟨Nat.zero_le _, fun j hj => by omega⟩ fun i hs => ?_
  obtain ⟨hi, hno⟩ := hs
  refine awp_seq ?_
  refine awp_run rfl (by simp only [fwA, ↓reduceIte, Nat.reduceAdd, Nat.reduceMul, Nat.reduceEqDiff, Nat.reduceLT, Nat.reduceLeDiff, reduceCtorEq] <;> rfl) ?_
  refine awp_seq ?_
  refine awp_cond (by simp only [fwA, ↓reduceIte, Nat.reduceAdd, Nat.reduceMul, Nat.reduceEqDiff, Nat.reduceLT, Nat.reduceLeDiff, reduceCtorEq] <;> rfl) ?_
  by_cases hc : (i : Int) < fr.length
  rotate_left
  · simp only [hc, decide_false, Bool.false_eq_true, ↓reduceIte]
    refine awp_exit ?_
    refine awp_seq (awp_run rfl (by simp only [fwA, ↓reduceIte, Nat.reduceAdd, Nat.reduceMul, Nat.reduceEqDiff, Nat.reduceLT, Nat.reduceLeDiff, reduceCtorEq] <;> rfl) (awp_ret ?_))
    have hi' : i = fr.length := by omega
    rw [hi'] at hno
    exact gives_end0 (.inl rfl) (by rw [idxI_none hno]; rfl)
  simp only [hc, decide_true, ↓reduceIte]
  refine awp_skip ?_
  have hia : i < fr.length := by omega
  have ga : fr[i]? = some fr[i] := List.getElem?_eq_getElem hia
  refine awp_seq ?_
  refine awp_block ?_
  refine awp_seq ?_
  refine awp_run rfl (by simp only [fwA, ↓reduceIte, Nat.reduceAdd, Nat.reduceMul, Nat.reduceEqDiff, Nat.reduceLT, Nat.reduceLeDiff, reduceCtorEq] <;> rfl) ?_
  refine awp_seq ?_
  -- region 4
  refine awp_run rfl (by simp only [fwA, ↓reduceIte, Nat.reduceAdd, Nat.reduceMul, Nat.reduceEqDiff, Nat.reduceLT, Nat.reduceLeDiff, reduceCtorEq, el42, ti28, List.getElem?_map, ga, Option.map_some, Int.natCast_nonneg, I1_fw] <;> rfl) ?_
  refine awp_cond (by simp only [fwA, ↓reduceIte, Nat.reduceAdd, Nat.reduceMul, Nat.reduceEqDiff, Nat.reduceLT, Nat.reduceLeDiff, reduceCtorEq] <;> rfl) ?_
  by_cases he : a = fr[i]
  · simp only [← he, decide_true, ↓reduceIte]
    have hri := idxI_some hno (ga.trans (congrArg some he.symm))
    rw [hri]
    refine awp_seq ?_
    refine awp_run rfl (by simp only [fwA, ↓reduceIte, Nat.reduceAdd, Nat.reduceMul, Nat.reduceEqDiff, Nat.reduceLT, Nat.reduceLeDiff, reduceCtorEq] <;> rfl) (awp_ret ?_)
    exact gives_end0 (.inl rfl) rfl
  simp only [he, decide_false, Bool.false_eq_true, ↓reduceIte]
  refine awp_skip ?_
  refine awp_run rfl (by simp only [fwA, ↓reduceIte, Nat.reduceAdd, Nat.reduceMul, Nat.reduceEqDiff, Nat.reduceLT, Nat.reduceLeDiff, reduceCtorEq] <;> rfl) ?_
  refine ⟨i + 1, by omega, ⟨by omega, fun j hj => ?_⟩, by rw [wrapS i (by omega)]; rfl, rfl, rfl⟩
  by_cases hji : j = i
  · subst hji; rw [ga]; simpa using fun h => he h.symm
  · exact hno j (by omega)

/-- chancel/atom.Rename$1 -/
theorem c69 (Γ : Nat → PV) (fr to : List Int) (a : Int) (b1 b2 : Nat) (H : List Blk) (h1 : H[b1]? = some (.box [.vec (fr.map I1) false])) (h2 : H[b2]? = some (.box [.vec (to.map I1) false])) :
    ACalls Tryd.prog Γ 69 [.int .i64 a, .ptr b1 0, .ptr b2 0] H (fun p H' => p = .int .i64 (renI fr to a) ∧ H' = H) := by
  refine acalls_of_awp Tryd.func69 rfl (by simp [Tryd.f69]) fun hbd => ?_
  refine awp_seq ?_
  refine awp_run rfl (by simp only [fwA, ↓reduceIte, Nat.reduceAdd, Nat.reduceMul, Nat.reduceEqDiff, Nat.reduceLT, Nat.reduceLeDiff, reduceCtorEq] <;> rfl) ?_
  refine awp_seq ?_
  refine awp_seq ?_
  -- region 1
  refine awp_region rfl ?_
  refine aops_run 2 (by simp only [fwA, ↓reduceIte, Nat.reduceAdd, Nat.reduceMul, Nat.reduceEqDiff, Nat.reduceLT, Nat.reduceLeDiff, reduceCtorEq, ti42, h1] <;> rfl) ?_
  refine aops_fn rfl rfl rfl en70 (c70 Γ fr a) ?_
  refine aops_run 1 (by simp only [fwA, ↓reduceIte, Nat.reduceAdd, Nat.reduceMul, Nat.reduceEqDiff, Nat.reduceLT, Nat.reduceLeDiff, reduceCtorEq] <;> rfl) ?_
  have hri : renI fr to a = if 0 ≤ idxI fr a ∧ idxI fr a < to.length then to.getD (idxI fr a).toNat a else a := by
    unfold renI idxI
    cases fr.findIdx? (fun b => decide (b = a)) with
    | none => exact (if_neg (show ¬(0 ≤ (-1 : Int) ∧ (-1 : Int) < to.length) by omega)).symm
    | some k =>
      show to.getD k a = if 0 ≤ (k : Int) ∧ (k : Int) < to.length then to.getD (k : Int).toNat a else a
      split
      · rfl
      · rename_i hn
        rw [List.getD_eq_getElem?_getD, List.getElem?_eq_none (by omega)]; rfl
  generalize idxI fr a = k at hri ⊢
  refine awp_seq ?_
  -- region 2
  by_cases hk : 0 ≤ k
  · refine awp_run rfl (by simp only [fwA, ↓reduceIte, Nat.reduceAdd, Nat.reduceMul, Nat.reduceEqDiff, Nat.reduceLT, Nat.reduceLeDiff, reduceCtorEq, ti42, un42, h2, ge_iff_le, hk, decide_true, List.length_map] <;> rfl) ?_
    refine awp_cond (by simp only [fwA, ↓reduceIte, Nat.reduceAdd, Nat.reduceMul, Nat.reduceEqDiff, Nat.reduceLT, Nat.reduceLeDiff, reduceCtorEq] <;> rfl) ?_
    by_cases hl : k < to.length
    · simp only [hl, decide_true, ↓reduceIte]
      have hta : k.toNat < to.length := by omega
      have gt : to[k.toNat]? = some to[k.toNat] := List.getElem?_eq_getElem hta
      refine awp_seq ?_
      refine awp_run rfl (by simp only [fwA, ↓reduceIte, Nat.reduceAdd, Nat.reduceMul, Nat.reduceEqDiff, Nat.reduceLT, Nat.reduceLeDiff, reduceCtorEq, ti42, el42, ti28, h2, hk, List.getElem?_map, gt, Option.map_some, I1_fw] <;> rfl) ?_
      refine awp_ret ?_
      refine calls_at (p := .int .i64 (renI fr to a)) (R := fun p H' => p = .int .i64 (renI fr to a) ∧ H' = H) (.inl rfl) hbd ?_ rfl (Nat.le_refl _) ⟨rfl, rfl⟩
      rw [hri, if_pos ⟨hk, hl⟩, List.getD_eq_getElem?_getD, gt]
      rfl
    · simp only [hl, decide_false, Bool.false_eq_true, ↓reduceIte]
      refine awp_skip ?_
      refine awp_seq ?_
      refine awp_run rfl (by simp only [fwA, ↓reduceIte, Nat.reduceAdd, Nat.reduceMul, Nat.reduceEqDiff, Nat.reduceLT, Nat.reduceLeDiff, reduceCtorEq] <;> rfl) ?_
      refine awp_ret ?_
      refine calls_at (p := .int .i64 (renI fr to a)) (R := fun p H' => p = .int .i64 (renI fr to a) ∧ H' = H) (.inl rfl) hbd ?_ rfl (Nat.le_refl _) ⟨rfl, rfl⟩
      rw [hri, if_neg fun h => hl h.2]
      rfl
  · refine awp_run rfl (by simp only [fwA, ↓reduceIte, Nat.reduceAdd, Nat.reduceMul, Nat.reduceEqDiff, Nat.reduceLT, Nat.reduceLeDiff, reduceCtorEq, ti42, un42, h2, ge_iff_le, hk, decide_false] <;> rfl) ?_
    refine awp_cond (by simp only [fwA, ↓reduceIte, Nat.reduceAdd, Nat.reduceMul, Nat.reduceEqDiff, Nat.reduceLT, Nat.reduceLeDiff, reduceCtorEq] <;> rfl) ?_
    refine awp_skip ?_
    refine awp_seq ?_
    refine awp_run rfl (by simp only [fwA, ↓reduceIte, Nat.reduceAdd, Nat.reduceMul, Nat.reduceEqDiff, Nat.reduceLT, Nat.reduceLeDiff, reduceCtorEq] <;> rfl) ?_
    refine awp_ret ?_
    refine calls_at (p := .int .i64 (renI fr to a)) (R := fun p H' => p = .int .i64 (renI fr to a) ∧ H' = H) (.inl rfl) hbd ?_ rfl (Nat.le_refl _) ⟨rfl, rfl⟩
    rw [hri, if_neg fun h => hk h.1]
    rfl

def Pr.map (g : Int → Int) (p : Pr) : Pr := ⟨g p.a, g p.b⟩

/-- chancel/atom.turned -/
theorem c68 (Γ : Nat → PV) (f : Nat) (he : Enters Tryd.prog f) (b1 b2 : Nat) (g : Int → Int) (ps : List Pr) (hl : ps.length ≤ 1000000) (H : List Blk) (h1 : b1 < H.length) (h2 : b2 < H.length)
    (hf : ∀ (a : Int) (L : List Blk), ACalls Tryd.prog Γ f [.int .i64 a, .ptr b1 0, .ptr b2 0] (H ++ L) (fun p H' => p = .int .i64 (g a) ∧ H' = H ++ L)) :
    ACalls Tryd.prog Γ 68 [.vec (ps.map Pr.enc) false, .func (.func f) [] [.ptr b1 0, .ptr b2 0]] H (fun p H' => p = .vec ((ps.map (Pr.map g)).map Pr.enc) false ∧ H' = H) := by
  refine acalls_of_awp Tryd.func68 rfl (by simp [Tryd.f68]) fun hbd => ?_
  refine awp_seq ?_
  refine awp_run rfl (by simp only [fwA, ↓reduceIte, Nat.reduceAdd, Nat.reduceMul, Nat.reduceEqDiff, Nat.reduceLT, Nat.reduceLeDiff, reduceCtorEq] <;> rfl) ?_
  refine awp_seq ?_
  refine awp_run rfl (by simp only [fwA, ↓reduceIte, Nat.reduceAdd, Nat.reduceMul, Nat.reduceEqDiff, Nat.reduceLT, Nat.reduceLeDiff, reduceCtorEq] <;> rfl) ?_
  refine awp_seq ?_
  refine awp_seq ?_
  -- region 2
  refine awp_run rfl (by simp only [fwA, ↓reduceIte, Nat.reduceAdd, Nat.reduceMul, Nat.reduceEqDiff, Nat.reduceLT, Nat.reduceLeDiff, reduceCtorEq, un34, List.length_map] <;> rfl) ?_
  refine awp_told (told_adopt 5 2 (by decide) rfl) ?_
  refine awp_block ?_
  refine awp_forG [1, 5, 8, 9, 10] (fun i : Nat => [.func (.func f) [] [.ptr b1 0, .ptr b2 0], .row H.length 0 i 2, .vec (ps.map Pr.enc) false, .int .i64 ps.length, .int .i64 (i : Int)])
    (fun i => H ++ [.row 2 ((((ps.take i).map (Pr.map g))).map Pr.enc).flatten])
    (fun i => ps.length - i) (fun i => i ≤ ps.length) 0 rfl rfl (Nat.zero_le _) (fun i _ => ⟨bd_app (fun B hB => hbd B hB) (by simp only [List.all_cons, List.all_nil, Blk.bd, flatP_bd, Bool.and_true]), by simp [PV.bdL, PV.bd]; try omega⟩) (fun i _ b hb => by cases hb) fun i hi => ?_
  have hti : ((ps.take i).map (Pr.map g)).length = i := by simp; omega
  refine awp_seq ?_
  refine awp_run rfl (by simp only [fwA, ↓reduceIte, Nat.reduceAdd, Nat.reduceMul, Nat.reduceEqDiff, Nat.reduceLT, Nat.reduceLeDiff, reduceCtorEq] <;> rfl) ?_
  refine awp_seq ?_
  refine awp_cond (by simp only [fwA, ↓reduceIte, Nat.reduceAdd, Nat.reduceMul, Nat.reduceEqDiff, Nat.reduceLT, Nat.reduceLeDiff, reduceCtorEq] <;> rfl) ?_
  by_cases hc : (i : Int) < ps.length
  rotate_left
  · simp only [hc, decide_false, Bool.false_eq_true, ↓reduceIte]
    refine awp_exit ?_
    have hi' : i = ps.length := by omega
    refine awp_told (told_freezeAt H _ 0 (C := (((ps.take i).map (Pr.map g)).map Pr.enc).flatten) rfl (flatP_bd _ _)) ?_
    have hl : ((((ps.take i).map (Pr.map g)).map Pr.enc).flatten).length = i * 2 := by rw [flatP_len, hti]; omega
    have hch : chunk 2 i ((((ps.take i).map (Pr.map g)).map Pr.enc).flatten) = ((ps.take i).map (Pr.map g)).map Pr.enc := by
      have := flatP_chunk ((ps.take i).map (Pr.map g))
      rwa [hti] at this
    refine awp_seq (awp_run rfl (by simp only [fwA, ↓reduceIte, Nat.reduceAdd, Nat.reduceMul, Nat.reduceEqDiff, Nat.reduceLT, Nat.reduceLeDiff, reduceCtorEq, hl, hch] <;> rfl) (awp_ret ?_))
    refine calls_end _ (.inl rfl) hbd (p := .vec ((ps.map (Pr.map g)).map Pr.enc) false) ?_ rfl ⟨rfl, rfl⟩
    simp only [fwA, ↓reduceIte, Nat.reduceAdd, Nat.reduceMul, Nat.reduceEqDiff, Nat.reduceLT, Nat.reduceLeDiff, reduceCtorEq, ares, aresL, ares1, Tryd.f68, hi', List.take_length]
  simp only [hc, decide_true, ↓reduceIte]
  refine awp_skip ?_
  have hia : i < ps.length := by omega
  have ga : ps[i]? = some ps[i] := List.getElem?_eq_getElem hia
  refine awp_seq ?_
  refine awp_block ?_
  refine awp_seq ?_
  -- region 4
  refine awp_run rfl (by simp only [fwA, ↓reduceIte, Nat.reduceAdd, Nat.reduceMul, Nat.reduceEqDiff, Nat.reduceLT, Nat.reduceLeDiff, reduceCtorEq, el34, ti38, Pr.fw, List.getElem?_map, ga, Option.map_some, Int.natCast_nonneg] <;> rfl) ?_
  -- region 5 drawn
  refine awp_drawn [0, 0, 0, 1, 1, 0, 0, 1, 1, 0, 0, 2, 0] [0, 0, 0, 4, 14, 0, 0, 64, 254, 510, 1022, 2047, 4095] mixed rfl (by kernel_rfl) ?_
  refine dops_run 4 (by simp only [fwA, ↓reduceIte, Nat.reduceAdd, Nat.reduceMul, Nat.reduceEqDiff, Nat.reduceLT, Nat.reduceLeDiff, reduceCtorEq, fl38_0, ti28, Pr.fw] <;> rfl) ?_
  refine dops_rcall rfl rfl rfl rfl he (hf ps[i].a _) ?_
  refine dops_run 3 (by simp only [fwA, ↓reduceIte, Nat.reduceAdd, Nat.reduceMul, Nat.reduceEqDiff, Nat.reduceLT, Nat.reduceLeDiff, reduceCtorEq, fl38_1, ti28, Pr.fw] <;> rfl) ?_
  refine dops_rcall rfl rfl rfl rfl he (hf ps[i].b _) ?_
  refine dops_run 2 (by simp only [fwA, ↓reduceIte, Nat.reduceAdd, Nat.reduceMul, Nat.reduceEqDiff, Nat.reduceLT, Nat.reduceLeDiff, reduceCtorEq, ti38, pl38, un34] <;> rfl) ?_
  refine dops_appendR rfl rfl rfl un34 ti38 un34 (.inl ⟨_, rfl⟩) rfl (by simp only [fwA, ↓reduceIte, Nat.reduceAdd, Nat.reduceMul, Nat.reduceEqDiff, Nat.reduceLT, Nat.reduceLeDiff, reduceCtorEq] <;> rfl) (by rw [flat_len (sz := 2) (fun _ => rfl), hti]; exact (Nat.zero_add _).symm) rfl (fun es f h e he => by
      simp only [fwA, ↓reduceIte, Nat.reduceAdd, Nat.reduceMul, Nat.reduceEqDiff, Nat.reduceLT, Nat.reduceLeDiff, reduceCtorEq, PV.vec.injEq] at h
      obtain ⟨rfl, rfl⟩ := h
      simp only [List.mem_singleton] at he
      subst he; rfl) rfl (by show (i + 1) * 16 ≤ _; omega) (by show i + 1 ≤ _; omega) ?_
  refine dops_run 1 (by simp only [fwA, ↓reduceIte, Nat.reduceAdd, Nat.reduceMul, Nat.reduceEqDiff, Nat.reduceLT, Nat.reduceLeDiff, reduceCtorEq] <;> rfl) ?_
  refine dops_end ?_
  -- region 6
  refine awp_run rfl (by simp only [fwA, ↓reduceIte, Nat.reduceAdd, Nat.reduceMul, Nat.reduceEqDiff, Nat.reduceLT, Nat.reduceLeDiff, reduceCtorEq] <;> rfl) ?_
  have hmp : ((ps.take (i + 1)).map (Pr.map g)) = ((ps.take i).map (Pr.map g)) ++ [ps[i].map g] := by rw [List.take_add_one, ga, List.map_append]; rfl
  refine ⟨i + 1, [.box ps[i].enc], by omega, by omega, by rw [wrapS i (by omega)]; rfl, ?_, rfl, by simp⟩
  rw [hmp, List.map_append, List.flatten_append]
  simp [Pr.map, Pr.enc]

/-- chancel/atom.Rename -/
theorem c53 (Γ : Nat → PV) (fr to : List Int) (ps : List Pr) (hl : ps.length ≤ 1000000) : Gives Tryd.prog Γ 53 [.vec (ps.map Pr.enc) false, .vec (fr.map I1) false, .vec (to.map I1) false] (.vec ((ps.map (Pr.map (renI fr to))).map Pr.enc) false) := by
  refine fn_of_awp Tryd.func53 rfl (by simp [Tryd.f53]) rfl fun H => ?_
  refine awp_seq ?_
  refine awp_run rfl (by simp only [fwA, ↓reduceIte, Nat.reduceAdd, Nat.reduceMul, Nat.reduceEqDiff, Nat.reduceLT, Nat.reduceLeDiff, reduceCtorEq, ti42] <;> rfl) ?_
  refine awp_seq ?_
  refine awp_region rfl ?_
  refine aops_run 2 (by simp only [fwA, ↓reduceIte, Nat.reduceAdd, Nat.reduceMul, Nat.reduceEqDiff, Nat.reduceLT, Nat.reduceLeDiff, reduceCtorEq] <;> rfl) ?_
  refine aops_call rfl rfl rfl en68 ((c68 Γ 69 en69 H.length (H.length + 1) (renI fr to) ps hl _ (by simp) (by simp) fun a L => ?_).mono fun p H' hp => ?_)
  · exact c69 Γ fr to a H.length (H.length + 1) _ (by simp only [fwA, ↓reduceIte, Nat.reduceAdd, Nat.reduceMul, Nat.reduceEqDiff, Nat.reduceLT, Nat.reduceLeDiff, reduceCtorEq]) (by simp only [fwA, ↓reduceIte, Nat.reduceAdd, Nat.reduceMul, Nat.reduceEqDiff, Nat.reduceLT, Nat.reduceLeDiff, reduceCtorEq])
  obtain ⟨rfl, rfl⟩ := hp
  refine aops_run 1 (by simp only [fwA, ↓reduceIte, Nat.reduceAdd, Nat.reduceMul, Nat.reduceEqDiff, Nat.reduceLT, Nat.reduceLeDiff, reduceCtorEq] <;> rfl) ?_
  refine awp_ret ?_
  refine gives_end (.inl rfl) _ ?_
  simp only [fwA, ↓reduceIte, Nat.reduceAdd, Nat.reduceMul, Nat.reduceEqDiff, Nat.reduceLT, Nat.reduceLeDiff, reduceCtorEq, ares, aresL, ares1, Tryd.f53]

end Go.Proofs.YtlnffadolfkggaaDoor

/- More on drawn regions; the contracts of what turns atoms behind addresses. -/
namespace Go.Proofs.YtlnffadolfkggaaDoor
set_option linter.unusedVariables false
set_option linter.unusedSimpArgs false
set_option maxRecDepth 100000
open Go.RowKit Fw

theorem set_same {L : List Blk} {b : Nat} {B : Blk} (h : L[b]? = some B) : L.set b B = L := by
  obtain ⟨h1, h2⟩ := List.getElem?_eq_some_iff.1 h
  subst h2
  exact List.set_getElem_self _
/-- What is read of the box that is set apart. -/
theorem dops_loadX {P : Program} {Γ : Nat → PV} {ops : Array Oper} {cls : List Nat} {n0 : View} {K : List (Nat × PV) → List Blk → Prop} {i : Nat} {o : Oper} {rest : List (Nat × Oper)} {A : List (Nat × PV)} {H : List Blk} {t : TypeId} {x : Operand} {ti : TI} {b q : Nat} {cs : List PV} {p : PV}
    (ho : o.op = .load t x) (hw : wantA ops A o = some true) (hc : cls.getD i 0 = 5) (ht : tiOf P t = some ti) (hx : ev Γ A x = .ptr b q) (hb : H[b]? = some (.box cs))
    (hp : if ti.agg = true then ti.size ≤ (cs.drop q).length ∧ p = .agg ((cs.drop q).take ti.size) else (cs.drop q)[0]? = some p) (h1 : n0.x = some b) (h2 : b < n0.n)
    (hk : DOps P Γ ops cls n0 K rest (aput A o.dst p) H) : DOps P Γ ops cls n0 K ((i, o) :: rest) A H := by
  refine ⟨p, H, ?_, hk⟩
  unfold DOne
  rw [hw, hc]
  refine ⟨b, .box cs, h1, h2, (List.getElem?_eq_some_iff.1 hb).1, (set_same hb).symm, fun H2 k1 k2 => dlift fun A' hev => ?_⟩
  have ex := (hev x (by rw [ho]; simp [Op.operands])).trans hx
  exact os_load ho ht (cs := cs.drop q) (by unfold rd; rw [ex]; simp only [k2.trans hb]) hp ⟨rfl, (set_same (k2.trans hb)).symm⟩

/-- A store into the box that is set apart. -/
theorem dops_storeB {P : Program} {Γ : Nat → PV} {ops : Array Oper} {cls : List Nat} {n0 : View} {K : List (Nat × PV) → List Blk → Prop} {i : Nat} {o : Oper} {rest : List (Nat × Oper)} {A : List (Nat × PV)} {H : List Blk} {t : TypeId} {x y : Operand} {ti : TI} {b q : Nat} {cs : List PV}
    (ho : o.op = .store t x y) (hw : wantA ops A o = some true) (hc : cls.getD i 0 = 5) (ht : tiOf P t = some ti) (hx : ev Γ A x = .ptr b q) (hb : H[b]? = some (.box cs))
    (hy : (ev Γ A y).shaped = true) (hl : (ev Γ A y).cells.length = ti.size) (hq : q + ti.size ≤ cs.length) (h1 : n0.x = some b) (h2 : b < n0.n)
    (hk : DOps P Γ ops cls n0 K rest (aput A o.dst .any) (H.set b (.box (splice cs q (ev Γ A y).cells)))) : DOps P Γ ops cls n0 K ((i, o) :: rest) A H := by
  refine ⟨_, _, ?_, hk⟩
  unfold DOne
  rw [hw, hc]
  refine ⟨b, _, h1, h2, (List.getElem?_eq_some_iff.1 hb).1, rfl, fun H2 k1 k2 => dlift fun A' hev => ?_⟩
  have ey := hev y (by rw [ho]; simp [Op.operands])
  exact os_store ho ht ((hev x (by rw [ho]; simp [Op.operands])).trans hx) (k2.trans hb) (by rw [ey]; exact hy) (by rw [ey]; exact hl) hq ⟨rfl, by rw [ey]⟩

/-- The place of an element of a row that is not set apart. -/
theorem dops_index7 {P : Program} {Γ : Nat → PV} {ops : Array Oper} {cls : List Nat} {n0 : View} {K : List (Nat × PV) → List Blk → Prop} {i : Nat} {o : Oper} {rest : List (Nat × Oper)} {A : List (Nat × PV)} {H : List Blk} {t : TypeId} {x ix : Operand} {sz by' b q m : Nat} {k : IntKind} {n : Int} {cs : List PV}
    (ho : o.op = .indexAddr t x ix) (hw : wantA ops A o = some true) (hc : cls.getD i 0 = 7) (ht : elOf P t = some (sz, by')) (hx : ev Γ A x = .row b q m sz) (hi : ev Γ A ix = .int k n) (hb : H[b]? = some (.row sz cs)) (hl : cs.length = q + m * sz) (h0 : 0 ≤ n) (hn : n < m)
    (h1 : n0.x ≠ some b) (hk : DOps P Γ ops cls n0 K rest (aput A o.dst (.eptr b (q + n.toNat * sz) cs.length)) H) : DOps P Γ ops cls n0 K ((i, o) :: rest) A H := by
  refine ⟨_, H, ?_, hk⟩
  unfold DOne
  rw [hw, hc]
  refine ⟨b, .row sz cs, h1, (List.getElem?_eq_some_iff.1 hb).1, (set_same hb).symm, fun H2 k1 k2 => dlift fun A' hev => ?_⟩
  exact os_index_row ho ht ((hev x (by rw [ho]; simp [Op.operands])).trans hx) ((hev ix (by rw [ho]; simp [Op.operands])).trans hi) (k2.trans hb) hl h0 hn ⟨rfl, (set_same (k2.trans hb)).symm⟩

/-- A store into a row that is not set apart. -/
theorem dops_storeE7 {P : Program} {Γ : Nat → PV} {ops : Array Oper} {cls : List Nat} {n0 : View} {K : List (Nat × PV) → List Blk → Prop} {i : Nat} {o : Oper} {rest : List (Nat × Oper)} {A : List (Nat × PV)} {H : List Blk} {t : TypeId} {x y : Operand} {ti : TI} {b q len sz : Nat} {cs : List PV}
    (ho : o.op = .store t x y) (hw : wantA ops A o = some true) (hc : cls.getD i 0 = 7) (ht : tiOf P t = some ti) (hx : ev Γ A x = .eptr b q len) (hb : H[b]? = some (.row sz cs)) (hlen : cs.length = len)
    (hy : (ev Γ A y).shaped = true) (hl : (ev Γ A y).cells.length = ti.size) (hq : q + ti.size ≤ cs.length) (h0 : 0 < ti.size) (h1 : n0.x ≠ some b)
    (hk : DOps P Γ ops cls n0 K rest (aput A o.dst .any) (H.set b (.row sz (splice cs q (ev Γ A y).cells)))) : DOps P Γ ops cls n0 K ((i, o) :: rest) A H := by
  refine ⟨_, _, ?_, hk⟩
  unfold DOne
  rw [hw, hc]
  refine ⟨b, _, h1, (List.getElem?_eq_some_iff.1 hb).1, rfl, fun H2 k1 k2 => dlift fun A' hev => ?_⟩
  have ey := hev y (by rw [ho]; simp [Op.operands])
  exact os_storeE ho ht ((hev x (by rw [ho]; simp [Op.operands])).trans hx) (k2.trans hb) hlen (by rw [ey]; exact hy) (by rw [ey]; exact hl) hq h0 ⟨rfl, by rw [ey]⟩

/-- A call that turns a block that is not set apart. -/
theorem dops_turn7 {P : Program} {Γ : Nat → PV} {ops : Array Oper} {cls : List Nat} {n0 : View} {K : List (Nat × PV) → List Blk → Prop} {i : Nat} {o : Oper} {rest : List (Nat × Oper)} {A : List (Nat × PV)} {H : List Blk} {x : Operand} {args : Array Operand} {ts : Array TypeId} {f : FuncId} {fs cs : List PV} {p : PV} {b : Nat} {B : Blk}
    (ho : o.op = .call { callee := .value x, args := args, argTypes := ts }) (hw : wantA ops A o = some true) (hc : cls.getD i 0 = 7) (hx : ev Γ A x = .func (.func f) fs cs) (he : Enters P f)
    (h1 : n0.x ≠ some b) (h3 : b < H.length)
    (h : ∀ H2 : List Blk, b < H2.length → H2[b]? = H[b]? → ACalls P Γ f (fs ++ args.toList.map (ev Γ A) ++ cs) H2 (fun q H1 => q = p ∧ H1 = H2.set b B)) (hk : DOps P Γ ops cls n0 K rest (aput A o.dst p) (H.set b B)) : DOps P Γ ops cls n0 K ((i, o) :: rest) A H := by
  refine ⟨p, _, ?_, hk⟩
  unfold DOne
  rw [hw, hc]
  refine ⟨b, B, h1, h3, rfl, fun H2 k1 k2 => dlift fun A' hev => ?_⟩
  have hops : ∀ y, y = x ∨ y ∈ args → ev Γ A' y = ev Γ A y := fun y hy => hev y (by
    rw [ho]
    simp only [Op.operands, Call.operands, Array.mem_append]
    rcases hy with rfl | hy
    · exact .inl (by simp)
    · exact .inr hy)
  refine os_call ho (by rw [hops x (.inl rfl)]; exact hx) he ?_
  rw [List.map_congr_left (l := args.toList) fun y hy => hops y (.inr (by simpa using hy))]
  exact h H2 k1 k2

theorem splice_set {cs : List PV} {j : Nat} {x : PV} (h : j < cs.length) : splice cs j [x] = cs.set j x := by
  rw [List.set_eq_take_append_cons_drop, if_pos h]; simp [splice]
/-- Numbers, and what stands behind them. -/
def tb (zs : List Int) (kv : PV) : List PV := zs.map (fun z => .int .i64 z) ++ [kv]
theorem tb_len (zs : List Int) (kv : PV) : (tb zs kv).length = zs.length + 1 := by simp [tb]
theorem tb_get {zs : List Int} {kv : PV} {j : Nat} {z : Int} (h : zs[j]? = some z) : ((tb zs kv).drop j)[0]? = some (.int .i64 z) := by
  have hj := (List.getElem?_eq_some_iff.1 h).1
  rw [List.getElem?_drop, Nat.add_zero]; unfold tb
  rw [List.getElem?_append_left (by simpa using hj), List.getElem?_map, h]; rfl
theorem tb_set {zs : List Int} {kv : PV} {j : Nat} (z : Int) (h : j < zs.length) : splice (tb zs kv) j [.int .i64 z] = tb (zs.set j z) kv := by
  rw [splice_set (by rw [tb_len]; omega)]
  unfold tb
  rw [List.set_append_left _ _ (by simpa using h), List.map_set]

theorem tb_splice {zs : List Int} {kv : PV} {j : Nat} (z : Int) (h : j < zs.length) : (tb zs kv).take j ++ PV.int .i64 z :: (tb zs kv).drop (j + 1) = tb (zs.set j z) kv := by
  rw [← tb_set z h]; simp [splice]
/-- Some of the numbers turned. -/
def turnZ (g : Int → Int) (js : List Nat) (zs : List Int) : List Int := js.foldl (fun z j => z.set j (g (z.getD j 0))) zs
theorem turnZ_len (g : Int → Int) (js : List Nat) (zs : List Int) : (turnZ g js zs).length = zs.length := by
  induction js generalizing zs with
  | nil => rfl
  | cons j js ih => show (turnZ g js (zs.set j _)).length = _; rw [ih, List.length_set]
theorem turnZ_take (g : Int → Int) {js : List Nat} {i j : Nat} (h : js[i]? = some j) (zs : List Int) : turnZ g (js.take (i + 1)) zs = (turnZ g (js.take i) zs).set j (g ((turnZ g (js.take i) zs).getD j 0)) := by
  unfold turnZ
  rw [List.take_add_one, h, List.foldl_append]; rfl

theorem row_ptr {js : List Nat} {i j b : Nat} (h : js[i]? = some j) : ((js.map fun j => PV.ptr b j).drop (0 + (i : Int).toNat * 1))[0]? = some (.ptr b j) := by
  rw [List.getElem?_drop, Int.toNat_natCast, Nat.zero_add, Nat.mul_one, Nat.add_zero, List.getElem?_map, h]; rfl

/-- chancel/ltype.Rename$1 -/
theorem c52 (Γ : Nat → PV) (fr to : List Int) (js : List Nat) (zs : List Int) (kv : PV) (b r b1 b2 : Nat) (H : List Blk) (hjs : ∀ j ∈ js, j < zs.length) (hjl : js.length ≤ 2)
    (hr : H[r]? = some (.row 1 (js.map fun j => .ptr b j))) (hb : H[b]? = some (.box (tb zs kv))) (h1 : H[b1]? = some (.box [.vec (fr.map I1) false])) (h2 : H[b2]? = some (.box [.vec (to.map I1) false])) (n1 : b ≠ b1) (n2 : b ≠ b2) (nr : b ≠ r) :
    ACalls Tryd.prog Γ 52 [.row r 0 js.length 1, .ptr b1 0, .ptr b2 0] H (fun _ H' => H' = H.set b (.box (tb (turnZ (renI fr to) js zs) kv))) := by
  have hbl := (List.getElem?_eq_some_iff.1 hb).1
  refine acalls_of_awp Tryd.func52 rfl (by simp [Tryd.f52]) fun hbd => ?_
  refine awp_seq ?_
  refine awp_run rfl (by simp only [fwA, ↓reduceIte, Nat.reduceAdd, Nat.reduceMul, Nat.reduceEqDiff, Nat.reduceLT, Nat.reduceLeDiff, reduceCtorEq, un99] <;> rfl) ?_
  refine awp_block ?_
  refine awp_for [1, 2, 6, 7, 8] (fun i : Nat => [.ptr b1 0, .ptr b2 0, .row r 0 js.length 1, .int .i64 js.length, .int .i64 (i : Int)]) (fun i => H.set b (.box (tb (turnZ (renI fr to) (js.take i) zs) kv))) (fun i => js.length - i) (fun i => i ≤ js.length) 0 rfl (by rw [List.take_zero]; exact (set_same hb).symm) (Nat.zero_le _) fun i hi => ?_
  refine awp_seq ?_
  refine awp_run rfl (by simp only [fwA, ↓reduceIte, Nat.reduceAdd, Nat.reduceMul, Nat.reduceEqDiff, Nat.reduceLT, Nat.reduceLeDiff, reduceCtorEq] <;> rfl) ?_
  refine awp_seq ?_
  refine awp_cond (by simp only [fwA, ↓reduceIte, Nat.reduceAdd, Nat.reduceMul, Nat.reduceEqDiff, Nat.reduceLT, Nat.reduceLeDiff, reduceCtorEq] <;> rfl) ?_
  by_cases hc : (i : Int) < js.length
  rotate_left
  · simp only [hc, decide_false, Bool.false_eq_true, ↓reduceIte]
    have hi' : i = js.length := by omega
    subst hi'
    rw [List.take_length]
    refine awp_bd fun hbd' => ?_
    refine awp_exit ?_
    exact calls_at (p := .tup []) (R := fun _ H' => H' = H.set b (.box (tb (turnZ (renI fr to) js zs) kv))) (.inr rfl) hbd' rfl rfl (by rw [List.length_set]; exact Nat.le_refl _) rfl
  simp only [hc, decide_true, ↓reduceIte]
  refine awp_skip ?_
  have hia : i < js.length := by omega
  have ga : js[i]? = some js[i] := List.getElem?_eq_getElem hia
  have hzl := turnZ_len (renI fr to) (js.take i) zs
  have hjz : js[i] < (turnZ (renI fr to) (js.take i) zs).length := by rw [hzl]; exact hjs _ (List.getElem_mem hia)
  have hnx := turnZ_take (renI fr to) ga zs
  generalize turnZ (renI fr to) (js.take i) zs = z at hzl hjz hnx ⊢
  have gz : z[js[i]]? = some z[js[i]] := List.getElem?_eq_getElem hjz
  generalize hH2 : H.set b (.box (tb z kv)) = H2
  have e1 : H2[b1]? = some (.box [.vec (fr.map I1) false]) := by rw [← hH2, List.getElem?_set_ne n1]; exact h1
  have e2 : H2[b2]? = some (.box [.vec (to.map I1) false]) := by rw [← hH2, List.getElem?_set_ne n2]; exact h2
  have er : H2[r]? = some (.row 1 (js.map fun j => .ptr b j)) := by rw [← hH2, List.getElem?_set_ne nr]; exact hr
  have eb : H2[b]? = some (.box (tb z kv)) := by rw [← hH2, List.getElem?_set_self hbl]
  refine awp_seq ?_
  refine awp_block ?_
  refine awp_seq ?_
  -- region 2
  refine awp_region rfl ?_
  refine aops_one rfl (os_index_row (sz := 1) rfl el99 rfl rfl er (by simp) (Int.natCast_nonneg _) hc ?_)
  refine aops_one rfl (os_load (cs := (js.map fun j => PV.ptr b j).drop (0 + (i : Int).toNat * 1)) rfl ti100 (by simp only [fwA, ↓reduceIte, Nat.reduceAdd, Nat.reduceMul, Nat.reduceEqDiff, Nat.reduceLT, Nat.reduceLeDiff, reduceCtorEq, rd, er, if_pos]) (row_ptr ga) ?_)
  refine aops_run 1 (by simp only [fwA, ↓reduceIte, Nat.reduceAdd, Nat.reduceMul, Nat.reduceEqDiff, Nat.reduceLT, Nat.reduceLeDiff, reduceCtorEq] <;> rfl) ?_
  -- region 3 drawn
  have i53 := c53 Γ fr to [⟨z[js[i]], 0⟩] (by simp)
  refine awp_drawn [0, 0, 0, 1, 0, 0, 1, 1, 0, 0, 0, 1, 0, 2] [0, 0, 2, 6, 14, 30, 0, 0, 254, 510, 1022, 2046, 4095, 8191] mixed rfl (by kernel_rfl) ?_
  refine dops_run 8 (by simp only [fwA, ↓reduceIte, Nat.reduceAdd, Nat.reduceMul, Nat.reduceEqDiff, Nat.reduceLT, Nat.reduceLeDiff, reduceCtorEq, ti28, ti38, pl38, un34, ti42, e1, e2, eb, tb_get gz] <;> rfl) ?_
  refine dops_fnLe rfl rfl rfl rfl en53 i53 ⟨⟨nofun, PV.leLL_refl _⟩, PV.leL_refl _⟩ ?_
  refine dops_run 4 (by simp only [fwA, ↓reduceIte, Nat.reduceAdd, Nat.reduceMul, Nat.reduceEqDiff, Nat.reduceLT, Nat.reduceLeDiff, reduceCtorEq, el34, fl38_0, ti28, Pr.map, Pr.enc, List.map_cons, List.map_nil] <;> rfl) ?_
  refine dops_run 1 (by simp only [fwA, ↓reduceIte, Nat.reduceAdd, Nat.reduceMul, Nat.reduceEqDiff, Nat.reduceLT, Nat.reduceLeDiff, reduceCtorEq, ti28, eb, tb_len, Nat.le_of_lt hjz] <;> rfl) ?_
  refine dops_end ?_
  refine awp_run rfl (by simp only [fwA, ↓reduceIte, Nat.reduceAdd, Nat.reduceMul, Nat.reduceEqDiff, Nat.reduceLT, Nat.reduceLeDiff, reduceCtorEq] <;> rfl) ?_
  refine ⟨i + 1, by omega, by omega, by rw [wrapS i (by omega)]; rfl, ?_, rfl⟩
  rw [hnx, ← hH2, List.set_set, tb_splice _ hjz, List.getD_eq_getElem?_getD, gz]
  rfl

end Go.Proofs.YtlnffadolfkggaaDoor

/- The contract of the program's renaming of types. -/
namespace Go.Proofs.YtlnffadolfkggaaDoor
set_option linter.unusedVariables false
set_option linter.unusedSimpArgs false
set_option maxRecDepth 100000
open Go.RowKit Fw

theorem bd_set {n b : Nat} {H : List Blk} {B : Blk} (h : ∀ B ∈ H, B.bd n = true) (hB : B.bd n = true) : ∀ C ∈ H.set b B, C.bd n = true := fun C hC => by
  rcases List.mem_or_eq_of_mem_set hC with h1 | rfl
  · exact h C h1
  · exact hB
theorem enc_tb (t : Ty) : t.enc = tb [t.kind, t.l, t.c, t.pc, t.x] (.vec (t.kids.map Ty.enc) false) := by rw [Ty.enc_eq]; rfl

theorem zc31 : ofC (Value.agg #[Value.int IntKind.i64 0, Value.int IntKind.i64 0, Value.int IntKind.i64 0, Value.int IntKind.i64 0, Value.int IntKind.i64 0, Value.slice none 0 0]) = .agg [.int .i64 0, .int .i64 0, .int .i64 0, .int .i64 0, .int .i64 0, .vec [] true] := rfl

/-- chancel/ltype.Rename -/
theorem c33 (Γ : Nat → PV) (fr to : List Int) : ∀ t : Ty, t.w ≤ 1000000000 → Gives Tryd.prog Γ 33 [.agg t.enc, .vec (fr.map I1) false, .vec (to.map I1) false] (.agg (t.map (renI fr to)).enc) := by
  refine Ty.ind fun t ih hw => ?_
  have hkw := kids_len_w t
  refine fn_of_awp Tryd.func33 rfl (by simp [Tryd.f33]) (by simp [PV.plain, PV.bd, Ty.bd]) fun H => ?_
  refine awp_bd fun hbdH => ?_
  refine awp_seq ?_
  -- region 0
  refine awp_run rfl (by simp only [fwA, ↓reduceIte, Nat.reduceAdd, Nat.reduceMul, Nat.reduceEqDiff, Nat.reduceLT, Nat.reduceLeDiff, reduceCtorEq, ti31, fl31_1, ti28, fl31_0, ti3, fl31_2, fl31_3, fl31_4, fl31_5, ti29, un29, el29, pl31, ti42, Ty.fw] <;> rfl) ?_
  refine awp_seq ?_
  -- region 1
  refine awp_run rfl (by simp only [fwA, ↓reduceIte, Nat.reduceAdd, Nat.reduceMul, Nat.reduceEqDiff, Nat.reduceLT, Nat.reduceLeDiff, reduceCtorEq, ti31, fl31_1, ti28, fl31_0, ti3, fl31_2, fl31_3, fl31_4, fl31_5, ti29, un29, el29, pl31, ti42, Ty.fw] <;> rfl) ?_
  refine awp_seq ?_
  -- region 2
  refine awp_run rfl (by simp only [fwA, ↓reduceIte, Nat.reduceAdd, Nat.reduceMul, Nat.reduceEqDiff, Nat.reduceLT, Nat.reduceLeDiff, reduceCtorEq, ti31, fl31_1, ti28, fl31_0, ti3, fl31_2, fl31_3, fl31_4, fl31_5, ti29, un29, el29, pl31, ti42, Ty.fw] <;> rfl) ?_
  refine awp_keep (A' := [(3, .ptr H.length 0), (4, .ptr (H.length + 1) 0), (5, .ptr (H.length + 2) 0), (6, .ptr (H.length + 3) 0), (7, .func (.func 52) [] [.ptr (H.length + 1) 0, .ptr (H.length + 2) 0]), (8, .ptr (H.length + 4) 0)]) [3, 4, 5, 6, 7, 8] (by simp [akeep, alook, aput, ev]) ?_
  refine awp_heap (H' := H ++ [Blk.box t.enc, Blk.box [.vec (fr.map I1) false], Blk.box [.vec (to.map I1) false], Blk.box [.int .i64 0, .int .i64 0, .int .i64 0, .int .i64 0, .int .i64 0, .vec [] true], Blk.box (tb [t.kind, t.l, t.c, t.pc, t.x] (.vec (t.kids.map Ty.enc) false))]) (by rw [← enc_tb]) ?_
  have hm := Ty.map_eq (renI fr to) t
  have hbd4 : ∀ (zs : List Int) (kv : PV), kv.bd (H.length + 5) = true → ∀ B ∈ H ++ [Blk.box t.enc, Blk.box [.vec (fr.map I1) false], Blk.box [.vec (to.map I1) false], Blk.box [.int .i64 0, .int .i64 0, .int .i64 0, .int .i64 0, .int .i64 0, .vec [] true], Blk.box (tb zs kv)], B.bd (H ++ [Blk.box t.enc, Blk.box [.vec (fr.map I1) false], Blk.box [.vec (to.map I1) false], Blk.box [.int .i64 0, .int .i64 0, .int .i64 0, .int .i64 0, .int .i64 0, .vec [] true], Blk.box (tb zs kv)]).length = true := fun zs kv hk => bd_app (fun B hB => hbdH B hB) (by
    have : (H ++ [Blk.box t.enc, Blk.box [.vec (fr.map I1) false], Blk.box [.vec (to.map I1) false], Blk.box [.int .i64 0, .int .i64 0, .int .i64 0, .int .i64 0, .int .i64 0, .vec [] true], Blk.box (tb zs kv)]).length = H.length + 5 := by simp
    rw [this]
    simp only [List.all_cons, List.all_nil, Blk.bd, Ty.bd, PV.bdL, PV.bd, Bool.and_true, Bool.true_and, tb, PV.bdL_append, hk]
    induction zs with
    | nil => rfl
    | cons z zs ihz => simpa [PV.bdL, PV.bd] using ihz)
  generalize hkv : PV.vec (t.kids.map Ty.enc) false = kv
  have hkvb : ∀ n, kv.bd n = true := by intro n; rw [← hkv]; rfl
  refine awp_seq ?_
  refine awp_cut [3, 4, 5, 6, 7, 8] [.ptr H.length 0, .ptr (H.length + 1) 0, .ptr (H.length + 2) 0, .ptr (H.length + 3) 0, .func (.func 52) [] [.ptr (H.length + 1) 0, .ptr (H.length + 2) 0], .ptr (H.length + 4) 0] (H ++ [Blk.box t.enc, Blk.box [.vec (fr.map I1) false], Blk.box [.vec (to.map I1) false], Blk.box [.int .i64 0, .int .i64 0, .int .i64 0, .int .i64 0, .int .i64 0, .vec [] true], Blk.box (tb [t.kind, renI fr to t.l, t.c, t.pc, t.x] kv)]) (hbd4 _ _ (hkvb _)) (by simp [PV.bdL, PV.bd]) (by simp) ?_ ?_
  · -- region 3
    refine awp_region rfl ?_
    refine aops_run 2 (by simp only [fwA, ↓reduceIte, Nat.reduceAdd, Nat.reduceMul, Nat.reduceEqDiff, Nat.reduceLT, Nat.reduceLeDiff, reduceCtorEq, ti31, fl31_1, ti28, fl31_0, ti3, fl31_2, fl31_3, fl31_4, fl31_5, ti29, un29, el29, pl31, ti42, Ty.fw] <;> rfl) ?_
    refine aops_one rfl (os_bsliceR (cs := [.ptr (H.length + 4) 1]) rfl un99 ti100 (by decide) (by decide) (by simp only [fwA, ↓reduceIte, Nat.reduceAdd, Nat.reduceMul, Nat.reduceEqDiff, Nat.reduceLT, Nat.reduceLeDiff, reduceCtorEq] <;> rfl) ?_)
    rw [show (H ++ [Blk.box t.enc, Blk.box [.vec (fr.map I1) false], Blk.box [.vec (to.map I1) false], Blk.box [.int .i64 0, .int .i64 0, .int .i64 0, .int .i64 0, .int .i64 0, .vec [] true], Blk.box (tb [t.kind, t.l, t.c, t.pc, t.x] kv)]).length = H.length + 5 from by simp, List.append_assoc]
    refine aops_call rfl rfl rfl en52 ((c52 Γ fr to [1] [t.kind, t.l, t.c, t.pc, t.x] kv (H.length + 4) (H.length + 5) (H.length + 1) (H.length + 2) _ (by simp) (by simp) (by simp) (by simp only [fwA, ↓reduceIte, Nat.reduceAdd, Nat.reduceMul, Nat.reduceEqDiff, Nat.reduceLT, Nat.reduceLeDiff, reduceCtorEq]) (by simp only [fwA, ↓reduceIte, Nat.reduceAdd, Nat.reduceMul, Nat.reduceEqDiff, Nat.reduceLT, Nat.reduceLeDiff, reduceCtorEq]) (by simp only [fwA, ↓reduceIte, Nat.reduceAdd, Nat.reduceMul, Nat.reduceEqDiff, Nat.reduceLT, Nat.reduceLeDiff, reduceCtorEq]) (by omega) (by omega) (by omega)).mono fun p H' hp => ?_)
    subst hp
    refine ⟨rfl, by simp [alook, aput], ⟨[.row 1 [.ptr (H.length + 4) 1]], ?_⟩, rfl⟩
    simp [turnZ]
  generalize hgl : renI fr to t.l = gl at hm ⊢
  refine awp_seq ?_
  refine awp_cut [3, 4, 5, 6, 7, 8] [.ptr H.length 0, .ptr (H.length + 1) 0, .ptr (H.length + 2) 0, .ptr (H.length + 3) 0, .func (.func 52) [] [.ptr (H.length + 1) 0, .ptr (H.length + 2) 0], .ptr (H.length + 4) 0] (H ++ [Blk.box t.enc, Blk.box [.vec (fr.map I1) false], Blk.box [.vec (to.map I1) false], Blk.box [.int .i64 0, .int .i64 0, .int .i64 0, .int .i64 0, .int .i64 0, .vec [] true], Blk.box (tb [t.kind, gl, if t.kind = 2 then renI fr to t.c else t.c, if t.kind = 3 then renI fr to t.pc else t.pc, if t.kind = 3 then renI fr to t.x else t.x] kv)]) (hbd4 _ _ (hkvb _)) (by simp [PV.bdL, PV.bd]) (by simp) ?_ ?_
  · refine awp_seq ?_
    -- region 4
    refine awp_run rfl (by simp only [fwA, ↓reduceIte, Nat.reduceAdd, Nat.reduceMul, Nat.reduceEqDiff, Nat.reduceLT, Nat.reduceLeDiff, reduceCtorEq, ti31, fl31_1, ti28, fl31_0, ti3, fl31_2, fl31_3, fl31_4, fl31_5, ti29, un29, el29, pl31, ti42, Ty.fw] <;> rfl) ?_
    refine awp_block ?_
    refine awp_seq ?_
    -- region 5
    refine awp_run rfl (by simp only [fwA, ↓reduceIte, Nat.reduceAdd, Nat.reduceMul, Nat.reduceEqDiff, Nat.reduceLT, Nat.reduceLeDiff, reduceCtorEq, ti31, fl31_1, ti28, fl31_0, ti3, fl31_2, fl31_3, fl31_4, fl31_5, ti29, un29, el29, pl31, ti42, Ty.fw] <;> rfl) ?_
    refine awp_cond (by simp only [fwA, ↓reduceIte, Nat.reduceAdd, Nat.reduceMul, Nat.reduceEqDiff, Nat.reduceLT, Nat.reduceLeDiff, reduceCtorEq] <;> rfl) ?_
    by_cases k2 : t.kind = 2
    · simp only [k2, decide_true, ↓reduceIte]
      -- region 6
      refine awp_region rfl ?_
      refine aops_run 2 (by simp only [fwA, ↓reduceIte, Nat.reduceAdd, Nat.reduceMul, Nat.reduceEqDiff, Nat.reduceLT, Nat.reduceLeDiff, reduceCtorEq, ti31, fl31_1, ti28, fl31_0, ti3, fl31_2, fl31_3, fl31_4, fl31_5, ti29, un29, el29, pl31, ti42, Ty.fw] <;> rfl) ?_
      refine aops_one rfl (os_bsliceR (cs := [.ptr (H.length + 4) 2]) rfl un99 ti100 (by decide) (by decide) (by simp only [fwA, ↓reduceIte, Nat.reduceAdd, Nat.reduceMul, Nat.reduceEqDiff, Nat.reduceLT, Nat.reduceLeDiff, reduceCtorEq] <;> rfl) ?_)
      rw [show (H ++ [Blk.box t.enc, Blk.box [.vec (fr.map I1) false], Blk.box [.vec (to.map I1) false], Blk.box [.int .i64 0, .int .i64 0, .int .i64 0, .int .i64 0, .int .i64 0, .vec [] true], Blk.box (tb [2, gl, t.c, t.pc, t.x] kv)]).length = H.length + 5 from by simp, List.append_assoc]
      refine aops_call rfl rfl rfl en52 ((c52 Γ fr to [2] [2, gl, t.c, t.pc, t.x] kv (H.length + 4) (H.length + 5) (H.length + 1) (H.length + 2) _ (by simp) (by simp) (by simp) (by simp only [fwA, ↓reduceIte, Nat.reduceAdd, Nat.reduceMul, Nat.reduceEqDiff, Nat.reduceLT, Nat.reduceLeDiff, reduceCtorEq]) (by simp only [fwA, ↓reduceIte, Nat.reduceAdd, Nat.reduceMul, Nat.reduceEqDiff, Nat.reduceLT, Nat.reduceLeDiff, reduceCtorEq]) (by simp only [fwA, ↓reduceIte, Nat.reduceAdd, Nat.reduceMul, Nat.reduceEqDiff, Nat.reduceLT, Nat.reduceLeDiff, reduceCtorEq]) (by omega) (by omega) (by omega)).mono fun p H' hp => ?_)
      subst hp
      refine ⟨rfl, by simp [alook, aput], ⟨[.row 1 [.ptr (H.length + 4) 2]], ?_⟩, rfl⟩
      simp [turnZ]
    simp only [k2, decide_false, Bool.false_eq_true, ↓reduceIte]
    refine awp_seq ?_
    -- region 7
    refine awp_run rfl (by simp only [fwA, ↓reduceIte, Nat.reduceAdd, Nat.reduceMul, Nat.reduceEqDiff, Nat.reduceLT, Nat.reduceLeDiff, reduceCtorEq] <;> rfl) ?_
    refine awp_cond (by simp only [fwA, ↓reduceIte, Nat.reduceAdd, Nat.reduceMul, Nat.reduceEqDiff, Nat.reduceLT, Nat.reduceLeDiff, reduceCtorEq] <;> rfl) ?_
    by_cases k3 : t.kind = 3
    · simp only [k3, decide_true, ↓reduceIte]
      -- region 8
      refine awp_region rfl ?_
      refine aops_run 3 (by simp only [fwA, ↓reduceIte, Nat.reduceAdd, Nat.reduceMul, Nat.reduceEqDiff, Nat.reduceLT, Nat.reduceLeDiff, reduceCtorEq, ti31, fl31_1, ti28, fl31_0, ti3, fl31_2, fl31_3, fl31_4, fl31_5, ti29, un29, el29, pl31, ti42, Ty.fw] <;> rfl) ?_
      refine aops_one rfl (os_bsliceR (cs := [.ptr (H.length + 4) 3, .ptr (H.length + 4) 4]) rfl un99 ti100 (by decide) (by decide) (by simp only [fwA, ↓reduceIte, Nat.reduceAdd, Nat.reduceMul, Nat.reduceEqDiff, Nat.reduceLT, Nat.reduceLeDiff, reduceCtorEq] <;> rfl) ?_)
      rw [show (H ++ [Blk.box t.enc, Blk.box [.vec (fr.map I1) false], Blk.box [.vec (to.map I1) false], Blk.box [.int .i64 0, .int .i64 0, .int .i64 0, .int .i64 0, .int .i64 0, .vec [] true], Blk.box (tb [3, gl, t.c, t.pc, t.x] kv)]).length = H.length + 5 from by simp, List.append_assoc]
      refine aops_call rfl rfl rfl en52 ((c52 Γ fr to [3, 4] [3, gl, t.c, t.pc, t.x] kv (H.length + 4) (H.length + 5) (H.length + 1) (H.length + 2) _ (by simp) (by simp) (by simp) (by simp only [fwA, ↓reduceIte, Nat.reduceAdd, Nat.reduceMul, Nat.reduceEqDiff, Nat.reduceLT, Nat.reduceLeDiff, reduceCtorEq]) (by simp only [fwA, ↓reduceIte, Nat.reduceAdd, Nat.reduceMul, Nat.reduceEqDiff, Nat.reduceLT, Nat.reduceLeDiff, reduceCtorEq]) (by simp only [fwA, ↓reduceIte, Nat.reduceAdd, Nat.reduceMul, Nat.reduceEqDiff, Nat.reduceLT, Nat.reduceLeDiff, reduceCtorEq]) (by omega) (by omega) (by omega)).mono fun p H' hp => ?_)
      subst hp
      refine ⟨rfl, by simp [alook, aput], ⟨[.row 1 [.ptr (H.length + 4) 3, .ptr (H.length + 4) 4]], ?_⟩, rfl⟩
      simp [turnZ]
    · simp only [k3, decide_false, Bool.false_eq_true, ↓reduceIte]
      refine awp_skip ?_
      exact ⟨rfl, rfl, ⟨[], by simp⟩, rfl⟩
  generalize (if t.kind = 2 then renI fr to t.c else t.c) = gc at hm ⊢
  generalize (if t.kind = 3 then renI fr to t.pc else t.pc) = gp at hm ⊢
  generalize (if t.kind = 3 then renI fr to t.x else t.x) = gx at hm ⊢
  rw [hm]
  clear hkvb hkv
  refine awp_seq ?_
  refine awp_heap (H' := H ++ [Blk.box t.enc, Blk.box [.vec (fr.map I1) false], Blk.box [.vec (to.map I1) false], Blk.box [.int .i64 0, .int .i64 0, .int .i64 0, .int .i64 0, .int .i64 0, .vec [] true], Blk.box [.int .i64 t.kind, .int .i64 gl, .int .i64 gc, .int .i64 gp, .int .i64 gx, kv]]) rfl ?_
  -- region 9
  refine awp_run rfl (by simp only [fwA, ↓reduceIte, Nat.reduceAdd, Nat.reduceMul, Nat.reduceEqDiff, Nat.reduceLT, Nat.reduceLeDiff, reduceCtorEq, ti31, fl31_1, ti28, fl31_0, ti3, fl31_2, fl31_3, fl31_4, fl31_5, ti29, un29, el29, pl31, ti42, Ty.fw] <;> rfl) ?_
  refine awp_heap (H' := H ++ [Blk.box t.enc, Blk.box [.vec (fr.map I1) false], Blk.box [.vec (to.map I1) false], Blk.box [.int .i64 0, .int .i64 0, .int .i64 0, .int .i64 0, .int .i64 0, .vec [] true], Blk.box [.int .i64 t.kind, .int .i64 gl, .int .i64 gc, .int .i64 gp, .int .i64 gx, .vec [] true]]) (by simp) ?_
  refine awp_seq ?_
  refine awp_seq ?_
  -- region 10
  refine awp_run rfl (by simp only [fwA, ↓reduceIte, Nat.reduceAdd, Nat.reduceMul, Nat.reduceEqDiff, Nat.reduceLT, Nat.reduceLeDiff, reduceCtorEq, ti31, fl31_1, ti28, fl31_0, ti3, fl31_2, fl31_3, fl31_4, fl31_5, ti29, un29, el29, pl31, ti42, Ty.fw, List.length_map] <;> rfl) ?_
  refine awp_told (told_adoptBox (H.length + 4) 5 6 (by decide) (by simp only [fwA, ↓reduceIte, Nat.reduceAdd, Nat.reduceMul, Nat.reduceEqDiff, Nat.reduceLT, Nat.reduceLeDiff, reduceCtorEq] <;> rfl) rfl) ?_
  refine awp_block ?_
  refine awp_forG [3, 4, 5, 6, 8, 34, 35, 36] (fun i : Nat => [.ptr H.length 0, .ptr (H.length + 1) 0, .ptr (H.length + 2) 0, .ptr (H.length + 3) 0, .ptr (H.length + 4) 0, .vec (t.kids.map Ty.enc) false, .int .i64 t.kids.length, .int .i64 (i : Int)])
    (fun i => H ++ [Blk.box t.enc, Blk.box [.vec (fr.map I1) false], Blk.box [.vec (to.map I1) false], Blk.box [.int .i64 0, .int .i64 0, .int .i64 0, .int .i64 0, .int .i64 0, .vec [] true], Blk.box [.int .i64 t.kind, .int .i64 gl, .int .i64 gc, .int .i64 gp, .int .i64 gx, .row (H.length + 5) 0 i 6], Blk.row 6 ((((t.kids.take i).map (Ty.map (renI fr to)))).map Ty.enc).flatten])
    (fun i => t.kids.length - i) (fun i => i ≤ t.kids.length) 0 rfl (by simp only [fwA, ↓reduceIte, Nat.reduceAdd, Nat.reduceMul, Nat.reduceEqDiff, Nat.reduceLT, Nat.reduceLeDiff, reduceCtorEq] <;> rfl) (Nat.zero_le _) (fun i _ => ⟨bd_app (fun B hB => hbdH B hB) (by simp only [List.all_cons, List.all_nil, Blk.bd, Ty.bd, PV.bdL, PV.bd, List.length_append, List.length_cons, List.length_nil, flat_bd (enc := Ty.enc) (fun _ => Ty.bd _ _), Bool.and_true, Bool.true_and, decide_eq_true_eq]; omega), by simp [PV.bdL, PV.bd]; try omega⟩) (fun i _ b hb => by cases hb) fun i hi => ?_
  have hti : ((t.kids.take i).map (Ty.map (renI fr to))).length = i := by simp; omega
  refine awp_seq ?_
  refine awp_run rfl (by simp only [fwA, ↓reduceIte, Nat.reduceAdd, Nat.reduceMul, Nat.reduceEqDiff, Nat.reduceLT, Nat.reduceLeDiff, reduceCtorEq] <;> rfl) ?_
  refine awp_seq ?_
  refine awp_cond (by simp only [fwA, ↓reduceIte, Nat.reduceAdd, Nat.reduceMul, Nat.reduceEqDiff, Nat.reduceLT, Nat.reduceLeDiff, reduceCtorEq] <;> rfl) ?_
  by_cases hc : (i : Int) < t.kids.length
  rotate_left
  · simp only [hc, decide_false, Bool.false_eq_true, ↓reduceIte]
    refine awp_exit ?_
    have hi' : i = t.kids.length := by omega
    refine awp_told (told_freezeAt H _ 5 (C := (((t.kids.take i).map (Ty.map (renI fr to))).map Ty.enc).flatten) rfl (flat_bd (fun t => by simp only [Ty.fw]) _)) ?_
    have hl : ((((t.kids.take i).map (Ty.map (renI fr to))).map Ty.enc).flatten).length = i * 6 := by rw [flat_len Ty.enc_len, hti]
    have hch : chunk 6 i ((((t.kids.take i).map (Ty.map (renI fr to))).map Ty.enc).flatten) = ((t.kids.take i).map (Ty.map (renI fr to))).map Ty.enc := by
      have := flat_chunk Ty.enc_len ((t.kids.take i).map (Ty.map (renI fr to)))
      rwa [hti] at this
    refine awp_seq (awp_run rfl (by simp only [fwA, ↓reduceIte, Nat.reduceAdd, Nat.reduceMul, Nat.reduceEqDiff, Nat.reduceLT, Nat.reduceLeDiff, reduceCtorEq, ti31, fl31_1, ti28, fl31_0, ti3, fl31_2, fl31_3, fl31_4, fl31_5, ti29, un29, el29, pl31, ti42, Ty.fw, hl, hch] <;> rfl) (awp_ret ?_))
    refine gives_end (.inl rfl) _ ?_
    simp only [fwA, ↓reduceIte, Nat.reduceAdd, Nat.reduceMul, Nat.reduceEqDiff, Nat.reduceLT, Nat.reduceLeDiff, reduceCtorEq, ares, aresL, ares1, Tryd.f33, ti31, hi', List.take_length]
    rw [Ty.enc_eq (Ty.mk _ _ _ _ _ _)]
    rfl
  simp only [hc, decide_true, ↓reduceIte]
  refine awp_skip ?_
  have hia : i < t.kids.length := by omega
  have ga : t.kids[i]? = some t.kids[i] := List.getElem?_eq_getElem hia
  have ihk := ih t.kids[i] (List.getElem_mem hia) (by have := Ty.w_kid (List.getElem_mem hia); omega)
  have hmp : ((t.kids.take (i + 1)).map (Ty.map (renI fr to))) = ((t.kids.take i).map (Ty.map (renI fr to))) ++ [t.kids[i].map (renI fr to)] := by rw [List.take_add_one, ga, List.map_append]; rfl
  have hfl : ((((t.kids.take (i + 1)).map (Ty.map (renI fr to)))).map Ty.enc).flatten = ((((t.kids.take i).map (Ty.map (renI fr to)))).map Ty.enc).flatten ++ (t.kids[i].map (renI fr to)).enc := by rw [hmp, List.map_append, List.flatten_append]; simp
  have hF : ((((t.kids.take i).map (Ty.map (renI fr to))).map Ty.enc).flatten).length = i * 6 := by rw [flat_len Ty.enc_len, hti]
  generalize (((t.kids.take i).map (Ty.map (renI fr to))).map Ty.enc).flatten = F at hF hfl ⊢
  refine awp_seq ?_
  refine awp_block ?_
  refine awp_seq ?_
  -- region 12
  refine awp_run rfl (by simp only [fwA, ↓reduceIte, Nat.reduceAdd, Nat.reduceMul, Nat.reduceEqDiff, Nat.reduceLT, Nat.reduceLeDiff, reduceCtorEq, ti31, fl31_1, ti28, fl31_0, ti3, fl31_2, fl31_3, fl31_4, fl31_5, ti29, un29, el29, pl31, ti42, Ty.fw, List.getElem?_map, ga, Option.map_some, Int.natCast_nonneg] <;> rfl) ?_
  -- region 13 drawn
  refine awp_drawnX (some (H.length + 4)) [0, 5, 4, 4, 4, 0, 0, 0, 2, 7, 7, 0, 5] [0, 1, 0, 0, 0, 28, 3, 0, 255, 511, 1023, 511, 2559] mixed rfl (by kernel_rfl) ?_
  refine dops_run 1 (by simp only [fwA, ↓reduceIte, Nat.reduceAdd, Nat.reduceMul, Nat.reduceEqDiff, Nat.reduceLT, Nat.reduceLeDiff, reduceCtorEq, ti31, fl31_1, ti28, fl31_0, ti3, fl31_2, fl31_3, fl31_4, fl31_5, ti29, un29, el29, pl31, ti42, Ty.fw] <;> rfl) ?_
  refine dops_loadX (b := H.length + 4) (q := 5) (p := .row (H.length + 5) 0 i 6) (cs := [.int .i64 t.kind, .int .i64 gl, .int .i64 gc, .int .i64 gp, .int .i64 gx, .row (H.length + 5) 0 i 6]) rfl rfl rfl ti29 rfl (by simp only [fwA, ↓reduceIte, Nat.reduceAdd, Nat.reduceMul, Nat.reduceEqDiff, Nat.reduceLT, Nat.reduceLeDiff, reduceCtorEq] <;> rfl) rfl rfl (by simp) ?_
  refine dops_run 3 (by simp only [fwA, ↓reduceIte, Nat.reduceAdd, Nat.reduceMul, Nat.reduceEqDiff, Nat.reduceLT, Nat.reduceLeDiff, reduceCtorEq, ti31, fl31_1, ti28, fl31_0, ti3, fl31_2, fl31_3, fl31_4, fl31_5, ti29, un29, el29, pl31, ti42, Ty.fw, View.vw, List.take_length] <;> rfl) ?_
  refine dops_fn rfl rfl rfl rfl en33 ihk ?_
  refine dops_run 2 (by simp only [fwA, ↓reduceIte, Nat.reduceAdd, Nat.reduceMul, Nat.reduceEqDiff, Nat.reduceLT, Nat.reduceLeDiff, reduceCtorEq, ti31, fl31_1, ti28, fl31_0, ti3, fl31_2, fl31_3, fl31_4, fl31_5, ti29, un29, el29, pl31, ti42, Ty.fw, zc31] <;> rfl) ?_
  refine dops_appendR (q := 0) (k := i) (cs := F) rfl rfl rfl un29 ti31 un29 (.inl ⟨_, rfl⟩) rfl (by simp only [fwA, ↓reduceIte, Nat.reduceAdd, Nat.reduceMul, Nat.reduceEqDiff, Nat.reduceLT, Nat.reduceLeDiff, reduceCtorEq] <;> rfl) (by rw [hF]; exact (Nat.zero_add _).symm) rfl
    (fun es f h e he => by
      simp only [fwA, ↓reduceIte, Nat.reduceAdd, Nat.reduceMul, Nat.reduceEqDiff, Nat.reduceLT, Nat.reduceLeDiff, reduceCtorEq, PV.vec.injEq] at h
      obtain ⟨rfl, rfl⟩ := h
      simp only [List.mem_singleton] at he
      subst he; rfl) rfl (by show (i + 1) * 64 ≤ _; omega) (by show i + 1 ≤ _; omega) ?_
  refine dops_index7 rfl rfl rfl el29 rfl rfl (by simp only [fwA, ↓reduceIte, Nat.reduceAdd, Nat.reduceMul, Nat.reduceEqDiff, Nat.reduceLT, Nat.reduceLeDiff, reduceCtorEq] <;> rfl) (by simp [hF]; omega) (Int.natCast_nonneg _) (by show (i : Int) < ((i + 1 : Nat) : Int); omega) (by simp) ?_
  refine dops_storeE7 rfl rfl rfl ti31 rfl (by simp only [fwA, ↓reduceIte, Nat.reduceAdd, Nat.reduceMul, Nat.reduceEqDiff, Nat.reduceLT, Nat.reduceLeDiff, reduceCtorEq] <;> rfl) rfl rfl (by simp [fwA, ↓reduceIte, Nat.reduceAdd, Nat.reduceMul, Nat.reduceEqDiff, Nat.reduceLT, Nat.reduceLeDiff, reduceCtorEq, Ty.fw]) (by simp [hF]) (by decide) (by simp) ?_
  refine dops_run 1 (by simp only [fwA, ↓reduceIte, Nat.reduceAdd, Nat.reduceMul, Nat.reduceEqDiff, Nat.reduceLT, Nat.reduceLeDiff, reduceCtorEq, ti31, fl31_1, ti28, fl31_0, ti3, fl31_2, fl31_3, fl31_4, fl31_5, ti29, un29, el29, pl31, ti42, Ty.fw] <;> rfl) ?_
  refine dops_storeB rfl rfl rfl ti29 rfl (by simp only [fwA, ↓reduceIte, Nat.reduceAdd, Nat.reduceMul, Nat.reduceEqDiff, Nat.reduceLT, Nat.reduceLeDiff, reduceCtorEq] <;> rfl) rfl rfl (by show 5 + 1 ≤ 6; decide) rfl (by simp) ?_
  refine dops_end ?_
  refine awp_run rfl (by simp only [fwA, ↓reduceIte, Nat.reduceAdd, Nat.reduceMul, Nat.reduceEqDiff, Nat.reduceLT, Nat.reduceLeDiff, reduceCtorEq] <;> rfl) ?_
  refine ⟨i + 1, [.box t.kids[i].enc], by omega, by omega, by rw [wrapS i (by omega)]; rfl, ?_, rfl, by simp⟩
  rw [hfl]
  simp
  rw [List.take_left' hF, List.drop_eq_nil_of_le (by simp [hF]), List.append_nil]

end Go.Proofs.YtlnffadolfkggaaDoor

/- The contracts of the program's fresh types. -/
namespace Go.Proofs.YtlnffadolfkggaaDoor
set_option linter.unusedVariables false
set_option linter.unusedSimpArgs false
set_option maxRecDepth 100000
open Go.RowKit Fw

/-- Numbers from one on, at some places. -/
def numZ (js : List Nat) (s : List Int × Int) : List Int × Int := js.foldl (fun s j => (s.1.set j s.2, nx s.2)) s
theorem numZ_len (js : List Nat) (s : List Int × Int) : (numZ js s).1.length = s.1.length := by
  induction js generalizing s with
  | nil => rfl
  | cons j js ih => show (numZ js (s.1.set j s.2, nx s.2)).1.length = _; rw [ih]; exact List.length_set ..
theorem numZ_take {js : List Nat} {i j : Nat} (h : js[i]? = some j) (s : List Int × Int) : numZ (js.take (i + 1)) s = ((numZ (js.take i) s).1.set j (numZ (js.take i) s).2, nx (numZ (js.take i) s).2) := by
  unfold numZ
  rw [List.take_add_one, h, List.foldl_append]; rfl

/-- chancel/ltype.fresh$1 -/
theorem c58 (Γ : Nat → PV) (js : List Nat) (zs : List Int) (kv : PV) (b r pb nb : Nat) (n : Int) (H : List Blk) (hzl0 : zs.length = 5) (hjs : ∀ j ∈ js, j < 5) (hjl : js.length ≤ 2)
    (hr : H[r]? = some (.row 1 (js.map fun j => .ptr b j))) (hb : H[b]? = some (.box (tb zs kv))) (hp : H[pb]? = some (.box [.ptr nb 0])) (hn : H[nb]? = some (.box [.int .i64 n])) (n1 : b ≠ pb) (n2 : b ≠ nb) (nr : b ≠ r) (n3 : nb ≠ pb) (n4 : nb ≠ r) :
    ACalls Tryd.prog Γ 58 [.row r 0 js.length 1, .ptr pb 0] H (fun _ H' => H' = (H.set b (.box (tb (numZ js (zs, n)).1 kv))).set nb (.box [.int .i64 (numZ js (zs, n)).2])) := by
  have hbl := (List.getElem?_eq_some_iff.1 hb).1
  have hnl := (List.getElem?_eq_some_iff.1 hn).1
  refine acalls_of_awp Tryd.func58 rfl (by simp [Tryd.f58]) fun hbd => ?_
  refine awp_seq ?_
  refine awp_run rfl (by simp only [fwA, ↓reduceIte, Nat.reduceAdd, Nat.reduceMul, Nat.reduceEqDiff, Nat.reduceLT, Nat.reduceLeDiff, reduceCtorEq, un99] <;> rfl) ?_
  refine awp_block ?_
  refine awp_for [1, 5, 6, 7] (fun i : Nat => [.ptr pb 0, .row r 0 js.length 1, .int .i64 js.length, .int .i64 (i : Int)]) (fun i => (H.set b (.box (tb (numZ (js.take i) (zs, n)).1 kv))).set nb (.box [.int .i64 (numZ (js.take i) (zs, n)).2])) (fun i => js.length - i) (fun i => i ≤ js.length) 0 rfl (by
    rw [List.take_zero]
    show H = (H.set b (.box (tb zs kv))).set nb (.box [.int .i64 n])
    rw [set_same hb, set_same hn]) (Nat.zero_le _) fun i hi => ?_
  refine awp_seq ?_
  refine awp_run rfl (by simp only [fwA, ↓reduceIte, Nat.reduceAdd, Nat.reduceMul, Nat.reduceEqDiff, Nat.reduceLT, Nat.reduceLeDiff, reduceCtorEq] <;> rfl) ?_
  refine awp_seq ?_
  refine awp_cond (by simp only [fwA, ↓reduceIte, Nat.reduceAdd, Nat.reduceMul, Nat.reduceEqDiff, Nat.reduceLT, Nat.reduceLeDiff, reduceCtorEq] <;> rfl) ?_
  by_cases hc : (i : Int) < js.length
  rotate_left
  · simp only [hc, decide_false, Bool.false_eq_true, ↓reduceIte]
    have hi' : i = js.length := by omega
    subst hi'
    rw [List.take_length]
    refine awp_bd fun hbd' => ?_
    refine awp_exit ?_
    exact calls_at (p := .tup []) (R := fun _ H' => H' = (H.set b (.box (tb (numZ js (zs, n)).1 kv))).set nb (.box [.int .i64 (numZ js (zs, n)).2])) (.inr rfl) hbd' rfl rfl (by rw [List.length_set, List.length_set]; exact Nat.le_refl _) rfl
  simp only [hc, decide_true, ↓reduceIte]
  refine awp_skip ?_
  have hia : i < js.length := by omega
  have ga : js[i]? = some js[i] := List.getElem?_eq_getElem hia
  have hzl := numZ_len (js.take i) (zs, n)
  have hjz : js[i] < (numZ (js.take i) (zs, n)).1.length := by rw [hzl, hzl0]; exact hjs _ (List.getElem_mem hia)
  have hnx := numZ_take ga (zs, n)
  generalize numZ (js.take i) (zs, n) = z at hzl hjz hnx ⊢
  obtain ⟨z, m⟩ := z
  dsimp only at hzl hjz hnx ⊢
  generalize hH2 : (H.set b (.box (tb z kv))).set nb (.box [.int .i64 m]) = H2
  have ep : H2[pb]? = some (.box [.ptr nb 0]) := by rw [← hH2, List.getElem?_set_ne n3, List.getElem?_set_ne n1]; exact hp
  have er : H2[r]? = some (.row 1 (js.map fun j => .ptr b j)) := by rw [← hH2, List.getElem?_set_ne n4, List.getElem?_set_ne nr]; exact hr
  have eb : H2[b]? = some (.box (tb z kv)) := by rw [← hH2, List.getElem?_set_ne (Ne.symm n2), List.getElem?_set_self hbl]
  have en : H2[nb]? = some (.box [.int .i64 m]) := by rw [← hH2, List.getElem?_set_self (by rw [List.length_set]; exact hnl)]
  refine awp_seq ?_
  refine awp_block ?_
  refine awp_seq ?_
  -- region 2
  refine awp_region rfl ?_
  refine aops_one rfl (os_index_row (sz := 1) rfl el99 rfl rfl er (by simp) (Int.natCast_nonneg _) hc ?_)
  refine aops_one rfl (os_load (cs := (js.map fun j => PV.ptr b j).drop (0 + (i : Int).toNat * 1)) rfl ti100 (by simp only [fwA, ↓reduceIte, Nat.reduceAdd, Nat.reduceMul, Nat.reduceEqDiff, Nat.reduceLT, Nat.reduceLeDiff, reduceCtorEq, rd, er, if_pos]) (row_ptr ga) ?_)
  refine aops_run 1 (by simp only [fwA, ↓reduceIte, Nat.reduceAdd, Nat.reduceMul, Nat.reduceEqDiff, Nat.reduceLT, Nat.reduceLeDiff, reduceCtorEq] <;> rfl) ?_
  refine awp_seq ?_
  -- region 3
  refine awp_run rfl (by simp only [fwA, ↓reduceIte, Nat.reduceAdd, Nat.reduceMul, Nat.reduceEqDiff, Nat.reduceLT, Nat.reduceLeDiff, reduceCtorEq, ti85, ti3, ti28, ep, en, eb, tb_len, Nat.le_of_lt hjz] <;> rfl) ?_
  have ep3 : (H2.set b (.box (tb (z.set js[i] m) kv)))[pb]? = some (.box [.ptr nb 0]) := by rw [List.getElem?_set_ne n1]; exact ep
  have en3 : (H2.set b (.box (tb (z.set js[i] m) kv)))[nb]? = some (.box [.int .i64 m]) := by rw [List.getElem?_set_ne n2]; exact en
  refine awp_heap (H' := H2.set b (.box (tb (z.set js[i] m) kv))) (by rw [tb_splice _ hjz]) ?_
  -- region 4
  refine awp_run rfl (by simp only [fwA, ↓reduceIte, Nat.reduceAdd, Nat.reduceMul, Nat.reduceEqDiff, Nat.reduceLT, Nat.reduceLeDiff, reduceCtorEq, ti85, ti3, ti28, ep3, en3] <;> rfl) ?_
  -- region 5
  refine awp_run rfl (by simp only [fwA, ↓reduceIte, Nat.reduceAdd, Nat.reduceMul, Nat.reduceEqDiff, Nat.reduceLT, Nat.reduceLeDiff, reduceCtorEq] <;> rfl) ?_
  refine ⟨i + 1, by omega, by omega, by rw [wrapS i (by omega)]; rfl, ?_, rfl⟩
  rw [hnx, ← hH2]
  show (((H.set b (.box (tb z kv))).set nb (.box [.int .i64 m])).set b (.box (tb (z.set js[i] m) kv))).set nb (.box [.int .i64 (nx m)]) = _
  rw [List.set_comm _ _ (Ne.symm n2), List.set_set, List.set_set]

end Go.Proofs.YtlnffadolfkggaaDoor

/- The contracts of the program's fresh types. -/
namespace Go.Proofs.YtlnffadolfkggaaDoor
set_option linter.unusedVariables false
set_option linter.unusedSimpArgs false
set_option maxRecDepth 100000
open Go.RowKit Fw

theorem Sh.w_pos (t : Sh) : 0 < t.w := by rw [Sh.w_eq]; omega
theorem sh_w_kid {t k : Sh} (h : k ∈ t.kids) : k.w < t.w := by
  rw [Sh.w_eq t]
  have : ∀ l : List Sh, k ∈ l → k.w ≤ (l.map Sh.w).sum := by
    intro l hl
    induction l with
    | nil => cases hl
    | cons x l ih =>
      simp only [List.map_cons, List.sum_cons]
      rcases List.mem_cons.1 hl with rfl | h
      · omega
      · have := ih h; omega
  have := this t.kids h
  omega
theorem sh_kids_len (t : Sh) : t.kids.length ≤ t.w := by
  rw [Sh.w_eq]
  have : ∀ l : List Sh, l.length ≤ (l.map Sh.w).sum := by
    intro l
    induction l with
    | nil => simp
    | cons k l ih => have := Sh.w_pos k; simp only [List.length_cons, List.map_cons, List.sum_cons]; omega
  have := this t.kids
  omega
theorem freshs_snoc (l : List Sh) (x : Sh) (n : Int) : Ty.freshs (l ++ [x]) n = ((Ty.freshs l n).1 ++ [(Ty.fresh x (Ty.freshs l n).2).1], (Ty.fresh x (Ty.freshs l n).2).2) := by
  induction l generalizing n with
  | nil => simp [Ty.freshs]
  | cons y l ih => simp only [List.cons_append, Ty.freshs, ih]
/-- The kind that a type of a shape has. -/
def fk (k : Int) : Int := if k = 4 then 1 else k
theorem fresh_gen' (k m : Int) (ks : List Sh) (n : Int) : Ty.fresh (.mk k m ks) n = (.mk (fk k) n (if fk k = 2 then nx n else 0) (if fk k = 3 then nx n else 0) (if fk k = 3 then nx (nx n) else 0)
    (Ty.freshs ks (if fk k = 2 then nx (nx n) else if fk k = 3 then nx (nx (nx n)) else nx n)).1,
    (Ty.freshs ks (if fk k = 2 then nx (nx n) else if fk k = 3 then nx (nx (nx n)) else nx n)).2) := by
  rw [Ty.fresh]
  by_cases h2 : k = 2
  · subst h2; rfl
  · by_cases h3 : k = 3
    · subst h3; rfl
    · have a2 : fk k ≠ 2 := by unfold fk; split <;> omega
      have a3 : fk k ≠ 3 := by unfold fk; split <;> omega
      rw [if_neg h2, if_neg h3]
      simp only [if_neg a2, if_neg a3]
      rfl
theorem fresh_gen (s : Sh) (n : Int) : Ty.fresh s n = (.mk (fk s.kind) n (if fk s.kind = 2 then nx n else 0) (if fk s.kind = 3 then nx n else 0) (if fk s.kind = 3 then nx (nx n) else 0)
    (Ty.freshs s.kids (if fk s.kind = 2 then nx (nx n) else if fk s.kind = 3 then nx (nx (nx n)) else nx n)).1,
    (Ty.freshs s.kids (if fk s.kind = 2 then nx (nx n) else if fk s.kind = 3 then nx (nx (nx n)) else nx n)).2) := by
  cases s with | mk k m ks => exact fresh_gen' k m ks n

/-- The blocks with another number in one of them. -/
theorem stage {H : List Blk} {nb : Nat} (m : Int) (hnb : nb < H.length) (hbd : ∀ B ∈ H, B.bd H.length = true) : ∃ Hm, Hm = H.set nb (.box [.int .i64 m]) ∧ H.length = Hm.length ∧ Hm[nb]? = some (.box [.int .i64 m]) ∧ (∀ B ∈ Hm, B.bd Hm.length = true) ∧ ∀ B, H.set nb B = Hm.set nb B := by
  refine ⟨_, rfl, by rw [List.length_set], by rw [List.getElem?_set_self hnb], ?_, fun B => by rw [List.set_set]⟩
  rw [List.length_set]
  exact bd_set hbd rfl
/-- nil, as a list. -/
abbrev nilv : PV := .vec [] true

/-- chancel/ltype.fresh -/
theorem c40 (Γ : Nat → PV) : ∀ s : Sh, s.w ≤ 1000000000 → ∀ (n : Int) (nb : Nat) (H : List Blk), H[nb]? = some (.box [.int .i64 n]) →
    ACalls Tryd.prog Γ 40 [.agg s.enc, .ptr nb 0] H (fun p H' => p = .agg (Ty.fresh s n).1.enc ∧ H' = H.set nb (.box [.int .i64 (Ty.fresh s n).2])) := by
  refine Sh.ind fun s ih hw n nb H e3 => ?_
  have hkw := sh_kids_len s
  have hnm := (List.getElem?_eq_some_iff.1 e3).1
  refine acalls_of_awp Tryd.func40 rfl (by simp [Tryd.f40]) fun hbd => ?_
  have hbdA : ∀ (m : Int) (zs : List Int), ∀ B ∈ H.set nb (.box [.int .i64 m]) ++ [Blk.box s.enc, Blk.box [.ptr nb 0], Blk.box [.int .i64 0, .int .i64 0, .int .i64 0, .int .i64 0, .int .i64 0, .vec [] true], Blk.box (tb zs nilv)], B.bd (H.set nb (.box [.int .i64 m]) ++ [Blk.box s.enc, Blk.box [.ptr nb 0], Blk.box [.int .i64 0, .int .i64 0, .int .i64 0, .int .i64 0, .int .i64 0, .vec [] true], Blk.box (tb zs nilv)]).length = true := fun m zs => by
    obtain ⟨Hm, e1, e2, _, e4, _⟩ := stage m hnm hbd
    rw [← e1]
    refine bd_app e4 ?_
    have : (Hm ++ [Blk.box s.enc, Blk.box [.ptr nb 0], Blk.box [.int .i64 0, .int .i64 0, .int .i64 0, .int .i64 0, .int .i64 0, .vec [] true], Blk.box (tb zs nilv)]).length = Hm.length + 4 := by simp
    rw [this]
    simp only [List.all_cons, List.all_nil, Blk.bd, Sh.bd, PV.bdL, PV.bd, Bool.and_true, Bool.true_and, tb, PV.bdL_append, nilv, Bool.and_eq_true, decide_eq_true_eq]
    refine ⟨by rw [← e2]; omega, ?_⟩
    induction zs with
    | nil => rfl
    | cons z zs ihz => simpa [PV.bdL, PV.bd] using ihz
  refine awp_seq ?_
  -- region 0
  refine awp_run rfl (by simp only [fwA, ↓reduceIte, Nat.reduceAdd, Nat.reduceMul, Nat.reduceEqDiff, Nat.reduceLT, Nat.reduceLeDiff, reduceCtorEq, ti31, fl31_1, ti28, fl31_0, ti3, fl31_2, fl31_3, fl31_4, fl31_5, ti29, un29, el29, pl31, ti26, fl26_0, fl26_2, ti24, un24, el24, ti85, Sh.fw, Ty.fw] <;> rfl) ?_
  refine awp_seq ?_
  -- region 1
  refine awp_run rfl (by simp only [fwA, ↓reduceIte, Nat.reduceAdd, Nat.reduceMul, Nat.reduceEqDiff, Nat.reduceLT, Nat.reduceLeDiff, reduceCtorEq, ti31, fl31_1, ti28, fl31_0, ti3, fl31_2, fl31_3, fl31_4, fl31_5, ti29, un29, el29, pl31, ti26, fl26_0, fl26_2, ti24, un24, el24, ti85, Sh.fw, Ty.fw] <;> rfl) ?_
  refine awp_keep (A' := [(2, .ptr H.length 0), (3, .ptr (H.length + 1) 0), (4, .ptr (H.length + 2) 0), (5, .ptr (H.length + 3) 0)]) [2, 3, 4, 5] (by simp [akeep, alook, aput, ev]) ?_
  refine awp_heap (H' := H ++ [Blk.box s.enc, Blk.box [.ptr nb 0], Blk.box [.int .i64 0, .int .i64 0, .int .i64 0, .int .i64 0, .int .i64 0, .vec [] true], Blk.box [.int .i64 s.kind, .int .i64 0, .int .i64 0, .int .i64 0, .int .i64 0, nilv]]) (by simp) ?_
  refine awp_seq ?_
  refine AWP.mono (Q := fun e A' H' D' => e = .normal ∧ akeep [2, 3, 4, 5] A' = [(2, .ptr H.length 0), (3, .ptr (H.length + 1) 0), (4, .ptr (H.length + 2) 0), (5, .ptr (H.length + 3) 0)] ∧ H' = H ++ [Blk.box s.enc, Blk.box [.ptr nb 0], Blk.box [.int .i64 0, .int .i64 0, .int .i64 0, .int .i64 0, .int .i64 0, .vec [] true], Blk.box [.int .i64 (fk s.kind), .int .i64 0, .int .i64 0, .int .i64 0, .int .i64 0, nilv]] ∧ D' = []) ?_ fun e A' H' D' hq => ?_
  · refine awp_seq ?_
    -- region 2
    refine awp_run rfl (by simp only [fwA, ↓reduceIte, Nat.reduceAdd, Nat.reduceMul, Nat.reduceEqDiff, Nat.reduceLT, Nat.reduceLeDiff, reduceCtorEq, ti31, fl31_1, ti28, fl31_0, ti3, fl31_2, fl31_3, fl31_4, fl31_5, ti29, un29, el29, pl31, ti26, fl26_0, fl26_2, ti24, un24, el24, ti85, Sh.fw, Ty.fw] <;> rfl) ?_
    refine awp_cond (by simp only [fwA, ↓reduceIte, Nat.reduceAdd, Nat.reduceMul, Nat.reduceEqDiff, Nat.reduceLT, Nat.reduceLeDiff, reduceCtorEq] <;> rfl) ?_
    by_cases k4 : s.kind = 4
    · simp only [k4, decide_true, ↓reduceIte]
      refine awp_run rfl (by simp only [fwA, ↓reduceIte, Nat.reduceAdd, Nat.reduceMul, Nat.reduceEqDiff, Nat.reduceLT, Nat.reduceLeDiff, reduceCtorEq, ti31, fl31_1, ti28, fl31_0, ti3, fl31_2, fl31_3, fl31_4, fl31_5, ti29, un29, el29, pl31, ti26, fl26_0, fl26_2, ti24, un24, el24, ti85, Sh.fw, Ty.fw] <;> rfl) ?_
      refine ⟨rfl, rfl, ?_, rfl⟩
      simp [fk]
    · simp only [k4, decide_false, Bool.false_eq_true, ↓reduceIte]
      refine awp_skip ?_
      have : fk s.kind = s.kind := by unfold fk; rw [if_neg k4]
      rw [this]
      exact ⟨rfl, rfl, rfl, rfl⟩
  obtain ⟨rfl, hA, rfl, rfl⟩ := hq
  refine awp_keep _ hA ?_
  have hfg := fresh_gen s n
  generalize fk s.kind = K at hfg ⊢
  refine awp_seq ?_
  -- region 4
  refine awp_run rfl (by simp only [fwA, ↓reduceIte, Nat.reduceAdd, Nat.reduceMul, Nat.reduceEqDiff, Nat.reduceLT, Nat.reduceLeDiff, reduceCtorEq] <;> rfl) ?_
  refine awp_seq ?_
  refine awp_heap (H' := H ++ [Blk.box s.enc, Blk.box [.ptr nb 0], Blk.box [.int .i64 0, .int .i64 0, .int .i64 0, .int .i64 0, .int .i64 0, .vec [] true], Blk.box (tb [K, 0, 0, 0, 0] nilv)]) rfl ?_
  refine awp_cut [2, 3, 4, 5, 6] [.ptr H.length 0, .ptr (H.length + 1) 0, .ptr (H.length + 2) 0, .ptr (H.length + 3) 0, .func (.func 58) [] [.ptr (H.length + 1) 0]] (H.set nb (.box [.int .i64 (nx n)]) ++ [Blk.box s.enc, Blk.box [.ptr nb 0], Blk.box [.int .i64 0, .int .i64 0, .int .i64 0, .int .i64 0, .int .i64 0, .vec [] true], Blk.box (tb [K, n, 0, 0, 0] nilv)]) (hbdA _ _) (by simp [PV.bdL, PV.bd]) (by simp) ?_ ?_
  · -- region 5
    have e5 : ∀ B, H.set nb B = H.set nb B := fun _ => rfl
    refine awp_region rfl ?_
    refine aops_run 2 (by simp only [fwA, ↓reduceIte, Nat.reduceAdd, Nat.reduceMul, Nat.reduceEqDiff, Nat.reduceLT, Nat.reduceLeDiff, reduceCtorEq, ti31, fl31_1, ti28, fl31_0, ti3, fl31_2, fl31_3, fl31_4, fl31_5, ti29, un29, el29, pl31, ti26, fl26_0, fl26_2, ti24, un24, el24, ti85, Sh.fw, Ty.fw] <;> rfl) ?_
    refine aops_one rfl (os_bsliceR (cs := [.ptr (H.length + 3) 1]) rfl un99 ti100 (by decide) (by decide) (by simp only [fwA, ↓reduceIte, Nat.reduceAdd, Nat.reduceMul, Nat.reduceEqDiff, Nat.reduceLT, Nat.reduceLeDiff, reduceCtorEq] <;> rfl) ?_)
    rw [show (H ++ [Blk.box s.enc, Blk.box [.ptr nb 0], Blk.box [.int .i64 0, .int .i64 0, .int .i64 0, .int .i64 0, .int .i64 0, .vec [] true], Blk.box (tb [K, 0, 0, 0, 0] nilv)]).length = H.length + 4 from by simp, List.append_assoc]
    refine aops_call rfl rfl rfl en58 ((c58 Γ [1] [K, 0, 0, 0, 0] nilv (H.length + 3) (H.length + 4) (H.length + 1) nb n _ (by simp) (by simp) (by simp) (by simp only [fwA, ↓reduceIte, Nat.reduceAdd, Nat.reduceMul, Nat.reduceEqDiff, Nat.reduceLT, Nat.reduceLeDiff, reduceCtorEq] <;> rfl) (by simp only [fwA, ↓reduceIte, Nat.reduceAdd, Nat.reduceMul, Nat.reduceEqDiff, Nat.reduceLT, Nat.reduceLeDiff, reduceCtorEq]) (by simp only [fwA, ↓reduceIte, Nat.reduceAdd, Nat.reduceMul, Nat.reduceEqDiff, Nat.reduceLT, Nat.reduceLeDiff, reduceCtorEq]) (by rw [List.getElem?_append_left hnm]; exact e3) (by omega) (by omega) (by omega) (by omega) (by omega)).mono fun p H' hp => ?_)
    subst hp
    refine ⟨rfl, by simp [alook, aput], ⟨[.row 1 [.ptr (H.length + 3) 1]], ?_⟩, rfl⟩
    rw [Fw.set_at, List.set_append_left _ _ hnm, ← e5]
    simp [numZ]
  refine awp_seq ?_
  refine awp_cut [2, 3, 4, 5, 6] [.ptr H.length 0, .ptr (H.length + 1) 0, .ptr (H.length + 2) 0, .ptr (H.length + 3) 0, .func (.func 58) [] [.ptr (H.length + 1) 0]] (H.set nb (.box [.int .i64 (if K = 2 then nx (nx n) else if K = 3 then nx (nx (nx n)) else nx n)]) ++ [Blk.box s.enc, Blk.box [.ptr nb 0], Blk.box [.int .i64 0, .int .i64 0, .int .i64 0, .int .i64 0, .int .i64 0, .vec [] true], Blk.box (tb [K, n, if K = 2 then nx n else 0, if K = 3 then nx n else 0, if K = 3 then nx (nx n) else 0] nilv)]) (hbdA _ _) (by simp [PV.bdL, PV.bd]) (by simp) ?_ ?_
  · obtain ⟨Hm, e1, e2, e3, e4, e5⟩ := stage (nx n) hnm hbd
    rw [← e1, e2]
    rw [e2] at hnm
    refine awp_seq ?_
    -- region 6
    refine awp_run rfl (by simp only [fwA, ↓reduceIte, Nat.reduceAdd, Nat.reduceMul, Nat.reduceEqDiff, Nat.reduceLT, Nat.reduceLeDiff, reduceCtorEq, tb, ti31, fl31_1, ti28, fl31_0, ti3, fl31_2, fl31_3, fl31_4, fl31_5, ti29, un29, el29, pl31, ti26, fl26_0, fl26_2, ti24, un24, el24, ti85, Sh.fw, Ty.fw] <;> rfl) ?_
    refine awp_heap (H' := Hm ++ [Blk.box s.enc, Blk.box [.ptr nb 0], Blk.box [.int .i64 0, .int .i64 0, .int .i64 0, .int .i64 0, .int .i64 0, .vec [] true], Blk.box (tb [K, n, 0, 0, 0] nilv)]) rfl ?_
    refine awp_block ?_
    refine awp_seq ?_
    -- region 7
    refine awp_run rfl (by simp only [fwA, ↓reduceIte, Nat.reduceAdd, Nat.reduceMul, Nat.reduceEqDiff, Nat.reduceLT, Nat.reduceLeDiff, reduceCtorEq] <;> rfl) ?_
    refine awp_cond (by simp only [fwA, ↓reduceIte, Nat.reduceAdd, Nat.reduceMul, Nat.reduceEqDiff, Nat.reduceLT, Nat.reduceLeDiff, reduceCtorEq] <;> rfl) ?_
    by_cases k2 : K = 2
    · subst k2
      simp only [decide_true, ↓reduceIte]
      -- region 8
      refine awp_region rfl ?_
      refine aops_run 2 (by simp only [fwA, ↓reduceIte, Nat.reduceAdd, Nat.reduceMul, Nat.reduceEqDiff, Nat.reduceLT, Nat.reduceLeDiff, reduceCtorEq, ti31, fl31_1, ti28, fl31_0, ti3, fl31_2, fl31_3, fl31_4, fl31_5, ti29, un29, el29, pl31, ti26, fl26_0, fl26_2, ti24, un24, el24, ti85, Sh.fw, Ty.fw] <;> rfl) ?_
      refine aops_one rfl (os_bsliceR (cs := [.ptr (Hm.length + 3) 2]) rfl un99 ti100 (by decide) (by decide) (by simp only [fwA, ↓reduceIte, Nat.reduceAdd, Nat.reduceMul, Nat.reduceEqDiff, Nat.reduceLT, Nat.reduceLeDiff, reduceCtorEq] <;> rfl) ?_)
      rw [show (Hm ++ [Blk.box s.enc, Blk.box [.ptr nb 0], Blk.box [.int .i64 0, .int .i64 0, .int .i64 0, .int .i64 0, .int .i64 0, .vec [] true], Blk.box (tb [2, n, 0, 0, 0] nilv)]).length = Hm.length + 4 from by simp, List.append_assoc]
      refine aops_call rfl rfl rfl en58 ((c58 Γ [2] [2, n, 0, 0, 0] nilv (Hm.length + 3) (Hm.length + 4) (Hm.length + 1) nb (nx n) _ (by simp) (by simp) (by simp) (by simp only [fwA, ↓reduceIte, Nat.reduceAdd, Nat.reduceMul, Nat.reduceEqDiff, Nat.reduceLT, Nat.reduceLeDiff, reduceCtorEq] <;> rfl) (by simp only [fwA, ↓reduceIte, Nat.reduceAdd, Nat.reduceMul, Nat.reduceEqDiff, Nat.reduceLT, Nat.reduceLeDiff, reduceCtorEq]) (by simp only [fwA, ↓reduceIte, Nat.reduceAdd, Nat.reduceMul, Nat.reduceEqDiff, Nat.reduceLT, Nat.reduceLeDiff, reduceCtorEq]) (by rw [List.getElem?_append_left hnm]; exact e3) (by omega) (by omega) (by omega) (by omega) (by omega)).mono fun p H' hp => ?_)
      subst hp
      refine ⟨rfl, by simp [alook, aput], ⟨[.row 1 [.ptr (Hm.length + 3) 2]], ?_⟩, rfl⟩
      rw [Fw.set_at, List.set_append_left _ _ hnm, ← e5]
      simp [numZ]
    simp only [k2, decide_false, Bool.false_eq_true, ↓reduceIte]
    refine awp_seq ?_
    -- region 9
    refine awp_run rfl (by simp only [fwA, ↓reduceIte, Nat.reduceAdd, Nat.reduceMul, Nat.reduceEqDiff, Nat.reduceLT, Nat.reduceLeDiff, reduceCtorEq] <;> rfl) ?_
    refine awp_cond (by simp only [fwA, ↓reduceIte, Nat.reduceAdd, Nat.reduceMul, Nat.reduceEqDiff, Nat.reduceLT, Nat.reduceLeDiff, reduceCtorEq] <;> rfl) ?_
    by_cases k3 : K = 3
    · subst k3
      simp only [decide_true, ↓reduceIte]
      -- region 10
      refine awp_region rfl ?_
      refine aops_run 3 (by simp only [fwA, ↓reduceIte, Nat.reduceAdd, Nat.reduceMul, Nat.reduceEqDiff, Nat.reduceLT, Nat.reduceLeDiff, reduceCtorEq, ti31, fl31_1, ti28, fl31_0, ti3, fl31_2, fl31_3, fl31_4, fl31_5, ti29, un29, el29, pl31, ti26, fl26_0, fl26_2, ti24, un24, el24, ti85, Sh.fw, Ty.fw] <;> rfl) ?_
      refine aops_one rfl (os_bsliceR (cs := [.ptr (Hm.length + 3) 3, .ptr (Hm.length + 3) 4]) rfl un99 ti100 (by decide) (by decide) (by simp only [fwA, ↓reduceIte, Nat.reduceAdd, Nat.reduceMul, Nat.reduceEqDiff, Nat.reduceLT, Nat.reduceLeDiff, reduceCtorEq] <;> rfl) ?_)
      rw [show (Hm ++ [Blk.box s.enc, Blk.box [.ptr nb 0], Blk.box [.int .i64 0, .int .i64 0, .int .i64 0, .int .i64 0, .int .i64 0, .vec [] true], Blk.box (tb [3, n, 0, 0, 0] nilv)]).length = Hm.length + 4 from by simp, List.append_assoc]
      refine aops_call rfl rfl rfl en58 ((c58 Γ [3, 4] [3, n, 0, 0, 0] nilv (Hm.length + 3) (Hm.length + 4) (Hm.length + 1) nb (nx n) _ (by simp) (by simp) (by simp) (by simp only [fwA, ↓reduceIte, Nat.reduceAdd, Nat.reduceMul, Nat.reduceEqDiff, Nat.reduceLT, Nat.reduceLeDiff, reduceCtorEq] <;> rfl) (by simp only [fwA, ↓reduceIte, Nat.reduceAdd, Nat.reduceMul, Nat.reduceEqDiff, Nat.reduceLT, Nat.reduceLeDiff, reduceCtorEq]) (by simp only [fwA, ↓reduceIte, Nat.reduceAdd, Nat.reduceMul, Nat.reduceEqDiff, Nat.reduceLT, Nat.reduceLeDiff, reduceCtorEq]) (by rw [List.getElem?_append_left hnm]; exact e3) (by omega) (by omega) (by omega) (by omega) (by omega)).mono fun p H' hp => ?_)
      subst hp
      refine ⟨rfl, by simp [alook, aput], ⟨[.row 1 [.ptr (Hm.length + 3) 3, .ptr (Hm.length + 3) 4]], ?_⟩, rfl⟩
      rw [Fw.set_at, List.set_append_left _ _ hnm, ← e5]
      simp [numZ]
    · simp only [k3, decide_false, Bool.false_eq_true, ↓reduceIte]
      refine awp_skip ?_
      exact ⟨rfl, rfl, ⟨[], by rw [List.append_nil, e1]⟩, rfl⟩
  generalize (if K = 2 then nx (nx n) else if K = 3 then nx (nx (nx n)) else nx n) = m0 at hfg ⊢
  generalize (if K = 2 then nx n else 0) = vc at hfg ⊢
  generalize (if K = 3 then nx n else 0) = vp at hfg ⊢
  generalize (if K = 3 then nx (nx n) else 0) = vx at hfg ⊢
  rw [hfg]
  dsimp only
  refine awp_seq ?_
  refine awp_seq ?_
  refine awp_heap (H' := H.set nb (.box [.int .i64 m0]) ++ [Blk.box s.enc, Blk.box [.ptr nb 0], Blk.box [.int .i64 0, .int .i64 0, .int .i64 0, .int .i64 0, .int .i64 0, .vec [] true], Blk.box [.int .i64 K, .int .i64 n, .int .i64 vc, .int .i64 vp, .int .i64 vx, .vec [] true]]) rfl ?_
  -- region 11
  obtain ⟨Hm, e1, e2, e4, e5, e6⟩ := stage m0 hnm hbd
  rw [← e1, e2]
  refine awp_run rfl (by simp only [fwA, ↓reduceIte, Nat.reduceAdd, Nat.reduceMul, Nat.reduceEqDiff, Nat.reduceLT, Nat.reduceLeDiff, reduceCtorEq, ti31, fl31_1, ti28, fl31_0, ti3, fl31_2, fl31_3, fl31_4, fl31_5, ti29, un29, el29, pl31, ti26, fl26_0, fl26_2, ti24, un24, el24, ti85, Sh.fw, Ty.fw, List.length_map] <;> rfl) ?_
  refine awp_told (told_adoptBox (Hm.length + 3) 5 6 (by decide) (by simp only [fwA, ↓reduceIte, Nat.reduceAdd, Nat.reduceMul, Nat.reduceEqDiff, Nat.reduceLT, Nat.reduceLeDiff, reduceCtorEq] <;> rfl) rfl) ?_
  refine awp_block ?_
  refine awp_forG [3, 4, 5, 37, 38, 39] (fun i : Nat => [.ptr (H.length + 1) 0, .ptr (H.length + 2) 0, .ptr (H.length + 3) 0, .vec (s.kids.map Sh.enc) false, .int .i64 s.kids.length, .int .i64 (i : Int)])
    (fun i => H.set nb (.box [.int .i64 (Ty.freshs (s.kids.take i) m0).2]) ++ [Blk.box s.enc, Blk.box [.ptr nb 0], Blk.box [.int .i64 0, .int .i64 0, .int .i64 0, .int .i64 0, .int .i64 0, .vec [] true], Blk.box [.int .i64 K, .int .i64 n, .int .i64 vc, .int .i64 vp, .int .i64 vx, .row (H.length + 4) 0 i 6], Blk.row 6 ((Ty.freshs (s.kids.take i) m0).1.map Ty.enc).flatten])
    (fun i => s.kids.length - i) (fun i => i ≤ s.kids.length) 0 (by rw [e2]; rfl) (by
      rw [e2, List.take_zero, show (Ty.freshs [] m0) = ([], m0) from rfl, ← e1]
      simp only [fwA, ↓reduceIte, Nat.reduceAdd, Nat.reduceMul, Nat.reduceEqDiff, Nat.reduceLT, Nat.reduceLeDiff, reduceCtorEq] <;> rfl) (Nat.zero_le _) (fun i _ => ?_) (fun i _ b hb => by cases hb) fun i hi => ?_
  · obtain ⟨Hn, g1, g2, g3, g4, g5⟩ := stage (Ty.freshs (s.kids.take i) m0).2 hnm hbd
    rw [← g1, g2]
    rw [g2] at hnm
    exact ⟨bd_app g4 (by simp only [List.all_cons, List.all_nil, Blk.bd, Sh.bd, PV.bdL, PV.bd, List.length_append, List.length_cons, List.length_nil, flat_bd (enc := Ty.enc) (fun _ => Ty.bd _ _), Bool.and_true, Bool.true_and, decide_eq_true_eq, Bool.and_eq_true]; omega), by simp [PV.bdL, PV.bd]; try omega⟩
  rw [← e2]
  clear e1 e2 e4 e5 e6 Hm
  have hti : (Ty.freshs (s.kids.take i) m0).1.length = i := by rw [Ty.freshs_len]; simp; omega
  obtain ⟨Hm, e1, e2, e4, e5, e6⟩ := stage (Ty.freshs (s.kids.take i) m0).2 hnm hbd
  rw [← e1, e2]
  rw [e2] at hnm
  have hfull : i = s.kids.length → Ty.freshs (s.kids.take i) m0 = Ty.freshs s.kids m0 := fun h => by rw [h, List.take_length]
  have hstep : ∀ k, s.kids[i]? = some k → Ty.freshs (s.kids.take (i + 1)) m0 = ((Ty.freshs (s.kids.take i) m0).1 ++ [(Ty.fresh k (Ty.freshs (s.kids.take i) m0).2).1], (Ty.fresh k (Ty.freshs (s.kids.take i) m0).2).2) := fun k hk => by
    rw [List.take_add_one, hk]; exact freshs_snoc _ _ _
  generalize Ty.freshs (s.kids.take i) m0 = F at hti e1 e4 hfull hstep ⊢
  obtain ⟨fs, m⟩ := F
  dsimp only at hti e1 e4 hfull hstep ⊢
  refine awp_seq ?_
  refine awp_run rfl (by simp only [fwA, ↓reduceIte, Nat.reduceAdd, Nat.reduceMul, Nat.reduceEqDiff, Nat.reduceLT, Nat.reduceLeDiff, reduceCtorEq] <;> rfl) ?_
  refine awp_seq ?_
  refine awp_cond (by simp only [fwA, ↓reduceIte, Nat.reduceAdd, Nat.reduceMul, Nat.reduceEqDiff, Nat.reduceLT, Nat.reduceLeDiff, reduceCtorEq] <;> rfl) ?_
  have hl : ((fs.map Ty.enc).flatten).length = i * 6 := by rw [flat_len Ty.enc_len, hti]
  by_cases hc : (i : Int) < s.kids.length
  rotate_left
  · simp only [hc, decide_false, Bool.false_eq_true, ↓reduceIte]
    refine awp_exit ?_
    have hi' : i = s.kids.length := by omega
    rw [← hfull hi']
    refine awp_told (told_freezeAt Hm _ 4 (C := (fs.map Ty.enc).flatten) rfl (flat_bd (fun t => by simp only [Ty.fw]) _)) ?_
    have hch : chunk 6 i ((fs.map Ty.enc).flatten) = fs.map Ty.enc := by
      have := flat_chunk Ty.enc_len fs
      rwa [hti] at this
    refine awp_seq (awp_run rfl (by simp only [fwA, ↓reduceIte, Nat.reduceAdd, Nat.reduceMul, Nat.reduceEqDiff, Nat.reduceLT, Nat.reduceLeDiff, reduceCtorEq, ti31, fl31_1, ti28, fl31_0, ti3, fl31_2, fl31_3, fl31_4, fl31_5, ti29, un29, el29, pl31, ti26, fl26_0, fl26_2, ti24, un24, el24, ti85, Sh.fw, Ty.fw, hl, hch] <;> rfl) (awp_ret ?_))
    refine calls_end _ (.inl rfl) e5 (p := .agg (Ty.mk K n vc vp vx fs).enc) ?_ (Ty.bd _ _) ⟨rfl, e1⟩
    simp only [fwA, ↓reduceIte, Nat.reduceAdd, Nat.reduceMul, Nat.reduceEqDiff, Nat.reduceLT, Nat.reduceLeDiff, reduceCtorEq, ares, aresL, ares1, Tryd.f40, ti31]
    rw [Ty.enc_eq (Ty.mk _ _ _ _ _ _)]
    rfl
  simp only [hc, decide_true, ↓reduceIte]
  refine awp_skip ?_
  have hia : i < s.kids.length := by omega
  have ga : s.kids[i]? = some s.kids[i] := List.getElem?_eq_getElem hia
  have ihk := ih s.kids[i] (List.getElem_mem hia) (by have := sh_w_kid (List.getElem_mem hia); omega) m nb
  have hst := hstep _ ga
  generalize Ty.fresh s.kids[i] m = r at ihk hst
  obtain ⟨rt, rm⟩ := r
  dsimp only at ihk hst
  have hfl : ((fs ++ [rt]).map Ty.enc).flatten = (fs.map Ty.enc).flatten ++ rt.enc := by simp
  generalize (fs.map Ty.enc).flatten = F at hl hfl ⊢
  refine awp_seq ?_
  refine awp_block ?_
  refine awp_seq ?_
  -- region 13
  refine awp_run rfl (by simp only [fwA, ↓reduceIte, Nat.reduceAdd, Nat.reduceMul, Nat.reduceEqDiff, Nat.reduceLT, Nat.reduceLeDiff, reduceCtorEq, ti31, fl31_1, ti28, fl31_0, ti3, fl31_2, fl31_3, fl31_4, fl31_5, ti29, un29, el29, pl31, ti26, fl26_0, fl26_2, ti24, un24, el24, ti85, Sh.fw, Ty.fw, List.getElem?_map, ga, Option.map_some, Int.natCast_nonneg] <;> rfl) ?_
  -- region 14 drawn
  refine awp_drawnX (some (Hm.length + 3)) [0, 5, 4, 4, 7, 0, 0, 2, 7, 7, 0, 5] [0, 1, 0, 0, 12, 3, 0, 127, 255, 511, 255, 1279] mixed rfl (by kernel_rfl) ?_
  refine dops_run 1 (by simp only [fwA, ↓reduceIte, Nat.reduceAdd, Nat.reduceMul, Nat.reduceEqDiff, Nat.reduceLT, Nat.reduceLeDiff, reduceCtorEq, ti31, fl31_1, ti28, fl31_0, ti3, fl31_2, fl31_3, fl31_4, fl31_5, ti29, un29, el29, pl31, ti26, fl26_0, fl26_2, ti24, un24, el24, ti85, Sh.fw, Ty.fw] <;> rfl) ?_
  refine dops_loadX (b := Hm.length + 3) (q := 5) (p := .row (Hm.length + 4) 0 i 6) (cs := [.int .i64 K, .int .i64 n, .int .i64 vc, .int .i64 vp, .int .i64 vx, .row (Hm.length + 4) 0 i 6]) rfl rfl rfl ti29 rfl (by simp only [fwA, ↓reduceIte, Nat.reduceAdd, Nat.reduceMul, Nat.reduceEqDiff, Nat.reduceLT, Nat.reduceLeDiff, reduceCtorEq] <;> rfl) rfl rfl (by simp) ?_
  refine dops_run 2 (by simp only [fwA, ↓reduceIte, Nat.reduceAdd, Nat.reduceMul, Nat.reduceEqDiff, Nat.reduceLT, Nat.reduceLeDiff, reduceCtorEq, ti31, fl31_1, ti28, fl31_0, ti3, fl31_2, fl31_3, fl31_4, fl31_5, ti29, un29, el29, pl31, ti26, fl26_0, fl26_2, ti24, un24, el24, ti85, Sh.fw, Ty.fw, View.vw, List.take_length] <;> rfl) ?_
  refine dops_turn7 (b := nb) (B := .box [.int .i64 rm]) (p := .agg rt.enc) rfl rfl rfl rfl en40 (by simp; omega) (by simp; omega) (fun H2 k1 k2 => ihk H2 (by rw [k2, List.getElem?_append_left hnm]; exact e4)) ?_
  rw [List.set_append_left _ _ hnm]
  have e7 : Hm.length = (Hm.set nb (.box [.int .i64 rm])).length := by rw [List.length_set]
  generalize hHq : Hm.set nb (.box [.int .i64 rm]) = Hq at e7 ⊢
  rw [e7]
  refine dops_run 2 (by simp only [fwA, ↓reduceIte, Nat.reduceAdd, Nat.reduceMul, Nat.reduceEqDiff, Nat.reduceLT, Nat.reduceLeDiff, reduceCtorEq, ti31, fl31_1, ti28, fl31_0, ti3, fl31_2, fl31_3, fl31_4, fl31_5, ti29, un29, el29, pl31, ti26, fl26_0, fl26_2, ti24, un24, el24, ti85, Sh.fw, Ty.fw, zc31] <;> rfl) ?_
  refine dops_appendR (q := 0) (k := i) (cs := F) rfl rfl rfl un29 ti31 un29 (.inl ⟨_, rfl⟩) rfl (by simp only [fwA, ↓reduceIte, Nat.reduceAdd, Nat.reduceMul, Nat.reduceEqDiff, Nat.reduceLT, Nat.reduceLeDiff, reduceCtorEq] <;> rfl) (by rw [hl]; exact (Nat.zero_add _).symm) rfl
    (fun es f h e he => by
      simp only [fwA, ↓reduceIte, Nat.reduceAdd, Nat.reduceMul, Nat.reduceEqDiff, Nat.reduceLT, Nat.reduceLeDiff, reduceCtorEq, PV.vec.injEq] at h
      obtain ⟨rfl, rfl⟩ := h
      simp only [List.mem_singleton] at he
      subst he; rfl) rfl (by show (i + 1) * 64 ≤ _; omega) (by show i + 1 ≤ _; omega) ?_
  refine dops_index7 rfl rfl rfl el29 rfl rfl (by simp only [fwA, ↓reduceIte, Nat.reduceAdd, Nat.reduceMul, Nat.reduceEqDiff, Nat.reduceLT, Nat.reduceLeDiff, reduceCtorEq] <;> rfl) (by simp [hl]; omega) (Int.natCast_nonneg _) (by show (i : Int) < ((i + 1 : Nat) : Int); omega) (by simp) ?_
  refine dops_storeE7 rfl rfl rfl ti31 rfl (by simp only [fwA, ↓reduceIte, Nat.reduceAdd, Nat.reduceMul, Nat.reduceEqDiff, Nat.reduceLT, Nat.reduceLeDiff, reduceCtorEq] <;> rfl) rfl rfl (by simp [fwA, ↓reduceIte, Nat.reduceAdd, Nat.reduceMul, Nat.reduceEqDiff, Nat.reduceLT, Nat.reduceLeDiff, reduceCtorEq, Ty.fw]) (by simp [hl]) (by decide) (by simp) ?_
  refine dops_run 1 (by simp only [fwA, ↓reduceIte, Nat.reduceAdd, Nat.reduceMul, Nat.reduceEqDiff, Nat.reduceLT, Nat.reduceLeDiff, reduceCtorEq, ti31, fl31_1, ti28, fl31_0, ti3, fl31_2, fl31_3, fl31_4, fl31_5, ti29, un29, el29, pl31, ti26, fl26_0, fl26_2, ti24, un24, el24, ti85, Sh.fw, Ty.fw] <;> rfl) ?_
  refine dops_storeB rfl rfl rfl ti29 rfl (by simp only [fwA, ↓reduceIte, Nat.reduceAdd, Nat.reduceMul, Nat.reduceEqDiff, Nat.reduceLT, Nat.reduceLeDiff, reduceCtorEq] <;> rfl) rfl rfl (by show 5 + 1 ≤ 6; decide) rfl (by simp; omega) ?_
  refine dops_end ?_
  refine awp_run rfl (by simp only [fwA, ↓reduceIte, Nat.reduceAdd, Nat.reduceMul, Nat.reduceEqDiff, Nat.reduceLT, Nat.reduceLeDiff, reduceCtorEq] <;> rfl) ?_
  refine ⟨i + 1, [.box s.kids[i].enc], by omega, by omega, by rw [wrapS i (by omega)]; rfl, ?_, rfl, by simp; omega⟩
  rw [hst, e6, hHq]
  dsimp only
  rw [hfl]
  simp
  rw [List.take_left' hl, List.drop_eq_nil_of_le (by simp [hl]), List.append_nil]

end Go.Proofs.YtlnffadolfkggaaDoor
