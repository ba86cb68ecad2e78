/- The contracts of the program's places. -/
import Derived.Test.YtlnffadolfkggaaDoorWE
namespace Go.Proofs.YtlnffadolfkggaaDoor
set_option linter.unusedVariables false
set_option linter.unusedSimpArgs false
set_option maxRecDepth 100000
open Go.RowKit Fw

/-- The end of a function that leaves these blocks, with others behind them. -/
theorem calls_cut {P : Program} {Γ : Nat → PV} {fn : Func} {n : Nat} {p : PV} {R : PV → List Blk → Prop} {A' : List (Nat × PV)} (H1 L : List Blk) {e : Exit} (he : e = .ret ∨ e = .normal) (hbd : ∀ B ∈ H1, B.bd H1.length = true) (h : ares P Γ A' (H1 ++ L) fn.results.toList = some p) (hp : p.bd H1.length = true) (hn : n ≤ H1.length) (hR : R p H1) :
    RetQ P Γ fn n R e A' (H1 ++ L) [] := by
  have ht : (H1 ++ L).take H1.length = H1 := List.take_left' rfl
  exact ⟨he, List.nodup_nil, (fun b hb => by cases hb), p, H1.length, h, hn, by simp, fun b hb => (by cases hb), hp, by rw [ht]; exact hbd, by rw [ht]; exact hR⟩

theorem blk_mono {m n : Nat} (hm : m ≤ n) {B : Blk} (h : B.bd m = true) : B.bd n = true := bd_app.Blk.bd_mono hm h

/-- A loop's record, and what each of its rounds does, that never ends it. -/
def Rounds (Γ : Nat → PV) (l n0 : Nat) (xs : List (List PV)) (Inv : Nat → List Blk → Prop) : Prop :=
  ∀ i Hb, Inv i Hb → (∀ B ∈ Hb, B.bd Hb.length = true) ∧ Hb.length = n0 ∧ ∃ rec cs, Hb[l]? = some (.loop rec cs) ∧ rec.params.size = 1 ∧
    ∀ x E, xs[i]? = some x → ARound Tryd.prog Γ l rec x (Hb ++ E) (fun b H' => ∃ Hb', H' = Hb' ++ E ∧ b = true ∧ Inv (i + 1) Hb')

/-- chancel/ltype.Type.each's test -/
theorem c72 (Γ : Nat → PV) (x : Ty) (l d1 : Nat) (H : List Blk) (R : List Blk → Prop) (hb : H[d1]? = some (.box [.yld l]))
    (h : ACalls Tryd.prog Γ 61 [.agg x.enc, .yld l] (H ++ [.box x.enc]) (fun p H' => ∃ H1, H' = H1 ++ [.box x.enc] ∧ p = .bool true ∧ R H1 ∧ H.length ≤ H1.length ∧ ∀ B ∈ H1, B.bd H1.length = true)) :
    ACalls Tryd.prog Γ 72 [.agg x.enc, .ptr d1 0] H (fun p H' => p = .bool false ∧ R H') := by
  have hd1 := (List.getElem?_eq_some_iff.1 hb).1
  have hb' : (H ++ [.box x.enc])[d1]? = some (.box [.yld l]) := by rw [List.getElem?_append_left hd1]; exact hb
  refine acalls_of_awp Tryd.func72 rfl (by simp [Tryd.f72]) fun hbd => ?_
  refine awp_seq ?_
  refine awp_run rfl (by simp only [fwA, ↓reduceIte, Nat.reduceAdd, Nat.reduceMul, Nat.reduceEqDiff, Nat.reduceLT, Nat.reduceLeDiff, reduceCtorEq] <;> rfl) ?_
  refine awp_seq ?_
  refine awp_region rfl ?_
  refine aops_run 2 (by simp only [fwA, ↓reduceIte, Nat.reduceAdd, Nat.reduceMul, Nat.reduceEqDiff, Nat.reduceLT, Nat.reduceLeDiff, reduceCtorEq, ti31, fl31_1, ti28, fl31_0, ti3, fl31_2, fl31_3, fl31_4, fl31_5, ti29, un29, el29, un42, Ty.fw, ti107, hb'] <;> rfl) ?_
  refine aops_call rfl rfl rfl en61 (h.mono fun p H' hp => ?_)
  obtain ⟨H1, rfl, rfl, hR, hn, hbd1⟩ := hp
  refine aops_run 2 (by simp only [fwA, ↓reduceIte, Nat.reduceAdd, Nat.reduceMul, Nat.reduceEqDiff, Nat.reduceLT, Nat.reduceLeDiff, reduceCtorEq] <;> rfl) ?_
  refine awp_ret ?_
  exact calls_cut (p := .bool false) H1 _ (.inl rfl) hbd1 rfl rfl hn ⟨rfl, hR⟩

theorem look3 {n0 k : Nat} {Hb E L : List Blk} (h : Hb.length = n0) : (Hb ++ (E ++ L))[n0 + E.length + k]? = L[k]? := by
  rw [List.getElem?_append_right (by omega), List.getElem?_append_right (by omega)]
  congr 1; omega

theorem row_int {js : List Int} {i : Nat} {j : Int} (h : js[i]? = some j) : ((((js.map I1).flatten)).drop (0 + (i : Int).toNat * 1))[0]? = some (.int .i64 j) := by
  rw [List.getElem?_drop, Int.toNat_natCast, Nat.zero_add, Nat.mul_one, Nat.add_zero]
  have e : (js.map I1).flatten = js.map (fun n => PV.int .i64 n) := by
    clear h
    induction js with
    | nil => rfl
    | cons x js ih => simp only [List.map_cons, List.flatten_cons, ih]; rfl
  rw [e, List.getElem?_map, h]; rfl

/-- chancel/ltype.Type.each -/
theorem c61 (Γ : Nat → PV) : ∀ t : Ty, t.w ≤ 1000000000 → ∀ (l n0 : Nat) (Inv : Nat → List Blk → Prop), Rounds Γ l n0 (t.places.map I1) Inv → ∀ Hb E, Inv 0 Hb → (∀ B ∈ E, B.bd (n0 + E.length) = true) →
    ACalls Tryd.prog Γ 61 [.agg t.enc, .yld l] (Hb ++ E) (fun p H' => ∃ Hb', H' = Hb' ++ E ∧ p = .bool true ∧ Inv t.places.length Hb') := by
  refine Ty.ind fun t ih hw l n0 Inv hI Hb E hInv hE => ?_
  obtain ⟨hb0, hn0, rec0, cs0, hl0, hpar0, _⟩ := hI 0 Hb hInv
  have hln0 : l < n0 := by have := (List.getElem?_eq_some_iff.1 hl0).1; omega
  refine acalls_of_awp Tryd.func61 rfl (by simp [Tryd.f61]) fun hbd => ?_
  have hKl : (Hb ++ E).length = n0 + E.length := by rw [List.length_append, hn0]
  rw [hKl]
  have hlk : ∀ L : List Blk, (Hb ++ E) ++ L = Hb ++ (E ++ L) := fun L => List.append_assoc _ _ _
  generalize hK : Hb ++ E = K at hKl hlk ⊢
  refine awp_seq ?_
  -- region 0
  refine awp_run rfl (by simp only [fwA, ↓reduceIte, Nat.reduceAdd, Nat.reduceMul, Nat.reduceEqDiff, Nat.reduceLT, Nat.reduceLeDiff, reduceCtorEq] <;> rfl) ?_
  refine awp_seq ?_
  -- region 1
  refine awp_region rfl ?_
  refine aops_run 2 (by simp only [fwA, ↓reduceIte, Nat.reduceAdd, Nat.reduceMul, Nat.reduceEqDiff, Nat.reduceLT, Nat.reduceLeDiff, reduceCtorEq, ti31, fl31_1, ti28, fl31_0, ti3, fl31_2, fl31_3, fl31_4, fl31_5, ti29, un29, el29, un42, Ty.fw] <;> rfl) ?_
  refine aops_one rfl (os_bsliceR (cs := [.int .i64 t.l]) rfl un42 ti28 (by decide) (by decide) (by simp only [fwA, ↓reduceIte, Nat.reduceAdd, Nat.reduceMul, Nat.reduceEqDiff, Nat.reduceLT, Nat.reduceLeDiff, reduceCtorEq] <;> rfl) ?_)
  refine aops_run 1 (by simp only [fwA, ↓reduceIte, Nat.reduceAdd, Nat.reduceMul, Nat.reduceEqDiff, Nat.reduceLT, Nat.reduceLeDiff, reduceCtorEq] <;> rfl) ?_
  refine awp_keep (A' := [(2, .ptr K.length 0), (3, .ptr (K.length + 1) 0), (5, .row (K.length + 2) 0 1 1)]) [2, 3, 5] (by simp [akeep, alook, aput, ev]) ?_
  refine awp_heap (H' := K ++ [.box t.enc, .box [.yld l], .row 1 (([t.l].map I1).flatten)]) (by simp [I1, PV.cells]) ?_
  refine awp_seq ?_
  refine AWP.mono (Q := fun e A' H' D' => e = .normal ∧ akeep [2, 3, 5] A' = [(2, .ptr K.length 0), (3, .ptr (K.length + 1) 0), (5, .row (K.length + 2) 0 t.own.length 1)] ∧ H' = K ++ [.box t.enc, .box [.yld l], .row 1 ((t.own.map I1).flatten)] ∧ D' = []) ?_ fun e A' H' D' hq => ?_
  · refine awp_seq ?_
    -- region 2
    refine awp_run rfl (by simp only [fwA, ↓reduceIte, Nat.reduceAdd, Nat.reduceMul, Nat.reduceEqDiff, Nat.reduceLT, Nat.reduceLeDiff, reduceCtorEq, ti31, fl31_1, ti28, fl31_0, ti3, fl31_2, fl31_3, fl31_4, fl31_5, ti29, un29, el29, un42, Ty.fw] <;> rfl) ?_
    refine awp_block ?_
    refine awp_seq ?_
    refine awp_run rfl (by simp only [fwA, ↓reduceIte, Nat.reduceAdd, Nat.reduceMul, Nat.reduceEqDiff, Nat.reduceLT, Nat.reduceLeDiff, reduceCtorEq] <;> rfl) ?_
    refine awp_cond (by simp only [fwA, ↓reduceIte, Nat.reduceAdd, Nat.reduceMul, Nat.reduceEqDiff, Nat.reduceLT, Nat.reduceLeDiff, reduceCtorEq] <;> rfl) ?_
    by_cases k2 : t.kind = 2
    · simp only [k2, decide_true, ↓reduceIte]
      have ho : t.own = [t.l] ++ [t.c] := by unfold Ty.own; rw [if_pos k2]; rfl
      refine awp_region rfl ?_
      refine aops_run 4 (by simp only [fwA, ↓reduceIte, Nat.reduceAdd, Nat.reduceMul, Nat.reduceEqDiff, Nat.reduceLT, Nat.reduceLeDiff, reduceCtorEq, ti31, fl31_1, ti28, fl31_0, ti3, fl31_2, fl31_3, fl31_4, fl31_5, ti29, un29, el29, un42, Ty.fw] <;> rfl) ?_
      refine aops_one rfl (os_appendR (b := K.length + 2) (q := 0) (k := 1) (cs := ([t.l].map I1).flatten) rfl un42 ti28 un42 (.inl ⟨_, rfl⟩) rfl (by simp only [fwA, ↓reduceIte, Nat.reduceAdd, Nat.reduceMul, Nat.reduceEqDiff, Nat.reduceLT, Nat.reduceLeDiff, reduceCtorEq] <;> rfl) (flatI_len _) rfl (fun es f h e he => by
          simp only [fwA, ↓reduceIte, Nat.reduceAdd, Nat.reduceMul, Nat.reduceEqDiff, Nat.reduceLT, Nat.reduceLeDiff, reduceCtorEq, PV.vec.injEq] at h
          obtain ⟨rfl, rfl⟩ := h
          simp only [List.mem_cons, List.not_mem_nil, or_false] at he
          subst he; rfl) rfl (by show (1 + 1) * 8 ≤ _; decide) (by show 1 + 1 ≤ _; decide) ?_)
      refine aops_run 1 (by simp only [fwA, ↓reduceIte, Nat.reduceAdd, Nat.reduceMul, Nat.reduceEqDiff, Nat.reduceLT, Nat.reduceLeDiff, reduceCtorEq] <;> rfl) ?_
      refine ⟨rfl, by rw [ho]; rfl, ?_, rfl⟩
      rw [ho]; simp [I1]
    simp only [k2, decide_false, Bool.false_eq_true, ↓reduceIte]
    refine awp_seq ?_
    refine awp_run rfl (by simp only [fwA, ↓reduceIte, Nat.reduceAdd, Nat.reduceMul, Nat.reduceEqDiff, Nat.reduceLT, Nat.reduceLeDiff, reduceCtorEq] <;> rfl) ?_
    refine awp_cond (by simp only [fwA, ↓reduceIte, Nat.reduceAdd, Nat.reduceMul, Nat.reduceEqDiff, Nat.reduceLT, Nat.reduceLeDiff, reduceCtorEq] <;> rfl) ?_
    by_cases k3 : t.kind = 3
    · simp only [k3, decide_true, ↓reduceIte]
      have ho : t.own = [t.l] ++ [t.pc, t.x] := by unfold Ty.own; rw [if_neg k2, if_pos k3]; rfl
      refine awp_region rfl ?_
      refine aops_run 6 (by simp only [fwA, ↓reduceIte, Nat.reduceAdd, Nat.reduceMul, Nat.reduceEqDiff, Nat.reduceLT, Nat.reduceLeDiff, reduceCtorEq, ti31, fl31_1, ti28, fl31_0, ti3, fl31_2, fl31_3, fl31_4, fl31_5, ti29, un29, el29, un42, Ty.fw] <;> rfl) ?_
      refine aops_one rfl (os_appendR (b := K.length + 2) (q := 0) (k := 1) (cs := ([t.l].map I1).flatten) rfl un42 ti28 un42 (.inl ⟨_, rfl⟩) rfl (by simp only [fwA, ↓reduceIte, Nat.reduceAdd, Nat.reduceMul, Nat.reduceEqDiff, Nat.reduceLT, Nat.reduceLeDiff, reduceCtorEq] <;> rfl) (flatI_len _) rfl (fun es f h e he => by
          simp only [fwA, ↓reduceIte, Nat.reduceAdd, Nat.reduceMul, Nat.reduceEqDiff, Nat.reduceLT, Nat.reduceLeDiff, reduceCtorEq, PV.vec.injEq] at h
          obtain ⟨rfl, rfl⟩ := h
          simp only [List.mem_cons, List.not_mem_nil, or_false] at he
          rcases he with rfl | rfl <;> rfl) rfl (by show (1 + 2) * 8 ≤ _; decide) (by show 1 + 2 ≤ _; decide) ?_)
      refine aops_run 1 (by simp only [fwA, ↓reduceIte, Nat.reduceAdd, Nat.reduceMul, Nat.reduceEqDiff, Nat.reduceLT, Nat.reduceLeDiff, reduceCtorEq] <;> rfl) ?_
      refine ⟨rfl, by rw [ho]; rfl, ?_, rfl⟩
      rw [ho]; simp [I1]
    · simp only [k3, decide_false, Bool.false_eq_true, ↓reduceIte]
      have ho : t.own = [t.l] := by unfold Ty.own; rw [if_neg k2, if_neg k3]
      refine awp_skip ?_
      rw [ho]
      exact ⟨rfl, rfl, rfl, rfl⟩
  obtain ⟨rfl, hA, rfl, rfl⟩ := hq
  refine awp_keep _ hA ?_
  have hpe := Ty.places_eq t
  have hol : t.own.length ≤ 3 := by unfold Ty.own; split <;> (try split) <;> simp
  rw [hlk, hKl]
  generalize hL : [Blk.box t.enc, Blk.box [.yld l], Blk.row 1 ((t.own.map I1).flatten)] = L
  have hLn : L.length = 3 := by rw [← hL]; rfl
  have hEL : ∀ B ∈ E ++ L, B.bd (n0 + (E ++ L).length) = true := fun B hB => by
    rw [List.length_append, hLn]
    rcases List.mem_append.1 hB with hB | hB
    · exact blk_mono (by omega) (hE B hB)
    · rw [← hL] at hB
      simp only [List.mem_cons, List.not_mem_nil, or_false] at hB
      rcases hB with rfl | rfl | rfl
      · exact Ty.bd _ _
      · simp [Blk.bd, PV.bdL, PV.bd]; omega
      · exact flatI_bd _ _
  have l0 : ∀ {Hb' : List Blk}, Hb'.length = n0 → (Hb' ++ (E ++ L))[n0 + E.length]? = some (.box t.enc) := fun h => by have := look3 (k := 0) (E := E) (L := L) h; rw [Nat.add_zero] at this; rw [this, ← hL]; rfl
  have l1 : ∀ {Hb' : List Blk}, Hb'.length = n0 → (Hb' ++ (E ++ L))[n0 + E.length + 1]? = some (.box [.yld l]) := fun h => by rw [look3 (k := 1) (E := E) (L := L) h, ← hL]; rfl
  have l2 : ∀ {Hb' : List Blk}, Hb'.length = n0 → (Hb' ++ (E ++ L))[n0 + E.length + 2]? = some (.row 1 ((t.own.map I1).flatten)) := fun h => by rw [look3 (k := 2) (E := E) (L := L) h, ← hL]; rfl
  clear hA hL hK hlk hKl hbd K
  refine awp_seq ?_
  refine awp_seq ?_
  -- region 7
  refine awp_run rfl (by simp only [fwA, ↓reduceIte, Nat.reduceAdd, Nat.reduceMul, Nat.reduceEqDiff, Nat.reduceLT, Nat.reduceLeDiff, reduceCtorEq, un42] <;> rfl) ?_
  refine awp_block ?_
  refine awp_for [2, 3, 29, 30, 31] (fun s : Nat × List Blk => [.ptr (n0 + E.length) 0, .ptr (n0 + E.length + 1) 0, .row (n0 + E.length + 2) 0 t.own.length 1, .int .i64 t.own.length, .int .i64 (s.1 : Int)]) (fun s => s.2 ++ (E ++ L)) (fun s => t.own.length - s.1)
    (fun s => s.1 ≤ t.own.length ∧ Inv s.1 s.2) (0, Hb) rfl rfl ⟨Nat.zero_le _, hInv⟩ fun s hs => ?_
  obtain ⟨i, Hi⟩ := s
  obtain ⟨hi, hInvi⟩ := hs
  dsimp only at hi hInvi ⊢
  obtain ⟨hbi, hni, rec, cs, hli, hpar, hround⟩ := hI i Hi hInvi
  refine awp_seq ?_
  refine awp_run rfl (by simp only [fwA, ↓reduceIte, Nat.reduceAdd, Nat.reduceMul, Nat.reduceEqDiff, Nat.reduceLT, Nat.reduceLeDiff, reduceCtorEq] <;> rfl) ?_
  refine awp_seq ?_
  refine awp_cond (by simp only [fwA, ↓reduceIte, Nat.reduceAdd, Nat.reduceMul, Nat.reduceEqDiff, Nat.reduceLT, Nat.reduceLeDiff, reduceCtorEq] <;> rfl) ?_
  by_cases hc : (i : Int) < t.own.length
  rotate_left
  · simp only [hc, decide_false, Bool.false_eq_true, ↓reduceIte]
    refine awp_exit ?_
    have hi' : i = t.own.length := by omega
    subst hi'
    refine awp_seq ?_
    -- region 13
    refine awp_region rfl ?_
    refine aops_run 3 (by simp only [fwA, ↓reduceIte, Nat.reduceAdd, Nat.reduceMul, Nat.reduceEqDiff, Nat.reduceLT, Nat.reduceLeDiff, reduceCtorEq, ti31, fl31_1, ti28, fl31_0, ti3, fl31_2, fl31_3, fl31_4, fl31_5, ti29, un29, el29, un42, Ty.fw, l0 hni] <;> rfl) ?_
    refine aops_call rfl rfl rfl en47 ((c47 Γ 72 en72 [.ptr (n0 + E.length + 1) 0] t.kids
      (fun k H' => ∃ Hb', H' = Hb' ++ (E ++ L) ∧ Inv (t.own.length + ((t.kids.take k).map Ty.places).flatten.length) Hb') (fun _ _ => False) (fun k x H2 hx hS => ?_) _ ⟨Hi, rfl, by simpa using hInvi⟩).mono fun p H' hp => ?_)
    · obtain ⟨Hb2, rfl, hInv2⟩ := hS
      obtain ⟨hb2, hn2, _⟩ := hI _ _ hInv2
      have hxm := List.mem_of_getElem? hx
      have hfl : ((t.kids.take (k + 1)).map Ty.places).flatten = ((t.kids.take k).map Ty.places).flatten ++ x.places := by
        rw [List.take_add_one, hx, List.map_append, List.flatten_append]; simp
      have hpl : t.places = (t.own ++ ((t.kids.take k).map Ty.places).flatten) ++ (x.places ++ ((t.kids.drop (k + 1)).map Ty.places).flatten) := by
        rw [hpe]
        conv => lhs; rw [← List.take_append_drop (k + 1) t.kids, List.map_append, List.flatten_append, hfl]
        simp only [List.append_assoc]
      refine (c72 Γ x l (n0 + E.length + 1) (Hb2 ++ (E ++ L)) (fun H' => ∃ Hb', H' = Hb' ++ (E ++ L) ∧ Inv (t.own.length + ((t.kids.take (k + 1)).map Ty.places).flatten.length) Hb') (l1 hn2) ?_).mono fun p H' hp => .inl hp
      have := ih x hxm (by have := Ty.w_kid hxm; omega) l n0 (fun j => Inv (t.own.length + ((t.kids.take k).map Ty.places).flatten.length + j)) (fun j Hj hj => by
        obtain ⟨a1, a2, rc, cc, a3, a4, a5⟩ := hI _ Hj hj
        refine ⟨a1, a2, rc, cc, a3, a4, fun y F hy => a5 y F ?_⟩
        have hjl : j < x.places.length := by have := (List.getElem?_eq_some_iff.1 hy).1; simpa using this
        rw [List.getElem?_map] at hy ⊢
        rw [hpl, List.getElem?_append_right (by rw [List.length_append]; omega), List.getElem?_append_left (by rw [List.length_append]; omega)]
        rw [← hy]; congr 2; rw [List.length_append]; omega) Hb2 (E ++ L ++ [.box x.enc]) hInv2 (fun B hB => by
          rw [List.length_append]
          rcases List.mem_append.1 hB with hB | hB
          · exact blk_mono (by omega) (hEL B hB)
          · simp only [List.mem_singleton] at hB
            subst hB
            exact Ty.bd _ _)
      rw [List.append_assoc]
      refine this.mono fun p H' hp => ?_
      obtain ⟨Hb3, rfl, rfl, hInv3⟩ := hp
      obtain ⟨hb3, hn3, _⟩ := hI _ _ hInv3
      refine ⟨Hb3 ++ (E ++ L), by simp, rfl, ⟨Hb3, rfl, by rw [hfl, List.length_append, ← Nat.add_assoc]; exact hInv3⟩, by simp; omega, fun B hB => ?_⟩
      rw [List.length_append, hn3]
      rcases List.mem_append.1 hB with hB | hB
      · exact blk_mono (by omega) (hb3 B hB)
      · exact hEL B hB
    · obtain ⟨_, ⟨rfl, Hb2, rfl, hInv2⟩ | ⟨_, _, hf⟩⟩ := hp
      rotate_left
      · exact hf.elim
      rw [List.take_length, ← List.length_append, ← hpe] at hInv2
      obtain ⟨hb2, hn2, _⟩ := hI _ _ hInv2
      refine aops_run 2 (by simp only [fwA, ↓reduceIte, Nat.reduceAdd, Nat.reduceMul, Nat.reduceEqDiff, Nat.reduceLT, Nat.reduceLeDiff, reduceCtorEq] <;> rfl) ?_
      rw [← List.append_assoc]
      refine awp_ret ?_
      refine calls_cut (p := .bool true) (Hb2 ++ E) L (.inl rfl) (fun B hB => ?_) rfl rfl (by rw [List.length_append]; omega) ⟨Hb2, rfl, rfl, hInv2⟩
      rw [List.length_append, hn2]
      rcases List.mem_append.1 hB with hB | hB
      · exact blk_mono (by omega) (hb2 B hB)
      · exact hE B hB
  simp only [hc, decide_true, ↓reduceIte]
  refine awp_skip ?_
  have hia : i < t.own.length := by omega
  have ga : t.own[i]? = some t.own[i] := List.getElem?_eq_getElem hia
  have gx : (t.places.map I1)[i]? = some (I1 t.own[i]) := by rw [hpe, List.map_append, List.getElem?_append_left (by simpa using hia), List.getElem?_map, ga]; rfl
  refine awp_seq ?_
  refine awp_block ?_
  refine awp_seq ?_
  -- region 9
  refine awp_region rfl ?_
  refine aops_one rfl (os_index_row (sz := 1) rfl el42 rfl rfl (l2 hni) (by rw [flatI_len]) (Int.natCast_nonneg _) hc ?_)
  refine aops_one rfl (os_load (cs := (((t.own.map I1).flatten)).drop (0 + (i : Int).toNat * 1)) rfl ti28 (by simp only [fwA, ↓reduceIte, Nat.reduceAdd, Nat.reduceMul, Nat.reduceEqDiff, Nat.reduceLT, Nat.reduceLeDiff, reduceCtorEq, rd, l2 hni, if_pos]) (row_int ga) ?_)
  refine aops_run 1 (by simp only [fwA, ↓reduceIte, Nat.reduceAdd, Nat.reduceMul, Nat.reduceEqDiff, Nat.reduceLT, Nat.reduceLeDiff, reduceCtorEq] <;> rfl) ?_
  refine awp_seq ?_
  -- region 10
  refine awp_region rfl ?_
  refine aops_run 2 (by simp only [fwA, ↓reduceIte, Nat.reduceAdd, Nat.reduceMul, Nat.reduceEqDiff, Nat.reduceLT, Nat.reduceLeDiff, reduceCtorEq, ti107, l1 hni] <;> rfl) ?_
  have hlk : (Hi ++ (E ++ L))[l]? = some (.loop rec cs) := by rw [List.getElem?_append_left (by omega)]; exact hli
  refine aops_one rfl (os_yield rfl rfl hlk (by rw [hpar]; rfl) ((hround _ (E ++ L) gx).mono fun bo H' hq => ?_))
  obtain ⟨Hb', rfl, rfl, hq⟩ := hq
  refine aops_run 1 (by simp only [fwA, ↓reduceIte, Nat.reduceAdd, Nat.reduceMul, Nat.reduceEqDiff, Nat.reduceLT, Nat.reduceLeDiff, reduceCtorEq] <;> rfl) ?_
  refine awp_cond (by simp only [fwA, ↓reduceIte, Nat.reduceAdd, Nat.reduceMul, Nat.reduceEqDiff, Nat.reduceLT, Nat.reduceLeDiff, reduceCtorEq] <;> rfl) ?_
  refine awp_skip ?_
  refine awp_run rfl (by simp only [fwA, ↓reduceIte, Nat.reduceAdd, Nat.reduceMul, Nat.reduceEqDiff, Nat.reduceLT, Nat.reduceLeDiff, reduceCtorEq] <;> rfl) ?_
  exact ⟨(i + 1, Hb'), by dsimp only; omega, ⟨by dsimp only; omega, hq⟩, by rw [wrapS i (by omega)]; rfl, rfl, rfl⟩

/-- chancel/ltype.Type.labels's loop -/
theorem c60 (Γ : Nat → PV) (b : Nat) (t : Ty) (hw : t.w ≤ 1000000000) : AIterS Tryd.prog Γ 60 [.ptr b 0] (fun Hb => Hb[b]? = some (.box t.enc) ∧ ∀ B ∈ Hb, B.bd Hb.length = true) 1 (fun Stop => ∀ Hb, ¬ Stop Hb) (t.places.map I1) := by
  intro l n0 Inv Stop hS hI Hb hInv
  obtain ⟨⟨hneed, _⟩, hn0, _⟩ := hI 0 Hb hInv
  have h61 := c61 Γ t hw l n0 Inv (fun i Hi hi => by
    obtain ⟨⟨_, a1⟩, a2, rc, cc, a3, a4, a5⟩ := hI i Hi hi
    refine ⟨a1, a2, rc, cc, a3, a4, fun x E hx => (a5 x E hx).mono fun bo H' hq => ?_⟩
    obtain ⟨Hb', rfl, hq⟩ := hq
    cases bo with
    | true => exact ⟨Hb', rfl, rfl, by simpa using hq⟩
    | false => simp only [Bool.false_eq_true, ↓reduceIte] at hq; exact absurd hq.2 (hS _)) Hb [] hInv (fun B hB => by cases hB)
  rw [List.append_nil] at h61
  refine acalls_of_awp Tryd.func60 rfl (by simp [Tryd.f60]) fun hbd => ?_
  refine awp_region rfl ?_
  refine aops_run 2 (by simp only [fwA, ↓reduceIte, Nat.reduceAdd, Nat.reduceMul, Nat.reduceEqDiff, Nat.reduceLT, Nat.reduceLeDiff, reduceCtorEq, ti31, Ty.fw, hneed] <;> rfl) ?_
  refine aops_call rfl rfl rfl en61 (h61.mono fun p H' hp => ?_)
  obtain ⟨Hb', rfl, rfl, hp⟩ := hp
  rw [List.append_nil]
  obtain ⟨⟨_, hbd'⟩, hn', _⟩ := hI _ _ hp
  exact calls_at (p := .tup []) (R := fun _ H' => Inv (t.places.map I1).length H' ∨ (H'.length = n0 ∧ Stop H')) (.inr rfl) hbd' rfl rfl (by omega) (.inl (by rw [List.length_map]; exact hp))

/-- chancel/ltype.Type.labels -/
theorem c45 (Γ : Nat → PV) (t : Ty) (H : List Blk) : ACalls Tryd.prog Γ 45 [.agg t.enc] H (fun p H' => p = .func (.func 60) [] [.ptr H.length 0] ∧ H' = H ++ [.box t.enc]) := by
  refine acalls_of_awp Tryd.func45 rfl (by simp [Tryd.f45]) fun hbd => ?_
  refine awp_seq ?_
  refine awp_run rfl (by simp only [fwA, ↓reduceIte, Nat.reduceAdd, Nat.reduceMul, Nat.reduceEqDiff, Nat.reduceLT, Nat.reduceLeDiff, reduceCtorEq] <;> rfl) ?_
  refine awp_seq ?_
  refine awp_run rfl (by simp only [fwA, ↓reduceIte, Nat.reduceAdd, Nat.reduceMul, Nat.reduceEqDiff, Nat.reduceLT, Nat.reduceLeDiff, reduceCtorEq] <;> rfl) ?_
  refine awp_bd fun hbd' => ?_
  refine awp_ret ?_
  exact calls_at (p := .func (.func 60) [] [.ptr H.length 0]) (.inl rfl) hbd' rfl (by simp [PV.bd, PV.bdL]) (by simp) ⟨rfl, rfl⟩

end Go.Proofs.YtlnffadolfkggaaDoor

/- The contracts of the program's places, of its Fresh and its Sub. -/
namespace Go.Proofs.YtlnffadolfkggaaDoor
set_option linter.unusedVariables false
set_option linter.unusedSimpArgs false
set_option maxRecDepth 100000
open Go.RowKit Fw

/-- chancel/ltype.Fresh -/
theorem c11 (Γ : Nat → PV) (s : Sh) (hw : s.w ≤ 1000000000) (n : Int) : Gives Tryd.prog Γ 11 [.agg s.enc, .int .i64 n] (.tup [.agg (freshOf s n).1.enc, .int .i64 (freshOf s n).2]) := by
  refine fn_of_awp Tryd.func11 rfl (by simp [Tryd.f11]) (by simp [PV.plain, PV.bd, PV.bdL, Ty.bd]) fun H => ?_
  refine awp_seq ?_
  -- region 0
  refine awp_run rfl (by simp only [fwA, ↓reduceIte, Nat.reduceAdd, Nat.reduceMul, Nat.reduceEqDiff, Nat.reduceLT, Nat.reduceLeDiff, reduceCtorEq, ti31, ti26, ti3, pl31, Sh.fw, Ty.fw] <;> rfl) ?_
  refine awp_seq ?_
  refine awp_seq ?_
  -- region 1
  refine awp_region rfl ?_
  refine aops_run 1 (by simp only [fwA, ↓reduceIte, Nat.reduceAdd, Nat.reduceMul, Nat.reduceEqDiff, Nat.reduceLT, Nat.reduceLeDiff, reduceCtorEq, ti31, ti26, ti3, pl31, Sh.fw, Ty.fw] <;> rfl) ?_
  refine aops_fn rfl rfl rfl en39 (c39 Γ s) ?_
  by_cases hr : s.Right
  rotate_left
  · have e : freshOf s n = (noTy, n) := by unfold freshOf; rw [if_neg fun h => hr h.1]
    refine aops_run 5 (by simp only [fwA, ↓reduceIte, Nat.reduceAdd, Nat.reduceMul, Nat.reduceEqDiff, Nat.reduceLT, Nat.reduceLeDiff, reduceCtorEq, hr, decide_false, Bool.not_false] <;> rfl) ?_
    refine awp_cond (by simp only [fwA, ↓reduceIte, Nat.reduceAdd, Nat.reduceMul, Nat.reduceEqDiff, Nat.reduceLT, Nat.reduceLeDiff, reduceCtorEq] <;> rfl) ?_
    refine awp_seq ?_
    refine awp_drawnX (some (H.length + 2)) [0, 4, 5, 0] [0, 0, 1, 7] mixed rfl (by kernel_rfl) ?_
    refine dops_run 2 (by simp only [fwA, ↓reduceIte, Nat.reduceAdd, Nat.reduceMul, Nat.reduceEqDiff, Nat.reduceLT, Nat.reduceLeDiff, reduceCtorEq, ti31, ti26, ti3, pl31, Sh.fw, Ty.fw, View.vw, List.take_length] <;> rfl) ?_
    refine dops_storeB (b := H.length + 2) (q := 0) (cs := [.int .i64 0, .int .i64 0, .int .i64 0, .int .i64 0, .int .i64 0, .vec [] true]) rfl rfl rfl ti31 rfl (by simp only [fwA, ↓reduceIte, Nat.reduceAdd, Nat.reduceMul, Nat.reduceEqDiff, Nat.reduceLT, Nat.reduceLeDiff, reduceCtorEq] <;> rfl) rfl rfl (by show 0 + 6 ≤ 6; decide) rfl (by simp) ?_
    refine dops_run 1 (by simp only [fwA, ↓reduceIte, Nat.reduceAdd, Nat.reduceMul, Nat.reduceEqDiff, Nat.reduceLT, Nat.reduceLeDiff, reduceCtorEq, ti31, ti26, ti3, pl31, Sh.fw, Ty.fw] <;> rfl) ?_
    refine dops_end ?_
    refine awp_heap (H' := H ++ [.box s.enc, .box [.int .i64 n], .box [.int .i64 0, .int .i64 0, .int .i64 0, .int .i64 0, .int .i64 0, .vec [] true]]) (by simp only [fwA, ↓reduceIte, Nat.reduceAdd, Nat.reduceMul, Nat.reduceEqDiff, Nat.reduceLT, Nat.reduceLeDiff, reduceCtorEq] <;> rfl) ?_
    refine awp_told (told_leBox (H.length + 2) (cs := [.int .i64 0, .int .i64 0, .int .i64 0, .int .i64 0, .int .i64 0, .vec [] true]) (by rw [Fw.get_at]; rfl) (tleaf_le _ _ _ _ _)) ?_
    refine awp_heap (H' := H ++ [.box s.enc, .box [.int .i64 n], .box noTy.enc]) (by rw [Fw.set_at]; rfl) ?_
    refine awp_ret ?_
    refine gives_end (.inl rfl) _ ?_
    rw [e]
    simp [ares, aresL, ares1, rd, ev, alook, aput, Tryd.f11, ti31, Ty.fw]
  by_cases hn : 0 ≤ n
  rotate_left
  · have e : freshOf s n = (noTy, n) := by unfold freshOf; rw [if_neg fun h => hn h.2]
    have hlt : n < 0 := by omega
    refine aops_run 5 (by simp only [fwA, ↓reduceIte, Nat.reduceAdd, Nat.reduceMul, Nat.reduceEqDiff, Nat.reduceLT, Nat.reduceLeDiff, reduceCtorEq, ti31, ti26, ti3, pl31, Sh.fw, Ty.fw, hr, hlt, decide_true, Bool.not_true] <;> rfl) ?_
    refine awp_cond (by simp only [fwA, ↓reduceIte, Nat.reduceAdd, Nat.reduceMul, Nat.reduceEqDiff, Nat.reduceLT, Nat.reduceLeDiff, reduceCtorEq] <;> rfl) ?_
    refine awp_seq ?_
    refine awp_drawnX (some (H.length + 2)) [0, 4, 5, 0] [0, 0, 1, 7] mixed rfl (by kernel_rfl) ?_
    refine dops_run 2 (by simp only [fwA, ↓reduceIte, Nat.reduceAdd, Nat.reduceMul, Nat.reduceEqDiff, Nat.reduceLT, Nat.reduceLeDiff, reduceCtorEq, ti31, ti26, ti3, pl31, Sh.fw, Ty.fw, View.vw, List.take_length] <;> rfl) ?_
    refine dops_storeB (b := H.length + 2) (q := 0) (cs := [.int .i64 0, .int .i64 0, .int .i64 0, .int .i64 0, .int .i64 0, .vec [] true]) rfl rfl rfl ti31 rfl (by simp only [fwA, ↓reduceIte, Nat.reduceAdd, Nat.reduceMul, Nat.reduceEqDiff, Nat.reduceLT, Nat.reduceLeDiff, reduceCtorEq] <;> rfl) rfl rfl (by show 0 + 6 ≤ 6; decide) rfl (by simp) ?_
    refine dops_run 1 (by simp only [fwA, ↓reduceIte, Nat.reduceAdd, Nat.reduceMul, Nat.reduceEqDiff, Nat.reduceLT, Nat.reduceLeDiff, reduceCtorEq, ti31, ti26, ti3, pl31, Sh.fw, Ty.fw] <;> rfl) ?_
    refine dops_end ?_
    refine awp_heap (H' := H ++ [.box s.enc, .box [.int .i64 n], .box [.int .i64 0, .int .i64 0, .int .i64 0, .int .i64 0, .int .i64 0, .vec [] true]]) (by simp only [fwA, ↓reduceIte, Nat.reduceAdd, Nat.reduceMul, Nat.reduceEqDiff, Nat.reduceLT, Nat.reduceLeDiff, reduceCtorEq] <;> rfl) ?_
    refine awp_told (told_leBox (H.length + 2) (cs := [.int .i64 0, .int .i64 0, .int .i64 0, .int .i64 0, .int .i64 0, .vec [] true]) (by rw [Fw.get_at]; rfl) (tleaf_le _ _ _ _ _)) ?_
    refine awp_heap (H' := H ++ [.box s.enc, .box [.int .i64 n], .box noTy.enc]) (by rw [Fw.set_at]; rfl) ?_
    refine awp_ret ?_
    refine gives_end (.inl rfl) _ ?_
    rw [e]
    simp [ares, aresL, ares1, rd, ev, alook, aput, Tryd.f11, ti31, Ty.fw]
  have hlt : ¬ n < 0 := by omega
  have e : freshOf s n = Ty.fresh s n := by unfold freshOf; rw [if_pos ⟨hr, hn⟩]
  refine aops_run 5 (by simp only [fwA, ↓reduceIte, Nat.reduceAdd, Nat.reduceMul, Nat.reduceEqDiff, Nat.reduceLT, Nat.reduceLeDiff, reduceCtorEq, ti31, ti26, ti3, pl31, Sh.fw, Ty.fw, hr, hlt, decide_true, decide_false, Bool.not_true] <;> rfl) ?_
  refine awp_cond (by simp only [fwA, ↓reduceIte, Nat.reduceAdd, Nat.reduceMul, Nat.reduceEqDiff, Nat.reduceLT, Nat.reduceLeDiff, reduceCtorEq] <;> rfl) ?_
  refine awp_skip ?_
  rw [e]
  refine awp_seq ?_
  -- region 3
  refine awp_region rfl ?_
  refine aops_run 1 (by simp only [fwA, ↓reduceIte, Nat.reduceAdd, Nat.reduceMul, Nat.reduceEqDiff, Nat.reduceLT, Nat.reduceLeDiff, reduceCtorEq, ti31, ti26, ti3, pl31, Sh.fw, Ty.fw] <;> rfl) ?_
  refine aops_call rfl rfl rfl en40 ((c40 Γ s hw n (H.length + 1) _ (by simp only [fwA, ↓reduceIte, Nat.reduceAdd, Nat.reduceMul, Nat.reduceEqDiff, Nat.reduceLT, Nat.reduceLeDiff, reduceCtorEq])).mono fun p H' hp => ?_)
  obtain ⟨rfl, rfl⟩ := hp
  generalize Ty.fresh s n = r
  rw [Fw.set_at]
  refine aops_run 2 (by simp only [fwA, ↓reduceIte, Nat.reduceAdd, Nat.reduceMul, Nat.reduceEqDiff, Nat.reduceLT, Nat.reduceLeDiff, reduceCtorEq, ti31, ti26, ti3, pl31, Sh.fw, Ty.fw] <;> rfl) ?_
  refine awp_seq ?_
  -- region 4
  refine awp_drawnX (some (H.length + 2)) [4, 4, 5, 0] [0, 0, 1, 7] mixed rfl (by kernel_rfl) ?_
  refine dops_run 2 (by simp only [fwA, ↓reduceIte, Nat.reduceAdd, Nat.reduceMul, Nat.reduceEqDiff, Nat.reduceLT, Nat.reduceLeDiff, reduceCtorEq, ti31, ti26, ti3, pl31, Sh.fw, Ty.fw, View.vw, List.take_length, List.set_append_left, List.set_append_right] <;> rfl) ?_
  refine dops_storeB (b := H.length + 2) (q := 0) (cs := [.int .i64 0, .int .i64 0, .int .i64 0, .int .i64 0, .int .i64 0, .vec [] true]) rfl rfl rfl ti31 rfl (by simp only [fwA, ↓reduceIte, Nat.reduceAdd, Nat.reduceMul, Nat.reduceEqDiff, Nat.reduceLT, Nat.reduceLeDiff, reduceCtorEq] <;> rfl) rfl (by simp only [fwA, ↓reduceIte, Nat.reduceAdd, Nat.reduceMul, Nat.reduceEqDiff, Nat.reduceLT, Nat.reduceLeDiff, reduceCtorEq, Ty.fw]) (by show 0 + 6 ≤ 6; decide) rfl (by simp) ?_
  refine dops_run 1 (by simp only [fwA, ↓reduceIte, Nat.reduceAdd, Nat.reduceMul, Nat.reduceEqDiff, Nat.reduceLT, Nat.reduceLeDiff, reduceCtorEq, ti31, ti26, ti3, pl31, Sh.fw, Ty.fw] <;> rfl) ?_
  refine dops_end ?_
  refine awp_ret ?_
  refine gives_end (.inl rfl) _ ?_
  simp [ares, aresL, ares1, rd, ev, alook, aput, Tryd.f11, ti31, Ty.fw]

/-- chancel/ltype.Places -/
theorem c19 (Γ : Nat → PV) (t : Ty) (hw : t.w ≤ 1000000000) : Gives Tryd.prog Γ 19 [.agg t.enc] (.vec ((placesOf t).map I1) false) := by
  refine fn_of_awp Tryd.func19 rfl (by simp [Tryd.f19]) rfl fun H => ?_
  refine awp_bd fun hbdH => ?_
  refine awp_seq ?_
  -- region 0
  refine awp_run rfl (by simp only [fwA, ↓reduceIte, Nat.reduceAdd, Nat.reduceMul, Nat.reduceEqDiff, Nat.reduceLT, Nat.reduceLeDiff, reduceCtorEq] <;> rfl) ?_
  refine awp_seq ?_
  refine awp_seq ?_
  -- region 1
  refine awp_region rfl ?_
  refine aops_run 1 (by simp only [fwA, ↓reduceIte, Nat.reduceAdd, Nat.reduceMul, Nat.reduceEqDiff, Nat.reduceLT, Nat.reduceLeDiff, reduceCtorEq, ti31, fl31_1, ti28, fl31_0, ti3, fl31_2, fl31_3, fl31_4, fl31_5, ti29, un29, el29, un42, ti42, Ty.fw] <;> rfl) ?_
  refine aops_fn rfl rfl rfl en23 (c23 Γ t) ?_
  refine aops_run 1 (by simp only [fwA, ↓reduceIte, Nat.reduceAdd, Nat.reduceMul, Nat.reduceEqDiff, Nat.reduceLT, Nat.reduceLeDiff, reduceCtorEq] <;> rfl) ?_
  refine awp_cond (by simp only [fwA, ↓reduceIte, Nat.reduceAdd, Nat.reduceMul, Nat.reduceEqDiff, Nat.reduceLT, Nat.reduceLeDiff, reduceCtorEq] <;> rfl) ?_
  by_cases hr : t.Right
  rotate_left
  · have e : placesOf t = [] := by unfold placesOf; rw [if_neg hr]
    rw [e]
    simp only [hr, decide_false, Bool.not_false, ↓reduceIte]
    refine awp_seq (awp_run rfl (by simp only [fwA, ↓reduceIte, Nat.reduceAdd, Nat.reduceMul, Nat.reduceEqDiff, Nat.reduceLT, Nat.reduceLeDiff, reduceCtorEq] <;> rfl) ?_)
    refine awp_told (told_le 2 (.vec [] false) ⟨nofun, trivial⟩) (awp_ret ?_)
    exact gives_end (.inl rfl) _ rfl
  have e : placesOf t = t.places := by unfold placesOf; rw [if_pos hr]
  have hpl := places_len t
  rw [e]
  simp only [hr, decide_true, Bool.not_true, Bool.false_eq_true, ↓reduceIte]
  refine awp_skip ?_
  refine awp_seq ?_
  -- region 3
  refine awp_run rfl (by simp only [fwA, ↓reduceIte, Nat.reduceAdd, Nat.reduceMul, Nat.reduceEqDiff, Nat.reduceLT, Nat.reduceLeDiff, reduceCtorEq, ti31, fl31_1, ti28, fl31_0, ti3, fl31_2, fl31_3, fl31_4, fl31_5, ti29, un29, el29, un42, ti42, Ty.fw] <;> rfl) ?_
  refine awp_seq ?_
  refine awp_seq ?_
  -- region 4
  refine awp_region rfl ?_
  refine aops_run 1 (by simp only [fwA, ↓reduceIte, Nat.reduceAdd, Nat.reduceMul, Nat.reduceEqDiff, Nat.reduceLT, Nat.reduceLeDiff, reduceCtorEq, ti31, fl31_1, ti28, fl31_0, ti3, fl31_2, fl31_3, fl31_4, fl31_5, ti29, un29, el29, un42, ti42, Ty.fw] <;> rfl) ?_
  refine aops_call rfl rfl rfl en45 ((c45 Γ t _).mono fun p H' hp => ?_)
  obtain ⟨rfl, rfl⟩ := hp
  refine awp_heap (H' := H ++ [.box t.enc, .box [.vec [] true], .box t.enc]) (by simp) ?_
  refine awp_keep (A' := [(3, .ptr (H.length + 1) 0), (9, .func (.func 60) [] [.ptr (H.length + 2) 0])]) [3, 9] (by simp [akeep, alook, aput, ev]) ?_
  refine awp_told (told_adoptBox (H.length + 1) 0 1 (by decide) (by simp only [fwA, ↓reduceIte, Nat.reduceAdd, Nat.reduceMul, Nat.reduceEqDiff, Nat.reduceLT, Nat.reduceLeDiff, reduceCtorEq] <;> rfl) rfl) ?_
  refine awp_heap (H' := H ++ [.box t.enc, .box [.row (H.length + 3) 0 0 1], .box t.enc, .row 1 []]) (by simp only [fwA, ↓reduceIte, Nat.reduceAdd, Nat.reduceMul, Nat.reduceEqDiff, Nat.reduceLT, Nat.reduceLeDiff, reduceCtorEq] <;> rfl) ?_
  have hbdJ : ∀ xs : List Int, ∀ B ∈ H ++ [.box t.enc, .box [.row (H.length + 3) 0 xs.length 1], .box t.enc, .row 1 ((xs.map I1).flatten)], B.bd (H.length + 4) = true := fun xs => by
    have := bd_app (L := [.box t.enc, .box [.row (H.length + 3) 0 xs.length 1], .box t.enc, .row 1 ((xs.map I1).flatten)]) hbdH (by simp [Blk.bd, Ty.bd, PV.bdL, PV.bd, flatI_bd])
    rwa [List.length_append] at this
  refine awp_block ?_
  refine awp_rangeFuncS (gf := 60) (caps := [.ptr (H.length + 2) 0]) (by simp only [fwA, ↓reduceIte, Nat.reduceAdd, Nat.reduceMul, Nat.reduceEqDiff, Nat.reduceLT, Nat.reduceLeDiff, reduceCtorEq] <;> rfl) en60 (c60 Γ (H.length + 2) t hw) (by simp [Tryd.f19])
    (fun i Hf => i ≤ t.places.length ∧ Hf = H ++ [.box t.enc, .box [.row (H.length + 3) 0 (t.places.take i).length 1], .box t.enc, .row 1 (((t.places.take i).map I1).flatten)])
    (fun _ _ => False) (fun Stop h Hb hs => by obtain ⟨_, _, hx⟩ := h Hb hs; exact hx) ⟨Nat.zero_le _, rfl⟩ ?_ ?_ ?_ ?_
  · rintro i Hf ⟨hi, rfl⟩
    refine ⟨by simp, fun L hL => ⟨by rw [List.append_assoc, Fw.get_at]; rfl, fun B hB => ?_⟩⟩
    rcases List.mem_append.1 hB with hB | hB
    · exact blk_mono (by simp <;> omega) (hbdJ _ B hB)
    · exact blk_mono (by simp <;> omega) (hL B hB)
  · rintro i x Hf L L' ro hx ⟨hi, rfl⟩ hL hL' hbd hbd'
    have hil : i < t.places.length := by have := (List.getElem?_eq_some_iff.1 hx).1; simpa using this
    have gp : t.places[i]? = some t.places[i] := List.getElem?_eq_getElem hil
    have hxe : x = [.int .i64 t.places[i]] := by rw [List.getElem?_map, gp] at hx; exact (Option.some.inj hx).symm
    subst hxe
    have hti : (t.places.take i).length = i := by simp; omega
    have htk : t.places.take (i + 1) = t.places.take i ++ [t.places[i]] := by rw [List.take_add_one, gp]; rfl
    generalize t.places[i] = v at htk ⊢
    refine awp_less (A' := [(3, .ptr (H.length + 1) 0), (10, .int .i64 v)]) (fun u => zip_look [3, 10] [.ptr (H.length + 1) 0, .int .i64 v] u _ rfl) ?_
    -- region 5
    refine awp_run rfl (by simp only [fwA, ↓reduceIte, Nat.reduceAdd, Nat.reduceMul, Nat.reduceEqDiff, Nat.reduceLT, Nat.reduceLeDiff, reduceCtorEq] <;> rfl) ?_
    refine ⟨rfl, H ++ [.box t.enc, .box [.row (H.length + 3) 0 (t.places.take i).length 1], .box t.enc, .row 1 (((t.places.take i).map I1).flatten)], [], by simp, by simp, ?_⟩
    have hb2 := hbdJ (t.places.take i ++ [v])
    generalize t.places.take i = F at hti htk hb2 ⊢
    refine awp_heap (H' := H ++ ([.box t.enc, .box [.row (H.length + 3) 0 F.length 1], .box t.enc, .row 1 ((F.map I1).flatten)] ++ L')) (by simp) ?_
    refine awp_block ?_
    -- region 6
    refine awp_region rfl ?_
    refine aops_run 3 (by simp only [fwA, ↓reduceIte, Nat.reduceAdd, Nat.reduceMul, Nat.reduceEqDiff, Nat.reduceLT, Nat.reduceLeDiff, reduceCtorEq, ti31, fl31_1, ti28, fl31_0, ti3, fl31_2, fl31_3, fl31_4, fl31_5, ti29, un29, el29, un42, ti42, Ty.fw, List.cons_append] <;> rfl) ?_
    refine aops_one rfl (os_appendR (b := H.length + 3) (q := 0) (k := F.length) (cs := (F.map I1).flatten) rfl un42 ti28 un42 (.inl ⟨_, rfl⟩) rfl (by simp only [fwA, ↓reduceIte, Nat.reduceAdd, Nat.reduceMul, Nat.reduceEqDiff, Nat.reduceLT, Nat.reduceLeDiff, reduceCtorEq, List.cons_append] <;> rfl) (flatI_len _) rfl (fun es f h e he => by
      simp only [fwA, ↓reduceIte, Nat.reduceAdd, Nat.reduceMul, Nat.reduceEqDiff, Nat.reduceLT, Nat.reduceLeDiff, reduceCtorEq, PV.vec.injEq] at h
      obtain ⟨rfl, rfl⟩ := h
      simp only [List.mem_singleton] at he
      subst he; rfl) rfl (by show (F.length + 1) * 8 ≤ _; omega) (by show F.length + 1 ≤ _; omega) ?_)
    refine aops_run 1 (by simp only [fwA, ↓reduceIte, Nat.reduceAdd, Nat.reduceMul, Nat.reduceEqDiff, Nat.reduceLT, Nat.reduceLeDiff, reduceCtorEq, ti31, fl31_1, ti28, fl31_0, ti3, fl31_2, fl31_3, fl31_4, fl31_5, ti29, un29, el29, un42, ti42, Ty.fw, List.cons_append] <;> rfl) ?_
    refine ⟨H ++ [.box t.enc, .box [.row (H.length + 3) 0 (F ++ [v]).length 1], .box t.enc, .row 1 (((F ++ [v]).map I1).flatten)], [], by simp, by simp [I1], fun B hB => ?_, ?_⟩
    · exact blk_mono (by simp <;> omega) (hb2 B hB)
    · exact ⟨by omega, by rw [htk]⟩
  · rintro Hf B ⟨_, rfl⟩
    rw [List.length_map, List.take_length]
    simp only [Post.block, Post.then]
    refine awp_heap (H' := H ++ [.box t.enc, .box [.row (H.length + 3) 0 t.places.length 1], .box t.enc, .row 1 ((t.places.map I1).flatten), .dfr, B]) (by simp) ?_
    refine awp_told (told_freezeAt H _ 3 (C := ((t.places.map I1).flatten)) rfl (flatI_bd _ _)) ?_
    have hl : ((t.places.map I1).flatten).length = t.places.length * 1 := by rw [flatI_len]; omega
    refine awp_seq ?_
    -- region 7
    refine awp_run rfl (by simp only [fwA, ↓reduceIte, Nat.reduceAdd, Nat.reduceMul, Nat.reduceEqDiff, Nat.reduceLT, Nat.reduceLeDiff, reduceCtorEq, ti31, fl31_1, ti28, fl31_0, ti3, fl31_2, fl31_3, fl31_4, fl31_5, ti29, un29, el29, un42, ti42, Ty.fw, hl, flatI_chunk] <;> rfl) ?_
    refine awp_ret ?_
    refine ⟨.inl rfl, by simp, fun b hb => ?_, ?_, _, rfl⟩
    · simp only [List.length_append, List.length_cons, List.length_nil, List.mem_singleton] at hb
      subst hb
      exact ⟨by rw [Fw.get_at]; rfl, by simp⟩
    · simp only [fwA, ↓reduceIte, Nat.reduceAdd, Nat.reduceMul, Nat.reduceEqDiff, Nat.reduceLT, Nat.reduceLeDiff, reduceCtorEq, ares, aresL, ares1, Tryd.f19]
  · rintro c Hf B hX _
    exact hX.elim

theorem c59r (Γ : Nat → PV) (l : List Int) (fl : Bool) (hlb : l.length ≤ 1000000) (H : List Blk) : ACalls Tryd.prog Γ 59 [.vec (l.map I1) fl] H (fun p H' => p = .row H.length 0 (prs l).length 2 ∧ H' = H ++ [.row 2 (((prs l).map Pr.enc).flatten)]) := by
  refine acalls_of_awp Tryd.func59 rfl (by simp [Tryd.f59]) fun hbd => ?_
  refine awp_seq ?_
  refine awp_run rfl (by simp only [fwA, ↓reduceIte, Nat.reduceAdd, Nat.reduceMul, Nat.reduceEqDiff, Nat.reduceLT, Nat.reduceLeDiff, reduceCtorEq] <;> rfl) ?_
  refine awp_seq ?_
  refine awp_run rfl (by simp only [fwA, ↓reduceIte, Nat.reduceAdd, Nat.reduceMul, Nat.reduceEqDiff, Nat.reduceLT, Nat.reduceLeDiff, reduceCtorEq] <;> rfl) ?_
  refine awp_seq ?_
  refine awp_seq ?_
  refine awp_run rfl (by simp only [fwA, ↓reduceIte, Nat.reduceAdd, Nat.reduceMul, Nat.reduceEqDiff, Nat.reduceLT, Nat.reduceLeDiff, reduceCtorEq] <;> rfl) ?_
  refine awp_told (told_adopt 3 2 (by decide) rfl) ?_
  refine awp_block ?_
  refine awp_for [0, 3, 4] (fun j : Nat => [.vec (l.map I1) fl, .row H.length 0 j 2, .int .i64 ((2 * j : Nat) : Int)])
    (fun j => H ++ [.row 2 (((prs l).take j).map Pr.enc).flatten])
    (fun j => l.length - j) (fun j => j ≤ l.length / 2) 0 rfl rfl (Nat.zero_le _) fun j hj => ?_
  have hpl := prs_len l
  have hti : ((prs l).take j).length = j := by rw [List.length_take]; omega
  refine awp_seq ?_
  refine awp_seq ?_
  have hw1 : IntKind.i64.wrap (((2 * j : Nat) : Int) + 1) = ((2 * j + 1 : Nat) : Int) := wrapS (2 * j) (by omega)
  have hw2 : IntKind.i64.wrap (((2 * j : Nat) : Int) + 2) = ((2 * (j + 1) : Nat) : Int) := by rw [wrapId ⟨by omega, by omega⟩]; omega
  refine awp_run rfl (by simp only [fwA, ↓reduceIte, Nat.reduceAdd, Nat.reduceMul, Nat.reduceEqDiff, Nat.reduceLT, Nat.reduceLeDiff, reduceCtorEq, un42, el42, ti28, ti38, pl38, un34, List.length_map, hw1] <;> rfl) ?_
  refine awp_cond (by simp only [fwA, ↓reduceIte, Nat.reduceAdd, Nat.reduceMul, Nat.reduceEqDiff, Nat.reduceLT, Nat.reduceLeDiff, reduceCtorEq] <;> rfl) ?_
  by_cases hc : ((2 * j + 1 : Nat) : Int) < l.length
  rotate_left
  · simp only [hc, decide_false, Bool.false_eq_true, ↓reduceIte]
    refine awp_exit ?_
    have hj' : j = (prs l).length := by omega
    refine awp_seq (awp_run rfl (by simp only [fwA, ↓reduceIte, Nat.reduceAdd, Nat.reduceMul, Nat.reduceEqDiff, Nat.reduceLT, Nat.reduceLeDiff, reduceCtorEq] <;> rfl) ?_)
    rw [hj', List.take_length]
    refine awp_bd fun hbd' => ?_
    refine awp_ret ?_
    exact calls_at (p := .row H.length 0 (prs l).length 2) (.inl rfl) hbd' rfl (by simp [PV.bd]) (by simp) ⟨rfl, rfl⟩
  simp only [hc, decide_true, ↓reduceIte]
  refine awp_skip ?_
  have ga : l[2 * j]? = some l[2 * j] := List.getElem?_eq_getElem (by omega)
  have gb : l[2 * j + 1]? = some l[2 * j + 1] := List.getElem?_eq_getElem (by omega)
  have gp := prs_get l j _ _ ga gb
  refine awp_seq ?_
  refine awp_block ?_
  refine awp_drawn [0, 0, 0, 0, 1, 0, 0, 0, 0, 1, 0, 0, 2, 0] [0, 0, 0, 6, 14, 0, 0, 64, 224, 480, 1022, 2046, 4095, 8191] mixed rfl (by kernel_rfl) ?_
  refine dops_run 12 (by simp only [fwA, ↓reduceIte, Nat.reduceAdd, Nat.reduceMul, Nat.reduceEqDiff, Nat.reduceLT, Nat.reduceLeDiff, reduceCtorEq, un42, el42, ti28, ti38, pl38, un34, I1_fw, List.getElem?_map, ga, gb, Option.map_some, Int.natCast_nonneg, hw1] <;> rfl) ?_
  refine dops_appendR rfl rfl rfl un34 ti38 un34 (.inl ⟨_, rfl⟩) rfl (by simp only [fwA, ↓reduceIte, Nat.reduceAdd, Nat.reduceMul, Nat.reduceEqDiff, Nat.reduceLT, Nat.reduceLeDiff, reduceCtorEq] <;> rfl) (by rw [flat_len (sz := 2) (fun _ => by simp only [Pr.fw]), hti]; exact (Nat.zero_add _).symm) rfl (fun es f h e he => by
      simp only [fwA, ↓reduceIte, Nat.reduceAdd, Nat.reduceMul, Nat.reduceEqDiff, Nat.reduceLT, Nat.reduceLeDiff, reduceCtorEq, PV.vec.injEq] at h
      obtain ⟨rfl, rfl⟩ := h
      simp only [List.mem_singleton] at he
      subst he; rfl) rfl (by show (j + 1) * 16 ≤ _; omega) (by show j + 1 ≤ _; omega) ?_
  refine dops_run 1 (by simp only [fwA, ↓reduceIte, Nat.reduceAdd, Nat.reduceMul, Nat.reduceEqDiff, Nat.reduceLT, Nat.reduceLeDiff, reduceCtorEq] <;> rfl) ?_
  refine dops_end ?_
  refine awp_run rfl (by simp only [fwA, ↓reduceIte, Nat.reduceAdd, Nat.reduceMul, Nat.reduceEqDiff, Nat.reduceLT, Nat.reduceLeDiff, reduceCtorEq, hw2] <;> rfl) ?_
  refine ⟨j + 1, by omega, by omega, rfl, ?_, rfl⟩
  rw [flatten_enc Pr.enc _ _ _ gp]
  rfl
/-- chancel/ltype.sub -/
theorem c41 (Γ : Nat → PV) : ∀ (n : Nat) (a b : Ty), a.w ≤ n → a.w ≤ 1000000000 → a.Right → b.Right → a.shape = b.shape → Gives Tryd.prog Γ 41 [.agg a.enc, .agg b.enc] (.vec ((subN n a b).map Pr.enc) false) := by
  intro n
  induction n with
  | zero => intro a b h; have := Ty.w_pos a; omega
  | succ n ih =>
  intro a b hwn hw ha hb hs
  have hlen := subN_len (n + 1) a b ha hb hs
  have hso := subN_eq n a b
  refine fn_of_awp Tryd.func41 rfl (by simp [Tryd.f41]) rfl fun H => ?_
  refine awp_seq ?_
  -- region 0
  refine awp_run rfl (by simp only [fwA, ↓reduceIte, Nat.reduceAdd, Nat.reduceMul, Nat.reduceEqDiff, Nat.reduceLT, Nat.reduceLeDiff, reduceCtorEq] <;> rfl) ?_
  refine awp_seq ?_
  -- region 1
  refine awp_region rfl ?_
  refine aops_run 5 (by simp only [fwA, ↓reduceIte, Nat.reduceAdd, Nat.reduceMul, Nat.reduceEqDiff, Nat.reduceLT, Nat.reduceLeDiff, reduceCtorEq, ti31, fl31_1, ti28, fl31_0, ti3, fl31_2, fl31_3, fl31_4, fl31_5, ti29, un29, el29, un42, ti42, Ty.fw] <;> rfl) ?_
  refine aops_call rfl rfl rfl en59 ((c59r Γ [a.l, b.l] true (by simp) _).mono fun p H' hp => ?_)
  obtain ⟨rfl, rfl⟩ := hp
  refine aops_run 1 (by simp only [fwA, ↓reduceIte, Nat.reduceAdd, Nat.reduceMul, Nat.reduceEqDiff, Nat.reduceLT, Nat.reduceLeDiff, reduceCtorEq] <;> rfl) ?_
  refine awp_keep (A' := [(2, .ptr H.length 0), (3, .ptr (H.length + 1) 0), (5, .row (H.length + 2) 0 1 2)]) [2, 3, 5] (by simp [akeep, alook, aput, ev, prs]) ?_
  refine awp_heap (H' := H ++ [.box a.enc, .box b.enc, .row 2 ((([⟨a.l, b.l⟩] : List Pr).map Pr.enc).flatten)]) (by simp [prs]) ?_
  refine awp_seq ?_
  refine AWP.mono (Q := fun e A' H' D' => e = .normal ∧ akeep [2, 3, 5] A' = [(2, .ptr H.length 0), (3, .ptr (H.length + 1) 0), (5, .row (H.length + 2) 0 (subN (n + 1) a b).length 2)] ∧ H' = H ++ [.box a.enc, .box b.enc, .row 2 (((subN (n + 1) a b).map Pr.enc).flatten)] ∧ D' = []) ?_ fun e A' H' D' hq => ?_
  · refine awp_seq ?_
    -- region 2
    refine awp_run rfl (by simp only [fwA, ↓reduceIte, Nat.reduceAdd, Nat.reduceMul, Nat.reduceEqDiff, Nat.reduceLT, Nat.reduceLeDiff, reduceCtorEq, ti31, fl31_1, ti28, fl31_0, ti3, fl31_2, fl31_3, fl31_4, fl31_5, ti29, un29, el29, un42, ti42, Ty.fw] <;> rfl) ?_
    refine awp_block ?_
    refine awp_seq ?_
    refine awp_run rfl (by simp only [fwA, ↓reduceIte, Nat.reduceAdd, Nat.reduceMul, Nat.reduceEqDiff, Nat.reduceLT, Nat.reduceLeDiff, reduceCtorEq] <;> rfl) ?_
    refine awp_cond (by simp only [fwA, ↓reduceIte, Nat.reduceAdd, Nat.reduceMul, Nat.reduceEqDiff, Nat.reduceLT, Nat.reduceLeDiff, reduceCtorEq] <;> rfl) ?_
    by_cases k2 : a.kind = 2
    · simp only [k2, decide_true, ↓reduceIte]
      have e1 : subN (n + 1) a b = [⟨a.l, b.l⟩] ++ [⟨a.c, b.c⟩, ⟨b.c, a.c⟩] := by rw [hso, if_neg (by omega), List.append_nil]; unfold own1; rw [if_pos k2]; rfl
      -- region 4
      refine awp_region rfl ?_
      refine aops_run 10 (by simp only [fwA, ↓reduceIte, Nat.reduceAdd, Nat.reduceMul, Nat.reduceEqDiff, Nat.reduceLT, Nat.reduceLeDiff, reduceCtorEq, ti31, fl31_1, ti28, fl31_0, ti3, fl31_2, fl31_3, fl31_4, fl31_5, ti29, un29, el29, un42, ti42, Ty.fw] <;> rfl) ?_
      refine aops_fnLe rfl rfl rfl en59 (c59 Γ [a.c, b.c, b.c, a.c] (by simp)) ⟨⟨nofun, PV.leLL_refl _⟩, trivial⟩ ?_
      refine aops_one rfl (os_appendR (b := H.length + 2) (q := 0) (k := 1) (n := 2) (cs := (([⟨a.l, b.l⟩] : List Pr).map Pr.enc).flatten) (xs := (([⟨a.c, b.c⟩, ⟨b.c, a.c⟩] : List Pr).map Pr.enc).flatten) rfl un34 ti38 un34 (.inl ⟨_, rfl⟩) rfl (by simp only [fwA, ↓reduceIte, Nat.reduceAdd, Nat.reduceMul, Nat.reduceEqDiff, Nat.reduceLT, Nat.reduceLeDiff, reduceCtorEq] <;> rfl) (flatP_len _) (by simp only [fwA, ↓reduceIte, Nat.reduceAdd, Nat.reduceMul, Nat.reduceEqDiff, Nat.reduceLT, Nat.reduceLeDiff, reduceCtorEq] <;> rfl) (fun es f h e he => by
          simp only [fwA, ↓reduceIte, Nat.reduceAdd, Nat.reduceMul, Nat.reduceEqDiff, Nat.reduceLT, Nat.reduceLeDiff, reduceCtorEq, PV.vec.injEq] at h
          obtain ⟨rfl, rfl⟩ := h
          obtain ⟨x, _, rfl⟩ := List.mem_map.1 he
          rfl) rfl (by show (1 + 2) * 16 ≤ _; omega) (by show 1 + 2 ≤ _; omega) ?_)
      refine aops_run 1 (by simp only [fwA, ↓reduceIte, Nat.reduceAdd, Nat.reduceMul, Nat.reduceEqDiff, Nat.reduceLT, Nat.reduceLeDiff, reduceCtorEq] <;> rfl) ?_
      refine ⟨rfl, by rw [e1]; rfl, ?_, rfl⟩
      rw [e1]
      simp [Pr.enc, prs]
    simp only [k2, decide_false, Bool.false_eq_true, ↓reduceIte]
    refine awp_seq ?_
    refine awp_run rfl (by simp only [fwA, ↓reduceIte, Nat.reduceAdd, Nat.reduceMul, Nat.reduceEqDiff, Nat.reduceLT, Nat.reduceLeDiff, reduceCtorEq] <;> rfl) ?_
    refine awp_cond (by simp only [fwA, ↓reduceIte, Nat.reduceAdd, Nat.reduceMul, Nat.reduceEqDiff, Nat.reduceLT, Nat.reduceLeDiff, reduceCtorEq] <;> rfl) ?_
    have e1 : own1 a b = [⟨a.l, b.l⟩] := by unfold own1; rw [if_neg k2]
    rw [e1] at hso
    by_cases k3 : a.kind = 3
    rotate_left
    · simp only [k3, decide_false, Bool.false_eq_true, ↓reduceIte]
      refine awp_skip ?_
      rw [if_neg k3, List.append_nil] at hso
      rw [hso]
      exact ⟨rfl, rfl, rfl, rfl⟩
    simp only [k3, decide_true, ↓reduceIte]
    rw [if_pos k3] at hso
    have kb : b.kind = 3 := by rw [← kind_shape hs]; exact k3
    have la := kids_two ha k3
    have lb := kids_two hb kb
    have wa := Ty.w_two la
    have s0 := kid_shape hs 0
    have s1 := kid_shape hs 1
    have e0 := w_same s0
    have ra0 := ha.kids _ (kid_mem (t := a) (i := 0) (by omega))
    have ra1 := ha.kids _ (kid_mem (t := a) (i := 1) (by omega))
    have rb0 := hb.kids _ (kid_mem (t := b) (i := 0) (by omega))
    have rb1 := hb.kids _ (kid_mem (t := b) (i := 1) (by omega))
    have i0 := ih (kid b 0) (kid a 0) (by omega) (by omega) rb0 ra0 s0.symm
    have i1 := ih (kid a 1) (kid b 1) (by omega) (by omega) ra1 rb1 s1
    have l0 := subN_len n (kid b 0) (kid a 0) rb0 ra0 s0.symm
    have l1 := subN_len n (kid a 1) (kid b 1) ra1 rb1 s1
    have ga0 : (a.kids.map Ty.enc)[Int.toNat 0]? = some (kid a 0).enc := by rw [List.getElem?_map]; show (a.kids[0]?).map _ = _; rw [kid_get (by omega)]; rfl
    have ga1 : (a.kids.map Ty.enc)[Int.toNat 1]? = some (kid a 1).enc := by rw [List.getElem?_map]; show (a.kids[1]?).map _ = _; rw [kid_get (by omega)]; rfl
    have gb0 : (b.kids.map Ty.enc)[Int.toNat 0]? = some (kid b 0).enc := by rw [List.getElem?_map]; show (b.kids[0]?).map _ = _; rw [kid_get (by omega)]; rfl
    have gb1 : (b.kids.map Ty.enc)[Int.toNat 1]? = some (kid b 1).enc := by rw [List.getElem?_map]; show (b.kids[1]?).map _ = _; rw [kid_get (by omega)]; rfl
    generalize subN n (kid b 0) (kid a 0) = u0 at i0 l0 hso
    generalize subN n (kid a 1) (kid b 1) = u1 at i1 l1 hso
    refine awp_seq ?_
    -- region 6
    refine awp_region rfl ?_
    refine aops_run 10 (by simp only [fwA, ↓reduceIte, Nat.reduceAdd, Nat.reduceMul, Nat.reduceEqDiff, Nat.reduceLT, Nat.reduceLeDiff, reduceCtorEq, ti31, fl31_1, ti28, fl31_0, ti3, fl31_2, fl31_3, fl31_4, fl31_5, ti29, un29, el29, un42, ti42, Ty.fw] <;> rfl) ?_
    refine aops_fnLe rfl rfl rfl en59 (c59 Γ [b.pc, a.pc, a.x, b.x] (by simp)) ⟨⟨nofun, PV.leLL_refl _⟩, trivial⟩ ?_
    refine aops_one rfl (os_appendR (b := H.length + 2) (q := 0) (k := 1) (n := 2) (cs := (([⟨a.l, b.l⟩] : List Pr).map Pr.enc).flatten) (xs := (([⟨b.pc, a.pc⟩, ⟨a.x, b.x⟩] : List Pr).map Pr.enc).flatten) rfl un34 ti38 un34 (.inl ⟨_, rfl⟩) rfl (by simp only [fwA, ↓reduceIte, Nat.reduceAdd, Nat.reduceMul, Nat.reduceEqDiff, Nat.reduceLT, Nat.reduceLeDiff, reduceCtorEq] <;> rfl) (flatP_len _) (by simp only [fwA, ↓reduceIte, Nat.reduceAdd, Nat.reduceMul, Nat.reduceEqDiff, Nat.reduceLT, Nat.reduceLeDiff, reduceCtorEq] <;> rfl) (fun es f h e he => by
          simp only [fwA, ↓reduceIte, Nat.reduceAdd, Nat.reduceMul, Nat.reduceEqDiff, Nat.reduceLT, Nat.reduceLeDiff, reduceCtorEq, PV.vec.injEq] at h
          obtain ⟨rfl, rfl⟩ := h
          obtain ⟨x, _, rfl⟩ := List.mem_map.1 he
          rfl) rfl (by show (1 + 2) * 16 ≤ _; omega) (by show 1 + 2 ≤ _; omega) ?_)
    refine aops_run 1 (by simp only [fwA, ↓reduceIte, Nat.reduceAdd, Nat.reduceMul, Nat.reduceEqDiff, Nat.reduceLT, Nat.reduceLeDiff, reduceCtorEq] <;> rfl) ?_
    refine awp_keep (A' := [(2, .ptr H.length 0), (3, .ptr (H.length + 1) 0), (5, .row (H.length + 2) 0 ([⟨a.l, b.l⟩, ⟨b.pc, a.pc⟩, ⟨a.x, b.x⟩] : List Pr).length 2)]) [2, 3, 5] rfl ?_
    refine awp_heap (H' := H ++ [.box a.enc, .box b.enc, .row 2 ((([⟨a.l, b.l⟩, ⟨b.pc, a.pc⟩, ⟨a.x, b.x⟩] : List Pr).map Pr.enc).flatten)]) (by simp [Pr.enc, prs]) ?_
    have ho2 : ([⟨a.l, b.l⟩, ⟨b.pc, a.pc⟩, ⟨a.x, b.x⟩] : List Pr).length ≤ 5 := by simp
    rw [← List.append_assoc, ← List.append_assoc, List.singleton_append] at hso
    generalize ([⟨a.l, b.l⟩, ⟨b.pc, a.pc⟩, ⟨a.x, b.x⟩] : List Pr) = o2 at ho2 hso ⊢
    refine awp_seq ?_
    -- region 7 drawn
    refine awp_drawn [0, 0, 1, 0, 1, 0, 1, 0, 1, 0, 2, 0] [0, 0, 2, 6, 14, 0, 32, 96, 224, 510, 1023, 2047] mixed rfl (by kernel_rfl) ?_
    refine dops_run 9 (by simp only [fwA, ↓reduceIte, Nat.reduceAdd, Nat.reduceMul, Nat.reduceEqDiff, Nat.reduceLT, Nat.reduceLeDiff, reduceCtorEq, ti31, fl31_1, ti28, fl31_0, ti3, fl31_2, fl31_3, fl31_4, fl31_5, ti29, un29, el29, un42, ti42, Ty.fw, ga0, gb0, Int.reduceLE, Int.le_refl, true_and] <;> rfl) ?_
    refine dops_fn rfl rfl rfl rfl en41 i0 ?_
    refine dops_appendR (b := H.length + 2) (q := 0) (k := o2.length) (n := u0.length) (xs := (u0.map Pr.enc).flatten) (cs := (o2.map Pr.enc).flatten) rfl rfl rfl un34 ti38 un34 (.inl ⟨_, rfl⟩) rfl (by simp only [fwA, ↓reduceIte, Nat.reduceAdd, Nat.reduceMul, Nat.reduceEqDiff, Nat.reduceLT, Nat.reduceLeDiff, reduceCtorEq] <;> rfl) (flatP_len _) rfl (fun es f h e he => by
        simp only [fwA, ↓reduceIte, Nat.reduceAdd, Nat.reduceMul, Nat.reduceEqDiff, Nat.reduceLT, Nat.reduceLeDiff, reduceCtorEq, PV.vec.injEq] at h
        obtain ⟨rfl, rfl⟩ := h
        obtain ⟨x, _, rfl⟩ := List.mem_map.1 he
        rfl) (by simp only [fwA, ↓reduceIte, Nat.reduceAdd, Nat.reduceMul, Nat.reduceEqDiff, Nat.reduceLT, Nat.reduceLeDiff, reduceCtorEq, alen, List.length_map]) (by show (o2.length + u0.length) * 16 ≤ _; omega) (by omega) ?_
    refine dops_run 1 (by simp only [fwA, ↓reduceIte, Nat.reduceAdd, Nat.reduceMul, Nat.reduceEqDiff, Nat.reduceLT, Nat.reduceLeDiff, reduceCtorEq] <;> rfl) ?_
    refine dops_end ?_
    refine awp_keep (A' := [(2, .ptr H.length 0), (3, .ptr (H.length + 1) 0), (5, .row (H.length + 2) 0 (o2 ++ u0).length 2)]) [2, 3, 5] (by simp only [akeep, alook, aput, ev, List.length_append] <;> rfl) ?_
    refine awp_heap (H' := H ++ [.box a.enc, .box b.enc, .row 2 (((o2 ++ u0).map Pr.enc).flatten)]) (by simp) ?_
    have ho3 : (o2 ++ u0).length ≤ 5 + 3 * (kid b 0).w := by rw [List.length_append]; omega
    generalize (o2 ++ u0) = o3 at ho3 hso ⊢
    -- region 8 drawn
    refine awp_drawn [0, 0, 1, 0, 1, 0, 1, 0, 1, 0, 2, 0] [0, 0, 2, 6, 14, 0, 32, 96, 224, 510, 1023, 2047] mixed rfl (by kernel_rfl) ?_
    refine dops_run 9 (by simp only [fwA, ↓reduceIte, Nat.reduceAdd, Nat.reduceMul, Nat.reduceEqDiff, Nat.reduceLT, Nat.reduceLeDiff, reduceCtorEq, ti31, fl31_1, ti28, fl31_0, ti3, fl31_2, fl31_3, fl31_4, fl31_5, ti29, un29, el29, un42, ti42, Ty.fw, ga1, gb1, Int.reduceLE, Int.le_refl, true_and] <;> rfl) ?_
    refine dops_fn rfl rfl rfl rfl en41 i1 ?_
    refine dops_appendR (b := H.length + 2) (q := 0) (k := o3.length) (n := u1.length) (xs := (u1.map Pr.enc).flatten) (cs := (o3.map Pr.enc).flatten) rfl rfl rfl un34 ti38 un34 (.inl ⟨_, rfl⟩) rfl (by simp only [fwA, ↓reduceIte, Nat.reduceAdd, Nat.reduceMul, Nat.reduceEqDiff, Nat.reduceLT, Nat.reduceLeDiff, reduceCtorEq] <;> rfl) (flatP_len _) rfl (fun es f h e he => by
        simp only [fwA, ↓reduceIte, Nat.reduceAdd, Nat.reduceMul, Nat.reduceEqDiff, Nat.reduceLT, Nat.reduceLeDiff, reduceCtorEq, PV.vec.injEq] at h
        obtain ⟨rfl, rfl⟩ := h
        obtain ⟨x, _, rfl⟩ := List.mem_map.1 he
        rfl) (by simp only [fwA, ↓reduceIte, Nat.reduceAdd, Nat.reduceMul, Nat.reduceEqDiff, Nat.reduceLT, Nat.reduceLeDiff, reduceCtorEq, alen, List.length_map]) (by show (o3.length + u1.length) * 16 ≤ _; omega) (by omega) ?_
    refine dops_run 1 (by simp only [fwA, ↓reduceIte, Nat.reduceAdd, Nat.reduceMul, Nat.reduceEqDiff, Nat.reduceLT, Nat.reduceLeDiff, reduceCtorEq] <;> rfl) ?_
    refine dops_end ?_
    rw [hso]
    exact ⟨rfl, by simp only [akeep, alook, aput, ev, List.length_append] <;> rfl, by simp, rfl⟩
  obtain ⟨rfl, hA, rfl, rfl⟩ := hq
  refine awp_keep _ hA ?_
  refine awp_told (told_freezeAt H _ 2 (C := (((subN (n + 1) a b).map Pr.enc).flatten)) rfl (flatP_bd _ _)) ?_
  have hl : (((subN (n + 1) a b).map Pr.enc).flatten).length = (subN (n + 1) a b).length * 2 := by rw [flatP_len]; omega
  refine awp_seq (awp_run rfl (by simp only [fwA, ↓reduceIte, Nat.reduceAdd, Nat.reduceMul, Nat.reduceEqDiff, Nat.reduceLT, Nat.reduceLeDiff, reduceCtorEq, hl, flatP_chunk] <;> rfl) (awp_ret ?_))
  refine gives_end (.inl rfl) _ ?_
  simp only [fwA, ↓reduceIte, Nat.reduceAdd, Nat.reduceMul, Nat.reduceEqDiff, Nat.reduceLT, Nat.reduceLeDiff, reduceCtorEq, ares, aresL, ares1, Tryd.f41]

/-- chancel/ltype.Sub -/
theorem c12 (Γ : Nat → PV) (a b : Ty) (hw : a.w ≤ 1000000000) : Gives Tryd.prog Γ 12 [.agg a.enc, .agg b.enc] (.tup [.vec ((subOf a b).1.map Pr.enc) false, .bool (subOf a b).2]) := by
  refine fn_of_awp Tryd.func12 rfl (by simp [Tryd.f12]) rfl fun H => ?_
  refine awp_seq ?_
  -- region 0
  refine awp_run rfl (by simp only [fwA, ↓reduceIte, Nat.reduceAdd, Nat.reduceMul, Nat.reduceEqDiff, Nat.reduceLT, Nat.reduceLeDiff, reduceCtorEq] <;> rfl) ?_
  refine awp_seq ?_
  refine awp_seq ?_
  -- region 1 drawn
  refine awp_drawn [1, 0, 0, 0, 1, 0, 0, 0, 0, 1, 0, 1, 0, 0, 0, 0] [0, 1, 3, 7, 15, 31, 63, 127, 255, 511, 1023, 511, 4095, 8191, 16383, 32767] mixed rfl (by kernel_rfl) ?_
  refine dops_run 1 (by simp only [fwA, ↓reduceIte, Nat.reduceAdd, Nat.reduceMul, Nat.reduceEqDiff, Nat.reduceLT, Nat.reduceLeDiff, reduceCtorEq, ti31, Ty.fw] <;> rfl) ?_
  refine dops_fn rfl rfl rfl rfl en23 (c23 Γ a) ?_
  by_cases ha : a.Right
  rotate_left
  · have e : subOf a b = ([], false) := by unfold subOf; rw [if_neg fun h => ha h.1]
    refine dops_run 14 (by simp only [fwA, ↓reduceIte, Nat.reduceAdd, Nat.reduceMul, Nat.reduceEqDiff, Nat.reduceLT, Nat.reduceLeDiff, reduceCtorEq, ha, decide_false, Bool.not_false] <;> rfl) ?_
    refine dops_end ?_
    refine awp_cond (by simp only [fwA, ↓reduceIte, Nat.reduceAdd, Nat.reduceMul, Nat.reduceEqDiff, Nat.reduceLT, Nat.reduceLeDiff, reduceCtorEq] <;> rfl) ?_
    refine awp_seq (awp_run rfl (by simp only [fwA, ↓reduceIte, Nat.reduceAdd, Nat.reduceMul, Nat.reduceEqDiff, Nat.reduceLT, Nat.reduceLeDiff, reduceCtorEq] <;> rfl) ?_)
    refine awp_told (told_le 4 (.vec [] false) ⟨nofun, trivial⟩) (awp_ret ?_)
    exact gives_end (.inl rfl) _ (by rw [e]; rfl)
  refine dops_run 3 (by simp only [fwA, ↓reduceIte, Nat.reduceAdd, Nat.reduceMul, Nat.reduceEqDiff, Nat.reduceLT, Nat.reduceLeDiff, reduceCtorEq, ti31, ha, decide_true, Bool.not_true, Ty.fw] <;> rfl) ?_
  refine dops_fn rfl (by simp only [fwA, ↓reduceIte, Nat.reduceAdd, Nat.reduceMul, Nat.reduceEqDiff, Nat.reduceLT, Nat.reduceLeDiff, reduceCtorEq] <;> rfl) rfl rfl en23 (c23 Γ b) ?_
  by_cases hb : b.Right
  rotate_left
  · have e : subOf a b = ([], false) := by unfold subOf; rw [if_neg fun h => hb h.2.1]
    refine dops_run 10 (by simp only [fwA, ↓reduceIte, Nat.reduceAdd, Nat.reduceMul, Nat.reduceEqDiff, Nat.reduceLT, Nat.reduceLeDiff, reduceCtorEq, hb, decide_false, Bool.not_false] <;> rfl) ?_
    refine dops_end ?_
    refine awp_cond (by simp only [fwA, ↓reduceIte, Nat.reduceAdd, Nat.reduceMul, Nat.reduceEqDiff, Nat.reduceLT, Nat.reduceLeDiff, reduceCtorEq] <;> rfl) ?_
    refine awp_seq (awp_run rfl (by simp only [fwA, ↓reduceIte, Nat.reduceAdd, Nat.reduceMul, Nat.reduceEqDiff, Nat.reduceLT, Nat.reduceLeDiff, reduceCtorEq] <;> rfl) ?_)
    refine awp_told (told_le 4 (.vec [] false) ⟨nofun, trivial⟩) (awp_ret ?_)
    exact gives_end (.inl rfl) _ (by rw [e]; rfl)
  refine dops_run 4 (by simp only [fwA, ↓reduceIte, Nat.reduceAdd, Nat.reduceMul, Nat.reduceEqDiff, Nat.reduceLT, Nat.reduceLeDiff, reduceCtorEq, ti31, hb, decide_true, Bool.not_true, Ty.fw] <;> rfl) ?_
  have ea : shapeOf a = a.shape := by unfold shapeOf; rw [if_pos ha]
  have eb : shapeOf b = b.shape := by unfold shapeOf; rw [if_pos hb]
  have ia := c29 Γ a
  have ib := c29 Γ b
  rw [ea] at ia
  rw [eb] at ib
  refine dops_fn rfl (by simp only [fwA, ↓reduceIte, Nat.reduceAdd, Nat.reduceMul, Nat.reduceEqDiff, Nat.reduceLT, Nat.reduceLeDiff, reduceCtorEq] <;> rfl) rfl rfl en29 ia ?_
  refine dops_run 1 (by simp only [fwA, ↓reduceIte, Nat.reduceAdd, Nat.reduceMul, Nat.reduceEqDiff, Nat.reduceLT, Nat.reduceLeDiff, reduceCtorEq, ti31, Ty.fw] <;> rfl) ?_
  refine dops_fn rfl (by simp only [fwA, ↓reduceIte, Nat.reduceAdd, Nat.reduceMul, Nat.reduceEqDiff, Nat.reduceLT, Nat.reduceLeDiff, reduceCtorEq] <;> rfl) rfl rfl en29 ib ?_
  refine dops_fn rfl (by simp only [fwA, ↓reduceIte, Nat.reduceAdd, Nat.reduceMul, Nat.reduceEqDiff, Nat.reduceLT, Nat.reduceLeDiff, reduceCtorEq] <;> rfl) rfl rfl en35 (c35 Γ a.shape b.shape) ?_
  by_cases hs : a.shape = b.shape
  rotate_left
  · have e : subOf a b = ([], false) := by unfold subOf; rw [if_neg fun h => hs h.2.2]
    refine dops_run 2 (by simp only [fwA, ↓reduceIte, Nat.reduceAdd, Nat.reduceMul, Nat.reduceEqDiff, Nat.reduceLT, Nat.reduceLeDiff, reduceCtorEq, hs, decide_false, Bool.not_false] <;> rfl) ?_
    refine dops_end ?_
    refine awp_cond (by simp only [fwA, ↓reduceIte, Nat.reduceAdd, Nat.reduceMul, Nat.reduceEqDiff, Nat.reduceLT, Nat.reduceLeDiff, reduceCtorEq] <;> rfl) ?_
    refine awp_seq (awp_run rfl (by simp only [fwA, ↓reduceIte, Nat.reduceAdd, Nat.reduceMul, Nat.reduceEqDiff, Nat.reduceLT, Nat.reduceLeDiff, reduceCtorEq] <;> rfl) ?_)
    refine awp_told (told_le 4 (.vec [] false) ⟨nofun, trivial⟩) (awp_ret ?_)
    exact gives_end (.inl rfl) _ (by rw [e]; rfl)
  have e : subOf a b = (subN a.w a b, true) := by unfold subOf; rw [if_pos ⟨ha, hb, hs⟩]
  refine dops_run 2 (by simp only [fwA, ↓reduceIte, Nat.reduceAdd, Nat.reduceMul, Nat.reduceEqDiff, Nat.reduceLT, Nat.reduceLeDiff, reduceCtorEq, hs, decide_true, Bool.not_true] <;> rfl) ?_
  refine dops_end ?_
  refine awp_cond (by simp only [fwA, ↓reduceIte, Nat.reduceAdd, Nat.reduceMul, Nat.reduceEqDiff, Nat.reduceLT, Nat.reduceLeDiff, reduceCtorEq] <;> rfl) ?_
  refine awp_skip ?_
  refine awp_seq ?_
  -- region 3
  refine awp_region rfl ?_
  refine aops_run 2 (by simp only [fwA, ↓reduceIte, Nat.reduceAdd, Nat.reduceMul, Nat.reduceEqDiff, Nat.reduceLT, Nat.reduceLeDiff, reduceCtorEq, ti31, Ty.fw] <;> rfl) ?_
  refine aops_fn rfl rfl rfl en41 (c41 Γ a.w a b (Nat.le_refl _) hw ha hb hs) ?_
  refine aops_run 2 (by simp only [fwA, ↓reduceIte, Nat.reduceAdd, Nat.reduceMul, Nat.reduceEqDiff, Nat.reduceLT, Nat.reduceLeDiff, reduceCtorEq] <;> rfl) ?_
  refine awp_ret ?_
  exact gives_end (.inl rfl) _ (by rw [e]; rfl)

end Go.Proofs.YtlnffadolfkggaaDoor
