/- The contracts of the document's functions on cells. -/
import Derived.Test.YtinedfjknhahmaaDoorR18f
namespace Go.Proofs.YtinedfjknhahmaaDoor
set_option linter.unusedVariables false
set_option linter.unusedSimpArgs false
open Go.RowKit Fw

/-- Where a cell of a name is. -/
def fnd (l : List Sl) (nm : List UInt8) : Option Nat := l.findIdx? fun s => decide (s.name = nm)
def fndI (l : List Sl) (nm : List UInt8) : Int := match fnd l nm with | some i => (i : Int) | none => -1

theorem fnd_drop {l : List Sl} {nm : List UInt8} {i : Nat} {s : Sl} (h : l[i]? = some s) : fnd (l.drop i) nm = if s.name = nm then some 0 else (fnd (l.drop (i + 1)) nm).map (· + 1) := by
  have : l.drop i = s :: l.drop (i + 1) := by
    obtain ⟨hi, rfl⟩ := List.getElem?_eq_some_iff.1 h
    exact List.drop_eq_getElem_cons hi
  rw [this]
  unfold fnd
  rw [List.findIdx?_cons]
  by_cases e : s.name = nm <;> simp [e]

/-- chancelref18.find -/
theorem c32 (Γ : Nat → PV) (l : List Sl) (nm : List UInt8) : Gives Tryd.prog Γ 32 [.vec (l.map Sl.enc) false, .str nm] (.int .i64 (fndI l nm)) := by
  refine fn_of_awp Tryd.func32 rfl (by simp [Tryd.f32]) rfl fun H => ?_
  refine awp_seq ?_
  refine awp_run rfl (by simp only [fw0, fw1, fw2, fw3, fw4, fw5, fw6, fw7, ↓reduceIte, Nat.reduceAdd, Nat.reduceMul, Nat.reduceEqDiff, Nat.reduceLT, Nat.reduceLeDiff, reduceCtorEq, Bool.false_eq_true, Bool.not_true, Bool.not_false, and_self, Nat.le_refl] <;> rfl) ?_
  refine awp_seq ?_
  refine awp_seq ?_
  refine awp_run rfl (by simp only [fw0, fw1, fw2, fw3, fw4, fw5, fw6, fw7, ↓reduceIte, Nat.reduceAdd, Nat.reduceMul, Nat.reduceEqDiff, Nat.reduceLT, Nat.reduceLeDiff, reduceCtorEq, Bool.false_eq_true, Bool.not_true, Bool.not_false, and_self, Nat.le_refl] <;> rfl) ?_
  refine awp_block ?_
  refine awp_for [0, 1, 5] (fun i : Nat => [.vec (l.map Sl.enc) false, .str nm, .int .i64 (i : Int)]) (fun _ => H) (fun i => l.length - i)
    (fun i => i ≤ l.length ∧ fnd l nm = (fnd (l.drop i) nm).map (· + i)) 0 rfl rfl ⟨Nat.zero_le _, by simp⟩ fun i hi => ?_
  refine awp_vlen 0 rfl fun hlen => ?_
  rw [List.length_map] at hlen
  refine awp_seq ?_
  refine awp_seq ?_
  refine awp_run rfl (by simp only [fw0, fw1, fw2, fw3, fw4, fw5, fw6, fw7, ↓reduceIte, Nat.reduceAdd, Nat.reduceMul, Nat.reduceEqDiff, Nat.reduceLT, Nat.reduceLeDiff, reduceCtorEq, Bool.false_eq_true, Bool.not_true, Bool.not_false, and_self, Nat.le_refl, un44, List.length_map] <;> rfl) ?_
  refine awp_cond (by simp only [fw0, fw1, fw2, fw3, fw4, fw5, fw6, fw7, ↓reduceIte, Nat.reduceAdd, Nat.reduceMul, Nat.reduceEqDiff, Nat.reduceLT, Nat.reduceLeDiff, reduceCtorEq, Bool.false_eq_true, Bool.not_true, Bool.not_false, and_self, Nat.le_refl] <;> rfl) ?_
  by_cases hc : (i : Int) < l.length
  rotate_left
  · simp only [hc, decide_false, Bool.false_eq_true, ↓reduceIte]
    refine awp_exit ?_
    refine awp_seq (awp_run rfl (by simp only [fw0, fw1, fw2, fw3, fw4, fw5, fw6, fw7, ↓reduceIte, Nat.reduceAdd, Nat.reduceMul, Nat.reduceEqDiff, Nat.reduceLT, Nat.reduceLeDiff, reduceCtorEq, Bool.false_eq_true, Bool.not_true, Bool.not_false, and_self, Nat.le_refl] <;> rfl) (awp_ret ?_))
    have e : fndI l nm = -1 := by
      unfold fndI
      rw [hi.2, List.drop_of_length_le (by omega)]; rfl
    exact gives_end0 (.inl rfl) (by rw [e]; rfl)
  simp only [hc, decide_true, ↓reduceIte]
  refine awp_skip ?_
  have hia : i < l.length := by omega
  have ga : l[i]? = some l[i] := List.getElem?_eq_getElem hia
  refine awp_seq ?_
  refine awp_block ?_
  refine awp_seq ?_
  refine awp_run rfl (by simp only [fw0, fw1, fw2, fw3, fw4, fw5, fw6, fw7, ↓reduceIte, Nat.reduceAdd, Nat.reduceMul, Nat.reduceEqDiff, Nat.reduceLT, Nat.reduceLeDiff, reduceCtorEq, Bool.false_eq_true, Bool.not_true, Bool.not_false, and_self, Nat.le_refl, el44, fl78_0, ti9, Sl.fw, List.getElem?_map, ga, Option.map_some, Int.natCast_nonneg] <;> rfl) ?_
  refine awp_cond (by simp only [fw0, fw1, fw2, fw3, fw4, fw5, fw6, fw7, ↓reduceIte, Nat.reduceAdd, Nat.reduceMul, Nat.reduceEqDiff, Nat.reduceLT, Nat.reduceLeDiff, reduceCtorEq, Bool.false_eq_true, Bool.not_true, Bool.not_false, and_self, Nat.le_refl] <;> rfl) ?_
  by_cases hn : l[i].name = nm
  · simp only [hn, decide_true, ↓reduceIte]
    refine awp_seq (awp_run rfl (by simp only [fw0, fw1, fw2, fw3, fw4, fw5, fw6, fw7, ↓reduceIte, Nat.reduceAdd, Nat.reduceMul, Nat.reduceEqDiff, Nat.reduceLT, Nat.reduceLeDiff, reduceCtorEq, Bool.false_eq_true, Bool.not_true, Bool.not_false, and_self, Nat.le_refl] <;> rfl) (awp_ret ?_))
    have e : fndI l nm = i := by
      unfold fndI
      rw [hi.2, fnd_drop ga, if_pos hn]; simp
    exact gives_end0 (.inl rfl) (by rw [e]; rfl)
  simp only [hn, decide_false, Bool.false_eq_true, ↓reduceIte]
  refine awp_skip ?_
  refine awp_run rfl (by simp only [fw0, fw1, fw2, fw3, fw4, fw5, fw6, fw7, ↓reduceIte, Nat.reduceAdd, Nat.reduceMul, Nat.reduceEqDiff, Nat.reduceLT, Nat.reduceLeDiff, reduceCtorEq, Bool.false_eq_true, Bool.not_true, Bool.not_false, and_self, Nat.le_refl] <;> rfl) ?_
  refine ⟨i + 1, by omega, ⟨by omega, ?_⟩, by rw [wrapS i (by omega)]; rfl, rfl, rfl⟩
  rw [hi.2, fnd_drop ga, if_neg hn, Option.map_map]
  congr 1
  funext k
  simp only [Function.comp]; omega

theorem fnd_lt {l : List Sl} {nm : List UInt8} {i : Nat} (h : fnd l nm = some i) : i < l.length := by
  unfold fnd at h
  exact (List.findIdx?_eq_some_iff_getElem.1 h).1
theorem fnd_name {l : List Sl} {nm : List UInt8} {i : Nat} (h : fnd l nm = some i) : (l[i]'(fnd_lt h)).name = nm := by
  unfold fnd at h
  have := (List.findIdx?_eq_some_iff_getElem.1 h).2.1
  simpa using this

/-- What is read of cells. -/
def readV (l : List Sl) (nm : List UInt8) : Option Int := (fnd l nm).bind fun i => (l[i]?).map (·.n)
def readP (l : List Sl) (nm : List UInt8) : PV := .tup [.int .i64 ((readV l nm).getD 0), .bool (readV l nm).isSome]

/-- chancelref18.Read -/
theorem c14 (Γ : Nat → PV) (l : List Sl) (nm : List UInt8) : Gives Tryd.prog Γ 14 [.vec (l.map Sl.enc) false, .str nm] (readP l nm) := by
  refine fn_of_awp Tryd.func14 rfl (by simp [Tryd.f14]) rfl fun H => ?_
  refine awp_seq ?_
  -- region 0
  refine awp_run rfl (by simp only [fw0, fw1, fw2, fw3, fw4, fw5, fw6, fw7, ↓reduceIte, Nat.reduceAdd, Nat.reduceMul, Nat.reduceEqDiff, Nat.reduceLT, Nat.reduceLeDiff, reduceCtorEq, Bool.false_eq_true, Bool.not_true, Bool.not_false, and_self, Nat.le_refl] <;> rfl) ?_
  refine awp_seq ?_
  -- region 1
  refine awp_region rfl ?_
  refine aops_run 2 (by simp only [fw0, fw1, fw2, fw3, fw4, fw5, fw6, fw7, ↓reduceIte, Nat.reduceAdd, Nat.reduceMul, Nat.reduceEqDiff, Nat.reduceLT, Nat.reduceLeDiff, reduceCtorEq, Bool.false_eq_true, Bool.not_true, Bool.not_false, and_self, Nat.le_refl] <;> rfl) ?_
  refine aops_fn rfl rfl rfl en32 (c32 Γ _ _) ?_
  refine aops_run 1 (by simp only [fw0, fw1, fw2, fw3, fw4, fw5, fw6, fw7, ↓reduceIte, Nat.reduceAdd, Nat.reduceMul, Nat.reduceEqDiff, Nat.reduceLT, Nat.reduceLeDiff, reduceCtorEq, Bool.false_eq_true, Bool.not_true, Bool.not_false, and_self, Nat.le_refl] <;> rfl) ?_
  refine awp_seq ?_
  refine awp_seq ?_
  -- region 2
  refine awp_run rfl (by simp only [fw0, fw1, fw2, fw3, fw4, fw5, fw6, fw7, ↓reduceIte, Nat.reduceAdd, Nat.reduceMul, Nat.reduceEqDiff, Nat.reduceLT, Nat.reduceLeDiff, reduceCtorEq, Bool.false_eq_true, Bool.not_true, Bool.not_false, and_self, Nat.le_refl] <;> rfl) ?_
  refine awp_cond (by simp only [fw0, fw1, fw2, fw3, fw4, fw5, fw6, fw7, ↓reduceIte, Nat.reduceAdd, Nat.reduceMul, Nat.reduceEqDiff, Nat.reduceLT, Nat.reduceLeDiff, reduceCtorEq, Bool.false_eq_true, Bool.not_true, Bool.not_false, and_self, Nat.le_refl] <;> rfl) ?_
  cases hf : fnd l nm with
  | none =>
    have e : fndI l nm = -1 := by unfold fndI; rw [hf]
    simp only [e, show decide ((-1 : Int) < 0) = true from rfl, ↓reduceIte]
    refine awp_seq (awp_run rfl (by simp only [fw0, fw1, fw2, fw3, fw4, fw5, fw6, fw7, ↓reduceIte, Nat.reduceAdd, Nat.reduceMul, Nat.reduceEqDiff, Nat.reduceLT, Nat.reduceLeDiff, reduceCtorEq, Bool.false_eq_true, Bool.not_true, Bool.not_false, and_self, Nat.le_refl] <;> rfl) (awp_ret ?_))
    exact gives_end0 (.inl rfl) (by simp [readP, readV, hf, ares, aresL, ares1, alook, Tryd.f14])
  | some i =>
    have e : fndI l nm = i := by unfold fndI; rw [hf]
    have hi := fnd_lt hf
    have ga : l[i]? = some l[i] := List.getElem?_eq_getElem hi
    have h0 : ¬ ((i : Int) < 0) := by omega
    simp only [e, h0, decide_false, Bool.false_eq_true, ↓reduceIte]
    refine awp_skip ?_
    refine awp_seq (awp_run rfl (by simp only [fw0, fw1, fw2, fw3, fw4, fw5, fw6, fw7, ↓reduceIte, Nat.reduceAdd, Nat.reduceMul, Nat.reduceEqDiff, Nat.reduceLT, Nat.reduceLeDiff, reduceCtorEq, Bool.false_eq_true, Bool.not_true, Bool.not_false, and_self, Nat.le_refl, e, el44, fl78_1, ti2, Sl.fw, List.getElem?_map, ga, Option.map_some, Int.natCast_nonneg] <;> rfl) (awp_ret ?_))
    exact gives_end0 (.inl rfl) (by simp [readP, readV, hf, ga, ares, aresL, ares1, alook, Tryd.f14])

theorem Sl.flat_set (l : List Sl) (i : Nat) (n : Int) (h : i < l.length) : splice ((l.map Sl.enc).flatten) (i * 2 + 1) [.int .i64 n] = ((l.set i ⟨l[i].name, n⟩).map Sl.enc).flatten := by
  induction l generalizing i with
  | nil => simp at h
  | cons s l ih =>
    cases i with
    | zero => simp [splice, Sl.enc]
    | succ i =>
      have := ih i (by simpa using h)
      simp only [splice, List.length_cons, List.length_nil, Nat.zero_add] at this ⊢
      simp only [List.map_cons, List.flatten_cons, List.set_cons_succ, List.getElem_cons_succ]
      rw [← this, show (i + 1) * 2 + 1 = i * 2 + 1 + 1 + 1 by omega]
      rfl

theorem awp_heap {P : Program} {Γ : Nat → PV} {N : Nat} {ro : Option Nat} {c : Code} {A : List (Nat × PV)} {H H' : List Blk} {D : List Nat} {Q : Post} (hH : H = H') (h : AWP P Γ N ro c A H' D Q) : AWP P Γ N ro c A H D Q := hH ▸ h

/-- What is written to cells. -/
def writeV (l : List Sl) (nm : List UInt8) (n : Int) : Option (List Sl) := (fnd l nm).map fun i => l.set i ⟨nm, n⟩
def writeP (l : List Sl) (nm : List UInt8) (n : Int) : PV := .tup [.vec (((writeV l nm n).getD l).map Sl.enc) false, .bool (writeV l nm n).isSome]

/-- chancelref18.Write -/
theorem c17 (Γ : Nat → PV) (l : List Sl) (nm : List UInt8) (n : Int) (hl24 : l.length * 24 ≤ reachBytes) : Gives Tryd.prog Γ 17 [.vec (l.map Sl.enc) false, .str nm, .int .i64 n] (writeP l nm n) := by
  refine fn_of_awp Tryd.func17 rfl (by simp [Tryd.f17]) rfl fun H => ?_
  refine awp_seq ?_
  -- region 0
  refine awp_run rfl (by simp only [fw0, fw1, fw2, fw3, fw4, fw5, fw6, fw7, ↓reduceIte, Nat.reduceAdd, Nat.reduceMul, Nat.reduceEqDiff, Nat.reduceLT, Nat.reduceLeDiff, reduceCtorEq, Bool.false_eq_true, Bool.not_true, Bool.not_false, and_self, Nat.le_refl] <;> rfl) ?_
  refine awp_vlen 0 rfl fun hlen => ?_
  rw [List.length_map] at hlen
  refine awp_seq ?_
  -- region 1
  refine awp_region rfl ?_
  refine aops_run 2 (by simp only [fw0, fw1, fw2, fw3, fw4, fw5, fw6, fw7, ↓reduceIte, Nat.reduceAdd, Nat.reduceMul, Nat.reduceEqDiff, Nat.reduceLT, Nat.reduceLeDiff, reduceCtorEq, Bool.false_eq_true, Bool.not_true, Bool.not_false, and_self, Nat.le_refl] <;> rfl) ?_
  refine aops_fn rfl rfl rfl en32 (c32 Γ _ _) ?_
  refine aops_run 1 (by simp only [fw0, fw1, fw2, fw3, fw4, fw5, fw6, fw7, ↓reduceIte, Nat.reduceAdd, Nat.reduceMul, Nat.reduceEqDiff, Nat.reduceLT, Nat.reduceLeDiff, reduceCtorEq, Bool.false_eq_true, Bool.not_true, Bool.not_false, and_self, Nat.le_refl] <;> rfl) ?_
  refine awp_seq ?_
  refine awp_seq ?_
  -- region 2
  refine awp_run rfl (by simp only [fw0, fw1, fw2, fw3, fw4, fw5, fw6, fw7, ↓reduceIte, Nat.reduceAdd, Nat.reduceMul, Nat.reduceEqDiff, Nat.reduceLT, Nat.reduceLeDiff, reduceCtorEq, Bool.false_eq_true, Bool.not_true, Bool.not_false, and_self, Nat.le_refl] <;> rfl) ?_
  refine awp_cond (by simp only [fw0, fw1, fw2, fw3, fw4, fw5, fw6, fw7, ↓reduceIte, Nat.reduceAdd, Nat.reduceMul, Nat.reduceEqDiff, Nat.reduceLT, Nat.reduceLeDiff, reduceCtorEq, Bool.false_eq_true, Bool.not_true, Bool.not_false, and_self, Nat.le_refl] <;> rfl) ?_
  cases hf : fnd l nm with
  | none =>
    have e : fndI l nm = -1 := by unfold fndI; rw [hf]
    simp only [e, show decide ((-1 : Int) < 0) = true from rfl, ↓reduceIte]
    refine awp_seq (awp_run rfl (by simp only [fw0, fw1, fw2, fw3, fw4, fw5, fw6, fw7, ↓reduceIte, Nat.reduceAdd, Nat.reduceMul, Nat.reduceEqDiff, Nat.reduceLT, Nat.reduceLeDiff, reduceCtorEq, Bool.false_eq_true, Bool.not_true, Bool.not_false, and_self, Nat.le_refl] <;> rfl) (awp_ret ?_))
    exact gives_end0 (.inl rfl) (by simp [writeP, writeV, hf, ares, aresL, ares1, alook, Tryd.f17])
  | some i =>
    have e : fndI l nm = i := by unfold fndI; rw [hf]
    have hi := fnd_lt hf
    have ga : l[i]? = some l[i] := List.getElem?_eq_getElem hi
    have h0 : ¬ ((i : Int) < 0) := by omega
    simp only [e, h0, decide_false, Bool.false_eq_true, ↓reduceIte]
    refine awp_skip ?_
    refine awp_seq ?_
    -- region 4
    refine awp_region rfl ?_
    refine aops_run 1 (by simp only [fw0, fw1, fw2, fw3, fw4, fw5, fw6, fw7, ↓reduceIte, Nat.reduceAdd, Nat.reduceMul, Nat.reduceEqDiff, Nat.reduceLT, Nat.reduceLeDiff, reduceCtorEq, Bool.false_eq_true, Bool.not_true, Bool.not_false, and_self, Nat.le_refl] <;> rfl) ?_
    refine aops_one rfl (os_appendNew rfl un44 ti78 un44 (.inl ⟨_, rfl⟩) (by decide) rfl (by simp only [fw0, fw1, fw2, fw3, fw4, fw5, fw6, fw7, ↓reduceIte, Nat.reduceAdd, Nat.reduceMul, Nat.reduceEqDiff, Nat.reduceLT, Nat.reduceLeDiff, reduceCtorEq, Bool.false_eq_true, Bool.not_true, Bool.not_false, and_self, Nat.le_refl] <;> rfl) (fun es f h e he => by
      simp only [fw0, fw1, fw2, fw3, fw4, fw5, fw6, fw7, ↓reduceIte, Nat.reduceAdd, Nat.reduceMul, Nat.reduceEqDiff, Nat.reduceLT, Nat.reduceLeDiff, reduceCtorEq, Bool.false_eq_true, Bool.not_true, Bool.not_false, and_self, Nat.le_refl, PV.vec.injEq] at h
      obtain ⟨rfl, rfl⟩ := h
      obtain ⟨x, _, rfl⟩ := List.mem_map.1 he
      rfl) (by simp only [fw0, fw1, fw2, fw3, fw4, fw5, fw6, fw7, ↓reduceIte, Nat.reduceAdd, Nat.reduceMul, Nat.reduceEqDiff, Nat.reduceLT, Nat.reduceLeDiff, reduceCtorEq, Bool.false_eq_true, Bool.not_true, Bool.not_false, and_self, Nat.le_refl] <;> rfl) (by unfold reachBytes at hl24; rw [List.length_map]; show l.length * 24 ≤ _; omega) (by rw [List.length_map]; omega) ?_)
    refine aops_run 1 (by simp only [fw0, fw1, fw2, fw3, fw4, fw5, fw6, fw7, ↓reduceIte, Nat.reduceAdd, Nat.reduceMul, Nat.reduceEqDiff, Nat.reduceLT, Nat.reduceLeDiff, reduceCtorEq, Bool.false_eq_true, Bool.not_true, Bool.not_false, and_self, Nat.le_refl] <;> rfl) ?_
    refine awp_seq ?_
    -- region 5
    refine awp_region rfl ?_
    refine aops_run 3 (by simp only [fw0, fw1, fw2, fw3, fw4, fw5, fw6, fw7, ↓reduceIte, Nat.reduceAdd, Nat.reduceMul, Nat.reduceEqDiff, Nat.reduceLT, Nat.reduceLeDiff, reduceCtorEq, Bool.false_eq_true, Bool.not_true, Bool.not_false, and_self, Nat.le_refl, e] <;> rfl) ?_
    refine aops_one rfl (os_index_row (sz := 2) rfl el44 rfl rfl (by simp only [fw0, fw1, fw2, fw3, fw4, fw5, fw6, fw7, ↓reduceIte, Nat.reduceAdd, Nat.reduceMul, Nat.reduceEqDiff, Nat.reduceLT, Nat.reduceLeDiff, reduceCtorEq, Bool.false_eq_true, Bool.not_true, Bool.not_false, and_self, Nat.le_refl] <;> rfl) (by rw [flat_len Sl.enc_len, List.length_map]; exact (Nat.zero_add _).symm) (by omega) (by rw [List.length_map]; omega) ?_)
    refine aops_run 1 (by simp only [fw0, fw1, fw2, fw3, fw4, fw5, fw6, fw7, ↓reduceIte, Nat.reduceAdd, Nat.reduceMul, Nat.reduceEqDiff, Nat.reduceLT, Nat.reduceLeDiff, reduceCtorEq, Bool.false_eq_true, Bool.not_true, Bool.not_false, and_self, Nat.le_refl, fl78_1] <;> rfl) ?_
    refine aops_one rfl (os_storeE rfl ti2 rfl (by simp only [fw0, fw1, fw2, fw3, fw4, fw5, fw6, fw7, ↓reduceIte, Nat.reduceAdd, Nat.reduceMul, Nat.reduceEqDiff, Nat.reduceLT, Nat.reduceLeDiff, reduceCtorEq, Bool.false_eq_true, Bool.not_true, Bool.not_false, and_self, Nat.le_refl] <;> rfl) rfl rfl rfl (by rw [flat_len Sl.enc_len]; simp only [Int.toNat_natCast]; omega) (by decide) ?_)
    refine awp_seq ?_
    have hfl := Sl.flat_set l i n hi
    rw [fnd_name hf] at hfl
    refine awp_heap (H' := H ++ [.row 2 (((l.set i ⟨nm, n⟩).map Sl.enc).flatten)]) (by rw [← hfl]; simp only [fw0, fw1, fw2, fw3, fw4, fw5, fw6, fw7, ↓reduceIte, Nat.reduceAdd, Nat.reduceMul, Nat.reduceEqDiff, Nat.reduceLT, Nat.reduceLeDiff, reduceCtorEq, Bool.false_eq_true, Bool.not_true, Bool.not_false, and_self, Nat.le_refl]) ?_
    refine awp_told (told_freezeAt H _ 0 (C := (((l.set i ⟨nm, n⟩).map Sl.enc).flatten)) rfl (flat_bd (fun _ => rfl) _)) ?_
    have hl : (((l.set i ⟨nm, n⟩).map Sl.enc).flatten).length = l.length * 2 := by rw [flat_len Sl.enc_len, List.length_set]
    have hch : chunk 2 l.length (((l.set i ⟨nm, n⟩).map Sl.enc).flatten) = (l.set i ⟨nm, n⟩).map Sl.enc := by
      have := flat_chunk Sl.enc_len (l.set i ⟨nm, n⟩)
      rwa [List.length_set] at this
    refine awp_run rfl (by simp only [fw0, fw1, fw2, fw3, fw4, fw5, fw6, fw7, ↓reduceIte, Nat.reduceAdd, Nat.reduceMul, Nat.reduceEqDiff, Nat.reduceLT, Nat.reduceLeDiff, reduceCtorEq, Bool.false_eq_true, Bool.not_true, Bool.not_false, and_self, Nat.le_refl, hl, hch, List.length_map] <;> rfl) ?_
    refine awp_ret ?_
    refine gives_end (.inl rfl) _ ?_
    simp [writeP, writeV, hf, ares, aresL, ares1, alook, Tryd.f17]

end Go.Proofs.YtinedfjknhahmaaDoor
