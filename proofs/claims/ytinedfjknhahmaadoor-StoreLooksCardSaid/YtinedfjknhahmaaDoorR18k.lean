/- The contracts of what the program writes to cells, and of its names. -/
import Derived.Test.YtinedfjknhahmaaDoorR18j
import Derived.Test.YtinedfjknhahmaaDoorFwW
namespace Go.Proofs.YtinedfjknhahmaaDoor
set_option linter.unusedVariables false
set_option linter.unusedSimpArgs false
open Go.RowKit Fw

/-- slices.Clone, of cells -/
theorem c33 (Γ : Nat → PV) (H : List Blk) (l : List Sl) (hne : l ≠ []) (hl24 : l.length * 24 ≤ reachBytes) :
    ACalls Tryd.prog Γ 33 [.vec (l.map Sl.enc) false] H (fun p H' => p = .row H.length 0 l.length 2 ∧ H' = H ++ [.row 2 ((l.map Sl.enc).flatten)]) := by
  refine acalls_of_awp Tryd.func33 rfl (by simp [Tryd.f33]) fun hbd => ?_
  refine awp_vlen 0 rfl fun hlen => ?_
  rw [List.length_map] at hlen
  refine awp_seq ?_
  refine awp_run rfl (by simp only [fw0, fw1, fw2, fw3, fw4, fw5, fw6, fw7, ↓reduceIte, Nat.reduceAdd, Nat.reduceMul, Nat.reduceEqDiff, Nat.reduceLT, Nat.reduceLeDiff, reduceCtorEq, Bool.false_eq_true, Bool.not_true, Bool.not_false, and_self, Nat.le_refl] <;> rfl) ?_
  refine awp_seq ?_
  refine awp_seq ?_
  -- region 1
  refine awp_region rfl ?_
  refine aops_run 1 (by simp only [fw0, fw1, fw2, fw3, fw4, fw5, fw6, fw7, ↓reduceIte, Nat.reduceAdd, Nat.reduceMul, Nat.reduceEqDiff, Nat.reduceLT, Nat.reduceLeDiff, reduceCtorEq, Bool.false_eq_true, Bool.not_true, Bool.not_false, and_self, Nat.le_refl] <;> rfl) ?_
  refine aops_one rfl (os_nilSlice rfl un28 rfl (.inl rfl) fun b p hb hp => ?_)
  obtain rfl : b = false := hb (by simpa using hne)
  obtain rfl : p = .bool false := by simpa [eqv] using hp.symm
  refine awp_cond (by simp only [fw0, fw1, fw2, fw3, fw4, fw5, fw6, fw7, ↓reduceIte, Nat.reduceAdd, Nat.reduceMul, Nat.reduceEqDiff, Nat.reduceLT, Nat.reduceLeDiff, reduceCtorEq, Bool.false_eq_true, Bool.not_true, Bool.not_false, and_self, Nat.le_refl] <;> rfl) ?_
  refine awp_skip ?_
  refine awp_seq ?_
  -- region 3
  refine awp_region rfl ?_
  refine aops_run 2 (by simp only [fw0, fw1, fw2, fw3, fw4, fw5, fw6, fw7, ↓reduceIte, Nat.reduceAdd, Nat.reduceMul, Nat.reduceEqDiff, Nat.reduceLT, Nat.reduceLeDiff, reduceCtorEq, Bool.false_eq_true, Bool.not_true, Bool.not_false, and_self, Nat.le_refl, un28, ti65] <;> rfl) ?_
  refine aops_one rfl (os_appendNew rfl un28 ti65 un28 (.inl ⟨_, rfl⟩) (by decide) rfl (by simp only [fw0, fw1, fw2, fw3, fw4, fw5, fw6, fw7, ↓reduceIte, Nat.reduceAdd, Nat.reduceMul, Nat.reduceEqDiff, Nat.reduceLT, Nat.reduceLeDiff, reduceCtorEq, Bool.false_eq_true, Bool.not_true, Bool.not_false, and_self, Nat.le_refl] <;> rfl) (fun es f h e he => by
      simp only [fw0, fw1, fw2, fw3, fw4, fw5, fw6, fw7, ↓reduceIte, Nat.reduceAdd, Nat.reduceMul, Nat.reduceEqDiff, Nat.reduceLT, Nat.reduceLeDiff, reduceCtorEq, Bool.false_eq_true, Bool.not_true, Bool.not_false, and_self, Nat.le_refl, PV.vec.injEq] at h
      obtain ⟨rfl, rfl⟩ := h
      obtain ⟨x, _, rfl⟩ := List.mem_map.1 he
      rfl) (by simp only [fw0, fw1, fw2, fw3, fw4, fw5, fw6, fw7, ↓reduceIte, Nat.reduceAdd, Nat.reduceMul, Nat.reduceEqDiff, Nat.reduceLT, Nat.reduceLeDiff, reduceCtorEq, Bool.false_eq_true, Bool.not_true, Bool.not_false, and_self, Nat.le_refl] <;> rfl) (by unfold reachBytes at hl24; rw [List.length_map]; show l.length * 24 ≤ _; omega) (by rw [List.length_map]; omega) ?_)
  refine aops_run 1 (by simp only [fw0, fw1, fw2, fw3, fw4, fw5, fw6, fw7, ↓reduceIte, Nat.reduceAdd, Nat.reduceMul, Nat.reduceEqDiff, Nat.reduceLT, Nat.reduceLeDiff, reduceCtorEq, Bool.false_eq_true, Bool.not_true, Bool.not_false, and_self, Nat.le_refl] <;> rfl) ?_
  refine awp_bd fun hbd' => ?_
  refine awp_ret ?_
  exact calls_at (p := .row H.length 0 l.length 2) (.inl rfl) hbd' (by simp [ares, aresL, ares1, alook, Tryd.f33]) (by simp [PV.bd]) (by simp) ⟨rfl, rfl⟩

/-- store.Write -/
theorem c16 (Γ : Nat → PV) (l : List Sl) (nm : List UInt8) (n : Int) (hl24 : l.length * 24 ≤ reachBytes) : Gives Tryd.prog Γ 16 [.vec (l.map Sl.enc) false, .str nm, .int .i64 n] (writeP l nm n) := by
  refine fn_of_awp Tryd.func16 rfl (by simp [Tryd.f16]) rfl fun H => ?_
  refine awp_seq ?_
  -- region 0
  refine awp_run rfl (by simp only [fw0, fw1, fw2, fw3, fw4, fw5, fw6, fw7, ↓reduceIte, Nat.reduceAdd, Nat.reduceMul, Nat.reduceEqDiff, Nat.reduceLT, Nat.reduceLeDiff, reduceCtorEq, Bool.false_eq_true, Bool.not_true, Bool.not_false, and_self, Nat.le_refl] <;> rfl) ?_
  refine awp_vlen 0 rfl fun hlen => ?_
  rw [List.length_map] at hlen
  refine awp_seq ?_
  -- region 1
  refine awp_region rfl ?_
  refine aops_run 2 (by simp only [fw0, fw1, fw2, fw3, fw4, fw5, fw6, fw7, ↓reduceIte, Nat.reduceAdd, Nat.reduceMul, Nat.reduceEqDiff, Nat.reduceLT, Nat.reduceLeDiff, reduceCtorEq, Bool.false_eq_true, Bool.not_true, Bool.not_false, and_self, Nat.le_refl] <;> rfl) ?_
  refine aops_fn rfl rfl rfl en31 (c31 Γ _ _) ?_
  refine aops_run 1 (by simp only [fw0, fw1, fw2, fw3, fw4, fw5, fw6, fw7, ↓reduceIte, Nat.reduceAdd, Nat.reduceMul, Nat.reduceEqDiff, Nat.reduceLT, Nat.reduceLeDiff, reduceCtorEq, Bool.false_eq_true, Bool.not_true, Bool.not_false, and_self, Nat.le_refl] <;> rfl) ?_
  refine awp_seq ?_
  refine awp_seq ?_
  -- region 2
  refine awp_run rfl (by simp only [fw0, fw1, fw2, fw3, fw4, fw5, fw6, fw7, ↓reduceIte, Nat.reduceAdd, Nat.reduceMul, Nat.reduceEqDiff, Nat.reduceLT, Nat.reduceLeDiff, reduceCtorEq, Bool.false_eq_true, Bool.not_true, Bool.not_false, and_self, Nat.le_refl] <;> rfl) ?_
  refine awp_cond (by simp only [fw0, fw1, fw2, fw3, fw4, fw5, fw6, fw7, ↓reduceIte, Nat.reduceAdd, Nat.reduceMul, Nat.reduceEqDiff, Nat.reduceLT, Nat.reduceLeDiff, reduceCtorEq, Bool.false_eq_true, Bool.not_true, Bool.not_false, and_self, Nat.le_refl] <;> rfl) ?_
  cases hf : fnd l nm with
  | none =>
    have e : fndI l nm = -1 := by unfold fndI; rw [hf]
    simp only [e, show decide ((-1 : Int) < 0) = true from rfl, ↓reduceIte]
    refine awp_seq (awp_run rfl (by simp only [fw0, fw1, fw2, fw3, fw4, fw5, fw6, fw7, ↓reduceIte, Nat.reduceAdd, Nat.reduceMul, Nat.reduceEqDiff, Nat.reduceLT, Nat.reduceLeDiff, reduceCtorEq, Bool.false_eq_true, Bool.not_true, Bool.not_false, and_self, Nat.le_refl] <;> rfl) (awp_ret ?_))
    exact gives_end0 (.inl rfl) (by simp [writeP, writeV, hf, ares, aresL, ares1, alook, Tryd.f16])
  | some i =>
    have e : fndI l nm = i := by unfold fndI; rw [hf]
    have hi := fnd_lt hf
    have ga : l[i]? = some l[i] := List.getElem?_eq_getElem hi
    have h0 : ¬ ((i : Int) < 0) := by omega
    simp only [e, h0, decide_false, Bool.false_eq_true, ↓reduceIte]
    refine awp_skip ?_
    refine awp_seq ?_
    -- region 4
    refine awp_region rfl ?_
    refine aops_run 1 (by simp only [fw0, fw1, fw2, fw3, fw4, fw5, fw6, fw7, ↓reduceIte, Nat.reduceAdd, Nat.reduceMul, Nat.reduceEqDiff, Nat.reduceLT, Nat.reduceLeDiff, reduceCtorEq, Bool.false_eq_true, Bool.not_true, Bool.not_false, and_self, Nat.le_refl] <;> rfl) ?_
    refine aops_call rfl rfl rfl en33 ((c33 Γ _ l (fun h => by subst h; simp at hi) hl24).mono fun p H' hp => ?_)
    obtain ⟨rfl, rfl⟩ := hp
    refine aops_run 1 (by simp only [fw0, fw1, fw2, fw3, fw4, fw5, fw6, fw7, ↓reduceIte, Nat.reduceAdd, Nat.reduceMul, Nat.reduceEqDiff, Nat.reduceLT, Nat.reduceLeDiff, reduceCtorEq, Bool.false_eq_true, Bool.not_true, Bool.not_false, and_self, Nat.le_refl] <;> rfl) ?_
    refine awp_seq ?_
    -- region 5
    refine awp_region rfl ?_
    refine aops_run 3 (by simp only [fw0, fw1, fw2, fw3, fw4, fw5, fw6, fw7, ↓reduceIte, Nat.reduceAdd, Nat.reduceMul, Nat.reduceEqDiff, Nat.reduceLT, Nat.reduceLeDiff, reduceCtorEq, Bool.false_eq_true, Bool.not_true, Bool.not_false, and_self, Nat.le_refl, e] <;> rfl) ?_
    refine aops_one rfl (os_index_row (sz := 2) rfl el28 rfl rfl (by simp only [fw0, fw1, fw2, fw3, fw4, fw5, fw6, fw7, ↓reduceIte, Nat.reduceAdd, Nat.reduceMul, Nat.reduceEqDiff, Nat.reduceLT, Nat.reduceLeDiff, reduceCtorEq, Bool.false_eq_true, Bool.not_true, Bool.not_false, and_self, Nat.le_refl] <;> rfl) (by rw [flat_len Sl.enc_len]; exact (Nat.zero_add _).symm) (by omega) (by omega) ?_)
    refine aops_run 1 (by simp only [fw0, fw1, fw2, fw3, fw4, fw5, fw6, fw7, ↓reduceIte, Nat.reduceAdd, Nat.reduceMul, Nat.reduceEqDiff, Nat.reduceLT, Nat.reduceLeDiff, reduceCtorEq, Bool.false_eq_true, Bool.not_true, Bool.not_false, and_self, Nat.le_refl, fl65_1] <;> rfl) ?_
    refine aops_one rfl (os_storeE rfl ti2 rfl (by simp only [fw0, fw1, fw2, fw3, fw4, fw5, fw6, fw7, ↓reduceIte, Nat.reduceAdd, Nat.reduceMul, Nat.reduceEqDiff, Nat.reduceLT, Nat.reduceLeDiff, reduceCtorEq, Bool.false_eq_true, Bool.not_true, Bool.not_false, and_self, Nat.le_refl] <;> rfl) rfl rfl rfl (by rw [flat_len Sl.enc_len]; simp only [Int.toNat_natCast]; omega) (by decide) ?_)
    refine awp_seq ?_
    have hfl := Sl.flat_set l i n hi
    rw [fnd_name hf] at hfl
    refine awp_heap (H' := H ++ [.row 2 (((l.set i ⟨nm, n⟩).map Sl.enc).flatten)]) (by rw [← hfl]; simp only [fw0, fw1, fw2, fw3, fw4, fw5, fw6, fw7, ↓reduceIte, Nat.reduceAdd, Nat.reduceMul, Nat.reduceEqDiff, Nat.reduceLT, Nat.reduceLeDiff, reduceCtorEq, Bool.false_eq_true, Bool.not_true, Bool.not_false, and_self, Nat.le_refl]) ?_
    refine awp_told (told_freezeAt H _ 0 (C := (((l.set i ⟨nm, n⟩).map Sl.enc).flatten)) rfl (flat_bd (fun _ => rfl) _)) ?_
    have hl : (((l.set i ⟨nm, n⟩).map Sl.enc).flatten).length = l.length * 2 := by rw [flat_len Sl.enc_len, List.length_set]
    have hch : chunk 2 l.length (((l.set i ⟨nm, n⟩).map Sl.enc).flatten) = (l.set i ⟨nm, n⟩).map Sl.enc := by
      have := flat_chunk Sl.enc_len (l.set i ⟨nm, n⟩)
      rwa [List.length_set] at this
    refine awp_run rfl (by simp only [fw0, fw1, fw2, fw3, fw4, fw5, fw6, fw7, ↓reduceIte, Nat.reduceAdd, Nat.reduceMul, Nat.reduceEqDiff, Nat.reduceLT, Nat.reduceLeDiff, reduceCtorEq, Bool.false_eq_true, Bool.not_true, Bool.not_false, and_self, Nat.le_refl, hl, hch] <;> rfl) ?_
    refine awp_ret ?_
    refine gives_end (.inl rfl) _ ?_
    simp [writeP, writeV, hf, ares, aresL, ares1, alook, Tryd.f16]

/-- slices.Backward, of names -/
theorem c30 (Γ : Nat → PV) (H : List Blk) (l : List Bd) : ACalls Tryd.prog Γ 30 [.vec (l.map Bd.enc) false] H (fun p H' => p = .func (.func 49) [] [.ptr H.length 0] ∧ H' = H ++ [.box [.vec (l.map Bd.enc) false]]) := by
  refine acalls_of_awp Tryd.func30 rfl (by simp [Tryd.f30]) fun hbd => ?_
  refine awp_seq ?_
  refine awp_run rfl (by simp only [fw0, fw1, fw2, fw3, fw4, fw5, fw6, fw7, ↓reduceIte, Nat.reduceAdd, Nat.reduceMul, Nat.reduceEqDiff, Nat.reduceLT, Nat.reduceLeDiff, reduceCtorEq, Bool.false_eq_true, Bool.not_true, Bool.not_false, and_self, Nat.le_refl] <;> rfl) ?_
  refine awp_seq ?_
  refine awp_run rfl (by simp only [fw0, fw1, fw2, fw3, fw4, fw5, fw6, fw7, ↓reduceIte, Nat.reduceAdd, Nat.reduceMul, Nat.reduceEqDiff, Nat.reduceLT, Nat.reduceLeDiff, reduceCtorEq, Bool.false_eq_true, Bool.not_true, Bool.not_false, and_self, Nat.le_refl] <;> rfl) ?_
  refine awp_bd fun hbd' => ?_
  refine awp_ret ?_
  exact calls_at (p := .func (.func 49) [] [.ptr H.length 0]) (.inl rfl) hbd' rfl (by simp [PV.bd, PV.bdL]) (by simp) ⟨rfl, rfl⟩

/-- What Backward hands on: the last one first. -/
def bwd (l : List Bd) : List (List PV) := (List.range l.length).map fun k => [.int .i64 (prd (l.length - k)), .agg (((l.reverse)[k]?).map Bd.enc |>.getD [])]

theorem bwd_at {l : List Bd} {k : Nat} {x : List PV} (h : (bwd l)[k]? = some x) : ∃ hk : k < l.length, x = [.int .i64 ((l.length - (k + 1) : Nat) : Int), .agg (l[l.length - (k + 1)]).enc] := by
  unfold bwd at h
  rw [List.getElem?_map] at h
  obtain ⟨j, hj, rfl⟩ := Option.map_eq_some_iff.1 h
  have hk : k < l.length := by
    have := (List.getElem?_eq_some_iff.1 hj).1
    simpa using this
  rw [List.getElem?_range hk] at hj
  obtain rfl := Option.some.inj hj
  refine ⟨hk, ?_⟩
  have hr : l.reverse[k]? = some l[l.length - (k + 1)] := by
    rw [List.getElem?_reverse hk, show l.length - 1 - k = l.length - (k + 1) by omega]
    exact List.getElem?_eq_getElem (by omega)
  have hp : prd (l.length - k) = ((l.length - (k + 1) : Nat) : Int) := by
    rw [show l.length - k = (l.length - (k + 1)) + 1 by omega]; rfl
  rw [hr, hp]
  rfl
theorem bwd_len (l : List Bd) : (bwd l).length = l.length := by simp [bwd]

/-- slices.Backward's iterator -/
theorem c49 (Γ : Nat → PV) (b : Nat) (l : List Bd) : AIter Tryd.prog Γ 49 [.ptr b 0] (fun Hb => Hb[b]? = some (.box [.vec (l.map Bd.enc) false])) 2 (bwd l) := by
  intro lb n0 Inv Stop hI Hb hInv
  refine acalls_of_awp Tryd.func49 rfl (by simp [Tryd.f49]) fun hbd => ?_
  obtain ⟨hneed, hn0, rec, cs, hl0, hpar, _⟩ := hI 0 Hb hInv
  refine awp_seq ?_
  refine awp_run rfl (by simp only [fw0, fw1, fw2, fw3, fw4, fw5, fw6, fw7, ↓reduceIte, Nat.reduceAdd, Nat.reduceMul, Nat.reduceEqDiff, Nat.reduceLT, Nat.reduceLeDiff, reduceCtorEq, Bool.false_eq_true, Bool.not_true, Bool.not_false, and_self, Nat.le_refl, ti25, un25, hneed, List.length_map] <;> rfl) ?_
  refine awp_vlen 4 rfl fun hlen => ?_
  rw [List.length_map] at hlen
  refine awp_block ?_
  refine awp_for [0, 1, 3] (fun s : Nat × List Blk => [.yld lb, .ptr b 0, .int .i64 (prd (l.length - s.1))]) (fun s => s.2) (fun s => l.length - s.1) (fun s => s.1 ≤ l.length ∧ Inv s.1 s.2) (0, Hb) (by rw [Nat.sub_zero, ← prd_pred _ hlen]; rfl) rfl ⟨Nat.zero_le _, hInv⟩ fun s hs => ?_
  obtain ⟨k, Hk⟩ := s
  obtain ⟨hk, hInvk⟩ := hs
  simp only at hk hInvk ⊢
  obtain ⟨hneedk, hnk, reck, csk, hlk, hpark, hround⟩ := hI k Hk hInvk
  by_cases hkl : k = l.length
  · subst hkl
    rw [Nat.sub_self]
    refine awp_seq ?_
    refine awp_seq ?_
    refine awp_run rfl (by simp only [fw0, fw1, fw2, fw3, fw4, fw5, fw6, fw7, ↓reduceIte, Nat.reduceAdd, Nat.reduceMul, Nat.reduceEqDiff, Nat.reduceLT, Nat.reduceLeDiff, reduceCtorEq, Bool.false_eq_true, Bool.not_true, Bool.not_false, and_self, Nat.le_refl, prd] <;> rfl) ?_
    refine awp_cond (by simp only [fw0, fw1, fw2, fw3, fw4, fw5, fw6, fw7, ↓reduceIte, Nat.reduceAdd, Nat.reduceMul, Nat.reduceEqDiff, Nat.reduceLT, Nat.reduceLeDiff, reduceCtorEq, Bool.false_eq_true, Bool.not_true, Bool.not_false, and_self, Nat.le_refl] <;> rfl) ?_
    simp only [show decide ((0 : Int) ≤ -1) = false from rfl, Bool.false_eq_true, ↓reduceIte]
    refine awp_bd fun hbd' => ?_
    refine awp_exit ?_
    simp only [Post.block, Post.then, ↓reduceIte]
    refine calls_at (p := .tup []) (.inr rfl) hbd' rfl rfl ?_ ?_
    · omega
    · exact .inl (by rw [bwd_len]; exact hInvk)
  have hk' : k < l.length := by omega
  have hp : prd (l.length - k) = ((l.length - (k + 1) : Nat) : Int) := by
    rw [show l.length - k = (l.length - (k + 1)) + 1 by omega]; rfl
  rw [hp]
  have hi : l.length - (k + 1) < l.length := by omega
  have ga : l[l.length - (k + 1)]? = some l[l.length - (k + 1)] := List.getElem?_eq_getElem hi
  refine awp_seq ?_
  refine awp_seq ?_
  refine awp_run rfl (by simp only [fw0, fw1, fw2, fw3, fw4, fw5, fw6, fw7, ↓reduceIte, Nat.reduceAdd, Nat.reduceMul, Nat.reduceEqDiff, Nat.reduceLT, Nat.reduceLeDiff, reduceCtorEq, Bool.false_eq_true, Bool.not_true, Bool.not_false, and_self, Nat.le_refl] <;> rfl) ?_
  refine awp_cond (by simp only [fw0, fw1, fw2, fw3, fw4, fw5, fw6, fw7, ↓reduceIte, Nat.reduceAdd, Nat.reduceMul, Nat.reduceEqDiff, Nat.reduceLT, Nat.reduceLeDiff, reduceCtorEq, Bool.false_eq_true, Bool.not_true, Bool.not_false, and_self, Nat.le_refl] <;> rfl) ?_
  simp only [Int.natCast_nonneg, decide_true, ↓reduceIte]
  refine awp_skip ?_
  refine awp_seq ?_
  refine awp_block ?_
  refine awp_seq ?_
  -- region 3
  refine awp_region rfl ?_
  refine aops_run 6 (by simp only [fw0, fw1, fw2, fw3, fw4, fw5, fw6, fw7, ↓reduceIte, Nat.reduceAdd, Nat.reduceMul, Nat.reduceEqDiff, Nat.reduceLT, Nat.reduceLeDiff, reduceCtorEq, Bool.false_eq_true, Bool.not_true, Bool.not_false, and_self, Nat.le_refl, ti25, el25, ti75, Bd.fw, hneedk, List.getElem?_map, ga, Option.map_some, Int.natCast_nonneg] <;> rfl) ?_
  have hx : (bwd l)[k]? = some [.int .i64 ((l.length - (k + 1) : Nat) : Int), .agg (l[l.length - (k + 1)]).enc] := by
    obtain ⟨x, hx⟩ : ∃ x, (bwd l)[k]? = some x := ⟨_, List.getElem?_eq_getElem (by rw [bwd_len]; exact hk')⟩
    obtain ⟨_, rfl⟩ := bwd_at hx
    exact hx
  have hr := hround _ [] hx
  rw [List.append_nil] at hr
  refine aops_one rfl (os_yield rfl rfl hlk (by rw [hpark]; rfl) (hr.mono fun bo H' hq => ?_))
  obtain ⟨Hb', rfl, hq⟩ := hq
  rw [List.append_nil]
  refine aops_run 1 (by simp only [fw0, fw1, fw2, fw3, fw4, fw5, fw6, fw7, ↓reduceIte, Nat.reduceAdd, Nat.reduceMul, Nat.reduceEqDiff, Nat.reduceLT, Nat.reduceLeDiff, reduceCtorEq, Bool.false_eq_true, Bool.not_true, Bool.not_false, and_self, Nat.le_refl] <;> rfl) ?_
  refine awp_cond (by simp only [fw0, fw1, fw2, fw3, fw4, fw5, fw6, fw7, ↓reduceIte, Nat.reduceAdd, Nat.reduceMul, Nat.reduceEqDiff, Nat.reduceLT, Nat.reduceLeDiff, reduceCtorEq, Bool.false_eq_true, Bool.not_true, Bool.not_false, and_self, Nat.le_refl] <;> rfl) ?_
  cases bo with
  | false =>
    simp only [Bool.false_eq_true, ↓reduceIte] at hq
    refine awp_bd fun hbd' => ?_
    refine awp_ret ?_
    simp only [Post.block, Post.then]
    refine calls_at (p := .tup []) (.inl rfl) hbd' rfl rfl ?_ ?_
    · omega
    · exact .inr hq
  | true =>
    simp only [↓reduceIte] at hq
    refine awp_skip ?_
    refine awp_run rfl (by simp only [fw0, fw1, fw2, fw3, fw4, fw5, fw6, fw7, ↓reduceIte, Nat.reduceAdd, Nat.reduceMul, Nat.reduceEqDiff, Nat.reduceLT, Nat.reduceLeDiff, reduceCtorEq, Bool.false_eq_true, Bool.not_true, Bool.not_false, and_self, Nat.le_refl] <;> rfl) ?_
    exact ⟨(k + 1, Hb'), by simp only; omega, ⟨by simp only; omega, hq⟩, by rw [prd_pred _ (by omega)]; rfl, rfl, rfl⟩

end Go.Proofs.YtinedfjknhahmaaDoor
