/- The contracts of the document's order, joins and meets. -/
import Derived.Test.YtdhlghhokbmhdaaDoorR01g
namespace Go.Proofs.YtdhlghhokbmhdaaDoor
set_option linter.unusedVariables false
set_option linter.unusedSimpArgs false
set_option maxRecDepth 100000
open Go.RowKit Fw

theorem leq_nat {ns : List (List UInt8)} {us : List Nat} (hl : us.length = ns.length) {a b : Nat} (ha : a < us.length) (hb : b < us.length) : leqB (min ns.length us.length) us (a : Int) (b : Int) = lq us a b := by
  unfold leqB ptB
  rw [decide_eq_true (by omega : (0 : Int) ≤ a), decide_eq_true (by omega : (0 : Int) ≤ b), decide_eq_true (by omega : (a : Int) < ((min ns.length us.length : Nat) : Int)), decide_eq_true (by omega : (b : Int) < ((min ns.length us.length : Nat) : Int))]; rfl
theorem all_le {p : Nat → Bool} {j n : Nat} (hj : j ≤ n) (h : (List.range j).all p = false) : (List.range n).all p = false := by
  rw [List.all_eq_false] at h ⊢
  obtain ⟨x, hx, hp⟩ := h
  exact ⟨x, List.mem_range.2 (Nat.lt_of_lt_of_le (List.mem_range.1 hx) hj), hp⟩

set_option maxHeartbeats 1000000 in
/- chancel/chancelref01.join -/
theorem c52 (Γ : Nat → PV) (ns : List (List UInt8)) (us : List Nat) (hw : W64 us) (hl : us.length = ns.length) (hn : us.length ≤ 64) (a b : Nat) (ha : a < us.length) (hb : b < us.length) : Gives Tryd.prog Γ 52 [.agg [.vec (ns.map S1) false, .vec (us.map U1) false], .int .i64 (a : Int), .int .i64 (b : Int)] (.int .i64 (oI (jn us.length (lq us) a b))) := by
  have hq : ∀ x y, x < us.length → y < us.length → Gives Tryd.prog Γ 18 [.agg [.vec (ns.map S1) false, .vec (us.map U1) false], .int .i64 (x : Int), .int .i64 (y : Int)] (.bool ((lq us) x y)) := fun x y hx hy => by
    have := c18 Γ ns us hw (x : Int) (y : Int)
    rw [leq_nat hl (by omega) (by omega)] at this; exact this
  have h48 := c48 Γ ns us
  have hmin : min ns.length us.length = us.length := by omega
  rw [hmin] at h48
  unfold jn
  generalize hr : (lq us) = r at hq ⊢
  refine fn_of_awp Tryd.func52 rfl (by simp [Tryd.f52]) rfl fun H => ?_
  refine awp_seq ?_
  refine awp_run rfl (by simp only [fwA, ↓reduceIte, Nat.reduceAdd, Nat.reduceMul, Nat.reduceEqDiff, Nat.reduceLT, Nat.reduceLeDiff, reduceCtorEq] <;> rfl) ?_
  refine awp_seq ?_
  refine awp_region rfl ?_
  refine aops_run 1 (by simp only [fwA, ↓reduceIte, Nat.reduceAdd, Nat.reduceMul, Nat.reduceEqDiff, Nat.reduceLT, Nat.reduceLeDiff, reduceCtorEq, bitfw, List.length_map, List.getElem?_map, Option.map_some, Int.natCast_nonneg, Int.toNat_natCast, decide_true, decide_false, Bool.and_true, Bool.and_self, Bool.not_true, Bool.not_false, Bool.false_and, Bool.true_and, un9, un22, un23, el22, el23, ti9, ti22, ti23, ti25, ti27, ti50, un50, un3, ti3, ti4, fl25_0, fl25_1, fl27_0, fl27_1, S1_fw, U1_fw] <;> rfl) ?_
  refine aops_fn rfl rfl rfl en48 h48 ?_
  refine aops_run 1 (by simp only [fwA, ↓reduceIte, Nat.reduceAdd, Nat.reduceMul, Nat.reduceEqDiff, Nat.reduceLT, Nat.reduceLeDiff, reduceCtorEq, bitfw, List.length_map, List.getElem?_map, Option.map_some, Int.natCast_nonneg, Int.toNat_natCast, decide_true, decide_false, Bool.and_true, Bool.and_self, Bool.not_true, Bool.not_false, Bool.false_and, Bool.true_and, un9, un22, un23, el22, el23, ti9, ti22, ti23, ti25, ti27, ti50, un50, un3, ti3, ti4, fl25_0, fl25_1, fl27_0, fl27_1, S1_fw, U1_fw] <;> rfl) ?_
  refine aops_end ?_
  refine awp_seq ?_
  refine awp_seq ?_
  refine awp_run rfl (by simp only [fwA, ↓reduceIte, Nat.reduceAdd, Nat.reduceMul, Nat.reduceEqDiff, Nat.reduceLT, Nat.reduceLeDiff, reduceCtorEq] <;> rfl) ?_
  refine awp_block ?_
  have hK0 : (H ++ [Blk.box [.vec (ns.map S1) false, .vec (us.map U1) false]])[H.length]? = some (.box [.vec (ns.map S1) false, .vec (us.map U1) false]) := by rw [Fw.get_at0]; rfl
  generalize hK : H ++ [Blk.box [.vec (ns.map S1) false, .vec (us.map U1) false]] = K at hK0 ⊢
  have hend : ∀ (A' : List (Nat × PV)) (v : Int), alook A' 6 = .int .i64 v → ((Exit.ret = .ret ∨ Exit.ret = .normal) ∧ ([] : List Nat).Nodup ∧ (∀ b ∈ ([] : List Nat), K[b]? = some .dfr ∧ H.length ≤ b) ∧ ares Tryd.prog Γ A' K Tryd.f52.results.toList = some (.int .i64 v) ∧ ∃ L', K = H ++ L') := fun A' v hv => by
    subst hK
    exact gives_end (.inl rfl) _ (by simp [ares, aresL, ares1, Tryd.f52, hv])
  refine awp_for [1, 2, 3, 7, 8] (fun i : Nat => [.int .i64 (a : Int), .int .i64 (b : Int), .ptr H.length 0, .int .i64 (us.length : Int), .int .i64 (i : Int)]) (fun _ => K) (fun i => us.length - i) (fun i => i ≤ us.length ∧ ∀ j, j < i → (fun c => r a c && r b c && (List.range us.length).all fun d => !(r a d && r b d) || r c d) j = false) 0 rfl rfl ⟨Nat.zero_le _, fun j hj => by omega⟩ fun i hs => ?_
  obtain ⟨hil, hno⟩ := hs
  refine awp_seq ?_
  refine awp_seq ?_
  refine awp_run rfl (by simp only [fwA, ↓reduceIte, Nat.reduceAdd, Nat.reduceMul, Nat.reduceEqDiff, Nat.reduceLT, Nat.reduceLeDiff, reduceCtorEq, bitfw, List.length_map, List.getElem?_map, Option.map_some, Int.natCast_nonneg, Int.toNat_natCast, decide_true, decide_false, Bool.and_true, Bool.and_self, Bool.not_true, Bool.not_false, Bool.false_and, Bool.true_and, un9, un22, un23, el22, el23, ti9, ti22, ti23, ti25, ti27, ti50, un50, un3, ti3, ti4, fl25_0, fl25_1, fl27_0, fl27_1, S1_fw, U1_fw] <;> rfl) ?_
  refine awp_cond (by simp only [fwA, ↓reduceIte, Nat.reduceAdd, Nat.reduceMul, Nat.reduceEqDiff, Nat.reduceLT, Nat.reduceLeDiff, reduceCtorEq] <;> rfl) ?_
  by_cases hc : (i : Int) < us.length
  rotate_left
  · simp only [hc, decide_false, Bool.false_eq_true, ↓reduceIte]
    refine awp_exit ?_
    have e : i = us.length := by omega
    have hf : (List.range us.length).find? (fun c => r a c && r b c && (List.range us.length).all fun d => !(r a d && r b d) || r c d) = none := by
      rw [List.find?_eq_none]
      intro x hx
      have := hno x (by rw [e]; exact List.mem_range.1 hx)
      simp only at this
      rw [this]; simp
    rw [hf]
    refine awp_seq ?_
    refine awp_run rfl (by simp only [fwA, ↓reduceIte, Nat.reduceAdd, Nat.reduceMul, Nat.reduceEqDiff, Nat.reduceLT, Nat.reduceLeDiff, reduceCtorEq] <;> rfl) ?_
    refine awp_ret ?_
    exact hend _ _ rfl
  simp only [hc, decide_true, ↓reduceIte]
  refine awp_skip ?_
  have hill : i < us.length := by omega
  have hwi : IntKind.i64.wrap ((i : Int) + 1) = ((i + 1 : Nat) : Int) := wrapS i (by omega)
  have h18a := hq a i ha hill
  have h18b := hq b i hb hill
  refine awp_seq ?_
  refine awp_block ?_
  refine awp_join [1, 2, 3, 7, 8, 9] (fun L : Bool => [.int .i64 (a : Int), .int .i64 (b : Int), .ptr H.length 0, .int .i64 (us.length : Int), .int .i64 (i : Int), .bool L]) (fun _ => K) (fun L => L = (r a i && r b i)) ?_ fun L hL => ?_
  · cases h1 : r a i
    · rw [h1] at h18a
      refine awp_region rfl ?_
      refine aops_run 3 (by simp only [fwA, ↓reduceIte, Nat.reduceAdd, Nat.reduceMul, Nat.reduceEqDiff, Nat.reduceLT, Nat.reduceLeDiff, reduceCtorEq, bitfw, List.length_map, List.getElem?_map, Option.map_some, Int.natCast_nonneg, Int.toNat_natCast, decide_true, decide_false, Bool.and_true, Bool.and_self, Bool.not_true, Bool.not_false, Bool.false_and, Bool.true_and, un9, un22, un23, el22, el23, ti9, ti22, ti23, ti25, ti27, ti50, un50, un3, ti3, ti4, fl25_0, fl25_1, fl27_0, fl27_1, S1_fw, U1_fw, hK0] <;> rfl) ?_
      refine aops_fn rfl rfl rfl en18 h18a ?_
      refine aops_run 7 (by simp only [fwA, ↓reduceIte, Nat.reduceAdd, Nat.reduceMul, Nat.reduceEqDiff, Nat.reduceLT, Nat.reduceLeDiff, reduceCtorEq, bitfw, List.length_map, List.getElem?_map, Option.map_some, Int.natCast_nonneg, Int.toNat_natCast, decide_true, decide_false, Bool.and_true, Bool.and_self, Bool.not_true, Bool.not_false, Bool.false_and, Bool.true_and, un9, un22, un23, el22, el23, ti9, ti22, ti23, ti25, ti27, ti50, un50, un3, ti3, ti4, fl25_0, fl25_1, fl27_0, fl27_1, S1_fw, U1_fw, hK0] <;> rfl) ?_
      refine aops_end ?_
      exact ⟨_, rfl, rfl, rfl, rfl⟩
    · rw [h1] at h18a
      refine awp_region rfl ?_
      refine aops_run 3 (by simp only [fwA, ↓reduceIte, Nat.reduceAdd, Nat.reduceMul, Nat.reduceEqDiff, Nat.reduceLT, Nat.reduceLeDiff, reduceCtorEq, bitfw, List.length_map, List.getElem?_map, Option.map_some, Int.natCast_nonneg, Int.toNat_natCast, decide_true, decide_false, Bool.and_true, Bool.and_self, Bool.not_true, Bool.not_false, Bool.false_and, Bool.true_and, un9, un22, un23, el22, el23, ti9, ti22, ti23, ti25, ti27, ti50, un50, un3, ti3, ti4, fl25_0, fl25_1, fl27_0, fl27_1, S1_fw, U1_fw, hK0] <;> rfl) ?_
      refine aops_fn rfl rfl rfl en18 h18a ?_
      refine aops_run 4 (by simp only [fwA, ↓reduceIte, Nat.reduceAdd, Nat.reduceMul, Nat.reduceEqDiff, Nat.reduceLT, Nat.reduceLeDiff, reduceCtorEq, bitfw, List.length_map, List.getElem?_map, Option.map_some, Int.natCast_nonneg, Int.toNat_natCast, decide_true, decide_false, Bool.and_true, Bool.and_self, Bool.not_true, Bool.not_false, Bool.false_and, Bool.true_and, un9, un22, un23, el22, el23, ti9, ti22, ti23, ti25, ti27, ti50, un50, un3, ti3, ti4, fl25_0, fl25_1, fl27_0, fl27_1, S1_fw, U1_fw, hK0] <;> rfl) ?_
      refine aops_fnIf rfl rfl rfl rfl rfl en18 h18b ?_
      refine aops_run 2 (by simp only [fwA, ↓reduceIte, Nat.reduceAdd, Nat.reduceMul, Nat.reduceEqDiff, Nat.reduceLT, Nat.reduceLeDiff, reduceCtorEq, bitfw, List.length_map, List.getElem?_map, Option.map_some, Int.natCast_nonneg, Int.toNat_natCast, decide_true, decide_false, Bool.and_true, Bool.and_self, Bool.not_true, Bool.not_false, Bool.false_and, Bool.true_and, un9, un22, un23, el22, el23, ti9, ti22, ti23, ti25, ti27, ti50, un50, un3, ti3, ti4, fl25_0, fl25_1, fl27_0, fl27_1, S1_fw, U1_fw, hK0] <;> rfl) ?_
      refine aops_end ?_
      exact ⟨_, rfl, rfl, rfl, rfl⟩
  refine awp_join [1, 2, 3, 7, 8, 9] (fun L : Bool => [.int .i64 (a : Int), .int .i64 (b : Int), .ptr H.length 0, .int .i64 (us.length : Int), .int .i64 (i : Int), .bool L]) (fun _ => K) (fun L => L = (r a i && r b i && (List.range us.length).all fun d => !(r a d && r b d) || r i d)) ?_ fun L2 hL2 => ?_
  · refine awp_seq ?_
    refine awp_run rfl (by simp only [fwA, ↓reduceIte, Nat.reduceAdd, Nat.reduceMul, Nat.reduceEqDiff, Nat.reduceLT, Nat.reduceLeDiff, reduceCtorEq] <;> rfl) ?_
    refine awp_block ?_
    refine awp_for [1, 2, 3, 7, 8, 9, 10] (fun s : Nat × Bool => [.int .i64 (a : Int), .int .i64 (b : Int), .ptr H.length 0, .int .i64 (us.length : Int), .int .i64 (i : Int), .bool s.2, .int .i64 (s.1 : Int)]) (fun _ => K) (fun s => us.length - s.1) (fun s => s.1 ≤ us.length ∧ s.2 = (r a i && r b i && (List.range s.1).all fun d => !(r a d && r b d) || r i d)) (0, L) rfl rfl ⟨Nat.zero_le _, by simp [hL]⟩ fun s hs => ?_
    obtain ⟨j, M⟩ := s
    obtain ⟨hjl, hM⟩ := hs
    simp only at hjl hM ⊢
    refine awp_seq ?_
    refine awp_seq ?_
    by_cases hcj : (j : Int) < us.length
    rotate_left
    · refine awp_run rfl (by simp only [fwA, ↓reduceIte, Nat.reduceAdd, Nat.reduceMul, Nat.reduceEqDiff, Nat.reduceLT, Nat.reduceLeDiff, reduceCtorEq, bitfw, List.length_map, List.getElem?_map, Option.map_some, Int.natCast_nonneg, Int.toNat_natCast, decide_true, decide_false, Bool.and_true, Bool.and_self, Bool.not_true, Bool.not_false, Bool.false_and, Bool.true_and, un9, un22, un23, el22, el23, ti9, ti22, ti23, ti25, ti27, ti50, un50, un3, ti3, ti4, fl25_0, fl25_1, fl27_0, fl27_1, S1_fw, U1_fw, hcj] <;> rfl) ?_
      refine awp_cond (b := false) (by simp [alook, aput, ev]) ?_
      refine awp_exit ?_
      have e : j = us.length := by omega
      subst e
      exact ⟨M, hM, rfl, rfl, rfl⟩
    cases M with
    | false =>
      refine awp_run rfl (by simp only [fwA, ↓reduceIte, Nat.reduceAdd, Nat.reduceMul, Nat.reduceEqDiff, Nat.reduceLT, Nat.reduceLeDiff, reduceCtorEq, bitfw, List.length_map, List.getElem?_map, Option.map_some, Int.natCast_nonneg, Int.toNat_natCast, decide_true, decide_false, Bool.and_true, Bool.and_self, Bool.not_true, Bool.not_false, Bool.false_and, Bool.true_and, un9, un22, un23, el22, el23, ti9, ti22, ti23, ti25, ti27, ti50, un50, un3, ti3, ti4, fl25_0, fl25_1, fl27_0, fl27_1, S1_fw, U1_fw, hcj] <;> rfl) ?_
      refine awp_cond (b := false) (by simp [alook, aput, ev]) ?_
      refine awp_exit ?_
      refine ⟨false, ?_, rfl, rfl, rfl⟩
      cases h1 : (r a i && r b i)
      · rfl
      · rw [h1, Bool.true_and] at hM
        rw [all_le hjl hM.symm]; rfl
    | true =>
      refine awp_run rfl (by simp only [fwA, ↓reduceIte, Nat.reduceAdd, Nat.reduceMul, Nat.reduceEqDiff, Nat.reduceLT, Nat.reduceLeDiff, reduceCtorEq, bitfw, List.length_map, List.getElem?_map, Option.map_some, Int.natCast_nonneg, Int.toNat_natCast, decide_true, decide_false, Bool.and_true, Bool.and_self, Bool.not_true, Bool.not_false, Bool.false_and, Bool.true_and, un9, un22, un23, el22, el23, ti9, ti22, ti23, ti25, ti27, ti50, un50, un3, ti3, ti4, fl25_0, fl25_1, fl27_0, fl27_1, S1_fw, U1_fw, hcj] <;> rfl) ?_
      refine awp_cond (b := true) (by simp [alook, aput, ev]) (awp_skip ?_)
      have hjll : j < us.length := by omega
      have hwj : IntKind.i64.wrap ((j : Int) + 1) = ((j + 1 : Nat) : Int) := wrapS j (by omega)
      have k1 := hq a j ha hjll
      have k2 := hq b j hb hjll
      have k3 := hq i j hill hjll
      have hst : (r a i && r b i && (List.range (j + 1)).all fun d => !(r a d && r b d) || r i d) = (!(r a j && r b j) || r i j) := by
        rw [all_succ, ← Bool.and_assoc, ← hM]; rfl
      refine awp_seq ?_
      refine awp_block ?_
      cases h1 : r a j
      · rw [h1] at k1
        refine awp_region rfl ?_
        refine aops_run 3 (by simp only [fwA, ↓reduceIte, Nat.reduceAdd, Nat.reduceMul, Nat.reduceEqDiff, Nat.reduceLT, Nat.reduceLeDiff, reduceCtorEq, bitfw, List.length_map, List.getElem?_map, Option.map_some, Int.natCast_nonneg, Int.toNat_natCast, decide_true, decide_false, Bool.and_true, Bool.and_self, Bool.not_true, Bool.not_false, Bool.false_and, Bool.true_and, un9, un22, un23, el22, el23, ti9, ti22, ti23, ti25, ti27, ti50, un50, un3, ti3, ti4, fl25_0, fl25_1, fl27_0, fl27_1, S1_fw, U1_fw, hK0] <;> rfl) ?_
        refine aops_fn rfl rfl rfl en18 k1 ?_
        refine aops_run 13 (by simp only [fwA, ↓reduceIte, Nat.reduceAdd, Nat.reduceMul, Nat.reduceEqDiff, Nat.reduceLT, Nat.reduceLeDiff, reduceCtorEq, bitfw, List.length_map, List.getElem?_map, Option.map_some, Int.natCast_nonneg, Int.toNat_natCast, decide_true, decide_false, Bool.and_true, Bool.and_self, Bool.not_true, Bool.not_false, Bool.false_and, Bool.true_and, un9, un22, un23, el22, el23, ti9, ti22, ti23, ti25, ti27, ti50, un50, un3, ti3, ti4, fl25_0, fl25_1, fl27_0, fl27_1, S1_fw, U1_fw, hK0] <;> rfl) ?_
        refine aops_run 2 (by simp only [fwA, ↓reduceIte, Nat.reduceAdd, Nat.reduceMul, Nat.reduceEqDiff, Nat.reduceLT, Nat.reduceLeDiff, reduceCtorEq, bitfw, List.length_map, List.getElem?_map, Option.map_some, Int.natCast_nonneg, Int.toNat_natCast, decide_true, decide_false, Bool.and_true, Bool.and_self, Bool.not_true, Bool.not_false, Bool.false_and, Bool.true_and, un9, un22, un23, el22, el23, ti9, ti22, ti23, ti25, ti27, ti50, un50, un3, ti3, ti4, fl25_0, fl25_1, fl27_0, fl27_1, S1_fw, U1_fw, hK0] <;> rfl) ?_
        refine aops_end ?_
        refine awp_run rfl (by simp only [fwA, ↓reduceIte, Nat.reduceAdd, Nat.reduceMul, Nat.reduceEqDiff, Nat.reduceLT, Nat.reduceLeDiff, reduceCtorEq] <;> rfl) ?_
        refine ⟨(j + 1, true), by simp only; omega, ⟨by simp only; omega, by simp only; rw [hst, h1]; rfl⟩, ?_, rfl, rfl⟩
        simp only [fwA, ↓reduceIte, Nat.reduceAdd, Nat.reduceMul, Nat.reduceEqDiff, Nat.reduceLT, Nat.reduceLeDiff, reduceCtorEq, List.map_cons, List.map_nil, hwj]
      rw [h1] at k1
      cases h2 : r b j
      · rw [h2] at k2
        refine awp_region rfl ?_
        refine aops_run 3 (by simp only [fwA, ↓reduceIte, Nat.reduceAdd, Nat.reduceMul, Nat.reduceEqDiff, Nat.reduceLT, Nat.reduceLeDiff, reduceCtorEq, bitfw, List.length_map, List.getElem?_map, Option.map_some, Int.natCast_nonneg, Int.toNat_natCast, decide_true, decide_false, Bool.and_true, Bool.and_self, Bool.not_true, Bool.not_false, Bool.false_and, Bool.true_and, un9, un22, un23, el22, el23, ti9, ti22, ti23, ti25, ti27, ti50, un50, un3, ti3, ti4, fl25_0, fl25_1, fl27_0, fl27_1, S1_fw, U1_fw, hK0] <;> rfl) ?_
        refine aops_fn rfl rfl rfl en18 k1 ?_
        refine aops_run 5 (by simp only [fwA, ↓reduceIte, Nat.reduceAdd, Nat.reduceMul, Nat.reduceEqDiff, Nat.reduceLT, Nat.reduceLeDiff, reduceCtorEq, bitfw, List.length_map, List.getElem?_map, Option.map_some, Int.natCast_nonneg, Int.toNat_natCast, decide_true, decide_false, Bool.and_true, Bool.and_self, Bool.not_true, Bool.not_false, Bool.false_and, Bool.true_and, un9, un22, un23, el22, el23, ti9, ti22, ti23, ti25, ti27, ti50, un50, un3, ti3, ti4, fl25_0, fl25_1, fl27_0, fl27_1, S1_fw, U1_fw, hK0] <;> rfl) ?_
        refine aops_fnIf rfl rfl rfl rfl rfl en18 k2 ?_
        refine aops_run 9 (by simp only [fwA, ↓reduceIte, Nat.reduceAdd, Nat.reduceMul, Nat.reduceEqDiff, Nat.reduceLT, Nat.reduceLeDiff, reduceCtorEq, bitfw, List.length_map, List.getElem?_map, Option.map_some, Int.natCast_nonneg, Int.toNat_natCast, decide_true, decide_false, Bool.and_true, Bool.and_self, Bool.not_true, Bool.not_false, Bool.false_and, Bool.true_and, un9, un22, un23, el22, el23, ti9, ti22, ti23, ti25, ti27, ti50, un50, un3, ti3, ti4, fl25_0, fl25_1, fl27_0, fl27_1, S1_fw, U1_fw, hK0] <;> rfl) ?_
        refine aops_end ?_
        refine awp_run rfl (by simp only [fwA, ↓reduceIte, Nat.reduceAdd, Nat.reduceMul, Nat.reduceEqDiff, Nat.reduceLT, Nat.reduceLeDiff, reduceCtorEq] <;> rfl) ?_
        refine ⟨(j + 1, true), by simp only; omega, ⟨by simp only; omega, by simp only; rw [hst, h1, h2]; rfl⟩, ?_, rfl, rfl⟩
        simp only [fwA, ↓reduceIte, Nat.reduceAdd, Nat.reduceMul, Nat.reduceEqDiff, Nat.reduceLT, Nat.reduceLeDiff, reduceCtorEq, List.map_cons, List.map_nil, hwj]
      rw [h2] at k2
      refine awp_region rfl ?_
      refine aops_run 3 (by simp only [fwA, ↓reduceIte, Nat.reduceAdd, Nat.reduceMul, Nat.reduceEqDiff, Nat.reduceLT, Nat.reduceLeDiff, reduceCtorEq, bitfw, List.length_map, List.getElem?_map, Option.map_some, Int.natCast_nonneg, Int.toNat_natCast, decide_true, decide_false, Bool.and_true, Bool.and_self, Bool.not_true, Bool.not_false, Bool.false_and, Bool.true_and, un9, un22, un23, el22, el23, ti9, ti22, ti23, ti25, ti27, ti50, un50, un3, ti3, ti4, fl25_0, fl25_1, fl27_0, fl27_1, S1_fw, U1_fw, hK0] <;> rfl) ?_
      refine aops_fn rfl rfl rfl en18 k1 ?_
      refine aops_run 5 (by simp only [fwA, ↓reduceIte, Nat.reduceAdd, Nat.reduceMul, Nat.reduceEqDiff, Nat.reduceLT, Nat.reduceLeDiff, reduceCtorEq, bitfw, List.length_map, List.getElem?_map, Option.map_some, Int.natCast_nonneg, Int.toNat_natCast, decide_true, decide_false, Bool.and_true, Bool.and_self, Bool.not_true, Bool.not_false, Bool.false_and, Bool.true_and, un9, un22, un23, el22, el23, ti9, ti22, ti23, ti25, ti27, ti50, un50, un3, ti3, ti4, fl25_0, fl25_1, fl27_0, fl27_1, S1_fw, U1_fw, hK0] <;> rfl) ?_
      refine aops_fnIf rfl rfl rfl rfl rfl en18 k2 ?_
      refine aops_run 6 (by simp only [fwA, ↓reduceIte, Nat.reduceAdd, Nat.reduceMul, Nat.reduceEqDiff, Nat.reduceLT, Nat.reduceLeDiff, reduceCtorEq, bitfw, List.length_map, List.getElem?_map, Option.map_some, Int.natCast_nonneg, Int.toNat_natCast, decide_true, decide_false, Bool.and_true, Bool.and_self, Bool.not_true, Bool.not_false, Bool.false_and, Bool.true_and, un9, un22, un23, el22, el23, ti9, ti22, ti23, ti25, ti27, ti50, un50, un3, ti3, ti4, fl25_0, fl25_1, fl27_0, fl27_1, S1_fw, U1_fw, hK0] <;> rfl) ?_
      refine aops_fnIf rfl rfl rfl rfl rfl en18 k3 ?_
      refine aops_run 2 (by simp only [fwA, ↓reduceIte, Nat.reduceAdd, Nat.reduceMul, Nat.reduceEqDiff, Nat.reduceLT, Nat.reduceLeDiff, reduceCtorEq, bitfw, List.length_map, List.getElem?_map, Option.map_some, Int.natCast_nonneg, Int.toNat_natCast, decide_true, decide_false, Bool.and_true, Bool.and_self, Bool.not_true, Bool.not_false, Bool.false_and, Bool.true_and, un9, un22, un23, el22, el23, ti9, ti22, ti23, ti25, ti27, ti50, un50, un3, ti3, ti4, fl25_0, fl25_1, fl27_0, fl27_1, S1_fw, U1_fw, hK0] <;> rfl) ?_
      refine aops_end ?_
      refine awp_run rfl (by simp only [fwA, ↓reduceIte, Nat.reduceAdd, Nat.reduceMul, Nat.reduceEqDiff, Nat.reduceLT, Nat.reduceLeDiff, reduceCtorEq] <;> rfl) ?_
      refine ⟨(j + 1, r i j), by simp only; omega, ⟨by simp only; omega, by simp only; rw [hst, h1, h2]; rfl⟩, ?_, rfl, rfl⟩
      simp only [fwA, ↓reduceIte, Nat.reduceAdd, Nat.reduceMul, Nat.reduceEqDiff, Nat.reduceLT, Nat.reduceLeDiff, reduceCtorEq, List.map_cons, List.map_nil, hwj]
  refine awp_seq ?_
  refine awp_run rfl (by simp only [fwA, ↓reduceIte, Nat.reduceAdd, Nat.reduceMul, Nat.reduceEqDiff, Nat.reduceLT, Nat.reduceLeDiff, reduceCtorEq] <;> rfl) ?_
  refine awp_cond (by simp only [fwA, ↓reduceIte, Nat.reduceAdd, Nat.reduceMul, Nat.reduceEqDiff, Nat.reduceLT, Nat.reduceLeDiff, reduceCtorEq] <;> rfl) ?_
  cases L2 with
  | false =>
    simp only [Bool.false_eq_true, ↓reduceIte]
    refine awp_skip ?_
    refine awp_run rfl (by simp only [fwA, ↓reduceIte, Nat.reduceAdd, Nat.reduceMul, Nat.reduceEqDiff, Nat.reduceLT, Nat.reduceLeDiff, reduceCtorEq] <;> rfl) ?_
    refine ⟨i + 1, by omega, ⟨by omega, fun j hj => ?_⟩, ?_, rfl, rfl⟩
    · by_cases hji : j = i
      · subst hji; exact hL2.symm
      · exact hno j (by omega)
    · simp only [fwA, ↓reduceIte, Nat.reduceAdd, Nat.reduceMul, Nat.reduceEqDiff, Nat.reduceLT, Nat.reduceLeDiff, reduceCtorEq, List.map_cons, List.map_nil, hwi]
  | true =>
    simp only [↓reduceIte]
    refine awp_seq ?_
    refine awp_run rfl (by simp only [fwA, ↓reduceIte, Nat.reduceAdd, Nat.reduceMul, Nat.reduceEqDiff, Nat.reduceLT, Nat.reduceLeDiff, reduceCtorEq] <;> rfl) ?_
    refine awp_ret ?_
    have hf : (List.range us.length).find? (fun c => r a c && r b c && (List.range us.length).all fun d => !(r a d && r b d) || r c d) = some i := by
      refine find_at (l := List.range us.length) (i := i) (List.getElem?_range hill) hL2.symm fun j d hj hd => ?_
      rw [List.getElem?_range (by omega), Option.some.injEq] at hd
      subst hd
      exact hno j hj
    rw [hf]
    exact hend _ _ rfl
set_option maxHeartbeats 1000000 in
/- chancel/chancelref01.meet -/
theorem c54 (Γ : Nat → PV) (ns : List (List UInt8)) (us : List Nat) (hw : W64 us) (hl : us.length = ns.length) (hn : us.length ≤ 64) (a b : Nat) (ha : a < us.length) (hb : b < us.length) : Gives Tryd.prog Γ 54 [.agg [.vec (ns.map S1) false, .vec (us.map U1) false], .int .i64 (a : Int), .int .i64 (b : Int)] (.int .i64 (oI (jn us.length (tr (lq us)) a b))) := by
  have hq : ∀ x y, x < us.length → y < us.length → Gives Tryd.prog Γ 18 [.agg [.vec (ns.map S1) false, .vec (us.map U1) false], .int .i64 (y : Int), .int .i64 (x : Int)] (.bool ((tr (lq us)) x y)) := fun x y hx hy => by
    have := c18 Γ ns us hw (y : Int) (x : Int)
    rw [leq_nat hl (by omega) (by omega)] at this; exact this
  have h48 := c48 Γ ns us
  have hmin : min ns.length us.length = us.length := by omega
  rw [hmin] at h48
  unfold jn
  generalize hr : (tr (lq us)) = r at hq ⊢
  refine fn_of_awp Tryd.func54 rfl (by simp [Tryd.f54]) rfl fun H => ?_
  refine awp_seq ?_
  refine awp_run rfl (by simp only [fwA, ↓reduceIte, Nat.reduceAdd, Nat.reduceMul, Nat.reduceEqDiff, Nat.reduceLT, Nat.reduceLeDiff, reduceCtorEq] <;> rfl) ?_
  refine awp_seq ?_
  refine awp_region rfl ?_
  refine aops_run 1 (by simp only [fwA, ↓reduceIte, Nat.reduceAdd, Nat.reduceMul, Nat.reduceEqDiff, Nat.reduceLT, Nat.reduceLeDiff, reduceCtorEq, bitfw, List.length_map, List.getElem?_map, Option.map_some, Int.natCast_nonneg, Int.toNat_natCast, decide_true, decide_false, Bool.and_true, Bool.and_self, Bool.not_true, Bool.not_false, Bool.false_and, Bool.true_and, un9, un22, un23, el22, el23, ti9, ti22, ti23, ti25, ti27, ti50, un50, un3, ti3, ti4, fl25_0, fl25_1, fl27_0, fl27_1, S1_fw, U1_fw] <;> rfl) ?_
  refine aops_fn rfl rfl rfl en48 h48 ?_
  refine aops_run 1 (by simp only [fwA, ↓reduceIte, Nat.reduceAdd, Nat.reduceMul, Nat.reduceEqDiff, Nat.reduceLT, Nat.reduceLeDiff, reduceCtorEq, bitfw, List.length_map, List.getElem?_map, Option.map_some, Int.natCast_nonneg, Int.toNat_natCast, decide_true, decide_false, Bool.and_true, Bool.and_self, Bool.not_true, Bool.not_false, Bool.false_and, Bool.true_and, un9, un22, un23, el22, el23, ti9, ti22, ti23, ti25, ti27, ti50, un50, un3, ti3, ti4, fl25_0, fl25_1, fl27_0, fl27_1, S1_fw, U1_fw] <;> rfl) ?_
  refine aops_end ?_
  refine awp_seq ?_
  refine awp_seq ?_
  refine awp_run rfl (by simp only [fwA, ↓reduceIte, Nat.reduceAdd, Nat.reduceMul, Nat.reduceEqDiff, Nat.reduceLT, Nat.reduceLeDiff, reduceCtorEq] <;> rfl) ?_
  refine awp_block ?_
  have hK0 : (H ++ [Blk.box [.vec (ns.map S1) false, .vec (us.map U1) false]])[H.length]? = some (.box [.vec (ns.map S1) false, .vec (us.map U1) false]) := by rw [Fw.get_at0]; rfl
  generalize hK : H ++ [Blk.box [.vec (ns.map S1) false, .vec (us.map U1) false]] = K at hK0 ⊢
  have hend : ∀ (A' : List (Nat × PV)) (v : Int), alook A' 6 = .int .i64 v → ((Exit.ret = .ret ∨ Exit.ret = .normal) ∧ ([] : List Nat).Nodup ∧ (∀ b ∈ ([] : List Nat), K[b]? = some .dfr ∧ H.length ≤ b) ∧ ares Tryd.prog Γ A' K Tryd.f54.results.toList = some (.int .i64 v) ∧ ∃ L', K = H ++ L') := fun A' v hv => by
    subst hK
    exact gives_end (.inl rfl) _ (by simp [ares, aresL, ares1, Tryd.f54, hv])
  refine awp_for [1, 2, 3, 7, 8] (fun i : Nat => [.int .i64 (a : Int), .int .i64 (b : Int), .ptr H.length 0, .int .i64 (us.length : Int), .int .i64 (i : Int)]) (fun _ => K) (fun i => us.length - i) (fun i => i ≤ us.length ∧ ∀ j, j < i → (fun c => r a c && r b c && (List.range us.length).all fun d => !(r a d && r b d) || r c d) j = false) 0 rfl rfl ⟨Nat.zero_le _, fun j hj => by omega⟩ fun i hs => ?_
  obtain ⟨hil, hno⟩ := hs
  refine awp_seq ?_
  refine awp_seq ?_
  refine awp_run rfl (by simp only [fwA, ↓reduceIte, Nat.reduceAdd, Nat.reduceMul, Nat.reduceEqDiff, Nat.reduceLT, Nat.reduceLeDiff, reduceCtorEq, bitfw, List.length_map, List.getElem?_map, Option.map_some, Int.natCast_nonneg, Int.toNat_natCast, decide_true, decide_false, Bool.and_true, Bool.and_self, Bool.not_true, Bool.not_false, Bool.false_and, Bool.true_and, un9, un22, un23, el22, el23, ti9, ti22, ti23, ti25, ti27, ti50, un50, un3, ti3, ti4, fl25_0, fl25_1, fl27_0, fl27_1, S1_fw, U1_fw] <;> rfl) ?_
  refine awp_cond (by simp only [fwA, ↓reduceIte, Nat.reduceAdd, Nat.reduceMul, Nat.reduceEqDiff, Nat.reduceLT, Nat.reduceLeDiff, reduceCtorEq] <;> rfl) ?_
  by_cases hc : (i : Int) < us.length
  rotate_left
  · simp only [hc, decide_false, Bool.false_eq_true, ↓reduceIte]
    refine awp_exit ?_
    have e : i = us.length := by omega
    have hf : (List.range us.length).find? (fun c => r a c && r b c && (List.range us.length).all fun d => !(r a d && r b d) || r c d) = none := by
      rw [List.find?_eq_none]
      intro x hx
      have := hno x (by rw [e]; exact List.mem_range.1 hx)
      simp only at this
      rw [this]; simp
    rw [hf]
    refine awp_seq ?_
    refine awp_run rfl (by simp only [fwA, ↓reduceIte, Nat.reduceAdd, Nat.reduceMul, Nat.reduceEqDiff, Nat.reduceLT, Nat.reduceLeDiff, reduceCtorEq] <;> rfl) ?_
    refine awp_ret ?_
    exact hend _ _ rfl
  simp only [hc, decide_true, ↓reduceIte]
  refine awp_skip ?_
  have hill : i < us.length := by omega
  have hwi : IntKind.i64.wrap ((i : Int) + 1) = ((i + 1 : Nat) : Int) := wrapS i (by omega)
  have h18a := hq a i ha hill
  have h18b := hq b i hb hill
  refine awp_seq ?_
  refine awp_block ?_
  refine awp_join [1, 2, 3, 7, 8, 9] (fun L : Bool => [.int .i64 (a : Int), .int .i64 (b : Int), .ptr H.length 0, .int .i64 (us.length : Int), .int .i64 (i : Int), .bool L]) (fun _ => K) (fun L => L = (r a i && r b i)) ?_ fun L hL => ?_
  · cases h1 : r a i
    · rw [h1] at h18a
      refine awp_region rfl ?_
      refine aops_run 3 (by simp only [fwA, ↓reduceIte, Nat.reduceAdd, Nat.reduceMul, Nat.reduceEqDiff, Nat.reduceLT, Nat.reduceLeDiff, reduceCtorEq, bitfw, List.length_map, List.getElem?_map, Option.map_some, Int.natCast_nonneg, Int.toNat_natCast, decide_true, decide_false, Bool.and_true, Bool.and_self, Bool.not_true, Bool.not_false, Bool.false_and, Bool.true_and, un9, un22, un23, el22, el23, ti9, ti22, ti23, ti25, ti27, ti50, un50, un3, ti3, ti4, fl25_0, fl25_1, fl27_0, fl27_1, S1_fw, U1_fw, hK0] <;> rfl) ?_
      refine aops_fn rfl rfl rfl en18 h18a ?_
      refine aops_run 7 (by simp only [fwA, ↓reduceIte, Nat.reduceAdd, Nat.reduceMul, Nat.reduceEqDiff, Nat.reduceLT, Nat.reduceLeDiff, reduceCtorEq, bitfw, List.length_map, List.getElem?_map, Option.map_some, Int.natCast_nonneg, Int.toNat_natCast, decide_true, decide_false, Bool.and_true, Bool.and_self, Bool.not_true, Bool.not_false, Bool.false_and, Bool.true_and, un9, un22, un23, el22, el23, ti9, ti22, ti23, ti25, ti27, ti50, un50, un3, ti3, ti4, fl25_0, fl25_1, fl27_0, fl27_1, S1_fw, U1_fw, hK0] <;> rfl) ?_
      refine aops_end ?_
      exact ⟨_, rfl, rfl, rfl, rfl⟩
    · rw [h1] at h18a
      refine awp_region rfl ?_
      refine aops_run 3 (by simp only [fwA, ↓reduceIte, Nat.reduceAdd, Nat.reduceMul, Nat.reduceEqDiff, Nat.reduceLT, Nat.reduceLeDiff, reduceCtorEq, bitfw, List.length_map, List.getElem?_map, Option.map_some, Int.natCast_nonneg, Int.toNat_natCast, decide_true, decide_false, Bool.and_true, Bool.and_self, Bool.not_true, Bool.not_false, Bool.false_and, Bool.true_and, un9, un22, un23, el22, el23, ti9, ti22, ti23, ti25, ti27, ti50, un50, un3, ti3, ti4, fl25_0, fl25_1, fl27_0, fl27_1, S1_fw, U1_fw, hK0] <;> rfl) ?_
      refine aops_fn rfl rfl rfl en18 h18a ?_
      refine aops_run 4 (by simp only [fwA, ↓reduceIte, Nat.reduceAdd, Nat.reduceMul, Nat.reduceEqDiff, Nat.reduceLT, Nat.reduceLeDiff, reduceCtorEq, bitfw, List.length_map, List.getElem?_map, Option.map_some, Int.natCast_nonneg, Int.toNat_natCast, decide_true, decide_false, Bool.and_true, Bool.and_self, Bool.not_true, Bool.not_false, Bool.false_and, Bool.true_and, un9, un22, un23, el22, el23, ti9, ti22, ti23, ti25, ti27, ti50, un50, un3, ti3, ti4, fl25_0, fl25_1, fl27_0, fl27_1, S1_fw, U1_fw, hK0] <;> rfl) ?_
      refine aops_fnIf rfl rfl rfl rfl rfl en18 h18b ?_
      refine aops_run 2 (by simp only [fwA, ↓reduceIte, Nat.reduceAdd, Nat.reduceMul, Nat.reduceEqDiff, Nat.reduceLT, Nat.reduceLeDiff, reduceCtorEq, bitfw, List.length_map, List.getElem?_map, Option.map_some, Int.natCast_nonneg, Int.toNat_natCast, decide_true, decide_false, Bool.and_true, Bool.and_self, Bool.not_true, Bool.not_false, Bool.false_and, Bool.true_and, un9, un22, un23, el22, el23, ti9, ti22, ti23, ti25, ti27, ti50, un50, un3, ti3, ti4, fl25_0, fl25_1, fl27_0, fl27_1, S1_fw, U1_fw, hK0] <;> rfl) ?_
      refine aops_end ?_
      exact ⟨_, rfl, rfl, rfl, rfl⟩
  refine awp_join [1, 2, 3, 7, 8, 9] (fun L : Bool => [.int .i64 (a : Int), .int .i64 (b : Int), .ptr H.length 0, .int .i64 (us.length : Int), .int .i64 (i : Int), .bool L]) (fun _ => K) (fun L => L = (r a i && r b i && (List.range us.length).all fun d => !(r a d && r b d) || r i d)) ?_ fun L2 hL2 => ?_
  · refine awp_seq ?_
    refine awp_run rfl (by simp only [fwA, ↓reduceIte, Nat.reduceAdd, Nat.reduceMul, Nat.reduceEqDiff, Nat.reduceLT, Nat.reduceLeDiff, reduceCtorEq] <;> rfl) ?_
    refine awp_block ?_
    refine awp_for [1, 2, 3, 7, 8, 9, 10] (fun s : Nat × Bool => [.int .i64 (a : Int), .int .i64 (b : Int), .ptr H.length 0, .int .i64 (us.length : Int), .int .i64 (i : Int), .bool s.2, .int .i64 (s.1 : Int)]) (fun _ => K) (fun s => us.length - s.1) (fun s => s.1 ≤ us.length ∧ s.2 = (r a i && r b i && (List.range s.1).all fun d => !(r a d && r b d) || r i d)) (0, L) rfl rfl ⟨Nat.zero_le _, by simp [hL]⟩ fun s hs => ?_
    obtain ⟨j, M⟩ := s
    obtain ⟨hjl, hM⟩ := hs
    simp only at hjl hM ⊢
    refine awp_seq ?_
    refine awp_seq ?_
    by_cases hcj : (j : Int) < us.length
    rotate_left
    · refine awp_run rfl (by simp only [fwA, ↓reduceIte, Nat.reduceAdd, Nat.reduceMul, Nat.reduceEqDiff, Nat.reduceLT, Nat.reduceLeDiff, reduceCtorEq, bitfw, List.length_map, List.getElem?_map, Option.map_some, Int.natCast_nonneg, Int.toNat_natCast, decide_true, decide_false, Bool.and_true, Bool.and_self, Bool.not_true, Bool.not_false, Bool.false_and, Bool.true_and, un9, un22, un23, el22, el23, ti9, ti22, ti23, ti25, ti27, ti50, un50, un3, ti3, ti4, fl25_0, fl25_1, fl27_0, fl27_1, S1_fw, U1_fw, hcj] <;> rfl) ?_
      refine awp_cond (b := false) (by simp [alook, aput, ev]) ?_
      refine awp_exit ?_
      have e : j = us.length := by omega
      subst e
      exact ⟨M, hM, rfl, rfl, rfl⟩
    cases M with
    | false =>
      refine awp_run rfl (by simp only [fwA, ↓reduceIte, Nat.reduceAdd, Nat.reduceMul, Nat.reduceEqDiff, Nat.reduceLT, Nat.reduceLeDiff, reduceCtorEq, bitfw, List.length_map, List.getElem?_map, Option.map_some, Int.natCast_nonneg, Int.toNat_natCast, decide_true, decide_false, Bool.and_true, Bool.and_self, Bool.not_true, Bool.not_false, Bool.false_and, Bool.true_and, un9, un22, un23, el22, el23, ti9, ti22, ti23, ti25, ti27, ti50, un50, un3, ti3, ti4, fl25_0, fl25_1, fl27_0, fl27_1, S1_fw, U1_fw, hcj] <;> rfl) ?_
      refine awp_cond (b := false) (by simp [alook, aput, ev]) ?_
      refine awp_exit ?_
      refine ⟨false, ?_, rfl, rfl, rfl⟩
      cases h1 : (r a i && r b i)
      · rfl
      · rw [h1, Bool.true_and] at hM
        rw [all_le hjl hM.symm]; rfl
    | true =>
      refine awp_run rfl (by simp only [fwA, ↓reduceIte, Nat.reduceAdd, Nat.reduceMul, Nat.reduceEqDiff, Nat.reduceLT, Nat.reduceLeDiff, reduceCtorEq, bitfw, List.length_map, List.getElem?_map, Option.map_some, Int.natCast_nonneg, Int.toNat_natCast, decide_true, decide_false, Bool.and_true, Bool.and_self, Bool.not_true, Bool.not_false, Bool.false_and, Bool.true_and, un9, un22, un23, el22, el23, ti9, ti22, ti23, ti25, ti27, ti50, un50, un3, ti3, ti4, fl25_0, fl25_1, fl27_0, fl27_1, S1_fw, U1_fw, hcj] <;> rfl) ?_
      refine awp_cond (b := true) (by simp [alook, aput, ev]) (awp_skip ?_)
      have hjll : j < us.length := by omega
      have hwj : IntKind.i64.wrap ((j : Int) + 1) = ((j + 1 : Nat) : Int) := wrapS j (by omega)
      have k1 := hq a j ha hjll
      have k2 := hq b j hb hjll
      have k3 := hq i j hill hjll
      have hst : (r a i && r b i && (List.range (j + 1)).all fun d => !(r a d && r b d) || r i d) = (!(r a j && r b j) || r i j) := by
        rw [all_succ, ← Bool.and_assoc, ← hM]; rfl
      refine awp_seq ?_
      refine awp_block ?_
      cases h1 : r a j
      · rw [h1] at k1
        refine awp_region rfl ?_
        refine aops_run 3 (by simp only [fwA, ↓reduceIte, Nat.reduceAdd, Nat.reduceMul, Nat.reduceEqDiff, Nat.reduceLT, Nat.reduceLeDiff, reduceCtorEq, bitfw, List.length_map, List.getElem?_map, Option.map_some, Int.natCast_nonneg, Int.toNat_natCast, decide_true, decide_false, Bool.and_true, Bool.and_self, Bool.not_true, Bool.not_false, Bool.false_and, Bool.true_and, un9, un22, un23, el22, el23, ti9, ti22, ti23, ti25, ti27, ti50, un50, un3, ti3, ti4, fl25_0, fl25_1, fl27_0, fl27_1, S1_fw, U1_fw, hK0] <;> rfl) ?_
        refine aops_fn rfl rfl rfl en18 k1 ?_
        refine aops_run 13 (by simp only [fwA, ↓reduceIte, Nat.reduceAdd, Nat.reduceMul, Nat.reduceEqDiff, Nat.reduceLT, Nat.reduceLeDiff, reduceCtorEq, bitfw, List.length_map, List.getElem?_map, Option.map_some, Int.natCast_nonneg, Int.toNat_natCast, decide_true, decide_false, Bool.and_true, Bool.and_self, Bool.not_true, Bool.not_false, Bool.false_and, Bool.true_and, un9, un22, un23, el22, el23, ti9, ti22, ti23, ti25, ti27, ti50, un50, un3, ti3, ti4, fl25_0, fl25_1, fl27_0, fl27_1, S1_fw, U1_fw, hK0] <;> rfl) ?_
        refine aops_run 2 (by simp only [fwA, ↓reduceIte, Nat.reduceAdd, Nat.reduceMul, Nat.reduceEqDiff, Nat.reduceLT, Nat.reduceLeDiff, reduceCtorEq, bitfw, List.length_map, List.getElem?_map, Option.map_some, Int.natCast_nonneg, Int.toNat_natCast, decide_true, decide_false, Bool.and_true, Bool.and_self, Bool.not_true, Bool.not_false, Bool.false_and, Bool.true_and, un9, un22, un23, el22, el23, ti9, ti22, ti23, ti25, ti27, ti50, un50, un3, ti3, ti4, fl25_0, fl25_1, fl27_0, fl27_1, S1_fw, U1_fw, hK0] <;> rfl) ?_
        refine aops_end ?_
        refine awp_run rfl (by simp only [fwA, ↓reduceIte, Nat.reduceAdd, Nat.reduceMul, Nat.reduceEqDiff, Nat.reduceLT, Nat.reduceLeDiff, reduceCtorEq] <;> rfl) ?_
        refine ⟨(j + 1, true), by simp only; omega, ⟨by simp only; omega, by simp only; rw [hst, h1]; rfl⟩, ?_, rfl, rfl⟩
        simp only [fwA, ↓reduceIte, Nat.reduceAdd, Nat.reduceMul, Nat.reduceEqDiff, Nat.reduceLT, Nat.reduceLeDiff, reduceCtorEq, List.map_cons, List.map_nil, hwj]
      rw [h1] at k1
      cases h2 : r b j
      · rw [h2] at k2
        refine awp_region rfl ?_
        refine aops_run 3 (by simp only [fwA, ↓reduceIte, Nat.reduceAdd, Nat.reduceMul, Nat.reduceEqDiff, Nat.reduceLT, Nat.reduceLeDiff, reduceCtorEq, bitfw, List.length_map, List.getElem?_map, Option.map_some, Int.natCast_nonneg, Int.toNat_natCast, decide_true, decide_false, Bool.and_true, Bool.and_self, Bool.not_true, Bool.not_false, Bool.false_and, Bool.true_and, un9, un22, un23, el22, el23, ti9, ti22, ti23, ti25, ti27, ti50, un50, un3, ti3, ti4, fl25_0, fl25_1, fl27_0, fl27_1, S1_fw, U1_fw, hK0] <;> rfl) ?_
        refine aops_fn rfl rfl rfl en18 k1 ?_
        refine aops_run 5 (by simp only [fwA, ↓reduceIte, Nat.reduceAdd, Nat.reduceMul, Nat.reduceEqDiff, Nat.reduceLT, Nat.reduceLeDiff, reduceCtorEq, bitfw, List.length_map, List.getElem?_map, Option.map_some, Int.natCast_nonneg, Int.toNat_natCast, decide_true, decide_false, Bool.and_true, Bool.and_self, Bool.not_true, Bool.not_false, Bool.false_and, Bool.true_and, un9, un22, un23, el22, el23, ti9, ti22, ti23, ti25, ti27, ti50, un50, un3, ti3, ti4, fl25_0, fl25_1, fl27_0, fl27_1, S1_fw, U1_fw, hK0] <;> rfl) ?_
        refine aops_fnIf rfl rfl rfl rfl rfl en18 k2 ?_
        refine aops_run 9 (by simp only [fwA, ↓reduceIte, Nat.reduceAdd, Nat.reduceMul, Nat.reduceEqDiff, Nat.reduceLT, Nat.reduceLeDiff, reduceCtorEq, bitfw, List.length_map, List.getElem?_map, Option.map_some, Int.natCast_nonneg, Int.toNat_natCast, decide_true, decide_false, Bool.and_true, Bool.and_self, Bool.not_true, Bool.not_false, Bool.false_and, Bool.true_and, un9, un22, un23, el22, el23, ti9, ti22, ti23, ti25, ti27, ti50, un50, un3, ti3, ti4, fl25_0, fl25_1, fl27_0, fl27_1, S1_fw, U1_fw, hK0] <;> rfl) ?_
        refine aops_end ?_
        refine awp_run rfl (by simp only [fwA, ↓reduceIte, Nat.reduceAdd, Nat.reduceMul, Nat.reduceEqDiff, Nat.reduceLT, Nat.reduceLeDiff, reduceCtorEq] <;> rfl) ?_
        refine ⟨(j + 1, true), by simp only; omega, ⟨by simp only; omega, by simp only; rw [hst, h1, h2]; rfl⟩, ?_, rfl, rfl⟩
        simp only [fwA, ↓reduceIte, Nat.reduceAdd, Nat.reduceMul, Nat.reduceEqDiff, Nat.reduceLT, Nat.reduceLeDiff, reduceCtorEq, List.map_cons, List.map_nil, hwj]
      rw [h2] at k2
      refine awp_region rfl ?_
      refine aops_run 3 (by simp only [fwA, ↓reduceIte, Nat.reduceAdd, Nat.reduceMul, Nat.reduceEqDiff, Nat.reduceLT, Nat.reduceLeDiff, reduceCtorEq, bitfw, List.length_map, List.getElem?_map, Option.map_some, Int.natCast_nonneg, Int.toNat_natCast, decide_true, decide_false, Bool.and_true, Bool.and_self, Bool.not_true, Bool.not_false, Bool.false_and, Bool.true_and, un9, un22, un23, el22, el23, ti9, ti22, ti23, ti25, ti27, ti50, un50, un3, ti3, ti4, fl25_0, fl25_1, fl27_0, fl27_1, S1_fw, U1_fw, hK0] <;> rfl) ?_
      refine aops_fn rfl rfl rfl en18 k1 ?_
      refine aops_run 5 (by simp only [fwA, ↓reduceIte, Nat.reduceAdd, Nat.reduceMul, Nat.reduceEqDiff, Nat.reduceLT, Nat.reduceLeDiff, reduceCtorEq, bitfw, List.length_map, List.getElem?_map, Option.map_some, Int.natCast_nonneg, Int.toNat_natCast, decide_true, decide_false, Bool.and_true, Bool.and_self, Bool.not_true, Bool.not_false, Bool.false_and, Bool.true_and, un9, un22, un23, el22, el23, ti9, ti22, ti23, ti25, ti27, ti50, un50, un3, ti3, ti4, fl25_0, fl25_1, fl27_0, fl27_1, S1_fw, U1_fw, hK0] <;> rfl) ?_
      refine aops_fnIf rfl rfl rfl rfl rfl en18 k2 ?_
      refine aops_run 6 (by simp only [fwA, ↓reduceIte, Nat.reduceAdd, Nat.reduceMul, Nat.reduceEqDiff, Nat.reduceLT, Nat.reduceLeDiff, reduceCtorEq, bitfw, List.length_map, List.getElem?_map, Option.map_some, Int.natCast_nonneg, Int.toNat_natCast, decide_true, decide_false, Bool.and_true, Bool.and_self, Bool.not_true, Bool.not_false, Bool.false_and, Bool.true_and, un9, un22, un23, el22, el23, ti9, ti22, ti23, ti25, ti27, ti50, un50, un3, ti3, ti4, fl25_0, fl25_1, fl27_0, fl27_1, S1_fw, U1_fw, hK0] <;> rfl) ?_
      refine aops_fnIf rfl rfl rfl rfl rfl en18 k3 ?_
      refine aops_run 2 (by simp only [fwA, ↓reduceIte, Nat.reduceAdd, Nat.reduceMul, Nat.reduceEqDiff, Nat.reduceLT, Nat.reduceLeDiff, reduceCtorEq, bitfw, List.length_map, List.getElem?_map, Option.map_some, Int.natCast_nonneg, Int.toNat_natCast, decide_true, decide_false, Bool.and_true, Bool.and_self, Bool.not_true, Bool.not_false, Bool.false_and, Bool.true_and, un9, un22, un23, el22, el23, ti9, ti22, ti23, ti25, ti27, ti50, un50, un3, ti3, ti4, fl25_0, fl25_1, fl27_0, fl27_1, S1_fw, U1_fw, hK0] <;> rfl) ?_
      refine aops_end ?_
      refine awp_run rfl (by simp only [fwA, ↓reduceIte, Nat.reduceAdd, Nat.reduceMul, Nat.reduceEqDiff, Nat.reduceLT, Nat.reduceLeDiff, reduceCtorEq] <;> rfl) ?_
      refine ⟨(j + 1, r i j), by simp only; omega, ⟨by simp only; omega, by simp only; rw [hst, h1, h2]; rfl⟩, ?_, rfl, rfl⟩
      simp only [fwA, ↓reduceIte, Nat.reduceAdd, Nat.reduceMul, Nat.reduceEqDiff, Nat.reduceLT, Nat.reduceLeDiff, reduceCtorEq, List.map_cons, List.map_nil, hwj]
  refine awp_seq ?_
  refine awp_run rfl (by simp only [fwA, ↓reduceIte, Nat.reduceAdd, Nat.reduceMul, Nat.reduceEqDiff, Nat.reduceLT, Nat.reduceLeDiff, reduceCtorEq] <;> rfl) ?_
  refine awp_cond (by simp only [fwA, ↓reduceIte, Nat.reduceAdd, Nat.reduceMul, Nat.reduceEqDiff, Nat.reduceLT, Nat.reduceLeDiff, reduceCtorEq] <;> rfl) ?_
  cases L2 with
  | false =>
    simp only [Bool.false_eq_true, ↓reduceIte]
    refine awp_skip ?_
    refine awp_run rfl (by simp only [fwA, ↓reduceIte, Nat.reduceAdd, Nat.reduceMul, Nat.reduceEqDiff, Nat.reduceLT, Nat.reduceLeDiff, reduceCtorEq] <;> rfl) ?_
    refine ⟨i + 1, by omega, ⟨by omega, fun j hj => ?_⟩, ?_, rfl, rfl⟩
    · by_cases hji : j = i
      · subst hji; exact hL2.symm
      · exact hno j (by omega)
    · simp only [fwA, ↓reduceIte, Nat.reduceAdd, Nat.reduceMul, Nat.reduceEqDiff, Nat.reduceLT, Nat.reduceLeDiff, reduceCtorEq, List.map_cons, List.map_nil, hwi]
  | true =>
    simp only [↓reduceIte]
    refine awp_seq ?_
    refine awp_run rfl (by simp only [fwA, ↓reduceIte, Nat.reduceAdd, Nat.reduceMul, Nat.reduceEqDiff, Nat.reduceLT, Nat.reduceLeDiff, reduceCtorEq] <;> rfl) ?_
    refine awp_ret ?_
    have hf : (List.range us.length).find? (fun c => r a c && r b c && (List.range us.length).all fun d => !(r a d && r b d) || r c d) = some i := by
      refine find_at (l := List.range us.length) (i := i) (List.getElem?_range hill) hL2.symm fun j d hj hd => ?_
      rw [List.getElem?_range (by omega), Option.some.injEq] at hd
      subst hd
      exact hno j hj
    rw [hf]
    exact hend _ _ rfl
end Go.Proofs.YtdhlghhokbmhdaaDoor
