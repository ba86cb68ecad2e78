/- The contract of what tells an order. -/
import Derived.Test.YtdhlghhokbmhdaaDoorR01d
namespace Go.Proofs.YtdhlghhokbmhdaaDoor
set_option linter.unusedVariables false
set_option linter.unusedSimpArgs false
set_option maxRecDepth 100000
open Go.RowKit Fw

/-- The marks among blocks. -/
def MarksAt (n : Nat) (H : List Blk) (D : List Nat) : Prop := D.Nodup ∧ ∀ b ∈ D, H[b]? = some .dfr ∧ n ≤ b
theorem MarksAt.app {n : Nat} {H : List Blk} {D : List Nat} (h : MarksAt n H D) (L : List Blk) : MarksAt n (H ++ L) D :=
  ⟨h.1, fun b hb => ⟨by rw [List.getElem?_append_left (List.getElem?_eq_some_iff.1 (h.2 b hb).1).1]; exact (h.2 b hb).1, (h.2 b hb).2⟩⟩
theorem MarksAt.push {n : Nat} {H : List Blk} {D : List Nat} (h : MarksAt n H D) (hn : n ≤ H.length) (L : List Blk) : MarksAt n (H ++ .dfr :: L) (H.length :: D) := by
  have h2 := h.app (.dfr :: L)
  refine ⟨List.nodup_cons.2 ⟨fun hb => ?_, h2.1⟩, fun b hb => ?_⟩
  · have := (List.getElem?_eq_some_iff.1 (h.2 _ hb).1).1; omega
  · rcases List.mem_cons.1 hb with rfl | hb
    · exact ⟨by rw [List.getElem?_append_right (Nat.le_refl _), Nat.sub_self]; rfl, hn⟩
    · exact h2.2 b hb

theorem set_self {H : List Blk} {b : Nat} {B : Blk} (h : H[b]? = some B) : H.set b B = H := by
  obtain ⟨h1, rfl⟩ := List.getElem?_eq_some_iff.1 h
  exact List.set_getElem_self h1

set_option maxHeartbeats 2000000 in
/- (chancel/lat.Lat).order -/
theorem c37 (Γ : Nat → PV) (hΓ : Tab64 Γ) (ns : List (List UInt8)) (us : List Nat) (hn : us.length ≤ 64) (hi : Inn us.length us) : Gives Tryd.prog Γ 37 [.agg [.vec (ns.map S1) false, .vec (us.map U1) false]] (.bool (ordB us.length (lq us))) := by
  have hw : W64 us := fun x hx => le64 hn (hi x hx)
  rw [← rows_ord rfl hn hi]
  refine fn_of_awp Tryd.func37 rfl (by simp [Tryd.f37]) rfl fun H => ?_
  refine awp_bd fun hbd0 => ?_
  refine awp_seq ?_
  refine awp_run rfl (by simp only [fwA, ↓reduceIte, Nat.reduceAdd, Nat.reduceMul, Nat.reduceEqDiff, Nat.reduceLT, Nat.reduceLeDiff, reduceCtorEq, ti4] <;> rfl) ?_
  refine awp_seq ?_
  refine awp_seq ?_
  refine awp_run rfl (by simp only [fwA, ↓reduceIte, Nat.reduceAdd, Nat.reduceMul, Nat.reduceEqDiff, Nat.reduceLT, Nat.reduceLeDiff, reduceCtorEq, bitfw, List.length_map, List.getElem?_map, Option.map_some, Int.natCast_nonneg, Int.toNat_natCast, decide_true, decide_false, Bool.and_true, Bool.and_self, Bool.not_true, Bool.not_false, un9, un22, un23, el22, el23, ti9, ti22, ti23, ti25, ti27, ti50, un50, un3, ti3, ti4, fl25_0, fl25_1, fl27_0, fl27_1, S1_fw, U1_fw] <;> rfl) ?_
  refine awp_block ?_
  refine awp_forD [1, 2, 7, 8, 9] (fun s : Nat × List Blk × List Nat => [.ptr H.length 0, .ptr (H.length + 1) 0, .vec (us.map U1) false, .int .i64 (us.length : Int), .int .i64 (s.1 : Int)]) (fun s => H ++ Blk.box (laC ns us) :: Blk.box [.bool false] :: s.2.1) (fun s => s.2.2) (fun s => us.length - s.1)
    (fun s => s.1 ≤ us.length ∧ (List.range s.1).all (okRow us us.length) = true ∧ MarksAt H.length (H ++ Blk.box (laC ns us) :: Blk.box [.bool false] :: s.2.1) s.2.2) (0, [], []) (by simp only [fwA, ↓reduceIte, Nat.reduceAdd, Nat.reduceMul, Nat.reduceEqDiff, Nat.reduceLT, Nat.reduceLeDiff, reduceCtorEq, List.map_cons, List.map_nil] <;> rfl) (by simp [laC]) rfl ⟨Nat.zero_le _, rfl, List.nodup_nil, fun b hb => by cases hb⟩ fun s hs => ?_
  obtain ⟨i, E, Ds⟩ := s
  obtain ⟨hil, hall, hM⟩ := hs
  simp only at hil hall hM ⊢
  have hHl : (H ++ Blk.box (laC ns us) :: Blk.box [.bool false] :: E).length = H.length + 2 + E.length := by simp; omega
  have g0 : (H ++ Blk.box (laC ns us) :: Blk.box [.bool false] :: E)[H.length]? = some (.box (laC ns us)) := by rw [Fw.get_at0]; rfl
  have g1 : (H ++ Blk.box (laC ns us) :: Blk.box [.bool false] :: E)[H.length + 1]? = some (.box [.bool false]) := by rw [Fw.get_at]; rfl
  have hset : (H ++ Blk.box (laC ns us) :: Blk.box [.bool false] :: E).set (H.length + 1) (.box [.bool true]) = H ++ Blk.box (laC ns us) :: Blk.box [.bool true] :: E := by rw [Fw.set_at]; rfl
  have hpre : ∃ L, H ++ Blk.box (laC ns us) :: Blk.box [.bool false] :: E = H ++ L := ⟨_, rfl⟩
  have hres : ∀ (A' : List (Nat × PV)) (K : List Blk) (v : Bool) (D' : List Nat), alook A' 2 = .ptr (H.length + 1) 0 → K[H.length + 1]? = some (.box [.bool v]) → (∃ L, K = H ++ L) → MarksAt H.length K D' →
      ((Exit.ret = .ret ∨ Exit.ret = .normal) ∧ D'.Nodup ∧ (∀ b ∈ D', K[b]? = some .dfr ∧ H.length ≤ b) ∧ ares Tryd.prog Γ A' K Tryd.f37.results.toList = some (.bool v) ∧ ∃ L', K = H ++ L') := fun A' K v D' h2 g hp hm => by
    refine ⟨.inl rfl, hm.1, hm.2, ?_, hp⟩
    simp [ares, aresL, ares1, Tryd.f37, rd, ev, ti4, h2, g]
  have hMt : MarksAt H.length (H ++ Blk.box (laC ns us) :: Blk.box [.bool true] :: E) Ds := ⟨hM.1, fun b hb => by
    obtain ⟨k1, k2⟩ := hM.2 b hb
    refine ⟨?_, k2⟩
    rw [← hset, List.getElem?_set_ne (fun e => by subst e; rw [g1] at k1; cases k1)]; exact k1⟩
  have gt1 : (H ++ Blk.box (laC ns us) :: Blk.box [.bool true] :: E)[H.length + 1]? = some (.box [.bool true]) := by rw [Fw.get_at]; rfl
  have hpret : ∃ L, H ++ Blk.box (laC ns us) :: Blk.box [.bool true] :: E = H ++ L := ⟨_, rfl⟩
  generalize H ++ Blk.box (laC ns us) :: Blk.box [.bool true] :: E = HT at hset hMt gt1 hpret
  have hEl : ∀ L : List Blk, H ++ Blk.box (laC ns us) :: Blk.box [.bool false] :: E ++ L = H ++ Blk.box (laC ns us) :: Blk.box [.bool false] :: (E ++ L) := fun L => by simp
  generalize hHB : H ++ Blk.box (laC ns us) :: Blk.box [.bool false] :: E = HB at *
  unfold laC at g0
  refine awp_seq ?_
  refine awp_run rfl (by simp only [fwA, ↓reduceIte, Nat.reduceAdd, Nat.reduceMul, Nat.reduceEqDiff, Nat.reduceLT, Nat.reduceLeDiff, reduceCtorEq] <;> rfl) ?_
  refine awp_seq ?_
  refine awp_cond (by simp only [fwA, ↓reduceIte, Nat.reduceAdd, Nat.reduceMul, Nat.reduceEqDiff, Nat.reduceLT, Nat.reduceLeDiff, reduceCtorEq] <;> rfl) ?_
  by_cases hc : (i : Int) < us.length
  rotate_left
  · simp only [hc, decide_false, Bool.false_eq_true, ↓reduceIte]
    refine awp_exit ?_
    have e : i = us.length := by omega
    subst e
    rw [hall]
    refine awp_seq ?_
    refine awp_run rfl (by simp only [fwA, ↓reduceIte, Nat.reduceAdd, Nat.reduceMul, Nat.reduceEqDiff, Nat.reduceLT, Nat.reduceLeDiff, reduceCtorEq, bitfw, List.length_map, List.getElem?_map, Option.map_some, Int.natCast_nonneg, Int.toNat_natCast, decide_true, decide_false, Bool.and_true, Bool.and_self, Bool.not_true, Bool.not_false, un9, un22, un23, el22, el23, ti9, ti22, ti23, ti25, ti27, ti50, un50, un3, ti3, ti4, fl25_0, fl25_1, fl27_0, fl27_1, S1_fw, U1_fw, g1] <;> rfl) ?_
    refine awp_ret ?_
    rw [hset]
    exact hres _ _ true _ rfl gt1 hpret hMt
  simp only [hc, decide_true, ↓reduceIte]
  refine awp_skip ?_
  have hill : i < us.length := by omega
  obtain ⟨x, gx, hx, ex⟩ := getW hw hill
  have hxn := getD_lt hi i
  rw [ex] at hxn
  have hwi : IntKind.i64.wrap ((i : Int) + 1) = ((i + 1 : Nat) : Int) := wrapS i (by omega)
  have hone := uOne (a := i) (by omega)
  have ha1 := uAnd (x := x) (y := 2 ^ i) hx
  have ha2 := uAnd (x := x) (y := dn us i us.length) hx
  have h61 := c61 Γ ns us hw hn i
  have hz1 := dec_zero (x &&& 2 ^ i)
  have hz2 := cast_eq (x &&& dn us i us.length) (2 ^ i)
  have hok : okRow us us.length i = (!decide (x &&& 2 ^ i = 0) && decide (x &&& dn us i us.length = 2 ^ i) && (bitsOf x).all fun b => decide (andn (us.getD b 0) x = 0)) := by unfold okRow; rw [ex]
  have hbad : okRow us us.length i = false → (List.range us.length).all (okRow us us.length) = false := fun h => all_false hill h
  refine awp_seq ?_
  refine awp_block ?_
  refine awp_seq ?_
  refine awp_run rfl (by simp only [fwA, ↓reduceIte, Nat.reduceAdd, Nat.reduceMul, Nat.reduceEqDiff, Nat.reduceLT, Nat.reduceLeDiff, reduceCtorEq, bitfw, List.length_map, List.getElem?_map, Option.map_some, Int.natCast_nonneg, Int.toNat_natCast, decide_true, decide_false, Bool.and_true, Bool.and_self, Bool.not_true, Bool.not_false, un9, un22, un23, el22, el23, ti9, ti22, ti23, ti25, ti27, ti50, un50, un3, ti3, ti4, fl25_0, fl25_1, fl27_0, fl27_1, S1_fw, U1_fw, gx] <;> rfl) ?_
  refine awp_seq ?_
  refine awp_seq ?_
  have g0' : (HB ++ [Blk.box [.int .u64 (x : Int)]])[H.length]? = some (.box [.vec (ns.map S1) false, .vec (us.map U1) false]) := by rw [List.getElem?_append_left (by omega)]; exact g0
  have g1' : (HB ++ [Blk.box [.int .u64 (x : Int)]])[H.length + 1]? = some (.box [.bool false]) := by rw [List.getElem?_append_left (by omega)]; exact g1
  have g4 : (HB ++ [Blk.box [.int .u64 (x : Int)]])[HB.length]? = some (.box [.int .u64 (x : Int)]) := Fw.get_at0 _ _
  have hsame' : (HB ++ [Blk.box [.int .u64 (x : Int)]]).set (H.length + 1) (.box [.bool false]) = HB ++ [Blk.box [.int .u64 (x : Int)]] := set_self g1'
  have hMK : MarksAt H.length (HB ++ [Blk.box [.int .u64 (x : Int)]]) Ds := hM.app _
  have hpK : ∃ L, HB ++ [Blk.box [.int .u64 (x : Int)]] = H ++ L := by obtain ⟨L, hL⟩ := hpre; exact ⟨L ++ _, by rw [hL, List.append_assoc]⟩
  generalize hK : HB ++ [Blk.box [.int .u64 (x : Int)]] = K at g0' g1' g4 hsame' hMK hpK ⊢
  by_cases h1 : x &&& 2 ^ i = 0
  · refine awp_drawn [1, 0, 0, 0, 0, 0, 1, 1, 0, 0, 0, 0, 0, 0, 0] [0, 0, 2, 7, 15, 31, 63, 63, 63, 447, 1023, 63, 2111, 8191, 16383] mixed rfl (by kernel_rfl) ?_
    refine dops_run 13 (by simp only [fwA, ↓reduceIte, Nat.reduceAdd, Nat.reduceMul, Nat.reduceEqDiff, Nat.reduceLT, Nat.reduceLeDiff, reduceCtorEq, bitfw, List.length_map, List.getElem?_map, Option.map_some, Int.natCast_nonneg, Int.toNat_natCast, decide_true, decide_false, Bool.and_true, Bool.and_self, Bool.not_true, Bool.not_false, un9, un22, un23, el22, el23, ti9, ti22, ti23, ti25, ti27, ti50, un50, un3, ti3, ti4, fl25_0, fl25_1, fl27_0, fl27_1, S1_fw, U1_fw, g0', g4, hone, ha1, hz1, h1] <;> rfl) ?_
    refine dops_run 2 (by simp only [fwA, ↓reduceIte, Nat.reduceAdd, Nat.reduceMul, Nat.reduceEqDiff, Nat.reduceLT, Nat.reduceLeDiff, reduceCtorEq, bitfw, List.length_map, List.getElem?_map, Option.map_some, Int.natCast_nonneg, Int.toNat_natCast, decide_true, decide_false, Bool.and_true, Bool.and_self, Bool.not_true, Bool.not_false, un9, un22, un23, el22, el23, ti9, ti22, ti23, ti25, ti27, ti50, un50, un3, ti3, ti4, fl25_0, fl25_1, fl27_0, fl27_1, S1_fw, U1_fw, g0', g4, hone, ha1, hz1, h1] <;> rfl) ?_
    refine dops_end ?_
    refine awp_cond (b := true) (by simp [alook, aput, ev]) ?_
    refine awp_seq ?_
    refine awp_run rfl (by simp only [fwA, ↓reduceIte, Nat.reduceAdd, Nat.reduceMul, Nat.reduceEqDiff, Nat.reduceLT, Nat.reduceLeDiff, reduceCtorEq, bitfw, List.length_map, List.getElem?_map, Option.map_some, Int.natCast_nonneg, Int.toNat_natCast, decide_true, decide_false, Bool.and_true, Bool.and_self, Bool.not_true, Bool.not_false, un9, un22, un23, el22, el23, ti9, ti22, ti23, ti25, ti27, ti50, un50, un3, ti3, ti4, fl25_0, fl25_1, fl27_0, fl27_1, S1_fw, U1_fw, g1', hsame'] <;> rfl) ?_
    refine awp_ret ?_
    rw [hbad (by rw [hok, decide_eq_true h1]; rfl)]
    exact hres _ _ false _ rfl g1' hpK hMK
  by_cases h2 : x &&& dn us i us.length = 2 ^ i
  rotate_left
  · refine awp_drawn [1, 0, 0, 0, 0, 0, 1, 1, 0, 0, 0, 0, 0, 0, 0] [0, 0, 2, 7, 15, 31, 63, 63, 63, 447, 1023, 63, 2111, 8191, 16383] mixed rfl (by kernel_rfl) ?_
    refine dops_run 9 (by simp only [fwA, ↓reduceIte, Nat.reduceAdd, Nat.reduceMul, Nat.reduceEqDiff, Nat.reduceLT, Nat.reduceLeDiff, reduceCtorEq, bitfw, List.length_map, List.getElem?_map, Option.map_some, Int.natCast_nonneg, Int.toNat_natCast, decide_true, decide_false, Bool.and_true, Bool.and_self, Bool.not_true, Bool.not_false, un9, un22, un23, el22, el23, ti9, ti22, ti23, ti25, ti27, ti50, un50, un3, ti3, ti4, fl25_0, fl25_1, fl27_0, fl27_1, S1_fw, U1_fw, g0', g4, hone, ha1, ha2, hz1, h1, hz2, h2] <;> rfl) ?_
    refine dops_fn rfl (by simp only [fwA, ↓reduceIte, Nat.reduceAdd, Nat.reduceMul, Nat.reduceEqDiff, Nat.reduceLT, Nat.reduceLeDiff, reduceCtorEq] <;> rfl) rfl rfl en61 h61 ?_
    refine dops_run 5 (by simp only [fwA, ↓reduceIte, Nat.reduceAdd, Nat.reduceMul, Nat.reduceEqDiff, Nat.reduceLT, Nat.reduceLeDiff, reduceCtorEq, bitfw, List.length_map, List.getElem?_map, Option.map_some, Int.natCast_nonneg, Int.toNat_natCast, decide_true, decide_false, Bool.and_true, Bool.and_self, Bool.not_true, Bool.not_false, un9, un22, un23, el22, el23, ti9, ti22, ti23, ti25, ti27, ti50, un50, un3, ti3, ti4, fl25_0, fl25_1, fl27_0, fl27_1, S1_fw, U1_fw, g0', g4, hone, ha1, ha2, hz1, h1, hz2, h2] <;> rfl) ?_
    refine dops_end ?_
    refine awp_cond (b := true) (by simp [alook, aput, ev]) ?_
    refine awp_seq ?_
    refine awp_run rfl (by simp only [fwA, ↓reduceIte, Nat.reduceAdd, Nat.reduceMul, Nat.reduceEqDiff, Nat.reduceLT, Nat.reduceLeDiff, reduceCtorEq, bitfw, List.length_map, List.getElem?_map, Option.map_some, Int.natCast_nonneg, Int.toNat_natCast, decide_true, decide_false, Bool.and_true, Bool.and_self, Bool.not_true, Bool.not_false, un9, un22, un23, el22, el23, ti9, ti22, ti23, ti25, ti27, ti50, un50, un3, ti3, ti4, fl25_0, fl25_1, fl27_0, fl27_1, S1_fw, U1_fw, g1', hsame'] <;> rfl) ?_
    refine awp_ret ?_
    rw [hbad (by rw [hok, decide_eq_false h2, Bool.and_false]; rfl)]
    exact hres _ _ false _ rfl g1' hpK hMK
  refine awp_drawn [1, 0, 0, 0, 0, 0, 1, 1, 0, 0, 0, 0, 0, 0, 0] [0, 0, 2, 7, 15, 31, 63, 63, 63, 447, 1023, 63, 2111, 8191, 16383] mixed rfl (by kernel_rfl) ?_
  refine dops_run 9 (by simp only [fwA, ↓reduceIte, Nat.reduceAdd, Nat.reduceMul, Nat.reduceEqDiff, Nat.reduceLT, Nat.reduceLeDiff, reduceCtorEq, bitfw, List.length_map, List.getElem?_map, Option.map_some, Int.natCast_nonneg, Int.toNat_natCast, decide_true, decide_false, Bool.and_true, Bool.and_self, Bool.not_true, Bool.not_false, un9, un22, un23, el22, el23, ti9, ti22, ti23, ti25, ti27, ti50, un50, un3, ti3, ti4, fl25_0, fl25_1, fl27_0, fl27_1, S1_fw, U1_fw, g0', g4, hone, ha1, ha2, hz1, h1, hz2, h2] <;> rfl) ?_
  refine dops_fn rfl (by simp only [fwA, ↓reduceIte, Nat.reduceAdd, Nat.reduceMul, Nat.reduceEqDiff, Nat.reduceLT, Nat.reduceLeDiff, reduceCtorEq] <;> rfl) rfl rfl en61 h61 ?_
  refine dops_run 5 (by simp only [fwA, ↓reduceIte, Nat.reduceAdd, Nat.reduceMul, Nat.reduceEqDiff, Nat.reduceLT, Nat.reduceLeDiff, reduceCtorEq, bitfw, List.length_map, List.getElem?_map, Option.map_some, Int.natCast_nonneg, Int.toNat_natCast, decide_true, decide_false, Bool.and_true, Bool.and_self, Bool.not_true, Bool.not_false, un9, un22, un23, el22, el23, ti9, ti22, ti23, ti25, ti27, ti50, un50, un3, ti3, ti4, fl25_0, fl25_1, fl27_0, fl27_1, S1_fw, U1_fw, g0', g4, hone, ha1, ha2, hz1, h1, hz2, h2] <;> rfl) ?_
  refine dops_end ?_
  refine awp_cond (b := false) (by simp [alook, aput, ev]) (awp_skip ?_)
  refine awp_seq ?_
  refine awp_region rfl ?_
  refine aops_run 1 (by simp only [fwA, ↓reduceIte, Nat.reduceAdd, Nat.reduceMul, Nat.reduceEqDiff, Nat.reduceLT, Nat.reduceLeDiff, reduceCtorEq, bitfw, List.length_map, List.getElem?_map, Option.map_some, Int.natCast_nonneg, Int.toNat_natCast, decide_true, decide_false, Bool.and_true, Bool.and_self, Bool.not_true, Bool.not_false, un9, un22, un23, el22, el23, ti9, ti22, ti23, ti25, ti27, ti50, un50, un3, ti3, ti4, fl25_0, fl25_1, fl27_0, fl27_1, S1_fw, U1_fw, g4] <;> rfl) ?_
  refine aops_call rfl rfl rfl en62 ((c62 Γ x _).mono fun p H' hp => ?_)
  obtain ⟨rfl, rfl⟩ := hp
  refine aops_end ?_
  refine awp_block ?_
  have hKl : K.length = HB.length + 1 := by rw [← hK]; simp
  refine awp_rangeFuncM (gf := 69) (caps := [.ptr K.length 0]) (b := K.length) (by simp only [fwA, ↓reduceIte, Nat.reduceAdd, Nat.reduceMul, Nat.reduceEqDiff, Nat.reduceLT, Nat.reduceLeDiff, reduceCtorEq] <;> rfl) en69 (c69 Γ hΓ K.length x hx) (Fw.get_at0 _ _) (by simp [Tryd.f37])
    (fun k Hf => (∀ j c, j < k → (bitsOf x)[j]? = some c → decide (andn (us.getD c 0) x = 0) = true) ∧ ∃ cs, PV.plainL cs = true ∧ Hf = K ++ [Blk.box cs])
    (fun c Hf => c = .ret ∧ okRow us us.length i = false ∧ ∃ cs, Hf = K ++ [Blk.box cs])
    ⟨fun j c hj => by omega, _, rfl, rfl⟩ ?_ ?_ ?_ ?_
  · rintro k Hf ⟨hno, cs, hcs, rfl⟩
    refine ⟨by simp, fun cs' hcs' => ⟨hno, cs', hcs', ?_⟩⟩
    rw [set_at0]; rfl
  · rintro k q Hf L L' ro hq ⟨hno, cs, hcs, rfl⟩ hL hL' hbd hbd'
    obtain ⟨c, hc2, rfl⟩ := bitsP_at hq
    have hct : x.testBit c = true := (mem_bitsOf hx).1 (List.mem_of_getElem? hc2)
    have hcn : c < us.length := bit_lt hxn hct
    obtain ⟨z, gz, hz, ez⟩ := getW hw hcn
    have hnj := uAndn z x
    have hdz := dec_zero (andn z x)
    refine awp_less (A' := [(1, .ptr H.length 0), (2, .ptr (H.length + 1) 0), (4, .ptr HB.length 0), (31, .int .i64 (c : Int))]) (fun t => zip_look [1, 2, 4, 31] [.ptr H.length 0, .ptr (H.length + 1) 0, .ptr HB.length 0, .int .i64 (c : Int)] t _ (by simp only [fwA, ↓reduceIte, Nat.reduceAdd, Nat.reduceMul, Nat.reduceEqDiff, Nat.reduceLT, Nat.reduceLeDiff, reduceCtorEq] <;> rfl)) ?_
    refine awp_run rfl (by simp only [fwA, ↓reduceIte, Nat.reduceAdd, Nat.reduceMul, Nat.reduceEqDiff, Nat.reduceLT, Nat.reduceLeDiff, reduceCtorEq] <;> rfl) ?_
    refine ⟨rfl, K ++ [Blk.box cs], [], by simp, by simp, ?_⟩
    rw [List.append_nil]
    have k0 : (K ++ [Blk.box cs] ++ L')[H.length]? = some (.box [.vec (ns.map S1) false, .vec (us.map U1) false]) := by rw [List.append_assoc, List.getElem?_append_left (by omega)]; exact g0'
    have k1 : (K ++ [Blk.box cs] ++ L')[H.length + 1]? = some (.box [.bool false]) := by rw [List.append_assoc, List.getElem?_append_left (by omega)]; exact g1'
    have k4 : (K ++ [Blk.box cs] ++ L')[HB.length]? = some (.box [.int .u64 (x : Int)]) := by rw [List.append_assoc, List.getElem?_append_left (by omega)]; exact g4
    have ksame : (K ++ [Blk.box cs] ++ L').set (H.length + 1) (.box [.bool false]) = K ++ [Blk.box cs] ++ L' := set_self k1
    have hbdK : ∀ B ∈ K ++ [Blk.box cs], B.bd ((K ++ [Blk.box cs]).length + L'.length) = true := fun B hB => by
      have := hbd B (List.mem_append_left _ hB)
      rw [List.length_append, ← hL'] at this
      exact this
    have hkl : (K ++ [Blk.box cs]).length = K.length + 1 := by simp
    have hkl2 : (K ++ [Blk.box [.int .u64 (x : Int)]]).length = K.length + 1 := by simp
    generalize hK3 : K ++ [Blk.box cs] ++ L' = K3 at k0 k1 k4 ksame ⊢
    refine awp_block ?_
    refine awp_seq ?_
    refine awp_drun [0, 1, 0, 0, 1, 1, 0, 0] [0, 1, 0, 7, 15, 0, 63, 127] mixed rfl (by kernel_rfl) (by simp only [fwA, ↓reduceIte, Nat.reduceAdd, Nat.reduceMul, Nat.reduceEqDiff, Nat.reduceLT, Nat.reduceLeDiff, reduceCtorEq, bitfw, List.length_map, List.getElem?_map, Option.map_some, Int.natCast_nonneg, Int.toNat_natCast, decide_true, decide_false, Bool.and_true, Bool.and_self, Bool.not_true, Bool.not_false, un9, un22, un23, el22, el23, ti9, ti22, ti23, ti25, ti27, ti50, un50, un3, ti3, ti4, fl25_0, fl25_1, fl27_0, fl27_1, S1_fw, U1_fw, k0, k4, gz, hnj, hdz] <;> rfl) ?_
    refine awp_cond (by simp only [fwA, ↓reduceIte, Nat.reduceAdd, Nat.reduceMul, Nat.reduceEqDiff, Nat.reduceLT, Nat.reduceLeDiff, reduceCtorEq] <;> rfl) ?_
    by_cases hz0 : andn z x = 0
    · simp only [hz0, decide_true, Bool.not_true, Bool.false_eq_true, ↓reduceIte]
      refine awp_skip ?_
      refine ⟨K ++ [Blk.box cs], [], by simp, by rw [← hK3]; simp, fun B hB => by rw [hkl2, ← hkl]; exact hbdK B hB, rfl, fun j d hj hd => ?_, cs, hcs, rfl⟩
      by_cases hji : j = k
      · subst hji; rw [hc2] at hd; cases hd; rw [ez]; exact decide_eq_true hz0
      · exact hno j d (by omega) hd
    · simp only [hz0, decide_false, Bool.not_false, ↓reduceIte]
      refine awp_seq ?_
      refine awp_run rfl (by simp only [fwA, ↓reduceIte, Nat.reduceAdd, Nat.reduceMul, Nat.reduceEqDiff, Nat.reduceLT, Nat.reduceLeDiff, reduceCtorEq, bitfw, List.length_map, List.getElem?_map, Option.map_some, Int.natCast_nonneg, Int.toNat_natCast, decide_true, decide_false, Bool.and_true, Bool.and_self, Bool.not_true, Bool.not_false, un9, un22, un23, el22, el23, ti9, ti22, ti23, ti25, ti27, ti50, un50, un3, ti3, ti4, fl25_0, fl25_1, fl27_0, fl27_1, S1_fw, U1_fw, k1, ksame] <;> rfl) ?_
      refine awp_ret ?_
      refine ⟨K ++ [Blk.box cs], [], by simp, by rw [← hK3]; simp, fun B hB => by rw [hkl2, ← hkl]; exact hbdK B hB, rfl, by first | exact rfl | exact trivial, ?_, cs, rfl⟩
      rw [hok]
      have : ((bitsOf x).all fun b => decide (andn (us.getD b 0) x = 0)) = false := by
        rw [List.all_eq_false]
        exact ⟨c, List.mem_of_getElem? hc2, by rw [ez]; simpa using hz0⟩
      rw [this, Bool.and_false]
  · rintro Hf B ⟨hno, cs, hcs, rfl⟩
    have hrow : okRow us us.length i = true := by
      rw [hok, decide_eq_false h1, decide_eq_true h2]
      have : ((bitsOf x).all fun b => decide (andn (us.getD b 0) x = 0)) = true := by
        rw [List.all_eq_true]
        intro c hc3
        obtain ⟨j, hj⟩ := List.getElem?_of_mem hc3
        exact hno j c (by rw [bitsP_len]; exact (List.getElem?_eq_some_iff.1 hj).1) hj
      rw [this]; rfl
    simp only [Post.block, Post.then]
    refine awp_run rfl (by simp only [fwA, ↓reduceIte, Nat.reduceAdd, Nat.reduceMul, Nat.reduceEqDiff, Nat.reduceLT, Nat.reduceLeDiff, reduceCtorEq] <;> rfl) ?_
    refine ⟨(i + 1, E ++ [.box [.int .u64 (x : Int)], .box cs, .dfr, B], (K ++ [Blk.box [.int .u64 (x : Int)]]).length :: Ds), by simp only; omega, ⟨by simp only; omega, ?_, ?_⟩, ?_, ?_, rfl⟩
    · simp only [all_succ, hall, hrow, Bool.and_self]
    · have hm := (hMK.app [Blk.box cs]).push (by simp; omega) [B]
      simp only
      rw [← hEl, show HB ++ [Blk.box [.int .u64 (x : Int)], .box cs, .dfr, B] = K ++ [Blk.box cs] ++ [.dfr, B] by rw [← hK]; simp]
      rw [show (K ++ [Blk.box [.int .u64 (x : Int)]]).length = (K ++ [Blk.box cs]).length by simp]
      exact hm
    · simp only [fwA, ↓reduceIte, Nat.reduceAdd, Nat.reduceMul, Nat.reduceEqDiff, Nat.reduceLT, Nat.reduceLeDiff, reduceCtorEq, List.map_cons, List.map_nil, hwi]
    · simp only
      rw [← hEl, ← hK]; simp
  · rintro c Hf B ⟨rfl, hbadr, cs, rfl⟩ _
    refine awp_ret ?_
    rw [hbad hbadr]
    have hm := (hMK.app [Blk.box cs]).push (by simp; omega) [B]
    rw [show (K ++ [Blk.box cs]).length = (K ++ [Blk.box [.int .u64 (x : Int)]]).length by simp] at hm
    refine hres _ _ false _ rfl ?_ ?_ hm
    · rw [List.append_assoc, List.getElem?_append_left (by omega)]; exact g1'
    · obtain ⟨L, hL⟩ := hpK
      exact ⟨L ++ [Blk.box cs] ++ [.dfr, B], by rw [hL]; simp⟩

end Go.Proofs.YtdhlghhokbmhdaaDoor
