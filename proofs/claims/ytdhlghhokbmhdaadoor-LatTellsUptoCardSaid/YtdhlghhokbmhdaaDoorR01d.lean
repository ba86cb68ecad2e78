/- The contracts of joins and meets. -/
import Derived.Test.YtdhlghhokbmhdaaDoorR01c
namespace Go.Proofs.YtdhlghhokbmhdaaDoor
set_option linter.unusedVariables false
set_option linter.unusedSimpArgs false
set_option maxRecDepth 100000
open Go.RowKit Fw

def oI (o : Option Nat) : Int := match o with | some c => (c : Int) | none => -1
theorem jI_oI (n : Nat) (r : Nat → Nat → Bool) (a b : Nat) : jI n r a b = oI (jn n r a b) := rfl
theorem bitsP_at {x i : Nat} {q : List PV} (h : (bitsP x)[i]? = some q) : ∃ c, (bitsOf x)[i]? = some c ∧ q = [.int .i64 ((c : Nat) : Int)] := by
  unfold bitsP at h
  rw [List.getElem?_map] at h
  obtain ⟨c, h1, h2⟩ := Option.map_eq_some_iff.1 h
  exact ⟨c, h1, h2.symm⟩
theorem find_at {l : List Nat} {p : Nat → Bool} {i c : Nat} (h : l[i]? = some c) (hp : p c = true) (hn : ∀ j d, j < i → l[j]? = some d → p d = false) : l.find? p = some c := by
  rw [List.find?_eq_some_iff_getElem]
  obtain ⟨hi, rfl⟩ := List.getElem?_eq_some_iff.1 h
  refine ⟨hp, i, hi, rfl, fun j hj => ?_⟩
  rw [hn j _ hj (List.getElem?_eq_getElem (by omega))]; rfl
theorem find_none {l : List Nat} {p : Nat → Bool} (hn : ∀ j d, j < l.length → l[j]? = some d → p d = false) : l.find? p = none := by
  rw [List.find?_eq_none]
  intro d hd
  obtain ⟨j, hj⟩ := List.getElem?_of_mem hd
  rw [hn j d (List.getElem?_eq_some_iff.1 hj).1 hj]; simp
theorem dec_zero (x : Nat) : decide ((x : Int) = 0) = decide (x = 0) := decide_eq_decide.2 (by omega)

set_option maxHeartbeats 1000000 in
/- (chancel/lat.Lat).join -/
theorem c51 (Γ : Nat → PV) (hΓ : Tab64 Γ) (ns : List (List UInt8)) (us : List Nat) (hn : us.length ≤ 64) (hi : Inn us.length us) (a b : Nat) (ha : a < us.length) (hb : b < us.length) : Gives Tryd.prog Γ 51 [.agg [.vec (ns.map S1) false, .vec (us.map U1) false], .int .i64 (a : Int), .int .i64 (b : Int)] (.int .i64 (oI (jn us.length (lq us) a b))) := by
  have hw : W64 us := fun x hx => le64 hn (hi x hx)
  obtain ⟨x, gx, hx, ex⟩ := getW hw ha
  obtain ⟨y, gy, hy, ey⟩ := getW hw hb
  have hxn := getD_lt hi a
  rw [ex] at hxn
  have hand := uAnd (x := x) (y := y) hx
  have hYn : x &&& y < 2 ^ us.length := Nat.lt_of_le_of_lt Nat.and_le_left hxn
  have hjp := joinP_eq (u := us) (a := a) (b := b) hn hi
  unfold joinP at hjp
  rw [ex, ey] at hjp
  rw [← hjp]
  generalize hYd : x &&& y = Y at *
  have hY : Y < 2 ^ 64 := le64 hn hYn
  refine fn_of_awp Tryd.func51 rfl (by simp [Tryd.f51]) rfl fun H => ?_
  refine awp_seq ?_
  refine awp_run rfl (by simp only [fwA, ↓reduceIte, Nat.reduceAdd, Nat.reduceMul, Nat.reduceEqDiff, Nat.reduceLT, Nat.reduceLeDiff, reduceCtorEq, ti3] <;> rfl) ?_
  refine awp_seq ?_
  refine awp_drawn [0, 4, 0, 0, 4, 0, 4, 0, 0, 4, 0, 3, 2] [0, 1, 0, 7, 15, 0, 32, 0, 224, 480, 1023, 0, 4095] mixed rfl (by kernel_rfl) ?_
  refine dops_run 11 (by simp only [fwA, ↓reduceIte, Nat.reduceAdd, Nat.reduceMul, Nat.reduceEqDiff, Nat.reduceLT, Nat.reduceLeDiff, reduceCtorEq, bitfw, List.length_map, List.getElem?_map, Option.map_some, Int.natCast_nonneg, Int.toNat_natCast, decide_true, decide_false, Bool.and_true, Bool.and_self, Bool.not_true, Bool.not_false, un9, un22, un23, el22, el23, ti9, ti22, ti23, ti25, ti27, ti50, un50, un3, ti3, ti4, fl25_0, fl25_1, fl27_0, fl27_1, S1_fw, U1_fw, gx, gy, hand] <;> rfl) ?_
  refine dops_make1 rfl rfl (by simp only [fwA, ↓reduceIte, Nat.reduceAdd, Nat.reduceMul, Nat.reduceEqDiff, Nat.reduceLT, Nat.reduceLeDiff, reduceCtorEq, ti50] <;> rfl) (by simp [View.vw, List.take_append]) ?_
  refine dops_run 1 (by simp only [fwA, ↓reduceIte, Nat.reduceAdd, Nat.reduceMul, Nat.reduceEqDiff, Nat.reduceLT, Nat.reduceLeDiff, reduceCtorEq, bitfw, List.length_map, List.getElem?_map, Option.map_some, Int.natCast_nonneg, Int.toNat_natCast, decide_true, decide_false, Bool.and_true, Bool.and_self, Bool.not_true, Bool.not_false, un9, un22, un23, el22, el23, ti9, ti22, ti23, ti25, ti27, ti50, un50, un3, ti3, ti4, fl25_0, fl25_1, fl27_0, fl27_1, S1_fw, U1_fw] <;> rfl) ?_
  refine dops_end ?_
  refine awp_seq ?_
  refine awp_seq ?_
  refine awp_region rfl ?_
  refine aops_run 1 (by simp only [fwA, ↓reduceIte, Nat.reduceAdd, Nat.reduceMul, Nat.reduceEqDiff, Nat.reduceLT, Nat.reduceLeDiff, reduceCtorEq, bitfw, List.length_map, List.getElem?_map, Option.map_some, Int.natCast_nonneg, Int.toNat_natCast, decide_true, decide_false, Bool.and_true, Bool.and_self, Bool.not_true, Bool.not_false, un9, un22, un23, el22, el23, ti9, ti22, ti23, ti25, ti27, ti50, un50, un3, ti3, ti4, fl25_0, fl25_1, fl27_0, fl27_1, S1_fw, U1_fw] <;> rfl) ?_
  refine aops_call rfl rfl rfl en62 ((c62 Γ Y _).mono fun p H' hp => ?_)
  obtain ⟨rfl, rfl⟩ := hp
  refine aops_end ?_
  refine awp_block ?_
  refine awp_heap (H' := H ++ [.box (laC ns us), .box [.int .i64 0], .box [.int .u64 ((Y : Nat) : Int)], .box [.int .u64 ((Y : Nat) : Int)]]) (by simp [laC]) ?_
  refine awp_rangeFuncM (gf := 69) (caps := [.ptr (H.length + 3) 0]) (b := H.length + 3) (by simp only [fwA, ↓reduceIte, Nat.reduceAdd, Nat.reduceMul, Nat.reduceEqDiff, Nat.reduceLT, Nat.reduceLeDiff, reduceCtorEq, List.length_append, List.length_cons, List.length_nil] <;> rfl) en69 (c69 Γ hΓ (H.length + 3) Y hY) (by rw [Fw.get_at]; rfl) (by simp [Tryd.f51])
    (fun i Hf => (∀ j c, j < i → (bitsOf Y)[j]? = some c → decide (andn Y (us.getD c 0) = 0) = false) ∧ ∃ cs, PV.plainL cs = true ∧ Hf = H ++ [.box (laC ns us), .box [.int .i64 0], .box [.int .u64 ((Y : Nat) : Int)], .box cs])
    (fun c Hf => c = .ret ∧ ∃ (r : Nat) (cs : List PV), (bitsOf Y).find? (fun c => decide (andn Y (us.getD c 0) = 0)) = some r ∧ Hf = H ++ [.box (laC ns us), .box [.int .i64 (r : Int)], .box [.int .u64 ((Y : Nat) : Int)], .box cs])
    ⟨fun j c hj => by omega, _, rfl, rfl⟩ ?_ ?_ ?_ ?_
  · rintro i Hf ⟨hno, cs, hcs, rfl⟩
    refine ⟨by simp, fun cs' hcs' => ⟨hno, cs', hcs', ?_⟩⟩
    rw [Fw.set_at]; rfl
  · rintro i q Hf L L' ro hq ⟨hno, cs, hcs, rfl⟩ hL hL' hbd hbd'
    obtain ⟨c, hc, rfl⟩ := bitsP_at hq
    have hct : Y.testBit c = true := (mem_bitsOf hY).1 (List.mem_of_getElem? hc)
    have hcn : c < us.length := bit_lt hYn hct
    obtain ⟨z, gz, hz, ez⟩ := getW hw hcn
    have hnj := uAndn Y z
    have hdz := dec_zero (andn Y z)
    refine awp_less (A' := [(3, .ptr H.length 0), (6, .ptr (H.length + 1) 0), (7, .ptr (H.length + 2) 0), (22, .int .i64 (c : Int))]) (fun t => zip_look [3, 6, 7, 22] [.ptr H.length 0, .ptr (H.length + 1) 0, .ptr (H.length + 2) 0, .int .i64 (c : Int)] t _ (by simp only [fwA, ↓reduceIte, Nat.reduceAdd, Nat.reduceMul, Nat.reduceEqDiff, Nat.reduceLT, Nat.reduceLeDiff, reduceCtorEq, List.length_append, List.length_cons, List.length_nil] <;> rfl)) ?_
    refine awp_run rfl (by simp only [fwA, ↓reduceIte, Nat.reduceAdd, Nat.reduceMul, Nat.reduceEqDiff, Nat.reduceLT, Nat.reduceLeDiff, reduceCtorEq] <;> rfl) ?_
    refine ⟨rfl, H ++ [.box (laC ns us), .box [.int .i64 0], .box [.int .u64 ((Y : Nat) : Int)], .box cs], [], by simp, by simp, ?_⟩
    rw [List.append_nil]
    have g0 : (H ++ [.box (laC ns us), .box [.int .i64 0], .box [.int .u64 ((Y : Nat) : Int)], .box cs] ++ L')[H.length]? = some (.box (laC ns us)) := by rw [List.append_assoc, Fw.get_at0]; rfl
    have g1 : (H ++ [.box (laC ns us), .box [.int .i64 0], .box [.int .u64 ((Y : Nat) : Int)], .box cs] ++ L')[H.length + 1]? = some (.box [.int .i64 0]) := by rw [List.append_assoc, Fw.get_at]; rfl
    have g2 : (H ++ [.box (laC ns us), .box [.int .i64 0], .box [.int .u64 ((Y : Nat) : Int)], .box cs] ++ L')[H.length + 2]? = some (.box [.int .u64 (Y : Int)]) := by rw [List.append_assoc, Fw.get_at]; rfl
    have hbdH : ∀ B ∈ H, B.bd (H.length + 4 + L'.length) = true := fun B hB => by
      have := hbd B (by simp [hB])
      rw [List.length_append, ← hL'] at this
      simpa using this
    generalize hK : H ++ [.box (laC ns us), .box [.int .i64 0], .box [.int .u64 ((Y : Nat) : Int)], .box cs] ++ L' = K at g0 g1 g2 ⊢
    unfold laC at g0
    refine awp_block ?_
    refine awp_seq ?_
    refine awp_drun [1, 0, 1, 0, 0, 1, 0, 0] [0, 0, 2, 0, 14, 30, 63, 127] mixed rfl (by kernel_rfl) (by simp only [fwA, ↓reduceIte, Nat.reduceAdd, Nat.reduceMul, Nat.reduceEqDiff, Nat.reduceLT, Nat.reduceLeDiff, reduceCtorEq, bitfw, List.length_map, List.getElem?_map, Option.map_some, Int.natCast_nonneg, Int.toNat_natCast, decide_true, decide_false, Bool.and_true, Bool.and_self, Bool.not_true, Bool.not_false, un9, un22, un23, el22, el23, ti9, ti22, ti23, ti25, ti27, ti50, un50, un3, ti3, ti4, fl25_0, fl25_1, fl27_0, fl27_1, S1_fw, U1_fw, g0, g1, g2, gz, hnj, hdz] <;> rfl) ?_
    refine awp_cond (by simp only [fwA, ↓reduceIte, Nat.reduceAdd, Nat.reduceMul, Nat.reduceEqDiff, Nat.reduceLT, Nat.reduceLeDiff, reduceCtorEq] <;> rfl) ?_
    by_cases hz0 : andn Y z = 0
    · simp only [hz0, decide_true, ↓reduceIte]
      refine awp_seq ?_
      refine awp_run rfl (by simp only [fwA, ↓reduceIte, Nat.reduceAdd, Nat.reduceMul, Nat.reduceEqDiff, Nat.reduceLT, Nat.reduceLeDiff, reduceCtorEq, bitfw, List.length_map, List.getElem?_map, Option.map_some, Int.natCast_nonneg, Int.toNat_natCast, decide_true, decide_false, Bool.and_true, Bool.and_self, Bool.not_true, Bool.not_false, un9, un22, un23, el22, el23, ti9, ti22, ti23, ti25, ti27, ti50, un50, un3, ti3, ti4, fl25_0, fl25_1, fl27_0, fl27_1, S1_fw, U1_fw, g1] <;> rfl) ?_
      refine awp_ret ?_
      refine ⟨H ++ [.box (laC ns us), .box [.int .i64 (c : Int)], .box [.int .u64 ((Y : Nat) : Int)], .box cs], [], by simp, ?_, ?_, ?_, by first | exact rfl | exact trivial, c, cs, find_at hc (by rw [ez]; exact decide_eq_true hz0) hno, rfl⟩
      · rw [← hK, List.append_assoc, Fw.set_at]; simp
      · intro B hB
        simp only [List.length_append, List.length_cons, List.length_nil]
        rcases List.mem_append.1 hB with hB | hB
        · exact hbdH B hB
        · simp only [List.mem_cons, List.not_mem_nil, or_false] at hB
          rcases hB with rfl | rfl | rfl | rfl
          · simp [Blk.bd, PV.bdL, PV.bd, laC, S1, U1]
          · rfl
          · rfl
          · exact PV.bdL_mono (Nat.zero_le _) _ hcs
      · rw [Fw.get_at, Fw.get_at]; rfl
    · simp only [hz0, decide_false, Bool.false_eq_true, ↓reduceIte]
      refine awp_skip ?_
      refine ⟨H ++ [.box (laC ns us), .box [.int .i64 0], .box [.int .u64 ((Y : Nat) : Int)], .box cs], [], by simp, by rw [← hK]; simp, ?_, rfl, fun j d hj hd => ?_, cs, hcs, rfl⟩
      · intro B hB
        simp only [List.length_append, List.length_cons, List.length_nil]
        rcases List.mem_append.1 hB with hB | hB
        · exact hbdH B hB
        · simp only [List.mem_cons, List.not_mem_nil, or_false] at hB
          rcases hB with rfl | rfl | rfl | rfl
          · simp [Blk.bd, PV.bdL, PV.bd, laC, S1, U1]
          · rfl
          · rfl
          · exact PV.bdL_mono (Nat.zero_le _) _ hcs
      · by_cases hji : j = i
        · subst hji; rw [hc] at hd; cases hd; rw [ez]; exact decide_eq_false hz0
        · exact hno j d (by omega) hd
  · rintro Hf B ⟨hno, cs, hcs, rfl⟩
    have hf : (bitsOf Y).find? (fun c => decide (andn Y (us.getD c 0) = 0)) = none := find_none fun j d hj hd => hno j d (by rw [bitsP_len]; exact hj) hd
    rw [hf]
    simp only [Post.block, Post.then]
    refine awp_heap (H' := H ++ [.box (laC ns us), .box [.int .i64 0], .box [.int .u64 ((Y : Nat) : Int)], .box cs, .dfr, B]) (by simp) ?_
    refine awp_seq ?_
    refine awp_run rfl (by simp only [fwA, ↓reduceIte, Nat.reduceAdd, Nat.reduceMul, Nat.reduceEqDiff, Nat.reduceLT, Nat.reduceLeDiff, reduceCtorEq, ti3] <;> rfl) ?_
    refine awp_ret ?_
    refine ⟨.inl rfl, by simp, fun b hb => ?_, ?_, _, rfl⟩
    · simp only [List.mem_singleton] at hb
      subst hb
      exact ⟨by rw [List.length_append, Fw.get_at]; rfl, by simp⟩
    · simp [oI, ares, aresL, ares1, alook, Tryd.f51, rd, ev, ti3]
  · rintro c Hf B ⟨rfl, r, cs, hr, rfl⟩ _
    rw [hr]
    refine awp_heap (H' := H ++ [.box (laC ns us), .box [.int .i64 (r : Int)], .box [.int .u64 ((Y : Nat) : Int)], .box cs, .dfr, B]) (by simp) ?_
    refine awp_ret ?_
    refine ⟨.inl rfl, by simp, fun b hb => ?_, ?_, _, rfl⟩
    · simp only [List.mem_singleton] at hb
      subst hb
      exact ⟨by rw [List.length_append, Fw.get_at]; rfl, by simp⟩
    · simp [oI, aput, ares, aresL, ares1, alook, Tryd.f51, rd, ev, ti3]

set_option maxHeartbeats 1000000 in
/- (chancel/lat.Lat).meet -/
theorem c53 (Γ : Nat → PV) (hΓ : Tab64 Γ) (ns : List (List UInt8)) (us : List Nat) (hn : us.length ≤ 64) (hw : W64 us) (a b : Nat) (ha : a < us.length) (hb : b < us.length) : Gives Tryd.prog Γ 53 [.agg [.vec (ns.map S1) false, .vec (us.map U1) false], .int .i64 (a : Int), .int .i64 (b : Int)] (.int .i64 (oI (jn us.length (tr (lq us)) a b))) := by
  have hda := le64 hn (dn_lt us a us.length)
  have h61a := c61 Γ ns us hw hn a
  have h61b := c61 Γ ns us hw hn b
  have hand := uAnd (x := dn us a us.length) (y := dn us b us.length) hda
  have hYn : dn us a us.length &&& dn us b us.length < 2 ^ us.length := Nat.lt_of_le_of_lt Nat.and_le_left (dn_lt us a us.length)
  have hjp := meetP_eq (u := us) (a := a) (b := b) rfl hn
  unfold meetP at hjp
  rw [← hjp]
  generalize hYd : dn us a us.length &&& dn us b us.length = Y at *
  have hY : Y < 2 ^ 64 := le64 hn hYn
  refine fn_of_awp Tryd.func53 rfl (by simp [Tryd.f53]) rfl fun H => ?_
  refine awp_seq ?_
  refine awp_run rfl (by simp only [fwA, ↓reduceIte, Nat.reduceAdd, Nat.reduceMul, Nat.reduceEqDiff, Nat.reduceLT, Nat.reduceLeDiff, reduceCtorEq, ti3] <;> rfl) ?_
  refine awp_seq ?_
  refine awp_drawn [4, 0, 0, 4, 0, 0, 0, 3, 2] [0, 0, 3, 0, 0, 31, 63, 0, 255] mixed rfl (by kernel_rfl) ?_
  refine dops_run 2 (by simp only [fwA, ↓reduceIte, Nat.reduceAdd, Nat.reduceMul, Nat.reduceEqDiff, Nat.reduceLT, Nat.reduceLeDiff, reduceCtorEq, bitfw, List.length_map, List.getElem?_map, Option.map_some, Int.natCast_nonneg, Int.toNat_natCast, decide_true, decide_false, Bool.and_true, Bool.and_self, Bool.not_true, Bool.not_false, un9, un22, un23, el22, el23, ti9, ti22, ti23, ti25, ti27, ti50, un50, un3, ti3, ti4, fl25_0, fl25_1, fl27_0, fl27_1, S1_fw, U1_fw] <;> rfl) ?_
  refine dops_fn rfl rfl rfl rfl en61 h61a ?_
  refine dops_run 2 (by simp only [fwA, ↓reduceIte, Nat.reduceAdd, Nat.reduceMul, Nat.reduceEqDiff, Nat.reduceLT, Nat.reduceLeDiff, reduceCtorEq, bitfw, List.length_map, List.getElem?_map, Option.map_some, Int.natCast_nonneg, Int.toNat_natCast, decide_true, decide_false, Bool.and_true, Bool.and_self, Bool.not_true, Bool.not_false, un9, un22, un23, el22, el23, ti9, ti22, ti23, ti25, ti27, ti50, un50, un3, ti3, ti4, fl25_0, fl25_1, fl27_0, fl27_1, S1_fw, U1_fw] <;> rfl) ?_
  refine dops_fn rfl rfl rfl rfl en61 h61b ?_
  refine dops_run 1 (by simp only [fwA, ↓reduceIte, Nat.reduceAdd, Nat.reduceMul, Nat.reduceEqDiff, Nat.reduceLT, Nat.reduceLeDiff, reduceCtorEq, bitfw, List.length_map, List.getElem?_map, Option.map_some, Int.natCast_nonneg, Int.toNat_natCast, decide_true, decide_false, Bool.and_true, Bool.and_self, Bool.not_true, Bool.not_false, un9, un22, un23, el22, el23, ti9, ti22, ti23, ti25, ti27, ti50, un50, un3, ti3, ti4, fl25_0, fl25_1, fl27_0, fl27_1, S1_fw, U1_fw, hand] <;> rfl) ?_
  refine dops_make1 rfl rfl (by simp only [fwA, ↓reduceIte, Nat.reduceAdd, Nat.reduceMul, Nat.reduceEqDiff, Nat.reduceLT, Nat.reduceLeDiff, reduceCtorEq, ti50] <;> rfl) (by simp [View.vw, List.take_append]) ?_
  refine dops_run 1 (by simp only [fwA, ↓reduceIte, Nat.reduceAdd, Nat.reduceMul, Nat.reduceEqDiff, Nat.reduceLT, Nat.reduceLeDiff, reduceCtorEq, bitfw, List.length_map, List.getElem?_map, Option.map_some, Int.natCast_nonneg, Int.toNat_natCast, decide_true, decide_false, Bool.and_true, Bool.and_self, Bool.not_true, Bool.not_false, un9, un22, un23, el22, el23, ti9, ti22, ti23, ti25, ti27, ti50, un50, un3, ti3, ti4, fl25_0, fl25_1, fl27_0, fl27_1, S1_fw, U1_fw] <;> rfl) ?_
  refine dops_end ?_
  refine awp_seq ?_
  refine awp_seq ?_
  refine awp_region rfl ?_
  refine aops_run 1 (by simp only [fwA, ↓reduceIte, Nat.reduceAdd, Nat.reduceMul, Nat.reduceEqDiff, Nat.reduceLT, Nat.reduceLeDiff, reduceCtorEq, bitfw, List.length_map, List.getElem?_map, Option.map_some, Int.natCast_nonneg, Int.toNat_natCast, decide_true, decide_false, Bool.and_true, Bool.and_self, Bool.not_true, Bool.not_false, un9, un22, un23, el22, el23, ti9, ti22, ti23, ti25, ti27, ti50, un50, un3, ti3, ti4, fl25_0, fl25_1, fl27_0, fl27_1, S1_fw, U1_fw] <;> rfl) ?_
  refine aops_call rfl rfl rfl en62 ((c62 Γ Y _).mono fun p H' hp => ?_)
  obtain ⟨rfl, rfl⟩ := hp
  refine aops_end ?_
  refine awp_block ?_
  refine awp_heap (H' := H ++ [.box (laC ns us), .box [.int .i64 0], .box [.int .u64 ((Y : Nat) : Int)], .box [.int .u64 ((Y : Nat) : Int)]]) (by simp [laC]) ?_
  refine awp_rangeFuncM (gf := 69) (caps := [.ptr (H.length + 3) 0]) (b := H.length + 3) (by simp only [fwA, ↓reduceIte, Nat.reduceAdd, Nat.reduceMul, Nat.reduceEqDiff, Nat.reduceLT, Nat.reduceLeDiff, reduceCtorEq, List.length_append, List.length_cons, List.length_nil] <;> rfl) en69 (c69 Γ hΓ (H.length + 3) Y hY) (by rw [Fw.get_at]; rfl) (by simp [Tryd.f53])
    (fun i Hf => (∀ j c, j < i → (bitsOf Y)[j]? = some c → decide (andn Y (dn us c us.length) = 0) = false) ∧ ∃ cs, PV.plainL cs = true ∧ Hf = H ++ [.box (laC ns us), .box [.int .i64 0], .box [.int .u64 ((Y : Nat) : Int)], .box cs])
    (fun c Hf => c = .ret ∧ ∃ (r : Nat) (cs : List PV), (bitsOf Y).find? (fun c => decide (andn Y (dn us c us.length) = 0)) = some r ∧ Hf = H ++ [.box (laC ns us), .box [.int .i64 (r : Int)], .box [.int .u64 ((Y : Nat) : Int)], .box cs])
    ⟨fun j c hj => by omega, _, rfl, rfl⟩ ?_ ?_ ?_ ?_
  · rintro i Hf ⟨hno, cs, hcs, rfl⟩
    refine ⟨by simp, fun cs' hcs' => ⟨hno, cs', hcs', ?_⟩⟩
    rw [Fw.set_at]; rfl
  · rintro i q Hf L L' ro hq ⟨hno, cs, hcs, rfl⟩ hL hL' hbd hbd'
    obtain ⟨c, hc, rfl⟩ := bitsP_at hq
    have hct : Y.testBit c = true := (mem_bitsOf hY).1 (List.mem_of_getElem? hc)
    have hcn : c < us.length := bit_lt hYn hct
    have h61c := c61 Γ ns us hw hn c
    obtain ⟨z, ez⟩ : ∃ z, dn us c us.length = z := ⟨_, rfl⟩
    rw [ez] at h61c
    have hnj := uAndn Y z
    have hdz := dec_zero (andn Y z)
    refine awp_less (A' := [(3, .ptr H.length 0), (6, .ptr (H.length + 1) 0), (7, .ptr (H.length + 2) 0), (18, .int .i64 (c : Int))]) (fun t => zip_look [3, 6, 7, 18] [.ptr H.length 0, .ptr (H.length + 1) 0, .ptr (H.length + 2) 0, .int .i64 (c : Int)] t _ (by simp only [fwA, ↓reduceIte, Nat.reduceAdd, Nat.reduceMul, Nat.reduceEqDiff, Nat.reduceLT, Nat.reduceLeDiff, reduceCtorEq, List.length_append, List.length_cons, List.length_nil] <;> rfl)) ?_
    refine awp_run rfl (by simp only [fwA, ↓reduceIte, Nat.reduceAdd, Nat.reduceMul, Nat.reduceEqDiff, Nat.reduceLT, Nat.reduceLeDiff, reduceCtorEq] <;> rfl) ?_
    refine ⟨rfl, H ++ [.box (laC ns us), .box [.int .i64 0], .box [.int .u64 ((Y : Nat) : Int)], .box cs], [], by simp, by simp, ?_⟩
    rw [List.append_nil]
    have g0 : (H ++ [.box (laC ns us), .box [.int .i64 0], .box [.int .u64 ((Y : Nat) : Int)], .box cs] ++ L')[H.length]? = some (.box (laC ns us)) := by rw [List.append_assoc, Fw.get_at0]; rfl
    have g1 : (H ++ [.box (laC ns us), .box [.int .i64 0], .box [.int .u64 ((Y : Nat) : Int)], .box cs] ++ L')[H.length + 1]? = some (.box [.int .i64 0]) := by rw [List.append_assoc, Fw.get_at]; rfl
    have g2 : (H ++ [.box (laC ns us), .box [.int .i64 0], .box [.int .u64 ((Y : Nat) : Int)], .box cs] ++ L')[H.length + 2]? = some (.box [.int .u64 (Y : Int)]) := by rw [List.append_assoc, Fw.get_at]; rfl
    have hbdH : ∀ B ∈ H, B.bd (H.length + 4 + L'.length) = true := fun B hB => by
      have := hbd B (by simp [hB])
      rw [List.length_append, ← hL'] at this
      simpa using this
    generalize hK : H ++ [.box (laC ns us), .box [.int .i64 0], .box [.int .u64 ((Y : Nat) : Int)], .box cs] ++ L' = K at g0 g1 g2 ⊢
    unfold laC at g0
    refine awp_block ?_
    refine awp_seq ?_
    refine awp_drawn [1, 1, 0, 0, 0, 0] [0, 0, 0, 6, 15, 31] mixed rfl (by kernel_rfl) ?_
    refine dops_run 3 (by simp only [fwA, ↓reduceIte, Nat.reduceAdd, Nat.reduceMul, Nat.reduceEqDiff, Nat.reduceLT, Nat.reduceLeDiff, reduceCtorEq, bitfw, List.length_map, List.getElem?_map, Option.map_some, Int.natCast_nonneg, Int.toNat_natCast, decide_true, decide_false, Bool.and_true, Bool.and_self, Bool.not_true, Bool.not_false, un9, un22, un23, el22, el23, ti9, ti22, ti23, ti25, ti27, ti50, un50, un3, ti3, ti4, fl25_0, fl25_1, fl27_0, fl27_1, S1_fw, U1_fw, g0, g1, g2, hnj, hdz] <;> rfl) ?_
    refine dops_fn rfl (by simp only [fwA, ↓reduceIte, Nat.reduceAdd, Nat.reduceMul, Nat.reduceEqDiff, Nat.reduceLT, Nat.reduceLeDiff, reduceCtorEq] <;> rfl) rfl rfl en61 h61c ?_
    refine dops_run 2 (by simp only [fwA, ↓reduceIte, Nat.reduceAdd, Nat.reduceMul, Nat.reduceEqDiff, Nat.reduceLT, Nat.reduceLeDiff, reduceCtorEq, bitfw, List.length_map, List.getElem?_map, Option.map_some, Int.natCast_nonneg, Int.toNat_natCast, decide_true, decide_false, Bool.and_true, Bool.and_self, Bool.not_true, Bool.not_false, un9, un22, un23, el22, el23, ti9, ti22, ti23, ti25, ti27, ti50, un50, un3, ti3, ti4, fl25_0, fl25_1, fl27_0, fl27_1, S1_fw, U1_fw, g0, g1, g2, hnj, hdz] <;> rfl) ?_
    refine dops_end ?_
    refine awp_cond (by simp only [fwA, ↓reduceIte, Nat.reduceAdd, Nat.reduceMul, Nat.reduceEqDiff, Nat.reduceLT, Nat.reduceLeDiff, reduceCtorEq] <;> rfl) ?_
    by_cases hz0 : andn Y z = 0
    · simp only [hz0, decide_true, ↓reduceIte]
      refine awp_seq ?_
      refine awp_run rfl (by simp only [fwA, ↓reduceIte, Nat.reduceAdd, Nat.reduceMul, Nat.reduceEqDiff, Nat.reduceLT, Nat.reduceLeDiff, reduceCtorEq, bitfw, List.length_map, List.getElem?_map, Option.map_some, Int.natCast_nonneg, Int.toNat_natCast, decide_true, decide_false, Bool.and_true, Bool.and_self, Bool.not_true, Bool.not_false, un9, un22, un23, el22, el23, ti9, ti22, ti23, ti25, ti27, ti50, un50, un3, ti3, ti4, fl25_0, fl25_1, fl27_0, fl27_1, S1_fw, U1_fw, g1] <;> rfl) ?_
      refine awp_ret ?_
      refine ⟨H ++ [.box (laC ns us), .box [.int .i64 (c : Int)], .box [.int .u64 ((Y : Nat) : Int)], .box cs], [], by simp, ?_, ?_, ?_, by first | exact rfl | exact trivial, c, cs, find_at hc (by rw [ez]; exact decide_eq_true hz0) hno, rfl⟩
      · rw [← hK, List.append_assoc, Fw.set_at]; simp
      · intro B hB
        simp only [List.length_append, List.length_cons, List.length_nil]
        rcases List.mem_append.1 hB with hB | hB
        · exact hbdH B hB
        · simp only [List.mem_cons, List.not_mem_nil, or_false] at hB
          rcases hB with rfl | rfl | rfl | rfl
          · simp [Blk.bd, PV.bdL, PV.bd, laC, S1, U1]
          · rfl
          · rfl
          · exact PV.bdL_mono (Nat.zero_le _) _ hcs
      · rw [Fw.get_at, Fw.get_at]; rfl
    · simp only [hz0, decide_false, Bool.false_eq_true, ↓reduceIte]
      refine awp_skip ?_
      refine ⟨H ++ [.box (laC ns us), .box [.int .i64 0], .box [.int .u64 ((Y : Nat) : Int)], .box cs], [], by simp, by rw [← hK]; simp, ?_, rfl, fun j d hj hd => ?_, cs, hcs, rfl⟩
      · intro B hB
        simp only [List.length_append, List.length_cons, List.length_nil]
        rcases List.mem_append.1 hB with hB | hB
        · exact hbdH B hB
        · simp only [List.mem_cons, List.not_mem_nil, or_false] at hB
          rcases hB with rfl | rfl | rfl | rfl
          · simp [Blk.bd, PV.bdL, PV.bd, laC, S1, U1]
          · rfl
          · rfl
          · exact PV.bdL_mono (Nat.zero_le _) _ hcs
      · by_cases hji : j = i
        · subst hji; rw [hc] at hd; cases hd; rw [ez]; exact decide_eq_false hz0
        · exact hno j d (by omega) hd
  · rintro Hf B ⟨hno, cs, hcs, rfl⟩
    have hf : (bitsOf Y).find? (fun c => decide (andn Y (dn us c us.length) = 0)) = none := find_none fun j d hj hd => hno j d (by rw [bitsP_len]; exact hj) hd
    rw [hf]
    simp only [Post.block, Post.then]
    refine awp_heap (H' := H ++ [.box (laC ns us), .box [.int .i64 0], .box [.int .u64 ((Y : Nat) : Int)], .box cs, .dfr, B]) (by simp) ?_
    refine awp_seq ?_
    refine awp_run rfl (by simp only [fwA, ↓reduceIte, Nat.reduceAdd, Nat.reduceMul, Nat.reduceEqDiff, Nat.reduceLT, Nat.reduceLeDiff, reduceCtorEq, ti3] <;> rfl) ?_
    refine awp_ret ?_
    refine ⟨.inl rfl, by simp, fun b hb => ?_, ?_, _, rfl⟩
    · simp only [List.mem_singleton] at hb
      subst hb
      exact ⟨by rw [List.length_append, Fw.get_at]; rfl, by simp⟩
    · simp [oI, ares, aresL, ares1, alook, Tryd.f53, rd, ev, ti3]
  · rintro c Hf B ⟨rfl, r, cs, hr, rfl⟩ _
    rw [hr]
    refine awp_heap (H' := H ++ [.box (laC ns us), .box [.int .i64 (r : Int)], .box [.int .u64 ((Y : Nat) : Int)], .box cs, .dfr, B]) (by simp) ?_
    refine awp_ret ?_
    refine ⟨.inl rfl, by simp, fun b hb => ?_, ?_, _, rfl⟩
    · simp only [List.mem_singleton] at hb
      subst hb
      exact ⟨by rw [List.length_append, Fw.get_at]; rfl, by simp⟩
    · simp [oI, aput, ares, aresL, ares1, alook, Tryd.f53, rd, ev, ti3]

end Go.Proofs.YtdhlghhokbmhdaaDoor
