/- The contract of what makes a let. -/
import Derived.Test.YtnjlfbefpoecpaaDoorWE
namespace Go.Proofs.YtnjlfbefpoecpaaDoor
set_option linter.unusedVariables false
set_option linter.unusedSimpArgs false
set_option maxRecDepth 100000
open Go.RowKit Fw

/-- What holds behind a let's first part. -/
def LetQ (L : List Int) (C : Names) (W : WF) (H : List Blk) (b : Nat) (d : Int) (I F : Names) (ff : PV) (x : List UInt8) (r : Tm × Nat) : Post := fun e A' H' D' => ∃ (p : Tm) (a : Nat) (I2 F2 : Names), I2.length ≤ I.length + 1 ∧ F2.length ≤ F.length + 1 ∧ r = (twoT 5 x p (W (d - 1) a I2 F2).1, (W (d - 1) a I2 F2).2) ∧ e = .normal ∧
  akeep [0, 1, 4, 5, 6, 7, 8] A' = [(0, .ptr b 0), (1, .int .i64 d), (4, .ptr H.length 0), (5, .str x), (6, sv I), (7, ff), (8, .ptr (H.length + 1) 0)] ∧ H' = Bp H b (mk5 L a (sv I2) (sv C) (sv F2)) ++ [.box zT, .box p.enc, .dead] ∧ D' = []

/-- Maker.let -/
theorem c56 (Γ : Nat → PV) {L : List Int} (hL : U8s L) {C : Names} {W : WF} {n : Nat} (hW : MkC Γ 34 L C (fun d => d.toNat < n) W) : MkC Γ 56 L C (fun d => 0 < d ∧ (d - 1).toNat < n) (letF L W) := by
  intro H b a I F d ff hb hN ⟨hd0, hdn⟩ hd1 hd2 hIl hFl
  refine acalls_of_awp Tryd.func56 rfl (by simp [Tryd.f56]) fun hbd => ?_
  have hmk := mk5_bd hb hbd
  have hff := fun j X => hN.frz j 1 X
  have hone := hN.one
  have hwd : IntKind.i64.wrap (d - 1) = d - 1 := wrapId ⟨by omega, by omega⟩
  refine awp_seq ?_
  -- region 0
  refine awp_run rfl (by simp only [fw0, fw1, fw2, fw3, fw4, fw5, fw6, fw7, ↓reduceIte, Nat.reduceAdd, Nat.reduceMul, Nat.reduceEqDiff, Nat.reduceLT, Nat.reduceLeDiff, reduceCtorEq, Bool.false_eq_true, Bool.not_true, Bool.not_false, and_self, Nat.le_refl, ti29, Bp_len] <;> rfl) ?_
  refine awp_seq ?_
  -- region 1
  refine awp_region rfl ?_
  refine aops_run 2 (by simp only [fw0, fw1, fw2, fw3, fw4, fw5, fw6, fw7, ↓reduceIte, Nat.reduceAdd, Nat.reduceMul, Nat.reduceEqDiff, Nat.reduceLT, Nat.reduceLeDiff, reduceCtorEq, Bool.false_eq_true, Bool.not_true, Bool.not_false, and_self, Nat.le_refl, un33, ti9] <;> rfl) ?_
  refine aops_call rfl rfl rfl en33 ((c33at Γ hb hL [.box zT] a (sv I) (sv C) ff).mono fun p H' hp => ?_)
  obtain ⟨rfl, rfl⟩ := hp
  obtain ⟨i, hi, him, hg⟩ := pick_at hL a
  have hx2 : (byteF L a).2 = (pick3 L a).2 := rfl
  rw [hx2]
  refine aops_run 4 (by simp only [fw0, fw1, fw2, fw3, fw4, fw5, fw6, fw7, ↓reduceIte, Nat.reduceAdd, Nat.reduceMul, Nat.reduceEqDiff, Nat.reduceLT, Nat.reduceLeDiff, reduceCtorEq, Bool.false_eq_true, Bool.not_true, Bool.not_false, and_self, Nat.le_refl, el33, ti9, ne_eq, Int.reduceEq, not_false_eq_true, him, hg, Int.natCast_nonneg, Int.toNat_natCast] <;> rfl) ?_
  have hlet : letF L W d a I F = (if (byteF L (pick3 L a).2).1.tmod 2 = 0 then
      (twoT 5 (pick3 L a).1 (W (d - 1) (byteF L (pick3 L a).2).2 I F).1 (W (d - 1) (W (d - 1) (byteF L (pick3 L a).2).2 I F).2 (I ++ [(pick3 L a).1]) (lessF F (pick3 L a).1)).1, (W (d - 1) (W (d - 1) (byteF L (pick3 L a).2).2 I F).2 (I ++ [(pick3 L a).1]) (lessF F (pick3 L a).1)).2)
    else
      (twoT 5 (pick3 L a).1 (funF L W (d - 1) (byteF L (pick3 L a).2).2 I F).1 (W (d - 1) (funF L W (d - 1) (byteF L (pick3 L a).2).2 I F).2 (lessF I (pick3 L a).1) (F ++ [(pick3 L a).1])).1, (W (d - 1) (funF L W (d - 1) (byteF L (pick3 L a).2).2 I F).2 (lessF I (pick3 L a).1) (F ++ [(pick3 L a).1])).2)) := rfl
  rw [hlet]
  generalize pick3 L a = x
  obtain ⟨x, a1⟩ := x
  dsimp only
  generalize hr : (if (byteF L a1).1.tmod 2 = 0 then _ else _) = r
  refine awp_seq ?_
  -- region 2
  refine awp_run rfl (by simp only [fw0, fw1, fw2, fw3, fw4, fw5, fw6, fw7, ↓reduceIte, Nat.reduceAdd, Nat.reduceMul, Nat.reduceEqDiff, Nat.reduceLT, Nat.reduceLeDiff, reduceCtorEq, Bool.false_eq_true, Bool.not_true, Bool.not_false, and_self, Nat.le_refl, fl59_2, ti33, Bp_get hb, mk5_fw] <;> rfl) ?_
  refine awp_seq ?_
  -- region 3
  refine awp_run rfl (by simp only [fw0, fw1, fw2, fw3, fw4, fw5, fw6, fw7, ↓reduceIte, Nat.reduceAdd, Nat.reduceMul, Nat.reduceEqDiff, Nat.reduceLT, Nat.reduceLeDiff, reduceCtorEq, Bool.false_eq_true, Bool.not_true, Bool.not_false, and_self, Nat.le_refl, fl59_4, ti33, Bp_get hb, mk5_fw] <;> rfl) ?_
  refine awp_seq ?_
  -- region 4
  refine awp_run rfl (by simp only [fw0, fw1, fw2, fw3, fw4, fw5, fw6, fw7, ↓reduceIte, Nat.reduceAdd, Nat.reduceMul, Nat.reduceEqDiff, Nat.reduceLT, Nat.reduceLeDiff, reduceCtorEq, Bool.false_eq_true, Bool.not_true, Bool.not_false, and_self, Nat.le_refl, ti29, pl29, Bp_len, Bp_at, Bp_seta, zT] <;> rfl) ?_
  refine awp_keep (A' := [(0, .ptr b 0), (1, .int .i64 d), (4, .ptr H.length 0), (5, .str x), (6, sv I), (7, ff), (8, .ptr (H.length + 1) 0)]) [0, 1, 4, 5, 6, 7, 8] rfl ?_
  refine awp_heap (H' := Bp H b (mk5 L a1 (sv I) (sv C) ff) ++ [.box zT, .box zT]) rfl ?_
  refine awp_seq ?_
  refine AWP.mono (Q := LetQ L C W H b d I F ff x r) ?_ ?_
  · refine awp_seq ?_
    -- region 5
    refine awp_region rfl ?_
    refine aops_run 1 (by simp only [fw0, fw1, fw2, fw3, fw4, fw5, fw6, fw7, ↓reduceIte, Nat.reduceAdd, Nat.reduceMul, Nat.reduceEqDiff, Nat.reduceLT, Nat.reduceLeDiff, reduceCtorEq, Bool.false_eq_true, Bool.not_true, Bool.not_false, and_self, Nat.le_refl] <;> rfl) ?_
    refine aops_call rfl rfl rfl en33 ((c33at Γ hb hL [.box zT, .box zT] a1 (sv I) (sv C) ff).mono fun p H' hp => ?_)
    obtain ⟨rfl, rfl⟩ := hp
    generalize byteF L a1 = k at hr ⊢
    obtain ⟨k, a2⟩ := k
    dsimp only at hr ⊢
    have hlF := lessF_len F x
    have hlI := lessF_len I x
    refine aops_run 2 (by simp only [fw0, fw1, fw2, fw3, fw4, fw5, fw6, fw7, ↓reduceIte, Nat.reduceAdd, Nat.reduceMul, Nat.reduceEqDiff, Nat.reduceLT, Nat.reduceLeDiff, reduceCtorEq, Bool.false_eq_true, Bool.not_true, Bool.not_false, and_self, Nat.le_refl, ne_eq, Int.reduceEq, not_false_eq_true] <;> rfl) ?_
    refine awp_cond (by simp only [fw0, fw1, fw2, fw3, fw4, fw5, fw6, fw7, ↓reduceIte, Nat.reduceAdd, Nat.reduceMul, Nat.reduceEqDiff, Nat.reduceLT, Nat.reduceLeDiff, reduceCtorEq, Bool.false_eq_true, Bool.not_true, Bool.not_false, and_self, Nat.le_refl] <;> rfl) ?_
    by_cases hc : k.tmod 2 = 0
    · simp only [hc, decide_true, ↓reduceIte]
      rw [if_pos hc] at hr
      refine awp_seq ?_
      -- region 6
      refine awp_region rfl ?_
      refine aops_run 3 (by simp only [fw0, fw1, fw2, fw3, fw4, fw5, fw6, fw7, ↓reduceIte, Nat.reduceAdd, Nat.reduceMul, Nat.reduceEqDiff, Nat.reduceLT, Nat.reduceLeDiff, reduceCtorEq, Bool.false_eq_true, Bool.not_true, Bool.not_false, and_self, Nat.le_refl, hwd] <;> rfl) ?_
      refine aops_call rfl rfl rfl en34 ((hW.at hb [.box zT, .box zT] a2 I F (d - 1) hN hdn (by omega) (by omega) (by omega) (by omega)).mono fun p H' hp => ?_)
      obtain ⟨rfl, rfl⟩ := hp
      generalize W (d - 1) a2 I F = p at hr ⊢
      obtain ⟨p, a3⟩ := p
      dsimp only at hr ⊢
      refine aops_run 1 (by simp only [fw0, fw1, fw2, fw3, fw4, fw5, fw6, fw7, ↓reduceIte, Nat.reduceAdd, Nat.reduceMul, Nat.reduceEqDiff, Nat.reduceLT, Nat.reduceLeDiff, reduceCtorEq, Bool.false_eq_true, Bool.not_true, Bool.not_false, and_self, Nat.le_refl, ti29, Bp_at, Bp_seta, Tm.fw, zT] <;> rfl) ?_
      refine awp_keep (A' := [(0, .ptr b 0), (1, .int .i64 d), (4, .ptr H.length 0), (5, .str x), (6, sv I), (7, ff), (8, .ptr (H.length + 1) 0)]) [0, 1, 4, 5, 6, 7, 8] rfl ?_
      refine awp_heap (H' := Bp H b (mk5 L a3 (sv I) (sv C) ff) ++ [.box zT, .box p.enc]) rfl ?_
      refine awp_seq ?_
      -- region 7
      refine awp_region rfl ?_
      refine aops_run 2 (by simp only [fw0, fw1, fw2, fw3, fw4, fw5, fw6, fw7, ↓reduceIte, Nat.reduceAdd, Nat.reduceMul, Nat.reduceEqDiff, Nat.reduceLT, Nat.reduceLeDiff, reduceCtorEq, Bool.false_eq_true, Bool.not_true, Bool.not_false, and_self, Nat.le_refl] <;> rfl) ?_
      refine aops_one rfl (os_appendNew rfl un33 ti9 un33 (.inl ⟨_, rfl⟩) (by decide) rfl rfl (fun es f h e he => by
        simp only [fw0, fw1, fw2, fw3, fw4, fw5, fw6, fw7, ↓reduceIte, Nat.reduceAdd, Nat.reduceMul, Nat.reduceEqDiff, Nat.reduceLT, Nat.reduceLeDiff, reduceCtorEq, Bool.false_eq_true, Bool.not_true, Bool.not_false, and_self, Nat.le_refl, PV.vec.injEq, sv] at h
        obtain ⟨rfl, rfl⟩ := h
        obtain ⟨y, _, rfl⟩ := List.mem_map.1 he
        rfl) rfl (by rw [List.length_map]; show I.length * 16 ≤ _; omega) (by rw [List.length_map]; omega) ?_)
      refine aops_run 2 (by simp only [fw0, fw1, fw2, fw3, fw4, fw5, fw6, fw7, ↓reduceIte, Nat.reduceAdd, Nat.reduceMul, Nat.reduceEqDiff, Nat.reduceLT, Nat.reduceLeDiff, reduceCtorEq, Bool.false_eq_true, Bool.not_true, Bool.not_false, and_self, Nat.le_refl, un33, ti9, Bp_len] <;> rfl) ?_
      refine aops_one rfl (os_appendR (cs := (I.map S1).flatten) (q := 0) (k := I.length) (b := H.length + 2) rfl un33 ti9 un33 (.inl ⟨_, rfl⟩) (by simp [ev, alook, aput, Bp_len]) (by rw [Bp_at]; rfl) (by rw [flat_len S1_len]; simp) (by simp only [fw0, fw1, fw2, fw3, fw4, fw5, fw6, fw7, ↓reduceIte, Nat.reduceAdd, Nat.reduceMul, Nat.reduceEqDiff, Nat.reduceLT, Nat.reduceLeDiff, reduceCtorEq, Bool.false_eq_true, Bool.not_true, Bool.not_false, and_self, Nat.le_refl] <;> rfl) (fun es f h e he => by
        simp only [fw0, fw1, fw2, fw3, fw4, fw5, fw6, fw7, ↓reduceIte, Nat.reduceAdd, Nat.reduceMul, Nat.reduceEqDiff, Nat.reduceLT, Nat.reduceLeDiff, reduceCtorEq, Bool.false_eq_true, Bool.not_true, Bool.not_false, and_self, Nat.le_refl, PV.vec.injEq] at h
        obtain ⟨rfl, rfl⟩ := h
        simp only [List.mem_singleton] at he
        subst he; rfl) rfl (by show (I.length + 1) * 16 ≤ _; omega) (by show I.length + 1 ≤ _; omega) ?_)
      refine aops_run 3 (by simp only [fw0, fw1, fw2, fw3, fw4, fw5, fw6, fw7, ↓reduceIte, Nat.reduceAdd, Nat.reduceMul, Nat.reduceEqDiff, Nat.reduceLT, Nat.reduceLeDiff, reduceCtorEq, Bool.false_eq_true, Bool.not_true, Bool.not_false, and_self, Nat.le_refl, fl59_2, ti33, Bp_seta, Bp_get hb, Bp_set hb, mk5_fw, mk5, sv_fw, hone] <;> rfl) ?_
      have hxs : (I.map S1).flatten ++ [PV.str x] = ((I ++ [x]).map S1).flatten := by simp [S1]
      refine awp_keep (A' := [(0, .ptr b 0), (1, .int .i64 d), (4, .ptr H.length 0), (5, .str x), (6, sv I), (7, ff), (8, .ptr (H.length + 1) 0)]) [0, 1, 4, 5, 6, 7, 8] rfl ?_
      refine awp_heap (H' := Bp H b (mk5 L a3 (.row (H.length + 2) 0 (I.length + 1) 1) (sv C) ff) ++ [.box zT, .box p.enc, .row 1 (((I ++ [x]).map S1).flatten)]) (by rw [← hxs]; rfl) ?_
      refine awp_told (told_mk hb (cs' := mk5 L a3 (sv (I ++ [x])) (sv C) ff) 2 rfl (flat_bd (fun _ => rfl) _) (by rw [mk5, mk5, ← frz_sv (H.length + 2) (I ++ [x]), List.length_append]; simp only [List.map_cons, List.map_nil, hff]; rfl) (by simp only [List.map_cons, List.map_nil, hff]; rfl)) ?_
      refine awp_heap (H' := Bp H b (mk5 L a3 (sv (I ++ [x])) (sv C) ff) ++ [.box zT, .box p.enc, .dead]) rfl ?_
      -- region 8
      refine awp_region rfl ?_
      refine aops_run 3 (by simp only [fw0, fw1, fw2, fw3, fw4, fw5, fw6, fw7, ↓reduceIte, Nat.reduceAdd, Nat.reduceMul, Nat.reduceEqDiff, Nat.reduceLT, Nat.reduceLeDiff, reduceCtorEq, Bool.false_eq_true, Bool.not_true, Bool.not_false, and_self, Nat.le_refl] <;> rfl) ?_
      refine aops_call rfl rfl rfl en40 ((c40 Γ F x (by omega) _ _ (hN.nm _ _)).mono fun q H' hq => ?_)
      obtain ⟨rfl, rfl⟩ := hq
      refine aops_run 3 (by simp only [fw0, fw1, fw2, fw3, fw4, fw5, fw6, fw7, ↓reduceIte, Nat.reduceAdd, Nat.reduceMul, Nat.reduceEqDiff, Nat.reduceLT, Nat.reduceLeDiff, reduceCtorEq, Bool.false_eq_true, Bool.not_true, Bool.not_false, and_self, Nat.le_refl, fl59_4, ti33, Bp_get hb, Bp_set hb, mk5_fw, mk5, sv_fw, hone] <;> rfl) ?_
      exact ⟨p, a3, I ++ [x], lessF F x, by simp, by omega, hr.symm, rfl, rfl, rfl, rfl⟩
    · simp only [hc, decide_false, Bool.false_eq_true, ↓reduceIte]
      rw [if_neg hc] at hr
      refine awp_seq ?_
      -- region 9
      refine awp_region rfl ?_
      refine aops_run 3 (by simp only [fw0, fw1, fw2, fw3, fw4, fw5, fw6, fw7, ↓reduceIte, Nat.reduceAdd, Nat.reduceMul, Nat.reduceEqDiff, Nat.reduceLT, Nat.reduceLeDiff, reduceCtorEq, Bool.false_eq_true, Bool.not_true, Bool.not_false, and_self, Nat.le_refl, hwd] <;> rfl) ?_
      refine aops_call rfl rfl rfl en18 (((c18 Γ hL hW).at hb [.box zT, .box zT] a2 I F (d - 1) hN ⟨by omega, by omega⟩ (by omega) (by omega) (by omega) (by omega)).mono fun p H' hp => ?_)
      obtain ⟨rfl, rfl⟩ := hp
      generalize funF L W (d - 1) a2 I F = p at hr ⊢
      obtain ⟨p, a3⟩ := p
      dsimp only at hr ⊢
      refine aops_run 1 (by simp only [fw0, fw1, fw2, fw3, fw4, fw5, fw6, fw7, ↓reduceIte, Nat.reduceAdd, Nat.reduceMul, Nat.reduceEqDiff, Nat.reduceLT, Nat.reduceLeDiff, reduceCtorEq, Bool.false_eq_true, Bool.not_true, Bool.not_false, and_self, Nat.le_refl, ti29, Bp_at, Bp_seta, Tm.fw, zT] <;> rfl) ?_
      refine awp_keep (A' := [(0, .ptr b 0), (1, .int .i64 d), (4, .ptr H.length 0), (5, .str x), (6, sv I), (7, ff), (8, .ptr (H.length + 1) 0)]) [0, 1, 4, 5, 6, 7, 8] rfl ?_
      refine awp_heap (H' := Bp H b (mk5 L a3 (sv I) (sv C) ff) ++ [.box zT, .box p.enc]) rfl ?_
      refine awp_seq ?_
      -- region 10
      refine awp_region rfl ?_
      refine aops_run 2 (by simp only [fw0, fw1, fw2, fw3, fw4, fw5, fw6, fw7, ↓reduceIte, Nat.reduceAdd, Nat.reduceMul, Nat.reduceEqDiff, Nat.reduceLT, Nat.reduceLeDiff, reduceCtorEq, Bool.false_eq_true, Bool.not_true, Bool.not_false, and_self, Nat.le_refl] <;> rfl) ?_
      refine aops_one rfl (os_appendNew (xs := (F.map S1).flatten) (n := F.length) rfl un33 ti9 un33 (.inl ⟨_, rfl⟩) (by decide) rfl (hN.nm _ _).src (hN.nm [] []).vec (hN.nm [] []).len (by show F.length * 16 ≤ _; omega) (by omega) ?_)
      refine aops_run 2 (by simp only [fw0, fw1, fw2, fw3, fw4, fw5, fw6, fw7, ↓reduceIte, Nat.reduceAdd, Nat.reduceMul, Nat.reduceEqDiff, Nat.reduceLT, Nat.reduceLeDiff, reduceCtorEq, Bool.false_eq_true, Bool.not_true, Bool.not_false, and_self, Nat.le_refl, un33, ti9, Bp_len] <;> rfl) ?_
      refine aops_one rfl (os_appendR (cs := (F.map S1).flatten) (q := 0) (k := F.length) (b := H.length + 2) rfl un33 ti9 un33 (.inl ⟨_, rfl⟩) (by simp [ev, alook, aput, Bp_len]) (by rw [Bp_at]; rfl) (by rw [flat_len S1_len]; simp) (by simp only [fw0, fw1, fw2, fw3, fw4, fw5, fw6, fw7, ↓reduceIte, Nat.reduceAdd, Nat.reduceMul, Nat.reduceEqDiff, Nat.reduceLT, Nat.reduceLeDiff, reduceCtorEq, Bool.false_eq_true, Bool.not_true, Bool.not_false, and_self, Nat.le_refl] <;> rfl) (fun es f h e he => by
        simp only [fw0, fw1, fw2, fw3, fw4, fw5, fw6, fw7, ↓reduceIte, Nat.reduceAdd, Nat.reduceMul, Nat.reduceEqDiff, Nat.reduceLT, Nat.reduceLeDiff, reduceCtorEq, Bool.false_eq_true, Bool.not_true, Bool.not_false, and_self, Nat.le_refl, PV.vec.injEq] at h
        obtain ⟨rfl, rfl⟩ := h
        simp only [List.mem_singleton] at he
        subst he; rfl) rfl (by show (F.length + 1) * 16 ≤ _; omega) (by show F.length + 1 ≤ _; omega) ?_)
      refine aops_run 3 (by simp only [fw0, fw1, fw2, fw3, fw4, fw5, fw6, fw7, ↓reduceIte, Nat.reduceAdd, Nat.reduceMul, Nat.reduceEqDiff, Nat.reduceLT, Nat.reduceLeDiff, reduceCtorEq, Bool.false_eq_true, Bool.not_true, Bool.not_false, and_self, Nat.le_refl, fl59_4, ti33, Bp_seta, Bp_get hb, Bp_set hb, mk5_fw, mk5, sv_fw, hone] <;> rfl) ?_
      have hxs : (F.map S1).flatten ++ [PV.str x] = ((F ++ [x]).map S1).flatten := by simp [S1]
      refine awp_keep (A' := [(0, .ptr b 0), (1, .int .i64 d), (4, .ptr H.length 0), (5, .str x), (6, sv I), (7, ff), (8, .ptr (H.length + 1) 0)]) [0, 1, 4, 5, 6, 7, 8] rfl ?_
      refine awp_heap (H' := Bp H b (mk5 L a3 (sv I) (sv C) (.row (H.length + 2) 0 (F.length + 1) 1)) ++ [.box zT, .box p.enc, .row 1 (((F ++ [x]).map S1).flatten)]) (by rw [← hxs]; rfl) ?_
      refine awp_told (told_mk hb (cs' := mk5 L a3 (sv I) (sv C) (sv (F ++ [x]))) 2 rfl (flat_bd (fun _ => rfl) _) (by rw [mk5, mk5, ← frz_sv (H.length + 2) (F ++ [x]), List.length_append]; simp only [List.map_cons, List.map_nil, hff]; rfl) (by simp only [List.map_cons, List.map_nil, hff]; rfl)) ?_
      refine awp_heap (H' := Bp H b (mk5 L a3 (sv I) (sv C) (sv (F ++ [x]))) ++ [.box zT, .box p.enc, .dead]) rfl ?_
      -- region 11
      refine awp_region rfl ?_
      refine aops_run 3 (by simp only [fw0, fw1, fw2, fw3, fw4, fw5, fw6, fw7, ↓reduceIte, Nat.reduceAdd, Nat.reduceMul, Nat.reduceEqDiff, Nat.reduceLT, Nat.reduceLeDiff, reduceCtorEq, Bool.false_eq_true, Bool.not_true, Bool.not_false, and_self, Nat.le_refl] <;> rfl) ?_
      refine aops_call rfl rfl rfl en40 ((c40 Γ I x (by omega) _ _ (nm_sv _ _)).mono fun q H' hq => ?_)
      obtain ⟨rfl, rfl⟩ := hq
      refine aops_run 3 (by simp only [fw0, fw1, fw2, fw3, fw4, fw5, fw6, fw7, ↓reduceIte, Nat.reduceAdd, Nat.reduceMul, Nat.reduceEqDiff, Nat.reduceLT, Nat.reduceLeDiff, reduceCtorEq, Bool.false_eq_true, Bool.not_true, Bool.not_false, and_self, Nat.le_refl, fl59_2, ti33, Bp_get hb, Bp_set hb, mk5_fw, mk5, sv_fw, hone] <;> rfl) ?_
      exact ⟨p, a3, lessF I x, F ++ [x], by omega, by simp, hr.symm, rfl, rfl, rfl, rfl⟩
  rintro e A' H' D' ⟨p, a2, I2, F2, hI2, hF2, hr2, rfl, hA, rfl, rfl⟩
  rw [hr2]
  show AWP _ _ _ _ _ _ _ _ _
  refine awp_keep _ hA ?_
  refine awp_seq ?_
  -- region 12 drawn
  refine awp_drawnX (some b) [0, 4, 0, 0, 0, 5, 0, 6, 2] [0, 0, 0, 0, 8, 28, 63, 0, 255] mixed rfl (by kernel_rfl) ?_
  have hn : (Bp H b (mk5 L a2 (sv I2) (sv C) (sv F2)) ++ [Blk.box zT, .box p.enc, .dead]).length = H.length + 3 := by simp [Bp_len]
  rw [hn]
  refine dops_run 5 (by simp only [fw0, fw1, fw2, fw3, fw4, fw5, fw6, fw7, ↓reduceIte, Nat.reduceAdd, Nat.reduceMul, Nat.reduceEqDiff, Nat.reduceLT, Nat.reduceLeDiff, reduceCtorEq, Bool.false_eq_true, Bool.not_true, Bool.not_false, and_self, Nat.le_refl, ti29, Bp_take, Bp_setd hb, Bd_at, Tm.fw, hwd] <;> rfl) ?_
  refine dops_turn rfl rfl rfl rfl en34 rfl (by show b < H.length + 3; omega) (by rw [hn]; omega) (hW.turn hb _ a2 I2 F2 (d - 1) hdn (by omega) (by omega) (by omega) (by omega)) ?_
  generalize W (d - 1) a2 I2 F2 = t
  obtain ⟨t, a4⟩ := t
  dsimp only
  refine dops_fn rfl rfl rfl rfl en12 (c12 Γ 5 x p t) ?_
  rw [Bp_set hb]
  refine dops_alloc rfl rfl rfl (by simp [Bp_len]) ti29 ?_
  refine dops_run 1 (by simp only [fw0, fw1, fw2, fw3, fw4, fw5, fw6, fw7, ↓reduceIte, Nat.reduceAdd, Nat.reduceMul, Nat.reduceEqDiff, Nat.reduceLT, Nat.reduceLeDiff, reduceCtorEq, Bool.false_eq_true, Bool.not_true, Bool.not_false, and_self, Nat.le_refl, ti29, Bp_len, Bp_seta, Bp_at, Tm.fw, List.append_assoc, List.length_append] <;> rfl) ?_
  refine dops_end ?_
  refine awp_keep (A' := [(0, .ptr b 0), (4, .ptr H.length 0), (6, sv I), (7, ff), (9, .ptr (H.length + 3) 0)]) [0, 4, 6, 7, 9] rfl ?_
  refine awp_heap (H' := Bp H b (mk5 L a4 (sv I2) (sv C) (sv F2)) ++ [.box zT, .box p.enc, .dead, .box (twoT 5 x p t).enc]) rfl ?_
  refine awp_seq ?_
  -- region 13
  refine awp_run rfl (by simp only [fw0, fw1, fw2, fw3, fw4, fw5, fw6, fw7, ↓reduceIte, Nat.reduceAdd, Nat.reduceMul, Nat.reduceEqDiff, Nat.reduceLT, Nat.reduceLeDiff, reduceCtorEq, Bool.false_eq_true, Bool.not_true, Bool.not_false, and_self, Nat.le_refl, fl59_2, ti33, Bp_get hb, Bp_set hb, mk5_fw, mk5, sv_fw, hone] <;> rfl) ?_
  refine awp_seq ?_
  -- region 14
  refine awp_run rfl (by simp only [fw0, fw1, fw2, fw3, fw4, fw5, fw6, fw7, ↓reduceIte, Nat.reduceAdd, Nat.reduceMul, Nat.reduceEqDiff, Nat.reduceLT, Nat.reduceLeDiff, reduceCtorEq, Bool.false_eq_true, Bool.not_true, Bool.not_false, and_self, Nat.le_refl, fl59_4, ti33, Bp_get hb, Bp_set hb, mk5_fw, mk5, sv_fw, hone] <;> rfl) ?_
  refine awp_seq ?_
  -- region 15
  refine awp_run rfl (by simp only [fw0, fw1, fw2, fw3, fw4, fw5, fw6, fw7, ↓reduceIte, Nat.reduceAdd, Nat.reduceMul, Nat.reduceEqDiff, Nat.reduceLT, Nat.reduceLeDiff, reduceCtorEq, Bool.false_eq_true, Bool.not_true, Bool.not_false, and_self, Nat.le_refl, ti29, Bp_at, Bp_at0, Bp_seta0, Tm.fw] <;> rfl) ?_
  refine awp_ret ?_
  exact ret_Bp hb (cs' := mk5 L a4 (sv I) (sv C) ff) (p := .agg (twoT 5 x p t).enc) (.inl rfl) hbd _ (by simp [ares, aresL, ares1, rd, ev, alook, aput, Tryd.f56, ti29, Tm.fw, Bp_at0]) (by simp [PV.bd, Tm.fw]) (hmk _) ⟨rfl, rfl⟩

end Go.Proofs.YtnjlfbefpoecpaaDoor

/- The contract of what makes a term of a number. -/
namespace Go.Proofs.YtnjlfbefpoecpaaDoor
set_option linter.unusedVariables false
set_option linter.unusedSimpArgs false
set_option maxRecDepth 100000
open Go.RowKit Fw

/-- What holds behind a condition of more than one part. -/
def CondQ (H : List Blk) (b : Nat) (d k : Int) (H1 : List Blk) (T : Nat) (v : Bool) : Post := fun e A' H' D' => e = .normal ∧ akeep [0, 1, 4, 5, T] A' = [(0, .ptr b 0), (1, .int .i64 d), (4, .ptr H.length 0), (5, .int .i64 k), (T, .bool v)] ∧ H' = H1 ∧ D' = []
/-- What holds behind the choice of a kind. -/
def KindQ (H : List Blk) (b : Nat) (d k : Int) (H1 : List Blk) : Post := fun e A' H' D' => e = .normal ∧ akeep [0, 1, 4, 5] A' = [(0, .ptr b 0), (1, .int .i64 d), (4, .ptr H.length 0), (5, .int .i64 k)] ∧ H' = H1 ∧ D' = []

theorem aops_callIf {P : Program} {Γ : Nat → PV} {ops : Array Oper} {o : Oper} {Q : List (Nat × PV) → List Blk → Prop} {rest : List Oper} {A : List (Nat × PV)} {H : List Blk} {x : Operand} {args : Array Operand} {ts : Array TypeId} {f : FuncId} {fs cs : List PV} {j d : Nat} {b : Bool}
    (ho : o.op = .call { callee := .value x, args := args, argTypes := ts }) (hg : o.guard = some (j, b)) (hd : (ops[j]?).bind (·.dst) = some d) (hb : alook A d = .bool b) (hx : ev Γ A x = .func (.func f) fs cs) (he : Enters P f)
    (h : ACalls P Γ f (fs ++ args.toList.map (ev Γ A) ++ cs) H (fun p H' => AOps P Γ ops Q rest (aput A o.dst p) H')) : AOps P Γ ops Q (o :: rest) A H :=
  aops_if hg hd hb (os_call ho hx he h)

theorem ops_at {z : Int} (h0 : 0 ≤ z) : ∃ i : Nat, i < 5 ∧ z.tmod 5 = i ∧ ([[.str [43]], [.str [45]], [.str [42]], [.str [60]], [.str [61]]] : List (List PV))[i]? = some [.str (opsL.getD (z.tmod 5).toNat [])] := by
  have hm0 : 0 ≤ z.tmod 5 := Int.tmod_nonneg _ h0
  have hm1 : z.tmod 5 < 5 := Int.tmod_lt_of_pos _ (by omega)
  obtain ⟨i, hi⟩ : ∃ i : Nat, z.tmod 5 = i := ⟨_, (Int.toNat_of_nonneg hm0).symm⟩
  refine ⟨i, by omega, hi, ?_⟩
  rw [hi, Int.toNat_natCast]
  have : i = 0 ∨ i = 1 ∨ i = 2 ∨ i = 3 ∨ i = 4 := by omega
  rcases this with rfl | rfl | rfl | rfl | rfl <;> rfl

/-- Which kind of term. -/
def kindF (L : List Int) (d : Int) (a0 : Nat) : Int := if d ≤ 0 ∨ L.length ≤ (byteF L a0).2 then ((byteF L a0).1.tmod 20).tmod 4 else (byteF L a0).1.tmod 20

theorem kindF_spec {L : List Int} (hL : U8s L) (d : Int) (a0 : Nat) : 0 ≤ kindF L d a0 ∧ kindF L d a0 < 20 ∧ (4 ≤ kindF L d a0 → 0 < d) := by
  have hk := byteF_range hL a0
  have hm0 : 0 ≤ (byteF L a0).1.tmod 20 := Int.tmod_nonneg _ hk.1
  have hm1 : (byteF L a0).1.tmod 20 < 20 := Int.tmod_lt_of_pos _ (by omega)
  have hq0 : 0 ≤ ((byteF L a0).1.tmod 20).tmod 4 := Int.tmod_nonneg _ hm0
  have hq1 : ((byteF L a0).1.tmod 20).tmod 4 < 4 := Int.tmod_lt_of_pos _ (by omega)
  unfold kindF
  split
  · exact ⟨hq0, by omega, fun h => by omega⟩
  · rename_i h
    exact ⟨hm0, hm1, fun _ => by omega⟩

/-- A term of a number, where its kind is known. -/
def stepF (L : List Int) (C : Names) (W : WF) (k d : Int) (a : Nat) (I F : Names) : Tm × Nat :=
    if k = 0 then (numT ((byteF L a).1.tmod 5), (byteF L a).2)
    else if k < 4 then ofF L a I
    else if k < 6 then
      let j := byteF L a
      let p := W (d - 1) j.2 I F
      let q := W (d - 1) p.2 I F
      (twoT 12 (opsL.getD (j.1.tmod 5).toNat []) p.1 q.1, q.2)
    else if k = 6 ∨ k = 7 then
      let p := W (d - 1) a I F
      let q := W (d - 1) p.2 I F
      let r := W (d - 1) q.2 I F
      (ifT p.1 q.1 r.1, r.2)
    else if k < 10 then letF L W d a I F
    else if k = 10 ∧ 0 < C.length then
      let p := ofF L a C
      (oneT 10 [] p.1, p.2)
    else if k < 13 ∧ 0 < C.length then
      let p := ofF L a C
      let q := W (d - 1) p.2 I F
      (twoT 11 [] p.1 q.1, q.2)
    else if k < 15 then
      let p := W (d - 1) a I F
      let q := W (d - 1) p.2 I F
      (twoT 13 [] p.1 q.1, q.2)
    else if k = 15 then
      let p := W (d - 1) a I F
      (oneT 8 [] p.1, p.2)
    else if k = 16 then tryF L W d a I F
    else if k < 19 ∧ 0 < F.length then
      let p := ofF L a F
      let q := W (d - 1) p.2 I F
      (twoT 4 [] p.1 q.1, q.2)
    else if k = 19 ∧ (byteF L a).1.tmod 4 = 0 then
      let p := W (d - 1) (byteF L a).2 I F
      let q := W (d - 1) p.2 I F
      (twoT 7 [] p.1 q.1, q.2)
    else
      let p := funF L W (d - 1) (if k = 19 then (byteF L a).2 else a) I F
      let q := W (d - 1) p.2 I F
      (twoT 4 [] p.1 q.1, q.2)

theorem wholeF_step (L : List Int) (C : Names) (n : Nat) (d : Int) (a0 : Nat) (I F : Names) : wholeF L C (n + 1) d a0 I F = stepF L C (wholeF L C n) (kindF L d a0) d (byteF L a0).2 I F := rfl

/-- Maker.whole, one depth -/
theorem c34s (Γ : Nat → PV) {L : List Int} (hL : U8s L) {C : Names} (n : Nat) (hW' : MkC Γ 34 L C (fun d => d.toNat < n) (wholeF L C n)) : MkC Γ 34 L C (fun d => d.toNat < n + 1) (wholeF L C (n + 1)) := by
  intro H b a0 I F d ff hb hN hdn hd1 hd2 hIl hFl
  refine acalls_of_awp Tryd.func34 rfl (by simp [Tryd.f34]) fun hbd => ?_
  have hmk := mk5_bd hb hbd
  have hff := fun j X => hN.frz j 1 X
  have hone := hN.one
  have hwd : IntKind.i64.wrap (d - 1) = d - 1 := wrapId ⟨by omega, by omega⟩
  rw [wholeF_step]
  generalize wholeF L C n = W at hW'
  have hW := hW'
  obtain ⟨hk0, hk20, hkd⟩ := kindF_spec hL d a0
  generalize hr : stepF L C W (kindF L d a0) d (byteF L a0).2 I F = r
  generalize hkk : kindF L d a0 = k at hr hk0 hk20 hkd
  unfold stepF at hr
  refine awp_seq ?_
  -- region 0
  refine awp_run rfl (by simp only [fw0, fw1, fw2, fw3, fw4, fw5, fw6, fw7, ↓reduceIte, Nat.reduceAdd, Nat.reduceMul, Nat.reduceEqDiff, Nat.reduceLT, Nat.reduceLeDiff, reduceCtorEq, Bool.false_eq_true, Bool.not_true, Bool.not_false, and_self, Nat.le_refl, ti29, Bp_len] <;> rfl) ?_
  refine awp_seq ?_
  -- region 1
  refine awp_region rfl ?_
  refine aops_run 1 (by simp only [fw0, fw1, fw2, fw3, fw4, fw5, fw6, fw7, ↓reduceIte, Nat.reduceAdd, Nat.reduceMul, Nat.reduceEqDiff, Nat.reduceLT, Nat.reduceLeDiff, reduceCtorEq, Bool.false_eq_true, Bool.not_true, Bool.not_false, and_self, Nat.le_refl] <;> rfl) ?_
  refine aops_call rfl rfl rfl en33 ((c33at Γ hb hL [.box zT] a0 (sv I) (sv C) ff).mono fun p H' hp => ?_)
  obtain ⟨rfl, rfl⟩ := hp
  unfold kindF at hkk
  generalize byteF L a0 = y at hr hkk ⊢
  obtain ⟨y, a⟩ := y
  dsimp only at hr hkk ⊢
  refine aops_run 2 (by simp only [fw0, fw1, fw2, fw3, fw4, fw5, fw6, fw7, ↓reduceIte, Nat.reduceAdd, Nat.reduceMul, Nat.reduceEqDiff, Nat.reduceLT, Nat.reduceLeDiff, reduceCtorEq, Bool.false_eq_true, Bool.not_true, Bool.not_false, and_self, Nat.le_refl, ne_eq, Int.reduceEq, not_false_eq_true] <;> rfl) ?_
  refine awp_seq ?_
  refine AWP.mono (Q := KindQ H b d k (Bp H b (mk5 L a (sv I) (sv C) ff) ++ [.box zT])) ?_ ?_
  · refine awp_seq ?_
    -- region 2 drawn
    by_cases hd : d ≤ 0
    · rw [if_pos (.inl hd)] at hkk
      refine awp_drun [0, 0, 0, 0, 0, 0, 1, 0, 0, 0, 1, 0, 0, 0] [0, 1, 3, 7, 15, 31, 63, 7, 135, 391, 903, 1927, 4095, 8191] mixed rfl (by kernel_rfl) (by simp only [fw0, fw1, fw2, fw3, fw4, fw5, fw6, fw7, ↓reduceIte, Nat.reduceAdd, Nat.reduceMul, Nat.reduceEqDiff, Nat.reduceLT, Nat.reduceLeDiff, reduceCtorEq, Bool.false_eq_true, Bool.not_true, Bool.not_false, and_self, Nat.le_refl, hd, decide_true] <;> rfl) ?_
      refine awp_cond (b := true) rfl ?_
      -- region 3
      refine awp_run rfl (by simp only [fw0, fw1, fw2, fw3, fw4, fw5, fw6, fw7, ↓reduceIte, Nat.reduceAdd, Nat.reduceMul, Nat.reduceEqDiff, Nat.reduceLT, Nat.reduceLeDiff, reduceCtorEq, Bool.false_eq_true, Bool.not_true, Bool.not_false, and_self, Nat.le_refl, ne_eq, Int.reduceEq, not_false_eq_true] <;> rfl) ?_
      exact ⟨rfl, by rw [← hkk]; rfl, rfl, rfl⟩
    · by_cases hl : (L.length : Int) ≤ a
      · rw [if_pos (.inr (by omega))] at hkk
        refine awp_drun [0, 0, 0, 0, 0, 0, 1, 0, 0, 0, 1, 0, 0, 0] [0, 1, 3, 7, 15, 31, 63, 7, 135, 391, 903, 1927, 4095, 8191] mixed rfl (by kernel_rfl) (by simp only [fw0, fw1, fw2, fw3, fw4, fw5, fw6, fw7, ↓reduceIte, Nat.reduceAdd, Nat.reduceMul, Nat.reduceEqDiff, Nat.reduceLT, Nat.reduceLeDiff, reduceCtorEq, Bool.false_eq_true, Bool.not_true, Bool.not_false, and_self, Nat.le_refl, fl59_1, ti3, fl59_0, ti22, un22, Bp_get hb, mk5_fw, List.length_map, hd, hl, decide_true, decide_false] <;> rfl) ?_
        refine awp_cond (b := true) rfl ?_
        -- region 3
        refine awp_run rfl (by simp only [fw0, fw1, fw2, fw3, fw4, fw5, fw6, fw7, ↓reduceIte, Nat.reduceAdd, Nat.reduceMul, Nat.reduceEqDiff, Nat.reduceLT, Nat.reduceLeDiff, reduceCtorEq, Bool.false_eq_true, Bool.not_true, Bool.not_false, and_self, Nat.le_refl, ne_eq, Int.reduceEq, not_false_eq_true] <;> rfl) ?_
        exact ⟨rfl, by rw [← hkk]; rfl, rfl, rfl⟩
      · rw [if_neg (fun h => by rcases h with h | h <;> omega)] at hkk
        refine awp_drun [0, 0, 0, 0, 0, 0, 1, 0, 0, 0, 1, 0, 0, 0] [0, 1, 3, 7, 15, 31, 63, 7, 135, 391, 903, 1927, 4095, 8191] mixed rfl (by kernel_rfl) (by simp only [fw0, fw1, fw2, fw3, fw4, fw5, fw6, fw7, ↓reduceIte, Nat.reduceAdd, Nat.reduceMul, Nat.reduceEqDiff, Nat.reduceLT, Nat.reduceLeDiff, reduceCtorEq, Bool.false_eq_true, Bool.not_true, Bool.not_false, and_self, Nat.le_refl, fl59_1, ti3, fl59_0, ti22, un22, Bp_get hb, mk5_fw, List.length_map, hd, hl, decide_true, decide_false] <;> rfl) ?_
        refine awp_cond (b := false) rfl ?_
        refine awp_skip ?_
        exact ⟨rfl, by rw [← hkk]; rfl, rfl, rfl⟩
  rintro e A' H' D' ⟨rfl, hA, rfl, rfl⟩
  show AWP _ _ _ _ _ _ _ _ _
  refine awp_keep _ hA ?_
  clear hA hkk
  refine awp_seq ?_
  refine awp_block ?_
  refine awp_seq ?_
  refine awp_run rfl (by simp only [fw0, fw1, fw2, fw3, fw4, fw5, fw6, fw7, ↓reduceIte, Nat.reduceAdd, Nat.reduceMul, Nat.reduceEqDiff, Nat.reduceLT, Nat.reduceLeDiff, reduceCtorEq, Bool.false_eq_true, Bool.not_true, Bool.not_false, and_self, Nat.le_refl] <;> rfl) ?_
  refine awp_cond (by simp only [fw0, fw1, fw2, fw3, fw4, fw5, fw6, fw7, ↓reduceIte, Nat.reduceAdd, Nat.reduceMul, Nat.reduceEqDiff, Nat.reduceLT, Nat.reduceLeDiff, reduceCtorEq, Bool.false_eq_true, Bool.not_true, Bool.not_false, and_self, Nat.le_refl] <;> rfl) ?_
  by_cases hc4 : k = 0
  · simp only [hc4, decide_true, ↓reduceIte]
    rw [if_pos hc4] at hr
    refine awp_seq ?_
    refine awp_region rfl ?_
    refine aops_run 1 (by simp only [fw0, fw1, fw2, fw3, fw4, fw5, fw6, fw7, ↓reduceIte, Nat.reduceAdd, Nat.reduceMul, Nat.reduceEqDiff, Nat.reduceLT, Nat.reduceLeDiff, reduceCtorEq, Bool.false_eq_true, Bool.not_true, Bool.not_false, and_self, Nat.le_refl] <;> rfl) ?_
    refine aops_call rfl rfl rfl en33 ((c33at Γ hb hL [.box zT] a (sv I) (sv C) ff).mono fun q H' hq => ?_)
    obtain ⟨rfl, rfl⟩ := hq
    generalize byteF L a = y at hr ⊢
    obtain ⟨y, a1⟩ := y
    dsimp only at hr ⊢
    refine aops_run 3 (by simp only [fw0, fw1, fw2, fw3, fw4, fw5, fw6, fw7, ↓reduceIte, Nat.reduceAdd, Nat.reduceMul, Nat.reduceEqDiff, Nat.reduceLT, Nat.reduceLeDiff, reduceCtorEq, Bool.false_eq_true, Bool.not_true, Bool.not_false, and_self, Nat.le_refl, ne_eq, Int.reduceEq, not_false_eq_true, zT, un27, ti29, pl29, Bp_at0, Bp_seta0, Tm.fw, PV.plainL, PV.bdL_append, List.take_zero, List.append_nil, Bool.and_self] <;> rfl) ?_
    refine awp_told (told_leBox H.length (by rw [Bp_at0]; rfl) (leaf_le 1 [] (y.tmod 5))) ?_
    refine awp_heap (H' := Bp H b (mk5 L a1 (sv I) (sv C) ff) ++ [.box (numT (y.tmod 5)).enc]) (by rw [Bp_seta0]; rfl) ?_
    refine awp_ret ?_
    try simp only [Post.block, Post.then, reduceCtorEq, ↓reduceIte]
    rw [← hr]
    exact ret_Bp hb (p := .agg (numT (y.tmod 5)).enc) (.inl rfl) hbd _ (by simp [ares, aresL, ares1, rd, ev, alook, aput, Tryd.f34, ti29, Tm.fw, Bp_at0]) (by simp [PV.bd, Tm.fw]) (hmk _) ⟨rfl, rfl⟩
  simp only [hc4, decide_false, Bool.false_eq_true, ↓reduceIte]
  rw [if_neg hc4] at hr
  refine awp_seq ?_
  refine awp_run rfl (by simp only [fw0, fw1, fw2, fw3, fw4, fw5, fw6, fw7, ↓reduceIte, Nat.reduceAdd, Nat.reduceMul, Nat.reduceEqDiff, Nat.reduceLT, Nat.reduceLeDiff, reduceCtorEq, Bool.false_eq_true, Bool.not_true, Bool.not_false, and_self, Nat.le_refl] <;> rfl) ?_
  refine awp_cond (by simp only [fw0, fw1, fw2, fw3, fw4, fw5, fw6, fw7, ↓reduceIte, Nat.reduceAdd, Nat.reduceMul, Nat.reduceEqDiff, Nat.reduceLT, Nat.reduceLeDiff, reduceCtorEq, Bool.false_eq_true, Bool.not_true, Bool.not_false, and_self, Nat.le_refl] <;> rfl) ?_
  by_cases hc61 : k < 4
  · simp only [hc61, decide_true, ↓reduceIte]
    rw [if_pos hc61] at hr
    refine awp_seq ?_
    refine awp_region rfl ?_
    refine aops_run 5 (by simp only [fw0, fw1, fw2, fw3, fw4, fw5, fw6, fw7, ↓reduceIte, Nat.reduceAdd, Nat.reduceMul, Nat.reduceEqDiff, Nat.reduceLT, Nat.reduceLeDiff, reduceCtorEq, Bool.false_eq_true, Bool.not_true, Bool.not_false, and_self, Nat.le_refl, fl59_2, ti33, Bp_get hb, mk5_fw] <;> rfl) ?_
    refine aops_call rfl rfl rfl en55 ((c55at Γ hb hL [.box zT] a I (nmB_sv _ _ _) (sv I) (sv C) ff).mono fun q H' hq => ?_)
    obtain ⟨rfl, rfl⟩ := hq
    generalize ofF L a I = p at hr ⊢
    obtain ⟨p, a1⟩ := p
    dsimp only at hr ⊢
    refine aops_run 1 (by simp only [fw0, fw1, fw2, fw3, fw4, fw5, fw6, fw7, ↓reduceIte, Nat.reduceAdd, Nat.reduceMul, Nat.reduceEqDiff, Nat.reduceLT, Nat.reduceLeDiff, reduceCtorEq, Bool.false_eq_true, Bool.not_true, Bool.not_false, and_self, Nat.le_refl, zT, un27, ti29, pl29, Bp_at0, Bp_seta0, Tm.fw, PV.plainL, PV.bdL_append, List.take_zero, List.append_nil, Bool.and_self] <;> rfl) ?_
    refine awp_heap (H' := Bp H b (mk5 L a1 (sv I) (sv C) ff) ++ [.box (p).enc]) rfl ?_
    refine awp_ret ?_
    try simp only [Post.block, Post.then, reduceCtorEq, ↓reduceIte]
    rw [← hr]
    exact ret_Bp hb (p := .agg (p).enc) (.inl rfl) hbd _ (by simp [ares, aresL, ares1, rd, ev, alook, aput, Tryd.f34, ti29, Tm.fw, Bp_at0]) (by simp [PV.bd, Tm.fw]) (hmk _) ⟨rfl, rfl⟩
  simp only [hc61, decide_false, Bool.false_eq_true, ↓reduceIte]
  rw [if_neg hc61] at hr
  have hd0 : 0 < d := hkd (by omega)
  refine awp_seq ?_
  refine awp_run rfl (by simp only [fw0, fw1, fw2, fw3, fw4, fw5, fw6, fw7, ↓reduceIte, Nat.reduceAdd, Nat.reduceMul, Nat.reduceEqDiff, Nat.reduceLT, Nat.reduceLeDiff, reduceCtorEq, Bool.false_eq_true, Bool.not_true, Bool.not_false, and_self, Nat.le_refl] <;> rfl) ?_
  refine awp_cond (by simp only [fw0, fw1, fw2, fw3, fw4, fw5, fw6, fw7, ↓reduceIte, Nat.reduceAdd, Nat.reduceMul, Nat.reduceEqDiff, Nat.reduceLT, Nat.reduceLeDiff, reduceCtorEq, Bool.false_eq_true, Bool.not_true, Bool.not_false, and_self, Nat.le_refl] <;> rfl) ?_
  by_cases hc8 : k < 6
  · simp only [hc8, decide_true, ↓reduceIte]
    rw [if_pos hc8] at hr
    refine awp_seq ?_
    have hyr := byteF_range hL a
    refine awp_drawn [0, 0, 2, 0, 0, 0, 0, 0, 0, 2, 0, 0, 0, 2, 0, 2] [0, 0, 2, 6, 15, 31, 0, 0, 128, 454, 0, 0, 2048, 8134, 16383, 32767] mixed rfl (by kernel_rfl) ?_
    refine dops_run 2 (by simp only [fw0, fw1, fw2, fw3, fw4, fw5, fw6, fw7, ↓reduceIte, Nat.reduceAdd, Nat.reduceMul, Nat.reduceEqDiff, Nat.reduceLT, Nat.reduceLeDiff, reduceCtorEq, Bool.false_eq_true, Bool.not_true, Bool.not_false, and_self, Nat.le_refl, un33, ti9] <;> rfl) ?_
    refine dops_call rfl rfl rfl rfl en33 (c33at Γ hb hL [.box zT] a (sv I) (sv C) ff) ?_
    generalize byteF L a = y at hr hyr ⊢
    obtain ⟨y, a1⟩ := y
    dsimp only at hr hyr ⊢
    obtain ⟨i, hi, him, hg⟩ := ops_at hyr.1
    generalize opsL.getD (y.tmod 5).toNat [] = s at hr hg
    refine dops_run 6 (by simp only [fw0, fw1, fw2, fw3, fw4, fw5, fw6, fw7, ↓reduceIte, Nat.reduceAdd, Nat.reduceMul, Nat.reduceEqDiff, Nat.reduceLT, Nat.reduceLeDiff, reduceCtorEq, Bool.false_eq_true, Bool.not_true, Bool.not_false, and_self, Nat.le_refl, el33, ti9, ne_eq, Int.reduceEq, not_false_eq_true, him, hg, Int.natCast_nonneg, Int.toNat_natCast, hwd] <;> rfl) ?_
    refine dops_call rfl rfl rfl rfl en34 (hW.at hb [.box zT] a1 I F (d - 1) hN (by omega) (by omega) (by omega) (by omega) (by omega)) ?_
    generalize W (d - 1) a1 I F = p at hr ⊢
    obtain ⟨p, a2⟩ := p
    dsimp only at hr ⊢
    refine dops_run 3 (by simp only [fw0, fw1, fw2, fw3, fw4, fw5, fw6, fw7, ↓reduceIte, Nat.reduceAdd, Nat.reduceMul, Nat.reduceEqDiff, Nat.reduceLT, Nat.reduceLeDiff, reduceCtorEq, Bool.false_eq_true, Bool.not_true, Bool.not_false, and_self, Nat.le_refl, hwd] <;> rfl) ?_
    refine dops_call rfl rfl rfl rfl en34 (hW.at hb [.box zT] a2 I F (d - 1) hN (by omega) (by omega) (by omega) (by omega) (by omega)) ?_
    generalize W (d - 1) a2 I F = q at hr ⊢
    obtain ⟨q, a3⟩ := q
    dsimp only at hr ⊢
    refine dops_fn rfl rfl rfl rfl en12 (c12 Γ 12 s p q) ?_
    refine dops_run 1 (by simp only [fw0, fw1, fw2, fw3, fw4, fw5, fw6, fw7, ↓reduceIte, Nat.reduceAdd, Nat.reduceMul, Nat.reduceEqDiff, Nat.reduceLT, Nat.reduceLeDiff, reduceCtorEq, Bool.false_eq_true, Bool.not_true, Bool.not_false, and_self, Nat.le_refl, zT, un27, ti29, pl29, Bp_at0, Bp_seta0, Tm.fw, PV.plainL, PV.bdL_append, List.take_zero, List.append_nil, Bool.and_self] <;> rfl) ?_
    refine dops_end ?_
    refine awp_heap (H' := Bp H b (mk5 L a3 (sv I) (sv C) ff) ++ [.box (twoT 12 s p q).enc]) rfl ?_
    refine awp_ret ?_
    try simp only [Post.block, Post.then, reduceCtorEq, ↓reduceIte]
    rw [← hr]
    exact ret_Bp hb (p := .agg (twoT 12 s p q).enc) (.inl rfl) hbd _ (by simp [ares, aresL, ares1, rd, ev, alook, aput, Tryd.f34, ti29, Tm.fw, Bp_at0]) (by simp [PV.bd, Tm.fw]) (hmk _) ⟨rfl, rfl⟩
  simp only [hc8, decide_false, Bool.false_eq_true, ↓reduceIte]
  rw [if_neg hc8] at hr
  refine awp_keep (A' := [(0, .ptr b 0), (1, .int .i64 d), (4, .ptr H.length 0), (5, .int .i64 k)]) [0, 1, 4, 5] rfl ?_
  refine awp_seq ?_
  refine AWP.mono (Q := CondQ H b d k (Bp H b (mk5 L a (sv I) (sv C) ff) ++ [.box zT]) 59 (decide (k = 6 ∨ k = 7))) ?_ ?_
  · by_cases h6 : k = 6
    · refine awp_run rfl (by simp only [fw0, fw1, fw2, fw3, fw4, fw5, fw6, fw7, ↓reduceIte, Nat.reduceAdd, Nat.reduceMul, Nat.reduceEqDiff, Nat.reduceLT, Nat.reduceLeDiff, reduceCtorEq, Bool.false_eq_true, Bool.not_true, Bool.not_false, and_self, Nat.le_refl, h6, Int.reduceEq, decide_true, decide_false] <;> rfl) ?_
      exact ⟨rfl, by simp [h6, akeep, alook, aput, ev], rfl, rfl⟩
    by_cases h7 : k = 7
    · refine awp_run rfl (by simp only [fw0, fw1, fw2, fw3, fw4, fw5, fw6, fw7, ↓reduceIte, Nat.reduceAdd, Nat.reduceMul, Nat.reduceEqDiff, Nat.reduceLT, Nat.reduceLeDiff, reduceCtorEq, Bool.false_eq_true, Bool.not_true, Bool.not_false, and_self, Nat.le_refl, h7, Int.reduceEq, decide_true, decide_false] <;> rfl) ?_
      exact ⟨rfl, by simp [h7, akeep, alook, aput, ev], rfl, rfl⟩
    refine awp_run rfl (by simp only [fw0, fw1, fw2, fw3, fw4, fw5, fw6, fw7, ↓reduceIte, Nat.reduceAdd, Nat.reduceMul, Nat.reduceEqDiff, Nat.reduceLT, Nat.reduceLeDiff, reduceCtorEq, Bool.false_eq_true, Bool.not_true, Bool.not_false, and_self, Nat.le_refl, h6, h7, decide_true, decide_false] <;> rfl) ?_
    exact ⟨rfl, by simp [h6, h7, akeep, alook, aput, ev], rfl, rfl⟩
  rintro e A' H' D' ⟨rfl, hA, rfl, rfl⟩
  show AWP _ _ _ _ _ _ _ _ _
  refine awp_keep _ hA ?_
  clear hA
  refine awp_cond rfl ?_
  by_cases hc10 : k = 6 ∨ k = 7
  · simp only [hc10, decide_true, ↓reduceIte]
    rw [if_pos hc10] at hr
    refine awp_seq ?_
    refine awp_region rfl ?_
    refine aops_run 3 (by simp only [fw0, fw1, fw2, fw3, fw4, fw5, fw6, fw7, ↓reduceIte, Nat.reduceAdd, Nat.reduceMul, Nat.reduceEqDiff, Nat.reduceLT, Nat.reduceLeDiff, reduceCtorEq, Bool.false_eq_true, Bool.not_true, Bool.not_false, and_self, Nat.le_refl, hwd] <;> rfl) ?_
    refine aops_call rfl rfl rfl en34 ((hW.at hb [.box zT] a I F (d - 1) hN (by omega) (by omega) (by omega) (by omega) (by omega)).mono fun q H' hq => ?_)
    obtain ⟨rfl, rfl⟩ := hq
    generalize W (d - 1) a I F = p at hr ⊢
    obtain ⟨p, a1⟩ := p
    dsimp only at hr ⊢
    refine aops_run 3 (by simp only [fw0, fw1, fw2, fw3, fw4, fw5, fw6, fw7, ↓reduceIte, Nat.reduceAdd, Nat.reduceMul, Nat.reduceEqDiff, Nat.reduceLT, Nat.reduceLeDiff, reduceCtorEq, Bool.false_eq_true, Bool.not_true, Bool.not_false, and_self, Nat.le_refl, hwd] <;> rfl) ?_
    refine aops_call rfl rfl rfl en34 ((hW.at hb [.box zT] a1 I F (d - 1) hN (by omega) (by omega) (by omega) (by omega) (by omega)).mono fun q H' hq => ?_)
    obtain ⟨rfl, rfl⟩ := hq
    generalize W (d - 1) a1 I F = q at hr ⊢
    obtain ⟨q, a2⟩ := q
    dsimp only at hr ⊢
    refine aops_run 3 (by simp only [fw0, fw1, fw2, fw3, fw4, fw5, fw6, fw7, ↓reduceIte, Nat.reduceAdd, Nat.reduceMul, Nat.reduceEqDiff, Nat.reduceLT, Nat.reduceLeDiff, reduceCtorEq, Bool.false_eq_true, Bool.not_true, Bool.not_false, and_self, Nat.le_refl, hwd] <;> rfl) ?_
    refine aops_call rfl rfl rfl en34 ((hW.at hb [.box zT] a2 I F (d - 1) hN (by omega) (by omega) (by omega) (by omega) (by omega)).mono fun q H' hq => ?_)
    obtain ⟨rfl, rfl⟩ := hq
    generalize W (d - 1) a2 I F = t at hr ⊢
    obtain ⟨t, a3⟩ := t
    dsimp only at hr ⊢
    refine aops_run 3 (by simp only [fw0, fw1, fw2, fw3, fw4, fw5, fw6, fw7, ↓reduceIte, Nat.reduceAdd, Nat.reduceMul, Nat.reduceEqDiff, Nat.reduceLT, Nat.reduceLeDiff, reduceCtorEq, Bool.false_eq_true, Bool.not_true, Bool.not_false, and_self, Nat.le_refl, zT, un27, ti29, pl29, Bp_at0, Bp_seta0, Tm.fw, PV.plainL, PV.bdL_append, List.take_zero, List.append_nil, Bool.and_self] <;> rfl) ?_
    refine awp_told (told_leBox H.length (by rw [Bp_at0]; rfl) (kids_le 6 [] 0 [p, q, t])) ?_
    refine awp_heap (H' := Bp H b (mk5 L a3 (sv I) (sv C) ff) ++ [.box (ifT p q t).enc]) (by rw [Bp_seta0]; rfl) ?_
    refine awp_ret ?_
    try simp only [Post.block, Post.then, reduceCtorEq, ↓reduceIte]
    rw [← hr]
    exact ret_Bp hb (p := .agg (ifT p q t).enc) (.inl rfl) hbd _ (by simp [ares, aresL, ares1, rd, ev, alook, aput, Tryd.f34, ti29, Tm.fw, Bp_at0]) (by simp [PV.bd, Tm.fw]) (hmk _) ⟨rfl, rfl⟩
  rw [if_neg hc10] at hr
  simp only [hc10, decide_false, Bool.false_eq_true, ↓reduceIte]
  refine awp_seq ?_
  refine awp_run rfl (by simp only [fw0, fw1, fw2, fw3, fw4, fw5, fw6, fw7, ↓reduceIte, Nat.reduceAdd, Nat.reduceMul, Nat.reduceEqDiff, Nat.reduceLT, Nat.reduceLeDiff, reduceCtorEq, Bool.false_eq_true, Bool.not_true, Bool.not_false, and_self, Nat.le_refl] <;> rfl) ?_
  refine awp_cond (by simp only [fw0, fw1, fw2, fw3, fw4, fw5, fw6, fw7, ↓reduceIte, Nat.reduceAdd, Nat.reduceMul, Nat.reduceEqDiff, Nat.reduceLT, Nat.reduceLeDiff, reduceCtorEq, Bool.false_eq_true, Bool.not_true, Bool.not_false, and_self, Nat.le_refl] <;> rfl) ?_
  by_cases hc12 : k < 10
  · simp only [hc12, decide_true, ↓reduceIte]
    rw [if_pos hc12] at hr
    refine awp_seq ?_
    refine awp_region rfl ?_
    refine aops_run 2 (by simp only [fw0, fw1, fw2, fw3, fw4, fw5, fw6, fw7, ↓reduceIte, Nat.reduceAdd, Nat.reduceMul, Nat.reduceEqDiff, Nat.reduceLT, Nat.reduceLeDiff, reduceCtorEq, Bool.false_eq_true, Bool.not_true, Bool.not_false, and_self, Nat.le_refl] <;> rfl) ?_
    refine aops_call rfl rfl rfl en56 (((c56 Γ hL hW).at hb [.box zT] a I F d hN ⟨by omega, by omega⟩ (by omega) (by omega) (by omega) (by omega)).mono fun q H' hq => ?_)
    obtain ⟨rfl, rfl⟩ := hq
    generalize letF L W d a I F = p at hr ⊢
    obtain ⟨p, a1⟩ := p
    dsimp only at hr ⊢
    refine aops_run 1 (by simp only [fw0, fw1, fw2, fw3, fw4, fw5, fw6, fw7, ↓reduceIte, Nat.reduceAdd, Nat.reduceMul, Nat.reduceEqDiff, Nat.reduceLT, Nat.reduceLeDiff, reduceCtorEq, Bool.false_eq_true, Bool.not_true, Bool.not_false, and_self, Nat.le_refl, zT, un27, ti29, pl29, Bp_at0, Bp_seta0, Tm.fw, PV.plainL, PV.bdL_append, List.take_zero, List.append_nil, Bool.and_self] <;> rfl) ?_
    refine awp_heap (H' := Bp H b (mk5 L a1 (sv I) (sv C) ff) ++ [.box (p).enc]) rfl ?_
    refine awp_ret ?_
    try simp only [Post.block, Post.then, reduceCtorEq, ↓reduceIte]
    rw [← hr]
    exact ret_Bp hb (p := .agg (p).enc) (.inl rfl) hbd _ (by simp [ares, aresL, ares1, rd, ev, alook, aput, Tryd.f34, ti29, Tm.fw, Bp_at0]) (by simp [PV.bd, Tm.fw]) (hmk _) ⟨rfl, rfl⟩
  simp only [hc12, decide_false, Bool.false_eq_true, ↓reduceIte]
  rw [if_neg hc12] at hr
  refine awp_keep (A' := [(0, .ptr b 0), (1, .int .i64 d), (4, .ptr H.length 0), (5, .int .i64 k)]) [0, 1, 4, 5] rfl ?_
  refine awp_seq ?_
  refine AWP.mono (Q := CondQ H b d k (Bp H b (mk5 L a (sv I) (sv C) ff) ++ [.box zT]) 86 (decide (k = 10 ∧ 0 < C.length))) ?_ ?_
  · by_cases h1 : k = 10
    · by_cases h2 : (0 : Int) < C.length
      · refine awp_run rfl (by simp only [fw0, fw1, fw2, fw3, fw4, fw5, fw6, fw7, ↓reduceIte, Nat.reduceAdd, Nat.reduceMul, Nat.reduceEqDiff, Nat.reduceLT, Nat.reduceLeDiff, reduceCtorEq, Bool.false_eq_true, Bool.not_true, Bool.not_false, and_self, Nat.le_refl, fl59_3, ti33, un33, Bp_get hb, mk5_fw, List.length_map, sv, h1, h2, Int.reduceEq, Int.reduceLT, decide_true, decide_false] <;> rfl) ?_
        have h3 : 0 < C.length := by omega
        exact ⟨rfl, by simp [h1, h3, akeep, alook, aput, ev], rfl, rfl⟩
      · refine awp_run rfl (by simp only [fw0, fw1, fw2, fw3, fw4, fw5, fw6, fw7, ↓reduceIte, Nat.reduceAdd, Nat.reduceMul, Nat.reduceEqDiff, Nat.reduceLT, Nat.reduceLeDiff, reduceCtorEq, Bool.false_eq_true, Bool.not_true, Bool.not_false, and_self, Nat.le_refl, fl59_3, ti33, un33, Bp_get hb, mk5_fw, List.length_map, sv, h1, h2, Int.reduceEq, Int.reduceLT, decide_true, decide_false] <;> rfl) ?_
        have h3 : ¬ 0 < C.length := by omega
        exact ⟨rfl, by simp [h1, h3, akeep, alook, aput, ev], rfl, rfl⟩
    refine awp_run rfl (by simp only [fw0, fw1, fw2, fw3, fw4, fw5, fw6, fw7, ↓reduceIte, Nat.reduceAdd, Nat.reduceMul, Nat.reduceEqDiff, Nat.reduceLT, Nat.reduceLeDiff, reduceCtorEq, Bool.false_eq_true, Bool.not_true, Bool.not_false, and_self, Nat.le_refl, h1, decide_true, decide_false] <;> rfl) ?_
    exact ⟨rfl, by simp [h1, akeep, alook, aput, ev], rfl, rfl⟩
  rintro e A' H' D' ⟨rfl, hA, rfl, rfl⟩
  show AWP _ _ _ _ _ _ _ _ _
  refine awp_keep _ hA ?_
  clear hA
  refine awp_cond rfl ?_
  by_cases hc14 : k = 10 ∧ 0 < C.length
  · simp only [hc14, decide_true, ↓reduceIte]
    rw [if_pos hc14] at hr
    refine awp_seq ?_
    refine awp_region rfl ?_
    refine aops_run 5 (by simp only [fw0, fw1, fw2, fw3, fw4, fw5, fw6, fw7, ↓reduceIte, Nat.reduceAdd, Nat.reduceMul, Nat.reduceEqDiff, Nat.reduceLT, Nat.reduceLeDiff, reduceCtorEq, Bool.false_eq_true, Bool.not_true, Bool.not_false, and_self, Nat.le_refl, fl59_3, ti33, Bp_get hb, mk5_fw] <;> rfl) ?_
    refine aops_call rfl rfl rfl en55 ((c55at Γ hb hL [.box zT] a C (nmB_sv _ _ _) (sv I) (sv C) ff).mono fun q H' hq => ?_)
    obtain ⟨rfl, rfl⟩ := hq
    generalize ofF L a C = p at hr ⊢
    obtain ⟨p, a1⟩ := p
    dsimp only at hr ⊢
    refine aops_run 3 (by simp only [fw0, fw1, fw2, fw3, fw4, fw5, fw6, fw7, ↓reduceIte, Nat.reduceAdd, Nat.reduceMul, Nat.reduceEqDiff, Nat.reduceLT, Nat.reduceLeDiff, reduceCtorEq, Bool.false_eq_true, Bool.not_true, Bool.not_false, and_self, Nat.le_refl, zT, un27, ti29, pl29, Bp_at0, Bp_seta0, Tm.fw, PV.plainL, PV.bdL_append, List.take_zero, List.append_nil, Bool.and_self] <;> rfl) ?_
    refine awp_told (told_leBox H.length (by rw [Bp_at0]; rfl) (kids_le 10 [] 0 [p])) ?_
    refine awp_heap (H' := Bp H b (mk5 L a1 (sv I) (sv C) ff) ++ [.box (oneT 10 [] p).enc]) (by rw [Bp_seta0]; rfl) ?_
    refine awp_ret ?_
    try simp only [Post.block, Post.then, reduceCtorEq, ↓reduceIte]
    rw [← hr]
    exact ret_Bp hb (p := .agg (oneT 10 [] p).enc) (.inl rfl) hbd _ (by simp [ares, aresL, ares1, rd, ev, alook, aput, Tryd.f34, ti29, Tm.fw, Bp_at0]) (by simp [PV.bd, Tm.fw]) (hmk _) ⟨rfl, rfl⟩
  rw [if_neg hc14] at hr
  simp only [hc14, decide_false, Bool.false_eq_true, ↓reduceIte]
  refine awp_keep (A' := [(0, .ptr b 0), (1, .int .i64 d), (4, .ptr H.length 0), (5, .int .i64 k)]) [0, 1, 4, 5] rfl ?_
  refine awp_seq ?_
  refine AWP.mono (Q := CondQ H b d k (Bp H b (mk5 L a (sv I) (sv C) ff) ++ [.box zT]) 105 (decide (k < 13 ∧ 0 < C.length))) ?_ ?_
  · by_cases h1 : k < 13
    · by_cases h2 : (0 : Int) < C.length
      · refine awp_run rfl (by simp only [fw0, fw1, fw2, fw3, fw4, fw5, fw6, fw7, ↓reduceIte, Nat.reduceAdd, Nat.reduceMul, Nat.reduceEqDiff, Nat.reduceLT, Nat.reduceLeDiff, reduceCtorEq, Bool.false_eq_true, Bool.not_true, Bool.not_false, and_self, Nat.le_refl, fl59_3, ti33, un33, Bp_get hb, mk5_fw, List.length_map, sv, h1, h2, Int.reduceEq, Int.reduceLT, decide_true, decide_false] <;> rfl) ?_
        have h3 : 0 < C.length := by omega
        exact ⟨rfl, by simp [h1, h3, akeep, alook, aput, ev], rfl, rfl⟩
      · refine awp_run rfl (by simp only [fw0, fw1, fw2, fw3, fw4, fw5, fw6, fw7, ↓reduceIte, Nat.reduceAdd, Nat.reduceMul, Nat.reduceEqDiff, Nat.reduceLT, Nat.reduceLeDiff, reduceCtorEq, Bool.false_eq_true, Bool.not_true, Bool.not_false, and_self, Nat.le_refl, fl59_3, ti33, un33, Bp_get hb, mk5_fw, List.length_map, sv, h1, h2, Int.reduceEq, Int.reduceLT, decide_true, decide_false] <;> rfl) ?_
        have h3 : ¬ 0 < C.length := by omega
        exact ⟨rfl, by simp [h1, h3, akeep, alook, aput, ev], rfl, rfl⟩
    refine awp_run rfl (by simp only [fw0, fw1, fw2, fw3, fw4, fw5, fw6, fw7, ↓reduceIte, Nat.reduceAdd, Nat.reduceMul, Nat.reduceEqDiff, Nat.reduceLT, Nat.reduceLeDiff, reduceCtorEq, Bool.false_eq_true, Bool.not_true, Bool.not_false, and_self, Nat.le_refl, h1, decide_true, decide_false] <;> rfl) ?_
    exact ⟨rfl, by simp [h1, akeep, alook, aput, ev], rfl, rfl⟩
  rintro e A' H' D' ⟨rfl, hA, rfl, rfl⟩
  show AWP _ _ _ _ _ _ _ _ _
  refine awp_keep _ hA ?_
  clear hA
  refine awp_cond rfl ?_
  by_cases hc16 : k < 13 ∧ 0 < C.length
  · simp only [hc16, decide_true, ↓reduceIte]
    rw [if_pos hc16] at hr
    refine awp_seq ?_
    refine awp_region rfl ?_
    refine aops_run 5 (by simp only [fw0, fw1, fw2, fw3, fw4, fw5, fw6, fw7, ↓reduceIte, Nat.reduceAdd, Nat.reduceMul, Nat.reduceEqDiff, Nat.reduceLT, Nat.reduceLeDiff, reduceCtorEq, Bool.false_eq_true, Bool.not_true, Bool.not_false, and_self, Nat.le_refl, fl59_3, ti33, Bp_get hb, mk5_fw] <;> rfl) ?_
    refine aops_call rfl rfl rfl en55 ((c55at Γ hb hL [.box zT] a C (nmB_sv _ _ _) (sv I) (sv C) ff).mono fun q H' hq => ?_)
    obtain ⟨rfl, rfl⟩ := hq
    generalize ofF L a C = p at hr ⊢
    obtain ⟨p, a1⟩ := p
    dsimp only at hr ⊢
    refine aops_run 3 (by simp only [fw0, fw1, fw2, fw3, fw4, fw5, fw6, fw7, ↓reduceIte, Nat.reduceAdd, Nat.reduceMul, Nat.reduceEqDiff, Nat.reduceLT, Nat.reduceLeDiff, reduceCtorEq, Bool.false_eq_true, Bool.not_true, Bool.not_false, and_self, Nat.le_refl, hwd] <;> rfl) ?_
    refine aops_call rfl rfl rfl en34 ((hW.at hb [.box zT] a1 I F (d - 1) hN (by omega) (by omega) (by omega) (by omega) (by omega)).mono fun q H' hq => ?_)
    obtain ⟨rfl, rfl⟩ := hq
    generalize W (d - 1) a1 I F = q at hr ⊢
    obtain ⟨q, a2⟩ := q
    dsimp only at hr ⊢
    refine aops_fn rfl rfl rfl en12 (c12 Γ 11 [] p q) ?_
    refine aops_run 1 (by simp only [fw0, fw1, fw2, fw3, fw4, fw5, fw6, fw7, ↓reduceIte, Nat.reduceAdd, Nat.reduceMul, Nat.reduceEqDiff, Nat.reduceLT, Nat.reduceLeDiff, reduceCtorEq, Bool.false_eq_true, Bool.not_true, Bool.not_false, and_self, Nat.le_refl, zT, un27, ti29, pl29, Bp_at0, Bp_seta0, Tm.fw, PV.plainL, PV.bdL_append, List.take_zero, List.append_nil, Bool.and_self] <;> rfl) ?_
    refine awp_heap (H' := Bp H b (mk5 L a2 (sv I) (sv C) ff) ++ [.box (twoT 11 [] p q).enc]) rfl ?_
    refine awp_ret ?_
    try simp only [Post.block, Post.then, reduceCtorEq, ↓reduceIte]
    rw [← hr]
    exact ret_Bp hb (p := .agg (twoT 11 [] p q).enc) (.inl rfl) hbd _ (by simp [ares, aresL, ares1, rd, ev, alook, aput, Tryd.f34, ti29, Tm.fw, Bp_at0]) (by simp [PV.bd, Tm.fw]) (hmk _) ⟨rfl, rfl⟩
  rw [if_neg hc16] at hr
  simp only [hc16, decide_false, Bool.false_eq_true, ↓reduceIte]
  refine awp_keep (A' := [(0, .ptr b 0), (1, .int .i64 d), (4, .ptr H.length 0), (5, .int .i64 k)]) [0, 1, 4, 5] rfl ?_
  refine awp_seq ?_
  refine awp_run rfl (by simp only [fw0, fw1, fw2, fw3, fw4, fw5, fw6, fw7, ↓reduceIte, Nat.reduceAdd, Nat.reduceMul, Nat.reduceEqDiff, Nat.reduceLT, Nat.reduceLeDiff, reduceCtorEq, Bool.false_eq_true, Bool.not_true, Bool.not_false, and_self, Nat.le_refl] <;> rfl) ?_
  refine awp_cond (by simp only [fw0, fw1, fw2, fw3, fw4, fw5, fw6, fw7, ↓reduceIte, Nat.reduceAdd, Nat.reduceMul, Nat.reduceEqDiff, Nat.reduceLT, Nat.reduceLeDiff, reduceCtorEq, Bool.false_eq_true, Bool.not_true, Bool.not_false, and_self, Nat.le_refl] <;> rfl) ?_
  by_cases hc18 : k < 15
  · simp only [hc18, decide_true, ↓reduceIte]
    rw [if_pos hc18] at hr
    refine awp_seq ?_
    refine awp_region rfl ?_
    refine aops_run 3 (by simp only [fw0, fw1, fw2, fw3, fw4, fw5, fw6, fw7, ↓reduceIte, Nat.reduceAdd, Nat.reduceMul, Nat.reduceEqDiff, Nat.reduceLT, Nat.reduceLeDiff, reduceCtorEq, Bool.false_eq_true, Bool.not_true, Bool.not_false, and_self, Nat.le_refl, hwd] <;> rfl) ?_
    refine aops_call rfl rfl rfl en34 ((hW.at hb [.box zT] a I F (d - 1) hN (by omega) (by omega) (by omega) (by omega) (by omega)).mono fun q H' hq => ?_)
    obtain ⟨rfl, rfl⟩ := hq
    generalize W (d - 1) a I F = p at hr ⊢
    obtain ⟨p, a1⟩ := p
    dsimp only at hr ⊢
    refine aops_run 3 (by simp only [fw0, fw1, fw2, fw3, fw4, fw5, fw6, fw7, ↓reduceIte, Nat.reduceAdd, Nat.reduceMul, Nat.reduceEqDiff, Nat.reduceLT, Nat.reduceLeDiff, reduceCtorEq, Bool.false_eq_true, Bool.not_true, Bool.not_false, and_self, Nat.le_refl, hwd] <;> rfl) ?_
    refine aops_call rfl rfl rfl en34 ((hW.at hb [.box zT] a1 I F (d - 1) hN (by omega) (by omega) (by omega) (by omega) (by omega)).mono fun q H' hq => ?_)
    obtain ⟨rfl, rfl⟩ := hq
    generalize W (d - 1) a1 I F = q at hr ⊢
    obtain ⟨q, a2⟩ := q
    dsimp only at hr ⊢
    refine aops_fn rfl rfl rfl en12 (c12 Γ 13 [] p q) ?_
    refine aops_run 1 (by simp only [fw0, fw1, fw2, fw3, fw4, fw5, fw6, fw7, ↓reduceIte, Nat.reduceAdd, Nat.reduceMul, Nat.reduceEqDiff, Nat.reduceLT, Nat.reduceLeDiff, reduceCtorEq, Bool.false_eq_true, Bool.not_true, Bool.not_false, and_self, Nat.le_refl, zT, un27, ti29, pl29, Bp_at0, Bp_seta0, Tm.fw, PV.plainL, PV.bdL_append, List.take_zero, List.append_nil, Bool.and_self] <;> rfl) ?_
    refine awp_heap (H' := Bp H b (mk5 L a2 (sv I) (sv C) ff) ++ [.box (twoT 13 [] p q).enc]) rfl ?_
    refine awp_ret ?_
    try simp only [Post.block, Post.then, reduceCtorEq, ↓reduceIte]
    rw [← hr]
    exact ret_Bp hb (p := .agg (twoT 13 [] p q).enc) (.inl rfl) hbd _ (by simp [ares, aresL, ares1, rd, ev, alook, aput, Tryd.f34, ti29, Tm.fw, Bp_at0]) (by simp [PV.bd, Tm.fw]) (hmk _) ⟨rfl, rfl⟩
  simp only [hc18, decide_false, Bool.false_eq_true, ↓reduceIte]
  rw [if_neg hc18] at hr
  refine awp_seq ?_
  refine awp_run rfl (by simp only [fw0, fw1, fw2, fw3, fw4, fw5, fw6, fw7, ↓reduceIte, Nat.reduceAdd, Nat.reduceMul, Nat.reduceEqDiff, Nat.reduceLT, Nat.reduceLeDiff, reduceCtorEq, Bool.false_eq_true, Bool.not_true, Bool.not_false, and_self, Nat.le_refl] <;> rfl) ?_
  refine awp_cond (by simp only [fw0, fw1, fw2, fw3, fw4, fw5, fw6, fw7, ↓reduceIte, Nat.reduceAdd, Nat.reduceMul, Nat.reduceEqDiff, Nat.reduceLT, Nat.reduceLeDiff, reduceCtorEq, Bool.false_eq_true, Bool.not_true, Bool.not_false, and_self, Nat.le_refl] <;> rfl) ?_
  by_cases hc20 : k = 15
  · simp only [hc20, decide_true, ↓reduceIte]
    rw [if_pos hc20] at hr
    refine awp_seq ?_
    refine awp_region rfl ?_
    refine aops_run 3 (by simp only [fw0, fw1, fw2, fw3, fw4, fw5, fw6, fw7, ↓reduceIte, Nat.reduceAdd, Nat.reduceMul, Nat.reduceEqDiff, Nat.reduceLT, Nat.reduceLeDiff, reduceCtorEq, Bool.false_eq_true, Bool.not_true, Bool.not_false, and_self, Nat.le_refl, hwd] <;> rfl) ?_
    refine aops_call rfl rfl rfl en34 ((hW.at hb [.box zT] a I F (d - 1) hN (by omega) (by omega) (by omega) (by omega) (by omega)).mono fun q H' hq => ?_)
    obtain ⟨rfl, rfl⟩ := hq
    generalize W (d - 1) a I F = p at hr ⊢
    obtain ⟨p, a1⟩ := p
    dsimp only at hr ⊢
    refine aops_run 3 (by simp only [fw0, fw1, fw2, fw3, fw4, fw5, fw6, fw7, ↓reduceIte, Nat.reduceAdd, Nat.reduceMul, Nat.reduceEqDiff, Nat.reduceLT, Nat.reduceLeDiff, reduceCtorEq, Bool.false_eq_true, Bool.not_true, Bool.not_false, and_self, Nat.le_refl, zT, un27, ti29, pl29, Bp_at0, Bp_seta0, Tm.fw, PV.plainL, PV.bdL_append, List.take_zero, List.append_nil, Bool.and_self] <;> rfl) ?_
    refine awp_told (told_leBox H.length (by rw [Bp_at0]; rfl) (kids_le 8 [] 0 [p])) ?_
    refine awp_heap (H' := Bp H b (mk5 L a1 (sv I) (sv C) ff) ++ [.box (oneT 8 [] p).enc]) (by rw [Bp_seta0]; rfl) ?_
    refine awp_ret ?_
    try simp only [Post.block, Post.then, reduceCtorEq, ↓reduceIte]
    rw [← hr]
    exact ret_Bp hb (p := .agg (oneT 8 [] p).enc) (.inl rfl) hbd _ (by simp [ares, aresL, ares1, rd, ev, alook, aput, Tryd.f34, ti29, Tm.fw, Bp_at0]) (by simp [PV.bd, Tm.fw]) (hmk _) ⟨rfl, rfl⟩
  simp only [hc20, decide_false, Bool.false_eq_true, ↓reduceIte]
  rw [if_neg hc20] at hr
  refine awp_seq ?_
  refine awp_run rfl (by simp only [fw0, fw1, fw2, fw3, fw4, fw5, fw6, fw7, ↓reduceIte, Nat.reduceAdd, Nat.reduceMul, Nat.reduceEqDiff, Nat.reduceLT, Nat.reduceLeDiff, reduceCtorEq, Bool.false_eq_true, Bool.not_true, Bool.not_false, and_self, Nat.le_refl] <;> rfl) ?_
  refine awp_cond (by simp only [fw0, fw1, fw2, fw3, fw4, fw5, fw6, fw7, ↓reduceIte, Nat.reduceAdd, Nat.reduceMul, Nat.reduceEqDiff, Nat.reduceLT, Nat.reduceLeDiff, reduceCtorEq, Bool.false_eq_true, Bool.not_true, Bool.not_false, and_self, Nat.le_refl] <;> rfl) ?_
  by_cases hc22 : k = 16
  · simp only [hc22, decide_true, ↓reduceIte]
    rw [if_pos hc22] at hr
    refine awp_seq ?_
    refine awp_region rfl ?_
    refine aops_run 2 (by simp only [fw0, fw1, fw2, fw3, fw4, fw5, fw6, fw7, ↓reduceIte, Nat.reduceAdd, Nat.reduceMul, Nat.reduceEqDiff, Nat.reduceLT, Nat.reduceLeDiff, reduceCtorEq, Bool.false_eq_true, Bool.not_true, Bool.not_false, and_self, Nat.le_refl] <;> rfl) ?_
    refine aops_call rfl rfl rfl en57 (((c57 Γ hL hW).at hb [.box zT] a I F d hN ⟨by omega, by omega⟩ (by omega) (by omega) (by omega) (by omega)).mono fun q H' hq => ?_)
    obtain ⟨rfl, rfl⟩ := hq
    generalize tryF L W d a I F = p at hr ⊢
    obtain ⟨p, a1⟩ := p
    dsimp only at hr ⊢
    refine aops_run 1 (by simp only [fw0, fw1, fw2, fw3, fw4, fw5, fw6, fw7, ↓reduceIte, Nat.reduceAdd, Nat.reduceMul, Nat.reduceEqDiff, Nat.reduceLT, Nat.reduceLeDiff, reduceCtorEq, Bool.false_eq_true, Bool.not_true, Bool.not_false, and_self, Nat.le_refl, zT, un27, ti29, pl29, Bp_at0, Bp_seta0, Tm.fw, PV.plainL, PV.bdL_append, List.take_zero, List.append_nil, Bool.and_self] <;> rfl) ?_
    refine awp_heap (H' := Bp H b (mk5 L a1 (sv I) (sv C) ff) ++ [.box (p).enc]) rfl ?_
    refine awp_ret ?_
    try simp only [Post.block, Post.then, reduceCtorEq, ↓reduceIte]
    rw [← hr]
    exact ret_Bp hb (p := .agg (p).enc) (.inl rfl) hbd _ (by simp [ares, aresL, ares1, rd, ev, alook, aput, Tryd.f34, ti29, Tm.fw, Bp_at0]) (by simp [PV.bd, Tm.fw]) (hmk _) ⟨rfl, rfl⟩
  simp only [hc22, decide_false, Bool.false_eq_true, ↓reduceIte]
  rw [if_neg hc22] at hr
  refine awp_keep (A' := [(0, .ptr b 0), (1, .int .i64 d), (4, .ptr H.length 0), (5, .int .i64 k)]) [0, 1, 4, 5] rfl ?_
  refine awp_seq ?_
  refine AWP.mono (Q := CondQ H b d k (Bp H b (mk5 L a (sv I) (sv C) ff) ++ [.box zT]) 154 (decide (k < 19 ∧ 0 < F.length))) ?_ ?_
  · rcases hN with rfl | ⟨rr, hrb, rfl, hrow⟩
    · by_cases h1 : k < 19
      · by_cases h2 : (0 : Int) < F.length
        · refine awp_run rfl (by simp only [fw0, fw1, fw2, fw3, fw4, fw5, fw6, fw7, ↓reduceIte, Nat.reduceAdd, Nat.reduceMul, Nat.reduceEqDiff, Nat.reduceLT, Nat.reduceLeDiff, reduceCtorEq, Bool.false_eq_true, Bool.not_true, Bool.not_false, and_self, Nat.le_refl, fl59_4, ti33, un33, Bp_get hb, mk5_fw, List.length_map, sv, h1, h2, Int.reduceEq, Int.reduceLT, decide_true, decide_false] <;> rfl) ?_
          have h3 : 0 < F.length := by omega
          exact ⟨rfl, by simp [h1, h3, akeep, alook, aput, ev], rfl, rfl⟩
        · refine awp_run rfl (by simp only [fw0, fw1, fw2, fw3, fw4, fw5, fw6, fw7, ↓reduceIte, Nat.reduceAdd, Nat.reduceMul, Nat.reduceEqDiff, Nat.reduceLT, Nat.reduceLeDiff, reduceCtorEq, Bool.false_eq_true, Bool.not_true, Bool.not_false, and_self, Nat.le_refl, fl59_4, ti33, un33, Bp_get hb, mk5_fw, List.length_map, sv, h1, h2, Int.reduceEq, Int.reduceLT, decide_true, decide_false] <;> rfl) ?_
          have h3 : ¬ 0 < F.length := by omega
          exact ⟨rfl, by simp [h1, h3, akeep, alook, aput, ev], rfl, rfl⟩
      refine awp_run rfl (by simp only [fw0, fw1, fw2, fw3, fw4, fw5, fw6, fw7, ↓reduceIte, Nat.reduceAdd, Nat.reduceMul, Nat.reduceEqDiff, Nat.reduceLT, Nat.reduceLeDiff, reduceCtorEq, Bool.false_eq_true, Bool.not_true, Bool.not_false, and_self, Nat.le_refl, h1, decide_true, decide_false] <;> rfl) ?_
      exact ⟨rfl, by simp [h1, akeep, alook, aput, ev], rfl, rfl⟩
    · by_cases h1 : k < 19
      · by_cases h2 : (0 : Int) < F.length
        · refine awp_run rfl (by simp only [fw0, fw1, fw2, fw3, fw4, fw5, fw6, fw7, ↓reduceIte, Nat.reduceAdd, Nat.reduceMul, Nat.reduceEqDiff, Nat.reduceLT, Nat.reduceLeDiff, reduceCtorEq, Bool.false_eq_true, Bool.not_true, Bool.not_false, and_self, Nat.le_refl, fl59_4, ti33, un33, Bp_get hb, mk5_fw, List.length_map, sv, h1, h2, Int.reduceEq, Int.reduceLT, decide_true, decide_false] <;> rfl) ?_
          have h3 : 0 < F.length := by omega
          exact ⟨rfl, by simp [h1, h3, akeep, alook, aput, ev], rfl, rfl⟩
        · refine awp_run rfl (by simp only [fw0, fw1, fw2, fw3, fw4, fw5, fw6, fw7, ↓reduceIte, Nat.reduceAdd, Nat.reduceMul, Nat.reduceEqDiff, Nat.reduceLT, Nat.reduceLeDiff, reduceCtorEq, Bool.false_eq_true, Bool.not_true, Bool.not_false, and_self, Nat.le_refl, fl59_4, ti33, un33, Bp_get hb, mk5_fw, List.length_map, sv, h1, h2, Int.reduceEq, Int.reduceLT, decide_true, decide_false] <;> rfl) ?_
          have h3 : ¬ 0 < F.length := by omega
          exact ⟨rfl, by simp [h1, h3, akeep, alook, aput, ev], rfl, rfl⟩
      refine awp_run rfl (by simp only [fw0, fw1, fw2, fw3, fw4, fw5, fw6, fw7, ↓reduceIte, Nat.reduceAdd, Nat.reduceMul, Nat.reduceEqDiff, Nat.reduceLT, Nat.reduceLeDiff, reduceCtorEq, Bool.false_eq_true, Bool.not_true, Bool.not_false, and_self, Nat.le_refl, h1, decide_true, decide_false] <;> rfl) ?_
      exact ⟨rfl, by simp [h1, akeep, alook, aput, ev], rfl, rfl⟩
  rintro e A' H' D' ⟨rfl, hA, rfl, rfl⟩
  show AWP _ _ _ _ _ _ _ _ _
  refine awp_keep _ hA ?_
  clear hA
  refine awp_cond rfl ?_
  by_cases hc24 : k < 19 ∧ 0 < F.length
  · simp only [hc24, decide_true, ↓reduceIte]
    rw [if_pos hc24] at hr
    refine awp_seq ?_
    refine awp_region rfl ?_
    refine aops_run 5 (by simp only [fw0, fw1, fw2, fw3, fw4, fw5, fw6, fw7, ↓reduceIte, Nat.reduceAdd, Nat.reduceMul, Nat.reduceEqDiff, Nat.reduceLT, Nat.reduceLeDiff, reduceCtorEq, Bool.false_eq_true, Bool.not_true, Bool.not_false, and_self, Nat.le_refl, fl59_4, ti33, Bp_get hb, mk5_fw] <;> rfl) ?_
    refine aops_call rfl rfl rfl en55 ((c55at Γ hb hL [.box zT] a F hN (sv I) (sv C) ff).mono fun q H' hq => ?_)
    obtain ⟨rfl, rfl⟩ := hq
    generalize ofF L a F = p at hr ⊢
    obtain ⟨p, a1⟩ := p
    dsimp only at hr ⊢
    refine aops_run 3 (by simp only [fw0, fw1, fw2, fw3, fw4, fw5, fw6, fw7, ↓reduceIte, Nat.reduceAdd, Nat.reduceMul, Nat.reduceEqDiff, Nat.reduceLT, Nat.reduceLeDiff, reduceCtorEq, Bool.false_eq_true, Bool.not_true, Bool.not_false, and_self, Nat.le_refl, hwd] <;> rfl) ?_
    refine aops_call rfl rfl rfl en34 ((hW.at hb [.box zT] a1 I F (d - 1) hN (by omega) (by omega) (by omega) (by omega) (by omega)).mono fun q H' hq => ?_)
    obtain ⟨rfl, rfl⟩ := hq
    generalize W (d - 1) a1 I F = q at hr ⊢
    obtain ⟨q, a2⟩ := q
    dsimp only at hr ⊢
    refine aops_fn rfl rfl rfl en12 (c12 Γ 4 [] p q) ?_
    refine aops_run 1 (by simp only [fw0, fw1, fw2, fw3, fw4, fw5, fw6, fw7, ↓reduceIte, Nat.reduceAdd, Nat.reduceMul, Nat.reduceEqDiff, Nat.reduceLT, Nat.reduceLeDiff, reduceCtorEq, Bool.false_eq_true, Bool.not_true, Bool.not_false, and_self, Nat.le_refl, zT, un27, ti29, pl29, Bp_at0, Bp_seta0, Tm.fw, PV.plainL, PV.bdL_append, List.take_zero, List.append_nil, Bool.and_self] <;> rfl) ?_
    refine awp_heap (H' := Bp H b (mk5 L a2 (sv I) (sv C) ff) ++ [.box (twoT 4 [] p q).enc]) rfl ?_
    refine awp_ret ?_
    try simp only [Post.block, Post.then, reduceCtorEq, ↓reduceIte]
    rw [← hr]
    exact ret_Bp hb (p := .agg (twoT 4 [] p q).enc) (.inl rfl) hbd _ (by simp [ares, aresL, ares1, rd, ev, alook, aput, Tryd.f34, ti29, Tm.fw, Bp_at0]) (by simp [PV.bd, Tm.fw]) (hmk _) ⟨rfl, rfl⟩
  rw [if_neg hc24] at hr
  simp only [hc24, decide_false, Bool.false_eq_true, ↓reduceIte]
  refine awp_keep (A' := [(0, .ptr b 0), (1, .int .i64 d), (4, .ptr H.length 0), (5, .int .i64 k)]) [0, 1, 4, 5] rfl ?_
  refine awp_seq ?_
  refine AWP.mono (Q := CondQ H b d k (Bp H b (mk5 L (if k = 19 then (byteF L a).2 else a) (sv I) (sv C) ff) ++ [.box zT]) 176 (decide (k = 19 ∧ (byteF L a).1.tmod 4 = 0))) ?_ ?_
  · refine awp_region rfl ?_
    by_cases h1 : k = 19
    · rw [if_pos h1]
      refine aops_run 4 (by simp only [fw0, fw1, fw2, fw3, fw4, fw5, fw6, fw7, ↓reduceIte, Nat.reduceAdd, Nat.reduceMul, Nat.reduceEqDiff, Nat.reduceLT, Nat.reduceLeDiff, reduceCtorEq, Bool.false_eq_true, Bool.not_true, Bool.not_false, and_self, Nat.le_refl, h1, Int.reduceEq, decide_true] <;> rfl) ?_
      refine aops_callIf rfl rfl rfl rfl rfl en33 ((c33at Γ hb hL [.box zT] a (sv I) (sv C) ff).mono fun q H' hq => ?_)
      obtain ⟨rfl, rfl⟩ := hq
      by_cases h2 : (byteF L a).1.tmod 4 = 0
      · refine aops_run 4 (by simp only [fw0, fw1, fw2, fw3, fw4, fw5, fw6, fw7, ↓reduceIte, Nat.reduceAdd, Nat.reduceMul, Nat.reduceEqDiff, Nat.reduceLT, Nat.reduceLeDiff, reduceCtorEq, Bool.false_eq_true, Bool.not_true, Bool.not_false, and_self, Nat.le_refl, h2, ne_eq, Int.reduceEq, not_false_eq_true, decide_true, decide_false] <;> rfl) ?_
        exact ⟨rfl, by simp [h1, h2, akeep, alook, aput, ev], rfl, rfl⟩
      · refine aops_run 4 (by simp only [fw0, fw1, fw2, fw3, fw4, fw5, fw6, fw7, ↓reduceIte, Nat.reduceAdd, Nat.reduceMul, Nat.reduceEqDiff, Nat.reduceLT, Nat.reduceLeDiff, reduceCtorEq, Bool.false_eq_true, Bool.not_true, Bool.not_false, and_self, Nat.le_refl, h2, ne_eq, Int.reduceEq, not_false_eq_true, decide_true, decide_false] <;> rfl) ?_
        exact ⟨rfl, by simp [h1, h2, akeep, alook, aput, ev], rfl, rfl⟩
    · rw [if_neg h1]
      refine aops_run 9 (by simp only [fw0, fw1, fw2, fw3, fw4, fw5, fw6, fw7, ↓reduceIte, Nat.reduceAdd, Nat.reduceMul, Nat.reduceEqDiff, Nat.reduceLT, Nat.reduceLeDiff, reduceCtorEq, Bool.false_eq_true, Bool.not_true, Bool.not_false, and_self, Nat.le_refl, h1, decide_true, decide_false] <;> rfl) ?_
      exact ⟨rfl, by simp [h1, akeep, alook, aput, ev], rfl, rfl⟩
  rintro e A' H' D' ⟨rfl, hA, rfl, rfl⟩
  show AWP _ _ _ _ _ _ _ _ _
  refine awp_keep _ hA ?_
  clear hA
  refine awp_cond rfl ?_
  by_cases hc26 : k = 19 ∧ (byteF L a).1.tmod 4 = 0
  · simp only [hc26, decide_true, ↓reduceIte]
    rw [if_pos hc26] at hr
    refine awp_seq ?_
    have hk19 := hc26.1
    generalize (byteF L a).2 = a1 at hr ⊢
    refine awp_region rfl ?_
    refine aops_run 3 (by simp only [fw0, fw1, fw2, fw3, fw4, fw5, fw6, fw7, ↓reduceIte, Nat.reduceAdd, Nat.reduceMul, Nat.reduceEqDiff, Nat.reduceLT, Nat.reduceLeDiff, reduceCtorEq, Bool.false_eq_true, Bool.not_true, Bool.not_false, and_self, Nat.le_refl, hwd] <;> rfl) ?_
    refine aops_call rfl rfl rfl en34 ((hW.at hb [.box zT] a1 I F (d - 1) hN (by omega) (by omega) (by omega) (by omega) (by omega)).mono fun q H' hq => ?_)
    obtain ⟨rfl, rfl⟩ := hq
    generalize W (d - 1) a1 I F = p at hr ⊢
    obtain ⟨p, a2⟩ := p
    dsimp only at hr ⊢
    refine aops_run 3 (by simp only [fw0, fw1, fw2, fw3, fw4, fw5, fw6, fw7, ↓reduceIte, Nat.reduceAdd, Nat.reduceMul, Nat.reduceEqDiff, Nat.reduceLT, Nat.reduceLeDiff, reduceCtorEq, Bool.false_eq_true, Bool.not_true, Bool.not_false, and_self, Nat.le_refl, hwd] <;> rfl) ?_
    refine aops_call rfl rfl rfl en34 ((hW.at hb [.box zT] a2 I F (d - 1) hN (by omega) (by omega) (by omega) (by omega) (by omega)).mono fun q H' hq => ?_)
    obtain ⟨rfl, rfl⟩ := hq
    generalize W (d - 1) a2 I F = q at hr ⊢
    obtain ⟨q, a3⟩ := q
    dsimp only at hr ⊢
    refine aops_fn rfl rfl rfl en12 (c12 Γ 7 [] p q) ?_
    refine aops_run 1 (by simp only [fw0, fw1, fw2, fw3, fw4, fw5, fw6, fw7, ↓reduceIte, Nat.reduceAdd, Nat.reduceMul, Nat.reduceEqDiff, Nat.reduceLT, Nat.reduceLeDiff, reduceCtorEq, Bool.false_eq_true, Bool.not_true, Bool.not_false, and_self, Nat.le_refl, zT, un27, ti29, pl29, Bp_at0, Bp_seta0, Tm.fw, PV.plainL, PV.bdL_append, List.take_zero, List.append_nil, Bool.and_self] <;> rfl) ?_
    refine awp_heap (H' := Bp H b (mk5 L a3 (sv I) (sv C) ff) ++ [.box (twoT 7 [] p q).enc]) rfl ?_
    refine awp_ret ?_
    try simp only [Post.block, Post.then, reduceCtorEq, ↓reduceIte]
    rw [← hr]
    exact ret_Bp hb (p := .agg (twoT 7 [] p q).enc) (.inl rfl) hbd _ (by simp [ares, aresL, ares1, rd, ev, alook, aput, Tryd.f34, ti29, Tm.fw, Bp_at0]) (by simp [PV.bd, Tm.fw]) (hmk _) ⟨rfl, rfl⟩
  rw [if_neg hc26] at hr
  simp only [hc26, decide_false, Bool.false_eq_true, ↓reduceIte]
  refine awp_skip ?_
  show AWP _ _ _ _ _ _ _ _ _
  generalize (if k = 19 then (byteF L a).2 else a) = a1 at hr ⊢
  refine awp_seq ?_
  refine awp_region rfl ?_
  refine aops_run 3 (by simp only [fw0, fw1, fw2, fw3, fw4, fw5, fw6, fw7, ↓reduceIte, Nat.reduceAdd, Nat.reduceMul, Nat.reduceEqDiff, Nat.reduceLT, Nat.reduceLeDiff, reduceCtorEq, Bool.false_eq_true, Bool.not_true, Bool.not_false, and_self, Nat.le_refl, hwd] <;> rfl) ?_
  refine aops_call rfl rfl rfl en18 (((c18 Γ hL hW).at hb [.box zT] a1 I F (d - 1) hN ⟨by omega, by omega⟩ (by omega) (by omega) (by omega) (by omega)).mono fun q H' hq => ?_)
  obtain ⟨rfl, rfl⟩ := hq
  generalize funF L W (d - 1) a1 I F = p at hr ⊢
  obtain ⟨p, a2⟩ := p
  dsimp only at hr ⊢
  refine aops_run 3 (by simp only [fw0, fw1, fw2, fw3, fw4, fw5, fw6, fw7, ↓reduceIte, Nat.reduceAdd, Nat.reduceMul, Nat.reduceEqDiff, Nat.reduceLT, Nat.reduceLeDiff, reduceCtorEq, Bool.false_eq_true, Bool.not_true, Bool.not_false, and_self, Nat.le_refl, hwd] <;> rfl) ?_
  refine aops_call rfl rfl rfl en34 ((hW.at hb [.box zT] a2 I F (d - 1) hN (by omega) (by omega) (by omega) (by omega) (by omega)).mono fun q H' hq => ?_)
  obtain ⟨rfl, rfl⟩ := hq
  generalize W (d - 1) a2 I F = q at hr ⊢
  obtain ⟨q, a3⟩ := q
  dsimp only at hr ⊢
  refine aops_fn rfl rfl rfl en12 (c12 Γ 4 [] p q) ?_
  refine aops_run 1 (by simp only [fw0, fw1, fw2, fw3, fw4, fw5, fw6, fw7, ↓reduceIte, Nat.reduceAdd, Nat.reduceMul, Nat.reduceEqDiff, Nat.reduceLT, Nat.reduceLeDiff, reduceCtorEq, Bool.false_eq_true, Bool.not_true, Bool.not_false, and_self, Nat.le_refl, zT, un27, ti29, pl29, Bp_at0, Bp_seta0, Tm.fw, PV.plainL, PV.bdL_append, List.take_zero, List.append_nil, Bool.and_self] <;> rfl) ?_
  refine awp_heap (H' := Bp H b (mk5 L a3 (sv I) (sv C) ff) ++ [.box (twoT 4 [] p q).enc]) rfl ?_
  refine awp_ret ?_
  try simp only [Post.block, Post.then, reduceCtorEq, ↓reduceIte]
  rw [← hr]
  exact ret_Bp hb (p := .agg (twoT 4 [] p q).enc) (.inl rfl) hbd _ (by simp [ares, aresL, ares1, rd, ev, alook, aput, Tryd.f34, ti29, Tm.fw, Bp_at0]) (by simp [PV.bd, Tm.fw]) (hmk _) ⟨rfl, rfl⟩

theorem c34 (Γ : Nat → PV) {L : List Int} (hL : U8s L) (C : Names) : ∀ n, MkC Γ 34 L C (fun d => d.toNat < n) (wholeF L C n)
  | 0 => fun _ _ _ _ _ _ _ _ _ h => absurd h (Nat.not_lt_zero _)
  | n + 1 => c34s Γ hL n (c34 Γ hL C n)

end Go.Proofs.YtnjlfbefpoecpaaDoor

/- Programs made of bytes: plain; the lattices. -/
namespace Go.Proofs.YtnjlfbefpoecpaaDoor
set_option linter.unusedVariables false
set_option linter.unusedSimpArgs false
set_option maxRecDepth 100000
open Go.RowKit Fw

/-- A label, of a lattice's points. -/
def lblF (L : List Int) (nm : Names) (a : Nat) : List UInt8 × Nat := (nm.getD ((byteF L a).1.tmod nm.length).toNat [], (byteF L a).2)
def nameI : Names := [[97], [98], [104]]
def nameC : Names := [[99], [100], [101]]
def nameF : Names := [[102], [103]]
def insF (L : List Int) (nm : Names) : Nat → List Dl × Nat
  | 0 => ([], 0)
  | i + 1 => ((insF L nm i).1 ++ [⟨nameI.getD i [], (lblF L nm (insF L nm i).2).1, 0⟩], (lblF L nm (insF L nm i).2).2)
def cellsF (L : List Int) (nm : Names) (a0 : Nat) : Nat → List Dl × Nat
  | 0 => ([], a0)
  | i + 1 => ((cellsF L nm a0 i).1 ++ [⟨nameC.getD i [], (lblF L nm (cellsF L nm a0 i).2).1, i⟩], (lblF L nm (cellsF L nm a0 i).2).2)
def defsF (L : List Int) (I C : Names) (a0 : Nat) : Nat → List Df × Nat
  | 0 => ([], a0)
  | i + 1 => ((defsF L I C a0 i).1 ++ [⟨nameF.getD i [], (funF L (wholeF L C 10) 4 (defsF L I C a0 i).2 I (nameF.take i)).1⟩], (funF L (wholeF L C 10) 4 (defsF L I C a0 i).2 I (nameF.take i)).2)
def nin (n : Int) : Nat := 1 + (n.tmod 3).toNat
def ncl (n : Int) : Nat := ((IntKind.u8.wrap (n.tdiv 3)).tmod 4).toNat
def ndf (n : Int) : Nat := ((IntKind.u8.wrap (n.tdiv 12)).tmod 3).toNat
/-- A program, by bytes. -/
def wellF (nm : Names) (l : List Int) (n : Int) : Pg :=
  let L := l.take 90
  let I := nameI.take (nin n)
  let C := nameC.take (ncl n)
  let i := insF L nm (nin n)
  let c := cellsF L nm i.2 (ncl n)
  let d := defsF L I C c.2 (ndf n)
  ⟨i.1, c.1, d.1, (wholeF L C 10 6 d.2 I (nameF.take (ndf n))).1⟩

theorem u8wrap (a : Int) : 0 ≤ IntKind.u8.wrap a := by
  unfold IntKind.wrap
  have hb : IntKind.u8.bits = 8 := rfl
  have hsg : IntKind.u8.signed = false := rfl
  simp only [hb, hsg, Bool.false_and, Bool.false_eq_true, ↓reduceIte]
  omega

theorem nin_eq {n : Int} (h : 0 ≤ n) : nin n ≤ 3 ∧ IntKind.i64.wrap (1 + IntKind.i64.wrap (n.tmod 3)) = (nin n : Int) := by
  have hm0 : 0 ≤ n.tmod 3 := Int.tmod_nonneg _ h
  have hm1 : n.tmod 3 < 3 := Int.tmod_lt_of_pos _ (by omega)
  unfold nin
  rw [wrapId (a := n.tmod 3) ⟨by omega, by omega⟩, wrapId ⟨by omega, by omega⟩]
  omega
theorem ncl_eq (n : Int) : ncl n ≤ 3 ∧ IntKind.i64.wrap ((IntKind.u8.wrap (n.tdiv 3)).tmod 4) = (ncl n : Int) := by
  have hm0 := Int.tmod_nonneg 4 (u8wrap (n.tdiv 3))
  have hm1 : (IntKind.u8.wrap (n.tdiv 3)).tmod 4 < 4 := Int.tmod_lt_of_pos _ (by omega)
  unfold ncl
  rw [wrapId ⟨by omega, by omega⟩]
  omega
theorem ndf_eq (n : Int) : ndf n ≤ 2 ∧ IntKind.i64.wrap ((IntKind.u8.wrap (n.tdiv 12)).tmod 3) = (ndf n : Int) := by
  have hm0 := Int.tmod_nonneg 3 (u8wrap (n.tdiv 12))
  have hm1 : (IntKind.u8.wrap (n.tdiv 12)).tmod 3 < 3 := Int.tmod_lt_of_pos _ (by omega)
  unfold ndf
  rw [wrapId ⟨by omega, by omega⟩]
  omega

/-- The lattices. -/
def latsL : List (List PV) := [
  [.vec [[.str [80]]] true, .vec [[.int .u64 1]] true],
  [.vec [[.str [76, 111]], [.str [72, 105]]] true, .vec [[.int .u64 3], [.int .u64 2]] true],
  [.vec [[.str [72, 105]], [.str [76, 111]]] true, .vec [[.int .u64 1], [.int .u64 3]] true],
  [.vec [[.str [76]], [.str [65]], [.str [66]], [.str [72]]] true, .vec [[.int .u64 15], [.int .u64 10], [.int .u64 12], [.int .u64 8]] true],
  [.vec [[.str [76]], [.str [77]], [.str [72]]] true, .vec [[.int .u64 7], [.int .u64 6], [.int .u64 4]] true],
  [.vec [[.str [76]], [.str [65]], [.str [66]], [.str [67]], [.str [72]]] true, .vec [[.int .u64 31], [.int .u64 18], [.int .u64 20], [.int .u64 24], [.int .u64 16]] true]]

/-- lats -/
theorem c11 (Γ : Nat → PV) : Gives Tryd.prog Γ 11 [] (.vec latsL true) := by
  refine fn_of_awp Tryd.func11 rfl (by simp [Tryd.f11]) rfl fun H => ?_
  refine awp_seq ?_
  -- region 0
  refine awp_run rfl (by simp only [fw0, fw1, fw2, fw3, fw4, fw5, fw6, fw7, ↓reduceIte, Nat.reduceAdd, Nat.reduceMul, Nat.reduceEqDiff, Nat.reduceLT, Nat.reduceLeDiff, reduceCtorEq, Bool.false_eq_true, Bool.not_true, Bool.not_false, and_self, Nat.le_refl] <;> rfl) ?_
  refine awp_seq ?_
  -- region 1
  refine awp_run rfl (by simp only [fw0, fw1, fw2, fw3, fw4, fw5, fw6, fw7, ↓reduceIte, Nat.reduceAdd, Nat.reduceMul, Nat.reduceEqDiff, Nat.reduceLT, Nat.reduceLeDiff, reduceCtorEq, Bool.false_eq_true, Bool.not_true, Bool.not_false, and_self, Nat.le_refl, un33, un34, un37, ti9, ti36, pl36, ti93] <;> rfl) ?_
  refine awp_ret ?_
  refine gives_end0 (.inl rfl) ?_
  rfl

theorem c33turn (Γ : Nat → PV) {H : List Blk} {b : Nat} (hb : b < H.length) {L : List Int} (hL : U8s L) (Ls : List Blk) (a : Nat) (I C F : PV) :
    ∀ H2 : List Blk, b < H2.length → H2[b]? = (Bp H b (mk5 L a I C F) ++ Ls)[b]? → ACalls Tryd.prog Γ 33 [.ptr b 0] H2 (fun q H1 => q = .int .i64 (byteF L a).1 ∧ H1 = H2.set b (.box (mk5 L (byteF L a).2 I C F))) := fun H2 k1 k2 => by
  have := c33 Γ (H := H2) k1 hL a I C F
  rw [Bp_get hb] at k2
  rwa [Bp_self k2] at this

end Go.Proofs.YtnjlfbefpoecpaaDoor

/- The contract of what makes a program of bytes. -/
namespace Go.Proofs.YtnjlfbefpoecpaaDoor
set_option linter.unusedVariables false
set_option linter.unusedSimpArgs false
set_option maxRecDepth 100000
open Go.RowKit Fw

theorem lbl_at {L : List Int} (hL : U8s L) {nm : Names} (hnm : 0 < nm.length) (a : Nat) : ∃ i : Nat, i < nm.length ∧ (byteF L a).1.tmod nm.length = i ∧ nm[i]? = some (lblF L nm a).1 := by
  have hk := byteF_range hL a
  have hm0 : 0 ≤ (byteF L a).1.tmod nm.length := Int.tmod_nonneg _ hk.1
  have hm1 : (byteF L a).1.tmod nm.length < nm.length := Int.tmod_lt_of_pos _ (by omega)
  obtain ⟨i, hi⟩ : ∃ i : Nat, (byteF L a).1.tmod nm.length = i := ⟨_, (Int.toNat_of_nonneg hm0).symm⟩
  have hil : i < nm.length := by omega
  refine ⟨i, hil, hi, ?_⟩
  unfold lblF
  rw [hi, Int.toNat_natCast, List.getD_eq_getElem?_getD, List.getElem?_eq_getElem hil]
  rfl

theorem insF_len (L : List Int) (nm : Names) (i : Nat) : (insF L nm i).1.length = i := by
  induction i with
  | zero => rfl
  | succ i ih => simp [insF, ih]
theorem cellsF_len (L : List Int) (nm : Names) (a i : Nat) : (cellsF L nm a i).1.length = i := by
  induction i with
  | zero => rfl
  | succ i ih => simp [cellsF, ih]
theorem defsF_len (L : List Int) (I C : Names) (a i : Nat) : (defsF L I C a i).1.length = i := by
  induction i with
  | zero => rfl
  | succ i ih => simp [defsF, ih]
theorem insF_succ (L : List Int) (nm : Names) (i : Nat) : insF L nm (i + 1) = ((insF L nm i).1 ++ [⟨nameI.getD i [], (lblF L nm (insF L nm i).2).1, 0⟩], (lblF L nm (insF L nm i).2).2) := rfl
theorem cellsF_succ (L : List Int) (nm : Names) (a0 i : Nat) : cellsF L nm a0 (i + 1) = ((cellsF L nm a0 i).1 ++ [⟨nameC.getD i [], (lblF L nm (cellsF L nm a0 i).2).1, i⟩], (lblF L nm (cellsF L nm a0 i).2).2) := rfl
theorem defsF_succ (L : List Int) (I C : Names) (a0 i : Nat) : defsF L I C a0 (i + 1) = ((defsF L I C a0 i).1 ++ [⟨nameF.getD i [], (funF L (wholeF L C 10) 4 (defsF L I C a0 i).2 I (nameF.take i)).1⟩], (funF L (wholeF L C 10) 4 (defsF L I C a0 i).2 I (nameF.take i)).2) := rfl
theorem take_s (l : Names) {i : Nat} (h : i < l.length) : l.take (i + 1) = l.take i ++ [l.getD i []] := by
  rw [List.take_add_one, List.getElem?_eq_getElem h, List.getD_eq_getElem?_getD, List.getElem?_eq_getElem h]; rfl
theorem flat_S1 (l : Names) (s : List UInt8) : ((l ++ [s]).map S1).flatten = (l.map S1).flatten ++ [.str s] := by simp [S1]
theorem flat_D (l : List Dl) (d : Dl) : ((l ++ [d]).map Dl.enc).flatten = (l.map Dl.enc).flatten ++ d.enc := by simp
theorem flat_F (l : List Df) (d : Df) : ((l ++ [d]).map Df.enc).flatten = (l.map Df.enc).flatten ++ d.enc := by simp
theorem nameI_at {i : Nat} (h : i < 3) : ([[.str [97]], [.str [98]], [.str [104]]] : List (List PV))[i]? = some [.str (nameI.getD i [])] := by
  have : i = 0 ∨ i = 1 ∨ i = 2 := by omega
  rcases this with rfl | rfl | rfl <;> rfl
theorem nameC_at {i : Nat} (h : i < 3) : ([[.str [99]], [.str [100]], [.str [101]]] : List (List PV))[i]? = some [.str (nameC.getD i [])] := by
  have : i = 0 ∨ i = 1 ∨ i = 2 := by omega
  rcases this with rfl | rfl | rfl <;> rfl
theorem nameF_at {i : Nat} (h : i < 2) : ([[.str [102]], [.str [103]]] : List (List PV))[i]? = some [.str (nameF.getD i [])] := by
  have : i = 0 ∨ i = 1 := by omega
  rcases this with rfl | rfl <;> rfl

theorem MkC.at2 {Γ : Nat → PV} {fn : Nat} {L : List Int} {C : Names} {ok : Int → Prop} {W : WF} (h : MkC Γ fn L C ok W) {H : List Blk} {b : Nat} (hb : b < H.length) (Ls : List Blk) (a : Nat) (I F : Names) (d : Int) {ff : PV} (hN : NmB (H ++ Ls) b ff F) (h1 : ok d) (h2 : -10 ≤ d) (h3 : d ≤ 100) (h4 : I.length + (d + 1).toNat ≤ 1000) (h5 : F.length + (d + 1).toNat ≤ 1000) :
    ACalls Tryd.prog Γ fn [.ptr b 0, .int .i64 d] (Bp H b (mk5 L a (sv I) (sv C) ff) ++ Ls) (fun p H' => p = .agg (W d a I F).1.enc ∧ H' = Bp H b (mk5 L (W d a I F).2 (sv I) (sv C) ff) ++ Ls) := by
  have := h (H ++ Ls) b a I F d ff (by rw [List.length_append]; omega) hN h1 h2 h3 h4 h5
  rw [Bp_app hb] at this
  exact this.mono fun p H' hq => ⟨hq.1, by rw [hq.2, Bp_app hb]⟩

/-- A call in a drawn region that leaves the blocks that are looked upon. -/
theorem dops_callM {P : Program} {Γ : Nat → PV} {ops : Array Oper} {cls : List Nat} {n0 : View} {K : List (Nat × PV) → List Blk → Prop} {i : Nat} {o : Oper} {rest : List (Nat × Oper)} {A : List (Nat × PV)} {H H' : List Blk} {x : Operand} {args : Array Operand} {ts : Array TypeId} {f : FuncId} {fs cs : List PV} {p : PV}
    (ho : o.op = .call { callee := .value x, args := args, argTypes := ts }) (hw : wantA ops A o = some true) (hc : cls.getD i 0 = 3) (hx : ev Γ A x = .func (.func f) fs cs) (he : Enters P f)
    (h : ACalls P Γ f (fs ++ args.toList.map (ev Γ A) ++ cs) H (fun q H1 => q = p ∧ H1 = H')) (hv : n0.vw H' = n0.vw H) (hk : DOps P Γ ops cls n0 K rest (aput A o.dst p) H') : DOps P Γ ops cls n0 K ((i, o) :: rest) A H :=
  dops_makes _ hw hc hv (fun A' hev => by
    have hops : ∀ y, y = x ∨ y ∈ args → ev Γ A' y = ev Γ A y := fun y hy => hev y (by
      rw [ho]
      simp only [Op.operands, Call.operands, Array.mem_append]
      rcases hy with rfl | hy
      · exact .inl (by simp)
      · exact .inr hy)
    refine os_call ho (by rw [hops x (.inl rfl)]; exact hx) he ?_
    rw [List.map_congr_left (l := args.toList) fun y hy => hops y (.inr (by simpa using hy))]
    exact h) hk
theorem vw_mk {H : List Blk} {b n : Nat} (hb : b < H.length) (cs cs' : List PV) (L : List Blk) : View.vw ⟨n, some b⟩ (Bp H b cs ++ L) = View.vw ⟨n, some b⟩ (Bp H b cs' ++ L) := by
  show ((Bp H b cs ++ L).take n).set b .dead = ((Bp H b cs' ++ L).take n).set b .dead
  rw [← List.take_set, ← List.take_set, Bp_setd hb, Bp_setd hb]
theorem row_nmB {H Ls : List Blk} {b j : Nat} {F : Names} (hb : b < H.length) (hj : Ls[j]? = some (.row 1 ((F.map S1).flatten))) {m : Nat} (hm : F.length = m) : NmB (H ++ Ls) b (.row (H.length + j) 0 m 1) F :=
  .inr ⟨H.length + j, by omega, by rw [hm], by rw [Fw.get_at]; exact hj⟩

theorem frz_ne {b b' q k sz s : Nat} {X : List PV} (h : b' ≠ b) : frz b sz X (.row b' q k s) = .row b' q k s := by
  unfold frz
  dsimp only
  rw [if_neg (fun e => h e.1)]
theorem frz_tm (b sz : Nat) (X : List PV) (t : Tm) : t.enc.map (frz b sz X) = t.enc := by rw [Tm.enc_eq]; rfl

def zP : List PV := [.vec [] true, .vec [] true, .vec [] true, .int .i64 0, .str [], .int .i64 0, .vec [] true]
abbrev nl : PV := .vec [] true
theorem Dl.enc_len (d : Dl) : d.enc.length = 3 := rfl
theorem Df.enc_len (d : Df) : d.enc.length = 5 := by simp only [Df.fw]
theorem Bd_at0 (H : List Blk) (b : Nat) (B : Blk) (L : List Blk) : (H.set b B ++ L)[H.length]? = L[0]? := Bd_at H b B L 0

/-- well -/
theorem c10 (Γ : Nat → PV) (nm : Names) (hnm : 0 < nm.length) (hnm2 : nm.length ≤ 1000) (l : List Int) (hl : ∀ x ∈ l, 0 ≤ x ∧ x < 256) (n : Int) (hn0 : 0 ≤ n) (hn1 : n < 256) :
    Gives Tryd.prog Γ 10 [sv nm, .vec (l.map fun n => [.int .u8 n]) false, .int .u8 n] (.agg (wellF nm l n).enc) := by
  refine fn_of_awp Tryd.func10 rfl (by simp [Tryd.f10]) (by simp [PV.plain, PV.bd, Pg.fw]) fun H => ?_
  refine awp_bd fun hbdH => ?_
  refine awp_vlen 1 rfl fun hlen => ?_
  rw [List.length_map] at hlen
  refine awp_seq ?_
  -- region 0
  refine awp_run rfl (by simp only [fw0, fw1, fw2, fw3, fw4, fw5, fw6, fw7, ↓reduceIte, Nat.reduceAdd, Nat.reduceMul, Nat.reduceEqDiff, Nat.reduceLT, Nat.reduceLeDiff, reduceCtorEq, Bool.false_eq_true, Bool.not_true, Bool.not_false, and_self, Nat.le_refl, ti31] <;> rfl) ?_
  refine awp_seq ?_
  -- region 1
  have hcap : (if (90 : Int) < (l.length : Int) then (90 : Int) else (l.length : Int)) = ((min l.length 90 : Nat) : Int) := by split <;> omega
  have hcap' : (if (l.length : Int) < 90 then (l.length : Int) else (90 : Int)) = ((min l.length 90 : Nat) : Int) := by split <;> omega
  refine awp_region rfl ?_
  refine aops_run 3 (by simp only [fw0, fw1, fw2, fw3, fw4, fw5, fw6, fw7, ↓reduceIte, Nat.reduceAdd, Nat.reduceMul, Nat.reduceEqDiff, Nat.reduceLT, Nat.reduceLeDiff, reduceCtorEq, Bool.false_eq_true, Bool.not_true, Bool.not_false, and_self, Nat.le_refl, un22, List.length_map] <;> rfl) ?_
  refine aops_one rfl (os_min rfl rfl rfl ?_)
  simp only [hcap, hcap']
  refine aops_one rfl (os_sliceVec (l := 0) (h := min l.length 90) rfl el22 rfl (fun e he => by obtain ⟨x, _, rfl⟩ := List.mem_map.1 he; rfl) rfl ⟨_, rfl⟩ trivial (Nat.zero_le _) (by rw [List.length_map]; omega) ?_)
  have hL90 : ((l.map fun n => [PV.int .u8 n]).drop 0).take (min l.length 90 - 0) = (l.take 90).map fun n => [PV.int .u8 n] := by
    rw [List.drop_zero, Nat.sub_zero, List.map_take]
    rcases Nat.le_total l.length 90 with h | h
    · rw [Nat.min_eq_left h, List.take_of_length_le (by simp), List.take_of_length_le (by simpa using h)]
    · rw [Nat.min_eq_right h]
  simp only [hL90, Option.isSome_none]
  have hL : U8s (l.take 90) := ⟨by rw [List.length_take]; omega, fun x hx => hl x (List.mem_of_mem_take hx)⟩
  unfold wellF
  generalize l.take 90 = L at hL ⊢
  refine aops_run 3 (by simp only [fw0, fw1, fw2, fw3, fw4, fw5, fw6, fw7, ↓reduceIte, Nat.reduceAdd, Nat.reduceMul, Nat.reduceEqDiff, Nat.reduceLT, Nat.reduceLeDiff, reduceCtorEq, Bool.false_eq_true, Bool.not_true, Bool.not_false, and_self, Nat.le_refl, pl59, ti59] <;> rfl) ?_
  refine awp_seq ?_
  -- region 2
  refine awp_run rfl (by simp only [fw0, fw1, fw2, fw3, fw4, fw5, fw6, fw7, ↓reduceIte, Nat.reduceAdd, Nat.reduceMul, Nat.reduceEqDiff, Nat.reduceLT, Nat.reduceLeDiff, reduceCtorEq, Bool.false_eq_true, Bool.not_true, Bool.not_false, and_self, Nat.le_refl, ti31] <;> rfl) ?_
  generalize hH1 : H ++ [Blk.box zP, .box []] = H1
  have hl1 : H1.length = H.length + 2 := by rw [← hH1]; simp
  have hb : H.length + 1 < H1.length := by omega
  have hB : ∀ cs, Bp H1 (H.length + 1) cs = H ++ [.box zP, .box cs] := fun cs => by
    rw [← hH1]; unfold Bp; rw [Fw.set_at]; rfl
  generalize hbb : H.length + 1 = b at hb hB
  refine awp_keep (A' := [(0, sv nm), (2, .int .u8 n), (6, .ptr H.length 0), (7, .ptr b 0), (8, .ptr H1.length 0)]) [0, 2, 6, 7, 8] (by simp [akeep, alook, hl1, ← hbb]) ?_
  refine awp_heap (H' := Bp H1 b (mk5 L 0 nl nl nl) ++ [.box zP]) (by rw [hB]; simp [mk5, zP]) ?_

  have hbdB : ∀ cs Ls, PV.bdL (H.length + 2 + Ls.length) cs = true → (Ls.all fun B => B.bd (H.length + 2 + Ls.length)) = true → ∀ B ∈ Bp H1 b cs ++ Ls, B.bd (Bp H1 b cs ++ Ls).length = true := fun cs Ls h1 h2 => by
    have e : Bp H1 b cs ++ Ls = H ++ (Blk.box zP :: .box cs :: Ls) := by rw [hB]; simp
    have el : (H ++ (Blk.box zP :: .box cs :: Ls)).length = H.length + 2 + Ls.length := by simp only [List.length_append, List.length_cons]; omega
    rw [e]
    refine bd_app hbdH ?_
    rw [el]
    simp only [List.all_cons, Bool.and_eq_true]
    exact ⟨rfl, h1, h2⟩
  obtain ⟨hin3, hinw⟩ := nin_eq hn0
  obtain ⟨hcl3, hclw⟩ := ncl_eq n
  obtain ⟨hdf2, hdfw⟩ := ndf_eq n
  generalize nin n = ni at hin3 hinw ⊢
  generalize ncl n = nc at hcl3 hclw ⊢
  generalize ndf n = nd at hdf2 hdfw ⊢
  refine awp_told (told_adoptBox b 2 1 (by decide) (by rw [Bp_get hb]) rfl) ?_
  refine awp_heap (H' := Bp H1 b (mk5 L 0 (.row (H1.length + 1) 0 0 1) nl nl) ++ [.box (zP), .row 1 []]) (by rw [Bp_set hb]; simp [Bp_len, mk5]) ?_
  refine awp_told (told_adoptBox H1.length 0 3 (by decide) (by rw [Bp_at0]; rfl) rfl) ?_
  refine awp_heap (H' := Bp H1 b (mk5 L 0 (.row (H1.length + 1) 0 0 1) nl nl) ++ [.box ([.row (H1.length + 2) 0 0 3, nl, nl, .int .i64 0, .str [], .int .i64 0, nl]), .row 1 [], .row 3 []]) (by rw [Bp_seta0]; simp [Bp_len, zP]) ?_
  refine awp_seq ?_
  refine awp_seq ?_
  -- a counter
  refine awp_run rfl (by simp only [fw0, fw1, fw2, fw3, fw4, fw5, fw6, fw7, ↓reduceIte, Nat.reduceAdd, Nat.reduceMul, Nat.reduceEqDiff, Nat.reduceLT, Nat.reduceLeDiff, reduceCtorEq, Bool.false_eq_true, Bool.not_true, Bool.not_false, and_self, Nat.le_refl] <;> rfl) ?_
  refine awp_block ?_
  refine awp_forG [0, 2, 6, 7, 8, 9] (fun i : Nat => [sv nm, .int .u8 n, .ptr H.length 0, .ptr b 0, .ptr H1.length 0, .int .i64 i])
    (fun i => Bp H1 b (mk5 L (insF L nm i).2 (.row (H1.length + 1) 0 i 1) nl nl) ++ [.box ([.row (H1.length + 2) 0 i 3, nl, nl, .int .i64 0, .str [], .int .i64 0, nl]), .row 1 (((nameI.take i).map S1).flatten), .row 3 (((insF L nm i).1.map Dl.enc).flatten)]) (fun i => ni - i) (fun i => i ≤ ni) 0 (by simp [alook, aput, ev]) (by simp [insF]) (Nat.zero_le _) (fun i _ => ⟨hbdB _ _ (by
      simp only [mk5, PV.bdL, PV.bd, sv_bd, Bool.and_true, Bool.true_and, decide_eq_true_eq, List.length_cons, List.length_nil]
      first | done | omega) (by
      simp only [List.all_cons, List.all_nil, List.length_cons, List.length_nil, Blk.bd, PV.bdL, PV.bd, flat_bd (enc := S1) (fun _ => rfl), flat_bd (enc := Dl.enc) (fun _ => Dl.fw.2.2.2.2.2 _ _), flat_bd (enc := Df.enc) (fun _ => Df.fw.2.2.2.2 _ _), Bool.and_true, Bool.true_and, Bool.and_eq_true, decide_eq_true_eq]
      omega), by simp [PV.bdL, PV.bd, sv_bd, Bp_len]; omega⟩) (fun i _ b hb => by cases hb) fun i hi => ?_
  refine awp_seq ?_
  refine awp_seq ?_
  -- the condition
  refine awp_run rfl (by simp only [fw0, fw1, fw2, fw3, fw4, fw5, fw6, fw7, ↓reduceIte, Nat.reduceAdd, Nat.reduceMul, Nat.reduceEqDiff, Nat.reduceLT, Nat.reduceLeDiff, reduceCtorEq, Bool.false_eq_true, Bool.not_true, Bool.not_false, and_self, Nat.le_refl, un5, un3, ne_eq, Int.reduceEq, not_false_eq_true, hinw] <;> rfl) ?_
  refine awp_cond (by simp only [fw0, fw1, fw2, fw3, fw4, fw5, fw6, fw7, ↓reduceIte, Nat.reduceAdd, Nat.reduceMul, Nat.reduceEqDiff, Nat.reduceLT, Nat.reduceLeDiff, reduceCtorEq, Bool.false_eq_true, Bool.not_true, Bool.not_false, and_self, Nat.le_refl] <;> rfl) ?_
  by_cases hc : (i : Int) < (ni : Int)
  rotate_left
  · simp only [hc, decide_false, Bool.false_eq_true, ↓reduceIte]
    refine awp_exit ?_
    have hie : i = ni := by omega
    subst hie
    simp only [Post.block, Post.then, ↓reduceIte]
    refine awp_keep (A' := [(0, sv nm), (2, .int .u8 n), (6, .ptr H.length 0), (7, .ptr b 0), (8, .ptr H1.length 0)]) [0, 2, 6, 7, 8] rfl ?_
    have htI : (nameI.take i).length = i := by rw [List.length_take, show nameI.length = 3 from rfl]; omega
    refine awp_told (told_mk hb (cs' := mk5 L (insF L nm i).2 (sv (nameI.take i)) nl nl) 1 rfl (flat_bd (fun _ => rfl) _) (by rw [mk5, mk5, ← frz_sv (H1.length + 1) (nameI.take i), htI]; rfl) rfl) ?_
    refine awp_heap (H' := Bp H1 b (mk5 L (insF L nm i).2 (sv (nameI.take i)) nl nl) ++ [.box [.row (H1.length + 2) 0 i 3, nl, nl, .int .i64 0, .str [], .int .i64 0, nl], .dead, .row 3 (((insF L nm i).1.map Dl.enc).flatten)]) rfl ?_
    refine awp_told (told_adoptBox b 3 1 (by decide) (by rw [Bp_get hb]) rfl) ?_
    refine awp_heap (H' := Bp H1 b (mk5 L (insF L nm i).2 (sv (nameI.take i)) (.row (H1.length + 3) 0 0 1) nl) ++ [.box ([.row (H1.length + 2) 0 i 3, nl, nl, .int .i64 0, .str [], .int .i64 0, nl]), .dead, .row 3 (((insF L nm i).1.map Dl.enc).flatten), .row 1 []]) (by rw [Bp_set hb]; simp [Bp_len, mk5]) ?_
    refine awp_told (told_adoptBox H1.length 1 3 (by decide) (by rw [Bp_at0]; rfl) rfl) ?_
    refine awp_heap (H' := Bp H1 b (mk5 L (insF L nm i).2 (sv (nameI.take i)) (.row (H1.length + 3) 0 0 1) nl) ++ [.box ([.row (H1.length + 2) 0 i 3, .row (H1.length + 4) 0 0 3, nl, .int .i64 0, .str [], .int .i64 0, nl]), .dead, .row 3 (((insF L nm i).1.map Dl.enc).flatten), .row 1 [], .row 3 []]) (by rw [Bp_seta0]; simp [Bp_len, zP]) ?_
    generalize i = ni at *
    refine awp_seq ?_
    refine awp_seq ?_
    -- a counter
    refine awp_run rfl (by simp only [fw0, fw1, fw2, fw3, fw4, fw5, fw6, fw7, ↓reduceIte, Nat.reduceAdd, Nat.reduceMul, Nat.reduceEqDiff, Nat.reduceLT, Nat.reduceLeDiff, reduceCtorEq, Bool.false_eq_true, Bool.not_true, Bool.not_false, and_self, Nat.le_refl] <;> rfl) ?_
    refine awp_block ?_
    refine awp_forG [0, 2, 6, 7, 8, 11] (fun i : Nat => [sv nm, .int .u8 n, .ptr H.length 0, .ptr b 0, .ptr H1.length 0, .int .i64 i])
      (fun i => Bp H1 b (mk5 L (cellsF L nm (insF L nm ni).2 i).2 (sv (nameI.take ni)) (.row (H1.length + 3) 0 i 1) nl) ++ [.box ([.row (H1.length + 2) 0 ni 3, .row (H1.length + 4) 0 i 3, nl, .int .i64 0, .str [], .int .i64 0, nl]), .dead, .row 3 (((insF L nm ni).1.map Dl.enc).flatten), .row 1 (((nameC.take i).map S1).flatten), .row 3 (((cellsF L nm (insF L nm ni).2 i).1.map Dl.enc).flatten)]) (fun i => nc - i) (fun i => i ≤ nc) 0 (by simp [alook, aput, ev]) (by simp [cellsF]) (Nat.zero_le _) (fun i _ => ⟨hbdB _ _ (by
        simp only [mk5, PV.bdL, PV.bd, sv_bd, Bool.and_true, Bool.true_and, decide_eq_true_eq, List.length_cons, List.length_nil]
        first | done | omega) (by
        simp only [List.all_cons, List.all_nil, List.length_cons, List.length_nil, Blk.bd, PV.bdL, PV.bd, flat_bd (enc := S1) (fun _ => rfl), flat_bd (enc := Dl.enc) (fun _ => Dl.fw.2.2.2.2.2 _ _), flat_bd (enc := Df.enc) (fun _ => Df.fw.2.2.2.2 _ _), Bool.and_true, Bool.true_and, Bool.and_eq_true, decide_eq_true_eq]
        omega), by simp [PV.bdL, PV.bd, sv_bd, Bp_len]; omega⟩) (fun i _ b hb => by cases hb) fun i hi => ?_
    refine awp_seq ?_
    refine awp_seq ?_
    -- the condition
    refine awp_run rfl (by simp only [fw0, fw1, fw2, fw3, fw4, fw5, fw6, fw7, ↓reduceIte, Nat.reduceAdd, Nat.reduceMul, Nat.reduceEqDiff, Nat.reduceLT, Nat.reduceLeDiff, reduceCtorEq, Bool.false_eq_true, Bool.not_true, Bool.not_false, and_self, Nat.le_refl, un5, un3, ne_eq, Int.reduceEq, not_false_eq_true, hclw] <;> rfl) ?_
    refine awp_cond (by simp only [fw0, fw1, fw2, fw3, fw4, fw5, fw6, fw7, ↓reduceIte, Nat.reduceAdd, Nat.reduceMul, Nat.reduceEqDiff, Nat.reduceLT, Nat.reduceLeDiff, reduceCtorEq, Bool.false_eq_true, Bool.not_true, Bool.not_false, and_self, Nat.le_refl] <;> rfl) ?_
    by_cases hc : (i : Int) < (nc : Int)
    rotate_left
    · simp only [hc, decide_false, Bool.false_eq_true, ↓reduceIte]
      refine awp_exit ?_
      have hie : i = nc := by omega
      subst hie
      simp only [Post.block, Post.then, ↓reduceIte]
      refine awp_keep (A' := [(2, .int .u8 n), (6, .ptr H.length 0), (7, .ptr b 0), (8, .ptr H1.length 0)]) [2, 6, 7, 8] rfl ?_
      have htC : (nameC.take i).length = i := by rw [List.length_take, show nameC.length = 3 from rfl]; omega
      refine awp_told (told_mk hb (cs' := mk5 L (cellsF L nm (insF L nm ni).2 i).2 (sv (nameI.take ni)) (sv (nameC.take i)) nl) 3 rfl (flat_bd (fun _ => rfl) _) (by rw [mk5, mk5, ← frz_sv (H1.length + 3) (nameC.take i), htC]; rfl) rfl) ?_
      refine awp_heap (H' := Bp H1 b (mk5 L (cellsF L nm (insF L nm ni).2 i).2 (sv (nameI.take ni)) (sv (nameC.take i)) nl) ++ [.box [.row (H1.length + 2) 0 ni 3, .row (H1.length + 4) 0 i 3, nl, .int .i64 0, .str [], .int .i64 0, nl], .dead, .row 3 (((insF L nm ni).1.map Dl.enc).flatten), .dead, .row 3 (((cellsF L nm (insF L nm ni).2 i).1.map Dl.enc).flatten)]) rfl ?_
      refine awp_told (told_adoptBox b 4 1 (by decide) (by rw [Bp_get hb]) rfl) ?_
      refine awp_heap (H' := Bp H1 b (mk5 L (cellsF L nm (insF L nm ni).2 i).2 (sv (nameI.take ni)) (sv (nameC.take i)) (.row (H1.length + 5) 0 0 1)) ++ [.box ([.row (H1.length + 2) 0 ni 3, .row (H1.length + 4) 0 i 3, nl, .int .i64 0, .str [], .int .i64 0, nl]), .dead, .row 3 (((insF L nm ni).1.map Dl.enc).flatten), .dead, .row 3 (((cellsF L nm (insF L nm ni).2 i).1.map Dl.enc).flatten), .row 1 []]) (by rw [Bp_set hb]; simp [Bp_len, mk5]) ?_
      refine awp_told (told_adoptBox H1.length 2 5 (by decide) (by rw [Bp_at0]; rfl) rfl) ?_
      refine awp_heap (H' := Bp H1 b (mk5 L (cellsF L nm (insF L nm ni).2 i).2 (sv (nameI.take ni)) (sv (nameC.take i)) (.row (H1.length + 5) 0 0 1)) ++ [.box ([.row (H1.length + 2) 0 ni 3, .row (H1.length + 4) 0 i 3, .row (H1.length + 6) 0 0 5, .int .i64 0, .str [], .int .i64 0, nl]), .dead, .row 3 (((insF L nm ni).1.map Dl.enc).flatten), .dead, .row 3 (((cellsF L nm (insF L nm ni).2 i).1.map Dl.enc).flatten), .row 1 [], .row 5 []]) (by rw [Bp_seta0]; simp [Bp_len, zP]) ?_
      generalize i = nc at *
      refine awp_seq ?_
      refine awp_seq ?_
      -- a counter
      refine awp_run rfl (by simp only [fw0, fw1, fw2, fw3, fw4, fw5, fw6, fw7, ↓reduceIte, Nat.reduceAdd, Nat.reduceMul, Nat.reduceEqDiff, Nat.reduceLT, Nat.reduceLeDiff, reduceCtorEq, Bool.false_eq_true, Bool.not_true, Bool.not_false, and_self, Nat.le_refl] <;> rfl) ?_
      refine awp_block ?_
      refine awp_forG [2, 6, 7, 8, 13] (fun i : Nat => [.int .u8 n, .ptr H.length 0, .ptr b 0, .ptr H1.length 0, .int .i64 i])
        (fun i => Bp H1 b (mk5 L (defsF L (nameI.take ni) (nameC.take nc) (cellsF L nm (insF L nm ni).2 nc).2 i).2 (sv (nameI.take ni)) (sv (nameC.take nc)) (.row (H1.length + 5) 0 i 1)) ++ [.box ([.row (H1.length + 2) 0 ni 3, .row (H1.length + 4) 0 nc 3, .row (H1.length + 6) 0 i 5, .int .i64 0, .str [], .int .i64 0, nl]), .dead, .row 3 (((insF L nm ni).1.map Dl.enc).flatten), .dead, .row 3 (((cellsF L nm (insF L nm ni).2 nc).1.map Dl.enc).flatten), .row 1 (((nameF.take i).map S1).flatten), .row 5 (((defsF L (nameI.take ni) (nameC.take nc) (cellsF L nm (insF L nm ni).2 nc).2 i).1.map Df.enc).flatten)]) (fun i => nd - i) (fun i => i ≤ nd) 0 (by simp [alook, aput, ev]) (by simp [defsF]) (Nat.zero_le _) (fun i _ => ⟨hbdB _ _ (by
          simp only [mk5, PV.bdL, PV.bd, sv_bd, Bool.and_true, Bool.true_and, decide_eq_true_eq, List.length_cons, List.length_nil]
          first | done | omega) (by
          simp only [List.all_cons, List.all_nil, List.length_cons, List.length_nil, Blk.bd, PV.bdL, PV.bd, flat_bd (enc := S1) (fun _ => rfl), flat_bd (enc := Dl.enc) (fun _ => Dl.fw.2.2.2.2.2 _ _), flat_bd (enc := Df.enc) (fun _ => Df.fw.2.2.2.2 _ _), Bool.and_true, Bool.true_and, Bool.and_eq_true, decide_eq_true_eq]
          omega), by simp [PV.bdL, PV.bd, sv_bd, Bp_len]; omega⟩) (fun i _ b hb => by cases hb) fun i hi => ?_
      refine awp_seq ?_
      refine awp_seq ?_
      -- the condition
      refine awp_run rfl (by simp only [fw0, fw1, fw2, fw3, fw4, fw5, fw6, fw7, ↓reduceIte, Nat.reduceAdd, Nat.reduceMul, Nat.reduceEqDiff, Nat.reduceLT, Nat.reduceLeDiff, reduceCtorEq, Bool.false_eq_true, Bool.not_true, Bool.not_false, and_self, Nat.le_refl, un5, un3, ne_eq, Int.reduceEq, not_false_eq_true, hdfw] <;> rfl) ?_
      refine awp_cond (by simp only [fw0, fw1, fw2, fw3, fw4, fw5, fw6, fw7, ↓reduceIte, Nat.reduceAdd, Nat.reduceMul, Nat.reduceEqDiff, Nat.reduceLT, Nat.reduceLeDiff, reduceCtorEq, Bool.false_eq_true, Bool.not_true, Bool.not_false, and_self, Nat.le_refl] <;> rfl) ?_
      by_cases hc : (i : Int) < (nd : Int)
      rotate_left
      · simp only [hc, decide_false, Bool.false_eq_true, ↓reduceIte]
        refine awp_exit ?_
        have hie : i = nd := by omega
        subst hie
        simp only [Post.block, Post.then, ↓reduceIte]
        refine awp_keep (A' := [(6, .ptr H.length 0), (7, .ptr b 0), (8, .ptr H1.length 0)]) [6, 7, 8] rfl ?_
        have htF : (nameF.take i).length = i := by rw [List.length_take, show nameF.length = 2 from rfl]; omega
        refine awp_seq ?_
        -- region 21
        refine awp_region rfl ?_
        refine aops_run 1 (by simp only [fw0, fw1, fw2, fw3, fw4, fw5, fw6, fw7, ↓reduceIte, Nat.reduceAdd, Nat.reduceMul, Nat.reduceEqDiff, Nat.reduceLT, Nat.reduceLeDiff, reduceCtorEq, Bool.false_eq_true, Bool.not_true, Bool.not_false, and_self, Nat.le_refl] <;> rfl) ?_
        refine aops_call rfl rfl rfl en34 (((c34 Γ hL (nameC.take nc) 10).at2 hb _ _ (nameI.take ni) (nameF.take i) 6 (row_nmB (j := 5) hb rfl htF) (by decide) (by omega) (by omega) (by rw [List.length_take]; show _ + 7 ≤ 1000; omega) (by rw [htF]; show _ + 7 ≤ 1000; omega)).mono fun q H' hq => ?_)
        obtain ⟨rfl, rfl⟩ := hq
        generalize (wholeF L (nameC.take nc) 10 6 (defsF L (nameI.take ni) (nameC.take nc) (cellsF L nm (insF L nm ni).2 nc).2 i).2 (nameI.take ni) (nameF.take i)) = t
        obtain ⟨t, a9⟩ := t
        dsimp only
        refine aops_run 2 (by simp only [fw0, fw1, fw2, fw3, fw4, fw5, fw6, fw7, ↓reduceIte, Nat.reduceAdd, Nat.reduceMul, Nat.reduceEqDiff, Nat.reduceLT, Nat.reduceLeDiff, reduceCtorEq, Bool.false_eq_true, Bool.not_true, Bool.not_false, and_self, Nat.le_refl, fl31_3, ti29, Bp_at, Bp_at0, Bp_seta, Bp_seta0, Tm.fw, List.append_nil] <;> rfl) ?_
        have hil : (insF L nm ni).1.length = ni := insF_len L nm ni
        have hcll : (cellsF L nm (insF L nm ni).2 nc).1.length = nc := cellsF_len L nm _ nc
        have hdl : (defsF L (nameI.take ni) (nameC.take nc) (cellsF L nm (insF L nm ni).2 nc).2 i).1.length = i := defsF_len L _ _ _ i
        generalize (insF L nm ni).1 = ins at hil ⊢
        generalize (cellsF L nm (insF L nm ni).2 nc).1 = cel at hcll ⊢
        generalize (defsF L (nameI.take ni) (nameC.take nc) (cellsF L nm (insF L nm ni).2 nc).2 i).1 = dfs at hdl ⊢
        generalize hX : mk5 L a9 (sv (nameI.take ni)) (sv (nameC.take nc)) (.row (H1.length + 5) 0 i 1) = X
        have hHx : ∀ P Ls, Bp (Bp H1 b X ++ [Blk.box []]) H1.length P ++ Ls = Bp H1 b X ++ (.box P :: Ls) := fun P Ls => by
          unfold Bp
          rw [List.set_append_right _ _ (by simp)]
          simp
        have hxl : (Bp H1 b X ++ [Blk.box []]).length = H1.length + 1 := by simp [Bp_len]
        refine awp_keep (A' := [(6, .ptr H.length 0), (8, .ptr (H.length + 2) 0)]) [6, 8] (by simp [akeep, alook, hl1]) ?_
        have e2 : H1.length + 2 = (Bp H1 b X ++ [Blk.box []]).length + 1 := by omega
        have e4 : H1.length + 4 = (Bp H1 b X ++ [Blk.box []]).length + 3 := by omega
        have e6 : H1.length + 6 = (Bp H1 b X ++ [Blk.box []]).length + 5 := by omega
        have hbx : H1.length < (Bp H1 b X ++ [Blk.box []]).length := by omega
        refine awp_heap (H' := Bp (Bp H1 b X ++ [Blk.box []]) H1.length ([.row (H1.length + 2) 0 ni 3, .row (H1.length + 4) 0 nc 3, .row (H1.length + 6) 0 i 5] ++ t.enc) ++ [.dead, .row 3 ((ins.map Dl.enc).flatten), .dead, .row 3 ((cel.map Dl.enc).flatten), .row 1 (((nameF.take i).map S1).flatten), .row 5 ((dfs.map Df.enc).flatten)]) (by rw [hHx]; simp) ?_
        rw [e2, e4, e6]
        generalize hHH : Bp H1 b X ++ [Blk.box []] = Hx at hHx hxl hbx ⊢
        refine awp_told (told_mk hbx (cs' := [.vec (ins.map Dl.enc) false, .row (Hx.length + 3) 0 nc 3, .row (Hx.length + 5) 0 i 5] ++ t.enc) 1 rfl (flat_bd (enc := Dl.enc) (fun _ => Dl.fw.2.2.2.2.2 _ _) _) (by
          rw [List.map_append, frz_tm]
          simp only [List.map_cons, List.map_nil]
          rw [frz_row (by rw [flat_len Dl.enc_len, hil]), frz_ne (by omega), frz_ne (by omega), ← hil, flat_chunk Dl.enc_len]) rfl) ?_
        refine awp_told (told_mk hbx (cs' := [.vec (ins.map Dl.enc) false, .vec (cel.map Dl.enc) false, .row (Hx.length + 5) 0 i 5] ++ t.enc) 3 rfl (flat_bd (enc := Dl.enc) (fun _ => Dl.fw.2.2.2.2.2 _ _) _) (by
          rw [List.map_append, frz_tm]
          simp only [List.map_cons, List.map_nil]
          rw [frz_row (by rw [flat_len Dl.enc_len, hcll]), frz_ne (by omega), ← hcll, flat_chunk Dl.enc_len]; rfl) rfl) ?_
        refine awp_told (told_mk hbx (cs' := [.vec (ins.map Dl.enc) false, .vec (cel.map Dl.enc) false, .vec (dfs.map Df.enc) false] ++ t.enc) 5 rfl (flat_bd (enc := Df.enc) (fun _ => Df.fw.2.2.2.2 _ _) _) (by
          rw [List.map_append, frz_tm]
          simp only [List.map_cons, List.map_nil]
          rw [frz_row (by rw [flat_len Df.enc_len, hdl]), ← hdl, flat_chunk Df.enc_len]; rfl) rfl) ?_
        have hpe : ([.vec (ins.map Dl.enc) false, .vec (cel.map Dl.enc) false, .vec (dfs.map Df.enc) false] ++ t.enc : List PV) = (Pg.mk ins cel dfs t).enc := rfl
        rw [hpe]
        generalize Pg.mk ins cel dfs t = pg
        rw [hHx]
        rw [hB]
        refine awp_heap (H' := H ++ [.box zP, .box X, .box pg.enc, .dead, .dead, .dead, .dead, .row 1 (((nameF.take i).map S1).flatten), .dead]) (by simp) ?_
        refine awp_seq ?_
        -- region 22
        refine awp_run rfl (by simp only [fw0, fw1, fw2, fw3, fw4, fw5, fw6, fw7, ↓reduceIte, Nat.reduceAdd, Nat.reduceMul, Nat.reduceEqDiff, Nat.reduceLT, Nat.reduceLeDiff, reduceCtorEq, Bool.false_eq_true, Bool.not_true, Bool.not_false, and_self, Nat.le_refl, ti31, Pg.fw, zP] <;> rfl) ?_
        refine awp_ret ?_
        refine gives_end (.inl rfl) _ ?_
        simp [ares, aresL, ares1, rd, ev, alook, aput, Tryd.f10, ti31, Pg.fw]
      simp only [hc, decide_true, ↓reduceIte]
      refine awp_skip ?_
      refine awp_seq ?_
      refine awp_block ?_
      refine awp_seq ?_
      have hi3 : i < 2 := by omega
      have hnat := nameF_at hi3
      -- the name
      refine awp_run rfl (by simp only [fw0, fw1, fw2, fw3, fw4, fw5, fw6, fw7, ↓reduceIte, Nat.reduceAdd, Nat.reduceMul, Nat.reduceEqDiff, Nat.reduceLT, Nat.reduceLeDiff, reduceCtorEq, Bool.false_eq_true, Bool.not_true, Bool.not_false, and_self, Nat.le_refl, un33, ti9, el33, hnat, Int.natCast_nonneg, Bool.and_self] <;> rfl) ?_
      generalize hx : nameF.getD i [] = x
      refine awp_seq ?_
      -- drawn
      refine awp_drawnX (some b) [0, 4, 0, 0, 3, 0, 0, 2, 0, 2] [0, 1, 0, 0, 8, 28, 60, 127, 255, 511] mixed rfl (by kernel_rfl) ?_
      have hn : (Bp H1 b (mk5 L (defsF L (nameI.take ni) (nameC.take nc) (cellsF L nm (insF L nm ni).2 nc).2 i).2 (sv (nameI.take ni)) (sv (nameC.take nc)) (.row (H1.length + 5) 0 i 1)) ++ [Blk.box ([.row (H1.length + 2) 0 ni 3, .row (H1.length + 4) 0 nc 3, .row (H1.length + 6) 0 i 5, .int .i64 0, .str [], .int .i64 0, nl]), .dead, .row 3 (((insF L nm ni).1.map Dl.enc).flatten), .dead, .row 3 (((cellsF L nm (insF L nm ni).2 nc).1.map Dl.enc).flatten), .row 1 (((nameF.take i).map S1).flatten), .row 5 (((defsF L (nameI.take ni) (nameC.take nc) (cellsF L nm (insF L nm ni).2 nc).2 i).1.map Df.enc).flatten)]).length = H1.length + 7 := by simp [Bp_len]
      rw [hn]
      have ei := defsF_succ L (nameI.take ni) (nameC.take nc) (cellsF L nm (insF L nm ni).2 nc).2 i
      generalize hs : defsF L (nameI.take ni) (nameC.take nc) (cellsF L nm (insF L nm ni).2 nc).2 i = s at ei ⊢
      have hsl : s.1.length = i := by rw [← hs]; exact defsF_len _ _ _ _ i
      obtain ⟨s, a⟩ := s
      dsimp only at ei hsl ⊢
      refine dops_run 4 (by simp only [fw0, fw1, fw2, fw3, fw4, fw5, fw6, fw7, ↓reduceIte, Nat.reduceAdd, Nat.reduceMul, Nat.reduceEqDiff, Nat.reduceLT, Nat.reduceLeDiff, reduceCtorEq, Bool.false_eq_true, Bool.not_true, Bool.not_false, and_self, Nat.le_refl, fl31_2, ti26, Bp_take, Bp_setd hb, Bd_at0] <;> rfl) ?_
      have htl0 : (nameF.take i).length = i := by rw [List.length_take, show nameF.length = 2 from rfl]; omega
      refine dops_callM rfl rfl rfl rfl en18 ((c18 Γ hL (c34 Γ hL (nameC.take nc) 10)).at2 hb _ a (nameI.take ni) (nameF.take i) 4 (row_nmB (j := 5) hb rfl htl0) ⟨by omega, by decide⟩ (by omega) (by omega) (by rw [List.length_take]; show _ + 5 ≤ 1000; omega) (by rw [htl0]; show _ + 5 ≤ 1000; omega)) (vw_mk hb _ _ _) ?_
      generalize funF L (wholeF L (nameC.take nc) 10) 4 a (nameI.take ni) (nameF.take i) = t at ei ⊢
      obtain ⟨t, a1⟩ := t
      dsimp only at ei ⊢
      refine dops_run 2 (by simp only [fw0, fw1, fw2, fw3, fw4, fw5, fw6, fw7, ↓reduceIte, Nat.reduceAdd, Nat.reduceMul, Nat.reduceEqDiff, Nat.reduceLT, Nat.reduceLeDiff, reduceCtorEq, Bool.false_eq_true, Bool.not_true, Bool.not_false, and_self, Nat.le_refl, ti92, pl92, un26, Tm.fw, PV.plainL, PV.bdL, PV.bd, PV.bdL_append, List.take_zero, List.append_nil, Bool.and_self] <;> rfl) ?_
      refine dops_appendR (b := H1.length + 6) (q := 0) (k := i) (cs := (s.map Df.enc).flatten) rfl rfl rfl un26 ti92 un26 (.inl ⟨_, rfl⟩) rfl (by rw [Bp_at]; rfl) (by rw [flat_len Df.enc_len, hsl]; exact (Nat.zero_add _).symm) rfl (fun es f h e he => by
        simp only [fw0, fw1, fw2, fw3, fw4, fw5, fw6, fw7, ↓reduceIte, Nat.reduceAdd, Nat.reduceMul, Nat.reduceEqDiff, Nat.reduceLT, Nat.reduceLeDiff, reduceCtorEq, Bool.false_eq_true, Bool.not_true, Bool.not_false, and_self, Nat.le_refl, PV.vec.injEq] at h
        obtain ⟨rfl, rfl⟩ := h
        simp only [List.mem_singleton] at he
        subst he; simp only [fw0, fw1, fw2, fw3, fw4, fw5, fw6, fw7, ↓reduceIte, Nat.reduceAdd, Nat.reduceMul, Nat.reduceEqDiff, Nat.reduceLT, Nat.reduceLeDiff, reduceCtorEq, Bool.false_eq_true, Bool.not_true, Bool.not_false, and_self, Nat.le_refl, Tm.fw]) rfl (by show (i + 1) * 72 ≤ _; omega) (by show i + 1 ≤ _; omega) ?_
      refine dops_run 2 (by simp only [fw0, fw1, fw2, fw3, fw4, fw5, fw6, fw7, ↓reduceIte, Nat.reduceAdd, Nat.reduceMul, Nat.reduceEqDiff, Nat.reduceLT, Nat.reduceLeDiff, reduceCtorEq, Bool.false_eq_true, Bool.not_true, Bool.not_false, and_self, Nat.le_refl, fl31_2, ti26, Bp_at, Bp_at0, Bp_seta, Bp_seta0] <;> rfl) ?_
      refine dops_end ?_
      refine awp_keep (A' := [(2, .int .u8 n), (6, .ptr H.length 0), (7, .ptr b 0), (8, .ptr H1.length 0), (13, .int .i64 i), (14, .str x)]) [2, 6, 7, 8, 13, 14] rfl ?_
      refine awp_heap (H' := Bp H1 b (mk5 L a1 (sv (nameI.take ni)) (sv (nameC.take nc)) (.row (H1.length + 5) 0 i 1)) ++ [.box ([.row (H1.length + 2) 0 ni 3, .row (H1.length + 4) 0 nc 3, .row (H1.length + 6) 0 (i + 1) 5, .int .i64 0, .str [], .int .i64 0, nl]), .dead, .row 3 (((insF L nm ni).1.map Dl.enc).flatten), .dead, .row 3 (((cellsF L nm (insF L nm ni).2 nc).1.map Dl.enc).flatten), .row 1 (((nameF.take i).map S1).flatten), .row 5 ((s.map Df.enc).flatten ++ (.str x :: t.enc))]) (by simp) ?_
      have htl : (nameF.take i).length = i := by rw [List.length_take, show nameF.length = 2 from rfl]; omega
      -- the name is noted
      refine awp_region rfl ?_
      refine aops_run 7 (by simp only [fw0, fw1, fw2, fw3, fw4, fw5, fw6, fw7, ↓reduceIte, Nat.reduceAdd, Nat.reduceMul, Nat.reduceEqDiff, Nat.reduceLT, Nat.reduceLeDiff, reduceCtorEq, Bool.false_eq_true, Bool.not_true, Bool.not_false, and_self, Nat.le_refl, fl59_4, ti33, un33, ti9, Bp_get hb, mk5_fw] <;> rfl) ?_
      refine aops_one rfl (os_appendR (cs := ((nameF.take i).map S1).flatten) (q := 0) (k := i) (b := H1.length + 5) rfl un33 ti9 un33 (.inl ⟨_, rfl⟩) rfl (by rw [Bp_at]; rfl) (by rw [flat_len S1_len, htl]; exact (Nat.zero_add _).symm) rfl (fun es f h e he => by
        simp only [fw0, fw1, fw2, fw3, fw4, fw5, fw6, fw7, ↓reduceIte, Nat.reduceAdd, Nat.reduceMul, Nat.reduceEqDiff, Nat.reduceLT, Nat.reduceLeDiff, reduceCtorEq, Bool.false_eq_true, Bool.not_true, Bool.not_false, and_self, Nat.le_refl, PV.vec.injEq] at h
        obtain ⟨rfl, rfl⟩ := h
        simp only [List.mem_singleton] at he
        subst he; rfl) rfl (by show (i + 1) * 16 ≤ _; omega) (by show i + 1 ≤ _; omega) ?_)
      refine aops_run 3 (by simp only [fw0, fw1, fw2, fw3, fw4, fw5, fw6, fw7, ↓reduceIte, Nat.reduceAdd, Nat.reduceMul, Nat.reduceEqDiff, Nat.reduceLT, Nat.reduceLeDiff, reduceCtorEq, Bool.false_eq_true, Bool.not_true, Bool.not_false, and_self, Nat.le_refl, fl59_4, ti33, Bp_seta, Bp_get hb, Bp_set hb, mk5_fw, mk5, sv_fw] <;> rfl) ?_
      -- the counter
      refine awp_run rfl (by simp only [fw0, fw1, fw2, fw3, fw4, fw5, fw6, fw7, ↓reduceIte, Nat.reduceAdd, Nat.reduceMul, Nat.reduceEqDiff, Nat.reduceLT, Nat.reduceLeDiff, reduceCtorEq, Bool.false_eq_true, Bool.not_true, Bool.not_false, and_self, Nat.le_refl, wrapS i (by omega)] <;> rfl) ?_
      refine ⟨i + 1, [], by omega, by omega, rfl, ?_, rfl, by simp [Bp_len]⟩
      rw [List.append_nil, ei, take_s nameF (by rw [show nameF.length = 2 from rfl]; omega), flat_S1, flat_F, hx]
      rfl
    simp only [hc, decide_true, ↓reduceIte]
    refine awp_skip ?_
    refine awp_seq ?_
    refine awp_block ?_
    refine awp_seq ?_
    have hi3 : i < 3 := by omega
    have hnat := nameC_at hi3
    -- the name
    refine awp_run rfl (by simp only [fw0, fw1, fw2, fw3, fw4, fw5, fw6, fw7, ↓reduceIte, Nat.reduceAdd, Nat.reduceMul, Nat.reduceEqDiff, Nat.reduceLT, Nat.reduceLeDiff, reduceCtorEq, Bool.false_eq_true, Bool.not_true, Bool.not_false, and_self, Nat.le_refl, un33, ti9, el33, hnat, Int.natCast_nonneg, Bool.and_self] <;> rfl) ?_
    generalize hx : nameC.getD i [] = x
    refine awp_seq ?_
    -- drawn
    refine awp_drawnX (some b) [0, 4, 0, 0, 0, 5, 0, 0, 0, 0, 0, 0, 0, 0, 2, 0, 2] [0, 1, 0, 0, 0, 16, 0, 64, 240, 504, 1016, 0, 4092, 8188, 16383, 32767, 65535] mixed rfl (by kernel_rfl) ?_
    have hn : (Bp H1 b (mk5 L (cellsF L nm (insF L nm ni).2 i).2 (sv (nameI.take ni)) (.row (H1.length + 3) 0 i 1) nl) ++ [Blk.box ([.row (H1.length + 2) 0 ni 3, .row (H1.length + 4) 0 i 3, nl, .int .i64 0, .str [], .int .i64 0, nl]), .dead, .row 3 (((insF L nm ni).1.map Dl.enc).flatten), .row 1 (((nameC.take i).map S1).flatten), .row 3 (((cellsF L nm (insF L nm ni).2 i).1.map Dl.enc).flatten)]).length = H1.length + 5 := by simp [Bp_len]
    rw [hn]
    have ei := cellsF_succ L nm (insF L nm ni).2 i
    generalize hs : cellsF L nm (insF L nm ni).2 i = s at ei ⊢
    have hsl : s.1.length = i := by rw [← hs]; exact cellsF_len _ _ _ i
    obtain ⟨s, a⟩ := s
    dsimp only at ei hsl ⊢
    refine dops_run 5 (by simp only [fw0, fw1, fw2, fw3, fw4, fw5, fw6, fw7, ↓reduceIte, Nat.reduceAdd, Nat.reduceMul, Nat.reduceEqDiff, Nat.reduceLT, Nat.reduceLeDiff, reduceCtorEq, Bool.false_eq_true, Bool.not_true, Bool.not_false, and_self, Nat.le_refl, fl31_1, ti25, Bp_take, Bp_setd hb, Bd_at0] <;> rfl) ?_
    refine dops_turn rfl rfl rfl rfl en33 rfl (by show b < H1.length + 5; omega) (by simp [Bp_len]; omega) (c33turn Γ hb hL _ a _ _ _) ?_
    obtain ⟨j, hj, hjm, hjg⟩ := lbl_at hL hnm a
    rw [Bp_set hb]
    have ea : (lblF L nm a).2 = (byteF L a).2 := rfl
    rw [ea] at ei
    generalize (lblF L nm a).1 = lb at ei hjg
    generalize (byteF L a).2 = a1 at ei ⊢
    have hnm0 : ¬ ((nm.length : Int) = 0) := by omega
    refine dops_run 8 (by simp only [fw0, fw1, fw2, fw3, fw4, fw5, fw6, fw7, ↓reduceIte, Nat.reduceAdd, Nat.reduceMul, Nat.reduceEqDiff, Nat.reduceLT, Nat.reduceLeDiff, reduceCtorEq, Bool.false_eq_true, Bool.not_true, Bool.not_false, and_self, Nat.le_refl, un33, el33, ti9, ti51, pl51, un25, sv, List.length_map, List.getElem?_map, hjm, hjg, hnm0, Option.map_some, Int.natCast_nonneg, ne_eq, not_false_eq_true, Bool.and_self] <;> rfl) ?_
    refine dops_appendR (b := H1.length + 4) (q := 0) (k := i) (cs := (s.map Dl.enc).flatten) rfl rfl rfl un25 ti51 un25 (.inl ⟨_, rfl⟩) rfl (by rw [Bp_at]; rfl) (by rw [flat_len Dl.enc_len, hsl]; exact (Nat.zero_add _).symm) rfl (fun es f h e he => by
      simp only [fw0, fw1, fw2, fw3, fw4, fw5, fw6, fw7, ↓reduceIte, Nat.reduceAdd, Nat.reduceMul, Nat.reduceEqDiff, Nat.reduceLT, Nat.reduceLeDiff, reduceCtorEq, Bool.false_eq_true, Bool.not_true, Bool.not_false, and_self, Nat.le_refl, PV.vec.injEq] at h
      obtain ⟨rfl, rfl⟩ := h
      simp only [List.mem_singleton] at he
      subst he; rfl) rfl (by show (i + 1) * 40 ≤ _; omega) (by show i + 1 ≤ _; omega) ?_
    refine dops_run 2 (by simp only [fw0, fw1, fw2, fw3, fw4, fw5, fw6, fw7, ↓reduceIte, Nat.reduceAdd, Nat.reduceMul, Nat.reduceEqDiff, Nat.reduceLT, Nat.reduceLeDiff, reduceCtorEq, Bool.false_eq_true, Bool.not_true, Bool.not_false, and_self, Nat.le_refl, fl31_1, ti25, Bp_at, Bp_at0, Bp_seta, Bp_seta0] <;> rfl) ?_
    refine dops_end ?_
    refine awp_keep (A' := [(0, sv nm), (2, .int .u8 n), (6, .ptr H.length 0), (7, .ptr b 0), (8, .ptr H1.length 0), (11, .int .i64 i), (12, .str x)]) [0, 2, 6, 7, 8, 11, 12] rfl ?_
    refine awp_heap (H' := Bp H1 b (mk5 L a1 (sv (nameI.take ni)) (.row (H1.length + 3) 0 i 1) nl) ++ [.box ([.row (H1.length + 2) 0 ni 3, .row (H1.length + 4) 0 (i + 1) 3, nl, .int .i64 0, .str [], .int .i64 0, nl]), .dead, .row 3 (((insF L nm ni).1.map Dl.enc).flatten), .row 1 (((nameC.take i).map S1).flatten), .row 3 ((s.map Dl.enc).flatten ++ [.str x, .str lb, .int .i64 i])]) rfl ?_
    have htl : (nameC.take i).length = i := by rw [List.length_take, show nameC.length = 3 from rfl]; omega
    -- the name is noted
    refine awp_region rfl ?_
    refine aops_run 7 (by simp only [fw0, fw1, fw2, fw3, fw4, fw5, fw6, fw7, ↓reduceIte, Nat.reduceAdd, Nat.reduceMul, Nat.reduceEqDiff, Nat.reduceLT, Nat.reduceLeDiff, reduceCtorEq, Bool.false_eq_true, Bool.not_true, Bool.not_false, and_self, Nat.le_refl, fl59_3, ti33, un33, ti9, Bp_get hb, mk5_fw] <;> rfl) ?_
    refine aops_one rfl (os_appendR (cs := ((nameC.take i).map S1).flatten) (q := 0) (k := i) (b := H1.length + 3) rfl un33 ti9 un33 (.inl ⟨_, rfl⟩) rfl (by rw [Bp_at]; rfl) (by rw [flat_len S1_len, htl]; exact (Nat.zero_add _).symm) rfl (fun es f h e he => by
      simp only [fw0, fw1, fw2, fw3, fw4, fw5, fw6, fw7, ↓reduceIte, Nat.reduceAdd, Nat.reduceMul, Nat.reduceEqDiff, Nat.reduceLT, Nat.reduceLeDiff, reduceCtorEq, Bool.false_eq_true, Bool.not_true, Bool.not_false, and_self, Nat.le_refl, PV.vec.injEq] at h
      obtain ⟨rfl, rfl⟩ := h
      simp only [List.mem_singleton] at he
      subst he; rfl) rfl (by show (i + 1) * 16 ≤ _; omega) (by show i + 1 ≤ _; omega) ?_)
    refine aops_run 3 (by simp only [fw0, fw1, fw2, fw3, fw4, fw5, fw6, fw7, ↓reduceIte, Nat.reduceAdd, Nat.reduceMul, Nat.reduceEqDiff, Nat.reduceLT, Nat.reduceLeDiff, reduceCtorEq, Bool.false_eq_true, Bool.not_true, Bool.not_false, and_self, Nat.le_refl, fl59_3, ti33, Bp_seta, Bp_get hb, Bp_set hb, mk5_fw, mk5, sv_fw] <;> rfl) ?_
    -- the counter
    refine awp_run rfl (by simp only [fw0, fw1, fw2, fw3, fw4, fw5, fw6, fw7, ↓reduceIte, Nat.reduceAdd, Nat.reduceMul, Nat.reduceEqDiff, Nat.reduceLT, Nat.reduceLeDiff, reduceCtorEq, Bool.false_eq_true, Bool.not_true, Bool.not_false, and_self, Nat.le_refl, wrapS i (by omega)] <;> rfl) ?_
    refine ⟨i + 1, [], by omega, by omega, rfl, ?_, rfl, by simp [Bp_len]⟩
    rw [List.append_nil, ei, take_s nameC (by rw [show nameC.length = 3 from rfl]; omega), flat_S1, flat_D, hx]
    rfl
  simp only [hc, decide_true, ↓reduceIte]
  refine awp_skip ?_
  refine awp_seq ?_
  refine awp_block ?_
  refine awp_seq ?_
  have hi3 : i < 3 := by omega
  have hnat := nameI_at hi3
  -- the name
  refine awp_run rfl (by simp only [fw0, fw1, fw2, fw3, fw4, fw5, fw6, fw7, ↓reduceIte, Nat.reduceAdd, Nat.reduceMul, Nat.reduceEqDiff, Nat.reduceLT, Nat.reduceLeDiff, reduceCtorEq, Bool.false_eq_true, Bool.not_true, Bool.not_false, and_self, Nat.le_refl, un33, ti9, el33, hnat, Int.natCast_nonneg, Bool.and_self] <;> rfl) ?_
  generalize hx : nameI.getD i [] = x
  refine awp_seq ?_
  -- drawn
  refine awp_drawnX (some b) [0, 4, 0, 0, 0, 5, 0, 0, 0, 0, 0, 0, 0, 2, 0, 2] [0, 1, 0, 0, 0, 16, 0, 64, 240, 504, 1016, 2044, 4092, 8191, 16383, 32767] mixed rfl (by kernel_rfl) ?_
  have hn : (Bp H1 b (mk5 L (insF L nm i).2 (.row (H1.length + 1) 0 i 1) nl nl) ++ [Blk.box ([.row (H1.length + 2) 0 i 3, nl, nl, .int .i64 0, .str [], .int .i64 0, nl]), .row 1 (((nameI.take i).map S1).flatten), .row 3 (((insF L nm i).1.map Dl.enc).flatten)]).length = H1.length + 3 := by simp [Bp_len]
  rw [hn]
  have ei := insF_succ L nm i
  generalize hs : insF L nm i = s at ei ⊢
  have hsl : s.1.length = i := by rw [← hs]; exact insF_len _ _ i
  obtain ⟨s, a⟩ := s
  dsimp only at ei hsl ⊢
  refine dops_run 5 (by simp only [fw0, fw1, fw2, fw3, fw4, fw5, fw6, fw7, ↓reduceIte, Nat.reduceAdd, Nat.reduceMul, Nat.reduceEqDiff, Nat.reduceLT, Nat.reduceLeDiff, reduceCtorEq, Bool.false_eq_true, Bool.not_true, Bool.not_false, and_self, Nat.le_refl, fl31_0, ti25, Bp_take, Bp_setd hb, Bd_at0] <;> rfl) ?_
  refine dops_turn rfl rfl rfl rfl en33 rfl (by show b < H1.length + 3; omega) (by simp [Bp_len]; omega) (c33turn Γ hb hL _ a _ _ _) ?_
  obtain ⟨j, hj, hjm, hjg⟩ := lbl_at hL hnm a
  rw [Bp_set hb]
  have ea : (lblF L nm a).2 = (byteF L a).2 := rfl
  rw [ea] at ei
  generalize (lblF L nm a).1 = lb at ei hjg
  generalize (byteF L a).2 = a1 at ei ⊢
  have hnm0 : ¬ ((nm.length : Int) = 0) := by omega
  refine dops_run 7 (by simp only [fw0, fw1, fw2, fw3, fw4, fw5, fw6, fw7, ↓reduceIte, Nat.reduceAdd, Nat.reduceMul, Nat.reduceEqDiff, Nat.reduceLT, Nat.reduceLeDiff, reduceCtorEq, Bool.false_eq_true, Bool.not_true, Bool.not_false, and_self, Nat.le_refl, un33, el33, ti9, ti51, pl51, un25, sv, List.length_map, List.getElem?_map, hjm, hjg, hnm0, Option.map_some, Int.natCast_nonneg, ne_eq, not_false_eq_true, Bool.and_self] <;> rfl) ?_
  refine dops_appendR (b := H1.length + 2) (q := 0) (k := i) (cs := (s.map Dl.enc).flatten) rfl rfl rfl un25 ti51 un25 (.inl ⟨_, rfl⟩) rfl (by rw [Bp_at]; rfl) (by rw [flat_len Dl.enc_len, hsl]; exact (Nat.zero_add _).symm) rfl (fun es f h e he => by
    simp only [fw0, fw1, fw2, fw3, fw4, fw5, fw6, fw7, ↓reduceIte, Nat.reduceAdd, Nat.reduceMul, Nat.reduceEqDiff, Nat.reduceLT, Nat.reduceLeDiff, reduceCtorEq, Bool.false_eq_true, Bool.not_true, Bool.not_false, and_self, Nat.le_refl, PV.vec.injEq] at h
    obtain ⟨rfl, rfl⟩ := h
    simp only [List.mem_singleton] at he
    subst he; rfl) rfl (by show (i + 1) * 40 ≤ _; omega) (by show i + 1 ≤ _; omega) ?_
  refine dops_run 2 (by simp only [fw0, fw1, fw2, fw3, fw4, fw5, fw6, fw7, ↓reduceIte, Nat.reduceAdd, Nat.reduceMul, Nat.reduceEqDiff, Nat.reduceLT, Nat.reduceLeDiff, reduceCtorEq, Bool.false_eq_true, Bool.not_true, Bool.not_false, and_self, Nat.le_refl, fl31_0, ti25, Bp_at, Bp_at0, Bp_seta, Bp_seta0] <;> rfl) ?_
  refine dops_end ?_
  refine awp_keep (A' := [(0, sv nm), (2, .int .u8 n), (6, .ptr H.length 0), (7, .ptr b 0), (8, .ptr H1.length 0), (9, .int .i64 i), (10, .str x)]) [0, 2, 6, 7, 8, 9, 10] rfl ?_
  refine awp_heap (H' := Bp H1 b (mk5 L a1 (.row (H1.length + 1) 0 i 1) nl nl) ++ [.box ([.row (H1.length + 2) 0 (i + 1) 3, nl, nl, .int .i64 0, .str [], .int .i64 0, nl]), .row 1 (((nameI.take i).map S1).flatten), .row 3 ((s.map Dl.enc).flatten ++ [.str x, .str lb, .int .i64 0])]) rfl ?_
  have htl : (nameI.take i).length = i := by rw [List.length_take, show nameI.length = 3 from rfl]; omega
  -- the name is noted
  refine awp_region rfl ?_
  refine aops_run 7 (by simp only [fw0, fw1, fw2, fw3, fw4, fw5, fw6, fw7, ↓reduceIte, Nat.reduceAdd, Nat.reduceMul, Nat.reduceEqDiff, Nat.reduceLT, Nat.reduceLeDiff, reduceCtorEq, Bool.false_eq_true, Bool.not_true, Bool.not_false, and_self, Nat.le_refl, fl59_2, ti33, un33, ti9, Bp_get hb, mk5_fw] <;> rfl) ?_
  refine aops_one rfl (os_appendR (cs := ((nameI.take i).map S1).flatten) (q := 0) (k := i) (b := H1.length + 1) rfl un33 ti9 un33 (.inl ⟨_, rfl⟩) rfl (by rw [Bp_at]; rfl) (by rw [flat_len S1_len, htl]; exact (Nat.zero_add _).symm) rfl (fun es f h e he => by
    simp only [fw0, fw1, fw2, fw3, fw4, fw5, fw6, fw7, ↓reduceIte, Nat.reduceAdd, Nat.reduceMul, Nat.reduceEqDiff, Nat.reduceLT, Nat.reduceLeDiff, reduceCtorEq, Bool.false_eq_true, Bool.not_true, Bool.not_false, and_self, Nat.le_refl, PV.vec.injEq] at h
    obtain ⟨rfl, rfl⟩ := h
    simp only [List.mem_singleton] at he
    subst he; rfl) rfl (by show (i + 1) * 16 ≤ _; omega) (by show i + 1 ≤ _; omega) ?_)
  refine aops_run 3 (by simp only [fw0, fw1, fw2, fw3, fw4, fw5, fw6, fw7, ↓reduceIte, Nat.reduceAdd, Nat.reduceMul, Nat.reduceEqDiff, Nat.reduceLT, Nat.reduceLeDiff, reduceCtorEq, Bool.false_eq_true, Bool.not_true, Bool.not_false, and_self, Nat.le_refl, fl59_2, ti33, Bp_seta, Bp_get hb, Bp_set hb, mk5_fw, mk5, sv_fw] <;> rfl) ?_
  -- the counter
  refine awp_run rfl (by simp only [fw0, fw1, fw2, fw3, fw4, fw5, fw6, fw7, ↓reduceIte, Nat.reduceAdd, Nat.reduceMul, Nat.reduceEqDiff, Nat.reduceLT, Nat.reduceLeDiff, reduceCtorEq, Bool.false_eq_true, Bool.not_true, Bool.not_false, and_self, Nat.le_refl, wrapS i (by omega)] <;> rfl) ?_
  refine ⟨i + 1, [], by omega, by omega, rfl, ?_, rfl, by simp [Bp_len]⟩
  rw [List.append_nil, ei, take_s nameI (by rw [show nameI.length = 3 from rfl]; omega), flat_S1, flat_D, hx]
  rfl

end Go.Proofs.YtnjlfbefpoecpaaDoor
