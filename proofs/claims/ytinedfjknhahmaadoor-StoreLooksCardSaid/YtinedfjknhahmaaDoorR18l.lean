/- The contract of what the program finds a name to stand for. -/
import Derived.Test.YtinedfjknhahmaaDoorR18k
namespace Go.Proofs.YtinedfjknhahmaaDoor
set_option linter.unusedVariables false
set_option linter.unusedSimpArgs false
open Go.RowKit Fw

/-- store.Look -/
theorem c10 (Γ : Nat → PV) (l : List Bd) (nm : List UInt8) : Gives Tryd.prog Γ 10 [.vec (l.map Bd.enc) false, .str nm] (lookP l nm) := by
  refine Gives.res (p := lookP0 l nm) ?_ (lookP_le l nm)
  refine fn_of_awp Tryd.func10 rfl (by simp [Tryd.f10]) (lookP_plain l nm) fun H => ?_
  refine awp_seq ?_
  -- region 0
  refine awp_run rfl (by simp only [fw0, fw1, fw2, fw3, fw4, fw5, fw6, fw7, ↓reduceIte, Nat.reduceAdd, Nat.reduceMul, Nat.reduceEqDiff, Nat.reduceLT, Nat.reduceLeDiff, reduceCtorEq, Bool.false_eq_true, Bool.not_true, Bool.not_false, and_self, Nat.le_refl, ti27, ti4] <;> rfl) ?_
  refine awp_seq ?_
  refine awp_seq ?_
  -- region 1
  refine awp_region rfl ?_
  refine aops_run 1 (by simp only [fw0, fw1, fw2, fw3, fw4, fw5, fw6, fw7, ↓reduceIte, Nat.reduceAdd, Nat.reduceMul, Nat.reduceEqDiff, Nat.reduceLT, Nat.reduceLeDiff, reduceCtorEq, Bool.false_eq_true, Bool.not_true, Bool.not_false, and_self, Nat.le_refl] <;> rfl) ?_
  refine aops_call rfl rfl rfl en30 ((c30 Γ _ l).mono fun p H' hp => ?_)
  obtain ⟨rfl, rfl⟩ := hp
  refine awp_block ?_
  refine awp_heap (H' := H ++ [.box [.str nm], .box zeroVP, .box [.bool false], .box [.vec (l.map Bd.enc) false]]) (by simp [zeroVP]) ?_
  refine awp_rangeFunc (gf := 49) (caps := [.ptr (H.length + 3) 0]) (by simp only [fw0, fw1, fw2, fw3, fw4, fw5, fw6, fw7, ↓reduceIte, Nat.reduceAdd, Nat.reduceMul, Nat.reduceEqDiff, Nat.reduceLT, Nat.reduceLeDiff, reduceCtorEq, Bool.false_eq_true, Bool.not_true, Bool.not_false, and_self, Nat.le_refl] <;> rfl) en49 (c49 Γ (H.length + 3) l) (by simp [Tryd.f10])
    (fun i Hf => Hf = H ++ [.box [.str nm], .box zeroVP, .box [.bool false], .box [.vec (l.map Bd.enc) false]] ∧ lookV l nm = lookV (l.take (l.length - i)) nm)
    (fun c Hf => c = .ret ∧ ∃ v : Val, lookV l nm = some v ∧ Hf = H ++ [.box [.str nm], .box v.enc, .box [.bool true], .box [.vec (l.map Bd.enc) false]])
    ⟨rfl, by simp⟩ ?_ ?_ ?_ ?_
  · rintro i Hf ⟨rfl, _⟩
    exact ⟨rfl, fun L => by rw [List.append_assoc, Fw.get_at]; rfl⟩
  · rintro i x Hf L L' ro hx ⟨rfl, hj⟩ hL hL' hbd hbd'
    obtain ⟨hk, rfl⟩ := bwd_at hx
    have hi : l.length - (i + 1) < l.length := by omega
    have hjn : lookV l nm = if l[l.length - (i + 1)].name = nm then some l[l.length - (i + 1)].v else lookV (l.take (l.length - (i + 1))) nm := by
      rw [hj, show l.length - i = (l.length - (i + 1)) + 1 by omega]
      exact lookV_take hi
    generalize hbb : l[l.length - (i + 1)] = bb at hjn ⊢
    refine awp_less (A' := [(3, .ptr H.length 0), (4, .ptr (H.length + 1) 0), (5, .ptr (H.length + 2) 0), (11, .agg bb.enc)]) (fun t => zip_look [3, 4, 5, 11] [.ptr H.length 0, .ptr (H.length + 1) 0, .ptr (H.length + 2) 0, .agg bb.enc] t _ rfl) ?_
    generalize hK : H ++ [Blk.box [.str nm], .box zeroVP, .box [.bool false], .box [.vec (l.map Bd.enc) false]] ++ L = K
    have hKl : K.length = H.length + 4 + L.length := by rw [← hK]; simp; omega
    -- region 2
    refine awp_run rfl (by simp only [fw0, fw1, fw2, fw3, fw4, fw5, fw6, fw7, ↓reduceIte, Nat.reduceAdd, Nat.reduceMul, Nat.reduceEqDiff, Nat.reduceLT, Nat.reduceLeDiff, reduceCtorEq, Bool.false_eq_true, Bool.not_true, Bool.not_false, and_self, Nat.le_refl, ti75, Bd.fw] <;> rfl) ?_
    refine ⟨rfl, H ++ [.box [.str nm], .box zeroVP, .box [.bool false], .box [.vec (l.map Bd.enc) false]], [.box bb.enc], by simp, by rw [hK], ?_⟩
    generalize hK2 : H ++ [Blk.box [.str nm], .box zeroVP, .box [.bool false], .box [.vec (l.map Bd.enc) false]] ++ L' ++ [.box bb.enc] = K2
    have hK2' : K2 = H ++ ([Blk.box [.str nm], .box zeroVP, .box [.bool false], .box [.vec (l.map Bd.enc) false]] ++ (L' ++ [.box bb.enc])) := by rw [← hK2]; simp
    have g0 : K2[H.length]? = some (.box [.str nm]) := by rw [hK2', Fw.get_at0]; rfl
    have g1 : K2[H.length + 1]? = some (.box zeroVP) := by rw [hK2', Fw.get_at]; rfl
    have g2 : ∀ B, (K2.set (H.length + 1) B)[H.length + 2]? = some (.box [.bool false]) := fun B => by
      rw [List.getElem?_set_ne (by omega), hK2', Fw.get_at]; rfl
    have g7 : K2[K.length]? = some (.box bb.enc) := by
      rw [← hK2, hKl, ← hL']
      rw [List.getElem?_append_right (by simp; omega)]
      rw [show H.length + 4 + L'.length - (H ++ [Blk.box [.str nm], .box zeroVP, .box [.bool false], .box [.vec (l.map Bd.enc) false]] ++ L').length = 0 by simp; omega]
      rfl
    refine awp_block ?_
    refine awp_seq ?_
    -- region 3
    refine awp_run rfl (by simp only [fw0, fw1, fw2, fw3, fw4, fw5, fw6, fw7, ↓reduceIte, Nat.reduceAdd, Nat.reduceMul, Nat.reduceEqDiff, Nat.reduceLT, Nat.reduceLeDiff, reduceCtorEq, Bool.false_eq_true, Bool.not_true, Bool.not_false, and_self, Nat.le_refl, fl75_0, ti9, Bd.fw, g0, g7] <;> rfl) ?_
    refine awp_cond (by simp only [fw0, fw1, fw2, fw3, fw4, fw5, fw6, fw7, ↓reduceIte, Nat.reduceAdd, Nat.reduceMul, Nat.reduceEqDiff, Nat.reduceLT, Nat.reduceLeDiff, reduceCtorEq, Bool.false_eq_true, Bool.not_true, Bool.not_false, and_self, Nat.le_refl] <;> rfl) ?_
    by_cases hn : bb.name = nm
    · simp only [hn, decide_true, ↓reduceIte]
      rw [if_pos hn] at hjn
      refine awp_seq ?_
      -- region 4
      refine awp_run rfl (by simp only [fw0, fw1, fw2, fw3, fw4, fw5, fw6, fw7, ↓reduceIte, Nat.reduceAdd, Nat.reduceMul, Nat.reduceEqDiff, Nat.reduceLT, Nat.reduceLeDiff, reduceCtorEq, Bool.false_eq_true, Bool.not_true, Bool.not_false, and_self, Nat.le_refl, fl75_1, ti27, ti4, Bd.fw, Val.fw, g7, g1, g2, show zeroVP.length = 8 from rfl] <;> rfl) ?_
      refine awp_ret ?_
      refine ⟨H ++ [.box [.str nm], .box bb.v.enc, .box [.bool true], .box [.vec (l.map Bd.enc) false]], [.box bb.enc], by simp, ?_, ?_, by first | exact rfl | exact trivial, bb.v, hjn, rfl⟩
      · rw [hK2', Fw.set_at, Fw.set_at]
        simp [zeroVP]
      · intro B hB
        rcases List.mem_append.1 hB with hB | hB
        · have := hbd B (by simp [hB])
          rw [List.length_append, ← hL'] at this
          exact this
        · simp only [List.mem_cons, List.not_mem_nil, or_false] at hB
          rcases hB with rfl | rfl | rfl | rfl <;> simp [Blk.bd, PV.bdL, PV.bd, Val.fw, zeroVP]
    · simp only [hn, decide_false, Bool.false_eq_true, ↓reduceIte]
      rw [if_neg hn] at hjn
      refine awp_skip ?_
      refine ⟨H ++ [.box [.str nm], .box zeroVP, .box [.bool false], .box [.vec (l.map Bd.enc) false]], [.box bb.enc], by simp, hK2.symm, ?_, ?_⟩
      rotate_left
      · exact ⟨rfl, hjn⟩
      · intro B hB
        rcases List.mem_append.1 hB with hB | hB
        · have := hbd B (by simp [hB])
          rw [List.length_append, ← hL'] at this
          exact this
        · simp only [List.mem_cons, List.not_mem_nil, or_false] at hB
          rcases hB with rfl | rfl | rfl | rfl <;> simp [Blk.bd, PV.bdL, PV.bd, Val.fw, zeroVP]
  · rintro Hf B ⟨rfl, hj⟩
    have hz : lookV l nm = none := by rw [hj, bwd_len, Nat.sub_self]; rfl
    simp only [Post.block, Post.then]
    refine awp_heap (H' := H ++ [.box [.str nm], .box zeroVP, .box [.bool false], .box [.vec (l.map Bd.enc) false], .dfr, B]) (by simp) ?_
    refine awp_seq ?_
    -- region 5
    refine awp_run rfl (by simp only [fw0, fw1, fw2, fw3, fw4, fw5, fw6, fw7, ↓reduceIte, Nat.reduceAdd, Nat.reduceMul, Nat.reduceEqDiff, Nat.reduceLT, Nat.reduceLeDiff, reduceCtorEq, Bool.false_eq_true, Bool.not_true, Bool.not_false, and_self, Nat.le_refl, ti27, pl27, ti4, zeroVP] <;> rfl) ?_
    refine awp_ret ?_
    refine ⟨.inl rfl, by simp, fun b hb => ?_, ?_, _, rfl⟩
    · simp only [List.mem_singleton] at hb
      subst hb
      exact ⟨by rw [List.length_append, Fw.get_at]; rfl, by simp⟩
    · simp [lookP0, hz, ares, aresL, ares1, alook, Tryd.f10, rd, ev, ti27, ti4, zeroVP]
  · rintro c Hf B ⟨rfl, v, hv, rfl⟩ _
    refine awp_heap (H' := H ++ [.box [.str nm], .box v.enc, .box [.bool true], .box [.vec (l.map Bd.enc) false], .dfr, B]) (by simp) ?_
    refine awp_ret ?_
    refine ⟨.inl rfl, by simp, fun b hb => ?_, ?_, _, rfl⟩
    · simp only [List.mem_singleton] at hb
      subst hb
      exact ⟨by rw [List.length_append, Fw.get_at]; rfl, by simp⟩
    · simp [lookP0, hv, aput, ares, aresL, ares1, alook, Tryd.f10, rd, ev, ti27, ti4, Val.fw]

end Go.Proofs.YtinedfjknhahmaaDoor
