/- FWLONG -/
import Derived.Test.YtddnigahjahkbaaGreatDoorWD
import Derived.Test.YtddnigahjahkbaaGreatDoorCards
import Derived.Test.YtddnigahjahkbaaGreatDoorTie
import Derived.Test.YtddnigahjahkbaaGreatDoorWB
import Derived.Test.YtddnigahjahkbaaGreatDoorWC
import Derived.Stop.LaidErr
import Derived.Test.YtddnigahjahkbaaGreatDoorRows
namespace Go.Proofs.YtddnigahjahkbaaGreatDoor
set_option linter.unusedVariables false
set_option linter.unusedSimpArgs false
set_option maxRecDepth 100000
open Go.RowKit Fw Go.Maps Go.Sort
theorem aops_end {P : Program} {Γ : Nat → PV} {ops : Array Oper} {Q : List (Nat × PV) → List Blk → Prop} {A : List (Nat × PV)} {H : List Blk} (h : Q A H) : AOps P Γ ops Q [] A H := h
theorem c30 (Γ : Nat → PV) (m : Nat) (H : List Blk) (hm : m < H.length) : ACalls Tryz.prog Γ 30 [.map m] H (fun p H' => p = .func (.func 54) [] [.ptr H.length 0] ∧ H' = H ++ [.box [.map m]]) := by
  refine acalls_of_awp Tryz.func30 rfl (by simp [Tryz.f30]) fun hbd => ?_
  refine awp_seq ?_
  refine awp_run rfl (by simp only [fwA, ↓reduceIte, Nat.reduceAdd, Nat.reduceMul, Nat.reduceEqDiff, Nat.reduceLT, Nat.reduceLeDiff, reduceCtorEq] <;> rfl) ?_
  refine awp_seq ?_
  refine awp_run rfl (by simp only [fwA, ↓reduceIte, Nat.reduceAdd, Nat.reduceMul, Nat.reduceEqDiff, Nat.reduceLT, Nat.reduceLeDiff, reduceCtorEq] <;> rfl) ?_
  refine awp_bd fun hbd' => ?_
  refine awp_ret ?_
  exact calls_at (p := .func (.func 54) [] [.ptr H.length 0]) (.inl rfl) hbd' rfl (by simp [PV.bd, PV.bdL]) (by simp) ⟨rfl, rfl⟩
theorem z3 : zero1 Tryz.prog 3 = some (.int .i64 0) := by kernel_rfl
structure Walk (H : List Blk) (b1 b2 b3 mb mm : Nat) : Prop where
  hb : mb < H.length
  hm : mm < H.length
  ne : mb ≠ mm
  h1 : H[b1]? = some (.box [.map mb])
  h2 : H[b2]? = some (.box [.map mm])
  h3 : H[b3]? = some (.box [.func (.func 27) [] [.ptr b1 0, .ptr b2 0, .ptr b3 0]])
  n1 : b1 ≠ mb ∧ b1 ≠ mm
  n2 : b2 ≠ mb ∧ b2 ≠ mm
  n3 : b3 ≠ mb ∧ b3 ≠ mm
theorem Walk.app {H : List Blk} {b1 b2 b3 mb mm : Nat} (h : Walk H b1 b2 b3 mb mm) (L : List Blk) : Walk (H ++ L) b1 b2 b3 mb mm :=
  ⟨by rw [List.length_append]; have := h.hb; omega, by rw [List.length_append]; have := h.hm; omega, h.ne, get_old L h.h1, get_old L h.h2, get_old L h.h3, h.n1, h.n2, h.n3⟩
theorem Walk.at {H : List Blk} {b1 b2 b3 mb mm : Nat} (h : Walk H b1 b2 b3 mb mm) (kb km : List (List UInt8)) (f g : List UInt8 → Int) :
    (stH H mb mm kb f km g)[b1]? = some (.box [.map mb]) ∧ (stH H mb mm kb f km g)[b2]? = some (.box [.map mm]) ∧ (stH H mb mm kb f km g)[b3]? = some (.box [.func (.func 27) [] [.ptr b1 0, .ptr b2 0, .ptr b3 0]]) ∧
    (stH H mb mm kb f km g)[mb]? = some (.map (mp kb f)) ∧ (stH H mb mm kb f km g)[mm]? = some (.map (mp km g)) :=
  ⟨(stH_at h.n1.1 h.n1.2).trans h.h1, (stH_at h.n2.1 h.n2.2).trans h.h2, (stH_at h.n3.1 h.n3.2).trans h.h3, stH_mb h.hb h.ne, stH_mm h.hm⟩
def KeysOf (ks : List (List UInt8)) (f : List UInt8 → Int) : Prop := ks.Nodup ∧ ∀ s, ¬ s ∈ ks → f s = 0
theorem KeysOf.put {ks : List (List UInt8)} {f : List UInt8 → Int} (h : KeysOf ks f) (k : List UInt8) (v : Int) : KeysOf (insK ks k) (updF f k v) :=
  ⟨insK_nodup h.1, fun s hs => by
    have h1 : s ≠ k := fun e => hs (insK_mem.2 (.inl e))
    rw [updF_other _ _ h1]; exact h.2 s fun hm => hs (insK_mem.2 (.inr hm))⟩
def Walked (H : List Blk) (mb mm : Nat) (f : List UInt8 → Int) (km : List (List UInt8)) (w : Nat) (S : List UInt8 → Prop) (H' : List Blk) : Prop :=
  ∃ kb' km' g', H' = stH H mb mm kb' f km' g' ∧ KeysOf kb' f ∧ KeysOf km' g' ∧ km'.length ≤ km.length + w ∧ ∀ s, s ∈ km' ↔ s ∈ km ∨ S s
set_option maxHeartbeats 2000000 in
theorem c27 (Γ : Nat → PV) : ∀ (t : Tm), t.w ≤ 1000000000 → ∀ (H : List Blk) (b1 b2 b3 mb mm : Nat) (kb km : List (List UInt8)) (f g : List UInt8 → Int), Walk H b1 b2 b3 mb mm → KeysOf kb f → KeysOf km g → (∀ s, 0 ≤ f s ∧ f s + t.w ≤ 2000000000) →
    ACalls Tryz.prog Γ 27 [.agg t.enc, .ptr b1 0, .ptr b2 0, .ptr b3 0] (stH H mb mm kb f km g) (fun _ H' => Walked H mb mm f km t.w (fun s => s ∈ t.free ∧ f s = 0) H') := by
  refine Tm.ind fun t ih hw H b1 b2 b3 mb mm kb km f g hW hkb hkm hf => ?_
  have hkw := Tm.kids_w t
  have hwe := Tm.w_eq t
  refine acalls_of_awp Tryz.func27 rfl (by simp [Tryz.f27]) fun hbd => ?_
  refine awp_seq ?_
  refine awp_run rfl (by simp only [fwA, ↓reduceIte, Nat.reduceAdd, Nat.reduceMul, Nat.reduceEqDiff, Nat.reduceLT, Nat.reduceLeDiff, reduceCtorEq, Tm.fw] <;> rfl) ?_
  have hlen0 : (stH H mb mm kb f km g).length = H.length := stH_len
  refine awp_keep (A' := [(1, .ptr b1 0), (2, .ptr b2 0), (3, .ptr b3 0), (4, .ptr H.length 0)]) [1, 2, 3, 4] (by simp [akeep, alook, aput, ev, initA, hlen0]) ?_
  refine awp_heap (H' := stH (H ++ [.box t.enc]) mb mm kb f km g) (stH_app hW.hb hW.hm _) ?_
  have hW2 := hW.app [.box t.enc]
  have hbox : (H ++ [Blk.box t.enc])[H.length]? = some (.box t.enc) := by simp
  have n4 : H.length ≠ mb ∧ H.length ≠ mm := ⟨by have := hW.hb; omega, by have := hW.hm; omega⟩
  have hH2l : (H ++ [Blk.box t.enc]).length = H.length + 1 := by simp
  -- the own block
  have hbdH : ∀ B ∈ H ++ [Blk.box t.enc], B.bd (H ++ [Blk.box t.enc]).length = true ∨ B = B := fun B hB => .inr rfl
  generalize hH2 : H ++ [Blk.box t.enc] = H2 at hW2 hbox hH2l ⊢
  refine awp_bd fun hbd2 => ?_
  refine awp_seq ?_
  -- regions 1, 2
  refine AWP.mono (Q := fun e A' H' D' => e = .normal ∧ akeep [1, 2, 3, 4] A' = [(1, .ptr b1 0), (2, .ptr b2 0), (3, .ptr b3 0), (4, .ptr H.length 0)] ∧ (∃ km1 g1, H' = stH H2 mb mm kb f km1 g1 ∧ KeysOf km1 g1 ∧ km1.length ≤ km.length + 1 ∧ ∀ s, s ∈ km1 ↔ s ∈ km ∨ (t.kind = 2 ∧ s = t.name ∧ f s = 0)) ∧ D' = []) ?_ fun e A' H' D' hq => ?_
  · refine awp_seq ?_
    obtain ⟨w1, w2, w3, w4, w5⟩ := hW2.at kb km f g
    have w6 : (stH H2 mb mm kb f km g)[H.length]? = some (.box t.enc) := (stH_at n4.1 n4.2).trans hbox
    obtain ⟨rb, r1, r2, r3⟩ := look_mp (ks := kb) (f := f) t.name hkb.1 hkb.2
    obtain ⟨rm, m1, m2, m3⟩ := look_mp (ks := km) (f := g) t.name hkm.1 hkm.2
    generalize hX : stH H2 mb mm kb f km g = X at w1 w2 w3 w4 w5 w6 ⊢
    refine awp_region rfl ?_
    by_cases k2 : t.kind = 2
    rotate_left
    · refine aops_run 10 (by simp only [fwA, ↓reduceIte, Nat.reduceAdd, Nat.reduceMul, Nat.reduceEqDiff, Nat.reduceLT, Nat.reduceLeDiff, reduceCtorEq, w6, fl24_0, ti3, Tm.fw, k2, decide_false] <;> rfl) ?_
      refine awp_cond (b := false) (by simp [alook, aput, ev]) (awp_skip ?_)
      exact ⟨rfl, by simp [akeep, alook, aput, ev], ⟨km, g, hX.symm, hkm, by omega, fun s => ⟨.inl, fun h => h.elim id fun h => absurd h.1 k2⟩⟩, rfl⟩
    refine aops_run 7 (by simp only [fwA, ↓reduceIte, Nat.reduceAdd, Nat.reduceMul, Nat.reduceEqDiff, Nat.reduceLT, Nat.reduceLeDiff, reduceCtorEq, w1, w6, fl24_0, fl24_1, ti3, ti9, ti56, Tm.fw, k2, decide_true] <;> rfl) ?_
    refine aops_if rfl rfl rfl (os_lookup (r := rb) (z := .int .i64 0) rfl un56 un9 rfl rfl w4 r1 (fun _ => zero1_spec z3) ?_)
    rw [if_neg (by decide), r2]
    by_cases hf0 : f t.name = 0
    rotate_left
    · refine aops_run 2 (by simp only [fwA, ↓reduceIte, Nat.reduceAdd, Nat.reduceMul, Nat.reduceEqDiff, Nat.reduceLT, Nat.reduceLeDiff, reduceCtorEq, hf0, decide_false] <;> rfl) ?_
      refine awp_cond (b := false) (by simp [alook, aput, ev]) (awp_skip ?_)
      exact ⟨rfl, by simp [akeep, alook, aput, ev], ⟨km, g, hX.symm, hkm, by omega, fun s => ⟨.inl, fun h => h.elim id fun h => absurd (h.2.1 ▸ h.2.2) hf0⟩⟩, rfl⟩
    refine aops_run 2 (by simp only [fwA, ↓reduceIte, Nat.reduceAdd, Nat.reduceMul, Nat.reduceEqDiff, Nat.reduceLT, Nat.reduceLeDiff, reduceCtorEq, hf0, decide_true] <;> rfl) ?_
    refine awp_cond (b := true) (by simp [alook, aput, ev]) ?_
    refine awp_region rfl ?_
    refine aops_run 3 (by simp only [fwA, ↓reduceIte, Nat.reduceAdd, Nat.reduceMul, Nat.reduceEqDiff, Nat.reduceLT, Nat.reduceLeDiff, reduceCtorEq, w2, w6, fl24_1, ti9, ti56, Tm.fw] <;> rfl) ?_
    refine aops_one rfl (os_lookup (r := rm) (z := .int .i64 0) rfl un56 un9 rfl rfl w5 m1 (fun _ => zero1_spec z3) ?_)
    rw [if_neg (by decide), m2]
    refine aops_run 1 (by simp only [fwA, ↓reduceIte, Nat.reduceAdd, Nat.reduceMul, Nat.reduceEqDiff, Nat.reduceLT, Nat.reduceLeDiff, reduceCtorEq] <;> rfl) ?_
    refine aops_one rfl (os_mapUpdate (r := rm) (.inl rfl) un56 un9 rfl rfl w5 m1 ?_)
    refine ⟨rfl, by simp [akeep, alook, aput, ev], ⟨insK km t.name, updF g t.name (IntKind.i64.wrap (g t.name + 1)), ?_, hkm.put _ _, insK_len _ _, fun s => ?_⟩, rfl⟩
    · show X.set mm (.map (mput (mp km g) (.str t.name) (.int .i64 (IntKind.i64.wrap (g t.name + 1))) rm)) = _
      rw [m3, ← hX, stH_setm]
    · rw [insK_mem]
      constructor
      · rintro (rfl | h)
        · exact .inr ⟨k2, rfl, hf0⟩
        · exact .inl h
      · rintro (h | ⟨_, rfl, _⟩)
        · exact .inr h
        · exact .inl rfl
  obtain ⟨rfl, hA, ⟨km1, g1, rfl, hkm1, hl1, hs1⟩, rfl⟩ := hq
  refine awp_keep _ hA ?_
  have w6 : ∀ kb km f g, (stH H2 mb mm kb f km g)[H.length]? = some (.box t.enc) := fun kb km f g => (stH_at n4.1 n4.2).trans hbox
  refine awp_seq ?_
  refine awp_run rfl (by simp only [fwA, ↓reduceIte, Nat.reduceAdd, Nat.reduceMul, Nat.reduceEqDiff, Nat.reduceLT, Nat.reduceLeDiff, reduceCtorEq, w6, fl24_3, ti22, un22, Tm.fw, List.length_map] <;> rfl) ?_
  refine awp_block ?_
  refine awp_forG [1, 2, 3, 4, 24, 25, 26] (fun s : Nat × List (List UInt8) × List (List UInt8) × (List UInt8 → Int) => [.ptr b1 0, .ptr b2 0, .ptr b3 0, .ptr H.length 0, .vec (t.kids.map Tm.enc) false, .int .i64 t.kids.length, .int .i64 s.1])
    (fun s => stH H2 mb mm s.2.1 f s.2.2.1 s.2.2.2) (fun s => t.kids.length - s.1)
    (fun s => s.1 ≤ t.kids.length ∧ KeysOf s.2.1 f ∧ KeysOf s.2.2.1 s.2.2.2 ∧ s.2.2.1.length + ((t.kids.drop s.1).map Tm.w).sum ≤ km.length + t.w ∧
      ∀ x, x ∈ s.2.2.1 ↔ x ∈ km1 ∨ ∃ (j : Nat) (k : Tm), j < s.1 ∧ t.kids[j]? = some k ∧ x ∈ k.free ∧ ¬ (t.binder = true ∧ j + 1 = t.kids.length ∧ x = t.name) ∧ f x = 0)
    (0, kb, km1, g1) (by simp [alook, aput, ev]) rfl ⟨Nat.zero_le _, hkb, hkm1, by dsimp only; rw [List.drop_zero]; omega, fun x => ⟨.inl, fun h => h.elim id fun ⟨j, k, hj, _⟩ => absurd hj (Nat.not_lt_zero _)⟩⟩
    (fun s _ => ⟨stH_bd2 hW2.ne hbd2 _ _ _ _, by
      have e1 := (List.getElem?_eq_some_iff.1 hW2.h1).1
      have e2 := (List.getElem?_eq_some_iff.1 hW2.h2).1
      have e3 := (List.getElem?_eq_some_iff.1 hW2.h3).1
      rw [hH2l] at e1 e2 e3
      simp only [PV.bdL, PV.bd, stH_len, e1, e2, e3, hH2l, Nat.lt_succ_self, decide_true, Bool.and_self]⟩) (fun s _ b hb => by cases hb) fun s hs => ?_
  obtain ⟨i, kb', km', g'⟩ := s
  obtain ⟨hi, hkb', hkm', hln, hmem⟩ := hs
  dsimp only at hi hkb' hkm' hln hmem ⊢
  refine awp_seq ?_
  refine awp_run rfl (by simp only [fwA, ↓reduceIte, Nat.reduceAdd, Nat.reduceMul, Nat.reduceEqDiff, Nat.reduceLT, Nat.reduceLeDiff, reduceCtorEq] <;> rfl) ?_
  refine awp_seq ?_
  refine awp_cond (by simp only [fwA, ↓reduceIte, Nat.reduceAdd, Nat.reduceMul, Nat.reduceEqDiff, Nat.reduceLT, Nat.reduceLeDiff, reduceCtorEq] <;> rfl) ?_
  by_cases hc : (i : Int) < t.kids.length
  rotate_left
  · simp only [hc, decide_false, Bool.false_eq_true, ↓reduceIte]
    refine awp_exit ?_
    have hie : i = t.kids.length := by omega
    subst hie
    have hset : stH H2 mb mm kb' f km' g' = stH H mb mm kb' f km' g' ++ [.box t.enc] := by rw [← hH2]; exact (stH_app hW.hb hW.hm _).symm
    simp only [Post.block, Post.then, ↓reduceIte]
    rw [hset]
    refine calls_cut (p := .tup []) (stH H mb mm kb' f km' g') [.box t.enc] (.inr rfl) (stH_bd2 hW.ne hbd _ _ _ _) rfl rfl (by rw [stH_len, stH_len]; exact Nat.le_refl _) ⟨kb', km', g', rfl, hkb', hkm', by rw [List.drop_length] at hln; exact hln, fun x => ?_⟩
    show _ ↔ x ∈ km ∨ (x ∈ t.free ∧ f x = 0)
    rw [hmem, hs1, mem_free]
    constructor
    · rintro ((h | ⟨h1, h2, h3⟩) | ⟨j, k, _, h1, h2, h3, h4⟩)
      · exact .inl h
      · exact .inr ⟨.inl ⟨h1, h2⟩, h3⟩
      · exact .inr ⟨.inr ⟨j, k, h1, h2, h3⟩, h4⟩
    · rintro (h | ⟨(⟨h1, h2⟩ | ⟨j, k, h1, h2, h3⟩), h4⟩)
      · exact .inl (.inl h)
      · exact .inl (.inr ⟨h1, h2, h4⟩)
      · exact .inr ⟨j, k, (List.getElem?_eq_some_iff.1 h1).1, h1, h2, h3, h4⟩
  simp only [hc, decide_true, ↓reduceIte]
  refine awp_skip ?_
  have hia : i < t.kids.length := by omega
  have ga : t.kids[i]? = some t.kids[i] := List.getElem?_eq_getElem hia
  have hdr : t.kids.drop i = t.kids[i] :: t.kids.drop (i + 1) := List.drop_eq_getElem_cons hia
  rw [hdr, List.map_cons, List.sum_cons] at hln
  have hkw' := Tm.kid_w (List.getElem_mem hia)
  have ihk := ih t.kids[i] (List.getElem_mem hia) (by omega)
  have hwr : IntKind.i64.wrap ((t.kids.length : Int) - 1) = (t.kids.length : Int) - 1 := wrapId ⟨by omega, by omega⟩
  generalize t.kids[i] = kid at ga hln hkw' ihk
  have fin : ∀ (km3 : List (List UInt8)) (bd : Bool) (f' : List UInt8 → Int), bd = (t.binder && decide (i + 1 = t.kids.length)) → (∀ x, f' x = 0 ↔ ¬ (bd = true ∧ x = t.name) ∧ f x = 0) → (∀ x, x ∈ km3 ↔ x ∈ km' ∨ (x ∈ kid.free ∧ f' x = 0)) →
      ∀ x, x ∈ km3 ↔ x ∈ km1 ∨ ∃ (j : Nat) (k : Tm), j < i + 1 ∧ t.kids[j]? = some k ∧ x ∈ k.free ∧ ¬ (t.binder = true ∧ j + 1 = t.kids.length ∧ x = t.name) ∧ f x = 0 := fun km3 bd f' hbd' hf' hm3 x => by
    have hbq : ∀ y, ¬ (bd = true ∧ y = t.name) ↔ ¬ (t.binder = true ∧ i + 1 = t.kids.length ∧ y = t.name) := fun y => by
      rw [hbd', Bool.and_eq_true, decide_eq_true_eq, and_assoc]
    rw [hm3, hmem]
    constructor
    · rintro ((h | ⟨j, k, h1, h2⟩) | ⟨h1, h2⟩)
      · exact .inl h
      · exact .inr ⟨j, k, by omega, h2⟩
      · have := (hf' x).1 h2
        exact .inr ⟨i, kid, by omega, ga, h1, (hbq x).1 this.1, this.2⟩
    · rintro (h | ⟨j, k, h1, h2, h3, h4, h5⟩)
      · exact .inl (.inl h)
      · by_cases e : j = i
        · subst e
          rw [ga] at h2
          cases h2
          exact .inr ⟨h3, (hf' x).2 ⟨(hbq x).2 h4, h5⟩⟩
        · exact .inl (.inr ⟨j, k, by omega, h2, h3, h4, h5⟩)
  refine awp_seq ?_
  refine awp_block ?_
  refine awp_seq ?_
  -- region 5
  refine awp_run rfl (by simp only [fwA, ↓reduceIte, Nat.reduceAdd, Nat.reduceMul, Nat.reduceEqDiff, Nat.reduceLT, Nat.reduceLeDiff, reduceCtorEq, el22, ti24, Tm.fw, List.getElem?_map, ga, Option.map_some, Int.natCast_nonneg] <;> rfl) ?_
  refine awp_heap (H' := stH (H2 ++ [.box kid.enc]) mb mm kb' f km' g') (by simp only [List.set_append_right, stH_len, Nat.le_refl, Nat.sub_self, List.set_cons_zero, stH_app hW2.hb hW2.hm]) ?_
  refine awp_keep (A' := [(1, .ptr b1 0), (2, .ptr b2 0), (3, .ptr b3 0), (4, .ptr H.length 0), (5, .int .i64 i), (6, .ptr (H.length + 1) 0), (24, .vec (t.kids.map Tm.enc) false), (25, .int .i64 t.kids.length), (26, .int .i64 i)]) [1, 2, 3, 4, 5, 6, 24, 25, 26] (by simp [akeep, alook, aput, ev, stH_len, hH2l]) ?_
  have hW3 := hW2.app [.box kid.enc]
  have v6 : ∀ kb km f g, (stH (H2 ++ [.box kid.enc]) mb mm kb f km g)[H.length]? = some (.box t.enc) := fun kb km f g => (stH_at n4.1 n4.2).trans (get_old _ hbox)
  have n7 : H.length + 1 ≠ mb ∧ H.length + 1 ≠ mm := ⟨by have := hW.hb; omega, by have := hW.hm; omega⟩
  have v7 : ∀ kb km f g, (stH (H2 ++ [.box kid.enc]) mb mm kb f km g)[H.length + 1]? = some (.box kid.enc) := fun kb km f g => (stH_at n7.1 n7.2).trans (by rw [← hH2l]; simp)
  have happ : ∀ kb km f g, stH (H2 ++ [.box kid.enc]) mb mm kb f km g = stH H2 mb mm kb f km g ++ [.box kid.enc] := fun kb km f g => (stH_app hW2.hb hW2.hm _).symm
  have hle3 : ∀ kb km f g kb' km' f' g', (stH H2 mb mm kb f km g).length ≤ (stH H2 mb mm kb' f' km' g').length := fun _ _ _ _ _ _ _ _ => by rw [stH_len, stH_len]; exact Nat.le_refl _
  generalize hH3 : H2 ++ [Blk.box kid.enc] = H3 at hW3 v6 v7 happ ⊢
  refine awp_seq ?_
  -- region 6
  refine AWP.mono (Q := fun e A' H' D' => e = .normal ∧ akeep [1, 2, 3, 4, 6, 7, 24, 25, 26] A' = [(1, .ptr b1 0), (2, .ptr b2 0), (3, .ptr b3 0), (4, .ptr H.length 0), (6, .ptr (H.length + 1) 0), (7, .bool (t.binder && decide (i + 1 = t.kids.length))), (24, .vec (t.kids.map Tm.enc) false), (25, .int .i64 t.kids.length), (26, .int .i64 i)] ∧ H' = stH H3 mb mm kb' f km' g' ∧ D' = []) ?_ fun e A' H' D' hq => ?_
  · refine awp_region rfl ?_
    refine aops_run 1 (by simp only [fwA, ↓reduceIte, Nat.reduceAdd, Nat.reduceMul, Nat.reduceEqDiff, Nat.reduceLT, Nat.reduceLeDiff, reduceCtorEq, v6, ti24, Tm.fw] <;> rfl) ?_
    refine aops_fn rfl rfl rfl en28 (c28 Γ t) ?_
    cases hb : t.binder with
    | false =>
      refine aops_run 9 (by simp only [fwA, ↓reduceIte, Nat.reduceAdd, Nat.reduceMul, Nat.reduceEqDiff, Nat.reduceLT, Nat.reduceLeDiff, reduceCtorEq] <;> rfl) ?_
      exact ⟨rfl, rfl, rfl, rfl⟩
    | true =>
      have hd : decide ((i : Int) = (t.kids.length : Int) - 1) = decide (i + 1 = t.kids.length) := decide_eq_decide.2 (by omega)
      refine aops_run 9 (by simp only [fwA, ↓reduceIte, Nat.reduceAdd, Nat.reduceMul, Nat.reduceEqDiff, Nat.reduceLT, Nat.reduceLeDiff, reduceCtorEq, v6, fl24_3, ti22, un22, Tm.fw, List.length_map, hwr, hd] <;> rfl) ?_
      exact ⟨rfl, by simp [akeep, alook, aput, ev], rfl, rfl⟩
  obtain ⟨rfl, hA, rfl, rfl⟩ := hq
  refine awp_keep _ hA ?_
  generalize hbd7 : (t.binder && decide (i + 1 = t.kids.length)) = bd at fin ⊢
  refine awp_seq ?_
  refine awp_seq ?_
  cases bd with
  | false =>
    refine awp_run rfl (by simp only [fwA, ↓reduceIte, Nat.reduceAdd, Nat.reduceMul, Nat.reduceEqDiff, Nat.reduceLT, Nat.reduceLeDiff, reduceCtorEq] <;> rfl) ?_
    refine awp_cond (b := false) (by simp [alook, aput, ev]) (awp_skip ?_)
    refine awp_seq ?_
    obtain ⟨w1, w2, w3, w4, w5⟩ := hW3.at kb' km' f g'
    refine awp_region rfl ?_
    refine aops_run 2 (by simp only [fwA, ↓reduceIte, Nat.reduceAdd, Nat.reduceMul, Nat.reduceEqDiff, Nat.reduceLT, Nat.reduceLeDiff, reduceCtorEq, w3, v7, ti57, ti24, Tm.fw] <;> rfl) ?_
    refine aops_call rfl rfl rfl en27 ((ihk H3 b1 b2 b3 mb mm kb' km' f g' hW3 hkb' hkm' (fun s => by have := hf s; omega)).mono fun p H' hp => ?_)
    obtain ⟨kb3, km3, g3, rfl, hkb3, hkm3, hl3, hm3⟩ := hp
    refine aops_end ?_
    refine awp_seq ?_
    refine awp_run rfl (by simp only [fwA, ↓reduceIte, Nat.reduceAdd, Nat.reduceMul, Nat.reduceEqDiff, Nat.reduceLT, Nat.reduceLeDiff, reduceCtorEq] <;> rfl) ?_
    refine awp_cond (b := false) (by simp [alook, aput, ev]) (awp_skip ?_)
    refine awp_run rfl (by simp only [fwA, ↓reduceIte, Nat.reduceAdd, Nat.reduceMul, Nat.reduceEqDiff, Nat.reduceLT, Nat.reduceLeDiff, reduceCtorEq] <;> rfl) ?_
    exact ⟨(i + 1, kb3, km3, g3), [.box kid.enc], by dsimp only; omega, ⟨by dsimp only; omega, hkb3, hkm3, by dsimp only; omega, fin km3 false f rfl (fun x => by simp) hm3⟩, by rw [wrapS i (by omega)]; rfl, happ _ _ _ _, rfl, hle3 _ _ _ _ _ _ _ _⟩
  | true =>
    have hfn := hf t.name
    have hw1 : IntKind.i64.wrap (f t.name + 1) = f t.name + 1 := wrapId ⟨by omega, by omega⟩
    have hw2 : IntKind.i64.wrap (f t.name + 1 - 1) = f t.name := by rw [show f t.name + 1 - 1 = f t.name by omega]; exact wrapId ⟨by omega, by omega⟩
    refine awp_run rfl (by simp only [fwA, ↓reduceIte, Nat.reduceAdd, Nat.reduceMul, Nat.reduceEqDiff, Nat.reduceLT, Nat.reduceLeDiff, reduceCtorEq] <;> rfl) ?_
    refine awp_cond (b := true) (by simp [alook, aput, ev]) ?_
    obtain ⟨w1, w2, w3, w4, w5⟩ := hW3.at kb' km' f g'
    obtain ⟨rb, r1, r2, r3⟩ := look_mp (ks := kb') (f := f) t.name hkb'.1 hkb'.2
    refine awp_region rfl ?_
    refine aops_run 3 (by simp only [fwA, ↓reduceIte, Nat.reduceAdd, Nat.reduceMul, Nat.reduceEqDiff, Nat.reduceLT, Nat.reduceLeDiff, reduceCtorEq, w1, v6, fl24_1, ti9, ti56, Tm.fw] <;> rfl) ?_
    refine aops_one rfl (os_lookup (r := rb) (z := .int .i64 0) rfl un56 un9 rfl rfl w4 r1 (fun _ => zero1_spec z3) ?_)
    rw [if_neg (by decide), r2]
    refine aops_run 1 (by simp only [fwA, ↓reduceIte, Nat.reduceAdd, Nat.reduceMul, Nat.reduceEqDiff, Nat.reduceLT, Nat.reduceLeDiff, reduceCtorEq, hw1] <;> rfl) ?_
    refine aops_one rfl (os_mapUpdate (r := rb) (.inl rfl) un56 un9 rfl rfl w4 r1 ?_)
    refine aops_end ?_
    refine awp_heap (H' := stH H3 mb mm (insK kb' t.name) (updF f t.name (f t.name + 1)) km' g') (by
      show (stH H3 mb mm kb' f km' g').set mb (.map (mput (mp kb' f) (.str t.name) (.int .i64 (f t.name + 1)) rb)) = _
      rw [r3, stH_setb hW3.ne]) ?_
    have hkb2 := hkb'.put t.name (f t.name + 1)
    have hf2 : ∀ s, 0 ≤ updF f t.name (f t.name + 1) s ∧ updF f t.name (f t.name + 1) s + kid.w ≤ 2000000000 := fun s => by
      by_cases e : s = t.name
      · subst e; rw [updF_same]; omega
      · rw [updF_other _ _ e]; have := hf s; omega
    obtain ⟨w1, w2, w3, w4, w5⟩ := hW3.at (insK kb' t.name) km' (updF f t.name (f t.name + 1)) g'
    refine awp_seq ?_
    refine awp_region rfl ?_
    refine aops_run 2 (by simp only [fwA, ↓reduceIte, Nat.reduceAdd, Nat.reduceMul, Nat.reduceEqDiff, Nat.reduceLT, Nat.reduceLeDiff, reduceCtorEq, w3, v7, ti57, ti24, Tm.fw] <;> rfl) ?_
    refine aops_call rfl rfl rfl en27 ((ihk H3 b1 b2 b3 mb mm _ km' _ g' hW3 hkb2 hkm' hf2).mono fun p H' hp => ?_)
    obtain ⟨kb3, km3, g3, rfl, hkb3, hkm3, hl3, hm3⟩ := hp
    refine aops_end ?_
    refine awp_seq ?_
    refine awp_run rfl (by simp only [fwA, ↓reduceIte, Nat.reduceAdd, Nat.reduceMul, Nat.reduceEqDiff, Nat.reduceLT, Nat.reduceLeDiff, reduceCtorEq] <;> rfl) ?_
    refine awp_cond (b := true) (by simp [alook, aput, ev]) ?_
    obtain ⟨w1, w2, w3, w4, w5⟩ := hW3.at kb3 km3 (updF f t.name (f t.name + 1)) g3
    obtain ⟨rb, r1, r2, r3⟩ := look_mp (ks := kb3) (f := updF f t.name (f t.name + 1)) t.name hkb3.1 hkb3.2
    rw [updF_same] at r2
    refine awp_region rfl ?_
    refine aops_run 3 (by simp only [fwA, ↓reduceIte, Nat.reduceAdd, Nat.reduceMul, Nat.reduceEqDiff, Nat.reduceLT, Nat.reduceLeDiff, reduceCtorEq, w1, v6, fl24_1, ti9, ti56, Tm.fw] <;> rfl) ?_
    refine aops_one rfl (os_lookup (r := rb) (z := .int .i64 0) rfl un56 un9 rfl rfl w4 r1 (fun _ => zero1_spec z3) ?_)
    rw [if_neg (by decide), r2]
    refine aops_run 1 (by simp only [fwA, ↓reduceIte, Nat.reduceAdd, Nat.reduceMul, Nat.reduceEqDiff, Nat.reduceLT, Nat.reduceLeDiff, reduceCtorEq, hw2] <;> rfl) ?_
    refine aops_one rfl (os_mapUpdate (r := rb) (.inl rfl) un56 un9 rfl rfl w4 r1 ?_)
    refine aops_end ?_
    have hkb4 := hkb3.put t.name (f t.name)
    have r3' := r3 (f t.name)
    rw [updF_back] at hkb4 r3'
    refine awp_heap (H' := stH H3 mb mm (insK kb3 t.name) f km3 g3) (by
      show (stH H3 mb mm kb3 (updF f t.name (f t.name + 1)) km3 g3).set mb (.map (mput (mp kb3 (updF f t.name (f t.name + 1))) (.str t.name) (.int .i64 (f t.name)) rb)) = _
      rw [r3', stH_setb hW3.ne]) ?_
    refine awp_run rfl (by simp only [fwA, ↓reduceIte, Nat.reduceAdd, Nat.reduceMul, Nat.reduceEqDiff, Nat.reduceLT, Nat.reduceLeDiff, reduceCtorEq] <;> rfl) ?_
    refine ⟨(i + 1, insK kb3 t.name, km3, g3), [.box kid.enc], by dsimp only; omega, ⟨by dsimp only; omega, hkb4, hkm3, by dsimp only; omega, fin km3 true _ rfl (fun x => ?_) hm3⟩, by rw [wrapS i (by omega)]; rfl, happ _ _ _ _, rfl, hle3 _ _ _ _ _ _ _ _⟩
    by_cases e : x = t.name
    · subst e
      rw [updF_same]
      exact ⟨fun h => by omega, fun h => absurd ⟨rfl, rfl⟩ h.1⟩
    · rw [updF_other _ _ e]
      exact ⟨fun h => ⟨fun a => e a.2, h⟩, fun h => h.2⟩
theorem c14 (Γ : Nat → PV) (t : Tm) (hw : t.w ≤ 1000000000) : Gives Tryz.prog Γ 14 [.agg t.enc] (.vec (t.free.map S1) false) := by
  refine fn_of_awp Tryz.func14 rfl (by simp [Tryz.f14]) rfl fun H => ?_
  refine awp_seq ?_
  refine awp_run rfl (by simp only [fwA, ↓reduceIte, Nat.reduceAdd, Nat.reduceMul, Nat.reduceEqDiff, Nat.reduceLT, Nat.reduceLeDiff, reduceCtorEq, Tm.fw] <;> rfl) ?_
  refine awp_seq ?_
  refine awp_region rfl ?_
  refine aops_one rfl (os_makeMap rfl ?_)
  refine aops_run 2 (by simp only [fwA, ↓reduceIte, Nat.reduceAdd, Nat.reduceMul, Nat.reduceEqDiff, Nat.reduceLT, Nat.reduceLeDiff, reduceCtorEq, ti56] <;> rfl) ?_
  refine awp_seq ?_
  refine awp_region rfl ?_
  refine aops_one rfl (os_makeMap rfl ?_)
  refine aops_run 2 (by simp only [fwA, ↓reduceIte, Nat.reduceAdd, Nat.reduceMul, Nat.reduceEqDiff, Nat.reduceLT, Nat.reduceLeDiff, reduceCtorEq, ti56] <;> rfl) ?_
  refine awp_seq ?_
  refine awp_run rfl (by simp only [fwA, ↓reduceIte, Nat.reduceAdd, Nat.reduceMul, Nat.reduceEqDiff, Nat.reduceLT, Nat.reduceLeDiff, reduceCtorEq, ti57] <;> rfl) ?_
  refine awp_seq ?_
  refine awp_run rfl (by simp only [fwA, ↓reduceIte, Nat.reduceAdd, Nat.reduceMul, Nat.reduceEqDiff, Nat.reduceLT, Nat.reduceLeDiff, reduceCtorEq, ti57] <;> rfl) ?_
  have key : Walk (H ++ [.box t.enc, .map [], .box [.map (H.length + 1)], .map [], .box [.map (H.length + 3)], .box [.func (.func 27) [] [.ptr (H.length + 4) 0, .ptr (H.length + 2) 0, .ptr (H.length + 5) 0]]]) (H.length + 4) (H.length + 2) (H.length + 5) (H.length + 3) (H.length + 1) :=
    ⟨by simp, by simp, by omega, by rw [Fw.get_at]; rfl, by rw [Fw.get_at]; rfl, by rw [Fw.get_at]; rfl, by omega, by omega, by omega⟩
  refine awp_heap (H' := stH (H ++ [.box t.enc, .map [], .box [.map (H.length + 1)], .map [], .box [.map (H.length + 3)], .box [.func (.func 27) [] [.ptr (H.length + 4) 0, .ptr (H.length + 2) 0, .ptr (H.length + 5) 0]]]) (H.length + 3) (H.length + 1) [] (fun _ => 0) [] (fun _ => 0)) (by simp [stH, mp]) ?_
  have hbox : ∀ kb km f g, (stH (H ++ [.box t.enc, .map [], .box [.map (H.length + 1)], .map [], .box [.map (H.length + 3)], .box [.func (.func 27) [] [.ptr (H.length + 4) 0, .ptr (H.length + 2) 0, .ptr (H.length + 5) 0]]]) (H.length + 3) (H.length + 1) kb f km g)[H.length]? = some (.box t.enc) := fun kb km f g => (stH_at (by omega) (by omega)).trans (by rw [get_at0]; rfl)
  have hpre : ∀ kb km f g, ∃ L, stH (H ++ [.box t.enc, .map [], .box [.map (H.length + 1)], .map [], .box [.map (H.length + 3)], .box [.func (.func 27) [] [.ptr (H.length + 4) 0, .ptr (H.length + 2) 0, .ptr (H.length + 5) 0]]]) (H.length + 3) (H.length + 1) kb f km g = H ++ L := fun kb km f g => ⟨_, by unfold stH; rw [set_at, set_at]⟩
  refine awp_keep (A' := [(1, .ptr H.length 0), (2, .vec [] true), (3, .ptr (H.length + 2) 0), (4, .ptr (H.length + 4) 0), (5, .ptr (H.length + 5) 0)]) [1, 2, 3, 4, 5] (by simp [akeep, alook, aput, ev]) ?_
  generalize H ++ [Blk.box t.enc, .map [], .box [.map (H.length + 1)], .map [], .box [.map (H.length + 3)], .box [.func (.func 27) [] [.ptr (H.length + 4) 0, .ptr (H.length + 2) 0, .ptr (H.length + 5) 0]]] = H2 at key hbox hpre ⊢
  have k0 : KeysOf [] (fun _ => (0 : Int)) := ⟨List.nodup_nil, fun s _ => rfl⟩
  obtain ⟨w1, w2, w3, w4, w5⟩ := key.at [] [] (fun _ => 0) (fun _ => 0)
  refine awp_seq ?_
  refine awp_region rfl ?_
  refine aops_run 2 (by simp only [fwA, ↓reduceIte, Nat.reduceAdd, Nat.reduceMul, Nat.reduceEqDiff, Nat.reduceLT, Nat.reduceLeDiff, reduceCtorEq, hbox, w3, ti57, ti24, Tm.fw] <;> rfl) ?_
  refine aops_call rfl rfl rfl en27 ((c27 Γ t hw H2 _ _ _ _ _ _ _ _ _ key k0 k0 (fun s => ⟨Int.le_refl _, by show (0 : Int) + t.w ≤ _; omega⟩)).mono fun p H' hp => ?_)
  obtain ⟨kb3, km3, g3, rfl, hkb3, hkm3, hl3, hm3⟩ := hp
  refine aops_end ?_
  obtain ⟨w1, w2, w3, w4, w5⟩ := key.at kb3 km3 (fun _ => 0) g3
  have hml : (H.length + 1) < (stH H2 (H.length + 3) (H.length + 1) kb3 (fun _ => 0) km3 g3).length := by rw [stH_len]; exact key.hm
  obtain ⟨L, hL⟩ := hpre kb3 km3 (fun _ => 0) g3
  rw [hL] at w2 w5 hml ⊢
  refine awp_seq ?_
  refine awp_region rfl ?_
  refine aops_run 1 (by simp only [fwA, ↓reduceIte, Nat.reduceAdd, Nat.reduceMul, Nat.reduceEqDiff, Nat.reduceLT, Nat.reduceLeDiff, reduceCtorEq, w2, ti56] <;> rfl) ?_
  refine aops_call rfl rfl rfl en30 ((c30 Γ _ _ hml).mono fun p H' hp => ?_)
  obtain ⟨rfl, rfl⟩ := hp
  have hsrt : km3.mergeSort leB = t.free := sorted_is hkm3.1 (rising_free t) fun s => by
    rw [hm3]
    show s ∈ [] ∨ (s ∈ t.free ∧ (0 : Int) = 0) ↔ s ∈ t.free
    simp
  refine aops_call rfl rfl rfl en29 ((c29 Γ _ (H ++ L).length (H.length + 1) (mp km3 g3) km3 (by simp) (by rw [List.getElem?_append_left hml]; exact w5) (by unfold mp; rw [List.map_map]; rfl) hkm3.1 (by rw [List.length_nil] at hl3; omega)).mono fun p H' hp => ?_)
  obtain ⟨rfl, rfl⟩ := hp
  rw [hsrt]
  refine aops_run 1 (by simp only [fwA, ↓reduceIte, Nat.reduceAdd, Nat.reduceMul, Nat.reduceEqDiff, Nat.reduceLT, Nat.reduceLeDiff, reduceCtorEq] <;> rfl) ?_
  refine aops_end ?_
  exact awp_ret (gives_end (.inl rfl) _ rfl)
end Go.Proofs.YtddnigahjahkbaaGreatDoor
namespace Go.Proofs.YtddnigahjahkbaaGreatDoor
set_option linter.unusedVariables false
set_option linter.unusedSimpArgs false
set_option maxRecDepth 100000
open Go.RowKit Fw
theorem wrapB (n : Nat) (h : n < 256) : IntKind.u8.wrap (n : Int) = n := by
  unfold IntKind.wrap
  have hb : IntKind.u8.bits = 8 := rfl
  have hsg : IntKind.u8.signed = false := rfl
  simp only [hb, hsg, Bool.false_and, Bool.false_eq_true, ↓reduceIte]
  omega
theorem digit (n : Nat) (h : n < 10) : IntKind.u8.wrap (IntKind.i64.wrap (48 + (n : Int))) = ((UInt8.ofNat (48 + n)).toNat : Int) := by
  rw [show (48 + (n : Int)) = ((48 + n : Nat) : Int) by omega, wrapN _ (by omega), wrapB _ (by omega)]
  simp
  omega
set_option maxHeartbeats 1000000 in
theorem c41 (Γ : Nat → PV) (n : Nat) (hn : n < 9223372036854775808) : Gives Tryz.prog Γ 41 [.int .i64 n] (.str (Lib.decDigits n)) := by
  have hlen : (Lib.decDigits n).length ≤ 20 := by rw [Lib.decDigits_length]; exact Lib.nDigits_le20 n (by omega)
  refine fn_of_awp Tryz.func41 rfl (by simp [Tryz.f41]) rfl fun H => ?_
  refine awp_seq ?_
  refine awp_run rfl (by simp only [fwA, seval] <;> rfl) ?_
  refine awp_seq ?_
  refine awp_run rfl (by simp only [fwA, seval] <;> rfl) ?_
  refine awp_seq ?_
  refine awp_block ?_
  refine awp_for [0, 3] (fun s : Nat × List UInt8 => [.int .i64 (s.1 : Int), .str s.2]) (fun _ => H) (fun s => s.1) (fun s => s.1 < 9223372036854775808 ∧ Lib.decDigits n = Lib.decDigits s.1 ++ s.2) (n, []) rfl rfl ⟨hn, by simp⟩ fun s hs => ?_
  obtain ⟨m, t⟩ := s
  obtain ⟨hm, hd⟩ := hs
  simp only at hm hd ⊢
  have ht : t.length ≤ 20 := by
    have := congrArg List.length hd
    rw [List.length_append] at this; omega
  refine awp_seq ?_
  refine awp_seq ?_
  refine awp_run rfl (by simp only [fwA, seval, gfw, bx, dx] <;> rfl) ?_
  refine awp_cond (by simp only [fwA, seval] <;> rfl) ?_
  by_cases hc : (9 : Int) < m
  rotate_left
  · simp only [hc, decide_false, Bool.false_eq_true, ↓reduceIte]
    refine awp_exit ?_
    have hm9 : m < 10 := by omega
    have hdg := digit m hm9
    refine awp_seq ?_
    refine awp_region rfl ?_
    refine aops_run 4 (by simp only [fwA, seval, gfw, bx, dx, hdg, show 0 + 1 + t.length ≤ 9223372036854775807 by omega, List.length_cons, List.length_nil] <;> rfl) ?_
    refine aops_one rfl (os_convBytes (l := [UInt8.ofNat (48 + m)]) (f := true) rfl un25 un5 un9 rfl ?_)
    refine aops_run 3 (by simp only [fwA, seval, gfw, bx, dx, hdg, show 0 + 1 + t.length ≤ 9223372036854775807 by omega, List.length_cons, List.length_nil] <;> rfl) ?_
    refine aops_end ?_
    refine awp_ret ?_
    refine gives_end0 (.inl rfl) ?_
    rw [hd, Lib.decDigits_one hm9]
    rfl
  simp only [hc, decide_true, ↓reduceIte]
  refine awp_skip ?_
  have hm10 : ¬ m < 10 := by omega
  have e1 : IntKind.u8.wrap (IntKind.i64.wrap (48 + (m : Int).tmod 10)) = ((UInt8.ofNat (48 + m % 10)).toNat : Int) := digit (m % 10) (Nat.mod_lt _ (by decide))
  have e2 : (m : Int).tdiv 10 = ((m / 10 : Nat) : Int) := rfl
  have e3 : IntKind.i64.wrap ((m / 10 : Nat) : Int) = ((m / 10 : Nat) : Int) := wrapN _ (by omega)
  refine awp_block ?_
  refine awp_seq ?_
  refine awp_region rfl ?_
  refine aops_run 5 (by simp only [fwA, seval, gfw, bx, dx, e1, Int.reduceEq, show 0 + 1 + t.length ≤ 9223372036854775807 by omega, List.length_cons, List.length_nil] <;> rfl) ?_
  refine aops_one rfl (os_convBytes (l := [UInt8.ofNat (48 + m % 10)]) (f := true) rfl un25 un5 un9 rfl ?_)
  refine aops_run 3 (by simp only [fwA, seval, gfw, bx, dx, e1, Int.reduceEq, show 0 + 1 + t.length ≤ 9223372036854775807 by omega, List.length_cons, List.length_nil] <;> rfl) ?_
  refine aops_end ?_
  refine awp_run rfl (by simp only [fwA, seval, gfw, bx, dx, e2, e3, Int.reduceEq] <;> rfl) ?_
  refine ⟨(m / 10, UInt8.ofNat (48 + m % 10) :: t), by simp only; omega, ⟨by simp only; omega, ?_⟩, rfl, rfl, rfl⟩
  simp only
  rw [hd, dec_step hm10]
  simp
theorem c42 (Γ : Nat → PV) (s : List UInt8) : Gives Tryz.prog Γ 42 [.str s] (.vec ([(⟨1, s, 0⟩ : Tk)].map Tk.enc) false) := by
  refine Gives.res (p := .vec ([(⟨1, s, 0⟩ : Tk)].map Tk.enc) true) ?_ ⟨nofun, PV.leLL_refl _⟩
  refine fn_of_awp Tryz.func42 rfl (by simp [Tryz.f42]) rfl fun H => ?_
  refine awp_seq ?_
  refine awp_run rfl (by simp only [fwA, seval] <;> rfl) ?_
  refine awp_seq ?_
  refine awp_run rfl (by simp only [fwA, seval, gfw, bx, dx] <;> rfl) ?_
  refine awp_ret ?_
  exact gives_end0 (.inl rfl) rfl
theorem c43 (Γ : Nat → PV) (s : List UInt8) : Gives Tryz.prog Γ 43 [.str s] (.vec ([(⟨3, s, 0⟩ : Tk)].map Tk.enc) false) := by
  refine Gives.res (p := .vec ([(⟨3, s, 0⟩ : Tk)].map Tk.enc) true) ?_ ⟨nofun, PV.leLL_refl _⟩
  refine fn_of_awp Tryz.func43 rfl (by simp [Tryz.f43]) rfl fun H => ?_
  refine awp_seq ?_
  refine awp_run rfl (by simp only [fwA, seval] <;> rfl) ?_
  refine awp_seq ?_
  refine awp_run rfl (by simp only [fwA, seval, gfw, bx, dx] <;> rfl) ?_
  refine awp_ret ?_
  exact gives_end0 (.inl rfl) rfl
theorem c44 (Γ : Nat → PV) (s : List UInt8) : Gives Tryz.prog Γ 44 [.str s] (.vec ([(⟨4, s, 0⟩ : Tk)].map Tk.enc) false) := by
  refine Gives.res (p := .vec ([(⟨4, s, 0⟩ : Tk)].map Tk.enc) true) ?_ ⟨nofun, PV.leLL_refl _⟩
  refine fn_of_awp Tryz.func44 rfl (by simp [Tryz.f44]) rfl fun H => ?_
  refine awp_seq ?_
  refine awp_run rfl (by simp only [fwA, seval] <;> rfl) ?_
  refine awp_seq ?_
  refine awp_run rfl (by simp only [fwA, seval, gfw, bx, dx] <;> rfl) ?_
  refine awp_ret ?_
  exact gives_end0 (.inl rfl) rfl
def TW (w : List Tk) : List PV := [.vec (w.map Tk.enc) false]
theorem TW_fw : (∀ w, (TW w).length = 1) ∧ (∀ w, (TW w)[0]? = some (.vec (w.map Tk.enc) false)) ∧ (∀ (m : Nat) w, PV.bdL m (TW w) = true) := ⟨fun _ => rfl, fun _ => rfl, fun _ _ => rfl⟩
theorem flat_take (W : List (List Tk)) (i : Nat) : ((W.take i).flatten).length ≤ W.flatten.length := by
  have : W.flatten = (W.take i).flatten ++ (W.drop i).flatten := by rw [← List.flatten_append, List.take_append_drop]
  rw [this, List.length_append]; omega
theorem c46 (Γ : Nat → PV) (W : List (List Tk)) (f : Bool) (hL : W.flatten.length ≤ 1000000000) : Gives Tryz.prog Γ 46 [.vec (W.map TW) f] (.vec (W.flatten.map Tk.enc) false) := by
  refine gives_of_row Tk.enc_len (Tk.plainM _) fun H => ?_
  refine acalls_of_awp Tryz.func46 rfl (by simp [Tryz.f46]) fun hbd => ?_
  refine awp_vlen 0 rfl fun hlv => ?_
  rw [List.length_map] at hlv
  refine awp_seq ?_
  refine awp_run rfl (by simp only [fwA, seval] <;> rfl) ?_
  refine awp_seq ?_
  refine awp_run rfl (by simp only [fwA, seval] <;> rfl) ?_
  refine awp_seq ?_
  refine awp_seq ?_
  refine awp_run rfl (by simp only [fwA, seval, gfw, bx, dx] <;> rfl) ?_
  refine awp_told (told_adopt 3 3 (by decide) rfl) ?_
  refine awp_block ?_
  refine awp_for [0, 3, 4] (fun i : Nat => [.vec (W.map TW) f, .row H.length 0 ((W.take i).flatten).length 3, .int .i64 (i : Int)]) (fun i => H ++ [.row 3 (((W.take i).flatten.map Tk.enc).flatten)]) (fun i => W.length - i) (fun i => i ≤ W.length) 0 rfl rfl (Nat.zero_le _) fun i hi => ?_
  refine awp_seq ?_
  refine awp_seq ?_
  by_cases hc : (i : Int) < W.length
  rotate_left
  · refine awp_run rfl (by simp only [fwA, seval, gfw, bx, dx, hc] <;> rfl) ?_
    refine awp_cond (b := false) (by simp [alook, aput, ev]) ?_
    refine awp_exit ?_
    have e : i = W.length := by omega
    subst e
    rw [List.take_length]
    refine awp_seq ?_
    refine awp_run rfl (by simp only [fwA, seval, gfw, bx, dx] <;> rfl) ?_
    refine awp_ret ?_
    refine calls_at (fn := Tryz.f46) (p := .row H.length 0 W.flatten.length 3) (.inl rfl) (bd_app (fun B hB => hbd B hB) (by simp only [List.all_cons, List.all_nil, Blk.bd, Tk.bdM, Bool.and_true])) (by simp [ares, aresL, ares1, alook, Tryz.f46]) (by simp [PV.bd]) (by simp) ⟨rfl, rfl⟩
  have hil : i < W.length := by omega
  obtain ⟨z, hz⟩ : ∃ z, W[i]? = some z := ⟨_, List.getElem?_eq_getElem hil⟩
  have hts : (W.take (i + 1)).flatten = (W.take i).flatten ++ z := by rw [take_snoc hz]; simp
  have hle := flat_take W (i + 1)
  rw [hts, List.length_append] at hle
  have hwi : IntKind.i64.wrap ((i : Int) + 1) = ((i + 1 : Nat) : Int) := wrapS i (by omega)
  have hg : (H ++ [Blk.row 3 (((W.take i).flatten.map Tk.enc).flatten)])[H.length]? = some (Blk.row 3 (((W.take i).flatten.map Tk.enc).flatten)) := get_at0 H _
  refine awp_run rfl (by simp only [fwA, seval, gfw, bx, dx, hc] <;> rfl) ?_
  refine awp_cond (b := true) (by simp [alook, aput, ev]) ?_
  refine awp_skip ?_
  refine awp_seq ?_
  refine awp_block ?_
  refine awp_region rfl ?_
  refine aops_run 5 (by simp only [fwA, seval, gfw, bx, dx, hz, TW_fw] <;> rfl) ?_
  refine aops_pushs (enc := Tk.enc) (l := (W.take i).flatten) (ys := z) Tk.enc_len rfl rfl un28 ti40 rfl un28 rfl hg rfl rfl (by show (_ + _) * 32 ≤ _; omega) (by omega) rfl ?_
  refine aops_run 1 (by simp only [fwA, seval, gfw, bx, dx, hz, TW_fw] <;> rfl) ?_
  refine aops_end ?_
  refine awp_run rfl (by simp only [fwA, seval, gfw, bx, dx] <;> rfl) ?_
  refine ⟨i + 1, by omega, by omega, by simp only [fwA, seval, List.map_cons, List.map_nil, hwi, hts, List.length_append], ?_, rfl⟩
  rw [hts]
end Go.Proofs.YtddnigahjahkbaaGreatDoor
namespace Go.Proofs.YtddnigahjahkbaaGreatDoor
set_option linter.unusedVariables false
set_option linter.unusedSimpArgs false
set_option maxRecDepth 100000
open Go.RowKit Fw
theorem c45 (Γ : Nat → PV) (t : Tm) (i : Nat) (k : Tm) (hk : t.kids[i]? = some k) (h19 : Gives Tryz.prog Γ 19 [.agg k.enc] (.vec ((toksT k).map Tk.enc) false)) (hL : (toksT k).length ≤ 900000000) :
    Gives Tryz.prog Γ 45 [.agg t.enc, .int .i64 i] (.vec ((withinT k).map Tk.enc) false) := by
  have hi := (List.getElem?_eq_some_iff.1 hk).1
  have o1 := c44 Γ [40]
  have o2 := c44 Γ [41]
  by_cases h : k.kind = 1 ∨ k.kind = 2
  · rw [show withinT k = toksT k by unfold withinT; rw [if_pos h]]
    refine fn_of_awp Tryz.func45 rfl (by simp [Tryz.f45]) rfl fun H => ?_
    refine awp_seq ?_
    refine awp_run rfl (by simp only [fwA, seval, gfw, bx, dx] <;> rfl) ?_
    refine awp_seq ?_
    refine awp_run rfl (by simp only [fwA, seval, gfw, bx, dx, Tm.fw, hk] <;> rfl) ?_
    refine awp_seq ?_
    refine awp_seq ?_
    rcases h with h | h
    · refine awp_run rfl (by simp only [fwA, seval, gfw, bx, dx, Tm.fw, h] <;> rfl) ?_
      refine awp_cond (b := true) (by simp [alook, aput, ev]) ?_
      refine awp_seq ?_
      refine awp_region rfl ?_
      refine aops_run 1 (by simp only [fwA, seval, gfw, bx, dx, Tm.fw] <;> rfl) ?_
      refine aops_fn rfl rfl rfl en19 h19 ?_
      refine aops_run 1 (by simp only [fwA, seval, gfw, bx, dx, Tm.fw] <;> rfl) ?_
      refine aops_end ?_
      refine awp_ret ?_
      exact gives_end (.inl rfl) _ rfl
    · refine awp_run rfl (by simp only [fwA, seval, gfw, bx, dx, Tm.fw, h] <;> rfl) ?_
      refine awp_cond (b := true) (by simp [alook, aput, ev]) ?_
      refine awp_seq ?_
      refine awp_region rfl ?_
      refine aops_run 1 (by simp only [fwA, seval, gfw, bx, dx, Tm.fw] <;> rfl) ?_
      refine aops_fn rfl rfl rfl en19 h19 ?_
      refine aops_run 1 (by simp only [fwA, seval, gfw, bx, dx, Tm.fw] <;> rfl) ?_
      refine aops_end ?_
      refine awp_ret ?_
      exact gives_end (.inl rfl) _ rfl
  have h1 : ¬ k.kind = 1 := fun e => h (.inl e)
  have h2 : ¬ k.kind = 2 := fun e => h (.inr e)
  have hw : withinT k = ([[⟨4, [40], 0⟩], toksT k, [⟨4, [41], 0⟩]] : List (List Tk)).flatten := by unfold withinT; rw [if_neg h]; simp
  have h46 := c46 Γ [[⟨4, [40], 0⟩], toksT k, [⟨4, [41], 0⟩]] true (by rw [← hw]; unfold withinT; rw [if_neg h]; simp only [List.length_append, List.length_cons, List.length_nil]; omega)
  rw [← hw] at h46
  refine fn_of_awp Tryz.func45 rfl (by simp [Tryz.f45]) rfl fun H => ?_
  refine awp_seq ?_
  refine awp_run rfl (by simp only [fwA, seval, gfw, bx, dx] <;> rfl) ?_
  refine awp_seq ?_
  refine awp_run rfl (by simp only [fwA, seval, gfw, bx, dx, Tm.fw, hk] <;> rfl) ?_
  refine awp_seq ?_
  refine awp_seq ?_
  refine awp_run rfl (by simp only [fwA, seval, gfw, bx, dx, Tm.fw, h1, h2] <;> rfl) ?_
  refine awp_cond (b := false) (by simp [alook, aput, ev]) (awp_skip ?_)
  refine awp_seq ?_
  refine awp_drawn [0, 1, 0, 0, 0, 0, 0] [0, 0, 3, 7, 15, 31, 63] mixed rfl (by kernel_rfl) ?_
  refine dops_fn rfl (by simp only [fwA, seval] <;> rfl) rfl rfl en44 o1 ?_
  refine dops_run 1 (by simp only [fwA, seval, gfw, bx, dx, Tm.fw] <;> rfl) ?_
  refine dops_fn rfl (by simp only [fwA, seval] <;> rfl) rfl rfl en19 h19 ?_
  refine dops_fn rfl (by simp only [fwA, seval] <;> rfl) rfl rfl en44 o2 ?_
  refine dops_run 1 (by simp only [fwA, seval, gfw, bx, dx, Tm.fw] <;> rfl) ?_
  refine dops_fn rfl (by simp only [fwA, seval] <;> rfl) rfl rfl en46 h46 ?_
  refine dops_run 1 (by simp only [fwA, seval, gfw, bx, dx, Tm.fw] <;> rfl) ?_
  refine dops_end ?_
  refine awp_ret ?_
  exact gives_end (.inl rfl) _ rfl
theorem gives_dec (Γ : Nat → PV) {n : Int} (h0 : 0 ≤ n) (h1 : n < 9223372036854775808) : Gives Tryz.prog Γ 41 [.int .i64 n] (.str (Lib.itoa n)) := by
  have := c41 Γ n.toNat (by omega)
  rwa [Int.toNat_of_nonneg h0, ← itoa_dec h0] at this
set_option maxHeartbeats 16000000 in
theorem c19 (Γ : Nat → PV) : ∀ t : Tm, Nodes t → t.w ≤ 100000000 → Gives Tryz.prog Γ 19 [.agg t.enc] (.vec ((toksT t).map Tk.enc) false) := by
  refine Tm.ind fun t ih hN hw => ?_
  obtain ⟨⟨hk1, hk2⟩, hlen, hn1, hn2, hn3, hnm⟩ := hN.node
  have hks := hN.kids
  have hL := toks_len t
  have h45 : ∀ (i : Nat) k, t.kids[i]? = some k → Gives Tryz.prog Γ 45 [.agg t.enc, .int .i64 i] (.vec ((withinT k).map Tk.enc) false) := fun i k hk => by
    have hm := List.mem_of_getElem? hk
    have h1 := Tm.kid_w hm
    have h2 := toks_len k
    exact c45 Γ t i k hk (ih k hm (hks k hm) (by omega)) (by omega)
  have hcs : t.kind = 1 ∨ t.kind = 2 ∨ t.kind = 3 ∨ t.kind = 4 ∨ t.kind = 5 ∨ t.kind = 6 ∨ t.kind = 7 ∨ t.kind = 8 ∨ t.kind = 9 ∨ t.kind = 10 ∨ t.kind = 11 ∨ t.kind = 12 ∨ t.kind = 13 := by omega
  refine fn_of_awp Tryz.func19 rfl (by simp [Tryz.f19]) rfl fun H => ?_
  refine awp_seq ?_
  refine awp_run rfl (by simp only [fwA, seval, gfw, bx, dx] <;> rfl) ?_
  refine awp_seq ?_
  refine awp_run rfl (by simp only [fwA, seval, gfw, bx, dx] <;> rfl) ?_
  refine awp_join [3] (fun W : List (List PV) × List (List Tk) => [.vec W.1 false]) (fun _ => H ++ [.box t.enc]) (fun W => toksT t = W.2.flatten ∧ PV.leLL W.1 (W.2.map TW)) ?_ fun W hW => ?_
  rotate_left
  · obtain ⟨V, W⟩ := W
    obtain ⟨hW, hV⟩ := hW
    simp only at hW hV ⊢
    refine awp_told (told_le 3 (.vec (W.map TW) false) ⟨nofun, hV⟩) ?_
    have h46 := c46 Γ W false (by rw [← hW]; omega)
    rw [← hW] at h46
    refine awp_seq ?_
    refine awp_region rfl ?_
    refine aops_run 1 (by simp only [fwA, seval, gfw, bx, dx] <;> rfl) ?_
    refine aops_fn rfl rfl rfl en46 h46 ?_
    refine aops_run 1 (by simp only [fwA, seval, gfw, bx, dx] <;> rfl) ?_
    refine aops_end ?_
    refine awp_ret ?_
    exact gives_end (.inl rfl) _ rfl
  refine awp_seq ?_
  refine awp_run rfl (by simp only [fwA, seval, gfw, bx, dx, Tm.fw] <;> rfl) ?_
  refine awp_block ?_
  rcases hcs with hk | hk | hk | hk | hk | hk | hk | hk | hk | hk | hk | hk | hk
  · -- kind 1
    have hm : t.kids.length = 0 := by rw [hk] at hlen; have h0 : kidsTab.getD (Int.toNat 1) 0 = 0 := rfl; omega
    have e := List.eq_nil_of_length_eq_zero hm
    have d1 := gives_dec Γ hn2 (by omega)
    refine awp_seq ?_
    refine awp_run rfl (by simp only [fwA, seval, gfw, bx, dx, hk] <;> rfl) ?_
    refine awp_cond (b := true) (by simp [alook, aput, ev]) ?_
    refine awp_drawn [0, 0, 1, 0, 0, 1, 0, 0, 0, 0, 0] [0, 0, 2, 6, 0, 16, 62, 126, 254, 511, 1023] mixed rfl (by kernel_rfl) ?_
    refine dops_run 3 (by simp only [fwA, seval, gfw, bx, dx, Tm.fw] <;> rfl) ?_
    refine dops_fn rfl (by simp only [fwA, seval] <;> rfl) rfl rfl en41 d1 ?_
    refine dops_run 5 (by simp only [fwA, seval, gfw, bx, dx, Tm.fw] <;> rfl) ?_
    refine dops_one _ rfl rfl (fun H A' hev => os_appendVV (es := []) rfl un75 ti28 un75 ((hev _ (by simp [Op.operands, Call.operands])).trans rfl) (by simp) ((hev _ (by simp [Op.operands, Call.operands])).trans rfl) (by intro e he; simp at he; rcases he with rfl <;> rfl) (by simp) (by simp) ⟨rfl, rfl⟩) ?_
    refine dops_run 1 (by simp only [fwA, seval, gfw, bx, dx, Tm.fw] <;> rfl) ?_
    refine dops_end ?_
    exact ⟨([[.vec ([(⟨2, Lib.itoa t.n, t.n⟩ : Tk)].map Tk.enc) true]], [[⟨2, Lib.itoa t.n, t.n⟩]]), ⟨by rw [toksT_eq, hk, e]; simp [layT], ⟨⟨⟨nofun, PV.leLL_refl _⟩, trivial⟩, trivial⟩⟩, rfl, rfl, rfl⟩
  · -- kind 2
    have hm : t.kids.length = 0 := by rw [hk] at hlen; have h0 : kidsTab.getD (Int.toNat 2) 0 = 0 := rfl; omega
    have e := List.eq_nil_of_length_eq_zero hm
    have o3 := c42 Γ t.name
    refine awp_seq ?_
    refine awp_run rfl (by simp only [fwA, seval, gfw, bx, dx, hk] <;> rfl) ?_
    refine awp_cond (b := false) (by simp [alook, aput, ev]) ?_
    refine awp_seq ?_
    refine awp_run rfl (by simp only [fwA, seval, gfw, bx, dx, hk] <;> rfl) ?_
    refine awp_cond (b := true) (by simp [alook, aput, ev]) ?_
    refine awp_region rfl ?_
    refine aops_run 3 (by simp only [fwA, seval, gfw, bx, dx, Tm.fw] <;> rfl) ?_
    refine aops_fn rfl rfl rfl en42 o3 ?_
    refine aops_run 1 (by simp only [fwA, seval, gfw, bx, dx, Tm.fw] <;> rfl) ?_
    refine aops_one rfl (os_appendVV (es := []) rfl un75 ti28 un75 rfl (by simp) rfl (by intro e he; simp at he; rcases he with rfl <;> rfl) (by simp) (by simp) ?_)
    refine aops_run 1 (by simp only [fwA, seval, gfw, bx, dx, Tm.fw] <;> rfl) ?_
    refine aops_end ?_
    exact ⟨((([[⟨1, t.name, 0⟩]] : List (List Tk))).map TW, [[⟨1, t.name, 0⟩]]), ⟨by rw [toksT_eq, hk, e]; simp [layT], PV.leLL_refl _⟩, rfl, rfl, rfl⟩
  · -- kind 3
    have hm : t.kids.length = 1 := by rw [hk] at hlen; have h0 : kidsTab.getD (Int.toNat 3) 0 = 1 := rfl; omega
    obtain ⟨k0, e⟩ := List.length_eq_one_iff.1 hm
    have g0 := h45 0 k0 (by rw [e]; rfl)
    have o1 := c43 Γ [102, 117, 110]
    have o4 := c42 Γ t.name
    have o5 := c44 Γ [61, 62]
    refine awp_seq ?_
    refine awp_run rfl (by simp only [fwA, seval, gfw, bx, dx, hk] <;> rfl) ?_
    refine awp_cond (b := false) (by simp [alook, aput, ev]) ?_
    refine awp_seq ?_
    refine awp_run rfl (by simp only [fwA, seval, gfw, bx, dx, hk] <;> rfl) ?_
    refine awp_cond (b := false) (by simp [alook, aput, ev]) ?_
    refine awp_seq ?_
    refine awp_run rfl (by simp only [fwA, seval, gfw, bx, dx, hk] <;> rfl) ?_
    refine awp_cond (b := true) (by simp [alook, aput, ev]) ?_
    refine awp_drawn [0, 0, 0, 1, 0, 0, 1, 0, 0, 0, 0] [0, 0, 0, 4, 14, 30, 0, 126, 254, 511, 1023] mixed rfl (by kernel_rfl) ?_
    refine dops_run 1 (by simp only [fwA, seval, gfw, bx, dx, Tm.fw] <;> rfl) ?_
    refine dops_fn rfl (by simp only [fwA, seval] <;> rfl) rfl rfl en43 o1 ?_
    refine dops_run 2 (by simp only [fwA, seval, gfw, bx, dx, Tm.fw] <;> rfl) ?_
    refine dops_fn rfl (by simp only [fwA, seval] <;> rfl) rfl rfl en42 o4 ?_
    refine dops_fn rfl (by simp only [fwA, seval] <;> rfl) rfl rfl en44 o5 ?_
    refine dops_run 1 (by simp only [fwA, seval, gfw, bx, dx, Tm.fw] <;> rfl) ?_
    refine dops_fn rfl (by simp only [fwA, seval] <;> rfl) rfl rfl en45 g0 ?_
    refine dops_run 1 (by simp only [fwA, seval, gfw, bx, dx, Tm.fw] <;> rfl) ?_
    refine dops_one _ rfl rfl (fun H A' hev => os_appendVV (es := []) rfl un75 ti28 un75 ((hev _ (by simp [Op.operands, Call.operands])).trans rfl) (by simp) ((hev _ (by simp [Op.operands, Call.operands])).trans rfl) (by intro e he; simp at he; rcases he with rfl | rfl | rfl | rfl <;> rfl) (by simp) (by simp) ⟨rfl, rfl⟩) ?_
    refine dops_run 1 (by simp only [fwA, seval, gfw, bx, dx, Tm.fw] <;> rfl) ?_
    refine dops_end ?_
    exact ⟨((([[⟨3, [102, 117, 110], 0⟩], [⟨1, t.name, 0⟩], [⟨4, [61, 62], 0⟩], withinT k0] : List (List Tk))).map TW, [[⟨3, [102, 117, 110], 0⟩], [⟨1, t.name, 0⟩], [⟨4, [61, 62], 0⟩], withinT k0]), ⟨by rw [toksT_eq, hk, e]; simp [layT], PV.leLL_refl _⟩, rfl, rfl, rfl⟩
  · -- kind 4
    have hm : t.kids.length = 2 := by rw [hk] at hlen; have h0 : kidsTab.getD (Int.toNat 4) 0 = 2 := rfl; omega
    obtain ⟨k0, k1, e⟩ := len2 hm
    have g0 := h45 0 k0 (by rw [e]; rfl)
    have g1 := h45 1 k1 (by rw [e]; rfl)
    refine awp_seq ?_
    refine awp_run rfl (by simp only [fwA, seval, gfw, bx, dx, hk] <;> rfl) ?_
    refine awp_cond (b := false) (by simp [alook, aput, ev]) ?_
    refine awp_seq ?_
    refine awp_run rfl (by simp only [fwA, seval, gfw, bx, dx, hk] <;> rfl) ?_
    refine awp_cond (b := false) (by simp [alook, aput, ev]) ?_
    refine awp_seq ?_
    refine awp_run rfl (by simp only [fwA, seval, gfw, bx, dx, hk] <;> rfl) ?_
    refine awp_cond (b := false) (by simp [alook, aput, ev]) ?_
    refine awp_seq ?_
    refine awp_run rfl (by simp only [fwA, seval, gfw, bx, dx, hk] <;> rfl) ?_
    refine awp_cond (b := true) (by simp [alook, aput, ev]) ?_
    refine awp_drawn [0, 1, 0, 1, 0, 0, 0, 0] [0, 0, 2, 0, 14, 30, 63, 127] mixed rfl (by kernel_rfl) ?_
    refine dops_run 2 (by simp only [fwA, seval, gfw, bx, dx, Tm.fw] <;> rfl) ?_
    refine dops_fn rfl (by simp only [fwA, seval] <;> rfl) rfl rfl en45 g0 ?_
    refine dops_run 1 (by simp only [fwA, seval, gfw, bx, dx, Tm.fw] <;> rfl) ?_
    refine dops_fn rfl (by simp only [fwA, seval] <;> rfl) rfl rfl en45 g1 ?_
    refine dops_run 1 (by simp only [fwA, seval, gfw, bx, dx, Tm.fw] <;> rfl) ?_
    refine dops_one _ rfl rfl (fun H A' hev => os_appendVV (es := []) rfl un75 ti28 un75 ((hev _ (by simp [Op.operands, Call.operands])).trans rfl) (by simp) ((hev _ (by simp [Op.operands, Call.operands])).trans rfl) (by intro e he; simp at he; rcases he with rfl | rfl <;> rfl) (by simp) (by simp) ⟨rfl, rfl⟩) ?_
    refine dops_run 1 (by simp only [fwA, seval, gfw, bx, dx, Tm.fw] <;> rfl) ?_
    refine dops_end ?_
    exact ⟨((([withinT k0, withinT k1] : List (List Tk))).map TW, [withinT k0, withinT k1]), ⟨by rw [toksT_eq, hk, e]; simp [layT], PV.leLL_refl _⟩, rfl, rfl, rfl⟩
  · -- kind 5
    have hm : t.kids.length = 2 := by rw [hk] at hlen; have h0 : kidsTab.getD (Int.toNat 5) 0 = 2 := rfl; omega
    obtain ⟨k0, k1, e⟩ := len2 hm
    have g0 := h45 0 k0 (by rw [e]; rfl)
    have g1 := h45 1 k1 (by rw [e]; rfl)
    have o1 := c43 Γ [108, 101, 116]
    have o4 := c42 Γ t.name
    have o5 := c44 Γ [61]
    have o8 := c43 Γ [105, 110]
    refine awp_seq ?_
    refine awp_run rfl (by simp only [fwA, seval, gfw, bx, dx, hk] <;> rfl) ?_
    refine awp_cond (b := false) (by simp [alook, aput, ev]) ?_
    refine awp_seq ?_
    refine awp_run rfl (by simp only [fwA, seval, gfw, bx, dx, hk] <;> rfl) ?_
    refine awp_cond (b := false) (by simp [alook, aput, ev]) ?_
    refine awp_seq ?_
    refine awp_run rfl (by simp only [fwA, seval, gfw, bx, dx, hk] <;> rfl) ?_
    refine awp_cond (b := false) (by simp [alook, aput, ev]) ?_
    refine awp_seq ?_
    refine awp_run rfl (by simp only [fwA, seval, gfw, bx, dx, hk] <;> rfl) ?_
    refine awp_cond (b := false) (by simp [alook, aput, ev]) ?_
    refine awp_seq ?_
    refine awp_run rfl (by simp only [fwA, seval, gfw, bx, dx, hk] <;> rfl) ?_
    refine awp_cond (b := true) (by simp [alook, aput, ev]) ?_
    refine awp_drawn [0, 0, 0, 1, 0, 0, 1, 0, 0, 1, 0, 0, 0, 0] [0, 0, 0, 4, 14, 30, 0, 126, 254, 0, 1022, 2046, 4095, 8191] mixed rfl (by kernel_rfl) ?_
    refine dops_run 1 (by simp only [fwA, seval, gfw, bx, dx, Tm.fw] <;> rfl) ?_
    refine dops_fn rfl (by simp only [fwA, seval] <;> rfl) rfl rfl en43 o1 ?_
    refine dops_run 2 (by simp only [fwA, seval, gfw, bx, dx, Tm.fw] <;> rfl) ?_
    refine dops_fn rfl (by simp only [fwA, seval] <;> rfl) rfl rfl en42 o4 ?_
    refine dops_fn rfl (by simp only [fwA, seval] <;> rfl) rfl rfl en44 o5 ?_
    refine dops_run 1 (by simp only [fwA, seval, gfw, bx, dx, Tm.fw] <;> rfl) ?_
    refine dops_fn rfl (by simp only [fwA, seval] <;> rfl) rfl rfl en45 g0 ?_
    refine dops_fn rfl (by simp only [fwA, seval] <;> rfl) rfl rfl en43 o8 ?_
    refine dops_run 1 (by simp only [fwA, seval, gfw, bx, dx, Tm.fw] <;> rfl) ?_
    refine dops_fn rfl (by simp only [fwA, seval] <;> rfl) rfl rfl en45 g1 ?_
    refine dops_run 1 (by simp only [fwA, seval, gfw, bx, dx, Tm.fw] <;> rfl) ?_
    refine dops_one _ rfl rfl (fun H A' hev => os_appendVV (es := []) rfl un75 ti28 un75 ((hev _ (by simp [Op.operands, Call.operands])).trans rfl) (by simp) ((hev _ (by simp [Op.operands, Call.operands])).trans rfl) (by intro e he; simp at he; rcases he with rfl | rfl | rfl | rfl | rfl | rfl <;> rfl) (by simp) (by simp) ⟨rfl, rfl⟩) ?_
    refine dops_run 1 (by simp only [fwA, seval, gfw, bx, dx, Tm.fw] <;> rfl) ?_
    refine dops_end ?_
    exact ⟨((([[⟨3, [108, 101, 116], 0⟩], [⟨1, t.name, 0⟩], [⟨4, [61], 0⟩], withinT k0, [⟨3, [105, 110], 0⟩], withinT k1] : List (List Tk))).map TW, [[⟨3, [108, 101, 116], 0⟩], [⟨1, t.name, 0⟩], [⟨4, [61], 0⟩], withinT k0, [⟨3, [105, 110], 0⟩], withinT k1]), ⟨by rw [toksT_eq, hk, e]; simp [layT], PV.leLL_refl _⟩, rfl, rfl, rfl⟩
  · -- kind 6
    have hm : t.kids.length = 3 := by rw [hk] at hlen; have h0 : kidsTab.getD (Int.toNat 6) 0 = 3 := rfl; omega
    obtain ⟨k0, k1, k2, e⟩ := len3 hm
    have g0 := h45 0 k0 (by rw [e]; rfl)
    have g1 := h45 1 k1 (by rw [e]; rfl)
    have g2 := h45 2 k2 (by rw [e]; rfl)
    have o1 := c43 Γ [105, 102]
    have o4 := c43 Γ [116, 104, 101, 110]
    have o7 := c43 Γ [101, 108, 115, 101]
    refine awp_seq ?_
    refine awp_run rfl (by simp only [fwA, seval, gfw, bx, dx, hk] <;> rfl) ?_
    refine awp_cond (b := false) (by simp [alook, aput, ev]) ?_
    refine awp_seq ?_
    refine awp_run rfl (by simp only [fwA, seval, gfw, bx, dx, hk] <;> rfl) ?_
    refine awp_cond (b := false) (by simp [alook, aput, ev]) ?_
    refine awp_seq ?_
    refine awp_run rfl (by simp only [fwA, seval, gfw, bx, dx, hk] <;> rfl) ?_
    refine awp_cond (b := false) (by simp [alook, aput, ev]) ?_
    refine awp_seq ?_
    refine awp_run rfl (by simp only [fwA, seval, gfw, bx, dx, hk] <;> rfl) ?_
    refine awp_cond (b := false) (by simp [alook, aput, ev]) ?_
    refine awp_seq ?_
    refine awp_run rfl (by simp only [fwA, seval, gfw, bx, dx, hk] <;> rfl) ?_
    refine awp_cond (b := false) (by simp [alook, aput, ev]) ?_
    refine awp_seq ?_
    refine awp_run rfl (by simp only [fwA, seval, gfw, bx, dx, hk] <;> rfl) ?_
    refine awp_cond (b := true) (by simp [alook, aput, ev]) ?_
    refine awp_drawn [0, 0, 1, 0, 0, 1, 0, 0, 1, 0, 0, 0, 0] [0, 0, 0, 6, 14, 0, 62, 126, 0, 510, 1022, 2047, 4095] mixed rfl (by kernel_rfl) ?_
    refine dops_run 1 (by simp only [fwA, seval, gfw, bx, dx, Tm.fw] <;> rfl) ?_
    refine dops_fn rfl (by simp only [fwA, seval] <;> rfl) rfl rfl en43 o1 ?_
    refine dops_run 1 (by simp only [fwA, seval, gfw, bx, dx, Tm.fw] <;> rfl) ?_
    refine dops_fn rfl (by simp only [fwA, seval] <;> rfl) rfl rfl en45 g0 ?_
    refine dops_fn rfl (by simp only [fwA, seval] <;> rfl) rfl rfl en43 o4 ?_
    refine dops_run 1 (by simp only [fwA, seval, gfw, bx, dx, Tm.fw] <;> rfl) ?_
    refine dops_fn rfl (by simp only [fwA, seval] <;> rfl) rfl rfl en45 g1 ?_
    refine dops_fn rfl (by simp only [fwA, seval] <;> rfl) rfl rfl en43 o7 ?_
    refine dops_run 1 (by simp only [fwA, seval, gfw, bx, dx, Tm.fw] <;> rfl) ?_
    refine dops_fn rfl (by simp only [fwA, seval] <;> rfl) rfl rfl en45 g2 ?_
    refine dops_run 1 (by simp only [fwA, seval, gfw, bx, dx, Tm.fw] <;> rfl) ?_
    refine dops_one _ rfl rfl (fun H A' hev => os_appendVV (es := []) rfl un75 ti28 un75 ((hev _ (by simp [Op.operands, Call.operands])).trans rfl) (by simp) ((hev _ (by simp [Op.operands, Call.operands])).trans rfl) (by intro e he; simp at he; rcases he with rfl | rfl | rfl | rfl | rfl | rfl <;> rfl) (by simp) (by simp) ⟨rfl, rfl⟩) ?_
    refine dops_run 1 (by simp only [fwA, seval, gfw, bx, dx, Tm.fw] <;> rfl) ?_
    refine dops_end ?_
    exact ⟨((([[⟨3, [105, 102], 0⟩], withinT k0, [⟨3, [116, 104, 101, 110], 0⟩], withinT k1, [⟨3, [101, 108, 115, 101], 0⟩], withinT k2] : List (List Tk))).map TW, [[⟨3, [105, 102], 0⟩], withinT k0, [⟨3, [116, 104, 101, 110], 0⟩], withinT k1, [⟨3, [101, 108, 115, 101], 0⟩], withinT k2]), ⟨by rw [toksT_eq, hk, e]; simp [layT], PV.leLL_refl _⟩, rfl, rfl, rfl⟩
  · -- kind 7
    have hm : t.kids.length = 2 := by rw [hk] at hlen; have h0 : kidsTab.getD (Int.toNat 7) 0 = 2 := rfl; omega
    obtain ⟨k0, k1, e⟩ := len2 hm
    have g0 := h45 0 k0 (by rw [e]; rfl)
    have g1 := h45 1 k1 (by rw [e]; rfl)
    have o1 := c43 Γ [119, 104, 105, 108, 101]
    have o4 := c43 Γ [100, 111]
    refine awp_seq ?_
    refine awp_run rfl (by simp only [fwA, seval, gfw, bx, dx, hk] <;> rfl) ?_
    refine awp_cond (b := false) (by simp [alook, aput, ev]) ?_
    refine awp_seq ?_
    refine awp_run rfl (by simp only [fwA, seval, gfw, bx, dx, hk] <;> rfl) ?_
    refine awp_cond (b := false) (by simp [alook, aput, ev]) ?_
    refine awp_seq ?_
    refine awp_run rfl (by simp only [fwA, seval, gfw, bx, dx, hk] <;> rfl) ?_
    refine awp_cond (b := false) (by simp [alook, aput, ev]) ?_
    refine awp_seq ?_
    refine awp_run rfl (by simp only [fwA, seval, gfw, bx, dx, hk] <;> rfl) ?_
    refine awp_cond (b := false) (by simp [alook, aput, ev]) ?_
    refine awp_seq ?_
    refine awp_run rfl (by simp only [fwA, seval, gfw, bx, dx, hk] <;> rfl) ?_
    refine awp_cond (b := false) (by simp [alook, aput, ev]) ?_
    refine awp_seq ?_
    refine awp_run rfl (by simp only [fwA, seval, gfw, bx, dx, hk] <;> rfl) ?_
    refine awp_cond (b := false) (by simp [alook, aput, ev]) ?_
    refine awp_seq ?_
    refine awp_run rfl (by simp only [fwA, seval, gfw, bx, dx, hk] <;> rfl) ?_
    refine awp_cond (b := true) (by simp [alook, aput, ev]) ?_
    refine awp_drawn [0, 0, 1, 0, 0, 1, 0, 0, 0, 0] [0, 0, 0, 6, 14, 0, 62, 126, 255, 511] mixed rfl (by kernel_rfl) ?_
    refine dops_run 1 (by simp only [fwA, seval, gfw, bx, dx, Tm.fw] <;> rfl) ?_
    refine dops_fn rfl (by simp only [fwA, seval] <;> rfl) rfl rfl en43 o1 ?_
    refine dops_run 1 (by simp only [fwA, seval, gfw, bx, dx, Tm.fw] <;> rfl) ?_
    refine dops_fn rfl (by simp only [fwA, seval] <;> rfl) rfl rfl en45 g0 ?_
    refine dops_fn rfl (by simp only [fwA, seval] <;> rfl) rfl rfl en43 o4 ?_
    refine dops_run 1 (by simp only [fwA, seval, gfw, bx, dx, Tm.fw] <;> rfl) ?_
    refine dops_fn rfl (by simp only [fwA, seval] <;> rfl) rfl rfl en45 g1 ?_
    refine dops_run 1 (by simp only [fwA, seval, gfw, bx, dx, Tm.fw] <;> rfl) ?_
    refine dops_one _ rfl rfl (fun H A' hev => os_appendVV (es := []) rfl un75 ti28 un75 ((hev _ (by simp [Op.operands, Call.operands])).trans rfl) (by simp) ((hev _ (by simp [Op.operands, Call.operands])).trans rfl) (by intro e he; simp at he; rcases he with rfl | rfl | rfl | rfl <;> rfl) (by simp) (by simp) ⟨rfl, rfl⟩) ?_
    refine dops_run 1 (by simp only [fwA, seval, gfw, bx, dx, Tm.fw] <;> rfl) ?_
    refine dops_end ?_
    exact ⟨((([[⟨3, [119, 104, 105, 108, 101], 0⟩], withinT k0, [⟨3, [100, 111], 0⟩], withinT k1] : List (List Tk))).map TW, [[⟨3, [119, 104, 105, 108, 101], 0⟩], withinT k0, [⟨3, [100, 111], 0⟩], withinT k1]), ⟨by rw [toksT_eq, hk, e]; simp [layT], PV.leLL_refl _⟩, rfl, rfl, rfl⟩
  · -- kind 8
    have hm : t.kids.length = 1 := by rw [hk] at hlen; have h0 : kidsTab.getD (Int.toNat 8) 0 = 1 := rfl; omega
    obtain ⟨k0, e⟩ := List.length_eq_one_iff.1 hm
    have g0 := h45 0 k0 (by rw [e]; rfl)
    have o1 := c43 Γ [114, 97, 105, 115, 101]
    refine awp_seq ?_
    refine awp_run rfl (by simp only [fwA, seval, gfw, bx, dx, hk] <;> rfl) ?_
    refine awp_cond (b := false) (by simp [alook, aput, ev]) ?_
    refine awp_seq ?_
    refine awp_run rfl (by simp only [fwA, seval, gfw, bx, dx, hk] <;> rfl) ?_
    refine awp_cond (b := false) (by simp [alook, aput, ev]) ?_
    refine awp_seq ?_
    refine awp_run rfl (by simp only [fwA, seval, gfw, bx, dx, hk] <;> rfl) ?_
    refine awp_cond (b := false) (by simp [alook, aput, ev]) ?_
    refine awp_seq ?_
    refine awp_run rfl (by simp only [fwA, seval, gfw, bx, dx, hk] <;> rfl) ?_
    refine awp_cond (b := false) (by simp [alook, aput, ev]) ?_
    refine awp_seq ?_
    refine awp_run rfl (by simp only [fwA, seval, gfw, bx, dx, hk] <;> rfl) ?_
    refine awp_cond (b := false) (by simp [alook, aput, ev]) ?_
    refine awp_seq ?_
    refine awp_run rfl (by simp only [fwA, seval, gfw, bx, dx, hk] <;> rfl) ?_
    refine awp_cond (b := false) (by simp [alook, aput, ev]) ?_
    refine awp_seq ?_
    refine awp_run rfl (by simp only [fwA, seval, gfw, bx, dx, hk] <;> rfl) ?_
    refine awp_cond (b := false) (by simp [alook, aput, ev]) ?_
    refine awp_seq ?_
    refine awp_run rfl (by simp only [fwA, seval, gfw, bx, dx, hk] <;> rfl) ?_
    refine awp_cond (b := true) (by simp [alook, aput, ev]) ?_
    refine awp_drawn [0, 0, 1, 0, 0, 0, 0] [0, 0, 0, 6, 14, 31, 63] mixed rfl (by kernel_rfl) ?_
    refine dops_run 1 (by simp only [fwA, seval, gfw, bx, dx, Tm.fw] <;> rfl) ?_
    refine dops_fn rfl (by simp only [fwA, seval] <;> rfl) rfl rfl en43 o1 ?_
    refine dops_run 1 (by simp only [fwA, seval, gfw, bx, dx, Tm.fw] <;> rfl) ?_
    refine dops_fn rfl (by simp only [fwA, seval] <;> rfl) rfl rfl en45 g0 ?_
    refine dops_run 1 (by simp only [fwA, seval, gfw, bx, dx, Tm.fw] <;> rfl) ?_
    refine dops_one _ rfl rfl (fun H A' hev => os_appendVV (es := []) rfl un75 ti28 un75 ((hev _ (by simp [Op.operands, Call.operands])).trans rfl) (by simp) ((hev _ (by simp [Op.operands, Call.operands])).trans rfl) (by intro e he; simp at he; rcases he with rfl | rfl <;> rfl) (by simp) (by simp) ⟨rfl, rfl⟩) ?_
    refine dops_run 1 (by simp only [fwA, seval, gfw, bx, dx, Tm.fw] <;> rfl) ?_
    refine dops_end ?_
    exact ⟨((([[⟨3, [114, 97, 105, 115, 101], 0⟩], withinT k0] : List (List Tk))).map TW, [[⟨3, [114, 97, 105, 115, 101], 0⟩], withinT k0]), ⟨by rw [toksT_eq, hk, e]; simp [layT], PV.leLL_refl _⟩, rfl, rfl, rfl⟩
  · -- kind 9
    have hm : t.kids.length = 2 := by rw [hk] at hlen; have h0 : kidsTab.getD (Int.toNat 9) 0 = 2 := rfl; omega
    obtain ⟨k0, k1, e⟩ := len2 hm
    have g0 := h45 0 k0 (by rw [e]; rfl)
    have g1 := h45 1 k1 (by rw [e]; rfl)
    have o1 := c43 Γ [116, 114, 121]
    have o4 := c43 Γ [119, 105, 116, 104]
    have o7 := c42 Γ t.name
    have o8 := c44 Γ [61, 62]
    refine awp_seq ?_
    refine awp_run rfl (by simp only [fwA, seval, gfw, bx, dx, hk] <;> rfl) ?_
    refine awp_cond (b := false) (by simp [alook, aput, ev]) ?_
    refine awp_seq ?_
    refine awp_run rfl (by simp only [fwA, seval, gfw, bx, dx, hk] <;> rfl) ?_
    refine awp_cond (b := false) (by simp [alook, aput, ev]) ?_
    refine awp_seq ?_
    refine awp_run rfl (by simp only [fwA, seval, gfw, bx, dx, hk] <;> rfl) ?_
    refine awp_cond (b := false) (by simp [alook, aput, ev]) ?_
    refine awp_seq ?_
    refine awp_run rfl (by simp only [fwA, seval, gfw, bx, dx, hk] <;> rfl) ?_
    refine awp_cond (b := false) (by simp [alook, aput, ev]) ?_
    refine awp_seq ?_
    refine awp_run rfl (by simp only [fwA, seval, gfw, bx, dx, hk] <;> rfl) ?_
    refine awp_cond (b := false) (by simp [alook, aput, ev]) ?_
    refine awp_seq ?_
    refine awp_run rfl (by simp only [fwA, seval, gfw, bx, dx, hk] <;> rfl) ?_
    refine awp_cond (b := false) (by simp [alook, aput, ev]) ?_
    refine awp_seq ?_
    refine awp_run rfl (by simp only [fwA, seval, gfw, bx, dx, hk] <;> rfl) ?_
    refine awp_cond (b := false) (by simp [alook, aput, ev]) ?_
    refine awp_seq ?_
    refine awp_run rfl (by simp only [fwA, seval, gfw, bx, dx, hk] <;> rfl) ?_
    refine awp_cond (b := false) (by simp [alook, aput, ev]) ?_
    refine awp_seq ?_
    refine awp_run rfl (by simp only [fwA, seval, gfw, bx, dx, hk] <;> rfl) ?_
    refine awp_cond (b := true) (by simp [alook, aput, ev]) ?_
    refine awp_drawn [0, 0, 1, 0, 0, 0, 1, 0, 0, 1, 0, 0, 0, 0] [0, 0, 0, 6, 14, 0, 32, 126, 254, 0, 1022, 2046, 4095, 8191] mixed rfl (by kernel_rfl) ?_
    refine dops_run 1 (by simp only [fwA, seval, gfw, bx, dx, Tm.fw] <;> rfl) ?_
    refine dops_fn rfl (by simp only [fwA, seval] <;> rfl) rfl rfl en43 o1 ?_
    refine dops_run 1 (by simp only [fwA, seval, gfw, bx, dx, Tm.fw] <;> rfl) ?_
    refine dops_fn rfl (by simp only [fwA, seval] <;> rfl) rfl rfl en45 g0 ?_
    refine dops_fn rfl (by simp only [fwA, seval] <;> rfl) rfl rfl en43 o4 ?_
    refine dops_run 2 (by simp only [fwA, seval, gfw, bx, dx, Tm.fw] <;> rfl) ?_
    refine dops_fn rfl (by simp only [fwA, seval] <;> rfl) rfl rfl en42 o7 ?_
    refine dops_fn rfl (by simp only [fwA, seval] <;> rfl) rfl rfl en44 o8 ?_
    refine dops_run 1 (by simp only [fwA, seval, gfw, bx, dx, Tm.fw] <;> rfl) ?_
    refine dops_fn rfl (by simp only [fwA, seval] <;> rfl) rfl rfl en45 g1 ?_
    refine dops_run 1 (by simp only [fwA, seval, gfw, bx, dx, Tm.fw] <;> rfl) ?_
    refine dops_one _ rfl rfl (fun H A' hev => os_appendVV (es := []) rfl un75 ti28 un75 ((hev _ (by simp [Op.operands, Call.operands])).trans rfl) (by simp) ((hev _ (by simp [Op.operands, Call.operands])).trans rfl) (by intro e he; simp at he; rcases he with rfl | rfl | rfl | rfl | rfl | rfl <;> rfl) (by simp) (by simp) ⟨rfl, rfl⟩) ?_
    refine dops_run 1 (by simp only [fwA, seval, gfw, bx, dx, Tm.fw] <;> rfl) ?_
    refine dops_end ?_
    exact ⟨((([[⟨3, [116, 114, 121], 0⟩], withinT k0, [⟨3, [119, 105, 116, 104], 0⟩], [⟨1, t.name, 0⟩], [⟨4, [61, 62], 0⟩], withinT k1] : List (List Tk))).map TW, [[⟨3, [116, 114, 121], 0⟩], withinT k0, [⟨3, [119, 105, 116, 104], 0⟩], [⟨1, t.name, 0⟩], [⟨4, [61, 62], 0⟩], withinT k1]), ⟨by rw [toksT_eq, hk, e]; simp [layT], PV.leLL_refl _⟩, rfl, rfl, rfl⟩
  · -- kind 10
    have hm : t.kids.length = 1 := by rw [hk] at hlen; have h0 : kidsTab.getD (Int.toNat 10) 0 = 1 := rfl; omega
    obtain ⟨k0, e⟩ := List.length_eq_one_iff.1 hm
    have g0 := h45 0 k0 (by rw [e]; rfl)
    have o1 := c44 Γ [33]
    refine awp_seq ?_
    refine awp_run rfl (by simp only [fwA, seval, gfw, bx, dx, hk] <;> rfl) ?_
    refine awp_cond (b := false) (by simp [alook, aput, ev]) ?_
    refine awp_seq ?_
    refine awp_run rfl (by simp only [fwA, seval, gfw, bx, dx, hk] <;> rfl) ?_
    refine awp_cond (b := false) (by simp [alook, aput, ev]) ?_
    refine awp_seq ?_
    refine awp_run rfl (by simp only [fwA, seval, gfw, bx, dx, hk] <;> rfl) ?_
    refine awp_cond (b := false) (by simp [alook, aput, ev]) ?_
    refine awp_seq ?_
    refine awp_run rfl (by simp only [fwA, seval, gfw, bx, dx, hk] <;> rfl) ?_
    refine awp_cond (b := false) (by simp [alook, aput, ev]) ?_
    refine awp_seq ?_
    refine awp_run rfl (by simp only [fwA, seval, gfw, bx, dx, hk] <;> rfl) ?_
    refine awp_cond (b := false) (by simp [alook, aput, ev]) ?_
    refine awp_seq ?_
    refine awp_run rfl (by simp only [fwA, seval, gfw, bx, dx, hk] <;> rfl) ?_
    refine awp_cond (b := false) (by simp [alook, aput, ev]) ?_
    refine awp_seq ?_
    refine awp_run rfl (by simp only [fwA, seval, gfw, bx, dx, hk] <;> rfl) ?_
    refine awp_cond (b := false) (by simp [alook, aput, ev]) ?_
    refine awp_seq ?_
    refine awp_run rfl (by simp only [fwA, seval, gfw, bx, dx, hk] <;> rfl) ?_
    refine awp_cond (b := false) (by simp [alook, aput, ev]) ?_
    refine awp_seq ?_
    refine awp_run rfl (by simp only [fwA, seval, gfw, bx, dx, hk] <;> rfl) ?_
    refine awp_cond (b := false) (by simp [alook, aput, ev]) ?_
    refine awp_seq ?_
    refine awp_run rfl (by simp only [fwA, seval, gfw, bx, dx, hk] <;> rfl) ?_
    refine awp_cond (b := true) (by simp [alook, aput, ev]) ?_
    refine awp_drawn [0, 0, 1, 0, 0, 0, 0] [0, 0, 0, 6, 14, 31, 63] mixed rfl (by kernel_rfl) ?_
    refine dops_run 1 (by simp only [fwA, seval, gfw, bx, dx, Tm.fw] <;> rfl) ?_
    refine dops_fn rfl (by simp only [fwA, seval] <;> rfl) rfl rfl en44 o1 ?_
    refine dops_run 1 (by simp only [fwA, seval, gfw, bx, dx, Tm.fw] <;> rfl) ?_
    refine dops_fn rfl (by simp only [fwA, seval] <;> rfl) rfl rfl en45 g0 ?_
    refine dops_run 1 (by simp only [fwA, seval, gfw, bx, dx, Tm.fw] <;> rfl) ?_
    refine dops_one _ rfl rfl (fun H A' hev => os_appendVV (es := []) rfl un75 ti28 un75 ((hev _ (by simp [Op.operands, Call.operands])).trans rfl) (by simp) ((hev _ (by simp [Op.operands, Call.operands])).trans rfl) (by intro e he; simp at he; rcases he with rfl | rfl <;> rfl) (by simp) (by simp) ⟨rfl, rfl⟩) ?_
    refine dops_run 1 (by simp only [fwA, seval, gfw, bx, dx, Tm.fw] <;> rfl) ?_
    refine dops_end ?_
    exact ⟨((([[⟨4, [33], 0⟩], withinT k0] : List (List Tk))).map TW, [[⟨4, [33], 0⟩], withinT k0]), ⟨by rw [toksT_eq, hk, e]; simp [layT], PV.leLL_refl _⟩, rfl, rfl, rfl⟩
  · -- kind 11
    have hm : t.kids.length = 2 := by rw [hk] at hlen; have h0 : kidsTab.getD (Int.toNat 11) 0 = 2 := rfl; omega
    obtain ⟨k0, k1, e⟩ := len2 hm
    have g0 := h45 0 k0 (by rw [e]; rfl)
    have g1 := h45 1 k1 (by rw [e]; rfl)
    have o3 := c44 Γ [58, 61]
    refine awp_seq ?_
    refine awp_run rfl (by simp only [fwA, seval, gfw, bx, dx, hk] <;> rfl) ?_
    refine awp_cond (b := false) (by simp [alook, aput, ev]) ?_
    refine awp_seq ?_
    refine awp_run rfl (by simp only [fwA, seval, gfw, bx, dx, hk] <;> rfl) ?_
    refine awp_cond (b := false) (by simp [alook, aput, ev]) ?_
    refine awp_seq ?_
    refine awp_run rfl (by simp only [fwA, seval, gfw, bx, dx, hk] <;> rfl) ?_
    refine awp_cond (b := false) (by simp [alook, aput, ev]) ?_
    refine awp_seq ?_
    refine awp_run rfl (by simp only [fwA, seval, gfw, bx, dx, hk] <;> rfl) ?_
    refine awp_cond (b := false) (by simp [alook, aput, ev]) ?_
    refine awp_seq ?_
    refine awp_run rfl (by simp only [fwA, seval, gfw, bx, dx, hk] <;> rfl) ?_
    refine awp_cond (b := false) (by simp [alook, aput, ev]) ?_
    refine awp_seq ?_
    refine awp_run rfl (by simp only [fwA, seval, gfw, bx, dx, hk] <;> rfl) ?_
    refine awp_cond (b := false) (by simp [alook, aput, ev]) ?_
    refine awp_seq ?_
    refine awp_run rfl (by simp only [fwA, seval, gfw, bx, dx, hk] <;> rfl) ?_
    refine awp_cond (b := false) (by simp [alook, aput, ev]) ?_
    refine awp_seq ?_
    refine awp_run rfl (by simp only [fwA, seval, gfw, bx, dx, hk] <;> rfl) ?_
    refine awp_cond (b := false) (by simp [alook, aput, ev]) ?_
    refine awp_seq ?_
    refine awp_run rfl (by simp only [fwA, seval, gfw, bx, dx, hk] <;> rfl) ?_
    refine awp_cond (b := false) (by simp [alook, aput, ev]) ?_
    refine awp_seq ?_
    refine awp_run rfl (by simp only [fwA, seval, gfw, bx, dx, hk] <;> rfl) ?_
    refine awp_cond (b := false) (by simp [alook, aput, ev]) ?_
    refine awp_seq ?_
    refine awp_run rfl (by simp only [fwA, seval, gfw, bx, dx, hk] <;> rfl) ?_
    refine awp_cond (b := true) (by simp [alook, aput, ev]) ?_
    refine awp_drawn [0, 1, 0, 0, 1, 0, 0, 0, 0] [0, 0, 2, 6, 0, 30, 62, 127, 255] mixed rfl (by kernel_rfl) ?_
    refine dops_run 2 (by simp only [fwA, seval, gfw, bx, dx, Tm.fw] <;> rfl) ?_
    refine dops_fn rfl (by simp only [fwA, seval] <;> rfl) rfl rfl en45 g0 ?_
    refine dops_fn rfl (by simp only [fwA, seval] <;> rfl) rfl rfl en44 o3 ?_
    refine dops_run 1 (by simp only [fwA, seval, gfw, bx, dx, Tm.fw] <;> rfl) ?_
    refine dops_fn rfl (by simp only [fwA, seval] <;> rfl) rfl rfl en45 g1 ?_
    refine dops_run 1 (by simp only [fwA, seval, gfw, bx, dx, Tm.fw] <;> rfl) ?_
    refine dops_one _ rfl rfl (fun H A' hev => os_appendVV (es := []) rfl un75 ti28 un75 ((hev _ (by simp [Op.operands, Call.operands])).trans rfl) (by simp) ((hev _ (by simp [Op.operands, Call.operands])).trans rfl) (by intro e he; simp at he; rcases he with rfl | rfl | rfl <;> rfl) (by simp) (by simp) ⟨rfl, rfl⟩) ?_
    refine dops_run 1 (by simp only [fwA, seval, gfw, bx, dx, Tm.fw] <;> rfl) ?_
    refine dops_end ?_
    exact ⟨((([withinT k0, [⟨4, [58, 61], 0⟩], withinT k1] : List (List Tk))).map TW, [withinT k0, [⟨4, [58, 61], 0⟩], withinT k1]), ⟨by rw [toksT_eq, hk, e]; simp [layT], PV.leLL_refl _⟩, rfl, rfl, rfl⟩
  · -- kind 12
    have hm : t.kids.length = 2 := by rw [hk] at hlen; have h0 : kidsTab.getD (Int.toNat 12) 0 = 2 := rfl; omega
    obtain ⟨k0, k1, e⟩ := len2 hm
    have g0 := h45 0 k0 (by rw [e]; rfl)
    have g1 := h45 1 k1 (by rw [e]; rfl)
    have o5 := c44 Γ t.name
    refine awp_seq ?_
    refine awp_run rfl (by simp only [fwA, seval, gfw, bx, dx, hk] <;> rfl) ?_
    refine awp_cond (b := false) (by simp [alook, aput, ev]) ?_
    refine awp_seq ?_
    refine awp_run rfl (by simp only [fwA, seval, gfw, bx, dx, hk] <;> rfl) ?_
    refine awp_cond (b := false) (by simp [alook, aput, ev]) ?_
    refine awp_seq ?_
    refine awp_run rfl (by simp only [fwA, seval, gfw, bx, dx, hk] <;> rfl) ?_
    refine awp_cond (b := false) (by simp [alook, aput, ev]) ?_
    refine awp_seq ?_
    refine awp_run rfl (by simp only [fwA, seval, gfw, bx, dx, hk] <;> rfl) ?_
    refine awp_cond (b := false) (by simp [alook, aput, ev]) ?_
    refine awp_seq ?_
    refine awp_run rfl (by simp only [fwA, seval, gfw, bx, dx, hk] <;> rfl) ?_
    refine awp_cond (b := false) (by simp [alook, aput, ev]) ?_
    refine awp_seq ?_
    refine awp_run rfl (by simp only [fwA, seval, gfw, bx, dx, hk] <;> rfl) ?_
    refine awp_cond (b := false) (by simp [alook, aput, ev]) ?_
    refine awp_seq ?_
    refine awp_run rfl (by simp only [fwA, seval, gfw, bx, dx, hk] <;> rfl) ?_
    refine awp_cond (b := false) (by simp [alook, aput, ev]) ?_
    refine awp_seq ?_
    refine awp_run rfl (by simp only [fwA, seval, gfw, bx, dx, hk] <;> rfl) ?_
    refine awp_cond (b := false) (by simp [alook, aput, ev]) ?_
    refine awp_seq ?_
    refine awp_run rfl (by simp only [fwA, seval, gfw, bx, dx, hk] <;> rfl) ?_
    refine awp_cond (b := false) (by simp [alook, aput, ev]) ?_
    refine awp_seq ?_
    refine awp_run rfl (by simp only [fwA, seval, gfw, bx, dx, hk] <;> rfl) ?_
    refine awp_cond (b := false) (by simp [alook, aput, ev]) ?_
    refine awp_seq ?_
    refine awp_run rfl (by simp only [fwA, seval, gfw, bx, dx, hk] <;> rfl) ?_
    refine awp_cond (b := false) (by simp [alook, aput, ev]) ?_
    refine awp_seq ?_
    refine awp_run rfl (by simp only [fwA, seval, gfw, bx, dx, hk] <;> rfl) ?_
    refine awp_cond (b := true) (by simp [alook, aput, ev]) ?_
    refine awp_drawn [0, 1, 0, 0, 1, 0, 1, 0, 0, 0, 0] [0, 0, 2, 0, 8, 30, 0, 126, 254, 511, 1023] mixed rfl (by kernel_rfl) ?_
    refine dops_run 2 (by simp only [fwA, seval, gfw, bx, dx, Tm.fw] <;> rfl) ?_
    refine dops_fn rfl (by simp only [fwA, seval] <;> rfl) rfl rfl en45 g0 ?_
    refine dops_run 2 (by simp only [fwA, seval, gfw, bx, dx, Tm.fw] <;> rfl) ?_
    refine dops_fn rfl (by simp only [fwA, seval] <;> rfl) rfl rfl en44 o5 ?_
    refine dops_run 1 (by simp only [fwA, seval, gfw, bx, dx, Tm.fw] <;> rfl) ?_
    refine dops_fn rfl (by simp only [fwA, seval] <;> rfl) rfl rfl en45 g1 ?_
    refine dops_run 1 (by simp only [fwA, seval, gfw, bx, dx, Tm.fw] <;> rfl) ?_
    refine dops_one _ rfl rfl (fun H A' hev => os_appendVV (es := []) rfl un75 ti28 un75 ((hev _ (by simp [Op.operands, Call.operands])).trans rfl) (by simp) ((hev _ (by simp [Op.operands, Call.operands])).trans rfl) (by intro e he; simp at he; rcases he with rfl | rfl | rfl <;> rfl) (by simp) (by simp) ⟨rfl, rfl⟩) ?_
    refine dops_run 1 (by simp only [fwA, seval, gfw, bx, dx, Tm.fw] <;> rfl) ?_
    refine dops_end ?_
    exact ⟨((([withinT k0, [⟨4, t.name, 0⟩], withinT k1] : List (List Tk))).map TW, [withinT k0, [⟨4, t.name, 0⟩], withinT k1]), ⟨by rw [toksT_eq, hk, e]; simp [layT], PV.leLL_refl _⟩, rfl, rfl, rfl⟩
  · -- kind 13
    have hm : t.kids.length = 2 := by rw [hk] at hlen; have h0 : kidsTab.getD (Int.toNat 13) 0 = 2 := rfl; omega
    obtain ⟨k0, k1, e⟩ := len2 hm
    have g0 := h45 0 k0 (by rw [e]; rfl)
    have g1 := h45 1 k1 (by rw [e]; rfl)
    have o3 := c44 Γ [59]
    refine awp_seq ?_
    refine awp_run rfl (by simp only [fwA, seval, gfw, bx, dx, hk] <;> rfl) ?_
    refine awp_cond (b := false) (by simp [alook, aput, ev]) ?_
    refine awp_seq ?_
    refine awp_run rfl (by simp only [fwA, seval, gfw, bx, dx, hk] <;> rfl) ?_
    refine awp_cond (b := false) (by simp [alook, aput, ev]) ?_
    refine awp_seq ?_
    refine awp_run rfl (by simp only [fwA, seval, gfw, bx, dx, hk] <;> rfl) ?_
    refine awp_cond (b := false) (by simp [alook, aput, ev]) ?_
    refine awp_seq ?_
    refine awp_run rfl (by simp only [fwA, seval, gfw, bx, dx, hk] <;> rfl) ?_
    refine awp_cond (b := false) (by simp [alook, aput, ev]) ?_
    refine awp_seq ?_
    refine awp_run rfl (by simp only [fwA, seval, gfw, bx, dx, hk] <;> rfl) ?_
    refine awp_cond (b := false) (by simp [alook, aput, ev]) ?_
    refine awp_seq ?_
    refine awp_run rfl (by simp only [fwA, seval, gfw, bx, dx, hk] <;> rfl) ?_
    refine awp_cond (b := false) (by simp [alook, aput, ev]) ?_
    refine awp_seq ?_
    refine awp_run rfl (by simp only [fwA, seval, gfw, bx, dx, hk] <;> rfl) ?_
    refine awp_cond (b := false) (by simp [alook, aput, ev]) ?_
    refine awp_seq ?_
    refine awp_run rfl (by simp only [fwA, seval, gfw, bx, dx, hk] <;> rfl) ?_
    refine awp_cond (b := false) (by simp [alook, aput, ev]) ?_
    refine awp_seq ?_
    refine awp_run rfl (by simp only [fwA, seval, gfw, bx, dx, hk] <;> rfl) ?_
    refine awp_cond (b := false) (by simp [alook, aput, ev]) ?_
    refine awp_seq ?_
    refine awp_run rfl (by simp only [fwA, seval, gfw, bx, dx, hk] <;> rfl) ?_
    refine awp_cond (b := false) (by simp [alook, aput, ev]) ?_
    refine awp_seq ?_
    refine awp_run rfl (by simp only [fwA, seval, gfw, bx, dx, hk] <;> rfl) ?_
    refine awp_cond (b := false) (by simp [alook, aput, ev]) ?_
    refine awp_seq ?_
    refine awp_run rfl (by simp only [fwA, seval, gfw, bx, dx, hk] <;> rfl) ?_
    refine awp_cond (b := false) (by simp [alook, aput, ev]) ?_
    refine awp_seq ?_
    refine awp_run rfl (by simp only [fwA, seval, gfw, bx, dx, hk] <;> rfl) ?_
    refine awp_cond (b := true) (by simp [alook, aput, ev]) ?_
    refine awp_drawn [0, 1, 0, 0, 1, 0, 0, 0, 0] [0, 0, 2, 6, 0, 30, 62, 127, 255] mixed rfl (by kernel_rfl) ?_
    refine dops_run 2 (by simp only [fwA, seval, gfw, bx, dx, Tm.fw] <;> rfl) ?_
    refine dops_fn rfl (by simp only [fwA, seval] <;> rfl) rfl rfl en45 g0 ?_
    refine dops_fn rfl (by simp only [fwA, seval] <;> rfl) rfl rfl en44 o3 ?_
    refine dops_run 1 (by simp only [fwA, seval, gfw, bx, dx, Tm.fw] <;> rfl) ?_
    refine dops_fn rfl (by simp only [fwA, seval] <;> rfl) rfl rfl en45 g1 ?_
    refine dops_run 1 (by simp only [fwA, seval, gfw, bx, dx, Tm.fw] <;> rfl) ?_
    refine dops_one _ rfl rfl (fun H A' hev => os_appendVV (es := []) rfl un75 ti28 un75 ((hev _ (by simp [Op.operands, Call.operands])).trans rfl) (by simp) ((hev _ (by simp [Op.operands, Call.operands])).trans rfl) (by intro e he; simp at he; rcases he with rfl | rfl | rfl <;> rfl) (by simp) (by simp) ⟨rfl, rfl⟩) ?_
    refine dops_run 1 (by simp only [fwA, seval, gfw, bx, dx, Tm.fw] <;> rfl) ?_
    refine dops_end ?_
    exact ⟨((([withinT k0, [⟨4, [59], 0⟩], withinT k1] : List (List Tk))).map TW, [withinT k0, [⟨4, [59], 0⟩], withinT k1]), ⟨by rw [toksT_eq, hk, e]; simp [layT], PV.leLL_refl _⟩, rfl, rfl, rfl⟩
theorem c9 (Γ : Nat → PV) (t : Tm) (hw : t.w ≤ 4611686018427387904) : Gives Tryz.prog Γ 9 [.agg t.enc] (.vec ((toksV t).map Tk.enc) false) := by
  have h18 := c18 Γ t hw
  by_cases h : RightT t
  · have h19 := c19 Γ t h.2.2 (by have := h.2.1; omega)
    rw [decide_eq_true h] at h18
    rw [show toksV t = toksT t from if_pos h]
    refine fn_of_awp Tryz.func9 rfl (by simp [Tryz.f9]) rfl fun H => ?_
    refine awp_seq ?_
    refine awp_run rfl (by simp only [fwA, seval, gfw, bx, dx] <;> rfl) ?_
    refine awp_seq ?_
    refine awp_seq ?_
    refine awp_region rfl ?_
    refine aops_run 1 (by simp only [fwA, seval, gfw, bx, dx, Tm.fw] <;> rfl) ?_
    refine aops_fn rfl rfl rfl en18 h18 ?_
    refine aops_run 1 (by simp only [fwA, seval, gfw, bx, dx, Tm.fw] <;> rfl) ?_
    refine aops_end ?_
    refine awp_cond (b := false) (by simp [alook, aput, ev]) (awp_skip ?_)
    refine awp_seq ?_
    refine awp_region rfl ?_
    refine aops_run 1 (by simp only [fwA, seval, gfw, bx, dx, Tm.fw] <;> rfl) ?_
    refine aops_fn rfl rfl rfl en19 h19 ?_
    refine aops_run 1 (by simp only [fwA, seval, gfw, bx, dx, Tm.fw] <;> rfl) ?_
    refine aops_end ?_
    refine awp_ret ?_
    exact gives_end (.inl rfl) _ rfl
  · rw [decide_eq_false h] at h18
    rw [show toksV t = [] from if_neg h]
    refine Gives.res (p := .vec [] true) ?_ ⟨nofun, trivial⟩
    refine fn_of_awp Tryz.func9 rfl (by simp [Tryz.f9]) rfl fun H => ?_
    refine awp_seq ?_
    refine awp_run rfl (by simp only [fwA, seval, gfw, bx, dx] <;> rfl) ?_
    refine awp_seq ?_
    refine awp_seq ?_
    refine awp_region rfl ?_
    refine aops_run 1 (by simp only [fwA, seval, gfw, bx, dx, Tm.fw] <;> rfl) ?_
    refine aops_fn rfl rfl rfl en18 h18 ?_
    refine aops_run 1 (by simp only [fwA, seval, gfw, bx, dx, Tm.fw] <;> rfl) ?_
    refine aops_end ?_
    refine awp_cond (b := true) (by simp [alook, aput, ev]) ?_
    refine awp_seq ?_
    refine awp_run rfl (by simp only [fwA, seval, gfw, bx, dx] <;> rfl) ?_
    refine awp_ret ?_
    exact gives_end (.inl rfl) _ rfl
theorem join_leT {B : Nat} {l : List Tk} (h : ∀ x ∈ l, x.text.length ≤ B) : (printT l).length ≤ l.length * (B + 1) := by
  have := join_len (sep := [32]) (B := B) (l.map Tk.text) (fun t ht => by
    obtain ⟨p, hp, rfl⟩ := List.mem_map.1 ht
    exact h p hp)
  rw [List.length_map] at this
  exact this
theorem print_snoc {l : List Tk} {x : Tk} (h : l ≠ []) : printT (l ++ [x]) = printT l ++ [32] ++ x.text := by
  rw [print_app h (by simp), print_one]; simp
set_option maxHeartbeats 1000000 in
theorem c21 (Γ : Nat → PV) (l : List Tk) (f : Bool) (hl : l.length ≤ 1000000) (hB : ∀ t ∈ l, t.text.length ≤ 1000000) : Gives Tryz.prog Γ 21 [.vec (l.map Tk.enc) f] (.str (printT l)) := by
  refine fn_of_awp Tryz.func21 rfl (by simp [Tryz.f21]) rfl fun H => ?_
  refine awp_seq ?_
  refine awp_run rfl (by simp only [fwA, seval] <;> rfl) ?_
  refine awp_seq ?_
  refine awp_run rfl (by simp only [fwA, seval] <;> rfl) ?_
  refine awp_seq ?_
  refine awp_seq ?_
  refine awp_run rfl (by simp only [fwA, seval, gfw, bx, dx] <;> rfl) ?_
  refine awp_block ?_
  refine awp_for [0, 3, 4] (fun i : Nat => [.vec (l.map Tk.enc) f, .str (printT (l.take i)), .int .i64 (i : Int)]) (fun _ => H) (fun i => l.length - i) (fun i => i ≤ l.length) 0 rfl rfl (Nat.zero_le _) fun i hi => ?_
  refine awp_seq ?_
  refine awp_seq ?_
  by_cases hc : (i : Int) < l.length
  rotate_left
  · refine awp_run rfl (by simp only [fwA, seval, gfw, bx, dx, hc] <;> rfl) ?_
    refine awp_cond (b := false) (by simp [alook, aput, ev]) ?_
    refine awp_exit ?_
    rw [List.take_of_length_le (by omega)]
    refine awp_seq ?_
    refine awp_run rfl (by simp only [fwA, seval, gfw, bx, dx] <;> rfl) ?_
    refine awp_ret ?_
    exact gives_end0 (.inl rfl) rfl
  have hil : i < l.length := by omega
  obtain ⟨z, hz⟩ : ∃ z, l[i]? = some z := ⟨_, List.getElem?_eq_getElem hil⟩
  have hzl := hB z (List.mem_of_getElem? hz)
  have hpl := join_leT (B := 1000000) (l := l.take i) (fun x hx => hB x (List.mem_of_mem_take hx))
  have hpl2 : (l.take i).length * (1000000 + 1) ≤ 1000000 * (1000000 + 1) := Nat.mul_le_mul_right _ (by rw [List.length_take]; omega)
  have hwi : IntKind.i64.wrap ((i : Int) + 1) = ((i + 1 : Nat) : Int) := wrapS i (by omega)
  have hts := take_snoc hz
  refine awp_run rfl (by simp only [fwA, seval, gfw, bx, dx, hc] <;> rfl) ?_
  refine awp_cond (b := true) (by simp [alook, aput, ev]) ?_
  refine awp_skip ?_
  refine awp_seq ?_
  refine awp_block ?_
  by_cases h0 : (0 : Int) < i
  · have hp : printT (l.take (i + 1)) = printT (l.take i) ++ [32] ++ z.text := by
      rw [hts, print_snoc]
      intro e
      have := congrArg List.length e
      rw [List.length_take] at this
      simp only [List.length_nil] at this
      omega
    generalize printT (l.take i) = S at hp hpl
    have q1 : S.length + 1 ≤ 9223372036854775807 := by omega
    have q2 : S.length + 1 + z.text.length ≤ 9223372036854775807 := by omega
    refine awp_seq ?_
    refine awp_seq ?_
    refine awp_run rfl (by simp only [fwA, seval, gfw, bx, dx, h0] <;> rfl) ?_
    refine awp_cond (b := true) (by simp [alook, aput, ev]) ?_
    refine awp_run rfl (by simp only [fwA, seval, gfw, bx, dx, q1, List.length_cons, List.length_nil] <;> rfl) ?_
    refine awp_run rfl (by simp only [fwA, seval, gfw, bx, dx, hz, q1, q2, List.length_append, List.length_cons, List.length_nil] <;> rfl) ?_
    refine awp_run rfl (by simp only [fwA, seval, gfw, bx, dx] <;> rfl) ?_
    exact ⟨i + 1, by omega, by omega, by simp only [fwA, seval, List.map_cons, List.map_nil, hwi, hp], rfl, rfl⟩
  · have hi0 : i = 0 := by omega
    have hp : printT (l.take (i + 1)) = [] ++ z.text := by rw [hts, hi0]; exact print_one z
    have hp0 : printT (l.take i) = [] := by rw [hi0]; rfl
    rw [hp0]
    have q2 : z.text.length ≤ 9223372036854775807 := by omega
    refine awp_seq ?_
    refine awp_seq ?_
    refine awp_run rfl (by simp only [fwA, seval, gfw, bx, dx, h0] <;> rfl) ?_
    refine awp_cond (b := false) (by simp [alook, aput, ev]) (awp_skip ?_)
    refine awp_run rfl (by simp only [fwA, seval, gfw, bx, dx, hz, q2, List.length_nil, Nat.zero_add] <;> rfl) ?_
    refine awp_run rfl (by simp only [fwA, seval, gfw, bx, dx] <;> rfl) ?_
    exact ⟨i + 1, by omega, by omega, by simp only [fwA, seval, List.map_cons, List.map_nil, hwi, hp], rfl, rfl⟩
theorem c12 (Γ : Nat → PV) (t : Tm) (hw : t.w ≤ 4611686018427387904) : Gives Tryz.prog Γ 12 [.agg t.enc] (.str (showV t)) := by
  have h18 := c18 Γ t hw
  by_cases h : RightT t
  · have h19 := c19 Γ t h.2.2 (by have := h.2.1; omega)
    have hl := toks_len t
    have h21 := c21 Γ (toksT t) false (by have := h.2.1; omega) (fun x hx => by have := (toks_form t h.2.2 x hx).len; omega)
    rw [decide_eq_true h] at h18
    rw [show showV t = printT (toksT t) from if_pos h]
    refine fn_of_awp Tryz.func12 rfl (by simp [Tryz.f12]) rfl fun H => ?_
    refine awp_seq ?_
    refine awp_run rfl (by simp only [fwA, seval, gfw, bx, dx] <;> rfl) ?_
    refine awp_seq ?_
    refine awp_seq ?_
    refine awp_region rfl ?_
    refine aops_run 1 (by simp only [fwA, seval, gfw, bx, dx, Tm.fw] <;> rfl) ?_
    refine aops_fn rfl rfl rfl en18 h18 ?_
    refine aops_run 1 (by simp only [fwA, seval, gfw, bx, dx, Tm.fw] <;> rfl) ?_
    refine aops_end ?_
    refine awp_cond (b := false) (by simp [alook, aput, ev]) (awp_skip ?_)
    refine awp_seq ?_
    refine awp_region rfl ?_
    refine aops_run 1 (by simp only [fwA, seval, gfw, bx, dx, Tm.fw] <;> rfl) ?_
    refine aops_fn rfl rfl rfl en19 h19 ?_
    refine aops_fn rfl rfl rfl en21 h21 ?_
    refine aops_run 1 (by simp only [fwA, seval, gfw, bx, dx, Tm.fw] <;> rfl) ?_
    refine aops_end ?_
    refine awp_ret ?_
    exact gives_end (.inl rfl) _ rfl
  · rw [decide_eq_false h] at h18
    rw [show showV t = [63] from if_neg h]
    refine fn_of_awp Tryz.func12 rfl (by simp [Tryz.f12]) rfl fun H => ?_
    refine awp_seq ?_
    refine awp_run rfl (by simp only [fwA, seval, gfw, bx, dx] <;> rfl) ?_
    refine awp_seq ?_
    refine awp_seq ?_
    refine awp_region rfl ?_
    refine aops_run 1 (by simp only [fwA, seval, gfw, bx, dx, Tm.fw] <;> rfl) ?_
    refine aops_fn rfl rfl rfl en18 h18 ?_
    refine aops_run 1 (by simp only [fwA, seval, gfw, bx, dx, Tm.fw] <;> rfl) ?_
    refine aops_end ?_
    refine awp_cond (b := true) (by simp [alook, aput, ev]) ?_
    refine awp_seq ?_
    refine awp_run rfl (by simp only [fwA, seval, gfw, bx, dx] <;> rfl) ?_
    refine awp_ret ?_
    exact gives_end (.inl rfl) _ rfl
set_option maxHeartbeats 1000000 in
theorem c7 (Γ : Nat → PV) (l : List Tk) (f : Bool) (hl : l.length ≤ 1000000000) : Gives Tryz.prog Γ 7 [.vec (l.map Tk.enc) f] (.vec (l.map Tk.enc) false) := by
  refine gives_of_row Tk.enc_len (Tk.plainM _) fun H => ?_
  refine acalls_of_awp Tryz.func7 rfl (by simp [Tryz.f7]) fun hbd => ?_
  refine awp_seq ?_
  refine awp_run rfl (by simp only [fwA, seval] <;> rfl) ?_
  refine awp_seq ?_
  refine awp_run rfl (by simp only [fwA, seval] <;> rfl) ?_
  refine awp_seq ?_
  refine awp_seq ?_
  refine awp_run rfl (by simp only [fwA, seval, gfw, bx, dx] <;> rfl) ?_
  refine awp_told (told_adopt 3 3 (by decide) rfl) ?_
  refine awp_block ?_
  refine awp_for [0, 3, 4] (fun i : Nat => [.vec (l.map Tk.enc) f, .row H.length 0 (l.take i).length 3, .int .i64 (i : Int)]) (fun i => H ++ [.row 3 (((l.take i).map Tk.enc).flatten)]) (fun i => l.length - i) (fun i => i ≤ l.length) 0 rfl rfl (Nat.zero_le _) fun i hi => ?_
  refine awp_seq ?_
  refine awp_seq ?_
  by_cases hc : (i : Int) < l.length
  rotate_left
  · refine awp_run rfl (by simp only [fwA, seval, gfw, bx, dx, hc] <;> rfl) ?_
    refine awp_cond (b := false) (by simp [alook, aput, ev]) ?_
    refine awp_exit ?_
    have e : i = l.length := by omega
    subst e
    rw [List.take_length]
    refine awp_seq ?_
    refine awp_run rfl (by simp only [fwA, seval, gfw, bx, dx] <;> rfl) ?_
    refine awp_ret ?_
    refine calls_at (fn := Tryz.f7) (p := .row H.length 0 l.length 3) (.inl rfl) (bd_app (fun B hB => hbd B hB) (by simp only [List.all_cons, List.all_nil, Blk.bd, Tk.bdM, Bool.and_true])) (by simp [ares, aresL, ares1, alook, Tryz.f7]) (by simp [PV.bd]) (by simp) ⟨rfl, rfl⟩
  have hil : i < l.length := by omega
  obtain ⟨z, hz⟩ : ∃ z, l[i]? = some z := ⟨_, List.getElem?_eq_getElem hil⟩
  have hts := take_snoc hz
  have hti : (l.take i).length = i := by rw [List.length_take]; omega
  have hwi : IntKind.i64.wrap ((i : Int) + 1) = ((i + 1 : Nat) : Int) := wrapS i (by omega)
  have hg : (H ++ [Blk.row 3 (((l.take i).map Tk.enc).flatten)])[H.length]? = some (Blk.row 3 (((l.take i).map Tk.enc).flatten)) := get_at0 H _
  refine awp_run rfl (by simp only [fwA, seval, gfw, bx, dx, hc] <;> rfl) ?_
  refine awp_cond (b := true) (by simp [alook, aput, ev]) ?_
  refine awp_skip ?_
  refine awp_seq ?_
  refine awp_block ?_
  refine awp_drawn [0,0,0,0,0,1,0,0,0,0,1,0,0,0,0,1,0,0,2,0] [0, 0, 0, 6, 14, 30, 0, 0, 192, 448, 960, 0, 0, 6144, 14336, 30720, 65534, 131070, 262143, 524287] mixed rfl (by kernel_rfl) ?_
  refine dops_run 13 (by simp only [fwA, seval, gfw, bx, dx, hz] <;> rfl) ?_
  refine dops_run 5 (by simp only [fwA, seval, gfw, bx, dx, hz] <;> rfl) ?_
  refine dops_push (enc := Tk.enc) (l := l.take i) (z := z) Tk.enc_len rfl rfl rfl un28 ti40 rfl un28 rfl hg rfl rfl (by show (_ + 1) * 32 ≤ _; omega) (by omega) rfl ?_
  refine dops_run 1 (by simp only [fwA, seval, gfw, bx, dx, hz] <;> rfl) ?_
  refine dops_end ?_
  refine awp_run rfl (by simp only [fwA, seval, gfw, bx, dx] <;> rfl) ?_
  refine ⟨i + 1, by omega, by omega, by simp only [fwA, seval, List.map_cons, List.map_nil, hwi, hts, List.length_append, List.length_cons, List.length_nil], ?_, rfl⟩
  rw [hts]
end Go.Proofs.YtddnigahjahkbaaGreatDoor
namespace Go.Proofs.YtddnigahjahkbaaGreatDoor
set_option linter.unusedVariables false
set_option linter.unusedSimpArgs false
set_option maxRecDepth 100000
open Go.RowKit Fw
theorem nodes_ok : ∀ t : Tm, Nodes t → t.Ok := by
  refine Tm.ind fun t ih h => ?_
  refine .mk t ?_ fun k hk => ih k hk (h.kids k hk)
  have : t.kids.length ≤ 3 := by rcases kids_at h.node with ⟨hk, e⟩ | ⟨hk, e, en⟩ | ⟨a, hk, e, en⟩ | ⟨a, b, hk, e, en⟩ | ⟨a, b, c, hk, e, en⟩ <;> rw [e] <;> simp
  unfold reachBytes
  omega
theorem within_mem {t : Tm} (h : nodeP t) : ∀ k ∈ t.kids, ∀ x ∈ withinT k, x ∈ toksT t := by
  intro k hm x hx
  rw [toksT_eq]
  rcases kids_at h with ⟨hk, e⟩ | ⟨hk, e, en⟩ | ⟨a, hk, e, en⟩ | ⟨a, b, hk, e, en⟩ | ⟨a, b, c, hk, e, en⟩
  · rw [e] at hm; cases hm
  · rw [e] at hm; cases hm
  · rw [e, List.mem_singleton] at hm
    subst hm
    rcases hk with hk | hk | hk <;> simp [layT, hk, e, hx]
  · rw [e] at hm
    simp only [List.mem_cons, List.not_mem_nil, or_false] at hm
    rcases hm with rfl | rfl <;> (rcases hk with hk | hk | hk | hk | hk | hk | hk <;> simp [layT, hk, e, hx])
  · rw [e] at hm
    simp only [List.mem_cons, List.not_mem_nil, or_false] at hm
    rcases hm with rfl | rfl | rfl <;> simp [layT, hk, e, hx]
theorem toks_within {k : Tm} {x : Tk} (h : x ∈ toksT k) : x ∈ withinT k := by
  unfold withinT
  split
  · exact h
  · simp [h]
theorem free_toks : ∀ t : Tm, Nodes t → ∀ s ∈ t.free, (⟨1, s, 0⟩ : Tk) ∈ toksT t := by
  refine Tm.ind fun t ih h s hs => ?_
  rcases mem_free.1 hs with ⟨hk, rfl⟩ | ⟨i, k, hk, hsk, _⟩
  · rw [toksT_eq]; simp [layT, hk]
  · have hm := List.mem_of_getElem? hk
    exact within_mem h.node k hm _ (toks_within (ih k hm (h.kids k hm) s hsk))
theorem join_char {c : UInt8} : ∀ {l : List (List UInt8)}, c ∈ Lib.join l [32] → c = 32 ∨ ∃ s ∈ l, c ∈ s
  | [], h => by rw [Lib.join_nil] at h; cases h
  | [x], h => by rw [Lib.join_one] at h; exact .inr ⟨x, by simp, h⟩
  | x :: y :: l, h => by
    rw [joinB_cons] at h
    rcases List.mem_append.1 h with h | h
    · exact .inr ⟨x, by simp, h⟩
    · rcases List.mem_cons.1 h with h | h
      · exact .inl h
      · rcases join_char h with h | ⟨s, hs, h⟩
        · exact .inl h
        · exact .inr ⟨s, by simp [hs], h⟩
theorem show_quest (t : Tm) : decide (showV t = [63]) = !decide (RightT t) := by
  by_cases h : RightT t
  · rw [decide_eq_true h]
    refine decide_eq_false fun e => ?_
    unfold showV at e
    rw [if_pos h] at e
    have hm : (63 : UInt8) ∈ printT (toksT t) := by rw [e]; simp
    rcases join_char hm with h2 | ⟨s, hs, hc⟩
    · exact absurd h2 (by decide)
    · obtain ⟨x, hx, rfl⟩ := List.mem_map.1 hs
      exact (toks_form t h.2.2 x hx).text.2.2 hc
  · rw [decide_eq_false h]
    exact decide_eq_true (if_neg h)
theorem toks_quest (t : Tm) : decide (((toksV t).length : Int) = 0) = !decide (RightT t) := by
  by_cases h : RightT t
  · rw [decide_eq_true h]
    refine decide_eq_false fun e => ?_
    unfold toksV at e
    rw [if_pos h] at e
    exact toks_ne h.2.2.node (List.eq_nil_of_length_eq_zero (by omega))
  · rw [decide_eq_false h]
    unfold toksV
    rw [if_neg h]; rfl
end Go.Proofs.YtddnigahjahkbaaGreatDoor
namespace Go.Proofs.YtddnigahjahkbaaGreatDoor
set_option linter.unusedVariables false
set_option linter.unusedSimpArgs false
set_option maxRecDepth 100000
open Go.RowKit Fw
theorem toksV_le (t : Tm) : (toksV t).length ≤ 60000 := by
  unfold toksV
  split
  · rename_i h
    have := toks_len t; have := h.2.1; omega
  · simp
set_option maxHeartbeats 8000000 in
theorem c3 (Γ : Nat → PV) (hΓ : Tab Γ) (t : Tm) (ho : t.Ok) (hw : t.w ≤ 2000000) (l : List Int) (h : ∀ x ∈ l, 0 ≤ x ∧ x < 256) : Gives Tryz.prog Γ 3 [.agg t.enc, .vec (l.map B8) false] (.bool true) := by
  have h5 := c5 Γ hΓ
  have h6 := c6 Γ l h
  obtain ⟨hr, hd, hwm⟩ := made_right h
  have hom := nodes_ok _ hr.2.2
  generalize madeT l = m at h6 hr hd hwm hom
  have hall : ∀ z ∈ [t, m], z.Ok ∧ z.w ≤ 2000000 := fun z hz => by
    simp only [List.mem_cons, List.not_mem_nil, or_false] at hz
    rcases hz with rfl | rfl
    · exact ⟨ho, hw⟩
    · exact ⟨hom, by omega⟩
  refine fn_of_awp Tryz.func3 rfl (by simp [Tryz.f3]) rfl fun H => ?_
  refine awp_bd fun hbd => ?_
  refine awp_seq ?_
  refine awp_run rfl (by simp only [fwA, seval, gfw, bx, dx] <;> rfl) ?_
  refine awp_seq ?_
  refine awp_region rfl ?_
  refine aops_fn rfl rfl rfl en5 h5 ?_
  refine aops_run 1 (by simp only [fwA, seval, gfw, bx, dx] <;> rfl) ?_
  refine aops_end ?_
  refine awp_seq ?_
  refine awp_seq ?_
  refine awp_run rfl (by simp only [fwA, seval, gfw, bx, dx] <;> rfl) ?_
  refine awp_cond (b := false) (by simp [alook, aput, ev]) (awp_skip ?_)
  refine awp_seq ?_
  refine awp_seq ?_
  refine awp_drawn [1, 0, 0, 0, 0, 0] [0, 0, 2, 7, 15, 0] mixed rfl (by kernel_rfl) ?_
  refine dops_run 2 (by simp only [fwA, seval, gfw, bx, dx, Tm.fw, PV.bdL_append] <;> rfl) ?_
  refine dops_fn rfl (by simp only [fwA, seval] <;> rfl) rfl rfl en6 h6 ?_
  refine dops_run 3 (by simp only [fwA, seval, gfw, bx, dx, Tm.fw, PV.bdL_append] <;> rfl) ?_
  refine dops_end ?_
  refine awp_block ?_
  have hx2 : [t, m].length = 2 := rfl
  refine awp_keep (A' := [(5, .bool true), (17, .vec ([t, m].map Tm.enc) true), (18, .int .i64 2), (19, .int .i64 0)]) [5, 17, 18, 19] (by simp only [fwA, seval, akeep, List.map_cons, List.map_nil, List.take_zero, List.append_nil] <;> rfl) ?_
  generalize [t, m] = xs at hall hx2 ⊢
  refine awp_forG [5, 17, 18, 19] (fun i : Nat => [.bool true, .vec (xs.map Tm.enc) true, .int .i64 2, .int .i64 (i : Int)])
    (fun i => H ++ [.box t.enc]) (fun i => 2 - i) (fun i => i ≤ 2) 0 rfl rfl (Nat.zero_le _)
    (fun i _ => ⟨bd_app (fun B hB => hbd B hB) (by simp only [List.all_cons, List.all_nil, Blk.bd, Tm.bd, Bool.and_true]), by simp [PV.bdL, PV.bd]⟩) (fun i _ b hb => by cases hb) fun i hi => ?_
  refine awp_seq ?_
  by_cases hc : (i : Int) < 2
  rotate_left
  · refine awp_run rfl (by simp only [fwA, seval, gfw, bx, dx, hc] <;> rfl) ?_
    refine awp_seq ?_
    refine awp_cond (b := false) (by simp [alook, aput, ev]) ?_
    refine awp_exit ?_
    refine awp_seq ?_
    refine awp_run rfl (by simp only [fwA, seval, gfw, bx, dx] <;> rfl) ?_
    refine awp_ret ?_
    exact gives_end (.inl rfl) _ rfl
  have hil : i < xs.length := by omega
  obtain ⟨z, hz⟩ : ∃ z, xs[i]? = some z := ⟨_, List.getElem?_eq_getElem hil⟩
  obtain ⟨hzo, hzw⟩ := hall z (List.mem_of_getElem? hz)
  have hwi : IntKind.i64.wrap ((i : Int) + 1) = ((i + 1 : Nat) : Int) := wrapS i (by omega)
  have h8 := c8 Γ hΓ z (by omega)
  have h9 := c9 Γ z (by omega)
  have h10 := c10 Γ z hzo
  have h11 := c11 Γ hΓ z (by omega)
  have h12 := c12 Γ z (by omega)
  have htl := toksV_le z
  generalize toksV z = ks at h8 h9 htl
  have h7 := c7 Γ ks false (by omega)
  generalize showV z = S at h11 h12
  refine awp_run rfl (by simp only [fwA, seval, gfw, bx, dx, hc] <;> rfl) ?_
  refine awp_seq ?_
  refine awp_cond (b := true) (by simp [alook, aput, ev]) ?_
  refine awp_skip ?_
  refine awp_seq ?_
  refine awp_block ?_
  refine awp_seq ?_
  refine awp_run rfl (by simp only [fwA, seval, gfw, bx, dx, hz, Tm.fw] <;> rfl) ?_
  refine awp_seq ?_
  refine awp_region rfl ?_
  refine aops_run 1 (by simp only [fwA, seval, gfw, bx, dx, Tm.fw] <;> rfl) ?_
  refine aops_fn rfl rfl rfl en8 h8 ?_
  refine aops_fn rfl rfl rfl en7 h7 ?_
  refine aops_run 1 (by simp only [fwA, seval, gfw, bx, dx, Tm.fw] <;> rfl) ?_
  refine aops_end ?_
  refine awp_seq ?_
  refine awp_region rfl ?_
  refine aops_run 1 (by simp only [fwA, seval, gfw, bx, dx, Tm.fw] <;> rfl) ?_
  refine aops_fn rfl rfl rfl en10 h10 ?_
  refine aops_fn rfl rfl rfl en9 h9 ?_
  refine aops_run 1 (by simp only [fwA, seval, gfw, bx, dx, Tm.fw] <;> rfl) ?_
  refine aops_end ?_
  refine awp_keep (A' := [(5, .bool true), (7, .ptr (H.length + 1) 0), (8, .vec (ks.map Tk.enc) false), (9, .vec (ks.map Tk.enc) false), (17, .vec (xs.map Tm.enc) true), (18, .int .i64 2), (19, .int .i64 (i : Int))]) [5, 7, 8, 9, 17, 18, 19] (by simp only [fwA, seval, akeep, List.map_cons, List.map_nil] <;> rfl) ?_
  refine awp_seq ?_
  refine awp_seq ?_
  refine awp_drawn [0, 0, 0, 0, 0, 0, 1, 0, 1, 0, 0, 0, 0] [0, 1, 0, 4, 15, 31, 63, 127, 63, 511, 1023, 2047, 4095] mixed rfl (by kernel_rfl) ?_
  refine dops_run 7 (by simp only [fwA, seval, gfw, bx, dx, Tm.fw] <;> rfl) ?_
  refine dops_fn rfl (by simp only [fwA, seval] <;> rfl) rfl rfl en11 h11 ?_
  refine dops_run 1 (by simp only [fwA, seval, gfw, bx, dx, Tm.fw] <;> rfl) ?_
  refine dops_fn rfl (by simp only [fwA, seval] <;> rfl) rfl rfl en10 h10 ?_
  refine dops_fn rfl (by simp only [fwA, seval] <;> rfl) rfl rfl en12 h12 ?_
  refine dops_run 2 (by simp only [fwA, seval, gfw, bx, dx, Tm.fw] <;> rfl) ?_
  refine dops_end ?_
  refine awp_cond (b := false) (by simp [alook, aput, ev]) (awp_skip ?_)
  refine awp_seq ?_
  refine awp_run rfl (by simp only [fwA, seval, gfw, bx, dx] <;> rfl) ?_
  refine awp_block ?_
  refine awp_for [5, 7, 8, 9, 10, 17, 18, 19] (fun j : Nat => [.bool true, .ptr (H.length + 1) 0, .vec (ks.map Tk.enc) false, .vec (ks.map Tk.enc) false, .int .i64 (j : Int), .vec (xs.map Tm.enc) true, .int .i64 2, .int .i64 (i : Int)]) (fun _ => H ++ [.box t.enc, .box z.enc]) (fun j => ks.length - j) (fun j => j ≤ ks.length) 0 rfl rfl (Nat.zero_le _) fun j hj => ?_
  refine awp_seq ?_
  refine awp_seq ?_
  by_cases hcj : (j : Int) < ks.length
  rotate_left
  · refine awp_run rfl (by simp only [fwA, seval, gfw, bx, dx, hcj] <;> rfl) ?_
    refine awp_cond (b := false) (by simp [alook, aput, ev]) ?_
    refine awp_exit ?_
    refine awp_run rfl (by simp only [fwA, seval, gfw, bx, dx] <;> rfl) ?_
    exact ⟨i + 1, [.box z.enc], by omega, by omega, by simp only [fwA, seval, List.map_cons, List.map_nil, hwi], by simp, rfl, by simp⟩
  have hjl : j < ks.length := by omega
  obtain ⟨x, hx⟩ : ∃ x, ks[j]? = some x := ⟨_, List.getElem?_eq_getElem hjl⟩
  have hwj : IntKind.i64.wrap ((j : Int) + 1) = ((j + 1 : Nat) : Int) := wrapS j (by omega)
  refine awp_run rfl (by simp only [fwA, seval, gfw, bx, dx, hcj] <;> rfl) ?_
  refine awp_cond (b := true) (by simp [alook, aput, ev]) ?_
  refine awp_skip ?_
  refine awp_seq ?_
  refine awp_block ?_
  refine awp_seq ?_
  refine awp_drun [0, 0, 0, 1, 0, 0, 0, 1, 0] [0, 0, 3, 7, 0, 0, 48, 112, 255] mixed rfl (by kernel_rfl) (by simp only [fwA, seval, gfw, bx, dx, hx] <;> rfl) ?_
  refine awp_cond (b := false) (by simp [alook, aput, ev]) (awp_skip ?_)
  refine awp_run rfl (by simp only [fwA, seval, gfw, bx, dx] <;> rfl) ?_
  exact ⟨j + 1, by omega, by omega, by simp only [fwA, seval, List.map_cons, List.map_nil, hwj], rfl, rfl⟩
set_option maxHeartbeats 8000000 in
theorem c4 (Γ : Nat → PV) (hΓ : Tab Γ) (t : Tm) (hw : t.w ≤ 2000000) (l : List Int) (h : ∀ x ∈ l, 0 ≤ x ∧ x < 256) : Gives Tryz.prog Γ 4 [.agg t.enc, .vec (l.map B8) false] (.bool true) := by
  have h5 := c5 Γ hΓ
  have h6 := c6 Γ l h
  obtain ⟨hr, hd, hwm⟩ := made_right h
  generalize madeT l = m at h6 hr hd hwm
  have h11 := c11 Γ hΓ t (by omega)
  have h13 := c13 Γ hΓ t (by omega)
  have h8t := c8 Γ hΓ t (by omega)
  have hq1 := show_quest t
  have hq2 := toks_quest t
  have h14 := c14 Γ m (by omega)
  have h8 := c8 Γ hΓ m (by omega)
  have hft : ∀ s ∈ m.free, (⟨1, s, 0⟩ : Tk) ∈ toksV m := fun s hs => by unfold toksV; rw [if_pos hr]; exact free_toks m hr.2.2 s hs
  generalize m.free = fs at h14 hft
  have htl := toksV_le m
  generalize toksV m = ks at h8 hft htl
  have hbb : ∀ x : Bool, decide (x = x) = true := fun x => by simp
  refine fn_of_awp Tryz.func4 rfl (by simp [Tryz.f4]) rfl fun H => ?_
  refine awp_bd fun hbd => ?_
  refine awp_seq ?_
  refine awp_run rfl (by simp only [fwA, seval, gfw, bx, dx] <;> rfl) ?_
  refine awp_seq ?_
  refine awp_region rfl ?_
  refine aops_fn rfl rfl rfl en5 h5 ?_
  refine aops_run 1 (by simp only [fwA, seval, gfw, bx, dx] <;> rfl) ?_
  refine aops_end ?_
  refine awp_seq ?_
  refine awp_seq ?_
  refine awp_run rfl (by simp only [fwA, seval, gfw, bx, dx] <;> rfl) ?_
  refine awp_cond (b := false) (by simp [alook, aput, ev]) (awp_skip ?_)
  refine awp_seq ?_
  refine awp_seq ?_
  refine awp_drawn [1, 0, 0, 1, 0, 0, 0, 0, 1, 0, 0, 0, 1, 0, 0, 0, 0] [0, 1, 3, 0, 11, 27, 63, 127, 255, 511, 1023, 2047, 255, 5119, 13311, 32767, 65535] mixed rfl (by kernel_rfl) ?_
  refine dops_run 1 (by simp only [fwA, seval, gfw, bx, dx, Tm.fw, hq1, hq2, hbb] <;> rfl) ?_
  refine dops_fn rfl (by simp only [fwA, seval] <;> rfl) rfl rfl en11 h11 ?_
  refine dops_run 2 (by simp only [fwA, seval, gfw, bx, dx, Tm.fw, hq1, hq2, hbb] <;> rfl) ?_
  refine dops_fn rfl (by simp only [fwA, seval] <;> rfl) rfl rfl en13 h13 ?_
  refine dops_run 4 (by simp only [fwA, seval, gfw, bx, dx, Tm.fw, hq1, hq2, hbb] <;> rfl) ?_
  refine dops_fn rfl (by simp only [fwA, seval] <;> rfl) rfl rfl en8 h8t ?_
  refine dops_run 3 (by simp only [fwA, seval, gfw, bx, dx, Tm.fw, hq1, hq2, hbb] <;> rfl) ?_
  refine dops_fn rfl (by simp only [fwA, seval] <;> rfl) rfl rfl en13 h13 ?_
  refine dops_run 3 (by simp only [fwA, seval, gfw, bx, dx, Tm.fw, hq1, hq2, hbb] <;> rfl) ?_
  refine dops_end ?_
  refine awp_cond (b := false) (by simp [alook, aput, ev]) (awp_skip ?_)
  refine awp_seq ?_
  refine awp_region rfl ?_
  refine aops_run 1 (by simp only [fwA, seval, gfw, bx, dx, Tm.fw] <;> rfl) ?_
  refine aops_fn rfl rfl rfl en6 h6 ?_
  refine aops_run 2 (by simp only [fwA, seval, gfw, bx, dx, Tm.fw] <;> rfl) ?_
  refine aops_end ?_
  refine awp_seq ?_
  refine awp_region rfl ?_
  refine aops_run 1 (by simp only [fwA, seval, gfw, bx, dx, Tm.fw] <;> rfl) ?_
  refine aops_fn rfl rfl rfl en14 h14 ?_
  refine aops_run 1 (by simp only [fwA, seval, gfw, bx, dx, Tm.fw] <;> rfl) ?_
  refine aops_end ?_
  refine awp_keep (A' := [(5, .bool true), (6, .ptr (H.length + 1) 0), (7, .vec (fs.map S1) false)]) [5, 6, 7] (by simp only [fwA, seval, akeep, List.map_cons, List.map_nil] <;> rfl) ?_
  refine awp_vlen 7 rfl fun hfl => ?_
  rw [List.length_map] at hfl
  refine awp_seq ?_
  refine awp_seq ?_
  refine awp_run rfl (by simp only [fwA, seval, gfw, bx, dx] <;> rfl) ?_
  refine awp_block ?_
  refine awp_forG [5, 6, 7, 8] (fun i : Nat => [.bool true, .ptr (H.length + 1) 0, .vec (fs.map S1) false, .int .i64 (i : Int)])
    (fun i => H ++ [.box t.enc, .box m.enc]) (fun i => fs.length - i) (fun i => i ≤ fs.length) 0 rfl (by simp) (Nat.zero_le _)
    (fun i _ => ⟨bd_app (fun B hB => hbd B hB) (by simp only [List.all_cons, List.all_nil, Blk.bd, Tm.bd, Bool.and_true]), by simp [PV.bdL, PV.bd]⟩) (fun i _ b hb => by cases hb) fun i hi => ?_
  refine awp_seq ?_
  refine awp_seq ?_
  by_cases hc : (i : Int) < fs.length
  rotate_left
  · refine awp_run rfl (by simp only [fwA, seval, gfw, bx, dx, hc] <;> rfl) ?_
    refine awp_cond (b := false) (by simp [alook, aput, ev]) ?_
    refine awp_exit ?_
    refine awp_seq ?_
    refine awp_run rfl (by simp only [fwA, seval, gfw, bx, dx] <;> rfl) ?_
    refine awp_ret ?_
    exact gives_end (.inl rfl) _ rfl
  have hil : i < fs.length := by omega
  obtain ⟨s, hs⟩ : ∃ s, fs[i]? = some s := ⟨_, List.getElem?_eq_getElem hil⟩
  have hsm := hft s (List.mem_of_getElem? hs)
  have hwi : IntKind.i64.wrap ((i : Int) + 1) = ((i + 1 : Nat) : Int) := wrapS i (by omega)
  refine awp_run rfl (by simp only [fwA, seval, gfw, bx, dx, hc] <;> rfl) ?_
  refine awp_cond (b := true) (by simp [alook, aput, ev]) ?_
  refine awp_skip ?_
  refine awp_seq ?_
  refine awp_block ?_
  refine awp_seq ?_
  refine awp_run rfl (by simp only [fwA, seval, gfw, bx, dx] <;> rfl) ?_
  refine awp_seq ?_
  refine awp_seq ?_
  refine awp_region rfl ?_
  refine aops_run 1 (by simp only [fwA, seval, gfw, bx, dx, Tm.fw] <;> rfl) ?_
  refine aops_fn rfl rfl rfl en8 h8 ?_
  refine aops_run 2 (by simp only [fwA, seval, gfw, bx, dx, Tm.fw] <;> rfl) ?_
  refine aops_end ?_
  refine awp_keep (A' := [(5, .bool true), (6, .ptr (H.length + 1) 0), (7, .vec (fs.map S1) false), (8, .int .i64 (i : Int)), (9, .bool false), (43, .vec (ks.map Tk.enc) false), (44, .int .i64 (ks.length : Int)), (45, .int .i64 0)]) [5, 6, 7, 8, 9, 43, 44, 45] (by simp only [fwA, seval, akeep, List.length_map, List.map_cons, List.map_nil] <;> rfl) ?_
  refine awp_block ?_
  refine awp_forG [5, 6, 7, 8, 9, 43, 44, 45] (fun j : Nat => [.bool true, .ptr (H.length + 1) 0, .vec (fs.map S1) false, .int .i64 (i : Int), .bool ((ks.take j).any fun x => decide (x.kind = 1) && decide (x.text = s)), .vec (ks.map Tk.enc) false, .int .i64 (ks.length : Int), .int .i64 (j : Int)])
    (fun j => H ++ [.box t.enc, .box m.enc]) (fun j => ks.length - j) (fun j => j ≤ ks.length) 0 rfl rfl (Nat.zero_le _)
    (fun j _ => ⟨bd_app (fun B hB => hbd B hB) (by simp only [List.all_cons, List.all_nil, Blk.bd, Tm.bd, Bool.and_true]), by simp [PV.bdL, PV.bd]⟩) (fun j _ b hb => by cases hb) fun j hj => ?_
  refine awp_seq ?_
  refine awp_run rfl (by simp only [fwA, seval, gfw, bx, dx] <;> rfl) ?_
  refine awp_seq ?_
  refine awp_cond (by simp only [fwA, seval] <;> rfl) ?_
  by_cases hcj : (j : Int) < ks.length
  rotate_left
  · simp only [hcj, decide_false, Bool.false_eq_true, ↓reduceIte]
    refine awp_exit ?_
    have hany : ((ks.take j).any fun x => decide (x.kind = 1) && decide (x.text = s)) = true := by
      rw [List.take_of_length_le (by omega), List.any_eq_true]
      exact ⟨_, hsm, by simp⟩
    rw [hany]
    refine awp_seq ?_
    refine awp_run rfl (by simp only [fwA, seval, gfw, bx, dx] <;> rfl) ?_
    refine awp_cond (b := false) (by simp [alook, aput, ev]) (awp_skip ?_)
    refine awp_run rfl (by simp only [fwA, seval, gfw, bx, dx] <;> rfl) ?_
    exact ⟨i + 1, [], by omega, by omega, by simp only [fwA, seval, List.map_cons, List.map_nil, hwi], by simp, rfl, by simp⟩
  simp only [hcj, decide_true, ↓reduceIte]
  refine awp_skip ?_
  have hjl : j < ks.length := by omega
  obtain ⟨x, hx⟩ : ∃ x, ks[j]? = some x := ⟨_, List.getElem?_eq_getElem hjl⟩
  have hwj : IntKind.i64.wrap ((j : Int) + 1) = ((j + 1 : Nat) : Int) := wrapS j (by omega)
  have han : ((ks.take (j + 1)).any fun x => decide (x.kind = 1) && decide (x.text = s)) = (((ks.take j).any fun x => decide (x.kind = 1) && decide (x.text = s)) || (decide (x.kind = 1) && decide (x.text = s))) := by
    rw [take_snoc hx, List.any_append]; simp
  generalize ((ks.take j).any fun x => decide (x.kind = 1) && decide (x.text = s)) = mt at han ⊢
  refine awp_seq ?_
  refine awp_block ?_
  refine awp_seq ?_
  refine awp_run rfl (by simp only [fwA, seval, gfw, bx, dx, hx] <;> rfl) ?_
  have hso : ((fs.map S1)[i]?) = some [.str s] := by rw [List.getElem?_map, hs]; rfl
  cases mt
  · by_cases hk : x.kind = 1
    · by_cases ht : x.text = s
      · have hdx : decide (x.text = s) = true := decide_eq_true ht
        rw [decide_eq_true hk, hdx] at han
        refine awp_drun [0, 0, 0, 1, 0, 0, 0, 1, 0, 0, 0, 1, 0, 0, 0, 0] [0, 1, 3, 7, 15, 31, 63, 127, 63, 63, 831, 1855, 4095, 8191, 16383, 32767] mixed rfl (by kernel_rfl) (by simp only [fwA, seval, gfw, bx, dx, hk, hs, hdx] <;> rfl) ?_
        refine awp_run rfl (by simp only [fwA, seval, gfw, bx, dx] <;> rfl) ?_
        exact ⟨j + 1, [.box x.enc], by omega, by omega, by simp only [fwA, seval, List.map_cons, List.map_nil, hwj, han]; rfl, by simp, rfl, by simp⟩
      · rw [decide_eq_true hk, decide_eq_false ht] at han
        refine awp_drun [0, 0, 0, 1, 0, 0, 0, 1, 0, 0, 0, 1, 0, 0, 0, 0] [0, 1, 3, 7, 15, 31, 63, 127, 63, 63, 831, 1855, 4095, 8191, 16383, 32767] mixed rfl (by kernel_rfl) (by simp only [fwA, seval, gfw, bx, dx, hk, hs, ht] <;> rfl) ?_
        refine awp_run rfl (by simp only [fwA, seval, gfw, bx, dx] <;> rfl) ?_
        exact ⟨j + 1, [.box x.enc], by omega, by omega, by simp only [fwA, seval, List.map_cons, List.map_nil, hwj, han]; rfl, by simp, rfl, by simp⟩
    · rw [decide_eq_false hk] at han
      refine awp_drun [0, 0, 0, 1, 0, 0, 0, 1, 0, 0, 0, 1, 0, 0, 0, 0] [0, 1, 3, 7, 15, 31, 63, 127, 63, 63, 831, 1855, 4095, 8191, 16383, 32767] mixed rfl (by kernel_rfl) (by simp only [fwA, seval, gfw, bx, dx, hk] <;> rfl) ?_
      refine awp_run rfl (by simp only [fwA, seval, gfw, bx, dx] <;> rfl) ?_
      exact ⟨j + 1, [.box x.enc], by omega, by omega, by simp only [fwA, seval, List.map_cons, List.map_nil, hwj, han]; rfl, by simp, rfl, by simp⟩
  · refine awp_drun [0, 0, 0, 1, 0, 0, 0, 1, 0, 0, 0, 1, 0, 0, 0, 0] [0, 1, 3, 7, 15, 31, 63, 127, 63, 63, 831, 1855, 4095, 8191, 16383, 32767] mixed rfl (by kernel_rfl) (by simp only [fwA, seval, gfw, bx, dx] <;> rfl) ?_
    refine awp_run rfl (by simp only [fwA, seval, gfw, bx, dx] <;> rfl) ?_
    exact ⟨j + 1, [.box x.enc], by omega, by omega, by simp only [fwA, seval, List.map_cons, List.map_nil, hwj, han]; rfl, by simp, rfl, by simp⟩
end Go.Proofs.YtddnigahjahkbaaGreatDoor
namespace Go.Proofs.YtddnigahjahkbaaGreatDoor
set_option linter.unusedVariables false
set_option linter.unusedSimpArgs false
set_option maxRecDepth 100000
open Go.ChangeShapes Go.WideShapes Go.ChangeAt Go.RowKit Fw
theorem cells_of_strs {H : Type} {enc : TypeId × Value → H} {P : Program} {w : World} {base : Nat} {sp : Nat → Bool} {held : Bool} {fuel : Nat} {t e : TypeId} {n : Nat} {cs : List Value} {ss : List (List UInt8)} {p : List MemPlace}
    (ht : P.underlying t = some (.array n e)) (he : P.underlying e = some .string) (hce : P.cellsOf e = 1) (hct : P.cellsOf t = n)
    (h : DataW.trod enc P w base sp held fuel t cs = some (.agg (ss.map fun s => .lit (.string s)), p)) : cs = ss.map fun s => Value.string ⟨s.toArray⟩ := by
  cases fuel with
  | zero => simp [DataW.trod] at h
  | succ fuel =>
    simp only [DataW.trod, ht, hce, hct, Nat.mul_one] at h
    split at h
    · rename_i hl
      obtain ⟨xs, hm, hx⟩ := Option.map_eq_some_iff.1 h
      have hxs : xs.map (·.1) = ss.map fun s => (DataW.lit (.string s) : DataW H) := by
        have := congrArg Prod.fst hx
        simpa using this
      have hxl : xs.length = n := by simpa using Lib.mapM_length hm
      have hzl : ss.length = n := by
        have := congrArg List.length hxs
        simp at this
        omega
      apply List.ext_getElem?
      intro i
      by_cases hi : i < n
      · obtain ⟨b, hb, hf⟩ := Lib.mapM_at hm i i (by simp [hi])
        obtain ⟨z, hc, rfl, _⟩ := DataW.trod_string he hf
        have h1 : cs[i]? = some (.string z) := by
          have := congrArg (·[0]?) hc
          simpa [List.getElem?_take, List.getElem?_drop] using this
        have h2 : (xs.map (·.1))[i]? = some (DataW.lit (.string z.data.toList) : DataW H) := by simp [hb]
        rw [hxs] at h2
        simp only [List.getElem?_map, Option.map_eq_some_iff, DataW.lit.injEq, Lit.string.injEq] at h2
        obtain ⟨z', hz', rfl⟩ := h2
        simp [h1, hz']
      · rw [List.getElem?_eq_none (by omega), List.getElem?_eq_none (by simp; omega)]
    · cases h
theorem strsIs_of_head {P : Program} {W : World} {name : String} {ss : List (List UInt8)} {rest : List (String × DataW Unit)} {g : Nat} {t e : TypeId} {n : Nat}
    (hg : P.globalNamed name = some g) (hty : (P.globals[g]?).map (·.type) = some t) (ht : P.underlying t = some (.array n e)) (he : P.underlying e = some .string) (hce : P.cellsOf e = 1) (hct : P.cellsOf t = n)
    (h : laidMet P ((name, .agg (ss.map fun s => .lit (.string s))) :: rest) W) : W.var? P name = some (ss.map fun s => Value.string ⟨s.toArray⟩).toArray := by
  obtain ⟨ps, ⟨g', t', cs, fuel, p, q, hg', ht', hvar, hd, _, _⟩, _⟩ := h
  obtain rfl := Option.some.inj (hg.symm.trans hg')
  obtain rfl := Option.some.inj (hty.symm.trans ht')
  rw [hvar, ← cells_of_strs ht he hce hct hd]
theorem rep_var {P : Program} {W : World} {name : String} {g : Nat} {vs : List Value} {ps : List PV} (hg : P.globalNamed name = some g) (h : W.var? P name = some vs.toArray) (hl : ps.length = vs.length)
    (hr : ∀ (i : Nat) p v, ps[i]? = some p → vs[i]? = some v → Rep (ofW W) 0 p v ∧ v.oneCell' = true) :
    Rep (ofW W) 0 (.cptr ps) (.pointer (some ⟨g, 0, none⟩)) ∧ ∃ C e q, W.heap[g]? = some (.cells C e q) ∧ C.size = ps.length := by
  have hc : ∀ (i : Nat) c, ps[i]? = some c → ∃ v, vs[i]? = some v ∧ W.cell? ⟨g, i, none⟩ = some v := fun i c hc => by
    have hi := (List.getElem?_eq_some_iff.1 hc).1
    refine ⟨vs[i]'(by omega), List.getElem?_eq_getElem (by omega), ?_⟩
    rw [World.var?_cell hg h i]
    simp [show i < vs.length by omega]
  refine ⟨.cptr 0 _ g 0 (fun i => vs.getD i undef) (fun i c hi => ?_) (fun i c hi => ?_) (fun i c hi => ?_), ?_⟩
  · obtain ⟨v, h1, h2⟩ := hc i c hi
    rw [List.getD_eq_getElem?_getD, h1]
    simpa [ofW] using h2
  · obtain ⟨v, h1, h2⟩ := hc i c hi
    rw [List.getD_eq_getElem?_getD, h1]
    exact (hr i c v hi h1).1
  · obtain ⟨v, h1, h2⟩ := hc i c hi
    rw [List.getD_eq_getElem?_getD, h1]
    exact (hr i c v hi h1).2
  · unfold World.var? at h
    rw [hg] at h
    simp only [Option.bind_some] at h
    split at h
    · rename_i C e q hC
      cases h
      exact ⟨_, e, q, hC, by simp [hl]⟩
    · cases h
theorem own : ownKnob Tryz.prog.godebug = none := by kernel_rfl
theorem g0 : Tryz.prog.globalNamed "chancel/term.kids" = some 0 := by kernel_rfl
theorem g1 : Tryz.prog.globalNamed "chancel/term.ops" = some 1 := by kernel_rfl
theorem g2 : Tryz.prog.globalNamed "chancel/lex.marks" = some 3 := by kernel_rfl
theorem g3 : Tryz.prog.globalNamed "chancel/lex.keys" = some 2 := by kernel_rfl
theorem g4 : Tryz.prog.globalNamed "internal/strconv.uint64pow10" = some 4 := by kernel_rfl
theorem y0 : (Tryz.prog.globals[0]?).map (·.type) = some 81 := by kernel_rfl
theorem y1 : (Tryz.prog.globals[1]?).map (·.type) = some 84 := by kernel_rfl
theorem y2 : (Tryz.prog.globals[3]?).map (·.type) = some 112 := by kernel_rfl
theorem y3 : (Tryz.prog.globals[2]?).map (·.type) = some 103 := by kernel_rfl
theorem y4 : (Tryz.prog.globals[4]?).map (·.type) = some 135 := by kernel_rfl
theorem cells81 : Tryz.prog.cellsOf 81 = 14 := by kernel_rfl
theorem cells84 : Tryz.prog.cellsOf 84 = 5 := by kernel_rfl
theorem cells112 : Tryz.prog.cellsOf 112 = 13 := by kernel_rfl
theorem cells103 : Tryz.prog.cellsOf 103 = 14 := by kernel_rfl
theorem cells135 : Tryz.prog.cellsOf 135 = 20 := by kernel_rfl
theorem cells3 : Tryz.prog.cellsOf 3 = 1 := by kernel_rfl
theorem cells9 : Tryz.prog.cellsOf 9 = 1 := by kernel_rfl
theorem cells116 : Tryz.prog.cellsOf 116 = 1 := by kernel_rfl
def Γ0 : Nat → PV := fun g => if g = 0 then .cptr (kidsTab.map fun z => .int .i64 z) else if g = 1 then .cptr (opNs.map .str) else if g = 2 then .cptr (kws.map .str) else if g = 3 then .cptr (mks.map .str) else if g = 4 then .cptr (Lib.pow10Tab.map fun z => .int .u64 z) else .any
theorem tabΓ0 : Tab Γ0 := ⟨rfl, rfl, rfl, rfl, rfl⟩
theorem sim0 {W : World} (h : laidMetH Tryz.prog Rows.showTellsRow.laid W) : Sim Γ0 W (ofW W) [] W := by
  have t1 := laidMet.tail (laidMet.tail h)
  have h4 : W.var? Tryz.prog "internal/strconv.uint64pow10" = some (Lib.pow10Tab.map fun z => Value.int .u64 z).toArray := Lib.tabIs_of_head (zs := Lib.pow10Tab) (rest := [("strconv.ErrRange", Rows.laid_strconv_ErrRange), ("strconv.ErrSyntax", Rows.laid_strconv_ErrSyntax), ("chancel/lex.keys", Rows.laid_chancel_lex_keys), ("chancel/lex.marks", Rows.laid_chancel_lex_marks), ("chancel/term.kids", Rows.laid_chancel_term_kids), ("chancel/term.ops", Rows.laid_chancel_term_ops)]) g4 y4 Tryz.underlying135 Tryz.underlying116 cells116 cells135 t1
  have t2 := laidMet.tail (laidMet.tail (laidMet.tail t1))
  have h3 : W.var? Tryz.prog "chancel/lex.keys" = some (kws.map fun s => Value.string ⟨s.toArray⟩).toArray := strsIs_of_head (ss := kws) (rest := [("chancel/lex.marks", Rows.laid_chancel_lex_marks), ("chancel/term.kids", Rows.laid_chancel_term_kids), ("chancel/term.ops", Rows.laid_chancel_term_ops)]) g3 y3 Tryz.underlying103 Tryz.underlying9 cells9 cells103 t2
  have h2 : W.var? Tryz.prog "chancel/lex.marks" = some (mks.map fun s => Value.string ⟨s.toArray⟩).toArray := strsIs_of_head (ss := mks) (rest := [("chancel/term.kids", Rows.laid_chancel_term_kids), ("chancel/term.ops", Rows.laid_chancel_term_ops)]) g2 y2 Tryz.underlying112 Tryz.underlying9 cells9 cells112 (laidMet.tail t2)
  have h0 : W.var? Tryz.prog "chancel/term.kids" = some (kidsTab.map fun z => Value.int .i64 z).toArray := Lib.tabIs_of_head (zs := kidsTab) (rest := [("chancel/term.ops", Rows.laid_chancel_term_ops)]) g0 y0 Tryz.underlying81 Tryz.underlying3 cells3 cells81 (laidMet.tail (laidMet.tail t2))
  have h1 : W.var? Tryz.prog "chancel/term.ops" = some (opNs.map fun s => Value.string ⟨s.toArray⟩).toArray := strsIs_of_head (ss := opNs) (rest := []) g1 y1 Tryz.underlying84 Tryz.underlying9 cells9 cells84 (laidMet.tail (laidMet.tail (laidMet.tail t2)))
  have str : ∀ (ss : List (List UInt8)) (hb : ∀ s ∈ ss, s.length ≤ 9223372036854775807) (i : Nat) p v, (ss.map PV.str)[i]? = some p → (ss.map fun s => Value.string ⟨s.toArray⟩)[i]? = some v → Rep (ofW W) 0 p v ∧ v.oneCell' = true := fun ss hb i p v hp hv => by
    rw [List.getElem?_map] at hp hv
    obtain ⟨s, hs, rfl⟩ := Option.map_eq_some_iff.1 hp
    rw [hs] at hv
    cases hv
    exact ⟨.str _ _ (hb s (List.mem_of_getElem? hs)), rfl⟩
  have num : ∀ (k : IntKind) (zs : List Int) (i : Nat) p v, (zs.map fun z => PV.int k z)[i]? = some p → (zs.map fun z => Value.int k z)[i]? = some v → Rep (ofW W) 0 p v ∧ v.oneCell' = true := fun k zs i p v hp hv => by
    rw [List.getElem?_map] at hp hv
    obtain ⟨z, hz, rfl⟩ := Option.map_eq_some_iff.1 hp
    rw [hz] at hv
    cases hv
    exact ⟨.int _ _ _, rfl⟩
  have r0 := rep_var (ps := kidsTab.map fun z => PV.int .i64 z) g0 h0 (by simp) (num .i64 kidsTab)
  have r1 := rep_var (ps := opNs.map PV.str) g1 h1 (by simp) (str opNs (by decide))
  have r2 := rep_var (ps := mks.map PV.str) g2 h2 (by simp) (str mks (by decide))
  have r3 := rep_var (ps := kws.map PV.str) g3 h3 (by simp) (str kws (by decide))
  have r4 := rep_var (ps := Lib.pow10Tab.map fun z => PV.int .u64 z) g4 h4 (by simp) (num .u64 Lib.pow10Tab)
  refine sim_ofW (fun g => ?_) fun g cs hg => ?_
  · unfold Γ0
    split
    · rename_i e; subst e; exact r0.1
    · split
      · rename_i e; subst e; exact r1.1
      · split
        · rename_i e; subst e; exact r3.1
        · split
          · rename_i e; subst e; exact r2.1
          · split
            · rename_i e; subst e; exact r4.1
            · exact .any _ _
  · unfold Γ0 at hg
    split at hg
    · rename_i e; subst e; cases hg; exact r0.2
    · split at hg
      · rename_i e; subst e; cases hg; exact r1.2
      · split at hg
        · rename_i e; subst e; cases hg; exact r3.2
        · split at hg
          · rename_i e; subst e; cases hg; exact r2.2
          · split at hg
            · rename_i e; subst e; cases hg; exact r4.2
            · cases hg
def rangeS : ByteArray := ⟨#[118, 97, 108, 117, 101, 32, 111, 117, 116, 32, 111, 102, 32, 114, 97, 110, 103, 101]⟩
def syntaxS : ByteArray := ⟨#[105, 110, 118, 97, 108, 105, 100, 32, 115, 121, 110, 116, 97, 120]⟩
noncomputable def lowW : Nat := (World.holding Tryz.prog default ⟨#[], #[], []⟩).heap.size
noncomputable def laidWorld (os : Os) : World :=
  let w := World.holding Tryz.prog os ⟨#[.cells #[.string rangeS] 165, .cells #[.string syntaxS] 165], #[], []⟩
  let put (b : Nat) (vs : List Value) (h : Array Obj) : Array Obj := h.modify b fun
      | .cells _ t frozen => .cells vs.toArray t frozen
      | o => o
  { w with heap := put 7 [.iface 163 (.pointer (some ⟨lowW, 0, none⟩))] (put 6 [.iface 163 (.pointer (some ⟨lowW + 1, 0, none⟩))] (put 9 (([0, 1, 56, 2, 57, 49, 28, 3, 61, 58, 42, 50, 38, 29, 17, 4, 62, 47, 59, 36, 45, 43, 51, 22, 53, 39, 33, 30, 24, 18, 12, 5, 63, 55, 48, 27, 60, 41, 37, 16, 46, 35, 44, 21, 52, 32, 23, 11, 54, 26, 40, 15, 34, 20, 31, 10, 25, 14, 19, 9, 13, 8, 7, 6] : List Int).map fun z => .int .u8 z) (put 8 (([0, 1, 28, 2, 29, 14, 24, 3, 30, 22, 20, 15, 25, 17, 4, 8, 31, 27, 13, 23, 21, 19, 16, 7, 26, 12, 18, 6, 11, 5, 10, 9] : List Int).map fun z => .int .u8 z) (put 4 (Lib.pow10Tab.map fun z => .int .u64 z) (put 2 (kws.map fun s => .string ⟨s.toArray⟩) (put 3 (mks.map fun s => .string ⟨s.toArray⟩) (put 1 (opNs.map fun s => .string ⟨s.toArray⟩) (put 0 (kidsTab.map fun z => .int .i64 z) w.heap)))))))) }
end Go.Proofs.YtddnigahjahkbaaGreatDoor
namespace Go.Proofs.YtddnigahjahkbaaGreatDoor
set_option linter.unusedVariables false
set_option linter.unusedSimpArgs false
set_option maxRecDepth 100000
open Go.ChangeShapes Go.WideShapes Go.ChangeAt Go.RowKit Fw
mutual
theorem bulk_eq {H : Type} : ∀ d : DataW H, Rows.uptoBulk d = bulk d
  | .lit (.string _) => rfl
  | .lit (.bool _) => rfl
  | .lit (.int _ _) => rfl
  | .lit (.float _ _) => rfl
  | .lit .nil => rfl
  | .nil => rfl
  | .ptr d => by simp only [Rows.uptoBulk, bulk, bulk_eq d]
  | .slice e r => by simp only [Rows.uptoBulk, bulk, bulkAll_eq e, bulkAll_eq r]
  | .agg p => by simp only [Rows.uptoBulk, bulk, bulkAll_eq p]
  | .iface _ d => by simp only [Rows.uptoBulk, bulk, bulk_eq d]
  | .map es => by simp only [Rows.uptoBulk, bulk, bulkEntries_eq es]
  | .held _ => rfl
theorem bulkAll_eq {H : Type} : ∀ l : List (DataW H), Rows.uptoBulkAll l = bulkAll l
  | [] => rfl
  | d :: r => by simp only [Rows.uptoBulkAll, bulkAll, bulk_eq d, bulkAll_eq r]
theorem bulkEntries_eq {H : Type} : ∀ l : List (Lit × DataW H), Rows.uptoBulkEntries l = bulkEntries l
  | [] => rfl
  | x :: r => by simp only [Rows.uptoBulkEntries, bulkEntries, bulkEntry_eq x, bulkEntries_eq r]
theorem bulkEntry_eq {H : Type} : ∀ x : Lit × DataW H, Rows.uptoBulkEntry x = bulkEntry x
  | (.string _, d) => by simp only [Rows.uptoBulkEntry, bulkEntry, bulk_eq d]
  | (.bool _, d) => by simp only [Rows.uptoBulkEntry, bulkEntry, bulk_eq d]
  | (.int _ _, d) => by simp only [Rows.uptoBulkEntry, bulkEntry, bulk_eq d]
  | (.float _ _, d) => by simp only [Rows.uptoBulkEntry, bulkEntry, bulk_eq d]
  | (.nil, d) => by simp only [Rows.uptoBulkEntry, bulkEntry, bulk_eq d]
end
theorem upto_bulk {H : Type} {s : ChangeSpec} {ds gs : List (DataW H)} (h : ∀ k, (Rows.OpenSpec.upto s).cond = some k → k H (ds ++ gs) = true) : bulkAll ds ≤ 1048576 := by
  have h1 : Rows.uptoSmall H (ds ++ gs) = true := h _ rfl
  have h2 := of_decide_eq_true h1
  rw [bulkAll_eq, bulkAll_append] at h2
  omega
end Go.Proofs.YtddnigahjahkbaaGreatDoor
namespace Go.Proofs.YtddnigahjahkbaaGreatDoor
set_option linter.unusedVariables false
set_option linter.unusedSimpArgs false
set_option maxRecDepth 100000
open Go.RowKit Fw
theorem u8_wf {n : Int} (h : (Lit.int .u8 n).wf = true) : 0 ≤ n ∧ n < 256 := by
  have h2 := int_wf h
  have h3 : IntKind.u8.min = 0 := by decide
  have h4 : IntKind.u8.max = 255 := by decide
  omega
theorem by24 : Tryz.prog.bytesOf 24 = 56 := by kernel_rfl
theorem ce24 : 0 < Tryz.prog.cellsOf 24 := of_decide_eq_true (by kernel_rfl)
theorem decB_tm (W : World) : ∀ n, DecB Tryz.prog W n 24 Tm.enc Tm.Ok Tm.w := by
  intro n
  induction n using Nat.strongRecOn with
  | _ n ih =>
    cases n with
    | zero => exact DecB.zero
    | succ n =>
      have kids : DecB Tryz.prog W n 22 (fun xs : List Tm => [.vec (xs.map Tm.enc) false]) (fun xs => xs.length * 56 ≤ reachBytes ∧ ∀ x ∈ xs, x.Ok) (fun xs => (xs.map Tm.w).sum + 1) := by
        cases n with
        | zero => exact DecB.zero
        | succ n => exact (decB_slice Tryz.underlying22 ce24 (ih n (by omega))).weaken (fun xs h => by rwa [by24] at h) (fun _ => Nat.le_refl _)
      exact DecB.map (decB_struct Tryz.underlying24 (by kernel_rfl) (decFB_cons rfl (by kernel_rfl) (decB_int Tryz.underlying3) (decFB_cons rfl (by kernel_rfl) (decB_str Tryz.underlying9) (decFB_cons rfl (by kernel_rfl) (decB_int Tryz.underlying2) (decFB_last rfl kids)))))
        (fun x => Tm.mk x.1 x.2.1 x.2.2.1 x.2.2.2) (fun x => by rw [Tm.enc_eq]; rfl) (fun x h => .mk _ h.2.2.2.1 h.2.2.2.2) (fun x => by rw [Tm.w_eq]; simp only [Tm.kids]; omega)
theorem readsB_tm (W : World) : ReadsArgB Tryz.prog W 24 (fun t : Tm => .agg t.enc) Tm.Ok Tm.w := readsB_struct Tryz.underlying24 fun n => decB_tm W n
theorem ce5 : 0 < Tryz.prog.cellsOf 5 := of_decide_eq_true (by kernel_rfl)
theorem readsB_bytes (W : World) : ReadsArgB Tryz.prog W 25 (fun l : List Int => .vec (l.map B8) false) (fun l => l.length * Tryz.prog.bytesOf 5 ≤ reachBytes ∧ ∀ y ∈ l, (Lit.int .u8 y).wf = true) (fun l => (l.map fun _ => 1).sum + 1) := readsB_slice Tryz.underlying25 ce5 fun _ => decB_int Tryz.underlying5
end Go.Proofs.YtddnigahjahkbaaGreatDoor
