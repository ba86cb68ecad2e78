/- A law of chapter 12: what is projected asks what the pairs ask. -/
import Derived.Test.YteicbhkimepbaaaGreatDoorWF
namespace Go.Proofs.YteicbhkimepbaaaGreatDoor
set_option linter.unusedVariables false
set_option linter.unusedSimpArgs false
set_option maxRecDepth 100000
open Go.RowKit Fw

theorem known_app {ns : List (List UInt8)} {us : List Nat} {c d : List Pr} (h1 : knownB ns us c = true) (h2 : knownB ns us d = true) : knownB ns us (c ++ d) = true := by
  rw [known_spec] at h1 h2 ⊢
  exact ⟨h1.1, fun p hp => by
    rcases List.mem_append.1 hp with h | h
    · exact h1.2 p h
    · exact h2.2 p h⟩
/-- The pairs that fix the first variables to their points. -/
def fS (n : Nat) (p : List Int) (m : Nat) : List Pr := (List.range m).flatMap fun i : Nat => [⟨-1 - pz n p i, (i : Int)⟩, ⟨(i : Int), -1 - pz n p i⟩]
theorem fS_snoc (n : Nat) (p : List Int) (m : Nat) : fS n p m ++ [⟨-1 - pz n p m, (m : Int)⟩, ⟨(m : Int), -1 - pz n p m⟩] = fS n p (m + 1) := by simp [fS, List.range_succ]
theorem fS_len (n : Nat) (p : List Int) : ∀ m, (fS n p m).length = 2 * m
  | 0 => rfl
  | m + 1 => by rw [← fS_snoc, List.length_append, fS_len n p m]; simp; omega
theorem pz_bd {n : Nat} (hn : 0 < n) {p : List Int} (hp : ∀ x ∈ p, 0 ≤ x ∧ x < 256) (i : Nat) : 0 ≤ pz n p i ∧ pz n p i < n := by
  unfold pz
  split
  · rename_i x h
    exact tmod_bd (hp x (List.mem_of_getElem? h)).1 hn
  · omega
theorem fS_mem {n : Nat} {p : List Int} {m : Nat} {q : Pr} : q ∈ fS n p m ↔ ∃ i : Nat, i < m ∧ (q = ⟨-1 - pz n p i, (i : Int)⟩ ∨ q = ⟨(i : Int), -1 - pz n p i⟩) := by
  unfold fS
  rw [List.mem_flatMap]
  simp
theorem tS_sg {ns : List (List UInt8)} {us : List Nat} (hn : 0 < ns.length) {p : List Int} (hp : ∀ x ∈ p, 0 ≤ x ∧ x < 256) {i : Nat} (hi : i < 8) : (sg ns us (tS ns.length p 8) i : Int) = pz ns.length p i := by
  have hb := pz_bd hn hp i
  have e : tS ns.length p 8 = (kS 8).map fun v => (⟨v, (((pz ns.length p v.toNat).toNat : Nat) : Int)⟩ : So) := by
    unfold tS kS
    rw [List.map_map]
    refine List.map_congr_left fun j _ => ?_
    have := pz_bd hn hp j
    show (⟨(j : Int), pz ns.length p j⟩ : So) = ⟨(j : Int), ((pz ns.length p (j : Int).toNat).toNat : Int)⟩
    rw [Int.toNat_natCast, Int.toNat_of_nonneg this.1]
  unfold sg valueV
  rw [if_neg (show ¬ ((i : Int) < 0) by omega), if_neg (show ¬ ((i : Int) < 0) by omega), e, find_sol (fun v => (pz ns.length p v.toNat).toNat), if_pos (kS_mem.2 ⟨by omega, by omega⟩)]
  show ((ptI ns.length (((pz ns.length p ((i : Int)).toNat).toNat : Nat) : Int)).toNat : Int) = _
  rw [Int.toNat_natCast, Int.toNat_of_nonneg hb.1]
  unfold ptI
  rw [if_pos (ptB_iff.2 hb), Int.toNat_of_nonneg hb.1]
theorem fS_known {ns : List (List UInt8)} {us : List Nat} (hR : rightB ns us = true) (hn : 0 < ns.length) {p : List Int} (hp : ∀ x ∈ p, 0 ≤ x ∧ x < 256) (m : Nat) : knownB ns us (fS ns.length p m) = true := known_spec.2 ⟨hR, fun q hq => by
  obtain ⟨r1, r2, _⟩ := right_spec hR
  obtain ⟨i, _, rfl | rfl⟩ := fS_mem.1 hq
  · have := pz_bd hn hp i
    exact ⟨fun _ => by show (-1 - (-1 - pz ns.length p i)).toNat < us.length; omega, fun h => by have h : (i : Int) < 0 := h; omega⟩
  · have := pz_bd hn hp i
    exact ⟨fun h => by have h : (i : Int) < 0 := h; omega, fun _ => by show (-1 - (-1 - pz ns.length p i)).toNat < us.length; omega⟩⟩
theorem fS_ok {n : Nat} (hn : 0 < n) (h64 : n ≤ 64) {p : List Int} (hp : ∀ x ∈ p, 0 ≤ x ∧ x < 256) {m : Nat} (hm : m ≤ 8) : OkP (fS n p m) := fun q hq => by
  obtain ⟨i, _, rfl | rfl⟩ := fS_mem.1 hq
  · have := pz_bd hn hp i
    exact ⟨⟨by show _ ≤ -1 - pz n p i; omega, by show -1 - pz n p i ≤ _; omega⟩, ⟨by show _ ≤ (i : Int); omega, by show (i : Int) ≤ _; omega⟩⟩
  · have := pz_bd hn hp i
    exact ⟨⟨by show _ ≤ (i : Int); omega, by show (i : Int) ≤ _; omega⟩, ⟨by show _ ≤ -1 - pz n p i; omega, by show -1 - pz n p i ≤ _; omega⟩⟩
theorem fix_least {ns : List (List UInt8)} {us : List Nat} {d : List Pr} (hk : knownB ns us d = true) (hn : 0 < ns.length) {p : List Int} (hp : ∀ x ∈ p, 0 ≤ x ∧ x < 256) {m : Nat} (hm : m ≤ 8) (hex : (leastV ns us d).2 = true) (hs : solvesB ns us (projV ns us d (kS m)) (tS ns.length p 8) = true) : (leastV ns us (d ++ fS ns.length p m)).2 = true := by
  obtain ⟨hR, _⟩ := known_spec.1 hk
  obtain ⟨_, _, hsol⟩ := solves_iff.1 hs
  have ex : ∃ τ, SolS us.length (lq us) d τ := by
    rcases leastV_is ns us d with ⟨h1, _⟩ | ⟨_, ⟨τ, ht, _⟩ | ⟨_, h1⟩⟩
    · rw [hk] at h1; cases h1
    · exact ⟨τ, ht⟩
    · rw [h1] at hex; cases hex
  obtain ⟨σ, hσ⟩ := proj_full hk ex (fun k hk => (kS_mem.1 hk).1) hsol
  have e : ∀ q, q ∈ d ++ fS ns.length p m → q ∈ d ++ fixP (sg ns us (tS ns.length p 8)) (kS m) := fun q hq => by
    rcases List.mem_append.1 hq with h | h
    · exact List.mem_append.2 (.inl h)
    · obtain ⟨i, hi, hq⟩ := fS_mem.1 h
      refine List.mem_append.2 (.inr (fix_mem.2 ⟨(i : Int), kS_mem.2 ⟨by omega, by omega⟩, ?_⟩))
      rw [tS_sg hn hp (by omega)]
      exact hq
  have hk2 := known_app hk (fS_known (us := us) hR hn hp m)
  rcases leastV_is ns us (d ++ fS ns.length p m) with ⟨h1, _⟩ | ⟨_, ⟨τ, _, _, h1⟩ | ⟨h1, _⟩⟩
  · rw [hk2] at h1; cases h1
  · rw [h1]
  · exact absurd ⟨hσ.1, fun q hq => hσ.2 q (e q hq)⟩ (h1 σ)
set_option maxHeartbeats 16000000 in
/- chancel/chancellaw12.ClosedProjects -/
theorem c10 (Γ : Nat → PV) (hΓ : Tab64 Γ) (k : Int) (hk0 : 0 ≤ k) (c : List Pr) (ho : OkP c) (n : Int) (hn0 : 0 ≤ n) (p : List Int) (hp : ∀ x ∈ p, 0 ≤ x ∧ x < 256) : Gives Tryz.prog Γ 10 [.int .u8 k, .vec (c.map Pr.enc) false, .int .u8 n, .vec (p.map B8) false] (.bool true) := by
  have hnm := tmod_nat (n := 8) hn0
  have hm8 : n.toNat % 8 < 8 := Nat.mod_lt _ (by decide)
  generalize n.toNat % 8 = m at hnm hm8
  have hwm : IntKind.i64.wrap (m : Int) = (m : Int) := wrapId ⟨by omega, by omega⟩
  have hnm : n.tmod 8 = (m : Int) := hnm
  have h23 := c23 Γ hΓ
  have h38 := c38 Γ
  obtain ⟨j, ns, us, ej, hget, hla, hR, hw⟩ := lats_at hk0
  obtain ⟨r1, r2, _, _, r5⟩ := right_spec hR
  have rp := r5.pos
  have hn : 0 < ns.length := by omega
  have h39 := c39 Γ ns us hn c ho
  have ho' := ptsV_ok (c := c) hn ho
  have hl' := ptsV_len ns.length c
  have hkn := ptsV_known (c := c) hR ho
  have hvr := fun x => ptsV_vars (x := x) hR ho
  refine fn_of_awp Tryz.func10 rfl (by simp [Tryz.f10]) rfl fun H => ?_
  refine awp_bd fun hbd => ?_
  refine awp_seq ?_
  refine awp_run rfl (by simp only [fwA, seval, gfw, bx, dx, bitfw, Int.reduceEq, Int.reduceNeg, Int.reduceToNat, Int.reduceLE, Int.reduceLT] <;> rfl) ?_
  refine awp_seq ?_
  refine awp_region rfl ?_
  refine aops_fn rfl rfl rfl en23 h23 ?_
  refine aops_run 1 (by simp only [fwA, seval, gfw, bx, dx, bitfw, Int.reduceEq, Int.reduceNeg, Int.reduceToNat, Int.reduceLE, Int.reduceLT] <;> rfl) ?_
  refine aops_end ?_
  refine awp_seq ?_
  refine awp_seq ?_
  refine awp_run rfl (by simp only [fwA, seval] <;> rfl) ?_
  refine awp_cond (b := false) (by simp [alook, aput, ev]) (awp_skip ?_)
  refine awp_seq ?_
  refine awp_region rfl ?_
  refine aops_fn rfl rfl rfl en38 h38 ?_
  refine aops_run 6 (by simp only [fwA, seval, gfw, bx, dx, bitfw, Int.reduceEq, Int.reduceNeg, Int.reduceToNat, Int.reduceLE, Int.reduceLT, ej, hget, hla] <;> rfl) ?_
  refine aops_end ?_
  refine awp_seq ?_
  have hn64 : ns.length ≤ 64 := by omega
  refine awp_region rfl ?_
  refine aops_run 2 (by simp only [fwA, seval, gfw, bx, dx, bitfw, Int.reduceEq, Int.reduceNeg, Int.reduceToNat, Int.reduceLE, Int.reduceLT] <;> rfl) ?_
  refine aops_fn rfl rfl rfl en39 h39 ?_
  refine aops_run 1 (by simp only [fwA, seval, gfw, bx, dx, bitfw, Int.reduceEq, Int.reduceNeg, Int.reduceToNat, Int.reduceLE, Int.reduceLT] <;> rfl) ?_
  refine aops_end ?_
  generalize ptsV ns.length c = d at *
  have hfl := fS_len ns.length p m
  have h14 := c14 Γ hΓ ns us hw d (by omega) ho'
  have h14b := c14 Γ hΓ ns us hw (d ++ fS ns.length p m) (by rw [List.length_append]; omega) (fun q hq => (List.mem_append.1 hq).elim (ho' q) (fS_ok hn hn64 hp (Nat.le_of_lt hm8) q))
  have hfix := fun h1 h2 => fix_least (d := d) (m := m) hkn hn hp (Nat.le_of_lt hm8) h1 h2
  have h46 := c46 Γ ns us hn p hp
  have h35 := c35 Γ hΓ ns us hw d (by omega) ho' (kS m) (kS_64 hm8) (by rw [kS_len]; exact Nat.le_trans (Nat.mul_le_mul (Nat.le_of_lt hm8) (Nat.add_le_add_right hl' 3)) (by decide))
  have hpl : (projV ns us d (kS m)).length ≤ 300 := proj_le ns us d (by rw [kS_len]; omega) (by omega)
  have hpo : OkP (projV ns us d (kS m)) := proj_ok hkn hm8
  have h21a := c21 Γ hΓ ns us hw d (by omega) ho' (tS ns.length p 8)
  have h21b := c21 Γ hΓ ns us hw (projV ns us d (kS m)) (by omega) hpo (tS ns.length p 8)
  have hsnd := fun h => proj_sound (c := d) (s := tS ns.length p 8) (ns := ns) (us := us) h (kS m)
  generalize projV ns us d (kS m) = Z at *
  generalize leastV ns us d = X at h14 hfix
  generalize leastV ns us (d ++ fS ns.length p m) = Y at h14b hfix
  obtain ⟨s, ok⟩ := X
  obtain ⟨s2, ok2⟩ := Y
  refine awp_seq ?_
  refine awp_region rfl ?_
  refine aops_run 2 (by simp only [fwA, seval, gfw, bx, dx, bitfw, Int.reduceEq, Int.reduceNeg, Int.reduceToNat, Int.reduceLE, Int.reduceLT, leastEnc] <;> rfl) ?_
  refine aops_fn rfl rfl rfl en14 h14 ?_
  refine aops_run 5 (by simp only [fwA, seval, gfw, bx, dx, bitfw, Int.reduceEq, Int.reduceNeg, Int.reduceToNat, Int.reduceLE, Int.reduceLT, leastEnc] <;> rfl) ?_
  refine aops_end ?_
  refine awp_seq ?_
  refine awp_seq ?_
  refine awp_run rfl (by simp only [fwA, seval] <;> rfl) ?_
  cases ok
  · refine awp_cond (b := true) (by simp [alook, aput, ev]) ?_
    refine awp_seq ?_
    refine awp_run rfl (by simp only [fwA, seval] <;> rfl) ?_
    refine awp_ret ?_
    exact gives_end (.inl rfl) _ rfl
  refine awp_cond (b := false) (by simp [alook, aput, ev]) (awp_skip ?_)
  refine awp_seq ?_
  refine awp_run rfl (by simp only [fwA, seval] <;> rfl) ?_
  refine awp_told (told_adopt 13 1 (by decide) (by simp [alook])) ?_
  refine awp_heap (H' := H ++ [.box [.vec (ns.map S1) false, .vec (us.map U1) false], .row 1 (((kS 0).map I1).flatten)]) (by simp [kS]) ?_
  refine awp_seq ?_
  refine awp_seq ?_
  refine awp_run rfl (by simp only [fwA, seval] <;> rfl) ?_
  refine awp_block ?_
  refine awp_for [1, 2, 3, 9, 10, 13, 14] (fun i : Nat => [.vec (d.map Pr.enc) false, .int .u8 n, .vec (p.map B8) false, .bool true, .ptr H.length 0, .row (H.length + 1) 0 i 1, .int .i64 (i : Int)]) (fun i => H ++ [.box [.vec (ns.map S1) false, .vec (us.map U1) false], .row 1 (((kS i).map I1).flatten)]) (fun i => m - i) (fun i => i ≤ m) 0 rfl rfl (Nat.zero_le _) fun i hi => ?_
  refine awp_seq ?_
  refine awp_seq ?_
  by_cases hc : (i : Int) < m
  rotate_left
  · refine awp_run rfl (by simp only [fwA, seval, gfw, bx, dx, bitfw, Int.reduceEq, Int.reduceNeg, Int.reduceToNat, Int.reduceLE, Int.reduceLT, hnm, hwm, hc] <;> rfl) ?_
    refine awp_cond (b := false) (by simp [alook, aput, ev]) ?_
    refine awp_exit ?_
    have e10 : i = m := by omega
    subst e10
    refine awp_told (told_freezeAt H _ 1 (C := ((kS i).map I1).flatten) rfl (flat_bd (fun t => by simp only [I1_fw]) _)) ?_
    have hl1 := flat_len I1_fw.1 (kS i)
    have hch := flat_chunk I1_fw.1 (kS i)
    rw [kS_len] at hl1 hch
    refine awp_keep (A' := [(1, .vec (d.map Pr.enc) false), (3, .vec (p.map B8) false), (9, .bool true), (10, .ptr H.length 0), (13, .vec ((kS i).map I1) false)]) [1, 3, 9, 10, 13] (by simp only [fwA, seval, gfw, akeep, hl1, hch] <;> rfl) ?_
    simp only [List.set_cons_succ, List.set_cons_zero, List.map_cons, List.map_nil, frzB, frz]
    refine awp_seq ?_
    refine awp_region rfl ?_
    refine aops_run 3 (by simp only [fwA, seval, gfw, bx, dx, bitfw, Int.reduceEq, Int.reduceNeg, Int.reduceToNat, Int.reduceLE, Int.reduceLT] <;> rfl) ?_
    refine aops_fn rfl rfl rfl en35 h35 ?_
    refine aops_run 1 (by simp only [fwA, seval, gfw, bx, dx, bitfw, Int.reduceEq, Int.reduceNeg, Int.reduceToNat, Int.reduceLE, Int.reduceLT] <;> rfl) ?_
    refine aops_end ?_
    refine awp_seq ?_
    refine awp_region rfl ?_
    refine aops_run 2 (by simp only [fwA, seval, gfw, bx, dx, bitfw, Int.reduceEq, Int.reduceNeg, Int.reduceToNat, Int.reduceLE, Int.reduceLT] <;> rfl) ?_
    refine aops_fn rfl rfl rfl en46 h46 ?_
    refine aops_run 1 (by simp only [fwA, seval, gfw, bx, dx, bitfw, Int.reduceEq, Int.reduceNeg, Int.reduceToNat, Int.reduceLE, Int.reduceLT] <;> rfl) ?_
    refine aops_end ?_
    refine awp_join [1, 9, 10, 13, 15, 16] (fun _ : Unit => [.vec (d.map Pr.enc) false, .bool true, .ptr H.length 0, .vec ((kS i).map I1) false, .vec (Z.map Pr.enc) false, .vec ((tS ns.length p 8).map So.enc) false]) (fun _ => H ++ [.box [.vec (ns.map S1) false, .vec (us.map U1) false], .dead]) (fun _ => True) ?_ fun _ _ => ?_
    · refine awp_seq ?_
      cases hs1 : solvesB ns us d (tS ns.length p 8)
      · rw [hs1] at h21a
        refine awp_region rfl ?_
        refine aops_run 3 (by simp only [fwA, seval, gfw, bx, dx, bitfw, Int.reduceEq, Int.reduceNeg, Int.reduceToNat, Int.reduceLE, Int.reduceLT] <;> rfl) ?_
        refine aops_fn rfl rfl rfl en21 h21a ?_
        refine aops_run 7 (by simp only [fwA, seval, gfw, bx, dx, bitfw, Int.reduceEq, Int.reduceNeg, Int.reduceToNat, Int.reduceLE, Int.reduceLT] <;> rfl) ?_
        refine aops_end ?_
        refine awp_cond (b := false) (by simp [alook, aput, ev]) (awp_skip ?_)
        exact ⟨(), trivial, by simp only [fwA, seval, gfw], rfl, rfl⟩
      · rw [hs1] at h21a
        rw [hsnd hs1] at h21b
        refine awp_region rfl ?_
        refine aops_run 3 (by simp only [fwA, seval, gfw, bx, dx, bitfw, Int.reduceEq, Int.reduceNeg, Int.reduceToNat, Int.reduceLE, Int.reduceLT] <;> rfl) ?_
        refine aops_fn rfl rfl rfl en21 h21a ?_
        refine aops_run 4 (by simp only [fwA, seval, gfw, bx, dx, bitfw, Int.reduceEq, Int.reduceNeg, Int.reduceToNat, Int.reduceLE, Int.reduceLT] <;> rfl) ?_
        refine aops_fnIf rfl rfl rfl rfl rfl en21 h21b ?_
        refine aops_run 2 (by simp only [fwA, seval, gfw, bx, dx, bitfw, Int.reduceEq, Int.reduceNeg, Int.reduceToNat, Int.reduceLE, Int.reduceLT] <;> rfl) ?_
        refine aops_end ?_
        refine awp_cond (b := false) (by simp [alook, aput, ev]) (awp_skip ?_)
        exact ⟨(), trivial, by simp only [fwA, seval, gfw], rfl, rfl⟩
    refine awp_seq ?_
    refine awp_seq ?_
    refine awp_region rfl ?_
    refine aops_run 3 (by simp only [fwA, seval, gfw, bx, dx, bitfw, Int.reduceEq, Int.reduceNeg, Int.reduceToNat, Int.reduceLE, Int.reduceLT] <;> rfl) ?_
    refine aops_fn rfl rfl rfl en21 h21b ?_
    refine aops_run 1 (by simp only [fwA, seval, gfw, bx, dx, bitfw, Int.reduceEq, Int.reduceNeg, Int.reduceToNat, Int.reduceLE, Int.reduceLT] <;> rfl) ?_
    refine aops_end ?_
    cases hs2 : solvesB ns us Z (tS ns.length p 8)
    · refine awp_cond (b := true) (by simp [alook, aput, ev]) ?_
      refine awp_seq ?_
      refine awp_run rfl (by simp only [fwA, seval] <;> rfl) ?_
      refine awp_ret ?_
      exact gives_end (.inl rfl) _ rfl
    have hok2 : ok2 = true := hfix rfl hs2
    subst hok2
    refine awp_cond (b := false) (by simp [alook, aput, ev]) (awp_skip ?_)
    refine awp_seq ?_
    refine awp_region rfl ?_
    refine aops_run 1 (by simp only [fwA, seval, gfw, bx, dx, bitfw, Int.reduceEq, Int.reduceNeg, Int.reduceToNat, Int.reduceLE, Int.reduceLT] <;> rfl) ?_
    refine aops_one rfl (os_appendNew (n := d.length) (xs := (d.map Pr.enc).flatten) rfl un26 ti70 un26 (.inl ⟨_, rfl⟩) (by decide) rfl rfl (fun es f h q hq => by simp only [fwA, seval, PV.vec.injEq] at h; obtain ⟨rfl, rfl⟩ := h; obtain ⟨x, _, rfl⟩ := List.mem_map.1 hq; rfl) (by simp only [fwA, seval, alen, List.length_map]) (by show d.length * 16 ≤ _; omega) (by omega) ?_)
    refine aops_run 1 (by simp only [fwA, seval, gfw, bx, dx, bitfw, Int.reduceEq, Int.reduceNeg, Int.reduceToNat, Int.reduceLE, Int.reduceLT] <;> rfl) ?_
    refine aops_end ?_
    refine awp_keep (A' := [(9, .bool true), (10, .ptr H.length 0), (13, .vec ((kS i).map I1) false), (16, .vec ((tS ns.length p 8).map So.enc) false), (17, .row (H.length + 2) 0 d.length 2)]) [9, 10, 13, 16, 17] (by simp only [fwA, seval, akeep, List.length_append, List.length_cons, List.length_nil] <;> rfl) ?_
    refine awp_heap (H' := H ++ [.box [.vec (ns.map S1) false, .vec (us.map U1) false], .dead, .row 2 (((d ++ fS ns.length p 0).map Pr.enc).flatten)]) (by simp [fS]) ?_
    refine awp_seq ?_
    refine awp_seq ?_
    refine awp_run rfl (by simp only [fwA, seval] <;> rfl) ?_
    refine awp_block ?_
    refine awp_for [9, 10, 13, 16, 17, 18] (fun j : Nat => [.bool true, .ptr H.length 0, .vec ((kS i).map I1) false, .vec ((tS ns.length p 8).map So.enc) false, .row (H.length + 2) 0 (d.length + 2 * j) 2, .int .i64 (j : Int)]) (fun j => H ++ [.box [.vec (ns.map S1) false, .vec (us.map U1) false], .dead, .row 2 (((d ++ fS ns.length p j).map Pr.enc).flatten)]) (fun j => i - j) (fun j => j ≤ i) 0 rfl rfl (Nat.zero_le _) fun j hj => ?_
    refine awp_seq ?_
    refine awp_seq ?_
    by_cases hc : (j : Int) < i
    rotate_left
    · refine awp_run rfl (by simp only [fwA, seval, gfw, bx, dx, bitfw, Int.reduceEq, Int.reduceNeg, Int.reduceToNat, Int.reduceLE, Int.reduceLT, kS_len, hc] <;> rfl) ?_
      refine awp_cond (b := false) (by simp [alook, aput, ev]) ?_
      refine awp_exit ?_
      have e11 : j = i := by omega
      subst e11
      refine awp_told (told_freezeAt H _ 2 (C := ((d ++ fS ns.length p j).map Pr.enc).flatten) rfl (flat_bd (fun t => by simp only [Pr.fw]) _)) ?_
      have hl2 := flat_len Pr.enc_len (d ++ fS ns.length p j)
      have hch2 := flat_chunk Pr.enc_len (d ++ fS ns.length p j)
      rw [List.length_append, hfl] at hl2 hch2
      refine awp_keep (A' := [(9, .bool true), (10, .ptr H.length 0), (17, .vec ((d ++ fS ns.length p j).map Pr.enc) false)]) [9, 10, 17] (by simp only [fwA, seval, gfw, akeep, hl2, hch2] <;> rfl) ?_
      simp only [List.set_cons_succ, List.set_cons_zero, List.map_cons, List.map_nil, frzB, frz]
      refine awp_seq ?_
      refine awp_region rfl ?_
      refine aops_run 2 (by simp only [fwA, seval, gfw, bx, dx, bitfw, Int.reduceEq, Int.reduceNeg, Int.reduceToNat, Int.reduceLE, Int.reduceLT, leastEnc] <;> rfl) ?_
      refine aops_fn rfl rfl rfl en14 h14b ?_
      refine aops_run 5 (by simp only [fwA, seval, gfw, bx, dx, bitfw, Int.reduceEq, Int.reduceNeg, Int.reduceToNat, Int.reduceLE, Int.reduceLT, leastEnc] <;> rfl) ?_
      refine aops_end ?_
      refine awp_seq ?_
      refine awp_run rfl (by simp only [fwA, seval] <;> rfl) ?_
      refine awp_ret ?_
      exact gives_end (.inl rfl) _ rfl
    have hj8 : j < 8 := by omega
    have hkj := kS_at (m := i) (i := j) (by omega)
    have htj := tS_at (n := ns.length) (p := p) (m := 8) hj8
    have hb := pz_bd hn hp j
    have hfj := fS_len ns.length p j
    have hsn := fS_snoc ns.length p j
    have h47 := c47 Γ (pz ns.length p j) ⟨by omega, by omega⟩
    rw [if_neg (by omega)] at h47
    generalize tS ns.length p 8 = T at *
    generalize pz ns.length p j = v at *
    have hwi : IntKind.i64.wrap ((j : Int) + 1) = ((j + 1 : Nat) : Int) := wrapS j (by omega)
    refine awp_run rfl (by simp only [fwA, seval, gfw, bx, dx, bitfw, Int.reduceEq, Int.reduceNeg, Int.reduceToNat, Int.reduceLE, Int.reduceLT, kS_len, hc] <;> rfl) ?_
    refine awp_cond (b := true) (by simp [alook, aput, ev]) ?_
    refine awp_skip ?_
    refine awp_seq ?_
    refine awp_block ?_
    refine awp_seq ?_
    refine awp_region rfl ?_
    refine aops_run 5 (by simp only [fwA, seval, gfw, bx, dx, bitfw, Int.reduceEq, Int.reduceNeg, Int.reduceToNat, Int.reduceLE, Int.reduceLT, htj] <;> rfl) ?_
    refine aops_fn rfl rfl rfl en47 h47 ?_
    refine aops_run 1 (by simp only [fwA, seval, gfw, bx, dx, bitfw, Int.reduceEq, Int.reduceNeg, Int.reduceToNat, Int.reduceLE, Int.reduceLT, htj] <;> rfl) ?_
    refine aops_end ?_
    refine awp_drawn [0,0,0,0,0,1,0,0,0,0,1,0,0,0,2,0] [0, 0, 0, 0, 12, 28, 62, 0, 0, 384, 896, 0, 3968, 8190, 16383, 32767] mixed rfl (by kernel_rfl) ?_
    refine dops_run 13 (by simp only [fwA, seval, gfw, bx, dx, bitfw, Int.reduceEq, Int.reduceNeg, Int.reduceToNat, Int.reduceLE, Int.reduceLT, hkj] <;> rfl) ?_
    refine dops_run 1 (by simp only [fwA, seval, gfw, bx, dx, bitfw, Int.reduceEq, Int.reduceNeg, Int.reduceToNat, Int.reduceLE, Int.reduceLT, hkj] <;> rfl) ?_
    refine dops_appendR (n := 2) (b := H.length + 2) (q := 0) (k := d.length + 2 * j) (cs := ((d ++ fS ns.length p j).map Pr.enc).flatten) (xs := ([(⟨-1 - v, (j : Int)⟩ : Pr), ⟨(j : Int), -1 - v⟩].map Pr.enc).flatten) rfl rfl rfl un26 ti70 un26 (.inl ⟨_, rfl⟩) rfl (by simp [Fw.get_at]) (by rw [flat_len Pr.enc_len, List.length_append, hfj, Nat.zero_add]) rfl (fun es f h q hq => by simp only [fwA, seval, PV.vec.injEq] at h; obtain ⟨rfl, rfl⟩ := h; simp only [List.mem_cons, List.not_mem_nil, or_false] at hq; rcases hq with rfl | rfl <;> rfl) rfl (by show (d.length + 2 * j + 2) * 16 ≤ _; omega) (by omega) ?_
    refine dops_run 1 (by simp only [fwA, seval, gfw, bx, dx, bitfw, Int.reduceEq, Int.reduceNeg, Int.reduceToNat, Int.reduceLE, Int.reduceLT, hkj] <;> rfl) ?_
    refine dops_end ?_
    refine awp_run rfl (by simp only [fwA, seval] <;> rfl) ?_
    refine ⟨j + 1, by omega, by omega, by simp only [fwA, seval, gfw, hwi]; rfl, ?_, rfl⟩
    rw [← hsn, ← List.append_assoc, List.map_append (l₁ := d ++ fS ns.length p j), List.flatten_append]
    simp [Fw.set_at]
  have hwi : IntKind.i64.wrap ((i : Int) + 1) = ((i + 1 : Nat) : Int) := wrapS i (by omega)
  refine awp_run rfl (by simp only [fwA, seval, gfw, bx, dx, bitfw, Int.reduceEq, Int.reduceNeg, Int.reduceToNat, Int.reduceLE, Int.reduceLT, hnm, hwm, hc] <;> rfl) ?_
  refine awp_cond (b := true) (by simp [alook, aput, ev]) ?_
  refine awp_skip ?_
  refine awp_seq ?_
  refine awp_block ?_
  refine awp_region rfl ?_
  refine aops_run 3 (by simp only [fwA, seval, gfw, bx, dx, bitfw, Int.reduceEq, Int.reduceNeg, Int.reduceToNat, Int.reduceLE, Int.reduceLT] <;> rfl) ?_
  refine aops_push (enc := I1) (l := kS i) (z := (i : Int)) I1_fw.1 rfl rfl un49 ti28 rfl un49 rfl (by simp [Fw.get_at]) (kS_len _).symm rfl (by show (i + 1) * 8 ≤ _; omega) (by omega) rfl ?_
  refine aops_run 1 (by simp only [fwA, seval, gfw, bx, dx, bitfw, Int.reduceEq, Int.reduceNeg, Int.reduceToNat, Int.reduceLE, Int.reduceLT] <;> rfl) ?_
  refine aops_end ?_
  refine awp_run rfl (by simp only [fwA, seval] <;> rfl) ?_
  refine ⟨i + 1, by omega, by omega, by simp only [fwA, seval, gfw, hwi], ?_, rfl⟩
  rw [kS_snoc]
end Go.Proofs.YteicbhkimepbaaaGreatDoor
