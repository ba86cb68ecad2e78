/- Two laws of chapter 12. -/
import Derived.Test.YteicbhkimepbaaaGreatDoorWF
namespace Go.Proofs.YteicbhkimepbaaaGreatDoor
set_option linter.unusedVariables false
set_option linter.unusedSimpArgs false
set_option maxRecDepth 100000
open Go.RowKit Fw

set_option maxHeartbeats 8000000 in
/- chancel/chancellaw12.ClosedLeast -/
theorem c8 (Γ : Nat → PV) (hΓ : Tab64 Γ) (k : Int) (hk0 : 0 ≤ k) (c : List Pr) (ho : OkP c) : Gives Tryz.prog Γ 8 [.int .u8 k, .vec (c.map Pr.enc) false] (.bool true) := by
  have h23 := c23 Γ hΓ
  have h38 := c38 Γ
  obtain ⟨j, ns, us, ej, hget, hla, hR, hw⟩ := lats_at hk0
  obtain ⟨r1, r2, _, _, r5⟩ := right_spec hR
  have rp := r5.pos
  have hn : 0 < ns.length := by omega
  have h39 := c39 Γ ns us hn c ho
  have ho' := ptsV_ok (c := c) hn ho
  have hl' := ptsV_len ns.length c
  have hkn := ptsV_known (c := c) hR ho
  have hvr := fun x => ptsV_vars (x := x) hR ho
  refine fn_of_awp Tryz.func8 rfl (by simp [Tryz.f8]) rfl fun H => ?_
  refine awp_bd fun hbd => ?_
  refine awp_seq ?_
  refine awp_run rfl (by simp only [fwA, seval, gfw, bx, dx, bitfw, Int.reduceEq, Int.reduceNeg, Int.reduceToNat, Int.reduceLE, Int.reduceLT] <;> rfl) ?_
  refine awp_seq ?_
  refine awp_region rfl ?_
  refine aops_fn rfl rfl rfl en23 h23 ?_
  refine aops_run 1 (by simp only [fwA, seval, gfw, bx, dx, bitfw, Int.reduceEq, Int.reduceNeg, Int.reduceToNat, Int.reduceLE, Int.reduceLT] <;> rfl) ?_
  refine aops_end ?_
  refine awp_seq ?_
  refine awp_seq ?_
  refine awp_run rfl (by simp only [fwA, seval] <;> rfl) ?_
  refine awp_cond (b := false) (by simp [alook, aput, ev]) (awp_skip ?_)
  refine awp_seq ?_
  refine awp_region rfl ?_
  refine aops_fn rfl rfl rfl en38 h38 ?_
  refine aops_run 6 (by simp only [fwA, seval, gfw, bx, dx, bitfw, Int.reduceEq, Int.reduceNeg, Int.reduceToNat, Int.reduceLE, Int.reduceLT, ej, hget, hla] <;> rfl) ?_
  refine aops_end ?_
  refine awp_seq ?_
  refine awp_region rfl ?_
  refine aops_run 2 (by simp only [fwA, seval, gfw, bx, dx, bitfw, Int.reduceEq, Int.reduceNeg, Int.reduceToNat, Int.reduceLE, Int.reduceLT] <;> rfl) ?_
  refine aops_fn rfl rfl rfl en39 h39 ?_
  refine aops_run 1 (by simp only [fwA, seval, gfw, bx, dx, bitfw, Int.reduceEq, Int.reduceNeg, Int.reduceToNat, Int.reduceLE, Int.reduceLT] <;> rfl) ?_
  refine aops_end ?_
  generalize ptsV ns.length c = d at *
  have h14 := c14 Γ hΓ ns us hw d (by omega) ho'
  have hL := leastV_is ns us d
  have hlow := fun (v : Int) (h : (leastV ns us d).2 = true) => least_low (v := v) hkn hL h
  generalize leastV ns us d = X at h14 hL hlow
  obtain ⟨s, ok⟩ := X
  have h40 := c40 Γ d false (by omega)
  have hvl := both_le d
  refine awp_seq ?_
  refine awp_region rfl ?_
  refine aops_run 2 (by simp only [fwA, seval, gfw, bx, dx, bitfw, Int.reduceEq, Int.reduceNeg, Int.reduceToNat, Int.reduceLE, Int.reduceLT, leastEnc] <;> rfl) ?_
  refine aops_fn rfl rfl rfl en14 h14 ?_
  refine aops_run 5 (by simp only [fwA, seval, gfw, bx, dx, bitfw, Int.reduceEq, Int.reduceNeg, Int.reduceToNat, Int.reduceLE, Int.reduceLT, leastEnc] <;> rfl) ?_
  refine aops_end ?_
  refine awp_seq ?_
  refine awp_seq ?_
  refine awp_region rfl ?_
  refine aops_run 1 (by simp only [fwA, seval, gfw, bx, dx, bitfw, Int.reduceEq, Int.reduceNeg, Int.reduceToNat, Int.reduceLE, Int.reduceLT] <;> rfl) ?_
  refine aops_fn rfl rfl rfl en40 h40 ?_
  refine aops_run 2 (by simp only [fwA, seval, gfw, bx, dx, bitfw, Int.reduceEq, Int.reduceNeg, Int.reduceToNat, Int.reduceLE, Int.reduceLT] <;> rfl) ?_
  refine aops_end ?_
  refine awp_block ?_
  cases ok
  · refine ?_
    refine awp_for [1, 5, 6, 7, 8, 29, 30, 31] (fun i : Nat => [.vec (d.map Pr.enc) false, .bool true, .ptr H.length 0, .vec (s.map So.enc) false, .bool false, .vec ((gath gV d).map I1) false, .int .i64 ((gath gV d).length : Int), .int .i64 (i : Int)]) (fun _ => H ++ [.box [.vec (ns.map S1) false, .vec (us.map U1) false]]) (fun i => (gath gV d).length - i) (fun i => i ≤ (gath gV d).length) 0 rfl rfl (Nat.zero_le _) fun i hi => ?_
    refine awp_seq ?_
    refine awp_run rfl (by simp only [fwA, seval] <;> rfl) ?_
    refine awp_seq ?_
    by_cases hc : (i : Int) < (gath gV d).length
    rotate_left
    · refine awp_cond (b := false) (by simp [alook, aput, ev, hc]) ?_
      refine awp_exit ?_
      refine awp_seq ?_
      refine awp_run rfl (by simp only [fwA, seval] <;> rfl) ?_
      refine awp_ret ?_
      exact gives_end (.inl rfl) _ rfl
    have hi' : i < (gath gV d).length := by omega
    obtain ⟨z, hz⟩ : ∃ z, (gath gV d)[i]? = some z := ⟨_, List.getElem?_eq_getElem hi'⟩
    have hzm := List.mem_of_getElem? hz
    have hwi : IntKind.i64.wrap ((i : Int) + 1) = ((i + 1 : Nat) : Int) := wrapS i (by omega)
    refine awp_cond (b := true) (by simp [alook, aput, ev, hc]) ?_
    refine awp_skip ?_
    refine awp_seq ?_
    refine awp_block ?_
    refine awp_seq ?_
    refine awp_run rfl (by simp only [fwA, seval, gfw, bx, dx, bitfw, Int.reduceEq, Int.reduceNeg, Int.reduceToNat, Int.reduceLE, Int.reduceLT, hz] <;> rfl) ?_
    refine awp_seq ?_
    refine awp_seq ?_
    refine awp_drawn [0, 0, 1, 0, 0, 0, 1, 0, 0, 0, 0, 0] [0, 1, 3, 3, 3, 31, 3, 3, 3, 511, 1023, 2047] mixed rfl (by kernel_rfl) ?_
    refine dops_run 12 (by simp only [fwA, seval, gfw, bx, dx, bitfw, Int.reduceEq, Int.reduceNeg, Int.reduceToNat, Int.reduceLE, Int.reduceLT] <;> rfl) ?_
    refine dops_end ?_
    refine awp_cond (b := false) (by simp [alook, aput, ev]) (awp_skip ?_)
    refine awp_seq ?_
    refine awp_drawn [0, 0, 1, 1, 0, 0, 0, 1, 0, 0, 0, 0, 0, 0] [0, 1, 3, 3, 3, 3, 59, 3, 3, 3, 1019, 2047, 4095, 8191] mixed rfl (by kernel_rfl) ?_
    refine dops_run 13 (by simp only [fwA, seval, gfw, bx, dx, bitfw, Int.reduceEq, Int.reduceNeg, Int.reduceToNat, Int.reduceLE, Int.reduceLT] <;> rfl) ?_
    refine dops_run 1 (by simp only [fwA, seval, gfw, bx, dx, bitfw, Int.reduceEq, Int.reduceNeg, Int.reduceToNat, Int.reduceLE, Int.reduceLT] <;> rfl) ?_
    refine dops_end ?_
    refine awp_cond (b := false) (by simp [alook, aput, ev]) (awp_skip ?_)
    refine awp_run rfl (by simp only [fwA, seval] <;> rfl) ?_
    exact ⟨i + 1, by omega, by omega, by simp only [fwA, seval, gfw, hwi], rfl, rfl⟩
  · refine ?_
    refine awp_for [1, 5, 6, 7, 8, 29, 30, 31] (fun i : Nat => [.vec (d.map Pr.enc) false, .bool true, .ptr H.length 0, .vec (s.map So.enc) false, .bool true, .vec ((gath gV d).map I1) false, .int .i64 ((gath gV d).length : Int), .int .i64 (i : Int)]) (fun _ => H ++ [.box [.vec (ns.map S1) false, .vec (us.map U1) false]]) (fun i => (gath gV d).length - i) (fun i => i ≤ (gath gV d).length) 0 rfl rfl (Nat.zero_le _) fun i hi => ?_
    refine awp_seq ?_
    refine awp_run rfl (by simp only [fwA, seval] <;> rfl) ?_
    refine awp_seq ?_
    by_cases hc : (i : Int) < (gath gV d).length
    rotate_left
    · refine awp_cond (b := false) (by simp [alook, aput, ev, hc]) ?_
      refine awp_exit ?_
      refine awp_seq ?_
      refine awp_run rfl (by simp only [fwA, seval] <;> rfl) ?_
      refine awp_ret ?_
      exact gives_end (.inl rfl) _ rfl
    have hi' : i < (gath gV d).length := by omega
    obtain ⟨z, hz⟩ : ∃ z, (gath gV d)[i]? = some z := ⟨_, List.getElem?_eq_getElem hi'⟩
    have hzm := List.mem_of_getElem? hz
    have hwi : IntKind.i64.wrap ((i : Int) + 1) = ((i + 1 : Nat) : Int) := wrapS i (by omega)
    refine awp_cond (b := true) (by simp [alook, aput, ev, hc]) ?_
    refine awp_skip ?_
    refine awp_seq ?_
    refine awp_block ?_
    refine awp_seq ?_
    refine awp_run rfl (by simp only [fwA, seval, gfw, bx, dx, bitfw, Int.reduceEq, Int.reduceNeg, Int.reduceToNat, Int.reduceLE, Int.reduceLT, hz] <;> rfl) ?_
    have hz8 := hvr z hzm
    have hz64 : I64 z := ⟨by omega, by omega⟩
    have h28 := c28 Γ hΓ ns us hw d (by omega) ho' z hz64
    have h30 := c30 Γ hΓ ns us hw d (by omega) ho' z hz64
    have h19 := c19 Γ hΓ ns us hw s z hz64
    have h44 := c44 Γ ns us hw (lowV ns us d z) (highV ns us d z)
    obtain ⟨q1, q2⟩ := hlow z rfl hzm
    rw [show leqB (min ns.length us.length) us (lowV ns us d z) (highV ns us d z) = true from q2] at h44
    rw [← show lowV ns us d z = valueV ns us s z from q1] at h19
    refine awp_seq ?_
    refine awp_seq ?_
    refine awp_drawn [0, 0, 1, 0, 0, 0, 1, 0, 0, 0, 0, 0] [0, 1, 3, 3, 3, 31, 3, 3, 3, 511, 1023, 2047] mixed rfl (by kernel_rfl) ?_
    refine dops_run 5 (by simp only [fwA, seval, gfw, bx, dx, bitfw, Int.reduceEq, Int.reduceNeg, Int.reduceToNat, Int.reduceLE, Int.reduceLT] <;> rfl) ?_
    refine dops_fn rfl (by simp only [fwA, seval] <;> rfl) rfl rfl en28 h28 ?_
    refine dops_run 3 (by simp only [fwA, seval, gfw, bx, dx, bitfw, Int.reduceEq, Int.reduceNeg, Int.reduceToNat, Int.reduceLE, Int.reduceLT] <;> rfl) ?_
    refine dops_fn rfl (by simp only [fwA, seval] <;> rfl) rfl rfl en19 h19 ?_
    refine dops_run 2 (by simp only [fwA, seval, gfw, bx, dx, bitfw, Int.reduceEq, Int.reduceNeg, Int.reduceToNat, Int.reduceLE, Int.reduceLT] <;> rfl) ?_
    refine dops_end ?_
    refine awp_cond (b := false) (by simp [alook, aput, ev]) (awp_skip ?_)
    refine awp_seq ?_
    refine awp_drawn [0, 0, 1, 1, 0, 0, 0, 1, 0, 0, 0, 0, 0, 0] [0, 1, 3, 3, 3, 3, 59, 3, 3, 3, 1019, 2047, 4095, 8191] mixed rfl (by kernel_rfl) ?_
    refine dops_run 6 (by simp only [fwA, seval, gfw, bx, dx, bitfw, Int.reduceEq, Int.reduceNeg, Int.reduceToNat, Int.reduceLE, Int.reduceLT] <;> rfl) ?_
    refine dops_fn rfl (by simp only [fwA, seval] <;> rfl) rfl rfl en28 h28 ?_
    refine dops_run 3 (by simp only [fwA, seval, gfw, bx, dx, bitfw, Int.reduceEq, Int.reduceNeg, Int.reduceToNat, Int.reduceLE, Int.reduceLT] <;> rfl) ?_
    refine dops_fn rfl (by simp only [fwA, seval] <;> rfl) rfl rfl en30 h30 ?_
    refine dops_fn rfl (by simp only [fwA, seval] <;> rfl) rfl rfl en44 h44 ?_
    refine dops_run 2 (by simp only [fwA, seval, gfw, bx, dx, bitfw, Int.reduceEq, Int.reduceNeg, Int.reduceToNat, Int.reduceLE, Int.reduceLT] <;> rfl) ?_
    refine dops_end ?_
    refine awp_cond (b := false) (by simp [alook, aput, ev]) (awp_skip ?_)
    refine awp_run rfl (by simp only [fwA, seval] <;> rfl) ?_
    exact ⟨i + 1, by omega, by omega, by simp only [fwA, seval, gfw, hwi], rfl, rfl⟩
set_option maxHeartbeats 8000000 in
/- chancel/chancellaw12.ClosedEntails -/
theorem c9 (Γ : Nat → PV) (hΓ : Tab64 Γ) (k : Int) (hk0 : 0 ≤ k) (c : List Pr) (ho : OkP c) (a b : Int) (ha : I64 a) (hb : I64 b) (p : List Int) (hp : ∀ x ∈ p, 0 ≤ x ∧ x < 256) : Gives Tryz.prog Γ 9 [.int .u8 k, .vec (c.map Pr.enc) false, .int .i64 a, .int .i64 b, .vec (p.map B8) false] (.bool true) := by
  have h23 := c23 Γ hΓ
  have h38 := c38 Γ
  obtain ⟨j, ns, us, ej, hget, hla, hR, hw⟩ := lats_at hk0
  obtain ⟨r1, r2, _, _, r5⟩ := right_spec hR
  have rp := r5.pos
  have hn : 0 < ns.length := by omega
  have h39 := c39 Γ ns us hn c ho
  have ho' := ptsV_ok (c := c) hn ho
  have hl' := ptsV_len ns.length c
  have hkn := ptsV_known (c := c) hR ho
  have hvr := fun x => ptsV_vars (x := x) hR ho
  refine fn_of_awp Tryz.func9 rfl (by simp [Tryz.f9]) rfl fun H => ?_
  refine awp_bd fun hbd => ?_
  refine awp_seq ?_
  refine awp_run rfl (by simp only [fwA, seval, gfw, bx, dx, bitfw, Int.reduceEq, Int.reduceNeg, Int.reduceToNat, Int.reduceLE, Int.reduceLT] <;> rfl) ?_
  refine awp_seq ?_
  refine awp_region rfl ?_
  refine aops_fn rfl rfl rfl en23 h23 ?_
  refine aops_run 1 (by simp only [fwA, seval, gfw, bx, dx, bitfw, Int.reduceEq, Int.reduceNeg, Int.reduceToNat, Int.reduceLE, Int.reduceLT] <;> rfl) ?_
  refine aops_end ?_
  refine awp_seq ?_
  refine awp_seq ?_
  refine awp_run rfl (by simp only [fwA, seval] <;> rfl) ?_
  refine awp_cond (b := false) (by simp [alook, aput, ev]) (awp_skip ?_)
  refine awp_seq ?_
  refine awp_region rfl ?_
  refine aops_fn rfl rfl rfl en38 h38 ?_
  refine aops_run 6 (by simp only [fwA, seval, gfw, bx, dx, bitfw, Int.reduceEq, Int.reduceNeg, Int.reduceToNat, Int.reduceLE, Int.reduceLT, ej, hget, hla] <;> rfl) ?_
  refine aops_end ?_
  refine awp_seq ?_
  refine awp_region rfl ?_
  refine aops_run 2 (by simp only [fwA, seval, gfw, bx, dx, bitfw, Int.reduceEq, Int.reduceNeg, Int.reduceToNat, Int.reduceLE, Int.reduceLT] <;> rfl) ?_
  refine aops_fn rfl rfl rfl en39 h39 ?_
  refine aops_run 1 (by simp only [fwA, seval, gfw, bx, dx, bitfw, Int.reduceEq, Int.reduceNeg, Int.reduceToNat, Int.reduceLE, Int.reduceLT] <;> rfl) ?_
  refine aops_end ?_
  generalize ptsV ns.length c = d at *
  have h45a := c45 Γ ns us hn a ha
  have h45b := c45 Γ ns us hn b hb
  have h46 := c46 Γ ns us hn p hp
  obtain ⟨a1, _, a3⟩ := ptV_ok hn ha
  obtain ⟨b1, _, b3⟩ := ptV_ok hn hb
  generalize ptV ns.length a = x at *
  generalize ptV ns.length b = y at *
  generalize tS ns.length p 8 = s at *
  have h21 := c21 Γ hΓ ns us hw d (by omega) ho' s
  have h28 := c28 Γ hΓ ns us hw d (by omega) ho' x a3
  have h30 := c30 Γ hΓ ns us hw d (by omega) ho' x a3
  have h19a := c19 Γ hΓ ns us hw s x a3
  have h19b := c19 Γ hΓ ns us hw s y b3
  have h32 := c32 Γ hΓ ns us hw d (by omega) ho' x y a3 b3
  have h44a := c44 Γ ns us hw (valueV ns us s x) (valueV ns us s y)
  have h44b := c44 Γ ns us hw (lowV ns us d x) (valueV ns us s x)
  have h44c := c44 Γ ns us hw (valueV ns us s x) (highV ns us d x)
  refine awp_seq ?_
  refine awp_region rfl ?_
  refine aops_run 2 (by simp only [fwA, seval, gfw, bx, dx, bitfw, Int.reduceEq, Int.reduceNeg, Int.reduceToNat, Int.reduceLE, Int.reduceLT] <;> rfl) ?_
  refine aops_fn rfl rfl rfl en45 h45a ?_
  refine aops_run 1 (by simp only [fwA, seval, gfw, bx, dx, bitfw, Int.reduceEq, Int.reduceNeg, Int.reduceToNat, Int.reduceLE, Int.reduceLT] <;> rfl) ?_
  refine aops_end ?_
  refine awp_seq ?_
  refine awp_region rfl ?_
  refine aops_run 2 (by simp only [fwA, seval, gfw, bx, dx, bitfw, Int.reduceEq, Int.reduceNeg, Int.reduceToNat, Int.reduceLE, Int.reduceLT] <;> rfl) ?_
  refine aops_fn rfl rfl rfl en45 h45b ?_
  refine aops_run 1 (by simp only [fwA, seval, gfw, bx, dx, bitfw, Int.reduceEq, Int.reduceNeg, Int.reduceToNat, Int.reduceLE, Int.reduceLT] <;> rfl) ?_
  refine aops_end ?_
  refine awp_seq ?_
  refine awp_region rfl ?_
  refine aops_run 2 (by simp only [fwA, seval, gfw, bx, dx, bitfw, Int.reduceEq, Int.reduceNeg, Int.reduceToNat, Int.reduceLE, Int.reduceLT] <;> rfl) ?_
  refine aops_fn rfl rfl rfl en46 h46 ?_
  refine aops_run 1 (by simp only [fwA, seval, gfw, bx, dx, bitfw, Int.reduceEq, Int.reduceNeg, Int.reduceToNat, Int.reduceLE, Int.reduceLT] <;> rfl) ?_
  refine aops_end ?_
  refine awp_seq ?_
  refine awp_seq ?_
  refine awp_region rfl ?_
  refine aops_run 3 (by simp only [fwA, seval, gfw, bx, dx, bitfw, Int.reduceEq, Int.reduceNeg, Int.reduceToNat, Int.reduceLE, Int.reduceLT] <;> rfl) ?_
  refine aops_fn rfl rfl rfl en21 h21 ?_
  refine aops_run 1 (by simp only [fwA, seval, gfw, bx, dx, bitfw, Int.reduceEq, Int.reduceNeg, Int.reduceToNat, Int.reduceLE, Int.reduceLT] <;> rfl) ?_
  refine aops_end ?_
  cases hs : solvesB ns us d s
  · refine awp_cond (b := true) (by simp [alook, aput, ev]) ?_
    refine awp_seq ?_
    refine awp_run rfl (by simp only [fwA, seval] <;> rfl) ?_
    refine awp_ret ?_
    exact gives_end (.inl rfl) _ rfl
  obtain ⟨e1, e2, e3⟩ := ent_sound (a := x) (b := y) hs (fun h => by have := a1 h; omega) (fun h => by have := b1 h; omega)
  rw [e2] at h44b
  rw [e3] at h44c
  refine awp_cond (b := false) (by simp [alook, aput, ev]) (awp_skip ?_)
  refine awp_seq ?_
  refine awp_region rfl ?_
  refine aops_run 3 (by simp only [fwA, seval, gfw, bx, dx, bitfw, Int.reduceEq, Int.reduceNeg, Int.reduceToNat, Int.reduceLE, Int.reduceLT] <;> rfl) ?_
  refine aops_fn rfl rfl rfl en28 h28 ?_
  refine aops_run 1 (by simp only [fwA, seval, gfw, bx, dx, bitfw, Int.reduceEq, Int.reduceNeg, Int.reduceToNat, Int.reduceLE, Int.reduceLT] <;> rfl) ?_
  refine aops_end ?_
  refine awp_seq ?_
  refine awp_region rfl ?_
  refine aops_run 3 (by simp only [fwA, seval, gfw, bx, dx, bitfw, Int.reduceEq, Int.reduceNeg, Int.reduceToNat, Int.reduceLE, Int.reduceLT] <;> rfl) ?_
  refine aops_fn rfl rfl rfl en30 h30 ?_
  refine aops_run 1 (by simp only [fwA, seval, gfw, bx, dx, bitfw, Int.reduceEq, Int.reduceNeg, Int.reduceToNat, Int.reduceLE, Int.reduceLT] <;> rfl) ?_
  refine aops_end ?_
  refine awp_seq ?_
  refine awp_region rfl ?_
  refine aops_run 3 (by simp only [fwA, seval, gfw, bx, dx, bitfw, Int.reduceEq, Int.reduceNeg, Int.reduceToNat, Int.reduceLE, Int.reduceLT] <;> rfl) ?_
  refine aops_fn rfl rfl rfl en19 h19a ?_
  refine aops_run 1 (by simp only [fwA, seval, gfw, bx, dx, bitfw, Int.reduceEq, Int.reduceNeg, Int.reduceToNat, Int.reduceLE, Int.reduceLT] <;> rfl) ?_
  refine aops_end ?_
  refine awp_seq ?_
  cases he : entV ns us d x y
  · rw [he] at h32
    refine awp_drawn [0, 0, 1, 0, 0, 0, 0, 0, 0, 1, 0, 1, 0, 0, 0, 0, 0, 0, 0, 1, 0, 0, 0, 0, 0, 1, 0, 0, 0, 0, 0] [0, 1, 3, 3, 3, 3, 63, 127, 255, 511, 511, 511, 511, 511, 14847, 32767, 65535, 131071, 262143, 524287, 524287, 524287, 4194303, 8388607, 16777215, 33554431, 33554431, 33554431, 268435455, 536870911, 1073741823] mixed rfl (by kernel_rfl) ?_
    refine dops_run 6 (by simp only [fwA, seval, gfw, bx, dx, bitfw, Int.reduceEq, Int.reduceNeg, Int.reduceToNat, Int.reduceLE, Int.reduceLT] <;> rfl) ?_
    refine dops_fn rfl (by simp only [fwA, seval] <;> rfl) rfl rfl en32 h32 ?_
    refine dops_run 13 (by simp only [fwA, seval, gfw, bx, dx, bitfw, Int.reduceEq, Int.reduceNeg, Int.reduceToNat, Int.reduceLE, Int.reduceLT] <;> rfl) ?_
    refine dops_run 2 (by simp only [fwA, seval, gfw, bx, dx, bitfw, Int.reduceEq, Int.reduceNeg, Int.reduceToNat, Int.reduceLE, Int.reduceLT] <;> rfl) ?_
    refine dops_fn rfl (by simp only [fwA, seval] <;> rfl) rfl rfl en44 h44b ?_
    refine dops_run 5 (by simp only [fwA, seval, gfw, bx, dx, bitfw, Int.reduceEq, Int.reduceNeg, Int.reduceToNat, Int.reduceLE, Int.reduceLT] <;> rfl) ?_
    refine dops_fn rfl (by simp only [fwA, seval] <;> rfl) rfl rfl en44 h44c ?_
    refine dops_run 2 (by simp only [fwA, seval, gfw, bx, dx, bitfw, Int.reduceEq, Int.reduceNeg, Int.reduceToNat, Int.reduceLE, Int.reduceLT] <;> rfl) ?_
    refine dops_end ?_
    refine awp_ret ?_
    exact gives_end (.inl rfl) _ rfl
  · rw [he] at h32
    rw [e1 he] at h44a
    refine awp_drawn [0, 0, 1, 0, 0, 0, 0, 0, 0, 1, 0, 1, 0, 0, 0, 0, 0, 0, 0, 1, 0, 0, 0, 0, 0, 1, 0, 0, 0, 0, 0] [0, 1, 3, 3, 3, 3, 63, 127, 255, 511, 511, 511, 511, 511, 14847, 32767, 65535, 131071, 262143, 524287, 524287, 524287, 4194303, 8388607, 16777215, 33554431, 33554431, 33554431, 268435455, 536870911, 1073741823] mixed rfl (by kernel_rfl) ?_
    refine dops_run 6 (by simp only [fwA, seval, gfw, bx, dx, bitfw, Int.reduceEq, Int.reduceNeg, Int.reduceToNat, Int.reduceLE, Int.reduceLT] <;> rfl) ?_
    refine dops_fn rfl (by simp only [fwA, seval] <;> rfl) rfl rfl en32 h32 ?_
    refine dops_run 7 (by simp only [fwA, seval, gfw, bx, dx, bitfw, Int.reduceEq, Int.reduceNeg, Int.reduceToNat, Int.reduceLE, Int.reduceLT] <;> rfl) ?_
    refine dops_fn rfl (by simp only [fwA, seval] <;> rfl) rfl rfl en19 h19b ?_
    refine dops_fn rfl (by simp only [fwA, seval] <;> rfl) rfl rfl en44 h44a ?_
    refine dops_run 6 (by simp only [fwA, seval, gfw, bx, dx, bitfw, Int.reduceEq, Int.reduceNeg, Int.reduceToNat, Int.reduceLE, Int.reduceLT] <;> rfl) ?_
    refine dops_fn rfl (by simp only [fwA, seval] <;> rfl) rfl rfl en44 h44b ?_
    refine dops_run 5 (by simp only [fwA, seval, gfw, bx, dx, bitfw, Int.reduceEq, Int.reduceNeg, Int.reduceToNat, Int.reduceLE, Int.reduceLT] <;> rfl) ?_
    refine dops_fn rfl (by simp only [fwA, seval] <;> rfl) rfl rfl en44 h44c ?_
    refine dops_run 2 (by simp only [fwA, seval, gfw, bx, dx, bitfw, Int.reduceEq, Int.reduceNeg, Int.reduceToNat, Int.reduceLE, Int.reduceLT] <;> rfl) ?_
    refine dops_end ?_
    refine awp_ret ?_
    exact gives_end (.inl rfl) _ rfl
end Go.Proofs.YteicbhkimepbaaaGreatDoor
