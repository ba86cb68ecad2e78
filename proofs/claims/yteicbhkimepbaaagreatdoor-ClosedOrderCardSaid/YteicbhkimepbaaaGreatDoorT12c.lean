/- Two laws of chapter 12: of what is projected. -/
import Derived.Test.YteicbhkimepbaaaGreatDoorWF
namespace Go.Proofs.YteicbhkimepbaaaGreatDoor
set_option linter.unusedVariables false
set_option linter.unusedSimpArgs false
set_option maxRecDepth 100000
open Go.RowKit Fw

def dbl (l : List Pr) : List Pr := (l.reverse.map fun p => [p, p]).flatten
theorem dbl_snoc (l : List Pr) (x : Pr) : dbl (l ++ [x]) = [x, x] ++ dbl l := by simp [dbl, List.reverse_append]
theorem dbl_mem (l : List Pr) (p : Pr) : p ∈ l ↔ p ∈ dbl l := by
  unfold dbl
  rw [List.mem_flatten]
  constructor
  · intro h; exact ⟨[p, p], List.mem_map.2 ⟨p, List.mem_reverse.2 h, rfl⟩, by simp⟩
  · rintro ⟨_, h, hp⟩
    obtain ⟨q, hq, rfl⟩ := List.mem_map.1 h
    have : p = q := by simpa using hp
    subst this
    exact List.mem_reverse.1 hq
theorem dbl2 : ∀ r : List Pr, ((r.map fun p => [p, p]).flatten).length = 2 * r.length
  | [] => rfl
  | x :: r => by simp only [List.map_cons, List.flatten_cons, List.length_append, List.length_cons, List.length_nil, dbl2 r]; omega
theorem dbl_len (l : List Pr) : (dbl l).length = 2 * l.length := by unfold dbl; rw [dbl2, List.length_reverse]
set_option maxHeartbeats 8000000 in
/- chancel/chancellaw12.ClosedOrder -/
theorem c7 (Γ : Nat → PV) (hΓ : Tab64 Γ) (k : Int) (hk0 : 0 ≤ k) (c : List Pr) (ho : OkP c) (n : Int) (hn0 : 0 ≤ n) : Gives Tryz.prog Γ 7 [.int .u8 k, .vec (c.map Pr.enc) false, .int .u8 n] (.bool true) := by
  have hnm := tmod_nat (n := 8) hn0
  have hm8 : n.toNat % 8 < 8 := Nat.mod_lt _ (by decide)
  generalize n.toNat % 8 = m at hnm hm8
  have hwm : IntKind.i64.wrap (m : Int) = (m : Int) := wrapId ⟨by omega, by omega⟩
  have hnm : n.tmod 8 = (m : Int) := hnm
  have h23 := c23 Γ hΓ
  have h38 := c38 Γ
  obtain ⟨j, ns, us, ej, hget, hla, hR, hw⟩ := lats_at hk0
  obtain ⟨r1, r2, _, _, r5⟩ := right_spec hR
  have rp := r5.pos
  have hn : 0 < ns.length := by omega
  have h39 := c39 Γ ns us hn c ho
  have ho' := ptsV_ok (c := c) hn ho
  have hl' := ptsV_len ns.length c
  have hkn := ptsV_known (c := c) hR ho
  have hvr := fun x => ptsV_vars (x := x) hR ho
  refine fn_of_awp Tryz.func7 rfl (by simp [Tryz.f7]) rfl fun H => ?_
  refine awp_bd fun hbd => ?_
  refine awp_seq ?_
  refine awp_run rfl (by simp only [fwA, seval, gfw, bx, dx, bitfw, Int.reduceEq, Int.reduceNeg, Int.reduceToNat, Int.reduceLE, Int.reduceLT] <;> rfl) ?_
  refine awp_seq ?_
  refine awp_region rfl ?_
  refine aops_fn rfl rfl rfl en23 h23 ?_
  refine aops_run 1 (by simp only [fwA, seval, gfw, bx, dx, bitfw, Int.reduceEq, Int.reduceNeg, Int.reduceToNat, Int.reduceLE, Int.reduceLT] <;> rfl) ?_
  refine aops_end ?_
  refine awp_seq ?_
  refine awp_seq ?_
  refine awp_run rfl (by simp only [fwA, seval] <;> rfl) ?_
  refine awp_cond (b := false) (by simp [alook, aput, ev]) (awp_skip ?_)
  refine awp_seq ?_
  refine awp_region rfl ?_
  refine aops_fn rfl rfl rfl en38 h38 ?_
  refine aops_run 6 (by simp only [fwA, seval, gfw, bx, dx, bitfw, Int.reduceEq, Int.reduceNeg, Int.reduceToNat, Int.reduceLE, Int.reduceLT, ej, hget, hla] <;> rfl) ?_
  refine aops_end ?_
  refine awp_seq ?_
  refine awp_region rfl ?_
  refine aops_run 2 (by simp only [fwA, seval, gfw, bx, dx, bitfw, Int.reduceEq, Int.reduceNeg, Int.reduceToNat, Int.reduceLE, Int.reduceLT] <;> rfl) ?_
  refine aops_fn rfl rfl rfl en39 h39 ?_
  refine aops_run 1 (by simp only [fwA, seval, gfw, bx, dx, bitfw, Int.reduceEq, Int.reduceNeg, Int.reduceToNat, Int.reduceLE, Int.reduceLT] <;> rfl) ?_
  refine aops_end ?_
  generalize ptsV ns.length c = d at *
  have h35a := c35 Γ hΓ ns us hw d (by omega) ho' (kS m) (kS_64 hm8) (by rw [kS_len]; exact Nat.le_trans (Nat.mul_le_mul (Nat.le_of_lt hm8) (Nat.add_le_add_right hl' 3)) (by decide))
  have h35b := c35 Γ hΓ ns us hw (dbl d) (by rw [dbl_len]; omega) (fun p hp => ho' p ((dbl_mem d p).2 hp)) (kS m).reverse (fun v hv => kS_64 hm8 v (List.mem_reverse.1 hv)) (by rw [List.length_reverse, kS_len, dbl_len]; exact Nat.le_trans (Nat.mul_le_mul (Nat.le_of_lt hm8) (Nat.add_le_add_right (Nat.mul_le_mul_left 2 hl') 3)) (by decide))
  rw [← proj_congr (dbl_mem d) (K := kS m) (K' := (kS m).reverse) (fun v => by rw [List.mem_reverse])] at h35b
  have h41 := c41 Γ (projV ns us d (kS m)) false false
  generalize projV ns us d (kS m) = Z at h35a h35b h41
  refine awp_seq ?_
  refine awp_run rfl (by simp only [fwA, seval] <;> rfl) ?_
  refine awp_told (told_le 9 (.vec [] false) ⟨nofun, trivial⟩) ?_
  refine awp_seq ?_
  refine awp_seq ?_
  refine awp_run rfl (by simp only [fwA, seval] <;> rfl) ?_
  refine awp_block ?_
  refine awp_for [1, 2, 7, 8, 9, 10] (fun i : Nat => [.vec (d.map Pr.enc) false, .int .u8 n, .bool true, .ptr H.length 0, .vec ((dbl (d.take i)).map Pr.enc) false, .int .i64 (i : Int)]) (fun _ => H ++ [.box [.vec (ns.map S1) false, .vec (us.map U1) false]]) (fun i => d.length - i) (fun i => i ≤ d.length) 0 rfl rfl (Nat.zero_le _) fun i hi => ?_
  refine awp_seq ?_
  refine awp_seq ?_
  by_cases hc : (i : Int) < d.length
  rotate_left
  · refine awp_run rfl (by simp only [fwA, seval, gfw, bx, dx, bitfw, Int.reduceEq, Int.reduceNeg, Int.reduceToNat, Int.reduceLE, Int.reduceLT, hc] <;> rfl) ?_
    refine awp_cond (b := false) (by simp [alook, aput, ev]) ?_
    refine awp_exit ?_
    rw [show d.take i = d from List.take_of_length_le (by omega)]
    refine awp_seq ?_
    refine awp_run rfl (by simp only [fwA, seval] <;> rfl) ?_
    refine awp_seq ?_
    refine awp_run rfl (by simp only [fwA, seval] <;> rfl) ?_
    refine awp_told (told_adopt 11 1 (by decide) (by simp [alook])) ?_
    refine awp_told (told_le 12 (.vec [] false) ⟨nofun, trivial⟩) ?_
    refine awp_heap (H' := H ++ [.box [.vec (ns.map S1) false, .vec (us.map U1) false], .row 1 (((kS 0).map I1).flatten)]) (by simp [kS]) ?_
    refine awp_seq ?_
    refine awp_seq ?_
    refine awp_run rfl (by simp only [fwA, seval] <;> rfl) ?_
    refine awp_block ?_
    refine awp_for [1, 2, 7, 8, 9, 11, 12, 13] (fun i : Nat => [.vec (d.map Pr.enc) false, .int .u8 n, .bool true, .ptr H.length 0, .vec ((dbl d).map Pr.enc) false, .row (H.length + 1) 0 i 1, .vec ((kS i).reverse.map I1) false, .int .i64 (i : Int)]) (fun i => H ++ [.box [.vec (ns.map S1) false, .vec (us.map U1) false], .row 1 (((kS i).map I1).flatten)]) (fun i => m - i) (fun i => i ≤ m) 0 rfl rfl (Nat.zero_le _) fun i hi => ?_
    refine awp_seq ?_
    refine awp_seq ?_
    by_cases hc : (i : Int) < m
    rotate_left
    · refine awp_run rfl (by simp only [fwA, seval, gfw, bx, dx, bitfw, Int.reduceEq, Int.reduceNeg, Int.reduceToNat, Int.reduceLE, Int.reduceLT, hnm, hwm, hc] <;> rfl) ?_
      refine awp_cond (b := false) (by simp [alook, aput, ev]) ?_
      refine awp_exit ?_
      have e10 : i = m := by omega
      subst e10
      refine awp_told (told_freezeAt H _ 1 (C := ((kS i).map I1).flatten) rfl (flat_bd (fun t => by simp only [I1_fw]) _)) ?_
      have hl1 := flat_len I1_fw.1 (kS i)
      have hch := flat_chunk I1_fw.1 (kS i)
      rw [kS_len] at hl1 hch
      refine awp_keep (A' := [(1, .vec (d.map Pr.enc) false), (7, .bool true), (8, .ptr H.length 0), (9, .vec ((dbl d).map Pr.enc) false), (11, .vec ((kS i).map I1) false), (12, .vec ((kS i).reverse.map I1) false)]) [1, 7, 8, 9, 11, 12] (by simp only [fwA, seval, gfw, akeep, hl1, hch] <;> rfl) ?_
      simp only [List.set_cons_succ, List.set_cons_zero, List.map_cons, List.map_nil, frzB, frz]
      refine awp_seq ?_
      refine awp_drawn [0, 0, 1, 0, 0, 0, 1, 0, 0, 0, 0, 0, 0] [0, 1, 3, 3, 3, 31, 3, 3, 3, 511, 1023, 2047, 4095] mixed rfl (by kernel_rfl) ?_
      refine dops_run 5 (by simp only [fwA, seval, gfw, bx, dx, bitfw, Int.reduceEq, Int.reduceNeg, Int.reduceToNat, Int.reduceLE, Int.reduceLT] <;> rfl) ?_
      refine dops_fn rfl (by simp only [fwA, seval] <;> rfl) rfl rfl en35 h35a ?_
      refine dops_run 3 (by simp only [fwA, seval, gfw, bx, dx, bitfw, Int.reduceEq, Int.reduceNeg, Int.reduceToNat, Int.reduceLE, Int.reduceLT] <;> rfl) ?_
      refine dops_fn rfl (by simp only [fwA, seval] <;> rfl) rfl rfl en35 h35b ?_
      refine dops_fn rfl (by simp only [fwA, seval] <;> rfl) rfl rfl en41 h41 ?_
      refine dops_run 2 (by simp only [fwA, seval, gfw, bx, dx, bitfw, Int.reduceEq, Int.reduceNeg, Int.reduceToNat, Int.reduceLE, Int.reduceLT] <;> rfl) ?_
      refine dops_end ?_
      refine awp_ret ?_
      exact gives_end (.inl rfl) _ rfl
    have hwi : IntKind.i64.wrap ((i : Int) + 1) = ((i + 1 : Nat) : Int) := wrapS i (by omega)
    refine awp_run rfl (by simp only [fwA, seval, gfw, bx, dx, bitfw, Int.reduceEq, Int.reduceNeg, Int.reduceToNat, Int.reduceLE, Int.reduceLT, hnm, hwm, hc] <;> rfl) ?_
    refine awp_cond (b := true) (by simp [alook, aput, ev]) ?_
    refine awp_skip ?_
    refine awp_seq ?_
    refine awp_block ?_
    refine awp_seq ?_
    refine awp_region rfl ?_
    refine aops_run 3 (by simp only [fwA, seval, gfw, bx, dx, bitfw, Int.reduceEq, Int.reduceNeg, Int.reduceToNat, Int.reduceLE, Int.reduceLT] <;> rfl) ?_
    refine aops_push (enc := I1) (l := kS i) (z := (i : Int)) I1_fw.1 rfl rfl un49 ti28 rfl un49 rfl (by simp [Fw.get_at]) (kS_len _).symm rfl (by show (i + 1) * 8 ≤ _; omega) (by omega) rfl ?_
    refine aops_run 1 (by simp only [fwA, seval, gfw, bx, dx, bitfw, Int.reduceEq, Int.reduceNeg, Int.reduceToNat, Int.reduceLE, Int.reduceLT] <;> rfl) ?_
    refine aops_end ?_
    refine awp_region rfl ?_
    refine aops_run 3 (by simp only [fwA, seval, gfw, bx, dx, bitfw, Int.reduceEq, Int.reduceNeg, Int.reduceToNat, Int.reduceLE, Int.reduceLT] <;> rfl) ?_
    refine aops_one rfl (os_appendVV rfl un49 ti28 un49 rfl (fun e he => by simp only [List.mem_cons, List.not_mem_nil, or_false] at he; subst he; rfl) rfl (fun e he => by obtain ⟨q, _, rfl⟩ := List.mem_map.1 he; rfl) (by simp only [List.length_map, List.length_reverse, kS_len, List.length_cons, List.length_nil]; omega) (by simp only [List.length_map, List.length_reverse, kS_len, List.length_cons, List.length_nil]; omega) ?_)
    refine aops_run 1 (by simp only [fwA, seval, gfw, bx, dx, bitfw, Int.reduceEq, Int.reduceNeg, Int.reduceToNat, Int.reduceLE, Int.reduceLT] <;> rfl) ?_
    refine aops_end ?_
    refine awp_run rfl (by simp only [fwA, seval] <;> rfl) ?_
    refine ⟨i + 1, by omega, by omega, by simp only [fwA, seval, gfw, hwi, ← kS_snoc, List.reverse_append, List.reverse_cons, List.reverse_nil, List.nil_append, List.cons_append]; rfl, ?_, rfl⟩
    rw [kS_snoc]
  have hi' : i < d.length := by omega
  obtain ⟨z, hz⟩ : ∃ z, d[i]? = some z := ⟨_, List.getElem?_eq_getElem hi'⟩
  have hts := take_snoc hz
  have hwi : IntKind.i64.wrap ((i : Int) + 1) = ((i + 1 : Nat) : Int) := wrapS i (by omega)
  have hln : (dbl (d.take i)).length ≤ 60 := by rw [dbl_len, List.length_take]; omega
  refine awp_run rfl (by simp only [fwA, seval, gfw, bx, dx, bitfw, Int.reduceEq, Int.reduceNeg, Int.reduceToNat, Int.reduceLE, Int.reduceLT, hc] <;> rfl) ?_
  refine awp_cond (b := true) (by simp [alook, aput, ev]) ?_
  refine awp_skip ?_
  refine awp_seq ?_
  refine awp_block ?_
  refine awp_drawn [0, 0, 0, 1, 0, 0, 0, 1, 0, 0, 0, 0] [0, 0, 3, 7, 0, 0, 48, 112, 255, 0, 1023, 2047] mixed rfl (by kernel_rfl) ?_
  refine dops_run 10 (by simp only [fwA, seval, gfw, bx, dx, bitfw, Int.reduceEq, Int.reduceNeg, Int.reduceToNat, Int.reduceLE, Int.reduceLT, hz] <;> rfl) ?_
  refine dops_appendVV rfl rfl rfl un26 ti70 un26 rfl (fun e he => by simp only [List.mem_cons, List.not_mem_nil, or_false] at he; rcases he with rfl | rfl <;> rfl) rfl (fun e he => by obtain ⟨q, _, rfl⟩ := List.mem_map.1 he; rfl) (by simp only [List.length_map, List.length_cons, List.length_nil]; omega) (by simp only [List.length_map, List.length_cons, List.length_nil]; omega) ?_
  refine dops_run 1 (by simp only [fwA, seval, gfw, bx, dx, bitfw, Int.reduceEq, Int.reduceNeg, Int.reduceToNat, Int.reduceLE, Int.reduceLT, hz] <;> rfl) ?_
  refine dops_end ?_
  refine awp_run rfl (by simp only [fwA, seval] <;> rfl) ?_
  exact ⟨i + 1, by omega, by omega, by simp only [fwA, seval, gfw, hwi, hts, dbl_snoc, List.cons_append, List.nil_append]; rfl, rfl, rfl⟩
end Go.Proofs.YteicbhkimepbaaaGreatDoor
