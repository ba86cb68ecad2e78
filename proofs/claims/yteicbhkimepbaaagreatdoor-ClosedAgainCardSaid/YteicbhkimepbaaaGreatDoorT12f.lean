/- A law of chapter 12: what is projected is in order, and again it is the same. -/
import Derived.Test.YteicbhkimepbaaaGreatDoorWF
namespace Go.Proofs.YteicbhkimepbaaaGreatDoor
set_option linter.unusedVariables false
set_option linter.unusedSimpArgs false
set_option maxRecDepth 100000
open Go.RowKit Fw

set_option maxHeartbeats 8000000 in
/- chancel/chancellaw12.ClosedAgain -/
theorem c5 (Γ : Nat → PV) (hΓ : Tab64 Γ) (k : Int) (hk0 : 0 ≤ k) (c : List Pr) (ho : OkP c) (n n2 : Int) (hn0 : 0 ≤ n) (hn2 : 0 ≤ n2 ∧ n2 < 256) : Gives Tryz.prog Γ 5 [.int .u8 k, .vec (c.map Pr.enc) false, .int .u8 n, .int .u8 n2] (.bool true) := by
  have hnm := tmod_nat (n := 8) hn0
  have hm8 : n.toNat % 8 < 8 := Nat.mod_lt _ (by decide)
  generalize n.toNat % 8 = m at hnm hm8
  have hwm : IntKind.i64.wrap (m : Int) = (m : Int) := wrapId ⟨by omega, by omega⟩
  have hw1 : IntKind.i64.wrap ((m : Int) + 1) = ((m + 1 : Nat) : Int) := wrapS m (by omega)
  have hw2 : IntKind.i64.wrap n2 = n2 := wrapId ⟨by omega, by omega⟩
  have hz1 : ¬ (((m + 1 : Nat) : Int) = 0) := by omega
  have hq := tmod_nat (n := m + 1) hn2.1
  have hqm : n2.toNat % (m + 1) ≤ m := Nat.le_of_lt_succ (Nat.mod_lt n2.toNat (Nat.succ_pos m))
  generalize n2.toNat % (m + 1) = q at hq hqm
  have hnm : n.tmod 8 = (m : Int) := hnm
  have h23 := c23 Γ hΓ
  have h38 := c38 Γ
  obtain ⟨j, ns, us, ej, hget, hla, hR, hw⟩ := lats_at hk0
  obtain ⟨r1, r2, _, _, r5⟩ := right_spec hR
  have rp := r5.pos
  have hn : 0 < ns.length := by omega
  have h39 := c39 Γ ns us hn c ho
  have ho' := ptsV_ok (c := c) hn ho
  have hl' := ptsV_len ns.length c
  have hkn := ptsV_known (c := c) hR ho
  have hvr := fun x => ptsV_vars (x := x) hR ho
  refine fn_of_awp Tryz.func5 rfl (by simp [Tryz.f5]) rfl fun H => ?_
  refine awp_bd fun hbd => ?_
  refine awp_seq ?_
  refine awp_run rfl (by simp only [fwA, seval, gfw, bx, dx, bitfw, Int.reduceEq, Int.reduceNeg, Int.reduceToNat, Int.reduceLE, Int.reduceLT] <;> rfl) ?_
  refine awp_seq ?_
  refine awp_region rfl ?_
  refine aops_fn rfl rfl rfl en23 h23 ?_
  refine aops_run 1 (by simp only [fwA, seval, gfw, bx, dx, bitfw, Int.reduceEq, Int.reduceNeg, Int.reduceToNat, Int.reduceLE, Int.reduceLT] <;> rfl) ?_
  refine aops_end ?_
  refine awp_seq ?_
  refine awp_seq ?_
  refine awp_run rfl (by simp only [fwA, seval] <;> rfl) ?_
  refine awp_cond (b := false) (by simp [alook, aput, ev]) (awp_skip ?_)
  refine awp_seq ?_
  refine awp_region rfl ?_
  refine aops_fn rfl rfl rfl en38 h38 ?_
  refine aops_run 6 (by simp only [fwA, seval, gfw, bx, dx, bitfw, Int.reduceEq, Int.reduceNeg, Int.reduceToNat, Int.reduceLE, Int.reduceLT, ej, hget, hla] <;> rfl) ?_
  refine aops_end ?_
  refine awp_seq ?_
  refine awp_region rfl ?_
  refine aops_run 2 (by simp only [fwA, seval, gfw, bx, dx, bitfw, Int.reduceEq, Int.reduceNeg, Int.reduceToNat, Int.reduceLE, Int.reduceLT] <;> rfl) ?_
  refine aops_fn rfl rfl rfl en39 h39 ?_
  refine aops_run 1 (by simp only [fwA, seval, gfw, bx, dx, bitfw, Int.reduceEq, Int.reduceNeg, Int.reduceToNat, Int.reduceLE, Int.reduceLT] <;> rfl) ?_
  refine aops_end ?_
  generalize ptsV ns.length c = d at *
  have hbig : ∀ (l x : Nat), l ≤ 8 → x ≤ 300 → l * (x + 3) ≤ 1000000000000 := fun l x h1 h2 => Nat.le_trans (Nat.mul_le_mul h1 (Nat.add_le_add_right h2 3)) (by decide)
  have h35a := c35 Γ hΓ ns us hw d (by omega) ho' (kS m) (kS_64 hm8) (hbig _ _ (by rw [kS_len]; omega) (by omega))
  have h35b := c35 Γ hΓ ns us hw d (by omega) ho' (kS q) (kS_64 (by omega)) (hbig _ _ (by rw [kS_len]; omega) (by omega))
  have hpl : (projV ns us d (kS m)).length ≤ 300 := proj_le ns us d (by rw [kS_len]; omega) (by omega)
  have hpo : OkP (projV ns us d (kS m)) := proj_ok hkn hm8
  have h35c := c35 Γ hΓ ns us hw (projV ns us d (kS m)) (by omega) hpo (kS m) (kS_64 hm8) (hbig _ _ (by rw [kS_len]; omega) hpl)
  have h35d := c35 Γ hΓ ns us hw (projV ns us d (kS m)) (by omega) hpo (kS q) (kS_64 (by omega)) (hbig _ _ (by rw [kS_len]; omega) hpl)
  rw [proj_again hkn (fun v hv => hv)] at h35c
  rw [proj_again hkn (fun v hv => by have := kS_mem.1 hv; exact kS_mem.2 ⟨by omega, by omega⟩)] at h35d
  have h42 := c42 Γ (projV ns us d (kS m)) false (by omega)
  rw [proj_norm] at h42
  have h41a := c41 Γ (projV ns us d (kS m)) false false
  have h41b := c41 Γ (projV ns us d (kS q)) false false
  have h40 := c40 Γ (projV ns us d (kS m)) false (by omega)
  have hgv : ∀ v ∈ gath gV (projV ns us d (kS m)), v < m := fun v hv => (kS_mem.1 (proj_vars hv)).2
  have hgl := both_le (projV ns us d (kS m))
  generalize gath gV (projV ns us d (kS m)) = vs at *
  generalize projV ns us d (kS m) = Z at *
  generalize projV ns us d (kS q) = Z2 at *
  refine awp_seq ?_
  refine awp_run rfl (by simp only [fwA, seval] <;> rfl) ?_
  refine awp_told (told_adopt 11 1 (by decide) (by simp [alook])) ?_
  refine awp_heap (H' := H ++ [.box [.vec (ns.map S1) false, .vec (us.map U1) false], .row 1 (((kS 0).map I1).flatten)]) (by simp [kS]) ?_
  refine awp_seq ?_
  refine awp_seq ?_
  refine awp_run rfl (by simp only [fwA, seval] <;> rfl) ?_
  refine awp_block ?_
  refine awp_for [1, 2, 3, 9, 10, 11, 12] (fun i : Nat => [.vec (d.map Pr.enc) false, .int .u8 n, .int .u8 n2, .bool true, .ptr H.length 0, .row (H.length + 1) 0 i 1, .int .i64 (i : Int)]) (fun i => H ++ [.box [.vec (ns.map S1) false, .vec (us.map U1) false], .row 1 (((kS i).map I1).flatten)]) (fun i => m - i) (fun i => i ≤ m) 0 rfl rfl (Nat.zero_le _) fun i hi => ?_
  refine awp_seq ?_
  refine awp_seq ?_
  by_cases hc : (i : Int) < m
  rotate_left
  · refine awp_run rfl (by simp only [fwA, seval, gfw, bx, dx, bitfw, Int.reduceEq, Int.reduceNeg, Int.reduceToNat, Int.reduceLE, Int.reduceLT, hnm, hwm, hc] <;> rfl) ?_
    refine awp_cond (b := false) (by simp [alook, aput, ev]) ?_
    refine awp_exit ?_
    have e10 : i = m := by omega
    subst e10
    refine awp_told (told_freezeAt H _ 1 (C := ((kS i).map I1).flatten) rfl (flat_bd (fun t => by simp only [I1_fw]) _)) ?_
    have hl1 := flat_len I1_fw.1 (kS i)
    have hch := flat_chunk I1_fw.1 (kS i)
    rw [kS_len] at hl1 hch
    refine awp_keep (A' := [(1, .vec (d.map Pr.enc) false), (3, .int .u8 n2), (9, .bool true), (10, .ptr H.length 0), (11, .vec ((kS i).map I1) false)]) [1, 3, 9, 10, 11] (by simp only [fwA, seval, gfw, akeep, hl1, hch] <;> rfl) ?_
    simp only [List.set_cons_succ, List.set_cons_zero, List.map_cons, List.map_nil, frzB, frz]
    have hkt : ((kS i).map I1).take (q - 0) = (kS q).map I1 := by rw [Nat.sub_zero, ← List.map_take, kS_take hqm]
    refine awp_seq ?_
    refine awp_region rfl ?_
    refine aops_run 7 (by simp only [fwA, seval, gfw, bx, dx, bitfw, Int.reduceEq, Int.reduceNeg, Int.reduceToNat, Int.reduceLE, Int.reduceLT, kS_len, hw1, hw2, hz1, hq] <;> rfl) ?_
    refine aops_one rfl (os_sliceVec (l := 0) (h := q) (es := (kS i).map I1) (f := false) rfl el49 rfl (fun e he => by obtain ⟨x, _, rfl⟩ := List.mem_map.1 he; rfl) rfl ⟨_, rfl⟩ trivial (Nat.zero_le _) (by rw [List.length_map, kS_len]; exact hqm) ?_)
    rw [List.drop_zero, hkt]
    refine aops_run 1 (by simp only [fwA, seval, gfw, bx, dx, bitfw, Int.reduceEq, Int.reduceNeg, Int.reduceToNat, Int.reduceLE, Int.reduceLT, kS_len, hw1, hw2, hz1, hq] <;> rfl) ?_
    refine aops_end ?_
    refine awp_seq ?_
    refine awp_region rfl ?_
    refine aops_run 3 (by simp only [fwA, seval, gfw, bx, dx, bitfw, Int.reduceEq, Int.reduceNeg, Int.reduceToNat, Int.reduceLE, Int.reduceLT] <;> rfl) ?_
    refine aops_fn rfl rfl rfl en35 h35a ?_
    refine aops_run 1 (by simp only [fwA, seval, gfw, bx, dx, bitfw, Int.reduceEq, Int.reduceNeg, Int.reduceToNat, Int.reduceLE, Int.reduceLT] <;> rfl) ?_
    refine aops_end ?_
    refine awp_seq ?_
    refine awp_seq ?_
    refine awp_region rfl ?_
    refine aops_run 1 (by simp only [fwA, seval, gfw, bx, dx, bitfw, Int.reduceEq, Int.reduceNeg, Int.reduceToNat, Int.reduceLE, Int.reduceLT] <;> rfl) ?_
    refine aops_fn rfl rfl rfl en40 h40 ?_
    refine aops_run 2 (by simp only [fwA, seval, gfw, bx, dx, bitfw, Int.reduceEq, Int.reduceNeg, Int.reduceToNat, Int.reduceLE, Int.reduceLT] <;> rfl) ?_
    refine aops_end ?_
    refine awp_block ?_
    refine awp_for [1, 9, 10, 11, 13, 14, 52, 53, 54] (fun j : Nat => [.vec (d.map Pr.enc) false, .bool true, .ptr H.length 0, .vec ((kS i).map I1) false, .vec ((kS q).map I1) false, .vec (Z.map Pr.enc) false, .vec (vs.map I1) false, .int .i64 (vs.length : Int), .int .i64 (j : Int)]) (fun _ => H ++ [.box [.vec (ns.map S1) false, .vec (us.map U1) false], .dead]) (fun j => vs.length - j) (fun j => j ≤ vs.length) 0 rfl rfl (Nat.zero_le _) fun j hj => ?_
    refine awp_seq ?_
    refine awp_run rfl (by simp only [fwA, seval] <;> rfl) ?_
    refine awp_seq ?_
    by_cases hc : (j : Int) < vs.length
    rotate_left
    · refine awp_cond (b := false) (by simp [alook, aput, ev, hc]) ?_
      refine awp_exit ?_
      refine awp_seq ?_
      refine awp_drawn [0, 0, 0, 0, 0, 0, 0, 0, 1, 0, 0, 0, 0, 0, 0, 0, 1, 0, 0, 0, 1, 0, 0, 0, 0, 0, 0] [0, 1, 3, 7, 3, 31, 63, 127, 255, 255, 255, 2047, 255, 8191, 16383, 32767, 65535, 65535, 65535, 524287, 65535, 65535, 65535, 8388607, 16777215, 33554431, 67108863] mixed rfl (by kernel_rfl) ?_
      refine dops_run 3 (by simp only [fwA, seval, gfw, bx, dx, bitfw, Int.reduceEq, Int.reduceNeg, Int.reduceToNat, Int.reduceLE, Int.reduceLT] <;> rfl) ?_
      refine dops_fn rfl (by simp only [fwA, seval] <;> rfl) rfl rfl en42 h42 ?_
      refine dops_run 1 (by simp only [fwA, seval, gfw, bx, dx, bitfw, Int.reduceEq, Int.reduceNeg, Int.reduceToNat, Int.reduceLE, Int.reduceLT] <;> rfl) ?_
      refine dops_fn rfl (by simp only [fwA, seval] <;> rfl) rfl rfl en41 h41a ?_
      refine dops_run 5 (by simp only [fwA, seval, gfw, bx, dx, bitfw, Int.reduceEq, Int.reduceNeg, Int.reduceToNat, Int.reduceLE, Int.reduceLT] <;> rfl) ?_
      refine dops_fn rfl (by simp only [fwA, seval] <;> rfl) rfl rfl en35 h35c ?_
      refine dops_run 1 (by simp only [fwA, seval, gfw, bx, dx, bitfw, Int.reduceEq, Int.reduceNeg, Int.reduceToNat, Int.reduceLE, Int.reduceLT] <;> rfl) ?_
      refine dops_fn rfl (by simp only [fwA, seval] <;> rfl) rfl rfl en41 h41a ?_
      refine dops_run 5 (by simp only [fwA, seval, gfw, bx, dx, bitfw, Int.reduceEq, Int.reduceNeg, Int.reduceToNat, Int.reduceLE, Int.reduceLT] <;> rfl) ?_
      refine dops_fn rfl (by simp only [fwA, seval] <;> rfl) rfl rfl en35 h35d ?_
      refine dops_run 3 (by simp only [fwA, seval, gfw, bx, dx, bitfw, Int.reduceEq, Int.reduceNeg, Int.reduceToNat, Int.reduceLE, Int.reduceLT] <;> rfl) ?_
      refine dops_fn rfl (by simp only [fwA, seval] <;> rfl) rfl rfl en35 h35b ?_
      refine dops_fn rfl (by simp only [fwA, seval] <;> rfl) rfl rfl en41 h41b ?_
      refine dops_run 2 (by simp only [fwA, seval, gfw, bx, dx, bitfw, Int.reduceEq, Int.reduceNeg, Int.reduceToNat, Int.reduceLE, Int.reduceLT] <;> rfl) ?_
      refine dops_end ?_
      refine awp_ret ?_
      exact gives_end (.inl rfl) _ rfl
    have hj' : j < vs.length := by omega
    obtain ⟨z, hz⟩ : ∃ z, vs[j]? = some z := ⟨_, List.getElem?_eq_getElem hj'⟩
    have hzm := hgv z (List.mem_of_getElem? hz)
    have hzn : ¬ (i : Int) ≤ z := by omega
    have hwi : IntKind.i64.wrap ((j : Int) + 1) = ((j + 1 : Nat) : Int) := wrapS j (by omega)
    refine awp_cond (b := true) (by simp [alook, aput, ev, hc]) ?_
    refine awp_skip ?_
    refine awp_seq ?_
    refine awp_block ?_
    refine awp_seq ?_
    refine awp_run rfl (by simp only [fwA, seval, gfw, bx, dx, bitfw, Int.reduceEq, Int.reduceNeg, Int.reduceToNat, Int.reduceLE, Int.reduceLT, hz] <;> rfl) ?_
    refine awp_seq ?_
    refine awp_run rfl (by simp only [fwA, seval, gfw, bx, dx, bitfw, Int.reduceEq, Int.reduceNeg, Int.reduceToNat, Int.reduceLE, Int.reduceLT, kS_len, hzn] <;> rfl) ?_
    refine awp_cond (b := false) (by simp [alook, aput, ev]) (awp_skip ?_)
    refine awp_run rfl (by simp only [fwA, seval] <;> rfl) ?_
    exact ⟨j + 1, by omega, by omega, by simp only [fwA, seval, gfw, hwi], rfl, rfl⟩
  have hwi : IntKind.i64.wrap ((i : Int) + 1) = ((i + 1 : Nat) : Int) := wrapS i (by omega)
  refine awp_run rfl (by simp only [fwA, seval, gfw, bx, dx, bitfw, Int.reduceEq, Int.reduceNeg, Int.reduceToNat, Int.reduceLE, Int.reduceLT, hnm, hwm, hc] <;> rfl) ?_
  refine awp_cond (b := true) (by simp [alook, aput, ev]) ?_
  refine awp_skip ?_
  refine awp_seq ?_
  refine awp_block ?_
  refine awp_region rfl ?_
  refine aops_run 3 (by simp only [fwA, seval, gfw, bx, dx, bitfw, Int.reduceEq, Int.reduceNeg, Int.reduceToNat, Int.reduceLE, Int.reduceLT] <;> rfl) ?_
  refine aops_push (enc := I1) (l := kS i) (z := (i : Int)) I1_fw.1 rfl rfl un49 ti28 rfl un49 rfl (by simp [Fw.get_at]) (kS_len _).symm rfl (by show (i + 1) * 8 ≤ _; omega) (by omega) rfl ?_
  refine aops_run 1 (by simp only [fwA, seval, gfw, bx, dx, bitfw, Int.reduceEq, Int.reduceNeg, Int.reduceToNat, Int.reduceLE, Int.reduceLT] <;> rfl) ?_
  refine aops_end ?_
  refine awp_run rfl (by simp only [fwA, seval] <;> rfl) ?_
  refine ⟨i + 1, by omega, by omega, by simp only [fwA, seval, gfw, hwi], ?_, rfl⟩
  rw [kS_snoc]
end Go.Proofs.YteicbhkimepbaaaGreatDoor
