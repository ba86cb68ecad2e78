/- The law of chapter 11 that speaks of the document's answer. -/
import Derived.Test.YteicbhkimepbaaaGreatDoorWF
namespace Go.Proofs.YteicbhkimepbaaaGreatDoor
set_option linter.unusedVariables false
set_option linter.unusedSimpArgs false
set_option maxRecDepth 100000
open Go.RowKit Fw
theorem take_mapY {X Y : Type} (f : X → Y) (l : List X) (n : Nat) : ((l.map f).drop 0).take (n - 0) = (l.take n).map f := by rw [List.drop_zero, Nat.sub_zero, List.map_take]
theorem min12Y (n : Nat) : (if (12 : Int) < (n : Int) then 12 else (n : Int)) = ((min n 12 : Nat) : Int) := by split <;> omega
theorem least_len (ns : List (List UInt8)) (us : List Nat) (c : List Pr) : (leastV ns us c).1.length ≤ 2 * c.length := by
  have := both_le c
  rcases leastV_is ns us c with ⟨_, h⟩ | ⟨_, ⟨σ, _, _, h⟩ | ⟨_, h⟩⟩
  · rw [h]; simp
  · rw [h]
    show (solL c σ).length ≤ _
    unfold solL
    rw [List.length_map]; omega
  · rw [h]; simp
set_option maxHeartbeats 16000000 in
theorem c3 (Γ : Nat → PV) (hΓ : Tab64 Γ) (ns : List (List UInt8)) (us : List Nat) (hw0 : W64 us) (c : List Pr) (hl : c.length ≤ 9000000) (ho : OkP c) (s : List So) (hsl : s.length ≤ 9000000) (a : Int) (ha : I64 a) : Gives Tryz.prog Γ 3 [.agg [.vec (ns.map S1) false, .vec (us.map U1) false], .vec (c.map Pr.enc) false, .vec (s.map So.enc) false, .int .i64 a] (.bool true) := by
  have h11 := c11 Γ hΓ
  have hw : W64 (us.take (min us.length 12)) := fun x hx => hw0 x (List.mem_of_mem_take hx)
  have h12 := c12 Γ (ns.take (min ns.length 12)) (us.take (min us.length 12))
  have h13 := c13 Γ c (by omega)
  have h14 := c14 Γ hΓ (ns.take (min ns.length 12)) (us.take (min us.length 12)) hw c (by omega) ho
  have h15 := c15 Γ (ns.take (min ns.length 12)) (us.take (min us.length 12)) hw c (by omega) ho
  have h17 := c17 Γ hΓ (ns.take (min ns.length 12)) (us.take (min us.length 12)) hw c (by omega) ho
  have h18 := c18 Γ (ns.take (min ns.length 12)) (us.take (min us.length 12)) hw c (by omega) ho
  have h19 := c19 Γ hΓ (ns.take (min ns.length 12)) (us.take (min us.length 12)) hw s a ha
  have h20 := c20 Γ (ns.take (min ns.length 12)) (us.take (min us.length 12)) hw s a ha
  have h21 := c21 Γ hΓ (ns.take (min ns.length 12)) (us.take (min us.length 12)) hw c (by omega) ho s
  have h22 := c22 Γ (ns.take (min ns.length 12)) (us.take (min us.length 12)) hw c (by omega) ho s
  have h16s := c16 Γ s (by omega)
  have hxl := least_len (ns.take (min ns.length 12)) (us.take (min us.length 12)) c
  generalize leastV (ns.take (min ns.length 12)) (us.take (min us.length 12)) c = X at h14 h15 hxl
  obtain ⟨x, ok⟩ := X
  have hxl : x.length ≤ 2 * c.length := hxl
  have h16 := c16 Γ x (by omega)
  generalize knownB (ns.take (min ns.length 12)) (us.take (min us.length 12)) c = r1 at *
  generalize valueV (ns.take (min ns.length 12)) (us.take (min us.length 12)) s a = r2 at *
  generalize solvesB (ns.take (min ns.length 12)) (us.take (min us.length 12)) c s = r3 at *
  refine fn_of_awp Tryz.func3 rfl (by simp [Tryz.f3]) rfl fun H => ?_
  refine awp_seq ?_
  refine awp_run rfl (by simp only [fwA, seval, gfw, bx, dx, bitfw] <;> rfl) ?_
  refine awp_seq ?_
  refine awp_region rfl ?_
  refine aops_fn rfl rfl rfl en11 h11 ?_
  refine aops_run 1 (by simp only [fwA, seval, gfw, bx, dx, bitfw] <;> rfl) ?_
  refine aops_end ?_
  refine awp_seq ?_
  refine awp_seq ?_
  refine awp_run rfl (by simp only [fwA, seval] <;> rfl) ?_
  refine awp_cond (b := false) (by simp [alook, aput, ev]) (awp_skip ?_)
  refine awp_seq ?_
  refine awp_region rfl ?_
  refine aops_run 5 (by simp only [fwA, seval, gfw, bx, dx, bitfw] <;> rfl) ?_
  refine aops_one rfl (os_min rfl rfl rfl ?_)
  refine aops_one rfl (os_sliceVec (l := 0) (h := min ns.length 12) (es := ns.map S1) (f := false) rfl el22 rfl (fun e he => by obtain ⟨x, _, rfl⟩ := List.mem_map.1 he; rfl) rfl ⟨_, congrArg (PV.int .i64) (min12Y ns.length)⟩ trivial (Nat.zero_le _) (by rw [List.length_map]; omega) ?_)
  rw [take_mapY]
  refine aops_run 2 (by simp only [fwA, seval, gfw, bx, dx, bitfw] <;> rfl) ?_
  refine aops_end ?_
  refine awp_seq ?_
  refine awp_region rfl ?_
  refine aops_run 5 (by simp only [fwA, seval, gfw, bx, dx, bitfw] <;> rfl) ?_
  refine aops_one rfl (os_min rfl rfl rfl ?_)
  refine aops_one rfl (os_sliceVec (l := 0) (h := min us.length 12) (es := us.map U1) (f := false) rfl el23 rfl (fun e he => by obtain ⟨x, _, rfl⟩ := List.mem_map.1 he; rfl) rfl ⟨_, congrArg (PV.int .i64) (min12Y us.length)⟩ trivial (Nat.zero_le _) (by rw [List.length_map]; omega) ?_)
  rw [take_mapY]
  refine aops_run 2 (by simp only [fwA, seval, gfw, bx, dx, bitfw] <;> rfl) ?_
  refine aops_end ?_
  refine awp_seq ?_
  refine awp_region rfl ?_
  refine aops_run 1 (by simp only [fwA, seval, gfw, bx, dx, bitfw] <;> rfl) ?_
  refine aops_fn rfl rfl rfl en12 h12 ?_
  refine aops_run 2 (by simp only [fwA, seval, gfw, bx, dx, bitfw] <;> rfl) ?_
  refine aops_end ?_
  refine awp_seq ?_
  refine awp_region rfl ?_
  refine aops_run 1 (by simp only [fwA, seval, gfw, bx, dx, bitfw] <;> rfl) ?_
  refine aops_fn rfl rfl rfl en13 h13 ?_
  refine aops_run 1 (by simp only [fwA, seval, gfw, bx, dx, bitfw] <;> rfl) ?_
  refine aops_end ?_
  refine awp_seq ?_
  refine awp_region rfl ?_
  refine aops_run 2 (by simp only [fwA, seval, gfw, bx, dx, bitfw, leastEnc] <;> rfl) ?_
  refine aops_fn rfl rfl rfl en14 h14 ?_
  refine aops_run 5 (by simp only [fwA, seval, gfw, bx, dx, bitfw, leastEnc] <;> rfl) ?_
  refine aops_end ?_
  refine awp_seq ?_
  refine awp_region rfl ?_
  refine aops_run 2 (by simp only [fwA, seval, gfw, bx, dx, bitfw, leastEnc] <;> rfl) ?_
  refine aops_fn rfl rfl rfl en15 h15 ?_
  refine aops_run 5 (by simp only [fwA, seval, gfw, bx, dx, bitfw, leastEnc] <;> rfl) ?_
  refine aops_end ?_
  refine awp_seq ?_
  refine awp_region rfl ?_
  refine aops_run 1 (by simp only [fwA, seval, gfw, bx, dx, bitfw] <;> rfl) ?_
  refine aops_fn rfl rfl rfl en16 h16 ?_
  refine aops_run 1 (by simp only [fwA, seval, gfw, bx, dx, bitfw] <;> rfl) ?_
  refine aops_end ?_
  refine awp_seq ?_
  refine awp_seq ?_
  have hbb : decide (ok = ok) = true := by simp
  refine awp_run rfl (by simp only [fwA, seval, gfw, bx, dx, bitfw, hbb] <;> rfl) ?_
  refine awp_cond (b := false) (by simp [alook, aput, ev]) (awp_skip ?_)
  refine awp_seq ?_
  refine awp_seq ?_
  refine awp_run rfl (by simp only [fwA, seval] <;> rfl) ?_
  refine awp_block ?_
  refine awp_for [1, 2, 3, 4, 9, 10, 11, 14, 16, 17] (fun i : Nat => [.vec (c.map Pr.enc) false, .vec (s.map So.enc) false, .int .i64 a, .ptr H.length 0, .bool true, .ptr (H.length + 1) 0, .vec (c.map Pr.enc) false, .vec (x.map So.enc) false, .vec (x.map So.enc) false, .int .i64 (i : Int)]) (fun _ => H ++ [.box [.vec ((ns.take (min ns.length 12)).map S1) false, .vec ((us.take (min us.length 12)).map U1) false], .box [.vec ((ns.take (min ns.length 12)).map S1) false, .vec ((us.take (min us.length 12)).map U1) false]]) (fun i => x.length - i) (fun i => i ≤ x.length) 0 rfl rfl (Nat.zero_le _) fun i hi => ?_
  refine awp_seq ?_
  refine awp_seq ?_
  by_cases hc : (i : Int) < x.length
  rotate_left
  · refine awp_run rfl (by simp only [fwA, seval, gfw, bx, dx, bitfw, hc] <;> rfl) ?_
    refine awp_cond (b := false) (by simp [alook, aput, ev]) ?_
    refine awp_exit ?_
    refine awp_seq ?_
    refine awp_drawn [0, 0, 1, 0, 0, 1, 0, 0, 0, 0, 0, 1, 0, 0, 0, 1, 0, 0, 0, 0, 0, 0, 0, 1, 0, 0, 0, 1, 0, 0, 0, 0, 0, 0, 0] [0, 1, 3, 3, 15, 3, 3, 127, 255, 511, 1023, 2047, 2047, 2047, 16383, 2047, 2047, 98303, 2047, 524287, 1048575, 2097151, 4194303, 8388607, 8388607, 8388607, 67108863, 8388607, 8388607, 8388607, 671088639, 2147483647, 4294967295, 8589934591, 17179869183] mixed rfl (by kernel_rfl) ?_
    refine dops_run 4 (by simp only [fwA, seval, gfw, bx, dx, bitfw] <;> rfl) ?_
    refine dops_fn rfl (by simp only [fwA, seval] <;> rfl) rfl rfl en17 h17 ?_
    refine dops_run 2 (by simp only [fwA, seval, gfw, bx, dx, bitfw] <;> rfl) ?_
    refine dops_fn rfl (by simp only [fwA, seval] <;> rfl) rfl rfl en18 h18 ?_
    refine dops_run 6 (by simp only [fwA, seval, gfw, bx, dx, bitfw] <;> rfl) ?_
    refine dops_fn rfl (by simp only [fwA, seval] <;> rfl) rfl rfl en19 h19 ?_
    refine dops_run 2 (by simp only [fwA, seval, gfw, bx, dx, bitfw] <;> rfl) ?_
    refine dops_fn rfl (by simp only [fwA, seval] <;> rfl) rfl rfl en16 h16s ?_
    refine dops_run 1 (by simp only [fwA, seval, gfw, bx, dx, bitfw] <;> rfl) ?_
    refine dops_fn rfl (by simp only [fwA, seval] <;> rfl) rfl rfl en20 h20 ?_
    refine dops_run 6 (by simp only [fwA, seval, gfw, bx, dx, bitfw] <;> rfl) ?_
    refine dops_fn rfl (by simp only [fwA, seval] <;> rfl) rfl rfl en21 h21 ?_
    refine dops_run 3 (by simp only [fwA, seval, gfw, bx, dx, bitfw] <;> rfl) ?_
    refine dops_fn rfl (by simp only [fwA, seval] <;> rfl) rfl rfl en16 h16s ?_
    refine dops_fn rfl (by simp only [fwA, seval] <;> rfl) rfl rfl en22 h22 ?_
    refine dops_run 3 (by simp only [fwA, seval, gfw, bx, dx, bitfw] <;> rfl) ?_
    refine dops_end ?_
    refine awp_ret ?_
    exact gives_end (.inl rfl) _ rfl
  have hi' : i < x.length := by omega
  obtain ⟨z, hz⟩ : ∃ z, x[i]? = some z := ⟨_, List.getElem?_eq_getElem hi'⟩
  have hwi : IntKind.i64.wrap ((i : Int) + 1) = ((i + 1 : Nat) : Int) := wrapS i (by omega)
  refine awp_run rfl (by simp only [fwA, seval, gfw, bx, dx, bitfw, hc] <;> rfl) ?_
  refine awp_cond (b := true) (by simp [alook, aput, ev]) ?_
  refine awp_skip ?_
  refine awp_seq ?_
  refine awp_block ?_
  refine awp_seq ?_
  refine awp_drun [0, 0, 0, 1, 0, 0, 0, 1, 0] [0, 0, 3, 7, 0, 0, 48, 112, 255] mixed rfl (by kernel_rfl) (by simp only [fwA, seval, gfw, bx, dx, bitfw, hz] <;> rfl) ?_
  refine awp_cond (b := false) (by simp [alook, aput, ev]) (awp_skip ?_)
  refine awp_run rfl (by simp only [fwA, seval] <;> rfl) ?_
  exact ⟨i + 1, by omega, by omega, by simp only [fwA, seval, gfw, hwi], rfl, rfl⟩
end Go.Proofs.YteicbhkimepbaaaGreatDoor
