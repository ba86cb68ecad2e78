/- A law of chapter 12: of ways. -/
import Derived.Test.YteicbhkimepbaaaGreatDoorWF
namespace Go.Proofs.YteicbhkimepbaaaGreatDoor
set_option linter.unusedVariables false
set_option linter.unusedSimpArgs false
set_option maxRecDepth 100000
open Go.RowKit Fw

theorem rchB_refl (c : List Pr) (a : Int) : rchB c a a = true := rchB_iff.2 .refl
set_option maxHeartbeats 8000000 in
/- chancel/chancellaw12.ClosedReach -/
theorem c6 (Γ : Nat → PV) (hΓ : Tab64 Γ) (c : List Pr) (hl : c.length ≤ 9000000) (a b e : Int) : Gives Tryz.prog Γ 6 [.vec (c.map Pr.enc) false, .int .i64 a, .int .i64 b, .int .i64 e] (.bool true) := by
  have h23 := c23 Γ hΓ
  have h43 := c43 Γ b
  have h26a := c26 Γ c a a (by omega)
  rw [rchB_refl] at h26a
  have h26b := c26 Γ (⟨a, b⟩ :: c) a b (by rw [List.length_cons]; omega)
  rw [show rchB (⟨a, b⟩ :: c) a b = true from rchB_iff.2 (rch_one (p := ⟨a, b⟩) (by simp))] at h26b
  have h26c := c26 Γ c a e (by omega)
  have h26d := c26 Γ (⟨a, b⟩ :: c) a e (by rw [List.length_cons]; omega)
  have hmono : rchB c a e = true → rchB (⟨a, b⟩ :: c) a e = true := fun h => rchB_iff.2 (rch_mono (fun p hp => List.mem_cons_of_mem _ hp) (rchB_iff.1 h))
  have h26e := c26 Γ c a b (by omega)
  have h26f := c26 Γ c b e (by omega)
  have htr : 0 ≤ b → rchB c a b = true → rchB c b e = true → rchB c a e = true := fun h0 h1 h2 => rchB_iff.2 (rch_trans (rchB_iff.1 h1) h0 (rchB_iff.1 h2))
  have hone : ∀ p ∈ c, rchB c p.a p.b = true := fun p hp => rchB_iff.2 (rch_one hp)
  generalize hr1 : rchB c a e = r1 at *
  generalize hr2 : rchB c a b = r2 at *
  generalize hr3 : rchB c b e = r3 at *
  generalize hr4 : rchB (⟨a, b⟩ :: c) a e = r4 at *
  refine fn_of_awp Tryz.func6 rfl (by simp [Tryz.f6]) rfl fun H => ?_
  refine awp_seq ?_
  refine awp_run rfl (by simp only [fwA, seval, gfw, bx, dx, bitfw, Int.reduceEq, Int.reduceNeg, Int.reduceToNat, Int.reduceLE, Int.reduceLT] <;> rfl) ?_
  refine awp_seq ?_
  refine awp_region rfl ?_
  refine aops_fn rfl rfl rfl en23 h23 ?_
  refine aops_run 1 (by simp only [fwA, seval, gfw, bx, dx, bitfw, Int.reduceEq, Int.reduceNeg, Int.reduceToNat, Int.reduceLE, Int.reduceLT] <;> rfl) ?_
  refine aops_end ?_
  refine awp_seq ?_
  refine awp_seq ?_
  refine awp_run rfl (by simp only [fwA, seval] <;> rfl) ?_
  refine awp_cond (b := false) (by simp [alook, aput, ev]) (awp_skip ?_)
  refine awp_seq ?_
  refine awp_region rfl ?_
  refine aops_run 5 (by simp only [fwA, seval, gfw, bx, dx, bitfw, Int.reduceEq, Int.reduceNeg, Int.reduceToNat, Int.reduceLE, Int.reduceLT] <;> rfl) ?_
  refine aops_one rfl (os_appendVV rfl un26 ti70 un26 rfl (fun e he => by simp only [List.mem_cons, List.not_mem_nil, or_false] at he; subst he; rfl) rfl (fun e he => by obtain ⟨q, _, rfl⟩ := List.mem_map.1 he; rfl) (by simp only [List.length_map, List.length_cons, List.length_nil]; omega) (by simp only [List.length_map, List.length_cons, List.length_nil]; omega) ?_)
  refine aops_run 1 (by simp only [fwA, seval, gfw, bx, dx, bitfw, Int.reduceEq, Int.reduceNeg, Int.reduceToNat, Int.reduceLE, Int.reduceLT] <;> rfl) ?_
  refine aops_end ?_
  have e1 : [.int .i64 a, .int .i64 b] :: c.map Pr.enc = (⟨a, b⟩ :: c : List Pr).map Pr.enc := rfl
  refine awp_join [0, 1, 2, 3, 9] (fun _ : Unit => [.vec (c.map Pr.enc) false, .int .i64 a, .int .i64 b, .int .i64 e, .bool true]) (fun _ => H) (fun _ => True) ?_ fun _ _ => ?_
  · refine awp_keep (A' := [(0, .vec (c.map Pr.enc) false), (1, .int .i64 a), (2, .int .i64 b), (3, .int .i64 e), (9, .bool true), (10, .vec ((⟨a, b⟩ :: c : List Pr).map Pr.enc) false)]) [0, 1, 2, 3, 9, 10] (by simp only [fwA, seval, akeep] <;> rfl) ?_
    refine awp_seq ?_
    cases r1
    · refine awp_region rfl ?_
      refine aops_run 3 (by simp only [fwA, seval, gfw, bx, dx, bitfw, Int.reduceEq, Int.reduceNeg, Int.reduceToNat, Int.reduceLE, Int.reduceLT] <;> rfl) ?_
      refine aops_fn rfl rfl rfl en26 h26a ?_
      refine aops_run 5 (by simp only [fwA, seval, gfw, bx, dx, bitfw, Int.reduceEq, Int.reduceNeg, Int.reduceToNat, Int.reduceLE, Int.reduceLT] <;> rfl) ?_
      refine aops_fnIf rfl rfl rfl rfl rfl en26 h26b ?_
      refine aops_run 6 (by simp only [fwA, seval, gfw, bx, dx, bitfw, Int.reduceEq, Int.reduceNeg, Int.reduceToNat, Int.reduceLE, Int.reduceLT] <;> rfl) ?_
      refine aops_fnIf rfl rfl rfl rfl rfl en26 h26c ?_
      refine aops_run 8 (by simp only [fwA, seval, gfw, bx, dx, bitfw, Int.reduceEq, Int.reduceNeg, Int.reduceToNat, Int.reduceLE, Int.reduceLT] <;> rfl) ?_
      refine aops_end ?_
      refine awp_cond (b := false) (by simp [alook, aput, ev]) (awp_skip ?_)
      exact ⟨(), trivial, by simp only [fwA, seval, gfw], rfl, rfl⟩
    · rw [hmono rfl] at h26d
      refine awp_region rfl ?_
      refine aops_run 3 (by simp only [fwA, seval, gfw, bx, dx, bitfw, Int.reduceEq, Int.reduceNeg, Int.reduceToNat, Int.reduceLE, Int.reduceLT] <;> rfl) ?_
      refine aops_fn rfl rfl rfl en26 h26a ?_
      refine aops_run 5 (by simp only [fwA, seval, gfw, bx, dx, bitfw, Int.reduceEq, Int.reduceNeg, Int.reduceToNat, Int.reduceLE, Int.reduceLT] <;> rfl) ?_
      refine aops_fnIf rfl rfl rfl rfl rfl en26 h26b ?_
      refine aops_run 6 (by simp only [fwA, seval, gfw, bx, dx, bitfw, Int.reduceEq, Int.reduceNeg, Int.reduceToNat, Int.reduceLE, Int.reduceLT] <;> rfl) ?_
      refine aops_fnIf rfl rfl rfl rfl rfl en26 h26c ?_
      refine aops_run 4 (by simp only [fwA, seval, gfw, bx, dx, bitfw, Int.reduceEq, Int.reduceNeg, Int.reduceToNat, Int.reduceLE, Int.reduceLT] <;> rfl) ?_
      refine aops_fnIf rfl rfl rfl rfl rfl en26 h26d ?_
      refine aops_run 3 (by simp only [fwA, seval, gfw, bx, dx, bitfw, Int.reduceEq, Int.reduceNeg, Int.reduceToNat, Int.reduceLE, Int.reduceLT] <;> rfl) ?_
      refine aops_end ?_
      refine awp_cond (b := false) (by simp [alook, aput, ev]) (awp_skip ?_)
      exact ⟨(), trivial, by simp only [fwA, seval, gfw], rfl, rfl⟩
  refine awp_seq ?_
  refine awp_seq ?_
  refine awp_run rfl (by simp only [fwA, seval] <;> rfl) ?_
  refine awp_block ?_
  refine awp_for [0, 1, 2, 3, 9, 11] (fun i : Nat => [.vec (c.map Pr.enc) false, .int .i64 a, .int .i64 b, .int .i64 e, .bool true, .int .i64 (i : Int)]) (fun _ => H) (fun i => c.length - i) (fun i => i ≤ c.length) 0 rfl rfl (Nat.zero_le _) fun i hi => ?_
  refine awp_seq ?_
  refine awp_seq ?_
  by_cases hc : (i : Int) < c.length
  rotate_left
  · refine awp_run rfl (by simp only [fwA, seval, gfw, bx, dx, bitfw, Int.reduceEq, Int.reduceNeg, Int.reduceToNat, Int.reduceLE, Int.reduceLT, hc] <;> rfl) ?_
    refine awp_cond (b := false) (by simp [alook, aput, ev]) ?_
    refine awp_exit ?_
    refine awp_seq ?_
    by_cases hb : b < 0
    · refine awp_region rfl ?_
      refine aops_run 3 (by simp only [fwA, seval, gfw, bx, dx, bitfw, Int.reduceEq, Int.reduceNeg, Int.reduceToNat, Int.reduceLE, Int.reduceLT, hb] <;> rfl) ?_
      refine aops_fnIf rfl rfl rfl rfl rfl en43 h43 ?_
      refine aops_run 13 (by simp only [fwA, seval, gfw, bx, dx, bitfw, Int.reduceEq, Int.reduceNeg, Int.reduceToNat, Int.reduceLE, Int.reduceLT, hb] <;> rfl) ?_
      refine aops_run 9 (by simp only [fwA, seval, gfw, bx, dx, bitfw, Int.reduceEq, Int.reduceNeg, Int.reduceToNat, Int.reduceLE, Int.reduceLT, hb] <;> rfl) ?_
      refine aops_end ?_
      refine awp_ret ?_
      exact gives_end0 (.inl rfl) rfl
    · cases r2
      · refine awp_region rfl ?_
        refine aops_run 3 (by simp only [fwA, seval, gfw, bx, dx, bitfw, Int.reduceEq, Int.reduceNeg, Int.reduceToNat, Int.reduceLE, Int.reduceLT, hb] <;> rfl) ?_
        refine aops_fnIf rfl rfl rfl rfl rfl en43 h43 ?_
        refine aops_run 4 (by simp only [fwA, seval, gfw, bx, dx, bitfw, Int.reduceEq, Int.reduceNeg, Int.reduceToNat, Int.reduceLE, Int.reduceLT, hb] <;> rfl) ?_
        refine aops_fnIf rfl rfl rfl rfl rfl en26 h26e ?_
        refine aops_run 13 (by simp only [fwA, seval, gfw, bx, dx, bitfw, Int.reduceEq, Int.reduceNeg, Int.reduceToNat, Int.reduceLE, Int.reduceLT, hb] <;> rfl) ?_
        refine aops_run 4 (by simp only [fwA, seval, gfw, bx, dx, bitfw, Int.reduceEq, Int.reduceNeg, Int.reduceToNat, Int.reduceLE, Int.reduceLT, hb] <;> rfl) ?_
        refine aops_end ?_
        refine awp_ret ?_
        exact gives_end0 (.inl rfl) rfl
      · cases r3
        · refine awp_region rfl ?_
          refine aops_run 3 (by simp only [fwA, seval, gfw, bx, dx, bitfw, Int.reduceEq, Int.reduceNeg, Int.reduceToNat, Int.reduceLE, Int.reduceLT, hb] <;> rfl) ?_
          refine aops_fnIf rfl rfl rfl rfl rfl en43 h43 ?_
          refine aops_run 4 (by simp only [fwA, seval, gfw, bx, dx, bitfw, Int.reduceEq, Int.reduceNeg, Int.reduceToNat, Int.reduceLE, Int.reduceLT, hb] <;> rfl) ?_
          refine aops_fnIf rfl rfl rfl rfl rfl en26 h26e ?_
          refine aops_run 6 (by simp only [fwA, seval, gfw, bx, dx, bitfw, Int.reduceEq, Int.reduceNeg, Int.reduceToNat, Int.reduceLE, Int.reduceLT, hb] <;> rfl) ?_
          refine aops_fnIf rfl rfl rfl rfl rfl en26 h26f ?_
          refine aops_run 10 (by simp only [fwA, seval, gfw, bx, dx, bitfw, Int.reduceEq, Int.reduceNeg, Int.reduceToNat, Int.reduceLE, Int.reduceLT, hb] <;> rfl) ?_
          refine aops_end ?_
          refine awp_ret ?_
          exact gives_end0 (.inl rfl) rfl
        · rw [htr (by omega) rfl rfl] at h26c
          refine awp_region rfl ?_
          refine aops_run 3 (by simp only [fwA, seval, gfw, bx, dx, bitfw, Int.reduceEq, Int.reduceNeg, Int.reduceToNat, Int.reduceLE, Int.reduceLT, hb] <;> rfl) ?_
          refine aops_fnIf rfl rfl rfl rfl rfl en43 h43 ?_
          refine aops_run 4 (by simp only [fwA, seval, gfw, bx, dx, bitfw, Int.reduceEq, Int.reduceNeg, Int.reduceToNat, Int.reduceLE, Int.reduceLT, hb] <;> rfl) ?_
          refine aops_fnIf rfl rfl rfl rfl rfl en26 h26e ?_
          refine aops_run 6 (by simp only [fwA, seval, gfw, bx, dx, bitfw, Int.reduceEq, Int.reduceNeg, Int.reduceToNat, Int.reduceLE, Int.reduceLT, hb] <;> rfl) ?_
          refine aops_fnIf rfl rfl rfl rfl rfl en26 h26f ?_
          refine aops_run 6 (by simp only [fwA, seval, gfw, bx, dx, bitfw, Int.reduceEq, Int.reduceNeg, Int.reduceToNat, Int.reduceLE, Int.reduceLT, hb] <;> rfl) ?_
          refine aops_fnIf rfl rfl rfl rfl rfl en26 h26c ?_
          refine aops_run 3 (by simp only [fwA, seval, gfw, bx, dx, bitfw, Int.reduceEq, Int.reduceNeg, Int.reduceToNat, Int.reduceLE, Int.reduceLT, hb] <;> rfl) ?_
          refine aops_end ?_
          refine awp_ret ?_
          exact gives_end0 (.inl rfl) rfl
  have hi' : i < c.length := by omega
  obtain ⟨z, hz⟩ : ∃ z, c[i]? = some z := ⟨_, List.getElem?_eq_getElem hi'⟩
  have hwi : IntKind.i64.wrap ((i : Int) + 1) = ((i + 1 : Nat) : Int) := wrapS i (by omega)
  have h26z := c26 Γ c z.a z.b (by omega)
  rw [hone z (List.mem_of_getElem? hz)] at h26z
  refine awp_run rfl (by simp only [fwA, seval, gfw, bx, dx, bitfw, Int.reduceEq, Int.reduceNeg, Int.reduceToNat, Int.reduceLE, Int.reduceLT, hc] <;> rfl) ?_
  refine awp_cond (b := true) (by simp [alook, aput, ev]) ?_
  refine awp_skip ?_
  refine awp_seq ?_
  refine awp_block ?_
  refine awp_seq ?_
  refine awp_drawn [0, 0, 0, 0, 0, 1, 0, 0, 0, 0, 1, 0, 0] [0, 0, 0, 6, 14, 30, 0, 0, 192, 448, 960, 2047, 4095] mixed rfl (by kernel_rfl) ?_
  refine dops_run 11 (by simp only [fwA, seval, gfw, bx, dx, bitfw, Int.reduceEq, Int.reduceNeg, Int.reduceToNat, Int.reduceLE, Int.reduceLT, hz] <;> rfl) ?_
  refine dops_fn rfl (by simp only [fwA, seval] <;> rfl) rfl rfl en26 h26z ?_
  refine dops_run 1 (by simp only [fwA, seval, gfw, bx, dx, bitfw, Int.reduceEq, Int.reduceNeg, Int.reduceToNat, Int.reduceLE, Int.reduceLT, hz] <;> rfl) ?_
  refine dops_end ?_
  refine awp_cond (b := false) (by simp [alook, aput, ev]) (awp_skip ?_)
  refine awp_run rfl (by simp only [fwA, seval] <;> rfl) ?_
  exact ⟨i + 1, by omega, by omega, by simp only [fwA, seval, gfw, hwi], rfl, rfl⟩
end Go.Proofs.YteicbhkimepbaaaGreatDoor
