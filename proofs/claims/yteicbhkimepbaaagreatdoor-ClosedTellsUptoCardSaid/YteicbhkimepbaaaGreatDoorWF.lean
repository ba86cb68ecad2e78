/- The document's Reach. -/
import Derived.Test.YteicbhkimepbaaaGreatDoorWE
import Derived.Test.YteicbhkimepbaaaGreatDoorWD
import Derived.Test.YteicbhkimepbaaaGreatDoorWC
namespace Go.Proofs.YteicbhkimepbaaaGreatDoor
set_option linter.unusedVariables false
set_option linter.unusedSimpArgs false
set_option maxRecDepth 100000
open Go.RowKit Fw
section
variable {P : Program} {Γ : Nat → PV} {ops : Array Oper} {cls : List Nat} {n0 : View}
theorem dops_lent {i : Nat} {o : Oper} {K : List (Nat × PV) → List Blk → Prop} {rest : List (Nat × Oper)} {A : List (Nat × PV)} {H : List Blk} {x : Operand} {args : Array Operand} {ts : Array TypeId} {f : FuncId} {fs cs : List PV} {p : PV}
    (ho : o.op = .call { callee := .value x, args := args, argTypes := ts }) (hw : wantA ops A o = some true) (hc : cls.getD i 0 = 1) (hx : ev Γ A x = .func (.func f) fs cs) (he : Enters P f)
    (h : ACalls P Γ f (fs ++ args.toList.map (ev Γ A) ++ cs) H (fun q H1 => q = p ∧ H1 = H)) (hk : DOps P Γ ops cls n0 K rest (aput A o.dst p) H) : DOps P Γ ops cls n0 K ((i, o) :: rest) A H :=
  dops_reads p hw hc (fun A' hev => by
    have hops : ∀ y, y = x ∨ y ∈ args → ev Γ A' y = ev Γ A y := fun y hy => hev y (by
      rw [ho]
      simp only [Op.operands, Call.operands, Array.mem_append]
      rcases hy with rfl | hy
      · exact .inl (by simp)
      · exact .inr hy)
    refine os_call ho (by rw [hops x (.inl rfl)]; exact hx) he ?_
    rw [List.map_congr_left (l := args.toList) fun y hy => hops y (.inr (by simpa using hy))]
    exact h) hk
end
theorem c75 (Γ : Nat → PV) (l : List Int) (n : Int) : Gives Tryz.prog Γ 75 [.vec (l.map I1) false, .int .i64 n] (.bool (l.contains n)) := by
  refine fn_of_awp Tryz.func75 rfl (by simp [Tryz.f75]) rfl fun H => ?_
  refine awp_seq ?_
  refine awp_run rfl (by simp only [fwA, seval] <;> rfl) ?_
  refine awp_seq ?_
  refine awp_seq ?_
  refine awp_run rfl (by simp only [fwA, seval] <;> rfl) ?_
  refine awp_block ?_
  refine awp_for [0, 1, 4, 5] (fun i : Nat => [.vec (l.map I1) false, .int .i64 n, .bool false, .int .i64 (i : Int)]) (fun _ => H) (fun i => l.length - i) (fun i => i ≤ l.length ∧ n ∉ l.take i) 0 rfl rfl ⟨Nat.zero_le _, by simp⟩ fun i ⟨hi, hn⟩ => ?_
  refine awp_vlen 0 rfl fun hl => ?_
  rw [List.length_map] at hl
  refine awp_seq ?_
  refine awp_seq ?_
  by_cases hc : (i : Int) < l.length
  rotate_left
  · refine awp_run rfl (by simp only [fwA, seval, gfw, bx, dx, bitfw, hc] <;> rfl) ?_
    refine awp_cond (b := false) (by simp [alook, aput, ev]) ?_
    refine awp_exit ?_
    have e : l.contains n = false := by
      rw [List.take_of_length_le (by omega)] at hn
      simpa using hn
    refine awp_seq ?_
    refine awp_run rfl (by simp only [fwA, seval] <;> rfl) ?_
    rw [e]
    refine awp_ret ?_
    exact gives_end0 (.inl rfl) rfl
  have hi' : i < l.length := by omega
  obtain ⟨z, hz⟩ : ∃ z, l[i]? = some z := ⟨_, List.getElem?_eq_getElem hi'⟩
  have hts := take_snoc hz
  have hwi : IntKind.i64.wrap ((i : Int) + 1) = ((i + 1 : Nat) : Int) := wrapS i (by omega)
  refine awp_run rfl (by simp only [fwA, seval, gfw, bx, dx, bitfw, hc] <;> rfl) ?_
  refine awp_cond (b := true) (by simp [alook, aput, ev]) ?_
  refine awp_skip ?_
  refine awp_seq ?_
  refine awp_block ?_
  refine awp_seq ?_
  by_cases he : z = n
  · have hdx : decide (z = n) = true := decide_eq_true he
    have e : l.contains n = true := by rw [List.contains_iff_mem]; exact he ▸ List.mem_of_getElem? hz
    refine awp_run rfl (by simp only [fwA, seval, gfw, bx, dx, bitfw, hz, hdx] <;> rfl) ?_
    refine awp_cond (b := true) (by simp [alook, aput, ev]) ?_
    refine awp_seq ?_
    refine awp_run rfl (by simp only [fwA, seval] <;> rfl) ?_
    rw [e]
    refine awp_ret ?_
    exact gives_end0 (.inl rfl) rfl
  · refine awp_run rfl (by simp only [fwA, seval, gfw, bx, dx, bitfw, hz, he] <;> rfl) ?_
    refine awp_cond (b := false) (by simp [alook, aput, ev]) (awp_skip ?_)
    refine awp_run rfl (by simp only [fwA, seval] <;> rfl) ?_
    exact ⟨i + 1, by omega, ⟨by omega, by rw [hts, List.mem_append, List.mem_singleton]; exact fun h => h.elim hn fun h => he h.symm⟩, by simp only [fwA, seval, gfw, hwi], rfl, rfl⟩
theorem has_row (Γ : Nat → PV) {H : List Blk} {b : Nat} {l : List Int} (n : Int) (hb : H[b]? = some (.row 1 ((l.map I1).flatten))) : ACalls Tryz.prog Γ 75 [.row b 0 l.length 1, .int .i64 n] H (fun q H' => q = .bool (l.contains n) ∧ H' = H) := by
  refine acalls_lent (c75 Γ l n) rfl rfl fun i a a' h1 h2 => ?_
  match i with
  | 0 =>
    cases h1; cases h2
    refine ⟨_, hb, flat_bd (fun t => by simp only [I1_fw]) _, by rw [flat_len I1_fw.1]; omega, ?_⟩
    rw [List.drop_zero, flat_chunk I1_fw.1]
  | 1 => cases h1; cases h2; exact ⟨rfl, rfl⟩
  | k + 2 => cases h1
def inm (c : List Pr) (m : List Int) (x : Int) (k : Nat) : List Int := ((c.take k).filter fun p => decide (p.a = x)).foldl addB m
theorem inm_succ {c : List Pr} {m : List Int} {x : Int} {k : Nat} {p : Pr} (h : c[k]? = some p) : inm c m x (k + 1) = if p.a = x ∧ p.b ∉ inm c m x k then inm c m x k ++ [p.b] else inm c m x k := by
  unfold inm
  rw [take_snoc h, List.filter_append]
  by_cases e : p.a = x
  · rw [show ([p].filter fun p => decide (p.a = x)) = [p] by simp [e], List.foldl_append, List.foldl_cons, List.foldl_nil]
    generalize ((c.take k).filter fun p => decide (p.a = x)).foldl addB m = M
    unfold addB
    by_cases e2 : p.b ∈ M
    · rw [if_pos e2, if_neg (fun h => h.2 e2)]
    · rw [if_neg e2, if_pos ⟨e, e2⟩]
  · rw [show ([p].filter fun p => decide (p.a = x)) = [] by simp [e], List.append_nil, if_neg (fun h => e h.1)]
theorem inm_len {c : List Pr} {m : List Int} {x : Int} : ∀ k, k ≤ c.length → (inm c m x k).length ≤ m.length + k
  | 0, _ => by simp [inm]
  | k + 1, h => by
    have h1 := inm_len (c := c) (m := m) (x := x) k (by omega)
    rw [inm_succ (List.getElem?_eq_getElem (show k < c.length by omega))]
    split
    · rw [List.length_append]; simp; omega
    · omega
theorem bfs_head (c : List Pr) (a : Int) (i : Nat) : ∃ r, bfs c a i = a :: r := by
  obtain ⟨r, e⟩ := bfs_le c a 0 i
  rw [Nat.zero_add] at e
  exact ⟨r, by rw [e]; rfl⟩
theorem bfs_at0 {c : List Pr} {a : Int} {i : Nat} {x : Int} (h : (bfs c a i)[i]? = some x) (h0 : x = a) : i = 0 := by
  obtain ⟨r, e⟩ := bfs_head c a i
  have hn := bfs_nodup c a i
  rw [e] at h hn
  match i with
  | 0 => rfl
  | j + 1 =>
    rw [List.getElem?_cons_succ] at h
    have := List.mem_of_getElem? h
    rw [h0] at this
    exact absurd this (List.nodup_cons.1 hn).1
set_option maxHeartbeats 8000000 in
theorem c76 (Γ : Nat → PV) (c : List Pr) (a : Int) (hl : c.length ≤ 10000000) : Gives Tryz.prog Γ 76 [.vec (c.map Pr.enc) false, .int .i64 a] (.vec ((abv c a).map I1) false) := by
  refine fn_of_awp Tryz.func76 rfl (by simp [Tryz.f76]) rfl fun H => ?_
  refine awp_seq ?_
  refine awp_run rfl (by simp only [fwA, seval] <;> rfl) ?_
  refine awp_seq ?_
  refine awp_region rfl ?_
  refine aops_run 1 (by simp only [fwA, seval, gfw, bx, dx, bitfw] <;> rfl) ?_
  refine aops_one rfl (os_bsliceR rfl un59 ti3 (by decide) (by decide) rfl ?_)
  refine aops_run 1 (by simp only [fwA, seval, gfw, bx, dx, bitfw] <;> rfl) ?_
  refine aops_end ?_
  refine awp_heap (H' := H ++ [.row 1 (((bfs c a 0).map I1).flatten)]) (by simp [bfs, I1]) ?_
  refine awp_seq ?_
  refine awp_seq ?_
  refine awp_run rfl (by simp only [fwA, seval] <;> rfl) ?_
  refine awp_block ?_
  refine awp_for [0, 1, 5, 6] (fun i : Nat => [.vec (c.map Pr.enc) false, .int .i64 a, .row H.length 0 (bfs c a i).length 1, .int .i64 (i : Int)]) (fun i => H ++ [.row 1 (((bfs c a i).map I1).flatten)]) (fun i => c.length + 1 - i) (fun i => i ≤ (bfs c a i).length) 0 rfl rfl (Nat.zero_le _) fun i hi => ?_
  have hml := bfs_len c a i
  have gr : ∀ B : Blk, (H ++ [B])[H.length]? = some B := fun B => by rw [Fw.get_at0]; rfl
  refine awp_seq ?_
  refine awp_seq ?_
  by_cases hc : (i : Int) < ((bfs c a i).length : Int)
  rotate_left
  · refine awp_run rfl (by simp only [fwA, seval, gfw, bx, dx, bitfw, hc] <;> rfl) ?_
    refine awp_cond (b := false) (by simp [alook, aput, ev]) ?_
    refine awp_exit ?_
    have hi2 : (bfs c a i).length ≤ i := by omega
    rw [abv_eq hi2]
    refine awp_told (told_freezeAt H _ 0 (C := ((abv c a).map I1).flatten) rfl (flat_bd (fun t => by simp only [I1_fw]) _)) ?_
    have hl1 := flat_len I1_fw.1 (abv c a)
    have hch := flat_chunk I1_fw.1 (abv c a)
    refine awp_keep (A' := [(5, .vec ((abv c a).map I1) false)]) [5] (by simp only [fwA, seval, gfw, akeep, hl1, hch] <;> rfl) ?_
    refine awp_seq ?_
    refine awp_run rfl (by simp only [fwA, seval] <;> rfl) ?_
    refine awp_ret ?_
    exact gives_end (.inl rfl) _ rfl
  have hi2 : i < (bfs c a i).length := by omega
  obtain ⟨x, hx⟩ : ∃ x, (bfs c a i)[i]? = some x := ⟨_, List.getElem?_eq_getElem hi2⟩
  have hwi : IntKind.i64.wrap ((i : Int) + 1) = ((i + 1 : Nat) : Int) := wrapS i (by omega)
  refine awp_run rfl (by simp only [fwA, seval, gfw, bx, dx, bitfw, hc] <;> rfl) ?_
  refine awp_cond (b := true) (by simp [alook, aput, ev]) ?_
  refine awp_skip ?_
  refine awp_join [0, 1, 5, 6] (fun _ : Unit => [.vec (c.map Pr.enc) false, .int .i64 a, .row H.length 0 (bfs c a (i + 1)).length 1, .int .i64 (i : Int)]) (fun _ => H ++ [.row 1 (((bfs c a (i + 1)).map I1).flatten)]) (fun _ => True) ?_ fun _ _ => ?_
  · refine awp_block ?_
    refine awp_join [0, 1, 5, 6] (fun _ : Unit => [.vec (c.map Pr.enc) false, .int .i64 a, .row H.length 0 (bfs c a i).length 1, .int .i64 (i : Int)]) (fun _ => H ++ [.row 1 (((bfs c a i).map I1).flatten)]) (fun _ => ¬ (x < 0 ∧ x ≠ a)) ?_ fun _ hpt => ?_
    · refine awp_seq ?_
      by_cases hi0 : (0 : Int) < i
      · have hxa : x ≠ a := fun e => by have := bfs_at0 hx e; omega
        by_cases hx0 : x < 0
        · have eb : bfs c a (i + 1) = bfs c a i := by rw [bfs, hx]; simp only; rw [if_pos ⟨hx0, hxa⟩]
          refine awp_region rfl ?_
          refine aops_run 5 (by simp only [fwA, seval, gfw, bx, dx, bitfw, hi0, hx0] <;> rfl) ?_
          refine aops_if rfl rfl rfl (os_idxRow (i := i) (l := bfs c a i) I1_fw.1 rfl el59 rfl rfl (gr _) (by omega) hi2 ?_)
          refine aops_if rfl rfl rfl (os_loadRow (i := i) (l := bfs c a i) (y := x) (p := .int .i64 x) I1_fw.1 rfl ti3 rfl (gr _) (by omega) rfl hx rfl (by rw [if_neg (by decide)]; rfl) ?_)
          refine aops_run 2 (by simp only [fwA, seval, gfw, bx, dx, bitfw, hi0, hx0] <;> rfl) ?_
          refine aops_end ?_
          refine awp_cond (b := true) (by simp [alook, aput, ev]) ?_
          refine awp_exit ?_
          exact ⟨(), trivial, by simp only [fwA, seval, gfw, eb], by simp only [eb], rfl⟩
        · have hx1 := hx0
          refine awp_region rfl ?_
          refine aops_run 5 (by simp only [fwA, seval, gfw, bx, dx, bitfw, hi0, hx0] <;> rfl) ?_
          refine aops_if rfl rfl rfl (os_idxRow (i := i) (l := bfs c a i) I1_fw.1 rfl el59 rfl rfl (gr _) (by omega) hi2 ?_)
          refine aops_if rfl rfl rfl (os_loadRow (i := i) (l := bfs c a i) (y := x) (p := .int .i64 x) I1_fw.1 rfl ti3 rfl (gr _) (by omega) rfl hx rfl (by rw [if_neg (by decide)]; rfl) ?_)
          refine aops_run 2 (by simp only [fwA, seval, gfw, bx, dx, bitfw, hi0, hx0] <;> rfl) ?_
          refine aops_end ?_
          refine awp_cond (b := false) (by simp [alook, aput, ev]) (awp_skip ?_)
          exact ⟨(), fun h => hx0 h.1, by simp only [fwA, seval, gfw], rfl, rfl⟩
      · have hi00 : i = 0 := by omega
        refine awp_run rfl (by simp only [fwA, seval, gfw, bx, dx, bitfw, hi0] <;> rfl) ?_
        refine awp_cond (b := false) (by simp [alook, aput, ev]) (awp_skip ?_)
        refine ⟨(), fun h => ?_, by simp only [fwA, seval, gfw], rfl, rfl⟩
        rw [hi00] at hx
        have : a = x := by simpa [bfs] using hx
        exact h.2 this.symm
    have eb : bfs c a (i + 1) = inm c (bfs c a i) x c.length := by
      rw [bfs, hx]; simp only; rw [if_neg hpt]
      unfold expd inm
      rw [List.take_length]
    refine awp_seq ?_
    refine awp_run rfl (by simp only [fwA, seval] <;> rfl) ?_
    refine awp_block ?_
    refine awp_for [0, 1, 5, 6, 7] (fun k : Nat => [.vec (c.map Pr.enc) false, .int .i64 a, .row H.length 0 (inm c (bfs c a i) x k).length 1, .int .i64 (i : Int), .int .i64 (k : Int)]) (fun k => H ++ [.row 1 (((inm c (bfs c a i) x k).map I1).flatten)]) (fun k => c.length - k) (fun k => k ≤ c.length) 0 rfl rfl (Nat.zero_le _) fun k hk => ?_
    refine awp_seq ?_
    refine awp_seq ?_
    by_cases hc : (k : Int) < c.length
    rotate_left
    · refine awp_run rfl (by simp only [fwA, seval, gfw, bx, dx, bitfw, hc] <;> rfl) ?_
      refine awp_cond (b := false) (by simp [alook, aput, ev]) ?_
      refine awp_exit ?_
      have ek : k = c.length := by omega
      exact ⟨(), trivial, by simp only [fwA, seval, gfw, eb, ek], by simp only [eb, ek], rfl⟩
    have hk' : k < c.length := by omega
    obtain ⟨p, hz⟩ : ∃ p, c[k]? = some p := ⟨_, List.getElem?_eq_getElem hk'⟩
    have hin := inm_len (c := c) (m := bfs c a i) (x := x) k hk
    have hxk : (inm c (bfs c a i) x k)[i]? = some x := by
      obtain ⟨r, e⟩ := foldB_pre ((c.take k).filter fun p => decide (p.a = x)) (bfs c a i)
      unfold inm
      rw [e, List.getElem?_append_left hi2, hx]
    have hsuc := inm_succ (m := bfs c a i) (x := x) hz
    generalize inm c (bfs c a i) x k = M at *
    have hiM : i < M.length := (List.getElem?_eq_some_iff.1 hxk).1
    have hwk : IntKind.i64.wrap ((k : Int) + 1) = ((k + 1 : Nat) : Int) := wrapS k (by omega)
    refine awp_run rfl (by simp only [fwA, seval, gfw, bx, dx, bitfw, hc] <;> rfl) ?_
    refine awp_cond (b := true) (by simp [alook, aput, ev]) ?_
    refine awp_skip ?_
    refine awp_join [0, 1, 5, 6, 7] (fun _ : Unit => [.vec (c.map Pr.enc) false, .int .i64 a, .row H.length 0 (inm c (bfs c a i) x (k + 1)).length 1, .int .i64 (i : Int), .int .i64 (k : Int)]) (fun _ => H ++ [.row 1 (((inm c (bfs c a i) x (k + 1)).map I1).flatten)]) (fun _ => True) ?_ fun _ _ => ?_
    · refine awp_block ?_
      refine awp_seq ?_
      by_cases hpa : p.a = x
      · have hdx : decide (p.a = x) = true := decide_eq_true hpa
        by_cases hpb : p.b ∈ M
        · have hcn : M.contains p.b = true := by rw [List.contains_iff_mem]; exact hpb
          have en : inm c (bfs c a i) x (k + 1) = M := by rw [hsuc, if_neg (fun h => h.2 hpb)]
          refine awp_drawn [0,0,0,0,0,0,0,1,1,0,0,0,0,0,0,0,0,1,0,0] [0, 0, 3, 7, 15, 0, 0, 96, 224, 511, 1023, 2047, 2047, 2047, 14335, 30719, 63487, 131071, 262143, 524287] mixed rfl (by kernel_rfl) ?_
          refine dops_run 7 (by simp only [fwA, seval, gfw, bx, dx, bitfw, hz, hdx, hcn] <;> rfl) ?_
          refine dops_idxRow (i := i) (l := M) I1_fw.1 rfl rfl rfl el59 rfl rfl (gr _) (by omega) hiM ?_
          refine dops_loadRow (i := i) (l := M) (y := x) (.int .i64 x) I1_fw.1 rfl rfl rfl ti3 rfl (gr _) (by omega) rfl hxk rfl (by rw [if_neg (by decide)]; rfl) ?_
          refine dops_run 8 (by simp only [fwA, seval, gfw, bx, dx, bitfw, hz, hdx, hcn] <;> rfl) ?_
          refine dops_lent (p := .bool (M.contains p.b)) rfl (by simp only [fwA, seval] <;> rfl) rfl rfl en75 (has_row Γ p.b (gr _)) ?_
          refine dops_run 2 (by simp only [fwA, seval, gfw, bx, dx, bitfw, hz, hdx, hcn] <;> rfl) ?_
          refine dops_end ?_
          refine awp_cond (b := false) (by simp [alook, aput, ev, hcn]) (awp_skip ?_)
          exact ⟨(), trivial, by simp only [fwA, seval, gfw, en], by simp only [en], rfl⟩
        · have hcn : M.contains p.b = false := by simpa using hpb
          have en : inm c (bfs c a i) x (k + 1) = M ++ [p.b] := by rw [hsuc, if_pos ⟨hpa, hpb⟩]
          refine awp_drawn [0,0,0,0,0,0,0,1,1,0,0,0,0,0,0,0,0,1,0,0] [0, 0, 3, 7, 15, 0, 0, 96, 224, 511, 1023, 2047, 2047, 2047, 14335, 30719, 63487, 131071, 262143, 524287] mixed rfl (by kernel_rfl) ?_
          refine dops_run 7 (by simp only [fwA, seval, gfw, bx, dx, bitfw, hz, hdx, hcn] <;> rfl) ?_
          refine dops_idxRow (i := i) (l := M) I1_fw.1 rfl rfl rfl el59 rfl rfl (gr _) (by omega) hiM ?_
          refine dops_loadRow (i := i) (l := M) (y := x) (.int .i64 x) I1_fw.1 rfl rfl rfl ti3 rfl (gr _) (by omega) rfl hxk rfl (by rw [if_neg (by decide)]; rfl) ?_
          refine dops_run 8 (by simp only [fwA, seval, gfw, bx, dx, bitfw, hz, hdx, hcn] <;> rfl) ?_
          refine dops_lent (p := .bool (M.contains p.b)) rfl (by simp only [fwA, seval] <;> rfl) rfl rfl en75 (has_row Γ p.b (gr _)) ?_
          refine dops_run 2 (by simp only [fwA, seval, gfw, bx, dx, bitfw, hz, hdx, hcn] <;> rfl) ?_
          refine dops_end ?_
          refine awp_cond (b := true) (by simp [alook, aput, ev, hcn]) ?_
          refine awp_region rfl ?_
          refine aops_run 7 (by simp only [fwA, seval, gfw, bx, dx, bitfw, hz] <;> rfl) ?_
          refine aops_push (enc := I1) (l := M) (z := p.b) I1_fw.1 rfl rfl un59 ti3 rfl un59 rfl (gr _) rfl rfl (by show (M.length + 1) * 8 ≤ _; omega) (by omega) rfl ?_
          refine aops_run 1 (by simp only [fwA, seval, gfw, bx, dx, bitfw, hz] <;> rfl) ?_
          refine aops_end ?_
          exact ⟨(), trivial, by simp only [fwA, seval, gfw, en, List.length_append, List.length_cons, List.length_nil], by simp [en, Fw.set_at0], rfl⟩
      · have en : inm c (bfs c a i) x (k + 1) = M := by rw [hsuc, if_neg (fun h => hpa h.1)]
        refine awp_drawn [0,0,0,0,0,0,0,1,1,0,0,0,0,0,0,0,0,1,0,0] [0, 0, 3, 7, 15, 0, 0, 96, 224, 511, 1023, 2047, 2047, 2047, 14335, 30719, 63487, 131071, 262143, 524287] mixed rfl (by kernel_rfl) ?_
        refine dops_run 7 (by simp only [fwA, seval, gfw, bx, dx, bitfw, hz, hpa] <;> rfl) ?_
        refine dops_idxRow (i := i) (l := M) I1_fw.1 rfl rfl rfl el59 rfl rfl (gr _) (by omega) hiM ?_
        refine dops_loadRow (i := i) (l := M) (y := x) (.int .i64 x) I1_fw.1 rfl rfl rfl ti3 rfl (gr _) (by omega) rfl hxk rfl (by rw [if_neg (by decide)]; rfl) ?_
        refine dops_run 11 (by simp only [fwA, seval, gfw, bx, dx, bitfw, hz, hpa] <;> rfl) ?_
        refine dops_end ?_
        refine awp_cond (b := false) (by simp [alook, aput, ev]) (awp_skip ?_)
        exact ⟨(), trivial, by simp only [fwA, seval, gfw, en], by simp only [en], rfl⟩
    refine awp_run rfl (by simp only [fwA, seval] <;> rfl) ?_
    exact ⟨k + 1, by omega, by omega, by simp only [fwA, seval, gfw, hwk], rfl, rfl⟩
  have hnx : i + 1 ≤ (bfs c a (i + 1)).length := by
    obtain ⟨r, e⟩ := bfs_pre c a i
    rw [e, List.length_append]; omega
  refine awp_run rfl (by simp only [fwA, seval] <;> rfl) ?_
  exact ⟨i + 1, by omega, hnx, by simp only [fwA, seval, gfw, hwi], rfl, rfl⟩
theorem c27 (Γ : Nat → PV) (c : List Pr) (a b : Int) (hl : c.length ≤ 10000000) : Gives Tryz.prog Γ 27 [.vec (c.map Pr.enc) false, .int .i64 a, .int .i64 b] (.bool (rchB c a b)) := by
  have h76 := c76 Γ c a hl
  have h75 := c75 Γ (abv c a) b
  refine fn_of_awp Tryz.func27 rfl (by simp [Tryz.f27]) rfl fun H => ?_
  refine awp_seq ?_
  refine awp_run rfl (by simp only [fwA, seval] <;> rfl) ?_
  refine awp_seq ?_
  refine awp_region rfl ?_
  refine aops_run 2 (by simp only [fwA, seval, gfw, bx, dx, bitfw] <;> rfl) ?_
  refine aops_fn rfl rfl rfl en76 h76 ?_
  refine aops_run 1 (by simp only [fwA, seval, gfw, bx, dx, bitfw] <;> rfl) ?_
  refine aops_fn rfl rfl rfl en75 h75 ?_
  refine aops_run 1 (by simp only [fwA, seval, gfw, bx, dx, bitfw] <;> rfl) ?_
  refine aops_end ?_
  refine awp_ret ?_
  exact gives_end0 (.inl rfl) rfl
end Go.Proofs.YteicbhkimepbaaaGreatDoor
namespace Go.Proofs.YteicbhkimepbaaaGreatDoor
set_option linter.unusedVariables false
set_option linter.unusedSimpArgs false
set_option maxRecDepth 100000
open Go.RowKit Fw
theorem find1_cons (a : Int) (x : Int × PV) (es : List (Int × PV)) (i : Nat) : find1 a (x :: es) i = if a = x.1 then some (i, x.2) else find1 a es (i + 1) := rfl
theorem find1_ge {a : Int} : ∀ {es : List (Int × PV)} {j k : Nat} {w : PV}, find1 a es j = some (k, w) → j ≤ k
  | [], _, _, _, h => by cases h
  | z :: es, j, k, w, h => by
    rw [find1_cons] at h
    split at h
    · cases h; exact Nat.le_refl _
    · have := find1_ge h; omega
theorem find1_set {a : Int} {v : PV} : ∀ {es : List (Int × PV)} {k i : Nat} {v0 : PV}, find1 a es i = some (i + k, v0) → ∀ y, find1 y (es.set k (a, v)) i = if y = a then some (i + k, v) else find1 y es i
  | [], k, i, v0, h, y => by cases h
  | x :: es, 0, i, v0, h, y => by
    have hx : a = x.1 := by
      rw [find1_cons] at h
      by_cases e : a = x.1
      · exact e
      · rw [if_neg e] at h
        have := find1_ge h
        omega
    rw [List.set_cons_zero, find1_cons, find1_cons]
    by_cases e : y = a
    · rw [if_pos e, if_pos e]; rfl
    · rw [if_neg e, if_neg e, if_neg (fun h => e (h.trans hx.symm))]
  | x :: es, k + 1, i, v0, h, y => by
    rw [List.set_cons_succ, find1_cons, find1_cons]
    rw [find1_cons] at h
    by_cases e : a = x.1
    · rw [if_pos e] at h
      have := congrArg (Option.map (·.1)) h
      simp at this
    · rw [if_neg e, show i + (k + 1) = i + 1 + k by omega] at h
      have ih := find1_set (v := v) h y
      by_cases e2 : y = x.1
      · rw [if_pos e2, if_neg (fun h => e (h.symm.trans e2)), if_pos e2]
      · rw [if_neg e2, ih, if_neg e2, show i + 1 + k = i + (k + 1) by omega]
theorem find1_snoc {a : Int} {v : PV} : ∀ {es : List (Int × PV)} {i : Nat}, find1 a es i = none → ∀ y, find1 y (es ++ [(a, v)]) i = if y = a then some (i + es.length, v) else find1 y es i
  | [], i, _, y => by
    rw [List.nil_append, find1_cons]; rfl
  | x :: es, i, h, y => by
    rw [find1_cons] at h
    by_cases e : a = x.1
    · rw [if_pos e] at h; cases h
    · rw [if_neg e] at h
      have ih := find1_snoc (v := v) h y
      rw [List.cons_append, find1_cons, find1_cons]
      by_cases e2 : y = x.1
      · rw [if_pos e2, if_neg (fun h => e (h.symm.trans e2)), if_pos e2]
      · rw [if_neg e2, if_neg e2, ih, List.length_cons, show i + 1 + es.length = i + (es.length + 1) by omega]
def MetOk (es : List (Int × PV)) (m : List Int) (T : Nat) : Prop := ∀ x : Int, (find1 x es 0 = none ∧ x ∉ m) ∨ ∃ (k n : Nat), find1 x es 0 = some (k, .int .i64 (n : Int)) ∧ 1 ≤ n ∧ n ≤ T ∧ x ∈ m
theorem met_one (a : Int) : MetOk [(a, .int .i64 1)] [a] 1 := fun x => by
  by_cases e : x = a
  · exact .inr ⟨0, 1, by unfold find1; rw [if_pos e]; rfl, Nat.le_refl _, Nat.le_refl _, by simp [e]⟩
  · exact .inl ⟨by unfold find1; rw [if_neg e]; rfl, by simpa using e⟩
theorem met_more {es : List (Int × PV)} {m : List Int} {T T' : Nat} (h : MetOk es m T) (hT : T ≤ T') : MetOk es m T' := fun x => (h x).imp id fun ⟨k, n, h1, h2, h3, h4⟩ => ⟨k, n, h1, h2, by omega, h4⟩
def metTo (es : List (Int × PV)) (y : Int) : List (Int × PV) := match find1 y es 0 with
  | none => es ++ [(y, .int .i64 1)]
  | some (k, .int _ n) => es.set k (y, .int .i64 (n + 1))
  | some (k, _) => es
theorem met_step {es : List (Int × PV)} {m : List Int} {T : Nat} (h : MetOk es m T) (p : Pr) : MetOk (metTo es p.b) (addB m p) (T + 1) := fun x => by
  unfold metTo addB
  rcases h p.b with ⟨h1, h2⟩ | ⟨k, n, h1, h2, h3, h4⟩
  · rw [h1, if_neg h2]
    simp only
    rw [find1_snoc h1]
    by_cases e : x = p.b
    · exact .inr ⟨_, 1, by rw [if_pos e]; rfl, Nat.le_refl _, by omega, by simp [e]⟩
    · rw [if_neg e]
      rcases h x with ⟨g1, g2⟩ | ⟨k, n, g1, g2, g3, g4⟩
      · exact .inl ⟨g1, by simp [g2, e]⟩
      · exact .inr ⟨k, n, g1, g2, by omega, by simp [g4]⟩
  · rw [h1, if_pos h4]
    simp only
    rw [find1_set (v := .int .i64 ((n : Int) + 1)) (by rw [Nat.zero_add]; exact h1)]
    by_cases e : x = p.b
    · exact .inr ⟨_, n + 1, by rw [if_pos e]; rfl, by omega, by omega, e ▸ h4⟩
    · rw [if_neg e]
      exact met_more h (Nat.le_succ _) x
theorem met_bd {es : List (Int × PV)} (h : (es.all fun x => x.2.bd 0) = true) (n : Nat) : (Blk.map (es.map enc1)).bd n = true := by
  unfold Blk.bd
  rw [List.all_eq_true] at h ⊢
  intro e he
  obtain ⟨x, hx, rfl⟩ := List.mem_map.1 he
  have := PV.bd_mono (Nat.zero_le n) _ (h x hx)
  show (true && x.2.bd n) = true
  rw [this]; rfl
theorem zero3 : zero1 Tryz.prog 3 = some (.int .i64 0) := by kernel_rfl
set_option maxHeartbeats 16000000 in
theorem c114 (Γ : Nat → PV) (ba bg gm : Nat) (a : Int) (c : List Pr) (g : List (Int × PV)) (hg : GraphOk c g) (hl : c.length ≤ 10000000) : AIterS Tryz.prog Γ 114 [.ptr ba 0, .ptr bg 0] (fun Hb => (Hb[ba]? = some (.box [.int .i64 a]) ∧ Hb[bg]? = some (.box [.map gm]) ∧ Hb[gm]? = some (.map (g.map enc1))) ∧ ∀ B ∈ Hb, B.bd Hb.length = true) 1 (fun Stop => ∀ Hb, Stop Hb → ∀ B ∈ Hb, B.bd Hb.length = true) ((abv c a).map I1) := by
  intro l n0 Inv Stop hSt hI Hb hInv
  refine acalls_of_awp Tryz.func114 rfl (by simp [Tryz.f114]) fun hbd => ?_
  obtain ⟨⟨⟨hN1, hN2, hN3⟩, _⟩, hn0, _⟩ := hI 0 Hb hInv
  refine awp_seq ?_
  refine awp_region rfl ?_
  refine aops_one rfl (os_makeMap rfl ?_)
  have hmap0 : (Hb ++ [Blk.map []])[Hb.length]? = some (.map []) := Fw.get_at0 _ _
  have ga0 : ∀ L, (Hb ++ L)[ba]? = some (.box [.int .i64 a]) := fun L => Fw.get_old L hN1
  refine aops_run 1 (by simp only [fwA, seval, gfw, bx, dx, bitfw, ga0] <;> rfl) ?_
  refine aops_one rfl (os_mapUpdate (r := none) (.inr rfl) un91 un28 rfl rfl hmap0 rfl ?_)
  refine aops_run 2 (by simp only [fwA, seval, gfw, bx] <;> rfl) ?_
  refine aops_end ?_
  refine awp_seq ?_
  refine awp_region rfl ?_
  refine aops_run 1 (by simp only [fwA, seval, gfw, bx, dx, bitfw, ga0] <;> rfl) ?_
  refine aops_one rfl (os_bsliceR rfl un49 ti28 (by decide) (by decide) rfl ?_)
  refine aops_run 1 (by simp only [fwA, seval, gfw, bx] <;> rfl) ?_
  refine aops_end ?_
  rw [hn0]
  refine awp_heap (H' := Hb ++ [.map (([(a, PV.int .i64 1)] : List (Int × PV)).map enc1), .row 1 (((bfs c a 0).map I1).flatten)]) (by simp [enc1, bfs, I1]) ?_
  refine awp_block ?_
  refine awp_for [0, 1, 2, 4, 5] (fun s : Nat × List Blk × List (Int × PV) => [.yld l, .ptr ba 0, .ptr bg 0, .map n0, .row (n0 + 1) s.1 ((bfs c a s.1).length - s.1) 1]) (fun s => s.2.1 ++ [.map (s.2.2.map enc1), .row 1 (((bfs c a s.1).map I1).flatten)]) (fun s => c.length + 1 - s.1) (fun s => s.1 ≤ (bfs c a s.1).length ∧ Inv s.1 s.2.1 ∧ MetOk s.2.2 (bfs c a s.1) (1 + s.1 * c.length) ∧ (s.2.2.all fun x => x.2.bd 0) = true) (0, Hb, [(a, PV.int .i64 1)]) (by simp only [fwA, seval, gfw]; rfl) rfl ⟨Nat.zero_le _, hInv, by simp only [Nat.zero_mul, Nat.add_zero]; exact met_one a, rfl⟩ fun ⟨i, Hk, es⟩ ⟨o1, o2, o3, o4⟩ => ?_
  simp only at o1 o2 o3 o4 ⊢
  obtain ⟨⟨⟨hN1, hN2, hN3⟩, hNb⟩, hnk, rec, cs, hlk, hpark, hround⟩ := hI i Hk o2
  have hml := bfs_len c a i
  have ga : ∀ L, (Hk ++ L)[ba]? = some (.box [.int .i64 a]) := fun L => Fw.get_old L hN1
  have gb : ∀ L, (Hk ++ L)[bg]? = some (.box [.map gm]) := fun L => Fw.get_old L hN2
  have gg : ∀ L, (Hk ++ L)[gm]? = some (.map (g.map enc1)) := fun L => Fw.get_old L hN3
  have gl : ∀ L, (Hk ++ L)[l]? = some (.loop rec cs) := fun L => Fw.get_old L hlk
  refine awp_seq ?_
  refine awp_seq ?_
  refine awp_run rfl (by simp only [fwA, seval, gfw, bx, dx, bitfw] <;> rfl) ?_
  refine awp_cond (by simp only [fwA, seval] <;> rfl) ?_
  by_cases hc : (0 : Int) < (((bfs c a i).length - i : Nat) : Int)
  rotate_left
  · simp only [hc, decide_false, Bool.false_eq_true, ↓reduceIte]
    have hi : (bfs c a i).length ≤ i := by omega
    refine awp_exit ?_
    simp only [Post.block, Post.then, ↓reduceIte]
    refine calls_cut (p := .tup []) Hk _ (.inr rfl) hNb rfl rfl (by omega) (.inl ?_)
    rw [List.length_map, ← abv_eq hi, show (bfs c a i).length = i by omega]; exact o2
  simp only [hc, decide_true, ↓reduceIte]
  refine awp_skip ?_
  have hi : i < (bfs c a i).length := by omega
  obtain ⟨x, hx⟩ : ∃ x, (bfs c a i)[i]? = some x := ⟨_, List.getElem?_eq_getElem hi⟩
  have hxa : ((abv c a).map I1)[i]? = some [.int .i64 x] := by
    obtain ⟨r, e⟩ := bfs_le c a i (c.length + 1 - i)
    rw [show i + (c.length + 1 - i) = c.length + 1 by omega] at e
    rw [List.getElem?_map]
    unfold abv
    rw [e, List.getElem?_append_left hi, hx]; rfl
  have gm1 : ∀ B1 B2 : Blk, (Hk ++ [B1, B2])[n0]? = some B1 := fun B1 B2 => by rw [← hnk, Fw.get_at0]; rfl
  have gr1 : ∀ B1 B2 : Blk, (Hk ++ [B1, B2])[n0 + 1]? = some B2 := fun B1 B2 => by rw [← hnk, Fw.get_at]; rfl
  refine awp_join [0, 1, 2, 4, 5] (fun s : List Blk × List (Int × PV) => [.yld l, .ptr ba 0, .ptr bg 0, .map n0, .row (n0 + 1) i ((bfs c a (i + 1)).length - i) 1]) (fun s => s.1 ++ [.map (s.2.map enc1), .row 1 (((bfs c a (i + 1)).map I1).flatten)]) (fun s => Inv (i + 1) s.1 ∧ MetOk s.2 (bfs c a (i + 1)) (1 + (i + 1) * c.length) ∧ (s.2.all fun x => x.2.bd 0) = true) ?_ fun ⟨Hb', es'⟩ ⟨q1, q2, q3⟩ => ?_
  · refine awp_block ?_
    refine awp_seq ?_
    refine awp_region rfl ?_
    refine aops_run 1 (by simp only [fwA, seval, gfw, bx, dx, bitfw] <;> rfl) ?_
    refine aops_one rfl (os_idxRow (i := 0) I1_len rfl el49 rfl rfl (gr1 _ _) (by omega) (by omega) ?_)
    refine aops_one rfl (os_loadRow (i := i) (y := x) (p := .int .i64 x) I1_len rfl ti28 rfl (gr1 _ _) (by omega) rfl hx rfl (by rw [if_neg (by decide)]; rfl) ?_)
    refine aops_run 1 (by simp only [fwA, seval, gfw, bx, dx, bitfw] <;> rfl) ?_
    refine aops_end ?_
    refine awp_seq ?_
    refine awp_seq ?_
    refine awp_region rfl ?_
    refine aops_run 2 (by simp only [fwA, seval, gfw, bx, dx, bitfw] <;> rfl) ?_
    refine aops_one rfl (os_yield rfl rfl (gl _) (by rw [hpark]; rfl) ((hround _ _ hxa).mono fun bo H' hq => ?_))
    obtain ⟨Hb', rfl, hq⟩ := hq
    refine aops_run 1 (by simp only [fwA, seval, gfw, bx, dx, bitfw] <;> rfl) ?_
    refine aops_end ?_
    cases bo with
    | false =>
      simp only [Bool.false_eq_true, ↓reduceIte] at hq
      refine awp_cond (b := true) (by simp [alook, aput, ev]) ?_
      refine awp_ret ?_
      simp only [Post.block, Post.then]
      refine calls_cut (p := .tup []) Hb' _ (.inl rfl) (hSt _ hq.2) rfl rfl (by omega) (.inr hq)
    | true =>
    simp only [↓reduceIte] at hq
    refine awp_cond (b := false) (by simp [alook, aput, ev]) (awp_skip ?_)
    obtain ⟨⟨⟨hM1, hM2, hM3⟩, hMb⟩, hnb, _⟩ := hI (i + 1) Hb' hq
    have ga : ∀ L, (Hb' ++ L)[ba]? = some (.box [.int .i64 a]) := fun L => Fw.get_old L hM1
    have gb : ∀ L, (Hb' ++ L)[bg]? = some (.box [.map gm]) := fun L => Fw.get_old L hM2
    have gg : ∀ L, (Hb' ++ L)[gm]? = some (.map (g.map enc1)) := fun L => Fw.get_old L hM3
    have h43 := c43 Γ x
    have hTle : 1 + i * c.length ≤ 1 + (i + 1) * c.length := by rw [Nat.add_mul]; omega
    refine awp_join [0, 1, 2, 4, 5, 6] (fun _ : Unit => [.yld l, .ptr ba 0, .ptr bg 0, .map n0, .row (n0 + 1) i ((bfs c a i).length - i) 1, .int .i64 x]) (fun _ => Hb' ++ [.map (es.map enc1), .row 1 (((bfs c a i).map I1).flatten)]) (fun _ => ¬ (x < 0 ∧ x ≠ a)) ?_ fun _ hpt => ?_
    · refine awp_seq ?_
      by_cases hx0 : x < 0
      · by_cases hxe : x = a
        · have hdx : decide (x = a) = true := decide_eq_true hxe
          refine awp_region rfl ?_
          refine aops_run 1 (by simp only [fwA, seval, gfw, bx, dx, bitfw, ga, hx0, hdx] <;> rfl) ?_
          refine aops_fn rfl rfl rfl en43 h43 ?_
          refine aops_run 5 (by simp only [fwA, seval, gfw, bx, dx, bitfw, ga, hx0, hdx] <;> rfl) ?_
          refine aops_end ?_
          refine awp_cond (b := false) (by simp [alook, aput, ev]) (awp_skip ?_)
          exact ⟨(), fun h => h.2 hxe, by simp only [fwA, seval, gfw], rfl, rfl⟩
        · have eb : bfs c a (i + 1) = bfs c a i := by rw [bfs, hx]; simp only; rw [if_pos ⟨hx0, hxe⟩]
          refine awp_region rfl ?_
          refine aops_run 1 (by simp only [fwA, seval, gfw, bx, dx, bitfw, ga, hx0, hxe] <;> rfl) ?_
          refine aops_fn rfl rfl rfl en43 h43 ?_
          refine aops_run 5 (by simp only [fwA, seval, gfw, bx, dx, bitfw, ga, hx0, hxe] <;> rfl) ?_
          refine aops_end ?_
          refine awp_cond (b := true) (by simp [alook, aput, ev]) ?_
          refine awp_exit ?_
          refine ⟨(Hb', es), ⟨hq, by rw [eb]; exact met_more o3 hTle, o4⟩, ?_, ?_, rfl⟩
          · simp only [fwA, seval, gfw, eb]
          · simp only [eb]
      · refine awp_region rfl ?_
        refine aops_run 1 (by simp only [fwA, seval, gfw, bx, dx, bitfw, ga, hx0] <;> rfl) ?_
        refine aops_fn rfl rfl rfl en43 h43 ?_
        refine aops_run 5 (by simp only [fwA, seval, gfw, bx, dx, bitfw, ga, hx0] <;> rfl) ?_
        refine aops_end ?_
        refine awp_cond (b := false) (by simp [alook, aput, ev]) (awp_skip ?_)
        exact ⟨(), fun h => hx0 h.1, by simp only [fwA, seval, gfw], rfl, rfl⟩
    have eb : bfs c a (i + 1) = (fl c x).foldl addB (bfs c a i) := by rw [bfs, hx]; simp only; rw [if_neg hpt]; rfl
    have hfl : (fl c x).length ≤ c.length := List.length_filter_le _ _
    have hml' := bfs_len c a (i + 1)
    refine awp_join [0, 1, 2, 4, 5, 35, 36, 37] (fun f : Bool => [.yld l, .ptr ba 0, .ptr bg 0, .map n0, .row (n0 + 1) i ((bfs c a i).length - i) 1, .vec ((fl c x).map encB) f, .int .i64 ((fl c x).length : Int), .int .i64 0]) (fun _ => Hb' ++ [.map (es.map enc1), .row 1 (((bfs c a i).map I1).flatten)]) (fun _ => True) ?_ fun f _ => ?_
    · refine awp_region rfl ?_
      refine aops_run 2 (by simp only [fwA, seval, gfw, bx, dx, bitfw, gb] <;> rfl) ?_
      rcases hg x with ⟨f1, f2⟩ | ⟨k, f1⟩
      · refine aops_one rfl (os_lookup (r := none) (z := .vec [] true) rfl un114 un28 rfl rfl (gg _) ((mfind1 x _ 0).trans (by rw [f1])) (fun _ => zero1_spec z49) ?_)
        refine aops_run 2 (by simp only [fwA, seval, gfw, bx] <;> rfl) ?_
        refine aops_end ?_
        exact ⟨true, trivial, by rw [f2]; rfl, rfl, rfl⟩
      · refine aops_one rfl (os_lookup (r := some (k, .vec ((fl c x).map encB) false)) (z := .any) rfl un114 un28 rfl rfl (gg _) ((mfind1 x _ 0).trans (by rw [f1])) (fun h => by cases h) ?_)
        refine aops_run 2 (by simp only [fwA, seval, gfw, bx] <;> rfl) ?_
        refine aops_end ?_
        exact ⟨false, trivial, by simp only [fwA, seval, gfw], rfl, rfl⟩
    refine awp_block ?_
    refine awp_for [0, 1, 2, 4, 5, 35, 36, 37] (fun s : Nat × List (Int × PV) => [.yld l, .ptr ba 0, .ptr bg 0, .map n0, .row (n0 + 1) i ((((fl c x).take s.1).foldl addB (bfs c a i)).length - i) 1, .vec ((fl c x).map encB) f, .int .i64 ((fl c x).length : Int), .int .i64 (s.1 : Int)]) (fun s => Hb' ++ [.map (s.2.map enc1), .row 1 (((((fl c x).take s.1).foldl addB (bfs c a i)).map I1).flatten)]) (fun s => (fl c x).length - s.1) (fun s => s.1 ≤ (fl c x).length ∧ MetOk s.2 (((fl c x).take s.1).foldl addB (bfs c a i)) (1 + i * c.length + s.1) ∧ (s.2.all fun x => x.2.bd 0) = true) (0, es) rfl rfl ⟨Nat.zero_le _, by simpa using o3, o4⟩ fun ⟨j, es2⟩ ⟨u1, u2, u3⟩ => ?_
    simp only at u1 u2 u3 ⊢
    obtain ⟨rr, hpre⟩ := foldB_pre ((fl c x).take j) (bfs c a i)
    have hmlen : i < (((fl c x).take j).foldl addB (bfs c a i)).length := by rw [hpre, List.length_append]; omega
    have hmlen2 : (((fl c x).take j).foldl addB (bfs c a i)).length ≤ (bfs c a (i + 1)).length := by
      rw [eb]
      conv => rhs; rw [← List.take_append_drop j (fl c x)]
      rw [List.foldl_append]
      obtain ⟨r2, e2⟩ := foldB_pre ((fl c x).drop j) (((fl c x).take j).foldl addB (bfs c a i))
      rw [e2, List.length_append]; omega
    generalize hm : ((fl c x).take j).foldl addB (bfs c a i) = m at u2 hmlen hmlen2 ⊢
    refine awp_seq ?_
    refine awp_run rfl (by simp only [fwA, seval, gfw, bx, dx, bitfw] <;> rfl) ?_
    refine awp_seq ?_
    refine awp_cond (by simp only [fwA, seval] <;> rfl) ?_
    by_cases hcj : (j : Int) < (fl c x).length
    rotate_left
    · simp only [hcj, decide_false, Bool.false_eq_true, ↓reduceIte]
      refine awp_exit ?_
      have ej : j = (fl c x).length := by omega
      subst ej
      rw [List.take_length, ← eb] at hm
      subst hm
      refine ⟨(Hb', es2), ⟨hq, met_more u2 (by rw [Nat.add_mul]; omega), u3⟩, ?_, ?_, rfl⟩
      · simp only [fwA, seval, gfw]
      · rfl
    simp only [hcj, decide_true, ↓reduceIte]
    refine awp_skip ?_
    have hj : j < (fl c x).length := by omega
    obtain ⟨p, gp⟩ : ∃ p, (fl c x)[j]? = some p := ⟨_, List.getElem?_eq_getElem hj⟩
    have hts : ((fl c x).take (j + 1)).foldl addB (bfs c a i) = addB m p := by rw [take_snoc gp, List.foldl_append, hm]; rfl
    have hwj : IntKind.i64.wrap ((j : Int) + 1) = ((j + 1 : Nat) : Int) := wrapS j (by omega)
    have hiN : i * c.length ≤ 10000001 * 10000000 := Nat.mul_le_mul (by omega) hl
    refine awp_seq ?_
    refine awp_block ?_
    refine awp_seq ?_
    refine awp_run rfl (by simp only [fwA, seval, gfw, bx, dx, bitfw, gp, encB, I1] <;> rfl) ?_
    have hmap : ∀ es B, (Hb' ++ [Blk.map es, B])[n0]? = some (.map es) := fun es B => by rw [← hnb, Fw.get_at0]; rfl
    have hrow : ∀ B1 B2, (Hb' ++ [B1, B2])[n0 + 1]? = some B2 := fun B1 B2 => by rw [← hnb, Fw.get_at]; rfl
    have hsetm : ∀ B1 B2 B3, (Hb' ++ [B1, B2]).set n0 B3 = Hb' ++ [B3, B2] := fun B1 B2 B3 => by rw [← hnb, Fw.set_at0]; rfl
    have hsetr : ∀ B1 B2 B3, (Hb' ++ [B1, B2]).set (n0 + 1) B3 = Hb' ++ [B1, B3] := fun B1 B2 B3 => by rw [← hnb, Fw.set_at]; rfl
    have hstep := met_step u2 p
    have hmm : ∀ (A B : List (Int × PV)), A = B → (Blk.map (A.map enc1)) = .map (B.map enc1) := fun A B e => by rw [e]
    rcases u2 p.b with ⟨f1, f2⟩ | ⟨k, n, f1, f2, f3, f4⟩
    · have hmt : metTo es2 p.b = es2 ++ [(p.b, .int .i64 1)] := by unfold metTo; rw [f1]
      have hadd : addB m p = m ++ [p.b] := by unfold addB; rw [if_neg f2]
      have hf2 : find1 p.b (metTo es2 p.b) 0 = some (es2.length, .int .i64 1) := by rw [hmt, find1_snoc f1, if_pos rfl, Nat.zero_add]
      refine awp_seq ?_
      refine awp_region rfl ?_
      refine aops_run 2 (by simp only [fwA, seval, gfw, bx, dx, bitfw] <;> rfl) ?_
      refine aops_one rfl (os_lookup (r := none) (z := .int .i64 0) rfl un91 un28 rfl rfl (hmap _ _) ((mfind1 p.b _ 0).trans (by rw [f1])) (fun _ => zero1_spec zero3) ?_)
      refine aops_run 1 (by simp only [fwA, seval, gfw, bx, dx, bitfw] <;> rfl) ?_
      refine aops_one rfl (os_mapUpdate (r := none) (.inl rfl) un91 un28 rfl rfl (hmap _ _) ((mfind1 p.b _ 0).trans (by rw [f1])) ?_)
      refine aops_end ?_
      refine awp_heap (H' := Hb' ++ [.map ((metTo es2 p.b).map enc1), .row 1 ((m.map I1).flatten)]) (by rw [hsetm, hmt, List.map_append]; rfl) ?_
      refine awp_seq ?_
      refine awp_region rfl ?_
      refine aops_run 2 (by simp only [fwA, seval, gfw, bx, dx, bitfw] <;> rfl) ?_
      refine aops_one rfl (os_lookup (r := some (es2.length, .int .i64 1)) (z := .any) rfl un91 un28 rfl rfl (hmap _ _) ((mfind1 p.b _ 0).trans (by rw [hf2])) (fun h => by cases h) ?_)
      refine aops_run 1 (by simp only [fwA, seval, gfw, bx, dx, bitfw] <;> rfl) ?_
      refine aops_end ?_
      refine awp_cond (b := true) (by simp [alook, aput, ev, gotOr]) ?_
      refine awp_region rfl ?_
      refine aops_run 3 (by simp only [fwA, seval, gfw, bx, dx, bitfw] <;> rfl) ?_
      refine aops_one rfl (os_appendR (n := 1) (xs := [.int .i64 p.b]) rfl un49 ti28 un49 (.inl ⟨_, rfl⟩) rfl (hrow _ _) (by rw [flat_len I1_len]; show m.length * 1 = i + (m.length - i) * 1; omega) rfl (fun es f h e he => by
        simp only [fwA, seval, PV.vec.injEq] at h
        obtain ⟨rfl, rfl⟩ := h
        simp only [List.mem_singleton] at he
        subst he; rfl) rfl (by show (_ + 1) * 8 ≤ _; omega) (by omega) ?_)
      refine aops_run 1 (by simp only [fwA, seval, gfw, bx, dx, bitfw] <;> rfl) ?_
      refine aops_end ?_
      refine awp_run rfl (by simp only [fwA, seval] <;> rfl) ?_
      refine ⟨(j + 1, metTo es2 p.b), by simp only; omega, ⟨by simp only; omega, ?_, ?_⟩, ?_, ?_, rfl⟩
      · simp only [hts]; exact hstep
      · simp only [hmt, List.all_append, u3]; rfl
      · simp only [fwA, seval, gfw, hwj, hts, hadd, List.length_append, List.length_cons, List.length_nil]
        rw [show m.length - i + 1 = m.length + 1 - i by omega]
      · simp only [hts, hadd]
        rw [hsetr, List.map_append, List.flatten_append]; rfl
    · have hmt : metTo es2 p.b = es2.set k (p.b, .int .i64 ((n : Int) + 1)) := by unfold metTo; rw [f1]
      have hadd : addB m p = m := by unfold addB; rw [if_pos f4]
      have hf2 : find1 p.b (metTo es2 p.b) 0 = some (k, .int .i64 ((n : Int) + 1)) := by rw [hmt, find1_set (v := .int .i64 ((n : Int) + 1)) (by rw [Nat.zero_add]; exact f1), if_pos rfl, Nat.zero_add]
      have hwn : IntKind.i64.wrap ((n : Int) + 1) = (n : Int) + 1 := wrapId ⟨by omega, by omega⟩
      have hn1 : ¬ ((n : Int) + 1 = 1) := by omega
      refine awp_seq ?_
      refine awp_region rfl ?_
      refine aops_run 2 (by simp only [fwA, seval, gfw, bx, dx, bitfw] <;> rfl) ?_
      refine aops_one rfl (os_lookup (r := some (k, .int .i64 (n : Int))) (z := .any) rfl un91 un28 rfl rfl (hmap _ _) ((mfind1 p.b _ 0).trans (by rw [f1])) (fun h => by cases h) ?_)
      refine aops_run 1 (by simp only [fwA, seval, gfw, bx, dx, bitfw, hwn, gotOr] <;> rfl) ?_
      refine aops_one rfl (os_mapUpdate (r := some (k, .int .i64 (n : Int))) (.inl rfl) un91 un28 rfl rfl (hmap _ _) ((mfind1 p.b _ 0).trans (by rw [f1])) ?_)
      refine aops_end ?_
      refine awp_heap (H' := Hb' ++ [.map ((metTo es2 p.b).map enc1), .row 1 ((m.map I1).flatten)]) (by rw [hsetm, hmt, List.map_set]; rfl) ?_
      refine awp_seq ?_
      refine awp_region rfl ?_
      refine aops_run 2 (by simp only [fwA, seval, gfw, bx, dx, bitfw] <;> rfl) ?_
      refine aops_one rfl (os_lookup (r := some (k, .int .i64 ((n : Int) + 1))) (z := .any) rfl un91 un28 rfl rfl (hmap _ _) ((mfind1 p.b _ 0).trans (by rw [hf2])) (fun h => by cases h) ?_)
      refine aops_run 1 (by simp only [fwA, seval, gfw, bx, dx, bitfw, hn1, gotOr] <;> rfl) ?_
      refine aops_end ?_
      refine awp_cond (b := false) (by simp [alook, aput, ev]) (awp_skip ?_)
      refine awp_run rfl (by simp only [fwA, seval] <;> rfl) ?_
      refine ⟨(j + 1, metTo es2 p.b), by simp only; omega, ⟨by simp only; omega, ?_, ?_⟩, ?_, ?_, rfl⟩
      · simp only [hts]; exact hstep
      · simp only [hmt]
        rw [List.all_eq_true] at u3 ⊢
        intro e he
        rcases List.mem_or_eq_of_mem_set he with h | rfl
        · exact u3 e h
        · rfl
      · simp only [fwA, seval, gfw, hwj, hts, hadd]
      · simp only [hts, hadd]
  simp only
  have hbl : i < (bfs c a (i + 1)).length := by obtain ⟨r, e⟩ := bfs_pre c a i; rw [e, List.length_append]; omega
  obtain ⟨_, hnb, _⟩ := hI (i + 1) Hb' q1
  have hrow : ∀ B1 B2, (Hb' ++ [B1, B2])[n0 + 1]? = some B2 := fun B1 B2 => by rw [← hnb, Fw.get_at]; rfl
  refine awp_region rfl ?_
  refine aops_run 1 (by simp only [fwA, seval, gfw, bx, dx, bitfw] <;> rfl) ?_
  refine aops_one rfl (os_sliceSuf (l := 1) rfl el49 rfl rfl (by omega) (hrow _ _) (by rw [flat_len I1_len]; omega) ?_)
  refine aops_run 1 (by simp only [fwA, seval, gfw, bx, dx, bitfw] <;> rfl) ?_
  refine aops_end ?_
  refine ⟨(i + 1, Hb', es'), by simp only; omega, ⟨by simp only; omega, q1, q2, q3⟩, ?_, rfl, rfl⟩
  simp only [fwA, seval, gfw, Nat.one_mul, Nat.sub_sub]
end Go.Proofs.YteicbhkimepbaaaGreatDoor
namespace Go.Proofs.YteicbhkimepbaaaGreatDoor
set_option linter.unusedVariables false
set_option linter.unusedSimpArgs false
set_option maxRecDepth 100000
open Go.RowKit Fw
theorem blk_mono {m n : Nat} (h : m ≤ n) {B : Blk} (hB : B.bd m = true) : B.bd n = true := bd_app.Blk.bd_mono h hB
theorem range_end {P : Program} {Γ : Nat → PV} {fn : Func} {p : PV} {H L : List Blk} {A' : List (Nat × PV)} {k : Nat} (hL : L[k]? = some .dfr) (h : ares P Γ A' (H ++ L) fn.results.toList = some p) :
    (Exit.ret = .ret ∨ Exit.ret = .normal) ∧ [H.length + k].Nodup ∧ (∀ b ∈ [H.length + k], (H ++ L)[b]? = some .dfr ∧ H.length ≤ b) ∧ ares P Γ A' (H ++ L) fn.results.toList = some p ∧ ∃ L', H ++ L = H ++ L' :=
  ⟨.inl rfl, by simp, fun b hb => by
    simp only [List.mem_singleton] at hb
    subst hb
    exact ⟨by rw [Fw.get_at]; exact hL, by omega⟩, h, L, rfl⟩
theorem contains_at {l : List Int} {b : Int} (h : ∀ j, j < l.length → l[j]? ≠ some b) : l.contains b = false := by
  cases e : l.contains b
  · rfl
  · rw [List.contains_iff_mem] at e
    obtain ⟨j, hj⟩ := List.mem_iff_getElem?.1 e
    exact absurd hj (h j (List.getElem?_eq_some_iff.1 hj).1)
set_option maxHeartbeats 8000000 in
theorem c26 (Γ : Nat → PV) (c : List Pr) (a b : Int) (hl : c.length ≤ 10000000) : Gives Tryz.prog Γ 26 [.vec (c.map Pr.enc) false, .int .i64 a, .int .i64 b] (.bool (rchB c a b)) := by
  refine fn_of_awp Tryz.func26 rfl (by simp [Tryz.f26]) rfl fun H => ?_
  refine awp_bd fun hbd => ?_
  refine awp_seq ?_
  refine awp_run rfl (by simp only [fwA, seval, gfw, bx, dx, bitfw] <;> rfl) ?_
  refine awp_seq ?_
  refine awp_seq ?_
  refine awp_region rfl ?_
  refine aops_run 1 (by simp only [fwA, seval, gfw, bx, dx, bitfw] <;> rfl) ?_
  refine aops_call rfl rfl rfl en73 ((c73 Γ c false hl _).mono fun p H' hp => ?_)
  obtain ⟨rfl, rfl⟩ := hp
  have hg := graphV_ok c
  have hgb := graphV_bd c 0
  rw [show dcP false c = c from rfl]
  generalize graphV c = g at hg hgb ⊢
  refine aops_run 1 (by simp only [fwA, seval, gfw, bx, dx, bitfw] <;> rfl) ?_
  refine aops_call rfl rfl rfl en74 ((c74 Γ (H.length + 2) a _ (by simp)).mono fun p H' hp => ?_)
  obtain ⟨rfl, rfl⟩ := hp
  refine aops_end ?_
  have hg' : GraphOk c g := hg
  refine awp_heap (H' := H ++ [Blk.box [.int .i64 b], .box [.bool false], .map (g.map enc1), .box [.map (H.length + 2)], .box [.int .i64 a]]) (by simp) ?_
  have hbdK : ∀ bb : Bool, ∀ B ∈ H ++ [Blk.box [.int .i64 b], .box [.bool bb], .map (g.map enc1), .box [.map (H.length + 2)], .box [.int .i64 a]], B.bd (H ++ [Blk.box [.int .i64 b], .box [.bool bb], .map (g.map enc1), .box [.map (H.length + 2)], .box [.int .i64 a]]).length = true := fun bb => bd_app hbd (by
    simp only [List.all_cons, List.all_nil, Bool.and_true, Bool.and_eq_true]
    exact ⟨rfl, rfl, blk_mono (Nat.zero_le _) hgb, by simp [Blk.bd, PV.bdL, PV.bd], rfl⟩)
  refine awp_block ?_
  refine awp_rangeFuncS (gf := 114) (caps := [.ptr (H.length + 4) 0, .ptr (H.length + 3) 0]) (by simp only [fwA, seval, List.length_append, List.length_cons, List.length_nil] <;> rfl) en114 (c114 Γ (H.length + 4) (H.length + 3) (H.length + 2) a c g hg' hl) (by simp [Tryz.f26])
    (fun i Hf => Hf = H ++ [Blk.box [.int .i64 b], .box [.bool false], .map (g.map enc1), .box [.map (H.length + 2)], .box [.int .i64 a]] ∧ ∀ j, j < i → (abv c a)[j]? ≠ some b)
    (fun cc Hf => cc = .ret ∧ rchB c a b = true ∧ Hf = H ++ [Blk.box [.int .i64 b], .box [.bool true], .map (g.map enc1), .box [.map (H.length + 2)], .box [.int .i64 a]]) (fun Stop h Hb hs => by
      obtain ⟨cc, Hf, ⟨_, _, rfl⟩, L, rfl, hL, hLb⟩ := h Hb hs
      intro B hB
      rcases List.mem_append.1 hB with hB | hB
      · exact blk_mono (by simp) (hbdK true B hB)
      · have := hLb B hB
        refine blk_mono ?_ this
        simp [hL]) ⟨rfl, fun j hj => by omega⟩ ?_ ?_ ?_ ?_
  · rintro i Hf ⟨rfl, _⟩
    refine ⟨rfl, fun L hL => ⟨⟨?_, ?_, ?_⟩, fun B hB => ?_⟩⟩
    · rw [List.append_assoc, Fw.get_at]; rfl
    · rw [List.append_assoc, Fw.get_at]; rfl
    · rw [List.append_assoc, Fw.get_at]; rfl
    · rcases List.mem_append.1 hB with hB | hB
      · exact blk_mono (by simp <;> omega) (hbdK false B hB)
      · exact blk_mono (by simp <;> omega) (hL B hB)
  · rintro i x Hf L L' ro hx ⟨rfl, hj⟩ hL hL' hbd1 hbd2
    obtain ⟨y, hy, rfl⟩ : ∃ y, (abv c a)[i]? = some y ∧ x = I1 y := by
      rw [List.getElem?_map] at hx
      obtain ⟨y, hy, e⟩ := Option.map_eq_some_iff.1 hx
      exact ⟨y, hy, e.symm⟩
    refine awp_less (A' := [(5, .ptr H.length 0), (6, .ptr (H.length + 1) 0), (12, .int .i64 y)]) (fun u => zip_look [5, 6, 12] [.ptr H.length 0, .ptr (H.length + 1) 0, .int .i64 y] u _ (by simp only [fwA, seval, gfw] <;> rfl)) ?_
    refine awp_run rfl (by simp only [fwA, seval, gfw, bx, dx, bitfw] <;> rfl) ?_
    refine ⟨rfl, H ++ [Blk.box [.int .i64 b], .box [.bool false], .map (g.map enc1), .box [.map (H.length + 2)], .box [.int .i64 a]], [], by simp, by simp, ?_⟩
    refine awp_heap (H' := H ++ ([Blk.box [.int .i64 b], .box [.bool false], .map (g.map enc1), .box [.map (H.length + 2)], .box [.int .i64 a]] ++ L')) (by simp) ?_
    refine awp_block ?_
    refine awp_seq ?_
    refine awp_run rfl (by simp only [fwA, seval, gfw, bx, dx, bitfw, List.cons_append] <;> rfl) ?_
    by_cases hyb : y = b
    · refine awp_cond (b := true) (by simp [alook, aput, ev, hyb]) ?_
      refine awp_seq ?_
      refine awp_run rfl (by simp only [fwA, seval, gfw, bx, dx, bitfw, List.cons_append] <;> rfl) ?_
      refine awp_ret ?_
      refine ⟨H ++ [Blk.box [.int .i64 b], .box [.bool true], .map (g.map enc1), .box [.map (H.length + 2)], .box [.int .i64 a]], [], by simp, by simp, fun B hB => ?_, rfl, ?_, rfl⟩
      · exact blk_mono (by simp <;> omega) (hbdK true B hB)
      · unfold rchB
        rw [List.contains_iff_mem]
        exact hyb ▸ List.mem_of_getElem? hy
    · refine awp_cond (b := false) (by simp [alook, aput, ev, hyb]) (awp_skip ?_)
      refine ⟨H ++ [Blk.box [.int .i64 b], .box [.bool false], .map (g.map enc1), .box [.map (H.length + 2)], .box [.int .i64 a]], [], by simp, by simp, fun B hB => ?_, rfl, fun j hj2 => ?_⟩
      · exact blk_mono (by simp <;> omega) (hbdK false B hB)
      · by_cases e : j = i
        · subst e; rw [hy]; exact fun h => hyb (Option.some.inj h)
        · exact hj j (by omega)
  · rintro Hf B ⟨rfl, hj⟩
    simp only [Post.block, Post.then]
    refine awp_heap (H' := H ++ ([Blk.box [.int .i64 b], .box [.bool false], .map (g.map enc1), .box [.map (H.length + 2)], .box [.int .i64 a]] ++ [.dfr, B])) (by simp) ?_
    refine awp_seq ?_
    refine awp_run rfl (by simp only [fwA, seval, gfw, bx, dx, bitfw, List.cons_append, List.nil_append] <;> rfl) ?_
    refine awp_ret ?_
    rw [List.length_map] at hj
    have hr : rchB c a b = false := contains_at hj
    have hlen : (H ++ [Blk.box [.int .i64 b], .box [.bool false], .map (g.map enc1), .box [.map (H.length + 2)], .box [.int .i64 a]]).length = H.length + 5 := by simp
    rw [hlen, hr]
    exact range_end (k := 5) rfl (by simp [ares, aresL, ares1, alook, aput, Tryz.f26, rd, ev, ti4])
  · rintro cc Hf B ⟨rfl, hr, rfl⟩ _
    refine awp_ret ?_
    have hlen : (H ++ [Blk.box [.int .i64 b], .box [.bool false], .map (g.map enc1), .box [.map (H.length + 2)], .box [.int .i64 a]]).length = H.length + 5 := by simp
    rw [hlen, hr, List.append_assoc]
    exact range_end (k := 5) rfl (by simp [ares, aresL, ares1, alook, aput, Tryz.f26, rd, ev, ti4])
theorem range_endA {P : Program} {Γ : Nat → PV} {fn : Func} {p : PV} {R : PV → List Blk → Prop} {H L : List Blk} {A' : List (Nat × PV)} {k : Nat} (hL : L[k]? = some .dfr) (hbd : ∀ B ∈ H, B.bd H.length = true) (h : ares P Γ A' (H ++ L) fn.results.toList = some p) (hp : p.bd H.length = true) (hR : R p H) :
    RetQ P Γ fn H.length R .ret A' (H ++ L) [H.length + k] := by
  have ht : (H ++ L).take H.length = H := List.take_left' rfl
  exact ⟨.inl rfl, by simp, fun b hb => by
    simp only [List.mem_singleton] at hb
    subst hb
    rw [Fw.get_at]; exact hL, p, H.length, h, Nat.le_refl _, by simp, fun b hb => by
      simp only [List.mem_singleton] at hb
      omega, hp, by rw [ht]; exact hbd, by rw [ht]; exact hR⟩
theorem accL_snoc (f : Int → Int → Int) (s : Int) (xs : List Int) (x : Int) : accL f s (xs ++ [x]) = if x < 0 then f (accL f s xs) (-1 - x) else accL f s xs := by
  unfold accL; rw [List.foldl_append]; rfl
theorem abv_word {c : List Pr} {a x : Int} (ho : OkP c) (ha : I64 a) (h : x ∈ abv c a) : I64 x := by
  rcases rch_iff.1 (abv_mem.1 h) with rfl | hv
  · exact ha
  · cases hv with
    | one hp => exact (ho _ hp).2
    | more _ _ hp => exact (ho _ hp).2
set_option maxHeartbeats 8000000 in
theorem c77 (Γ : Nat → PV) (ns : List (List UInt8)) (us : List Nat) (F : Nat) (he : Enters Tryz.prog F) (f : Int → Int → Int) (hF : ∀ x y, Gives Tryz.prog Γ F [.agg [.vec (ns.map S1) false, .vec (us.map U1) false], .int .i64 x, .int .i64 y] (.int .i64 (f x y))) (c : List Pr) (g : List (Int × PV)) (hg : GraphOk c g) (hl : c.length ≤ 10000000) (ho : OkP c) (a : Int) (ha : I64 a) (s : Int) (H : List Blk) (gm : Nat) (hgm : H[gm]? = some (.map (g.map enc1))) :
    ACalls Tryz.prog Γ 77 [.agg [.vec (ns.map S1) false, .vec (us.map U1) false], .map gm, .int .i64 a, .int .i64 s, .func (.func F) [] []] H (fun q H' => q = .int .i64 (boundV ns.length f s c a) ∧ H' = H) := by
  have h43 := c43 Γ a
  have h52 := c52 Γ a ha
  have hgl := (List.getElem?_eq_some_iff.1 hgm).1
  refine acalls_of_awp Tryz.func77 rfl (by simp [Tryz.f77]) fun hbd => ?_
  refine awp_seq ?_
  refine awp_run rfl (by simp only [fwA, seval, gfw, bx, dx, bitfw] <;> rfl) ?_
  refine awp_seq ?_
  refine awp_seq ?_
  refine awp_region rfl ?_
  refine aops_run 1 (by simp only [fwA, seval, gfw, bx, dx, bitfw] <;> rfl) ?_
  refine aops_fn rfl rfl rfl en43 h43 ?_
  refine aops_end ?_
  by_cases h0 : a < 0
  · have hpo : pointOf a = -1 - a := by unfold pointOf; rw [if_neg (by omega)]
    rw [hpo] at h52
    refine awp_cond (b := true) (by simp [alook, aput, ev, h0]) ?_
    refine awp_seq ?_
    refine awp_seq ?_
    by_cases hn : (ns.length : Int) ≤ -1 - a
    · have hb : boundV ns.length f s c a = -1 := by unfold boundV ptN; rw [if_pos h0, if_pos hn]
      rw [hb]
      refine awp_drawn [0, 0, 0, 1, 0, 0] [0, 1, 0, 4, 12, 31] mixed rfl (by kernel_rfl) ?_
      refine dops_run 1 (by simp only [fwA, seval, gfw, bx, dx, bitfw, hn] <;> rfl) ?_
      refine dops_fn rfl (by simp only [fwA, seval] <;> rfl) rfl rfl en52 h52 ?_
      refine dops_run 4 (by simp only [fwA, seval, gfw, bx, dx, bitfw, hn] <;> rfl) ?_
      refine dops_end ?_
      refine awp_cond (b := true) (by simp [alook, aput, ev]) ?_
      refine awp_seq ?_
      refine awp_run rfl (by simp only [fwA, seval] <;> rfl) ?_
      refine awp_ret ?_
      simp only [Post.then]
      exact calls_end (p := .int .i64 (-1)) _ (.inl rfl) hbd rfl rfl ⟨rfl, rfl⟩
    · have hb : boundV ns.length f s c a = -1 - a := by unfold boundV ptN; rw [if_pos h0, if_neg hn]
      rw [hb]
      refine awp_drawn [0, 0, 0, 1, 0, 0] [0, 1, 0, 4, 12, 31] mixed rfl (by kernel_rfl) ?_
      refine dops_run 1 (by simp only [fwA, seval, gfw, bx, dx, bitfw, hn] <;> rfl) ?_
      refine dops_fn rfl (by simp only [fwA, seval] <;> rfl) rfl rfl en52 h52 ?_
      refine dops_run 4 (by simp only [fwA, seval, gfw, bx, dx, bitfw, hn] <;> rfl) ?_
      refine dops_end ?_
      refine awp_cond (b := false) (by simp [alook, aput, ev]) (awp_skip ?_)
      refine awp_seq ?_
      refine awp_region rfl ?_
      refine aops_run 1 (by simp only [fwA, seval, gfw, bx, dx, bitfw] <;> rfl) ?_
      refine aops_fn rfl rfl rfl en52 h52 ?_
      refine aops_run 1 (by simp only [fwA, seval, gfw, bx, dx, bitfw] <;> rfl) ?_
      refine aops_end ?_
      refine awp_ret ?_
      simp only [Post.then]
      exact calls_end (p := .int .i64 (-1 - a)) _ (.inl rfl) hbd rfl rfl ⟨rfl, rfl⟩
  have hb : boundV ns.length f s c a = accL f s (abv c a) := by unfold boundV; rw [if_neg h0]
  rw [hb]
  refine awp_cond (b := false) (by simp [alook, aput, ev, h0]) (awp_skip ?_)
  refine awp_seq ?_
  refine awp_run rfl (by simp only [fwA, seval, gfw, bx, dx, bitfw] <;> rfl) ?_
  refine awp_seq ?_
  refine awp_seq ?_
  refine awp_region rfl ?_
  refine aops_run 2 (by simp only [fwA, seval, gfw, bx, dx, bitfw] <;> rfl) ?_
  refine aops_call rfl rfl rfl en74 ((c74 Γ gm a _ (by simp; omega)).mono fun p H' hp => ?_)
  obtain ⟨rfl, rfl⟩ := hp
  refine aops_end ?_
  have hbdK : ∀ i, ∀ B ∈ H ++ [Blk.box [.vec (ns.map S1) false, .vec (us.map U1) false], .box [.func (.func F) [] []], .box [.int .i64 (accL f s ((abv c a).take i))], .box [.map gm], .box [.int .i64 a]], B.bd (H ++ [Blk.box [.vec (ns.map S1) false, .vec (us.map U1) false], .box [.func (.func F) [] []], .box [.int .i64 (accL f s ((abv c a).take i))], .box [.map gm], .box [.int .i64 a]]).length = true := fun i => bd_app hbd (by
    simp only [List.all_cons, List.all_nil, Bool.and_true, Bool.and_eq_true]
    exact ⟨rfl, rfl, rfl, by simp [Blk.bd, PV.bdL, PV.bd]; omega, rfl⟩)
  generalize hi0 : (0 : Nat) = i
  refine awp_heap (H' := H ++ [Blk.box [.vec (ns.map S1) false, .vec (us.map U1) false], .box [.func (.func F) [] []], .box [.int .i64 (accL f s ((abv c a).take i))], .box [.map gm], .box [.int .i64 a]]) (by subst hi0; simp [accL]) ?_
  subst hi0
  refine awp_block ?_
  refine awp_rangeFuncS (gf := 114) (caps := [.ptr (H.length + 4) 0, .ptr (H.length + 3) 0]) (by simp only [fwA, seval, List.length_append, List.length_cons, List.length_nil] <;> rfl) en114 (c114 Γ (H.length + 4) (H.length + 3) gm a c g hg hl) (by simp [Tryz.f77])
    (fun i Hf => i ≤ (abv c a).length ∧ Hf = H ++ [Blk.box [.vec (ns.map S1) false, .vec (us.map U1) false], .box [.func (.func F) [] []], .box [.int .i64 (accL f s ((abv c a).take i))], .box [.map gm], .box [.int .i64 a]])
    (fun _ _ => False) (fun Stop h Hb hs => by obtain ⟨_, _, hx, _⟩ := h Hb hs; exact hx.elim) ⟨Nat.zero_le _, rfl⟩ ?_ ?_ ?_ ?_
  · rintro i Hf ⟨_, rfl⟩
    refine ⟨by simp, fun L hL => ⟨⟨?_, ?_, ?_⟩, fun B hB => ?_⟩⟩
    · rw [List.append_assoc, Fw.get_at]; rfl
    · rw [List.append_assoc, Fw.get_at]; rfl
    · rw [List.append_assoc]; exact Fw.get_old _ hgm
    · rcases List.mem_append.1 hB with hB | hB
      · exact blk_mono (by simp <;> omega) (hbdK i B hB)
      · exact blk_mono (by simp <;> omega) (hL B hB)
  · rintro i x Hf L L' ro hx ⟨hil, rfl⟩ hL hL' hbd1 hbd2
    obtain ⟨y, hy, rfl⟩ : ∃ y, (abv c a)[i]? = some y ∧ x = I1 y := by
      rw [List.getElem?_map] at hx
      obtain ⟨y, hy, e⟩ := Option.map_eq_some_iff.1 hx
      exact ⟨y, hy, e.symm⟩
    have hil2 := (List.getElem?_eq_some_iff.1 hy).1
    have hts := take_snoc hy
    have h43y := c43 Γ y
    have h52y := c52 Γ y (abv_word ho ha (List.mem_of_getElem? hy))
    refine awp_less (A' := [(5, .ptr H.length 0), (9, .ptr (H.length + 1) 0), (11, .ptr (H.length + 2) 0), (27, .int .i64 y)]) (fun u => zip_look [5, 9, 11, 27] [.ptr H.length 0, .ptr (H.length + 1) 0, .ptr (H.length + 2) 0, .int .i64 y] u _ (by simp only [fwA, seval, gfw] <;> rfl)) ?_
    refine awp_run rfl (by simp only [fwA, seval, gfw, bx, dx, bitfw] <;> rfl) ?_
    refine ⟨rfl, H ++ [Blk.box [.vec (ns.map S1) false, .vec (us.map U1) false], .box [.func (.func F) [] []], .box [.int .i64 (accL f s ((abv c a).take i))], .box [.map gm], .box [.int .i64 a]], [], by simp, by simp, ?_⟩
    refine awp_heap (H' := H ++ ([Blk.box [.vec (ns.map S1) false, .vec (us.map U1) false], .box [.func (.func F) [] []], .box [.int .i64 (accL f s ((abv c a).take i))], .box [.map gm], .box [.int .i64 a]] ++ L')) (by simp) ?_
    refine awp_block ?_
    refine awp_seq ?_
    refine awp_region rfl ?_
    refine aops_run 1 (by simp only [fwA, seval, gfw, bx, dx, bitfw] <;> rfl) ?_
    refine aops_fn rfl rfl rfl en43 h43y ?_
    refine aops_end ?_
    by_cases hy0 : y < 0
    · have hpo : pointOf y = -1 - y := by unfold pointOf; rw [if_neg (by omega)]
      rw [hpo] at h52y
      refine awp_cond (b := true) (by simp [alook, aput, ev, hy0]) ?_
      refine awp_drawn [1, 1, 1, 0, 0, 0, 2] [0, 0, 0, 0, 8, 31, 63] mixed rfl (by kernel_rfl) ?_
      refine dops_run 4 (by simp only [fwA, seval, gfw, bx, dx, bitfw, List.cons_append] <;> rfl) ?_
      refine dops_fn rfl (by simp only [fwA, seval] <;> rfl) rfl rfl en52 h52y ?_
      refine dops_fn rfl (by simp only [fwA, seval] <;> rfl) rfl rfl he (hF _ _) ?_
      refine dops_run 1 (by simp only [fwA, seval, gfw, bx, dx, bitfw, List.cons_append] <;> rfl) ?_
      refine dops_end ?_
      refine ⟨H ++ [Blk.box [.vec (ns.map S1) false, .vec (us.map U1) false], .box [.func (.func F) [] []], .box [.int .i64 (accL f s ((abv c a).take (i + 1)))], .box [.map gm], .box [.int .i64 a]], [], by simp, ?_, fun B hB => ?_, by omega, rfl⟩
      · rw [hts, accL_snoc, if_pos hy0]; simp
      · exact blk_mono (by simp <;> omega) (hbdK (i + 1) B hB)
    · refine awp_cond (b := false) (by simp [alook, aput, ev, hy0]) (awp_skip ?_)
      refine ⟨H ++ [Blk.box [.vec (ns.map S1) false, .vec (us.map U1) false], .box [.func (.func F) [] []], .box [.int .i64 (accL f s ((abv c a).take (i + 1)))], .box [.map gm], .box [.int .i64 a]], [], by simp, ?_, fun B hB => ?_, by omega, rfl⟩
      · rw [hts, accL_snoc, if_neg hy0]; simp
      · exact blk_mono (by simp <;> omega) (hbdK (i + 1) B hB)
  · rintro Hf B ⟨_, rfl⟩
    rw [List.length_map, List.take_length]
    simp only [Post.block, Post.then]
    refine awp_heap (H' := H ++ [Blk.box [.vec (ns.map S1) false, .vec (us.map U1) false], .box [.func (.func F) [] []], .box [.int .i64 (accL f s (abv c a))], .box [.map gm], .box [.int .i64 a], .dfr, B]) (by simp) ?_
    have hlen : ∀ z : Int, (H ++ [Blk.box [.vec (ns.map S1) false, .vec (us.map U1) false], .box [.func (.func F) [] []], .box [.int .i64 z], .box [.map gm], .box [.int .i64 a]]).length = H.length + 5 := fun z => by simp
    rw [hlen]
    refine awp_seq ?_
    refine awp_run rfl (by simp only [fwA, seval, gfw, bx, dx, bitfw, List.cons_append, List.nil_append] <;> rfl) ?_
    refine awp_ret ?_
    exact range_endA (p := .int .i64 (accL f s (abv c a))) (k := 5) rfl hbd (by simp [ares, aresL, ares1, alook, aput, Tryz.f77, rd, ev]) rfl ⟨rfl, rfl⟩
  · rintro cc Hf B hX _
    exact hX.elim
end Go.Proofs.YteicbhkimepbaaaGreatDoor
namespace Go.Proofs.YteicbhkimepbaaaGreatDoor
set_option linter.unusedVariables false
set_option linter.unusedSimpArgs false
set_option maxRecDepth 100000
open Go.RowKit Fw
theorem flp_len (c : List Pr) : (flp c).length = c.length := by unfold flp; rw [List.length_map]
theorem flp_ok {c : List Pr} (h : OkP c) : OkP (flp c) := fun p hp => (h _ (flp_mem.1 hp)).symm
set_option maxHeartbeats 8000000 in
theorem c28 (Γ : Nat → PV) (hΓ : Tab64 Γ) (ns : List (List UInt8)) (us : List Nat) (hw : W64 us) (c : List Pr) (hl : c.length ≤ 10000000) (ho : OkP c) (a : Int) (ha : I64 a) : Gives Tryz.prog Γ 28 [.agg [.vec (ns.map S1) false, .vec (us.map U1) false], .vec (c.map Pr.enc) false, .int .i64 a] (.int .i64 (lowV ns us c a)) := by
  have h17 := c17 Γ hΓ ns us hw c (by omega) ho
  have h50 := c50 Γ hΓ ns us hw
  refine fn_of_awp Tryz.func28 rfl (by simp [Tryz.f28]) rfl fun H => ?_
  refine awp_seq ?_
  refine awp_run rfl (by simp only [fwA, seval, gfw, bx, dx, bitfw] <;> rfl) ?_
  refine awp_seq ?_
  refine awp_seq ?_
  unfold lowV
  cases hk : knownB ns us c
  · rw [hk] at h17
    refine awp_region rfl ?_
    refine aops_run 2 (by simp only [fwA, seval, gfw, bx, dx, bitfw] <;> rfl) ?_
    refine aops_fn rfl rfl rfl en17 h17 ?_
    refine aops_run 1 (by simp only [fwA, seval, gfw, bx, dx, bitfw] <;> rfl) ?_
    refine aops_end ?_
    refine awp_cond (b := true) (by simp [alook, aput, ev]) ?_
    refine awp_seq ?_
    refine awp_run rfl (by simp only [fwA, seval] <;> rfl) ?_
    refine awp_ret ?_
    exact gives_end (.inl rfl) _ rfl
  rw [hk] at h17
  rw [if_pos rfl]
  refine awp_region rfl ?_
  refine aops_run 2 (by simp only [fwA, seval, gfw, bx, dx, bitfw] <;> rfl) ?_
  refine aops_fn rfl rfl rfl en17 h17 ?_
  refine aops_run 1 (by simp only [fwA, seval, gfw, bx, dx, bitfw] <;> rfl) ?_
  refine aops_end ?_
  refine awp_cond (b := false) (by simp [alook, aput, ev]) (awp_skip ?_)
  have hK1 : (H ++ [Blk.box [.vec (ns.map S1) false, .vec (us.map U1) false]])[H.length]? = some (.box [.vec (ns.map S1) false, .vec (us.map U1) false]) := Fw.get_at0 _ _
  have hKH : ∀ L, ∃ L', (H ++ [Blk.box [.vec (ns.map S1) false, .vec (us.map U1) false]]) ++ L = H ++ L' := fun L => ⟨_, List.append_assoc _ _ _⟩
  generalize H ++ [Blk.box [.vec (ns.map S1) false, .vec (us.map U1) false]] = K at *
  have hK1' : ∀ L, (K ++ L)[H.length]? = some (.box [.vec (ns.map S1) false, .vec (us.map U1) false]) := fun L => Fw.get_old L hK1
  have hv0 : View.vw ⟨K.length, none⟩ K = K := by simp [View.vw]
  have hv1 : ∀ L, View.vw ⟨K.length, none⟩ (K ++ L) = K := fun L => by simp [View.vw]
  have h73 := c73 Γ c true hl K
  rw [show dcP true c = flp c from rfl] at h73
  refine awp_seq ?_
  refine awp_drawn [4,0,3,0,4,0,1,0] [0, 0, 2, 0, 0, 22, 63, 127] mixed rfl (by kernel_rfl) ?_
  refine dops_run 2 (by simp only [fwA, seval, gfw, bx, dx, bitfw, hK1, hK1', hv0, hv1] <;> rfl) ?_
  refine dops_call3 (p := .map K.length) (H' := K ++ [Blk.map ((graphV (flp c)).map enc1)]) rfl rfl rfl rfl en73 h73 (by rw [hv1, hv0]) ?_
  refine dops_run 2 (by simp only [fwA, seval, gfw, bx, dx, bitfw, hK1, hK1', hv0, hv1] <;> rfl) ?_
  refine dops_fn rfl (by simp only [fwA, seval] <;> rfl) rfl rfl en50 h50 ?_
  refine dops_rcall (p := .int .i64 (boundV ns.length (joinV ns us) (botV ns us) (flp c) a)) rfl rfl rfl rfl en77 (c77 Γ ns us 78 en78 (joinV ns us) (fun x y => c78 Γ hΓ ns us hw x y) (flp c) (graphV (flp c)) (graphV_ok _) (by rw [flp_len]; exact hl) (flp_ok ho) a ha (botV ns us) _ K.length (Fw.get_at0 _ _)) ?_
  refine dops_run 1 (by simp only [fwA, seval, gfw, bx, dx, bitfw, hK1, hK1', hv0, hv1] <;> rfl) ?_
  refine dops_end ?_
  obtain ⟨L', eL⟩ := hKH [Blk.map ((graphV (flp c)).map enc1)]
  refine awp_ret ?_
  rw [eL]
  exact gives_end (.inl rfl) _ rfl
set_option maxHeartbeats 8000000 in
theorem c30 (Γ : Nat → PV) (hΓ : Tab64 Γ) (ns : List (List UInt8)) (us : List Nat) (hw : W64 us) (c : List Pr) (hl : c.length ≤ 10000000) (ho : OkP c) (a : Int) (ha : I64 a) : Gives Tryz.prog Γ 30 [.agg [.vec (ns.map S1) false, .vec (us.map U1) false], .vec (c.map Pr.enc) false, .int .i64 a] (.int .i64 (highV ns us c a)) := by
  have h17 := c17 Γ hΓ ns us hw c (by omega) ho
  have h79 := c79 Γ hΓ ns us hw
  refine fn_of_awp Tryz.func30 rfl (by simp [Tryz.f30]) rfl fun H => ?_
  refine awp_seq ?_
  refine awp_run rfl (by simp only [fwA, seval, gfw, bx, dx, bitfw] <;> rfl) ?_
  refine awp_seq ?_
  refine awp_seq ?_
  unfold highV
  cases hk : knownB ns us c
  · rw [hk] at h17
    refine awp_region rfl ?_
    refine aops_run 2 (by simp only [fwA, seval, gfw, bx, dx, bitfw] <;> rfl) ?_
    refine aops_fn rfl rfl rfl en17 h17 ?_
    refine aops_run 1 (by simp only [fwA, seval, gfw, bx, dx, bitfw] <;> rfl) ?_
    refine aops_end ?_
    refine awp_cond (b := true) (by simp [alook, aput, ev]) ?_
    refine awp_seq ?_
    refine awp_run rfl (by simp only [fwA, seval] <;> rfl) ?_
    refine awp_ret ?_
    exact gives_end (.inl rfl) _ rfl
  rw [hk] at h17
  rw [if_pos rfl]
  refine awp_region rfl ?_
  refine aops_run 2 (by simp only [fwA, seval, gfw, bx, dx, bitfw] <;> rfl) ?_
  refine aops_fn rfl rfl rfl en17 h17 ?_
  refine aops_run 1 (by simp only [fwA, seval, gfw, bx, dx, bitfw] <;> rfl) ?_
  refine aops_end ?_
  refine awp_cond (b := false) (by simp [alook, aput, ev]) (awp_skip ?_)
  have hK1 : (H ++ [Blk.box [.vec (ns.map S1) false, .vec (us.map U1) false]])[H.length]? = some (.box [.vec (ns.map S1) false, .vec (us.map U1) false]) := Fw.get_at0 _ _
  have hKH : ∀ L, ∃ L', (H ++ [Blk.box [.vec (ns.map S1) false, .vec (us.map U1) false]]) ++ L = H ++ L' := fun L => ⟨_, List.append_assoc _ _ _⟩
  generalize H ++ [Blk.box [.vec (ns.map S1) false, .vec (us.map U1) false]] = K at *
  have hK1' : ∀ L, (K ++ L)[H.length]? = some (.box [.vec (ns.map S1) false, .vec (us.map U1) false]) := fun L => Fw.get_old L hK1
  have hv0 : View.vw ⟨K.length, none⟩ K = K := by simp [View.vw]
  have hv1 : ∀ L, View.vw ⟨K.length, none⟩ (K ++ L) = K := fun L => by simp [View.vw]
  have h73 := c73 Γ c false hl K
  rw [show dcP false c = c from rfl] at h73
  refine awp_seq ?_
  refine awp_drawn [4,0,3,0,4,0,1,0] [0, 0, 2, 0, 0, 22, 63, 127] mixed rfl (by kernel_rfl) ?_
  refine dops_run 2 (by simp only [fwA, seval, gfw, bx, dx, bitfw, hK1, hK1', hv0, hv1] <;> rfl) ?_
  refine dops_call3 (p := .map K.length) (H' := K ++ [Blk.map ((graphV c).map enc1)]) rfl rfl rfl rfl en73 h73 (by rw [hv1, hv0]) ?_
  refine dops_run 2 (by simp only [fwA, seval, gfw, bx, dx, bitfw, hK1, hK1', hv0, hv1] <;> rfl) ?_
  refine dops_fn rfl (by simp only [fwA, seval] <;> rfl) rfl rfl en79 h79 ?_
  refine dops_rcall (p := .int .i64 (boundV ns.length (meetV ns us) (topV ns us) c a)) rfl rfl rfl rfl en77 (c77 Γ ns us 80 en80 (meetV ns us) (fun x y => c80 Γ hΓ ns us hw x y) c (graphV c) (graphV_ok _) hl ho a ha (topV ns us) _ K.length (Fw.get_at0 _ _)) ?_
  refine dops_run 1 (by simp only [fwA, seval, gfw, bx, dx, bitfw, hK1, hK1', hv0, hv1] <;> rfl) ?_
  refine dops_end ?_
  obtain ⟨L', eL⟩ := hKH [Blk.map ((graphV c).map enc1)]
  refine awp_ret ?_
  rw [eL]
  exact gives_end (.inl rfl) _ rfl
set_option maxHeartbeats 8000000 in
theorem c32 (Γ : Nat → PV) (hΓ : Tab64 Γ) (ns : List (List UInt8)) (us : List Nat) (hw : W64 us) (c : List Pr) (hl : c.length ≤ 10000000) (ho : OkP c) (a b : Int) (ha : I64 a) (hb : I64 b) : Gives Tryz.prog Γ 32 [.agg [.vec (ns.map S1) false, .vec (us.map U1) false], .vec (c.map Pr.enc) false, .int .i64 a, .int .i64 b] (.bool (entV ns us c a b)) := by
  have h17 := c17 Γ hΓ ns us hw c (by omega) ho
  have h17b := c17 Γ hΓ ns us hw [⟨a, b⟩] (by simp) (fun p hp => by
    have : p = ⟨a, b⟩ := by simpa using hp
    subst this; exact ⟨ha, hb⟩)
  have h17b := h17b.args (args := [.agg [.vec (ns.map S1) false, .vec (us.map U1) false], .vec [[.int .i64 a, .int .i64 b]] true]) ⟨PV.le_refl _, ⟨nofun, PV.leLL_refl _⟩, trivial⟩
  have h26 := c26 Γ c a b hl
  have h30 := c30 Γ hΓ ns us hw c hl ho a ha
  have h28 := c28 Γ hΓ ns us hw c hl ho b hb
  have h44 := c44 Γ ns us hw (highV ns us c a) (lowV ns us c b)
  refine fn_of_awp Tryz.func32 rfl (by simp [Tryz.f32]) rfl fun H => ?_
  refine awp_seq ?_
  refine awp_run rfl (by simp only [fwA, seval, gfw, bx, dx, bitfw] <;> rfl) ?_
  refine awp_seq ?_
  refine awp_seq ?_
  unfold entV
  cases hk : knownB ns us c
  · rw [hk] at h17
    refine awp_region rfl ?_
    refine aops_run 2 (by simp only [fwA, seval, gfw, bx, dx, bitfw] <;> rfl) ?_
    refine aops_fn rfl rfl rfl en17 h17 ?_
    refine aops_run 10 (by simp only [fwA, seval, gfw, bx, dx, bitfw] <;> rfl) ?_
    refine aops_end ?_
    refine awp_cond (b := true) (by simp [alook, aput, ev]) ?_
    refine awp_seq ?_
    refine awp_run rfl (by simp only [fwA, seval] <;> rfl) ?_
    refine awp_ret ?_
    exact gives_end (.inl rfl) _ rfl
  rw [hk] at h17
  cases hk2 : knownB ns us [⟨a, b⟩]
  · rw [hk2] at h17b
    refine awp_region rfl ?_
    refine aops_run 2 (by simp only [fwA, seval, gfw, bx, dx, bitfw] <;> rfl) ?_
    refine aops_fn rfl rfl rfl en17 h17 ?_
    refine aops_run 7 (by simp only [fwA, seval, gfw, bx, dx, bitfw] <;> rfl) ?_
    refine aops_fnIf rfl rfl rfl rfl rfl en17 h17b ?_
    refine aops_run 2 (by simp only [fwA, seval, gfw, bx, dx, bitfw] <;> rfl) ?_
    refine aops_end ?_
    refine awp_cond (b := true) (by simp [alook, aput, ev]) ?_
    refine awp_seq ?_
    refine awp_run rfl (by simp only [fwA, seval] <;> rfl) ?_
    refine awp_ret ?_
    exact gives_end (.inl rfl) _ rfl
  rw [hk2] at h17b
  refine awp_region rfl ?_
  refine aops_run 2 (by simp only [fwA, seval, gfw, bx, dx, bitfw] <;> rfl) ?_
  refine aops_fn rfl rfl rfl en17 h17 ?_
  refine aops_run 7 (by simp only [fwA, seval, gfw, bx, dx, bitfw] <;> rfl) ?_
  refine aops_fnIf rfl rfl rfl rfl rfl en17 h17b ?_
  refine aops_run 2 (by simp only [fwA, seval, gfw, bx, dx, bitfw] <;> rfl) ?_
  refine aops_end ?_
  refine awp_cond (b := false) (by simp [alook, aput, ev]) (awp_skip ?_)
  refine awp_seq ?_
  cases hr : rchB c a b
  · rw [hr] at h26
    refine awp_drawn [0, 0, 0, 0, 0, 1, 1, 0, 0, 0, 1, 0, 0, 0, 0, 0, 0] [0, 0, 0, 7, 15, 31, 31, 31, 31, 479, 31, 31, 31, 8159, 16383, 32767, 65535] mixed rfl (by kernel_rfl) ?_
    refine dops_run 3 (by simp only [fwA, seval, gfw, bx, dx, bitfw] <;> rfl) ?_
    refine dops_fn rfl (by simp only [fwA, seval] <;> rfl) rfl rfl en26 h26 ?_
    refine dops_run 5 (by simp only [fwA, seval, gfw, bx, dx, bitfw] <;> rfl) ?_
    refine dops_fn rfl (by simp only [fwA, seval] <;> rfl) rfl rfl en30 h30 ?_
    refine dops_run 3 (by simp only [fwA, seval, gfw, bx, dx, bitfw] <;> rfl) ?_
    refine dops_fn rfl (by simp only [fwA, seval] <;> rfl) rfl rfl en28 h28 ?_
    refine dops_fn rfl (by simp only [fwA, seval] <;> rfl) rfl rfl en44 h44 ?_
    refine dops_run 2 (by simp only [fwA, seval, gfw, bx, dx, bitfw] <;> rfl) ?_
    refine dops_end ?_
    refine awp_ret ?_
    exact gives_end (.inl rfl) _ rfl
  · rw [hr] at h26
    refine awp_drawn [0, 0, 0, 0, 0, 1, 1, 0, 0, 0, 1, 0, 0, 0, 0, 0, 0] [0, 0, 0, 7, 15, 31, 31, 31, 31, 479, 31, 31, 31, 8159, 16383, 32767, 65535] mixed rfl (by kernel_rfl) ?_
    refine dops_run 3 (by simp only [fwA, seval, gfw, bx, dx, bitfw] <;> rfl) ?_
    refine dops_fn rfl (by simp only [fwA, seval] <;> rfl) rfl rfl en26 h26 ?_
    refine dops_run 13 (by simp only [fwA, seval, gfw, bx, dx, bitfw] <;> rfl) ?_
    refine dops_end ?_
    refine awp_ret ?_
    exact gives_end (.inl rfl) _ rfl
end Go.Proofs.YteicbhkimepbaaaGreatDoor
namespace Go.Proofs.YteicbhkimepbaaaGreatDoor
set_option linter.unusedVariables false
set_option linter.unusedSimpArgs false
set_option maxRecDepth 100000
open Go.RowKit Fw
def addI : List Int → Int → List Int
  | [], s => [s]
  | x :: l, s => if x < s then x :: addI l s else if x = s then x :: l else s :: x :: l
theorem add_found {s : Int} : ∀ {l : List Int} {i : Nat}, (∀ j, j < i → ∀ x, l[j]? = some x → x < s) → l[i]? = some s → addI l s = l
  | [], _, _, h => by simp at h
  | x :: l, 0, _, h => by
    simp only [List.getElem?_cons_zero, Option.some.injEq] at h
    subst h
    unfold addI
    rw [if_neg (Int.lt_irrefl _), if_pos rfl]
  | x :: l, i + 1, hl, h => by
    have h0 := hl 0 (by omega) x rfl
    unfold addI
    rw [if_pos h0, add_found (i := i) (fun j hj y hy => hl (j + 1) (by omega) y (by simpa using hy)) (by simpa using h)]
theorem add_ins {s : Int} : ∀ {l : List Int} {i : Nat}, (∀ j, j < i → ∀ x, l[j]? = some x → x < s) → (∀ x, l[i]? = some x → ¬ x < s ∧ x ≠ s) → addI l s = l.take i ++ s :: l.drop i
  | [], i, _, _ => by simp [addI]
  | x :: l, 0, _, h => by
    obtain ⟨h1, h2⟩ := h x rfl
    unfold addI
    rw [if_neg h1, if_neg h2]; rfl
  | x :: l, i + 1, hl, h => by
    have h0 := hl 0 (by omega) x rfl
    unfold addI
    rw [if_pos h0, add_ins (i := i) (fun j hj y hy => hl (j + 1) (by omega) y (by simpa using hy)) (fun y hy => h y (by simpa using hy))]
    rfl
theorem c97 (Γ : Nat → PV) (l : List Int) (s : Int) (hl : l.length ≤ 1000000000000) : Gives Tryz.prog Γ 97 [.vec (l.map I1) false, .int .i64 s] (.vec ((addI l s).map I1) false) := by
  refine fn_of_awp Tryz.func97 rfl (by simp [Tryz.f97]) rfl fun H => ?_
  refine awp_seq ?_
  refine awp_run rfl (by simp only [fwA, seval] <;> rfl) ?_
  refine awp_seq ?_
  refine awp_run rfl (by simp only [fwA, seval] <;> rfl) ?_
  refine awp_seq ?_
  refine awp_block ?_
  refine awp_for [0, 1, 5] (fun i : Nat => [.vec (l.map I1) false, .int .i64 s, .int .i64 i]) (fun _ => H) (fun i => l.length - i) (fun i => i ≤ l.length ∧ ∀ j, j < i → ∀ x, l[j]? = some x → x < s) 0 rfl rfl ⟨Nat.zero_le _, fun j hj => by omega⟩ fun i hs => ?_
  obtain ⟨hi, hp⟩ := hs
  refine awp_seq ?_
  refine awp_seq ?_
  have e1 : ((l.map I1).drop 0).take (i - 0) = (l.take i).map I1 := by simp [List.map_take]
  have e2 : ((l.map I1).drop i).take (l.length - i) = (l.drop i).map I1 := by rw [List.take_of_length_le (by simp), List.map_drop]
  have hti : (l.take i).length = i := by rw [List.length_take]; omega
  have htd : (l.drop i).length = l.length - i := List.length_drop ..
  by_cases hc : (i : Int) < l.length
  rotate_left
  · refine awp_run rfl (by simp only [fwA, seval, gfw, bx, dx, hc] <;> rfl) ?_
    refine awp_cond (b := false) (by simp [alook, aput, ev]) ?_
    refine awp_exit ?_
    have hadd : addI l s = l.take i ++ s :: l.drop i := add_ins hp fun x hx => by
      rw [List.getElem?_eq_none (by omega)] at hx; cases hx
    refine awp_seq ?_
    refine awp_seq ?_
    refine awp_run rfl (by simp only [fwA, seval, gfw, bx, dx, hc] <;> rfl) ?_
    refine awp_cond (b := false) (by simp [alook, aput, ev]) (awp_skip ?_)
    refine awp_seq ?_
    refine awp_drawn [0, 0, 0, 3, 0, 0, 2, 0, 0, 0, 2, 0] [0, 0, 3, 7, 0, 16, 63, 0, 0, 384, 1023, 2047] mixed rfl (by kernel_rfl) ?_
    refine dops_run 2 (by simp only [fwA, seval] <;> rfl) ?_
    refine dops_one (.vec ((l.take i).map I1) false) rfl rfl (fun H A' hev => os_sliceVec (l := 0) (h := i) (es := l.map I1) (f := false) rfl el59 ((hev _ (by simp [Op.operands])).trans rfl) (fun e he => by obtain ⟨x, _, rfl⟩ := List.mem_map.1 he; rfl) rfl ⟨_, (hev _ (by simp [Op.operands])).trans rfl⟩ trivial (Nat.zero_le _) (by rw [List.length_map]; omega) ⟨congrArg (fun z => PV.vec z false) e1, rfl⟩) ?_
    refine dops_appendNew (xs := ((l.take i).map I1).flatten) (n := i) rfl rfl (.inr rfl) (Nat.le_refl _) un59 ti3 un59 (.inl ⟨_, rfl⟩) (by decide) rfl (by simp only [fwA, seval] <;> rfl) (fun es f h e he => by
        simp only [fwA, seval, PV.vec.injEq] at h
        obtain ⟨rfl, rfl⟩ := h
        obtain ⟨x, _, rfl⟩ := List.mem_map.1 he
        rfl) (by simp only [fwA, seval, alen, List.length_map, hti]) (by show i * 8 ≤ _; omega) (by omega) ?_
    refine dops_run 2 (by simp only [fwA, seval, bx] <;> rfl) ?_
    refine dops_appendR (b := H.length) (q := 0) (k := i) (n := 1) (cs := ((l.take i).map I1).flatten) (xs := [.int .i64 s]) rfl rfl rfl un59 ti3 un59 (.inl ⟨_, rfl⟩) rfl (by simp only [fwA, seval] <;> rfl) (by rw [flat_len I1_len, hti]; exact (Nat.zero_add _).symm) (by simp only [fwA, seval] <;> rfl) (fun es f h e he => by
        simp only [fwA, seval, PV.vec.injEq] at h
        obtain ⟨rfl, rfl⟩ := h
        simp only [List.mem_singleton] at he
        subst he; rfl) (by simp only [fwA, seval] <;> rfl) (by show (i + 1) * 8 ≤ _; omega) (by omega) ?_
    refine dops_run 2 (by simp only [fwA, seval] <;> rfl) ?_
    refine dops_one (.vec ((l.drop i).map I1) false) rfl rfl (fun H A' hev => os_sliceVec (l := i) (h := l.length) (es := l.map I1) (f := false) rfl el59 ((hev _ (by simp [Op.operands])).trans rfl) (fun e he => by obtain ⟨x, _, rfl⟩ := List.mem_map.1 he; rfl) ⟨_, (hev _ (by simp [Op.operands])).trans rfl⟩ (by rw [onOpt, List.length_map]) trivial hi (by rw [List.length_map]; omega) ⟨congrArg (fun z => PV.vec z false) e2, rfl⟩) ?_
    refine dops_appendR (b := H.length) (q := 0) (k := i + 1) (n := l.length - i) (cs := ((l.take i).map I1).flatten ++ [.int .i64 s]) (xs := ((l.drop i).map I1).flatten) rfl rfl rfl un59 ti3 un59 (.inl ⟨_, rfl⟩) rfl (by simp only [fwA, seval] <;> rfl) (by rw [List.length_append, flat_len I1_len, hti]; simp) (by simp only [fwA, seval] <;> rfl) (fun es f h e he => by
        simp only [fwA, seval, PV.vec.injEq] at h
        obtain ⟨rfl, rfl⟩ := h
        obtain ⟨x, _, rfl⟩ := List.mem_map.1 he
        rfl) (by simp only [fwA, seval, alen, List.length_map, htd]) (by show (i + 1 + (l.length - i)) * 8 ≤ _; omega) (by omega) ?_
    refine dops_run 1 (by simp only [fwA, seval] <;> rfl) ?_
    refine dops_end ?_
    have hC : (((l.take i ++ s :: l.drop i).map I1).flatten) = ((l.take i).map I1).flatten ++ [.int .i64 s] ++ ((l.drop i).map I1).flatten := by simp [I1]
    have hCl : (l.take i ++ s :: l.drop i).length = l.length + 1 := by rw [List.length_append, List.length_cons, hti, htd]; omega
    rw [hadd]
    refine awp_keep (A' := [(4, .row H.length 0 (l.length + 1) 1)]) [4] (by simp only [akeep, alook, aput, ev, show i + 1 + (l.length - i) = l.length + 1 by omega] <;> rfl) ?_
    generalize l.take i ++ s :: l.drop i = r at hC hCl ⊢
    refine awp_heap (H' := H ++ [.row 1 ((r.map I1).flatten)]) (by rw [hC]; simp) ?_
    refine awp_told (told_freezeAt H _ 0 (C := (r.map I1).flatten) rfl (flat_bd (fun t => by simp only [I1_fw]) _)) ?_
    have hch := flat_chunk I1_len r
    have hfl := flat_len I1_len r
    rw [hCl] at hch hfl
    generalize l.length + 1 = m at hch hfl ⊢
    refine awp_ret (gives_end (.inl rfl) _ ?_)
    simp only [fwA, seval, ares, aresL, ares1, Tryz.f97, hfl, hch]
  have hia : i < l.length := by omega
  have ga : l[i]? = some l[i] := List.getElem?_eq_getElem hia
  generalize l[i] = x at ga
  by_cases hlt : x < s
  rotate_left
  · refine awp_run rfl (by simp only [fwA, seval, gfw, bx, dx, hc, ga, hlt] <;> rfl) ?_
    refine awp_cond (b := false) (by simp [alook, aput, ev]) ?_
    refine awp_exit ?_
    by_cases hxs : x = s
    · subst hxs
      have hadd := add_found hp ga
      refine awp_seq ?_
      refine awp_seq ?_
      refine awp_run rfl (by simp only [fwA, seval, gfw, bx, dx, hc, ga] <;> rfl) ?_
      refine awp_cond (b := true) (by simp [alook, aput, ev]) ?_
      refine awp_seq (awp_run rfl (by simp only [fwA, seval] <;> rfl) (awp_ret ?_))
      exact gives_end0 (.inl rfl) (by rw [hadd]; rfl)
    have hadd : addI l s = l.take i ++ s :: l.drop i := add_ins hp fun y hy => by
      rw [ga] at hy; cases hy; exact ⟨hlt, hxs⟩
    refine awp_seq ?_
    refine awp_seq ?_
    refine awp_run rfl (by simp only [fwA, seval, gfw, bx, dx, hc, ga, hxs] <;> rfl) ?_
    refine awp_cond (b := false) (by simp [alook, aput, ev]) (awp_skip ?_)
    refine awp_seq ?_
    refine awp_drawn [0, 0, 0, 3, 0, 0, 2, 0, 0, 0, 2, 0] [0, 0, 3, 7, 0, 16, 63, 0, 0, 384, 1023, 2047] mixed rfl (by kernel_rfl) ?_
    refine dops_run 2 (by simp only [fwA, seval] <;> rfl) ?_
    refine dops_one (.vec ((l.take i).map I1) false) rfl rfl (fun H A' hev => os_sliceVec (l := 0) (h := i) (es := l.map I1) (f := false) rfl el59 ((hev _ (by simp [Op.operands])).trans rfl) (fun e he => by obtain ⟨x, _, rfl⟩ := List.mem_map.1 he; rfl) rfl ⟨_, (hev _ (by simp [Op.operands])).trans rfl⟩ trivial (Nat.zero_le _) (by rw [List.length_map]; omega) ⟨congrArg (fun z => PV.vec z false) e1, rfl⟩) ?_
    refine dops_appendNew (xs := ((l.take i).map I1).flatten) (n := i) rfl rfl (.inr rfl) (Nat.le_refl _) un59 ti3 un59 (.inl ⟨_, rfl⟩) (by decide) rfl (by simp only [fwA, seval] <;> rfl) (fun es f h e he => by
        simp only [fwA, seval, PV.vec.injEq] at h
        obtain ⟨rfl, rfl⟩ := h
        obtain ⟨x, _, rfl⟩ := List.mem_map.1 he
        rfl) (by simp only [fwA, seval, alen, List.length_map, hti]) (by show i * 8 ≤ _; omega) (by omega) ?_
    refine dops_run 2 (by simp only [fwA, seval, bx] <;> rfl) ?_
    refine dops_appendR (b := H.length) (q := 0) (k := i) (n := 1) (cs := ((l.take i).map I1).flatten) (xs := [.int .i64 s]) rfl rfl rfl un59 ti3 un59 (.inl ⟨_, rfl⟩) rfl (by simp only [fwA, seval] <;> rfl) (by rw [flat_len I1_len, hti]; exact (Nat.zero_add _).symm) (by simp only [fwA, seval] <;> rfl) (fun es f h e he => by
        simp only [fwA, seval, PV.vec.injEq] at h
        obtain ⟨rfl, rfl⟩ := h
        simp only [List.mem_singleton] at he
        subst he; rfl) (by simp only [fwA, seval] <;> rfl) (by show (i + 1) * 8 ≤ _; omega) (by omega) ?_
    refine dops_run 2 (by simp only [fwA, seval] <;> rfl) ?_
    refine dops_one (.vec ((l.drop i).map I1) false) rfl rfl (fun H A' hev => os_sliceVec (l := i) (h := l.length) (es := l.map I1) (f := false) rfl el59 ((hev _ (by simp [Op.operands])).trans rfl) (fun e he => by obtain ⟨x, _, rfl⟩ := List.mem_map.1 he; rfl) ⟨_, (hev _ (by simp [Op.operands])).trans rfl⟩ (by rw [onOpt, List.length_map]) trivial hi (by rw [List.length_map]; omega) ⟨congrArg (fun z => PV.vec z false) e2, rfl⟩) ?_
    refine dops_appendR (b := H.length) (q := 0) (k := i + 1) (n := l.length - i) (cs := ((l.take i).map I1).flatten ++ [.int .i64 s]) (xs := ((l.drop i).map I1).flatten) rfl rfl rfl un59 ti3 un59 (.inl ⟨_, rfl⟩) rfl (by simp only [fwA, seval] <;> rfl) (by rw [List.length_append, flat_len I1_len, hti]; simp) (by simp only [fwA, seval] <;> rfl) (fun es f h e he => by
        simp only [fwA, seval, PV.vec.injEq] at h
        obtain ⟨rfl, rfl⟩ := h
        obtain ⟨x, _, rfl⟩ := List.mem_map.1 he
        rfl) (by simp only [fwA, seval, alen, List.length_map, htd]) (by show (i + 1 + (l.length - i)) * 8 ≤ _; omega) (by omega) ?_
    refine dops_run 1 (by simp only [fwA, seval] <;> rfl) ?_
    refine dops_end ?_
    have hC : (((l.take i ++ s :: l.drop i).map I1).flatten) = ((l.take i).map I1).flatten ++ [.int .i64 s] ++ ((l.drop i).map I1).flatten := by simp [I1]
    have hCl : (l.take i ++ s :: l.drop i).length = l.length + 1 := by rw [List.length_append, List.length_cons, hti, htd]; omega
    rw [hadd]
    refine awp_keep (A' := [(4, .row H.length 0 (l.length + 1) 1)]) [4] (by simp only [akeep, alook, aput, ev, show i + 1 + (l.length - i) = l.length + 1 by omega] <;> rfl) ?_
    generalize l.take i ++ s :: l.drop i = r at hC hCl ⊢
    refine awp_heap (H' := H ++ [.row 1 ((r.map I1).flatten)]) (by rw [hC]; simp) ?_
    refine awp_told (told_freezeAt H _ 0 (C := (r.map I1).flatten) rfl (flat_bd (fun t => by simp only [I1_fw]) _)) ?_
    have hch := flat_chunk I1_len r
    have hfl := flat_len I1_len r
    rw [hCl] at hch hfl
    generalize l.length + 1 = m at hch hfl ⊢
    refine awp_ret (gives_end (.inl rfl) _ ?_)
    simp only [fwA, seval, ares, aresL, ares1, Tryz.f97, hfl, hch]
  refine awp_run rfl (by simp only [fwA, seval, gfw, bx, dx, hc, ga, hlt] <;> rfl) ?_
  refine awp_cond (b := true) (by simp [alook, aput, ev]) (awp_skip ?_)
  refine awp_block ?_
  refine awp_run rfl (by simp only [fwA, seval] <;> rfl) ?_
  refine ⟨i + 1, by omega, ⟨by omega, fun j hj y hy => ?_⟩, by rw [wrapS i (by omega)]; rfl, rfl, rfl⟩
  by_cases e : j = i
  · subst e; rw [ga] at hy; cases hy; exact hlt
  · exact hp j (by omega) y hy
end Go.Proofs.YteicbhkimepbaaaGreatDoor
namespace Go.Proofs.YteicbhkimepbaaaGreatDoor
set_option linter.unusedVariables false
set_option linter.unusedSimpArgs false
set_option maxRecDepth 100000
open Go.RowKit Fw
theorem vleF (es : List (List PV)) : PV.le (.vec es true) (.vec es false) := ⟨nofun, PV.leLL_refl es⟩
theorem addI_mem (s x : Int) : ∀ l : List Int, x ∈ addI l s ↔ x = s ∨ x ∈ l
  | [] => by simp [addI]
  | y :: l => by
    unfold addI
    split
    · rw [List.mem_cons, addI_mem s x l, List.mem_cons]; exact or_left_comm
    · split
      · rename_i h
        subst h
        simp only [List.mem_cons]
        constructor
        · exact fun h => .inr h
        · rintro (h | h)
          · exact .inl h
          · exact h
      · simp only [List.mem_cons]
theorem addI_rise (s : Int) : ∀ l : List Int, l.Pairwise (· < ·) → (addI l s).Pairwise (· < ·)
  | [], _ => by simp [addI]
  | y :: l, h => by
    obtain ⟨h1, h2⟩ := List.pairwise_cons.1 h
    unfold addI
    split
    · rename_i hy
      refine List.pairwise_cons.2 ⟨fun x hx => ?_, addI_rise s l h2⟩
      rcases (addI_mem s x l).1 hx with rfl | hx
      · exact hy
      · exact h1 x hx
    · split
      · exact h
      · refine List.pairwise_cons.2 ⟨fun x hx => ?_, h⟩
        rcases List.mem_cons.1 hx with rfl | hx
        · omega
        · have := h1 x hx; omega
theorem addI_len (s : Int) : ∀ l : List Int, (addI l s).length ≤ l.length + 1
  | [] => by simp [addI]
  | y :: l => by
    have := addI_len s l
    unfold addI
    split
    · simp only [List.length_cons]; omega
    · split <;> simp
def step1 (g : Int → Int × Bool) (o : List Int) (a : Int) : List Int := if (g a).2 then addI o (g a).1 else o
def stepD (g : Int → Int × Bool) (o : List Int) (p : Pr) : List Int := step1 g (step1 g o p.a) p.b
def listD (g : Int → Int × Bool) (l : List Pr) : List Int := l.foldl (stepD g) []
theorem step1_len (g : Int → Int × Bool) (o : List Int) (a : Int) : (step1 g o a).length ≤ o.length + 1 := by
  unfold step1
  split
  · exact addI_len _ _
  · omega
theorem step1_rise (g : Int → Int × Bool) (o : List Int) (a : Int) (h : o.Pairwise (· < ·)) : (step1 g o a).Pairwise (· < ·) := by
  unfold step1
  split
  · exact addI_rise _ _ h
  · exact h
theorem step1_mem (g : Int → Int × Bool) (o : List Int) (a x : Int) : x ∈ step1 g o a ↔ x ∈ outs g a ∨ x ∈ o := by
  unfold step1 outs
  split
  · rw [addI_mem, List.mem_singleton]
  · simp
theorem listD_snoc (g : Int → Int × Bool) (l : List Pr) (i : Nat) (p : Pr) (h : l[i]? = some p) : listD g (l.take (i + 1)) = stepD g (listD g (l.take i)) p := by
  unfold listD
  rw [List.take_add_one, h, List.foldl_append]; rfl
theorem foldD_len (g : Int → Int × Bool) : ∀ (l : List Pr) (o : List Int), (l.foldl (stepD g) o).length ≤ o.length + 2 * l.length
  | [], o => by simp
  | p :: l, o => by
    have h1 := foldD_len g l (stepD g o p)
    have h2 := step1_len g o p.a
    have h3 := step1_len g (step1 g o p.a) p.b
    rw [List.foldl_cons, List.length_cons]
    unfold stepD at *
    omega
theorem listD_len (g : Int → Int × Bool) (l : List Pr) : (listD g l).length ≤ 2 * l.length := by have := foldD_len g l []; unfold listD; simpa using this
theorem foldD_rise (g : Int → Int × Bool) : ∀ (l : List Pr) (o : List Int), o.Pairwise (· < ·) → (l.foldl (stepD g) o).Pairwise (· < ·)
  | [], _, h => h
  | p :: l, o, h => foldD_rise g l _ (step1_rise g _ _ (step1_rise g _ _ h))
theorem foldD_mem (g : Int → Int × Bool) (x : Int) : ∀ (l : List Pr) (o : List Int), x ∈ l.foldl (stepD g) o ↔ x ∈ outsP g l ∨ x ∈ o
  | [], o => by simp [outsP]
  | p :: l, o => by
    rw [List.foldl_cons, foldD_mem g x l]
    unfold stepD outsP
    rw [step1_mem, step1_mem, List.flatMap_cons, List.mem_append, List.mem_append]
    constructor
    · rintro (h | h | h | h)
      · exact .inl (.inr h)
      · exact .inl (.inl (.inr h))
      · exact .inl (.inl (.inl h))
      · exact .inr h
    · rintro ((( h | h) | h) | h)
      · exact .inr (.inr (.inl h))
      · exact .inr (.inl h)
      · exact .inl h
      · exact .inr (.inr (.inr h))
theorem listD_gath (g : Int → Int × Bool) (l : List Pr) : gath g l = listD g l := by
  unfold gath
  refine onceI_is (foldD_rise g l [] List.Pairwise.nil) fun x => ?_
  unfold listD
  rw [foldD_mem]; simp
theorem c65 (Γ : Nat → PV) (ps : List Pr) (hl : ps.length ≤ 1000000000) (ho : OkP ps) : Gives Tryz.prog Γ 65 [.vec (ps.map Pr.enc) false] (.vec ((gath gP ps).map I1) false) := by
  rw [listD_gath]
  refine fn_of_awp Tryz.func65 rfl (by simp [Tryz.f65]) rfl fun H => ?_
  refine awp_seq ?_
  refine awp_run rfl (by simp only [fwA, seval] <;> rfl) ?_
  refine awp_seq ?_
  refine awp_run rfl (by simp only [fwA, seval] <;> rfl) ?_
  refine awp_seq ?_
  refine awp_seq ?_
  refine awp_run rfl (by simp only [fwA, seval] <;> rfl) ?_
  refine awp_told (told_le 3 (.vec [] false) (vleF [])) ?_
  refine awp_block ?_
  refine awp_for [0, 3, 4] (fun i : Nat => [.vec (ps.map Pr.enc) false, .vec ((listD gP (ps.take i)).map I1) false, .int .i64 (i : Int)]) (fun _ => H) (fun i => ps.length - i) (fun i => i ≤ ps.length) 0 rfl rfl (Nat.zero_le _) fun i hi => ?_
  refine awp_seq ?_
  refine awp_seq ?_
  refine awp_run rfl (by simp only [fwA, seval, gfw, bx, dx] <;> rfl) ?_
  refine awp_cond (by simp only [fwA, seval] <;> rfl) ?_
  by_cases hc : (i : Int) < ps.length
  rotate_left
  · simp only [hc, decide_false, Bool.false_eq_true, ↓reduceIte]
    refine awp_exit ?_
    have e : i = ps.length := by omega
    subst e
    rw [List.take_length]
    refine awp_seq (awp_run rfl (by simp only [fwA, seval] <;> rfl) (awp_ret ?_))
    exact gives_end0 (.inl rfl) rfl
  simp only [hc, decide_true, ↓reduceIte]
  refine awp_skip ?_
  have hil : i < ps.length := by omega
  have ga : ps[i]? = some ps[i] := List.getElem?_eq_getElem hil
  have hst := listD_snoc gP ps i _ ga
  have hlen := listD_len gP (ps.take i)
  rw [List.length_take] at hlen
  have hpo := ho ps[i] (List.getElem_mem hil)
  generalize ps[i] = p at ga hst hpo
  generalize hO : listD gP (ps.take i) = O at *
  have hwi : IntKind.i64.wrap ((i : Int) + 1) = ((i + 1 : Nat) : Int) := wrapS i (by omega)
  have h1 := step1_len gP O p.a
  refine awp_seq ?_
  refine awp_block ?_
  refine awp_seq ?_
  refine awp_seq ?_
  refine awp_run rfl (by simp only [fwA, seval, gfw, bx, dx, ga] <;> rfl) ?_
  refine awp_cond (by simp only [fwA, seval] <;> rfl) ?_
  by_cases ha : p.a < 0
  · have e1 : step1 gP O p.a = addI O (pointOf p.a) := by unfold step1; rw [if_pos (by simp [gP, ha])]; rfl
    rw [e1] at h1
    simp only [ha, decide_true, ↓reduceIte]
    refine awp_region rfl ?_
    refine aops_run 6 (by simp only [fwA, seval, gfw, bx, dx, ga] <;> rfl) ?_
    refine aops_fn rfl rfl rfl en112 (c112 Γ p.a hpo.1) ?_
    refine aops_fn rfl rfl rfl en97 (c97 Γ O _ (by omega)) ?_
    refine aops_run 1 (by simp only [fwA, seval] <;> rfl) ?_
    refine aops_end ?_
    refine awp_seq ?_
    refine awp_run rfl (by simp only [fwA, seval, gfw, bx, dx, ga] <;> rfl) ?_
    refine awp_cond (by simp only [fwA, seval] <;> rfl) ?_
    by_cases hb : p.b < 0
    · have e2 : step1 gP (addI O (pointOf p.a)) p.b = addI (addI O (pointOf p.a)) (pointOf p.b) := by unfold step1; rw [if_pos (by simp [gP, hb])]; rfl
      simp only [hb, decide_true, ↓reduceIte]
      refine awp_region rfl ?_
      refine aops_run 6 (by simp only [fwA, seval, gfw, bx, dx, ga] <;> rfl) ?_
      refine aops_fn rfl rfl rfl en112 (c112 Γ p.b hpo.2) ?_
      refine aops_fn rfl rfl rfl en97 (c97 Γ (addI O (pointOf p.a)) _ (by omega)) ?_
      refine aops_run 1 (by simp only [fwA, seval] <;> rfl) ?_
      refine aops_end ?_
      refine awp_run rfl (by simp only [fwA, seval] <;> rfl) ?_
      refine ⟨i + 1, by omega, by omega, ?_, rfl, rfl⟩
      rw [hst]; unfold stepD; rw [e1, e2]; simp only [fwA, seval, gfw, hwi]
    · have e2 : step1 gP (addI O (pointOf p.a)) p.b = addI O (pointOf p.a) := by unfold step1; rw [if_neg (by simp [gP, hb])]
      simp only [hb, decide_false, Bool.false_eq_true, ↓reduceIte]
      refine awp_skip ?_
      refine awp_run rfl (by simp only [fwA, seval] <;> rfl) ?_
      refine ⟨i + 1, by omega, by omega, ?_, rfl, rfl⟩
      rw [hst]; unfold stepD; rw [e1, e2]; simp only [fwA, seval, gfw, hwi]
  · have e1 : step1 gP O p.a = O := by unfold step1; rw [if_neg (by simp [gP, ha])]
    simp only [ha, decide_false, Bool.false_eq_true, ↓reduceIte]
    refine awp_skip ?_
    refine awp_seq ?_
    refine awp_run rfl (by simp only [fwA, seval, gfw, bx, dx, ga] <;> rfl) ?_
    refine awp_cond (by simp only [fwA, seval] <;> rfl) ?_
    by_cases hb : p.b < 0
    · have e2 : step1 gP (O) p.b = addI (O) (pointOf p.b) := by unfold step1; rw [if_pos (by simp [gP, hb])]; rfl
      simp only [hb, decide_true, ↓reduceIte]
      refine awp_region rfl ?_
      refine aops_run 6 (by simp only [fwA, seval, gfw, bx, dx, ga] <;> rfl) ?_
      refine aops_fn rfl rfl rfl en112 (c112 Γ p.b hpo.2) ?_
      refine aops_fn rfl rfl rfl en97 (c97 Γ (O) _ (by omega)) ?_
      refine aops_run 1 (by simp only [fwA, seval] <;> rfl) ?_
      refine aops_end ?_
      refine awp_run rfl (by simp only [fwA, seval] <;> rfl) ?_
      refine ⟨i + 1, by omega, by omega, ?_, rfl, rfl⟩
      rw [hst]; unfold stepD; rw [e1, e2]; simp only [fwA, seval, gfw, hwi]
    · have e2 : step1 gP (O) p.b = O := by unfold step1; rw [if_neg (by simp [gP, hb])]
      simp only [hb, decide_false, Bool.false_eq_true, ↓reduceIte]
      refine awp_skip ?_
      refine awp_run rfl (by simp only [fwA, seval] <;> rfl) ?_
      refine ⟨i + 1, by omega, by omega, ?_, rfl, rfl⟩
      rw [hst]; unfold stepD; rw [e1, e2]; simp only [fwA, seval, gfw, hwi]
end Go.Proofs.YteicbhkimepbaaaGreatDoor
namespace Go.Proofs.YteicbhkimepbaaaGreatDoor
set_option linter.unusedVariables false
set_option linter.unusedSimpArgs false
set_option maxRecDepth 100000
open Go.RowKit Fw
theorem VP.first {c : List Pr} {a b : Int} (h : VP c a b) : ∃ p ∈ c, p.a = a := by
  induction h with
  | one h => exact ⟨_, h, rfl⟩
  | more _ _ _ ih => exact ih
theorem vp_a {c : List Pr} {a b : Int} (h : Rch c a b) (hab : a ≠ b) : ∃ p ∈ c, p.a = a := by
  rcases rch_iff.1 h with e | h
  · exact absurd e.symm hab
  · exact h.first
theorem vp_b {c : List Pr} {a b : Int} (h : Rch c a b) (hab : a ≠ b) : ∃ p ∈ c, p.b = b := by
  obtain ⟨p, hp, e⟩ := vp_a (c := flp c) (a := b) (b := a) (rch_flip.2 h) (fun e => hab e.symm)
  exact ⟨⟨p.b, p.a⟩, flp_mem.1 hp, e⟩
def lowX (c : List Pr) (a : Int) (l : List Int) : List Int := (l.filter fun p => rchB c (-1 - p) a).map fun p => -1 - p
def highX (c : List Pr) (a : Int) (l : List Int) : List Int := (l.filter fun p => rchB c a (-1 - p)).map fun p => -1 - p
theorem acc_app (f : Int → Int → Int) (s : Int) (l k : List Int) : accL f s (l ++ k) = accL f (accL f s l) k := by unfold accL; rw [List.foldl_append]
theorem lowX_snoc {f : Int → Int → Int} {s : Int} {c : List Pr} {a z : Int} {l : List Int} (h0 : 0 ≤ z) : accL f s (lowX c a (l ++ [z])) = if rchB c (-1 - z) a = true then f (accL f s (lowX c a l)) z else accL f s (lowX c a l) := by
  unfold lowX
  rw [List.filter_append, List.map_append, acc_app]
  by_cases h : rchB c (-1 - z) a = true
  · rw [if_pos h, show [z].filter (fun p => rchB c (-1 - p) a) = [z] by simp [h]]
    show (if -1 - z < 0 then f _ (-1 - (-1 - z)) else _) = _
    rw [if_pos (by omega), show -1 - (-1 - z) = z by omega]
  · rw [if_neg h, show [z].filter (fun p => rchB c (-1 - p) a) = [] by simp [h]]; rfl
theorem highX_snoc {f : Int → Int → Int} {s : Int} {c : List Pr} {a z : Int} {l : List Int} (h0 : 0 ≤ z) : accL f s (highX c a (l ++ [z])) = if rchB c a (-1 - z) = true then f (accL f s (highX c a l)) z else accL f s (highX c a l) := by
  unfold highX
  rw [List.filter_append, List.map_append, acc_app]
  by_cases h : rchB c a (-1 - z) = true
  · rw [if_pos h, show [z].filter (fun p => rchB c a (-1 - p)) = [z] by simp [h]]
    show (if -1 - z < 0 then f _ (-1 - (-1 - z)) else _) = _
    rw [if_pos (by omega), show -1 - (-1 - z) = z by omega]
  · rw [if_neg h, show [z].filter (fun p => rchB c a (-1 - p)) = [] by simp [h]]; rfl
theorem low_ref {ns : List (List UInt8)} {us : List Nat} {c : List Pr} {a : Int} (hk : knownB ns us c = true) (ha : 0 ≤ a) : accL (joinV ns us) (botV ns us) (lowX c a (gath gP c)) = lowV ns us c a := by
  obtain ⟨hR, hp⟩ := known_spec.1 hk
  obtain ⟨_, _, _, _, r5⟩ := right_spec hR
  obtain ⟨b, eb, hb⟩ := bot_nat hR
  obtain ⟨x, ex, hx⟩ := low_nat hk ha
  have hmem : ∀ y, y ∈ lowX c a (gath gP c) ↔ ∃ q ∈ gath gP c, Rch c (-1 - q) a ∧ -1 - q = y := fun y => by
    unfold lowX
    rw [List.mem_map]
    constructor
    · rintro ⟨q, hq, rfl⟩; rw [List.mem_filter] at hq; exact ⟨q, hq.1, rchB_iff.1 hq.2, rfl⟩
    · rintro ⟨q, hq, h, rfl⟩; exact ⟨q, List.mem_filter.2 ⟨hq, rchB_iff.2 h⟩, rfl⟩
  obtain ⟨j, e, hj⟩ := acc_lub (r := lq us) (f := joinV ns us) (fun x y hx hy => join_nat hR hx hy) (lowX c a (gath gP c)) (fun y hy h0 => by
    obtain ⟨q, hq, h1, rfl⟩ := (hmem y).1 hy
    obtain ⟨p, hpc, ep⟩ := vp_a h1 (by have := ((points_mem c q).1 hq).1; omega)
    rw [← ep]
    exact (hp p hpc).1 (by rw [ep]; exact h0)) (lub_bot hb (P := fun _ => False) fun _ _ h => h)
  rw [eb, e, ex, lub_uniq r5.toOrd hj (lub_congr hx fun p _ => ?_)]
  rw [hmem]
  constructor
  · intro h
    obtain ⟨q, hq, e⟩ := vp_a h (by omega)
    exact .inr ⟨(p : Int), (points_mem c p).2 ⟨by omega, q, hq, .inl e.symm⟩, h, rfl⟩
  · rintro (h | ⟨q, _, h, e⟩)
    · exact h.elim
    · rw [e] at h; exact h
theorem high_ref {ns : List (List UInt8)} {us : List Nat} {c : List Pr} {a : Int} (hk : knownB ns us c = true) (ha : 0 ≤ a) : accL (meetV ns us) (topV ns us) (highX c a (gath gP c)) = highV ns us c a := by
  obtain ⟨hR, hp⟩ := known_spec.1 hk
  obtain ⟨_, _, _, _, r5⟩ := right_spec hR
  obtain ⟨b, eb, hb⟩ := top_nat hR
  obtain ⟨x, ex, hx⟩ := high_nat hk ha
  have hmem : ∀ y, y ∈ highX c a (gath gP c) ↔ ∃ q ∈ gath gP c, Rch c a (-1 - q) ∧ -1 - q = y := fun y => by
    unfold highX
    rw [List.mem_map]
    constructor
    · rintro ⟨q, hq, rfl⟩; rw [List.mem_filter] at hq; exact ⟨q, hq.1, rchB_iff.1 hq.2, rfl⟩
    · rintro ⟨q, hq, h, rfl⟩; exact ⟨q, List.mem_filter.2 ⟨hq, rchB_iff.2 h⟩, rfl⟩
  obtain ⟨j, e, hj⟩ := acc_lub (r := tr (lq us)) (f := meetV ns us) (fun x y hx hy => meet_nat hR hx hy) (highX c a (gath gP c)) (fun y hy h0 => by
    obtain ⟨q, hq, h1, rfl⟩ := (hmem y).1 hy
    obtain ⟨p, hpc, ep⟩ := vp_b h1 (by have := ((points_mem c q).1 hq).1; omega)
    rw [← ep]
    exact (hp p hpc).2 (by rw [ep]; exact h0)) (lub_bot hb (P := fun _ => False) fun _ _ h => h)
  rw [eb, e, ex, lub_uniq r5.toOrd.tr hj (lub_congr hx fun p _ => ?_)]
  rw [hmem]
  constructor
  · intro h
    obtain ⟨q, hq, e⟩ := vp_b h (by omega)
    exact .inr ⟨(p : Int), (points_mem c p).2 ⟨by omega, q, hq, .inr e.symm⟩, h, rfl⟩
  · rintro (h | ⟨q, _, h, e⟩)
    · exact h.elim
    · rw [e] at h; exact h
theorem c66 (Γ : Nat → PV) (ns : List (List UInt8)) (us : List Nat) (p : Int) : Gives Tryz.prog Γ 66 [.agg [.vec (ns.map S1) false, .vec (us.map U1) false], .int .i64 p] (.bool (ptB ns.length p)) := by
  refine fn_of_awp Tryz.func66 rfl (by simp [Tryz.f66]) rfl fun H => ?_
  refine awp_seq ?_
  refine awp_run rfl (by simp only [fwA, seval, gfw, bx, dx, bitfw] <;> rfl) ?_
  refine awp_seq ?_
  by_cases h0 : 0 ≤ p
  · by_cases h1 : p < ns.length
    · rw [show ptB ns.length p = true from ptB_iff.2 ⟨h0, h1⟩]
      refine awp_run rfl (by simp only [fwA, seval, gfw, bx, dx, bitfw, h0, h1] <;> rfl) ?_
      refine awp_ret ?_
      exact gives_end (.inl rfl) _ rfl
    · rw [show ptB ns.length p = false by unfold ptB; simp [h1]]
      refine awp_run rfl (by simp only [fwA, seval, gfw, bx, dx, bitfw, h0, h1] <;> rfl) ?_
      refine awp_ret ?_
      exact gives_end (.inl rfl) _ rfl
  · rw [show ptB ns.length p = false by unfold ptB; simp [h0]]
    refine awp_run rfl (by simp only [fwA, seval, gfw, bx, dx, bitfw, h0] <;> rfl) ?_
    refine awp_ret ?_
    exact gives_end (.inl rfl) _ rfl
set_option maxHeartbeats 4000000 in
theorem c18 (Γ : Nat → PV) (ns : List (List UInt8)) (us : List Nat) (hw : W64 us) (c : List Pr) (hl : c.length ≤ 100000000) (ho : OkP c) : Gives Tryz.prog Γ 18 [.agg [.vec (ns.map S1) false, .vec (us.map U1) false], .vec (c.map Pr.enc) false] (.bool (knownB ns us c)) := by
  have h64 := c64 Γ ns us hw
  have h65 := c65 Γ c (by omega) ho
  have hpl := both_le c
  refine fn_of_awp Tryz.func18 rfl (by simp [Tryz.f18]) rfl fun H => ?_
  refine awp_seq ?_
  refine awp_run rfl (by simp only [fwA, seval, gfw, bx, dx, bitfw] <;> rfl) ?_
  refine awp_seq ?_
  refine awp_seq ?_
  unfold knownB
  cases hR : rightB ns us
  · rw [hR] at h64
    refine awp_region rfl ?_
    refine aops_run 1 (by simp only [fwA, seval, gfw, bx, dx, bitfw] <;> rfl) ?_
    refine aops_fn rfl rfl rfl en64 h64 ?_
    refine aops_run 1 (by simp only [fwA, seval, gfw, bx, dx, bitfw] <;> rfl) ?_
    refine aops_end ?_
    refine awp_cond (b := true) (by simp [alook, aput, ev]) ?_
    refine awp_seq ?_
    refine awp_run rfl (by simp only [fwA, seval] <;> rfl) ?_
    refine awp_ret ?_
    exact gives_end (.inl rfl) _ rfl
  rw [hR] at h64
  refine awp_region rfl ?_
  refine aops_run 1 (by simp only [fwA, seval, gfw, bx, dx, bitfw] <;> rfl) ?_
  refine aops_fn rfl rfl rfl en64 h64 ?_
  refine aops_run 1 (by simp only [fwA, seval, gfw, bx, dx, bitfw] <;> rfl) ?_
  refine aops_end ?_
  refine awp_cond (b := false) (by simp [alook, aput, ev]) (awp_skip ?_)
  generalize gath gP c = q at *
  refine awp_seq ?_
  refine awp_region rfl ?_
  refine aops_run 1 (by simp only [fwA, seval, gfw, bx, dx, bitfw] <;> rfl) ?_
  refine aops_fn rfl rfl rfl en65 h65 ?_
  refine aops_run 1 (by simp only [fwA, seval, gfw, bx, dx, bitfw] <;> rfl) ?_
  refine aops_end ?_
  refine awp_seq ?_
  refine awp_seq ?_
  refine awp_run rfl (by simp only [fwA, seval] <;> rfl) ?_
  refine awp_block ?_
  refine awp_for [2, 4, 5, 6] (fun i : Nat => [.ptr H.length 0, .bool false, .vec (q.map I1) false, .int .i64 (i : Int)]) (fun _ => H ++ [.box [.vec (ns.map S1) false, .vec (us.map U1) false]]) (fun i => q.length - i) (fun i => i ≤ q.length ∧ ((q.take i).all fun p => ptB ns.length p) = true) 0 rfl rfl ⟨Nat.zero_le _, by simp⟩ fun i ⟨hi, hall⟩ => ?_
  refine awp_seq ?_
  refine awp_seq ?_
  by_cases hc : (i : Int) < q.length
  rotate_left
  · refine awp_run rfl (by simp only [fwA, seval, gfw, bx, dx, bitfw, hc] <;> rfl) ?_
    refine awp_cond (b := false) (by simp [alook, aput, ev]) ?_
    refine awp_exit ?_
    rw [List.take_of_length_le (by omega)] at hall
    rw [hall]
    refine awp_seq ?_
    refine awp_run rfl (by simp only [fwA, seval] <;> rfl) ?_
    refine awp_ret ?_
    exact gives_end (.inl rfl) _ rfl
  have hi' : i < q.length := by omega
  obtain ⟨z, hz⟩ : ∃ z, q[i]? = some z := ⟨_, List.getElem?_eq_getElem hi'⟩
  have hts := take_snoc hz
  have hwi : IntKind.i64.wrap ((i : Int) + 1) = ((i + 1 : Nat) : Int) := wrapS i (by omega)
  have h66 := c66 Γ ns us z
  refine awp_run rfl (by simp only [fwA, seval, gfw, bx, dx, bitfw, hc] <;> rfl) ?_
  refine awp_cond (b := true) (by simp [alook, aput, ev]) ?_
  refine awp_skip ?_
  refine awp_seq ?_
  refine awp_block ?_
  refine awp_seq ?_
  cases hp : ptB ns.length z
  · rw [hp] at h66
    have e : (q.all fun p => ptB ns.length p) = false := by
      rw [List.all_eq_false]
      exact ⟨z, List.mem_of_getElem? hz, by rw [hp]; decide⟩
    refine awp_drawn [1, 0, 0, 0, 1, 0, 0] [0, 0, 0, 6, 14, 31, 63] mixed rfl (by kernel_rfl) ?_
    refine dops_run 5 (by simp only [fwA, seval, gfw, bx, dx, bitfw, hz] <;> rfl) ?_
    refine dops_fn rfl (by simp only [fwA, seval] <;> rfl) rfl rfl en66 h66 ?_
    refine dops_run 1 (by simp only [fwA, seval, gfw, bx, dx, bitfw, hz] <;> rfl) ?_
    refine dops_end ?_
    refine awp_cond (b := true) (by simp [alook, aput, ev]) ?_
    refine awp_seq ?_
    refine awp_run rfl (by simp only [fwA, seval] <;> rfl) ?_
    rw [e]
    refine awp_ret ?_
    exact gives_end (.inl rfl) _ rfl
  · rw [hp] at h66
    refine awp_drawn [1, 0, 0, 0, 1, 0, 0] [0, 0, 0, 6, 14, 31, 63] mixed rfl (by kernel_rfl) ?_
    refine dops_run 5 (by simp only [fwA, seval, gfw, bx, dx, bitfw, hz] <;> rfl) ?_
    refine dops_fn rfl (by simp only [fwA, seval] <;> rfl) rfl rfl en66 h66 ?_
    refine dops_run 1 (by simp only [fwA, seval, gfw, bx, dx, bitfw, hz] <;> rfl) ?_
    refine dops_end ?_
    refine awp_cond (b := false) (by simp [alook, aput, ev]) (awp_skip ?_)
    refine awp_run rfl (by simp only [fwA, seval] <;> rfl) ?_
    exact ⟨i + 1, by omega, ⟨by omega, by rw [hts, List.all_append, hall]; simp [hp]⟩, by simp only [fwA, seval, gfw, hwi], rfl, rfl⟩
set_option maxHeartbeats 8000000 in
theorem c29 (Γ : Nat → PV) (ns : List (List UInt8)) (us : List Nat) (hw : W64 us) (c : List Pr) (hl : c.length ≤ 10000000) (ho : OkP c) (a : Int) (ha : I64 a) : Gives Tryz.prog Γ 29 [.agg [.vec (ns.map S1) false, .vec (us.map U1) false], .vec (c.map Pr.enc) false, .int .i64 a] (.int .i64 (lowV ns us c a)) := by
  have h18 := c18 Γ ns us hw c (by omega) ho
  have h56 := c56 Γ ns us hw
  have h65 := c65 Γ c (by omega) ho
  have hpl := both_le c
  refine fn_of_awp Tryz.func29 rfl (by simp [Tryz.f29]) rfl fun H => ?_
  refine awp_seq ?_
  refine awp_run rfl (by simp only [fwA, seval, gfw, bx, dx, bitfw] <;> rfl) ?_
  refine awp_seq ?_
  refine awp_seq ?_
  cases hk : knownB ns us c
  · rw [show lowV ns us c a = -1 by unfold lowV; rw [if_neg (by rw [hk]; decide)]]
    rw [hk] at h18
    refine awp_region rfl ?_
    refine aops_run 2 (by simp only [fwA, seval, gfw, bx, dx, bitfw] <;> rfl) ?_
    refine aops_fn rfl rfl rfl en18 h18 ?_
    refine aops_run 1 (by simp only [fwA, seval, gfw, bx, dx, bitfw] <;> rfl) ?_
    refine aops_end ?_
    refine awp_cond (b := true) (by simp [alook, aput, ev]) ?_
    refine awp_seq ?_
    refine awp_run rfl (by simp only [fwA, seval] <;> rfl) ?_
    refine awp_ret ?_
    exact gives_end (.inl rfl) _ rfl
  rw [hk] at h18
  refine awp_region rfl ?_
  refine aops_run 2 (by simp only [fwA, seval, gfw, bx, dx, bitfw] <;> rfl) ?_
  refine aops_fn rfl rfl rfl en18 h18 ?_
  refine aops_run 1 (by simp only [fwA, seval, gfw, bx, dx, bitfw] <;> rfl) ?_
  refine aops_end ?_
  refine awp_cond (b := false) (by simp [alook, aput, ev]) (awp_skip ?_)
  refine awp_seq ?_
  refine awp_seq ?_
  have ha1 := ha.1
  have ha2 := ha.2
  by_cases h0 : a < 0
  · have hwa : IntKind.i64.wrap (-1 - a) = -1 - a := wrapId ⟨by omega, by omega⟩
    rw [show lowV ns us c a = ptN ns.length a by unfold lowV boundV; rw [if_pos hk, if_pos h0]]
    unfold ptN
    refine awp_run rfl (by simp only [fwA, seval, gfw, bx, dx, bitfw, h0] <;> rfl) ?_
    refine awp_cond (b := true) (by simp [alook, aput, ev]) ?_
    refine awp_seq ?_
    refine awp_seq ?_
    by_cases h1 : (ns.length : Int) ≤ -1 - a
    · rw [if_pos h1]
      refine awp_run rfl (by simp only [fwA, seval, gfw, bx, dx, bitfw, hwa, h1] <;> rfl) ?_
      refine awp_cond (b := true) (by simp [alook, aput, ev]) ?_
      refine awp_seq ?_
      refine awp_run rfl (by simp only [fwA, seval] <;> rfl) ?_
      refine awp_ret ?_
      exact gives_end (.inl rfl) _ rfl
    · rw [if_neg h1]
      refine awp_run rfl (by simp only [fwA, seval, gfw, bx, dx, bitfw, hwa, h1] <;> rfl) ?_
      refine awp_cond (b := false) (by simp [alook, aput, ev]) (awp_skip ?_)
      refine awp_seq ?_
      refine awp_run rfl (by simp only [fwA, seval, gfw, bx, dx, bitfw, hwa] <;> rfl) ?_
      refine awp_ret ?_
      exact gives_end (.inl rfl) _ rfl
  refine awp_run rfl (by simp only [fwA, seval, gfw, bx, dx, bitfw, h0] <;> rfl) ?_
  refine awp_cond (b := false) (by simp [alook, aput, ev]) (awp_skip ?_)
  rw [← low_ref hk (by omega)]
  have hpt : ∀ x ∈ gath gP c, 0 ≤ x ∧ I64 x := fun x hx => ⟨((points_mem c x).1 hx).1, pt_word ho hx⟩
  generalize gath gP c = q at *
  refine awp_seq ?_
  refine awp_region rfl ?_
  refine aops_run 1 (by simp only [fwA, seval, gfw, bx, dx, bitfw] <;> rfl) ?_
  refine aops_fn rfl rfl rfl en56 h56 ?_
  refine aops_run 1 (by simp only [fwA, seval, gfw, bx, dx, bitfw] <;> rfl) ?_
  refine aops_end ?_
  refine awp_seq ?_
  refine awp_region rfl ?_
  refine aops_run 1 (by simp only [fwA, seval, gfw, bx, dx, bitfw] <;> rfl) ?_
  refine aops_fn rfl rfl rfl en65 h65 ?_
  refine aops_run 1 (by simp only [fwA, seval, gfw, bx, dx, bitfw] <;> rfl) ?_
  refine aops_end ?_
  refine awp_seq ?_
  refine awp_seq ?_
  refine awp_run rfl (by simp only [fwA, seval] <;> rfl) ?_
  refine awp_block ?_
  refine awp_for [1, 2, 3, 7, 8, 9] (fun i : Nat => [.vec (c.map Pr.enc) false, .int .i64 a, .ptr H.length 0, .int .i64 (accL (joinV ns us) (botV ns us) (lowX c a (q.take i))), .vec (q.map I1) false, .int .i64 (i : Int)]) (fun _ => H ++ [.box [.vec (ns.map S1) false, .vec (us.map U1) false]]) (fun i => q.length - i) (fun i => i ≤ q.length) 0 rfl rfl (Nat.zero_le _) fun i hi => ?_
  refine awp_seq ?_
  refine awp_seq ?_
  by_cases hc : (i : Int) < q.length
  rotate_left
  · refine awp_run rfl (by simp only [fwA, seval, gfw, bx, dx, bitfw, hc] <;> rfl) ?_
    refine awp_cond (b := false) (by simp [alook, aput, ev]) ?_
    refine awp_exit ?_
    rw [List.take_of_length_le (show q.length ≤ i by omega)]
    refine awp_seq ?_
    refine awp_run rfl (by simp only [fwA, seval] <;> rfl) ?_
    refine awp_ret ?_
    exact gives_end (.inl rfl) _ rfl
  have hi' : i < q.length := by omega
  obtain ⟨z, hz⟩ : ∃ z, q[i]? = some z := ⟨_, List.getElem?_eq_getElem hi'⟩
  have hts := take_snoc hz
  have hwi : IntKind.i64.wrap ((i : Int) + 1) = ((i + 1 : Nat) : Int) := wrapS i (by omega)
  obtain ⟨z0, z1⟩ := hpt z (List.mem_of_getElem? hz)
  have z2 := z1.2
  have hwz : IntKind.i64.wrap (-1 - z) = -1 - z := wrapId ⟨by omega, by omega⟩
  have h27 := c27 Γ c (-1 - z) a hl
  have hsn : accL (joinV ns us) (botV ns us) (lowX c a (q.take (i + 1))) = if rchB c (-1 - z) a = true then joinV ns us (accL (joinV ns us) (botV ns us) (lowX c a (q.take i))) z else accL (joinV ns us) (botV ns us) (lowX c a (q.take i)) := by rw [hts]; exact lowX_snoc z0
  generalize hP : accL (joinV ns us) (botV ns us) (lowX c a (q.take i)) = P at *
  have h58 := c58 Γ ns us hw P z
  refine awp_run rfl (by simp only [fwA, seval, gfw, bx, dx, bitfw, hc] <;> rfl) ?_
  refine awp_cond (b := true) (by simp [alook, aput, ev]) ?_
  refine awp_skip ?_
  refine awp_seq ?_
  refine awp_block ?_
  refine awp_seq ?_
  cases hr : rchB c (-1 - z) a
  · rw [hr] at h27
    rw [if_neg (by rw [hr]; decide)] at hsn
    refine awp_region rfl ?_
    refine aops_run 7 (by simp only [fwA, seval, gfw, bx, dx, bitfw, hz, hwz] <;> rfl) ?_
    refine aops_fn rfl rfl rfl en27 h27 ?_
    refine aops_end ?_
    refine awp_cond (b := false) (by simp [alook, aput, ev]) (awp_skip ?_)
    refine awp_run rfl (by simp only [fwA, seval] <;> rfl) ?_
    exact ⟨i + 1, by omega, by omega, by simp only [fwA, seval, gfw, hwi, hsn], rfl, rfl⟩
  · rw [hr] at h27
    rw [if_pos hr] at hsn
    refine awp_region rfl ?_
    refine aops_run 7 (by simp only [fwA, seval, gfw, bx, dx, bitfw, hz, hwz] <;> rfl) ?_
    refine aops_fn rfl rfl rfl en27 h27 ?_
    refine aops_end ?_
    refine awp_cond (b := true) (by simp [alook, aput, ev]) ?_
    refine awp_drawn [1, 0, 0, 0, 0, 1, 0, 0] [0, 0, 0, 0, 12, 28, 63, 127] mixed rfl (by kernel_rfl) ?_
    refine dops_run 6 (by simp only [fwA, seval, gfw, bx, dx, bitfw, hz] <;> rfl) ?_
    refine dops_fn rfl (by simp only [fwA, seval] <;> rfl) rfl rfl en58 h58 ?_
    refine dops_run 1 (by simp only [fwA, seval, gfw, bx, dx, bitfw, hz] <;> rfl) ?_
    refine dops_end ?_
    refine awp_run rfl (by simp only [fwA, seval] <;> rfl) ?_
    exact ⟨i + 1, by omega, by omega, by simp only [fwA, seval, gfw, hwi, hsn], rfl, rfl⟩
set_option maxHeartbeats 8000000 in
theorem c31 (Γ : Nat → PV) (ns : List (List UInt8)) (us : List Nat) (hw : W64 us) (c : List Pr) (hl : c.length ≤ 10000000) (ho : OkP c) (a : Int) (ha : I64 a) : Gives Tryz.prog Γ 31 [.agg [.vec (ns.map S1) false, .vec (us.map U1) false], .vec (c.map Pr.enc) false, .int .i64 a] (.int .i64 (highV ns us c a)) := by
  have h18 := c18 Γ ns us hw c (by omega) ho
  have h56 := c81 Γ ns us hw
  have h65 := c65 Γ c (by omega) ho
  have hpl := both_le c
  refine fn_of_awp Tryz.func31 rfl (by simp [Tryz.f31]) rfl fun H => ?_
  refine awp_seq ?_
  refine awp_run rfl (by simp only [fwA, seval, gfw, bx, dx, bitfw] <;> rfl) ?_
  refine awp_seq ?_
  refine awp_seq ?_
  cases hk : knownB ns us c
  · rw [show highV ns us c a = -1 by unfold highV; rw [if_neg (by rw [hk]; decide)]]
    rw [hk] at h18
    refine awp_region rfl ?_
    refine aops_run 2 (by simp only [fwA, seval, gfw, bx, dx, bitfw] <;> rfl) ?_
    refine aops_fn rfl rfl rfl en18 h18 ?_
    refine aops_run 1 (by simp only [fwA, seval, gfw, bx, dx, bitfw] <;> rfl) ?_
    refine aops_end ?_
    refine awp_cond (b := true) (by simp [alook, aput, ev]) ?_
    refine awp_seq ?_
    refine awp_run rfl (by simp only [fwA, seval] <;> rfl) ?_
    refine awp_ret ?_
    exact gives_end (.inl rfl) _ rfl
  rw [hk] at h18
  refine awp_region rfl ?_
  refine aops_run 2 (by simp only [fwA, seval, gfw, bx, dx, bitfw] <;> rfl) ?_
  refine aops_fn rfl rfl rfl en18 h18 ?_
  refine aops_run 1 (by simp only [fwA, seval, gfw, bx, dx, bitfw] <;> rfl) ?_
  refine aops_end ?_
  refine awp_cond (b := false) (by simp [alook, aput, ev]) (awp_skip ?_)
  refine awp_seq ?_
  refine awp_seq ?_
  have ha1 := ha.1
  have ha2 := ha.2
  by_cases h0 : a < 0
  · have hwa : IntKind.i64.wrap (-1 - a) = -1 - a := wrapId ⟨by omega, by omega⟩
    rw [show highV ns us c a = ptN ns.length a by unfold highV boundV; rw [if_pos hk, if_pos h0]]
    unfold ptN
    refine awp_run rfl (by simp only [fwA, seval, gfw, bx, dx, bitfw, h0] <;> rfl) ?_
    refine awp_cond (b := true) (by simp [alook, aput, ev]) ?_
    refine awp_seq ?_
    refine awp_seq ?_
    by_cases h1 : (ns.length : Int) ≤ -1 - a
    · rw [if_pos h1]
      refine awp_run rfl (by simp only [fwA, seval, gfw, bx, dx, bitfw, hwa, h1] <;> rfl) ?_
      refine awp_cond (b := true) (by simp [alook, aput, ev]) ?_
      refine awp_seq ?_
      refine awp_run rfl (by simp only [fwA, seval] <;> rfl) ?_
      refine awp_ret ?_
      exact gives_end (.inl rfl) _ rfl
    · rw [if_neg h1]
      refine awp_run rfl (by simp only [fwA, seval, gfw, bx, dx, bitfw, hwa, h1] <;> rfl) ?_
      refine awp_cond (b := false) (by simp [alook, aput, ev]) (awp_skip ?_)
      refine awp_seq ?_
      refine awp_run rfl (by simp only [fwA, seval, gfw, bx, dx, bitfw, hwa] <;> rfl) ?_
      refine awp_ret ?_
      exact gives_end (.inl rfl) _ rfl
  refine awp_run rfl (by simp only [fwA, seval, gfw, bx, dx, bitfw, h0] <;> rfl) ?_
  refine awp_cond (b := false) (by simp [alook, aput, ev]) (awp_skip ?_)
  rw [← high_ref hk (by omega)]
  have hpt : ∀ x ∈ gath gP c, 0 ≤ x ∧ I64 x := fun x hx => ⟨((points_mem c x).1 hx).1, pt_word ho hx⟩
  generalize gath gP c = q at *
  refine awp_seq ?_
  refine awp_region rfl ?_
  refine aops_run 1 (by simp only [fwA, seval, gfw, bx, dx, bitfw] <;> rfl) ?_
  refine aops_fn rfl rfl rfl en81 h56 ?_
  refine aops_run 1 (by simp only [fwA, seval, gfw, bx, dx, bitfw] <;> rfl) ?_
  refine aops_end ?_
  refine awp_seq ?_
  refine awp_region rfl ?_
  refine aops_run 1 (by simp only [fwA, seval, gfw, bx, dx, bitfw] <;> rfl) ?_
  refine aops_fn rfl rfl rfl en65 h65 ?_
  refine aops_run 1 (by simp only [fwA, seval, gfw, bx, dx, bitfw] <;> rfl) ?_
  refine aops_end ?_
  refine awp_seq ?_
  refine awp_seq ?_
  refine awp_run rfl (by simp only [fwA, seval] <;> rfl) ?_
  refine awp_block ?_
  refine awp_for [1, 2, 3, 7, 8, 9] (fun i : Nat => [.vec (c.map Pr.enc) false, .int .i64 a, .ptr H.length 0, .int .i64 (accL (meetV ns us) (topV ns us) (highX c a (q.take i))), .vec (q.map I1) false, .int .i64 (i : Int)]) (fun _ => H ++ [.box [.vec (ns.map S1) false, .vec (us.map U1) false]]) (fun i => q.length - i) (fun i => i ≤ q.length) 0 rfl rfl (Nat.zero_le _) fun i hi => ?_
  refine awp_seq ?_
  refine awp_seq ?_
  by_cases hc : (i : Int) < q.length
  rotate_left
  · refine awp_run rfl (by simp only [fwA, seval, gfw, bx, dx, bitfw, hc] <;> rfl) ?_
    refine awp_cond (b := false) (by simp [alook, aput, ev]) ?_
    refine awp_exit ?_
    rw [List.take_of_length_le (show q.length ≤ i by omega)]
    refine awp_seq ?_
    refine awp_run rfl (by simp only [fwA, seval] <;> rfl) ?_
    refine awp_ret ?_
    exact gives_end (.inl rfl) _ rfl
  have hi' : i < q.length := by omega
  obtain ⟨z, hz⟩ : ∃ z, q[i]? = some z := ⟨_, List.getElem?_eq_getElem hi'⟩
  have hts := take_snoc hz
  have hwi : IntKind.i64.wrap ((i : Int) + 1) = ((i + 1 : Nat) : Int) := wrapS i (by omega)
  obtain ⟨z0, z1⟩ := hpt z (List.mem_of_getElem? hz)
  have z2 := z1.2
  have hwz : IntKind.i64.wrap (-1 - z) = -1 - z := wrapId ⟨by omega, by omega⟩
  have h27 := c27 Γ c a (-1 - z) hl
  have hsn : accL (meetV ns us) (topV ns us) (highX c a (q.take (i + 1))) = if rchB c a (-1 - z) = true then meetV ns us (accL (meetV ns us) (topV ns us) (highX c a (q.take i))) z else accL (meetV ns us) (topV ns us) (highX c a (q.take i)) := by rw [hts]; exact highX_snoc z0
  generalize hP : accL (meetV ns us) (topV ns us) (highX c a (q.take i)) = P at *
  have h58 := c82 Γ ns us hw P z
  refine awp_run rfl (by simp only [fwA, seval, gfw, bx, dx, bitfw, hc] <;> rfl) ?_
  refine awp_cond (b := true) (by simp [alook, aput, ev]) ?_
  refine awp_skip ?_
  refine awp_seq ?_
  refine awp_block ?_
  refine awp_seq ?_
  cases hr : rchB c a (-1 - z)
  · rw [hr] at h27
    rw [if_neg (by rw [hr]; decide)] at hsn
    refine awp_region rfl ?_
    refine aops_run 7 (by simp only [fwA, seval, gfw, bx, dx, bitfw, hz, hwz] <;> rfl) ?_
    refine aops_fn rfl rfl rfl en27 h27 ?_
    refine aops_end ?_
    refine awp_cond (b := false) (by simp [alook, aput, ev]) (awp_skip ?_)
    refine awp_run rfl (by simp only [fwA, seval] <;> rfl) ?_
    exact ⟨i + 1, by omega, by omega, by simp only [fwA, seval, gfw, hwi, hsn], rfl, rfl⟩
  · rw [hr] at h27
    rw [if_pos hr] at hsn
    refine awp_region rfl ?_
    refine aops_run 7 (by simp only [fwA, seval, gfw, bx, dx, bitfw, hz, hwz] <;> rfl) ?_
    refine aops_fn rfl rfl rfl en27 h27 ?_
    refine aops_end ?_
    refine awp_cond (b := true) (by simp [alook, aput, ev]) ?_
    refine awp_drawn [1, 0, 0, 0, 0, 1, 0, 0] [0, 0, 0, 0, 12, 28, 63, 127] mixed rfl (by kernel_rfl) ?_
    refine dops_run 6 (by simp only [fwA, seval, gfw, bx, dx, bitfw, hz] <;> rfl) ?_
    refine dops_fn rfl (by simp only [fwA, seval] <;> rfl) rfl rfl en82 h58 ?_
    refine dops_run 1 (by simp only [fwA, seval, gfw, bx, dx, bitfw, hz] <;> rfl) ?_
    refine dops_end ?_
    refine awp_run rfl (by simp only [fwA, seval] <;> rfl) ?_
    exact ⟨i + 1, by omega, by omega, by simp only [fwA, seval, gfw, hwi, hsn], rfl, rfl⟩
set_option maxHeartbeats 8000000 in
theorem c33 (Γ : Nat → PV) (ns : List (List UInt8)) (us : List Nat) (hw : W64 us) (c : List Pr) (hl : c.length ≤ 10000000) (ho : OkP c) (a b : Int) (ha : I64 a) (hb : I64 b) : Gives Tryz.prog Γ 33 [.agg [.vec (ns.map S1) false, .vec (us.map U1) false], .vec (c.map Pr.enc) false, .int .i64 a, .int .i64 b] (.bool (entV ns us c a b)) := by
  have h18 := c18 Γ ns us hw c (by omega) ho
  have h18b := (c18 Γ ns us hw [⟨a, b⟩] (by simp) (fun p hp => by rw [List.mem_singleton] at hp; subst hp; exact ⟨ha, hb⟩)).args (args := [.agg [.vec (ns.map S1) false, .vec (us.map U1) false], .vec [[.int .i64 a, .int .i64 b]] true]) ⟨PV.le_refl _, ⟨nofun, PV.leLL_refl _⟩, trivial⟩
  have h27 := c27 Γ c a b hl
  have h31 := c31 Γ ns us hw c hl ho a ha
  have h29 := c29 Γ ns us hw c hl ho b hb
  have h57 := c57 Γ ns us hw (highV ns us c a) (lowV ns us c b)
  refine fn_of_awp Tryz.func33 rfl (by simp [Tryz.f33]) rfl fun H => ?_
  refine awp_seq ?_
  refine awp_run rfl (by simp only [fwA, seval, gfw, bx, dx, bitfw] <;> rfl) ?_
  refine awp_seq ?_
  refine awp_seq ?_
  unfold entV
  cases hk : knownB ns us c
  · rw [hk] at h18
    refine awp_region rfl ?_
    refine aops_run 2 (by simp only [fwA, seval, gfw, bx, dx, bitfw] <;> rfl) ?_
    refine aops_fn rfl rfl rfl en18 h18 ?_
    refine aops_run 10 (by simp only [fwA, seval, gfw, bx, dx, bitfw] <;> rfl) ?_
    refine aops_end ?_
    refine awp_cond (b := true) (by simp [alook, aput, ev]) ?_
    refine awp_seq ?_
    refine awp_run rfl (by simp only [fwA, seval] <;> rfl) ?_
    refine awp_ret ?_
    exact gives_end (.inl rfl) _ rfl
  rw [hk] at h18
  cases hk2 : knownB ns us [⟨a, b⟩]
  · rw [hk2] at h18b
    refine awp_region rfl ?_
    refine aops_run 2 (by simp only [fwA, seval, gfw, bx, dx, bitfw] <;> rfl) ?_
    refine aops_fn rfl rfl rfl en18 h18 ?_
    refine aops_run 7 (by simp only [fwA, seval, gfw, bx, dx, bitfw] <;> rfl) ?_
    refine aops_fnIf rfl rfl rfl rfl rfl en18 h18b ?_
    refine aops_run 2 (by simp only [fwA, seval, gfw, bx, dx, bitfw] <;> rfl) ?_
    refine aops_end ?_
    refine awp_cond (b := true) (by simp [alook, aput, ev]) ?_
    refine awp_seq ?_
    refine awp_run rfl (by simp only [fwA, seval] <;> rfl) ?_
    refine awp_ret ?_
    exact gives_end (.inl rfl) _ rfl
  rw [hk2] at h18b
  refine awp_region rfl ?_
  refine aops_run 2 (by simp only [fwA, seval, gfw, bx, dx, bitfw] <;> rfl) ?_
  refine aops_fn rfl rfl rfl en18 h18 ?_
  refine aops_run 7 (by simp only [fwA, seval, gfw, bx, dx, bitfw] <;> rfl) ?_
  refine aops_fnIf rfl rfl rfl rfl rfl en18 h18b ?_
  refine aops_run 2 (by simp only [fwA, seval, gfw, bx, dx, bitfw] <;> rfl) ?_
  refine aops_end ?_
  refine awp_cond (b := false) (by simp [alook, aput, ev]) (awp_skip ?_)
  refine awp_seq ?_
  cases hr : rchB c a b
  · rw [hr] at h27
    refine awp_drawn [0, 0, 0, 0, 0, 1, 1, 0, 0, 0, 1, 0, 0, 0, 0, 0, 0] [0, 0, 0, 7, 15, 31, 31, 31, 31, 479, 31, 31, 31, 8159, 16383, 32767, 65535] mixed rfl (by kernel_rfl) ?_
    refine dops_run 3 (by simp only [fwA, seval, gfw, bx, dx, bitfw] <;> rfl) ?_
    refine dops_fn rfl (by simp only [fwA, seval] <;> rfl) rfl rfl en27 h27 ?_
    refine dops_run 5 (by simp only [fwA, seval, gfw, bx, dx, bitfw] <;> rfl) ?_
    refine dops_fn rfl (by simp only [fwA, seval] <;> rfl) rfl rfl en31 h31 ?_
    refine dops_run 3 (by simp only [fwA, seval, gfw, bx, dx, bitfw] <;> rfl) ?_
    refine dops_fn rfl (by simp only [fwA, seval] <;> rfl) rfl rfl en29 h29 ?_
    refine dops_fn rfl (by simp only [fwA, seval] <;> rfl) rfl rfl en57 h57 ?_
    refine dops_run 2 (by simp only [fwA, seval, gfw, bx, dx, bitfw] <;> rfl) ?_
    refine dops_end ?_
    refine awp_ret ?_
    exact gives_end (.inl rfl) _ rfl
  · rw [hr] at h27
    refine awp_drawn [0, 0, 0, 0, 0, 1, 1, 0, 0, 0, 1, 0, 0, 0, 0, 0, 0] [0, 0, 0, 7, 15, 31, 31, 31, 31, 479, 31, 31, 31, 8159, 16383, 32767, 65535] mixed rfl (by kernel_rfl) ?_
    refine dops_run 3 (by simp only [fwA, seval, gfw, bx, dx, bitfw] <;> rfl) ?_
    refine dops_fn rfl (by simp only [fwA, seval] <;> rfl) rfl rfl en27 h27 ?_
    refine dops_run 13 (by simp only [fwA, seval, gfw, bx, dx, bitfw] <;> rfl) ?_
    refine dops_end ?_
    refine awp_ret ?_
    exact gives_end (.inl rfl) _ rfl
end Go.Proofs.YteicbhkimepbaaaGreatDoor
namespace Go.Proofs.YteicbhkimepbaaaGreatDoor
set_option linter.unusedVariables false
set_option linter.unusedSimpArgs false
set_option maxRecDepth 100000
open Go.RowKit Fw
theorem flatP_bd (m : Nat) (l : List Pr) : PV.bdL m ((l.map Pr.enc).flatten) = true := flat_bd (fun _ => rfl) l
def ltB (x y : Pr) : Bool := decide (x.a < y.a) || (decide (x.a = y.a) && decide (x.b < y.b))
theorem ltB_iff (x y : Pr) : ltB x y = true ↔ ltP x y := by unfold ltB ltP; simp
def insP : List Pr → Pr → List Pr
  | [], s => [s]
  | x :: l, s => if ltB x s then x :: insP l s else if x = s then x :: l else s :: x :: l
theorem insP_found {s : Pr} : ∀ {l : List Pr} {i : Nat}, (∀ j, j < i → ∀ x, l[j]? = some x → ltP x s) → l[i]? = some s → insP l s = l
  | [], _, _, h => by simp at h
  | x :: l, 0, _, h => by
    simp only [List.getElem?_cons_zero, Option.some.injEq] at h
    subst h
    unfold insP
    rw [if_neg (fun h => by have := (ltB_iff _ _).1 h; exact ltP_asym _ _ this this), if_pos rfl]
  | x :: l, i + 1, hl, h => by
    have h0 := hl 0 (by omega) x rfl
    unfold insP
    rw [if_pos ((ltB_iff _ _).2 h0), insP_found (i := i) (fun j hj y hy => hl (j + 1) (by omega) y (by simpa using hy)) (by simpa using h)]
theorem insP_ins {s : Pr} : ∀ {l : List Pr} {i : Nat}, (∀ j, j < i → ∀ x, l[j]? = some x → ltP x s) → (∀ x, l[i]? = some x → ¬ ltP x s ∧ x ≠ s) → insP l s = l.take i ++ s :: l.drop i
  | [], i, _, _ => by simp [insP]
  | x :: l, 0, _, h => by
    obtain ⟨h1, h2⟩ := h x rfl
    unfold insP
    rw [if_neg (fun h => h1 ((ltB_iff _ _).1 h)), if_neg h2]; rfl
  | x :: l, i + 1, hl, h => by
    have h0 := hl 0 (by omega) x rfl
    unfold insP
    rw [if_pos ((ltB_iff _ _).2 h0), insP_ins (i := i) (fun j hj y hy => hl (j + 1) (by omega) y (by simpa using hy)) (fun y hy => h y (by simpa using hy))]
    rfl
theorem insP_mem (s x : Pr) : ∀ l : List Pr, x ∈ insP l s ↔ x = s ∨ x ∈ l
  | [] => by simp [insP]
  | y :: l => by
    unfold insP
    split
    · rw [List.mem_cons, insP_mem s x l, List.mem_cons]; exact or_left_comm
    · split
      · rename_i h
        subst h
        simp only [List.mem_cons]
        constructor
        · exact fun h => .inr h
        · rintro (h | h)
          · exact .inl h
          · exact h
      · simp only [List.mem_cons]
theorem ltP_trans {x y z : Pr} (h1 : ltP x y) (h2 : ltP y z) : ltP x z := by unfold ltP at *; omega
theorem ltP_tri {x y : Pr} (h1 : ¬ ltP x y) (h2 : x ≠ y) : ltP y x := by
  have : ¬ (x.a = y.a ∧ x.b = y.b) := fun h => h2 (pr_ext h.1 h.2)
  unfold ltP at *; omega
theorem insP_rise (s : Pr) : ∀ l : List Pr, l.Pairwise ltP → (insP l s).Pairwise ltP
  | [], _ => by simp [insP]
  | y :: l, h => by
    obtain ⟨h1, h2⟩ := List.pairwise_cons.1 h
    unfold insP
    split
    · rename_i hy
      refine List.pairwise_cons.2 ⟨fun x hx => ?_, insP_rise s l h2⟩
      rcases (insP_mem s x l).1 hx with rfl | hx
      · exact (ltB_iff _ _).1 hy
      · exact h1 x hx
    · rename_i hn
      split
      · exact h
      · rename_i hne
        have hsy := ltP_tri (fun h => hn ((ltB_iff _ _).2 h)) hne
        refine List.pairwise_cons.2 ⟨fun x hx => ?_, h⟩
        rcases List.mem_cons.1 hx with rfl | hx
        · exact hsy
        · exact ltP_trans hsy (h1 x hx)
theorem insP_len (s : Pr) : ∀ l : List Pr, (insP l s).length ≤ l.length + 1
  | [] => by simp [insP]
  | y :: l => by
    have := insP_len s l
    unfold insP
    split
    · simp only [List.length_cons]; omega
    · split <;> simp
def stepN (o : List Pr) (p : Pr) : List Pr := if p.a = p.b then o else insP o p
def normD (l : List Pr) : List Pr := l.foldl stepN []
theorem normD_snoc (l : List Pr) (i : Nat) (p : Pr) (h : l[i]? = some p) : normD (l.take (i + 1)) = stepN (normD (l.take i)) p := by
  unfold normD
  rw [List.take_add_one, h, List.foldl_append]; rfl
theorem stepN_len (o : List Pr) (p : Pr) : (stepN o p).length ≤ o.length + 1 := by
  unfold stepN
  split
  · omega
  · exact insP_len _ _
theorem foldN_len : ∀ (l o : List Pr), (l.foldl stepN o).length ≤ o.length + l.length
  | [], o => by simp
  | p :: l, o => by
    have h1 := foldN_len l (stepN o p)
    have h2 := stepN_len o p
    rw [List.foldl_cons, List.length_cons]; omega
theorem normD_len (l : List Pr) : (normD l).length ≤ l.length := by have := foldN_len l []; unfold normD; simpa using this
theorem foldN_rise : ∀ (l o : List Pr), o.Pairwise ltP → (l.foldl stepN o).Pairwise ltP
  | [], _, h => h
  | p :: l, o, h => foldN_rise l _ (by unfold stepN; split; exact h; exact insP_rise _ _ h)
theorem foldN_mem (x : Pr) : ∀ (l o : List Pr), x ∈ l.foldl stepN o ↔ (x ∈ l ∧ unl x = true) ∨ x ∈ o
  | [], o => by simp
  | p :: l, o => by
    rw [List.foldl_cons, foldN_mem x l, List.mem_cons]
    unfold stepN
    split
    · rename_i h
      constructor
      · rintro (h1 | h1)
        · exact .inl ⟨.inr h1.1, h1.2⟩
        · exact .inr h1
      · rintro (⟨rfl | h1, h2⟩ | h1)
        · exfalso; unfold unl like at h2; rw [decide_eq_true h] at h2; cases h2
        · exact .inl ⟨h1, h2⟩
        · exact .inr h1
    · rename_i h
      rw [insP_mem]
      constructor
      · rintro (h1 | rfl | h1)
        · exact .inl ⟨.inr h1.1, h1.2⟩
        · exact .inl ⟨.inl rfl, by unfold unl like; rw [decide_eq_false h]; rfl⟩
        · exact .inr h1
      · rintro (⟨rfl | h1, h2⟩ | h1)
        · exact .inr (.inl rfl)
        · exact .inl ⟨h1, h2⟩
        · exact .inr (.inr h1)
theorem normD_eq (l : List Pr) : normL l = normD l :=
  normL_is (foldN_rise l [] List.Pairwise.nil) fun x => by unfold normD; rw [foldN_mem]; simp
set_option maxHeartbeats 2000000 in
theorem c86 (Γ : Nat → PV) (ps : List Pr) (hl : ps.length ≤ 1200000000000) : Gives Tryz.prog Γ 86 [.vec (ps.map Pr.enc) false] (.vec ((normL ps).map Pr.enc) false) := by
  rw [normD_eq]
  refine fn_of_awp Tryz.func86 rfl (by simp [Tryz.f86]) rfl fun H => ?_
  refine awp_bd fun hbd => ?_
  refine awp_seq ?_
  refine awp_run rfl (by simp only [fwA, seval] <;> rfl) ?_
  refine awp_seq ?_
  refine awp_run rfl (by simp only [fwA, seval] <;> rfl) ?_
  refine awp_seq ?_
  refine awp_seq ?_
  refine awp_run rfl (by simp only [fwA, seval] <;> rfl) ?_
  refine awp_told (told_le 3 (.vec [] false) (vleF [])) ?_
  refine awp_block ?_
  refine awp_forG [0, 3, 4] (fun i : Nat => [.vec (ps.map Pr.enc) false, .vec ((normD (ps.take i)).map Pr.enc) false, .int .i64 (i : Int)]) (fun _ => H) (fun i => ps.length - i) (fun i => i ≤ ps.length) 0 rfl rfl (Nat.zero_le _) (fun i _ => ⟨hbd, by simp [PV.bdL, PV.bd]⟩) (fun i _ b hb => by cases hb) fun i hi => ?_
  refine awp_seq ?_
  refine awp_seq ?_
  refine awp_run rfl (by simp only [fwA, seval, gfw, bx, dx] <;> rfl) ?_
  refine awp_cond (by simp only [fwA, seval] <;> rfl) ?_
  by_cases hc : (i : Int) < ps.length
  rotate_left
  · simp only [hc, decide_false, Bool.false_eq_true, ↓reduceIte]
    refine awp_exit ?_
    have e : i = ps.length := by omega
    subst e
    rw [List.take_length]
    refine awp_seq (awp_run rfl (by simp only [fwA, seval] <;> rfl) (awp_ret ?_))
    exact gives_end0 (.inl rfl) rfl
  simp only [hc, decide_true, ↓reduceIte]
  refine awp_skip ?_
  have hil : i < ps.length := by omega
  have ga : ps[i]? = some ps[i] := List.getElem?_eq_getElem hil
  have hst := normD_snoc ps i _ ga
  have hOl := normD_len (ps.take i)
  rw [List.length_take] at hOl
  generalize ps[i] = p at ga hst
  generalize hO : normD (ps.take i) = O at *
  have hOl2 : O.length ≤ 1200000000000 := by omega
  have hwi : IntKind.i64.wrap ((i : Int) + 1) = ((i + 1 : Nat) : Int) := wrapS i (by omega)
  refine awp_seq ?_
  refine awp_block ?_
  refine awp_seq ?_
  refine awp_run rfl (by simp only [fwA, seval, gfw, bx, dx, ga] <;> rfl) ?_
  refine awp_seq ?_
  refine awp_run rfl (by simp only [fwA, seval] <;> rfl) ?_
  refine awp_join [0, 3, 4, 5, 6] (fun j : Nat => [.vec (ps.map Pr.enc) false, .vec (O.map Pr.enc) false, .int .i64 (i : Int), .ptr H.length 0, .int .i64 (j : Int)]) (fun _ => H ++ [.box p.enc]) (fun j => j ≤ O.length ∧ (∀ k, k < j → ∀ x, O[k]? = some x → ltP x p) ∧ ∀ x, O[j]? = some x → ¬ ltP x p) ?_ fun j hj => ?_
  · refine awp_block ?_
    refine awp_for [0, 3, 4, 5, 6] (fun j : Nat => [.vec (ps.map Pr.enc) false, .vec (O.map Pr.enc) false, .int .i64 (i : Int), .ptr H.length 0, .int .i64 (j : Int)]) (fun _ => H ++ [.box p.enc]) (fun j => O.length - j) (fun j => j ≤ O.length ∧ ∀ k, k < j → ∀ x, O[k]? = some x → ltP x p) 0 rfl rfl ⟨Nat.zero_le _, fun k hk => by omega⟩ fun j hj => ?_
    obtain ⟨hj, hp⟩ := hj
    refine awp_seq ?_
    refine awp_seq ?_
    by_cases hj2 : (j : Int) < O.length
    rotate_left
    · have hnone : ∀ x, O[j]? = some x → ¬ ltP x p := fun x hx => by rw [List.getElem?_eq_none (by omega)] at hx; cases hx
      refine awp_drawn [0, 0, 0, 0, 0, 0, 0, 0, 0, 1, 0, 1, 0, 0, 0, 0, 0, 0, 1, 0, 1, 0, 0, 0, 0, 0, 0, 1, 0, 1, 0, 0, 0, 0] [0, 0, 2, 7, 15, 31, 31, 127, 255, 511, 31, 1055, 4095, 8191, 16383, 16383, 65535, 131071, 262143, 16383, 540671, 2097151, 4194303, 8388607, 8388607, 33554431, 67108863, 134217727, 8388607, 276824063, 1073741823, 2147483647, 4294967295, 8589934591] mixed rfl (by kernel_rfl) ?_
      refine dops_run 13 (by simp only [fwA, seval, gfw, bx, dx, hj2] <;> rfl) ?_
      refine dops_run 13 (by simp only [fwA, seval, gfw, bx, dx, hj2] <;> rfl) ?_
      refine dops_run 8 (by simp only [fwA, seval, gfw, bx, dx, hj2] <;> rfl) ?_
      refine dops_end ?_
      refine awp_cond (b := false) (by simp [alook, aput, ev]) ?_
      refine awp_exit ?_
      exact ⟨j, ⟨hj, hp, hnone⟩, rfl, rfl, rfl⟩
    have hjl : j < O.length := by omega
    have gq : O[j]? = some O[j] := List.getElem?_eq_getElem hjl
    generalize O[j] = q at gq
    have hwj : IntKind.i64.wrap ((j : Int) + 1) = ((j + 1 : Nat) : Int) := wrapS j (by omega)
    have hgo : ltP q p → ∀ k, k < j + 1 → ∀ x, O[k]? = some x → ltP x p := fun h k hk x hx => by
      by_cases e : k = j
      · subst e; rw [gq] at hx; cases hx; exact h
      · exact hp k (by omega) x hx
    have hstop : ¬ ltP q p → ∀ x, O[j]? = some x → ¬ ltP x p := fun h x hx => by rw [gq] at hx; cases hx; exact h
    by_cases h1 : q.a < p.a
    · refine awp_drawn [0, 0, 0, 0, 0, 0, 0, 0, 0, 1, 0, 1, 0, 0, 0, 0, 0, 0, 1, 0, 1, 0, 0, 0, 0, 0, 0, 1, 0, 1, 0, 0, 0, 0] [0, 0, 2, 7, 15, 31, 31, 127, 255, 511, 31, 1055, 4095, 8191, 16383, 16383, 65535, 131071, 262143, 16383, 540671, 2097151, 4194303, 8388607, 8388607, 33554431, 67108863, 134217727, 8388607, 276824063, 1073741823, 2147483647, 4294967295, 8589934591] mixed rfl (by kernel_rfl) ?_
      refine dops_run 13 (by simp only [fwA, seval, gfw, bx, dx, hj2, gq, h1] <;> rfl) ?_
      refine dops_run 13 (by simp only [fwA, seval, gfw, bx, dx, hj2, gq, h1] <;> rfl) ?_
      refine dops_run 8 (by simp only [fwA, seval, gfw, bx, dx, hj2, gq, h1] <;> rfl) ?_
      refine dops_end ?_
      refine awp_cond (b := true) (by simp [alook, aput, ev]) (awp_skip ?_)
      refine awp_block ?_
      refine awp_run rfl (by simp only [fwA, seval] <;> rfl) ?_
      refine ⟨j + 1, by omega, ⟨by omega, hgo (.inl h1)⟩, ?_, rfl, rfl⟩
      simp only [fwA, seval, gfw, hwj]
    by_cases h2 : q.a = p.a
    · by_cases h3 : q.b < p.b
      · refine awp_drawn [0, 0, 0, 0, 0, 0, 0, 0, 0, 1, 0, 1, 0, 0, 0, 0, 0, 0, 1, 0, 1, 0, 0, 0, 0, 0, 0, 1, 0, 1, 0, 0, 0, 0] [0, 0, 2, 7, 15, 31, 31, 127, 255, 511, 31, 1055, 4095, 8191, 16383, 16383, 65535, 131071, 262143, 16383, 540671, 2097151, 4194303, 8388607, 8388607, 33554431, 67108863, 134217727, 8388607, 276824063, 1073741823, 2147483647, 4294967295, 8589934591] mixed rfl (by kernel_rfl) ?_
        refine dops_run 13 (by simp only [fwA, seval, gfw, bx, dx, hj2, gq, h1, h2, h3, Int.lt_irrefl] <;> rfl) ?_
        refine dops_run 13 (by simp only [fwA, seval, gfw, bx, dx, hj2, gq, h1, h2, h3, Int.lt_irrefl] <;> rfl) ?_
        refine dops_run 8 (by simp only [fwA, seval, gfw, bx, dx, hj2, gq, h1, h2, h3, Int.lt_irrefl] <;> rfl) ?_
        refine dops_end ?_
        refine awp_cond (b := true) (by simp [alook, aput, ev]) (awp_skip ?_)
        refine awp_block ?_
        refine awp_run rfl (by simp only [fwA, seval] <;> rfl) ?_
        refine ⟨j + 1, by omega, ⟨by omega, hgo (.inr ⟨h2, h3⟩)⟩, ?_, rfl, rfl⟩
        simp only [fwA, seval, gfw, hwj]
      · refine awp_drawn [0, 0, 0, 0, 0, 0, 0, 0, 0, 1, 0, 1, 0, 0, 0, 0, 0, 0, 1, 0, 1, 0, 0, 0, 0, 0, 0, 1, 0, 1, 0, 0, 0, 0] [0, 0, 2, 7, 15, 31, 31, 127, 255, 511, 31, 1055, 4095, 8191, 16383, 16383, 65535, 131071, 262143, 16383, 540671, 2097151, 4194303, 8388607, 8388607, 33554431, 67108863, 134217727, 8388607, 276824063, 1073741823, 2147483647, 4294967295, 8589934591] mixed rfl (by kernel_rfl) ?_
        refine dops_run 13 (by simp only [fwA, seval, gfw, bx, dx, hj2, gq, h1, h2, h3, Int.lt_irrefl] <;> rfl) ?_
        refine dops_run 13 (by simp only [fwA, seval, gfw, bx, dx, hj2, gq, h1, h2, h3, Int.lt_irrefl] <;> rfl) ?_
        refine dops_run 8 (by simp only [fwA, seval, gfw, bx, dx, hj2, gq, h1, h2, h3, Int.lt_irrefl] <;> rfl) ?_
        refine dops_end ?_
        refine awp_cond (b := false) (by simp [alook, aput, ev]) ?_
        refine awp_exit ?_
        exact ⟨j, ⟨hj, hp, hstop (by unfold ltP; omega)⟩, rfl, rfl, rfl⟩
    · refine awp_drawn [0, 0, 0, 0, 0, 0, 0, 0, 0, 1, 0, 1, 0, 0, 0, 0, 0, 0, 1, 0, 1, 0, 0, 0, 0, 0, 0, 1, 0, 1, 0, 0, 0, 0] [0, 0, 2, 7, 15, 31, 31, 127, 255, 511, 31, 1055, 4095, 8191, 16383, 16383, 65535, 131071, 262143, 16383, 540671, 2097151, 4194303, 8388607, 8388607, 33554431, 67108863, 134217727, 8388607, 276824063, 1073741823, 2147483647, 4294967295, 8589934591] mixed rfl (by kernel_rfl) ?_
      refine dops_run 13 (by simp only [fwA, seval, gfw, bx, dx, hj2, gq, h1, h2] <;> rfl) ?_
      refine dops_run 13 (by simp only [fwA, seval, gfw, bx, dx, hj2, gq, h1, h2] <;> rfl) ?_
      refine dops_run 8 (by simp only [fwA, seval, gfw, bx, dx, hj2, gq, h1, h2] <;> rfl) ?_
      refine dops_end ?_
      refine awp_cond (b := false) (by simp [alook, aput, ev]) ?_
      refine awp_exit ?_
      exact ⟨j, ⟨hj, hp, hstop (by unfold ltP; omega)⟩, rfl, rfl, rfl⟩
  obtain ⟨hj, hp, hno⟩ := hj
  have e1 : ((O.map Pr.enc).drop 0).take (j - 0) = (O.take j).map Pr.enc := by simp [List.map_take]
  have e2 : ((O.map Pr.enc).drop j).take (O.length - j) = (O.drop j).map Pr.enc := by rw [List.take_of_length_le (by simp), List.map_drop]
  have hti : (O.take j).length = j := by rw [List.length_take]; omega
  have htd : (O.drop j).length = O.length - j := List.length_drop ..
  refine awp_seq ?_
  refine awp_seq ?_
  by_cases hab : p.a = p.b
  · have e : stepN O p = O := by unfold stepN; rw [if_pos hab]
    refine awp_drawn [0, 1, 0, 1, 0, 0, 0, 0, 0, 0, 0, 0, 0, 0, 1, 1, 0, 0, 0] [0, 1, 0, 4, 15, 31, 63, 63, 191, 511, 1023, 2047, 2047, 8191, 16383, 2047, 65535, 131071, 262143] mixed rfl (by kernel_rfl) ?_
    refine dops_run 13 (by simp only [fwA, seval, gfw, bx, dx, hab] <;> rfl) ?_
    refine dops_run 6 (by simp only [fwA, seval, gfw, bx, dx, hab] <;> rfl) ?_
    refine dops_end ?_
    refine awp_cond (b := true) (by simp [alook, aput, ev]) ?_
    refine awp_exit ?_
    refine awp_run rfl (by simp only [fwA, seval] <;> rfl) ?_
    refine ⟨i + 1, [.box p.enc], by omega, by omega, ?_, rfl, rfl, by simp⟩
    rw [hst, e]; simp only [fwA, seval, gfw, hwi]
  have hadd : stepN O p = insP O p := by unfold stepN; rw [if_neg hab]
  have key : (∀ x, O[j]? = some x → x ≠ p) → insP O p = O.take j ++ p :: O.drop j := fun h => insP_ins hp fun x hx => ⟨hno x hx, h x hx⟩
  by_cases hj2 : (j : Int) < O.length
  · have hjl : j < O.length := by omega
    have gq : O[j]? = some O[j] := List.getElem?_eq_getElem hjl
    generalize O[j] = q at gq
    by_cases hq1 : q.a = p.a
    · by_cases hq2 : q.b = p.b
      · have eq : q = p := pr_ext hq1 hq2
        subst eq
        have e := insP_found hp gq
        refine awp_drawn [0, 1, 0, 1, 0, 0, 0, 0, 0, 0, 0, 0, 0, 0, 1, 1, 0, 0, 0] [0, 1, 0, 4, 15, 31, 63, 63, 191, 511, 1023, 2047, 2047, 8191, 16383, 2047, 65535, 131071, 262143] mixed rfl (by kernel_rfl) ?_
        refine dops_run 13 (by simp only [fwA, seval, gfw, bx, dx, hj2, gq, hab] <;> rfl) ?_
        refine dops_run 6 (by simp only [fwA, seval, gfw, bx, dx, hj2, gq, hab] <;> rfl) ?_
        refine dops_end ?_
        refine awp_cond (b := true) (by simp [alook, aput, ev]) ?_
        refine awp_exit ?_
        refine awp_run rfl (by simp only [fwA, seval] <;> rfl) ?_
        refine ⟨i + 1, [.box q.enc], by omega, by omega, ?_, rfl, rfl, by simp⟩
        rw [hst, hadd, e]; simp only [fwA, seval, gfw, hwi]
      · have hins := key fun x hx e => by rw [gq] at hx; cases hx; exact hq2 (by rw [e])
        refine awp_drawn [0, 1, 0, 1, 0, 0, 0, 0, 0, 0, 0, 0, 0, 0, 1, 1, 0, 0, 0] [0, 1, 0, 4, 15, 31, 63, 63, 191, 511, 1023, 2047, 2047, 8191, 16383, 2047, 65535, 131071, 262143] mixed rfl (by kernel_rfl) ?_
        refine dops_run 13 (by simp only [fwA, seval, gfw, bx, dx, hj2, gq, hab, hq1, hq2] <;> rfl) ?_
        refine dops_run 6 (by simp only [fwA, seval, gfw, bx, dx, hj2, gq, hab, hq1, hq2] <;> rfl) ?_
        refine dops_end ?_
        refine awp_cond (b := false) (by simp [alook, aput, ev]) (awp_skip ?_)
        refine awp_drawn [0, 0, 0, 3, 4, 0, 2, 0, 0, 0, 2, 0] [0, 0, 3, 7, 0, 16, 63, 0, 0, 384, 1023, 2047] mixed rfl (by kernel_rfl) ?_
        refine dops_run 2 (by simp only [fwA, seval] <;> rfl) ?_
        refine dops_one (.vec ((O.take j).map Pr.enc) false) rfl rfl (fun H A' hev => os_sliceVec (l := 0) (h := j) (es := O.map Pr.enc) (f := false) rfl el32 ((hev _ (by simp [Op.operands])).trans rfl) (fun e he => by obtain ⟨x, _, rfl⟩ := List.mem_map.1 he; rfl) rfl ⟨_, (hev _ (by simp [Op.operands])).trans rfl⟩ trivial (Nat.zero_le _) (by rw [List.length_map]; omega) ⟨congrArg (fun z => PV.vec z false) e1, rfl⟩) ?_
        refine dops_appendNew (xs := ((O.take j).map Pr.enc).flatten) (n := j) rfl rfl (.inr rfl) (Nat.le_refl _) un32 ti86 un32 (.inl ⟨_, rfl⟩) (by decide) rfl (by simp only [fwA, seval] <;> rfl) (fun es f h e he => by
            simp only [fwA, seval, PV.vec.injEq] at h
            obtain ⟨rfl, rfl⟩ := h
            obtain ⟨x, _, rfl⟩ := List.mem_map.1 he
            rfl) (by simp only [fwA, seval, alen, List.length_map, hti]) (by show j * 16 ≤ _; omega) (by omega) ?_
        refine dops_run 2 (by simp only [fwA, seval, bx] <;> rfl) ?_
        refine dops_appendR (b := H.length + 1) (q := 0) (k := j) (n := 1) (cs := ((O.take j).map Pr.enc).flatten) (xs := [.int .i64 p.a, .int .i64 p.b]) rfl rfl rfl un32 ti86 un32 (.inl ⟨_, rfl⟩) rfl (by simp only [fwA, seval] <;> rfl) (by rw [flat_len Pr.enc_len, hti]; exact (Nat.zero_add _).symm) (by simp only [fwA, seval] <;> rfl) (fun es f h e he => by
            simp only [fwA, seval, PV.vec.injEq] at h
            obtain ⟨rfl, rfl⟩ := h
            simp only [List.mem_singleton] at he
            subst he; rfl) (by simp only [fwA, seval] <;> rfl) (by show (j + 1) * 16 ≤ _; omega) (by omega) ?_
        refine dops_run 2 (by simp only [fwA, seval] <;> rfl) ?_
        refine dops_one (.vec ((O.drop j).map Pr.enc) false) rfl rfl (fun H A' hev => os_sliceVec (l := j) (h := O.length) (es := O.map Pr.enc) (f := false) rfl el32 ((hev _ (by simp [Op.operands])).trans rfl) (fun e he => by obtain ⟨x, _, rfl⟩ := List.mem_map.1 he; rfl) ⟨_, (hev _ (by simp [Op.operands])).trans rfl⟩ (by rw [onOpt, List.length_map]) trivial hj (by rw [List.length_map]; omega) ⟨congrArg (fun z => PV.vec z false) e2, rfl⟩) ?_
        refine dops_appendR (b := H.length + 1) (q := 0) (k := j + 1) (n := O.length - j) (cs := ((O.take j).map Pr.enc).flatten ++ [.int .i64 p.a, .int .i64 p.b]) (xs := ((O.drop j).map Pr.enc).flatten) rfl rfl rfl un32 ti86 un32 (.inl ⟨_, rfl⟩) rfl (by simp only [fwA, seval] <;> rfl) (by rw [List.length_append, flat_len Pr.enc_len, hti]; simp; omega) (by simp only [fwA, seval] <;> rfl) (fun es f h e he => by
            simp only [fwA, seval, PV.vec.injEq] at h
            obtain ⟨rfl, rfl⟩ := h
            obtain ⟨x, _, rfl⟩ := List.mem_map.1 he
            rfl) (by simp only [fwA, seval, alen, List.length_map, htd]) (by show (j + 1 + (O.length - j)) * 16 ≤ _; omega) (by omega) ?_
        refine dops_run 1 (by simp only [fwA, seval] <;> rfl) ?_
        refine dops_end ?_
        have hC : (((O.take j ++ p :: O.drop j).map Pr.enc).flatten) = ((O.take j).map Pr.enc).flatten ++ [.int .i64 p.a, .int .i64 p.b] ++ ((O.drop j).map Pr.enc).flatten := by simp [Pr.enc]
        have hCl : (O.take j ++ p :: O.drop j).length = O.length + 1 := by rw [List.length_append, List.length_cons, hti, htd]; omega
        refine awp_keep (A' := [(0, .vec (ps.map Pr.enc) false), (3, .row (H.length + 1) 0 (O.length + 1) 2), (4, .int .i64 (i : Int))]) [0, 3, 4] (by simp only [fwA, seval, akeep, show j + 1 + (O.length - j) = O.length + 1 by omega] <;> rfl) ?_
        generalize O.take j ++ p :: O.drop j = r at hC hCl hins ⊢
        refine awp_heap (H' := H ++ [.box p.enc, .row 2 ((r.map Pr.enc).flatten)]) (by rw [hC]; simp) ?_
        refine awp_told (told_freezeAt H _ 1 (C := (r.map Pr.enc).flatten) rfl (flatP_bd _ _)) ?_
        have hch := flat_chunk Pr.enc_len r
        have hfl := flat_len Pr.enc_len r
        rw [hCl] at hch hfl
        generalize O.length + 1 = m at hch hfl ⊢
        refine awp_keep (A' := [(0, .vec (ps.map Pr.enc) false), (3, .vec (r.map Pr.enc) false), (4, .int .i64 (i : Int))]) [0, 3, 4] (by simp only [fwA, seval, akeep, hfl, hch] <;> rfl) ?_
        refine awp_run rfl (by simp only [fwA, seval] <;> rfl) ?_
        refine ⟨i + 1, [.box p.enc, .dead], by omega, by omega, ?_, ?_, rfl, by simp⟩
        · rw [hst, hadd, hins]; simp only [fwA, seval, gfw, hwi]
        · simp [Pr.enc, frz]
    · have hins := key fun x hx e => by rw [gq] at hx; cases hx; exact hq1 (by rw [e])
      refine awp_drawn [0, 1, 0, 1, 0, 0, 0, 0, 0, 0, 0, 0, 0, 0, 1, 1, 0, 0, 0] [0, 1, 0, 4, 15, 31, 63, 63, 191, 511, 1023, 2047, 2047, 8191, 16383, 2047, 65535, 131071, 262143] mixed rfl (by kernel_rfl) ?_
      refine dops_run 13 (by simp only [fwA, seval, gfw, bx, dx, hj2, gq, hab, hq1] <;> rfl) ?_
      refine dops_run 6 (by simp only [fwA, seval, gfw, bx, dx, hj2, gq, hab, hq1] <;> rfl) ?_
      refine dops_end ?_
      refine awp_cond (b := false) (by simp [alook, aput, ev]) (awp_skip ?_)
      refine awp_drawn [0, 0, 0, 3, 4, 0, 2, 0, 0, 0, 2, 0] [0, 0, 3, 7, 0, 16, 63, 0, 0, 384, 1023, 2047] mixed rfl (by kernel_rfl) ?_
      refine dops_run 2 (by simp only [fwA, seval] <;> rfl) ?_
      refine dops_one (.vec ((O.take j).map Pr.enc) false) rfl rfl (fun H A' hev => os_sliceVec (l := 0) (h := j) (es := O.map Pr.enc) (f := false) rfl el32 ((hev _ (by simp [Op.operands])).trans rfl) (fun e he => by obtain ⟨x, _, rfl⟩ := List.mem_map.1 he; rfl) rfl ⟨_, (hev _ (by simp [Op.operands])).trans rfl⟩ trivial (Nat.zero_le _) (by rw [List.length_map]; omega) ⟨congrArg (fun z => PV.vec z false) e1, rfl⟩) ?_
      refine dops_appendNew (xs := ((O.take j).map Pr.enc).flatten) (n := j) rfl rfl (.inr rfl) (Nat.le_refl _) un32 ti86 un32 (.inl ⟨_, rfl⟩) (by decide) rfl (by simp only [fwA, seval] <;> rfl) (fun es f h e he => by
          simp only [fwA, seval, PV.vec.injEq] at h
          obtain ⟨rfl, rfl⟩ := h
          obtain ⟨x, _, rfl⟩ := List.mem_map.1 he
          rfl) (by simp only [fwA, seval, alen, List.length_map, hti]) (by show j * 16 ≤ _; omega) (by omega) ?_
      refine dops_run 2 (by simp only [fwA, seval, bx] <;> rfl) ?_
      refine dops_appendR (b := H.length + 1) (q := 0) (k := j) (n := 1) (cs := ((O.take j).map Pr.enc).flatten) (xs := [.int .i64 p.a, .int .i64 p.b]) rfl rfl rfl un32 ti86 un32 (.inl ⟨_, rfl⟩) rfl (by simp only [fwA, seval] <;> rfl) (by rw [flat_len Pr.enc_len, hti]; exact (Nat.zero_add _).symm) (by simp only [fwA, seval] <;> rfl) (fun es f h e he => by
          simp only [fwA, seval, PV.vec.injEq] at h
          obtain ⟨rfl, rfl⟩ := h
          simp only [List.mem_singleton] at he
          subst he; rfl) (by simp only [fwA, seval] <;> rfl) (by show (j + 1) * 16 ≤ _; omega) (by omega) ?_
      refine dops_run 2 (by simp only [fwA, seval] <;> rfl) ?_
      refine dops_one (.vec ((O.drop j).map Pr.enc) false) rfl rfl (fun H A' hev => os_sliceVec (l := j) (h := O.length) (es := O.map Pr.enc) (f := false) rfl el32 ((hev _ (by simp [Op.operands])).trans rfl) (fun e he => by obtain ⟨x, _, rfl⟩ := List.mem_map.1 he; rfl) ⟨_, (hev _ (by simp [Op.operands])).trans rfl⟩ (by rw [onOpt, List.length_map]) trivial hj (by rw [List.length_map]; omega) ⟨congrArg (fun z => PV.vec z false) e2, rfl⟩) ?_
      refine dops_appendR (b := H.length + 1) (q := 0) (k := j + 1) (n := O.length - j) (cs := ((O.take j).map Pr.enc).flatten ++ [.int .i64 p.a, .int .i64 p.b]) (xs := ((O.drop j).map Pr.enc).flatten) rfl rfl rfl un32 ti86 un32 (.inl ⟨_, rfl⟩) rfl (by simp only [fwA, seval] <;> rfl) (by rw [List.length_append, flat_len Pr.enc_len, hti]; simp; omega) (by simp only [fwA, seval] <;> rfl) (fun es f h e he => by
          simp only [fwA, seval, PV.vec.injEq] at h
          obtain ⟨rfl, rfl⟩ := h
          obtain ⟨x, _, rfl⟩ := List.mem_map.1 he
          rfl) (by simp only [fwA, seval, alen, List.length_map, htd]) (by show (j + 1 + (O.length - j)) * 16 ≤ _; omega) (by omega) ?_
      refine dops_run 1 (by simp only [fwA, seval] <;> rfl) ?_
      refine dops_end ?_
      have hC : (((O.take j ++ p :: O.drop j).map Pr.enc).flatten) = ((O.take j).map Pr.enc).flatten ++ [.int .i64 p.a, .int .i64 p.b] ++ ((O.drop j).map Pr.enc).flatten := by simp [Pr.enc]
      have hCl : (O.take j ++ p :: O.drop j).length = O.length + 1 := by rw [List.length_append, List.length_cons, hti, htd]; omega
      refine awp_keep (A' := [(0, .vec (ps.map Pr.enc) false), (3, .row (H.length + 1) 0 (O.length + 1) 2), (4, .int .i64 (i : Int))]) [0, 3, 4] (by simp only [fwA, seval, akeep, show j + 1 + (O.length - j) = O.length + 1 by omega] <;> rfl) ?_
      generalize O.take j ++ p :: O.drop j = r at hC hCl hins ⊢
      refine awp_heap (H' := H ++ [.box p.enc, .row 2 ((r.map Pr.enc).flatten)]) (by rw [hC]; simp) ?_
      refine awp_told (told_freezeAt H _ 1 (C := (r.map Pr.enc).flatten) rfl (flatP_bd _ _)) ?_
      have hch := flat_chunk Pr.enc_len r
      have hfl := flat_len Pr.enc_len r
      rw [hCl] at hch hfl
      generalize O.length + 1 = m at hch hfl ⊢
      refine awp_keep (A' := [(0, .vec (ps.map Pr.enc) false), (3, .vec (r.map Pr.enc) false), (4, .int .i64 (i : Int))]) [0, 3, 4] (by simp only [fwA, seval, akeep, hfl, hch] <;> rfl) ?_
      refine awp_run rfl (by simp only [fwA, seval] <;> rfl) ?_
      refine ⟨i + 1, [.box p.enc, .dead], by omega, by omega, ?_, ?_, rfl, by simp⟩
      · rw [hst, hadd, hins]; simp only [fwA, seval, gfw, hwi]
      · simp [Pr.enc, frz]
  · have hins := key fun x hx => by rw [List.getElem?_eq_none (by omega)] at hx; cases hx
    refine awp_drawn [0, 1, 0, 1, 0, 0, 0, 0, 0, 0, 0, 0, 0, 0, 1, 1, 0, 0, 0] [0, 1, 0, 4, 15, 31, 63, 63, 191, 511, 1023, 2047, 2047, 8191, 16383, 2047, 65535, 131071, 262143] mixed rfl (by kernel_rfl) ?_
    refine dops_run 13 (by simp only [fwA, seval, gfw, bx, dx, hj2, hab] <;> rfl) ?_
    refine dops_run 6 (by simp only [fwA, seval, gfw, bx, dx, hj2, hab] <;> rfl) ?_
    refine dops_end ?_
    refine awp_cond (b := false) (by simp [alook, aput, ev]) (awp_skip ?_)
    refine awp_drawn [0, 0, 0, 3, 4, 0, 2, 0, 0, 0, 2, 0] [0, 0, 3, 7, 0, 16, 63, 0, 0, 384, 1023, 2047] mixed rfl (by kernel_rfl) ?_
    refine dops_run 2 (by simp only [fwA, seval] <;> rfl) ?_
    refine dops_one (.vec ((O.take j).map Pr.enc) false) rfl rfl (fun H A' hev => os_sliceVec (l := 0) (h := j) (es := O.map Pr.enc) (f := false) rfl el32 ((hev _ (by simp [Op.operands])).trans rfl) (fun e he => by obtain ⟨x, _, rfl⟩ := List.mem_map.1 he; rfl) rfl ⟨_, (hev _ (by simp [Op.operands])).trans rfl⟩ trivial (Nat.zero_le _) (by rw [List.length_map]; omega) ⟨congrArg (fun z => PV.vec z false) e1, rfl⟩) ?_
    refine dops_appendNew (xs := ((O.take j).map Pr.enc).flatten) (n := j) rfl rfl (.inr rfl) (Nat.le_refl _) un32 ti86 un32 (.inl ⟨_, rfl⟩) (by decide) rfl (by simp only [fwA, seval] <;> rfl) (fun es f h e he => by
        simp only [fwA, seval, PV.vec.injEq] at h
        obtain ⟨rfl, rfl⟩ := h
        obtain ⟨x, _, rfl⟩ := List.mem_map.1 he
        rfl) (by simp only [fwA, seval, alen, List.length_map, hti]) (by show j * 16 ≤ _; omega) (by omega) ?_
    refine dops_run 2 (by simp only [fwA, seval, bx] <;> rfl) ?_
    refine dops_appendR (b := H.length + 1) (q := 0) (k := j) (n := 1) (cs := ((O.take j).map Pr.enc).flatten) (xs := [.int .i64 p.a, .int .i64 p.b]) rfl rfl rfl un32 ti86 un32 (.inl ⟨_, rfl⟩) rfl (by simp only [fwA, seval] <;> rfl) (by rw [flat_len Pr.enc_len, hti]; exact (Nat.zero_add _).symm) (by simp only [fwA, seval] <;> rfl) (fun es f h e he => by
        simp only [fwA, seval, PV.vec.injEq] at h
        obtain ⟨rfl, rfl⟩ := h
        simp only [List.mem_singleton] at he
        subst he; rfl) (by simp only [fwA, seval] <;> rfl) (by show (j + 1) * 16 ≤ _; omega) (by omega) ?_
    refine dops_run 2 (by simp only [fwA, seval] <;> rfl) ?_
    refine dops_one (.vec ((O.drop j).map Pr.enc) false) rfl rfl (fun H A' hev => os_sliceVec (l := j) (h := O.length) (es := O.map Pr.enc) (f := false) rfl el32 ((hev _ (by simp [Op.operands])).trans rfl) (fun e he => by obtain ⟨x, _, rfl⟩ := List.mem_map.1 he; rfl) ⟨_, (hev _ (by simp [Op.operands])).trans rfl⟩ (by rw [onOpt, List.length_map]) trivial hj (by rw [List.length_map]; omega) ⟨congrArg (fun z => PV.vec z false) e2, rfl⟩) ?_
    refine dops_appendR (b := H.length + 1) (q := 0) (k := j + 1) (n := O.length - j) (cs := ((O.take j).map Pr.enc).flatten ++ [.int .i64 p.a, .int .i64 p.b]) (xs := ((O.drop j).map Pr.enc).flatten) rfl rfl rfl un32 ti86 un32 (.inl ⟨_, rfl⟩) rfl (by simp only [fwA, seval] <;> rfl) (by rw [List.length_append, flat_len Pr.enc_len, hti]; simp; omega) (by simp only [fwA, seval] <;> rfl) (fun es f h e he => by
        simp only [fwA, seval, PV.vec.injEq] at h
        obtain ⟨rfl, rfl⟩ := h
        obtain ⟨x, _, rfl⟩ := List.mem_map.1 he
        rfl) (by simp only [fwA, seval, alen, List.length_map, htd]) (by show (j + 1 + (O.length - j)) * 16 ≤ _; omega) (by omega) ?_
    refine dops_run 1 (by simp only [fwA, seval] <;> rfl) ?_
    refine dops_end ?_
    have hC : (((O.take j ++ p :: O.drop j).map Pr.enc).flatten) = ((O.take j).map Pr.enc).flatten ++ [.int .i64 p.a, .int .i64 p.b] ++ ((O.drop j).map Pr.enc).flatten := by simp [Pr.enc]
    have hCl : (O.take j ++ p :: O.drop j).length = O.length + 1 := by rw [List.length_append, List.length_cons, hti, htd]; omega
    refine awp_keep (A' := [(0, .vec (ps.map Pr.enc) false), (3, .row (H.length + 1) 0 (O.length + 1) 2), (4, .int .i64 (i : Int))]) [0, 3, 4] (by simp only [fwA, seval, akeep, show j + 1 + (O.length - j) = O.length + 1 by omega] <;> rfl) ?_
    generalize O.take j ++ p :: O.drop j = r at hC hCl hins ⊢
    refine awp_heap (H' := H ++ [.box p.enc, .row 2 ((r.map Pr.enc).flatten)]) (by rw [hC]; simp) ?_
    refine awp_told (told_freezeAt H _ 1 (C := (r.map Pr.enc).flatten) rfl (flatP_bd _ _)) ?_
    have hch := flat_chunk Pr.enc_len r
    have hfl := flat_len Pr.enc_len r
    rw [hCl] at hch hfl
    generalize O.length + 1 = m at hch hfl ⊢
    refine awp_keep (A' := [(0, .vec (ps.map Pr.enc) false), (3, .vec (r.map Pr.enc) false), (4, .int .i64 (i : Int))]) [0, 3, 4] (by simp only [fwA, seval, akeep, hfl, hch] <;> rfl) ?_
    refine awp_run rfl (by simp only [fwA, seval] <;> rfl) ?_
    refine ⟨i + 1, [.box p.enc, .dead], by omega, by omega, ?_, ?_, rfl, by simp⟩
    · rw [hst, hadd, hins]; simp only [fwA, seval, gfw, hwi]
    · simp [Pr.enc, frz]
end Go.Proofs.YteicbhkimepbaaaGreatDoor
namespace Go.Proofs.YteicbhkimepbaaaGreatDoor
set_option linter.unusedVariables false
set_option linter.unusedSimpArgs false
set_option maxRecDepth 100000
open Go.RowKit Fw
def likeA (x : Int) : Bool := decide (x < 0)
def unlA (x : Int) : Bool := !likeA x
theorem c43A (Γ : Nat → PV) (x : Int) : Gives Tryz.prog Γ 43 [.int .i64 x] (.bool (likeA x)) := c43 Γ x
def FoundA (l : List Int) (p : PV) : Prop := (p = .int .i64 (-1) ∧ ∀ x ∈ l, likeA x = false) ∨ ∃ i : Nat, i < l.length ∧ p = .int .i64 (i : Int) ∧ (∀ x, l[i]? = some x → likeA x = true) ∧ (∀ j x, j < i → l[j]? = some x → likeA x = false)
theorem c120 (Γ : Nat → PV) (H : List Blk) (b : Nat) (l : List Int) (hb : H[b]? = some (.row 1 ((l.map I1).flatten))) (hbl : l.length ≤ 1000000000000) :
    ACalls Tryz.prog Γ 120 [.row b 0 l.length 1, .func (.func 43) [] []] H (fun p H' => FoundA l p ∧ H' = H) := by
  refine acalls_of_awp Tryz.func120 rfl (by simp [Tryz.f120]) fun hbd => ?_
  refine awp_seq ?_
  refine awp_run rfl (by simp only [fwA, seval] <;> rfl) ?_
  refine awp_seq ?_
  refine awp_seq ?_
  refine awp_run rfl (by simp only [fwA, seval, bx] <;> rfl) ?_
  refine awp_block ?_
  refine awp_for [0, 1, 7, 8] (fun i : Nat => [.row b 0 l.length 1, .func (.func 43) [] [], .int .i64 (l.length : Int), .int .i64 (i : Int)]) (fun _ => H) (fun i => l.length - i)
    (fun i => i ≤ l.length ∧ ∀ j x, j < i → l[j]? = some x → likeA x = false) 0 rfl rfl ⟨Nat.zero_le _, fun j x h => by omega⟩ fun i hi => ?_
  refine awp_seq ?_
  refine awp_run rfl (by simp only [fwA, seval] <;> rfl) ?_
  refine awp_seq ?_
  refine awp_cond (by simp only [fwA, seval] <;> rfl) ?_
  by_cases hc : (i : Int) < l.length
  rotate_left
  · simp only [hc, decide_false, Bool.false_eq_true, ↓reduceIte]
    refine awp_exit ?_
    refine awp_seq ?_
    refine awp_run rfl (by simp only [fwA, seval] <;> rfl) ?_
    refine awp_ret ?_
    refine calls_end0 (p := .int .i64 (-1)) (.inl rfl) hbd rfl rfl ⟨.inl ⟨rfl, fun x hx => ?_⟩, rfl⟩
    obtain ⟨j, hj⟩ := List.getElem?_of_mem hx
    exact hi.2 j x (by have := (List.getElem?_eq_some_iff.1 hj).1; omega) hj
  simp only [hc, decide_true, ↓reduceIte]
  have hil : i < l.length := by omega
  have hx : l[i]? = some l[i] := List.getElem?_eq_getElem hil
  refine awp_skip ?_
  refine awp_seq ?_
  refine awp_block ?_
  refine awp_seq ?_
  refine awp_run rfl (by simp only [fwA, seval] <;> rfl) ?_
  refine awp_seq ?_
  refine awp_region rfl ?_
  refine aops_run 3 (by simp only [fwA, seval] <;> rfl) ?_
  refine aops_one rfl (os_idxRow I1_len rfl el49 rfl rfl hb (by omega) hil ?_)
  refine aops_one rfl (os_loadRow I1_len rfl ti28 rfl hb (by omega) rfl hx rfl (by rw [if_neg (by decide)]; rfl) ?_)
  refine aops_fn rfl rfl rfl en43 (c43A Γ l[i]) ?_
  refine aops_end ?_
  refine awp_cond (by simp only [fwA, seval] <;> rfl) ?_
  cases hl : likeA l[i] with
  | true =>
    simp only [↓reduceIte]
    refine awp_seq ?_
    refine awp_run rfl (by simp only [fwA, seval] <;> rfl) ?_
    refine awp_ret ?_
    exact calls_end0 (fn := Tryz.f120) (R := fun p H' => FoundA l p ∧ H' = H) (p := .int .i64 (i : Int)) (.inl rfl) hbd rfl rfl ⟨.inr ⟨i, hil, rfl, fun x h => by rw [hx] at h; cases h; exact hl, hi.2⟩, rfl⟩
  | false =>
    simp only [Bool.false_eq_true, ↓reduceIte]
    refine awp_skip ?_
    refine awp_run rfl (by simp only [fwA, seval] <;> rfl) ?_
    refine ⟨i + 1, by omega, ⟨by omega, fun j x hj hjx => ?_⟩, ?_, rfl, rfl⟩
    · obtain hj | rfl : j < i ∨ j = i := by omega
      · exact hi.2 j x hj hjx
      · rw [hx] at hjx; cases hjx; exact hl
    · simp only [fwA, seval, gfw, wrapS i (by omega)]
theorem c84 (Γ : Nat → PV) (H : List Blk) (l : List Int) (f : Bool) (hl : l.length ≤ 1000000000000) :
    ACalls Tryz.prog Γ 84 [.vec (l.map I1) f] H (fun p H' => p = .row H.length 0 l.length 1 ∧ H' = H ++ [.row 1 ((l.map I1).flatten)]) := by
  refine acalls_of_awp Tryz.func84 rfl (by simp [Tryz.f84]) fun hbd => ?_
  refine awp_vlen 0 rfl fun hlen => ?_
  rw [List.length_map] at hlen
  refine awp_seq ?_
  refine awp_run rfl (by simp only [fwA, seval] <;> rfl) ?_
  refine awp_seq ?_
  refine awp_seq ?_
  refine awp_region rfl ?_
  refine aops_run 1 (by simp only [fwA, seval] <;> rfl) ?_
  refine aops_one rfl (os_nilSlice rfl un49 rfl (.inl rfl) fun b p hb hp => ?_)
  obtain rfl : p = .bool b := by cases b <;> simpa [eqv] using hp.symm
  refine aops_end ?_
  refine awp_cond (by simp only [fwA, seval] <;> rfl) ?_
  cases b with
  | true =>
    obtain rfl : l = [] := by
      by_cases hne : l = []
      · exact hne
      · exact absurd (hb (by simpa using hne)) (by decide)
    simp only [↓reduceIte]
    refine awp_seq ?_
    refine awp_run rfl (by simp only [fwA, seval] <;> rfl) ?_
    refine awp_told (told_adopt 2 1 (by decide) rfl) ?_
    refine awp_bd fun hbd' => ?_
    refine awp_ret ?_
    show RetQ Tryz.prog Γ Tryz.f84 H.length (fun p H' => p = .row H.length 0 0 1 ∧ H' = H ++ [.row 1 []]) .ret _ _ []
    exact calls_at (p := .row H.length 0 0 1) (.inl rfl) hbd' rfl (by simp [PV.bd]) (by simp) ⟨rfl, rfl⟩
  | false =>
    simp only [Bool.false_eq_true, ↓reduceIte]
    refine awp_skip ?_
    refine awp_seq ?_
    refine awp_region rfl ?_
    refine aops_run 2 (by simp only [fwA, seval, bx] <;> rfl) ?_
    refine aops_one rfl (os_appendNew rfl un49 ti28 un49 (.inl ⟨_, rfl⟩) (by decide) rfl (by simp only [fwA, seval] <;> rfl) (fun es f h e he => by
        simp only [fwA, seval, PV.vec.injEq] at h
        obtain ⟨rfl, rfl⟩ := h
        obtain ⟨x, _, rfl⟩ := List.mem_map.1 he
        rfl) (by simp only [fwA, seval] <;> rfl) (by rw [List.length_map]; show l.length * 8 ≤ _; omega) (by rw [List.length_map]; omega) ?_)
    refine aops_run 1 (by simp only [fwA, seval] <;> rfl) ?_
    refine awp_bd fun hbd' => ?_
    refine awp_ret ?_
    exact calls_at (p := .row H.length 0 l.length 1) (.inl rfl) hbd' (by simp [ares, aresL, ares1, alook, Tryz.f84]) (by simp [PV.bd]) (by simp) ⟨rfl, rfl⟩
theorem keptA_step (l : List Int) (i : Nat) (x : Int) (h : l[i]? = some x) : (l.take (i + 1)).filter unlA = (l.take i).filter unlA ++ (if unlA x then [x] else []) := by
  rw [List.take_add_one, h, List.filter_append]
  cases hu : unlA x <;> simp [List.filter_cons, hu]
theorem keptA_le (l : List Int) (i : Nat) : ((l.take i).filter unlA).length ≤ i := by
  have := List.length_filter_le unlA (l.take i)
  rw [List.length_take] at this
  omega
set_option maxHeartbeats 1000000 in
theorem c83 (Γ : Nat → PV) (H : List Blk) (n0 b : Nat) (l : List Int) (hn0 : n0 ≤ b) (hb : H[b]? = some (.row 1 ((l.map I1).flatten))) (hbl : l.length ≤ 1000000000000) :
    ACalls Tryz.prog Γ 83 [.row b 0 l.length 1, .func (.func 43) [] []] H (RowAt H n0 1 (l.filter unlA).length (((l.filter unlA).map I1).flatten)) := by
  refine acalls_of_awp Tryz.func83 rfl (by simp [Tryz.f83]) fun hbd => ?_
  have hbH : b < H.length := (List.getElem?_eq_some_iff.1 hb).1
  refine awp_seq ?_
  refine awp_run rfl (by simp only [fwA, seval] <;> rfl) ?_
  refine awp_seq ?_
  refine awp_region rfl ?_
  refine aops_run 2 (by simp only [fwA, seval] <;> rfl) ?_
  refine aops_call rfl rfl rfl en120 ((c120 Γ H b l hb hbl).mono fun p H' hp => ?_)
  obtain ⟨hf, e⟩ := hp
  rw [e]
  clear e H'
  obtain ⟨rfl, hall⟩ | ⟨i0, hi0, rfl, hlk, hbef⟩ := hf
  · refine aops_run 1 (by simp only [fwA, seval] <;> rfl) ?_
    refine awp_seq ?_
    refine awp_seq ?_
    refine awp_run rfl (by simp only [fwA, seval] <;> rfl) ?_
    refine awp_cond (by simp only [fwA, seval] <;> rfl) ?_
    simp only [decide_true, ↓reduceIte]
    refine awp_seq ?_
    refine awp_run rfl (by simp only [fwA, seval] <;> rfl) ?_
    refine awp_ret ?_
    have hfl : l.filter unlA = l := List.filter_eq_self.2 fun x hx => by unfold unlA; rw [hall x hx]; rfl
    exact calls_end0 (p := .row b 0 l.length 1) (.inl rfl) hbd rfl (by simp [PV.bd]; omega) ⟨b, by rw [hfl], by rw [hfl]; exact hb, hn0, rfl, Nat.le_refl _⟩
  have hm1 : ¬ ((i0 : Int) = -1) := by omega
  refine aops_run 1 (by simp only [fwA, seval] <;> rfl) ?_
  refine awp_seq ?_
  refine awp_seq ?_
  refine awp_run rfl (by simp only [fwA, seval] <;> rfl) ?_
  refine awp_cond (by simp only [fwA, seval] <;> rfl) ?_
  simp only [hm1, decide_false, Bool.false_eq_true, ↓reduceIte]
  refine awp_skip ?_
  refine awp_seq ?_
  refine awp_seq ?_
  refine awp_run rfl (by simp only [fwA, seval] <;> rfl) ?_
  refine awp_block ?_
  have hk0 : (l.take (i0 + 1)).filter unlA = l.take i0 := by
    rw [keptA_step l i0 _ (List.getElem?_eq_getElem hi0), show unlA l[i0] = false by unfold unlA; rw [hlk _ (List.getElem?_eq_getElem hi0)]; rfl]
    simp only [Bool.false_eq_true, ↓reduceIte, List.append_nil]
    refine List.filter_eq_self.2 fun x hx => ?_
    obtain ⟨j, hj⟩ := List.getElem?_of_mem hx
    have hj2 := (List.getElem?_eq_some_iff.1 hj).1
    rw [List.length_take] at hj2
    rw [List.getElem?_take_of_lt (by omega)] at hj
    unfold unlA
    rw [hbef j x (by omega) hj]; rfl
  have hset : ∀ arr : List Int, (H.set b (.row 1 ((arr.map I1).flatten)))[b]? = some (.row 1 ((arr.map I1).flatten)) := fun arr => List.getElem?_set_self hbH
  refine awp_forG [0, 1, 5, 6] (fun s : Nat × List Int => [.row b 0 l.length 1, .func (.func 43) [] [], .int .i64 (((l.take s.1).filter unlA).length : Int), .int .i64 (s.1 : Int)])
    (fun s => H.set b (.row 1 ((s.2.map I1).flatten))) (fun s => l.length - s.1)
    (fun s => s.1 ≤ l.length ∧ s.2.length = l.length ∧ s.2.drop s.1 = l.drop s.1 ∧ s.2.take ((l.take s.1).filter unlA).length = (l.take s.1).filter unlA) (i0 + 1, l) ?_ ?_
    ⟨hi0, rfl, rfl, by rw [hk0, List.length_take, Nat.min_eq_left (by omega)]⟩ (fun s hs => ⟨fun B hB => ?_, by simp [PV.bdL, PV.bd]; omega⟩) (fun s hs q hq => by cases hq) fun s hs => ?_
  · simp only [fwA, seval, gfw, wrapS i0 (by omega), hk0, List.length_take, Nat.min_eq_left (Nat.le_of_lt hi0)]
  · obtain ⟨_, g2⟩ := List.getElem?_eq_some_iff.1 hb
    show H = H.set b _
    rw [← g2]; exact (List.set_getElem_self _).symm
  · rw [List.length_set]
    rcases List.mem_or_eq_of_mem_set hB with h | rfl
    · exact hbd B h
    · exact flat_bd (fun _ => rfl) _
  obtain ⟨i, arr⟩ := s
  obtain ⟨hin, hal, hdr, htk⟩ := hs
  simp only at hin hal hdr htk ⊢
  have hH := hset arr
  refine awp_seq ?_
  refine awp_seq ?_
  refine awp_run rfl (by simp only [fwA, seval, bx] <;> rfl) ?_
  refine awp_cond (by simp only [fwA, seval] <;> rfl) ?_
  by_cases hc : (i : Int) < l.length
  rotate_left
  · have e : i = l.length := by omega
    subst e
    rw [List.take_length] at htk
    have hjl : (l.filter unlA).length ≤ l.length := List.length_filter_le _ _
    simp only [hc, decide_false, Bool.false_eq_true, ↓reduceIte]
    refine awp_exit ?_
    refine awp_seq ?_
    refine awp_region rfl ?_
    refine aops_run 2 (by simp only [fwA, seval, List.take_length] <;> rfl) ?_
    refine aops_one rfl (os_sliceSuf rfl el49 rfl rfl hjl hH (by rw [flat_len I1_len]; omega) ?_)
    refine aops_one rfl (os_clearRow rfl un49 ti28 rfl hH (by rw [flat_len I1_len, hal]; show _ = 0 + _ * 1 + (l.length - _) * 1; omega) ?_)
    have hkey : ∃ cs2, splice ((arr.map I1).flatten) (0 + (l.filter unlA).length * 1) (List.replicate (l.length - (l.filter unlA).length) [PV.int .i64 0]).flatten = cs2 ∧ cs2.length = 0 + l.length * 1 ∧ cs2.take (0 + (l.filter unlA).length * 1) = ((l.filter unlA).map I1).flatten := by
      have hcl : ((arr.map I1).flatten).length = l.length * 1 := by rw [flat_len I1_len, hal]
      have hzl : ((List.replicate (l.length - (l.filter unlA).length) [PV.int .i64 0]).flatten).length = (l.length - (l.filter unlA).length) * 1 := by rw [rep_len]; rfl
      refine ⟨_, rfl, (splice_length (by rw [hcl, hzl]; omega)).trans (by omega), ?_⟩
      rw [Nat.zero_add, take_splice (by rw [hcl]; omega), flat_take I1_len, htk]
    obtain ⟨cs2, hk1, hk2, hk3⟩ := hkey
    refine aops_end ?_
    refine awp_heap (H' := H.set b (.row 1 cs2)) (by rw [List.set_set, ← hk1]) ?_
    refine awp_seq ?_
    refine awp_region rfl ?_
    refine aops_run 2 (by simp only [fwA, seval] <;> rfl) ?_
    refine aops_one rfl (os_slicePre rfl el49 rfl rfl hjl (List.getElem?_set_self hbH) hk2 ?_)
    rw [hk3]
    refine aops_run 1 (by simp only [fwA, seval] <;> rfl) ?_
    refine awp_bd fun hbd' => ?_
    refine awp_ret ?_
    refine calls_at (fn := Tryz.f83) (p := .row H.length 0 (l.filter unlA).length 1) (.inl rfl) hbd' (by simp [ares, aresL, ares1, alook, Tryz.f83]) (by simp [PV.bd]) (by simp) ⟨H.length, rfl, ?_, by omega, ?_, by simp⟩
    · rw [List.getElem?_append_right (by simp)]; simp
    · rw [List.take_append_of_le_length (by simp; omega), List.take_set_of_le hn0, List.take_set_of_le hn0]
  have hil : i < l.length := by omega
  have hx : l[i]? = some l[i] := List.getElem?_eq_getElem hil
  have hax : arr[i]? = some l[i] := by
    have := congrArg (·[0]?) hdr
    simp only [List.getElem?_drop, Nat.add_zero] at this
    rw [this, hx]
  have hHl : b < (H.set b (.row 1 ((arr.map I1).flatten))).length := by rw [List.length_set]; exact hbH
  have hHs : ∀ B, (H.set b (.row 1 ((arr.map I1).flatten))).set b B = H.set b B := fun B => List.set_set ..
  have hHd := hHs (.row 1 ((arr.map I1).flatten))
  generalize hgen : H.set b (.row 1 ((arr.map I1).flatten)) = Hr at hH hHl hHs hHd ⊢
  simp only [hc, decide_true, ↓reduceIte]
  refine awp_skip ?_
  refine awp_seq ?_
  refine awp_block ?_
  refine awp_seq ?_
  refine awp_region rfl ?_
  refine aops_run 2 (by simp only [fwA, seval] <;> rfl) ?_
  refine aops_one rfl (os_idxRow I1_len rfl el49 rfl rfl hH (by omega) hil ?_)
  refine aops_one rfl (os_loadRow I1_len rfl ti28 rfl hH (by omega) (by rw [hal]) hax rfl (by rw [if_neg (by decide)]; rfl) ?_)
  refine aops_run 2 (by simp only [fwA, seval, bx, dx] <;> rfl) ?_
  refine aops_end ?_
  have hH3 : ∀ L : List Blk, (Hr ++ L)[b]? = some (.row 1 ((arr.map I1).flatten)) := fun L => get_old L hH
  refine awp_seq ?_
  refine awp_region rfl ?_
  refine aops_run 2 (by simp only [fwA, seval, bx, dx] <;> rfl) ?_
  refine aops_fn rfl rfl rfl en43 (c43A Γ l[i]) ?_
  refine aops_run 1 (by simp only [fwA, seval] <;> rfl) ?_
  refine awp_cond (by simp only [fwA, seval] <;> rfl) ?_
  have hks := keptA_step l i _ hx
  cases hu : likeA l[i] with
  | true =>
    simp only [Bool.not_true, Bool.false_eq_true, ↓reduceIte]
    rw [show unlA l[i] = false by unfold unlA; rw [hu]; rfl] at hks
    simp only [Bool.false_eq_true, ↓reduceIte, List.append_nil] at hks
    refine awp_skip ?_
    refine awp_run rfl (by simp only [fwA, seval] <;> rfl) ?_
    refine ⟨(i + 1, arr), [], by show l.length - (i + 1) < l.length - i; omega, ⟨hil, hal, ?_, by rw [hks]; exact htk⟩, ?_, by rw [hgen, List.append_nil], rfl, by rw [hgen]; exact Nat.le_refl _⟩
    · have := congrArg (List.drop 1) hdr
      simpa [List.drop_drop, Nat.add_comm] using this
    · simp only [fwA, seval, gfw, wrapS i (by omega), hks]
  | false =>
    simp only [Bool.not_false, ↓reduceIte]
    rw [show unlA l[i] = true by unfold unlA; rw [hu]; rfl] at hks
    simp only [↓reduceIte] at hks
    have hkl := keptA_le l i
    refine awp_seq ?_
    refine awp_region rfl ?_
    refine aops_run 3 (by simp only [fwA, seval, bx, dx] <;> rfl) ?_
    refine aops_one rfl (os_idxRow I1_len rfl el49 rfl rfl hH (by omega) (by omega) ?_)
    refine aops_one rfl (os_putRow I1_len rfl ti28 rfl hH (Nat.zero_add _) (by rw [hal]) (by omega) rfl rfl rfl (by decide) ?_)
    refine aops_end ?_
    refine awp_run rfl (by simp only [fwA, seval] <;> rfl) ?_
    refine awp_run rfl (by simp only [fwA, seval] <;> rfl) ?_
    refine ⟨(i + 1, arr.set ((l.take i).filter unlA).length l[i]), [], by show l.length - (i + 1) < l.length - i; omega, ⟨hil, by rw [List.length_set]; exact hal, ?_, ?_⟩, ?_, ?_, rfl, by rw [← hgen, List.length_set, List.length_set]; exact Nat.le_refl _⟩
    · rw [List.drop_set_of_lt (by omega)]
      have := congrArg (List.drop 1) hdr
      simpa [List.drop_drop, Nat.add_comm] using this
    · show (arr.set _ _).take _ = _
      rw [hks, List.length_append, show [l[i]].length = 1 from rfl, List.take_add_one, List.take_set_of_le (Nat.le_refl _), htk, List.getElem?_set_self (by omega)]
      rfl
    · simp only [fwA, seval, gfw, wrapS i (by omega), hks, List.length_append, List.length_cons, List.length_nil, Nat.zero_add, wrapS _ (show ((l.take i).filter unlA).length + 1 < 9223372036854775808 by omega)]
    · simp only [hHs, List.append_nil]
end Go.Proofs.YteicbhkimepbaaaGreatDoor
namespace Go.Proofs.YteicbhkimepbaaaGreatDoor
set_option linter.unusedVariables false
set_option linter.unusedSimpArgs false
set_option maxRecDepth 100000
open Go.RowKit Fw
def idxI (fr : List Int) (a : Int) : Int := match fr.findIdx? (fun b => decide (b = a)) with
  | some k => k
  | none => -1
theorem idxI_none {fr : List Int} {a : Int} (h : ∀ j, j < fr.length → fr[j]? ≠ some a) : idxI fr a = -1 := by
  unfold idxI
  have : fr.findIdx? (fun b => decide (b = a)) = none := by
    rw [List.findIdx?_eq_none_iff]
    intro x hx
    obtain ⟨j, hj⟩ := List.getElem?_of_mem hx
    have := h j (List.getElem?_eq_some_iff.1 hj).1
    rw [hj] at this
    simpa using this
  rw [this]
theorem idxI_some {fr : List Int} {a : Int} {i : Nat} (h : ∀ j, j < i → fr[j]? ≠ some a) (hi : fr[i]? = some a) : idxI fr a = i := by
  unfold idxI
  have : fr.findIdx? (fun b => decide (b = a)) = some i := by
    obtain ⟨h1, h2⟩ := List.getElem?_eq_some_iff.1 hi
    rw [List.findIdx?_eq_some_iff_getElem]
    refine ⟨h1, by simp [h2], fun j hj => ?_⟩
    have := h j hj
    rw [List.getElem?_eq_getElem (by omega)] at this
    simpa using this
  rw [this]
theorem c121 (Γ : Nat → PV) (fr : List Int) (a : Int) : Gives Tryz.prog Γ 121 [.vec (fr.map I1) false, .int .i64 a] (.int .i64 (idxI fr a)) := by
  refine fn_of_awp Tryz.func121 rfl (by simp [Tryz.f121]) rfl fun H => ?_
  refine awp_vlen 0 rfl fun hlen => ?_
  rw [List.length_map] at hlen
  refine awp_seq ?_
  refine awp_run rfl (by simp only [fwA, seval] <;> rfl) ?_
  refine awp_seq ?_
  refine awp_seq ?_
  refine awp_run rfl (by simp only [fwA, seval, bx, List.length_map] <;> rfl) ?_
  refine awp_block ?_
  refine awp_for [0, 1, 7, 8] (fun i : Nat => [.vec (fr.map I1) false, .int .i64 a, .int .i64 fr.length, .int .i64 (i : Int)]) (fun _ => H) (fun i => fr.length - i) (fun i => i ≤ fr.length ∧ ∀ j, j < i → fr[j]? ≠ some a) 0 rfl rfl ⟨Nat.zero_le _, fun j hj => by omega⟩ fun i hs => ?_
  obtain ⟨hi, hno⟩ := hs
  refine awp_seq ?_
  refine awp_run rfl (by simp only [fwA, seval] <;> rfl) ?_
  refine awp_seq ?_
  refine awp_cond (by simp only [fwA, seval] <;> rfl) ?_
  by_cases hc : (i : Int) < fr.length
  rotate_left
  · simp only [hc, decide_false, Bool.false_eq_true, ↓reduceIte]
    refine awp_exit ?_
    refine awp_seq (awp_run rfl (by simp only [fwA, seval] <;> rfl) (awp_ret ?_))
    have hi' : i = fr.length := by omega
    rw [hi'] at hno
    exact gives_end0 (.inl rfl) (by rw [idxI_none hno]; rfl)
  simp only [hc, decide_true, ↓reduceIte]
  refine awp_skip ?_
  have hia : i < fr.length := by omega
  have ga : fr[i]? = some fr[i] := List.getElem?_eq_getElem hia
  refine awp_seq ?_
  refine awp_block ?_
  refine awp_seq ?_
  refine awp_run rfl (by simp only [fwA, seval] <;> rfl) ?_
  refine awp_seq ?_
  -- region 4
  refine awp_run rfl (by simp only [fwA, seval, gfw, bx, dx, ga] <;> rfl) ?_
  refine awp_cond (by simp only [fwA, seval] <;> rfl) ?_
  by_cases he : a = fr[i]
  · simp only [← he, decide_true, ↓reduceIte]
    have hri := idxI_some hno (ga.trans (congrArg some he.symm))
    rw [hri]
    refine awp_seq ?_
    refine awp_run rfl (by simp only [fwA, seval] <;> rfl) (awp_ret ?_)
    exact gives_end0 (.inl rfl) rfl
  simp only [he, decide_false, Bool.false_eq_true, ↓reduceIte]
  refine awp_skip ?_
  refine awp_run rfl (by simp only [fwA, seval] <;> rfl) ?_
  refine ⟨i + 1, by omega, ⟨by omega, fun j hj => ?_⟩, by rw [wrapS i (by omega)]; rfl, rfl, rfl⟩
  by_cases hji : j = i
  · subst hji; rw [ga]; simpa using fun h => he h.symm
  · exact hno j (by omega)
theorem idxI_has (fr : List Int) (a : Int) : decide (0 ≤ idxI fr a) = fr.contains a := by
  by_cases h : a ∈ fr
  · obtain ⟨k, hk⟩ := List.mem_iff_getElem?.1 h
    have : ∃ i : Nat, (∀ j, j < i → fr[j]? ≠ some a) ∧ fr[i]? = some a := by
      induction k using Nat.strongRecOn with
      | _ k ih =>
        by_cases hx : ∃ j, j < k ∧ fr[j]? = some a
        · obtain ⟨j, hj, e⟩ := hx
          exact ih j hj e
        · exact ⟨k, fun j hj e => hx ⟨j, hj, e⟩, hk⟩
    obtain ⟨i, h1, h2⟩ := this
    rw [idxI_some h1 h2, List.contains_iff_mem.2 h]
    simp
  · have h1 : ∀ j, j < fr.length → fr[j]? ≠ some a := fun j _ e => h (List.mem_of_getElem? e)
    rw [idxI_none h1]
    have : fr.contains a = false := by
      cases e : fr.contains a
      · rfl
      · exact absurd (List.contains_iff_mem.1 e) h
    rw [this]; rfl
theorem c85 (Γ : Nat → PV) (fr : List Int) (a : Int) : Gives Tryz.prog Γ 85 [.vec (fr.map I1) false, .int .i64 a] (.bool (fr.contains a)) := by
  have h := c121 Γ fr a
  rw [← idxI_has]
  refine fn_of_awp Tryz.func85 rfl (by simp [Tryz.f85]) rfl fun H => ?_
  refine awp_seq ?_
  refine awp_run rfl (by simp only [fwA, seval] <;> rfl) ?_
  refine awp_seq ?_
  refine awp_region rfl ?_
  refine aops_run 2 (by simp only [fwA, seval, gfw, bx, dx, bitfw] <;> rfl) ?_
  refine aops_fn rfl rfl rfl en121 h ?_
  refine aops_run 2 (by simp only [fwA, seval, gfw, bx, dx, bitfw] <;> rfl) ?_
  refine aops_end ?_
  refine awp_ret ?_
  exact gives_end0 (.inl rfl) rfl
end Go.Proofs.YteicbhkimepbaaaGreatDoor
namespace Go.Proofs.YteicbhkimepbaaaGreatDoor
set_option linter.unusedVariables false
set_option linter.unusedSimpArgs false
set_option maxRecDepth 100000
open Go.RowKit Fw
def LowOk (f : Int → Int) (es : List (Int × PV)) (m : List Int) : Prop := ∀ x : Int, (find1 x es 0 = none ∧ x ∉ m) ∨ ∃ k : Nat, find1 x es 0 = some (k, .int .i64 (f x)) ∧ x ∈ m
def lowTo (f : Int → Int) (es : List (Int × PV)) (y : Int) : List (Int × PV) := match find1 y es 0 with
  | none => es ++ [(y, .int .i64 (f y))]
  | some (k, _) => es.set k (y, .int .i64 (f y))
theorem lowT_step {f : Int → Int} {es : List (Int × PV)} {m : List Int} (h : LowOk f es m) (y : Int) : LowOk f (lowTo f es y) (m ++ [y]) := fun x => by
  unfold lowTo
  rcases h y with ⟨h1, h2⟩ | ⟨k, h1, h2⟩
  · rw [h1]
    simp only
    rw [find1_snoc h1]
    by_cases e : x = y
    · exact .inr ⟨_, by rw [if_pos e, e], by simp [e]⟩
    · rw [if_neg e]
      exact (h x).imp (fun ⟨a, b⟩ => ⟨a, by simp [b, e]⟩) fun ⟨k, a, b⟩ => ⟨k, a, by simp [b]⟩
  · rw [h1]
    simp only
    rw [find1_set (v := .int .i64 (f y)) (by rw [Nat.zero_add]; exact h1)]
    by_cases e : x = y
    · exact .inr ⟨_, by rw [if_pos e, e], by simp [e]⟩
    · rw [if_neg e]
      exact (h x).imp (fun ⟨a, b⟩ => ⟨a, by simp [b, e]⟩) fun ⟨k, a, b⟩ => ⟨k, a, by simp [b]⟩
theorem low_plain {f : Int → Int} {es : List (Int × PV)} (h : (es.all fun x => x.2.bd 0) = true) (y : Int) : ((lowTo f es y).all fun x => x.2.bd 0) = true := by
  unfold lowTo
  split
  · rw [List.all_append, h]; rfl
  · rw [List.all_eq_true] at h ⊢
    intro e he
    rcases List.mem_or_eq_of_mem_set he with k | rfl
    · exact h e k
    · rfl
theorem plain_pr (l : List Pr) (m : Nat) : PV.bdL m ((l.map Pr.enc).flatten) = true := flat_bd (fun t => by simp only [Pr.fw]) _
def HPj (M : List Blk) (O : List Pr) (L : List Blk) : List Blk := M ++ (Blk.box [.row (M.length + 1) 0 O.length 2] :: .row 2 ((O.map Pr.enc).flatten) :: L)
section
variable {M L : List Blk} {O O' : List Pr}
theorem HPj_len : (HPj M O L).length = M.length + 2 + L.length := by simp [HPj]; omega
theorem HPj_app (X : List Blk) : HPj M O L ++ X = HPj M O (L ++ X) := by simp [HPj]
theorem HPj_old {b : Nat} {B : Blk} (h : M[b]? = some B) : (HPj M O L)[b]? = some B := Fw.get_old _ h
theorem HPj_box : (HPj M O L)[M.length]? = some (.box [.row (M.length + 1) 0 O.length 2]) := by unfold HPj; rw [Fw.get_at0]; rfl
theorem HPj_row : (HPj M O L)[M.length + 1]? = some (.row 2 ((O.map Pr.enc).flatten)) := by unfold HPj; rw [Fw.get_at]; rfl
theorem HPj_at (j : Nat) : (HPj M O L)[M.length + 2 + j]? = L[j]? := by unfold HPj; rw [show M.length + 2 + j = M.length + (j + 2) by omega, Fw.get_at]; rfl
theorem HPj_boxS (B : Blk) : ((HPj M O L).set (M.length + 1) B)[M.length]? = some (.box [.row (M.length + 1) 0 O.length 2]) := by rw [List.getElem?_set_ne (by omega)]; exact HPj_box
theorem HPj_push (x : Pr) : ((HPj M O L).set (M.length + 1) (.row 2 (((O ++ [x]).map Pr.enc).flatten))).set M.length (.box [.row (M.length + 1) 0 (O.length + 1) 2]) = HPj M (O ++ [x]) L := by
  unfold HPj
  rw [Fw.set_at, Fw.set_at0]; simp
theorem HPj_bd (h : ∀ B ∈ HPj M O L, B.bd (HPj M O L).length = true) (O' : List Pr) : ∀ B ∈ HPj M O' L, B.bd (HPj M O' L).length = true := fun B hB => by
  have e : (HPj M O' L).length = (HPj M O L).length := by rw [HPj_len, HPj_len]
  rw [e]
  unfold HPj at hB
  simp only [List.mem_append, List.mem_cons] at hB
  rcases hB with hB | rfl | rfl | hB
  · exact h B (by unfold HPj; simp [hB])
  · rw [HPj_len]
    simp [Blk.bd, PV.bdL, PV.bd]; omega
  · exact plain_pr _ _
  · exact h B (by unfold HPj; simp [hB])
end
theorem projO_len (ns : List (List UInt8)) (us : List Nat) (c : List Pr) (K : List Int) (v : Int) : (projO ns us c K v).length ≤ c.length + 3 := by
  unfold projO
  rw [List.length_append, List.length_append, List.length_map]
  have h1 : (if lowV ns us c v = botV ns us then ([] : List Pr) else [⟨-1 - lowV ns us c v, v⟩]).length ≤ 1 := by split <;> simp
  have h2 : (if highV ns us c v = topV ns us then ([] : List Pr) else [⟨v, -1 - highV ns us c v⟩]).length ≤ 1 := by split <;> simp
  have h3 := List.length_filter_le (fun w => K.contains w && !leqB (min ns.length us.length) us (highV ns us c v) (lowV ns us c w)) (abv c v)
  have h4 := abv_len (c := c) (a := v)
  omega
theorem flatMap_le {X Y : Type} (f : X → List Y) (n : Nat) (h : ∀ x, (f x).length ≤ n) : ∀ l : List X, (l.flatMap f).length ≤ l.length * n
  | [] => by simp
  | x :: l => by
    rw [List.flatMap_cons, List.length_append, List.length_cons, Nat.add_mul]
    have := h x
    have := flatMap_le f n h l
    omega
theorem i1_plain (l : List Int) (n : Nat) : PV.bdL n ((l.map I1).flatten) = true := flat_bd (fun _ => rfl) l
set_option maxHeartbeats 16000000 in
theorem c35 (Γ : Nat → PV) (hΓ : Tab64 Γ) (ns : List (List UInt8)) (us : List Nat) (hw : W64 us) (c : List Pr) (hl : c.length ≤ 10000000) (ho : OkP c) (keep : List Int) (hk64 : ∀ v ∈ keep, I64 v) (hkl : keep.length * (c.length + 3) ≤ 1000000000000) : Gives Tryz.prog Γ 35 [.agg [.vec (ns.map S1) false, .vec (us.map U1) false], .vec (c.map Pr.enc) false, .vec (keep.map I1) false] (.vec ((projV ns us c keep).map Pr.enc) false) := by
  have hkl1 : keep.length ≤ 1000000000000 := Nat.le_trans (Nat.le_mul_of_pos_right _ (by omega)) hkl
  have h17 := c17 Γ hΓ ns us hw c (by omega) ho
  refine fn_of_awp Tryz.func35 rfl (by simp [Tryz.f35]) rfl fun H => ?_
  refine awp_bd fun hbd => ?_
  refine awp_seq ?_
  refine awp_run rfl (by simp only [fwA, seval, gfw, bx, dx, bitfw] <;> rfl) ?_
  refine awp_seq ?_
  refine awp_seq ?_
  unfold projV
  cases hk : knownB ns us c
  · rw [hk] at h17
    refine awp_region rfl ?_
    refine aops_run 2 (by simp only [fwA, seval, gfw, bx, dx, bitfw] <;> rfl) ?_
    refine aops_fn rfl rfl rfl en17 h17 ?_
    refine aops_run 1 (by simp only [fwA, seval, gfw, bx, dx, bitfw] <;> rfl) ?_
    refine aops_end ?_
    refine awp_cond (b := true) (by simp [alook, aput, ev]) ?_
    refine awp_seq ?_
    refine awp_run rfl (by simp only [fwA, seval] <;> rfl) ?_
    refine awp_told (told_le 6 (.vec [] false) ⟨nofun, trivial⟩) ?_
    refine awp_ret ?_
    exact gives_end (.inl rfl) _ rfl
  rw [hk] at h17
  rw [if_pos rfl]
  refine awp_region rfl ?_
  refine aops_run 2 (by simp only [fwA, seval, gfw, bx, dx, bitfw] <;> rfl) ?_
  refine aops_fn rfl rfl rfl en17 h17 ?_
  refine aops_run 1 (by simp only [fwA, seval, gfw, bx, dx, bitfw] <;> rfl) ?_
  refine aops_end ?_
  refine awp_cond (b := false) (by simp [alook, aput, ev]) (awp_skip ?_)
  refine awp_seq ?_
  refine awp_region rfl ?_
  refine aops_run 1 (by simp only [fwA, seval, gfw, bx, dx, bitfw] <;> rfl) ?_
  refine aops_call rfl rfl rfl en84 ((c84 Γ _ keep false (by omega)).mono fun p H' hp => ?_)
  obtain ⟨rfl, rfl⟩ := hp
  rw [show (H ++ [Blk.box [.vec (ns.map S1) false, .vec (us.map U1) false], .box [.vec (keep.map I1) false]]).length = H.length + 2 by simp]
  refine aops_call rfl rfl rfl en83 ((c83 Γ _ (H.length + 2) (H.length + 2) keep (Nat.le_refl _) (by rw [List.append_assoc, Fw.get_at]; rfl) (by omega)).mono fun p H' hp => ?_)
  obtain ⟨b, rfl, hb, hnb, ht, hHl⟩ := hp
  have ht : H'.take (H.length + 2) = H ++ [Blk.box [.vec (ns.map S1) false, .vec (us.map U1) false], .box [.vec (keep.map I1) false]] := by
    rw [ht, List.append_assoc, Fw.take_at]; rfl
  have hg0 : ∀ j, j < 2 → H'[H.length + j]? = (H ++ [Blk.box [.vec (ns.map S1) false, .vec (us.map U1) false], .box [.vec (keep.map I1) false]])[H.length + j]? := fun j hj => by rw [← ht, List.getElem?_take_of_lt (by omega)]
  have hg1 : H'[H.length + 1]? = some (.box [.vec (keep.map I1) false]) := by rw [hg0 1 (by decide), Fw.get_at]; rfl
  have hg00 : H'[H.length]? = some (.box [.vec (ns.map S1) false, .vec (us.map U1) false]) := by have := hg0 0 (by decide); rw [Nat.add_zero] at this; rw [this, Fw.get_at0]; rfl
  have hbl := (List.getElem?_eq_some_iff.1 hb).1
  refine aops_run 1 (by simp only [fwA, seval, gfw, bx, dx, bitfw, hg1] <;> rfl) ?_
  refine aops_end ?_
  refine awp_keep (A' := [(1, .vec (c.map Pr.enc) false), (3, .ptr H.length 0), (5, .ptr (H.length + 1) 0)]) [1, 3, 5] (by simp only [fwA, seval, gfw, akeep] <;> rfl) ?_
  have hfil : keep.filter unlA = keepV keep := rfl
  rw [hfil] at hb ⊢
  have hKVl : (keepV keep).length ≤ keep.length := List.length_filter_le _ _
  have hKV64 : ∀ v ∈ keepV keep, I64 v := fun v hv => hk64 v (keep_mem.1 hv).1
  have hKV0 : ∀ v ∈ keepV keep, 0 ≤ v := fun v hv => (keep_mem.1 hv).2
  generalize keepV keep = KV at *
  have hfz := told_freezeR (Γ := Γ) (A := [(1, .vec (c.map Pr.enc) false), (3, .ptr H.length 0), (5, .ptr (H.length + 1) 0)]) (H := H'.set (H.length + 1) (.box [.row b 0 KV.length 1])) b (sz := 1) (C := (KV.map I1).flatten) (H2 := (H'.set (H.length + 1) (.box [.vec (KV.map I1) false])).set b .dead) (by rw [List.getElem?_set_ne (by omega)]; exact hb) (i1_plain _ 0) (by simp) (fun k B hB => by
    by_cases hkb : k = b
    · subst hkb
      rw [List.getElem?_set_self (by simpa using hbl)] at hB
      rw [List.getElem?_set_self (by simpa using hbl)]
      exact ⟨_, rfl, .inl (Option.some.inj hB).symm⟩
    · rw [List.getElem?_set_ne (Ne.symm hkb)] at hB
      rw [List.getElem?_set_ne (Ne.symm hkb)]
      by_cases hk1 : k = H.length + 1
      · subst hk1
        rw [List.getElem?_set_self (by omega)] at hB
        rw [List.getElem?_set_self (by omega)]
        refine ⟨_, rfl, .inr ?_⟩
        rw [← Option.some.inj hB]
        have hlen : ((KV.map I1).flatten).length = 0 + KV.length * 1 := by rw [flat_len I1_len, Nat.zero_add]
        show _ = Blk.box [frz b 1 ((KV.map I1).flatten) (.row b 0 KV.length 1)]
        rw [frz_row, if_pos ⟨rfl, rfl, hlen⟩, List.drop_zero, flat_chunk I1_len]
      · rw [List.getElem?_set_ne (Ne.symm hk1)] at hB
        rw [List.getElem?_set_ne (Ne.symm hk1)]
        exact ⟨B, hB, .inl rfl⟩)
  refine awp_told (A' := [(1, .vec (c.map Pr.enc) false), (3, .ptr H.length 0), (5, .ptr (H.length + 1) 0)]) hfz ?_
  have hKt : ((H'.set (H.length + 1) (.box [.vec (KV.map I1) false])).set b .dead).take H.length = H := by
    rw [List.take_set_of_le (by omega), List.take_set_of_le (by omega)]
    have := congrArg (List.take H.length) ht
    rw [List.take_take, Nat.min_eq_left (by omega), List.take_left' rfl] at this
    exact this
  have hKe := take_pre hKt
  have hK0 : ((H'.set (H.length + 1) (.box [.vec (KV.map I1) false])).set b .dead)[H.length]? = some (.box [.vec (ns.map S1) false, .vec (us.map U1) false]) := by
    rw [List.getElem?_set_ne (by omega), List.getElem?_set_ne (by omega)]; exact hg00
  have hK1 : ((H'.set (H.length + 1) (.box [.vec (KV.map I1) false])).set b .dead)[H.length + 1]? = some (.box [.vec (KV.map I1) false]) := by
    rw [List.getElem?_set_ne (by omega), List.getElem?_set_self (by omega)]
  clear hfz hg0 hg00 hg1 hb hnb ht hHl hbl
  generalize (H'.set (H.length + 1) (.box [.vec (KV.map I1) false])).set b .dead = K at hKe hK0 hK1 hKt ⊢
  refine awp_bd fun hbdK => ?_
  refine awp_seq ?_
  refine awp_region rfl ?_
  refine aops_run 1 (by simp only [fwA, seval, gfw, bx, dx, bitfw] <;> rfl) ?_
  refine aops_call rfl rfl rfl en73 ((c73 Γ c false hl _).mono fun p H' hp => ?_)
  obtain ⟨rfl, rfl⟩ := hp
  rw [show dcP false c = c from rfl]
  refine aops_run 1 (by simp only [fwA, seval, gfw, bx, dx, bitfw] <;> rfl) ?_
  refine aops_end ?_
  have hgm : ∀ L, (K ++ (Blk.map ((graphV c).map enc1) :: L))[K.length]? = some (.map ((graphV c).map enc1)) := fun L => by rw [Fw.get_at0]; rfl
  refine awp_seq ?_
  refine awp_region rfl ?_
  refine aops_one rfl (os_makeMap rfl ?_)
  refine aops_run 2 (by simp only [fwA, seval, gfw, bx] <;> rfl) ?_
  refine aops_end ?_
  have hK0' : ∀ L, (K ++ L)[H.length]? = some (.box [.vec (ns.map S1) false, .vec (us.map U1) false]) := fun L => Fw.get_old L hK0
  have hK1' : ∀ L, (K ++ L)[H.length + 1]? = some (.box [.vec (KV.map I1) false]) := fun L => Fw.get_old L hK1
  have hb2 : ∀ B1 B2 B3 : Blk, ∀ L, (K ++ (B1 :: B2 :: B3 :: L))[K.length + 2]? = some B3 := fun B1 B2 B3 L => by rw [Fw.get_at]; rfl
  have hb1 : ∀ B1 B2 : Blk, ∀ L, (K ++ (B1 :: B2 :: L))[K.length + 1]? = some B2 := fun B1 B2 L => by rw [Fw.get_at]; rfl
  refine awp_seq ?_
  refine awp_seq ?_
  refine awp_heap (H' := K ++ [.map ((graphV c).map enc1), .map (([] : List (Int × PV)).map enc1), .box [.map (K.length + 1)]]) (by simp [List.length_append]) ?_
  refine awp_run rfl (by simp only [fwA, seval, gfw, bx, dx, bitfw, hK1'] <;> rfl) ?_
  refine awp_block ?_
  refine awp_for [1, 3, 5, 7, 8, 26, 27, 28] (fun s : Nat × List (Int × PV) => [.vec (c.map Pr.enc) false, .ptr H.length 0, .ptr (H.length + 1) 0, .map K.length, .ptr (K.length + 2) 0, .vec (KV.map I1) false, .int .i64 (KV.length : Int), .int .i64 (s.1 : Int)]) (fun s => K ++ [.map ((graphV c).map enc1), .map (s.2.map enc1), .box [.map (K.length + 1)]]) (fun s => KV.length - s.1) (fun s => s.1 ≤ KV.length ∧ LowOk (lowV ns us c) s.2 (KV.take s.1) ∧ (s.2.all fun x => x.2.bd 0) = true) (0, []) (by simp only [fwA, seval, gfw, List.length_append, List.length_cons, List.length_nil] <;> rfl) rfl ⟨Nat.zero_le _, fun x => .inl ⟨rfl, by simp⟩, rfl⟩ fun ⟨i, es⟩ ⟨o1, o2, o3⟩ => ?_
  simp only at o1 o2 o3 ⊢
  refine awp_seq ?_
  refine awp_run rfl (by simp only [fwA, seval, gfw, bx, dx, bitfw] <;> rfl) ?_
  refine awp_seq ?_
  refine awp_cond (by simp only [fwA, seval] <;> rfl) ?_
  by_cases hc : (i : Int) < KV.length
  · simp only [hc, decide_true, ↓reduceIte]
    refine awp_skip ?_
    have hi : i < KV.length := by omega
    obtain ⟨v, hv⟩ : ∃ v, KV[i]? = some v := ⟨_, List.getElem?_eq_getElem hi⟩
    have hvm := List.mem_of_getElem? hv
    have hwi : IntKind.i64.wrap ((i : Int) + 1) = ((i + 1 : Nat) : Int) := wrapS i (by omega)
    have h28 := c28 Γ hΓ ns us hw c hl ho v (hKV64 v hvm)
    have hst := lowT_step o2 v
    rw [← take_snoc hv] at hst
    refine awp_seq ?_
    refine awp_block ?_
    refine awp_seq ?_
    refine awp_run rfl (by simp only [fwA, seval, gfw, bx, dx, bitfw, hv] <;> rfl) ?_
    have hres : ∃ r : Option (Nat × PV), find1 v es 0 = r ∧ mput (es.map enc1) (.int .i64 v) (.int .i64 (lowV ns us c v)) r = (lowTo (lowV ns us c) es v).map enc1 := by
      refine ⟨_, rfl, ?_⟩
      unfold lowTo
      rcases o2 v with ⟨h1, _⟩ | ⟨k, h1, _⟩
      · rw [h1, List.map_append]; rfl
      · rw [h1, List.map_set]; rfl
    obtain ⟨r, hr1, hr2⟩ := hres
    refine awp_drawn [1, 0, 1, 0, 0, 0, 2] [0, 0, 0, 0, 0, 28, 63] mixed rfl (by kernel_rfl) ?_
    refine dops_run 5 (by simp only [fwA, seval, gfw, bx, dx, bitfw, hK0', hK1', hb2] <;> rfl) ?_
    refine dops_fn rfl (by simp only [fwA, seval] <;> rfl) rfl rfl en28 h28 ?_
    refine dops_turns (H' := K ++ [.map ((graphV c).map enc1), .map ((lowTo (lowV ns us c) es v).map enc1), .box [.map (K.length + 1)]]) .any rfl rfl (fun A' hev => os_mapUpdate (r := r) (.inl rfl) un91 un28 (by rw [hev _ (by simp [Op.operands])]; rfl) ((hev _ (by simp [Op.operands])).trans rfl) (hb1 _ _ _) (by rw [hev _ (by simp [Op.operands])]; exact (mfind1 v _ 0).trans (by rw [hr1])) ⟨rfl, by
      rw [hev _ (by simp [Op.operands]), hev _ (by simp [Op.operands]), Fw.set_at]
      show K ++ [_, Blk.map (mput (es.map enc1) (.int .i64 v) (.int .i64 (lowV ns us c v)) r), _] = _
      rw [hr2]⟩) ?_
    refine dops_end ?_
    refine awp_run rfl (by simp only [fwA, seval] <;> rfl) ?_
    refine ⟨(i + 1, lowTo (lowV ns us c) es v), by simp only; omega, ⟨by simp only; omega, hst, low_plain o3 v⟩, ?_, rfl, rfl⟩
    simp only [fwA, seval, gfw, hwi]
  simp only [hc, decide_false, Bool.false_eq_true, ↓reduceIte]
  refine awp_exit ?_
  have e : i = KV.length := by omega
  subst e
  rw [List.take_length] at o2
  refine awp_seq ?_
  refine awp_run rfl (by simp only [fwA, seval, gfw, bx, dx, bitfw] <;> rfl) ?_
  have hM0 := hK0' [Blk.map ((graphV c).map enc1), .map (es.map enc1), .box [.map (K.length + 1)]]
  have hM1 := hK1' [Blk.map ((graphV c).map enc1), .map (es.map enc1), .box [.map (K.length + 1)]]
  have hMg := hgm [.map (es.map enc1), .box [.map (K.length + 1)]]
  have hMl := hb1 (.map ((graphV c).map enc1)) (.map (es.map enc1)) [.box [.map (K.length + 1)]]
  have hMb := hb2 (.map ((graphV c).map enc1)) (.map (es.map enc1)) (.box [.map (K.length + 1)]) []
  have hML : (K ++ [Blk.map ((graphV c).map enc1), .map (es.map enc1), .box [.map (K.length + 1)]]).length = K.length + 3 := by simp
  have hMe : ∃ L', K ++ [Blk.map ((graphV c).map enc1), .map (es.map enc1), .box [.map (K.length + 1)]] = H ++ L' := ⟨_, by conv => lhs; rw [hKe, List.append_assoc]⟩
  have hMbd : ∀ B ∈ K ++ [Blk.map ((graphV c).map enc1), .map (es.map enc1), .box [.map (K.length + 1)]], B.bd (K ++ [Blk.map ((graphV c).map enc1), .map (es.map enc1), .box [.map (K.length + 1)]]).length = true := bd_app hbdK (by
    simp only [List.all_cons, List.all_nil, Bool.and_true, Bool.and_eq_true]
    exact ⟨graphV_bd _ _, met_bd o3 _, by simp [Blk.bd, PV.bdL, PV.bd]⟩)
  have hHK : H.length + 1 < K.length := (List.getElem?_eq_some_iff.1 hK1).1
  refine awp_told (told_adoptBox (K.length + 3) 0 2 (by decide) (by rw [Fw.get_at]; rfl) rfl) ?_
  refine awp_heap (H' := HPj (K ++ [Blk.map ((graphV c).map enc1), .map (es.map enc1), .box [.map (K.length + 1)]]) [] []) (by unfold HPj; rw [Fw.set_at]; simp) ?_
  refine awp_seq ?_
  refine awp_seq ?_
  have hgmL : K.length < (K ++ [Blk.map ((graphV c).map enc1), .map (es.map enc1), .box [.map (K.length + 1)]]).length := by rw [hML]; omega
  have hlb : K.length + 2 < (K ++ [Blk.map ((graphV c).map enc1), .map (es.map enc1), .box [.map (K.length + 1)]]).length := by rw [hML]; omega
  have hHM : H.length + 1 < (K ++ [Blk.map ((graphV c).map enc1), .map (es.map enc1), .box [.map (K.length + 1)]]).length := by rw [hML]; omega
  rw [← hML]
  generalize K ++ [Blk.map ((graphV c).map enc1), .map (es.map enc1), .box [.map (K.length + 1)]] = M at *
  generalize K.length = gm at *
  have hM1' : ∀ O L, (HPj M O L)[H.length + 1]? = some (.box [.vec (KV.map I1) false]) := fun O L => HPj_old hM1
  refine awp_run rfl (by simp only [fwA, seval, gfw, bx, dx, bitfw, hM1'] <;> rfl) ?_
  refine awp_block ?_
  refine awp_forD [1, 3, 5, 7, 8, 11, 39, 40, 41] (fun s : Nat × List Blk × List Nat => [.vec (c.map Pr.enc) false, .ptr H.length 0, .ptr (H.length + 1) 0, .map gm, .ptr (gm + 2) 0, .ptr M.length 0, .vec (KV.map I1) false, .int .i64 (KV.length : Int), .int .i64 (s.1 : Int)]) (fun s => HPj M ((KV.take s.1).flatMap (projO ns us c KV)) s.2.1) (fun s => s.2.2) (fun s => KV.length - s.1)
    (fun s => s.1 ≤ KV.length ∧ s.2.2.Nodup ∧ ∀ d ∈ s.2.2, ∃ j, d = M.length + 2 + j ∧ s.2.1[j]? = some .dfr) (0, [], []) (by simp only [fwA, seval, gfw] <;> rfl) (by simp) rfl ⟨Nat.zero_le _, List.nodup_nil, fun d hd => by cases hd⟩ fun ⟨i, L, Dl⟩ ⟨o4, o5, o6⟩ => ?_
  simp only at o4 o5 o6 ⊢
  have hM0' : ∀ O L, (HPj M O L)[H.length]? = some (.box [.vec (ns.map S1) false, .vec (us.map U1) false]) := fun O L => HPj_old hM0
  have hMb' : ∀ O L, (HPj M O L)[gm + 2]? = some (.box [.map (gm + 1)]) := fun O L => HPj_old hMb
  have hMl' : ∀ O L, (HPj M O L)[gm + 1]? = some (.map (es.map enc1)) := fun O L => HPj_old hMl
  have hMg' : ∀ O L, (HPj M O L)[gm]? = some (.map ((graphV c).map enc1)) := fun O L => HPj_old hMg
  have hOl : ∀ j, ((KV.take j).flatMap (projO ns us c KV)).length ≤ j * (c.length + 3) := fun j => Nat.le_trans (flatMap_le _ _ (fun v => projO_len ns us c KV v) _) (Nat.mul_le_mul_right _ (by rw [List.length_take]; omega))
  refine awp_seq ?_
  refine awp_run rfl (by simp only [fwA, seval, gfw, bx, dx, bitfw] <;> rfl) ?_
  refine awp_seq ?_
  refine awp_cond (by simp only [fwA, seval] <;> rfl) ?_
  by_cases hc : (i : Int) < KV.length
  rotate_left
  · simp only [hc, decide_false, Bool.false_eq_true, ↓reduceIte]
    refine awp_exit ?_
    have e : i = KV.length := by omega
    subst e
    rw [List.take_length]
    have hOl2 := hOl KV.length
    rw [List.take_length] at hOl2
    have hbnd : KV.length * (c.length + 3) ≤ 1000000000000 := Nat.le_trans (Nat.mul_le_mul_right _ hKVl) hkl
    generalize KV.flatMap (projO ns us c KV) = O at hOl2 ⊢
    have h42 := c42 Γ O false (by omega)
    refine awp_seq ?_
    refine awp_region rfl ?_
    refine aops_run 1 (by simp only [fwA, seval, gfw, bx, dx, bitfw, HPj_box] <;> rfl) ?_
    refine aops_call rfl rfl rfl en42 (acalls_frz (b := M.length + 1) (sz := 2) (C := (O.map Pr.enc).flatten) HPj_row (plain_pr _ _) ?_)
    have hfr : frz (M.length + 1) 2 ((O.map Pr.enc).flatten) (.row (M.length + 1) 0 O.length 2) = .vec (O.map Pr.enc) false := by
      rw [frz_row, if_pos ⟨rfl, rfl, by rw [flat_len Pr.enc_len, Nat.zero_add]⟩, List.drop_zero, flat_chunk Pr.enc_len]
    show ACalls Tryz.prog Γ 42 [frz (M.length + 1) 2 ((O.map Pr.enc).flatten) (.row (M.length + 1) 0 O.length 2)] _ _
    rw [hfr]
    refine (h42 _).mono fun p H' hp => ?_
    obtain ⟨rfl, rfl⟩ := hp
    refine aops_run 1 (by simp only [fwA, seval, gfw, bx, dx, bitfw] <;> rfl) ?_
    refine aops_end ?_
    refine awp_ret ?_
    have hX : ((HPj M O L).set (M.length + 1) .dead).take H.length = H := by
      obtain ⟨L', e⟩ := hMe
      rw [List.take_set_of_le (by omega)]
      unfold HPj
      rw [e, List.append_assoc, List.take_left' rfl]
    have hX2 := take_pre hX
    refine ⟨.inl rfl, o5, fun d hd => ?_, rfl, _, hX2⟩
    obtain ⟨j, rfl, hj⟩ := o6 d hd
    exact ⟨by rw [List.getElem?_set_ne (by omega), HPj_at]; exact hj, by omega⟩
  simp only [hc, decide_true, ↓reduceIte]
  refine awp_skip ?_
  have hi : i < KV.length := by omega
  obtain ⟨v, hv⟩ : ∃ v, KV[i]? = some v := ⟨_, List.getElem?_eq_getElem hi⟩
  have hvm := List.mem_of_getElem? hv
  have hwi : IntKind.i64.wrap ((i : Int) + 1) = ((i + 1 : Nat) : Int) := wrapS i (by omega)
  have hbnd : i * (c.length + 3) + (c.length + 3) ≤ 1000000000000 := by
    have : (i + 1) * (c.length + 3) ≤ keep.length * (c.length + 3) := Nat.mul_le_mul_right _ (by omega)
    rw [Nat.add_mul] at this
    omega
  have hOi := hOl i
  have hOs : (KV.take (i + 1)).flatMap (projO ns us c KV) = (KV.take i).flatMap (projO ns us c KV) ++ projO ns us c KV v := by rw [take_snoc hv, List.flatMap_append]; simp
  generalize (KV.take i).flatMap (projO ns us c KV) = O at hOi hOs ⊢
  have h30 := c30 Γ hΓ ns us hw c hl ho v (hKV64 v hvm)
  have h50 := c50 Γ hΓ ns us hw
  have h79 := c79 Γ hΓ ns us hw
  obtain ⟨lx, elx, hlx⟩ := low_nat hk (hKV0 v hvm)
  obtain ⟨hx, ehx, hhx⟩ := high_nat hk (hKV0 v hvm)
  have hus : us.length ≤ 64 := by obtain ⟨r1, r2, _⟩ := right_spec (known_spec.1 hk).1; omega
  have hlx1 := hlx.1
  have hhx1 := hhx.1
  have h47l := c47 Γ (lowV ns us c v) ⟨by omega, by omega⟩
  have h47h := c47 Γ (highV ns us c v) ⟨by omega, by omega⟩
  rw [if_neg (by omega)] at h47l h47h
  obtain ⟨kl, hkl1, _⟩ : ∃ k : Nat, find1 v es 0 = some (k, .int .i64 (lowV ns us c v)) ∧ v ∈ KV := (o2 v).elim (fun h => absurd hvm h.2) id
  refine awp_seq ?_
  refine awp_block ?_
  refine awp_seq ?_
  refine awp_run rfl (by simp only [fwA, seval, gfw, bx, dx, bitfw, hv] <;> rfl) ?_
  refine awp_heap (H' := HPj M O (L ++ [.box [.int .i64 v]])) (HPj_app _) ?_
  rw [HPj_len]
  have hgv : ∀ O X, (HPj M O (L ++ (.box [.int .i64 v] :: X)))[M.length + 2 + L.length]? = some (.box [.int .i64 v]) := fun O X => by rw [HPj_at, List.getElem?_append_right (Nat.le_refl _), Nat.sub_self]; rfl
  refine awp_seq ?_
  refine awp_region rfl ?_
  refine aops_run 3 (by simp only [fwA, seval, gfw, bx, dx, bitfw, hM0', hgv] <;> rfl) ?_
  refine aops_fn rfl rfl rfl en30 h30 ?_
  refine aops_run 2 (by simp only [fwA, seval, gfw, bx, dx, bitfw, hM0', hgv] <;> rfl) ?_
  refine aops_end ?_
  refine awp_heap (H' := HPj M O (L ++ [.box [.int .i64 v], .box [.int .i64 (highV ns us c v)]])) (by rw [HPj_app]; simp) ?_
  rw [HPj_len, List.length_append, List.length_cons, List.length_nil]
  have hgh : ∀ O X, (HPj M O (L ++ (.box [.int .i64 v] :: .box [.int .i64 (highV ns us c v)] :: X)))[M.length + 2 + (L.length + 1)]? = some (.box [.int .i64 (highV ns us c v)]) := fun O X => by rw [HPj_at, List.getElem?_append_right (by omega), show L.length + 1 - L.length = 1 by omega]; rfl
  refine awp_join [1, 3, 5, 7, 8, 11, 13, 14, 39, 40, 41] (fun _ : Unit => [.vec (c.map Pr.enc) false, .ptr H.length 0, .ptr (H.length + 1) 0, .map gm, .ptr (gm + 2) 0, .ptr M.length 0, .ptr (M.length + 2 + L.length) 0, .ptr (M.length + 2 + (L.length + 1)) 0, .vec (KV.map I1) false, .int .i64 (KV.length : Int), .int .i64 (i : Int)]) (fun _ => HPj M (O ++ (if lowV ns us c v = botV ns us then [] else [⟨-1 - lowV ns us c v, v⟩])) (L ++ [.box [.int .i64 v], .box [.int .i64 (highV ns us c v)]])) (fun _ => True) ?_ fun _ _ => ?_
  · refine awp_seq ?_
    by_cases e : lowV ns us c v = botV ns us
    · have hde : decide (lowV ns us c v = botV ns us) = true := decide_eq_true e
      refine awp_drawn [1,1,1,1,0,0] [0, 0, 3, 0, 8, 31] mixed rfl (by kernel_rfl) ?_
      refine dops_run 2 (by simp only [fwA, seval, gfw, bx, dx, bitfw, hM0', hMb', hgv, hde] <;> rfl) ?_
      refine dops_reads (.int .i64 (lowV ns us c v)) rfl rfl (fun A' hev => os_lookup (r := some (kl, .int .i64 (lowV ns us c v))) (z := .any) rfl un91 un28 (by rw [hev _ (by simp [Op.operands])]; rfl) ((hev _ (by simp [Op.operands])).trans rfl) (hMl' _ _) (by rw [hev _ (by simp [Op.operands])]; exact (mfind1 v _ 0).trans (by rw [hkl1])) (fun h => by cases h) ⟨rfl, rfl⟩) ?_
      refine dops_run 1 (by simp only [fwA, seval, gfw, bx, dx, bitfw, hM0', hMb', hgv, hde] <;> rfl) ?_
      refine dops_fn rfl (by simp only [fwA, seval] <;> rfl) rfl rfl en50 h50 ?_
      refine dops_run 1 (by simp only [fwA, seval, gfw, bx, dx, bitfw, hM0', hMb', hgv, hde] <;> rfl) ?_
      refine dops_end ?_
      refine awp_cond (b := false) (by simp [alook, aput, ev]) (awp_skip ?_)
      exact ⟨(), trivial, by simp only [fwA, seval, gfw], by rw [if_pos e, List.append_nil], rfl⟩
    · have hde : decide (lowV ns us c v = botV ns us) = false := decide_eq_false e
      refine awp_drawn [1,1,1,1,0,0] [0, 0, 3, 0, 8, 31] mixed rfl (by kernel_rfl) ?_
      refine dops_run 2 (by simp only [fwA, seval, gfw, bx, dx, bitfw, hM0', hMb', hgv, hde] <;> rfl) ?_
      refine dops_reads (.int .i64 (lowV ns us c v)) rfl rfl (fun A' hev => os_lookup (r := some (kl, .int .i64 (lowV ns us c v))) (z := .any) rfl un91 un28 (by rw [hev _ (by simp [Op.operands])]; rfl) ((hev _ (by simp [Op.operands])).trans rfl) (hMl' _ _) (by rw [hev _ (by simp [Op.operands])]; exact (mfind1 v _ 0).trans (by rw [hkl1])) (fun h => by cases h) ⟨rfl, rfl⟩) ?_
      refine dops_run 1 (by simp only [fwA, seval, gfw, bx, dx, bitfw, hM0', hMb', hgv, hde] <;> rfl) ?_
      refine dops_fn rfl (by simp only [fwA, seval] <;> rfl) rfl rfl en50 h50 ?_
      refine dops_run 1 (by simp only [fwA, seval, gfw, bx, dx, bitfw, hM0', hMb', hgv, hde] <;> rfl) ?_
      refine dops_end ?_
      refine awp_cond (b := true) (by simp [alook, aput, ev]) ?_
      refine awp_drawn [1,1,1,1,0,1,0,0,2,2] [0, 0, 0, 6, 14, 0, 62, 126, 255, 511] mixed rfl (by kernel_rfl) ?_
      refine dops_run 3 (by simp only [fwA, seval, gfw, bx, dx, bitfw, hM0', hMb', hgv, HPj_box, HPj_boxS] <;> rfl) ?_
      refine dops_reads (.int .i64 (lowV ns us c v)) rfl rfl (fun A' hev => os_lookup (r := some (kl, .int .i64 (lowV ns us c v))) (z := .any) rfl un91 un28 (by rw [hev _ (by simp [Op.operands])]; rfl) ((hev _ (by simp [Op.operands])).trans rfl) (hMl' _ _) (by rw [hev _ (by simp [Op.operands])]; exact (mfind1 v _ 0).trans (by rw [hkl1])) (fun h => by cases h) ⟨rfl, rfl⟩) ?_
      refine dops_fn rfl (by simp only [fwA, seval] <;> rfl) rfl rfl en47 h47l ?_
      refine dops_run 3 (by simp only [fwA, seval, gfw, bx, dx, bitfw, hM0', hMb', hgv, HPj_box, HPj_boxS] <;> rfl) ?_
      refine dops_push (enc := Pr.enc) (l := O) (z := ⟨-1 - lowV ns us c v, v⟩) Pr.enc_len rfl rfl rfl un26 ti70 rfl un26 rfl HPj_row rfl rfl (by show (_ + 1) * 16 ≤ _; omega) (by omega) rfl ?_
      refine dops_run 1 (by simp only [fwA, seval, gfw, bx, dx, bitfw, hM0', hMb', hgv, HPj_box, HPj_boxS] <;> rfl) ?_
      refine dops_end ?_
      exact ⟨(), trivial, by simp only [fwA, seval, gfw], by rw [if_neg e, HPj_push], rfl⟩
  generalize hO1 : O ++ (if lowV ns us c v = botV ns us then [] else [⟨-1 - lowV ns us c v, v⟩]) = O1
  have hO1l : O1.length ≤ O.length + 1 := by rw [← hO1]; split <;> simp
  refine awp_join [1, 3, 5, 7, 8, 11, 13, 14, 39, 40, 41] (fun _ : Unit => [.vec (c.map Pr.enc) false, .ptr H.length 0, .ptr (H.length + 1) 0, .map gm, .ptr (gm + 2) 0, .ptr M.length 0, .ptr (M.length + 2 + L.length) 0, .ptr (M.length + 2 + (L.length + 1)) 0, .vec (KV.map I1) false, .int .i64 (KV.length : Int), .int .i64 (i : Int)]) (fun _ => HPj M (O1 ++ (if highV ns us c v = topV ns us then [] else [⟨v, -1 - highV ns us c v⟩])) (L ++ [.box [.int .i64 v], .box [.int .i64 (highV ns us c v)]])) (fun _ => True) ?_ fun _ _ => ?_
  · refine awp_seq ?_
    by_cases e : highV ns us c v = topV ns us
    · have hde : decide (highV ns us c v = topV ns us) = true := decide_eq_true e
      refine awp_drawn [1, 1, 0, 0] [0, 0, 2, 7] mixed rfl (by kernel_rfl) ?_
      refine dops_run 2 (by simp only [fwA, seval, gfw, bx, dx, bitfw, hM0', hgh, hde] <;> rfl) ?_
      refine dops_fn rfl (by simp only [fwA, seval] <;> rfl) rfl rfl en79 h79 ?_
      refine dops_run 1 (by simp only [fwA, seval, gfw, bx, dx, bitfw, hM0', hgh, hde] <;> rfl) ?_
      refine dops_end ?_
      refine awp_cond (b := false) (by simp [alook, aput, ev]) (awp_skip ?_)
      exact ⟨(), trivial, by simp only [fwA, seval, gfw], by rw [if_pos e, List.append_nil], rfl⟩
    · have hde : decide (highV ns us c v = topV ns us) = false := decide_eq_false e
      refine awp_drawn [1, 1, 0, 0] [0, 0, 2, 7] mixed rfl (by kernel_rfl) ?_
      refine dops_run 2 (by simp only [fwA, seval, gfw, bx, dx, bitfw, hM0', hgh, hde] <;> rfl) ?_
      refine dops_fn rfl (by simp only [fwA, seval] <;> rfl) rfl rfl en79 h79 ?_
      refine dops_run 1 (by simp only [fwA, seval, gfw, bx, dx, bitfw, hM0', hgh, hde] <;> rfl) ?_
      refine dops_end ?_
      refine awp_cond (b := true) (by simp [alook, aput, ev]) ?_
      refine awp_drawn [1,1,1,0,0,0,2,2] [0, 0, 0, 4, 14, 30, 63, 127] mixed rfl (by kernel_rfl) ?_
      refine dops_run 3 (by simp only [fwA, seval, gfw, bx, dx, bitfw, hM0', hgh, hgv, HPj_box, HPj_boxS] <;> rfl) ?_
      refine dops_fn rfl (by simp only [fwA, seval] <;> rfl) rfl rfl en47 h47h ?_
      refine dops_run 2 (by simp only [fwA, seval, gfw, bx, dx, bitfw, hM0', hgh, hgv, HPj_box, HPj_boxS] <;> rfl) ?_
      refine dops_push (enc := Pr.enc) (l := O1) (z := ⟨v, -1 - highV ns us c v⟩) Pr.enc_len rfl rfl rfl un26 ti70 rfl un26 rfl HPj_row rfl rfl (by show (_ + 1) * 16 ≤ _; omega) (by omega) rfl ?_
      refine dops_run 1 (by simp only [fwA, seval, gfw, bx, dx, bitfw, hM0', hgh, hgv, HPj_box, HPj_boxS] <;> rfl) ?_
      refine dops_end ?_
      exact ⟨(), trivial, by simp only [fwA, seval, gfw], by rw [if_neg e, HPj_push], rfl⟩
  generalize hO2 : O1 ++ (if highV ns us c v = topV ns us then [] else [⟨v, -1 - highV ns us c v⟩]) = O2
  have hO2l : O2.length ≤ O1.length + 1 := by rw [← hO2]; split <;> simp
  have hOproj : O ++ projO ns us c KV v = O2 ++ ((abv c v).filter fun w => KV.contains w && !leqB (min ns.length us.length) us (highV ns us c v) (lowV ns us c w)).map fun w => ⟨v, w⟩ := by
    rw [← hO2, ← hO1]; unfold projO; simp only [List.append_assoc]
  refine awp_seq ?_
  refine awp_region rfl ?_
  refine aops_run 2 (by simp only [fwA, seval, gfw, bx, dx, bitfw, hgv] <;> rfl) ?_
  refine aops_call rfl rfl rfl en74 ((c74 Γ gm v _ (by rw [HPj_len]; omega)).mono fun p H' hp => ?_)
  obtain ⟨rfl, rfl⟩ := hp
  refine aops_end ?_
  refine awp_heap (H' := HPj M O2 (L ++ [.box [.int .i64 v], .box [.int .i64 (highV ns us c v)], .box [.map gm], .box [.int .i64 v]])) (by rw [HPj_app]; simp) ?_
  rw [HPj_len, List.length_append, List.length_cons, List.length_cons, List.length_nil]
  have hga : ∀ O X, (HPj M O (L ++ (.box [.int .i64 v] :: .box [.int .i64 (highV ns us c v)] :: .box [.map gm] :: .box [.int .i64 v] :: X)))[M.length + 2 + (L.length + (0 + 1 + 1)) + 1]? = some (.box [.int .i64 v]) := fun O X => by rw [show M.length + 2 + (L.length + (0 + 1 + 1)) + 1 = M.length + 2 + (L.length + 3) by omega, HPj_at, List.getElem?_append_right (by omega), show L.length + 3 - L.length = 3 by omega]; rfl
  have hgb : ∀ O X, (HPj M O (L ++ (.box [.int .i64 v] :: .box [.int .i64 (highV ns us c v)] :: .box [.map gm] :: .box [.int .i64 v] :: X)))[M.length + 2 + (L.length + (0 + 1 + 1))]? = some (.box [.map gm]) := fun O X => by rw [HPj_at, List.getElem?_append_right (by omega), show L.length + (0 + 1 + 1) - L.length = 2 by omega]; rfl
  refine awp_bd fun hbdP => ?_
  have e3 : ∀ X, (L ++ [Blk.box [.int .i64 v], .box [.int .i64 (highV ns us c v)], .box [.map gm], .box [.int .i64 v]]) ++ X = L ++ (.box [.int .i64 v] :: .box [.int .i64 (highV ns us c v)] :: .box [.map gm] :: .box [.int .i64 v] :: X) := fun X => by simp
  have hgv3 : ∀ O X, (HPj M O ((L ++ [Blk.box [.int .i64 v], .box [.int .i64 (highV ns us c v)], .box [.map gm], .box [.int .i64 v]]) ++ X))[M.length + 2 + L.length]? = some (.box [.int .i64 v]) := fun O X => by rw [e3]; exact hgv _ _
  have hgh3 : ∀ O X, (HPj M O ((L ++ [Blk.box [.int .i64 v], .box [.int .i64 (highV ns us c v)], .box [.map gm], .box [.int .i64 v]]) ++ X))[M.length + 2 + (L.length + 1)]? = some (.box [.int .i64 (highV ns us c v)]) := fun O X => by rw [e3]; exact hgh _ _
  have hga3 : ∀ O X, (HPj M O ((L ++ [Blk.box [.int .i64 v], .box [.int .i64 (highV ns us c v)], .box [.map gm], .box [.int .i64 v]]) ++ X))[M.length + 2 + (L.length + (0 + 1 + 1)) + 1]? = some (.box [.int .i64 v]) := fun O X => by rw [e3]; exact hga _ _
  have hgb3 : ∀ O X, (HPj M O ((L ++ [Blk.box [.int .i64 v], .box [.int .i64 (highV ns us c v)], .box [.map gm], .box [.int .i64 v]]) ++ X))[M.length + 2 + (L.length + (0 + 1 + 1))]? = some (.box [.map gm]) := fun O X => by rw [e3]; exact hgb _ _
  have hL3 : ((L ++ [Blk.box [.int .i64 v], .box [.int .i64 (highV ns us c v)], .box [.map gm], .box [.int .i64 v]])).length = L.length + 4 := by simp
  have hL3d : ∀ j, L[j]? = some Blk.dfr → ((L ++ [Blk.box [.int .i64 v], .box [.int .i64 (highV ns us c v)], .box [.map gm], .box [.int .i64 v]]))[j]? = some Blk.dfr := fun j h => Fw.get_old _ h
  generalize (L ++ [Blk.box [.int .i64 v], .box [.int .i64 (highV ns us c v)], .box [.map gm], .box [.int .i64 v]]) = L3 at *
  obtain ⟨Oj, hOj⟩ : ∃ Oj : Nat → List Pr, ∀ j, Oj j = O2 ++ (((abv c v).take j).filter (fun w => KV.contains w && !leqB (min ns.length us.length) us (highV ns us c v) (lowV ns us c w))).map (fun w => (⟨v, w⟩ : Pr)) := ⟨_, fun _ => rfl⟩
  have hOj0 : Oj 0 = O2 := by rw [hOj]; simp
  have hOjL : ∀ j, (Oj j).length ≤ O2.length + j := fun j => by
    rw [hOj, List.length_append, List.length_map]
    have := List.length_filter_le (fun w => KV.contains w && !leqB (min ns.length us.length) us (highV ns us c v) (lowV ns us c w)) ((abv c v).take j)
    rw [List.length_take] at this
    omega
  have hOjE : Oj (abv c v).length = O ++ projO ns us c KV v := by rw [hOj, List.take_length, hOproj]
  have hOjS : ∀ j y, (abv c v)[j]? = some y → Oj (j + 1) = if (fun w => KV.contains w && !leqB (min ns.length us.length) us (highV ns us c v) (lowV ns us c w)) y = true then Oj j ++ [⟨v, y⟩] else Oj j := fun j y h => by
    rw [hOj, hOj, take_snoc h, List.filter_append, List.map_append]
    simp only [List.filter_cons, List.filter_nil]
    split <;> simp
  rw [← hOj0] at hbdP ⊢
  have habl := abv_len (c := c) (a := v)
  refine awp_block ?_
  refine awp_rangeFuncS (gf := 114) (caps := [.ptr (M.length + 2 + (L.length + (0 + 1 + 1)) + 1) 0, .ptr (M.length + 2 + (L.length + (0 + 1 + 1))) 0]) (by simp only [fwA, seval] <;> rfl) en114 (c114 Γ (M.length + 2 + (L.length + (0 + 1 + 1)) + 1) (M.length + 2 + (L.length + (0 + 1 + 1))) gm v c (graphV c) (graphV_ok c) hl) (by simp [Tryz.f35])
    (fun j Hf => j ≤ (abv c v).length ∧ Hf = HPj M (Oj j) L3)
    (fun _ _ => False) (fun Stop h Hb hs => by obtain ⟨_, _, hx, _⟩ := h Hb hs; exact hx.elim) ⟨Nat.zero_le _, rfl⟩ ?_ ?_ ?_ ?_
  · rintro j Hf ⟨_, rfl⟩
    refine ⟨by rw [HPj_len, HPj_len], fun L hL => ⟨⟨?_, ?_, ?_⟩, fun B hB => ?_⟩⟩
    · rw [HPj_app]; exact hga3 _ _
    · rw [HPj_app]; exact hgb3 _ _
    · rw [HPj_app]; exact hMg' _ _
    · rcases List.mem_append.1 hB with hB | hB
      · exact blk_mono (by simp <;> omega) (HPj_bd hbdP (Oj j) B hB)
      · exact blk_mono (by rw [List.length_append, HPj_len, HPj_len]; exact Nat.le_refl _) (hL B hB)
  · rintro j x Hf Lx L' ro hx ⟨hil, rfl⟩ hL hL' hbd1 hbd2
    obtain ⟨y, hy, rfl⟩ : ∃ y, (abv c v)[j]? = some y ∧ x = I1 y := by
      rw [List.getElem?_map] at hx
      obtain ⟨y, hy, e⟩ := Option.map_eq_some_iff.1 hx
      exact ⟨y, hy, e.symm⟩
    have hjl := (List.getElem?_eq_some_iff.1 hy).1
    have hOS := hOjS j y hy
    have h85 := c85 Γ KV y
    have h44 := c44 Γ ns us hw (highV ns us c v) (lowV ns us c y)
    refine awp_less (A' := [(3, .ptr H.length 0), (5, .ptr (H.length + 1) 0), (8, .ptr (gm + 2) 0), (11, .ptr M.length 0), (13, .ptr (M.length + 2 + L.length) 0), (14, .ptr (M.length + 2 + (L.length + 1)) 0), (78, .int .i64 y)]) (fun u => zip_look [3, 5, 8, 11, 13, 14, 78] [.ptr H.length 0, .ptr (H.length + 1) 0, .ptr (gm + 2) 0, .ptr M.length 0, .ptr (M.length + 2 + L.length) 0, .ptr (M.length + 2 + (L.length + 1)) 0, .int .i64 y] u _ (by simp only [fwA, seval, gfw] <;> rfl)) ?_
    refine awp_run rfl (by simp only [fwA, seval, gfw, bx, dx, bitfw] <;> rfl) ?_
    refine ⟨rfl, HPj M (Oj j) L3, [], by rw [HPj_len, HPj_len], by simp, ?_⟩
    refine awp_heap (H' := HPj M (Oj j) (L3 ++ L')) (by rw [List.append_nil, HPj_app]) ?_
    refine awp_block ?_
    refine awp_seq ?_
    have hjo := hOjL j
    have hfin : ∀ j', ∀ B ∈ HPj M (Oj j') L3, B.bd ((HPj M (Oj 0) L3).length + L'.length) = true := fun j' B hB => blk_mono (by rw [HPj_len, HPj_len]; omega) (HPj_bd hbdP (Oj j') B hB)
    cases hKy : KV.contains y
    · have hF : ((fun w => KV.contains w && !leqB (min ns.length us.length) us (highV ns us c v) (lowV ns us c w)) y) = false := by simp only [hKy, Bool.false_and]
      rw [hF] at hOS
      rw [hKy] at h85
      refine awp_region rfl ?_
      refine aops_run 2 (by simp only [fwA, seval, gfw, bx, dx, bitfw, hM1'] <;> rfl) ?_
      refine aops_fn rfl rfl rfl en85 h85 ?_
      refine aops_run 9 (by simp only [fwA, seval, gfw, bx, dx, bitfw, hM1'] <;> rfl) ?_
      refine aops_end ?_
      refine awp_cond (b := false) (by simp [alook, aput, ev]) (awp_skip ?_)
      refine ⟨HPj M (Oj (j + 1)) L3, [], by rw [HPj_len, HPj_len], by rw [hOS, HPj_app, List.append_nil]; rfl, hfin _, by omega, rfl⟩
    rw [hKy] at h85
    obtain ⟨ky, hky, _⟩ : ∃ k : Nat, find1 y es 0 = some (k, .int .i64 (lowV ns us c y)) ∧ y ∈ KV := (o2 y).elim (fun h => absurd (List.contains_iff_mem.1 hKy) h.2) id
    cases hle : leqB (min ns.length us.length) us (highV ns us c v) (lowV ns us c y)
    · have hF : ((fun w => KV.contains w && !leqB (min ns.length us.length) us (highV ns us c v) (lowV ns us c w)) y) = true := by simp only [hKy, hle, Bool.true_and, Bool.not_false]
      rw [hF] at hOS
      rw [hle] at h44
      refine awp_region rfl ?_
      refine aops_run 2 (by simp only [fwA, seval, gfw, bx, dx, bitfw, hM1', hM0', hMb', hgh3] <;> rfl) ?_
      refine aops_fn rfl rfl rfl en85 h85 ?_
      refine aops_run 5 (by simp only [fwA, seval, gfw, bx, dx, bitfw, hM1', hM0', hMb', hgh3] <;> rfl) ?_
      refine aops_if rfl rfl rfl (os_lookup (r := some (ky, .int .i64 (lowV ns us c y))) (z := .any) rfl un91 un28 rfl rfl (hMl' _ _) ((mfind1 y _ 0).trans (by rw [hky])) (fun h => by cases h) ?_)
      refine aops_fnIf rfl rfl rfl rfl rfl en44 h44 ?_
      refine aops_run 2 (by simp only [fwA, seval, gfw, bx, dx, bitfw, hM1', hM0', hMb', hgh3] <;> rfl) ?_
      refine aops_end ?_
      refine awp_cond (b := true) (by simp [alook, aput, ev]) ?_
      refine awp_region rfl ?_
      refine aops_run 5 (by simp only [fwA, seval, gfw, bx, dx, bitfw, HPj_box, HPj_boxS, hgv3] <;> rfl) ?_
      refine aops_push (enc := Pr.enc) (l := Oj j) (z := ⟨v, y⟩) Pr.enc_len rfl rfl un26 ti70 rfl un26 rfl HPj_row rfl rfl (by show (_ + 1) * 16 ≤ _; omega) (by omega) rfl ?_
      refine aops_run 1 (by simp only [fwA, seval, gfw, bx, dx, bitfw, HPj_box, HPj_boxS, hgv3] <;> rfl) ?_
      refine aops_end ?_
      refine ⟨HPj M (Oj (j + 1)) L3, [], by rw [HPj_len, HPj_len], by rw [HPj_push, hOS, HPj_app, List.append_nil]; rfl, hfin _, by omega, rfl⟩
    · have hF : ((fun w => KV.contains w && !leqB (min ns.length us.length) us (highV ns us c v) (lowV ns us c w)) y) = false := by simp only [hle, Bool.not_true, Bool.and_false]
      rw [hF] at hOS
      rw [hle] at h44
      refine awp_region rfl ?_
      refine aops_run 2 (by simp only [fwA, seval, gfw, bx, dx, bitfw, hM1', hM0', hMb', hgh3] <;> rfl) ?_
      refine aops_fn rfl rfl rfl en85 h85 ?_
      refine aops_run 5 (by simp only [fwA, seval, gfw, bx, dx, bitfw, hM1', hM0', hMb', hgh3] <;> rfl) ?_
      refine aops_if rfl rfl rfl (os_lookup (r := some (ky, .int .i64 (lowV ns us c y))) (z := .any) rfl un91 un28 rfl rfl (hMl' _ _) ((mfind1 y _ 0).trans (by rw [hky])) (fun h => by cases h) ?_)
      refine aops_fnIf rfl rfl rfl rfl rfl en44 h44 ?_
      refine aops_run 2 (by simp only [fwA, seval, gfw, bx, dx, bitfw, hM1', hM0', hMb', hgh3] <;> rfl) ?_
      refine aops_end ?_
      refine awp_cond (b := false) (by simp [alook, aput, ev]) (awp_skip ?_)
      refine ⟨HPj M (Oj (j + 1)) L3, [], by rw [HPj_len, HPj_len], by rw [hOS, HPj_app, List.append_nil]; rfl, hfin _, by omega, rfl⟩
  · rintro Hf B ⟨_, rfl⟩
    rw [List.length_map, hOjE]
    simp only [Post.block, Post.then]
    refine awp_heap (H' := HPj M (O ++ projO ns us c KV v) (L3 ++ [.dfr, B])) (by rw [HPj_app]) ?_
    rw [HPj_len]
    refine awp_run rfl (by simp only [fwA, seval] <;> rfl) ?_
    refine ⟨(i + 1, L3 ++ [.dfr, B], (M.length + 2 + L3.length) :: Dl), by simp only; omega, ⟨by simp only; omega, ?_, ?_⟩, ?_, ?_, rfl⟩
    · simp only
      rw [List.nodup_cons]
      refine ⟨fun hd => ?_, o5⟩
      obtain ⟨j, e, hj⟩ := o6 _ hd
      have := (List.getElem?_eq_some_iff.1 hj).1
      omega
    · intro d hd
      rcases List.mem_cons.1 hd with rfl | hd
      · exact ⟨L3.length, rfl, by rw [List.getElem?_append_right (Nat.le_refl _), Nat.sub_self]; rfl⟩
      · obtain ⟨j, e, hj⟩ := o6 d hd
        exact ⟨j, e, Fw.get_old _ (hL3d j hj)⟩
    · simp only [fwA, seval, gfw, hwi]
    · simp only [hOs]
  · rintro cc Hf B hX _
    exact hX.elim
end Go.Proofs.YteicbhkimepbaaaGreatDoor
