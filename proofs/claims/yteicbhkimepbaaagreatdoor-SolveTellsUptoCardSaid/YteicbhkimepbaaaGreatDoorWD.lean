/- The contracts of the document's order, joins and meets. -/
import Derived.Test.YteicbhkimepbaaaGreatDoorWC
import Derived.Shelf.GgSortFunc.RowK
import Derived.Sort.Row
import Derived.Test.YteicbhkimepbaaaGreatDoorProg
import Derived.Shelf.SlicesG.Cmp
import Derived.Shelf.SortM.Plain
import Derived.Shelf.SortM.SortNone
import Derived.Sort.Grow
import Derived.Deep.Draws
import Derived.Shelf.SlSortCmp.NoneTotal
namespace Go.Proofs.YteicbhkimepbaaaGreatDoor
set_option linter.unusedVariables false
set_option linter.unusedSimpArgs false
set_option maxRecDepth 100000
open Go.RowKit Fw
theorem leq_nat {ns : List (List UInt8)} {us : List Nat} (hl : us.length = ns.length) {a b : Nat} (ha : a < us.length) (hb : b < us.length) : leqB (min ns.length us.length) us (a : Int) (b : Int) = lq us a b := by
  unfold leqB ptB
  rw [decide_eq_true (by omega : (0 : Int) ≤ a), decide_eq_true (by omega : (0 : Int) ≤ b), decide_eq_true (by omega : (a : Int) < ((min ns.length us.length : Nat) : Int)), decide_eq_true (by omega : (b : Int) < ((min ns.length us.length : Nat) : Int))]; rfl
theorem all_le {p : Nat → Bool} {j n : Nat} (hj : j ≤ n) (h : (List.range j).all p = false) : (List.range n).all p = false := by
  rw [List.all_eq_false] at h ⊢
  obtain ⟨x, hx, hp⟩ := h
  exact ⟨x, List.mem_range.2 (Nat.lt_of_lt_of_le (List.mem_range.1 hx) hj), hp⟩
set_option maxHeartbeats 1000000 in
theorem c100 (Γ : Nat → PV) (ns : List (List UInt8)) (us : List Nat) (hw : W64 us) (hl : us.length = ns.length) (hn : us.length ≤ 64) (a b : Nat) (ha : a < us.length) (hb : b < us.length) : Gives Tryz.prog Γ 100 [.agg [.vec (ns.map S1) false, .vec (us.map U1) false], .int .i64 (a : Int), .int .i64 (b : Int)] (.int .i64 (oI (jn us.length (lq us) a b))) := by
  have hq : ∀ x y, x < us.length → y < us.length → Gives Tryz.prog Γ 57 [.agg [.vec (ns.map S1) false, .vec (us.map U1) false], .int .i64 (x : Int), .int .i64 (y : Int)] (.bool ((lq us) x y)) := fun x y hx hy => by
    have := c57 Γ ns us hw (x : Int) (y : Int)
    rw [leq_nat hl (by omega) (by omega)] at this; exact this
  have h48 := c98 Γ ns us
  have hmin : min ns.length us.length = us.length := by omega
  rw [hmin] at h48
  unfold jn
  generalize hr : (lq us) = r at hq ⊢
  refine fn_of_awp Tryz.func100 rfl (by simp [Tryz.f100]) rfl fun H => ?_
  refine awp_seq ?_
  refine awp_run rfl (by simp only [fwA, seval] <;> rfl) ?_
  refine awp_seq ?_
  refine awp_region rfl ?_
  refine aops_run 1 (by simp only [fwA, seval, gfw, bx, dx, bitfw] <;> rfl) ?_
  refine aops_fn rfl rfl rfl en98 h48 ?_
  refine aops_run 1 (by simp only [fwA, seval, gfw, bx, dx, bitfw] <;> rfl) ?_
  refine aops_end ?_
  refine awp_seq ?_
  refine awp_seq ?_
  refine awp_run rfl (by simp only [fwA, seval] <;> rfl) ?_
  refine awp_block ?_
  have hK0 : (H ++ [Blk.box [.vec (ns.map S1) false, .vec (us.map U1) false]])[H.length]? = some (.box [.vec (ns.map S1) false, .vec (us.map U1) false]) := by rw [Fw.get_at0]; rfl
  generalize hK : H ++ [Blk.box [.vec (ns.map S1) false, .vec (us.map U1) false]] = K at hK0 ⊢
  have hend : ∀ (A' : List (Nat × PV)) (v : Int), alook A' 6 = .int .i64 v → ((Exit.ret = .ret ∨ Exit.ret = .normal) ∧ ([] : List Nat).Nodup ∧ (∀ b ∈ ([] : List Nat), K[b]? = some .dfr ∧ H.length ≤ b) ∧ ares Tryz.prog Γ A' K Tryz.f100.results.toList = some (.int .i64 v) ∧ ∃ L', K = H ++ L') := fun A' v hv => by
    subst hK
    exact gives_end (.inl rfl) _ (by simp [ares, aresL, ares1, Tryz.f100, hv])
  refine awp_for [1, 2, 3, 7, 8] (fun i : Nat => [.int .i64 (a : Int), .int .i64 (b : Int), .ptr H.length 0, .int .i64 (us.length : Int), .int .i64 (i : Int)]) (fun _ => K) (fun i => us.length - i) (fun i => i ≤ us.length ∧ ∀ j, j < i → (fun c => r a c && r b c && (List.range us.length).all fun d => !(r a d && r b d) || r c d) j = false) 0 rfl rfl ⟨Nat.zero_le _, fun j hj => by omega⟩ fun i hs => ?_
  obtain ⟨hil, hno⟩ := hs
  refine awp_seq ?_
  refine awp_seq ?_
  refine awp_run rfl (by simp only [fwA, seval, gfw, bx, dx, bitfw] <;> rfl) ?_
  refine awp_cond (by simp only [fwA, seval] <;> rfl) ?_
  by_cases hc : (i : Int) < us.length
  rotate_left
  · simp only [hc, decide_false, Bool.false_eq_true, ↓reduceIte]
    refine awp_exit ?_
    have e : i = us.length := by omega
    have hf : (List.range us.length).find? (fun c => r a c && r b c && (List.range us.length).all fun d => !(r a d && r b d) || r c d) = none := by
      rw [List.find?_eq_none]
      intro x hx
      have := hno x (by rw [e]; exact List.mem_range.1 hx)
      simp only at this
      rw [this]; simp
    rw [hf]
    refine awp_seq ?_
    refine awp_run rfl (by simp only [fwA, seval] <;> rfl) ?_
    refine awp_ret ?_
    exact hend _ _ rfl
  simp only [hc, decide_true, ↓reduceIte]
  refine awp_skip ?_
  have hill : i < us.length := by omega
  have hwi : IntKind.i64.wrap ((i : Int) + 1) = ((i + 1 : Nat) : Int) := wrapS i (by omega)
  have h18a := hq a i ha hill
  have h18b := hq b i hb hill
  refine awp_seq ?_
  refine awp_block ?_
  refine awp_join [1, 2, 3, 7, 8, 9] (fun L : Bool => [.int .i64 (a : Int), .int .i64 (b : Int), .ptr H.length 0, .int .i64 (us.length : Int), .int .i64 (i : Int), .bool L]) (fun _ => K) (fun L => L = (r a i && r b i)) ?_ fun L hL => ?_
  · cases h1 : r a i
    · rw [h1] at h18a
      refine awp_region rfl ?_
      refine aops_run 3 (by simp only [fwA, seval, gfw, bx, dx, bitfw, hK0] <;> rfl) ?_
      refine aops_fn rfl rfl rfl en57 h18a ?_
      refine aops_run 7 (by simp only [fwA, seval, gfw, bx, dx, bitfw, hK0] <;> rfl) ?_
      refine aops_end ?_
      exact ⟨_, rfl, rfl, rfl, rfl⟩
    · rw [h1] at h18a
      refine awp_region rfl ?_
      refine aops_run 3 (by simp only [fwA, seval, gfw, bx, dx, bitfw, hK0] <;> rfl) ?_
      refine aops_fn rfl rfl rfl en57 h18a ?_
      refine aops_run 4 (by simp only [fwA, seval, gfw, bx, dx, bitfw, hK0] <;> rfl) ?_
      refine aops_fnIf rfl rfl rfl rfl rfl en57 h18b ?_
      refine aops_run 2 (by simp only [fwA, seval, gfw, bx, dx, bitfw, hK0] <;> rfl) ?_
      refine aops_end ?_
      exact ⟨_, rfl, rfl, rfl, rfl⟩
  refine awp_join [1, 2, 3, 7, 8, 9] (fun L : Bool => [.int .i64 (a : Int), .int .i64 (b : Int), .ptr H.length 0, .int .i64 (us.length : Int), .int .i64 (i : Int), .bool L]) (fun _ => K) (fun L => L = (r a i && r b i && (List.range us.length).all fun d => !(r a d && r b d) || r i d)) ?_ fun L2 hL2 => ?_
  · refine awp_seq ?_
    refine awp_run rfl (by simp only [fwA, seval] <;> rfl) ?_
    refine awp_block ?_
    refine awp_for [1, 2, 3, 7, 8, 9, 10] (fun s : Nat × Bool => [.int .i64 (a : Int), .int .i64 (b : Int), .ptr H.length 0, .int .i64 (us.length : Int), .int .i64 (i : Int), .bool s.2, .int .i64 (s.1 : Int)]) (fun _ => K) (fun s => us.length - s.1) (fun s => s.1 ≤ us.length ∧ s.2 = (r a i && r b i && (List.range s.1).all fun d => !(r a d && r b d) || r i d)) (0, L) rfl rfl ⟨Nat.zero_le _, by simp [hL]⟩ fun s hs => ?_
    obtain ⟨j, M⟩ := s
    obtain ⟨hjl, hM⟩ := hs
    simp only at hjl hM ⊢
    refine awp_seq ?_
    refine awp_seq ?_
    by_cases hcj : (j : Int) < us.length
    rotate_left
    · refine awp_run rfl (by simp only [fwA, seval, gfw, bx, dx, bitfw, hcj] <;> rfl) ?_
      refine awp_cond (b := false) (by simp [alook, aput, ev]) ?_
      refine awp_exit ?_
      have e : j = us.length := by omega
      subst e
      exact ⟨M, hM, rfl, rfl, rfl⟩
    cases M with
    | false =>
      refine awp_run rfl (by simp only [fwA, seval, gfw, bx, dx, bitfw, hcj] <;> rfl) ?_
      refine awp_cond (b := false) (by simp [alook, aput, ev]) ?_
      refine awp_exit ?_
      refine ⟨false, ?_, rfl, rfl, rfl⟩
      cases h1 : (r a i && r b i)
      · rfl
      · rw [h1, Bool.true_and] at hM
        rw [all_le hjl hM.symm]; rfl
    | true =>
      refine awp_run rfl (by simp only [fwA, seval, gfw, bx, dx, bitfw, hcj] <;> rfl) ?_
      refine awp_cond (b := true) (by simp [alook, aput, ev]) (awp_skip ?_)
      have hjll : j < us.length := by omega
      have hwj : IntKind.i64.wrap ((j : Int) + 1) = ((j + 1 : Nat) : Int) := wrapS j (by omega)
      have k1 := hq a j ha hjll
      have k2 := hq b j hb hjll
      have k3 := hq i j hill hjll
      have hst : (r a i && r b i && (List.range (j + 1)).all fun d => !(r a d && r b d) || r i d) = (!(r a j && r b j) || r i j) := by
        rw [all_succ, ← Bool.and_assoc, ← hM]; rfl
      refine awp_seq ?_
      refine awp_block ?_
      cases h1 : r a j
      · rw [h1] at k1
        refine awp_region rfl ?_
        refine aops_run 3 (by simp only [fwA, seval, gfw, bx, dx, bitfw, hK0] <;> rfl) ?_
        refine aops_fn rfl rfl rfl en57 k1 ?_
        refine aops_run 13 (by simp only [fwA, seval, gfw, bx, dx, bitfw, hK0] <;> rfl) ?_
        refine aops_run 2 (by simp only [fwA, seval, gfw, bx, dx, bitfw, hK0] <;> rfl) ?_
        refine aops_end ?_
        refine awp_run rfl (by simp only [fwA, seval] <;> rfl) ?_
        refine ⟨(j + 1, true), by simp only; omega, ⟨by simp only; omega, by simp only; rw [hst, h1]; rfl⟩, ?_, rfl, rfl⟩
        simp only [fwA, seval, gfw, hwj]
      rw [h1] at k1
      cases h2 : r b j
      · rw [h2] at k2
        refine awp_region rfl ?_
        refine aops_run 3 (by simp only [fwA, seval, gfw, bx, dx, bitfw, hK0] <;> rfl) ?_
        refine aops_fn rfl rfl rfl en57 k1 ?_
        refine aops_run 5 (by simp only [fwA, seval, gfw, bx, dx, bitfw, hK0] <;> rfl) ?_
        refine aops_fnIf rfl rfl rfl rfl rfl en57 k2 ?_
        refine aops_run 9 (by simp only [fwA, seval, gfw, bx, dx, bitfw, hK0] <;> rfl) ?_
        refine aops_end ?_
        refine awp_run rfl (by simp only [fwA, seval] <;> rfl) ?_
        refine ⟨(j + 1, true), by simp only; omega, ⟨by simp only; omega, by simp only; rw [hst, h1, h2]; rfl⟩, ?_, rfl, rfl⟩
        simp only [fwA, seval, gfw, hwj]
      rw [h2] at k2
      refine awp_region rfl ?_
      refine aops_run 3 (by simp only [fwA, seval, gfw, bx, dx, bitfw, hK0] <;> rfl) ?_
      refine aops_fn rfl rfl rfl en57 k1 ?_
      refine aops_run 5 (by simp only [fwA, seval, gfw, bx, dx, bitfw, hK0] <;> rfl) ?_
      refine aops_fnIf rfl rfl rfl rfl rfl en57 k2 ?_
      refine aops_run 6 (by simp only [fwA, seval, gfw, bx, dx, bitfw, hK0] <;> rfl) ?_
      refine aops_fnIf rfl rfl rfl rfl rfl en57 k3 ?_
      refine aops_run 2 (by simp only [fwA, seval, gfw, bx, dx, bitfw, hK0] <;> rfl) ?_
      refine aops_end ?_
      refine awp_run rfl (by simp only [fwA, seval] <;> rfl) ?_
      refine ⟨(j + 1, r i j), by simp only; omega, ⟨by simp only; omega, by simp only; rw [hst, h1, h2]; rfl⟩, ?_, rfl, rfl⟩
      simp only [fwA, seval, gfw, hwj]
  refine awp_seq ?_
  refine awp_run rfl (by simp only [fwA, seval] <;> rfl) ?_
  refine awp_cond (by simp only [fwA, seval] <;> rfl) ?_
  cases L2 with
  | false =>
    simp only [Bool.false_eq_true, ↓reduceIte]
    refine awp_skip ?_
    refine awp_run rfl (by simp only [fwA, seval] <;> rfl) ?_
    refine ⟨i + 1, by omega, ⟨by omega, fun j hj => ?_⟩, ?_, rfl, rfl⟩
    · by_cases hji : j = i
      · subst hji; exact hL2.symm
      · exact hno j (by omega)
    · simp only [fwA, seval, gfw, hwi]
  | true =>
    simp only [↓reduceIte]
    refine awp_seq ?_
    refine awp_run rfl (by simp only [fwA, seval] <;> rfl) ?_
    refine awp_ret ?_
    have hf : (List.range us.length).find? (fun c => r a c && r b c && (List.range us.length).all fun d => !(r a d && r b d) || r c d) = some i := by
      refine find_at (l := List.range us.length) (i := i) (List.getElem?_range hill) hL2.symm fun j d hj hd => ?_
      rw [List.getElem?_range (by omega), Option.some.injEq] at hd
      subst hd
      exact hno j hj
    rw [hf]
    exact hend _ _ rfl
set_option maxHeartbeats 1000000 in
theorem c99 (Γ : Nat → PV) (ns : List (List UInt8)) (us : List Nat) (hw : W64 us) (hl : us.length = ns.length) (hn : us.length ≤ 64) (a b : Nat) (ha : a < us.length) (hb : b < us.length) : Gives Tryz.prog Γ 99 [.agg [.vec (ns.map S1) false, .vec (us.map U1) false], .int .i64 (a : Int), .int .i64 (b : Int)] (.int .i64 (oI (jn us.length (tr (lq us)) a b))) := by
  have hq : ∀ x y, x < us.length → y < us.length → Gives Tryz.prog Γ 57 [.agg [.vec (ns.map S1) false, .vec (us.map U1) false], .int .i64 (y : Int), .int .i64 (x : Int)] (.bool ((tr (lq us)) x y)) := fun x y hx hy => by
    have := c57 Γ ns us hw (y : Int) (x : Int)
    rw [leq_nat hl (by omega) (by omega)] at this; exact this
  have h48 := c98 Γ ns us
  have hmin : min ns.length us.length = us.length := by omega
  rw [hmin] at h48
  unfold jn
  generalize hr : (tr (lq us)) = r at hq ⊢
  refine fn_of_awp Tryz.func99 rfl (by simp [Tryz.f99]) rfl fun H => ?_
  refine awp_seq ?_
  refine awp_run rfl (by simp only [fwA, seval] <;> rfl) ?_
  refine awp_seq ?_
  refine awp_region rfl ?_
  refine aops_run 1 (by simp only [fwA, seval, gfw, bx, dx, bitfw] <;> rfl) ?_
  refine aops_fn rfl rfl rfl en98 h48 ?_
  refine aops_run 1 (by simp only [fwA, seval, gfw, bx, dx, bitfw] <;> rfl) ?_
  refine aops_end ?_
  refine awp_seq ?_
  refine awp_seq ?_
  refine awp_run rfl (by simp only [fwA, seval] <;> rfl) ?_
  refine awp_block ?_
  have hK0 : (H ++ [Blk.box [.vec (ns.map S1) false, .vec (us.map U1) false]])[H.length]? = some (.box [.vec (ns.map S1) false, .vec (us.map U1) false]) := by rw [Fw.get_at0]; rfl
  generalize hK : H ++ [Blk.box [.vec (ns.map S1) false, .vec (us.map U1) false]] = K at hK0 ⊢
  have hend : ∀ (A' : List (Nat × PV)) (v : Int), alook A' 6 = .int .i64 v → ((Exit.ret = .ret ∨ Exit.ret = .normal) ∧ ([] : List Nat).Nodup ∧ (∀ b ∈ ([] : List Nat), K[b]? = some .dfr ∧ H.length ≤ b) ∧ ares Tryz.prog Γ A' K Tryz.f99.results.toList = some (.int .i64 v) ∧ ∃ L', K = H ++ L') := fun A' v hv => by
    subst hK
    exact gives_end (.inl rfl) _ (by simp [ares, aresL, ares1, Tryz.f99, hv])
  refine awp_for [1, 2, 3, 7, 8] (fun i : Nat => [.int .i64 (a : Int), .int .i64 (b : Int), .ptr H.length 0, .int .i64 (us.length : Int), .int .i64 (i : Int)]) (fun _ => K) (fun i => us.length - i) (fun i => i ≤ us.length ∧ ∀ j, j < i → (fun c => r a c && r b c && (List.range us.length).all fun d => !(r a d && r b d) || r c d) j = false) 0 rfl rfl ⟨Nat.zero_le _, fun j hj => by omega⟩ fun i hs => ?_
  obtain ⟨hil, hno⟩ := hs
  refine awp_seq ?_
  refine awp_seq ?_
  refine awp_run rfl (by simp only [fwA, seval, gfw, bx, dx, bitfw] <;> rfl) ?_
  refine awp_cond (by simp only [fwA, seval] <;> rfl) ?_
  by_cases hc : (i : Int) < us.length
  rotate_left
  · simp only [hc, decide_false, Bool.false_eq_true, ↓reduceIte]
    refine awp_exit ?_
    have e : i = us.length := by omega
    have hf : (List.range us.length).find? (fun c => r a c && r b c && (List.range us.length).all fun d => !(r a d && r b d) || r c d) = none := by
      rw [List.find?_eq_none]
      intro x hx
      have := hno x (by rw [e]; exact List.mem_range.1 hx)
      simp only at this
      rw [this]; simp
    rw [hf]
    refine awp_seq ?_
    refine awp_run rfl (by simp only [fwA, seval] <;> rfl) ?_
    refine awp_ret ?_
    exact hend _ _ rfl
  simp only [hc, decide_true, ↓reduceIte]
  refine awp_skip ?_
  have hill : i < us.length := by omega
  have hwi : IntKind.i64.wrap ((i : Int) + 1) = ((i + 1 : Nat) : Int) := wrapS i (by omega)
  have h18a := hq a i ha hill
  have h18b := hq b i hb hill
  refine awp_seq ?_
  refine awp_block ?_
  refine awp_join [1, 2, 3, 7, 8, 9] (fun L : Bool => [.int .i64 (a : Int), .int .i64 (b : Int), .ptr H.length 0, .int .i64 (us.length : Int), .int .i64 (i : Int), .bool L]) (fun _ => K) (fun L => L = (r a i && r b i)) ?_ fun L hL => ?_
  · cases h1 : r a i
    · rw [h1] at h18a
      refine awp_region rfl ?_
      refine aops_run 3 (by simp only [fwA, seval, gfw, bx, dx, bitfw, hK0] <;> rfl) ?_
      refine aops_fn rfl rfl rfl en57 h18a ?_
      refine aops_run 7 (by simp only [fwA, seval, gfw, bx, dx, bitfw, hK0] <;> rfl) ?_
      refine aops_end ?_
      exact ⟨_, rfl, rfl, rfl, rfl⟩
    · rw [h1] at h18a
      refine awp_region rfl ?_
      refine aops_run 3 (by simp only [fwA, seval, gfw, bx, dx, bitfw, hK0] <;> rfl) ?_
      refine aops_fn rfl rfl rfl en57 h18a ?_
      refine aops_run 4 (by simp only [fwA, seval, gfw, bx, dx, bitfw, hK0] <;> rfl) ?_
      refine aops_fnIf rfl rfl rfl rfl rfl en57 h18b ?_
      refine aops_run 2 (by simp only [fwA, seval, gfw, bx, dx, bitfw, hK0] <;> rfl) ?_
      refine aops_end ?_
      exact ⟨_, rfl, rfl, rfl, rfl⟩
  refine awp_join [1, 2, 3, 7, 8, 9] (fun L : Bool => [.int .i64 (a : Int), .int .i64 (b : Int), .ptr H.length 0, .int .i64 (us.length : Int), .int .i64 (i : Int), .bool L]) (fun _ => K) (fun L => L = (r a i && r b i && (List.range us.length).all fun d => !(r a d && r b d) || r i d)) ?_ fun L2 hL2 => ?_
  · refine awp_seq ?_
    refine awp_run rfl (by simp only [fwA, seval] <;> rfl) ?_
    refine awp_block ?_
    refine awp_for [1, 2, 3, 7, 8, 9, 10] (fun s : Nat × Bool => [.int .i64 (a : Int), .int .i64 (b : Int), .ptr H.length 0, .int .i64 (us.length : Int), .int .i64 (i : Int), .bool s.2, .int .i64 (s.1 : Int)]) (fun _ => K) (fun s => us.length - s.1) (fun s => s.1 ≤ us.length ∧ s.2 = (r a i && r b i && (List.range s.1).all fun d => !(r a d && r b d) || r i d)) (0, L) rfl rfl ⟨Nat.zero_le _, by simp [hL]⟩ fun s hs => ?_
    obtain ⟨j, M⟩ := s
    obtain ⟨hjl, hM⟩ := hs
    simp only at hjl hM ⊢
    refine awp_seq ?_
    refine awp_seq ?_
    by_cases hcj : (j : Int) < us.length
    rotate_left
    · refine awp_run rfl (by simp only [fwA, seval, gfw, bx, dx, bitfw, hcj] <;> rfl) ?_
      refine awp_cond (b := false) (by simp [alook, aput, ev]) ?_
      refine awp_exit ?_
      have e : j = us.length := by omega
      subst e
      exact ⟨M, hM, rfl, rfl, rfl⟩
    cases M with
    | false =>
      refine awp_run rfl (by simp only [fwA, seval, gfw, bx, dx, bitfw, hcj] <;> rfl) ?_
      refine awp_cond (b := false) (by simp [alook, aput, ev]) ?_
      refine awp_exit ?_
      refine ⟨false, ?_, rfl, rfl, rfl⟩
      cases h1 : (r a i && r b i)
      · rfl
      · rw [h1, Bool.true_and] at hM
        rw [all_le hjl hM.symm]; rfl
    | true =>
      refine awp_run rfl (by simp only [fwA, seval, gfw, bx, dx, bitfw, hcj] <;> rfl) ?_
      refine awp_cond (b := true) (by simp [alook, aput, ev]) (awp_skip ?_)
      have hjll : j < us.length := by omega
      have hwj : IntKind.i64.wrap ((j : Int) + 1) = ((j + 1 : Nat) : Int) := wrapS j (by omega)
      have k1 := hq a j ha hjll
      have k2 := hq b j hb hjll
      have k3 := hq i j hill hjll
      have hst : (r a i && r b i && (List.range (j + 1)).all fun d => !(r a d && r b d) || r i d) = (!(r a j && r b j) || r i j) := by
        rw [all_succ, ← Bool.and_assoc, ← hM]; rfl
      refine awp_seq ?_
      refine awp_block ?_
      cases h1 : r a j
      · rw [h1] at k1
        refine awp_region rfl ?_
        refine aops_run 3 (by simp only [fwA, seval, gfw, bx, dx, bitfw, hK0] <;> rfl) ?_
        refine aops_fn rfl rfl rfl en57 k1 ?_
        refine aops_run 13 (by simp only [fwA, seval, gfw, bx, dx, bitfw, hK0] <;> rfl) ?_
        refine aops_run 2 (by simp only [fwA, seval, gfw, bx, dx, bitfw, hK0] <;> rfl) ?_
        refine aops_end ?_
        refine awp_run rfl (by simp only [fwA, seval] <;> rfl) ?_
        refine ⟨(j + 1, true), by simp only; omega, ⟨by simp only; omega, by simp only; rw [hst, h1]; rfl⟩, ?_, rfl, rfl⟩
        simp only [fwA, seval, gfw, hwj]
      rw [h1] at k1
      cases h2 : r b j
      · rw [h2] at k2
        refine awp_region rfl ?_
        refine aops_run 3 (by simp only [fwA, seval, gfw, bx, dx, bitfw, hK0] <;> rfl) ?_
        refine aops_fn rfl rfl rfl en57 k1 ?_
        refine aops_run 5 (by simp only [fwA, seval, gfw, bx, dx, bitfw, hK0] <;> rfl) ?_
        refine aops_fnIf rfl rfl rfl rfl rfl en57 k2 ?_
        refine aops_run 9 (by simp only [fwA, seval, gfw, bx, dx, bitfw, hK0] <;> rfl) ?_
        refine aops_end ?_
        refine awp_run rfl (by simp only [fwA, seval] <;> rfl) ?_
        refine ⟨(j + 1, true), by simp only; omega, ⟨by simp only; omega, by simp only; rw [hst, h1, h2]; rfl⟩, ?_, rfl, rfl⟩
        simp only [fwA, seval, gfw, hwj]
      rw [h2] at k2
      refine awp_region rfl ?_
      refine aops_run 3 (by simp only [fwA, seval, gfw, bx, dx, bitfw, hK0] <;> rfl) ?_
      refine aops_fn rfl rfl rfl en57 k1 ?_
      refine aops_run 5 (by simp only [fwA, seval, gfw, bx, dx, bitfw, hK0] <;> rfl) ?_
      refine aops_fnIf rfl rfl rfl rfl rfl en57 k2 ?_
      refine aops_run 6 (by simp only [fwA, seval, gfw, bx, dx, bitfw, hK0] <;> rfl) ?_
      refine aops_fnIf rfl rfl rfl rfl rfl en57 k3 ?_
      refine aops_run 2 (by simp only [fwA, seval, gfw, bx, dx, bitfw, hK0] <;> rfl) ?_
      refine aops_end ?_
      refine awp_run rfl (by simp only [fwA, seval] <;> rfl) ?_
      refine ⟨(j + 1, r i j), by simp only; omega, ⟨by simp only; omega, by simp only; rw [hst, h1, h2]; rfl⟩, ?_, rfl, rfl⟩
      simp only [fwA, seval, gfw, hwj]
  refine awp_seq ?_
  refine awp_run rfl (by simp only [fwA, seval] <;> rfl) ?_
  refine awp_cond (by simp only [fwA, seval] <;> rfl) ?_
  cases L2 with
  | false =>
    simp only [Bool.false_eq_true, ↓reduceIte]
    refine awp_skip ?_
    refine awp_run rfl (by simp only [fwA, seval] <;> rfl) ?_
    refine ⟨i + 1, by omega, ⟨by omega, fun j hj => ?_⟩, ?_, rfl, rfl⟩
    · by_cases hji : j = i
      · subst hji; exact hL2.symm
      · exact hno j (by omega)
    · simp only [fwA, seval, gfw, hwi]
  | true =>
    simp only [↓reduceIte]
    refine awp_seq ?_
    refine awp_run rfl (by simp only [fwA, seval] <;> rfl) ?_
    refine awp_ret ?_
    have hf : (List.range us.length).find? (fun c => r a c && r b c && (List.range us.length).all fun d => !(r a d && r b d) || r c d) = some i := by
      refine find_at (l := List.range us.length) (i := i) (List.getElem?_range hill) hL2.symm fun j d hj hd => ?_
      rw [List.getElem?_range (by omega), Option.some.injEq] at hd
      subst hd
      exact hno j hj
    rw [hf]
    exact hend _ _ rfl
end Go.Proofs.YteicbhkimepbaaaGreatDoor
namespace Go.Proofs.YteicbhkimepbaaaGreatDoor
set_option linter.unusedVariables false
set_option linter.unusedSimpArgs false
set_option maxRecDepth 100000
open Go.RowKit Fw
def P3 (r : Nat → Nat → Bool) (a b k : Nat) : Bool := (List.range k).all fun c => !(r a b && r b c) || r a c
def P2 (r : Nat → Nat → Bool) (n a k : Nat) : Bool := (List.range k).all fun b => (!(r a b && r b a) || decide (a = b)) && P3 r a b n
def P1 (r : Nat → Nat → Bool) (n a : Nat) : Bool := r a a && P2 r n a n
theorem ordB_P1 (n : Nat) (r : Nat → Nat → Bool) : ordB n r = (List.range n).all (P1 r n) := rfl
theorem P3_off {r : Nat → Nat → Bool} {a b : Nat} (h : r a b = false) (k : Nat) : P3 r a b k = true := by
  unfold P3
  rw [List.all_eq_true]
  intro c _
  rw [h]; rfl
set_option maxHeartbeats 1000000 in
theorem c110 (Γ : Nat → PV) (ns : List (List UInt8)) (us : List Nat) (hw : W64 us) (hl : us.length = ns.length) (hn : us.length ≤ 64) : Gives Tryz.prog Γ 110 [.agg [.vec (ns.map S1) false, .vec (us.map U1) false]] (.bool (ordB us.length (lq us))) := by
  have hq : ∀ x y, x < us.length → y < us.length → Gives Tryz.prog Γ 57 [.agg [.vec (ns.map S1) false, .vec (us.map U1) false], .int .i64 (x : Int), .int .i64 (y : Int)] (.bool (lq us x y)) := fun x y hx hy => by
    have := c57 Γ ns us hw (x : Int) (y : Int)
    rw [leq_nat hl (by omega) (by omega)] at this; exact this
  have h48 := c98 Γ ns us
  have hmin : min ns.length us.length = us.length := by omega
  rw [hmin] at h48
  rw [ordB_P1]
  generalize hr : lq us = r at hq ⊢
  refine fn_of_awp Tryz.func110 rfl (by simp [Tryz.f110]) rfl fun H => ?_
  refine awp_seq ?_
  refine awp_run rfl (by simp only [fwA, seval] <;> rfl) ?_
  refine awp_seq ?_
  refine awp_region rfl ?_
  refine aops_run 1 (by simp only [fwA, seval, gfw, bx, dx, bitfw] <;> rfl) ?_
  refine aops_fn rfl rfl rfl en98 h48 ?_
  refine aops_run 1 (by simp only [fwA, seval, gfw, bx, dx, bitfw] <;> rfl) ?_
  refine aops_end ?_
  refine awp_seq ?_
  refine awp_seq ?_
  refine awp_run rfl (by simp only [fwA, seval] <;> rfl) ?_
  refine awp_block ?_
  have hK0 : (H ++ [Blk.box [.vec (ns.map S1) false, .vec (us.map U1) false]])[H.length]? = some (.box [.vec (ns.map S1) false, .vec (us.map U1) false]) := by rw [Fw.get_at0]; rfl
  generalize hK : H ++ [Blk.box [.vec (ns.map S1) false, .vec (us.map U1) false]] = K at hK0 ⊢
  have hend : ∀ (A' : List (Nat × PV)) (v : Bool), alook A' 2 = .bool v → ((Exit.ret = .ret ∨ Exit.ret = .normal) ∧ ([] : List Nat).Nodup ∧ (∀ b ∈ ([] : List Nat), K[b]? = some .dfr ∧ H.length ≤ b) ∧ ares Tryz.prog Γ A' K Tryz.f110.results.toList = some (.bool v) ∧ ∃ L', K = H ++ L') := fun A' v hv => by
    subst hK
    exact gives_end (.inl rfl) _ (by simp [ares, aresL, ares1, Tryz.f110, hv])
  refine awp_for [1, 3, 4] (fun i : Nat => [.ptr H.length 0, .int .i64 (us.length : Int), .int .i64 (i : Int)]) (fun _ => K) (fun i => us.length - i) (fun i => i ≤ us.length ∧ (List.range i).all (P1 r us.length) = true) 0 rfl rfl ⟨Nat.zero_le _, rfl⟩ fun i hs => ?_
  obtain ⟨hil, hall⟩ := hs
  refine awp_seq ?_
  refine awp_seq ?_
  refine awp_run rfl (by simp only [fwA, seval, gfw, bx, dx, bitfw] <;> rfl) ?_
  refine awp_cond (by simp only [fwA, seval] <;> rfl) ?_
  by_cases hc : (i : Int) < us.length
  rotate_left
  · simp only [hc, decide_false, Bool.false_eq_true, ↓reduceIte]
    refine awp_exit ?_
    have e : i = us.length := by omega
    subst e
    rw [hall]
    refine awp_seq ?_
    refine awp_run rfl (by simp only [fwA, seval] <;> rfl) ?_
    refine awp_ret ?_
    exact hend _ _ rfl
  simp only [hc, decide_true, ↓reduceIte]
  refine awp_skip ?_
  have hill : i < us.length := by omega
  have hwi : IntKind.i64.wrap ((i : Int) + 1) = ((i + 1 : Nat) : Int) := wrapS i (by omega)
  have hbad1 : P1 r us.length i = false → (List.range us.length).all (P1 r us.length) = false := fun h => all_false hill h
  have haa := hq i i hill hill
  refine awp_seq ?_
  refine awp_block ?_
  refine awp_seq ?_
  refine awp_seq ?_
  cases h1 : r i i
  · rw [h1] at haa
    refine awp_region rfl ?_
    refine aops_run 3 (by simp only [fwA, seval, gfw, bx, dx, bitfw, hK0] <;> rfl) ?_
    refine aops_fn rfl rfl rfl en57 haa ?_
    refine aops_run 1 (by simp only [fwA, seval, gfw, bx, dx, bitfw, hK0] <;> rfl) ?_
    refine aops_end ?_
    refine awp_cond (b := true) (by simp [alook, aput, ev]) ?_
    refine awp_seq ?_
    refine awp_run rfl (by simp only [fwA, seval] <;> rfl) ?_
    refine awp_ret ?_
    rw [hbad1 (by unfold P1; rw [h1]; rfl)]
    exact hend _ _ rfl
  rw [h1] at haa
  refine awp_region rfl ?_
  refine aops_run 3 (by simp only [fwA, seval, gfw, bx, dx, bitfw, hK0] <;> rfl) ?_
  refine aops_fn rfl rfl rfl en57 haa ?_
  refine aops_run 1 (by simp only [fwA, seval, gfw, bx, dx, bitfw, hK0] <;> rfl) ?_
  refine aops_end ?_
  refine awp_cond (b := false) (by simp [alook, aput, ev]) (awp_skip ?_)
  have hbad2 : P2 r us.length i us.length = false → (List.range us.length).all (P1 r us.length) = false := fun h => hbad1 (by unfold P1; rw [h, Bool.and_false])
  refine awp_seq ?_
  refine awp_run rfl (by simp only [fwA, seval] <;> rfl) ?_
  refine awp_block ?_
  refine awp_for [1, 3, 4, 5] (fun j : Nat => [.ptr H.length 0, .int .i64 (us.length : Int), .int .i64 (i : Int), .int .i64 (j : Int)]) (fun _ => K) (fun j => us.length - j) (fun j => j ≤ us.length ∧ P2 r us.length i j = true) 0 rfl rfl ⟨Nat.zero_le _, rfl⟩ fun j hs => ?_
  obtain ⟨hjl, hallj⟩ := hs
  refine awp_seq ?_
  refine awp_seq ?_
  refine awp_run rfl (by simp only [fwA, seval, gfw, bx, dx, bitfw] <;> rfl) ?_
  refine awp_cond (by simp only [fwA, seval] <;> rfl) ?_
  by_cases hcj : (j : Int) < us.length
  rotate_left
  · simp only [hcj, decide_false, Bool.false_eq_true, ↓reduceIte]
    refine awp_exit ?_
    have e : j = us.length := by omega
    rw [e] at hallj
    refine awp_run rfl (by simp only [fwA, seval] <;> rfl) ?_
    refine ⟨i + 1, by omega, ⟨by omega, by rw [all_succ, hall]; unfold P1; rw [h1, hallj]; rfl⟩, ?_, rfl, rfl⟩
    simp only [fwA, seval, gfw, hwi]
  simp only [hcj, decide_true, ↓reduceIte]
  refine awp_skip ?_
  have hjll : j < us.length := by omega
  have hwj : IntKind.i64.wrap ((j : Int) + 1) = ((j + 1 : Nat) : Int) := wrapS j (by omega)
  have hij := hq i j hill hjll
  have hji := hq j i hjll hill
  have hst : P2 r us.length i (j + 1) = ((!(r i j && r j i) || decide (i = j)) && P3 r i j us.length) := by
    unfold P2 at hallj ⊢
    rw [all_succ, hallj]; rfl
  have hbad3 : ((!(r i j && r j i) || decide (i = j)) && P3 r i j us.length) = false → (List.range us.length).all (P1 r us.length) = false := fun h => hbad2 (by unfold P2; exact all_false hjll h)
  refine awp_seq ?_
  refine awp_block ?_
  refine awp_seq ?_
  refine awp_seq ?_
  cases h2 : r i j
  · rw [h2] at hij
    refine awp_region rfl ?_
    refine aops_run 3 (by simp only [fwA, seval, gfw, bx, dx, bitfw, hK0] <;> rfl) ?_
    refine aops_fn rfl rfl rfl en57 hij ?_
    refine aops_run 1 (by simp only [fwA, seval, gfw, bx, dx, bitfw, hK0] <;> rfl) ?_
    refine aops_end ?_
    refine awp_cond (b := true) (by simp [alook, aput, ev]) ?_
    refine awp_exit ?_
    refine awp_run rfl (by simp only [fwA, seval] <;> rfl) ?_
    refine ⟨j + 1, by omega, ⟨by omega, by rw [hst, h2, P3_off h2]; rfl⟩, ?_, rfl, rfl⟩
    simp only [fwA, seval, gfw, hwj]
  rw [h2] at hij
  refine awp_region rfl ?_
  refine aops_run 3 (by simp only [fwA, seval, gfw, bx, dx, bitfw, hK0] <;> rfl) ?_
  refine aops_fn rfl rfl rfl en57 hij ?_
  refine aops_run 1 (by simp only [fwA, seval, gfw, bx, dx, bitfw, hK0] <;> rfl) ?_
  refine aops_end ?_
  refine awp_cond (b := false) (by simp [alook, aput, ev]) (awp_skip ?_)
  refine awp_join [1, 3, 4, 5] (fun _ : Unit => [.ptr H.length 0, .int .i64 (us.length : Int), .int .i64 (i : Int), .int .i64 (j : Int)]) (fun _ => K) (fun _ => (!(r i j && r j i) || decide (i = j)) = true) ?_ fun _ hok => ?_
  · refine awp_seq ?_
    by_cases he : (i : Int) = (j : Int)
    · have hde : decide ((i : Int) = (j : Int)) = true := decide_eq_true he
      refine awp_region rfl ?_
      refine aops_run 9 (by simp only [fwA, seval, gfw, bx, dx, bitfw, hK0, hde] <;> rfl) ?_
      refine aops_end ?_
      refine awp_cond (b := false) (by simp [alook, aput, ev]) (awp_skip ?_)
      have hij' : i = j := by omega
      exact ⟨(), by rw [decide_eq_true hij', Bool.or_true], rfl, rfl, rfl⟩
    · cases h3 : r j i
      · rw [h3] at hji
        refine awp_region rfl ?_
        refine aops_run 7 (by simp only [fwA, seval, gfw, bx, dx, bitfw, hK0, he] <;> rfl) ?_
        refine aops_fnIf rfl rfl rfl rfl rfl en57 hji ?_
        refine aops_run 1 (by simp only [fwA, seval, gfw, bx, dx, bitfw, hK0, he] <;> rfl) ?_
        refine aops_end ?_
        refine awp_cond (b := false) (by simp [alook, aput, ev]) (awp_skip ?_)
        exact ⟨(), by rw [Bool.and_false]; rfl, rfl, rfl, rfl⟩
      · rw [h3] at hji
        refine awp_region rfl ?_
        refine aops_run 7 (by simp only [fwA, seval, gfw, bx, dx, bitfw, hK0, he] <;> rfl) ?_
        refine aops_fnIf rfl rfl rfl rfl rfl en57 hji ?_
        refine aops_run 1 (by simp only [fwA, seval, gfw, bx, dx, bitfw, hK0, he] <;> rfl) ?_
        refine aops_end ?_
        refine awp_cond (b := true) (by simp [alook, aput, ev]) ?_
        refine awp_seq ?_
        refine awp_run rfl (by simp only [fwA, seval] <;> rfl) ?_
        refine awp_ret ?_
        rw [hbad3 (by rw [h2, h3, decide_eq_false (by omega : ¬ i = j)]; rfl)]
        exact hend _ _ rfl
  refine awp_seq ?_
  refine awp_run rfl (by simp only [fwA, seval] <;> rfl) ?_
  refine awp_block ?_
  refine awp_for [1, 3, 4, 5, 6] (fun k : Nat => [.ptr H.length 0, .int .i64 (us.length : Int), .int .i64 (i : Int), .int .i64 (j : Int), .int .i64 (k : Int)]) (fun _ => K) (fun k => us.length - k) (fun k => k ≤ us.length ∧ P3 r i j k = true) 0 rfl rfl ⟨Nat.zero_le _, rfl⟩ fun k hs => ?_
  obtain ⟨hkl, hallk⟩ := hs
  refine awp_seq ?_
  refine awp_seq ?_
  refine awp_run rfl (by simp only [fwA, seval, gfw, bx, dx, bitfw] <;> rfl) ?_
  refine awp_cond (by simp only [fwA, seval] <;> rfl) ?_
  by_cases hck : (k : Int) < us.length
  rotate_left
  · simp only [hck, decide_false, Bool.false_eq_true, ↓reduceIte]
    refine awp_exit ?_
    have e : k = us.length := by omega
    rw [e] at hallk
    refine awp_run rfl (by simp only [fwA, seval] <;> rfl) ?_
    refine ⟨j + 1, by omega, ⟨by omega, by rw [hst, hok, hallk]; rfl⟩, ?_, rfl, rfl⟩
    simp only [fwA, seval, gfw, hwj]
  simp only [hck, decide_true, ↓reduceIte]
  refine awp_skip ?_
  have hkll : k < us.length := by omega
  have hwk : IntKind.i64.wrap ((k : Int) + 1) = ((k + 1 : Nat) : Int) := wrapS k (by omega)
  have hjk := hq j k hjll hkll
  have hik := hq i k hill hkll
  have hst3 : P3 r i j (k + 1) = (!(r i j && r j k) || r i k) := by
    unfold P3 at hallk ⊢
    rw [all_succ, hallk]; rfl
  refine awp_seq ?_
  refine awp_block ?_
  refine awp_seq ?_
  cases h4 : r j k
  · rw [h4] at hjk
    refine awp_region rfl ?_
    refine aops_run 3 (by simp only [fwA, seval, gfw, bx, dx, bitfw, hK0] <;> rfl) ?_
    refine aops_fn rfl rfl rfl en57 hjk ?_
    refine aops_run 7 (by simp only [fwA, seval, gfw, bx, dx, bitfw, hK0] <;> rfl) ?_
    refine aops_end ?_
    refine awp_cond (b := false) (by simp [alook, aput, ev]) (awp_skip ?_)
    refine awp_run rfl (by simp only [fwA, seval] <;> rfl) ?_
    refine ⟨k + 1, by omega, ⟨by omega, by rw [hst3, h4, Bool.and_false]; rfl⟩, ?_, rfl, rfl⟩
    simp only [fwA, seval, gfw, hwk]
  rw [h4] at hjk
  cases h5 : r i k
  · rw [h5] at hik
    refine awp_region rfl ?_
    refine aops_run 3 (by simp only [fwA, seval, gfw, bx, dx, bitfw, hK0] <;> rfl) ?_
    refine aops_fn rfl rfl rfl en57 hjk ?_
    refine aops_run 4 (by simp only [fwA, seval, gfw, bx, dx, bitfw, hK0] <;> rfl) ?_
    refine aops_fnIf rfl rfl rfl rfl rfl en57 hik ?_
    refine aops_run 2 (by simp only [fwA, seval, gfw, bx, dx, bitfw, hK0] <;> rfl) ?_
    refine aops_end ?_
    refine awp_cond (b := true) (by simp [alook, aput, ev]) ?_
    refine awp_seq ?_
    refine awp_run rfl (by simp only [fwA, seval] <;> rfl) ?_
    refine awp_ret ?_
    have hP3 : P3 r i j us.length = false := by unfold P3; exact all_false hkll (by rw [h2, h4, h5]; rfl)
    rw [hbad3 (by rw [hP3, Bool.and_false])]
    exact hend _ _ rfl
  · rw [h5] at hik
    refine awp_region rfl ?_
    refine aops_run 3 (by simp only [fwA, seval, gfw, bx, dx, bitfw, hK0] <;> rfl) ?_
    refine aops_fn rfl rfl rfl en57 hjk ?_
    refine aops_run 4 (by simp only [fwA, seval, gfw, bx, dx, bitfw, hK0] <;> rfl) ?_
    refine aops_fnIf rfl rfl rfl rfl rfl en57 hik ?_
    refine aops_run 2 (by simp only [fwA, seval, gfw, bx, dx, bitfw, hK0] <;> rfl) ?_
    refine aops_end ?_
    refine awp_cond (b := false) (by simp [alook, aput, ev]) (awp_skip ?_)
    refine awp_run rfl (by simp only [fwA, seval] <;> rfl) ?_
    refine ⟨k + 1, by omega, ⟨by omega, by rw [hst3, h5, Bool.or_true]⟩, ?_, rfl, rfl⟩
    simp only [fwA, seval, gfw, hwk]
theorem oI_lt (o : Option Nat) : decide (oI o < 0) = !o.isSome := by
  cases o with
  | none => rfl
  | some c => exact decide_eq_false (by show ¬ (c : Int) < 0; omega)
def B2 (n : Nat) (r : Nat → Nat → Bool) (a k : Nat) : Bool := (List.range k).all fun b => (jn n r a b).isSome && (jn n (tr r) a b).isSome
theorem boundB_B2 (n : Nat) (r : Nat → Nat → Bool) : boundB n r = (List.range n).all (fun a => B2 n r a n) := rfl
set_option maxHeartbeats 1000000 in
theorem c111 (Γ : Nat → PV) (ns : List (List UInt8)) (us : List Nat) (hw : W64 us) (hl : us.length = ns.length) (hn : us.length ≤ 64) : Gives Tryz.prog Γ 111 [.agg [.vec (ns.map S1) false, .vec (us.map U1) false]] (.bool (boundB us.length (lq us))) := by
  have h48 := c98 Γ ns us
  have hmin : min ns.length us.length = us.length := by omega
  rw [hmin] at h48
  rw [boundB_B2]
  refine fn_of_awp Tryz.func111 rfl (by simp [Tryz.f111]) rfl fun H => ?_
  refine awp_seq ?_
  refine awp_run rfl (by simp only [fwA, seval] <;> rfl) ?_
  refine awp_seq ?_
  refine awp_region rfl ?_
  refine aops_run 1 (by simp only [fwA, seval, gfw, bx, dx, bitfw] <;> rfl) ?_
  refine aops_fn rfl rfl rfl en98 h48 ?_
  refine aops_run 1 (by simp only [fwA, seval, gfw, bx, dx, bitfw] <;> rfl) ?_
  refine aops_end ?_
  refine awp_seq ?_
  refine awp_seq ?_
  refine awp_run rfl (by simp only [fwA, seval] <;> rfl) ?_
  refine awp_block ?_
  have hK0 : (H ++ [Blk.box [.vec (ns.map S1) false, .vec (us.map U1) false]])[H.length]? = some (.box [.vec (ns.map S1) false, .vec (us.map U1) false]) := by rw [Fw.get_at0]; rfl
  generalize hK : H ++ [Blk.box [.vec (ns.map S1) false, .vec (us.map U1) false]] = K at hK0 ⊢
  have hend : ∀ (A' : List (Nat × PV)) (v : Bool), alook A' 2 = .bool v → ((Exit.ret = .ret ∨ Exit.ret = .normal) ∧ ([] : List Nat).Nodup ∧ (∀ b ∈ ([] : List Nat), K[b]? = some .dfr ∧ H.length ≤ b) ∧ ares Tryz.prog Γ A' K Tryz.f111.results.toList = some (.bool v) ∧ ∃ L', K = H ++ L') := fun A' v hv => by
    subst hK
    exact gives_end (.inl rfl) _ (by simp [ares, aresL, ares1, Tryz.f111, hv])
  refine awp_for [1, 3, 4] (fun i : Nat => [.ptr H.length 0, .int .i64 (us.length : Int), .int .i64 (i : Int)]) (fun _ => K) (fun i => us.length - i) (fun i => i ≤ us.length ∧ (List.range i).all (fun a => B2 us.length (lq us) a us.length) = true) 0 rfl rfl ⟨Nat.zero_le _, rfl⟩ fun i hs => ?_
  obtain ⟨hil, hall⟩ := hs
  refine awp_seq ?_
  refine awp_seq ?_
  refine awp_run rfl (by simp only [fwA, seval, gfw, bx, dx, bitfw] <;> rfl) ?_
  refine awp_cond (by simp only [fwA, seval] <;> rfl) ?_
  by_cases hc : (i : Int) < us.length
  rotate_left
  · simp only [hc, decide_false, Bool.false_eq_true, ↓reduceIte]
    refine awp_exit ?_
    have e : i = us.length := by omega
    rw [e] at hall
    rw [hall]
    refine awp_seq ?_
    refine awp_run rfl (by simp only [fwA, seval] <;> rfl) ?_
    refine awp_ret ?_
    exact hend _ _ rfl
  simp only [hc, decide_true, ↓reduceIte]
  refine awp_skip ?_
  have hill : i < us.length := by omega
  have hwi : IntKind.i64.wrap ((i : Int) + 1) = ((i + 1 : Nat) : Int) := wrapS i (by omega)
  have hbad1 : B2 us.length (lq us) i us.length = false → (List.range us.length).all (fun a => B2 us.length (lq us) a us.length) = false := fun h => all_false hill h
  refine awp_seq ?_
  refine awp_block ?_
  refine awp_seq ?_
  refine awp_run rfl (by simp only [fwA, seval] <;> rfl) ?_
  refine awp_block ?_
  refine awp_for [1, 3, 4, 5] (fun j : Nat => [.ptr H.length 0, .int .i64 (us.length : Int), .int .i64 (i : Int), .int .i64 (j : Int)]) (fun _ => K) (fun j => us.length - j) (fun j => j ≤ us.length ∧ B2 us.length (lq us) i j = true) 0 rfl rfl ⟨Nat.zero_le _, rfl⟩ fun j hs => ?_
  obtain ⟨hjl, hallj⟩ := hs
  refine awp_seq ?_
  refine awp_seq ?_
  refine awp_run rfl (by simp only [fwA, seval, gfw, bx, dx, bitfw] <;> rfl) ?_
  refine awp_cond (by simp only [fwA, seval] <;> rfl) ?_
  by_cases hcj : (j : Int) < us.length
  rotate_left
  · simp only [hcj, decide_false, Bool.false_eq_true, ↓reduceIte]
    refine awp_exit ?_
    have e : j = us.length := by omega
    rw [e] at hallj
    refine awp_run rfl (by simp only [fwA, seval] <;> rfl) ?_
    refine ⟨i + 1, by omega, ⟨by omega, by rw [all_succ, hall, hallj]; rfl⟩, ?_, rfl, rfl⟩
    simp only [fwA, seval, gfw, hwi]
  simp only [hcj, decide_true, ↓reduceIte]
  refine awp_skip ?_
  have hjll : j < us.length := by omega
  have hwj : IntKind.i64.wrap ((j : Int) + 1) = ((j + 1 : Nat) : Int) := wrapS j (by omega)
  have h52 := c100 Γ ns us hw hl hn i j hill hjll
  have h54 := c99 Γ ns us hw hl hn i j hill hjll
  have n1 := oI_lt (jn us.length (lq us) i j)
  have n2 := oI_lt (jn us.length (tr (lq us)) i j)
  have hst : B2 us.length (lq us) i (j + 1) = ((jn us.length (lq us) i j).isSome && (jn us.length (tr (lq us)) i j).isSome) := by
    unfold B2 at hallj ⊢
    rw [all_succ, hallj]; rfl
  have hbad2 : ((jn us.length (lq us) i j).isSome && (jn us.length (tr (lq us)) i j).isSome) = false → (List.range us.length).all (fun a => B2 us.length (lq us) a us.length) = false := fun h => hbad1 (by unfold B2; exact all_false hjll h)
  refine awp_seq ?_
  refine awp_block ?_
  refine awp_seq ?_
  cases h1 : (jn us.length (lq us) i j).isSome
  · rw [h1] at n1
    refine awp_region rfl ?_
    refine aops_run 3 (by simp only [fwA, seval, gfw, bx, dx, bitfw, hK0, n1] <;> rfl) ?_
    refine aops_fn rfl rfl rfl en100 h52 ?_
    refine aops_run 8 (by simp only [fwA, seval, gfw, bx, dx, bitfw, hK0, n1] <;> rfl) ?_
    refine aops_end ?_
    refine awp_cond (b := true) (by simp [alook, aput, ev]) ?_
    refine awp_seq ?_
    refine awp_run rfl (by simp only [fwA, seval] <;> rfl) ?_
    refine awp_ret ?_
    rw [hbad2 (by rw [h1]; rfl)]
    exact hend _ _ rfl
  rw [h1] at n1
  cases h2 : (jn us.length (tr (lq us)) i j).isSome
  · rw [h2] at n2
    refine awp_region rfl ?_
    refine aops_run 3 (by simp only [fwA, seval, gfw, bx, dx, bitfw, hK0, n1, n2] <;> rfl) ?_
    refine aops_fn rfl rfl rfl en100 h52 ?_
    refine aops_run 5 (by simp only [fwA, seval, gfw, bx, dx, bitfw, hK0, n1, n2] <;> rfl) ?_
    refine aops_fnIf rfl rfl rfl rfl rfl en99 h54 ?_
    refine aops_run 2 (by simp only [fwA, seval, gfw, bx, dx, bitfw, hK0, n1, n2] <;> rfl) ?_
    refine aops_end ?_
    refine awp_cond (b := true) (by simp [alook, aput, ev]) ?_
    refine awp_seq ?_
    refine awp_run rfl (by simp only [fwA, seval] <;> rfl) ?_
    refine awp_ret ?_
    rw [hbad2 (by rw [h2, Bool.and_false])]
    exact hend _ _ rfl
  rw [h2] at n2
  refine awp_region rfl ?_
  refine aops_run 3 (by simp only [fwA, seval, gfw, bx, dx, bitfw, hK0, n1, n2] <;> rfl) ?_
  refine aops_fn rfl rfl rfl en100 h52 ?_
  refine aops_run 5 (by simp only [fwA, seval, gfw, bx, dx, bitfw, hK0, n1, n2] <;> rfl) ?_
  refine aops_fnIf rfl rfl rfl rfl rfl en99 h54 ?_
  refine aops_run 2 (by simp only [fwA, seval, gfw, bx, dx, bitfw, hK0, n1, n2] <;> rfl) ?_
  refine aops_end ?_
  refine awp_cond (b := false) (by simp [alook, aput, ev]) (awp_skip ?_)
  refine awp_run rfl (by simp only [fwA, seval] <;> rfl) ?_
  refine ⟨j + 1, by omega, ⟨by omega, by rw [hst, h1, h2]; rfl⟩, ?_, rfl, rfl⟩
  simp only [fwA, seval, gfw, hwj]
end Go.Proofs.YteicbhkimepbaaaGreatDoor
namespace Go.Proofs.YteicbhkimepbaaaGreatDoor
set_option linter.unusedVariables false
set_option linter.unusedSimpArgs false
set_option maxRecDepth 100000
open Go.RowKit Fw
theorem c134 (Γ : Nat → PV) (s : List UInt8) : Gives Tryz.prog Γ 134 [.str s] (.bool (nameB s)) := by
  refine fn_of_awp Tryz.func134 rfl (by simp [Tryz.f134]) rfl fun H => ?_
  refine awp_slen 0 rfl fun hsl => ?_
  refine awp_seq ?_
  refine awp_run rfl (by simp only [fwA, seval] <;> rfl) ?_
  refine awp_seq ?_
  refine awp_seq ?_
  by_cases h1 : (s.length : Int) < 1
  · refine awp_run rfl (by simp only [fwA, seval, gfw, bx, dx, bitfw, h1] <;> rfl) ?_
    refine awp_cond (b := true) (by simp [alook, aput, ev]) ?_
    refine awp_seq ?_
    refine awp_run rfl (by simp only [fwA, seval] <;> rfl) ?_
    refine awp_ret ?_
    exact gives_end0 (.inl rfl) (by unfold nameB; rw [decide_eq_false (by omega : ¬ 0 < s.length)]; rfl)
  by_cases h2 : (16 : Int) < (s.length : Int)
  · refine awp_run rfl (by simp only [fwA, seval, gfw, bx, dx, bitfw, h1, h2] <;> rfl) ?_
    refine awp_cond (b := true) (by simp [alook, aput, ev]) ?_
    refine awp_seq ?_
    refine awp_run rfl (by simp only [fwA, seval] <;> rfl) ?_
    refine awp_ret ?_
    exact gives_end0 (.inl rfl) (by unfold nameB; rw [decide_eq_false (by omega : ¬ s.length ≤ 16), Bool.and_false]; rfl)
  refine awp_run rfl (by simp only [fwA, seval, gfw, bx, dx, bitfw, h1, h2] <;> rfl) ?_
  refine awp_cond (b := false) (by simp [alook, aput, ev]) (awp_skip ?_)
  refine awp_seq ?_
  refine awp_seq ?_
  refine awp_run rfl (by simp only [fwA, seval] <;> rfl) ?_
  refine awp_block ?_
  refine awp_for [0, 3] (fun i : Nat => [.str s, .int .i64 (i : Int)]) (fun _ => H) (fun i => s.length - i) (fun i => i ≤ s.length ∧ chsB s i = true) 0 rfl rfl ⟨Nat.zero_le _, rfl⟩ fun i hi => ?_
  obtain ⟨hi, hch⟩ := hi
  refine awp_seq ?_
  refine awp_seq ?_
  refine awp_run rfl (by simp only [fwA, seval, gfw, bx, dx, bitfw] <;> rfl) ?_
  refine awp_cond (by simp only [fwA, seval] <;> rfl) ?_
  by_cases hc : (i : Int) < s.length
  rotate_left
  · simp only [hc, decide_false, Bool.false_eq_true, ↓reduceIte]
    refine awp_exit ?_
    have e : i = s.length := by omega
    subst e
    refine awp_seq ?_
    refine awp_run rfl (by simp only [fwA, seval] <;> rfl) ?_
    refine awp_ret ?_
    exact gives_end0 (.inl rfl) (by unfold nameB; rw [hch, decide_eq_true (by omega : 0 < s.length), decide_eq_true (by omega : s.length ≤ 16)]; rfl)
  simp only [hc, decide_true, ↓reduceIte]
  refine awp_skip ?_
  have hil : i < s.length := by omega
  have ga : s[i]? = some s[i] := List.getElem?_eq_getElem hil
  generalize s[i] = c at ga
  have hwi : IntKind.i64.wrap ((i : Int) + 1) = ((i + 1 : Nat) : Int) := wrapS i (by omega)
  have hst := chsB_succ ga
  refine awp_seq ?_
  refine awp_block ?_
  refine awp_join [0, 3, 4] (fun d : Bool => [.str s, .int .i64 (i : Int), .bool d]) (fun _ => H) (fun d => d = letB c) ?_ fun d hd => ?_
  · have e1 : decide ((97 : Int) ≤ (c.toNat : Int)) = decide (97 ≤ c.toNat) := decide_eq_decide.2 (by omega)
    have e2 : decide ((c.toNat : Int) ≤ 122) = decide (c.toNat ≤ 122) := decide_eq_decide.2 (by omega)
    have e3 : decide ((65 : Int) ≤ (c.toNat : Int)) = decide (65 ≤ c.toNat) := decide_eq_decide.2 (by omega)
    have e4 : decide ((c.toNat : Int) ≤ 90) = decide (c.toNat ≤ 90) := decide_eq_decide.2 (by omega)
    unfold letB
    rw [← e1, ← e2, ← e3, ← e4]
    by_cases h3 : (97 : Int) ≤ (c.toNat : Int)
    · by_cases h4 : (c.toNat : Int) ≤ 122
      · refine awp_run rfl (by simp only [fwA, seval, gfw, bx, dx, bitfw, ga, h3, h4] <;> rfl) ?_
        exact ⟨true, by rw [decide_eq_true h3, decide_eq_true h4]; rfl, rfl, rfl, rfl⟩
      · by_cases h5 : (65 : Int) ≤ (c.toNat : Int)
        · refine awp_run rfl (by simp only [fwA, seval, gfw, bx, dx, bitfw, ga, h3, h4, h5] <;> rfl) ?_
          exact ⟨_, by rw [decide_eq_false h4, decide_eq_true h5, Bool.and_false, Bool.false_or, Bool.true_and], rfl, rfl, rfl⟩
        · refine awp_run rfl (by simp only [fwA, seval, gfw, bx, dx, bitfw, ga, h3, h4, h5] <;> rfl) ?_
          exact ⟨_, by rw [decide_eq_false h4, decide_eq_false h5, Bool.and_false, Bool.false_or, Bool.false_and], rfl, rfl, rfl⟩
    · by_cases h5 : (65 : Int) ≤ (c.toNat : Int)
      · refine awp_run rfl (by simp only [fwA, seval, gfw, bx, dx, bitfw, ga, h3, h5] <;> rfl) ?_
        exact ⟨_, by rw [decide_eq_false h3, decide_eq_true h5, Bool.false_and, Bool.false_or, Bool.true_and], rfl, rfl, rfl⟩
      · refine awp_run rfl (by simp only [fwA, seval, gfw, bx, dx, bitfw, ga, h3, h5] <;> rfl) ?_
        exact ⟨_, by rw [decide_eq_false h3, decide_eq_false h5, Bool.false_and, Bool.false_or, Bool.false_and], rfl, rfl, rfl⟩
  subst hd
  refine awp_join [0, 3, 4, 5] (fun d : Bool => [.str s, .int .i64 (i : Int), .bool (letB c), .bool d]) (fun _ => H) (fun d => d = digB c) ?_ fun d hd => ?_
  · have e1 : decide ((48 : Int) ≤ (c.toNat : Int)) = decide (48 ≤ c.toNat) := decide_eq_decide.2 (by omega)
    have e2 : decide ((c.toNat : Int) ≤ 57) = decide (c.toNat ≤ 57) := decide_eq_decide.2 (by omega)
    by_cases h3 : (48 : Int) ≤ (c.toNat : Int)
    · refine awp_run rfl (by simp only [fwA, seval, gfw, bx, dx, bitfw, ga, h3] <;> rfl) ?_
      exact ⟨_, by unfold digB; rw [← e1, ← e2, decide_eq_true h3, Bool.true_and], rfl, rfl, rfl⟩
    · refine awp_run rfl (by simp only [fwA, seval, gfw, bx, dx, bitfw, ga, h3] <;> rfl) ?_
      exact ⟨_, by unfold digB; rw [← e1, decide_eq_false h3, Bool.false_and], rfl, rfl, rfl⟩
  subst hd
  refine awp_seq ?_
  cases hL : letB c
  · by_cases h0 : (i : Int) = 0
    · have hd0 : decide ((i : Int) = 0) = true := decide_eq_true h0
      refine awp_run rfl (by simp only [fwA, seval, gfw, bx, dx, bitfw, ga, hd0] <;> rfl) ?_
      refine awp_cond (b := true) (by simp [alook, aput, ev]) ?_
      refine awp_seq ?_
      refine awp_run rfl (by simp only [fwA, seval] <;> rfl) ?_
      refine awp_ret ?_
      exact gives_end0 (.inl rfl) (by rw [chsB_false ga (by unfold chB; rw [hL, decide_eq_false (by omega)]; rfl)]; rfl)
    · have h0' : 0 < i := by omega
      cases hD : digB c
      · refine awp_run rfl (by simp only [fwA, seval, gfw, bx, dx, bitfw, ga, h0] <;> rfl) ?_
        refine awp_cond (b := true) (by simp [alook, aput, ev]) ?_
        refine awp_seq ?_
        refine awp_run rfl (by simp only [fwA, seval] <;> rfl) ?_
        refine awp_ret ?_
        exact gives_end0 (.inl rfl) (by rw [chsB_false ga (by unfold chB; rw [hL, hD, Bool.and_false]; rfl)]; rfl)
      · refine awp_run rfl (by simp only [fwA, seval, gfw, bx, dx, bitfw, ga, h0] <;> rfl) ?_
        refine awp_cond (b := false) (by simp [alook, aput, ev]) (awp_skip ?_)
        refine awp_run rfl (by simp only [fwA, seval] <;> rfl) ?_
        refine ⟨i + 1, by omega, ⟨by omega, by rw [hst, hch]; unfold chB; rw [hL, hD, decide_eq_true h0']; rfl⟩, ?_, rfl, rfl⟩
        simp only [fwA, seval, gfw, hwi]
  · refine awp_run rfl (by simp only [fwA, seval, gfw, bx, dx, bitfw, ga] <;> rfl) ?_
    refine awp_cond (b := false) (by simp [alook, aput, ev]) (awp_skip ?_)
    refine awp_run rfl (by simp only [fwA, seval] <;> rfl) ?_
    refine ⟨i + 1, by omega, ⟨by omega, by rw [hst, hch]; unfold chB; rw [hL]; rfl⟩, ?_, rfl, rfl⟩
    simp only [fwA, seval, gfw, hwi]
def N2 (l : List (List UInt8)) (i k : Nat) : Bool := (List.range k).all fun j => !decide (l.getD j [] = l.getD i [])
def N1 (l : List (List UInt8)) (i : Nat) : Bool := nameB (l.getD i []) && N2 l i i
def namesD (l : List (List UInt8)) : Bool := (List.range l.length).all (N1 l)
theorem c109 (Γ : Nat → PV) (l : List (List UInt8)) : Gives Tryz.prog Γ 109 [.vec (l.map S1) false] (.bool (namesD l)) := by
  refine fn_of_awp Tryz.func109 rfl (by simp [Tryz.f109]) rfl fun H => ?_
  refine awp_vlen 0 rfl fun hsl => ?_
  rw [List.length_map] at hsl
  refine awp_seq ?_
  refine awp_run rfl (by simp only [fwA, seval] <;> rfl) ?_
  refine awp_seq ?_
  refine awp_seq ?_
  refine awp_run rfl (by simp only [fwA, seval] <;> rfl) ?_
  refine awp_block ?_
  refine awp_for [0, 3] (fun i : Nat => [.vec (l.map S1) false, .int .i64 (i : Int)]) (fun _ => H) (fun i => l.length - i) (fun i => i ≤ l.length ∧ (List.range i).all (N1 l) = true) 0 rfl rfl ⟨Nat.zero_le _, rfl⟩ fun i hs => ?_
  obtain ⟨hil, hall⟩ := hs
  refine awp_seq ?_
  refine awp_seq ?_
  refine awp_run rfl (by simp only [fwA, seval, gfw, bx, dx, bitfw] <;> rfl) ?_
  refine awp_cond (by simp only [fwA, seval] <;> rfl) ?_
  by_cases hc : (i : Int) < l.length
  rotate_left
  · simp only [hc, decide_false, Bool.false_eq_true, ↓reduceIte]
    refine awp_exit ?_
    have e : i = l.length := by omega
    subst e
    refine awp_seq ?_
    refine awp_run rfl (by simp only [fwA, seval] <;> rfl) ?_
    refine awp_ret ?_
    exact gives_end0 (.inl rfl) (by unfold namesD; rw [hall]; rfl)
  simp only [hc, decide_true, ↓reduceIte]
  refine awp_skip ?_
  have hill : i < l.length := by omega
  have ga : l[i]? = some l[i] := List.getElem?_eq_getElem hill
  have gd : l.getD i [] = l[i] := by rw [List.getD_eq_getElem?_getD, ga]; rfl
  have hwi : IntKind.i64.wrap ((i : Int) + 1) = ((i + 1 : Nat) : Int) := wrapS i (by omega)
  have hbad : N1 l i = false → namesD l = false := fun h => all_false hill h
  have hN1 : N1 l i = (nameB l[i] && N2 l i i) := by unfold N1; rw [gd]
  have hN2 : ∀ j, N2 l i (j + 1) = (N2 l i j && !decide (l.getD j [] = l[i])) := fun j => by unfold N2; rw [all_succ, gd]
  have hN2f : ∀ j, j < i → (!decide (l.getD j [] = l[i])) = false → N2 l i i = false := fun j hj h => by unfold N2; exact all_false hj (by rw [gd]; exact h)
  generalize l[i] = s at ga gd hN1 hN2 hN2f
  have h20 := c134 Γ s
  refine awp_seq ?_
  refine awp_block ?_
  refine awp_seq ?_
  refine awp_seq ?_
  cases hs1 : nameB s
  · rw [hs1] at h20
    refine awp_region rfl ?_
    refine aops_run 4 (by simp only [fwA, seval, gfw, bx, dx, bitfw, ga] <;> rfl) ?_
    refine aops_fn rfl rfl rfl en134 h20 ?_
    refine aops_run 1 (by simp only [fwA, seval, gfw, bx, dx, bitfw, ga] <;> rfl) ?_
    refine aops_end ?_
    refine awp_cond (b := true) (by simp [alook, aput, ev]) ?_
    refine awp_seq ?_
    refine awp_run rfl (by simp only [fwA, seval] <;> rfl) ?_
    refine awp_ret ?_
    rw [hbad (by rw [hN1, hs1]; rfl)]
    exact gives_end0 (.inl rfl) rfl
  rw [hs1] at h20
  refine awp_region rfl ?_
  refine aops_run 4 (by simp only [fwA, seval, gfw, bx, dx, bitfw, ga] <;> rfl) ?_
  refine aops_fn rfl rfl rfl en134 h20 ?_
  refine aops_run 1 (by simp only [fwA, seval, gfw, bx, dx, bitfw, ga] <;> rfl) ?_
  refine aops_end ?_
  refine awp_cond (b := false) (by simp [alook, aput, ev]) (awp_skip ?_)
  refine awp_seq ?_
  refine awp_run rfl (by simp only [fwA, seval] <;> rfl) ?_
  refine awp_block ?_
  refine awp_for [0, 3, 4] (fun j : Nat => [.vec (l.map S1) false, .int .i64 (i : Int), .int .i64 (j : Int)]) (fun _ => H) (fun j => i - j) (fun j => j ≤ i ∧ N2 l i j = true) 0 rfl rfl ⟨Nat.zero_le _, rfl⟩ fun j hs => ?_
  obtain ⟨hjl, hallj⟩ := hs
  refine awp_seq ?_
  refine awp_seq ?_
  refine awp_run rfl (by simp only [fwA, seval, gfw, bx, dx, bitfw] <;> rfl) ?_
  refine awp_cond (by simp only [fwA, seval] <;> rfl) ?_
  by_cases hcj : (j : Int) < i
  rotate_left
  · simp only [hcj, decide_false, Bool.false_eq_true, ↓reduceIte]
    refine awp_exit ?_
    have e : j = i := by omega
    rw [e] at hallj
    refine awp_run rfl (by simp only [fwA, seval] <;> rfl) ?_
    refine ⟨i + 1, by omega, ⟨by omega, by rw [all_succ, hall, hN1, hs1, hallj]; rfl⟩, ?_, rfl, rfl⟩
    simp only [fwA, seval, gfw, hwi]
  simp only [hcj, decide_true, ↓reduceIte]
  refine awp_skip ?_
  have hjll : j < l.length := by omega
  have gj : l[j]? = some l[j] := List.getElem?_eq_getElem hjll
  have gdj : l.getD j [] = l[j] := by rw [List.getD_eq_getElem?_getD, gj]; rfl
  have hwj : IntKind.i64.wrap ((j : Int) + 1) = ((j + 1 : Nat) : Int) := wrapS j (by omega)
  generalize l[j] = u at gj gdj
  refine awp_seq ?_
  refine awp_block ?_
  refine awp_seq ?_
  by_cases he : u = s
  · have hde : decide (u = s) = true := decide_eq_true he
    refine awp_drun [0, 0, 0, 1, 0, 0, 0, 1, 0] [0, 0, 3, 7, 0, 0, 48, 112, 255] mixed rfl (by kernel_rfl) (by simp only [fwA, seval, gfw, bx, dx, bitfw, ga, gj, hde] <;> rfl) ?_
    refine awp_cond (b := true) (by simp [alook, aput, ev]) ?_
    refine awp_seq ?_
    refine awp_run rfl (by simp only [fwA, seval] <;> rfl) ?_
    refine awp_ret ?_
    rw [hbad (by rw [hN1, hN2f j (by omega) (by rw [gdj, hde]; rfl), Bool.and_false])]
    exact gives_end0 (.inl rfl) rfl
  · have hde : decide (u = s) = false := decide_eq_false he
    refine awp_drun [0, 0, 0, 1, 0, 0, 0, 1, 0] [0, 0, 3, 7, 0, 0, 48, 112, 255] mixed rfl (by kernel_rfl) (by simp only [fwA, seval, gfw, bx, dx, bitfw, ga, gj, hde] <;> rfl) ?_
    refine awp_cond (b := false) (by simp [alook, aput, ev]) (awp_skip ?_)
    refine awp_run rfl (by simp only [fwA, seval] <;> rfl) ?_
    refine ⟨j + 1, by omega, ⟨by omega, by rw [hN2, hallj, gdj, hde]; rfl⟩, ?_, rfl, rfl⟩
    simp only [fwA, seval, gfw, hwj]
theorem idxS_first (l : List (List UInt8)) {k : Nat} (hk : k < l.length) : decide (idxS l (l.getD k []) = (k : Int)) = N2 l k k := by
  have gk : l[k]? = some (l.getD k []) := by rw [List.getD_eq_getElem?_getD, List.getElem?_eq_getElem hk]; rfl
  generalize l.getD k [] = s at gk
  have hN : N2 l k k = (List.range k).all fun j => !decide (l.getD j [] = s) := by
    unfold N2
    rw [List.getD_eq_getElem?_getD (i := k), gk]; rfl
  rw [hN]
  cases h : (List.range k).all fun j => !decide (l.getD j [] = s)
  · rw [List.all_eq_false] at h
    obtain ⟨j, hj, h2⟩ := h
    have hjk := List.mem_range.1 hj
    simp only [Bool.not_eq_true', decide_eq_false_iff_not, Decidable.not_not] at h2
    refine decide_eq_false fun e => ?_
    unfold idxS at e
    cases hf : l.findIdx? (fun x => decide (s = x)) with
    | none => rw [hf] at e; simp only at e; omega
    | some m =>
      rw [hf] at e
      simp only at e
      obtain ⟨h3, _, h5⟩ := List.findIdx?_eq_some_iff_getElem.1 hf
      have hm : m = k := by omega
      subst hm
      have := h5 j hjk
      have gj : l.getD j [] = l[j] := by rw [List.getD_eq_getElem?_getD, List.getElem?_eq_getElem (by omega)]; rfl
      rw [gj] at h2
      rw [h2] at this
      simp at this
  · rw [List.all_eq_true] at h
    refine decide_eq_true (idxS_some (fun j hj e => ?_) gk)
    have := h j (List.mem_range.2 hj)
    rw [List.getD_eq_getElem?_getD, e] at this
    simp at this
theorem named_names (l : List (List UInt8)) : namedB l = (decide (0 < l.length) && namesD l) := by
  unfold namedB namesD
  congr 1
  refine Bool.eq_iff_iff.2 ?_
  simp only [List.all_eq_true, List.mem_range]
  constructor
  · intro h k hk
    have := h k hk
    rw [idxS_first l hk] at this; exact this
  · intro h k hk
    have := h k hk
    rw [idxS_first l hk]; exact this
theorem shr_zero {x : Nat} (n : Nat) : decide (((x >>> n : Nat) : Int) = 0) = decide (x < 2 ^ n) := by
  refine decide_eq_decide.2 ?_
  rw [Nat.shiftRight_eq_div_pow]
  have hp := Nat.two_pow_pos n
  have : x / 2 ^ n = 0 ↔ x < 2 ^ n := Nat.div_eq_zero_iff_lt hp
  omega
theorem c64 (Γ : Nat → PV) (ns : List (List UInt8)) (us : List Nat) (hw : W64 us) : Gives Tryz.prog Γ 64 [.agg [.vec (ns.map S1) false, .vec (us.map U1) false]] (.bool (rightB ns us)) := by
  refine fn_of_awp Tryz.func64 rfl (by simp [Tryz.f64]) rfl fun H => ?_
  refine awp_seq ?_
  refine awp_run rfl (by simp only [fwA, seval] <;> rfl) ?_
  refine awp_seq ?_
  have hK0 : (H ++ [Blk.box [.vec (ns.map S1) false, .vec (us.map U1) false]])[H.length]? = some (.box [.vec (ns.map S1) false, .vec (us.map U1) false]) := by rw [Fw.get_at0]; rfl
  generalize hK : H ++ [Blk.box [.vec (ns.map S1) false, .vec (us.map U1) false]] = K at hK0 ⊢
  have hend : ∀ (A' : List (Nat × PV)) (v : Bool), alook A' 2 = .bool v → ((Exit.ret = .ret ∨ Exit.ret = .normal) ∧ ([] : List Nat).Nodup ∧ (∀ b ∈ ([] : List Nat), K[b]? = some .dfr ∧ H.length ≤ b) ∧ ares Tryz.prog Γ A' K Tryz.f64.results.toList = some (.bool v) ∧ ∃ L', K = H ++ L') := fun A' v hv => by
    subst hK
    exact gives_end (.inl rfl) _ (by simp [ares, aresL, ares1, Tryz.f64, hv])
  have h40 := c109 Γ ns
  have hnn := named_names ns
  refine awp_run rfl (by simp only [fwA, seval, gfw, bx, dx, bitfw, hK0] <;> rfl) ?_
  refine awp_seq ?_
  refine awp_seq ?_
  by_cases h1 : (ns.length : Int) < 1
  · refine awp_region rfl ?_
    refine aops_run 13 (by simp only [fwA, seval, gfw, bx, dx, bitfw, hK0, h1] <;> rfl) ?_
    refine aops_run 6 (by simp only [fwA, seval, gfw, bx, dx, bitfw, hK0, h1] <;> rfl) ?_
    refine aops_end ?_
    refine awp_cond (b := true) (by simp [alook, aput, ev]) ?_
    refine awp_seq ?_
    refine awp_run rfl (by simp only [fwA, seval] <;> rfl) ?_
    refine awp_ret ?_
    have e : rightB ns us = false := by unfold rightB; rw [hnn, decide_eq_false (by omega : ¬ 0 < ns.length), Bool.false_and, Bool.and_false]; rfl
    rw [e]
    exact hend _ _ rfl
  by_cases h2 : (64 : Int) < (ns.length : Int)
  · refine awp_region rfl ?_
    refine aops_run 13 (by simp only [fwA, seval, gfw, bx, dx, bitfw, hK0, h1, h2] <;> rfl) ?_
    refine aops_run 6 (by simp only [fwA, seval, gfw, bx, dx, bitfw, hK0, h1, h2] <;> rfl) ?_
    refine aops_end ?_
    refine awp_cond (b := true) (by simp [alook, aput, ev]) ?_
    refine awp_seq ?_
    refine awp_run rfl (by simp only [fwA, seval] <;> rfl) ?_
    refine awp_ret ?_
    have e : rightB ns us = false := by unfold rightB; rw [decide_eq_false (by omega : ¬ ns.length ≤ 64)]; rfl
    rw [e]
    exact hend _ _ rfl
  by_cases h3 : (us.length : Int) = (ns.length : Int)
  rotate_left
  · refine awp_region rfl ?_
    refine aops_run 13 (by simp only [fwA, seval, gfw, bx, dx, bitfw, hK0, h1, h2, h3] <;> rfl) ?_
    refine aops_run 6 (by simp only [fwA, seval, gfw, bx, dx, bitfw, hK0, h1, h2, h3] <;> rfl) ?_
    refine aops_end ?_
    refine awp_cond (b := true) (by simp [alook, aput, ev]) ?_
    refine awp_seq ?_
    refine awp_run rfl (by simp only [fwA, seval] <;> rfl) ?_
    refine awp_ret ?_
    have e : rightB ns us = false := by unfold rightB; rw [decide_eq_false (by omega : ¬ us.length = ns.length), Bool.and_false]; rfl
    rw [e]
    exact hend _ _ rfl
  rw [decide_eq_true (by omega : 0 < ns.length), Bool.true_and] at hnn
  cases h4 : namesD ns
  · rw [h4] at h40
    refine awp_region rfl ?_
    refine aops_run 13 (by simp only [fwA, seval, gfw, bx, dx, bitfw, hK0, h1, h2, h3] <;> rfl) ?_
    refine aops_run 3 (by simp only [fwA, seval, gfw, bx, dx, bitfw, hK0, h1, h2, h3] <;> rfl) ?_
    refine aops_fnIf rfl rfl rfl rfl rfl en109 h40 ?_
    refine aops_run 2 (by simp only [fwA, seval, gfw, bx, dx, bitfw, hK0, h1, h2, h3] <;> rfl) ?_
    refine aops_end ?_
    refine awp_cond (b := true) (by simp [alook, aput, ev]) ?_
    refine awp_seq ?_
    refine awp_run rfl (by simp only [fwA, seval] <;> rfl) ?_
    refine awp_ret ?_
    have e : rightB ns us = false := by unfold rightB; rw [hnn, h4, Bool.and_false]; rfl
    rw [e]
    exact hend _ _ rfl
  rw [h4] at h40 hnn
  refine awp_region rfl ?_
  refine aops_run 13 (by simp only [fwA, seval, gfw, bx, dx, bitfw, hK0, h1, h2, h3] <;> rfl) ?_
  refine aops_run 3 (by simp only [fwA, seval, gfw, bx, dx, bitfw, hK0, h1, h2, h3] <;> rfl) ?_
  refine aops_fnIf rfl rfl rfl rfl rfl en109 h40 ?_
  refine aops_run 2 (by simp only [fwA, seval, gfw, bx, dx, bitfw, hK0, h1, h2, h3] <;> rfl) ?_
  refine aops_end ?_
  refine awp_cond (b := false) (by simp [alook, aput, ev]) (awp_skip ?_)
  have hl : us.length = ns.length := by omega
  have hn : us.length ≤ 64 := by omega
  have hR : rightB ns us = (us.all (fun x => decide (x < 2 ^ us.length)) && (ordB us.length (lq us) && boundB us.length (lq us))) := by
    unfold rightB
    rw [hnn, decide_eq_true (by omega : ns.length ≤ 64), decide_eq_true hl]; rfl
  rw [hR]
  refine awp_seq ?_
  refine awp_seq ?_
  refine awp_run rfl (by simp only [fwA, seval] <;> rfl) ?_
  refine awp_block ?_
  refine awp_for [1, 3, 4] (fun i : Nat => [.ptr H.length 0, .int .i64 (ns.length : Int), .int .i64 (i : Int)]) (fun _ => K) (fun i => us.length - i) (fun i => i ≤ us.length ∧ ∀ j x, j < i → us[j]? = some x → x < 2 ^ us.length) 0 rfl rfl ⟨Nat.zero_le _, fun j x hj => by omega⟩ fun i hs => ?_
  obtain ⟨hil, hall⟩ := hs
  refine awp_seq ?_
  refine awp_seq ?_
  refine awp_run rfl (by simp only [fwA, seval, gfw, bx, dx, bitfw] <;> rfl) ?_
  refine awp_cond (by simp only [fwA, seval] <;> rfl) ?_
  by_cases hc : (i : Int) < ns.length
  rotate_left
  · simp only [hc, decide_false, Bool.false_eq_true, ↓reduceIte]
    refine awp_exit ?_
    have ha : us.all (fun x => decide (x < 2 ^ us.length)) = true := by
      rw [List.all_eq_true]
      intro x hx
      obtain ⟨j, hj⟩ := List.getElem?_of_mem hx
      exact decide_eq_true (hall j x (by have := (List.getElem?_eq_some_iff.1 hj).1; omega) hj)
    have hi : Inn us.length us := fun x hx => by
      rw [List.all_eq_true] at ha
      exact of_decide_eq_true (ha x hx)
    have h42 := c110 Γ ns us hw hl hn
    have h43 := c111 Γ ns us hw hl hn
    rw [ha, Bool.true_and]
    refine awp_seq ?_
    cases h5 : ordB us.length (lq us)
    · rw [h5] at h42
      refine awp_region rfl ?_
      refine aops_run 1 (by simp only [fwA, seval, gfw, bx, dx, bitfw, hK0] <;> rfl) ?_
      refine aops_fn rfl rfl rfl en110 h42 ?_
      refine aops_run 5 (by simp only [fwA, seval, gfw, bx, dx, bitfw, hK0] <;> rfl) ?_
      refine aops_end ?_
      refine awp_ret ?_
      exact hend _ _ rfl
    · rw [h5] at h42
      refine awp_region rfl ?_
      refine aops_run 1 (by simp only [fwA, seval, gfw, bx, dx, bitfw, hK0] <;> rfl) ?_
      refine aops_fn rfl rfl rfl en110 h42 ?_
      refine aops_run 2 (by simp only [fwA, seval, gfw, bx, dx, bitfw, hK0] <;> rfl) ?_
      refine aops_fnIf rfl rfl rfl rfl rfl en111 h43 ?_
      refine aops_run 2 (by simp only [fwA, seval, gfw, bx, dx, bitfw, hK0] <;> rfl) ?_
      refine aops_end ?_
      refine awp_ret ?_
      rw [Bool.true_and]
      exact hend _ _ rfl
  simp only [hc, decide_true, ↓reduceIte]
  refine awp_skip ?_
  have hill : i < us.length := by omega
  have hwi : IntKind.i64.wrap ((i : Int) + 1) = ((i + 1 : Nat) : Int) := wrapS i (by omega)
  obtain ⟨x, gx, hx, ex⟩ := getW hw hill
  have hstep : x < 2 ^ us.length → ∀ j y, j < i + 1 → us[j]? = some y → y < 2 ^ us.length := fun h j y hj hy => by
    by_cases hji : j = i
    · subst hji; rw [gx] at hy; cases hy; exact h
    · exact hall j y (by omega) hy
  refine awp_seq ?_
  refine awp_block ?_
  refine awp_seq ?_
  by_cases h6 : (ns.length : Int) < 64
  · have hs := uShr ns.length hx
    have hz := shr_zero (x := x) ns.length
    by_cases h7 : x < 2 ^ ns.length
    · rw [decide_eq_true h7] at hz
      refine awp_run rfl (by simp only [fwA, seval, gfw, bx, dx, bitfw, hK0, h6, gx, hs, hz] <;> rfl) ?_
      refine awp_cond (b := false) (by simp [alook, aput, ev]) (awp_skip ?_)
      refine awp_run rfl (by simp only [fwA, seval] <;> rfl) ?_
      refine ⟨i + 1, by omega, ⟨by omega, hstep (by rw [hl]; exact h7)⟩, ?_, rfl, rfl⟩
      simp only [fwA, seval, gfw, hwi]
    · rw [decide_eq_false h7] at hz
      refine awp_run rfl (by simp only [fwA, seval, gfw, bx, dx, bitfw, hK0, h6, gx, hs, hz] <;> rfl) ?_
      refine awp_cond (b := true) (by simp [alook, aput, ev]) ?_
      refine awp_seq ?_
      refine awp_run rfl (by simp only [fwA, seval] <;> rfl) ?_
      refine awp_ret ?_
      have ha : us.all (fun x => decide (x < 2 ^ us.length)) = false := by
        rw [List.all_eq_false]
        exact ⟨x, List.mem_of_getElem? gx, by rw [hl]; simpa using h7⟩
      rw [ha]
      exact hend _ _ rfl
  · refine awp_run rfl (by simp only [fwA, seval, gfw, bx, dx, bitfw, hK0, h6, gx] <;> rfl) ?_
    refine awp_cond (b := false) (by simp [alook, aput, ev]) (awp_skip ?_)
    refine awp_run rfl (by simp only [fwA, seval] <;> rfl) ?_
    refine ⟨i + 1, by omega, ⟨by omega, hstep (by rw [show us.length = 64 by omega]; exact hx)⟩, ?_, rfl, rfl⟩
    simp only [fwA, seval, gfw, hwi]
end Go.Proofs.YteicbhkimepbaaaGreatDoor
namespace Go.Proofs.YteicbhkimepbaaaGreatDoor
set_option linter.unusedVariables false
set_option linter.unusedSimpArgs false
set_option maxRecDepth 100000
open Go.RowKit Fw
def joinV (ns : List (List UInt8)) (us : List Nat) (a b : Int) : Int := if rightB ns us = true ∧ ptB (min ns.length us.length) a = true ∧ ptB (min ns.length us.length) b = true then oI (jn us.length (lq us) a.toNat b.toNat) else -1
def meetV (ns : List (List UInt8)) (us : List Nat) (a b : Int) : Int := if rightB ns us = true ∧ ptB (min ns.length us.length) a = true ∧ ptB (min ns.length us.length) b = true then oI (jn us.length (tr (lq us)) a.toNat b.toNat) else -1
def botV (ns : List (List UInt8)) (us : List Nat) : Int := if rightB ns us = true then oI (foldM us.length (lq us) us.length) else -1
def topV (ns : List (List UInt8)) (us : List Nat) : Int := if rightB ns us = true then oI (foldM us.length (tr (lq us)) us.length) else -1
theorem ptB_nat {n : Nat} {a : Int} (h : ptB n a = true) : ∃ k : Nat, a = (k : Int) ∧ k < n := by
  unfold ptB at h
  simp only [Bool.and_eq_true, decide_eq_true_eq] at h
  exact ⟨a.toNat, by omega, by omega⟩
theorem c78 (Γ : Nat → PV) (hΓ : Tab64 Γ) (ns : List (List UInt8)) (us : List Nat) (hw : W64 us) (a b : Int) : Gives Tryz.prog Γ 78 [.agg [.vec (ns.map S1) false, .vec (us.map U1) false], .int .i64 a, .int .i64 b] (.int .i64 (joinV ns us a b)) := by
  have h15 := c59 Γ hΓ ns us hw
  have ha := c94 Γ ns us a
  have hb := c94 Γ ns us b
  refine fn_of_awp Tryz.func78 rfl (by simp [Tryz.f78]) rfl fun H => ?_
  refine awp_seq ?_
  refine awp_run rfl (by simp only [fwA, seval] <;> rfl) ?_
  have hK0 : (H ++ [Blk.box [.vec (ns.map S1) false, .vec (us.map U1) false]])[H.length]? = some (.box [.vec (ns.map S1) false, .vec (us.map U1) false]) := by rw [Fw.get_at0]; rfl
  generalize hK : H ++ [Blk.box [.vec (ns.map S1) false, .vec (us.map U1) false]] = K at hK0 ⊢
  have hend : ∀ (A' : List (Nat × PV)) (v : Int), alook A' 6 = .int .i64 v → ((Exit.ret = .ret ∨ Exit.ret = .normal) ∧ ([] : List Nat).Nodup ∧ (∀ b ∈ ([] : List Nat), K[b]? = some .dfr ∧ H.length ≤ b) ∧ ares Tryz.prog Γ A' K Tryz.f78.results.toList = some (.int .i64 v) ∧ ∃ L', K = H ++ L') := fun A' v hv => by
    subst hK
    exact gives_end (.inl rfl) _ (by simp [ares, aresL, ares1, Tryz.f78, hv])
  refine awp_seq ?_
  refine awp_seq ?_
  cases hR : rightB ns us
  · rw [hR] at h15
    refine awp_region rfl ?_
    refine aops_run 1 (by simp only [fwA, seval, gfw, bx, dx, bitfw, hK0] <;> rfl) ?_
    refine aops_fn rfl rfl rfl en59 h15 ?_
    refine aops_run 13 (by simp only [fwA, seval, gfw, bx, dx, bitfw, hK0] <;> rfl) ?_
    refine aops_end ?_
    refine awp_cond (b := true) (by simp [alook, aput, ev]) ?_
    refine awp_seq ?_
    refine awp_run rfl (by simp only [fwA, seval] <;> rfl) ?_
    refine awp_ret ?_
    have e : joinV ns us a b = -1 := by unfold joinV; rw [if_neg (by rw [hR]; simp)]
    rw [e]
    exact hend _ _ rfl
  rw [hR] at h15
  cases h1 : ptB (min ns.length us.length) a
  · rw [h1] at ha
    refine awp_region rfl ?_
    refine aops_run 1 (by simp only [fwA, seval, gfw, bx, dx, bitfw, hK0] <;> rfl) ?_
    refine aops_fn rfl rfl rfl en59 h15 ?_
    refine aops_run 4 (by simp only [fwA, seval, gfw, bx, dx, bitfw, hK0] <;> rfl) ?_
    refine aops_fnIf rfl rfl rfl rfl rfl en94 ha ?_
    refine aops_run 8 (by simp only [fwA, seval, gfw, bx, dx, bitfw, hK0] <;> rfl) ?_
    refine aops_end ?_
    refine awp_cond (b := true) (by simp [alook, aput, ev]) ?_
    refine awp_seq ?_
    refine awp_run rfl (by simp only [fwA, seval] <;> rfl) ?_
    refine awp_ret ?_
    have e : joinV ns us a b = -1 := by unfold joinV; rw [if_neg (by rw [h1]; simp)]
    rw [e]
    exact hend _ _ rfl
  rw [h1] at ha
  cases h2 : ptB (min ns.length us.length) b
  · rw [h2] at hb
    refine awp_region rfl ?_
    refine aops_run 1 (by simp only [fwA, seval, gfw, bx, dx, bitfw, hK0] <;> rfl) ?_
    refine aops_fn rfl rfl rfl en59 h15 ?_
    refine aops_run 4 (by simp only [fwA, seval, gfw, bx, dx, bitfw, hK0] <;> rfl) ?_
    refine aops_fnIf rfl rfl rfl rfl rfl en94 ha ?_
    refine aops_run 5 (by simp only [fwA, seval, gfw, bx, dx, bitfw, hK0] <;> rfl) ?_
    refine aops_fnIf rfl rfl rfl rfl rfl en94 hb ?_
    refine aops_run 2 (by simp only [fwA, seval, gfw, bx, dx, bitfw, hK0] <;> rfl) ?_
    refine aops_end ?_
    refine awp_cond (b := true) (by simp [alook, aput, ev]) ?_
    refine awp_seq ?_
    refine awp_run rfl (by simp only [fwA, seval] <;> rfl) ?_
    refine awp_ret ?_
    have e : joinV ns us a b = -1 := by unfold joinV; rw [if_neg (by rw [h2]; simp)]
    rw [e]
    exact hend _ _ rfl
  rw [h2] at hb
  refine awp_region rfl ?_
  refine aops_run 1 (by simp only [fwA, seval, gfw, bx, dx, bitfw, hK0] <;> rfl) ?_
  refine aops_fn rfl rfl rfl en59 h15 ?_
  refine aops_run 4 (by simp only [fwA, seval, gfw, bx, dx, bitfw, hK0] <;> rfl) ?_
  refine aops_fnIf rfl rfl rfl rfl rfl en94 ha ?_
  refine aops_run 5 (by simp only [fwA, seval, gfw, bx, dx, bitfw, hK0] <;> rfl) ?_
  refine aops_fnIf rfl rfl rfl rfl rfl en94 hb ?_
  refine aops_run 2 (by simp only [fwA, seval, gfw, bx, dx, bitfw, hK0] <;> rfl) ?_
  refine aops_end ?_
  refine awp_cond (b := false) (by simp [alook, aput, ev]) (awp_skip ?_)
  obtain ⟨r1, r2, r3, r4, r5⟩ := right_spec hR
  have e : joinV ns us a b = oI (jn us.length (lq us) a.toNat b.toNat) := by unfold joinV; rw [if_pos ⟨hR, h1, h2⟩]
  rw [e]
  obtain ⟨a, rfl, hal⟩ := ptB_nat h1
  obtain ⟨b, rfl, hbl⟩ := ptB_nat h2
  have h51 := c115 Γ hΓ ns us (by omega) r4 a b (by omega) (by omega)
  rw [Int.toNat_natCast, Int.toNat_natCast]
  refine awp_seq ?_
  refine awp_region rfl ?_
  refine aops_run 3 (by simp only [fwA, seval, gfw, bx, dx, bitfw, hK0] <;> rfl) ?_
  refine aops_fn rfl rfl rfl en115 h51 ?_
  refine aops_run 1 (by simp only [fwA, seval, gfw, bx, dx, bitfw, hK0] <;> rfl) ?_
  refine aops_end ?_
  refine awp_ret ?_
  exact hend _ _ rfl
theorem c58 (Γ : Nat → PV) (ns : List (List UInt8)) (us : List Nat) (hw : W64 us) (a b : Int) : Gives Tryz.prog Γ 58 [.agg [.vec (ns.map S1) false, .vec (us.map U1) false], .int .i64 a, .int .i64 b] (.int .i64 (joinV ns us a b)) := by
  have h16 := c64 Γ ns us hw
  have h48 := c98 Γ ns us
  refine fn_of_awp Tryz.func58 rfl (by simp [Tryz.f58]) rfl fun H => ?_
  refine awp_seq ?_
  refine awp_run rfl (by simp only [fwA, seval] <;> rfl) ?_
  have hK0 : (H ++ [Blk.box [.vec (ns.map S1) false, .vec (us.map U1) false]])[H.length]? = some (.box [.vec (ns.map S1) false, .vec (us.map U1) false]) := by rw [Fw.get_at0]; rfl
  generalize hK : H ++ [Blk.box [.vec (ns.map S1) false, .vec (us.map U1) false]] = K at hK0 ⊢
  have hend : ∀ (A' : List (Nat × PV)) (v : Int), alook A' 6 = .int .i64 v → ((Exit.ret = .ret ∨ Exit.ret = .normal) ∧ ([] : List Nat).Nodup ∧ (∀ b ∈ ([] : List Nat), K[b]? = some .dfr ∧ H.length ≤ b) ∧ ares Tryz.prog Γ A' K Tryz.f58.results.toList = some (.int .i64 v) ∧ ∃ L', K = H ++ L') := fun A' v hv => by
    subst hK
    exact gives_end (.inl rfl) _ (by simp [ares, aresL, ares1, Tryz.f58, hv])
  refine awp_seq ?_
  refine awp_seq ?_
  cases hR : rightB ns us
  · rw [hR] at h16
    refine awp_region rfl ?_
    refine aops_run 1 (by simp only [fwA, seval, gfw, bx, dx, bitfw, hK0] <;> rfl) ?_
    refine aops_fn rfl rfl rfl en64 h16 ?_
    refine aops_run 13 (by simp only [fwA, seval, gfw, bx, dx, bitfw, hK0] <;> rfl) ?_
    refine aops_run 8 (by simp only [fwA, seval, gfw, bx, dx, bitfw, hK0] <;> rfl) ?_
    refine aops_end ?_
    refine awp_cond (b := true) (by simp [alook, aput, ev]) ?_
    refine awp_seq ?_
    refine awp_run rfl (by simp only [fwA, seval] <;> rfl) ?_
    refine awp_ret ?_
    have e : joinV ns us a b = -1 := by unfold joinV; rw [if_neg (by rw [hR]; simp)]
    rw [e]
    exact hend _ _ rfl
  rw [hR] at h16
  by_cases h1 : a < 0
  · refine awp_region rfl ?_
    refine aops_run 1 (by simp only [fwA, seval, gfw, bx, dx, bitfw, hK0, h1] <;> rfl) ?_
    refine aops_fn rfl rfl rfl en64 h16 ?_
    refine aops_run 13 (by simp only [fwA, seval, gfw, bx, dx, bitfw, hK0, h1] <;> rfl) ?_
    refine aops_run 8 (by simp only [fwA, seval, gfw, bx, dx, bitfw, hK0, h1] <;> rfl) ?_
    refine aops_end ?_
    refine awp_cond (b := true) (by simp [alook, aput, ev]) ?_
    refine awp_seq ?_
    refine awp_run rfl (by simp only [fwA, seval] <;> rfl) ?_
    refine awp_ret ?_
    have e : joinV ns us a b = -1 := by unfold joinV ptB; rw [if_neg (by rw [decide_eq_false (by omega : ¬ 0 ≤ a)]; simp)]
    rw [e]
    exact hend _ _ rfl
  by_cases h2 : b < 0
  · refine awp_region rfl ?_
    refine aops_run 1 (by simp only [fwA, seval, gfw, bx, dx, bitfw, hK0, h1, h2] <;> rfl) ?_
    refine aops_fn rfl rfl rfl en64 h16 ?_
    refine aops_run 13 (by simp only [fwA, seval, gfw, bx, dx, bitfw, hK0, h1, h2] <;> rfl) ?_
    refine aops_run 8 (by simp only [fwA, seval, gfw, bx, dx, bitfw, hK0, h1, h2] <;> rfl) ?_
    refine aops_end ?_
    refine awp_cond (b := true) (by simp [alook, aput, ev]) ?_
    refine awp_seq ?_
    refine awp_run rfl (by simp only [fwA, seval] <;> rfl) ?_
    refine awp_ret ?_
    have e : joinV ns us a b = -1 := by unfold joinV ptB; rw [if_neg (by rw [decide_eq_false (by omega : ¬ 0 ≤ b)]; simp)]
    rw [e]
    exact hend _ _ rfl
  by_cases h3 : ((min ns.length us.length : Nat) : Int) ≤ a
  · refine awp_region rfl ?_
    refine aops_run 1 (by simp only [fwA, seval, gfw, bx, dx, bitfw, hK0, h1, h2, h3] <;> rfl) ?_
    refine aops_fn rfl rfl rfl en64 h16 ?_
    refine aops_run 12 (by simp only [fwA, seval, gfw, bx, dx, bitfw, hK0, h1, h2, h3] <;> rfl) ?_
    refine aops_fnIf rfl rfl rfl rfl rfl en98 h48 ?_
    refine aops_run 8 (by simp only [fwA, seval, gfw, bx, dx, bitfw, hK0, h1, h2, h3] <;> rfl) ?_
    refine aops_end ?_
    refine awp_cond (b := true) (by simp [alook, aput, ev]) ?_
    refine awp_seq ?_
    refine awp_run rfl (by simp only [fwA, seval] <;> rfl) ?_
    refine awp_ret ?_
    have e : joinV ns us a b = -1 := by unfold joinV ptB; rw [if_neg (by rw [decide_eq_false (by omega : ¬ a < ((min ns.length us.length : Nat) : Int))]; simp)]
    rw [e]
    exact hend _ _ rfl
  by_cases h4 : ((min ns.length us.length : Nat) : Int) ≤ b
  · refine awp_region rfl ?_
    refine aops_run 1 (by simp only [fwA, seval, gfw, bx, dx, bitfw, hK0, h1, h2, h3, h4] <;> rfl) ?_
    refine aops_fn rfl rfl rfl en64 h16 ?_
    refine aops_run 12 (by simp only [fwA, seval, gfw, bx, dx, bitfw, hK0, h1, h2, h3, h4] <;> rfl) ?_
    refine aops_fnIf rfl rfl rfl rfl rfl en98 h48 ?_
    refine aops_run 5 (by simp only [fwA, seval, gfw, bx, dx, bitfw, hK0, h1, h2, h3, h4] <;> rfl) ?_
    refine aops_fnIf rfl rfl rfl rfl rfl en98 h48 ?_
    refine aops_run 2 (by simp only [fwA, seval, gfw, bx, dx, bitfw, hK0, h1, h2, h3, h4] <;> rfl) ?_
    refine aops_end ?_
    refine awp_cond (b := true) (by simp [alook, aput, ev]) ?_
    refine awp_seq ?_
    refine awp_run rfl (by simp only [fwA, seval] <;> rfl) ?_
    refine awp_ret ?_
    have e : joinV ns us a b = -1 := by unfold joinV ptB; rw [if_neg (by rw [decide_eq_false (by omega : ¬ b < ((min ns.length us.length : Nat) : Int))]; simp)]
    rw [e]
    exact hend _ _ rfl
  refine awp_region rfl ?_
  refine aops_run 1 (by simp only [fwA, seval, gfw, bx, dx, bitfw, hK0, h1, h2, h3, h4] <;> rfl) ?_
  refine aops_fn rfl rfl rfl en64 h16 ?_
  refine aops_run 12 (by simp only [fwA, seval, gfw, bx, dx, bitfw, hK0, h1, h2, h3, h4] <;> rfl) ?_
  refine aops_fnIf rfl rfl rfl rfl rfl en98 h48 ?_
  refine aops_run 5 (by simp only [fwA, seval, gfw, bx, dx, bitfw, hK0, h1, h2, h3, h4] <;> rfl) ?_
  refine aops_fnIf rfl rfl rfl rfl rfl en98 h48 ?_
  refine aops_run 2 (by simp only [fwA, seval, gfw, bx, dx, bitfw, hK0, h1, h2, h3, h4] <;> rfl) ?_
  refine aops_end ?_
  refine awp_cond (b := false) (by simp [alook, aput, ev]) (awp_skip ?_)
  obtain ⟨r1, r2, r3, r4, r5⟩ := right_spec hR
  have e : joinV ns us a b = oI (jn us.length (lq us) a.toNat b.toNat) := by unfold joinV ptB; rw [if_pos ⟨hR, by rw [decide_eq_true (by omega : 0 ≤ a), decide_eq_true (by omega : a < ((min ns.length us.length : Nat) : Int))]; rfl, by rw [decide_eq_true (by omega : 0 ≤ b), decide_eq_true (by omega : b < ((min ns.length us.length : Nat) : Int))]; rfl⟩]
  rw [e]
  obtain ⟨a, rfl⟩ : ∃ k : Nat, a = (k : Int) := ⟨a.toNat, by omega⟩
  obtain ⟨b, rfl⟩ : ∃ k : Nat, b = (k : Int) := ⟨b.toNat, by omega⟩
  have h52 := c100 Γ ns us hw r2 (by omega) a b (by omega) (by omega)
  rw [Int.toNat_natCast, Int.toNat_natCast]
  refine awp_seq ?_
  refine awp_region rfl ?_
  refine aops_run 3 (by simp only [fwA, seval, gfw, bx, dx, bitfw, hK0] <;> rfl) ?_
  refine aops_fn rfl rfl rfl en100 h52 ?_
  refine aops_run 1 (by simp only [fwA, seval, gfw, bx, dx, bitfw, hK0] <;> rfl) ?_
  refine aops_end ?_
  refine awp_ret ?_
  exact hend _ _ rfl
theorem c50 (Γ : Nat → PV) (hΓ : Tab64 Γ) (ns : List (List UInt8)) (us : List Nat) (hw : W64 us) : Gives Tryz.prog Γ 50 [.agg [.vec (ns.map S1) false, .vec (us.map U1) false]] (.int .i64 (botV ns us)) := by
  have h15 := c59 Γ hΓ ns us hw
  refine fn_of_awp Tryz.func50 rfl (by simp [Tryz.f50]) rfl fun H => ?_
  refine awp_seq ?_
  refine awp_run rfl (by simp only [fwA, seval] <;> rfl) ?_
  refine awp_seq ?_
  refine awp_seq ?_
  cases hR : rightB ns us
  · rw [hR] at h15
    refine awp_region rfl ?_
    refine aops_run 1 (by simp only [fwA, seval, gfw, bx, dx, bitfw] <;> rfl) ?_
    refine aops_fn rfl rfl rfl en59 h15 ?_
    refine aops_run 1 (by simp only [fwA, seval, gfw, bx, dx, bitfw] <;> rfl) ?_
    refine aops_end ?_
    refine awp_cond (b := true) (by simp [alook, aput, ev]) ?_
    refine awp_seq ?_
    refine awp_run rfl (by simp only [fwA, seval] <;> rfl) ?_
    refine awp_ret ?_
    have e : botV ns us = -1 := by unfold botV; rw [if_neg (by rw [hR]; simp)]
    rw [e]
    exact gives_end (.inl rfl) _ rfl
  rw [hR] at h15
  obtain ⟨r1, r2, r3, r4, r5⟩ := right_spec hR
  have h45 := c96 Γ ns us (by omega)
  have h55 := c95 Γ us (2 ^ us.length - 1)
  rw [bot_idx r4 r5] at h55
  have e : botV ns us = oI (foldM us.length (lq us) us.length) := by unfold botV; rw [if_pos hR]
  rw [e]
  refine awp_region rfl ?_
  refine aops_run 1 (by simp only [fwA, seval, gfw, bx, dx, bitfw] <;> rfl) ?_
  refine aops_fn rfl rfl rfl en59 h15 ?_
  refine aops_run 1 (by simp only [fwA, seval, gfw, bx, dx, bitfw] <;> rfl) ?_
  refine aops_end ?_
  refine awp_cond (b := false) (by simp [alook, aput, ev]) (awp_skip ?_)
  refine awp_seq ?_
  refine awp_drawn [0, 1, 1, 0, 0, 0] [0, 1, 0, 4, 15, 31] mixed rfl (by kernel_rfl) ?_
  refine dops_run 3 (by simp only [fwA, seval, gfw, bx, dx, bitfw] <;> rfl) ?_
  refine dops_fn rfl (by simp only [fwA, seval] <;> rfl) rfl rfl en96 h45 ?_
  refine dops_fn rfl (by simp only [fwA, seval] <;> rfl) rfl rfl en95 h55 ?_
  refine dops_run 1 (by simp only [fwA, seval, gfw, bx, dx, bitfw] <;> rfl) ?_
  refine dops_end ?_
  refine awp_ret ?_
  exact gives_end (.inl rfl) _ rfl
theorem c79 (Γ : Nat → PV) (hΓ : Tab64 Γ) (ns : List (List UInt8)) (us : List Nat) (hw : W64 us) : Gives Tryz.prog Γ 79 [.agg [.vec (ns.map S1) false, .vec (us.map U1) false]] (.int .i64 (topV ns us)) := by
  have h15 := c59 Γ hΓ ns us hw
  refine fn_of_awp Tryz.func79 rfl (by simp [Tryz.f79]) rfl fun H => ?_
  refine awp_bd fun hbd0 => ?_
  refine awp_seq ?_
  refine awp_run rfl (by simp only [fwA, seval] <;> rfl) ?_
  refine awp_seq ?_
  refine awp_seq ?_
  cases hR : rightB ns us
  · rw [hR] at h15
    refine awp_region rfl ?_
    refine aops_run 1 (by simp only [fwA, seval, gfw, bx, dx, bitfw] <;> rfl) ?_
    refine aops_fn rfl rfl rfl en59 h15 ?_
    refine aops_run 1 (by simp only [fwA, seval, gfw, bx, dx, bitfw] <;> rfl) ?_
    refine aops_end ?_
    refine awp_cond (b := true) (by simp [alook, aput, ev]) ?_
    refine awp_seq ?_
    refine awp_run rfl (by simp only [fwA, seval] <;> rfl) ?_
    refine awp_ret ?_
    have e : topV ns us = -1 := by unfold topV; rw [if_neg (by rw [hR]; simp)]
    rw [e]
    exact gives_end (.inl rfl) _ rfl
  rw [hR] at h15
  obtain ⟨r1, r2, r3, r4, r5⟩ := right_spec hR
  have e : topV ns us = oI (foldM us.length (tr (lq us)) us.length) := by unfold topV; rw [if_pos hR]
  rw [e]
  refine awp_region rfl ?_
  refine aops_run 1 (by simp only [fwA, seval, gfw, bx, dx, bitfw] <;> rfl) ?_
  refine aops_fn rfl rfl rfl en59 h15 ?_
  refine aops_run 1 (by simp only [fwA, seval, gfw, bx, dx, bitfw] <;> rfl) ?_
  refine aops_end ?_
  refine awp_cond (b := false) (by simp [alook, aput, ev]) (awp_skip ?_)
  refine awp_seq ?_
  refine awp_region rfl ?_
  refine aops_run 2 (by simp only [fwA, seval, gfw, bx, dx, bitfw] <;> rfl) ?_
  have hc56 := c116 Γ 117 en117 [] (fun x => decide ((bitsOf x).length = 1)) us (H ++ [.box [.vec (ns.map S1) false, .vec (us.map U1) false]]) (fun x hx => c117 Γ x (hw x hx) _)
  rw [top_idx (by omega) r4 r5] at hc56
  refine aops_call rfl rfl rfl en116 (hc56.mono fun p H' hp => ?_)
  obtain ⟨rfl, rfl⟩ := hp
  refine aops_run 1 (by simp only [fwA, seval, gfw, bx, dx, bitfw] <;> rfl) ?_
  refine aops_end ?_
  refine awp_ret ?_
  exact gives_end (.inl rfl) _ rfl
set_option maxHeartbeats 1000000 in
theorem c56 (Γ : Nat → PV) (ns : List (List UInt8)) (us : List Nat) (hw : W64 us) : Gives Tryz.prog Γ 56 [.agg [.vec (ns.map S1) false, .vec (us.map U1) false]] (.int .i64 (botV ns us)) := by
  have h16 := c64 Γ ns us hw
  have h48 := c98 Γ ns us
  refine fn_of_awp Tryz.func56 rfl (by simp [Tryz.f56]) rfl fun H => ?_
  refine awp_seq ?_
  refine awp_run rfl (by simp only [fwA, seval] <;> rfl) ?_
  have hK0 : (H ++ [Blk.box [.vec (ns.map S1) false, .vec (us.map U1) false]])[H.length]? = some (.box [.vec (ns.map S1) false, .vec (us.map U1) false]) := by rw [Fw.get_at0]; rfl
  generalize hK : H ++ [Blk.box [.vec (ns.map S1) false, .vec (us.map U1) false]] = K at hK0 ⊢
  have hend : ∀ (A' : List (Nat × PV)) (v : Int), alook A' 2 = .int .i64 v → ((Exit.ret = .ret ∨ Exit.ret = .normal) ∧ ([] : List Nat).Nodup ∧ (∀ b ∈ ([] : List Nat), K[b]? = some .dfr ∧ H.length ≤ b) ∧ ares Tryz.prog Γ A' K Tryz.f56.results.toList = some (.int .i64 v) ∧ ∃ L', K = H ++ L') := fun A' v hv => by
    subst hK
    exact gives_end (.inl rfl) _ (by simp [ares, aresL, ares1, Tryz.f56, hv])
  refine awp_seq ?_
  refine awp_seq ?_
  cases hR : rightB ns us
  · rw [hR] at h16
    refine awp_region rfl ?_
    refine aops_run 1 (by simp only [fwA, seval, gfw, bx, dx, bitfw, hK0] <;> rfl) ?_
    refine aops_fn rfl rfl rfl en64 h16 ?_
    refine aops_run 1 (by simp only [fwA, seval, gfw, bx, dx, bitfw, hK0] <;> rfl) ?_
    refine aops_end ?_
    refine awp_cond (b := true) (by simp [alook, aput, ev]) ?_
    refine awp_seq ?_
    refine awp_run rfl (by simp only [fwA, seval] <;> rfl) ?_
    refine awp_ret ?_
    have e : botV ns us = -1 := by unfold botV; rw [if_neg (by rw [hR]; simp)]
    rw [e]
    exact hend _ _ rfl
  rw [hR] at h16
  obtain ⟨r1, r2, r3, r4, r5⟩ := right_spec hR
  have hmin : min ns.length us.length = us.length := by omega
  rw [hmin] at h48
  have e : botV ns us = oI (foldM us.length (lq us) us.length) := by unfold botV; rw [if_pos hR]
  rw [e]
  refine awp_region rfl ?_
  refine aops_run 1 (by simp only [fwA, seval, gfw, bx, dx, bitfw, hK0] <;> rfl) ?_
  refine aops_fn rfl rfl rfl en64 h16 ?_
  refine aops_run 1 (by simp only [fwA, seval, gfw, bx, dx, bitfw, hK0] <;> rfl) ?_
  refine aops_end ?_
  refine awp_cond (b := false) (by simp [alook, aput, ev]) (awp_skip ?_)
  refine awp_seq ?_
  refine awp_run rfl (by simp only [fwA, seval] <;> rfl) ?_
  refine awp_seq ?_
  refine awp_seq ?_
  refine awp_run rfl (by simp only [fwA, seval] <;> rfl) ?_
  refine awp_block ?_
  refine awp_for [1, 3, 4] (fun s : Nat × Nat => [.ptr H.length 0, .int .i64 (s.2 : Int), .int .i64 (s.1 : Int)]) (fun _ => K) (fun s => us.length - s.1) (fun s => s.1 ≤ us.length ∧ foldM us.length (lq us) s.1 = some s.2) (0, 0) rfl rfl ⟨Nat.zero_le _, rfl⟩ fun s hs => ?_
  obtain ⟨i, x⟩ := s
  obtain ⟨hil, hf⟩ := hs
  simp only at hil hf ⊢
  refine awp_seq ?_
  refine awp_seq ?_
  refine awp_region rfl ?_
  refine aops_run 2 (by simp only [fwA, seval, gfw, bx, dx, bitfw, hK0] <;> rfl) ?_
  refine aops_fn rfl rfl rfl en98 h48 ?_
  refine aops_run 1 (by simp only [fwA, seval, gfw, bx, dx, bitfw, hK0] <;> rfl) ?_
  refine aops_end ?_
  refine awp_cond (by simp only [fwA, seval] <;> rfl) ?_
  by_cases hc : (i : Int) < us.length
  rotate_left
  · simp only [hc, decide_false, Bool.false_eq_true, ↓reduceIte]
    refine awp_exit ?_
    have e2 : i = us.length := by omega
    rw [e2] at hf
    rw [hf]
    refine awp_seq ?_
    refine awp_run rfl (by simp only [fwA, seval] <;> rfl) ?_
    refine awp_ret ?_
    exact hend _ _ rfl
  simp only [hc, decide_true, ↓reduceIte]
  refine awp_skip ?_
  have hill : i < us.length := by omega
  have hwi : IntKind.i64.wrap ((i : Int) + 1) = ((i + 1 : Nat) : Int) := wrapS i (by omega)
  obtain ⟨x', q1, q2, _⟩ := foldM_spec r5 i hil
  obtain rfl : x' = x := Option.some.inj (q1.symm.trans hf)
  obtain ⟨y, q3, q4⟩ := r5.tr.join q2 hill
  have h54 := c99 Γ ns us hw r2 (by omega) x' i q2 hill
  rw [q3] at h54
  refine awp_seq ?_
  refine awp_block ?_
  refine awp_region rfl ?_
  refine aops_run 3 (by simp only [fwA, seval, gfw, bx, dx, bitfw, hK0] <;> rfl) ?_
  refine aops_fn rfl rfl rfl en99 h54 ?_
  refine aops_run 1 (by simp only [fwA, seval, gfw, bx, dx, bitfw, hK0] <;> rfl) ?_
  refine aops_end ?_
  refine awp_run rfl (by simp only [fwA, seval] <;> rfl) ?_
  refine ⟨(i + 1, y), by simp only; omega, ⟨by simp only; omega, by simp only; unfold foldM; rw [hf]; exact q3⟩, ?_, rfl, rfl⟩
  simp only [fwA, seval, gfw, hwi, oI]
end Go.Proofs.YteicbhkimepbaaaGreatDoor
namespace Go.Proofs.YteicbhkimepbaaaGreatDoor
set_option linter.unusedVariables false
set_option linter.unusedSimpArgs false
set_option maxRecDepth 100000
open Go.RowKit Fw
theorem join_nat {ns : List (List UInt8)} {us : List Nat} (hR : rightB ns us = true) {x y : Nat} (hx : x < us.length) (hy : y < us.length) : ∃ c : Nat, joinV ns us (x : Int) (y : Int) = (c : Int) ∧ IsJ us.length (lq us) x y c := by
  obtain ⟨r1, r2, r3, r4, r5⟩ := right_spec hR
  obtain ⟨c, h1, h2⟩ := r5.join hx hy
  refine ⟨c, ?_, h2⟩
  unfold joinV ptB
  rw [if_pos ⟨hR, by rw [decide_eq_true (by omega : (0 : Int) ≤ x), decide_eq_true (by omega : (x : Int) < ((min ns.length us.length : Nat) : Int))]; rfl, by rw [decide_eq_true (by omega : (0 : Int) ≤ y), decide_eq_true (by omega : (y : Int) < ((min ns.length us.length : Nat) : Int))]; rfl⟩, Int.toNat_natCast, Int.toNat_natCast, h1]; rfl
theorem bot_nat {ns : List (List UInt8)} {us : List Nat} (hR : rightB ns us = true) : ∃ c : Nat, botV ns us = (c : Int) ∧ IsBot us.length (lq us) c := by
  obtain ⟨r1, r2, r3, r4, r5⟩ := right_spec hR
  obtain ⟨c, h1, h2⟩ := r5.bot
  exact ⟨c, by unfold botV; rw [if_pos hR, h1]; rfl, h2⟩
end Go.Proofs.YteicbhkimepbaaaGreatDoor
namespace Go.Proofs.YteicbhkimepbaaaGreatDoor.Fw
set_option linter.unusedVariables false
set_option linter.unusedSimpArgs false
set_option maxRecDepth 100000
open Go.RowKit
open Go.Sort (putCells putRow mapBlock onCells)
theorem Sim.grown {Γ : Nat → PV} {w0 w w' : World} {G : Ghost} {H : List Blk} (h : Sim Γ w0 G H w) (hb : BelowD w.heap.size w w') : Sim Γ w0 G H w' :=
  h.step (Evol.refl _ _) (fun _ _ => rfl) (h.below.trans ⟨hb.os, hb.tape, hb.output, hb.size, fun k hk => hb.block k (Nat.lt_of_lt_of_le hk h.size), hb.drawn⟩) hb.size (fun k B hB hl => hb.block _ (h.own k B hB hl).2.1)
    (fun a v ha => by
      have := h.mem a v ha
      rw [cell_of_heap (w := w) (hb.block _ (World.block_lt_of_cell? w a this))]; exact this)
    (fun k B hB hl => (h.own k B hB hl).2.2)
theorem Sim.drawn {Γ : Nat → PV} {w0 w : World} {G : Ghost} {H : List Blk} (h : Sim Γ w0 G H w) (n : Nat) : Sim Γ w0 G H (Sort.ahead w n) :=
  h.grown ⟨rfl, rfl, rfl, Nat.le_refl _, fun _ _ => rfl, Nat.le_add_right _ _⟩
theorem putCells_enc {X : Type} [Inhabited X] (enc : X → Value) (off : Nat) (d : Array X) (c : Array Value) : putCells enc off d c = putCells id off (d.map enc) c := by
  apply Array.ext_getElem?
  intro k
  simp only [putCells, Array.getElem?_mapIdx, Array.size_map]
  cases c[k]? with
  | none => rfl
  | some y =>
    simp only [Option.map_some]
    split
    · rename_i h
      rw [getElem!_pos d (k - off) (by omega), getElem!_pos (d.map enc) (k - off) (by simp; omega)]
      simp
    · rfl
theorem putRow_enc {X : Type} [Inhabited X] (enc : X → Value) (w : World) (blk off : Nat) (d : Array X) : putRow enc w blk off d = putRow id w blk off (d.map enc) := by
  unfold putRow mapBlock
  rw [show putCells enc off d = putCells id off (d.map enc) from funext fun c => putCells_enc enc off d c]
theorem Sim.putRow0 {Γ : Nat → PV} {w0 w : World} {G : Ghost} {H : List Blk} {b sz : Nat} {cs ys : List PV} {vs : Array Value} (h : Sim Γ w0 G H w) (hb : H[b]? = some (.row sz cs)) (hsub : (G.info b).sub = 0) (hpos : 0 < (G.info b).size) (hl : ys.length = cs.length)
    (hr : Reps G H.length ys vs.toList) (h1 : ∀ (j : Nat) u, vs[j]? = some u → u.oneCell' = true) : Sim Γ w0 G (H.set b (.row sz ys)) (putRow id w (G.info b).blk 0 vs) := by
  obtain ⟨k1, k2, k3, k4, k5, k6⟩ := h.blk b _ hb
  obtain ⟨kz, _⟩ | ⟨_, C, e, k7, k8, k9, k10⟩ := k6
  · omega
  have hvs : vs.size = ys.length := by have := hr.1; simp at this; omega
  refine h.setSame hb (by simpa [Blk.live] using hpos) (fun k hk => ?_) (by simp [putRow, mapBlock]) ⟨rfl, rfl, rfl, rfl⟩ ⟨k1, by omega, k3, by omega, hr.bound, .inr ⟨hpos, putCells id 0 vs C, e, ?_, by simpa [putCells] using k8, by simp [putCells]; omega, fun j c u hc hu => ?_⟩⟩
  · simp only [putRow, mapBlock, Array.getElem?_modify]
    rw [if_neg (Ne.symm hk)]
  · simp only [putRow, mapBlock, Array.getElem?_modify, if_pos, k7, Option.map_some, onCells]
  · rw [hsub, Nat.zero_add] at hc
    have hj := (List.getElem?_eq_some_iff.1 hc).1
    simp only [putCells, Array.getElem?_mapIdx] at hu
    obtain ⟨x, hx, rfl⟩ := Option.map_eq_some_iff.1 hu
    rw [if_pos ⟨Nat.zero_le _, by omega⟩]
    have hv : vs[j]? = some (id vs[j - 0]!) := by
      rw [Nat.sub_zero, Array.getElem?_eq_getElem (by omega)]
      congr 1
      exact (getElem!_pos vs j (by omega)).symm
    exact ⟨hr.2 j c _ hc (by rw [Array.getElem?_toList]; exact hv), h1 j _ hv⟩
theorem Sim.rowCells {Γ : Nat → PV} {w0 w : World} {G : Ghost} {H : List Blk} {b k sz : Nat} {cs : List PV} {v : Value} (h : Sim Γ w0 G H w) (hb : H[b]? = some (.row sz cs)) (hlen : cs.length = k * sz) (hv : Rep G H.length (.row b 0 k sz) v) :
    ∃ ad cap, v = .slice ad k cap ∧ (k = 0 ∨ (ad = some ⟨(G.info b).blk, 0, none⟩ ∧ (G.info b).sub = 0 ∧ 0 < (G.info b).size ∧ (G.info b).blk < w.heap.size ∧
      ∀ (j : Nat) c, cs[j]? = some c → ∃ u, w.cell? ⟨(G.info b).blk, j, none⟩ = some u ∧ w.frozen? ⟨(G.info b).blk, j, none⟩ = false ∧ Rep G H.length c u ∧ u.oneCell' = true)) := by
  obtain ⟨ad, cap, rfl, _, _, h3, h4⟩ := hv.row_inv
  refine ⟨ad, cap, rfl, ?_⟩
  obtain rfl | hk := Nat.eq_zero_or_pos k
  · exact .inl rfl
  obtain ⟨k1, k2, k3, k4, k5, k6⟩ := h.blk b _ hb
  obtain ⟨q1, q2⟩ := h4 (by omega)
  have q2' : (G.info b).sub ≤ 0 ∧ ad = some ⟨(G.info b).blk, 0 - (G.info b).sub, none⟩ := by
    rcases q2 with ⟨q2, q3, q4⟩ | ⟨q2, _⟩
    · exact ⟨q2, q3⟩
    · omega
  obtain ⟨q2, q3⟩ := q2'
  have hpos : 0 < k * sz := Nat.mul_pos hk k3
  obtain ⟨kz, kl⟩ | ⟨hp, C, e, k7, k8, k9, k10⟩ := k6
  · omega
  have hs0 : (G.info b).sub = 0 := by omega
  refine .inr ⟨by rw [q3]; simp, hs0, hp, (h.own b _ hb (by simpa [Blk.live] using hp)).2.1, fun j c hc => ?_⟩
  have hj := (List.getElem?_eq_some_iff.1 hc).1
  have hjC : j < C.size := by omega
  obtain ⟨g1, g2⟩ := k10 j c C[j] (by rw [hs0, Nat.zero_add]; exact hc) (Array.getElem?_eq_getElem hjC)
  refine ⟨C[j], ?_, ?_, g1, g2⟩
  · simp [World.cell?, k7, hjC]
  · simp [World.frozen?, k7]
end Go.Proofs.YteicbhkimepbaaaGreatDoor.Fw
namespace Go.Proofs.YteicbhkimepbaaaGreatDoor
set_option linter.unusedVariables false
set_option linter.unusedSimpArgs false
set_option maxRecDepth 100000
open Go.RowKit Go.Shelf
def sort55_ren : Go.Shelf.Ren := { f := fun x => match x with | 5 => 132 | 8 => 125 | 7 => 150 | 19 => 144 | 20 => 145 | 10 => 165 | 11 => 166 | 12 => 167 | 13 => 168 | 14 => 169 | 15 => 170 | 16 => 171 | 17 => 172 | 18 => 173 | 30 => 178 | 31 => 161 | 32 => 162 | 33 => 179 | 34 => 180 | 35 => 181 | 40 => 183 | n => n, t := fun x => match x with | 23 => 59 | 25 => 3 | 3 => 3 | 32 => 152 | 22 => 59 | 0 => 0 | 44 => 172 | 46 => 125 | 4 => 4 | 36 => 166 | 35 => 165 | 41 => 134 | 5 => 5 | 9 => 9 | 53 => 181 | 57 => 184 | 63 => 195 | 64 => 196 | n => n, g := fun x => have n := x; n }
theorem sort55 : Go.Proofs.SlLaysM.n5 Tryz.prog sort55_ren where
  mixed := by kernel_rfl
  f5 := ⟨"slices.Sort[[]int,int]", of_decide_eq_true (by kernel_rfl), Tryz.func132.trans (congrArg some (by kernel_rfl))⟩
  f7 := ⟨"slices.pdqsortOrdered[int]", of_decide_eq_true (by kernel_rfl), Tryz.func150.trans (congrArg some (by kernel_rfl))⟩
  f8 := Tryz.func125.trans (congrArg some (by kernel_rfl))
  f10 := ⟨"slices.insertionSortOrdered[int]", of_decide_eq_true (by kernel_rfl), Tryz.func165.trans (congrArg some (by kernel_rfl))⟩
  f11 := ⟨"slices.heapSortOrdered[int]", of_decide_eq_true (by kernel_rfl), Tryz.func166.trans (congrArg some (by kernel_rfl))⟩
  f12 := ⟨"slices.breakPatternsOrdered[int]", of_decide_eq_true (by kernel_rfl), Tryz.func167.trans (congrArg some (by kernel_rfl))⟩
  f13 := ⟨"slices.choosePivotOrdered[int]", of_decide_eq_true (by kernel_rfl), Tryz.func168.trans (congrArg some (by kernel_rfl))⟩
  f14 := ⟨"slices.reverseRangeOrdered[int]", of_decide_eq_true (by kernel_rfl), Tryz.func169.trans (congrArg some (by kernel_rfl))⟩
  f15 := ⟨"slices.partialInsertionSortOrdered[int]", of_decide_eq_true (by kernel_rfl), Tryz.func170.trans (congrArg some (by kernel_rfl))⟩
  f16 := ⟨"cmp.Less[int]", of_decide_eq_true (by kernel_rfl), Tryz.func171.trans (congrArg some (by kernel_rfl))⟩
  f17 := ⟨"slices.partitionEqualOrdered[int]", of_decide_eq_true (by kernel_rfl), Tryz.func172.trans (congrArg some (by kernel_rfl))⟩
  f18 := ⟨"slices.partitionOrdered[int]", of_decide_eq_true (by kernel_rfl), Tryz.func173.trans (congrArg some (by kernel_rfl))⟩
  f19 := Tryz.func144.trans (congrArg some (by kernel_rfl))
  f20 := Tryz.func145.trans (congrArg some (by kernel_rfl))
  f30 := ⟨"slices.siftDownOrdered[int]", of_decide_eq_true (by kernel_rfl), Tryz.func178.trans (congrArg some (by kernel_rfl))⟩
  f31 := Tryz.func161.trans (congrArg some (by kernel_rfl))
  f32 := Tryz.func162.trans (congrArg some (by kernel_rfl))
  f33 := ⟨"slices.medianAdjacentOrdered[int]", of_decide_eq_true (by kernel_rfl), Tryz.func179.trans (congrArg some (by kernel_rfl))⟩
  f34 := ⟨"slices.medianOrdered[int]", of_decide_eq_true (by kernel_rfl), Tryz.func180.trans (congrArg some (by kernel_rfl))⟩
  f35 := ⟨"cmp.isNaN[int]", of_decide_eq_true (by kernel_rfl), Tryz.func181.trans (congrArg some (by kernel_rfl))⟩
  f40 := ⟨"slices.order2Ordered[int]", of_decide_eq_true (by kernel_rfl), Tryz.func183.trans (congrArg some (by kernel_rfl))⟩
  t0 := Tryz.underlying0
  a0 := Tryz.isAgg0
  z0 := Tryz.sizeOf0
  v0 := Tryz.zeroValue0
  t3 := Tryz.underlying3
  a3 := Tryz.isAgg3
  z3 := Tryz.sizeOf3
  v3 := Tryz.zeroValue3
  t4 := Tryz.underlying4
  a4 := Tryz.isAgg4
  z4 := Tryz.sizeOf4
  v4 := Tryz.zeroValue4
  t5 := Tryz.underlying5
  a5 := Tryz.isAgg5
  z5 := Tryz.sizeOf5
  v5 := Tryz.zeroValue5
  t9 := Tryz.underlying9
  a9 := Tryz.isAgg9
  z9 := Tryz.sizeOf9
  v9 := Tryz.zeroValue9
  t22 := Tryz.underlying59
  a22 := Tryz.isAgg59
  z22 := Tryz.sizeOf59
  v22 := Tryz.zeroValue59
  t23 := Tryz.underlying59
  a23 := Tryz.isAgg59
  z23 := Tryz.sizeOf59
  v23 := Tryz.zeroValue59
  t25 := Tryz.underlying3
  a25 := Tryz.isAgg3
  z25 := Tryz.sizeOf3
  v25 := Tryz.zeroValue3
  t32 := Tryz.underlying152
  a32 := Tryz.isAgg152
  z32 := Tryz.sizeOf152
  v32 := Tryz.zeroValue152
  t35 := Tryz.underlying165
  a35 := Tryz.isAgg165
  z35 := Tryz.sizeOf165
  v35 := Tryz.zeroValue165
  t36 := Tryz.underlying166
  a36 := Tryz.isAgg166
  z36 := Tryz.sizeOf166
  v36 := Tryz.zeroValue166
  t41 := Tryz.underlying134
  a41 := Tryz.isAgg134
  z41 := Tryz.sizeOf134
  v41 := Tryz.zeroValue134
  t44 := Tryz.underlying172
  a44 := Tryz.isAgg172
  z44 := Tryz.sizeOf172
  v44 := Tryz.zeroValue172
  t46 := Tryz.underlying125
  a46 := Tryz.isAgg125
  z46 := Tryz.sizeOf125
  v46 := Tryz.zeroValue125
  t53 := Tryz.underlying181
  a53 := Tryz.isAgg181
  z53 := Tryz.sizeOf181
  v53 := Tryz.zeroValue181
  t57 := Tryz.underlying184
  a57 := Tryz.isAgg184
  z57 := Tryz.sizeOf184
  v57 := Tryz.zeroValue184
  t63 := Tryz.underlying195
  a63 := Tryz.isAgg195
  z63 := Tryz.sizeOf195
  v63 := Tryz.zeroValue195
  t64 := Tryz.underlying196
  a64 := Tryz.isAgg196
  z64 := Tryz.sizeOf196
  v64 := Tryz.zeroValue196
def sort53_ren : Go.Shelf.Ren := { f := fun x => match x with | 5 => 122 | 8 => 125 | 7 => 135 | 19 => 144 | 20 => 145 | 10 => 151 | 11 => 152 | 12 => 153 | 13 => 154 | 14 => 155 | 15 => 156 | 16 => 157 | 17 => 158 | 18 => 159 | 30 => 174 | 31 => 161 | 32 => 162 | 33 => 175 | 34 => 176 | 35 => 146 | 40 => 182 | n => n, t := fun x => match x with | 23 => 49 | 25 => 28 | 3 => 3 | 32 => 152 | 22 => 49 | 0 => 0 | 44 => 172 | 46 => 125 | 4 => 4 | 36 => 166 | 35 => 165 | 41 => 134 | 5 => 5 | 9 => 9 | 53 => 181 | 57 => 184 | 63 => 195 | 64 => 196 | n => n, g := fun x => have n := x; n }
theorem sort53 : Go.Proofs.SlLaysM.n5 Tryz.prog sort53_ren where
  mixed := by kernel_rfl
  f5 := ⟨"slices.Sort[[]chancel/atom.Atom,chancel/atom.Atom]", of_decide_eq_true (by kernel_rfl), Tryz.func122.trans (congrArg some (by kernel_rfl))⟩
  f7 := ⟨"slices.pdqsortOrdered[chancel/atom.Atom]", of_decide_eq_true (by kernel_rfl), Tryz.func135.trans (congrArg some (by kernel_rfl))⟩
  f8 := Tryz.func125.trans (congrArg some (by kernel_rfl))
  f10 := ⟨"slices.insertionSortOrdered[chancel/atom.Atom]", of_decide_eq_true (by kernel_rfl), Tryz.func151.trans (congrArg some (by kernel_rfl))⟩
  f11 := ⟨"slices.heapSortOrdered[chancel/atom.Atom]", of_decide_eq_true (by kernel_rfl), Tryz.func152.trans (congrArg some (by kernel_rfl))⟩
  f12 := ⟨"slices.breakPatternsOrdered[chancel/atom.Atom]", of_decide_eq_true (by kernel_rfl), Tryz.func153.trans (congrArg some (by kernel_rfl))⟩
  f13 := ⟨"slices.choosePivotOrdered[chancel/atom.Atom]", of_decide_eq_true (by kernel_rfl), Tryz.func154.trans (congrArg some (by kernel_rfl))⟩
  f14 := ⟨"slices.reverseRangeOrdered[chancel/atom.Atom]", of_decide_eq_true (by kernel_rfl), Tryz.func155.trans (congrArg some (by kernel_rfl))⟩
  f15 := ⟨"slices.partialInsertionSortOrdered[chancel/atom.Atom]", of_decide_eq_true (by kernel_rfl), Tryz.func156.trans (congrArg some (by kernel_rfl))⟩
  f16 := ⟨"cmp.Less[chancel/atom.Atom]", of_decide_eq_true (by kernel_rfl), Tryz.func157.trans (congrArg some (by kernel_rfl))⟩
  f17 := ⟨"slices.partitionEqualOrdered[chancel/atom.Atom]", of_decide_eq_true (by kernel_rfl), Tryz.func158.trans (congrArg some (by kernel_rfl))⟩
  f18 := ⟨"slices.partitionOrdered[chancel/atom.Atom]", of_decide_eq_true (by kernel_rfl), Tryz.func159.trans (congrArg some (by kernel_rfl))⟩
  f19 := Tryz.func144.trans (congrArg some (by kernel_rfl))
  f20 := Tryz.func145.trans (congrArg some (by kernel_rfl))
  f30 := ⟨"slices.siftDownOrdered[chancel/atom.Atom]", of_decide_eq_true (by kernel_rfl), Tryz.func174.trans (congrArg some (by kernel_rfl))⟩
  f31 := Tryz.func161.trans (congrArg some (by kernel_rfl))
  f32 := Tryz.func162.trans (congrArg some (by kernel_rfl))
  f33 := ⟨"slices.medianAdjacentOrdered[chancel/atom.Atom]", of_decide_eq_true (by kernel_rfl), Tryz.func175.trans (congrArg some (by kernel_rfl))⟩
  f34 := ⟨"slices.medianOrdered[chancel/atom.Atom]", of_decide_eq_true (by kernel_rfl), Tryz.func176.trans (congrArg some (by kernel_rfl))⟩
  f35 := ⟨"cmp.isNaN[chancel/atom.Atom]", of_decide_eq_true (by kernel_rfl), Tryz.func146.trans (congrArg some (by kernel_rfl))⟩
  f40 := ⟨"slices.order2Ordered[chancel/atom.Atom]", of_decide_eq_true (by kernel_rfl), Tryz.func182.trans (congrArg some (by kernel_rfl))⟩
  t0 := Tryz.underlying0
  a0 := Tryz.isAgg0
  z0 := Tryz.sizeOf0
  v0 := Tryz.zeroValue0
  t3 := Tryz.underlying3
  a3 := Tryz.isAgg3
  z3 := Tryz.sizeOf3
  v3 := Tryz.zeroValue3
  t4 := Tryz.underlying4
  a4 := Tryz.isAgg4
  z4 := Tryz.sizeOf4
  v4 := Tryz.zeroValue4
  t5 := Tryz.underlying5
  a5 := Tryz.isAgg5
  z5 := Tryz.sizeOf5
  v5 := Tryz.zeroValue5
  t9 := Tryz.underlying9
  a9 := Tryz.isAgg9
  z9 := Tryz.sizeOf9
  v9 := Tryz.zeroValue9
  t22 := Tryz.underlying49
  a22 := Tryz.isAgg49
  z22 := Tryz.sizeOf49
  v22 := Tryz.zeroValue49
  t23 := Tryz.underlying49
  a23 := Tryz.isAgg49
  z23 := Tryz.sizeOf49
  v23 := Tryz.zeroValue49
  t25 := Tryz.underlying28
  a25 := Tryz.isAgg28
  z25 := Tryz.sizeOf28
  v25 := Tryz.zeroValue28
  t32 := Tryz.underlying152
  a32 := Tryz.isAgg152
  z32 := Tryz.sizeOf152
  v32 := Tryz.zeroValue152
  t35 := Tryz.underlying165
  a35 := Tryz.isAgg165
  z35 := Tryz.sizeOf165
  v35 := Tryz.zeroValue165
  t36 := Tryz.underlying166
  a36 := Tryz.isAgg166
  z36 := Tryz.sizeOf166
  v36 := Tryz.zeroValue166
  t41 := Tryz.underlying134
  a41 := Tryz.isAgg134
  z41 := Tryz.sizeOf134
  v41 := Tryz.zeroValue134
  t44 := Tryz.underlying172
  a44 := Tryz.isAgg172
  z44 := Tryz.sizeOf172
  v44 := Tryz.zeroValue172
  t46 := Tryz.underlying125
  a46 := Tryz.isAgg125
  z46 := Tryz.sizeOf125
  v46 := Tryz.zeroValue125
  t53 := Tryz.underlying181
  a53 := Tryz.isAgg181
  z53 := Tryz.sizeOf181
  v53 := Tryz.zeroValue181
  t57 := Tryz.underlying184
  a57 := Tryz.isAgg184
  z57 := Tryz.sizeOf184
  v57 := Tryz.zeroValue184
  t63 := Tryz.underlying195
  a63 := Tryz.isAgg195
  z63 := Tryz.sizeOf195
  v63 := Tryz.zeroValue195
  t64 := Tryz.underlying196
  a64 := Tryz.isAgg196
  z64 := Tryz.sizeOf196
  v64 := Tryz.zeroValue196
end Go.Proofs.YteicbhkimepbaaaGreatDoor
namespace Go.Proofs.YteicbhkimepbaaaGreatDoor
set_option linter.unusedVariables false
set_option linter.unusedSimpArgs false
set_option maxRecDepth 100000
open Go.RowKit Go.Shelf Fw
def leI (x y : Int) : Bool := decide (x ≤ y)
theorem flatI (zs : List Int) : (zs.map I1).flatten = zs.map (PV.int .i64) := by
  induction zs with
  | nil => rfl
  | cons z zs ih => rw [List.map_cons, List.flatten_cons, ih]; rfl
theorem sortInts {ρ : Ren} (L : SlLaysM.n5 Tryz.prog ρ) (Γ : Nat → PV) (H : List Blk) (b : Nat) (zs : List Int) (hb : H[b]? = some (.row 1 ((zs.map I1).flatten))) (hlen : zs.length ≤ 1000000000000) :
    ACalls Tryz.prog Γ (ρ.f 5) [.row b 0 zs.length 1] H (fun p H' => p = .tup [] ∧ H' = H.set b (.row 1 (((zs.mergeSort leI).map I1).flatten))) := by
  intro w0 G w us hs hr
  obtain ⟨l⟩ := us
  obtain ⟨v, vs, rfl, r1, r2⟩ := hr.cons_inv
  have : vs = [] := by have := r2.1; simpa using this.symm
  subst this
  rw [flatI] at hb
  rw [flatI]
  have hms : (fun x y : Int => decide (x ≤ y)) = leI := rfl
  have hml : (zs.mergeSort leI).length = zs.length := List.length_mergeSort _
  obtain ⟨ad, cap, rfl, hcase⟩ := hs.rowCells hb (by simp) r1
  rcases hcase with h0 | ⟨rfl, hsub, hpos, hblk, hcells⟩
  · obtain rfl := List.eq_nil_of_length_eq_zero h0
    refine callsIn_wide.2 ((AnyM.slices_Sort_int_none L ad cap w).mono fun e w' hq => ?_)
    obtain ⟨rfl, rfl⟩ := hq
    refine ⟨_, _, H, G, rfl, hs, .tup _ _ _ rfl (fun i c v h => by simp at h), Evol.refl _ _, Nat.le_refl _, rfl, ?_⟩
    obtain ⟨g1, g2⟩ := List.getElem?_eq_some_iff.1 hb
    show H = H.set b _
    rw [List.mergeSort_nil, ← g2]
    exact (List.set_getElem_self _).symm
  · have hH : Sort.Holds (Value.int .i64) w (G.info b).blk 0 zs.toArray := fun j hj => by
      have hj' : j < zs.length := by simpa using hj
      obtain ⟨u, g1, g2, g3, _⟩ := hcells j (.int .i64 zs[j]) (by rw [List.getElem?_map, List.getElem?_eq_getElem hj']; rfl)
      rw [Nat.zero_add, g1, g2, g3.int_inv, getElem!_pos zs.toArray j hj]
      exact ⟨rfl, rfl⟩
    refine callsIn_wide.2 ((AnyM.slices_Sort_int L (G.info b).blk 0 cap zs w hH hblk (by omega)).mono fun e w' hq => ?_)
    obtain ⟨rfl, n, os, rfl⟩ := hq
    rw [hms, putRow_enc]
    have hr' : Reps G H.length ((zs.mergeSort leI).map (PV.int .i64)) ((zs.mergeSort leI).toArray.map (Value.int .i64)).toList := by
      refine ⟨by simp, fun i p v h1 h2 => ?_⟩
      simp only [Array.toList_map, List.getElem?_map] at h1 h2
      obtain ⟨x, hx, rfl⟩ := Option.map_eq_some_iff.1 h1
      rw [hx] at h2
      simp at h2
      subst h2
      exact .int _ _ _
    have hsim := ((hs.drawn n).putRow0 hb hsub hpos (ys := (zs.mergeSort leI).map (PV.int .i64)) (by simp [hml]) hr' (fun j u hu => by
      simp only [Array.getElem?_map] at hu
      obtain ⟨x, _, rfl⟩ := Option.map_eq_some_iff.1 hu
      rfl)).grow 0 os
    refine ⟨_, _, _, G, rfl, hsim, .tup _ _ _ rfl (fun i c v h => by simp at h), Evol.refl _ _, by simp, rfl, rfl⟩
end Go.Proofs.YteicbhkimepbaaaGreatDoor
namespace Go.Proofs.YteicbhkimepbaaaGreatDoor.Dr
set_option linter.unusedVariables false
set_option linter.unusedSimpArgs false
set_option maxRecDepth 100000
open Go.RowKit Go.Proofs.YteicbhkimepbaaaGreatDoor.Fw
def cmpI (a b : Int) : Int := if a < b then -1 else if b < a then 1 else 0
def orI (a b : Int) : Int := if a = 0 then b else a
def cmpP (a b c d : Int) : Int := orI (cmpI a c) (cmpI b d)
end Go.Proofs.YteicbhkimepbaaaGreatDoor.Dr
namespace Go.Proofs.YteicbhkimepbaaaGreatDoor
set_option linter.unusedVariables false
set_option linter.unusedSimpArgs false
set_option maxRecDepth 100000
open Go.RowKit Go.Shelf
def sort41_ren : Go.Shelf.Ren := { f := fun x => match x with | 6 => 91 | 15 => 125 | 14 => 124 | 28 => 144 | 29 => 145 | 20 => 136 | 21 => 137 | 22 => 138 | 23 => 139 | 24 => 140 | 25 => 141 | 26 => 142 | 27 => 143 | 46 => 160 | 47 => 161 | 48 => 162 | 49 => 163 | 50 => 164 | 57 => 177 | n => n, t := fun x => match x with | 22 => 26 | 24 => 70 | 25 => 130 | 3 => 3 | 39 => 152 | 0 => 0 | 53 => 172 | 55 => 125 | 4 => 4 | 46 => 166 | 45 => 165 | 50 => 134 | 5 => 5 | 9 => 9 | 66 => 181 | 70 => 184 | 76 => 195 | 77 => 196 | n => n, g := fun x => have n := x; n }
end Go.Proofs.YteicbhkimepbaaaGreatDoor
namespace Go.Proofs.YteicbhkimepbaaaGreatDoor
set_option linter.unusedVariables false
set_option linter.unusedSimpArgs false
set_option maxRecDepth 100000
open Go.RowKit Go.Shelf Fw
open Go.Sort (flatK get_flatK size_flatK HoldsK)
def leP (x y : Pr) : Bool := decide (x.a < y.a ∨ (x.a = y.a ∧ x.b ≤ y.b))
def cmpPr (x y : Pr) : Int := Dr.cmpP x.a x.b y.a y.b
def encV (x : Pr) : List Value := [.int .i64 x.a, .int .i64 x.b]
end Go.Proofs.YteicbhkimepbaaaGreatDoor
namespace Go.Proofs.YteicbhkimepbaaaGreatDoor.Fw
set_option linter.unusedVariables false
set_option linter.unusedSimpArgs false
set_option maxRecDepth 100000
open Go.RowKit
theorem rep_flat {X : Type} (z : List X) (h0 : 0 < z.length) : ∀ (k j : Nat), j < k * z.length → (List.replicate k z).flatten[j]? = z[j % z.length]?
  | 0, j, hj => by omega
  | k + 1, j, hj => by
    rw [List.replicate_succ, List.flatten_cons]
    by_cases h : j < z.length
    · rw [List.getElem?_append_left h, Nat.mod_eq_of_lt h]
    · rw [List.getElem?_append_right (by omega), rep_flat z h0 k (j - z.length) (by rw [Nat.add_mul] at hj; omega)]
      congr 1
      exact (Nat.mod_eq_sub_mod (by omega)).symm
theorem rep_len {X : Type} (z : List X) (k : Nat) : (List.replicate k z).flatten.length = k * z.length := by
  induction k with
  | zero => simp
  | succ k ih => rw [List.replicate_succ, List.flatten_cons, List.length_append, ih, Nat.add_mul]; omega
section
variable {P : Program} {Γ : Nat → PV} {o : Oper} {A : List (Nat × PV)} {H : List Blk} {K : PV → List Blk → Prop}
theorem os_sliceSuf {t : TypeId} {x lo : Operand} {kk : IntKind} {b q k sz by' l : Nat} {cs : List PV} (ho : o.op = .slice t x (some lo) none none) (ht : elOf P t = some (sz, by')) (hx : ev Γ A x = .row b q k sz) (hlo : ev Γ A lo = .int kk l) (hl : l ≤ k)
    (hb : H[b]? = some (.row sz cs)) (hlen : cs.length = q + k * sz) (hk : K (.row b (q + l * sz) (k - l) sz) H) : OStep P Γ o A H K :=
  ostep_pure (by simp [ho]) _ hk fun w0 G w N a hs ha => by
    have h1 := ha.ev hs.glob x
    rw [hx] at h1
    have hlr := ha.ev hs.glob lo
    rw [hlo] at hlr
    have hlv := hlr.int_inv
    obtain ⟨te, i, hu, hinf, rfl, _⟩ := elOf_spec ht
    obtain ⟨_, hbl, _, hsub, _, _⟩ := hs.blk b _ hb
    have hkn := h1.row_len
    obtain ⟨ad, cap, hax, hlt, hr, hle, had⟩ := h1.row_inv
    obtain ⟨hcap, hcase⟩ := had (by omega)
    have hmul : l * i.size + (k - l) * i.size = k * i.size := by rw [← Nat.add_mul]; congr 1; omega
    refine ⟨.slice (if cap = l then ad else ad.map (·.add (l * i.size))) (k - l) (cap - l), ?_, .row _ _ _ _ _ _ _ (by omega) hlt hr (by omega) fun _ => ⟨by omega, ?_⟩⟩
    · have hbd : (Instr.sliceBounds true k cap (some (.int kk l)) none none).run P w = .ok (l, k, cap) w := by
        simp [Instr.sliceBounds, Instr.sliceBound, asIntOf, hl]
      simp [execOp, ho, Instr.sliceAt, Instr.slice, run_under hu, hax, hlv, hbd, run_size hinf]
    · by_cases hcl : cap = l
      · rw [if_pos hcl]; exact .inr ⟨by omega, by omega⟩
      · rw [if_neg hcl]
        rcases hcase with ⟨h2, rfl, h3⟩ | ⟨h2, h3⟩
        · refine .inl ⟨by omega, ?_, ?_⟩
          · rw [Option.map_some, Fw.add_at]
            congr 2
            omega
          · have : (cap - l) * i.size + l * i.size = cap * i.size := by rw [← Nat.add_mul]; congr 1; omega
            omega
        · omega
theorem os_slicePre {t : TypeId} {x hi : Operand} {kk : IntKind} {b q k sz by' h : Nat} {cs : List PV} (ho : o.op = .slice t x none (some hi) none) (ht : elOf P t = some (sz, by')) (hx : ev Γ A x = .row b q k sz) (hhi : ev Γ A hi = .int kk h) (hh : h ≤ k)
    (hb : H[b]? = some (.row sz cs)) (hlen : cs.length = q + k * sz) (hk : K (.row H.length q h sz) (H.set b .dead ++ [.row sz (cs.take (q + h * sz))])) : OStep P Γ o A H K :=
  ostep_value (by simp [ho]) fun w0 G w N a hs ha => by
    have h1 := ha.ev hs.glob x
    rw [hx] at h1
    have hlr := ha.ev hs.glob hi
    rw [hhi] at hlr
    have hlv := hlr.int_inv
    obtain ⟨te, i, hu, hinf, rfl, _⟩ := elOf_spec ht
    obtain ⟨hisr, hbl, hsz0, hsub, hbdc, hrest⟩ := hs.blk b _ hb
    have hblt := (List.getElem?_eq_some_iff.1 hb).1
    have hkn := h1.row_len
    obtain ⟨ad, cap, hax, hlt, hr, hle, had⟩ := h1.row_inv
    obtain ⟨hcap, hcase⟩ := had (by omega)
    have hmul : h * i.size ≤ k * i.size := Nat.mul_le_mul_right _ hh
    have hsubq : (G.info b).sub ≤ q + h * i.size := by
      rcases hcase with ⟨h2, _⟩ | ⟨h2, h3⟩
      · omega
      · subst h2; rw [Nat.zero_mul] at hlen; omega
    have htl : (cs.take (q + h * i.size)).length = q + h * i.size := by rw [List.length_take]; omega
    let inf : Info := { (G.info b) with len := q + h * i.size }
    let G' := G.setInfo H.length inf
    have he : Evol G H.length G' := Evol.setInfo_new G H.length inf
    have hi' : ∀ j, j < H.length → G'.info j = G.info j := fun j hj => G.setInfo_other inf (by omega)
    have hlast : G'.info H.length = inf := G.setInfo_same ..
    have hL : (H.set b Blk.dead ++ [Blk.row i.size (cs.take (q + h * i.size))]).length = H.length + 1 := by simp
    have key : ∀ (j : Nat) B, (H.set b Blk.dead ++ [Blk.row i.size (cs.take (q + h * i.size))])[j]? = some B → (j ≠ b ∧ j < H.length ∧ H[j]? = some B) ∨ (j = b ∧ B = .dead) ∨ (j = H.length ∧ B = .row i.size (cs.take (q + h * i.size))) := fun j B hB => by
      by_cases hj : j < H.length
      · rw [List.getElem?_append_left (by simpa using hj)] at hB
        by_cases e : j = b
        · subst e; rw [List.getElem?_set_self hj] at hB; exact .inr (.inl ⟨rfl, (Option.some.inj hB).symm⟩)
        · rw [List.getElem?_set_ne (Ne.symm e)] at hB; exact .inl ⟨e, hj, hB⟩
      · rw [List.getElem?_append_right (by simpa using hj)] at hB
        simp only [List.length_set] at hB
        have h0 : j - H.length = 0 := by
          rcases Nat.eq_zero_or_pos (j - H.length) with h0 | h0
          · exact h0
          · rw [List.getElem?_eq_none (by simp; omega)] at hB; cases hB
        rw [h0] at hB
        exact .inr (.inr ⟨by omega, by simpa using hB.symm⟩)
    have hlive : (Blk.row i.size (cs.take (q + h * i.size))).live inf = true → (Blk.row i.size cs).live (G.info b) = true := fun h => h
    have hsim : Sim Γ w0 G' (H.set b Blk.dead ++ [Blk.row i.size (cs.take (q + h * i.size))]) w := by
      refine ⟨hs.below, hs.mem, fun j B hB => ?_, fun j B hB hlv => ?_, fun j j' B B' hB hB' hlv hlv' hq => ?_, fun g => (hs.glob g).mono 0 (he.less (Nat.zero_le _)) (Nat.le_refl _), hs.tab⟩
      · rw [hL]
        rcases key j B hB with ⟨_, hj, hB⟩ | ⟨rfl, rfl⟩ | ⟨rfl, rfl⟩
        · rw [hi' j hj]; exact (hs.blk j B hB).mono he (by omega) (fun _ => rfl)
        · trivial
        · rw [hlast]
          refine ⟨hisr, htl.symm, hsz0, by rw [htl]; exact hsubq, ?_, ?_⟩
          · rw [PV.bdL_iff] at hbdc ⊢
            exact fun p hp => PV.bd_mono (by omega) p (hbdc p (List.mem_of_mem_take hp))
          · rcases hrest with ⟨hz, hcs⟩ | ⟨hpos, C, e, hh', hCs, hle', h5⟩
            · exact .inl ⟨hz, by rw [htl]; show _ = (G.info b).sub; omega⟩
            · refine .inr ⟨hpos, C, e, hh', hCs, by rw [htl]; show _ - (G.info b).sub ≤ _; omega, fun j c u hc hu => ?_⟩
              have hc' : cs[(G.info b).sub + j]? = some c := by
                have hc2 : (cs.take (q + h * i.size))[(G.info b).sub + j]? = some c := hc
                rw [List.getElem?_take] at hc2
                split at hc2
                · exact hc2
                · cases hc2
              exact ⟨(h5 j c u hc' hu).1.mono _ he (by omega), (h5 j c u hc' hu).2⟩
      · rcases key j B hB with ⟨_, hj, hB⟩ | ⟨rfl, rfl⟩ | ⟨rfl, rfl⟩
        · rw [hi' j hj] at hlv ⊢; exact hs.own j B hB hlv
        · cases hlv
        · rw [hlast] at hlv ⊢; exact hs.own b _ hb (hlive hlv)
      · rcases key j B hB with ⟨n1, hj, hB⟩ | ⟨rfl, rfl⟩ | ⟨rfl, rfl⟩
        · rcases key j' B' hB' with ⟨n2, hj', hB'⟩ | ⟨rfl, rfl⟩ | ⟨rfl, rfl⟩
          · rw [hi' j hj] at hlv hq; rw [hi' j' hj'] at hlv' hq; exact hs.inj j j' B B' hB hB' hlv hlv' hq
          · cases hlv'
          · rw [hi' j hj] at hlv hq; rw [hlast] at hlv' hq
            exact absurd (hs.inj j b B _ hB hb hlv (hlive hlv') hq) n1
        · cases hlv
        · rcases key j' B' hB' with ⟨n2, hj', hB'⟩ | ⟨rfl, rfl⟩ | ⟨rfl, rfl⟩
          · rw [hlast] at hlv hq; rw [hi' j' hj'] at hlv' hq
            exact absurd (hs.inj j' b B' _ hB' hb hlv' (hlive hlv) hq.symm) n2
          · cases hlv'
          · rfl
    refine ⟨.slice (if cap = 0 then ad else ad.map (·.add (0 * i.size))) h cap, w, G', _, _, ?_, hsim, ?_, he, by rw [hL]; omega, hk⟩
    · have hbd : (Instr.sliceBounds true k cap none (some (.int kk h)) none).run P w = .ok (0, h, cap) w := by
        have hhc : (h : Int) ≤ cap := by omega
        have hhn : h ≤ cap := by omega
        simp [Instr.sliceBounds, Instr.sliceBound, asIntOf, hhc, hhn]
      simp [execOp, ho, Instr.sliceAt, Instr.slice, run_under hu, hax, hlv, hbd, run_size hinf]
    · rw [hL]
      refine .row _ _ _ _ _ _ _ (by omega) (by omega) (by rw [hlast]; exact hisr) (by rw [hlast]; exact Nat.le_refl _) fun _ => ⟨by omega, ?_⟩
      rw [hlast]
      rcases hcase with ⟨h2, rfl, h3⟩ | ⟨h2, h3⟩
      · refine .inl ⟨h2, ?_, h3⟩
        split
        · rfl
        · rw [Nat.zero_mul, Option.map_some, Fw.add_at]; rfl
      · exact .inr ⟨by omega, h3⟩
theorem os_clearRow {t : TypeId} {x : Operand} {e : TypeId} {ti : TI} {b q k : Nat} {cs : List PV} (ho : o.op = .call { callee := .builtin .clear, args := #[x], argTypes := #[t] }) (ht : P.underlying t = some (.slice e)) (he : tiOf P e = some ti)
    (hx : ev Γ A x = .row b q k ti.size) (hb : H[b]? = some (.row ti.size cs)) (hlen : cs.length = q + k * ti.size)
    (hk : K (.tup []) (H.set b (.row ti.size (splice cs q (List.replicate k ti.zero).flatten)))) : OStep P Γ o A H K :=
  ostep_value (by simp [ho]) fun w0 G w N a hs ha => by
    obtain ⟨i, d, z, hi, hd, hzo, hzs, hisz, _, hone, _, hzl⟩ := tiOf_spec he
    have h1 := ha.ev hs.glob x
    rw [hx] at h1
    obtain ⟨hisr, hbl, hsz0, hsub, hbdc, hrest⟩ := hs.blk b _ hb
    obtain ⟨ad, cap, hax, hlt, hr, hle, had⟩ := h1.row_inv
    obtain ⟨hcap, hcase⟩ := had (by omega)
    have hrun : ∀ w', (match (Value.slice ad k cap) with
        | .slice none _ _ => (pure () : Sem Unit)
        | .slice _ 0 _ => pure ()
        | .slice (some a) n _ => do storeCells a (Builtin.zeroCells (← zeroValue e).cells n).toList
        | _ => stuck "").run P w = .ok () w' → (execOp a.eval o).run P w = .ok (.value (.tuple #[])) w' := fun w' hw => by
      cases ad with
      | none => simp at hw; subst hw; simp [execOp, ho, resolve, invoke, builtin, Builtin.clear_, run_under ht, hax]
      | some a' =>
        cases k with
        | zero => simp at hw; subst hw; simp [execOp, ho, resolve, invoke, builtin, Builtin.clear_, run_under ht, hax]
        | succ k =>
          simp [run_zero hi hzo] at hw
          simp [execOp, ho, resolve, invoke, builtin, Builtin.clear_, run_under ht, hax, run_zero hi hzo, hw]
    have hzlen : ti.zero.length = ti.size := by rw [hzl, List.length_map, Array.length_toList, hzs]
    rcases Nat.eq_zero_or_pos k with hk0 | hkp
    · subst hk0
      have hsame : H.set b (.row ti.size (splice cs q (List.replicate 0 ti.zero).flatten)) = H := by
        have : splice cs q (List.replicate 0 ti.zero).flatten = cs := by simp [splice]
        rw [this]
        obtain ⟨g1, g2⟩ := List.getElem?_eq_some_iff.1 hb
        rw [← g2]; exact List.set_getElem_self _
      rw [hsame] at hk
      refine ⟨_, w, G, _, H, hrun w ?_, hs, .tup _ _ _ rfl (fun i c v h => by simp at h), Evol.refl _ _, Nat.le_refl _, hk⟩
      cases ad <;> rfl
    · rcases hcase with ⟨h2, rfl, h3⟩ | ⟨h2, _⟩
      · have hxs : Reps G H.length (List.replicate k ti.zero).flatten (Builtin.zeroCells z.cells k).toList := by
          refine ⟨by rw [rep_len, hzlen, Array.length_toList, size_zeroCells, hzs], fun j c v hc hv => ?_⟩
          have hj : j < k * ti.zero.length := by have := (List.getElem?_eq_some_iff.1 hc).1; rwa [rep_len] at this
          rw [rep_flat _ (by omega) k j hj, hzlen] at hc
          rw [Array.getElem?_toList] at hv
          have hjz : j % ti.size < z.cells.size := by rw [hzs]; exact Nat.mod_lt _ hsz0
          have hv' : z.cells[j % ti.size]? = some v := by
            unfold Builtin.zeroCells at hv
            rw [Array.getElem?_map] at hv
            obtain ⟨y, hy, rfl⟩ := Option.map_eq_some_iff.1 hv
            obtain ⟨hy1, hy2⟩ := Array.getElem?_eq_some_iff.1 hy
            simp only [Array.getElem_range] at hy2
            subst hy2
            rw [hzs, Array.getElem?_eq_getElem hjz]
            congr 1
            exact (getElem!_pos z.cells (j % ti.size) hjz).symm
          rw [hzl, List.getElem?_map, Array.getElem?_toList, hv'] at hc
          simp only [Option.map_some, Option.some.injEq] at hc
          subst hc
          exact ofC_rep G _ v
        obtain ⟨w', hw', hsim⟩ := hs.writeRow (P := P) (q := q) hb hxs (fun j u hu => by
          have hjz : ∀ j, j % ti.size < z.cells.size := fun j => by rw [hzs]; exact Nat.mod_lt _ hsz0
          unfold Builtin.zeroCells at hu
          rw [Array.getElem?_map] at hu
          obtain ⟨y, hy, rfl⟩ := Option.map_eq_some_iff.1 hu
          refine hone (y % z.cells.size) _ ?_
          have hyz : y % z.cells.size < z.cells.size := by rw [hzs]; exact Nat.mod_lt _ hsz0
          rw [Array.getElem?_eq_getElem hyz]
          congr 1
          exact (getElem!_pos z.cells _ hyz).symm) (by rw [rep_len, hzlen]; omega) h2 (by rw [rep_len, hzlen]; exact Nat.mul_pos hkp hsz0)
        refine ⟨_, w', G, _, _, hrun w' ?_, hsim, .tup _ _ _ rfl (fun i c v h => by simp at h), Evol.refl _ _, by simp, hk⟩
        obtain ⟨k', rfl⟩ : ∃ k', k = k' + 1 := ⟨k - 1, by omega⟩
        simpa [run_zero hi hzo] using hw'
      · omega
end
end Go.Proofs.YteicbhkimepbaaaGreatDoor.Fw
namespace Go.Proofs.YteicbhkimepbaaaGreatDoor.Fw
set_option linter.unusedVariables false
set_option linter.unusedSimpArgs false
set_option maxRecDepth 100000
open Go.RowKit
section
variable {X : Type} {enc : X → List PV} {sz : Nat}
theorem flat_drop (h : ∀ x, (enc x).length = sz) : ∀ (l : List X) (i : Nat), ((l.map enc).flatten).drop (i * sz) = ((l.drop i).map enc).flatten
  | [], i => by simp
  | x :: l, 0 => by simp
  | x :: l, i + 1 => by
    rw [List.map_cons, List.flatten_cons, show (i + 1) * sz = (enc x).length + i * sz by rw [h, Nat.add_mul]; omega, List.drop_length_add_append]
    exact flat_drop h l i
theorem flat_take (h : ∀ x, (enc x).length = sz) : ∀ (l : List X) (i : Nat), ((l.map enc).flatten).take (i * sz) = ((l.take i).map enc).flatten
  | [], i => by simp
  | x :: l, 0 => by simp
  | x :: l, i + 1 => by
    rw [List.map_cons, List.flatten_cons, show (i + 1) * sz = (enc x).length + i * sz by rw [h, Nat.add_mul]; omega, List.take_length_add_append]
    rw [flat_take h l i]; rfl
theorem flat_setAt (h : ∀ x, (enc x).length = sz) {l : List X} {i : Nat} (y : X) (hi : i < l.length) : splice ((l.map enc).flatten) (i * sz) (enc y) = ((l.set i y).map enc).flatten := by
  unfold splice
  rw [h, flat_take h, show i * sz + sz = (i + 1) * sz by rw [Nat.add_mul]; omega, flat_drop h, List.set_eq_take_append_cons_drop, if_pos hi]
  simp
theorem take_splice {cs xs : List PV} {q : Nat} (h : q ≤ cs.length) : (splice cs q xs).take q = cs.take q := by
  unfold splice
  rw [List.append_assoc, List.take_append_of_le_length (by rw [List.length_take]; omega), List.take_take, Nat.min_self]
variable {P : Program} {Γ : Nat → PV} {o : Oper} {A : List (Nat × PV)} {H : List Blk} {K : PV → List Blk → Prop}
theorem os_idxRow {t : TypeId} {x ix : Operand} {by' b q m i : Nat} {k : IntKind} {l : List X} (h : ∀ x, (enc x).length = sz) (ho : o.op = .indexAddr t x ix) (ht : elOf P t = some (sz, by')) (hx : ev Γ A x = .row b q m sz) (hi : ev Γ A ix = .int k (i : Int))
    (hb : H[b]? = some (.row sz ((l.map enc).flatten))) (hl : l.length * sz = q + m * sz) (hn : i < m) (hk : K (.eptr b (q + i * sz) (l.length * sz)) H) : OStep P Γ o A H K :=
  os_index_row ho ht hx hi hb (by rw [flat_len h]; exact hl) (by omega) (by omega) (by rw [flat_len h, Int.toNat_natCast]; exact hk)
theorem os_loadRow {t : TypeId} {x : Operand} {ti : TI} {b q i len : Nat} {l : List X} {y : X} {p : PV} (h : ∀ x, (enc x).length = sz) (ho : o.op = .load t x) (ht : tiOf P t = some ti) (hx : ev Γ A x = .eptr b q len) (hb : H[b]? = some (.row sz ((l.map enc).flatten)))
    (hq : q = i * sz) (hlen : len = l.length * sz) (hy : l[i]? = some y) (hsz : ti.size = sz) (hp : if ti.agg = true then p = .agg (enc y) else (enc y)[0]? = some p) (hk : K p H) : OStep P Γ o A H K := by
  have hd : ((l.map enc).flatten).drop q = enc y ++ ((l.drop (i + 1)).map enc).flatten := by
    rw [hq, flat_drop h]
    have hi := (List.getElem?_eq_some_iff.1 hy)
    obtain ⟨hi, rfl⟩ := hi
    rw [List.drop_eq_getElem_cons hi, List.map_cons, List.flatten_cons]
  refine os_load (cs := ((l.map enc).flatten).drop q) ho ht (by unfold rd; rw [hx]; simp only [hb]; rw [if_pos (by rw [flat_len h]; exact hlen.symm)]) ?_ hk
  rw [hd]
  by_cases ha : ti.agg = true
  · rw [if_pos ha] at hp ⊢
    refine ⟨by rw [List.length_append, h]; omega, ?_⟩
    rw [hp, hsz, ← h y, List.take_left]
  · rw [if_neg ha] at hp ⊢
    rw [List.getElem?_append_left (List.getElem?_eq_some_iff.1 hp).1]; exact hp
theorem os_putRow {t : TypeId} {x y : Operand} {ti : TI} {b q i len : Nat} {l : List X} {e : X} (h : ∀ x, (enc x).length = sz) (ho : o.op = .store t x y) (ht : tiOf P t = some ti) (hx : ev Γ A x = .eptr b q len) (hb : H[b]? = some (.row sz ((l.map enc).flatten)))
    (hq : q = i * sz) (hlen : len = l.length * sz) (hi : i < l.length) (hy : (ev Γ A y).shaped = true) (hc : (ev Γ A y).cells = enc e) (hsz : ti.size = sz) (h0 : 0 < sz) (hk : K .any (H.set b (.row sz (((l.set i e).map enc).flatten)))) : OStep P Γ o A H K := by
  have hm : (i + 1) * sz ≤ l.length * sz := Nat.mul_le_mul_right _ hi
  rw [Nat.add_mul] at hm
  refine os_storeE ho ht hx hb (by rw [flat_len h]; exact hlen.symm) hy (by rw [hc, h, hsz]) (by rw [flat_len h, hsz, hq]; omega) (by omega) ?_
  rw [hc, hq, flat_setAt h e hi]
  exact hk
variable {ops : Array Oper} {cls : List Nat} {n0 : View} {KD : List (Nat × PV) → List Blk → Prop} {j : Nat} {rest : List (Nat × Oper)}
theorem dops_idxRow {t : TypeId} {x ix : Operand} {by' b q m i : Nat} {k : IntKind} {l : List X} (h : ∀ x, (enc x).length = sz) (ho : o.op = .indexAddr t x ix) (hw : wantA ops A o = some true) (hc : cls.getD j 0 = 1) (ht : elOf P t = some (sz, by')) (hx : ev Γ A x = .row b q m sz) (hi : ev Γ A ix = .int k (i : Int))
    (hb : H[b]? = some (.row sz ((l.map enc).flatten))) (hl : l.length * sz = q + m * sz) (hn : i < m) (hk : DOps P Γ ops cls n0 KD rest (aput A o.dst (.eptr b (q + i * sz) (l.length * sz))) H) : DOps P Γ ops cls n0 KD ((j, o) :: rest) A H :=
  dops_reads _ hw hc (fun A' hev => os_idxRow h ho ht ((hev x (by simp [ho, Op.operands])).trans hx) ((hev ix (by simp [ho, Op.operands])).trans hi) hb hl hn ⟨rfl, rfl⟩) hk
theorem dops_loadRow {t : TypeId} {x : Operand} {ti : TI} {b q i len : Nat} {l : List X} {y : X} (p : PV) (h : ∀ x, (enc x).length = sz) (ho : o.op = .load t x) (hw : wantA ops A o = some true) (hc : cls.getD j 0 = 1) (ht : tiOf P t = some ti) (hx : ev Γ A x = .eptr b q len) (hb : H[b]? = some (.row sz ((l.map enc).flatten)))
    (hq : q = i * sz) (hlen : len = l.length * sz) (hy : l[i]? = some y) (hsz : ti.size = sz) (hp : if ti.agg = true then p = .agg (enc y) else (enc y)[0]? = some p) (hk : DOps P Γ ops cls n0 KD rest (aput A o.dst p) H) : DOps P Γ ops cls n0 KD ((j, o) :: rest) A H :=
  dops_reads p hw hc (fun A' hev => os_loadRow h ho ht ((hev x (by simp [ho, Op.operands])).trans hx) hb hq hlen hy hsz hp ⟨rfl, rfl⟩) hk
end
def RowIn (H0 : List Blk) (sz k : Nat) (cs : List PV) (p : PV) (H' : List Blk) : Prop := ∃ b L, p = .row b 0 k sz ∧ H' = H0 ++ L ∧ H0.length ≤ b ∧ H'[b]? = some (.row sz cs)
end Go.Proofs.YteicbhkimepbaaaGreatDoor.Fw
namespace Go.Proofs.YteicbhkimepbaaaGreatDoor
set_option linter.unusedVariables false
set_option linter.unusedSimpArgs false
set_option maxRecDepth 100000
open Go.RowKit Fw
def like (p : Pr) : Bool := decide (p.a = p.b)
def Found (l : List Pr) (p : PV) : Prop := (p = .int .i64 (-1) ∧ ∀ x ∈ l, like x = false) ∨ ∃ i : Nat, i < l.length ∧ p = .int .i64 (i : Int) ∧ (∀ x, l[i]? = some x → like x = true) ∧ (∀ j x, j < i → l[j]? = some x → like x = false)
theorem c53 (Γ : Nat → PV) (H : List Blk) (l : List Pr) (f : Bool) (hl : l.length ≤ 1000000000000) :
    ACalls Tryz.prog Γ 53 [.vec (l.map Pr.enc) f] H (fun p H' => p = .row H.length 0 l.length 2 ∧ H' = H ++ [.row 2 ((l.map Pr.enc).flatten)]) := by
  refine acalls_of_awp Tryz.func53 rfl (by simp [Tryz.f53]) fun hbd => ?_
  refine awp_vlen 0 rfl fun hlen => ?_
  rw [List.length_map] at hlen
  refine awp_seq ?_
  refine awp_run rfl (by simp only [fwA, seval] <;> rfl) ?_
  refine awp_seq ?_
  refine awp_seq ?_
  refine awp_region rfl ?_
  refine aops_run 1 (by simp only [fwA, seval] <;> rfl) ?_
  refine aops_one rfl (os_nilSlice rfl un26 rfl (.inl rfl) fun b p hb hp => ?_)
  obtain rfl : p = .bool b := by cases b <;> simpa [eqv] using hp.symm
  refine aops_end ?_
  refine awp_cond (by simp only [fwA, seval] <;> rfl) ?_
  cases b with
  | true =>
    obtain rfl : l = [] := by
      by_cases hne : l = []
      · exact hne
      · exact absurd (hb (by simpa using hne)) (by decide)
    simp only [↓reduceIte]
    refine awp_seq ?_
    refine awp_run rfl (by simp only [fwA, seval] <;> rfl) ?_
    refine awp_told (told_adopt 2 2 (by decide) rfl) ?_
    refine awp_bd fun hbd' => ?_
    refine awp_ret ?_
    show RetQ Tryz.prog Γ Tryz.f53 H.length (fun p H' => p = .row H.length 0 0 2 ∧ H' = H ++ [.row 2 []]) .ret _ _ []
    exact calls_at (p := .row H.length 0 0 2) (.inl rfl) hbd' rfl (by simp [PV.bd]) (by simp) ⟨rfl, rfl⟩
  | false =>
    simp only [Bool.false_eq_true, ↓reduceIte]
    refine awp_skip ?_
    refine awp_seq ?_
    refine awp_region rfl ?_
    refine aops_run 2 (by simp only [fwA, seval, bx] <;> rfl) ?_
    refine aops_one rfl (os_appendNew rfl un26 ti70 un26 (.inl ⟨_, rfl⟩) (by decide) rfl (by simp only [fwA, seval] <;> rfl) (fun es f h e he => by
        simp only [fwA, seval, PV.vec.injEq] at h
        obtain ⟨rfl, rfl⟩ := h
        obtain ⟨x, _, rfl⟩ := List.mem_map.1 he
        rfl) (by simp only [fwA, seval] <;> rfl) (by rw [List.length_map]; show l.length * 16 ≤ _; omega) (by rw [List.length_map]; omega) ?_)
    refine aops_run 1 (by simp only [fwA, seval] <;> rfl) ?_
    refine awp_bd fun hbd' => ?_
    refine awp_ret ?_
    exact calls_at (p := .row H.length 0 l.length 2) (.inl rfl) hbd' (by simp [ares, aresL, ares1, alook, Tryz.f53]) (by simp [PV.bd]) (by simp) ⟨rfl, rfl⟩
end Go.Proofs.YteicbhkimepbaaaGreatDoor
namespace Go.Proofs.YteicbhkimepbaaaGreatDoor
set_option linter.unusedVariables false
set_option linter.unusedSimpArgs false
set_option maxRecDepth 100000
open Go.RowKit Fw
def unl (p : Pr) : Bool := !like p
def RowAt (H : List Blk) (n0 sz k : Nat) (cs : List PV) (p : PV) (H' : List Blk) : Prop := ∃ b, p = .row b 0 k sz ∧ H'[b]? = some (.row sz cs) ∧ n0 ≤ b ∧ H'.take n0 = H.take n0 ∧ H.length ≤ H'.length
end Go.Proofs.YteicbhkimepbaaaGreatDoor
namespace Go.Proofs.YteicbhkimepbaaaGreatDoor
set_option linter.unusedVariables false
set_option linter.unusedSimpArgs false
set_option maxRecDepth 100000
open Go.RowKit Fw
def cpt {X : Type} [DecidableEq X] (l : List X) : Nat → List X
  | 0 => []
  | i + 1 => cpt l i ++ (match l[i]? with | none => [] | some x => if 0 < i ∧ l[i - 1]? = some x then [] else [x])
section
variable {X : Type} [DecidableEq X]
theorem cpt_dup {l : List X} {i : Nat} {x : X} (h0 : 0 < i) (h : l[i]? = some x) (h1 : l[i - 1]? = some x) : cpt l (i + 1) = cpt l i := by
  simp only [cpt, h]; rw [if_pos ⟨h0, h1⟩, List.append_nil]
theorem cpt_new {l : List X} {i : Nat} {x : X} (h : l[i]? = some x) (h1 : 0 < i → l[i - 1]? ≠ some x) : cpt l (i + 1) = cpt l i ++ [x] := by
  simp only [cpt, h]; rw [if_neg fun e => h1 e.1 e.2]
theorem cpt_le (l : List X) : ∀ i, (cpt l i).length ≤ i
  | 0 => Nat.le_refl _
  | i + 1 => by
    have := cpt_le l i
    rw [cpt, List.length_append]
    split
    · simp; omega
    · split <;> simp <;> omega
theorem cpt_one {l : List X} (h : l.length < 2) : cpt l l.length = l := by
  match l, h with
  | [], _ => rfl
  | [x], _ => simp [cpt]
end
end Go.Proofs.YteicbhkimepbaaaGreatDoor
namespace Go.Proofs.YteicbhkimepbaaaGreatDoor
set_option linter.unusedVariables false
set_option linter.unusedSimpArgs false
set_option maxRecDepth 100000
open Go.RowKit Fw
set_option maxHeartbeats 1000000 in
theorem c123 (Γ : Nat → PV) (H : List Blk) (n0 b : Nat) (l : List Int) (hn0 : n0 ≤ b) (hb : H[b]? = some (.row 1 ((l.map I1).flatten))) (hbl : l.length ≤ 1000000000000) :
    ACalls Tryz.prog Γ 123 [.row b 0 l.length 1] H (RowAt H n0 1 (cpt l l.length).length (((cpt l l.length).map I1).flatten)) := by
  refine acalls_of_awp Tryz.func123 rfl (by simp [Tryz.f123]) fun hbd => ?_
  have hbH : b < H.length := (List.getElem?_eq_some_iff.1 hb).1
  refine awp_seq ?_
  refine awp_run rfl (by simp only [fwA, seval] <;> rfl) ?_
  refine awp_seq ?_
  refine awp_seq ?_
  refine awp_run rfl (by simp only [fwA, seval, bx] <;> rfl) ?_
  refine awp_cond (by simp only [fwA, seval] <;> rfl) ?_
  by_cases h2 : (l.length : Int) < 2
  · simp only [h2, decide_true, ↓reduceIte]
    refine awp_seq ?_
    refine awp_run rfl (by simp only [fwA, seval] <;> rfl) ?_
    refine awp_ret ?_
    have hfl : cpt l l.length = l := cpt_one (by omega)
    exact calls_end0 (p := .row b 0 l.length 1) (.inl rfl) hbd rfl (by simp [PV.bd]; omega) ⟨b, by rw [hfl], by rw [hfl]; exact hb, hn0, rfl, Nat.le_refl _⟩
  simp only [h2, decide_false, Bool.false_eq_true, ↓reduceIte]
  refine awp_skip ?_
  refine awp_seq ?_
  refine awp_seq ?_
  refine awp_run rfl (by simp only [fwA, seval] <;> rfl) ?_
  refine awp_block ?_
  have h1 : cpt l 1 = l.take 1 := by
    obtain ⟨x, hx⟩ : ∃ x, l[0]? = some x := ⟨_, List.getElem?_eq_getElem (by omega)⟩
    rw [cpt_new hx (fun h => by omega), List.take_add_one, hx]; rfl
  refine awp_for [0, 3] (fun k : Nat => [.row b 0 l.length 1, .int .i64 (k : Int)]) (fun _ => H) (fun k => l.length - k) (fun k => 0 < k ∧ k ≤ l.length ∧ cpt l k = l.take k) 1 rfl rfl ⟨by omega, by omega, h1⟩ fun k hk => ?_
  obtain ⟨hk0, hkl, hkc⟩ := hk
  refine awp_seq ?_
  refine awp_seq ?_
  refine awp_run rfl (by simp only [fwA, seval, bx] <;> rfl) ?_
  refine awp_cond (by simp only [fwA, seval] <;> rfl) ?_
  by_cases hc : (k : Int) < l.length
  rotate_left
  · simp only [hc, decide_false, Bool.false_eq_true, ↓reduceIte]
    refine awp_exit ?_
    refine awp_seq ?_
    refine awp_run rfl (by simp only [fwA, seval] <;> rfl) ?_
    refine awp_ret ?_
    have e : k = l.length := by omega
    subst e
    rw [List.take_length] at hkc
    exact calls_end0 (fn := Tryz.f123) (R := RowAt H n0 1 (cpt l l.length).length (((cpt l l.length).map I1).flatten)) (p := .row b 0 l.length 1) (.inl rfl) hbd rfl (by simp [PV.bd]; omega) ⟨b, by rw [hkc], by rw [hkc]; exact hb, hn0, rfl, Nat.le_refl _⟩
  simp only [hc, decide_true, ↓reduceIte]
  have hil : k < l.length := by omega
  have hx : l[k]? = some l[k] := List.getElem?_eq_getElem hil
  have hx1 : l[k - 1]? = some l[k - 1] := List.getElem?_eq_getElem (by omega)
  have hsub : IntKind.i64.wrap ((k : Int) - 1) = ((k - 1 : Nat) : Int) := by rw [wrapId ⟨by omega, by omega⟩]; omega
  refine awp_skip ?_
  refine awp_seq ?_
  refine awp_block ?_
  refine awp_seq ?_
  refine awp_drawn [0, 0, 1, 1, 0, 0, 0, 1, 1, 0] [0, 0, 3, 7, 0, 0, 32, 112, 240, 511] mixed rfl (by kernel_rfl) ?_
  refine dops_run 2 (by simp only [fwA, seval] <;> rfl) ?_
  refine dops_idxRow I1_len rfl rfl rfl el49 rfl rfl hb (by omega) hil ?_
  refine dops_loadRow (.int .i64 l[k]) I1_len rfl rfl rfl ti28 rfl hb (by omega) rfl hx rfl (by rw [if_neg (by decide)]; rfl) ?_
  refine dops_run 3 (by simp only [fwA, seval, hsub] <;> rfl) ?_
  refine dops_idxRow (i := k - 1) I1_len rfl rfl rfl el49 rfl rfl hb (by omega) (by omega) ?_
  refine dops_loadRow (.int .i64 l[k - 1]) I1_len rfl rfl rfl ti28 rfl hb (by omega) rfl hx1 rfl (by rw [if_neg (by decide)]; rfl) ?_
  refine dops_run 1 (by simp only [fwA, seval, bx] <;> rfl) ?_
  refine dops_end ?_
  refine awp_cond (by simp only [fwA, seval] <;> rfl) ?_
  have hdec : decide (l[k] = l[k - 1]) = decide (l[k] = l[k - 1]) := rfl
  rw [hdec]
  by_cases he : l[k] = l[k - 1]
  rotate_left
  · simp only [he, decide_false, Bool.false_eq_true, ↓reduceIte]
    refine awp_skip ?_
    refine awp_run rfl (by simp only [fwA, seval] <;> rfl) ?_
    refine ⟨k + 1, by omega, ⟨by omega, hil, ?_⟩, ?_, rfl, rfl⟩
    · rw [cpt_new hx (fun _ e => he (by rw [hx1] at e; exact (Option.some.inj e).symm)), hkc, List.take_add_one, hx]; rfl
    · simp only [fwA, seval, gfw, wrapS k (by omega)]
  simp only [he, decide_true, ↓reduceIte]
  refine awp_seq ?_
  refine awp_region rfl ?_
  refine aops_run 2 (by simp only [fwA, seval] <;> rfl) ?_
  refine aops_one rfl (os_sliceSuf rfl el49 rfl rfl hkl hb (by rw [flat_len I1_len]; omega) ?_)
  refine aops_run 1 (by simp only [fwA, seval] <;> rfl) ?_
  refine awp_seq ?_
  refine awp_seq ?_
  refine awp_run rfl (by simp only [fwA, seval] <;> rfl) ?_
  refine awp_block ?_
  have hck : cpt l (k + 1) = cpt l k := cpt_dup hk0 hx (by rw [hx1, he])
  have hck2 : (cpt l (k + 1)).length = k := by rw [hck, hkc, List.length_take]; omega
  have hset : ∀ arr : List Int, (H.set b (.row 1 ((arr.map I1).flatten)))[b]? = some (.row 1 ((arr.map I1).flatten)) := fun arr => List.getElem?_set_self hbH
  refine awp_for [0, 3, 4, 5] (fun s : Nat × List Int => [.row b 0 l.length 1, .int .i64 ((cpt l (k + s.1)).length : Int), .row b (0 + k * 1) (l.length - k) 1, .int .i64 (s.1 : Int)])
    (fun s => H.set b (.row 1 ((s.2.map I1).flatten))) (fun s => l.length - (k + s.1))
    (fun s => 0 < s.1 ∧ k + s.1 ≤ l.length ∧ s.2.length = l.length ∧ (cpt l (k + s.1)).length ≤ k + s.1 - 1 ∧ s.2.drop (k + s.1 - 1) = l.drop (k + s.1 - 1) ∧ s.2.take (cpt l (k + s.1)).length = cpt l (k + s.1)) (1, l) ?_ ?_
    ⟨by omega, by omega, rfl, by show (cpt l (k + 1)).length ≤ _; rw [hck2]; omega, rfl, by show l.take (cpt l (k + 1)).length = cpt l (k + 1); rw [hck2, hck, hkc]⟩ fun s hs => ?_
  · simp only [fwA, seval, gfw, hck2] <;> rfl
  · obtain ⟨_, g2⟩ := List.getElem?_eq_some_iff.1 hb
    show H = H.set b _
    rw [← g2]; exact (List.set_getElem_self _).symm
  obtain ⟨j, arr⟩ := s
  obtain ⟨hj0, hjn, hal, hcl, hdr, htk⟩ := hs
  simp only at hj0 hjn hal hcl hdr htk ⊢
  have hH := hset arr
  refine awp_seq ?_
  refine awp_seq ?_
  refine awp_run rfl (by simp only [fwA, seval, bx] <;> rfl) ?_
  refine awp_cond (by simp only [fwA, seval] <;> rfl) ?_
  by_cases hc2 : (j : Int) < ((l.length - k : Nat) : Int)
  rotate_left
  · have e : k + j = l.length := by omega
    rw [e] at htk hcl
    have hjl : (cpt l l.length).length ≤ l.length := cpt_le _ _
    simp only [hc2, decide_false, Bool.false_eq_true, ↓reduceIte, e]
    refine awp_exit ?_
    refine awp_seq ?_
    refine awp_region rfl ?_
    refine aops_run 2 (by simp only [fwA, seval] <;> rfl) ?_
    refine aops_one rfl (os_sliceSuf rfl el49 rfl rfl hjl hH (by rw [flat_len I1_len]; omega) ?_)
    refine aops_one rfl (os_clearRow rfl un49 ti28 rfl hH (by rw [flat_len I1_len, hal]; show _ = 0 + _ * 1 + (l.length - _) * 1; omega) ?_)
    have hkey : ∃ cs2, splice ((arr.map I1).flatten) (0 + (cpt l l.length).length * 1) (List.replicate (l.length - (cpt l l.length).length) [PV.int .i64 0]).flatten = cs2 ∧ cs2.length = 0 + l.length * 1 ∧ cs2.take (0 + (cpt l l.length).length * 1) = ((cpt l l.length).map I1).flatten := by
      have hcl : ((arr.map I1).flatten).length = l.length * 1 := by rw [flat_len I1_len, hal]
      have hzl : ((List.replicate (l.length - (cpt l l.length).length) ([PV.int .i64 0] : List PV)).flatten).length = (l.length - (cpt l l.length).length) * 1 := by rw [rep_len]; rfl
      refine ⟨_, rfl, (splice_length (by rw [hcl, hzl]; omega)).trans (by omega), ?_⟩
      rw [Nat.zero_add, take_splice (by rw [hcl]; omega), flat_take I1_len, htk]
    obtain ⟨cs2, hk1, hk2, hk3⟩ := hkey
    refine aops_end ?_
    refine awp_heap (H' := H.set b (.row 1 cs2)) (by rw [List.set_set, ← hk1]) ?_
    refine awp_seq ?_
    refine awp_region rfl ?_
    refine aops_run 2 (by simp only [fwA, seval] <;> rfl) ?_
    refine aops_one rfl (os_slicePre rfl el49 rfl rfl hjl (List.getElem?_set_self hbH) hk2 ?_)
    rw [hk3]
    refine aops_run 1 (by simp only [fwA, seval] <;> rfl) ?_
    refine awp_bd fun hbd' => ?_
    refine awp_ret ?_
    refine calls_at (fn := Tryz.f123) (R := RowAt H n0 1 (cpt l l.length).length (((cpt l l.length).map I1).flatten)) (p := .row H.length 0 (cpt l l.length).length 1) (.inl rfl) hbd' (by simp [ares, aresL, ares1, alook, Tryz.f123]) (by simp [PV.bd]) (by simp) ⟨H.length, rfl, ?_, by omega, ?_, by simp⟩
    · rw [List.getElem?_append_right (by simp)]; simp
    · rw [List.take_append_of_le_length (by simp; omega), List.take_set_of_le hn0, List.take_set_of_le hn0]
  have hjl : k + j < l.length := by omega
  have hy : l[k + j]? = some l[k + j] := List.getElem?_eq_getElem hjl
  have hy1 : l[k + j - 1]? = some l[k + j - 1] := List.getElem?_eq_getElem (by omega)
  have hdr1 : arr.drop (k + j) = l.drop (k + j) := by
    have := congrArg (List.drop 1) hdr
    rw [List.drop_drop, List.drop_drop] at this
    rwa [show k + j - 1 + 1 = k + j by omega] at this
  have hay : arr[k + j]? = some l[k + j] := by
    have := congrArg (·[0]?) hdr1
    simp only [List.getElem?_drop, Nat.add_zero] at this
    rw [this, hy]
  have hay1 : arr[k + j - 1]? = some l[k + j - 1] := by
    have := congrArg (·[0]?) hdr
    simp only [List.getElem?_drop, Nat.add_zero] at this
    rw [this, hy1]
  have hHl : b < (H.set b (.row 1 ((arr.map I1).flatten))).length := by rw [List.length_set]; exact hbH
  have hHs : ∀ B, (H.set b (.row 1 ((arr.map I1).flatten))).set b B = H.set b B := fun B => List.set_set ..
  have hsub2 : IntKind.i64.wrap ((j : Int) - 1) = ((j - 1 : Nat) : Int) := by rw [wrapId ⟨by omega, by omega⟩]; omega
  simp only [hc2, decide_true, ↓reduceIte]
  refine awp_skip ?_
  refine awp_seq ?_
  refine awp_block ?_
  refine awp_seq ?_
  refine awp_drawn [0, 0, 1, 1, 0, 0, 0, 1, 1, 0] [0, 0, 3, 7, 0, 0, 32, 112, 240, 511] mixed rfl (by kernel_rfl) ?_
  refine dops_run 2 (by simp only [fwA, seval] <;> rfl) ?_
  refine dops_idxRow I1_len rfl rfl rfl el49 rfl rfl hH (by omega) (by omega) ?_
  refine dops_loadRow (i := k + j) (.int .i64 l[k + j]) I1_len rfl rfl rfl ti28 rfl hH (by omega) (by rw [hal]) hay rfl (by rw [if_neg (by decide)]; rfl) ?_
  refine dops_run 3 (by simp only [fwA, seval, hsub2] <;> rfl) ?_
  refine dops_idxRow (i := j - 1) I1_len rfl rfl rfl el49 rfl rfl hH (by omega) (by omega) ?_
  refine dops_loadRow (i := k + j - 1) (.int .i64 l[k + j - 1]) I1_len rfl rfl rfl ti28 rfl hH (by omega) (by rw [hal]) hay1 rfl (by rw [if_neg (by decide)]; rfl) ?_
  refine dops_run 1 (by simp only [fwA, seval, bx] <;> rfl) ?_
  refine dops_end ?_
  refine awp_cond (by simp only [fwA, seval] <;> rfl) ?_
  have hdec2 : decide (l[k + j] = l[k + j - 1]) = decide (l[k + j] = l[k + j - 1]) := rfl
  rw [hdec2]
  by_cases he2 : l[k + j] = l[k + j - 1]
  · simp only [he2, decide_true, Bool.not_true, Bool.false_eq_true, ↓reduceIte]
    refine awp_skip ?_
    refine awp_run rfl (by simp only [fwA, seval] <;> rfl) ?_
    have hcd : cpt l (k + (j + 1)) = cpt l (k + j) := cpt_dup (i := k + j) (by omega) hy (by rw [hy1, he2])
    refine ⟨(j + 1, arr), by show l.length - (k + (j + 1)) < l.length - (k + j); omega, ⟨by omega, by omega, hal, by show (cpt l (k + (j + 1))).length ≤ _; rw [hcd]; omega, hdr1, by show arr.take (cpt l (k + (j + 1))).length = _; rw [hcd]; exact htk⟩, ?_, rfl, rfl⟩
    simp only [fwA, seval, gfw, wrapS j (by omega), hcd]
  simp only [he2, decide_false, Bool.not_false, ↓reduceIte]
  refine awp_seq ?_
  refine awp_region rfl ?_
  refine aops_run 4 (by simp only [fwA, seval] <;> rfl) ?_
  refine aops_one rfl (os_idxRow I1_len rfl el49 rfl rfl hH (by omega) (by omega) ?_)
  refine aops_one rfl (os_loadRow (i := k + j) I1_len rfl ti28 rfl hH (by omega) (by rw [hal]) hay rfl (by rw [if_neg (by decide)]; rfl) ?_)
  refine aops_one rfl (os_idxRow I1_len rfl el49 rfl rfl hH (by omega) (by omega) ?_)
  refine aops_one rfl (os_putRow I1_len rfl ti28 rfl hH (Nat.zero_add _) (by rw [hal]) (by omega) rfl rfl rfl (by omega) ?_)
  refine aops_end ?_
  refine awp_run rfl (by simp only [fwA, seval] <;> rfl) ?_
  refine awp_run rfl (by simp only [fwA, seval] <;> rfl) ?_
  have hcn : cpt l (k + (j + 1)) = cpt l (k + j) ++ [l[k + j]] := cpt_new (i := k + j) hy (fun _ e => he2 (by rw [hy1] at e; exact (Option.some.inj e).symm))
  refine ⟨(j + 1, arr.set (cpt l (k + j)).length l[k + j]), by show l.length - (k + (j + 1)) < l.length - (k + j); omega, ⟨by omega, by omega, by rw [List.length_set]; exact hal, ?_, ?_, ?_⟩, ?_, hHs _, rfl⟩
  · show (cpt l (k + (j + 1))).length ≤ _
    rw [hcn, List.length_append]; simp; omega
  · show (arr.set _ _).drop (k + (j + 1) - 1) = _
    rw [List.drop_set_of_lt (by omega)]; exact hdr1
  · show (arr.set _ _).take (cpt l (k + (j + 1))).length = cpt l (k + (j + 1))
    rw [hcn, List.length_append, show [l[k + j]].length = 1 from rfl, List.take_add_one, List.take_set_of_le (Nat.le_refl _), htk, List.getElem?_set_self (by omega)]
    rfl
  · simp only [fwA, seval, gfw, wrapS j (by omega), hcn, List.length_append, List.length_cons, List.length_nil, Nat.zero_add, wrapS _ (show (cpt l (k + j)).length + 1 < 9223372036854775808 by omega)]
set_option maxHeartbeats 1000000 in
theorem c133 (Γ : Nat → PV) (H : List Blk) (n0 b : Nat) (l : List Int) (hn0 : n0 ≤ b) (hb : H[b]? = some (.row 1 ((l.map I1).flatten))) (hbl : l.length ≤ 1000000000000) :
    ACalls Tryz.prog Γ 133 [.row b 0 l.length 1] H (RowAt H n0 1 (cpt l l.length).length (((cpt l l.length).map I1).flatten)) := by
  refine acalls_of_awp Tryz.func133 rfl (by simp [Tryz.f133]) fun hbd => ?_
  have hbH : b < H.length := (List.getElem?_eq_some_iff.1 hb).1
  refine awp_seq ?_
  refine awp_run rfl (by simp only [fwA, seval] <;> rfl) ?_
  refine awp_seq ?_
  refine awp_seq ?_
  refine awp_run rfl (by simp only [fwA, seval, bx] <;> rfl) ?_
  refine awp_cond (by simp only [fwA, seval] <;> rfl) ?_
  by_cases h2 : (l.length : Int) < 2
  · simp only [h2, decide_true, ↓reduceIte]
    refine awp_seq ?_
    refine awp_run rfl (by simp only [fwA, seval] <;> rfl) ?_
    refine awp_ret ?_
    have hfl : cpt l l.length = l := cpt_one (by omega)
    exact calls_end0 (p := .row b 0 l.length 1) (.inl rfl) hbd rfl (by simp [PV.bd]; omega) ⟨b, by rw [hfl], by rw [hfl]; exact hb, hn0, rfl, Nat.le_refl _⟩
  simp only [h2, decide_false, Bool.false_eq_true, ↓reduceIte]
  refine awp_skip ?_
  refine awp_seq ?_
  refine awp_seq ?_
  refine awp_run rfl (by simp only [fwA, seval] <;> rfl) ?_
  refine awp_block ?_
  have h1 : cpt l 1 = l.take 1 := by
    obtain ⟨x, hx⟩ : ∃ x, l[0]? = some x := ⟨_, List.getElem?_eq_getElem (by omega)⟩
    rw [cpt_new hx (fun h => by omega), List.take_add_one, hx]; rfl
  refine awp_for [0, 3] (fun k : Nat => [.row b 0 l.length 1, .int .i64 (k : Int)]) (fun _ => H) (fun k => l.length - k) (fun k => 0 < k ∧ k ≤ l.length ∧ cpt l k = l.take k) 1 rfl rfl ⟨by omega, by omega, h1⟩ fun k hk => ?_
  obtain ⟨hk0, hkl, hkc⟩ := hk
  refine awp_seq ?_
  refine awp_seq ?_
  refine awp_run rfl (by simp only [fwA, seval, bx] <;> rfl) ?_
  refine awp_cond (by simp only [fwA, seval] <;> rfl) ?_
  by_cases hc : (k : Int) < l.length
  rotate_left
  · simp only [hc, decide_false, Bool.false_eq_true, ↓reduceIte]
    refine awp_exit ?_
    refine awp_seq ?_
    refine awp_run rfl (by simp only [fwA, seval] <;> rfl) ?_
    refine awp_ret ?_
    have e : k = l.length := by omega
    subst e
    rw [List.take_length] at hkc
    exact calls_end0 (fn := Tryz.f133) (R := RowAt H n0 1 (cpt l l.length).length (((cpt l l.length).map I1).flatten)) (p := .row b 0 l.length 1) (.inl rfl) hbd rfl (by simp [PV.bd]; omega) ⟨b, by rw [hkc], by rw [hkc]; exact hb, hn0, rfl, Nat.le_refl _⟩
  simp only [hc, decide_true, ↓reduceIte]
  have hil : k < l.length := by omega
  have hx : l[k]? = some l[k] := List.getElem?_eq_getElem hil
  have hx1 : l[k - 1]? = some l[k - 1] := List.getElem?_eq_getElem (by omega)
  have hsub : IntKind.i64.wrap ((k : Int) - 1) = ((k - 1 : Nat) : Int) := by rw [wrapId ⟨by omega, by omega⟩]; omega
  refine awp_skip ?_
  refine awp_seq ?_
  refine awp_block ?_
  refine awp_seq ?_
  refine awp_drawn [0, 0, 1, 1, 0, 0, 0, 1, 1, 0] [0, 0, 3, 7, 0, 0, 32, 112, 240, 511] mixed rfl (by kernel_rfl) ?_
  refine dops_run 2 (by simp only [fwA, seval] <;> rfl) ?_
  refine dops_idxRow I1_len rfl rfl rfl el59 rfl rfl hb (by omega) hil ?_
  refine dops_loadRow (.int .i64 l[k]) I1_len rfl rfl rfl ti3 rfl hb (by omega) rfl hx rfl (by rw [if_neg (by decide)]; rfl) ?_
  refine dops_run 3 (by simp only [fwA, seval, hsub] <;> rfl) ?_
  refine dops_idxRow (i := k - 1) I1_len rfl rfl rfl el59 rfl rfl hb (by omega) (by omega) ?_
  refine dops_loadRow (.int .i64 l[k - 1]) I1_len rfl rfl rfl ti3 rfl hb (by omega) rfl hx1 rfl (by rw [if_neg (by decide)]; rfl) ?_
  refine dops_run 1 (by simp only [fwA, seval, bx] <;> rfl) ?_
  refine dops_end ?_
  refine awp_cond (by simp only [fwA, seval] <;> rfl) ?_
  have hdec : decide (l[k] = l[k - 1]) = decide (l[k] = l[k - 1]) := rfl
  rw [hdec]
  by_cases he : l[k] = l[k - 1]
  rotate_left
  · simp only [he, decide_false, Bool.false_eq_true, ↓reduceIte]
    refine awp_skip ?_
    refine awp_run rfl (by simp only [fwA, seval] <;> rfl) ?_
    refine ⟨k + 1, by omega, ⟨by omega, hil, ?_⟩, ?_, rfl, rfl⟩
    · rw [cpt_new hx (fun _ e => he (by rw [hx1] at e; exact (Option.some.inj e).symm)), hkc, List.take_add_one, hx]; rfl
    · simp only [fwA, seval, gfw, wrapS k (by omega)]
  simp only [he, decide_true, ↓reduceIte]
  refine awp_seq ?_
  refine awp_region rfl ?_
  refine aops_run 2 (by simp only [fwA, seval] <;> rfl) ?_
  refine aops_one rfl (os_sliceSuf rfl el59 rfl rfl hkl hb (by rw [flat_len I1_len]; omega) ?_)
  refine aops_run 1 (by simp only [fwA, seval] <;> rfl) ?_
  refine awp_seq ?_
  refine awp_seq ?_
  refine awp_run rfl (by simp only [fwA, seval] <;> rfl) ?_
  refine awp_block ?_
  have hck : cpt l (k + 1) = cpt l k := cpt_dup hk0 hx (by rw [hx1, he])
  have hck2 : (cpt l (k + 1)).length = k := by rw [hck, hkc, List.length_take]; omega
  have hset : ∀ arr : List Int, (H.set b (.row 1 ((arr.map I1).flatten)))[b]? = some (.row 1 ((arr.map I1).flatten)) := fun arr => List.getElem?_set_self hbH
  refine awp_for [0, 3, 4, 5] (fun s : Nat × List Int => [.row b 0 l.length 1, .int .i64 ((cpt l (k + s.1)).length : Int), .row b (0 + k * 1) (l.length - k) 1, .int .i64 (s.1 : Int)])
    (fun s => H.set b (.row 1 ((s.2.map I1).flatten))) (fun s => l.length - (k + s.1))
    (fun s => 0 < s.1 ∧ k + s.1 ≤ l.length ∧ s.2.length = l.length ∧ (cpt l (k + s.1)).length ≤ k + s.1 - 1 ∧ s.2.drop (k + s.1 - 1) = l.drop (k + s.1 - 1) ∧ s.2.take (cpt l (k + s.1)).length = cpt l (k + s.1)) (1, l) ?_ ?_
    ⟨by omega, by omega, rfl, by show (cpt l (k + 1)).length ≤ _; rw [hck2]; omega, rfl, by show l.take (cpt l (k + 1)).length = cpt l (k + 1); rw [hck2, hck, hkc]⟩ fun s hs => ?_
  · simp only [fwA, seval, gfw, hck2] <;> rfl
  · obtain ⟨_, g2⟩ := List.getElem?_eq_some_iff.1 hb
    show H = H.set b _
    rw [← g2]; exact (List.set_getElem_self _).symm
  obtain ⟨j, arr⟩ := s
  obtain ⟨hj0, hjn, hal, hcl, hdr, htk⟩ := hs
  simp only at hj0 hjn hal hcl hdr htk ⊢
  have hH := hset arr
  refine awp_seq ?_
  refine awp_seq ?_
  refine awp_run rfl (by simp only [fwA, seval, bx] <;> rfl) ?_
  refine awp_cond (by simp only [fwA, seval] <;> rfl) ?_
  by_cases hc2 : (j : Int) < ((l.length - k : Nat) : Int)
  rotate_left
  · have e : k + j = l.length := by omega
    rw [e] at htk hcl
    have hjl : (cpt l l.length).length ≤ l.length := cpt_le _ _
    simp only [hc2, decide_false, Bool.false_eq_true, ↓reduceIte, e]
    refine awp_exit ?_
    refine awp_seq ?_
    refine awp_region rfl ?_
    refine aops_run 2 (by simp only [fwA, seval] <;> rfl) ?_
    refine aops_one rfl (os_sliceSuf rfl el59 rfl rfl hjl hH (by rw [flat_len I1_len]; omega) ?_)
    refine aops_one rfl (os_clearRow rfl un59 ti3 rfl hH (by rw [flat_len I1_len, hal]; show _ = 0 + _ * 1 + (l.length - _) * 1; omega) ?_)
    have hkey : ∃ cs2, splice ((arr.map I1).flatten) (0 + (cpt l l.length).length * 1) (List.replicate (l.length - (cpt l l.length).length) [PV.int .i64 0]).flatten = cs2 ∧ cs2.length = 0 + l.length * 1 ∧ cs2.take (0 + (cpt l l.length).length * 1) = ((cpt l l.length).map I1).flatten := by
      have hcl : ((arr.map I1).flatten).length = l.length * 1 := by rw [flat_len I1_len, hal]
      have hzl : ((List.replicate (l.length - (cpt l l.length).length) ([PV.int .i64 0] : List PV)).flatten).length = (l.length - (cpt l l.length).length) * 1 := by rw [rep_len]; rfl
      refine ⟨_, rfl, (splice_length (by rw [hcl, hzl]; omega)).trans (by omega), ?_⟩
      rw [Nat.zero_add, take_splice (by rw [hcl]; omega), flat_take I1_len, htk]
    obtain ⟨cs2, hk1, hk2, hk3⟩ := hkey
    refine aops_end ?_
    refine awp_heap (H' := H.set b (.row 1 cs2)) (by rw [List.set_set, ← hk1]) ?_
    refine awp_seq ?_
    refine awp_region rfl ?_
    refine aops_run 2 (by simp only [fwA, seval] <;> rfl) ?_
    refine aops_one rfl (os_slicePre rfl el59 rfl rfl hjl (List.getElem?_set_self hbH) hk2 ?_)
    rw [hk3]
    refine aops_run 1 (by simp only [fwA, seval] <;> rfl) ?_
    refine awp_bd fun hbd' => ?_
    refine awp_ret ?_
    refine calls_at (fn := Tryz.f133) (R := RowAt H n0 1 (cpt l l.length).length (((cpt l l.length).map I1).flatten)) (p := .row H.length 0 (cpt l l.length).length 1) (.inl rfl) hbd' (by simp [ares, aresL, ares1, alook, Tryz.f133]) (by simp [PV.bd]) (by simp) ⟨H.length, rfl, ?_, by omega, ?_, by simp⟩
    · rw [List.getElem?_append_right (by simp)]; simp
    · rw [List.take_append_of_le_length (by simp; omega), List.take_set_of_le hn0, List.take_set_of_le hn0]
  have hjl : k + j < l.length := by omega
  have hy : l[k + j]? = some l[k + j] := List.getElem?_eq_getElem hjl
  have hy1 : l[k + j - 1]? = some l[k + j - 1] := List.getElem?_eq_getElem (by omega)
  have hdr1 : arr.drop (k + j) = l.drop (k + j) := by
    have := congrArg (List.drop 1) hdr
    rw [List.drop_drop, List.drop_drop] at this
    rwa [show k + j - 1 + 1 = k + j by omega] at this
  have hay : arr[k + j]? = some l[k + j] := by
    have := congrArg (·[0]?) hdr1
    simp only [List.getElem?_drop, Nat.add_zero] at this
    rw [this, hy]
  have hay1 : arr[k + j - 1]? = some l[k + j - 1] := by
    have := congrArg (·[0]?) hdr
    simp only [List.getElem?_drop, Nat.add_zero] at this
    rw [this, hy1]
  have hHl : b < (H.set b (.row 1 ((arr.map I1).flatten))).length := by rw [List.length_set]; exact hbH
  have hHs : ∀ B, (H.set b (.row 1 ((arr.map I1).flatten))).set b B = H.set b B := fun B => List.set_set ..
  have hsub2 : IntKind.i64.wrap ((j : Int) - 1) = ((j - 1 : Nat) : Int) := by rw [wrapId ⟨by omega, by omega⟩]; omega
  simp only [hc2, decide_true, ↓reduceIte]
  refine awp_skip ?_
  refine awp_seq ?_
  refine awp_block ?_
  refine awp_seq ?_
  refine awp_drawn [0, 0, 1, 1, 0, 0, 0, 1, 1, 0] [0, 0, 3, 7, 0, 0, 32, 112, 240, 511] mixed rfl (by kernel_rfl) ?_
  refine dops_run 2 (by simp only [fwA, seval] <;> rfl) ?_
  refine dops_idxRow I1_len rfl rfl rfl el59 rfl rfl hH (by omega) (by omega) ?_
  refine dops_loadRow (i := k + j) (.int .i64 l[k + j]) I1_len rfl rfl rfl ti3 rfl hH (by omega) (by rw [hal]) hay rfl (by rw [if_neg (by decide)]; rfl) ?_
  refine dops_run 3 (by simp only [fwA, seval, hsub2] <;> rfl) ?_
  refine dops_idxRow (i := j - 1) I1_len rfl rfl rfl el59 rfl rfl hH (by omega) (by omega) ?_
  refine dops_loadRow (i := k + j - 1) (.int .i64 l[k + j - 1]) I1_len rfl rfl rfl ti3 rfl hH (by omega) (by rw [hal]) hay1 rfl (by rw [if_neg (by decide)]; rfl) ?_
  refine dops_run 1 (by simp only [fwA, seval, bx] <;> rfl) ?_
  refine dops_end ?_
  refine awp_cond (by simp only [fwA, seval] <;> rfl) ?_
  have hdec2 : decide (l[k + j] = l[k + j - 1]) = decide (l[k + j] = l[k + j - 1]) := rfl
  rw [hdec2]
  by_cases he2 : l[k + j] = l[k + j - 1]
  · simp only [he2, decide_true, Bool.not_true, Bool.false_eq_true, ↓reduceIte]
    refine awp_skip ?_
    refine awp_run rfl (by simp only [fwA, seval] <;> rfl) ?_
    have hcd : cpt l (k + (j + 1)) = cpt l (k + j) := cpt_dup (i := k + j) (by omega) hy (by rw [hy1, he2])
    refine ⟨(j + 1, arr), by show l.length - (k + (j + 1)) < l.length - (k + j); omega, ⟨by omega, by omega, hal, by show (cpt l (k + (j + 1))).length ≤ _; rw [hcd]; omega, hdr1, by show arr.take (cpt l (k + (j + 1))).length = _; rw [hcd]; exact htk⟩, ?_, rfl, rfl⟩
    simp only [fwA, seval, gfw, wrapS j (by omega), hcd]
  simp only [he2, decide_false, Bool.not_false, ↓reduceIte]
  refine awp_seq ?_
  refine awp_region rfl ?_
  refine aops_run 4 (by simp only [fwA, seval] <;> rfl) ?_
  refine aops_one rfl (os_idxRow I1_len rfl el59 rfl rfl hH (by omega) (by omega) ?_)
  refine aops_one rfl (os_loadRow (i := k + j) I1_len rfl ti3 rfl hH (by omega) (by rw [hal]) hay rfl (by rw [if_neg (by decide)]; rfl) ?_)
  refine aops_one rfl (os_idxRow I1_len rfl el59 rfl rfl hH (by omega) (by omega) ?_)
  refine aops_one rfl (os_putRow I1_len rfl ti3 rfl hH (Nat.zero_add _) (by rw [hal]) (by omega) rfl rfl rfl (by omega) ?_)
  refine aops_end ?_
  refine awp_run rfl (by simp only [fwA, seval] <;> rfl) ?_
  refine awp_run rfl (by simp only [fwA, seval] <;> rfl) ?_
  have hcn : cpt l (k + (j + 1)) = cpt l (k + j) ++ [l[k + j]] := cpt_new (i := k + j) hy (fun _ e => he2 (by rw [hy1] at e; exact (Option.some.inj e).symm))
  refine ⟨(j + 1, arr.set (cpt l (k + j)).length l[k + j]), by show l.length - (k + (j + 1)) < l.length - (k + j); omega, ⟨by omega, by omega, by rw [List.length_set]; exact hal, ?_, ?_, ?_⟩, ?_, hHs _, rfl⟩
  · show (cpt l (k + (j + 1))).length ≤ _
    rw [hcn, List.length_append]; simp; omega
  · show (arr.set _ _).drop (k + (j + 1) - 1) = _
    rw [List.drop_set_of_lt (by omega)]; exact hdr1
  · show (arr.set _ _).take (cpt l (k + (j + 1))).length = cpt l (k + (j + 1))
    rw [hcn, List.length_append, show [l[k + j]].length = 1 from rfl, List.take_add_one, List.take_set_of_le (Nat.le_refl _), htk, List.getElem?_set_self (by omega)]
    rfl
  · simp only [fwA, seval, gfw, wrapS j (by omega), hcn, List.length_append, List.length_cons, List.length_nil, Nat.zero_add, wrapS _ (show (cpt l (k + j)).length + 1 < 9223372036854775808 by omega)]
end Go.Proofs.YteicbhkimepbaaaGreatDoor
namespace Go.Proofs.YteicbhkimepbaaaGreatDoor
set_option linter.unusedVariables false
set_option linter.unusedSimpArgs false
set_option maxRecDepth 100000
open Go.RowKit Fw
def sortP (l : List Pr) : List Pr := (l.filter unl).mergeSort leP
def normL (l : List Pr) : List Pr := cpt (sortP l) (sortP l).length
end Go.Proofs.YteicbhkimepbaaaGreatDoor
namespace Go.Proofs.YteicbhkimepbaaaGreatDoor
set_option linter.unusedVariables false
set_option linter.unusedSimpArgs false
set_option maxRecDepth 100000
open Go.RowKit Fw
theorem cpl_eq {n : Int} (h : I64 n) : IntKind.i64.wrap ((BitVec.ofInt IntKind.i64.bits (if IntKind.i64.signed then -1 else IntKind.i64.max) ^^^ BitVec.ofInt IntKind.i64.bits n).toNat) = -1 - n := by
  obtain ⟨h1, h2⟩ := h
  have hb : IntKind.i64.bits = 64 := rfl
  have hsg : IntKind.i64.signed = true := rfl
  rw [hsg, if_pos rfl, hb]
  have e1 : BitVec.ofInt 64 (-1) = BitVec.allOnes 64 := rfl
  rw [e1, BitVec.allOnes_xor, BitVec.toNat_not, BitVec.toNat_ofInt]
  unfold IntKind.wrap
  simp only [hb, hsg, Bool.true_and, decide_eq_true_eq]
  have hm : (n % ((2 ^ 64 : Nat) : Int)).toNat = (if 0 ≤ n then n.toNat else (n + 18446744073709551616).toNat) := by
    split <;> omega
  rw [hm]
  split <;> split <;> omega
def pointOf (a : Int) : Int := if 0 ≤ a then -1 else -1 - a
theorem c43 (Γ : Nat → PV) (a : Int) : Gives Tryz.prog Γ 43 [.int .i64 a] (.bool (decide (a < 0))) := by
  refine fn_of_awp Tryz.func43 rfl (by simp [Tryz.f43]) rfl fun H => ?_
  refine awp_seq ?_
  refine awp_run rfl (by simp only [fwA, seval] <;> rfl) ?_
  refine awp_seq ?_
  refine awp_run rfl (by simp only [fwA, seval] <;> rfl) (awp_ret ?_)
  exact gives_end0 (.inl rfl) rfl
theorem c52 (Γ : Nat → PV) (a : Int) (ha : I64 a) : Gives Tryz.prog Γ 52 [.int .i64 a] (.int .i64 (pointOf a)) := by
  refine fn_of_awp Tryz.func52 rfl (by simp [Tryz.f52]) rfl fun H => ?_
  refine awp_seq ?_
  refine awp_run rfl (by simp only [fwA, seval] <;> rfl) ?_
  refine awp_seq ?_
  refine awp_region rfl ?_
  refine aops_run 1 (by simp only [fwA, seval] <;> rfl) ?_
  refine aops_one rfl (os_cpl rfl rfl ?_)
  rw [cpl_eq ha]
  refine aops_one rfl (os_max rfl rfl rfl ?_)
  refine aops_run 1 (by simp only [fwA, seval] <;> rfl) (awp_ret ?_)
  have e : (if -1 - a < -1 then -1 else -1 - a) = pointOf a := by unfold pointOf; split <;> split <;> omega
  exact gives_end0 (.inl rfl) (by rw [← e]; rfl)
theorem c112 (Γ : Nat → PV) (a : Int) (ha : I64 a) : Gives Tryz.prog Γ 112 [.int .i64 a] (.int .i64 (pointOf a)) := by
  refine fn_of_awp Tryz.func112 rfl (by simp [Tryz.f112]) rfl fun H => ?_
  refine awp_seq ?_
  refine awp_run rfl (by simp only [fwA, seval] <;> rfl) ?_
  refine awp_seq ?_
  refine awp_seq ?_
  refine awp_run rfl (by simp only [fwA, seval, ge_iff_le] <;> rfl) ?_
  refine awp_cond (by simp only [fwA, seval] <;> rfl) ?_
  by_cases h : 0 ≤ a
  · simp only [h, decide_true, ↓reduceIte]
    refine awp_seq (awp_run rfl (by simp only [fwA, seval] <;> rfl) (awp_ret ?_))
    exact gives_end0 (.inl rfl) (by unfold pointOf; rw [if_pos h]; rfl)
  · simp only [h, decide_false, Bool.false_eq_true, ↓reduceIte]
    refine awp_skip ?_
    have hw : IntKind.i64.wrap (-1 - a) = -1 - a := wrapId ⟨by have := ha.1; have := ha.2; omega, by have := ha.1; have := ha.2; omega⟩
    refine awp_seq (awp_run rfl (by simp only [fwA, seval, hw] <;> rfl) (awp_ret ?_))
    exact gives_end0 (.inl rfl) (by unfold pointOf; rw [if_neg h]; rfl)
theorem c47 (Γ : Nat → PV) (a : Int) (ha : I64 a) : Gives Tryz.prog Γ 47 [.int .i64 a] (.int .i64 (if a < 0 then 0 else -1 - a)) := by
  refine fn_of_awp Tryz.func47 rfl (by simp [Tryz.f47]) rfl fun H => ?_
  refine awp_seq ?_
  refine awp_run rfl (by simp only [fwA, seval] <;> rfl) ?_
  refine awp_seq ?_
  refine awp_seq ?_
  refine awp_run rfl (by simp only [fwA, seval] <;> rfl) ?_
  refine awp_cond (by simp only [fwA, seval] <;> rfl) ?_
  by_cases h : a < 0
  · simp only [h, decide_true, ↓reduceIte]
    refine awp_seq (awp_run rfl (by simp only [fwA, seval] <;> rfl) (awp_ret ?_))
    exact gives_end0 (.inl rfl) rfl
  · simp only [h, decide_false, Bool.false_eq_true, ↓reduceIte]
    refine awp_skip ?_
    refine awp_seq ?_
    refine awp_region rfl ?_
    refine aops_run 1 (by simp only [fwA, seval] <;> rfl) ?_
    refine aops_one rfl (os_cpl rfl rfl ?_)
    rw [cpl_eq ha]
    refine aops_run 1 (by simp only [fwA, seval] <;> rfl) (awp_ret ?_)
    exact gives_end0 (.inl rfl) rfl
end Go.Proofs.YteicbhkimepbaaaGreatDoor
