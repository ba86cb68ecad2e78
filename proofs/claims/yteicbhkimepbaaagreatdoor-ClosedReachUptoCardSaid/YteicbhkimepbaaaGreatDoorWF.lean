/- The contracts of what pairs lead to, as a map; of the ways' function. -/
import Derived.Test.YteicbhkimepbaaaGreatDoorWE
import Derived.Test.YteicbhkimepbaaaGreatDoorWC
import Derived.Test.YteicbhkimepbaaaGreatDoorWB
import Derived.Test.YteicbhkimepbaaaGreatDoorWD
namespace Go.Proofs.YteicbhkimepbaaaGreatDoor
set_option linter.unusedVariables false
set_option linter.unusedSimpArgs false
set_option maxRecDepth 100000
open Go.RowKit Fw

/-- Pairs, or the other way round. -/
def dcP (bk : Bool) (c : List Pr) : List Pr := if bk = true then flp c else c
def dcO (bk : Bool) (p : Pr) : Pr := if bk = true then ⟨p.b, p.a⟩ else p
theorem dcP_snoc (bk : Bool) (c : List Pr) (p : Pr) : dcP bk (c ++ [p]) = dcP bk c ++ [dcO bk p] := by
  unfold dcP dcO flp
  split <;> simp
theorem dcP_len (bk : Bool) (c : List Pr) : (dcP bk c).length = c.length := by
  unfold dcP flp
  split <;> simp
theorem z49 : zero1 Tryz.prog 49 = some (.vec [] true) := by kernel_rfl
set_option maxHeartbeats 8000000 in
/- chancel/closed.made -/
theorem c73 (Γ : Nat → PV) (c : List Pr) (bk : Bool) (hl : c.length ≤ 10000000) (H : List Blk) : ACalls Tryz.prog Γ 73 [.vec (c.map Pr.enc) false, .bool bk] H (fun p H' => p = .map H.length ∧ H' = H ++ [.map ((graphV (dcP bk c)).map enc1)]) := by
  refine acalls_of_awp Tryz.func73 rfl (by simp [Tryz.f73]) fun hbd => ?_
  refine awp_seq ?_
  refine awp_run rfl (by simp only [fwA, seval] <;> rfl) ?_
  refine awp_seq ?_
  refine awp_region rfl ?_
  refine aops_one rfl (os_makeMap rfl ?_)
  refine aops_run 1 (by simp only [fwA, seval, gfw, bx, dx, bitfw, Int.reduceEq, Int.reduceNeg, Int.reduceToNat, Int.reduceLE, Int.reduceLT] <;> rfl) ?_
  refine aops_end ?_
  refine awp_seq ?_
  refine awp_seq ?_
  refine awp_run rfl (by simp only [fwA, seval, gfw, bx, dx, bitfw, Int.reduceEq, Int.reduceNeg, Int.reduceToNat, Int.reduceLE, Int.reduceLT] <;> rfl) ?_
  refine awp_block ?_
  refine awp_heap (H' := H ++ (Blk.map ((mapR (H.length + 1) [] (dcP bk (c.take 0))).map enc1) :: [])) (by simp [mapR]) ?_
  refine awp_for [1, 5, 9, 10, 11] (fun s : Nat × List (Int × Nat) × List Blk => [.bool bk, .map H.length, .vec (c.map Pr.enc) false, .int .i64 (c.length : Int), .int .i64 (s.1 : Int)]) (fun s => H ++ (Blk.map ((mapR (H.length + 1) s.2.1 (dcP bk (c.take s.1))).map enc1) :: s.2.2)) (fun s => c.length - s.1) (fun s => s.1 ≤ c.length ∧ GrOk (dcP bk (c.take s.1)) s.2.1 s.2.2 ∧ s.2.1.map (·.1) = keysA (dcP bk (c.take s.1))) (0, [], []) rfl rfl ⟨Nat.zero_le _, by rw [show dcP bk (c.take 0) = [] by unfold dcP flp; split <;> rfl]; exact ⟨gr_nil, rfl⟩⟩ fun ⟨i, es, L⟩ ⟨hil, hF, hKy⟩ => ?_
  simp only at hil hF hKy ⊢
  refine awp_seq ?_
  refine awp_run rfl (by simp only [fwA, seval, gfw, bx, dx, bitfw, Int.reduceEq, Int.reduceNeg, Int.reduceToNat, Int.reduceLE, Int.reduceLT] <;> rfl) ?_
  refine awp_seq ?_
  refine awp_cond (by simp only [fwA, seval] <;> rfl) ?_
  by_cases hc : (i : Int) < c.length
  rotate_left
  · simp only [hc, decide_false, Bool.false_eq_true, ↓reduceIte]
    refine awp_exit ?_
    have e : i = c.length := by omega
    subst e
    rw [List.take_length] at hF hKy ⊢
    refine awp_seq ?_
    refine awp_run rfl (by simp only [fwA, seval, gfw, bx, dx, bitfw, Int.reduceEq, Int.reduceNeg, Int.reduceToNat, Int.reduceLE, Int.reduceLT] <;> rfl) ?_
    refine awp_keep (A' := [(4, .map H.length)]) [4] (by simp only [fwA, seval, gfw, akeep] <;> rfl) ?_
    obtain ⟨L', h1, h2, _⟩ := told_graph (Γ := Γ) (A := [(4, .map H.length)]) (H0 := H) hF (fun b C => rfl) es.length (Nat.le_refl _)
    rw [mixM_all, mapV_graph hKy] at h2
    refine awp_told h2 ?_
    refine awp_ret ?_
    have e : H ++ Blk.map ((graphV (dcP bk c)).map enc1) :: L' = (H ++ [Blk.map ((graphV (dcP bk c)).map enc1)]) ++ L' := by simp
    rw [e]
    exact calls_cut (p := .map H.length) (H ++ [Blk.map ((graphV (dcP bk c)).map enc1)]) L' (.inl rfl) (bd_app hbd (by simp only [List.all_cons, List.all_nil, graphV_bd, Bool.and_true])) rfl (by simp [PV.bd]) (by simp) ⟨rfl, rfl⟩
  simp only [hc, decide_true, ↓reduceIte]
  refine awp_skip ?_
  have hi : i < c.length := by omega
  have hwi : IntKind.i64.wrap ((i : Int) + 1) = ((i + 1 : Nat) : Int) := wrapS i (by omega)
  obtain ⟨p, gp⟩ : ∃ p, c[i]? = some p := ⟨_, List.getElem?_eq_getElem hi⟩
  have hts : dcP bk (c.take (i + 1)) = dcP bk (c.take i) ++ [dcO bk p] := by rw [take_snoc gp, dcP_snoc]
  have hdl : (dcP bk (c.take i)).length = i := by rw [dcP_len, List.length_take]; omega
  have hKl : (H ++ (Blk.map ((mapR (H.length + 1) es (dcP bk (c.take i))).map enc1) :: L)).length = H.length + 1 + L.length := by rw [List.length_append, List.length_cons]; omega
  have g5 : (H ++ (Blk.map ((mapR (H.length + 1) es (dcP bk (c.take i))).map enc1) :: L))[H.length]? = some (Blk.map ((mapR (H.length + 1) es (dcP bk (c.take i))).map enc1)) := by rw [Fw.get_at0]; rfl
  have g8 : ∀ j, (H ++ (Blk.map ((mapR (H.length + 1) es (dcP bk (c.take i))).map enc1) :: L))[H.length + 1 + j]? = L[j]? := fun j => by rw [show H.length + 1 + j = H.length + (j + 1) by omega, Fw.get_at]; rfl
  have hset : ∀ F', (H ++ (Blk.map ((mapR (H.length + 1) es (dcP bk (c.take i))).map enc1) :: L)).set H.length (.map F') = H ++ (Blk.map F' :: L) := fun F' => by rw [Fw.set_at0]; rfl
  have hset8 : ∀ j B F', ((H ++ (Blk.map ((mapR (H.length + 1) es (dcP bk (c.take i))).map enc1) :: L)).set (H.length + 1 + j) B).set H.length (.map F') = H ++ (Blk.map F' :: L.set j B) := fun j B F' => by
    rw [show H.length + 1 + j = H.length + (j + 1) by omega, Fw.set_at, Fw.set_at0]; rfl
  generalize hK : H ++ (Blk.map ((mapR (H.length + 1) es (dcP bk (c.take i))).map enc1) :: L) = K at hKl g5 g8 hset hset8 ⊢
  refine awp_seq ?_
  refine awp_block ?_
  refine awp_seq ?_
  refine awp_run rfl (by simp only [fwA, seval, gfw, bx, dx, bitfw, Int.reduceEq, Int.reduceNeg, Int.reduceToNat, Int.reduceLE, Int.reduceLT, gp] <;> rfl) ?_
  have gq : (K ++ [Blk.box p.enc])[K.length]? = some (.box p.enc) := by rw [Fw.get_at0]; rfl
  refine awp_join [1, 5, 7, 9, 10, 11] (fun _ : Unit => [.bool bk, .map H.length, .ptr K.length 0, .vec (c.map Pr.enc) false, .int .i64 (c.length : Int), .int .i64 (i : Int)]) (fun _ => K ++ [.box (dcO bk p).enc]) (fun _ => True) ?_ fun _ _ => ?_
  · refine awp_seq ?_
    refine awp_run rfl (by simp only [fwA, seval, gfw, bx, dx, bitfw, Int.reduceEq, Int.reduceNeg, Int.reduceToNat, Int.reduceLE, Int.reduceLT] <;> rfl) ?_
    cases bk
    · refine awp_cond (b := false) (by simp [alook, aput, ev]) (awp_skip ?_)
      exact ⟨(), trivial, by simp only [fwA, seval, gfw], rfl, rfl⟩
    · refine awp_cond (b := true) (by simp [alook, aput, ev]) ?_
      refine awp_run rfl (by simp only [fwA, seval, gfw, bx, dx, bitfw, Int.reduceEq, Int.reduceNeg, Int.reduceToNat, Int.reduceLE, Int.reduceLT, gq, Pr.enc] <;> rfl) ?_
      exact ⟨(), trivial, by simp only [fwA, seval, gfw], by simp [dcO, Pr.enc], rfl⟩
  generalize dcO bk p = p at *
  clear gq
  have gq : (K ++ [Blk.box p.enc])[K.length]? = some (.box p.enc) := by rw [Fw.get_at0]; rfl
  have g5' : ∀ L, (K ++ L)[H.length]? = some (Blk.map ((mapR (H.length + 1) es (dcP bk (c.take i))).map enc1)) := fun L => by rw [List.getElem?_append_left (by omega)]; exact g5
  rcases gr_find hF (H.length + 1) p.a with ⟨f1, f2, f3⟩ | ⟨k, j, f1, f2⟩
  · have gvw : View.vw ⟨(K ++ [Blk.box p.enc]).length, none⟩ (K ++ [Blk.box p.enc]) = K ++ [Blk.box p.enc] := List.take_length
    refine awp_drawn [0, 0, 4, 0, 0, 1, 1, 0, 1, 0, 3, 2] [0, 0, 2, 0, 0, 16, 56, 0, 128, 384, 1016, 2047] mixed rfl (by kernel_rfl) ?_
    refine dops_run 6 (by simp only [fwA, seval, gfw, bx, dx, bitfw, Int.reduceEq, Int.reduceNeg, Int.reduceToNat, Int.reduceLE, Int.reduceLT, gvw, gq] <;> rfl) ?_
    refine dops_reads (.vec [] true) rfl rfl (fun A' hev => os_lookup (r := none) (z := .vec [] true) rfl un114 un28 (by rw [hev _ (by simp [Op.operands])]; rfl) ((hev _ (by simp [Op.operands])).trans rfl) (g5' _) (by rw [hev _ (by simp [Op.operands])]; exact (mfind1 p.a _ 0).trans (by rw [f1])) (fun _ => zero1_spec z49) ⟨rfl, rfl⟩) ?_
    refine dops_run 3 (by simp only [fwA, seval, gfw, bx, dx, bitfw, Int.reduceEq, Int.reduceNeg, Int.reduceToNat, Int.reduceLE, Int.reduceLT, gq] <;> rfl) ?_
    refine dops_appendNew (n := 1) rfl rfl (.inr rfl) (Nat.le_refl _) un49 ti28 un49 (.inl ⟨_, rfl⟩) (by decide) rfl rfl (fun es f h e he => by
      simp only [fwA, seval, PV.vec.injEq] at h
      obtain ⟨rfl, rfl⟩ := h
      simp only [List.mem_singleton] at he
      subst he; rfl) rfl (by decide) (by decide) ?_
    refine dops_turns (H' := ((K ++ [Blk.box p.enc]) ++ [Blk.row 1 (encB p)]).set H.length (.map ((mapR (H.length + 1) es (dcP bk (c.take i)) ++ [(p.a, PV.row (H.length + 1 + (L.length + 1)) 0 1 1)]).map enc1))) .any rfl rfl (fun A' hev => os_mapUpdate (r := none) (.inl rfl) un114 un28 (by rw [hev _ (by simp [Op.operands])]; rfl) ((hev _ (by simp [Op.operands])).trans rfl) (by rw [List.append_assoc]; exact g5' _) (by rw [hev _ (by simp [Op.operands])]; exact (mfind1 p.a _ 0).trans (by rw [f1])) ⟨rfl, by
      rw [hev _ (by simp [Op.operands]), hev _ (by simp [Op.operands]), List.map_append]
      have : H.length + 1 + (L.length + 1) = (K ++ [Blk.box p.enc]).length := by rw [List.length_append, hKl]; rfl
      rw [this]; rfl⟩) ?_
    refine dops_end ?_
    refine awp_run rfl (by simp only [fwA, seval] <;> rfl) ?_
    refine ⟨(i + 1, es ++ [(p.a, L.length + 1)], L ++ [Blk.box p.enc, Blk.row 1 (encB p)]), by simp only; omega, ⟨by simp only; omega, ?_, ?_⟩, ?_, ?_, rfl⟩
    · simp only [hts]
      exact gr_new hF f2 f3 _
    · simp only [hts]
      rw [keysA_snoc, if_neg (fun h => by
        rw [← hKy] at h
        obtain ⟨x, hx, e⟩ := List.mem_map.1 h
        exact f2 x hx e), List.map_append, hKy]; rfl
    · simp only [fwA, seval, gfw, hwi]
    · simp only [hts]
      rw [gr_new_map f2 f3, List.set_append_left _ _ (by omega), hset]
      simp
  · have hm := List.mem_of_getElem? f1
    have hjl := gr_len hF hm
    simp only at hjl
    have hrow : (K ++ [Blk.box p.enc])[H.length + 1 + j]? = some (.row 1 (((fl (dcP bk (c.take i)) p.a).map encB).flatten)) := by
      rw [List.getElem?_append_left (by omega), g8]; exact hF.k4 _ hm
    have gvw : ((K ++ [Blk.box p.enc]).set (H.length + 1 + j) Blk.dead)[K.length]? = some (.box p.enc) := by rw [List.getElem?_set_ne (by omega)]; exact gq
    have hfl : (fl (dcP bk (c.take i)) p.a).length ≤ 10000000 := by
      have h1 : (fl (dcP bk (c.take i)) p.a).length ≤ (dcP bk (c.take i)).length := List.length_filter_le _ _
      omega
    refine awp_drawnX (some (H.length + 1 + j)) [0, 0, 4, 0, 0, 1, 1, 0, 1, 0, 5, 2] [0, 0, 2, 0, 0, 16, 56, 0, 128, 384, 1016, 2047] mixed rfl (by kernel_rfl) ?_
    refine dops_run 6 (by simp only [fwA, seval, gfw, bx, dx, bitfw, Int.reduceEq, Int.reduceNeg, Int.reduceToNat, Int.reduceLE, Int.reduceLT, gvw, gq] <;> rfl) ?_
    refine dops_reads (.row (H.length + 1 + j) 0 (fl (dcP bk (c.take i)) p.a).length 1) rfl rfl (fun A' hev => os_lookup (r := some (k, .row (H.length + 1 + j) 0 (fl (dcP bk (c.take i)) p.a).length 1)) (z := .any) rfl un114 un28 (by rw [hev _ (by simp [Op.operands])]; rfl) ((hev _ (by simp [Op.operands])).trans rfl) (g5' _) (by rw [hev _ (by simp [Op.operands])]; exact (mfind1 p.a _ 0).trans (by rw [f2])) (fun h => by cases h) ⟨rfl, rfl⟩) ?_
    refine dops_run 3 (by simp only [fwA, seval, gfw, bx, dx, bitfw, Int.reduceEq, Int.reduceNeg, Int.reduceToNat, Int.reduceLE, Int.reduceLT, gq] <;> rfl) ?_
    refine dops_appendX (n := 1) (es := [encB p]) (f := true) rfl rfl rfl un49 ti28 un49 (.inl ⟨_, rfl⟩) rfl hrow (by rw [flat_len encB_len]; exact (Nat.zero_add _).symm) rfl rfl (fun e he => by
      simp only [List.mem_singleton] at he
      subst he; rfl) rfl (by show (_ + 1) * 8 ≤ _; omega) (by show _ + 1 ≤ _; omega) rfl (by show _ < (K ++ [Blk.box p.enc]).length; rw [List.length_append]; omega) ?_
    refine dops_turns (H' := ((K ++ [Blk.box p.enc]).set (H.length + 1 + j) (.row 1 (((fl (dcP bk (c.take i)) p.a).map encB).flatten ++ encB p))).set H.length (.map (((mapR (H.length + 1) es (dcP bk (c.take i))).set k (p.a, PV.row (H.length + 1 + j) 0 ((fl (dcP bk (c.take i)) p.a).length + 1) 1)).map enc1))) .any rfl rfl (fun A' hev => os_mapUpdate (r := some (k, .row (H.length + 1 + j) 0 (fl (dcP bk (c.take i)) p.a).length 1)) (.inl rfl) un114 un28 (by rw [hev _ (by simp [Op.operands])]; rfl) ((hev _ (by simp [Op.operands])).trans rfl) (by rw [List.getElem?_set_ne (by omega)]; exact g5' _) (by rw [hev _ (by simp [Op.operands])]; exact (mfind1 p.a _ 0).trans (by rw [f2])) ⟨rfl, by
      rw [hev _ (by simp [Op.operands]), hev _ (by simp [Op.operands]), List.map_set]
      rfl⟩) ?_
    refine dops_end ?_
    refine awp_run rfl (by simp only [fwA, seval] <;> rfl) ?_
    refine ⟨(i + 1, es, (L ++ [Blk.box p.enc]).set j (.row 1 (((fl (dcP bk (c.take i)) p.a).map encB).flatten ++ encB p))), by simp only; omega, ⟨by simp only; omega, ?_, ?_⟩, ?_, ?_, rfl⟩
    · simp only [hts]
      exact gr_old hF f1 _
    · simp only [hts]
      rw [keysA_snoc, if_pos (by rw [← hKy]; exact List.mem_map.2 ⟨_, hm, rfl⟩), hKy]
    · simp only [fwA, seval, gfw, hwi]
    · simp only [hts]
      rw [gr_old_map hF f1, List.set_append_left _ _ (by omega), List.set_append_left _ _ (by rw [List.length_set]; omega), hset8 _ _ _, List.set_append_left _ _ hjl]
      simp
/- (chancel/closed.graph).from -/
theorem c74 (Γ : Nat → PV) (m : Nat) (a : Int) (H : List Blk) (hm : m < H.length) : ACalls Tryz.prog Γ 74 [.map m, .int .i64 a] H (fun p H' => p = .func (.func 114) [] [.ptr (H.length + 1) 0, .ptr H.length 0] ∧ H' = H ++ [.box [.map m], .box [.int .i64 a]]) := by
  refine acalls_of_awp Tryz.func74 rfl (by simp [Tryz.f74]) fun hbd => ?_
  refine awp_seq ?_
  refine awp_run rfl (by simp only [fwA, seval, gfw, bx, dx, bitfw, Int.reduceEq, Int.reduceNeg, Int.reduceToNat, Int.reduceLE, Int.reduceLT] <;> rfl) ?_
  refine awp_seq ?_
  refine awp_run rfl (by simp only [fwA, seval, gfw, bx, dx, bitfw, Int.reduceEq, Int.reduceNeg, Int.reduceToNat, Int.reduceLE, Int.reduceLT] <;> rfl) ?_
  refine awp_ret ?_
  have e : H ++ [Blk.box [.map m], .box [.int .i64 a]] = (H ++ [Blk.box [.map m], .box [.int .i64 a]]) ++ [] := by simp
  rw [e]
  exact calls_cut (p := .func (.func 114) [] [.ptr (H.length + 1) 0, .ptr H.length 0]) (H ++ [Blk.box [.map m], .box [.int .i64 a]]) [] (.inl rfl) (bd_app hbd (by simp [Blk.bd, PV.bdL, PV.bd]; omega)) rfl (by simp [PV.bd, PV.bdL]) (by simp) ⟨rfl, by simp⟩
end Go.Proofs.YteicbhkimepbaaaGreatDoor

/- The contract of the ways' loop. -/
namespace Go.Proofs.YteicbhkimepbaaaGreatDoor
set_option linter.unusedVariables false
set_option linter.unusedSimpArgs false
set_option maxRecDepth 100000
open Go.RowKit Fw

theorem find1_cons (a : Int) (x : Int × PV) (es : List (Int × PV)) (i : Nat) : find1 a (x :: es) i = if a = x.1 then some (i, x.2) else find1 a es (i + 1) := rfl
theorem find1_ge {a : Int} : ∀ {es : List (Int × PV)} {j k : Nat} {w : PV}, find1 a es j = some (k, w) → j ≤ k
  | [], _, _, _, h => by cases h
  | z :: es, j, k, w, h => by
    rw [find1_cons] at h
    split at h
    · cases h; exact Nat.le_refl _
    · have := find1_ge h; omega
theorem find1_set {a : Int} {v : PV} : ∀ {es : List (Int × PV)} {k i : Nat} {v0 : PV}, find1 a es i = some (i + k, v0) → ∀ y, find1 y (es.set k (a, v)) i = if y = a then some (i + k, v) else find1 y es i
  | [], k, i, v0, h, y => by cases h
  | x :: es, 0, i, v0, h, y => by
    have hx : a = x.1 := by
      rw [find1_cons] at h
      by_cases e : a = x.1
      · exact e
      · rw [if_neg e] at h
        have := find1_ge h
        omega
    rw [List.set_cons_zero, find1_cons, find1_cons]
    by_cases e : y = a
    · rw [if_pos e, if_pos e]; rfl
    · rw [if_neg e, if_neg e, if_neg (fun h => e (h.trans hx.symm))]
  | x :: es, k + 1, i, v0, h, y => by
    rw [List.set_cons_succ, find1_cons, find1_cons]
    rw [find1_cons] at h
    by_cases e : a = x.1
    · rw [if_pos e] at h
      have := congrArg (Option.map (·.1)) h
      simp at this
    · rw [if_neg e, show i + (k + 1) = i + 1 + k by omega] at h
      have ih := find1_set (v := v) h y
      by_cases e2 : y = x.1
      · rw [if_pos e2, if_neg (fun h => e (h.symm.trans e2)), if_pos e2]
      · rw [if_neg e2, ih, if_neg e2, show i + 1 + k = i + (k + 1) by omega]
theorem find1_snoc {a : Int} {v : PV} : ∀ {es : List (Int × PV)} {i : Nat}, find1 a es i = none → ∀ y, find1 y (es ++ [(a, v)]) i = if y = a then some (i + es.length, v) else find1 y es i
  | [], i, _, y => by
    rw [List.nil_append, find1_cons]; rfl
  | x :: es, i, h, y => by
    rw [find1_cons] at h
    by_cases e : a = x.1
    · rw [if_pos e] at h; cases h
    · rw [if_neg e] at h
      have ih := find1_snoc (v := v) h y
      rw [List.cons_append, find1_cons, find1_cons]
      by_cases e2 : y = x.1
      · rw [if_pos e2, if_neg (fun h => e (h.symm.trans e2)), if_pos e2]
      · rw [if_neg e2, if_neg e2, ih, List.length_cons, show i + 1 + es.length = i + (es.length + 1) by omega]
/-- A map that counts what was met. -/
def MetOk (es : List (Int × PV)) (m : List Int) (T : Nat) : Prop := ∀ x : Int, (find1 x es 0 = none ∧ x ∉ m) ∨ ∃ (k n : Nat), find1 x es 0 = some (k, .int .i64 (n : Int)) ∧ 1 ≤ n ∧ n ≤ T ∧ x ∈ m
theorem met_one (a : Int) : MetOk [(a, .int .i64 1)] [a] 1 := fun x => by
  by_cases e : x = a
  · exact .inr ⟨0, 1, by unfold find1; rw [if_pos e]; rfl, Nat.le_refl _, Nat.le_refl _, by simp [e]⟩
  · exact .inl ⟨by unfold find1; rw [if_neg e]; rfl, by simpa using e⟩
theorem met_more {es : List (Int × PV)} {m : List Int} {T T' : Nat} (h : MetOk es m T) (hT : T ≤ T') : MetOk es m T' := fun x => (h x).imp id fun ⟨k, n, h1, h2, h3, h4⟩ => ⟨k, n, h1, h2, by omega, h4⟩
/-- One more is met. -/
def metTo (es : List (Int × PV)) (y : Int) : List (Int × PV) := match find1 y es 0 with
  | none => es ++ [(y, .int .i64 1)]
  | some (k, .int _ n) => es.set k (y, .int .i64 (n + 1))
  | some (k, _) => es
theorem met_step {es : List (Int × PV)} {m : List Int} {T : Nat} (h : MetOk es m T) (p : Pr) : MetOk (metTo es p.b) (addB m p) (T + 1) := fun x => by
  unfold metTo addB
  rcases h p.b with ⟨h1, h2⟩ | ⟨k, n, h1, h2, h3, h4⟩
  · rw [h1, if_neg h2]
    simp only
    rw [find1_snoc h1]
    by_cases e : x = p.b
    · exact .inr ⟨_, 1, by rw [if_pos e]; rfl, Nat.le_refl _, by omega, by simp [e]⟩
    · rw [if_neg e]
      rcases h x with ⟨g1, g2⟩ | ⟨k, n, g1, g2, g3, g4⟩
      · exact .inl ⟨g1, by simp [g2, e]⟩
      · exact .inr ⟨k, n, g1, g2, by omega, by simp [g4]⟩
  · rw [h1, if_pos h4]
    simp only
    rw [find1_set (v := .int .i64 ((n : Int) + 1)) (by rw [Nat.zero_add]; exact h1)]
    by_cases e : x = p.b
    · exact .inr ⟨_, n + 1, by rw [if_pos e]; rfl, by omega, by omega, e ▸ h4⟩
    · rw [if_neg e]
      exact met_more h (Nat.le_succ _) x
theorem i1_flat (l : List Int) (n : Nat) : PV.bdL n ((l.map I1).flatten) = true := flat_bd (fun _ => rfl) l
theorem met_bd {es : List (Int × PV)} (h : (es.all fun x => x.2.bd 0) = true) (n : Nat) : (Blk.map (es.map enc1)).bd n = true := by
  unfold Blk.bd
  rw [List.all_eq_true] at h ⊢
  intro e he
  obtain ⟨x, hx, rfl⟩ := List.mem_map.1 he
  have := PV.bd_mono (Nat.zero_le n) _ (h x hx)
  show (true && x.2.bd n) = true
  rw [this]; rfl
theorem zero3 : zero1 Tryz.prog 3 = some (.int .i64 0) := by kernel_rfl
set_option maxHeartbeats 16000000 in
/- (chancel/closed.graph).from$1 -/
theorem c114 (Γ : Nat → PV) (ba bg gm : Nat) (a : Int) (c : List Pr) (g : List (Int × PV)) (hg : GraphOk c g) (hl : c.length ≤ 10000000) : AIterS Tryz.prog Γ 114 [.ptr ba 0, .ptr bg 0] (fun Hb => (Hb[ba]? = some (.box [.int .i64 a]) ∧ Hb[bg]? = some (.box [.map gm]) ∧ Hb[gm]? = some (.map (g.map enc1))) ∧ ∀ B ∈ Hb, B.bd Hb.length = true) 1 (fun Stop => ∀ Hb, Stop Hb → ∀ B ∈ Hb, B.bd Hb.length = true) ((abv c a).map I1) := by
  intro l n0 Inv Stop hSt hI Hb hInv
  refine acalls_of_awp Tryz.func114 rfl (by simp [Tryz.f114]) fun hbd => ?_
  obtain ⟨⟨⟨hN1, hN2, hN3⟩, _⟩, hn0, _⟩ := hI 0 Hb hInv
  refine awp_seq ?_
  refine awp_region rfl ?_
  refine aops_one rfl (os_makeMap rfl ?_)
  have hmap0 : (Hb ++ [Blk.map []])[Hb.length]? = some (.map []) := Fw.get_at0 _ _
  have ga0 : ∀ L, (Hb ++ L)[ba]? = some (.box [.int .i64 a]) := fun L => Fw.get_old L hN1
  refine aops_run 1 (by simp only [fwA, seval, gfw, bx, dx, bitfw, Int.reduceEq, Int.reduceNeg, Int.reduceToNat, Int.reduceLE, Int.reduceLT, ga0] <;> rfl) ?_
  refine aops_one rfl (os_mapUpdate (r := none) (.inr rfl) un91 un28 rfl rfl hmap0 rfl ?_)
  refine aops_run 2 (by simp only [fwA, seval, gfw, bx] <;> rfl) ?_
  refine aops_end ?_
  refine awp_seq ?_
  refine awp_region rfl ?_
  refine aops_run 1 (by simp only [fwA, seval, gfw, bx, dx, bitfw, Int.reduceEq, Int.reduceNeg, Int.reduceToNat, Int.reduceLE, Int.reduceLT, ga0] <;> rfl) ?_
  refine aops_one rfl (os_bsliceR rfl un49 ti28 (by decide) (by decide) rfl ?_)
  refine aops_run 1 (by simp only [fwA, seval, gfw, bx] <;> rfl) ?_
  refine aops_end ?_
  rw [hn0]
  refine awp_heap (H' := Hb ++ [.map (([(a, PV.int .i64 1)] : List (Int × PV)).map enc1), .row 1 (((bfs c a 0).map I1).flatten)]) (by simp [enc1, bfs, I1]) ?_
  refine awp_block ?_
  refine awp_for [0, 1, 2, 4, 5] (fun s : Nat × List Blk × List (Int × PV) => [.yld l, .ptr ba 0, .ptr bg 0, .map n0, .row (n0 + 1) s.1 ((bfs c a s.1).length - s.1) 1]) (fun s => s.2.1 ++ [.map (s.2.2.map enc1), .row 1 (((bfs c a s.1).map I1).flatten)]) (fun s => c.length + 1 - s.1) (fun s => s.1 ≤ (bfs c a s.1).length ∧ Inv s.1 s.2.1 ∧ MetOk s.2.2 (bfs c a s.1) (1 + s.1 * c.length) ∧ (s.2.2.all fun x => x.2.bd 0) = true) (0, Hb, [(a, PV.int .i64 1)]) (by simp only [fwA, seval, gfw]; rfl) rfl ⟨Nat.zero_le _, hInv, by simp only [Nat.zero_mul, Nat.add_zero]; exact met_one a, rfl⟩ fun ⟨i, Hk, es⟩ ⟨o1, o2, o3, o4⟩ => ?_
  simp only at o1 o2 o3 o4 ⊢
  obtain ⟨⟨⟨hN1, hN2, hN3⟩, hNb⟩, hnk, rec, cs, hlk, hpark, hround⟩ := hI i Hk o2
  have hml := bfs_len c a i
  have ga : ∀ L, (Hk ++ L)[ba]? = some (.box [.int .i64 a]) := fun L => Fw.get_old L hN1
  have gb : ∀ L, (Hk ++ L)[bg]? = some (.box [.map gm]) := fun L => Fw.get_old L hN2
  have gg : ∀ L, (Hk ++ L)[gm]? = some (.map (g.map enc1)) := fun L => Fw.get_old L hN3
  have gl : ∀ L, (Hk ++ L)[l]? = some (.loop rec cs) := fun L => Fw.get_old L hlk
  refine awp_seq ?_
  refine awp_seq ?_
  refine awp_run rfl (by simp only [fwA, seval, gfw, bx, dx, bitfw, Int.reduceEq, Int.reduceNeg, Int.reduceToNat, Int.reduceLE, Int.reduceLT] <;> rfl) ?_
  refine awp_cond (by simp only [fwA, seval] <;> rfl) ?_
  by_cases hc : (0 : Int) < (((bfs c a i).length - i : Nat) : Int)
  rotate_left
  · simp only [hc, decide_false, Bool.false_eq_true, ↓reduceIte]
    have hi : (bfs c a i).length ≤ i := by omega
    refine awp_exit ?_
    simp only [Post.block, Post.then, ↓reduceIte]
    refine calls_cut (p := .tup []) Hk _ (.inr rfl) hNb rfl rfl (by omega) (.inl ?_)
    rw [List.length_map, ← abv_eq hi, show (bfs c a i).length = i by omega]; exact o2
  simp only [hc, decide_true, ↓reduceIte]
  refine awp_skip ?_
  have hi : i < (bfs c a i).length := by omega
  obtain ⟨x, hx⟩ : ∃ x, (bfs c a i)[i]? = some x := ⟨_, List.getElem?_eq_getElem hi⟩
  have hxa : ((abv c a).map I1)[i]? = some [.int .i64 x] := by
    obtain ⟨r, e⟩ := bfs_le c a i (c.length + 1 - i)
    rw [show i + (c.length + 1 - i) = c.length + 1 by omega] at e
    rw [List.getElem?_map]
    unfold abv
    rw [e, List.getElem?_append_left hi, hx]; rfl
  have gm1 : ∀ B1 B2 : Blk, (Hk ++ [B1, B2])[n0]? = some B1 := fun B1 B2 => by rw [← hnk, Fw.get_at0]; rfl
  have gr1 : ∀ B1 B2 : Blk, (Hk ++ [B1, B2])[n0 + 1]? = some B2 := fun B1 B2 => by rw [← hnk, Fw.get_at]; rfl
  refine awp_join [0, 1, 2, 4, 5] (fun s : List Blk × List (Int × PV) => [.yld l, .ptr ba 0, .ptr bg 0, .map n0, .row (n0 + 1) i ((bfs c a (i + 1)).length - i) 1]) (fun s => s.1 ++ [.map (s.2.map enc1), .row 1 (((bfs c a (i + 1)).map I1).flatten)]) (fun s => Inv (i + 1) s.1 ∧ MetOk s.2 (bfs c a (i + 1)) (1 + (i + 1) * c.length) ∧ (s.2.all fun x => x.2.bd 0) = true) ?_ fun ⟨Hb', es'⟩ ⟨q1, q2, q3⟩ => ?_
  · refine awp_block ?_
    refine awp_seq ?_
    refine awp_region rfl ?_
    refine aops_run 1 (by simp only [fwA, seval, gfw, bx, dx, bitfw, Int.reduceEq, Int.reduceNeg, Int.reduceToNat, Int.reduceLE, Int.reduceLT] <;> rfl) ?_
    refine aops_one rfl (os_idxRow (i := 0) I1_len rfl el49 rfl rfl (gr1 _ _) (by omega) (by omega) ?_)
    refine aops_one rfl (os_loadRow (i := i) (y := x) (p := .int .i64 x) I1_len rfl ti28 rfl (gr1 _ _) (by omega) rfl hx rfl (by rw [if_neg (by decide)]; rfl) ?_)
    refine aops_run 1 (by simp only [fwA, seval, gfw, bx, dx, bitfw, Int.reduceEq, Int.reduceNeg, Int.reduceToNat, Int.reduceLE, Int.reduceLT] <;> rfl) ?_
    refine aops_end ?_
    refine awp_seq ?_
    refine awp_seq ?_
    refine awp_region rfl ?_
    refine aops_run 2 (by simp only [fwA, seval, gfw, bx, dx, bitfw, Int.reduceEq, Int.reduceNeg, Int.reduceToNat, Int.reduceLE, Int.reduceLT] <;> rfl) ?_
    refine aops_one rfl (os_yield rfl rfl (gl _) (by rw [hpark]; rfl) ((hround _ _ hxa).mono fun bo H' hq => ?_))
    obtain ⟨Hb', rfl, hq⟩ := hq
    refine aops_run 1 (by simp only [fwA, seval, gfw, bx, dx, bitfw, Int.reduceEq, Int.reduceNeg, Int.reduceToNat, Int.reduceLE, Int.reduceLT] <;> rfl) ?_
    refine aops_end ?_
    cases bo with
    | false =>
      simp only [Bool.false_eq_true, ↓reduceIte] at hq
      refine awp_cond (b := true) (by simp [alook, aput, ev]) ?_
      refine awp_ret ?_
      simp only [Post.block, Post.then]
      refine calls_cut (p := .tup []) Hb' _ (.inl rfl) (hSt _ hq.2) rfl rfl (by omega) (.inr hq)
    | true =>
    simp only [↓reduceIte] at hq
    refine awp_cond (b := false) (by simp [alook, aput, ev]) (awp_skip ?_)
    obtain ⟨⟨⟨hM1, hM2, hM3⟩, hMb⟩, hnb, _⟩ := hI (i + 1) Hb' hq
    have ga : ∀ L, (Hb' ++ L)[ba]? = some (.box [.int .i64 a]) := fun L => Fw.get_old L hM1
    have gb : ∀ L, (Hb' ++ L)[bg]? = some (.box [.map gm]) := fun L => Fw.get_old L hM2
    have gg : ∀ L, (Hb' ++ L)[gm]? = some (.map (g.map enc1)) := fun L => Fw.get_old L hM3
    have h43 := c43 Γ x
    have hTle : 1 + i * c.length ≤ 1 + (i + 1) * c.length := by rw [Nat.add_mul]; omega
    refine awp_join [0, 1, 2, 4, 5, 6] (fun _ : Unit => [.yld l, .ptr ba 0, .ptr bg 0, .map n0, .row (n0 + 1) i ((bfs c a i).length - i) 1, .int .i64 x]) (fun _ => Hb' ++ [.map (es.map enc1), .row 1 (((bfs c a i).map I1).flatten)]) (fun _ => ¬ (x < 0 ∧ x ≠ a)) ?_ fun _ hpt => ?_
    · refine awp_seq ?_
      by_cases hx0 : x < 0
      · by_cases hxe : x = a
        · have hdx : decide (x = a) = true := decide_eq_true hxe
          refine awp_region rfl ?_
          refine aops_run 1 (by simp only [fwA, seval, gfw, bx, dx, bitfw, Int.reduceEq, Int.reduceNeg, Int.reduceToNat, Int.reduceLE, Int.reduceLT, ga, hx0, hdx] <;> rfl) ?_
          refine aops_fn rfl rfl rfl en43 h43 ?_
          refine aops_run 5 (by simp only [fwA, seval, gfw, bx, dx, bitfw, Int.reduceEq, Int.reduceNeg, Int.reduceToNat, Int.reduceLE, Int.reduceLT, ga, hx0, hdx] <;> rfl) ?_
          refine aops_end ?_
          refine awp_cond (b := false) (by simp [alook, aput, ev]) (awp_skip ?_)
          exact ⟨(), fun h => h.2 hxe, by simp only [fwA, seval, gfw], rfl, rfl⟩
        · have eb : bfs c a (i + 1) = bfs c a i := by rw [bfs, hx]; simp only; rw [if_pos ⟨hx0, hxe⟩]
          refine awp_region rfl ?_
          refine aops_run 1 (by simp only [fwA, seval, gfw, bx, dx, bitfw, Int.reduceEq, Int.reduceNeg, Int.reduceToNat, Int.reduceLE, Int.reduceLT, ga, hx0, hxe] <;> rfl) ?_
          refine aops_fn rfl rfl rfl en43 h43 ?_
          refine aops_run 5 (by simp only [fwA, seval, gfw, bx, dx, bitfw, Int.reduceEq, Int.reduceNeg, Int.reduceToNat, Int.reduceLE, Int.reduceLT, ga, hx0, hxe] <;> rfl) ?_
          refine aops_end ?_
          refine awp_cond (b := true) (by simp [alook, aput, ev]) ?_
          refine awp_exit ?_
          refine ⟨(Hb', es), ⟨hq, by rw [eb]; exact met_more o3 hTle, o4⟩, ?_, ?_, rfl⟩
          · simp only [fwA, seval, gfw, eb]
          · simp only [eb]
      · refine awp_region rfl ?_
        refine aops_run 1 (by simp only [fwA, seval, gfw, bx, dx, bitfw, Int.reduceEq, Int.reduceNeg, Int.reduceToNat, Int.reduceLE, Int.reduceLT, ga, hx0] <;> rfl) ?_
        refine aops_fn rfl rfl rfl en43 h43 ?_
        refine aops_run 5 (by simp only [fwA, seval, gfw, bx, dx, bitfw, Int.reduceEq, Int.reduceNeg, Int.reduceToNat, Int.reduceLE, Int.reduceLT, ga, hx0] <;> rfl) ?_
        refine aops_end ?_
        refine awp_cond (b := false) (by simp [alook, aput, ev]) (awp_skip ?_)
        exact ⟨(), fun h => hx0 h.1, by simp only [fwA, seval, gfw], rfl, rfl⟩
    have eb : bfs c a (i + 1) = (fl c x).foldl addB (bfs c a i) := by rw [bfs, hx]; simp only; rw [if_neg hpt]; rfl
    have hfl : (fl c x).length ≤ c.length := List.length_filter_le _ _
    have hml' := bfs_len c a (i + 1)
    refine awp_join [0, 1, 2, 4, 5, 35, 36, 37] (fun f : Bool => [.yld l, .ptr ba 0, .ptr bg 0, .map n0, .row (n0 + 1) i ((bfs c a i).length - i) 1, .vec ((fl c x).map encB) f, .int .i64 ((fl c x).length : Int), .int .i64 0]) (fun _ => Hb' ++ [.map (es.map enc1), .row 1 (((bfs c a i).map I1).flatten)]) (fun _ => True) ?_ fun f _ => ?_
    · refine awp_region rfl ?_
      refine aops_run 2 (by simp only [fwA, seval, gfw, bx, dx, bitfw, Int.reduceEq, Int.reduceNeg, Int.reduceToNat, Int.reduceLE, Int.reduceLT, gb] <;> rfl) ?_
      rcases hg x with ⟨f1, f2⟩ | ⟨k, f1⟩
      · refine aops_one rfl (os_lookup (r := none) (z := .vec [] true) rfl un114 un28 rfl rfl (gg _) ((mfind1 x _ 0).trans (by rw [f1])) (fun _ => zero1_spec z49) ?_)
        refine aops_run 2 (by simp only [fwA, seval, gfw, bx] <;> rfl) ?_
        refine aops_end ?_
        exact ⟨true, trivial, by rw [f2]; rfl, rfl, rfl⟩
      · refine aops_one rfl (os_lookup (r := some (k, .vec ((fl c x).map encB) false)) (z := .any) rfl un114 un28 rfl rfl (gg _) ((mfind1 x _ 0).trans (by rw [f1])) (fun h => by cases h) ?_)
        refine aops_run 2 (by simp only [fwA, seval, gfw, bx] <;> rfl) ?_
        refine aops_end ?_
        exact ⟨false, trivial, by simp only [fwA, seval, gfw], rfl, rfl⟩
    refine awp_block ?_
    refine awp_for [0, 1, 2, 4, 5, 35, 36, 37] (fun s : Nat × List (Int × PV) => [.yld l, .ptr ba 0, .ptr bg 0, .map n0, .row (n0 + 1) i ((((fl c x).take s.1).foldl addB (bfs c a i)).length - i) 1, .vec ((fl c x).map encB) f, .int .i64 ((fl c x).length : Int), .int .i64 (s.1 : Int)]) (fun s => Hb' ++ [.map (s.2.map enc1), .row 1 (((((fl c x).take s.1).foldl addB (bfs c a i)).map I1).flatten)]) (fun s => (fl c x).length - s.1) (fun s => s.1 ≤ (fl c x).length ∧ MetOk s.2 (((fl c x).take s.1).foldl addB (bfs c a i)) (1 + i * c.length + s.1) ∧ (s.2.all fun x => x.2.bd 0) = true) (0, es) rfl rfl ⟨Nat.zero_le _, by simpa using o3, o4⟩ fun ⟨j, es2⟩ ⟨u1, u2, u3⟩ => ?_
    simp only at u1 u2 u3 ⊢
    obtain ⟨rr, hpre⟩ := foldB_pre ((fl c x).take j) (bfs c a i)
    have hmlen : i < (((fl c x).take j).foldl addB (bfs c a i)).length := by rw [hpre, List.length_append]; omega
    have hmlen2 : (((fl c x).take j).foldl addB (bfs c a i)).length ≤ (bfs c a (i + 1)).length := by
      rw [eb]
      conv => rhs; rw [← List.take_append_drop j (fl c x)]
      rw [List.foldl_append]
      obtain ⟨r2, e2⟩ := foldB_pre ((fl c x).drop j) (((fl c x).take j).foldl addB (bfs c a i))
      rw [e2, List.length_append]; omega
    generalize hm : ((fl c x).take j).foldl addB (bfs c a i) = m at u2 hmlen hmlen2 ⊢
    refine awp_seq ?_
    refine awp_run rfl (by simp only [fwA, seval, gfw, bx, dx, bitfw, Int.reduceEq, Int.reduceNeg, Int.reduceToNat, Int.reduceLE, Int.reduceLT] <;> rfl) ?_
    refine awp_seq ?_
    refine awp_cond (by simp only [fwA, seval] <;> rfl) ?_
    by_cases hcj : (j : Int) < (fl c x).length
    rotate_left
    · simp only [hcj, decide_false, Bool.false_eq_true, ↓reduceIte]
      refine awp_exit ?_
      have ej : j = (fl c x).length := by omega
      subst ej
      rw [List.take_length, ← eb] at hm
      subst hm
      refine ⟨(Hb', es2), ⟨hq, met_more u2 (by rw [Nat.add_mul]; omega), u3⟩, ?_, ?_, rfl⟩
      · simp only [fwA, seval, gfw]
      · rfl
    simp only [hcj, decide_true, ↓reduceIte]
    refine awp_skip ?_
    have hj : j < (fl c x).length := by omega
    obtain ⟨p, gp⟩ : ∃ p, (fl c x)[j]? = some p := ⟨_, List.getElem?_eq_getElem hj⟩
    have hts : ((fl c x).take (j + 1)).foldl addB (bfs c a i) = addB m p := by rw [take_snoc gp, List.foldl_append, hm]; rfl
    have hwj : IntKind.i64.wrap ((j : Int) + 1) = ((j + 1 : Nat) : Int) := wrapS j (by omega)
    have hiN : i * c.length ≤ 10000001 * 10000000 := Nat.mul_le_mul (by omega) hl
    refine awp_seq ?_
    refine awp_block ?_
    refine awp_seq ?_
    refine awp_run rfl (by simp only [fwA, seval, gfw, bx, dx, bitfw, Int.reduceEq, Int.reduceNeg, Int.reduceToNat, Int.reduceLE, Int.reduceLT, gp, encB, I1] <;> rfl) ?_
    have hmap : ∀ es B, (Hb' ++ [Blk.map es, B])[n0]? = some (.map es) := fun es B => by rw [← hnb, Fw.get_at0]; rfl
    have hrow : ∀ B1 B2, (Hb' ++ [B1, B2])[n0 + 1]? = some B2 := fun B1 B2 => by rw [← hnb, Fw.get_at]; rfl
    have hsetm : ∀ B1 B2 B3, (Hb' ++ [B1, B2]).set n0 B3 = Hb' ++ [B3, B2] := fun B1 B2 B3 => by rw [← hnb, Fw.set_at0]; rfl
    have hsetr : ∀ B1 B2 B3, (Hb' ++ [B1, B2]).set (n0 + 1) B3 = Hb' ++ [B1, B3] := fun B1 B2 B3 => by rw [← hnb, Fw.set_at]; rfl
    have hstep := met_step u2 p
    have hmm : ∀ (A B : List (Int × PV)), A = B → (Blk.map (A.map enc1)) = .map (B.map enc1) := fun A B e => by rw [e]
    rcases u2 p.b with ⟨f1, f2⟩ | ⟨k, n, f1, f2, f3, f4⟩
    · have hmt : metTo es2 p.b = es2 ++ [(p.b, .int .i64 1)] := by unfold metTo; rw [f1]
      have hadd : addB m p = m ++ [p.b] := by unfold addB; rw [if_neg f2]
      have hf2 : find1 p.b (metTo es2 p.b) 0 = some (es2.length, .int .i64 1) := by rw [hmt, find1_snoc f1, if_pos rfl, Nat.zero_add]
      refine awp_seq ?_
      refine awp_region rfl ?_
      refine aops_run 2 (by simp only [fwA, seval, gfw, bx, dx, bitfw, Int.reduceEq, Int.reduceNeg, Int.reduceToNat, Int.reduceLE, Int.reduceLT] <;> rfl) ?_
      refine aops_one rfl (os_lookup (r := none) (z := .int .i64 0) rfl un91 un28 rfl rfl (hmap _ _) ((mfind1 p.b _ 0).trans (by rw [f1])) (fun _ => zero1_spec zero3) ?_)
      refine aops_run 1 (by simp only [fwA, seval, gfw, bx, dx, bitfw, Int.reduceEq, Int.reduceNeg, Int.reduceToNat, Int.reduceLE, Int.reduceLT] <;> rfl) ?_
      refine aops_one rfl (os_mapUpdate (r := none) (.inl rfl) un91 un28 rfl rfl (hmap _ _) ((mfind1 p.b _ 0).trans (by rw [f1])) ?_)
      refine aops_end ?_
      refine awp_heap (H' := Hb' ++ [.map ((metTo es2 p.b).map enc1), .row 1 ((m.map I1).flatten)]) (by rw [hsetm, hmt, List.map_append]; rfl) ?_
      refine awp_seq ?_
      refine awp_region rfl ?_
      refine aops_run 2 (by simp only [fwA, seval, gfw, bx, dx, bitfw, Int.reduceEq, Int.reduceNeg, Int.reduceToNat, Int.reduceLE, Int.reduceLT] <;> rfl) ?_
      refine aops_one rfl (os_lookup (r := some (es2.length, .int .i64 1)) (z := .any) rfl un91 un28 rfl rfl (hmap _ _) ((mfind1 p.b _ 0).trans (by rw [hf2])) (fun h => by cases h) ?_)
      refine aops_run 1 (by simp only [fwA, seval, gfw, bx, dx, bitfw, Int.reduceEq, Int.reduceNeg, Int.reduceToNat, Int.reduceLE, Int.reduceLT] <;> rfl) ?_
      refine aops_end ?_
      refine awp_cond (b := true) (by simp [alook, aput, ev, gotOr]) ?_
      refine awp_region rfl ?_
      refine aops_run 3 (by simp only [fwA, seval, gfw, bx, dx, bitfw, Int.reduceEq, Int.reduceNeg, Int.reduceToNat, Int.reduceLE, Int.reduceLT] <;> rfl) ?_
      refine aops_one rfl (os_appendR (n := 1) (xs := [.int .i64 p.b]) rfl un49 ti28 un49 (.inl ⟨_, rfl⟩) rfl (hrow _ _) (by rw [flat_len I1_len]; show m.length * 1 = i + (m.length - i) * 1; omega) rfl (fun es f h e he => by
        simp only [fwA, seval, PV.vec.injEq] at h
        obtain ⟨rfl, rfl⟩ := h
        simp only [List.mem_singleton] at he
        subst he; rfl) rfl (by show (_ + 1) * 8 ≤ _; omega) (by omega) ?_)
      refine aops_run 1 (by simp only [fwA, seval, gfw, bx, dx, bitfw, Int.reduceEq, Int.reduceNeg, Int.reduceToNat, Int.reduceLE, Int.reduceLT] <;> rfl) ?_
      refine aops_end ?_
      refine awp_run rfl (by simp only [fwA, seval] <;> rfl) ?_
      refine ⟨(j + 1, metTo es2 p.b), by simp only; omega, ⟨by simp only; omega, ?_, ?_⟩, ?_, ?_, rfl⟩
      · simp only [hts]; exact hstep
      · simp only [hmt, List.all_append, u3]; rfl
      · simp only [fwA, seval, gfw, hwj, hts, hadd, List.length_append, List.length_cons, List.length_nil]
        rw [show m.length - i + 1 = m.length + 1 - i by omega]
      · simp only [hts, hadd]
        rw [hsetr, List.map_append, List.flatten_append]; rfl
    · have hmt : metTo es2 p.b = es2.set k (p.b, .int .i64 ((n : Int) + 1)) := by unfold metTo; rw [f1]
      have hadd : addB m p = m := by unfold addB; rw [if_pos f4]
      have hf2 : find1 p.b (metTo es2 p.b) 0 = some (k, .int .i64 ((n : Int) + 1)) := by rw [hmt, find1_set (v := .int .i64 ((n : Int) + 1)) (by rw [Nat.zero_add]; exact f1), if_pos rfl, Nat.zero_add]
      have hwn : IntKind.i64.wrap ((n : Int) + 1) = (n : Int) + 1 := wrapId ⟨by omega, by omega⟩
      have hn1 : ¬ ((n : Int) + 1 = 1) := by omega
      refine awp_seq ?_
      refine awp_region rfl ?_
      refine aops_run 2 (by simp only [fwA, seval, gfw, bx, dx, bitfw, Int.reduceEq, Int.reduceNeg, Int.reduceToNat, Int.reduceLE, Int.reduceLT] <;> rfl) ?_
      refine aops_one rfl (os_lookup (r := some (k, .int .i64 (n : Int))) (z := .any) rfl un91 un28 rfl rfl (hmap _ _) ((mfind1 p.b _ 0).trans (by rw [f1])) (fun h => by cases h) ?_)
      refine aops_run 1 (by simp only [fwA, seval, gfw, bx, dx, bitfw, Int.reduceEq, Int.reduceNeg, Int.reduceToNat, Int.reduceLE, Int.reduceLT, hwn, gotOr] <;> rfl) ?_
      refine aops_one rfl (os_mapUpdate (r := some (k, .int .i64 (n : Int))) (.inl rfl) un91 un28 rfl rfl (hmap _ _) ((mfind1 p.b _ 0).trans (by rw [f1])) ?_)
      refine aops_end ?_
      refine awp_heap (H' := Hb' ++ [.map ((metTo es2 p.b).map enc1), .row 1 ((m.map I1).flatten)]) (by rw [hsetm, hmt, List.map_set]; rfl) ?_
      refine awp_seq ?_
      refine awp_region rfl ?_
      refine aops_run 2 (by simp only [fwA, seval, gfw, bx, dx, bitfw, Int.reduceEq, Int.reduceNeg, Int.reduceToNat, Int.reduceLE, Int.reduceLT] <;> rfl) ?_
      refine aops_one rfl (os_lookup (r := some (k, .int .i64 ((n : Int) + 1))) (z := .any) rfl un91 un28 rfl rfl (hmap _ _) ((mfind1 p.b _ 0).trans (by rw [hf2])) (fun h => by cases h) ?_)
      refine aops_run 1 (by simp only [fwA, seval, gfw, bx, dx, bitfw, Int.reduceEq, Int.reduceNeg, Int.reduceToNat, Int.reduceLE, Int.reduceLT, hn1, gotOr] <;> rfl) ?_
      refine aops_end ?_
      refine awp_cond (b := false) (by simp [alook, aput, ev]) (awp_skip ?_)
      refine awp_run rfl (by simp only [fwA, seval] <;> rfl) ?_
      refine ⟨(j + 1, metTo es2 p.b), by simp only; omega, ⟨by simp only; omega, ?_, ?_⟩, ?_, ?_, rfl⟩
      · simp only [hts]; exact hstep
      · simp only [hmt]
        rw [List.all_eq_true] at u3 ⊢
        intro e he
        rcases List.mem_or_eq_of_mem_set he with h | rfl
        · exact u3 e h
        · rfl
      · simp only [fwA, seval, gfw, hwj, hts, hadd]
      · simp only [hts, hadd]
  simp only
  have hbl : i < (bfs c a (i + 1)).length := by obtain ⟨r, e⟩ := bfs_pre c a i; rw [e, List.length_append]; omega
  obtain ⟨_, hnb, _⟩ := hI (i + 1) Hb' q1
  have hrow : ∀ B1 B2, (Hb' ++ [B1, B2])[n0 + 1]? = some B2 := fun B1 B2 => by rw [← hnb, Fw.get_at]; rfl
  refine awp_region rfl ?_
  refine aops_run 1 (by simp only [fwA, seval, gfw, bx, dx, bitfw, Int.reduceEq, Int.reduceNeg, Int.reduceToNat, Int.reduceLE, Int.reduceLT] <;> rfl) ?_
  refine aops_one rfl (os_sliceSuf (l := 1) rfl el49 rfl rfl (by omega) (hrow _ _) (by rw [flat_len I1_len]; omega) ?_)
  refine aops_run 1 (by simp only [fwA, seval, gfw, bx, dx, bitfw, Int.reduceEq, Int.reduceNeg, Int.reduceToNat, Int.reduceLE, Int.reduceLT] <;> rfl) ?_
  refine aops_end ?_
  refine ⟨(i + 1, Hb', es'), by simp only; omega, ⟨by simp only; omega, q1, q2, q3⟩, ?_, rfl, rfl⟩
  simp only [fwA, seval, gfw, Nat.one_mul, Nat.sub_sub]
end Go.Proofs.YteicbhkimepbaaaGreatDoor

/- The contracts of whether a way leads; of the bounds. -/
namespace Go.Proofs.YteicbhkimepbaaaGreatDoor
set_option linter.unusedVariables false
set_option linter.unusedSimpArgs false
set_option maxRecDepth 100000
open Go.RowKit Fw

theorem blk_mono {m n : Nat} (h : m ≤ n) {B : Blk} (hB : B.bd m = true) : B.bd n = true := bd_app.Blk.bd_mono h hB
/-- The end of a function behind a loop over a function. -/
theorem range_end {P : Program} {Γ : Nat → PV} {fn : Func} {p : PV} {H L : List Blk} {A' : List (Nat × PV)} {k : Nat} (hL : L[k]? = some .dfr) (h : ares P Γ A' (H ++ L) fn.results.toList = some p) :
    (Exit.ret = .ret ∨ Exit.ret = .normal) ∧ [H.length + k].Nodup ∧ (∀ b ∈ [H.length + k], (H ++ L)[b]? = some .dfr ∧ H.length ≤ b) ∧ ares P Γ A' (H ++ L) fn.results.toList = some p ∧ ∃ L', H ++ L = H ++ L' :=
  ⟨.inl rfl, by simp, fun b hb => by
    simp only [List.mem_singleton] at hb
    subst hb
    exact ⟨by rw [Fw.get_at]; exact hL, by omega⟩, h, L, rfl⟩
theorem contains_at {l : List Int} {b : Int} (h : ∀ j, j < l.length → l[j]? ≠ some b) : l.contains b = false := by
  cases e : l.contains b
  · rfl
  · rw [List.contains_iff_mem] at e
    obtain ⟨j, hj⟩ := List.mem_iff_getElem?.1 e
    exact absurd hj (h j (List.getElem?_eq_some_iff.1 hj).1)
set_option maxHeartbeats 8000000 in
/- chancel/closed.Reach -/
theorem c26 (Γ : Nat → PV) (c : List Pr) (a b : Int) (hl : c.length ≤ 10000000) : Gives Tryz.prog Γ 26 [.vec (c.map Pr.enc) false, .int .i64 a, .int .i64 b] (.bool (rchB c a b)) := by
  refine fn_of_awp Tryz.func26 rfl (by simp [Tryz.f26]) rfl fun H => ?_
  refine awp_bd fun hbd => ?_
  refine awp_seq ?_
  refine awp_run rfl (by simp only [fwA, seval, gfw, bx, dx, bitfw, Int.reduceEq, Int.reduceNeg, Int.reduceToNat, Int.reduceLE, Int.reduceLT] <;> rfl) ?_
  refine awp_seq ?_
  refine awp_seq ?_
  refine awp_region rfl ?_
  refine aops_run 1 (by simp only [fwA, seval, gfw, bx, dx, bitfw, Int.reduceEq, Int.reduceNeg, Int.reduceToNat, Int.reduceLE, Int.reduceLT] <;> rfl) ?_
  refine aops_call rfl rfl rfl en73 ((c73 Γ c false hl _).mono fun p H' hp => ?_)
  obtain ⟨rfl, rfl⟩ := hp
  have hg := graphV_ok c
  have hgb := graphV_bd c 0
  rw [show dcP false c = c from rfl]
  generalize graphV c = g at hg hgb ⊢
  refine aops_run 1 (by simp only [fwA, seval, gfw, bx, dx, bitfw, Int.reduceEq, Int.reduceNeg, Int.reduceToNat, Int.reduceLE, Int.reduceLT] <;> rfl) ?_
  refine aops_call rfl rfl rfl en74 ((c74 Γ (H.length + 2) a _ (by simp)).mono fun p H' hp => ?_)
  obtain ⟨rfl, rfl⟩ := hp
  refine aops_end ?_
  have hg' : GraphOk c g := hg
  refine awp_heap (H' := H ++ [Blk.box [.int .i64 b], .box [.bool false], .map (g.map enc1), .box [.map (H.length + 2)], .box [.int .i64 a]]) (by simp) ?_
  have hbdK : ∀ bb : Bool, ∀ B ∈ H ++ [Blk.box [.int .i64 b], .box [.bool bb], .map (g.map enc1), .box [.map (H.length + 2)], .box [.int .i64 a]], B.bd (H ++ [Blk.box [.int .i64 b], .box [.bool bb], .map (g.map enc1), .box [.map (H.length + 2)], .box [.int .i64 a]]).length = true := fun bb => bd_app hbd (by
    simp only [List.all_cons, List.all_nil, Bool.and_true, Bool.and_eq_true]
    exact ⟨rfl, rfl, blk_mono (Nat.zero_le _) hgb, by simp [Blk.bd, PV.bdL, PV.bd], rfl⟩)
  refine awp_block ?_
  refine awp_rangeFuncS (gf := 114) (caps := [.ptr (H.length + 4) 0, .ptr (H.length + 3) 0]) (by simp only [fwA, seval, List.length_append, List.length_cons, List.length_nil] <;> rfl) en114 (c114 Γ (H.length + 4) (H.length + 3) (H.length + 2) a c g hg' hl) (by simp [Tryz.f26])
    (fun i Hf => Hf = H ++ [Blk.box [.int .i64 b], .box [.bool false], .map (g.map enc1), .box [.map (H.length + 2)], .box [.int .i64 a]] ∧ ∀ j, j < i → (abv c a)[j]? ≠ some b)
    (fun cc Hf => cc = .ret ∧ rchB c a b = true ∧ Hf = H ++ [Blk.box [.int .i64 b], .box [.bool true], .map (g.map enc1), .box [.map (H.length + 2)], .box [.int .i64 a]]) (fun Stop h Hb hs => by
      obtain ⟨cc, Hf, ⟨_, _, rfl⟩, L, rfl, hL, hLb⟩ := h Hb hs
      intro B hB
      rcases List.mem_append.1 hB with hB | hB
      · exact blk_mono (by simp) (hbdK true B hB)
      · have := hLb B hB
        refine blk_mono ?_ this
        simp [hL]) ⟨rfl, fun j hj => by omega⟩ ?_ ?_ ?_ ?_
  · rintro i Hf ⟨rfl, _⟩
    refine ⟨rfl, fun L hL => ⟨⟨?_, ?_, ?_⟩, fun B hB => ?_⟩⟩
    · rw [List.append_assoc, Fw.get_at]; rfl
    · rw [List.append_assoc, Fw.get_at]; rfl
    · rw [List.append_assoc, Fw.get_at]; rfl
    · rcases List.mem_append.1 hB with hB | hB
      · exact blk_mono (by simp <;> omega) (hbdK false B hB)
      · exact blk_mono (by simp <;> omega) (hL B hB)
  · rintro i x Hf L L' ro hx ⟨rfl, hj⟩ hL hL' hbd1 hbd2
    obtain ⟨y, hy, rfl⟩ : ∃ y, (abv c a)[i]? = some y ∧ x = I1 y := by
      rw [List.getElem?_map] at hx
      obtain ⟨y, hy, e⟩ := Option.map_eq_some_iff.1 hx
      exact ⟨y, hy, e.symm⟩
    refine awp_less (A' := [(5, .ptr H.length 0), (6, .ptr (H.length + 1) 0), (12, .int .i64 y)]) (fun u => zip_look [5, 6, 12] [.ptr H.length 0, .ptr (H.length + 1) 0, .int .i64 y] u _ (by simp only [fwA, seval, gfw] <;> rfl)) ?_
    refine awp_run rfl (by simp only [fwA, seval, gfw, bx, dx, bitfw, Int.reduceEq, Int.reduceNeg, Int.reduceToNat, Int.reduceLE, Int.reduceLT] <;> rfl) ?_
    refine ⟨rfl, H ++ [Blk.box [.int .i64 b], .box [.bool false], .map (g.map enc1), .box [.map (H.length + 2)], .box [.int .i64 a]], [], by simp, by simp, ?_⟩
    refine awp_heap (H' := H ++ ([Blk.box [.int .i64 b], .box [.bool false], .map (g.map enc1), .box [.map (H.length + 2)], .box [.int .i64 a]] ++ L')) (by simp) ?_
    refine awp_block ?_
    refine awp_seq ?_
    refine awp_run rfl (by simp only [fwA, seval, gfw, bx, dx, bitfw, Int.reduceEq, Int.reduceNeg, Int.reduceToNat, Int.reduceLE, Int.reduceLT, List.cons_append] <;> rfl) ?_
    by_cases hyb : y = b
    · refine awp_cond (b := true) (by simp [alook, aput, ev, hyb]) ?_
      refine awp_seq ?_
      refine awp_run rfl (by simp only [fwA, seval, gfw, bx, dx, bitfw, Int.reduceEq, Int.reduceNeg, Int.reduceToNat, Int.reduceLE, Int.reduceLT, List.cons_append] <;> rfl) ?_
      refine awp_ret ?_
      refine ⟨H ++ [Blk.box [.int .i64 b], .box [.bool true], .map (g.map enc1), .box [.map (H.length + 2)], .box [.int .i64 a]], [], by simp, by simp, fun B hB => ?_, rfl, ?_, rfl⟩
      · exact blk_mono (by simp <;> omega) (hbdK true B hB)
      · unfold rchB
        rw [List.contains_iff_mem]
        exact hyb ▸ List.mem_of_getElem? hy
    · refine awp_cond (b := false) (by simp [alook, aput, ev, hyb]) (awp_skip ?_)
      refine ⟨H ++ [Blk.box [.int .i64 b], .box [.bool false], .map (g.map enc1), .box [.map (H.length + 2)], .box [.int .i64 a]], [], by simp, by simp, fun B hB => ?_, rfl, fun j hj2 => ?_⟩
      · exact blk_mono (by simp <;> omega) (hbdK false B hB)
      · by_cases e : j = i
        · subst e; rw [hy]; exact fun h => hyb (Option.some.inj h)
        · exact hj j (by omega)
  · rintro Hf B ⟨rfl, hj⟩
    simp only [Post.block, Post.then]
    refine awp_heap (H' := H ++ ([Blk.box [.int .i64 b], .box [.bool false], .map (g.map enc1), .box [.map (H.length + 2)], .box [.int .i64 a]] ++ [.dfr, B])) (by simp) ?_
    refine awp_seq ?_
    refine awp_run rfl (by simp only [fwA, seval, gfw, bx, dx, bitfw, Int.reduceEq, Int.reduceNeg, Int.reduceToNat, Int.reduceLE, Int.reduceLT, List.cons_append, List.nil_append] <;> rfl) ?_
    refine awp_ret ?_
    rw [List.length_map] at hj
    have hr : rchB c a b = false := contains_at hj
    have hlen : (H ++ [Blk.box [.int .i64 b], .box [.bool false], .map (g.map enc1), .box [.map (H.length + 2)], .box [.int .i64 a]]).length = H.length + 5 := by simp
    rw [hlen, hr]
    exact range_end (k := 5) rfl (by simp [ares, aresL, ares1, alook, aput, Tryz.f26, rd, ev, ti4])
  · rintro cc Hf B ⟨rfl, hr, rfl⟩ _
    refine awp_ret ?_
    have hlen : (H ++ [Blk.box [.int .i64 b], .box [.bool false], .map (g.map enc1), .box [.map (H.length + 2)], .box [.int .i64 a]]).length = H.length + 5 := by simp
    rw [hlen, hr, List.append_assoc]
    exact range_end (k := 5) rfl (by simp [ares, aresL, ares1, alook, aput, Tryz.f26, rd, ev, ti4])
theorem range_endA {P : Program} {Γ : Nat → PV} {fn : Func} {p : PV} {R : PV → List Blk → Prop} {H L : List Blk} {A' : List (Nat × PV)} {k : Nat} (hL : L[k]? = some .dfr) (hbd : ∀ B ∈ H, B.bd H.length = true) (h : ares P Γ A' (H ++ L) fn.results.toList = some p) (hp : p.bd H.length = true) (hR : R p H) :
    RetQ P Γ fn H.length R .ret A' (H ++ L) [H.length + k] := by
  have ht : (H ++ L).take H.length = H := List.take_left' rfl
  exact ⟨.inl rfl, by simp, fun b hb => by
    simp only [List.mem_singleton] at hb
    subst hb
    rw [Fw.get_at]; exact hL, p, H.length, h, Nat.le_refl _, by simp, fun b hb => by
      simp only [List.mem_singleton] at hb
      omega, hp, by rw [ht]; exact hbd, by rw [ht]; exact hR⟩
theorem accL_snoc (f : Int → Int → Int) (s : Int) (xs : List Int) (x : Int) : accL f s (xs ++ [x]) = if x < 0 then f (accL f s xs) (-1 - x) else accL f s xs := by
  unfold accL; rw [List.foldl_append]; rfl
theorem abv_word {c : List Pr} {a x : Int} (ho : OkP c) (ha : I64 a) (h : x ∈ abv c a) : I64 x := by
  rcases rch_iff.1 (abv_mem.1 h) with rfl | hv
  · exact ha
  · cases hv with
    | one hp => exact (ho _ hp).2
    | more _ _ hp => exact (ho _ hp).2
set_option maxHeartbeats 8000000 in
/- chancel/closed.bound -/
theorem c77 (Γ : Nat → PV) (ns : List (List UInt8)) (us : List Nat) (F : Nat) (he : Enters Tryz.prog F) (f : Int → Int → Int) (hF : ∀ x y, Gives Tryz.prog Γ F [.agg [.vec (ns.map S1) false, .vec (us.map U1) false], .int .i64 x, .int .i64 y] (.int .i64 (f x y))) (c : List Pr) (g : List (Int × PV)) (hg : GraphOk c g) (hl : c.length ≤ 10000000) (ho : OkP c) (a : Int) (ha : I64 a) (s : Int) (H : List Blk) (gm : Nat) (hgm : H[gm]? = some (.map (g.map enc1))) :
    ACalls Tryz.prog Γ 77 [.agg [.vec (ns.map S1) false, .vec (us.map U1) false], .map gm, .int .i64 a, .int .i64 s, .func (.func F) [] []] H (fun q H' => q = .int .i64 (boundV ns.length f s c a) ∧ H' = H) := by
  have h43 := c43 Γ a
  have h52 := c52 Γ a ha
  have hgl := (List.getElem?_eq_some_iff.1 hgm).1
  refine acalls_of_awp Tryz.func77 rfl (by simp [Tryz.f77]) fun hbd => ?_
  refine awp_seq ?_
  refine awp_run rfl (by simp only [fwA, seval, gfw, bx, dx, bitfw, Int.reduceEq, Int.reduceNeg, Int.reduceToNat, Int.reduceLE, Int.reduceLT] <;> rfl) ?_
  refine awp_seq ?_
  refine awp_seq ?_
  refine awp_region rfl ?_
  refine aops_run 1 (by simp only [fwA, seval, gfw, bx, dx, bitfw, Int.reduceEq, Int.reduceNeg, Int.reduceToNat, Int.reduceLE, Int.reduceLT] <;> rfl) ?_
  refine aops_fn rfl rfl rfl en43 h43 ?_
  refine aops_end ?_
  by_cases h0 : a < 0
  · have hpo : pointOf a = -1 - a := by unfold pointOf; rw [if_neg (by omega)]
    rw [hpo] at h52
    refine awp_cond (b := true) (by simp [alook, aput, ev, h0]) ?_
    refine awp_seq ?_
    refine awp_seq ?_
    by_cases hn : (ns.length : Int) ≤ -1 - a
    · have hb : boundV ns.length f s c a = -1 := by unfold boundV ptN; rw [if_pos h0, if_pos hn]
      rw [hb]
      refine awp_drawn [0, 0, 0, 1, 0, 0] [0, 1, 0, 4, 12, 31] mixed rfl (by kernel_rfl) ?_
      refine dops_run 1 (by simp only [fwA, seval, gfw, bx, dx, bitfw, Int.reduceEq, Int.reduceNeg, Int.reduceToNat, Int.reduceLE, Int.reduceLT, hn] <;> rfl) ?_
      refine dops_fn rfl (by simp only [fwA, seval] <;> rfl) rfl rfl en52 h52 ?_
      refine dops_run 4 (by simp only [fwA, seval, gfw, bx, dx, bitfw, Int.reduceEq, Int.reduceNeg, Int.reduceToNat, Int.reduceLE, Int.reduceLT, hn] <;> rfl) ?_
      refine dops_end ?_
      refine awp_cond (b := true) (by simp [alook, aput, ev]) ?_
      refine awp_seq ?_
      refine awp_run rfl (by simp only [fwA, seval] <;> rfl) ?_
      refine awp_ret ?_
      simp only [Post.then]
      exact calls_end (p := .int .i64 (-1)) _ (.inl rfl) hbd rfl rfl ⟨rfl, rfl⟩
    · have hb : boundV ns.length f s c a = -1 - a := by unfold boundV ptN; rw [if_pos h0, if_neg hn]
      rw [hb]
      refine awp_drawn [0, 0, 0, 1, 0, 0] [0, 1, 0, 4, 12, 31] mixed rfl (by kernel_rfl) ?_
      refine dops_run 1 (by simp only [fwA, seval, gfw, bx, dx, bitfw, Int.reduceEq, Int.reduceNeg, Int.reduceToNat, Int.reduceLE, Int.reduceLT, hn] <;> rfl) ?_
      refine dops_fn rfl (by simp only [fwA, seval] <;> rfl) rfl rfl en52 h52 ?_
      refine dops_run 4 (by simp only [fwA, seval, gfw, bx, dx, bitfw, Int.reduceEq, Int.reduceNeg, Int.reduceToNat, Int.reduceLE, Int.reduceLT, hn] <;> rfl) ?_
      refine dops_end ?_
      refine awp_cond (b := false) (by simp [alook, aput, ev]) (awp_skip ?_)
      refine awp_seq ?_
      refine awp_region rfl ?_
      refine aops_run 1 (by simp only [fwA, seval, gfw, bx, dx, bitfw, Int.reduceEq, Int.reduceNeg, Int.reduceToNat, Int.reduceLE, Int.reduceLT] <;> rfl) ?_
      refine aops_fn rfl rfl rfl en52 h52 ?_
      refine aops_run 1 (by simp only [fwA, seval, gfw, bx, dx, bitfw, Int.reduceEq, Int.reduceNeg, Int.reduceToNat, Int.reduceLE, Int.reduceLT] <;> rfl) ?_
      refine aops_end ?_
      refine awp_ret ?_
      simp only [Post.then]
      exact calls_end (p := .int .i64 (-1 - a)) _ (.inl rfl) hbd rfl rfl ⟨rfl, rfl⟩
  have hb : boundV ns.length f s c a = accL f s (abv c a) := by unfold boundV; rw [if_neg h0]
  rw [hb]
  refine awp_cond (b := false) (by simp [alook, aput, ev, h0]) (awp_skip ?_)
  refine awp_seq ?_
  refine awp_run rfl (by simp only [fwA, seval, gfw, bx, dx, bitfw, Int.reduceEq, Int.reduceNeg, Int.reduceToNat, Int.reduceLE, Int.reduceLT] <;> rfl) ?_
  refine awp_seq ?_
  refine awp_seq ?_
  refine awp_region rfl ?_
  refine aops_run 2 (by simp only [fwA, seval, gfw, bx, dx, bitfw, Int.reduceEq, Int.reduceNeg, Int.reduceToNat, Int.reduceLE, Int.reduceLT] <;> rfl) ?_
  refine aops_call rfl rfl rfl en74 ((c74 Γ gm a _ (by simp; omega)).mono fun p H' hp => ?_)
  obtain ⟨rfl, rfl⟩ := hp
  refine aops_end ?_
  have hbdK : ∀ i, ∀ B ∈ H ++ [Blk.box [.vec (ns.map S1) false, .vec (us.map U1) false], .box [.func (.func F) [] []], .box [.int .i64 (accL f s ((abv c a).take i))], .box [.map gm], .box [.int .i64 a]], B.bd (H ++ [Blk.box [.vec (ns.map S1) false, .vec (us.map U1) false], .box [.func (.func F) [] []], .box [.int .i64 (accL f s ((abv c a).take i))], .box [.map gm], .box [.int .i64 a]]).length = true := fun i => bd_app hbd (by
    simp only [List.all_cons, List.all_nil, Bool.and_true, Bool.and_eq_true]
    exact ⟨rfl, rfl, rfl, by simp [Blk.bd, PV.bdL, PV.bd]; omega, rfl⟩)
  generalize hi0 : (0 : Nat) = i
  refine awp_heap (H' := H ++ [Blk.box [.vec (ns.map S1) false, .vec (us.map U1) false], .box [.func (.func F) [] []], .box [.int .i64 (accL f s ((abv c a).take i))], .box [.map gm], .box [.int .i64 a]]) (by subst hi0; simp [accL]) ?_
  subst hi0
  refine awp_block ?_
  refine awp_rangeFuncS (gf := 114) (caps := [.ptr (H.length + 4) 0, .ptr (H.length + 3) 0]) (by simp only [fwA, seval, List.length_append, List.length_cons, List.length_nil] <;> rfl) en114 (c114 Γ (H.length + 4) (H.length + 3) gm a c g hg hl) (by simp [Tryz.f77])
    (fun i Hf => i ≤ (abv c a).length ∧ Hf = H ++ [Blk.box [.vec (ns.map S1) false, .vec (us.map U1) false], .box [.func (.func F) [] []], .box [.int .i64 (accL f s ((abv c a).take i))], .box [.map gm], .box [.int .i64 a]])
    (fun _ _ => False) (fun Stop h Hb hs => by obtain ⟨_, _, hx, _⟩ := h Hb hs; exact hx.elim) ⟨Nat.zero_le _, rfl⟩ ?_ ?_ ?_ ?_
  · rintro i Hf ⟨_, rfl⟩
    refine ⟨by simp, fun L hL => ⟨⟨?_, ?_, ?_⟩, fun B hB => ?_⟩⟩
    · rw [List.append_assoc, Fw.get_at]; rfl
    · rw [List.append_assoc, Fw.get_at]; rfl
    · rw [List.append_assoc]; exact Fw.get_old _ hgm
    · rcases List.mem_append.1 hB with hB | hB
      · exact blk_mono (by simp <;> omega) (hbdK i B hB)
      · exact blk_mono (by simp <;> omega) (hL B hB)
  · rintro i x Hf L L' ro hx ⟨hil, rfl⟩ hL hL' hbd1 hbd2
    obtain ⟨y, hy, rfl⟩ : ∃ y, (abv c a)[i]? = some y ∧ x = I1 y := by
      rw [List.getElem?_map] at hx
      obtain ⟨y, hy, e⟩ := Option.map_eq_some_iff.1 hx
      exact ⟨y, hy, e.symm⟩
    have hil2 := (List.getElem?_eq_some_iff.1 hy).1
    have hts := take_snoc hy
    have h43y := c43 Γ y
    have h52y := c52 Γ y (abv_word ho ha (List.mem_of_getElem? hy))
    refine awp_less (A' := [(5, .ptr H.length 0), (9, .ptr (H.length + 1) 0), (11, .ptr (H.length + 2) 0), (27, .int .i64 y)]) (fun u => zip_look [5, 9, 11, 27] [.ptr H.length 0, .ptr (H.length + 1) 0, .ptr (H.length + 2) 0, .int .i64 y] u _ (by simp only [fwA, seval, gfw] <;> rfl)) ?_
    refine awp_run rfl (by simp only [fwA, seval, gfw, bx, dx, bitfw, Int.reduceEq, Int.reduceNeg, Int.reduceToNat, Int.reduceLE, Int.reduceLT] <;> rfl) ?_
    refine ⟨rfl, H ++ [Blk.box [.vec (ns.map S1) false, .vec (us.map U1) false], .box [.func (.func F) [] []], .box [.int .i64 (accL f s ((abv c a).take i))], .box [.map gm], .box [.int .i64 a]], [], by simp, by simp, ?_⟩
    refine awp_heap (H' := H ++ ([Blk.box [.vec (ns.map S1) false, .vec (us.map U1) false], .box [.func (.func F) [] []], .box [.int .i64 (accL f s ((abv c a).take i))], .box [.map gm], .box [.int .i64 a]] ++ L')) (by simp) ?_
    refine awp_block ?_
    refine awp_seq ?_
    refine awp_region rfl ?_
    refine aops_run 1 (by simp only [fwA, seval, gfw, bx, dx, bitfw, Int.reduceEq, Int.reduceNeg, Int.reduceToNat, Int.reduceLE, Int.reduceLT] <;> rfl) ?_
    refine aops_fn rfl rfl rfl en43 h43y ?_
    refine aops_end ?_
    by_cases hy0 : y < 0
    · have hpo : pointOf y = -1 - y := by unfold pointOf; rw [if_neg (by omega)]
      rw [hpo] at h52y
      refine awp_cond (b := true) (by simp [alook, aput, ev, hy0]) ?_
      refine awp_drawn [1, 1, 1, 0, 0, 0, 2] [0, 0, 0, 0, 8, 31, 63] mixed rfl (by kernel_rfl) ?_
      refine dops_run 4 (by simp only [fwA, seval, gfw, bx, dx, bitfw, Int.reduceEq, Int.reduceNeg, Int.reduceToNat, Int.reduceLE, Int.reduceLT, List.cons_append] <;> rfl) ?_
      refine dops_fn rfl (by simp only [fwA, seval] <;> rfl) rfl rfl en52 h52y ?_
      refine dops_fn rfl (by simp only [fwA, seval] <;> rfl) rfl rfl he (hF _ _) ?_
      refine dops_run 1 (by simp only [fwA, seval, gfw, bx, dx, bitfw, Int.reduceEq, Int.reduceNeg, Int.reduceToNat, Int.reduceLE, Int.reduceLT, List.cons_append] <;> rfl) ?_
      refine dops_end ?_
      refine ⟨H ++ [Blk.box [.vec (ns.map S1) false, .vec (us.map U1) false], .box [.func (.func F) [] []], .box [.int .i64 (accL f s ((abv c a).take (i + 1)))], .box [.map gm], .box [.int .i64 a]], [], by simp, ?_, fun B hB => ?_, by omega, rfl⟩
      · rw [hts, accL_snoc, if_pos hy0]; simp
      · exact blk_mono (by simp <;> omega) (hbdK (i + 1) B hB)
    · refine awp_cond (b := false) (by simp [alook, aput, ev, hy0]) (awp_skip ?_)
      refine ⟨H ++ [Blk.box [.vec (ns.map S1) false, .vec (us.map U1) false], .box [.func (.func F) [] []], .box [.int .i64 (accL f s ((abv c a).take (i + 1)))], .box [.map gm], .box [.int .i64 a]], [], by simp, ?_, fun B hB => ?_, by omega, rfl⟩
      · rw [hts, accL_snoc, if_neg hy0]; simp
      · exact blk_mono (by simp <;> omega) (hbdK (i + 1) B hB)
  · rintro Hf B ⟨_, rfl⟩
    rw [List.length_map, List.take_length]
    simp only [Post.block, Post.then]
    refine awp_heap (H' := H ++ [Blk.box [.vec (ns.map S1) false, .vec (us.map U1) false], .box [.func (.func F) [] []], .box [.int .i64 (accL f s (abv c a))], .box [.map gm], .box [.int .i64 a], .dfr, B]) (by simp) ?_
    have hlen : ∀ z : Int, (H ++ [Blk.box [.vec (ns.map S1) false, .vec (us.map U1) false], .box [.func (.func F) [] []], .box [.int .i64 z], .box [.map gm], .box [.int .i64 a]]).length = H.length + 5 := fun z => by simp
    rw [hlen]
    refine awp_seq ?_
    refine awp_run rfl (by simp only [fwA, seval, gfw, bx, dx, bitfw, Int.reduceEq, Int.reduceNeg, Int.reduceToNat, Int.reduceLE, Int.reduceLT, List.cons_append, List.nil_append] <;> rfl) ?_
    refine awp_ret ?_
    exact range_endA (p := .int .i64 (accL f s (abv c a))) (k := 5) rfl hbd (by simp [ares, aresL, ares1, alook, aput, Tryz.f77, rd, ev]) rfl ⟨rfl, rfl⟩
  · rintro cc Hf B hX _
    exact hX.elim
end Go.Proofs.YteicbhkimepbaaaGreatDoor

/- Rows: one element behind, what a call takes of one's own row. -/
namespace Go.Proofs.YteicbhkimepbaaaGreatDoor
set_option linter.unusedVariables false
set_option linter.unusedSimpArgs false
set_option maxRecDepth 100000
open Go.RowKit Fw
section
variable {P : Program} {Γ : Nat → PV} {ops : Array Oper} {cls : List Nat} {n0 : View}
theorem srcOf_one {H : List Blk} {sz : Nat} {e : List PV} {f : Bool} : srcOf H sz (.vec [e] f) = some e := by simp [srcOf]
theorem os_push {X : Type} {enc : X → List PV} {sz : Nat} (hE : ∀ x, (enc x).length = sz) {o : Oper} {K : PV → List Blk → Prop} {A : List (Nat × PV)} {H : List Blk} {x y : Operand} {t tx e e' : TypeId} {ti : TI} {b k : Nat} {l : List X} {z : X} {f : Bool}
    (ho : o.op = .call { callee := .builtin .append, args := #[x, y], argTypes := #[t, tx] }) (ht : P.underlying t = some (.slice e)) (he : tiOf P e = some ti) (hti : ti.size = sz) (htx : P.underlying tx = some (.slice e')) (hx : ev Γ A x = .row b 0 k sz) (hbk : H[b]? = some (.row sz ((l.map enc).flatten))) (hk' : k = l.length)
    (hy : ev Γ A y = .vec [enc z] f) (hbd : (k + 1) * ti.bytes ≤ 140737488355328) (hbd' : k + 1 ≤ 9223372036854775807)
    (hk : K (.row b 0 (k + 1) sz) (H.set b (.row sz (((l ++ [z]).map enc).flatten)))) : OStep P Γ o A H K := by
  subst hti
  refine os_appendR (n := 1) ho ht he htx (.inl ⟨_, rfl⟩) hx hbk (by rw [flat_len hE, hk', Nat.zero_add]) (by rw [hy]; exact srcOf_one) (fun es f' h e he => by
    rw [hy] at h
    cases h
    rw [List.mem_singleton] at he
    subst he; exact hE z) (by rw [hy]; rfl) hbd hbd' ?_
  rw [List.map_append, List.flatten_append] at hk
  simpa using hk
theorem aops_push {X : Type} {enc : X → List PV} {sz : Nat} (hE : ∀ x, (enc x).length = sz) {o : Oper} {Q : List (Nat × PV) → List Blk → Prop} {rest : List Oper} {A : List (Nat × PV)} {H H' : List Blk} {x y : Operand} {t tx e e' : TypeId} {ti : TI} {b k : Nat} {l : List X} {z : X} {f : Bool}
    (ho : o.op = .call { callee := .builtin .append, args := #[x, y], argTypes := #[t, tx] }) (hg : o.guard = none) (ht : P.underlying t = some (.slice e)) (he : tiOf P e = some ti) (hti : ti.size = sz) (htx : P.underlying tx = some (.slice e')) (hx : ev Γ A x = .row b 0 k sz) (hbk : H[b]? = some (.row sz ((l.map enc).flatten))) (hk' : k = l.length)
    (hy : ev Γ A y = .vec [enc z] f) (hbd : (k + 1) * ti.bytes ≤ 140737488355328) (hbd' : k + 1 ≤ 9223372036854775807) (hH : H.set b (.row sz (((l ++ [z]).map enc).flatten)) = H')
    (hk : AOps P Γ ops Q rest (aput A o.dst (.row b 0 (k + 1) sz)) H') : AOps P Γ ops Q (o :: rest) A H := by
  subst hH
  exact aops_one hg (os_push hE ho ht he hti htx hx hbk hk' hy hbd hbd' hk)
theorem dops_push {X : Type} {enc : X → List PV} {sz : Nat} (hE : ∀ x, (enc x).length = sz) {i : Nat} {o : Oper} {K : List (Nat × PV) → List Blk → Prop} {rest : List (Nat × Oper)} {A : List (Nat × PV)} {H H' : List Blk} {x y : Operand} {t tx e e' : TypeId} {ti : TI} {b k : Nat} {l : List X} {z : X} {f : Bool}
    (ho : o.op = .call { callee := .builtin .append, args := #[x, y], argTypes := #[t, tx] }) (hw : wantA ops A o = some true) (hc : cls.getD i 0 = 2) (ht : P.underlying t = some (.slice e)) (he : tiOf P e = some ti) (hti : ti.size = sz) (htx : P.underlying tx = some (.slice e')) (hx : ev Γ A x = .row b 0 k sz) (hbk : H[b]? = some (.row sz ((l.map enc).flatten))) (hk' : k = l.length)
    (hy : ev Γ A y = .vec [enc z] f) (hbd : (k + 1) * ti.bytes ≤ 140737488355328) (hbd' : k + 1 ≤ 9223372036854775807) (hH : H.set b (.row sz (((l ++ [z]).map enc).flatten)) = H')
    (hk : DOps P Γ ops cls n0 K rest (aput A o.dst (.row b 0 (k + 1) sz)) H') : DOps P Γ ops cls n0 K ((i, o) :: rest) A H := by
  subst hH
  exact dops_turns _ hw hc (fun A' hev => by
    have ex := hev x (call_ops ho (by simp))
    have ey := hev y (call_ops ho (by simp))
    exact os_push hE ho ht he hti htx (ex.trans hx) hbk hk' (ey.trans hy) hbd hbd' ⟨rfl, rfl⟩) hk
/-- A call takes one's own row: it ends. -/
theorem acalls_frz {f : FuncId} {args : List PV} {H : List Blk} {b sz : Nat} {C : List PV} {R : PV → List Blk → Prop} (hb : H[b]? = some (.row sz C)) (hp : PV.plainL C = true) (h : ACalls P Γ f (args.map (frz b sz C)) (H.set b .dead) R) : ACalls P Γ f args H R := by
  intro w0 G w vs hs ha
  obtain ⟨G', h1, h2, h3⟩ := hs.freeze hb hp
  have hlen : (H.set b .dead).length = H.length := List.length_set
  refine (h w0 G' w vs h1 ⟨by rw [List.length_map]; exact ha.1, fun i q v hq hv => ?_⟩).mono fun e w' ⟨v, p, H', G'', k1, k2, k3, k4, k5, k6⟩ => ⟨v, p, H', G'', k1, k2, k3, h2.trans (by rw [hlen] at k4; exact k4) (Nat.le_refl _), by rw [hlen] at k5; exact k5, k6⟩
  rw [List.getElem?_map] at hq
  obtain ⟨q0, hq0, rfl⟩ := Option.map_eq_some_iff.1 hq
  have hr := ha.2 i q0 v hq0 hv
  rw [hlen]
  unfold frz
  split
  · split
    · rename_i hc
      obtain ⟨rfl, rfl, hc⟩ := hc
      exact h3 _ _ _ _ v hr hc
    · exact hr.mono _ h2 (Nat.le_refl _)
  · exact hr.mono _ h2 (Nat.le_refl _)
/-- A call that leaves the blocks that stood there as they are. -/
theorem dops_call3 {i : Nat} {o : Oper} {K : List (Nat × PV) → List Blk → Prop} {rest : List (Nat × Oper)} {A : List (Nat × PV)} {H H' : List Blk} {x : Operand} {args : Array Operand} {ts : Array TypeId} {f : FuncId} {fs cs : List PV} {p : PV}
    (ho : o.op = .call { callee := .value x, args := args, argTypes := ts }) (hw : wantA ops A o = some true) (hc : cls.getD i 0 = 3) (hx : ev Γ A x = .func (.func f) fs cs) (he : Enters P f)
    (h : ACalls P Γ f (fs ++ args.toList.map (ev Γ A) ++ cs) H (fun q H1 => q = p ∧ H1 = H')) (ht : n0.vw H' = n0.vw H) (hk : DOps P Γ ops cls n0 K rest (aput A o.dst p) H') : DOps P Γ ops cls n0 K ((i, o) :: rest) A H :=
  dops_makes p hw hc ht (fun A' hev => by
    have hops : ∀ y, y = x ∨ y ∈ args → ev Γ A' y = ev Γ A y := fun y hy => hev y (by
      rw [ho]
      simp only [Op.operands, Call.operands, Array.mem_append]
      rcases hy with rfl | hy
      · exact .inl (by simp)
      · exact .inr hy)
    refine os_call ho (by rw [hops x (.inl rfl)]; exact hx) he ?_
    rw [List.map_congr_left (l := args.toList) fun y hy => hops y (.inr (by simpa using hy))]
    exact h) hk
theorem dops_append3 {i : Nat} {o : Oper} {K : List (Nat × PV) → List Blk → Prop} {rest : List (Nat × Oper)} {A : List (Nat × PV)} {H : List Blk} {x y : Operand} {t tx e : TypeId} {d : TypeDesc} {ti : TI} {b q k : Nat} {cs xs : List PV} {n : Nat} (ho : o.op = .call { callee := .builtin .append, args := #[x, y], argTypes := #[t, tx] })
    (hw : wantA ops A o = some true) (hc : cls.getD i 0 = 3) (ht : P.underlying t = some (.slice e)) (he : tiOf P e = some ti) (htx : P.underlying tx = some d) (hd : (∃ e, d = .slice e) ∨ d = .string) (hx : ev Γ A x = .row b q k ti.size) (hbk : H[b]? = some (.row ti.size cs)) (hl : cs.length = q + k * ti.size)
    (hy : srcOf H ti.size (ev Γ A y) = some xs) (hyv : ∀ es f, ev Γ A y = .vec es f → ∀ e ∈ es, e.length = ti.size) (hn : alen (ev Γ A y) = some n) (hbd : (k + n) * ti.bytes ≤ 140737488355328) (hbd' : k + n ≤ 9223372036854775807) (hv : n0.vw (H.set b (.row ti.size (cs ++ xs))) = n0.vw H)
    (hk : DOps P Γ ops cls n0 K rest (aput A o.dst (.row b q (k + n) ti.size)) (H.set b (.row ti.size (cs ++ xs)))) : DOps P Γ ops cls n0 K ((i, o) :: rest) A H :=
  dops_makes _ hw hc hv (fun A' hev => by
    have ex := hev x (call_ops ho (by simp))
    have ey := hev y (call_ops ho (by simp))
    exact os_appendR ho ht he htx hd (ex.trans hx) hbk hl (by rw [ey]; exact hy) (by rw [ey]; exact hyv) (by rw [ey]; exact hn) hbd hbd' ⟨rfl, rfl⟩) hk
theorem vw_above {v : View} (H : List Blk) {b : Nat} (B : Blk) (h : v.n ≤ b) : v.vw (H.set b B) = v.vw H := by
  unfold View.vw
  have : (H.set b B).take v.n = H.take v.n := by rw [List.take_set_of_le h]
  rw [this]
end
end Go.Proofs.YteicbhkimepbaaaGreatDoor

/- The contracts of the bounds, and of what follows. -/
namespace Go.Proofs.YteicbhkimepbaaaGreatDoor
set_option linter.unusedVariables false
set_option linter.unusedSimpArgs false
set_option maxRecDepth 100000
open Go.RowKit Fw

theorem flp_len (c : List Pr) : (flp c).length = c.length := by unfold flp; rw [List.length_map]
theorem flp_ok {c : List Pr} (h : OkP c) : OkP (flp c) := fun p hp => (h _ (flp_mem.1 hp)).symm
set_option maxHeartbeats 8000000 in
/- chancel/closed.Low -/
theorem c28 (Γ : Nat → PV) (hΓ : Tab64 Γ) (ns : List (List UInt8)) (us : List Nat) (hw : W64 us) (c : List Pr) (hl : c.length ≤ 10000000) (ho : OkP c) (a : Int) (ha : I64 a) : Gives Tryz.prog Γ 28 [.agg [.vec (ns.map S1) false, .vec (us.map U1) false], .vec (c.map Pr.enc) false, .int .i64 a] (.int .i64 (lowV ns us c a)) := by
  have h17 := c17 Γ hΓ ns us hw c (by omega) ho
  have h50 := c50 Γ hΓ ns us hw
  refine fn_of_awp Tryz.func28 rfl (by simp [Tryz.f28]) rfl fun H => ?_
  refine awp_seq ?_
  refine awp_run rfl (by simp only [fwA, seval, gfw, bx, dx, bitfw, Int.reduceEq, Int.reduceNeg, Int.reduceToNat, Int.reduceLE, Int.reduceLT] <;> rfl) ?_
  refine awp_seq ?_
  refine awp_seq ?_
  unfold lowV
  cases hk : knownB ns us c
  · rw [hk] at h17
    refine awp_region rfl ?_
    refine aops_run 2 (by simp only [fwA, seval, gfw, bx, dx, bitfw, Int.reduceEq, Int.reduceNeg, Int.reduceToNat, Int.reduceLE, Int.reduceLT] <;> rfl) ?_
    refine aops_fn rfl rfl rfl en17 h17 ?_
    refine aops_run 1 (by simp only [fwA, seval, gfw, bx, dx, bitfw, Int.reduceEq, Int.reduceNeg, Int.reduceToNat, Int.reduceLE, Int.reduceLT] <;> rfl) ?_
    refine aops_end ?_
    refine awp_cond (b := true) (by simp [alook, aput, ev]) ?_
    refine awp_seq ?_
    refine awp_run rfl (by simp only [fwA, seval] <;> rfl) ?_
    refine awp_ret ?_
    exact gives_end (.inl rfl) _ rfl
  rw [hk] at h17
  rw [if_pos rfl]
  refine awp_region rfl ?_
  refine aops_run 2 (by simp only [fwA, seval, gfw, bx, dx, bitfw, Int.reduceEq, Int.reduceNeg, Int.reduceToNat, Int.reduceLE, Int.reduceLT] <;> rfl) ?_
  refine aops_fn rfl rfl rfl en17 h17 ?_
  refine aops_run 1 (by simp only [fwA, seval, gfw, bx, dx, bitfw, Int.reduceEq, Int.reduceNeg, Int.reduceToNat, Int.reduceLE, Int.reduceLT] <;> rfl) ?_
  refine aops_end ?_
  refine awp_cond (b := false) (by simp [alook, aput, ev]) (awp_skip ?_)
  have hK1 : (H ++ [Blk.box [.vec (ns.map S1) false, .vec (us.map U1) false]])[H.length]? = some (.box [.vec (ns.map S1) false, .vec (us.map U1) false]) := Fw.get_at0 _ _
  have hKH : ∀ L, ∃ L', (H ++ [Blk.box [.vec (ns.map S1) false, .vec (us.map U1) false]]) ++ L = H ++ L' := fun L => ⟨_, List.append_assoc _ _ _⟩
  generalize H ++ [Blk.box [.vec (ns.map S1) false, .vec (us.map U1) false]] = K at *
  have hK1' : ∀ L, (K ++ L)[H.length]? = some (.box [.vec (ns.map S1) false, .vec (us.map U1) false]) := fun L => Fw.get_old L hK1
  have hv0 : View.vw ⟨K.length, none⟩ K = K := by simp [View.vw]
  have hv1 : ∀ L, View.vw ⟨K.length, none⟩ (K ++ L) = K := fun L => by simp [View.vw]
  have h73 := c73 Γ c true hl K
  rw [show dcP true c = flp c from rfl] at h73
  refine awp_seq ?_
  refine awp_drawn [4,0,3,0,4,0,1,0] [0, 0, 2, 0, 0, 22, 63, 127] mixed rfl (by kernel_rfl) ?_
  refine dops_run 2 (by simp only [fwA, seval, gfw, bx, dx, bitfw, Int.reduceEq, Int.reduceNeg, Int.reduceToNat, Int.reduceLE, Int.reduceLT, hK1, hK1', hv0, hv1] <;> rfl) ?_
  refine dops_call3 (p := .map K.length) (H' := K ++ [Blk.map ((graphV (flp c)).map enc1)]) rfl rfl rfl rfl en73 h73 (by rw [hv1, hv0]) ?_
  refine dops_run 2 (by simp only [fwA, seval, gfw, bx, dx, bitfw, Int.reduceEq, Int.reduceNeg, Int.reduceToNat, Int.reduceLE, Int.reduceLT, hK1, hK1', hv0, hv1] <;> rfl) ?_
  refine dops_fn rfl (by simp only [fwA, seval] <;> rfl) rfl rfl en50 h50 ?_
  refine dops_rcall (p := .int .i64 (boundV ns.length (joinV ns us) (botV ns us) (flp c) a)) rfl rfl rfl rfl en77 (c77 Γ ns us 78 en78 (joinV ns us) (fun x y => c78 Γ hΓ ns us hw x y) (flp c) (graphV (flp c)) (graphV_ok _) (by rw [flp_len]; exact hl) (flp_ok ho) a ha (botV ns us) _ K.length (Fw.get_at0 _ _)) ?_
  refine dops_run 1 (by simp only [fwA, seval, gfw, bx, dx, bitfw, Int.reduceEq, Int.reduceNeg, Int.reduceToNat, Int.reduceLE, Int.reduceLT, hK1, hK1', hv0, hv1] <;> rfl) ?_
  refine dops_end ?_
  obtain ⟨L', eL⟩ := hKH [Blk.map ((graphV (flp c)).map enc1)]
  refine awp_ret ?_
  rw [eL]
  exact gives_end (.inl rfl) _ rfl
set_option maxHeartbeats 8000000 in
/- chancel/closed.High -/
theorem c30 (Γ : Nat → PV) (hΓ : Tab64 Γ) (ns : List (List UInt8)) (us : List Nat) (hw : W64 us) (c : List Pr) (hl : c.length ≤ 10000000) (ho : OkP c) (a : Int) (ha : I64 a) : Gives Tryz.prog Γ 30 [.agg [.vec (ns.map S1) false, .vec (us.map U1) false], .vec (c.map Pr.enc) false, .int .i64 a] (.int .i64 (highV ns us c a)) := by
  have h17 := c17 Γ hΓ ns us hw c (by omega) ho
  have h79 := c79 Γ hΓ ns us hw
  refine fn_of_awp Tryz.func30 rfl (by simp [Tryz.f30]) rfl fun H => ?_
  refine awp_seq ?_
  refine awp_run rfl (by simp only [fwA, seval, gfw, bx, dx, bitfw, Int.reduceEq, Int.reduceNeg, Int.reduceToNat, Int.reduceLE, Int.reduceLT] <;> rfl) ?_
  refine awp_seq ?_
  refine awp_seq ?_
  unfold highV
  cases hk : knownB ns us c
  · rw [hk] at h17
    refine awp_region rfl ?_
    refine aops_run 2 (by simp only [fwA, seval, gfw, bx, dx, bitfw, Int.reduceEq, Int.reduceNeg, Int.reduceToNat, Int.reduceLE, Int.reduceLT] <;> rfl) ?_
    refine aops_fn rfl rfl rfl en17 h17 ?_
    refine aops_run 1 (by simp only [fwA, seval, gfw, bx, dx, bitfw, Int.reduceEq, Int.reduceNeg, Int.reduceToNat, Int.reduceLE, Int.reduceLT] <;> rfl) ?_
    refine aops_end ?_
    refine awp_cond (b := true) (by simp [alook, aput, ev]) ?_
    refine awp_seq ?_
    refine awp_run rfl (by simp only [fwA, seval] <;> rfl) ?_
    refine awp_ret ?_
    exact gives_end (.inl rfl) _ rfl
  rw [hk] at h17
  rw [if_pos rfl]
  refine awp_region rfl ?_
  refine aops_run 2 (by simp only [fwA, seval, gfw, bx, dx, bitfw, Int.reduceEq, Int.reduceNeg, Int.reduceToNat, Int.reduceLE, Int.reduceLT] <;> rfl) ?_
  refine aops_fn rfl rfl rfl en17 h17 ?_
  refine aops_run 1 (by simp only [fwA, seval, gfw, bx, dx, bitfw, Int.reduceEq, Int.reduceNeg, Int.reduceToNat, Int.reduceLE, Int.reduceLT] <;> rfl) ?_
  refine aops_end ?_
  refine awp_cond (b := false) (by simp [alook, aput, ev]) (awp_skip ?_)
  have hK1 : (H ++ [Blk.box [.vec (ns.map S1) false, .vec (us.map U1) false]])[H.length]? = some (.box [.vec (ns.map S1) false, .vec (us.map U1) false]) := Fw.get_at0 _ _
  have hKH : ∀ L, ∃ L', (H ++ [Blk.box [.vec (ns.map S1) false, .vec (us.map U1) false]]) ++ L = H ++ L' := fun L => ⟨_, List.append_assoc _ _ _⟩
  generalize H ++ [Blk.box [.vec (ns.map S1) false, .vec (us.map U1) false]] = K at *
  have hK1' : ∀ L, (K ++ L)[H.length]? = some (.box [.vec (ns.map S1) false, .vec (us.map U1) false]) := fun L => Fw.get_old L hK1
  have hv0 : View.vw ⟨K.length, none⟩ K = K := by simp [View.vw]
  have hv1 : ∀ L, View.vw ⟨K.length, none⟩ (K ++ L) = K := fun L => by simp [View.vw]
  have h73 := c73 Γ c false hl K
  rw [show dcP false c = c from rfl] at h73
  refine awp_seq ?_
  refine awp_drawn [4,0,3,0,4,0,1,0] [0, 0, 2, 0, 0, 22, 63, 127] mixed rfl (by kernel_rfl) ?_
  refine dops_run 2 (by simp only [fwA, seval, gfw, bx, dx, bitfw, Int.reduceEq, Int.reduceNeg, Int.reduceToNat, Int.reduceLE, Int.reduceLT, hK1, hK1', hv0, hv1] <;> rfl) ?_
  refine dops_call3 (p := .map K.length) (H' := K ++ [Blk.map ((graphV c).map enc1)]) rfl rfl rfl rfl en73 h73 (by rw [hv1, hv0]) ?_
  refine dops_run 2 (by simp only [fwA, seval, gfw, bx, dx, bitfw, Int.reduceEq, Int.reduceNeg, Int.reduceToNat, Int.reduceLE, Int.reduceLT, hK1, hK1', hv0, hv1] <;> rfl) ?_
  refine dops_fn rfl (by simp only [fwA, seval] <;> rfl) rfl rfl en79 h79 ?_
  refine dops_rcall (p := .int .i64 (boundV ns.length (meetV ns us) (topV ns us) c a)) rfl rfl rfl rfl en77 (c77 Γ ns us 80 en80 (meetV ns us) (fun x y => c80 Γ hΓ ns us hw x y) c (graphV c) (graphV_ok _) hl ho a ha (topV ns us) _ K.length (Fw.get_at0 _ _)) ?_
  refine dops_run 1 (by simp only [fwA, seval, gfw, bx, dx, bitfw, Int.reduceEq, Int.reduceNeg, Int.reduceToNat, Int.reduceLE, Int.reduceLT, hK1, hK1', hv0, hv1] <;> rfl) ?_
  refine dops_end ?_
  obtain ⟨L', eL⟩ := hKH [Blk.map ((graphV c).map enc1)]
  refine awp_ret ?_
  rw [eL]
  exact gives_end (.inl rfl) _ rfl
set_option maxHeartbeats 8000000 in
/- chancel/closed.Entails -/
theorem c32 (Γ : Nat → PV) (hΓ : Tab64 Γ) (ns : List (List UInt8)) (us : List Nat) (hw : W64 us) (c : List Pr) (hl : c.length ≤ 10000000) (ho : OkP c) (a b : Int) (ha : I64 a) (hb : I64 b) : Gives Tryz.prog Γ 32 [.agg [.vec (ns.map S1) false, .vec (us.map U1) false], .vec (c.map Pr.enc) false, .int .i64 a, .int .i64 b] (.bool (entV ns us c a b)) := by
  have h17 := c17 Γ hΓ ns us hw c (by omega) ho
  have h17b := c17 Γ hΓ ns us hw [⟨a, b⟩] (by simp) (fun p hp => by
    have : p = ⟨a, b⟩ := by simpa using hp
    subst this; exact ⟨ha, hb⟩)
  have h17b := h17b.args (args := [.agg [.vec (ns.map S1) false, .vec (us.map U1) false], .vec [[.int .i64 a, .int .i64 b]] true]) ⟨PV.le_refl _, ⟨nofun, PV.leLL_refl _⟩, trivial⟩
  have h26 := c26 Γ c a b hl
  have h30 := c30 Γ hΓ ns us hw c hl ho a ha
  have h28 := c28 Γ hΓ ns us hw c hl ho b hb
  have h44 := c44 Γ ns us hw (highV ns us c a) (lowV ns us c b)
  refine fn_of_awp Tryz.func32 rfl (by simp [Tryz.f32]) rfl fun H => ?_
  refine awp_seq ?_
  refine awp_run rfl (by simp only [fwA, seval, gfw, bx, dx, bitfw, Int.reduceEq, Int.reduceNeg, Int.reduceToNat, Int.reduceLE, Int.reduceLT] <;> rfl) ?_
  refine awp_seq ?_
  refine awp_seq ?_
  unfold entV
  cases hk : knownB ns us c
  · rw [hk] at h17
    refine awp_region rfl ?_
    refine aops_run 2 (by simp only [fwA, seval, gfw, bx, dx, bitfw, Int.reduceEq, Int.reduceNeg, Int.reduceToNat, Int.reduceLE, Int.reduceLT] <;> rfl) ?_
    refine aops_fn rfl rfl rfl en17 h17 ?_
    refine aops_run 10 (by simp only [fwA, seval, gfw, bx, dx, bitfw, Int.reduceEq, Int.reduceNeg, Int.reduceToNat, Int.reduceLE, Int.reduceLT] <;> rfl) ?_
    refine aops_end ?_
    refine awp_cond (b := true) (by simp [alook, aput, ev]) ?_
    refine awp_seq ?_
    refine awp_run rfl (by simp only [fwA, seval] <;> rfl) ?_
    refine awp_ret ?_
    exact gives_end (.inl rfl) _ rfl
  rw [hk] at h17
  cases hk2 : knownB ns us [⟨a, b⟩]
  · rw [hk2] at h17b
    refine awp_region rfl ?_
    refine aops_run 2 (by simp only [fwA, seval, gfw, bx, dx, bitfw, Int.reduceEq, Int.reduceNeg, Int.reduceToNat, Int.reduceLE, Int.reduceLT] <;> rfl) ?_
    refine aops_fn rfl rfl rfl en17 h17 ?_
    refine aops_run 7 (by simp only [fwA, seval, gfw, bx, dx, bitfw, Int.reduceEq, Int.reduceNeg, Int.reduceToNat, Int.reduceLE, Int.reduceLT] <;> rfl) ?_
    refine aops_fnIf rfl rfl rfl rfl rfl en17 h17b ?_
    refine aops_run 2 (by simp only [fwA, seval, gfw, bx, dx, bitfw, Int.reduceEq, Int.reduceNeg, Int.reduceToNat, Int.reduceLE, Int.reduceLT] <;> rfl) ?_
    refine aops_end ?_
    refine awp_cond (b := true) (by simp [alook, aput, ev]) ?_
    refine awp_seq ?_
    refine awp_run rfl (by simp only [fwA, seval] <;> rfl) ?_
    refine awp_ret ?_
    exact gives_end (.inl rfl) _ rfl
  rw [hk2] at h17b
  refine awp_region rfl ?_
  refine aops_run 2 (by simp only [fwA, seval, gfw, bx, dx, bitfw, Int.reduceEq, Int.reduceNeg, Int.reduceToNat, Int.reduceLE, Int.reduceLT] <;> rfl) ?_
  refine aops_fn rfl rfl rfl en17 h17 ?_
  refine aops_run 7 (by simp only [fwA, seval, gfw, bx, dx, bitfw, Int.reduceEq, Int.reduceNeg, Int.reduceToNat, Int.reduceLE, Int.reduceLT] <;> rfl) ?_
  refine aops_fnIf rfl rfl rfl rfl rfl en17 h17b ?_
  refine aops_run 2 (by simp only [fwA, seval, gfw, bx, dx, bitfw, Int.reduceEq, Int.reduceNeg, Int.reduceToNat, Int.reduceLE, Int.reduceLT] <;> rfl) ?_
  refine aops_end ?_
  refine awp_cond (b := false) (by simp [alook, aput, ev]) (awp_skip ?_)
  refine awp_seq ?_
  cases hr : rchB c a b
  · rw [hr] at h26
    refine awp_drawn [0, 0, 0, 0, 0, 1, 1, 0, 0, 0, 1, 0, 0, 0, 0, 0, 0] [0, 0, 0, 7, 15, 31, 31, 31, 31, 479, 31, 31, 31, 8159, 16383, 32767, 65535] mixed rfl (by kernel_rfl) ?_
    refine dops_run 3 (by simp only [fwA, seval, gfw, bx, dx, bitfw, Int.reduceEq, Int.reduceNeg, Int.reduceToNat, Int.reduceLE, Int.reduceLT] <;> rfl) ?_
    refine dops_fn rfl (by simp only [fwA, seval] <;> rfl) rfl rfl en26 h26 ?_
    refine dops_run 5 (by simp only [fwA, seval, gfw, bx, dx, bitfw, Int.reduceEq, Int.reduceNeg, Int.reduceToNat, Int.reduceLE, Int.reduceLT] <;> rfl) ?_
    refine dops_fn rfl (by simp only [fwA, seval] <;> rfl) rfl rfl en30 h30 ?_
    refine dops_run 3 (by simp only [fwA, seval, gfw, bx, dx, bitfw, Int.reduceEq, Int.reduceNeg, Int.reduceToNat, Int.reduceLE, Int.reduceLT] <;> rfl) ?_
    refine dops_fn rfl (by simp only [fwA, seval] <;> rfl) rfl rfl en28 h28 ?_
    refine dops_fn rfl (by simp only [fwA, seval] <;> rfl) rfl rfl en44 h44 ?_
    refine dops_run 2 (by simp only [fwA, seval, gfw, bx, dx, bitfw, Int.reduceEq, Int.reduceNeg, Int.reduceToNat, Int.reduceLE, Int.reduceLT] <;> rfl) ?_
    refine dops_end ?_
    refine awp_ret ?_
    exact gives_end (.inl rfl) _ rfl
  · rw [hr] at h26
    refine awp_drawn [0, 0, 0, 0, 0, 1, 1, 0, 0, 0, 1, 0, 0, 0, 0, 0, 0] [0, 0, 0, 7, 15, 31, 31, 31, 31, 479, 31, 31, 31, 8159, 16383, 32767, 65535] mixed rfl (by kernel_rfl) ?_
    refine dops_run 3 (by simp only [fwA, seval, gfw, bx, dx, bitfw, Int.reduceEq, Int.reduceNeg, Int.reduceToNat, Int.reduceLE, Int.reduceLT] <;> rfl) ?_
    refine dops_fn rfl (by simp only [fwA, seval] <;> rfl) rfl rfl en26 h26 ?_
    refine dops_run 13 (by simp only [fwA, seval, gfw, bx, dx, bitfw, Int.reduceEq, Int.reduceNeg, Int.reduceToNat, Int.reduceLE, Int.reduceLT] <;> rfl) ?_
    refine dops_end ?_
    refine awp_ret ?_
    exact gives_end (.inl rfl) _ rfl
end Go.Proofs.YteicbhkimepbaaaGreatDoor

/- The contracts of what Project goes through: the places of atoms. -/
namespace Go.Proofs.YteicbhkimepbaaaGreatDoor
set_option linter.unusedVariables false
set_option linter.unusedSimpArgs false
set_option maxRecDepth 100000
open Go.RowKit Fw

def likeA (x : Int) : Bool := decide (x < 0)
def unlA (x : Int) : Bool := !likeA x
theorem c43A (Γ : Nat → PV) (x : Int) : Gives Tryz.prog Γ 43 [.int .i64 x] (.bool (likeA x)) := c43 Γ x
/-- Where the first one is that is so. -/
def FoundA (l : List Int) (p : PV) : Prop := (p = .int .i64 (-1) ∧ ∀ x ∈ l, likeA x = false) ∨ ∃ i : Nat, i < l.length ∧ p = .int .i64 (i : Int) ∧ (∀ x, l[i]? = some x → likeA x = true) ∧ (∀ j x, j < i → l[j]? = some x → likeA x = false)

/- slices.IndexFunc[[]chancel/atom.Pair,chancel/atom.Pair] -/
theorem c120 (Γ : Nat → PV) (H : List Blk) (b : Nat) (l : List Int) (hb : H[b]? = some (.row 1 ((l.map I1).flatten))) (hbl : l.length ≤ 1000000000000) :
    ACalls Tryz.prog Γ 120 [.row b 0 l.length 1, .func (.func 43) [] []] H (fun p H' => FoundA l p ∧ H' = H) := by
  refine acalls_of_awp Tryz.func120 rfl (by simp [Tryz.f120]) fun hbd => ?_
  refine awp_seq ?_
  refine awp_run rfl (by simp only [fwA, seval] <;> rfl) ?_
  refine awp_seq ?_
  refine awp_seq ?_
  refine awp_run rfl (by simp only [fwA, seval, bx] <;> rfl) ?_
  refine awp_block ?_
  refine awp_for [0, 1, 7, 8] (fun i : Nat => [.row b 0 l.length 1, .func (.func 43) [] [], .int .i64 (l.length : Int), .int .i64 (i : Int)]) (fun _ => H) (fun i => l.length - i)
    (fun i => i ≤ l.length ∧ ∀ j x, j < i → l[j]? = some x → likeA x = false) 0 rfl rfl ⟨Nat.zero_le _, fun j x h => by omega⟩ fun i hi => ?_
  refine awp_seq ?_
  refine awp_run rfl (by simp only [fwA, seval] <;> rfl) ?_
  refine awp_seq ?_
  refine awp_cond (by simp only [fwA, seval] <;> rfl) ?_
  by_cases hc : (i : Int) < l.length
  rotate_left
  · simp only [hc, decide_false, Bool.false_eq_true, ↓reduceIte]
    refine awp_exit ?_
    refine awp_seq ?_
    refine awp_run rfl (by simp only [fwA, seval] <;> rfl) ?_
    refine awp_ret ?_
    refine calls_end0 (p := .int .i64 (-1)) (.inl rfl) hbd rfl rfl ⟨.inl ⟨rfl, fun x hx => ?_⟩, rfl⟩
    obtain ⟨j, hj⟩ := List.getElem?_of_mem hx
    exact hi.2 j x (by have := (List.getElem?_eq_some_iff.1 hj).1; omega) hj
  simp only [hc, decide_true, ↓reduceIte]
  have hil : i < l.length := by omega
  have hx : l[i]? = some l[i] := List.getElem?_eq_getElem hil
  refine awp_skip ?_
  refine awp_seq ?_
  refine awp_block ?_
  refine awp_seq ?_
  refine awp_run rfl (by simp only [fwA, seval] <;> rfl) ?_
  refine awp_seq ?_
  refine awp_region rfl ?_
  refine aops_run 3 (by simp only [fwA, seval] <;> rfl) ?_
  refine aops_one rfl (os_idxRow I1_len rfl el49 rfl rfl hb (by omega) hil ?_)
  refine aops_one rfl (os_loadRow I1_len rfl ti28 rfl hb (by omega) rfl hx rfl (by rw [if_neg (by decide)]; rfl) ?_)
  refine aops_fn rfl rfl rfl en43 (c43A Γ l[i]) ?_
  refine aops_end ?_
  refine awp_cond (by simp only [fwA, seval] <;> rfl) ?_
  cases hl : likeA l[i] with
  | true =>
    simp only [↓reduceIte]
    refine awp_seq ?_
    refine awp_run rfl (by simp only [fwA, seval] <;> rfl) ?_
    refine awp_ret ?_
    exact calls_end0 (fn := Tryz.f120) (R := fun p H' => FoundA l p ∧ H' = H) (p := .int .i64 (i : Int)) (.inl rfl) hbd rfl rfl ⟨.inr ⟨i, hil, rfl, fun x h => by rw [hx] at h; cases h; exact hl, hi.2⟩, rfl⟩
  | false =>
    simp only [Bool.false_eq_true, ↓reduceIte]
    refine awp_skip ?_
    refine awp_run rfl (by simp only [fwA, seval] <;> rfl) ?_
    refine ⟨i + 1, by omega, ⟨by omega, fun j x hj hjx => ?_⟩, ?_, rfl, rfl⟩
    · obtain hj | rfl : j < i ∨ j = i := by omega
      · exact hi.2 j x hj hjx
      · rw [hx] at hjx; cases hjx; exact hl
    · simp only [fwA, seval, gfw, wrapS i (by omega)]

/- slices.Clone[[]chancel/atom.Pair,chancel/atom.Pair] -/
theorem c84 (Γ : Nat → PV) (H : List Blk) (l : List Int) (f : Bool) (hl : l.length ≤ 1000000000000) :
    ACalls Tryz.prog Γ 84 [.vec (l.map I1) f] H (fun p H' => p = .row H.length 0 l.length 1 ∧ H' = H ++ [.row 1 ((l.map I1).flatten)]) := by
  refine acalls_of_awp Tryz.func84 rfl (by simp [Tryz.f84]) fun hbd => ?_
  refine awp_vlen 0 rfl fun hlen => ?_
  rw [List.length_map] at hlen
  refine awp_seq ?_
  refine awp_run rfl (by simp only [fwA, seval] <;> rfl) ?_
  refine awp_seq ?_
  refine awp_seq ?_
  refine awp_region rfl ?_
  refine aops_run 1 (by simp only [fwA, seval] <;> rfl) ?_
  refine aops_one rfl (os_nilSlice rfl un49 rfl (.inl rfl) fun b p hb hp => ?_)
  obtain rfl : p = .bool b := by cases b <;> simpa [eqv] using hp.symm
  refine aops_end ?_
  refine awp_cond (by simp only [fwA, seval] <;> rfl) ?_
  cases b with
  | true =>
    obtain rfl : l = [] := by
      by_cases hne : l = []
      · exact hne
      · exact absurd (hb (by simpa using hne)) (by decide)
    simp only [↓reduceIte]
    refine awp_seq ?_
    refine awp_run rfl (by simp only [fwA, seval] <;> rfl) ?_
    refine awp_told (told_adopt 2 1 (by decide) rfl) ?_
    refine awp_bd fun hbd' => ?_
    refine awp_ret ?_
    show RetQ Tryz.prog Γ Tryz.f84 H.length (fun p H' => p = .row H.length 0 0 1 ∧ H' = H ++ [.row 1 []]) .ret _ _ []
    exact calls_at (p := .row H.length 0 0 1) (.inl rfl) hbd' rfl (by simp [PV.bd]) (by simp) ⟨rfl, rfl⟩
  | false =>
    simp only [Bool.false_eq_true, ↓reduceIte]
    refine awp_skip ?_
    refine awp_seq ?_
    refine awp_region rfl ?_
    refine aops_run 2 (by simp only [fwA, seval, bx] <;> rfl) ?_
    refine aops_one rfl (os_appendNew rfl un49 ti28 un49 (.inl ⟨_, rfl⟩) (by decide) rfl (by simp only [fwA, seval] <;> rfl) (fun es f h e he => by
        simp only [fwA, seval, PV.vec.injEq] at h
        obtain ⟨rfl, rfl⟩ := h
        obtain ⟨x, _, rfl⟩ := List.mem_map.1 he
        rfl) (by simp only [fwA, seval] <;> rfl) (by rw [List.length_map]; show l.length * 8 ≤ _; omega) (by rw [List.length_map]; omega) ?_)
    refine aops_run 1 (by simp only [fwA, seval] <;> rfl) ?_
    refine awp_bd fun hbd' => ?_
    refine awp_ret ?_
    exact calls_at (p := .row H.length 0 l.length 1) (.inl rfl) hbd' (by simp [ares, aresL, ares1, alook, Tryz.f84]) (by simp [PV.bd]) (by simp) ⟨rfl, rfl⟩

theorem keptA_step (l : List Int) (i : Nat) (x : Int) (h : l[i]? = some x) : (l.take (i + 1)).filter unlA = (l.take i).filter unlA ++ (if unlA x then [x] else []) := by
  rw [List.take_add_one, h, List.filter_append]
  cases hu : unlA x <;> simp [List.filter_cons, hu]

theorem keptA_le (l : List Int) (i : Nat) : ((l.take i).filter unlA).length ≤ i := by
  have := List.length_filter_le unlA (l.take i)
  rw [List.length_take] at this
  omega

set_option maxHeartbeats 1000000 in
/- slices.DeleteFunc[[]chancel/atom.Pair,chancel/atom.Pair] -/
theorem c83 (Γ : Nat → PV) (H : List Blk) (n0 b : Nat) (l : List Int) (hn0 : n0 ≤ b) (hb : H[b]? = some (.row 1 ((l.map I1).flatten))) (hbl : l.length ≤ 1000000000000) :
    ACalls Tryz.prog Γ 83 [.row b 0 l.length 1, .func (.func 43) [] []] H (RowAt H n0 1 (l.filter unlA).length (((l.filter unlA).map I1).flatten)) := by
  refine acalls_of_awp Tryz.func83 rfl (by simp [Tryz.f83]) fun hbd => ?_
  have hbH : b < H.length := (List.getElem?_eq_some_iff.1 hb).1
  refine awp_seq ?_
  refine awp_run rfl (by simp only [fwA, seval] <;> rfl) ?_
  refine awp_seq ?_
  refine awp_region rfl ?_
  refine aops_run 2 (by simp only [fwA, seval] <;> rfl) ?_
  refine aops_call rfl rfl rfl en120 ((c120 Γ H b l hb hbl).mono fun p H' hp => ?_)
  obtain ⟨hf, e⟩ := hp
  rw [e]
  clear e H'
  obtain ⟨rfl, hall⟩ | ⟨i0, hi0, rfl, hlk, hbef⟩ := hf
  · refine aops_run 1 (by simp only [fwA, seval] <;> rfl) ?_
    refine awp_seq ?_
    refine awp_seq ?_
    refine awp_run rfl (by simp only [fwA, seval] <;> rfl) ?_
    refine awp_cond (by simp only [fwA, seval] <;> rfl) ?_
    simp only [decide_true, ↓reduceIte]
    refine awp_seq ?_
    refine awp_run rfl (by simp only [fwA, seval] <;> rfl) ?_
    refine awp_ret ?_
    have hfl : l.filter unlA = l := List.filter_eq_self.2 fun x hx => by unfold unlA; rw [hall x hx]; rfl
    exact calls_end0 (p := .row b 0 l.length 1) (.inl rfl) hbd rfl (by simp [PV.bd]; omega) ⟨b, by rw [hfl], by rw [hfl]; exact hb, hn0, rfl, Nat.le_refl _⟩
  have hm1 : ¬ ((i0 : Int) = -1) := by omega
  refine aops_run 1 (by simp only [fwA, seval] <;> rfl) ?_
  refine awp_seq ?_
  refine awp_seq ?_
  refine awp_run rfl (by simp only [fwA, seval] <;> rfl) ?_
  refine awp_cond (by simp only [fwA, seval] <;> rfl) ?_
  simp only [hm1, decide_false, Bool.false_eq_true, ↓reduceIte]
  refine awp_skip ?_
  refine awp_seq ?_
  refine awp_seq ?_
  refine awp_run rfl (by simp only [fwA, seval] <;> rfl) ?_
  refine awp_block ?_
  have hk0 : (l.take (i0 + 1)).filter unlA = l.take i0 := by
    rw [keptA_step l i0 _ (List.getElem?_eq_getElem hi0), show unlA l[i0] = false by unfold unlA; rw [hlk _ (List.getElem?_eq_getElem hi0)]; rfl]
    simp only [Bool.false_eq_true, ↓reduceIte, List.append_nil]
    refine List.filter_eq_self.2 fun x hx => ?_
    obtain ⟨j, hj⟩ := List.getElem?_of_mem hx
    have hj2 := (List.getElem?_eq_some_iff.1 hj).1
    rw [List.length_take] at hj2
    rw [List.getElem?_take_of_lt (by omega)] at hj
    unfold unlA
    rw [hbef j x (by omega) hj]; rfl
  have hset : ∀ arr : List Int, (H.set b (.row 1 ((arr.map I1).flatten)))[b]? = some (.row 1 ((arr.map I1).flatten)) := fun arr => List.getElem?_set_self hbH
  refine awp_forG [0, 1, 5, 6] (fun s : Nat × List Int => [.row b 0 l.length 1, .func (.func 43) [] [], .int .i64 (((l.take s.1).filter unlA).length : Int), .int .i64 (s.1 : Int)])
    (fun s => H.set b (.row 1 ((s.2.map I1).flatten))) (fun s => l.length - s.1)
    (fun s => s.1 ≤ l.length ∧ s.2.length = l.length ∧ s.2.drop s.1 = l.drop s.1 ∧ s.2.take ((l.take s.1).filter unlA).length = (l.take s.1).filter unlA) (i0 + 1, l) ?_ ?_
    ⟨hi0, rfl, rfl, by rw [hk0, List.length_take, Nat.min_eq_left (by omega)]⟩ (fun s hs => ⟨fun B hB => ?_, by simp [PV.bdL, PV.bd]; omega⟩) (fun s hs q hq => by cases hq) fun s hs => ?_
  · simp only [fwA, seval, gfw, wrapS i0 (by omega), hk0, List.length_take, Nat.min_eq_left (Nat.le_of_lt hi0)]
  · obtain ⟨_, g2⟩ := List.getElem?_eq_some_iff.1 hb
    show H = H.set b _
    rw [← g2]; exact (List.set_getElem_self _).symm
  · rw [List.length_set]
    rcases List.mem_or_eq_of_mem_set hB with h | rfl
    · exact hbd B h
    · exact flat_bd (fun _ => rfl) _
  obtain ⟨i, arr⟩ := s
  obtain ⟨hin, hal, hdr, htk⟩ := hs
  simp only at hin hal hdr htk ⊢
  have hH := hset arr
  refine awp_seq ?_
  refine awp_seq ?_
  refine awp_run rfl (by simp only [fwA, seval, bx] <;> rfl) ?_
  refine awp_cond (by simp only [fwA, seval] <;> rfl) ?_
  by_cases hc : (i : Int) < l.length
  rotate_left
  · have e : i = l.length := by omega
    subst e
    rw [List.take_length] at htk
    have hjl : (l.filter unlA).length ≤ l.length := List.length_filter_le _ _
    simp only [hc, decide_false, Bool.false_eq_true, ↓reduceIte]
    refine awp_exit ?_
    refine awp_seq ?_
    refine awp_region rfl ?_
    refine aops_run 2 (by simp only [fwA, seval, List.take_length] <;> rfl) ?_
    refine aops_one rfl (os_sliceSuf rfl el49 rfl rfl hjl hH (by rw [flat_len I1_len]; omega) ?_)
    refine aops_one rfl (os_clearRow rfl un49 ti28 rfl hH (by rw [flat_len I1_len, hal]; show _ = 0 + _ * 1 + (l.length - _) * 1; omega) ?_)
    have hkey : ∃ cs2, splice ((arr.map I1).flatten) (0 + (l.filter unlA).length * 1) (List.replicate (l.length - (l.filter unlA).length) [PV.int .i64 0]).flatten = cs2 ∧ cs2.length = 0 + l.length * 1 ∧ cs2.take (0 + (l.filter unlA).length * 1) = ((l.filter unlA).map I1).flatten := by
      have hcl : ((arr.map I1).flatten).length = l.length * 1 := by rw [flat_len I1_len, hal]
      have hzl : ((List.replicate (l.length - (l.filter unlA).length) [PV.int .i64 0]).flatten).length = (l.length - (l.filter unlA).length) * 1 := by rw [rep_len]; rfl
      refine ⟨_, rfl, (splice_length (by rw [hcl, hzl]; omega)).trans (by omega), ?_⟩
      rw [Nat.zero_add, take_splice (by rw [hcl]; omega), flat_take I1_len, htk]
    obtain ⟨cs2, hk1, hk2, hk3⟩ := hkey
    refine aops_end ?_
    refine awp_heap (H' := H.set b (.row 1 cs2)) (by rw [List.set_set, ← hk1]) ?_
    refine awp_seq ?_
    refine awp_region rfl ?_
    refine aops_run 2 (by simp only [fwA, seval] <;> rfl) ?_
    refine aops_one rfl (os_slicePre rfl el49 rfl rfl hjl (List.getElem?_set_self hbH) hk2 ?_)
    rw [hk3]
    refine aops_run 1 (by simp only [fwA, seval] <;> rfl) ?_
    refine awp_bd fun hbd' => ?_
    refine awp_ret ?_
    refine calls_at (fn := Tryz.f83) (p := .row H.length 0 (l.filter unlA).length 1) (.inl rfl) hbd' (by simp [ares, aresL, ares1, alook, Tryz.f83]) (by simp [PV.bd]) (by simp) ⟨H.length, rfl, ?_, by omega, ?_, by simp⟩
    · rw [List.getElem?_append_right (by simp)]; simp
    · rw [List.take_append_of_le_length (by simp; omega), List.take_set_of_le hn0, List.take_set_of_le hn0]
  have hil : i < l.length := by omega
  have hx : l[i]? = some l[i] := List.getElem?_eq_getElem hil
  have hax : arr[i]? = some l[i] := by
    have := congrArg (·[0]?) hdr
    simp only [List.getElem?_drop, Nat.add_zero] at this
    rw [this, hx]
  have hHl : b < (H.set b (.row 1 ((arr.map I1).flatten))).length := by rw [List.length_set]; exact hbH
  have hHs : ∀ B, (H.set b (.row 1 ((arr.map I1).flatten))).set b B = H.set b B := fun B => List.set_set ..
  have hHd := hHs (.row 1 ((arr.map I1).flatten))
  generalize hgen : H.set b (.row 1 ((arr.map I1).flatten)) = Hr at hH hHl hHs hHd ⊢
  simp only [hc, decide_true, ↓reduceIte]
  refine awp_skip ?_
  refine awp_seq ?_
  refine awp_block ?_
  refine awp_seq ?_
  refine awp_region rfl ?_
  refine aops_run 2 (by simp only [fwA, seval] <;> rfl) ?_
  refine aops_one rfl (os_idxRow I1_len rfl el49 rfl rfl hH (by omega) hil ?_)
  refine aops_one rfl (os_loadRow I1_len rfl ti28 rfl hH (by omega) (by rw [hal]) hax rfl (by rw [if_neg (by decide)]; rfl) ?_)
  refine aops_run 2 (by simp only [fwA, seval, bx, dx] <;> rfl) ?_
  refine aops_end ?_
  have hH3 : ∀ L : List Blk, (Hr ++ L)[b]? = some (.row 1 ((arr.map I1).flatten)) := fun L => get_old L hH
  refine awp_seq ?_
  refine awp_region rfl ?_
  refine aops_run 2 (by simp only [fwA, seval, bx, dx] <;> rfl) ?_
  refine aops_fn rfl rfl rfl en43 (c43A Γ l[i]) ?_
  refine aops_run 1 (by simp only [fwA, seval] <;> rfl) ?_
  refine awp_cond (by simp only [fwA, seval] <;> rfl) ?_
  have hks := keptA_step l i _ hx
  cases hu : likeA l[i] with
  | true =>
    simp only [Bool.not_true, Bool.false_eq_true, ↓reduceIte]
    rw [show unlA l[i] = false by unfold unlA; rw [hu]; rfl] at hks
    simp only [Bool.false_eq_true, ↓reduceIte, List.append_nil] at hks
    refine awp_skip ?_
    refine awp_run rfl (by simp only [fwA, seval] <;> rfl) ?_
    refine ⟨(i + 1, arr), [], by show l.length - (i + 1) < l.length - i; omega, ⟨hil, hal, ?_, by rw [hks]; exact htk⟩, ?_, by rw [hgen, List.append_nil], rfl, by rw [hgen]; exact Nat.le_refl _⟩
    · have := congrArg (List.drop 1) hdr
      simpa [List.drop_drop, Nat.add_comm] using this
    · simp only [fwA, seval, gfw, wrapS i (by omega), hks]
  | false =>
    simp only [Bool.not_false, ↓reduceIte]
    rw [show unlA l[i] = true by unfold unlA; rw [hu]; rfl] at hks
    simp only [↓reduceIte] at hks
    have hkl := keptA_le l i
    refine awp_seq ?_
    refine awp_region rfl ?_
    refine aops_run 3 (by simp only [fwA, seval, bx, dx] <;> rfl) ?_
    refine aops_one rfl (os_idxRow I1_len rfl el49 rfl rfl hH (by omega) (by omega) ?_)
    refine aops_one rfl (os_putRow I1_len rfl ti28 rfl hH (Nat.zero_add _) (by rw [hal]) (by omega) rfl rfl rfl (by decide) ?_)
    refine aops_end ?_
    refine awp_run rfl (by simp only [fwA, seval] <;> rfl) ?_
    refine awp_run rfl (by simp only [fwA, seval] <;> rfl) ?_
    refine ⟨(i + 1, arr.set ((l.take i).filter unlA).length l[i]), [], by show l.length - (i + 1) < l.length - i; omega, ⟨hil, by rw [List.length_set]; exact hal, ?_, ?_⟩, ?_, ?_, rfl, by rw [← hgen, List.length_set, List.length_set]; exact Nat.le_refl _⟩
    · rw [List.drop_set_of_lt (by omega)]
      have := congrArg (List.drop 1) hdr
      simpa [List.drop_drop, Nat.add_comm] using this
    · show (arr.set _ _).take _ = _
      rw [hks, List.length_append, show [l[i]].length = 1 from rfl, List.take_add_one, List.take_set_of_le (Nat.le_refl _), htk, List.getElem?_set_self (by omega)]
      rfl
    · simp only [fwA, seval, gfw, wrapS i (by omega), hks, List.length_append, List.length_cons, List.length_nil, Nat.zero_add, wrapS _ (show ((l.take i).filter unlA).length + 1 < 9223372036854775808 by omega)]
    · simp only [hHs, List.append_nil]

end Go.Proofs.YteicbhkimepbaaaGreatDoor

/- The contract of what is projected. -/
namespace Go.Proofs.YteicbhkimepbaaaGreatDoor
set_option linter.unusedVariables false
set_option linter.unusedSimpArgs false
set_option maxRecDepth 100000
open Go.RowKit Fw


def idxI (fr : List Int) (a : Int) : Int := match fr.findIdx? (fun b => decide (b = a)) with
  | some k => k
  | none => -1
theorem idxI_none {fr : List Int} {a : Int} (h : ∀ j, j < fr.length → fr[j]? ≠ some a) : idxI fr a = -1 := by
  unfold idxI
  have : fr.findIdx? (fun b => decide (b = a)) = none := by
    rw [List.findIdx?_eq_none_iff]
    intro x hx
    obtain ⟨j, hj⟩ := List.getElem?_of_mem hx
    have := h j (List.getElem?_eq_some_iff.1 hj).1
    rw [hj] at this
    simpa using this
  rw [this]
theorem idxI_some {fr : List Int} {a : Int} {i : Nat} (h : ∀ j, j < i → fr[j]? ≠ some a) (hi : fr[i]? = some a) : idxI fr a = i := by
  unfold idxI
  have : fr.findIdx? (fun b => decide (b = a)) = some i := by
    obtain ⟨h1, h2⟩ := List.getElem?_eq_some_iff.1 hi
    rw [List.findIdx?_eq_some_iff_getElem]
    refine ⟨h1, by simp [h2], fun j hj => ?_⟩
    have := h j hj
    rw [List.getElem?_eq_getElem (by omega)] at this
    simpa using this
  rw [this]

/-- slices.Index[[]chancel/atom.Atom,chancel/atom.Atom] -/
theorem c121 (Γ : Nat → PV) (fr : List Int) (a : Int) : Gives Tryz.prog Γ 121 [.vec (fr.map I1) false, .int .i64 a] (.int .i64 (idxI fr a)) := by
  refine fn_of_awp Tryz.func121 rfl (by simp [Tryz.f121]) rfl fun H => ?_
  refine awp_vlen 0 rfl fun hlen => ?_
  rw [List.length_map] at hlen
  refine awp_seq ?_
  refine awp_run rfl (by simp only [fwA, seval] <;> rfl) ?_
  refine awp_seq ?_
  refine awp_seq ?_
  refine awp_run rfl (by simp only [fwA, seval, bx, List.length_map] <;> rfl) ?_
  refine awp_block ?_
  refine awp_for [0, 1, 7, 8] (fun i : Nat => [.vec (fr.map I1) false, .int .i64 a, .int .i64 fr.length, .int .i64 (i : Int)]) (fun _ => H) (fun i => fr.length - i) (fun i => i ≤ fr.length ∧ ∀ j, j < i → fr[j]? ≠ some a) 0 rfl rfl ⟨Nat.zero_le _, fun j hj => by omega⟩ fun i hs => ?_
  obtain ⟨hi, hno⟩ := hs
  refine awp_seq ?_
  refine awp_run rfl (by simp only [fwA, seval] <;> rfl) ?_
  refine awp_seq ?_
  refine awp_cond (by simp only [fwA, seval] <;> rfl) ?_
  by_cases hc : (i : Int) < fr.length
  rotate_left
  · simp only [hc, decide_false, Bool.false_eq_true, ↓reduceIte]
    refine awp_exit ?_
    refine awp_seq (awp_run rfl (by simp only [fwA, seval] <;> rfl) (awp_ret ?_))
    have hi' : i = fr.length := by omega
    rw [hi'] at hno
    exact gives_end0 (.inl rfl) (by rw [idxI_none hno]; rfl)
  simp only [hc, decide_true, ↓reduceIte]
  refine awp_skip ?_
  have hia : i < fr.length := by omega
  have ga : fr[i]? = some fr[i] := List.getElem?_eq_getElem hia
  refine awp_seq ?_
  refine awp_block ?_
  refine awp_seq ?_
  refine awp_run rfl (by simp only [fwA, seval] <;> rfl) ?_
  refine awp_seq ?_
  -- region 4
  refine awp_run rfl (by simp only [fwA, seval, gfw, bx, dx, ga] <;> rfl) ?_
  refine awp_cond (by simp only [fwA, seval] <;> rfl) ?_
  by_cases he : a = fr[i]
  · simp only [← he, decide_true, ↓reduceIte]
    have hri := idxI_some hno (ga.trans (congrArg some he.symm))
    rw [hri]
    refine awp_seq ?_
    refine awp_run rfl (by simp only [fwA, seval] <;> rfl) (awp_ret ?_)
    exact gives_end0 (.inl rfl) rfl
  simp only [he, decide_false, Bool.false_eq_true, ↓reduceIte]
  refine awp_skip ?_
  refine awp_run rfl (by simp only [fwA, seval] <;> rfl) ?_
  refine ⟨i + 1, by omega, ⟨by omega, fun j hj => ?_⟩, by rw [wrapS i (by omega)]; rfl, rfl, rfl⟩
  by_cases hji : j = i
  · subst hji; rw [ga]; simpa using fun h => he h.symm
  · exact hno j (by omega)


theorem idxI_has (fr : List Int) (a : Int) : decide (0 ≤ idxI fr a) = fr.contains a := by
  by_cases h : a ∈ fr
  · obtain ⟨k, hk⟩ := List.mem_iff_getElem?.1 h
    have : ∃ i : Nat, (∀ j, j < i → fr[j]? ≠ some a) ∧ fr[i]? = some a := by
      induction k using Nat.strongRecOn with
      | _ k ih =>
        by_cases hx : ∃ j, j < k ∧ fr[j]? = some a
        · obtain ⟨j, hj, e⟩ := hx
          exact ih j hj e
        · exact ⟨k, fun j hj e => hx ⟨j, hj, e⟩, hk⟩
    obtain ⟨i, h1, h2⟩ := this
    rw [idxI_some h1 h2, List.contains_iff_mem.2 h]
    simp
  · have h1 : ∀ j, j < fr.length → fr[j]? ≠ some a := fun j _ e => h (List.mem_of_getElem? e)
    rw [idxI_none h1]
    have : fr.contains a = false := by
      cases e : fr.contains a
      · rfl
      · exact absurd (List.contains_iff_mem.1 e) h
    rw [this]; rfl
/- slices.Contains[[]chancel/atom.Atom,chancel/atom.Atom] -/
theorem c85 (Γ : Nat → PV) (fr : List Int) (a : Int) : Gives Tryz.prog Γ 85 [.vec (fr.map I1) false, .int .i64 a] (.bool (fr.contains a)) := by
  have h := c121 Γ fr a
  rw [← idxI_has]
  refine fn_of_awp Tryz.func85 rfl (by simp [Tryz.f85]) rfl fun H => ?_
  refine awp_seq ?_
  refine awp_run rfl (by simp only [fwA, seval] <;> rfl) ?_
  refine awp_seq ?_
  refine awp_region rfl ?_
  refine aops_run 2 (by simp only [fwA, seval, gfw, bx, dx, bitfw, Int.reduceEq, Int.reduceNeg, Int.reduceToNat, Int.reduceLE, Int.reduceLT] <;> rfl) ?_
  refine aops_fn rfl rfl rfl en121 h ?_
  refine aops_run 2 (by simp only [fwA, seval, gfw, bx, dx, bitfw, Int.reduceEq, Int.reduceNeg, Int.reduceToNat, Int.reduceLE, Int.reduceLT] <;> rfl) ?_
  refine aops_end ?_
  refine awp_ret ?_
  exact gives_end0 (.inl rfl) rfl
end Go.Proofs.YteicbhkimepbaaaGreatDoor

/- FWLONG -/
/- The contract of what is projected. -/
namespace Go.Proofs.YteicbhkimepbaaaGreatDoor
set_option linter.unusedVariables false
set_option linter.unusedSimpArgs false
set_option maxRecDepth 100000
open Go.RowKit Fw

/-- A map that tells the bounds of some. -/
def LowOk (f : Int → Int) (es : List (Int × PV)) (m : List Int) : Prop := ∀ x : Int, (find1 x es 0 = none ∧ x ∉ m) ∨ ∃ k : Nat, find1 x es 0 = some (k, .int .i64 (f x)) ∧ x ∈ m
def lowTo (f : Int → Int) (es : List (Int × PV)) (y : Int) : List (Int × PV) := match find1 y es 0 with
  | none => es ++ [(y, .int .i64 (f y))]
  | some (k, _) => es.set k (y, .int .i64 (f y))
theorem lowT_step {f : Int → Int} {es : List (Int × PV)} {m : List Int} (h : LowOk f es m) (y : Int) : LowOk f (lowTo f es y) (m ++ [y]) := fun x => by
  unfold lowTo
  rcases h y with ⟨h1, h2⟩ | ⟨k, h1, h2⟩
  · rw [h1]
    simp only
    rw [find1_snoc h1]
    by_cases e : x = y
    · exact .inr ⟨_, by rw [if_pos e, e], by simp [e]⟩
    · rw [if_neg e]
      exact (h x).imp (fun ⟨a, b⟩ => ⟨a, by simp [b, e]⟩) fun ⟨k, a, b⟩ => ⟨k, a, by simp [b]⟩
  · rw [h1]
    simp only
    rw [find1_set (v := .int .i64 (f y)) (by rw [Nat.zero_add]; exact h1)]
    by_cases e : x = y
    · exact .inr ⟨_, by rw [if_pos e, e], by simp [e]⟩
    · rw [if_neg e]
      exact (h x).imp (fun ⟨a, b⟩ => ⟨a, by simp [b, e]⟩) fun ⟨k, a, b⟩ => ⟨k, a, by simp [b]⟩
theorem low_plain {f : Int → Int} {es : List (Int × PV)} (h : (es.all fun x => x.2.bd 0) = true) (y : Int) : ((lowTo f es y).all fun x => x.2.bd 0) = true := by
  unfold lowTo
  split
  · rw [List.all_append, h]; rfl
  · rw [List.all_eq_true] at h ⊢
    intro e he
    rcases List.mem_or_eq_of_mem_set he with k | rfl
    · exact h e k
    · rfl
theorem plain_pr (l : List Pr) (m : Nat) : PV.bdL m ((l.map Pr.enc).flatten) = true := flat_bd (fun t => by simp only [Pr.fw]) _
/-- A list that grows in a box's row, behind blocks that stay. -/
def HPj (M : List Blk) (O : List Pr) (L : List Blk) : List Blk := M ++ (Blk.box [.row (M.length + 1) 0 O.length 2] :: .row 2 ((O.map Pr.enc).flatten) :: L)
section
variable {M L : List Blk} {O O' : List Pr}
theorem HPj_len : (HPj M O L).length = M.length + 2 + L.length := by simp [HPj]; omega
theorem HPj_app (X : List Blk) : HPj M O L ++ X = HPj M O (L ++ X) := by simp [HPj]
theorem HPj_old {b : Nat} {B : Blk} (h : M[b]? = some B) : (HPj M O L)[b]? = some B := Fw.get_old _ h
theorem HPj_box : (HPj M O L)[M.length]? = some (.box [.row (M.length + 1) 0 O.length 2]) := by unfold HPj; rw [Fw.get_at0]; rfl
theorem HPj_row : (HPj M O L)[M.length + 1]? = some (.row 2 ((O.map Pr.enc).flatten)) := by unfold HPj; rw [Fw.get_at]; rfl
theorem HPj_at (j : Nat) : (HPj M O L)[M.length + 2 + j]? = L[j]? := by unfold HPj; rw [show M.length + 2 + j = M.length + (j + 2) by omega, Fw.get_at]; rfl
theorem HPj_boxS (B : Blk) : ((HPj M O L).set (M.length + 1) B)[M.length]? = some (.box [.row (M.length + 1) 0 O.length 2]) := by rw [List.getElem?_set_ne (by omega)]; exact HPj_box
theorem HPj_push (x : Pr) : ((HPj M O L).set (M.length + 1) (.row 2 (((O ++ [x]).map Pr.enc).flatten))).set M.length (.box [.row (M.length + 1) 0 (O.length + 1) 2]) = HPj M (O ++ [x]) L := by
  unfold HPj
  rw [Fw.set_at, Fw.set_at0]; simp
theorem HPj_bd (h : ∀ B ∈ HPj M O L, B.bd (HPj M O L).length = true) (O' : List Pr) : ∀ B ∈ HPj M O' L, B.bd (HPj M O' L).length = true := fun B hB => by
  have e : (HPj M O' L).length = (HPj M O L).length := by rw [HPj_len, HPj_len]
  rw [e]
  unfold HPj at hB
  simp only [List.mem_append, List.mem_cons] at hB
  rcases hB with hB | rfl | rfl | hB
  · exact h B (by unfold HPj; simp [hB])
  · rw [HPj_len]
    simp [Blk.bd, PV.bdL, PV.bd]; omega
  · exact plain_pr _ _
  · exact h B (by unfold HPj; simp [hB])
end
theorem projO_len (ns : List (List UInt8)) (us : List Nat) (c : List Pr) (K : List Int) (v : Int) : (projO ns us c K v).length ≤ c.length + 3 := by
  unfold projO
  rw [List.length_append, List.length_append, List.length_map]
  have h1 : (if lowV ns us c v = botV ns us then ([] : List Pr) else [⟨-1 - lowV ns us c v, v⟩]).length ≤ 1 := by split <;> simp
  have h2 : (if highV ns us c v = topV ns us then ([] : List Pr) else [⟨v, -1 - highV ns us c v⟩]).length ≤ 1 := by split <;> simp
  have h3 := List.length_filter_le (fun w => K.contains w && !leqB (min ns.length us.length) us (highV ns us c v) (lowV ns us c w)) (abv c v)
  have h4 := abv_len (c := c) (a := v)
  omega
theorem flatMap_le {X Y : Type} (f : X → List Y) (n : Nat) (h : ∀ x, (f x).length ≤ n) : ∀ l : List X, (l.flatMap f).length ≤ l.length * n
  | [] => by simp
  | x :: l => by
    rw [List.flatMap_cons, List.length_append, List.length_cons, Nat.add_mul]
    have := h x
    have := flatMap_le f n h l
    omega
theorem i1_plain (l : List Int) (n : Nat) : PV.bdL n ((l.map I1).flatten) = true := flat_bd (fun _ => rfl) l
set_option maxHeartbeats 16000000 in
/- chancel/closed.Project -/
theorem c35 (Γ : Nat → PV) (hΓ : Tab64 Γ) (ns : List (List UInt8)) (us : List Nat) (hw : W64 us) (c : List Pr) (hl : c.length ≤ 10000000) (ho : OkP c) (keep : List Int) (hk64 : ∀ v ∈ keep, I64 v) (hkl : keep.length * (c.length + 3) ≤ 1000000000000) : Gives Tryz.prog Γ 35 [.agg [.vec (ns.map S1) false, .vec (us.map U1) false], .vec (c.map Pr.enc) false, .vec (keep.map I1) false] (.vec ((projV ns us c keep).map Pr.enc) false) := by
  have hkl1 : keep.length ≤ 1000000000000 := Nat.le_trans (Nat.le_mul_of_pos_right _ (by omega)) hkl
  have h17 := c17 Γ hΓ ns us hw c (by omega) ho
  refine fn_of_awp Tryz.func35 rfl (by simp [Tryz.f35]) rfl fun H => ?_
  refine awp_bd fun hbd => ?_
  refine awp_seq ?_
  refine awp_run rfl (by simp only [fwA, ↓reduceIte, Nat.reduceAdd, Nat.reduceMul, Nat.reduceEqDiff, Nat.reduceLT, Nat.reduceLeDiff, reduceCtorEq, gfw, bx, dx, bitfw, Int.reduceEq, Int.reduceNeg, Int.reduceToNat, Int.reduceLE, Int.reduceLT] <;> rfl) ?_
  refine awp_seq ?_
  refine awp_seq ?_
  unfold projV
  cases hk : knownB ns us c
  · rw [hk] at h17
    refine awp_region rfl ?_
    refine aops_run 2 (by simp only [fwA, ↓reduceIte, Nat.reduceAdd, Nat.reduceMul, Nat.reduceEqDiff, Nat.reduceLT, Nat.reduceLeDiff, reduceCtorEq, gfw, bx, dx, bitfw, Int.reduceEq, Int.reduceNeg, Int.reduceToNat, Int.reduceLE, Int.reduceLT] <;> rfl) ?_
    refine aops_fn rfl rfl rfl en17 h17 ?_
    refine aops_run 1 (by simp only [fwA, ↓reduceIte, Nat.reduceAdd, Nat.reduceMul, Nat.reduceEqDiff, Nat.reduceLT, Nat.reduceLeDiff, reduceCtorEq, gfw, bx, dx, bitfw, Int.reduceEq, Int.reduceNeg, Int.reduceToNat, Int.reduceLE, Int.reduceLT] <;> rfl) ?_
    refine aops_end ?_
    refine awp_cond (b := true) (by simp [alook, aput, ev]) ?_
    refine awp_seq ?_
    refine awp_run rfl (by simp only [fwA, ↓reduceIte, Nat.reduceAdd, Nat.reduceMul, Nat.reduceEqDiff, Nat.reduceLT, Nat.reduceLeDiff, reduceCtorEq] <;> rfl) ?_
    refine awp_told (told_le 6 (.vec [] false) ⟨nofun, trivial⟩) ?_
    refine awp_ret ?_
    exact gives_end (.inl rfl) _ rfl
  rw [hk] at h17
  rw [if_pos rfl]
  refine awp_region rfl ?_
  refine aops_run 2 (by simp only [fwA, ↓reduceIte, Nat.reduceAdd, Nat.reduceMul, Nat.reduceEqDiff, Nat.reduceLT, Nat.reduceLeDiff, reduceCtorEq, gfw, bx, dx, bitfw, Int.reduceEq, Int.reduceNeg, Int.reduceToNat, Int.reduceLE, Int.reduceLT] <;> rfl) ?_
  refine aops_fn rfl rfl rfl en17 h17 ?_
  refine aops_run 1 (by simp only [fwA, ↓reduceIte, Nat.reduceAdd, Nat.reduceMul, Nat.reduceEqDiff, Nat.reduceLT, Nat.reduceLeDiff, reduceCtorEq, gfw, bx, dx, bitfw, Int.reduceEq, Int.reduceNeg, Int.reduceToNat, Int.reduceLE, Int.reduceLT] <;> rfl) ?_
  refine aops_end ?_
  refine awp_cond (b := false) (by simp [alook, aput, ev]) (awp_skip ?_)
  refine awp_seq ?_
  refine awp_region rfl ?_
  refine aops_run 1 (by simp only [fwA, ↓reduceIte, Nat.reduceAdd, Nat.reduceMul, Nat.reduceEqDiff, Nat.reduceLT, Nat.reduceLeDiff, reduceCtorEq, gfw, bx, dx, bitfw, Int.reduceEq, Int.reduceNeg, Int.reduceToNat, Int.reduceLE, Int.reduceLT] <;> rfl) ?_
  refine aops_call rfl rfl rfl en84 ((c84 Γ _ keep false (by omega)).mono fun p H' hp => ?_)
  obtain ⟨rfl, rfl⟩ := hp
  rw [show (H ++ [Blk.box [.vec (ns.map S1) false, .vec (us.map U1) false], .box [.vec (keep.map I1) false]]).length = H.length + 2 by simp]
  refine aops_call rfl rfl rfl en83 ((c83 Γ _ (H.length + 2) (H.length + 2) keep (Nat.le_refl _) (by rw [List.append_assoc, Fw.get_at]; rfl) (by omega)).mono fun p H' hp => ?_)
  obtain ⟨b, rfl, hb, hnb, ht, hHl⟩ := hp
  have ht : H'.take (H.length + 2) = H ++ [Blk.box [.vec (ns.map S1) false, .vec (us.map U1) false], .box [.vec (keep.map I1) false]] := by
    rw [ht, List.append_assoc, Fw.take_at]; rfl
  have hg0 : ∀ j, j < 2 → H'[H.length + j]? = (H ++ [Blk.box [.vec (ns.map S1) false, .vec (us.map U1) false], .box [.vec (keep.map I1) false]])[H.length + j]? := fun j hj => by rw [← ht, List.getElem?_take_of_lt (by omega)]
  have hg1 : H'[H.length + 1]? = some (.box [.vec (keep.map I1) false]) := by rw [hg0 1 (by decide), Fw.get_at]; rfl
  have hg00 : H'[H.length]? = some (.box [.vec (ns.map S1) false, .vec (us.map U1) false]) := by have := hg0 0 (by decide); rw [Nat.add_zero] at this; rw [this, Fw.get_at0]; rfl
  have hbl := (List.getElem?_eq_some_iff.1 hb).1
  refine aops_run 1 (by simp only [fwA, ↓reduceIte, Nat.reduceAdd, Nat.reduceMul, Nat.reduceEqDiff, Nat.reduceLT, Nat.reduceLeDiff, reduceCtorEq, gfw, bx, dx, bitfw, Int.reduceEq, Int.reduceNeg, Int.reduceToNat, Int.reduceLE, Int.reduceLT, hg1] <;> rfl) ?_
  refine aops_end ?_
  refine awp_keep (A' := [(1, .vec (c.map Pr.enc) false), (3, .ptr H.length 0), (5, .ptr (H.length + 1) 0)]) [1, 3, 5] (by simp only [fwA, ↓reduceIte, Nat.reduceAdd, Nat.reduceMul, Nat.reduceEqDiff, Nat.reduceLT, Nat.reduceLeDiff, reduceCtorEq, gfw, akeep] <;> rfl) ?_
  have hfil : keep.filter unlA = keepV keep := rfl
  rw [hfil] at hb ⊢
  have hKVl : (keepV keep).length ≤ keep.length := List.length_filter_le _ _
  have hKV64 : ∀ v ∈ keepV keep, I64 v := fun v hv => hk64 v (keep_mem.1 hv).1
  have hKV0 : ∀ v ∈ keepV keep, 0 ≤ v := fun v hv => (keep_mem.1 hv).2
  generalize keepV keep = KV at *
  have hfz := told_freezeR (Γ := Γ) (A := [(1, .vec (c.map Pr.enc) false), (3, .ptr H.length 0), (5, .ptr (H.length + 1) 0)]) (H := H'.set (H.length + 1) (.box [.row b 0 KV.length 1])) b (sz := 1) (C := (KV.map I1).flatten) (H2 := (H'.set (H.length + 1) (.box [.vec (KV.map I1) false])).set b .dead) (by rw [List.getElem?_set_ne (by omega)]; exact hb) (i1_plain _ 0) (by simp) (fun k B hB => by
    by_cases hkb : k = b
    · subst hkb
      rw [List.getElem?_set_self (by simpa using hbl)] at hB
      rw [List.getElem?_set_self (by simpa using hbl)]
      exact ⟨_, rfl, .inl (Option.some.inj hB).symm⟩
    · rw [List.getElem?_set_ne (Ne.symm hkb)] at hB
      rw [List.getElem?_set_ne (Ne.symm hkb)]
      by_cases hk1 : k = H.length + 1
      · subst hk1
        rw [List.getElem?_set_self (by omega)] at hB
        rw [List.getElem?_set_self (by omega)]
        refine ⟨_, rfl, .inr ?_⟩
        rw [← Option.some.inj hB]
        have hlen : ((KV.map I1).flatten).length = 0 + KV.length * 1 := by rw [flat_len I1_len, Nat.zero_add]
        show _ = Blk.box [frz b 1 ((KV.map I1).flatten) (.row b 0 KV.length 1)]
        rw [frz_row, if_pos ⟨rfl, rfl, hlen⟩, List.drop_zero, flat_chunk I1_len]
      · rw [List.getElem?_set_ne (Ne.symm hk1)] at hB
        rw [List.getElem?_set_ne (Ne.symm hk1)]
        exact ⟨B, hB, .inl rfl⟩)
  refine awp_told (A' := [(1, .vec (c.map Pr.enc) false), (3, .ptr H.length 0), (5, .ptr (H.length + 1) 0)]) hfz ?_
  have hKt : ((H'.set (H.length + 1) (.box [.vec (KV.map I1) false])).set b .dead).take H.length = H := by
    rw [List.take_set_of_le (by omega), List.take_set_of_le (by omega)]
    have := congrArg (List.take H.length) ht
    rw [List.take_take, Nat.min_eq_left (by omega), List.take_left' rfl] at this
    exact this
  have hKe := take_pre hKt
  have hK0 : ((H'.set (H.length + 1) (.box [.vec (KV.map I1) false])).set b .dead)[H.length]? = some (.box [.vec (ns.map S1) false, .vec (us.map U1) false]) := by
    rw [List.getElem?_set_ne (by omega), List.getElem?_set_ne (by omega)]; exact hg00
  have hK1 : ((H'.set (H.length + 1) (.box [.vec (KV.map I1) false])).set b .dead)[H.length + 1]? = some (.box [.vec (KV.map I1) false]) := by
    rw [List.getElem?_set_ne (by omega), List.getElem?_set_self (by omega)]
  clear hfz hg0 hg00 hg1 hb hnb ht hHl hbl
  generalize (H'.set (H.length + 1) (.box [.vec (KV.map I1) false])).set b .dead = K at hKe hK0 hK1 hKt ⊢
  refine awp_bd fun hbdK => ?_
  refine awp_seq ?_
  refine awp_region rfl ?_
  refine aops_run 1 (by simp only [fwA, ↓reduceIte, Nat.reduceAdd, Nat.reduceMul, Nat.reduceEqDiff, Nat.reduceLT, Nat.reduceLeDiff, reduceCtorEq, gfw, bx, dx, bitfw, Int.reduceEq, Int.reduceNeg, Int.reduceToNat, Int.reduceLE, Int.reduceLT] <;> rfl) ?_
  refine aops_call rfl rfl rfl en73 ((c73 Γ c false hl _).mono fun p H' hp => ?_)
  obtain ⟨rfl, rfl⟩ := hp
  rw [show dcP false c = c from rfl]
  refine aops_run 1 (by simp only [fwA, ↓reduceIte, Nat.reduceAdd, Nat.reduceMul, Nat.reduceEqDiff, Nat.reduceLT, Nat.reduceLeDiff, reduceCtorEq, gfw, bx, dx, bitfw, Int.reduceEq, Int.reduceNeg, Int.reduceToNat, Int.reduceLE, Int.reduceLT] <;> rfl) ?_
  refine aops_end ?_
  have hgm : ∀ L, (K ++ (Blk.map ((graphV c).map enc1) :: L))[K.length]? = some (.map ((graphV c).map enc1)) := fun L => by rw [Fw.get_at0]; rfl
  refine awp_seq ?_
  refine awp_region rfl ?_
  refine aops_one rfl (os_makeMap rfl ?_)
  refine aops_run 2 (by simp only [fwA, ↓reduceIte, Nat.reduceAdd, Nat.reduceMul, Nat.reduceEqDiff, Nat.reduceLT, Nat.reduceLeDiff, reduceCtorEq, gfw, bx] <;> rfl) ?_
  refine aops_end ?_
  have hK0' : ∀ L, (K ++ L)[H.length]? = some (.box [.vec (ns.map S1) false, .vec (us.map U1) false]) := fun L => Fw.get_old L hK0
  have hK1' : ∀ L, (K ++ L)[H.length + 1]? = some (.box [.vec (KV.map I1) false]) := fun L => Fw.get_old L hK1
  have hb2 : ∀ B1 B2 B3 : Blk, ∀ L, (K ++ (B1 :: B2 :: B3 :: L))[K.length + 2]? = some B3 := fun B1 B2 B3 L => by rw [Fw.get_at]; rfl
  have hb1 : ∀ B1 B2 : Blk, ∀ L, (K ++ (B1 :: B2 :: L))[K.length + 1]? = some B2 := fun B1 B2 L => by rw [Fw.get_at]; rfl
  refine awp_seq ?_
  refine awp_seq ?_
  refine awp_heap (H' := K ++ [.map ((graphV c).map enc1), .map (([] : List (Int × PV)).map enc1), .box [.map (K.length + 1)]]) (by simp [List.length_append]) ?_
  refine awp_run rfl (by simp only [fwA, ↓reduceIte, Nat.reduceAdd, Nat.reduceMul, Nat.reduceEqDiff, Nat.reduceLT, Nat.reduceLeDiff, reduceCtorEq, gfw, bx, dx, bitfw, Int.reduceEq, Int.reduceNeg, Int.reduceToNat, Int.reduceLE, Int.reduceLT, hK1'] <;> rfl) ?_
  refine awp_block ?_
  refine awp_for [1, 3, 5, 7, 8, 26, 27, 28] (fun s : Nat × List (Int × PV) => [.vec (c.map Pr.enc) false, .ptr H.length 0, .ptr (H.length + 1) 0, .map K.length, .ptr (K.length + 2) 0, .vec (KV.map I1) false, .int .i64 (KV.length : Int), .int .i64 (s.1 : Int)]) (fun s => K ++ [.map ((graphV c).map enc1), .map (s.2.map enc1), .box [.map (K.length + 1)]]) (fun s => KV.length - s.1) (fun s => s.1 ≤ KV.length ∧ LowOk (lowV ns us c) s.2 (KV.take s.1) ∧ (s.2.all fun x => x.2.bd 0) = true) (0, []) (by simp only [fwA, ↓reduceIte, Nat.reduceAdd, Nat.reduceMul, Nat.reduceEqDiff, Nat.reduceLT, Nat.reduceLeDiff, reduceCtorEq, gfw, List.length_append, List.length_cons, List.length_nil]; rfl) rfl ⟨Nat.zero_le _, fun x => .inl ⟨rfl, by simp⟩, rfl⟩ fun ⟨i, es⟩ ⟨o1, o2, o3⟩ => ?_
  simp only at o1 o2 o3 ⊢
  refine awp_seq ?_
  refine awp_run rfl (by simp only [fwA, ↓reduceIte, Nat.reduceAdd, Nat.reduceMul, Nat.reduceEqDiff, Nat.reduceLT, Nat.reduceLeDiff, reduceCtorEq, gfw, bx, dx, bitfw, Int.reduceEq, Int.reduceNeg, Int.reduceToNat, Int.reduceLE, Int.reduceLT] <;> rfl) ?_
  refine awp_seq ?_
  refine awp_cond (by simp only [fwA, ↓reduceIte, Nat.reduceAdd, Nat.reduceMul, Nat.reduceEqDiff, Nat.reduceLT, Nat.reduceLeDiff, reduceCtorEq] <;> rfl) ?_
  by_cases hc : (i : Int) < KV.length
  · simp only [hc, decide_true, ↓reduceIte]
    refine awp_skip ?_
    have hi : i < KV.length := by omega
    obtain ⟨v, hv⟩ : ∃ v, KV[i]? = some v := ⟨_, List.getElem?_eq_getElem hi⟩
    have hvm := List.mem_of_getElem? hv
    have hwi : IntKind.i64.wrap ((i : Int) + 1) = ((i + 1 : Nat) : Int) := wrapS i (by omega)
    have h28 := c28 Γ hΓ ns us hw c hl ho v (hKV64 v hvm)
    have hst := lowT_step o2 v
    rw [← take_snoc hv] at hst
    refine awp_seq ?_
    refine awp_block ?_
    refine awp_seq ?_
    refine awp_run rfl (by simp only [fwA, ↓reduceIte, Nat.reduceAdd, Nat.reduceMul, Nat.reduceEqDiff, Nat.reduceLT, Nat.reduceLeDiff, reduceCtorEq, gfw, bx, dx, bitfw, Int.reduceEq, Int.reduceNeg, Int.reduceToNat, Int.reduceLE, Int.reduceLT, hv] <;> rfl) ?_
    have hres : ∃ r : Option (Nat × PV), find1 v es 0 = r ∧ mput (es.map enc1) (.int .i64 v) (.int .i64 (lowV ns us c v)) r = (lowTo (lowV ns us c) es v).map enc1 := by
      refine ⟨_, rfl, ?_⟩
      unfold lowTo
      rcases o2 v with ⟨h1, _⟩ | ⟨k, h1, _⟩
      · rw [h1, List.map_append]; rfl
      · rw [h1, List.map_set]; rfl
    obtain ⟨r, hr1, hr2⟩ := hres
    refine awp_drawn [1, 0, 1, 0, 0, 0, 2] [0, 0, 0, 0, 0, 28, 63] mixed rfl (by kernel_rfl) ?_
    refine dops_run 5 (by simp only [fwA, ↓reduceIte, Nat.reduceAdd, Nat.reduceMul, Nat.reduceEqDiff, Nat.reduceLT, Nat.reduceLeDiff, reduceCtorEq, gfw, bx, dx, bitfw, Int.reduceEq, Int.reduceNeg, Int.reduceToNat, Int.reduceLE, Int.reduceLT, hK0', hK1', hb2] <;> rfl) ?_
    refine dops_fn rfl (by simp only [fwA, ↓reduceIte, Nat.reduceAdd, Nat.reduceMul, Nat.reduceEqDiff, Nat.reduceLT, Nat.reduceLeDiff, reduceCtorEq] <;> rfl) rfl rfl en28 h28 ?_
    refine dops_turns (H' := K ++ [.map ((graphV c).map enc1), .map ((lowTo (lowV ns us c) es v).map enc1), .box [.map (K.length + 1)]]) .any rfl rfl (fun A' hev => os_mapUpdate (r := r) (.inl rfl) un91 un28 (by rw [hev _ (by simp [Op.operands])]; rfl) ((hev _ (by simp [Op.operands])).trans rfl) (hb1 _ _ _) (by rw [hev _ (by simp [Op.operands])]; exact (mfind1 v _ 0).trans (by rw [hr1])) ⟨rfl, by
      rw [hev _ (by simp [Op.operands]), hev _ (by simp [Op.operands]), Fw.set_at]
      show K ++ [_, Blk.map (mput (es.map enc1) (.int .i64 v) (.int .i64 (lowV ns us c v)) r), _] = _
      rw [hr2]⟩) ?_
    refine dops_end ?_
    refine awp_run rfl (by simp only [fwA, ↓reduceIte, Nat.reduceAdd, Nat.reduceMul, Nat.reduceEqDiff, Nat.reduceLT, Nat.reduceLeDiff, reduceCtorEq] <;> rfl) ?_
    refine ⟨(i + 1, lowTo (lowV ns us c) es v), by simp only; omega, ⟨by simp only; omega, hst, low_plain o3 v⟩, ?_, rfl, rfl⟩
    simp only [fwA, ↓reduceIte, Nat.reduceAdd, Nat.reduceMul, Nat.reduceEqDiff, Nat.reduceLT, Nat.reduceLeDiff, reduceCtorEq, gfw, hwi]
  simp only [hc, decide_false, Bool.false_eq_true, ↓reduceIte]
  refine awp_exit ?_
  have e : i = KV.length := by omega
  subst e
  rw [List.take_length] at o2
  refine awp_seq ?_
  refine awp_run rfl (by simp only [fwA, ↓reduceIte, Nat.reduceAdd, Nat.reduceMul, Nat.reduceEqDiff, Nat.reduceLT, Nat.reduceLeDiff, reduceCtorEq, gfw, bx, dx, bitfw, Int.reduceEq, Int.reduceNeg, Int.reduceToNat, Int.reduceLE, Int.reduceLT] <;> rfl) ?_
  have hM0 := hK0' [Blk.map ((graphV c).map enc1), .map (es.map enc1), .box [.map (K.length + 1)]]
  have hM1 := hK1' [Blk.map ((graphV c).map enc1), .map (es.map enc1), .box [.map (K.length + 1)]]
  have hMg := hgm [.map (es.map enc1), .box [.map (K.length + 1)]]
  have hMl := hb1 (.map ((graphV c).map enc1)) (.map (es.map enc1)) [.box [.map (K.length + 1)]]
  have hMb := hb2 (.map ((graphV c).map enc1)) (.map (es.map enc1)) (.box [.map (K.length + 1)]) []
  have hML : (K ++ [Blk.map ((graphV c).map enc1), .map (es.map enc1), .box [.map (K.length + 1)]]).length = K.length + 3 := by simp
  have hMe : ∃ L', K ++ [Blk.map ((graphV c).map enc1), .map (es.map enc1), .box [.map (K.length + 1)]] = H ++ L' := ⟨_, by conv => lhs; rw [hKe, List.append_assoc]⟩
  have hMbd : ∀ B ∈ K ++ [Blk.map ((graphV c).map enc1), .map (es.map enc1), .box [.map (K.length + 1)]], B.bd (K ++ [Blk.map ((graphV c).map enc1), .map (es.map enc1), .box [.map (K.length + 1)]]).length = true := bd_app hbdK (by
    simp only [List.all_cons, List.all_nil, Bool.and_true, Bool.and_eq_true]
    exact ⟨graphV_bd _ _, met_bd o3 _, by simp [Blk.bd, PV.bdL, PV.bd]⟩)
  have hHK : H.length + 1 < K.length := (List.getElem?_eq_some_iff.1 hK1).1
  refine awp_told (told_adoptBox (K.length + 3) 0 2 (by decide) (by rw [Fw.get_at]; rfl) rfl) ?_
  refine awp_heap (H' := HPj (K ++ [Blk.map ((graphV c).map enc1), .map (es.map enc1), .box [.map (K.length + 1)]]) [] []) (by unfold HPj; rw [Fw.set_at]; simp) ?_
  refine awp_seq ?_
  refine awp_seq ?_
  have hgmL : K.length < (K ++ [Blk.map ((graphV c).map enc1), .map (es.map enc1), .box [.map (K.length + 1)]]).length := by rw [hML]; omega
  have hlb : K.length + 2 < (K ++ [Blk.map ((graphV c).map enc1), .map (es.map enc1), .box [.map (K.length + 1)]]).length := by rw [hML]; omega
  have hHM : H.length + 1 < (K ++ [Blk.map ((graphV c).map enc1), .map (es.map enc1), .box [.map (K.length + 1)]]).length := by rw [hML]; omega
  rw [← hML]
  generalize K ++ [Blk.map ((graphV c).map enc1), .map (es.map enc1), .box [.map (K.length + 1)]] = M at *
  generalize K.length = gm at *
  have hM1' : ∀ O L, (HPj M O L)[H.length + 1]? = some (.box [.vec (KV.map I1) false]) := fun O L => HPj_old hM1
  refine awp_run rfl (by simp only [fwA, ↓reduceIte, Nat.reduceAdd, Nat.reduceMul, Nat.reduceEqDiff, Nat.reduceLT, Nat.reduceLeDiff, reduceCtorEq, gfw, bx, dx, bitfw, Int.reduceEq, Int.reduceNeg, Int.reduceToNat, Int.reduceLE, Int.reduceLT, hM1'] <;> rfl) ?_
  refine awp_block ?_
  refine awp_forD [1, 3, 5, 7, 8, 11, 39, 40, 41] (fun s : Nat × List Blk × List Nat => [.vec (c.map Pr.enc) false, .ptr H.length 0, .ptr (H.length + 1) 0, .map gm, .ptr (gm + 2) 0, .ptr M.length 0, .vec (KV.map I1) false, .int .i64 (KV.length : Int), .int .i64 (s.1 : Int)]) (fun s => HPj M ((KV.take s.1).flatMap (projO ns us c KV)) s.2.1) (fun s => s.2.2) (fun s => KV.length - s.1)
    (fun s => s.1 ≤ KV.length ∧ s.2.2.Nodup ∧ ∀ d ∈ s.2.2, ∃ j, d = M.length + 2 + j ∧ s.2.1[j]? = some .dfr) (0, [], []) (by simp only [fwA, ↓reduceIte, Nat.reduceAdd, Nat.reduceMul, Nat.reduceEqDiff, Nat.reduceLT, Nat.reduceLeDiff, reduceCtorEq, gfw] <;> rfl) (by simp) rfl ⟨Nat.zero_le _, List.nodup_nil, fun d hd => by cases hd⟩ fun ⟨i, L, Dl⟩ ⟨o4, o5, o6⟩ => ?_
  simp only at o4 o5 o6 ⊢
  have hM0' : ∀ O L, (HPj M O L)[H.length]? = some (.box [.vec (ns.map S1) false, .vec (us.map U1) false]) := fun O L => HPj_old hM0
  have hMb' : ∀ O L, (HPj M O L)[gm + 2]? = some (.box [.map (gm + 1)]) := fun O L => HPj_old hMb
  have hMl' : ∀ O L, (HPj M O L)[gm + 1]? = some (.map (es.map enc1)) := fun O L => HPj_old hMl
  have hMg' : ∀ O L, (HPj M O L)[gm]? = some (.map ((graphV c).map enc1)) := fun O L => HPj_old hMg
  have hOl : ∀ j, ((KV.take j).flatMap (projO ns us c KV)).length ≤ j * (c.length + 3) := fun j => Nat.le_trans (flatMap_le _ _ (fun v => projO_len ns us c KV v) _) (Nat.mul_le_mul_right _ (by rw [List.length_take]; omega))
  refine awp_seq ?_
  refine awp_run rfl (by simp only [fwA, ↓reduceIte, Nat.reduceAdd, Nat.reduceMul, Nat.reduceEqDiff, Nat.reduceLT, Nat.reduceLeDiff, reduceCtorEq, gfw, bx, dx, bitfw, Int.reduceEq, Int.reduceNeg, Int.reduceToNat, Int.reduceLE, Int.reduceLT] <;> rfl) ?_
  refine awp_seq ?_
  refine awp_cond (by simp only [fwA, ↓reduceIte, Nat.reduceAdd, Nat.reduceMul, Nat.reduceEqDiff, Nat.reduceLT, Nat.reduceLeDiff, reduceCtorEq] <;> rfl) ?_
  by_cases hc : (i : Int) < KV.length
  rotate_left
  · simp only [hc, decide_false, Bool.false_eq_true, ↓reduceIte]
    refine awp_exit ?_
    have e : i = KV.length := by omega
    subst e
    rw [List.take_length]
    have hOl2 := hOl KV.length
    rw [List.take_length] at hOl2
    have hbnd : KV.length * (c.length + 3) ≤ 1000000000000 := Nat.le_trans (Nat.mul_le_mul_right _ hKVl) hkl
    generalize KV.flatMap (projO ns us c KV) = O at hOl2 ⊢
    have h42 := c42 Γ O false (by omega)
    refine awp_seq ?_
    refine awp_region rfl ?_
    refine aops_run 1 (by simp only [fwA, ↓reduceIte, Nat.reduceAdd, Nat.reduceMul, Nat.reduceEqDiff, Nat.reduceLT, Nat.reduceLeDiff, reduceCtorEq, gfw, bx, dx, bitfw, Int.reduceEq, Int.reduceNeg, Int.reduceToNat, Int.reduceLE, Int.reduceLT, HPj_box] <;> rfl) ?_
    refine aops_call rfl rfl rfl en42 (acalls_frz (b := M.length + 1) (sz := 2) (C := (O.map Pr.enc).flatten) HPj_row (plain_pr _ _) ?_)
    have hfr : frz (M.length + 1) 2 ((O.map Pr.enc).flatten) (.row (M.length + 1) 0 O.length 2) = .vec (O.map Pr.enc) false := by
      rw [frz_row, if_pos ⟨rfl, rfl, by rw [flat_len Pr.enc_len, Nat.zero_add]⟩, List.drop_zero, flat_chunk Pr.enc_len]
    show ACalls Tryz.prog Γ 42 [frz (M.length + 1) 2 ((O.map Pr.enc).flatten) (.row (M.length + 1) 0 O.length 2)] _ _
    rw [hfr]
    refine (h42 _).mono fun p H' hp => ?_
    obtain ⟨rfl, rfl⟩ := hp
    refine aops_run 1 (by simp only [fwA, ↓reduceIte, Nat.reduceAdd, Nat.reduceMul, Nat.reduceEqDiff, Nat.reduceLT, Nat.reduceLeDiff, reduceCtorEq, gfw, bx, dx, bitfw, Int.reduceEq, Int.reduceNeg, Int.reduceToNat, Int.reduceLE, Int.reduceLT] <;> rfl) ?_
    refine aops_end ?_
    refine awp_ret ?_
    have hX : ((HPj M O L).set (M.length + 1) .dead).take H.length = H := by
      obtain ⟨L', e⟩ := hMe
      rw [List.take_set_of_le (by omega)]
      unfold HPj
      rw [e, List.append_assoc, List.take_left' rfl]
    have hX2 := take_pre hX
    refine ⟨.inl rfl, o5, fun d hd => ?_, rfl, _, hX2⟩
    obtain ⟨j, rfl, hj⟩ := o6 d hd
    exact ⟨by rw [List.getElem?_set_ne (by omega), HPj_at]; exact hj, by omega⟩
  simp only [hc, decide_true, ↓reduceIte]
  refine awp_skip ?_
  have hi : i < KV.length := by omega
  obtain ⟨v, hv⟩ : ∃ v, KV[i]? = some v := ⟨_, List.getElem?_eq_getElem hi⟩
  have hvm := List.mem_of_getElem? hv
  have hwi : IntKind.i64.wrap ((i : Int) + 1) = ((i + 1 : Nat) : Int) := wrapS i (by omega)
  have hbnd : i * (c.length + 3) + (c.length + 3) ≤ 1000000000000 := by
    have : (i + 1) * (c.length + 3) ≤ keep.length * (c.length + 3) := Nat.mul_le_mul_right _ (by omega)
    rw [Nat.add_mul] at this
    omega
  have hOi := hOl i
  have hOs : (KV.take (i + 1)).flatMap (projO ns us c KV) = (KV.take i).flatMap (projO ns us c KV) ++ projO ns us c KV v := by rw [take_snoc hv, List.flatMap_append]; simp
  generalize (KV.take i).flatMap (projO ns us c KV) = O at hOi hOs ⊢
  have h30 := c30 Γ hΓ ns us hw c hl ho v (hKV64 v hvm)
  have h50 := c50 Γ hΓ ns us hw
  have h79 := c79 Γ hΓ ns us hw
  obtain ⟨lx, elx, hlx⟩ := low_nat hk (hKV0 v hvm)
  obtain ⟨hx, ehx, hhx⟩ := high_nat hk (hKV0 v hvm)
  have hus : us.length ≤ 64 := by obtain ⟨r1, r2, _⟩ := right_spec (known_spec.1 hk).1; omega
  have hlx1 := hlx.1
  have hhx1 := hhx.1
  have h47l := c47 Γ (lowV ns us c v) ⟨by omega, by omega⟩
  have h47h := c47 Γ (highV ns us c v) ⟨by omega, by omega⟩
  rw [if_neg (by omega)] at h47l h47h
  obtain ⟨kl, hkl1, _⟩ : ∃ k : Nat, find1 v es 0 = some (k, .int .i64 (lowV ns us c v)) ∧ v ∈ KV := (o2 v).elim (fun h => absurd hvm h.2) id
  refine awp_seq ?_
  refine awp_block ?_
  refine awp_seq ?_
  refine awp_run rfl (by simp only [fwA, ↓reduceIte, Nat.reduceAdd, Nat.reduceMul, Nat.reduceEqDiff, Nat.reduceLT, Nat.reduceLeDiff, reduceCtorEq, gfw, bx, dx, bitfw, Int.reduceEq, Int.reduceNeg, Int.reduceToNat, Int.reduceLE, Int.reduceLT, hv] <;> rfl) ?_
  refine awp_heap (H' := HPj M O (L ++ [.box [.int .i64 v]])) (HPj_app _) ?_
  rw [HPj_len]
  have hgv : ∀ O X, (HPj M O (L ++ (.box [.int .i64 v] :: X)))[M.length + 2 + L.length]? = some (.box [.int .i64 v]) := fun O X => by rw [HPj_at, List.getElem?_append_right (Nat.le_refl _), Nat.sub_self]; rfl
  refine awp_seq ?_
  refine awp_region rfl ?_
  refine aops_run 3 (by simp only [fwA, ↓reduceIte, Nat.reduceAdd, Nat.reduceMul, Nat.reduceEqDiff, Nat.reduceLT, Nat.reduceLeDiff, reduceCtorEq, gfw, bx, dx, bitfw, Int.reduceEq, Int.reduceNeg, Int.reduceToNat, Int.reduceLE, Int.reduceLT, hM0', hgv] <;> rfl) ?_
  refine aops_fn rfl rfl rfl en30 h30 ?_
  refine aops_run 2 (by simp only [fwA, ↓reduceIte, Nat.reduceAdd, Nat.reduceMul, Nat.reduceEqDiff, Nat.reduceLT, Nat.reduceLeDiff, reduceCtorEq, gfw, bx, dx, bitfw, Int.reduceEq, Int.reduceNeg, Int.reduceToNat, Int.reduceLE, Int.reduceLT, hM0', hgv] <;> rfl) ?_
  refine aops_end ?_
  refine awp_heap (H' := HPj M O (L ++ [.box [.int .i64 v], .box [.int .i64 (highV ns us c v)]])) (by rw [HPj_app]; simp) ?_
  rw [HPj_len, List.length_append, List.length_cons, List.length_nil]
  have hgh : ∀ O X, (HPj M O (L ++ (.box [.int .i64 v] :: .box [.int .i64 (highV ns us c v)] :: X)))[M.length + 2 + (L.length + 1)]? = some (.box [.int .i64 (highV ns us c v)]) := fun O X => by rw [HPj_at, List.getElem?_append_right (by omega), show L.length + 1 - L.length = 1 by omega]; rfl
  refine awp_join [1, 3, 5, 7, 8, 11, 13, 14, 39, 40, 41] (fun _ : Unit => [.vec (c.map Pr.enc) false, .ptr H.length 0, .ptr (H.length + 1) 0, .map gm, .ptr (gm + 2) 0, .ptr M.length 0, .ptr (M.length + 2 + L.length) 0, .ptr (M.length + 2 + (L.length + 1)) 0, .vec (KV.map I1) false, .int .i64 (KV.length : Int), .int .i64 (i : Int)]) (fun _ => HPj M (O ++ (if lowV ns us c v = botV ns us then [] else [⟨-1 - lowV ns us c v, v⟩])) (L ++ [.box [.int .i64 v], .box [.int .i64 (highV ns us c v)]])) (fun _ => True) ?_ fun _ _ => ?_
  · refine awp_seq ?_
    by_cases e : lowV ns us c v = botV ns us
    · have hde : decide (lowV ns us c v = botV ns us) = true := decide_eq_true e
      refine awp_drawn [1,1,1,1,0,0] [0, 0, 3, 0, 8, 31] mixed rfl (by kernel_rfl) ?_
      refine dops_run 2 (by simp only [fwA, ↓reduceIte, Nat.reduceAdd, Nat.reduceMul, Nat.reduceEqDiff, Nat.reduceLT, Nat.reduceLeDiff, reduceCtorEq, gfw, bx, dx, bitfw, Int.reduceEq, Int.reduceNeg, Int.reduceToNat, Int.reduceLE, Int.reduceLT, hM0', hMb', hgv, hde] <;> rfl) ?_
      refine dops_reads (.int .i64 (lowV ns us c v)) rfl rfl (fun A' hev => os_lookup (r := some (kl, .int .i64 (lowV ns us c v))) (z := .any) rfl un91 un28 (by rw [hev _ (by simp [Op.operands])]; rfl) ((hev _ (by simp [Op.operands])).trans rfl) (hMl' _ _) (by rw [hev _ (by simp [Op.operands])]; exact (mfind1 v _ 0).trans (by rw [hkl1])) (fun h => by cases h) ⟨rfl, rfl⟩) ?_
      refine dops_run 1 (by simp only [fwA, ↓reduceIte, Nat.reduceAdd, Nat.reduceMul, Nat.reduceEqDiff, Nat.reduceLT, Nat.reduceLeDiff, reduceCtorEq, gfw, bx, dx, bitfw, Int.reduceEq, Int.reduceNeg, Int.reduceToNat, Int.reduceLE, Int.reduceLT, hM0', hMb', hgv, hde] <;> rfl) ?_
      refine dops_fn rfl (by simp only [fwA, ↓reduceIte, Nat.reduceAdd, Nat.reduceMul, Nat.reduceEqDiff, Nat.reduceLT, Nat.reduceLeDiff, reduceCtorEq] <;> rfl) rfl rfl en50 h50 ?_
      refine dops_run 1 (by simp only [fwA, ↓reduceIte, Nat.reduceAdd, Nat.reduceMul, Nat.reduceEqDiff, Nat.reduceLT, Nat.reduceLeDiff, reduceCtorEq, gfw, bx, dx, bitfw, Int.reduceEq, Int.reduceNeg, Int.reduceToNat, Int.reduceLE, Int.reduceLT, hM0', hMb', hgv, hde] <;> rfl) ?_
      refine dops_end ?_
      refine awp_cond (b := false) (by simp [alook, aput, ev]) (awp_skip ?_)
      exact ⟨(), trivial, by simp only [fwA, ↓reduceIte, Nat.reduceAdd, Nat.reduceMul, Nat.reduceEqDiff, Nat.reduceLT, Nat.reduceLeDiff, reduceCtorEq, gfw], by rw [if_pos e, List.append_nil], rfl⟩
    · have hde : decide (lowV ns us c v = botV ns us) = false := decide_eq_false e
      refine awp_drawn [1,1,1,1,0,0] [0, 0, 3, 0, 8, 31] mixed rfl (by kernel_rfl) ?_
      refine dops_run 2 (by simp only [fwA, ↓reduceIte, Nat.reduceAdd, Nat.reduceMul, Nat.reduceEqDiff, Nat.reduceLT, Nat.reduceLeDiff, reduceCtorEq, gfw, bx, dx, bitfw, Int.reduceEq, Int.reduceNeg, Int.reduceToNat, Int.reduceLE, Int.reduceLT, hM0', hMb', hgv, hde] <;> rfl) ?_
      refine dops_reads (.int .i64 (lowV ns us c v)) rfl rfl (fun A' hev => os_lookup (r := some (kl, .int .i64 (lowV ns us c v))) (z := .any) rfl un91 un28 (by rw [hev _ (by simp [Op.operands])]; rfl) ((hev _ (by simp [Op.operands])).trans rfl) (hMl' _ _) (by rw [hev _ (by simp [Op.operands])]; exact (mfind1 v _ 0).trans (by rw [hkl1])) (fun h => by cases h) ⟨rfl, rfl⟩) ?_
      refine dops_run 1 (by simp only [fwA, ↓reduceIte, Nat.reduceAdd, Nat.reduceMul, Nat.reduceEqDiff, Nat.reduceLT, Nat.reduceLeDiff, reduceCtorEq, gfw, bx, dx, bitfw, Int.reduceEq, Int.reduceNeg, Int.reduceToNat, Int.reduceLE, Int.reduceLT, hM0', hMb', hgv, hde] <;> rfl) ?_
      refine dops_fn rfl (by simp only [fwA, ↓reduceIte, Nat.reduceAdd, Nat.reduceMul, Nat.reduceEqDiff, Nat.reduceLT, Nat.reduceLeDiff, reduceCtorEq] <;> rfl) rfl rfl en50 h50 ?_
      refine dops_run 1 (by simp only [fwA, ↓reduceIte, Nat.reduceAdd, Nat.reduceMul, Nat.reduceEqDiff, Nat.reduceLT, Nat.reduceLeDiff, reduceCtorEq, gfw, bx, dx, bitfw, Int.reduceEq, Int.reduceNeg, Int.reduceToNat, Int.reduceLE, Int.reduceLT, hM0', hMb', hgv, hde] <;> rfl) ?_
      refine dops_end ?_
      refine awp_cond (b := true) (by simp [alook, aput, ev]) ?_
      refine awp_drawn [1,1,1,1,0,1,0,0,2,2] [0, 0, 0, 6, 14, 0, 62, 126, 255, 511] mixed rfl (by kernel_rfl) ?_
      refine dops_run 3 (by simp only [fwA, ↓reduceIte, Nat.reduceAdd, Nat.reduceMul, Nat.reduceEqDiff, Nat.reduceLT, Nat.reduceLeDiff, reduceCtorEq, gfw, bx, dx, bitfw, Int.reduceEq, Int.reduceNeg, Int.reduceToNat, Int.reduceLE, Int.reduceLT, hM0', hMb', hgv, HPj_box, HPj_boxS] <;> rfl) ?_
      refine dops_reads (.int .i64 (lowV ns us c v)) rfl rfl (fun A' hev => os_lookup (r := some (kl, .int .i64 (lowV ns us c v))) (z := .any) rfl un91 un28 (by rw [hev _ (by simp [Op.operands])]; rfl) ((hev _ (by simp [Op.operands])).trans rfl) (hMl' _ _) (by rw [hev _ (by simp [Op.operands])]; exact (mfind1 v _ 0).trans (by rw [hkl1])) (fun h => by cases h) ⟨rfl, rfl⟩) ?_
      refine dops_fn rfl (by simp only [fwA, ↓reduceIte, Nat.reduceAdd, Nat.reduceMul, Nat.reduceEqDiff, Nat.reduceLT, Nat.reduceLeDiff, reduceCtorEq] <;> rfl) rfl rfl en47 h47l ?_
      refine dops_run 3 (by simp only [fwA, ↓reduceIte, Nat.reduceAdd, Nat.reduceMul, Nat.reduceEqDiff, Nat.reduceLT, Nat.reduceLeDiff, reduceCtorEq, gfw, bx, dx, bitfw, Int.reduceEq, Int.reduceNeg, Int.reduceToNat, Int.reduceLE, Int.reduceLT, hM0', hMb', hgv, HPj_box, HPj_boxS] <;> rfl) ?_
      refine dops_push (enc := Pr.enc) (l := O) (z := ⟨-1 - lowV ns us c v, v⟩) Pr.enc_len rfl rfl rfl un26 ti70 rfl un26 rfl HPj_row rfl rfl (by show (_ + 1) * 16 ≤ _; omega) (by omega) rfl ?_
      refine dops_run 1 (by simp only [fwA, ↓reduceIte, Nat.reduceAdd, Nat.reduceMul, Nat.reduceEqDiff, Nat.reduceLT, Nat.reduceLeDiff, reduceCtorEq, gfw, bx, dx, bitfw, Int.reduceEq, Int.reduceNeg, Int.reduceToNat, Int.reduceLE, Int.reduceLT, hM0', hMb', hgv, HPj_box, HPj_boxS] <;> rfl) ?_
      refine dops_end ?_
      exact ⟨(), trivial, by simp only [fwA, ↓reduceIte, Nat.reduceAdd, Nat.reduceMul, Nat.reduceEqDiff, Nat.reduceLT, Nat.reduceLeDiff, reduceCtorEq, gfw], by rw [if_neg e, HPj_push], rfl⟩
  generalize hO1 : O ++ (if lowV ns us c v = botV ns us then [] else [⟨-1 - lowV ns us c v, v⟩]) = O1
  have hO1l : O1.length ≤ O.length + 1 := by rw [← hO1]; split <;> simp
  refine awp_join [1, 3, 5, 7, 8, 11, 13, 14, 39, 40, 41] (fun _ : Unit => [.vec (c.map Pr.enc) false, .ptr H.length 0, .ptr (H.length + 1) 0, .map gm, .ptr (gm + 2) 0, .ptr M.length 0, .ptr (M.length + 2 + L.length) 0, .ptr (M.length + 2 + (L.length + 1)) 0, .vec (KV.map I1) false, .int .i64 (KV.length : Int), .int .i64 (i : Int)]) (fun _ => HPj M (O1 ++ (if highV ns us c v = topV ns us then [] else [⟨v, -1 - highV ns us c v⟩])) (L ++ [.box [.int .i64 v], .box [.int .i64 (highV ns us c v)]])) (fun _ => True) ?_ fun _ _ => ?_
  · refine awp_seq ?_
    by_cases e : highV ns us c v = topV ns us
    · have hde : decide (highV ns us c v = topV ns us) = true := decide_eq_true e
      refine awp_drawn [1, 1, 0, 0] [0, 0, 2, 7] mixed rfl (by kernel_rfl) ?_
      refine dops_run 2 (by simp only [fwA, ↓reduceIte, Nat.reduceAdd, Nat.reduceMul, Nat.reduceEqDiff, Nat.reduceLT, Nat.reduceLeDiff, reduceCtorEq, gfw, bx, dx, bitfw, Int.reduceEq, Int.reduceNeg, Int.reduceToNat, Int.reduceLE, Int.reduceLT, hM0', hgh, hde] <;> rfl) ?_
      refine dops_fn rfl (by simp only [fwA, ↓reduceIte, Nat.reduceAdd, Nat.reduceMul, Nat.reduceEqDiff, Nat.reduceLT, Nat.reduceLeDiff, reduceCtorEq] <;> rfl) rfl rfl en79 h79 ?_
      refine dops_run 1 (by simp only [fwA, ↓reduceIte, Nat.reduceAdd, Nat.reduceMul, Nat.reduceEqDiff, Nat.reduceLT, Nat.reduceLeDiff, reduceCtorEq, gfw, bx, dx, bitfw, Int.reduceEq, Int.reduceNeg, Int.reduceToNat, Int.reduceLE, Int.reduceLT, hM0', hgh, hde] <;> rfl) ?_
      refine dops_end ?_
      refine awp_cond (b := false) (by simp [alook, aput, ev]) (awp_skip ?_)
      exact ⟨(), trivial, by simp only [fwA, ↓reduceIte, Nat.reduceAdd, Nat.reduceMul, Nat.reduceEqDiff, Nat.reduceLT, Nat.reduceLeDiff, reduceCtorEq, gfw], by rw [if_pos e, List.append_nil], rfl⟩
    · have hde : decide (highV ns us c v = topV ns us) = false := decide_eq_false e
      refine awp_drawn [1, 1, 0, 0] [0, 0, 2, 7] mixed rfl (by kernel_rfl) ?_
      refine dops_run 2 (by simp only [fwA, ↓reduceIte, Nat.reduceAdd, Nat.reduceMul, Nat.reduceEqDiff, Nat.reduceLT, Nat.reduceLeDiff, reduceCtorEq, gfw, bx, dx, bitfw, Int.reduceEq, Int.reduceNeg, Int.reduceToNat, Int.reduceLE, Int.reduceLT, hM0', hgh, hde] <;> rfl) ?_
      refine dops_fn rfl (by simp only [fwA, ↓reduceIte, Nat.reduceAdd, Nat.reduceMul, Nat.reduceEqDiff, Nat.reduceLT, Nat.reduceLeDiff, reduceCtorEq] <;> rfl) rfl rfl en79 h79 ?_
      refine dops_run 1 (by simp only [fwA, ↓reduceIte, Nat.reduceAdd, Nat.reduceMul, Nat.reduceEqDiff, Nat.reduceLT, Nat.reduceLeDiff, reduceCtorEq, gfw, bx, dx, bitfw, Int.reduceEq, Int.reduceNeg, Int.reduceToNat, Int.reduceLE, Int.reduceLT, hM0', hgh, hde] <;> rfl) ?_
      refine dops_end ?_
      refine awp_cond (b := true) (by simp [alook, aput, ev]) ?_
      refine awp_drawn [1,1,1,0,0,0,2,2] [0, 0, 0, 4, 14, 30, 63, 127] mixed rfl (by kernel_rfl) ?_
      refine dops_run 3 (by simp only [fwA, ↓reduceIte, Nat.reduceAdd, Nat.reduceMul, Nat.reduceEqDiff, Nat.reduceLT, Nat.reduceLeDiff, reduceCtorEq, gfw, bx, dx, bitfw, Int.reduceEq, Int.reduceNeg, Int.reduceToNat, Int.reduceLE, Int.reduceLT, hM0', hgh, hgv, HPj_box, HPj_boxS] <;> rfl) ?_
      refine dops_fn rfl (by simp only [fwA, ↓reduceIte, Nat.reduceAdd, Nat.reduceMul, Nat.reduceEqDiff, Nat.reduceLT, Nat.reduceLeDiff, reduceCtorEq] <;> rfl) rfl rfl en47 h47h ?_
      refine dops_run 2 (by simp only [fwA, ↓reduceIte, Nat.reduceAdd, Nat.reduceMul, Nat.reduceEqDiff, Nat.reduceLT, Nat.reduceLeDiff, reduceCtorEq, gfw, bx, dx, bitfw, Int.reduceEq, Int.reduceNeg, Int.reduceToNat, Int.reduceLE, Int.reduceLT, hM0', hgh, hgv, HPj_box, HPj_boxS] <;> rfl) ?_
      refine dops_push (enc := Pr.enc) (l := O1) (z := ⟨v, -1 - highV ns us c v⟩) Pr.enc_len rfl rfl rfl un26 ti70 rfl un26 rfl HPj_row rfl rfl (by show (_ + 1) * 16 ≤ _; omega) (by omega) rfl ?_
      refine dops_run 1 (by simp only [fwA, ↓reduceIte, Nat.reduceAdd, Nat.reduceMul, Nat.reduceEqDiff, Nat.reduceLT, Nat.reduceLeDiff, reduceCtorEq, gfw, bx, dx, bitfw, Int.reduceEq, Int.reduceNeg, Int.reduceToNat, Int.reduceLE, Int.reduceLT, hM0', hgh, hgv, HPj_box, HPj_boxS] <;> rfl) ?_
      refine dops_end ?_
      exact ⟨(), trivial, by simp only [fwA, ↓reduceIte, Nat.reduceAdd, Nat.reduceMul, Nat.reduceEqDiff, Nat.reduceLT, Nat.reduceLeDiff, reduceCtorEq, gfw], by rw [if_neg e, HPj_push], rfl⟩
  generalize hO2 : O1 ++ (if highV ns us c v = topV ns us then [] else [⟨v, -1 - highV ns us c v⟩]) = O2
  have hO2l : O2.length ≤ O1.length + 1 := by rw [← hO2]; split <;> simp
  have hOproj : O ++ projO ns us c KV v = O2 ++ ((abv c v).filter fun w => KV.contains w && !leqB (min ns.length us.length) us (highV ns us c v) (lowV ns us c w)).map fun w => ⟨v, w⟩ := by
    rw [← hO2, ← hO1]; unfold projO; simp only [List.append_assoc]
  refine awp_seq ?_
  refine awp_region rfl ?_
  refine aops_run 2 (by simp only [fwA, ↓reduceIte, Nat.reduceAdd, Nat.reduceMul, Nat.reduceEqDiff, Nat.reduceLT, Nat.reduceLeDiff, reduceCtorEq, gfw, bx, dx, bitfw, Int.reduceEq, Int.reduceNeg, Int.reduceToNat, Int.reduceLE, Int.reduceLT, hgv] <;> rfl) ?_
  refine aops_call rfl rfl rfl en74 ((c74 Γ gm v _ (by rw [HPj_len]; omega)).mono fun p H' hp => ?_)
  obtain ⟨rfl, rfl⟩ := hp
  refine aops_end ?_
  refine awp_heap (H' := HPj M O2 (L ++ [.box [.int .i64 v], .box [.int .i64 (highV ns us c v)], .box [.map gm], .box [.int .i64 v]])) (by rw [HPj_app]; simp) ?_
  rw [HPj_len, List.length_append, List.length_cons, List.length_cons, List.length_nil]
  have hga : ∀ O X, (HPj M O (L ++ (.box [.int .i64 v] :: .box [.int .i64 (highV ns us c v)] :: .box [.map gm] :: .box [.int .i64 v] :: X)))[M.length + 2 + (L.length + (0 + 1 + 1)) + 1]? = some (.box [.int .i64 v]) := fun O X => by rw [show M.length + 2 + (L.length + (0 + 1 + 1)) + 1 = M.length + 2 + (L.length + 3) by omega, HPj_at, List.getElem?_append_right (by omega), show L.length + 3 - L.length = 3 by omega]; rfl
  have hgb : ∀ O X, (HPj M O (L ++ (.box [.int .i64 v] :: .box [.int .i64 (highV ns us c v)] :: .box [.map gm] :: .box [.int .i64 v] :: X)))[M.length + 2 + (L.length + (0 + 1 + 1))]? = some (.box [.map gm]) := fun O X => by rw [HPj_at, List.getElem?_append_right (by omega), show L.length + (0 + 1 + 1) - L.length = 2 by omega]; rfl
  refine awp_bd fun hbdP => ?_
  have e3 : ∀ X, (L ++ [Blk.box [.int .i64 v], .box [.int .i64 (highV ns us c v)], .box [.map gm], .box [.int .i64 v]]) ++ X = L ++ (.box [.int .i64 v] :: .box [.int .i64 (highV ns us c v)] :: .box [.map gm] :: .box [.int .i64 v] :: X) := fun X => by simp
  have hgv3 : ∀ O X, (HPj M O ((L ++ [Blk.box [.int .i64 v], .box [.int .i64 (highV ns us c v)], .box [.map gm], .box [.int .i64 v]]) ++ X))[M.length + 2 + L.length]? = some (.box [.int .i64 v]) := fun O X => by rw [e3]; exact hgv _ _
  have hgh3 : ∀ O X, (HPj M O ((L ++ [Blk.box [.int .i64 v], .box [.int .i64 (highV ns us c v)], .box [.map gm], .box [.int .i64 v]]) ++ X))[M.length + 2 + (L.length + 1)]? = some (.box [.int .i64 (highV ns us c v)]) := fun O X => by rw [e3]; exact hgh _ _
  have hga3 : ∀ O X, (HPj M O ((L ++ [Blk.box [.int .i64 v], .box [.int .i64 (highV ns us c v)], .box [.map gm], .box [.int .i64 v]]) ++ X))[M.length + 2 + (L.length + (0 + 1 + 1)) + 1]? = some (.box [.int .i64 v]) := fun O X => by rw [e3]; exact hga _ _
  have hgb3 : ∀ O X, (HPj M O ((L ++ [Blk.box [.int .i64 v], .box [.int .i64 (highV ns us c v)], .box [.map gm], .box [.int .i64 v]]) ++ X))[M.length + 2 + (L.length + (0 + 1 + 1))]? = some (.box [.map gm]) := fun O X => by rw [e3]; exact hgb _ _
  have hL3 : ((L ++ [Blk.box [.int .i64 v], .box [.int .i64 (highV ns us c v)], .box [.map gm], .box [.int .i64 v]])).length = L.length + 4 := by simp
  have hL3d : ∀ j, L[j]? = some Blk.dfr → ((L ++ [Blk.box [.int .i64 v], .box [.int .i64 (highV ns us c v)], .box [.map gm], .box [.int .i64 v]]))[j]? = some Blk.dfr := fun j h => Fw.get_old _ h
  generalize (L ++ [Blk.box [.int .i64 v], .box [.int .i64 (highV ns us c v)], .box [.map gm], .box [.int .i64 v]]) = L3 at *
  obtain ⟨Oj, hOj⟩ : ∃ Oj : Nat → List Pr, ∀ j, Oj j = O2 ++ (((abv c v).take j).filter (fun w => KV.contains w && !leqB (min ns.length us.length) us (highV ns us c v) (lowV ns us c w))).map (fun w => (⟨v, w⟩ : Pr)) := ⟨_, fun _ => rfl⟩
  have hOj0 : Oj 0 = O2 := by rw [hOj]; simp
  have hOjL : ∀ j, (Oj j).length ≤ O2.length + j := fun j => by
    rw [hOj, List.length_append, List.length_map]
    have := List.length_filter_le (fun w => KV.contains w && !leqB (min ns.length us.length) us (highV ns us c v) (lowV ns us c w)) ((abv c v).take j)
    rw [List.length_take] at this
    omega
  have hOjE : Oj (abv c v).length = O ++ projO ns us c KV v := by rw [hOj, List.take_length, hOproj]
  have hOjS : ∀ j y, (abv c v)[j]? = some y → Oj (j + 1) = if (fun w => KV.contains w && !leqB (min ns.length us.length) us (highV ns us c v) (lowV ns us c w)) y = true then Oj j ++ [⟨v, y⟩] else Oj j := fun j y h => by
    rw [hOj, hOj, take_snoc h, List.filter_append, List.map_append]
    simp only [List.filter_cons, List.filter_nil]
    split <;> simp
  rw [← hOj0] at hbdP ⊢
  have habl := abv_len (c := c) (a := v)
  refine awp_block ?_
  refine awp_rangeFuncS (gf := 114) (caps := [.ptr (M.length + 2 + (L.length + (0 + 1 + 1)) + 1) 0, .ptr (M.length + 2 + (L.length + (0 + 1 + 1))) 0]) (by simp only [fwA, ↓reduceIte, Nat.reduceAdd, Nat.reduceMul, Nat.reduceEqDiff, Nat.reduceLT, Nat.reduceLeDiff, reduceCtorEq] <;> rfl) en114 (c114 Γ (M.length + 2 + (L.length + (0 + 1 + 1)) + 1) (M.length + 2 + (L.length + (0 + 1 + 1))) gm v c (graphV c) (graphV_ok c) hl) (by simp [Tryz.f35])
    (fun j Hf => j ≤ (abv c v).length ∧ Hf = HPj M (Oj j) L3)
    (fun _ _ => False) (fun Stop h Hb hs => by obtain ⟨_, _, hx, _⟩ := h Hb hs; exact hx.elim) ⟨Nat.zero_le _, rfl⟩ ?_ ?_ ?_ ?_
  · rintro j Hf ⟨_, rfl⟩
    refine ⟨by rw [HPj_len, HPj_len], fun L hL => ⟨⟨?_, ?_, ?_⟩, fun B hB => ?_⟩⟩
    · rw [HPj_app]; exact hga3 _ _
    · rw [HPj_app]; exact hgb3 _ _
    · rw [HPj_app]; exact hMg' _ _
    · rcases List.mem_append.1 hB with hB | hB
      · exact blk_mono (by simp <;> omega) (HPj_bd hbdP (Oj j) B hB)
      · exact blk_mono (by rw [List.length_append, HPj_len, HPj_len]; exact Nat.le_refl _) (hL B hB)
  · rintro j x Hf Lx L' ro hx ⟨hil, rfl⟩ hL hL' hbd1 hbd2
    obtain ⟨y, hy, rfl⟩ : ∃ y, (abv c v)[j]? = some y ∧ x = I1 y := by
      rw [List.getElem?_map] at hx
      obtain ⟨y, hy, e⟩ := Option.map_eq_some_iff.1 hx
      exact ⟨y, hy, e.symm⟩
    have hjl := (List.getElem?_eq_some_iff.1 hy).1
    have hOS := hOjS j y hy
    have h85 := c85 Γ KV y
    have h44 := c44 Γ ns us hw (highV ns us c v) (lowV ns us c y)
    refine awp_less (A' := [(3, .ptr H.length 0), (5, .ptr (H.length + 1) 0), (8, .ptr (gm + 2) 0), (11, .ptr M.length 0), (13, .ptr (M.length + 2 + L.length) 0), (14, .ptr (M.length + 2 + (L.length + 1)) 0), (78, .int .i64 y)]) (fun u => zip_look [3, 5, 8, 11, 13, 14, 78] [.ptr H.length 0, .ptr (H.length + 1) 0, .ptr (gm + 2) 0, .ptr M.length 0, .ptr (M.length + 2 + L.length) 0, .ptr (M.length + 2 + (L.length + 1)) 0, .int .i64 y] u _ (by simp only [fwA, ↓reduceIte, Nat.reduceAdd, Nat.reduceMul, Nat.reduceEqDiff, Nat.reduceLT, Nat.reduceLeDiff, reduceCtorEq, gfw] <;> rfl)) ?_
    refine awp_run rfl (by simp only [fwA, ↓reduceIte, Nat.reduceAdd, Nat.reduceMul, Nat.reduceEqDiff, Nat.reduceLT, Nat.reduceLeDiff, reduceCtorEq, gfw, bx, dx, bitfw, Int.reduceEq, Int.reduceNeg, Int.reduceToNat, Int.reduceLE, Int.reduceLT] <;> rfl) ?_
    refine ⟨rfl, HPj M (Oj j) L3, [], by rw [HPj_len, HPj_len], by simp, ?_⟩
    refine awp_heap (H' := HPj M (Oj j) (L3 ++ L')) (by rw [List.append_nil, HPj_app]) ?_
    refine awp_block ?_
    refine awp_seq ?_
    have hjo := hOjL j
    have hfin : ∀ j', ∀ B ∈ HPj M (Oj j') L3, B.bd ((HPj M (Oj 0) L3).length + L'.length) = true := fun j' B hB => blk_mono (by rw [HPj_len, HPj_len]; omega) (HPj_bd hbdP (Oj j') B hB)
    cases hKy : KV.contains y
    · have hF : ((fun w => KV.contains w && !leqB (min ns.length us.length) us (highV ns us c v) (lowV ns us c w)) y) = false := by simp only [hKy, Bool.false_and]
      rw [hF] at hOS
      rw [hKy] at h85
      refine awp_region rfl ?_
      refine aops_run 2 (by simp only [fwA, ↓reduceIte, Nat.reduceAdd, Nat.reduceMul, Nat.reduceEqDiff, Nat.reduceLT, Nat.reduceLeDiff, reduceCtorEq, gfw, bx, dx, bitfw, Int.reduceEq, Int.reduceNeg, Int.reduceToNat, Int.reduceLE, Int.reduceLT, hM1'] <;> rfl) ?_
      refine aops_fn rfl rfl rfl en85 h85 ?_
      refine aops_run 9 (by simp only [fwA, ↓reduceIte, Nat.reduceAdd, Nat.reduceMul, Nat.reduceEqDiff, Nat.reduceLT, Nat.reduceLeDiff, reduceCtorEq, gfw, bx, dx, bitfw, Int.reduceEq, Int.reduceNeg, Int.reduceToNat, Int.reduceLE, Int.reduceLT, hM1'] <;> rfl) ?_
      refine aops_end ?_
      refine awp_cond (b := false) (by simp [alook, aput, ev]) (awp_skip ?_)
      refine ⟨HPj M (Oj (j + 1)) L3, [], by rw [HPj_len, HPj_len], by rw [hOS, HPj_app, List.append_nil]; rfl, hfin _, by omega, rfl⟩
    rw [hKy] at h85
    obtain ⟨ky, hky, _⟩ : ∃ k : Nat, find1 y es 0 = some (k, .int .i64 (lowV ns us c y)) ∧ y ∈ KV := (o2 y).elim (fun h => absurd (List.contains_iff_mem.1 hKy) h.2) id
    cases hle : leqB (min ns.length us.length) us (highV ns us c v) (lowV ns us c y)
    · have hF : ((fun w => KV.contains w && !leqB (min ns.length us.length) us (highV ns us c v) (lowV ns us c w)) y) = true := by simp only [hKy, hle, Bool.true_and, Bool.not_false]
      rw [hF] at hOS
      rw [hle] at h44
      refine awp_region rfl ?_
      refine aops_run 2 (by simp only [fwA, ↓reduceIte, Nat.reduceAdd, Nat.reduceMul, Nat.reduceEqDiff, Nat.reduceLT, Nat.reduceLeDiff, reduceCtorEq, gfw, bx, dx, bitfw, Int.reduceEq, Int.reduceNeg, Int.reduceToNat, Int.reduceLE, Int.reduceLT, hM1', hM0', hMb', hgh3] <;> rfl) ?_
      refine aops_fn rfl rfl rfl en85 h85 ?_
      refine aops_run 5 (by simp only [fwA, ↓reduceIte, Nat.reduceAdd, Nat.reduceMul, Nat.reduceEqDiff, Nat.reduceLT, Nat.reduceLeDiff, reduceCtorEq, gfw, bx, dx, bitfw, Int.reduceEq, Int.reduceNeg, Int.reduceToNat, Int.reduceLE, Int.reduceLT, hM1', hM0', hMb', hgh3] <;> rfl) ?_
      refine aops_if rfl rfl rfl (os_lookup (r := some (ky, .int .i64 (lowV ns us c y))) (z := .any) rfl un91 un28 rfl rfl (hMl' _ _) ((mfind1 y _ 0).trans (by rw [hky])) (fun h => by cases h) ?_)
      refine aops_fnIf rfl rfl rfl rfl rfl en44 h44 ?_
      refine aops_run 2 (by simp only [fwA, ↓reduceIte, Nat.reduceAdd, Nat.reduceMul, Nat.reduceEqDiff, Nat.reduceLT, Nat.reduceLeDiff, reduceCtorEq, gfw, bx, dx, bitfw, Int.reduceEq, Int.reduceNeg, Int.reduceToNat, Int.reduceLE, Int.reduceLT, hM1', hM0', hMb', hgh3] <;> rfl) ?_
      refine aops_end ?_
      refine awp_cond (b := true) (by simp [alook, aput, ev]) ?_
      refine awp_region rfl ?_
      refine aops_run 5 (by simp only [fwA, ↓reduceIte, Nat.reduceAdd, Nat.reduceMul, Nat.reduceEqDiff, Nat.reduceLT, Nat.reduceLeDiff, reduceCtorEq, gfw, bx, dx, bitfw, Int.reduceEq, Int.reduceNeg, Int.reduceToNat, Int.reduceLE, Int.reduceLT, HPj_box, HPj_boxS, hgv3] <;> rfl) ?_
      refine aops_push (enc := Pr.enc) (l := Oj j) (z := ⟨v, y⟩) Pr.enc_len rfl rfl un26 ti70 rfl un26 rfl HPj_row rfl rfl (by show (_ + 1) * 16 ≤ _; omega) (by omega) rfl ?_
      refine aops_run 1 (by simp only [fwA, ↓reduceIte, Nat.reduceAdd, Nat.reduceMul, Nat.reduceEqDiff, Nat.reduceLT, Nat.reduceLeDiff, reduceCtorEq, gfw, bx, dx, bitfw, Int.reduceEq, Int.reduceNeg, Int.reduceToNat, Int.reduceLE, Int.reduceLT, HPj_box, HPj_boxS, hgv3] <;> rfl) ?_
      refine aops_end ?_
      refine ⟨HPj M (Oj (j + 1)) L3, [], by rw [HPj_len, HPj_len], by rw [HPj_push, hOS, HPj_app, List.append_nil]; rfl, hfin _, by omega, rfl⟩
    · have hF : ((fun w => KV.contains w && !leqB (min ns.length us.length) us (highV ns us c v) (lowV ns us c w)) y) = false := by simp only [hle, Bool.not_true, Bool.and_false]
      rw [hF] at hOS
      rw [hle] at h44
      refine awp_region rfl ?_
      refine aops_run 2 (by simp only [fwA, ↓reduceIte, Nat.reduceAdd, Nat.reduceMul, Nat.reduceEqDiff, Nat.reduceLT, Nat.reduceLeDiff, reduceCtorEq, gfw, bx, dx, bitfw, Int.reduceEq, Int.reduceNeg, Int.reduceToNat, Int.reduceLE, Int.reduceLT, hM1', hM0', hMb', hgh3] <;> rfl) ?_
      refine aops_fn rfl rfl rfl en85 h85 ?_
      refine aops_run 5 (by simp only [fwA, ↓reduceIte, Nat.reduceAdd, Nat.reduceMul, Nat.reduceEqDiff, Nat.reduceLT, Nat.reduceLeDiff, reduceCtorEq, gfw, bx, dx, bitfw, Int.reduceEq, Int.reduceNeg, Int.reduceToNat, Int.reduceLE, Int.reduceLT, hM1', hM0', hMb', hgh3] <;> rfl) ?_
      refine aops_if rfl rfl rfl (os_lookup (r := some (ky, .int .i64 (lowV ns us c y))) (z := .any) rfl un91 un28 rfl rfl (hMl' _ _) ((mfind1 y _ 0).trans (by rw [hky])) (fun h => by cases h) ?_)
      refine aops_fnIf rfl rfl rfl rfl rfl en44 h44 ?_
      refine aops_run 2 (by simp only [fwA, ↓reduceIte, Nat.reduceAdd, Nat.reduceMul, Nat.reduceEqDiff, Nat.reduceLT, Nat.reduceLeDiff, reduceCtorEq, gfw, bx, dx, bitfw, Int.reduceEq, Int.reduceNeg, Int.reduceToNat, Int.reduceLE, Int.reduceLT, hM1', hM0', hMb', hgh3] <;> rfl) ?_
      refine aops_end ?_
      refine awp_cond (b := false) (by simp [alook, aput, ev]) (awp_skip ?_)
      refine ⟨HPj M (Oj (j + 1)) L3, [], by rw [HPj_len, HPj_len], by rw [hOS, HPj_app, List.append_nil]; rfl, hfin _, by omega, rfl⟩
  · rintro Hf B ⟨_, rfl⟩
    rw [List.length_map, hOjE]
    simp only [Post.block, Post.then]
    refine awp_heap (H' := HPj M (O ++ projO ns us c KV v) (L3 ++ [.dfr, B])) (by rw [HPj_app]) ?_
    rw [HPj_len]
    refine awp_run rfl (by simp only [fwA, ↓reduceIte, Nat.reduceAdd, Nat.reduceMul, Nat.reduceEqDiff, Nat.reduceLT, Nat.reduceLeDiff, reduceCtorEq] <;> rfl) ?_
    refine ⟨(i + 1, L3 ++ [.dfr, B], (M.length + 2 + L3.length) :: Dl), by simp only; omega, ⟨by simp only; omega, ?_, ?_⟩, ?_, ?_, rfl⟩
    · simp only
      rw [List.nodup_cons]
      refine ⟨fun hd => ?_, o5⟩
      obtain ⟨j, e, hj⟩ := o6 _ hd
      have := (List.getElem?_eq_some_iff.1 hj).1
      omega
    · intro d hd
      rcases List.mem_cons.1 hd with rfl | hd
      · exact ⟨L3.length, rfl, by rw [List.getElem?_append_right (Nat.le_refl _), Nat.sub_self]; rfl⟩
      · obtain ⟨j, e, hj⟩ := o6 d hd
        exact ⟨j, e, Fw.get_old _ (hL3d j hj)⟩
    · simp only [fwA, ↓reduceIte, Nat.reduceAdd, Nat.reduceMul, Nat.reduceEqDiff, Nat.reduceLT, Nat.reduceLeDiff, reduceCtorEq, gfw, hwi]
    · simp only [hOs]
  · rintro cc Hf B hX _
    exact hX.elim
end Go.Proofs.YteicbhkimepbaaaGreatDoor

/- The chapter's examples. -/
namespace Go.Proofs.YteicbhkimepbaaaGreatDoor
set_option linter.unusedVariables false
set_option linter.unusedSimpArgs false
set_option maxRecDepth 100000
open Go.RowKit Fw

theorem du_w64 : W64 duU := fun x hx => by simp [duU] at hx; omega
theorem le_1 (es : List (List PV)) : PV.le (.vec es true) (.vec es false) := ⟨nofun, PV.leLL_refl _⟩
set_option maxHeartbeats 8000000 in
/- chancel/chancellaw12.examples -/
theorem c23 (Γ : Nat → PV) (hΓ : Tab64 Γ) : Gives Tryz.prog Γ 23 [] (.bool true) := by
  have h38 := c38 Γ
  have hget : (latsV.map (laE false))[1]? = some [.vec (duN.map S1) false, .vec (duU.map U1) false] := rfl
  have hlen : latsV.length = 6 := rfl
  have okc : ∀ c : List Pr, (c.all fun p => decide (-100 ≤ p.a) && decide (p.a ≤ 100) && decide (-100 ≤ p.b) && decide (p.b ≤ 100)) = true → OkP c := fun c h p hp => by
    rw [List.all_eq_true] at h
    have := h p hp
    simp only [Bool.and_eq_true, decide_eq_true_eq] at this
    exact ⟨⟨by omega, by omega⟩, ⟨by omega, by omega⟩⟩
  have h47a : Gives Tryz.prog Γ 47 [.int .i64 1] (.int .i64 (-2)) := c47 Γ 1 ⟨by decide, by decide⟩
  have h47b : Gives Tryz.prog Γ 47 [.int .i64 7] (.int .i64 (-8)) := c47 Γ 7 ⟨by decide, by decide⟩
  have k02 : ∀ v ∈ ([0, 2] : List Int), I64 v := fun v hv => by
    simp only [List.mem_cons, List.not_mem_nil, or_false] at hv
    exact ⟨by omega, by omega⟩
  have k20 : ∀ v ∈ ([2, 0] : List Int), I64 v := fun v hv => by
    simp only [List.mem_cons, List.not_mem_nil, or_false] at hv
    exact ⟨by omega, by omega⟩
  have h35a := c35 Γ hΓ duN duU du_w64 [⟨0, 1⟩, ⟨1, 2⟩] (by decide) (okc _ (by kernel_rfl)) [0, 2] k02 (by decide)
  have h35b := c35 Γ hΓ duN duU du_w64 [⟨-2, 1⟩, ⟨1, 2⟩, ⟨0, 2⟩] (by decide) (okc _ (by kernel_rfl)) [2, 0] k20 (by decide)
  rw [ex_p] at h35a
  rw [ex_q] at h35b
  have h35a := h35a.args (args := [.agg [.vec (duN.map S1) false, .vec (duU.map U1) false], .vec [(⟨0, 1⟩ : Pr).enc, (⟨1, 2⟩ : Pr).enc] true, .vec [I1 0, I1 2] true]) ⟨PV.le_refl _, le_1 _, le_1 _, trivial⟩
  have h35b := h35b.args (args := [.agg [.vec (duN.map S1) false, .vec (duU.map U1) false], .vec [(⟨-2, 1⟩ : Pr).enc, (⟨1, 2⟩ : Pr).enc, (⟨0, 2⟩ : Pr).enc] true, .vec [I1 2, I1 0] true]) ⟨PV.le_refl _, le_1 _, le_1 _, trivial⟩
  have h14 := c14 Γ hΓ duN duU du_w64 [⟨-2, 2⟩] (by decide) (okc _ (by kernel_rfl))
  rw [ex_s] at h14
  have h26a := c26 Γ [⟨0, 2⟩] 0 2 (by decide)
  rw [show rchB [⟨0, 2⟩] 0 2 = true by kernel_rfl] at h26a
  have h26b := c26 Γ [⟨0, 2⟩] 2 0 (by decide)
  rw [show rchB [⟨0, 2⟩] 2 0 = false by kernel_rfl] at h26b
  have h26c := (c26 Γ [] 5 5 (by decide)).args (args := [.vec [] true, .int .i64 5, .int .i64 5]) ⟨le_1 _, PV.le_refl _, PV.le_refl _, trivial⟩
  rw [show rchB [] 5 5 = true by kernel_rfl] at h26c
  have hdc : OkP duC := okc _ (by kernel_rfl)
  have h26d := (c26 Γ duC 0 1 (by decide)).args (args := [.vec [(⟨0, -2⟩ : Pr).enc, (⟨-2, 1⟩ : Pr).enc] true, .int .i64 0, .int .i64 1]) ⟨le_1 _, PV.le_refl _, PV.le_refl _, trivial⟩
  rw [show rchB duC 0 1 = false by kernel_rfl] at h26d
  have h32 := (c32 Γ hΓ duN duU du_w64 duC (by decide) hdc 0 1 ⟨by decide, by decide⟩ ⟨by decide, by decide⟩).args (args := [.agg [.vec (duN.map S1) false, .vec (duU.map U1) false], .vec [(⟨0, -2⟩ : Pr).enc, (⟨-2, 1⟩ : Pr).enc] true, .int .i64 0, .int .i64 1]) ⟨PV.le_refl _, le_1 _, PV.le_refl _, PV.le_refl _, trivial⟩
  rw [ex_e] at h32
  have h28a := (c28 Γ hΓ duN duU du_w64 duC (by decide) hdc 1 ⟨by decide, by decide⟩).args (args := [.agg [.vec (duN.map S1) false, .vec (duU.map U1) false], .vec [(⟨0, -2⟩ : Pr).enc, (⟨-2, 1⟩ : Pr).enc] true, .int .i64 1]) ⟨PV.le_refl _, le_1 _, PV.le_refl _, trivial⟩
  rw [ex_l1] at h28a
  have h28b := (c28 Γ hΓ duN duU du_w64 duC (by decide) hdc 0 ⟨by decide, by decide⟩).args (args := [.agg [.vec (duN.map S1) false, .vec (duU.map U1) false], .vec [(⟨0, -2⟩ : Pr).enc, (⟨-2, 1⟩ : Pr).enc] true, .int .i64 0]) ⟨PV.le_refl _, le_1 _, PV.le_refl _, trivial⟩
  rw [ex_l0] at h28b
  have h28c := (c28 Γ hΓ duN duU du_w64 duC (by decide) hdc (-8) ⟨by decide, by decide⟩).args (args := [.agg [.vec (duN.map S1) false, .vec (duU.map U1) false], .vec [(⟨0, -2⟩ : Pr).enc, (⟨-2, 1⟩ : Pr).enc] true, .int .i64 (-8)]) ⟨PV.le_refl _, le_1 _, PV.le_refl _, trivial⟩
  rw [ex_l8] at h28c
  have h30 := (c30 Γ hΓ duN duU du_w64 duC (by decide) hdc 0 ⟨by decide, by decide⟩).args (args := [.agg [.vec (duN.map S1) false, .vec (duU.map U1) false], .vec [(⟨0, -2⟩ : Pr).enc, (⟨-2, 1⟩ : Pr).enc] true, .int .i64 0]) ⟨PV.le_refl _, le_1 _, PV.le_refl _, trivial⟩
  rw [ex_h0] at h30
  refine fn_of_awp Tryz.func23 rfl (by simp [Tryz.f23]) rfl fun H => ?_
  refine awp_seq ?_
  refine awp_run rfl (by simp only [fwA, seval] <;> rfl) ?_
  refine awp_seq ?_
  refine awp_region rfl ?_
  refine aops_fn rfl rfl rfl en38 h38 ?_
  refine aops_run 4 (by simp only [fwA, seval, gfw, bx, dx, bitfw, Int.reduceEq, Int.reduceNeg, Int.reduceToNat, Int.reduceLE, Int.reduceLT, hget, hlen] <;> rfl) ?_
  refine aops_end ?_
  refine awp_seq ?_
  refine awp_region rfl ?_
  refine aops_fn rfl rfl rfl en47 h47a ?_
  refine aops_run 1 (by simp only [fwA, seval, gfw, bx, dx, bitfw, Int.reduceEq, Int.reduceNeg, Int.reduceToNat, Int.reduceLE, Int.reduceLT] <;> rfl) ?_
  refine aops_end ?_
  refine awp_seq ?_
  refine awp_region rfl ?_
  refine aops_run 5 (by simp only [fwA, seval, gfw, bx, dx, bitfw, Int.reduceEq, Int.reduceNeg, Int.reduceToNat, Int.reduceLE, Int.reduceLT, Pr.enc, I1] <;> rfl) ?_
  refine aops_fn rfl rfl rfl en35 h35a ?_
  refine aops_run 1 (by simp only [fwA, seval, gfw, bx, dx, bitfw, Int.reduceEq, Int.reduceNeg, Int.reduceToNat, Int.reduceLE, Int.reduceLT, Pr.enc, I1] <;> rfl) ?_
  refine aops_end ?_
  refine awp_seq ?_
  refine awp_region rfl ?_
  refine aops_run 7 (by simp only [fwA, seval, gfw, bx, dx, bitfw, Int.reduceEq, Int.reduceNeg, Int.reduceToNat, Int.reduceLE, Int.reduceLT, Pr.enc, I1] <;> rfl) ?_
  refine aops_fn rfl rfl rfl en35 h35b ?_
  refine aops_run 1 (by simp only [fwA, seval, gfw, bx, dx, bitfw, Int.reduceEq, Int.reduceNeg, Int.reduceToNat, Int.reduceLE, Int.reduceLT, Pr.enc, I1] <;> rfl) ?_
  refine aops_end ?_
  refine awp_seq ?_
  refine awp_region rfl ?_
  refine aops_run 2 (by simp only [fwA, seval, gfw, bx, dx, bitfw, Int.reduceEq, Int.reduceNeg, Int.reduceToNat, Int.reduceLE, Int.reduceLT, leastEnc] <;> rfl) ?_
  refine aops_fn rfl rfl rfl en14 h14 ?_
  refine aops_run 5 (by simp only [fwA, seval, gfw, bx, dx, bitfw, Int.reduceEq, Int.reduceNeg, Int.reduceToNat, Int.reduceLE, Int.reduceLT, leastEnc] <;> rfl) ?_
  refine aops_end ?_
  refine awp_seq ?_
  refine awp_seq ?_
  refine awp_run rfl (by simp only [fwA, seval, gfw, bx, dx, bitfw, Int.reduceEq, Int.reduceNeg, Int.reduceToNat, Int.reduceLE, Int.reduceLT] <;> rfl) ?_
  refine awp_cond (b := false) (by simp [alook, aput, ev]) (awp_skip ?_)
  refine awp_seq ?_
  refine awp_region rfl ?_
  refine aops_run 6 (by simp only [fwA, seval, gfw, bx, dx, bitfw, Int.reduceEq, Int.reduceNeg, Int.reduceToNat, Int.reduceLE, Int.reduceLT, Pr.enc] <;> rfl) ?_
  refine aops_end ?_
  refine awp_seq ?_
  refine awp_drawn [0, 0, 1, 0, 0, 0, 0, 0, 1, 0, 0, 0, 0, 0, 0, 0, 0, 0, 0, 0, 1, 0, 0, 0, 0, 0, 0, 0, 0, 0, 0, 0, 0, 0, 0, 0, 0, 0, 0, 0, 0, 1, 0, 0, 0, 0, 1, 0, 0, 0, 0, 0, 1, 0, 0, 0, 0, 0, 1, 0, 0, 0, 0, 0, 1, 0, 0, 0, 0, 0, 0] [0, 1, 3, 0, 15, 31, 63, 127, 255, 63, 575, 2047, 4095, 8191, 16383, 32767, 65535, 131071, 262143, 524287, 1048575, 2097151, 4194303, 8388607, 16777215, 33554431, 67108863, 134217727, 268435455, 536870911, 1073741823, 2147483647, 4294967295, 8589934591, 17179869183, 34359738367, 68719476735, 137438953471, 274877906943, 549755813887, 1099511627775, 2199023255551, 2199023255551, 8796093022207, 17592186044415, 35184372088831, 70368744177663, 70368744177663, 281474976710655, 562949953421311, 1125899906842623, 2251799813685247, 4503599627370495, 4503599627370495, 18014398509481983, 36028797018963967, 72057594037927935, 144115188075855871, 288230376151711743, 288230376151711743, 1152921504606846975, 2305843009213693951, 4611686018427387903, 9223372036854775807, 18446744073709551615, 18446744073709551615, 18446744073709551615, 147573952589676412927, 295147905179352825855, 590295810358705651711, 1180591620717411303423] mixed rfl (by kernel_rfl) ?_
  refine dops_run 13 (by simp only [fwA, seval, gfw, bx, dx, bitfw, Int.reduceEq, Int.reduceNeg, Int.reduceToNat, Int.reduceLE, Int.reduceLT, Pr.enc, So.enc] <;> rfl) ?_
  refine dops_run 12 (by simp only [fwA, seval, gfw, bx, dx, bitfw, Int.reduceEq, Int.reduceNeg, Int.reduceToNat, Int.reduceLE, Int.reduceLT, Pr.enc, So.enc] <;> rfl) ?_
  refine dops_fn rfl (by simp only [fwA, seval] <;> rfl) rfl rfl en26 h26a ?_
  refine dops_run 3 (by simp only [fwA, seval, gfw, bx, dx, bitfw, Int.reduceEq, Int.reduceNeg, Int.reduceToNat, Int.reduceLE, Int.reduceLT, Pr.enc, So.enc] <;> rfl) ?_
  refine dops_fn rfl (by simp only [fwA, seval] <;> rfl) rfl rfl en26 h26b ?_
  refine dops_run 3 (by simp only [fwA, seval, gfw, bx, dx, bitfw, Int.reduceEq, Int.reduceNeg, Int.reduceToNat, Int.reduceLE, Int.reduceLT, Pr.enc, So.enc] <;> rfl) ?_
  refine dops_fn rfl (by simp only [fwA, seval] <;> rfl) rfl rfl en26 h26c ?_
  refine dops_run 3 (by simp only [fwA, seval, gfw, bx, dx, bitfw, Int.reduceEq, Int.reduceNeg, Int.reduceToNat, Int.reduceLE, Int.reduceLT, Pr.enc, So.enc] <;> rfl) ?_
  refine dops_fn rfl (by simp only [fwA, seval] <;> rfl) rfl rfl en26 h26d ?_
  refine dops_run 5 (by simp only [fwA, seval, gfw, bx, dx, bitfw, Int.reduceEq, Int.reduceNeg, Int.reduceToNat, Int.reduceLE, Int.reduceLT, Pr.enc, So.enc] <;> rfl) ?_
  refine dops_fn rfl (by simp only [fwA, seval] <;> rfl) rfl rfl en32 h32 ?_
  refine dops_run 4 (by simp only [fwA, seval, gfw, bx, dx, bitfw, Int.reduceEq, Int.reduceNeg, Int.reduceToNat, Int.reduceLE, Int.reduceLT, Pr.enc, So.enc] <;> rfl) ?_
  refine dops_fn rfl (by simp only [fwA, seval] <;> rfl) rfl rfl en28 h28a ?_
  refine dops_run 5 (by simp only [fwA, seval, gfw, bx, dx, bitfw, Int.reduceEq, Int.reduceNeg, Int.reduceToNat, Int.reduceLE, Int.reduceLT, Pr.enc, So.enc] <;> rfl) ?_
  refine dops_fn rfl (by simp only [fwA, seval] <;> rfl) rfl rfl en30 h30 ?_
  refine dops_run 5 (by simp only [fwA, seval, gfw, bx, dx, bitfw, Int.reduceEq, Int.reduceNeg, Int.reduceToNat, Int.reduceLE, Int.reduceLT, Pr.enc, So.enc] <;> rfl) ?_
  refine dops_fn rfl (by simp only [fwA, seval] <;> rfl) rfl rfl en28 h28b ?_
  refine dops_run 5 (by simp only [fwA, seval, gfw, bx, dx, bitfw, Int.reduceEq, Int.reduceNeg, Int.reduceToNat, Int.reduceLE, Int.reduceLT, Pr.enc, So.enc] <;> rfl) ?_
  refine dops_fn rfl (by simp only [fwA, seval] <;> rfl) rfl rfl en47 h47b ?_
  refine dops_fn rfl (by simp only [fwA, seval] <;> rfl) rfl rfl en28 h28c ?_
  refine dops_run 3 (by simp only [fwA, seval, gfw, bx, dx, bitfw, Int.reduceEq, Int.reduceNeg, Int.reduceToNat, Int.reduceLE, Int.reduceLT, Pr.enc, So.enc] <;> rfl) ?_
  refine dops_end ?_
  refine awp_ret ?_
  exact gives_end (.inl rfl) _ rfl

end Go.Proofs.YteicbhkimepbaaaGreatDoor

/- Small functions of the laws. -/
namespace Go.Proofs.YteicbhkimepbaaaGreatDoor
set_option linter.unusedVariables false
set_option linter.unusedSimpArgs false
set_option maxRecDepth 100000
open Go.RowKit Fw

/- chancel/chancellaw12.same -/
theorem c41 (Γ : Nat → PV) (a : List Pr) (f g : Bool) : Gives Tryz.prog Γ 41 [.vec (a.map Pr.enc) f, .vec (a.map Pr.enc) g] (.bool true) := by
  refine fn_of_awp Tryz.func41 rfl (by simp [Tryz.f41]) rfl fun H => ?_
  refine awp_seq ?_
  refine awp_run rfl (by simp only [fwA, seval] <;> rfl) ?_
  refine awp_seq ?_
  refine awp_seq ?_
  refine awp_run rfl (by simp only [fwA, seval] <;> rfl) ?_
  refine awp_cond (b := false) (by simp [alook, aput, ev]) (awp_skip ?_)
  refine awp_seq ?_
  refine awp_seq ?_
  refine awp_run rfl (by simp only [fwA, seval] <;> rfl) ?_
  refine awp_block ?_
  refine awp_for [0, 1, 4, 5] (fun i : Nat => [.vec (a.map Pr.enc) f, .vec (a.map Pr.enc) g, .bool false, .int .i64 (i : Int)]) (fun _ => H) (fun i => a.length - i) (fun i => i ≤ a.length) 0 rfl rfl (Nat.zero_le _) fun i hi => ?_
  refine awp_vlen 0 rfl fun hl => ?_
  rw [List.length_map] at hl
  refine awp_seq ?_
  refine awp_seq ?_
  by_cases hc : (i : Int) < a.length
  rotate_left
  · refine awp_run rfl (by simp only [fwA, seval, gfw, bx, dx, bitfw, Int.reduceEq, Int.reduceNeg, Int.reduceToNat, Int.reduceLE, Int.reduceLT, hc] <;> rfl) ?_
    refine awp_cond (b := false) (by simp [alook, aput, ev]) ?_
    refine awp_exit ?_
    refine awp_seq ?_
    refine awp_run rfl (by simp only [fwA, seval] <;> rfl) ?_
    refine awp_ret ?_
    exact gives_end0 (.inl rfl) rfl
  have hi' : i < a.length := by omega
  obtain ⟨z, hz⟩ : ∃ z, a[i]? = some z := ⟨_, List.getElem?_eq_getElem hi'⟩
  have hwi : IntKind.i64.wrap ((i : Int) + 1) = ((i + 1 : Nat) : Int) := wrapS i (by omega)
  refine awp_run rfl (by simp only [fwA, seval, gfw, bx, dx, bitfw, Int.reduceEq, Int.reduceNeg, Int.reduceToNat, Int.reduceLE, Int.reduceLT, hc] <;> rfl) ?_
  refine awp_cond (b := true) (by simp [alook, aput, ev]) ?_
  refine awp_skip ?_
  refine awp_seq ?_
  refine awp_block ?_
  refine awp_seq ?_
  refine awp_drun [0, 0, 0, 1, 0, 0, 0, 1, 0] [0, 0, 3, 7, 0, 0, 48, 112, 255] mixed rfl (by kernel_rfl) (by simp only [fwA, seval, gfw, bx, dx, bitfw, Int.reduceEq, Int.reduceNeg, Int.reduceToNat, Int.reduceLE, Int.reduceLT, hz] <;> rfl) ?_
  refine awp_cond (b := false) (by simp [alook, aput, ev]) (awp_skip ?_)
  refine awp_run rfl (by simp only [fwA, seval] <;> rfl) ?_
  exact ⟨i + 1, by omega, by omega, by simp only [fwA, seval, gfw, hwi], rfl, rfl⟩
/-- The point that bytes say for a variable. -/
def pz (n : Nat) (p : List Int) (i : Nat) : Int := match p[i]? with | some x => x.tmod n | none => 0
def tS (n : Nat) (p : List Int) (m : Nat) : List So := (List.range m).map fun i : Nat => (⟨(i : Int), pz n p i⟩ : So)
theorem tS_len (n : Nat) (p : List Int) (m : Nat) : (tS n p m).length = m := by simp [tS]
theorem tS_snoc (n : Nat) (p : List Int) (m : Nat) : tS n p m ++ [⟨(m : Int), pz n p m⟩] = tS n p (m + 1) := by simp [tS, List.range_succ]
theorem tS_at {n : Nat} {p : List Int} {m i : Nat} (h : i < m) : (tS n p m)[i]? = some ⟨(i : Int), pz n p i⟩ := by simp [tS, h]
set_option maxHeartbeats 4000000 in
/- chancel/chancellaw12.sols -/
theorem c46 (Γ : Nat → PV) (ns : List (List UInt8)) (us : List Nat) (hn : 0 < ns.length) (p : List Int) (hp : ∀ x ∈ p, 0 ≤ x ∧ x < 256) : Gives Tryz.prog Γ 46 [.agg [.vec (ns.map S1) false, .vec (us.map U1) false], .vec (p.map B8) false] (.vec ((tS ns.length p 8).map So.enc) false) := by
  refine fn_of_awp Tryz.func46 rfl (by simp [Tryz.f46]) rfl fun H => ?_
  refine awp_seq ?_
  refine awp_run rfl (by simp only [fwA, seval] <;> rfl) ?_
  refine awp_seq ?_
  refine awp_run rfl (by simp only [fwA, seval] <;> rfl) ?_
  refine awp_told (told_adopt 5 2 (by decide) (by simp [alook])) ?_
  refine awp_heap (H' := H ++ [.box [.vec (ns.map S1) false, .vec (us.map U1) false], .row 2 (((tS ns.length p 0).map So.enc).flatten)]) (by simp [tS]) ?_
  refine awp_seq ?_
  refine awp_seq ?_
  refine awp_run rfl (by simp only [fwA, seval] <;> rfl) ?_
  refine awp_block ?_
  refine awp_for [1, 2, 5, 6] (fun i : Nat => [.vec (p.map B8) false, .ptr H.length 0, .row (H.length + 1) 0 i 2, .int .i64 (i : Int)]) (fun i => H ++ [.box [.vec (ns.map S1) false, .vec (us.map U1) false], .row 2 (((tS ns.length p i).map So.enc).flatten)]) (fun i => 8 - i) (fun i => i ≤ 8) 0 rfl rfl (Nat.zero_le _) fun i hi => ?_
  refine awp_seq ?_
  refine awp_seq ?_
  by_cases hc : (i : Int) < 8
  rotate_left
  · refine awp_run rfl (by simp only [fwA, seval, gfw, bx, dx, bitfw, Int.reduceEq, Int.reduceNeg, Int.reduceToNat, Int.reduceLE, Int.reduceLT, hc] <;> rfl) ?_
    refine awp_cond (b := false) (by simp [alook, aput, ev]) ?_
    refine awp_exit ?_
    have e10 : i = 8 := by omega
    subst e10
    refine awp_told (told_freezeAt H _ 1 (C := ((tS ns.length p 8).map So.enc).flatten) rfl (flat_bd (fun t => by simp only [So.fw]) _)) ?_
    have hl1 := flat_len So.enc_len (tS ns.length p 8)
    have hch := flat_chunk So.enc_len (tS ns.length p 8)
    rw [tS_len] at hl1 hch
    refine awp_keep (A' := [(5, .vec ((tS ns.length p 8).map So.enc) false)]) [5] (by simp only [fwA, seval, gfw, akeep, hl1, hch] <;> rfl) ?_
    refine awp_seq ?_
    refine awp_run rfl (by simp only [fwA, seval] <;> rfl) ?_
    refine awp_ret ?_
    exact gives_end (.inl rfl) _ rfl
  have hwi : IntKind.i64.wrap ((i : Int) + 1) = ((i + 1 : Nat) : Int) := wrapS i (by omega)
  refine awp_run rfl (by simp only [fwA, seval, gfw, bx, dx, bitfw, Int.reduceEq, Int.reduceNeg, Int.reduceToNat, Int.reduceLE, Int.reduceLT, hc] <;> rfl) ?_
  refine awp_cond (b := true) (by simp [alook, aput, ev]) ?_
  refine awp_skip ?_
  refine awp_seq ?_
  refine awp_block ?_
  refine awp_seq ?_
  refine awp_run rfl (by simp only [fwA, seval] <;> rfl) ?_
  refine awp_join [1, 2, 5, 6, 7] (fun _ : Unit => [.vec (p.map B8) false, .ptr H.length 0, .row (H.length + 1) 0 i 2, .int .i64 (i : Int), .int .i64 (pz ns.length p i)]) (fun _ => H ++ [.box [.vec (ns.map S1) false, .vec (us.map U1) false], .row 2 (((tS ns.length p i).map So.enc).flatten)]) (fun _ => True) ?_ fun _ _ => ?_
  · refine awp_seq ?_
    by_cases hp1 : (i : Int) < p.length
    · obtain ⟨x, hx⟩ : ∃ x, p[i]? = some x := ⟨_, List.getElem?_eq_getElem (by omega)⟩
      have hx0 := hp x (List.mem_of_getElem? hx)
      have hwx : IntKind.i64.wrap x = x := wrapId ⟨by omega, by omega⟩
      have hn0 : ¬ ((ns.length : Int) = 0) := by omega
      have hpz : pz ns.length p i = x.tmod ns.length := by unfold pz; rw [hx]
      refine awp_run rfl (by simp only [fwA, seval, gfw, bx, dx, bitfw, Int.reduceEq, Int.reduceNeg, Int.reduceToNat, Int.reduceLE, Int.reduceLT, hp1] <;> rfl) ?_
      refine awp_cond (b := true) (by simp [alook, aput, ev]) ?_
      refine awp_drun [0, 0, 0, 1, 0, 0, 1, 0, 0, 0] [0, 0, 3, 7, 15, 0, 32, 96, 255, 511] mixed rfl (by kernel_rfl) (by simp only [fwA, seval, gfw, bx, dx, bitfw, Int.reduceEq, Int.reduceNeg, Int.reduceToNat, Int.reduceLE, Int.reduceLT, hx, hwx, hn0] <;> rfl) ?_
      exact ⟨(), trivial, by simp only [fwA, seval, gfw, hpz], rfl, rfl⟩
    · have hpz : pz ns.length p i = 0 := by unfold pz; rw [List.getElem?_eq_none (by omega)]
      refine awp_run rfl (by simp only [fwA, seval, gfw, bx, dx, bitfw, Int.reduceEq, Int.reduceNeg, Int.reduceToNat, Int.reduceLE, Int.reduceLT, hp1] <;> rfl) ?_
      refine awp_cond (b := false) (by simp [alook, aput, ev]) (awp_skip ?_)
      exact ⟨(), trivial, by simp only [fwA, seval, gfw, hpz], rfl, rfl⟩
  refine awp_region rfl ?_
  refine aops_run 5 (by simp only [fwA, seval, gfw, bx, dx, bitfw, Int.reduceEq, Int.reduceNeg, Int.reduceToNat, Int.reduceLE, Int.reduceLT] <;> rfl) ?_
  refine aops_push (enc := So.enc) (l := tS ns.length p i) (z := ⟨(i : Int), pz ns.length p i⟩) So.enc_len rfl rfl un27 ti82 rfl un27 rfl (by simp [Fw.get_at]) (tS_len _ _ _).symm rfl (by show (i + 1) * 16 ≤ _; omega) (by omega) rfl ?_
  refine aops_run 1 (by simp only [fwA, seval, gfw, bx, dx, bitfw, Int.reduceEq, Int.reduceNeg, Int.reduceToNat, Int.reduceLE, Int.reduceLT] <;> rfl) ?_
  refine aops_end ?_
  refine awp_run rfl (by simp only [fwA, seval] <;> rfl) ?_
  refine ⟨i + 1, by omega, by omega, by simp only [fwA, seval, gfw, hwi], ?_, rfl⟩
  rw [tS_snoc]
/-- The first variables. -/
def kS (m : Nat) : List Int := (List.range m).map fun i : Nat => (i : Int)
theorem kS_len (m : Nat) : (kS m).length = m := by simp [kS]
theorem kS_snoc (m : Nat) : kS m ++ [(m : Int)] = kS (m + 1) := by simp [kS, List.range_succ]
theorem kS_mem {m : Nat} {v : Int} : v ∈ kS m ↔ 0 ≤ v ∧ v < m := by
  unfold kS
  rw [List.mem_map]
  constructor
  · rintro ⟨i, hi, rfl⟩; rw [List.mem_range] at hi; omega
  · rintro ⟨h0, h1⟩; exact ⟨v.toNat, List.mem_range.2 (by omega), by omega⟩
theorem kS_at {m i : Nat} (h : i < m) : (kS m)[i]? = some (i : Int) := by simp [kS, h]
theorem kS_take {m i : Nat} (h : i ≤ m) : (kS m).take i = kS i := by
  unfold kS
  rw [← List.map_take, List.take_range, Nat.min_eq_left h]
theorem kS_64 {m : Nat} (h : m < 8) : ∀ v ∈ kS m, I64 v := fun v hv => by
  have := kS_mem.1 hv
  exact ⟨by omega, by omega⟩
theorem lats_ok : (latsV.all fun x => rightB x.1 x.2 && x.2.all fun y => decide (y < 18446744073709551616)) = true := by kernel_rfl
theorem lats_at {k : Int} (h0 : 0 ≤ k) : ∃ (j : Nat) (ns : List (List UInt8)) (us : List Nat), k.tmod 6 = (j : Int) ∧ latsV[j]? = some (ns, us) ∧ laE false (ns, us) = [.vec (ns.map S1) false, .vec (us.map U1) false] ∧ rightB ns us = true ∧ W64 us := by
  have hm := tmod_nat (n := 6) h0
  have hj : k.toNat % 6 < latsV.length := Nat.mod_lt _ (by decide)
  have hall := lats_ok
  rw [List.all_eq_true] at hall
  have := hall latsV[k.toNat % 6] (List.getElem_mem hj)
  rw [Bool.and_eq_true, List.all_eq_true] at this
  exact ⟨k.toNat % 6, latsV[k.toNat % 6].1, latsV[k.toNat % 6].2, hm, List.getElem?_eq_getElem hj, rfl, this.1, fun x hx => by have := this.2 x hx; simpa using this⟩
theorem proj_ok {ns : List (List UInt8)} {us : List Nat} {c : List Pr} (hk : knownB ns us c = true) {m : Nat} (hm : m < 8) : OkP (projV ns us c (kS m)) := fun p hp => by
  have hq := proj_pts hk (kS m)
  obtain ⟨hR, hpt⟩ := known_spec.1 hq
  obtain ⟨r1, r2, _⟩ := right_spec hR
  have h1 := hpt p hp
  have key : ∀ x : Int, (x < 0 → (-1 - x).toNat < us.length) → (0 ≤ x → x ∈ gath gV (projV ns us c (kS m))) → us.length ≤ 64 → I64 x := fun x h1 h2 h3 => by
    by_cases h0 : x < 0
    · have := h1 h0; exact ⟨by omega, by omega⟩
    · have := kS_mem.1 (proj_vars (h2 (by omega))); exact ⟨by omega, by omega⟩
  exact ⟨key _ h1.1 (fun h => var_a hp h) (by omega), key _ h1.2 (fun h => var_b hp h) (by omega)⟩
theorem proj_le (ns : List (List UInt8)) (us : List Nat) (c : List Pr) {K : List Int} (h1 : K.length ≤ 8) (h2 : c.length ≤ 30) : (projV ns us c K).length ≤ 300 := by
  unfold projV
  split
  · have h3 := norm_len ((keepV K).flatMap (projO ns us c (keepV K)))
    have h4 := flatMap_le (projO ns us c (keepV K)) (c.length + 3) (fun v => projO_len ns us c (keepV K) v) (keepV K)
    have h5 : (keepV K).length ≤ 8 := Nat.le_trans (List.length_filter_le _ _) h1
    have h6 : (keepV K).length * (c.length + 3) ≤ 8 * 33 := Nat.mul_le_mul h5 (by omega)
    omega
  · simp
end Go.Proofs.YteicbhkimepbaaaGreatDoor
