/- The contract of the document's list of pairs in order. -/
import Derived.Test.YtdacialfjlcboaaGreatDoorR10p
import Derived.Test.YtdacialfjlcboaaGreatDoorFwZc
namespace Go.Proofs.YtdacialfjlcboaaGreatDoor
set_option linter.unusedVariables false
set_option linter.unusedSimpArgs false
set_option maxRecDepth 100000
open Go.RowKit Fw

/-- Whether a pair stands ahead of another one. -/
def ltB (x y : Pr) : Bool := decide (x.a < y.a) || (decide (x.a = y.a) && decide (x.b < y.b))
theorem ltB_iff (x y : Pr) : ltB x y = true ↔ ltP x y := by unfold ltB ltP; simp
/-- A pair in a rising list, once. -/
def insP : List Pr → Pr → List Pr
  | [], s => [s]
  | x :: l, s => if ltB x s then x :: insP l s else if x = s then x :: l else s :: x :: l
theorem insP_found {s : Pr} : ∀ {l : List Pr} {i : Nat}, (∀ j, j < i → ∀ x, l[j]? = some x → ltP x s) → l[i]? = some s → insP l s = l
  | [], _, _, h => by simp at h
  | x :: l, 0, _, h => by
    simp only [List.getElem?_cons_zero, Option.some.injEq] at h
    subst h
    unfold insP
    rw [if_neg (fun h => by have := (ltB_iff _ _).1 h; exact ltP_asym _ _ this this), if_pos rfl]
  | x :: l, i + 1, hl, h => by
    have h0 := hl 0 (by omega) x rfl
    unfold insP
    rw [if_pos ((ltB_iff _ _).2 h0), insP_found (i := i) (fun j hj y hy => hl (j + 1) (by omega) y (by simpa using hy)) (by simpa using h)]
theorem insP_ins {s : Pr} : ∀ {l : List Pr} {i : Nat}, (∀ j, j < i → ∀ x, l[j]? = some x → ltP x s) → (∀ x, l[i]? = some x → ¬ ltP x s ∧ x ≠ s) → insP l s = l.take i ++ s :: l.drop i
  | [], i, _, _ => by simp [insP]
  | x :: l, 0, _, h => by
    obtain ⟨h1, h2⟩ := h x rfl
    unfold insP
    rw [if_neg (fun h => h1 ((ltB_iff _ _).1 h)), if_neg h2]; rfl
  | x :: l, i + 1, hl, h => by
    have h0 := hl 0 (by omega) x rfl
    unfold insP
    rw [if_pos ((ltB_iff _ _).2 h0), insP_ins (i := i) (fun j hj y hy => hl (j + 1) (by omega) y (by simpa using hy)) (fun y hy => h y (by simpa using hy))]
    rfl
theorem insP_mem (s x : Pr) : ∀ l : List Pr, x ∈ insP l s ↔ x = s ∨ x ∈ l
  | [] => by simp [insP]
  | y :: l => by
    unfold insP
    split
    · rw [List.mem_cons, insP_mem s x l, List.mem_cons]; exact or_left_comm
    · split
      · rename_i h
        subst h
        simp only [List.mem_cons]
        constructor
        · exact fun h => .inr h
        · rintro (h | h)
          · exact .inl h
          · exact h
      · simp only [List.mem_cons]
theorem ltP_trans {x y z : Pr} (h1 : ltP x y) (h2 : ltP y z) : ltP x z := by unfold ltP at *; omega
theorem ltP_tri {x y : Pr} (h1 : ¬ ltP x y) (h2 : x ≠ y) : ltP y x := by
  have : ¬ (x.a = y.a ∧ x.b = y.b) := fun h => h2 (pr_ext h.1 h.2)
  unfold ltP at *; omega
theorem insP_rise (s : Pr) : ∀ l : List Pr, l.Pairwise ltP → (insP l s).Pairwise ltP
  | [], _ => by simp [insP]
  | y :: l, h => by
    obtain ⟨h1, h2⟩ := List.pairwise_cons.1 h
    unfold insP
    split
    · rename_i hy
      refine List.pairwise_cons.2 ⟨fun x hx => ?_, insP_rise s l h2⟩
      rcases (insP_mem s x l).1 hx with rfl | hx
      · exact (ltB_iff _ _).1 hy
      · exact h1 x hx
    · rename_i hn
      split
      · exact h
      · rename_i hne
        have hsy := ltP_tri (fun h => hn ((ltB_iff _ _).2 h)) hne
        refine List.pairwise_cons.2 ⟨fun x hx => ?_, h⟩
        rcases List.mem_cons.1 hx with rfl | hx
        · exact hsy
        · exact ltP_trans hsy (h1 x hx)
theorem insP_len (s : Pr) : ∀ l : List Pr, (insP l s).length ≤ l.length + 1
  | [] => by simp [insP]
  | y :: l => by
    have := insP_len s l
    unfold insP
    split
    · simp only [List.length_cons]; omega
    · split <;> simp
def stepN (o : List Pr) (p : Pr) : List Pr := if p.a = p.b then o else insP o p
def normD (l : List Pr) : List Pr := l.foldl stepN []
theorem normD_snoc (l : List Pr) (i : Nat) (p : Pr) (h : l[i]? = some p) : normD (l.take (i + 1)) = stepN (normD (l.take i)) p := by
  unfold normD
  rw [List.take_add_one, h, List.foldl_append]; rfl
theorem stepN_len (o : List Pr) (p : Pr) : (stepN o p).length ≤ o.length + 1 := by
  unfold stepN
  split
  · omega
  · exact insP_len _ _
theorem foldN_len : ∀ (l o : List Pr), (l.foldl stepN o).length ≤ o.length + l.length
  | [], o => by simp
  | p :: l, o => by
    have h1 := foldN_len l (stepN o p)
    have h2 := stepN_len o p
    rw [List.foldl_cons, List.length_cons]; omega
theorem normD_len (l : List Pr) : (normD l).length ≤ l.length := by have := foldN_len l []; unfold normD; simpa using this
theorem foldN_rise : ∀ (l o : List Pr), o.Pairwise ltP → (l.foldl stepN o).Pairwise ltP
  | [], _, h => h
  | p :: l, o, h => foldN_rise l _ (by unfold stepN; split; exact h; exact insP_rise _ _ h)
theorem foldN_mem (x : Pr) : ∀ (l o : List Pr), x ∈ l.foldl stepN o ↔ (x ∈ l ∧ unl x = true) ∨ x ∈ o
  | [], o => by simp
  | p :: l, o => by
    rw [List.foldl_cons, foldN_mem x l, List.mem_cons]
    unfold stepN
    split
    · rename_i h
      constructor
      · rintro (h1 | h1)
        · exact .inl ⟨.inr h1.1, h1.2⟩
        · exact .inr h1
      · rintro (⟨rfl | h1, h2⟩ | h1)
        · exfalso; unfold unl like at h2; rw [decide_eq_true h] at h2; cases h2
        · exact .inl ⟨h1, h2⟩
        · exact .inr h1
    · rename_i h
      rw [insP_mem]
      constructor
      · rintro (h1 | rfl | h1)
        · exact .inl ⟨.inr h1.1, h1.2⟩
        · exact .inl ⟨.inl rfl, by unfold unl like; rw [decide_eq_false h]; rfl⟩
        · exact .inr h1
      · rintro (⟨rfl | h1, h2⟩ | h1)
        · exact .inr (.inl rfl)
        · exact .inl ⟨h1, h2⟩
        · exact .inr (.inr h1)
/-- The document's list is the program's. -/
theorem normD_eq (l : List Pr) : normL l = normD l :=
  normL_is (foldN_rise l [] List.Pairwise.nil) fun x => by unfold normD; rw [foldN_mem]; simp

set_option maxHeartbeats 2000000 in
/- chancel/chancelref10.Norm -/
theorem c18 (Γ : Nat → PV) (ps : List Pr) (hl : ps.length ≤ 1000000000) : Gives Tryz.prog Γ 18 [.vec (ps.map Pr.enc) false] (.vec ((normL ps).map Pr.enc) false) := by
  rw [normD_eq]
  refine fn_of_awp Tryz.func18 rfl (by simp [Tryz.f18]) rfl fun H => ?_
  refine awp_bd fun hbd => ?_
  refine awp_seq ?_
  refine awp_run rfl (by simp only [fwA, ↓reduceIte, Nat.reduceAdd, Nat.reduceMul, Nat.reduceEqDiff, Nat.reduceLT, Nat.reduceLeDiff, reduceCtorEq] <;> rfl) ?_
  refine awp_seq ?_
  refine awp_run rfl (by simp only [fwA, ↓reduceIte, Nat.reduceAdd, Nat.reduceMul, Nat.reduceEqDiff, Nat.reduceLT, Nat.reduceLeDiff, reduceCtorEq] <;> rfl) ?_
  refine awp_seq ?_
  refine awp_seq ?_
  refine awp_run rfl (by simp only [fwA, ↓reduceIte, Nat.reduceAdd, Nat.reduceMul, Nat.reduceEqDiff, Nat.reduceLT, Nat.reduceLeDiff, reduceCtorEq] <;> rfl) ?_
  refine awp_told (told_le 3 (.vec [] false) (vleF [])) ?_
  refine awp_block ?_
  refine awp_forG [0, 3, 4] (fun i : Nat => [.vec (ps.map Pr.enc) false, .vec ((normD (ps.take i)).map Pr.enc) false, .int .i64 (i : Int)]) (fun _ => H) (fun i => ps.length - i) (fun i => i ≤ ps.length) 0 rfl rfl (Nat.zero_le _) (fun i _ => ⟨hbd, by simp [PV.bdL, PV.bd]⟩) (fun i _ b hb => by cases hb) fun i hi => ?_
  refine awp_seq ?_
  refine awp_seq ?_
  refine awp_run rfl (by simp only [fwA, ↓reduceIte, Nat.reduceAdd, Nat.reduceMul, Nat.reduceEqDiff, Nat.reduceLT, Nat.reduceLeDiff, reduceCtorEq, Pr.fw, un27, ti60, pl60, eq60, ti3, el27, fl60_0, fl60_1, List.length_map, List.getElem?_map, Option.map_some, Int.natCast_nonneg, decide_true, decide_false, Bool.and_true, Bool.and_self, Bool.not_true, Bool.not_false] <;> rfl) ?_
  refine awp_cond (by simp only [fwA, ↓reduceIte, Nat.reduceAdd, Nat.reduceMul, Nat.reduceEqDiff, Nat.reduceLT, Nat.reduceLeDiff, reduceCtorEq] <;> rfl) ?_
  by_cases hc : (i : Int) < ps.length
  rotate_left
  · simp only [hc, decide_false, Bool.false_eq_true, ↓reduceIte]
    refine awp_exit ?_
    have e : i = ps.length := by omega
    subst e
    rw [List.take_length]
    refine awp_seq (awp_run rfl (by simp only [fwA, ↓reduceIte, Nat.reduceAdd, Nat.reduceMul, Nat.reduceEqDiff, Nat.reduceLT, Nat.reduceLeDiff, reduceCtorEq] <;> rfl) (awp_ret ?_))
    exact gives_end0 (.inl rfl) rfl
  simp only [hc, decide_true, ↓reduceIte]
  refine awp_skip ?_
  have hil : i < ps.length := by omega
  have ga : ps[i]? = some ps[i] := List.getElem?_eq_getElem hil
  have hst := normD_snoc ps i _ ga
  have hOl := normD_len (ps.take i)
  rw [List.length_take] at hOl
  generalize ps[i] = p at ga hst
  generalize hO : normD (ps.take i) = O at *
  have hOl2 : O.length ≤ 1000000000 := by omega
  have hwi : IntKind.i64.wrap ((i : Int) + 1) = ((i + 1 : Nat) : Int) := wrapS i (by omega)
  refine awp_seq ?_
  refine awp_block ?_
  refine awp_seq ?_
  refine awp_run rfl (by simp only [fwA, ↓reduceIte, Nat.reduceAdd, Nat.reduceMul, Nat.reduceEqDiff, Nat.reduceLT, Nat.reduceLeDiff, reduceCtorEq, Pr.fw, un27, ti60, pl60, eq60, ti3, el27, fl60_0, fl60_1, List.length_map, List.getElem?_map, Option.map_some, Int.natCast_nonneg, decide_true, decide_false, Bool.and_true, Bool.and_self, Bool.not_true, Bool.not_false, ga] <;> rfl) ?_
  refine awp_seq ?_
  refine awp_run rfl (by simp only [fwA, ↓reduceIte, Nat.reduceAdd, Nat.reduceMul, Nat.reduceEqDiff, Nat.reduceLT, Nat.reduceLeDiff, reduceCtorEq] <;> rfl) ?_
  refine awp_join [0, 3, 4, 5, 6] (fun j : Nat => [.vec (ps.map Pr.enc) false, .vec (O.map Pr.enc) false, .int .i64 (i : Int), .ptr H.length 0, .int .i64 (j : Int)]) (fun _ => H ++ [.box p.enc]) (fun j => j ≤ O.length ∧ (∀ k, k < j → ∀ x, O[k]? = some x → ltP x p) ∧ ∀ x, O[j]? = some x → ¬ ltP x p) ?_ fun j hj => ?_
  · refine awp_block ?_
    refine awp_for [0, 3, 4, 5, 6] (fun j : Nat => [.vec (ps.map Pr.enc) false, .vec (O.map Pr.enc) false, .int .i64 (i : Int), .ptr H.length 0, .int .i64 (j : Int)]) (fun _ => H ++ [.box p.enc]) (fun j => O.length - j) (fun j => j ≤ O.length ∧ ∀ k, k < j → ∀ x, O[k]? = some x → ltP x p) 0 rfl rfl ⟨Nat.zero_le _, fun k hk => by omega⟩ fun j hj => ?_
    obtain ⟨hj, hp⟩ := hj
    refine awp_seq ?_
    refine awp_seq ?_
    by_cases hj2 : (j : Int) < O.length
    rotate_left
    · have hnone : ∀ x, O[j]? = some x → ¬ ltP x p := fun x hx => by rw [List.getElem?_eq_none (by omega)] at hx; cases hx
      refine awp_drawn [0, 0, 0, 0, 0, 0, 0, 0, 0, 1, 0, 1, 0, 0, 0, 0, 0, 0, 1, 0, 1, 0, 0, 0, 0, 0, 0, 1, 0, 1, 0, 0, 0, 0] [0, 0, 2, 7, 15, 31, 31, 127, 255, 511, 31, 1055, 4095, 8191, 16383, 16383, 65535, 131071, 262143, 16383, 540671, 2097151, 4194303, 8388607, 8388607, 33554431, 67108863, 134217727, 8388607, 276824063, 1073741823, 2147483647, 4294967295, 8589934591] mixed rfl (by kernel_rfl) ?_
      refine dops_run 13 (by simp only [fwA, ↓reduceIte, Nat.reduceAdd, Nat.reduceMul, Nat.reduceEqDiff, Nat.reduceLT, Nat.reduceLeDiff, reduceCtorEq, Pr.fw, un27, ti60, pl60, eq60, ti3, el27, fl60_0, fl60_1, List.length_map, List.getElem?_map, Option.map_some, Int.natCast_nonneg, decide_true, decide_false, Bool.and_true, Bool.and_self, Bool.not_true, Bool.not_false, hj2] <;> rfl) ?_
      refine dops_run 13 (by simp only [fwA, ↓reduceIte, Nat.reduceAdd, Nat.reduceMul, Nat.reduceEqDiff, Nat.reduceLT, Nat.reduceLeDiff, reduceCtorEq, Pr.fw, un27, ti60, pl60, eq60, ti3, el27, fl60_0, fl60_1, List.length_map, List.getElem?_map, Option.map_some, Int.natCast_nonneg, decide_true, decide_false, Bool.and_true, Bool.and_self, Bool.not_true, Bool.not_false, hj2] <;> rfl) ?_
      refine dops_run 8 (by simp only [fwA, ↓reduceIte, Nat.reduceAdd, Nat.reduceMul, Nat.reduceEqDiff, Nat.reduceLT, Nat.reduceLeDiff, reduceCtorEq, Pr.fw, un27, ti60, pl60, eq60, ti3, el27, fl60_0, fl60_1, List.length_map, List.getElem?_map, Option.map_some, Int.natCast_nonneg, decide_true, decide_false, Bool.and_true, Bool.and_self, Bool.not_true, Bool.not_false, hj2] <;> rfl) ?_
      refine dops_end ?_
      refine awp_cond (b := false) (by simp [alook, aput, ev]) ?_
      refine awp_exit ?_
      exact ⟨j, ⟨hj, hp, hnone⟩, rfl, rfl, rfl⟩
    have hjl : j < O.length := by omega
    have gq : O[j]? = some O[j] := List.getElem?_eq_getElem hjl
    generalize O[j] = q at gq
    have hwj : IntKind.i64.wrap ((j : Int) + 1) = ((j + 1 : Nat) : Int) := wrapS j (by omega)
    have hgo : ltP q p → ∀ k, k < j + 1 → ∀ x, O[k]? = some x → ltP x p := fun h k hk x hx => by
      by_cases e : k = j
      · subst e; rw [gq] at hx; cases hx; exact h
      · exact hp k (by omega) x hx
    have hstop : ¬ ltP q p → ∀ x, O[j]? = some x → ¬ ltP x p := fun h x hx => by rw [gq] at hx; cases hx; exact h
    by_cases h1 : q.a < p.a
    · refine awp_drawn [0, 0, 0, 0, 0, 0, 0, 0, 0, 1, 0, 1, 0, 0, 0, 0, 0, 0, 1, 0, 1, 0, 0, 0, 0, 0, 0, 1, 0, 1, 0, 0, 0, 0] [0, 0, 2, 7, 15, 31, 31, 127, 255, 511, 31, 1055, 4095, 8191, 16383, 16383, 65535, 131071, 262143, 16383, 540671, 2097151, 4194303, 8388607, 8388607, 33554431, 67108863, 134217727, 8388607, 276824063, 1073741823, 2147483647, 4294967295, 8589934591] mixed rfl (by kernel_rfl) ?_
      refine dops_run 13 (by simp only [fwA, ↓reduceIte, Nat.reduceAdd, Nat.reduceMul, Nat.reduceEqDiff, Nat.reduceLT, Nat.reduceLeDiff, reduceCtorEq, Pr.fw, un27, ti60, pl60, eq60, ti3, el27, fl60_0, fl60_1, List.length_map, List.getElem?_map, Option.map_some, Int.natCast_nonneg, decide_true, decide_false, Bool.and_true, Bool.and_self, Bool.not_true, Bool.not_false, hj2, gq, h1] <;> rfl) ?_
      refine dops_run 13 (by simp only [fwA, ↓reduceIte, Nat.reduceAdd, Nat.reduceMul, Nat.reduceEqDiff, Nat.reduceLT, Nat.reduceLeDiff, reduceCtorEq, Pr.fw, un27, ti60, pl60, eq60, ti3, el27, fl60_0, fl60_1, List.length_map, List.getElem?_map, Option.map_some, Int.natCast_nonneg, decide_true, decide_false, Bool.and_true, Bool.and_self, Bool.not_true, Bool.not_false, hj2, gq, h1] <;> rfl) ?_
      refine dops_run 8 (by simp only [fwA, ↓reduceIte, Nat.reduceAdd, Nat.reduceMul, Nat.reduceEqDiff, Nat.reduceLT, Nat.reduceLeDiff, reduceCtorEq, Pr.fw, un27, ti60, pl60, eq60, ti3, el27, fl60_0, fl60_1, List.length_map, List.getElem?_map, Option.map_some, Int.natCast_nonneg, decide_true, decide_false, Bool.and_true, Bool.and_self, Bool.not_true, Bool.not_false, hj2, gq, h1] <;> rfl) ?_
      refine dops_end ?_
      refine awp_cond (b := true) (by simp [alook, aput, ev]) (awp_skip ?_)
      refine awp_block ?_
      refine awp_run rfl (by simp only [fwA, ↓reduceIte, Nat.reduceAdd, Nat.reduceMul, Nat.reduceEqDiff, Nat.reduceLT, Nat.reduceLeDiff, reduceCtorEq] <;> rfl) ?_
      refine ⟨j + 1, by omega, ⟨by omega, hgo (.inl h1)⟩, ?_, rfl, rfl⟩
      simp only [fwA, ↓reduceIte, Nat.reduceAdd, Nat.reduceMul, Nat.reduceEqDiff, Nat.reduceLT, Nat.reduceLeDiff, reduceCtorEq, List.map_cons, List.map_nil, hwj]
    by_cases h2 : q.a = p.a
    · by_cases h3 : q.b < p.b
      · refine awp_drawn [0, 0, 0, 0, 0, 0, 0, 0, 0, 1, 0, 1, 0, 0, 0, 0, 0, 0, 1, 0, 1, 0, 0, 0, 0, 0, 0, 1, 0, 1, 0, 0, 0, 0] [0, 0, 2, 7, 15, 31, 31, 127, 255, 511, 31, 1055, 4095, 8191, 16383, 16383, 65535, 131071, 262143, 16383, 540671, 2097151, 4194303, 8388607, 8388607, 33554431, 67108863, 134217727, 8388607, 276824063, 1073741823, 2147483647, 4294967295, 8589934591] mixed rfl (by kernel_rfl) ?_
        refine dops_run 13 (by simp only [fwA, ↓reduceIte, Nat.reduceAdd, Nat.reduceMul, Nat.reduceEqDiff, Nat.reduceLT, Nat.reduceLeDiff, reduceCtorEq, Pr.fw, un27, ti60, pl60, eq60, ti3, el27, fl60_0, fl60_1, List.length_map, List.getElem?_map, Option.map_some, Int.natCast_nonneg, decide_true, decide_false, Bool.and_true, Bool.and_self, Bool.not_true, Bool.not_false, hj2, gq, h1, h2, h3, Int.lt_irrefl] <;> rfl) ?_
        refine dops_run 13 (by simp only [fwA, ↓reduceIte, Nat.reduceAdd, Nat.reduceMul, Nat.reduceEqDiff, Nat.reduceLT, Nat.reduceLeDiff, reduceCtorEq, Pr.fw, un27, ti60, pl60, eq60, ti3, el27, fl60_0, fl60_1, List.length_map, List.getElem?_map, Option.map_some, Int.natCast_nonneg, decide_true, decide_false, Bool.and_true, Bool.and_self, Bool.not_true, Bool.not_false, hj2, gq, h1, h2, h3, Int.lt_irrefl] <;> rfl) ?_
        refine dops_run 8 (by simp only [fwA, ↓reduceIte, Nat.reduceAdd, Nat.reduceMul, Nat.reduceEqDiff, Nat.reduceLT, Nat.reduceLeDiff, reduceCtorEq, Pr.fw, un27, ti60, pl60, eq60, ti3, el27, fl60_0, fl60_1, List.length_map, List.getElem?_map, Option.map_some, Int.natCast_nonneg, decide_true, decide_false, Bool.and_true, Bool.and_self, Bool.not_true, Bool.not_false, hj2, gq, h1, h2, h3, Int.lt_irrefl] <;> rfl) ?_
        refine dops_end ?_
        refine awp_cond (b := true) (by simp [alook, aput, ev]) (awp_skip ?_)
        refine awp_block ?_
        refine awp_run rfl (by simp only [fwA, ↓reduceIte, Nat.reduceAdd, Nat.reduceMul, Nat.reduceEqDiff, Nat.reduceLT, Nat.reduceLeDiff, reduceCtorEq] <;> rfl) ?_
        refine ⟨j + 1, by omega, ⟨by omega, hgo (.inr ⟨h2, h3⟩)⟩, ?_, rfl, rfl⟩
        simp only [fwA, ↓reduceIte, Nat.reduceAdd, Nat.reduceMul, Nat.reduceEqDiff, Nat.reduceLT, Nat.reduceLeDiff, reduceCtorEq, List.map_cons, List.map_nil, hwj]
      · refine awp_drawn [0, 0, 0, 0, 0, 0, 0, 0, 0, 1, 0, 1, 0, 0, 0, 0, 0, 0, 1, 0, 1, 0, 0, 0, 0, 0, 0, 1, 0, 1, 0, 0, 0, 0] [0, 0, 2, 7, 15, 31, 31, 127, 255, 511, 31, 1055, 4095, 8191, 16383, 16383, 65535, 131071, 262143, 16383, 540671, 2097151, 4194303, 8388607, 8388607, 33554431, 67108863, 134217727, 8388607, 276824063, 1073741823, 2147483647, 4294967295, 8589934591] mixed rfl (by kernel_rfl) ?_
        refine dops_run 13 (by simp only [fwA, ↓reduceIte, Nat.reduceAdd, Nat.reduceMul, Nat.reduceEqDiff, Nat.reduceLT, Nat.reduceLeDiff, reduceCtorEq, Pr.fw, un27, ti60, pl60, eq60, ti3, el27, fl60_0, fl60_1, List.length_map, List.getElem?_map, Option.map_some, Int.natCast_nonneg, decide_true, decide_false, Bool.and_true, Bool.and_self, Bool.not_true, Bool.not_false, hj2, gq, h1, h2, h3, Int.lt_irrefl] <;> rfl) ?_
        refine dops_run 13 (by simp only [fwA, ↓reduceIte, Nat.reduceAdd, Nat.reduceMul, Nat.reduceEqDiff, Nat.reduceLT, Nat.reduceLeDiff, reduceCtorEq, Pr.fw, un27, ti60, pl60, eq60, ti3, el27, fl60_0, fl60_1, List.length_map, List.getElem?_map, Option.map_some, Int.natCast_nonneg, decide_true, decide_false, Bool.and_true, Bool.and_self, Bool.not_true, Bool.not_false, hj2, gq, h1, h2, h3, Int.lt_irrefl] <;> rfl) ?_
        refine dops_run 8 (by simp only [fwA, ↓reduceIte, Nat.reduceAdd, Nat.reduceMul, Nat.reduceEqDiff, Nat.reduceLT, Nat.reduceLeDiff, reduceCtorEq, Pr.fw, un27, ti60, pl60, eq60, ti3, el27, fl60_0, fl60_1, List.length_map, List.getElem?_map, Option.map_some, Int.natCast_nonneg, decide_true, decide_false, Bool.and_true, Bool.and_self, Bool.not_true, Bool.not_false, hj2, gq, h1, h2, h3, Int.lt_irrefl] <;> rfl) ?_
        refine dops_end ?_
        refine awp_cond (b := false) (by simp [alook, aput, ev]) ?_
        refine awp_exit ?_
        exact ⟨j, ⟨hj, hp, hstop (by unfold ltP; omega)⟩, rfl, rfl, rfl⟩
    · refine awp_drawn [0, 0, 0, 0, 0, 0, 0, 0, 0, 1, 0, 1, 0, 0, 0, 0, 0, 0, 1, 0, 1, 0, 0, 0, 0, 0, 0, 1, 0, 1, 0, 0, 0, 0] [0, 0, 2, 7, 15, 31, 31, 127, 255, 511, 31, 1055, 4095, 8191, 16383, 16383, 65535, 131071, 262143, 16383, 540671, 2097151, 4194303, 8388607, 8388607, 33554431, 67108863, 134217727, 8388607, 276824063, 1073741823, 2147483647, 4294967295, 8589934591] mixed rfl (by kernel_rfl) ?_
      refine dops_run 13 (by simp only [fwA, ↓reduceIte, Nat.reduceAdd, Nat.reduceMul, Nat.reduceEqDiff, Nat.reduceLT, Nat.reduceLeDiff, reduceCtorEq, Pr.fw, un27, ti60, pl60, eq60, ti3, el27, fl60_0, fl60_1, List.length_map, List.getElem?_map, Option.map_some, Int.natCast_nonneg, decide_true, decide_false, Bool.and_true, Bool.and_self, Bool.not_true, Bool.not_false, hj2, gq, h1, h2] <;> rfl) ?_
      refine dops_run 13 (by simp only [fwA, ↓reduceIte, Nat.reduceAdd, Nat.reduceMul, Nat.reduceEqDiff, Nat.reduceLT, Nat.reduceLeDiff, reduceCtorEq, Pr.fw, un27, ti60, pl60, eq60, ti3, el27, fl60_0, fl60_1, List.length_map, List.getElem?_map, Option.map_some, Int.natCast_nonneg, decide_true, decide_false, Bool.and_true, Bool.and_self, Bool.not_true, Bool.not_false, hj2, gq, h1, h2] <;> rfl) ?_
      refine dops_run 8 (by simp only [fwA, ↓reduceIte, Nat.reduceAdd, Nat.reduceMul, Nat.reduceEqDiff, Nat.reduceLT, Nat.reduceLeDiff, reduceCtorEq, Pr.fw, un27, ti60, pl60, eq60, ti3, el27, fl60_0, fl60_1, List.length_map, List.getElem?_map, Option.map_some, Int.natCast_nonneg, decide_true, decide_false, Bool.and_true, Bool.and_self, Bool.not_true, Bool.not_false, hj2, gq, h1, h2] <;> rfl) ?_
      refine dops_end ?_
      refine awp_cond (b := false) (by simp [alook, aput, ev]) ?_
      refine awp_exit ?_
      exact ⟨j, ⟨hj, hp, hstop (by unfold ltP; omega)⟩, rfl, rfl, rfl⟩
  obtain ⟨hj, hp, hno⟩ := hj
  have e1 : ((O.map Pr.enc).drop 0).take (j - 0) = (O.take j).map Pr.enc := by simp [List.map_take]
  have e2 : ((O.map Pr.enc).drop j).take (O.length - j) = (O.drop j).map Pr.enc := by rw [List.take_of_length_le (by simp), List.map_drop]
  have hti : (O.take j).length = j := by rw [List.length_take]; omega
  have htd : (O.drop j).length = O.length - j := List.length_drop ..
  refine awp_seq ?_
  refine awp_seq ?_
  by_cases hab : p.a = p.b
  · have e : stepN O p = O := by unfold stepN; rw [if_pos hab]
    refine awp_drawn [0, 1, 0, 1, 0, 0, 0, 0, 0, 0, 0, 0, 0, 0, 1, 1, 0, 0, 0] [0, 1, 0, 4, 15, 31, 63, 63, 191, 511, 1023, 2047, 2047, 8191, 16383, 2047, 65535, 131071, 262143] mixed rfl (by kernel_rfl) ?_
    refine dops_run 13 (by simp only [fwA, ↓reduceIte, Nat.reduceAdd, Nat.reduceMul, Nat.reduceEqDiff, Nat.reduceLT, Nat.reduceLeDiff, reduceCtorEq, Pr.fw, un27, ti60, pl60, eq60, ti3, el27, fl60_0, fl60_1, List.length_map, List.getElem?_map, Option.map_some, Int.natCast_nonneg, decide_true, decide_false, Bool.and_true, Bool.and_self, Bool.not_true, Bool.not_false, hab] <;> rfl) ?_
    refine dops_run 6 (by simp only [fwA, ↓reduceIte, Nat.reduceAdd, Nat.reduceMul, Nat.reduceEqDiff, Nat.reduceLT, Nat.reduceLeDiff, reduceCtorEq, Pr.fw, un27, ti60, pl60, eq60, ti3, el27, fl60_0, fl60_1, List.length_map, List.getElem?_map, Option.map_some, Int.natCast_nonneg, decide_true, decide_false, Bool.and_true, Bool.and_self, Bool.not_true, Bool.not_false, hab] <;> rfl) ?_
    refine dops_end ?_
    refine awp_cond (b := true) (by simp [alook, aput, ev]) ?_
    refine awp_exit ?_
    refine awp_run rfl (by simp only [fwA, ↓reduceIte, Nat.reduceAdd, Nat.reduceMul, Nat.reduceEqDiff, Nat.reduceLT, Nat.reduceLeDiff, reduceCtorEq] <;> rfl) ?_
    refine ⟨i + 1, [.box p.enc], by omega, by omega, ?_, rfl, rfl, by simp⟩
    rw [hst, e]; simp only [fwA, ↓reduceIte, Nat.reduceAdd, Nat.reduceMul, Nat.reduceEqDiff, Nat.reduceLT, Nat.reduceLeDiff, reduceCtorEq, List.map_cons, List.map_nil, hwi]
  have hadd : stepN O p = insP O p := by unfold stepN; rw [if_neg hab]
  have key : (∀ x, O[j]? = some x → x ≠ p) → insP O p = O.take j ++ p :: O.drop j := fun h => insP_ins hp fun x hx => ⟨hno x hx, h x hx⟩
  by_cases hj2 : (j : Int) < O.length
  · have hjl : j < O.length := by omega
    have gq : O[j]? = some O[j] := List.getElem?_eq_getElem hjl
    generalize O[j] = q at gq
    by_cases hq1 : q.a = p.a
    · by_cases hq2 : q.b = p.b
      · have eq : q = p := pr_ext hq1 hq2
        subst eq
        have e := insP_found hp gq
        refine awp_drawn [0, 1, 0, 1, 0, 0, 0, 0, 0, 0, 0, 0, 0, 0, 1, 1, 0, 0, 0] [0, 1, 0, 4, 15, 31, 63, 63, 191, 511, 1023, 2047, 2047, 8191, 16383, 2047, 65535, 131071, 262143] mixed rfl (by kernel_rfl) ?_
        refine dops_run 13 (by simp only [fwA, ↓reduceIte, Nat.reduceAdd, Nat.reduceMul, Nat.reduceEqDiff, Nat.reduceLT, Nat.reduceLeDiff, reduceCtorEq, Pr.fw, un27, ti60, pl60, eq60, ti3, el27, fl60_0, fl60_1, List.length_map, List.getElem?_map, Option.map_some, Int.natCast_nonneg, decide_true, decide_false, Bool.and_true, Bool.and_self, Bool.not_true, Bool.not_false, hj2, gq, hab] <;> rfl) ?_
        refine dops_run 6 (by simp only [fwA, ↓reduceIte, Nat.reduceAdd, Nat.reduceMul, Nat.reduceEqDiff, Nat.reduceLT, Nat.reduceLeDiff, reduceCtorEq, Pr.fw, un27, ti60, pl60, eq60, ti3, el27, fl60_0, fl60_1, List.length_map, List.getElem?_map, Option.map_some, Int.natCast_nonneg, decide_true, decide_false, Bool.and_true, Bool.and_self, Bool.not_true, Bool.not_false, hj2, gq, hab] <;> rfl) ?_
        refine dops_end ?_
        refine awp_cond (b := true) (by simp [alook, aput, ev]) ?_
        refine awp_exit ?_
        refine awp_run rfl (by simp only [fwA, ↓reduceIte, Nat.reduceAdd, Nat.reduceMul, Nat.reduceEqDiff, Nat.reduceLT, Nat.reduceLeDiff, reduceCtorEq] <;> rfl) ?_
        refine ⟨i + 1, [.box q.enc], by omega, by omega, ?_, rfl, rfl, by simp⟩
        rw [hst, hadd, e]; simp only [fwA, ↓reduceIte, Nat.reduceAdd, Nat.reduceMul, Nat.reduceEqDiff, Nat.reduceLT, Nat.reduceLeDiff, reduceCtorEq, List.map_cons, List.map_nil, hwi]
      · have hins := key fun x hx e => by rw [gq] at hx; cases hx; exact hq2 (by rw [e])
        refine awp_drawn [0, 1, 0, 1, 0, 0, 0, 0, 0, 0, 0, 0, 0, 0, 1, 1, 0, 0, 0] [0, 1, 0, 4, 15, 31, 63, 63, 191, 511, 1023, 2047, 2047, 8191, 16383, 2047, 65535, 131071, 262143] mixed rfl (by kernel_rfl) ?_
        refine dops_run 13 (by simp only [fwA, ↓reduceIte, Nat.reduceAdd, Nat.reduceMul, Nat.reduceEqDiff, Nat.reduceLT, Nat.reduceLeDiff, reduceCtorEq, Pr.fw, un27, ti60, pl60, eq60, ti3, el27, fl60_0, fl60_1, List.length_map, List.getElem?_map, Option.map_some, Int.natCast_nonneg, decide_true, decide_false, Bool.and_true, Bool.and_self, Bool.not_true, Bool.not_false, hj2, gq, hab, hq1, hq2] <;> rfl) ?_
        refine dops_run 6 (by simp only [fwA, ↓reduceIte, Nat.reduceAdd, Nat.reduceMul, Nat.reduceEqDiff, Nat.reduceLT, Nat.reduceLeDiff, reduceCtorEq, Pr.fw, un27, ti60, pl60, eq60, ti3, el27, fl60_0, fl60_1, List.length_map, List.getElem?_map, Option.map_some, Int.natCast_nonneg, decide_true, decide_false, Bool.and_true, Bool.and_self, Bool.not_true, Bool.not_false, hj2, gq, hab, hq1, hq2] <;> rfl) ?_
        refine dops_end ?_
        refine awp_cond (b := false) (by simp [alook, aput, ev]) (awp_skip ?_)
        refine awp_drawn [0, 0, 0, 3, 4, 0, 2, 0, 0, 0, 2, 0] [0, 0, 3, 7, 0, 16, 63, 0, 0, 384, 1023, 2047] mixed rfl (by kernel_rfl) ?_
        refine dops_run 2 (by simp only [fwA, ↓reduceIte, Nat.reduceAdd, Nat.reduceMul, Nat.reduceEqDiff, Nat.reduceLT, Nat.reduceLeDiff, reduceCtorEq] <;> rfl) ?_
        refine dops_one (.vec ((O.take j).map Pr.enc) false) rfl rfl (fun H A' hev => os_sliceVec (l := 0) (h := j) (es := O.map Pr.enc) (f := false) rfl el27 ((hev _ (by simp [Op.operands])).trans rfl) (fun e he => by obtain ⟨x, _, rfl⟩ := List.mem_map.1 he; rfl) rfl ⟨_, (hev _ (by simp [Op.operands])).trans rfl⟩ trivial (Nat.zero_le _) (by rw [List.length_map]; omega) ⟨congrArg (fun z => PV.vec z false) e1, rfl⟩) ?_
        refine dops_appendNew (xs := ((O.take j).map Pr.enc).flatten) (n := j) rfl rfl (.inr rfl) (Nat.le_refl _) un27 ti60 un27 (.inl ⟨_, rfl⟩) (by decide) rfl (by simp only [fwA, ↓reduceIte, Nat.reduceAdd, Nat.reduceMul, Nat.reduceEqDiff, Nat.reduceLT, Nat.reduceLeDiff, reduceCtorEq] <;> rfl) (fun es f h e he => by
            simp only [fwA, ↓reduceIte, Nat.reduceAdd, Nat.reduceMul, Nat.reduceEqDiff, Nat.reduceLT, Nat.reduceLeDiff, reduceCtorEq, PV.vec.injEq] at h
            obtain ⟨rfl, rfl⟩ := h
            obtain ⟨x, _, rfl⟩ := List.mem_map.1 he
            rfl) (by simp only [fwA, ↓reduceIte, Nat.reduceAdd, Nat.reduceMul, Nat.reduceEqDiff, Nat.reduceLT, Nat.reduceLeDiff, reduceCtorEq, alen, List.length_map, hti]) (by show j * 16 ≤ _; omega) (by omega) ?_
        refine dops_run 2 (by simp only [fwA, ↓reduceIte, Nat.reduceAdd, Nat.reduceMul, Nat.reduceEqDiff, Nat.reduceLT, Nat.reduceLeDiff, reduceCtorEq, un27, ti60] <;> rfl) ?_
        refine dops_appendR (b := H.length + 1) (q := 0) (k := j) (n := 1) (cs := ((O.take j).map Pr.enc).flatten) (xs := [.int .i64 p.a, .int .i64 p.b]) rfl rfl rfl un27 ti60 un27 (.inl ⟨_, rfl⟩) rfl (by simp only [fwA, ↓reduceIte, Nat.reduceAdd, Nat.reduceMul, Nat.reduceEqDiff, Nat.reduceLT, Nat.reduceLeDiff, reduceCtorEq] <;> rfl) (by rw [flat_len Pr.enc_len, hti]; exact (Nat.zero_add _).symm) (by simp only [fwA, ↓reduceIte, Nat.reduceAdd, Nat.reduceMul, Nat.reduceEqDiff, Nat.reduceLT, Nat.reduceLeDiff, reduceCtorEq] <;> rfl) (fun es f h e he => by
            simp only [fwA, ↓reduceIte, Nat.reduceAdd, Nat.reduceMul, Nat.reduceEqDiff, Nat.reduceLT, Nat.reduceLeDiff, reduceCtorEq, PV.vec.injEq] at h
            obtain ⟨rfl, rfl⟩ := h
            simp only [List.mem_singleton] at he
            subst he; rfl) (by simp only [fwA, ↓reduceIte, Nat.reduceAdd, Nat.reduceMul, Nat.reduceEqDiff, Nat.reduceLT, Nat.reduceLeDiff, reduceCtorEq] <;> rfl) (by show (j + 1) * 16 ≤ _; omega) (by omega) ?_
        refine dops_run 2 (by simp only [fwA, ↓reduceIte, Nat.reduceAdd, Nat.reduceMul, Nat.reduceEqDiff, Nat.reduceLT, Nat.reduceLeDiff, reduceCtorEq] <;> rfl) ?_
        refine dops_one (.vec ((O.drop j).map Pr.enc) false) rfl rfl (fun H A' hev => os_sliceVec (l := j) (h := O.length) (es := O.map Pr.enc) (f := false) rfl el27 ((hev _ (by simp [Op.operands])).trans rfl) (fun e he => by obtain ⟨x, _, rfl⟩ := List.mem_map.1 he; rfl) ⟨_, (hev _ (by simp [Op.operands])).trans rfl⟩ (by rw [onOpt, List.length_map]) trivial hj (by rw [List.length_map]; omega) ⟨congrArg (fun z => PV.vec z false) e2, rfl⟩) ?_
        refine dops_appendR (b := H.length + 1) (q := 0) (k := j + 1) (n := O.length - j) (cs := ((O.take j).map Pr.enc).flatten ++ [.int .i64 p.a, .int .i64 p.b]) (xs := ((O.drop j).map Pr.enc).flatten) rfl rfl rfl un27 ti60 un27 (.inl ⟨_, rfl⟩) rfl (by simp only [fwA, ↓reduceIte, Nat.reduceAdd, Nat.reduceMul, Nat.reduceEqDiff, Nat.reduceLT, Nat.reduceLeDiff, reduceCtorEq] <;> rfl) (by rw [List.length_append, flat_len Pr.enc_len, hti]; simp; omega) (by simp only [fwA, ↓reduceIte, Nat.reduceAdd, Nat.reduceMul, Nat.reduceEqDiff, Nat.reduceLT, Nat.reduceLeDiff, reduceCtorEq] <;> rfl) (fun es f h e he => by
            simp only [fwA, ↓reduceIte, Nat.reduceAdd, Nat.reduceMul, Nat.reduceEqDiff, Nat.reduceLT, Nat.reduceLeDiff, reduceCtorEq, PV.vec.injEq] at h
            obtain ⟨rfl, rfl⟩ := h
            obtain ⟨x, _, rfl⟩ := List.mem_map.1 he
            rfl) (by simp only [fwA, ↓reduceIte, Nat.reduceAdd, Nat.reduceMul, Nat.reduceEqDiff, Nat.reduceLT, Nat.reduceLeDiff, reduceCtorEq, alen, List.length_map, htd]) (by show (j + 1 + (O.length - j)) * 16 ≤ _; omega) (by omega) ?_
        refine dops_run 1 (by simp only [fwA, ↓reduceIte, Nat.reduceAdd, Nat.reduceMul, Nat.reduceEqDiff, Nat.reduceLT, Nat.reduceLeDiff, reduceCtorEq] <;> rfl) ?_
        refine dops_end ?_
        have hC : (((O.take j ++ p :: O.drop j).map Pr.enc).flatten) = ((O.take j).map Pr.enc).flatten ++ [.int .i64 p.a, .int .i64 p.b] ++ ((O.drop j).map Pr.enc).flatten := by simp [Pr.enc]
        have hCl : (O.take j ++ p :: O.drop j).length = O.length + 1 := by rw [List.length_append, List.length_cons, hti, htd]; omega
        refine awp_keep (A' := [(0, .vec (ps.map Pr.enc) false), (3, .row (H.length + 1) 0 (O.length + 1) 2), (4, .int .i64 (i : Int))]) [0, 3, 4] (by simp only [fwA, ↓reduceIte, Nat.reduceAdd, Nat.reduceMul, Nat.reduceEqDiff, Nat.reduceLT, Nat.reduceLeDiff, reduceCtorEq, akeep, show j + 1 + (O.length - j) = O.length + 1 by omega] <;> rfl) ?_
        generalize O.take j ++ p :: O.drop j = r at hC hCl hins ⊢
        refine awp_heap (H' := H ++ [.box p.enc, .row 2 ((r.map Pr.enc).flatten)]) (by rw [hC]; simp) ?_
        refine awp_told (told_freezeAt H _ 1 (C := (r.map Pr.enc).flatten) rfl (flatP_bd _ _)) ?_
        have hch := flat_chunk Pr.enc_len r
        have hfl := flat_len Pr.enc_len r
        rw [hCl] at hch hfl
        generalize O.length + 1 = m at hch hfl ⊢
        refine awp_keep (A' := [(0, .vec (ps.map Pr.enc) false), (3, .vec (r.map Pr.enc) false), (4, .int .i64 (i : Int))]) [0, 3, 4] (by simp only [fwA, ↓reduceIte, Nat.reduceAdd, Nat.reduceMul, Nat.reduceEqDiff, Nat.reduceLT, Nat.reduceLeDiff, reduceCtorEq, akeep, hfl, hch] <;> rfl) ?_
        refine awp_run rfl (by simp only [fwA, ↓reduceIte, Nat.reduceAdd, Nat.reduceMul, Nat.reduceEqDiff, Nat.reduceLT, Nat.reduceLeDiff, reduceCtorEq] <;> rfl) ?_
        refine ⟨i + 1, [.box p.enc, .dead], by omega, by omega, ?_, ?_, rfl, by simp⟩
        · rw [hst, hadd, hins]; simp only [fwA, ↓reduceIte, Nat.reduceAdd, Nat.reduceMul, Nat.reduceEqDiff, Nat.reduceLT, Nat.reduceLeDiff, reduceCtorEq, List.map_cons, List.map_nil, hwi]
        · simp [Pr.enc, frz]
    · have hins := key fun x hx e => by rw [gq] at hx; cases hx; exact hq1 (by rw [e])
      refine awp_drawn [0, 1, 0, 1, 0, 0, 0, 0, 0, 0, 0, 0, 0, 0, 1, 1, 0, 0, 0] [0, 1, 0, 4, 15, 31, 63, 63, 191, 511, 1023, 2047, 2047, 8191, 16383, 2047, 65535, 131071, 262143] mixed rfl (by kernel_rfl) ?_
      refine dops_run 13 (by simp only [fwA, ↓reduceIte, Nat.reduceAdd, Nat.reduceMul, Nat.reduceEqDiff, Nat.reduceLT, Nat.reduceLeDiff, reduceCtorEq, Pr.fw, un27, ti60, pl60, eq60, ti3, el27, fl60_0, fl60_1, List.length_map, List.getElem?_map, Option.map_some, Int.natCast_nonneg, decide_true, decide_false, Bool.and_true, Bool.and_self, Bool.not_true, Bool.not_false, hj2, gq, hab, hq1] <;> rfl) ?_
      refine dops_run 6 (by simp only [fwA, ↓reduceIte, Nat.reduceAdd, Nat.reduceMul, Nat.reduceEqDiff, Nat.reduceLT, Nat.reduceLeDiff, reduceCtorEq, Pr.fw, un27, ti60, pl60, eq60, ti3, el27, fl60_0, fl60_1, List.length_map, List.getElem?_map, Option.map_some, Int.natCast_nonneg, decide_true, decide_false, Bool.and_true, Bool.and_self, Bool.not_true, Bool.not_false, hj2, gq, hab, hq1] <;> rfl) ?_
      refine dops_end ?_
      refine awp_cond (b := false) (by simp [alook, aput, ev]) (awp_skip ?_)
      refine awp_drawn [0, 0, 0, 3, 4, 0, 2, 0, 0, 0, 2, 0] [0, 0, 3, 7, 0, 16, 63, 0, 0, 384, 1023, 2047] mixed rfl (by kernel_rfl) ?_
      refine dops_run 2 (by simp only [fwA, ↓reduceIte, Nat.reduceAdd, Nat.reduceMul, Nat.reduceEqDiff, Nat.reduceLT, Nat.reduceLeDiff, reduceCtorEq] <;> rfl) ?_
      refine dops_one (.vec ((O.take j).map Pr.enc) false) rfl rfl (fun H A' hev => os_sliceVec (l := 0) (h := j) (es := O.map Pr.enc) (f := false) rfl el27 ((hev _ (by simp [Op.operands])).trans rfl) (fun e he => by obtain ⟨x, _, rfl⟩ := List.mem_map.1 he; rfl) rfl ⟨_, (hev _ (by simp [Op.operands])).trans rfl⟩ trivial (Nat.zero_le _) (by rw [List.length_map]; omega) ⟨congrArg (fun z => PV.vec z false) e1, rfl⟩) ?_
      refine dops_appendNew (xs := ((O.take j).map Pr.enc).flatten) (n := j) rfl rfl (.inr rfl) (Nat.le_refl _) un27 ti60 un27 (.inl ⟨_, rfl⟩) (by decide) rfl (by simp only [fwA, ↓reduceIte, Nat.reduceAdd, Nat.reduceMul, Nat.reduceEqDiff, Nat.reduceLT, Nat.reduceLeDiff, reduceCtorEq] <;> rfl) (fun es f h e he => by
          simp only [fwA, ↓reduceIte, Nat.reduceAdd, Nat.reduceMul, Nat.reduceEqDiff, Nat.reduceLT, Nat.reduceLeDiff, reduceCtorEq, PV.vec.injEq] at h
          obtain ⟨rfl, rfl⟩ := h
          obtain ⟨x, _, rfl⟩ := List.mem_map.1 he
          rfl) (by simp only [fwA, ↓reduceIte, Nat.reduceAdd, Nat.reduceMul, Nat.reduceEqDiff, Nat.reduceLT, Nat.reduceLeDiff, reduceCtorEq, alen, List.length_map, hti]) (by show j * 16 ≤ _; omega) (by omega) ?_
      refine dops_run 2 (by simp only [fwA, ↓reduceIte, Nat.reduceAdd, Nat.reduceMul, Nat.reduceEqDiff, Nat.reduceLT, Nat.reduceLeDiff, reduceCtorEq, un27, ti60] <;> rfl) ?_
      refine dops_appendR (b := H.length + 1) (q := 0) (k := j) (n := 1) (cs := ((O.take j).map Pr.enc).flatten) (xs := [.int .i64 p.a, .int .i64 p.b]) rfl rfl rfl un27 ti60 un27 (.inl ⟨_, rfl⟩) rfl (by simp only [fwA, ↓reduceIte, Nat.reduceAdd, Nat.reduceMul, Nat.reduceEqDiff, Nat.reduceLT, Nat.reduceLeDiff, reduceCtorEq] <;> rfl) (by rw [flat_len Pr.enc_len, hti]; exact (Nat.zero_add _).symm) (by simp only [fwA, ↓reduceIte, Nat.reduceAdd, Nat.reduceMul, Nat.reduceEqDiff, Nat.reduceLT, Nat.reduceLeDiff, reduceCtorEq] <;> rfl) (fun es f h e he => by
          simp only [fwA, ↓reduceIte, Nat.reduceAdd, Nat.reduceMul, Nat.reduceEqDiff, Nat.reduceLT, Nat.reduceLeDiff, reduceCtorEq, PV.vec.injEq] at h
          obtain ⟨rfl, rfl⟩ := h
          simp only [List.mem_singleton] at he
          subst he; rfl) (by simp only [fwA, ↓reduceIte, Nat.reduceAdd, Nat.reduceMul, Nat.reduceEqDiff, Nat.reduceLT, Nat.reduceLeDiff, reduceCtorEq] <;> rfl) (by show (j + 1) * 16 ≤ _; omega) (by omega) ?_
      refine dops_run 2 (by simp only [fwA, ↓reduceIte, Nat.reduceAdd, Nat.reduceMul, Nat.reduceEqDiff, Nat.reduceLT, Nat.reduceLeDiff, reduceCtorEq] <;> rfl) ?_
      refine dops_one (.vec ((O.drop j).map Pr.enc) false) rfl rfl (fun H A' hev => os_sliceVec (l := j) (h := O.length) (es := O.map Pr.enc) (f := false) rfl el27 ((hev _ (by simp [Op.operands])).trans rfl) (fun e he => by obtain ⟨x, _, rfl⟩ := List.mem_map.1 he; rfl) ⟨_, (hev _ (by simp [Op.operands])).trans rfl⟩ (by rw [onOpt, List.length_map]) trivial hj (by rw [List.length_map]; omega) ⟨congrArg (fun z => PV.vec z false) e2, rfl⟩) ?_
      refine dops_appendR (b := H.length + 1) (q := 0) (k := j + 1) (n := O.length - j) (cs := ((O.take j).map Pr.enc).flatten ++ [.int .i64 p.a, .int .i64 p.b]) (xs := ((O.drop j).map Pr.enc).flatten) rfl rfl rfl un27 ti60 un27 (.inl ⟨_, rfl⟩) rfl (by simp only [fwA, ↓reduceIte, Nat.reduceAdd, Nat.reduceMul, Nat.reduceEqDiff, Nat.reduceLT, Nat.reduceLeDiff, reduceCtorEq] <;> rfl) (by rw [List.length_append, flat_len Pr.enc_len, hti]; simp; omega) (by simp only [fwA, ↓reduceIte, Nat.reduceAdd, Nat.reduceMul, Nat.reduceEqDiff, Nat.reduceLT, Nat.reduceLeDiff, reduceCtorEq] <;> rfl) (fun es f h e he => by
          simp only [fwA, ↓reduceIte, Nat.reduceAdd, Nat.reduceMul, Nat.reduceEqDiff, Nat.reduceLT, Nat.reduceLeDiff, reduceCtorEq, PV.vec.injEq] at h
          obtain ⟨rfl, rfl⟩ := h
          obtain ⟨x, _, rfl⟩ := List.mem_map.1 he
          rfl) (by simp only [fwA, ↓reduceIte, Nat.reduceAdd, Nat.reduceMul, Nat.reduceEqDiff, Nat.reduceLT, Nat.reduceLeDiff, reduceCtorEq, alen, List.length_map, htd]) (by show (j + 1 + (O.length - j)) * 16 ≤ _; omega) (by omega) ?_
      refine dops_run 1 (by simp only [fwA, ↓reduceIte, Nat.reduceAdd, Nat.reduceMul, Nat.reduceEqDiff, Nat.reduceLT, Nat.reduceLeDiff, reduceCtorEq] <;> rfl) ?_
      refine dops_end ?_
      have hC : (((O.take j ++ p :: O.drop j).map Pr.enc).flatten) = ((O.take j).map Pr.enc).flatten ++ [.int .i64 p.a, .int .i64 p.b] ++ ((O.drop j).map Pr.enc).flatten := by simp [Pr.enc]
      have hCl : (O.take j ++ p :: O.drop j).length = O.length + 1 := by rw [List.length_append, List.length_cons, hti, htd]; omega
      refine awp_keep (A' := [(0, .vec (ps.map Pr.enc) false), (3, .row (H.length + 1) 0 (O.length + 1) 2), (4, .int .i64 (i : Int))]) [0, 3, 4] (by simp only [fwA, ↓reduceIte, Nat.reduceAdd, Nat.reduceMul, Nat.reduceEqDiff, Nat.reduceLT, Nat.reduceLeDiff, reduceCtorEq, akeep, show j + 1 + (O.length - j) = O.length + 1 by omega] <;> rfl) ?_
      generalize O.take j ++ p :: O.drop j = r at hC hCl hins ⊢
      refine awp_heap (H' := H ++ [.box p.enc, .row 2 ((r.map Pr.enc).flatten)]) (by rw [hC]; simp) ?_
      refine awp_told (told_freezeAt H _ 1 (C := (r.map Pr.enc).flatten) rfl (flatP_bd _ _)) ?_
      have hch := flat_chunk Pr.enc_len r
      have hfl := flat_len Pr.enc_len r
      rw [hCl] at hch hfl
      generalize O.length + 1 = m at hch hfl ⊢
      refine awp_keep (A' := [(0, .vec (ps.map Pr.enc) false), (3, .vec (r.map Pr.enc) false), (4, .int .i64 (i : Int))]) [0, 3, 4] (by simp only [fwA, ↓reduceIte, Nat.reduceAdd, Nat.reduceMul, Nat.reduceEqDiff, Nat.reduceLT, Nat.reduceLeDiff, reduceCtorEq, akeep, hfl, hch] <;> rfl) ?_
      refine awp_run rfl (by simp only [fwA, ↓reduceIte, Nat.reduceAdd, Nat.reduceMul, Nat.reduceEqDiff, Nat.reduceLT, Nat.reduceLeDiff, reduceCtorEq] <;> rfl) ?_
      refine ⟨i + 1, [.box p.enc, .dead], by omega, by omega, ?_, ?_, rfl, by simp⟩
      · rw [hst, hadd, hins]; simp only [fwA, ↓reduceIte, Nat.reduceAdd, Nat.reduceMul, Nat.reduceEqDiff, Nat.reduceLT, Nat.reduceLeDiff, reduceCtorEq, List.map_cons, List.map_nil, hwi]
      · simp [Pr.enc, frz]
  · have hins := key fun x hx => by rw [List.getElem?_eq_none (by omega)] at hx; cases hx
    refine awp_drawn [0, 1, 0, 1, 0, 0, 0, 0, 0, 0, 0, 0, 0, 0, 1, 1, 0, 0, 0] [0, 1, 0, 4, 15, 31, 63, 63, 191, 511, 1023, 2047, 2047, 8191, 16383, 2047, 65535, 131071, 262143] mixed rfl (by kernel_rfl) ?_
    refine dops_run 13 (by simp only [fwA, ↓reduceIte, Nat.reduceAdd, Nat.reduceMul, Nat.reduceEqDiff, Nat.reduceLT, Nat.reduceLeDiff, reduceCtorEq, Pr.fw, un27, ti60, pl60, eq60, ti3, el27, fl60_0, fl60_1, List.length_map, List.getElem?_map, Option.map_some, Int.natCast_nonneg, decide_true, decide_false, Bool.and_true, Bool.and_self, Bool.not_true, Bool.not_false, hj2, hab] <;> rfl) ?_
    refine dops_run 6 (by simp only [fwA, ↓reduceIte, Nat.reduceAdd, Nat.reduceMul, Nat.reduceEqDiff, Nat.reduceLT, Nat.reduceLeDiff, reduceCtorEq, Pr.fw, un27, ti60, pl60, eq60, ti3, el27, fl60_0, fl60_1, List.length_map, List.getElem?_map, Option.map_some, Int.natCast_nonneg, decide_true, decide_false, Bool.and_true, Bool.and_self, Bool.not_true, Bool.not_false, hj2, hab] <;> rfl) ?_
    refine dops_end ?_
    refine awp_cond (b := false) (by simp [alook, aput, ev]) (awp_skip ?_)
    refine awp_drawn [0, 0, 0, 3, 4, 0, 2, 0, 0, 0, 2, 0] [0, 0, 3, 7, 0, 16, 63, 0, 0, 384, 1023, 2047] mixed rfl (by kernel_rfl) ?_
    refine dops_run 2 (by simp only [fwA, ↓reduceIte, Nat.reduceAdd, Nat.reduceMul, Nat.reduceEqDiff, Nat.reduceLT, Nat.reduceLeDiff, reduceCtorEq] <;> rfl) ?_
    refine dops_one (.vec ((O.take j).map Pr.enc) false) rfl rfl (fun H A' hev => os_sliceVec (l := 0) (h := j) (es := O.map Pr.enc) (f := false) rfl el27 ((hev _ (by simp [Op.operands])).trans rfl) (fun e he => by obtain ⟨x, _, rfl⟩ := List.mem_map.1 he; rfl) rfl ⟨_, (hev _ (by simp [Op.operands])).trans rfl⟩ trivial (Nat.zero_le _) (by rw [List.length_map]; omega) ⟨congrArg (fun z => PV.vec z false) e1, rfl⟩) ?_
    refine dops_appendNew (xs := ((O.take j).map Pr.enc).flatten) (n := j) rfl rfl (.inr rfl) (Nat.le_refl _) un27 ti60 un27 (.inl ⟨_, rfl⟩) (by decide) rfl (by simp only [fwA, ↓reduceIte, Nat.reduceAdd, Nat.reduceMul, Nat.reduceEqDiff, Nat.reduceLT, Nat.reduceLeDiff, reduceCtorEq] <;> rfl) (fun es f h e he => by
        simp only [fwA, ↓reduceIte, Nat.reduceAdd, Nat.reduceMul, Nat.reduceEqDiff, Nat.reduceLT, Nat.reduceLeDiff, reduceCtorEq, PV.vec.injEq] at h
        obtain ⟨rfl, rfl⟩ := h
        obtain ⟨x, _, rfl⟩ := List.mem_map.1 he
        rfl) (by simp only [fwA, ↓reduceIte, Nat.reduceAdd, Nat.reduceMul, Nat.reduceEqDiff, Nat.reduceLT, Nat.reduceLeDiff, reduceCtorEq, alen, List.length_map, hti]) (by show j * 16 ≤ _; omega) (by omega) ?_
    refine dops_run 2 (by simp only [fwA, ↓reduceIte, Nat.reduceAdd, Nat.reduceMul, Nat.reduceEqDiff, Nat.reduceLT, Nat.reduceLeDiff, reduceCtorEq, un27, ti60] <;> rfl) ?_
    refine dops_appendR (b := H.length + 1) (q := 0) (k := j) (n := 1) (cs := ((O.take j).map Pr.enc).flatten) (xs := [.int .i64 p.a, .int .i64 p.b]) rfl rfl rfl un27 ti60 un27 (.inl ⟨_, rfl⟩) rfl (by simp only [fwA, ↓reduceIte, Nat.reduceAdd, Nat.reduceMul, Nat.reduceEqDiff, Nat.reduceLT, Nat.reduceLeDiff, reduceCtorEq] <;> rfl) (by rw [flat_len Pr.enc_len, hti]; exact (Nat.zero_add _).symm) (by simp only [fwA, ↓reduceIte, Nat.reduceAdd, Nat.reduceMul, Nat.reduceEqDiff, Nat.reduceLT, Nat.reduceLeDiff, reduceCtorEq] <;> rfl) (fun es f h e he => by
        simp only [fwA, ↓reduceIte, Nat.reduceAdd, Nat.reduceMul, Nat.reduceEqDiff, Nat.reduceLT, Nat.reduceLeDiff, reduceCtorEq, PV.vec.injEq] at h
        obtain ⟨rfl, rfl⟩ := h
        simp only [List.mem_singleton] at he
        subst he; rfl) (by simp only [fwA, ↓reduceIte, Nat.reduceAdd, Nat.reduceMul, Nat.reduceEqDiff, Nat.reduceLT, Nat.reduceLeDiff, reduceCtorEq] <;> rfl) (by show (j + 1) * 16 ≤ _; omega) (by omega) ?_
    refine dops_run 2 (by simp only [fwA, ↓reduceIte, Nat.reduceAdd, Nat.reduceMul, Nat.reduceEqDiff, Nat.reduceLT, Nat.reduceLeDiff, reduceCtorEq] <;> rfl) ?_
    refine dops_one (.vec ((O.drop j).map Pr.enc) false) rfl rfl (fun H A' hev => os_sliceVec (l := j) (h := O.length) (es := O.map Pr.enc) (f := false) rfl el27 ((hev _ (by simp [Op.operands])).trans rfl) (fun e he => by obtain ⟨x, _, rfl⟩ := List.mem_map.1 he; rfl) ⟨_, (hev _ (by simp [Op.operands])).trans rfl⟩ (by rw [onOpt, List.length_map]) trivial hj (by rw [List.length_map]; omega) ⟨congrArg (fun z => PV.vec z false) e2, rfl⟩) ?_
    refine dops_appendR (b := H.length + 1) (q := 0) (k := j + 1) (n := O.length - j) (cs := ((O.take j).map Pr.enc).flatten ++ [.int .i64 p.a, .int .i64 p.b]) (xs := ((O.drop j).map Pr.enc).flatten) rfl rfl rfl un27 ti60 un27 (.inl ⟨_, rfl⟩) rfl (by simp only [fwA, ↓reduceIte, Nat.reduceAdd, Nat.reduceMul, Nat.reduceEqDiff, Nat.reduceLT, Nat.reduceLeDiff, reduceCtorEq] <;> rfl) (by rw [List.length_append, flat_len Pr.enc_len, hti]; simp; omega) (by simp only [fwA, ↓reduceIte, Nat.reduceAdd, Nat.reduceMul, Nat.reduceEqDiff, Nat.reduceLT, Nat.reduceLeDiff, reduceCtorEq] <;> rfl) (fun es f h e he => by
        simp only [fwA, ↓reduceIte, Nat.reduceAdd, Nat.reduceMul, Nat.reduceEqDiff, Nat.reduceLT, Nat.reduceLeDiff, reduceCtorEq, PV.vec.injEq] at h
        obtain ⟨rfl, rfl⟩ := h
        obtain ⟨x, _, rfl⟩ := List.mem_map.1 he
        rfl) (by simp only [fwA, ↓reduceIte, Nat.reduceAdd, Nat.reduceMul, Nat.reduceEqDiff, Nat.reduceLT, Nat.reduceLeDiff, reduceCtorEq, alen, List.length_map, htd]) (by show (j + 1 + (O.length - j)) * 16 ≤ _; omega) (by omega) ?_
    refine dops_run 1 (by simp only [fwA, ↓reduceIte, Nat.reduceAdd, Nat.reduceMul, Nat.reduceEqDiff, Nat.reduceLT, Nat.reduceLeDiff, reduceCtorEq] <;> rfl) ?_
    refine dops_end ?_
    have hC : (((O.take j ++ p :: O.drop j).map Pr.enc).flatten) = ((O.take j).map Pr.enc).flatten ++ [.int .i64 p.a, .int .i64 p.b] ++ ((O.drop j).map Pr.enc).flatten := by simp [Pr.enc]
    have hCl : (O.take j ++ p :: O.drop j).length = O.length + 1 := by rw [List.length_append, List.length_cons, hti, htd]; omega
    refine awp_keep (A' := [(0, .vec (ps.map Pr.enc) false), (3, .row (H.length + 1) 0 (O.length + 1) 2), (4, .int .i64 (i : Int))]) [0, 3, 4] (by simp only [fwA, ↓reduceIte, Nat.reduceAdd, Nat.reduceMul, Nat.reduceEqDiff, Nat.reduceLT, Nat.reduceLeDiff, reduceCtorEq, akeep, show j + 1 + (O.length - j) = O.length + 1 by omega] <;> rfl) ?_
    generalize O.take j ++ p :: O.drop j = r at hC hCl hins ⊢
    refine awp_heap (H' := H ++ [.box p.enc, .row 2 ((r.map Pr.enc).flatten)]) (by rw [hC]; simp) ?_
    refine awp_told (told_freezeAt H _ 1 (C := (r.map Pr.enc).flatten) rfl (flatP_bd _ _)) ?_
    have hch := flat_chunk Pr.enc_len r
    have hfl := flat_len Pr.enc_len r
    rw [hCl] at hch hfl
    generalize O.length + 1 = m at hch hfl ⊢
    refine awp_keep (A' := [(0, .vec (ps.map Pr.enc) false), (3, .vec (r.map Pr.enc) false), (4, .int .i64 (i : Int))]) [0, 3, 4] (by simp only [fwA, ↓reduceIte, Nat.reduceAdd, Nat.reduceMul, Nat.reduceEqDiff, Nat.reduceLT, Nat.reduceLeDiff, reduceCtorEq, akeep, hfl, hch] <;> rfl) ?_
    refine awp_run rfl (by simp only [fwA, ↓reduceIte, Nat.reduceAdd, Nat.reduceMul, Nat.reduceEqDiff, Nat.reduceLT, Nat.reduceLeDiff, reduceCtorEq] <;> rfl) ?_
    refine ⟨i + 1, [.box p.enc, .dead], by omega, by omega, ?_, ?_, rfl, by simp⟩
    · rw [hst, hadd, hins]; simp only [fwA, ↓reduceIte, Nat.reduceAdd, Nat.reduceMul, Nat.reduceEqDiff, Nat.reduceLT, Nat.reduceLeDiff, reduceCtorEq, List.map_cons, List.map_nil, hwi]
    · simp [Pr.enc, frz]

end Go.Proofs.YtdacialfjlcboaaGreatDoor
