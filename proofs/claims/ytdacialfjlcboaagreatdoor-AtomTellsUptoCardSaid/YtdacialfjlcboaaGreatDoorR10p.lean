/- The contracts of the document's renaming, variables and points. -/
import Derived.Test.YtdacialfjlcboaaGreatDoorWG
namespace Go.Proofs.YtdacialfjlcboaaGreatDoor
set_option linter.unusedVariables false
set_option linter.unusedSimpArgs false
set_option maxRecDepth 100000
open Go.RowKit Fw

theorem vleF (es : List (List PV)) : PV.le (.vec es true) (.vec es false) := ⟨nofun, PV.leLL_refl es⟩
theorem addI_mem (s x : Int) : ∀ l : List Int, x ∈ addI l s ↔ x = s ∨ x ∈ l
  | [] => by simp [addI]
  | y :: l => by
    unfold addI
    split
    · rw [List.mem_cons, addI_mem s x l, List.mem_cons]; exact or_left_comm
    · split
      · rename_i h
        subst h
        simp only [List.mem_cons]
        constructor
        · exact fun h => .inr h
        · rintro (h | h)
          · exact .inl h
          · exact h
      · simp only [List.mem_cons]
theorem addI_rise (s : Int) : ∀ l : List Int, l.Pairwise (· < ·) → (addI l s).Pairwise (· < ·)
  | [], _ => by simp [addI]
  | y :: l, h => by
    obtain ⟨h1, h2⟩ := List.pairwise_cons.1 h
    unfold addI
    split
    · rename_i hy
      refine List.pairwise_cons.2 ⟨fun x hx => ?_, addI_rise s l h2⟩
      rcases (addI_mem s x l).1 hx with rfl | hx
      · exact hy
      · exact h1 x hx
    · split
      · exact h
      · refine List.pairwise_cons.2 ⟨fun x hx => ?_, h⟩
        rcases List.mem_cons.1 hx with rfl | hx
        · omega
        · have := h1 x hx; omega
theorem addI_len (s : Int) : ∀ l : List Int, (addI l s).length ≤ l.length + 1
  | [] => by simp [addI]
  | y :: l => by
    have := addI_len s l
    unfold addI
    split
    · simp only [List.length_cons]; omega
    · split <;> simp
/-- What a function tells of an atom, added. -/
def step1 (g : Int → Int × Bool) (o : List Int) (a : Int) : List Int := if (g a).2 then addI o (g a).1 else o
def stepD (g : Int → Int × Bool) (o : List Int) (p : Pr) : List Int := step1 g (step1 g o p.a) p.b
def listD (g : Int → Int × Bool) (l : List Pr) : List Int := l.foldl (stepD g) []
theorem step1_len (g : Int → Int × Bool) (o : List Int) (a : Int) : (step1 g o a).length ≤ o.length + 1 := by
  unfold step1
  split
  · exact addI_len _ _
  · omega
theorem step1_rise (g : Int → Int × Bool) (o : List Int) (a : Int) (h : o.Pairwise (· < ·)) : (step1 g o a).Pairwise (· < ·) := by
  unfold step1
  split
  · exact addI_rise _ _ h
  · exact h
theorem step1_mem (g : Int → Int × Bool) (o : List Int) (a x : Int) : x ∈ step1 g o a ↔ x ∈ outs g a ∨ x ∈ o := by
  unfold step1 outs
  split
  · rw [addI_mem, List.mem_singleton]
  · simp
theorem listD_snoc (g : Int → Int × Bool) (l : List Pr) (i : Nat) (p : Pr) (h : l[i]? = some p) : listD g (l.take (i + 1)) = stepD g (listD g (l.take i)) p := by
  unfold listD
  rw [List.take_add_one, h, List.foldl_append]; rfl
theorem foldD_len (g : Int → Int × Bool) : ∀ (l : List Pr) (o : List Int), (l.foldl (stepD g) o).length ≤ o.length + 2 * l.length
  | [], o => by simp
  | p :: l, o => by
    have h1 := foldD_len g l (stepD g o p)
    have h2 := step1_len g o p.a
    have h3 := step1_len g (step1 g o p.a) p.b
    rw [List.foldl_cons, List.length_cons]
    unfold stepD at *
    omega
theorem listD_len (g : Int → Int × Bool) (l : List Pr) : (listD g l).length ≤ 2 * l.length := by have := foldD_len g l []; unfold listD; simpa using this
theorem foldD_rise (g : Int → Int × Bool) : ∀ (l : List Pr) (o : List Int), o.Pairwise (· < ·) → (l.foldl (stepD g) o).Pairwise (· < ·)
  | [], _, h => h
  | p :: l, o, h => foldD_rise g l _ (step1_rise g _ _ (step1_rise g _ _ h))
theorem foldD_mem (g : Int → Int × Bool) (x : Int) : ∀ (l : List Pr) (o : List Int), x ∈ l.foldl (stepD g) o ↔ x ∈ outsP g l ∨ x ∈ o
  | [], o => by simp [outsP]
  | p :: l, o => by
    rw [List.foldl_cons, foldD_mem g x l]
    unfold stepD outsP
    rw [step1_mem, step1_mem, List.flatMap_cons, List.mem_append, List.mem_append]
    constructor
    · rintro (h | h | h | h)
      · exact .inl (.inr h)
      · exact .inl (.inl (.inr h))
      · exact .inl (.inl (.inl h))
      · exact .inr h
    · rintro ((( h | h) | h) | h)
      · exact .inr (.inr (.inl h))
      · exact .inr (.inl h)
      · exact .inl h
      · exact .inr (.inr (.inr h))
/-- The document's list is the program's. -/
theorem listD_gath (g : Int → Int × Bool) (l : List Pr) : gath g l = listD g l := by
  unfold gath
  refine onceI_is (foldD_rise g l [] List.Pairwise.nil) fun x => ?_
  unfold listD
  rw [foldD_mem]; simp

/- chancel/chancelref10.Rename -/
theorem c22 (Γ : Nat → PV) (fr to : List Int) (ps : List Pr) (hl : ps.length ≤ 1000000000) : Gives Tryz.prog Γ 22 [.vec (ps.map Pr.enc) false, .vec (fr.map I1) false, .vec (to.map I1) false] (.vec ((ps.map (Pr.map (renI fr to))).map Pr.enc) false) := by
  refine fn_of_awp Tryz.func22 rfl (by simp [Tryz.f22]) rfl fun H => ?_
  refine awp_bd fun hbd => ?_
  refine awp_seq ?_
  refine awp_run rfl (by simp only [fwA, ↓reduceIte, Nat.reduceAdd, Nat.reduceMul, Nat.reduceEqDiff, Nat.reduceLT, Nat.reduceLeDiff, reduceCtorEq] <;> rfl) ?_
  refine awp_seq ?_
  refine awp_run rfl (by simp only [fwA, ↓reduceIte, Nat.reduceAdd, Nat.reduceMul, Nat.reduceEqDiff, Nat.reduceLT, Nat.reduceLeDiff, reduceCtorEq] <;> rfl) ?_
  refine awp_seq ?_
  refine awp_seq ?_
  refine awp_run rfl (by simp only [fwA, ↓reduceIte, Nat.reduceAdd, Nat.reduceMul, Nat.reduceEqDiff, Nat.reduceLT, Nat.reduceLeDiff, reduceCtorEq] <;> rfl) ?_
  refine awp_told (told_adopt 7 2 (by decide) rfl) ?_
  refine awp_block ?_
  refine awp_for [0, 1, 2, 7, 8] (fun i : Nat => [.vec (ps.map Pr.enc) false, .vec (fr.map I1) false, .vec (to.map I1) false, .row H.length 0 i 2, .int .i64 (i : Int)])
    (fun i => H ++ [.row 2 ((((ps.take i).map (Pr.map (renI fr to)))).map Pr.enc).flatten])
    (fun i => ps.length - i) (fun i => i ≤ ps.length) 0 rfl rfl (Nat.zero_le _) fun i hi => ?_
  have hti : ((ps.take i).map (Pr.map (renI fr to))).length = i := by simp; omega
  refine awp_seq ?_
  refine awp_seq ?_
  refine awp_run rfl (by simp only [fwA, ↓reduceIte, Nat.reduceAdd, Nat.reduceMul, Nat.reduceEqDiff, Nat.reduceLT, Nat.reduceLeDiff, reduceCtorEq, un27, List.length_map] <;> rfl) ?_
  refine awp_cond (by simp only [fwA, ↓reduceIte, Nat.reduceAdd, Nat.reduceMul, Nat.reduceEqDiff, Nat.reduceLT, Nat.reduceLeDiff, reduceCtorEq] <;> rfl) ?_
  by_cases hc : (i : Int) < ps.length
  rotate_left
  · simp only [hc, decide_false, Bool.false_eq_true, ↓reduceIte]
    refine awp_exit ?_
    have hi' : i = ps.length := by omega
    refine awp_told (told_freezeAt H _ 0 (C := (((ps.take i).map (Pr.map (renI fr to))).map Pr.enc).flatten) rfl (flatP_bd _ _)) ?_
    have hl : ((((ps.take i).map (Pr.map (renI fr to))).map Pr.enc).flatten).length = i * 2 := by rw [flatP_len, hti]; omega
    have hch : chunk 2 i ((((ps.take i).map (Pr.map (renI fr to))).map Pr.enc).flatten) = ((ps.take i).map (Pr.map (renI fr to))).map Pr.enc := by
      have := flatP_chunk ((ps.take i).map (Pr.map (renI fr to)))
      rwa [hti] at this
    refine awp_seq (awp_run rfl (by simp only [fwA, ↓reduceIte, Nat.reduceAdd, Nat.reduceMul, Nat.reduceEqDiff, Nat.reduceLT, Nat.reduceLeDiff, reduceCtorEq, hl, hch] <;> rfl) (awp_ret ?_))
    refine gives_end (.inl rfl) _ ?_
    simp only [fwA, ↓reduceIte, Nat.reduceAdd, Nat.reduceMul, Nat.reduceEqDiff, Nat.reduceLT, Nat.reduceLeDiff, reduceCtorEq, ares, aresL, ares1, Tryz.f22, hi', List.take_length]
  simp only [hc, decide_true, ↓reduceIte]
  refine awp_skip ?_
  have hia : i < ps.length := by omega
  have ga : ps[i]? = some ps[i] := List.getElem?_eq_getElem hia
  refine awp_seq ?_
  refine awp_block ?_
  refine awp_drawn [0, 0, 0, 0, 0, 1, 0, 0, 0, 0, 0, 0, 0, 1, 0, 0, 0, 0, 0, 2, 0] [0, 0, 0, 6, 14, 30, 0, 0, 254, 0, 0, 1536, 3584, 7680, 0, 0, 65534, 131070, 262142, 524287, 1048575] mixed rfl (by kernel_rfl) ?_
  refine dops_run 8 (by simp only [fwA, ↓reduceIte, Nat.reduceAdd, Nat.reduceMul, Nat.reduceEqDiff, Nat.reduceLT, Nat.reduceLeDiff, reduceCtorEq, el27, fl60_0, ti3, Pr.fw, List.getElem?_map, ga, Option.map_some, Int.natCast_nonneg] <;> rfl) ?_
  refine dops_fn rfl rfl rfl rfl en49 (c49 Γ fr to _) ?_
  refine dops_run 7 (by simp only [fwA, ↓reduceIte, Nat.reduceAdd, Nat.reduceMul, Nat.reduceEqDiff, Nat.reduceLT, Nat.reduceLeDiff, reduceCtorEq, el27, fl60_1, ti3, Pr.fw, List.getElem?_map, ga, Option.map_some, Int.natCast_nonneg] <;> rfl) ?_
  refine dops_fn rfl rfl rfl rfl en49 (c49 Γ fr to _) ?_
  refine dops_run 2 (by simp only [fwA, ↓reduceIte, Nat.reduceAdd, Nat.reduceMul, Nat.reduceEqDiff, Nat.reduceLT, Nat.reduceLeDiff, reduceCtorEq, ti60, pl60, un27] <;> rfl) ?_
  refine dops_appendR rfl rfl rfl un27 ti60 un27 (.inl ⟨_, rfl⟩) rfl (by simp only [fwA, ↓reduceIte, Nat.reduceAdd, Nat.reduceMul, Nat.reduceEqDiff, Nat.reduceLT, Nat.reduceLeDiff, reduceCtorEq] <;> rfl) (by rw [flat_len (sz := 2) (fun _ => rfl), hti]; exact (Nat.zero_add _).symm) rfl (fun es f h e he => by
      simp only [fwA, ↓reduceIte, Nat.reduceAdd, Nat.reduceMul, Nat.reduceEqDiff, Nat.reduceLT, Nat.reduceLeDiff, reduceCtorEq, PV.vec.injEq] at h
      obtain ⟨rfl, rfl⟩ := h
      simp only [List.mem_singleton] at he
      subst he; rfl) rfl (by show (i + 1) * 16 ≤ _; omega) (by show i + 1 ≤ _; omega) ?_
  refine dops_run 1 (by simp only [fwA, ↓reduceIte, Nat.reduceAdd, Nat.reduceMul, Nat.reduceEqDiff, Nat.reduceLT, Nat.reduceLeDiff, reduceCtorEq] <;> rfl) ?_
  refine dops_end ?_
  refine awp_run rfl (by simp only [fwA, ↓reduceIte, Nat.reduceAdd, Nat.reduceMul, Nat.reduceEqDiff, Nat.reduceLT, Nat.reduceLeDiff, reduceCtorEq] <;> rfl) ?_
  have hmp : ((ps.take (i + 1)).map (Pr.map (renI fr to))) = ((ps.take i).map (Pr.map (renI fr to))) ++ [ps[i].map (renI fr to)] := by rw [List.take_add_one, ga, List.map_append]; rfl
  refine ⟨i + 1, by omega, by omega, by rw [wrapS i (by omega)]; rfl, ?_, rfl⟩
  rw [hmp, List.map_append, List.flatten_append]
  simp [Pr.map, Pr.enc]


/- chancel/chancelref10.Vars -/
theorem c13 (Γ : Nat → PV) (ps : List Pr) (hl : ps.length ≤ 1000000000) : Gives Tryz.prog Γ 13 [.vec (ps.map Pr.enc) false] (.vec ((gath gV ps).map I1) false) := by
  rw [listD_gath]
  refine fn_of_awp Tryz.func13 rfl (by simp [Tryz.f13]) rfl fun H => ?_
  refine awp_seq ?_
  refine awp_run rfl (by simp only [fwA, ↓reduceIte, Nat.reduceAdd, Nat.reduceMul, Nat.reduceEqDiff, Nat.reduceLT, Nat.reduceLeDiff, reduceCtorEq] <;> rfl) ?_
  refine awp_seq ?_
  refine awp_run rfl (by simp only [fwA, ↓reduceIte, Nat.reduceAdd, Nat.reduceMul, Nat.reduceEqDiff, Nat.reduceLT, Nat.reduceLeDiff, reduceCtorEq] <;> rfl) ?_
  refine awp_seq ?_
  refine awp_seq ?_
  refine awp_run rfl (by simp only [fwA, ↓reduceIte, Nat.reduceAdd, Nat.reduceMul, Nat.reduceEqDiff, Nat.reduceLT, Nat.reduceLeDiff, reduceCtorEq] <;> rfl) ?_
  refine awp_told (told_le 3 (.vec [] false) (vleF [])) ?_
  refine awp_block ?_
  refine awp_for [0, 3, 4] (fun i : Nat => [.vec (ps.map Pr.enc) false, .vec ((listD gV (ps.take i)).map I1) false, .int .i64 (i : Int)]) (fun _ => H) (fun i => ps.length - i) (fun i => i ≤ ps.length) 0 rfl rfl (Nat.zero_le _) fun i hi => ?_
  refine awp_seq ?_
  refine awp_seq ?_
  refine awp_run rfl (by simp only [fwA, ↓reduceIte, Nat.reduceAdd, Nat.reduceMul, Nat.reduceEqDiff, Nat.reduceLT, Nat.reduceLeDiff, reduceCtorEq, Pr.fw, I1_fw, un27, ti60, pl60, ti3, el27, fl60_0, fl60_1, List.length_map, List.getElem?_map, Option.map_some, Int.natCast_nonneg] <;> rfl) ?_
  refine awp_cond (by simp only [fwA, ↓reduceIte, Nat.reduceAdd, Nat.reduceMul, Nat.reduceEqDiff, Nat.reduceLT, Nat.reduceLeDiff, reduceCtorEq] <;> rfl) ?_
  by_cases hc : (i : Int) < ps.length
  rotate_left
  · simp only [hc, decide_false, Bool.false_eq_true, ↓reduceIte]
    refine awp_exit ?_
    have e : i = ps.length := by omega
    subst e
    rw [List.take_length]
    refine awp_seq (awp_run rfl (by simp only [fwA, ↓reduceIte, Nat.reduceAdd, Nat.reduceMul, Nat.reduceEqDiff, Nat.reduceLT, Nat.reduceLeDiff, reduceCtorEq] <;> rfl) (awp_ret ?_))
    exact gives_end0 (.inl rfl) rfl
  simp only [hc, decide_true, ↓reduceIte]
  refine awp_skip ?_
  have hil : i < ps.length := by omega
  have ga : ps[i]? = some ps[i] := List.getElem?_eq_getElem hil
  have hst := listD_snoc gV ps i _ ga
  have hlen := listD_len gV (ps.take i)
  rw [List.length_take] at hlen
  generalize ps[i] = p at ga hst 
  generalize hO : listD gV (ps.take i) = O at *
  have hwi : IntKind.i64.wrap ((i : Int) + 1) = ((i + 1 : Nat) : Int) := wrapS i (by omega)
  have h1 := step1_len gV O p.a
  refine awp_seq ?_
  refine awp_block ?_
  refine awp_seq ?_
  refine awp_seq ?_
  refine awp_run rfl (by simp only [fwA, ↓reduceIte, Nat.reduceAdd, Nat.reduceMul, Nat.reduceEqDiff, Nat.reduceLT, Nat.reduceLeDiff, reduceCtorEq, Pr.fw, I1_fw, un27, ti60, pl60, ti3, el27, fl60_0, fl60_1, List.length_map, List.getElem?_map, Option.map_some, Int.natCast_nonneg, ga] <;> rfl) ?_
  refine awp_cond (by simp only [fwA, ↓reduceIte, Nat.reduceAdd, Nat.reduceMul, Nat.reduceEqDiff, Nat.reduceLT, Nat.reduceLeDiff, reduceCtorEq] <;> rfl) ?_
  by_cases ha : 0 ≤ p.a
  · have e1 : step1 gV O p.a = addI O (p.a) := by unfold step1; rw [if_pos (by simp [gV, ha])]; rfl
    rw [e1] at h1
    simp only [ha, decide_true, ↓reduceIte]
    refine awp_region rfl ?_
    refine aops_run 6 (by simp only [fwA, ↓reduceIte, Nat.reduceAdd, Nat.reduceMul, Nat.reduceEqDiff, Nat.reduceLT, Nat.reduceLeDiff, reduceCtorEq, Pr.fw, I1_fw, un27, ti60, pl60, ti3, el27, fl60_0, fl60_1, List.length_map, List.getElem?_map, Option.map_some, Int.natCast_nonneg, ga] <;> rfl) ?_
    refine aops_fn rfl rfl rfl en35 (c35 Γ O _ (by omega)) ?_
    refine aops_run 1 (by simp only [fwA, ↓reduceIte, Nat.reduceAdd, Nat.reduceMul, Nat.reduceEqDiff, Nat.reduceLT, Nat.reduceLeDiff, reduceCtorEq] <;> rfl) ?_
    refine aops_end ?_
    refine awp_seq ?_
    refine awp_run rfl (by simp only [fwA, ↓reduceIte, Nat.reduceAdd, Nat.reduceMul, Nat.reduceEqDiff, Nat.reduceLT, Nat.reduceLeDiff, reduceCtorEq, Pr.fw, I1_fw, un27, ti60, pl60, ti3, el27, fl60_0, fl60_1, List.length_map, List.getElem?_map, Option.map_some, Int.natCast_nonneg, ga] <;> rfl) ?_
    refine awp_cond (by simp only [fwA, ↓reduceIte, Nat.reduceAdd, Nat.reduceMul, Nat.reduceEqDiff, Nat.reduceLT, Nat.reduceLeDiff, reduceCtorEq] <;> rfl) ?_
    by_cases hb : 0 ≤ p.b
    · have e2 : step1 gV (addI O (p.a)) p.b = addI (addI O (p.a)) (p.b) := by unfold step1; rw [if_pos (by simp [gV, hb])]; rfl
      simp only [hb, decide_true, ↓reduceIte]
      refine awp_region rfl ?_
      refine aops_run 6 (by simp only [fwA, ↓reduceIte, Nat.reduceAdd, Nat.reduceMul, Nat.reduceEqDiff, Nat.reduceLT, Nat.reduceLeDiff, reduceCtorEq, Pr.fw, I1_fw, un27, ti60, pl60, ti3, el27, fl60_0, fl60_1, List.length_map, List.getElem?_map, Option.map_some, Int.natCast_nonneg, ga] <;> rfl) ?_
      refine aops_fn rfl rfl rfl en35 (c35 Γ (addI O (p.a)) _ (by omega)) ?_
      refine aops_run 1 (by simp only [fwA, ↓reduceIte, Nat.reduceAdd, Nat.reduceMul, Nat.reduceEqDiff, Nat.reduceLT, Nat.reduceLeDiff, reduceCtorEq] <;> rfl) ?_
      refine aops_end ?_
      refine awp_run rfl (by simp only [fwA, ↓reduceIte, Nat.reduceAdd, Nat.reduceMul, Nat.reduceEqDiff, Nat.reduceLT, Nat.reduceLeDiff, reduceCtorEq] <;> rfl) ?_
      refine ⟨i + 1, by omega, by omega, ?_, rfl, rfl⟩
      rw [hst]; unfold stepD; rw [e1, e2]; simp only [fwA, ↓reduceIte, Nat.reduceAdd, Nat.reduceMul, Nat.reduceEqDiff, Nat.reduceLT, Nat.reduceLeDiff, reduceCtorEq, List.map_cons, List.map_nil, hwi]
    · have e2 : step1 gV (addI O (p.a)) p.b = addI O (p.a) := by unfold step1; rw [if_neg (by simp [gV, hb])]
      simp only [hb, decide_false, Bool.false_eq_true, ↓reduceIte]
      refine awp_skip ?_
      refine awp_run rfl (by simp only [fwA, ↓reduceIte, Nat.reduceAdd, Nat.reduceMul, Nat.reduceEqDiff, Nat.reduceLT, Nat.reduceLeDiff, reduceCtorEq] <;> rfl) ?_
      refine ⟨i + 1, by omega, by omega, ?_, rfl, rfl⟩
      rw [hst]; unfold stepD; rw [e1, e2]; simp only [fwA, ↓reduceIte, Nat.reduceAdd, Nat.reduceMul, Nat.reduceEqDiff, Nat.reduceLT, Nat.reduceLeDiff, reduceCtorEq, List.map_cons, List.map_nil, hwi]
  · have e1 : step1 gV O p.a = O := by unfold step1; rw [if_neg (by simp [gV, ha])]
    simp only [ha, decide_false, Bool.false_eq_true, ↓reduceIte]
    refine awp_skip ?_
    refine awp_seq ?_
    refine awp_run rfl (by simp only [fwA, ↓reduceIte, Nat.reduceAdd, Nat.reduceMul, Nat.reduceEqDiff, Nat.reduceLT, Nat.reduceLeDiff, reduceCtorEq, Pr.fw, I1_fw, un27, ti60, pl60, ti3, el27, fl60_0, fl60_1, List.length_map, List.getElem?_map, Option.map_some, Int.natCast_nonneg, ga] <;> rfl) ?_
    refine awp_cond (by simp only [fwA, ↓reduceIte, Nat.reduceAdd, Nat.reduceMul, Nat.reduceEqDiff, Nat.reduceLT, Nat.reduceLeDiff, reduceCtorEq] <;> rfl) ?_
    by_cases hb : 0 ≤ p.b
    · have e2 : step1 gV (O) p.b = addI (O) (p.b) := by unfold step1; rw [if_pos (by simp [gV, hb])]; rfl
      simp only [hb, decide_true, ↓reduceIte]
      refine awp_region rfl ?_
      refine aops_run 6 (by simp only [fwA, ↓reduceIte, Nat.reduceAdd, Nat.reduceMul, Nat.reduceEqDiff, Nat.reduceLT, Nat.reduceLeDiff, reduceCtorEq, Pr.fw, I1_fw, un27, ti60, pl60, ti3, el27, fl60_0, fl60_1, List.length_map, List.getElem?_map, Option.map_some, Int.natCast_nonneg, ga] <;> rfl) ?_
      refine aops_fn rfl rfl rfl en35 (c35 Γ (O) _ (by omega)) ?_
      refine aops_run 1 (by simp only [fwA, ↓reduceIte, Nat.reduceAdd, Nat.reduceMul, Nat.reduceEqDiff, Nat.reduceLT, Nat.reduceLeDiff, reduceCtorEq] <;> rfl) ?_
      refine aops_end ?_
      refine awp_run rfl (by simp only [fwA, ↓reduceIte, Nat.reduceAdd, Nat.reduceMul, Nat.reduceEqDiff, Nat.reduceLT, Nat.reduceLeDiff, reduceCtorEq] <;> rfl) ?_
      refine ⟨i + 1, by omega, by omega, ?_, rfl, rfl⟩
      rw [hst]; unfold stepD; rw [e1, e2]; simp only [fwA, ↓reduceIte, Nat.reduceAdd, Nat.reduceMul, Nat.reduceEqDiff, Nat.reduceLT, Nat.reduceLeDiff, reduceCtorEq, List.map_cons, List.map_nil, hwi]
    · have e2 : step1 gV (O) p.b = O := by unfold step1; rw [if_neg (by simp [gV, hb])]
      simp only [hb, decide_false, Bool.false_eq_true, ↓reduceIte]
      refine awp_skip ?_
      refine awp_run rfl (by simp only [fwA, ↓reduceIte, Nat.reduceAdd, Nat.reduceMul, Nat.reduceEqDiff, Nat.reduceLT, Nat.reduceLeDiff, reduceCtorEq] <;> rfl) ?_
      refine ⟨i + 1, by omega, by omega, ?_, rfl, rfl⟩
      rw [hst]; unfold stepD; rw [e1, e2]; simp only [fwA, ↓reduceIte, Nat.reduceAdd, Nat.reduceMul, Nat.reduceEqDiff, Nat.reduceLT, Nat.reduceLeDiff, reduceCtorEq, List.map_cons, List.map_nil, hwi]

/- chancel/chancelref10.Points -/
theorem c15 (Γ : Nat → PV) (ps : List Pr) (hl : ps.length ≤ 1000000000) (ho : OkP ps) : Gives Tryz.prog Γ 15 [.vec (ps.map Pr.enc) false] (.vec ((gath gP ps).map I1) false) := by
  rw [listD_gath]
  refine fn_of_awp Tryz.func15 rfl (by simp [Tryz.f15]) rfl fun H => ?_
  refine awp_seq ?_
  refine awp_run rfl (by simp only [fwA, ↓reduceIte, Nat.reduceAdd, Nat.reduceMul, Nat.reduceEqDiff, Nat.reduceLT, Nat.reduceLeDiff, reduceCtorEq] <;> rfl) ?_
  refine awp_seq ?_
  refine awp_run rfl (by simp only [fwA, ↓reduceIte, Nat.reduceAdd, Nat.reduceMul, Nat.reduceEqDiff, Nat.reduceLT, Nat.reduceLeDiff, reduceCtorEq] <;> rfl) ?_
  refine awp_seq ?_
  refine awp_seq ?_
  refine awp_run rfl (by simp only [fwA, ↓reduceIte, Nat.reduceAdd, Nat.reduceMul, Nat.reduceEqDiff, Nat.reduceLT, Nat.reduceLeDiff, reduceCtorEq] <;> rfl) ?_
  refine awp_told (told_le 3 (.vec [] false) (vleF [])) ?_
  refine awp_block ?_
  refine awp_for [0, 3, 4] (fun i : Nat => [.vec (ps.map Pr.enc) false, .vec ((listD gP (ps.take i)).map I1) false, .int .i64 (i : Int)]) (fun _ => H) (fun i => ps.length - i) (fun i => i ≤ ps.length) 0 rfl rfl (Nat.zero_le _) fun i hi => ?_
  refine awp_seq ?_
  refine awp_seq ?_
  refine awp_run rfl (by simp only [fwA, ↓reduceIte, Nat.reduceAdd, Nat.reduceMul, Nat.reduceEqDiff, Nat.reduceLT, Nat.reduceLeDiff, reduceCtorEq, Pr.fw, I1_fw, un27, ti60, pl60, ti3, el27, fl60_0, fl60_1, List.length_map, List.getElem?_map, Option.map_some, Int.natCast_nonneg] <;> rfl) ?_
  refine awp_cond (by simp only [fwA, ↓reduceIte, Nat.reduceAdd, Nat.reduceMul, Nat.reduceEqDiff, Nat.reduceLT, Nat.reduceLeDiff, reduceCtorEq] <;> rfl) ?_
  by_cases hc : (i : Int) < ps.length
  rotate_left
  · simp only [hc, decide_false, Bool.false_eq_true, ↓reduceIte]
    refine awp_exit ?_
    have e : i = ps.length := by omega
    subst e
    rw [List.take_length]
    refine awp_seq (awp_run rfl (by simp only [fwA, ↓reduceIte, Nat.reduceAdd, Nat.reduceMul, Nat.reduceEqDiff, Nat.reduceLT, Nat.reduceLeDiff, reduceCtorEq] <;> rfl) (awp_ret ?_))
    exact gives_end0 (.inl rfl) rfl
  simp only [hc, decide_true, ↓reduceIte]
  refine awp_skip ?_
  have hil : i < ps.length := by omega
  have ga : ps[i]? = some ps[i] := List.getElem?_eq_getElem hil
  have hst := listD_snoc gP ps i _ ga
  have hlen := listD_len gP (ps.take i)
  rw [List.length_take] at hlen
  have hpo := ho ps[i] (List.getElem_mem hil)
  generalize ps[i] = p at ga hst hpo
  generalize hO : listD gP (ps.take i) = O at *
  have hwi : IntKind.i64.wrap ((i : Int) + 1) = ((i + 1 : Nat) : Int) := wrapS i (by omega)
  have h1 := step1_len gP O p.a
  refine awp_seq ?_
  refine awp_block ?_
  refine awp_seq ?_
  refine awp_seq ?_
  refine awp_run rfl (by simp only [fwA, ↓reduceIte, Nat.reduceAdd, Nat.reduceMul, Nat.reduceEqDiff, Nat.reduceLT, Nat.reduceLeDiff, reduceCtorEq, Pr.fw, I1_fw, un27, ti60, pl60, ti3, el27, fl60_0, fl60_1, List.length_map, List.getElem?_map, Option.map_some, Int.natCast_nonneg, ga] <;> rfl) ?_
  refine awp_cond (by simp only [fwA, ↓reduceIte, Nat.reduceAdd, Nat.reduceMul, Nat.reduceEqDiff, Nat.reduceLT, Nat.reduceLeDiff, reduceCtorEq] <;> rfl) ?_
  by_cases ha : p.a < 0
  · have e1 : step1 gP O p.a = addI O (pointOf p.a) := by unfold step1; rw [if_pos (by simp [gP, ha])]; rfl
    rw [e1] at h1
    simp only [ha, decide_true, ↓reduceIte]
    refine awp_region rfl ?_
    refine aops_run 6 (by simp only [fwA, ↓reduceIte, Nat.reduceAdd, Nat.reduceMul, Nat.reduceEqDiff, Nat.reduceLT, Nat.reduceLeDiff, reduceCtorEq, Pr.fw, I1_fw, un27, ti60, pl60, ti3, el27, fl60_0, fl60_1, List.length_map, List.getElem?_map, Option.map_some, Int.natCast_nonneg, ga] <;> rfl) ?_
    refine aops_fn rfl rfl rfl en26 (c26 Γ p.a hpo.1) ?_
    refine aops_fn rfl rfl rfl en35 (c35 Γ O _ (by omega)) ?_
    refine aops_run 1 (by simp only [fwA, ↓reduceIte, Nat.reduceAdd, Nat.reduceMul, Nat.reduceEqDiff, Nat.reduceLT, Nat.reduceLeDiff, reduceCtorEq] <;> rfl) ?_
    refine aops_end ?_
    refine awp_seq ?_
    refine awp_run rfl (by simp only [fwA, ↓reduceIte, Nat.reduceAdd, Nat.reduceMul, Nat.reduceEqDiff, Nat.reduceLT, Nat.reduceLeDiff, reduceCtorEq, Pr.fw, I1_fw, un27, ti60, pl60, ti3, el27, fl60_0, fl60_1, List.length_map, List.getElem?_map, Option.map_some, Int.natCast_nonneg, ga] <;> rfl) ?_
    refine awp_cond (by simp only [fwA, ↓reduceIte, Nat.reduceAdd, Nat.reduceMul, Nat.reduceEqDiff, Nat.reduceLT, Nat.reduceLeDiff, reduceCtorEq] <;> rfl) ?_
    by_cases hb : p.b < 0
    · have e2 : step1 gP (addI O (pointOf p.a)) p.b = addI (addI O (pointOf p.a)) (pointOf p.b) := by unfold step1; rw [if_pos (by simp [gP, hb])]; rfl
      simp only [hb, decide_true, ↓reduceIte]
      refine awp_region rfl ?_
      refine aops_run 6 (by simp only [fwA, ↓reduceIte, Nat.reduceAdd, Nat.reduceMul, Nat.reduceEqDiff, Nat.reduceLT, Nat.reduceLeDiff, reduceCtorEq, Pr.fw, I1_fw, un27, ti60, pl60, ti3, el27, fl60_0, fl60_1, List.length_map, List.getElem?_map, Option.map_some, Int.natCast_nonneg, ga] <;> rfl) ?_
      refine aops_fn rfl rfl rfl en26 (c26 Γ p.b hpo.2) ?_
      refine aops_fn rfl rfl rfl en35 (c35 Γ (addI O (pointOf p.a)) _ (by omega)) ?_
      refine aops_run 1 (by simp only [fwA, ↓reduceIte, Nat.reduceAdd, Nat.reduceMul, Nat.reduceEqDiff, Nat.reduceLT, Nat.reduceLeDiff, reduceCtorEq] <;> rfl) ?_
      refine aops_end ?_
      refine awp_run rfl (by simp only [fwA, ↓reduceIte, Nat.reduceAdd, Nat.reduceMul, Nat.reduceEqDiff, Nat.reduceLT, Nat.reduceLeDiff, reduceCtorEq] <;> rfl) ?_
      refine ⟨i + 1, by omega, by omega, ?_, rfl, rfl⟩
      rw [hst]; unfold stepD; rw [e1, e2]; simp only [fwA, ↓reduceIte, Nat.reduceAdd, Nat.reduceMul, Nat.reduceEqDiff, Nat.reduceLT, Nat.reduceLeDiff, reduceCtorEq, List.map_cons, List.map_nil, hwi]
    · have e2 : step1 gP (addI O (pointOf p.a)) p.b = addI O (pointOf p.a) := by unfold step1; rw [if_neg (by simp [gP, hb])]
      simp only [hb, decide_false, Bool.false_eq_true, ↓reduceIte]
      refine awp_skip ?_
      refine awp_run rfl (by simp only [fwA, ↓reduceIte, Nat.reduceAdd, Nat.reduceMul, Nat.reduceEqDiff, Nat.reduceLT, Nat.reduceLeDiff, reduceCtorEq] <;> rfl) ?_
      refine ⟨i + 1, by omega, by omega, ?_, rfl, rfl⟩
      rw [hst]; unfold stepD; rw [e1, e2]; simp only [fwA, ↓reduceIte, Nat.reduceAdd, Nat.reduceMul, Nat.reduceEqDiff, Nat.reduceLT, Nat.reduceLeDiff, reduceCtorEq, List.map_cons, List.map_nil, hwi]
  · have e1 : step1 gP O p.a = O := by unfold step1; rw [if_neg (by simp [gP, ha])]
    simp only [ha, decide_false, Bool.false_eq_true, ↓reduceIte]
    refine awp_skip ?_
    refine awp_seq ?_
    refine awp_run rfl (by simp only [fwA, ↓reduceIte, Nat.reduceAdd, Nat.reduceMul, Nat.reduceEqDiff, Nat.reduceLT, Nat.reduceLeDiff, reduceCtorEq, Pr.fw, I1_fw, un27, ti60, pl60, ti3, el27, fl60_0, fl60_1, List.length_map, List.getElem?_map, Option.map_some, Int.natCast_nonneg, ga] <;> rfl) ?_
    refine awp_cond (by simp only [fwA, ↓reduceIte, Nat.reduceAdd, Nat.reduceMul, Nat.reduceEqDiff, Nat.reduceLT, Nat.reduceLeDiff, reduceCtorEq] <;> rfl) ?_
    by_cases hb : p.b < 0
    · have e2 : step1 gP (O) p.b = addI (O) (pointOf p.b) := by unfold step1; rw [if_pos (by simp [gP, hb])]; rfl
      simp only [hb, decide_true, ↓reduceIte]
      refine awp_region rfl ?_
      refine aops_run 6 (by simp only [fwA, ↓reduceIte, Nat.reduceAdd, Nat.reduceMul, Nat.reduceEqDiff, Nat.reduceLT, Nat.reduceLeDiff, reduceCtorEq, Pr.fw, I1_fw, un27, ti60, pl60, ti3, el27, fl60_0, fl60_1, List.length_map, List.getElem?_map, Option.map_some, Int.natCast_nonneg, ga] <;> rfl) ?_
      refine aops_fn rfl rfl rfl en26 (c26 Γ p.b hpo.2) ?_
      refine aops_fn rfl rfl rfl en35 (c35 Γ (O) _ (by omega)) ?_
      refine aops_run 1 (by simp only [fwA, ↓reduceIte, Nat.reduceAdd, Nat.reduceMul, Nat.reduceEqDiff, Nat.reduceLT, Nat.reduceLeDiff, reduceCtorEq] <;> rfl) ?_
      refine aops_end ?_
      refine awp_run rfl (by simp only [fwA, ↓reduceIte, Nat.reduceAdd, Nat.reduceMul, Nat.reduceEqDiff, Nat.reduceLT, Nat.reduceLeDiff, reduceCtorEq] <;> rfl) ?_
      refine ⟨i + 1, by omega, by omega, ?_, rfl, rfl⟩
      rw [hst]; unfold stepD; rw [e1, e2]; simp only [fwA, ↓reduceIte, Nat.reduceAdd, Nat.reduceMul, Nat.reduceEqDiff, Nat.reduceLT, Nat.reduceLeDiff, reduceCtorEq, List.map_cons, List.map_nil, hwi]
    · have e2 : step1 gP (O) p.b = O := by unfold step1; rw [if_neg (by simp [gP, hb])]
      simp only [hb, decide_false, Bool.false_eq_true, ↓reduceIte]
      refine awp_skip ?_
      refine awp_run rfl (by simp only [fwA, ↓reduceIte, Nat.reduceAdd, Nat.reduceMul, Nat.reduceEqDiff, Nat.reduceLT, Nat.reduceLeDiff, reduceCtorEq] <;> rfl) ?_
      refine ⟨i + 1, by omega, by omega, ?_, rfl, rfl⟩
      rw [hst]; unfold stepD; rw [e1, e2]; simp only [fwA, ↓reduceIte, Nat.reduceAdd, Nat.reduceMul, Nat.reduceEqDiff, Nat.reduceLT, Nat.reduceLeDiff, reduceCtorEq, List.map_cons, List.map_nil, hwi]

end Go.Proofs.YtdacialfjlcboaaGreatDoor
