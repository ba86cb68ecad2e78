/- Plain laws of what is printed and parsed. -/
import Derived.Test.YtdhlghhokbmhdaaDoorT01c
namespace Go.Proofs.YtdhlghhokbmhdaaDoor
set_option linter.unusedVariables false
set_option linter.unusedSimpArgs false
set_option maxRecDepth 100000
open Go.RowKit Fw

theorem splitL_app {c : UInt8} : ∀ {a : List UInt8} (b : List UInt8), (∀ x ∈ a, x ≠ c) → splitL c (a ++ c :: b) = a :: splitL c b
  | [], b, _ => by simp [splitL]
  | x :: a, b, h => by
    have hx := h x (by simp)
    have ih := splitL_app (a := a) b (fun y hy => h y (by simp [hy]))
    have e : splitL c (x :: (a ++ c :: b)) = if x = c then [] :: splitL c (a ++ c :: b) else (x :: (splitL c (a ++ c :: b)).headD []) :: (splitL c (a ++ c :: b)).tail := rfl
    rw [List.cons_append, e, if_neg hx, ih]; rfl
theorem splitL_whole {c : UInt8} {a : List UInt8} (h : ∀ x ∈ a, x ≠ c) : splitL c a = [a] :=
  splitL_none fun j e => h c (List.mem_of_getElem? e) rfl
theorem join_splitL (c : UInt8) : ∀ l : List UInt8, Lib.join (splitL c l) [c] = l
  | [] => Lib.join_one ..
  | b :: l => by
    have ih := join_splitL c l
    obtain ⟨t, ts, e⟩ := List.exists_cons_of_ne_nil (splitL_ne c l)
    unfold splitL
    rw [e] at ih ⊢
    split
    · rename_i h; subst h; rw [join_cons2, ih]; rfl
    · show Lib.join ((b :: t) :: ts) [c] = b :: l
      cases ts with
      | nil => rw [Lib.join_one] at ih ⊢; rw [ih]
      | cons u us => rw [join_cons2] at ih ⊢; rw [← ih]; rfl
theorem split_join {c : UInt8} : ∀ ts : List (List UInt8), ts ≠ [] → (∀ t ∈ ts, ∀ x ∈ t, x ≠ c) → splitL c (Lib.join ts [c]) = ts
  | [], h, _ => absurd rfl h
  | [t], _, h => by rw [Lib.join_one, splitL_whole (h t (by simp))]
  | t :: u :: ts, _, h => by
    rw [join_cons2, List.append_assoc, List.singleton_append, splitL_app _ (h t (by simp)), split_join (u :: ts) (by simp) fun x hx => h x (by simp [hx])]
theorem mem_join {c x : UInt8} : ∀ {ts : List (List UInt8)}, x ∈ Lib.join ts [c] → x = c ∨ ∃ t ∈ ts, x ∈ t
  | [], h => by simp [Lib.join, List.intercalate] at h
  | [t], h => by rw [Lib.join_one] at h; exact .inr ⟨t, by simp, h⟩
  | t :: u :: ts, h => by
    rw [join_cons2] at h
    simp only [List.mem_append, List.mem_singleton] at h
    rcases h with (h | h) | h
    · exact .inr ⟨t, by simp, h⟩
    · exact .inl h
    · rcases mem_join h with h | ⟨s, hs, h⟩
      · exact .inl h
      · exact .inr ⟨s, by simp [hs], h⟩
theorem bitC_ge (x b : Nat) : bitC x b = 48 ∨ bitC x b = 49 := by unfold bitC; split <;> simp
theorem bitsT_mem {x n : Nat} {c : UInt8} (h : c ∈ bitsT x n) : c = 48 ∨ c = 49 := by
  unfold bitsT at h
  obtain ⟨j, _, rfl⟩ := List.mem_map.1 h
  exact bitC_ge x j
theorem split_rows (n : Nat) : ∀ l : List Nat, splitL 10 ((l.map (rowT n)).flatten) = l.map (fun x => bitsT x n) ++ [[]]
  | [] => rfl
  | x :: l => by
    rw [List.map_cons, List.flatten_cons]
    unfold rowT
    rw [List.append_assoc, List.singleton_append, splitL_app _ (fun y hy => by rcases bitsT_mem hy with rfl | rfl <;> decide)]
    have := split_rows n l
    unfold rowT at this
    rw [this]; rfl
theorem name_ge {s : List UInt8} (h : nameB s = true) : ∀ x ∈ s, 48 ≤ x.toNat := fun x hx => by
  unfold nameB chsB at h
  simp only [Bool.and_eq_true, List.all_eq_true, List.mem_range] at h
  obtain ⟨j, hj⟩ := List.getElem?_of_mem hx
  have := h.2 j (List.getElem?_eq_some_iff.1 hj).1
  rw [getD_at hj] at this
  unfold chB letB digB at this
  simp only [Bool.or_eq_true, Bool.and_eq_true, decide_eq_true_eq] at this
  omega
theorem names_ge {ns : List (List UInt8)} (h : namedB ns = true) : ∀ t ∈ ns, ∀ x ∈ t, 48 ≤ x.toNat := fun t ht => by
  obtain ⟨j, hj⟩ := List.getElem?_of_mem ht
  exact name_ge (named_spec h hj).1
theorem binB_of {c : UInt8} (h : c = 48 ∨ c = 49) : binB c = true := by rcases h with rfl | rfl <;> decide
theorem bitsT_get {x n j : Nat} (h : j < n) : (bitsT x n).getD j 0 = bitC x j := by
  rw [List.getD_eq_getElem?_getD]; simp [bitsT, h]
theorem bitsT_bins (x n : Nat) : binsB (bitsT x n) n = true := by
  unfold binsB
  simp only [List.all_eq_true, List.mem_range]
  intro j hj
  rw [bitsT_get hj]
  exact binB_of (bitC_ge x j)
theorem rowX_bitsT {x n : Nat} (hn : n ≤ 64) (hx : x < 2 ^ n) : rowX (bitsT x n) n = x := by
  refine Nat.eq_of_testBit_eq fun j => ?_
  rw [rowX_bit (bitsT_bins x n) hn]
  by_cases hj : j < n
  · rw [decide_eq_true hj, Bool.true_and, bitsT_get hj]
    unfold bitC
    cases x.testBit j <;> rfl
  · rw [decide_eq_false hj, Bool.false_and, Nat.testBit_lt_two_pow (Nat.lt_of_lt_of_le hx (Nat.pow_le_pow_right (by decide) (by omega)))]
theorem bitsT_rowX {s : List UInt8} {n : Nat} (hn : n ≤ 64) (h : rowOk n s = true) : bitsT (rowX s s.length) n = s := by
  unfold rowOk at h
  rw [Bool.and_eq_true, decide_eq_true_eq] at h
  obtain ⟨h1, h2⟩ := h
  refine List.ext_getElem? fun j => ?_
  by_cases hj : j < n
  · have hb : (rowX s s.length).testBit j = decide ((s.getD j 0).toNat = 49) := by rw [rowX_bit h1 (by omega), decide_eq_true (by omega), Bool.true_and]
    have hs : s[j]? = some s[j] := List.getElem?_eq_getElem (by omega)
    have h3 := h1
    unfold binsB at h3
    simp only [List.all_eq_true, List.mem_range] at h3
    have h4 := bin_cases (h3 j (by omega))
    rw [getD_at hs] at hb h4
    rw [hs]
    generalize s[j] = c at *
    have : (bitsT (rowX s s.length) n)[j]? = some (bitC (rowX s s.length) j) := by simp [bitsT, hj]
    rw [this]
    unfold bitC
    rw [hb]
    rcases h4 with h | h
    · rw [h, decide_eq_false (by decide), if_neg (by decide)]
      congr 1; exact UInt8.toNat_inj.1 (by rw [h]; rfl)
    · rw [h, decide_eq_true rfl, if_pos rfl]
      congr 1; exact UInt8.toNat_inj.1 (by rw [h]; rfl)
  · rw [List.getElem?_eq_none (by rw [bitsT_len]; omega), List.getElem?_eq_none (by omega)]
theorem join_lines (a : List UInt8) : ∀ b : List (List UInt8), Lib.join (a :: (b ++ [[]])) [10] = a ++ [10] ++ (b.map (· ++ [10])).flatten
  | [] => by rw [List.nil_append, join_cons2, Lib.join_one]; simp
  | x :: b => by
    have := join_lines x b
    rw [List.cons_append, join_cons2, this]; simp
/-- What is printed is parsed as it was. -/
theorem parse_print {ns : List (List UInt8)} {us : List Nat} (hR : rightB ns us = true) : parseL (printL ns us) = (ns, us, 0) := by
  obtain ⟨r1, r2, r3, r4, r5⟩ := right_spec hR
  have hp := r5.pos
  have hne : ns ≠ [] := fun e => by
    have : ns.length = 0 := by rw [e]; rfl
    omega
  have hge := names_ge r3
  have hl : linesL (printL ns us) = Lib.join ns [32] :: (us.map (fun x => bitsT x us.length) ++ [[]]) := by
    unfold linesL printL
    rw [if_pos hR, List.append_assoc, List.singleton_append, splitL_app _ (fun x hx => ?_), split_rows]
    rintro rfl
    rcases mem_join hx with h | ⟨t, ht, h⟩
    · revert h; decide
    · have := hge t ht 10 h; revert this; decide
  have hn : namesL (printL ns us) = ns := by
    unfold namesL
    rw [hl]
    exact split_join ns hne fun t ht x hx e => by have := hge t ht x hx; rw [e] at this; revert this; decide
  have hb : bodyL (printL ns us) = us.map (fun x => bitsT x us.length) := by
    unfold bodyL
    rw [hl, hn, List.drop_succ_cons, List.drop_zero]
    exact List.take_left' (by rw [List.length_map, r2])
  have hu : upsL (printL ns us) = us := by
    unfold upsL
    rw [hb, List.map_map]
    conv => rhs; rw [← List.map_id us]
    refine List.map_congr_left fun x hx => ?_
    show rowX (bitsT x us.length) (bitsT x us.length).length = x
    rw [bitsT_len]
    exact rowX_bitsT (by omega) (r4 x hx)
  have hh : headB (printL ns us) = true := by
    unfold headB
    rw [hn, hl, r3, Bool.true_and, Bool.and_eq_true, decide_eq_true_eq, decide_eq_true_eq]
    refine ⟨by simp [r2], ?_⟩
    rw [List.getD_cons_succ, List.getD_eq_getElem?_getD, List.getElem?_append_right (by simp [r2]), List.length_map, r2, Nat.sub_self]; rfl
  have hk : (bodyL (printL ns us)).all (rowOk ns.length) = true := by
    rw [hb, List.all_eq_true]
    intro s hs
    obtain ⟨x, hx, rfl⟩ := List.mem_map.1 hs
    unfold rowOk
    rw [bitsT_len, bitsT_bins, Bool.true_and, decide_eq_true r2]
  obtain ⟨o1, o2⟩ := (latt_iff hp).2 r5
  unfold parseL
  rw [hn, hu, hk, hh, o1, o2, if_neg (by omega), if_neg (by decide), if_neg (by decide), if_neg (by decide), if_neg (by decide)]
/-- What is not parsed is nothing; what is parsed is right, and is printed as it was. -/
theorem parse_back (text : List UInt8) : ((parseL text).1 = [] ∧ (parseL text).2.1 = [] ∧ 0 < (parseL text).2.2 ∧ (parseL text).2.2 < 5) ∨ ((parseL text).2.2 = 0 ∧ rightB (parseL text).1 (parseL text).2.1 = true ∧ printL (parseL text).1 (parseL text).2.1 = text) := by
  unfold parseL
  split
  · exact .inl ⟨rfl, rfl, by decide, by decide⟩
  split
  · exact .inl ⟨rfl, rfl, by decide, by decide⟩
  split
  · exact .inl ⟨rfl, rfl, by decide, by decide⟩
  split
  · exact .inl ⟨rfl, rfl, by decide, by decide⟩
  split
  · exact .inl ⟨rfl, rfl, by decide, by decide⟩
  rename_i h1 h2 h3 h4 h5
  rw [Bool.not_eq_false] at h2 h3 h4 h5
  refine .inr ⟨rfl, ?_⟩
  show rightB (namesL text) (upsL text) = true ∧ printL (namesL text) (upsL text) = text
  have hbl := body_len h2
  have hul : (upsL text).length = (namesL text).length := by unfold upsL; rw [List.length_map, hbl]
  have hh := h2
  unfold headB at hh
  simp only [Bool.and_eq_true, decide_eq_true_eq] at hh
  obtain ⟨g1, g2, g3⟩ := hh
  rw [List.all_eq_true] at h3
  have hR : rightB (namesL text) (upsL text) = true := by
    unfold rightB
    rw [h4, h5, g1, hul, decide_eq_true (by omega), decide_eq_true rfl]
    simp only [Bool.true_and, Bool.and_true, List.all_eq_true, decide_eq_true_eq]
    intro x hx
    unfold upsL at hx
    obtain ⟨s, hs, rfl⟩ := List.mem_map.1 hx
    exact row_in (by omega) (h3 s hs)
  refine ⟨hR, ?_⟩
  unfold printL
  rw [if_pos hR]
  have e1 : Lib.join (namesL text) [32] = (linesL text).getD 0 [] := join_splitL 32 _
  have e2 : (upsL text).map (rowT (upsL text).length) = (bodyL text).map (· ++ [10]) := by
    rw [hul]
    unfold upsL
    rw [List.map_map]
    refine List.map_congr_left fun s hs => ?_
    show bitsT (rowX s s.length) (namesL text).length ++ [10] = s ++ [10]
    rw [bitsT_rowX (by omega) (h3 s hs)]
  have e3 : linesL text = (linesL text).getD 0 [] :: (bodyL text ++ [[]]) := by
    refine List.ext_getElem? fun j => ?_
    rcases Nat.eq_zero_or_pos j with rfl | hj
    · rw [List.getD_eq_getElem?_getD, List.getElem?_eq_getElem (by omega)]; rfl
    · obtain ⟨i, rfl⟩ : ∃ i, j = i + 1 := ⟨j - 1, by omega⟩
      rw [List.getElem?_cons_succ]
      by_cases hi : i < (namesL text).length
      · rw [List.getElem?_append_left (by omega), body_get h2 hi]
      · rw [List.getElem?_append_right (by omega), hbl]
        by_cases hi2 : i = (namesL text).length
        · subst hi2
          rw [Nat.sub_self, ← g3, List.getD_eq_getElem?_getD, List.getElem?_eq_getElem (by omega)]; rfl
        · rw [List.getElem?_eq_none (by omega), List.getElem?_eq_none (by simp; omega)]
  rw [e1, e2, ← join_lines, ← e3]
  exact join_splitL 10 text
theorem print_len (ns : List (List UInt8)) (us : List Nat) : (printL ns us).length < 100000 := by
  unfold printL
  split
  · rename_i hR
    obtain ⟨r1, r2, r3, r4, r5⟩ := right_spec hR
    have h1 := join_len (sep := [32]) ns (names_len r3)
    have h2 := rows_len us.length us
    rw [List.length_append, List.length_append, h2]
    simp only [List.length_singleton] at h1 ⊢
    have h3 : us.length * (us.length + 1) ≤ 64 * 65 := Nat.mul_le_mul (by omega) (by omega)
    omega
  · simp
end Go.Proofs.YtdhlghhokbmhdaaDoor
