/- Plain laws of texts that are cut. -/
import Derived.Lib.SplitLaws
import Derived.Test.YtdhlghhokbmhdaaDoorL01a
namespace Go.Proofs.YtdhlghhokbmhdaaDoor
set_option linter.unusedVariables false
set_option linter.unusedSimpArgs false
set_option maxRecDepth 100000
open Go

/-- What stands between a byte. -/
def splitL (c : UInt8) : List UInt8 → List (List UInt8)
  | [] => [[]]
  | b :: l => if b = c then [] :: splitL c l else (b :: (splitL c l).headD []) :: (splitL c l).tail
theorem splitL_ne (c : UInt8) (l : List UInt8) : splitL c l ≠ [] := by
  cases l with
  | nil => simp [splitL]
  | cons b l => unfold splitL; split <;> simp
theorem splitL_none {c : UInt8} : ∀ {l : List UInt8}, (∀ j : Nat, l[j]? ≠ some c) → splitL c l = [l]
  | [], _ => rfl
  | b :: l, h => by
    have hb : b ≠ c := fun e => h 0 (by rw [e]; rfl)
    unfold splitL
    rw [if_neg hb, splitL_none (l := l) fun j => by simpa using h (j + 1)]; rfl
theorem splitL_at {c : UInt8} : ∀ {l : List UInt8} {k : Nat}, (∀ j : Nat, j < k → l[j]? ≠ some c) → l[k]? = some c → splitL c l = l.take k :: splitL c (l.drop (k + 1))
  | [], k, _, h => by simp at h
  | b :: l, 0, _, h => by
    have hb : b = c := by simpa using h
    show splitL c (b :: l) = _
    rw [splitL, if_pos hb]; rfl
  | b :: l, k + 1, hl, h => by
    have hb : b ≠ c := fun e => hl 0 (by omega) (by rw [e]; rfl)
    have ih := splitL_at (l := l) (k := k) (fun j hj => by simpa using hl (j + 1) (by omega)) (by simpa using h)
    rw [splitL, if_neg hb, ih]; rfl
theorem splitL_len (c : UInt8) : ∀ l : List UInt8, (splitL c l).length ≤ l.length + 1
  | [] => by simp [splitL]
  | b :: l => by
    have ih := splitL_len c l
    have hp : 0 < (splitL c l).length := List.length_pos_iff.2 (splitL_ne c l)
    unfold splitL
    split
    · simp only [List.length_cons]; omega
    · simp only [List.length_cons, List.length_tail]; omega
theorem splitL_mem {c : UInt8} : ∀ {l t : List UInt8}, t ∈ splitL c l → t.length ≤ l.length
  | [], t, h => by simp [splitL] at h; subst h; simp
  | b :: l, t, h => by
    unfold splitL at h
    split at h
    · rcases List.mem_cons.1 h with rfl | h
      · simp
      · have := splitL_mem h; simp only [List.length_cons]; omega
    · obtain ⟨u, us, hu⟩ := List.exists_cons_of_ne_nil (splitL_ne c l)
      rw [hu] at h
      simp only [List.headD_cons, List.tail_cons] at h
      rcases List.mem_cons.1 h with rfl | h
      · have := splitL_mem (c := c) (l := l) (t := u) (by rw [hu]; simp)
        simp only [List.length_cons]; omega
      · have := splitL_mem (c := c) (l := l) (t := t) (by rw [hu]; simp [h])
        simp only [List.length_cons]; omega
theorem split_one (c : UInt8) (s : List UInt8) : Lib.split s [c] = splitL c s := by
  induction s with
  | nil =>
    unfold Lib.split
    rw [Lib.count_one]; rfl
  | cons b l ih =>
    unfold Lib.split at ih ⊢
    by_cases h : b = c
    · subst h
      have hix : Lib.index (b :: l) [b] = ((0 : Nat) : Int) := by rw [Lib.index]; simp [List.isPrefixOf]
      rw [Lib.count_cons_eq, Nat.add_comm, splitL, if_pos rfl, ← ih, Lib.splitK, hix]; rfl
    · rw [Lib.count_cons_ne b c l h, splitL, if_neg h, ← ih]
      cases hk : Lib.count l [c] with
      | zero => rfl
      | succ k =>
        have hp : ([c] : List UInt8).isPrefixOf (b :: l) = false := by simp [List.isPrefixOf, Ne.symm h]
        have hix : Lib.index (b :: l) [c] = if Lib.index l [c] == -1 then -1 else Lib.index l [c] + 1 := by rw [Lib.index, hp]; simp
        have hm : Lib.index l [c] ≠ -1 := fun e => by rw [Lib.count_miss e] at hk; omega
        have hge := Lib.index_ge l [c]
        obtain ⟨j, hj⟩ : ∃ j : Nat, Lib.index l [c] = j := ⟨(Lib.index l [c]).toNat, by omega⟩
        have hix' : Lib.index (b :: l) [c] = ((j + 1 : Nat) : Int) := by rw [hix, if_neg (fun e => hm (beq_iff_eq.1 e)), hj]; omega
        rw [Lib.splitK, Lib.splitK, hj, hix']
        have e1 : (((j + 1 : Nat) : Int) == -1) = false := beq_eq_false_iff_ne.2 (by omega)
        have e2 : (((j : Nat) : Int) == -1) = false := beq_eq_false_iff_ne.2 (by omega)
        rw [e1, e2]
        simp only [Bool.false_eq_true, ↓reduceIte, Int.toNat_natCast, List.headD_cons, List.tail_cons, Nat.add_zero, List.length_cons, List.length_nil, List.take_succ_cons]
        rfl

end Go.Proofs.YtdhlghhokbmhdaaDoor
