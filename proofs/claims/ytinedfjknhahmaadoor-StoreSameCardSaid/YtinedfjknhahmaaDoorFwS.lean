/- The framework, nineteenth part: loops whose state is told by a few slots; small helps. -/
import Derived.Test.YtinedfjknhahmaaDoorFwR
namespace Go.Proofs.YtinedfjknhahmaaDoor.Fw
set_option linter.unusedVariables false
set_option linter.unusedSimpArgs false
open Go.RowKit

theorem get_at (H L : List Blk) (k : Nat) : (H ++ L)[H.length + k]? = L[k]? := by rw [List.getElem?_append_right (by omega)]; simp
theorem get_at0 (H L : List Blk) : (H ++ L)[H.length]? = L[0]? := get_at H L 0
theorem set_at (H L : List Blk) (k : Nat) (B : Blk) : (H ++ L).set (H.length + k) B = H ++ L.set k B := by rw [List.set_append_right _ _ (by omega)]; simp
theorem set_at0 (H L : List Blk) (B : Blk) : (H ++ L).set H.length B = H ++ L.set 0 B := set_at H L 0 B
theorem take_at (H L : List Blk) (k : Nat) : (H ++ L).take (H.length + k) = H ++ L.take k := List.take_length_add_append k
theorem get_old {H : List Blk} (L : List Blk) {b : Nat} {B : Blk} (h : H[b]? = some B) : (H ++ L)[b]? = some B := by
  rw [List.getElem?_append_left (List.getElem?_eq_some_iff.1 h).1]; exact h
theorem box_old {H : List Blk} (L : List Blk) {b : Nat} {cs : List PV} (h : boxAt H b = some cs) : boxAt (H ++ L) b = some cs := by
  have := boxAt_spec h
  unfold boxAt
  rw [get_old L this]

theorem bd_app {H L : List Blk} (h : ∀ B ∈ H, B.bd H.length = true) (hL : (L.all fun B => B.bd (H ++ L).length) = true) : ∀ B ∈ H ++ L, B.bd (H ++ L).length = true := fun B hB => by
  rcases List.mem_append.1 hB with hB | hB
  · exact Blk.bd_mono (by simp) (h B hB)
  · exact List.all_eq_true.1 hL B hB
 where
  Blk.bd_mono {m n : Nat} (hm : m ≤ n) {B : Blk} (h : B.bd m = true) : B.bd n = true := by
    cases B with
    | box cs => exact PV.bdL_mono hm _ h
    | row sz cs => exact PV.bdL_mono hm _ h
    | loop l cs => exact PV.bdL_mono hm _ h
    | map es =>
      simp only [Blk.bd, List.all_eq_true, Bool.and_eq_true] at h ⊢
      exact fun e he => ⟨PV.bd_mono hm _ (h e he).1, PV.bd_mono hm _ (h e he).2⟩
    | dfr => rfl
    | dead => rfl

/-- The zero of a type of one cell. -/
def zero1 (P : Program) (t : TypeId) : Option PV :=
  match (P.info? t).bind (·.zero) with
  | some (.agg _) => none
  | some z => some (ofC z)
  | none => none

theorem zero1_spec {P : Program} {t : TypeId} {p : PV} (h : zero1 P t = some p) : zeroOf P t = some p ∧ ∀ i z cs, P.info? t = some i → i.zero = some z → z = .agg cs → ∀ (j : Nat) u, cs[j]? = some u → u.oneCell' = true := by
  unfold zero1 at h
  unfold zeroOf
  split at h
  · cases h
  · rename_i z hne hz
    refine ⟨by rw [hz]; cases z <;> first | exact h | exact absurd rfl (hne _), fun i z' cs hi hz' e => ?_⟩
    subst e
    rw [hi] at hz
    simp only [Option.bind_some, hz', Option.some.injEq] at hz
    exact absurd hz.symm (hne cs)
  · cases h

section
variable {P : Program} {Γ : Nat → PV} {N : Nat} {ro : Option Nat} {c : Code} {A : List (Nat × PV)} {H : List Blk} {D : List Nat} {Q : Post}

/-- What holds of the blocks at an activation's beginning. -/
theorem awp_bd (h : (∀ B ∈ H, B.bd H.length = true) → AWP P Γ N ro c A H D Q) : AWP P Γ N ro c A H D Q :=
  fun w0 G w a hs ha hd => h hs.bound w0 G w a hs ha hd

theorem zip_look (keep : List Nat) (ps : List PV) (t : Nat) (A : List (Nat × PV)) (h : keep.map (alook A) = ps) : alook (keep.zip ps) t = alook A t ∨ alook (keep.zip ps) t = .any := by
  subst h
  induction keep with
  | nil => exact .inr rfl
  | cons k keep ih =>
    simp only [List.map_cons, List.zip_cons_cons, alook]
    by_cases e : t = k
    · rw [if_pos e, e]; exact .inl rfl
    · rw [if_neg e]; exact ih

/-- A loop: its state is told by a few slots, and by the blocks. -/
theorem awp_for {S : Type} (keep : List Nat) (st : S → List PV) (Hs : S → List Blk) (μ : S → Nat) (ok : S → Prop) (s0 : S) (h0 : keep.map (alook A) = st s0) (hH : H = Hs s0) (hok : ok s0)
    (round : ∀ s, ok s → AWP P Γ N ro c (keep.zip (st s)) (Hs s) D (Post.then (fun A' H' D' => ∃ s', μ s' < μ s ∧ ok s' ∧ keep.map (alook A') = st s' ∧ H' = Hs s' ∧ D' = D) Q)) : AWP P Γ N ro (.loop c) A H D Q := by
  refine awp_loop (fun n A H D' => ∃ s, n = μ s ∧ ok s ∧ keep.map (alook A) = st s ∧ H = Hs s ∧ D' = D) (n := μ s0) ⟨s0, rfl, hok, h0, hH, rfl⟩ fun n A H D' hI => ?_
  obtain ⟨s, rfl, h1, h2, rfl, rfl⟩ := hI
  refine awp_less (fun t => zip_look keep _ t A h2) ((round s h1).mono fun e A' H' D' hq => ?_)
  cases e with
  | normal =>
    obtain ⟨s', k1, k2, k3, k4, k5⟩ := hq
    exact ⟨μ s', k1, s', rfl, k2, k3, k4, k5⟩
  | _ => exact hq

/-- The like, where rounds leave blocks behind that nobody asks for. -/
theorem awp_forG {S : Type} (keep : List Nat) (st : S → List PV) (Hs : S → List Blk) (μ : S → Nat) (ok : S → Prop) (s0 : S) (h0 : keep.map (alook A) = st s0) (hH : H = Hs s0) (hok : ok s0)
    (hbd : ∀ s, ok s → (∀ B ∈ Hs s, B.bd (Hs s).length = true) ∧ PV.bdL (Hs s).length (st s) = true) (hD : ∀ s, ok s → ∀ b ∈ D, b < (Hs s).length)
    (round : ∀ s, ok s → AWP P Γ N ro c (keep.zip (st s)) (Hs s) D (Post.then (fun A' H' D' => ∃ s' L, μ s' < μ s ∧ ok s' ∧ keep.map (alook A') = st s' ∧ H' = Hs s' ++ L ∧ D' = D ∧ (Hs s).length ≤ (Hs s').length) Q)) : AWP P Γ N ro (.loop c) A H D Q := by
  refine awp_loop (fun n A H D' => ∃ s, n = μ s ∧ ok s ∧ keep.map (alook A) = st s ∧ H = Hs s ∧ D' = D) (n := μ s0) ⟨s0, rfl, hok, h0, hH, rfl⟩ fun n A H D' hI => ?_
  obtain ⟨s, rfl, h1, h2, rfl, rfl⟩ := hI
  refine awp_less (fun t => zip_look keep _ t A h2) ?_
  intro w0 G w a hs ha hd
  refine wpIn_mono (round s h1 w0 G w a hs ha hd) fun e a' w' hl => ?_
  obtain ⟨G', A1, H1, D1, g1, g2, g3, g4, g5, g6⟩ := hl
  cases e with
  | normal =>
    obtain ⟨s', L, k1, k2, k3, rfl, rfl, k6⟩ := g6
    have ht : (Hs s' ++ L).take (Hs s').length = Hs s' := List.take_left' rfl
    obtain ⟨b1, b2⟩ := hbd s' k2
    have g1' := g1.take (Hs s').length (by simp) (by rw [ht]; exact b1)
    rw [ht] at g1'
    refine ⟨G', keep.zip (st s'), Hs s', D1, g1', ⟨g2.1, fun t => ?_⟩, ⟨g3.1, fun b hb => ⟨hD s' k2 b hb, (g3.2 b hb).2⟩⟩, g4, k6, μ s', k1, s', rfl, k2, ?_, rfl, rfl⟩
    · have hz := (g2.less fun t => zip_look keep _ t A1 k3).2 t
      refine hz.cut _ ?_
      have : ∀ (keep : List Nat) (ps : List PV), PV.bdL (Hs s').length ps = true → (alook (keep.zip ps) t).bd (Hs s').length = true := by
        intro keep
        induction keep with
        | nil => intro ps _; rfl
        | cons k keep ih =>
          intro ps hp
          cases ps with
          | nil => rfl
          | cons p ps =>
            simp only [PV.bdL, Bool.and_eq_true] at hp
            simp only [List.zip_cons_cons, alook]
            split
            · exact hp.1
            · exact ih ps hp.2
      exact this keep _ b2
    · have key : ∀ (keep : List Nat) (A : List (Nat × PV)) (ps : List PV), keep.map (alook A) = ps → keep.map (alook (keep.zip ps)) = ps := fun keep A ps h => by
        subst h
        apply List.map_congr_left
        intro k hk
        have : ∀ (l : List Nat), k ∈ l → alook (l.zip (l.map (alook A))) k = alook A k := by
          intro l
          induction l with
          | nil => intro h; cases h
          | cons x l ih =>
            intro h
            simp only [List.map_cons, List.zip_cons_cons, alook]
            by_cases e : k = x
            · rw [if_pos e, e]
            · rw [if_neg e]; exact ih (by simpa [e] using h)
        exact this keep hk
      exact key keep A1 _ k3
  | _ => exact ⟨G', A1, H1, D1, g1, g2, g3, g4, g5, g6⟩

/-- The end of a function that only computes, and left no mark. -/
theorem gives_end {fn : Func} {p : PV} {H0 : List Blk} {A' : List (Nat × PV)} {e : Exit} (he : e = .ret ∨ e = .normal) (L : List Blk) (h : ares P Γ A' (H0 ++ L) fn.results.toList = some p) :
    (e = .ret ∨ e = .normal) ∧ ([] : List Nat).Nodup ∧ (∀ b ∈ ([] : List Nat), (H0 ++ L)[b]? = some .dfr ∧ H0.length ≤ b) ∧ ares P Γ A' (H0 ++ L) fn.results.toList = some p ∧ ∃ L', H0 ++ L = H0 ++ L' :=
  ⟨he, List.nodup_nil, (fun b hb => by cases hb), h, L, rfl⟩

theorem gives_end0 {fn : Func} {p : PV} {H0 : List Blk} {A' : List (Nat × PV)} {e : Exit} (he : e = .ret ∨ e = .normal) (h : ares P Γ A' H0 fn.results.toList = some p) :
    (e = .ret ∨ e = .normal) ∧ ([] : List Nat).Nodup ∧ (∀ b ∈ ([] : List Nat), H0[b]? = some .dfr ∧ H0.length ≤ b) ∧ ares P Γ A' H0 fn.results.toList = some p ∧ ∃ L', H0 = H0 ++ L' :=
  ⟨he, List.nodup_nil, (fun b hb => by cases hb), h, [], (List.append_nil _).symm⟩

/-- The end of a function that leaves the blocks as they are. -/
theorem calls_end {fn : Func} {p : PV} {R : PV → List Blk → Prop} {A' : List (Nat × PV)} {e : Exit} (L : List Blk) (he : e = .ret ∨ e = .normal) (hbd : ∀ B ∈ H, B.bd H.length = true) (h : ares P Γ A' (H ++ L) fn.results.toList = some p) (hp : p.bd H.length = true) (hR : R p H) :
    RetQ P Γ fn H.length R e A' (H ++ L) [] := by
  have ht : (H ++ L).take H.length = H := List.take_left' rfl
  exact ⟨he, List.nodup_nil, (fun b hb => by cases hb), p, H.length, h, Nat.le_refl _, by simp, fun b hb => (by cases hb), hp, by rw [ht]; exact hbd, by rw [ht]; exact hR⟩

theorem calls_end0 {fn : Func} {p : PV} {R : PV → List Blk → Prop} {A' : List (Nat × PV)} {e : Exit} (he : e = .ret ∨ e = .normal) (hbd : ∀ B ∈ H, B.bd H.length = true) (h : ares P Γ A' H fn.results.toList = some p) (hp : p.bd H.length = true) (hR : R p H) :
    RetQ P Γ fn H.length R e A' H [] := by
  have := calls_end (P := P) (Γ := Γ) (fn := fn) (A' := A') (R := R) [] he hbd (by rw [List.append_nil]; exact h) hp hR
  rwa [List.append_nil] at this

end
end Go.Proofs.YtinedfjknhahmaaDoor.Fw
