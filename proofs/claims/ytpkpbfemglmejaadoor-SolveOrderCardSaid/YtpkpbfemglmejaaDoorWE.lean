/- Plain laws of least solutions. -/
import Derived.Test.YtpkpbfemglmejaaDoorWC
import Derived.Test.YtpkpbfemglmejaaDoorWD
import Derived.Test.YtpkpbfemglmejaaDoorWB
import Derived.WideKeyRuns
namespace Go.Proofs.YtpkpbfemglmejaaDoor
set_option linter.unusedVariables false
set_option linter.unusedSimpArgs false
set_option maxRecDepth 100000
open Go.RowKit Fw

/-- What an atom stands for. -/
def vl (σ : Int → Nat) (a : Int) : Nat := if a < 0 then (-1 - a).toNat else σ a
/-- Whether a pair holds. -/
def satP (r : Nat → Nat → Bool) (σ : Int → Nat) (p : Pr) : Prop := r (vl σ p.a) (vl σ p.b) = true
/-- Whether all points of pairs are points. -/
def PtsOk (n : Nat) (c : List Pr) : Prop := ∀ p ∈ c, (p.a < 0 → (-1 - p.a).toNat < n) ∧ (p.b < 0 → (-1 - p.b).toNat < n)
def SolS (n : Nat) (r : Nat → Nat → Bool) (c : List Pr) (σ : Int → Nat) : Prop := (∀ v, σ v < n) ∧ ∀ p ∈ c, satP r σ p
/-- Whether what stands is below each solution. -/
def Lows (n : Nat) (r : Nat → Nat → Bool) (c : List Pr) (σ : Int → Nat) : Prop := (∀ v, σ v < n) ∧ ∀ τ, SolS n r c τ → ∀ v, r (σ v) (τ v) = true
def upd (σ : Int → Nat) (b : Int) (j : Nat) : Int → Nat := fun v => if v = b then j else σ v
variable {n : Nat} {r : Nat → Nat → Bool} {c : List Pr} {σ τ : Int → Nat}
theorem vl_lt (hσ : ∀ v, σ v < n) {a : Int} (h : a < 0 → (-1 - a).toNat < n) : vl σ a < n := by
  unfold vl; split
  · exact h (by assumption)
  · exact hσ a
theorem low_vl (h : Ord n r) (hl : Lows n r c σ) (ht : SolS n r c τ) {a : Int} (ha : a < 0 → (-1 - a).toNat < n) : r (vl σ a) (vl τ a) = true := by
  unfold vl; split
  · exact h.refl _ (ha (by assumption))
  · exact hl.2 τ ht a
theorem low_bot (hb : ∀ v, σ v < n ∧ ∀ z, z < n → r (σ v) z = true) : Lows n r c σ :=
  ⟨fun v => (hb v).1, fun τ ht v => (hb v).2 _ (ht.1 v)⟩
theorem low_step (h : Ord n r) (hp : PtsOk n c) (hl : Lows n r c σ) {p : Pr} (hc : p ∈ c) (h0 : 0 ≤ p.b) {j : Nat} (hj : IsJ n r (vl σ p.a) (σ p.b) j) : Lows n r c (upd σ p.b j) := by
  refine ⟨fun v => ?_, fun τ ht v => ?_⟩
  · unfold upd; split
    · exact hj.1
    · exact hl.1 v
  · unfold upd; split
    · rename_i e
      subst e
      rw [hj.2 _ (ht.1 _), Bool.and_eq_true]
      refine ⟨?_, hl.2 τ ht _⟩
      have h1 := low_vl h hl ht (hp p hc).1
      have h2 : r (vl τ p.a) (vl τ p.b) = true := ht.2 p hc
      have e : vl τ p.b = τ p.b := by unfold vl; rw [if_neg (by omega)]
      rw [e] at h2
      exact h.trans _ _ _ (vl_lt hl.1 (hp p hc).1) (vl_lt ht.1 (hp p hc).1) (ht.1 _) h1 h2
    · exact hl.2 τ ht v
theorem low_fail (h : Ord n r) (hp : PtsOk n c) (hl : Lows n r c σ) {p : Pr} (hc : p ∈ c) (h0 : p.b < 0) (hn : r (vl σ p.a) (vl σ p.b) = false) : ∀ τ, ¬ SolS n r c τ := fun τ ht => by
  have h1 := low_vl h hl ht (hp p hc).1
  have h2 : r (vl τ p.a) (vl τ p.b) = true := ht.2 p hc
  have e : vl τ p.b = vl σ p.b := by unfold vl; rw [if_pos h0, if_pos h0]
  rw [e] at h2
  have := h.trans _ _ _ (vl_lt hl.1 (hp p hc).1) (vl_lt ht.1 (hp p hc).1) (vl_lt hl.1 (hp p hc).2) h1 h2
  rw [hn] at this; cases this
/-- How many points stand above. -/
def rk (n : Nat) (r : Nat → Nat → Bool) (x : Nat) : Nat := ((List.range n).filter (r x)).length
theorem filter_lt {X : Type} {p q : X → Bool} : ∀ l : List X, (∀ x ∈ l, p x = true → q x = true) → (l.filter p).length ≤ (l.filter q).length ∧ ((∃ x ∈ l, q x = true ∧ p x = false) → (l.filter p).length < (l.filter q).length)
  | [], _ => ⟨Nat.le_refl _, fun ⟨_, h, _⟩ => by cases h⟩
  | x :: l, h => by
    obtain ⟨i1, i2⟩ := filter_lt l fun y hy => h y (by simp [hy])
    have hx := h x (by simp)
    cases hp : p x <;> cases hq : q x
    · simp only [List.filter_cons, hp, hq, Bool.false_eq_true, ↓reduceIte]
      refine ⟨i1, fun ⟨y, hy, e1, e2⟩ => i2 ?_⟩
      rcases List.mem_cons.1 hy with rfl | hy
      · rw [hq] at e1; cases e1
      · exact ⟨y, hy, e1, e2⟩
    · simp only [List.filter_cons, hp, hq, Bool.false_eq_true, ↓reduceIte, List.length_cons]
      exact ⟨by omega, fun _ => by omega⟩
    · rw [hx hp] at hq; cases hq
    · simp only [List.filter_cons, hp, hq, ↓reduceIte, List.length_cons]
      refine ⟨by omega, fun ⟨y, hy, e1, e2⟩ => ?_⟩
      rcases List.mem_cons.1 hy with rfl | hy
      · rw [hp] at e2; cases e2
      · have := i2 ⟨y, hy, e1, e2⟩; omega
theorem rk_lt (h : Ord n r) {x y : Nat} (hx : x < n) (hy : y < n) (hxy : r x y = true) (hne : r y x = false) : rk n r y < rk n r x :=
  (filter_lt _ fun z hz hyz => h.trans x y z hx hy (List.mem_range.1 hz) hxy hyz).2 ⟨x, List.mem_range.2 hx, h.refl x hx, hne⟩
theorem rk_le (n : Nat) (r : Nat → Nat → Bool) (x : Nat) : rk n r x ≤ n := by
  unfold rk
  exact Nat.le_trans (List.length_filter_le _ _) (by simp)
/-- How far variables may rise. -/
def rkS (n : Nat) (r : Nat → Nat → Bool) (vs : List Int) (σ : Int → Nat) : Nat := (vs.map fun v => rk n r (σ v)).sum
theorem rkS_le (n : Nat) (r : Nat → Nat → Bool) (σ : Int → Nat) : ∀ vs : List Int, rkS n r vs σ ≤ vs.length * n
  | [] => by simp [rkS]
  | v :: vs => by
    have := rkS_le n r σ vs
    have h2 := rk_le n r (σ v)
    unfold rkS at *
    rw [List.map_cons, List.sum_cons, List.length_cons, Nat.add_mul]; omega
theorem rkS_upd {b : Int} {j : Nat} (h : rk n r j < rk n r (σ b)) : ∀ vs : List Int, rkS n r vs (upd σ b j) ≤ rkS n r vs σ ∧ (b ∈ vs → rkS n r vs (upd σ b j) < rkS n r vs σ)
  | [] => ⟨Nat.le_refl _, fun h => by cases h⟩
  | v :: vs => by
    obtain ⟨i1, i2⟩ := rkS_upd h vs
    unfold rkS at *
    simp only [List.map_cons, List.sum_cons]
    by_cases e : v = b
    · subst e
      have : upd σ v j v = j := by unfold upd; rw [if_pos rfl]
      rw [this]
      exact ⟨by omega, fun _ => by omega⟩
    · have : upd σ b j v = σ v := by unfold upd; rw [if_neg e]
      rw [this]
      refine ⟨by omega, fun hm => ?_⟩
      rcases List.mem_cons.1 hm with rfl | hm
      · exact absurd rfl e
      · have := i2 hm; omega
/-- A step rises. -/
theorem step_rise (h : Ord n r) (hσ : ∀ v, σ v < n) {x : Nat} {b : Int} {j : Nat} (hx : x < n) (hn : r x (σ b) = false) (hj : IsJ n r x (σ b) j) : rk n r j < rk n r (σ b) := by
  refine rk_lt h (hσ b) hj.1 (hj.le2 h) ?_
  cases e : r j (σ b)
  · rfl
  · rw [hj.2 _ (hσ b), hn] at e; cases e
/-- There is a least solution, or none. -/
theorem least_step (hl : Lows n r c σ) (h : Ord n r) (hp : PtsOk n c) (hs : ∀ p ∈ c, 0 ≤ p.b → r (vl σ p.a) (σ p.b) = false → (∃ σ, SolS n r c σ ∧ Lows n r c σ) ∨ ∀ τ, ¬ SolS n r c τ) : (∃ σ, SolS n r c σ ∧ Lows n r c σ) ∨ ∀ τ, ¬ SolS n r c τ := by
  by_cases ha : ∀ p ∈ c, satP r σ p
  · exact .inl ⟨σ, ⟨hl.1, ha⟩, hl⟩
  · simp only [Classical.not_forall] at ha
    obtain ⟨p, hc, hn⟩ := ha
    have hn' : r (vl σ p.a) (vl σ p.b) = false := by unfold satP at hn; simpa using hn
    by_cases h0 : p.b < 0
    · exact .inr (low_fail h hp hl hc h0 hn')
    · have e : vl σ p.b = σ p.b := by unfold vl; rw [if_neg h0]
      rw [e] at hn'
      exact hs p hc (by omega) hn'
theorem least_ex (h : Latt n r) (hp : PtsOk n c) {vs : List Int} (hv : ∀ p ∈ c, 0 ≤ p.b → p.b ∈ vs) (k : Nat) : ∀ σ : Int → Nat, rkS n r vs σ ≤ k → Lows n r c σ → (∃ σ, SolS n r c σ ∧ Lows n r c σ) ∨ ∀ τ, ¬ SolS n r c τ := by
  induction k with
  | zero =>
    refine fun σ hk hl => least_step hl h.toOrd hp fun p hc h0 hn => ?_
    obtain ⟨j, _, hj⟩ := h.join (vl_lt hl.1 (hp p hc).1) (hl.1 p.b)
    have := (rkS_upd (step_rise h.toOrd hl.1 (vl_lt hl.1 (hp p hc).1) hn hj) vs).2 (hv p hc h0)
    omega
  | succ k ih =>
    refine fun σ hk hl => least_step hl h.toOrd hp fun p hc h0 hn => ?_
    obtain ⟨j, _, hj⟩ := h.join (vl_lt hl.1 (hp p hc).1) (hl.1 p.b)
    have := (rkS_upd (step_rise h.toOrd hl.1 (vl_lt hl.1 (hp p hc).1) hn hj) vs).2 (hv p hc h0)
    exact ih (upd σ p.b j) (by omega) (low_step h.toOrd hp hl hc h0 hj)
theorem least_uniq (h : Ord n r) (h1 : SolS n r c σ) (h2 : Lows n r c σ) (h3 : SolS n r c τ) (h4 : Lows n r c τ) : σ = τ := by
  funext v
  exact h.anti _ _ (h1.1 v) (h3.1 v) (h2.2 τ h3 v) (h4.2 σ h1 v)
end Go.Proofs.YtpkpbfemglmejaaDoor

/- What chapter 11 tells, plainly. -/
namespace Go.Proofs.YtpkpbfemglmejaaDoor
set_option linter.unusedVariables false
set_option linter.unusedSimpArgs false
set_option maxRecDepth 100000
open Go.RowKit Fw

/-- A point, or none. -/
def ptI (n : Nat) (p : Int) : Int := if ptB n p = true then p else -1
/-- What an atom stands for. -/
def valueV (ns : List (List UInt8)) (us : List Nat) (s : List So) (a : Int) : Int :=
  if a < 0 then ptI ns.length (pointOf a) else match s.find? (fun x => decide (x.v = a)) with | none => botV ns us | some x => ptI ns.length x.p
def knownB (ns : List (List UInt8)) (us : List Nat) (c : List Pr) : Bool := rightB ns us && (gath gP c).all fun p => ptB ns.length p
def solvesB (ns : List (List UInt8)) (us : List Nat) (c : List Pr) (s : List So) : Bool :=
  knownB ns us c && (s.all fun x => ptB ns.length x.p) && c.all fun p => leqB (min ns.length us.length) us (valueV ns us s p.a) (valueV ns us s p.b)
/-- What stands for variables, as numbers. -/
def sg (ns : List (List UInt8)) (us : List Nat) (s : List So) : Int → Nat := fun v => (valueV ns us s (if v < 0 then 0 else v)).toNat
theorem ptB_iff {n : Nat} {p : Int} : ptB n p = true ↔ 0 ≤ p ∧ p < n := by unfold ptB; simp
theorem bot_pt {ns : List (List UInt8)} {us : List Nat} (hR : rightB ns us = true) : ptB ns.length (botV ns us) = true := by
  obtain ⟨b, e, hb⟩ := bot_nat hR
  obtain ⟨_, r2, _⟩ := right_spec hR
  rw [e, ptB_iff]
  have := hb.1
  omega
theorem known_spec {ns : List (List UInt8)} {us : List Nat} {c : List Pr} : knownB ns us c = true ↔ rightB ns us = true ∧ PtsOk us.length c := by
  unfold knownB
  rw [Bool.and_eq_true, List.all_eq_true]
  constructor
  · rintro ⟨h1, h2⟩
    obtain ⟨_, r2, _⟩ := right_spec h1
    refine ⟨h1, fun p hp => ⟨fun h => ?_, fun h => ?_⟩⟩
    · have := ptB_iff.1 (h2 (-1 - p.a) ((points_mem c _).2 ⟨by omega, p, hp, .inl (by omega)⟩)); omega
    · have := ptB_iff.1 (h2 (-1 - p.b) ((points_mem c _).2 ⟨by omega, p, hp, .inr (by omega)⟩)); omega
  · rintro ⟨h1, h2⟩
    obtain ⟨_, r2, _⟩ := right_spec h1
    refine ⟨h1, fun x hx => ?_⟩
    obtain ⟨h0, p, hp, hx⟩ := (points_mem c x).1 hx
    rw [ptB_iff]
    rcases hx with e | e
    · have := (h2 p hp).1 (by omega); omega
    · have := (h2 p hp).2 (by omega); omega
theorem value_var {ns : List (List UInt8)} {us : List Nat} {s : List So} (hR : rightB ns us = true) (hs : ∀ x ∈ s, ptB ns.length x.p = true) {a : Int} (ha : 0 ≤ a) : 0 ≤ valueV ns us s a ∧ valueV ns us s a < us.length := by
  obtain ⟨_, r2, _⟩ := right_spec hR
  unfold valueV ptI
  rw [if_neg (by omega)]
  split
  · have := ptB_iff.1 (bot_pt hR); omega
  · rename_i x hx
    have := hs x (List.mem_of_find?_eq_some hx)
    rw [if_pos this]
    have := ptB_iff.1 this; omega
theorem sg_lt {ns : List (List UInt8)} {us : List Nat} {s : List So} (hR : rightB ns us = true) (hs : ∀ x ∈ s, ptB ns.length x.p = true) (v : Int) : sg ns us s v < us.length := by
  unfold sg
  have := value_var hR hs (a := if v < 0 then 0 else v) (by split <;> omega)
  omega
theorem value_vl {ns : List (List UInt8)} {us : List Nat} {s : List So} (hR : rightB ns us = true) (hs : ∀ x ∈ s, ptB ns.length x.p = true) {a : Int} (ha : a < 0 → (-1 - a).toNat < us.length) : valueV ns us s a = ((vl (sg ns us s) a : Nat) : Int) := by
  obtain ⟨_, r2, _⟩ := right_spec hR
  unfold vl
  split
  · rename_i h
    unfold valueV ptI
    have hp : pointOf a = -1 - a := by unfold pointOf; rw [if_neg (by omega)]
    rw [if_pos h, hp, if_pos (ptB_iff.2 (by have := ha h; omega))]
    omega
  · rename_i h
    unfold sg
    rw [if_neg h]
    have := value_var hR hs (a := a) (by omega)
    omega
theorem solves_iff {ns : List (List UInt8)} {us : List Nat} {c : List Pr} {s : List So} : solvesB ns us c s = true ↔ knownB ns us c = true ∧ (∀ x ∈ s, ptB ns.length x.p = true) ∧ SolS us.length (lq us) c (sg ns us s) := by
  unfold solvesB
  simp only [Bool.and_eq_true, List.all_eq_true]
  constructor
  · rintro ⟨⟨h1, h2⟩, h3⟩
    obtain ⟨hR, hp⟩ := known_spec.1 h1
    obtain ⟨_, r2, _⟩ := right_spec hR
    refine ⟨h1, h2, fun v => sg_lt hR h2 v, fun p hc => ?_⟩
    have := h3 p hc
    rw [value_vl hR h2 (hp p hc).1, value_vl hR h2 (hp p hc).2, leq_nat r2 (vl_lt (fun v => sg_lt hR h2 v) (hp p hc).1) (vl_lt (fun v => sg_lt hR h2 v) (hp p hc).2)] at this
    exact this
  · rintro ⟨h1, h2, h3⟩
    obtain ⟨hR, hp⟩ := known_spec.1 h1
    obtain ⟨_, r2, _⟩ := right_spec hR
    refine ⟨⟨h1, h2⟩, fun p hc => ?_⟩
    rw [value_vl hR h2 (hp p hc).1, value_vl hR h2 (hp p hc).2, leq_nat r2 (vl_lt (fun v => sg_lt hR h2 v) (hp p hc).1) (vl_lt (fun v => sg_lt hR h2 v) (hp p hc).2)]
    exact h3.2 p hc
/-- The list of what stands for the variables. -/
def solL (c : List Pr) (σ : Int → Nat) : List So := (gath gV c).map fun v => ⟨v, (σ v : Int)⟩
/-- What the least solution is. -/
def IsLeast (ns : List (List UInt8)) (us : List Nat) (c : List Pr) (x : List So × Bool) : Prop :=
  (knownB ns us c = false ∧ x = ([], false)) ∨ (knownB ns us c = true ∧ ((∃ σ, SolS us.length (lq us) c σ ∧ Lows us.length (lq us) c σ ∧ x = (solL c σ, true)) ∨ ((∀ τ, ¬ SolS us.length (lq us) c τ) ∧ x = ([], false))))
theorem isLeast_uniq {ns : List (List UInt8)} {us : List Nat} {c : List Pr} {x y : List So × Bool} (h1 : IsLeast ns us c x) (h2 : IsLeast ns us c y) : x = y := by
  rcases h1 with ⟨a1, rfl⟩ | ⟨a1, h1⟩ <;> rcases h2 with ⟨a2, rfl⟩ | ⟨a2, h2⟩
  · rfl
  · rw [a1] at a2; cases a2
  · rw [a1] at a2; cases a2
  · obtain ⟨hR, hp⟩ := known_spec.1 a1
    obtain ⟨_, _, _, _, r5⟩ := right_spec hR
    rcases h1 with ⟨σ, b1, b2, rfl⟩ | ⟨b1, rfl⟩ <;> rcases h2 with ⟨τ, d1, d2, rfl⟩ | ⟨d1, rfl⟩
    · rw [least_uniq r5.toOrd b1 b2 d1 d2]
    · exact absurd b1 (d1 _)
    · exact absurd d1 (b1 _)
    · rfl
theorem isLeast_ex (ns : List (List UInt8)) (us : List Nat) (c : List Pr) : ∃ x, IsLeast ns us c x := by
  cases hk : knownB ns us c
  · exact ⟨_, .inl ⟨hk, rfl⟩⟩
  · obtain ⟨hR, hp⟩ := known_spec.1 hk
    obtain ⟨_, _, _, _, r5⟩ := right_spec hR
    obtain ⟨b, _, hb⟩ := bot_nat hR
    rcases least_ex r5 hp (vs := gath gV c) (fun p hp h0 => (vars_mem c _).2 ⟨h0, p, hp, .inr rfl⟩) _ (fun _ => b) (Nat.le_refl _) (low_bot fun _ => hb) with ⟨σ, h1, h2⟩ | h
    · exact ⟨_, .inr ⟨hk, .inl ⟨σ, h1, h2, rfl⟩⟩⟩
    · exact ⟨_, .inr ⟨hk, .inr ⟨h, rfl⟩⟩⟩
noncomputable def leastV (ns : List (List UInt8)) (us : List Nat) (c : List Pr) : List So × Bool := (isLeast_ex ns us c).choose
theorem leastV_is (ns : List (List UInt8)) (us : List Nat) (c : List Pr) : IsLeast ns us c (leastV ns us c) := (isLeast_ex ns us c).choose_spec
theorem leastV_eq {ns : List (List UInt8)} {us : List Nat} {c : List Pr} {x : List So × Bool} (h : IsLeast ns us c x) : leastV ns us c = x := isLeast_uniq (leastV_is ns us c) h
end Go.Proofs.YtpkpbfemglmejaaDoor

/- The contracts of searches; of points. -/
namespace Go.Proofs.YtpkpbfemglmejaaDoor
set_option linter.unusedVariables false
set_option linter.unusedSimpArgs false
set_option maxRecDepth 100000
open Go.RowKit Fw

/-- Where the first such element stands. -/
def idxG {X : Type} (q : X → Bool) (l : List X) : Int := match l.findIdx? q with | some k => (k : Int) | none => -1
theorem idxG_none {X : Type} {q : X → Bool} {l : List X} (h : ∀ (j : Nat) y, j < l.length → l[j]? = some y → q y = false) : idxG q l = -1 := by
  unfold idxG
  have : l.findIdx? q = none := by
    rw [List.findIdx?_eq_none_iff]
    intro x hx
    obtain ⟨j, hj⟩ := List.getElem?_of_mem hx
    exact h j x (List.getElem?_eq_some_iff.1 hj).1 hj
  rw [this]
theorem idxG_some {X : Type} {q : X → Bool} {l : List X} {i : Nat} {x : X} (h : ∀ (j : Nat) y, j < i → l[j]? = some y → q y = false) (hx : l[i]? = some x) (hq : q x = true) : idxG q l = (i : Int) := by
  unfold idxG
  have : l.findIdx? q = some i := by
    rw [List.findIdx?_eq_some_iff_getElem]
    obtain ⟨h1, h2⟩ := List.getElem?_eq_some_iff.1 hx
    refine ⟨h1, by rw [h2]; exact hq, fun j hj => ?_⟩
    rw [h j l[j] hj (List.getElem?_eq_getElem _)]; simp
  rw [this]
theorem idxG_lt {X : Type} (q : X → Bool) (l : List X) : decide (0 ≤ idxG q l) = l.any q := by
  unfold idxG
  cases e : l.findIdx? q with
  | none =>
    rw [List.findIdx?_eq_none_iff] at e
    have : l.any q = false := by
      rw [List.any_eq_false]
      intro x hx; rw [e x hx]; simp
    rw [this]; decide
  | some k =>
    rw [List.findIdx?_eq_some_iff_getElem] at e
    obtain ⟨h1, h2, _⟩ := e
    have : l.any q = true := List.any_eq_true.2 ⟨_, List.getElem_mem h1, h2⟩
    rw [this]; exact decide_eq_true (by simp)
/- slices.IndexFunc, numbers -/
theorem c56 (Γ : Nat → PV) (f : Nat) (he : Enters Tryd.prog f) (caps : List PV) (q : Int → Bool) (us : List Int) (H : List Blk) (hf : ∀ x ∈ us, ACalls Tryd.prog Γ f (.int .i64 x :: caps) H (fun p H' => p = .bool (q x) ∧ H' = H)) :
    ACalls Tryd.prog Γ 56 [.vec (us.map I1) false, .func (.func f) [] caps] H (fun p H' => p = .int .i64 (idxG q us) ∧ H' = H) := by
  refine acalls_of_awp Tryd.func56 rfl (by simp [Tryd.f56]) fun hbd => ?_
  refine awp_vlen 0 rfl fun hsl => ?_
  rw [List.length_map] at hsl
  refine awp_seq ?_
  refine awp_run rfl (by simp only [fwA, ↓reduceIte, Nat.reduceAdd, Nat.reduceMul, Nat.reduceEqDiff, Nat.reduceLT, Nat.reduceLeDiff, reduceCtorEq] <;> rfl) ?_
  refine awp_seq ?_
  refine awp_seq ?_
  refine awp_run rfl (by simp only [fwA, ↓reduceIte, Nat.reduceAdd, Nat.reduceMul, Nat.reduceEqDiff, Nat.reduceLT, Nat.reduceLeDiff, reduceCtorEq, bitfw, List.length_map, List.getElem?_map, Option.map_some, Int.natCast_nonneg, Int.toNat_natCast, decide_true, decide_false, Bool.and_true, Bool.and_self, Bool.not_true, Bool.not_false, Bool.false_and, Bool.true_and, el22, el23, el25, el26, el29, el32, el47, el79, el121, fl28_0, fl28_1, fl37_0, fl37_1, fl43_0, fl43_1, fl57_0, fl57_1, pl28, pl37, pl43, pl57, ti3, ti4, ti5, ti9, ti22, ti25, ti26, ti28, ti32, ti35, ti37, ti43, ti53, ti55, ti57, ti58, ti81, ti116, ti121, un3, un4, un5, un9, un22, un23, un25, un26, un29, un32, un35, un47, un53, un55, un58, un59, un79, un90, un113, un116, S1_fw, U1_fw, I1_fw, Pr.fw, So.fw] <;> rfl) ?_
  refine awp_block ?_
  refine awp_for [0, 1, 7, 8] (fun i : Nat => [.vec (us.map I1) false, .func (.func f) [] caps, .int .i64 (us.length : Int), .int .i64 (i : Int)]) (fun _ => H) (fun i => us.length - i) (fun i => i ≤ us.length ∧ ∀ j y, j < i → us[j]? = some y → q y = false) 0 rfl rfl ⟨Nat.zero_le _, fun j y hj => by omega⟩ fun i hs => ?_
  obtain ⟨hil, hno⟩ := hs
  refine awp_seq ?_
  refine awp_run rfl (by simp only [fwA, ↓reduceIte, Nat.reduceAdd, Nat.reduceMul, Nat.reduceEqDiff, Nat.reduceLT, Nat.reduceLeDiff, reduceCtorEq, bitfw, List.length_map, List.getElem?_map, Option.map_some, Int.natCast_nonneg, Int.toNat_natCast, decide_true, decide_false, Bool.and_true, Bool.and_self, Bool.not_true, Bool.not_false, Bool.false_and, Bool.true_and, el22, el23, el25, el26, el29, el32, el47, el79, el121, fl28_0, fl28_1, fl37_0, fl37_1, fl43_0, fl43_1, fl57_0, fl57_1, pl28, pl37, pl43, pl57, ti3, ti4, ti5, ti9, ti22, ti25, ti26, ti28, ti32, ti35, ti37, ti43, ti53, ti55, ti57, ti58, ti81, ti116, ti121, un3, un4, un5, un9, un22, un23, un25, un26, un29, un32, un35, un47, un53, un55, un58, un59, un79, un90, un113, un116, S1_fw, U1_fw, I1_fw, Pr.fw, So.fw] <;> rfl) ?_
  refine awp_seq ?_
  refine awp_cond (by simp only [fwA, ↓reduceIte, Nat.reduceAdd, Nat.reduceMul, Nat.reduceEqDiff, Nat.reduceLT, Nat.reduceLeDiff, reduceCtorEq] <;> rfl) ?_
  by_cases hc : (i : Int) < us.length
  rotate_left
  · simp only [hc, decide_false, Bool.false_eq_true, ↓reduceIte]
    refine awp_exit ?_
    have e : i = us.length := by omega
    subst e
    refine awp_seq ?_
    refine awp_run rfl (by simp only [fwA, ↓reduceIte, Nat.reduceAdd, Nat.reduceMul, Nat.reduceEqDiff, Nat.reduceLT, Nat.reduceLeDiff, reduceCtorEq] <;> rfl) ?_
    refine awp_ret ?_
    exact calls_end0 (p := .int .i64 (idxG q us)) (.inl rfl) hbd (by rw [idxG_none hno]; rfl) rfl ⟨rfl, rfl⟩
  simp only [hc, decide_true, ↓reduceIte]
  refine awp_skip ?_
  have hill : i < us.length := by omega
  have ga : us[i]? = some us[i] := List.getElem?_eq_getElem hill
  have hfx := hf us[i] (List.getElem_mem hill)
  generalize us[i] = x at ga hfx
  have hwi : IntKind.i64.wrap ((i : Int) + 1) = ((i + 1 : Nat) : Int) := wrapS i (by omega)
  refine awp_seq ?_
  refine awp_block ?_
  refine awp_seq ?_
  refine awp_run rfl (by simp only [fwA, ↓reduceIte, Nat.reduceAdd, Nat.reduceMul, Nat.reduceEqDiff, Nat.reduceLT, Nat.reduceLeDiff, reduceCtorEq] <;> rfl) ?_
  refine awp_seq ?_
  refine awp_region rfl ?_
  refine aops_run 5 (by simp only [fwA, ↓reduceIte, Nat.reduceAdd, Nat.reduceMul, Nat.reduceEqDiff, Nat.reduceLT, Nat.reduceLeDiff, reduceCtorEq, bitfw, List.length_map, List.getElem?_map, Option.map_some, Int.natCast_nonneg, Int.toNat_natCast, decide_true, decide_false, Bool.and_true, Bool.and_self, Bool.not_true, Bool.not_false, Bool.false_and, Bool.true_and, el22, el23, el25, el26, el29, el32, el47, el79, el121, fl28_0, fl28_1, fl37_0, fl37_1, fl43_0, fl43_1, fl57_0, fl57_1, pl28, pl37, pl43, pl57, ti3, ti4, ti5, ti9, ti22, ti25, ti26, ti28, ti32, ti35, ti37, ti43, ti53, ti55, ti57, ti58, ti81, ti116, ti121, un3, un4, un5, un9, un22, un23, un25, un26, un29, un32, un35, un47, un53, un55, un58, un59, un79, un90, un113, un116, S1_fw, U1_fw, I1_fw, Pr.fw, So.fw, ga] <;> rfl) ?_
  refine aops_call rfl rfl rfl he (hfx.mono fun p H' hp => ?_)
  obtain ⟨rfl, e⟩ := hp
  rw [e]
  refine aops_end ?_
  refine awp_cond (by simp only [fwA, ↓reduceIte, Nat.reduceAdd, Nat.reduceMul, Nat.reduceEqDiff, Nat.reduceLT, Nat.reduceLeDiff, reduceCtorEq] <;> rfl) ?_
  cases hq : q x
  · simp only [Bool.false_eq_true, ↓reduceIte]
    refine awp_skip ?_
    refine awp_run rfl (by simp only [fwA, ↓reduceIte, Nat.reduceAdd, Nat.reduceMul, Nat.reduceEqDiff, Nat.reduceLT, Nat.reduceLeDiff, reduceCtorEq] <;> rfl) ?_
    refine ⟨i + 1, by omega, ⟨by omega, fun j y hj hy => ?_⟩, ?_, rfl, rfl⟩
    · by_cases hji : j = i
      · subst hji; rw [ga] at hy; cases hy; exact hq
      · exact hno j y (by omega) hy
    · simp only [fwA, ↓reduceIte, Nat.reduceAdd, Nat.reduceMul, Nat.reduceEqDiff, Nat.reduceLT, Nat.reduceLeDiff, reduceCtorEq, List.map_cons, List.map_nil, hwi]
  · simp only [↓reduceIte]
    refine awp_seq ?_
    refine awp_run rfl (by simp only [fwA, ↓reduceIte, Nat.reduceAdd, Nat.reduceMul, Nat.reduceEqDiff, Nat.reduceLT, Nat.reduceLeDiff, reduceCtorEq] <;> rfl) ?_
    refine awp_ret ?_
    simp only [Post.block, Post.then]
    exact calls_end0 (p := .int .i64 (idxG q us)) (.inl rfl) hbd (by rw [idxG_some hno ga hq]; rfl) rfl ⟨rfl, rfl⟩

/- slices.ContainsFunc, numbers -/
theorem c44 (Γ : Nat → PV) (f : Nat) (he : Enters Tryd.prog f) (caps : List PV) (q : Int → Bool) (us : List Int) (H : List Blk) (hf : ∀ x ∈ us, ACalls Tryd.prog Γ f (.int .i64 x :: caps) H (fun p H' => p = .bool (q x) ∧ H' = H)) :
    ACalls Tryd.prog Γ 44 [.vec (us.map I1) false, .func (.func f) [] caps] H (fun p H' => p = .bool (us.any q) ∧ H' = H) := by
  refine acalls_of_awp Tryd.func44 rfl (by simp [Tryd.f44]) fun hbd => ?_
  refine awp_seq ?_
  refine awp_run rfl (by simp only [fwA, ↓reduceIte, Nat.reduceAdd, Nat.reduceMul, Nat.reduceEqDiff, Nat.reduceLT, Nat.reduceLeDiff, reduceCtorEq] <;> rfl) ?_
  refine awp_seq ?_
  refine awp_region rfl ?_
  refine aops_run 2 (by simp only [fwA, ↓reduceIte, Nat.reduceAdd, Nat.reduceMul, Nat.reduceEqDiff, Nat.reduceLT, Nat.reduceLeDiff, reduceCtorEq, bitfw, List.length_map, List.getElem?_map, Option.map_some, Int.natCast_nonneg, Int.toNat_natCast, decide_true, decide_false, Bool.and_true, Bool.and_self, Bool.not_true, Bool.not_false, Bool.false_and, Bool.true_and, el22, el23, el25, el26, el29, el32, el47, el79, el121, fl28_0, fl28_1, fl37_0, fl37_1, fl43_0, fl43_1, fl57_0, fl57_1, pl28, pl37, pl43, pl57, ti3, ti4, ti5, ti9, ti22, ti25, ti26, ti28, ti32, ti35, ti37, ti43, ti53, ti55, ti57, ti58, ti81, ti116, ti121, un3, un4, un5, un9, un22, un23, un25, un26, un29, un32, un35, un47, un53, un55, un58, un59, un79, un90, un113, un116, S1_fw, U1_fw, I1_fw, Pr.fw, So.fw] <;> rfl) ?_
  refine aops_call rfl rfl rfl en56 ((c56 Γ f he caps q us H hf).mono fun p H' hp => ?_)
  obtain ⟨rfl, rfl⟩ := hp
  refine aops_run 2 (by simp only [fwA, ↓reduceIte, Nat.reduceAdd, Nat.reduceMul, Nat.reduceEqDiff, Nat.reduceLT, Nat.reduceLeDiff, reduceCtorEq, bitfw, List.length_map, List.getElem?_map, Option.map_some, Int.natCast_nonneg, Int.toNat_natCast, decide_true, decide_false, Bool.and_true, Bool.and_self, Bool.not_true, Bool.not_false, Bool.false_and, Bool.true_and, el22, el23, el25, el26, el29, el32, el47, el79, el121, fl28_0, fl28_1, fl37_0, fl37_1, fl43_0, fl43_1, fl57_0, fl57_1, pl28, pl37, pl43, pl57, ti3, ti4, ti5, ti9, ti22, ti25, ti26, ti28, ti32, ti35, ti37, ti43, ti53, ti55, ti57, ti58, ti81, ti116, ti121, un3, un4, un5, un9, un22, un23, un25, un26, un29, un32, un35, un47, un53, un55, un58, un59, un79, un90, un113, un116, S1_fw, U1_fw, I1_fw, Pr.fw, So.fw] <;> rfl) ?_
  refine aops_end ?_
  refine awp_ret ?_
  exact calls_end0 (p := .bool (us.any q)) (.inl rfl) hbd (by rw [← idxG_lt]; rfl) rfl ⟨rfl, rfl⟩

/- slices.IndexFunc, solutions -/
theorem c34 (Γ : Nat → PV) (f : Nat) (he : Enters Tryd.prog f) (caps : List PV) (q : So → Bool) (us : List So) (H : List Blk) (hf : ∀ x ∈ us, ACalls Tryd.prog Γ f (.agg x.enc :: caps) H (fun p H' => p = .bool (q x) ∧ H' = H)) :
    ACalls Tryd.prog Γ 34 [.vec (us.map So.enc) false, .func (.func f) [] caps] H (fun p H' => p = .int .i64 (idxG q us) ∧ H' = H) := by
  refine acalls_of_awp Tryd.func34 rfl (by simp [Tryd.f34]) fun hbd => ?_
  refine awp_vlen 0 rfl fun hsl => ?_
  rw [List.length_map] at hsl
  refine awp_seq ?_
  refine awp_run rfl (by simp only [fwA, ↓reduceIte, Nat.reduceAdd, Nat.reduceMul, Nat.reduceEqDiff, Nat.reduceLT, Nat.reduceLeDiff, reduceCtorEq] <;> rfl) ?_
  refine awp_seq ?_
  refine awp_seq ?_
  refine awp_run rfl (by simp only [fwA, ↓reduceIte, Nat.reduceAdd, Nat.reduceMul, Nat.reduceEqDiff, Nat.reduceLT, Nat.reduceLeDiff, reduceCtorEq, bitfw, List.length_map, List.getElem?_map, Option.map_some, Int.natCast_nonneg, Int.toNat_natCast, decide_true, decide_false, Bool.and_true, Bool.and_self, Bool.not_true, Bool.not_false, Bool.false_and, Bool.true_and, el22, el23, el25, el26, el29, el32, el47, el79, el121, fl28_0, fl28_1, fl37_0, fl37_1, fl43_0, fl43_1, fl57_0, fl57_1, pl28, pl37, pl43, pl57, ti3, ti4, ti5, ti9, ti22, ti25, ti26, ti28, ti32, ti35, ti37, ti43, ti53, ti55, ti57, ti58, ti81, ti116, ti121, un3, un4, un5, un9, un22, un23, un25, un26, un29, un32, un35, un47, un53, un55, un58, un59, un79, un90, un113, un116, S1_fw, U1_fw, I1_fw, Pr.fw, So.fw] <;> rfl) ?_
  refine awp_block ?_
  refine awp_for [0, 1, 7, 8] (fun i : Nat => [.vec (us.map So.enc) false, .func (.func f) [] caps, .int .i64 (us.length : Int), .int .i64 (i : Int)]) (fun _ => H) (fun i => us.length - i) (fun i => i ≤ us.length ∧ ∀ j y, j < i → us[j]? = some y → q y = false) 0 rfl rfl ⟨Nat.zero_le _, fun j y hj => by omega⟩ fun i hs => ?_
  obtain ⟨hil, hno⟩ := hs
  refine awp_seq ?_
  refine awp_run rfl (by simp only [fwA, ↓reduceIte, Nat.reduceAdd, Nat.reduceMul, Nat.reduceEqDiff, Nat.reduceLT, Nat.reduceLeDiff, reduceCtorEq, bitfw, List.length_map, List.getElem?_map, Option.map_some, Int.natCast_nonneg, Int.toNat_natCast, decide_true, decide_false, Bool.and_true, Bool.and_self, Bool.not_true, Bool.not_false, Bool.false_and, Bool.true_and, el22, el23, el25, el26, el29, el32, el47, el79, el121, fl28_0, fl28_1, fl37_0, fl37_1, fl43_0, fl43_1, fl57_0, fl57_1, pl28, pl37, pl43, pl57, ti3, ti4, ti5, ti9, ti22, ti25, ti26, ti28, ti32, ti35, ti37, ti43, ti53, ti55, ti57, ti58, ti81, ti116, ti121, un3, un4, un5, un9, un22, un23, un25, un26, un29, un32, un35, un47, un53, un55, un58, un59, un79, un90, un113, un116, S1_fw, U1_fw, I1_fw, Pr.fw, So.fw] <;> rfl) ?_
  refine awp_seq ?_
  refine awp_cond (by simp only [fwA, ↓reduceIte, Nat.reduceAdd, Nat.reduceMul, Nat.reduceEqDiff, Nat.reduceLT, Nat.reduceLeDiff, reduceCtorEq] <;> rfl) ?_
  by_cases hc : (i : Int) < us.length
  rotate_left
  · simp only [hc, decide_false, Bool.false_eq_true, ↓reduceIte]
    refine awp_exit ?_
    have e : i = us.length := by omega
    subst e
    refine awp_seq ?_
    refine awp_run rfl (by simp only [fwA, ↓reduceIte, Nat.reduceAdd, Nat.reduceMul, Nat.reduceEqDiff, Nat.reduceLT, Nat.reduceLeDiff, reduceCtorEq] <;> rfl) ?_
    refine awp_ret ?_
    exact calls_end0 (p := .int .i64 (idxG q us)) (.inl rfl) hbd (by rw [idxG_none hno]; rfl) rfl ⟨rfl, rfl⟩
  simp only [hc, decide_true, ↓reduceIte]
  refine awp_skip ?_
  have hill : i < us.length := by omega
  have ga : us[i]? = some us[i] := List.getElem?_eq_getElem hill
  have hfx := hf us[i] (List.getElem_mem hill)
  generalize us[i] = x at ga hfx
  have hwi : IntKind.i64.wrap ((i : Int) + 1) = ((i + 1 : Nat) : Int) := wrapS i (by omega)
  refine awp_seq ?_
  refine awp_block ?_
  refine awp_seq ?_
  refine awp_run rfl (by simp only [fwA, ↓reduceIte, Nat.reduceAdd, Nat.reduceMul, Nat.reduceEqDiff, Nat.reduceLT, Nat.reduceLeDiff, reduceCtorEq] <;> rfl) ?_
  refine awp_seq ?_
  refine awp_region rfl ?_
  refine aops_run 5 (by simp only [fwA, ↓reduceIte, Nat.reduceAdd, Nat.reduceMul, Nat.reduceEqDiff, Nat.reduceLT, Nat.reduceLeDiff, reduceCtorEq, bitfw, List.length_map, List.getElem?_map, Option.map_some, Int.natCast_nonneg, Int.toNat_natCast, decide_true, decide_false, Bool.and_true, Bool.and_self, Bool.not_true, Bool.not_false, Bool.false_and, Bool.true_and, el22, el23, el25, el26, el29, el32, el47, el79, el121, fl28_0, fl28_1, fl37_0, fl37_1, fl43_0, fl43_1, fl57_0, fl57_1, pl28, pl37, pl43, pl57, ti3, ti4, ti5, ti9, ti22, ti25, ti26, ti28, ti32, ti35, ti37, ti43, ti53, ti55, ti57, ti58, ti81, ti116, ti121, un3, un4, un5, un9, un22, un23, un25, un26, un29, un32, un35, un47, un53, un55, un58, un59, un79, un90, un113, un116, S1_fw, U1_fw, I1_fw, Pr.fw, So.fw, ga] <;> rfl) ?_
  refine aops_call rfl rfl rfl he (hfx.mono fun p H' hp => ?_)
  obtain ⟨rfl, e⟩ := hp
  rw [e]
  refine aops_end ?_
  refine awp_cond (by simp only [fwA, ↓reduceIte, Nat.reduceAdd, Nat.reduceMul, Nat.reduceEqDiff, Nat.reduceLT, Nat.reduceLeDiff, reduceCtorEq] <;> rfl) ?_
  cases hq : q x
  · simp only [Bool.false_eq_true, ↓reduceIte]
    refine awp_skip ?_
    refine awp_run rfl (by simp only [fwA, ↓reduceIte, Nat.reduceAdd, Nat.reduceMul, Nat.reduceEqDiff, Nat.reduceLT, Nat.reduceLeDiff, reduceCtorEq] <;> rfl) ?_
    refine ⟨i + 1, by omega, ⟨by omega, fun j y hj hy => ?_⟩, ?_, rfl, rfl⟩
    · by_cases hji : j = i
      · subst hji; rw [ga] at hy; cases hy; exact hq
      · exact hno j y (by omega) hy
    · simp only [fwA, ↓reduceIte, Nat.reduceAdd, Nat.reduceMul, Nat.reduceEqDiff, Nat.reduceLT, Nat.reduceLeDiff, reduceCtorEq, List.map_cons, List.map_nil, hwi]
  · simp only [↓reduceIte]
    refine awp_seq ?_
    refine awp_run rfl (by simp only [fwA, ↓reduceIte, Nat.reduceAdd, Nat.reduceMul, Nat.reduceEqDiff, Nat.reduceLT, Nat.reduceLeDiff, reduceCtorEq] <;> rfl) ?_
    refine awp_ret ?_
    simp only [Post.block, Post.then]
    exact calls_end0 (p := .int .i64 (idxG q us)) (.inl rfl) hbd (by rw [idxG_some hno ga hq]; rfl) rfl ⟨rfl, rfl⟩

/- slices.ContainsFunc, solutions -/
theorem c28 (Γ : Nat → PV) (f : Nat) (he : Enters Tryd.prog f) (caps : List PV) (q : So → Bool) (us : List So) (H : List Blk) (hf : ∀ x ∈ us, ACalls Tryd.prog Γ f (.agg x.enc :: caps) H (fun p H' => p = .bool (q x) ∧ H' = H)) :
    ACalls Tryd.prog Γ 28 [.vec (us.map So.enc) false, .func (.func f) [] caps] H (fun p H' => p = .bool (us.any q) ∧ H' = H) := by
  refine acalls_of_awp Tryd.func28 rfl (by simp [Tryd.f28]) fun hbd => ?_
  refine awp_seq ?_
  refine awp_run rfl (by simp only [fwA, ↓reduceIte, Nat.reduceAdd, Nat.reduceMul, Nat.reduceEqDiff, Nat.reduceLT, Nat.reduceLeDiff, reduceCtorEq] <;> rfl) ?_
  refine awp_seq ?_
  refine awp_region rfl ?_
  refine aops_run 2 (by simp only [fwA, ↓reduceIte, Nat.reduceAdd, Nat.reduceMul, Nat.reduceEqDiff, Nat.reduceLT, Nat.reduceLeDiff, reduceCtorEq, bitfw, List.length_map, List.getElem?_map, Option.map_some, Int.natCast_nonneg, Int.toNat_natCast, decide_true, decide_false, Bool.and_true, Bool.and_self, Bool.not_true, Bool.not_false, Bool.false_and, Bool.true_and, el22, el23, el25, el26, el29, el32, el47, el79, el121, fl28_0, fl28_1, fl37_0, fl37_1, fl43_0, fl43_1, fl57_0, fl57_1, pl28, pl37, pl43, pl57, ti3, ti4, ti5, ti9, ti22, ti25, ti26, ti28, ti32, ti35, ti37, ti43, ti53, ti55, ti57, ti58, ti81, ti116, ti121, un3, un4, un5, un9, un22, un23, un25, un26, un29, un32, un35, un47, un53, un55, un58, un59, un79, un90, un113, un116, S1_fw, U1_fw, I1_fw, Pr.fw, So.fw] <;> rfl) ?_
  refine aops_call rfl rfl rfl en34 ((c34 Γ f he caps q us H hf).mono fun p H' hp => ?_)
  obtain ⟨rfl, rfl⟩ := hp
  refine aops_run 2 (by simp only [fwA, ↓reduceIte, Nat.reduceAdd, Nat.reduceMul, Nat.reduceEqDiff, Nat.reduceLT, Nat.reduceLeDiff, reduceCtorEq, bitfw, List.length_map, List.getElem?_map, Option.map_some, Int.natCast_nonneg, Int.toNat_natCast, decide_true, decide_false, Bool.and_true, Bool.and_self, Bool.not_true, Bool.not_false, Bool.false_and, Bool.true_and, el22, el23, el25, el26, el29, el32, el47, el79, el121, fl28_0, fl28_1, fl37_0, fl37_1, fl43_0, fl43_1, fl57_0, fl57_1, pl28, pl37, pl43, pl57, ti3, ti4, ti5, ti9, ti22, ti25, ti26, ti28, ti32, ti35, ti37, ti43, ti53, ti55, ti57, ti58, ti81, ti116, ti121, un3, un4, un5, un9, un22, un23, un25, un26, un29, un32, un35, un47, un53, un55, un58, un59, un79, un90, un113, un116, S1_fw, U1_fw, I1_fw, Pr.fw, So.fw] <;> rfl) ?_
  refine aops_end ?_
  refine awp_ret ?_
  exact calls_end0 (p := .bool (us.any q)) (.inl rfl) hbd (by rw [← idxG_lt]; rfl) rfl ⟨rfl, rfl⟩

/- slices.IndexFunc, pairs -/
theorem c48 (Γ : Nat → PV) (f : Nat) (he : Enters Tryd.prog f) (caps : List PV) (q : Pr → Bool) (us : List Pr) (H : List Blk) (hf : ∀ x ∈ us, ACalls Tryd.prog Γ f (.agg x.enc :: caps) H (fun p H' => p = .bool (q x) ∧ H' = H)) :
    ACalls Tryd.prog Γ 48 [.vec (us.map Pr.enc) false, .func (.func f) [] caps] H (fun p H' => p = .int .i64 (idxG q us) ∧ H' = H) := by
  refine acalls_of_awp Tryd.func48 rfl (by simp [Tryd.f48]) fun hbd => ?_
  refine awp_vlen 0 rfl fun hsl => ?_
  rw [List.length_map] at hsl
  refine awp_seq ?_
  refine awp_run rfl (by simp only [fwA, ↓reduceIte, Nat.reduceAdd, Nat.reduceMul, Nat.reduceEqDiff, Nat.reduceLT, Nat.reduceLeDiff, reduceCtorEq] <;> rfl) ?_
  refine awp_seq ?_
  refine awp_seq ?_
  refine awp_run rfl (by simp only [fwA, ↓reduceIte, Nat.reduceAdd, Nat.reduceMul, Nat.reduceEqDiff, Nat.reduceLT, Nat.reduceLeDiff, reduceCtorEq, bitfw, List.length_map, List.getElem?_map, Option.map_some, Int.natCast_nonneg, Int.toNat_natCast, decide_true, decide_false, Bool.and_true, Bool.and_self, Bool.not_true, Bool.not_false, Bool.false_and, Bool.true_and, el22, el23, el25, el26, el29, el32, el47, el79, el121, fl28_0, fl28_1, fl37_0, fl37_1, fl43_0, fl43_1, fl57_0, fl57_1, pl28, pl37, pl43, pl57, ti3, ti4, ti5, ti9, ti22, ti25, ti26, ti28, ti32, ti35, ti37, ti43, ti53, ti55, ti57, ti58, ti81, ti116, ti121, un3, un4, un5, un9, un22, un23, un25, un26, un29, un32, un35, un47, un53, un55, un58, un59, un79, un90, un113, un116, S1_fw, U1_fw, I1_fw, Pr.fw, So.fw] <;> rfl) ?_
  refine awp_block ?_
  refine awp_for [0, 1, 7, 8] (fun i : Nat => [.vec (us.map Pr.enc) false, .func (.func f) [] caps, .int .i64 (us.length : Int), .int .i64 (i : Int)]) (fun _ => H) (fun i => us.length - i) (fun i => i ≤ us.length ∧ ∀ j y, j < i → us[j]? = some y → q y = false) 0 rfl rfl ⟨Nat.zero_le _, fun j y hj => by omega⟩ fun i hs => ?_
  obtain ⟨hil, hno⟩ := hs
  refine awp_seq ?_
  refine awp_run rfl (by simp only [fwA, ↓reduceIte, Nat.reduceAdd, Nat.reduceMul, Nat.reduceEqDiff, Nat.reduceLT, Nat.reduceLeDiff, reduceCtorEq, bitfw, List.length_map, List.getElem?_map, Option.map_some, Int.natCast_nonneg, Int.toNat_natCast, decide_true, decide_false, Bool.and_true, Bool.and_self, Bool.not_true, Bool.not_false, Bool.false_and, Bool.true_and, el22, el23, el25, el26, el29, el32, el47, el79, el121, fl28_0, fl28_1, fl37_0, fl37_1, fl43_0, fl43_1, fl57_0, fl57_1, pl28, pl37, pl43, pl57, ti3, ti4, ti5, ti9, ti22, ti25, ti26, ti28, ti32, ti35, ti37, ti43, ti53, ti55, ti57, ti58, ti81, ti116, ti121, un3, un4, un5, un9, un22, un23, un25, un26, un29, un32, un35, un47, un53, un55, un58, un59, un79, un90, un113, un116, S1_fw, U1_fw, I1_fw, Pr.fw, So.fw] <;> rfl) ?_
  refine awp_seq ?_
  refine awp_cond (by simp only [fwA, ↓reduceIte, Nat.reduceAdd, Nat.reduceMul, Nat.reduceEqDiff, Nat.reduceLT, Nat.reduceLeDiff, reduceCtorEq] <;> rfl) ?_
  by_cases hc : (i : Int) < us.length
  rotate_left
  · simp only [hc, decide_false, Bool.false_eq_true, ↓reduceIte]
    refine awp_exit ?_
    have e : i = us.length := by omega
    subst e
    refine awp_seq ?_
    refine awp_run rfl (by simp only [fwA, ↓reduceIte, Nat.reduceAdd, Nat.reduceMul, Nat.reduceEqDiff, Nat.reduceLT, Nat.reduceLeDiff, reduceCtorEq] <;> rfl) ?_
    refine awp_ret ?_
    exact calls_end0 (p := .int .i64 (idxG q us)) (.inl rfl) hbd (by rw [idxG_none hno]; rfl) rfl ⟨rfl, rfl⟩
  simp only [hc, decide_true, ↓reduceIte]
  refine awp_skip ?_
  have hill : i < us.length := by omega
  have ga : us[i]? = some us[i] := List.getElem?_eq_getElem hill
  have hfx := hf us[i] (List.getElem_mem hill)
  generalize us[i] = x at ga hfx
  have hwi : IntKind.i64.wrap ((i : Int) + 1) = ((i + 1 : Nat) : Int) := wrapS i (by omega)
  refine awp_seq ?_
  refine awp_block ?_
  refine awp_seq ?_
  refine awp_run rfl (by simp only [fwA, ↓reduceIte, Nat.reduceAdd, Nat.reduceMul, Nat.reduceEqDiff, Nat.reduceLT, Nat.reduceLeDiff, reduceCtorEq] <;> rfl) ?_
  refine awp_seq ?_
  refine awp_region rfl ?_
  refine aops_run 5 (by simp only [fwA, ↓reduceIte, Nat.reduceAdd, Nat.reduceMul, Nat.reduceEqDiff, Nat.reduceLT, Nat.reduceLeDiff, reduceCtorEq, bitfw, List.length_map, List.getElem?_map, Option.map_some, Int.natCast_nonneg, Int.toNat_natCast, decide_true, decide_false, Bool.and_true, Bool.and_self, Bool.not_true, Bool.not_false, Bool.false_and, Bool.true_and, el22, el23, el25, el26, el29, el32, el47, el79, el121, fl28_0, fl28_1, fl37_0, fl37_1, fl43_0, fl43_1, fl57_0, fl57_1, pl28, pl37, pl43, pl57, ti3, ti4, ti5, ti9, ti22, ti25, ti26, ti28, ti32, ti35, ti37, ti43, ti53, ti55, ti57, ti58, ti81, ti116, ti121, un3, un4, un5, un9, un22, un23, un25, un26, un29, un32, un35, un47, un53, un55, un58, un59, un79, un90, un113, un116, S1_fw, U1_fw, I1_fw, Pr.fw, So.fw, ga] <;> rfl) ?_
  refine aops_call rfl rfl rfl he (hfx.mono fun p H' hp => ?_)
  obtain ⟨rfl, e⟩ := hp
  rw [e]
  refine aops_end ?_
  refine awp_cond (by simp only [fwA, ↓reduceIte, Nat.reduceAdd, Nat.reduceMul, Nat.reduceEqDiff, Nat.reduceLT, Nat.reduceLeDiff, reduceCtorEq] <;> rfl) ?_
  cases hq : q x
  · simp only [Bool.false_eq_true, ↓reduceIte]
    refine awp_skip ?_
    refine awp_run rfl (by simp only [fwA, ↓reduceIte, Nat.reduceAdd, Nat.reduceMul, Nat.reduceEqDiff, Nat.reduceLT, Nat.reduceLeDiff, reduceCtorEq] <;> rfl) ?_
    refine ⟨i + 1, by omega, ⟨by omega, fun j y hj hy => ?_⟩, ?_, rfl, rfl⟩
    · by_cases hji : j = i
      · subst hji; rw [ga] at hy; cases hy; exact hq
      · exact hno j y (by omega) hy
    · simp only [fwA, ↓reduceIte, Nat.reduceAdd, Nat.reduceMul, Nat.reduceEqDiff, Nat.reduceLT, Nat.reduceLeDiff, reduceCtorEq, List.map_cons, List.map_nil, hwi]
  · simp only [↓reduceIte]
    refine awp_seq ?_
    refine awp_run rfl (by simp only [fwA, ↓reduceIte, Nat.reduceAdd, Nat.reduceMul, Nat.reduceEqDiff, Nat.reduceLT, Nat.reduceLeDiff, reduceCtorEq] <;> rfl) ?_
    refine awp_ret ?_
    simp only [Post.block, Post.then]
    exact calls_end0 (p := .int .i64 (idxG q us)) (.inl rfl) hbd (by rw [idxG_some hno ga hq]; rfl) rfl ⟨rfl, rfl⟩

/- slices.ContainsFunc, pairs -/
theorem c31 (Γ : Nat → PV) (f : Nat) (he : Enters Tryd.prog f) (caps : List PV) (q : Pr → Bool) (us : List Pr) (H : List Blk) (hf : ∀ x ∈ us, ACalls Tryd.prog Γ f (.agg x.enc :: caps) H (fun p H' => p = .bool (q x) ∧ H' = H)) :
    ACalls Tryd.prog Γ 31 [.vec (us.map Pr.enc) false, .func (.func f) [] caps] H (fun p H' => p = .bool (us.any q) ∧ H' = H) := by
  refine acalls_of_awp Tryd.func31 rfl (by simp [Tryd.f31]) fun hbd => ?_
  refine awp_seq ?_
  refine awp_run rfl (by simp only [fwA, ↓reduceIte, Nat.reduceAdd, Nat.reduceMul, Nat.reduceEqDiff, Nat.reduceLT, Nat.reduceLeDiff, reduceCtorEq] <;> rfl) ?_
  refine awp_seq ?_
  refine awp_region rfl ?_
  refine aops_run 2 (by simp only [fwA, ↓reduceIte, Nat.reduceAdd, Nat.reduceMul, Nat.reduceEqDiff, Nat.reduceLT, Nat.reduceLeDiff, reduceCtorEq, bitfw, List.length_map, List.getElem?_map, Option.map_some, Int.natCast_nonneg, Int.toNat_natCast, decide_true, decide_false, Bool.and_true, Bool.and_self, Bool.not_true, Bool.not_false, Bool.false_and, Bool.true_and, el22, el23, el25, el26, el29, el32, el47, el79, el121, fl28_0, fl28_1, fl37_0, fl37_1, fl43_0, fl43_1, fl57_0, fl57_1, pl28, pl37, pl43, pl57, ti3, ti4, ti5, ti9, ti22, ti25, ti26, ti28, ti32, ti35, ti37, ti43, ti53, ti55, ti57, ti58, ti81, ti116, ti121, un3, un4, un5, un9, un22, un23, un25, un26, un29, un32, un35, un47, un53, un55, un58, un59, un79, un90, un113, un116, S1_fw, U1_fw, I1_fw, Pr.fw, So.fw] <;> rfl) ?_
  refine aops_call rfl rfl rfl en48 ((c48 Γ f he caps q us H hf).mono fun p H' hp => ?_)
  obtain ⟨rfl, rfl⟩ := hp
  refine aops_run 2 (by simp only [fwA, ↓reduceIte, Nat.reduceAdd, Nat.reduceMul, Nat.reduceEqDiff, Nat.reduceLT, Nat.reduceLeDiff, reduceCtorEq, bitfw, List.length_map, List.getElem?_map, Option.map_some, Int.natCast_nonneg, Int.toNat_natCast, decide_true, decide_false, Bool.and_true, Bool.and_self, Bool.not_true, Bool.not_false, Bool.false_and, Bool.true_and, el22, el23, el25, el26, el29, el32, el47, el79, el121, fl28_0, fl28_1, fl37_0, fl37_1, fl43_0, fl43_1, fl57_0, fl57_1, pl28, pl37, pl43, pl57, ti3, ti4, ti5, ti9, ti22, ti25, ti26, ti28, ti32, ti35, ti37, ti43, ti53, ti55, ti57, ti58, ti81, ti116, ti121, un3, un4, un5, un9, un22, un23, un25, un26, un29, un32, un35, un47, un53, un55, un58, un59, un79, un90, un113, un116, S1_fw, U1_fw, I1_fw, Pr.fw, So.fw] <;> rfl) ?_
  refine aops_end ?_
  refine awp_ret ?_
  exact calls_end0 (p := .bool (us.any q)) (.inl rfl) hbd (by rw [← idxG_lt]; rfl) rfl ⟨rfl, rfl⟩

/- chancel/solve.point -/
theorem c30 (Γ : Nat → PV) (ns : List (List UInt8)) (us : List Nat) (p : Int) : Gives Tryd.prog Γ 30 [.agg [.vec (ns.map S1) false, .vec (us.map U1) false], .int .i64 p] (.bool (ptB ns.length p)) := by
  refine fn_of_awp Tryd.func30 rfl (by simp [Tryd.f30]) rfl fun H => ?_
  refine awp_seq ?_
  refine awp_run rfl (by simp only [fwA, ↓reduceIte, Nat.reduceAdd, Nat.reduceMul, Nat.reduceEqDiff, Nat.reduceLT, Nat.reduceLeDiff, reduceCtorEq] <;> rfl) ?_
  refine awp_seq ?_
  unfold ptB
  by_cases h : (0 : Int) ≤ p
  · refine awp_run rfl (by simp only [fwA, ↓reduceIte, Nat.reduceAdd, Nat.reduceMul, Nat.reduceEqDiff, Nat.reduceLT, Nat.reduceLeDiff, reduceCtorEq, bitfw, List.length_map, List.getElem?_map, Option.map_some, Int.natCast_nonneg, Int.toNat_natCast, decide_true, decide_false, Bool.and_true, Bool.and_self, Bool.not_true, Bool.not_false, Bool.false_and, Bool.true_and, el22, el23, el25, el26, el29, el32, el47, el79, el121, fl28_0, fl28_1, fl37_0, fl37_1, fl43_0, fl43_1, fl57_0, fl57_1, pl28, pl37, pl43, pl57, ti3, ti4, ti5, ti9, ti22, ti25, ti26, ti28, ti32, ti35, ti37, ti43, ti53, ti55, ti57, ti58, ti81, ti116, ti121, un3, un4, un5, un9, un22, un23, un25, un26, un29, un32, un35, un47, un53, un55, un58, un59, un79, un90, un113, un116, S1_fw, U1_fw, I1_fw, Pr.fw, So.fw, h] <;> rfl) ?_
    refine awp_ret ?_
    exact gives_end (.inl rfl) _ (by rw [decide_eq_true h, Bool.true_and]; rfl)
  · refine awp_run rfl (by simp only [fwA, ↓reduceIte, Nat.reduceAdd, Nat.reduceMul, Nat.reduceEqDiff, Nat.reduceLT, Nat.reduceLeDiff, reduceCtorEq, bitfw, List.length_map, List.getElem?_map, Option.map_some, Int.natCast_nonneg, Int.toNat_natCast, decide_true, decide_false, Bool.and_true, Bool.and_self, Bool.not_true, Bool.not_false, Bool.false_and, Bool.true_and, el22, el23, el25, el26, el29, el32, el47, el79, el121, fl28_0, fl28_1, fl37_0, fl37_1, fl43_0, fl43_1, fl57_0, fl57_1, pl28, pl37, pl43, pl57, ti3, ti4, ti5, ti9, ti22, ti25, ti26, ti28, ti32, ti35, ti37, ti43, ti53, ti55, ti57, ti58, ti81, ti116, ti121, un3, un4, un5, un9, un22, un23, un25, un26, un29, un32, un35, un47, un53, un55, un58, un59, un79, un90, un113, un116, S1_fw, U1_fw, I1_fw, Pr.fw, So.fw, h] <;> rfl) ?_
    refine awp_ret ?_
    exact gives_end (.inl rfl) _ (by rw [decide_eq_false h, Bool.false_and]; rfl)

end Go.Proofs.YtpkpbfemglmejaaDoor

/- The contracts of what is known; of values; of what solves. -/
namespace Go.Proofs.YtpkpbfemglmejaaDoor
set_option linter.unusedVariables false
set_option linter.unusedSimpArgs false
set_option maxRecDepth 100000
open Go.RowKit Fw

/- chancel/solve.Known's test -/
theorem c46 (Γ : Nat → PV) (ns : List (List UInt8)) (us : List Nat) (p : Int) (H : List Blk) (b : Nat) (hb : H[b]? = some (.box [.vec (ns.map S1) false, .vec (us.map U1) false])) :
    ACalls Tryd.prog Γ 46 [.int .i64 p, .ptr b 0] H (fun q H' => q = .bool (!ptB ns.length p) ∧ H' = H) := by
  have h30 := c30 Γ ns us p
  refine acalls_of_awp Tryd.func46 rfl (by simp [Tryd.f46]) fun hbd => ?_
  refine awp_seq ?_
  refine awp_run rfl (by simp only [fwA, ↓reduceIte, Nat.reduceAdd, Nat.reduceMul, Nat.reduceEqDiff, Nat.reduceLT, Nat.reduceLeDiff, reduceCtorEq] <;> rfl) ?_
  refine awp_seq ?_
  refine awp_region rfl ?_
  refine aops_run 2 (by simp only [fwA, ↓reduceIte, Nat.reduceAdd, Nat.reduceMul, Nat.reduceEqDiff, Nat.reduceLT, Nat.reduceLeDiff, reduceCtorEq, bitfw, List.length_map, List.getElem?_map, Option.map_some, Int.natCast_nonneg, Int.toNat_natCast, decide_true, decide_false, Bool.and_true, Bool.and_self, Bool.not_true, Bool.not_false, Bool.false_and, Bool.true_and, el22, el23, el25, el26, el29, el32, el47, el79, el121, fl28_0, fl28_1, fl37_0, fl37_1, fl43_0, fl43_1, fl57_0, fl57_1, pl28, pl37, pl43, pl57, ti3, ti4, ti5, ti9, ti22, ti25, ti26, ti28, ti32, ti35, ti37, ti43, ti53, ti55, ti57, ti58, ti81, ti116, ti121, un3, un4, un5, un9, un22, un23, un25, un26, un29, un32, un35, un47, un53, un55, un58, un59, un79, un90, un113, un116, S1_fw, U1_fw, I1_fw, Pr.fw, So.fw, hb] <;> rfl) ?_
  refine aops_fn rfl rfl rfl en30 h30 ?_
  refine aops_run 2 (by simp only [fwA, ↓reduceIte, Nat.reduceAdd, Nat.reduceMul, Nat.reduceEqDiff, Nat.reduceLT, Nat.reduceLeDiff, reduceCtorEq, bitfw, List.length_map, List.getElem?_map, Option.map_some, Int.natCast_nonneg, Int.toNat_natCast, decide_true, decide_false, Bool.and_true, Bool.and_self, Bool.not_true, Bool.not_false, Bool.false_and, Bool.true_and, el22, el23, el25, el26, el29, el32, el47, el79, el121, fl28_0, fl28_1, fl37_0, fl37_1, fl43_0, fl43_1, fl57_0, fl57_1, pl28, pl37, pl43, pl57, ti3, ti4, ti5, ti9, ti22, ti25, ti26, ti28, ti32, ti35, ti37, ti43, ti53, ti55, ti57, ti58, ti81, ti116, ti121, un3, un4, un5, un9, un22, un23, un25, un26, un29, un32, un35, un47, un53, un55, un58, un59, un79, un90, un113, un116, S1_fw, U1_fw, I1_fw, Pr.fw, So.fw, hb] <;> rfl) ?_
  refine aops_end ?_
  refine awp_ret ?_
  exact calls_end0 (p := .bool (!ptB ns.length p)) (.inl rfl) hbd rfl rfl ⟨rfl, rfl⟩

theorem any_all {X : Type} (l : List X) (q : X → Bool) : (l.any fun x => !q x) = !l.all q := by rw [List.not_all_eq_any_not]
/- chancel/solve.Known -/
theorem c22 (Γ : Nat → PV) (hΓ : Tab64 Γ) (ns : List (List UInt8)) (us : List Nat) (hw : W64 us) (c : List Pr) (hl : c.length ≤ 100000000) (ho : OkP c) : Gives Tryd.prog Γ 22 [.agg [.vec (ns.map S1) false, .vec (us.map U1) false], .vec (c.map Pr.enc) false] (.bool (knownB ns us c)) := by
  have h38 := c38 Γ hΓ ns us hw
  have h45 := c45 Γ c false hl ho
  refine fn_of_awp Tryd.func22 rfl (by simp [Tryd.f22]) rfl fun H => ?_
  refine awp_bd fun hbd0 => ?_
  refine awp_seq ?_
  refine awp_run rfl (by simp only [fwA, ↓reduceIte, Nat.reduceAdd, Nat.reduceMul, Nat.reduceEqDiff, Nat.reduceLT, Nat.reduceLeDiff, reduceCtorEq] <;> rfl) ?_
  have g0 : (H ++ [Blk.box [.vec (ns.map S1) false, .vec (us.map U1) false]])[H.length]? = some (.box [.vec (ns.map S1) false, .vec (us.map U1) false]) := by rw [Fw.get_at0]; rfl
  generalize hK : H ++ [Blk.box [.vec (ns.map S1) false, .vec (us.map U1) false]] = K at g0 ⊢
  unfold knownB
  have h44 := c44 Γ 46 en46 [.ptr H.length 0] (fun x => !ptB ns.length x) (gath gP c) K (fun x hx => c46 Γ ns us x K H.length g0)
  rw [any_all] at h44
  refine awp_seq ?_
  cases hR : rightB ns us
  · rw [hR] at h38
    refine awp_region rfl ?_
    refine aops_run 1 (by simp only [fwA, ↓reduceIte, Nat.reduceAdd, Nat.reduceMul, Nat.reduceEqDiff, Nat.reduceLT, Nat.reduceLeDiff, reduceCtorEq, bitfw, List.length_map, List.getElem?_map, Option.map_some, Int.natCast_nonneg, Int.toNat_natCast, decide_true, decide_false, Bool.and_true, Bool.and_self, Bool.not_true, Bool.not_false, Bool.false_and, Bool.true_and, el22, el23, el25, el26, el29, el32, el47, el79, el121, fl28_0, fl28_1, fl37_0, fl37_1, fl43_0, fl43_1, fl57_0, fl57_1, pl28, pl37, pl43, pl57, ti3, ti4, ti5, ti9, ti22, ti25, ti26, ti28, ti32, ti35, ti37, ti43, ti53, ti55, ti57, ti58, ti81, ti116, ti121, un3, un4, un5, un9, un22, un23, un25, un26, un29, un32, un35, un47, un53, un55, un58, un59, un79, un90, un113, un116, S1_fw, U1_fw, I1_fw, Pr.fw, So.fw, g0] <;> rfl) ?_
    refine aops_fn rfl rfl rfl en38 h38 ?_
    refine aops_run 8 (by simp only [fwA, ↓reduceIte, Nat.reduceAdd, Nat.reduceMul, Nat.reduceEqDiff, Nat.reduceLT, Nat.reduceLeDiff, reduceCtorEq, bitfw, List.length_map, List.getElem?_map, Option.map_some, Int.natCast_nonneg, Int.toNat_natCast, decide_true, decide_false, Bool.and_true, Bool.and_self, Bool.not_true, Bool.not_false, Bool.false_and, Bool.true_and, el22, el23, el25, el26, el29, el32, el47, el79, el121, fl28_0, fl28_1, fl37_0, fl37_1, fl43_0, fl43_1, fl57_0, fl57_1, pl28, pl37, pl43, pl57, ti3, ti4, ti5, ti9, ti22, ti25, ti26, ti28, ti32, ti35, ti37, ti43, ti53, ti55, ti57, ti58, ti81, ti116, ti121, un3, un4, un5, un9, un22, un23, un25, un26, un29, un32, un35, un47, un53, un55, un58, un59, un79, un90, un113, un116, S1_fw, U1_fw, I1_fw, Pr.fw, So.fw, g0] <;> rfl) ?_
    refine aops_end ?_
    refine awp_ret ?_
    subst hK
    exact gives_end (.inl rfl) _ rfl
  rw [hR] at h38
  refine awp_region rfl ?_
  refine aops_run 1 (by simp only [fwA, ↓reduceIte, Nat.reduceAdd, Nat.reduceMul, Nat.reduceEqDiff, Nat.reduceLT, Nat.reduceLeDiff, reduceCtorEq, bitfw, List.length_map, List.getElem?_map, Option.map_some, Int.natCast_nonneg, Int.toNat_natCast, decide_true, decide_false, Bool.and_true, Bool.and_self, Bool.not_true, Bool.not_false, Bool.false_and, Bool.true_and, el22, el23, el25, el26, el29, el32, el47, el79, el121, fl28_0, fl28_1, fl37_0, fl37_1, fl43_0, fl43_1, fl57_0, fl57_1, pl28, pl37, pl43, pl57, ti3, ti4, ti5, ti9, ti22, ti25, ti26, ti28, ti32, ti35, ti37, ti43, ti53, ti55, ti57, ti58, ti81, ti116, ti121, un3, un4, un5, un9, un22, un23, un25, un26, un29, un32, un35, un47, un53, un55, un58, un59, un79, un90, un113, un116, S1_fw, U1_fw, I1_fw, Pr.fw, So.fw, g0] <;> rfl) ?_
  refine aops_fn rfl rfl rfl en38 h38 ?_
  refine aops_run 2 (by simp only [fwA, ↓reduceIte, Nat.reduceAdd, Nat.reduceMul, Nat.reduceEqDiff, Nat.reduceLT, Nat.reduceLeDiff, reduceCtorEq, bitfw, List.length_map, List.getElem?_map, Option.map_some, Int.natCast_nonneg, Int.toNat_natCast, decide_true, decide_false, Bool.and_true, Bool.and_self, Bool.not_true, Bool.not_false, Bool.false_and, Bool.true_and, el22, el23, el25, el26, el29, el32, el47, el79, el121, fl28_0, fl28_1, fl37_0, fl37_1, fl43_0, fl43_1, fl57_0, fl57_1, pl28, pl37, pl43, pl57, ti3, ti4, ti5, ti9, ti22, ti25, ti26, ti28, ti32, ti35, ti37, ti43, ti53, ti55, ti57, ti58, ti81, ti116, ti121, un3, un4, un5, un9, un22, un23, un25, un26, un29, un32, un35, un47, un53, un55, un58, un59, un79, un90, un113, un116, S1_fw, U1_fw, I1_fw, Pr.fw, So.fw] <;> rfl) ?_
  refine aops_fnIf rfl rfl rfl rfl rfl en45 h45 ?_
  refine aops_run 1 (by simp only [fwA, ↓reduceIte, Nat.reduceAdd, Nat.reduceMul, Nat.reduceEqDiff, Nat.reduceLT, Nat.reduceLeDiff, reduceCtorEq, bitfw, List.length_map, List.getElem?_map, Option.map_some, Int.natCast_nonneg, Int.toNat_natCast, decide_true, decide_false, Bool.and_true, Bool.and_self, Bool.not_true, Bool.not_false, Bool.false_and, Bool.true_and, el22, el23, el25, el26, el29, el32, el47, el79, el121, fl28_0, fl28_1, fl37_0, fl37_1, fl43_0, fl43_1, fl57_0, fl57_1, pl28, pl37, pl43, pl57, ti3, ti4, ti5, ti9, ti22, ti25, ti26, ti28, ti32, ti35, ti37, ti43, ti53, ti55, ti57, ti58, ti81, ti116, ti121, un3, un4, un5, un9, un22, un23, un25, un26, un29, un32, un35, un47, un53, un55, un58, un59, un79, un90, un113, un116, S1_fw, U1_fw, I1_fw, Pr.fw, So.fw] <;> rfl) ?_
  refine aops_if rfl rfl rfl (os_call rfl rfl en44 (h44.mono fun p H' hp => ?_))
  obtain ⟨rfl, e⟩ := hp
  rw [e]
  refine aops_run 3 (by simp only [fwA, ↓reduceIte, Nat.reduceAdd, Nat.reduceMul, Nat.reduceEqDiff, Nat.reduceLT, Nat.reduceLeDiff, reduceCtorEq, bitfw, List.length_map, List.getElem?_map, Option.map_some, Int.natCast_nonneg, Int.toNat_natCast, decide_true, decide_false, Bool.and_true, Bool.and_self, Bool.not_true, Bool.not_false, Bool.false_and, Bool.true_and, el22, el23, el25, el26, el29, el32, el47, el79, el121, fl28_0, fl28_1, fl37_0, fl37_1, fl43_0, fl43_1, fl57_0, fl57_1, pl28, pl37, pl43, pl57, ti3, ti4, ti5, ti9, ti22, ti25, ti26, ti28, ti32, ti35, ti37, ti43, ti53, ti55, ti57, ti58, ti81, ti116, ti121, un3, un4, un5, un9, un22, un23, un25, un26, un29, un32, un35, un47, un53, un55, un58, un59, un79, un90, un113, un116, S1_fw, U1_fw, I1_fw, Pr.fw, So.fw] <;> rfl) ?_
  refine aops_end ?_
  refine awp_ret ?_
  subst hK
  exact gives_end (.inl rfl) _ (by simp [ares, aresL, ares1, Tryd.f22, alook, aput])

/- chancel/solve.Value's test -/
theorem c35 (Γ : Nat → PV) (a : Int) (x : So) (H : List Blk) (b : Nat) (hb : H[b]? = some (.box [.int .i64 a])) :
    ACalls Tryd.prog Γ 35 [.agg x.enc, .ptr b 0] H (fun q H' => q = .bool (decide (x.v = a)) ∧ H' = H) := by
  have hbl := (List.getElem?_eq_some_iff.1 hb).1
  have hb1 : ∀ L, (H ++ L)[b]? = some (.box [.int .i64 a]) := fun L => by rw [List.getElem?_append_left hbl]; exact hb
  refine acalls_of_awp Tryd.func35 rfl (by simp [Tryd.f35]) fun hbd => ?_
  refine awp_seq ?_
  refine awp_run rfl (by simp only [fwA, ↓reduceIte, Nat.reduceAdd, Nat.reduceMul, Nat.reduceEqDiff, Nat.reduceLT, Nat.reduceLeDiff, reduceCtorEq] <;> rfl) ?_
  refine awp_seq ?_
  refine awp_run rfl (by simp only [fwA, ↓reduceIte, Nat.reduceAdd, Nat.reduceMul, Nat.reduceEqDiff, Nat.reduceLT, Nat.reduceLeDiff, reduceCtorEq, bitfw, List.length_map, List.getElem?_map, Option.map_some, Int.natCast_nonneg, Int.toNat_natCast, decide_true, decide_false, Bool.and_true, Bool.and_self, Bool.not_true, Bool.not_false, Bool.false_and, Bool.true_and, el22, el23, el25, el26, el29, el32, el47, el79, el121, fl28_0, fl28_1, fl37_0, fl37_1, fl43_0, fl43_1, fl57_0, fl57_1, pl28, pl37, pl43, pl57, ti3, ti4, ti5, ti9, ti22, ti25, ti26, ti28, ti32, ti35, ti37, ti43, ti53, ti55, ti57, ti58, ti81, ti116, ti121, un3, un4, un5, un9, un22, un23, un25, un26, un29, un32, un35, un47, un53, un55, un58, un59, un79, un90, un113, un116, S1_fw, U1_fw, I1_fw, Pr.fw, So.fw, hb1] <;> rfl) ?_
  refine awp_ret ?_
  exact calls_end (p := .bool (decide (x.v = a))) [.box x.enc] (.inl rfl) hbd rfl rfl ⟨rfl, rfl⟩

theorem find_idx {X : Type} (q : X → Bool) (l : List X) : (idxG q l < 0 ∧ l.find? q = none) ∨ ∃ (k : Nat) (x : X), idxG q l = (k : Int) ∧ l[k]? = some x ∧ l.find? q = some x := by
  cases e : l.findIdx? q with
  | none =>
    refine .inl ⟨by unfold idxG; rw [e]; decide, ?_⟩
    rw [List.findIdx?_eq_none_iff] at e
    rw [List.find?_eq_none]
    intro x hx; rw [e x hx]; simp
  | some k =>
    have e' := e
    rw [List.findIdx?_eq_some_iff_getElem] at e
    obtain ⟨h1, h2, h3⟩ := e
    refine .inr ⟨k, l[k], by unfold idxG; rw [e'], List.getElem?_eq_getElem h1, ?_⟩
    rw [List.find?_eq_some_iff_getElem]
    refine ⟨h2, k, h1, rfl, fun j hj => ?_⟩
    have := h3 j hj
    simpa using this
/- chancel/solve.Value -/
theorem c14 (Γ : Nat → PV) (hΓ : Tab64 Γ) (ns : List (List UInt8)) (us : List Nat) (hw : W64 us) (s : List So) (a : Int) (ha : I64 a) : Gives Tryd.prog Γ 14 [.agg [.vec (ns.map S1) false, .vec (us.map U1) false], .vec (s.map So.enc) false, .int .i64 a] (.int .i64 (valueV ns us s a)) := by
  have h25 := c25 Γ a ha
  have h15 := c15 Γ a
  have h19 := c19 Γ hΓ ns us hw
  refine fn_of_awp Tryd.func14 rfl (by simp [Tryd.f14]) rfl fun H => ?_
  refine awp_bd fun hbd0 => ?_
  refine awp_seq ?_
  refine awp_run rfl (by simp only [fwA, ↓reduceIte, Nat.reduceAdd, Nat.reduceMul, Nat.reduceEqDiff, Nat.reduceLT, Nat.reduceLeDiff, reduceCtorEq] <;> rfl) ?_
  have g0 : (H ++ [Blk.box [.vec (ns.map S1) false, .vec (us.map U1) false], .box [.int .i64 a]])[H.length]? = some (.box [.vec (ns.map S1) false, .vec (us.map U1) false]) := by rw [Fw.get_at0]; rfl
  have g1 : (H ++ [Blk.box [.vec (ns.map S1) false, .vec (us.map U1) false], .box [.int .i64 a]])[H.length + 1]? = some (.box [.int .i64 a]) := by rw [Fw.get_at]; rfl
  have hpre : ∃ L, H ++ [Blk.box [.vec (ns.map S1) false, .vec (us.map U1) false], .box [.int .i64 a]] = H ++ L := ⟨_, rfl⟩
  generalize hK : H ++ [Blk.box [.vec (ns.map S1) false, .vec (us.map U1) false], .box [.int .i64 a]] = K at g0 g1 hpre ⊢
  have hend : ∀ (A' : List (Nat × PV)) (v : Int), alook A' 6 = .int .i64 v → ((Exit.ret = .ret ∨ Exit.ret = .normal) ∧ ([] : List Nat).Nodup ∧ (∀ b ∈ ([] : List Nat), K[b]? = some .dfr ∧ H.length ≤ b) ∧ ares Tryd.prog Γ A' K Tryd.f14.results.toList = some (.int .i64 v) ∧ ∃ L', K = H ++ L') := fun A' v hv => by
    obtain ⟨L, rfl⟩ := hpre
    exact gives_end (.inl rfl) _ (by simp [ares, aresL, ares1, Tryd.f14, hv])
  refine awp_seq ?_
  refine awp_region rfl ?_
  refine aops_run 1 (by simp only [fwA, ↓reduceIte, Nat.reduceAdd, Nat.reduceMul, Nat.reduceEqDiff, Nat.reduceLT, Nat.reduceLeDiff, reduceCtorEq, bitfw, List.length_map, List.getElem?_map, Option.map_some, Int.natCast_nonneg, Int.toNat_natCast, decide_true, decide_false, Bool.and_true, Bool.and_self, Bool.not_true, Bool.not_false, Bool.false_and, Bool.true_and, el22, el23, el25, el26, el29, el32, el47, el79, el121, fl28_0, fl28_1, fl37_0, fl37_1, fl43_0, fl43_1, fl57_0, fl57_1, pl28, pl37, pl43, pl57, ti3, ti4, ti5, ti9, ti22, ti25, ti26, ti28, ti32, ti35, ti37, ti43, ti53, ti55, ti57, ti58, ti81, ti116, ti121, un3, un4, un5, un9, un22, un23, un25, un26, un29, un32, un35, un47, un53, un55, un58, un59, un79, un90, un113, un116, S1_fw, U1_fw, I1_fw, Pr.fw, So.fw, g1] <;> rfl) ?_
  refine aops_fn rfl rfl rfl en25 h25 ?_
  refine aops_run 1 (by simp only [fwA, ↓reduceIte, Nat.reduceAdd, Nat.reduceMul, Nat.reduceEqDiff, Nat.reduceLT, Nat.reduceLeDiff, reduceCtorEq, bitfw, List.length_map, List.getElem?_map, Option.map_some, Int.natCast_nonneg, Int.toNat_natCast, decide_true, decide_false, Bool.and_true, Bool.and_self, Bool.not_true, Bool.not_false, Bool.false_and, Bool.true_and, el22, el23, el25, el26, el29, el32, el47, el79, el121, fl28_0, fl28_1, fl37_0, fl37_1, fl43_0, fl43_1, fl57_0, fl57_1, pl28, pl37, pl43, pl57, ti3, ti4, ti5, ti9, ti22, ti25, ti26, ti28, ti32, ti35, ti37, ti43, ti53, ti55, ti57, ti58, ti81, ti116, ti121, un3, un4, un5, un9, un22, un23, un25, un26, un29, un32, un35, un47, un53, un55, un58, un59, un79, un90, un113, un116, S1_fw, U1_fw, I1_fw, Pr.fw, So.fw, g1] <;> rfl) ?_
  refine aops_end ?_
  refine awp_seq ?_
  refine awp_seq ?_
  refine awp_region rfl ?_
  refine aops_run 1 (by simp only [fwA, ↓reduceIte, Nat.reduceAdd, Nat.reduceMul, Nat.reduceEqDiff, Nat.reduceLT, Nat.reduceLeDiff, reduceCtorEq, bitfw, List.length_map, List.getElem?_map, Option.map_some, Int.natCast_nonneg, Int.toNat_natCast, decide_true, decide_false, Bool.and_true, Bool.and_self, Bool.not_true, Bool.not_false, Bool.false_and, Bool.true_and, el22, el23, el25, el26, el29, el32, el47, el79, el121, fl28_0, fl28_1, fl37_0, fl37_1, fl43_0, fl43_1, fl57_0, fl57_1, pl28, pl37, pl43, pl57, ti3, ti4, ti5, ti9, ti22, ti25, ti26, ti28, ti32, ti35, ti37, ti43, ti53, ti55, ti57, ti58, ti81, ti116, ti121, un3, un4, un5, un9, un22, un23, un25, un26, un29, un32, un35, un47, un53, un55, un58, un59, un79, un90, un113, un116, S1_fw, U1_fw, I1_fw, Pr.fw, So.fw, g1] <;> rfl) ?_
  refine aops_fn rfl rfl rfl en15 h15 ?_
  refine aops_run 1 (by simp only [fwA, ↓reduceIte, Nat.reduceAdd, Nat.reduceMul, Nat.reduceEqDiff, Nat.reduceLT, Nat.reduceLeDiff, reduceCtorEq, bitfw, List.length_map, List.getElem?_map, Option.map_some, Int.natCast_nonneg, Int.toNat_natCast, decide_true, decide_false, Bool.and_true, Bool.and_self, Bool.not_true, Bool.not_false, Bool.false_and, Bool.true_and, el22, el23, el25, el26, el29, el32, el47, el79, el121, fl28_0, fl28_1, fl37_0, fl37_1, fl43_0, fl43_1, fl57_0, fl57_1, pl28, pl37, pl43, pl57, ti3, ti4, ti5, ti9, ti22, ti25, ti26, ti28, ti32, ti35, ti37, ti43, ti53, ti55, ti57, ti58, ti81, ti116, ti121, un3, un4, un5, un9, un22, un23, un25, un26, un29, un32, un35, un47, un53, un55, un58, un59, un79, un90, un113, un116, S1_fw, U1_fw, I1_fw, Pr.fw, So.fw, g1] <;> rfl) ?_
  refine aops_end ?_
  unfold valueV ptI
  by_cases h0 : a < 0
  · have h30 := c30 Γ ns us (pointOf a)
    rw [if_pos h0]
    rw [decide_eq_true h0]
    refine awp_cond (b := false) (by simp [alook, aput, ev]) (awp_skip ?_)
    refine awp_seq ?_
    refine awp_seq ?_
    cases hp : ptB ns.length (pointOf a)
    · rw [hp] at h30
      refine awp_region rfl ?_
      refine aops_run 2 (by simp only [fwA, ↓reduceIte, Nat.reduceAdd, Nat.reduceMul, Nat.reduceEqDiff, Nat.reduceLT, Nat.reduceLeDiff, reduceCtorEq, bitfw, List.length_map, List.getElem?_map, Option.map_some, Int.natCast_nonneg, Int.toNat_natCast, decide_true, decide_false, Bool.and_true, Bool.and_self, Bool.not_true, Bool.not_false, Bool.false_and, Bool.true_and, el22, el23, el25, el26, el29, el32, el47, el79, el121, fl28_0, fl28_1, fl37_0, fl37_1, fl43_0, fl43_1, fl57_0, fl57_1, pl28, pl37, pl43, pl57, ti3, ti4, ti5, ti9, ti22, ti25, ti26, ti28, ti32, ti35, ti37, ti43, ti53, ti55, ti57, ti58, ti81, ti116, ti121, un3, un4, un5, un9, un22, un23, un25, un26, un29, un32, un35, un47, un53, un55, un58, un59, un79, un90, un113, un116, S1_fw, U1_fw, I1_fw, Pr.fw, So.fw, g0] <;> rfl) ?_
      refine aops_fn rfl rfl rfl en30 h30 ?_
      refine aops_run 1 (by simp only [fwA, ↓reduceIte, Nat.reduceAdd, Nat.reduceMul, Nat.reduceEqDiff, Nat.reduceLT, Nat.reduceLeDiff, reduceCtorEq, bitfw, List.length_map, List.getElem?_map, Option.map_some, Int.natCast_nonneg, Int.toNat_natCast, decide_true, decide_false, Bool.and_true, Bool.and_self, Bool.not_true, Bool.not_false, Bool.false_and, Bool.true_and, el22, el23, el25, el26, el29, el32, el47, el79, el121, fl28_0, fl28_1, fl37_0, fl37_1, fl43_0, fl43_1, fl57_0, fl57_1, pl28, pl37, pl43, pl57, ti3, ti4, ti5, ti9, ti22, ti25, ti26, ti28, ti32, ti35, ti37, ti43, ti53, ti55, ti57, ti58, ti81, ti116, ti121, un3, un4, un5, un9, un22, un23, un25, un26, un29, un32, un35, un47, un53, un55, un58, un59, un79, un90, un113, un116, S1_fw, U1_fw, I1_fw, Pr.fw, So.fw, g0] <;> rfl) ?_
      refine aops_end ?_
      refine awp_cond (b := true) (by simp [alook, aput, ev]) ?_
      refine awp_seq ?_
      refine awp_run rfl (by simp only [fwA, ↓reduceIte, Nat.reduceAdd, Nat.reduceMul, Nat.reduceEqDiff, Nat.reduceLT, Nat.reduceLeDiff, reduceCtorEq] <;> rfl) ?_
      refine awp_ret ?_
      exact hend _ _ rfl
    · rw [hp] at h30
      refine awp_region rfl ?_
      refine aops_run 2 (by simp only [fwA, ↓reduceIte, Nat.reduceAdd, Nat.reduceMul, Nat.reduceEqDiff, Nat.reduceLT, Nat.reduceLeDiff, reduceCtorEq, bitfw, List.length_map, List.getElem?_map, Option.map_some, Int.natCast_nonneg, Int.toNat_natCast, decide_true, decide_false, Bool.and_true, Bool.and_self, Bool.not_true, Bool.not_false, Bool.false_and, Bool.true_and, el22, el23, el25, el26, el29, el32, el47, el79, el121, fl28_0, fl28_1, fl37_0, fl37_1, fl43_0, fl43_1, fl57_0, fl57_1, pl28, pl37, pl43, pl57, ti3, ti4, ti5, ti9, ti22, ti25, ti26, ti28, ti32, ti35, ti37, ti43, ti53, ti55, ti57, ti58, ti81, ti116, ti121, un3, un4, un5, un9, un22, un23, un25, un26, un29, un32, un35, un47, un53, un55, un58, un59, un79, un90, un113, un116, S1_fw, U1_fw, I1_fw, Pr.fw, So.fw, g0] <;> rfl) ?_
      refine aops_fn rfl rfl rfl en30 h30 ?_
      refine aops_run 1 (by simp only [fwA, ↓reduceIte, Nat.reduceAdd, Nat.reduceMul, Nat.reduceEqDiff, Nat.reduceLT, Nat.reduceLeDiff, reduceCtorEq, bitfw, List.length_map, List.getElem?_map, Option.map_some, Int.natCast_nonneg, Int.toNat_natCast, decide_true, decide_false, Bool.and_true, Bool.and_self, Bool.not_true, Bool.not_false, Bool.false_and, Bool.true_and, el22, el23, el25, el26, el29, el32, el47, el79, el121, fl28_0, fl28_1, fl37_0, fl37_1, fl43_0, fl43_1, fl57_0, fl57_1, pl28, pl37, pl43, pl57, ti3, ti4, ti5, ti9, ti22, ti25, ti26, ti28, ti32, ti35, ti37, ti43, ti53, ti55, ti57, ti58, ti81, ti116, ti121, un3, un4, un5, un9, un22, un23, un25, un26, un29, un32, un35, un47, un53, un55, un58, un59, un79, un90, un113, un116, S1_fw, U1_fw, I1_fw, Pr.fw, So.fw, g0] <;> rfl) ?_
      refine aops_end ?_
      refine awp_cond (b := false) (by simp [alook, aput, ev]) (awp_skip ?_)
      refine awp_seq ?_
      refine awp_run rfl (by simp only [fwA, ↓reduceIte, Nat.reduceAdd, Nat.reduceMul, Nat.reduceEqDiff, Nat.reduceLT, Nat.reduceLeDiff, reduceCtorEq] <;> rfl) ?_
      refine awp_ret ?_
      exact hend _ _ rfl
  rw [if_neg h0]
  rw [decide_eq_false h0]
  refine awp_cond (b := true) (by simp [alook, aput, ev]) ?_
  have h34 := c34 Γ 35 en35 [.ptr (H.length + 1) 0] (fun x => decide (x.v = a)) s K (fun x hx => c35 Γ a x K (H.length + 1) g1)
  refine awp_seq ?_
  refine awp_region rfl ?_
  refine aops_run 2 (by simp only [fwA, ↓reduceIte, Nat.reduceAdd, Nat.reduceMul, Nat.reduceEqDiff, Nat.reduceLT, Nat.reduceLeDiff, reduceCtorEq, bitfw, List.length_map, List.getElem?_map, Option.map_some, Int.natCast_nonneg, Int.toNat_natCast, decide_true, decide_false, Bool.and_true, Bool.and_self, Bool.not_true, Bool.not_false, Bool.false_and, Bool.true_and, el22, el23, el25, el26, el29, el32, el47, el79, el121, fl28_0, fl28_1, fl37_0, fl37_1, fl43_0, fl43_1, fl57_0, fl57_1, pl28, pl37, pl43, pl57, ti3, ti4, ti5, ti9, ti22, ti25, ti26, ti28, ti32, ti35, ti37, ti43, ti53, ti55, ti57, ti58, ti81, ti116, ti121, un3, un4, un5, un9, un22, un23, un25, un26, un29, un32, un35, un47, un53, un55, un58, un59, un79, un90, un113, un116, S1_fw, U1_fw, I1_fw, Pr.fw, So.fw] <;> rfl) ?_
  refine aops_call rfl rfl rfl en34 (h34.mono fun p H' hp => ?_)
  obtain ⟨rfl, e⟩ := hp
  rw [e]
  refine aops_run 1 (by simp only [fwA, ↓reduceIte, Nat.reduceAdd, Nat.reduceMul, Nat.reduceEqDiff, Nat.reduceLT, Nat.reduceLeDiff, reduceCtorEq, bitfw, List.length_map, List.getElem?_map, Option.map_some, Int.natCast_nonneg, Int.toNat_natCast, decide_true, decide_false, Bool.and_true, Bool.and_self, Bool.not_true, Bool.not_false, Bool.false_and, Bool.true_and, el22, el23, el25, el26, el29, el32, el47, el79, el121, fl28_0, fl28_1, fl37_0, fl37_1, fl43_0, fl43_1, fl57_0, fl57_1, pl28, pl37, pl43, pl57, ti3, ti4, ti5, ti9, ti22, ti25, ti26, ti28, ti32, ti35, ti37, ti43, ti53, ti55, ti57, ti58, ti81, ti116, ti121, un3, un4, un5, un9, un22, un23, un25, un26, un29, un32, un35, un47, un53, un55, un58, un59, un79, un90, un113, un116, S1_fw, U1_fw, I1_fw, Pr.fw, So.fw] <;> rfl) ?_
  refine aops_end ?_
  rcases find_idx (fun x : So => decide (x.v = a)) s with ⟨f1, f2⟩ | ⟨k, x, f1, f2, f3⟩
  · rw [f2]
    refine awp_seq ?_
    refine awp_seq ?_
    refine awp_run rfl (by simp only [fwA, ↓reduceIte, Nat.reduceAdd, Nat.reduceMul, Nat.reduceEqDiff, Nat.reduceLT, Nat.reduceLeDiff, reduceCtorEq, bitfw, List.length_map, List.getElem?_map, Option.map_some, Int.natCast_nonneg, Int.toNat_natCast, decide_true, decide_false, Bool.and_true, Bool.and_self, Bool.not_true, Bool.not_false, Bool.false_and, Bool.true_and, el22, el23, el25, el26, el29, el32, el47, el79, el121, fl28_0, fl28_1, fl37_0, fl37_1, fl43_0, fl43_1, fl57_0, fl57_1, pl28, pl37, pl43, pl57, ti3, ti4, ti5, ti9, ti22, ti25, ti26, ti28, ti32, ti35, ti37, ti43, ti53, ti55, ti57, ti58, ti81, ti116, ti121, un3, un4, un5, un9, un22, un23, un25, un26, un29, un32, un35, un47, un53, un55, un58, un59, un79, un90, un113, un116, S1_fw, U1_fw, I1_fw, Pr.fw, So.fw, f1] <;> rfl) ?_
    refine awp_cond (b := true) (by simp [alook, aput, ev]) ?_
    refine awp_seq ?_
    refine awp_region rfl ?_
    refine aops_run 1 (by simp only [fwA, ↓reduceIte, Nat.reduceAdd, Nat.reduceMul, Nat.reduceEqDiff, Nat.reduceLT, Nat.reduceLeDiff, reduceCtorEq, bitfw, List.length_map, List.getElem?_map, Option.map_some, Int.natCast_nonneg, Int.toNat_natCast, decide_true, decide_false, Bool.and_true, Bool.and_self, Bool.not_true, Bool.not_false, Bool.false_and, Bool.true_and, el22, el23, el25, el26, el29, el32, el47, el79, el121, fl28_0, fl28_1, fl37_0, fl37_1, fl43_0, fl43_1, fl57_0, fl57_1, pl28, pl37, pl43, pl57, ti3, ti4, ti5, ti9, ti22, ti25, ti26, ti28, ti32, ti35, ti37, ti43, ti53, ti55, ti57, ti58, ti81, ti116, ti121, un3, un4, un5, un9, un22, un23, un25, un26, un29, un32, un35, un47, un53, un55, un58, un59, un79, un90, un113, un116, S1_fw, U1_fw, I1_fw, Pr.fw, So.fw, g0] <;> rfl) ?_
    refine aops_fn rfl rfl rfl en19 h19 ?_
    refine aops_run 1 (by simp only [fwA, ↓reduceIte, Nat.reduceAdd, Nat.reduceMul, Nat.reduceEqDiff, Nat.reduceLT, Nat.reduceLeDiff, reduceCtorEq, bitfw, List.length_map, List.getElem?_map, Option.map_some, Int.natCast_nonneg, Int.toNat_natCast, decide_true, decide_false, Bool.and_true, Bool.and_self, Bool.not_true, Bool.not_false, Bool.false_and, Bool.true_and, el22, el23, el25, el26, el29, el32, el47, el79, el121, fl28_0, fl28_1, fl37_0, fl37_1, fl43_0, fl43_1, fl57_0, fl57_1, pl28, pl37, pl43, pl57, ti3, ti4, ti5, ti9, ti22, ti25, ti26, ti28, ti32, ti35, ti37, ti43, ti53, ti55, ti57, ti58, ti81, ti116, ti121, un3, un4, un5, un9, un22, un23, un25, un26, un29, un32, un35, un47, un53, un55, un58, un59, un79, un90, un113, un116, S1_fw, U1_fw, I1_fw, Pr.fw, So.fw, g0] <;> rfl) ?_
    refine aops_end ?_
    refine awp_ret ?_
    exact hend _ _ rfl
  · rw [f3]
    have hneg : ¬ ((k : Int) < 0) := by omega
    have h30 := c30 Γ ns us x.p
    refine awp_seq ?_
    refine awp_seq ?_
    refine awp_run rfl (by simp only [fwA, ↓reduceIte, Nat.reduceAdd, Nat.reduceMul, Nat.reduceEqDiff, Nat.reduceLT, Nat.reduceLeDiff, reduceCtorEq, bitfw, List.length_map, List.getElem?_map, Option.map_some, Int.natCast_nonneg, Int.toNat_natCast, decide_true, decide_false, Bool.and_true, Bool.and_self, Bool.not_true, Bool.not_false, Bool.false_and, Bool.true_and, el22, el23, el25, el26, el29, el32, el47, el79, el121, fl28_0, fl28_1, fl37_0, fl37_1, fl43_0, fl43_1, fl57_0, fl57_1, pl28, pl37, pl43, pl57, ti3, ti4, ti5, ti9, ti22, ti25, ti26, ti28, ti32, ti35, ti37, ti43, ti53, ti55, ti57, ti58, ti81, ti116, ti121, un3, un4, un5, un9, un22, un23, un25, un26, un29, un32, un35, un47, un53, un55, un58, un59, un79, un90, un113, un116, S1_fw, U1_fw, I1_fw, Pr.fw, So.fw, f1, hneg] <;> rfl) ?_
    refine awp_cond (b := false) (by simp [alook, aput, ev]) (awp_skip ?_)
    refine awp_run rfl (by simp only [fwA, ↓reduceIte, Nat.reduceAdd, Nat.reduceMul, Nat.reduceEqDiff, Nat.reduceLT, Nat.reduceLeDiff, reduceCtorEq, bitfw, List.length_map, List.getElem?_map, Option.map_some, Int.natCast_nonneg, Int.toNat_natCast, decide_true, decide_false, Bool.and_true, Bool.and_self, Bool.not_true, Bool.not_false, Bool.false_and, Bool.true_and, el22, el23, el25, el26, el29, el32, el47, el79, el121, fl28_0, fl28_1, fl37_0, fl37_1, fl43_0, fl43_1, fl57_0, fl57_1, pl28, pl37, pl43, pl57, ti3, ti4, ti5, ti9, ti22, ti25, ti26, ti28, ti32, ti35, ti37, ti43, ti53, ti55, ti57, ti58, ti81, ti116, ti121, un3, un4, un5, un9, un22, un23, un25, un26, un29, un32, un35, un47, un53, un55, un58, un59, un79, un90, un113, un116, S1_fw, U1_fw, I1_fw, Pr.fw, So.fw, f1, f2] <;> rfl) ?_
    refine awp_seq ?_
    refine awp_seq ?_
    cases hp : ptB ns.length x.p
    · rw [hp] at h30
      refine awp_region rfl ?_
      refine aops_run 2 (by simp only [fwA, ↓reduceIte, Nat.reduceAdd, Nat.reduceMul, Nat.reduceEqDiff, Nat.reduceLT, Nat.reduceLeDiff, reduceCtorEq, bitfw, List.length_map, List.getElem?_map, Option.map_some, Int.natCast_nonneg, Int.toNat_natCast, decide_true, decide_false, Bool.and_true, Bool.and_self, Bool.not_true, Bool.not_false, Bool.false_and, Bool.true_and, el22, el23, el25, el26, el29, el32, el47, el79, el121, fl28_0, fl28_1, fl37_0, fl37_1, fl43_0, fl43_1, fl57_0, fl57_1, pl28, pl37, pl43, pl57, ti3, ti4, ti5, ti9, ti22, ti25, ti26, ti28, ti32, ti35, ti37, ti43, ti53, ti55, ti57, ti58, ti81, ti116, ti121, un3, un4, un5, un9, un22, un23, un25, un26, un29, un32, un35, un47, un53, un55, un58, un59, un79, un90, un113, un116, S1_fw, U1_fw, I1_fw, Pr.fw, So.fw, g0] <;> rfl) ?_
      refine aops_fn rfl rfl rfl en30 h30 ?_
      refine aops_run 1 (by simp only [fwA, ↓reduceIte, Nat.reduceAdd, Nat.reduceMul, Nat.reduceEqDiff, Nat.reduceLT, Nat.reduceLeDiff, reduceCtorEq, bitfw, List.length_map, List.getElem?_map, Option.map_some, Int.natCast_nonneg, Int.toNat_natCast, decide_true, decide_false, Bool.and_true, Bool.and_self, Bool.not_true, Bool.not_false, Bool.false_and, Bool.true_and, el22, el23, el25, el26, el29, el32, el47, el79, el121, fl28_0, fl28_1, fl37_0, fl37_1, fl43_0, fl43_1, fl57_0, fl57_1, pl28, pl37, pl43, pl57, ti3, ti4, ti5, ti9, ti22, ti25, ti26, ti28, ti32, ti35, ti37, ti43, ti53, ti55, ti57, ti58, ti81, ti116, ti121, un3, un4, un5, un9, un22, un23, un25, un26, un29, un32, un35, un47, un53, un55, un58, un59, un79, un90, un113, un116, S1_fw, U1_fw, I1_fw, Pr.fw, So.fw, g0] <;> rfl) ?_
      refine aops_end ?_
      refine awp_cond (b := true) (by simp [alook, aput, ev]) ?_
      refine awp_seq ?_
      refine awp_run rfl (by simp only [fwA, ↓reduceIte, Nat.reduceAdd, Nat.reduceMul, Nat.reduceEqDiff, Nat.reduceLT, Nat.reduceLeDiff, reduceCtorEq] <;> rfl) ?_
      refine awp_ret ?_
      simp only [hp, Bool.false_eq_true, ↓reduceIte]
      exact hend _ _ rfl
    · rw [hp] at h30
      refine awp_region rfl ?_
      refine aops_run 2 (by simp only [fwA, ↓reduceIte, Nat.reduceAdd, Nat.reduceMul, Nat.reduceEqDiff, Nat.reduceLT, Nat.reduceLeDiff, reduceCtorEq, bitfw, List.length_map, List.getElem?_map, Option.map_some, Int.natCast_nonneg, Int.toNat_natCast, decide_true, decide_false, Bool.and_true, Bool.and_self, Bool.not_true, Bool.not_false, Bool.false_and, Bool.true_and, el22, el23, el25, el26, el29, el32, el47, el79, el121, fl28_0, fl28_1, fl37_0, fl37_1, fl43_0, fl43_1, fl57_0, fl57_1, pl28, pl37, pl43, pl57, ti3, ti4, ti5, ti9, ti22, ti25, ti26, ti28, ti32, ti35, ti37, ti43, ti53, ti55, ti57, ti58, ti81, ti116, ti121, un3, un4, un5, un9, un22, un23, un25, un26, un29, un32, un35, un47, un53, un55, un58, un59, un79, un90, un113, un116, S1_fw, U1_fw, I1_fw, Pr.fw, So.fw, g0] <;> rfl) ?_
      refine aops_fn rfl rfl rfl en30 h30 ?_
      refine aops_run 1 (by simp only [fwA, ↓reduceIte, Nat.reduceAdd, Nat.reduceMul, Nat.reduceEqDiff, Nat.reduceLT, Nat.reduceLeDiff, reduceCtorEq, bitfw, List.length_map, List.getElem?_map, Option.map_some, Int.natCast_nonneg, Int.toNat_natCast, decide_true, decide_false, Bool.and_true, Bool.and_self, Bool.not_true, Bool.not_false, Bool.false_and, Bool.true_and, el22, el23, el25, el26, el29, el32, el47, el79, el121, fl28_0, fl28_1, fl37_0, fl37_1, fl43_0, fl43_1, fl57_0, fl57_1, pl28, pl37, pl43, pl57, ti3, ti4, ti5, ti9, ti22, ti25, ti26, ti28, ti32, ti35, ti37, ti43, ti53, ti55, ti57, ti58, ti81, ti116, ti121, un3, un4, un5, un9, un22, un23, un25, un26, un29, un32, un35, un47, un53, un55, un58, un59, un79, un90, un113, un116, S1_fw, U1_fw, I1_fw, Pr.fw, So.fw, g0] <;> rfl) ?_
      refine aops_end ?_
      refine awp_cond (b := false) (by simp [alook, aput, ev]) (awp_skip ?_)
      refine awp_seq ?_
      refine awp_run rfl (by simp only [fwA, ↓reduceIte, Nat.reduceAdd, Nat.reduceMul, Nat.reduceEqDiff, Nat.reduceLT, Nat.reduceLeDiff, reduceCtorEq] <;> rfl) ?_
      refine awp_ret ?_
      show _ ∧ _ ∧ _ ∧ ares _ _ _ _ _ = some (.int .i64 (if ptB ns.length x.p = true then x.p else -1)) ∧ _
      rw [if_pos hp]
      exact hend _ _ rfl

/- chancel/solve.Solves' test of a solution -/
theorem c29 (Γ : Nat → PV) (ns : List (List UInt8)) (us : List Nat) (x : So) (H : List Blk) (b : Nat) (hb : H[b]? = some (.box [.vec (ns.map S1) false, .vec (us.map U1) false])) :
    ACalls Tryd.prog Γ 29 [.agg x.enc, .ptr b 0] H (fun q H' => q = .bool (!ptB ns.length x.p) ∧ H' = H) := by
  have hbl := (List.getElem?_eq_some_iff.1 hb).1
  have hb1 : ∀ L, (H ++ L)[b]? = some (.box [.vec (ns.map S1) false, .vec (us.map U1) false]) := fun L => by rw [List.getElem?_append_left hbl]; exact hb
  have h30 := c30 Γ ns us x.p
  refine acalls_of_awp Tryd.func29 rfl (by simp [Tryd.f29]) fun hbd => ?_
  refine awp_seq ?_
  refine awp_run rfl (by simp only [fwA, ↓reduceIte, Nat.reduceAdd, Nat.reduceMul, Nat.reduceEqDiff, Nat.reduceLT, Nat.reduceLeDiff, reduceCtorEq] <;> rfl) ?_
  refine awp_seq ?_
  refine awp_region rfl ?_
  refine aops_run 3 (by simp only [fwA, ↓reduceIte, Nat.reduceAdd, Nat.reduceMul, Nat.reduceEqDiff, Nat.reduceLT, Nat.reduceLeDiff, reduceCtorEq, bitfw, List.length_map, List.getElem?_map, Option.map_some, Int.natCast_nonneg, Int.toNat_natCast, decide_true, decide_false, Bool.and_true, Bool.and_self, Bool.not_true, Bool.not_false, Bool.false_and, Bool.true_and, el22, el23, el25, el26, el29, el32, el47, el79, el121, fl28_0, fl28_1, fl37_0, fl37_1, fl43_0, fl43_1, fl57_0, fl57_1, pl28, pl37, pl43, pl57, ti3, ti4, ti5, ti9, ti22, ti25, ti26, ti28, ti32, ti35, ti37, ti43, ti53, ti55, ti57, ti58, ti81, ti116, ti121, un3, un4, un5, un9, un22, un23, un25, un26, un29, un32, un35, un47, un53, un55, un58, un59, un79, un90, un113, un116, S1_fw, U1_fw, I1_fw, Pr.fw, So.fw, hb1] <;> rfl) ?_
  refine aops_fn rfl rfl rfl en30 h30 ?_
  refine aops_run 2 (by simp only [fwA, ↓reduceIte, Nat.reduceAdd, Nat.reduceMul, Nat.reduceEqDiff, Nat.reduceLT, Nat.reduceLeDiff, reduceCtorEq, bitfw, List.length_map, List.getElem?_map, Option.map_some, Int.natCast_nonneg, Int.toNat_natCast, decide_true, decide_false, Bool.and_true, Bool.and_self, Bool.not_true, Bool.not_false, Bool.false_and, Bool.true_and, el22, el23, el25, el26, el29, el32, el47, el79, el121, fl28_0, fl28_1, fl37_0, fl37_1, fl43_0, fl43_1, fl57_0, fl57_1, pl28, pl37, pl43, pl57, ti3, ti4, ti5, ti9, ti22, ti25, ti26, ti28, ti32, ti35, ti37, ti43, ti53, ti55, ti57, ti58, ti81, ti116, ti121, un3, un4, un5, un9, un22, un23, un25, un26, un29, un32, un35, un47, un53, un55, un58, un59, un79, un90, un113, un116, S1_fw, U1_fw, I1_fw, Pr.fw, So.fw, hb1] <;> rfl) ?_
  refine aops_end ?_
  refine awp_ret ?_
  exact calls_end (p := .bool (!ptB ns.length x.p)) [.box x.enc] (.inl rfl) hbd rfl rfl ⟨rfl, rfl⟩

/- chancel/solve.Solves' test of a pair -/
theorem c32 (Γ : Nat → PV) (hΓ : Tab64 Γ) (ns : List (List UInt8)) (us : List Nat) (hw : W64 us) (s : List So) (p : Pr) (ha : I64 p.a) (hb' : I64 p.b) (H : List Blk) (b1 b2 : Nat) (hb : H[b1]? = some (.box [.vec (ns.map S1) false, .vec (us.map U1) false])) (hs : H[b2]? = some (.box [.vec (s.map So.enc) false])) :
    ACalls Tryd.prog Γ 32 [.agg p.enc, .ptr b1 0, .ptr b2 0] H (fun q H' => q = .bool (!leqB (min ns.length us.length) us (valueV ns us s p.a) (valueV ns us s p.b)) ∧ H' = H) := by
  have hbl := (List.getElem?_eq_some_iff.1 hb).1
  have hb1 : ∀ L, (H ++ L)[b1]? = some (.box [.vec (ns.map S1) false, .vec (us.map U1) false]) := fun L => by rw [List.getElem?_append_left hbl]; exact hb
  have hbl2 := (List.getElem?_eq_some_iff.1 hs).1
  have hb2 : ∀ L, (H ++ L)[b2]? = some (.box [.vec (s.map So.enc) false]) := fun L => by rw [List.getElem?_append_left hbl2]; exact hs
  have ha1 := c14 Γ hΓ ns us hw s p.a ha
  have ha2 := c14 Γ hΓ ns us hw s p.b hb'
  have h13 := c13 Γ ns us hw (valueV ns us s p.a) (valueV ns us s p.b)
  refine acalls_of_awp Tryd.func32 rfl (by simp [Tryd.f32]) fun hbd => ?_
  refine awp_seq ?_
  refine awp_run rfl (by simp only [fwA, ↓reduceIte, Nat.reduceAdd, Nat.reduceMul, Nat.reduceEqDiff, Nat.reduceLT, Nat.reduceLeDiff, reduceCtorEq] <;> rfl) ?_
  refine awp_seq ?_
  refine awp_drawn [1, 1, 1, 0, 1, 0, 1, 1, 0, 1, 0, 0, 0, 0] [0, 0, 0, 0, 8, 30, 0, 0, 0, 256, 1022, 2047, 4095, 8191] mixed rfl (by kernel_rfl) ?_
  refine dops_run 5 (by simp only [fwA, ↓reduceIte, Nat.reduceAdd, Nat.reduceMul, Nat.reduceEqDiff, Nat.reduceLT, Nat.reduceLeDiff, reduceCtorEq, bitfw, List.length_map, List.getElem?_map, Option.map_some, Int.natCast_nonneg, Int.toNat_natCast, decide_true, decide_false, Bool.and_true, Bool.and_self, Bool.not_true, Bool.not_false, Bool.false_and, Bool.true_and, el22, el23, el25, el26, el29, el32, el47, el79, el121, fl28_0, fl28_1, fl37_0, fl37_1, fl43_0, fl43_1, fl57_0, fl57_1, pl28, pl37, pl43, pl57, ti3, ti4, ti5, ti9, ti22, ti25, ti26, ti28, ti32, ti35, ti37, ti43, ti53, ti55, ti57, ti58, ti81, ti116, ti121, un3, un4, un5, un9, un22, un23, un25, un26, un29, un32, un35, un47, un53, un55, un58, un59, un79, un90, un113, un116, S1_fw, U1_fw, I1_fw, Pr.fw, So.fw, hb1, hb2] <;> rfl) ?_
  refine dops_fn rfl (by simp only [fwA, ↓reduceIte, Nat.reduceAdd, Nat.reduceMul, Nat.reduceEqDiff, Nat.reduceLT, Nat.reduceLeDiff, reduceCtorEq] <;> rfl) rfl rfl en14 ha1 ?_
  refine dops_run 4 (by simp only [fwA, ↓reduceIte, Nat.reduceAdd, Nat.reduceMul, Nat.reduceEqDiff, Nat.reduceLT, Nat.reduceLeDiff, reduceCtorEq, bitfw, List.length_map, List.getElem?_map, Option.map_some, Int.natCast_nonneg, Int.toNat_natCast, decide_true, decide_false, Bool.and_true, Bool.and_self, Bool.not_true, Bool.not_false, Bool.false_and, Bool.true_and, el22, el23, el25, el26, el29, el32, el47, el79, el121, fl28_0, fl28_1, fl37_0, fl37_1, fl43_0, fl43_1, fl57_0, fl57_1, pl28, pl37, pl43, pl57, ti3, ti4, ti5, ti9, ti22, ti25, ti26, ti28, ti32, ti35, ti37, ti43, ti53, ti55, ti57, ti58, ti81, ti116, ti121, un3, un4, un5, un9, un22, un23, un25, un26, un29, un32, un35, un47, un53, un55, un58, un59, un79, un90, un113, un116, S1_fw, U1_fw, I1_fw, Pr.fw, So.fw, hb1, hb2] <;> rfl) ?_
  refine dops_fn rfl (by simp only [fwA, ↓reduceIte, Nat.reduceAdd, Nat.reduceMul, Nat.reduceEqDiff, Nat.reduceLT, Nat.reduceLeDiff, reduceCtorEq] <;> rfl) rfl rfl en14 ha2 ?_
  refine dops_fn rfl (by simp only [fwA, ↓reduceIte, Nat.reduceAdd, Nat.reduceMul, Nat.reduceEqDiff, Nat.reduceLT, Nat.reduceLeDiff, reduceCtorEq] <;> rfl) rfl rfl en13 h13 ?_
  refine dops_run 2 (by simp only [fwA, ↓reduceIte, Nat.reduceAdd, Nat.reduceMul, Nat.reduceEqDiff, Nat.reduceLT, Nat.reduceLeDiff, reduceCtorEq, bitfw, List.length_map, List.getElem?_map, Option.map_some, Int.natCast_nonneg, Int.toNat_natCast, decide_true, decide_false, Bool.and_true, Bool.and_self, Bool.not_true, Bool.not_false, Bool.false_and, Bool.true_and, el22, el23, el25, el26, el29, el32, el47, el79, el121, fl28_0, fl28_1, fl37_0, fl37_1, fl43_0, fl43_1, fl57_0, fl57_1, pl28, pl37, pl43, pl57, ti3, ti4, ti5, ti9, ti22, ti25, ti26, ti28, ti32, ti35, ti37, ti43, ti53, ti55, ti57, ti58, ti81, ti116, ti121, un3, un4, un5, un9, un22, un23, un25, un26, un29, un32, un35, un47, un53, un55, un58, un59, un79, un90, un113, un116, S1_fw, U1_fw, I1_fw, Pr.fw, So.fw, hb1, hb2] <;> rfl) ?_
  refine dops_end ?_
  refine awp_ret ?_
  exact calls_end (p := .bool (!leqB (min ns.length us.length) us (valueV ns us s p.a) (valueV ns us s p.b))) [.box p.enc] (.inl rfl) hbd rfl rfl ⟨rfl, rfl⟩

/- chancel/solve.Solves -/
theorem c12 (Γ : Nat → PV) (hΓ : Tab64 Γ) (ns : List (List UInt8)) (us : List Nat) (hw : W64 us) (c : List Pr) (hl : c.length ≤ 100000000) (ho : OkP c) (s : List So) : Gives Tryd.prog Γ 12 [.agg [.vec (ns.map S1) false, .vec (us.map U1) false], .vec (c.map Pr.enc) false, .vec (s.map So.enc) false] (.bool (solvesB ns us c s)) := by
  have h22 := c22 Γ hΓ ns us hw c hl ho
  refine fn_of_awp Tryd.func12 rfl (by simp [Tryd.f12]) rfl fun H => ?_
  refine awp_bd fun hbd0 => ?_
  refine awp_seq ?_
  refine awp_run rfl (by simp only [fwA, ↓reduceIte, Nat.reduceAdd, Nat.reduceMul, Nat.reduceEqDiff, Nat.reduceLT, Nat.reduceLeDiff, reduceCtorEq] <;> rfl) ?_
  have g0 : (H ++ [Blk.box [.vec (ns.map S1) false, .vec (us.map U1) false], .box [.vec (s.map So.enc) false]])[H.length]? = some (.box [.vec (ns.map S1) false, .vec (us.map U1) false]) := by rw [Fw.get_at0]; rfl
  have g1 : (H ++ [Blk.box [.vec (ns.map S1) false, .vec (us.map U1) false], .box [.vec (s.map So.enc) false]])[H.length + 1]? = some (.box [.vec (s.map So.enc) false]) := by rw [Fw.get_at]; rfl
  have hpre : ∃ L, H ++ [Blk.box [.vec (ns.map S1) false, .vec (us.map U1) false], .box [.vec (s.map So.enc) false]] = H ++ L := ⟨_, rfl⟩
  generalize hK : H ++ [Blk.box [.vec (ns.map S1) false, .vec (us.map U1) false], .box [.vec (s.map So.enc) false]] = K at g0 g1 hpre ⊢
  have hend : ∀ (A' : List (Nat × PV)) (v : Bool), alook A' 6 = .bool v → ((Exit.ret = .ret ∨ Exit.ret = .normal) ∧ ([] : List Nat).Nodup ∧ (∀ b ∈ ([] : List Nat), K[b]? = some .dfr ∧ H.length ≤ b) ∧ ares Tryd.prog Γ A' K Tryd.f12.results.toList = some (.bool v) ∧ ∃ L', K = H ++ L') := fun A' v hv => by
    obtain ⟨L, rfl⟩ := hpre
    exact gives_end (.inl rfl) _ (by simp [ares, aresL, ares1, Tryd.f12, hv])
  have h28 := c28 Γ 29 en29 [.ptr H.length 0] (fun x => !ptB ns.length x.p) s K (fun x hx => c29 Γ ns us x K H.length g0)
  have h31 := c31 Γ 32 en32 [.ptr H.length 0, .ptr (H.length + 1) 0] (fun p => !leqB (min ns.length us.length) us (valueV ns us s p.a) (valueV ns us s p.b)) c K (fun p hp => c32 Γ hΓ ns us hw s p (ho p hp).1 (ho p hp).2 K H.length (H.length + 1) g0 g1)
  rw [any_all] at h28 h31
  unfold solvesB
  refine awp_seq ?_
  refine awp_seq ?_
  cases hk : knownB ns us c
  · rw [hk] at h22
    refine awp_region rfl ?_
    refine aops_run 2 (by simp only [fwA, ↓reduceIte, Nat.reduceAdd, Nat.reduceMul, Nat.reduceEqDiff, Nat.reduceLT, Nat.reduceLeDiff, reduceCtorEq, bitfw, List.length_map, List.getElem?_map, Option.map_some, Int.natCast_nonneg, Int.toNat_natCast, decide_true, decide_false, Bool.and_true, Bool.and_self, Bool.not_true, Bool.not_false, Bool.false_and, Bool.true_and, el22, el23, el25, el26, el29, el32, el47, el79, el121, fl28_0, fl28_1, fl37_0, fl37_1, fl43_0, fl43_1, fl57_0, fl57_1, pl28, pl37, pl43, pl57, ti3, ti4, ti5, ti9, ti22, ti25, ti26, ti28, ti32, ti35, ti37, ti43, ti53, ti55, ti57, ti58, ti81, ti116, ti121, un3, un4, un5, un9, un22, un23, un25, un26, un29, un32, un35, un47, un53, un55, un58, un59, un79, un90, un113, un116, S1_fw, U1_fw, I1_fw, Pr.fw, So.fw, g0, g1] <;> rfl) ?_
    refine aops_fn rfl rfl rfl en22 h22 ?_
    refine aops_run 6 (by simp only [fwA, ↓reduceIte, Nat.reduceAdd, Nat.reduceMul, Nat.reduceEqDiff, Nat.reduceLT, Nat.reduceLeDiff, reduceCtorEq, bitfw, List.length_map, List.getElem?_map, Option.map_some, Int.natCast_nonneg, Int.toNat_natCast, decide_true, decide_false, Bool.and_true, Bool.and_self, Bool.not_true, Bool.not_false, Bool.false_and, Bool.true_and, el22, el23, el25, el26, el29, el32, el47, el79, el121, fl28_0, fl28_1, fl37_0, fl37_1, fl43_0, fl43_1, fl57_0, fl57_1, pl28, pl37, pl43, pl57, ti3, ti4, ti5, ti9, ti22, ti25, ti26, ti28, ti32, ti35, ti37, ti43, ti53, ti55, ti57, ti58, ti81, ti116, ti121, un3, un4, un5, un9, un22, un23, un25, un26, un29, un32, un35, un47, un53, un55, un58, un59, un79, un90, un113, un116, S1_fw, U1_fw, I1_fw, Pr.fw, So.fw, g0, g1] <;> rfl) ?_
    refine aops_end ?_
    refine awp_cond (b := true) (by simp [alook, aput, ev]) ?_
    refine awp_seq ?_
    refine awp_run rfl (by simp only [fwA, ↓reduceIte, Nat.reduceAdd, Nat.reduceMul, Nat.reduceEqDiff, Nat.reduceLT, Nat.reduceLeDiff, reduceCtorEq] <;> rfl) ?_
    refine awp_ret ?_
    exact hend _ _ rfl
  rw [hk] at h22
  refine awp_region rfl ?_
  refine aops_run 2 (by simp only [fwA, ↓reduceIte, Nat.reduceAdd, Nat.reduceMul, Nat.reduceEqDiff, Nat.reduceLT, Nat.reduceLeDiff, reduceCtorEq, bitfw, List.length_map, List.getElem?_map, Option.map_some, Int.natCast_nonneg, Int.toNat_natCast, decide_true, decide_false, Bool.and_true, Bool.and_self, Bool.not_true, Bool.not_false, Bool.false_and, Bool.true_and, el22, el23, el25, el26, el29, el32, el47, el79, el121, fl28_0, fl28_1, fl37_0, fl37_1, fl43_0, fl43_1, fl57_0, fl57_1, pl28, pl37, pl43, pl57, ti3, ti4, ti5, ti9, ti22, ti25, ti26, ti28, ti32, ti35, ti37, ti43, ti53, ti55, ti57, ti58, ti81, ti116, ti121, un3, un4, un5, un9, un22, un23, un25, un26, un29, un32, un35, un47, un53, un55, un58, un59, un79, un90, un113, un116, S1_fw, U1_fw, I1_fw, Pr.fw, So.fw, g0] <;> rfl) ?_
  refine aops_fn rfl rfl rfl en22 h22 ?_
  refine aops_run 4 (by simp only [fwA, ↓reduceIte, Nat.reduceAdd, Nat.reduceMul, Nat.reduceEqDiff, Nat.reduceLT, Nat.reduceLeDiff, reduceCtorEq, bitfw, List.length_map, List.getElem?_map, Option.map_some, Int.natCast_nonneg, Int.toNat_natCast, decide_true, decide_false, Bool.and_true, Bool.and_self, Bool.not_true, Bool.not_false, Bool.false_and, Bool.true_and, el22, el23, el25, el26, el29, el32, el47, el79, el121, fl28_0, fl28_1, fl37_0, fl37_1, fl43_0, fl43_1, fl57_0, fl57_1, pl28, pl37, pl43, pl57, ti3, ti4, ti5, ti9, ti22, ti25, ti26, ti28, ti32, ti35, ti37, ti43, ti53, ti55, ti57, ti58, ti81, ti116, ti121, un3, un4, un5, un9, un22, un23, un25, un26, un29, un32, un35, un47, un53, un55, un58, un59, un79, un90, un113, un116, S1_fw, U1_fw, I1_fw, Pr.fw, So.fw, g1] <;> rfl) ?_
  refine aops_if rfl rfl rfl (os_call rfl rfl en28 (h28.mono fun p H' hp => ?_))
  obtain ⟨rfl, e⟩ := hp
  rw [e]
  cases h2 : s.all fun x => ptB ns.length x.p
  · refine aops_run 1 (by simp only [fwA, ↓reduceIte, Nat.reduceAdd, Nat.reduceMul, Nat.reduceEqDiff, Nat.reduceLT, Nat.reduceLeDiff, reduceCtorEq, bitfw, List.length_map, List.getElem?_map, Option.map_some, Int.natCast_nonneg, Int.toNat_natCast, decide_true, decide_false, Bool.and_true, Bool.and_self, Bool.not_true, Bool.not_false, Bool.false_and, Bool.true_and, el22, el23, el25, el26, el29, el32, el47, el79, el121, fl28_0, fl28_1, fl37_0, fl37_1, fl43_0, fl43_1, fl57_0, fl57_1, pl28, pl37, pl43, pl57, ti3, ti4, ti5, ti9, ti22, ti25, ti26, ti28, ti32, ti35, ti37, ti43, ti53, ti55, ti57, ti58, ti81, ti116, ti121, un3, un4, un5, un9, un22, un23, un25, un26, un29, un32, un35, un47, un53, un55, un58, un59, un79, un90, un113, un116, S1_fw, U1_fw, I1_fw, Pr.fw, So.fw] <;> rfl) ?_
    refine aops_end ?_
    refine awp_cond (b := true) (by simp [alook, aput, ev]) ?_
    refine awp_seq ?_
    refine awp_run rfl (by simp only [fwA, ↓reduceIte, Nat.reduceAdd, Nat.reduceMul, Nat.reduceEqDiff, Nat.reduceLT, Nat.reduceLeDiff, reduceCtorEq] <;> rfl) ?_
    refine awp_ret ?_
    exact hend _ _ rfl
  refine aops_run 1 (by simp only [fwA, ↓reduceIte, Nat.reduceAdd, Nat.reduceMul, Nat.reduceEqDiff, Nat.reduceLT, Nat.reduceLeDiff, reduceCtorEq, bitfw, List.length_map, List.getElem?_map, Option.map_some, Int.natCast_nonneg, Int.toNat_natCast, decide_true, decide_false, Bool.and_true, Bool.and_self, Bool.not_true, Bool.not_false, Bool.false_and, Bool.true_and, el22, el23, el25, el26, el29, el32, el47, el79, el121, fl28_0, fl28_1, fl37_0, fl37_1, fl43_0, fl43_1, fl57_0, fl57_1, pl28, pl37, pl43, pl57, ti3, ti4, ti5, ti9, ti22, ti25, ti26, ti28, ti32, ti35, ti37, ti43, ti53, ti55, ti57, ti58, ti81, ti116, ti121, un3, un4, un5, un9, un22, un23, un25, un26, un29, un32, un35, un47, un53, un55, un58, un59, un79, un90, un113, un116, S1_fw, U1_fw, I1_fw, Pr.fw, So.fw] <;> rfl) ?_
  refine aops_end ?_
  refine awp_cond (b := false) (by simp [alook, aput, ev]) (awp_skip ?_)
  refine awp_seq ?_
  refine awp_region rfl ?_
  refine aops_run 2 (by simp only [fwA, ↓reduceIte, Nat.reduceAdd, Nat.reduceMul, Nat.reduceEqDiff, Nat.reduceLT, Nat.reduceLeDiff, reduceCtorEq, bitfw, List.length_map, List.getElem?_map, Option.map_some, Int.natCast_nonneg, Int.toNat_natCast, decide_true, decide_false, Bool.and_true, Bool.and_self, Bool.not_true, Bool.not_false, Bool.false_and, Bool.true_and, el22, el23, el25, el26, el29, el32, el47, el79, el121, fl28_0, fl28_1, fl37_0, fl37_1, fl43_0, fl43_1, fl57_0, fl57_1, pl28, pl37, pl43, pl57, ti3, ti4, ti5, ti9, ti22, ti25, ti26, ti28, ti32, ti35, ti37, ti43, ti53, ti55, ti57, ti58, ti81, ti116, ti121, un3, un4, un5, un9, un22, un23, un25, un26, un29, un32, un35, un47, un53, un55, un58, un59, un79, un90, un113, un116, S1_fw, U1_fw, I1_fw, Pr.fw, So.fw] <;> rfl) ?_
  refine aops_call rfl rfl rfl en31 (h31.mono fun p H' hp => ?_)
  obtain ⟨rfl, e⟩ := hp
  rw [e]
  refine aops_run 2 (by simp only [fwA, ↓reduceIte, Nat.reduceAdd, Nat.reduceMul, Nat.reduceEqDiff, Nat.reduceLT, Nat.reduceLeDiff, reduceCtorEq, bitfw, List.length_map, List.getElem?_map, Option.map_some, Int.natCast_nonneg, Int.toNat_natCast, decide_true, decide_false, Bool.and_true, Bool.and_self, Bool.not_true, Bool.not_false, Bool.false_and, Bool.true_and, el22, el23, el25, el26, el29, el32, el47, el79, el121, fl28_0, fl28_1, fl37_0, fl37_1, fl43_0, fl43_1, fl57_0, fl57_1, pl28, pl37, pl43, pl57, ti3, ti4, ti5, ti9, ti22, ti25, ti26, ti28, ti32, ti35, ti37, ti43, ti53, ti55, ti57, ti58, ti81, ti116, ti121, un3, un4, un5, un9, un22, un23, un25, un26, un29, un32, un35, un47, un53, un55, un58, un59, un79, un90, un113, un116, S1_fw, U1_fw, I1_fw, Pr.fw, So.fw] <;> rfl) ?_
  refine aops_end ?_
  refine awp_ret ?_
  exact hend _ _ (by simp [alook, aput])

end Go.Proofs.YtpkpbfemglmejaaDoor

/- The framework on: maps whose keys are arrays of two numbers. -/
namespace Go.Proofs.YtpkpbfemglmejaaDoor.Fw
set_option linter.unusedVariables false
set_option linter.unusedSimpArgs false
set_option maxRecDepth 100000
open Go.RowKit

/-- What a search for a key comes to, whatever the world. -/
def Asks (P : Program) (kt : TypeId) (key : PV) (es : List (PV × PV)) (r : Option (Nat × PV)) : Prop :=
  ∀ (G : Ghost) (n : Nat) (v : Value) (w : World) (E : List MapEntry), Rep G n key v → E.length = es.length → (∀ (j : Nat) p q x, es[j]? = some (p, q) → E[j]? = some x → Rep G n p x.key ∧ Rep G n q x.val) →
    (∀ em, (Instr.checkKey em 10000 kt v).run P w = .ok () w) ∧ ∃ r', (Instr.findKey kt v E).run P w = .ok r' w ∧ match r with | none => r' = none | some (j, q) => ∃ u, r' = some (j, u) ∧ Rep G n q u

theorem rep_pair {G : Ghost} {n : Nat} {k : IntKind} {a c : Int} {v : Value} (h : Rep G n (.agg [.int k a, .int k c]) v) : v = .agg #[.int k a, .int k c] := by
  cases h with
  | agg _ _ us k1 k2 k3 =>
    have hs : us.size = 2 := k1.symm
    have h0 := k2 0 _ us[0] rfl (Array.getElem?_eq_getElem (by omega))
    have h1 := k2 1 _ us[1] rfl (Array.getElem?_eq_getElem (by omega))
    congr 1
    refine Array.ext (by simpa using hs) fun i hi hi2 => ?_
    match i with
    | 0 => exact h0.int_inv
    | 1 => exact h1.int_inv
    | i + 2 => omega
def find2 (a c : Int) : List ((Int × Int) × PV) → Nat → Option (Nat × PV)
  | [], _ => none
  | x :: es, i => if a = x.1.1 ∧ c = x.1.2 then some (i, x.2) else find2 a c es (i + 1)
def enc2 (x : (Int × Int) × PV) : PV × PV := (.agg [.int .i64 x.1.1, .int .i64 x.1.2], x.2)
section
variable {P : Program} {kt e : TypeId} {inf : TypeInfo}

theorem part2 (he : P.underlying e = some (.int .i64)) {cs : Array Value} {i : Nat} {v : Value} (h : cs[i]? = some v) (w : World) : (part e cs i).run P w = .ok v w := by
  simp [part, run_agg he, aggD, h]
theorem check2 (hkt : P.underlying kt = some (.array 2 e)) (he : P.underlying e = some (.int .i64)) (hi : P.info? e = some inf) (hs : inf.size = 1) (em : Bool) (a c : Int) (w : World) : (Instr.checkKey em 10000 kt (.agg #[.int .i64 a, .int .i64 c])).run P w = .ok () w := by
  have h0 : (part e #[.int .i64 a, .int .i64 c] 0).run P w = .ok (.int .i64 a) w := part2 he rfl w
  have h1 : (part e #[.int .i64 a, .int .i64 c] 1).run P w = .ok (.int .i64 c) w := part2 he rfl w
  have k0 : ∀ a : Int, (Instr.checkKey em 9999 e (.int .i64 a)).run P w = .ok () w := fun a => by
    unfold Instr.checkKey
    simp [run_under he]
  unfold Instr.checkKey
  simp [run_under hkt, run_size hi, hs, h0, h1, k0, Std.Legacy.Range.forIn_eq_forIn_range', List.range'_succ]
theorem equal2 (hkt : P.underlying kt = some (.array 2 e)) (he : P.underlying e = some (.int .i64)) (hi : P.info? e = some inf) (hs : inf.size = 1) (a c x y : Int) (w : World) : (Op.equal kt (.agg #[.int .i64 a, .int .i64 c]) (.agg #[.int .i64 x, .int .i64 y])).run P w = .ok (decide (a = x ∧ c = y)) w := by
  have h0 : ∀ a c : Int, (part e #[.int .i64 a, .int .i64 c] 0).run P w = .ok (.int .i64 a) w := fun a c => part2 he rfl w
  have h1 : ∀ a c : Int, (part e #[.int .i64 a, .int .i64 c] 1).run P w = .ok (.int .i64 c) w := fun a c => part2 he rfl w
  have k0 : ∀ a c : Int, (Op.equalIn 9999 e (.int .i64 a) (.int .i64 c)).run P w = .ok (decide (a = c)) w := fun a c => run_equalIn_int w 9998 e _ _ _ _ he
  show (Op.equalIn 10000 kt _ _).run P w = _
  unfold Op.equalIn
  by_cases e1 : a = x <;> by_cases e2 : c = y <;>
  simp [run_under hkt, run_size hi, hs, h0, h1, k0, Std.Legacy.Range.forIn_eq_forIn_range', List.range'_succ, e1, e2]
theorem ask2 (hkt : P.underlying kt = some (.array 2 e)) (he : P.underlying e = some (.int .i64)) (hi : P.info? e = some inf) (hs : inf.size = 1) (a c : Int) {G : Ghost} {n : Nat} (w : World) : ∀ (es : List ((Int × Int) × PV)) (E : List MapEntry) (i : Nat), E.length = es.length → (∀ (j : Nat) p q x, (es.map enc2)[j]? = some (p, q) → E[j]? = some x → Rep G n p x.key ∧ Rep G n q x.val) →
    ∃ r', (Instr.findAsking kt (.agg #[.int .i64 a, .int .i64 c]) E i).run P w = .ok r' w ∧ match find2 a c es i with | none => r' = none | some (j, q) => ∃ u, r' = some (j, u) ∧ Rep G n q u
  | [], [], i, _, _ => ⟨none, by simp [Instr.findAsking], rfl⟩
  | x :: es, y :: E, i, hl, hE => by
    obtain ⟨h1, h2⟩ := hE 0 _ _ y rfl rfl
    have hk := rep_pair h1
    obtain ⟨r', r1, r2⟩ := ask2 hkt he hi hs a c w es E (i + 1) (by simpa using hl) fun j p q z hj hz => hE (j + 1) p q z hj hz
    have heq := equal2 hkt he hi hs a c x.1.1 x.1.2 w
    rw [← hk] at heq
    unfold Instr.findAsking find2
    by_cases hc : a = x.1.1 ∧ c = x.1.2
    · rw [if_pos hc]
      rw [decide_eq_true hc] at heq
      exact ⟨some (i, y.val), by simp [heq], y.val, rfl, h2⟩
    · rw [if_neg hc]
      rw [decide_eq_false hc] at heq
      exact ⟨r', by simp [heq, r1], r2⟩
theorem asks2 (hkt : P.underlying kt = some (.array 2 e)) (he : P.underlying e = some (.int .i64)) (hi : P.info? e = some inf) (hs : inf.size = 1) (a c : Int) (es : List ((Int × Int) × PV)) : Asks P kt (.agg [.int .i64 a, .int .i64 c]) (es.map enc2) (find2 a c es 0) := fun G n v w E hr hl hE => by
  have hv := rep_pair hr
  subst hv
  refine ⟨fun em => check2 hkt he hi hs em a c w, ?_⟩
  obtain ⟨r', r1, r2⟩ := ask2 hkt he hi hs a c (G := G) (n := n) w es E 0 (by simpa using hl) hE
  have hwide : (match P.underlying kt with | some (.array _ _) | some (.struct _) => true | _ => false) = true := by rw [hkt]
  exact ⟨r', by rw [run_findKey_eq w hwide]; exact r1, r2⟩
end
section
variable {P : Program} {Γ : Nat → PV} {o : Oper} {A : List (Nat × PV)} {H : List Blk} {K : PV → List Blk → Prop}

theorem os_lookupA {t kt et : TypeId} {x i : Operand} {ok : Bool} {b : Nat} {es : List (PV × PV)} {r : Option (Nat × PV)} {z : PV} (ho : o.op = .lookup t x i ok) (ht : P.underlying t = some (.map kt et))
    (hx : ev Γ A x = .map b) (hb : H[b]? = some (.map es)) (hf : Asks P kt (ev Γ A i) es r) (hz : r = none → zeroOf P et = some z ∧ ∀ i z cs, P.info? et = some i → i.zero = some z → z = .agg cs → ∀ (j : Nat) u, cs[j]? = some u → u.oneCell' = true)
    (hk : K (if ok = true then .tup [gotOr r z, .bool r.isSome] else gotOr r z) H) : OStep P Γ o A H K :=
  ostep_pure (by simp [ho]) _ hk fun w0 G w N a hs ha => by
    have hm := ha.ev hs.glob x
    rw [hx] at hm
    have hm := hm.map_inv
    obtain ⟨h0, E, clock, h1, h2, h3, _, _⟩ := hs.map_at hb
    have hkr := ha.ev hs.glob i
    obtain ⟨hck, r', hfk, h5⟩ := hf G H.length _ w E.toList hkr (by simpa using h2) (fun j p q x e1 e2 => h3 j p q x e1 (by simpa using e2))
    have hck := hck E.isEmpty
    have key : ∃ v bb, (match r' with | some (_, v) => (pure (v, true) : Sem (Value × Bool)) | none => do pure (← zeroValue et, false)).run P w = .ok (v, bb) w ∧ bb = r.isSome ∧ Rep G H.length (gotOr r z) v := by
      cases r with
      | none =>
        simp only at h5
        subst h5
        obtain ⟨z', e1, e2⟩ := zeroOf_spec (hz rfl).1 G H.length (hz rfl).2
        exact ⟨z', false, by simp [e1 w], rfl, e2⟩
      | some jq =>
        obtain ⟨j, q⟩ := jq
        obtain ⟨u, rfl, e2⟩ := h5
        exact ⟨u, true, by simp, rfl, e2⟩
    obtain ⟨v, bb, h6, h7, h8⟩ := key
    have hrun : (Instr.lookup t (a.eval x) (a.eval i) ok).run P w = .ok (if ok then .tuple #[v, .bool bb] else v) w := by
      unfold Instr.lookup
      simp only [Sem.run_bind, run_under ht, Result.andThen, hm, MapKept.run_getObj_map h1, Sem.run_pure, hck, hfk]
      cases r with
      | none =>
        simp only at h5
        subst h5
        simp only [Sem.run_bind, Result.andThen, Sem.run_pure] at h6 ⊢
        generalize (zeroValue et).run P w = q at h6 ⊢
        cases q with
        | ok x w' => simp only [Result.ok.injEq, Prod.mk.injEq] at h6 ⊢; obtain ⟨⟨rfl, rfl⟩, rfl⟩ := h6; exact ⟨rfl, rfl⟩
        | halt x w' => cases h6
      | some jq =>
        obtain ⟨u, rfl, _⟩ := h5
        simp only [Sem.run_pure, Result.ok.injEq, Prod.mk.injEq] at h6 ⊢
        obtain ⟨⟨rfl, rfl⟩, _⟩ := h6
        rfl
    refine ⟨if ok then .tuple #[v, .bool bb] else v, by simp only [execOp, ho]; simp [hrun], ?_⟩
    cases ok with
    | false => exact h8
    | true =>
      simp only [if_true]
      refine .tup _ _ _ rfl fun j c u hc hu => ?_
      match j with
      | 0 => cases hc; cases hu; exact h8
      | 1 => cases hc; cases hu; rw [h7]; exact .bool _ _
      | j + 2 => simp at hc

/-- A key that is new. -/
theorem os_insertA {t kt et : TypeId} {x i y : Operand} {b : Nat} {es : List (PV × PV)} (ho : o.op = .mapUpdate t x i y ∨ o.op = .insert t x i y) (ht : P.underlying t = some (.map kt et))
    (hx : ev Γ A x = .map b) (hb : H[b]? = some (.map es)) (hf : Asks P kt (ev Γ A i) es none)
    (hk : K .any (H.set b (.map (es ++ [(ev Γ A i, ev Γ A y)])))) : OStep P Γ o A H K :=
  ostep_skip (by rcases ho with ho | ho <;> simp [ho]) fun w0 G w N a hs ha => by
    have hm := ha.ev hs.glob x
    rw [hx] at hm
    have hm := hm.map_inv
    obtain ⟨h0, E, clock, h1, h2, h3, h4, h5⟩ := hs.map_at hb
    have hkr := ha.ev hs.glob i
    have hyr := ha.ev hs.glob y
    obtain ⟨hck, r', hfk, h7⟩ := hf G H.length _ w E.toList hkr (by simpa using h2) (fun j p q x e1 e2 => h3 j p q x e1 (by simpa using e2))
    have hck := hck false
    simp only at h7
    subst h7
    have hexec : ∀ w', (Instr.mapUpdate t (a.eval x) (a.eval i) (a.eval y)).run P w = .ok () w' → (execOp a.eval o).run P w = .ok .skip w' := fun w' h => by
      rcases ho with ho | ho <;> simp [execOp, ho, h]
    have fin : ∀ (E' : Array MapEntry) (clock' : Nat) (es' : List (PV × PV)), E'.size = es'.length → (∀ (j : Nat) p q x, es'[j]? = some (p, q) → E'[j]? = some x → Rep G H.length p x.key ∧ Rep G H.length q x.val) →
        (∀ (j : Nat) x, E'[j]? = some x → x.born < clock') → (∀ (j k : Nat) x y, E'[j]? = some x → E'[k]? = some y → x.born = y.born → j = k) →
        Sim Γ w0 G (H.set b (.map es')) { w with heap := w.heap.setIfInBounds (G.info b).blk (.map E' clock') } := fun E' clock' es' e1 e2 e3 e4 => by
      refine hs.setSame hb rfl (fun k hk => by simp [Array.getElem?_setIfInBounds, Ne.symm hk]) (by simp) ⟨rfl, rfl, rfl⟩ ⟨h0, E', clock', ?_, e1, e2, e3, e4⟩
      have := (Array.getElem?_eq_some_iff.1 h1).1
      simp [Array.getElem?_setIfInBounds, this]
    refine ⟨_, G, _, hexec _ (by simp [Instr.mapUpdate, run_under ht, Result.andThen, hm, MapKept.run_getObj_map h1, hck, hfk, MapKept.run_setObj_map _ h1]; rfl), fin _ _ (es ++ [(ev Γ A i, ev Γ A y)]) (by simp [h2]) (fun j p q x e1 e2 => ?_) (fun j x e => ?_) (fun j k x y e1 e2 he => ?_), Evol.refl _ _, by simp, hk⟩
    · by_cases hj : j < es.length
      · rw [List.getElem?_append_left hj] at e1
        rw [Array.getElem?_push_lt (by omega)] at e2
        exact h3 j p q x e1 (by rw [Array.getElem?_eq_getElem (by omega)]; exact e2)
      · have hj' : j = es.length := by
          have := (List.getElem?_eq_some_iff.1 e1).1
          simp at this; omega
        subst hj'
        simp at e1
        rw [← h2] at e2
        simp at e2
        obtain ⟨rfl, rfl⟩ := e1
        subst e2
        exact ⟨hkr, hyr⟩
    · rw [Array.getElem?_push] at e
      split at e
      · cases e; exact Nat.lt_succ_self _
      · exact Nat.lt_succ_of_lt (h4 j x e)
    · rw [Array.getElem?_push] at e1 e2
      split at e1 <;> split at e2
      · omega
      · cases e1; have := h4 k y e2; simp at he; omega
      · cases e2; have := h4 j x e1; simp at he; omega
      · exact h5 j k x y e1 e2 he
/-- An array, of its parts. -/
theorem os_buildArr {t : TypeId} {parts : Array (Nat × Operand)} {ti : TI} {m sz : Nat} {cs : List PV} (ho : o.op = .build t parts) (ht : tiOf P t = some ti) (har : arOf P t = some (m, sz))
    (hb : abuild (fun i => some (i * sz, sz)) ti.zero (parts.toList.map fun x => (x.1, ev Γ A x.2)) = some cs) (hk : K (.agg cs) H) : OStep P Γ o A H K :=
  ostep_pure (by simp [ho]) _ hk fun w0 G w N a hs ha => by
    obtain ⟨i, d, z, hi, hd, hz, hzs, hsz, _, h1, hagg, hzero⟩ := tiOf_spec ht
    obtain ⟨te, ie, hu, hinf, hes⟩ := arOf_spec har
    have hzr : Reps G H.length ti.zero z.cells.toList := by
      rw [hzero]
      refine ⟨by simp, fun j p v hp hv => ?_⟩
      rw [List.getElem?_map, hv] at hp
      obtain rfl := Option.some.inj hp
      exact ofC_rep _ _ _
    obtain ⟨C', hC', hr, h1'⟩ := fill_spec (place := fun i => some (i * sz, sz)) (place' := fun i => some (i * sz, sz)) (parts.toList.map fun x => (x.1, ev Γ A x.2)) (parts.toList.map fun x => (x.1, a.eval x.2)) ti.zero cs z.cells (fun i => by simp) (by simp)
      (fun j i p i' v hj hj' => by
        rw [List.getElem?_map] at hj hj'
        cases hx : parts.toList[j]? with
        | none => rw [hx] at hj; cases hj
        | some x =>
          rw [hx] at hj hj'
          simp only [Option.map_some, Option.some.injEq, Prod.mk.injEq] at hj hj'
          obtain ⟨rfl, rfl⟩ := hj
          obtain ⟨rfl, rfl⟩ := hj'
          exact ⟨rfl, ha.ev hs.glob x.2⟩) hzr h1 hb
    refine ⟨.agg C', ?_, .agg _ _ _ (hr.1.trans Array.length_toList) (fun j c v hc hv => hr.2 j c v hc (by simpa using hv)) h1'⟩
    simp only [execOp, ho, Instr.build, Sem.run_bind, run_zero hi hz, run_under hu, Result.andThen_ok, run_size hinf, hes, Array.toList_map]
    rw [hC']
    rfl
theorem find2_new {a c : Int} {v : PV} : ∀ {es : List ((Int × Int) × PV)} {i : Nat}, find2 a c es i = none → find2 a c (es ++ [((a, c), v)]) i = some (i + es.length, v)
  | [], i, _ => by simp [find2]
  | x :: es, i, h => by
    unfold find2 at h
    split at h
    · cases h
    · rename_i hc
      rw [List.cons_append]
      unfold find2
      rw [if_neg hc, find2_new h, List.length_cons]
      congr 2; omega
theorem find2_mem {a c : Int} : ∀ {es : List ((Int × Int) × PV)} {i : Nat} {r : Nat × PV}, find2 a c es i = some r → ((a, c), r.2) ∈ es
  | [], i, r, h => by cases h
  | x :: es, i, r, h => by
    unfold find2 at h
    split at h
    · rename_i hc
      cases h
      obtain ⟨h1, h2⟩ := hc
      subst h1 h2
      exact List.mem_cons_self
    · exact List.mem_cons_of_mem _ (find2_mem h)
end
end Go.Proofs.YtpkpbfemglmejaaDoor.Fw

/- The framework on: the end of a function that drops its own blocks. -/
namespace Go.Proofs.YtpkpbfemglmejaaDoor
set_option linter.unusedVariables false
set_option linter.unusedSimpArgs false
set_option maxRecDepth 100000
open Go.RowKit Fw

theorem calls_cut {P : Program} {Γ : Nat → PV} {fn : Func} {n : Nat} {p : PV} {R : PV → List Blk → Prop} {A' : List (Nat × PV)} (H1 L : List Blk) {e : Exit} (he : e = .ret ∨ e = .normal) (hbd : ∀ B ∈ H1, B.bd H1.length = true) (h : ares P Γ A' (H1 ++ L) fn.results.toList = some p) (hp : p.bd H1.length = true) (hn : n ≤ H1.length) (hR : R p H1) :
    RetQ P Γ fn n R e A' (H1 ++ L) [] := by
  have ht : (H1 ++ L).take H1.length = H1 := List.take_left' rfl
  exact ⟨he, List.nodup_nil, (fun b hb => by cases hb), p, H1.length, h, hn, by simp, fun b hb => (by cases hb), hp, by rw [ht]; exact hbd, by rw [ht]; exact hR⟩

end Go.Proofs.YtpkpbfemglmejaaDoor

/- The contracts of a join that is looked up once; of what a variable stands for. -/
namespace Go.Proofs.YtpkpbfemglmejaaDoor
set_option linter.unusedVariables false
set_option linter.unusedSimpArgs false
set_option maxRecDepth 100000
open Go.RowKit Fw

/-- Whether what is looked up are joins. -/
def JoinsOk (ns : List (List UInt8)) (us : List Nat) (es : List ((Int × Int) × PV)) : Prop := ∀ x ∈ es, x.2 = .int .i64 (joinV ns us x.1.1 x.1.2)
def joinsTo (ns : List (List UInt8)) (us : List Nat) (es : List ((Int × Int) × PV)) (a b : Int) : List ((Int × Int) × PV) := if (find2 a b es 0).isSome then es else es ++ [((a, b), .int .i64 (joinV ns us a b))]
theorem JoinsOk.to {ns : List (List UInt8)} {us : List Nat} {es : List ((Int × Int) × PV)} (h : JoinsOk ns us es) (a b : Int) : JoinsOk ns us (joinsTo ns us es a b) := fun x hx => by
  unfold joinsTo at hx
  split at hx
  · exact h x hx
  · rcases List.mem_append.1 hx with hx | hx
    · exact h x hx
    · rw [List.mem_singleton.1 hx]
theorem JoinsOk.bd {ns : List (List UInt8)} {us : List Nat} {es : List ((Int × Int) × PV)} (h : JoinsOk ns us es) (n : Nat) : (Blk.map (es.map enc2)).bd n = true := by
  unfold Blk.bd
  rw [List.all_eq_true]
  intro y hy
  obtain ⟨x, hx, rfl⟩ := List.mem_map.1 hy
  unfold enc2
  rw [h x hx]; rfl
theorem z3 : zero1 Tryd.prog 3 = some (.int .i64 0) := by kernel_rfl
theorem set_bd {H : List Blk} {m : Nat} {B : Blk} (h : ∀ B ∈ H, B.bd H.length = true) (hB : B.bd H.length = true) : ∀ C ∈ H.set m B, C.bd (H.set m B).length = true := fun C hC => by
  rw [List.length_set]
  rcases List.mem_or_eq_of_mem_set hC with hC | rfl
  · exact h C hC
  · exact hB
set_option maxHeartbeats 4000000 in
/- (chancel/solve.table).join -/
theorem c27 (Γ : Nat → PV) (hΓ : Tab64 Γ) (ns : List (List UInt8)) (us : List Nat) (hw : W64 us) (a b : Int) (m : Nat) (es : List ((Int × Int) × PV)) (hg : JoinsOk ns us es) (hle : leqB (min ns.length us.length) us a b = false) (H : List Blk) (hm : H[m]? = some (.map (es.map enc2))) :
    ACalls Tryd.prog Γ 27 [.agg [.vec (ns.map S1) false, .vec (us.map U1) false, .map m], .int .i64 a, .int .i64 b] H (fun q H' => q = .int .i64 (joinV ns us a b) ∧ H' = H.set m (.map ((joinsTo ns us es a b).map enc2))) := by
  have h13 := c13 Γ ns us hw a b
  rw [hle] at h13
  have h47 := c47 Γ hΓ ns us hw a b
  have hml := (List.getElem?_eq_some_iff.1 hm).1
  have gm : ∀ L, (H ++ L)[m]? = some (.map (es.map enc2)) := fun L => by rw [List.getElem?_append_left hml]; exact hm
  obtain ⟨i3, _, _, hi3, _, _, _, hs3, _⟩ := tiOf_spec ti3
  have hask := asks2 (P := Tryd.prog) (kt := 81) (e := 3) Tryd.underlying81 un3 hi3 hs3 a b
  have ar81 : arOf Tryd.prog 81 = some (2, 1) := by kernel_rfl
  refine acalls_of_awp Tryd.func27 rfl (by simp [Tryd.f27]) fun hbd => ?_
  refine awp_seq ?_
  refine awp_run rfl (by simp only [fwA, ↓reduceIte, Nat.reduceAdd, Nat.reduceMul, Nat.reduceEqDiff, Nat.reduceLT, Nat.reduceLeDiff, reduceCtorEq] <;> rfl) ?_
  refine awp_seq ?_
  refine awp_seq ?_
  refine awp_region rfl ?_
  refine aops_run 4 (by simp only [fwA, ↓reduceIte, Nat.reduceAdd, Nat.reduceMul, Nat.reduceEqDiff, Nat.reduceLT, Nat.reduceLeDiff, reduceCtorEq, bitfw, List.length_map, List.getElem?_map, Option.map_some, Int.natCast_nonneg, Int.toNat_natCast, decide_true, decide_false, Bool.and_true, Bool.and_self, Bool.not_true, Bool.not_false, Bool.false_and, Bool.true_and, el22, el23, el25, el26, el29, el32, el47, el79, el121, fl28_0, fl28_1, fl37_0, fl37_1, fl43_0, fl43_1, pl28, pl37, pl43, ti3, ti4, ti5, ti9, ti22, ti25, ti26, ti28, ti32, ti35, ti37, ti43, ti53, ti58, ti116, ti121, un3, un4, un5, un9, un22, un23, un25, un26, un29, un32, un35, un47, un53, un55, un58, un59, un79, un90, un113, un116, S1_fw, U1_fw, I1_fw, Pr.fw, So.fw, pl57, ti57, fl57_0, fl57_1, ti55, ti81] <;> rfl) ?_
  refine aops_fn rfl rfl rfl en13 h13 ?_
  refine aops_end ?_
  refine awp_cond (b := false) (by simp [alook, aput, ev]) (awp_skip ?_)
  refine awp_seq ?_
  refine awp_region rfl ?_
  refine aops_run 2 (by simp only [fwA, ↓reduceIte, Nat.reduceAdd, Nat.reduceMul, Nat.reduceEqDiff, Nat.reduceLT, Nat.reduceLeDiff, reduceCtorEq, bitfw, List.length_map, List.getElem?_map, Option.map_some, Int.natCast_nonneg, Int.toNat_natCast, decide_true, decide_false, Bool.and_true, Bool.and_self, Bool.not_true, Bool.not_false, Bool.false_and, Bool.true_and, el22, el23, el25, el26, el29, el32, el47, el79, el121, fl28_0, fl28_1, fl37_0, fl37_1, fl43_0, fl43_1, pl28, pl37, pl43, ti3, ti4, ti5, ti9, ti22, ti25, ti26, ti28, ti32, ti35, ti37, ti43, ti53, ti58, ti116, ti121, un3, un4, un5, un9, un22, un23, un25, un26, un29, un32, un35, un47, un53, un55, un58, un59, un79, un90, un113, un116, S1_fw, U1_fw, I1_fw, Pr.fw, So.fw, pl57, ti57, fl57_0, fl57_1, ti55, ti81] <;> rfl) ?_
  refine aops_one rfl (os_buildArr (cs := [.int .i64 a, .int .i64 b]) rfl ti81 ar81 rfl ?_)
  refine aops_run 2 (by simp only [fwA, ↓reduceIte, Nat.reduceAdd, Nat.reduceMul, Nat.reduceEqDiff, Nat.reduceLT, Nat.reduceLeDiff, reduceCtorEq, bitfw, List.length_map, List.getElem?_map, Option.map_some, Int.natCast_nonneg, Int.toNat_natCast, decide_true, decide_false, Bool.and_true, Bool.and_self, Bool.not_true, Bool.not_false, Bool.false_and, Bool.true_and, el22, el23, el25, el26, el29, el32, el47, el79, el121, fl28_0, fl28_1, fl37_0, fl37_1, fl43_0, fl43_1, pl28, pl37, pl43, ti3, ti4, ti5, ti9, ti22, ti25, ti26, ti28, ti32, ti35, ti37, ti43, ti53, ti58, ti116, ti121, un3, un4, un5, un9, un22, un23, un25, un26, un29, un32, un35, un47, un53, un55, un58, un59, un79, un90, un113, un116, S1_fw, U1_fw, I1_fw, Pr.fw, So.fw, pl57, ti57, fl57_0, fl57_1, ti55, ti81] <;> rfl) ?_
  refine aops_end ?_
  have g0 : (H ++ [Blk.box [.vec (ns.map S1) false, .vec (us.map U1) false, .map m], .box [.int .i64 a, .int .i64 b]])[H.length]? = some (.box [.vec (ns.map S1) false, .vec (us.map U1) false, .map m]) := by rw [Fw.get_at0]; rfl
  have g1 : (H ++ [Blk.box [.vec (ns.map S1) false, .vec (us.map U1) false, .map m], .box [.int .i64 a, .int .i64 b]])[H.length + 1]? = some (.box [.int .i64 a, .int .i64 b]) := by rw [Fw.get_at]; rfl
  have hsame : ∀ B : Blk, H[m]? = some B → H.set m B = H := fun B h => by
    obtain ⟨h1, h2⟩ := List.getElem?_eq_some_iff.1 h
    subst h2
    exact List.set_getElem_self _
  have hfind : ∃ j, find2 a b (joinsTo ns us es a b) 0 = some (j, .int .i64 (joinV ns us a b)) := by
    unfold joinsTo
    cases hf : find2 a b es 0 with
    | none => rw [if_neg (by simp)]; exact ⟨_, find2_new hf⟩
    | some r =>
      rw [if_pos (by simp), hf]
      have := hg _ (find2_mem hf)
      simp only at this
      exact ⟨r.1, by rw [← this]⟩
  refine awp_join [3, 7] (fun _ : Unit => [.ptr H.length 0, .ptr (H.length + 1) 0]) (fun _ => H.set m (.map ((joinsTo ns us es a b).map enc2)) ++ [Blk.box [.vec (ns.map S1) false, .vec (us.map U1) false, .map m], .box [.int .i64 a, .int .i64 b]]) (fun _ => True) ?_ fun _ _ => ?_
  · refine awp_seq ?_
    refine awp_region rfl ?_
    refine aops_run 3 (by simp only [fwA, ↓reduceIte, Nat.reduceAdd, Nat.reduceMul, Nat.reduceEqDiff, Nat.reduceLT, Nat.reduceLeDiff, reduceCtorEq, bitfw, List.length_map, List.getElem?_map, Option.map_some, Int.natCast_nonneg, Int.toNat_natCast, decide_true, decide_false, Bool.and_true, Bool.and_self, Bool.not_true, Bool.not_false, Bool.false_and, Bool.true_and, el22, el23, el25, el26, el29, el32, el47, el79, el121, fl28_0, fl28_1, fl37_0, fl37_1, fl43_0, fl43_1, pl28, pl37, pl43, ti3, ti4, ti5, ti9, ti22, ti25, ti26, ti28, ti32, ti35, ti37, ti43, ti53, ti58, ti116, ti121, un3, un4, un5, un9, un22, un23, un25, un26, un29, un32, un35, un47, un53, un55, un58, un59, un79, un90, un113, un116, S1_fw, U1_fw, I1_fw, Pr.fw, So.fw, pl57, ti57, fl57_0, fl57_1, ti55, ti81, g0, g1] <;> rfl) ?_
    refine aops_one rfl (os_lookupA (z := .int .i64 0) rfl un55 rfl (gm _) (hask es) (fun _ => zero1_spec z3) ?_)
    cases hf : find2 a b es 0 with
    | some r =>
      refine aops_run 5 (by simp only [fwA, ↓reduceIte, Nat.reduceAdd, Nat.reduceMul, Nat.reduceEqDiff, Nat.reduceLT, Nat.reduceLeDiff, reduceCtorEq, bitfw, List.length_map, List.getElem?_map, Option.map_some, Int.natCast_nonneg, Int.toNat_natCast, decide_true, decide_false, Bool.and_true, Bool.and_self, Bool.not_true, Bool.not_false, Bool.false_and, Bool.true_and, el22, el23, el25, el26, el29, el32, el47, el79, el121, fl28_0, fl28_1, fl37_0, fl37_1, fl43_0, fl43_1, pl28, pl37, pl43, ti3, ti4, ti5, ti9, ti22, ti25, ti26, ti28, ti32, ti35, ti37, ti43, ti53, ti58, ti116, ti121, un3, un4, un5, un9, un22, un23, un25, un26, un29, un32, un35, un47, un53, un55, un58, un59, un79, un90, un113, un116, S1_fw, U1_fw, I1_fw, Pr.fw, So.fw, pl57, ti57, fl57_0, fl57_1, ti55, ti81] <;> rfl) ?_
      refine aops_end ?_
      refine awp_seq ?_
      refine awp_run rfl (by simp only [fwA, ↓reduceIte, Nat.reduceAdd, Nat.reduceMul, Nat.reduceEqDiff, Nat.reduceLT, Nat.reduceLeDiff, reduceCtorEq] <;> rfl) ?_
      refine awp_cond (b := false) (by simp [alook, aput, ev]) (awp_skip ?_)
      refine ⟨(), trivial, rfl, ?_, rfl⟩
      have : joinsTo ns us es a b = es := by unfold joinsTo; rw [hf, if_pos (by rfl)]
      rw [this, hsame _ hm]
    | none =>
      refine aops_run 5 (by simp only [fwA, ↓reduceIte, Nat.reduceAdd, Nat.reduceMul, Nat.reduceEqDiff, Nat.reduceLT, Nat.reduceLeDiff, reduceCtorEq, bitfw, List.length_map, List.getElem?_map, Option.map_some, Int.natCast_nonneg, Int.toNat_natCast, decide_true, decide_false, Bool.and_true, Bool.and_self, Bool.not_true, Bool.not_false, Bool.false_and, Bool.true_and, el22, el23, el25, el26, el29, el32, el47, el79, el121, fl28_0, fl28_1, fl37_0, fl37_1, fl43_0, fl43_1, pl28, pl37, pl43, ti3, ti4, ti5, ti9, ti22, ti25, ti26, ti28, ti32, ti35, ti37, ti43, ti53, ti58, ti116, ti121, un3, un4, un5, un9, un22, un23, un25, un26, un29, un32, un35, un47, un53, un55, un58, un59, un79, un90, un113, un116, S1_fw, U1_fw, I1_fw, Pr.fw, So.fw, pl57, ti57, fl57_0, fl57_1, ti55, ti81] <;> rfl) ?_
      refine aops_end ?_
      refine awp_seq ?_
      refine awp_run rfl (by simp only [fwA, ↓reduceIte, Nat.reduceAdd, Nat.reduceMul, Nat.reduceEqDiff, Nat.reduceLT, Nat.reduceLeDiff, reduceCtorEq] <;> rfl) ?_
      refine awp_cond (b := true) (by simp [alook, aput, ev]) ?_
      refine awp_drawn [0, 1, 1, 0, 1, 0, 0, 0, 2] [0, 1, 0, 0, 8, 0, 0, 120, 255] mixed rfl (by kernel_rfl) ?_
      refine dops_run 7 (by simp only [fwA, ↓reduceIte, Nat.reduceAdd, Nat.reduceMul, Nat.reduceEqDiff, Nat.reduceLT, Nat.reduceLeDiff, reduceCtorEq, bitfw, List.length_map, List.getElem?_map, Option.map_some, Int.natCast_nonneg, Int.toNat_natCast, decide_true, decide_false, Bool.and_true, Bool.and_self, Bool.not_true, Bool.not_false, Bool.false_and, Bool.true_and, el22, el23, el25, el26, el29, el32, el47, el79, el121, fl28_0, fl28_1, fl37_0, fl37_1, fl43_0, fl43_1, pl28, pl37, pl43, ti3, ti4, ti5, ti9, ti22, ti25, ti26, ti28, ti32, ti35, ti37, ti43, ti53, ti58, ti116, ti121, un3, un4, un5, un9, un22, un23, un25, un26, un29, un32, un35, un47, un53, un55, un58, un59, un79, un90, un113, un116, S1_fw, U1_fw, I1_fw, Pr.fw, So.fw, pl57, ti57, fl57_0, fl57_1, ti55, ti81, g0, g1] <;> rfl) ?_
      refine dops_fn rfl rfl rfl rfl en47 h47 ?_
      refine dops_turns (H' := (H ++ [Blk.box [.vec (ns.map S1) false, .vec (us.map U1) false, .map m], .box [.int .i64 a, .int .i64 b]]).set m (.map ((es ++ [((a, b), PV.int .i64 (joinV ns us a b))]).map enc2))) .any rfl rfl (fun A' hev => os_insertA (.inl rfl) un55 ((hev _ (by simp [Op.operands])).trans rfl) (gm _) (by rw [hev _ (by simp [Op.operands])]; have := hask es; rw [hf] at this; exact this) ⟨rfl, by rw [hev _ (by simp [Op.operands]), hev _ (by simp [Op.operands]), List.map_append]; rfl⟩) ?_
      refine dops_end ?_
      refine ⟨(), trivial, rfl, ?_, rfl⟩
      have : joinsTo ns us es a b = es ++ [((a, b), .int .i64 (joinV ns us a b))] := by unfold joinsTo; rw [hf, if_neg (by simp)]
      rw [this, List.set_append_left _ _ hml]
  have gm2 : ∀ L, (H.set m (.map ((joinsTo ns us es a b).map enc2)) ++ L)[m]? = some (.map ((joinsTo ns us es a b).map enc2)) := fun L => by
    rw [List.getElem?_append_left (by rw [List.length_set]; exact hml), List.getElem?_set_self hml]
  have g2 : (H.set m (.map ((joinsTo ns us es a b).map enc2)) ++ [Blk.box [.vec (ns.map S1) false, .vec (us.map U1) false, .map m], .box [.int .i64 a, .int .i64 b]])[H.length]? = some (.box [.vec (ns.map S1) false, .vec (us.map U1) false, .map m]) := by rw [List.getElem?_append_right (by simp), List.length_set, Nat.sub_self]; rfl
  have g3 : (H.set m (.map ((joinsTo ns us es a b).map enc2)) ++ [Blk.box [.vec (ns.map S1) false, .vec (us.map U1) false, .map m], .box [.int .i64 a, .int .i64 b]])[H.length + 1]? = some (.box [.int .i64 a, .int .i64 b]) := by rw [List.getElem?_append_right (by simp), List.length_set, show H.length + 1 - H.length = 1 by omega]; rfl
  obtain ⟨j, hj⟩ := hfind
  have hask2 := hask (joinsTo ns us es a b)
  rw [hj] at hask2
  refine awp_seq ?_
  refine awp_region rfl ?_
  refine aops_run 3 (by simp only [fwA, ↓reduceIte, Nat.reduceAdd, Nat.reduceMul, Nat.reduceEqDiff, Nat.reduceLT, Nat.reduceLeDiff, reduceCtorEq, bitfw, List.length_map, List.getElem?_map, Option.map_some, Int.natCast_nonneg, Int.toNat_natCast, decide_true, decide_false, Bool.and_true, Bool.and_self, Bool.not_true, Bool.not_false, Bool.false_and, Bool.true_and, el22, el23, el25, el26, el29, el32, el47, el79, el121, fl28_0, fl28_1, fl37_0, fl37_1, fl43_0, fl43_1, pl28, pl37, pl43, ti3, ti4, ti5, ti9, ti22, ti25, ti26, ti28, ti32, ti35, ti37, ti43, ti53, ti58, ti116, ti121, un3, un4, un5, un9, un22, un23, un25, un26, un29, un32, un35, un47, un53, un55, un58, un59, un79, un90, un113, un116, S1_fw, U1_fw, I1_fw, Pr.fw, So.fw, pl57, ti57, fl57_0, fl57_1, ti55, ti81, g2, g3] <;> rfl) ?_
  refine aops_one rfl (os_lookupA (z := .int .i64 0) rfl un55 rfl (gm2 _) hask2 (fun h => by cases h) ?_)
  refine aops_run 1 (by simp only [fwA, ↓reduceIte, Nat.reduceAdd, Nat.reduceMul, Nat.reduceEqDiff, Nat.reduceLT, Nat.reduceLeDiff, reduceCtorEq, bitfw, List.length_map, List.getElem?_map, Option.map_some, Int.natCast_nonneg, Int.toNat_natCast, decide_true, decide_false, Bool.and_true, Bool.and_self, Bool.not_true, Bool.not_false, Bool.false_and, Bool.true_and, el22, el23, el25, el26, el29, el32, el47, el79, el121, fl28_0, fl28_1, fl37_0, fl37_1, fl43_0, fl43_1, pl28, pl37, pl43, ti3, ti4, ti5, ti9, ti22, ti25, ti26, ti28, ti32, ti35, ti37, ti43, ti53, ti58, ti116, ti121, un3, un4, un5, un9, un22, un23, un25, un26, un29, un32, un35, un47, un53, un55, un58, un59, un79, un90, un113, un116, S1_fw, U1_fw, I1_fw, Pr.fw, So.fw, pl57, ti57, fl57_0, fl57_1, ti55, ti81] <;> rfl) ?_
  refine aops_end ?_
  refine awp_ret ?_
  have hb2 := (hg.to a b).bd H.length
  have hsb := set_bd hbd hb2 (m := m)
  refine calls_cut (p := .int .i64 (joinV ns us a b)) (H.set m (.map ((joinsTo ns us es a b).map enc2))) [Blk.box [.vec (ns.map S1) false, .vec (us.map U1) false, .map m], .box [.int .i64 a, .int .i64 b]] (.inl rfl) hsb rfl rfl (by rw [List.length_set]; exact Nat.le_refl _) ⟨rfl, rfl⟩

end Go.Proofs.YtpkpbfemglmejaaDoor

/- The contract of what a variable stands for, where it is looked up. -/
namespace Go.Proofs.YtpkpbfemglmejaaDoor
set_option linter.unusedVariables false
set_option linter.unusedSimpArgs false
set_option maxRecDepth 100000
open Go.RowKit Fw

/-- What stands at a number, the first such. -/
def find1 (a : Int) : List (Int × PV) → Nat → Option (Nat × PV)
  | [], _ => none
  | x :: es, i => if a = x.1 then some (i, x.2) else find1 a es (i + 1)
def enc1 (x : Int × PV) : PV × PV := (.int .i64 x.1, x.2)
theorem mfind1 (a : Int) : ∀ (es : List (Int × PV)) (i : Nat), mfind (.int .i64 a) (es.map enc1) i = some (find1 a es i)
  | [], i => rfl
  | x :: es, i => by
    show mfind (.int .i64 a) ((.int .i64 x.1, x.2) :: es.map enc1) i = _
    unfold mfind find1
    have hk : keyEq (.int .i64 a) (.int .i64 x.1) = some (decide (a = x.1)) := by
      show (if IntKind.i64 = IntKind.i64 then some (decide (a = x.1)) else none) = _
      rw [if_pos rfl]
    rw [hk]
    by_cases h : a = x.1
    · rw [decide_eq_true h, if_pos h]
    · rw [decide_eq_false h, if_neg h]
      exact mfind1 a es (i + 1)
theorem find1_none {a : Int} : ∀ {es : List (Int × PV)} {i : Nat}, (∀ x ∈ es, x.1 ≠ a) → find1 a es i = none
  | [], i, _ => rfl
  | x :: es, i, h => by
    unfold find1
    rw [if_neg (fun e => h x (by simp) e.symm)]
    exact find1_none fun y hy => h y (by simp [hy])
theorem find1_at {a : Int} : ∀ {es : List (Int × PV)} {k i : Nat} {v : PV}, es[k]? = some (a, v) → (es.map (·.1)).Nodup → find1 a es i = some (i + k, v)
  | [], k, i, v, h, _ => by simp at h
  | x :: es, 0, i, v, h, _ => by
    simp only [List.getElem?_cons_zero, Option.some.injEq] at h
    subst h
    unfold find1
    rw [if_pos rfl]; rfl
  | x :: es, k + 1, i, v, h, hn => by
    rw [List.getElem?_cons_succ] at h
    rw [List.map_cons, List.nodup_cons] at hn
    have hne : ¬ a = x.1 := fun e => hn.1 (e ▸ List.mem_map.2 ⟨_, List.mem_of_getElem? h, rfl⟩)
    unfold find1
    rw [if_neg hne, find1_at h hn.2]
    congr 2; omega
/-- Where variables stand. -/
def atL (vs : List Int) : List (Int × PV) := vs.zipIdx.map fun x => (x.1, .int .i64 (x.2 : Int))
theorem atL_keys (vs : List Int) : (atL vs).map (·.1) = vs := by
  unfold atL
  rw [List.map_map]
  show vs.zipIdx.map (fun x => x.1) = vs
  simp
theorem atL_get {vs : List Int} {k : Nat} {a : Int} (h : vs[k]? = some a) : (atL vs)[k]? = some (a, .int .i64 (k : Int)) := by
  unfold atL
  rw [List.getElem?_map, List.getElem?_zipIdx, h]; simp
theorem atL_find {vs : List Int} (hn : vs.Nodup) {k : Nat} {a : Int} (h : vs[k]? = some a) : find1 a (atL vs) 0 = some (k, .int .i64 (k : Int)) := by
  have := find1_at (i := 0) (atL_get h) (by rw [atL_keys]; exact hn)
  rwa [Nat.zero_add] at this
/-- The solution's row. -/
def solW (vs : List Int) (σ : Int → Nat) : List So := vs.map fun v => ⟨v, ((σ v : Nat) : Int)⟩
theorem solW_get {vs : List Int} {σ : Int → Nat} {k : Nat} {a : Int} (h : vs[k]? = some a) : (solW vs σ)[k]? = some ⟨a, ((σ a : Nat) : Int)⟩ := by unfold solW; rw [List.getElem?_map, h]; rfl
theorem solW_len (vs : List Int) (σ : Int → Nat) : (solW vs σ).length = vs.length := by simp [solW]
theorem so_drop {l : List So} {k : Nat} {x : So} (h : l[k]? = some x) : (((l.map So.enc).flatten).drop (k * 2 + 1))[0]? = some (.int .i64 x.p) := by
  obtain ⟨hk, rfl⟩ := List.getElem?_eq_some_iff.1 h
  rw [← List.drop_drop, flat_drop So.enc_len, List.drop_eq_getElem_cons hk, List.map_cons, List.flatten_cons]
  rfl
theorem un35' : Tryd.prog.underlying 35 = some (.int .i64) := by kernel_rfl
set_option maxHeartbeats 2000000 in
/- chancel/solve.Least's value -/
theorem c24 (Γ : Nat → PV) (vs : List Int) (σ : Int → Nat) (a : Int) (ha : I64 a) (hn : vs.Nodup) (hav : 0 ≤ a → a ∈ vs) (H : List Blk) (bs ba r ma : Nat) (h1 : H[bs]? = some (.box [.row r 0 vs.length 2])) (h2 : H[ba]? = some (.box [.map ma])) (h3 : H[r]? = some (.row 2 (((solW vs σ).map So.enc).flatten))) (h4 : H[ma]? = some (.map ((atL vs).map enc1))) :
    ACalls Tryd.prog Γ 24 [.int .i64 a, .ptr bs 0, .ptr ba 0] H (fun q H' => q = .int .i64 ((vl σ a : Nat) : Int) ∧ H' = H) := by
  have h15 := c15 Γ a
  have h25 := c25 Γ a ha
  have hsl := solW_len vs σ
  refine acalls_of_awp Tryd.func24 rfl (by simp [Tryd.f24]) fun hbd => ?_
  refine awp_seq ?_
  refine awp_run rfl (by simp only [fwA, ↓reduceIte, Nat.reduceAdd, Nat.reduceMul, Nat.reduceEqDiff, Nat.reduceLT, Nat.reduceLeDiff, reduceCtorEq] <;> rfl) ?_
  refine awp_seq ?_
  refine awp_seq ?_
  refine awp_region rfl ?_
  refine aops_run 1 (by simp only [fwA, ↓reduceIte, Nat.reduceAdd, Nat.reduceMul, Nat.reduceEqDiff, Nat.reduceLT, Nat.reduceLeDiff, reduceCtorEq, bitfw, List.length_map, List.getElem?_map, Option.map_some, Int.natCast_nonneg, Int.toNat_natCast, decide_true, decide_false, Bool.and_true, Bool.and_self, Bool.not_true, Bool.not_false, Bool.false_and, Bool.true_and, el22, el23, el25, el26, el29, el32, el47, el79, el121, fl28_0, fl28_1, fl37_0, fl37_1, fl43_0, fl43_1, pl28, pl37, pl43, ti3, ti4, ti5, ti9, ti22, ti25, ti26, ti28, ti32, ti35, ti37, ti43, ti53, ti58, ti116, ti121, un3, un4, un5, un9, un22, un23, un25, un26, un29, un32, un35, un47, un53, un55, un58, un59, un79, un90, un113, un116, S1_fw, U1_fw, I1_fw, Pr.fw, So.fw, pl57, ti57, fl57_0, fl57_1, ti55, ti81] <;> rfl) ?_
  refine aops_fn rfl rfl rfl en15 h15 ?_
  refine aops_end ?_
  unfold vl
  by_cases h0 : a < 0
  · rw [if_pos h0]
    rw [decide_eq_true h0]
    have hp : pointOf a = (((-1 - a).toNat : Nat) : Int) := by unfold pointOf; rw [if_neg (by omega)]; omega
    rw [hp] at h25
    refine awp_cond (b := true) (by simp [alook, aput, ev]) ?_
    refine awp_seq ?_
    refine awp_region rfl ?_
    refine aops_run 1 (by simp only [fwA, ↓reduceIte, Nat.reduceAdd, Nat.reduceMul, Nat.reduceEqDiff, Nat.reduceLT, Nat.reduceLeDiff, reduceCtorEq, bitfw, List.length_map, List.getElem?_map, Option.map_some, Int.natCast_nonneg, Int.toNat_natCast, decide_true, decide_false, Bool.and_true, Bool.and_self, Bool.not_true, Bool.not_false, Bool.false_and, Bool.true_and, el22, el23, el25, el26, el29, el32, el47, el79, el121, fl28_0, fl28_1, fl37_0, fl37_1, fl43_0, fl43_1, pl28, pl37, pl43, ti3, ti4, ti5, ti9, ti22, ti25, ti26, ti28, ti32, ti35, ti37, ti43, ti53, ti58, ti116, ti121, un3, un4, un5, un9, un22, un23, un25, un26, un29, un32, un35, un47, un53, un55, un58, un59, un79, un90, un113, un116, S1_fw, U1_fw, I1_fw, Pr.fw, So.fw, pl57, ti57, fl57_0, fl57_1, ti55, ti81] <;> rfl) ?_
    refine aops_fn rfl rfl rfl en25 h25 ?_
    refine aops_run 1 (by simp only [fwA, ↓reduceIte, Nat.reduceAdd, Nat.reduceMul, Nat.reduceEqDiff, Nat.reduceLT, Nat.reduceLeDiff, reduceCtorEq, bitfw, List.length_map, List.getElem?_map, Option.map_some, Int.natCast_nonneg, Int.toNat_natCast, decide_true, decide_false, Bool.and_true, Bool.and_self, Bool.not_true, Bool.not_false, Bool.false_and, Bool.true_and, el22, el23, el25, el26, el29, el32, el47, el79, el121, fl28_0, fl28_1, fl37_0, fl37_1, fl43_0, fl43_1, pl28, pl37, pl43, ti3, ti4, ti5, ti9, ti22, ti25, ti26, ti28, ti32, ti35, ti37, ti43, ti53, ti58, ti116, ti121, un3, un4, un5, un9, un22, un23, un25, un26, un29, un32, un35, un47, un53, un55, un58, un59, un79, un90, un113, un116, S1_fw, U1_fw, I1_fw, Pr.fw, So.fw, pl57, ti57, fl57_0, fl57_1, ti55, ti81] <;> rfl) ?_
    refine aops_end ?_
    refine awp_ret ?_
    simp only [Post.then]
    exact calls_end0 (p := .int .i64 (((-1 - a).toNat : Nat) : Int)) (.inl rfl) hbd rfl rfl ⟨rfl, rfl⟩
  rw [if_neg h0]
  rw [decide_eq_false h0]
  refine awp_cond (b := false) (by simp [alook, aput, ev]) (awp_skip ?_)
  obtain ⟨k, hk⟩ := List.getElem?_of_mem (hav (by omega))
  have hkl := (List.getElem?_eq_some_iff.1 hk).1
  refine awp_seq ?_
  refine awp_region rfl ?_
  refine aops_run 3 (by simp only [fwA, ↓reduceIte, Nat.reduceAdd, Nat.reduceMul, Nat.reduceEqDiff, Nat.reduceLT, Nat.reduceLeDiff, reduceCtorEq, bitfw, List.length_map, List.getElem?_map, Option.map_some, Int.natCast_nonneg, Int.toNat_natCast, decide_true, decide_false, Bool.and_true, Bool.and_self, Bool.not_true, Bool.not_false, Bool.false_and, Bool.true_and, el22, el23, el25, el26, el29, el32, el47, el79, el121, fl28_0, fl28_1, fl37_0, fl37_1, fl43_0, fl43_1, pl28, pl37, pl43, ti3, ti4, ti5, ti9, ti22, ti25, ti26, ti28, ti32, ti35, ti37, ti43, ti53, ti58, ti116, ti121, un3, un4, un5, un9, un22, un23, un25, un26, un29, un32, un35, un47, un53, un55, un58, un59, un79, un90, un113, un116, S1_fw, U1_fw, I1_fw, Pr.fw, So.fw, pl57, ti57, fl57_0, fl57_1, ti55, ti81, h1, h2] <;> rfl) ?_
  refine aops_one rfl (os_lookup (r := some (k, .int .i64 (k : Int))) (z := .int .i64 0) rfl un58 un35' rfl rfl h4 ((mfind1 a _ 0).trans (by rw [atL_find hn hk])) (fun h => by cases h) ?_)
  refine aops_one rfl (os_idxRow (i := k) So.enc_len rfl el32 rfl rfl h3 (by rw [hsl]; omega) hkl ?_)
  refine aops_run 1 (by simp only [fwA, ↓reduceIte, Nat.reduceAdd, Nat.reduceMul, Nat.reduceEqDiff, Nat.reduceLT, Nat.reduceLeDiff, reduceCtorEq, bitfw, List.length_map, List.getElem?_map, Option.map_some, Int.natCast_nonneg, Int.toNat_natCast, decide_true, decide_false, Bool.and_true, Bool.and_self, Bool.not_true, Bool.not_false, Bool.false_and, Bool.true_and, el22, el23, el25, el26, el29, el32, el47, el79, el121, fl28_0, fl28_1, fl37_0, fl37_1, fl43_0, fl43_1, pl28, pl37, pl43, ti3, ti4, ti5, ti9, ti22, ti25, ti26, ti28, ti32, ti35, ti37, ti43, ti53, ti58, ti116, ti121, un3, un4, un5, un9, un22, un23, un25, un26, un29, un32, un35, un47, un53, un55, un58, un59, un79, un90, un113, un116, S1_fw, U1_fw, I1_fw, Pr.fw, So.fw, pl57, ti57, fl57_0, fl57_1, ti55, ti81] <;> rfl) ?_
  refine aops_one rfl (os_load (p := .int .i64 ((σ a : Nat) : Int)) rfl ti3 (cs := ((((solW vs σ).map So.enc).flatten).drop (k * 2 + 1))) (by
    show (match H[r]? with
      | some (.row _ cs) => if cs.length = (solW vs σ).length * 2 then some (cs.drop (k * 2 + 1)) else none
      | _ => none) = _
    rw [h3]
    simp only [flat_len So.enc_len, ↓reduceIte]) (by rw [if_neg (by decide)]; exact so_drop (solW_get hk)) ?_)
  refine aops_run 1 (by simp only [fwA, ↓reduceIte, Nat.reduceAdd, Nat.reduceMul, Nat.reduceEqDiff, Nat.reduceLT, Nat.reduceLeDiff, reduceCtorEq, bitfw, List.length_map, List.getElem?_map, Option.map_some, Int.natCast_nonneg, Int.toNat_natCast, decide_true, decide_false, Bool.and_true, Bool.and_self, Bool.not_true, Bool.not_false, Bool.false_and, Bool.true_and, el22, el23, el25, el26, el29, el32, el47, el79, el121, fl28_0, fl28_1, fl37_0, fl37_1, fl43_0, fl43_1, pl28, pl37, pl43, ti3, ti4, ti5, ti9, ti22, ti25, ti26, ti28, ti32, ti35, ti37, ti43, ti53, ti58, ti116, ti121, un3, un4, un5, un9, un22, un23, un25, un26, un29, un32, un35, un47, un53, un55, un58, un59, un79, un90, un113, un116, S1_fw, U1_fw, I1_fw, Pr.fw, So.fw, pl57, ti57, fl57_0, fl57_1, ti55, ti81] <;> rfl) ?_
  refine aops_end ?_
  refine awp_ret ?_
  exact calls_end0 (p := .int .i64 ((σ a : Nat) : Int)) (.inl rfl) hbd rfl rfl ⟨rfl, rfl⟩

end Go.Proofs.YtpkpbfemglmejaaDoor

/- Plain laws of what waits. -/
namespace Go.Proofs.YtpkpbfemglmejaaDoor
set_option linter.unusedVariables false
set_option linter.unusedSimpArgs false
set_option maxRecDepth 100000
open Go.RowKit Fw

variable {n : Nat} {r : Nat → Nat → Bool} {σ : Int → Nat}
/-- How far the variables on the left of pairs may rise. -/
def phi (n : Nat) (r : Nat → Nat → Bool) (c : List Pr) (σ : Int → Nat) : Nat := (c.map fun p => if p.a < 0 then 0 else rk n r (σ p.a)).sum
/-- The pairs with that left. -/
def fl (c : List Pr) (a : Int) : List Pr := c.filter fun p => decide (p.a = a)
theorem phi_le (n : Nat) (r : Nat → Nat → Bool) (σ : Int → Nat) : ∀ c : List Pr, phi n r c σ ≤ c.length * n
  | [] => by simp [phi]
  | p :: c => by
    have ih := phi_le n r σ c
    have h2 := rk_le n r (σ p.a)
    unfold phi at *
    rw [List.map_cons, List.sum_cons, List.length_cons, Nat.add_mul]
    split <;> omega
theorem phi_upd {b : Int} {j : Nat} (h : rk n r j < rk n r (σ b)) (h0 : 0 ≤ b) : ∀ c : List Pr, phi n r c (upd σ b j) + (fl c b).length ≤ phi n r c σ
  | [] => by simp [phi, fl]
  | p :: c => by
    have ih := phi_upd h h0 c
    unfold phi fl at *
    rw [List.map_cons, List.sum_cons, List.map_cons, List.sum_cons]
    by_cases e : p.a = b
    · have hu : upd σ b j p.a = j := by unfold upd; rw [if_pos e]
      rw [List.filter_cons_of_pos (by rw [decide_eq_true e]), List.length_cons, hu, if_neg (by omega), if_neg (by omega), e]
      omega
    · have hu : upd σ b j p.a = σ p.a := by unfold upd; rw [if_neg e]
      rw [List.filter_cons_of_neg (by rw [decide_eq_false e]; simp), hu]
      omega
theorem fl_mem {c : List Pr} {a : Int} {p : Pr} : p ∈ fl c a ↔ p ∈ c ∧ p.a = a := by unfold fl; simp
theorem fl_snoc (c : List Pr) (p : Pr) (a : Int) : fl (c ++ [p]) a = if p.a = a then fl c a ++ [p] else fl c a := by
  unfold fl
  rw [List.filter_append]
  split
  · rename_i h; rw [List.filter_cons_of_pos (by rw [decide_eq_true h])]; rfl
  · rename_i h; rw [List.filter_cons_of_neg (by rw [decide_eq_false h]; simp)]; simp
/-- A step of the work: what was met is met still, or waits again. -/
theorem work_step {c W : List Pr} {p : Pr} {d : Nat} {j : Nat} (hd : W[d]? = some p) (hin : ∀ q ∈ c, q ∈ W.drop d ∨ satP r σ q) (h0 : 0 ≤ p.b) (h : Ord n r) (hp : PtsOk n c) (hσ : ∀ v, σ v < n) (hpc : p ∈ c) (hj : IsJ n r (vl σ p.a) (σ p.b) j) (hne : p.a ≠ p.b) :
    ∀ q ∈ c, q ∈ (W ++ fl c p.b).drop (d + 1) ∨ satP r (upd σ p.b j) q := fun q hq => by
  have hdl := (List.getElem?_eq_some_iff.1 hd).1
  have hle : r (σ p.b) j = true := hj.le2 h
  rw [List.drop_append_of_le_length (by omega)]
  by_cases ea : q.a = p.b
  · exact .inl (List.mem_append_right _ (fl_mem.2 ⟨hq, ea⟩))
  have va : vl (upd σ p.b j) q.a = vl σ q.a := by
    by_cases h : q.a < 0
    · simp [vl, h]
    · simp [vl, upd, h, ea]
  rcases hin q hq with hw | hs
  · have e : W.drop d = p :: W.drop (d + 1) := by
      rw [List.drop_eq_getElem_cons hdl]
      congr 1
      exact (List.getElem?_eq_some_iff.1 hd).2
    rw [e] at hw
    rcases List.mem_cons.1 hw with rfl | hw
    · refine .inr ?_
      have vb : vl (upd σ q.b j) q.b = j := by unfold vl upd; rw [if_neg (by omega), if_pos rfl]
      unfold satP
      rw [va, vb]
      exact hj.le1 h
    · exact .inl (List.mem_append_left _ hw)
  · refine .inr ?_
    unfold satP at hs ⊢
    rw [va]
    by_cases eb : q.b = p.b
    · have vb : vl (upd σ p.b j) q.b = j := by unfold vl upd; rw [if_neg (by omega), if_pos eb]
      have vs : vl σ q.b = σ p.b := by unfold vl; rw [if_neg (by omega), eb]
      rw [vs] at hs
      rw [vb]
      exact h.trans _ _ _ (vl_lt hσ (hp q hq).1) (hσ _) hj.1 hs hle
    · have vb : vl (upd σ p.b j) q.b = vl σ q.b := by
        by_cases h : q.b < 0
        · simp [vl, h]
        · simp [vl, upd, h, eb]
      rw [vb]; exact hs
end Go.Proofs.YtpkpbfemglmejaaDoor

/- The pairs by what stands on their left: keys, and rows of one's own. -/
namespace Go.Proofs.YtpkpbfemglmejaaDoor
set_option linter.unusedVariables false
set_option linter.unusedSimpArgs false
set_option maxRecDepth 100000
open Go.RowKit Fw

structure FromOk (c : List Pr) (es : List (Int × Nat)) (L : List Blk) : Prop where
  k1 : (es.map (·.1)).Nodup
  k2 : (es.map (·.2)).Nodup
  k3 : ∀ p ∈ c, ∃ x ∈ es, x.1 = p.a
  k4 : ∀ x ∈ es, L[x.2]? = some (.row 2 (((fl c x.1).map Pr.enc).flatten))
def mapOf (N : Nat) (es : List (Int × Nat)) (c : List Pr) : List (Int × PV) := es.map fun x => (x.1, PV.row (N + x.2) 0 (fl c x.1).length 2)
theorem mapOf_keys (N : Nat) (es : List (Int × Nat)) (c : List Pr) : (mapOf N es c).map (·.1) = es.map (·.1) := by
  unfold mapOf; rw [List.map_map]; rfl
theorem from_nil : FromOk [] [] [] := ⟨List.nodup_nil, List.nodup_nil, (fun _ h => by cases h), fun _ h => by cases h⟩
theorem from_find {c : List Pr} {es : List (Int × Nat)} {L : List Blk} (h : FromOk c es L) (N : Nat) (a : Int) : (find1 a (mapOf N es c) 0 = none ∧ (∀ x ∈ es, x.1 ≠ a) ∧ fl c a = []) ∨ ∃ k j, es[k]? = some (a, j) ∧ find1 a (mapOf N es c) 0 = some (k, .row (N + j) 0 (fl c a).length 2) := by
  by_cases hm : ∃ x ∈ es, x.1 = a
  · obtain ⟨⟨a', j⟩, hx, rfl⟩ := hm
    obtain ⟨k, hk⟩ := List.getElem?_of_mem hx
    refine .inr ⟨k, j, hk, ?_⟩
    have h1 : (mapOf N es c)[k]? = some (a', .row (N + j) 0 (fl c a').length 2) := by unfold mapOf; rw [List.getElem?_map, hk]; rfl
    have := find1_at (i := 0) h1 (by rw [mapOf_keys]; exact h.k1)
    rwa [Nat.zero_add] at this
  · have hn : ∀ x ∈ es, x.1 ≠ a := fun x hx e => hm ⟨x, hx, e⟩
    refine .inl ⟨find1_none fun y hy => ?_, hn, ?_⟩
    · obtain ⟨x, hx, rfl⟩ := List.mem_map.1 hy
      exact hn x hx
    · refine List.eq_nil_iff_forall_not_mem.2 fun p hp => ?_
      obtain ⟨hp1, hp2⟩ := fl_mem.1 hp
      obtain ⟨x, hx, e⟩ := h.k3 p hp1
      exact hn x hx (e.trans hp2)
theorem from_len {c : List Pr} {es : List (Int × Nat)} {L : List Blk} (h : FromOk c es L) {x : Int × Nat} (hx : x ∈ es) : x.2 < L.length := (List.getElem?_eq_some_iff.1 (h.k4 x hx)).1
theorem from_new {c : List Pr} {es : List (Int × Nat)} {L : List Blk} (h : FromOk c es L) {p : Pr} (hn : ∀ x ∈ es, x.1 ≠ p.a) (h0 : fl c p.a = []) (B : Blk) : FromOk (c ++ [p]) (es ++ [(p.a, L.length + 1)]) (L ++ [B, .row 2 p.enc]) := by
  refine ⟨?_, ?_, fun q hq => ?_, fun x hx => ?_⟩
  · rw [List.map_append, List.nodup_append]
    refine ⟨h.k1, by simp, fun a ha b hb e => ?_⟩
    obtain ⟨x, hx, rfl⟩ := List.mem_map.1 ha
    simp only [List.map_cons, List.map_nil, List.mem_singleton] at hb
    exact hn x hx (e.trans hb)
  · rw [List.map_append, List.nodup_append]
    refine ⟨h.k2, by simp, fun a ha b hb e => ?_⟩
    obtain ⟨x, hx, rfl⟩ := List.mem_map.1 ha
    simp only [List.map_cons, List.map_nil, List.mem_singleton] at hb
    have := from_len h hx
    omega
  · rcases List.mem_append.1 hq with hq | hq
    · obtain ⟨x, hx, e⟩ := h.k3 q hq
      exact ⟨x, List.mem_append_left _ hx, e⟩
    · rw [List.mem_singleton.1 hq]
      exact ⟨_, List.mem_append_right _ (List.mem_singleton.2 rfl), rfl⟩
  · rcases List.mem_append.1 hx with hx | hx
    · rw [List.getElem?_append_left (from_len h hx), h.k4 x hx, fl_snoc, if_neg (fun e => hn x hx e.symm)]
    · rw [List.mem_singleton.1 hx, List.getElem?_append_right (by simp), fl_snoc, if_pos rfl, h0]
      simp
theorem from_new_map {c : List Pr} {es : List (Int × Nat)} {p : Pr} (hn : ∀ x ∈ es, x.1 ≠ p.a) (h0 : fl c p.a = []) (N k : Nat) : mapOf N (es ++ [(p.a, k)]) (c ++ [p]) = mapOf N es c ++ [(p.a, .row (N + k) 0 1 2)] := by
  unfold mapOf
  rw [List.map_append]
  congr 1
  · refine List.map_congr_left fun x hx => ?_
    rw [fl_snoc, if_neg (fun e => hn x hx e.symm)]
  · simp [fl_snoc, h0]
theorem from_old {c : List Pr} {es : List (Int × Nat)} {L : List Blk} (h : FromOk c es L) {p : Pr} {k j : Nat} (hk : es[k]? = some (p.a, j)) (B : Blk) : FromOk (c ++ [p]) es ((L ++ [B]).set j (.row 2 (((fl c p.a).map Pr.enc).flatten ++ p.enc))) := by
  have hm := List.mem_of_getElem? hk
  have hj := from_len h hm
  refine ⟨h.k1, h.k2, fun q hq => ?_, fun x hx => ?_⟩
  · rcases List.mem_append.1 hq with hq | hq
    · exact h.k3 q hq
    · rw [List.mem_singleton.1 hq]
      exact ⟨_, hm, rfl⟩
  · by_cases e : x.2 = j
    · have hxe : x = (p.a, j) := by
        obtain ⟨i, hi⟩ := List.getElem?_of_mem hx
        have h1 := List.getElem?_eq_some_iff.1 hi
        have h2 := List.getElem?_eq_some_iff.1 hk
        have hik : i = k := by
          have a1 : (es.map (·.2))[i]'(by rw [List.length_map]; exact h1.1) = x.2 := by rw [List.getElem_map, h1.2]
          have a2 : (es.map (·.2))[k]'(by rw [List.length_map]; exact h2.1) = j := by rw [List.getElem_map, h2.2]
          exact (List.getElem_inj h.k2).1 (a1.trans (e.trans a2.symm))
        subst hik
        rw [hi] at hk; exact Option.some.inj hk
      subst hxe
      rw [List.getElem?_set_self (by simp; omega), fl_snoc, if_pos rfl]
      simp
    · have hne : x.1 ≠ p.a := fun e1 => e (by
        obtain ⟨i, hi⟩ := List.getElem?_of_mem hx
        have h1 := List.getElem?_eq_some_iff.1 hi
        have h2 := List.getElem?_eq_some_iff.1 hk
        have a1 : (es.map (·.1))[i]'(by rw [List.length_map]; exact h1.1) = x.1 := by rw [List.getElem_map, h1.2]
        have a2 : (es.map (·.1))[k]'(by rw [List.length_map]; exact h2.1) = p.a := by rw [List.getElem_map, h2.2]
        have hik : i = k := (List.getElem_inj h.k1).1 (a1.trans (e1.trans a2.symm))
        subst hik
        rw [hi] at hk; rw [Option.some.inj hk])
      rw [List.getElem?_set_ne (Ne.symm e), List.getElem?_append_left (from_len h hx), h.k4 x hx, fl_snoc, if_neg (fun e => hne e.symm)]
theorem from_old_map {c : List Pr} {es : List (Int × Nat)} {L : List Blk} (h : FromOk c es L) {p : Pr} {k j : Nat} (hk : es[k]? = some (p.a, j)) (N : Nat) : mapOf N es (c ++ [p]) = (mapOf N es c).set k (p.a, .row (N + j) 0 ((fl c p.a).length + 1) 2) := by
  refine List.ext_getElem? fun i => ?_
  by_cases e : k = i
  · subst e
    have hl := (List.getElem?_eq_some_iff.1 hk).1
    rw [List.getElem?_set_self (by unfold mapOf; rw [List.length_map]; exact hl)]
    unfold mapOf
    rw [List.getElem?_map, hk]
    simp [fl_snoc]
  · rw [List.getElem?_set_ne e]
    unfold mapOf
    rw [List.getElem?_map, List.getElem?_map]
    cases hi : es[i]? with
    | none => rfl
    | some x =>
      simp only [Option.map_some]
      have hne : x.1 ≠ p.a := fun e1 => e (by
        have h1 := List.getElem?_eq_some_iff.1 hi
        have h2 := List.getElem?_eq_some_iff.1 hk
        have a1 : (es.map (·.1))[i]'(by rw [List.length_map]; exact h1.1) = x.1 := by rw [List.getElem_map, h1.2]
        have a2 : (es.map (·.1))[k]'(by rw [List.length_map]; exact h2.1) = p.a := by rw [List.getElem_map, h2.2]
        exact (List.getElem_inj h.k1).1 (a2.trans (e1.symm.trans a1.symm)))
      rw [fl_snoc, if_neg (fun e => hne e.symm)]
theorem from_mono {c : List Pr} {es : List (Int × Nat)} {L : List Blk} (h : FromOk c es L) (X : List Blk) : FromOk c es (L ++ X) :=
  ⟨h.k1, h.k2, h.k3, fun x hx => by rw [List.getElem?_append_left (from_len h hx)]; exact h.k4 x hx⟩
theorem from_set {c : List Pr} {es : List (Int × Nat)} {L : List Blk} (h : FromOk c es L) {j : Nat} (hj : ∀ x ∈ es, x.2 ≠ j) (B : Blk) : FromOk c es (L.set j B) :=
  ⟨h.k1, h.k2, h.k3, fun x hx => by rw [List.getElem?_set_ne (hj x hx).symm]; exact h.k4 x hx⟩
theorem take_snoc {X : Type} {l : List X} {i : Nat} {x : X} (h : l[i]? = some x) : l.take (i + 1) = l.take i ++ [x] := by rw [List.take_add_one, h]; rfl
end Go.Proofs.YtpkpbfemglmejaaDoor

/- The framework on: readers beside what turns a block that is set apart; a row that is set apart grows. -/
namespace Go.Proofs.YtpkpbfemglmejaaDoor.Fw
set_option linter.unusedVariables false
set_option linter.unusedSimpArgs false
set_option maxRecDepth 100000
open Go.RowKit

section
variable {P : Program} {Γ : Nat → PV} {ops : Array Oper} {cls : List Nat} {n0 : View} {K : List (Nat × PV) → List Blk → Prop} {i : Nat} {o : Oper} {rest : List (Nat × Oper)} {A : List (Nat × PV)} {H : List Blk}

theorem vw_get {H2 : List Blk} {b : Nat} (h : n0.vw H2 = n0.vw H) (hb : b < n0.n) (hx : n0.x ≠ some b) : H2[b]? = H[b]? := by
  have := congrArg (·[b]?) h
  unfold View.vw at this
  cases e : n0.x with
  | none => rw [e] at this; simpa [List.getElem?_take_of_lt hb] using this
  | some c =>
    rw [e] at this hx
    have hne : c ≠ b := fun h => hx (by rw [h])
    simpa [List.getElem?_set_ne hne, List.getElem?_take_of_lt hb] using this

/-- A reader that may change places with what turns the block that is set apart. -/
theorem dops_at4 (p : PV) (hw : wantA ops A o = some true) (hc : cls.getD i 0 = 4)
    (h : ∀ H2 : List Blk, n0.n ≤ H2.length → n0.vw H2 = n0.vw H → ∀ A', (∀ x ∈ o.op.operands, ev Γ A' x = ev Γ A x) → OStep P Γ o A' H2 (fun q H1 => q = p ∧ H1 = H2)) (hk : DOps P Γ ops cls n0 K rest (aput A o.dst p) H) : DOps P Γ ops cls n0 K ((i, o) :: rest) A H := by
  refine ⟨p, H, ?_, hk⟩
  unfold DOne
  rw [hw, hc]
  exact ⟨rfl, fun H2 k1 k2 => dlift fun A' hev => h H2 k1 k2 A' hev⟩

/-- The row that is set apart grows. -/
theorem dops_appendX {x y : Operand} {t tx e : TypeId} {d : TypeDesc} {ti : TI} {b q k : Nat} {cs xs : List PV} {n : Nat} {es : List (List PV)} {f : Bool} (ho : o.op = .call { callee := .builtin .append, args := #[x, y], argTypes := #[t, tx] })
    (hw : wantA ops A o = some true) (hc : cls.getD i 0 = 5) (ht : P.underlying t = some (.slice e)) (he : tiOf P e = some ti) (htx : P.underlying tx = some d) (hd : (∃ e, d = .slice e) ∨ d = .string) (hx : ev Γ A x = .row b q k ti.size) (hbk : H[b]? = some (.row ti.size cs)) (hl : cs.length = q + k * ti.size)
    (hy : ev Γ A y = .vec es f) (hy2 : srcOf [] ti.size (.vec es f) = some xs) (hyv : ∀ e ∈ es, e.length = ti.size) (hn : alen (.vec es f) = some n) (hbd : (k + n) * ti.bytes ≤ 140737488355328) (hbd' : k + n ≤ 9223372036854775807) (h1 : n0.x = some b) (h2 : b < n0.n)
    (hk : DOps P Γ ops cls n0 K rest (aput A o.dst (.row b q (k + n) ti.size)) (H.set b (.row ti.size (cs ++ xs)))) : DOps P Γ ops cls n0 K ((i, o) :: rest) A H := by
  refine ⟨_, _, ?_, hk⟩
  unfold DOne
  rw [hw, hc]
  refine ⟨b, _, h1, h2, (List.getElem?_eq_some_iff.1 hbk).1, rfl, fun H2 k1 k2 => dlift fun A' hev => ?_⟩
  have ex := hev x (call_ops ho (by simp))
  have ey := (hev y (call_ops ho (by simp))).trans hy
  exact os_appendR ho ht he htx hd (ex.trans hx) (k2.trans hbk) hl (by rw [ey]; exact hy2) (fun es' f' e => by rw [ey] at e; cases e; exact hyv) (by rw [ey]; exact hn) hbd hbd' ⟨rfl, rfl⟩
end
/-- A call that reads, and leaves the blocks as they are. -/
theorem dops_rcall {P : Program} {Γ : Nat → PV} {ops : Array Oper} {cls : List Nat} {n0 : View} {K : List (Nat × PV) → List Blk → Prop} {i : Nat} {o : Oper} {rest : List (Nat × Oper)} {A : List (Nat × PV)} {H : List Blk} {x : Operand} {args : Array Operand} {ts : Array TypeId} {f : FuncId} {fs cs : List PV} {p : PV}
    (ho : o.op = .call { callee := .value x, args := args, argTypes := ts }) (hw : wantA ops A o = some true) (hc : cls.getD i 0 = 1) (hx : ev Γ A x = .func (.func f) fs cs) (he : Enters P f)
    (h : ACalls P Γ f (fs ++ args.toList.map (ev Γ A) ++ cs) H (fun q H1 => q = p ∧ H1 = H)) (hk : DOps P Γ ops cls n0 K rest (aput A o.dst p) H) : DOps P Γ ops cls n0 K ((i, o) :: rest) A H :=
  dops_reads p hw hc (fun A' hev => by
    have hops : ∀ y, y = x ∨ y ∈ args → ev Γ A' y = ev Γ A y := fun y hy => hev y (by
      rw [ho]
      simp only [Op.operands, Call.operands, Array.mem_append]
      rcases hy with rfl | hy
      · exact .inl (by simp)
      · exact .inr hy)
    refine os_call ho (by rw [hops x (.inl rfl)]; exact hx) he ?_
    rw [List.map_congr_left (l := args.toList) fun y hy => hops y (.inr (by simpa using hy))]
    exact h) hk
end Go.Proofs.YtpkpbfemglmejaaDoor.Fw
