/- Laws of runs: plain, without the program. -/
import Derived.Test.YtnjlfbefpoecpaaDoorWD
import Derived.Test.YtnjlfbefpoecpaaDoorWF
namespace Go.Proofs.YtnjlfbefpoecpaaDoor
set_option linter.unusedVariables false
set_option linter.unusedSimpArgs false
set_option maxRecDepth 100000
open Go.RowKit Fw

/-- A runner that gives no fuel. -/
def Le (rn : Runner) : Prop := ∀ t env c f, (rn t env c f).f ≤ f
/-- Two runners that are the same up to some fuel. -/
def SameTo (g : Int) (rn rn' : Runner) : Prop := ∀ t env c f, f ≤ g → rn t env c f = rn' t env c f

section
variable {rn rn' : Runner}
theorem bothR_le (h : Le rn) (t : Tm) (a b : Val) (c : List Sl) (f : Int) : (bothR rn t a b c f).f ≤ f := by
  unfold bothR
  split
  · split
    · exact h _ _ _ _
    · exact Int.le_refl _
  · split
    · split <;> exact Int.le_refl _
    · split <;> exact Int.le_refl _
theorem behindR_le (h : Le rn) (t : Tm) (env : List Bd) (a : Val) (c : List Sl) (f : Int) : (behindR rn t env a c f).f ≤ f := by
  unfold behindR
  split
  · exact h _ _ _ _
  · split
    · exact h _ _ _ _
    · split
      · split
        · split <;> exact h _ _ _ _
        · exact Int.le_refl _
      · split
        · split <;> exact Int.le_refl _
        · split
          · split <;> exact Int.le_refl _
          · dsimp only
            split
            · exact Int.le_trans (bothR_le h _ _ _ _ _) (h _ _ _ _)
            · exact h _ _ _ _
theorem loopR_le (h : Le rn) (t : Tm) (env : List Bd) (c : List Sl) (f : Int) : (loopR rn t env c f).f ≤ f := by
  unfold loopR
  have h0 := h (kid t 0) env c f
  dsimp only
  split
  · split
    · split
      · exact h0
      · have h1 := h (kid t 1) env (rn (kid t 0) env c f).c (rn (kid t 0) env c f).f
        split
        · exact Int.le_trans (h _ _ _ _) (Int.le_trans h1 h0)
        · exact Int.le_trans h1 h0
    · exact h0
  · exact h0
theorem stepR_le (h : Le rn) (t : Tm) (env : List Bd) (c : List Sl) (f : Int) : (stepR rn t env c f).f ≤ f := by
  unfold stepR
  split
  · exact Int.le_refl _
  · split
    · split <;> exact Int.le_refl _
    · split
      · exact Int.le_refl _
      · split
        · exact loopR_le h _ _ _ _
        · have h0 := h (kid t 0) env c f
          dsimp only
          split
          · split
            · exact Int.le_trans (h _ _ _ _) h0
            · exact h0
          · split
            · exact Int.le_trans (behindR_le h _ _ _ _ _) h0
            · exact h0

theorem bothR_congr {g : Int} (h : SameTo g rn rn') (t : Tm) (a b : Val) (c : List Sl) {f : Int} (hf : f ≤ g) : bothR rn t a b c f = bothR rn' t a b c f := by
  have e : ∀ t env, rn t env c f = rn' t env c f := fun t env => h t env c f hf
  simp only [bothR, e]
theorem behindR_congr {g : Int} (h : SameTo g rn rn') (hl : Le rn') (t : Tm) (env : List Bd) (a : Val) (c : List Sl) {f : Int} (hf : f ≤ g) : behindR rn t env a c f = behindR rn' t env a c f := by
  have e : ∀ t env, rn t env c f = rn' t env c f := fun t env => h t env c f hf
  simp only [behindR, e, bothR_congr h t a (rn' (kid t 1) env c f).v (rn' (kid t 1) env c f).c (Int.le_trans (hl (kid t 1) env c f) hf)]
theorem loopR_congr {g : Int} (h : SameTo g rn rn') (hl : Le rn') (t : Tm) (env : List Bd) (c : List Sl) {f : Int} (hf : f ≤ g) : loopR rn t env c f = loopR rn' t env c f := by
  have h1 := hl (kid t 0) env c f
  have h2 := hl (kid t 1) env (rn' (kid t 0) env c f).c (rn' (kid t 0) env c f).f
  have e0 := h (kid t 0) env c f hf
  have e1 := h (kid t 1) env (rn' (kid t 0) env c f).c (rn' (kid t 0) env c f).f (by omega)
  have e2 := h t env (rn' (kid t 1) env (rn' (kid t 0) env c f).c (rn' (kid t 0) env c f).f).c (rn' (kid t 1) env (rn' (kid t 0) env c f).c (rn' (kid t 0) env c f).f).f (by omega)
  simp only [loopR, e0, e1, e2]
theorem stepR_congr {g : Int} (h : SameTo g rn rn') (hl : Le rn') (t : Tm) (env : List Bd) (c : List Sl) {f : Int} (hf : f ≤ g) : stepR rn t env c f = stepR rn' t env c f := by
  have h1 := hl (kid t 0) env c f
  have e0 := h (kid t 0) env c f hf
  have e1 := h (kid t 1) (env ++ [.mk t.name (rn' (kid t 0) env c f).v]) (rn' (kid t 0) env c f).c (rn' (kid t 0) env c f).f (by omega)
  simp only [stepR, loopR_congr h hl t env c hf, e0, e1, behindR_congr h hl t env (rn' (kid t 0) env c f).v (rn' (kid t 0) env c f).c (Int.le_trans h1 hf)]
end

theorem run_le (n : Nat) : Le (run n) := by
  induction n with
  | zero => exact fun _ _ _ _ => Int.le_refl _
  | succ n ih =>
    intro t env c f
    by_cases h0 : f ≤ 0
    · rw [run_spent h0]; exact Int.le_refl _
    · simp only [run, if_neg h0]
      split
      · have := stepR_le ih t env c (f - 1); omega
      · show f - 1 ≤ f; omega

/-- As much as the fuel is deep enough. -/
theorem run_same (n m : Nat) : ∀ t env c (f : Int), f ≤ n → f ≤ m → run n t env c f = run m t env c f := by
  induction n generalizing m with
  | zero => intro t env c f h _; rw [run_spent (by omega), run_spent (by omega)]
  | succ n ih =>
    intro t env c f h1 h2
    by_cases h0 : f ≤ 0
    · rw [run_spent h0, run_spent h0]
    · obtain ⟨m, rfl⟩ : ∃ k, m = k + 1 := ⟨m - 1, by omega⟩
      simp only [run, if_neg h0]
      by_cases hr : right t
      · rw [if_pos hr, if_pos hr]
        exact stepR_congr (g := f - 1) (fun t env c g hg => ih m t env c g (by omega) (by omega)) (run_le m) t env c (Int.le_refl _)
      · rw [if_neg hr, if_neg hr]

/-- What is spent has no fuel left. -/
def Spent0 (g : Int) (rn : Runner) : Prop := ∀ t env c f, 0 ≤ f → f ≤ g → 0 ≤ (rn t env c f).f ∧ ((rn t env c f).st = 0 → (rn t env c f).f = 0)
section
variable {rn : Runner} {g : Int}
theorem bothR_sp (h : Spent0 g rn) (t : Tm) (a b : Val) (c : List Sl) {f : Int} (h0 : 0 ≤ f) (hf : f ≤ g) : 0 ≤ (bothR rn t a b c f).f ∧ ((bothR rn t a b c f).st = 0 → (bothR rn t a b c f).f = 0) := by
  have k : ∀ (s : Int) (v : Val) (c : List Sl), s ≠ 0 → 0 ≤ (Res.mk s v c f).f ∧ ((Res.mk s v c f).st = 0 → (Res.mk s v c f).f = 0) := fun s v c hs => ⟨h0, fun e => absurd e hs⟩
  unfold bothR
  split
  · split
    · exact h _ _ _ _ h0 hf
    · exact k 3 _ _ (by decide)
  · split
    · split <;> exact k _ _ _ (by decide)
    · split <;> exact k _ _ _ (by decide)
theorem behindR_sp (h : Spent0 g rn) (hl : Le rn) (t : Tm) (env : List Bd) (a : Val) (c : List Sl) {f : Int} (h0 : 0 ≤ f) (hf : f ≤ g) : 0 ≤ (behindR rn t env a c f).f ∧ ((behindR rn t env a c f).st = 0 → (behindR rn t env a c f).f = 0) := by
  have k : ∀ (s : Int) (v : Val) (c : List Sl), s ≠ 0 → 0 ≤ (Res.mk s v c f).f ∧ ((Res.mk s v c f).st = 0 → (Res.mk s v c f).f = 0) := fun s v c hs => ⟨h0, fun e => absurd e hs⟩
  unfold behindR
  split
  · exact h _ _ _ _ h0 hf
  · split
    · exact h _ _ _ _ h0 hf
    · split
      · split
        · split <;> exact h _ _ _ _ h0 hf
        · exact k 3 _ _ (by decide)
      · split
        · split <;> exact k _ _ _ (by decide)
        · split
          · split <;> exact k _ _ _ (by decide)
          · have hb := h (kid t 1) env c f h0 hf
            have hbl := hl (kid t 1) env c f
            dsimp only
            split
            · exact bothR_sp h _ _ _ _ hb.1 (by omega)
            · exact hb
theorem loopR_sp (h : Spent0 g rn) (hl : Le rn) (t : Tm) (env : List Bd) (c : List Sl) {f : Int} (h0 : 0 ≤ f) (hf : f ≤ g) : 0 ≤ (loopR rn t env c f).f ∧ ((loopR rn t env c f).st = 0 → (loopR rn t env c f).f = 0) := by
  unfold loopR
  have ha := h (kid t 0) env c f h0 hf
  have hal := hl (kid t 0) env c f
  have k : ∀ (s : Int) (v : Val) (c' : List Sl), s ≠ 0 → 0 ≤ (Res.mk s v c' (rn (kid t 0) env c f).f).f ∧ ((Res.mk s v c' (rn (kid t 0) env c f).f).st = 0 → (Res.mk s v c' (rn (kid t 0) env c f).f).f = 0) := fun s v c hs => ⟨ha.1, fun e => absurd e hs⟩
  dsimp only
  split
  · split
    · split
      · exact k 1 _ _ (by decide)
      · have hb := h (kid t 1) env (rn (kid t 0) env c f).c _ ha.1 (by omega)
        have hbl := hl (kid t 1) env (rn (kid t 0) env c f).c (rn (kid t 0) env c f).f
        split
        · exact h _ _ _ _ hb.1 (by omega)
        · exact hb
    · exact k 3 _ _ (by decide)
  · exact ha
theorem stepR_sp (h : Spent0 g rn) (hl : Le rn) (t : Tm) (env : List Bd) (c : List Sl) {f : Int} (h0 : 0 ≤ f) (hf : f ≤ g) : 0 ≤ (stepR rn t env c f).f ∧ ((stepR rn t env c f).st = 0 → (stepR rn t env c f).f = 0) := by
  have k : ∀ (s : Int) (v : Val) (c : List Sl), s ≠ 0 → 0 ≤ (Res.mk s v c f).f ∧ ((Res.mk s v c f).st = 0 → (Res.mk s v c f).f = 0) := fun s v c hs => ⟨h0, fun e => absurd e hs⟩
  unfold stepR
  split
  · exact k 1 _ _ (by decide)
  · split
    · split <;> exact k _ _ _ (by decide)
    · split
      · exact k 1 _ _ (by decide)
      · split
        · exact loopR_sp h hl _ _ _ h0 hf
        · have ha := h (kid t 0) env c f h0 hf
          have hal := hl (kid t 0) env c f
          dsimp only
          split
          · split
            · exact h _ _ _ _ ha.1 (by omega)
            · exact ha
          · split
            · exact behindR_sp h hl _ _ _ _ ha.1 (by omega)
            · exact ha
end

theorem run_sp (n : Nat) : Spent0 n (run n) := by
  induction n with
  | zero => intro t env c f h0 hf; rw [run_spent (by omega)]; exact ⟨h0, fun _ => by show f = 0; omega⟩
  | succ n ih =>
    intro t env c f h0 hf
    by_cases h1 : f ≤ 0
    · rw [run_spent h1]; exact ⟨h0, fun _ => by show f = 0; omega⟩
    · simp only [run, if_neg h1]
      split
      · exact stepR_sp ih (run_le n) _ _ _ (by omega) (by omega)
      · exact ⟨by show 0 ≤ f - 1; omega, fun e => absurd e (by show (3 : Int) ≠ 0; decide)⟩

theorem run_lt (n : Nat) (t : Tm) (env : List Bd) (c : List Sl) (f : Int) : (run n t env c f).st = 0 ∨ (run n t env c f).f < f := by
  cases n with
  | zero => exact .inl rfl
  | succ n =>
    by_cases h1 : f ≤ 0
    · rw [run_spent h1]; exact .inl rfl
    · simp only [run, if_neg h1]
      refine .inr ?_
      split
      · have := stepR_le (run_le n) t env c (f - 1); omega
      · show f - 1 < f; omega

/-- With more fuel. -/
def Res.more (k : Int) (r : Res) : Res := ⟨r.st, r.v, r.c, r.f + k⟩
/-- What is not spent is the same with more fuel. -/
def More (k : Int) (rn rn' : Runner) : Prop := ∀ t env c f, (rn t env c f).st ≠ 0 → rn' t env c (f + k) = (rn t env c f).more k
section
variable {rn rn' : Runner} {k : Int}
theorem bothR_more (h : More k rn rn') (t : Tm) (a b : Val) (c : List Sl) (f : Int) (hs : (bothR rn t a b c f).st ≠ 0) : bothR rn' t a b c (f + k) = (bothR rn t a b c f).more k := by
  unfold bothR at hs ⊢
  split
  · rename_i h4
    rw [if_pos h4] at hs
    split
    · rename_i h3
      rw [if_pos h3] at hs
      exact h _ _ _ _ hs
    · rfl
  · split
    · split <;> rfl
    · split <;> rfl
theorem behindR_more (h : More k rn rn') (t : Tm) (env : List Bd) (a : Val) (c : List Sl) (f : Int) (hs : (behindR rn t env a c f).st ≠ 0) : behindR rn' t env a c (f + k) = (behindR rn t env a c f).more k := by
  unfold behindR at hs ⊢
  by_cases h5 : t.kind = 5
  · simp only [if_pos h5] at hs ⊢; exact h _ _ _ _ hs
  simp only [if_neg h5] at hs ⊢
  by_cases h13 : t.kind = 13
  · simp only [if_pos h13] at hs ⊢; exact h _ _ _ _ hs
  simp only [if_neg h13] at hs ⊢
  by_cases h6 : t.kind = 6
  · simp only [if_pos h6] at hs ⊢
    by_cases ha : a.kind = 1
    · simp only [if_pos ha] at hs ⊢
      by_cases hn : a.n = 0
      · simp only [if_pos hn] at hs ⊢; exact h _ _ _ _ hs
      · simp only [if_neg hn] at hs ⊢; exact h _ _ _ _ hs
    · simp only [if_neg ha]; rfl
  simp only [if_neg h6] at hs ⊢
  by_cases h8 : t.kind = 8
  · simp only [if_pos h8]; split <;> rfl
  simp only [if_neg h8] at hs ⊢
  by_cases h10 : t.kind = 10
  · simp only [if_pos h10]; split <;> rfl
  simp only [if_neg h10] at hs ⊢
  by_cases hb : (rn (kid t 1) env c f).st = 1
  · simp only [if_pos hb] at hs ⊢
    have e := h (kid t 1) env c f (by rw [hb]; decide)
    rw [e]
    have hb' : ((rn (kid t 1) env c f).more k).st = 1 := hb
    rw [if_pos hb']
    exact bothR_more h _ _ _ _ _ hs
  · simp only [if_neg hb] at hs ⊢
    have e := h (kid t 1) env c f hs
    rw [e]
    have hb' : ¬ ((rn (kid t 1) env c f).more k).st = 1 := hb
    rw [if_neg hb']
theorem loopR_more (h : More k rn rn') (t : Tm) (env : List Bd) (c : List Sl) (f : Int) (hs : (loopR rn t env c f).st ≠ 0) : loopR rn' t env c (f + k) = (loopR rn t env c f).more k := by
  unfold loopR at hs ⊢
  dsimp only at hs ⊢
  by_cases ha : (rn (kid t 0) env c f).st = 1
  · simp only [if_pos ha] at hs ⊢
    rw [h (kid t 0) env c f (by rw [ha]; decide)]
    have ha' : ((rn (kid t 0) env c f).more k).st = 1 := ha
    rw [if_pos ha']
    by_cases hv : (rn (kid t 0) env c f).v.kind = 1
    · simp only [if_pos hv] at hs ⊢
      have hv' : ((rn (kid t 0) env c f).more k).v.kind = 1 := hv
      rw [if_pos hv']
      by_cases hn : (rn (kid t 0) env c f).v.n = 0
      · simp only [if_pos hn]
        have hn' : ((rn (kid t 0) env c f).more k).v.n = 0 := hn
        rw [if_pos hn']; rfl
      · simp only [if_neg hn] at hs ⊢
        have hn' : ¬ ((rn (kid t 0) env c f).more k).v.n = 0 := hn
        rw [if_neg hn']
        by_cases hb : (rn (kid t 1) env (rn (kid t 0) env c f).c (rn (kid t 0) env c f).f).st = 1
        · simp only [if_pos hb] at hs ⊢
          have e : rn' (kid t 1) env ((rn (kid t 0) env c f).more k).c ((rn (kid t 0) env c f).more k).f = _ := h (kid t 1) env (rn (kid t 0) env c f).c (rn (kid t 0) env c f).f (by rw [hb]; decide)
          rw [e]
          have hb' : ((rn (kid t 1) env (rn (kid t 0) env c f).c (rn (kid t 0) env c f).f).more k).st = 1 := hb
          rw [if_pos hb']
          exact h _ _ _ _ hs
        · simp only [if_neg hb] at hs ⊢
          have e : rn' (kid t 1) env ((rn (kid t 0) env c f).more k).c ((rn (kid t 0) env c f).more k).f = _ := h (kid t 1) env (rn (kid t 0) env c f).c (rn (kid t 0) env c f).f hs
          rw [e]
          have hb' : ¬ ((rn (kid t 1) env (rn (kid t 0) env c f).c (rn (kid t 0) env c f).f).more k).st = 1 := hb
          rw [if_neg hb']
    · simp only [if_neg hv]
      have hv' : ¬ ((rn (kid t 0) env c f).more k).v.kind = 1 := hv
      rw [if_neg hv']; rfl
  · simp only [if_neg ha] at hs ⊢
    rw [h (kid t 0) env c f hs]
    have ha' : ¬ ((rn (kid t 0) env c f).more k).st = 1 := ha
    rw [if_neg ha']
theorem stepR_more (h : More k rn rn') (t : Tm) (env : List Bd) (c : List Sl) (f : Int) (hs : (stepR rn t env c f).st ≠ 0) : stepR rn' t env c (f + k) = (stepR rn t env c f).more k := by
  unfold stepR at hs ⊢
  by_cases h1 : t.kind = 1
  · simp only [if_pos h1]; rfl
  simp only [if_neg h1] at hs ⊢
  by_cases h2 : t.kind = 2
  · simp only [if_pos h2]; split <;> rfl
  simp only [if_neg h2] at hs ⊢
  by_cases h3 : t.kind = 3
  · simp only [if_pos h3]; rfl
  simp only [if_neg h3] at hs ⊢
  by_cases h7 : t.kind = 7
  · simp only [if_pos h7] at hs ⊢; exact loopR_more h _ _ _ _ hs
  simp only [if_neg h7] at hs ⊢
  have key : (rn (kid t 0) env c f).st ≠ 0 → rn' (kid t 0) env c (f + k) = (rn (kid t 0) env c f).more k := h (kid t 0) env c f
  generalize ha : rn (kid t 0) env c f = a at hs key ⊢
  by_cases h9 : t.kind = 9
  · simp only [if_pos h9] at hs ⊢
    by_cases hst : a.st = 2
    · rw [if_pos hst] at hs ⊢
      rw [key (by rw [hst]; decide)]
      have hst' : (a.more k).st = 2 := hst
      rw [if_pos hst']
      exact h _ _ _ _ hs
    · rw [if_neg hst] at hs ⊢
      rw [key hs]
      have hst' : ¬ (a.more k).st = 2 := hst
      rw [if_neg hst']
  · simp only [if_neg h9] at hs ⊢
    by_cases hst : a.st = 1
    · rw [if_pos hst] at hs ⊢
      rw [key (by rw [hst]; decide)]
      have hst' : (a.more k).st = 1 := hst
      rw [if_pos hst']
      exact behindR_more h _ _ _ _ _ hs
    · rw [if_neg hst] at hs ⊢
      rw [key hs]
      have hst' : ¬ (a.more k).st = 1 := hst
      rw [if_neg hst']
end

theorem run_more (k n : Nat) : More k (run n) (run (n + k)) := by
  induction n with
  | zero => intro t env c f h; exact absurd rfl h
  | succ n ih =>
    intro t env c f hs
    have e : n + 1 + k = n + k + 1 := by omega
    rw [e]
    by_cases h0 : f ≤ 0
    · rw [run_spent h0] at hs; exact absurd rfl hs
    · simp only [run, if_neg h0, if_neg (show ¬ (f + (k : Int) ≤ 0) by omega)] at hs ⊢
      have e2 : f + (k : Int) - 1 = f - 1 + k := by omega
      rw [e2]
      split
      · rename_i hr
        rw [if_pos hr] at hs
        exact stepR_more ih _ _ _ _ hs
      · rfl

end Go.Proofs.YtnjlfbefpoecpaaDoor

/- What a raised value is; what a run does not turn. -/
namespace Go.Proofs.YtnjlfbefpoecpaaDoor
set_option linter.unusedVariables false
set_option linter.unusedSimpArgs false
set_option maxRecDepth 100000
open Go.RowKit Fw

/-- What is raised is a number. -/
def Rz (rn : Runner) : Prop := ∀ t env c f, (rn t env c f).st = 2 → (rn t env c f).v.kind = 1
section
variable {rn : Runner}
theorem bothR_rz (h : Rz rn) (t : Tm) (a b : Val) (c : List Sl) (f : Int) : (bothR rn t a b c f).st = 2 → (bothR rn t a b c f).v.kind = 1 := by
  unfold bothR
  split
  · split
    · exact h _ _ _ _
    · exact fun e => absurd e (by show (3 : Int) ≠ 2; decide)
  · split
    · split <;> exact fun _ => absurd (by assumption) (by first | (show (1 : Int) ≠ 2; decide) | (show (3 : Int) ≠ 2; decide))
    · split <;> exact fun _ => absurd (by assumption) (by first | (show (1 : Int) ≠ 2; decide) | (show (3 : Int) ≠ 2; decide))
theorem behindR_rz (h : Rz rn) (t : Tm) (env : List Bd) (a : Val) (c : List Sl) (f : Int) : (behindR rn t env a c f).st = 2 → (behindR rn t env a c f).v.kind = 1 := by
  unfold behindR
  split
  · exact h _ _ _ _
  · split
    · exact h _ _ _ _
    · split
      · split
        · split <;> exact h _ _ _ _
        · exact fun e => absurd e (by show (3 : Int) ≠ 2; decide)
      · split
        · split
          · rename_i hk; exact fun _ => hk
          · exact fun e => absurd e (by show (3 : Int) ≠ 2; decide)
        · split
          · split <;> exact fun _ => absurd (by assumption) (by first | (show (1 : Int) ≠ 2; decide) | (show (3 : Int) ≠ 2; decide))
          · dsimp only
            split
            · exact bothR_rz h _ _ _ _ _
            · exact h _ _ _ _
theorem loopR_rz (h : Rz rn) (t : Tm) (env : List Bd) (c : List Sl) (f : Int) : (loopR rn t env c f).st = 2 → (loopR rn t env c f).v.kind = 1 := by
  unfold loopR
  dsimp only
  split
  · split
    · split
      · exact fun e => absurd e (by show (1 : Int) ≠ 2; decide)
      · split
        · exact h _ _ _ _
        · exact h _ _ _ _
    · exact fun e => absurd e (by show (3 : Int) ≠ 2; decide)
  · exact h _ _ _ _
theorem stepR_rz (h : Rz rn) (t : Tm) (env : List Bd) (c : List Sl) (f : Int) : (stepR rn t env c f).st = 2 → (stepR rn t env c f).v.kind = 1 := by
  unfold stepR
  split
  · exact fun e => absurd e (by show (1 : Int) ≠ 2; decide)
  · split
    · split <;> exact fun _ => absurd (by assumption) (by first | (show (1 : Int) ≠ 2; decide) | (show (3 : Int) ≠ 2; decide))
    · split
      · exact fun e => absurd e (by show (1 : Int) ≠ 2; decide)
      · split
        · exact loopR_rz h _ _ _ _
        · dsimp only
          split
          · split
            · exact h _ _ _ _
            · exact h _ _ _ _
          · split
            · exact behindR_rz h _ _ _ _ _
            · exact h _ _ _ _
end
theorem run_rz (n : Nat) : Rz (run n) := by
  induction n with
  | zero => exact fun _ _ _ _ e => absurd e (by show (0 : Int) ≠ 2; decide)
  | succ n ih =>
    intro t env c f
    by_cases h0 : f ≤ 0
    · rw [run_spent h0]; exact fun e => absurd e (by show (0 : Int) ≠ 2; decide)
    · simp only [run, if_neg h0]
      split
      · exact stepR_rz ih _ _ _ _
      · exact fun e => absurd e (by show (3 : Int) ≠ 2; decide)

/-- A term that does not speak of z. -/
inductive NoZ : Tm → Prop
  | mk (t : Tm) (h1 : t.name ≠ [122]) (h2 : ∀ k ∈ t.kids, NoZ k) : NoZ t
theorem NoZ.name {t : Tm} (h : NoZ t) : t.name ≠ [122] := by cases h; assumption
theorem NoZ.kids {t : Tm} (h : NoZ t) : ∀ k ∈ t.kids, NoZ k := by cases h; assumption
theorem noZ_zero : NoZ zeroT := .mk _ (by simp [zeroT, Tm.name]) (fun k h => by cases h)
theorem NoZ.kid {t : Tm} (h : NoZ t) (i : Nat) : NoZ (kid t i) := by
  unfold Go.Proofs.YtnjlfbefpoecpaaDoor.kid
  rw [List.getD_eq_getElem?_getD]
  cases hk : t.kids[i]? with
  | none => exact noZ_zero
  | some k => exact h.kids k (List.mem_of_getElem? hk)
/-- A value by which z is not reached. -/
inductive GV : Val → Prop
  | mk (v : Val) (h1 : v.kind = 2 → v.name ≠ [122]) (h2 : NoZ v.t) (h3 : ∀ b ∈ v.env, b.name ≠ [122] → GV b.v) : GV v
def GE (env : List Bd) : Prop := ∀ b ∈ env, b.name ≠ [122] → GV b.v
theorem GV.kind2 {v : Val} (h : GV v) : v.kind = 2 → v.name ≠ [122] := by cases h; assumption
theorem GV.tm {v : Val} (h : GV v) : NoZ v.t := by cases h; assumption
theorem GV.ge {v : Val} (h : GV v) : GE v.env := by cases h; assumption
theorem gv_zero : GV zeroV := .mk _ (fun h => absurd h (by show (0 : Int) ≠ 2; decide)) noZ_zero (fun b h => by cases h)
theorem gv_whole (n : Int) : GV (wholeV n) := .mk _ (fun h => absurd h (by show (1 : Int) ≠ 2; decide)) noZ_zero (fun b h => by cases h)
theorem gv_fun {nm : List UInt8} {t : Tm} {env : List Bd} (ht : NoZ t) (he : GE env) : GV (funV nm t env) := .mk _ (fun h => absurd h (by show (3 : Int) ≠ 2; decide)) ht he
theorem GE.bind {env : List Bd} (h : GE env) (nm : List UInt8) {v : Val} (hv : GV v) : GE (env ++ [.mk nm v]) := fun b hb => by
  rcases List.mem_append.1 hb with hb | hb
  · exact h b hb
  · simp only [List.mem_singleton] at hb
    subst hb; exact fun _ => hv
theorem GE.look {env : List Bd} (h : GE env) {nm : List UInt8} (hn : nm ≠ [122]) : GV ((lookV env nm).getD zeroV) := by
  unfold lookV
  cases hf : env.reverse.find? fun b => decide (b.name = nm) with
  | none => exact gv_zero
  | some b =>
    have h1 := List.find?_some hf
    simp only [decide_eq_true_eq] at h1
    exact h b (by have := List.mem_of_find?_eq_some hf; simpa using this) (h1 ▸ hn)

/-- The cells' names stay, and the cells z. -/
def KeepC (c c' : List Sl) : Prop := c'.map (·.name) = c.map (·.name) ∧ ∀ (i : Nat) s, c[i]? = some s → s.name = [122] → c'[i]? = some s
theorem KeepC.refl (c : List Sl) : KeepC c c := ⟨rfl, fun _ _ h _ => h⟩
theorem KeepC.trans {c c' c'' : List Sl} (h : KeepC c c') (h' : KeepC c' c'') : KeepC c c'' := ⟨h'.1.trans h.1, fun i s hs hz => h'.2 i s (h.2 i s hs hz) hz⟩
theorem fnd_at {c : List Sl} {nm : List UInt8} {i : Nat} (h : fnd c nm = some i) : ∃ s, c[i]? = some s ∧ s.name = nm := by
  unfold fnd at h
  rw [List.findIdx?_eq_some_iff_getElem] at h
  obtain ⟨hi, h1, _⟩ := h
  exact ⟨c[i], List.getElem?_eq_getElem hi, by simpa using h1⟩
theorem write_keep {c : List Sl} {nm : List UInt8} {n : Int} (hn : nm ≠ [122]) : KeepC c ((writeV c nm n).getD c) := by
  unfold writeV
  cases hf : fnd c nm with
  | none => exact KeepC.refl c
  | some i =>
    obtain ⟨s, h1, h2⟩ := fnd_at hf
    show KeepC c (c.set i ⟨nm, n⟩)
    refine ⟨?_, fun j s' hs hz => ?_⟩
    · rw [List.map_set]
      apply List.ext_getElem? fun j => ?_
      by_cases e : i = j
      · subst e
        have hl := (List.getElem?_eq_some_iff.1 h1).1
        rw [List.getElem?_set_self (by simpa using hl), List.getElem?_map, h1]
        simp [h2]
      · rw [List.getElem?_set_ne e]
    · by_cases e : i = j
      · subst e
        rw [h1] at hs
        obtain rfl := Option.some.inj hs
        exact absurd (h2.symm.trans hz) hn
      · rw [List.getElem?_set_ne e]; exact hs

/-- A runner that keeps z. -/
def Kz (rn : Runner) : Prop := ∀ t env c f, NoZ t → GE env → GV (rn t env c f).v ∧ KeepC c (rn t env c f).c
section
variable {rn : Runner}
theorem bothR_kz (h : Kz rn) (t : Tm) {a b : Val} (c : List Sl) (f : Int) (ha : GV a) (hb : GV b) : GV (bothR rn t a b c f).v ∧ KeepC c (bothR rn t a b c f).c := by
  unfold bothR
  split
  · split
    · exact h _ _ _ _ ha.tm (ha.ge.bind _ hb)
    · exact ⟨gv_zero, KeepC.refl _⟩
  · split
    · split
      · rename_i hc; exact ⟨gv_whole _, write_keep (ha.kind2 hc.2.1)⟩
      · exact ⟨gv_zero, KeepC.refl _⟩
    · split
      · exact ⟨gv_whole _, KeepC.refl _⟩
      · exact ⟨gv_zero, KeepC.refl _⟩
theorem behindR_kz (h : Kz rn) {t : Tm} {env : List Bd} {a : Val} (c : List Sl) (f : Int) (ht : NoZ t) (he : GE env) (ha : GV a) : GV (behindR rn t env a c f).v ∧ KeepC c (behindR rn t env a c f).c := by
  unfold behindR
  split
  · exact h _ _ _ _ (ht.kid 1) (he.bind _ ha)
  · split
    · exact h _ _ _ _ (ht.kid 1) he
    · split
      · split
        · split
          · exact h _ _ _ _ (ht.kid 2) he
          · exact h _ _ _ _ (ht.kid 1) he
        · exact ⟨gv_zero, KeepC.refl _⟩
      · split
        · split
          · exact ⟨ha, KeepC.refl _⟩
          · exact ⟨gv_zero, KeepC.refl _⟩
        · split
          · split
            · exact ⟨gv_whole _, KeepC.refl _⟩
            · exact ⟨gv_zero, KeepC.refl _⟩
          · have hb := h (kid t 1) env c f (ht.kid 1) he
            dsimp only
            split
            · have := bothR_kz h t (rn (kid t 1) env c f).c (rn (kid t 1) env c f).f ha hb.1
              exact ⟨this.1, hb.2.trans this.2⟩
            · exact hb
theorem loopR_kz (h : Kz rn) {t : Tm} {env : List Bd} (c : List Sl) (f : Int) (ht : NoZ t) (he : GE env) : GV (loopR rn t env c f).v ∧ KeepC c (loopR rn t env c f).c := by
  unfold loopR
  have ha := h (kid t 0) env c f (ht.kid 0) he
  dsimp only
  split
  · split
    · split
      · exact ⟨gv_whole _, ha.2⟩
      · have hb := h (kid t 1) env (rn (kid t 0) env c f).c (rn (kid t 0) env c f).f (ht.kid 1) he
        split
        · have := h t env (rn (kid t 1) env (rn (kid t 0) env c f).c (rn (kid t 0) env c f).f).c (rn (kid t 1) env (rn (kid t 0) env c f).c (rn (kid t 0) env c f).f).f ht he
          exact ⟨this.1, (ha.2.trans hb.2).trans this.2⟩
        · exact ⟨hb.1, ha.2.trans hb.2⟩
    · exact ⟨gv_zero, ha.2⟩
  · exact ha
theorem stepR_kz (h : Kz rn) {t : Tm} {env : List Bd} (c : List Sl) (f : Int) (ht : NoZ t) (he : GE env) : GV (stepR rn t env c f).v ∧ KeepC c (stepR rn t env c f).c := by
  unfold stepR
  split
  · exact ⟨gv_whole _, KeepC.refl _⟩
  · split
    · split
      · exact ⟨he.look ht.name, KeepC.refl _⟩
      · exact ⟨gv_zero, KeepC.refl _⟩
    · split
      · exact ⟨gv_fun (ht.kid 0) he, KeepC.refl _⟩
      · split
        · exact loopR_kz h _ _ ht he
        · have ha := h (kid t 0) env c f (ht.kid 0) he
          dsimp only
          split
          · split
            · have := h (kid t 1) (env ++ [.mk t.name (rn (kid t 0) env c f).v]) (rn (kid t 0) env c f).c (rn (kid t 0) env c f).f (ht.kid 1) (he.bind _ ha.1)
              exact ⟨this.1, ha.2.trans this.2⟩
            · exact ha
          · split
            · have := behindR_kz h (rn (kid t 0) env c f).c (rn (kid t 0) env c f).f ht he ha.1
              exact ⟨this.1, ha.2.trans this.2⟩
            · exact ha
end
theorem run_kz (n : Nat) : Kz (run n) := by
  induction n with
  | zero => exact fun _ _ _ _ _ _ => ⟨gv_zero, KeepC.refl _⟩
  | succ n ih =>
    intro t env c f ht he
    by_cases h0 : f ≤ 0
    · rw [run_spent h0]; exact ⟨gv_zero, KeepC.refl _⟩
    · simp only [run, if_neg h0]
      split
      · exact stepR_kz ih _ _ ht he
      · exact ⟨gv_zero, KeepC.refl _⟩

end Go.Proofs.YtnjlfbefpoecpaaDoor

/- Laws of runs of programs: plain. -/
namespace Go.Proofs.YtnjlfbefpoecpaaDoor
set_option linter.unusedVariables false
set_option linter.unusedSimpArgs false
set_option maxRecDepth 100000
open Go.RowKit Fw

def AZ (l : Names) : Prop := ∀ s ∈ l, s ≠ [122]
theorem AZ.getD {l : Names} (h : AZ l) (i : Nat) : l.getD i [] ≠ [122] := by
  rw [List.getD_eq_getElem?_getD]
  cases hk : l[i]? with
  | none => exact nofun
  | some s => exact h s (List.mem_of_getElem? hk)
theorem AZ.app {l : Names} (h : AZ l) {s : List UInt8} (hs : s ≠ [122]) : AZ (l ++ [s]) := fun x hx => by
  rcases List.mem_append.1 hx with hx | hx
  · exact h x hx
  · simp only [List.mem_singleton] at hx; subst hx; exact hs
theorem AZ.less {l : Names} (h : AZ l) (s : List UInt8) : AZ (lessF l s) := fun x hx => h x (List.mem_filter.1 hx).1
theorem AZ.take {l : Names} (h : AZ l) (i : Nat) : AZ (l.take i) := fun x hx => h x (List.mem_of_mem_take hx)
theorem az_I : AZ nameI := by unfold AZ nameI; decide
theorem az_C : AZ nameC := by unfold AZ nameC; decide
theorem az_F : AZ nameF := by unfold AZ nameF; decide
theorem az_ops : AZ opsL := by unfold AZ opsL; decide
theorem az_pick : AZ ([[117], [118], [119]] : Names) := by unfold AZ; decide

theorem nz_num (n : Int) : NoZ (numT n) := .mk _ nofun (fun k h => by cases h)
theorem nz_var {s : List UInt8} (h : s ≠ [122]) : NoZ (varT s) := .mk _ h (fun k h => by cases h)
theorem nz_one (k : Int) {s : List UInt8} (h : s ≠ [122]) {a : Tm} (ha : NoZ a) : NoZ (oneT k s a) := .mk _ h (fun x hx => by
  simp only [oneT, Tm.kids, List.mem_singleton] at hx; subst hx; exact ha)
theorem nz_two (k : Int) {s : List UInt8} (h : s ≠ [122]) {a b : Tm} (ha : NoZ a) (hb : NoZ b) : NoZ (twoT k s a b) := .mk _ h (fun x hx => by
  simp only [twoT, Tm.kids, List.mem_cons, List.not_mem_nil, or_false] at hx
  rcases hx with rfl | rfl
  · exact ha
  · exact hb)
theorem nz_if {a b c : Tm} (ha : NoZ a) (hb : NoZ b) (hc : NoZ c) : NoZ (ifT a b c) := .mk _ nofun (fun x hx => by
  simp only [ifT, Tm.kids, List.mem_cons, List.not_mem_nil, or_false] at hx
  rcases hx with rfl | rfl | rfl
  · exact ha
  · exact hb
  · exact hc)

def Wz (W : WF) : Prop := ∀ d a I F, AZ I → AZ F → NoZ (W d a I F).1
theorem ofF_nz (L : List Int) (a : Nat) {l : Names} (h : AZ l) : NoZ (ofF L a l).1 := by
  unfold ofF
  split
  · exact nz_num _
  · exact nz_var (h.getD _)
theorem pick_nz (L : List Int) (a : Nat) : (pick3 L a).1 ≠ [122] := az_pick.getD _
theorem funF_nz (L : List Int) {W : WF} (h : Wz W) : Wz (funF L W) := fun d a I F hI hF =>
  nz_one 3 (pick_nz L a) (h _ _ _ _ (hI.app (pick_nz L a)) (hF.less _))
theorem letF_nz (L : List Int) {W : WF} (h : Wz W) : Wz (letF L W) := fun d a I F hI hF => by
  unfold letF
  dsimp only
  split
  · exact nz_two 5 (pick_nz L a) (h _ _ _ _ hI hF) (h _ _ _ _ (hI.app (pick_nz L a)) (hF.less _))
  · exact nz_two 5 (pick_nz L a) (funF_nz L h _ _ _ _ hI hF) (h _ _ _ _ (hI.less _) (hF.app (pick_nz L a)))
theorem tryF_nz (L : List Int) {W : WF} (h : Wz W) : Wz (tryF L W) := fun d a I F hI hF =>
  nz_two 9 (pick_nz L _) (h _ _ _ _ hI hF) (h _ _ _ _ (hI.app (pick_nz L _)) (hF.less _))
theorem nm0 : ([] : List UInt8) ≠ [122] := nofun
theorem stepF_nz (L : List Int) {C : Names} (hC : AZ C) {W : WF} (h : Wz W) (k d : Int) (a : Nat) {I F : Names} (hI : AZ I) (hF : AZ F) : NoZ (stepF L C W k d a I F).1 := by
  unfold stepF
  by_cases c0 : k = 0
  · rw [if_pos c0]
    exact nz_num _
  rw [if_neg c0]
  by_cases c1 : k < 4
  · rw [if_pos c1]
    exact ofF_nz _ _ hI
  rw [if_neg c1]
  by_cases c2 : k < 6
  · rw [if_pos c2]
    exact nz_two 12 (az_ops.getD _) (h _ _ _ _ hI hF) (h _ _ _ _ hI hF)
  rw [if_neg c2]
  by_cases c3 : k = 6 ∨ k = 7
  · rw [if_pos c3]
    exact nz_if (h _ _ _ _ hI hF) (h _ _ _ _ hI hF) (h _ _ _ _ hI hF)
  rw [if_neg c3]
  by_cases c4 : k < 10
  · rw [if_pos c4]
    exact letF_nz L h _ _ _ _ hI hF
  rw [if_neg c4]
  by_cases c5 : k = 10 ∧ 0 < C.length
  · rw [if_pos c5]
    exact nz_one 10 nm0 (ofF_nz _ _ hC)
  rw [if_neg c5]
  by_cases c6 : k < 13 ∧ 0 < C.length
  · rw [if_pos c6]
    exact nz_two 11 nm0 (ofF_nz _ _ hC) (h _ _ _ _ hI hF)
  rw [if_neg c6]
  by_cases c7 : k < 15
  · rw [if_pos c7]
    exact nz_two 13 nm0 (h _ _ _ _ hI hF) (h _ _ _ _ hI hF)
  rw [if_neg c7]
  by_cases c8 : k = 15
  · rw [if_pos c8]
    exact nz_one 8 nm0 (h _ _ _ _ hI hF)
  rw [if_neg c8]
  by_cases c9 : k = 16
  · rw [if_pos c9]
    exact tryF_nz L h _ _ _ _ hI hF
  rw [if_neg c9]
  by_cases c10 : k < 19 ∧ 0 < F.length
  · rw [if_pos c10]
    exact nz_two 4 nm0 (ofF_nz _ _ hF) (h _ _ _ _ hI hF)
  rw [if_neg c10]
  by_cases c11 : k = 19 ∧ (byteF L a).1.tmod 4 = 0
  · rw [if_pos c11]
    exact nz_two 7 nm0 (h _ _ _ _ hI hF) (h _ _ _ _ hI hF)
  rw [if_neg c11]
  exact nz_two 4 nm0 (funF_nz L h _ _ _ _ hI hF) (h _ _ _ _ hI hF)
theorem wholeF_nz (L : List Int) {C : Names} (hC : AZ C) (n : Nat) : Wz (wholeF L C n) := by
  induction n with
  | zero => exact fun _ _ _ _ _ _ => noZ_zero
  | succ n ih => exact fun d a I F hI hF => by rw [wholeF_step]; exact stepF_nz L hC ih _ _ _ hI hF

/-- A definition that is one, and does not speak of z. -/
structure DefOk (d : Df) : Prop where
  kind : d.t.kind = 3
  kids : d.t.kids.length = 1
  nz : NoZ d.t
  name : d.name ≠ [122]
/-- What is asked of a program made of bytes. -/
structure PgOk (p : Pg) : Prop where
  ins : p.ins.length ≤ 3
  cells : p.cells.length ≤ 3
  ndefs : p.defs.length ≤ 2
  defs : ∀ d ∈ p.defs, DefOk d
  body : NoZ p.body

theorem defsF_ok (L : List Int) {I C : Names} (hI : AZ I) (hC : AZ C) (a i : Nat) : ∀ d ∈ (defsF L I C a i).1, DefOk d := by
  induction i with
  | zero => exact fun d h => by cases h
  | succ i ih =>
    intro d hd
    rw [defsF_succ] at hd
    rcases List.mem_append.1 hd with hd | hd
    · exact ih d hd
    · simp only [List.mem_singleton] at hd
      subst hd
      exact ⟨rfl, rfl, funF_nz L (wholeF_nz L hC 10) _ _ _ _ hI (az_F.take _), az_F.getD _⟩

theorem wellF_ok (nm : Names) (l : List Int) {n : Int} (h0 : 0 ≤ n) : PgOk (wellF nm l n) := by
  unfold wellF
  refine ⟨?_, ?_, ?_, ?_, ?_⟩
  · show (insF _ nm (nin n)).1.length ≤ 3
    rw [insF_len]; exact (nin_eq h0).1
  · show (cellsF _ nm _ (ncl n)).1.length ≤ 3
    rw [cellsF_len]; exact (ncl_eq n).1
  · show (defsF _ _ _ _ (ndf n)).1.length ≤ 2
    rw [defsF_len]; exact (ndf_eq n).1
  · exact defsF_ok _ (az_I.take _) (az_C.take _) _ _
  · exact wholeF_nz _ (az_C.take _) _ _ _ _ _ (az_I.take _) (az_F.take _)

theorem look_app (env : List Bd) (nm x : List UInt8) (v : Val) : lookV (env ++ [.mk nm v]) x = if nm = x then some v else lookV env x := by
  unfold lookV
  rw [List.reverse_append]
  simp only [List.reverse_singleton, List.singleton_append, List.find?_cons]
  by_cases h : nm = x
  · simp [h, Bd.name, Bd.v]
  · simp [h, Bd.name]

theorem defsEnv_ok : ∀ {ds : List Df} {env : List Bd}, (∀ d ∈ ds, DefOk d) → GE env → ∃ env', defsEnv ds env = some env' ∧ GE env' ∧ lookV env' [122] = lookV env [122]
  | [], env, _, he => ⟨env, rfl, he, rfl⟩
  | d :: ds, env, h, he => by
    have hd := h d (by simp)
    obtain ⟨env', h1, h2, h3⟩ := defsEnv_ok (ds := ds) (env := env ++ [.mk d.name (funV d.t.name (kid d.t 0) env)]) (fun x hx => h x (by simp [hx])) (he.bind _ (gv_fun (hd.nz.kid 0) he))
    refine ⟨env', ?_, h2, ?_⟩
    · rw [defsEnv, if_neg (by rw [hd.kind, hd.kids]; simp)]; exact h1
    · rw [h3, look_app, if_neg hd.name]

theorem env0_ge (p : Pg) (ins : List Int) : GE (env0 p ins) := fun b hb hz => by
  rcases List.mem_append.1 hb with h | h
  · obtain ⟨x, _, rfl⟩ := List.mem_map.1 h
    exact gv_whole _
  · obtain ⟨x, _, rfl⟩ := List.mem_map.1 h
    exact .mk _ (fun _ => hz) noZ_zero (fun b h => by cases h)

theorem runP_env {p : Pg} (h : ∀ d ∈ p.defs, DefOk d) (ins : List Int) : ∃ env, GE env ∧ lookV env [122] = lookV (env0 p ins) [122] ∧ ∀ (t : Tm) f, runP { p with body := t } ins f = run 100000 t env (p.cells.map slot) (capF f) := by
  obtain ⟨env, h1, h2, h3⟩ := defsEnv_ok h (env0_ge p ins)
  refine ⟨env, h2, h3, fun t f => ?_⟩
  have e : env0 { p with body := t } ins = env0 p ins := rfl
  unfold runP
  rw [e, h1]

theorem capF_id {f : Int} (h : f ≤ 100000) : capF f = f := by unfold capF; rw [if_neg (by omega)]
theorem run_pos {n : Nat} {t : Tm} {env : List Bd} {c : List Sl} {f : Int} (h0 : 0 < f) (hr : right t) : run (n + 1) t env c f = stepR (run n) t env c (f - 1) := run_step (by omega) hr
theorem right_two {k : Int} {s : List UInt8} {a b : Tm} (h : 0 ≤ k ∧ k < 14 ∧ kidsOf.getD k.toNat 0 = 2) : right (twoT k s a b) := h
theorem right_num (n : Int) : right (numT n) := ⟨by show (0 : Int) ≤ 1; decide, by show (1 : Int) < 14; decide, rfl⟩
theorem right_var (s : List UInt8) : right (varT s) := ⟨by show (0 : Int) ≤ 2; decide, by show (2 : Int) < 14; decide, rfl⟩
theorem right_fun (s : List UInt8) (a : Tm) : right (oneT 3 s a) := ⟨by show (0 : Int) ≤ 3; decide, by show (3 : Int) < 14; decide, rfl⟩
theorem kid_two0 (k : Int) (s : List UInt8) (a b : Tm) : kid (twoT k s a b) 0 = a := rfl
theorem kid_two1 (k : Int) (s : List UInt8) (a b : Tm) : kid (twoT k s a b) 1 = b := rfl

theorem run_num {n : Nat} (hn : 0 < n) (z : Int) (env : List Bd) (c : List Sl) {f : Int} (h : 0 < f) : run n (numT z) env c f = ⟨1, wholeV z, c, f - 1⟩ := by
  obtain ⟨m, rfl⟩ : ∃ m, n = m + 1 := ⟨n - 1, by omega⟩
  rw [run_pos h (right_num z)]; rfl
theorem run_var {n : Nat} (hn : 0 < n) {s : List UInt8} {v : Val} {env : List Bd} (hv : lookV env s = some v) (c : List Sl) {f : Int} (h : 0 < f) : run n (varT s) env c f = ⟨1, v, c, f - 1⟩ := by
  obtain ⟨m, rfl⟩ : ∃ m, n = m + 1 := ⟨n - 1, by omega⟩
  rw [run_pos h (right_var s)]
  have : stepR (run m) (varT s) env c (f - 1) = (if (lookV env s).isSome = true then ⟨1, (lookV env s).getD zeroV, c, f - 1⟩ else stuckR c (f - 1)) := rfl
  rw [this, hv]; rfl
theorem run_fun {n : Nat} (hn : 0 < n) (s : List UInt8) (a : Tm) (env : List Bd) (c : List Sl) {f : Int} (h : 0 < f) : run n (oneT 3 s a) env c f = ⟨1, funV s a env, c, f - 1⟩ := by
  obtain ⟨m, rfl⟩ : ∃ m, n = m + 1 := ⟨n - 1, by omega⟩
  rw [run_pos h (right_fun s a)]; rfl

/-- EvalMore's. -/
theorem more_law {p : Pg} (h : ∀ d ∈ p.defs, DefOk d) (ins : List Int) {f m : Int} (h0 : 0 ≤ f) (hm : 0 ≤ m) (hfm : f + m ≤ 100000) :
    ((runP p ins f).st = 0 → (runP p ins f).f = 0) ∧ ((runP p ins f).st ≠ 0 → runP p ins (f + m) = (runP p ins f).more m ∧ (runP p ins f).f < f ∧ 0 ≤ (runP p ins f).f) := by
  obtain ⟨env, _, _, he⟩ := runP_env h ins
  have e1 := he p.body f
  have e2 := he p.body (f + m)
  rw [capF_id (by omega)] at e1 e2
  have ep : ({ p with body := p.body } : Pg) = p := rfl
  rw [ep] at e1 e2
  rw [e1, e2]
  have hsp := run_sp 100000 p.body env (p.cells.map slot) f h0 (by omega)
  refine ⟨hsp.2, fun hs => ⟨?_, (run_lt _ _ _ _ _).resolve_left hs, hsp.1⟩⟩
  obtain ⟨k, rfl⟩ : ∃ k : Nat, m = k := ⟨m.toNat, by omega⟩
  rw [run_same 100000 (100000 + k) p.body env (p.cells.map slot) (f + k) (by omega) (by omega)]
  exact run_more k 100000 _ _ _ _ hs

/-- EvalTries'. -/
theorem tries_law {p : Pg} (h : ∀ d ∈ p.defs, DefOk d) (ins : List Int) :
    let a := runP p ins 3000
    let b := runP { p with body := twoT 9 [122] p.body (twoT 12 [43] (varT [122]) (numT 1)) } ins 3010
    (a.st = 2 → b.st = 1 ∧ b.v.n = IntKind.i64.wrap (a.v.n + 1) ∧ b.f = a.f + 6) ∧ (a.st = 1 → b.st = 1 ∧ b.v.n = a.v.n ∧ b.f = a.f + 9) ∧ (a.st ≠ 2 → a.st = 0 ∨ b.st = a.st) ∧ 0 ≤ a.f ∧ a.f ≤ 3000 := by
  obtain ⟨env, _, _, he⟩ := runP_env h ins
  dsimp only
  have e1 := he p.body 3000
  have e2 := he (twoT 9 [122] p.body (twoT 12 [43] (varT [122]) (numT 1))) 3010
  rw [capF_id (by omega)] at e1 e2
  have ep : ({ p with body := p.body } : Pg) = p := rfl
  rw [ep] at e1
  rw [e1, e2]
  generalize p.cells.map slot = c
  generalize p.body = B
  have hsp := run_sp 100000 B env c 3000 (by omega) (by omega)
  have hle := run_le 100000 B env c 3000
  have hrz := run_rz 100000 B env c 3000
  have hb : run 100000 (twoT 9 [122] B (twoT 12 [43] (varT [122]) (numT 1))) env c 3010 = (let a := run 99999 B env c 3009; if a.st = 2 then run 99999 (twoT 12 [43] (varT [122]) (numT 1)) (env ++ [.mk [122] a.v]) a.c a.f else a) := by
    rw [run_pos (by omega) (right_two (by decide))]; rfl
  have hmore : (run 100000 B env c 3000).st ≠ 0 → run 99999 B env c 3009 = (run 100000 B env c 3000).more 9 := fun hs => by
    rw [run_same 99999 (100000 + 9) B env c 3009 (by omega) (by omega)]
    exact run_more 9 100000 B env c 3000 hs
  rw [hb]
  generalize run 100000 B env c 3000 = a at hsp hle hrz hmore ⊢
  dsimp only
  refine ⟨fun h2 => ?_, fun h1 => ?_, fun hn => ?_, hsp.1, hle⟩
  · rw [hmore (by rw [h2]; decide)]
    have h2' : (a.more 9).st = 2 := h2
    rw [if_pos h2']
    have hv1 := hrz h2
    have hf0 := hsp.1
    have hf : (a.more 9).f = a.f + 9 := rfl
    rw [run_pos (by rw [hf]; omega) (right_two (by decide))]
    have hlook : lookV (env ++ [.mk [122] (a.more 9).v]) [122] = some (a.more 9).v := by rw [look_app, if_pos rfl]
    have hstep : stepR (run 99998) (twoT 12 [43] (varT [122]) (numT 1)) (env ++ [.mk [122] (a.more 9).v]) (a.more 9).c ((a.more 9).f - 1) =
        (let x := run 99998 (varT [122]) (env ++ [.mk [122] (a.more 9).v]) (a.more 9).c ((a.more 9).f - 1)
         if x.st = 1 then behindR (run 99998) (twoT 12 [43] (varT [122]) (numT 1)) (env ++ [.mk [122] (a.more 9).v]) x.v x.c x.f else x) := rfl
    rw [hstep, run_var (by omega) hlook _ (by rw [hf]; omega)]
    dsimp only
    rw [if_pos rfl]
    have hbeh : behindR (run 99998) (twoT 12 [43] (varT [122]) (numT 1)) (env ++ [.mk [122] (a.more 9).v]) (a.more 9).v (a.more 9).c ((a.more 9).f - 1 - 1) =
        (let y := run 99998 (numT 1) (env ++ [.mk [122] (a.more 9).v]) (a.more 9).c ((a.more 9).f - 1 - 1)
         if y.st = 1 then bothR (run 99998) (twoT 12 [43] (varT [122]) (numT 1)) (a.more 9).v y.v y.c y.f else y) := rfl
    rw [hbeh, run_num (by omega) 1 _ _ (by rw [hf]; omega)]
    dsimp only
    rw [if_pos rfl]
    have hboth : ∀ g, bothR (run 99998) (twoT 12 [43] (varT [122]) (numT 1)) (a.more 9).v (wholeV 1) (a.more 9).c g = (if (doV [43] (a.more 9).v.n 1).isSome = true ∧ (a.more 9).v.kind = 1 ∧ (wholeV 1).kind = 1 then ⟨1, wholeV ((doV [43] (a.more 9).v.n 1).getD 0), (a.more 9).c, g⟩ else stuckR (a.more 9).c g) := fun g => rfl
    rw [hboth, if_pos ⟨rfl, hv1, rfl⟩, hf]
    exact ⟨rfl, rfl, by show a.f + 9 - 1 - 1 - 1 = a.f + 6; omega⟩
  · rw [hmore (by rw [h1]; decide)]
    have h2' : ¬ (a.more 9).st = 2 := by show ¬ a.st = 2; rw [h1]; decide
    rw [if_neg h2']
    exact ⟨h1, rfl, rfl⟩
  · by_cases h0 : a.st = 0
    · exact .inl h0
    · rw [hmore h0]
      have h2' : ¬ (a.more 9).st = 2 := hn
      rw [if_neg h2']
      exact .inr rfl

/-- EvalCalls'. -/
theorem calls_law {p : Pg} (h : ∀ d ∈ p.defs, DefOk d) (ins : List Int) (x : List UInt8) (t : Tm) : runP { p with body := twoT 4 [] (oneT 3 x t) p.body } ins 3001 = runP { p with body := twoT 5 x p.body t } ins 3000 := by
  obtain ⟨env, _, _, he⟩ := runP_env h ins
  rw [he, he, capF_id (by omega), capF_id (by omega)]
  generalize p.cells.map slot = c
  generalize p.body = B
  rw [run_pos (by omega) (right_two (by decide)), run_pos (by omega) (right_two (by decide))]
  have e1 : stepR (run 99999) (twoT 4 [] (oneT 3 x t) B) env c 3000 = (let y := run 99999 (oneT 3 x t) env c 3000; if y.st = 1 then behindR (run 99999) (twoT 4 [] (oneT 3 x t) B) env y.v y.c y.f else y) := rfl
  have e2 : stepR (run 99999) (twoT 5 x B t) env c 2999 = (let y := run 99999 B env c 2999; if y.st = 1 then behindR (run 99999) (twoT 5 x B t) env y.v y.c y.f else y) := rfl
  show stepR (run 99999) (twoT 4 [] (oneT 3 x t) B) env c 3000 = stepR (run 99999) (twoT 5 x B t) env c 2999
  rw [e1, e2, run_fun (by omega) x t env c (by omega)]
  dsimp only
  rw [if_pos rfl]
  have e3 : ∀ f, behindR (run 99999) (twoT 4 [] (oneT 3 x t) B) env (funV x t env) c f = (let b := run 99999 B env c f; if b.st = 1 then bothR (run 99999) (twoT 4 [] (oneT 3 x t) B) (funV x t env) b.v b.c b.f else b) := fun f => rfl
  rw [e3]
  rfl

end Go.Proofs.YtnjlfbefpoecpaaDoor

/- What stands behind another term: plain. -/
namespace Go.Proofs.YtnjlfbefpoecpaaDoor
set_option linter.unusedVariables false
set_option linter.unusedSimpArgs false
set_option maxRecDepth 100000
open Go.RowKit Fw

theorem fnd_last {c : List Sl} {m : Nat} {s : Sl} (hm : c[m]? = some s) (hz : s.name = [122]) (hb : ∀ i, i < m → ∀ s, c[i]? = some s → s.name ≠ [122]) : fnd c [122] = some m := by
  unfold fnd
  rw [List.findIdx?_eq_some_iff_getElem]
  obtain ⟨hl, e⟩ := List.getElem?_eq_some_iff.1 hm
  refine ⟨hl, by rw [e]; simpa using hz, fun i hi => ?_⟩
  have := hb i hi c[i] (List.getElem?_eq_getElem (by omega))
  simpa using this

/-- EvalSeqs'. -/
theorem seqs_law {p : Pg} (h : ∀ d ∈ p.defs, DefOk d) (hB : NoZ p.body) {cs : List Dl} (hcs : ∀ d ∈ cs, d.name ≠ [122]) {lb : List UInt8} (hcells : p.cells = cs ++ [⟨[122], lb, 9⟩]) (ins : List Int) :
    let a := runP p ins 3000
    let b := runP { p with body := twoT 13 [] p.body (twoT 11 [] (varT [122]) (numT 5)) } ins 3001
    a.c.length = cs.length + 1 ∧ b.c.length = cs.length + 1 ∧ (∀ i, i < cs.length → a.c[i]? = b.c[i]?) ∧ 0 ≤ a.f ∧ a.f ≤ 3000 ∧
    (a.st ≠ 1 → b.st = a.st ∧ b.v = a.v ∧ ∃ s, b.c[cs.length]? = some s ∧ s.n = 9) ∧
    (a.st = 1 → (b.st = 1 ∧ b.v.n = 0 ∧ (∃ s, b.c[cs.length]? = some s ∧ s.n = 5) ∧ b.f = a.f - 3) ∨ (b.st = 0 ∧ a.f < 3)) := by
  obtain ⟨env, hge, hlk, he⟩ := runP_env h ins
  dsimp only
  have e1 := he p.body 3000
  have e2 := he (twoT 13 [] p.body (twoT 11 [] (varT [122]) (numT 5))) 3001
  rw [capF_id (by omega)] at e1 e2
  have ep : ({ p with body := p.body } : Pg) = p := rfl
  rw [ep] at e1
  rw [e1, e2]
  have hlook : lookV env [122] = some (cellV [122]) := by
    rw [hlk]
    have : env0 p ins = (p.ins.zipIdx.map (inB ins) ++ cs.map cellB) ++ [.mk [122] (cellV [122])] := by
      unfold env0
      rw [hcells]
      simp [cellB]
    rw [this, look_app, if_pos rfl]
  have hc : p.cells.map slot = cs.map slot ++ [⟨[122], 9⟩] := by rw [hcells]; simp [slot]
  have hcl : (p.cells.map slot).length = cs.length + 1 := by rw [hcells]; simp
  have hlast : (p.cells.map slot)[cs.length]? = some ⟨[122], 9⟩ := by
    rw [hc, List.getElem?_append_right (by simp)]; simp
  have hbef : ∀ i, i < cs.length → ∀ s, (p.cells.map slot)[i]? = some s → s.name ≠ [122] := fun i hi s hs => by
    rw [hc, List.getElem?_append_left (by simpa using hi), List.getElem?_map] at hs
    cases hd : cs[i]? with
    | none => rw [hd] at hs; cases hs
    | some d => rw [hd] at hs; obtain rfl := Option.some.inj hs; exact hcs d (List.mem_of_getElem? hd)
  generalize p.cells.map slot = c at hcl hlast hbef ⊢
  generalize p.body = B at hB ⊢
  have hsp := run_sp 100000 B env c 3000 (by omega) (by omega)
  have hle := run_le 100000 B env c 3000
  have hkz := (run_kz 100000 B env c 3000 hB hge).2
  have hb : run 100000 (twoT 13 [] B (twoT 11 [] (varT [122]) (numT 5))) env c 3001 = (let a := run 99999 B env c 3000; if a.st = 1 then run 99999 (twoT 11 [] (varT [122]) (numT 5)) env a.c a.f else a) := by
    rw [run_pos (by omega) (right_two (by decide))]; rfl
  rw [run_same 99999 100000 B env c 3000 (by omega) (by omega)] at hb
  rw [hb]
  generalize run 100000 B env c 3000 = a at hsp hle hkz ⊢
  dsimp only
  have hal : a.c.length = cs.length + 1 := by
    have := congrArg List.length hkz.1
    rw [List.length_map, List.length_map] at this
    omega
  have halast : a.c[cs.length]? = some ⟨[122], 9⟩ := hkz.2 _ _ hlast rfl
  have habef : ∀ i, i < cs.length → ∀ s, a.c[i]? = some s → s.name ≠ [122] := fun i hi s hs => by
    have h1 := congrArg (fun l => l[i]?) hkz.1
    simp only [List.getElem?_map, hs, Option.map_some] at h1
    cases hci : c[i]? with
    | none => rw [hci] at h1; cases h1
    | some s0 =>
      rw [hci] at h1
      simp only [Option.map_some, Option.some.injEq] at h1
      rw [h1]; exact hbef i hi s0 hci
  have hfnd : fnd a.c [122] = some cs.length := fnd_last halast rfl habef
  have hf0 := hsp.1
  by_cases hst : a.st = 1
  rotate_left
  · rw [if_neg hst]
    exact ⟨hal, hal, fun _ _ => rfl, hf0, hle, fun _ => ⟨rfl, rfl, _, halast, rfl⟩, fun e => absurd e hst⟩
  rw [if_pos hst]
  have h99 : ∃ n, (99999 : Nat) = n + 1 ∧ n = 99998 := ⟨99998, rfl, rfl⟩
  -- what the write comes to
  have hstep : ∀ f, stepR (run 99998) (twoT 11 [] (varT [122]) (numT 5)) env a.c f =
      (let x := run 99998 (varT [122]) env a.c f
       if x.st = 1 then behindR (run 99998) (twoT 11 [] (varT [122]) (numT 5)) env x.v x.c x.f else x) := fun f => rfl
  have hbeh : ∀ f, behindR (run 99998) (twoT 11 [] (varT [122]) (numT 5)) env (cellV [122]) a.c f =
      (let y := run 99998 (numT 5) env a.c f
       if y.st = 1 then bothR (run 99998) (twoT 11 [] (varT [122]) (numT 5)) (cellV [122]) y.v y.c y.f else y) := fun f => rfl
  have hboth : ∀ f, bothR (run 99998) (twoT 11 [] (varT [122]) (numT 5)) (cellV [122]) (wholeV 5) a.c f = (if (writeV a.c [122] 5).isSome = true ∧ (cellV [122]).kind = 2 ∧ (wholeV 5).kind = 1 then ⟨1, wholeV 0, (writeV a.c [122] 5).getD a.c, f⟩ else stuckR a.c f) := fun f => rfl
  have hw : writeV a.c [122] 5 = some (a.c.set cs.length ⟨[122], 5⟩) := by unfold writeV; rw [hfnd]; rfl
  have spent : ∀ r : Res, r.st = 0 → r.c = a.c → a.f < 3 → r.c.length = cs.length + 1 ∧ (∀ i, i < cs.length → a.c[i]? = r.c[i]?) ∧ (r.st = 0 ∧ a.f < 3) := fun r h1 h2 h3 => ⟨by rw [h2]; exact hal, fun i _ => by rw [h2], h1, h3⟩
  have fin : ∀ r : Res, r.st = 0 → r.c = a.c → a.f < 3 → a.c.length = cs.length + 1 ∧ r.c.length = cs.length + 1 ∧ (∀ i, i < cs.length → a.c[i]? = r.c[i]?) ∧ 0 ≤ a.f ∧ a.f ≤ 3000 ∧
    (a.st ≠ 1 → r.st = a.st ∧ r.v = a.v ∧ ∃ s, r.c[cs.length]? = some s ∧ s.n = 9) ∧
    (a.st = 1 → (r.st = 1 ∧ r.v.n = 0 ∧ (∃ s, r.c[cs.length]? = some s ∧ s.n = 5) ∧ r.f = a.f - 3) ∨ (r.st = 0 ∧ a.f < 3)) := fun r h1 h2 h3 => by
    obtain ⟨g1, g2, g3⟩ := spent r h1 h2 h3
    exact ⟨hal, g1, g2, hf0, hle, fun e => absurd hst e, fun _ => .inr g3⟩
  by_cases k0 : a.f ≤ 0
  · rw [run_spent k0]; exact fin _ rfl rfl (by omega)
  rw [run_pos (n := 99998) (by omega) (right_two (by decide)), hstep]
  by_cases k1 : a.f - 1 ≤ 0
  · rw [run_spent k1]
    dsimp only
    rw [if_neg (by decide)]
    exact fin _ rfl rfl (by omega)
  rw [run_var (by omega) hlook _ (by omega)]
  dsimp only
  rw [if_pos rfl, hbeh]
  by_cases k2 : a.f - 1 - 1 ≤ 0
  · rw [run_spent k2]
    dsimp only
    rw [if_neg (by decide)]
    exact fin _ rfl rfl (by omega)
  rw [run_num (by omega) 5 _ _ (by omega)]
  dsimp only
  rw [if_pos rfl, hboth, hw, if_pos ⟨rfl, rfl, rfl⟩]
  refine ⟨hal, by show (a.c.set cs.length ⟨[122], 5⟩).length = _; rw [List.length_set]; exact hal, fun i hi => ?_, hf0, hle, fun e => absurd hst e, fun _ => .inl ⟨rfl, rfl, ⟨⟨[122], 5⟩, ?_, rfl⟩, by show a.f - 1 - 1 - 1 = a.f - 3; omega⟩⟩
  · show a.c[i]? = (a.c.set cs.length ⟨[122], 5⟩)[i]?
    rw [List.getElem?_set_ne (by omega)]
  · show (a.c.set cs.length ⟨[122], 5⟩)[cs.length]? = _
    rw [List.getElem?_set_self (by omega)]

end Go.Proofs.YtnjlfbefpoecpaaDoor
