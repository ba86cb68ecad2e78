/- The framework, thirteenth part: regions whose order is drawn. -/
import Derived.Test.YtddnigahjahkbaaGreatDoorWA
import Derived.OrdersIn
import Derived.MapKept
import Derived.ProofKit
import Derived.OpenShut
import Derived.Lib.LaidTab
import Derived.Sort.Grow
import Derived.Deep.Draws
import Derived.Laws.BytesString
import Derived.Deep.DeepHandedRow
namespace Go.Proofs.YtddnigahjahkbaaGreatDoor.Fw
set_option linter.unusedVariables false
set_option linter.unusedSimpArgs false
set_option maxRecDepth 100000
open Go.RowKit
def restr (ops : Array Oper) (o : Oper) (A : List (Nat × PV)) : List (Nat × PV) := A.filter fun kp => (o.looksAt ops).contains kp.1
theorem restr_in {ops : Array Oper} {o : Oper} {A : List (Nat × PV)} {t : Nat} (h : t ∈ o.looksAt ops) : alook (restr ops o A) t = alook A t := by
  induction A with
  | nil => rfl
  | cons kp A ih =>
    obtain ⟨k, p⟩ := kp
    simp only [restr, List.filter_cons]
    by_cases hk : t = k
    · subst hk
      rw [if_pos (by simpa using h)]
      simp [alook]
    · split
      · simp only [alook, if_neg hk]; exact ih
      · simp only [alook, if_neg hk]; exact ih
theorem restr_out {ops : Array Oper} {o : Oper} {A : List (Nat × PV)} {t : Nat} (h : t ∉ o.looksAt ops) : alook (restr ops o A) t = .any := by
  induction A with
  | nil => rfl
  | cons kp A ih =>
    obtain ⟨k, p⟩ := kp
    simp only [restr, List.filter_cons]
    split
    · rename_i hc
      have : t ≠ k := fun e => h (by subst e; simpa using hc)
      simp only [alook, if_neg this]; exact ih
    · exact ih
theorem restr_congr {ops : Array Oper} {o : Oper} {A B : List (Nat × PV)} (h : ∀ t ∈ o.looksAt ops, alook A t = alook B t) (t : Nat) : alook (restr ops o A) t = alook (restr ops o B) t := by
  by_cases ht : t ∈ o.looksAt ops
  · rw [restr_in ht, restr_in ht, h t ht]
  · rw [restr_out ht, restr_out ht]
theorem looks_operand {ops : Array Oper} {o : Oper} {t : Tmp} (h : Operand.tmp t ∈ o.op.operands) : t ∈ o.looksAt ops :=
  List.mem_append_left _ (List.mem_filterMap.2 ⟨.tmp t, by simpa using h, rfl⟩)
theorem alook_aput {A : List (Nat × PV)} {d : Option Tmp} {p : PV} {t : Nat} (h : d ≠ some t) : alook (aput A d p) t = alook A t := by
  cases d with
  | none => rfl
  | some d => simp only [aput, alook]; rw [if_neg fun e => h (by rw [e])]
theorem aput_swap {A : List (Nat × PV)} {d e : Option Tmp} {p q : PV} (h : ∀ x, d = some x → e ≠ some x) (t : Nat) : alook (aput (aput A d p) e q) t = alook (aput (aput A e q) d p) t := by
  cases d with
  | none => rfl
  | some d =>
    cases e with
    | none => rfl
    | some e =>
      simp only [aput, alook]
      by_cases h1 : t = e
      · by_cases h2 : t = d
        · exact absurd (by rw [← h1, h2]) (h d rfl)
        · simp [h1, h2]
          intro e2; exact absurd (h1.trans e2) h2
      · simp [h1]
theorem aput_congr {A B : List (Nat × PV)} {d : Option Tmp} {p : PV} (h : ∀ t, alook A t = alook B t) (t : Nat) : alook (aput A d p) t = alook (aput B d p) t := by
  cases d with
  | none => exact h t
  | some d => simp only [aput, alook, h t]
structure View where
  n : Nat
  x : Option Nat
def View.vw (v : View) (H : List Blk) : List Blk := match v.x with
  | none => H.take v.n
  | some b => (H.take v.n).set b .dead
theorem View.vw_append (v : View) {H : List Blk} (h : v.n ≤ H.length) (L : List Blk) : v.vw (H ++ L) = v.vw H := by
  unfold View.vw
  rw [List.take_append_of_le_length h]
theorem View.at {v : View} {H1 H2 : List Blk} (h : v.vw H2 = v.vw H1) {b : Nat} {B : Blk} (hb : (v.vw H1)[b]? = some B) (hd : B ≠ .dead) : H2[b]? = some B := by
  rw [← h] at hb
  unfold View.vw at hb
  have key : (H2.take v.n)[b]? = some B → H2[b]? = some B := fun hb => by
    by_cases hbn : b < v.n
    · rwa [List.getElem?_take_of_lt hbn] at hb
    · rw [List.getElem?_take_eq_none (by omega)] at hb; cases hb
  split at hb
  · exact key hb
  · rename_i c _
    by_cases e : c = b
    · subst e
      rw [List.getElem?_set_self' ] at hb
      cases h3 : (H2.take v.n)[c]? with
      | none => rw [h3] at hb; cases hb
      | some B' => rw [h3] at hb; simp at hb; exact absurd hb.symm hd
    · rw [List.getElem?_set_ne e] at hb
      exact key hb
section
variable {P : Program} {Γ : Nat → PV} {ops : Array Oper} {cls : List Nat} {n0 : View} {K : List (Nat × PV) → List Blk → Prop}
theorem OStep.congr {o : Oper} {A B : List (Nat × PV)} {H : List Blk} {K : PV → List Blk → Prop} (h : OStep P Γ o A H K) (hl : ∀ t, alook A t = alook B t) : OStep P Γ o B H K :=
  fun ro w0 G w N a next Q hs ha hn => h ro w0 G w N a next Q hs (ha.less fun t => .inl (hl t)) hn
theorem dlift {o : Oper} {A : List (Nat × PV)} {H : List Blk} {K : PV → List Blk → Prop} (h : ∀ A', (∀ x ∈ o.op.operands, ev Γ A' x = ev Γ A x) → OStep P Γ o A' H K) : OStep P Γ o (restr ops o A) H K :=
  h _ fun x hx => by
    cases x with
    | tmp t => exact restr_in (looks_operand hx)
    | _ => rfl
def wantA (ops : Array Oper) (A : List (Nat × PV)) (o : Oper) : Option Bool :=
  match o.guard with
  | none => some true
  | some (j, want) => match (ops[j]?).bind (·.dst) with
    | some d => match alook A d with
      | .bool b => some (b == want)
      | .tup [] => some false
      | _ => none
    | none => none
theorem wantA_congr {A B : List (Nat × PV)} {o : Oper} (h : ∀ t ∈ o.looksAt ops, alook A t = alook B t) : wantA ops A o = wantA ops B o := by
  unfold wantA
  cases hg : o.guard with
  | none => rfl
  | some g =>
    obtain ⟨j, want⟩ := g
    simp only
    cases hd : (ops[j]?).bind (·.dst) with
    | none => rfl
    | some d =>
      simp only
      rw [h d (List.mem_append_right _ (by rw [hg]; simp [hd]))]
def DOne (P : Program) (Γ : Nat → PV) (ops : Array Oper) (n0 : View) (c : Nat) (o : Oper) (A : List (Nat × PV)) (H : List Blk) (p : PV) (H' : List Blk) : Prop :=
  match wantA ops A o with
  | some false => p = .tup [] ∧ H' = H
  | some true => match c with
    | 0 => H' = H ∧ ∀ H, OStep P Γ o (restr ops o A) H (fun q H1 => q = p ∧ H1 = H)
    | 1 => H' = H ∧ OStep P Γ o (restr ops o A) H (fun q H1 => q = p ∧ H1 = H)
    | 3 => n0.vw H' = n0.vw H ∧ OStep P Γ o (restr ops o A) H (fun q H1 => q = p ∧ H1 = H')
    | 4 => H' = H ∧ ∀ H2 : List Blk, n0.n ≤ H2.length → n0.vw H2 = n0.vw H → OStep P Γ o (restr ops o A) H2 (fun q H1 => q = p ∧ H1 = H2)
    | 5 => ∃ b B, n0.x = some b ∧ b < n0.n ∧ b < H.length ∧ H' = H.set b B ∧ ∀ H2 : List Blk, b < H2.length → H2[b]? = H[b]? → OStep P Γ o (restr ops o A) H2 (fun q H1 => q = p ∧ H1 = H2.set b B)
    | 6 => ∃ L, H' = H ++ L ∧ n0.n ≤ H.length ∧ ∀ H2 : List Blk, H2.length = H.length → OStep P Γ o (restr ops o A) H2 (fun q H1 => q = p ∧ H1 = H2 ++ L)
    | 7 => ∃ b B, n0.x ≠ some b ∧ b < H.length ∧ H' = H.set b B ∧ ∀ H2 : List Blk, b < H2.length → H2[b]? = H[b]? → OStep P Γ o (restr ops o A) H2 (fun q H1 => q = p ∧ H1 = H2.set b B)
    | _ => OStep P Γ o (restr ops o A) H (fun q H1 => q = p ∧ H1 = H')
  | none => False
def DOps (P : Program) (Γ : Nat → PV) (ops : Array Oper) (cls : List Nat) (n0 : View) (K : List (Nat × PV) → List Blk → Prop) : List (Nat × Oper) → List (Nat × PV) → List Blk → Prop
  | [], A, H => ∃ A', (∀ t, alook A t = alook A' t) ∧ K A' H
  | (i, o) :: rest, A, H => ∃ p H', DOne P Γ ops n0 (cls.getD i 0) o A H p H' ∧ DOps P Γ ops cls n0 K rest (aput A o.dst p) H'
theorem DOne.congr {c : Nat} {o : Oper} {A B : List (Nat × PV)} {H H' : List Blk} {p : PV} (h : DOne P Γ ops n0 c o A H p H') (hl : ∀ t ∈ o.looksAt ops, alook A t = alook B t) : DOne P Γ ops n0 c o B H p H' := by
  unfold DOne at h ⊢
  rw [← wantA_congr hl]
  split at h
  · exact h
  · split at h
    · exact ⟨h.1, fun H => (h.2 H).congr (restr_congr hl)⟩
    · exact ⟨h.1, h.2.congr (restr_congr hl)⟩
    · exact ⟨h.1, h.2.congr (restr_congr hl)⟩
    · exact ⟨h.1, fun H2 k1 k2 => (h.2 H2 k1 k2).congr (restr_congr hl)⟩
    · obtain ⟨b, B, h1, h2, h3, h4, h5⟩ := h
      exact ⟨b, B, h1, h2, h3, h4, fun H2 k1 k2 => (h5 H2 k1 k2).congr (restr_congr hl)⟩
    · obtain ⟨L, h1, h2, h3⟩ := h
      exact ⟨L, h1, h2, fun H2 k1 => (h3 H2 k1).congr (restr_congr hl)⟩
    · obtain ⟨b, B, h1, h3, h4, h5⟩ := h
      exact ⟨b, B, h1, h3, h4, fun H2 k1 k2 => (h5 H2 k1 k2).congr (restr_congr hl)⟩
    · exact h.congr (restr_congr hl)
  · exact h
theorem DOps.congr : ∀ {rest : List (Nat × Oper)} {A B : List (Nat × PV)} {H : List Blk}, DOps P Γ ops cls n0 K rest A H → (∀ t, alook A t = alook B t) → DOps P Γ ops cls n0 K rest B H
  | [], _, _, _, ⟨A', h1, h2⟩, hl => ⟨A', fun t => (hl t).symm.trans (h1 t), h2⟩
  | (i, o) :: rest, _, _, _, ⟨p, H', h1, h2⟩, hl => ⟨p, H', h1.congr fun t _ => hl t, h2.congr (aput_congr hl)⟩
def compat (c d : Nat) : Bool := c == 0 || d == 0 || ((c == 1 || c == 4) && (d == 1 || d == 4)) || (c == 3 && d == 4) || (c == 4 && d == 3) || (c == 5 && (d == 4 || d == 6)) || (c == 6 && (d == 4 || d == 5)) || (c == 4 && (d == 5 || d == 6)) || (c == 5 && d == 7) || (c == 7 && d == 5)
theorem compat_1 {c : Nat} (h : compat c 1 = true) : c = 0 ∨ c = 1 ∨ c = 4 := by
  simp [compat] at h; omega
theorem compat_4 {c : Nat} (h : compat c 4 = true) : c = 0 ∨ c = 1 ∨ c = 4 ∨ c = 3 ∨ c = 5 ∨ c = 6 := by
  simp [compat] at h; omega
theorem compat_5 {c : Nat} (h : compat c 5 = true) : c = 0 ∨ c = 4 ∨ c = 6 ∨ c = 7 := by
  simp [compat] at h; omega
theorem compat_7 {c : Nat} (h : compat c 7 = true) : c = 0 ∨ c = 5 := by
  simp [compat] at h; omega
theorem compat_6 {c : Nat} (h : compat c 6 = true) : c = 0 ∨ c = 4 ∨ c = 5 := by
  simp [compat] at h; omega
theorem View.vw_set {v : View} {b : Nat} (hb : v.x = some b) (H : List Blk) (B : Blk) : v.vw (H.set b B) = v.vw H := by
  unfold View.vw
  rw [hb]
  show ((H.set b B).take v.n).set b .dead = (H.take v.n).set b .dead
  rw [List.take_set, List.set_set]
theorem compat_3 {c : Nat} (h : compat c 3 = true) : c = 0 ∨ c = 4 := by
  simp [compat] at h; omega
theorem DOps.front {i : Nat} {o : Oper} {post : List (Nat × Oper)} : ∀ {pre : List (Nat × Oper)} {A : List (Nat × PV)} {H : List Blk}, DOps P Γ ops cls n0 K (pre ++ (i, o) :: post) A H →
    (∀ x ∈ pre, x.2.apart ops o = true ∧ compat (cls.getD x.1 0) (cls.getD i 0) = true) →
    ∃ p H', DOne P Γ ops n0 (cls.getD i 0) o A H p H' ∧ DOps P Γ ops cls n0 K (pre ++ post) (aput A o.dst p) H'
  | [], _, _, h, _ => h
  | (k, ok) :: pre, A, H, ⟨pk, Hk, h1, h2⟩, hap => by
    obtain ⟨p, H', h3, h4⟩ := DOps.front h2 fun x hx => hap x (by simp [hx])
    obtain ⟨hapk, hc⟩ := hap (k, ok) (by simp)
    obtain ⟨a1, a2, a3⟩ := Oper.apart_spec hapk
    simp only at hapk hc
    have e1 : ∀ t ∈ o.looksAt ops, alook (aput A ok.dst pk) t = alook A t := fun t ht => alook_aput fun e => a1 t e ht
    have h3' := h3.congr e1
    have e2 : ∀ q, ∀ t ∈ ok.looksAt ops, alook A t = alook (aput A o.dst q) t := fun q t ht => (alook_aput fun e => a3 t e ht).symm
    have fin : ∀ {H2}, DOne P Γ ops n0 (cls.getD k 0) ok (aput A o.dst p) H2 pk H' → DOps P Γ ops cls n0 K ((k, ok) :: (pre ++ post)) (aput A o.dst p) H2 := fun hk =>
      ⟨pk, H', hk, h4.congr (aput_swap a2)⟩
    have hk0 : ∀ {q}, DOne P Γ ops n0 (cls.getD k 0) ok (aput A o.dst q) H pk Hk := (h1.congr (e2 _))
    -- the block list after o is that ahead of it, where o is skipped, free, or a reader
    have same : Hk = H' → (∃ H2, DOne P Γ ops n0 (cls.getD i 0) o A H p H2 ∧ H2 = H) → ∃ p H', DOne P Γ ops n0 (cls.getD i 0) o A H p H' ∧ DOps P Γ ops cls n0 K ((k, ok) :: (pre ++ post)) (aput A o.dst p) H' := by
      rintro e ⟨H2, hh, rfl⟩
      exact ⟨p, _, hh, fin (e ▸ hk0)⟩
    -- ok leaves the blocks
    have calm : ∀ {H1 H2 : List Blk}, DOne P Γ ops n0 (cls.getD k 0) ok A H1 pk H2 → (cls.getD k 0 = 0 ∨ cls.getD k 0 = 1 ∨ cls.getD k 0 = 4 ∨ wantA ops A ok = some false) → H2 = H1 := by
      intro H1 H2 hh hor
      unfold DOne at hh
      split at hh
      · exact hh.2
      · rename_i hw
        rcases hor with e | e | e | e
        · rw [e] at hh; exact hh.1
        · rw [e] at hh; exact hh.1
        · rw [e] at hh; exact hh.1
        · rw [e] at hw; cases hw
      · exact hh.elim
    cases hwo : wantA ops A o with
    | none => unfold DOne at h3'; rw [hwo] at h3'; exact h3'.elim
    | some b =>
      cases b with
      | false =>
        unfold DOne at h3'; rw [hwo] at h3'
        exact same h3'.2.symm ⟨H, by unfold DOne; rw [hwo]; exact ⟨h3'.1, rfl⟩, rfl⟩
      | true =>
        unfold DOne at h3'
        rw [hwo] at h3'
        simp only at h3'
        match hci : cls.getD i 0 with
        | 0 =>
          rw [hci] at h3'
          rw [← hci]
          exact same h3'.1.symm ⟨H, by unfold DOne; rw [hwo, hci]; exact ⟨rfl, h3'.2⟩, rfl⟩
        | 1 =>
          rw [hci] at h3' hc
          rw [← hci]
          have hkc : Hk = H := calm h1 (by rcases compat_1 hc with e | e | e <;> simp only [e, true_or, or_true])
          refine same h3'.1.symm ⟨H, ?_, rfl⟩
          unfold DOne; rw [hwo, hci]
          exact ⟨rfl, hkc ▸ h3'.2⟩
        | 4 =>
          rw [hci] at h3' hc
          rw [← hci]
          have htk : n0.vw Hk = n0.vw H := by
            by_cases h30 : cls.getD k 0 = 3 ∨ cls.getD k 0 = 5 ∨ cls.getD k 0 = 6
            · unfold DOne at h1
              split at h1
              · rw [h1.2]
              · rcases h30 with h30 | h30 | h30
                · rw [h30] at h1; exact h1.1
                · rw [h30] at h1
                  obtain ⟨b, B, g1, g2, g3, g4, g5⟩ := h1
                  rw [g4, View.vw_set g1]
                · rw [h30] at h1
                  obtain ⟨L, g1, g2, g3⟩ := h1
                  rw [g1, View.vw_append _ g2]
              · exact h1.elim
            · rw [calm h1 (by
                rcases compat_4 hc with e | e | e | e | e | e
                · exact .inl e
                · exact .inr (.inl e)
                · exact .inr (.inr (.inl e))
                · exact absurd (.inl e) h30
                · exact absurd (.inr (.inl e)) h30
                · exact absurd (.inr (.inr e)) h30)]
          refine same h3'.1.symm ⟨H, ?_, rfl⟩
          unfold DOne; rw [hwo, hci]
          exact ⟨rfl, fun H2 k1 k2 => h3'.2 H2 k1 (k2.trans htk.symm)⟩
        | 3 =>
          rw [hci] at h3' hc
          rw [← hci]
          have hk04 : cls.getD k 0 = 0 ∨ cls.getD k 0 = 4 := compat_3 hc
          have hkc : Hk = H := calm h1 (by rcases hk04 with e | e <;> simp only [e, true_or, or_true])
          rw [hkc] at h3'
          refine ⟨p, H', by unfold DOne; rw [hwo, hci]; exact h3', fin ?_⟩
          have := h1.congr (e2 p)
          unfold DOne at this ⊢
          split at this
          · exact ⟨this.1, rfl⟩
          · rcases hk04 with e | e
            · rw [e] at this; rw [e]; exact ⟨rfl, this.2⟩
            · rw [e] at this; rw [e]; exact ⟨rfl, fun H2 k1 k2 => this.2 H2 k1 (k2.trans h3'.1)⟩
          · exact this.elim
        | 2 =>
          rw [hci] at h3' hc
          rw [← hci]
          have hk0' : cls.getD k 0 = 0 := by simpa [compat] using hc
          have hkc : Hk = H := calm h1 (.inl hk0')
          rw [hkc] at h3'
          refine ⟨p, H', by unfold DOne; rw [hwo, hci]; exact h3', fin ?_⟩
          have := h1.congr (e2 p)
          unfold DOne at this ⊢
          split at this
          · exact ⟨this.1, rfl⟩
          · rw [hk0'] at this; rw [hk0']; exact ⟨rfl, this.2⟩
          · exact this.elim
        | 5 =>
          rw [hci] at h3' hc
          rw [← hci]
          obtain ⟨b, B, g1, g2, g3, g4, g5⟩ := h3'
          by_cases hcalm : cls.getD k 0 = 0 ∨ cls.getD k 0 = 4 ∨ wantA ops A ok = some false
          · have hkc : Hk = H := calm h1 (by rcases hcalm with e | e | e <;> simp only [e, true_or, or_true])
            rw [hkc] at g3 g4 g5
            refine ⟨p, H', by unfold DOne; rw [hwo, hci]; exact ⟨b, B, g1, g2, g3, g4, g5⟩, fin ?_⟩
            have := h1.congr (e2 p)
            unfold DOne at this ⊢
            split at this
            · exact ⟨this.1, rfl⟩
            · rename_i hwk
              rcases hcalm with e | e | e
              · rw [e] at this; rw [e]; exact ⟨rfl, this.2⟩
              · rw [e] at this; rw [e]; exact ⟨rfl, fun H2 k1 k2 => this.2 H2 k1 (k2.trans (by rw [g4, View.vw_set g1]))⟩
              · rw [← wantA_congr (e2 p), e] at hwk; cases hwk
            · exact this.elim
          · have h67 : cls.getD k 0 = 6 ∨ cls.getD k 0 = 7 := by
              rcases compat_5 hc with e | e | e | e
              · exact absurd (.inl e) hcalm
              · exact absurd (.inr (.inl e)) hcalm
              · exact .inl e
              · exact .inr e
            have h1' := h1.congr (e2 p)
            rcases h67 with h6 | h7
            rotate_left
            · unfold DOne at h1'
              split at h1'
              · rename_i hwk
                exact absurd (.inr (.inr (by rw [wantA_congr (e2 p)]; exact hwk))) hcalm
              · rename_i hwk
                rw [h7] at h1'
                obtain ⟨b', B', f1, f3, f4, f5⟩ := h1'
                have hne : b ≠ b' := fun e => f1 (e ▸ g1)
                have hbH : b < H.length := by rw [f4, List.length_set] at g3; exact g3
                refine ⟨p, H.set b B, by
                  unfold DOne; rw [hwo, hci]
                  exact ⟨b, B, g1, g2, hbH, rfl, fun H2 k1 k2 => g5 H2 k1 (by rw [k2, f4, List.getElem?_set_ne (Ne.symm hne)])⟩, fin ?_⟩
                unfold DOne
                rw [hwk, h7]
                exact ⟨b', B', f1, by rw [List.length_set]; exact f3, by rw [g4, f4, List.set_comm _ _ (Ne.symm hne)], fun H2 k1 k2 => f5 H2 k1 (by rw [k2, List.getElem?_set_ne hne])⟩
              · exact h1'.elim
            unfold DOne at h1'
            split at h1'
            · rename_i hwk
              exact absurd (.inr (.inr (by rw [wantA_congr (e2 p)]; exact hwk))) hcalm
            · rename_i hwk
              rw [h6] at h1'
              obtain ⟨L, f1, f2, f3⟩ := h1'
              have hbH : b < H.length := by omega
              have e0 : H' = H.set b B ++ L := by rw [g4, f1, List.set_append_left _ _ hbH]
              refine ⟨p, H.set b B, by
                unfold DOne; rw [hwo, hci]
                exact ⟨b, B, g1, g2, hbH, rfl, fun H2 k1 k2 => g5 H2 k1 (by rw [k2, f1, List.getElem?_append_left hbH])⟩, fin ?_⟩
              unfold DOne
              rw [hwk, h6]
              exact ⟨L, e0, by rw [List.length_set]; exact f2, fun H2 k1 => f3 H2 (by rw [k1, List.length_set])⟩
            · exact h1'.elim
        | 6 =>
          rw [hci] at h3' hc
          rw [← hci]
          obtain ⟨L, f1, f2, f3⟩ := h3'
          by_cases hcalm : cls.getD k 0 = 0 ∨ cls.getD k 0 = 4 ∨ wantA ops A ok = some false
          · have hkc : Hk = H := calm h1 (by rcases hcalm with e | e | e <;> simp only [e, true_or, or_true])
            rw [hkc] at f1 f2 f3
            refine ⟨p, H', by unfold DOne; rw [hwo, hci]; exact ⟨L, f1, f2, f3⟩, fin ?_⟩
            have := h1.congr (e2 p)
            unfold DOne at this ⊢
            split at this
            · exact ⟨this.1, rfl⟩
            · rename_i hwk
              rcases hcalm with e | e | e
              · rw [e] at this; rw [e]; exact ⟨rfl, this.2⟩
              · rw [e] at this; rw [e]; exact ⟨rfl, fun H2 k1 k2 => this.2 H2 k1 (k2.trans (by rw [f1, View.vw_append _ f2]))⟩
              · rw [← wantA_congr (e2 p), e] at hwk; cases hwk
            · exact this.elim
          · have h5 : cls.getD k 0 = 5 := by
              rcases compat_6 hc with e | e | e
              · exact absurd (.inl e) hcalm
              · exact absurd (.inr (.inl e)) hcalm
              · exact e
            have h1' := h1.congr (e2 p)
            unfold DOne at h1'
            split at h1'
            · rename_i hwk
              exact absurd (.inr (.inr (by rw [wantA_congr (e2 p)]; exact hwk))) hcalm
            · rename_i hwk
              rw [h5] at h1'
              obtain ⟨b, B, g1, g2, g3, g4, g5⟩ := h1'
              have hlk : Hk.length = H.length := by rw [g4, List.length_set]
              refine ⟨p, H ++ L, by
                unfold DOne; rw [hwo, hci]
                exact ⟨L, rfl, by rw [← hlk]; exact f2, fun H2 k1 => f3 H2 (by rw [k1, hlk])⟩, fin ?_⟩
              unfold DOne
              rw [hwk, h5]
              refine ⟨b, B, g1, g2, by rw [List.length_append]; omega, by rw [f1, g4, List.set_append_left _ _ g3], fun H2 k1 k2 => g5 H2 k1 (by rw [k2, List.getElem?_append_left g3])⟩
            · exact h1'.elim
        | 7 =>
          rw [hci] at h3' hc
          rw [← hci]
          obtain ⟨b, B, g1, g3, g4, g5⟩ := h3'
          by_cases hcalm : cls.getD k 0 = 0 ∨ wantA ops A ok = some false
          · have hkc : Hk = H := calm h1 (by rcases hcalm with e | e <;> simp only [e, true_or, or_true])
            rw [hkc] at g3 g4 g5
            refine ⟨p, H', by unfold DOne; rw [hwo, hci]; exact ⟨b, B, g1, g3, g4, g5⟩, fin ?_⟩
            have := h1.congr (e2 p)
            unfold DOne at this ⊢
            split at this
            · exact ⟨this.1, rfl⟩
            · rename_i hwk
              rcases hcalm with e | e
              · rw [e] at this; rw [e]; exact ⟨rfl, this.2⟩
              · rw [← wantA_congr (e2 p), e] at hwk; cases hwk
            · exact this.elim
          · have h5 : cls.getD k 0 = 5 := by
              rcases compat_7 hc with e | e
              · exact absurd (.inl e) hcalm
              · exact e
            have h1' := h1.congr (e2 p)
            unfold DOne at h1'
            split at h1'
            · rename_i hwk
              exact absurd (.inr (by rw [wantA_congr (e2 p)]; exact hwk)) hcalm
            · rename_i hwk
              rw [h5] at h1'
              obtain ⟨b', B', f1, f2, f3, f4, f5⟩ := h1'
              have hne : b ≠ b' := fun e => g1 (e ▸ f1)
              have hbH : b < H.length := by rw [f4, List.length_set] at g3; exact g3
              refine ⟨p, H.set b B, by
                unfold DOne; rw [hwo, hci]
                exact ⟨b, B, g1, hbH, rfl, fun H2 k1 k2 => g5 H2 k1 (by rw [k2, f4, List.getElem?_set_ne (Ne.symm hne)])⟩, fin ?_⟩
              unfold DOne
              rw [hwk, h5]
              exact ⟨b', B', f1, f2, by rw [List.length_set]; exact f3, by rw [g4, f4, List.set_comm _ _ (Ne.symm hne)], fun H2 k1 k2 => f5 H2 k1 (by rw [k2, List.getElem?_set_ne hne])⟩
            · exact h1'.elim
        | c + 8 =>
          have hci' : cls.getD i 0 = c + 8 := hci
          rw [hci] at h3' hc
          rw [← hci']
          have hk0' : cls.getD k 0 = 0 := by simpa [compat] using hc
          have hkc : Hk = H := calm h1 (.inl hk0')
          rw [hkc] at h3'
          refine ⟨p, H', by unfold DOne; rw [hwo, hci]; exact h3', fin ?_⟩
          have := h1.congr (e2 p)
          unfold DOne at this ⊢
          split at this
          · exact ⟨this.1, rfl⟩
          · rw [hk0'] at this; rw [hk0']; exact ⟨rfl, this.2⟩
          · exact this.elim
def maskOk (ops : Array Oper) (B : List Nat) : Bool :=
  (List.range ops.size).all fun j => match ops[j]? with
    | none => true
    | some o => (o.after.all fun e => !Region.binds .any e || decide (e.on < j)) && (List.range j).all fun i => !(B.getD j 0).testBit i || o.after.any fun e => Region.binds .any e && (e.on == i || (decide (i < e.on) && (B.getD e.on 0).testBit i))
def drawOk (ops : Array Oper) (cls : List Nat) (B : List Nat) : Bool :=
  maskOk ops B && (List.range ops.size).all fun j => match ops[j]? with
    | none => true
    | some oj => (List.range j).all fun i => (B.getD j 0).testBit i || (match ops[i]? with
      | some oi => oi.apart ops oj && compat (cls.getD i 0) (cls.getD j 0)
      | none => true)
def Closed (ops : Array Oper) (rest : List (Nat × Oper)) : Prop :=
  ∀ k o, ops[k]? = some o → k ∉ rest.map (·.1) → ∀ e ∈ o.after, Region.binds .any e = true → e.on ∉ rest.map (·.1)
theorem mask_done {B : List Nat} (hB : maskOk ops B = true) {rest : List (Nat × Oper)} (hc : Closed ops rest) : ∀ (j : Nat) (o : Oper), ops[j]? = some o → (∀ e ∈ o.after, Region.binds .any e = true → e.on ∉ rest.map (·.1)) →
    ∀ i, i < j → (B.getD j 0).testBit i = true → i ∉ rest.map (·.1) := by
  intro j
  induction j using Nat.strongRecOn with
  | _ j ih =>
    intro o ho hall i hij hbit
    have hj : j < ops.size := (Array.getElem?_eq_some_iff.1 ho).1
    have h1 := List.all_eq_true.1 hB j (by simpa using hj)
    simp only [ho, Bool.and_eq_true] at h1
    have h2 := List.all_eq_true.1 h1.2 i (by simpa using hij)
    simp only [hbit, Bool.not_true, Bool.false_or] at h2
    rw [Array.any_eq_true'] at h2
    obtain ⟨e, he, h3⟩ := h2
    simp only [Bool.and_eq_true, Bool.or_eq_true, beq_iff_eq, decide_eq_true_eq] at h3
    have hnot := hall e he h3.1
    rcases h3.2 with e1 | ⟨hil, e1⟩
    · rw [← e1]; exact hnot
    · have hlt : e.on < j := by
        have := Array.all_eq_true'.1 h1.1 e he
        simpa [h3.1] using this
      obtain ⟨oe, hoe⟩ : ∃ oe, ops[e.on]? = some oe := ⟨_, Array.getElem?_eq_getElem (by omega)⟩
      exact ih e.on hlt oe hoe (fun e' he' hb' => hc e.on oe hoe hnot e' he' hb') i hil e1
def InOrder (ops : Array Oper) (rest : List (Nat × Oper)) : Prop :=
  (∀ x ∈ rest, ops[x.1]? = some x.2) ∧ (rest.map (·.1)).Pairwise (· < ·)
theorem dops_sound {N : Nat} {D : List Nat} {B : List Nat} (hok : dstOk N ops = true) (hd : drawOk ops cls B = true) {ro : Option Nat} {w0 : World} : ∀ (fuel : Nat) (rest : List (Nat × Oper)) (listed : Array Bool) (A : List (Nat × PV)) (H : List Blk) (G : Ghost) (w : World) (a : Act),
    rest.length = fuel → InOrder ops rest → Closed ops rest → listed.size = ops.size → (∀ i, i < ops.size → (listed.getD i true = false ↔ i ∈ rest.map (·.1))) →
    n0.n ≤ H.length → DOps P Γ ops cls n0 K rest A H → Sim Γ w0 G H w → ASim G H.length N A a → DSim G H.length D a.defers →
    wpAnyIn (Fr ro) 0 P .any ops (Lift Γ w0 N G H.length fun e A' H' D' => e = .normal ∧ K A' H' ∧ D' = D) fuel listed a w := by
  have hB : maskOk ops B = true := by unfold drawOk at hd; simp only [Bool.and_eq_true] at hd; exact hd.1
  intro fuel
  induction fuel with
  | zero =>
    intro rest listed A H G w a hl _ _ hls hli _ h hs ha hdd
    have : rest = [] := List.eq_nil_of_length_eq_zero hl
    subst this
    obtain ⟨A', h1, h2⟩ := h
    refine ⟨?_, G, A', H, D, hs, ha.less fun t => .inl (h1 t).symm, hdd, Evol.refl _ _, Nat.le_refl _, rfl, h2, rfl⟩
    apply List.eq_nil_iff_forall_not_mem.2
    intro i hi
    obtain ⟨h3, o, h4, _⟩ := mem_ready.1 hi
    have := (hli i (Array.getElem?_eq_some_iff.1 h4).1).1 h3
    simp at this
  | succ fuel ih =>
    intro rest listed A H G w a hl hin hcl hls hli hn0 h hs ha hdd
    have hmem : ∀ {i : Nat}, i ∈ rest.map (·.1) → ∃ o, (i, o) ∈ rest ∧ ops[i]? = some o := fun {i} hi => by
      obtain ⟨x, hx, rfl⟩ := List.mem_map.1 hi
      exact ⟨x.2, hx, hin.1 x hx⟩
    refine ⟨fun h0 => ?_, fun i hi => ?_⟩
    · exfalso
      clear hmem
      cases rest with
      | nil => simp at hl
      | cons x rest' =>
        obtain ⟨i, o⟩ := x
        have hio := hin.1 (i, o) (by simp)
        have hlt : i < ops.size := (Array.getElem?_eq_some_iff.1 hio).1
        have : i ∈ Region.ready .any ops listed := by
          refine mem_ready.2 ⟨(hli i hlt).2 (by simp), o, hio, fun e he hb => ?_⟩
          have h1 := List.all_eq_true.1 hB i (by simpa using hlt)
          simp only [hio, Bool.and_eq_true] at h1
          have hei : e.on < i := by
            have := Array.all_eq_true'.1 h1.1 e he
            simpa [hb] using this
          have hnot : e.on ∉ ((i, o) :: rest').map (·.1) := fun hm => by
            have hp := hin.2
            simp only [List.map_cons, List.pairwise_cons] at hp
            simp only [List.map_cons, List.mem_cons] at hm
            rcases hm with e1 | e1
            · omega
            · have := hp.1 _ e1; omega
          have hlt' : e.on < ops.size := by omega
          have h5 := mt (hli e.on hlt').1 hnot
          rw [Array.getD_eq_getD_getElem?, Array.getElem?_eq_getElem (by omega)] at h5 ⊢
          simpa using h5
        rw [h0] at this
        cases this
    · obtain ⟨h3, o, h4, h5⟩ := mem_ready.1 hi
      have hlt : i < ops.size := (Array.getElem?_eq_some_iff.1 h4).1
      have hir := (hli i hlt).1 h3
      obtain ⟨o', hx, ho'⟩ := hmem hir
      have : o' = o := by rw [h4] at ho'; exact (Option.some.inj ho').symm
      subst this
      obtain ⟨pre, post, rfl⟩ := List.append_of_mem hx
      have hdone : ∀ e ∈ o'.after, Region.binds .any e = true → e.on ∉ (pre ++ (i, o') :: post).map (·.1) := fun e he hb hm => by
        have h6 := h5 e he hb
        obtain ⟨oe, hoe, hoe'⟩ := hmem hm
        have := (hli e.on (Array.getElem?_eq_some_iff.1 hoe').1).2 hm
        rw [Array.getD_eq_getD_getElem?] at this h6
        cases hge : listed[e.on]? with
        | none => rw [hge] at h6; cases h6
        | some b => rw [hge] at this h6; simp only [Option.getD_some] at this h6; rw [this] at h6; cases h6
      have hp := hin.2
      rw [List.map_append, List.map_cons, List.pairwise_append] at hp
      obtain ⟨hp1, hp2, hp3⟩ := hp
      obtain ⟨p, H', h6, h7⟩ := DOps.front h fun x hx => by
        have hxi : x.1 < i := hp3 x.1 (List.mem_map_of_mem hx) i (by simp)
        have hxo := hin.1 x (by simp [hx])
        unfold drawOk at hd
        simp only [Bool.and_eq_true] at hd
        have h8 := List.all_eq_true.1 hd.2 i (by simpa using hlt)
        simp only [h4] at h8
        have h9 := List.all_eq_true.1 h8 x.1 (by simpa using hxi)
        simp only [hxo, Bool.or_eq_true, Bool.and_eq_true] at h9
        rcases h9 with h9 | h9
        · exact absurd (by simp only [List.map_append, List.mem_append]; exact .inl (List.mem_map_of_mem hx)) (mask_done hB hcl i o' h4 hdone x.1 hxi h9)
        · exact h9
      have hin' : InOrder ops (pre ++ post) := by
        refine ⟨fun x hx => hin.1 x (by rcases List.mem_append.1 hx with e | e <;> simp [e]), ?_⟩
        rw [List.map_append, List.pairwise_append]
        exact ⟨hp1, (List.pairwise_cons.1 hp2).2, fun x hx y hy => hp3 x hx y (by simp [hy])⟩
      have hni : i ∉ (pre ++ post).map (·.1) := fun hm => by
        rw [List.map_append, List.mem_append] at hm
        rcases hm with e | e
        · exact absurd (hp3 i e i (by simp)) (by omega)
        · exact absurd ((List.pairwise_cons.1 hp2).1 i e) (by omega)
      have hiff : ∀ k, k ≠ i → (k ∈ (pre ++ (i, o') :: post).map (·.1) ↔ k ∈ (pre ++ post).map (·.1)) := fun k hk => by
        simp only [List.map_append, List.map_cons, List.mem_append, List.mem_cons, hk, false_or]
      have hcl' : Closed ops (pre ++ post) := fun k ok hk hkn e he hb => by
        by_cases hki : k = i
        · subst hki
          rw [h4] at hk
          obtain rfl := Option.some.inj hk
          have := hdone e he hb
          intro hm
          refine this ?_
          by_cases hee : e.on = k
          · rw [hee]; exact hir
          · exact (hiff _ hee).2 hm
        · have := hcl k ok hk (fun hm => hkn ((hiff k hki).1 hm)) e he hb
          intro hm
          refine this ?_
          by_cases hee : e.on = i
          · rw [hee]; exact hir
          · exact (hiff _ hee).2 hm
      have hli' : ∀ k, k < ops.size → ((listed.setIfInBounds i true).getD k true = false ↔ k ∈ (pre ++ post).map (·.1)) := fun k hk => by
        by_cases hki : k = i
        · subst hki
          constructor
          · intro hf
            rw [Array.getD_eq_getD_getElem?, Array.getElem?_setIfInBounds_self] at hf
            simp [hls, hk] at hf
          · intro hm; exact absurd hm hni
        · rw [getD_set_ne true (fun e => hki e.symm), hli k hk, hiff k hki]
      have hgo : ∀ (A' : List (Nat × PV)) (H' : List Blk) (G' : Ghost) (w' : World) (a' : Act), Evol G H.length G' → H.length ≤ H'.length → DOps P Γ ops cls n0 K (pre ++ post) A' H' → Sim Γ w0 G' H' w' → ASim G' H'.length N A' a' → a'.defers = a.defers →
          wpAnyIn (Fr ro) 0 P .any ops (Lift Γ w0 N G H.length fun e A' H' D' => e = .normal ∧ K A' H' ∧ D' = D) fuel (listed.setIfInBounds i true) a' w' := by
        intro A' H' G' w' a' he hn hD hs' ha' hdf
        have := ih (pre ++ post) (listed.setIfInBounds i true) A' H' G' w' a' (by simp at hl ⊢; omega) hin' hcl' (by simpa using hls) hli' (by omega) hD hs' ha' (by rw [hdf]; exact hdd.mono he hn)
        exact wpAnyIn_mono this fun e a w h => h.after he hn
      have hdst : ∀ d, o'.dst = some d → d < N := fun d hdd => by
        unfold dstOk at hok
        rw [List.all_eq_true] at hok
        have := hok o' (by simpa using Array.mem_of_getElem? h4)
        rw [hdd] at this
        simpa using this
      unfold wpOpIn
      simp only [h4]
      unfold DOne at h6
      cases hw : wantA ops A o' with
      | none => rw [hw] at h6; exact h6.elim
      | some b =>
        rw [hw] at h6
        have hwant : Region.wanted o' (yielded ops a.tmps) = b := by
          unfold wantA at hw
          unfold Region.wanted
          cases hg : o'.guard with
          | none => rw [hg] at hw; simpa using hw
          | some g =>
            obtain ⟨j, want⟩ := g
            rw [hg] at hw
            simp only at hw ⊢
            split at hw
            · rename_i d hdj
              split at hw
              · rename_i bb hbb
                rw [ha.yielded hdj hbb]
                have := Option.some.inj hw
                rw [← this]
                cases bb <;> cases want <;> rfl
              · rename_i hbb
                rw [ha.unyielded hdj hbb]
                have := Option.some.inj hw
                rw [← this]
                rfl
              · cases hw
            · cases hw
        rw [hwant]
        cases b with
        | false =>
          obtain ⟨rfl, rfl⟩ := h6
          rw [if_neg (by simp)]
          exact ⟨fun _ _ => trivial, hgo _ _ G w _ (Evol.refl _ _) (Nat.le_refl _) h7 hs (ha.put (.unwanted _ _) hdst) (put_defers _ _ _)⟩
        | true =>
          rw [if_pos rfl]
          have hst : OStep P Γ o' (restr ops o' A) H (fun q H1 => q = p ∧ H1 = H') := by
            simp only at h6
            split at h6
            · rw [h6.1]; exact h6.2 H
            · rw [h6.1]; exact h6.2
            · exact h6.2
            · rw [h6.1]; exact h6.2 H hn0 rfl
            · obtain ⟨b, B, g1, g2, g3, g4, g5⟩ := h6
              rw [g4]; exact g5 H g3 rfl
            · obtain ⟨L, f1, f2, f3⟩ := h6
              rw [f1]; exact f3 H rfl
            · obtain ⟨b, B, g1, g3, g4, g5⟩ := h6
              rw [g4]; exact g5 H g3 rfl
            · exact h6
          refine hst ro w0 G w N a _ _ hs (ha.less fun t => by
            by_cases ht : t ∈ o'.looksAt ops
            · exact .inl (restr_in ht)
            · exact .inr (restr_out ht)) fun v w' G' q H1 k1 k2 k3 k4 k5 => ?_
          obtain ⟨rfl, rfl⟩ := k5
          exact hgo _ _ G' w' _ k3 k4 h7 k1 ((ha.mono k3 k4).put k2 hdst) (put_defers _ _ _)
 where
  wpAnyIn_mono {F : Fence} {n : Nat} {md : Region.Mode} {Q Q' : Exit → Act → World → Prop} : ∀ {fuel : Nat} {l : Array Bool} {a : Act} {w : World}, wpAnyIn F n P md ops Q fuel l a w → (∀ e a w, Q e a w → Q' e a w) → wpAnyIn F n P md ops Q' fuel l a w
    | 0, _, _, _, h, hq => ⟨h.1, hq _ _ _ h.2⟩
    | fuel + 1, l, a, w, h, hq => by
      refine ⟨fun h0 => hq _ _ _ (h.1 h0), fun i hi => ?_⟩
      have h := h.2 i hi
      unfold wpOpIn at h ⊢
      cases ho : ops[i]? with
      | none => rw [ho] at h; exact wpAnyIn_mono h hq
      | some o =>
        rw [ho] at h
        simp only at h ⊢
        split
        · rename_i hw
          rw [if_pos hw] at h
          refine ⟨h.1, ?_⟩
          have h2 := h.2
          generalize (o.semAt F.round a.eval).run P w = r at h2 ⊢
          have hlo : LetsOut Q → LetsOut Q' := fun ⟨a, w, h⟩ => ⟨a, w, hq _ _ _ h⟩
          cases r with
          | ok nx w' =>
            cases nx <;> simp only [Oper.uponIn] at h2 ⊢ <;> first
              | exact wpAnyIn_mono h2 hq
              | exact ⟨h2.1, h2.2.mono fun e w'' he => by cases e <;> first | exact wpAnyIn_mono he hq | exact hq _ _ _ he | exact hlo he⟩
              | exact ⟨h2.1, h2.2.mono fun e w'' he => wpAnyIn_mono he hq⟩
              | exact h2
          | halt x w' => cases x <;> simp only [Oper.uponIn] at h2 ⊢ <;> first | exact hq _ _ _ h2 | exact h2
        · rename_i hw
          rw [if_neg hw] at h
          exact ⟨h.1, wpAnyIn_mono h.2 hq⟩
def numbered (ops : Array Oper) : List (Nat × Oper) := ops.toList.zipIdx.map fun x => (x.2, x.1)
theorem awp_drawnX {N id : Nat} (X : Option Nat) {ro : Option Nat} {A : List (Nat × PV)} {H : List Blk} {D : List Nat} {Q : Post} (cls B : List Nat) (hm : P.follows .mixedOrders = true) (hok : dstOk N ops = true) (hd : drawOk ops cls B = true)
    (h : DOps P Γ ops cls ⟨H.length, X⟩ (fun A' H' => Q .normal A' H' D) (numbered ops) A H) : AWP P Γ N ro (.region id ops true) A H D Q := by
  intro w0 G w a hs ha hdd
  refine wpIn_region_any hm ?_
  have hnum : ∀ x ∈ numbered ops, ops[x.1]? = some x.2 := fun x hx => by
    obtain ⟨y, hy, rfl⟩ := List.mem_map.1 hx
    obtain ⟨v, i⟩ := y
    have := List.mem_zipIdx_iff_getElem?.1 hy
    simpa using this
  have hfst : (numbered ops).map (·.1) = List.range ops.size := by
    unfold numbered
    rw [List.map_map]
    have : ((fun x : Nat × Oper => x.1) ∘ fun x : Oper × Nat => (x.2, x.1)) = Prod.snd := rfl
    rw [this, List.zipIdx_map_snd]
    simp [List.range_eq_range']
  have := dops_sound (P := P) (Γ := Γ) (n0 := ⟨H.length, X⟩) (ro := ro) (w0 := w0) (N := N) (D := D) hok hd ops.size (numbered ops) (Array.replicate ops.size false) A H G { w with drawn := w.drawn + 1 } a (by simp [numbered]) ⟨hnum, by
    rw [hfst]; exact List.pairwise_lt_range⟩ (fun k o ho hk => absurd (by
      rw [hfst]; simpa using (Array.getElem?_eq_some_iff.1 ho).1) hk) (by simp) (fun i hi => by
      rw [hfst, Array.getD_eq_getD_getElem?, Array.getElem?_replicate]; simp [hi]) (Nat.le_refl _) h hs.drew ha hdd
  exact dops_sound.wpAnyIn_mono this fun e a w h => h.mono fun e A H D' ⟨h1, h2, h3⟩ => by subst h1 h3; exact h2
theorem awp_drawn {N id : Nat} {ro : Option Nat} {A : List (Nat × PV)} {H : List Blk} {D : List Nat} {Q : Post} (cls B : List Nat) (hm : P.follows .mixedOrders = true) (hok : dstOk N ops = true) (hd : drawOk ops cls B = true)
    (h : DOps P Γ ops cls ⟨H.length, none⟩ (fun A' H' => Q .normal A' H' D) (numbered ops) A H) : AWP P Γ N ro (.region id ops true) A H D Q := awp_drawnX none cls B hm hok hd h
end
end Go.Proofs.YtddnigahjahkbaaGreatDoor.Fw
namespace Go.Proofs.YtddnigahjahkbaaGreatDoor.Fw
set_option linter.unusedVariables false
set_option linter.unusedSimpArgs false
set_option maxRecDepth 100000
open Go.RowKit
section
variable {P : Program} {Γ : Nat → PV} {ops : Array Oper} {cls : List Nat} {n0 : View} {K : List (Nat × PV) → List Blk → Prop}
theorem parts_congr {A B : List (Nat × PV)} {parts : Array (Nat × Operand)} (h : ∀ x ∈ (parts.toList.map (·.2)).toArray, ev Γ A x = ev Γ B x) :
    (parts.toList.map fun x => (x.1, ev Γ A x.2)) = parts.toList.map fun x => (x.1, ev Γ B x.2) :=
  List.map_congr_left fun x hx => by rw [h x.2 (by simpa using ⟨x.1, by simpa using hx⟩)]
theorem step1_congr {A B : List (Nat × PV)} {H : List Blk} (o : Op) (h : ∀ x ∈ o.operands, ev Γ A x = ev Γ B x) : step1 P Γ A H o = step1 P Γ B H o := by
  cases o with
  | build t parts => simp only [step1]; rw [parts_congr (by simpa only [Op.operands] using h)]
  | buildSlice t len parts => simp only [step1]; rw [parts_congr (by simpa only [Op.operands] using h)]
  | makeFunc fn fs cs =>
    simp only [step1]
    rw [List.map_congr_left (l := fs.toList) fun x hx => h x (by simp only [Op.operands, Array.mem_append]; exact .inl (by simpa using hx)),
      List.map_congr_left (l := cs.toList) fun x hx => h x (by simp only [Op.operands, Array.mem_append]; exact .inr (by simpa using hx))]
  | unOp u t x => cases u <;> simp_all [step1, Op.operands]
  | call c =>
    simp only [step1]
    split
    · rename_i x t
      rw [h x (by simp [Op.operands, Call.operands])]
    · rfl
  | _ => simp_all [step1, Op.operands, rd]
theorem step1_free {A : List (Nat × PV)} {o : Op} {p : PV} (h : step1 P Γ A [] o = some (p, [])) (H : List Blk) : step1 P Γ A H o = some (p, H) := by
  cases o with
  | move x => simp only [step1, Option.some.injEq, Prod.mk.injEq] at h ⊢; exact ⟨h.1, trivial⟩
  | assign x => simp only [step1, Option.some.injEq, Prod.mk.injEq] at h ⊢; exact ⟨h.1, trivial⟩
  | makeFunc fn fs cs => simp only [step1, Option.some.injEq, Prod.mk.injEq] at h ⊢; exact ⟨h.1, trivial⟩
  | alloc t => simp only [step1] at h; split at h <;> simp at h
  | box t x => simp only [step1] at h; split at h <;> simp at h
  | store t x y =>
    simp only [step1] at h
    split at h
    · simp [boxAt] at h
    · cases h
  | load t x =>
    simp only [step1] at h ⊢
    split at h
    · rename_i cs ti hr ht
      have hr' : rd Γ A H x = some cs := by
        unfold rd at hr ⊢
        split at hr
        · exact hr
        · simp at hr
        · simp at hr
        · cases hr
      rw [hr', ht]
      simp only at h ⊢
      split at h
      · rename_i hag
        rw [if_pos hag]
        split at h
        · rename_i hle; rw [if_pos hle]; simp only [Option.some.injEq, Prod.mk.injEq] at h ⊢; exact ⟨h.1, trivial⟩
        · cases h
      · rename_i hag
        rw [if_neg hag]
        split at h
        · simp only [Option.some.injEq, Prod.mk.injEq] at h ⊢; exact ⟨h.1, trivial⟩
        · cases h
    · cases h
  | unOp u t x => cases u <;> simp only [step1] at h ⊢ <;> (try cases h; done) <;> (repeat' split at h) <;> simp_all
  | binOp op t x y ty =>
    simp only [step1] at h ⊢
    split at h
    · rename_i b c hb hc
      split at h
      · rename_i q hq hr; simp only [Option.some.injEq, Prod.mk.injEq] at h; obtain ⟨rfl, _⟩ := h; simp [hb, hc, hq, hr]
      · cases h
    · split at h
      · split at h
        · split at h
          · simp only [Option.some.injEq, Prod.mk.injEq] at h
            obtain ⟨rfl, _⟩ := h
            rfl
          · cases h
        · cases h
      · cases h
    · rename_i hne
      split at h
      · rename_i r hr
        simp only [Option.some.injEq, Prod.mk.injEq] at h
        obtain ⟨rfl, _⟩ := h
        rfl
      · split at h
        · rename_i r hr
          simp only [Option.some.injEq, Prod.mk.injEq] at h
          obtain ⟨rfl, _⟩ := h
          rfl
        · cases h
  | call c =>
    simp only [step1] at h ⊢
    split at h
    · split at h <;> simp_all
    · cases h
  | makeInterface t x =>
    simp only [step1] at h ⊢
    split at h
    · cases h
    · rename_i d hne ht
      simp only [Option.some.injEq, Prod.mk.injEq] at h
      obtain ⟨rfl, _⟩ := h
      rfl
    · cases h
  | _ => simp only [step1] at h ⊢ <;> (try cases h; done) <;> (repeat' split at h) <;> simp_all
theorem step1_load {A : List (Nat × PV)} {H H' : List Blk} {t : TypeId} {x : Operand} {p : PV} (h : step1 P Γ A H (.load t x) = some (p, H')) : H' = H := by
  simp only [step1] at h
  split at h
  · split at h
    · split at h
      · cases h; rfl
      · cases h
    · split at h
      · cases h; rfl
      · cases h
  · cases h
theorem rd_vw {A : List (Nat × PV)} {H1 H2 : List Blk} {n : View} {x : Operand} {cs : List PV} (h2 : n.vw H2 = n.vw H1) (h : rd Γ A (n.vw H1) x = some cs) : rd Γ A H2 x = some cs := by
  have key : ∀ {b : Nat} {B : Blk}, (n.vw H1)[b]? = some B → B ≠ .dead → H2[b]? = some B := fun hb hd => View.at h2 hb hd
  unfold rd at h ⊢
  split at h
  · exact h
  · split at h
    · rename_i hb; rw [key hb nofun]; exact h
    · cases h
  · split at h
    · rename_i hb; rw [key hb nofun]; exact h
    · cases h
  · cases h
theorem step1_loadAt {A : List (Nat × PV)} {H1 H2 H' : List Blk} {n : View} {t : TypeId} {x : Operand} {p : PV} (h2 : n.vw H2 = n.vw H1) (h : step1 P Γ A (n.vw H1) (.load t x) = some (p, H')) : step1 P Γ A H2 (.load t x) = some (p, H2) := by
  simp only [step1] at h ⊢
  split at h
  · rename_i cs ti hr ht
    rw [rd_vw h2 hr, ht]
    simp only
    split at h
    · rename_i hag
      rw [if_pos hag]
      split at h
      · rename_i hle; rw [if_pos hle]; cases h; rfl
      · cases h
    · rename_i hag
      rw [if_neg hag]
      split at h
      · rename_i hq; cases h; rfl
      · cases h
  · cases h
def drun (P : Program) (Γ : Nat → PV) (ops : Array Oper) (cls : List Nat) (n0 : View) : List (Nat × Oper) → List (Nat × PV) → List Blk → Option (List (Nat × PV) × List Blk)
  | [], A, H => some (A, H)
  | (i, o) :: rest, A, H =>
    match wantA ops A o with
    | some false => drun P Γ ops cls n0 rest (aput A o.dst (.tup [])) H
    | some true => match cls.getD i 0 with
      | 0 => match step1 P Γ A [] o.op with
        | some (p, []) => drun P Γ ops cls n0 rest (aput A o.dst p) H
        | _ => none
      | 1 => match o.op with
        | .load t x => match step1 P Γ A H (.load t x) with
          | some (p, _) => drun P Γ ops cls n0 rest (aput A o.dst p) H
          | none => none
        | _ => none
      | 2 => match step1 P Γ A H o.op with
        | some (p, H') => drun P Γ ops cls n0 rest (aput A o.dst p) H'
        | none => none
      | 4 => match o.op with
        | .load t x => match step1 P Γ A (n0.vw H) (.load t x) with
          | some (p, _) => drun P Γ ops cls n0 rest (aput A o.dst p) H
          | none => none
        | _ => none
      | _ => none
    | none => none
theorem dops_run (k : Nat) : ∀ {rest : List (Nat × Oper)} {A : List (Nat × PV)} {H : List Blk} {A' : List (Nat × PV)} {H' : List Blk},
    drun P Γ ops cls n0 (rest.take k) A H = some (A', H') → DOps P Γ ops cls n0 K (rest.drop k) A' H' → DOps P Γ ops cls n0 K rest A H := by
  induction k with
  | zero => intro rest A H A' H' h hk; simp only [List.take_zero, drun, Option.some.injEq, Prod.mk.injEq] at h; obtain ⟨rfl, rfl⟩ := h; exact hk
  | succ k ih =>
    intro rest A H A' H' h hk
    cases rest with
    | nil => simp only [List.take_nil, drun, Option.some.injEq, Prod.mk.injEq] at h; obtain ⟨rfl, rfl⟩ := h; exact hk
    | cons x rest =>
      obtain ⟨i, o⟩ := x
      simp only [List.take_succ_cons, drun] at h
      simp only [List.drop_succ_cons] at hk
      have hcong : ∀ H, step1 P Γ (restr ops o A) H o.op = step1 P Γ A H o.op := fun H => step1_congr _ fun x hx => by
        cases x with
        | tmp t => exact restr_in (looks_operand hx)
        | _ => rfl
      split at h
      · rename_i hw
        exact ⟨.tup [], H, by unfold DOne; rw [hw]; exact ⟨rfl, rfl⟩, ih h hk⟩
      · rename_i hw
        split at h
        · rename_i hc
          split at h
          · rename_i p hs
            refine ⟨p, H, ?_, ih h hk⟩
            unfold DOne
            rw [hw, hc]
            exact ⟨rfl, fun H => step1_sound (by rw [hcong]; exact step1_free hs H) ⟨rfl, rfl⟩⟩
          · cases h
        · rename_i hc
          split at h
          · rename_i t x ho
            split at h
            · rename_i p H1 hs
              refine ⟨p, H, ?_, ih h hk⟩
              unfold DOne
              rw [hw, hc]
              exact ⟨rfl, step1_sound (by rw [hcong, ho]; exact hs) ⟨rfl, step1_load hs⟩⟩
            · cases h
          · cases h
        · rename_i hc
          split at h
          · rename_i p H1 hs
            refine ⟨p, H1, ?_, ih h hk⟩
            unfold DOne
            rw [hw, hc]
            exact step1_sound (by rw [hcong]; exact hs) ⟨rfl, rfl⟩
          · cases h
        · rename_i hc
          split at h
          · rename_i t x ho
            split at h
            · rename_i p H1 hs
              refine ⟨p, H, ?_, ih h hk⟩
              unfold DOne
              rw [hw, hc]
              exact ⟨rfl, fun H2 h1 h2 => step1_sound (by rw [hcong, ho]; exact step1_loadAt h2 hs) ⟨rfl, rfl⟩⟩
            · cases h
          · cases h
        · cases h
      · cases h
theorem dops_end {A : List (Nat × PV)} {H : List Blk} (h : K A H) : DOps P Γ ops cls n0 K [] A H := ⟨A, fun _ => rfl, h⟩
theorem awp_drun {N id : Nat} {ro : Option Nat} {A A' : List (Nat × PV)} {H H' : List Blk} {D : List Nat} {Q : Post} (cls B : List Nat) (hm : P.follows .mixedOrders = true) (hok : dstOk N ops = true) (hd : drawOk ops cls B = true)
    (h : drun P Γ ops cls ⟨H.length, none⟩ (numbered ops) A H = some (A', H')) (hk : Q .normal A' H' D) : AWP P Γ N ro (.region id ops true) A H D Q :=
  awp_drawn cls B hm hok hd (dops_run (numbered ops).length (by rw [List.take_of_length_le (Nat.le_refl _)]; exact h) (by rw [List.drop_of_length_le (Nat.le_refl _)]; exact dops_end hk))
theorem dops_one {i : Nat} {o : Oper} {rest : List (Nat × Oper)} {A : List (Nat × PV)} {H : List Blk} (p : PV) (hw : wantA ops A o = some true) (hc : cls.getD i 0 = 0)
    (h : ∀ H A', (∀ x ∈ o.op.operands, ev Γ A' x = ev Γ A x) → OStep P Γ o A' H (fun q H1 => q = p ∧ H1 = H)) (hk : DOps P Γ ops cls n0 K rest (aput A o.dst p) H) : DOps P Γ ops cls n0 K ((i, o) :: rest) A H :=
  ⟨p, H, by unfold DOne; rw [hw, hc]; exact ⟨rfl, fun H => dlift (h H)⟩, hk⟩
theorem dops_reads {i : Nat} {o : Oper} {rest : List (Nat × Oper)} {A : List (Nat × PV)} {H : List Blk} (p : PV) (hw : wantA ops A o = some true) (hc : cls.getD i 0 = 1)
    (h : ∀ A', (∀ x ∈ o.op.operands, ev Γ A' x = ev Γ A x) → OStep P Γ o A' H (fun q H1 => q = p ∧ H1 = H)) (hk : DOps P Γ ops cls n0 K rest (aput A o.dst p) H) : DOps P Γ ops cls n0 K ((i, o) :: rest) A H :=
  ⟨p, H, by unfold DOne; rw [hw, hc]; exact ⟨rfl, dlift h⟩, hk⟩
theorem dops_turns {i : Nat} {o : Oper} {rest : List (Nat × Oper)} {A : List (Nat × PV)} {H H' : List Blk} (p : PV) (hw : wantA ops A o = some true) (hc : cls.getD i 0 = 2)
    (h : ∀ A', (∀ x ∈ o.op.operands, ev Γ A' x = ev Γ A x) → OStep P Γ o A' H (fun q H1 => q = p ∧ H1 = H')) (hk : DOps P Γ ops cls n0 K rest (aput A o.dst p) H') : DOps P Γ ops cls n0 K ((i, o) :: rest) A H :=
  ⟨p, H', by unfold DOne; rw [hw, hc]; exact dlift h, hk⟩
theorem dops_makes {i : Nat} {o : Oper} {rest : List (Nat × Oper)} {A : List (Nat × PV)} {H H' : List Blk} (p : PV) (hw : wantA ops A o = some true) (hc : cls.getD i 0 = 3) (ht : n0.vw H' = n0.vw H)
    (h : ∀ A', (∀ x ∈ o.op.operands, ev Γ A' x = ev Γ A x) → OStep P Γ o A' H (fun q H1 => q = p ∧ H1 = H')) (hk : DOps P Γ ops cls n0 K rest (aput A o.dst p) H') : DOps P Γ ops cls n0 K ((i, o) :: rest) A H :=
  ⟨p, H', by unfold DOne; rw [hw, hc]; exact ⟨ht, dlift h⟩, hk⟩
theorem dops_fn {i : Nat} {o : Oper} {rest : List (Nat × Oper)} {A : List (Nat × PV)} {H : List Blk} {x : Operand} {args : Array Operand} {ts : Array TypeId} {f : FuncId} {fs cs : List PV} {p : PV}
    (ho : o.op = .call { callee := .value x, args := args, argTypes := ts }) (hw : wantA ops A o = some true) (hc : cls.getD i 0 = 0) (hx : ev Γ A x = .func (.func f) fs cs) (he : Enters P f)
    (h : Gives P Γ f (fs ++ args.toList.map (ev Γ A) ++ cs) p) (hk : DOps P Γ ops cls n0 K rest (aput A o.dst p) H) : DOps P Γ ops cls n0 K ((i, o) :: rest) A H :=
  dops_one p hw hc (fun H A' hev => by
    have hops : ∀ y, y = x ∨ y ∈ args → ev Γ A' y = ev Γ A y := fun y hy => hev y (by
      rw [ho]
      simp only [Op.operands, Call.operands, Array.mem_append]
      rcases hy with rfl | hy
      · exact .inl (by simp)
      · exact .inr hy)
    refine os_fn ho (by rw [hops x (.inl rfl)]; exact hx) he (p := p) ?_ ⟨rfl, rfl⟩
    rw [List.map_congr_left (l := args.toList) fun y hy => hops y (.inr (by simpa using hy))]
    exact h) hk
theorem aops_fn {o : Oper} {Q : List (Nat × PV) → List Blk → Prop} {rest : List Oper} {A : List (Nat × PV)} {H : List Blk} {x : Operand} {args : Array Operand} {ts : Array TypeId} {f : FuncId} {fs cs : List PV} {p : PV}
    (ho : o.op = .call { callee := .value x, args := args, argTypes := ts }) (hg : o.guard = none) (hx : ev Γ A x = .func (.func f) fs cs) (he : Enters P f)
    (h : Gives P Γ f (fs ++ args.toList.map (ev Γ A) ++ cs) p) (hk : AOps P Γ ops Q rest (aput A o.dst p) H) : AOps P Γ ops Q (o :: rest) A H :=
  aops_one hg (os_fn ho hx he h hk)
theorem aops_call {o : Oper} {Q : List (Nat × PV) → List Blk → Prop} {rest : List Oper} {A : List (Nat × PV)} {H : List Blk} {x : Operand} {args : Array Operand} {ts : Array TypeId} {f : FuncId} {fs cs : List PV}
    (ho : o.op = .call { callee := .value x, args := args, argTypes := ts }) (hg : o.guard = none) (hx : ev Γ A x = .func (.func f) fs cs) (he : Enters P f)
    (h : ACalls P Γ f (fs ++ args.toList.map (ev Γ A) ++ cs) H (fun p H' => AOps P Γ ops Q rest (aput A o.dst p) H')) : AOps P Γ ops Q (o :: rest) A H :=
  aops_one hg (os_call ho hx he h)
end
end Go.Proofs.YtddnigahjahkbaaGreatDoor.Fw
namespace Go.Proofs.YtddnigahjahkbaaGreatDoor.Fw
set_option linter.unusedVariables false
set_option linter.unusedSimpArgs false
set_option maxRecDepth 100000
open Go.RowKit
def Told (Γ : Nat → PV) (A : List (Nat × PV)) (H : List Blk) (A' : List (Nat × PV)) (H' : List Blk) : Prop :=
  H.length ≤ H'.length ∧ ∀ (w0 : World) (G : Ghost) (w : World) (N : Nat) (a : Act), Sim Γ w0 G H w → ASim G H.length N A a → ∃ G', Sim Γ w0 G' H' w ∧ ASim G' H'.length N A' a ∧ Evol G H.length G'
section
variable {P : Program} {Γ : Nat → PV} {N : Nat} {ro : Option Nat} {c : Code} {o : Oper} {A A' : List (Nat × PV)} {H H' : List Blk} {D : List Nat} {Q : Post} {K : PV → List Blk → Prop}
theorem awp_told (ht : Told Γ A H A' H') (h : AWP P Γ N ro c A' H' D Q) : AWP P Γ N ro c A H D Q := by
  intro w0 G w a hs ha hd
  obtain ⟨G', h1, h2, h3⟩ := ht.2 w0 G w N a hs ha
  exact wpIn_mono (h w0 G' w a h1 h2 (hd.mono h3 ht.1)) fun _ _ _ hl => hl.after h3 ht.1
theorem told_adopt (t : Nat) (sz : Nat) (hsz : 0 < sz) (ht : alook A t = .vec [] true) : Told Γ A H ((t, .row H.length 0 0 sz) :: A) (H ++ [.row sz []]) := by
  refine ⟨by simp, fun w0 G w N a hs ha => ?_⟩
  have hv := ha.2 t
  rw [ht] at hv
  obtain ⟨G', h1, h2, h3⟩ := hs.adopt hsz hv
  refine ⟨G', h1, ⟨ha.1, fun u => ?_⟩, h2⟩
  simp only [alook]
  split
  · rename_i e; subst e; exact h3
  · exact (ha.2 u).mono _ h2 (by simp)
theorem BlkOk.relabel {G : Ghost} {n : Nat} {w : World} {i : Info} {cs cs' : List PV} (h : BlkOk G n w i (.box cs)) (hl : cs'.length = cs.length) (hr : ∀ (j : Nat) c c', cs[j]? = some c → cs'[j]? = some c' → ∀ v, Rep G n c v → Rep G n c' v) : BlkOk G n w i (.box cs') := by
  obtain ⟨h0, C, e, h1, h2, h3⟩ := h
  refine ⟨h0, C, e, h1, ⟨hl.trans h2.1, fun j c v hc hv => ?_⟩, h3⟩
  have hj : j < cs.length := by have := (List.getElem?_eq_some_iff.1 hc).1; omega
  exact hr j _ c (List.getElem?_eq_getElem hj) hc v (h2.2 j _ v (List.getElem?_eq_getElem hj) hv)
theorem Sim.relabel {w0 w : World} {G : Ghost} {b : Nat} {cs cs' : List PV} (h : Sim Γ w0 G H w) (hb : H[b]? = some (.box cs)) (hl : cs'.length = cs.length)
    (hr : ∀ (j : Nat) c c', cs[j]? = some c → cs'[j]? = some c' → ∀ v, Rep G H.length c v → Rep G H.length c' v) : Sim Γ w0 G (H.set b (.box cs')) w := by
  have hbl := (List.getElem?_eq_some_iff.1 hb).1
  have key : ∀ (k : Nat) B, (H.set b (.box cs'))[k]? = some B → ∃ B', H[k]? = some B' ∧ (B.live (G.info k) = true → B'.live (G.info k) = true) := fun k B hB => by
    by_cases hk : k = b
    · subst hk
      rw [List.getElem?_set_self hbl] at hB
      cases hB
      exact ⟨_, hb, fun h => h⟩
    · rw [List.getElem?_set_ne (Ne.symm hk)] at hB
      exact ⟨B, hB, fun h => h⟩
  refine ⟨h.below, h.mem, fun k B hB => ?_, fun k B hB hlv => ?_, fun k k' B B' hB hB' h1 h2 he => ?_, h.glob, h.tab⟩
  · rw [List.length_set]
    by_cases hk : k = b
    · subst hk
      rw [List.getElem?_set_self hbl] at hB
      cases hB
      exact (h.blk k _ hb).relabel hl hr
    · rw [List.getElem?_set_ne (Ne.symm hk)] at hB
      exact h.blk k B hB
  · obtain ⟨B', h1, h2⟩ := key k B hB
    exact h.own k B' h1 (h2 hlv)
  · obtain ⟨E, h3, h4⟩ := key k B hB
    obtain ⟨E', h5, h6⟩ := key k' B' hB'
    exact h.inj k k' E E' h3 h5 (h4 h1) (h6 h2) he
theorem told_adoptBox (b j sz : Nat) {cs : List PV} (hsz : 0 < sz) (hb : H[b]? = some (.box cs)) (hj : cs[j]? = some (.vec [] true)) :
    Told Γ A H A (H.set b (.box (cs.set j (.row H.length 0 0 sz))) ++ [.row sz []]) := by
  refine ⟨by simp, fun w0 G w N a hs ha => ?_⟩
  obtain ⟨h0, C, e, h1, h2, h3⟩ := hs.blk b _ hb
  have hjl := (List.getElem?_eq_some_iff.1 hj).1
  have hjC : j < C.toList.length := by rw [← h2.1]; exact hjl
  have hv := h2.2 j _ _ hj (List.getElem?_eq_getElem hjC)
  obtain ⟨G', k1, k2, k3⟩ := hs.adopt hsz hv
  have hbl := (List.getElem?_eq_some_iff.1 hb).1
  have hb' : (H ++ [Blk.row sz []])[b]? = some (.box cs) := by rw [List.getElem?_append_left hbl]; exact hb
  have hset : H.set b (.box (cs.set j (.row H.length 0 0 sz))) ++ [.row sz []] = (H ++ [Blk.row sz []]).set b (.box (cs.set j (.row H.length 0 0 sz))) := by rw [List.set_append_left _ _ hbl]
  obtain ⟨h0', C', e', h1', h2', h3'⟩ := k1.blk b _ hb'
  refine ⟨G', ?_, ⟨ha.1, fun t => (ha.2 t).mono _ k2 (by simp)⟩, k2⟩
  have hi : (G'.info b).blk = (G.info b).blk := by
    rcases k2.info b hbl with e | ⟨r, _, _⟩
    · rw [e]
    · rw [h0] at r; cases r
  rw [hset]
  have hlen : ((H ++ [Blk.row sz []]).set b (.box (cs.set j (.row H.length 0 0 sz)))).length = (H ++ [Blk.row sz []]).length := by simp
  refine ⟨k1.below, k1.mem, fun k B hB => ?_, fun k B hB hlv => ?_, fun k k' B B' hB hB' q1 q2 he => ?_, k1.glob, k1.tab⟩
  · rw [hlen]
    by_cases hk : k = b
    · subst hk
      rw [List.getElem?_set_self (by simp; omega)] at hB
      cases hB
      have hCC : C' = C := by rw [hi] at h1'; rw [h1] at h1'; cases h1'; rfl
      subst hCC
      refine ⟨h0', C', e', h1', ⟨by simpa using h2'.1, fun i c v hc hv' => ?_⟩, h3'⟩
      by_cases hij : i = j
      · subst hij
        rw [List.getElem?_set_self hjl] at hc
        cases hc
        have : v = C'.toList[i]'hjC := by rw [List.getElem?_eq_getElem hjC] at hv'; exact (Option.some.inj hv').symm
        rw [this]; exact k3
      · rw [List.getElem?_set_ne (Ne.symm hij)] at hc
        exact h2'.2 i c v hc hv'
    · rw [List.getElem?_set_ne (Ne.symm hk)] at hB
      exact k1.blk k B hB
  all_goals
    have key : ∀ (k : Nat) B, ((H ++ [Blk.row sz []]).set b (.box (cs.set j (.row H.length 0 0 sz))))[k]? = some B → ∃ B', (H ++ [Blk.row sz []])[k]? = some B' ∧ (B.live (G'.info k) = true → B'.live (G'.info k) = true) := fun k B hB => by
      by_cases hk : k = b
      · subst hk
        rw [List.getElem?_set_self (by simp; omega)] at hB
        cases hB
        exact ⟨_, hb', fun h => h⟩
      · rw [List.getElem?_set_ne (Ne.symm hk)] at hB
        exact ⟨B, hB, fun h => h⟩
  · obtain ⟨B', q1, q2⟩ := key k B hB
    exact k1.own k B' q1 (q2 hlv)
  · obtain ⟨E, q3, q4⟩ := key k B hB
    obtain ⟨E', q5, q6⟩ := key k' B' hB'
    exact k1.inj k k' E E' q3 q5 (q4 q1) (q6 q2) he
def frz (b sz : Nat) (C : List PV) (p : PV) : PV :=
  match p with
  | .row b' q k sz' => if b' = b ∧ sz' = sz ∧ C.length = q + k * sz then .vec (chunk sz k (C.drop q)) false else p
  | _ => p
def frzB (b sz : Nat) (C : List PV) (B : Blk) : Blk :=
  match B with
  | .box cs => .box (cs.map (frz b sz C))
  | _ => B
theorem told_freezeR (b : Nat) {sz : Nat} {C : List PV} {H2 : List Blk} (hb : H[b]? = some (.row sz C)) (hp : PV.plainL C = true) (hl2 : H2.length = H.length)
    (hrel : ∀ (k : Nat) B, H2[k]? = some B → ∃ B', (H.set b .dead)[k]? = some B' ∧ (B = B' ∨ B = frzB b sz C B')) : Told Γ A H (A.map fun kp => (kp.1, frz b sz C kp.2)) H2 := by
  refine ⟨by omega, fun w0 G w N a hs ha => ?_⟩
  obtain ⟨G', h1, h2, h3⟩ := hs.freeze hb hp
  have conv : ∀ n p v, Rep G n p v → n ≤ H.length → Rep G' n (frz b sz C p) v := fun n p v hr hn => by
    have h0 := hr.mono n (h2.less hn) (Nat.le_refl _)
    unfold frz
    split
    · split
      · rename_i b' q k sz' hc
        obtain ⟨rfl, rfl, hl⟩ := hc
        exact h3 _ _ q k v hr hl
      · exact h0
    · exact h0
  have hlen : H2.length = H.length := hl2
  have back : ∀ (k : Nat) B, H2[k]? = some B → ∃ B', (H.set b .dead)[k]? = some B' ∧ (B = B' ∨ B = frzB b sz C B') ∧ (B.live (G'.info k) = B'.live (G'.info k)) := fun k B hB => by
    obtain ⟨B', hB', e⟩ := hrel k B hB
    refine ⟨B', hB', e, ?_⟩
    rcases e with rfl | rfl
    · rfl
    · cases B' <;> rfl
  refine ⟨G', ⟨h1.below, h1.mem, fun k B hB => ?_, fun k B hB hlv => ?_, fun k k' B B' hB hB' q1 q2 he => ?_, h1.glob, h1.tab⟩, ⟨ha.1, fun t => ?_⟩, h2⟩
  · obtain ⟨B', k1, ke, k3⟩ := back k B hB
    have k4 := h1.blk k B' k1
    rw [hlen]
    rw [List.length_set] at k4
    rcases ke with rfl | rfl
    · exact k4
    cases B' with
    | box cs =>
      obtain ⟨g0, D, e, g1, g2, g3⟩ := k4
      have hkb : k ≠ b := fun e => by
        subst e
        rw [List.getElem?_set_self (List.getElem?_eq_some_iff.1 hb).1] at k1; cases k1
      rw [List.getElem?_set_ne (Ne.symm hkb)] at k1
      obtain ⟨g0', D', e', g1', g2', g3'⟩ := hs.blk k _ k1
      have hi : (G'.info k).blk = (G.info k).blk := by
        rcases h2.info k (List.getElem?_eq_some_iff.1 k1).1 with e | ⟨r, _, _⟩
        · rw [e]
        · rw [g0'] at r; cases r
      have : D = D' := by rw [hi] at g1; rw [g1'] at g1; cases g1; rfl
      subst this
      refine ⟨g0, D, e, g1, ⟨by simpa using g2.1, fun j c v hc hv => ?_⟩, g3⟩
      rw [List.getElem?_map] at hc
      obtain ⟨c', hc', rfl⟩ := Option.map_eq_some_iff.1 hc
      exact conv _ _ _ (g2'.2 j c' v hc' hv) (Nat.le_refl _)
    | row _ _ => exact k4
    | map _ => exact k4
    | loop _ _ => exact k4
    | dfr => exact k4
    | dead => exact k4
  · obtain ⟨B', k1, _, k3⟩ := back k B hB
    exact h1.own k B' k1 (k3 ▸ hlv)
  · obtain ⟨E, k1, _, k3⟩ := back k B hB
    obtain ⟨E', k4, _, k6⟩ := back k' B' hB'
    exact h1.inj k k' E E' k1 k4 (k3 ▸ q1) (k6 ▸ q2) he
  · have : alook (A.map fun kp => (kp.1, frz b sz C kp.2)) t = frz b sz C (alook A t) := by
      clear ha
      induction A with
      | nil => rfl
      | cons kp A ih =>
        obtain ⟨k, p⟩ := kp
        simp only [List.map_cons, alook]
        split
        · rfl
        · exact ih
    rw [this, hlen]
    exact conv _ _ _ (ha.2 t) (Nat.le_refl _)
theorem told_freezeAt (H0 L : List Blk) (j : Nat) {sz : Nat} {C : List PV} (hb : L[j]? = some (.row sz C)) (hp : PV.plainL C = true) :
    Told Γ A (H0 ++ L) (A.map fun kp => (kp.1, frz (H0.length + j) sz C kp.2)) (H0 ++ (L.set j .dead).map (frzB (H0.length + j) sz C)) := by
  have hset : (H0 ++ L).set (H0.length + j) .dead = H0 ++ L.set j .dead := by rw [List.set_append_right _ _ (by omega)]; simp
  refine told_freezeR (H0.length + j) (by rw [List.getElem?_append_right (by omega)]; simpa using hb) hp (by simp) fun k B hB => ?_
  rw [hset]
  by_cases hk : k < H0.length
  · rw [List.getElem?_append_left hk] at hB ⊢
    exact ⟨B, hB, .inl rfl⟩
  · rw [List.getElem?_append_right (by omega)] at hB ⊢
    rw [List.getElem?_map] at hB
    obtain ⟨B', hB', rfl⟩ := Option.map_eq_some_iff.1 hB
    exact ⟨B', hB', .inr rfl⟩
def Cut (n : Nat) (Q : Post) : Post := fun e A H D =>
  ∃ A' m, n ≤ m ∧ m ≤ H.length ∧ (∀ B ∈ H.take m, B.bd m = true) ∧ (∀ t, alook A' t = alook A t ∨ alook A' t = .any) ∧ (∀ t, (alook A' t).bd m = true) ∧ (∀ b ∈ D, b < m) ∧ Q e A' (H.take m) D
end
end Go.Proofs.YtddnigahjahkbaaGreatDoor.Fw
namespace Go.Proofs.YtddnigahjahkbaaGreatDoor.Fw
set_option linter.unusedVariables false
set_option linter.unusedSimpArgs false
set_option maxRecDepth 100000
open Go.RowKit Go.MapKept
def keyEq : PV → PV → Option Bool
  | .str a, .str b => some (decide (a = b))
  | .int k a, .int k' b => if k = k' then some (decide (a = b)) else none
  | _, _ => none
def mfind (k : PV) : List (PV × PV) → Nat → Option (Option (Nat × PV))
  | [], _ => some none
  | (p, q) :: es, i => match keyEq k p with
    | some true => some (some (i, q))
    | some false => mfind k es (i + 1)
    | none => none
def keyKind : TypeDesc → PV → Bool
  | .string, .str _ => true
  | .int k, .int k' _ => decide (k' = k)
  | _, _ => false
theorem keyKind_spec {d : TypeDesc} {k : PV} {G : Ghost} {n : Nat} {v : Value} (h : keyKind d k = true) (hr : Rep G n k v) : IsKey d v := by
  cases d <;> cases k <;> simp [keyKind] at h
  · rw [hr.int_inv]; exact h
  · rw [hr.str_inv]; trivial
theorem keyEq_spec {d : TypeDesc} {k p : PV} {G : Ghost} {n : Nat} {v u : Value} {b : Bool} (hd : keyKind d k = true) (h : keyEq k p = some b) (hr : Rep G n k v) (hp : Rep G n p u) : Instr.sameNow d v u = some b := by
  cases k <;> cases p <;> simp only [keyEq] at h <;> first | (cases h; done) | skip
  · rename_i k a k' c
    split at h
    · rename_i e
      subst e
      cases h
      rw [hr.int_inv, hp.int_inv]
      cases d <;> simp [keyKind] at hd
      simp [Instr.sameNow, BEq.beq]
    · cases h
  · rename_i a c
    cases h
    rw [hr.str_inv, hp.str_inv]
    cases d <;> simp [keyKind] at hd
    simp only [Instr.sameNow, Option.some.injEq]
    rw [Bool.eq_iff_iff]
    rw [bytes_beq]
    simp
theorem keyEq_same {d : TypeDesc} {k p : PV} {G : Ghost} {n : Nat} {v u : Value} (hd : keyKind d k = true) (h : keyEq k p = some true) (hr : Rep G n k v) (hp : Rep G n p u) : u = v := by
  cases k <;> cases p <;> simp only [keyEq] at h <;> first | (cases h; done) | skip
  · split at h
    · rename_i e
      subst e
      simp only [Option.some.injEq, decide_eq_true_eq] at h
      subst h
      rw [hr.int_inv, hp.int_inv]
    · cases h
  · simp only [Option.some.injEq, decide_eq_true_eq] at h
    subst h
    rw [hr.str_inv, hp.str_inv]
theorem mfind_spec {d : TypeDesc} {k : PV} {G : Ghost} {n : Nat} {v : Value} (hd : keyKind d k = true) (hr : Rep G n k v) : ∀ (es : List (PV × PV)) (E : List MapEntry) (i : Nat) (r : Option (Nat × PV)),
    E.length = es.length → (∀ (j : Nat) p q x, es[j]? = some (p, q) → E[j]? = some x → Rep G n p x.key ∧ Rep G n q x.val) → mfind k es i = some r →
    ∃ r', Instr.findNow d v E i = some r' ∧ match r with | none => r' = none | some (j, q) => ∃ u, r' = some (j, u) ∧ Rep G n q u ∧ i ≤ j ∧ j < i + es.length ∧ ∃ x, E[j - i]? = some x ∧ x.key = v
  | [], [], i, r, _, _, h => by
    simp only [mfind, Option.some.injEq] at h
    subst h
    exact ⟨none, rfl, rfl⟩
  | (p, q) :: es, x :: E, i, r, hl, hE, h => by
    obtain ⟨h1, h2⟩ := hE 0 p q x rfl rfl
    simp only [mfind] at h
    simp only [Instr.findNow]
    split at h
    · rename_i he
      rw [keyEq_spec hd he hr h1]
      cases h
      exact ⟨_, rfl, _, rfl, h2, Nat.le_refl _, by simp, x, by simp, keyEq_same hd he hr h1⟩
    · rename_i he
      rw [keyEq_spec hd he hr h1]
      obtain ⟨r', h3, h4⟩ := mfind_spec hd hr es E (i + 1) r (by simpa using hl) (fun j p q x h1 h2 => hE (j + 1) p q x (by simpa using h1) (by simpa using h2)) h
      refine ⟨r', h3, ?_⟩
      cases r with
      | none => exact h4
      | some jq =>
        obtain ⟨j, q'⟩ := jq
        obtain ⟨u, e1, e2, e3, e4, y, e5, e6⟩ := h4
        refine ⟨u, e1, e2, by omega, by simp only [List.length_cons]; omega, y, ?_, e6⟩
        rw [show j - i = (j - (i + 1)) + 1 by omega]; exact e5
    · cases h
  | [], _ :: _, _, _, hl, _, _ => by simp at hl
  | _ :: _, [], _, _, hl, _, _ => by simp at hl
def gotOr (r : Option (Nat × PV)) (z : PV) : PV :=
  match r with
  | some (_, q) => q
  | none => z
def mput (es : List (PV × PV)) (k q : PV) (r : Option (Nat × PV)) : List (PV × PV) :=
  match r with
  | some (j, _) => es.set j (k, q)
  | none => es ++ [(k, q)]
def zeroOf (P : Program) (t : TypeId) : Option PV :=
  match (P.info? t).bind (·.zero) with
  | some (.agg cs) => some (.agg (cs.toList.map ofC))
  | some z => some (ofC z)
  | none => none
theorem zeroOf_spec {P : Program} {t : TypeId} {p : PV} (h : zeroOf P t = some p) (G : Ghost) (n : Nat) (h1 : ∀ i z cs, P.info? t = some i → i.zero = some z → z = .agg cs → ∀ (j : Nat) u, cs[j]? = some u → u.oneCell' = true) :
    ∃ z, (∀ w, (zeroValue t).run P w = .ok z w) ∧ Rep G n p z := by
  unfold zeroOf at h
  cases hi : P.info? t with
  | none => rw [hi] at h; cases h
  | some i =>
    rw [hi] at h
    cases hz : i.zero with
    | none => simp [hz] at h
    | some z =>
      refine ⟨z, fun w => run_zero hi hz w, ?_⟩
      simp only [Option.bind_some, hz] at h
      cases z with
      | agg cs =>
        simp only [Option.some.injEq] at h
        subst h
        refine .agg _ _ _ (by simp) (fun j c v hc hv => ?_) (h1 i _ cs hi hz rfl)
        simp only [List.getElem?_map, Array.getElem?_toList, hv, Option.map_some, Option.some.injEq] at hc
        subst hc
        exact ofC_rep G n v
      | _ => simp only [Option.some.injEq] at h; subst h; exact ofC_rep G n _
section
variable {P : Program} {Γ : Nat → PV} {o : Oper} {A : List (Nat × PV)} {H : List Blk} {K : PV → List Blk → Prop}
theorem os_makeMap {t : TypeId} (ho : o.op = .makeMap t none) (hk : K (.map H.length) (H ++ [.map []])) : OStep P Γ o A H K :=
  ostep_value (by simp [ho]) fun w0 G w N a hs ha => by
    let i : Info := { blk := w.heap.size, len := 0, size := 0, sub := 0, isRow := false }
    have hp := hs.push i (.map []) (w.alloc (.map #[] 0)) (hs.below.alloc hs.size _) (by simp) (fun k hk => Below.heap_alloc _ _ _ hk)
      ⟨rfl, #[], 0, by show (w.heap.push _)[w.heap.size]? = _; simp, rfl, fun j p q x h => by simp at h, fun j x h => by simp at h, fun j k x y h => by simp at h⟩ (fun _ => ⟨Nat.le_refl _, by simp [i]⟩)
    have hr := Rep.map (G := G.setInfo H.length i) (H ++ [Blk.map []]).length H.length (by simp) (by rw [G.setInfo_same])
    rw [G.setInfo_same] at hr
    exact ⟨_, _, _, _, _, by simp [execOp, ho, Instr.makeMap, newObj, Sem.run]; rfl, hp.1, hr, hp.2, by simp, hk⟩
theorem Sim.map_at {w0 w : World} {G : Ghost} {b : Nat} {es : List (PV × PV)} (h : Sim Γ w0 G H w) (hb : H[b]? = some (.map es)) : (G.info b).isRow = false ∧ ∃ E clock, w.heap[(G.info b).blk]? = some (.map E clock) ∧ E.size = es.length ∧ (∀ (j : Nat) p q x, es[j]? = some (p, q) → E[j]? = some x → Rep G H.length p x.key ∧ Rep G H.length q x.val) ∧
      (∀ (j : Nat) x, E[j]? = some x → x.born < clock) ∧ (∀ (j k : Nat) x y, E[j]? = some x → E[k]? = some y → x.born = y.born → j = k) := h.blk b _ hb
theorem Rep.map_inv {G : Ghost} {n b : Nat} {v : Value} (h : Rep G n (.map b) v) : v = .map (some (G.info b).blk) := by cases h; rfl
theorem os_lookup {t kt et : TypeId} {x i : Operand} {ok : Bool} {d : TypeDesc} {b : Nat} {es : List (PV × PV)} {r : Option (Nat × PV)} {z : PV} (ho : o.op = .lookup t x i ok) (ht : P.underlying t = some (.map kt et)) (hkt : P.underlying kt = some d)
    (hkk : keyKind d (ev Γ A i) = true) (hx : ev Γ A x = .map b) (hb : H[b]? = some (.map es)) (hf : mfind (ev Γ A i) es 0 = some r) (hz : r = none → zeroOf P et = some z ∧ ∀ i z cs, P.info? et = some i → i.zero = some z → z = .agg cs → ∀ (j : Nat) u, cs[j]? = some u → u.oneCell' = true)
    (hk : K (if ok = true then .tup [gotOr r z, .bool r.isSome] else gotOr r z) H) : OStep P Γ o A H K :=
  ostep_pure (by simp [ho]) _ hk fun w0 G w N a hs ha => by
    have hm := ha.ev hs.glob x
    rw [hx] at hm
    have hm := hm.map_inv
    obtain ⟨h0, E, clock, h1, h2, h3, _, _⟩ := hs.map_at hb
    have hkr := ha.ev hs.glob i
    obtain ⟨r', h4, h5⟩ := mfind_spec hkk hkr es E.toList 0 r (by simpa using h2) (fun j p q x e1 e2 => h3 j p q x e1 (by simpa using e2)) hf
    have hck := run_checkKey (P := P) (w := w) hkt (keyKind_spec hkk hkr)
    have hfk := run_findKey (P := P) (w := w) hkt h4
    have key : ∃ v bb, (match r' with | some (_, v) => (pure (v, true) : Sem (Value × Bool)) | none => do pure (← zeroValue et, false)).run P w = .ok (v, bb) w ∧ bb = r.isSome ∧ Rep G H.length (gotOr r z) v := by
      cases r with
      | none =>
        simp only at h5
        subst h5
        obtain ⟨z', e1, e2⟩ := zeroOf_spec (hz rfl).1 G H.length (hz rfl).2
        exact ⟨z', false, by simp [e1 w], rfl, e2⟩
      | some jq =>
        obtain ⟨j, q⟩ := jq
        obtain ⟨u, rfl, e2, _⟩ := h5
        exact ⟨u, true, by simp, rfl, e2⟩
    obtain ⟨v, bb, h6, h7, h8⟩ := key
    have hrun : (Instr.lookup t (a.eval x) (a.eval i) ok).run P w = .ok (if ok then .tuple #[v, .bool bb] else v) w := by
      unfold Instr.lookup
      simp only [Sem.run_bind, run_under ht, Result.andThen, hm, MapKept.run_getObj_map h1, Sem.run_pure, hck, hfk]
      cases r with
      | none =>
        simp only at h5
        subst h5
        simp only [Sem.run_bind, Result.andThen, Sem.run_pure] at h6 ⊢
        generalize (zeroValue et).run P w = q at h6 ⊢
        cases q with
        | ok x w' => simp only [Result.ok.injEq, Prod.mk.injEq] at h6 ⊢; obtain ⟨⟨rfl, rfl⟩, rfl⟩ := h6; exact ⟨rfl, rfl⟩
        | halt x w' => cases h6
      | some jq =>
        obtain ⟨u, rfl, _⟩ := h5
        simp only [Sem.run_pure, Result.ok.injEq, Prod.mk.injEq] at h6 ⊢
        obtain ⟨⟨rfl, rfl⟩, _⟩ := h6
        rfl
    refine ⟨if ok then .tuple #[v, .bool bb] else v, by simp only [execOp, ho]; simp [hrun], ?_⟩
    cases ok with
    | false => exact h8
    | true =>
      simp only [if_true]
      refine .tup _ _ _ rfl fun j c u hc hu => ?_
      match j with
      | 0 => cases hc; cases hu; exact h8
      | 1 => cases hc; cases hu; rw [h7]; exact .bool _ _
      | j + 2 => simp at hc
theorem os_mapUpdate {t kt et : TypeId} {x i y : Operand} {d : TypeDesc} {b : Nat} {es : List (PV × PV)} {r : Option (Nat × PV)} (ho : o.op = .mapUpdate t x i y ∨ o.op = .insert t x i y) (ht : P.underlying t = some (.map kt et)) (hkt : P.underlying kt = some d)
    (hkk : keyKind d (ev Γ A i) = true) (hx : ev Γ A x = .map b) (hb : H[b]? = some (.map es)) (hf : mfind (ev Γ A i) es 0 = some r)
    (hk : K .any (H.set b (.map (mput es (ev Γ A i) (ev Γ A y) r)))) : OStep P Γ o A H K :=
  ostep_skip (by rcases ho with ho | ho <;> simp [ho]) fun w0 G w N a hs ha => by
    have hm := ha.ev hs.glob x
    rw [hx] at hm
    have hm := hm.map_inv
    obtain ⟨h0, E, clock, h1, h2, h3, h4, h5⟩ := hs.map_at hb
    have hkr := ha.ev hs.glob i
    have hyr := ha.ev hs.glob y
    obtain ⟨r', h6, h7⟩ := mfind_spec hkk hkr es E.toList 0 r (by simpa using h2) (fun j p q x e1 e2 => h3 j p q x e1 (by simpa using e2)) hf
    have hck := run_checkKey (P := P) (w := w) hkt (keyKind_spec hkk hkr)
    have hfk := run_findKey (P := P) (w := w) hkt h6
    have hexec : ∀ w', (Instr.mapUpdate t (a.eval x) (a.eval i) (a.eval y)).run P w = .ok () w' → (execOp a.eval o).run P w = .ok .skip w' := fun w' h => by
      rcases ho with ho | ho <;> simp [execOp, ho, h]
    have fin : ∀ (E' : Array MapEntry) (clock' : Nat) (es' : List (PV × PV)), E'.size = es'.length → (∀ (j : Nat) p q x, es'[j]? = some (p, q) → E'[j]? = some x → Rep G H.length p x.key ∧ Rep G H.length q x.val) →
        (∀ (j : Nat) x, E'[j]? = some x → x.born < clock') → (∀ (j k : Nat) x y, E'[j]? = some x → E'[k]? = some y → x.born = y.born → j = k) →
        Sim Γ w0 G (H.set b (.map es')) { w with heap := w.heap.setIfInBounds (G.info b).blk (.map E' clock') } := fun E' clock' es' e1 e2 e3 e4 => by
      refine hs.setSame hb rfl (fun k hk => by simp [Array.getElem?_setIfInBounds, Ne.symm hk]) (by simp) ⟨rfl, rfl, rfl⟩ ⟨h0, E', clock', ?_, e1, e2, e3, e4⟩
      have := (Array.getElem?_eq_some_iff.1 h1).1
      simp [Array.getElem?_setIfInBounds, this]
    cases r with
    | none =>
      simp only at h7 hk
      subst h7
      refine ⟨_, G, _, hexec _ (by simp [Instr.mapUpdate, run_under ht, Result.andThen, hm, MapKept.run_getObj_map h1, hck, hfk, MapKept.run_setObj_map _ h1]; rfl), fin _ _ (es ++ [(ev Γ A i, ev Γ A y)]) (by simp [h2]) (fun j p q x e1 e2 => ?_) (fun j x e => ?_) (fun j k x y e1 e2 he => ?_), Evol.refl _ _, by simp, hk⟩
      · by_cases hj : j < es.length
        · rw [List.getElem?_append_left hj] at e1
          rw [Array.getElem?_push_lt (by omega)] at e2
          exact h3 j p q x e1 (by rw [Array.getElem?_eq_getElem (by omega)]; exact e2)
        · have hj' : j = es.length := by
            have := (List.getElem?_eq_some_iff.1 e1).1
            simp at this; omega
          subst hj'
          simp at e1
          rw [← h2] at e2
          simp at e2
          obtain ⟨rfl, rfl⟩ := e1
          subst e2
          exact ⟨hkr, hyr⟩
      · rw [Array.getElem?_push] at e
        split at e
        · cases e; exact Nat.lt_succ_self _
        · exact Nat.lt_succ_of_lt (h4 j x e)
      · rw [Array.getElem?_push] at e1 e2
        split at e1 <;> split at e2
        · omega
        · cases e1; have := h4 k y e2; simp at he; omega
        · cases e2; have := h4 j x e1; simp at he; omega
        · exact h5 j k x y e1 e2 he
    | some jq =>
      obtain ⟨j0, q0⟩ := jq
      obtain ⟨u, e1, e2, e3, e4, y0, e5, e6⟩ := h7
      subst e1
      have hj0 : j0 < E.size := by omega
      have hE0 : E[j0]? = some y0 := by simpa using e5
      have hstay : ∀ ww, (Instr.keyThatStays (((E[j0]?).map (·.key)).getD (a.eval i)) (a.eval i)).run P ww = .ok (a.eval i) ww := fun ww => by
        rw [hE0]
        simp only [Option.map_some, Option.getD_some, e6]
        exact run_keyThatStays (keyKind_spec hkk hkr)
      have hget : ∀ j x, (E.modify j0 fun e => { e with key := a.eval i, val := a.eval y })[j]? = some x → ∃ x0, E[j]? = some x0 ∧ x = (if j0 = j then { x0 with key := a.eval i, val := a.eval y } else x0) := fun j x h => by
        rw [Array.getElem?_modify] at h
        split at h
        · rename_i hj
          obtain ⟨x0, h1, h2⟩ := Option.map_eq_some_iff.1 h
          exact ⟨x0, h1, by rw [if_pos hj]; exact h2.symm⟩
        · rename_i hj
          exact ⟨x, h, by rw [if_neg hj]⟩
      have hbn : ∀ (j : Nat) (x x0 : MapEntry), x = (if j0 = j then { x0 with key := a.eval i, val := a.eval y } else x0) → x.born = x0.born := fun j x x0 h => by
        subst h; split <;> rfl
      refine ⟨_, G, _, hexec _ (by simp [Instr.mapUpdate, run_under ht, Result.andThen, hm, MapKept.run_getObj_map h1, hck, hfk, hstay, MapKept.run_setObj_map _ h1]; rfl), fin _ clock (es.set j0 (ev Γ A i, ev Γ A y)) (by simp [h2]) (fun j p q x e1 e2 => ?_) (fun j x e => ?_) (fun j k x y e1 e2 he => ?_), Evol.refl _ _, by simp, hk⟩
      · obtain ⟨x0, k1, k2⟩ := hget j x e2
        by_cases hj : j0 = j
        · subst hj
          rw [List.getElem?_set_self (by omega)] at e1
          cases e1
          rw [k2, if_pos rfl]
          exact ⟨hkr, hyr⟩
        · rw [List.getElem?_set_ne hj] at e1
          rw [k2, if_neg hj]
          exact h3 j p q x0 e1 k1
      · obtain ⟨x0, k1, k2⟩ := hget j x e
        rw [hbn j x x0 k2]; exact h4 j x0 k1
      · obtain ⟨x0, k1, k2⟩ := hget j x e1
        obtain ⟨y1, k3, k4⟩ := hget k y e2
        rw [hbn j x x0 k2, hbn k y y1 k4] at he
        exact h5 j k x0 y1 k1 k3 he
end
end Go.Proofs.YtddnigahjahkbaaGreatDoor.Fw
namespace Go.Proofs.YtddnigahjahkbaaGreatDoor.Fw
set_option linter.unusedVariables false
set_option linter.unusedSimpArgs false
set_option maxRecDepth 100000
open Go.RowKit
section
variable {P : Program} {Γ : Nat → PV} {A : List (Nat × PV)} {H : List Blk}
theorem Told.trans {A1 A2 A3 : List (Nat × PV)} {H1 H2 H3 : List Blk} (h : Told Γ A1 H1 A2 H2) (k : Told Γ A2 H2 A3 H3) : Told Γ A1 H1 A3 H3 :=
  ⟨Nat.le_trans h.1 k.1, fun w0 G w N a hs ha => by
    obtain ⟨G1, s1, a1, e1⟩ := h.2 w0 G w N a hs ha
    obtain ⟨G2, s2, a2, e2⟩ := k.2 w0 G1 w N a s1 a1
    exact ⟨G2, s2, a2, e1.trans e2 h.1⟩⟩
theorem Told.refl (A : List (Nat × PV)) (H : List Blk) : Told Γ A H A H := ⟨Nat.le_refl _, fun w0 G w N a hs ha => ⟨G, hs, ha, Evol.refl _ _⟩⟩
def frzM (b sz : Nat) (C : List PV) (B : Blk) : Blk :=
  match B with
  | .box cs => .box (cs.map (frz b sz C))
  | .map es => .map (es.map fun e => (e.1, frz b sz C e.2))
  | _ => B
end
end Go.Proofs.YtddnigahjahkbaaGreatDoor.Fw
namespace Go.Proofs.YtddnigahjahkbaaGreatDoor.Fw
set_option linter.unusedVariables false
set_option linter.unusedSimpArgs false
set_option maxRecDepth 100000
open Go.RowKit
def roundTmps (rec : Loop) (vs : Array Value) : Array Value := (rec.params.zip vs).foldl (fun tmps (t, a) => tmps.setIfInBounds t a) rec.tmps
def ARound (P : Program) (Γ : Nat → PV) (l : Nat) (rec : Loop) (ps : List PV) (H : List Blk) (R : Bool → List Blk → Prop) : Prop :=
  ∀ (w0 : World) (G : Ghost) (w : World) (vs : Array Value), Sim Γ w0 G H w → Reps G H.length ps vs.toList →
    RoundIn Fence.wide 0 P (G.info l).blk rec.fn (roundTmps rec vs) rec.assign rec.body w fun e w' => ∃ b G' H', e = .returned (.bool b) ∧ Sim Γ w0 G' H' w' ∧ Evol G H.length G' ∧ H.length ≤ H'.length ∧ R b H'
theorem ARound.mono {P : Program} {Γ : Nat → PV} {l : Nat} {rec : Loop} {ps : List PV} {H : List Blk} {R R' : Bool → List Blk → Prop} (h : ARound P Γ l rec ps H R) (hr : ∀ b H', R b H' → R' b H') : ARound P Γ l rec ps H R' :=
  fun w0 G w vs hs hv => (h w0 G w vs hs hv).mono fun _ _ ⟨b, G', H', h1, h2, h3, h4, h5⟩ => ⟨b, G', H', h1, h2, h3, h4, hr _ _ h5⟩
section
variable {P : Program} {Γ : Nat → PV} {N : Nat} {ro : Option Nat} {A : List (Nat × PV)} {H : List Blk} {D : List Nat} {Q : Post} {o : Oper} {K : PV → List Blk → Prop}
def yieldA (params : List Tmp) (ps : List PV) (A : List (Nat × PV)) : List (Nat × PV) := (params.zip ps).foldl (fun A tp => (tp.1, tp.2) :: A) A
def busy (rec : Loop) : Loop := { rec with state := .busy }
def ended (rec : Loop) (jump : Option Code) : Loop := { rec with state := if jump.isNone then .ready else .done, pending := jump }
def jumpOf : Exit → Option (Option Code)
  | .normal => some none
  | .ret => some (some .ret)
  | .exit id => some (some (.exit id))
  | _ => none
def AIter (P : Program) (Γ : Nat → PV) (gf : FuncId) (caps : List PV) (Need : List Blk → Prop) (np : Nat) (xs : List (List PV)) : Prop :=
  ∀ (l n0 : Nat) (Inv : Nat → List Blk → Prop) (Stop : List Blk → Prop),
    (∀ i Hb, Inv i Hb → Need Hb ∧ Hb.length = n0 ∧ ∃ rec cs, Hb[l]? = some (.loop rec cs) ∧ rec.params.size = np ∧
      ∀ x E, xs[i]? = some x → ARound P Γ l rec x (Hb ++ E) (fun b H' => ∃ Hb', H' = Hb' ++ E ∧ if b = true then Inv (i + 1) Hb' else (Hb'.length = n0 ∧ Stop Hb'))) →
    ∀ Hb, Inv 0 Hb → ACalls P Γ gf (.yld l :: caps) Hb (fun _ H' => Inv xs.length H' ∨ (H'.length = n0 ∧ Stop H'))
def AIterS (P : Program) (Γ : Nat → PV) (gf : FuncId) (caps : List PV) (Need : List Blk → Prop) (np : Nat) (S : (List Blk → Prop) → Prop) (xs : List (List PV)) : Prop :=
  ∀ (l n0 : Nat) (Inv : Nat → List Blk → Prop) (Stop : List Blk → Prop), S Stop →
    (∀ i Hb, Inv i Hb → Need Hb ∧ Hb.length = n0 ∧ ∃ rec cs, Hb[l]? = some (.loop rec cs) ∧ rec.params.size = np ∧
      ∀ x E, xs[i]? = some x → ARound P Γ l rec x (Hb ++ E) (fun b H' => ∃ Hb', H' = Hb' ++ E ∧ if b = true then Inv (i + 1) Hb' else (Hb'.length = n0 ∧ Stop Hb'))) →
    ∀ Hb, Inv 0 Hb → ACalls P Γ gf (.yld l :: caps) Hb (fun _ H' => Inv xs.length H' ∨ (H'.length = n0 ∧ Stop H'))
def dense (N : Nat) (A : List (Nat × PV)) : List PV := (List.range N).map (alook A)
end
end Go.Proofs.YtddnigahjahkbaaGreatDoor.Fw
namespace Go.Proofs.YtddnigahjahkbaaGreatDoor.Fw
set_option linter.unusedVariables false
set_option linter.unusedSimpArgs false
set_option maxRecDepth 100000
open Go.RowKit Go.ChangeShapes Go.WideShapes
def ofW (W : World) : Ghost := { M := fun a => W.cell? a, info := fun _ => { blk := 0, len := 0, size := 0, sub := 0, isRow := false } }
theorem sim_ofW {Γ : Nat → PV} {W : World} (h : ∀ g, Rep (ofW W) 0 (Γ g) (.pointer (some ⟨g, 0, none⟩))) (ht : ∀ g cs, Γ g = .cptr cs → ∃ C e q, W.heap[g]? = some (.cells C e q) ∧ C.size = cs.length) : Sim Γ W (ofW W) [] W :=
  ⟨Below.refl _ _, fun _ _ h => h, fun b B hB => by simp at hB, fun b B hB => by simp at hB, fun b b' B B' hB => by simp at hB, h, ht⟩
def DecAt (P : Program) (W : World) (fuel : Nat) (t : TypeId) {X : Type} (enc : X → List PV) (good : X → Prop) : Prop :=
  ∀ (Hh : Type) (e : TypeId × Value → Hh) (cs : List Value) (y : DataW Hh × List MemPlace), DataW.trod e P W 0 (fun _ => true) true fuel t cs = some y → (y.1.weights P t).all (· ≤ reachBytes) = true → ∃ x, good x ∧ Reps (ofW W) 0 (enc x) cs ∧ ∀ u ∈ cs, u.oneCell' = true
section
variable {P : Program} {W : World} {n : Nat} {t : TypeId} {X Y : Type} {enc : X → List PV} {good : X → Prop}
theorem DecAt.zero : DecAt P W 0 t enc good := fun Hh e cs y h _ => by simp [DataW.trod] at h
theorem DecAt.weaken {good' : X → Prop} (h : DecAt P W n t enc good) (hg : ∀ x, good x → good' x) : DecAt P W n t enc good' := fun Hh e cs y hy hw =>
  let ⟨x, h1, h2, h3⟩ := h Hh e cs y hy hw; ⟨x, hg x h1, h2, h3⟩
theorem DecAt.map {enc' : Y → List PV} {good' : Y → Prop} (h : DecAt P W n t enc good) (g : X → Y) (he : ∀ x, enc' (g x) = enc x) (hg : ∀ x, good x → good' (g x)) : DecAt P W n t enc' good' := fun Hh e cs y hy hw =>
  let ⟨x, h1, h2, h3⟩ := h Hh e cs y hy hw; ⟨g x, hg x h1, by rw [he]; exact h2, h3⟩
theorem reps_one {G : Ghost} {m : Nat} {p : PV} {v : Value} (h : Rep G m p v) : Reps G m [p] [v] := Reps.cons h (Reps.nil _ _)
theorem cell_spot {a : Addr} {v : Value} (h : W.cell? a = some v) : a.spot = none := by
  unfold World.cell? at h
  split at h
  · split at h
    · cases h
    · rename_i hs; simpa using hs
  · cases h
theorem cells_spec {a : Addr} {k : Nat} {ci : List Value} (h : W.cells? 0 a k = some ci) : ci.length = k ∧ ∀ j, j < k → W.cell? (a.add j) = ci[j]? := by
  obtain ⟨_, h1, h2⟩ := World.cells?_some h
  exact ⟨h1, h2⟩
theorem pick_list {Q : Nat → X → Prop} (m : Nat) (h : ∀ i, i < m → ∃ x, Q i x) : ∃ xs : List X, xs.length = m ∧ ∀ i x, xs[i]? = some x → Q i x := by
  induction m with
  | zero => exact ⟨[], rfl, fun i x h => by simp at h⟩
  | succ m ih =>
    obtain ⟨xs, h1, h2⟩ := ih fun i hi => h i (by omega)
    obtain ⟨x, hx⟩ := h m (by omega)
    refine ⟨xs ++ [x], by simp [h1], fun i y hy => ?_⟩
    by_cases hi : i < xs.length
    · rw [List.getElem?_append_left hi] at hy; exact h2 i y hy
    · have hi' : i = xs.length := by
        have := (List.getElem?_eq_some_iff.1 hy).1
        simp at this; omega
      subst hi'
      simp at hy
      subst hy
      rw [h1]; exact hx
theorem weightsAll_at {Hh : Type} {e : TypeId} {q : Nat → Bool} : ∀ {ds : List (DataW Hh)} {i : Nat} {d : DataW Hh}, (DataW.weightsAll P e ds).all q = true → ds[i]? = some d → (d.weights P e).all q = true
  | d :: ds, 0, _, h, hd => by
    cases hd
    simp only [DataW.weightsAll, List.all_append, Bool.and_eq_true] at h
    exact h.1
  | d :: ds, i + 1, _, h, hd => by
    simp only [DataW.weightsAll, List.all_append, Bool.and_eq_true] at h
    exact weightsAll_at (ds := ds) (i := i) h.2 (by simpa using hd)
  | [], _, _, _, hd => by simp at hd
theorem weightsEach_at {Hh : Type} {q : Nat → Bool} : ∀ {ts : List TypeId} {ds : List (DataW Hh)} {i : Nat} {t : TypeId} {d : DataW Hh}, (DataW.weightsEach P ts ds).all q = true → ts[i]? = some t → ds[i]? = some d → (d.weights P t).all q = true
  | t :: ts, d :: ds, 0, _, _, h, ht, hd => by
    cases ht; cases hd
    simp only [DataW.weightsEach, List.all_append, Bool.and_eq_true] at h
    exact h.1
  | t :: ts, d :: ds, i + 1, _, _, h, ht, hd => by
    simp only [DataW.weightsEach, List.all_append, Bool.and_eq_true] at h
    exact weightsEach_at (ts := ts) (ds := ds) (i := i) h.2 (by simpa using ht) (by simpa using hd)
  | [], _, _, _, _, _, ht, _ => by simp at ht
  | _ :: _, [], _, _, _, _, _, hd => by simp at hd
def DecF (P : Program) (W : World) (n : Nat) (fs : List Field) (off : Nat) {X : Type} (enc : X → List PV) (good : X → Prop) : Prop :=
  ∀ (Hh : Type) (e : TypeId × Value → Hh) (cs : List Value), (∀ f ∈ fs, ∃ y, DataW.trod e P W 0 (fun _ => true) true n f.type ((cs.drop f.offset).take (P.cellsOf f.type)) = some y ∧ (y.1.weights P f.type).all (· ≤ reachBytes) = true) → cs.length = off + (fs.map fun f => P.cellsOf f.type).sum →
    ∃ x, good x ∧ Reps (ofW W) 0 (enc x) (cs.drop off) ∧ ∀ u ∈ cs.drop off, u.oneCell' = true
end
theorem kept_of_below {W W' : World} (hb : Below W.heap.size W W') (may : MemPlace → Prop) : W.keptBut W' may := by
  refine ⟨hb.os, hb.output, fun i hi => ?_⟩
  rw [hb.block i hi]
  cases h : W.heap[i]? with
  | none => rfl
  | some o =>
    cases o with
    | cells c t fr => exact ⟨rfl, rfl, rfl, fun _ _ => rfl⟩
    | map es clock => exact .inr ⟨rfl, rfl⟩
    | _ => rfl
theorem trodAll_below {H : Type} {enc : TypeId × Value → H} {P : Program} (hl : laidOutB P = true) {W W' : World} (hb : Below W.heap.size W W') : ∀ {ts : List TypeId} {vs : List Value} {ds : List (DataW H)} {ps : List MemPlace},
    (ts.all fun t => P.readableRec t && decide (t < P.types.size)) = true → DataW.TrodAll enc P W 0 (fun _ => true) true ts vs ds ps → (∀ p ∈ ps, p.block < W.heap.size) → DataW.TrodAll enc P W' 0 (fun b => decide (b < W.heap.size)) true ts vs ds ps
  | [], [], [], _, _, h, _ => h
  | t :: ts, v :: vs, d :: ds, ps, hr, ⟨p, q, h1, h2, h3⟩, hlt => by
    simp only [List.all_cons, Bool.and_eq_true, decide_eq_true_eq] at hr
    subst h3
    exact ⟨p, q, Below.trod hl hr.1.1 hr.1.2 h1 hb fun x hx => hlt x (by simp [hx]), trodAll_below hl hb hr.2 h2 fun x hx => hlt x (by simp [hx]), rfl⟩
  | [], _ :: _, _, _, _, h, _ => h.elim
  | [], [], _ :: _, _, _, h, _ => h.elim
  | _ :: _, [], _, _, _, h, _ => h.elim
  | _ :: _, _ :: _, [], _, _, h, _ => h.elim
theorem law_post {H : Type} {enc : TypeId × Value → H} {P : Program} {f : Func} {s : ChangeSpec} {W W' : World} {args : Array Value} {ds gs : List (DataW H)} {before : List MemPlace} {tb : TypeId} (hl : laidOutB P = true)
    (hr : (f.params.toList.all fun t => P.readableRec t && decide (t < P.types.size)) = true) (hv : s.vars = []) (hres : f.resultTypes = #[tb]) (htb : P.underlying tb = some .bool)
    (hs : ∀ ds : List (DataW H), ds.length = f.params.size → s.fn H ds = { results := [.lit (.bool true)], args := ds })
    (hW : DataW.Whole enc P f.params.toList s.vars false W args.toList ds gs before) (hb : Below W.heap.size W W') : s.post enc P f false true false false W args (.bool true) W' := by
  have hW' := hW
  obtain ⟨p, q, hA, hV, rfl, hfz, hnd⟩ := hW
  rw [hv] at hV
  obtain ⟨rfl, rfl⟩ := trodVars_none hV
  have hlen : ds.length = f.params.size := by
    have : ∀ {ts : List TypeId} {vs : List Value} {ds : List (DataW H)} {ps : List MemPlace}, DataW.TrodAll enc P W 0 (fun _ => true) true ts vs ds ps → ds.length = ts.length := by
      intro ts
      induction ts with
      | nil => intro vs ds ps h; cases vs <;> cases ds <;> first | rfl | exact h.elim
      | cons t ts ih =>
        intro vs ds ps h
        cases vs with
        | nil => exact h.elim
        | cons v vs =>
          cases ds with
          | nil => exact h.elim
          | cons d ds => obtain ⟨p, q, _, h2, _⟩ := h; simp [ih h2]
    simpa using this hA
  have hfn := hs (ds ++ []) (by simpa using hlen)
  refine ⟨ds, [], p ++ [], [], p, [], hW', ?_, ?_, ?_, kept_of_below hb _, fun h => by cases h⟩
  · rw [hfn, hres]
    refine ⟨[], [], ⟨1, ?_⟩, rfl, rfl⟩
    simp [DataW.trod, htb, Value.cells]
  · rw [hfn, List.append_nil]
    exact trodAll_below hl hb hr hA fun x hx => hW'.lt x (by simp [hx])
  · rw [hv, hfn]; rfl
end Go.Proofs.YtddnigahjahkbaaGreatDoor.Fw
namespace Go.Proofs.YtddnigahjahkbaaGreatDoor.Fw
set_option linter.unusedVariables false
set_option linter.unusedSimpArgs false
set_option maxRecDepth 100000
open Go.RowKit
theorem get_at (H L : List Blk) (k : Nat) : (H ++ L)[H.length + k]? = L[k]? := by rw [List.getElem?_append_right (by omega)]; simp
theorem get_at0 (H L : List Blk) : (H ++ L)[H.length]? = L[0]? := get_at H L 0
theorem set_at (H L : List Blk) (k : Nat) (B : Blk) : (H ++ L).set (H.length + k) B = H ++ L.set k B := by rw [List.set_append_right _ _ (by omega)]; simp
theorem set_at0 (H L : List Blk) (B : Blk) : (H ++ L).set H.length B = H ++ L.set 0 B := set_at H L 0 B
theorem take_at (H L : List Blk) (k : Nat) : (H ++ L).take (H.length + k) = H ++ L.take k := List.take_length_add_append k
theorem get_old {H : List Blk} (L : List Blk) {b : Nat} {B : Blk} (h : H[b]? = some B) : (H ++ L)[b]? = some B := by
  rw [List.getElem?_append_left (List.getElem?_eq_some_iff.1 h).1]; exact h
theorem bd_app {H L : List Blk} (h : ∀ B ∈ H, B.bd H.length = true) (hL : (L.all fun B => B.bd (H ++ L).length) = true) : ∀ B ∈ H ++ L, B.bd (H ++ L).length = true := fun B hB => by
  rcases List.mem_append.1 hB with hB | hB
  · exact Blk.bd_mono (by simp) (h B hB)
  · exact List.all_eq_true.1 hL B hB
 where
  Blk.bd_mono {m n : Nat} (hm : m ≤ n) {B : Blk} (h : B.bd m = true) : B.bd n = true := by
    cases B with
    | box cs => exact PV.bdL_mono hm _ h
    | row sz cs => exact PV.bdL_mono hm _ h
    | loop l cs => exact PV.bdL_mono hm _ h
    | map es =>
      simp only [Blk.bd, List.all_eq_true, Bool.and_eq_true] at h ⊢
      exact fun e he => ⟨PV.bd_mono hm _ (h e he).1, PV.bd_mono hm _ (h e he).2⟩
    | dfr => rfl
    | dead => rfl
def zero1 (P : Program) (t : TypeId) : Option PV :=
  match (P.info? t).bind (·.zero) with
  | some (.agg _) => none
  | some z => some (ofC z)
  | none => none
theorem zero1_spec {P : Program} {t : TypeId} {p : PV} (h : zero1 P t = some p) : zeroOf P t = some p ∧ ∀ i z cs, P.info? t = some i → i.zero = some z → z = .agg cs → ∀ (j : Nat) u, cs[j]? = some u → u.oneCell' = true := by
  unfold zero1 at h
  unfold zeroOf
  split at h
  · cases h
  · rename_i z hne hz
    refine ⟨by (try rw [hz]); cases z <;> first | exact h | exact absurd rfl (hne _), fun i z' cs hi hz' e => ?_⟩
    subst e
    rw [hi] at hz
    simp only [Option.bind_some, hz', Option.some.injEq] at hz
    exact absurd hz.symm (hne cs)
  · cases h
section
variable {P : Program} {Γ : Nat → PV} {N : Nat} {ro : Option Nat} {c : Code} {A : List (Nat × PV)} {H : List Blk} {D : List Nat} {Q : Post}
theorem awp_bd (h : (∀ B ∈ H, B.bd H.length = true) → AWP P Γ N ro c A H D Q) : AWP P Γ N ro c A H D Q :=
  fun w0 G w a hs ha hd => h hs.bound w0 G w a hs ha hd
theorem zip_look (keep : List Nat) (ps : List PV) (t : Nat) (A : List (Nat × PV)) (h : keep.map (alook A) = ps) : alook (keep.zip ps) t = alook A t ∨ alook (keep.zip ps) t = .any := by
  subst h
  induction keep with
  | nil => exact .inr rfl
  | cons k keep ih =>
    simp only [List.map_cons, List.zip_cons_cons, alook]
    by_cases e : t = k
    · rw [if_pos e, e]; exact .inl rfl
    · rw [if_neg e]; exact ih
theorem awp_for {S : Type} (keep : List Nat) (st : S → List PV) (Hs : S → List Blk) (μ : S → Nat) (ok : S → Prop) (s0 : S) (h0 : keep.map (alook A) = st s0) (hH : H = Hs s0) (hok : ok s0)
    (round : ∀ s, ok s → AWP P Γ N ro c (keep.zip (st s)) (Hs s) D (Post.then (fun A' H' D' => ∃ s', μ s' < μ s ∧ ok s' ∧ keep.map (alook A') = st s' ∧ H' = Hs s' ∧ D' = D) Q)) : AWP P Γ N ro (.loop c) A H D Q := by
  refine awp_loop (fun n A H D' => ∃ s, n = μ s ∧ ok s ∧ keep.map (alook A) = st s ∧ H = Hs s ∧ D' = D) (n := μ s0) ⟨s0, rfl, hok, h0, hH, rfl⟩ fun n A H D' hI => ?_
  obtain ⟨s, rfl, h1, h2, rfl, rfl⟩ := hI
  refine awp_less (fun t => zip_look keep _ t A h2) ((round s h1).mono fun e A' H' D' hq => ?_)
  cases e with
  | normal =>
    obtain ⟨s', k1, k2, k3, k4, k5⟩ := hq
    exact ⟨μ s', k1, s', rfl, k2, k3, k4, k5⟩
  | _ => exact hq
theorem awp_forG {S : Type} (keep : List Nat) (st : S → List PV) (Hs : S → List Blk) (μ : S → Nat) (ok : S → Prop) (s0 : S) (h0 : keep.map (alook A) = st s0) (hH : H = Hs s0) (hok : ok s0)
    (hbd : ∀ s, ok s → (∀ B ∈ Hs s, B.bd (Hs s).length = true) ∧ PV.bdL (Hs s).length (st s) = true) (hD : ∀ s, ok s → ∀ b ∈ D, b < (Hs s).length)
    (round : ∀ s, ok s → AWP P Γ N ro c (keep.zip (st s)) (Hs s) D (Post.then (fun A' H' D' => ∃ s' L, μ s' < μ s ∧ ok s' ∧ keep.map (alook A') = st s' ∧ H' = Hs s' ++ L ∧ D' = D ∧ (Hs s).length ≤ (Hs s').length) Q)) : AWP P Γ N ro (.loop c) A H D Q := by
  refine awp_loop (fun n A H D' => ∃ s, n = μ s ∧ ok s ∧ keep.map (alook A) = st s ∧ H = Hs s ∧ D' = D) (n := μ s0) ⟨s0, rfl, hok, h0, hH, rfl⟩ fun n A H D' hI => ?_
  obtain ⟨s, rfl, h1, h2, rfl, rfl⟩ := hI
  refine awp_less (fun t => zip_look keep _ t A h2) ?_
  intro w0 G w a hs ha hd
  refine wpIn_mono (round s h1 w0 G w a hs ha hd) fun e a' w' hl => ?_
  obtain ⟨G', A1, H1, D1, g1, g2, g3, g4, g5, g6⟩ := hl
  cases e with
  | normal =>
    obtain ⟨s', L, k1, k2, k3, rfl, rfl, k6⟩ := g6
    have ht : (Hs s' ++ L).take (Hs s').length = Hs s' := List.take_left' rfl
    obtain ⟨b1, b2⟩ := hbd s' k2
    have g1' := g1.take (Hs s').length (by simp) (by rw [ht]; exact b1)
    rw [ht] at g1'
    refine ⟨G', keep.zip (st s'), Hs s', D1, g1', ⟨g2.1, fun t => ?_⟩, ⟨g3.1, fun b hb => ⟨hD s' k2 b hb, (g3.2 b hb).2⟩⟩, g4, k6, μ s', k1, s', rfl, k2, ?_, rfl, rfl⟩
    · have hz := (g2.less fun t => zip_look keep _ t A1 k3).2 t
      refine hz.cut _ ?_
      have : ∀ (keep : List Nat) (ps : List PV), PV.bdL (Hs s').length ps = true → (alook (keep.zip ps) t).bd (Hs s').length = true := by
        intro keep
        induction keep with
        | nil => intro ps _; rfl
        | cons k keep ih =>
          intro ps hp
          cases ps with
          | nil => rfl
          | cons p ps =>
            simp only [PV.bdL, Bool.and_eq_true] at hp
            simp only [List.zip_cons_cons, alook]
            split
            · exact hp.1
            · exact ih ps hp.2
      exact this keep _ b2
    · have key : ∀ (keep : List Nat) (A : List (Nat × PV)) (ps : List PV), keep.map (alook A) = ps → keep.map (alook (keep.zip ps)) = ps := fun keep A ps h => by
        subst h
        apply List.map_congr_left
        intro k hk
        have : ∀ (l : List Nat), k ∈ l → alook (l.zip (l.map (alook A))) k = alook A k := by
          intro l
          induction l with
          | nil => intro h; cases h
          | cons x l ih =>
            intro h
            simp only [List.map_cons, List.zip_cons_cons, alook]
            by_cases e : k = x
            · rw [if_pos e, e]
            · rw [if_neg e]; exact ih (by simpa [e] using h)
        exact this keep hk
      exact key keep A1 _ k3
  | _ => exact ⟨G', A1, H1, D1, g1, g2, g3, g4, g5, g6⟩
theorem gives_end {fn : Func} {p : PV} {H0 : List Blk} {A' : List (Nat × PV)} {e : Exit} (he : e = .ret ∨ e = .normal) (L : List Blk) (h : ares P Γ A' (H0 ++ L) fn.results.toList = some p) :
    (e = .ret ∨ e = .normal) ∧ ([] : List Nat).Nodup ∧ (∀ b ∈ ([] : List Nat), (H0 ++ L)[b]? = some .dfr ∧ H0.length ≤ b) ∧ ares P Γ A' (H0 ++ L) fn.results.toList = some p ∧ ∃ L', H0 ++ L = H0 ++ L' :=
  ⟨he, List.nodup_nil, (fun b hb => by cases hb), h, L, rfl⟩
theorem gives_end0 {fn : Func} {p : PV} {H0 : List Blk} {A' : List (Nat × PV)} {e : Exit} (he : e = .ret ∨ e = .normal) (h : ares P Γ A' H0 fn.results.toList = some p) :
    (e = .ret ∨ e = .normal) ∧ ([] : List Nat).Nodup ∧ (∀ b ∈ ([] : List Nat), H0[b]? = some .dfr ∧ H0.length ≤ b) ∧ ares P Γ A' H0 fn.results.toList = some p ∧ ∃ L', H0 = H0 ++ L' :=
  ⟨he, List.nodup_nil, (fun b hb => by cases hb), h, [], (List.append_nil _).symm⟩
theorem calls_end {fn : Func} {p : PV} {R : PV → List Blk → Prop} {A' : List (Nat × PV)} {e : Exit} (L : List Blk) (he : e = .ret ∨ e = .normal) (hbd : ∀ B ∈ H, B.bd H.length = true) (h : ares P Γ A' (H ++ L) fn.results.toList = some p) (hp : p.bd H.length = true) (hR : R p H) :
    RetQ P Γ fn H.length R e A' (H ++ L) [] := by
  have ht : (H ++ L).take H.length = H := List.take_left' rfl
  exact ⟨he, List.nodup_nil, (fun b hb => by cases hb), p, H.length, h, Nat.le_refl _, by simp, fun b hb => (by cases hb), hp, by rw [ht]; exact hbd, by rw [ht]; exact hR⟩
theorem calls_end0 {fn : Func} {p : PV} {R : PV → List Blk → Prop} {A' : List (Nat × PV)} {e : Exit} (he : e = .ret ∨ e = .normal) (hbd : ∀ B ∈ H, B.bd H.length = true) (h : ares P Γ A' H fn.results.toList = some p) (hp : p.bd H.length = true) (hR : R p H) :
    RetQ P Γ fn H.length R e A' H [] := by
  have := calls_end (P := P) (Γ := Γ) (fn := fn) (A' := A') (R := R) [] he hbd (by rw [List.append_nil]; exact h) hp hR
  rwa [List.append_nil] at this
end
end Go.Proofs.YtddnigahjahkbaaGreatDoor.Fw
namespace Go.Proofs.YtddnigahjahkbaaGreatDoor.Fw
set_option linter.unusedVariables false
set_option linter.unusedSimpArgs false
set_option maxRecDepth 100000
open Go.RowKit
theorem fw0 :
    (∀ (P : Program) (Γ : Nat → PV) (ops : Array Oper) (A : List (Nat × PV)) (H : List Blk), arun P Γ ops [] A H = some (A, H)) ∧
    (∀ (P : Program) (Γ : Nat → PV) (ops : Array Oper) (A : List (Nat × PV)) (H : List Blk) (d : Option Tmp) (op : Op) (t : TypeId) (p : String) (a : Array Edge) (rest : List Oper), arun P Γ ops (⟨d, op, t, p, a, none⟩ :: rest) A H = (match step1 P Γ A H op with | some (q, H1) => arun P Γ ops rest (aput A d q) H1 | none => none)) ∧
    (∀ (P : Program) (Γ : Nat → PV) (ops : Array Oper) (A : List (Nat × PV)) (H : List Blk) (d : Option Tmp) (op : Op) (t : TypeId) (p : String) (a : Array Edge) (rest : List Oper) (j : Nat) (want : Bool), arun P Γ ops (⟨d, op, t, p, a, some (j, want)⟩ :: rest) A H = (match (ops[j]?).bind (·.dst) with
      | some d' => match alook A d' with
        | .bool b => if b = want then (match step1 P Γ A H op with
            | some (q, H1) => arun P Γ ops rest (aput A d q) H1
            | none => none) else arun P Γ ops rest (aput A d (.tup [])) H
        | .tup [] => arun P Γ ops rest (aput A d (.tup [])) H
        | _ => none
      | none => none)) ∧
    (∀ (n : Nat) (H : List Blk), View.vw ⟨n, none⟩ H = H.take n) ∧
    (∀ (n b : Nat) (H : List Blk), View.vw ⟨n, some b⟩ H = (H.take n).set b .dead) ∧
    (∀ (P : Program) (Γ : Nat → PV) (ops : Array Oper) (cls : List Nat) (n0 : View) (A : List (Nat × PV)) (H : List Blk), drun P Γ ops cls n0 [] A H = some (A, H)) ∧
    (∀ (P : Program) (Γ : Nat → PV) (ops : Array Oper) (cls : List Nat) (n0 : View) (A : List (Nat × PV)) (H : List Blk) (i : Nat) (d : Option Tmp) (op : Op) (t : TypeId) (p : String) (a : Array Edge) (gd : Option (Nat × Bool)) (rest : List (Nat × Oper)), drun P Γ ops cls n0 ((i, ⟨d, op, t, p, a, gd⟩) :: rest) A H = (match wantA ops A ⟨d, op, t, p, a, gd⟩ with
    | some false => drun P Γ ops cls n0 rest (aput A d (.tup [])) H
    | some true => match cls.getD i 0 with
      | 0 => match step1 P Γ A [] op with
        | some (q, []) => drun P Γ ops cls n0 rest (aput A d q) H
        | _ => none
      | 1 => match op with
        | .load t x => match step1 P Γ A H (.load t x) with
          | some (q, _) => drun P Γ ops cls n0 rest (aput A d q) H
          | none => none
        | _ => none
      | 2 => match step1 P Γ A H op with
        | some (q, H1) => drun P Γ ops cls n0 rest (aput A d q) H1
        | none => none
      | 4 => match op with
        | .load t x => match step1 P Γ A (n0.vw H) (.load t x) with
          | some (q, _) => drun P Γ ops cls n0 rest (aput A d q) H
          | none => none
        | _ => none
      | _ => none
    | none => none)) ∧
    (∀ (ops : Array Oper) (A : List (Nat × PV)) (d : Option Tmp) (op : Op) (t : TypeId) (p : String) (a : Array Edge), wantA ops A ⟨d, op, t, p, a, none⟩ = some true) ∧
    (∀ (ops : Array Oper) (A : List (Nat × PV)) (d : Option Tmp) (op : Op) (t : TypeId) (p : String) (a : Array Edge) (j : Nat) (want : Bool), wantA ops A ⟨d, op, t, p, a, some (j, want)⟩ = (match (ops[j]?).bind (·.dst) with | some d => (match alook A d with | .bool b => some (b == want) | .tup [] => some false | _ => none) | none => none)) ∧
    (∀ (P : Program) (Γ : Nat → PV) (A : List (Nat × PV)) (H : List Blk) (x : Operand), step1 P Γ A H (.move x) = some (ev Γ A x, H)) ∧
    (∀ (P : Program) (Γ : Nat → PV) (A : List (Nat × PV)) (H : List Blk) (x : Operand), step1 P Γ A H (.assign x) = some (ev Γ A x, H)) ∧
    (∀ (P : Program) (Γ : Nat → PV) (A : List (Nat × PV)) (H : List Blk) (c x y : Operand), step1 P Γ A H (.pick c x y) = (match ev Γ A c with | .bool b => some (if b = true then ev Γ A x else ev Γ A y, H) | _ => none)) ∧
    (∀ (P : Program) (Γ : Nat → PV) (A : List (Nat × PV)) (H : List Blk) (t : TypeId), step1 P Γ A H (.alloc t) = (match tiOf P t with | some ti => some (.ptr H.length 0, H ++ [.box ti.zero]) | none => none)) ∧
    (∀ (P : Program) (Γ : Nat → PV) (A : List (Nat × PV)) (H : List Blk) (t : TypeId) (x : Operand), step1 P Γ A H (.box t x) = (if (ev Γ A x).shaped = true then some (.ptr H.length 0, H ++ [.box (ev Γ A x).cells]) else none)) ∧
    (∀ (P : Program) (Γ : Nat → PV) (A : List (Nat × PV)) (H : List Blk) (t : TypeId) (x : Operand), step1 P Γ A H (.load t x) = (match rd Γ A H x, tiOf P t with
    | some cs, some ti => if ti.agg = true then (if ti.size ≤ cs.length then some (.agg (cs.take ti.size), H) else none) else (match cs[0]? with | some p => some (p, H) | none => none)
    | _, _ => none)) ∧
    (∀ (P : Program) (Γ : Nat → PV) (A : List (Nat × PV)) (H : List Blk) (t : TypeId) (x y : Operand), step1 P Γ A H (.store t x y) = (match ev Γ A x, tiOf P t with
    | .ptr b q, some ti => match boxAt H b with
      | some cs => if (ev Γ A y).shaped = true ∧ (ev Γ A y).cells.length = ti.size ∧ q + ti.size ≤ cs.length then some (.any, H.set b (.box (splice cs q (ev Γ A y).cells))) else none
      | none => none
    | _, _ => none)) ∧
    (∀ (P : Program) (Γ : Nat → PV) (A : List (Nat × PV)) (H : List Blk) (s : TypeId) (x : Operand) (f : Nat), step1 P Γ A H (.fieldAddr s x f) = (match fldOf P s f with | some (off, _, _) => (match shift (ev Γ A x) off with | some p => some (p, H) | none => none) | none => none)) ∧
    (∀ (P : Program) (Γ : Nat → PV) (A : List (Nat × PV)) (H : List Blk) (s : TypeId) (x : Operand) (f : Nat), step1 P Γ A H (.field s x f) = (match fldOf P s f, ev Γ A x with
    | some (off, size, ag), .agg cs => if ag = true then (if off + size ≤ cs.length then some (.agg ((cs.drop off).take size), H) else none) else (match cs[off]? with | some p => some (p, H) | none => none)
    | _, _ => none)) ∧
    (∀ (P : Program) (Γ : Nat → PV) (A : List (Nat × PV)) (H : List Blk) (op : BinOp) (t : TypeId) (x y : Operand) (u : TypeId), step1 P Γ A H (.binOp op t x y u) = (match ev Γ A x, ev Γ A y with
    | .bool b, .bool c => match P.underlying t, eqv op (b == c) with
      | some .bool, some p => some (p, H)
      | _, _ => none
    | .agg xs, .agg ys => match eqOf P t with
      | some l => match aeqs l xs ys with
        | some b => match eqv op b with
          | some r => some (r, H)
          | none => none
        | none => none
      | none => none
    | p, q => match abin op p q with
      | some r => some (r, H)
      | none => match nilStep P op t p y with
        | some r => some (r, H)
        | none => none)) ∧
    (∀ (P : Program) (Γ : Nat → PV) (A : List (Nat × PV)) (H : List Blk) (t : TypeId) (x : Operand), step1 P Γ A H (.unOp .not t x) = (match ev Γ A x with | .bool b => some (.bool !b, H) | _ => none)) ∧
    (∀ (P : Program) (Γ : Nat → PV) (A : List (Nat × PV)) (H : List Blk) (t : TypeId) (x : Operand), step1 P Γ A H (.unOp .neg t x) = (match ev Γ A x with | .int k n => some (.int k (k.wrap (0 - n)), H) | _ => none)) ∧
    (∀ (P : Program) (Γ : Nat → PV) (A : List (Nat × PV)) (H : List Blk) (s t : TypeId) (x : Operand), step1 P Γ A H (.convert s t x) = (match P.underlying s, P.underlying t, ev Γ A x with
    | some _, some (.int k'), .int _ n => some (.int k' (k'.wrap n), H)
    | some _, some .string, .str u => some (.str u, H)
    | _, _, _ => none)) ∧
    (∀ (P : Program) (Γ : Nat → PV) (A : List (Nat × PV)) (H : List Blk) (x : Operand), step1 P Γ A H (.nilCheck x) = (match ev Γ A x with | .ptr b q => some (.ptr b q, H) | .cptr cs => some (.cptr cs, H) | .eptr b q l => some (.eptr b q l, H) | _ => none)) ∧
    (∀ (P : Program) (Γ : Nat → PV) (A : List (Nat × PV)) (H : List Blk) (x : Operand) (i : Nat), step1 P Γ A H (.extract x i) = (match ev Γ A x with | .tup ps => (match ps[i]? with | some p => some (p, H) | none => none) | _ => none)) ∧
    (∀ (P : Program) (Γ : Nat → PV) (A : List (Nat × PV)) (H : List Blk) (fn : Go.Fn) (fs cs : Array Operand), step1 P Γ A H (.makeFunc fn fs cs) = some (.func fn (fs.toList.map (ev Γ A)) (cs.toList.map (ev Γ A)), H)) ∧
    (∀ (P : Program) (Γ : Nat → PV) (A : List (Nat × PV)) (H : List Blk) (t : TypeId) (x : Operand), step1 P Γ A H (.makeInterface t x) = (match P.underlying t with | some (.interface _) => none | some _ => some (.iface t (ev Γ A x), H) | none => none)) ∧
    (∀ (P : Program) (Γ : Nat → PV) (A : List (Nat × PV)) (H : List Blk) (t : TypeId) (parts : Array (Nat × Operand)), step1 P Γ A H (.build t parts) = (match tiOf P t, plOf P t with
    | some ti, some pl => match abuild (fun i => pl[i]?) ti.zero (parts.toList.map fun x => (x.1, ev Γ A x.2)) with
      | some cs => some (.agg cs, H)
      | none => none
    | _, _ => none)) ∧
    (∀ (P : Program) (Γ : Nat → PV) (A : List (Nat × PV)) (H : List Blk) (t : TypeId) (len : Nat) (parts : Array (Nat × Operand)), step1 P Γ A H (.buildSlice t len parts) = (match P.underlying t with
    | some (.slice e) => match tiOf P e with
      | some ti => if 0 < ti.size ∧ len * ti.size ≤ 16777216 then
          (match abuild (fun i => some (i * ti.size, ti.size)) (List.replicate (len * ti.size) .any) (parts.toList.map fun x => (x.1, ev Γ A x.2)) with
          | some cs => if PV.plainL cs = true then some (.vec (chunk ti.size len cs) true, H) else none
          | none => none) else none
      | none => none
    | _ => none)) ∧
    (∀ (P : Program) (Γ : Nat → PV) (A : List (Nat × PV)) (H : List Blk) (t : TypeId) (x i : Operand), step1 P Γ A H (.indexAddr t x i) = (match elOf P t, ev Γ A x, ev Γ A i with
    | some (sz, _), .vec es _, .int _ n => match es[n.toNat]? with
      | some e => if 0 ≤ n ∧ e.length = sz then some (.cptr e, H) else none
      | none => none
    | none, q, .int _ n => match arOf P t with
      | some (m, sz) => if 0 ≤ n ∧ n < (m : Int) then (match shift q (n.toNat * sz) with
        | some p => some (p, H)
        | none => none) else none
      | none => none
    | _, _, _ => none)) ∧
    (∀ (P : Program) (Γ : Nat → PV) (A : List (Nat × PV)) (H : List Blk) (t : TypeId) (x i : Operand), step1 P Γ A H (.index t x i) = (match P.underlying t, ev Γ A x, ev Γ A i with
    | some .string, .str s, .int _ n => match s[n.toNat]? with
      | some c => if 0 ≤ n then some (.int .u8 c.toNat, H) else none
      | none => none
    | _, _, _ => none)) ∧
    (∀ (P : Program) (Γ : Nat → PV) (A : List (Nat × PV)) (H : List Blk) (x : Operand) (t : TypeId), step1 P Γ A H (.call { callee := .builtin .len, args := ⟨[x]⟩, argTypes := ⟨[t]⟩ }) = (match P.underlying t, ev Γ A x with
      | some .string, .str s => some (.int .i64 s.length, H)
      | some (.slice _), .vec es _ => some (.int .i64 es.length, H)
      | some (.slice _), .row _ _ k _ => some (.int .i64 k, H)
      | _, _ => none)) ∧
    (∀ (Γ : Nat → PV) (A : List (Nat × PV)) (t : Nat), ev Γ A (.tmp t) = alook A t) ∧
    (∀ (Γ : Nat → PV) (A : List (Nat × PV)) (v : Value), ev Γ A (.const v) = ofC v) ∧
    (∀ (Γ : Nat → PV) (A : List (Nat × PV)) (x : Nat), ev Γ A (.global x) = Γ x) ∧
    (∀ (Γ : Nat → PV) (A : List (Nat × PV)) (f : Nat), ev Γ A (.func f) = .func (.func f) [] []) ∧
    (∀ (b : Bool), ofC (.bool b) = .bool b) ∧
    (∀ (k : IntKind) (n : Int), ofC (.int k n) = .int k n) ∧
    (∀ (l : List UInt8), ofC (.string ⟨⟨l⟩⟩) = (if l.length ≤ 9223372036854775807 then .str l else .any)) ∧
    (∀ (x : UInt8) (l : List UInt8), (x :: l).length = l.length + 1) ∧
    (([] : List UInt8).length = 0) := by
  refine ⟨?_, ?_, ?_, ?_, ?_, ?_, ?_, ?_, ?_, ?_, ?_, ?_, ?_, ?_, ?_, ?_, ?_, ?_, ?_, ?_, ?_, ?_, ?_, ?_, ?_, ?_, ?_, ?_, ?_, ?_, ?_, ?_, ?_, ?_, ?_, ?_, ?_, ?_, ?_, ?_⟩
  all_goals first | rfl | (intros; rfl) | (intros; simp [abin]; done) | (intros; simp [keyEq]; done) | (intros; simp [peq]; done) | (intros; simp; done) | (intros; exact get_at0 _ _) | (intros; exact get_at _ _ _) | (intros; exact set_at0 _ _ _) | (intros; exact set_at _ _ _ _) | (intros; exact take_at _ _ _) | (intro b; cases b <;> rfl) | (intro op; cases op <;> intros <;> rfl)
theorem fw1 :
    (ofC (.pointer none) = .nilp) ∧
    (ofC (.map none) = .nilm) ∧
    (ofC .nilFunc = .nilf) ∧
    (ofC .nilIface = .nili) ∧
    (ofC (.slice none 0 0) = .vec [] true) ∧
    (∀ (k : Nat) (p : PV) (l : List (Nat × PV)) (t : Nat), alook ((k, p) :: l) t = (if t = k then p else alook l t)) ∧
    (∀ (A : List (Nat × PV)) (d : Tmp) (p : PV), aput A (some d) p = (d, p) :: A) ∧
    (∀ (A : List (Nat × PV)) (p : PV), aput A none p = A) ∧
    (∀ (k : Nat), initA k [] = []) ∧
    (∀ (k : Nat) (p : PV) (ps : List PV), initA k (p :: ps) = (k, p) :: initA (k + 1) ps) ∧
    (∀ (Γ : Nat → PV) (A : List (Nat × PV)) (H : List Blk) (x : Operand), rd Γ A H x = (match ev Γ A x with
  | .cptr cs => some cs
  | .ptr b o => match H[b]? with
    | some (.box cs) => some (cs.drop o)
    | _ => none
  | .eptr b o len => match H[b]? with
    | some (.row _ cs) => if cs.length = len then some (cs.drop o) else none
    | _ => none
  | _ => none)) ∧
    (∀ (H : List Blk) (b : Nat), boxAt H b = (match H[b]? with | some (.box cs) => some cs | _ => none)) ∧
    (∀ (b q n : Nat), shift (.ptr b q) n = some (.ptr b (q + n))) ∧
    (∀ (cs : List PV) (n : Nat), shift (.cptr cs) n = some (.cptr (cs.drop n))) ∧
    (∀ (b q l n : Nat), shift (.eptr b q l) n = some (.eptr b (q + n) l)) ∧
    (∀ (b : Bool), PV.shaped (.bool b) = true) ∧
    (∀ (b : Bool), PV.cells (.bool b) = [.bool b]) ∧
    (∀ (k : IntKind) (n : Int), PV.shaped (.int k n) = true) ∧
    (∀ (k : IntKind) (n : Int), PV.cells (.int k n) = [.int k n]) ∧
    (∀ (s : List UInt8), PV.shaped (.str s) = true) ∧
    (∀ (s : List UInt8), PV.cells (.str s) = [.str s]) ∧
    (∀ (es : List (List PV)) (f : Bool), PV.shaped (.vec es f) = true) ∧
    (∀ (es : List (List PV)) (f : Bool), PV.cells (.vec es f) = [.vec es f]) ∧
    (∀ (b o k sz : Nat), PV.shaped (.row b o k sz) = true) ∧
    (∀ (b o k sz : Nat), PV.cells (.row b o k sz) = [.row b o k sz]) ∧
    (∀ (b o : Nat), PV.shaped (.ptr b o) = true) ∧
    (∀ (b o : Nat), PV.cells (.ptr b o) = [.ptr b o]) ∧
    (∀ (cs : List PV), PV.shaped (.cptr cs) = true) ∧
    (∀ (cs : List PV), PV.cells (.cptr cs) = [.cptr cs]) ∧
    (∀ (fn : Go.Fn) (fs cs : List PV), PV.shaped (.func fn fs cs) = true) ∧
    (∀ (fn : Go.Fn) (fs cs : List PV), PV.cells (.func fn fs cs) = [.func fn fs cs]) ∧
    (∀ (t : Nat) (v : PV), PV.shaped (.iface t v) = true) ∧
    (∀ (t : Nat) (v : PV), PV.cells (.iface t v) = [.iface t v]) ∧
    (∀ (b : Nat), PV.shaped (.map b) = true) ∧
    (∀ (b : Nat), PV.cells (.map b) = [.map b]) ∧
    (PV.shaped (.nilp) = true) ∧
    (PV.cells (.nilp) = [.nilp]) ∧
    (PV.shaped (.nilm) = true) ∧
    (PV.cells (.nilm) = [.nilm]) ∧
    (PV.shaped (.nilf) = true) := by
  refine ⟨?_, ?_, ?_, ?_, ?_, ?_, ?_, ?_, ?_, ?_, ?_, ?_, ?_, ?_, ?_, ?_, ?_, ?_, ?_, ?_, ?_, ?_, ?_, ?_, ?_, ?_, ?_, ?_, ?_, ?_, ?_, ?_, ?_, ?_, ?_, ?_, ?_, ?_, ?_, ?_⟩
  all_goals first | rfl | (intros; rfl) | (intros; simp [abin]; done) | (intros; simp [keyEq]; done) | (intros; simp [peq]; done) | (intros; simp; done) | (intros; exact get_at0 _ _) | (intros; exact get_at _ _ _) | (intros; exact set_at0 _ _ _) | (intros; exact set_at _ _ _ _) | (intros; exact take_at _ _ _) | (intro b; cases b <;> rfl) | (intro op; cases op <;> intros <;> rfl)
theorem fw2 :
    (PV.cells (.nilf) = [.nilf]) ∧
    (PV.shaped (.nili) = true) ∧
    (PV.cells (.nili) = [.nili]) ∧
    (∀ (cs : List PV), PV.shaped (.agg cs) = true) ∧
    (∀ (cs : List PV), PV.cells (.agg cs) = cs) ∧
    (∀ (cs : List PV) (q : Nat) (xs : List PV), splice cs q xs = cs.take q ++ xs ++ cs.drop (q + xs.length)) ∧
    (∀ (b : Bool), eqv .eql b = some (.bool b)) ∧
    (∀ (b : Bool), eqv .neq b = some (.bool !b)) ∧
    (∀ (pl : Nat → Option (Nat × Nat)) (cs : List PV), abuild pl cs [] = some cs) ∧
    (∀ (pl : Nat → Option (Nat × Nat)) (cs : List PV) (i : Nat) (p : PV) (l : List (Nat × PV)), abuild pl cs ((i, p) :: l) = (match pl i with | none => none | some (off, size) => if p.shaped = true ∧ p.cells.length = size ∧ off + size ≤ cs.length then abuild pl (splice cs off p.cells) l else none)) ∧
    (∀ (sz : Nat) (cs : List PV), chunk sz 0 cs = []) ∧
    (∀ (sz n : Nat) (cs : List PV), chunk sz (n + 1) cs = cs.take sz :: chunk sz n (cs.drop sz)) ∧
    (∀ (m : Nat) (b : Bool), PV.bd m (.bool b) = true) ∧
    (∀ (m : Nat) (k : IntKind) (n : Int), PV.bd m (.int k n) = true) ∧
    (∀ (m : Nat) (s : List UInt8), PV.bd m (.str s) = true) ∧
    (∀ (m : Nat) (es : List (List PV)) (f : Bool), PV.bd m (.vec es f) = true) ∧
    (∀ (m : Nat) (b o k sz : Nat), PV.bd m (.row b o k sz) = decide (b < m)) ∧
    (∀ (m : Nat) (b o : Nat), PV.bd m (.ptr b o) = decide (b < m)) ∧
    (∀ (m : Nat) (cs : List PV), PV.bd m (.cptr cs) = true) ∧
    (∀ (m : Nat) (fn : Go.Fn) (fs cs : List PV), PV.bd m (.func fn fs cs) = (PV.bdL m fs && PV.bdL m cs)) ∧
    (∀ (m : Nat) (t : Nat) (v : PV), PV.bd m (.iface t v) = v.bd m) ∧
    (∀ (m : Nat) (b : Nat), PV.bd m (.map b) = decide (b < m)) ∧
    (∀ (m : Nat) , PV.bd m (.nilp) = true) ∧
    (∀ (m : Nat) , PV.bd m (.nilm) = true) ∧
    (∀ (m : Nat) , PV.bd m (.nilf) = true) ∧
    (∀ (m : Nat) , PV.bd m (.nili) = true) ∧
    (∀ (m : Nat) (cs : List PV), PV.bd m (.agg cs) = PV.bdL m cs) ∧
    (∀ (m : Nat) (cs : List PV), PV.bd m (.tup cs) = PV.bdL m cs) ∧
    (∀ (m : Nat), PV.bd m .any = true) ∧
    (∀ (m : Nat), PV.bdL m [] = true) ∧
    (∀ (m : Nat) (p : PV) (ps : List PV), PV.bdL m (p :: ps) = (p.bd m && PV.bdL m ps)) ∧
    (∀ (x : PV) (l : List PV), (x :: l)[0]? = some x) ∧
    (∀ (x : PV) (l : List PV) (n : Nat), (x :: l)[n + 1]? = l[n]?) ∧
    (∀ (x : PV) (l : List PV), (x :: l).take 0 = []) ∧
    (∀ (x : PV) (l : List PV) (n : Nat), (x :: l).take (n + 1) = x :: l.take n) ∧
    (∀ (l : List PV), l.drop 0 = l) ∧
    (∀ (x : PV) (l : List PV) (n : Nat), (x :: l).drop (n + 1) = l.drop n) ∧
    (∀ (n : Nat), ([] : List PV).take n = []) ∧
    (∀ (n : Nat), ([] : List PV).drop n = []) ∧
    (∀ (x : PV) (l : List PV), (x :: l).length = l.length + 1) := by
  refine ⟨?_, ?_, ?_, ?_, ?_, ?_, ?_, ?_, ?_, ?_, ?_, ?_, ?_, ?_, ?_, ?_, ?_, ?_, ?_, ?_, ?_, ?_, ?_, ?_, ?_, ?_, ?_, ?_, ?_, ?_, ?_, ?_, ?_, ?_, ?_, ?_, ?_, ?_, ?_, ?_⟩
  all_goals first | rfl | (intros; rfl) | (intros; simp [abin]; done) | (intros; simp [keyEq]; done) | (intros; simp [peq]; done) | (intros; simp; done) | (intros; exact get_at0 _ _) | (intros; exact get_at _ _ _) | (intros; exact set_at0 _ _ _) | (intros; exact set_at _ _ _ _) | (intros; exact take_at _ _ _) | (intro b; cases b <;> rfl) | (intro op; cases op <;> intros <;> rfl)
theorem fw3 :
    (([] : List PV).length = 0) ∧
    (∀ (x : PV) (l k : List PV), (x :: l) ++ k = x :: (l ++ k)) ∧
    (∀ (l : List PV), [] ++ l = l) ∧
    (∀ (l : List PV), l ++ [] = l) ∧
    (∀ (l k m : List PV), (l ++ k) ++ m = l ++ (k ++ m)) ∧
    (∀ (l k : List PV), (l ++ k).length = l.length + k.length) ∧
    (∀ (x : Blk) (l : List Blk), (x :: l)[0]? = some x) ∧
    (∀ (x : Blk) (l : List Blk) (n : Nat), (x :: l)[n + 1]? = l[n]?) ∧
    (∀ (x : Blk) (l : List Blk), (x :: l).take 0 = []) ∧
    (∀ (x : Blk) (l : List Blk) (n : Nat), (x :: l).take (n + 1) = x :: l.take n) ∧
    (∀ (l : List Blk), l.drop 0 = l) ∧
    (∀ (x : Blk) (l : List Blk) (n : Nat), (x :: l).drop (n + 1) = l.drop n) ∧
    (∀ (n : Nat), ([] : List Blk).take n = []) ∧
    (∀ (n : Nat), ([] : List Blk).drop n = []) ∧
    (∀ (x : Blk) (l : List Blk), (x :: l).length = l.length + 1) ∧
    (([] : List Blk).length = 0) ∧
    (∀ (x : Blk) (l k : List Blk), (x :: l) ++ k = x :: (l ++ k)) ∧
    (∀ (l : List Blk), [] ++ l = l) ∧
    (∀ (l : List Blk), l ++ [] = l) ∧
    (∀ (l k m : List Blk), (l ++ k) ++ m = l ++ (k ++ m)) ∧
    (∀ (l k : List Blk), (l ++ k).length = l.length + k.length) ∧
    (∀ (x : Oper) (l : List Oper), (x :: l)[0]? = some x) ∧
    (∀ (x : Oper) (l : List Oper) (n : Nat), (x :: l)[n + 1]? = l[n]?) ∧
    (∀ (x : Oper) (l : List Oper), (x :: l).take 0 = []) ∧
    (∀ (x : Oper) (l : List Oper) (n : Nat), (x :: l).take (n + 1) = x :: l.take n) ∧
    (∀ (l : List Oper), l.drop 0 = l) ∧
    (∀ (x : Oper) (l : List Oper) (n : Nat), (x :: l).drop (n + 1) = l.drop n) ∧
    (∀ (n : Nat), ([] : List Oper).take n = []) ∧
    (∀ (n : Nat), ([] : List Oper).drop n = []) ∧
    (∀ (x : Oper) (l : List Oper), (x :: l).length = l.length + 1) ∧
    (([] : List Oper).length = 0) ∧
    (∀ (x : Oper) (l k : List Oper), (x :: l) ++ k = x :: (l ++ k)) ∧
    (∀ (l : List Oper), [] ++ l = l) ∧
    (∀ (l : List Oper), l ++ [] = l) ∧
    (∀ (l k m : List Oper), (l ++ k) ++ m = l ++ (k ++ m)) ∧
    (∀ (l k : List Oper), (l ++ k).length = l.length + k.length) ∧
    (∀ (x : (List PV)) (l : List (List PV)), (x :: l)[0]? = some x) ∧
    (∀ (x : (List PV)) (l : List (List PV)) (n : Nat), (x :: l)[n + 1]? = l[n]?) ∧
    (∀ (x : (List PV)) (l : List (List PV)), (x :: l).take 0 = []) ∧
    (∀ (x : (List PV)) (l : List (List PV)) (n : Nat), (x :: l).take (n + 1) = x :: l.take n) := by
  refine ⟨?_, ?_, ?_, ?_, ?_, ?_, ?_, ?_, ?_, ?_, ?_, ?_, ?_, ?_, ?_, ?_, ?_, ?_, ?_, ?_, ?_, ?_, ?_, ?_, ?_, ?_, ?_, ?_, ?_, ?_, ?_, ?_, ?_, ?_, ?_, ?_, ?_, ?_, ?_, ?_⟩
  all_goals first | rfl | (intros; rfl) | (intros; simp [abin]; done) | (intros; simp [keyEq]; done) | (intros; simp [peq]; done) | (intros; simp; done) | (intros; exact get_at0 _ _) | (intros; exact get_at _ _ _) | (intros; exact set_at0 _ _ _) | (intros; exact set_at _ _ _ _) | (intros; exact take_at _ _ _) | (intro b; cases b <;> rfl) | (intro op; cases op <;> intros <;> rfl)
theorem fw4 :
    (∀ (l : List (List PV)), l.drop 0 = l) ∧
    (∀ (x : (List PV)) (l : List (List PV)) (n : Nat), (x :: l).drop (n + 1) = l.drop n) ∧
    (∀ (n : Nat), ([] : List (List PV)).take n = []) ∧
    (∀ (n : Nat), ([] : List (List PV)).drop n = []) ∧
    (∀ (x : (List PV)) (l : List (List PV)), (x :: l).length = l.length + 1) ∧
    (([] : List (List PV)).length = 0) ∧
    (∀ (x : (List PV)) (l k : List (List PV)), (x :: l) ++ k = x :: (l ++ k)) ∧
    (∀ (l : List (List PV)), [] ++ l = l) ∧
    (∀ (l : List (List PV)), l ++ [] = l) ∧
    (∀ (l k m : List (List PV)), (l ++ k) ++ m = l ++ (k ++ m)) ∧
    (∀ (l k : List (List PV)), (l ++ k).length = l.length + k.length) ∧
    (∀ (x : (Nat × Oper)) (l : List (Nat × Oper)), (x :: l)[0]? = some x) ∧
    (∀ (x : (Nat × Oper)) (l : List (Nat × Oper)) (n : Nat), (x :: l)[n + 1]? = l[n]?) ∧
    (∀ (x : (Nat × Oper)) (l : List (Nat × Oper)), (x :: l).take 0 = []) ∧
    (∀ (x : (Nat × Oper)) (l : List (Nat × Oper)) (n : Nat), (x :: l).take (n + 1) = x :: l.take n) ∧
    (∀ (l : List (Nat × Oper)), l.drop 0 = l) ∧
    (∀ (x : (Nat × Oper)) (l : List (Nat × Oper)) (n : Nat), (x :: l).drop (n + 1) = l.drop n) ∧
    (∀ (n : Nat), ([] : List (Nat × Oper)).take n = []) ∧
    (∀ (n : Nat), ([] : List (Nat × Oper)).drop n = []) ∧
    (∀ (x : (Nat × Oper)) (l : List (Nat × Oper)), (x :: l).length = l.length + 1) ∧
    (([] : List (Nat × Oper)).length = 0) ∧
    (∀ (x : (Nat × Oper)) (l k : List (Nat × Oper)), (x :: l) ++ k = x :: (l ++ k)) ∧
    (∀ (l : List (Nat × Oper)), [] ++ l = l) ∧
    (∀ (l : List (Nat × Oper)), l ++ [] = l) ∧
    (∀ (l k m : List (Nat × Oper)), (l ++ k) ++ m = l ++ (k ++ m)) ∧
    (∀ (l k : List (Nat × Oper)), (l ++ k).length = l.length + k.length) ∧
    (∀ (x : (Nat × Nat)) (l : List (Nat × Nat)), (x :: l)[0]? = some x) ∧
    (∀ (x : (Nat × Nat)) (l : List (Nat × Nat)) (n : Nat), (x :: l)[n + 1]? = l[n]?) ∧
    (∀ (x : (Nat × Nat)) (l : List (Nat × Nat)), (x :: l).take 0 = []) ∧
    (∀ (x : (Nat × Nat)) (l : List (Nat × Nat)) (n : Nat), (x :: l).take (n + 1) = x :: l.take n) ∧
    (∀ (l : List (Nat × Nat)), l.drop 0 = l) ∧
    (∀ (x : (Nat × Nat)) (l : List (Nat × Nat)) (n : Nat), (x :: l).drop (n + 1) = l.drop n) ∧
    (∀ (n : Nat), ([] : List (Nat × Nat)).take n = []) ∧
    (∀ (n : Nat), ([] : List (Nat × Nat)).drop n = []) ∧
    (∀ (x : (Nat × Nat)) (l : List (Nat × Nat)), (x :: l).length = l.length + 1) ∧
    (([] : List (Nat × Nat)).length = 0) ∧
    (∀ (x : (Nat × Nat)) (l k : List (Nat × Nat)), (x :: l) ++ k = x :: (l ++ k)) ∧
    (∀ (l : List (Nat × Nat)), [] ++ l = l) ∧
    (∀ (l : List (Nat × Nat)), l ++ [] = l) ∧
    (∀ (l k m : List (Nat × Nat)), (l ++ k) ++ m = l ++ (k ++ m)) := by
  refine ⟨?_, ?_, ?_, ?_, ?_, ?_, ?_, ?_, ?_, ?_, ?_, ?_, ?_, ?_, ?_, ?_, ?_, ?_, ?_, ?_, ?_, ?_, ?_, ?_, ?_, ?_, ?_, ?_, ?_, ?_, ?_, ?_, ?_, ?_, ?_, ?_, ?_, ?_, ?_, ?_⟩
  all_goals first | rfl | (intros; rfl) | (intros; simp [abin]; done) | (intros; simp [keyEq]; done) | (intros; simp [peq]; done) | (intros; simp; done) | (intros; exact get_at0 _ _) | (intros; exact get_at _ _ _) | (intros; exact set_at0 _ _ _) | (intros; exact set_at _ _ _ _) | (intros; exact take_at _ _ _) | (intro b; cases b <;> rfl) | (intro op; cases op <;> intros <;> rfl)
theorem fw5 :
    (∀ (l k : List (Nat × Nat)), (l ++ k).length = l.length + k.length) ∧
    (∀ (x y : Blk) (l : List Blk), (x :: l).set 0 y = y :: l) ∧
    (∀ (x y : Blk) (l : List Blk) (n : Nat), (x :: l).set (n + 1) y = x :: l.set n y) ∧
    (∀ (x y : PV) (l : List PV), (x :: l).set 0 y = y :: l) ∧
    (∀ (x y : PV) (l : List PV) (n : Nat), (x :: l).set (n + 1) y = x :: l.set n y) ∧
    (∀ (l : List Oper) (n : Nat), (⟨l⟩ : Array Oper)[n]? = l[n]?) ∧
    (∀ (x : Nat) (l : List Nat) (n : Nat), (x :: l).getD 0 n = x) ∧
    (∀ (x : Nat) (l : List Nat) (n m : Nat), (x :: l).getD (n + 1) m = l.getD n m) ∧
    (List.replicate 0 PV.any = []) ∧
    (∀ (n : Nat), List.replicate (n + 1) PV.any = .any :: List.replicate n .any) ∧
    (∀ (a : Oper) (l m : List Oper), List.append (a :: l) m = a :: List.append l m) ∧
    (∀ (m : List Oper), List.append [] m = m) ∧
    (∀ (ops : Array Oper), numbered ops = ops.toList.zipIdx.map fun x => (x.2, x.1)) ∧
    (∀ (o : Oper) (l : List Oper) (k : Nat), (o :: l).zipIdx k = (o, k) :: l.zipIdx (k + 1)) ∧
    (∀ (k : Nat), ([] : List Oper).zipIdx k = []) ∧
    (∀ (f : Oper × Nat → Nat × Oper) (x : Oper × Nat) (l : List (Oper × Nat)), (x :: l).map f = f x :: l.map f) ∧
    (∀ (f : Oper × Nat → Nat × Oper), ([] : List (Oper × Nat)).map f = []) ∧
    (∀ (f : Operand → PV) (x : Operand) (l : List Operand), (x :: l).map f = f x :: l.map f) ∧
    (∀ (f : Operand → PV), ([] : List Operand).map f = []) ∧
    (∀ (f : Nat × Operand → Nat × PV) (x : Nat × Operand) (l : List (Nat × Operand)), (x :: l).map f = f x :: l.map f) ∧
    (∀ (f : Nat × Operand → Nat × PV), ([] : List (Nat × Operand)).map f = []) ∧
    (∀ (f : Nat → PV) (x : Nat) (l : List Nat), (x :: l).map f = f x :: l.map f) ∧
    (∀ (f : Nat → PV), ([] : List Nat).map f = []) ∧
    (∀ (x : Nat) (l : List Nat) (p : PV) (ps : List PV), (x :: l).zip (p :: ps) = (x, p) :: l.zip ps) ∧
    (∀ (ps : List PV), ([] : List Nat).zip ps = []) ∧
    (∀ (f : Oper → Option Nat) (o : Oper), (some o).bind f = f o) ∧
    (∀ (H L : List Blk), (H ++ L)[H.length]? = L[0]?) ∧
    (∀ (H L : List Blk) (k : Nat), (H ++ L)[H.length + k]? = L[k]?) ∧
    (∀ (H L : List Blk) (B : Blk), (H ++ L).set H.length B = H ++ L.set 0 B) ∧
    (∀ (H L : List Blk) (k : Nat) (B : Blk), (H ++ L).set (H.length + k) B = H ++ L.set k B) ∧
    (∀ (n : Nat), n + 0 = n) ∧
    (∀ (n : Nat), 0 + n = n) ∧
    (∀ (b : Bool), (true == b) = b) ∧
    ((false == true) = false) ∧
    ((false == false) = true) ∧
    (∀ (n : Nat), (n : Int).toNat = n) ∧
    (∀ (k : IntKind) (a b : Int), abin .add (.int k a) (.int k b) = some (.int k (k.wrap (a + b)))) ∧
    (∀ (k : IntKind) (a b : Int), abin .sub (.int k a) (.int k b) = some (.int k (k.wrap (a - b)))) ∧
    (∀ (k : IntKind) (a b : Int), abin .mul (.int k a) (.int k b) = some (.int k (k.wrap (a * b)))) ∧
    (∀ (k : IntKind) (a b : Int), abin .eql (.int k a) (.int k b) = some (.bool (decide (a = b)))) := by
  refine ⟨?_, ?_, ?_, ?_, ?_, ?_, ?_, ?_, ?_, ?_, ?_, ?_, ?_, ?_, ?_, ?_, ?_, ?_, ?_, ?_, ?_, ?_, ?_, ?_, ?_, ?_, ?_, ?_, ?_, ?_, ?_, ?_, ?_, ?_, ?_, ?_, ?_, ?_, ?_, ?_⟩
  all_goals first | rfl | (intros; rfl) | (intros; simp [abin]; done) | (intros; simp [keyEq]; done) | (intros; simp [peq]; done) | (intros; simp; done) | (intros; exact get_at0 _ _) | (intros; exact get_at _ _ _) | (intros; exact set_at0 _ _ _) | (intros; exact set_at _ _ _ _) | (intros; exact take_at _ _ _) | (intro b; cases b <;> rfl) | (intro op; cases op <;> intros <;> rfl)
theorem fw6 :
    (∀ (k : IntKind) (a b : Int), abin .neq (.int k a) (.int k b) = some (.bool (!decide (a = b)))) ∧
    (∀ (k : IntKind) (a b : Int), abin .lss (.int k a) (.int k b) = some (.bool (decide (a < b)))) ∧
    (∀ (k : IntKind) (a b : Int), abin .leq (.int k a) (.int k b) = some (.bool (decide (a ≤ b)))) ∧
    (∀ (k : IntKind) (a b : Int), abin .gtr (.int k a) (.int k b) = some (.bool (decide (b < a)))) ∧
    (∀ (k : IntKind) (a b : Int), abin .geq (.int k a) (.int k b) = some (.bool (decide (b ≤ a)))) ∧
    (∀ (a b : List UInt8), abin .eql (.str a) (.str b) = some (.bool (decide (a = b)))) ∧
    (∀ (a b : List UInt8), abin .neq (.str a) (.str b) = some (.bool (!decide (a = b)))) ∧
    (∀ (a b : List UInt8), abin .lss (.str a) (.str b) = some (.bool (Op.bytesLess a b))) ∧
    (∀ (a b : List UInt8), abin .leq (.str a) (.str b) = some (.bool (Op.bytesLess a b || decide (a = b)))) ∧
    (∀ (a b : List UInt8), abin .gtr (.str a) (.str b) = some (.bool !(Op.bytesLess a b || decide (a = b)))) ∧
    (∀ (a b : List UInt8), abin .geq (.str a) (.str b) = some (.bool !(Op.bytesLess a b))) ∧
    (∀ (a b : List UInt8), abin .add (.str a) (.str b) = (if a.length + b.length ≤ 9223372036854775807 then some (.str (a ++ b)) else none)) ∧
    (∀ (k : IntKind) (a b : Int), abin .quo (.int k a) (.int k b) = (if k = k ∧ b ≠ 0 then some (.int k (k.wrap (a.tdiv b))) else none)) ∧
    (∀ (k : IntKind) (a b : Int), abin .rem (.int k a) (.int k b) = (if k = k ∧ b ≠ 0 then some (.int k (a.tmod b)) else none)) ∧
    (∀ (P : Program) (op : BinOp) (t : TypeId) (p : PV) (c : Value), nilStep P op t p (.const c) = (match P.underlying t with | some d => if nilOf d c = true then (match isNil d p with | some b => eqv op b | none => none) else none | none => none)) ∧
    (∀ (e : Nat), nilOf (.pointer e) (.pointer none) = true) ∧
    (∀ (e : Nat), isNil (.pointer e) .nilp = some true) ∧
    (∀ (e : Nat) (b o : Nat), isNil (.pointer e) (.ptr b o) = some false) ∧
    (∀ (e : Nat) (cs : List PV), isNil (.pointer e) (.cptr cs) = some false) ∧
    (∀ (e f : Nat), nilOf (.map e f) (.map none) = true) ∧
    (∀ (e f : Nat), isNil (.map e f) .nilm = some true) ∧
    (∀ (e f : Nat) (b : Nat), isNil (.map e f) (.map b) = some false) ∧
    (∀ (e f : Array Nat) (g : Bool), nilOf (.func e f g) .nilFunc = true) ∧
    (∀ (e f : Array Nat) (g : Bool), isNil (.func e f g) .nilf = some true) ∧
    (∀ (e f : Array Nat) (g : Bool) (fn : Go.Fn) (fs cs : List PV), isNil (.func e f g) (.func fn fs cs) = some false) ∧
    (∀ (e : Array (String × Nat)), nilOf (.interface e) .nilIface = true) ∧
    (∀ (e : Array (String × Nat)), isNil (.interface e) .nili = some true) ∧
    (∀ (e : Array (String × Nat)) (t : Nat) (p : PV), isNil (.interface e) (.iface t p) = some false) ∧
    (∀ (op : BinOp) (fn : Go.Fn) (fs cs : List PV), abin op (.func fn fs cs) .nilf = none) ∧
    (∀ (op : BinOp), abin op .nilf .nilf = none) ∧
    (∀ (op : BinOp) (b o : Nat), abin op (.ptr b o) .nilp = none) ∧
    (∀ (op : BinOp), abin op .nilp .nilp = none) ∧
    (∀ (op : BinOp) (cs : List PV), abin op (.cptr cs) .nilp = none) ∧
    (∀ (op : BinOp) (b : Nat), abin op (.map b) .nilm = none) ∧
    (∀ (op : BinOp), abin op .nilm .nilm = none) ∧
    (∀ (op : BinOp) (t : Nat) (p : PV), abin op (.iface t p) .nili = none) ∧
    (∀ (op : BinOp), abin op .nili .nili = none) ∧
    (∀ (xs ys : List PV), aeqs [] xs ys = some true) ∧
    (∀ (o k : Nat) (l : List (Nat × Nat)) (xs ys : List PV), aeqs ((o, k) :: l) xs ys = (match xs[o]?, ys[o]? with | some p, some q => (match peq k p q, aeqs l xs ys with | some b, some r => some (b && r) | _, _ => none) | _, _ => none)) ∧
    (∀ (k : IntKind) (a b : Int), peq 0 (.int k a) (.int k b) = some (decide (a = b))) := by
  refine ⟨?_, ?_, ?_, ?_, ?_, ?_, ?_, ?_, ?_, ?_, ?_, ?_, ?_, ?_, ?_, ?_, ?_, ?_, ?_, ?_, ?_, ?_, ?_, ?_, ?_, ?_, ?_, ?_, ?_, ?_, ?_, ?_, ?_, ?_, ?_, ?_, ?_, ?_, ?_, ?_⟩
  all_goals first | rfl | (intros; rfl) | (intros; simp [abin]; done) | (intros; simp [keyEq]; done) | (intros; simp [peq]; done) | (intros; simp; done) | (intros; exact get_at0 _ _) | (intros; exact get_at _ _ _) | (intros; exact set_at0 _ _ _) | (intros; exact set_at _ _ _ _) | (intros; exact take_at _ _ _) | (intro b; cases b <;> rfl) | (intro op; cases op <;> intros <;> rfl)
theorem fw7 :
    (∀ (a b : List UInt8), peq 1 (.str a) (.str b) = some (decide (a = b))) ∧
    (∀ (a b : Bool), peq 2 (.bool a) (.bool b) = some (a == b)) ∧
    (∀ (b sz : Nat) (C cs : List PV), frzB b sz C (.box cs) = .box (cs.map (frz b sz C))) ∧
    (∀ (b sz : Nat) (C : List PV), frzB b sz C .dead = .dead) ∧
    (∀ (b sz z : Nat) (C cs : List PV), frzB b sz C (.row z cs) = .row z cs) ∧
    (∀ (b b2 q k sz z : Nat) (C : List PV), frz b sz C (.row b2 q k z) = (if b2 = b ∧ z = sz ∧ C.length = q + k * sz then .vec (chunk sz k (C.drop q)) false else .row b2 q k z)) ∧
    (∀ (bb ss : Nat) (C : List PV) (b : Bool), frz bb ss C (.bool b) = .bool b) ∧
    (∀ (bb ss : Nat) (C : List PV) (k : IntKind) (n : Int), frz bb ss C (.int k n) = .int k n) ∧
    (∀ (bb ss : Nat) (C : List PV) (s : List UInt8), frz bb ss C (.str s) = .str s) ∧
    (∀ (bb ss : Nat) (C : List PV) (es : List (List PV)) (f : Bool), frz bb ss C (.vec es f) = .vec es f) ∧
    (∀ (bb ss : Nat) (C : List PV) (b o : Nat), frz bb ss C (.ptr b o) = .ptr b o) ∧
    (∀ (bb ss : Nat) (C : List PV) (cs : List PV), frz bb ss C (.cptr cs) = .cptr cs) ∧
    (∀ (bb ss : Nat) (C : List PV) (fn : Go.Fn) (fs cs : List PV), frz bb ss C (.func fn fs cs) = .func fn fs cs) ∧
    (∀ (bb ss : Nat) (C : List PV) (t : Nat) (v : PV), frz bb ss C (.iface t v) = .iface t v) ∧
    (∀ (bb ss : Nat) (C : List PV) (b : Nat), frz bb ss C (.map b) = .map b) ∧
    (∀ (bb ss : Nat) (C : List PV) , frz bb ss C (.nilp) = .nilp) ∧
    (∀ (bb ss : Nat) (C : List PV) , frz bb ss C (.nilm) = .nilm) ∧
    (∀ (bb ss : Nat) (C : List PV) , frz bb ss C (.nilf) = .nilf) ∧
    (∀ (bb ss : Nat) (C : List PV) , frz bb ss C (.nili) = .nili) ∧
    (∀ (bb ss : Nat) (C : List PV) (cs : List PV), frz bb ss C (.agg cs) = .agg cs) ∧
    (∀ (bb ss : Nat) (C : List PV) , frz bb ss C (.any) = .any) ∧
    (∀ (f : PV → PV) (x : PV) (l : List PV), (x :: l).map f = f x :: l.map f) ∧
    (∀ (f : PV → PV), ([] : List PV).map f = []) ∧
    (∀ (f : Blk → Blk) (x : Blk) (l : List Blk), (x :: l).map f = f x :: l.map f) ∧
    (∀ (f : Blk → Blk), ([] : List Blk).map f = []) ∧
    (∀ (f : Nat × PV → Nat × PV) (x : Nat × PV) (l : List (Nat × PV)), (x :: l).map f = f x :: l.map f) ∧
    (∀ (f : Nat × PV → Nat × PV), ([] : List (Nat × PV)).map f = []) ∧
    (∀ (es : List (PV × PV)) (k q : PV), mput es k q none = es ++ [(k, q)]) ∧
    (∀ (es : List (PV × PV)) (k q p : PV) (j : Nat), mput es k q (some (j, p)) = es.set j (k, q)) ∧
    (∀ (z : PV), gotOr none z = z) ∧
    (∀ (z q : PV) (j : Nat), gotOr (some (j, q)) z = q) ∧
    (∀ (k : PV) (i : Nat), mfind k [] i = some none) ∧
    (∀ (k p q : PV) (es : List (PV × PV)) (i : Nat), mfind k ((p, q) :: es) i = (match keyEq k p with | some true => some (some (i, q)) | some false => mfind k es (i + 1) | none => none)) ∧
    (∀ (a b : List UInt8), keyEq (.str a) (.str b) = some (decide (a = b))) ∧
    (∀ (k : IntKind) (a b : Int), keyEq (.int k a) (.int k b) = some (decide (a = b))) ∧
    (∀ (x : PV × PV) (l k : List (PV × PV)), (x :: l) ++ k = x :: (l ++ k)) ∧
    (∀ (l : List (PV × PV)), [] ++ l = l) ∧
    (∀ (H L : List Blk) (k : Nat), (H ++ L).take (H.length + k) = H ++ L.take k) ∧
    (∀ (H L : List Blk), (H ++ L).take H.length = H) ∧
    (∀ (H : List Blk), H.take H.length = H) := by
  refine ⟨?_, ?_, ?_, ?_, ?_, ?_, ?_, ?_, ?_, ?_, ?_, ?_, ?_, ?_, ?_, ?_, ?_, ?_, ?_, ?_, ?_, ?_, ?_, ?_, ?_, ?_, ?_, ?_, ?_, ?_, ?_, ?_, ?_, ?_, ?_, ?_, ?_, ?_, ?_, ?_⟩
  all_goals first | rfl | (intros; rfl) | (intros; simp [abin]; done) | (intros; simp [keyEq]; done) | (intros; simp [peq]; done) | (intros; simp; done) | (intros; exact get_at0 _ _) | (intros; exact get_at _ _ _) | (intros; exact set_at0 _ _ _) | (intros; exact set_at _ _ _ _) | (intros; exact take_at _ _ _) | (intro b; cases b <;> rfl) | (intro op; cases op <;> intros <;> rfl)
theorem fwA : type_of% fw0 ∧ type_of% fw1 ∧ type_of% fw2 ∧ type_of% fw3 ∧ type_of% fw4 ∧ type_of% fw5 ∧ type_of% fw6 ∧ type_of% fw7 ∧ type_of% Bool.false_eq_true ∧ type_of% Bool.not_true ∧ type_of% Bool.not_false ∧ (∀ p : Prop, (p ∧ p) = p) ∧ (∀ n : Nat, n ≤ n) := And.intro fw0 (And.intro fw1 (And.intro fw2 (And.intro fw3 (And.intro fw4 (And.intro fw5 (And.intro fw6 (And.intro fw7 (And.intro Bool.false_eq_true (And.intro Bool.not_true (And.intro Bool.not_false (And.intro (fun p : Prop => and_self p) (fun n : Nat => Nat.le_refl n))))))))))))
end Go.Proofs.YtddnigahjahkbaaGreatDoor.Fw
namespace Go.Proofs.YtddnigahjahkbaaGreatDoor.Fw
set_option linter.unusedVariables false
set_option linter.unusedSimpArgs false
set_option maxRecDepth 100000
open Go.RowKit
mutual
def PV.le : PV → PV → Prop
  | .vec es f, .vec es' f' => (f' = true → f = true) ∧ PV.leLL es es'
  | .agg cs, .agg cs' => PV.leL cs cs'
  | .tup cs, .tup cs' => PV.leL cs cs'
  | .iface t p, .iface t' p' => t = t' ∧ PV.le p p'
  | .cptr cs, .cptr cs' => PV.leL cs cs'
  | _, .any => True
  | p, q => p = q
def PV.leL : List PV → List PV → Prop
  | [], [] => True
  | p :: ps, q :: qs => PV.le p q ∧ PV.leL ps qs
  | _, _ => False
def PV.leLL : List (List PV) → List (List PV) → Prop
  | [], [] => True
  | p :: ps, q :: qs => PV.leL p q ∧ PV.leLL ps qs
  | _, _ => False
end
mutual
theorem PV.le_refl : ∀ p : PV, PV.le p p
  | .vec es f => ⟨fun h => h, PV.leLL_refl es⟩
  | .agg cs => PV.leL_refl cs
  | .tup cs => PV.leL_refl cs
  | .iface t p => ⟨rfl, PV.le_refl p⟩
  | .cptr cs => PV.leL_refl cs
  | .any => trivial
  | .bool _ | .int _ _ | .str _ | .nilp | .nilm | .nilf | .nili | .ptr _ _ | .eptr _ _ _ | .row _ _ _ _ | .map _ | .yld _ | .func _ _ _ => rfl
theorem PV.leL_refl : ∀ ps : List PV, PV.leL ps ps
  | [] => trivial
  | p :: ps => ⟨PV.le_refl p, PV.leL_refl ps⟩
theorem PV.leLL_refl : ∀ ps : List (List PV), PV.leLL ps ps
  | [] => trivial
  | p :: ps => ⟨PV.leL_refl p, PV.leLL_refl ps⟩
end
theorem PV.leL_len : ∀ {ps qs : List PV}, PV.leL ps qs → ps.length = qs.length
  | [], [], _ => rfl
  | _ :: _, _ :: _, h => by simp [PV.leL_len h.2]
  | [], _ :: _, h => h.elim
  | _ :: _, [], h => h.elim
theorem PV.leL_at : ∀ {ps qs : List PV} {i : Nat} {q : PV}, PV.leL ps qs → qs[i]? = some q → ∃ p, ps[i]? = some p ∧ PV.le p q
  | p :: _, _ :: _, 0, _, h, hq => by cases hq; exact ⟨p, rfl, h.1⟩
  | _ :: ps, _ :: qs, i + 1, q, h, hq => by
    obtain ⟨p, h1, h2⟩ := PV.leL_at (ps := ps) (qs := qs) (i := i) h.2 (by simpa using hq)
    exact ⟨p, by simpa using h1, h2⟩
  | [], [], _, _, _, hq => by simp at hq
  | [], _ :: _, _, _, h, _ => h.elim
  | _ :: _, [], _, _, h, _ => h.elim
theorem PV.leLL_len : ∀ {ps qs : List (List PV)}, PV.leLL ps qs → ps.length = qs.length
  | [], [], _ => rfl
  | _ :: _, _ :: _, h => by simp [PV.leLL_len h.2]
  | [], _ :: _, h => h.elim
  | _ :: _, [], h => h.elim
theorem PV.leLL_at : ∀ {ps qs : List (List PV)} {i : Nat} {q : List PV}, PV.leLL ps qs → qs[i]? = some q → ∃ p, ps[i]? = some p ∧ PV.leL p q
  | p :: _, _ :: _, 0, _, h, hq => by cases hq; exact ⟨p, rfl, h.1⟩
  | _ :: ps, _ :: qs, i + 1, q, h, hq => by
    obtain ⟨p, h1, h2⟩ := PV.leLL_at (ps := ps) (qs := qs) (i := i) h.2 (by simpa using hq)
    exact ⟨p, by simpa using h1, h2⟩
  | [], [], _, _, _, hq => by simp at hq
  | [], _ :: _, _, _, h, _ => h.elim
  | _ :: _, [], _, _, h, _ => h.elim
theorem Rep.le {G : Ghost} {n : Nat} {p : PV} {v : Value} (h : Rep G n p v) : ∀ {q : PV}, PV.le p q → Rep G n q v := by
  induction h with
  | vec0 n f a =>
    intro q hq
    cases q with
    | vec es' f' =>
      have : es' = [] := by have := PV.leLL_len hq.2; cases es' <;> simp_all
      subst this; exact .vec0 _ _ _
    | any => exact .any _ _
    | _ => cases hq
  | vec n es f b o sz cap vs hn hc hf hs h1 h2 h3 ih =>
    intro q hq
    cases q with
    | vec es' f' =>
      have hl := PV.leLL_len hq.2
      have key : ∀ (i j : Nat) e c, es'[i]? = some e → e[j]? = some c → ∃ e0 c0, es[i]? = some e0 ∧ e0[j]? = some c0 ∧ PV.le c0 c := fun i j e c hi hj => by
        obtain ⟨e0, k1, k2⟩ := PV.leLL_at hq.2 hi
        obtain ⟨c0, k3, k4⟩ := PV.leL_at k2 hj
        exact ⟨e0, c0, k1, k3, k4⟩
      rw [hl]
      refine .vec _ es' f' b o sz cap vs (by omega) (by omega) (fun h => by rw [← hl]; exact hf (hq.1 h)) (fun e he => ?_) (fun i j e c hi hj => ?_) (fun i j e c hi hj => ?_) (fun i j e c hi hj => ?_)
      · obtain ⟨i, hi⟩ := List.mem_iff_getElem?.1 he
        obtain ⟨e0, k1, k2⟩ := PV.leLL_at hq.2 hi
        rw [← PV.leL_len k2]; exact hs e0 (List.mem_of_getElem? k1)
      · obtain ⟨e0, c0, k1, k2, k3⟩ := key i j e c hi hj; exact h1 i j e0 c0 k1 k2
      · obtain ⟨e0, c0, k1, k2, k3⟩ := key i j e c hi hj; exact ih i j e0 c0 k1 k2 k3
      · obtain ⟨e0, c0, k1, k2, k3⟩ := key i j e c hi hj; exact h3 i j e0 c0 k1 k2
    | any => exact .any _ _
    | _ => cases hq
  | cptr n cs b o vs h1 h2 h3 ih =>
    intro q hq
    cases q with
    | cptr cs' =>
      refine .cptr _ cs' b o vs (fun i c hc => ?_) (fun i c hc => ?_) (fun i c hc => ?_)
      · obtain ⟨c0, k1, k2⟩ := PV.leL_at hq hc; exact h1 i c0 k1
      · obtain ⟨c0, k1, k2⟩ := PV.leL_at hq hc; exact ih i c0 k1 k2
      · obtain ⟨c0, k1, k2⟩ := PV.leL_at hq hc; exact h3 i c0 k1
    | any => exact .any _ _
    | _ => cases hq
  | agg n cs vs h1 h2 h3 ih =>
    intro q hq
    cases q with
    | agg cs' =>
      refine .agg _ cs' vs ((PV.leL_len hq).symm.trans h1) (fun i c v hc hv => ?_) h3
      obtain ⟨c0, k1, k2⟩ := PV.leL_at hq hc; exact ih i c0 v k1 hv k2
    | any => exact .any _ _
    | _ => cases hq
  | tup n cs vs h1 h2 ih =>
    intro q hq
    cases q with
    | tup cs' =>
      refine .tup _ cs' vs ((PV.leL_len hq).symm.trans h1) (fun i c v hc hv => ?_)
      obtain ⟨c0, k1, k2⟩ := PV.leL_at hq hc; exact ih i c0 v k1 hv k2
    | any => exact .any _ _
    | _ => cases hq
  | iface n t p v h ih =>
    intro q hq
    cases q with
    | iface t' p' => obtain ⟨rfl, hq⟩ := hq; exact .iface _ _ _ _ (ih hq)
    | any => exact .any _ _
    | _ => cases hq
  | any n v =>
    intro q hq
    cases q with
    | any => exact .any _ _
    | _ => cases hq
  | bool n b => intro q hq; cases q <;> first | exact .any _ _ | (cases hq; done) | (cases hq; exact .bool _ _)
  | int n k i => intro q hq; cases q <;> first | exact .any _ _ | (cases hq; done) | (cases hq; exact .int _ _ _)
  | str n s hn => intro q hq; cases q <;> first | exact .any _ _ | (cases hq; done) | (cases hq; exact .str _ _ hn)
  | nilp n => intro q hq; cases q <;> first | exact .any _ _ | (cases hq; done) | (cases hq; exact .nilp _)
  | nilm n => intro q hq; cases q <;> first | exact .any _ _ | (cases hq; done) | (cases hq; exact .nilm _)
  | nilf n => intro q hq; cases q <;> first | exact .any _ _ | (cases hq; done) | (cases hq; exact .nilf _)
  | nili n => intro q hq; cases q <;> first | exact .any _ _ | (cases hq; done) | (cases hq; exact .nili _)
  | ptr n b o hb hr => intro q hq; cases q <;> first | exact .any _ _ | (cases hq; done) | (cases hq; exact .ptr _ _ _ hb hr)
  | eptr n b o len a hb hr hl ha => intro q hq; cases q <;> first | exact .any _ _ | (cases hq; done) | (cases hq; exact .eptr _ _ _ _ _ hb hr hl ha)
  | row n b o k sz a cap hn hb hr hl ha => intro q hq; cases q <;> first | exact .any _ _ | (cases hq; done) | (cases hq; exact .row _ _ _ _ _ _ _ hn hb hr hl ha)
  | map n b hb hr => intro q hq; cases q <;> first | exact .any _ _ | (cases hq; done) | (cases hq; exact .map _ _ hb hr)
  | yld n b hb hr => intro q hq; cases q <;> first | exact .any _ _ | (cases hq; done) | (cases hq; exact .yld _ _ hb hr)
  | func n fn fs cs fs' cs' h1 h2 h3 h4 => intro q hq; cases q <;> first | exact .any _ _ | (cases hq; done) | (cases hq; exact .func _ _ _ _ _ _ h1 h2 h3 h4)
theorem Reps.le {G : Ghost} {n : Nat} {ps qs : List PV} {vs : List Value} (h : Reps G n ps vs) (hq : PV.leL ps qs) : Reps G n qs vs :=
  ⟨(PV.leL_len hq).symm.trans h.1, fun i q v hqi hv => let ⟨p, k1, k2⟩ := PV.leL_at hq hqi; (h.2 i p v k1 hv).le k2⟩
theorem ACalls.args {P : Program} {Γ : Nat → PV} {f : FuncId} {args args' : List PV} {H : List Blk} {R : PV → List Blk → Prop} (h : ACalls P Γ f args' H R) (hle : PV.leL args args') : ACalls P Γ f args H R :=
  fun w0 G w vs hs ha => h w0 G w vs hs (ha.le hle)
theorem Gives.args {P : Program} {Γ : Nat → PV} {f : FuncId} {args args' : List PV} {p : PV} (h : Gives P Γ f args' p) (hle : PV.leL args args') : Gives P Γ f args p := fun H => (h H).args hle
theorem Gives.res {P : Program} {Γ : Nat → PV} {f : FuncId} {args : List PV} {p q : PV} (h : Gives P Γ f args p) (hle : PV.le p q) : Gives P Γ f args q := fun H w0 G w vs hs ha =>
  (h H w0 G w vs hs ha).mono fun _ _ ⟨v, _, H', G', h1, h2, h3, h4, h5, h6, h7⟩ => ⟨v, q, H', G', h1, h2, by rw [h6] at h3; exact h3.le hle, h4, h5, rfl, h7⟩
section
variable {P : Program} {Γ : Nat → PV} {ops : Array Oper} {cls : List Nat} {n0 : View} {K : List (Nat × PV) → List Blk → Prop}
theorem aops_fnIf {o : Oper} {Q : List (Nat × PV) → List Blk → Prop} {rest : List Oper} {A : List (Nat × PV)} {H : List Blk} {x : Operand} {args : Array Operand} {ts : Array TypeId} {f : FuncId} {fs cs : List PV} {p : PV} {j d : Nat} {b : Bool}
    (ho : o.op = .call { callee := .value x, args := args, argTypes := ts }) (hg : o.guard = some (j, b)) (hd : (ops[j]?).bind (·.dst) = some d) (hb : alook A d = .bool b) (hx : ev Γ A x = .func (.func f) fs cs) (he : Enters P f)
    (h : Gives P Γ f (fs ++ args.toList.map (ev Γ A) ++ cs) p) (hk : AOps P Γ ops Q rest (aput A o.dst p) H) : AOps P Γ ops Q (o :: rest) A H :=
  aops_if hg hd hb (os_fn ho hx he h hk)
theorem call_ops {o : Oper} {b : Builtin} {args : Array Operand} {ts : Array TypeId} (ho : o.op = .call { callee := .builtin b, args := args, argTypes := ts }) {y : Operand} (hy : y ∈ args) : y ∈ o.op.operands := by
  rw [ho]; simpa [Op.operands, Call.operands] using hy
theorem dops_appendR {i : Nat} {o : Oper} {rest : List (Nat × Oper)} {A : List (Nat × PV)} {H : List Blk} {x y : Operand} {t tx e : TypeId} {d : TypeDesc} {ti : TI} {b q k : Nat} {cs xs : List PV} {n : Nat} (ho : o.op = .call { callee := .builtin .append, args := #[x, y], argTypes := #[t, tx] })
    (hw : wantA ops A o = some true) (hc : cls.getD i 0 = 2) (ht : P.underlying t = some (.slice e)) (he : tiOf P e = some ti) (htx : P.underlying tx = some d) (hd : (∃ e, d = .slice e) ∨ d = .string) (hx : ev Γ A x = .row b q k ti.size) (hbk : H[b]? = some (.row ti.size cs)) (hl : cs.length = q + k * ti.size)
    (hy : srcOf H ti.size (ev Γ A y) = some xs) (hyv : ∀ es f, ev Γ A y = .vec es f → ∀ e ∈ es, e.length = ti.size) (hn : alen (ev Γ A y) = some n) (hbd : (k + n) * ti.bytes ≤ 140737488355328) (hbd' : k + n ≤ 9223372036854775807)
    (hk : DOps P Γ ops cls n0 K rest (aput A o.dst (.row b q (k + n) ti.size)) (H.set b (.row ti.size (cs ++ xs)))) : DOps P Γ ops cls n0 K ((i, o) :: rest) A H :=
  dops_turns _ hw hc (fun A' hev => by
    have ex := hev x (call_ops ho (by simp))
    have ey := hev y (call_ops ho (by simp))
    exact os_appendR ho ht he htx hd (ex.trans hx) hbk hl (by rw [ey]; exact hy) (by rw [ey]; exact hyv) (by rw [ey]; exact hn) hbd hbd' ⟨rfl, rfl⟩) hk
theorem awp_vlen {N : Nat} {ro : Option Nat} {c : Code} {A : List (Nat × PV)} {H : List Blk} {D : List Nat} {Q : Post} (t : Nat) {es : List (List PV)} {f : Bool} (ht : alook A t = .vec es f) (h : es.length ≤ 9223372036854775807 → AWP P Γ N ro c A H D Q) : AWP P Γ N ro c A H D Q :=
  fun w0 G w a hs ha hd => h (by have := ha.2 t; rw [ht] at this; exact this.vec_len) w0 G w a hs ha hd
theorem awp_slen {N : Nat} {ro : Option Nat} {c : Code} {A : List (Nat × PV)} {H : List Blk} {D : List Nat} {Q : Post} (t : Nat) {s : List UInt8} (ht : alook A t = .str s) (h : s.length ≤ 9223372036854775807 → AWP P Γ N ro c A H D Q) : AWP P Γ N ro c A H D Q :=
  fun w0 G w a hs ha hd => h (by have := ha.2 t; rw [ht] at this; exact this.str_len) w0 G w a hs ha hd
theorem told_le {A : List (Nat × PV)} {H : List Blk} (t : Nat) (q : PV) (h : PV.le (alook A t) q) : Told Γ A H ((t, q) :: A) H :=
  ⟨Nat.le_refl _, fun w0 G w N a hs ha => ⟨G, hs, ⟨ha.1, fun u => by
    simp only [alook]
    split
    · rename_i e; subst e; exact (ha.2 u).le h
    · exact ha.2 u⟩, Evol.refl _ _⟩⟩
theorem told_leBox {A : List (Nat × PV)} {H : List Blk} (b : Nat) {cs cs' : List PV} (hb : H[b]? = some (.box cs)) (h : PV.leL cs cs') : Told Γ A H A (H.set b (.box cs')) := by
  refine ⟨by simp, fun w0 G w N a hs ha => ⟨G, hs.relabel hb (PV.leL_len h).symm (fun j c c' hc hc' v hv => ?_), by simpa using ha, Evol.refl _ _⟩⟩
  obtain ⟨p, k1, k2⟩ := PV.leL_at h hc'
  rw [hc] at k1
  cases k1
  exact hv.le k2
end
end Go.Proofs.YtddnigahjahkbaaGreatDoor.Fw
namespace Go.Proofs.YtddnigahjahkbaaGreatDoor.Fw
set_option linter.unusedVariables false
set_option linter.unusedSimpArgs false
set_option maxRecDepth 100000
open Go.RowKit
theorem Sim.grow {Γ : Nat → PV} {w0 w : World} {G : Ghost} {H : List Blk} (h : Sim Γ w0 G H w) (n : Nat) (os : Array Obj) : Sim Γ w0 G H (Sort.grow (w.drewN n) os) := by
  have hk : ∀ k, k < w.heap.size → (Sort.grow (w.drewN n) os).heap[k]? = w.heap[k]? := fun k hk => by
    show (w.heap ++ os)[k]? = _
    rw [Array.getElem?_append_left hk]
  have hsz : w.heap.size ≤ (Sort.grow (w.drewN n) os).heap.size := by
    show _ ≤ (w.heap ++ os).size
    simp
  exact h.step (Evol.refl _ _) (fun _ _ => rfl) (h.below.trans ⟨rfl, rfl, rfl, hsz, fun k hk' => hk k (Nat.lt_of_lt_of_le hk' h.size)⟩) hsz (fun k B hB hl => hk _ (h.own k B hB hl).2.1)
    (fun a v ha => by
      have := h.mem a v ha
      rw [cell_of_heap (w := w) (hk _ (World.block_lt_of_cell? w a this))]; exact this)
    (fun k B hB hl => (h.own k B hB hl).2.2)
theorem Sim.table {P : Program} {Γ : Nat → PV} {w0 w : World} {G : Ghost} {H : List Blk} (hs : Sim Γ w0 G H w) {name : String} {g : Nat} {k : IntKind} {zs : List Int} (hn : P.globalNamed name = some g) (hg : Γ g = .cptr (zs.map fun z => .int k z)) :
    Lib.TabIs P w name k zs := by
  obtain ⟨C, e, q, h1, h2⟩ := hs.tab g _ hg
  have hlt : g < w0.heap.size := (Array.getElem?_eq_some_iff.1 h1).1
  have h3 : w.heap[g]? = some (.cells C e q) := (hs.below.block g hlt).trans h1
  unfold Lib.TabIs World.var?
  rw [hn]
  simp only [Option.bind_some, h3, Option.some.injEq]
  have hr := hs.glob g
  rw [hg] at hr
  rw [List.length_map] at h2
  refine Array.ext (by simpa using h2) fun i hi hi' => ?_
  cases hr with
  | cptr _ cs b o vs r1 r2 r3 =>
    have hz : i < zs.length := by omega
    have hc : (zs.map fun z => PV.int k z)[i]? = some (.int k zs[i]) := by simp [hz]
    have hm := hs.mem _ _ (r1 i _ hc)
    have hv := r2 i _ hc
    simp only [World.cell?, h3, Nat.zero_add, Option.isSome_none, Bool.false_eq_true, ↓reduceIte] at hm
    rw [Array.getElem?_eq_getElem hi, Option.some.injEq] at hm
    rw [hm]
    cases hv' : vs i with
    | int k' z => rw [hv'] at hv; cases hv; simp
    | _ => rw [hv'] at hv; cases hv
theorem gives_text {P : Program} {Γ : Nat → PV} {f : FuncId} {name : String} {g : Nat} {k : IntKind} {zs : List Int} (hn : P.globalNamed name = some g) (hg : Γ g = .cptr (zs.map fun z => .int k z)) {ps : List PV} {vs : Array Value} {s : List UInt8}
    (hv : ∀ (G : Ghost) (n : Nat) (us : Array Value), Reps G n ps us.toList → us = vs) (hs : s.length ≤ 9223372036854775807)
    (h : ∀ w, Lib.TabIs P w name k zs → Calls P f vs w fun e w' => e = .returned (.string ⟨s.toArray⟩) ∧ ∃ k os, w' = Sort.grow (w.drewN k) os) : Gives P Γ f ps (.str s) := by
  intro H w0 G w us hsim hr
  obtain rfl := hv G _ us hr
  refine callsIn_wide.2 ((h w (hsim.table hn hg)).mono fun e w' hq => ?_)
  obtain ⟨rfl, n, os, rfl⟩ := hq
  exact ⟨_, .str s, H, G, rfl, hsim.grow n os, .str _ _ hs, Evol.refl _ _, Nat.le_refl _, rfl, rfl⟩
theorem ints2 {G : Ghost} {n : Nat} {k k' : IntKind} {x y : Int} {us : Array Value} (h : Reps G n [.int k x, .int k' y] us.toList) : us = #[.int k x, .int k' y] := by
  obtain ⟨l⟩ := us
  obtain ⟨v, vs, rfl, h1, h2⟩ := h.cons_inv
  obtain ⟨v', vs', rfl, h3, h4⟩ := h2.cons_inv
  have : vs' = [] := by have := h4.1; simpa using this.symm
  subst this
  rw [h1.int_inv, h3.int_inv]
def bytesV (l : List UInt8) : List (List PV) := l.map fun c => [.int .u8 c.toNat]
theorem pushes (l : List UInt8) : ∀ s : ByteArray, (l.map fun c => (c.toNat : Int)).foldl (fun r n => r.push (UInt8.ofNat n.toNat)) s = ⟨s.data ++ l.toArray⟩ := by
  induction l with
  | nil => intro s; simp
  | cons c l ih =>
    intro s
    rw [List.map_cons, List.foldl_cons, ih]
    simp [ByteArray.push]
theorem os_convBytes {P : Program} {Γ : Nat → PV} {A : List (Nat × PV)} {H : List Blk} {o : Oper} {K : PV → List Blk → Prop} {src dst e : TypeId} {x : Operand} {l : List UInt8} {f : Bool} (ho : o.op = .convert src dst x) (hs' : P.underlying src = some (.slice e)) (he : P.underlying e = some (.int .u8)) (hd : P.underlying dst = some .string)
    (hx : ev Γ A x = .vec (bytesV l) f) (hk : K (.str l) H) : OStep P Γ o A H K :=
  ostep_pure (by simp [ho]) _ hk fun w0 G w N a hs ha => by
    have h1 := ha.ev hs.glob x
    rw [hx] at h1
    have hlen : l.length ≤ 9223372036854775807 := by have := h1.vec_len; simpa [bytesV] using this
    refine ⟨.string ⟨l.toArray⟩, ?_, .str _ _ hlen⟩
    have key : (Conv.bytesToString (a.eval x)).run P w = .ok (.string ⟨l.toArray⟩) w := by
      generalize a.eval x = v at h1
      by_cases hl : l = []
      · subst hl
        cases h1 with
        | vec0 n f ad =>
          cases ad with
          | none => rfl
          | some ad =>
            have := run_bytesToString (P := P) w ad 0 0 [] (by simp [loadCells, loadCellsFrom])
            exact this
        | vec n es f b o sz cap vs hn hc hf hsz r1 r2 r3 =>
          have := run_bytesToString (P := P) w ⟨b, o, none⟩ 0 cap [] (by simp [loadCells, loadCellsFrom])
          exact this
      · generalize hes : bytesV l = es at h1
        cases h1 with
        | vec0 n f ad => unfold bytesV at hes; simp [hl] at hes
        | vec n es f b o sz cap vs hn hc hf hsz r1 r2 r3 =>
          subst hes
          have hsz1 : sz = 1 := by
            obtain ⟨c, l', rfl⟩ := List.exists_cons_of_ne_nil hl
            exact (hsz [.int .u8 c.toNat] (by simp [bytesV])).symm
          subst hsz1
          have := run_bytesToString (P := P) w ⟨b, o, none⟩ l.length cap (l.map fun c => (c.toNat : Int)) (by
            have := run_loadCells_list (P := P) (w := w) ⟨b, o, none⟩ ((l.map fun c => (c.toNat : Int)).map (Value.int .u8)) (fun j v hj => by
              rw [Go.Proofs.YtddnigahjahkbaaGreatDoor.Fw.add_at]
              simp only [List.map_map, List.getElem?_map] at hj
              obtain ⟨c, hc', rfl⟩ := Option.map_eq_some_iff.1 hj
              have hi : (bytesV l)[j]? = some [.int .u8 c.toNat] := by simp [bytesV, hc']
              have hm := hs.mem _ _ (r1 j 0 _ _ hi rfl)
              have hr := r2 j 0 _ _ hi rfl
              rw [Nat.mul_one, Nat.add_zero] at hm hr
              rw [hm, hr.int_inv]
              rfl)
            simpa using this)
          rw [pushes] at this
          have e : (bytesV l).length = l.length := by simp [bytesV]
          rw [e]
          simpa using this
    obtain ⟨ad, ln, cp, hv⟩ : ∃ ad ln cp, a.eval x = .slice ad ln cp := by
      generalize a.eval x = v at h1
      generalize bytesV l = es at h1
      cases h1 <;> exact ⟨_, _, _, rfl⟩
    rw [hv] at key
    simp [execOp, ho, hv, convert, run_under hs', run_under hd, run_under he, key]
theorem calls_at {P : Program} {Γ : Nat → PV} {fn : Func} {n : Nat} {p : PV} {R : PV → List Blk → Prop} {A' : List (Nat × PV)} {H : List Blk} {e : Exit} (he : e = .ret ∨ e = .normal) (hbd : ∀ B ∈ H, B.bd H.length = true) (h : ares P Γ A' H fn.results.toList = some p) (hp : p.bd H.length = true) (hn : n ≤ H.length) (hR : R p H) :
    RetQ P Γ fn n R e A' H [] :=
  ⟨he, List.nodup_nil, (fun b hb => by cases hb), p, H.length, h, hn, Nat.le_refl _, fun b hb => (by cases hb), hp, by rw [List.take_length]; exact hbd, by rw [List.take_length]; exact hR⟩
end Go.Proofs.YtddnigahjahkbaaGreatDoor.Fw
namespace Go.Proofs.YtddnigahjahkbaaGreatDoor.Fw
set_option linter.unusedVariables false
set_option linter.unusedSimpArgs false
set_option maxRecDepth 100000
open Go.RowKit Go.ChangeShapes Go.WideShapes
def ReadsArg (P : Program) (W : World) (t : TypeId) {X : Type} (one : X → PV) (good : X → Prop) : Prop :=
  ∀ (Hh : Type) (e : TypeId × Value → Hh) (b : Nat) (v : Value) (d : DataW Hh) (ps : List MemPlace), Value.okWide P W .any b t v → DataW.Trod e P W 0 (fun _ => true) true t v d ps → (d.weights P t).all (· ≤ reachBytes) = true → ∃ x, good x ∧ Rep (ofW W) 0 (one x) v
def ReadsArgs (P : Program) (W : World) (ts : List TypeId) {X : Type} (encs : X → List PV) (good : X → Prop) : Prop :=
  ∀ (Hh : Type) (e : TypeId × Value → Hh) (b : Nat) (vs : List Value) (ds : List (DataW Hh)) (ps : List MemPlace), (∀ (j : Nat) t v, ts[j]? = some t → vs[j]? = some v → Value.okWide P W .any b t v) → DataW.TrodAll e P W 0 (fun _ => true) true ts vs ds ps →
    (∀ (i : Nat) t d, ts[i]? = some t → ds[i]? = some d → (d.weights P t).all (· ≤ reachBytes) = true) → ∃ x, good x ∧ Reps (ofW W) 0 (encs x) vs
section
variable {P : Program} {W : World} {t : TypeId} {X Y : Type} {good : X → Prop}
theorem int_wf {k : IntKind} {i : Int} (h : (Lit.int k i).wf = true) : k.min ≤ i ∧ i ≤ k.max := by
  simpa [Lit.wf] using h
end
def tabΓ (g0 : Nat) (k : IntKind) (zs : List Int) : Nat → PV := fun g => if g = g0 then .cptr (zs.map fun z => .int k z) else .any
end Go.Proofs.YtddnigahjahkbaaGreatDoor.Fw
namespace Go.Proofs.YtddnigahjahkbaaGreatDoor.Fw
set_option linter.unusedVariables false
set_option linter.unusedSimpArgs false
set_option maxRecDepth 100000
open Go.RowKit
theorem os_min {P : Program} {Γ : Nat → PV} {A : List (Nat × PV)} {H : List Blk} {o : Oper} {K : PV → List Blk → Prop} {x y : Operand} {ts : Array TypeId} {k : IntKind} {m n : Int} (ho : o.op = .call { callee := .builtin .min, args := #[x, y], argTypes := ts }) (hx : ev Γ A x = .int k m) (hy : ev Γ A y = .int k n)
    (hk : K (.int k (if n < m then n else m)) H) : OStep P Γ o A H K :=
  ostep_pure (by simp [ho]) _ hk fun w0 G w N a hs ha => by
    have h1 := ha.ev hs.glob x
    have h2 := ha.ev hs.glob y
    rw [hx] at h1
    rw [hy] at h2
    refine ⟨_, ?_, .int _ _ _⟩
    simp [execOp, ho, resolve, invoke, builtin, Builtin.min_, Builtin.min2, h1.int_inv, h2.int_inv]
end Go.Proofs.YtddnigahjahkbaaGreatDoor.Fw
namespace Go.Proofs.YtddnigahjahkbaaGreatDoor.Fw
set_option linter.unusedVariables false
set_option linter.unusedSimpArgs false
set_option maxRecDepth 100000
open Go.RowKit
theorem dops_turn {P : Program} {Γ : Nat → PV} {ops : Array Oper} {cls : List Nat} {n0 : View} {K : List (Nat × PV) → List Blk → Prop} {i : Nat} {o : Oper} {rest : List (Nat × Oper)} {A : List (Nat × PV)} {H : List Blk} {x : Operand} {args : Array Operand} {ts : Array TypeId} {f : FuncId} {fs cs : List PV} {p : PV} {b : Nat} {B : Blk}
    (ho : o.op = .call { callee := .value x, args := args, argTypes := ts }) (hw : wantA ops A o = some true) (hc : cls.getD i 0 = 5) (hx : ev Γ A x = .func (.func f) fs cs) (he : Enters P f)
    (h1 : n0.x = some b) (h2 : b < n0.n) (h3 : b < H.length)
    (h : ∀ H2 : List Blk, b < H2.length → H2[b]? = H[b]? → ACalls P Γ f (fs ++ args.toList.map (ev Γ A) ++ cs) H2 (fun q H1 => q = p ∧ H1 = H2.set b B)) (hk : DOps P Γ ops cls n0 K rest (aput A o.dst p) (H.set b B)) : DOps P Γ ops cls n0 K ((i, o) :: rest) A H := by
  refine ⟨p, _, ?_, hk⟩
  unfold DOne
  rw [hw, hc]
  refine ⟨b, B, h1, h2, h3, rfl, fun H2 k1 k2 => dlift fun A' hev => ?_⟩
  have hops : ∀ y, y = x ∨ y ∈ args → ev Γ A' y = ev Γ A y := fun y hy => hev y (by
    rw [ho]
    simp only [Op.operands, Call.operands, Array.mem_append]
    rcases hy with rfl | hy
    · exact .inl (by simp)
    · exact .inr hy)
  refine os_call ho (by rw [hops x (.inl rfl)]; exact hx) he ?_
  rw [List.map_congr_left (l := args.toList) fun y hy => hops y (.inr (by simpa using hy))]
  exact h H2 k1 k2
end Go.Proofs.YtddnigahjahkbaaGreatDoor.Fw
