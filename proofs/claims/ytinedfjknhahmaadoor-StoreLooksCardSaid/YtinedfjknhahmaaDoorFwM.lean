/- The framework, thirteenth part: regions whose order is drawn. -/
import Derived.Test.YtinedfjknhahmaaDoorFwL
import Derived.OrdersIn
namespace Go.Proofs.YtinedfjknhahmaaDoor.Fw
set_option linter.unusedVariables false
set_option linter.unusedSimpArgs false
open Go.RowKit

/-- Only the slots that an operation looks at. -/
def restr (ops : Array Oper) (o : Oper) (A : List (Nat × PV)) : List (Nat × PV) := A.filter fun kp => (o.looksAt ops).contains kp.1

theorem restr_in {ops : Array Oper} {o : Oper} {A : List (Nat × PV)} {t : Nat} (h : t ∈ o.looksAt ops) : alook (restr ops o A) t = alook A t := by
  induction A with
  | nil => rfl
  | cons kp A ih =>
    obtain ⟨k, p⟩ := kp
    simp only [restr, List.filter_cons]
    by_cases hk : t = k
    · subst hk
      rw [if_pos (by simpa using h)]
      simp [alook]
    · split
      · simp only [alook, if_neg hk]; exact ih
      · simp only [alook, if_neg hk]; exact ih

theorem restr_out {ops : Array Oper} {o : Oper} {A : List (Nat × PV)} {t : Nat} (h : t ∉ o.looksAt ops) : alook (restr ops o A) t = .any := by
  induction A with
  | nil => rfl
  | cons kp A ih =>
    obtain ⟨k, p⟩ := kp
    simp only [restr, List.filter_cons]
    split
    · rename_i hc
      have : t ≠ k := fun e => h (by subst e; simpa using hc)
      simp only [alook, if_neg this]; exact ih
    · exact ih

theorem restr_congr {ops : Array Oper} {o : Oper} {A B : List (Nat × PV)} (h : ∀ t ∈ o.looksAt ops, alook A t = alook B t) (t : Nat) : alook (restr ops o A) t = alook (restr ops o B) t := by
  by_cases ht : t ∈ o.looksAt ops
  · rw [restr_in ht, restr_in ht, h t ht]
  · rw [restr_out ht, restr_out ht]

theorem looks_operand {ops : Array Oper} {o : Oper} {t : Tmp} (h : Operand.tmp t ∈ o.op.operands) : t ∈ o.looksAt ops :=
  List.mem_append_left _ (List.mem_filterMap.2 ⟨.tmp t, by simpa using h, rfl⟩)

theorem alook_aput {A : List (Nat × PV)} {d : Option Tmp} {p : PV} {t : Nat} (h : d ≠ some t) : alook (aput A d p) t = alook A t := by
  cases d with
  | none => rfl
  | some d => simp only [aput, alook]; rw [if_neg fun e => h (by rw [e])]

theorem aput_swap {A : List (Nat × PV)} {d e : Option Tmp} {p q : PV} (h : ∀ x, d = some x → e ≠ some x) (t : Nat) : alook (aput (aput A d p) e q) t = alook (aput (aput A e q) d p) t := by
  cases d with
  | none => rfl
  | some d =>
    cases e with
    | none => rfl
    | some e =>
      simp only [aput, alook]
      by_cases h1 : t = e
      · by_cases h2 : t = d
        · exact absurd (by rw [← h1, h2]) (h d rfl)
        · simp [h1, h2]
          intro e2; exact absurd (h1.trans e2) h2
      · simp [h1]

theorem aput_congr {A B : List (Nat × PV)} {d : Option Tmp} {p : PV} (h : ∀ t, alook A t = alook B t) (t : Nat) : alook (aput A d p) t = alook (aput B d p) t := by
  cases d with
  | none => exact h t
  | some d => simp only [aput, alook, h t]

section
variable {P : Program} {Γ : Nat → PV} {ops : Array Oper} {cls : List Nat} {n0 : Nat} {K : List (Nat × PV) → List Blk → Prop}

theorem OStep.congr {o : Oper} {A B : List (Nat × PV)} {H : List Blk} {K : PV → List Blk → Prop} (h : OStep P Γ o A H K) (hl : ∀ t, alook A t = alook B t) : OStep P Γ o B H K :=
  fun ro w0 G w N a next Q hs ha hn => h ro w0 G w N a next Q hs (ha.less fun t => .inl (hl t)) hn

theorem dlift {o : Oper} {A : List (Nat × PV)} {H : List Blk} {K : PV → List Blk → Prop} (h : ∀ A', (∀ x ∈ o.op.operands, ev Γ A' x = ev Γ A x) → OStep P Γ o A' H K) : OStep P Γ o (restr ops o A) H K :=
  h _ fun x hx => by
    cases x with
    | tmp t => exact restr_in (looks_operand hx)
    | _ => rfl

/-- Whether the operation is wanted. -/
def wantA (ops : Array Oper) (A : List (Nat × PV)) (o : Oper) : Option Bool :=
  match o.guard with
  | none => some true
  | some (j, want) => match (ops[j]?).bind (·.dst) with
    | some d => match alook A d with
      | .bool b => some (b == want)
      | .tup [] => some false
      | _ => none
    | none => none

theorem wantA_congr {A B : List (Nat × PV)} {o : Oper} (h : ∀ t ∈ o.looksAt ops, alook A t = alook B t) : wantA ops A o = wantA ops B o := by
  unfold wantA
  cases hg : o.guard with
  | none => rfl
  | some g =>
    obtain ⟨j, want⟩ := g
    simp only
    cases hd : (ops[j]?).bind (·.dst) with
    | none => rfl
    | some d =>
      simp only
      rw [h d (List.mem_append_right _ (by rw [hg]; simp [hd]))]

/-- What one operation comes to; class 0: whatever the blocks are; 1: it reads blocks; 3: it leaves the first n0 blocks; 4: it reads of the first n0 blocks alone; else it may turn them. -/
def DOne (P : Program) (Γ : Nat → PV) (ops : Array Oper) (n0 : Nat) (c : Nat) (o : Oper) (A : List (Nat × PV)) (H : List Blk) (p : PV) (H' : List Blk) : Prop :=
  match wantA ops A o with
  | some false => p = .tup [] ∧ H' = H
  | some true => match c with
    | 0 => H' = H ∧ ∀ H, OStep P Γ o (restr ops o A) H (fun q H1 => q = p ∧ H1 = H)
    | 1 => H' = H ∧ OStep P Γ o (restr ops o A) H (fun q H1 => q = p ∧ H1 = H)
    | 3 => H'.take n0 = H.take n0 ∧ OStep P Γ o (restr ops o A) H (fun q H1 => q = p ∧ H1 = H')
    | 4 => H' = H ∧ ∀ H2 : List Blk, n0 ≤ H2.length → H2.take n0 = H.take n0 → OStep P Γ o (restr ops o A) H2 (fun q H1 => q = p ∧ H1 = H2)
    | _ => OStep P Γ o (restr ops o A) H (fun q H1 => q = p ∧ H1 = H')
  | none => False

def DOps (P : Program) (Γ : Nat → PV) (ops : Array Oper) (cls : List Nat) (n0 : Nat) (K : List (Nat × PV) → List Blk → Prop) : List (Nat × Oper) → List (Nat × PV) → List Blk → Prop
  | [], A, H => ∃ A', (∀ t, alook A t = alook A' t) ∧ K A' H
  | (i, o) :: rest, A, H => ∃ p H', DOne P Γ ops n0 (cls.getD i 0) o A H p H' ∧ DOps P Γ ops cls n0 K rest (aput A o.dst p) H'

theorem DOne.congr {c : Nat} {o : Oper} {A B : List (Nat × PV)} {H H' : List Blk} {p : PV} (h : DOne P Γ ops n0 c o A H p H') (hl : ∀ t ∈ o.looksAt ops, alook A t = alook B t) : DOne P Γ ops n0 c o B H p H' := by
  unfold DOne at h ⊢
  rw [← wantA_congr hl]
  split at h
  · exact h
  · split at h
    · exact ⟨h.1, fun H => (h.2 H).congr (restr_congr hl)⟩
    · exact ⟨h.1, h.2.congr (restr_congr hl)⟩
    · exact ⟨h.1, h.2.congr (restr_congr hl)⟩
    · exact ⟨h.1, fun H2 k1 k2 => (h.2 H2 k1 k2).congr (restr_congr hl)⟩
    · exact h.congr (restr_congr hl)
  · exact h

theorem DOps.congr : ∀ {rest : List (Nat × Oper)} {A B : List (Nat × PV)} {H : List Blk}, DOps P Γ ops cls n0 K rest A H → (∀ t, alook A t = alook B t) → DOps P Γ ops cls n0 K rest B H
  | [], _, _, _, ⟨A', h1, h2⟩, hl => ⟨A', fun t => (hl t).symm.trans (h1 t), h2⟩
  | (i, o) :: rest, _, _, _, ⟨p, H', h1, h2⟩, hl => ⟨p, H', h1.congr fun t _ => hl t, h2.congr (aput_congr hl)⟩

/-- Two classes that may change places. -/
def compat (c d : Nat) : Bool := c == 0 || d == 0 || ((c == 1 || c == 4) && (d == 1 || d == 4)) || (c == 3 && d == 4) || (c == 4 && d == 3)

theorem compat_1 {c : Nat} (h : compat c 1 = true) : c = 0 ∨ c = 1 ∨ c = 4 := by
  simp [compat] at h; omega
theorem compat_4 {c : Nat} (h : compat c 4 = true) : c = 0 ∨ c = 1 ∨ c = 4 ∨ c = 3 := by
  simp [compat] at h; omega
theorem compat_3 {c : Nat} (h : compat c 3 = true) : c = 0 ∨ c = 4 := by
  simp [compat] at h; omega

theorem DOps.front {i : Nat} {o : Oper} {post : List (Nat × Oper)} : ∀ {pre : List (Nat × Oper)} {A : List (Nat × PV)} {H : List Blk}, DOps P Γ ops cls n0 K (pre ++ (i, o) :: post) A H →
    (∀ x ∈ pre, x.2.apart ops o = true ∧ compat (cls.getD x.1 0) (cls.getD i 0) = true) →
    ∃ p H', DOne P Γ ops n0 (cls.getD i 0) o A H p H' ∧ DOps P Γ ops cls n0 K (pre ++ post) (aput A o.dst p) H'
  | [], _, _, h, _ => h
  | (k, ok) :: pre, A, H, ⟨pk, Hk, h1, h2⟩, hap => by
    obtain ⟨p, H', h3, h4⟩ := DOps.front h2 fun x hx => hap x (by simp [hx])
    obtain ⟨hapk, hc⟩ := hap (k, ok) (by simp)
    obtain ⟨a1, a2, a3⟩ := Oper.apart_spec hapk
    simp only at hapk hc
    have e1 : ∀ t ∈ o.looksAt ops, alook (aput A ok.dst pk) t = alook A t := fun t ht => alook_aput fun e => a1 t e ht
    have h3' := h3.congr e1
    have e2 : ∀ q, ∀ t ∈ ok.looksAt ops, alook A t = alook (aput A o.dst q) t := fun q t ht => (alook_aput fun e => a3 t e ht).symm
    have fin : ∀ {H2}, DOne P Γ ops n0 (cls.getD k 0) ok (aput A o.dst p) H2 pk H' → DOps P Γ ops cls n0 K ((k, ok) :: (pre ++ post)) (aput A o.dst p) H2 := fun hk =>
      ⟨pk, H', hk, h4.congr (aput_swap a2)⟩
    have hk0 : ∀ {q}, DOne P Γ ops n0 (cls.getD k 0) ok (aput A o.dst q) H pk Hk := (h1.congr (e2 _))
    -- the block list after o is that ahead of it, where o is skipped, free, or a reader
    have same : Hk = H' → (∃ H2, DOne P Γ ops n0 (cls.getD i 0) o A H p H2 ∧ H2 = H) → ∃ p H', DOne P Γ ops n0 (cls.getD i 0) o A H p H' ∧ DOps P Γ ops cls n0 K ((k, ok) :: (pre ++ post)) (aput A o.dst p) H' := by
      rintro e ⟨H2, hh, rfl⟩
      exact ⟨p, _, hh, fin (e ▸ hk0)⟩
    -- ok leaves the blocks
    have calm : ∀ {H1 H2 : List Blk}, DOne P Γ ops n0 (cls.getD k 0) ok A H1 pk H2 → (cls.getD k 0 = 0 ∨ cls.getD k 0 = 1 ∨ cls.getD k 0 = 4 ∨ wantA ops A ok = some false) → H2 = H1 := by
      intro H1 H2 hh hor
      unfold DOne at hh
      split at hh
      · exact hh.2
      · rename_i hw
        rcases hor with e | e | e | e
        · rw [e] at hh; exact hh.1
        · rw [e] at hh; exact hh.1
        · rw [e] at hh; exact hh.1
        · rw [e] at hw; cases hw
      · exact hh.elim
    cases hwo : wantA ops A o with
    | none => unfold DOne at h3'; rw [hwo] at h3'; exact h3'.elim
    | some b =>
      cases b with
      | false =>
        unfold DOne at h3'; rw [hwo] at h3'
        exact same h3'.2.symm ⟨H, by unfold DOne; rw [hwo]; exact ⟨h3'.1, rfl⟩, rfl⟩
      | true =>
        unfold DOne at h3'
        rw [hwo] at h3'
        simp only at h3'
        match hci : cls.getD i 0 with
        | 0 =>
          rw [hci] at h3'
          rw [← hci]
          exact same h3'.1.symm ⟨H, by unfold DOne; rw [hwo, hci]; exact ⟨rfl, h3'.2⟩, rfl⟩
        | 1 =>
          rw [hci] at h3' hc
          rw [← hci]
          have hkc : Hk = H := calm h1 (by rcases compat_1 hc with e | e | e <;> simp only [e, true_or, or_true])
          refine same h3'.1.symm ⟨H, ?_, rfl⟩
          unfold DOne; rw [hwo, hci]
          exact ⟨rfl, hkc ▸ h3'.2⟩
        | 4 =>
          rw [hci] at h3' hc
          rw [← hci]
          have htk : Hk.take n0 = H.take n0 := by
            by_cases h30 : cls.getD k 0 = 3
            · unfold DOne at h1
              split at h1
              · rw [h1.2]
              · rw [h30] at h1; exact h1.1
              · exact h1.elim
            · rw [calm h1 (by rcases compat_4 hc with e | e | e | e <;> first | exact absurd e h30 | simp only [e, true_or, or_true])]
          refine same h3'.1.symm ⟨H, ?_, rfl⟩
          unfold DOne; rw [hwo, hci]
          exact ⟨rfl, fun H2 k1 k2 => h3'.2 H2 k1 (k2.trans htk.symm)⟩
        | 3 =>
          rw [hci] at h3' hc
          rw [← hci]
          have hk04 : cls.getD k 0 = 0 ∨ cls.getD k 0 = 4 := compat_3 hc
          have hkc : Hk = H := calm h1 (by rcases hk04 with e | e <;> simp only [e, true_or, or_true])
          rw [hkc] at h3'
          refine ⟨p, H', by unfold DOne; rw [hwo, hci]; exact h3', fin ?_⟩
          have := h1.congr (e2 p)
          unfold DOne at this ⊢
          split at this
          · exact ⟨this.1, rfl⟩
          · rcases hk04 with e | e
            · rw [e] at this; rw [e]; exact ⟨rfl, this.2⟩
            · rw [e] at this; rw [e]; exact ⟨rfl, fun H2 k1 k2 => this.2 H2 k1 (k2.trans h3'.1)⟩
          · exact this.elim
        | 2 =>
          rw [hci] at h3' hc
          rw [← hci]
          have hk0' : cls.getD k 0 = 0 := by simpa [compat] using hc
          have hkc : Hk = H := calm h1 (.inl hk0')
          rw [hkc] at h3'
          refine ⟨p, H', by unfold DOne; rw [hwo, hci]; exact h3', fin ?_⟩
          have := h1.congr (e2 p)
          unfold DOne at this ⊢
          split at this
          · exact ⟨this.1, rfl⟩
          · rw [hk0'] at this; rw [hk0']; exact ⟨rfl, this.2⟩
          · exact this.elim
        | c + 5 =>
          have hci' : cls.getD i 0 = c + 5 := hci
          rw [hci] at h3' hc
          rw [← hci']
          have hk0' : cls.getD k 0 = 0 := by simpa [compat] using hc
          have hkc : Hk = H := calm h1 (.inl hk0')
          rw [hkc] at h3'
          refine ⟨p, H', by unfold DOne; rw [hwo, hci]; exact h3', fin ?_⟩
          have := h1.congr (e2 p)
          unfold DOne at this ⊢
          split at this
          · exact ⟨this.1, rfl⟩
          · rw [hk0'] at this; rw [hk0']; exact ⟨rfl, this.2⟩
          · exact this.elim

/-- Masks of what stands ahead: each bit has its ground in an edge. -/
def maskOk (ops : Array Oper) (B : List Nat) : Bool :=
  (List.range ops.size).all fun j => match ops[j]? with
    | none => true
    | some o => (o.after.all fun e => !Region.binds .any e || decide (e.on < j)) && (List.range j).all fun i => !(B.getD j 0).testBit i || o.after.any fun e => Region.binds .any e && (e.on == i || (decide (i < e.on) && (B.getD e.on 0).testBit i))

def drawOk (ops : Array Oper) (cls : List Nat) (B : List Nat) : Bool :=
  maskOk ops B && (List.range ops.size).all fun j => match ops[j]? with
    | none => true
    | some oj => (List.range j).all fun i => (B.getD j 0).testBit i || (match ops[i]? with
      | some oi => oi.apart ops oj && compat (cls.getD i 0) (cls.getD j 0)
      | none => true)

/-- What has been run takes in what stands ahead of it. -/
def Closed (ops : Array Oper) (rest : List (Nat × Oper)) : Prop :=
  ∀ k o, ops[k]? = some o → k ∉ rest.map (·.1) → ∀ e ∈ o.after, Region.binds .any e = true → e.on ∉ rest.map (·.1)

theorem mask_done {B : List Nat} (hB : maskOk ops B = true) {rest : List (Nat × Oper)} (hc : Closed ops rest) : ∀ (j : Nat) (o : Oper), ops[j]? = some o → (∀ e ∈ o.after, Region.binds .any e = true → e.on ∉ rest.map (·.1)) →
    ∀ i, i < j → (B.getD j 0).testBit i = true → i ∉ rest.map (·.1) := by
  intro j
  induction j using Nat.strongRecOn with
  | _ j ih =>
    intro o ho hall i hij hbit
    have hj : j < ops.size := (Array.getElem?_eq_some_iff.1 ho).1
    have h1 := List.all_eq_true.1 hB j (by simpa using hj)
    simp only [ho, Bool.and_eq_true] at h1
    have h2 := List.all_eq_true.1 h1.2 i (by simpa using hij)
    simp only [hbit, Bool.not_true, Bool.false_or] at h2
    rw [Array.any_eq_true'] at h2
    obtain ⟨e, he, h3⟩ := h2
    simp only [Bool.and_eq_true, Bool.or_eq_true, beq_iff_eq, decide_eq_true_eq] at h3
    have hnot := hall e he h3.1
    rcases h3.2 with e1 | ⟨hil, e1⟩
    · rw [← e1]; exact hnot
    · have hlt : e.on < j := by
        have := Array.all_eq_true'.1 h1.1 e he
        simpa [h3.1] using this
      obtain ⟨oe, hoe⟩ : ∃ oe, ops[e.on]? = some oe := ⟨_, Array.getElem?_eq_getElem (by omega)⟩
      exact ih e.on hlt oe hoe (fun e' he' hb' => hc e.on oe hoe hnot e' he' hb') i hil e1

/-- The list of what is left lies in order, and each of it is of the region. -/
def InOrder (ops : Array Oper) (rest : List (Nat × Oper)) : Prop :=
  (∀ x ∈ rest, ops[x.1]? = some x.2) ∧ (rest.map (·.1)).Pairwise (· < ·)

theorem dops_sound {N : Nat} {D : List Nat} {B : List Nat} (hok : dstOk N ops = true) (hd : drawOk ops cls B = true) {ro : Option Nat} {w0 : World} : ∀ (fuel : Nat) (rest : List (Nat × Oper)) (listed : Array Bool) (A : List (Nat × PV)) (H : List Blk) (G : Ghost) (w : World) (a : Act),
    rest.length = fuel → InOrder ops rest → Closed ops rest → listed.size = ops.size → (∀ i, i < ops.size → (listed.getD i true = false ↔ i ∈ rest.map (·.1))) →
    n0 ≤ H.length → DOps P Γ ops cls n0 K rest A H → Sim Γ w0 G H w → ASim G H.length N A a → DSim G H.length D a.defers →
    wpAnyIn (Fr ro) 0 P .any ops (Lift Γ w0 N G H.length fun e A' H' D' => e = .normal ∧ K A' H' ∧ D' = D) fuel listed a w := by
  have hB : maskOk ops B = true := by unfold drawOk at hd; simp only [Bool.and_eq_true] at hd; exact hd.1
  intro fuel
  induction fuel with
  | zero =>
    intro rest listed A H G w a hl _ _ hls hli _ h hs ha hdd
    have : rest = [] := List.eq_nil_of_length_eq_zero hl
    subst this
    obtain ⟨A', h1, h2⟩ := h
    refine ⟨?_, G, A', H, D, hs, ha.less fun t => .inl (h1 t).symm, hdd, Evol.refl _ _, Nat.le_refl _, rfl, h2, rfl⟩
    apply List.eq_nil_iff_forall_not_mem.2
    intro i hi
    obtain ⟨h3, o, h4, _⟩ := mem_ready.1 hi
    have := (hli i (Array.getElem?_eq_some_iff.1 h4).1).1 h3
    simp at this
  | succ fuel ih =>
    intro rest listed A H G w a hl hin hcl hls hli hn0 h hs ha hdd
    have hmem : ∀ {i : Nat}, i ∈ rest.map (·.1) → ∃ o, (i, o) ∈ rest ∧ ops[i]? = some o := fun {i} hi => by
      obtain ⟨x, hx, rfl⟩ := List.mem_map.1 hi
      exact ⟨x.2, hx, hin.1 x hx⟩
    refine ⟨fun h0 => ?_, fun i hi => ?_⟩
    · exfalso
      clear hmem
      cases rest with
      | nil => simp at hl
      | cons x rest' =>
        obtain ⟨i, o⟩ := x
        have hio := hin.1 (i, o) (by simp)
        have hlt : i < ops.size := (Array.getElem?_eq_some_iff.1 hio).1
        have : i ∈ Region.ready .any ops listed := by
          refine mem_ready.2 ⟨(hli i hlt).2 (by simp), o, hio, fun e he hb => ?_⟩
          have h1 := List.all_eq_true.1 hB i (by simpa using hlt)
          simp only [hio, Bool.and_eq_true] at h1
          have hei : e.on < i := by
            have := Array.all_eq_true'.1 h1.1 e he
            simpa [hb] using this
          have hnot : e.on ∉ ((i, o) :: rest').map (·.1) := fun hm => by
            have hp := hin.2
            simp only [List.map_cons, List.pairwise_cons] at hp
            simp only [List.map_cons, List.mem_cons] at hm
            rcases hm with e1 | e1
            · omega
            · have := hp.1 _ e1; omega
          have hlt' : e.on < ops.size := by omega
          have h5 := mt (hli e.on hlt').1 hnot
          rw [Array.getD_eq_getD_getElem?, Array.getElem?_eq_getElem (by omega)] at h5 ⊢
          simpa using h5
        rw [h0] at this
        cases this
    · obtain ⟨h3, o, h4, h5⟩ := mem_ready.1 hi
      have hlt : i < ops.size := (Array.getElem?_eq_some_iff.1 h4).1
      have hir := (hli i hlt).1 h3
      obtain ⟨o', hx, ho'⟩ := hmem hir
      have : o' = o := by rw [h4] at ho'; exact (Option.some.inj ho').symm
      subst this
      obtain ⟨pre, post, rfl⟩ := List.append_of_mem hx
      have hdone : ∀ e ∈ o'.after, Region.binds .any e = true → e.on ∉ (pre ++ (i, o') :: post).map (·.1) := fun e he hb hm => by
        have h6 := h5 e he hb
        obtain ⟨oe, hoe, hoe'⟩ := hmem hm
        have := (hli e.on (Array.getElem?_eq_some_iff.1 hoe').1).2 hm
        rw [Array.getD_eq_getD_getElem?] at this h6
        cases hge : listed[e.on]? with
        | none => rw [hge] at h6; cases h6
        | some b => rw [hge] at this h6; simp only [Option.getD_some] at this h6; rw [this] at h6; cases h6
      have hp := hin.2
      rw [List.map_append, List.map_cons, List.pairwise_append] at hp
      obtain ⟨hp1, hp2, hp3⟩ := hp
      obtain ⟨p, H', h6, h7⟩ := DOps.front h fun x hx => by
        have hxi : x.1 < i := hp3 x.1 (List.mem_map_of_mem hx) i (by simp)
        have hxo := hin.1 x (by simp [hx])
        unfold drawOk at hd
        simp only [Bool.and_eq_true] at hd
        have h8 := List.all_eq_true.1 hd.2 i (by simpa using hlt)
        simp only [h4] at h8
        have h9 := List.all_eq_true.1 h8 x.1 (by simpa using hxi)
        simp only [hxo, Bool.or_eq_true, Bool.and_eq_true] at h9
        rcases h9 with h9 | h9
        · exact absurd (by simp only [List.map_append, List.mem_append]; exact .inl (List.mem_map_of_mem hx)) (mask_done hB hcl i o' h4 hdone x.1 hxi h9)
        · exact h9
      have hin' : InOrder ops (pre ++ post) := by
        refine ⟨fun x hx => hin.1 x (by rcases List.mem_append.1 hx with e | e <;> simp [e]), ?_⟩
        rw [List.map_append, List.pairwise_append]
        exact ⟨hp1, (List.pairwise_cons.1 hp2).2, fun x hx y hy => hp3 x hx y (by simp [hy])⟩
      have hni : i ∉ (pre ++ post).map (·.1) := fun hm => by
        rw [List.map_append, List.mem_append] at hm
        rcases hm with e | e
        · exact absurd (hp3 i e i (by simp)) (by omega)
        · exact absurd ((List.pairwise_cons.1 hp2).1 i e) (by omega)
      have hiff : ∀ k, k ≠ i → (k ∈ (pre ++ (i, o') :: post).map (·.1) ↔ k ∈ (pre ++ post).map (·.1)) := fun k hk => by
        simp only [List.map_append, List.map_cons, List.mem_append, List.mem_cons, hk, false_or]
      have hcl' : Closed ops (pre ++ post) := fun k ok hk hkn e he hb => by
        by_cases hki : k = i
        · subst hki
          rw [h4] at hk
          obtain rfl := Option.some.inj hk
          have := hdone e he hb
          intro hm
          refine this ?_
          by_cases hee : e.on = k
          · rw [hee]; exact hir
          · exact (hiff _ hee).2 hm
        · have := hcl k ok hk (fun hm => hkn ((hiff k hki).1 hm)) e he hb
          intro hm
          refine this ?_
          by_cases hee : e.on = i
          · rw [hee]; exact hir
          · exact (hiff _ hee).2 hm
      have hli' : ∀ k, k < ops.size → ((listed.setIfInBounds i true).getD k true = false ↔ k ∈ (pre ++ post).map (·.1)) := fun k hk => by
        by_cases hki : k = i
        · subst hki
          constructor
          · intro hf
            rw [Array.getD_eq_getD_getElem?, Array.getElem?_setIfInBounds_self] at hf
            simp [hls, hk] at hf
          · intro hm; exact absurd hm hni
        · rw [getD_set_ne true (fun e => hki e.symm), hli k hk, hiff k hki]
      have hgo : ∀ (A' : List (Nat × PV)) (H' : List Blk) (G' : Ghost) (w' : World) (a' : Act), Evol G H.length G' → H.length ≤ H'.length → DOps P Γ ops cls n0 K (pre ++ post) A' H' → Sim Γ w0 G' H' w' → ASim G' H'.length N A' a' → a'.defers = a.defers →
          wpAnyIn (Fr ro) 0 P .any ops (Lift Γ w0 N G H.length fun e A' H' D' => e = .normal ∧ K A' H' ∧ D' = D) fuel (listed.setIfInBounds i true) a' w' := by
        intro A' H' G' w' a' he hn hD hs' ha' hdf
        have := ih (pre ++ post) (listed.setIfInBounds i true) A' H' G' w' a' (by simp at hl ⊢; omega) hin' hcl' (by simpa using hls) hli' (by omega) hD hs' ha' (by rw [hdf]; exact hdd.mono he hn)
        exact wpAnyIn_mono this fun e a w h => h.after he hn
      have hdst : ∀ d, o'.dst = some d → d < N := fun d hdd => by
        unfold dstOk at hok
        rw [List.all_eq_true] at hok
        have := hok o' (by simpa using Array.mem_of_getElem? h4)
        rw [hdd] at this
        simpa using this
      unfold wpOpIn
      simp only [h4]
      unfold DOne at h6
      cases hw : wantA ops A o' with
      | none => rw [hw] at h6; exact h6.elim
      | some b =>
        rw [hw] at h6
        have hwant : Region.wanted o' (yielded ops a.tmps) = b := by
          unfold wantA at hw
          unfold Region.wanted
          cases hg : o'.guard with
          | none => rw [hg] at hw; simpa using hw
          | some g =>
            obtain ⟨j, want⟩ := g
            rw [hg] at hw
            simp only at hw ⊢
            split at hw
            · rename_i d hdj
              split at hw
              · rename_i bb hbb
                rw [ha.yielded hdj hbb]
                have := Option.some.inj hw
                rw [← this]
                cases bb <;> cases want <;> rfl
              · rename_i hbb
                rw [ha.unyielded hdj hbb]
                have := Option.some.inj hw
                rw [← this]
                rfl
              · cases hw
            · cases hw
        rw [hwant]
        cases b with
        | false =>
          obtain ⟨rfl, rfl⟩ := h6
          rw [if_neg (by simp)]
          exact ⟨fun _ _ => trivial, hgo _ _ G w _ (Evol.refl _ _) (Nat.le_refl _) h7 hs (ha.put (.unwanted _ _) hdst) (put_defers _ _ _)⟩
        | true =>
          rw [if_pos rfl]
          have hst : OStep P Γ o' (restr ops o' A) H (fun q H1 => q = p ∧ H1 = H') := by
            simp only at h6
            split at h6
            · rw [h6.1]; exact h6.2 H
            · rw [h6.1]; exact h6.2
            · exact h6.2
            · rw [h6.1]; exact h6.2 H hn0 rfl
            · exact h6
          refine hst ro w0 G w N a _ _ hs (ha.less fun t => by
            by_cases ht : t ∈ o'.looksAt ops
            · exact .inl (restr_in ht)
            · exact .inr (restr_out ht)) fun v w' G' q H1 k1 k2 k3 k4 k5 => ?_
          obtain ⟨rfl, rfl⟩ := k5
          exact hgo _ _ G' w' _ k3 k4 h7 k1 ((ha.mono k3 k4).put k2 hdst) (put_defers _ _ _)
 where
  wpAnyIn_mono {F : Fence} {n : Nat} {md : Region.Mode} {Q Q' : Exit → Act → World → Prop} : ∀ {fuel : Nat} {l : Array Bool} {a : Act} {w : World}, wpAnyIn F n P md ops Q fuel l a w → (∀ e a w, Q e a w → Q' e a w) → wpAnyIn F n P md ops Q' fuel l a w
    | 0, _, _, _, h, hq => ⟨h.1, hq _ _ _ h.2⟩
    | fuel + 1, l, a, w, h, hq => by
      refine ⟨fun h0 => hq _ _ _ (h.1 h0), fun i hi => ?_⟩
      have h := h.2 i hi
      unfold wpOpIn at h ⊢
      cases ho : ops[i]? with
      | none => rw [ho] at h; exact wpAnyIn_mono h hq
      | some o =>
        rw [ho] at h
        simp only at h ⊢
        split
        · rename_i hw
          rw [if_pos hw] at h
          refine ⟨h.1, ?_⟩
          have h2 := h.2
          generalize (o.semAt F.round a.eval).run P w = r at h2 ⊢
          have hlo : LetsOut Q → LetsOut Q' := fun ⟨a, w, h⟩ => ⟨a, w, hq _ _ _ h⟩
          cases r with
          | ok nx w' =>
            cases nx <;> simp only [Oper.uponIn] at h2 ⊢ <;> first
              | exact wpAnyIn_mono h2 hq
              | exact ⟨h2.1, h2.2.mono fun e w'' he => by cases e <;> first | exact wpAnyIn_mono he hq | exact hq _ _ _ he | exact hlo he⟩
              | exact ⟨h2.1, h2.2.mono fun e w'' he => wpAnyIn_mono he hq⟩
              | exact h2
          | halt x w' => cases x <;> simp only [Oper.uponIn] at h2 ⊢ <;> first | exact hq _ _ _ h2 | exact h2
        · rename_i hw
          rw [if_neg hw] at h
          exact ⟨h.1, wpAnyIn_mono h.2 hq⟩

def numbered (ops : Array Oper) : List (Nat × Oper) := ops.toList.zipIdx.map fun x => (x.2, x.1)

theorem awp_drawn {N id : Nat} {ro : Option Nat} {A : List (Nat × PV)} {H : List Blk} {D : List Nat} {Q : Post} (cls B : List Nat) (hm : P.follows .mixedOrders = true) (hok : dstOk N ops = true) (hd : drawOk ops cls B = true)
    (h : DOps P Γ ops cls H.length (fun A' H' => Q .normal A' H' D) (numbered ops) A H) : AWP P Γ N ro (.region id ops true) A H D Q := by
  intro w0 G w a hs ha hdd
  refine wpIn_region_any hm ?_
  have hnum : ∀ x ∈ numbered ops, ops[x.1]? = some x.2 := fun x hx => by
    obtain ⟨y, hy, rfl⟩ := List.mem_map.1 hx
    obtain ⟨v, i⟩ := y
    have := List.mem_zipIdx_iff_getElem?.1 hy
    simpa using this
  have hfst : (numbered ops).map (·.1) = List.range ops.size := by
    unfold numbered
    rw [List.map_map]
    have : ((fun x : Nat × Oper => x.1) ∘ fun x : Oper × Nat => (x.2, x.1)) = Prod.snd := rfl
    rw [this, List.zipIdx_map_snd]
    simp [List.range_eq_range']
  have := dops_sound (P := P) (Γ := Γ) (n0 := H.length) (ro := ro) (w0 := w0) (N := N) (D := D) hok hd ops.size (numbered ops) (Array.replicate ops.size false) A H G { w with drawn := w.drawn + 1 } a (by simp [numbered]) ⟨hnum, by
    rw [hfst]; exact List.pairwise_lt_range⟩ (fun k o ho hk => absurd (by
      rw [hfst]; simpa using (Array.getElem?_eq_some_iff.1 ho).1) hk) (by simp) (fun i hi => by
      rw [hfst, Array.getD_eq_getD_getElem?, Array.getElem?_replicate]; simp [hi]) (Nat.le_refl _) h hs.drew ha hdd
  exact dops_sound.wpAnyIn_mono this fun e a w h => h.mono fun e A H D' ⟨h1, h2, h3⟩ => by subst h1 h3; exact h2

end
end Go.Proofs.YtinedfjknhahmaaDoor.Fw
