/- The framework, fourteenth part: stretches and calls in regions, drawn or not. -/
import Derived.Test.YtinedfjknhahmaaDoorFwM
namespace Go.Proofs.YtinedfjknhahmaaDoor.Fw
set_option linter.unusedVariables false
set_option linter.unusedSimpArgs false
open Go.RowKit

section
variable {P : Program} {Γ : Nat → PV} {ops : Array Oper} {cls : List Nat} {n0 : Nat} {K : List (Nat × PV) → List Blk → Prop}

theorem parts_congr {A B : List (Nat × PV)} {parts : Array (Nat × Operand)} (h : ∀ x ∈ (parts.toList.map (·.2)).toArray, ev Γ A x = ev Γ B x) :
    (parts.toList.map fun x => (x.1, ev Γ A x.2)) = parts.toList.map fun x => (x.1, ev Γ B x.2) :=
  List.map_congr_left fun x hx => by rw [h x.2 (by simpa using ⟨x.1, by simpa using hx⟩)]

theorem step1_congr {A B : List (Nat × PV)} {H : List Blk} (o : Op) (h : ∀ x ∈ o.operands, ev Γ A x = ev Γ B x) : step1 P Γ A H o = step1 P Γ B H o := by
  cases o with
  | build t parts => simp only [step1]; rw [parts_congr (by simpa only [Op.operands] using h)]
  | buildSlice t len parts => simp only [step1]; rw [parts_congr (by simpa only [Op.operands] using h)]
  | makeFunc fn fs cs =>
    simp only [step1]
    rw [List.map_congr_left (l := fs.toList) fun x hx => h x (by simp only [Op.operands, Array.mem_append]; exact .inl (by simpa using hx)),
      List.map_congr_left (l := cs.toList) fun x hx => h x (by simp only [Op.operands, Array.mem_append]; exact .inr (by simpa using hx))]
  | unOp u t x => cases u <;> simp_all [step1, Op.operands]
  | call c =>
    simp only [step1]
    split
    · rename_i x t
      rw [h x (by simp [Op.operands, Call.operands])]
    · rfl
  | _ => simp_all [step1, Op.operands, rd]

theorem step1_free {A : List (Nat × PV)} {o : Op} {p : PV} (h : step1 P Γ A [] o = some (p, [])) (H : List Blk) : step1 P Γ A H o = some (p, H) := by
  cases o with
  | move x => simp only [step1, Option.some.injEq, Prod.mk.injEq] at h ⊢; exact ⟨h.1, trivial⟩
  | assign x => simp only [step1, Option.some.injEq, Prod.mk.injEq] at h ⊢; exact ⟨h.1, trivial⟩
  | makeFunc fn fs cs => simp only [step1, Option.some.injEq, Prod.mk.injEq] at h ⊢; exact ⟨h.1, trivial⟩
  | alloc t => simp only [step1] at h; split at h <;> simp at h
  | box t x => simp only [step1] at h; split at h <;> simp at h
  | store t x y =>
    simp only [step1] at h
    split at h
    · simp [boxAt] at h
    · cases h
  | load t x =>
    simp only [step1] at h ⊢
    split at h
    · rename_i cs ti hr ht
      have hr' : rd Γ A H x = some cs := by
        unfold rd at hr ⊢
        split at hr
        · exact hr
        · simp at hr
        · simp at hr
        · cases hr
      rw [hr', ht]
      simp only at h ⊢
      split at h
      · rename_i hag
        rw [if_pos hag]
        split at h
        · rename_i hle; rw [if_pos hle]; simp only [Option.some.injEq, Prod.mk.injEq] at h ⊢; exact ⟨h.1, trivial⟩
        · cases h
      · rename_i hag
        rw [if_neg hag]
        split at h
        · simp only [Option.some.injEq, Prod.mk.injEq] at h ⊢; exact ⟨h.1, trivial⟩
        · cases h
    · cases h
  | unOp u t x => cases u <;> simp only [step1] at h ⊢ <;> (try cases h; done) <;> (repeat' split at h) <;> simp_all
  | binOp op t x y ty =>
    simp only [step1] at h ⊢
    split at h
    · rename_i b c hb hc
      split at h
      · rename_i q hq hr; simp only [Option.some.injEq, Prod.mk.injEq] at h; obtain ⟨rfl, _⟩ := h; simp [hb, hc, hq, hr]
      · cases h
    · split at h
      · split at h
        · split at h
          · simp only [Option.some.injEq, Prod.mk.injEq] at h
            obtain ⟨rfl, _⟩ := h
            rfl
          · cases h
        · cases h
      · cases h
    · rename_i hne
      split at h
      · rename_i r hr
        simp only [Option.some.injEq, Prod.mk.injEq] at h
        obtain ⟨rfl, _⟩ := h
        rfl
      · split at h
        · rename_i r hr
          simp only [Option.some.injEq, Prod.mk.injEq] at h
          obtain ⟨rfl, _⟩ := h
          rfl
        · cases h
  | call c =>
    simp only [step1] at h ⊢
    split at h
    · split at h <;> simp_all
    · cases h
  | makeInterface t x =>
    simp only [step1] at h ⊢
    split at h
    · cases h
    · rename_i d hne ht
      simp only [Option.some.injEq, Prod.mk.injEq] at h
      obtain ⟨rfl, _⟩ := h
      rfl
    · cases h
  | _ => simp only [step1] at h ⊢ <;> (try cases h; done) <;> (repeat' split at h) <;> simp_all

theorem step1_load {A : List (Nat × PV)} {H H' : List Blk} {t : TypeId} {x : Operand} {p : PV} (h : step1 P Γ A H (.load t x) = some (p, H')) : H' = H := by
  simp only [step1] at h
  split at h
  · split at h
    · split at h
      · cases h; rfl
      · cases h
    · split at h
      · cases h; rfl
      · cases h
  · cases h

theorem rd_take {A : List (Nat × PV)} {H1 H2 : List Blk} {n : Nat} {x : Operand} {cs : List PV} (h2 : H2.take n = H1.take n) (h : rd Γ A (H1.take n) x = some cs) : rd Γ A H2 x = some cs := by
  have key : ∀ {b : Nat} {B : Blk}, (H1.take n)[b]? = some B → H2[b]? = some B := fun {b B} hb => by
    rw [← h2] at hb
    by_cases hbn : b < n
    · rwa [List.getElem?_take_of_lt hbn] at hb
    · rw [List.getElem?_take_eq_none (by omega)] at hb; cases hb
  unfold rd at h ⊢
  split at h
  · exact h
  · split at h
    · rename_i hb; rw [key hb]; exact h
    · cases h
  · split at h
    · rename_i hb; rw [key hb]; exact h
    · cases h
  · cases h

theorem step1_loadAt {A : List (Nat × PV)} {H1 H2 H' : List Blk} {n : Nat} {t : TypeId} {x : Operand} {p : PV} (h2 : H2.take n = H1.take n) (h : step1 P Γ A (H1.take n) (.load t x) = some (p, H')) : step1 P Γ A H2 (.load t x) = some (p, H2) := by
  simp only [step1] at h ⊢
  split at h
  · rename_i cs ti hr ht
    rw [rd_take h2 hr, ht]
    simp only
    split at h
    · rename_i hag
      rw [if_pos hag]
      split at h
      · rename_i hle; rw [if_pos hle]; cases h; rfl
      · cases h
    · rename_i hag
      rw [if_neg hag]
      split at h
      · rename_i hq; cases h; rfl
      · cases h
  · cases h

/-- A stretch of plain operations of a drawn region. -/
def drun (P : Program) (Γ : Nat → PV) (ops : Array Oper) (cls : List Nat) (n0 : Nat) : List (Nat × Oper) → List (Nat × PV) → List Blk → Option (List (Nat × PV) × List Blk)
  | [], A, H => some (A, H)
  | (i, o) :: rest, A, H =>
    match wantA ops A o with
    | some false => drun P Γ ops cls n0 rest (aput A o.dst (.tup [])) H
    | some true => match cls.getD i 0 with
      | 0 => match step1 P Γ A [] o.op with
        | some (p, []) => drun P Γ ops cls n0 rest (aput A o.dst p) H
        | _ => none
      | 1 => match o.op with
        | .load t x => match step1 P Γ A H (.load t x) with
          | some (p, _) => drun P Γ ops cls n0 rest (aput A o.dst p) H
          | none => none
        | _ => none
      | 2 => match step1 P Γ A H o.op with
        | some (p, H') => drun P Γ ops cls n0 rest (aput A o.dst p) H'
        | none => none
      | 4 => match o.op with
        | .load t x => match step1 P Γ A (H.take n0) (.load t x) with
          | some (p, _) => drun P Γ ops cls n0 rest (aput A o.dst p) H
          | none => none
        | _ => none
      | _ => none
    | none => none

theorem dops_run (k : Nat) : ∀ {rest : List (Nat × Oper)} {A : List (Nat × PV)} {H : List Blk} {A' : List (Nat × PV)} {H' : List Blk},
    drun P Γ ops cls n0 (rest.take k) A H = some (A', H') → DOps P Γ ops cls n0 K (rest.drop k) A' H' → DOps P Γ ops cls n0 K rest A H := by
  induction k with
  | zero => intro rest A H A' H' h hk; simp only [List.take_zero, drun, Option.some.injEq, Prod.mk.injEq] at h; obtain ⟨rfl, rfl⟩ := h; exact hk
  | succ k ih =>
    intro rest A H A' H' h hk
    cases rest with
    | nil => simp only [List.take_nil, drun, Option.some.injEq, Prod.mk.injEq] at h; obtain ⟨rfl, rfl⟩ := h; exact hk
    | cons x rest =>
      obtain ⟨i, o⟩ := x
      simp only [List.take_succ_cons, drun] at h
      simp only [List.drop_succ_cons] at hk
      have hcong : ∀ H, step1 P Γ (restr ops o A) H o.op = step1 P Γ A H o.op := fun H => step1_congr _ fun x hx => by
        cases x with
        | tmp t => exact restr_in (looks_operand hx)
        | _ => rfl
      split at h
      · rename_i hw
        exact ⟨.tup [], H, by unfold DOne; rw [hw]; exact ⟨rfl, rfl⟩, ih h hk⟩
      · rename_i hw
        split at h
        · rename_i hc
          split at h
          · rename_i p hs
            refine ⟨p, H, ?_, ih h hk⟩
            unfold DOne
            rw [hw, hc]
            exact ⟨rfl, fun H => step1_sound (by rw [hcong]; exact step1_free hs H) ⟨rfl, rfl⟩⟩
          · cases h
        · rename_i hc
          split at h
          · rename_i t x ho
            split at h
            · rename_i p H1 hs
              refine ⟨p, H, ?_, ih h hk⟩
              unfold DOne
              rw [hw, hc]
              exact ⟨rfl, step1_sound (by rw [hcong, ho]; exact hs) ⟨rfl, step1_load hs⟩⟩
            · cases h
          · cases h
        · rename_i hc
          split at h
          · rename_i p H1 hs
            refine ⟨p, H1, ?_, ih h hk⟩
            unfold DOne
            rw [hw, hc]
            exact step1_sound (by rw [hcong]; exact hs) ⟨rfl, rfl⟩
          · cases h
        · rename_i hc
          split at h
          · rename_i t x ho
            split at h
            · rename_i p H1 hs
              refine ⟨p, H, ?_, ih h hk⟩
              unfold DOne
              rw [hw, hc]
              exact ⟨rfl, fun H2 h1 h2 => step1_sound (by rw [hcong, ho]; exact step1_loadAt h2 hs) ⟨rfl, rfl⟩⟩
            · cases h
          · cases h
        · cases h
      · cases h

theorem dops_end {A : List (Nat × PV)} {H : List Blk} (h : K A H) : DOps P Γ ops cls n0 K [] A H := ⟨A, fun _ => rfl, h⟩

/-- The whole region in one stretch. -/
theorem awp_drun {N id : Nat} {ro : Option Nat} {A A' : List (Nat × PV)} {H H' : List Blk} {D : List Nat} {Q : Post} (cls B : List Nat) (hm : P.follows .mixedOrders = true) (hok : dstOk N ops = true) (hd : drawOk ops cls B = true)
    (h : drun P Γ ops cls H.length (numbered ops) A H = some (A', H')) (hk : Q .normal A' H' D) : AWP P Γ N ro (.region id ops true) A H D Q :=
  awp_drawn cls B hm hok hd (dops_run (numbered ops).length (by rw [List.take_of_length_le (Nat.le_refl _)]; exact h) (by rw [List.drop_of_length_le (Nat.le_refl _)]; exact dops_end hk))

/-- One operation of class 0, by a rule. -/
theorem dops_one {i : Nat} {o : Oper} {rest : List (Nat × Oper)} {A : List (Nat × PV)} {H : List Blk} (p : PV) (hw : wantA ops A o = some true) (hc : cls.getD i 0 = 0)
    (h : ∀ H A', (∀ x ∈ o.op.operands, ev Γ A' x = ev Γ A x) → OStep P Γ o A' H (fun q H1 => q = p ∧ H1 = H)) (hk : DOps P Γ ops cls n0 K rest (aput A o.dst p) H) : DOps P Γ ops cls n0 K ((i, o) :: rest) A H :=
  ⟨p, H, by unfold DOne; rw [hw, hc]; exact ⟨rfl, fun H => dlift (h H)⟩, hk⟩

/-- A reader, by a rule. -/
theorem dops_reads {i : Nat} {o : Oper} {rest : List (Nat × Oper)} {A : List (Nat × PV)} {H : List Blk} (p : PV) (hw : wantA ops A o = some true) (hc : cls.getD i 0 = 1)
    (h : ∀ A', (∀ x ∈ o.op.operands, ev Γ A' x = ev Γ A x) → OStep P Γ o A' H (fun q H1 => q = p ∧ H1 = H)) (hk : DOps P Γ ops cls n0 K rest (aput A o.dst p) H) : DOps P Γ ops cls n0 K ((i, o) :: rest) A H :=
  ⟨p, H, by unfold DOne; rw [hw, hc]; exact ⟨rfl, dlift h⟩, hk⟩

/-- One that may turn blocks, by a rule. -/
theorem dops_turns {i : Nat} {o : Oper} {rest : List (Nat × Oper)} {A : List (Nat × PV)} {H H' : List Blk} (p : PV) (hw : wantA ops A o = some true) (hc : cls.getD i 0 = 2)
    (h : ∀ A', (∀ x ∈ o.op.operands, ev Γ A' x = ev Γ A x) → OStep P Γ o A' H (fun q H1 => q = p ∧ H1 = H')) (hk : DOps P Γ ops cls n0 K rest (aput A o.dst p) H') : DOps P Γ ops cls n0 K ((i, o) :: rest) A H :=
  ⟨p, H', by unfold DOne; rw [hw, hc]; exact dlift h, hk⟩

/-- One that leaves the first n0 blocks, by a rule. -/
theorem dops_makes {i : Nat} {o : Oper} {rest : List (Nat × Oper)} {A : List (Nat × PV)} {H H' : List Blk} (p : PV) (hw : wantA ops A o = some true) (hc : cls.getD i 0 = 3) (ht : H'.take n0 = H.take n0)
    (h : ∀ A', (∀ x ∈ o.op.operands, ev Γ A' x = ev Γ A x) → OStep P Γ o A' H (fun q H1 => q = p ∧ H1 = H')) (hk : DOps P Γ ops cls n0 K rest (aput A o.dst p) H') : DOps P Γ ops cls n0 K ((i, o) :: rest) A H :=
  ⟨p, H', by unfold DOne; rw [hw, hc]; exact ⟨ht, dlift h⟩, hk⟩

theorem dops_fn {i : Nat} {o : Oper} {rest : List (Nat × Oper)} {A : List (Nat × PV)} {H : List Blk} {x : Operand} {args : Array Operand} {ts : Array TypeId} {f : FuncId} {fs cs : List PV} {p : PV}
    (ho : o.op = .call { callee := .value x, args := args, argTypes := ts }) (hw : wantA ops A o = some true) (hc : cls.getD i 0 = 0) (hx : ev Γ A x = .func (.func f) fs cs) (he : Enters P f)
    (h : Gives P Γ f (fs ++ args.toList.map (ev Γ A) ++ cs) p) (hk : DOps P Γ ops cls n0 K rest (aput A o.dst p) H) : DOps P Γ ops cls n0 K ((i, o) :: rest) A H :=
  dops_one p hw hc (fun H A' hev => by
    have hops : ∀ y, y = x ∨ y ∈ args → ev Γ A' y = ev Γ A y := fun y hy => hev y (by
      rw [ho]
      simp only [Op.operands, Call.operands, Array.mem_append]
      rcases hy with rfl | hy
      · exact .inl (by simp)
      · exact .inr hy)
    refine os_fn ho (by rw [hops x (.inl rfl)]; exact hx) he (p := p) ?_ ⟨rfl, rfl⟩
    rw [List.map_congr_left (l := args.toList) fun y hy => hops y (.inr (by simpa using hy))]
    exact h) hk

theorem aops_fn {o : Oper} {Q : List (Nat × PV) → List Blk → Prop} {rest : List Oper} {A : List (Nat × PV)} {H : List Blk} {x : Operand} {args : Array Operand} {ts : Array TypeId} {f : FuncId} {fs cs : List PV} {p : PV}
    (ho : o.op = .call { callee := .value x, args := args, argTypes := ts }) (hg : o.guard = none) (hx : ev Γ A x = .func (.func f) fs cs) (he : Enters P f)
    (h : Gives P Γ f (fs ++ args.toList.map (ev Γ A) ++ cs) p) (hk : AOps P Γ ops Q rest (aput A o.dst p) H) : AOps P Γ ops Q (o :: rest) A H :=
  aops_one hg (os_fn ho hx he h hk)

theorem aops_call {o : Oper} {Q : List (Nat × PV) → List Blk → Prop} {rest : List Oper} {A : List (Nat × PV)} {H : List Blk} {x : Operand} {args : Array Operand} {ts : Array TypeId} {f : FuncId} {fs cs : List PV}
    (ho : o.op = .call { callee := .value x, args := args, argTypes := ts }) (hg : o.guard = none) (hx : ev Γ A x = .func (.func f) fs cs) (he : Enters P f)
    (h : ACalls P Γ f (fs ++ args.toList.map (ev Γ A) ++ cs) H (fun p H' => AOps P Γ ops Q rest (aput A o.dst p) H')) : AOps P Γ ops Q (o :: rest) A H :=
  aops_one hg (os_call ho hx he h)

end
end Go.Proofs.YtinedfjknhahmaaDoor.Fw
