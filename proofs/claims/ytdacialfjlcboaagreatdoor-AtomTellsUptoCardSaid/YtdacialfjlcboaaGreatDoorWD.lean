/- The framework, fourteenth part: stretches and calls in regions, drawn or not. -/
import Derived.Test.YtdacialfjlcboaaGreatDoorWC
import Derived.ProofKit
import Derived.OpenShut
import Derived.Test.YtdacialfjlcboaaGreatDoorProg
import Derived.Sort.Grow
import Derived.Deep.Draws
namespace Go.Proofs.YtdacialfjlcboaaGreatDoor.Fd
set_option linter.unusedVariables false
set_option linter.unusedSimpArgs false
set_option maxRecDepth 100000
open Go.RowKit

section
variable {P : Program} {Γ : Nat → PV} {ops : Array Oper} {cls : List Nat} {n0 : View} {K : List (Nat × PV) → List Blk → Prop}

theorem parts_congr {A B : List (Nat × PV)} {parts : Array (Nat × Operand)} (h : ∀ x ∈ (parts.toList.map (·.2)).toArray, ev Γ A x = ev Γ B x) :
    (parts.toList.map fun x => (x.1, ev Γ A x.2)) = parts.toList.map fun x => (x.1, ev Γ B x.2) :=
  List.map_congr_left fun x hx => by rw [h x.2 (by simpa using ⟨x.1, by simpa using hx⟩)]

theorem step1_congr {A B : List (Nat × PV)} {H : List Blk} (o : Op) (h : ∀ x ∈ o.operands, ev Γ A x = ev Γ B x) : step1 P Γ A H o = step1 P Γ B H o := by
  cases o with
  | build t parts => simp only [step1]; rw [parts_congr (by simpa only [Op.operands] using h)]
  | buildSlice t len parts => simp only [step1]; rw [parts_congr (by simpa only [Op.operands] using h)]
  | makeFunc fn fs cs =>
    simp only [step1]
    rw [List.map_congr_left (l := fs.toList) fun x hx => h x (by simp only [Op.operands, Array.mem_append]; exact .inl (by simpa using hx)),
      List.map_congr_left (l := cs.toList) fun x hx => h x (by simp only [Op.operands, Array.mem_append]; exact .inr (by simpa using hx))]
  | unOp u t x => cases u <;> simp_all [step1, Op.operands]
  | call c =>
    simp only [step1]
    split
    · rename_i x t
      rw [h x (by simp [Op.operands, Call.operands])]
    · rfl
  | _ => simp_all [step1, Op.operands, rd]

theorem step1_free {A : List (Nat × PV)} {o : Op} {p : PV} (h : step1 P Γ A [] o = some (p, [])) (H : List Blk) : step1 P Γ A H o = some (p, H) := by
  cases o with
  | move x => simp only [step1, Option.some.injEq, Prod.mk.injEq] at h ⊢; exact ⟨h.1, trivial⟩
  | assign x => simp only [step1, Option.some.injEq, Prod.mk.injEq] at h ⊢; exact ⟨h.1, trivial⟩
  | makeFunc fn fs cs => simp only [step1, Option.some.injEq, Prod.mk.injEq] at h ⊢; exact ⟨h.1, trivial⟩
  | alloc t => simp only [step1] at h; split at h <;> simp at h
  | box t x => simp only [step1] at h; split at h <;> simp at h
  | store t x y =>
    simp only [step1] at h
    split at h
    · simp [boxAt] at h
    · cases h
  | load t x =>
    simp only [step1] at h ⊢
    split at h
    · rename_i cs ti hr ht
      have hr' : rd Γ A H x = some cs := by
        unfold rd at hr ⊢
        split at hr
        · exact hr
        · simp at hr
        · simp at hr
        · cases hr
      rw [hr', ht]
      simp only at h ⊢
      split at h
      · rename_i hag
        rw [if_pos hag]
        split at h
        · rename_i hle; rw [if_pos hle]; simp only [Option.some.injEq, Prod.mk.injEq] at h ⊢; exact ⟨h.1, trivial⟩
        · cases h
      · rename_i hag
        rw [if_neg hag]
        split at h
        · simp only [Option.some.injEq, Prod.mk.injEq] at h ⊢; exact ⟨h.1, trivial⟩
        · cases h
    · cases h
  | unOp u t x => cases u <;> simp only [step1] at h ⊢ <;> (try cases h; done) <;> (repeat' split at h) <;> simp_all
  | binOp op t x y ty =>
    simp only [step1] at h ⊢
    split at h
    · rename_i b c hb hc
      split at h
      · rename_i q hq hr; simp only [Option.some.injEq, Prod.mk.injEq] at h; obtain ⟨rfl, _⟩ := h; simp [hb, hc, hq, hr]
      · cases h
    · split at h
      · split at h
        · split at h
          · simp only [Option.some.injEq, Prod.mk.injEq] at h
            obtain ⟨rfl, _⟩ := h
            rfl
          · cases h
        · cases h
      · cases h
    · rename_i hne
      split at h
      · rename_i r hr
        simp only [Option.some.injEq, Prod.mk.injEq] at h
        obtain ⟨rfl, _⟩ := h
        rfl
      · split at h
        · rename_i r hr
          simp only [Option.some.injEq, Prod.mk.injEq] at h
          obtain ⟨rfl, _⟩ := h
          rfl
        · cases h
  | call c =>
    simp only [step1] at h ⊢
    split at h
    · split at h <;> simp_all
    · cases h
  | makeInterface t x =>
    simp only [step1] at h ⊢
    split at h
    · cases h
    · rename_i d hne ht
      simp only [Option.some.injEq, Prod.mk.injEq] at h
      obtain ⟨rfl, _⟩ := h
      rfl
    · cases h
  | _ => simp only [step1] at h ⊢ <;> (try cases h; done) <;> (repeat' split at h) <;> simp_all

theorem step1_load {A : List (Nat × PV)} {H H' : List Blk} {t : TypeId} {x : Operand} {p : PV} (h : step1 P Γ A H (.load t x) = some (p, H')) : H' = H := by
  simp only [step1] at h
  split at h
  · split at h
    · split at h
      · cases h; rfl
      · cases h
    · split at h
      · cases h; rfl
      · cases h
  · cases h

theorem rd_vw {A : List (Nat × PV)} {H1 H2 : List Blk} {n : View} {x : Operand} {cs : List PV} (h2 : n.vw H2 = n.vw H1) (h : rd Γ A (n.vw H1) x = some cs) : rd Γ A H2 x = some cs := by
  have key : ∀ {b : Nat} {B : Blk}, (n.vw H1)[b]? = some B → B ≠ .dead → H2[b]? = some B := fun hb hd => View.at h2 hb hd
  unfold rd at h ⊢
  split at h
  · exact h
  · split at h
    · rename_i hb; rw [key hb nofun]; exact h
    · cases h
  · split at h
    · rename_i hb; rw [key hb nofun]; exact h
    · cases h
  · cases h

theorem step1_loadAt {A : List (Nat × PV)} {H1 H2 H' : List Blk} {n : View} {t : TypeId} {x : Operand} {p : PV} (h2 : n.vw H2 = n.vw H1) (h : step1 P Γ A (n.vw H1) (.load t x) = some (p, H')) : step1 P Γ A H2 (.load t x) = some (p, H2) := by
  simp only [step1] at h ⊢
  split at h
  · rename_i cs ti hr ht
    rw [rd_vw h2 hr, ht]
    simp only
    split at h
    · rename_i hag
      rw [if_pos hag]
      split at h
      · rename_i hle; rw [if_pos hle]; cases h; rfl
      · cases h
    · rename_i hag
      rw [if_neg hag]
      split at h
      · rename_i hq; cases h; rfl
      · cases h
  · cases h

/-- A stretch of plain operations of a drawn region. -/
def drun (P : Program) (Γ : Nat → PV) (ops : Array Oper) (cls : List Nat) (n0 : View) : List (Nat × Oper) → List (Nat × PV) → List Blk → Option (List (Nat × PV) × List Blk)
  | [], A, H => some (A, H)
  | (i, o) :: rest, A, H =>
    match wantA ops A o with
    | some false => drun P Γ ops cls n0 rest (aput A o.dst (.tup [])) H
    | some true => match cls.getD i 0 with
      | 0 => match step1 P Γ A [] o.op with
        | some (p, []) => drun P Γ ops cls n0 rest (aput A o.dst p) H
        | _ => none
      | 1 => match o.op with
        | .load t x => match step1 P Γ A H (.load t x) with
          | some (p, _) => drun P Γ ops cls n0 rest (aput A o.dst p) H
          | none => none
        | _ => none
      | 2 => match step1 P Γ A H o.op with
        | some (p, H') => drun P Γ ops cls n0 rest (aput A o.dst p) H'
        | none => none
      | 4 => match o.op with
        | .load t x => match step1 P Γ A (n0.vw H) (.load t x) with
          | some (p, _) => drun P Γ ops cls n0 rest (aput A o.dst p) H
          | none => none
        | _ => none
      | _ => none
    | none => none

theorem dops_run (k : Nat) : ∀ {rest : List (Nat × Oper)} {A : List (Nat × PV)} {H : List Blk} {A' : List (Nat × PV)} {H' : List Blk},
    drun P Γ ops cls n0 (rest.take k) A H = some (A', H') → DOps P Γ ops cls n0 K (rest.drop k) A' H' → DOps P Γ ops cls n0 K rest A H := by
  induction k with
  | zero => intro rest A H A' H' h hk; simp only [List.take_zero, drun, Option.some.injEq, Prod.mk.injEq] at h; obtain ⟨rfl, rfl⟩ := h; exact hk
  | succ k ih =>
    intro rest A H A' H' h hk
    cases rest with
    | nil => simp only [List.take_nil, drun, Option.some.injEq, Prod.mk.injEq] at h; obtain ⟨rfl, rfl⟩ := h; exact hk
    | cons x rest =>
      obtain ⟨i, o⟩ := x
      simp only [List.take_succ_cons, drun] at h
      simp only [List.drop_succ_cons] at hk
      have hcong : ∀ H, step1 P Γ (restr ops o A) H o.op = step1 P Γ A H o.op := fun H => step1_congr _ fun x hx => by
        cases x with
        | tmp t => exact restr_in (looks_operand hx)
        | _ => rfl
      split at h
      · rename_i hw
        exact ⟨.tup [], H, by unfold DOne; rw [hw]; exact ⟨rfl, rfl⟩, ih h hk⟩
      · rename_i hw
        split at h
        · rename_i hc
          split at h
          · rename_i p hs
            refine ⟨p, H, ?_, ih h hk⟩
            unfold DOne
            rw [hw, hc]
            exact ⟨rfl, fun H => step1_sound (by rw [hcong]; exact step1_free hs H) ⟨rfl, rfl⟩⟩
          · cases h
        · rename_i hc
          split at h
          · rename_i t x ho
            split at h
            · rename_i p H1 hs
              refine ⟨p, H, ?_, ih h hk⟩
              unfold DOne
              rw [hw, hc]
              exact ⟨rfl, step1_sound (by rw [hcong, ho]; exact hs) ⟨rfl, step1_load hs⟩⟩
            · cases h
          · cases h
        · rename_i hc
          split at h
          · rename_i p H1 hs
            refine ⟨p, H1, ?_, ih h hk⟩
            unfold DOne
            rw [hw, hc]
            exact step1_sound (by rw [hcong]; exact hs) ⟨rfl, rfl⟩
          · cases h
        · rename_i hc
          split at h
          · rename_i t x ho
            split at h
            · rename_i p H1 hs
              refine ⟨p, H, ?_, ih h hk⟩
              unfold DOne
              rw [hw, hc]
              exact ⟨rfl, fun H2 h1 h2 => step1_sound (by rw [hcong, ho]; exact step1_loadAt h2 hs) ⟨rfl, rfl⟩⟩
            · cases h
          · cases h
        · cases h
      · cases h

theorem dops_end {A : List (Nat × PV)} {H : List Blk} (h : K A H) : DOps P Γ ops cls n0 K [] A H := ⟨A, fun _ => rfl, h⟩

/-- The whole region in one stretch. -/
theorem awp_drun {N id : Nat} {ro : Option Nat} {A A' : List (Nat × PV)} {H H' : List Blk} {D : List Nat} {Q : Post} (cls B : List Nat) (hm : P.follows .mixedOrders = true) (hok : dstOk N ops = true) (hd : drawOk ops cls B = true)
    (h : drun P Γ ops cls ⟨H.length, none⟩ (numbered ops) A H = some (A', H')) (hk : Q .normal A' H' D) : AWP P Γ N ro (.region id ops true) A H D Q :=
  awp_drawn cls B hm hok hd (dops_run (numbered ops).length (by rw [List.take_of_length_le (Nat.le_refl _)]; exact h) (by rw [List.drop_of_length_le (Nat.le_refl _)]; exact dops_end hk))

/-- One operation of class 0, by a rule. -/
theorem dops_one {i : Nat} {o : Oper} {rest : List (Nat × Oper)} {A : List (Nat × PV)} {H : List Blk} (p : PV) (hw : wantA ops A o = some true) (hc : cls.getD i 0 = 0)
    (h : ∀ H A', (∀ x ∈ o.op.operands, ev Γ A' x = ev Γ A x) → OStep P Γ o A' H (fun q H1 => q = p ∧ H1 = H)) (hk : DOps P Γ ops cls n0 K rest (aput A o.dst p) H) : DOps P Γ ops cls n0 K ((i, o) :: rest) A H :=
  ⟨p, H, by unfold DOne; rw [hw, hc]; exact ⟨rfl, fun H => dlift (h H)⟩, hk⟩

/-- A reader, by a rule. -/
theorem dops_reads {i : Nat} {o : Oper} {rest : List (Nat × Oper)} {A : List (Nat × PV)} {H : List Blk} (p : PV) (hw : wantA ops A o = some true) (hc : cls.getD i 0 = 1)
    (h : ∀ A', (∀ x ∈ o.op.operands, ev Γ A' x = ev Γ A x) → OStep P Γ o A' H (fun q H1 => q = p ∧ H1 = H)) (hk : DOps P Γ ops cls n0 K rest (aput A o.dst p) H) : DOps P Γ ops cls n0 K ((i, o) :: rest) A H :=
  ⟨p, H, by unfold DOne; rw [hw, hc]; exact ⟨rfl, dlift h⟩, hk⟩

/-- One that may turn blocks, by a rule. -/
theorem dops_turns {i : Nat} {o : Oper} {rest : List (Nat × Oper)} {A : List (Nat × PV)} {H H' : List Blk} (p : PV) (hw : wantA ops A o = some true) (hc : cls.getD i 0 = 2)
    (h : ∀ A', (∀ x ∈ o.op.operands, ev Γ A' x = ev Γ A x) → OStep P Γ o A' H (fun q H1 => q = p ∧ H1 = H')) (hk : DOps P Γ ops cls n0 K rest (aput A o.dst p) H') : DOps P Γ ops cls n0 K ((i, o) :: rest) A H :=
  ⟨p, H', by unfold DOne; rw [hw, hc]; exact dlift h, hk⟩

/-- One that leaves the first n0 blocks, by a rule. -/
theorem dops_makes {i : Nat} {o : Oper} {rest : List (Nat × Oper)} {A : List (Nat × PV)} {H H' : List Blk} (p : PV) (hw : wantA ops A o = some true) (hc : cls.getD i 0 = 3) (ht : n0.vw H' = n0.vw H)
    (h : ∀ A', (∀ x ∈ o.op.operands, ev Γ A' x = ev Γ A x) → OStep P Γ o A' H (fun q H1 => q = p ∧ H1 = H')) (hk : DOps P Γ ops cls n0 K rest (aput A o.dst p) H') : DOps P Γ ops cls n0 K ((i, o) :: rest) A H :=
  ⟨p, H', by unfold DOne; rw [hw, hc]; exact ⟨ht, dlift h⟩, hk⟩

theorem dops_fn {i : Nat} {o : Oper} {rest : List (Nat × Oper)} {A : List (Nat × PV)} {H : List Blk} {x : Operand} {args : Array Operand} {ts : Array TypeId} {f : FuncId} {fs cs : List PV} {p : PV}
    (ho : o.op = .call { callee := .value x, args := args, argTypes := ts }) (hw : wantA ops A o = some true) (hc : cls.getD i 0 = 0) (hx : ev Γ A x = .func (.func f) fs cs) (he : Enters P f)
    (h : Gives P Γ f (fs ++ args.toList.map (ev Γ A) ++ cs) p) (hk : DOps P Γ ops cls n0 K rest (aput A o.dst p) H) : DOps P Γ ops cls n0 K ((i, o) :: rest) A H :=
  dops_one p hw hc (fun H A' hev => by
    have hops : ∀ y, y = x ∨ y ∈ args → ev Γ A' y = ev Γ A y := fun y hy => hev y (by
      rw [ho]
      simp only [Op.operands, Call.operands, Array.mem_append]
      rcases hy with rfl | hy
      · exact .inl (by simp)
      · exact .inr hy)
    refine os_fn ho (by rw [hops x (.inl rfl)]; exact hx) he (p := p) ?_ ⟨rfl, rfl⟩
    rw [List.map_congr_left (l := args.toList) fun y hy => hops y (.inr (by simpa using hy))]
    exact h) hk

theorem aops_fn {o : Oper} {Q : List (Nat × PV) → List Blk → Prop} {rest : List Oper} {A : List (Nat × PV)} {H : List Blk} {x : Operand} {args : Array Operand} {ts : Array TypeId} {f : FuncId} {fs cs : List PV} {p : PV}
    (ho : o.op = .call { callee := .value x, args := args, argTypes := ts }) (hg : o.guard = none) (hx : ev Γ A x = .func (.func f) fs cs) (he : Enters P f)
    (h : Gives P Γ f (fs ++ args.toList.map (ev Γ A) ++ cs) p) (hk : AOps P Γ ops Q rest (aput A o.dst p) H) : AOps P Γ ops Q (o :: rest) A H :=
  aops_one hg (os_fn ho hx he h hk)

theorem aops_call {o : Oper} {Q : List (Nat × PV) → List Blk → Prop} {rest : List Oper} {A : List (Nat × PV)} {H : List Blk} {x : Operand} {args : Array Operand} {ts : Array TypeId} {f : FuncId} {fs cs : List PV}
    (ho : o.op = .call { callee := .value x, args := args, argTypes := ts }) (hg : o.guard = none) (hx : ev Γ A x = .func (.func f) fs cs) (he : Enters P f)
    (h : ACalls P Γ f (fs ++ args.toList.map (ev Γ A) ++ cs) H (fun p H' => AOps P Γ ops Q rest (aput A o.dst p) H')) : AOps P Γ ops Q (o :: rest) A H :=
  aops_one hg (os_call ho hx he h)

end
end Go.Proofs.YtdacialfjlcboaaGreatDoor.Fd

/- The framework, eighteenth part: reading the arguments; what a law's row asks. -/
namespace Go.Proofs.YtdacialfjlcboaaGreatDoor.Fd
set_option linter.unusedVariables false
set_option linter.unusedSimpArgs false
set_option maxRecDepth 100000
open Go.RowKit Go.ChangeShapes Go.WideShapes

/-- All that the world holds, never turned. -/
def ofW (W : World) : Ghost := { M := fun a => W.cell? a, info := fun _ => { blk := 0, len := 0, size := 0, sub := 0, isRow := false } }

theorem sim_ofW {Γ : Nat → PV} {W : World} (h : ∀ g, Rep (ofW W) 0 (Γ g) (.pointer (some ⟨g, 0, none⟩))) (ht : ∀ g cs, Γ g = .cptr cs → ∃ C e q, W.heap[g]? = some (.cells C e q) ∧ C.size = cs.length) : Sim Γ W (ofW W) [] W :=
  ⟨BelowD.refl _ _, fun _ _ h => h, fun b B hB => by simp at hB, fun b B hB => by simp at hB, fun b b' B B' hB => by simp at hB, h, ht⟩

end Go.Proofs.YtdacialfjlcboaaGreatDoor.Fd

/- The framework, nineteenth part: loops whose state is told by a few slots; small helps. -/
namespace Go.Proofs.YtdacialfjlcboaaGreatDoor.Fd
set_option linter.unusedVariables false
set_option linter.unusedSimpArgs false
set_option maxRecDepth 100000
open Go.RowKit

theorem get_at (H L : List Blk) (k : Nat) : (H ++ L)[H.length + k]? = L[k]? := by rw [List.getElem?_append_right (by omega)]; simp
theorem get_at0 (H L : List Blk) : (H ++ L)[H.length]? = L[0]? := get_at H L 0
theorem set_at (H L : List Blk) (k : Nat) (B : Blk) : (H ++ L).set (H.length + k) B = H ++ L.set k B := by rw [List.set_append_right _ _ (by omega)]; simp
theorem set_at0 (H L : List Blk) (B : Blk) : (H ++ L).set H.length B = H ++ L.set 0 B := set_at H L 0 B
theorem take_at (H L : List Blk) (k : Nat) : (H ++ L).take (H.length + k) = H ++ L.take k := List.take_length_add_append k
theorem get_old {H : List Blk} (L : List Blk) {b : Nat} {B : Blk} (h : H[b]? = some B) : (H ++ L)[b]? = some B := by
  rw [List.getElem?_append_left (List.getElem?_eq_some_iff.1 h).1]; exact h
theorem box_old {H : List Blk} (L : List Blk) {b : Nat} {cs : List PV} (h : boxAt H b = some cs) : boxAt (H ++ L) b = some cs := by
  have := boxAt_spec h
  unfold boxAt
  rw [get_old L this]

theorem bd_app {H L : List Blk} (h : ∀ B ∈ H, B.bd H.length = true) (hL : (L.all fun B => B.bd (H ++ L).length) = true) : ∀ B ∈ H ++ L, B.bd (H ++ L).length = true := fun B hB => by
  rcases List.mem_append.1 hB with hB | hB
  · exact Blk.bd_mono (by simp) (h B hB)
  · exact List.all_eq_true.1 hL B hB
 where
  Blk.bd_mono {m n : Nat} (hm : m ≤ n) {B : Blk} (h : B.bd m = true) : B.bd n = true := by
    cases B with
    | box cs => exact PV.bdL_mono hm _ h
    | row sz cs => exact PV.bdL_mono hm _ h
    | loop l cs => exact PV.bdL_mono hm _ h
    | map es =>
      simp only [Blk.bd, List.all_eq_true, Bool.and_eq_true] at h ⊢
      exact fun e he => ⟨PV.bd_mono hm _ (h e he).1, PV.bd_mono hm _ (h e he).2⟩
    | dfr => rfl
    | dead => rfl

section
variable {P : Program} {Γ : Nat → PV} {N : Nat} {ro : Option Nat} {c : Code} {A : List (Nat × PV)} {H : List Blk} {D : List Nat} {Q : Post}

/-- What holds of the blocks at an activation's beginning. -/
theorem awp_bd (h : (∀ B ∈ H, B.bd H.length = true) → AWP P Γ N ro c A H D Q) : AWP P Γ N ro c A H D Q :=
  fun w0 G w a hs ha hd => h hs.bound w0 G w a hs ha hd

theorem zip_look (keep : List Nat) (ps : List PV) (t : Nat) (A : List (Nat × PV)) (h : keep.map (alook A) = ps) : alook (keep.zip ps) t = alook A t ∨ alook (keep.zip ps) t = .any := by
  subst h
  induction keep with
  | nil => exact .inr rfl
  | cons k keep ih =>
    simp only [List.map_cons, List.zip_cons_cons, alook]
    by_cases e : t = k
    · rw [if_pos e, e]; exact .inl rfl
    · rw [if_neg e]; exact ih

/-- A loop: its state is told by a few slots, and by the blocks. -/
theorem awp_for {S : Type} (keep : List Nat) (st : S → List PV) (Hs : S → List Blk) (μ : S → Nat) (ok : S → Prop) (s0 : S) (h0 : keep.map (alook A) = st s0) (hH : H = Hs s0) (hok : ok s0)
    (round : ∀ s, ok s → AWP P Γ N ro c (keep.zip (st s)) (Hs s) D (Post.then (fun A' H' D' => ∃ s', μ s' < μ s ∧ ok s' ∧ keep.map (alook A') = st s' ∧ H' = Hs s' ∧ D' = D) Q)) : AWP P Γ N ro (.loop c) A H D Q := by
  refine awp_loop (fun n A H D' => ∃ s, n = μ s ∧ ok s ∧ keep.map (alook A) = st s ∧ H = Hs s ∧ D' = D) (n := μ s0) ⟨s0, rfl, hok, h0, hH, rfl⟩ fun n A H D' hI => ?_
  obtain ⟨s, rfl, h1, h2, rfl, rfl⟩ := hI
  refine awp_less (fun t => zip_look keep _ t A h2) ((round s h1).mono fun e A' H' D' hq => ?_)
  cases e with
  | normal =>
    obtain ⟨s', k1, k2, k3, k4, k5⟩ := hq
    exact ⟨μ s', k1, s', rfl, k2, k3, k4, k5⟩
  | _ => exact hq

/-- The like, where rounds leave blocks behind that nobody asks for. -/
theorem awp_forG {S : Type} (keep : List Nat) (st : S → List PV) (Hs : S → List Blk) (μ : S → Nat) (ok : S → Prop) (s0 : S) (h0 : keep.map (alook A) = st s0) (hH : H = Hs s0) (hok : ok s0)
    (hbd : ∀ s, ok s → (∀ B ∈ Hs s, B.bd (Hs s).length = true) ∧ PV.bdL (Hs s).length (st s) = true) (hD : ∀ s, ok s → ∀ b ∈ D, b < (Hs s).length)
    (round : ∀ s, ok s → AWP P Γ N ro c (keep.zip (st s)) (Hs s) D (Post.then (fun A' H' D' => ∃ s' L, μ s' < μ s ∧ ok s' ∧ keep.map (alook A') = st s' ∧ H' = Hs s' ++ L ∧ D' = D ∧ (Hs s).length ≤ (Hs s').length) Q)) : AWP P Γ N ro (.loop c) A H D Q := by
  refine awp_loop (fun n A H D' => ∃ s, n = μ s ∧ ok s ∧ keep.map (alook A) = st s ∧ H = Hs s ∧ D' = D) (n := μ s0) ⟨s0, rfl, hok, h0, hH, rfl⟩ fun n A H D' hI => ?_
  obtain ⟨s, rfl, h1, h2, rfl, rfl⟩ := hI
  refine awp_less (fun t => zip_look keep _ t A h2) ?_
  intro w0 G w a hs ha hd
  refine wpIn_mono (round s h1 w0 G w a hs ha hd) fun e a' w' hl => ?_
  obtain ⟨G', A1, H1, D1, g1, g2, g3, g4, g5, g6⟩ := hl
  cases e with
  | normal =>
    obtain ⟨s', L, k1, k2, k3, rfl, rfl, k6⟩ := g6
    have ht : (Hs s' ++ L).take (Hs s').length = Hs s' := List.take_left' rfl
    obtain ⟨b1, b2⟩ := hbd s' k2
    have g1' := g1.take (Hs s').length (by simp) (by rw [ht]; exact b1)
    rw [ht] at g1'
    refine ⟨G', keep.zip (st s'), Hs s', D1, g1', ⟨g2.1, fun t => ?_⟩, ⟨g3.1, fun b hb => ⟨hD s' k2 b hb, (g3.2 b hb).2⟩⟩, g4, k6, μ s', k1, s', rfl, k2, ?_, rfl, rfl⟩
    · have hz := (g2.less fun t => zip_look keep _ t A1 k3).2 t
      refine hz.cut _ ?_
      have : ∀ (keep : List Nat) (ps : List PV), PV.bdL (Hs s').length ps = true → (alook (keep.zip ps) t).bd (Hs s').length = true := by
        intro keep
        induction keep with
        | nil => intro ps _; rfl
        | cons k keep ih =>
          intro ps hp
          cases ps with
          | nil => rfl
          | cons p ps =>
            simp only [PV.bdL, Bool.and_eq_true] at hp
            simp only [List.zip_cons_cons, alook]
            split
            · exact hp.1
            · exact ih ps hp.2
      exact this keep _ b2
    · have key : ∀ (keep : List Nat) (A : List (Nat × PV)) (ps : List PV), keep.map (alook A) = ps → keep.map (alook (keep.zip ps)) = ps := fun keep A ps h => by
        subst h
        apply List.map_congr_left
        intro k hk
        have : ∀ (l : List Nat), k ∈ l → alook (l.zip (l.map (alook A))) k = alook A k := by
          intro l
          induction l with
          | nil => intro h; cases h
          | cons x l ih =>
            intro h
            simp only [List.map_cons, List.zip_cons_cons, alook]
            by_cases e : k = x
            · rw [if_pos e, e]
            · rw [if_neg e]; exact ih (by simpa [e] using h)
        exact this keep hk
      exact key keep A1 _ k3
  | _ => exact ⟨G', A1, H1, D1, g1, g2, g3, g4, g5, g6⟩

/-- The end of a function that only computes, and left no mark. -/
theorem gives_end {fn : Func} {p : PV} {H0 : List Blk} {A' : List (Nat × PV)} {e : Exit} (he : e = .ret ∨ e = .normal) (L : List Blk) (h : ares P Γ A' (H0 ++ L) fn.results.toList = some p) :
    (e = .ret ∨ e = .normal) ∧ ([] : List Nat).Nodup ∧ (∀ b ∈ ([] : List Nat), (H0 ++ L)[b]? = some .dfr ∧ H0.length ≤ b) ∧ ares P Γ A' (H0 ++ L) fn.results.toList = some p ∧ ∃ L', H0 ++ L = H0 ++ L' :=
  ⟨he, List.nodup_nil, (fun b hb => by cases hb), h, L, rfl⟩

theorem gives_end0 {fn : Func} {p : PV} {H0 : List Blk} {A' : List (Nat × PV)} {e : Exit} (he : e = .ret ∨ e = .normal) (h : ares P Γ A' H0 fn.results.toList = some p) :
    (e = .ret ∨ e = .normal) ∧ ([] : List Nat).Nodup ∧ (∀ b ∈ ([] : List Nat), H0[b]? = some .dfr ∧ H0.length ≤ b) ∧ ares P Γ A' H0 fn.results.toList = some p ∧ ∃ L', H0 = H0 ++ L' :=
  ⟨he, List.nodup_nil, (fun b hb => by cases hb), h, [], (List.append_nil _).symm⟩

/-- The end of a function that leaves the blocks as they are. -/
theorem calls_end {fn : Func} {p : PV} {R : PV → List Blk → Prop} {A' : List (Nat × PV)} {e : Exit} (L : List Blk) (he : e = .ret ∨ e = .normal) (hbd : ∀ B ∈ H, B.bd H.length = true) (h : ares P Γ A' (H ++ L) fn.results.toList = some p) (hp : p.bd H.length = true) (hR : R p H) :
    RetQ P Γ fn H.length R e A' (H ++ L) [] := by
  have ht : (H ++ L).take H.length = H := List.take_left' rfl
  exact ⟨he, List.nodup_nil, (fun b hb => by cases hb), p, H.length, h, Nat.le_refl _, by simp, fun b hb => (by cases hb), hp, by rw [ht]; exact hbd, by rw [ht]; exact hR⟩

theorem calls_end0 {fn : Func} {p : PV} {R : PV → List Blk → Prop} {A' : List (Nat × PV)} {e : Exit} (he : e = .ret ∨ e = .normal) (hbd : ∀ B ∈ H, B.bd H.length = true) (h : ares P Γ A' H fn.results.toList = some p) (hp : p.bd H.length = true) (hR : R p H) :
    RetQ P Γ fn H.length R e A' H [] := by
  have := calls_end (P := P) (Γ := Γ) (fn := fn) (A' := A') (R := R) [] he hbd (by rw [List.append_nil]; exact h) hp hR
  rwa [List.append_nil] at this

end
end Go.Proofs.YtdacialfjlcboaaGreatDoor.Fd

/- The framework, twentieth part: what the runs are rewritten by. -/
namespace Go.Proofs.YtdacialfjlcboaaGreatDoor.Fd
set_option linter.unusedVariables false
set_option linter.unusedSimpArgs false
set_option maxRecDepth 100000
open Go.RowKit

theorem fw0 :
    (∀ (P : Program) (Γ : Nat → PV) (ops : Array Oper) (A : List (Nat × PV)) (H : List Blk), arun P Γ ops [] A H = some (A, H)) ∧
    (∀ (P : Program) (Γ : Nat → PV) (ops : Array Oper) (A : List (Nat × PV)) (H : List Blk) (d : Option Tmp) (op : Op) (t : TypeId) (p : String) (a : Array Edge) (rest : List Oper), arun P Γ ops (⟨d, op, t, p, a, none⟩ :: rest) A H = (match step1 P Γ A H op with | some (q, H1) => arun P Γ ops rest (aput A d q) H1 | none => none)) ∧
    (∀ (P : Program) (Γ : Nat → PV) (ops : Array Oper) (A : List (Nat × PV)) (H : List Blk) (d : Option Tmp) (op : Op) (t : TypeId) (p : String) (a : Array Edge) (rest : List Oper) (j : Nat) (want : Bool), arun P Γ ops (⟨d, op, t, p, a, some (j, want)⟩ :: rest) A H = (match (ops[j]?).bind (·.dst) with
      | some d' => match alook A d' with
        | .bool b => if b = want then (match step1 P Γ A H op with
            | some (q, H1) => arun P Γ ops rest (aput A d q) H1
            | none => none) else arun P Γ ops rest (aput A d (.tup [])) H
        | .tup [] => arun P Γ ops rest (aput A d (.tup [])) H
        | _ => none
      | none => none)) ∧
    (∀ (n : Nat) (H : List Blk), View.vw ⟨n, none⟩ H = H.take n) ∧
    (∀ (n b : Nat) (H : List Blk), View.vw ⟨n, some b⟩ H = (H.take n).set b .dead) ∧
    (∀ (P : Program) (Γ : Nat → PV) (ops : Array Oper) (cls : List Nat) (n0 : View) (A : List (Nat × PV)) (H : List Blk), drun P Γ ops cls n0 [] A H = some (A, H)) ∧
    (∀ (P : Program) (Γ : Nat → PV) (ops : Array Oper) (cls : List Nat) (n0 : View) (A : List (Nat × PV)) (H : List Blk) (i : Nat) (d : Option Tmp) (op : Op) (t : TypeId) (p : String) (a : Array Edge) (gd : Option (Nat × Bool)) (rest : List (Nat × Oper)), drun P Γ ops cls n0 ((i, ⟨d, op, t, p, a, gd⟩) :: rest) A H = (match wantA ops A ⟨d, op, t, p, a, gd⟩ with
    | some false => drun P Γ ops cls n0 rest (aput A d (.tup [])) H
    | some true => match cls.getD i 0 with
      | 0 => match step1 P Γ A [] op with
        | some (q, []) => drun P Γ ops cls n0 rest (aput A d q) H
        | _ => none
      | 1 => match op with
        | .load t x => match step1 P Γ A H (.load t x) with
          | some (q, _) => drun P Γ ops cls n0 rest (aput A d q) H
          | none => none
        | _ => none
      | 2 => match step1 P Γ A H op with
        | some (q, H1) => drun P Γ ops cls n0 rest (aput A d q) H1
        | none => none
      | 4 => match op with
        | .load t x => match step1 P Γ A (n0.vw H) (.load t x) with
          | some (q, _) => drun P Γ ops cls n0 rest (aput A d q) H
          | none => none
        | _ => none
      | _ => none
    | none => none)) ∧
    (∀ (ops : Array Oper) (A : List (Nat × PV)) (d : Option Tmp) (op : Op) (t : TypeId) (p : String) (a : Array Edge), wantA ops A ⟨d, op, t, p, a, none⟩ = some true) ∧
    (∀ (ops : Array Oper) (A : List (Nat × PV)) (d : Option Tmp) (op : Op) (t : TypeId) (p : String) (a : Array Edge) (j : Nat) (want : Bool), wantA ops A ⟨d, op, t, p, a, some (j, want)⟩ = (match (ops[j]?).bind (·.dst) with | some d => (match alook A d with | .bool b => some (b == want) | .tup [] => some false | _ => none) | none => none)) ∧
    (∀ (P : Program) (Γ : Nat → PV) (A : List (Nat × PV)) (H : List Blk) (x : Operand), step1 P Γ A H (.move x) = some (ev Γ A x, H)) ∧
    (∀ (P : Program) (Γ : Nat → PV) (A : List (Nat × PV)) (H : List Blk) (x : Operand), step1 P Γ A H (.assign x) = some (ev Γ A x, H)) ∧
    (∀ (P : Program) (Γ : Nat → PV) (A : List (Nat × PV)) (H : List Blk) (c x y : Operand), step1 P Γ A H (.pick c x y) = (match ev Γ A c with | .bool b => some (if b = true then ev Γ A x else ev Γ A y, H) | _ => none)) ∧
    (∀ (P : Program) (Γ : Nat → PV) (A : List (Nat × PV)) (H : List Blk) (t : TypeId), step1 P Γ A H (.alloc t) = (match tiOf P t with | some ti => some (.ptr H.length 0, H ++ [.box ti.zero]) | none => none)) ∧
    (∀ (P : Program) (Γ : Nat → PV) (A : List (Nat × PV)) (H : List Blk) (t : TypeId) (x : Operand), step1 P Γ A H (.box t x) = (if (ev Γ A x).shaped = true then some (.ptr H.length 0, H ++ [.box (ev Γ A x).cells]) else none)) ∧
    (∀ (P : Program) (Γ : Nat → PV) (A : List (Nat × PV)) (H : List Blk) (t : TypeId) (x : Operand), step1 P Γ A H (.load t x) = (match rd Γ A H x, tiOf P t with
    | some cs, some ti => if ti.agg = true then (if ti.size ≤ cs.length then some (.agg (cs.take ti.size), H) else none) else (match cs[0]? with | some p => some (p, H) | none => none)
    | _, _ => none)) ∧
    (∀ (P : Program) (Γ : Nat → PV) (A : List (Nat × PV)) (H : List Blk) (t : TypeId) (x y : Operand), step1 P Γ A H (.store t x y) = (match ev Γ A x, tiOf P t with
    | .ptr b q, some ti => match boxAt H b with
      | some cs => if (ev Γ A y).shaped = true ∧ (ev Γ A y).cells.length = ti.size ∧ q + ti.size ≤ cs.length then some (.any, H.set b (.box (splice cs q (ev Γ A y).cells))) else none
      | none => none
    | _, _ => none)) ∧
    (∀ (P : Program) (Γ : Nat → PV) (A : List (Nat × PV)) (H : List Blk) (s : TypeId) (x : Operand) (f : Nat), step1 P Γ A H (.fieldAddr s x f) = (match fldOf P s f with | some (off, _, _) => (match shift (ev Γ A x) off with | some p => some (p, H) | none => none) | none => none)) ∧
    (∀ (P : Program) (Γ : Nat → PV) (A : List (Nat × PV)) (H : List Blk) (s : TypeId) (x : Operand) (f : Nat), step1 P Γ A H (.field s x f) = (match fldOf P s f, ev Γ A x with
    | some (off, size, ag), .agg cs => if ag = true then (if off + size ≤ cs.length then some (.agg ((cs.drop off).take size), H) else none) else (match cs[off]? with | some p => some (p, H) | none => none)
    | _, _ => none)) ∧
    (∀ (P : Program) (Γ : Nat → PV) (A : List (Nat × PV)) (H : List Blk) (op : BinOp) (t : TypeId) (x y : Operand) (u : TypeId), step1 P Γ A H (.binOp op t x y u) = (match ev Γ A x, ev Γ A y with
    | .bool b, .bool c => match P.underlying t, eqv op (b == c) with
      | some .bool, some p => some (p, H)
      | _, _ => none
    | .agg xs, .agg ys => match eqOf P t with
      | some l => match aeqs l xs ys with
        | some b => match eqv op b with
          | some r => some (r, H)
          | none => none
        | none => none
      | none => none
    | p, q => match abin op p q with
      | some r => some (r, H)
      | none => match nilStep P op t p y with
        | some r => some (r, H)
        | none => none)) ∧
    (∀ (P : Program) (Γ : Nat → PV) (A : List (Nat × PV)) (H : List Blk) (t : TypeId) (x : Operand), step1 P Γ A H (.unOp .not t x) = (match ev Γ A x with | .bool b => some (.bool !b, H) | _ => none)) ∧
    (∀ (P : Program) (Γ : Nat → PV) (A : List (Nat × PV)) (H : List Blk) (t : TypeId) (x : Operand), step1 P Γ A H (.unOp .neg t x) = (match ev Γ A x with | .int k n => some (.int k (k.wrap (0 - n)), H) | _ => none)) ∧
    (∀ (P : Program) (Γ : Nat → PV) (A : List (Nat × PV)) (H : List Blk) (s t : TypeId) (x : Operand), step1 P Γ A H (.convert s t x) = (match P.underlying s, P.underlying t, ev Γ A x with
    | some _, some (.int k'), .int _ n => some (.int k' (k'.wrap n), H)
    | some _, some .string, .str u => some (.str u, H)
    | _, _, _ => none)) ∧
    (∀ (P : Program) (Γ : Nat → PV) (A : List (Nat × PV)) (H : List Blk) (x : Operand), step1 P Γ A H (.nilCheck x) = (match ev Γ A x with | .ptr b q => some (.ptr b q, H) | .cptr cs => some (.cptr cs, H) | .eptr b q l => some (.eptr b q l, H) | _ => none)) ∧
    (∀ (P : Program) (Γ : Nat → PV) (A : List (Nat × PV)) (H : List Blk) (x : Operand) (i : Nat), step1 P Γ A H (.extract x i) = (match ev Γ A x with | .tup ps => (match ps[i]? with | some p => some (p, H) | none => none) | _ => none)) ∧
    (∀ (P : Program) (Γ : Nat → PV) (A : List (Nat × PV)) (H : List Blk) (fn : Go.Fn) (fs cs : Array Operand), step1 P Γ A H (.makeFunc fn fs cs) = some (.func fn (fs.toList.map (ev Γ A)) (cs.toList.map (ev Γ A)), H)) ∧
    (∀ (P : Program) (Γ : Nat → PV) (A : List (Nat × PV)) (H : List Blk) (t : TypeId) (x : Operand), step1 P Γ A H (.makeInterface t x) = (match P.underlying t with | some (.interface _) => none | some _ => some (.iface t (ev Γ A x), H) | none => none)) ∧
    (∀ (P : Program) (Γ : Nat → PV) (A : List (Nat × PV)) (H : List Blk) (t : TypeId) (parts : Array (Nat × Operand)), step1 P Γ A H (.build t parts) = (match tiOf P t, plOf P t with
    | some ti, some pl => match abuild (fun i => pl[i]?) ti.zero (parts.toList.map fun x => (x.1, ev Γ A x.2)) with
      | some cs => some (.agg cs, H)
      | none => none
    | _, _ => none)) ∧
    (∀ (P : Program) (Γ : Nat → PV) (A : List (Nat × PV)) (H : List Blk) (t : TypeId) (len : Nat) (parts : Array (Nat × Operand)), step1 P Γ A H (.buildSlice t len parts) = (match P.underlying t with
    | some (.slice e) => match tiOf P e with
      | some ti => if 0 < ti.size ∧ len * ti.size ≤ 16777216 then
          (match abuild (fun i => some (i * ti.size, ti.size)) (List.replicate (len * ti.size) .any) (parts.toList.map fun x => (x.1, ev Γ A x.2)) with
          | some cs => if PV.plainL cs = true then some (.vec (chunk ti.size len cs) true, H) else none
          | none => none) else none
      | none => none
    | _ => none)) ∧
    (∀ (P : Program) (Γ : Nat → PV) (A : List (Nat × PV)) (H : List Blk) (t : TypeId) (x i : Operand), step1 P Γ A H (.indexAddr t x i) = (match elOf P t, ev Γ A x, ev Γ A i with
    | some (sz, _), .vec es _, .int _ n => match es[n.toNat]? with
      | some e => if 0 ≤ n ∧ e.length = sz then some (.cptr e, H) else none
      | none => none
    | none, q, .int _ n => match arOf P t with
      | some (m, sz) => if 0 ≤ n ∧ n < (m : Int) then (match shift q (n.toNat * sz) with
        | some p => some (p, H)
        | none => none) else none
      | none => none
    | _, _, _ => none)) ∧
    (∀ (P : Program) (Γ : Nat → PV) (A : List (Nat × PV)) (H : List Blk) (t : TypeId) (x i : Operand), step1 P Γ A H (.index t x i) = (match P.underlying t, ev Γ A x, ev Γ A i with
    | some .string, .str s, .int _ n => match s[n.toNat]? with
      | some c => if 0 ≤ n then some (.int .u8 c.toNat, H) else none
      | none => none
    | _, _, _ => none)) ∧
    (∀ (P : Program) (Γ : Nat → PV) (A : List (Nat × PV)) (H : List Blk) (x : Operand) (t : TypeId), step1 P Γ A H (.call { callee := .builtin .len, args := ⟨[x]⟩, argTypes := ⟨[t]⟩ }) = (match P.underlying t, ev Γ A x with
      | some .string, .str s => some (.int .i64 s.length, H)
      | some (.slice _), .vec es _ => some (.int .i64 es.length, H)
      | some (.slice _), .row _ _ k _ => some (.int .i64 k, H)
      | _, _ => none)) ∧
    (∀ (Γ : Nat → PV) (A : List (Nat × PV)) (t : Nat), ev Γ A (.tmp t) = alook A t) ∧
    (∀ (Γ : Nat → PV) (A : List (Nat × PV)) (v : Value), ev Γ A (.const v) = ofC v) ∧
    (∀ (Γ : Nat → PV) (A : List (Nat × PV)) (x : Nat), ev Γ A (.global x) = Γ x) ∧
    (∀ (Γ : Nat → PV) (A : List (Nat × PV)) (f : Nat), ev Γ A (.func f) = .func (.func f) [] []) ∧
    (∀ (b : Bool), ofC (.bool b) = .bool b) ∧
    (∀ (k : IntKind) (n : Int), ofC (.int k n) = .int k n) ∧
    (∀ (l : List UInt8), ofC (.string ⟨⟨l⟩⟩) = (if l.length ≤ 9223372036854775807 then .str l else .any)) ∧
    (∀ (x : UInt8) (l : List UInt8), (x :: l).length = l.length + 1) ∧
    (([] : List UInt8).length = 0) := by
  refine ⟨?_, ?_, ?_, ?_, ?_, ?_, ?_, ?_, ?_, ?_, ?_, ?_, ?_, ?_, ?_, ?_, ?_, ?_, ?_, ?_, ?_, ?_, ?_, ?_, ?_, ?_, ?_, ?_, ?_, ?_, ?_, ?_, ?_, ?_, ?_, ?_, ?_, ?_, ?_, ?_⟩
  all_goals first | rfl | (intros; rfl) | (intros; simp [abin]; done) | (intros; simp [peq]; done) | (intros; simp; done) | (intros; exact get_at0 _ _) | (intros; exact get_at _ _ _) | (intros; exact set_at0 _ _ _) | (intros; exact set_at _ _ _ _) | (intros; exact take_at _ _ _) | (intro b; cases b <;> rfl) | (intro op; cases op <;> intros <;> rfl)

theorem fw1 :
    (ofC (.pointer none) = .nilp) ∧
    (ofC (.map none) = .nilm) ∧
    (ofC .nilFunc = .nilf) ∧
    (ofC .nilIface = .nili) ∧
    (ofC (.slice none 0 0) = .vec [] true) ∧
    (∀ (k : Nat) (p : PV) (l : List (Nat × PV)) (t : Nat), alook ((k, p) :: l) t = (if t = k then p else alook l t)) ∧
    (∀ (A : List (Nat × PV)) (d : Tmp) (p : PV), aput A (some d) p = (d, p) :: A) ∧
    (∀ (A : List (Nat × PV)) (p : PV), aput A none p = A) ∧
    (∀ (k : Nat), initA k [] = []) ∧
    (∀ (k : Nat) (p : PV) (ps : List PV), initA k (p :: ps) = (k, p) :: initA (k + 1) ps) ∧
    (∀ (Γ : Nat → PV) (A : List (Nat × PV)) (H : List Blk) (x : Operand), rd Γ A H x = (match ev Γ A x with
  | .cptr cs => some cs
  | .ptr b o => match H[b]? with
    | some (.box cs) => some (cs.drop o)
    | _ => none
  | .eptr b o len => match H[b]? with
    | some (.row _ cs) => if cs.length = len then some (cs.drop o) else none
    | _ => none
  | _ => none)) ∧
    (∀ (H : List Blk) (b : Nat), boxAt H b = (match H[b]? with | some (.box cs) => some cs | _ => none)) ∧
    (∀ (b q n : Nat), shift (.ptr b q) n = some (.ptr b (q + n))) ∧
    (∀ (cs : List PV) (n : Nat), shift (.cptr cs) n = some (.cptr (cs.drop n))) ∧
    (∀ (b q l n : Nat), shift (.eptr b q l) n = some (.eptr b (q + n) l)) ∧
    (∀ (b : Bool), PV.shaped (.bool b) = true) ∧
    (∀ (b : Bool), PV.cells (.bool b) = [.bool b]) ∧
    (∀ (k : IntKind) (n : Int), PV.shaped (.int k n) = true) ∧
    (∀ (k : IntKind) (n : Int), PV.cells (.int k n) = [.int k n]) ∧
    (∀ (s : List UInt8), PV.shaped (.str s) = true) ∧
    (∀ (s : List UInt8), PV.cells (.str s) = [.str s]) ∧
    (∀ (es : List (List PV)) (f : Bool), PV.shaped (.vec es f) = true) ∧
    (∀ (es : List (List PV)) (f : Bool), PV.cells (.vec es f) = [.vec es f]) ∧
    (∀ (b o k sz : Nat), PV.shaped (.row b o k sz) = true) ∧
    (∀ (b o k sz : Nat), PV.cells (.row b o k sz) = [.row b o k sz]) ∧
    (∀ (b o : Nat), PV.shaped (.ptr b o) = true) ∧
    (∀ (b o : Nat), PV.cells (.ptr b o) = [.ptr b o]) ∧
    (∀ (cs : List PV), PV.shaped (.cptr cs) = true) ∧
    (∀ (cs : List PV), PV.cells (.cptr cs) = [.cptr cs]) ∧
    (∀ (fn : Go.Fn) (fs cs : List PV), PV.shaped (.func fn fs cs) = true) ∧
    (∀ (fn : Go.Fn) (fs cs : List PV), PV.cells (.func fn fs cs) = [.func fn fs cs]) ∧
    (∀ (t : Nat) (v : PV), PV.shaped (.iface t v) = true) ∧
    (∀ (t : Nat) (v : PV), PV.cells (.iface t v) = [.iface t v]) ∧
    (∀ (b : Nat), PV.shaped (.map b) = true) ∧
    (∀ (b : Nat), PV.cells (.map b) = [.map b]) ∧
    (PV.shaped (.nilp) = true) ∧
    (PV.cells (.nilp) = [.nilp]) ∧
    (PV.shaped (.nilm) = true) ∧
    (PV.cells (.nilm) = [.nilm]) ∧
    (PV.shaped (.nilf) = true) := by
  refine ⟨?_, ?_, ?_, ?_, ?_, ?_, ?_, ?_, ?_, ?_, ?_, ?_, ?_, ?_, ?_, ?_, ?_, ?_, ?_, ?_, ?_, ?_, ?_, ?_, ?_, ?_, ?_, ?_, ?_, ?_, ?_, ?_, ?_, ?_, ?_, ?_, ?_, ?_, ?_, ?_⟩
  all_goals first | rfl | (intros; rfl) | (intros; simp [abin]; done) | (intros; simp [peq]; done) | (intros; simp; done) | (intros; exact get_at0 _ _) | (intros; exact get_at _ _ _) | (intros; exact set_at0 _ _ _) | (intros; exact set_at _ _ _ _) | (intros; exact take_at _ _ _) | (intro b; cases b <;> rfl) | (intro op; cases op <;> intros <;> rfl)

theorem fw2 :
    (PV.cells (.nilf) = [.nilf]) ∧
    (PV.shaped (.nili) = true) ∧
    (PV.cells (.nili) = [.nili]) ∧
    (∀ (cs : List PV), PV.shaped (.agg cs) = true) ∧
    (∀ (cs : List PV), PV.cells (.agg cs) = cs) ∧
    (∀ (cs : List PV) (q : Nat) (xs : List PV), splice cs q xs = cs.take q ++ xs ++ cs.drop (q + xs.length)) ∧
    (∀ (b : Bool), eqv .eql b = some (.bool b)) ∧
    (∀ (b : Bool), eqv .neq b = some (.bool !b)) ∧
    (∀ (pl : Nat → Option (Nat × Nat)) (cs : List PV), abuild pl cs [] = some cs) ∧
    (∀ (pl : Nat → Option (Nat × Nat)) (cs : List PV) (i : Nat) (p : PV) (l : List (Nat × PV)), abuild pl cs ((i, p) :: l) = (match pl i with | none => none | some (off, size) => if p.shaped = true ∧ p.cells.length = size ∧ off + size ≤ cs.length then abuild pl (splice cs off p.cells) l else none)) ∧
    (∀ (sz : Nat) (cs : List PV), chunk sz 0 cs = []) ∧
    (∀ (sz n : Nat) (cs : List PV), chunk sz (n + 1) cs = cs.take sz :: chunk sz n (cs.drop sz)) ∧
    (∀ (m : Nat) (b : Bool), PV.bd m (.bool b) = true) ∧
    (∀ (m : Nat) (k : IntKind) (n : Int), PV.bd m (.int k n) = true) ∧
    (∀ (m : Nat) (s : List UInt8), PV.bd m (.str s) = true) ∧
    (∀ (m : Nat) (es : List (List PV)) (f : Bool), PV.bd m (.vec es f) = true) ∧
    (∀ (m : Nat) (b o k sz : Nat), PV.bd m (.row b o k sz) = decide (b < m)) ∧
    (∀ (m : Nat) (b o : Nat), PV.bd m (.ptr b o) = decide (b < m)) ∧
    (∀ (m : Nat) (cs : List PV), PV.bd m (.cptr cs) = true) ∧
    (∀ (m : Nat) (fn : Go.Fn) (fs cs : List PV), PV.bd m (.func fn fs cs) = (PV.bdL m fs && PV.bdL m cs)) ∧
    (∀ (m : Nat) (t : Nat) (v : PV), PV.bd m (.iface t v) = v.bd m) ∧
    (∀ (m : Nat) (b : Nat), PV.bd m (.map b) = decide (b < m)) ∧
    (∀ (m : Nat) , PV.bd m (.nilp) = true) ∧
    (∀ (m : Nat) , PV.bd m (.nilm) = true) ∧
    (∀ (m : Nat) , PV.bd m (.nilf) = true) ∧
    (∀ (m : Nat) , PV.bd m (.nili) = true) ∧
    (∀ (m : Nat) (cs : List PV), PV.bd m (.agg cs) = PV.bdL m cs) ∧
    (∀ (m : Nat) (cs : List PV), PV.bd m (.tup cs) = PV.bdL m cs) ∧
    (∀ (m : Nat), PV.bd m .any = true) ∧
    (∀ (m : Nat), PV.bdL m [] = true) ∧
    (∀ (m : Nat) (p : PV) (ps : List PV), PV.bdL m (p :: ps) = (p.bd m && PV.bdL m ps)) ∧
    (∀ (x : PV) (l : List PV), (x :: l)[0]? = some x) ∧
    (∀ (x : PV) (l : List PV) (n : Nat), (x :: l)[n + 1]? = l[n]?) ∧
    (∀ (x : PV) (l : List PV), (x :: l).take 0 = []) ∧
    (∀ (x : PV) (l : List PV) (n : Nat), (x :: l).take (n + 1) = x :: l.take n) ∧
    (∀ (l : List PV), l.drop 0 = l) ∧
    (∀ (x : PV) (l : List PV) (n : Nat), (x :: l).drop (n + 1) = l.drop n) ∧
    (∀ (n : Nat), ([] : List PV).take n = []) ∧
    (∀ (n : Nat), ([] : List PV).drop n = []) ∧
    (∀ (x : PV) (l : List PV), (x :: l).length = l.length + 1) := by
  refine ⟨?_, ?_, ?_, ?_, ?_, ?_, ?_, ?_, ?_, ?_, ?_, ?_, ?_, ?_, ?_, ?_, ?_, ?_, ?_, ?_, ?_, ?_, ?_, ?_, ?_, ?_, ?_, ?_, ?_, ?_, ?_, ?_, ?_, ?_, ?_, ?_, ?_, ?_, ?_, ?_⟩
  all_goals first | rfl | (intros; rfl) | (intros; simp [abin]; done) | (intros; simp [peq]; done) | (intros; simp; done) | (intros; exact get_at0 _ _) | (intros; exact get_at _ _ _) | (intros; exact set_at0 _ _ _) | (intros; exact set_at _ _ _ _) | (intros; exact take_at _ _ _) | (intro b; cases b <;> rfl) | (intro op; cases op <;> intros <;> rfl)

theorem fw3 :
    (([] : List PV).length = 0) ∧
    (∀ (x : PV) (l k : List PV), (x :: l) ++ k = x :: (l ++ k)) ∧
    (∀ (l : List PV), [] ++ l = l) ∧
    (∀ (l : List PV), l ++ [] = l) ∧
    (∀ (l k m : List PV), (l ++ k) ++ m = l ++ (k ++ m)) ∧
    (∀ (l k : List PV), (l ++ k).length = l.length + k.length) ∧
    (∀ (x : Blk) (l : List Blk), (x :: l)[0]? = some x) ∧
    (∀ (x : Blk) (l : List Blk) (n : Nat), (x :: l)[n + 1]? = l[n]?) ∧
    (∀ (x : Blk) (l : List Blk), (x :: l).take 0 = []) ∧
    (∀ (x : Blk) (l : List Blk) (n : Nat), (x :: l).take (n + 1) = x :: l.take n) ∧
    (∀ (l : List Blk), l.drop 0 = l) ∧
    (∀ (x : Blk) (l : List Blk) (n : Nat), (x :: l).drop (n + 1) = l.drop n) ∧
    (∀ (n : Nat), ([] : List Blk).take n = []) ∧
    (∀ (n : Nat), ([] : List Blk).drop n = []) ∧
    (∀ (x : Blk) (l : List Blk), (x :: l).length = l.length + 1) ∧
    (([] : List Blk).length = 0) ∧
    (∀ (x : Blk) (l k : List Blk), (x :: l) ++ k = x :: (l ++ k)) ∧
    (∀ (l : List Blk), [] ++ l = l) ∧
    (∀ (l : List Blk), l ++ [] = l) ∧
    (∀ (l k m : List Blk), (l ++ k) ++ m = l ++ (k ++ m)) ∧
    (∀ (l k : List Blk), (l ++ k).length = l.length + k.length) ∧
    (∀ (x : Oper) (l : List Oper), (x :: l)[0]? = some x) ∧
    (∀ (x : Oper) (l : List Oper) (n : Nat), (x :: l)[n + 1]? = l[n]?) ∧
    (∀ (x : Oper) (l : List Oper), (x :: l).take 0 = []) ∧
    (∀ (x : Oper) (l : List Oper) (n : Nat), (x :: l).take (n + 1) = x :: l.take n) ∧
    (∀ (l : List Oper), l.drop 0 = l) ∧
    (∀ (x : Oper) (l : List Oper) (n : Nat), (x :: l).drop (n + 1) = l.drop n) ∧
    (∀ (n : Nat), ([] : List Oper).take n = []) ∧
    (∀ (n : Nat), ([] : List Oper).drop n = []) ∧
    (∀ (x : Oper) (l : List Oper), (x :: l).length = l.length + 1) ∧
    (([] : List Oper).length = 0) ∧
    (∀ (x : Oper) (l k : List Oper), (x :: l) ++ k = x :: (l ++ k)) ∧
    (∀ (l : List Oper), [] ++ l = l) ∧
    (∀ (l : List Oper), l ++ [] = l) ∧
    (∀ (l k m : List Oper), (l ++ k) ++ m = l ++ (k ++ m)) ∧
    (∀ (l k : List Oper), (l ++ k).length = l.length + k.length) ∧
    (∀ (x : (List PV)) (l : List (List PV)), (x :: l)[0]? = some x) ∧
    (∀ (x : (List PV)) (l : List (List PV)) (n : Nat), (x :: l)[n + 1]? = l[n]?) ∧
    (∀ (x : (List PV)) (l : List (List PV)), (x :: l).take 0 = []) ∧
    (∀ (x : (List PV)) (l : List (List PV)) (n : Nat), (x :: l).take (n + 1) = x :: l.take n) := by
  refine ⟨?_, ?_, ?_, ?_, ?_, ?_, ?_, ?_, ?_, ?_, ?_, ?_, ?_, ?_, ?_, ?_, ?_, ?_, ?_, ?_, ?_, ?_, ?_, ?_, ?_, ?_, ?_, ?_, ?_, ?_, ?_, ?_, ?_, ?_, ?_, ?_, ?_, ?_, ?_, ?_⟩
  all_goals first | rfl | (intros; rfl) | (intros; simp [abin]; done) | (intros; simp [peq]; done) | (intros; simp; done) | (intros; exact get_at0 _ _) | (intros; exact get_at _ _ _) | (intros; exact set_at0 _ _ _) | (intros; exact set_at _ _ _ _) | (intros; exact take_at _ _ _) | (intro b; cases b <;> rfl) | (intro op; cases op <;> intros <;> rfl)

theorem fw4 :
    (∀ (l : List (List PV)), l.drop 0 = l) ∧
    (∀ (x : (List PV)) (l : List (List PV)) (n : Nat), (x :: l).drop (n + 1) = l.drop n) ∧
    (∀ (n : Nat), ([] : List (List PV)).take n = []) ∧
    (∀ (n : Nat), ([] : List (List PV)).drop n = []) ∧
    (∀ (x : (List PV)) (l : List (List PV)), (x :: l).length = l.length + 1) ∧
    (([] : List (List PV)).length = 0) ∧
    (∀ (x : (List PV)) (l k : List (List PV)), (x :: l) ++ k = x :: (l ++ k)) ∧
    (∀ (l : List (List PV)), [] ++ l = l) ∧
    (∀ (l : List (List PV)), l ++ [] = l) ∧
    (∀ (l k m : List (List PV)), (l ++ k) ++ m = l ++ (k ++ m)) ∧
    (∀ (l k : List (List PV)), (l ++ k).length = l.length + k.length) ∧
    (∀ (x : (Nat × Oper)) (l : List (Nat × Oper)), (x :: l)[0]? = some x) ∧
    (∀ (x : (Nat × Oper)) (l : List (Nat × Oper)) (n : Nat), (x :: l)[n + 1]? = l[n]?) ∧
    (∀ (x : (Nat × Oper)) (l : List (Nat × Oper)), (x :: l).take 0 = []) ∧
    (∀ (x : (Nat × Oper)) (l : List (Nat × Oper)) (n : Nat), (x :: l).take (n + 1) = x :: l.take n) ∧
    (∀ (l : List (Nat × Oper)), l.drop 0 = l) ∧
    (∀ (x : (Nat × Oper)) (l : List (Nat × Oper)) (n : Nat), (x :: l).drop (n + 1) = l.drop n) ∧
    (∀ (n : Nat), ([] : List (Nat × Oper)).take n = []) ∧
    (∀ (n : Nat), ([] : List (Nat × Oper)).drop n = []) ∧
    (∀ (x : (Nat × Oper)) (l : List (Nat × Oper)), (x :: l).length = l.length + 1) ∧
    (([] : List (Nat × Oper)).length = 0) ∧
    (∀ (x : (Nat × Oper)) (l k : List (Nat × Oper)), (x :: l) ++ k = x :: (l ++ k)) ∧
    (∀ (l : List (Nat × Oper)), [] ++ l = l) ∧
    (∀ (l : List (Nat × Oper)), l ++ [] = l) ∧
    (∀ (l k m : List (Nat × Oper)), (l ++ k) ++ m = l ++ (k ++ m)) ∧
    (∀ (l k : List (Nat × Oper)), (l ++ k).length = l.length + k.length) ∧
    (∀ (x : (Nat × Nat)) (l : List (Nat × Nat)), (x :: l)[0]? = some x) ∧
    (∀ (x : (Nat × Nat)) (l : List (Nat × Nat)) (n : Nat), (x :: l)[n + 1]? = l[n]?) ∧
    (∀ (x : (Nat × Nat)) (l : List (Nat × Nat)), (x :: l).take 0 = []) ∧
    (∀ (x : (Nat × Nat)) (l : List (Nat × Nat)) (n : Nat), (x :: l).take (n + 1) = x :: l.take n) ∧
    (∀ (l : List (Nat × Nat)), l.drop 0 = l) ∧
    (∀ (x : (Nat × Nat)) (l : List (Nat × Nat)) (n : Nat), (x :: l).drop (n + 1) = l.drop n) ∧
    (∀ (n : Nat), ([] : List (Nat × Nat)).take n = []) ∧
    (∀ (n : Nat), ([] : List (Nat × Nat)).drop n = []) ∧
    (∀ (x : (Nat × Nat)) (l : List (Nat × Nat)), (x :: l).length = l.length + 1) ∧
    (([] : List (Nat × Nat)).length = 0) ∧
    (∀ (x : (Nat × Nat)) (l k : List (Nat × Nat)), (x :: l) ++ k = x :: (l ++ k)) ∧
    (∀ (l : List (Nat × Nat)), [] ++ l = l) ∧
    (∀ (l : List (Nat × Nat)), l ++ [] = l) ∧
    (∀ (l k m : List (Nat × Nat)), (l ++ k) ++ m = l ++ (k ++ m)) := by
  refine ⟨?_, ?_, ?_, ?_, ?_, ?_, ?_, ?_, ?_, ?_, ?_, ?_, ?_, ?_, ?_, ?_, ?_, ?_, ?_, ?_, ?_, ?_, ?_, ?_, ?_, ?_, ?_, ?_, ?_, ?_, ?_, ?_, ?_, ?_, ?_, ?_, ?_, ?_, ?_, ?_⟩
  all_goals first | rfl | (intros; rfl) | (intros; simp [abin]; done) | (intros; simp [peq]; done) | (intros; simp; done) | (intros; exact get_at0 _ _) | (intros; exact get_at _ _ _) | (intros; exact set_at0 _ _ _) | (intros; exact set_at _ _ _ _) | (intros; exact take_at _ _ _) | (intro b; cases b <;> rfl) | (intro op; cases op <;> intros <;> rfl)

theorem fw5 :
    (∀ (l k : List (Nat × Nat)), (l ++ k).length = l.length + k.length) ∧
    (∀ (x y : Blk) (l : List Blk), (x :: l).set 0 y = y :: l) ∧
    (∀ (x y : Blk) (l : List Blk) (n : Nat), (x :: l).set (n + 1) y = x :: l.set n y) ∧
    (∀ (x y : PV) (l : List PV), (x :: l).set 0 y = y :: l) ∧
    (∀ (x y : PV) (l : List PV) (n : Nat), (x :: l).set (n + 1) y = x :: l.set n y) ∧
    (∀ (l : List Oper) (n : Nat), (⟨l⟩ : Array Oper)[n]? = l[n]?) ∧
    (∀ (x : Nat) (l : List Nat) (n : Nat), (x :: l).getD 0 n = x) ∧
    (∀ (x : Nat) (l : List Nat) (n m : Nat), (x :: l).getD (n + 1) m = l.getD n m) ∧
    (List.replicate 0 PV.any = []) ∧
    (∀ (n : Nat), List.replicate (n + 1) PV.any = .any :: List.replicate n .any) ∧
    (∀ (a : Oper) (l m : List Oper), List.append (a :: l) m = a :: List.append l m) ∧
    (∀ (m : List Oper), List.append [] m = m) ∧
    (∀ (ops : Array Oper), numbered ops = ops.toList.zipIdx.map fun x => (x.2, x.1)) ∧
    (∀ (o : Oper) (l : List Oper) (k : Nat), (o :: l).zipIdx k = (o, k) :: l.zipIdx (k + 1)) ∧
    (∀ (k : Nat), ([] : List Oper).zipIdx k = []) ∧
    (∀ (f : Oper × Nat → Nat × Oper) (x : Oper × Nat) (l : List (Oper × Nat)), (x :: l).map f = f x :: l.map f) ∧
    (∀ (f : Oper × Nat → Nat × Oper), ([] : List (Oper × Nat)).map f = []) ∧
    (∀ (f : Operand → PV) (x : Operand) (l : List Operand), (x :: l).map f = f x :: l.map f) ∧
    (∀ (f : Operand → PV), ([] : List Operand).map f = []) ∧
    (∀ (f : Nat × Operand → Nat × PV) (x : Nat × Operand) (l : List (Nat × Operand)), (x :: l).map f = f x :: l.map f) ∧
    (∀ (f : Nat × Operand → Nat × PV), ([] : List (Nat × Operand)).map f = []) ∧
    (∀ (f : Nat → PV) (x : Nat) (l : List Nat), (x :: l).map f = f x :: l.map f) ∧
    (∀ (f : Nat → PV), ([] : List Nat).map f = []) ∧
    (∀ (x : Nat) (l : List Nat) (p : PV) (ps : List PV), (x :: l).zip (p :: ps) = (x, p) :: l.zip ps) ∧
    (∀ (ps : List PV), ([] : List Nat).zip ps = []) ∧
    (∀ (f : Oper → Option Nat) (o : Oper), (some o).bind f = f o) ∧
    (∀ (H L : List Blk), (H ++ L)[H.length]? = L[0]?) ∧
    (∀ (H L : List Blk) (k : Nat), (H ++ L)[H.length + k]? = L[k]?) ∧
    (∀ (H L : List Blk) (B : Blk), (H ++ L).set H.length B = H ++ L.set 0 B) ∧
    (∀ (H L : List Blk) (k : Nat) (B : Blk), (H ++ L).set (H.length + k) B = H ++ L.set k B) ∧
    (∀ (n : Nat), n + 0 = n) ∧
    (∀ (n : Nat), 0 + n = n) ∧
    (∀ (b : Bool), (true == b) = b) ∧
    ((false == true) = false) ∧
    ((false == false) = true) ∧
    (∀ (n : Nat), (n : Int).toNat = n) ∧
    (∀ (k : IntKind) (a b : Int), abin .add (.int k a) (.int k b) = some (.int k (k.wrap (a + b)))) ∧
    (∀ (k : IntKind) (a b : Int), abin .sub (.int k a) (.int k b) = some (.int k (k.wrap (a - b)))) ∧
    (∀ (k : IntKind) (a b : Int), abin .mul (.int k a) (.int k b) = some (.int k (k.wrap (a * b)))) ∧
    (∀ (k : IntKind) (a b : Int), abin .eql (.int k a) (.int k b) = some (.bool (decide (a = b)))) := by
  refine ⟨?_, ?_, ?_, ?_, ?_, ?_, ?_, ?_, ?_, ?_, ?_, ?_, ?_, ?_, ?_, ?_, ?_, ?_, ?_, ?_, ?_, ?_, ?_, ?_, ?_, ?_, ?_, ?_, ?_, ?_, ?_, ?_, ?_, ?_, ?_, ?_, ?_, ?_, ?_, ?_⟩
  all_goals first | rfl | (intros; rfl) | (intros; simp [abin]; done) | (intros; simp [peq]; done) | (intros; simp; done) | (intros; exact get_at0 _ _) | (intros; exact get_at _ _ _) | (intros; exact set_at0 _ _ _) | (intros; exact set_at _ _ _ _) | (intros; exact take_at _ _ _) | (intro b; cases b <;> rfl) | (intro op; cases op <;> intros <;> rfl)

theorem fw6 :
    (∀ (k : IntKind) (a b : Int), abin .neq (.int k a) (.int k b) = some (.bool (!decide (a = b)))) ∧
    (∀ (k : IntKind) (a b : Int), abin .lss (.int k a) (.int k b) = some (.bool (decide (a < b)))) ∧
    (∀ (k : IntKind) (a b : Int), abin .leq (.int k a) (.int k b) = some (.bool (decide (a ≤ b)))) ∧
    (∀ (k : IntKind) (a b : Int), abin .gtr (.int k a) (.int k b) = some (.bool (decide (b < a)))) ∧
    (∀ (k : IntKind) (a b : Int), abin .geq (.int k a) (.int k b) = some (.bool (decide (b ≤ a)))) ∧
    (∀ (a b : List UInt8), abin .eql (.str a) (.str b) = some (.bool (decide (a = b)))) ∧
    (∀ (a b : List UInt8), abin .neq (.str a) (.str b) = some (.bool (!decide (a = b)))) ∧
    (∀ (a b : List UInt8), abin .lss (.str a) (.str b) = some (.bool (Op.bytesLess a b))) ∧
    (∀ (a b : List UInt8), abin .leq (.str a) (.str b) = some (.bool (Op.bytesLess a b || decide (a = b)))) ∧
    (∀ (a b : List UInt8), abin .gtr (.str a) (.str b) = some (.bool !(Op.bytesLess a b || decide (a = b)))) ∧
    (∀ (a b : List UInt8), abin .geq (.str a) (.str b) = some (.bool !(Op.bytesLess a b))) ∧
    (∀ (a b : List UInt8), abin .add (.str a) (.str b) = (if a.length + b.length ≤ 9223372036854775807 then some (.str (a ++ b)) else none)) ∧
    (∀ (k : IntKind) (a b : Int), abin .quo (.int k a) (.int k b) = (if k = k ∧ b ≠ 0 then some (.int k (k.wrap (a.tdiv b))) else none)) ∧
    (∀ (k : IntKind) (a b : Int), abin .rem (.int k a) (.int k b) = (if k = k ∧ b ≠ 0 then some (.int k (a.tmod b)) else none)) ∧
    (∀ (P : Program) (op : BinOp) (t : TypeId) (p : PV) (c : Value), nilStep P op t p (.const c) = (match P.underlying t with | some d => if nilOf d c = true then (match isNil d p with | some b => eqv op b | none => none) else none | none => none)) ∧
    (∀ (e : Nat), nilOf (.pointer e) (.pointer none) = true) ∧
    (∀ (e : Nat), isNil (.pointer e) .nilp = some true) ∧
    (∀ (e : Nat) (b o : Nat), isNil (.pointer e) (.ptr b o) = some false) ∧
    (∀ (e : Nat) (cs : List PV), isNil (.pointer e) (.cptr cs) = some false) ∧
    (∀ (e f : Nat), nilOf (.map e f) (.map none) = true) ∧
    (∀ (e f : Nat), isNil (.map e f) .nilm = some true) ∧
    (∀ (e f : Nat) (b : Nat), isNil (.map e f) (.map b) = some false) ∧
    (∀ (e f : Array Nat) (g : Bool), nilOf (.func e f g) .nilFunc = true) ∧
    (∀ (e f : Array Nat) (g : Bool), isNil (.func e f g) .nilf = some true) ∧
    (∀ (e f : Array Nat) (g : Bool) (fn : Go.Fn) (fs cs : List PV), isNil (.func e f g) (.func fn fs cs) = some false) ∧
    (∀ (e : Array (String × Nat)), nilOf (.interface e) .nilIface = true) ∧
    (∀ (e : Array (String × Nat)), isNil (.interface e) .nili = some true) ∧
    (∀ (e : Array (String × Nat)) (t : Nat) (p : PV), isNil (.interface e) (.iface t p) = some false) ∧
    (∀ (op : BinOp) (fn : Go.Fn) (fs cs : List PV), abin op (.func fn fs cs) .nilf = none) ∧
    (∀ (op : BinOp), abin op .nilf .nilf = none) ∧
    (∀ (op : BinOp) (b o : Nat), abin op (.ptr b o) .nilp = none) ∧
    (∀ (op : BinOp), abin op .nilp .nilp = none) ∧
    (∀ (op : BinOp) (cs : List PV), abin op (.cptr cs) .nilp = none) ∧
    (∀ (op : BinOp) (b : Nat), abin op (.map b) .nilm = none) ∧
    (∀ (op : BinOp), abin op .nilm .nilm = none) ∧
    (∀ (op : BinOp) (t : Nat) (p : PV), abin op (.iface t p) .nili = none) ∧
    (∀ (op : BinOp), abin op .nili .nili = none) ∧
    (∀ (xs ys : List PV), aeqs [] xs ys = some true) ∧
    (∀ (o k : Nat) (l : List (Nat × Nat)) (xs ys : List PV), aeqs ((o, k) :: l) xs ys = (match xs[o]?, ys[o]? with | some p, some q => (match peq k p q, aeqs l xs ys with | some b, some r => some (b && r) | _, _ => none) | _, _ => none)) ∧
    (∀ (k : IntKind) (a b : Int), peq 0 (.int k a) (.int k b) = some (decide (a = b))) := by
  refine ⟨?_, ?_, ?_, ?_, ?_, ?_, ?_, ?_, ?_, ?_, ?_, ?_, ?_, ?_, ?_, ?_, ?_, ?_, ?_, ?_, ?_, ?_, ?_, ?_, ?_, ?_, ?_, ?_, ?_, ?_, ?_, ?_, ?_, ?_, ?_, ?_, ?_, ?_, ?_, ?_⟩
  all_goals first | rfl | (intros; rfl) | (intros; simp [abin]; done) | (intros; simp [peq]; done) | (intros; simp; done) | (intros; exact get_at0 _ _) | (intros; exact get_at _ _ _) | (intros; exact set_at0 _ _ _) | (intros; exact set_at _ _ _ _) | (intros; exact take_at _ _ _) | (intro b; cases b <;> rfl) | (intro op; cases op <;> intros <;> rfl)

theorem fw7 :
    (∀ (a b : List UInt8), peq 1 (.str a) (.str b) = some (decide (a = b))) ∧
    (∀ (a b : Bool), peq 2 (.bool a) (.bool b) = some (a == b)) ∧
    (∀ (f : PV → PV) (x : PV) (l : List PV), (x :: l).map f = f x :: l.map f) ∧
    (∀ (f : PV → PV), ([] : List PV).map f = []) ∧
    (∀ (f : Blk → Blk) (x : Blk) (l : List Blk), (x :: l).map f = f x :: l.map f) ∧
    (∀ (f : Blk → Blk), ([] : List Blk).map f = []) ∧
    (∀ (f : Nat × PV → Nat × PV) (x : Nat × PV) (l : List (Nat × PV)), (x :: l).map f = f x :: l.map f) ∧
    (∀ (f : Nat × PV → Nat × PV), ([] : List (Nat × PV)).map f = []) ∧
    (∀ (x : PV × PV) (l k : List (PV × PV)), (x :: l) ++ k = x :: (l ++ k)) ∧
    (∀ (l : List (PV × PV)), [] ++ l = l) ∧
    (∀ (H L : List Blk) (k : Nat), (H ++ L).take (H.length + k) = H ++ L.take k) ∧
    (∀ (H L : List Blk), (H ++ L).take H.length = H) ∧
    (∀ (H : List Blk), H.take H.length = H) := by
  refine ⟨?_, ?_, ?_, ?_, ?_, ?_, ?_, ?_, ?_, ?_, ?_, ?_, ?_⟩
  all_goals first | rfl | (intros; rfl) | (intros; simp [abin]; done) | (intros; simp [peq]; done) | (intros; simp; done) | (intros; exact get_at0 _ _) | (intros; exact get_at _ _ _) | (intros; exact set_at0 _ _ _) | (intros; exact set_at _ _ _ _) | (intros; exact take_at _ _ _) | (intro b; cases b <;> rfl) | (intro op; cases op <;> intros <;> rfl)

/-- All of these at once. -/
theorem fwA : type_of% fw0 ∧ type_of% fw1 ∧ type_of% fw2 ∧ type_of% fw3 ∧ type_of% fw4 ∧ type_of% fw5 ∧ type_of% fw6 ∧ type_of% fw7 ∧ type_of% Bool.false_eq_true ∧ type_of% Bool.not_true ∧ type_of% Bool.not_false ∧ (∀ p : Prop, (p ∧ p) = p) ∧ (∀ n : Nat, n ≤ n) := And.intro fw0 (And.intro fw1 (And.intro fw2 (And.intro fw3 (And.intro fw4 (And.intro fw5 (And.intro fw6 (And.intro fw7 (And.intro Bool.false_eq_true (And.intro Bool.not_true (And.intro Bool.not_false (And.intro (fun p : Prop => and_self p) (fun n : Nat => Nat.le_refl n))))))))))))

end Go.Proofs.YtdacialfjlcboaaGreatDoor.Fd

/- What stands first of two pairs: the comparison's contract tells the world exactly (the framework Fd). -/
namespace Go.Proofs.YtdacialfjlcboaaGreatDoor.Dr
set_option linter.unusedVariables false
set_option linter.unusedSimpArgs false
set_option maxRecDepth 100000
open Go.RowKit Go.Proofs.YtdacialfjlcboaaGreatDoor.Fd

theorem mixed : Tryz.prog.follows .mixedOrders = true := by kernel_rfl
theorem en60 : Enters Tryz.prog 60 := enters_of Tryz.func60 rfl rfl
theorem en61 : Enters Tryz.prog 61 := enters_of Tryz.func61 rfl rfl
theorem en79 : Enters Tryz.prog 79 := enters_of Tryz.func79 rfl rfl
theorem en42 : Enters Tryz.prog 42 := enters_of Tryz.func42 rfl rfl
theorem fl53_0 : fldOf Tryz.prog 53 0 = some (0, 1, false) := by kernel_rfl
theorem fl53_1 : fldOf Tryz.prog 53 1 = some (1, 1, false) := by kernel_rfl
theorem ti3 : tiOf Tryz.prog 3 = some ⟨1, 8, false, [.int .i64 0]⟩ := by kernel_rfl
theorem ti24 : tiOf Tryz.prog 24 = some ⟨1, 8, false, [.int .i64 0]⟩ := by kernel_rfl
theorem ti53 : tiOf Tryz.prog 53 = some ⟨2, 16, true, [.int .i64 0, .int .i64 0]⟩ := by kernel_rfl
theorem un29 : Tryz.prog.underlying 29 = some (.slice 3) := by kernel_rfl
theorem el29 : elOf Tryz.prog 29 = some (1, 8) := by kernel_rfl

/-- Which of two numbers is less. -/
def cmpI (a b : Int) : Int := if a < b then -1 else if b < a then 1 else 0
/-- The first of two numbers that is not 0. -/
def orI (a b : Int) : Int := if a = 0 then b else a

/- cmp.isNaN[chancel/atom.Atom] -/
theorem c79 (Γ : Nat → PV) (a : Int) : Gives Tryz.prog Γ 79 [.int .i64 a] (.bool false) := by
  refine fn_of_awp Tryz.func79 rfl (by simp [Tryz.f79]) rfl fun H => ?_
  refine awp_seq ?_
  refine awp_run rfl (by simp only [fwA, ↓reduceIte, Nat.reduceAdd, Nat.reduceMul, Nat.reduceEqDiff, Nat.reduceLT, Nat.reduceLeDiff, reduceCtorEq] <;> rfl) ?_
  refine awp_seq ?_
  refine awp_run rfl (by simp only [fwA, ↓reduceIte, Nat.reduceAdd, Nat.reduceMul, Nat.reduceEqDiff, Nat.reduceLT, Nat.reduceLeDiff, reduceCtorEq] <;> rfl) ?_
  refine awp_ret ?_
  exact gives_end0 (.inl rfl) (by simp only [eq_self_iff_true, decide_true, Bool.not_true]; rfl)

/- cmp.Compare[chancel/atom.Atom] -/
theorem c61 (Γ : Nat → PV) (a b : Int) : Gives Tryz.prog Γ 61 [.int .i64 a, .int .i64 b] (.int .i64 (cmpI a b)) := by
  refine fn_of_awp Tryz.func61 rfl (by simp [Tryz.f61]) rfl fun H => ?_
  refine awp_seq ?_
  refine awp_run rfl (by simp only [fwA, ↓reduceIte, Nat.reduceAdd, Nat.reduceMul, Nat.reduceEqDiff, Nat.reduceLT, Nat.reduceLeDiff, reduceCtorEq] <;> rfl) ?_
  refine awp_seq ?_
  refine awp_region rfl ?_
  refine aops_run 1 (by simp only [fwA, ↓reduceIte, Nat.reduceAdd, Nat.reduceMul, Nat.reduceEqDiff, Nat.reduceLT, Nat.reduceLeDiff, reduceCtorEq] <;> rfl) ?_
  refine aops_fn rfl rfl rfl en79 (c79 Γ _) ?_
  refine aops_run 1 (by simp only [fwA, ↓reduceIte, Nat.reduceAdd, Nat.reduceMul, Nat.reduceEqDiff, Nat.reduceLT, Nat.reduceLeDiff, reduceCtorEq] <;> rfl) ?_
  refine awp_seq ?_
  refine awp_region rfl ?_
  refine aops_run 1 (by simp only [fwA, ↓reduceIte, Nat.reduceAdd, Nat.reduceMul, Nat.reduceEqDiff, Nat.reduceLT, Nat.reduceLeDiff, reduceCtorEq] <;> rfl) ?_
  refine aops_fn rfl rfl rfl en79 (c79 Γ _) ?_
  refine aops_run 1 (by simp only [fwA, ↓reduceIte, Nat.reduceAdd, Nat.reduceMul, Nat.reduceEqDiff, Nat.reduceLT, Nat.reduceLeDiff, reduceCtorEq] <;> rfl) ?_
  refine awp_seq ?_
  refine awp_seq ?_
  refine awp_run rfl (by simp only [fwA, ↓reduceIte, Nat.reduceAdd, Nat.reduceMul, Nat.reduceEqDiff, Nat.reduceLT, Nat.reduceLeDiff, reduceCtorEq] <;> rfl) ?_
  refine awp_cond (by simp only [fwA, ↓reduceIte, Nat.reduceAdd, Nat.reduceMul, Nat.reduceEqDiff, Nat.reduceLT, Nat.reduceLeDiff, reduceCtorEq] <;> rfl) ?_
  simp only [Bool.false_eq_true, ↓reduceIte]
  refine awp_skip ?_
  refine awp_seq ?_
  refine awp_seq ?_
  refine awp_run rfl (by simp only [fwA, ↓reduceIte, Nat.reduceAdd, Nat.reduceMul, Nat.reduceEqDiff, Nat.reduceLT, Nat.reduceLeDiff, reduceCtorEq] <;> rfl) ?_
  refine awp_cond (by simp only [fwA, ↓reduceIte, Nat.reduceAdd, Nat.reduceMul, Nat.reduceEqDiff, Nat.reduceLT, Nat.reduceLeDiff, reduceCtorEq] <;> rfl) ?_
  simp only [Bool.false_eq_true, ↓reduceIte]
  refine awp_skip ?_
  refine awp_seq ?_
  refine awp_seq ?_
  refine awp_run rfl (by simp only [fwA, ↓reduceIte, Nat.reduceAdd, Nat.reduceMul, Nat.reduceEqDiff, Nat.reduceLT, Nat.reduceLeDiff, reduceCtorEq] <;> rfl) ?_
  refine awp_cond (by simp only [fwA, ↓reduceIte, Nat.reduceAdd, Nat.reduceMul, Nat.reduceEqDiff, Nat.reduceLT, Nat.reduceLeDiff, reduceCtorEq] <;> rfl) ?_
  by_cases h1 : a < b
  · simp only [h1, decide_true, ↓reduceIte]
    refine awp_seq ?_
    refine awp_run rfl (by simp only [fwA, ↓reduceIte, Nat.reduceAdd, Nat.reduceMul, Nat.reduceEqDiff, Nat.reduceLT, Nat.reduceLeDiff, reduceCtorEq] <;> rfl) ?_
    refine awp_ret ?_
    exact gives_end0 (.inl rfl) (by unfold cmpI; rw [if_pos h1]; rfl)
  simp only [h1, decide_false, Bool.false_eq_true, ↓reduceIte]
  refine awp_skip ?_
  refine awp_seq ?_
  refine awp_seq ?_
  refine awp_run rfl (by simp only [fwA, ↓reduceIte, Nat.reduceAdd, Nat.reduceMul, Nat.reduceEqDiff, Nat.reduceLT, Nat.reduceLeDiff, reduceCtorEq] <;> rfl) ?_
  refine awp_cond (by simp only [fwA, ↓reduceIte, Nat.reduceAdd, Nat.reduceMul, Nat.reduceEqDiff, Nat.reduceLT, Nat.reduceLeDiff, reduceCtorEq] <;> rfl) ?_
  by_cases h2 : b < a
  · simp only [h2, decide_true, ↓reduceIte]
    refine awp_seq ?_
    refine awp_run rfl (by simp only [fwA, ↓reduceIte, Nat.reduceAdd, Nat.reduceMul, Nat.reduceEqDiff, Nat.reduceLT, Nat.reduceLeDiff, reduceCtorEq] <;> rfl) ?_
    refine awp_ret ?_
    exact gives_end0 (.inl rfl) (by unfold cmpI; rw [if_neg h1, if_pos h2]; rfl)
  simp only [h2, decide_false, Bool.false_eq_true, ↓reduceIte]
  refine awp_skip ?_
  refine awp_seq ?_
  refine awp_run rfl (by simp only [fwA, ↓reduceIte, Nat.reduceAdd, Nat.reduceMul, Nat.reduceEqDiff, Nat.reduceLT, Nat.reduceLeDiff, reduceCtorEq] <;> rfl) ?_
  refine awp_ret ?_
  exact gives_end0 (.inl rfl) (by unfold cmpI; rw [if_neg h1, if_neg h2]; rfl)

/- cmp.Or[int] -/
theorem c60 (Γ : Nat → PV) (a b : Int) (f : Bool) : Gives Tryz.prog Γ 60 [.vec [[.int .i64 a], [.int .i64 b]] f] (.int .i64 (orI a b)) := by
  refine fn_of_awp Tryz.func60 rfl (by simp [Tryz.f60]) rfl fun H => ?_
  refine awp_seq ?_
  refine awp_run rfl (by simp only [fwA, ↓reduceIte, Nat.reduceAdd, Nat.reduceMul, Nat.reduceEqDiff, Nat.reduceLT, Nat.reduceLeDiff, reduceCtorEq] <;> rfl) ?_
  refine awp_seq ?_
  refine awp_run rfl (by simp only [fwA, ↓reduceIte, Nat.reduceAdd, Nat.reduceMul, Nat.reduceEqDiff, Nat.reduceLT, Nat.reduceLeDiff, reduceCtorEq] <;> rfl) ?_
  refine awp_seq ?_
  refine awp_seq ?_
  refine awp_run rfl (by simp only [fwA, ↓reduceIte, Nat.reduceAdd, Nat.reduceMul, Nat.reduceEqDiff, Nat.reduceLT, Nat.reduceLeDiff, reduceCtorEq, un29, el29] <;> rfl) ?_
  refine awp_block ?_
  refine awp_for [3, 6, 7, 8] (fun i : Nat => [.int .i64 0, .vec [[.int .i64 a], [.int .i64 b]] f, .int .i64 2, .int .i64 (i : Int)]) (fun _ => H) (fun i => 2 - i)
    (fun i => i ≤ 2 ∧ (0 < i → a = 0) ∧ (1 < i → b = 0)) 0 rfl rfl ⟨by omega, by omega, by omega⟩ fun i hi => ?_
  refine awp_seq ?_
  refine awp_run rfl (by simp only [fwA, ↓reduceIte, Nat.reduceAdd, Nat.reduceMul, Nat.reduceEqDiff, Nat.reduceLT, Nat.reduceLeDiff, reduceCtorEq] <;> rfl) ?_
  refine awp_seq ?_
  refine awp_cond (by simp only [fwA, ↓reduceIte, Nat.reduceAdd, Nat.reduceMul, Nat.reduceEqDiff, Nat.reduceLT, Nat.reduceLeDiff, reduceCtorEq] <;> rfl) ?_
  obtain rfl | hlt : i = 2 ∨ i < 2 := by omega
  · have hc : ¬ ((2 : Nat) : Int) < 2 := by omega
    simp only [hc, decide_false, Bool.false_eq_true, ↓reduceIte]
    refine awp_exit ?_
    refine awp_seq ?_
    refine awp_run rfl (by simp only [fwA, ↓reduceIte, Nat.reduceAdd, Nat.reduceMul, Nat.reduceEqDiff, Nat.reduceLT, Nat.reduceLeDiff, reduceCtorEq] <;> rfl) ?_
    refine awp_ret ?_
    exact gives_end0 (.inl rfl) (by unfold orI; rw [if_pos (hi.2.1 (by omega)), hi.2.2 (by omega)]; rfl)
  have hc : (i : Int) < 2 := by omega
  simp only [hc, decide_true, ↓reduceIte]
  refine awp_skip ?_
  have hx : ∃ x, [[PV.int .i64 a], [PV.int .i64 b]][i]? = some [.int .i64 x] ∧ ((x ≠ 0 → orI a b = x) ∧ (x = 0 → (0 < i + 1 → a = 0) ∧ (1 < i + 1 → b = 0))) := by
    unfold orI
    obtain rfl | rfl : i = 0 ∨ i = 1 := by omega
    · exact ⟨a, rfl, fun h => by rw [if_neg h], fun h => ⟨fun _ => h, fun h => by omega⟩⟩
    · exact ⟨b, rfl, fun h => by rw [if_pos (hi.2.1 (by omega))], fun h => ⟨fun _ => hi.2.1 (by omega), fun _ => h⟩⟩
  obtain ⟨x, hx, hx1, hx2⟩ := hx
  refine awp_seq ?_
  refine awp_block ?_
  refine awp_seq ?_
  refine awp_run rfl (by simp only [fwA, ↓reduceIte, Nat.reduceAdd, Nat.reduceMul, Nat.reduceEqDiff, Nat.reduceLT, Nat.reduceLeDiff, reduceCtorEq, un29, el29, ti3, Int.toNat_natCast, hx] <;> rfl) ?_
  refine awp_seq ?_
  refine awp_run rfl (by simp only [fwA, ↓reduceIte, Nat.reduceAdd, Nat.reduceMul, Nat.reduceEqDiff, Nat.reduceLT, Nat.reduceLeDiff, reduceCtorEq] <;> rfl) ?_
  refine awp_cond (by simp only [fwA, ↓reduceIte, Nat.reduceAdd, Nat.reduceMul, Nat.reduceEqDiff, Nat.reduceLT, Nat.reduceLeDiff, reduceCtorEq] <;> rfl) ?_
  by_cases h0 : x = 0
  rotate_left
  · simp only [h0, decide_false, Bool.not_false, ↓reduceIte]
    refine awp_seq ?_
    refine awp_run rfl (by simp only [fwA, ↓reduceIte, Nat.reduceAdd, Nat.reduceMul, Nat.reduceEqDiff, Nat.reduceLT, Nat.reduceLeDiff, reduceCtorEq] <;> rfl) ?_
    refine awp_ret ?_
    exact gives_end0 (.inl rfl) (by rw [hx1 h0]; rfl)
  simp only [h0, decide_true, Bool.not_true, Bool.false_eq_true, ↓reduceIte]
  refine awp_skip ?_
  refine awp_run rfl (by simp only [fwA, ↓reduceIte, Nat.reduceAdd, Nat.reduceMul, Nat.reduceEqDiff, Nat.reduceLT, Nat.reduceLeDiff, reduceCtorEq] <;> rfl) ?_
  refine ⟨i + 1, by omega, ⟨by omega, (hx2 h0).1, (hx2 h0).2⟩, ?_, rfl, rfl⟩
  have hw : IntKind.i64.wrap ((i : Int) + 1) = ((i + 1 : Nat) : Int) := by
    obtain rfl | rfl : i = 0 ∨ i = 1 := by omega
    all_goals rfl
  simp only [fwA, ↓reduceIte, Nat.reduceAdd, Nat.reduceMul, Nat.reduceEqDiff, Nat.reduceLT, Nat.reduceLeDiff, reduceCtorEq, List.map_cons, List.map_nil, hw]

/- chancel/atom.order -/
theorem c42 (Γ : Nat → PV) (a b c d : Int) : Gives Tryz.prog Γ 42 [.agg [.int .i64 a, .int .i64 b], .agg [.int .i64 c, .int .i64 d]] (.int .i64 (orI (cmpI a c) (cmpI b d))) := by
  refine fn_of_awp Tryz.func42 rfl (by simp [Tryz.f42]) rfl fun H => ?_
  refine awp_seq ?_
  refine awp_run rfl (by simp only [fwA, ↓reduceIte, Nat.reduceAdd, Nat.reduceMul, Nat.reduceEqDiff, Nat.reduceLT, Nat.reduceLeDiff, reduceCtorEq, ti53] <;> rfl) ?_
  refine awp_seq ?_
  refine awp_drawn [0, 1, 0, 1, 0, 0, 1, 0, 1, 0, 0, 0, 0] [0, 1, 0, 4, 15, 0, 32, 0, 128, 511, 1023, 2047, 4095] mixed rfl (by kernel_rfl) ?_
  refine dops_run 4 (by simp only [fwA, ↓reduceIte, Nat.reduceAdd, Nat.reduceMul, Nat.reduceEqDiff, Nat.reduceLT, Nat.reduceLeDiff, reduceCtorEq, fl53_0, ti24] <;> rfl) ?_
  refine dops_fn rfl rfl rfl rfl en61 (c61 Γ _ _) ?_
  refine dops_run 4 (by simp only [fwA, ↓reduceIte, Nat.reduceAdd, Nat.reduceMul, Nat.reduceEqDiff, Nat.reduceLT, Nat.reduceLeDiff, reduceCtorEq, fl53_1, ti24] <;> rfl) ?_
  refine dops_fn rfl rfl rfl rfl en61 (c61 Γ _ _) ?_
  refine dops_run 1 (by simp only [fwA, ↓reduceIte, Nat.reduceAdd, Nat.reduceMul, Nat.reduceEqDiff, Nat.reduceLT, Nat.reduceLeDiff, reduceCtorEq, un29, ti3] <;> rfl) ?_
  refine dops_fn rfl rfl rfl rfl en60 (c60 Γ _ _ _) ?_
  refine dops_run 1 (by simp only [fwA, ↓reduceIte, Nat.reduceAdd, Nat.reduceMul, Nat.reduceEqDiff, Nat.reduceLT, Nat.reduceLeDiff, reduceCtorEq] <;> rfl) ?_
  refine dops_end ?_
  refine awp_ret ?_
  exact gives_end (.inl rfl) _ rfl


theorem grown_exact {W w' : World} (h : BelowD W.heap.size W w') : ∃ q os', w' = Go.Sort.grow (W.drewN q) os' := by
  refine ⟨w'.drawn - W.drawn, w'.heap.extract W.heap.size w'.heap.size, ?_⟩
  obtain ⟨h1, h2, h3, h4, h5, h6⟩ := h
  obtain ⟨hp, tp, dr, os, ou⟩ := w'
  obtain ⟨hp0, tp0, dr0, os0, ou0⟩ := W
  simp only at h1 h2 h3 h4 h5 h6
  subst h1 h2 h3
  simp only [Go.Sort.grow, World.drewN, World.mk.injEq, true_and, and_true]
  refine ⟨?_, by omega⟩
  apply Array.ext_getElem?
  intro k
  rw [Array.getElem?_append]
  split
  · exact h5 k (by assumption)
  · rename_i hk
    by_cases hk2 : k < hp.size
    · rw [Array.getElem?_eq_getElem hk2, Array.getElem?_eq_getElem (by simp; omega), Array.getElem_extract]
      congr 2
      omega
    · rw [Array.getElem?_eq_none (by omega), Array.getElem?_eq_none (by simp; omega)]

/-- How pairs stand. -/
def cmpP (a b c d : Int) : Int := orI (cmpI a c) (cmpI b d)

theorem order_exact (a b c d : Int) (W : World) : Calls Tryz.prog 42 #[.agg #[.int .i64 a, .int .i64 b], .agg #[.int .i64 c, .int .i64 d]] W fun e w' => e = .returned (.int .i64 (cmpP a b c d)) ∧ ∃ q os', w' = Go.Sort.grow (W.drewN q) os' := by
  have hs : Sim (fun _ => PV.any) W (ofW W) [] W := sim_ofW (fun g => .any _ _) (fun g cs h => by cases h)
  have hr : ∀ p q : Int, Reps (ofW W) 0 [.int .i64 p, .int .i64 q] [.int .i64 p, .int .i64 q] := fun p q => Reps.cons (.int _ _ _) (Reps.cons (.int _ _ _) (Reps.nil _ _))
  have ha : ∀ p q : Int, Rep (ofW W) 0 (.agg [.int .i64 p, .int .i64 q]) (.agg #[.int .i64 p, .int .i64 q]) := fun p q => by
    refine .agg _ _ _ rfl (fun i c v h1 h2 => (hr p q).2 i c v h1 (by simpa using h2)) fun i v h => ?_
    rcases i with _ | _ | i
    · simp at h; subst h; rfl
    · simp at h; subst h; rfl
    · simp at h
  have h := c42 (fun _ => PV.any) a b c d [] W (ofW W) W #[.agg #[.int .i64 a, .int .i64 b], .agg #[.int .i64 c, .int .i64 d]] hs (Reps.cons (ha a b) (Reps.cons (ha c d) (Reps.nil _ _)))
  refine (callsIn_wide.1 h).mono fun e w' hq => ?_
  obtain ⟨v, p, H', G', rfl, g1, g2, _, _, rfl, rfl⟩ := hq
  rw [g2.int_inv]
  exact ⟨rfl, grown_exact g1.below⟩
end Go.Proofs.YtdacialfjlcboaaGreatDoor.Dr
