/- The framework, tenth part: code, calls, contracts. -/
import Derived.Test.YtinedfjknhahmaaDoorFwI
import Derived.RangeFuncRecord
namespace Go.Proofs.YtinedfjknhahmaaDoor.Fw
set_option linter.unusedVariables false
set_option linter.unusedSimpArgs false
open Go.RowKit

/-- The marks of loops over functions among the deferred calls. -/
def DSim (G : Ghost) (n : Nat) (D : List Nat) (ds : List Deferred) : Prop :=
  ds = D.map (fun b => { target := .collected (G.info b).blk, args := #[] }) ∧ ∀ b ∈ D, b < n ∧ (G.info b).isRow = false

theorem DSim.nil (G : Ghost) (n : Nat) : DSim G n [] [] := ⟨rfl, fun b h => by cases h⟩
theorem DSim.mono {G G' : Ghost} {n m : Nat} {D : List Nat} {ds : List Deferred} (h : DSim G n D ds) (he : Evol G n G') (hm : n ≤ m) : DSim G' m D ds := by
  have key : ∀ b ∈ D, G'.info b = G.info b := fun b hb => by
    have := h.2 b hb
    rcases he.info b this.1 with e | ⟨r, _, _⟩
    · exact e
    · rw [this.2] at r; cases r
  refine ⟨?_, fun b hb => ⟨by have := (h.2 b hb).1; omega, by rw [key b hb]; exact (h.2 b hb).2⟩⟩
  rw [h.1]
  exact List.map_congr_left fun b hb => by rw [key b hb]

abbrev Post := Exit → List (Nat × PV) → List Blk → List Nat → Prop

/-- What holds of the machine where Q holds of slots and blocks. -/
def Lift (Γ : Nat → PV) (w0 : World) (N : Nat) (G : Ghost) (n : Nat) (Q : Post) : Exit → Act → World → Prop :=
  fun e a' w' => ∃ G' A' H' D', Sim Γ w0 G' H' w' ∧ ASim G' H'.length N A' a' ∧ DSim G' H'.length D' a'.defers ∧ Evol G n G' ∧ n ≤ H'.length ∧ Q e A' H' D'

/-- The code c, begun where slots A and blocks H are known, is left as Q takes. -/
def AWP (P : Program) (Γ : Nat → PV) (N : Nat) (ro : Option Nat) (c : Code) (A : List (Nat × PV)) (H : List Blk) (D : List Nat) (Q : Post) : Prop :=
  ∀ (w0 : World) (G : Ghost) (w : World) (a : Act), Sim Γ w0 G H w → ASim G H.length N A a → DSim G H.length D a.defers → c.wpIn (Fr ro) 0 P (Lift Γ w0 N G H.length Q) a w

def Post.then (K : List (Nat × PV) → List Blk → List Nat → Prop) (Q : Post) : Post
  | .normal, A, H, D => K A H D
  | e, A, H, D => Q e A H D

def Post.block (id : Nat) (Q : Post) : Post
  | .exit i, A, H, D => if i = id then Q .normal A H D else Q (.exit i) A H D
  | e, A, H, D => Q e A H D

section
variable {P : Program} {Γ : Nat → PV} {N : Nat} {ro : Option Nat} {A : List (Nat × PV)} {H : List Blk} {D : List Nat} {Q : Post}

theorem Lift.mono {w0 : World} {G : Ghost} {n : Nat} {Q' : Post} (hq : ∀ e A H D, Q e A H D → Q' e A H D) {e : Exit} {a : Act} {w : World} (h : Lift Γ w0 N G n Q e a w) : Lift Γ w0 N G n Q' e a w :=
  let ⟨G', A', H', D', h1, h2, h3, h4, h5, h6⟩ := h
  ⟨G', A', H', D', h1, h2, h3, h4, h5, hq _ _ _ _ h6⟩

theorem Lift.after {w0 : World} {G G1 : Ghost} {n n1 : Nat} (he : Evol G n G1) (hn : n ≤ n1) {e : Exit} {a : Act} {w : World} (h : Lift Γ w0 N G1 n1 Q e a w) : Lift Γ w0 N G n Q e a w :=
  let ⟨G', A', H', D', h1, h2, h3, h4, h5, h6⟩ := h
  ⟨G', A', H', D', h1, h2, h3, he.trans h4 hn, by omega, h6⟩

theorem AWP.mono {c : Code} {Q' : Post} (h : AWP P Γ N ro c A H D Q) (hq : ∀ e A H D, Q e A H D → Q' e A H D) : AWP P Γ N ro c A H D Q' :=
  fun w0 G w a hs ha hd => wpIn_mono (h w0 G w a hs ha hd) fun _ _ _ h => h.mono hq

theorem awp_seq {x y : Code} (h : AWP P Γ N ro x A H D (Post.then (fun A' H' D' => AWP P Γ N ro y A' H' D' Q) Q)) : AWP P Γ N ro (.seq x y) A H D Q := by
  intro w0 G w a hs ha hd
  refine wpIn_seq (wpIn_mono (h w0 G w a hs ha hd) fun e a' w' hl => ?_)
  obtain ⟨G', A', H', D', h1, h2, h3, h4, h5, h6⟩ := hl
  cases e with
  | normal => exact wpIn_mono (h6 w0 G' w' a' h1 h2 h3) fun _ _ _ h => h.after h4 h5
  | _ => exact ⟨G', A', H', D', h1, h2, h3, h4, h5, h6⟩

theorem awp_cond {c : Operand} {x y : Code} {b : Bool} (hc : ev Γ A c = .bool b) (h : AWP P Γ N ro (if b then x else y) A H D Q) : AWP P Γ N ro (.cond c x y) A H D Q := by
  intro w0 G w a hs ha hd
  have h1 := ha.ev hs.glob c
  rw [hc] at h1
  exact wpIn_cond h1.bool_inv (h w0 G w a hs ha hd)

theorem awp_skip (h : Q .normal A H D) : AWP P Γ N ro .skip A H D Q := fun w0 G w a hs ha hd => wpIn_skip ⟨G, A, H, D, hs, ha, hd, Evol.refl _ _, Nat.le_refl _, h⟩
theorem awp_ret (h : Q .ret A H D) : AWP P Γ N ro .ret A H D Q := fun w0 G w a hs ha hd => wpIn_ret ⟨G, A, H, D, hs, ha, hd, Evol.refl _ _, Nat.le_refl _, h⟩
theorem awp_exit {id : Nat} (h : Q (.exit id) A H D) : AWP P Γ N ro (.exit id) A H D Q := fun w0 G w a hs ha hd => wpIn_exit ⟨G, A, H, D, hs, ha, hd, Evol.refl _ _, Nat.le_refl _, h⟩

theorem awp_block {id : Nat} {c : Code} (h : AWP P Γ N ro c A H D (Post.block id Q)) : AWP P Γ N ro (.block id c) A H D Q := by
  intro w0 G w a hs ha hd
  refine wpIn_block (wpIn_mono (h w0 G w a hs ha hd) fun e a' w' hl => ?_)
  obtain ⟨G', A', H', D', h1, h2, h3, h4, h5, h6⟩ := hl
  cases e with
  | exit i =>
    simp only [Exit.inBlock, Post.block] at h6 ⊢
    by_cases hi : i = id
    · rw [if_pos hi] at h6 ⊢; exact ⟨G', A', H', D', h1, h2, h3, h4, h5, h6⟩
    · rw [if_neg hi] at h6 ⊢; exact ⟨G', A', H', D', h1, h2, h3, h4, h5, h6⟩
  | _ => exact ⟨G', A', H', D', h1, h2, h3, h4, h5, h6⟩

/-- A loop: what holds at each round's head, and a number that each round lowers. -/
theorem awp_loop {c : Code} (I : Nat → List (Nat × PV) → List Blk → List Nat → Prop) {n : Nat} (h0 : I n A H D)
    (round : ∀ n A H D, I n A H D → AWP P Γ N ro c A H D (Post.then (fun A' H' D' => ∃ m, m < n ∧ I m A' H' D') Q)) : AWP P Γ N ro (.loop c) A H D Q := by
  intro w0 G w a hs ha hd b k cs hro hb hr
  have key : ∀ n A H D (G : Ghost) (w : World) (a : Act), I n A H D → Sim Γ w0 G H w → ASim G H.length N A a → DSim G H.length D a.defers →
      ∃ e a' w', Lift Γ w0 N G H.length Q e a' w' ∧ ArrivesIn (Machine.fenced P (Fr ro)) P (lone (b.atR a (.code c :: .inLoop c :: k)) cs w) b k cs e a' w' := by
    intro n
    induction n using Nat.strongRecOn with
    | _ n ih =>
      intro A H D G w a hI hs ha hd
      obtain ⟨e, a₁, w₁, hq, harr⟩ := round n A H D hI w0 G w a hs ha hd b (.inLoop c :: k) cs hro hb hr
      obtain ⟨G', A', H', D', h1, h2, h3, h4, h5, h6⟩ := hq
      cases e with
      | normal =>
        obtain ⟨m, hm, hI'⟩ := h6
        obtain ⟨e₂, a₂, w₂, hq₂, harr₂⟩ := ih m hm A' H' D' G' w₁ a₁ hI' h1 h2 h3
        exact ⟨e₂, a₂, w₂, hq₂.after h4 h5, .of_steps (StepsIn.trans harr (.one (fenced_calm hb hr rfl) stepR_inLoop)) harr₂⟩
      | exit id => exact ⟨_, a₁, w₁, ⟨G', A', H', D', h1, h2, h3, h4, h5, h6⟩, .pass (x := .inLoop c) rfl (fun _ _ => .inl (by simp)) harr⟩
      | goto l => exact ⟨_, a₁, w₁, ⟨G', A', H', D', h1, h2, h3, h4, h5, h6⟩, .pass (x := .inLoop c) rfl (fun _ _ => .inl (by simp)) harr⟩
      | ret => exact ⟨_, a₁, w₁, ⟨G', A', H', D', h1, h2, h3, h4, h5, h6⟩, .pass (x := .inLoop c) rfl (fun _ _ => .inl (by simp)) harr⟩
      | panic ch => exact ⟨_, a₁, w₁, ⟨G', A', H', D', h1, h2, h3, h4, h5, h6⟩, .pass (x := .inLoop c) rfl (fun _ _ => .inl (by simp)) harr⟩
      | outgrown => exact ⟨_, a₁, w₁, ⟨G', A', H', D', h1, h2, h3, h4, h5, h6⟩, .pass (x := .inLoop c) rfl (fun _ _ => .inl (by simp)) harr⟩
  obtain ⟨e, a', w', hq, harr⟩ := key n A H D G w a h0 hs ha hd
  exact ⟨e, a', w', hq, .of_steps (.one (fenced_calm hb hr rfl) stepR_loop) harr⟩

/-- Less is known of the slots; blocks from a number on are forgotten; a row is left as it is; a row is begun. -/
theorem awp_less {c : Code} {A' : List (Nat × PV)} (hs : ∀ t, alook A' t = alook A t ∨ alook A' t = .any) (h : AWP P Γ N ro c A' H D Q) : AWP P Γ N ro c A H D Q :=
  fun w0 G w a h1 h2 h3 => h w0 G w a h1 (h2.less hs) h3

/-- The operations of a region, in the text's order. -/
def AOps (P : Program) (Γ : Nat → PV) (ops : Array Oper) (Q : List (Nat × PV) → List Blk → Prop) : List Oper → List (Nat × PV) → List Blk → Prop
  | [], A, H => Q A H
  | o :: rest, A, H =>
    match o.guard with
    | none => OStep P Γ o A H (fun p H' => AOps P Γ ops Q rest (aput A o.dst p) H')
    | some (j, want) => ∃ d, (ops[j]?).bind (·.dst) = some d ∧ ((∃ b, alook A d = .bool b ∧
        (if b = want then OStep P Γ o A H (fun p H' => AOps P Γ ops Q rest (aput A o.dst p) H') else AOps P Γ ops Q rest (aput A o.dst (.tup [])) H)) ∨
        (alook A d = .tup [] ∧ AOps P Γ ops Q rest (aput A o.dst (.tup [])) H))

def dstOk (N : Nat) (ops : Array Oper) : Bool := ops.toList.all fun o => match o.dst with | some d => decide (d < N) | none => true

theorem put_defers (a : Act) (d : Option Tmp) (v : Value) : (a.put d v).defers = a.defers := by cases d <;> rfl

theorem ASim.yielded {G : Ghost} {n : Nat} {a : Act} (h : ASim G n N A a) {ops : Array Oper} {j d : Nat} {b : Bool} (hd : (ops[j]?).bind (·.dst) = some d) (hb : alook A d = .bool b) : yielded ops a.tmps j = some b := by
  have h1 := h.2 d
  rw [hb] at h1
  have h2 := h1.bool_inv
  unfold Go.yielded
  rw [hd]
  simp only [Option.bind_some]
  cases hx : a.tmps[d]? with
  | none => rw [Array.getD_eq_getD_getElem?, hx] at h2; cases h2
  | some v => rw [Array.getD_eq_getD_getElem?, hx] at h2; simp only [Option.getD_some] at h2; subst h2; rfl

/-- Of an operation that was not wanted nothing is yielded. -/
theorem ASim.unyielded {G : Ghost} {n : Nat} {a : Act} (h : ASim G n N A a) {ops : Array Oper} {j d : Nat} (hd : (ops[j]?).bind (·.dst) = some d) (hb : alook A d = .tup []) : Go.yielded ops a.tmps j = none := by
  have h1 := h.2 d
  rw [hb] at h1
  unfold Go.yielded
  rw [hd]
  simp only [Option.bind_some]
  cases hx : a.tmps[d]? with
  | none => rfl
  | some v =>
    rw [Array.getD_eq_getD_getElem?, hx] at h1
    simp only [Option.getD_some] at h1
    cases h1
    rfl

theorem Rep.unwanted (G : Ghost) (n : Nat) : Rep G n (.tup []) undef := .tup n [] #[] rfl fun i c v h => by simp at h

theorem aops_sound {ops : Array Oper} {K : List (Nat × PV) → List Blk → Prop} (hok : dstOk N ops = true) {ro : Option Nat} {w0 : World} : ∀ (rest : List Oper) (k : Nat) (A : List (Nat × PV)) (H : List Blk) (G : Ghost) (w : World) (a : Act),
    (∀ j, rest[j]? = ops[k + j]?) → AOps P Γ ops K rest A H → Sim Γ w0 G H w → ASim G H.length N A a → DSim G H.length D a.defers →
    wpOpsIn (Fr ro) 0 P ops (Lift Γ w0 N G H.length fun e A' H' D' => e = .normal ∧ K A' H' ∧ D' = D) (List.range' k rest.length) a w
  | [], k, A, H, G, w, a, _, h, hs, ha, hd => ⟨G, A, H, D, hs, ha, hd, Evol.refl _ _, Nat.le_refl _, rfl, h, rfl⟩
  | o :: rest, k, A, H, G, w, a, hr, h, hs, ha, hd => by
    have ho : ops[k]? = some o := by have := hr 0; simpa using this.symm
    have hr' : ∀ j, rest[j]? = ops[k + 1 + j]? := fun j => by have := hr (j + 1); rw [show k + 1 + j = k + (j + 1) by omega]; simpa using this
    have hdst : ∀ d, o.dst = some d → d < N := fun d hdd => by
      unfold dstOk at hok
      rw [List.all_eq_true] at hok
      have := hok o (by simpa using Array.mem_of_getElem? ho)
      rw [hdd] at this
      simpa using this
    have step : OStep P Γ o A H (fun p H' => AOps P Γ ops K rest (aput A o.dst p) H') →
        o.wpIn (Fr ro) 0 P a w (wpOpsIn (Fr ro) 0 P ops (Lift Γ w0 N G H.length fun e A' H' D' => e = .normal ∧ K A' H' ∧ D' = D) (List.range' (k + 1) rest.length)) (Lift Γ w0 N G H.length fun e A' H' D' => e = .normal ∧ K A' H' ∧ D' = D) := by
      intro hst
      refine hst ro w0 G w N a _ _ hs ha fun v w' G' p H' h1 h2 h3 h4 h5 => ?_
      have := aops_sound (ro := ro) hok rest (k + 1) (aput A o.dst p) H' G' w' (a.put o.dst v) hr' h5 h1 ((ha.mono h3 h4).put h2 hdst) (by rw [put_defers]; exact hd.mono h3 h4)
      exact wpOpsIn_mono this fun e a w h => h.after h3 h4
    simp only [List.length_cons, List.range'_succ, wpOpsIn, ho]
    simp only [AOps] at h
    cases hg : o.guard with
    | none =>
      rw [hg] at h
      simp only [Region.wanted, hg, if_true]
      exact step h
    | some g =>
      obtain ⟨j, want⟩ := g
      rw [hg] at h
      obtain ⟨d, h1, h⟩ := h
      rcases h with ⟨b, h2, h3⟩ | ⟨h2, h3⟩
      · have hy := ha.yielded h1 h2
        simp only [Region.wanted, hg, hy]
        by_cases hb : b = want
        · rw [if_pos hb] at h3
          rw [if_pos (by rw [hb]; simp)]
          exact step h3
        · rw [if_neg hb] at h3
          rw [if_neg (by simpa using hb)]
          exact ⟨fun _ _ => trivial, aops_sound hok rest (k + 1) (aput A o.dst (.tup [])) H G w (a.put o.dst undef) hr' h3 hs (ha.put (.unwanted _ _) hdst) (by rw [put_defers]; exact hd)⟩
      · have hy := ha.unyielded h1 h2
        simp only [Region.wanted, hg, hy]
        rw [if_neg (by simp)]
        exact ⟨fun _ _ => trivial, aops_sound hok rest (k + 1) (aput A o.dst (.tup [])) H G w (a.put o.dst undef) hr' h3 hs (ha.put (.unwanted _ _) hdst) (by rw [put_defers]; exact hd)⟩
 where
  wpOpsIn_mono {F : Fence} {n : Nat} {ops : Array Oper} {Q Q' : Exit → Act → World → Prop} : ∀ {l : List Nat} {a : Act} {w : World}, wpOpsIn F n P ops Q l a w → (∀ e a w, Q e a w → Q' e a w) → wpOpsIn F n P ops Q' l a w
    | [], _, _, h, hq => hq _ _ _ h
    | i :: rest, a, w, h, hq => by
      simp only [wpOpsIn] at h ⊢
      cases ho : ops[i]? with
      | none => rw [ho] at h; exact wpOpsIn_mono h hq
      | some o =>
        rw [ho] at h
        simp only at h ⊢
        split
        · rename_i hw
          rw [if_pos hw] at h
          refine ⟨h.1, ?_⟩
          have h2 := h.2
          generalize (o.semAt F.round a.eval).run P w = r at h2 ⊢
          have hlo : LetsOut Q → LetsOut Q' := fun ⟨a, w, h⟩ => ⟨a, w, hq _ _ _ h⟩
          cases r with
          | ok nx w' =>
            cases nx <;> simp only [Oper.uponIn] at h2 ⊢ <;> first
              | exact wpOpsIn_mono h2 hq
              | exact ⟨h2.1, h2.2.mono fun e w'' he => by cases e <;> first | exact wpOpsIn_mono he hq | exact hq _ _ _ he | exact hlo he⟩
              | exact ⟨h2.1, h2.2.mono fun e w'' he => wpOpsIn_mono he hq⟩
              | exact h2
          | halt x w' => cases x <;> simp only [Oper.uponIn] at h2 ⊢ <;> first | exact hq _ _ _ h2 | exact h2
        · rename_i hw
          rw [if_neg hw] at h
          exact ⟨h.1, wpOpsIn_mono h.2 hq⟩

theorem awp_region {id : Nat} {ops : Array Oper} (hok : dstOk N ops = true) (h : AOps P Γ ops (fun A' H' => Q .normal A' H' D) ops.toList A H) : AWP P Γ N ro (.region id ops false) A H D Q := by
  intro w0 G w a hs ha hd
  refine wpIn_region ?_
  have := aops_sound (ro := ro) hok ops.toList 0 A H G w a (fun j => by simp) h hs ha hd
  rw [List.range_eq_range']
  rw [Array.length_toList] at this
  exact aops_sound.wpOpsIn_mono this fun e a w h => h.mono fun e A H D' ⟨h1, h2, h3⟩ => by subst h1 h3; exact h2

end
end Go.Proofs.YtinedfjknhahmaaDoor.Fw
