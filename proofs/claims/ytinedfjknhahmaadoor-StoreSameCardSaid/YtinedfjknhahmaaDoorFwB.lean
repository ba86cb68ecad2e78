/- The framework, second part: what becomes of a simulation when the world turns. -/
import Derived.Test.YtinedfjknhahmaaDoorFwA
namespace Go.Proofs.YtinedfjknhahmaaDoor.Fw
set_option linter.unusedVariables false
set_option linter.unusedSimpArgs false
open Go.RowKit

theorem add_at (b o n : Nat) : (⟨b, o, none⟩ : Addr).add n = ⟨b, o + n, none⟩ := by
  unfold Addr.add
  split
  · rename_i h; subst h; rfl
  · rfl

theorem heap_new (w : World) (o : Obj) : (w.alloc o).heap[w.heap.size]? = some o := by
  show (w.heap.push o)[w.heap.size]? = some o
  exact Array.getElem?_push_size

theorem cell_of_heap {w w' : World} {a : Addr} (h : w'.heap[a.block]? = w.heap[a.block]?) : w'.cell? a = w.cell? a := by simp [World.cell?, h]

def Ghost.setInfo (G : Ghost) (b : Nat) (i : Info) : Ghost := { G with info := fun k => if k = b then i else G.info k }
/-- Cells below k of block g are not turned any more. -/
def Ghost.keep (G : Ghost) (g k : Nat) (C : Array Value) : Ghost := { G with M := fun a => if a.block = g ∧ a.spot = none ∧ a.off < k then C[a.off]? else G.M a }

@[simp] theorem Ghost.setInfo_M (G : Ghost) (b : Nat) (i : Info) : (G.setInfo b i).M = G.M := rfl
@[simp] theorem Ghost.keep_info (G : Ghost) (g k : Nat) (C : Array Value) : (G.keep g k C).info = G.info := rfl
theorem Ghost.setInfo_same (G : Ghost) (b : Nat) (i : Info) : (G.setInfo b i).info b = i := by simp [Ghost.setInfo]
theorem Ghost.setInfo_other (G : Ghost) {b k : Nat} (i : Info) (h : k ≠ b) : (G.setInfo b i).info k = G.info k := by simp [Ghost.setInfo, h]
theorem Ghost.keep_at (G : Ghost) {g k o : Nat} {C : Array Value} (h : o < k) : (G.keep g k C).M ⟨g, o, none⟩ = C[o]? := by simp [Ghost.keep, h]
theorem Ghost.keep_other (G : Ghost) {g k b o : Nat} {s : Option Nat} {C : Array Value} (h : b ≠ g) : (G.keep g k C).M ⟨b, o, s⟩ = G.M ⟨b, o, s⟩ := by simp [Ghost.keep, h]

theorem Evol.setInfo_new (G : Ghost) (n : Nat) (i : Info) : Evol G n (G.setInfo n i) := ⟨fun _ _ h => h, fun b hb => .inl (G.setInfo_other i (by omega))⟩
theorem Evol.keep {G : Ghost} {g k : Nat} {C : Array Value} (n : Nat) (h : ∀ o s, G.M ⟨g, o, s⟩ = none) : Evol G n (G.keep g k C) := by
  refine ⟨fun a v ha => ?_, fun b _ => .inl rfl⟩
  obtain ⟨b, o, s⟩ := a
  by_cases hb : b = g
  · subst hb; rw [h] at ha; cases ha
  · rw [G.keep_other hb]; exact ha

def Blk.bd (m : Nat) : Blk → Bool
  | .box cs => PV.bdL m cs
  | .row _ cs => PV.bdL m cs
  | .map es => es.all fun e => e.1.bd m && e.2.bd m
  | .loop _ cs => PV.bdL m cs
  | _ => true

section
variable {Γ : Nat → PV} {w0 : World} {G G' : Ghost} {H : List Blk} {w w' : World} {n m b : Nat} {B B' : Blk} {i : Info}

theorem Rep.at_row {c : PV} {u : Value} (h : Rep G n c u) (he : Evol G n G') (hm : n ≤ m) : Rep G' m c u := h.mono m he hm

/-- A block is as it was where its own block of the machine's is as it was. -/
theorem BlkOk.mono (h : BlkOk G n w i B) (he : Evol G n G') (hm : n ≤ m) (hw : B.live i = true → w'.heap[i.blk]? = w.heap[i.blk]?) : BlkOk G' m w' i B := by
  cases B with
  | box cs =>
    obtain ⟨h0, C, e, h1, h2, h3⟩ := h
    exact ⟨h0, C, e, (hw rfl).trans h1, h2.mono he hm, h3⟩
  | row sz cs =>
    obtain ⟨h0, h1, hs, hu, hbd, h2⟩ := h
    refine ⟨h0, h1, hs, hu, PV.bdL_mono hm _ hbd, ?_⟩
    rcases h2 with h2 | ⟨hp, C, e, h2, h3, h4, h5⟩
    · exact .inl h2
    · exact .inr ⟨hp, C, e, (hw (by simpa [Blk.live] using hp)).trans h2, h3, h4, fun j c u hc hu => ⟨(h5 j c u hc hu).1.mono m he hm, (h5 j c u hc hu).2⟩⟩
  | map es =>
    obtain ⟨h0, E, clock, h1, h2, h3, h4, h5⟩ := h
    exact ⟨h0, E, clock, (hw rfl).trans h1, h2, fun j p q x hj hx => ⟨(h3 j p q x hj hx).1.mono m he hm, (h3 j p q x hj hx).2.mono m he hm⟩, h4, h5⟩
  | loop l cs => exact ⟨h.1, (hw rfl).trans h.2.1, h.2.2.mono he hm⟩
  | dfr => exact ⟨h.1, (hw rfl).trans h.2⟩
  | dead => trivial

theorem BlkOk.cut (h : BlkOk G n w i B) (hb : B.bd m = true) : BlkOk G m w i B := by
  cases B with
  | box cs =>
    obtain ⟨h0, C, e, h1, h2, h3⟩ := h
    exact ⟨h0, C, e, h1, h2.cut (by simpa [Blk.bd] using hb), h3⟩
  | row sz cs =>
    obtain ⟨h0, h1, hs, hu, hbd, h2⟩ := h
    refine ⟨h0, h1, hs, hu, by simpa [Blk.bd] using hb, ?_⟩
    rcases h2 with h2 | ⟨hp, C, e, h2, h3, h4, h5⟩
    · exact .inl h2
    · exact .inr ⟨hp, C, e, h2, h3, h4, fun j c u hc hu => ⟨(h5 j c u hc hu).1.cut m (PV.bdL_at (by simpa [Blk.bd] using hb) hc), (h5 j c u hc hu).2⟩⟩
  | map es =>
    obtain ⟨h0, E, clock, h1, h2, h3, h4, h5⟩ := h
    refine ⟨h0, E, clock, h1, h2, fun j p q x hj hx => ?_, h4, h5⟩
    have hb' : ∀ e ∈ es, (e.1.bd m && e.2.bd m) = true := by simpa [Blk.bd] using hb
    have := hb' _ (List.mem_of_getElem? hj)
    simp at this
    exact ⟨(h3 j p q x hj hx).1.cut m this.1, (h3 j p q x hj hx).2.cut m this.2⟩
  | loop l cs => exact ⟨h.1, h.2.1, h.2.2.cut (by simpa [Blk.bd] using hb)⟩
  | dfr => exact h
  | dead => trivial

/-- What stands in a block names blocks below the bound alone. -/
theorem BlkOk.bound (h : BlkOk G n w i B) : B.bd n = true := by
  cases B with
  | box cs => obtain ⟨h0, C, e, h1, h2, h3⟩ := h; simpa [Blk.bd] using h2.bound
  | row sz cs => exact h.2.2.2.2.1
  | map es =>
    obtain ⟨h0, E, clock, h1, h2, h3, h4, h5⟩ := h
    simp only [Blk.bd, List.all_eq_true]
    intro e he
    obtain ⟨j, hj, rfl⟩ := List.mem_iff_getElem.1 he
    have := h3 j es[j].1 es[j].2 (E[j]'(by omega)) (List.getElem?_eq_getElem hj) (Array.getElem?_eq_getElem (by omega))
    simp [this.1.bound, this.2.bound]
  | loop l cs => simpa [Blk.bd] using h.2.2.bound
  | dfr => rfl
  | dead => rfl

theorem Sim.bound (h : Sim Γ w0 G H w) (B : Blk) (hB : B ∈ H) : B.bd H.length = true := by
  obtain ⟨j, hj, rfl⟩ := List.mem_iff_getElem.1 hB
  exact (h.blk j _ (List.getElem?_eq_getElem hj)).bound

/-- The world turns elsewhere. -/
theorem Sim.step (h : Sim Γ w0 G H w) (he : Evol G H.length G') (hi : ∀ k, k < H.length → G'.info k = G.info k) (hb : Below w0.heap.size w0 w') (hs : w.heap.size ≤ w'.heap.size)
    (hk : ∀ (k : Nat) B, H[k]? = some B → B.live (G.info k) = true → w'.heap[(G.info k).blk]? = w.heap[(G.info k).blk]?)
    (hm : ∀ a v, G'.M a = some v → w'.cell? a = some v)
    (hM : ∀ (k : Nat) B, H[k]? = some B → B.live (G.info k) = true → ∀ o s, G'.M ⟨(G.info k).blk, o, s⟩ = none) : Sim Γ w0 G' H w' := by
  have hlt : ∀ (k : Nat) B, H[k]? = some B → k < H.length := fun k B hB => (List.getElem?_eq_some_iff.1 hB).1
  refine ⟨hb, hm, fun k B hB => ?_, fun k B hB hl => ?_, fun k k' B B' hB hB' hl hl' he => ?_, fun g => (h.glob g).mono 0 (he.less (Nat.zero_le _)) (Nat.le_refl _), h.tab⟩
  · rw [hi k (hlt k B hB)]; exact (h.blk k B hB).mono he (Nat.le_refl _) (hk k B hB)
  · rw [hi k (hlt k B hB)] at hl ⊢
    have := h.own k B hB hl
    exact ⟨this.1, by omega, hM k B hB hl⟩
  · rw [hi k (hlt k B hB)] at hl he; rw [hi k' (hlt k' B' hB')] at hl' he; exact h.inj k k' B B' hB hB' hl hl' he

theorem Sim.drew (h : Sim Γ w0 G H w) : Sim Γ w0 G H w.drew :=
  h.step (Evol.refl _ _) (fun _ _ => rfl) h.below.drew (Nat.le_refl _) (fun _ _ _ _ => rfl) h.mem (fun k B hB hl => (h.own k B hB hl).2.2)

theorem Sim.size (h : Sim Γ w0 G H w) : w0.heap.size ≤ w.heap.size := h.below.size

theorem Sim.alloc (h : Sim Γ w0 G H w) (o : Obj) : Sim Γ w0 G H (w.alloc o) :=
  h.step (Evol.refl _ _) (fun _ _ => rfl) (h.below.alloc h.size o) (by simp) (fun k B hB hl => Below.heap_alloc _ _ _ (h.own k B hB hl).2.1)
    (fun a v ha => by
      have := h.mem a v ha
      rw [cell_of_heap (w := w) (Below.heap_alloc _ _ _ (World.block_lt_of_cell? w a this))]; exact this)
    (fun k B hB hl => (h.own k B hB hl).2.2)

theorem Sim.M_new (h : Sim Γ w0 G H w) {g : Nat} (hg : w.heap.size ≤ g) (o : Nat) (s : Option Nat) : G.M ⟨g, o, s⟩ = none := by
  cases hv : G.M ⟨g, o, s⟩ with
  | none => rfl
  | some v => have := World.block_lt_of_cell? w _ (h.mem _ v hv); simp at this; omega

/-- A new block of cells whose first k are never turned. -/
theorem Sim.allocKeep (h : Sim Γ w0 G H w) (C : Array Value) (e : TypeId) (k : Nat) (n : Nat) :
    Sim Γ w0 (G.keep w.heap.size k C) H (w.alloc (.cells C e)) ∧ Evol G n (G.keep w.heap.size k C) := by
  have hM := fun o s => h.M_new (Nat.le_refl _) o s
  refine ⟨h.step (Evol.keep _ hM) (fun _ _ => rfl) (h.below.alloc h.size _) (by simp) (fun k B hB hl => Below.heap_alloc _ _ _ (h.own k B hB hl).2.1) ?_ ?_, Evol.keep _ hM⟩
  · rintro ⟨b, o, s⟩ v ha
    by_cases hb : b = w.heap.size
    · subst hb
      simp only [Ghost.keep] at ha
      split at ha
      · rename_i hc
        obtain ⟨_, hs, _⟩ := hc
        subst hs
        rw [World.cell?_alloc_new]; exact ha
      · rw [hM] at ha; cases ha
    · rw [G.keep_other hb] at ha
      have := h.mem _ v ha
      rw [cell_of_heap (w := w) (Below.heap_alloc _ _ _ (World.block_lt_of_cell? w _ this))]; exact this
  · intro k B hB hl o s
    have := h.own k B hB hl
    rw [G.keep_other (by omega)]; exact this.2.2 o s

/-- A block comes to the others. -/
theorem Sim.push (h : Sim Γ w0 G H w) (i : Info) (B : Blk) (w' : World) (hb : Below w0.heap.size w0 w') (hs : w.heap.size ≤ w'.heap.size)
    (hk : ∀ k, k < w.heap.size → w'.heap[k]? = w.heap[k]?) (hB : BlkOk (G.setInfo H.length i) (H.length + 1) w' i B)
    (hl : B.live i = true → w.heap.size ≤ i.blk ∧ i.blk < w'.heap.size) :
    Sim Γ w0 (G.setInfo H.length i) (H ++ [B]) w' ∧ Evol G H.length (G.setInfo H.length i) := by
  have he := Evol.setInfo_new G H.length i
  refine ⟨⟨hb, fun a v ha => ?_, fun k D hD => ?_, fun k D hD hlv => ?_, fun k k' D D' hD hD' hlv hlv' hq => ?_, fun g => (h.glob g).mono 0 (he.less (Nat.zero_le _)) (Nat.le_refl _), h.tab⟩, he⟩
  · have := h.mem a v ha
    rw [cell_of_heap (w := w) (hk _ (World.block_lt_of_cell? w a this))]; exact this
  · rw [List.length_append, List.length_singleton]
    by_cases hkl : k < H.length
    · rw [List.getElem?_append_left hkl] at hD
      rw [G.setInfo_other i (by omega)]
      exact (h.blk k D hD).mono he (by omega) (fun hv => hk _ (h.own k D hD hv).2.1)
    · rw [List.getElem?_append_right (by omega)] at hD
      have hk0 : k - H.length = 0 := by
        rcases Nat.eq_zero_or_pos (k - H.length) with h0 | h0
        · exact h0
        · rw [List.getElem?_eq_none (by simp; omega)] at hD; cases hD
      have hkk : k = H.length := by omega
      rw [hk0] at hD; simp at hD; subst hD; subst hkk
      rw [G.setInfo_same]; exact hB
  · by_cases hkl : k < H.length
    · rw [List.getElem?_append_left hkl] at hD
      rw [G.setInfo_other i (by omega)] at hlv ⊢
      have := h.own k D hD hlv
      exact ⟨this.1, by omega, this.2.2⟩
    · rw [List.getElem?_append_right (by omega)] at hD
      have hk0 : k - H.length = 0 := by
        rcases Nat.eq_zero_or_pos (k - H.length) with h0 | h0
        · exact h0
        · rw [List.getElem?_eq_none (by simp; omega)] at hD; cases hD
      have hkk : k = H.length := by omega
      rw [hk0] at hD; simp at hD; subst hD; subst hkk
      rw [G.setInfo_same] at hlv ⊢
      have := hl hlv
      exact ⟨by have := h.size; omega, this.2, fun o s => h.M_new this.1 o s⟩
  · have key : ∀ (k : Nat) D, (H ++ [B])[k]? = some D → (k < H.length ∧ H[k]? = some D) ∨ (k = H.length ∧ D = B) := by
      intro k D hD
      by_cases hkl : k < H.length
      · rw [List.getElem?_append_left hkl] at hD; exact .inl ⟨hkl, hD⟩
      · rw [List.getElem?_append_right (by omega)] at hD
        have hk0 : k - H.length = 0 := by
          rcases Nat.eq_zero_or_pos (k - H.length) with h0 | h0
          · exact h0
          · rw [List.getElem?_eq_none (by simp; omega)] at hD; cases hD
        rw [hk0] at hD; simp at hD; exact .inr ⟨by omega, hD.symm⟩
    rcases key k D hD with ⟨hkl, h1⟩ | ⟨h1, h2⟩ <;> rcases key k' D' hD' with ⟨hkl', h1'⟩ | ⟨h1', h2'⟩
    · rw [G.setInfo_other i (show k ≠ H.length by omega)] at hlv hq; rw [G.setInfo_other i (show k' ≠ H.length by omega)] at hlv' hq
      exact h.inj k k' D D' h1 h1' hlv hlv' hq
    · subst h1' h2'
      rw [G.setInfo_other i (show k ≠ H.length by omega)] at hlv hq; rw [G.setInfo_same] at hlv' hq
      have := (h.own k D h1 hlv).2.1; have := hl hlv'; omega
    · subst h1 h2
      rw [G.setInfo_other i (show k' ≠ H.length by omega)] at hlv' hq; rw [G.setInfo_same] at hlv hq
      have := (h.own k' D' h1' hlv').2.1; have := hl hlv; omega
    · omega

/-- A block is turned. -/
theorem Sim.set (h : Sim Γ w0 G H w) (hb : H[b]? = some B) (he : Evol G H.length G') (hi : ∀ k, k < H.length → k ≠ b → G'.info k = G.info k)
    (hw : Below w0.heap.size w0 w') (hs : w.heap.size ≤ w'.heap.size)
    (hk : ∀ (k : Nat) D, H[k]? = some D → k ≠ b → D.live (G.info k) = true → w'.heap[(G.info k).blk]? = w.heap[(G.info k).blk]?)
    (hm : ∀ a v, G'.M a = some v → w'.cell? a = some v)
    (hM : ∀ (k : Nat) D, H[k]? = some D → k ≠ b → D.live (G.info k) = true → ∀ o s, G'.M ⟨(G.info k).blk, o, s⟩ = none)
    (hB : BlkOk G' H.length w' (G'.info b) B')
    (hl : B'.live (G'.info b) = true → w0.heap.size ≤ (G'.info b).blk ∧ (G'.info b).blk < w'.heap.size ∧ (∀ o s, G'.M ⟨(G'.info b).blk, o, s⟩ = none) ∧
      ∀ (k : Nat) D, H[k]? = some D → k ≠ b → D.live (G.info k) = true → (G.info k).blk ≠ (G'.info b).blk) : Sim Γ w0 G' (H.set b B') w' := by
  have hlt : ∀ (k : Nat) B, H[k]? = some B → k < H.length := fun k B hB => (List.getElem?_eq_some_iff.1 hB).1
  have hbl := hlt b B hb
  have key : ∀ (k : Nat) D, (H.set b B')[k]? = some D → (k ≠ b ∧ H[k]? = some D) ∨ (k = b ∧ D = B') := by
    intro k D hD
    by_cases hkb : k = b
    · subst hkb; rw [List.getElem?_set_self hbl] at hD; exact .inr ⟨rfl, (Option.some.inj hD).symm⟩
    · rw [List.getElem?_set_ne (Ne.symm hkb)] at hD; exact .inl ⟨hkb, hD⟩
  refine ⟨hw, hm, fun k D hD => ?_, fun k D hD hlv => ?_, fun k k' D D' hD hD' hlv hlv' hq => ?_, fun g => (h.glob g).mono 0 (he.less (Nat.zero_le _)) (Nat.le_refl _), h.tab⟩
  · rw [List.length_set]
    rcases key k D hD with ⟨hkb, hD⟩ | ⟨rfl, rfl⟩
    · rw [hi k (hlt k D hD) hkb]; exact (h.blk k D hD).mono he (Nat.le_refl _) (hk k D hD hkb)
    · exact hB
  · rcases key k D hD with ⟨hkb, hD⟩ | ⟨rfl, rfl⟩
    · rw [hi k (hlt k D hD) hkb] at hlv ⊢
      have := h.own k D hD hlv
      exact ⟨this.1, by omega, hM k D hD hkb hlv⟩
    · have := hl hlv; exact ⟨this.1, this.2.1, this.2.2.1⟩
  · rcases key k D hD with ⟨hkb, h1⟩ | ⟨h1, h2⟩ <;> rcases key k' D' hD' with ⟨hkb', h1'⟩ | ⟨h1', h2'⟩
    · rw [hi k (hlt k D h1) hkb] at hlv hq; rw [hi k' (hlt k' D' h1') hkb'] at hlv' hq
      exact h.inj k k' D D' h1 h1' hlv hlv' hq
    · subst h1' h2'
      rw [hi k (hlt k D h1) hkb] at hlv hq
      exact absurd hq ((hl hlv').2.2.2 k D h1 hkb hlv)
    · subst h1 h2
      rw [hi k' (hlt k' D' h1') hkb'] at hlv' hq
      exact absurd hq.symm ((hl hlv).2.2.2 k' D' h1' hkb' hlv')
    · omega

/-- The world turns in a block's own place alone. -/
theorem Sim.setSame (h : Sim Γ w0 G H w) (hb : H[b]? = some B) (hlv : B.live (G.info b) = true) (hsame : ∀ k, k ≠ (G.info b).blk → w'.heap[k]? = w.heap[k]?) (hs : w'.heap.size = w.heap.size)
    (ho : w'.os = w.os ∧ w'.tape = w.tape ∧ w'.output = w.output) (hB : BlkOk G H.length w' (G.info b) B') : Sim Γ w0 G (H.set b B') w' := by
  have hown := h.own b B hb hlv
  have hbel : Below w0.heap.size w0 w' := h.below.trans ⟨ho.1, ho.2.1, ho.2.2, by omega, fun k hk => hsame k (by omega)⟩
  refine h.set hb (Evol.refl _ _) (fun _ _ _ => rfl) hbel (by omega) (fun k D hD hkb hl => hsame _ (fun e => hkb (h.inj k b D B hD hb hl hlv e))) (fun a v ha => ?_)
    (fun k D hD _ hl => (h.own k D hD hl).2.2) hB (fun _ => ⟨hown.1, by omega, hown.2.2, fun k D hD hkb hl e => hkb (h.inj k b D B hD hb hl hlv e)⟩)
  have hc := h.mem a v ha
  have hne : a.block ≠ (G.info b).blk := by
    intro e
    obtain ⟨g, o, s⟩ := a
    simp only at e
    subst e
    rw [hown.2.2 o s] at ha; cases ha
  rw [cell_of_heap (w := w) (hsame _ hne)]; exact hc

/-- Blocks from a number on are forgotten. -/
theorem Sim.take (h : Sim Γ w0 G H w) (m : Nat) (hm : m ≤ H.length) (hB : ∀ B ∈ H.take m, B.bd m = true) : Sim Γ w0 G (H.take m) w := by
  have key : ∀ (k : Nat) D, (H.take m)[k]? = some D → H[k]? = some D := fun k D hD => by
    rw [List.getElem?_take] at hD; split at hD
    · exact hD
    · cases hD
  refine ⟨h.below, h.mem, fun k D hD => ?_, fun k D hD => h.own k D (key k D hD), fun k k' D D' hD hD' => h.inj k k' D D' (key k D hD) (key k' D' hD'), h.glob, h.tab⟩
  rw [List.length_take, Nat.min_eq_left hm]
  exact (h.blk k D (key k D hD)).cut (hB D (List.mem_of_getElem? hD))

theorem Sim.box_at (h : Sim Γ w0 G H w) {cs : List PV} (hb : H[b]? = some (.box cs)) :
    (G.info b).isRow = false ∧ ∃ C e, w.heap[(G.info b).blk]? = some (.cells C e (0, 0)) ∧ Reps G H.length cs C.toList ∧ ∀ (j : Nat) u, C[j]? = some u → u.oneCell' = true := h.blk b _ hb

end
end Go.Proofs.YtinedfjknhahmaaDoor.Fw
