/- The framework, twenty-third part: tables of the library, and contracts that let the heap grow. -/
import Derived.Test.YtinedfjknhahmaaDoorFwV
import Derived.Test.YtinedfjknhahmaaDoorFwU
import Derived.Lib.LaidTab
import Derived.Sort.Grow
import Derived.Deep.Draws
import Derived.Laws.BytesString
namespace Go.Proofs.YtinedfjknhahmaaDoor.Fw
set_option linter.unusedVariables false
set_option linter.unusedSimpArgs false
open Go.RowKit

theorem Sim.grow {Γ : Nat → PV} {w0 w : World} {G : Ghost} {H : List Blk} (h : Sim Γ w0 G H w) (n : Nat) (os : Array Obj) : Sim Γ w0 G H (Sort.grow (w.drewN n) os) := by
  have hk : ∀ k, k < w.heap.size → (Sort.grow (w.drewN n) os).heap[k]? = w.heap[k]? := fun k hk => by
    show (w.heap ++ os)[k]? = _
    rw [Array.getElem?_append_left hk]
  have hsz : w.heap.size ≤ (Sort.grow (w.drewN n) os).heap.size := by
    show _ ≤ (w.heap ++ os).size
    simp
  exact h.step (Evol.refl _ _) (fun _ _ => rfl) (h.below.trans ⟨rfl, rfl, rfl, hsz, fun k hk' => hk k (Nat.lt_of_lt_of_le hk' h.size)⟩) hsz (fun k B hB hl => hk _ (h.own k B hB hl).2.1)
    (fun a v ha => by
      have := h.mem a v ha
      rw [cell_of_heap (w := w) (hk _ (World.block_lt_of_cell? w a this))]; exact this)
    (fun k B hB hl => (h.own k B hB hl).2.2)

/-- A table of the library's. -/
theorem Sim.table {P : Program} {Γ : Nat → PV} {w0 w : World} {G : Ghost} {H : List Blk} (hs : Sim Γ w0 G H w) {name : String} {g : Nat} {k : IntKind} {zs : List Int} (hn : P.globalNamed name = some g) (hg : Γ g = .cptr (zs.map fun z => .int k z)) :
    Lib.TabIs P w name k zs := by
  obtain ⟨C, e, q, h1, h2⟩ := hs.tab g _ hg
  have hlt : g < w0.heap.size := (Array.getElem?_eq_some_iff.1 h1).1
  have h3 : w.heap[g]? = some (.cells C e q) := (hs.below.block g hlt).trans h1
  unfold Lib.TabIs World.var?
  rw [hn]
  simp only [Option.bind_some, h3, Option.some.injEq]
  have hr := hs.glob g
  rw [hg] at hr
  rw [List.length_map] at h2
  refine Array.ext (by simpa using h2) fun i hi hi' => ?_
  cases hr with
  | cptr _ cs b o vs r1 r2 r3 =>
    have hz : i < zs.length := by omega
    have hc : (zs.map fun z => PV.int k z)[i]? = some (.int k zs[i]) := by simp [hz]
    have hm := hs.mem _ _ (r1 i _ hc)
    have hv := r2 i _ hc
    simp only [World.cell?, h3, Nat.zero_add, Option.isSome_none, Bool.false_eq_true, ↓reduceIte] at hm
    rw [Array.getElem?_eq_getElem hi, Option.some.injEq] at hm
    rw [hm]
    cases hv' : vs i with
    | int k' z => rw [hv'] at hv; cases hv; simp
    | _ => rw [hv'] at hv; cases hv

/-- A contract of the library's that gives a text, and lets the heap grow. -/
theorem gives_text {P : Program} {Γ : Nat → PV} {f : FuncId} {name : String} {g : Nat} {k : IntKind} {zs : List Int} (hn : P.globalNamed name = some g) (hg : Γ g = .cptr (zs.map fun z => .int k z)) {ps : List PV} {vs : Array Value} {s : List UInt8}
    (hv : ∀ (G : Ghost) (n : Nat) (us : Array Value), Reps G n ps us.toList → us = vs) (hs : s.length ≤ 9223372036854775807)
    (h : ∀ w, Lib.TabIs P w name k zs → Calls P f vs w fun e w' => e = .returned (.string ⟨s.toArray⟩) ∧ ∃ k os, w' = Sort.grow (w.drewN k) os) : Gives P Γ f ps (.str s) := by
  intro H w0 G w us hsim hr
  obtain rfl := hv G _ us hr
  refine callsIn_wide.2 ((h w (hsim.table hn hg)).mono fun e w' hq => ?_)
  obtain ⟨rfl, n, os, rfl⟩ := hq
  exact ⟨_, .str s, H, G, rfl, hsim.grow n os, .str _ _ hs, Evol.refl _ _, Nat.le_refl _, rfl, rfl⟩

theorem ints2 {G : Ghost} {n : Nat} {k k' : IntKind} {x y : Int} {us : Array Value} (h : Reps G n [.int k x, .int k' y] us.toList) : us = #[.int k x, .int k' y] := by
  obtain ⟨l⟩ := us
  obtain ⟨v, vs, rfl, h1, h2⟩ := h.cons_inv
  obtain ⟨v', vs', rfl, h3, h4⟩ := h2.cons_inv
  have : vs' = [] := by have := h4.1; simpa using this.symm
  subst this
  rw [h1.int_inv, h3.int_inv]

/-- Bytes, as a slice's elements. -/
def bytesV (l : List UInt8) : List (List PV) := l.map fun c => [.int .u8 c.toNat]

theorem pushes (l : List UInt8) : ∀ s : ByteArray, (l.map fun c => (c.toNat : Int)).foldl (fun r n => r.push (UInt8.ofNat n.toNat)) s = ⟨s.data ++ l.toArray⟩ := by
  induction l with
  | nil => intro s; simp
  | cons c l ih =>
    intro s
    rw [List.map_cons, List.foldl_cons, ih]
    simp [ByteArray.push]

/-- Bytes to a text. -/
theorem os_convBytes {P : Program} {Γ : Nat → PV} {A : List (Nat × PV)} {H : List Blk} {o : Oper} {K : PV → List Blk → Prop} {src dst e : TypeId} {x : Operand} {l : List UInt8} {f : Bool} (ho : o.op = .convert src dst x) (hs' : P.underlying src = some (.slice e)) (he : P.underlying e = some (.int .u8)) (hd : P.underlying dst = some .string)
    (hx : ev Γ A x = .vec (bytesV l) f) (hk : K (.str l) H) : OStep P Γ o A H K :=
  ostep_pure (by simp [ho]) _ hk fun w0 G w N a hs ha => by
    have h1 := ha.ev hs.glob x
    rw [hx] at h1
    have hlen : l.length ≤ 9223372036854775807 := by have := h1.vec_len; simpa [bytesV] using this
    refine ⟨.string ⟨l.toArray⟩, ?_, .str _ _ hlen⟩
    have key : (Conv.bytesToString (a.eval x)).run P w = .ok (.string ⟨l.toArray⟩) w := by
      generalize a.eval x = v at h1
      by_cases hl : l = []
      · subst hl
        cases h1 with
        | vec0 n f ad =>
          cases ad with
          | none => rfl
          | some ad =>
            have := run_bytesToString (P := P) w ad 0 0 [] (by simp [loadCells, loadCellsFrom])
            exact this
        | vec n es f b o sz cap vs hn hc hf hsz r1 r2 r3 =>
          have := run_bytesToString (P := P) w ⟨b, o, none⟩ 0 cap [] (by simp [loadCells, loadCellsFrom])
          exact this
      · generalize hes : bytesV l = es at h1
        cases h1 with
        | vec0 n f ad => unfold bytesV at hes; simp [hl] at hes
        | vec n es f b o sz cap vs hn hc hf hsz r1 r2 r3 =>
          subst hes
          have hsz1 : sz = 1 := by
            obtain ⟨c, l', rfl⟩ := List.exists_cons_of_ne_nil hl
            exact (hsz [.int .u8 c.toNat] (by simp [bytesV])).symm
          subst hsz1
          have := run_bytesToString (P := P) w ⟨b, o, none⟩ l.length cap (l.map fun c => (c.toNat : Int)) (by
            have := run_loadCells_list (P := P) (w := w) ⟨b, o, none⟩ ((l.map fun c => (c.toNat : Int)).map (Value.int .u8)) (fun j v hj => by
              rw [Go.Proofs.YtinedfjknhahmaaDoor.Fw.add_at]
              simp only [List.map_map, List.getElem?_map] at hj
              obtain ⟨c, hc', rfl⟩ := Option.map_eq_some_iff.1 hj
              have hi : (bytesV l)[j]? = some [.int .u8 c.toNat] := by simp [bytesV, hc']
              have hm := hs.mem _ _ (r1 j 0 _ _ hi rfl)
              have hr := r2 j 0 _ _ hi rfl
              rw [Nat.mul_one, Nat.add_zero] at hm hr
              rw [hm, hr.int_inv]
              rfl)
            simpa using this)
          rw [pushes] at this
          have e : (bytesV l).length = l.length := by simp [bytesV]
          rw [e]
          simpa using this
    obtain ⟨ad, ln, cp, hv⟩ : ∃ ad ln cp, a.eval x = .slice ad ln cp := by
      generalize a.eval x = v at h1
      generalize bytesV l = es at h1
      cases h1 <;> exact ⟨_, _, _, rfl⟩
    rw [hv] at key
    simp [execOp, ho, hv, convert, run_under hs', run_under hd, run_under he, key]

/-- The end of a function that leaves these blocks. -/
theorem calls_at {P : Program} {Γ : Nat → PV} {fn : Func} {n : Nat} {p : PV} {R : PV → List Blk → Prop} {A' : List (Nat × PV)} {H : List Blk} {e : Exit} (he : e = .ret ∨ e = .normal) (hbd : ∀ B ∈ H, B.bd H.length = true) (h : ares P Γ A' H fn.results.toList = some p) (hp : p.bd H.length = true) (hn : n ≤ H.length) (hR : R p H) :
    RetQ P Γ fn n R e A' H [] :=
  ⟨he, List.nodup_nil, (fun b hb => by cases hb), p, H.length, h, hn, Nat.le_refl _, fun b hb => (by cases hb), hp, by rw [List.take_length]; exact hbd, by rw [List.take_length]; exact hR⟩

end Go.Proofs.YtinedfjknhahmaaDoor.Fw
