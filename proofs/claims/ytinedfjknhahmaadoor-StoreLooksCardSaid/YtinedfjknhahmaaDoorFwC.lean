/- The framework, third part: the frame's slots, what an operation does, and the operations that only move, load and store. -/
import Derived.Test.YtinedfjknhahmaaDoorFwB
namespace Go.Proofs.YtinedfjknhahmaaDoor.Fw
set_option linter.unusedVariables false
set_option linter.unusedSimpArgs false
open Go.RowKit

/-- What a constant stands for. -/
def ofC : Value → PV
  | .bool b => .bool b
  | .int k n => .int k n
  | .string s => if s.data.toList.length ≤ 9223372036854775807 then .str s.data.toList else .any
  | .pointer none => .nilp
  | .map none => .nilm
  | .nilFunc => .nilf
  | .nilIface => .nili
  | .slice none 0 0 => .vec [] true
  | .func fn ⟨[]⟩ ⟨[]⟩ => .func fn [] []
  | _ => .any

theorem ofC_rep (G : Ghost) (n : Nat) (v : Value) : Rep G n (ofC v) v := by
  unfold ofC
  split
  · exact .bool _ _
  · exact .int _ _ _
  · rename_i s
    split
    · rename_i h; exact .str n s.data.toList h
    · exact .any _ _
  · exact .nilp _
  · exact .nilm _
  · exact .nilf _
  · exact .nili _
  · exact .vec0 _ _ _
  · exact .func n _ [] [] #[] #[] rfl rfl (fun i c v h => by simp at h) (fun i c v h => by simp at h)
  · exact .any _ _

/-- The slots of which something is known; the last word counts. -/
def alook : List (Nat × PV) → Nat → PV
  | [], _ => .any
  | (k, p) :: r, t => if t = k then p else alook r t

def aput (A : List (Nat × PV)) : Option Tmp → PV → List (Nat × PV)
  | none, _ => A
  | some d, p => (d, p) :: A

def ev (Γ : Nat → PV) (A : List (Nat × PV)) : Operand → PV
  | .tmp t => alook A t
  | .const v => ofC v
  | .global g => Γ g
  | .func f => .func (.func f) [] []

def ASim (G : Ghost) (n N : Nat) (A : List (Nat × PV)) (a : Act) : Prop := a.tmps.size = N ∧ ∀ t, Rep G n (alook A t) (a.tmps.getD t undef)

theorem ASim.ev {Γ : Nat → PV} {G : Ghost} {n N : Nat} {A : List (Nat × PV)} {a : Act} (h : ASim G n N A a) (hg : ∀ g, Rep G 0 (Γ g) (.pointer (some ⟨g, 0, none⟩))) (x : Operand) :
    Rep G n (ev Γ A x) (a.eval x) := by
  cases x with
  | tmp t => exact h.2 t
  | const v => exact ofC_rep G n v
  | global g => exact (hg g).mono n (Evol.refl _ _) (Nat.zero_le _)
  | func f => exact .func n _ [] [] #[] #[] rfl rfl (fun i c v h => by simp at h) (fun i c v h => by simp at h)

theorem ASim.mono {G G' : Ghost} {n m N : Nat} {A : List (Nat × PV)} {a : Act} (h : ASim G n N A a) (he : Evol G n G') (hm : n ≤ m) : ASim G' m N A a :=
  ⟨h.1, fun t => (h.2 t).mono m he hm⟩

theorem ASim.put {G : Ghost} {n N : Nat} {A : List (Nat × PV)} {a : Act} (h : ASim G n N A a) {p : PV} {v : Value} (hp : Rep G n p v) {dst : Option Tmp} (hd : ∀ d, dst = some d → d < N) :
    ASim G n N (aput A dst p) (a.put dst v) := by
  cases dst with
  | none => exact h
  | some d =>
    have hd' := hd d rfl
    refine ⟨by simp [Act.put, h.1], fun t => ?_⟩
    simp only [aput, alook, Act.put]
    by_cases e : t = d
    · subst e
      rw [if_pos rfl]
      have : (a.tmps.setIfInBounds t v).getD t undef = v := by simp [Array.getD, h.1, hd']
      rw [this]; exact hp
    · rw [if_neg e]
      have : (a.tmps.setIfInBounds d v).getD t undef = a.tmps.getD t undef := by
        simp only [Array.getD_eq_getD_getElem?, Array.getElem?_setIfInBounds_ne (fun h => e h.symm)]
      rw [this]; exact h.2 t

/-- Less is known. -/
theorem ASim.less {G : Ghost} {n N : Nat} {A A' : List (Nat × PV)} {a : Act} (h : ASim G n N A a) (hs : ∀ t, alook A' t = alook A t ∨ alook A' t = .any) : ASim G n N A' a :=
  ⟨h.1, fun t => by rcases hs t with e | e <;> rw [e]; exact h.2 t; exact .any _ _⟩

/-- What of a type an operation wants. -/
structure TI where
  size : Nat
  bytes : Nat
  agg : Bool
  zero : List PV

def aggD : TypeDesc → Bool
  | .struct _ | .array _ _ => true
  | _ => false

def tiOf (P : Program) (t : TypeId) : Option TI :=
  match P.info? t, P.underlying t with
  | some i, some d => match i.zero with
    | some z => if z.cells.size = i.size ∧ z.cells.toList.all (·.oneCell') = true then
        some { size := i.size, bytes := i.bytes, agg := (aggD d), zero := z.cells.toList.map ofC } else none
    | none => none
  | _, _ => none

theorem tiOf_spec {P : Program} {t : TypeId} {ti : TI} (h : tiOf P t = some ti) : ∃ i d z, P.info? t = some i ∧ P.underlying t = some d ∧ i.zero = some z ∧ z.cells.size = ti.size ∧ i.size = ti.size ∧ i.bytes = ti.bytes ∧
    (∀ (j : Nat) u, z.cells[j]? = some u → u.oneCell' = true) ∧ ti.agg = (aggD d) ∧ ti.zero = z.cells.toList.map ofC := by
  unfold tiOf at h
  split at h
  · rename_i i d hi hd
    split at h
    · rename_i z hz
      split at h
      · rename_i hc
        obtain rfl := Option.some.inj h
        refine ⟨i, d, z, hi, hd, hz, hc.1, rfl, rfl, fun j u hu => ?_, rfl, rfl⟩
        have := hc.2
        rw [List.all_eq_true] at this
        exact this u (by simpa using Array.mem_of_getElem? hu)
      · cases h
    · cases h
  · cases h

theorem run_under {P : Program} {t : TypeId} {d : TypeDesc} (h : P.underlying t = some d) (w : World) : (underlying t).run P w = .ok d w := by
  simp [underlying, program, Sem.run, h]
theorem run_info {P : Program} {t : TypeId} {i : TypeInfo} (h : P.info? t = some i) (w : World) : (typeInfo t).run P w = .ok i w := by
  simp [typeInfo, program, Sem.run, h]
theorem run_zero {P : Program} {t : TypeId} {i : TypeInfo} {z : Value} (h : P.info? t = some i) (hz : i.zero = some z) (w : World) : (zeroValue t).run P w = .ok z w := by
  simp [zeroValue, run_info h, hz]
theorem run_size {P : Program} {t : TypeId} {i : TypeInfo} (h : P.info? t = some i) (w : World) : (sizeOf t).run P w = .ok i.size w := by
  simp [sizeOf, run_info h]
theorem run_agg {P : Program} {t : TypeId} {d : TypeDesc} (h : P.underlying t = some d) (w : World) : (isAgg t).run P w = .ok (aggD d) w := by
  simp [isAgg, run_under h]
  cases d <;> rfl

/-- The fence that lets everything by. -/
abbrev Fr (ro : Option Nat) : Fence := { Fence.wide with round := ro }

/-- An operation, carried out where the slots A and the blocks H are known, comes to what K takes. -/
def OStep (P : Program) (Γ : Nat → PV) (o : Oper) (A : List (Nat × PV)) (H : List Blk) (K : PV → List Blk → Prop) : Prop :=
  ∀ (ro : Option Nat) (w0 : World) (G : Ghost) (w : World) (N : Nat) (a : Act) (next : Act → World → Prop) (Q : Exit → Act → World → Prop), Sim Γ w0 G H w → ASim G H.length N A a →
    (∀ v w' G' p H', Sim Γ w0 G' H' w' → Rep G' H'.length p v → Evol G H.length G' → H.length ≤ H'.length → K p H' → next (a.put o.dst v) w') →
    o.wpIn (Fr ro) 0 P a w next Q

theorem wpIn_of_upon {P : Program} {o : Oper} {ro : Option Nat} {a : Act} {w : World} {next : Act → World → Prop} {Q : Exit → Act → World → Prop} (hd : ∀ c, o.op ≠ .defer c)
    (h : o.uponIn (Fr ro) 0 P a next Q ((execOp a.eval o).run P w)) : o.wpIn (Fr ro) 0 P a w next Q := by
  refine ⟨fun _ _ => trivial, ?_⟩
  rw [Oper.semAt_eq _ _ _ hd]
  exact h

section
variable {P : Program} {Γ : Nat → PV} {o : Oper} {A : List (Nat × PV)} {H : List Blk} {K : PV → List Blk → Prop}

theorem ostep_value (hd : ∀ c, o.op ≠ .defer c) (h : ∀ (w0 : World) (G : Ghost) (w : World) (N : Nat) (a : Act), Sim Γ w0 G H w → ASim G H.length N A a →
    ∃ v w' G' p H', (execOp a.eval o).run P w = .ok (.value v) w' ∧ Sim Γ w0 G' H' w' ∧ Rep G' H'.length p v ∧ Evol G H.length G' ∧ H.length ≤ H'.length ∧ K p H') : OStep P Γ o A H K := by
  intro ro w0 G w N a next Q hs ha hn
  obtain ⟨v, w', G', p, H', hr, h1, h2, h3, h4, h5⟩ := h w0 G w N a hs ha
  refine wpIn_of_upon hd ?_
  rw [hr]
  exact hn v w' G' p H' h1 h2 h3 h4 h5

/-- Nothing of the world turns. -/
theorem ostep_pure (hd : ∀ c, o.op ≠ .defer c) (p : PV) (hk : K p H) (h : ∀ (w0 : World) (G : Ghost) (w : World) (N : Nat) (a : Act), Sim Γ w0 G H w → ASim G H.length N A a →
    ∃ v, (execOp a.eval o).run P w = .ok (.value v) w ∧ Rep G H.length p v) : OStep P Γ o A H K :=
  ostep_value hd fun w0 G w N a hs ha => let ⟨v, h1, h2⟩ := h w0 G w N a hs ha; ⟨v, w, G, p, H, h1, hs, h2, Evol.refl _ _, Nat.le_refl _, hk⟩

theorem ostep_skip (hd : ∀ c, o.op ≠ .defer c) (h : ∀ (w0 : World) (G : Ghost) (w : World) (N : Nat) (a : Act), Sim Γ w0 G H w → ASim G H.length N A a →
    ∃ w' G' H', (execOp a.eval o).run P w = .ok .skip w' ∧ Sim Γ w0 G' H' w' ∧ Evol G H.length G' ∧ H.length ≤ H'.length ∧ K .any H') : OStep P Γ o A H K := by
  intro ro w0 G w N a next Q hs ha hn
  obtain ⟨w', G', H', hr, h1, h3, h4, h5⟩ := h w0 G w N a hs ha
  refine wpIn_of_upon hd ?_
  rw [hr]
  exact hn undef w' G' .any H' h1 (.any _ _) h3 h4 h5

theorem OStep.mono {K' : PV → List Blk → Prop} (h : OStep P Γ o A H K) (hk : ∀ p H', K p H' → K' p H') : OStep P Γ o A H K' :=
  fun ro w0 G w N a next Q hs ha hn => h ro w0 G w N a next Q hs ha (fun v w' G' p H' h1 h2 h3 h4 h5 => hn v w' G' p H' h1 h2 h3 h4 (hk p H' h5))

theorem os_move {x : Operand} (ho : o.op = .move x) (hk : K (ev Γ A x) H) : OStep P Γ o A H K :=
  ostep_pure (by simp [ho]) _ hk fun w0 G w N a hs ha => ⟨a.eval x, by simp [execOp, ho], ha.ev hs.glob x⟩
theorem os_assign {x : Operand} (ho : o.op = .assign x) (hk : K (ev Γ A x) H) : OStep P Γ o A H K :=
  ostep_pure (by simp [ho]) _ hk fun w0 G w N a hs ha => ⟨a.eval x, by simp [execOp, ho], ha.ev hs.glob x⟩

theorem Rep.bool_inv {G : Ghost} {n : Nat} {b : Bool} {v : Value} (h : Rep G n (.bool b) v) : v = .bool b := by cases h; rfl
theorem Rep.int_inv {G : Ghost} {n : Nat} {k : IntKind} {i : Int} {v : Value} (h : Rep G n (.int k i) v) : v = .int k i := by cases h; rfl
theorem Rep.str_inv {G : Ghost} {n : Nat} {s : List UInt8} {v : Value} (h : Rep G n (.str s) v) : v = .string ⟨s.toArray⟩ := by cases h; rfl
theorem Rep.str_len {G : Ghost} {n : Nat} {s : List UInt8} {v : Value} (h : Rep G n (.str s) v) : s.length ≤ 9223372036854775807 := by cases h; assumption
theorem Rep.vec_len {G : Ghost} {n : Nat} {es : List (List PV)} {f : Bool} {v : Value} (h : Rep G n (.vec es f) v) : es.length ≤ 9223372036854775807 := by
  cases h with
  | vec0 => exact Nat.zero_le _
  | vec _ _ _ _ _ _ _ _ hn => exact hn
theorem Rep.row_len {G : Ghost} {n b q k sz : Nat} {v : Value} (h : Rep G n (.row b q k sz) v) : k ≤ 9223372036854775807 := by cases h; assumption

theorem Rep.ptr_inv {G : Ghost} {n b q : Nat} {v : Value} (h : Rep G n (.ptr b q) v) : v = .pointer (some ⟨(G.info b).blk, q, none⟩) ∧ b < n ∧ (G.info b).isRow = false := by
  cases h with
  | ptr _ _ _ h1 h2 => exact ⟨rfl, h1, h2⟩
theorem Rep.eptr_inv {G : Ghost} {n b q len : Nat} {v : Value} (h : Rep G n (.eptr b q len) v) : ∃ ad : Addr, v = .pointer (some ad) ∧ b < n ∧ (G.info b).isRow = true ∧ len ≤ (G.info b).len ∧ ((G.info b).len = len → (G.info b).sub ≤ q ∧ ad = ⟨(G.info b).blk, q - (G.info b).sub, none⟩) := by
  cases h with
  | eptr _ _ _ _ ad h1 h2 h3 h4 => exact ⟨ad, rfl, h1, h2, h3, h4⟩
theorem Rep.row_inv {G : Ghost} {n b q k sz : Nat} {v : Value} (h : Rep G n (.row b q k sz) v) : ∃ ad cap, v = .slice ad k cap ∧ b < n ∧ (G.info b).isRow = true ∧ q + k * sz ≤ (G.info b).len ∧
    ((G.info b).len = q + k * sz → k ≤ cap ∧ (((G.info b).sub ≤ q ∧ ad = some ⟨(G.info b).blk, q - (G.info b).sub, none⟩ ∧ (q - (G.info b).sub) + cap * sz = (G.info b).size) ∨ (k = 0 ∧ cap = 0))) := by
  cases h with
  | row _ _ _ _ _ ad cap _ h1 h2 h3 h4 => exact ⟨ad, cap, rfl, h1, h2, h3, h4⟩

theorem os_pick {c x y : Operand} {b : Bool} (ho : o.op = .pick c x y) (hc : ev Γ A c = .bool b) (hk : K (if b then ev Γ A x else ev Γ A y) H) : OStep P Γ o A H K :=
  ostep_pure (by simp [ho]) _ hk fun w0 G w N a hs ha => by
    have h := ha.ev hs.glob c
    rw [hc] at h
    refine ⟨if b then a.eval x else a.eval y, ?_, ?_⟩
    · simp [execOp, ho, h.bool_inv, asBool]
    · cases b
      · exact ha.ev hs.glob y
      · exact ha.ev hs.glob x

/-- A new variable. -/
theorem Sim.newBox {w0 : World} {G : Ghost} {w : World} (h : Sim Γ w0 G H w) (C : Array Value) (e : TypeId) {cs : List PV} (hr : Reps G H.length cs C.toList) (h1 : ∀ (j : Nat) u, C[j]? = some u → u.oneCell' = true) :
    ∃ G', Sim Γ w0 G' (H ++ [Blk.box cs]) (w.alloc (.cells C e)) ∧ Evol G H.length G' ∧ Rep G' (H ++ [Blk.box cs]).length (.ptr H.length 0) (.pointer (some ⟨w.heap.size, 0, none⟩)) := by
  let i : Info := { blk := w.heap.size, len := 0, size := 0, sub := 0, isRow := false }
  have hp := h.push i (.box cs) (w.alloc (.cells C e)) (h.below.alloc h.size _) (by simp) (fun k hk => Below.heap_alloc _ _ _ hk)
    ⟨rfl, C, e, heap_new w _, hr.mono (Evol.setInfo_new G _ i) (by omega), h1⟩ (fun _ => ⟨Nat.le_refl _, by simp [i]⟩)
  refine ⟨_, hp.1, hp.2, ?_⟩
  have := Rep.ptr (G := G.setInfo H.length i) (H ++ [Blk.box cs]).length H.length 0 (by simp) (by rw [G.setInfo_same])
  rw [G.setInfo_same] at this
  exact this

theorem os_alloc {t : TypeId} {ti : TI} (ho : o.op = .alloc t) (ht : tiOf P t = some ti) (hk : K (.ptr H.length 0) (H ++ [.box ti.zero])) : OStep P Γ o A H K :=
  ostep_value (by simp [ho]) fun w0 G w N a hs ha => by
    obtain ⟨i, d, z, hi, hd, hz, hzs, _, _, h1, _, hzero⟩ := tiOf_spec ht
    have hr : Reps G H.length ti.zero z.cells.toList := by
      rw [hzero]
      refine ⟨by simp, fun j p v hp hv => ?_⟩
      rw [List.getElem?_map, hv] at hp
      obtain rfl := Option.some.inj hp
      exact ofC_rep _ _ _
    obtain ⟨G', h2, h3, h4⟩ := hs.newBox z.cells t hr h1
    exact ⟨_, _, G', _, _, by simp [execOp, ho, Instr.alloc, run_zero hi hz, newVar, newRow, newObj, Sem.run], h2, h4, h3, by simp, hk⟩

/-- The value is one cell for sure, or a struct. -/
def PV.shaped : PV → Bool
  | .tup _ | .any => false
  | _ => true
theorem PV.shaped_iff {p : PV} (h : p.shaped = true) : p.one = true ∨ ∃ cs, p = .agg cs := by cases p <;> simp_all [PV.shaped, PV.one]

theorem os_box {t : TypeId} {x : Operand} (ho : o.op = .box t x) (hx : (ev Γ A x).shaped = true) (hk : K (.ptr H.length 0) (H ++ [.box (ev Γ A x).cells])) : OStep P Γ o A H K :=
  ostep_value (by simp [ho]) fun w0 G w N a hs ha => by
    have h := (ha.ev hs.glob x).cells (PV.shaped_iff hx)
    obtain ⟨G', h2, h3, h4⟩ := hs.newBox _ t h.1 h.2
    exact ⟨_, _, G', _, _, by simp [execOp, ho, Instr.box, newVar, newRow, newObj, Sem.run], h2, h4, h3, by simp, hk⟩

/-- The cells that lie from an address on. -/
def rd (Γ : Nat → PV) (A : List (Nat × PV)) (H : List Blk) (x : Operand) : Option (List PV) :=
  match ev Γ A x with
  | .cptr cs => some cs
  | .ptr b o => match H[b]? with
    | some (.box cs) => some (cs.drop o)
    | _ => none
  | .eptr b o len => match H[b]? with
    | some (.row _ cs) => if cs.length = len then some (cs.drop o) else none
    | _ => none
  | _ => none

theorem rd_spec {w0 : World} {G : Ghost} {w : World} {N : Nat} {a : Act} {x : Operand} {cs : List PV} (hs : Sim Γ w0 G H w) (ha : ASim G H.length N A a) (h : rd Γ A H x = some cs) :
    ∃ b q, a.eval x = .pointer (some ⟨b, q, none⟩) ∧ ∀ (i : Nat) c, cs[i]? = some c → ∃ v, w.cell? ⟨b, q + i, none⟩ = some v ∧ Rep G H.length c v ∧ v.oneCell' = true := by
  have hx := ha.ev hs.glob x
  unfold rd at h
  split at h
  · rename_i cs' he
    obtain rfl := Option.some.inj h
    rw [he] at hx
    generalize a.eval x = u at hx ⊢
    cases hx with
    | cptr _ _ b q vs h1 h2 h3 =>
      exact ⟨b, q, rfl, fun i c hc => ⟨vs i, hs.mem _ _ (h1 i c hc), (h2 i c hc).mono _ (Evol.refl _ _) (Nat.zero_le _), h3 i c hc⟩⟩
  · rename_i b q he
    rw [he] at hx
    split at h
    · rename_i cs' hb
      obtain rfl := Option.some.inj h
      generalize a.eval x = u at hx ⊢
      cases hx with
      | ptr _ _ _ hlt hr =>
        obtain ⟨_, C, e, hh, hc, h1⟩ := hs.box_at hb
        have hsz : cs'.length = C.size := hc.1.trans Array.length_toList
        refine ⟨_, q, rfl, fun i c hci => ?_⟩
        rw [List.getElem?_drop] at hci
        have hlen : q + i < C.size := by
          have h2 := (List.getElem?_eq_some_iff.1 hci).1
          omega
        exact ⟨C[q + i], by simp [World.cell?, hh, hlen], hc.2 _ _ _ hci (by rw [Array.getElem?_toList, Array.getElem?_eq_getElem hlen]), h1 _ _ (Array.getElem?_eq_getElem hlen)⟩
    · cases h
  · rename_i b q len he
    rw [he] at hx
    split at h
    · rename_i sz cs' hb
      split at h
      · rename_i hlen
        obtain rfl := Option.some.inj h
        obtain ⟨hr', hl', _, _, _, hrest⟩ := hs.blk b _ hb
        obtain ⟨ad, hax, hlt, hr, hl, had⟩ := hx.eptr_inv
        obtain ⟨hsub, rfl⟩ := had (by omega)
        refine ⟨_, _, hax, fun i c hci => ?_⟩
        rw [List.getElem?_drop] at hci
        have hq := (List.getElem?_eq_some_iff.1 hci).1
        rcases hrest with ⟨_, hz⟩ | ⟨_, C, e, hh, hsz, hle, h5⟩
        · omega
        · have hlc : q - (G.info b).sub + i < C.size := by omega
          have hci' : cs'[(G.info b).sub + (q - (G.info b).sub + i)]? = some c := by rw [show (G.info b).sub + (q - (G.info b).sub + i) = q + i by omega]; exact hci
          have := h5 _ _ _ hci' (Array.getElem?_eq_getElem hlc)
          exact ⟨C[q - (G.info b).sub + i], by simp [World.cell?, hh, hlc], this.1, this.2⟩
      · cases h
    · cases h
  · cases h

theorem os_load {t : TypeId} {x : Operand} {ti : TI} {cs : List PV} {p : PV} (ho : o.op = .load t x) (ht : tiOf P t = some ti) (hr : rd Γ A H x = some cs)
    (hp : if ti.agg = true then ti.size ≤ cs.length ∧ p = .agg (cs.take ti.size) else cs[0]? = some p) (hk : K p H) : OStep P Γ o A H K :=
  ostep_pure (by simp [ho]) _ hk fun w0 G w N a hs ha => by
    obtain ⟨i, d, z, hi, hd, hz, hzs, hsz, _, _, hagg, _⟩ := tiOf_spec ht
    have hra : (isAgg t).run P w = .ok ti.agg w := by rw [run_agg hd, hagg]
    obtain ⟨b, q, he, hc⟩ := rd_spec hs ha hr
    by_cases hag : ti.agg = true
    · rw [if_pos hag] at hp
      obtain ⟨hle, rfl⟩ := hp
      have hv : ∀ j, j < ti.size → ∃ v, w.cell? ⟨b, q + j, none⟩ = some v ∧ Rep G H.length (cs.getD j .any) v ∧ v.oneCell' = true := fun j hj => by
        have hj' : j < cs.length := by omega
        obtain ⟨v, h1, h2, h3⟩ := hc j cs[j] (List.getElem?_eq_getElem hj')
        exact ⟨v, h1, by simpa [List.getD, hj'] using h2, h3⟩
      let f : Nat → Value := fun j => (w.cell? ⟨b, q + j, none⟩).getD undef
      have hf : ∀ j, j < ti.size → w.cell? ((⟨b, q, none⟩ : Addr).add j) = some (f j) := fun j hj => by
        rw [Go.Proofs.YtinedfjknhahmaaDoor.Fw.add_at]
        obtain ⟨v, h1, _⟩ := hv j hj
        simp [f, h1]
      have hrun := run_loadCells (P := P) w ⟨b, q, none⟩ ti.size f hf
      refine ⟨.agg ((List.range ti.size).map f).toArray, ?_, ?_⟩
      · simp [execOp, ho, Instr.loadAt, he, Instr.sureAddr, loadVar, hra, hag, run_size hi, hsz, hrun]
      · refine .agg _ _ _ (by simp; omega) (fun j c v hcj hvj => ?_) (fun j v hvj => ?_)
        · rw [List.getElem?_take] at hcj
          split at hcj
          · rename_i hj
            obtain ⟨v', h1, h2, _⟩ := hv j hj
            have : v = v' := by simp [hj, f, h1] at hvj; exact hvj.symm
            subst this
            have : cs.getD j .any = c := by simp [List.getD, hcj]
            rw [this] at h2; exact h2
          · cases hcj
        · have hj : j < ti.size := by
            by_cases hj : j < ti.size
            · exact hj
            · simp [hj] at hvj
          obtain ⟨v', h1, _, h3⟩ := hv j hj
          have : v = v' := by simp [hj, f, h1] at hvj; exact hvj.symm
          subst this; exact h3
    · rw [if_neg hag] at hp
      obtain ⟨v, h1, h2, h3⟩ := hc 0 p hp
      have hag' : ti.agg = false := by simpa using hag
      refine ⟨v, ?_, h2⟩
      simp only [Nat.add_zero] at h1
      simp [execOp, ho, Instr.loadAt, he, Instr.sureAddr, loadVar, hra, hag', h1]

end
end Go.Proofs.YtinedfjknhahmaaDoor.Fw
