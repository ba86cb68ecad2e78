/- The framework, fourth part: stores, addresses, arithmetic, comparisons. -/
import Derived.Test.YtinedfjknhahmaaDoorFwC
namespace Go.Proofs.YtinedfjknhahmaaDoor.Fw
set_option linter.unusedVariables false
set_option linter.unusedSimpArgs false
open Go.RowKit

def splice (cs : List PV) (q : Nat) (xs : List PV) : List PV := cs.take q ++ xs ++ cs.drop (q + xs.length)

theorem splice_length {cs xs : List PV} {q : Nat} (h : q + xs.length ≤ cs.length) : (splice cs q xs).length = cs.length := by
  simp [splice]; omega

theorem get_splice {α : Type} (cs xs : List α) (q i : Nat) (h : q + xs.length ≤ cs.length) :
    (cs.take q ++ xs ++ cs.drop (q + xs.length))[i]? = if i < q then cs[i]? else if i < q + xs.length then xs[i - q]? else cs[i]? := by
  by_cases h1 : i < q
  · rw [if_pos h1, List.append_assoc, List.getElem?_append_left (by simp; omega), List.getElem?_take, if_pos h1]
  · rw [if_neg h1]
    by_cases h2 : i < q + xs.length
    · rw [if_pos h2, List.getElem?_append_left (by simp; omega), List.getElem?_append_right (by simp; omega)]
      congr 1
      simp; omega
    · rw [if_neg h2, List.getElem?_append_right (by simp; omega), List.getElem?_drop]
      congr 1
      simp; omega

theorem Reps.splice {G : Ghost} {n : Nat} {cs xs : List PV} {C vs : List Value} {q : Nat} (h : Reps G n cs C) (k : Reps G n xs vs) (hl : q + xs.length ≤ cs.length) :
    Reps G n (Fw.splice cs q xs) (C.take q ++ vs ++ C.drop (q + vs.length)) := by
  have h1 := h.1
  have h2 := k.1
  refine ⟨by simp [Fw.splice]; omega, fun i p v hp hv => ?_⟩
  unfold Fw.splice at hp
  rw [get_splice _ _ _ _ hl] at hp
  rw [get_splice _ _ _ _ (by omega)] at hv
  by_cases c1 : i < q
  · rw [if_pos c1] at hp hv; exact h.2 i p v hp hv
  · rw [if_neg c1] at hp hv
    by_cases c2 : i < q + xs.length
    · rw [if_pos c2] at hp; rw [if_pos (by omega)] at hv; exact k.2 _ p v hp hv
    · rw [if_neg c2] at hp; rw [if_neg (by omega)] at hv; exact h.2 i p v hp hv

section
variable {P : Program} {Γ : Nat → PV} {o : Oper} {A : List (Nat × PV)} {H : List Blk} {K : PV → List Blk → Prop}

/-- Cells of a variable are written. -/
theorem Sim.writeBox {w0 : World} {G : Ghost} {w : World} {b q : Nat} {cs xs : List PV} {vs : Array Value} (h : Sim Γ w0 G H w) (hb : H[b]? = some (.box cs)) (hx : Reps G H.length xs vs.toList)
    (h1 : ∀ (j : Nat) u, vs[j]? = some u → u.oneCell' = true) (hl : q + xs.length ≤ cs.length) :
    ∃ w', (storeCells ⟨(G.info b).blk, q, none⟩ vs.toList).run P w = .ok () w' ∧ Sim Γ w0 G (H.set b (.box (splice cs q xs))) w' := by
  obtain ⟨hr, C, e, hh, hc, hone⟩ := hs h hb
  have hsz : cs.length = C.size := hc.1.trans Array.length_toList
  have hxl : xs.length = vs.size := hx.1.trans Array.length_toList
  have hall : ∀ v ∈ vs.toList, v.oneCell' = true := fun v hv => by
    obtain ⟨j, hj, rfl⟩ := List.mem_iff_getElem.1 hv
    exact h1 j _ (by simp at hj ⊢)
  refine ⟨_, run_storeCells_at (P := P) (G.info b).blk q e vs.toList 0 C w hh (by simp; omega) hall, ?_⟩
  refine h.setSame hb rfl (fun k hk => setRow_other w _ k _ hk) (by simp) ⟨rfl, rfl, rfl⟩ ⟨hr, _, e, setRow_heap w _ C _ e _ hh, ?_, fun j u hu => ?_⟩
  · simp only [Nat.add_zero, List.toList_toArray]
    exact hc.splice hx hl
  · have hu' : (C.toList.take (q + 0) ++ vs.toList ++ C.toList.drop (q + 0 + vs.toList.length))[j]? = some u := by simpa using hu
    rw [Nat.add_zero, get_splice _ _ _ _ (by simp; omega)] at hu'
    split at hu'
    · exact hone j u (by simpa using hu')
    · split at hu'
      · exact h1 _ u (by simpa using hu')
      · exact hone j u (by simpa using hu')
 where hs {w0 : World} {G : Ghost} {w : World} {b : Nat} {cs : List PV} (h : Sim Γ w0 G H w) (hb : H[b]? = some (.box cs)) :
    (G.info b).isRow = false ∧ ∃ C e, w.heap[(G.info b).blk]? = some (.cells C e (0, 0)) ∧ Reps G H.length cs C.toList ∧ ∀ (j : Nat) u, C[j]? = some u → u.oneCell' = true := h.box_at hb

/-- Cells of a row are written. -/
theorem Sim.writeRow {w0 : World} {G : Ghost} {w : World} {b q sz : Nat} {cs xs : List PV} {vs : Array Value} (h : Sim Γ w0 G H w) (hb : H[b]? = some (.row sz cs)) (hx : Reps G H.length xs vs.toList)
    (h1 : ∀ (j : Nat) u, vs[j]? = some u → u.oneCell' = true) (hl : q + xs.length ≤ cs.length) (h0 : (G.info b).sub ≤ q) (hne : 0 < xs.length) :
    ∃ w', (storeCells ⟨(G.info b).blk, q - (G.info b).sub, none⟩ vs.toList).run P w = .ok () w' ∧ Sim Γ w0 G (H.set b (.row sz (splice cs q xs))) w' := by
  obtain ⟨hr, hlen, hsz0, hsub, hbd, hrest⟩ := h.blk b _ hb
  rcases hrest with ⟨_, hz⟩ | ⟨hpos, C, e, hh, hsz, hle, h5⟩
  · omega
  have hxl : xs.length = vs.size := hx.1.trans Array.length_toList
  have hall : ∀ v ∈ vs.toList, v.oneCell' = true := fun v hv => by
    obtain ⟨j, hj, rfl⟩ := List.mem_iff_getElem.1 hv
    exact h1 j _ (by simp at hj ⊢)
  generalize hgs : (G.info b).sub = sub at *
  refine ⟨_, run_storeCells_at (P := P) (G.info b).blk (q - sub) e vs.toList 0 C w hh (by simp; omega) hall, ?_⟩
  have hget : ∀ (j : Nat) c u, (splice cs q xs)[sub + j]? = some c → (C.toList.take (q - sub + 0) ++ vs.toList ++ C.toList.drop (q - sub + 0 + vs.toList.length)).toArray[j]? = some u → Rep G H.length c u ∧ u.oneCell' = true := by
    intro j c u hc hu
    have hu' : (C.toList.take (q - sub + 0) ++ vs.toList ++ C.toList.drop (q - sub + 0 + vs.toList.length))[j]? = some u := by simpa using hu
    rw [Nat.add_zero, get_splice _ _ _ _ (by simp; omega)] at hu'
    unfold splice at hc
    rw [get_splice _ _ _ _ hl] at hc
    by_cases c1 : j < q - sub
    · rw [if_pos (by omega)] at hc; rw [if_pos c1] at hu'
      exact h5 j c u hc (by simpa using hu')
    · rw [if_neg (by omega)] at hc; rw [if_neg c1] at hu'
      by_cases c2 : sub + j < q + xs.length
      · rw [if_pos c2] at hc; rw [if_pos (by simp; omega)] at hu'
        rw [show sub + j - q = j - (q - sub) by omega] at hc
        exact ⟨hx.2 _ c u hc hu', h1 _ u (by simpa using hu')⟩
      · rw [if_neg c2] at hc; rw [if_neg (by simp; omega)] at hu'
        exact h5 j c u hc (by simpa using hu')
  have hsl := splice_length hl
  have hbd' : PV.bdL H.length (splice cs q xs) = true := by
    rw [PV.bdL_iff]
    intro p hp
    unfold splice at hp
    rw [List.mem_append, List.mem_append] at hp
    rcases hp with (hp | hp) | hp
    · exact PV.bdL_iff.1 hbd p (List.mem_of_mem_take hp)
    · exact PV.bdL_iff.1 hx.bound p hp
    · exact PV.bdL_iff.1 hbd p (List.mem_of_mem_drop hp)
  refine h.setSame hb (by simpa [Blk.live] using hpos) (fun k hk => setRow_other w _ k _ hk) (by simp) ⟨rfl, rfl, rfl⟩
    ⟨hr, by rw [hsl]; exact hlen, hsz0, by rw [hsl, hgs]; exact hsub, hbd', .inr ⟨hpos, _, e, setRow_heap w _ C _ e _ hh, ?_, ?_, fun j c u hc hu => ?_⟩⟩
  · simp; omega
  · rw [hsl, hgs]; simp; omega
  · rw [hgs] at hc; exact hget j c u hc hu

theorem run_storeVar' {w w' : World} {t : TypeId} {i : TypeInfo} {b q : Nat} {v : Value} (hi : P.info? t = some i) (hs : v.cells.size = i.size) (hr : (storeCells ⟨b, q, none⟩ v.cells.toList).run P w = .ok () w') :
    (storeVar t ⟨b, q, none⟩ v).run P w = .ok () w' := by
  simp [storeVar, run_size hi, hs, hr]

theorem os_store {t : TypeId} {x y : Operand} {ti : TI} {b q : Nat} {cs : List PV} (ho : o.op = .store t x y) (ht : tiOf P t = some ti) (hx : ev Γ A x = .ptr b q) (hb : H[b]? = some (.box cs))
    (hy : (ev Γ A y).shaped = true) (hl : (ev Γ A y).cells.length = ti.size) (hq : q + ti.size ≤ cs.length) (hk : K .any (H.set b (.box (splice cs q (ev Γ A y).cells)))) : OStep P Γ o A H K :=
  ostep_skip (by simp [ho]) fun w0 G w N a hs ha => by
    obtain ⟨i, d, z, hi, hd, hz, hzs, hsz, _, _, hagg, _⟩ := tiOf_spec ht
    have hxr := ha.ev hs.glob x
    rw [hx] at hxr
    have hyc := (ha.ev hs.glob y).cells (PV.shaped_iff hy)
    have hyl : (a.eval y).cells.size = ti.size := by rw [← hl]; have := hyc.1.1; rw [this]; simp
    obtain ⟨w', hw', hsim⟩ := hs.writeBox (P := P) (q := q) hb hyc.1 hyc.2 (by omega)
    obtain ⟨hax, hlt, hr⟩ := hxr.ptr_inv
    refine ⟨w', G, _, ?_, hsim, Evol.refl _ _, by simp, hk⟩
    simp [execOp, ho, Instr.storeAt, hax, Instr.sureAddr, run_storeVar' (P := P) hi (by omega) hw']

theorem os_storeE {t : TypeId} {x y : Operand} {ti : TI} {b q len sz : Nat} {cs : List PV} (ho : o.op = .store t x y) (ht : tiOf P t = some ti) (hx : ev Γ A x = .eptr b q len) (hb : H[b]? = some (.row sz cs)) (hlen : cs.length = len)
    (hy : (ev Γ A y).shaped = true) (hl : (ev Γ A y).cells.length = ti.size) (hq : q + ti.size ≤ cs.length) (h0 : 0 < ti.size) (hk : K .any (H.set b (.row sz (splice cs q (ev Γ A y).cells)))) : OStep P Γ o A H K :=
  ostep_skip (by simp [ho]) fun w0 G w N a hs ha => by
    obtain ⟨i, d, z, hi, hd, hz, hzs, hsz, _, _, hagg, _⟩ := tiOf_spec ht
    have hxr := ha.ev hs.glob x
    rw [hx] at hxr
    have hyc := (ha.ev hs.glob y).cells (PV.shaped_iff hy)
    have hyl : (a.eval y).cells.size = ti.size := by rw [← hl]; have := hyc.1.1; rw [this]; simp
    have hbl := (hs.blk b _ hb).2.1
    obtain ⟨ad, hax, hlt, hr, hle, had⟩ := hxr.eptr_inv
    obtain ⟨hsub, rfl⟩ := had (by omega)
    obtain ⟨w', hw', hsim⟩ := hs.writeRow (P := P) (q := q) hb hyc.1 hyc.2 (by omega) hsub (by omega)
    refine ⟨w', G, _, ?_, hsim, Evol.refl _ _, by simp, hk⟩
    simp [execOp, ho, Instr.storeAt, hax, Instr.sureAddr, run_storeVar' (P := P) hi (by omega) hw']

/-- An address further on. -/
def shift (p : PV) (n : Nat) : Option PV :=
  match p with
  | .ptr b q => some (.ptr b (q + n))
  | .cptr cs => some (.cptr (cs.drop n))
  | .eptr b q len => some (.eptr b (q + n) len)
  | _ => none

theorem shift_rep {G : Ghost} {m n : Nat} {p p' : PV} {v : Value} (h : Rep G m p v) (hp : shift p n = some p') : ∃ ad : Addr, v = .pointer (some ad) ∧ Rep G m p' (.pointer (some (ad.add n))) := by
  unfold shift at hp
  split at hp
  · rename_i b q
    obtain rfl := Option.some.inj hp
    obtain ⟨rfl, hb, hr⟩ := h.ptr_inv
    exact ⟨_, rfl, by rw [Fw.add_at]; exact .ptr m b _ hb hr⟩
  · rename_i cs
    obtain rfl := Option.some.inj hp
    cases h with
    | cptr _ _ b q vs h1 h2 h3 =>
      refine ⟨_, rfl, ?_⟩
      rw [Fw.add_at]
      refine .cptr m _ b (q + n) (fun i => vs (n + i)) (fun i c hc => ?_) (fun i c hc => ?_) (fun i c hc => ?_)
      · rw [List.getElem?_drop] at hc; rw [Nat.add_assoc]; exact h1 _ c hc
      · rw [List.getElem?_drop] at hc; exact h2 _ c hc
      · rw [List.getElem?_drop] at hc; exact h3 _ c hc
  · rename_i b q len
    obtain rfl := Option.some.inj hp
    obtain ⟨ad, rfl, hb, hr, hl, had⟩ := h.eptr_inv
    refine ⟨ad, rfl, .eptr m b (q + n) len (ad.add n) hb hr hl (fun e => ?_)⟩
    obtain ⟨hsub, rfl⟩ := had e
    exact ⟨by omega, by rw [Fw.add_at]; congr 1; omega⟩
  · cases hp

/-- Where a field lies. -/
def fldOf (P : Program) (s : TypeId) (f : Nat) : Option (Nat × Nat × Bool) :=
  match P.underlying s with
  | some (.struct fs) => match fs[f]? with
    | some fd => match P.info? fd.type, P.underlying fd.type with
      | some i, some d => if i.size = 0 then none else some (fd.offset, i.size, aggD d)
      | _, _ => none
    | none => none
  | _ => none

theorem fldOf_spec {s : TypeId} {f off size : Nat} {ag : Bool} (h : fldOf P s f = some (off, size, ag)) : ∃ (fs : Array Field) (fd : Field) (i : TypeInfo) (d : TypeDesc), P.underlying s = some (.struct fs) ∧ fs[f]? = some fd ∧ P.info? fd.type = some i ∧
    P.underlying fd.type = some d ∧ i.size ≠ 0 ∧ fd.offset = off ∧ i.size = size ∧ aggD d = ag := by
  unfold fldOf at h
  split at h
  · rename_i fs hu
    split at h
    · rename_i fd hf
      split at h
      · rename_i i d hi hd
        split at h
        · cases h
        · rename_i hz
          simp only [Option.some.injEq, Prod.mk.injEq] at h
          exact ⟨fs, fd, i, d, hu, hf, hi, hd, hz, h.1, h.2.1, h.2.2⟩
      · cases h
    · cases h
  · cases h

theorem os_fieldAddr {s : TypeId} {x : Operand} {f off size : Nat} {ag : Bool} {p : PV} (ho : o.op = .fieldAddr s x f) (hf : fldOf P s f = some (off, size, ag)) (hp : shift (ev Γ A x) off = some p) (hk : K p H) : OStep P Γ o A H K :=
  ostep_pure (by simp [ho]) _ hk fun w0 G w N a hs ha => by
    obtain ⟨fs, fd, i, d, hu, hfd, hi, hd, hz, rfl, _, _⟩ := fldOf_spec hf
    obtain ⟨ad, he, hr⟩ := shift_rep (ha.ev hs.glob x) hp
    exact ⟨_, by simp [execOp, ho, Instr.fieldAt, run_under hu, hfd, he, Instr.sureAddr, fieldPlace, run_size hi, hz], hr⟩

theorem os_field {s : TypeId} {x : Operand} {f off size : Nat} {ag : Bool} {p : PV} {cs : List PV} (ho : o.op = .field s x f) (hf : fldOf P s f = some (off, size, ag)) (hx : ev Γ A x = .agg cs)
    (hp : if ag = true then off + size ≤ cs.length ∧ p = .agg ((cs.drop off).take size) else cs[off]? = some p) (hk : K p H) : OStep P Γ o A H K :=
  ostep_pure (by simp [ho]) _ hk fun w0 G w N a hs ha => by
    obtain ⟨fs, fd, i, d, hu, hfd, hi, hd, hz, rfl, rfl, rfl⟩ := fldOf_spec hf
    have hxr := ha.ev hs.glob x
    rw [hx] at hxr
    generalize hax : a.eval x = u at hxr
    cases hxr with
    | agg _ _ vs h1 h2 h3 =>
      have hra : (isAgg fd.type).run P w = .ok (aggD d) w := run_agg hd w
      by_cases hag : aggD d = true
      · rw [if_pos hag] at hp
        obtain ⟨hle, rfl⟩ := hp
        refine ⟨.agg (vs.extract fd.offset (fd.offset + i.size)), ?_, ?_⟩
        · simp [execOp, ho, Instr.field, run_under hu, hfd, hax, asAgg, part, hra, hag, run_size hi]
        · refine .agg _ _ _ (by simp; omega) (fun j c v hc hv => ?_) (fun j v hv => ?_)
          · rw [List.getElem?_take] at hc
            split at hc
            · rw [List.getElem?_drop] at hc
              rw [Array.getElem?_extract] at hv
              split at hv
              · exact h2 _ c v hc hv
              · cases hv
            · cases hc
          · rw [Array.getElem?_extract] at hv
            split at hv
            · exact h3 _ v hv
            · cases hv
      · rw [if_neg hag] at hp
        have hlt := (List.getElem?_eq_some_iff.1 hp).1
        have hlt' : fd.offset < vs.size := by omega
        have hag' : aggD d = false := by simpa using hag
        refine ⟨vs[fd.offset], ?_, h2 _ p _ hp (Array.getElem?_eq_getElem hlt')⟩
        simp [execOp, ho, Instr.field, run_under hu, hfd, hax, asAgg, part, hra, hag', hlt']

/-- A slice's element type: cells, bytes. -/
def elOf (P : Program) (t : TypeId) : Option (Nat × Nat) :=
  match P.underlying t with
  | some (.slice e) => match P.info? e with
    | some i => some (i.size, i.bytes)
    | none => none
  | _ => none

theorem elOf_spec {t : TypeId} {sz by' : Nat} (h : elOf P t = some (sz, by')) : ∃ e i, P.underlying t = some (.slice e) ∧ P.info? e = some i ∧ i.size = sz ∧ i.bytes = by' := by
  unfold elOf at h
  split at h
  · rename_i e hu
    split at h
    · rename_i i hi
      simp only [Option.some.injEq, Prod.mk.injEq] at h
      exact ⟨e, i, hu, hi, h.1, h.2⟩
    · cases h
  · cases h

/-- An array's: how many, cells of one. -/
def arOf (P : Program) (t : TypeId) : Option (Nat × Nat) :=
  match P.underlying t with
  | some (.array n e) => match P.info? e with
    | some i => some (n, i.size)
    | none => none
  | _ => none

theorem arOf_spec {t : TypeId} {n sz : Nat} (h : arOf P t = some (n, sz)) : ∃ e i, P.underlying t = some (.array n e) ∧ P.info? e = some i ∧ i.size = sz := by
  unfold arOf at h
  split at h
  · rename_i m e hu
    split at h
    · rename_i i hi
      simp only [Option.some.injEq, Prod.mk.injEq] at h
      obtain ⟨rfl, rfl⟩ := h
      exact ⟨e, i, hu, hi, rfl⟩
    · cases h
  · cases h

/-- An element of an immutable row. -/
theorem os_index_vec {t : TypeId} {x ix : Operand} {sz by' : Nat} {es : List (List PV)} {f : Bool} {k : IntKind} {n : Int} {e : List PV} (ho : o.op = .indexAddr t x ix) (ht : elOf P t = some (sz, by'))
    (hx : ev Γ A x = .vec es f) (hi : ev Γ A ix = .int k n) (h0 : 0 ≤ n) (he : es[n.toNat]? = some e) (hsz : e.length = sz) (hk : K (.cptr e) H) : OStep P Γ o A H K :=
  ostep_pure (by simp [ho]) _ hk fun w0 G w N a hs ha => by
    obtain ⟨te, i, hu, hinf, rfl, _⟩ := elOf_spec ht
    have hxr := ha.ev hs.glob x
    rw [hx] at hxr
    have hir := ha.ev hs.glob ix
    rw [hi] at hir
    have hlt := (List.getElem?_eq_some_iff.1 he).1
    generalize hax : a.eval x = u at hxr
    cases hxr with
    | vec0 => simp at hlt
    | vec _ _ _ b q sz cap vs hn hc hf hss h1 h2 h3 =>
      have hse : sz = i.size := by rw [← hsz]; exact (hss e (List.mem_of_getElem? he)).symm
      refine ⟨.pointer (some ⟨b, q + n.toNat * i.size, none⟩), ?_, ?_⟩
      · have h1 : 0 ≤ n ∧ n < (es.length : Int) := ⟨h0, by omega⟩
        simp [execOp, ho, Instr.indexAt, hir.int_inv, asIntOf, run_under hu, hax, h1, run_size hinf, Fw.add_at]
      · subst hse
        refine .cptr _ _ b _ (fun j => vs (n.toNat * i.size + j)) (fun j c hj => ?_) (fun j c hj => h2 _ j e c he hj) (fun j c hj => h3 _ j e c he hj)
        rw [Nat.add_assoc]; exact h1 _ j e c he hj

/-- An element of a row of one's own. -/
theorem os_index_row {t : TypeId} {x ix : Operand} {sz by' b q m : Nat} {k : IntKind} {n : Int} {cs : List PV} (ho : o.op = .indexAddr t x ix) (ht : elOf P t = some (sz, by'))
    (hx : ev Γ A x = .row b q m sz) (hi : ev Γ A ix = .int k n) (hb : H[b]? = some (.row sz cs)) (hl : cs.length = q + m * sz) (h0 : 0 ≤ n) (hn : n < m) (hk : K (.eptr b (q + n.toNat * sz) cs.length) H) : OStep P Γ o A H K :=
  ostep_pure (by simp [ho]) _ hk fun w0 G w N a hs ha => by
    obtain ⟨te, i, hu, hinf, rfl, _⟩ := elOf_spec ht
    have hxr := ha.ev hs.glob x
    rw [hx] at hxr
    have hir := ha.ev hs.glob ix
    rw [hi] at hir
    have hbl := (hs.blk b _ hb).2.1
    obtain ⟨ad, cap, hax, hlt, hr, hle, had⟩ := hxr.row_inv
    obtain ⟨hcap, hcase⟩ := had (by omega)
    rcases hcase with ⟨hsub, rfl, _⟩ | ⟨hm0, _⟩
    · refine ⟨.pointer (some ⟨(G.info b).blk, q - (G.info b).sub + n.toNat * i.size, none⟩), ?_, .eptr _ b _ _ _ hlt hr (by omega) (fun _ => ⟨by omega, by congr 1; omega⟩)⟩
      simp [execOp, ho, Instr.indexAt, hir.int_inv, asIntOf, run_under hu, hax, h0, hn, run_size hinf, Fw.add_at]
    · omega

/-- An element of an array, behind its address. -/
theorem os_index_arr {t : TypeId} {x ix : Operand} {sz m : Nat} {k : IntKind} {n : Int} {p : PV} (ho : o.op = .indexAddr t x ix) (ht : arOf P t = some (m, sz))
    (hi : ev Γ A ix = .int k n) (h0 : 0 ≤ n) (hn : n < m) (hp : shift (ev Γ A x) (n.toNat * sz) = some p) (hk : K p H) : OStep P Γ o A H K :=
  ostep_pure (by simp [ho]) _ hk fun w0 G w N a hs ha => by
    obtain ⟨te, i, hu, hinf, rfl⟩ := arOf_spec ht
    obtain ⟨ad, he, hr⟩ := shift_rep (ha.ev hs.glob x) hp
    have hir := ha.ev hs.glob ix
    rw [hi] at hir
    refine ⟨_, ?_, hr⟩
    simp [execOp, ho, Instr.indexAt, hir.int_inv, asIntOf, run_under hu, he, Instr.sureAddr, h0, hn, run_size hinf]

/-- A byte of a text. -/
theorem os_index_str {t : TypeId} {x ix : Operand} {s : List UInt8} {k : IntKind} {n : Int} {c : UInt8} (ho : o.op = .index t x ix) (ht : P.underlying t = some .string)
    (hx : ev Γ A x = .str s) (hi : ev Γ A ix = .int k n) (h0 : 0 ≤ n) (hc : s[n.toNat]? = some c) (hk : K (.int .u8 c.toNat) H) : OStep P Γ o A H K :=
  ostep_pure (by simp [ho]) _ hk fun w0 G w N a hs ha => by
    have hxr := ha.ev hs.glob x
    rw [hx] at hxr
    have hir := ha.ev hs.glob ix
    rw [hi] at hir
    refine ⟨_, ?_, .int _ _ _⟩
    have hlt := (List.getElem?_eq_some_iff.1 hc).1
    have hval := (List.getElem?_eq_some_iff.1 hc).2
    have hb : (⟨s.toArray⟩ : ByteArray)[n.toNat]? = some c := by
      have hsz : n.toNat < (⟨s.toArray⟩ : ByteArray).size := by simpa [ByteArray.size] using hlt
      rw [getElem?_pos (⟨s.toArray⟩ : ByteArray) n.toNat hsz]
      exact congrArg some hval
    simp [execOp, ho, Instr.index, hir.int_inv, hxr.str_inv, asIntOf, run_under ht, h0, hb]

end
end Go.Proofs.YtinedfjknhahmaaDoor.Fw
