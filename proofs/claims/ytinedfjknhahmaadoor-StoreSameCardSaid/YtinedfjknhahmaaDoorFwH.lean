/- The framework, eighth part: slices made whole, append; a row is begun, a row is left as it is. -/
import Derived.Test.YtinedfjknhahmaaDoorFwG
import Derived.Deep.AppendSrc
import Derived.Deep.Upon
namespace Go.Proofs.YtinedfjknhahmaaDoor.Fw
set_option linter.unusedVariables false
set_option linter.unusedSimpArgs false
open Go.RowKit

def chunk (sz : Nat) : Nat → List PV → List (List PV)
  | 0, _ => []
  | n + 1, cs => cs.take sz :: chunk sz n (cs.drop sz)

theorem chunk_spec {sz : Nat} : ∀ {n : Nat} {cs : List PV}, cs.length = n * sz → (chunk sz n cs).length = n ∧ (chunk sz n cs).flatten = cs ∧ ∀ e ∈ chunk sz n cs, e.length = sz
  | 0, cs, h => by
    have : cs = [] := by cases cs with
      | nil => rfl
      | cons c cs => simp at h
    subst this
    exact ⟨rfl, rfl, fun e he => by cases he⟩
  | n + 1, cs, h => by
    rw [Nat.succ_mul] at h
    obtain ⟨h1, h2, h3⟩ := chunk_spec (sz := sz) (n := n) (cs := cs.drop sz) (by rw [List.length_drop]; omega)
    refine ⟨by simp [chunk, h1], by simp [chunk, h2], fun e he => ?_⟩
    simp only [chunk, List.mem_cons] at he
    rcases he with rfl | he
    · rw [List.length_take]; omega
    · exact h3 e he

theorem chunk_flatten {sz : Nat} : ∀ {es : List (List PV)}, (∀ e ∈ es, e.length = sz) → chunk sz es.length es.flatten = es
  | [], _ => rfl
  | e :: es, h => by
    have he := h e (by simp)
    simp only [List.length_cons, chunk, List.flatten_cons]
    rw [List.take_left' he, List.drop_left' he, chunk_flatten (fun e he => h e (by simp [he]))]

section
variable {P : Program} {Γ : Nat → PV} {o : Oper} {A : List (Nat × PV)} {H : List Blk} {K : PV → List Blk → Prop}

theorem abuild_length {place : Nat → Option (Nat × Nat)} : ∀ {parts : List (Nat × PV)} {cs cs' : List PV}, abuild place cs parts = some cs' → cs'.length = cs.length
  | [], cs, cs', h => by simp only [abuild, Option.some.injEq] at h; rw [h]
  | (i, p) :: parts, cs, cs', h => by
    simp only [abuild] at h
    split at h
    · cases h
    · split at h
      · rename_i hc
        rw [abuild_length h, splice_length (by omega)]
      · cases h

/-- A slice, made whole. -/
theorem bslice_run {w0 : World} {G : Ghost} {w : World} {N : Nat} {a : Act} {t : TypeId} {len : Nat} {parts : Array (Nat × Operand)} {ti : TI} {e : TypeId} {cs : List PV} (hs : Sim Γ w0 G H w) (ha : ASim G H.length N A a)
    (ho : o.op = .buildSlice t len parts) (ht : P.underlying t = some (.slice e)) (he : tiOf P e = some ti) (hsz : 0 < ti.size) (hn : len * ti.size ≤ 16777216)
    (hb : abuild (fun i => some (i * ti.size, ti.size)) (List.replicate (len * ti.size) .any) (parts.toList.map fun x => (x.1, ev Γ A x.2)) = some cs) :
    ∃ C : Array Value, (execOp a.eval o).run P w = .ok (.value (.slice (some ⟨w.heap.size, 0, none⟩) len len)) (w.alloc (.cells C e)) ∧ Reps G H.length cs C.toList ∧ ∀ (j : Nat) u, C[j]? = some u → u.oneCell' = true := by
  obtain ⟨i, d, z, hi, hd, hz, hzs, hsz', _, h1, hagg, hzero⟩ := tiOf_spec he
  let C0 : Array Value := (Array.range (len * i.size)).map (z.cells[· % z.cells.size]!)
  have hC0 : Reps G H.length (List.replicate (len * ti.size) .any) C0.toList := by
    refine ⟨by simp [C0, hsz'], fun j p v hp _ => ?_⟩
    rw [List.getElem?_replicate] at hp
    split at hp
    · obtain rfl := Option.some.inj hp; exact .any _ _
    · cases hp
  have hC1 : ∀ (j : Nat) u, C0[j]? = some u → u.oneCell' = true := fun j u hu => by
    obtain ⟨hj, rfl⟩ := Array.getElem?_eq_some_iff.1 hu
    have hpos : 0 < z.cells.size := by omega
    have hlt : j % z.cells.size < z.cells.size := Nat.mod_lt _ hpos
    refine h1 (j % z.cells.size) _ ?_
    simp [C0, hlt]
  obtain ⟨C', hC', hr, h1'⟩ := fill_spec (place := fun i => some (i * ti.size, ti.size)) (place' := fun j => some (j * i.size, i.size)) (parts.toList.map fun x => (x.1, ev Γ A x.2)) (parts.toList.map fun x => (x.1, a.eval x.2)) _ cs C0 (fun j => by rw [hsz']) (by simp)
    (fun j i p i' v hj hj' => by
      rw [List.getElem?_map] at hj hj'
      cases hx : parts.toList[j]? with
      | none => rw [hx] at hj; cases hj
      | some x =>
        rw [hx] at hj hj'
        simp only [Option.map_some, Option.some.injEq, Prod.mk.injEq] at hj hj'
        obtain ⟨rfl, rfl⟩ := hj
        obtain ⟨rfl, rfl⟩ := hj'
        exact ⟨rfl, ha.ev hs.glob x.2⟩) hC0 hC1 hb
  refine ⟨C', ?_, hr, h1'⟩
  have hn' : ¬ (16777216 < len * i.size) := by rw [hsz']; omega
  have hr0 : Array.range 0 = #[] := rfl
  simp only [execOp, ho, Instr.buildSlice, Sem.run_bind, run_under ht, Result.andThen_ok, run_size hi, Array.toList_map]
  by_cases hl0 : len * i.size = 0
  · have hlen : len = 0 := by
      rcases Nat.mul_eq_zero.1 hl0 with h | h
      · exact h
      · omega
    have hC0' : C0 = #[] := by simp [C0, hl0]
    rw [hC0'] at hC'
    simp [hl0, hr0, hC', newRow, newObj, Sem.run]
  · simp [hn', hl0, run_zero hi hz]
    have hC'' := hC'
    simp only [C0] at hC''
    rw [hC'']
    simp [newRow, newObj, Sem.run]

theorem os_bsliceV {t : TypeId} {len : Nat} {parts : Array (Nat × Operand)} {ti : TI} {e : TypeId} {cs : List PV} (ho : o.op = .buildSlice t len parts) (ht : P.underlying t = some (.slice e)) (he : tiOf P e = some ti) (hsz : 0 < ti.size) (hn : len * ti.size ≤ 16777216)
    (hb : abuild (fun i => some (i * ti.size, ti.size)) (List.replicate (len * ti.size) .any) (parts.toList.map fun x => (x.1, ev Γ A x.2)) = some cs) (hp : PV.plainL cs = true) (hk : K (.vec (chunk ti.size len cs) true) H) : OStep P Γ o A H K :=
  ostep_value (by simp [ho]) fun w0 G w N a hs ha => by
    obtain ⟨C, hrun, hr, h1⟩ := bslice_run hs ha ho ht he hsz hn hb
    have hl : cs.length = len * ti.size := by rw [abuild_length hb]; simp
    obtain ⟨c1, c2, c3⟩ := chunk_spec hl
    have hcl : cs.length = C.size := hr.1.trans Array.length_toList
    obtain ⟨G', g1, g2, g3⟩ := hs.newVec C e (es := chunk ti.size len cs) (sz := ti.size) (cap := len) (f := true) c3 (fun j c hc => by
      rw [c2] at hc
      have hj := (List.getElem?_eq_some_iff.1 hc).1
      have hj' : j < C.size := by omega
      exact ⟨C[j], Array.getElem?_eq_getElem hj', (hr.2 j c _ hc (by simp [hj'])).cut 0 (PV.bdL_at hp hc), h1 j _ (Array.getElem?_eq_getElem hj')⟩) (by rw [c1]; have := Nat.le_mul_of_pos_right len hsz; omega) (by omega) (fun _ => c1.symm) H.length
    rw [c1] at g3
    exact ⟨_, _, G', _, H, hrun, g1, g3, g2, Nat.le_refl _, hk⟩

/-- A new row of one's own. -/
theorem Sim.newRow {w0 : World} {G : Ghost} {w : World} (h : Sim Γ w0 G H w) (C : Array Value) (e : TypeId) {cs : List PV} {sz k cap : Nat} (hsz : 0 < sz) (hl : cs.length = k * sz) (hC : C.size = cap * sz) (hn : k ≤ 9223372036854775807) (hc : k ≤ cap) (hbd : PV.bdL H.length cs = true)
    (hr : ∀ (j : Nat) c u, cs[j]? = some c → C[j]? = some u → Rep G H.length c u ∧ u.oneCell' = true) :
    ∃ G', Sim Γ w0 G' (H ++ [Blk.row sz cs]) (w.alloc (.cells C e)) ∧ Evol G H.length G' ∧ Rep G' (H ++ [Blk.row sz cs]).length (.row H.length 0 k sz) (.slice (some ⟨w.heap.size, 0, none⟩) k cap) := by
  let i : Info := { blk := w.heap.size, len := cs.length, size := C.size, sub := 0, isRow := true }
  have hev := Evol.setInfo_new G H.length i
  by_cases hcap : cap = 0
  · have hk0 : k = 0 := by omega
    subst hcap hk0
    have hcs : cs = [] := by cases cs with
      | nil => rfl
      | cons c cs => simp at hl
    subst hcs
    have hp := h.push i (.row sz []) (w.alloc (.cells C e)) (h.below.alloc h.size _) (by simp) (fun k hk => Below.heap_alloc _ _ _ hk)
      ⟨rfl, rfl, hsz, Nat.zero_le _, rfl, .inl ⟨by simp [i, hC], rfl⟩⟩ (fun hl => by simp [Blk.live, i, hC] at hl)
    refine ⟨_, hp.1, hp.2, .row _ _ 0 0 sz _ 0 (Nat.zero_le _) (by simp) (by rw [G.setInfo_same]) (by rw [G.setInfo_same]; simp [i]) (fun _ => ⟨Nat.le_refl _, .inr ⟨rfl, rfl⟩⟩)⟩
  · have hpos : 0 < C.size := by rw [hC]; exact Nat.mul_pos (by omega) hsz
    have hp := h.push i (.row sz cs) (w.alloc (.cells C e)) (h.below.alloc h.size _) (by simp) (fun k hk => Below.heap_alloc _ _ _ hk)
      ⟨rfl, rfl, hsz, Nat.zero_le _, PV.bdL_mono (by omega) _ hbd, .inr ⟨hpos, C, e, heap_new w _, rfl, by simp only [i]; rw [hC, hl, Nat.sub_zero]; exact Nat.mul_le_mul_right _ hc, fun j c u hc hu => by
        simp only [i, Nat.zero_add] at hc
        exact ⟨(hr j c u hc hu).1.mono _ hev (by omega), (hr j c u hc hu).2⟩⟩⟩ (fun _ => ⟨Nat.le_refl _, by simp [i]⟩)
    refine ⟨_, hp.1, hp.2, .row _ _ 0 k sz _ cap hn (by simp) (by rw [G.setInfo_same]) (by rw [G.setInfo_same]; simp only [i]; omega) (fun _ => ⟨hc, .inl ⟨by rw [G.setInfo_same]; exact Nat.le_refl _, by rw [G.setInfo_same]; rfl, by rw [G.setInfo_same]; simp [i, hC]⟩⟩)⟩

theorem os_bsliceR {t : TypeId} {len : Nat} {parts : Array (Nat × Operand)} {ti : TI} {e : TypeId} {cs : List PV} (ho : o.op = .buildSlice t len parts) (ht : P.underlying t = some (.slice e)) (he : tiOf P e = some ti) (hsz : 0 < ti.size) (hn : len * ti.size ≤ 16777216)
    (hb : abuild (fun i => some (i * ti.size, ti.size)) (List.replicate (len * ti.size) .any) (parts.toList.map fun x => (x.1, ev Γ A x.2)) = some cs) (hk : K (.row H.length 0 len ti.size) (H ++ [.row ti.size cs])) : OStep P Γ o A H K :=
  ostep_value (by simp [ho]) fun w0 G w N a hs ha => by
    obtain ⟨C, hrun, hr, h1⟩ := bslice_run hs ha ho ht he hsz hn hb
    have hl : cs.length = len * ti.size := by rw [abuild_length hb]; simp
    have hcl : cs.length = C.size := hr.1.trans Array.length_toList
    obtain ⟨G', g1, g2, g3⟩ := hs.newRow C e (sz := ti.size) (k := len) (cap := len) hsz hl (by omega) (by have := Nat.le_mul_of_pos_right len hsz; omega) (Nat.le_refl _) hr.bound (fun j c u hc hu => ⟨hr.2 j c u hc (by simpa using hu), h1 j u hu⟩)
    exact ⟨_, _, G', _, _, hrun, g1, g3, g2, by simp, hk⟩

/-- A row is begun where a slice is empty, and has no room. -/
theorem Sim.adopt {w0 : World} {G : Ghost} {w : World} (h : Sim Γ w0 G H w) {sz : Nat} (hsz : 0 < sz) {n : Nat} {v : Value} (hv : Rep G n (.vec [] true) v) :
    ∃ G', Sim Γ w0 G' (H ++ [Blk.row sz []]) w ∧ Evol G H.length G' ∧ Rep G' (H ++ [Blk.row sz []]).length (.row H.length 0 0 sz) v := by
  let i : Info := { blk := 0, len := 0, size := 0, sub := 0, isRow := true }
  have hp := h.push i (.row sz []) w h.below (Nat.le_refl _) (fun k _ => rfl) ⟨rfl, rfl, hsz, Nat.zero_le _, rfl, .inl ⟨rfl, rfl⟩⟩ (fun hl => by simp [Blk.live, i] at hl)
  refine ⟨_, hp.1, hp.2, ?_⟩
  have key : ∃ ad : Option Addr, v = .slice ad 0 0 := by
    cases hv with
    | vec0 => exact ⟨_, rfl⟩
    | vec _ _ _ b q sz' cap vs hn hc hf => exact ⟨some ⟨b, q, none⟩, by rw [hf rfl]; rfl⟩
  obtain ⟨ad, rfl⟩ := key
  exact .row _ _ 0 0 sz _ 0 (Nat.zero_le _) (by simp) (by rw [G.setInfo_same]) (by rw [G.setInfo_same]; simp [i]) (fun _ => ⟨Nat.le_refl _, .inr ⟨rfl, rfl⟩⟩)

/-- A row is never turned any more. -/
theorem Sim.freeze {w0 : World} {G : Ghost} {w : World} {b sz : Nat} {cs : List PV} (h : Sim Γ w0 G H w) (hb : H[b]? = some (.row sz cs)) (hp : PV.plainL cs = true) :
    ∃ G', Sim Γ w0 G' (H.set b .dead) w ∧ Evol G H.length G' ∧ ∀ n m q k v, Rep G n (.row b q k sz) v → cs.length = q + k * sz → Rep G' m (.vec (chunk sz k (cs.drop q)) false) v := by
  obtain ⟨hr, hlen, hsz, hsub, hbd, hrest⟩ := h.blk b _ hb
  have hbl := (List.getElem?_eq_some_iff.1 hb).1
  let i : Info := { (G.info b) with len := cs.length + 1 }
  have empty : ∀ (G' : Ghost) (m : Nat) (ad : Option Addr) (cap q : Nat), (cap = 0 ∨ ∃ x : Addr, ad = some x ∧ x.spot = none) → Rep G' m (.vec (chunk sz 0 (cs.drop q)) false) (.slice ad 0 cap) := by
    intro G' m ad cap q hc
    rcases hc with rfl | ⟨⟨g, o', s⟩, rfl, hs⟩
    · exact .vec0 _ _ _
    · simp only at hs
      subst hs
      exact .vec _ [] _ g o' 0 cap (fun _ => undef) (Nat.zero_le _) (Nat.zero_le _) (fun hf => by cases hf) (fun e he => by cases he) (fun i j e c hi => by simp at hi) (fun i j e c hi => by simp at hi) (fun i j e c hi => by simp at hi)
  rcases hrest with ⟨hz, hcs⟩ | ⟨hpos, C, e, hh, hCs, hle, h5⟩
  · have he : Evol G H.length (G.setInfo b i) := ⟨fun _ _ h => h, fun k _ => by
      by_cases hk : k = b
      · subst hk; exact .inr ⟨hr, by rw [G.setInfo_same]; exact hr, by rw [G.setInfo_same, hlen]; exact Nat.lt_succ_self _⟩
      · exact .inl (G.setInfo_other i hk)⟩
    refine ⟨G.setInfo b i, h.set hb he (fun k _ hk => G.setInfo_other i hk) h.below (Nat.le_refl _) (fun _ _ _ _ _ => rfl) h.mem (fun k D hD _ hl => (h.own k D hD hl).2.2) trivial (fun hl => by simp [Blk.live] at hl), he, fun n m q k v hv hl => ?_⟩
    obtain ⟨ad, cap, rfl, _, _, _, had⟩ := hv.row_inv
    obtain ⟨_, hcase⟩ := had (by omega)
    have hk0 : k = 0 := by
      rcases hcase with ⟨hs, _, hc⟩ | ⟨hk, _⟩
      · rcases Nat.eq_zero_or_pos k with h0 | h0
        · exact h0
        · have := Nat.mul_pos h0 hsz; omega
      · exact hk
    subst hk0
    refine empty _ _ _ _ _ ?_
    rcases hcase with ⟨_, h0, _⟩ | ⟨_, h0⟩
    · exact .inr ⟨_, h0, rfl⟩
    · exact .inl h0
  · have hown := h.own b _ hb (by simpa [Blk.live] using hpos)
    let G1 := G.keep (G.info b).blk (cs.length - (G.info b).sub) C
    let G2 := G1.setInfo b i
    have he : Evol G H.length G2 := ⟨(Evol.keep (n := 0) hown.2.2).mem, fun k _ => by
      by_cases hk : k = b
      · subst hk; exact .inr ⟨hr, by show ((G1.setInfo k i).info k).isRow = true; rw [Ghost.setInfo_same]; exact hr, by show _ < ((G1.setInfo k i).info k).len; rw [Ghost.setInfo_same, hlen]; exact Nat.lt_succ_self _⟩
      · exact .inl (Ghost.setInfo_other G1 i hk)⟩
    have hM : ∀ j, j < cs.length - (G.info b).sub → G2.M ⟨(G.info b).blk, j, none⟩ = C[j]? := fun j hj => G.keep_at hj
    refine ⟨G2, h.set hb he (fun k _ hk => Ghost.setInfo_other G1 i hk) h.below (Nat.le_refl _) (fun _ _ _ _ _ => rfl) (fun a v ha => ?_) (fun k D hD hk hl o' s => ?_) trivial (fun hl => by simp [Blk.live] at hl), he, fun n m q k v hv hl => ?_⟩
    · obtain ⟨g, o', s⟩ := a
      by_cases hg : g = (G.info b).blk
      · subst hg
        have ha' : (G.keep (G.info b).blk (cs.length - (G.info b).sub) C).M ⟨(G.info b).blk, o', s⟩ = some v := ha
        simp only [Ghost.keep] at ha'
        split at ha'
        · rename_i hc
          obtain ⟨_, hs, _⟩ := hc
          subst hs
          simp [World.cell?, hh, ha']
        · rw [hown.2.2] at ha'; cases ha'
      · have ha' : (G.keep (G.info b).blk (cs.length - (G.info b).sub) C).M ⟨g, o', s⟩ = some v := ha
        rw [G.keep_other hg] at ha'
        exact h.mem _ v ha'
    · have hne : (G.info k).blk ≠ (G.info b).blk := fun e => hk (h.inj k b D _ hD hb hl (by simpa [Blk.live] using hpos) e)
      show (G.keep (G.info b).blk (cs.length - (G.info b).sub) C).M _ = none
      rw [G.keep_other hne]
      exact (h.own k D hD hl).2.2 o' s
    · obtain ⟨ad, cap, rfl, _, _, _, had⟩ := hv.row_inv
      obtain ⟨hkc, hcase⟩ := had (by omega)
      rcases hcase with ⟨hs, rfl, hcap⟩ | ⟨hk0, hc0⟩
      · have hdl : (cs.drop q).length = k * sz := by simp; omega
        obtain ⟨c1, c2, c3⟩ := chunk_spec hdl
        have := Rep.vec_of (G := G2) (n := m) (g := (G.info b).blk) (q := q - (G.info b).sub) (sz := sz) (cap := cap) (es := chunk sz k (cs.drop q)) (f := false) (fun j => C[q - (G.info b).sub + j]?)
          (fun j hj => by rw [c1] at hj; exact hM _ (by omega)) c3 (fun j c hc => by
            rw [c2, List.getElem?_drop] at hc
            have hj := (List.getElem?_eq_some_iff.1 hc).1
            have hj' : q - (G.info b).sub + j < C.size := by omega
            have h6 := h5 (q - (G.info b).sub + j) c _ (by rw [show (G.info b).sub + (q - (G.info b).sub + j) = q + j by omega]; exact hc) (Array.getElem?_eq_getElem hj')
            exact ⟨_, Array.getElem?_eq_getElem hj', (h6.1.cut 0 (PV.bdL_at hp hc)).mono 0 (he.less (Nat.zero_le _)) (Nat.le_refl _), h6.2⟩) (by rw [c1]; exact hv.row_len) (by rw [c1]; exact hkc) (fun hf => by cases hf)
        rw [c1] at this
        exact this
      · subst hk0 hc0
        exact empty _ _ _ _ _ (.inl rfl)

/-- What append takes its elements from. -/
def srcOf (H : List Blk) (sz : Nat) : PV → Option (List PV)
  | .vec es _ => some es.flatten
  | .str s => if sz = 1 then some (s.map fun c => .int .u8 c.toNat) else none
  | _ => none

theorem src_spec {w0 : World} {G : Ghost} {w : World} {tx : TypeId} {d : TypeDesc} {sz n : Nat} {p : PV} {v : Value} {xs : List PV} (hs : Sim Γ w0 G H w) (hr : Rep G H.length p v) (hx : srcOf H sz p = some xs)
    (hd : P.underlying tx = some d) (hd' : (∃ e, d = .slice e) ∨ d = .string) (hv : ∀ es f, p = .vec es f → ∀ e ∈ es, e.length = sz) (hn : alen p = some n) : ∃ news, Src P sz tx v n news w ∧ Reps G 0 xs news := by
  have hkind : (∃ e', P.underlying tx = some (.slice e')) ∨ P.underlying tx = some .string := by
    rcases hd' with ⟨e, rfl⟩ | rfl
    · exact .inl ⟨e, hd⟩
    · exact .inr hd
  unfold srcOf at hx
  split at hx
  · rename_i es f
    obtain rfl := Option.some.inj hx
    simp only [alen, Option.some.injEq] at hn
    subst hn
    have hse := hv es f rfl
    obtain ⟨ad, cap, rfl, h1, h2, h4, C, h5, h6, h7⟩ := vec_cells (P := P) hs hr hse
    obtain ⟨_, _, he2, _, _, _, C2, h52, h62, h72⟩ := vec_cells (P := P) hs.drew hr hse
    have e : C2 = C := by
      have hl1 : C.size = es.length * sz := by rw [← flatten_len hse]; exact (h6.1.trans Array.length_toList).symm
      have hl2 : C2.size = es.length * sz := by rw [← flatten_len hse]; exact (h62.1.trans Array.length_toList).symm
      have : (Builtin.firstCells sz es.length (.slice ad es.length cap)).run P w.drew = .ok C w.drew := by
        cases ad with
        | none =>
          rw [run_firstCells_none] at h5 ⊢
          injection h5 with h5 _
          rw [h5]
        | some ad =>
          have hcell : ∀ (j : Nat) v, C.toList[j]? = some v → w.cell? (ad.add j) = some v := by
            intro j v hj
            have hr' := hr
            cases hr' with
            | vec0 =>
              have := h6.1
              simp at this
              have hj' := (List.getElem?_eq_some_iff.1 hj).1
              simp at hj'; omega
            | vec _ _ _ b q sz' cap' vs hn hc hf hss h1' h2' h3' =>
              have hjl : j < C.size := by simpa using (List.getElem?_eq_some_iff.1 hj).1
              have hfl : j < es.flatten.length := by rw [flatten_len hse]; omega
              obtain ⟨i, k, e, rfl, hi, hk⟩ := flatten_at hse (List.getElem?_eq_getElem hfl)
              have hse' : sz' = sz := by rw [← hse e (List.mem_of_getElem? hi)]; exact (hss e (List.mem_of_getElem? hi)).symm
              subst hse'
              have hrun := run_firstCells_some (P := P) w sz' es.length ⟨b, q, none⟩ es.length cap ((List.range (es.length * sz')).map vs) (by simp) (fun j v hj => by
                rw [Fw.add_at]
                have hlt : j < es.length * sz' := by
                  have := (List.getElem?_eq_some_iff.1 hj).1
                  simpa using this
                have hv : v = vs j := by
                  rw [List.getElem?_map, List.getElem?_range hlt] at hj
                  exact (Option.some.inj hj).symm
                have hfl : j < es.flatten.length := by rw [flatten_len hse]; exact hlt
                obtain ⟨i, k, e, rfl, hi, hk⟩ := flatten_at hse (List.getElem?_eq_getElem hfl)
                subst hv
                exact hs.mem _ _ (h1' i k e _ hi hk))
              rw [hrun] at h5
              injection h5 with h5 _
              rw [← h5] at hj
              simp only [List.toList_toArray] at hj
              have hlt : i * sz' + k < es.length * sz' := by omega
              rw [List.getElem?_map, List.getElem?_range hlt] at hj
              obtain rfl := Option.some.inj hj
              rw [Fw.add_at]
              exact hs.mem _ _ (h1' i k e _ hi hk)
          have := run_firstCells_some (P := P) w.drew sz es.length ad es.length cap C.toList (by rw [Array.length_toList]; exact hl1) (fun j v hj => by simpa using hcell j v hj)
          simpa using this
      rw [this] at h52
      injection h52 with h52 _
      exact h52.symm
    subst e
    refine ⟨C2.toList, ⟨hkind, fun _ => rfl, by simpa using h5, by simpa using h52, by rw [Array.length_toList, ← flatten_len hse]; exact (h6.1.trans Array.length_toList).symm, fun u hu => ?_⟩, h6⟩
    obtain ⟨j, hj, rfl⟩ := List.mem_iff_getElem.1 hu
    exact h7 j _ (by simp at hj ⊢)
  · rename_i s
    split at hx
    · rename_i hsz
      subst hsz
      obtain rfl := Option.some.inj hx
      simp only [alen, Option.some.injEq] at hn
      subst hn
      rw [hr.str_inv]
      have hsize : (⟨s.toArray⟩ : ByteArray).size = s.length := by simp [ByteArray.size]
      have hb := firstCells_string (P := P) (⟨s.toArray⟩ : ByteArray)
      refine ⟨byteCells ⟨s.toArray⟩, ⟨hkind, fun w' => ?_, ?_, ?_, ?_, fun u hu => ?_⟩, ?_⟩
      · show Result.ok ((⟨s.toArray⟩ : ByteArray).size) w' = _
        rw [hsize]
      · rw [← hsize]; exact hb w
      · rw [← hsize]; exact hb w.drew
      · rw [byteCells_length, hsize, Nat.mul_one]
      · obtain ⟨_, _, rfl⟩ := List.mem_map.1 hu
        rfl
      · refine ⟨by simp [byteCells], fun j p v hp hv => ?_⟩
        simp only [byteCells, List.toList_toArray] at hv
        rw [List.getElem?_map] at hp hv
        cases hc : s[j]? with
        | none => rw [hc] at hp; cases hp
        | some c =>
          rw [hc] at hp hv
          obtain rfl := Option.some.inj hp
          obtain rfl := Option.some.inj hv
          exact .int _ _ _
    · cases hx
  · cases hx

/-- There is room: the new elements are stored. -/
theorem run_append_room' (w w' : World) (t tx ty e : TypeId) (i : TypeInfo) (ht : P.underlying t = some (.slice e)) (hi : P.info? e = some i) (b off sLen sCap : Nat) (x : Value) (n : Nat) (news : List Value) (hs : Src P i.size tx x n news w)
    (hroom : sLen + n ≤ sCap) (hst : (storeCells ⟨b, off + sLen * i.size, none⟩ news).run P w = .ok () w') :
    (Builtin.append_ #[t, tx] ty #[.slice (some ⟨b, off, none⟩) sLen sCap, x]).run P w = .ok (.slice (some ⟨b, off, none⟩) (sLen + n) sCap) w' := by
  rcases hs.kind with ⟨e', hk⟩ | hk <;> simp [Builtin.append_, run_underlying ht, run_underlying hk, sizeOf, typeInfo, hi, hs.len, hroom, hs.cells, Fw.add_at, hst]

end
end Go.Proofs.YtinedfjknhahmaaDoor.Fw
