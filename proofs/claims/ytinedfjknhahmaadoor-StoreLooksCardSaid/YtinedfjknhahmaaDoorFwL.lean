/- The framework, twelfth part: plain operations computed, whole stretches of a region at once. -/
import Derived.Test.YtinedfjknhahmaaDoorFwV
namespace Go.Proofs.YtinedfjknhahmaaDoor.Fw
set_option linter.unusedVariables false
set_option linter.unusedSimpArgs false
open Go.RowKit

def boxAt (H : List Blk) (b : Nat) : Option (List PV) :=
  match H[b]? with
  | some (.box cs) => some cs
  | _ => none

/-- Is the constant the nil of the type? -/
def nilOf : TypeDesc → Value → Bool
  | .pointer _, .pointer none => true
  | .map _ _, .map none => true
  | .func _ _ _, .nilFunc => true
  | .interface _, .nilIface => true
  | .slice _, .slice none 0 0 => true
  | _, _ => false

theorem nilOf_spec {d : TypeDesc} {c : Value} (h : nilOf d c = true) : c = nilC d := by
  unfold nilOf at h
  split at h <;> first | rfl | cases h

/-- A value asked whether it is nil. -/
def nilStep (P : Program) (op : BinOp) (t : TypeId) (p : PV) (y : Operand) : Option PV :=
  match y with
  | .const c => match P.underlying t with
    | some d => if nilOf d c = true then (match isNil d p with | some b => eqv op b | none => none) else none
    | none => none
  | _ => none

/-- What an operation comes to, where its values are known. -/
def step1 (P : Program) (Γ : Nat → PV) (A : List (Nat × PV)) (H : List Blk) : Op → Option (PV × List Blk)
  | .move x => some (ev Γ A x, H)
  | .assign x => some (ev Γ A x, H)
  | .pick c x y => match ev Γ A c with
    | .bool b => some (if b then ev Γ A x else ev Γ A y, H)
    | _ => none
  | .alloc t => match tiOf P t with
    | some ti => some (.ptr H.length 0, H ++ [.box ti.zero])
    | none => none
  | .box _ x => if (ev Γ A x).shaped = true then some (.ptr H.length 0, H ++ [.box (ev Γ A x).cells]) else none
  | .load t x => match rd Γ A H x, tiOf P t with
    | some cs, some ti => if ti.agg = true then (if ti.size ≤ cs.length then some (.agg (cs.take ti.size), H) else none) else (match cs[0]? with | some p => some (p, H) | none => none)
    | _, _ => none
  | .store t x y => match ev Γ A x, tiOf P t with
    | .ptr b q, some ti => match boxAt H b with
      | some cs => if (ev Γ A y).shaped = true ∧ (ev Γ A y).cells.length = ti.size ∧ q + ti.size ≤ cs.length then some (.any, H.set b (.box (splice cs q (ev Γ A y).cells))) else none
      | none => none
    | _, _ => none
  | .fieldAddr s x f => match fldOf P s f with
    | some (off, _, _) => match shift (ev Γ A x) off with
      | some p => some (p, H)
      | none => none
    | none => none
  | .field s x f => match fldOf P s f, ev Γ A x with
    | some (off, size, ag), .agg cs => if ag = true then (if off + size ≤ cs.length then some (.agg ((cs.drop off).take size), H) else none) else (match cs[off]? with | some p => some (p, H) | none => none)
    | _, _ => none
  | .binOp op t x y _ => match ev Γ A x, ev Γ A y with
    | .bool b, .bool c => match P.underlying t, eqv op (b == c) with
      | some .bool, some p => some (p, H)
      | _, _ => none
    | .agg xs, .agg ys => match eqOf P t with
      | some l => match aeqs l xs ys with
        | some b => match eqv op b with
          | some r => some (r, H)
          | none => none
        | none => none
      | none => none
    | p, q => match abin op p q with
      | some r => some (r, H)
      | none => match nilStep P op t p y with
        | some r => some (r, H)
        | none => none
  | .unOp .not _ x => match ev Γ A x with
    | .bool b => some (.bool !b, H)
    | _ => none
  | .unOp .neg _ x => match ev Γ A x with
    | .int k n => some (.int k (k.wrap (0 - n)), H)
    | _ => none
  | .convert s t x => match P.underlying s, P.underlying t, ev Γ A x with
    | some _, some (.int k'), .int _ n => some (.int k' (k'.wrap n), H)
    | some _, some .string, .str u => some (.str u, H)
    | _, _, _ => none
  | .extract x i => match ev Γ A x with
    | .tup ps => match ps[i]? with
      | some p => some (p, H)
      | none => none
    | _ => none
  | .makeFunc fn fs cs => some (.func fn (fs.toList.map (ev Γ A)) (cs.toList.map (ev Γ A)), H)
  | .makeInterface t x => match P.underlying t with
    | some (.interface _) => none
    | some _ => some (.iface t (ev Γ A x), H)
    | none => none
  | .build t parts => match tiOf P t, plOf P t with
    | some ti, some pl => match abuild (fun i => pl[i]?) ti.zero (parts.toList.map fun x => (x.1, ev Γ A x.2)) with
      | some cs => some (.agg cs, H)
      | none => none
    | _, _ => none
  | .buildSlice t len parts => match P.underlying t with
    | some (.slice e) => match tiOf P e with
      | some ti => if 0 < ti.size ∧ len * ti.size ≤ 16777216 then
          (match abuild (fun i => some (i * ti.size, ti.size)) (List.replicate (len * ti.size) .any) (parts.toList.map fun x => (x.1, ev Γ A x.2)) with
          | some cs => if PV.plainL cs = true then some (.vec (chunk ti.size len cs) true, H) else none
          | none => none) else none
      | none => none
    | _ => none
  | .indexAddr t x i => match elOf P t, ev Γ A x, ev Γ A i with
    | some (sz, _), .vec es _, .int _ n => match es[n.toNat]? with
      | some e => if 0 ≤ n ∧ e.length = sz then some (.cptr e, H) else none
      | none => none
    | _, _, _ => none
  | .index t x i => match P.underlying t, ev Γ A x, ev Γ A i with
    | some .string, .str s, .int _ n => match s[n.toNat]? with
      | some c => if 0 ≤ n then some (.int .u8 c.toNat, H) else none
      | none => none
    | _, _, _ => none
  | .call c => match c with
    | { callee := .builtin .len, args := ⟨[x]⟩, argTypes := ⟨[t]⟩ } => match P.underlying t, ev Γ A x with
      | some .string, .str s => some (.int .i64 s.length, H)
      | some (.slice _), .vec es _ => some (.int .i64 es.length, H)
      | some (.slice _), .row _ _ k _ => some (.int .i64 k, H)
      | _, _ => none
    | _ => none
  | _ => none

section
variable {P : Program} {Γ : Nat → PV} {o : Oper} {A : List (Nat × PV)} {H : List Blk} {K : PV → List Blk → Prop}

theorem boxAt_spec {b : Nat} {cs : List PV} (h : boxAt H b = some cs) : H[b]? = some (.box cs) := by
  unfold boxAt at h
  split at h
  · cases h; assumption
  · cases h

theorem step1_sound {p : PV} {H' : List Blk} (h : step1 P Γ A H o.op = some (p, H')) (hk : K p H') : OStep P Γ o A H K := by
  unfold step1 at h
  split at h
  · rename_i x ho; cases h; exact os_move ho hk
  · rename_i x ho; cases h; exact os_assign ho hk
  · rename_i c x y ho
    split at h
    · rename_i b hb; cases h; exact os_pick ho hb hk
    · cases h
  · rename_i t ho
    split at h
    · rename_i ti ht; cases h; exact os_alloc ho ht hk
    · cases h
  · rename_i t x ho
    split at h
    · rename_i hx; cases h; exact os_box ho hx hk
    · cases h
  · rename_i t x ho
    split at h
    · rename_i cs ti hr ht
      refine os_load (p := p) ho ht hr ?_ ?_
      · split at h
        · rename_i hag
          rw [if_pos hag]
          split at h
          · rename_i hle; cases h; exact ⟨hle, rfl⟩
          · cases h
        · rename_i hag
          rw [if_neg hag]
          split at h
          · rename_i q hq; cases h; exact hq
          · cases h
      · have : H' = H := by
          split at h
          · split at h
            · cases h; rfl
            · cases h
          · split at h
            · cases h; rfl
            · cases h
        subst this; exact hk
    · cases h
  · rename_i t x y ho
    split at h
    · rename_i b q ti hx ht
      split at h
      · rename_i cs hb
        split at h
        · rename_i hc; cases h; exact os_store ho ht hx (boxAt_spec hb) hc.1 hc.2.1 hc.2.2 hk
        · cases h
      · cases h
    · cases h
  · rename_i s x f ho
    split at h
    · rename_i off sz ag hf
      split at h
      · rename_i q hq; cases h; exact os_fieldAddr ho hf hq hk
      · cases h
    · cases h
  · rename_i s x f ho
    split at h
    · rename_i off size ag cs hf hx
      refine os_field (p := p) ho hf hx ?_ ?_
      · split at h
        · rename_i hag
          rw [if_pos hag]
          split at h
          · rename_i hle; cases h; exact ⟨hle, rfl⟩
          · cases h
        · rename_i hag
          rw [if_neg hag]
          split at h
          · rename_i q hq; cases h; exact hq
          · cases h
      · have : H' = H := by
          split at h
          · split at h
            · cases h; rfl
            · cases h
          · split at h
            · cases h; rfl
            · cases h
        subst this; exact hk
    · cases h
  · rename_i op t x y ty ho
    split at h
    · rename_i b c hx hy
      split at h
      · rename_i q ht hq; cases h; exact os_eqb ho ht hx hy hq hk
      · cases h
    · rename_i xs ys hx hy
      split at h
      · rename_i l hl
        split at h
        · rename_i b hb
          split at h
          · rename_i r hr; cases h; exact os_eqAgg ho hl hx hy hb hr hk
          · cases h
        · cases h
      · cases h
    · split at h
      · rename_i r hr; cases h; exact os_bin ho hr hk
      · split at h
        · rename_i r hr
          cases h
          unfold nilStep at hr
          split at hr
          · rename_i c
            split at hr
            · rename_i d hd
              split at hr
              · rename_i hn
                split at hr
                · rename_i b hb; exact os_nil ho hd (nilOf_spec hn) hb hr hk
                · cases hr
              · cases hr
            · cases hr
          · cases hr
        · cases h
  · rename_i t x ho
    split at h
    · rename_i b hb; cases h; exact os_not ho hb hk
    · cases h
  · rename_i t x ho
    split at h
    · rename_i k n hb; cases h; exact os_neg ho hb hk
    · cases h
  · rename_i s t x ho
    split at h
    · rename_i d k' k n hs ht hx; cases h; exact os_conv ho hs ht hx hk
    · rename_i d u hs ht hx; cases h; exact os_convStr ho hs ht hx hk
    · cases h
  · rename_i x i ho
    split at h
    · rename_i ps hx
      split at h
      · rename_i q hq; cases h; exact os_extract ho hx hq hk
      · cases h
    · cases h
  · rename_i fn fs cs ho; cases h; exact os_func ho hk
  · rename_i t x ho
    split at h
    · cases h
    · rename_i d hne ht; cases h; exact os_iface ho ht (hne) hk
    · cases h
  · rename_i t parts ho
    split at h
    · rename_i ti pl ht hp
      split at h
      · rename_i cs hb; cases h; exact os_build ho ht hp hb hk
      · cases h
    · cases h
  · rename_i t len parts ho
    split at h
    · rename_i e ht
      split at h
      · rename_i ti he
        split at h
        · rename_i hc
          split at h
          · rename_i cs hb
            split at h
            · rename_i hp; cases h; exact os_bsliceV ho ht he hc.1 hc.2 hb hp hk
            · cases h
          · cases h
        · cases h
      · cases h
    · cases h
  · rename_i t x i ho
    split at h
    · rename_i sz by' es f k n ht hx hi
      split at h
      · rename_i e he
        split at h
        · rename_i hc; cases h; exact os_index_vec ho ht hx hi hc.1 he hc.2 hk
        · cases h
      · cases h
    · cases h
  · rename_i t x i ho
    split at h
    · rename_i s k n ht hx hi
      split at h
      · rename_i c hc
        split at h
        · rename_i h0; cases h; exact os_index_str ho ht hx hi h0 hc hk
        · cases h
      · cases h
    · cases h
  · rename_i c ho
    split at h
    · rename_i x t
      split at h
      · rename_i s ht hx; cases h; exact os_len (ty := 0) ho ht (.inl ⟨rfl, s, hx⟩) (by rw [hx]; rfl) hk
      · rename_i e es f ht hx; cases h; exact os_len (ty := 0) ho ht (.inr ⟨⟨_, rfl⟩, fun s e => by rw [hx] at e; cases e⟩) (by rw [hx]; rfl) hk
      · rename_i e b q k sz ht hx; cases h; exact os_len (ty := 0) ho ht (.inr ⟨⟨_, rfl⟩, fun s e => by rw [hx] at e; cases e⟩) (by rw [hx]; rfl) hk
      · cases h
    · cases h
  · cases h

/-- A stretch of plain operations. -/
def arun (P : Program) (Γ : Nat → PV) (ops : Array Oper) : List Oper → List (Nat × PV) → List Blk → Option (List (Nat × PV) × List Blk)
  | [], A, H => some (A, H)
  | o :: rest, A, H =>
    match o.guard with
    | none => match step1 P Γ A H o.op with
      | some (p, H') => arun P Γ ops rest (aput A o.dst p) H'
      | none => none
    | some (j, want) => match (ops[j]?).bind (·.dst) with
      | some d => match alook A d with
        | .bool b => if b = want then (match step1 P Γ A H o.op with
            | some (p, H') => arun P Γ ops rest (aput A o.dst p) H'
            | none => none) else arun P Γ ops rest (aput A o.dst (.tup [])) H
        | .tup [] => arun P Γ ops rest (aput A o.dst (.tup [])) H
        | _ => none
      | none => none

theorem aops_run {ops : Array Oper} {Q : List (Nat × PV) → List Blk → Prop} (k : Nat) : ∀ {rest : List Oper} {A : List (Nat × PV)} {H : List Blk} {A' : List (Nat × PV)} {H' : List Blk},
    arun P Γ ops (rest.take k) A H = some (A', H') → AOps P Γ ops Q (rest.drop k) A' H' → AOps P Γ ops Q rest A H := by
  induction k with
  | zero => intro rest A H A' H' h hk; simp only [List.take_zero, arun, Option.some.injEq, Prod.mk.injEq] at h; obtain ⟨rfl, rfl⟩ := h; exact hk
  | succ k ih =>
    intro rest A H A' H' h hk
    cases rest with
    | nil => simp only [List.take_nil, arun, Option.some.injEq, Prod.mk.injEq] at h; obtain ⟨rfl, rfl⟩ := h; exact hk
    | cons o rest =>
      simp only [List.take_succ_cons, arun] at h
      simp only [List.drop_succ_cons] at hk
      simp only [AOps]
      split at h
      · rename_i hg
        rw [hg]
        split at h
        · rename_i p H1 hs; exact step1_sound hs (ih h hk)
        · cases h
      · rename_i j want hg
        rw [hg]
        split at h
        · rename_i d hd
          split at h
          · rename_i b hb
            refine ⟨d, hd, .inl ⟨b, hb, ?_⟩⟩
            split at h
            · rename_i hw
              rw [if_pos hw]
              split at h
              · rename_i p H1 hs; exact step1_sound hs (ih h hk)
              · cases h
            · rename_i hw
              rw [if_neg hw]
              exact ih h hk
          · rename_i hb
            exact ⟨d, hd, .inr ⟨hb, ih h hk⟩⟩
          · cases h
        · cases h

/-- One operation by a rule. -/
theorem aops_one {ops : Array Oper} {Q : List (Nat × PV) → List Blk → Prop} {rest : List Oper} (hg : o.guard = none) (h : OStep P Γ o A H (fun p H' => AOps P Γ ops Q rest (aput A o.dst p) H')) : AOps P Γ ops Q (o :: rest) A H := by
  simp only [AOps, hg]; exact h

theorem aops_if {ops : Array Oper} {Q : List (Nat × PV) → List Blk → Prop} {rest : List Oper} {j d : Nat} {b : Bool} (hg : o.guard = some (j, b)) (hd : (ops[j]?).bind (·.dst) = some d) (hb : alook A d = .bool b)
    (h : OStep P Γ o A H (fun p H' => AOps P Γ ops Q rest (aput A o.dst p) H')) : AOps P Γ ops Q (o :: rest) A H := by
  simp only [AOps, hg]; exact ⟨d, hd, .inl ⟨b, hb, by rw [if_pos rfl]; exact h⟩⟩

/-- A whole region at once. -/
theorem awp_run {N id : Nat} {ro : Option Nat} {ops : Array Oper} {D : List Nat} {Q : Post} {A' : List (Nat × PV)} {H' : List Blk} (hok : dstOk N ops = true) (h : arun P Γ ops ops.toList A H = some (A', H')) (hk : Q .normal A' H' D) :
    AWP P Γ N ro (.region id ops false) A H D Q :=
  awp_region hok (aops_run ops.size (by rw [List.take_of_length_le (by simp)]; exact h) (by rw [List.drop_of_length_le (by simp)]; exact hk))

/-- Only these slots are kept in mind. -/
def akeep (l : List Nat) (A : List (Nat × PV)) : List (Nat × PV) := l.map fun t => (t, alook A t)

theorem akeep_look (l : List Nat) (A : List (Nat × PV)) (t : Nat) : alook (akeep l A) t = alook A t ∨ alook (akeep l A) t = .any := by
  induction l with
  | nil => exact .inr rfl
  | cons k l ih =>
    simp only [akeep, List.map_cons, alook]
    by_cases h : t = k
    · rw [if_pos h, h]; exact .inl rfl
    · rw [if_neg h]; exact ih

theorem awp_keep {N : Nat} {ro : Option Nat} {c : Code} {D : List Nat} {Q : Post} {A' : List (Nat × PV)} (l : List Nat) (he : akeep l A = A') (h : AWP P Γ N ro c A' H D Q) : AWP P Γ N ro c A H D Q :=
  awp_less (fun t => he ▸ akeep_look l A t) h

end
end Go.Proofs.YtinedfjknhahmaaDoor.Fw
