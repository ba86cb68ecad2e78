/- The framework, seventh part: slices: length, slicing, slices made whole, append; a row is begun, a row is left as it is. -/
import Derived.Test.YtinedfjknhahmaaDoorFwF
namespace Go.Proofs.YtinedfjknhahmaaDoor.Fw
set_option linter.unusedVariables false
set_option linter.unusedSimpArgs false
open Go.RowKit

theorem flatten_at {α : Type} {sz : Nat} : ∀ {es : List (List α)} {k : Nat} {c : α}, (∀ e ∈ es, e.length = sz) → es.flatten[k]? = some c → ∃ i j e, k = i * sz + j ∧ es[i]? = some e ∧ e[j]? = some c
  | [], _, _, _, h => by simp at h
  | e :: es, k, c, hs, h => by
    rw [List.flatten_cons] at h
    have he := hs e (by simp)
    by_cases hk : k < e.length
    · rw [List.getElem?_append_left hk] at h
      exact ⟨0, k, e, by simp, rfl, h⟩
    · rw [List.getElem?_append_right (by omega)] at h
      obtain ⟨i, j, e', h1, h2, h3⟩ := flatten_at (fun e he => hs e (by simp [he])) h
      exact ⟨i + 1, j, e', by rw [Nat.succ_mul]; omega, by simpa using h2, h3⟩

theorem flatten_len {α : Type} {sz : Nat} : ∀ {es : List (List α)}, (∀ e ∈ es, e.length = sz) → es.flatten.length = es.length * sz
  | [], _ => by simp
  | e :: es, hs => by
    rw [List.flatten_cons, List.length_append, hs e (by simp), flatten_len (fun e he => hs e (by simp [he])), List.length_cons, Nat.succ_mul]; omega

theorem flatten_get {α : Type} {sz : Nat} : ∀ {es : List (List α)} {i j : Nat} {e : List α} {c : α}, (∀ e ∈ es, e.length = sz) → es[i]? = some e → e[j]? = some c → es.flatten[i * sz + j]? = some c
  | [], _, _, _, _, _, h, _ => by simp at h
  | e' :: es, 0, j, e, c, hs, h, h' => by
    simp at h; subst h
    have := (List.getElem?_eq_some_iff.1 h').1
    rw [List.flatten_cons, Nat.zero_mul, Nat.zero_add, List.getElem?_append_left this]; exact h'
  | e' :: es, i + 1, j, e, c, hs, h, h' => by
    have he := hs e' (by simp)
    rw [List.flatten_cons, List.getElem?_append_right (by rw [Nat.succ_mul]; omega), Nat.succ_mul, he]
    rw [show i * sz + sz + j - sz = i * sz + j by omega]
    exact flatten_get (fun e he => hs e (by simp [he])) (by simpa using h) h'

section
variable {P : Program} {Γ : Nat → PV} {o : Oper} {A : List (Nat × PV)} {H : List Blk} {K : PV → List Blk → Prop}

/-- What can be read of a slice. -/
theorem vec_cells {w0 : World} {G : Ghost} {w : World} {n sz : Nat} {es : List (List PV)} {f : Bool} {v : Value} (hs : Sim Γ w0 G H w) (h : Rep G n (.vec es f) v) (hsz : ∀ e ∈ es, e.length = sz) :
    ∃ ad cap, v = .slice ad es.length cap ∧ es.length ≤ cap ∧ (f = true → cap = es.length) ∧ (0 < es.length → ad.isSome = true) ∧
      ∃ C : Array Value, (Builtin.firstCells sz es.length v).run P w = .ok C w ∧ Reps G 0 es.flatten C.toList ∧ ∀ (j : Nat) u, C[j]? = some u → u.oneCell' = true := by
  cases h with
  | vec0 _ _ a => exact ⟨a, 0, rfl, Nat.le_refl _, fun _ => rfl, fun h => (by simp at h), #[], by
    cases a with
    | none => simp [Builtin.firstCells]
    | some ad => simpa using run_firstCells_some (P := P) w sz 0 ad 0 0 [] (by simp) (fun j v h => by simp at h), Reps.nil _ _, fun j u h => (by simp at h)⟩
  | vec _ _ _ b q sz' cap vs hn hc hf hss h1 h2 h3 =>
    refine ⟨some ⟨b, q, none⟩, cap, rfl, hc, hf, fun _ => rfl, ((List.range (es.length * sz)).map vs).toArray, ?_, ?_, ?_⟩
    · refine run_firstCells_some w sz es.length ⟨b, q, none⟩ es.length cap ((List.range (es.length * sz)).map vs) (by simp) (fun j v hj => ?_)
      rw [Fw.add_at]
      have hlt : j < es.length * sz := by
        have := (List.getElem?_eq_some_iff.1 hj).1
        simpa using this
      have hv : v = vs j := by
        rw [List.getElem?_map, List.getElem?_range hlt] at hj
        exact (Option.some.inj hj).symm
      have hfl : j < es.flatten.length := by rw [flatten_len hsz]; exact hlt
      obtain ⟨i, k, e, rfl, hi, hk⟩ := flatten_at hsz (List.getElem?_eq_getElem hfl)
      have hse : sz' = sz := by rw [← hsz e (List.mem_of_getElem? hi)]; exact (hss e (List.mem_of_getElem? hi)).symm
      subst hse hv
      exact hs.mem _ _ (h1 i k e _ hi hk)
    · refine ⟨by simp [flatten_len hsz], fun j c v hc' hv => ?_⟩
      obtain ⟨i, k, e, rfl, hi, hk⟩ := flatten_at hsz hc'
      have hse : sz' = sz := by rw [← hsz e (List.mem_of_getElem? hi)]; exact (hss e (List.mem_of_getElem? hi)).symm
      subst hse
      have hlt := (List.getElem?_eq_some_iff.1 hv).1
      simp only [List.length_map, List.length_range] at hlt
      rw [List.getElem?_map, List.getElem?_range (by simpa using hlt)] at hv
      obtain rfl := Option.some.inj hv
      exact h2 i k e c hi hk
    · intro j u hu
      have hlt : j < es.length * sz := by
        have := (Array.getElem?_eq_some_iff.1 hu).1
        simpa using this
      have hv : u = vs j := by
        have hu' : ((List.range (es.length * sz)).map vs)[j]? = some u := by simpa using hu
        rw [List.getElem?_map, List.getElem?_range hlt] at hu'
        exact (Option.some.inj hu').symm
      have hfl : j < es.flatten.length := by rw [flatten_len hsz]; exact hlt
      obtain ⟨i, k, e, rfl, hi, hk⟩ := flatten_at hsz (List.getElem?_eq_getElem hfl)
      have hse : sz' = sz := by rw [← hsz e (List.mem_of_getElem? hi)]; exact (hss e (List.mem_of_getElem? hi)).symm
      subst hse hv
      exact h3 i k e _ hi hk

/-- A row of cells that are never turned any more reads as what stands in them. -/
theorem Rep.vec_of {G : Ghost} {n g q sz cap : Nat} {es : List (List PV)} {f : Bool} (C : Nat → Option Value) (hM : ∀ j, j < es.length * sz → G.M ⟨g, q + j, none⟩ = C j) (hsz : ∀ e ∈ es, e.length = sz)
    (hr : ∀ (j : Nat) c, es.flatten[j]? = some c → ∃ u, C j = some u ∧ Rep G 0 c u ∧ u.oneCell' = true) (hn : es.length ≤ 9223372036854775807) (hc : es.length ≤ cap) (hf : f = true → cap = es.length) : Rep G n (.vec es f) (.slice (some ⟨g, q, none⟩) es.length cap) := by
  have key : ∀ (i j : Nat) e c, es[i]? = some e → e[j]? = some c → i * sz + j < es.length * sz ∧ es.flatten[i * sz + j]? = some c := by
    intro i j e c hi hj
    have h := flatten_get hsz hi hj
    have := (List.getElem?_eq_some_iff.1 h).1
    rw [flatten_len hsz] at this
    exact ⟨this, h⟩
  refine .vec n es f g q sz cap (fun j => (C j).getD undef) hn hc hf hsz (fun i j e c hi hj => ?_) (fun i j e c hi hj => ?_) (fun i j e c hi hj => ?_)
  all_goals
    obtain ⟨hlt, hfl⟩ := key i j e c hi hj
    obtain ⟨u, hu, h1, h2⟩ := hr _ c hfl
  · rw [hM _ hlt, hu]; rfl
  · rw [hu]; exact h1
  · rw [hu]; exact h2

/-- A new row that is never turned. -/
theorem Sim.newVec {w0 : World} {G : Ghost} {w : World} (h : Sim Γ w0 G H w) (C : Array Value) (e : TypeId) {es : List (List PV)} {sz cap : Nat} {f : Bool} (hsz : ∀ e ∈ es, e.length = sz)
    (hr : ∀ (j : Nat) c, es.flatten[j]? = some c → ∃ u, C[j]? = some u ∧ Rep G 0 c u ∧ u.oneCell' = true) (hn : es.length ≤ 9223372036854775807) (hc : es.length ≤ cap) (hf : f = true → cap = es.length) (m : Nat) :
    ∃ G', Sim Γ w0 G' H (w.alloc (.cells C e)) ∧ Evol G H.length G' ∧ Rep G' m (.vec es f) (.slice (some ⟨w.heap.size, 0, none⟩) es.length cap) := by
  obtain ⟨h1, h2⟩ := h.allocKeep C e (es.length * sz) H.length
  refine ⟨_, h1, h2, .vec_of (sz := sz) (fun j => C[j]?) (fun j hj => ?_) hsz (fun j c hj => ?_) hn hc hf⟩
  · rw [Nat.zero_add, G.keep_at hj]
  · obtain ⟨u, hu, h3, h4⟩ := hr j c hj
    exact ⟨u, hu, h3.mono 0 (h2.less (Nat.zero_le _)) (Nat.le_refl _), h4⟩

/-- Of a word that may not be there. -/
def onOpt (z : Option Operand) (p : Prop) (f : Operand → Prop) : Prop :=
  match z with
  | none => p
  | some y => f y

/-- The length of a text, of a slice. -/
def alen : PV → Option Nat
  | .str s => some s.length
  | .vec es _ => some es.length
  | .row _ _ k _ => some k
  | _ => none

theorem os_len {x : Operand} {t ty : TypeId} {d : TypeDesc} {n : Nat} (ho : o.op = .call { callee := .builtin .len, args := #[x], argTypes := #[t] }) (ht : P.underlying t = some d)
    (hd : d = .string ∧ (∃ s, ev Γ A x = .str s) ∨ (∃ e, d = .slice e) ∧ (∀ s, ev Γ A x ≠ .str s)) (hx : alen (ev Γ A x) = some n) (hk : K (.int .i64 n) H) : OStep P Γ o A H K :=
  ostep_pure (by simp [ho]) _ hk fun w0 G w N a hs ha => by
    have h1 := ha.ev hs.glob x
    refine ⟨.int .i64 n, ?_, .int _ _ _⟩
    have key : (Builtin.len_ #[t] o.type #[a.eval x]).run P w = .ok (.int .i64 n) w := by
      rcases hd with ⟨rfl, s, hs'⟩ | ⟨⟨e, rfl⟩, hne⟩
      · rw [hs'] at h1 hx
        rw [h1.str_inv]
        simp only [alen, Option.some.injEq] at hx
        have e : (⟨s.toArray⟩ : ByteArray).size = s.length := by simp [ByteArray.size]
        subst hx
        simp only [Builtin.len_, Sem.run_bind]
        rw [show (#[t] : Array TypeId)[0]? = some t from rfl, show (#[Value.string ⟨s.toArray⟩] : Array Value)[0]? = some (.string ⟨s.toArray⟩) from rfl]
        simp only [Sem.run_bind, run_under ht, Result.andThen_ok, goInt, e]
        rfl
      · generalize ev Γ A x = p at h1 hx hne
        generalize a.eval x = v at h1 ⊢
        cases h1 <;> simp only [alen, Option.some.injEq, reduceCtorEq] at hx
        case str s _ => exact absurd rfl (hne s)
        case vec0 => simp [Builtin.len_, run_under ht, goInt, ← hx]
        case vec => simp [Builtin.len_, run_under ht, goInt, hx]
        case row => simp [Builtin.len_, run_under ht, goInt, hx]
    simp [execOp, ho, resolve, invoke, builtin, key]

/-- A text's part. -/
theorem os_sliceStr {t : TypeId} {x : Operand} {lo hi : Option Operand} {s : List UInt8} {l h : Nat} (ho : o.op = .slice t x lo hi none) (ht : P.underlying t = some .string) (hx : ev Γ A x = .str s)
    (hlo : onOpt lo (l = 0) fun z => ∃ k, ev Γ A z = .int k l) (hhi : onOpt hi (h = s.length) fun z => ∃ k, ev Γ A z = .int k h) (hlh : l ≤ h) (hh : h ≤ s.length)
    (hk : K (.str ((s.drop l).take (h - l))) H) : OStep P Γ o A H K :=
  ostep_pure (by simp [ho]) _ hk fun w0 G w N a hs ha => by
    have h1 := ha.ev hs.glob x
    rw [hx] at h1
    refine ⟨.string ((⟨s.toArray⟩ : ByteArray).extract l h), ?_, ?_⟩
    · have hb : (Instr.sliceBounds false s.length s.length (lo.map a.eval) (hi.map a.eval) none).run P w = .ok (l, h, s.length) w := by
        cases hi with
        | none =>
          simp only [onOpt] at hhi
          cases lo with
          | none => simp only [onOpt] at hlo; subst hlo; subst hhi; rfl
          | some z =>
            obtain ⟨k, hz⟩ := hlo
            have h2 := ha.ev hs.glob z
            rw [hz] at h2
            subst hhi
            have : (l : Int) ≤ s.length := by omega
            simp [Instr.sliceBounds, Instr.sliceBound, h2.int_inv, asIntOf, this, hlh]
        | some y =>
          obtain ⟨k', hy⟩ := hhi
          have h3 := ha.ev hs.glob y
          rw [hy] at h3
          cases lo with
          | none => simp only [onOpt] at hlo; simp [Instr.sliceBounds, Instr.sliceBound, hlo, h3.int_inv, asIntOf, hh]
          | some z =>
            obtain ⟨k, hz⟩ := hlo
            have h2 := ha.ev hs.glob z
            rw [hz] at h2
            simp [Instr.sliceBounds, Instr.sliceBound, h2.int_inv, h3.int_inv, asIntOf, hlh, hh]
      have hsize : (⟨s.toArray⟩ : ByteArray).size = s.length := by simp [ByteArray.size]
      have hr : (Instr.sliceAt t (a.eval x) (lo.map a.eval) (hi.map a.eval) none).run P w = .ok (.string ((⟨s.toArray⟩ : ByteArray).extract l h)) w := by
        rw [h1.str_inv]
        simp only [Instr.sliceAt, Sem.run_bind, run_under ht, Result.andThen_ok, Instr.slice, Option.isSome_none, Bool.false_eq_true, if_false, hsize, hb]
        rfl
      simp [execOp, ho, hr]
    · have : (⟨s.toArray⟩ : ByteArray).extract l h = ⟨((s.drop l).take (h - l)).toArray⟩ := by
        apply ByteArray.ext
        simp only [ByteArray.data_extract]
        apply Array.ext'
        simp [List.extract_eq_take_drop]
      rw [this]
      exact .str _ _ (by have := h1.str_len; simp; omega)

/-- Bounds at a slice. -/
theorem run_bounds {w : World} {a : Act} {len cap l h m : Nat} {lo hi mx : Option Operand}
    (hlo : onOpt lo (l = 0) fun z => ∃ k, a.eval z = .int k l) (hhi : onOpt hi (h = len) fun z => ∃ k, a.eval z = .int k h)
    (hmx : onOpt mx (m = cap) fun z => hi.isSome = true ∧ ∃ k, a.eval z = .int k m) (hlh : l ≤ h) (hhm : h ≤ m) (hm : m ≤ cap) :
    (Instr.sliceBounds true len cap (lo.map a.eval) (hi.map a.eval) (mx.map a.eval)).run P w = .ok (l, h, m) w := by
  cases mx with
  | none =>
    simp only [onOpt] at hmx
    subst hmx
    cases hi with
    | none =>
      simp only [onOpt] at hhi
      subst hhi
      cases lo with
      | none => simp only [onOpt] at hlo; simp [Instr.sliceBounds, hlo]
      | some z =>
        obtain ⟨k, hz⟩ := hlo
        simp [Instr.sliceBounds, Instr.sliceBound, hz, asIntOf, hlh]
    | some y =>
      obtain ⟨k', hy⟩ := hhi
      cases lo with
      | none => simp only [onOpt] at hlo; simp [Instr.sliceBounds, Instr.sliceBound, hlo, hy, asIntOf, hhm]
      | some z =>
        obtain ⟨k, hz⟩ := hlo
        simp [Instr.sliceBounds, Instr.sliceBound, hz, hy, asIntOf, hlh, hhm]
  | some q =>
    obtain ⟨hih, k'', hq⟩ := hmx
    cases hi with
    | none => simp at hih
    | some y =>
      obtain ⟨k', hy⟩ := hhi
      cases lo with
      | none => simp only [onOpt] at hlo; simp [Instr.sliceBounds, Instr.sliceBound, hlo, hy, hq, asIntOf, hhm, hm]
      | some z =>
        obtain ⟨k, hz⟩ := hlo
        simp [Instr.sliceBounds, Instr.sliceBound, hz, hy, hq, asIntOf, hlh, hhm, hm]

/-- A part of an immutable row. -/
theorem os_sliceVec {t : TypeId} {x : Operand} {lo hi mx : Option Operand} {es : List (List PV)} {f : Bool} {l h sz by' : Nat} (ho : o.op = .slice t x lo hi mx) (ht : elOf P t = some (sz, by')) (hx : ev Γ A x = .vec es f) (hsz : ∀ e ∈ es, e.length = sz)
    (hlo : onOpt lo (l = 0) fun z => ∃ k, ev Γ A z = .int k l) (hhi : onOpt hi (h = es.length) fun z => ∃ k, ev Γ A z = .int k h)
    (hmx : onOpt mx True fun z => hi.isSome = true ∧ ∃ k, ev Γ A z = .int k h) (hlh : l ≤ h) (hh : h ≤ es.length)
    (hk : K (.vec ((es.drop l).take (h - l)) mx.isSome) H) : OStep P Γ o A H K :=
  ostep_pure (by simp [ho]) _ hk fun w0 G w N a hs ha => by
    have h1 := ha.ev hs.glob x
    rw [hx] at h1
    obtain ⟨te, i, hu, hinf, rfl, _⟩ := elOf_spec ht
    have conv : ∀ (z : Operand) (k : IntKind) (n : Int), ev Γ A z = .int k n → a.eval z = .int k n := fun z k n hz => by
      have := ha.ev hs.glob z
      rw [hz] at this
      exact this.int_inv
    have hlo' : onOpt lo (l = 0) fun z => ∃ k, a.eval z = .int k l := by
      cases lo with
      | none => exact hlo
      | some z => obtain ⟨k, hz⟩ := hlo; exact ⟨k, conv z k _ hz⟩
    have hhi' : onOpt hi (h = es.length) fun z => ∃ k, a.eval z = .int k h := by
      cases hi with
      | none => exact hhi
      | some z => obtain ⟨k, hz⟩ := hhi; exact ⟨k, conv z k _ hz⟩
    have hb : ∀ cap, es.length ≤ cap → ∃ m, (Instr.sliceBounds true es.length cap (lo.map a.eval) (hi.map a.eval) (mx.map a.eval)).run P w = .ok (l, h, m) w ∧ h ≤ m ∧ m ≤ cap ∧ (mx.isSome = true → m = h) := fun cap hcap => by
      cases mx with
      | none => exact ⟨cap, run_bounds hlo' hhi' rfl hlh (by omega) (Nat.le_refl _), by omega, Nat.le_refl _, fun h => by simp at h⟩
      | some z =>
        obtain ⟨hih, k, hz⟩ := hmx
        exact ⟨h, run_bounds hlo' hhi' ⟨hih, k, conv z k _ hz⟩ hlh (Nat.le_refl _) (by omega), Nat.le_refl _, by omega, fun _ => rfl⟩
    generalize hax : a.eval x = v at h1
    have hrun : ∀ ad len cap l h m, v = .slice ad len cap → (Instr.sliceBounds true len cap (lo.map a.eval) (hi.map a.eval) (mx.map a.eval)).run P w = .ok (l, h, m) w →
        (execOp a.eval o).run P w = .ok (.value (.slice (if m = l then ad else ad.map (·.add (l * i.size))) (h - l) (m - l))) w := by
      intro ad len cap l h m e hb
      subst e
      simp [execOp, ho, Instr.sliceAt, Instr.slice, run_under hu, hax, hb, run_size hinf]
    cases h1 with
    | vec0 =>
      obtain ⟨m, h2, h3, h4, h5⟩ := hb 0 (by simp)
      have hm : m = 0 := by omega
      have hh0 : h = 0 := by omega
      have hl0 : l = 0 := by omega
      subst hm hh0 hl0
      exact ⟨_, hrun _ _ _ _ _ _ rfl h2, by simpa using Rep.vec0 _ _ _⟩
    | vec _ _ _ b q sz cap vs hn hc hf hss h1 h2 h3 =>
      obtain ⟨m, h2', h3', h4, h5⟩ := hb cap hc
      refine ⟨_, hrun _ _ _ _ _ _ rfl h2', ?_⟩
      have hlen : ((es.drop l).take (h - l)).length = h - l := by simp; omega
      by_cases hml : m = l
      · have hhl : h - l = 0 := by omega
        rw [if_pos hml, hhl, List.take_zero]
        have hm0 : m - l = 0 := by omega
        rw [hm0]
        exact .vec _ [] _ b q 0 0 (fun _ => undef) (Nat.zero_le _) (Nat.le_refl _) (fun _ => rfl) (fun e he => by cases he) (fun i j e c hi => by simp at hi) (fun i j e c hi => by simp at hi) (fun i j e c hi => by simp at hi)
      · rw [if_neg hml, Option.map_some, Fw.add_at]
        have hmem : ∀ e, e ∈ (es.drop l).take (h - l) → e ∈ es := fun e he => List.mem_of_mem_drop (List.mem_of_mem_take he)
        have hget : ∀ (i : Nat) e, ((es.drop l).take (h - l))[i]? = some e → es[l + i]? = some e := fun i e he => by
          rw [List.getElem?_take] at he
          split at he
          · rw [List.getElem?_drop] at he; exact he
          · cases he
        have hse : ∀ e, e ∈ (es.drop l).take (h - l) → sz = i.size := fun e he => by rw [← hss e (hmem e he)]; exact hsz e (hmem e he)
        have hadd : ∀ (k j : Nat) (e : List PV), ((es.drop l).take (h - l))[k]? = some e → l * i.size + (k * sz + j) = (l + k) * sz + j := fun k j e he => by
          have := hse e (List.mem_of_getElem? he)
          subst this
          rw [Nat.add_mul]; omega
        have := Rep.vec (G := G) H.length ((es.drop l).take (h - l)) mx.isSome b (q + l * i.size) sz (m - l) (fun j => vs (l * i.size + j)) (by rw [hlen]; omega) (by rw [hlen]; omega) (fun he => by rw [hlen, h5 he])
          (fun e he => hss e (hmem e he)) (fun k j e c hi hj => by rw [Nat.add_assoc, hadd k j e hi]; exact h1 _ j e c (hget k e hi) hj)
          (fun k j e c hi hj => by simp only [hadd k j e hi]; exact h2 _ j e c (hget k e hi) hj) (fun k j e c hi hj => by simp only [hadd k j e hi]; exact h3 _ j e c (hget k e hi) hj)
        rw [hlen] at this
        exact this

end
end Go.Proofs.YtinedfjknhahmaaDoor.Fw
