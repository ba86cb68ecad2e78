/- The framework, sixteenth part: maps of texts, and of numbers. -/
import Derived.Test.YtinedfjknhahmaaDoorFwO
import Derived.MapKept
namespace Go.Proofs.YtinedfjknhahmaaDoor.Fw
set_option linter.unusedVariables false
set_option linter.unusedSimpArgs false
open Go.RowKit Go.MapKept

def keyEq : PV → PV → Option Bool
  | .str a, .str b => some (decide (a = b))
  | .int k a, .int k' b => if k = k' then some (decide (a = b)) else none
  | _, _ => none

/-- The first entry of a key. -/
def mfind (k : PV) : List (PV × PV) → Nat → Option (Option (Nat × PV))
  | [], _ => some none
  | (p, q) :: es, i => match keyEq k p with
    | some true => some (some (i, q))
    | some false => mfind k es (i + 1)
    | none => none

/-- Keys that are texts, or numbers of one kind. -/
def keyKind : TypeDesc → PV → Bool
  | .string, .str _ => true
  | .int k, .int k' _ => decide (k' = k)
  | _, _ => false

theorem keyKind_spec {d : TypeDesc} {k : PV} {G : Ghost} {n : Nat} {v : Value} (h : keyKind d k = true) (hr : Rep G n k v) : IsKey d v := by
  cases d <;> cases k <;> simp [keyKind] at h
  · rw [hr.int_inv]; exact h
  · rw [hr.str_inv]; trivial

theorem keyEq_spec {d : TypeDesc} {k p : PV} {G : Ghost} {n : Nat} {v u : Value} {b : Bool} (hd : keyKind d k = true) (h : keyEq k p = some b) (hr : Rep G n k v) (hp : Rep G n p u) : Instr.sameNow d v u = some b := by
  cases k <;> cases p <;> simp only [keyEq] at h <;> first | (cases h; done) | skip
  · rename_i k a k' c
    split at h
    · rename_i e
      subst e
      cases h
      rw [hr.int_inv, hp.int_inv]
      cases d <;> simp [keyKind] at hd
      simp [Instr.sameNow, BEq.beq]
    · cases h
  · rename_i a c
    cases h
    rw [hr.str_inv, hp.str_inv]
    cases d <;> simp [keyKind] at hd
    simp only [Instr.sameNow, Option.some.injEq]
    rw [Bool.eq_iff_iff]
    rw [bytes_beq]
    simp

theorem keyEq_same {d : TypeDesc} {k p : PV} {G : Ghost} {n : Nat} {v u : Value} (hd : keyKind d k = true) (h : keyEq k p = some true) (hr : Rep G n k v) (hp : Rep G n p u) : u = v := by
  cases k <;> cases p <;> simp only [keyEq] at h <;> first | (cases h; done) | skip
  · split at h
    · rename_i e
      subst e
      simp only [Option.some.injEq, decide_eq_true_eq] at h
      subst h
      rw [hr.int_inv, hp.int_inv]
    · cases h
  · simp only [Option.some.injEq, decide_eq_true_eq] at h
    subst h
    rw [hr.str_inv, hp.str_inv]

theorem mfind_spec {d : TypeDesc} {k : PV} {G : Ghost} {n : Nat} {v : Value} (hd : keyKind d k = true) (hr : Rep G n k v) : ∀ (es : List (PV × PV)) (E : List MapEntry) (i : Nat) (r : Option (Nat × PV)),
    E.length = es.length → (∀ (j : Nat) p q x, es[j]? = some (p, q) → E[j]? = some x → Rep G n p x.key ∧ Rep G n q x.val) → mfind k es i = some r →
    ∃ r', Instr.findNow d v E i = some r' ∧ match r with | none => r' = none | some (j, q) => ∃ u, r' = some (j, u) ∧ Rep G n q u ∧ i ≤ j ∧ j < i + es.length ∧ ∃ x, E[j - i]? = some x ∧ x.key = v
  | [], [], i, r, _, _, h => by
    simp only [mfind, Option.some.injEq] at h
    subst h
    exact ⟨none, rfl, rfl⟩
  | (p, q) :: es, x :: E, i, r, hl, hE, h => by
    obtain ⟨h1, h2⟩ := hE 0 p q x rfl rfl
    simp only [mfind] at h
    simp only [Instr.findNow]
    split at h
    · rename_i he
      rw [keyEq_spec hd he hr h1]
      cases h
      exact ⟨_, rfl, _, rfl, h2, Nat.le_refl _, by simp, x, by simp, keyEq_same hd he hr h1⟩
    · rename_i he
      rw [keyEq_spec hd he hr h1]
      obtain ⟨r', h3, h4⟩ := mfind_spec hd hr es E (i + 1) r (by simpa using hl) (fun j p q x h1 h2 => hE (j + 1) p q x (by simpa using h1) (by simpa using h2)) h
      refine ⟨r', h3, ?_⟩
      cases r with
      | none => exact h4
      | some jq =>
        obtain ⟨j, q'⟩ := jq
        obtain ⟨u, e1, e2, e3, e4, y, e5, e6⟩ := h4
        refine ⟨u, e1, e2, by omega, by simp only [List.length_cons]; omega, y, ?_, e6⟩
        rw [show j - i = (j - (i + 1)) + 1 by omega]; exact e5
    · cases h
  | [], _ :: _, _, _, hl, _, _ => by simp at hl
  | _ :: _, [], _, _, hl, _, _ => by simp at hl

def gotOr (r : Option (Nat × PV)) (z : PV) : PV :=
  match r with
  | some (_, q) => q
  | none => z

def mput (es : List (PV × PV)) (k q : PV) (r : Option (Nat × PV)) : List (PV × PV) :=
  match r with
  | some (j, _) => es.set j (k, q)
  | none => es ++ [(k, q)]

/-- The value that stands where nothing was found. -/
def zeroOf (P : Program) (t : TypeId) : Option PV :=
  match (P.info? t).bind (·.zero) with
  | some (.agg cs) => some (.agg (cs.toList.map ofC))
  | some z => some (ofC z)
  | none => none

theorem zeroOf_spec {P : Program} {t : TypeId} {p : PV} (h : zeroOf P t = some p) (G : Ghost) (n : Nat) (h1 : ∀ i z cs, P.info? t = some i → i.zero = some z → z = .agg cs → ∀ (j : Nat) u, cs[j]? = some u → u.oneCell' = true) :
    ∃ z, (∀ w, (zeroValue t).run P w = .ok z w) ∧ Rep G n p z := by
  unfold zeroOf at h
  cases hi : P.info? t with
  | none => rw [hi] at h; cases h
  | some i =>
    rw [hi] at h
    cases hz : i.zero with
    | none => simp [hz] at h
    | some z =>
      refine ⟨z, fun w => run_zero hi hz w, ?_⟩
      simp only [Option.bind_some, hz] at h
      cases z with
      | agg cs =>
        simp only [Option.some.injEq] at h
        subst h
        refine .agg _ _ _ (by simp) (fun j c v hc hv => ?_) (h1 i _ cs hi hz rfl)
        simp only [List.getElem?_map, Array.getElem?_toList, hv, Option.map_some, Option.some.injEq] at hc
        subst hc
        exact ofC_rep G n v
      | _ => simp only [Option.some.injEq] at h; subst h; exact ofC_rep G n _

section
variable {P : Program} {Γ : Nat → PV} {o : Oper} {A : List (Nat × PV)} {H : List Blk} {K : PV → List Blk → Prop}

theorem os_makeMap {t : TypeId} (ho : o.op = .makeMap t none) (hk : K (.map H.length) (H ++ [.map []])) : OStep P Γ o A H K :=
  ostep_value (by simp [ho]) fun w0 G w N a hs ha => by
    let i : Info := { blk := w.heap.size, len := 0, size := 0, sub := 0, isRow := false }
    have hp := hs.push i (.map []) (w.alloc (.map #[] 0)) (hs.below.alloc hs.size _) (by simp) (fun k hk => Below.heap_alloc _ _ _ hk)
      ⟨rfl, #[], 0, by show (w.heap.push _)[w.heap.size]? = _; simp, rfl, fun j p q x h => by simp at h, fun j x h => by simp at h, fun j k x y h => by simp at h⟩ (fun _ => ⟨Nat.le_refl _, by simp [i]⟩)
    have hr := Rep.map (G := G.setInfo H.length i) (H ++ [Blk.map []]).length H.length (by simp) (by rw [G.setInfo_same])
    rw [G.setInfo_same] at hr
    exact ⟨_, _, _, _, _, by simp [execOp, ho, Instr.makeMap, newObj, Sem.run]; rfl, hp.1, hr, hp.2, by simp, hk⟩

theorem Sim.map_at {w0 w : World} {G : Ghost} {b : Nat} {es : List (PV × PV)} (h : Sim Γ w0 G H w) (hb : H[b]? = some (.map es)) : (G.info b).isRow = false ∧ ∃ E clock, w.heap[(G.info b).blk]? = some (.map E clock) ∧ E.size = es.length ∧ (∀ (j : Nat) p q x, es[j]? = some (p, q) → E[j]? = some x → Rep G H.length p x.key ∧ Rep G H.length q x.val) ∧
      (∀ (j : Nat) x, E[j]? = some x → x.born < clock) ∧ (∀ (j k : Nat) x y, E[j]? = some x → E[k]? = some y → x.born = y.born → j = k) := h.blk b _ hb

theorem Rep.map_inv {G : Ghost} {n b : Nat} {v : Value} (h : Rep G n (.map b) v) : v = .map (some (G.info b).blk) := by cases h; rfl

theorem Rep.nilm_inv {G : Ghost} {n : Nat} {v : Value} (h : Rep G n .nilm v) : v = .map none := by cases h; rfl

theorem os_lookup {t kt et : TypeId} {x i : Operand} {ok : Bool} {d : TypeDesc} {b : Nat} {es : List (PV × PV)} {r : Option (Nat × PV)} {z : PV} (ho : o.op = .lookup t x i ok) (ht : P.underlying t = some (.map kt et)) (hkt : P.underlying kt = some d)
    (hkk : keyKind d (ev Γ A i) = true) (hx : ev Γ A x = .map b) (hb : H[b]? = some (.map es)) (hf : mfind (ev Γ A i) es 0 = some r) (hz : r = none → zeroOf P et = some z ∧ ∀ i z cs, P.info? et = some i → i.zero = some z → z = .agg cs → ∀ (j : Nat) u, cs[j]? = some u → u.oneCell' = true)
    (hk : K (if ok = true then .tup [gotOr r z, .bool r.isSome] else gotOr r z) H) : OStep P Γ o A H K :=
  ostep_pure (by simp [ho]) _ hk fun w0 G w N a hs ha => by
    have hm := ha.ev hs.glob x
    rw [hx] at hm
    have hm := hm.map_inv
    obtain ⟨h0, E, clock, h1, h2, h3, _, _⟩ := hs.map_at hb
    have hkr := ha.ev hs.glob i
    obtain ⟨r', h4, h5⟩ := mfind_spec hkk hkr es E.toList 0 r (by simpa using h2) (fun j p q x e1 e2 => h3 j p q x e1 (by simpa using e2)) hf
    have hck := run_checkKey (P := P) (w := w) hkt (keyKind_spec hkk hkr)
    have hfk := run_findKey (P := P) (w := w) hkt h4
    have key : ∃ v bb, (match r' with | some (_, v) => (pure (v, true) : Sem (Value × Bool)) | none => do pure (← zeroValue et, false)).run P w = .ok (v, bb) w ∧ bb = r.isSome ∧ Rep G H.length (gotOr r z) v := by
      cases r with
      | none =>
        simp only at h5
        subst h5
        obtain ⟨z', e1, e2⟩ := zeroOf_spec (hz rfl).1 G H.length (hz rfl).2
        exact ⟨z', false, by simp [e1 w], rfl, e2⟩
      | some jq =>
        obtain ⟨j, q⟩ := jq
        obtain ⟨u, rfl, e2, _⟩ := h5
        exact ⟨u, true, by simp, rfl, e2⟩
    obtain ⟨v, bb, h6, h7, h8⟩ := key
    have hrun : (Instr.lookup t (a.eval x) (a.eval i) ok).run P w = .ok (if ok then .tuple #[v, .bool bb] else v) w := by
      unfold Instr.lookup
      simp only [Sem.run_bind, run_under ht, Result.andThen, hm, MapKept.run_getObj_map h1, Sem.run_pure, hck, hfk]
      cases r with
      | none =>
        simp only at h5
        subst h5
        simp only [Sem.run_bind, Result.andThen, Sem.run_pure] at h6 ⊢
        generalize (zeroValue et).run P w = q at h6 ⊢
        cases q with
        | ok x w' => simp only [Result.ok.injEq, Prod.mk.injEq] at h6 ⊢; obtain ⟨⟨rfl, rfl⟩, rfl⟩ := h6; exact ⟨rfl, rfl⟩
        | halt x w' => cases h6
      | some jq =>
        obtain ⟨u, rfl, _⟩ := h5
        simp only [Sem.run_pure, Result.ok.injEq, Prod.mk.injEq] at h6 ⊢
        obtain ⟨⟨rfl, rfl⟩, _⟩ := h6
        rfl
    refine ⟨if ok then .tuple #[v, .bool bb] else v, by simp only [execOp, ho]; simp [hrun], ?_⟩
    cases ok with
    | false => exact h8
    | true =>
      simp only [if_true]
      refine .tup _ _ _ rfl fun j c u hc hu => ?_
      match j with
      | 0 => cases hc; cases hu; exact h8
      | 1 => cases hc; cases hu; rw [h7]; exact .bool _ _
      | j + 2 => simp at hc

theorem os_mapUpdate {t kt et : TypeId} {x i y : Operand} {d : TypeDesc} {b : Nat} {es : List (PV × PV)} {r : Option (Nat × PV)} (ho : o.op = .mapUpdate t x i y ∨ o.op = .insert t x i y) (ht : P.underlying t = some (.map kt et)) (hkt : P.underlying kt = some d)
    (hkk : keyKind d (ev Γ A i) = true) (hx : ev Γ A x = .map b) (hb : H[b]? = some (.map es)) (hf : mfind (ev Γ A i) es 0 = some r)
    (hk : K .any (H.set b (.map (mput es (ev Γ A i) (ev Γ A y) r)))) : OStep P Γ o A H K :=
  ostep_skip (by rcases ho with ho | ho <;> simp [ho]) fun w0 G w N a hs ha => by
    have hm := ha.ev hs.glob x
    rw [hx] at hm
    have hm := hm.map_inv
    obtain ⟨h0, E, clock, h1, h2, h3, h4, h5⟩ := hs.map_at hb
    have hkr := ha.ev hs.glob i
    have hyr := ha.ev hs.glob y
    obtain ⟨r', h6, h7⟩ := mfind_spec hkk hkr es E.toList 0 r (by simpa using h2) (fun j p q x e1 e2 => h3 j p q x e1 (by simpa using e2)) hf
    have hck := run_checkKey (P := P) (w := w) hkt (keyKind_spec hkk hkr)
    have hfk := run_findKey (P := P) (w := w) hkt h6
    have hexec : ∀ w', (Instr.mapUpdate t (a.eval x) (a.eval i) (a.eval y)).run P w = .ok () w' → (execOp a.eval o).run P w = .ok .skip w' := fun w' h => by
      rcases ho with ho | ho <;> simp [execOp, ho, h]
    have fin : ∀ (E' : Array MapEntry) (clock' : Nat) (es' : List (PV × PV)), E'.size = es'.length → (∀ (j : Nat) p q x, es'[j]? = some (p, q) → E'[j]? = some x → Rep G H.length p x.key ∧ Rep G H.length q x.val) →
        (∀ (j : Nat) x, E'[j]? = some x → x.born < clock') → (∀ (j k : Nat) x y, E'[j]? = some x → E'[k]? = some y → x.born = y.born → j = k) →
        Sim Γ w0 G (H.set b (.map es')) { w with heap := w.heap.setIfInBounds (G.info b).blk (.map E' clock') } := fun E' clock' es' e1 e2 e3 e4 => by
      refine hs.setSame hb rfl (fun k hk => by simp [Array.getElem?_setIfInBounds, Ne.symm hk]) (by simp) ⟨rfl, rfl, rfl⟩ ⟨h0, E', clock', ?_, e1, e2, e3, e4⟩
      have := (Array.getElem?_eq_some_iff.1 h1).1
      simp [Array.getElem?_setIfInBounds, this]
    cases r with
    | none =>
      simp only at h7 hk
      subst h7
      refine ⟨_, G, _, hexec _ (by simp [Instr.mapUpdate, run_under ht, Result.andThen, hm, MapKept.run_getObj_map h1, hck, hfk, MapKept.run_setObj_map _ h1]; rfl), fin _ _ (es ++ [(ev Γ A i, ev Γ A y)]) (by simp [h2]) (fun j p q x e1 e2 => ?_) (fun j x e => ?_) (fun j k x y e1 e2 he => ?_), Evol.refl _ _, by simp, hk⟩
      · by_cases hj : j < es.length
        · rw [List.getElem?_append_left hj] at e1
          rw [Array.getElem?_push_lt (by omega)] at e2
          exact h3 j p q x e1 (by rw [Array.getElem?_eq_getElem (by omega)]; exact e2)
        · have hj' : j = es.length := by
            have := (List.getElem?_eq_some_iff.1 e1).1
            simp at this; omega
          subst hj'
          simp at e1
          rw [← h2] at e2
          simp at e2
          obtain ⟨rfl, rfl⟩ := e1
          subst e2
          exact ⟨hkr, hyr⟩
      · rw [Array.getElem?_push] at e
        split at e
        · cases e; exact Nat.lt_succ_self _
        · exact Nat.lt_succ_of_lt (h4 j x e)
      · rw [Array.getElem?_push] at e1 e2
        split at e1 <;> split at e2
        · omega
        · cases e1; have := h4 k y e2; simp at he; omega
        · cases e2; have := h4 j x e1; simp at he; omega
        · exact h5 j k x y e1 e2 he
    | some jq =>
      obtain ⟨j0, q0⟩ := jq
      obtain ⟨u, e1, e2, e3, e4, y0, e5, e6⟩ := h7
      subst e1
      have hj0 : j0 < E.size := by omega
      have hE0 : E[j0]? = some y0 := by simpa using e5
      have hstay : ∀ ww, (Instr.keyThatStays (((E[j0]?).map (·.key)).getD (a.eval i)) (a.eval i)).run P ww = .ok (a.eval i) ww := fun ww => by
        rw [hE0]
        simp only [Option.map_some, Option.getD_some, e6]
        exact run_keyThatStays (keyKind_spec hkk hkr)
      have hget : ∀ j x, (E.modify j0 fun e => { e with key := a.eval i, val := a.eval y })[j]? = some x → ∃ x0, E[j]? = some x0 ∧ x = (if j0 = j then { x0 with key := a.eval i, val := a.eval y } else x0) := fun j x h => by
        rw [Array.getElem?_modify] at h
        split at h
        · rename_i hj
          obtain ⟨x0, h1, h2⟩ := Option.map_eq_some_iff.1 h
          exact ⟨x0, h1, by rw [if_pos hj]; exact h2.symm⟩
        · rename_i hj
          exact ⟨x, h, by rw [if_neg hj]⟩
      have hbn : ∀ (j : Nat) (x x0 : MapEntry), x = (if j0 = j then { x0 with key := a.eval i, val := a.eval y } else x0) → x.born = x0.born := fun j x x0 h => by
        subst h; split <;> rfl
      refine ⟨_, G, _, hexec _ (by simp [Instr.mapUpdate, run_under ht, Result.andThen, hm, MapKept.run_getObj_map h1, hck, hfk, hstay, MapKept.run_setObj_map _ h1]; rfl), fin _ clock (es.set j0 (ev Γ A i, ev Γ A y)) (by simp [h2]) (fun j p q x e1 e2 => ?_) (fun j x e => ?_) (fun j k x y e1 e2 he => ?_), Evol.refl _ _, by simp, hk⟩
      · obtain ⟨x0, k1, k2⟩ := hget j x e2
        by_cases hj : j0 = j
        · subst hj
          rw [List.getElem?_set_self (by omega)] at e1
          cases e1
          rw [k2, if_pos rfl]
          exact ⟨hkr, hyr⟩
        · rw [List.getElem?_set_ne hj] at e1
          rw [k2, if_neg hj]
          exact h3 j p q x0 e1 k1
      · obtain ⟨x0, k1, k2⟩ := hget j x e
        rw [hbn j x x0 k2]; exact h4 j x0 k1
      · obtain ⟨x0, k1, k2⟩ := hget j x e1
        obtain ⟨y1, k3, k4⟩ := hget k y e2
        rw [hbn j x x0 k2, hbn k y y1 k4] at he
        exact h5 j k x0 y1 k1 k3 he

end
end Go.Proofs.YtinedfjknhahmaaDoor.Fw
