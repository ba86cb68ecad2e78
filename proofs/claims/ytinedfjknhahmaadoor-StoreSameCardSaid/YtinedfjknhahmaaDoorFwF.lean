/- The framework, sixth part: comparisons with nil, conversions, structs by value, interfaces, closures, rows made whole. -/
import Derived.Test.YtinedfjknhahmaaDoorFwE
namespace Go.Proofs.YtinedfjknhahmaaDoor.Fw
set_option linter.unusedVariables false
set_option linter.unusedSimpArgs false
open Go.RowKit

theorem equal_of {P : Program} {t : TypeId} {x y : Value} {b : Bool} {w : World} (h : ∀ d, (Op.equalIn (d + 1) t x y).run P w = .ok b w) : (Op.equal t x y).run P w = .ok b w := h 9999

section
variable {P : Program} {Γ : Nat → PV} {o : Oper} {A : List (Nat × PV)} {H : List Blk} {K : PV → List Blk → Prop}

/-- '==' or '!=' -/
def eqv (op : BinOp) (b : Bool) : Option PV :=
  match op with
  | .eql => some (.bool b)
  | .neq => some (.bool !b)
  | _ => none

theorem eq_run {op : BinOp} {t : TypeId} {x y : Operand} {u v : Value} {b : Bool} {r : PV} {w : World} (hg : (eqGuard op t x y u v).run P w = .ok () w) (hb : ∀ op, op = .eql ∨ op = .neq → binOp op t u v = (match op with
      | .eql => (do pure (.bool (← Op.equal t u v)) : Sem Value) | _ => (do pure (.bool (!(← Op.equal t u v))) : Sem Value)))
    (he : (Op.equal t u v).run P w = .ok b w) (hr : eqv op b = some r) (G : Ghost) (n : Nat) : ∃ z, (do eqGuard op t x y u v; binOp op t u v : Sem Value).run P w = .ok z w ∧ Rep G n r z := by
  unfold eqv at hr
  split at hr
  · obtain rfl := Option.some.inj hr
    exact ⟨.bool b, by rw [Sem.run_bind, hg, hb _ (.inl rfl)]; simp [he], .bool _ _⟩
  · obtain rfl := Option.some.inj hr
    exact ⟨.bool !b, by rw [Sem.run_bind, hg, hb _ (.inr rfl)]; simp [he], .bool _ _⟩
  · cases hr

theorem os_eqb {op : BinOp} {t ty : TypeId} {x y : Operand} {b c : Bool} {p : PV} (ho : o.op = .binOp op t x y ty) (ht : P.underlying t = some .bool) (hx : ev Γ A x = .bool b) (hy : ev Γ A y = .bool c)
    (h : eqv op (b == c) = some p) (hk : K p H) : OStep P Γ o A H K :=
  ostep_pure (by simp [ho]) _ hk fun w0 G w N a hs ha => by
    have h1 := ha.ev hs.glob x
    have h2 := ha.ev hs.glob y
    rw [hx] at h1; rw [hy] at h2
    have e1 := h1.bool_inv
    have e2 := h2.bool_inv
    obtain ⟨z, hz, hr⟩ := eq_run (P := P) (op := op) (t := t) (x := x) (y := y) (u := .bool b) (v := .bool c) (w := w) (b := b == c) (by cases op <;> simp [eqGuard]) (fun op ho => by rcases ho with rfl | rfl <;> simp [binOp])
      (equal_of fun d => by simp [Op.equalIn, run_under ht]) h G H.length
    refine ⟨z, ?_, hr⟩
    simp only [execOp, ho, Sem.run_bind, e1, e2] at hz ⊢
    rw [hz]; rfl

/-- Is it nil? A pointer, a map, a function, an interface value. -/
def isNil : TypeDesc → PV → Option Bool
  | .pointer _, .nilp => some true
  | .pointer _, .ptr _ _ => some false
  | .pointer _, .cptr _ => some false
  | .pointer _, .eptr _ _ _ => some false
  | .map _ _, .nilm => some true
  | .map _ _, .map _ => some false
  | .func _ _ _, .nilf => some true
  | .func _ _ _, .func _ _ _ => some false
  | .interface _, .nili => some true
  | .interface _, .iface _ _ => some false
  | .slice _, .vec (_ :: _) _ => some false
  | _, _ => none

def nilC : TypeDesc → Value
  | .pointer _ => .pointer none
  | .map _ _ => .map none
  | .func _ _ _ => .nilFunc
  | .slice _ => .slice none 0 0
  | _ => .nilIface

theorem os_nil {op : BinOp} {t ty : TypeId} {x : Operand} {d : TypeDesc} {c : Value} {b : Bool} {p : PV} (ho : o.op = .binOp op t x (.const c) ty) (ht : P.underlying t = some d) (hc : c = nilC d) (hx : isNil d (ev Γ A x) = some b)
    (h : eqv op b = some p) (hk : K p H) : OStep P Γ o A H K :=
  ostep_pure (by simp [ho]) _ hk fun w0 G w N a hs ha => by
    have h1 := ha.ev hs.glob x
    subst hc
    have key : ∃ z, (do eqGuard op t x (.const (nilC d)) (a.eval x) (nilC d); binOp op t (a.eval x) (nilC d) : Sem Value).run P w = .ok z w ∧ Rep G H.length p z := by
      generalize a.eval x = u at h1 ⊢
      generalize ev Γ A x = q at h1 hx
      unfold isNil at hx
      split at hx <;> first
        | (obtain rfl := Option.some.inj hx
           cases h1
           all_goals
             refine eq_run ?_ (fun op ho => by rcases ho with rfl | rfl <;> simp [binOp, nilC]) ?_ h G H.length
             · cases op <;> simp [eqGuard, nilC]
             · exact equal_of fun d => by simp [Op.equalIn, run_under ht, nilC])
        | cases hx
    obtain ⟨z, hz, hr⟩ := key
    refine ⟨z, ?_, hr⟩
    simp only [execOp, ho, Sem.run_bind] at hz ⊢
    have : a.eval (.const (nilC d)) = nilC d := rfl
    rw [this, hz]; rfl

/-- An empty slice may be nil, or not. -/
theorem os_nilSlice {op : BinOp} {t ty e : TypeId} {x : Operand} {f : Bool} {es : List (List PV)} (ho : o.op = .binOp op t x (.const (.slice none 0 0)) ty) (ht : P.underlying t = some (.slice e)) (hx : ev Γ A x = .vec es f)
    (hop : op = .eql ∨ op = .neq) (hk : ∀ b p, (es ≠ [] → b = false) → eqv op b = some p → K p H) : OStep P Γ o A H K :=
  ostep_value (by simp [ho]) fun w0 G w N a hs ha => by
    have h1 := ha.ev hs.glob x
    rw [hx] at h1
    have key : ∃ b, (es ≠ [] → b = false) ∧ (Op.equal t (a.eval x) (.slice none 0 0)).run P w = .ok b w ∧ (eqGuard op t x (.const (.slice none 0 0)) (a.eval x) (.slice none 0 0)).run P w = .ok () w ∧
        (∀ op, op = .eql ∨ op = .neq → binOp op t (a.eval x) (.slice none 0 0) = (match op with
          | .eql => (do pure (.bool (← Op.equal t (a.eval x) (.slice none 0 0))) : Sem Value) | _ => (do pure (.bool (!(← Op.equal t (a.eval x) (.slice none 0 0)))) : Sem Value))) := by
      generalize a.eval x = u at h1 ⊢
      cases h1 with
      | vec0 _ _ ad =>
        cases ad with
        | none => exact ⟨true, fun h => absurd rfl h, equal_of (fun d => by simp [Op.equalIn, run_under ht]), by cases op <;> simp [eqGuard], fun op ho => by rcases ho with rfl | rfl <;> simp [binOp]⟩
        | some ad => exact ⟨false, fun h => absurd rfl h, equal_of (fun d => by simp [Op.equalIn, run_under ht]), by cases op <;> simp [eqGuard], fun op ho => by rcases ho with rfl | rfl <;> simp [binOp]⟩
      | vec _ _ _ b q sz cap vs _ _ _ _ _ _ => exact ⟨false, fun _ => rfl, equal_of (fun d => by simp [Op.equalIn, run_under ht]), by cases op <;> simp [eqGuard], fun op ho => by rcases ho with rfl | rfl <;> simp [binOp]⟩
    obtain ⟨b, hb, he, hg, hop'⟩ := key
    obtain ⟨p, hp⟩ : ∃ p, eqv op b = some p := by rcases hop with rfl | rfl <;> exact ⟨_, rfl⟩
    obtain ⟨z, hz, hr⟩ := eq_run hg hop' he hp G H.length
    refine ⟨z, w, G, p, H, ?_, hs, hr, Evol.refl _ _, Nat.le_refl _, hk b p hb hp⟩
    simp only [execOp, ho, Sem.run_bind] at hz ⊢
    have : a.eval (.const (.slice none 0 0)) = .slice none 0 0 := rfl
    rw [this, hz]; rfl

theorem os_not {t : TypeId} {x : Operand} {b : Bool} (ho : o.op = .unOp .not t x) (hx : ev Γ A x = .bool b) (hk : K (.bool !b) H) : OStep P Γ o A H K :=
  ostep_pure (by simp [ho]) _ hk fun w0 G w N a hs ha => by
    have h1 := ha.ev hs.glob x
    rw [hx] at h1
    exact ⟨_, by simp [execOp, ho, h1.bool_inv, Op.unary], .bool _ _⟩

theorem os_neg {t : TypeId} {x : Operand} {k : IntKind} {n : Int} (ho : o.op = .unOp .neg t x) (hx : ev Γ A x = .int k n) (hk : K (.int k (k.wrap (0 - n))) H) : OStep P Γ o A H K :=
  ostep_pure (by simp [ho]) _ hk fun w0 G w N a hs ha => by
    have h1 := ha.ev hs.glob x
    rw [hx] at h1
    refine ⟨.int k (k.wrap (0 - n)), ?_, .int _ _ _⟩
    simp only [execOp, ho, h1.int_inv, Op.unary, Op.intArith]
    rfl

/-- ^x, which is -1 - x. -/
theorem os_cpl {t : TypeId} {x : Operand} {k : IntKind} {n : Int} (ho : o.op = .unOp .xor t x) (hx : ev Γ A x = .int k n)
    (hk : K (.int k (k.wrap (BitVec.ofInt k.bits (if k.signed then -1 else k.max) ^^^ BitVec.ofInt k.bits n).toNat)) H) : OStep P Γ o A H K :=
  ostep_pure (by simp [ho]) _ hk fun w0 G w N a hs ha => by
    have h1 := ha.ev hs.glob x
    rw [hx] at h1
    refine ⟨_, ?_, .int _ _ _⟩
    simp only [execOp, ho, h1.int_inv, Op.unary, Op.intBits]
    rfl

/-- From one integer type to another one. -/
theorem os_conv {src dst : TypeId} {x : Operand} {d : TypeDesc} {k k' : IntKind} {n : Int} (ho : o.op = .convert src dst x) (hs' : P.underlying src = some d) (hd : P.underlying dst = some (.int k')) (hx : ev Γ A x = .int k n)
    (hk : K (.int k' (k'.wrap n)) H) : OStep P Γ o A H K :=
  ostep_pure (by simp [ho]) _ hk fun w0 G w N a hs ha => by
    have h1 := ha.ev hs.glob x
    rw [hx] at h1
    exact ⟨_, by simp [execOp, ho, h1.int_inv, convert, run_under hs', run_under hd, Conv.intToInt], .int _ _ _⟩

/-- From one text type to another one. -/
theorem os_convStr {src dst : TypeId} {x : Operand} {d : TypeDesc} {s : List UInt8} (ho : o.op = .convert src dst x) (hs' : P.underlying src = some d) (hd : P.underlying dst = some .string) (hx : ev Γ A x = .str s)
    (hk : K (.str s) H) : OStep P Γ o A H K :=
  ostep_pure (by simp [ho]) _ hk fun w0 G w N a hs ha => by
    have h1 := ha.ev hs.glob x
    rw [hx] at h1
    exact ⟨_, by simp [execOp, ho, h1.str_inv, convert, run_under hs', run_under hd], .str _ _ h1.str_len⟩

theorem os_iface {t : TypeId} {x : Operand} {d : TypeDesc} (ho : o.op = .makeInterface t x) (ht : P.underlying t = some d) (hd : ∀ ms, d ≠ .interface ms) (hk : K (.iface t (ev Γ A x)) H) : OStep P Γ o A H K :=
  ostep_pure (by simp [ho]) _ hk fun w0 G w N a hs ha => by
    refine ⟨.iface t (a.eval x), ?_, .iface _ _ _ _ (ha.ev hs.glob x)⟩
    have h : (Instr.makeInterface t (a.eval x)).run P w = .ok (.iface t (a.eval x)) w := by
      simp only [Instr.makeInterface, Sem.run_bind, run_under ht, Result.andThen_ok]
      cases d <;> first | rfl | (rename_i ms; exact absurd rfl (hd ms))
    simp [execOp, ho, h]

/-- x.(T), T no interface type. -/
theorem os_assert {t ty : TypeId} {x : Operand} {d : TypeDesc} {u : TypeId} {p : PV} (ho : o.op = .typeAssert x ty t true) (ht : P.underlying t = some d) (hd : ∀ ms, d ≠ .interface ms) (hx : ev Γ A x = .iface u p) (hu : u = t)
    (hk : K (.tup [p, .bool true]) H) : OStep P Γ o A H K :=
  ostep_pure (by simp [ho]) _ hk fun w0 G w N a hs ha => by
    have h1 := ha.ev hs.glob x
    rw [hx] at h1
    subst hu
    generalize hax : a.eval x = v at h1
    cases h1 with
    | iface _ _ _ v h =>
      refine ⟨.tuple #[v, .bool true], ?_, .tup _ _ _ rfl (fun i c u hc hu => ?_)⟩
      · have hh : (Instr.typeAssert (.iface u v) ty u true).run P w = .ok (.tuple #[v, .bool true]) w := by
          simp only [Instr.typeAssert, Sem.run_bind, run_under ht, Result.andThen_ok]
          cases d <;> first | (simp; done) | (rename_i ms; exact absurd rfl (hd ms))
        simp [execOp, ho, hax, hh]
      · match i with
        | 0 => simp at hc hu; subst hc hu; exact h
        | 1 => simp at hc hu; subst hc hu; exact .bool _ _
        | i + 2 => simp at hc

/-- x.(T), where it is another type's; T no interface type. -/
theorem os_assertNot {t ty : TypeId} {x : Operand} {d : TypeDesc} {u : TypeId} {p : PV} {ti : TI} (ho : o.op = .typeAssert x ty t true) (ht : P.underlying t = some d) (hd : ∀ ms, d ≠ .interface ms) (hti : tiOf P t = some ti) (hx : ev Γ A x = .iface u p) (hu : u ≠ t)
    (hk : K (.tup [.any, .bool false]) H) : OStep P Γ o A H K :=
  ostep_pure (by simp [ho]) _ hk fun w0 G w N a hs ha => by
    obtain ⟨i, d', z, hi, hd', hz, _⟩ := tiOf_spec hti
    have h1 := ha.ev hs.glob x
    rw [hx] at h1
    generalize hax : a.eval x = v at h1
    cases h1 with
    | iface _ _ _ v h =>
      refine ⟨.tuple #[z, .bool false], ?_, .tup _ _ _ rfl (fun i c u hc hu => ?_)⟩
      · have hh : (Instr.typeAssert (.iface u v) ty t true).run P w = .ok (.tuple #[z, .bool false]) w := by
          simp only [Instr.typeAssert, Sem.run_bind, run_under ht, Result.andThen_ok]
          cases d <;> first | (simp [hu, run_zero hi hz]; done) | (rename_i ms; exact absurd rfl (hd ms))
        simp [execOp, ho, hax, hh]
      · match i with
        | 0 => simp at hc hu; subst hc hu; exact .any _ _
        | 1 => simp at hc hu; subst hc hu; exact .bool _ _
        | i + 2 => simp at hc

theorem os_extract {x : Operand} {i : Nat} {ps : List PV} {p : PV} (ho : o.op = .extract x i) (hx : ev Γ A x = .tup ps) (hp : ps[i]? = some p) (hk : K p H) : OStep P Γ o A H K :=
  ostep_pure (by simp [ho]) _ hk fun w0 G w N a hs ha => by
    have h1 := ha.ev hs.glob x
    rw [hx] at h1
    generalize hax : a.eval x = v at h1
    cases h1 with
    | tup _ _ vs hl h =>
      have hlt := (List.getElem?_eq_some_iff.1 hp).1
      have hv : vs[i]? = some (vs[i]'(by omega)) := Array.getElem?_eq_getElem (by omega)
      exact ⟨_, by simp [execOp, ho, hax, Instr.extract, hv], h i p _ hp hv⟩

theorem map_ev {G : Ghost} {w0 w : World} {N : Nat} {a : Act} (hs : Sim Γ w0 G H w) (ha : ASim G H.length N A a) (xs : Array Operand) :
    (xs.toList.map (ev Γ A)).length = (xs.map a.eval).size ∧ ∀ (i : Nat) c v, (xs.toList.map (ev Γ A))[i]? = some c → (xs.map a.eval)[i]? = some v → Rep G H.length c v := by
  refine ⟨by simp, fun i c v hc hv => ?_⟩
  rw [List.getElem?_map, Array.getElem?_toList] at hc
  rw [Array.getElem?_map] at hv
  cases hx : xs[i]? with
  | none => rw [hx] at hc; cases hc
  | some x =>
    rw [hx] at hc hv
    obtain rfl := Option.some.inj hc
    obtain rfl := Option.some.inj hv
    exact ha.ev hs.glob x

theorem os_func {fn : Fn} {fs cs : Array Operand} (ho : o.op = .makeFunc fn fs cs) (hk : K (.func fn (fs.toList.map (ev Γ A)) (cs.toList.map (ev Γ A))) H) : OStep P Γ o A H K :=
  ostep_pure (by simp [ho]) _ hk fun w0 G w N a hs ha =>
    ⟨_, by simp [execOp, ho, Instr.makeFunc], .func _ _ _ _ _ _ (map_ev hs ha fs).1 (map_ev hs ha cs).1 (map_ev hs ha fs).2 (map_ev hs ha cs).2⟩

/-- Parts put into cells. -/
def abuild (place : Nat → Option (Nat × Nat)) : List PV → List (Nat × PV) → Option (List PV)
  | cs, [] => some cs
  | cs, (i, p) :: r =>
    match place i with
    | none => none
    | some (off, size) => if p.shaped = true ∧ p.cells.length = size ∧ off + size ≤ cs.length then abuild place (splice cs off p.cells) r else none

theorem foldl_put (vs : List Value) : ∀ (cs : Array Value) (off k : Nat), off + k + vs.length ≤ cs.size →
    ((vs.zipIdx k).foldl (fun cs (x : Value × Nat) => cs.setIfInBounds (off + x.2) x.1) cs).toList = cs.toList.take (off + k) ++ vs ++ cs.toList.drop (off + k + vs.length) := by
  induction vs with
  | nil => intro cs off k h; simp
  | cons v vs ih =>
    intro cs off k h
    simp only [List.length_cons] at h
    simp only [List.zipIdx_cons, List.foldl_cons]
    rw [ih _ off (k + 1) (by simp; omega)]
    apply List.ext_getElem?
    intro i
    have e1 := get_splice cs.toList (v :: vs) (off + k) i (by simp; omega)
    have e2 := get_splice (cs.setIfInBounds (off + k) v).toList vs (off + (k + 1)) i (by simp; omega)
    rw [e1, e2]
    simp only [Array.toList_setIfInBounds, List.length_cons]
    by_cases c1 : i < off + k
    · rw [if_pos (by omega), if_pos c1, List.getElem?_set_ne (by omega)]
    · rw [if_neg c1]
      by_cases c2 : i = off + k
      · subst c2
        rw [if_pos (by omega), if_pos (by omega), List.getElem?_set_self (by simp; omega)]
        simp
      · rw [if_neg (by omega)]
        by_cases c3 : i < off + (k + 1) + vs.length
        · rw [if_pos c3, if_pos (by omega)]
          obtain ⟨j, rfl⟩ : ∃ j, i = off + k + 1 + j := ⟨i - (off + k + 1), by omega⟩
          rw [show off + k + 1 + j - (off + (k + 1)) = j by omega, show off + k + 1 + j - (off + k) = j + 1 by omega, List.getElem?_cons_succ]
        · rw [if_neg c3, if_neg (by omega), List.getElem?_set_ne (by omega)]

theorem fill_spec {G : Ghost} {n : Nat} {place place' : Nat → Option (Nat × Nat)} : ∀ (parts : List (Nat × PV)) (vals : List (Nat × Value)) (cs cs' : List PV) (C : Array Value), (∀ i, place' i = place i) →
    parts.length = vals.length → (∀ (j : Nat) i p i' v, parts[j]? = some (i, p) → vals[j]? = some (i', v) → i' = i ∧ Rep G n p v) →
    Reps G n cs C.toList → (∀ (j : Nat) u, C[j]? = some u → u.oneCell' = true) → abuild place cs parts = some cs' →
    ∃ C', Instr.fill place' C vals = some C' ∧ Reps G n cs' C'.toList ∧ ∀ (j : Nat) u, C'[j]? = some u → u.oneCell' = true
  | [], [], cs, cs', C, _, _, _, hc, h1, h => by
    simp only [abuild, Option.some.injEq] at h
    subst h
    exact ⟨C, rfl, hc, h1⟩
  | [], _ :: _, _, _, _, _, hl, _, _, _, _ => by simp at hl
  | _ :: _, [], _, _, _, _, hl, _, _, _, _ => by simp at hl
  | (i, p) :: parts, (i', v) :: vals, cs, cs', C, hpl, hl, hv, hc, h1, h => by
    obtain ⟨rfl, hr⟩ := hv 0 i p i' v rfl rfl
    simp only [abuild] at h
    cases hp : place i' with
    | none => rw [hp] at h; cases h
    | some os =>
      obtain ⟨off, size⟩ := os
      rw [hp] at h
      simp only at h
      split at h
      · rename_i hcond
        obtain ⟨hsh, hsz, hle⟩ := hcond
        have hcells := hr.cells (PV.shaped_iff hsh)
        have hvl : p.cells.length = v.cells.size := hcells.1.1.trans Array.length_toList
        have hcl : cs.length = C.size := hc.1.trans Array.length_toList
        have hfold := foldl_put v.cells.toList C off 0 (by simp; omega)
        simp only [Nat.add_zero] at hfold
        have hz : v.cells.zipIdx.foldl (fun cs (x : Value × Nat) => cs.setIfInBounds (off + x.2) x.1) C = (v.cells.toList.zipIdx 0).foldl (fun cs (x : Value × Nat) => cs.setIfInBounds (off + x.2) x.1) C := by
          rw [← Array.foldl_toList, Array.toList_zipIdx]
        have hreps := hc.splice (q := off) hcells.1 (by omega)
        obtain ⟨C', hC', hr', h1'⟩ := fill_spec parts vals (splice cs off p.cells) cs' (v.cells.zipIdx.foldl (fun cs (x : Value × Nat) => cs.setIfInBounds (off + x.2) x.1) C) hpl (by simpa using hl)
          (fun j i p i' v hj hj' => hv (j + 1) i p i' v (by simpa using hj) (by simpa using hj')) (by rw [hz, hfold]; exact hreps) (fun j u hu => by
            rw [hz] at hu
            have hu' : (C.toList.take off ++ v.cells.toList ++ C.toList.drop (off + v.cells.toList.length))[j]? = some u := by rw [← hfold, Array.getElem?_toList]; exact hu
            rw [get_splice _ _ _ _ (by simp; omega)] at hu'
            split at hu'
            · exact h1 j u (by simpa using hu')
            · split at hu'
              · exact hcells.2 _ u (by simpa using hu')
              · exact h1 j u (by simpa using hu')) h
        refine ⟨C', ?_, hr', h1'⟩
        rw [← hC']
        simp only [Instr.fill, hpl, hp]
        rw [if_neg (by simp; omega)]
      · cases h

/-- The places of a struct's fields. -/
def plOf (P : Program) (t : TypeId) : Option (List (Nat × Nat)) :=
  match P.underlying t with
  | some (.struct fs) => fs.toList.mapM fun f => (P.info? f.type).map fun i => (f.offset, i.size)
  | _ => none

theorem plOf_run {t : TypeId} {pl : List (Nat × Nat)} (h : plOf P t = some pl) : ∃ fs, P.underlying t = some (.struct fs) ∧
    ∀ w, (fs.mapM fun f => do pure (f.offset, ← sizeOf f.type) : Sem (Array (Nat × Nat))).run P w = .ok pl.toArray w := by
  unfold plOf at h
  split at h
  · rename_i fs hu
    refine ⟨fs, hu, fun w => ?_⟩
    rw [Array.mapM_eq_mapM_toList]
    have key : ∀ (g : Field → Sem (Nat × Nat)), (∀ f i, P.info? f.type = some i → (g f).run P w = .ok (f.offset, i.size) w) → ∀ (l : List Field) (pl : List (Nat × Nat)), (l.mapM fun f => (P.info? f.type).map fun i => (f.offset, i.size)) = some pl →
        (l.mapM g).run P w = .ok pl w := by
      intro g hg l
      induction l with
      | nil => intro pl h; simp at h; subst h; simp
      | cons f l ih =>
        intro pl h
        rw [List.mapM_cons] at h ⊢
        cases hi : P.info? f.type with
        | none => simp [hi] at h
        | some i =>
          cases hl : (l.mapM fun f => (P.info? f.type).map fun i => (f.offset, i.size)) with
          | none => simp [hi, hl] at h
          | some r =>
            simp [hi, hl] at h
            subst h
            simp [hg f i hi, ih r hl]
    have := key (fun f => do pure (f.offset, ← sizeOf f.type)) (fun f i hi => by simp [run_size hi]) fs.toList pl h
    rw [Sem.run_map, this]
    rfl
  · cases h

/-- A struct by value. -/
theorem os_build {t : TypeId} {parts : Array (Nat × Operand)} {ti : TI} {pl : List (Nat × Nat)} {cs : List PV} (ho : o.op = .build t parts) (ht : tiOf P t = some ti) (hp : plOf P t = some pl)
    (hb : abuild (fun i => pl[i]?) ti.zero (parts.toList.map fun x => (x.1, ev Γ A x.2)) = some cs) (hk : K (.agg cs) H) : OStep P Γ o A H K :=
  ostep_pure (by simp [ho]) _ hk fun w0 G w N a hs ha => by
    obtain ⟨i, d, z, hi, hd, hz, hzs, hsz, _, h1, hagg, hzero⟩ := tiOf_spec ht
    obtain ⟨fs, hu, hpl⟩ := plOf_run hp
    have hzr : Reps G H.length ti.zero z.cells.toList := by
      rw [hzero]
      refine ⟨by simp, fun j p v hp hv => ?_⟩
      rw [List.getElem?_map, hv] at hp
      obtain rfl := Option.some.inj hp
      exact ofC_rep _ _ _
    obtain ⟨C', hC', hr, h1'⟩ := fill_spec (place := fun i => pl[i]?) (place' := fun i => pl.toArray[i]?) (parts.toList.map fun x => (x.1, ev Γ A x.2)) (parts.toList.map fun x => (x.1, a.eval x.2)) ti.zero cs z.cells (fun i => by simp) (by simp)
      (fun j i p i' v hj hj' => by
        rw [List.getElem?_map] at hj hj'
        cases hx : parts.toList[j]? with
        | none => rw [hx] at hj; cases hj
        | some x =>
          rw [hx] at hj hj'
          simp only [Option.map_some, Option.some.injEq, Prod.mk.injEq] at hj hj'
          obtain ⟨rfl, rfl⟩ := hj
          obtain ⟨rfl, rfl⟩ := hj'
          exact ⟨rfl, ha.ev hs.glob x.2⟩) hzr h1 hb
    refine ⟨.agg C', ?_, .agg _ _ _ (hr.1.trans Array.length_toList) (fun j c v hc hv => hr.2 j c v hc (by simpa using hv)) h1'⟩
    simp only [execOp, ho, Instr.build, Sem.run_bind, run_zero hi hz, run_under hu, Result.andThen_ok, hpl, Array.toList_map]
    rw [show (fun x : Nat => pl.toArray[x]?) = (fun i => pl.toArray[i]?) from rfl, hC']
    rfl

end
end Go.Proofs.YtinedfjknhahmaaDoor.Fw
