/- The framework, part between the eleventh and the twelfth: structs compared. -/
import Derived.Test.YtinedfjknhahmaaDoorFwK
import Derived.Laws.StructEq
import Derived.MapKept
namespace Go.Proofs.YtinedfjknhahmaaDoor.Fw
set_option linter.unusedVariables false
set_option linter.unusedSimpArgs false
open Go.RowKit

/-- What of a field's type the comparison wants: 0 a number, 1 a text, 2 a bool. -/
def eqTag : Option TypeDesc → Option Nat
  | some (.int _) => some 0
  | some .string => some 1
  | some .bool => some 2
  | _ => none

def eqTags (P : Program) : List Field → Option (List (Nat × Nat))
  | [] => some []
  | f :: fs => match eqTag (P.underlying f.type), eqTags P fs with
    | some k, some l => if (f.name == "_") = true then none else some ((f.offset, k) :: l)
    | _, _ => none

/-- The fields of a struct that is compared. -/
def eqOf (P : Program) (t : TypeId) : Option (List (Nat × Nat)) :=
  match P.underlying t with
  | some (.struct fs) => if P.stoodInHeld t = false ∧ P.eqGuardType P.depth t = false then eqTags P fs.toList else none
  | _ => none

def peq : Nat → PV → PV → Option Bool
  | 0, .int k a, .int k' b => if k = k' then some (decide (a = b)) else none
  | 1, .str a, .str b => some (decide (a = b))
  | 2, .bool a, .bool b => some (a == b)
  | _, _, _ => none

def aeqs : List (Nat × Nat) → List PV → List PV → Option Bool
  | [], _, _ => some true
  | (o, k) :: l, xs, ys => match xs[o]?, ys[o]? with
    | some p, some q => match peq k p q, aeqs l xs ys with
      | some b, some r => some (b && r)
      | _, _ => none
    | _, _ => none

section
variable {P : Program} {Γ : Nat → PV} {o : Oper} {A : List (Nat × PV)} {H : List Blk} {K : PV → List Blk → Prop}

theorem aeqs_spec {G : Ghost} {n : Nat} {xs ys : List PV} {us vs : Array Value} {w : World} (d : Nat) (hx : ∀ (i : Nat) c v, xs[i]? = some c → us[i]? = some v → Rep G n c v) (hxl : xs.length = us.size)
    (hy : ∀ (i : Nat) c v, ys[i]? = some c → vs[i]? = some v → Rep G n c v) (hyl : ys.length = vs.size) : ∀ (fs : List Field) (l : List (Nat × Nat)) (b : Bool), eqTags P fs = some l → aeqs l xs ys = some b → (Op.eqFields (d + 1) us vs fs).run P w = .ok b w
  | [], l, b, hl, hb => by
    simp only [eqTags, Option.some.injEq] at hl
    subst hl
    simp only [aeqs, Option.some.injEq] at hb
    subst hb
    simp [Op.eqFields]
  | f :: fs, l, b, hl, hb => by
    simp only [eqTags] at hl
    split at hl
    · rename_i k l' hk hl'
      split at hl
      · cases hl
      · rename_i hn
        simp only [Option.some.injEq] at hl
        subst hl
        simp only [aeqs] at hb
        split at hb
        · rename_i p q hp hq
          split at hb
          · rename_i b1 r hb1 hr
            simp only [Option.some.injEq] at hb
            subst hb
            have hpl := (List.getElem?_eq_some_iff.1 hp).1
            have hql := (List.getElem?_eq_some_iff.1 hq).1
            have hu : us[f.offset]? = some (us[f.offset]'(by omega)) := Array.getElem?_eq_getElem (by omega)
            have hv : vs[f.offset]? = some (vs[f.offset]'(by omega)) := Array.getElem?_eq_getElem (by omega)
            have ru := hx _ _ _ hp hu
            have rv := hy _ _ _ hq hv
            obtain ⟨ty, hty, hag⟩ : ∃ ty, P.underlying f.type = some ty ∧ aggD ty = false := by
              cases ht : P.underlying f.type with
              | none => rw [ht] at hk; cases hk
              | some ty => rw [ht] at hk; exact ⟨ty, rfl, by cases ty <;> first | rfl | cases hk⟩
            have hpart : ∀ (cs : Array Value) v, cs[f.offset]? = some v → (part f.type cs f.offset).run P w = .ok v w := fun cs v hc => by
              simp [part, run_agg hty, hag, hc]
            have heq : (Op.equalIn (d + 1) f.type (us[f.offset]'(by omega)) (vs[f.offset]'(by omega))).run P w = .ok b1 w := by
              generalize us[f.offset]'(by omega) = u at ru
              generalize vs[f.offset]'(by omega) = v at rv
              cases ty <;> rw [hty] at hk <;> simp only [eqTag, Option.some.injEq, reduceCtorEq] at hk <;> subst hk <;> cases p <;> cases q <;> simp only [peq, reduceCtorEq] at hb1
              · rw [ru.bool_inv, rv.bool_inv, run_equalIn_bool' w d f.type _ _ hty]
                cases hb1; rfl
              · split at hb1
                · rename_i e
                  subst e
                  rw [ru.int_inv, rv.int_inv, run_equalIn_int w d f.type _ _ _ _ hty]
                  cases hb1; rfl
                · cases hb1
              · rw [ru.str_inv, rv.str_inv]
                cases hb1
                rename_i a c
                have : ((⟨a.toArray⟩ : ByteArray) == ⟨c.toArray⟩) = decide (a = c) := by
                  rw [Bool.eq_iff_iff, MapKept.bytes_beq]
                  simp
                simp [Op.equalIn, run_under hty, this]
            have ih := aeqs_spec (w := w) d hx hxl hy hyl fs l' r hl' hr
            have hn' : f.name ≠ "_" := by simpa using hn
            simp only [Op.eqFields, if_pos hn', Sem.run_bind, hpart us _ hu, hpart vs _ hv, heq, Result.andThen_ok]
            cases b1 with
            | false => simp
            | true => simpa using ih
          · cases hb
        · cases hb
    · cases hl

theorem os_eqAgg {op : BinOp} {t ty : TypeId} {x y : Operand} {xs ys : List PV} {l : List (Nat × Nat)} {b : Bool} {p : PV} (ho : o.op = .binOp op t x y ty) (ht : eqOf P t = some l) (hx : ev Γ A x = .agg xs) (hy : ev Γ A y = .agg ys)
    (hb : aeqs l xs ys = some b) (h : eqv op b = some p) (hk : K p H) : OStep P Γ o A H K :=
  ostep_pure (by simp [ho]) _ hk fun w0 G w N a hs ha => by
    have h1 := ha.ev hs.glob x
    have h2 := ha.ev hs.glob y
    rw [hx] at h1; rw [hy] at h2
    unfold eqOf at ht
    split at ht
    · rename_i fs hu
      split at ht
      · rename_i hc
        generalize hax : a.eval x = u at h1
        generalize hay : a.eval y = v at h2
        cases h1 with
        | agg _ _ us k1 k2 k3 =>
          cases h2 with
          | agg _ _ vs m1 m2 m3 =>
            have hf : P.fieldsOf t = fs := by simp [Program.fieldsOf, hu]
            have he : (Op.equalIn 10000 t (.agg us) (.agg vs)).run P w = .ok b w := by
              rw [run_equalIn_struct (P := P) w 9999 t us vs (by rw [hf]; exact hu) hc.1, hf]
              exact aeqs_spec 9998 k2 k1 m2 m1 fs.toList l b ht hb
            obtain ⟨z, hz, hr⟩ := eq_run (P := P) (op := op) (t := t) (x := x) (y := y) (u := .agg us) (v := .agg vs) (w := w) (b := b) (run_eqGuard_agg w op t x y us vs hc.2) (fun op ho => by rcases ho with rfl | rfl <;> simp [binOp]) he h G H.length
            refine ⟨z, ?_, hr⟩
            simp only [execOp, ho, Sem.run_bind, hax, hay] at hz ⊢
            rw [hz]; rfl
      · cases ht
    · cases ht

end
end Go.Proofs.YtinedfjknhahmaaDoor.Fw
