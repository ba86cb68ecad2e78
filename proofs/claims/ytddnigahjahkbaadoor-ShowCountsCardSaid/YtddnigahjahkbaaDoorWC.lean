/- The framework: reading the arguments where what is read is of a bulk that is told. -/
import Derived.Test.YtddnigahjahkbaaDoorWB
import Derived.Test.YtddnigahjahkbaaDoorProg
import Derived.Maps.Own
import Derived.Sort.EncStr
import Derived.Shelf.Strconv.Itoa4
import Derived.Lib.ItoaLen
import Derived.Shelf.Strings.OnBuilder
import Derived.Shelf.Strconv.ParseIntPublic10
import Derived.Shelf.GgSortFunc.RowK
import Derived.Sort.Row
namespace Go.Proofs.YtddnigahjahkbaaDoor.Fw
set_option linter.unusedVariables false
set_option linter.unusedSimpArgs false
set_option maxRecDepth 100000
open Go.RowKit Go.ChangeShapes Go.WideShapes
mutual
def bulk {H : Type} : DataW H → Nat
  | .lit (.string bytes) => bytes.length + 1
  | .lit _ => 1
  | .nil => 1
  | .ptr d => bulk d + 1
  | .slice elems spare => bulkAll elems + bulkAll spare + 1
  | .agg parts => bulkAll parts + 1
  | .iface _ d => bulk d + 1
  | .map entries => bulkEntries entries + 1
  | .held _ => 1
def bulkAll {H : Type} : List (DataW H) → Nat
  | [] => 0
  | d :: r => bulk d + bulkAll r
def bulkEntries {H : Type} : List (Lit × DataW H) → Nat
  | [] => 0
  | x :: r => bulkEntry x + bulkEntries r
def bulkEntry {H : Type} : Lit × DataW H → Nat
  | (.string bytes, d) => bytes.length + bulk d + 1
  | (_, d) => bulk d + 1
end
def DecB (P : Program) (W : World) (fuel : Nat) (t : TypeId) {X : Type} (enc : X → List PV) (good : X → Prop) (w : X → Nat) : Prop :=
  ∀ (Hh : Type) (e : TypeId × Value → Hh) (cs : List Value) (y : DataW Hh × List MemPlace), DataW.trod e P W 0 (fun _ => true) true fuel t cs = some y → (y.1.weights P t).all (· ≤ reachBytes) = true → ∃ x, good x ∧ w x ≤ bulk y.1 ∧ Reps (ofW W) 0 (enc x) cs ∧ ∀ u ∈ cs, u.oneCell' = true
section
variable {P : Program} {W : World} {n : Nat} {t : TypeId} {X Y : Type} {enc : X → List PV} {good : X → Prop} {w : X → Nat}
theorem DecB.zero : DecB P W 0 t enc good w := fun Hh e cs y h _ => by simp [DataW.trod] at h
theorem DecB.weaken {good' : X → Prop} {w' : X → Nat} (h : DecB P W n t enc good w) (hg : ∀ x, good x → good' x) (hw : ∀ x, w' x ≤ w x) : DecB P W n t enc good' w' := fun Hh e cs y hy hwt =>
  let ⟨x, h1, h0, h2, h3⟩ := h Hh e cs y hy hwt; ⟨x, hg x h1, Nat.le_trans (hw x) h0, h2, h3⟩
theorem DecB.map {enc' : Y → List PV} {good' : Y → Prop} {w' : Y → Nat} (h : DecB P W n t enc good w) (g : X → Y) (he : ∀ x, enc' (g x) = enc x) (hg : ∀ x, good x → good' (g x)) (hw : ∀ x, w' (g x) ≤ w x) : DecB P W n t enc' good' w' := fun Hh e cs y hy hwt =>
  let ⟨x, h1, h0, h2, h3⟩ := h Hh e cs y hy hwt; ⟨g x, hg x h1, Nat.le_trans (hw x) h0, by rw [he]; exact h2, h3⟩
def DecFB (P : Program) (W : World) (n : Nat) (fs : List Field) (off : Nat) {X : Type} (enc : X → List PV) (good : X → Prop) (w : X → Nat) : Prop :=
  ∀ (Hh : Type) (e : TypeId × Value → Hh) (cs : List Value) (ds : List (DataW Hh)), ds.length = fs.length → (∀ (i : Nat) f, fs[i]? = some f → ∃ y, ds[i]? = some y.1 ∧ DataW.trod e P W 0 (fun _ => true) true n f.type ((cs.drop f.offset).take (P.cellsOf f.type)) = some y ∧ (y.1.weights P f.type).all (· ≤ reachBytes) = true) → cs.length = off + (fs.map fun f => P.cellsOf f.type).sum →
    ∃ x, good x ∧ w x ≤ bulkAll ds ∧ Reps (ofW W) 0 (enc x) (cs.drop off) ∧ ∀ u ∈ cs.drop off, u.oneCell' = true
def ReadsArgB (P : Program) (W : World) (t : TypeId) {X : Type} (one : X → PV) (good : X → Prop) (w : X → Nat) : Prop :=
  ∀ (Hh : Type) (e : TypeId × Value → Hh) (b : Nat) (v : Value) (d : DataW Hh) (ps : List MemPlace), Value.okWide P W .any b t v → DataW.Trod e P W 0 (fun _ => true) true t v d ps → (d.weights P t).all (· ≤ reachBytes) = true → ∃ x, good x ∧ w x ≤ bulk d ∧ Rep (ofW W) 0 (one x) v
def ReadsArgsB (P : Program) (W : World) (ts : List TypeId) {X : Type} (encs : X → List PV) (good : X → Prop) (w : X → Nat) : Prop :=
  ∀ (Hh : Type) (e : TypeId × Value → Hh) (b : Nat) (vs : List Value) (ds : List (DataW Hh)) (ps : List MemPlace), (∀ (j : Nat) t v, ts[j]? = some t → vs[j]? = some v → Value.okWide P W .any b t v) → DataW.TrodAll e P W 0 (fun _ => true) true ts vs ds ps →
    (∀ (i : Nat) t d, ts[i]? = some t → ds[i]? = some d → (d.weights P t).all (· ≤ reachBytes) = true) → ∃ x, good x ∧ w x ≤ bulkAll ds ∧ Reps (ofW W) 0 (encs x) vs
end
theorem awp_heap {P : Program} {Γ : Nat → PV} {N : Nat} {ro : Option Nat} {c : Code} {A : List (Nat × PV)} {H H' : List Blk} {D : List Nat} {Q : Post} (hH : H = H') (h : AWP P Γ N ro c A H' D Q) : AWP P Γ N ro c A H D Q := hH ▸ h
theorem ACalls.lenLe {P : Program} {Γ : Nat → PV} {f : FuncId} {args : List PV} {H : List Blk} {R : PV → List Blk → Prop} (h : ACalls P Γ f args H R) : ACalls P Γ f args H (fun p H' => R p H' ∧ H.length ≤ H'.length) :=
  fun w0 G w vs hs ha => (h w0 G w vs hs ha).mono fun _ _ ⟨v, p, H', G', h1, h2, h3, h4, h5, h6⟩ => ⟨v, p, H', G', h1, h2, h3, h4, h5, h6, h5⟩
theorem os_max {P : Program} {Γ : Nat → PV} {A : List (Nat × PV)} {H : List Blk} {o : Oper} {K : PV → List Blk → Prop} {x y : Operand} {ts : Array TypeId} {k : IntKind} {m n : Int} (ho : o.op = .call { callee := .builtin .max, args := #[x, y], argTypes := ts }) (hx : ev Γ A x = .int k m) (hy : ev Γ A y = .int k n)
    (hk : K (.int k (if m < n then n else m)) H) : OStep P Γ o A H K :=
  ostep_pure (by simp [ho]) _ hk fun w0 G w N a hs ha => by
    have h1 := ha.ev hs.glob x
    have h2 := ha.ev hs.glob y
    rw [hx] at h1
    rw [hy] at h2
    refine ⟨_, ?_, .int _ _ _⟩
    simp [execOp, ho, resolve, invoke, builtin, Builtin.max_, Builtin.max2, h1.int_inv, h2.int_inv]
end Go.Proofs.YtddnigahjahkbaaDoor.Fw
namespace Go.Proofs.YtddnigahjahkbaaDoor.Fw
set_option linter.unusedVariables false
set_option linter.unusedSimpArgs false
set_option maxRecDepth 100000
open Go.RowKit
variable {P : Program} {Γ : Nat → PV} {N : Nat} {ro : Option Nat} {A : List (Nat × PV)} {H : List Blk} {D : List Nat} {Q : Post}
theorem awp_join {S : Type} (keep : List Nat) (st : S → List PV) (Hs : S → List Blk) (ok : S → Prop) {x y : Code}
    (h1 : AWP P Γ N ro x A H D (Post.then (fun A' H' D' => ∃ s, ok s ∧ keep.map (alook A') = st s ∧ H' = Hs s ∧ D' = D) Q))
    (h2 : ∀ s, ok s → AWP P Γ N ro y (keep.zip (st s)) (Hs s) D Q) : AWP P Γ N ro (.seq x y) A H D Q := by
  refine awp_seq (h1.mono fun e A' H' D' hq => ?_)
  cases e with
  | normal =>
    obtain ⟨s, k1, k2, rfl, rfl⟩ := hq
    exact awp_less (fun t => zip_look keep _ t A' k2) (h2 s k1)
  | _ => exact hq
theorem aops_end {ops : Array Oper} {K : List (Nat × PV) → List Blk → Prop} (h : K A H) : AOps P Γ ops K [] A H := h
end Go.Proofs.YtddnigahjahkbaaDoor.Fw
namespace Go.Proofs.YtddnigahjahkbaaDoor.Fw
set_option linter.unusedVariables false
set_option linter.unusedSimpArgs false
set_option maxRecDepth 100000
open Go.RowKit
def AIterM (P : Program) (Γ : Nat → PV) (gf : FuncId) (caps : List PV) (b : Nat) (B0 : Blk) (np : Nat) (xs : List (List PV)) : Prop :=
  ∀ (l n0 : Nat) (Inv : Nat → List Blk → Prop) (Stop : List Blk → Prop),
    (∀ i Hb, Inv i Hb → Hb.length = n0 ∧ (∀ cs, PV.plainL cs = true → Inv i (Hb.set b (.box cs))) ∧ ∃ rec cs, Hb[l]? = some (.loop rec cs) ∧ b ≠ l ∧ rec.params.size = np ∧
      ∀ x E, xs[i]? = some x → ARound P Γ l rec x (Hb ++ E) (fun bb H' => ∃ Hb', H' = Hb' ++ E ∧ Hb'[b]? = Hb[b]? ∧ if bb = true then Inv (i + 1) Hb' else (Hb'.length = n0 ∧ Stop Hb'))) →
    ∀ Hb, Inv 0 Hb → Hb[b]? = some B0 → ACalls P Γ gf (.yld l :: caps) Hb (fun _ H' => Inv xs.length H' ∨ (H'.length = n0 ∧ Stop H'))
section
variable {P : Program} {Γ : Nat → PV} {N : Nat} {ro : Option Nat} {A : List (Nat × PV)} {H : List Blk} {D : List Nat} {Q : Post} {o : Oper} {K : PV → List Blk → Prop}
end
end Go.Proofs.YtddnigahjahkbaaDoor.Fw
namespace Go.Proofs.YtddnigahjahkbaaDoor.Fw
set_option linter.unusedVariables false
set_option linter.unusedSimpArgs false
set_option maxRecDepth 100000
open Go.RowKit
theorem gfw :
    (∀ (X Y : Type) (f : X → Y) (l : List X), (l.map f).length = l.length) ∧
    (∀ (X Y : Type) (f : X → Y) (l : List X) (i : Nat), (l.map f)[i]? = (l[i]?).map f) ∧
    (∀ (X Y : Type) (f : X → Y) (x : X), Option.map f (some x) = some (f x)) ∧
    (∀ (X Y : Type) (f : X → Y) (x : X) (l : List X), List.map f (x :: l) = f x :: l.map f) ∧
    (∀ (X Y : Type) (f : X → Y), List.map f [] = []) ∧
    (∀ n : Nat, ((0 : Int) ≤ (n : Int)) = True) ∧
    (∀ n : Nat, ((n : Int) < 0) = False) ∧
    (∀ n : Nat, (n : Int).toNat = n) ∧
    (∀ d : Decidable True, @decide True d = true) ∧
    (∀ d : Decidable False, @decide False d = false) ∧
    (∀ b : Bool, (b && true) = b) ∧
    (∀ b : Bool, (b && false) = false) ∧
    (∀ b : Bool, (true && b) = b) ∧
    (∀ b : Bool, (false && b) = false) ∧
    (∀ b : Bool, (b && b) = b) ∧
    (∀ b : Bool, (b || false) = b) ∧
    (∀ b : Bool, (false || b) = b) ∧
    (∀ b : Bool, (b || true) = true) ∧
    (∀ b : Bool, (true || b) = true) ∧
    ((!true) = false) ∧
    ((!false) = true) ∧
    (∀ b : Bool, (!!b) = b) ∧
    (∀ b : Bool, (b == b) = true) ∧
    (∀ (X : Type) (a b : X), (a ≠ b) = ¬ (a = b)) ∧
    (∀ (X : Type) (a : X), (a = a) = True) ∧
    ((¬ False) = True) ∧
    ((¬ True) = False) ∧
    (∀ p : Prop, (p ∧ p) = p) ∧
    (∀ p : Prop, (p ∧ True) = p) ∧
    (∀ p : Prop, (True ∧ p) = p) ∧
    (∀ p : Prop, (p ∧ False) = False) ∧
    (∀ p : Prop, (False ∧ p) = False) := by
  refine ⟨?_, ?_, ?_, ?_, ?_, ?_, ?_, ?_, ?_, ?_, ?_, ?_, ?_, ?_, ?_, ?_, ?_, ?_, ?_, ?_, ?_, ?_, ?_, ?_, ?_, ?_, ?_, ?_, ?_, ?_, ?_, ?_⟩ <;> intros <;> simp
end Go.Proofs.YtddnigahjahkbaaDoor.Fw
namespace Go.Proofs.YtddnigahjahkbaaDoor.Fw
set_option linter.unusedVariables false
set_option linter.unusedSimpArgs false
set_option maxRecDepth 100000
open Go.RowKit
def PV.flat : PV → Bool
  | .bool _ | .int _ _ | .str _ => true
  | _ => false
theorem Rep.flat {G G' : Ghost} {n m : Nat} {p : PV} {v : Value} (h : Rep G n p v) (hp : p.flat = true) : Rep G' m p v := by
  cases h with
  | bool => exact .bool _ _
  | int => exact .int _ _ _
  | str _ _ hn => exact .str _ _ hn
  | _ => cases hp
section
variable {P : Program} {Γ : Nat → PV} {H : List Blk}
def lent (H : List Blk) : PV → PV → Prop
  | .row b o k sz, q => ∃ C, H[b]? = some (.row sz C) ∧ PV.plainL C = true ∧ C.length = o + k * sz ∧ q = .vec (chunk sz k (C.drop o)) false
  | p, q => p.plain = true ∧ q = p
end
end Go.Proofs.YtddnigahjahkbaaDoor.Fw
namespace Go.Proofs.YtddnigahjahkbaaDoor
set_option linter.unusedVariables false
set_option linter.unusedSimpArgs false
set_option maxRecDepth 100000
open Go.RowKit Fw
theorem flat_len {X : Type} {enc : X → List PV} {sz : Nat} (h : ∀ x, (enc x).length = sz) (l : List X) : ((l.map enc).flatten).length = l.length * sz := by
  rw [flatten_len (sz := sz) (fun e he => by obtain ⟨x, _, rfl⟩ := List.mem_map.1 he; exact h x), List.length_map]
theorem flat_chunk {X : Type} {enc : X → List PV} {sz : Nat} (h : ∀ x, (enc x).length = sz) (l : List X) : chunk sz l.length ((l.map enc).flatten) = l.map enc := by
  have := chunk_flatten (sz := sz) (es := l.map enc) (fun e he => by obtain ⟨x, _, rfl⟩ := List.mem_map.1 he; exact h x)
  rwa [List.length_map] at this
theorem flat_bd {X : Type} {enc : X → List PV} {m : Nat} (h : ∀ x, PV.bdL m (enc x) = true) (l : List X) : PV.bdL m ((l.map enc).flatten) = true := by
  induction l with
  | nil => rfl
  | cons x l ih => rw [List.map_cons, List.flatten_cons, PV.bdL_append, h, ih]; rfl
def I64 (n : Int) : Prop := -9223372036854775808 ≤ n ∧ n ≤ 9223372036854775807
theorem wrapId {a : Int} (h : I64 a) : IntKind.i64.wrap a = a := by
  obtain ⟨h1, h2⟩ := h
  unfold IntKind.wrap
  have hb : IntKind.i64.bits = 64 := rfl
  have hsg : IntKind.i64.signed = true := rfl
  simp only [hb, hsg, Bool.true_and, decide_eq_true_eq]
  split <;> omega
theorem wrapS (n : Nat) (h : n + 1 < 9223372036854775808) : IntKind.i64.wrap ((n : Int) + 1) = ((n + 1 : Nat) : Int) := by
  rw [wrapId ⟨by omega, by omega⟩]; omega
inductive Tm where
  | mk (kind : Int) (name : List UInt8) (n : Int) (kids : List Tm)
namespace Tm
def kind : Tm → Int | mk x _ _ _ => x
def name : Tm → List UInt8 | mk _ x _ _ => x
def n : Tm → Int | mk _ _ x _ => x
def kids : Tm → List Tm | mk _ _ _ x => x
mutual
def enc : Tm → List PV
  | mk kind name n ks => [.int .i64 kind, .str name, .int .i64 n, .vec (encs ks) false]
def encs : List Tm → List (List PV)
  | [] => []
  | t :: ts => enc t :: encs ts
end
theorem encs_map (l : List Tm) : encs l = l.map enc := by
  induction l with
  | nil => rfl
  | cons t l ih => rw [encs, ih]; rfl
theorem enc_eq (t : Tm) : t.enc = [.int .i64 t.kind, .str t.name, .int .i64 t.n, .vec (t.kids.map enc) false] := by
  cases t; rw [enc, encs_map]; rfl
theorem kids_lt {t k : Tm} (h : k ∈ t.kids) : SizeOf.sizeOf k < SizeOf.sizeOf t := by
  cases t
  have := List.sizeOf_lt_of_mem h
  simp only [kids, mk.sizeOf_spec] at this ⊢
  omega
theorem ext {a b : Tm} (h0 : a.kind = b.kind) (h1 : a.name = b.name) (h2 : a.n = b.n) (hk : a.kids = b.kids) : a = b := by
  cases a; cases b; simp_all [kind, name, n, kids]
theorem fw : (∀ t : Tm, t.enc.length = 4) ∧
    (∀ t : Tm, t.enc[0]? = some (.int .i64 t.kind)) ∧
    (∀ t : Tm, t.enc[1]? = some (.str t.name)) ∧
    (∀ t : Tm, t.enc[2]? = some (.int .i64 t.n)) ∧
    (∀ t : Tm, t.enc[3]? = some (.vec (t.kids.map enc) false)) ∧
    (∀ t : Tm, t.enc.drop 1 = [.str t.name, .int .i64 t.n, .vec (t.kids.map enc) false]) ∧
    (∀ t : Tm, t.enc.drop 2 = [.int .i64 t.n, .vec (t.kids.map enc) false]) ∧
    (∀ t : Tm, t.enc.drop 3 = [.vec (t.kids.map enc) false]) ∧
    (∀ t : Tm, t.enc.take 4 = t.enc) ∧
    (∀ (t : Tm) (l : List PV), (t.enc ++ l).take 4 = t.enc) ∧
    (∀ (m : Nat) (t : Tm), PV.bdL m t.enc = true) ∧
    (∀ (t : Tm) (l : List PV) (k : Nat), (t.enc ++ l).drop (k + 4) = l.drop k) ∧
    (∀ (t : Tm) (l : List PV) (k : Nat), (t.enc ++ l).take (k + 4) = t.enc ++ l.take k) := by
  refine ⟨?_, ?_, ?_, ?_, ?_, ?_, ?_, ?_, ?_, ?_, ?_, ?_, ?_⟩
  · intro t; rw [enc_eq]; rfl
  · intro t; rw [enc_eq]; rfl
  · intro t; rw [enc_eq]; rfl
  · intro t; rw [enc_eq]; rfl
  · intro t; rw [enc_eq]; rfl
  · intro t; rw [enc_eq]; rfl
  · intro t; rw [enc_eq]; rfl
  · intro t; rw [enc_eq]; rfl
  · intro t; rw [enc_eq]; rfl
  · intro t l; rw [enc_eq]; rfl
  · intro m t; rw [enc_eq]; rfl
  · intro t l k; rw [enc_eq]; rfl
  · intro t l k; rw [enc_eq]; rfl
theorem enc_len (t : Tm) : t.enc.length = 4 := by rw [enc_eq]; rfl
theorem bd (m : Nat) (t : Tm) : PV.bdL m t.enc = true := by rw [enc_eq]; rfl
theorem bdM {m : Nat} (l : List Tm) : PV.bdL m ((l.map enc).flatten) = true := flat_bd (fun t => bd m t) l
inductive Ok : Tm → Prop
  | mk (t : Tm) (h2 : t.kids.length * 56 ≤ reachBytes) (h3 : ∀ k ∈ t.kids, Ok k) : Ok t
mutual
def w : Tm → Nat
  | mk _ _ _ ks => ws ks + 1
def ws : List Tm → Nat
  | [] => 0
  | t :: ts => w t + ws ts
end
theorem ws_sum : ∀ l : List Tm, ws l = (l.map w).sum
  | [] => rfl
  | b :: l => by simp only [ws, List.map_cons, List.sum_cons, ws_sum l]
theorem w_eq (t : Tm) : t.w = (t.kids.map w).sum + 1 := by cases t; simp only [w, ws_sum, kids]
end Tm
noncomputable instance : DecidableEq Tm := fun _ _ => Classical.propDecidable _
def S1 (s : List UInt8) : List PV := [.str s]
theorem S1_len (n : List UInt8) : (S1 n).length = 1 := rfl
theorem S1_fw : (∀ n, (S1 n).length = 1) ∧ (∀ n, (S1 n)[0]? = some (.str n)) ∧ (∀ (m : Nat) n, PV.bdL m (S1 n) = true) := ⟨fun _ => rfl, fun _ => rfl, fun _ _ => rfl⟩
structure Tk where
  kind : Int
  text : List UInt8
  n : Int
deriving DecidableEq, Inhabited
namespace Tk
def enc (t : Tk) : List PV := [.int .i64 t.kind, .str t.text, .int .i64 t.n]
theorem enc_len (t : Tk) : t.enc.length = 3 := rfl
theorem fw : (∀ t : Tk, t.enc.length = 3) ∧ (∀ t : Tk, t.enc[0]? = some (.int .i64 t.kind)) ∧ (∀ t : Tk, t.enc[1]? = some (.str t.text)) ∧ (∀ t : Tk, t.enc[2]? = some (.int .i64 t.n)) ∧ (∀ t : Tk, t.enc.drop 1 = [.str t.text, .int .i64 t.n]) ∧ (∀ t : Tk, t.enc.drop 2 = [.int .i64 t.n]) ∧ (∀ t : Tk, t.enc.take 3 = t.enc) ∧ (∀ (m : Nat) (t : Tk), PV.bdL m t.enc = true) :=
  ⟨fun _ => rfl, fun _ => rfl, fun _ => rfl, fun _ => rfl, fun _ => rfl, fun _ => rfl, fun _ => rfl, fun _ _ => rfl⟩
end Tk
def I1 (n : Int) : List PV := [.int .i64 n]
theorem I1_fw : (∀ n, (I1 n).length = 1) ∧ (∀ n, (I1 n)[0]? = some (.int .i64 n)) ∧ (∀ (m : Nat) n, PV.bdL m (I1 n) = true) := ⟨fun _ => rfl, fun _ => rfl, fun _ _ => rfl⟩
def B8 (n : Int) : List PV := [.int .u8 n]
theorem B8_fw : (∀ n, (B8 n).length = 1) ∧ (∀ n, (B8 n)[0]? = some (.int .u8 n)) ∧ (∀ (m : Nat) n, PV.bdL m (B8 n) = true) := ⟨fun _ => rfl, fun _ => rfl, fun _ _ => rfl⟩
end Go.Proofs.YtddnigahjahkbaaDoor
namespace Go.Proofs.YtddnigahjahkbaaDoor
set_option linter.unusedVariables false
set_option linter.unusedSimpArgs false
set_option maxRecDepth 100000
open Go.RowKit Fw
theorem en2 : Enters Tryd.prog 2 := enters_of Tryd.func2 rfl rfl
theorem en6 : Enters Tryd.prog 6 := enters_of Tryd.func6 rfl rfl
theorem en7 : Enters Tryd.prog 7 := enters_of Tryd.func7 rfl rfl
theorem en8 : Enters Tryd.prog 8 := enters_of Tryd.func8 rfl rfl
theorem en9 : Enters Tryd.prog 9 := enters_of Tryd.func9 rfl rfl
theorem en10 : Enters Tryd.prog 10 := enters_of Tryd.func10 rfl rfl
theorem en11 : Enters Tryd.prog 11 := enters_of Tryd.func11 rfl rfl
theorem en12 : Enters Tryd.prog 12 := enters_of Tryd.func12 rfl rfl
theorem en13 : Enters Tryd.prog 13 := enters_of Tryd.func13 rfl rfl
theorem en14 : Enters Tryd.prog 14 := enters_of Tryd.func14 rfl rfl
theorem en15 : Enters Tryd.prog 15 := enters_of Tryd.func15 rfl rfl
theorem en16 : Enters Tryd.prog 16 := enters_of Tryd.func16 rfl rfl
theorem en17 : Enters Tryd.prog 17 := enters_of Tryd.func17 rfl rfl
theorem en18 : Enters Tryd.prog 18 := enters_of Tryd.func18 rfl rfl
theorem en19 : Enters Tryd.prog 19 := enters_of Tryd.func19 rfl rfl
theorem en20 : Enters Tryd.prog 20 := enters_of Tryd.func20 rfl rfl
theorem en21 : Enters Tryd.prog 21 := enters_of Tryd.func21 rfl rfl
theorem en22 : Enters Tryd.prog 22 := enters_of Tryd.func22 rfl rfl
theorem en23 : Enters Tryd.prog 23 := enters_of Tryd.func23 rfl rfl
theorem en24 : Enters Tryd.prog 24 := enters_of Tryd.func24 rfl rfl
theorem en25 : Enters Tryd.prog 25 := enters_of Tryd.func25 rfl rfl
theorem en26 : Enters Tryd.prog 26 := enters_of Tryd.func26 rfl rfl
theorem en27 : Enters Tryd.prog 27 := enters_of Tryd.func27 rfl rfl
theorem en28 : Enters Tryd.prog 28 := enters_of Tryd.func28 rfl rfl
theorem en29 : Enters Tryd.prog 29 := enters_of Tryd.func29 rfl rfl
theorem en30 : Enters Tryd.prog 30 := enters_of Tryd.func30 rfl rfl
theorem en31 : Enters Tryd.prog 31 := enters_of Tryd.func31 rfl rfl
theorem en32 : Enters Tryd.prog 32 := enters_of Tryd.func32 rfl rfl
theorem en33 : Enters Tryd.prog 33 := enters_of Tryd.func33 rfl rfl
theorem en34 : Enters Tryd.prog 34 := enters_of Tryd.func34 rfl rfl
theorem en35 : Enters Tryd.prog 35 := enters_of Tryd.func35 rfl rfl
theorem en36 : Enters Tryd.prog 36 := enters_of Tryd.func36 rfl rfl
theorem en37 : Enters Tryd.prog 37 := enters_of Tryd.func37 rfl rfl
theorem en38 : Enters Tryd.prog 38 := enters_of Tryd.func38 rfl rfl
theorem en39 : Enters Tryd.prog 39 := enters_of Tryd.func39 rfl rfl
theorem en40 : Enters Tryd.prog 40 := enters_of Tryd.func40 rfl rfl
theorem en45 : Enters Tryd.prog 45 := enters_of Tryd.func45 rfl rfl
theorem en46 : Enters Tryd.prog 46 := enters_of Tryd.func46 rfl rfl
theorem en47 : Enters Tryd.prog 47 := enters_of Tryd.func47 rfl rfl
theorem en48 : Enters Tryd.prog 48 := enters_of Tryd.func48 rfl rfl
theorem en49 : Enters Tryd.prog 49 := enters_of Tryd.func49 rfl rfl
theorem en50 : Enters Tryd.prog 50 := enters_of Tryd.func50 rfl rfl
theorem en51 : Enters Tryd.prog 51 := enters_of Tryd.func51 rfl rfl
theorem en60 : Enters Tryd.prog 60 := enters_of Tryd.func60 rfl rfl
theorem ar65 : arOf Tryd.prog 65 = some (14, 1) := by kernel_rfl
theorem ar85 : arOf Tryd.prog 85 = some (13, 1) := by kernel_rfl
theorem ar92 : arOf Tryd.prog 92 = some (24, 1) := by kernel_rfl
theorem ar104 : arOf Tryd.prog 104 = some (20, 1) := by kernel_rfl
theorem ar106 : arOf Tryd.prog 106 = some (65, 1) := by kernel_rfl
theorem ar122 : arOf Tryd.prog 122 = some (32, 1) := by kernel_rfl
theorem ar123 : arOf Tryd.prog 123 = some (64, 1) := by kernel_rfl
theorem el22 : elOf Tryd.prog 22 = some (1, 1) := by kernel_rfl
theorem el24 : elOf Tryd.prog 24 = some (4, 56) := by kernel_rfl
theorem el29 : elOf Tryd.prog 29 = some (3, 32) := by kernel_rfl
theorem el50 : elOf Tryd.prog 50 = some (1, 16) := by kernel_rfl
theorem el51 : elOf Tryd.prog 51 = some (1, 8) := by kernel_rfl
theorem el65 : elOf Tryd.prog 65 = none := by kernel_rfl
theorem el79 : elOf Tryd.prog 79 = some (1, 16) := by kernel_rfl
theorem el85 : elOf Tryd.prog 85 = none := by kernel_rfl
theorem el92 : elOf Tryd.prog 92 = none := by kernel_rfl
theorem el104 : elOf Tryd.prog 104 = none := by kernel_rfl
theorem el106 : elOf Tryd.prog 106 = none := by kernel_rfl
theorem el122 : elOf Tryd.prog 122 = none := by kernel_rfl
theorem el123 : elOf Tryd.prog 123 = none := by kernel_rfl
theorem eq32 : eqOf Tryd.prog 32 = some [(0, 0), (1, 1), (2, 0)] := by kernel_rfl
theorem fl26_0 : fldOf Tryd.prog 26 0 = some (0, 1, false) := by kernel_rfl
theorem fl26_1 : fldOf Tryd.prog 26 1 = some (1, 1, false) := by kernel_rfl
theorem fl26_2 : fldOf Tryd.prog 26 2 = some (2, 1, false) := by kernel_rfl
theorem fl26_3 : fldOf Tryd.prog 26 3 = some (3, 1, false) := by kernel_rfl
theorem fl32_0 : fldOf Tryd.prog 32 0 = some (0, 1, false) := by kernel_rfl
theorem fl32_1 : fldOf Tryd.prog 32 1 = some (1, 1, false) := by kernel_rfl
theorem fl32_2 : fldOf Tryd.prog 32 2 = some (2, 1, false) := by kernel_rfl
theorem fl42_0 : fldOf Tryd.prog 42 0 = some (0, 1, false) := by kernel_rfl
theorem fl42_1 : fldOf Tryd.prog 42 1 = some (1, 1, false) := by kernel_rfl
theorem fl55_0 : fldOf Tryd.prog 55 0 = some (0, 4, true) := by kernel_rfl
theorem fl72_0 : fldOf Tryd.prog 72 0 = some (0, 1, false) := by kernel_rfl
theorem fl72_1 : fldOf Tryd.prog 72 1 = some (1, 1, false) := by kernel_rfl
theorem pl26 : plOf Tryd.prog 26 = some [(0, 1), (1, 1), (2, 1), (3, 1)] := by kernel_rfl
theorem pl32 : plOf Tryd.prog 32 = some [(0, 1), (1, 1), (2, 1)] := by kernel_rfl
theorem pl42 : plOf Tryd.prog 42 = some [(0, 1), (1, 1)] := by kernel_rfl
theorem pl55 : plOf Tryd.prog 55 = some [(0, 4)] := by kernel_rfl
theorem pl120 : plOf Tryd.prog 120 = some [(0, 1), (1, 1), (2, 1)] := by kernel_rfl
theorem pl126 : plOf Tryd.prog 126 = some [(0, 1)] := by kernel_rfl
theorem ti2 : tiOf Tryd.prog 2 = some ⟨1, 8, false, [.int .i64 0]⟩ := by kernel_rfl
theorem ti3 : tiOf Tryd.prog 3 = some ⟨1, 8, false, [.int .i64 0]⟩ := by kernel_rfl
theorem ti5 : tiOf Tryd.prog 5 = some ⟨1, 1, false, [.int .u8 0]⟩ := by kernel_rfl
theorem ti9 : tiOf Tryd.prog 9 = some ⟨1, 16, false, [.str []]⟩ := by kernel_rfl
theorem ti22 : tiOf Tryd.prog 22 = some ⟨1, 24, false, [.vec [] true]⟩ := by kernel_rfl
theorem ti24 : tiOf Tryd.prog 24 = some ⟨1, 24, false, [.vec [] true]⟩ := by kernel_rfl
theorem ti26 : tiOf Tryd.prog 26 = some ⟨4, 56, true, [.int .i64 0, .str [], .int .i64 0, .vec [] true]⟩ := by kernel_rfl
theorem ti32 : tiOf Tryd.prog 32 = some ⟨3, 32, true, [.int .i64 0, .str [], .int .i64 0]⟩ := by kernel_rfl
theorem ti42 : tiOf Tryd.prog 42 = some ⟨2, 32, true, [.vec [] true, .int .i64 0]⟩ := by kernel_rfl
theorem ti44 : tiOf Tryd.prog 44 = some ⟨1, 8, false, [.nilf]⟩ := by kernel_rfl
theorem ti55 : tiOf Tryd.prog 55 = some ⟨4, 56, true, [.int .i64 0, .str [], .int .i64 0, .vec [] true]⟩ := by kernel_rfl
theorem ti70 : tiOf Tryd.prog 70 = some ⟨1, 8, false, [.nilp]⟩ := by kernel_rfl
theorem ti72 : tiOf Tryd.prog 72 = some ⟨2, 32, true, [.nilp, .vec [] true]⟩ := by kernel_rfl
theorem ti75 : tiOf Tryd.prog 75 = some ⟨1, 16, false, [.nili]⟩ := by kernel_rfl
theorem ti81 : tiOf Tryd.prog 81 = some ⟨1, 16, false, [.nili]⟩ := by kernel_rfl
theorem ti92 : tiOf Tryd.prog 92 = some ⟨24, 24, true, [.int .u8 0, .int .u8 0, .int .u8 0, .int .u8 0, .int .u8 0, .int .u8 0, .int .u8 0, .int .u8 0, .int .u8 0, .int .u8 0, .int .u8 0, .int .u8 0, .int .u8 0, .int .u8 0, .int .u8 0, .int .u8 0, .int .u8 0, .int .u8 0, .int .u8 0, .int .u8 0, .int .u8 0, .int .u8 0, .int .u8 0, .int .u8 0]⟩ := by kernel_rfl
theorem ti93 : tiOf Tryd.prog 93 = some ⟨1, 8, false, [.int .u64 0]⟩ := by kernel_rfl
theorem ti106 : tiOf Tryd.prog 106 = some ⟨65, 65, true, [.int .u8 0, .int .u8 0, .int .u8 0, .int .u8 0, .int .u8 0, .int .u8 0, .int .u8 0, .int .u8 0, .int .u8 0, .int .u8 0, .int .u8 0, .int .u8 0, .int .u8 0, .int .u8 0, .int .u8 0, .int .u8 0, .int .u8 0, .int .u8 0, .int .u8 0, .int .u8 0, .int .u8 0, .int .u8 0, .int .u8 0, .int .u8 0, .int .u8 0, .int .u8 0, .int .u8 0, .int .u8 0, .int .u8 0, .int .u8 0, .int .u8 0, .int .u8 0, .int .u8 0, .int .u8 0, .int .u8 0, .int .u8 0, .int .u8 0, .int .u8 0, .int .u8 0, .int .u8 0, .int .u8 0, .int .u8 0, .int .u8 0, .int .u8 0, .int .u8 0, .int .u8 0, .int .u8 0, .int .u8 0, .int .u8 0, .int .u8 0, .int .u8 0, .int .u8 0, .int .u8 0, .int .u8 0, .int .u8 0, .int .u8 0, .int .u8 0, .int .u8 0, .int .u8 0, .int .u8 0, .int .u8 0, .int .u8 0, .int .u8 0, .int .u8 0, .int .u8 0]⟩ := by kernel_rfl
theorem ti120 : tiOf Tryd.prog 120 = some ⟨3, 48, true, [.str [], .str [], .nili]⟩ := by kernel_rfl
theorem ti126 : tiOf Tryd.prog 126 = some ⟨1, 16, true, [.str []]⟩ := by kernel_rfl
theorem un2 : Tryd.prog.underlying 2 = some (.int .i64) := by kernel_rfl
theorem un3 : Tryd.prog.underlying 3 = some (.int .i64) := by kernel_rfl
theorem un4 : Tryd.prog.underlying 4 = some .bool := by kernel_rfl
theorem un5 : Tryd.prog.underlying 5 = some (.int .u8) := by kernel_rfl
theorem un9 : Tryd.prog.underlying 9 = some .string := by kernel_rfl
theorem un22 : Tryd.prog.underlying 22 = some (.slice 5) := by kernel_rfl
theorem un24 : Tryd.prog.underlying 24 = some (.slice 26) := by kernel_rfl
theorem un29 : Tryd.prog.underlying 29 = some (.slice 32) := by kernel_rfl
theorem un50 : Tryd.prog.underlying 50 = some (.slice 9) := by kernel_rfl
theorem un51 : Tryd.prog.underlying 51 = some (.slice 3) := by kernel_rfl
theorem un57 : Tryd.prog.underlying 57 = some .string := by kernel_rfl
theorem un60 : Tryd.prog.underlying 60 = some .string := by kernel_rfl
theorem un61 : Tryd.prog.underlying 61 = some .string := by kernel_rfl
theorem un70 : Tryd.prog.underlying 70 = some (.pointer 72) := by kernel_rfl
theorem un79 : Tryd.prog.underlying 79 = some (.slice 81) := by kernel_rfl
theorem un93 : Tryd.prog.underlying 93 = some (.int .u64) := by kernel_rfl
theorem un105 : Tryd.prog.underlying 105 = some (.int .u32) := by kernel_rfl
theorem un108 : Tryd.prog.underlying 108 = some (.int .u64) := by kernel_rfl
theorem un110 : Tryd.prog.underlying 110 = some (.int .i64) := by kernel_rfl
theorem un113 : Tryd.prog.underlying 113 = some (.pointer 120) := by kernel_rfl
theorem un124 : Tryd.prog.underlying 124 = some (.pointer 126) := by kernel_rfl
theorem mixed : Tryd.prog.follows .mixedOrders = true := by kernel_rfl
theorem ti57 : tiOf Tryd.prog 57 = some ⟨1, 16, false, [.str []]⟩ := by kernel_rfl
theorem ti60 : tiOf Tryd.prog 60 = some ⟨1, 16, false, [.str []]⟩ := by kernel_rfl
theorem ti61 : tiOf Tryd.prog 61 = some ⟨1, 16, false, [.str []]⟩ := by kernel_rfl
end Go.Proofs.YtddnigahjahkbaaDoor
namespace Go.Proofs.YtddnigahjahkbaaDoor
set_option linter.unusedVariables false
set_option linter.unusedSimpArgs false
set_option maxRecDepth 100000
open Go.RowKit Fw
theorem take_snoc {X : Type} {l : List X} {i : Nat} {x : X} (h : l[i]? = some x) : l.take (i + 1) = l.take i ++ [x] := by rw [List.take_add_one, h]; rfl
theorem bx : (arOf Tryd.prog 65 = some (14, 1)) ∧ (arOf Tryd.prog 85 = some (13, 1)) ∧ (arOf Tryd.prog 92 = some (24, 1)) ∧ (arOf Tryd.prog 104 = some (20, 1)) ∧ (arOf Tryd.prog 106 = some (65, 1)) ∧ (arOf Tryd.prog 122 = some (32, 1)) ∧ (arOf Tryd.prog 123 = some (64, 1)) ∧ (elOf Tryd.prog 22 = some (1, 1)) ∧ (elOf Tryd.prog 24 = some (4, 56)) ∧ (elOf Tryd.prog 29 = some (3, 32)) ∧ (elOf Tryd.prog 50 = some (1, 16)) ∧ (elOf Tryd.prog 51 = some (1, 8)) ∧ (elOf Tryd.prog 65 = none) ∧ (elOf Tryd.prog 79 = some (1, 16)) ∧ (elOf Tryd.prog 85 = none) ∧ (elOf Tryd.prog 92 = none) ∧ (elOf Tryd.prog 104 = none) ∧ (elOf Tryd.prog 106 = none) ∧ (elOf Tryd.prog 122 = none) ∧ (elOf Tryd.prog 123 = none) ∧ (eqOf Tryd.prog 32 = some [(0, 0), (1, 1), (2, 0)]) ∧ (fldOf Tryd.prog 26 0 = some (0, 1, false)) ∧ (fldOf Tryd.prog 26 1 = some (1, 1, false)) ∧ (fldOf Tryd.prog 26 2 = some (2, 1, false)) ∧ (fldOf Tryd.prog 26 3 = some (3, 1, false)) ∧ (fldOf Tryd.prog 32 0 = some (0, 1, false)) ∧ (fldOf Tryd.prog 32 1 = some (1, 1, false)) ∧ (fldOf Tryd.prog 32 2 = some (2, 1, false)) ∧ (fldOf Tryd.prog 42 0 = some (0, 1, false)) ∧ (fldOf Tryd.prog 42 1 = some (1, 1, false)) ∧ (fldOf Tryd.prog 55 0 = some (0, 4, true)) ∧ (fldOf Tryd.prog 72 0 = some (0, 1, false)) ∧ (fldOf Tryd.prog 72 1 = some (1, 1, false)) ∧ (plOf Tryd.prog 26 = some [(0, 1), (1, 1), (2, 1), (3, 1)]) ∧ (plOf Tryd.prog 32 = some [(0, 1), (1, 1), (2, 1)]) ∧ (plOf Tryd.prog 42 = some [(0, 1), (1, 1)]) ∧ (plOf Tryd.prog 55 = some [(0, 4)]) ∧ (plOf Tryd.prog 120 = some [(0, 1), (1, 1), (2, 1)]) ∧ (plOf Tryd.prog 126 = some [(0, 1)]) ∧ (tiOf Tryd.prog 2 = some ⟨1, 8, false, [.int .i64 0]⟩) ∧ (tiOf Tryd.prog 3 = some ⟨1, 8, false, [.int .i64 0]⟩) ∧ (tiOf Tryd.prog 5 = some ⟨1, 1, false, [.int .u8 0]⟩) ∧ (tiOf Tryd.prog 9 = some ⟨1, 16, false, [.str []]⟩) ∧ (tiOf Tryd.prog 22 = some ⟨1, 24, false, [.vec [] true]⟩) ∧ (tiOf Tryd.prog 24 = some ⟨1, 24, false, [.vec [] true]⟩) ∧ (tiOf Tryd.prog 26 = some ⟨4, 56, true, [.int .i64 0, .str [], .int .i64 0, .vec [] true]⟩) ∧ (tiOf Tryd.prog 32 = some ⟨3, 32, true, [.int .i64 0, .str [], .int .i64 0]⟩) ∧ (tiOf Tryd.prog 42 = some ⟨2, 32, true, [.vec [] true, .int .i64 0]⟩) ∧ (tiOf Tryd.prog 44 = some ⟨1, 8, false, [.nilf]⟩) ∧ (tiOf Tryd.prog 55 = some ⟨4, 56, true, [.int .i64 0, .str [], .int .i64 0, .vec [] true]⟩) ∧ (tiOf Tryd.prog 70 = some ⟨1, 8, false, [.nilp]⟩) ∧ (tiOf Tryd.prog 72 = some ⟨2, 32, true, [.nilp, .vec [] true]⟩) ∧ (tiOf Tryd.prog 75 = some ⟨1, 16, false, [.nili]⟩) ∧ (tiOf Tryd.prog 81 = some ⟨1, 16, false, [.nili]⟩) ∧ (tiOf Tryd.prog 92 = some ⟨24, 24, true, [.int .u8 0, .int .u8 0, .int .u8 0, .int .u8 0, .int .u8 0, .int .u8 0, .int .u8 0, .int .u8 0, .int .u8 0, .int .u8 0, .int .u8 0, .int .u8 0, .int .u8 0, .int .u8 0, .int .u8 0, .int .u8 0, .int .u8 0, .int .u8 0, .int .u8 0, .int .u8 0, .int .u8 0, .int .u8 0, .int .u8 0, .int .u8 0]⟩) ∧ (tiOf Tryd.prog 93 = some ⟨1, 8, false, [.int .u64 0]⟩) ∧ (tiOf Tryd.prog 106 = some ⟨65, 65, true, [.int .u8 0, .int .u8 0, .int .u8 0, .int .u8 0, .int .u8 0, .int .u8 0, .int .u8 0, .int .u8 0, .int .u8 0, .int .u8 0, .int .u8 0, .int .u8 0, .int .u8 0, .int .u8 0, .int .u8 0, .int .u8 0, .int .u8 0, .int .u8 0, .int .u8 0, .int .u8 0, .int .u8 0, .int .u8 0, .int .u8 0, .int .u8 0, .int .u8 0, .int .u8 0, .int .u8 0, .int .u8 0, .int .u8 0, .int .u8 0, .int .u8 0, .int .u8 0, .int .u8 0, .int .u8 0, .int .u8 0, .int .u8 0, .int .u8 0, .int .u8 0, .int .u8 0, .int .u8 0, .int .u8 0, .int .u8 0, .int .u8 0, .int .u8 0, .int .u8 0, .int .u8 0, .int .u8 0, .int .u8 0, .int .u8 0, .int .u8 0, .int .u8 0, .int .u8 0, .int .u8 0, .int .u8 0, .int .u8 0, .int .u8 0, .int .u8 0, .int .u8 0, .int .u8 0, .int .u8 0, .int .u8 0, .int .u8 0, .int .u8 0, .int .u8 0, .int .u8 0]⟩) ∧ (tiOf Tryd.prog 120 = some ⟨3, 48, true, [.str [], .str [], .nili]⟩) ∧ (tiOf Tryd.prog 126 = some ⟨1, 16, true, [.str []]⟩) ∧ (Tryd.prog.underlying 2 = some (.int .i64)) ∧ (Tryd.prog.underlying 3 = some (.int .i64)) ∧ (Tryd.prog.underlying 4 = some .bool) ∧ (Tryd.prog.underlying 5 = some (.int .u8)) ∧ (Tryd.prog.underlying 9 = some .string) ∧ (Tryd.prog.underlying 22 = some (.slice 5)) ∧ (Tryd.prog.underlying 24 = some (.slice 26)) ∧ (Tryd.prog.underlying 29 = some (.slice 32)) ∧ (Tryd.prog.underlying 50 = some (.slice 9)) ∧ (Tryd.prog.underlying 51 = some (.slice 3)) ∧ (Tryd.prog.underlying 57 = some .string) ∧ (Tryd.prog.underlying 60 = some .string) ∧ (Tryd.prog.underlying 61 = some .string) ∧ (Tryd.prog.underlying 70 = some (.pointer 72)) ∧ (Tryd.prog.underlying 79 = some (.slice 81)) ∧ (Tryd.prog.underlying 93 = some (.int .u64)) ∧ (Tryd.prog.underlying 105 = some (.int .u32)) ∧ (Tryd.prog.underlying 108 = some (.int .u64)) ∧ (Tryd.prog.underlying 110 = some (.int .i64)) ∧ (Tryd.prog.underlying 113 = some (.pointer 120)) ∧ (Tryd.prog.underlying 124 = some (.pointer 126)) :=
  ⟨ar65, ar85, ar92, ar104, ar106, ar122, ar123, el22, el24, el29, el50, el51, el65, el79, el85, el92, el104, el106, el122, el123, eq32, fl26_0, fl26_1, fl26_2, fl26_3, fl32_0, fl32_1, fl32_2, fl42_0, fl42_1, fl55_0, fl72_0, fl72_1, pl26, pl32, pl42, pl55, pl120, pl126, ti2, ti3, ti5, ti9, ti22, ti24, ti26, ti32, ti42, ti44, ti55, ti70, ti72, ti75, ti81, ti92, ti93, ti106, ti120, ti126, un2, un3, un4, un5, un9, un22, un24, un29, un50, un51, un57, un60, un61, un70, un79, un93, un105, un108, un110, un113, un124⟩
theorem dx :
    ((∀ n, (S1 n).length = 1) ∧ (∀ n, (S1 n)[0]? = some (.str n)) ∧ (∀ (m : Nat) n, PV.bdL m (S1 n) = true)) ∧
    ((∀ n, (I1 n).length = 1) ∧ (∀ n, (I1 n)[0]? = some (.int .i64 n)) ∧ (∀ (m : Nat) n, PV.bdL m (I1 n) = true)) ∧
    ((∀ n, (B8 n).length = 1) ∧ (∀ n, (B8 n)[0]? = some (.int .u8 n)) ∧ (∀ (m : Nat) n, PV.bdL m (B8 n) = true)) ∧
    ((∀ t : Tk, t.enc.length = 3) ∧ (∀ t : Tk, t.enc[0]? = some (.int .i64 t.kind)) ∧ (∀ t : Tk, t.enc[1]? = some (.str t.text)) ∧ (∀ t : Tk, t.enc[2]? = some (.int .i64 t.n)) ∧ (∀ t : Tk, t.enc.drop 1 = [.str t.text, .int .i64 t.n]) ∧ (∀ t : Tk, t.enc.drop 2 = [.int .i64 t.n]) ∧ (∀ t : Tk, t.enc.take 3 = t.enc) ∧ (∀ (m : Nat) (t : Tk), PV.bdL m t.enc = true)) :=
  ⟨S1_fw, I1_fw, B8_fw, Tk.fw⟩
end Go.Proofs.YtddnigahjahkbaaDoor
namespace Go.Proofs.YtddnigahjahkbaaDoor
set_option linter.unusedVariables false
set_option linter.unusedSimpArgs false
set_option maxRecDepth 100000
open Go.RowKit Fw
theorem c19 (Γ : Nat → PV) (f : Nat) (he : Enters Tryd.prog f) (xs ys : List Tm) (h : ∀ x ∈ xs, ∀ y : Tm, Gives Tryd.prog Γ f [.agg x.enc, .agg y.enc] (.bool (decide (x = y)))) :
    Gives Tryd.prog Γ 19 [.vec (xs.map Tm.enc) false, .vec (ys.map Tm.enc) false, .func (.func f) [] []] (.bool (decide (xs = ys))) := by
  refine fn_of_awp Tryd.func19 rfl (by simp [Tryd.f19]) rfl fun H => awp_bd fun hbd => ?_
  refine awp_seq ?_
  -- region 0
  refine awp_run rfl (by simp only [fwA, ↓reduceIte, Nat.reduceAdd, Nat.reduceMul, Nat.reduceEqDiff, Nat.reduceLT, Nat.reduceLeDiff, reduceCtorEq] <;> rfl) ?_
  refine awp_vlen 0 rfl fun hlen => ?_
  rw [List.length_map] at hlen
  refine awp_seq ?_
  refine awp_seq ?_
  -- region 1
  refine awp_run rfl (by simp only [fwA, ↓reduceIte, Nat.reduceAdd, Nat.reduceMul, Nat.reduceEqDiff, Nat.reduceLT, Nat.reduceLeDiff, reduceCtorEq, un24, List.length_map] <;> rfl) ?_
  refine awp_cond (by simp only [fwA, ↓reduceIte, Nat.reduceAdd, Nat.reduceMul, Nat.reduceEqDiff, Nat.reduceLT, Nat.reduceLeDiff, reduceCtorEq] <;> rfl) ?_
  by_cases hl : (xs.length : Int) = ys.length
  rotate_left
  · simp only [hl, decide_false, Bool.not_false, ↓reduceIte]
    refine awp_seq (awp_run rfl (by simp only [fwA, ↓reduceIte, Nat.reduceAdd, Nat.reduceMul, Nat.reduceEqDiff, Nat.reduceLT, Nat.reduceLeDiff, reduceCtorEq] <;> rfl) (awp_ret ?_))
    exact gives_end0 (.inl rfl) (by rw [decide_eq_false (fun e => hl (by rw [e]))]; rfl)
  simp only [hl, decide_true, Bool.not_true, Bool.false_eq_true, ↓reduceIte]
  refine awp_skip ?_
  have hl' : xs.length = ys.length := by omega
  refine awp_seq ?_
  refine awp_seq ?_
  -- region 3
  refine awp_run rfl (by simp only [fwA, ↓reduceIte, Nat.reduceAdd, Nat.reduceMul, Nat.reduceEqDiff, Nat.reduceLT, Nat.reduceLeDiff, reduceCtorEq, un24, List.length_map] <;> rfl) ?_
  refine awp_block ?_
  refine awp_forG [1, 2, 15, 16, 17] (fun i : Nat => [.vec (ys.map Tm.enc) false, .func (.func f) [] [], .vec (xs.map Tm.enc) false, .int .i64 xs.length, .int .i64 (i : Int)]) (fun _ => H) (fun i => xs.length - i)
    (fun i => i ≤ xs.length ∧ xs.take i = ys.take i) 0 rfl rfl ⟨Nat.zero_le _, rfl⟩ (fun i _ => ⟨hbd, rfl⟩) (fun i _ b hb => by cases hb) fun i hi => ?_
  refine awp_seq ?_
  -- region 4
  refine awp_run rfl (by simp only [fwA, ↓reduceIte, Nat.reduceAdd, Nat.reduceMul, Nat.reduceEqDiff, Nat.reduceLT, Nat.reduceLeDiff, reduceCtorEq] <;> rfl) ?_
  refine awp_seq ?_
  refine awp_cond (by simp only [fwA, ↓reduceIte, Nat.reduceAdd, Nat.reduceMul, Nat.reduceEqDiff, Nat.reduceLT, Nat.reduceLeDiff, reduceCtorEq] <;> rfl) ?_
  by_cases hc : (i : Int) < xs.length
  rotate_left
  · simp only [hc, decide_false, Bool.false_eq_true, ↓reduceIte]
    refine awp_exit ?_
    have hi' : i = xs.length := by omega
    refine awp_seq (awp_run rfl (by simp only [fwA, ↓reduceIte, Nat.reduceAdd, Nat.reduceMul, Nat.reduceEqDiff, Nat.reduceLT, Nat.reduceLeDiff, reduceCtorEq] <;> rfl) (awp_ret ?_))
    have e : xs = ys := by
      have := hi.2
      rwa [hi', List.take_length, hl', List.take_length] at this
    exact gives_end0 (.inl rfl) (by rw [decide_eq_true e]; rfl)
  simp only [hc, decide_true, ↓reduceIte]
  refine awp_skip ?_
  have hix : i < xs.length := by omega
  have gx : xs[i]? = some xs[i] := List.getElem?_eq_getElem hix
  have gy : ys[i]? = some (ys[i]'(by omega)) := List.getElem?_eq_getElem (by omega)
  refine awp_seq ?_
  refine awp_block ?_
  refine awp_seq ?_
  -- region 5
  refine awp_run rfl (by simp only [fwA, ↓reduceIte, Nat.reduceAdd, Nat.reduceMul, Nat.reduceEqDiff, Nat.reduceLT, Nat.reduceLeDiff, reduceCtorEq, el24, ti26, Tm.fw, List.getElem?_map, gx, Option.map_some, Int.natCast_nonneg] <;> rfl) ?_
  refine awp_seq ?_
  -- region 6
  refine awp_run rfl (by simp only [fwA, ↓reduceIte, Nat.reduceAdd, Nat.reduceMul, Nat.reduceEqDiff, Nat.reduceLT, Nat.reduceLeDiff, reduceCtorEq, el24, ti26, Tm.fw, List.getElem?_map, gy, Option.map_some, Int.natCast_nonneg] <;> rfl) ?_
  refine awp_seq ?_
  -- region 7
  refine awp_region rfl ?_
  refine aops_run 3 (by simp only [fwA, ↓reduceIte, Nat.reduceAdd, Nat.reduceMul, Nat.reduceEqDiff, Nat.reduceLT, Nat.reduceLeDiff, reduceCtorEq, ti26, Tm.fw] <;> rfl) ?_
  refine aops_fn rfl rfl rfl he (h _ (List.getElem_mem hix) _) ?_
  refine aops_run 1 (by simp only [fwA, ↓reduceIte, Nat.reduceAdd, Nat.reduceMul, Nat.reduceEqDiff, Nat.reduceLT, Nat.reduceLeDiff, reduceCtorEq] <;> rfl) ?_
  refine awp_cond (by simp only [fwA, ↓reduceIte, Nat.reduceAdd, Nat.reduceMul, Nat.reduceEqDiff, Nat.reduceLT, Nat.reduceLeDiff, reduceCtorEq] <;> rfl) ?_
  by_cases hk : xs[i] = ys[i]'(by omega)
  rotate_left
  · simp only [hk, decide_false, Bool.not_false, ↓reduceIte]
    refine awp_seq (awp_run rfl (by simp only [fwA, ↓reduceIte, Nat.reduceAdd, Nat.reduceMul, Nat.reduceEqDiff, Nat.reduceLT, Nat.reduceLeDiff, reduceCtorEq] <;> rfl) (awp_ret ?_))
    exact gives_end (.inl rfl) _ (by rw [decide_eq_false (fun e => hk (by subst e; rfl))]; rfl)
  simp only [hk, decide_true, Bool.not_true, Bool.false_eq_true, ↓reduceIte]
  refine awp_skip ?_
  -- region 9
  refine awp_run rfl (by simp only [fwA, ↓reduceIte, Nat.reduceAdd, Nat.reduceMul, Nat.reduceEqDiff, Nat.reduceLT, Nat.reduceLeDiff, reduceCtorEq] <;> rfl) ?_
  exact ⟨i + 1, _, by omega, ⟨by omega, by rw [List.take_add_one, List.take_add_one, hi.2, gx, gy, hk]⟩, by rw [wrapS i (by omega)]; rfl, rfl, rfl, Nat.le_refl _⟩
theorem c13 (Γ : Nat → PV) : ∀ a b : Tm, Gives Tryd.prog Γ 13 [.agg a.enc, .agg b.enc] (.bool (decide (a = b))) := by
  suffices ∀ n, ∀ a, SizeOf.sizeOf a < n → ∀ b : Tm, Gives Tryd.prog Γ 13 [.agg a.enc, .agg b.enc] (.bool (decide (a = b))) from fun a b => this _ a (Nat.lt_succ_self _) b
  intro n
  induction n with
  | zero => intro a ha; omega
  | succ n ih =>
  intro a ha b
  refine fn_of_awp Tryd.func13 rfl (by simp [Tryd.f13]) rfl fun H => ?_
  refine awp_seq ?_
  -- region 0
  refine awp_run rfl (by simp only [fwA, ↓reduceIte, Nat.reduceAdd, Nat.reduceMul, Nat.reduceEqDiff, Nat.reduceLT, Nat.reduceLeDiff, reduceCtorEq] <;> rfl) ?_
  refine awp_seq ?_
  -- region 1
  by_cases h1 : a.kind = b.kind
  rotate_left
  · refine awp_region rfl (aops_run 24 (by simp only [fwA, ↓reduceIte, Nat.reduceAdd, Nat.reduceMul, Nat.reduceEqDiff, Nat.reduceLT, Nat.reduceLeDiff, reduceCtorEq, fl26_0, ti3, fl26_1, ti9, fl26_2, ti2, fl26_3, ti24, Tm.fw, h1, decide_false, decide_true] <;> rfl) (aops_run 3 (by simp only [fwA, ↓reduceIte, Nat.reduceAdd, Nat.reduceMul, Nat.reduceEqDiff, Nat.reduceLT, Nat.reduceLeDiff, reduceCtorEq, fl26_0] <;> rfl) (awp_ret ?_)))
    exact gives_end (.inl rfl) _ (by rw [decide_eq_false (fun e => h1 (by rw [e]))]; rfl)
  by_cases h2 : a.name = b.name
  rotate_left
  · refine awp_region rfl (aops_run 24 (by simp only [fwA, ↓reduceIte, Nat.reduceAdd, Nat.reduceMul, Nat.reduceEqDiff, Nat.reduceLT, Nat.reduceLeDiff, reduceCtorEq, fl26_0, ti3, fl26_1, ti9, fl26_2, ti2, fl26_3, ti24, Tm.fw, h1, h2, decide_false, decide_true] <;> rfl) (aops_run 3 (by simp only [fwA, ↓reduceIte, Nat.reduceAdd, Nat.reduceMul, Nat.reduceEqDiff, Nat.reduceLT, Nat.reduceLeDiff, reduceCtorEq, fl26_0] <;> rfl) (awp_ret ?_)))
    exact gives_end (.inl rfl) _ (by rw [decide_eq_false (fun e => h2 (by rw [e]))]; rfl)
  by_cases h3 : a.n = b.n
  rotate_left
  · refine awp_region rfl (aops_run 24 (by simp only [fwA, ↓reduceIte, Nat.reduceAdd, Nat.reduceMul, Nat.reduceEqDiff, Nat.reduceLT, Nat.reduceLeDiff, reduceCtorEq, fl26_0, ti3, fl26_1, ti9, fl26_2, ti2, fl26_3, ti24, Tm.fw, h1, h2, h3, decide_false, decide_true] <;> rfl) (aops_run 3 (by simp only [fwA, ↓reduceIte, Nat.reduceAdd, Nat.reduceMul, Nat.reduceEqDiff, Nat.reduceLT, Nat.reduceLeDiff, reduceCtorEq, fl26_0] <;> rfl) (awp_ret ?_)))
    exact gives_end (.inl rfl) _ (by rw [decide_eq_false (fun e => h3 (by rw [e]))]; rfl)
  refine awp_region rfl ?_
  refine aops_run 24 (by simp only [fwA, ↓reduceIte, Nat.reduceAdd, Nat.reduceMul, Nat.reduceEqDiff, Nat.reduceLT, Nat.reduceLeDiff, reduceCtorEq, fl26_0, ti3, fl26_1, ti9, fl26_2, ti2, fl26_3, ti24, Tm.fw, h1, h2, h3, decide_true] <;> rfl) ?_
  refine aops_fnIf rfl rfl rfl rfl rfl en19 (c19 Γ 13 en13 a.kids b.kids (fun x hx y => ih x (by have := Tm.kids_lt hx; omega) y)) ?_
  refine aops_run 2 (by simp only [fwA, ↓reduceIte, Nat.reduceAdd, Nat.reduceMul, Nat.reduceEqDiff, Nat.reduceLT, Nat.reduceLeDiff, reduceCtorEq] <;> rfl) ?_
  refine awp_ret ?_
  refine gives_end (.inl rfl) _ ?_
  by_cases h4 : a.kids = b.kids
  · rw [decide_eq_true (Tm.ext h1 h2 h3 h4)]; simp [ares, aresL, ares1, alook, Tryd.f13, h4]
  · have e1 : decide (a = b) = false := decide_eq_false (fun e => h4 (by rw [e]))
    rw [e1]; simp [ares, aresL, ares1, alook, Tryd.f13, h4]
end Go.Proofs.YtddnigahjahkbaaDoor
namespace Go.Proofs.YtddnigahjahkbaaDoor
set_option linter.unusedVariables false
set_option linter.unusedSimpArgs false
set_option maxRecDepth 100000
open Go.RowKit Fw
def maxL (l : List Nat) : Nat := l.foldl max 0
theorem foldl_max (l : List Nat) (a : Nat) : l.foldl max a = max a (l.foldl max 0) := by
  induction l generalizing a with
  | nil => simp
  | cons x l ih => simp only [List.foldl_cons]; rw [ih, ih (max 0 x)]; omega
theorem maxL_cons (x : Nat) (l : List Nat) : maxL (x :: l) = max x (maxL l) := by
  unfold maxL
  rw [List.foldl_cons, foldl_max]; simp
theorem maxL_snoc (l : List Nat) (x : Nat) : maxL (l ++ [x]) = max (maxL l) x := by simp [maxL, List.foldl_append]
theorem maxL_le {l : List Nat} {n : Nat} (h : ∀ x ∈ l, x ≤ n) : maxL l ≤ n := by
  induction l with
  | nil => exact Nat.zero_le _
  | cons x l ih => rw [maxL_cons]; exact Nat.max_le.2 ⟨h x (by simp), ih fun y hy => h y (by simp [hy])⟩
namespace Tm
mutual
def dep : Tm → Nat
  | mk _ _ _ ks => deps ks + 1
def deps : List Tm → Nat
  | [] => 0
  | t :: ts => max (dep t) (deps ts)
end
theorem deps_max : ∀ l : List Tm, deps l = maxL (l.map dep)
  | [] => rfl
  | t :: l => by rw [deps, List.map_cons, maxL_cons, deps_max l]
theorem dep_eq (t : Tm) : t.dep = maxL (t.kids.map dep) + 1 := by cases t; rw [dep, deps_max]; rfl
theorem ind {P : Tm → Prop} (h : ∀ t, (∀ k ∈ t.kids, P k) → P t) : ∀ t, P t := by
  suffices ∀ n, ∀ t : Tm, SizeOf.sizeOf t < n → P t from fun t => this _ t (Nat.lt_succ_self _)
  intro n
  induction n with
  | zero => intro t ht; omega
  | succ n ih => exact fun t ht => h t fun k hk => ih k (by have := kids_lt hk; omega)
theorem le_sum {k : Tm} {l : List Tm} (h : k ∈ l) : k.w ≤ (l.map w).sum := by
  induction l with
  | nil => cases h
  | cons x l ih =>
    rw [List.map_cons, List.sum_cons]
    rcases List.mem_cons.1 h with rfl | h
    · omega
    · have := ih h; omega
theorem kid_w {t k : Tm} (h : k ∈ t.kids) : k.w + 1 ≤ t.w := by rw [w_eq t]; have := le_sum h; omega
theorem dep_w : ∀ t : Tm, t.dep ≤ t.w := by
  refine ind fun t ih => ?_
  rw [dep_eq, w_eq]
  have := maxL_le (l := t.kids.map dep) (n := (t.kids.map w).sum) fun x hx => by
    obtain ⟨k, hk, rfl⟩ := List.mem_map.1 hx
    have := ih k hk; have := le_sum hk; omega
  omega
theorem kids_w (t : Tm) : t.kids.length + 1 ≤ t.w := by
  rw [w_eq]
  have : ∀ l : List Tm, l.length ≤ (l.map w).sum := fun l => by
    induction l with
    | nil => simp
    | cons x l ih => rw [List.length_cons, List.map_cons, List.sum_cons]; have : 1 ≤ x.w := by rw [w_eq]; omega
                     omega
  have := this t.kids
  omega
def binder (t : Tm) : Bool := decide (t.kind = 3) || decide (t.kind = 5) || decide (t.kind = 9)
end Tm
def letB (c : UInt8) : Bool := (decide (97 ≤ c.toNat) && decide (c.toNat ≤ 122)) || (decide (65 ≤ c.toNat) && decide (c.toNat ≤ 90))
def digB (c : UInt8) : Bool := decide (48 ≤ c.toNat) && decide (c.toNat ≤ 57)
def nmAt (i : Nat) (c : UInt8) : Bool := letB c && true || (digB c && decide (i ≠ 0))
def nmPre (s : List UInt8) (i : Nat) : Prop := ∀ j, j < i → ∀ c, s[j]? = some c → nmAt j c = true
def nameP (s : List UInt8) : Prop := 1 ≤ s.length ∧ s.length ≤ 16 ∧ nmPre s s.length
noncomputable instance (s : List UInt8) : Decidable (nameP s) := Classical.propDecidable _
theorem nmPre_succ {s : List UInt8} {i : Nat} {c : UInt8} (hc : s[i]? = some c) : nmPre s (i + 1) ↔ nmPre s i ∧ nmAt i c = true := by
  refine ⟨fun h => ⟨fun j hj => h j (by omega), h i (by omega) c hc⟩, fun ⟨h1, h2⟩ j hj d hd => ?_⟩
  by_cases e : j = i
  · subst e; rw [hc] at hd; cases hd; exact h2
  · exact h1 j (by omega) d hd
def kws : List (List UInt8) := [[102, 117, 110], [108, 101, 116], [105, 110], [105, 102], [116, 104, 101, 110], [101, 108, 115, 101], [119, 104, 105, 108, 101], [100, 111], [114, 97, 105, 115, 101], [116, 114, 121], [119, 105, 116, 104], [105, 110, 112, 117, 116], [99, 101, 108, 108], [100, 101, 102]]
def opNs : List (List UInt8) := [[43], [45], [42], [60], [61]]
def kidsTab : List Int := [-1, 0, 0, 1, 2, 2, 3, 2, 1, 2, 1, 2, 2, 2]
def wordP (s : List UInt8) : Prop := nameP s ∧ ¬ s ∈ kws
noncomputable instance (s : List UInt8) : Decidable (wordP s) := inferInstanceAs (Decidable (_ ∧ _))
def manyI (k : Int) : Int := if 1 ≤ k ∧ k < 14 then kidsTab.getD k.toNat 0 else -1
def nmOk (t : Tm) : Prop := if t.kind = 12 then t.name ∈ opNs else if t.kind = 2 ∨ t.binder = true then wordP t.name else t.name = []
noncomputable instance (t : Tm) : Decidable (nmOk t) := Classical.propDecidable _
def nodeP (t : Tm) : Prop := (1 ≤ t.kind ∧ t.kind < 14) ∧ (t.kids.length : Int) = kidsTab.getD t.kind.toNat 0 ∧ (t.kind ≠ 1 → t.n = 0) ∧ 0 ≤ t.n ∧ t.n < 2147483648 ∧ nmOk t
noncomputable instance (t : Tm) : Decidable (nodeP t) := Classical.propDecidable _
inductive Nodes : Tm → Prop
  | mk (t : Tm) (h : nodeP t) (hk : ∀ k ∈ t.kids, Nodes k) : Nodes t
theorem Nodes.node {t : Tm} (h : Nodes t) : nodeP t := by cases h; assumption
theorem Nodes.kids {t : Tm} (h : Nodes t) : ∀ k ∈ t.kids, Nodes k := by cases h; assumption
noncomputable instance (t : Tm) : Decidable (Nodes t) := Classical.propDecidable _
def RightT (t : Tm) : Prop := t.dep ≤ 200 ∧ t.w ≤ 10000 ∧ Nodes t
noncomputable instance (t : Tm) : Decidable (RightT t) := Classical.propDecidable _
def addT : List (List UInt8) → List UInt8 → List (List UInt8)
  | [], s => [s]
  | x :: l, s => if x < s then x :: addT l s else if x = s then x :: l else s :: x :: l
def addTs (out : List (List UInt8)) (b : Bool) (nm : List UInt8) : List (List UInt8) → List (List UInt8)
  | [] => out
  | x :: l => addTs (if !b || !decide (x = nm) then addT out x else out) b nm l
namespace Tm
mutual
def free : Tm → List (List UInt8)
  | mk k s _ ks => frees ks (if k = 2 then [s] else []) (decide (k = 3) || decide (k = 5) || decide (k = 9)) s
def frees : List Tm → List (List UInt8) → Bool → List UInt8 → List (List UInt8)
  | [], out, _, _ => out
  | t :: ts, out, b, s => frees ts (addTs out (b && ts.isEmpty) s (free t)) b s
end
end Tm
end Go.Proofs.YtddnigahjahkbaaDoor
namespace Go.Proofs.YtddnigahjahkbaaDoor.Fw
set_option linter.unusedVariables false
set_option linter.unusedSimpArgs false
set_option maxRecDepth 100000
open Go.RowKit
theorem Sim.grown {Γ : Nat → PV} {w0 w w' : World} {G : Ghost} {H : List Blk} (h : Sim Γ w0 G H w) (hb : Below w.heap.size w w') : Sim Γ w0 G H w' :=
  h.step (Evol.refl _ _) (fun _ _ => rfl) (h.below.trans ⟨hb.os, hb.tape, hb.output, hb.size, fun k hk => hb.block k (Nat.lt_of_lt_of_le hk h.size)⟩) hb.size (fun k B hB hl => hb.block _ (h.own k B hB hl).2.1)
    (fun a v ha => by
      have := h.mem a v ha
      rw [cell_of_heap (w := w) (hb.block _ (World.block_lt_of_cell? w a this))]; exact this)
    (fun k B hB hl => (h.own k B hB hl).2.2)
theorem os_sliceArr {P : Program} {Γ : Nat → PV} {A : List (Nat × PV)} {H : List Blk} {o : Oper} {K : PV → List Blk → Prop} {t : TypeId} {x : Operand} {cs : List PV} {m : Nat} (ho : o.op = .slice t x none none none) (ht : arOf P t = some (m, 1))
    (hx : ev Γ A x = .cptr cs) (hm : cs.length = m) (h0 : 0 < m) (hb : m ≤ 9223372036854775807) (hk : K (.vec (cs.map fun c => [c]) true) H) : OStep P Γ o A H K :=
  ostep_pure (by simp [ho]) _ hk fun w0 G w N a hs ha => by
    obtain ⟨te, i, hu, hinf, hsz⟩ := arOf_spec ht
    have h1 := ha.ev hs.glob x
    rw [hx] at h1
    generalize hax : a.eval x = v at h1
    cases h1 with
    | cptr _ _ b q vs r1 r2 r3 =>
      refine ⟨.slice (some ⟨b, q, none⟩) (cs.map fun c => [c]).length m, ?_, ?_⟩
      · have hbd : (Instr.sliceBounds false m m none none none).run P w = .ok (0, m, m) w := by simp [Instr.sliceBounds]
        have : ¬ (m = 0) := by omega
        simp [execOp, ho, Instr.sliceAt, Instr.sureAddr, run_under hu, hax, hbd, run_size hinf, hsz, hm, Fw.add_at]
      · have key : ∀ (i j : Nat) e c, (cs.map fun c => [c])[i]? = some e → e[j]? = some c → j = 0 ∧ cs[i]? = some c := fun i j e c hi hj => by
          rw [List.getElem?_map] at hi
          obtain ⟨x, hx, rfl⟩ := Option.map_eq_some_iff.1 hi
          cases j with
          | zero => simp at hj; exact ⟨rfl, hj ▸ hx⟩
          | succ j => simp at hj
        refine .vec _ _ true b q 1 m vs (by rw [List.length_map]; omega) (by rw [List.length_map]; omega) (fun _ => by rw [List.length_map]; omega) (fun e he => by
          obtain ⟨x, _, rfl⟩ := List.mem_map.1 he; rfl) (fun i j e c hi hj => ?_) (fun i j e c hi hj => ?_) (fun i j e c hi hj => ?_)
        · obtain ⟨rfl, h⟩ := key i j e c hi hj
          rw [show i * 1 + 0 = i by omega]; exact r1 i c h
        · obtain ⟨rfl, h⟩ := key i j e c hi hj
          rw [show i * 1 + 0 = i by omega]; exact r2 i c h
        · obtain ⟨rfl, h⟩ := key i j e c hi hj
          rw [show i * 1 + 0 = i by omega]; exact r3 i c h
end Go.Proofs.YtddnigahjahkbaaDoor.Fw
namespace Go.Proofs.YtddnigahjahkbaaDoor
set_option linter.unusedVariables false
set_option linter.unusedSimpArgs false
set_option maxRecDepth 100000
open Go.RowKit Fw
theorem sum_take (l : List Tm) {i : Nat} (h : i < l.length) : ((l.take (i + 1)).map Tm.w).sum = ((l.take i).map Tm.w).sum + l[i].w := by
  rw [List.take_add_one, List.getElem?_eq_getElem h, List.map_append, List.sum_append]
  simp only [Option.toList_some, List.map_cons, List.map_nil, List.sum_cons, List.sum_nil, Nat.add_zero]
theorem sum_le (l : List Tm) (i : Nat) : ((l.take i).map Tm.w).sum ≤ (l.map Tm.w).sum := by
  conv => rhs; rw [← List.take_append_drop i l, List.map_append, List.sum_append]
  omega
theorem max_take (l : List Tm) {i : Nat} (h : i < l.length) : maxL ((l.take (i + 1)).map Tm.dep) = max (maxL ((l.take i).map Tm.dep)) l[i].dep := by
  rw [List.take_add_one, List.getElem?_eq_getElem h, List.map_append]
  exact maxL_snoc _ _
theorem max_of (a b : Nat) : (if (a : Int) < b then (b : Int) else (a : Int)) = ((max a b : Nat) : Int) := by
  split <;> omega
theorem c28 (Γ : Nat → PV) : ∀ a : Tm, a.w ≤ 4611686018427387904 → Gives Tryd.prog Γ 28 [.agg a.enc] (.int .i64 a.w) := by
  refine Tm.ind fun a ih hw => ?_
  have hwe := Tm.w_eq a
  have hdw := Tm.dep_w a
  have hkw := Tm.kids_w a
  refine fn_of_awp Tryd.func28 rfl (by simp [Tryd.f28]) rfl fun H => ?_
  refine awp_seq ?_
  refine awp_run rfl (by simp only [fwA, ↓reduceIte, Nat.reduceAdd, Nat.reduceMul, Nat.reduceEqDiff, Nat.reduceLT, Nat.reduceLeDiff, reduceCtorEq, Tm.fw] <;> rfl) ?_
  refine awp_seq ?_
  refine awp_run rfl (by simp only [fwA, ↓reduceIte, Nat.reduceAdd, Nat.reduceMul, Nat.reduceEqDiff, Nat.reduceLT, Nat.reduceLeDiff, reduceCtorEq] <;> rfl) ?_
  refine awp_seq ?_
  refine awp_seq ?_
  refine awp_run rfl (by simp only [fwA, ↓reduceIte, Nat.reduceAdd, Nat.reduceMul, Nat.reduceEqDiff, Nat.reduceLT, Nat.reduceLeDiff, reduceCtorEq, fl26_3, ti24, un24, el24, ti26, Tm.fw, List.length_map] <;> rfl) ?_
  refine awp_bd fun hbd => ?_
  refine awp_block ?_
  refine awp_forG [3, 7, 8, 9] (fun i : Nat => [.int .i64 ((((a.kids.take i).map Tm.w).sum + 1 : Nat) : Int), .vec (a.kids.map Tm.enc) false, .int .i64 a.kids.length, .int .i64 i]) (fun _ => H ++ [.box a.enc]) (fun i => a.kids.length - i) (fun i => i ≤ a.kids.length) 0 (by simp [alook, aput, ev, maxL]) rfl (Nat.zero_le _) (fun i _ => ⟨hbd, by simp [PV.bdL, PV.bd]⟩) (fun i _ b hb => by cases hb) fun i hi => ?_
  refine awp_seq ?_
  refine awp_run rfl (by simp only [fwA, ↓reduceIte, Nat.reduceAdd, Nat.reduceMul, Nat.reduceEqDiff, Nat.reduceLT, Nat.reduceLeDiff, reduceCtorEq] <;> rfl) ?_
  refine awp_seq ?_
  refine awp_cond (by simp only [fwA, ↓reduceIte, Nat.reduceAdd, Nat.reduceMul, Nat.reduceEqDiff, Nat.reduceLT, Nat.reduceLeDiff, reduceCtorEq] <;> rfl) ?_
  by_cases hc : (i : Int) < a.kids.length
  · simp only [hc, decide_true, ↓reduceIte]
    refine awp_skip ?_
    have hil : i < a.kids.length := by omega
    have gi : a.kids[i]? = some a.kids[i] := List.getElem?_eq_getElem hil
    have hkk := Tm.kid_w (List.getElem_mem hil)
    have hks := sum_take a.kids hil
    have hle := sum_le a.kids (i + 1)
    have hmx := max_take a.kids hil
    have hw1 : IntKind.i64.wrap ((((a.kids.take i).map Tm.w).sum + 1 : Nat) + (a.kids[i].w : Int)) = ((((a.kids.take (i + 1)).map Tm.w).sum + 1 : Nat) : Int) := by
      rw [wrapId ⟨by omega, by omega⟩]; omega
    have ihk := ih a.kids[i] (List.getElem_mem hil) (by omega)
    refine awp_seq ?_
    refine awp_block ?_
    refine awp_seq ?_
    refine awp_run rfl (by simp only [fwA, ↓reduceIte, Nat.reduceAdd, Nat.reduceMul, Nat.reduceEqDiff, Nat.reduceLT, Nat.reduceLeDiff, reduceCtorEq, fl26_3, ti24, un24, el24, ti26, Tm.fw, List.getElem?_map, gi, Option.map_some, Int.natCast_nonneg] <;> rfl) ?_
    refine awp_region rfl ?_
    refine aops_run 2 (by simp only [fwA, ↓reduceIte, Nat.reduceAdd, Nat.reduceMul, Nat.reduceEqDiff, Nat.reduceLT, Nat.reduceLeDiff, reduceCtorEq, fl26_3, ti24, un24, el24, ti26, Tm.fw] <;> rfl) ?_
    refine aops_fn rfl rfl rfl en28 ihk ?_
    refine aops_run 2 (by simp only [fwA, ↓reduceIte, Nat.reduceAdd, Nat.reduceMul, Nat.reduceEqDiff, Nat.reduceLT, Nat.reduceLeDiff, reduceCtorEq, hw1] <;> rfl) ?_
    refine awp_run rfl (by simp only [fwA, ↓reduceIte, Nat.reduceAdd, Nat.reduceMul, Nat.reduceEqDiff, Nat.reduceLT, Nat.reduceLeDiff, reduceCtorEq, wrapS i (by omega)] <;> rfl) ?_
    exact ⟨i + 1, [.box a.kids[i].enc], by omega, by omega, by rfl, by simp, rfl, Nat.le_refl _⟩
  simp only [hc, decide_false, Bool.false_eq_true, ↓reduceIte]
  refine awp_exit ?_
  have hie : i = a.kids.length := by omega
  subst hie
  rw [List.take_length]
  simp only [Post.block, Post.then, ↓reduceIte]
  refine awp_seq ?_
  rw [← hwe]
  refine awp_run rfl (by simp only [fwA, ↓reduceIte, Nat.reduceAdd, Nat.reduceMul, Nat.reduceEqDiff, Nat.reduceLT, Nat.reduceLeDiff, reduceCtorEq] <;> rfl) ?_
  refine awp_ret ?_
  exact gives_end (.inl rfl) _ rfl
theorem c10 (Γ : Nat → PV) : ∀ a : Tm, a.w ≤ 4611686018427387904 → Gives Tryd.prog Γ 10 [.agg a.enc] (.int .i64 a.dep) := by
  refine Tm.ind fun a ih hw => ?_
  have hwe := Tm.w_eq a
  have hdw := Tm.dep_w a
  have hkw := Tm.kids_w a
  refine fn_of_awp Tryd.func10 rfl (by simp [Tryd.f10]) rfl fun H => ?_
  refine awp_seq ?_
  refine awp_run rfl (by simp only [fwA, ↓reduceIte, Nat.reduceAdd, Nat.reduceMul, Nat.reduceEqDiff, Nat.reduceLT, Nat.reduceLeDiff, reduceCtorEq, Tm.fw] <;> rfl) ?_
  refine awp_seq ?_
  refine awp_run rfl (by simp only [fwA, ↓reduceIte, Nat.reduceAdd, Nat.reduceMul, Nat.reduceEqDiff, Nat.reduceLT, Nat.reduceLeDiff, reduceCtorEq] <;> rfl) ?_
  refine awp_seq ?_
  refine awp_seq ?_
  refine awp_run rfl (by simp only [fwA, ↓reduceIte, Nat.reduceAdd, Nat.reduceMul, Nat.reduceEqDiff, Nat.reduceLT, Nat.reduceLeDiff, reduceCtorEq, fl26_3, ti24, un24, el24, ti26, Tm.fw, List.length_map] <;> rfl) ?_
  refine awp_bd fun hbd => ?_
  refine awp_block ?_
  refine awp_forG [3, 7, 8, 9] (fun i : Nat => [.int .i64 ((maxL ((a.kids.take i).map Tm.dep) : Nat) : Int), .vec (a.kids.map Tm.enc) false, .int .i64 a.kids.length, .int .i64 i]) (fun _ => H ++ [.box a.enc]) (fun i => a.kids.length - i) (fun i => i ≤ a.kids.length) 0 (by simp [alook, aput, ev, maxL]) rfl (Nat.zero_le _) (fun i _ => ⟨hbd, by simp [PV.bdL, PV.bd]⟩) (fun i _ b hb => by cases hb) fun i hi => ?_
  refine awp_seq ?_
  refine awp_run rfl (by simp only [fwA, ↓reduceIte, Nat.reduceAdd, Nat.reduceMul, Nat.reduceEqDiff, Nat.reduceLT, Nat.reduceLeDiff, reduceCtorEq] <;> rfl) ?_
  refine awp_seq ?_
  refine awp_cond (by simp only [fwA, ↓reduceIte, Nat.reduceAdd, Nat.reduceMul, Nat.reduceEqDiff, Nat.reduceLT, Nat.reduceLeDiff, reduceCtorEq] <;> rfl) ?_
  by_cases hc : (i : Int) < a.kids.length
  · simp only [hc, decide_true, ↓reduceIte]
    refine awp_skip ?_
    have hil : i < a.kids.length := by omega
    have gi : a.kids[i]? = some a.kids[i] := List.getElem?_eq_getElem hil
    have hkk := Tm.kid_w (List.getElem_mem hil)
    have hks := sum_take a.kids hil
    have hle := sum_le a.kids (i + 1)
    have hmx := max_take a.kids hil
    have hw1 : IntKind.i64.wrap ((((a.kids.take i).map Tm.w).sum + 1 : Nat) + (a.kids[i].w : Int)) = ((((a.kids.take (i + 1)).map Tm.w).sum + 1 : Nat) : Int) := by
      rw [wrapId ⟨by omega, by omega⟩]; omega
    have ihk := ih a.kids[i] (List.getElem_mem hil) (by omega)
    refine awp_seq ?_
    refine awp_block ?_
    refine awp_seq ?_
    refine awp_run rfl (by simp only [fwA, ↓reduceIte, Nat.reduceAdd, Nat.reduceMul, Nat.reduceEqDiff, Nat.reduceLT, Nat.reduceLeDiff, reduceCtorEq, fl26_3, ti24, un24, el24, ti26, Tm.fw, List.getElem?_map, gi, Option.map_some, Int.natCast_nonneg] <;> rfl) ?_
    refine awp_region rfl ?_
    refine aops_run 2 (by simp only [fwA, ↓reduceIte, Nat.reduceAdd, Nat.reduceMul, Nat.reduceEqDiff, Nat.reduceLT, Nat.reduceLeDiff, reduceCtorEq, fl26_3, ti24, un24, el24, ti26, Tm.fw] <;> rfl) ?_
    refine aops_fn rfl rfl rfl en10 ihk ?_
    refine aops_one rfl (os_max rfl rfl rfl ?_)
    refine aops_run 1 (by simp only [fwA, ↓reduceIte, Nat.reduceAdd, Nat.reduceMul, Nat.reduceEqDiff, Nat.reduceLT, Nat.reduceLeDiff, reduceCtorEq] <;> rfl) ?_
    refine awp_run rfl (by simp only [fwA, ↓reduceIte, Nat.reduceAdd, Nat.reduceMul, Nat.reduceEqDiff, Nat.reduceLT, Nat.reduceLeDiff, reduceCtorEq, wrapS i (by omega)] <;> rfl) ?_
    exact ⟨i + 1, [.box a.kids[i].enc], by omega, by omega, by rw [hmx, ← max_of]; rfl, by simp, rfl, Nat.le_refl _⟩
  simp only [hc, decide_false, Bool.false_eq_true, ↓reduceIte]
  refine awp_exit ?_
  have hie : i = a.kids.length := by omega
  subst hie
  rw [List.take_length]
  simp only [Post.block, Post.then, ↓reduceIte]
  refine awp_seq ?_
  have hde := Tm.dep_eq a
  have hw2 : IntKind.i64.wrap ((maxL (a.kids.map Tm.dep) : Int) + 1) = (a.dep : Int) := by rw [wrapId ⟨by omega, by omega⟩]; omega
  refine awp_run rfl (by simp only [fwA, ↓reduceIte, Nat.reduceAdd, Nat.reduceMul, Nat.reduceEqDiff, Nat.reduceLT, Nat.reduceLeDiff, reduceCtorEq, hw2] <;> rfl) ?_
  refine awp_ret ?_
  exact gives_end (.inl rfl) _ rfl
theorem c24 (Γ : Nat → PV) (a : Tm) : Gives Tryd.prog Γ 24 [.agg a.enc] (.bool a.binder) := by
  refine fn_of_awp Tryd.func24 rfl (by simp [Tryd.f24]) rfl fun H => ?_
  refine awp_seq ?_
  refine awp_run rfl (by simp only [fwA, ↓reduceIte, Nat.reduceAdd, Nat.reduceMul, Nat.reduceEqDiff, Nat.reduceLT, Nat.reduceLeDiff, reduceCtorEq] <;> rfl) ?_
  refine awp_seq ?_
  unfold Tm.binder
  by_cases h3 : a.kind = 3
  · refine awp_run rfl (by simp only [fwA, ↓reduceIte, Nat.reduceAdd, Nat.reduceMul, Nat.reduceEqDiff, Nat.reduceLT, Nat.reduceLeDiff, reduceCtorEq, fl26_0, ti3, Tm.fw, h3, decide_true] <;> rfl) ?_
    exact awp_ret (gives_end (.inl rfl) _ (by simp only [h3, decide_true, Bool.true_or]; rfl))
  by_cases h5 : a.kind = 5
  · refine awp_run rfl (by simp only [fwA, ↓reduceIte, Nat.reduceAdd, Nat.reduceMul, Nat.reduceEqDiff, Nat.reduceLT, Nat.reduceLeDiff, reduceCtorEq, fl26_0, ti3, Tm.fw, h3, h5, decide_true, decide_false] <;> rfl) ?_
    exact awp_ret (gives_end (.inl rfl) _ (by simp only [h3, h5, decide_true, decide_false, Bool.true_or, Bool.or_true]; rfl))
  refine awp_run rfl (by simp only [fwA, ↓reduceIte, Nat.reduceAdd, Nat.reduceMul, Nat.reduceEqDiff, Nat.reduceLT, Nat.reduceLeDiff, reduceCtorEq, fl26_0, ti3, Tm.fw, h3, h5, decide_false] <;> rfl) ?_
  exact awp_ret (gives_end (.inl rfl) _ (by simp only [h3, h5, decide_false, Bool.false_or]; rfl))
end Go.Proofs.YtddnigahjahkbaaDoor
namespace Go.Proofs.YtddnigahjahkbaaDoor
set_option linter.unusedVariables false
set_option linter.unusedSimpArgs false
set_option maxRecDepth 100000
open Go.RowKit Go.Shelf
def lays_ren : Go.Shelf.Ren := { f := fun x => match x with | 173 => 31 | 246 => 44 | 283 => 54 | 284 => 55 | 285 => 56 | 286 => 57 | 129 => 64 | 317 => 63 | 318 => 65 | 319 => 66 | 320 => 67 | 337 => 73 | 338 => 74 | n => n, t := fun x => match x with | 2 => 2 | 3 => 3 | 9 => 9 | 4 => 4 | 171 => 92 | 0 => 0 | 53 => 93 | 37 => 22 | 5 => 5 | 173 => 96 | 212 => 104 | 51 => 105 | 20 => 20 | 213 => 106 | 46 => 108 | 232 => 122 | 233 => 123 | n => n, g := fun x => match x with | 17 => 4 | 18 => 8 | 19 => 9 | n => n }
theorem lays : Go.Proofs.LaysM.n173 Tryd.prog lays_ren where
  mixed := by kernel_rfl
  f129 := Tryd.func64.trans (congrArg some (by kernel_rfl))
  f173 := Tryd.func31.trans (congrArg some (by kernel_rfl))
  f246 := Tryd.func44.trans (congrArg some (by kernel_rfl))
  f283 := Tryd.func54.trans (congrArg some (by kernel_rfl))
  f284 := Tryd.func55.trans (congrArg some (by kernel_rfl))
  f285 := Tryd.func56.trans (congrArg some (by kernel_rfl))
  f286 := Tryd.func57.trans (congrArg some (by kernel_rfl))
  f317 := Tryd.func63.trans (congrArg some (by kernel_rfl))
  f318 := Tryd.func65.trans (congrArg some (by kernel_rfl))
  f319 := Tryd.func66.trans (congrArg some (by kernel_rfl))
  f320 := Tryd.func67.trans (congrArg some (by kernel_rfl))
  f337 := Tryd.func73.trans (congrArg some (by kernel_rfl))
  f338 := Tryd.func74.trans (congrArg some (by kernel_rfl))
  t0 := Tryd.underlying0
  a0 := Tryd.isAgg0
  z0 := Tryd.sizeOf0
  v0 := Tryd.zeroValue0
  t2 := Tryd.underlying2
  a2 := Tryd.isAgg2
  z2 := Tryd.sizeOf2
  v2 := Tryd.zeroValue2
  t3 := Tryd.underlying3
  a3 := Tryd.isAgg3
  z3 := Tryd.sizeOf3
  v3 := Tryd.zeroValue3
  t4 := Tryd.underlying4
  a4 := Tryd.isAgg4
  z4 := Tryd.sizeOf4
  v4 := Tryd.zeroValue4
  t5 := Tryd.underlying5
  a5 := Tryd.isAgg5
  z5 := Tryd.sizeOf5
  v5 := Tryd.zeroValue5
  t9 := Tryd.underlying9
  a9 := Tryd.isAgg9
  z9 := Tryd.sizeOf9
  v9 := Tryd.zeroValue9
  t20 := Tryd.underlying20
  a20 := Tryd.isAgg20
  z20 := Tryd.sizeOf20
  v20 := Tryd.zeroValue20
  t37 := Tryd.underlying22
  a37 := Tryd.isAgg22
  z37 := Tryd.sizeOf22
  v37 := Tryd.zeroValue22
  t46 := Tryd.underlying108
  a46 := Tryd.isAgg108
  z46 := Tryd.sizeOf108
  v46 := Tryd.zeroValue108
  t51 := Tryd.underlying105
  a51 := Tryd.isAgg105
  z51 := Tryd.sizeOf105
  v51 := Tryd.zeroValue105
  t53 := Tryd.underlying93
  a53 := Tryd.isAgg93
  z53 := Tryd.sizeOf93
  v53 := Tryd.zeroValue93
  t171 := Tryd.underlying92
  a171 := Tryd.isAgg92
  z171 := Tryd.sizeOf92
  v171 := Tryd.zeroValue92
  t173 := Tryd.underlying96
  a173 := Tryd.isAgg96
  z173 := Tryd.sizeOf96
  v173 := Tryd.zeroValue96
  t212 := Tryd.underlying104
  a212 := Tryd.isAgg104
  z212 := Tryd.sizeOf104
  v212 := Tryd.zeroValue104
  t213 := Tryd.underlying106
  a213 := Tryd.isAgg106
  z213 := Tryd.sizeOf106
  t232 := Tryd.underlying122
  a232 := Tryd.isAgg122
  z232 := Tryd.sizeOf122
  v232 := Tryd.zeroValue122
  t233 := Tryd.underlying123
  a233 := Tryd.isAgg123
  z233 := Tryd.sizeOf123
  v233 := Tryd.zeroValue123
  g17 := by kernel_rfl
  g18 := by kernel_rfl
  g19 := by kernel_rfl
  i0 := by kernel_rfl
  i2 := by kernel_rfl
  i3 := by kernel_rfl
  i4 := by kernel_rfl
  i5 := by kernel_rfl
  i9 := by kernel_rfl
  i20 := by kernel_rfl
  i37 := by kernel_rfl
  i46 := by kernel_rfl
  i51 := by kernel_rfl
  i53 := by kernel_rfl
  i171 := by kernel_rfl
  i173 := by kernel_rfl
  i212 := by kernel_rfl
  i232 := by kernel_rfl
  i233 := by kernel_rfl
  m17 := by kernel_rfl
  m18 := by kernel_rfl
  m19 := by kernel_rfl
def joins_ren : Go.Shelf.Ren := { f := fun x => match x with | 156 => 29 | 165 => 41 | 166 => 42 | 169 => 43 | 240 => 52 | 241 => 53 | 276 => 61 | 277 => 62 | n => n, t := fun x => match x with | 31 => 50 | 9 => 9 | 3 => 3 | 4 => 4 | 0 => 0 | 20 => 20 | 72 => 72 | 76 => 76 | 70 => 70 | 37 => 22 | 75 => 75 | 127 => 90 | 164 => 99 | 5 => 5 | 80 => 78 | n => n, g := fun x => have n := x; n }
theorem joins : Go.Proofs.Lays.n156 Tryd.prog joins_ren where
  mixed := by kernel_rfl
  f156 := Tryd.func29.trans (congrArg some (by kernel_rfl))
  f165 := Tryd.func41.trans (congrArg some (by kernel_rfl))
  f166 := Tryd.func42.trans (congrArg some (by kernel_rfl))
  f169 := Tryd.func43.trans (congrArg some (by kernel_rfl))
  f240 := Tryd.func52.trans (congrArg some (by kernel_rfl))
  f241 := Tryd.func53.trans (congrArg some (by kernel_rfl))
  f276 := Tryd.func61.trans (congrArg some (by kernel_rfl))
  f277 := Tryd.func62.trans (congrArg some (by kernel_rfl))
  t0 := Tryd.underlying0
  a0 := Tryd.isAgg0
  z0 := Tryd.sizeOf0
  v0 := Tryd.zeroValue0
  t3 := Tryd.underlying3
  a3 := Tryd.isAgg3
  z3 := Tryd.sizeOf3
  v3 := Tryd.zeroValue3
  t4 := Tryd.underlying4
  a4 := Tryd.isAgg4
  z4 := Tryd.sizeOf4
  v4 := Tryd.zeroValue4
  t9 := Tryd.underlying9
  a9 := Tryd.isAgg9
  z9 := Tryd.sizeOf9
  v9 := Tryd.zeroValue9
  t20 := Tryd.underlying20
  a20 := Tryd.isAgg20
  z20 := Tryd.sizeOf20
  v20 := Tryd.zeroValue20
  t31 := Tryd.underlying50
  a31 := Tryd.isAgg50
  z31 := Tryd.sizeOf50
  v31 := Tryd.zeroValue50
  t37 := Tryd.underlying22
  a37 := Tryd.isAgg22
  z37 := Tryd.sizeOf22
  v37 := Tryd.zeroValue22
  t70 := Tryd.underlying70
  a70 := Tryd.isAgg70
  z70 := Tryd.sizeOf70
  v70 := Tryd.zeroValue70
  t72 := Tryd.underlying72
  a72 := Tryd.isAgg72
  z72 := Tryd.sizeOf72
  v72 := Tryd.zeroValue72
  t75 := Tryd.underlying75
  a75 := Tryd.isAgg75
  z75 := Tryd.sizeOf75
  v75 := Tryd.zeroValue75
  t76 := Tryd.underlying76
  a76 := Tryd.isAgg76
  z76 := Tryd.sizeOf76
  v76 := Tryd.zeroValue76
  t127 := Tryd.underlying90
  a127 := Tryd.isAgg90
  z127 := Tryd.sizeOf90
  v127 := Tryd.zeroValue90
  t164 := Tryd.underlying99
  a164 := Tryd.isAgg99
  z164 := Tryd.sizeOf99
  v164 := Tryd.zeroValue99
def parses_ren : Go.Shelf.Ren := { f := fun x => match x with | 174 => 46 | 247 => 58 | 245 => 59 | 287 => 68 | 279 => 69 | 280 => 70 | 281 => 71 | 282 => 72 | 321 => 75 | 322 => 76 | 316 => 77 | 171 => 79 | 205 => 78 | 243 => 80 | 246 => 44 | 283 => 54 | 284 => 55 | 285 => 56 | 286 => 57 | 129 => 64 | 317 => 63 | 318 => 65 | 319 => 66 | 320 => 67 | 337 => 73 | 338 => 74 | n => n, t := fun x => match x with | 9 => 9 | 3 => 3 | 2 => 2 | 75 => 75 | 85 => 82 | 4 => 4 | 167 => 110 | 5 => 5 | 53 => 93 | 175 => 111 | 46 => 108 | 168 => 113 | 37 => 22 | 0 => 0 | 210 => 120 | 21 => 21 | 127 => 90 | 145 => 126 | 143 => 124 | 171 => 92 | 173 => 96 | 212 => 104 | 51 => 105 | 20 => 20 | 213 => 106 | 232 => 122 | 233 => 123 | 80 => 78 | n => n, g := fun x => match x with | 15 => 6 | 16 => 7 | 17 => 4 | 18 => 8 | 19 => 9 | n => n }
theorem parses : Go.Proofs.LaysC.n174 Tryd.prog parses_ren where
  mixed := by kernel_rfl
  f129 := Tryd.func64.trans (congrArg some (by kernel_rfl))
  f171 := Tryd.func79.trans (congrArg some (by kernel_rfl))
  f174 := Tryd.func46.trans (congrArg some (by kernel_rfl))
  f205 := Tryd.func78.trans (congrArg some (by kernel_rfl))
  f243 := Tryd.func80.trans (congrArg some (by kernel_rfl))
  f245 := Tryd.func59.trans (congrArg some (by kernel_rfl))
  f246 := Tryd.func44.trans (congrArg some (by kernel_rfl))
  f247 := Tryd.func58.trans (congrArg some (by kernel_rfl))
  f279 := Tryd.func69.trans (congrArg some (by kernel_rfl))
  f280 := Tryd.func70.trans (congrArg some (by kernel_rfl))
  f281 := Tryd.func71.trans (congrArg some (by kernel_rfl))
  f282 := Tryd.func72.trans (congrArg some (by kernel_rfl))
  f283 := Tryd.func54.trans (congrArg some (by kernel_rfl))
  f284 := Tryd.func55.trans (congrArg some (by kernel_rfl))
  f285 := Tryd.func56.trans (congrArg some (by kernel_rfl))
  f286 := Tryd.func57.trans (congrArg some (by kernel_rfl))
  f287 := Tryd.func68.trans (congrArg some (by kernel_rfl))
  f316 := Tryd.func77.trans (congrArg some (by kernel_rfl))
  f317 := Tryd.func63.trans (congrArg some (by kernel_rfl))
  f318 := Tryd.func65.trans (congrArg some (by kernel_rfl))
  f319 := Tryd.func66.trans (congrArg some (by kernel_rfl))
  f320 := Tryd.func67.trans (congrArg some (by kernel_rfl))
  f321 := Tryd.func75.trans (congrArg some (by kernel_rfl))
  f322 := Tryd.func76.trans (congrArg some (by kernel_rfl))
  f337 := Tryd.func73.trans (congrArg some (by kernel_rfl))
  f338 := Tryd.func74.trans (congrArg some (by kernel_rfl))
  t0 := Tryd.underlying0
  a0 := Tryd.isAgg0
  z0 := Tryd.sizeOf0
  v0 := Tryd.zeroValue0
  t2 := Tryd.underlying2
  a2 := Tryd.isAgg2
  z2 := Tryd.sizeOf2
  v2 := Tryd.zeroValue2
  t3 := Tryd.underlying3
  a3 := Tryd.isAgg3
  z3 := Tryd.sizeOf3
  v3 := Tryd.zeroValue3
  t4 := Tryd.underlying4
  a4 := Tryd.isAgg4
  z4 := Tryd.sizeOf4
  v4 := Tryd.zeroValue4
  t5 := Tryd.underlying5
  a5 := Tryd.isAgg5
  z5 := Tryd.sizeOf5
  v5 := Tryd.zeroValue5
  t9 := Tryd.underlying9
  a9 := Tryd.isAgg9
  z9 := Tryd.sizeOf9
  v9 := Tryd.zeroValue9
  t20 := Tryd.underlying20
  a20 := Tryd.isAgg20
  z20 := Tryd.sizeOf20
  v20 := Tryd.zeroValue20
  t21 := Tryd.underlying21
  a21 := Tryd.isAgg21
  z21 := Tryd.sizeOf21
  v21 := Tryd.zeroValue21
  t37 := Tryd.underlying22
  a37 := Tryd.isAgg22
  z37 := Tryd.sizeOf22
  v37 := Tryd.zeroValue22
  t46 := Tryd.underlying108
  a46 := Tryd.isAgg108
  z46 := Tryd.sizeOf108
  v46 := Tryd.zeroValue108
  t51 := Tryd.underlying105
  a51 := Tryd.isAgg105
  z51 := Tryd.sizeOf105
  v51 := Tryd.zeroValue105
  t53 := Tryd.underlying93
  a53 := Tryd.isAgg93
  z53 := Tryd.sizeOf93
  v53 := Tryd.zeroValue93
  t75 := Tryd.underlying75
  a75 := Tryd.isAgg75
  z75 := Tryd.sizeOf75
  v75 := Tryd.zeroValue75
  t85 := Tryd.underlying82
  a85 := Tryd.isAgg82
  z85 := Tryd.sizeOf82
  v85 := Tryd.zeroValue82
  t127 := Tryd.underlying90
  a127 := Tryd.isAgg90
  z127 := Tryd.sizeOf90
  v127 := Tryd.zeroValue90
  t143 := Tryd.underlying124
  a143 := Tryd.isAgg124
  z143 := Tryd.sizeOf124
  v143 := Tryd.zeroValue124
  t145 := Tryd.underlying126
  a145 := Tryd.isAgg126
  z145 := Tryd.sizeOf126
  v145 := Tryd.zeroValue126
  t167 := Tryd.underlying110
  a167 := Tryd.isAgg110
  z167 := Tryd.sizeOf110
  v167 := Tryd.zeroValue110
  t168 := Tryd.underlying113
  a168 := Tryd.isAgg113
  z168 := Tryd.sizeOf113
  v168 := Tryd.zeroValue113
  t171 := Tryd.underlying92
  a171 := Tryd.isAgg92
  z171 := Tryd.sizeOf92
  v171 := Tryd.zeroValue92
  t173 := Tryd.underlying96
  a173 := Tryd.isAgg96
  z173 := Tryd.sizeOf96
  v173 := Tryd.zeroValue96
  t175 := Tryd.underlying111
  a175 := Tryd.isAgg111
  z175 := Tryd.sizeOf111
  v175 := Tryd.zeroValue111
  t210 := Tryd.underlying120
  a210 := Tryd.isAgg120
  z210 := Tryd.sizeOf120
  v210 := Tryd.zeroValue120
  t212 := Tryd.underlying104
  a212 := Tryd.isAgg104
  z212 := Tryd.sizeOf104
  v212 := Tryd.zeroValue104
  t213 := Tryd.underlying106
  a213 := Tryd.isAgg106
  z213 := Tryd.sizeOf106
  t232 := Tryd.underlying122
  a232 := Tryd.isAgg122
  z232 := Tryd.sizeOf122
  v232 := Tryd.zeroValue122
  t233 := Tryd.underlying123
  a233 := Tryd.isAgg123
  z233 := Tryd.sizeOf123
  v233 := Tryd.zeroValue123
  g15 := by kernel_rfl
  g16 := by kernel_rfl
  g17 := by kernel_rfl
  g18 := by kernel_rfl
  g19 := by kernel_rfl
  t80 := Tryd.underlying78
  a80 := Tryd.isAgg78
  z80 := Tryd.sizeOf78
  v80 := Tryd.zeroValue78
  i0 := by kernel_rfl
  i2 := by kernel_rfl
  i3 := by kernel_rfl
  i4 := by kernel_rfl
  i5 := by kernel_rfl
  i9 := by kernel_rfl
  i20 := by kernel_rfl
  i21 := by kernel_rfl
  i37 := by kernel_rfl
  i46 := by kernel_rfl
  i51 := by kernel_rfl
  i53 := by kernel_rfl
  i75 := by kernel_rfl
  i80 := by kernel_rfl
  i85 := by kernel_rfl
  i127 := by kernel_rfl
  i143 := by kernel_rfl
  i145 := by kernel_rfl
  i167 := by kernel_rfl
  i168 := by kernel_rfl
  i171 := by kernel_rfl
  i173 := by kernel_rfl
  i175 := by kernel_rfl
  i210 := by kernel_rfl
  i212 := by kernel_rfl
  i232 := by kernel_rfl
  i233 := by kernel_rfl
  m15 := by kernel_rfl
  m16 := by kernel_rfl
  m17 := by kernel_rfl
  m18 := by kernel_rfl
  m19 := by kernel_rfl
  c0 := by kernel_rfl
  c2 := by kernel_rfl
  c3 := by kernel_rfl
  c4 := by kernel_rfl
  c5 := by kernel_rfl
  c9 := by kernel_rfl
  c20 := by kernel_rfl
  c21 := by kernel_rfl
  c37 := by kernel_rfl
  c46 := by kernel_rfl
  c51 := by kernel_rfl
  c53 := by kernel_rfl
  c75 := by kernel_rfl
  c80 := by kernel_rfl
  c85 := by kernel_rfl
  c127 := by kernel_rfl
  c143 := by kernel_rfl
  c145 := by kernel_rfl
  c167 := by kernel_rfl
  c168 := by kernel_rfl
  c171 := by kernel_rfl
  c173 := by kernel_rfl
  c175 := by kernel_rfl
  c210 := by kernel_rfl
  c212 := by kernel_rfl
  c213 := by kernel_rfl
  c232 := by kernel_rfl
  c233 := by kernel_rfl
theorem extra : Builder.Extra Tryd.prog joins_ren where
  sizeBuilder := by kernel_rfl
  liesBuilder := by kernel_rfl
  t5 := Tryd.underlying5
  a5 := Tryd.isAgg5
  z5 := Tryd.sizeOf5
  v5 := Tryd.zeroValue5
  infoByte := by kernel_rfl
  cellsByte := by kernel_rfl
  sizeByte := by kernel_rfl
  neB5 := by decide
end Go.Proofs.YtddnigahjahkbaaDoor
namespace Go.Proofs.YtddnigahjahkbaaDoor
set_option linter.unusedVariables false
set_option linter.unusedSimpArgs false
set_option maxRecDepth 100000
open Go.RowKit Fw
def letN (n : Nat) : Bool := (decide (97 ≤ n) && decide (n ≤ 122)) || (decide (65 ≤ n) && decide (n ≤ 90))
def low (n : Int) : Int := IntKind.u8.wrap ((BitVec.ofInt IntKind.u8.bits n ||| BitVec.ofInt IntKind.u8.bits 32).toNat : Int)
theorem low_all : ∀ n : Fin 256, (decide (97 ≤ low (n.val : Int)) && decide (low (n.val : Int) ≤ 122)) = letN n.val := of_decide_eq_true (by kernel_rfl)
theorem or32 (n : Int) : abin .or (.int .u8 n) (.int .u8 32) = some (.int .u8 (low n)) := rfl
theorem low_let (c : UInt8) : (decide (97 ≤ low (c.toNat : Int)) && decide (low (c.toNat : Int) ≤ 122)) = letB c := low_all ⟨c.toNat, c.toNat_lt⟩
theorem c50 (Γ : Nat → PV) (c : UInt8) : Gives Tryd.prog Γ 50 [.int .u8 (c.toNat : Int)] (.bool (letB c)) := by
  refine fn_of_awp Tryd.func50 rfl (by simp [Tryd.f50]) rfl fun H => ?_
  refine awp_seq ?_
  refine awp_run rfl (by simp only [fwA, ↓reduceIte, Nat.reduceAdd, Nat.reduceMul, Nat.reduceEqDiff, Nat.reduceLT, Nat.reduceLeDiff, reduceCtorEq] <;> rfl) ?_
  refine awp_seq ?_
  rw [← low_let c]
  by_cases h1 : 97 ≤ low (c.toNat : Int)
  · refine awp_run rfl (by simp only [fwA, ↓reduceIte, Nat.reduceAdd, Nat.reduceMul, Nat.reduceEqDiff, Nat.reduceLT, Nat.reduceLeDiff, reduceCtorEq, or32, h1, decide_true] <;> rfl) ?_
    exact awp_ret (gives_end0 (.inl rfl) (by simp only [h1, decide_true, Bool.true_and]; rfl))
  · refine awp_run rfl (by simp only [fwA, ↓reduceIte, Nat.reduceAdd, Nat.reduceMul, Nat.reduceEqDiff, Nat.reduceLT, Nat.reduceLeDiff, reduceCtorEq, or32, h1, decide_false] <;> rfl) ?_
    exact awp_ret (gives_end0 (.inl rfl) (by simp only [h1, decide_false, Bool.false_and]; rfl))
theorem nm_dec {s : List UInt8} {i : Nat} {c : UInt8} (hc : s[i]? = some c) : nmAt i c = (letB c || (decide ((i : Int) ≠ 0) && digB c)) := by
  unfold nmAt
  have : decide ((i : Int) ≠ 0) = decide (i ≠ 0) := by
    by_cases h : i = 0
    · subst h; rfl
    · rw [decide_eq_true h, decide_eq_true (by omega)]
  rw [this, Bool.and_true, Bool.and_comm (digB c)]
theorem c37 (Γ : Nat → PV) (s : List UInt8) : Gives Tryd.prog Γ 37 [.str s] (.bool (decide (nameP s))) := by
  refine fn_of_awp Tryd.func37 rfl (by simp [Tryd.f37]) rfl fun H => ?_
  refine awp_slen 0 rfl fun hlen => ?_
  refine awp_seq ?_
  refine awp_run rfl (by simp only [fwA, ↓reduceIte, Nat.reduceAdd, Nat.reduceMul, Nat.reduceEqDiff, Nat.reduceLT, Nat.reduceLeDiff, reduceCtorEq] <;> rfl) ?_
  refine awp_seq ?_
  refine awp_seq ?_
  refine awp_run rfl (by simp only [fwA, ↓reduceIte, Nat.reduceAdd, Nat.reduceMul, Nat.reduceEqDiff, Nat.reduceLT, Nat.reduceLeDiff, reduceCtorEq, un9] <;> rfl) ?_
  refine awp_block ?_
  refine awp_for [0, 6, 7] (fun i : Nat => [.str s, .int .i64 s.length, .int .i64 i]) (fun _ => H) (fun i => s.length - i) (fun i => i ≤ s.length ∧ nmPre s i) 0 rfl rfl ⟨Nat.zero_le _, fun j hj => by omega⟩ fun i hs => ?_
  obtain ⟨hi, hp⟩ := hs
  refine awp_seq ?_
  refine awp_run rfl (by simp only [fwA, ↓reduceIte, Nat.reduceAdd, Nat.reduceMul, Nat.reduceEqDiff, Nat.reduceLT, Nat.reduceLeDiff, reduceCtorEq] <;> rfl) ?_
  refine awp_seq ?_
  refine awp_cond (by simp only [fwA, ↓reduceIte, Nat.reduceAdd, Nat.reduceMul, Nat.reduceEqDiff, Nat.reduceLT, Nat.reduceLeDiff, reduceCtorEq] <;> rfl) ?_
  by_cases hc : (i : Int) < s.length
  rotate_left
  · simp only [hc, decide_false, Bool.false_eq_true, ↓reduceIte]
    refine awp_exit ?_
    have hie : i = s.length := by omega
    subst hie
    refine awp_seq ?_
    by_cases h0 : 0 < (s.length : Int)
    rotate_left
    · refine awp_run rfl (by simp only [fwA, ↓reduceIte, Nat.reduceAdd, Nat.reduceMul, Nat.reduceEqDiff, Nat.reduceLT, Nat.reduceLeDiff, reduceCtorEq, un9, h0, decide_false] <;> rfl) ?_
      exact awp_ret (gives_end0 (.inl rfl) (by rw [decide_eq_false (fun e => h0 (by have := e.1; omega))]; rfl))
    by_cases h16 : (s.length : Int) ≤ 16
    · refine awp_run rfl (by simp only [fwA, ↓reduceIte, Nat.reduceAdd, Nat.reduceMul, Nat.reduceEqDiff, Nat.reduceLT, Nat.reduceLeDiff, reduceCtorEq, un9, h0, h16, decide_true] <;> rfl) ?_
      exact awp_ret (gives_end0 (.inl rfl) (by rw [decide_eq_true (show nameP s from ⟨by omega, by omega, hp⟩)]; rfl))
    · refine awp_run rfl (by simp only [fwA, ↓reduceIte, Nat.reduceAdd, Nat.reduceMul, Nat.reduceEqDiff, Nat.reduceLT, Nat.reduceLeDiff, reduceCtorEq, un9, h0, h16, decide_true, decide_false] <;> rfl) ?_
      exact awp_ret (gives_end0 (.inl rfl) (by rw [decide_eq_false (fun e => h16 (by have := e.2.1; omega))]; rfl))
  simp only [hc, decide_true, ↓reduceIte]
  refine awp_skip ?_
  have hia : i < s.length := by omega
  have gc : s[i]? = some s[i] := List.getElem?_eq_getElem hia
  have hnd := nm_dec gc
  have hsuc := nmPre_succ gc
  have hnot : nmAt i s[i] = false → ¬ nameP s := fun h e => by have := e.2.2 i hia _ gc; rw [h] at this; cases this
  generalize s[i] = c at gc hnd hsuc hnot
  have h45 := c50 Γ c
  generalize letB c = bl at hnd h45
  refine awp_seq ?_
  refine awp_block ?_
  refine awp_seq ?_
  refine awp_run rfl (by simp only [fwA, ↓reduceIte, Nat.reduceAdd, Nat.reduceMul, Nat.reduceEqDiff, Nat.reduceLT, Nat.reduceLeDiff, reduceCtorEq] <;> rfl) ?_
  refine awp_seq ?_
  refine AWP.mono (Q := fun e A' H' D' => e = .normal ∧ akeep [0, 3, 4, 6, 7] A' = [(0, .str s), (3, .int .i64 i), (4, .bool (digB c)), (6, .int .i64 s.length), (7, .int .i64 i)] ∧ H' = H ∧ D' = []) ?_ fun e A' H' D' hq => ?_
  · unfold digB
    by_cases h1 : 48 ≤ (c.toNat : Int)
    · have h1' : 48 ≤ c.toNat := by omega
      refine awp_run rfl (by simp only [fwA, ↓reduceIte, Nat.reduceAdd, Nat.reduceMul, Nat.reduceEqDiff, Nat.reduceLT, Nat.reduceLeDiff, reduceCtorEq, un9, gc, Int.toNat_natCast, Int.natCast_nonneg, h1, decide_true] <;> rfl) ⟨rfl, ?_, rfl, rfl⟩
      have : decide ((c.toNat : Int) ≤ 57) = decide (c.toNat ≤ 57) := decide_eq_decide.2 (by omega)
      simp only [akeep, alook, aput, ev, h1', decide_true, Bool.true_and, ← this] <;> rfl
    · have h1' : ¬ 48 ≤ c.toNat := by omega
      refine awp_run rfl (by simp only [fwA, ↓reduceIte, Nat.reduceAdd, Nat.reduceMul, Nat.reduceEqDiff, Nat.reduceLT, Nat.reduceLeDiff, reduceCtorEq, un9, gc, Int.toNat_natCast, Int.natCast_nonneg, h1, decide_false] <;> rfl) ⟨rfl, ?_, rfl, rfl⟩
      simp only [akeep, alook, aput, ev, h1', decide_false, Bool.false_and] <;> rfl
  obtain ⟨rfl, hA, rfl, rfl⟩ := hq
  refine awp_keep _ hA ?_
  generalize digB c = bd at hnd ⊢
  refine awp_seq ?_
  refine awp_region rfl ?_
  refine aops_run 3 (by simp only [fwA, ↓reduceIte, Nat.reduceAdd, Nat.reduceMul, Nat.reduceEqDiff, Nat.reduceLT, Nat.reduceLeDiff, reduceCtorEq, un9, gc, Int.toNat_natCast, Int.natCast_nonneg] <;> rfl) ?_
  refine aops_fn rfl rfl rfl en50 h45 ?_
  have fin : nmAt i c = true → nmPre s (i + 1) := fun h => hsuc.2 ⟨hp, h⟩
  cases bl with
  | true =>
    refine aops_run 9 (by simp only [fwA, ↓reduceIte, Nat.reduceAdd, Nat.reduceMul, Nat.reduceEqDiff, Nat.reduceLT, Nat.reduceLeDiff, reduceCtorEq] <;> rfl) ?_
    refine awp_cond (b := false) (by simp only [fwA, ↓reduceIte, Nat.reduceAdd, Nat.reduceMul, Nat.reduceEqDiff, Nat.reduceLT, Nat.reduceLeDiff, reduceCtorEq] <;> rfl) (awp_skip ?_)
    refine awp_run rfl (by simp only [fwA, ↓reduceIte, Nat.reduceAdd, Nat.reduceMul, Nat.reduceEqDiff, Nat.reduceLT, Nat.reduceLeDiff, reduceCtorEq] <;> rfl) ?_
    exact ⟨i + 1, by omega, ⟨by omega, fin (by rw [hnd]; rfl)⟩, by rw [wrapS i (by omega)]; rfl, rfl, rfl⟩
  | false =>
    by_cases hz : (i : Int) = 0
    · refine aops_run 9 (by simp only [fwA, ↓reduceIte, Nat.reduceAdd, Nat.reduceMul, Nat.reduceEqDiff, Nat.reduceLT, Nat.reduceLeDiff, reduceCtorEq, hz, decide_true] <;> rfl) ?_
      refine awp_cond (b := true) (by simp only [fwA, ↓reduceIte, Nat.reduceAdd, Nat.reduceMul, Nat.reduceEqDiff, Nat.reduceLT, Nat.reduceLeDiff, reduceCtorEq] <;> rfl) ?_
      refine awp_seq (awp_run rfl (by simp only [fwA, ↓reduceIte, Nat.reduceAdd, Nat.reduceMul, Nat.reduceEqDiff, Nat.reduceLT, Nat.reduceLeDiff, reduceCtorEq] <;> rfl) (awp_ret ?_))
      exact gives_end0 (.inl rfl) (by rw [decide_eq_false (hnot (by rw [hnd, decide_eq_false (by simpa using hz)]; rfl))]; rfl)
    · cases bd with
      | true =>
        refine aops_run 9 (by simp only [fwA, ↓reduceIte, Nat.reduceAdd, Nat.reduceMul, Nat.reduceEqDiff, Nat.reduceLT, Nat.reduceLeDiff, reduceCtorEq, hz, decide_false] <;> rfl) ?_
        refine awp_cond (b := false) (by simp only [fwA, ↓reduceIte, Nat.reduceAdd, Nat.reduceMul, Nat.reduceEqDiff, Nat.reduceLT, Nat.reduceLeDiff, reduceCtorEq] <;> rfl) (awp_skip ?_)
        refine awp_run rfl (by simp only [fwA, ↓reduceIte, Nat.reduceAdd, Nat.reduceMul, Nat.reduceEqDiff, Nat.reduceLT, Nat.reduceLeDiff, reduceCtorEq] <;> rfl) ?_
        exact ⟨i + 1, by omega, ⟨by omega, fin (by rw [hnd, decide_eq_true hz]; rfl)⟩, by rw [wrapS i (by omega)]; rfl, rfl, rfl⟩
      | false =>
        refine aops_run 9 (by simp only [fwA, ↓reduceIte, Nat.reduceAdd, Nat.reduceMul, Nat.reduceEqDiff, Nat.reduceLT, Nat.reduceLeDiff, reduceCtorEq, hz, decide_false] <;> rfl) ?_
        refine awp_cond (b := true) (by simp only [fwA, ↓reduceIte, Nat.reduceAdd, Nat.reduceMul, Nat.reduceEqDiff, Nat.reduceLT, Nat.reduceLeDiff, reduceCtorEq] <;> rfl) ?_
        refine awp_seq (awp_run rfl (by simp only [fwA, ↓reduceIte, Nat.reduceAdd, Nat.reduceMul, Nat.reduceEqDiff, Nat.reduceLT, Nat.reduceLeDiff, reduceCtorEq] <;> rfl) (awp_ret ?_))
        exact gives_end0 (.inl rfl) (by rw [decide_eq_false (hnot (by rw [hnd]; simp))]; rfl)
def idxS (fr : List (List UInt8)) (a : List UInt8) : Int := match fr.findIdx? (fun b => decide (b = a)) with
  | some k => k
  | none => -1
theorem idxS_none {fr : List (List UInt8)} {a : List UInt8} (h : ∀ j, j < fr.length → fr[j]? ≠ some a) : idxS fr a = -1 := by
  unfold idxS
  have : fr.findIdx? (fun b => decide (b = a)) = none := by
    rw [List.findIdx?_eq_none_iff]
    intro x hx
    obtain ⟨j, hj⟩ := List.getElem?_of_mem hx
    have := h j (List.getElem?_eq_some_iff.1 hj).1
    rw [hj] at this
    simpa using this
  rw [this]
theorem idxS_some {fr : List (List UInt8)} {a : List UInt8} {i : Nat} (h : ∀ j, j < i → fr[j]? ≠ some a) (hi : fr[i]? = some a) : idxS fr a = i := by
  unfold idxS
  have : fr.findIdx? (fun b => decide (b = a)) = some i := by
    obtain ⟨h1, h2⟩ := List.getElem?_eq_some_iff.1 hi
    rw [List.findIdx?_eq_some_iff_getElem]
    refine ⟨h1, by simp [h2], fun j hj => ?_⟩
    have := h j hj
    rw [List.getElem?_eq_getElem (by omega)] at this
    simpa using this
  rw [this]
theorem idxS_mem (fr : List (List UInt8)) (a : List UInt8) : decide (0 ≤ idxS fr a) = decide (a ∈ fr) := by
  unfold idxS
  cases h : fr.findIdx? (fun b => decide (b = a)) with
  | none =>
    rw [List.findIdx?_eq_none_iff] at h
    exact decide_eq_decide.2 ⟨fun h => absurd h (by decide), fun hm => by simpa using h a hm⟩
  | some k =>
    obtain ⟨h1, h2, _⟩ := List.findIdx?_eq_some_iff_getElem.1 h
    have : fr[k] = a := by simpa using h2
    exact decide_eq_decide.2 ⟨fun _ => this ▸ List.getElem_mem h1, fun _ => Int.natCast_nonneg _⟩
theorem c51 (Γ : Nat → PV) (fr : List (List UInt8)) (f : Bool) (a : List UInt8) : Gives Tryd.prog Γ 51 [.vec (fr.map S1) f, .str a] (.int .i64 (idxS fr a)) := by
  refine fn_of_awp Tryd.func51 rfl (by simp [Tryd.f51]) rfl fun H => ?_
  refine awp_vlen 0 rfl fun hlen => ?_
  rw [List.length_map] at hlen
  refine awp_seq ?_
  refine awp_run rfl (by simp only [fwA, ↓reduceIte, Nat.reduceAdd, Nat.reduceMul, Nat.reduceEqDiff, Nat.reduceLT, Nat.reduceLeDiff, reduceCtorEq] <;> rfl) ?_
  refine awp_seq ?_
  refine awp_seq ?_
  refine awp_run rfl (by simp only [fwA, ↓reduceIte, Nat.reduceAdd, Nat.reduceMul, Nat.reduceEqDiff, Nat.reduceLT, Nat.reduceLeDiff, reduceCtorEq, un50, List.length_map] <;> rfl) ?_
  refine awp_block ?_
  refine awp_for [0, 1, 7, 8] (fun i : Nat => [.vec (fr.map S1) f, .str a, .int .i64 fr.length, .int .i64 (i : Int)]) (fun _ => H) (fun i => fr.length - i) (fun i => i ≤ fr.length ∧ ∀ j, j < i → fr[j]? ≠ some a) 0 rfl rfl ⟨Nat.zero_le _, fun j hj => by omega⟩ fun i hs => ?_
  obtain ⟨hi, hno⟩ := hs
  refine awp_seq ?_
  refine awp_run rfl (by simp only [fwA, ↓reduceIte, Nat.reduceAdd, Nat.reduceMul, Nat.reduceEqDiff, Nat.reduceLT, Nat.reduceLeDiff, reduceCtorEq] <;> rfl) ?_
  refine awp_seq ?_
  refine awp_cond (by simp only [fwA, ↓reduceIte, Nat.reduceAdd, Nat.reduceMul, Nat.reduceEqDiff, Nat.reduceLT, Nat.reduceLeDiff, reduceCtorEq] <;> rfl) ?_
  by_cases hc : (i : Int) < fr.length
  rotate_left
  · simp only [hc, decide_false, Bool.false_eq_true, ↓reduceIte]
    refine awp_exit ?_
    refine awp_seq (awp_run rfl (by simp only [fwA, ↓reduceIte, Nat.reduceAdd, Nat.reduceMul, Nat.reduceEqDiff, Nat.reduceLT, Nat.reduceLeDiff, reduceCtorEq] <;> rfl) (awp_ret ?_))
    have hi' : i = fr.length := by omega
    rw [hi'] at hno
    exact gives_end0 (.inl rfl) (by rw [idxS_none hno]; rfl)
  simp only [hc, decide_true, ↓reduceIte]
  refine awp_skip ?_
  have hia : i < fr.length := by omega
  have ga : fr[i]? = some fr[i] := List.getElem?_eq_getElem hia
  refine awp_seq ?_
  refine awp_block ?_
  refine awp_seq ?_
  refine awp_run rfl (by simp only [fwA, ↓reduceIte, Nat.reduceAdd, Nat.reduceMul, Nat.reduceEqDiff, Nat.reduceLT, Nat.reduceLeDiff, reduceCtorEq] <;> rfl) ?_
  refine awp_seq ?_
  refine awp_run rfl (by simp only [fwA, ↓reduceIte, Nat.reduceAdd, Nat.reduceMul, Nat.reduceEqDiff, Nat.reduceLT, Nat.reduceLeDiff, reduceCtorEq, el50, ti9, List.getElem?_map, ga, Option.map_some, Int.natCast_nonneg, S1_fw] <;> rfl) ?_
  refine awp_cond (by simp only [fwA, ↓reduceIte, Nat.reduceAdd, Nat.reduceMul, Nat.reduceEqDiff, Nat.reduceLT, Nat.reduceLeDiff, reduceCtorEq] <;> rfl) ?_
  by_cases he : a = fr[i]
  · simp only [← he, decide_true, ↓reduceIte]
    have hri := idxS_some hno (ga.trans (congrArg some he.symm))
    rw [hri]
    refine awp_seq ?_
    refine awp_run rfl (by simp only [fwA, ↓reduceIte, Nat.reduceAdd, Nat.reduceMul, Nat.reduceEqDiff, Nat.reduceLT, Nat.reduceLeDiff, reduceCtorEq] <;> rfl) (awp_ret ?_)
    exact gives_end0 (.inl rfl) rfl
  simp only [he, decide_false, Bool.false_eq_true, ↓reduceIte]
  refine awp_skip ?_
  refine awp_run rfl (by simp only [fwA, ↓reduceIte, Nat.reduceAdd, Nat.reduceMul, Nat.reduceEqDiff, Nat.reduceLT, Nat.reduceLeDiff, reduceCtorEq] <;> rfl) ?_
  refine ⟨i + 1, by omega, ⟨by omega, fun j hj => ?_⟩, by rw [wrapS i (by omega)]; rfl, rfl, rfl⟩
  by_cases hji : j = i
  · subst hji; rw [ga]; simpa using fun h => he h.symm
  · exact hno j (by omega)
theorem c39 (Γ : Nat → PV) (fr : List (List UInt8)) (f : Bool) (a : List UInt8) : Gives Tryd.prog Γ 39 [.vec (fr.map S1) f, .str a] (.bool (decide (a ∈ fr))) := by
  refine fn_of_awp Tryd.func39 rfl (by simp [Tryd.f39]) rfl fun H => ?_
  refine awp_seq ?_
  refine awp_run rfl (by simp only [fwA, ↓reduceIte, Nat.reduceAdd, Nat.reduceMul, Nat.reduceEqDiff, Nat.reduceLT, Nat.reduceLeDiff, reduceCtorEq] <;> rfl) ?_
  refine awp_seq ?_
  refine awp_region rfl ?_
  refine aops_run 2 (by simp only [fwA, ↓reduceIte, Nat.reduceAdd, Nat.reduceMul, Nat.reduceEqDiff, Nat.reduceLT, Nat.reduceLeDiff, reduceCtorEq] <;> rfl) ?_
  refine aops_fn rfl rfl rfl en51 (c51 Γ fr f a) ?_
  refine aops_run 2 (by simp only [fwA, ↓reduceIte, Nat.reduceAdd, Nat.reduceMul, Nat.reduceEqDiff, Nat.reduceLT, Nat.reduceLeDiff, reduceCtorEq] <;> rfl) ?_
  exact awp_ret (gives_end0 (.inl rfl) (by rw [← idxS_mem]; rfl))
def mks : List (List UInt8) := [[61, 62], [58, 61], [40], [41], [59], [58], [61], [33], [43], [45], [42], [60], [46]]
def Tab (Γ : Nat → PV) : Prop := Γ 0 = .cptr (kidsTab.map fun z => .int .i64 z) ∧ Γ 1 = .cptr (opNs.map .str) ∧ Γ 3 = .cptr (kws.map .str) ∧ Γ 2 = .cptr (mks.map .str) ∧ Γ 4 = .cptr (Lib.pow10Tab.map fun z => .int .u64 z)
theorem ar68 : arOf Tryd.prog 68 = some (5, 1) := by kernel_rfl
theorem ar88 : arOf Tryd.prog 88 = some (14, 1) := by kernel_rfl
theorem c38 (Γ : Nat → PV) (hΓ : Tab Γ) (s : List UInt8) : Gives Tryd.prog Γ 38 [.str s] (.bool (decide (s ∈ kws))) := by
  refine fn_of_awp Tryd.func38 rfl (by simp [Tryd.f38]) rfl fun H => ?_
  refine awp_seq ?_
  refine awp_run rfl (by simp only [fwA, ↓reduceIte, Nat.reduceAdd, Nat.reduceMul, Nat.reduceEqDiff, Nat.reduceLT, Nat.reduceLeDiff, reduceCtorEq] <;> rfl) ?_
  refine awp_seq ?_
  refine awp_region rfl ?_
  refine aops_one rfl (os_sliceArr rfl ar88 (show ev Γ _ (.global 3) = _ from hΓ.2.2.1) rfl (by decide) (by decide) ?_)
  refine aops_run 1 (by simp only [fwA, ↓reduceIte, Nat.reduceAdd, Nat.reduceMul, Nat.reduceEqDiff, Nat.reduceLT, Nat.reduceLeDiff, reduceCtorEq] <;> rfl) ?_
  refine aops_fn rfl rfl rfl en39 (c39 Γ kws true s) ?_
  refine aops_run 1 (by simp only [fwA, ↓reduceIte, Nat.reduceAdd, Nat.reduceMul, Nat.reduceEqDiff, Nat.reduceLT, Nat.reduceLeDiff, reduceCtorEq] <;> rfl) ?_
  exact awp_ret (gives_end0 (.inl rfl) rfl)
end Go.Proofs.YtddnigahjahkbaaDoor
namespace Go.Proofs.YtddnigahjahkbaaDoor
set_option linter.unusedVariables false
set_option linter.unusedSimpArgs false
set_option maxRecDepth 100000
open Go.RowKit Fw
theorem tab_at {k : Int} (h1 : 1 ≤ k) (h2 : k < 14) : ((kidsTab.map fun z => PV.int .i64 z).drop (k.toNat * 1))[0]? = some (.int .i64 (kidsTab.getD k.toNat 0)) := by
  have : k = 1 ∨ k = 2 ∨ k = 3 ∨ k = 4 ∨ k = 5 ∨ k = 6 ∨ k = 7 ∨ k = 8 ∨ k = 9 ∨ k = 10 ∨ k = 11 ∨ k = 12 ∨ k = 13 := by omega
  rcases this with rfl | rfl | rfl | rfl | rfl | rfl | rfl | rfl | rfl | rfl | rfl | rfl | rfl <;> rfl
set_option maxHeartbeats 1000000 in
theorem c26 (Γ : Nat → PV) (hΓ : Tab Γ) (t : Tm) : Gives Tryd.prog Γ 26 [.agg t.enc] (.bool (decide (nodeP t))) := by
  have h0 := hΓ.1
  refine fn_of_awp Tryd.func26 rfl (by simp [Tryd.f26]) rfl fun H => ?_
  refine awp_seq ?_
  refine awp_run rfl (by simp only [fwA, ↓reduceIte, Nat.reduceAdd, Nat.reduceMul, Nat.reduceEqDiff, Nat.reduceLT, Nat.reduceLeDiff, reduceCtorEq, Tm.fw] <;> rfl) ?_
  have hsh : 0 ≤ t.kind → t.kind < 14 → (0 ≤ t.kind ∧ t.kind < ((14 : Nat) : Int)) := fun a b => ⟨a, b⟩
  refine awp_seq ?_
  refine awp_seq ?_
  by_cases k1 : t.kind < 1
  · refine awp_drawn [0, 1, 0, 0, 0, 1, 0, 0, 0, 0, 1, 0, 0, 1, 0, 1, 0, 0, 0, 0, 1, 0, 0, 0, 0, 1, 0, 0, 0, 0, 1, 0, 0, 0, 1, 0, 0, 0] [0, 1, 3, 7, 15, 31, 63, 127, 255, 511, 1023, 2047, 511, 4607, 12799, 29183, 65535, 131071, 262143, 524287, 1048575, 2097151, 4194303, 8388607, 16777215, 33554431, 67108863, 134217727, 268435455, 536870911, 1073741823, 2147483647, 4294967295, 8589934591, 17179869183, 34359738367, 68719476735, 137438953471] mixed rfl (by kernel_rfl) ?_
    refine dops_run 13 (by simp only [fwA, ↓reduceIte, Nat.reduceAdd, Nat.reduceMul, Nat.reduceEqDiff, Nat.reduceLT, Nat.reduceLeDiff, reduceCtorEq, fl26_0, ti3, fl26_3, ti24, un24, el65, ar65, fl26_2, ti2, Tm.fw, List.length_map, h0, hsh, decide_true, decide_false, Bool.not_true, Bool.not_false, k1] <;> rfl) ?_
    refine dops_run 13 (by simp only [fwA, ↓reduceIte, Nat.reduceAdd, Nat.reduceMul, Nat.reduceEqDiff, Nat.reduceLT, Nat.reduceLeDiff, reduceCtorEq, fl26_0, ti3, fl26_3, ti24, un24, el65, ar65, fl26_2, ti2, Tm.fw, List.length_map, h0, hsh, decide_true, decide_false, Bool.not_true, Bool.not_false, k1] <;> rfl) ?_
    refine dops_run 12 (by simp only [fwA, ↓reduceIte, Nat.reduceAdd, Nat.reduceMul, Nat.reduceEqDiff, Nat.reduceLT, Nat.reduceLeDiff, reduceCtorEq, fl26_0, ti3, fl26_3, ti24, un24, el65, ar65, fl26_2, ti2, Tm.fw, List.length_map, h0, hsh, decide_true, decide_false, Bool.not_true, Bool.not_false, k1] <;> rfl) ?_
    refine dops_end ?_
    refine awp_cond (b := true) (by simp [alook, aput, ev]) ?_
    refine awp_seq (awp_run rfl (by simp only [fwA, ↓reduceIte, Nat.reduceAdd, Nat.reduceMul, Nat.reduceEqDiff, Nat.reduceLT, Nat.reduceLeDiff, reduceCtorEq] <;> rfl) (awp_ret ?_))
    exact gives_end (.inl rfl) _ (by rw [decide_eq_false (fun e => absurd e.1.1 (by omega))]; rfl)
  by_cases k2 : 14 ≤ t.kind
  · refine awp_drawn [0, 1, 0, 0, 0, 1, 0, 0, 0, 0, 1, 0, 0, 1, 0, 1, 0, 0, 0, 0, 1, 0, 0, 0, 0, 1, 0, 0, 0, 0, 1, 0, 0, 0, 1, 0, 0, 0] [0, 1, 3, 7, 15, 31, 63, 127, 255, 511, 1023, 2047, 511, 4607, 12799, 29183, 65535, 131071, 262143, 524287, 1048575, 2097151, 4194303, 8388607, 16777215, 33554431, 67108863, 134217727, 268435455, 536870911, 1073741823, 2147483647, 4294967295, 8589934591, 17179869183, 34359738367, 68719476735, 137438953471] mixed rfl (by kernel_rfl) ?_
    refine dops_run 13 (by simp only [fwA, ↓reduceIte, Nat.reduceAdd, Nat.reduceMul, Nat.reduceEqDiff, Nat.reduceLT, Nat.reduceLeDiff, reduceCtorEq, fl26_0, ti3, fl26_3, ti24, un24, el65, ar65, fl26_2, ti2, Tm.fw, List.length_map, h0, hsh, decide_true, decide_false, Bool.not_true, Bool.not_false, k1, k2] <;> rfl) ?_
    refine dops_run 13 (by simp only [fwA, ↓reduceIte, Nat.reduceAdd, Nat.reduceMul, Nat.reduceEqDiff, Nat.reduceLT, Nat.reduceLeDiff, reduceCtorEq, fl26_0, ti3, fl26_3, ti24, un24, el65, ar65, fl26_2, ti2, Tm.fw, List.length_map, h0, hsh, decide_true, decide_false, Bool.not_true, Bool.not_false, k1, k2] <;> rfl) ?_
    refine dops_run 12 (by simp only [fwA, ↓reduceIte, Nat.reduceAdd, Nat.reduceMul, Nat.reduceEqDiff, Nat.reduceLT, Nat.reduceLeDiff, reduceCtorEq, fl26_0, ti3, fl26_3, ti24, un24, el65, ar65, fl26_2, ti2, Tm.fw, List.length_map, h0, hsh, decide_true, decide_false, Bool.not_true, Bool.not_false, k1, k2] <;> rfl) ?_
    refine dops_end ?_
    refine awp_cond (b := true) (by simp [alook, aput, ev]) ?_
    refine awp_seq (awp_run rfl (by simp only [fwA, ↓reduceIte, Nat.reduceAdd, Nat.reduceMul, Nat.reduceEqDiff, Nat.reduceLT, Nat.reduceLeDiff, reduceCtorEq] <;> rfl) (awp_ret ?_))
    exact gives_end (.inl rfl) _ (by rw [decide_eq_false (fun e => absurd e.1.2 (by omega))]; rfl)
  have gt := tab_at (k := t.kind) (by omega) (by omega)
  have hin : 0 ≤ t.kind ∧ t.kind < ((14 : Nat) : Int) := ⟨by omega, by omega⟩
  generalize (kidsTab.map fun z => PV.int .i64 z) = T at h0 gt
  have hnd : nodeP t ↔ (t.kids.length : Int) = kidsTab.getD t.kind.toNat 0 ∧ (t.kind ≠ 1 → t.n = 0) ∧ 0 ≤ t.n ∧ t.n < 2147483648 ∧ nmOk t := ⟨fun h => h.2, fun h => ⟨⟨by omega, by omega⟩, h⟩⟩
  generalize kidsTab.getD t.kind.toNat 0 = m at gt hnd
  rw [decide_eq_decide.2 hnd]
  by_cases k3 : (t.kids.length : Int) = m
  rotate_left
  · refine awp_drawn [0, 1, 0, 0, 0, 1, 0, 0, 0, 0, 1, 0, 0, 1, 0, 1, 0, 0, 0, 0, 1, 0, 0, 0, 0, 1, 0, 0, 0, 0, 1, 0, 0, 0, 1, 0, 0, 0] [0, 1, 3, 7, 15, 31, 63, 127, 255, 511, 1023, 2047, 511, 4607, 12799, 29183, 65535, 131071, 262143, 524287, 1048575, 2097151, 4194303, 8388607, 16777215, 33554431, 67108863, 134217727, 268435455, 536870911, 1073741823, 2147483647, 4294967295, 8589934591, 17179869183, 34359738367, 68719476735, 137438953471] mixed rfl (by kernel_rfl) ?_
    refine dops_run 13 (by simp only [fwA, ↓reduceIte, Nat.reduceAdd, Nat.reduceMul, Nat.reduceEqDiff, Nat.reduceLT, Nat.reduceLeDiff, reduceCtorEq, fl26_0, ti3, fl26_3, ti24, un24, el65, ar65, fl26_2, ti2, Tm.fw, List.length_map, h0, hsh, decide_true, decide_false, Bool.not_true, Bool.not_false, k1, k2, hin, gt, if_pos, and_self, k3] <;> rfl) ?_
    refine dops_run 13 (by simp only [fwA, ↓reduceIte, Nat.reduceAdd, Nat.reduceMul, Nat.reduceEqDiff, Nat.reduceLT, Nat.reduceLeDiff, reduceCtorEq, fl26_0, ti3, fl26_3, ti24, un24, el65, ar65, fl26_2, ti2, Tm.fw, List.length_map, h0, hsh, decide_true, decide_false, Bool.not_true, Bool.not_false, k1, k2, hin, gt, if_pos, and_self, k3] <;> rfl) ?_
    refine dops_run 12 (by simp only [fwA, ↓reduceIte, Nat.reduceAdd, Nat.reduceMul, Nat.reduceEqDiff, Nat.reduceLT, Nat.reduceLeDiff, reduceCtorEq, fl26_0, ti3, fl26_3, ti24, un24, el65, ar65, fl26_2, ti2, Tm.fw, List.length_map, h0, hsh, decide_true, decide_false, Bool.not_true, Bool.not_false, k1, k2, hin, gt, if_pos, and_self, k3] <;> rfl) ?_
    refine dops_end ?_
    refine awp_cond (b := true) (by simp [alook, aput, ev]) ?_
    refine awp_seq (awp_run rfl (by simp only [fwA, ↓reduceIte, Nat.reduceAdd, Nat.reduceMul, Nat.reduceEqDiff, Nat.reduceLT, Nat.reduceLeDiff, reduceCtorEq] <;> rfl) (awp_ret ?_))
    exact gives_end (.inl rfl) _ (by rw [decide_eq_false (fun e => absurd e.1 k3)]; rfl)
  by_cases k4 : t.n < 0
  · refine awp_drawn [0, 1, 0, 0, 0, 1, 0, 0, 0, 0, 1, 0, 0, 1, 0, 1, 0, 0, 0, 0, 1, 0, 0, 0, 0, 1, 0, 0, 0, 0, 1, 0, 0, 0, 1, 0, 0, 0] [0, 1, 3, 7, 15, 31, 63, 127, 255, 511, 1023, 2047, 511, 4607, 12799, 29183, 65535, 131071, 262143, 524287, 1048575, 2097151, 4194303, 8388607, 16777215, 33554431, 67108863, 134217727, 268435455, 536870911, 1073741823, 2147483647, 4294967295, 8589934591, 17179869183, 34359738367, 68719476735, 137438953471] mixed rfl (by kernel_rfl) ?_
    refine dops_run 13 (by simp only [fwA, ↓reduceIte, Nat.reduceAdd, Nat.reduceMul, Nat.reduceEqDiff, Nat.reduceLT, Nat.reduceLeDiff, reduceCtorEq, fl26_0, ti3, fl26_3, ti24, un24, el65, ar65, fl26_2, ti2, Tm.fw, List.length_map, h0, hsh, decide_true, decide_false, Bool.not_true, Bool.not_false, k1, k2, hin, gt, if_pos, and_self, k3, k4] <;> rfl) ?_
    refine dops_run 13 (by simp only [fwA, ↓reduceIte, Nat.reduceAdd, Nat.reduceMul, Nat.reduceEqDiff, Nat.reduceLT, Nat.reduceLeDiff, reduceCtorEq, fl26_0, ti3, fl26_3, ti24, un24, el65, ar65, fl26_2, ti2, Tm.fw, List.length_map, h0, hsh, decide_true, decide_false, Bool.not_true, Bool.not_false, k1, k2, hin, gt, if_pos, and_self, k3, k4] <;> rfl) ?_
    refine dops_run 12 (by simp only [fwA, ↓reduceIte, Nat.reduceAdd, Nat.reduceMul, Nat.reduceEqDiff, Nat.reduceLT, Nat.reduceLeDiff, reduceCtorEq, fl26_0, ti3, fl26_3, ti24, un24, el65, ar65, fl26_2, ti2, Tm.fw, List.length_map, h0, hsh, decide_true, decide_false, Bool.not_true, Bool.not_false, k1, k2, hin, gt, if_pos, and_self, k3, k4] <;> rfl) ?_
    refine dops_end ?_
    refine awp_cond (b := true) (by simp [alook, aput, ev]) ?_
    refine awp_seq (awp_run rfl (by simp only [fwA, ↓reduceIte, Nat.reduceAdd, Nat.reduceMul, Nat.reduceEqDiff, Nat.reduceLT, Nat.reduceLeDiff, reduceCtorEq] <;> rfl) (awp_ret ?_))
    exact gives_end (.inl rfl) _ (by rw [decide_eq_false (fun e => absurd e.2.2.1 (by omega))]; rfl)
  by_cases k5 : 2147483648 ≤ t.n
  · refine awp_drawn [0, 1, 0, 0, 0, 1, 0, 0, 0, 0, 1, 0, 0, 1, 0, 1, 0, 0, 0, 0, 1, 0, 0, 0, 0, 1, 0, 0, 0, 0, 1, 0, 0, 0, 1, 0, 0, 0] [0, 1, 3, 7, 15, 31, 63, 127, 255, 511, 1023, 2047, 511, 4607, 12799, 29183, 65535, 131071, 262143, 524287, 1048575, 2097151, 4194303, 8388607, 16777215, 33554431, 67108863, 134217727, 268435455, 536870911, 1073741823, 2147483647, 4294967295, 8589934591, 17179869183, 34359738367, 68719476735, 137438953471] mixed rfl (by kernel_rfl) ?_
    refine dops_run 13 (by simp only [fwA, ↓reduceIte, Nat.reduceAdd, Nat.reduceMul, Nat.reduceEqDiff, Nat.reduceLT, Nat.reduceLeDiff, reduceCtorEq, fl26_0, ti3, fl26_3, ti24, un24, el65, ar65, fl26_2, ti2, Tm.fw, List.length_map, h0, hsh, decide_true, decide_false, Bool.not_true, Bool.not_false, k1, k2, hin, gt, if_pos, and_self, k3, k4, k5] <;> rfl) ?_
    refine dops_run 13 (by simp only [fwA, ↓reduceIte, Nat.reduceAdd, Nat.reduceMul, Nat.reduceEqDiff, Nat.reduceLT, Nat.reduceLeDiff, reduceCtorEq, fl26_0, ti3, fl26_3, ti24, un24, el65, ar65, fl26_2, ti2, Tm.fw, List.length_map, h0, hsh, decide_true, decide_false, Bool.not_true, Bool.not_false, k1, k2, hin, gt, if_pos, and_self, k3, k4, k5] <;> rfl) ?_
    refine dops_run 12 (by simp only [fwA, ↓reduceIte, Nat.reduceAdd, Nat.reduceMul, Nat.reduceEqDiff, Nat.reduceLT, Nat.reduceLeDiff, reduceCtorEq, fl26_0, ti3, fl26_3, ti24, un24, el65, ar65, fl26_2, ti2, Tm.fw, List.length_map, h0, hsh, decide_true, decide_false, Bool.not_true, Bool.not_false, k1, k2, hin, gt, if_pos, and_self, k3, k4, k5] <;> rfl) ?_
    refine dops_end ?_
    refine awp_cond (b := true) (by simp [alook, aput, ev]) ?_
    refine awp_seq (awp_run rfl (by simp only [fwA, ↓reduceIte, Nat.reduceAdd, Nat.reduceMul, Nat.reduceEqDiff, Nat.reduceLT, Nat.reduceLeDiff, reduceCtorEq] <;> rfl) (awp_ret ?_))
    exact gives_end (.inl rfl) _ (by rw [decide_eq_false (fun e => absurd e.2.2.2.1 (by omega))]; rfl)
  by_cases k6 : t.kind = 1 ∨ t.n = 0
  rotate_left
  · have k6a : ¬ t.kind = 1 := fun h => k6 (.inl h)
    have k6b : ¬ t.n = 0 := fun h => k6 (.inr h)
    refine awp_drawn [0, 1, 0, 0, 0, 1, 0, 0, 0, 0, 1, 0, 0, 1, 0, 1, 0, 0, 0, 0, 1, 0, 0, 0, 0, 1, 0, 0, 0, 0, 1, 0, 0, 0, 1, 0, 0, 0] [0, 1, 3, 7, 15, 31, 63, 127, 255, 511, 1023, 2047, 511, 4607, 12799, 29183, 65535, 131071, 262143, 524287, 1048575, 2097151, 4194303, 8388607, 16777215, 33554431, 67108863, 134217727, 268435455, 536870911, 1073741823, 2147483647, 4294967295, 8589934591, 17179869183, 34359738367, 68719476735, 137438953471] mixed rfl (by kernel_rfl) ?_
    refine dops_run 13 (by simp only [fwA, ↓reduceIte, Nat.reduceAdd, Nat.reduceMul, Nat.reduceEqDiff, Nat.reduceLT, Nat.reduceLeDiff, reduceCtorEq, fl26_0, ti3, fl26_3, ti24, un24, el65, ar65, fl26_2, ti2, Tm.fw, List.length_map, h0, hsh, decide_true, decide_false, Bool.not_true, Bool.not_false, k1, k2, hin, gt, if_pos, and_self, k3, k4, k5, k6a, k6b] <;> rfl) ?_
    refine dops_run 13 (by simp only [fwA, ↓reduceIte, Nat.reduceAdd, Nat.reduceMul, Nat.reduceEqDiff, Nat.reduceLT, Nat.reduceLeDiff, reduceCtorEq, fl26_0, ti3, fl26_3, ti24, un24, el65, ar65, fl26_2, ti2, Tm.fw, List.length_map, h0, hsh, decide_true, decide_false, Bool.not_true, Bool.not_false, k1, k2, hin, gt, if_pos, and_self, k3, k4, k5, k6a, k6b] <;> rfl) ?_
    refine dops_run 12 (by simp only [fwA, ↓reduceIte, Nat.reduceAdd, Nat.reduceMul, Nat.reduceEqDiff, Nat.reduceLT, Nat.reduceLeDiff, reduceCtorEq, fl26_0, ti3, fl26_3, ti24, un24, el65, ar65, fl26_2, ti2, Tm.fw, List.length_map, h0, hsh, decide_true, decide_false, Bool.not_true, Bool.not_false, k1, k2, hin, gt, if_pos, and_self, k3, k4, k5, k6a, k6b] <;> rfl) ?_
    refine dops_end ?_
    refine awp_cond (b := true) (by simp [alook, aput, ev]) ?_
    refine awp_seq (awp_run rfl (by simp only [fwA, ↓reduceIte, Nat.reduceAdd, Nat.reduceMul, Nat.reduceEqDiff, Nat.reduceLT, Nat.reduceLeDiff, reduceCtorEq] <;> rfl) (awp_ret ?_))
    exact gives_end (.inl rfl) _ (by rw [decide_eq_false (fun e => k6b (e.2.1 k6a))]; rfl)
  refine AWP.mono (Q := fun e A' H' D' => e = .normal ∧ akeep [1, 40] A' = [(1, .ptr H.length 0), (40, .bool false)] ∧ H' = H ++ [.box t.enc] ∧ D' = []) ?_ fun e A' H' D' hq => ?_
  · by_cases k7 : t.kind = 1
    · have k7d : decide (t.kind = 1) = true := decide_eq_true k7
      refine awp_drawn [0, 1, 0, 0, 0, 1, 0, 0, 0, 0, 1, 0, 0, 1, 0, 1, 0, 0, 0, 0, 1, 0, 0, 0, 0, 1, 0, 0, 0, 0, 1, 0, 0, 0, 1, 0, 0, 0] [0, 1, 3, 7, 15, 31, 63, 127, 255, 511, 1023, 2047, 511, 4607, 12799, 29183, 65535, 131071, 262143, 524287, 1048575, 2097151, 4194303, 8388607, 16777215, 33554431, 67108863, 134217727, 268435455, 536870911, 1073741823, 2147483647, 4294967295, 8589934591, 17179869183, 34359738367, 68719476735, 137438953471] mixed rfl (by kernel_rfl) ?_
      refine dops_run 13 (by simp only [fwA, ↓reduceIte, Nat.reduceAdd, Nat.reduceMul, Nat.reduceEqDiff, Nat.reduceLT, Nat.reduceLeDiff, reduceCtorEq, fl26_0, ti3, fl26_3, ti24, un24, el65, ar65, fl26_2, ti2, Tm.fw, List.length_map, h0, hsh, decide_true, decide_false, Bool.not_true, Bool.not_false, k1, k2, hin, gt, if_pos, and_self, k3, k4, k5, k7d] <;> rfl) ?_
      refine dops_run 13 (by simp only [fwA, ↓reduceIte, Nat.reduceAdd, Nat.reduceMul, Nat.reduceEqDiff, Nat.reduceLT, Nat.reduceLeDiff, reduceCtorEq, fl26_0, ti3, fl26_3, ti24, un24, el65, ar65, fl26_2, ti2, Tm.fw, List.length_map, h0, hsh, decide_true, decide_false, Bool.not_true, Bool.not_false, k1, k2, hin, gt, if_pos, and_self, k3, k4, k5, k7d] <;> rfl) ?_
      refine dops_run 12 (by simp only [fwA, ↓reduceIte, Nat.reduceAdd, Nat.reduceMul, Nat.reduceEqDiff, Nat.reduceLT, Nat.reduceLeDiff, reduceCtorEq, fl26_0, ti3, fl26_3, ti24, un24, el65, ar65, fl26_2, ti2, Tm.fw, List.length_map, h0, hsh, decide_true, decide_false, Bool.not_true, Bool.not_false, k1, k2, hin, gt, if_pos, and_self, k3, k4, k5, k7d] <;> rfl) ?_
      refine dops_end ?_
      exact ⟨rfl, by simp [akeep, alook, aput, ev], rfl, rfl⟩
    · have k8 : t.n = 0 := k6.resolve_left k7
      refine awp_drawn [0, 1, 0, 0, 0, 1, 0, 0, 0, 0, 1, 0, 0, 1, 0, 1, 0, 0, 0, 0, 1, 0, 0, 0, 0, 1, 0, 0, 0, 0, 1, 0, 0, 0, 1, 0, 0, 0] [0, 1, 3, 7, 15, 31, 63, 127, 255, 511, 1023, 2047, 511, 4607, 12799, 29183, 65535, 131071, 262143, 524287, 1048575, 2097151, 4194303, 8388607, 16777215, 33554431, 67108863, 134217727, 268435455, 536870911, 1073741823, 2147483647, 4294967295, 8589934591, 17179869183, 34359738367, 68719476735, 137438953471] mixed rfl (by kernel_rfl) ?_
      refine dops_run 13 (by simp only [fwA, ↓reduceIte, Nat.reduceAdd, Nat.reduceMul, Nat.reduceEqDiff, Nat.reduceLT, Nat.reduceLeDiff, reduceCtorEq, fl26_0, ti3, fl26_3, ti24, un24, el65, ar65, fl26_2, ti2, Tm.fw, List.length_map, h0, hsh, decide_true, decide_false, Bool.not_true, Bool.not_false, k1, k2, hin, gt, if_pos, and_self, k3, k4, k5, k7, k8, Int.reduceLT, Int.reduceLE] <;> rfl) ?_
      refine dops_run 13 (by simp only [fwA, ↓reduceIte, Nat.reduceAdd, Nat.reduceMul, Nat.reduceEqDiff, Nat.reduceLT, Nat.reduceLeDiff, reduceCtorEq, fl26_0, ti3, fl26_3, ti24, un24, el65, ar65, fl26_2, ti2, Tm.fw, List.length_map, h0, hsh, decide_true, decide_false, Bool.not_true, Bool.not_false, k1, k2, hin, gt, if_pos, and_self, k3, k4, k5, k7, k8, Int.reduceLT, Int.reduceLE] <;> rfl) ?_
      refine dops_run 12 (by simp only [fwA, ↓reduceIte, Nat.reduceAdd, Nat.reduceMul, Nat.reduceEqDiff, Nat.reduceLT, Nat.reduceLeDiff, reduceCtorEq, fl26_0, ti3, fl26_3, ti24, un24, el65, ar65, fl26_2, ti2, Tm.fw, List.length_map, h0, hsh, decide_true, decide_false, Bool.not_true, Bool.not_false, k1, k2, hin, gt, if_pos, and_self, k3, k4, k5, k7, k8, Int.reduceLT, Int.reduceLE] <;> rfl) ?_
      refine dops_end ?_
      exact ⟨rfl, by simp [akeep, alook, aput, ev], rfl, rfl⟩
  obtain ⟨rfl, hA, rfl, rfl⟩ := hq
  refine awp_keep _ hA ?_
  have hnm : decide ((t.kids.length : Int) = m ∧ (t.kind ≠ 1 → t.n = 0) ∧ 0 ≤ t.n ∧ t.n < 2147483648 ∧ nmOk t) = decide (nmOk t) := decide_eq_decide.2 ⟨fun h => h.2.2.2.2, fun h => ⟨k3, fun a => k6.resolve_left a, by omega, by omega, h⟩⟩
  rw [hnm]
  refine awp_cond (b := false) rfl (awp_skip ?_)
  have hbk : t.binder = true → ¬ t.kind = 12 := fun kb h => by unfold Tm.binder at kb; rw [h] at kb; revert kb; decide
  have hw : t.binder = true ∨ t.kind = 2 → decide (nmOk t) = decide (wordP t.name) := fun kb => decide_eq_decide.2 (by unfold nmOk; rw [if_neg (kb.elim hbk fun h => by omega), if_pos (Or.comm.1 kb)])
  refine awp_seq ?_
  refine awp_block ?_
  refine awp_seq ?_
  refine AWP.mono (Q := fun e A' H' D' => e = .normal ∧ akeep [1, 41] A' = [(1, .ptr H.length 0), (41, .bool (t.binder || decide (t.kind = 2)))] ∧ H' = H ++ [.box t.enc] ∧ D' = []) ?_ fun e A' H' D' hq => ?_
  · -- region 3
    refine awp_region rfl ?_
    refine aops_run 1 (by simp only [fwA, ↓reduceIte, Nat.reduceAdd, Nat.reduceMul, Nat.reduceEqDiff, Nat.reduceLT, Nat.reduceLeDiff, reduceCtorEq, ti26, Tm.fw] <;> rfl) ?_
    refine aops_fn rfl rfl rfl en24 (c24 Γ t) ?_
    cases hb : t.binder with
    | true =>
      refine aops_run 6 (by simp only [fwA, ↓reduceIte, Nat.reduceAdd, Nat.reduceMul, Nat.reduceEqDiff, Nat.reduceLT, Nat.reduceLeDiff, reduceCtorEq, fl26_0, ti3, Tm.fw] <;> rfl) ?_
      exact ⟨rfl, by simp [akeep, alook, aput, ev], rfl, rfl⟩
    | false =>
      refine aops_run 6 (by simp only [fwA, ↓reduceIte, Nat.reduceAdd, Nat.reduceMul, Nat.reduceEqDiff, Nat.reduceLT, Nat.reduceLeDiff, reduceCtorEq, fl26_0, ti3, Tm.fw] <;> rfl) ?_
      exact ⟨rfl, by simp [akeep, alook, aput, ev], rfl, rfl⟩
  obtain ⟨rfl, hA, rfl, rfl⟩ := hq
  refine awp_keep _ hA ?_
  refine awp_cond (by simp only [fwA, ↓reduceIte, Nat.reduceAdd, Nat.reduceMul, Nat.reduceEqDiff, Nat.reduceLT, Nat.reduceLeDiff, reduceCtorEq] <;> rfl) ?_
  by_cases kb : t.binder = true ∨ t.kind = 2
  · have hbt : (t.binder || decide (t.kind = 2)) = true := by rcases kb with kb | kb <;> simp [kb]
    simp only [hbt, ↓reduceIte]
    rw [hw kb]
    refine awp_seq ?_
    refine awp_region rfl ?_
    refine aops_run 2 (by simp only [fwA, ↓reduceIte, Nat.reduceAdd, Nat.reduceMul, Nat.reduceEqDiff, Nat.reduceLT, Nat.reduceLeDiff, reduceCtorEq, fl26_1, ti9, Tm.fw] <;> rfl) ?_
    refine aops_fn rfl rfl rfl en37 (c37 Γ t.name) ?_
    by_cases h1 : nameP t.name
    rotate_left
    · refine aops_run 7 (by simp only [fwA, ↓reduceIte, Nat.reduceAdd, Nat.reduceMul, Nat.reduceEqDiff, Nat.reduceLT, Nat.reduceLeDiff, reduceCtorEq, h1, decide_false] <;> rfl) ?_
      exact awp_ret (gives_end (.inl rfl) _ (by rw [decide_eq_false (fun e => h1 e.1)]; rfl))
    refine aops_run 3 (by simp only [fwA, ↓reduceIte, Nat.reduceAdd, Nat.reduceMul, Nat.reduceEqDiff, Nat.reduceLT, Nat.reduceLeDiff, reduceCtorEq, fl26_1, ti9, Tm.fw, h1, decide_true] <;> rfl) ?_
    refine aops_fnIf rfl rfl rfl rfl rfl en38 (c38 Γ hΓ t.name) ?_
    by_cases h2 : t.name ∈ kws
    · refine aops_run 3 (by simp only [fwA, ↓reduceIte, Nat.reduceAdd, Nat.reduceMul, Nat.reduceEqDiff, Nat.reduceLT, Nat.reduceLeDiff, reduceCtorEq, h2, decide_true] <;> rfl) ?_
      exact awp_ret (gives_end (.inl rfl) _ (by rw [decide_eq_false (fun e => e.2 h2)]; rfl))
    · refine aops_run 3 (by simp only [fwA, ↓reduceIte, Nat.reduceAdd, Nat.reduceMul, Nat.reduceEqDiff, Nat.reduceLT, Nat.reduceLeDiff, reduceCtorEq, h2, decide_false] <;> rfl) ?_
      exact awp_ret (gives_end (.inl rfl) _ (by rw [decide_eq_true (show wordP t.name from ⟨h1, h2⟩)]; rfl))
  have hbf : (t.binder || decide (t.kind = 2)) = false := by
    have a1 : t.binder = false := by cases h : t.binder with | false => rfl | true => exact absurd (.inl h) kb
    have a2 : decide (t.kind = 2) = false := decide_eq_false fun h => kb (.inr h)
    rw [a1, a2]; rfl
  simp only [hbf, Bool.false_eq_true, ↓reduceIte]
  refine awp_seq ?_
  -- region 5
  refine awp_run rfl (by simp only [fwA, ↓reduceIte, Nat.reduceAdd, Nat.reduceMul, Nat.reduceEqDiff, Nat.reduceLT, Nat.reduceLeDiff, reduceCtorEq, fl26_0, ti3, Tm.fw] <;> rfl) ?_
  refine awp_cond (by simp only [fwA, ↓reduceIte, Nat.reduceAdd, Nat.reduceMul, Nat.reduceEqDiff, Nat.reduceLT, Nat.reduceLeDiff, reduceCtorEq] <;> rfl) ?_
  by_cases k12 : t.kind = 12
  · simp only [k12, decide_true, ↓reduceIte]
    have hw2 : decide (nmOk t) = decide (t.name ∈ opNs) := decide_eq_decide.2 (by unfold nmOk; rw [if_pos k12])
    rw [hw2]
    refine awp_seq ?_
    refine awp_drawn [0, 0, 1, 0, 0] [0, 0, 2, 7, 15] mixed rfl (by kernel_rfl) ?_
    refine dops_one _ rfl rfl (fun H A' hev => os_sliceArr rfl ar68 ((hev (.global 1) (by simp [Op.operands])).trans (show ev Γ _ (.global 1) = _ from hΓ.2.1)) rfl (by decide) (by decide) ⟨rfl, rfl⟩) ?_
    refine dops_run 2 (by simp only [fwA, ↓reduceIte, Nat.reduceAdd, Nat.reduceMul, Nat.reduceEqDiff, Nat.reduceLT, Nat.reduceLeDiff, reduceCtorEq, fl26_1, ti9, Tm.fw] <;> rfl) ?_
    refine dops_fn rfl rfl rfl rfl en39 (c39 Γ opNs true t.name) ?_
    refine dops_run 1 (by simp only [fwA, ↓reduceIte, Nat.reduceAdd, Nat.reduceMul, Nat.reduceEqDiff, Nat.reduceLT, Nat.reduceLeDiff, reduceCtorEq] <;> rfl) ?_
    refine dops_end ?_
    exact awp_ret (gives_end (.inl rfl) _ rfl)
  simp only [k12, decide_false, Bool.false_eq_true, ↓reduceIte]
  refine awp_skip ?_
  have hw3 : decide (nmOk t) = decide (t.name = []) := decide_eq_decide.2 (by unfold nmOk; rw [if_neg k12, if_neg (fun h => kb (Or.comm.1 h))])
  rw [hw3]
  simp only [Post.block, Post.then, ↓reduceIte]
  refine awp_seq ?_
  -- region 7
  refine awp_run rfl (by simp only [fwA, ↓reduceIte, Nat.reduceAdd, Nat.reduceMul, Nat.reduceEqDiff, Nat.reduceLT, Nat.reduceLeDiff, reduceCtorEq, fl26_1, ti9, Tm.fw] <;> rfl) ?_
  exact awp_ret (gives_end (.inl rfl) _ rfl)
end Go.Proofs.YtddnigahjahkbaaDoor
namespace Go.Proofs.YtddnigahjahkbaaDoor
set_option linter.unusedVariables false
set_option linter.unusedSimpArgs false
set_option maxRecDepth 100000
open Go.RowKit Fw
theorem c40 (Γ : Nat → PV) (f : Nat) (he : Enters Tryd.prog f) (caps : List PV) (l : List Tm) (S Z : Nat → List Blk → Prop)
    (hS : ∀ (i : Nat) (x : Tm) (H : List Blk), l[i]? = some x → S i H → ACalls Tryd.prog Γ f ([.agg (Tm.enc x)] ++ caps) H (fun p H' => p = .bool false ∧ S (i + 1) H' ∨ p = .bool true ∧ Z i H')) (H : List Blk) (h0 : S 0 H) :
    ACalls Tryd.prog Γ 40 [.vec (l.map Tm.enc) false, .func (.func f) [] caps] H (fun p H' => H.length ≤ H'.length ∧ (p = .int .i64 (-1) ∧ S l.length H' ∨ ∃ i : Nat, p = .int .i64 i ∧ Z i H')) := by
  refine acalls_of_awp Tryd.func40 rfl (by simp [Tryd.f40]) fun hbd => ?_
  refine awp_seq ?_
  refine awp_run rfl (by simp only [fwA, ↓reduceIte, Nat.reduceAdd, Nat.reduceMul, Nat.reduceEqDiff, Nat.reduceLT, Nat.reduceLeDiff, reduceCtorEq] <;> rfl) ?_
  refine awp_vlen 0 rfl fun hlen => ?_
  rw [List.length_map] at hlen
  refine awp_seq ?_
  refine awp_seq ?_
  refine awp_run rfl (by simp only [fwA, ↓reduceIte, Nat.reduceAdd, Nat.reduceMul, Nat.reduceEqDiff, Nat.reduceLT, Nat.reduceLeDiff, reduceCtorEq, un24, List.length_map] <;> rfl) ?_
  refine awp_block ?_
  refine awp_for [0, 1, 7, 8] (fun s : Nat × List Blk => [.vec (l.map Tm.enc) false, .func (.func f) [] caps, .int .i64 l.length, .int .i64 (s.1 : Int)]) (fun s => s.2) (fun s => l.length - s.1)
    (fun s => s.1 ≤ l.length ∧ S s.1 s.2 ∧ H.length ≤ s.2.length) (0, H) rfl rfl ⟨Nat.zero_le _, h0, Nat.le_refl _⟩ fun s hs => ?_
  obtain ⟨i, Hi⟩ := s
  obtain ⟨hi, hSi, hn⟩ := hs
  dsimp only at hi hSi hn ⊢
  refine awp_seq ?_
  refine awp_run rfl (by simp only [fwA, ↓reduceIte, Nat.reduceAdd, Nat.reduceMul, Nat.reduceEqDiff, Nat.reduceLT, Nat.reduceLeDiff, reduceCtorEq] <;> rfl) ?_
  refine awp_seq ?_
  refine awp_cond (by simp only [fwA, ↓reduceIte, Nat.reduceAdd, Nat.reduceMul, Nat.reduceEqDiff, Nat.reduceLT, Nat.reduceLeDiff, reduceCtorEq] <;> rfl) ?_
  by_cases hc : (i : Int) < l.length
  rotate_left
  · simp only [hc, decide_false, Bool.false_eq_true, ↓reduceIte]
    refine awp_exit ?_
    have hie : i = l.length := by omega
    subst hie
    refine awp_bd fun hbd' => ?_
    refine awp_seq (awp_run rfl (by simp only [fwA, ↓reduceIte, Nat.reduceAdd, Nat.reduceMul, Nat.reduceEqDiff, Nat.reduceLT, Nat.reduceLeDiff, reduceCtorEq] <;> rfl) (awp_ret ?_))
    exact calls_at (p := .int .i64 (-1)) (.inl rfl) hbd' rfl rfl hn ⟨hn, .inl ⟨rfl, hSi⟩⟩
  simp only [hc, decide_true, ↓reduceIte]
  refine awp_skip ?_
  have hia : i < l.length := by omega
  have ga : l[i]? = some l[i] := List.getElem?_eq_getElem hia
  refine awp_seq ?_
  refine awp_block ?_
  refine awp_seq ?_
  refine awp_run rfl (by simp only [fwA, ↓reduceIte, Nat.reduceAdd, Nat.reduceMul, Nat.reduceEqDiff, Nat.reduceLT, Nat.reduceLeDiff, reduceCtorEq] <;> rfl) ?_
  refine awp_seq ?_
  refine awp_region rfl ?_
  refine aops_run 5 (by simp only [fwA, ↓reduceIte, Nat.reduceAdd, Nat.reduceMul, Nat.reduceEqDiff, Nat.reduceLT, Nat.reduceLeDiff, reduceCtorEq, el24, ti26, Tm.fw, List.getElem?_map, ga, Option.map_some, Int.natCast_nonneg] <;> rfl) ?_
  refine aops_call rfl rfl rfl he ((hS i l[i] Hi ga hSi).lenLe.mono fun p H' hp => ?_)
  obtain ⟨hp, hn'⟩ := hp
  rcases hp with ⟨rfl, hS'⟩ | ⟨rfl, hZ⟩
  · refine awp_cond (b := false) (by simp only [fwA, ↓reduceIte, Nat.reduceAdd, Nat.reduceMul, Nat.reduceEqDiff, Nat.reduceLT, Nat.reduceLeDiff, reduceCtorEq] <;> rfl) ?_
    refine awp_skip ?_
    refine awp_run rfl (by simp only [fwA, ↓reduceIte, Nat.reduceAdd, Nat.reduceMul, Nat.reduceEqDiff, Nat.reduceLT, Nat.reduceLeDiff, reduceCtorEq] <;> rfl) ?_
    exact ⟨(i + 1, H'), by dsimp only; omega, ⟨by dsimp only; omega, hS', by dsimp only; omega⟩, by rw [wrapS i (by omega)]; rfl, rfl, rfl⟩
  · refine awp_cond (b := true) (by simp only [fwA, ↓reduceIte, Nat.reduceAdd, Nat.reduceMul, Nat.reduceEqDiff, Nat.reduceLT, Nat.reduceLeDiff, reduceCtorEq] <;> rfl) ?_
    refine awp_bd fun hbd' => ?_
    refine awp_seq (awp_run rfl (by simp only [fwA, ↓reduceIte, Nat.reduceAdd, Nat.reduceMul, Nat.reduceEqDiff, Nat.reduceLT, Nat.reduceLeDiff, reduceCtorEq] <;> rfl) (awp_ret ?_))
    simp only [Post.block, Post.then]
    refine calls_at (p := .int .i64 (i : Int)) (.inl rfl) hbd' ?_ rfl (by omega) ⟨by omega, .inr ⟨i, rfl, hZ⟩⟩
    rfl
theorem c27 (Γ : Nat → PV) (f : Nat) (he : Enters Tryd.prog f) (caps : List PV) (l : List Tm) (S Z : Nat → List Blk → Prop)
    (hS : ∀ (i : Nat) (x : Tm) (H : List Blk), l[i]? = some x → S i H → ACalls Tryd.prog Γ f ([.agg (Tm.enc x)] ++ caps) H (fun p H' => p = .bool false ∧ S (i + 1) H' ∨ p = .bool true ∧ Z i H')) (H : List Blk) (h0 : S 0 H) :
    ACalls Tryd.prog Γ 27 [.vec (l.map Tm.enc) false, .func (.func f) [] caps] H (fun p H' => H.length ≤ H'.length ∧ (p = .bool false ∧ S l.length H' ∨ p = .bool true ∧ ∃ i : Nat, Z i H')) := by
  refine acalls_of_awp Tryd.func27 rfl (by simp [Tryd.f27]) fun hbd => ?_
  refine awp_seq ?_
  refine awp_run rfl (by simp only [fwA, ↓reduceIte, Nat.reduceAdd, Nat.reduceMul, Nat.reduceEqDiff, Nat.reduceLT, Nat.reduceLeDiff, reduceCtorEq] <;> rfl) ?_
  refine awp_seq ?_
  refine awp_region rfl ?_
  refine aops_run 2 (by simp only [fwA, ↓reduceIte, Nat.reduceAdd, Nat.reduceMul, Nat.reduceEqDiff, Nat.reduceLT, Nat.reduceLeDiff, reduceCtorEq] <;> rfl) ?_
  refine aops_call rfl rfl rfl en40 ((c40 Γ f he caps l S Z hS H h0).mono fun p H' hp => ?_)
  obtain ⟨hn, hp⟩ := hp
  rcases hp with ⟨rfl, hS'⟩ | ⟨i, rfl, hZ⟩
  · refine aops_run 2 (by simp only [fwA, ↓reduceIte, Nat.reduceAdd, Nat.reduceMul, Nat.reduceEqDiff, Nat.reduceLT, Nat.reduceLeDiff, reduceCtorEq] <;> rfl) ?_
    refine awp_bd fun hbd' => ?_
    refine awp_ret ?_
    exact calls_at (p := .bool false) (.inl rfl) hbd' rfl rfl hn ⟨hn, .inl ⟨rfl, hS'⟩⟩
  · refine aops_run 2 (by simp only [fwA, ↓reduceIte, Nat.reduceAdd, Nat.reduceMul, Nat.reduceEqDiff, Nat.reduceLT, Nat.reduceLeDiff, reduceCtorEq, ge_iff_le, Int.natCast_nonneg, decide_true] <;> rfl) ?_
    refine awp_bd fun hbd' => ?_
    refine awp_ret ?_
    exact calls_at (p := .bool true) (.inl rfl) hbd' rfl rfl hn ⟨hn, .inr ⟨rfl, i, hZ⟩⟩
theorem c25 (Γ : Nat → PV) (hΓ : Tab Γ) : ∀ (t : Tm) (H : List Blk) (b : Nat), H[b]? = some (.box [.func (.func 25) [] [.ptr b 0]]) → ACalls Tryd.prog Γ 25 [.agg t.enc, .ptr b 0] H (fun p H' => p = .bool (!decide (Nodes t)) ∧ H' = H) := by
  refine Tm.ind fun t ih => fun H b hb => ?_
  refine acalls_of_awp Tryd.func25 rfl (by simp [Tryd.f25]) fun hbd => ?_
  have hbl := (List.getElem?_eq_some_iff.1 hb).1
  refine awp_seq ?_
  refine awp_run rfl (by simp only [fwA, ↓reduceIte, Nat.reduceAdd, Nat.reduceMul, Nat.reduceEqDiff, Nat.reduceLT, Nat.reduceLeDiff, reduceCtorEq, Tm.fw] <;> rfl) ?_
  refine awp_seq ?_
  refine awp_region rfl ?_
  refine aops_run 1 (by simp only [fwA, ↓reduceIte, Nat.reduceAdd, Nat.reduceMul, Nat.reduceEqDiff, Nat.reduceLT, Nat.reduceLeDiff, reduceCtorEq, ti26, Tm.fw] <;> rfl) ?_
  refine aops_fn rfl rfl rfl en26 (c26 Γ hΓ t) ?_
  by_cases hn : nodeP t
  rotate_left
  · refine aops_run 8 (by simp only [fwA, ↓reduceIte, Nat.reduceAdd, Nat.reduceMul, Nat.reduceEqDiff, Nat.reduceLT, Nat.reduceLeDiff, reduceCtorEq, hn, decide_false, Bool.not_false] <;> rfl) ?_
    exact awp_ret (calls_end (p := .bool (!decide (Nodes t))) _ (.inl rfl) hbd (by rw [decide_eq_false (fun e => hn (Nodes.node e))]; rfl) rfl ⟨rfl, rfl⟩)
  have hb2 : (H ++ [Blk.box t.enc])[b]? = some (.box [.func (.func 25) [] [.ptr b 0]]) := by rw [List.getElem?_append_left hbl]; exact hb
  refine aops_run 5 (by simp only [fwA, ↓reduceIte, Nat.reduceAdd, Nat.reduceMul, Nat.reduceEqDiff, Nat.reduceLT, Nat.reduceLeDiff, reduceCtorEq, fl26_3, ti24, ti44, Tm.fw, hn, decide_true, Bool.not_true, hb2] <;> rfl) ?_
  refine aops_if rfl rfl rfl (os_call rfl rfl en27 ((c27 Γ 25 en25 [.ptr b 0] t.kids (fun i H' => H' = H ++ [.box t.enc] ∧ ∀ k ∈ t.kids.take i, Nodes k) (fun _ H' => H' = H ++ [.box t.enc] ∧ ∃ k ∈ t.kids, ¬ Nodes k) (fun i x H2 hx hs => ?_) _ ⟨rfl, fun k hk => by cases hk⟩).mono fun p H' hp => ?_))
  · obtain ⟨rfl, hs⟩ := hs
    refine (ih x (List.mem_of_getElem? hx) _ b hb2).mono fun p H' hp => ?_
    obtain ⟨rfl, rfl⟩ := hp
    by_cases hx' : Nodes x
    · refine .inl ⟨by rw [decide_eq_true hx']; rfl, rfl, fun k hk => ?_⟩
      rw [List.take_add_one, hx] at hk
      rcases List.mem_append.1 hk with h | h
      · exact hs k h
      · simp only [Option.toList_some, List.mem_singleton] at h; exact h ▸ hx'
    · exact .inr ⟨by rw [decide_eq_false hx']; rfl, rfl, x, List.mem_of_getElem? hx, hx'⟩
  · rcases hp.2 with ⟨rfl, rfl, hs⟩ | ⟨rfl, i, rfl, k, hk, hk'⟩
    · refine aops_run 2 (by simp only [fwA, ↓reduceIte, Nat.reduceAdd, Nat.reduceMul, Nat.reduceEqDiff, Nat.reduceLT, Nat.reduceLeDiff, reduceCtorEq] <;> rfl) ?_
      rw [List.take_length] at hs
      exact awp_ret (calls_end (p := .bool (!decide (Nodes t))) _ (.inl rfl) hbd (by rw [decide_eq_true (Nodes.mk t hn hs)]; rfl) rfl ⟨rfl, rfl⟩)
    · refine aops_run 2 (by simp only [fwA, ↓reduceIte, Nat.reduceAdd, Nat.reduceMul, Nat.reduceEqDiff, Nat.reduceLT, Nat.reduceLeDiff, reduceCtorEq] <;> rfl) ?_
      exact awp_ret (calls_end (p := .bool (!decide (Nodes t))) _ (.inl rfl) hbd (by rw [decide_eq_false (fun e => hk' (Nodes.kids e k hk))]; rfl) rfl ⟨rfl, rfl⟩)
theorem c16 (Γ : Nat → PV) (hΓ : Tab Γ) (t : Tm) (hw : t.w ≤ 4611686018427387904) : Gives Tryd.prog Γ 16 [.agg t.enc] (.bool (decide (RightT t))) := by
  refine fn_of_awp Tryd.func16 rfl (by simp [Tryd.f16]) rfl fun H => ?_
  refine awp_seq ?_
  refine awp_run rfl (by simp only [fwA, ↓reduceIte, Nat.reduceAdd, Nat.reduceMul, Nat.reduceEqDiff, Nat.reduceLT, Nat.reduceLeDiff, reduceCtorEq, Tm.fw] <;> rfl) ?_
  refine awp_seq ?_
  refine awp_run rfl (by simp only [fwA, ↓reduceIte, Nat.reduceAdd, Nat.reduceMul, Nat.reduceEqDiff, Nat.reduceLT, Nat.reduceLeDiff, reduceCtorEq, ti44] <;> rfl) ?_
  refine awp_seq ?_
  refine awp_run rfl (by simp only [fwA, ↓reduceIte, Nat.reduceAdd, Nat.reduceMul, Nat.reduceEqDiff, Nat.reduceLT, Nat.reduceLeDiff, reduceCtorEq, ti44] <;> rfl) ?_
  refine awp_heap (H' := H ++ [.box t.enc, .box [.func (.func 25) [] [.ptr (H.length + 1) 0]]]) (by simp) ?_
  refine awp_seq ?_
  refine awp_region rfl ?_
  refine aops_run 1 (by simp only [fwA, ↓reduceIte, Nat.reduceAdd, Nat.reduceMul, Nat.reduceEqDiff, Nat.reduceLT, Nat.reduceLeDiff, reduceCtorEq, ti26, Tm.fw] <;> rfl) ?_
  refine aops_fn rfl rfl rfl en10 (c10 Γ t hw) ?_
  by_cases h1 : (t.dep : Int) ≤ 200
  rotate_left
  · refine aops_run 13 (by simp only [fwA, ↓reduceIte, Nat.reduceAdd, Nat.reduceMul, Nat.reduceEqDiff, Nat.reduceLT, Nat.reduceLeDiff, reduceCtorEq, ti26, Tm.fw, h1, decide_false] <;> rfl) ?_
    exact awp_ret (gives_end (.inl rfl) _ (by rw [decide_eq_false (fun e => h1 (by have := e.1; omega))]; rfl))
  refine aops_run 3 (by simp only [fwA, ↓reduceIte, Nat.reduceAdd, Nat.reduceMul, Nat.reduceEqDiff, Nat.reduceLT, Nat.reduceLeDiff, reduceCtorEq, ti26, Tm.fw, h1, decide_true] <;> rfl) ?_
  refine aops_fnIf rfl rfl rfl rfl rfl en28 (c28 Γ t hw) ?_
  by_cases h2 : (t.w : Int) ≤ 10000
  rotate_left
  · refine aops_run 9 (by simp only [fwA, ↓reduceIte, Nat.reduceAdd, Nat.reduceMul, Nat.reduceEqDiff, Nat.reduceLT, Nat.reduceLeDiff, reduceCtorEq, ti26, Tm.fw, h2, decide_false] <;> rfl) ?_
    exact awp_ret (gives_end (.inl rfl) _ (by rw [decide_eq_false (fun e => h2 (by have := e.2.1; omega))]; rfl))
  refine aops_run 5 (by simp only [fwA, ↓reduceIte, Nat.reduceAdd, Nat.reduceMul, Nat.reduceEqDiff, Nat.reduceLT, Nat.reduceLeDiff, reduceCtorEq, ti44, ti26, Tm.fw, h2, decide_true] <;> rfl) ?_
  refine aops_if rfl rfl rfl (os_call rfl rfl en25 ((c25 Γ hΓ t _ (H.length + 1) (by simp)).mono fun p H' hp => ?_))
  obtain ⟨rfl, rfl⟩ := hp
  refine aops_run 3 (by simp only [fwA, ↓reduceIte, Nat.reduceAdd, Nat.reduceMul, Nat.reduceEqDiff, Nat.reduceLT, Nat.reduceLeDiff, reduceCtorEq, Bool.not_not] <;> rfl) ?_
  exact awp_ret (gives_end (.inl rfl) _ (by rw [show decide (RightT t) = decide (Nodes t) from decide_eq_decide.2 ⟨fun h => h.2.2, fun h => ⟨by omega, by omega, h⟩⟩]; rfl))
end Go.Proofs.YtddnigahjahkbaaDoor
namespace Go.Proofs.YtddnigahjahkbaaDoor.Fw
set_option linter.unusedVariables false
set_option linter.unusedSimpArgs false
set_option maxRecDepth 100000
open Go.RowKit
open Go.Sort (putCells putRow mapBlock onCells)
theorem Sim.drawn {Γ : Nat → PV} {w0 w : World} {G : Ghost} {H : List Blk} (h : Sim Γ w0 G H w) (n : Nat) : Sim Γ w0 G H (Sort.ahead w n) :=
  h.grown ⟨rfl, rfl, rfl, Nat.le_refl _, fun _ _ => rfl⟩
theorem Sim.rowCells {Γ : Nat → PV} {w0 w : World} {G : Ghost} {H : List Blk} {b k sz : Nat} {cs : List PV} {v : Value} (h : Sim Γ w0 G H w) (hb : H[b]? = some (.row sz cs)) (hlen : cs.length = k * sz) (hv : Rep G H.length (.row b 0 k sz) v) :
    ∃ ad cap, v = .slice ad k cap ∧ (k = 0 ∨ (ad = some ⟨(G.info b).blk, 0, none⟩ ∧ (G.info b).sub = 0 ∧ 0 < (G.info b).size ∧ (G.info b).blk < w.heap.size ∧
      ∀ (j : Nat) c, cs[j]? = some c → ∃ u, w.cell? ⟨(G.info b).blk, j, none⟩ = some u ∧ w.frozen? ⟨(G.info b).blk, j, none⟩ = false ∧ Rep G H.length c u ∧ u.oneCell' = true)) := by
  obtain ⟨ad, cap, rfl, _, _, h3, h4⟩ := hv.row_inv
  refine ⟨ad, cap, rfl, ?_⟩
  obtain rfl | hk := Nat.eq_zero_or_pos k
  · exact .inl rfl
  obtain ⟨k1, k2, k3, k4, k5, k6⟩ := h.blk b _ hb
  obtain ⟨q1, q2⟩ := h4 (by omega)
  have q2' : (G.info b).sub ≤ 0 ∧ ad = some ⟨(G.info b).blk, 0 - (G.info b).sub, none⟩ := by
    rcases q2 with ⟨q2, q3, q4⟩ | ⟨q2, _⟩
    · exact ⟨q2, q3⟩
    · omega
  obtain ⟨q2, q3⟩ := q2'
  have hpos : 0 < k * sz := Nat.mul_pos hk k3
  obtain ⟨kz, kl⟩ | ⟨hp, C, e, k7, k8, k9, k10⟩ := k6
  · omega
  have hs0 : (G.info b).sub = 0 := by omega
  refine .inr ⟨by rw [q3]; simp, hs0, hp, (h.own b _ hb (by simpa [Blk.live] using hp)).2.1, fun j c hc => ?_⟩
  have hj := (List.getElem?_eq_some_iff.1 hc).1
  have hjC : j < C.size := by omega
  obtain ⟨g1, g2⟩ := k10 j c C[j] (by rw [hs0, Nat.zero_add]; exact hc) (Array.getElem?_eq_getElem hjC)
  refine ⟨C[j], ?_, ?_, g1, g2⟩
  · simp [World.cell?, k7, hjC]
  · simp [World.frozen?, k7]
end Go.Proofs.YtddnigahjahkbaaDoor.Fw
namespace Go.Proofs.YtddnigahjahkbaaDoor.Fw
set_option linter.unusedVariables false
set_option linter.unusedSimpArgs false
set_option maxRecDepth 100000
open Go.RowKit
section
variable {P : Program} {Γ : Nat → PV} {o : Oper} {A : List (Nat × PV)} {H : List Blk} {K : PV → List Blk → Prop}
end
end Go.Proofs.YtddnigahjahkbaaDoor.Fw
namespace Go.Proofs.YtddnigahjahkbaaDoor.Fw
set_option linter.unusedVariables false
set_option linter.unusedSimpArgs false
set_option maxRecDepth 100000
open Go.RowKit
section
variable {X : Type} {enc : X → List PV} {sz : Nat}
variable {P : Program} {Γ : Nat → PV} {o : Oper} {A : List (Nat × PV)} {H : List Blk} {K : PV → List Blk → Prop}
variable {ops : Array Oper} {cls : List Nat} {n0 : View} {KD : List (Nat × PV) → List Blk → Prop} {j : Nat} {rest : List (Nat × Oper)}
end
def RowIn (H0 : List Blk) (sz k : Nat) (cs : List PV) (p : PV) (H' : List Blk) : Prop := ∃ b L, p = .row b 0 k sz ∧ H' = H0 ++ L ∧ H0.length ≤ b ∧ H'[b]? = some (.row sz cs)
end Go.Proofs.YtddnigahjahkbaaDoor.Fw
namespace Go.Proofs.YtddnigahjahkbaaDoor
set_option linter.unusedVariables false
set_option linter.unusedSimpArgs false
set_option maxRecDepth 100000
open Go.RowKit Fw
section
variable {P : Program} {Γ : Nat → PV} {ops : Array Oper} {cls : List Nat} {n0 : View}
theorem srcOf_one {H : List Blk} {sz : Nat} {e : List PV} {f : Bool} : srcOf H sz (.vec [e] f) = some e := by simp [srcOf]
theorem os_push {X : Type} {enc : X → List PV} {sz : Nat} (hE : ∀ x, (enc x).length = sz) {o : Oper} {K : PV → List Blk → Prop} {A : List (Nat × PV)} {H : List Blk} {x y : Operand} {t tx e e' : TypeId} {ti : TI} {b k : Nat} {l : List X} {z : X} {f : Bool}
    (ho : o.op = .call { callee := .builtin .append, args := #[x, y], argTypes := #[t, tx] }) (ht : P.underlying t = some (.slice e)) (he : tiOf P e = some ti) (hti : ti.size = sz) (htx : P.underlying tx = some (.slice e')) (hx : ev Γ A x = .row b 0 k sz) (hbk : H[b]? = some (.row sz ((l.map enc).flatten))) (hk' : k = l.length)
    (hy : ev Γ A y = .vec [enc z] f) (hbd : (k + 1) * ti.bytes ≤ 140737488355328) (hbd' : k + 1 ≤ 9223372036854775807)
    (hk : K (.row b 0 (k + 1) sz) (H.set b (.row sz (((l ++ [z]).map enc).flatten)))) : OStep P Γ o A H K := by
  subst hti
  refine os_appendR (n := 1) ho ht he htx (.inl ⟨_, rfl⟩) hx hbk (by rw [flat_len hE, hk', Nat.zero_add]) (by rw [hy]; exact srcOf_one) (fun es f' h e he => by
    rw [hy] at h
    cases h
    rw [List.mem_singleton] at he
    subst he; exact hE z) (by rw [hy]; rfl) hbd hbd' ?_
  rw [List.map_append, List.flatten_append] at hk
  simpa using hk
theorem aops_push {X : Type} {enc : X → List PV} {sz : Nat} (hE : ∀ x, (enc x).length = sz) {o : Oper} {Q : List (Nat × PV) → List Blk → Prop} {rest : List Oper} {A : List (Nat × PV)} {H H' : List Blk} {x y : Operand} {t tx e e' : TypeId} {ti : TI} {b k : Nat} {l : List X} {z : X} {f : Bool}
    (ho : o.op = .call { callee := .builtin .append, args := #[x, y], argTypes := #[t, tx] }) (hg : o.guard = none) (ht : P.underlying t = some (.slice e)) (he : tiOf P e = some ti) (hti : ti.size = sz) (htx : P.underlying tx = some (.slice e')) (hx : ev Γ A x = .row b 0 k sz) (hbk : H[b]? = some (.row sz ((l.map enc).flatten))) (hk' : k = l.length)
    (hy : ev Γ A y = .vec [enc z] f) (hbd : (k + 1) * ti.bytes ≤ 140737488355328) (hbd' : k + 1 ≤ 9223372036854775807) (hH : H.set b (.row sz (((l ++ [z]).map enc).flatten)) = H')
    (hk : AOps P Γ ops Q rest (aput A o.dst (.row b 0 (k + 1) sz)) H') : AOps P Γ ops Q (o :: rest) A H := by
  subst hH
  exact aops_one hg (os_push hE ho ht he hti htx hx hbk hk' hy hbd hbd' hk)
theorem dops_push {X : Type} {enc : X → List PV} {sz : Nat} (hE : ∀ x, (enc x).length = sz) {i : Nat} {o : Oper} {K : List (Nat × PV) → List Blk → Prop} {rest : List (Nat × Oper)} {A : List (Nat × PV)} {H H' : List Blk} {x y : Operand} {t tx e e' : TypeId} {ti : TI} {b k : Nat} {l : List X} {z : X} {f : Bool}
    (ho : o.op = .call { callee := .builtin .append, args := #[x, y], argTypes := #[t, tx] }) (hw : wantA ops A o = some true) (hc : cls.getD i 0 = 2) (ht : P.underlying t = some (.slice e)) (he : tiOf P e = some ti) (hti : ti.size = sz) (htx : P.underlying tx = some (.slice e')) (hx : ev Γ A x = .row b 0 k sz) (hbk : H[b]? = some (.row sz ((l.map enc).flatten))) (hk' : k = l.length)
    (hy : ev Γ A y = .vec [enc z] f) (hbd : (k + 1) * ti.bytes ≤ 140737488355328) (hbd' : k + 1 ≤ 9223372036854775807) (hH : H.set b (.row sz (((l ++ [z]).map enc).flatten)) = H')
    (hk : DOps P Γ ops cls n0 K rest (aput A o.dst (.row b 0 (k + 1) sz)) H') : DOps P Γ ops cls n0 K ((i, o) :: rest) A H := by
  subst hH
  exact dops_turns _ hw hc (fun A' hev => by
    have ex := hev x (call_ops ho (by simp))
    have ey := hev y (call_ops ho (by simp))
    exact os_push hE ho ht he hti htx (ex.trans hx) hbk hk' (ey.trans hy) hbd hbd' ⟨rfl, rfl⟩) hk
theorem dops_call3 {i : Nat} {o : Oper} {K : List (Nat × PV) → List Blk → Prop} {rest : List (Nat × Oper)} {A : List (Nat × PV)} {H H' : List Blk} {x : Operand} {args : Array Operand} {ts : Array TypeId} {f : FuncId} {fs cs : List PV} {p : PV}
    (ho : o.op = .call { callee := .value x, args := args, argTypes := ts }) (hw : wantA ops A o = some true) (hc : cls.getD i 0 = 3) (hx : ev Γ A x = .func (.func f) fs cs) (he : Enters P f)
    (h : ACalls P Γ f (fs ++ args.toList.map (ev Γ A) ++ cs) H (fun q H1 => q = p ∧ H1 = H')) (ht : n0.vw H' = n0.vw H) (hk : DOps P Γ ops cls n0 K rest (aput A o.dst p) H') : DOps P Γ ops cls n0 K ((i, o) :: rest) A H :=
  dops_makes p hw hc ht (fun A' hev => by
    have hops : ∀ y, y = x ∨ y ∈ args → ev Γ A' y = ev Γ A y := fun y hy => hev y (by
      rw [ho]
      simp only [Op.operands, Call.operands, Array.mem_append]
      rcases hy with rfl | hy
      · exact .inl (by simp)
      · exact .inr hy)
    refine os_call ho (by rw [hops x (.inl rfl)]; exact hx) he ?_
    rw [List.map_congr_left (l := args.toList) fun y hy => hops y (.inr (by simpa using hy))]
    exact h) hk
theorem vw_above {v : View} (H : List Blk) {b : Nat} (B : Blk) (h : v.n ≤ b) : v.vw (H.set b B) = v.vw H := by
  unfold View.vw
  have : (H.set b B).take v.n = H.take v.n := by rw [List.take_set_of_le h]
  rw [this]
end
end Go.Proofs.YtddnigahjahkbaaDoor
namespace Go.Proofs.YtddnigahjahkbaaDoor
set_option linter.unusedVariables false
set_option linter.unusedSimpArgs false
set_option maxRecDepth 100000
open Go.RowKit Go.Shelf Fw
theorem itoa_room {n : Int} (h : I64 n) : (Lib.itoa n).length ≤ 21 := by have := Lib.itoa_length_le n h.1 h.2; omega
theorem c31 (Γ : Nat → PV) (hΓ : Tab Γ) (n : Int) (hn : I64 n) : Gives Tryd.prog Γ 31 [.int .i64 n, .int .i64 10] (.str (Lib.itoa n)) :=
  gives_text lays.m17 hΓ.2.2.2.2 (fun _ _ _ h => ints2 h) (by have := itoa_room hn; omega) fun w hw => Any.strconv_FormatInt_10 lays n hn.1 hn.2 w hw
theorem c46 (Γ : Nat → PV) : Gives Tryd.prog Γ 46 [.str [49], .int .i64 10, .int .i64 32] (.tup [.int .i64 1, .nili]) := by
  intro H w0 G w us hs hr
  obtain ⟨l⟩ := us
  obtain ⟨v, vs, rfl, r1, r2⟩ := hr.cons_inv
  obtain ⟨v2, vs, rfl, r3, r4⟩ := r2.cons_inv
  obtain ⟨v3, vs, rfl, r5, r6⟩ := r4.cons_inv
  have : vs = [] := by have := r6.1; simpa using this.symm
  subst this
  have e1 := r1.str_inv
  have e2 := r3.int_inv
  have e3 := r5.int_inv
  subst e1; subst e2; subst e3
  have hc := Any.strconv_ParseInt_10_at32_ok parses ⟨#[49]⟩ (by decide) 1 (by decide) w
  refine callsIn_wide.2 (hc.mono fun e w' hq => ?_)
  obtain ⟨rfl, hw⟩ := hq
  have hb : Below w.heap.size w w' := by
    rcases hw with rfl | ⟨t, rfl⟩
    · exact Below.refl _ _
    · exact Lib.bytesWorld_below _ _ _
  exact ⟨_, .tup [.int .i64 1, .nili], H, G, rfl, hs.grown hb, .tup _ _ _ rfl (fun i c v hc hv => by
    match i with
    | 0 => cases hc; cases hv; exact .int _ _ _
    | 1 => cases hc; cases hv; exact .nili _
    | k + 2 => cases hc), Evol.refl _ _, Nat.le_refl _, rfl, rfl⟩
theorem flatS (ts : List (List UInt8)) : (ts.map S1).flatten = ts.map PV.str := by
  induction ts with
  | nil => rfl
  | cons z zs ih => rw [List.map_cons, List.flatten_cons, ih]; rfl
theorem rowCap {Γ : Nat → PV} {w0 w : World} {G : Ghost} {H : List Blk} {b k sz : Nat} {cs : List PV} {v : Value} (h : Sim Γ w0 G H w) (hb : H[b]? = some (.row sz cs)) (hlen : cs.length = k * sz) (hv : Rep G H.length (.row b 0 k sz) v) : ∀ ad k' cap, v = .slice ad k' cap → k ≤ cap := fun ad k' cap e => by
  obtain ⟨ad2, cap2, rfl, _, _, h3, h4⟩ := hv.row_inv
  cases e
  obtain ⟨_, k2, _⟩ := h.blk b _ hb
  exact (h4 (by omega)).1
theorem c29 (Γ : Nat → PV) (H : List Blk) (b : Nat) (ts : List (List UInt8)) (sep : List UInt8) (hb : H[b]? = some (.row 1 ((ts.map S1).flatten))) (hne : ts ≠ []) (hN : ts.length ≤ 1000000000000) (hlen : (Lib.join ts sep).length ≤ 140737488355328) :
    ACalls Tryd.prog Γ 29 [.row b 0 ts.length 1, .str sep] H (fun p H' => p = .str (Lib.join ts sep) ∧ H' = H) := by
  intro w0 G w us hs hr
  obtain ⟨l⟩ := us
  obtain ⟨v, vs, rfl, r1, r2⟩ := hr.cons_inv
  obtain ⟨v2, vs, rfl, r3, r4⟩ := r2.cons_inv
  have : vs = [] := by have := r4.1; simpa using this.symm
  subst this
  have hv2 := r3.str_inv
  subst hv2
  have hl1 : ((ts.map S1).flatten).length = ts.length * 1 := flat_len S1_len ts
  have hcap := rowCap hs hb hl1 r1
  obtain ⟨ad, cap, rfl, hcase⟩ := hs.rowCells hb hl1 r1
  have hcap2 : ts.length ≤ cap := hcap _ _ _ rfl
  rcases hcase with h0 | ⟨rfl, hsub, hpos, hblk, hcells⟩
  · exact absurd (List.eq_nil_of_length_eq_zero h0) hne
  have hxs : ((ts.map fun s => (⟨s.toArray⟩ : ByteArray)).map (·.data.toList)) = ts := by
    rw [List.map_map]
    conv => rhs; rw [← List.map_id ts]
    exact List.map_congr_left fun s _ => by simp
  have hc := Any.strings_Join joins extra (G.info b).blk 0 cap (ts.map fun s => (⟨s.toArray⟩ : ByteArray)) ⟨sep.toArray⟩ w (fun j x hx => by
    rw [List.getElem?_map] at hx
    obtain ⟨s, hs', rfl⟩ := Option.map_eq_some_iff.1 hx
    obtain ⟨u, g1, _, g3, _⟩ := hcells j (.str s) (by rw [flatS, List.getElem?_map, hs']; rfl)
    rw [Nat.zero_add, g1, g3.str_inv]) hblk (by rw [List.length_map]; omega) (by rw [List.length_map]; exact hcap2) (by rw [hxs]; simpa using hlen)
  rw [hxs, List.length_map] at hc
  refine callsIn_wide.2 (hc.mono fun e w' hq => ?_)
  obtain ⟨rfl, hbel⟩ := hq
  exact ⟨_, .str (Lib.join ts sep), H, G, rfl, hs.grown hbel, .str _ _ (by omega), Evol.refl _ _, Nat.le_refl _, rfl, rfl⟩
theorem c29n (Γ : Nat → PV) (H : List Blk) (b : Nat) (sep : List UInt8) (hb : H[b]? = some (.row 1 [])) :
    ACalls Tryd.prog Γ 29 [.row b 0 0 1, .str sep] H (fun p H' => p = .str [] ∧ H' = H) := by
  intro w0 G w us hs hr
  obtain ⟨l⟩ := us
  obtain ⟨v, vs, rfl, r1, r2⟩ := hr.cons_inv
  obtain ⟨v2, vs, rfl, r3, r4⟩ := r2.cons_inv
  have : vs = [] := by have := r4.1; simpa using this.symm
  subst this
  have hv2 := r3.str_inv
  subst hv2
  obtain ⟨ad, cap, rfl, hcase⟩ := hs.rowCells hb rfl r1
  have hc := Any.strings_Join_none joins extra ad cap ⟨sep.toArray⟩ w
  refine callsIn_wide.2 (hc.mono fun e w' hq => ?_)
  obtain ⟨rfl, rfl⟩ := hq
  exact ⟨_, .str [], H, G, rfl, hs, .str _ _ (by decide), Evol.refl _ _, Nat.le_refl _, rfl, rfl⟩
theorem join_len {sep : List UInt8} {B : Nat} : ∀ ts : List (List UInt8), (∀ t ∈ ts, t.length ≤ B) → (Lib.join ts sep).length ≤ ts.length * (B + sep.length)
  | [], _ => by simp [Lib.join, List.intercalate]
  | [t], h => by rw [Lib.join_one]; have := h t (by simp); simp; omega
  | t :: u :: ts, h => by
    have ih := join_len (sep := sep) (u :: ts) (fun x hx => h x (by simp [hx]))
    have h0 := h t (by simp)
    have e : (Lib.join (t :: u :: ts) sep).length = t.length + sep.length + (Lib.join (u :: ts) sep).length := by
      simp [Lib.join, List.intercalate, List.intersperse]; omega
    rw [e, List.length_cons, Nat.add_mul]
    omega
def printT (l : List Tk) : List UInt8 := Lib.join (l.map Tk.text) [32]
set_option maxHeartbeats 1000000 in
theorem c17 (Γ : Nat → PV) (l : List Tk) (f : Bool) (hl : l.length ≤ 1000000) (hB : ∀ t ∈ l, t.text.length ≤ 1000000) : Gives Tryd.prog Γ 17 [.vec (l.map Tk.enc) f] (.str (printT l)) := by
  refine fn_of_awp Tryd.func17 rfl (by simp [Tryd.f17]) rfl fun H => ?_
  refine awp_bd fun hbd => ?_
  refine awp_seq ?_
  refine awp_run rfl (by simp only [fwA, seval] <;> rfl) ?_
  refine awp_seq ?_
  refine awp_run rfl (by simp only [fwA, seval] <;> rfl) ?_
  refine awp_seq ?_
  refine awp_seq ?_
  refine awp_run rfl (by simp only [fwA, seval, gfw, bx, dx] <;> rfl) ?_
  refine awp_told (told_adopt 3 1 (by decide) rfl) ?_
  refine awp_block ?_
  refine awp_forG [0, 3, 6, 7, 8] (fun i : Nat => [.vec (l.map Tk.enc) f, .row H.length 0 i 1, .vec (l.map Tk.enc) f, .int .i64 (l.length : Int), .int .i64 (i : Int)])
    (fun i => H ++ [.row 1 ((((l.take i).map Tk.text).map S1).flatten)]) (fun i => l.length - i) (fun i => i ≤ l.length) 0 rfl rfl (Nat.zero_le _)
    (fun i _ => ⟨bd_app (fun B hB => hbd B hB) (by simp only [List.all_cons, List.all_nil, Blk.bd, flat_bd (fun x => S1_fw.2.2 _ x), Bool.and_true]), by simp [PV.bdL, PV.bd]⟩) (fun i _ b hb => by cases hb) fun i hi => ?_
  have hti : ((l.take i).map Tk.text).length = i := by simp; omega
  refine awp_seq ?_
  refine awp_run rfl (by simp only [fwA, seval, gfw, bx, dx] <;> rfl) ?_
  refine awp_seq ?_
  refine awp_cond (by simp only [fwA, seval] <;> rfl) ?_
  by_cases hc : (i : Int) < l.length
  rotate_left
  · simp only [hc, decide_false, Bool.false_eq_true, ↓reduceIte]
    refine awp_exit ?_
    have e : i = l.length := by omega
    subst e
    rw [List.take_length]
    refine awp_seq ?_
    have hj := join_len (sep := [32]) (B := 1000000) (l.map Tk.text) (fun t ht => by
      obtain ⟨p, hp, rfl⟩ := List.mem_map.1 ht
      exact hB p hp)
    rw [List.length_map] at hj
    have hj2 : l.length * (1000000 + 1) ≤ 1000000 * (1000000 + 1) := Nat.mul_le_mul_right _ hl
    have hc29 : ACalls Tryd.prog Γ 29 [.row H.length 0 l.length 1, .str [32]] (H ++ [.row 1 (((l.map Tk.text).map S1).flatten)]) (fun p H' => p = .str (printT l) ∧ H' = H ++ [.row 1 (((l.map Tk.text).map S1).flatten)]) := by
      by_cases h0 : l = []
      · subst h0
        exact c29n Γ _ H.length [32] (get_at0 H _)
      have := c29 Γ (H ++ [.row 1 (((l.map Tk.text).map S1).flatten)]) H.length (l.map Tk.text) [32] (get_at0 H _) (by simpa using h0) (by rw [List.length_map]; omega) (Nat.le_trans hj (Nat.le_trans hj2 (by decide)))
      rwa [List.length_map] at this
    refine awp_region rfl ?_
    refine aops_run 1 (by simp only [fwA, seval, gfw, bx, dx] <;> rfl) ?_
    refine aops_call rfl rfl rfl en29 (hc29.mono fun p H4 hp => ?_)
    obtain ⟨rfl, rfl⟩ := hp
    refine aops_run 1 (by simp only [fwA, seval, gfw, bx, dx] <;> rfl) ?_
    refine awp_ret ?_
    exact gives_end (.inl rfl) _ rfl
  simp only [hc, decide_true, ↓reduceIte]
  refine awp_skip ?_
  have hil : i < l.length := by omega
  obtain ⟨z, hz⟩ : ∃ z, l[i]? = some z := ⟨_, List.getElem?_eq_getElem hil⟩
  refine awp_seq ?_
  refine awp_block ?_
  refine awp_seq ?_
  refine awp_run rfl (by simp only [fwA, seval, gfw, bx, dx, hz] <;> rfl) ?_
  refine awp_region rfl ?_
  refine aops_run 4 (by simp only [fwA, seval, gfw, bx, dx, hz] <;> rfl) ?_
  refine aops_push (enc := S1) (l := (l.take i).map Tk.text) (z := z.text) S1_len rfl rfl un50 ti9 rfl un50 rfl (get_at0 H _) hti.symm rfl (by show (i + 1) * 16 ≤ _; omega) (by omega) rfl ?_
  refine aops_run 1 (by simp only [fwA, seval, gfw, bx, dx] <;> rfl) ?_
  refine awp_run rfl (by simp only [fwA, seval, gfw, bx, dx] <;> rfl) ?_
  have hmp : ((l.take (i + 1)).map Tk.text) = ((l.take i).map Tk.text) ++ [z.text] := by rw [take_snoc hz, List.map_append]; rfl
  refine ⟨i + 1, [.box z.enc], by omega, by omega, by rw [wrapS i (by omega)]; rfl, ?_, rfl, by simp⟩
  rw [hmp]
  simp [S1]
end Go.Proofs.YtddnigahjahkbaaDoor
namespace Go.Proofs.YtddnigahjahkbaaDoor
set_option linter.unusedVariables false
set_option linter.unusedSimpArgs false
set_option maxRecDepth 100000
open Go.RowKit Fw
def hasP (s m : List UInt8) : Bool := decide (m.length ≤ s.length) && decide (s.take m.length = m)
theorem c60 (Γ : Nat → PV) (s m : List UInt8) : Gives Tryd.prog Γ 60 [.str s, .str m] (.bool (hasP s m)) := by
  refine fn_of_awp Tryd.func60 rfl (by simp [Tryd.f60]) rfl fun H => ?_
  refine awp_slen 1 rfl fun hm => ?_
  refine awp_seq ?_
  refine awp_run rfl (by simp only [fwA, seval] <;> rfl) ?_
  refine awp_seq ?_
  by_cases h : m.length ≤ s.length
  · have h2 : (m.length : Int) ≤ s.length := by omega
    have h3 : decide (m.length ≤ s.length) = true := decide_eq_true h
    refine awp_region rfl ?_
    refine aops_run 9 (by simp only [fwA, seval, gfw, bx, dx, h2, List.drop_zero, Nat.sub_zero] <;> rfl) ?_
    refine aops_if rfl rfl rfl (os_sliceStr (l := 0) (h := m.length) rfl un9 rfl rfl ⟨_, rfl⟩ (Nat.zero_le _) h ?_)
    refine aops_run 4 (by simp only [fwA, seval, gfw, bx, dx, h2, List.drop_zero, Nat.sub_zero] <;> rfl) ?_
    refine aops_end ?_
    refine awp_ret ?_
    exact gives_end0 (.inl rfl) (by unfold hasP; rw [h3]; rfl)
  · have h2 : ¬ (m.length : Int) ≤ s.length := by omega
    have h3 : decide (m.length ≤ s.length) = false := decide_eq_false h
    refine awp_region rfl ?_
    refine aops_run 13 (by simp only [fwA, seval, gfw, bx, dx, h2] <;> rfl) ?_
    refine aops_run 1 (by simp only [fwA, seval, gfw, bx, dx, h2] <;> rfl) ?_
    refine aops_end ?_
    refine awp_ret ?_
    exact gives_end0 (.inl rfl) (by unfold hasP; rw [h3]; rfl)
theorem c49 (Γ : Nat → PV) (s m : List UInt8) : Gives Tryd.prog Γ 49 [.str s, .str m] (.bool (hasP s m)) := by
  have h60 := c60 Γ s m
  refine fn_of_awp Tryd.func49 rfl (by simp [Tryd.f49]) rfl fun H => ?_
  refine awp_seq ?_
  refine awp_run rfl (by simp only [fwA, seval] <;> rfl) ?_
  refine awp_seq ?_
  refine awp_region rfl ?_
  refine aops_run 2 (by simp only [fwA, seval, gfw, bx, dx] <;> rfl) ?_
  refine aops_fn rfl rfl rfl en60 h60 ?_
  refine aops_run 1 (by simp only [fwA, seval, gfw, bx, dx] <;> rfl) ?_
  refine aops_end ?_
  refine awp_ret ?_
  exact gives_end0 (.inl rfl) rfl
theorem c48 (Γ : Nat → PV) (H : List Blk) (b : Nat) (s m : List UInt8) (hb : H[b]? = some (.box [.str s])) : ACalls Tryd.prog Γ 48 [.str m, .ptr b 0] H (fun q H' => q = .bool (hasP s m) ∧ H' = H) := by
  have h49 := c49 Γ s m
  refine acalls_of_awp Tryd.func48 rfl (by simp [Tryd.f48]) fun hbd => ?_
  refine awp_seq ?_
  refine awp_run rfl (by simp only [fwA, seval] <;> rfl) ?_
  refine awp_seq ?_
  refine awp_region rfl ?_
  refine aops_run 2 (by simp only [fwA, seval, gfw, bx, dx, hb] <;> rfl) ?_
  refine aops_fn rfl rfl rfl en49 h49 ?_
  refine aops_run 1 (by simp only [fwA, seval, gfw, bx, dx, hb] <;> rfl) ?_
  refine aops_end ?_
  refine awp_ret ?_
  exact calls_end0 (p := .bool (hasP s m)) (.inl rfl) hbd rfl rfl ⟨rfl, rfl⟩
def fidx {X : Type} (p : X → Bool) (l : List X) : Int := match l.findIdx? p with | some i => (i : Int) | none => -1
theorem fidx_none {X : Type} {p : X → Bool} {l : List X} (h : ∀ j x, j < l.length → l[j]? = some x → p x = false) : fidx p l = -1 := by
  unfold fidx
  rw [List.findIdx?_eq_none_iff.2 fun x hx => by
    obtain ⟨j, hj⟩ := List.getElem?_of_mem hx
    exact h j x (List.getElem?_eq_some_iff.1 hj).1 hj]
theorem fidx_at {X : Type} {p : X → Bool} {l : List X} {i : Nat} {x : X} (hx : l[i]? = some x) (hp : p x = true) (h : ∀ j x, j < i → l[j]? = some x → p x = false) : fidx p l = i := by
  unfold fidx
  obtain ⟨hi, e⟩ := List.getElem?_eq_some_iff.1 hx
  rw [List.findIdx?_eq_some_iff_getElem.2 ⟨hi, by rw [e]; exact hp, fun j hj => by rw [h j l[j] hj (List.getElem?_eq_getElem (by omega))]; simp⟩]
theorem c47 (Γ : Nat → PV) (H : List Blk) (f : Nat) (he : Enters Tryd.prog f) (cs : List PV) (l : List (List UInt8)) (fl : Bool) (p : List UInt8 → Bool)
    (h : ∀ x ∈ l, ACalls Tryd.prog Γ f ([] ++ [.str x] ++ cs) H (fun q H' => q = .bool (p x) ∧ H' = H)) :
    ACalls Tryd.prog Γ 47 [.vec (l.map S1) fl, .func (.func f) [] cs] H (fun q H' => q = .int .i64 (fidx p l) ∧ H' = H) := by
  refine acalls_of_awp Tryd.func47 rfl (by simp [Tryd.f47]) fun hbd => ?_
  refine awp_vlen 0 rfl fun hl => ?_
  rw [List.length_map] at hl
  refine awp_seq ?_
  refine awp_run rfl (by simp only [fwA, seval] <;> rfl) ?_
  refine awp_seq ?_
  refine awp_seq ?_
  refine awp_run rfl (by simp only [fwA, seval, gfw, bx, dx] <;> rfl) ?_
  refine awp_block ?_
  refine awp_for [0, 1, 7, 8] (fun i : Nat => [.vec (l.map S1) fl, .func (.func f) [] cs, .int .i64 (l.length : Int), .int .i64 (i : Int)]) (fun _ => H) (fun i => l.length - i) (fun i => i ≤ l.length ∧ ∀ j x, j < i → l[j]? = some x → p x = false) 0 rfl rfl ⟨Nat.zero_le _, fun j x h => by omega⟩ fun i ⟨hi, hn⟩ => ?_
  refine awp_seq ?_
  refine awp_run rfl (by simp only [fwA, seval, gfw, bx, dx] <;> rfl) ?_
  refine awp_seq ?_
  refine awp_cond (by simp only [fwA, seval] <;> rfl) ?_
  by_cases hc : (i : Int) < l.length
  rotate_left
  · simp only [hc, decide_false, Bool.false_eq_true, ↓reduceIte]
    refine awp_exit ?_
    have e : i = l.length := by omega
    subst e
    refine awp_seq ?_
    refine awp_run rfl (by simp only [fwA, seval, gfw, bx, dx] <;> rfl) ?_
    refine awp_ret ?_
    exact calls_end0 (fn := Tryd.f47) (R := fun q H' => q = .int .i64 (fidx p l) ∧ H' = H) (p := .int .i64 (-1)) (.inl rfl) hbd rfl rfl ⟨by rw [fidx_none hn], rfl⟩
  simp only [hc, decide_true, ↓reduceIte]
  refine awp_skip ?_
  have hil : i < l.length := by omega
  obtain ⟨z, hz⟩ : ∃ z, l[i]? = some z := ⟨_, List.getElem?_eq_getElem hil⟩
  have hp := h z (List.mem_of_getElem? hz)
  refine awp_seq ?_
  refine awp_block ?_
  refine awp_seq ?_
  refine awp_run rfl (by simp only [fwA, seval, gfw, bx, dx] <;> rfl) ?_
  refine awp_seq ?_
  refine awp_region rfl ?_
  refine aops_run 5 (by simp only [fwA, seval, gfw, bx, dx, hz] <;> rfl) ?_
  refine aops_call rfl rfl rfl he (hp.mono fun q H' hq => ?_)
  obtain ⟨rfl, rfl⟩ := hq
  refine aops_end ?_
  refine awp_cond (by simp only [fwA, seval] <;> rfl) ?_
  cases hpz : p z
  · simp only [Bool.false_eq_true, ↓reduceIte]
    refine awp_skip ?_
    refine awp_run rfl (by simp only [fwA, seval, gfw, bx, dx] <;> rfl) ?_
    refine ⟨i + 1, by omega, ⟨by omega, fun j x hj hx => ?_⟩, ?_, rfl, rfl⟩
    · obtain hj | rfl : j < i ∨ j = i := by omega
      · exact hn j x hj hx
      · rw [hz] at hx; cases hx; exact hpz
    · simp only [fwA, seval, List.map_cons, List.map_nil, wrapS i (by omega)]
  · simp only [↓reduceIte]
    refine awp_seq ?_
    refine awp_run rfl (by simp only [fwA, seval, gfw, bx, dx] <;> rfl) ?_
    refine awp_ret ?_
    show RetQ Tryd.prog Γ Tryd.f47 H'.length (fun q H2 => q = .int .i64 (fidx p l) ∧ H2 = H') .ret _ _ []
    exact calls_end0 (p := .int .i64 (i : Int)) (.inl rfl) hbd rfl rfl ⟨by rw [fidx_at hz hpz hn], rfl⟩
theorem c36 (Γ : Nat → PV) (hΓ : Tab Γ) (s m : List UInt8) (k : Nat) (hk : fidx (hasP s) mks = k) (hm : mks[k]? = some m) : Gives Tryd.prog Γ 36 [.str s] (.tup [.agg (Tk.mk 4 m 0).enc, .bool true]) := by
  have hkl : k < 13 := (List.getElem?_eq_some_iff.1 hm).1
  refine fn_of_awp Tryd.func36 rfl (by simp [Tryd.f36]) rfl fun H => ?_
  refine awp_seq ?_
  refine awp_run rfl (by simp only [fwA, seval, gfw, bx, dx] <;> rfl) ?_
  refine awp_seq ?_
  have h47 := c47 Γ (H ++ [.box [.str s], .box [.int .i64 0, .str [], .int .i64 0]]) 48 en48 [.ptr H.length 0] mks true (hasP s) (fun x _ => c48 Γ _ H.length s x (by simp))
  rw [hk] at h47
  refine awp_region rfl ?_
  refine aops_one rfl (os_sliceArr (cs := mks.map .str) rfl ar85 (show ev Γ _ (.global 2) = _ from hΓ.2.2.2.1) rfl (by decide) (by decide) ?_)
  refine aops_run 1 (by simp only [fwA, seval, gfw, bx, dx] <;> rfl) ?_
  refine aops_call rfl rfl rfl en47 (h47.mono fun q H' hq => ?_)
  obtain ⟨rfl, rfl⟩ := hq
  refine aops_run 1 (by simp only [fwA, seval, gfw, bx, dx] <;> rfl) ?_
  refine awp_seq ?_
  refine awp_seq ?_
  refine awp_run rfl (by simp only [fwA, seval, gfw, bx, dx] <;> rfl) ?_
  refine awp_cond (b := false) (by simp [alook, aput, ev]) (awp_skip ?_)
  refine awp_seq ?_
  have hg : Γ 2 = .cptr (mks.map .str) := hΓ.2.2.2.1
  have hi : (0 : Int) ≤ k ∧ (k : Int) < 13 := ⟨by omega, by omega⟩
  have gm : ((mks.map PV.str).drop (k * 1))[0]? = some (.str m) := by rw [List.getElem?_drop, List.getElem?_map]; simp [hm]
  refine awp_run rfl (by simp only [fwA, seval, gfw, bx, dx, hg, hi, gm] <;> rfl) ?_
  refine awp_ret ?_
  exact gives_end (.inl rfl) _ (by simp only [fwA, seval, gfw, bx, ares, aresL, ares1, Tryd.f36, Tk.enc])
theorem c34 (Γ : Nat → PV) (hΓ : Tab Γ) (s : List UInt8) : Gives Tryd.prog Γ 34 [.str s] (.tup [.agg (Tk.mk (if s ∈ kws then 3 else 1) s 0).enc, .bool (decide (s ∈ kws) || decide (nameP s))]) := by
  have h38 := c38 Γ hΓ s
  have h37 := c37 Γ s
  refine fn_of_awp Tryd.func34 rfl (by simp [Tryd.f34]) rfl fun H => ?_
  refine awp_seq ?_
  refine awp_run rfl (by simp only [fwA, seval, gfw, bx, dx] <;> rfl) ?_
  refine awp_seq ?_
  refine awp_seq ?_
  by_cases h : s ∈ kws
  · rw [decide_eq_true h] at h38
    refine awp_region rfl ?_
    refine aops_run 1 (by simp only [fwA, seval, gfw, bx, dx] <;> rfl) ?_
    refine aops_fn rfl rfl rfl en38 h38 ?_
    refine aops_end ?_
    refine awp_cond (b := true) (by simp [alook, aput, ev]) ?_
    refine awp_seq ?_
    refine awp_run rfl (by simp only [fwA, seval, gfw, bx, dx] <;> rfl) ?_
    refine awp_ret ?_
    exact gives_end (.inl rfl) _ (by simp only [fwA, seval, gfw, bx, ares, aresL, ares1, Tryd.f34, Tk.enc, h, if_pos])
  · rw [decide_eq_false h] at h38
    refine awp_region rfl ?_
    refine aops_run 1 (by simp only [fwA, seval, gfw, bx, dx] <;> rfl) ?_
    refine aops_fn rfl rfl rfl en38 h38 ?_
    refine aops_end ?_
    refine awp_cond (b := false) (by simp [alook, aput, ev]) (awp_skip ?_)
    refine awp_seq ?_
    refine awp_region rfl ?_
    refine aops_run 3 (by simp only [fwA, seval, gfw, bx, dx] <;> rfl) ?_
    refine aops_fn rfl rfl rfl en37 h37 ?_
    refine aops_run 2 (by simp only [fwA, seval, gfw, bx, dx] <;> rfl) ?_
    refine aops_end ?_
    refine awp_ret ?_
    exact gives_end (.inl rfl) _ (by simp only [fwA, seval, gfw, bx, ares, aresL, ares1, Tryd.f34, Tk.enc, h, if_neg, not_false_eq_true])
theorem c35 (Γ : Nat → PV) (hΓ : Tab Γ) : Gives Tryd.prog Γ 35 [.str [49]] (.tup [.agg (Tk.mk 2 [49] 1).enc, .bool true]) := by
  have h46 := c46 Γ
  have h31 := c31 Γ hΓ 1 ⟨by decide, by decide⟩
  rw [show Lib.itoa 1 = [49] from by rw [show (1 : Int) = ((1 : Nat) : Int) from rfl, Lib.itoa_nonneg, Lib.decDigits_one (by decide)]; rfl] at h31
  refine fn_of_awp Tryd.func35 rfl (by simp [Tryd.f35]) rfl fun H => ?_
  refine awp_seq ?_
  refine awp_run rfl (by simp only [fwA, seval, gfw, bx, dx] <;> rfl) ?_
  refine awp_seq ?_
  refine awp_region rfl ?_
  refine aops_run 1 (by simp only [fwA, seval, gfw, bx, dx] <;> rfl) ?_
  refine aops_fn rfl rfl rfl en46 h46 ?_
  refine aops_run 5 (by simp only [fwA, seval, gfw, bx, dx] <;> rfl) ?_
  refine aops_end ?_
  refine awp_seq ?_
  refine awp_region rfl ?_
  refine aops_run 7 (by simp only [fwA, seval, gfw, bx, dx] <;> rfl) ?_
  refine aops_fnIf rfl rfl rfl rfl rfl en31 h31 ?_
  refine aops_run 5 (by simp only [fwA, seval, gfw, bx, dx] <;> rfl) ?_
  refine aops_end ?_
  refine awp_ret ?_
  exact gives_end (.inl rfl) _ (by simp only [fwA, seval, gfw, bx, ares, aresL, ares1, Tryd.f35, Tk.enc])
end Go.Proofs.YtddnigahjahkbaaDoor
namespace Go.Proofs.YtddnigahjahkbaaDoor
set_option linter.unusedVariables false
set_option linter.unusedSimpArgs false
set_option maxRecDepth 100000
open Go.RowKit Fw
def TkOk (t : Tk) : Prop := (t.kind = 1 ∧ nameP t.text ∧ t.text ∉ kws ∧ t.n = 0) ∨ (t.kind = 3 ∧ t.text ∈ kws ∧ t.n = 0) ∨ (t.kind = 2 ∧ t.text = [49] ∧ t.n = 1) ∨ (t.kind = 4 ∧ t.n = 0 ∧ ∃ k : Nat, fidx (hasP t.text) mks = k ∧ mks[k]? = some t.text)
set_option maxHeartbeats 2000000 in
theorem c22 (Γ : Nat → PV) (hΓ : Tab Γ) (t : Tk) (h : TkOk t) : Gives Tryd.prog Γ 22 [.agg t.enc] (.bool true) := by
  obtain ⟨k, s, n⟩ := t
  unfold Tk.enc
  simp only
  rcases h with ⟨h1, h2, h3, h4⟩ | ⟨h1, h2, h4⟩ | ⟨h1, h2, h4⟩ | ⟨h1, h4, m, h2, h3⟩
  · simp only at h1 h2 h4 h3
    subst h1; subst h4
    have h34 := c34 Γ hΓ s
    rw [if_neg h3, decide_eq_false h3, decide_eq_true h2] at h34
    refine fn_of_awp Tryd.func22 rfl (by simp [Tryd.f22]) rfl fun H => ?_
    refine awp_seq ?_
    refine awp_run rfl (by simp only [fwA, seval, gfw, bx, dx] <;> rfl) ?_
    refine awp_seq ?_
    refine awp_run rfl (by simp only [fwA, seval, gfw, bx, dx] <;> rfl) ?_
    refine awp_seq ?_
    refine awp_run rfl (by simp only [fwA, seval, gfw, bx, dx] <;> rfl) ?_
    refine awp_seq ?_
    refine awp_seq ?_
    refine awp_run rfl (by simp only [fwA, seval, gfw, bx, dx] <;> rfl) ?_
    refine awp_block ?_
    refine awp_seq ?_
    refine awp_block ?_
    refine awp_seq ?_
    refine awp_block ?_
    refine awp_seq ?_
    refine awp_block ?_
    refine awp_block ?_
    refine awp_seq ?_
    refine awp_seq ?_
    refine awp_seq ?_
    refine awp_run rfl (by simp only [fwA, seval, gfw, bx, dx] <;> rfl) ?_
    refine awp_cond (b := true) (by simp [alook, aput, ev]) ?_
    refine awp_exit ?_
    refine awp_seq ?_
    refine awp_region rfl ?_
    refine aops_run 2 (by simp only [fwA, seval, gfw, bx, dx, Tk.enc] <;> rfl) ?_
    refine aops_fn rfl rfl rfl en34 h34 ?_
    refine aops_run 5 (by simp only [fwA, seval, gfw, bx, dx, Tk.enc] <;> rfl) ?_
    refine aops_end ?_
    refine awp_exit ?_
    refine awp_seq ?_
    refine awp_run rfl (by simp only [fwA, seval, gfw, bx, dx] <;> rfl) ?_
    refine awp_ret ?_
    exact gives_end (.inl rfl) _ rfl
  · simp only at h1 h2 h4
    subst h1; subst h4
    have h34 := c34 Γ hΓ s
    rw [if_pos h2, decide_eq_true h2] at h34
    refine fn_of_awp Tryd.func22 rfl (by simp [Tryd.f22]) rfl fun H => ?_
    refine awp_seq ?_
    refine awp_run rfl (by simp only [fwA, seval, gfw, bx, dx] <;> rfl) ?_
    refine awp_seq ?_
    refine awp_run rfl (by simp only [fwA, seval, gfw, bx, dx] <;> rfl) ?_
    refine awp_seq ?_
    refine awp_run rfl (by simp only [fwA, seval, gfw, bx, dx] <;> rfl) ?_
    refine awp_seq ?_
    refine awp_seq ?_
    refine awp_run rfl (by simp only [fwA, seval, gfw, bx, dx] <;> rfl) ?_
    refine awp_block ?_
    refine awp_seq ?_
    refine awp_block ?_
    refine awp_seq ?_
    refine awp_block ?_
    refine awp_seq ?_
    refine awp_block ?_
    refine awp_block ?_
    refine awp_seq ?_
    refine awp_seq ?_
    refine awp_seq ?_
    refine awp_run rfl (by simp only [fwA, seval, gfw, bx, dx] <;> rfl) ?_
    refine awp_cond (b := false) (by simp [alook, aput, ev]) (awp_skip ?_)
    refine awp_seq ?_
    refine awp_seq ?_
    refine awp_run rfl (by simp only [fwA, seval, gfw, bx, dx] <;> rfl) ?_
    refine awp_cond (b := true) (by simp [alook, aput, ev]) ?_
    refine awp_exit ?_
    refine awp_seq ?_
    refine awp_region rfl ?_
    refine aops_run 2 (by simp only [fwA, seval, gfw, bx, dx, Tk.enc] <;> rfl) ?_
    refine aops_fn rfl rfl rfl en34 h34 ?_
    refine aops_run 5 (by simp only [fwA, seval, gfw, bx, dx, Tk.enc] <;> rfl) ?_
    refine aops_end ?_
    refine awp_exit ?_
    refine awp_seq ?_
    refine awp_run rfl (by simp only [fwA, seval, gfw, bx, dx] <;> rfl) ?_
    refine awp_ret ?_
    exact gives_end (.inl rfl) _ rfl
  · simp only at h1 h2 h4
    subst h1; subst h4
    subst h2
    have h35 := c35 Γ hΓ
    refine fn_of_awp Tryd.func22 rfl (by simp [Tryd.f22]) rfl fun H => ?_
    refine awp_seq ?_
    refine awp_run rfl (by simp only [fwA, seval, gfw, bx, dx] <;> rfl) ?_
    refine awp_seq ?_
    refine awp_run rfl (by simp only [fwA, seval, gfw, bx, dx] <;> rfl) ?_
    refine awp_seq ?_
    refine awp_run rfl (by simp only [fwA, seval, gfw, bx, dx] <;> rfl) ?_
    refine awp_seq ?_
    refine awp_seq ?_
    refine awp_run rfl (by simp only [fwA, seval, gfw, bx, dx] <;> rfl) ?_
    refine awp_block ?_
    refine awp_seq ?_
    refine awp_block ?_
    refine awp_seq ?_
    refine awp_block ?_
    refine awp_seq ?_
    refine awp_block ?_
    refine awp_block ?_
    refine awp_seq ?_
    refine awp_seq ?_
    refine awp_seq ?_
    refine awp_run rfl (by simp only [fwA, seval, gfw, bx, dx] <;> rfl) ?_
    refine awp_cond (b := false) (by simp [alook, aput, ev]) (awp_skip ?_)
    refine awp_seq ?_
    refine awp_seq ?_
    refine awp_run rfl (by simp only [fwA, seval, gfw, bx, dx] <;> rfl) ?_
    refine awp_cond (b := false) (by simp [alook, aput, ev]) (awp_skip ?_)
    refine awp_seq ?_
    refine awp_seq ?_
    refine awp_run rfl (by simp only [fwA, seval, gfw, bx, dx] <;> rfl) ?_
    refine awp_cond (b := true) (by simp [alook, aput, ev]) ?_
    refine awp_exit ?_
    refine awp_seq ?_
    refine awp_seq ?_
    refine awp_region rfl ?_
    refine aops_run 2 (by simp only [fwA, seval, gfw, bx, dx, Tk.enc] <;> rfl) ?_
    refine aops_fn rfl rfl rfl en35 h35 ?_
    refine aops_run 5 (by simp only [fwA, seval, gfw, bx, dx, Tk.enc] <;> rfl) ?_
    refine aops_end ?_
    refine awp_run rfl (by simp only [fwA, seval, gfw, bx, dx] <;> rfl) ?_
    refine awp_exit ?_
    refine awp_seq ?_
    refine awp_run rfl (by simp only [fwA, seval, gfw, bx, dx] <;> rfl) ?_
    refine awp_ret ?_
    exact gives_end (.inl rfl) _ rfl
  · simp only at h1 h2 h4 h3
    subst h1; subst h4
    have h36 := c36 Γ hΓ s s m h2 h3
    refine fn_of_awp Tryd.func22 rfl (by simp [Tryd.f22]) rfl fun H => ?_
    refine awp_seq ?_
    refine awp_run rfl (by simp only [fwA, seval, gfw, bx, dx] <;> rfl) ?_
    refine awp_seq ?_
    refine awp_run rfl (by simp only [fwA, seval, gfw, bx, dx] <;> rfl) ?_
    refine awp_seq ?_
    refine awp_run rfl (by simp only [fwA, seval, gfw, bx, dx] <;> rfl) ?_
    refine awp_seq ?_
    refine awp_seq ?_
    refine awp_run rfl (by simp only [fwA, seval, gfw, bx, dx] <;> rfl) ?_
    refine awp_block ?_
    refine awp_seq ?_
    refine awp_block ?_
    refine awp_seq ?_
    refine awp_block ?_
    refine awp_seq ?_
    refine awp_block ?_
    refine awp_block ?_
    refine awp_seq ?_
    refine awp_seq ?_
    refine awp_seq ?_
    refine awp_run rfl (by simp only [fwA, seval, gfw, bx, dx] <;> rfl) ?_
    refine awp_cond (b := false) (by simp [alook, aput, ev]) (awp_skip ?_)
    refine awp_seq ?_
    refine awp_seq ?_
    refine awp_run rfl (by simp only [fwA, seval, gfw, bx, dx] <;> rfl) ?_
    refine awp_cond (b := false) (by simp [alook, aput, ev]) (awp_skip ?_)
    refine awp_seq ?_
    refine awp_seq ?_
    refine awp_run rfl (by simp only [fwA, seval, gfw, bx, dx] <;> rfl) ?_
    refine awp_cond (b := false) (by simp [alook, aput, ev]) (awp_skip ?_)
    refine awp_seq ?_
    refine awp_run rfl (by simp only [fwA, seval, gfw, bx, dx] <;> rfl) ?_
    refine awp_cond (b := true) (by simp [alook, aput, ev]) ?_
    refine awp_exit ?_
    refine awp_seq ?_
    refine awp_region rfl ?_
    refine aops_run 2 (by simp only [fwA, seval, gfw, bx, dx, Tk.enc] <;> rfl) ?_
    refine aops_fn rfl rfl rfl en36 h36 ?_
    refine aops_run 5 (by simp only [fwA, seval, gfw, bx, dx, Tk.enc] <;> rfl) ?_
    refine aops_end ?_
    refine awp_exit ?_
    refine awp_seq ?_
    refine awp_run rfl (by simp only [fwA, seval, gfw, bx, dx] <;> rfl) ?_
    refine awp_ret ?_
    exact gives_end (.inl rfl) _ rfl
theorem c21 (Γ : Nat → PV) (hΓ : Tab Γ) (t : Tk) (h : TkOk t) : Gives Tryd.prog Γ 21 [.agg t.enc] (.bool false) := by
  have h22 := c22 Γ hΓ t h
  refine fn_of_awp Tryd.func21 rfl (by simp [Tryd.f21]) rfl fun H => ?_
  refine awp_seq ?_
  refine awp_run rfl (by simp only [fwA, seval, gfw, bx, dx] <;> rfl) ?_
  refine awp_seq ?_
  refine awp_region rfl ?_
  refine aops_run 1 (by simp only [fwA, seval, gfw, bx, dx] <;> rfl) ?_
  refine aops_fn rfl rfl rfl en22 h22 ?_
  refine aops_run 2 (by simp only [fwA, seval, gfw, bx, dx] <;> rfl) ?_
  refine aops_end ?_
  refine awp_ret ?_
  exact gives_end (.inl rfl) _ rfl
theorem c33 (Γ : Nat → PV) (hΓ : Tab Γ) (l : List Tk) (fl : Bool) (h : ∀ t ∈ l, TkOk t) : Gives Tryd.prog Γ 33 [.vec (l.map Tk.enc) fl, .func (.func 21) [] []] (.int .i64 (-1)) := by
  refine fn_of_awp Tryd.func33 rfl (by simp [Tryd.f33]) rfl fun H => ?_
  refine awp_vlen 0 rfl fun hl => ?_
  rw [List.length_map] at hl
  refine awp_seq ?_
  refine awp_run rfl (by simp only [fwA, seval] <;> rfl) ?_
  refine awp_seq ?_
  refine awp_seq ?_
  refine awp_run rfl (by simp only [fwA, seval, gfw, bx, dx] <;> rfl) ?_
  refine awp_block ?_
  refine awp_for [0, 1, 7, 8] (fun i : Nat => [.vec (l.map Tk.enc) fl, .func (.func 21) [] [], .int .i64 (l.length : Int), .int .i64 (i : Int)]) (fun _ => H) (fun i => l.length - i) (fun i => i ≤ l.length) 0 rfl rfl (Nat.zero_le _) fun i hi => ?_
  refine awp_seq ?_
  refine awp_run rfl (by simp only [fwA, seval, gfw, bx, dx] <;> rfl) ?_
  refine awp_seq ?_
  refine awp_cond (by simp only [fwA, seval] <;> rfl) ?_
  by_cases hc : (i : Int) < l.length
  rotate_left
  · simp only [hc, decide_false, Bool.false_eq_true, ↓reduceIte]
    refine awp_exit ?_
    refine awp_seq ?_
    refine awp_run rfl (by simp only [fwA, seval, gfw, bx, dx] <;> rfl) ?_
    refine awp_ret ?_
    exact gives_end0 (.inl rfl) rfl
  simp only [hc, decide_true, ↓reduceIte]
  refine awp_skip ?_
  have hil : i < l.length := by omega
  obtain ⟨z, hz⟩ : ∃ z, l[i]? = some z := ⟨_, List.getElem?_eq_getElem hil⟩
  have hp := c21 Γ hΓ z (h z (List.mem_of_getElem? hz))
  have hwi : IntKind.i64.wrap ((i : Int) + 1) = ((i + 1 : Nat) : Int) := wrapS i (by omega)
  refine awp_seq ?_
  refine awp_block ?_
  refine awp_seq ?_
  refine awp_run rfl (by simp only [fwA, seval, gfw, bx, dx] <;> rfl) ?_
  refine awp_seq ?_
  refine awp_region rfl ?_
  refine aops_run 5 (by simp only [fwA, seval, gfw, bx, dx, hz] <;> rfl) ?_
  refine aops_fn rfl rfl rfl en21 hp ?_
  refine aops_end ?_
  refine awp_cond (b := false) (by simp [alook, aput, ev]) (awp_skip ?_)
  refine awp_run rfl (by simp only [fwA, seval, gfw, bx, dx] <;> rfl) ?_
  exact ⟨i + 1, by omega, by omega, by simp only [fwA, seval, List.map_cons, List.map_nil, hwi], rfl, rfl⟩
theorem c20 (Γ : Nat → PV) (hΓ : Tab Γ) (l : List Tk) (fl : Bool) (h : ∀ t ∈ l, TkOk t) : Gives Tryd.prog Γ 20 [.vec (l.map Tk.enc) fl, .func (.func 21) [] []] (.bool false) := by
  have h33 := c33 Γ hΓ l fl h
  refine fn_of_awp Tryd.func20 rfl (by simp [Tryd.f20]) rfl fun H => ?_
  refine awp_seq ?_
  refine awp_run rfl (by simp only [fwA, seval] <;> rfl) ?_
  refine awp_seq ?_
  refine awp_region rfl ?_
  refine aops_run 2 (by simp only [fwA, seval, gfw, bx, dx] <;> rfl) ?_
  refine aops_fn rfl rfl rfl en33 h33 ?_
  refine aops_run 2 (by simp only [fwA, seval, gfw, bx, dx] <;> rfl) ?_
  refine aops_end ?_
  refine awp_ret ?_
  exact gives_end0 (.inl rfl) rfl
theorem c14 (Γ : Nat → PV) (hΓ : Tab Γ) (l : List Tk) (fl : Bool) (h : ∀ t ∈ l, TkOk t) : Gives Tryd.prog Γ 14 [.vec (l.map Tk.enc) fl] (.bool true) := by
  have h20 := c20 Γ hΓ l fl h
  refine fn_of_awp Tryd.func14 rfl (by simp [Tryd.f14]) rfl fun H => ?_
  refine awp_seq ?_
  refine awp_run rfl (by simp only [fwA, seval] <;> rfl) ?_
  refine awp_seq ?_
  refine awp_region rfl ?_
  refine aops_run 1 (by simp only [fwA, seval, gfw, bx, dx] <;> rfl) ?_
  refine aops_fn rfl rfl rfl en20 h20 ?_
  refine aops_run 2 (by simp only [fwA, seval, gfw, bx, dx] <;> rfl) ?_
  refine aops_end ?_
  refine awp_ret ?_
  exact gives_end0 (.inl rfl) rfl
end Go.Proofs.YtddnigahjahkbaaDoor
