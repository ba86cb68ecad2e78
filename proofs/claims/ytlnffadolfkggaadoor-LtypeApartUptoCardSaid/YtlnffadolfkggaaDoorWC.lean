/- What chapter 13 speaks of: shapes, types, atoms, pairs, and how they lie in memory. -/
import Derived.Test.YtlnffadolfkggaaDoorWB
import Derived.Test.YtlnffadolfkggaaDoorProg
import Derived.Shelf.Strconv.Itoa4
import Derived.Lib.ItoaLen
namespace Go.Proofs.YtlnffadolfkggaaDoor
set_option linter.unusedVariables false
set_option linter.unusedSimpArgs false
set_option maxRecDepth 100000
open Go.RowKit Fw

theorem flatten_enc {X : Type} (enc : X → List PV) (l : List X) (i : Nat) (x : X) (h : l[i]? = some x) : ((l.take (i + 1)).map enc).flatten = ((l.take i).map enc).flatten ++ enc x := by
  rw [List.take_add_one, h]; simp

theorem flat_len {X : Type} {enc : X → List PV} {sz : Nat} (h : ∀ x, (enc x).length = sz) (l : List X) : ((l.map enc).flatten).length = l.length * sz := by
  rw [flatten_len (sz := sz) (fun e he => by obtain ⟨x, _, rfl⟩ := List.mem_map.1 he; exact h x), List.length_map]

theorem flat_chunk {X : Type} {enc : X → List PV} {sz : Nat} (h : ∀ x, (enc x).length = sz) (l : List X) : chunk sz l.length ((l.map enc).flatten) = l.map enc := by
  have := chunk_flatten (sz := sz) (es := l.map enc) (fun e he => by obtain ⟨x, _, rfl⟩ := List.mem_map.1 he; exact h x)
  rwa [List.length_map] at this

theorem flat_bd {X : Type} {enc : X → List PV} {m : Nat} (h : ∀ x, PV.bdL m (enc x) = true) (l : List X) : PV.bdL m ((l.map enc).flatten) = true := by
  induction l with
  | nil => rfl
  | cons x l ih => rw [List.map_cons, List.flatten_cons, PV.bdL_append, h, ih]; rfl

def I64 (n : Int) : Prop := -9223372036854775808 ≤ n ∧ n ≤ 9223372036854775807
theorem wrapId {a : Int} (h : I64 a) : IntKind.i64.wrap a = a := by
  obtain ⟨h1, h2⟩ := h
  unfold IntKind.wrap
  have hb : IntKind.i64.bits = 64 := rfl
  have hsg : IntKind.i64.signed = true := rfl
  simp only [hb, hsg, Bool.true_and, decide_eq_true_eq]
  split <;> omega
theorem wrapS (n : Nat) (h : n + 1 < 9223372036854775808) : IntKind.i64.wrap ((n : Int) + 1) = ((n + 1 : Nat) : Int) := by
  rw [wrapId ⟨by omega, by omega⟩]; omega

/-- A shape. -/
inductive Sh where
  | mk (kind : Int) (n : Int) (kids : List Sh)

namespace Sh
def kind : Sh → Int | mk x _ _ => x
def n : Sh → Int | mk _ x _ => x
def kids : Sh → List Sh | mk _ _ x => x

mutual
def enc : Sh → List PV
  | mk kind n ks => [.int .i64 kind, .int .i64 n, .vec (encs ks) false]
def encs : List Sh → List (List PV)
  | [] => []
  | t :: ts => enc t :: encs ts
end

theorem encs_map (l : List Sh) : encs l = l.map enc := by
  induction l with
  | nil => rfl
  | cons t l ih => rw [encs, ih]; rfl

theorem enc_eq (t : Sh) : t.enc = [.int .i64 t.kind, .int .i64 t.n, .vec (t.kids.map enc) false] := by
  cases t; rw [enc, encs_map]; rfl

theorem kids_lt {t k : Sh} (h : k ∈ t.kids) : SizeOf.sizeOf k < SizeOf.sizeOf t := by
  cases t
  have := List.sizeOf_lt_of_mem h
  simp only [kids, mk.sizeOf_spec] at this ⊢
  omega

theorem ext {a b : Sh} (h0 : a.kind = b.kind) (h1 : a.n = b.n) (hk : a.kids = b.kids) : a = b := by
  cases a; cases b; simp_all [kind, n, kids]

theorem fw : (∀ t : Sh, t.enc.length = 3) ∧
    (∀ t : Sh, t.enc[0]? = some (.int .i64 t.kind)) ∧
    (∀ t : Sh, t.enc[1]? = some (.int .i64 t.n)) ∧
    (∀ t : Sh, t.enc[2]? = some (.vec (t.kids.map enc) false)) ∧
    (∀ t : Sh, t.enc.drop 1 = [.int .i64 t.n, .vec (t.kids.map enc) false]) ∧
    (∀ t : Sh, t.enc.drop 2 = [.vec (t.kids.map enc) false]) ∧
    (∀ t : Sh, t.enc.take 3 = t.enc) ∧
    (∀ (t : Sh) (l : List PV), (t.enc ++ l).take 3 = t.enc) ∧
    (∀ (m : Nat) (t : Sh), PV.bdL m t.enc = true) ∧
    (∀ (t : Sh) (l : List PV) (k : Nat), (t.enc ++ l).drop (k + 3) = l.drop k) ∧
    (∀ (t : Sh) (l : List PV) (k : Nat), (t.enc ++ l).take (k + 3) = t.enc ++ l.take k) := by
  refine ⟨?_, ?_, ?_, ?_, ?_, ?_, ?_, ?_, ?_, ?_, ?_⟩
  · intro t; rw [enc_eq]; rfl
  · intro t; rw [enc_eq]; rfl
  · intro t; rw [enc_eq]; rfl
  · intro t; rw [enc_eq]; rfl
  · intro t; rw [enc_eq]; rfl
  · intro t; rw [enc_eq]; rfl
  · intro t; rw [enc_eq]; rfl
  · intro t l; rw [enc_eq]; rfl
  · intro m t; rw [enc_eq]; rfl
  · intro t l k; rw [enc_eq]; rfl
  · intro t l k; rw [enc_eq]; rfl
theorem enc_len (t : Sh) : t.enc.length = 3 := by rw [enc_eq]; rfl
theorem bd (m : Nat) (t : Sh) : PV.bdL m t.enc = true := by rw [enc_eq]; rfl
theorem bdM {m : Nat} (l : List Sh) : PV.bdL m ((l.map enc).flatten) = true := flat_bd (fun t => bd m t) l
/-- Lists that memory holds, within, too. -/
inductive Ok : Sh → Prop
  | mk (t : Sh) (h2 : t.kids.length * 40 ≤ reachBytes) (h3 : ∀ k ∈ t.kids, Ok k) : Ok t
mutual
/-- How much it holds. -/
def w : Sh → Nat
  | mk _ _ ks => ws ks + 1
def ws : List Sh → Nat
  | [] => 0
  | t :: ts => w t + ws ts
end
theorem ws_sum : ∀ l : List Sh, ws l = (l.map w).sum
  | [] => rfl
  | b :: l => by simp only [ws, List.map_cons, List.sum_cons, ws_sum l]
theorem w_eq (t : Sh) : t.w = (t.kids.map w).sum + 1 := by cases t; simp only [w, ws_sum, kids]
end Sh
noncomputable instance : DecidableEq Sh := fun _ _ => Classical.propDecidable _

/-- A type. -/
inductive Ty where
  | mk (kind : Int) (l : Int) (c : Int) (pc : Int) (x : Int) (kids : List Ty)

namespace Ty
def kind : Ty → Int | mk x _ _ _ _ _ => x
def l : Ty → Int | mk _ x _ _ _ _ => x
def c : Ty → Int | mk _ _ x _ _ _ => x
def pc : Ty → Int | mk _ _ _ x _ _ => x
def x : Ty → Int | mk _ _ _ _ x _ => x
def kids : Ty → List Ty | mk _ _ _ _ _ x => x

mutual
def enc : Ty → List PV
  | mk kind l c pc x ks => [.int .i64 kind, .int .i64 l, .int .i64 c, .int .i64 pc, .int .i64 x, .vec (encs ks) false]
def encs : List Ty → List (List PV)
  | [] => []
  | t :: ts => enc t :: encs ts
end

theorem encs_map (l : List Ty) : encs l = l.map enc := by
  induction l with
  | nil => rfl
  | cons t l ih => rw [encs, ih]; rfl

theorem enc_eq (t : Ty) : t.enc = [.int .i64 t.kind, .int .i64 t.l, .int .i64 t.c, .int .i64 t.pc, .int .i64 t.x, .vec (t.kids.map enc) false] := by
  cases t; rw [enc, encs_map]; rfl

theorem kids_lt {t k : Ty} (h : k ∈ t.kids) : SizeOf.sizeOf k < SizeOf.sizeOf t := by
  cases t
  have := List.sizeOf_lt_of_mem h
  simp only [kids, mk.sizeOf_spec] at this ⊢
  omega

theorem ext {a b : Ty} (h0 : a.kind = b.kind) (h1 : a.l = b.l) (h2 : a.c = b.c) (h3 : a.pc = b.pc) (h4 : a.x = b.x) (hk : a.kids = b.kids) : a = b := by
  cases a; cases b; simp_all [kind, l, c, pc, x, kids]

theorem fw : (∀ t : Ty, t.enc.length = 6) ∧
    (∀ t : Ty, t.enc[0]? = some (.int .i64 t.kind)) ∧
    (∀ t : Ty, t.enc[1]? = some (.int .i64 t.l)) ∧
    (∀ t : Ty, t.enc[2]? = some (.int .i64 t.c)) ∧
    (∀ t : Ty, t.enc[3]? = some (.int .i64 t.pc)) ∧
    (∀ t : Ty, t.enc[4]? = some (.int .i64 t.x)) ∧
    (∀ t : Ty, t.enc[5]? = some (.vec (t.kids.map enc) false)) ∧
    (∀ t : Ty, t.enc.drop 1 = [.int .i64 t.l, .int .i64 t.c, .int .i64 t.pc, .int .i64 t.x, .vec (t.kids.map enc) false]) ∧
    (∀ t : Ty, t.enc.drop 2 = [.int .i64 t.c, .int .i64 t.pc, .int .i64 t.x, .vec (t.kids.map enc) false]) ∧
    (∀ t : Ty, t.enc.drop 3 = [.int .i64 t.pc, .int .i64 t.x, .vec (t.kids.map enc) false]) ∧
    (∀ t : Ty, t.enc.drop 4 = [.int .i64 t.x, .vec (t.kids.map enc) false]) ∧
    (∀ t : Ty, t.enc.drop 5 = [.vec (t.kids.map enc) false]) ∧
    (∀ t : Ty, t.enc.take 6 = t.enc) ∧
    (∀ (t : Ty) (l : List PV), (t.enc ++ l).take 6 = t.enc) ∧
    (∀ (m : Nat) (t : Ty), PV.bdL m t.enc = true) ∧
    (∀ (t : Ty) (l : List PV) (k : Nat), (t.enc ++ l).drop (k + 6) = l.drop k) ∧
    (∀ (t : Ty) (l : List PV) (k : Nat), (t.enc ++ l).take (k + 6) = t.enc ++ l.take k) := by
  refine ⟨?_, ?_, ?_, ?_, ?_, ?_, ?_, ?_, ?_, ?_, ?_, ?_, ?_, ?_, ?_, ?_, ?_⟩
  · intro t; rw [enc_eq]; rfl
  · intro t; rw [enc_eq]; rfl
  · intro t; rw [enc_eq]; rfl
  · intro t; rw [enc_eq]; rfl
  · intro t; rw [enc_eq]; rfl
  · intro t; rw [enc_eq]; rfl
  · intro t; rw [enc_eq]; rfl
  · intro t; rw [enc_eq]; rfl
  · intro t; rw [enc_eq]; rfl
  · intro t; rw [enc_eq]; rfl
  · intro t; rw [enc_eq]; rfl
  · intro t; rw [enc_eq]; rfl
  · intro t; rw [enc_eq]; rfl
  · intro t l; rw [enc_eq]; rfl
  · intro m t; rw [enc_eq]; rfl
  · intro t l k; rw [enc_eq]; rfl
  · intro t l k; rw [enc_eq]; rfl
theorem enc_len (t : Ty) : t.enc.length = 6 := by rw [enc_eq]; rfl
theorem bd (m : Nat) (t : Ty) : PV.bdL m t.enc = true := by rw [enc_eq]; rfl
theorem bdM {m : Nat} (l : List Ty) : PV.bdL m ((l.map enc).flatten) = true := flat_bd (fun t => bd m t) l
/-- Lists that memory holds, within, too. -/
inductive Ok : Ty → Prop
  | mk (t : Ty) (h2 : t.kids.length * 64 ≤ reachBytes) (h3 : ∀ k ∈ t.kids, Ok k) : Ok t
mutual
/-- How much it holds. -/
def w : Ty → Nat
  | mk _ _ _ _ _ ks => ws ks + 1
def ws : List Ty → Nat
  | [] => 0
  | t :: ts => w t + ws ts
end
theorem ws_sum : ∀ l : List Ty, ws l = (l.map w).sum
  | [] => rfl
  | b :: l => by simp only [ws, List.map_cons, List.sum_cons, ws_sum l]
theorem w_eq (t : Ty) : t.w = (t.kids.map w).sum + 1 := by cases t; simp only [w, ws_sum, kids]
end Ty
noncomputable instance : DecidableEq Ty := fun _ _ => Classical.propDecidable _

/-- A pair of atoms. -/
structure Pr where
  a : Int
  b : Int
deriving DecidableEq
namespace Pr
def enc (p : Pr) : List PV := [.int .i64 p.a, .int .i64 p.b]
theorem enc_len (p : Pr) : p.enc.length = 2 := rfl
theorem fw : (∀ p : Pr, p.enc.length = 2) ∧ (∀ p : Pr, p.enc[0]? = some (.int .i64 p.a)) ∧ (∀ p : Pr, p.enc[1]? = some (.int .i64 p.b)) ∧ (∀ p : Pr, p.enc.drop 1 = [.int .i64 p.b]) ∧ (∀ p : Pr, p.enc.take 2 = p.enc) ∧ (∀ (m : Nat) (p : Pr), PV.bdL m p.enc = true) :=
  ⟨fun _ => rfl, fun _ => rfl, fun _ => rfl, fun _ => rfl, fun _ => rfl, fun _ _ => rfl⟩
end Pr
def I1 (n : Int) : List PV := [.int .i64 n]
theorem I1_len (n : Int) : (I1 n).length = 1 := rfl
theorem I1_fw : (∀ n, (I1 n).length = 1) ∧ (∀ n, (I1 n)[0]? = some (.int .i64 n)) ∧ (∀ (m : Nat) n, PV.bdL m (I1 n) = true) := ⟨fun _ => rfl, fun _ => rfl, fun _ _ => rfl⟩

end Go.Proofs.YtlnffadolfkggaaDoor

/- Facts on the types and functions of this seat's program, printed by a tool of mine. -/
namespace Go.Proofs.YtlnffadolfkggaaDoor
set_option linter.unusedVariables false
set_option linter.unusedSimpArgs false
set_option maxRecDepth 100000
open Go.RowKit Fw
theorem en2 : Enters Tryd.prog 2 := enters_of Tryd.func2 rfl rfl
theorem en3 : Enters Tryd.prog 3 := enters_of Tryd.func3 rfl rfl
theorem en4 : Enters Tryd.prog 4 := enters_of Tryd.func4 rfl rfl
theorem en5 : Enters Tryd.prog 5 := enters_of Tryd.func5 rfl rfl
theorem en6 : Enters Tryd.prog 6 := enters_of Tryd.func6 rfl rfl
theorem en7 : Enters Tryd.prog 7 := enters_of Tryd.func7 rfl rfl
theorem en8 : Enters Tryd.prog 8 := enters_of Tryd.func8 rfl rfl
theorem en9 : Enters Tryd.prog 9 := enters_of Tryd.func9 rfl rfl
theorem en10 : Enters Tryd.prog 10 := enters_of Tryd.func10 rfl rfl
theorem en11 : Enters Tryd.prog 11 := enters_of Tryd.func11 rfl rfl
theorem en12 : Enters Tryd.prog 12 := enters_of Tryd.func12 rfl rfl
theorem en13 : Enters Tryd.prog 13 := enters_of Tryd.func13 rfl rfl
theorem en14 : Enters Tryd.prog 14 := enters_of Tryd.func14 rfl rfl
theorem en15 : Enters Tryd.prog 15 := enters_of Tryd.func15 rfl rfl
theorem en16 : Enters Tryd.prog 16 := enters_of Tryd.func16 rfl rfl
theorem en17 : Enters Tryd.prog 17 := enters_of Tryd.func17 rfl rfl
theorem en18 : Enters Tryd.prog 18 := enters_of Tryd.func18 rfl rfl
theorem en19 : Enters Tryd.prog 19 := enters_of Tryd.func19 rfl rfl
theorem en20 : Enters Tryd.prog 20 := enters_of Tryd.func20 rfl rfl
theorem en21 : Enters Tryd.prog 21 := enters_of Tryd.func21 rfl rfl
theorem en22 : Enters Tryd.prog 22 := enters_of Tryd.func22 rfl rfl
theorem en23 : Enters Tryd.prog 23 := enters_of Tryd.func23 rfl rfl
theorem en24 : Enters Tryd.prog 24 := enters_of Tryd.func24 rfl rfl
theorem en25 : Enters Tryd.prog 25 := enters_of Tryd.func25 rfl rfl
theorem en26 : Enters Tryd.prog 26 := enters_of Tryd.func26 rfl rfl
theorem en27 : Enters Tryd.prog 27 := enters_of Tryd.func27 rfl rfl
theorem en28 : Enters Tryd.prog 28 := enters_of Tryd.func28 rfl rfl
theorem en29 : Enters Tryd.prog 29 := enters_of Tryd.func29 rfl rfl
theorem en30 : Enters Tryd.prog 30 := enters_of Tryd.func30 rfl rfl
theorem en31 : Enters Tryd.prog 31 := enters_of Tryd.func31 rfl rfl
theorem en32 : Enters Tryd.prog 32 := enters_of Tryd.func32 rfl rfl
theorem en33 : Enters Tryd.prog 33 := enters_of Tryd.func33 rfl rfl
theorem en34 : Enters Tryd.prog 34 := enters_of Tryd.func34 rfl rfl
theorem en35 : Enters Tryd.prog 35 := enters_of Tryd.func35 rfl rfl
theorem en36 : Enters Tryd.prog 36 := enters_of Tryd.func36 rfl rfl
theorem en37 : Enters Tryd.prog 37 := enters_of Tryd.func37 rfl rfl
theorem en38 : Enters Tryd.prog 38 := enters_of Tryd.func38 rfl rfl
theorem en39 : Enters Tryd.prog 39 := enters_of Tryd.func39 rfl rfl
theorem en40 : Enters Tryd.prog 40 := enters_of Tryd.func40 rfl rfl
theorem en41 : Enters Tryd.prog 41 := enters_of Tryd.func41 rfl rfl
theorem en42 : Enters Tryd.prog 42 := enters_of Tryd.func42 rfl rfl
theorem en43 : Enters Tryd.prog 43 := enters_of Tryd.func43 rfl rfl
theorem en44 : Enters Tryd.prog 44 := enters_of Tryd.func44 rfl rfl
theorem en45 : Enters Tryd.prog 45 := enters_of Tryd.func45 rfl rfl
theorem en46 : Enters Tryd.prog 46 := enters_of Tryd.func46 rfl rfl
theorem en47 : Enters Tryd.prog 47 := enters_of Tryd.func47 rfl rfl
theorem en48 : Enters Tryd.prog 48 := enters_of Tryd.func48 rfl rfl
theorem en49 : Enters Tryd.prog 49 := enters_of Tryd.func49 rfl rfl
theorem en50 : Enters Tryd.prog 50 := enters_of Tryd.func50 rfl rfl
theorem en51 : Enters Tryd.prog 51 := enters_of Tryd.func51 rfl rfl
theorem en52 : Enters Tryd.prog 52 := enters_of Tryd.func52 rfl rfl
theorem en53 : Enters Tryd.prog 53 := enters_of Tryd.func53 rfl rfl
theorem en54 : Enters Tryd.prog 54 := enters_of Tryd.func54 rfl rfl
theorem en55 : Enters Tryd.prog 55 := enters_of Tryd.func55 rfl rfl
theorem en56 : Enters Tryd.prog 56 := enters_of Tryd.func56 rfl rfl
theorem en57 : Enters Tryd.prog 57 := enters_of Tryd.func57 rfl rfl
theorem en58 : Enters Tryd.prog 58 := enters_of Tryd.func58 rfl rfl
theorem en59 : Enters Tryd.prog 59 := enters_of Tryd.func59 rfl rfl
theorem en60 : Enters Tryd.prog 60 := enters_of Tryd.func60 rfl rfl
theorem en61 : Enters Tryd.prog 61 := enters_of Tryd.func61 rfl rfl
theorem en62 : Enters Tryd.prog 62 := enters_of Tryd.func62 rfl rfl
theorem en63 : Enters Tryd.prog 63 := enters_of Tryd.func63 rfl rfl
theorem en64 : Enters Tryd.prog 64 := enters_of Tryd.func64 rfl rfl
theorem en65 : Enters Tryd.prog 65 := enters_of Tryd.func65 rfl rfl
theorem en66 : Enters Tryd.prog 66 := enters_of Tryd.func66 rfl rfl
theorem en67 : Enters Tryd.prog 67 := enters_of Tryd.func67 rfl rfl
theorem en68 : Enters Tryd.prog 68 := enters_of Tryd.func68 rfl rfl
theorem en69 : Enters Tryd.prog 69 := enters_of Tryd.func69 rfl rfl
theorem en70 : Enters Tryd.prog 70 := enters_of Tryd.func70 rfl rfl
theorem en71 : Enters Tryd.prog 71 := enters_of Tryd.func71 rfl rfl
theorem en72 : Enters Tryd.prog 72 := enters_of Tryd.func72 rfl rfl
theorem en73 : Enters Tryd.prog 73 := enters_of Tryd.func73 rfl rfl
theorem en74 : Enters Tryd.prog 74 := enters_of Tryd.func74 rfl rfl
theorem en75 : Enters Tryd.prog 75 := enters_of Tryd.func75 rfl rfl
theorem en76 : Enters Tryd.prog 76 := enters_of Tryd.func76 rfl rfl
theorem en77 : Enters Tryd.prog 77 := enters_of Tryd.func77 rfl rfl
theorem en78 : Enters Tryd.prog 78 := enters_of Tryd.func78 rfl rfl
theorem en79 : Enters Tryd.prog 79 := enters_of Tryd.func79 rfl rfl
theorem en80 : Enters Tryd.prog 80 := enters_of Tryd.func80 rfl rfl
theorem en81 : Enters Tryd.prog 81 := enters_of Tryd.func81 rfl rfl
theorem en82 : Enters Tryd.prog 82 := enters_of Tryd.func82 rfl rfl
theorem en83 : Enters Tryd.prog 83 := enters_of Tryd.func83 rfl rfl
theorem en84 : Enters Tryd.prog 84 := enters_of Tryd.func84 rfl rfl
theorem en85 : Enters Tryd.prog 85 := enters_of Tryd.func85 rfl rfl
theorem en86 : Enters Tryd.prog 86 := enters_of Tryd.func86 rfl rfl
theorem en108 : Enters Tryd.prog 108 := enters_of Tryd.func108 rfl rfl
theorem ar120 : arOf Tryd.prog 120 = some (24, 1) := by kernel_rfl
theorem ar126 : arOf Tryd.prog 126 = some (20, 1) := by kernel_rfl
theorem ar128 : arOf Tryd.prog 128 = some (65, 1) := by kernel_rfl
theorem ar133 : arOf Tryd.prog 133 = some (32, 1) := by kernel_rfl
theorem ar134 : arOf Tryd.prog 134 = some (64, 1) := by kernel_rfl
theorem el22 : elOf Tryd.prog 22 = some (1, 1) := by kernel_rfl
theorem el24 : elOf Tryd.prog 24 = some (3, 40) := by kernel_rfl
theorem el29 : elOf Tryd.prog 29 = some (6, 64) := by kernel_rfl
theorem el34 : elOf Tryd.prog 34 = some (2, 16) := by kernel_rfl
theorem el42 : elOf Tryd.prog 42 = some (1, 8) := by kernel_rfl
theorem el43 : elOf Tryd.prog 43 = some (6, 64) := by kernel_rfl
theorem el49 : elOf Tryd.prog 49 = some (3, 40) := by kernel_rfl
theorem el53 : elOf Tryd.prog 53 = some (2, 16) := by kernel_rfl
theorem el56 : elOf Tryd.prog 56 = some (1, 8) := by kernel_rfl
theorem el62 : elOf Tryd.prog 62 = some (1, 16) := by kernel_rfl
theorem el99 : elOf Tryd.prog 99 = some (1, 8) := by kernel_rfl
theorem el120 : elOf Tryd.prog 120 = none := by kernel_rfl
theorem el126 : elOf Tryd.prog 126 = none := by kernel_rfl
theorem el128 : elOf Tryd.prog 128 = none := by kernel_rfl
theorem el133 : elOf Tryd.prog 133 = none := by kernel_rfl
theorem el134 : elOf Tryd.prog 134 = none := by kernel_rfl
theorem eq38 : eqOf Tryd.prog 38 = some [(0, 0), (1, 0)] := by kernel_rfl
theorem eq94 : eqOf Tryd.prog 94 = some [(0, 0), (1, 0)] := by kernel_rfl
theorem fl26_0 : fldOf Tryd.prog 26 0 = some (0, 1, false) := by kernel_rfl
theorem fl26_1 : fldOf Tryd.prog 26 1 = some (1, 1, false) := by kernel_rfl
theorem fl26_2 : fldOf Tryd.prog 26 2 = some (2, 1, false) := by kernel_rfl
theorem fl31_0 : fldOf Tryd.prog 31 0 = some (0, 1, false) := by kernel_rfl
theorem fl31_1 : fldOf Tryd.prog 31 1 = some (1, 1, false) := by kernel_rfl
theorem fl31_2 : fldOf Tryd.prog 31 2 = some (2, 1, false) := by kernel_rfl
theorem fl31_3 : fldOf Tryd.prog 31 3 = some (3, 1, false) := by kernel_rfl
theorem fl31_4 : fldOf Tryd.prog 31 4 = some (4, 1, false) := by kernel_rfl
theorem fl31_5 : fldOf Tryd.prog 31 5 = some (5, 1, false) := by kernel_rfl
theorem fl38_0 : fldOf Tryd.prog 38 0 = some (0, 1, false) := by kernel_rfl
theorem fl38_1 : fldOf Tryd.prog 38 1 = some (1, 1, false) := by kernel_rfl
theorem fl45_0 : fldOf Tryd.prog 45 0 = some (0, 1, false) := by kernel_rfl
theorem fl45_1 : fldOf Tryd.prog 45 1 = some (1, 1, false) := by kernel_rfl
theorem fl45_2 : fldOf Tryd.prog 45 2 = some (2, 1, false) := by kernel_rfl
theorem fl45_3 : fldOf Tryd.prog 45 3 = some (3, 1, false) := by kernel_rfl
theorem fl45_4 : fldOf Tryd.prog 45 4 = some (4, 1, false) := by kernel_rfl
theorem fl45_5 : fldOf Tryd.prog 45 5 = some (5, 1, false) := by kernel_rfl
theorem fl51_0 : fldOf Tryd.prog 51 0 = some (0, 1, false) := by kernel_rfl
theorem fl51_1 : fldOf Tryd.prog 51 1 = some (1, 1, false) := by kernel_rfl
theorem fl51_2 : fldOf Tryd.prog 51 2 = some (2, 1, false) := by kernel_rfl
theorem pl26 : plOf Tryd.prog 26 = some [(0, 1), (1, 1), (2, 1)] := by kernel_rfl
theorem pl31 : plOf Tryd.prog 31 = some [(0, 1), (1, 1), (2, 1), (3, 1), (4, 1), (5, 1)] := by kernel_rfl
theorem pl38 : plOf Tryd.prog 38 = some [(0, 1), (1, 1)] := by kernel_rfl
theorem pl45 : plOf Tryd.prog 45 = some [(0, 1), (1, 1), (2, 1), (3, 1), (4, 1), (5, 1)] := by kernel_rfl
theorem pl51 : plOf Tryd.prog 51 = some [(0, 1), (1, 1), (2, 1)] := by kernel_rfl
theorem pl94 : plOf Tryd.prog 94 = some [(0, 1), (1, 1)] := by kernel_rfl
theorem ti3 : tiOf Tryd.prog 3 = some ⟨1, 8, false, [.int .i64 0]⟩ := by kernel_rfl
theorem ti5 : tiOf Tryd.prog 5 = some ⟨1, 1, false, [.int .u8 0]⟩ := by kernel_rfl
theorem ti9 : tiOf Tryd.prog 9 = some ⟨1, 16, false, [.str []]⟩ := by kernel_rfl
theorem ti24 : tiOf Tryd.prog 24 = some ⟨1, 24, false, [.vec [] true]⟩ := by kernel_rfl
theorem ti26 : tiOf Tryd.prog 26 = some ⟨3, 40, true, [.int .i64 0, .int .i64 0, .vec [] true]⟩ := by kernel_rfl
theorem ti28 : tiOf Tryd.prog 28 = some ⟨1, 8, false, [.int .i64 0]⟩ := by kernel_rfl
theorem ti29 : tiOf Tryd.prog 29 = some ⟨1, 24, false, [.vec [] true]⟩ := by kernel_rfl
theorem ti31 : tiOf Tryd.prog 31 = some ⟨6, 64, true, [.int .i64 0, .int .i64 0, .int .i64 0, .int .i64 0, .int .i64 0, .vec [] true]⟩ := by kernel_rfl
theorem ti38 : tiOf Tryd.prog 38 = some ⟨2, 16, true, [.int .i64 0, .int .i64 0]⟩ := by kernel_rfl
theorem ti42 : tiOf Tryd.prog 42 = some ⟨1, 24, false, [.vec [] true]⟩ := by kernel_rfl
theorem ti43 : tiOf Tryd.prog 43 = some ⟨1, 24, false, [.vec [] true]⟩ := by kernel_rfl
theorem ti45 : tiOf Tryd.prog 45 = some ⟨6, 64, true, [.int .i64 0, .int .i64 0, .int .i64 0, .int .i64 0, .int .i64 0, .vec [] true]⟩ := by kernel_rfl
theorem ti49 : tiOf Tryd.prog 49 = some ⟨1, 24, false, [.vec [] true]⟩ := by kernel_rfl
theorem ti51 : tiOf Tryd.prog 51 = some ⟨3, 40, true, [.int .i64 0, .int .i64 0, .vec [] true]⟩ := by kernel_rfl
theorem ti85 : tiOf Tryd.prog 85 = some ⟨1, 8, false, [.nilp]⟩ := by kernel_rfl
theorem ti94 : tiOf Tryd.prog 94 = some ⟨2, 16, true, [.int .i64 0, .int .i64 0]⟩ := by kernel_rfl
theorem ti100 : tiOf Tryd.prog 100 = some ⟨1, 8, false, [.nilp]⟩ := by kernel_rfl
theorem ti107 : tiOf Tryd.prog 107 = some ⟨1, 8, false, [.nilf]⟩ := by kernel_rfl
theorem ti117 : tiOf Tryd.prog 117 = some ⟨1, 8, false, [.int .u64 0]⟩ := by kernel_rfl
theorem ti120 : tiOf Tryd.prog 120 = some ⟨24, 24, true, [.int .u8 0, .int .u8 0, .int .u8 0, .int .u8 0, .int .u8 0, .int .u8 0, .int .u8 0, .int .u8 0, .int .u8 0, .int .u8 0, .int .u8 0, .int .u8 0, .int .u8 0, .int .u8 0, .int .u8 0, .int .u8 0, .int .u8 0, .int .u8 0, .int .u8 0, .int .u8 0, .int .u8 0, .int .u8 0, .int .u8 0, .int .u8 0]⟩ := by kernel_rfl
theorem ti126 : tiOf Tryd.prog 126 = some ⟨20, 160, true, [.int .u64 0, .int .u64 0, .int .u64 0, .int .u64 0, .int .u64 0, .int .u64 0, .int .u64 0, .int .u64 0, .int .u64 0, .int .u64 0, .int .u64 0, .int .u64 0, .int .u64 0, .int .u64 0, .int .u64 0, .int .u64 0, .int .u64 0, .int .u64 0, .int .u64 0, .int .u64 0]⟩ := by kernel_rfl
theorem ti128 : tiOf Tryd.prog 128 = some ⟨65, 65, true, [.int .u8 0, .int .u8 0, .int .u8 0, .int .u8 0, .int .u8 0, .int .u8 0, .int .u8 0, .int .u8 0, .int .u8 0, .int .u8 0, .int .u8 0, .int .u8 0, .int .u8 0, .int .u8 0, .int .u8 0, .int .u8 0, .int .u8 0, .int .u8 0, .int .u8 0, .int .u8 0, .int .u8 0, .int .u8 0, .int .u8 0, .int .u8 0, .int .u8 0, .int .u8 0, .int .u8 0, .int .u8 0, .int .u8 0, .int .u8 0, .int .u8 0, .int .u8 0, .int .u8 0, .int .u8 0, .int .u8 0, .int .u8 0, .int .u8 0, .int .u8 0, .int .u8 0, .int .u8 0, .int .u8 0, .int .u8 0, .int .u8 0, .int .u8 0, .int .u8 0, .int .u8 0, .int .u8 0, .int .u8 0, .int .u8 0, .int .u8 0, .int .u8 0, .int .u8 0, .int .u8 0, .int .u8 0, .int .u8 0, .int .u8 0, .int .u8 0, .int .u8 0, .int .u8 0, .int .u8 0, .int .u8 0, .int .u8 0, .int .u8 0, .int .u8 0, .int .u8 0]⟩ := by kernel_rfl
theorem ti133 : tiOf Tryd.prog 133 = some ⟨32, 32, true, [.int .u8 0, .int .u8 0, .int .u8 0, .int .u8 0, .int .u8 0, .int .u8 0, .int .u8 0, .int .u8 0, .int .u8 0, .int .u8 0, .int .u8 0, .int .u8 0, .int .u8 0, .int .u8 0, .int .u8 0, .int .u8 0, .int .u8 0, .int .u8 0, .int .u8 0, .int .u8 0, .int .u8 0, .int .u8 0, .int .u8 0, .int .u8 0, .int .u8 0, .int .u8 0, .int .u8 0, .int .u8 0, .int .u8 0, .int .u8 0, .int .u8 0, .int .u8 0]⟩ := by kernel_rfl
theorem ti134 : tiOf Tryd.prog 134 = some ⟨64, 64, true, [.int .u8 0, .int .u8 0, .int .u8 0, .int .u8 0, .int .u8 0, .int .u8 0, .int .u8 0, .int .u8 0, .int .u8 0, .int .u8 0, .int .u8 0, .int .u8 0, .int .u8 0, .int .u8 0, .int .u8 0, .int .u8 0, .int .u8 0, .int .u8 0, .int .u8 0, .int .u8 0, .int .u8 0, .int .u8 0, .int .u8 0, .int .u8 0, .int .u8 0, .int .u8 0, .int .u8 0, .int .u8 0, .int .u8 0, .int .u8 0, .int .u8 0, .int .u8 0, .int .u8 0, .int .u8 0, .int .u8 0, .int .u8 0, .int .u8 0, .int .u8 0, .int .u8 0, .int .u8 0, .int .u8 0, .int .u8 0, .int .u8 0, .int .u8 0, .int .u8 0, .int .u8 0, .int .u8 0, .int .u8 0, .int .u8 0, .int .u8 0, .int .u8 0, .int .u8 0, .int .u8 0, .int .u8 0, .int .u8 0, .int .u8 0, .int .u8 0, .int .u8 0, .int .u8 0, .int .u8 0, .int .u8 0, .int .u8 0, .int .u8 0, .int .u8 0]⟩ := by kernel_rfl
theorem un2 : Tryd.prog.underlying 2 = some (.int .i64) := by kernel_rfl
theorem un3 : Tryd.prog.underlying 3 = some (.int .i64) := by kernel_rfl
theorem un4 : Tryd.prog.underlying 4 = some .bool := by kernel_rfl
theorem un5 : Tryd.prog.underlying 5 = some (.int .u8) := by kernel_rfl
theorem un9 : Tryd.prog.underlying 9 = some .string := by kernel_rfl
theorem un22 : Tryd.prog.underlying 22 = some (.slice 5) := by kernel_rfl
theorem un24 : Tryd.prog.underlying 24 = some (.slice 26) := by kernel_rfl
theorem un29 : Tryd.prog.underlying 29 = some (.slice 31) := by kernel_rfl
theorem un34 : Tryd.prog.underlying 34 = some (.slice 38) := by kernel_rfl
theorem un42 : Tryd.prog.underlying 42 = some (.slice 28) := by kernel_rfl
theorem un43 : Tryd.prog.underlying 43 = some (.slice 45) := by kernel_rfl
theorem un49 : Tryd.prog.underlying 49 = some (.slice 51) := by kernel_rfl
theorem un53 : Tryd.prog.underlying 53 = some (.slice 94) := by kernel_rfl
theorem un56 : Tryd.prog.underlying 56 = some (.slice 3) := by kernel_rfl
theorem un62 : Tryd.prog.underlying 62 = some (.slice 9) := by kernel_rfl
theorem un76 : Tryd.prog.underlying 76 = some (.int .u16) := by kernel_rfl
theorem un99 : Tryd.prog.underlying 99 = some (.slice 100) := by kernel_rfl
theorem un117 : Tryd.prog.underlying 117 = some (.int .u64) := by kernel_rfl
theorem un127 : Tryd.prog.underlying 127 = some (.int .u32) := by kernel_rfl
theorem un130 : Tryd.prog.underlying 130 = some (.int .u64) := by kernel_rfl
theorem mixed : Tryd.prog.follows .mixedOrders = true := by kernel_rfl
end Go.Proofs.YtlnffadolfkggaaDoor

/- What chapter 13's functions come to: plain, without the program. -/
namespace Go.Proofs.YtlnffadolfkggaaDoor
set_option linter.unusedVariables false
set_option linter.unusedSimpArgs false
set_option maxRecDepth 100000
open Go.RowKit Fw

/-- The next number. -/
def nx (n : Int) : Int := IntKind.i64.wrap (n + 1)

namespace Sh
/-- How many kids a kind has. -/
def want (s : Sh) : Nat := if s.kind = 3 then 2 else 0
def node (s : Sh) : Prop := 1 ≤ s.kind ∧ s.kind ≤ 4 ∧ 0 ≤ s.n ∧ (s.n = 0 ∨ s.kind = 4) ∧ s.kids.length = s.want
instance (s : Sh) : Decidable s.node := inferInstanceAs (Decidable (_ ∧ _))
/-- A shape that may be. -/
inductive Right : Sh → Prop
  | mk (s : Sh) (h : s.node) (hk : ∀ k ∈ s.kids, Right k) : Right s
theorem Right.node {s : Sh} (h : s.Right) : s.node := by cases h; assumption
theorem Right.kids {s : Sh} (h : s.Right) : ∀ k ∈ s.kids, k.Right := by cases h; assumption
noncomputable instance (s : Sh) : Decidable s.Right := Classical.propDecidable _
end Sh

namespace Ty
def want (s : Ty) : Nat := if s.kind = 3 then 2 else 0
def node (t : Ty) : Prop := 1 ≤ t.kind ∧ t.kind ≤ 3 ∧ (t.kind = 3 ∨ t.pc = 0 ∧ t.x = 0) ∧ (t.c = 0 ∨ t.kind = 2) ∧ t.kids.length = t.want
instance (s : Ty) : Decidable s.node := inferInstanceAs (Decidable (_ ∧ _))
/-- A type that may be. -/
inductive Right : Ty → Prop
  | mk (t : Ty) (h : t.node) (hk : ∀ k ∈ t.kids, Right k) : Right t
theorem Right.node {s : Ty} (h : s.Right) : s.node := by cases h; assumption
theorem Right.kids {s : Ty} (h : s.Right) : ∀ k ∈ s.kids, k.Right := by cases h; assumption
noncomputable instance (s : Ty) : Decidable s.Right := Classical.propDecidable _

mutual
/-- A type's shape. -/
def shape : Ty → Sh
  | mk k _ _ _ _ ks => .mk k 0 (shapes ks)
def shapes : List Ty → List Sh
  | [] => []
  | t :: ts => shape t :: shapes ts
end
mutual
/-- A type's labels. -/
def places : Ty → List Int
  | mk k l c pc x ks => l :: ((if k = 2 then [c] else if k = 3 then [pc, x] else []) ++ placess ks)
def placess : List Ty → List Int
  | [] => []
  | t :: ts => places t ++ placess ts
end
mutual
/-- Another label for each. -/
def map (g : Int → Int) : Ty → Ty
  | mk k l c pc x ks => .mk k (g l) (if k = 2 then g c else c) (if k = 3 then g pc else pc) (if k = 3 then g x else x) (maps g ks)
def maps (g : Int → Int) : List Ty → List Ty
  | [] => []
  | t :: ts => map g t :: maps g ts
end
mutual
/-- A type of a shape, its labels the numbers from one on. -/
def fresh : Sh → Int → Ty × Int
  | .mk k _ ks, n =>
    if k = 2 then let r := freshs ks (nx (nx n)); (.mk 2 n (nx n) 0 0 r.1, r.2)
    else if k = 3 then let r := freshs ks (nx (nx (nx n))); (.mk 3 n 0 (nx n) (nx (nx n)) r.1, r.2)
    else let r := freshs ks (nx n); (.mk (if k = 4 then 1 else k) n 0 0 0 r.1, r.2)
def freshs : List Sh → Int → List Ty × Int
  | [], n => ([], n)
  | s :: ss, n => let r := fresh s n; let q := freshs ss r.2; (r.1 :: q.1, q.2)
end
theorem shapes_map (l : List Ty) : shapes l = l.map shape := by
  induction l with
  | nil => rfl
  | cons t l ih => rw [shapes, ih]; rfl
theorem placess_map (l : List Ty) : placess l = (l.map places).flatten := by
  induction l with
  | nil => rfl
  | cons t l ih => rw [placess, ih]; rfl
theorem maps_map (g : Int → Int) (l : List Ty) : maps g l = l.map (map g) := by
  induction l with
  | nil => rfl
  | cons t l ih => rw [maps, ih]; rfl
theorem shape_eq (t : Ty) : t.shape = .mk t.kind 0 (t.kids.map shape) := by cases t; rw [shape, shapes_map]; rfl
/-- A type's own labels. -/
def own (t : Ty) : List Int := t.l :: (if t.kind = 2 then [t.c] else if t.kind = 3 then [t.pc, t.x] else [])
theorem places_eq (t : Ty) : t.places = t.own ++ (t.kids.map places).flatten := by cases t; rw [places, placess_map]; rfl
theorem map_eq (g : Int → Int) (t : Ty) : t.map g = .mk t.kind (g t.l) (if t.kind = 2 then g t.c else t.c) (if t.kind = 3 then g t.pc else t.pc) (if t.kind = 3 then g t.x else t.x) (t.kids.map (map g)) := by cases t; rw [map, maps_map]; rfl
end Ty

def kid (t : Ty) (i : Nat) : Ty := t.kids.getD i (.mk 0 0 0 0 0 [])
/-- What has to hold that one stands where the other one is asked: of a depth. -/
def subN : Nat → Ty → Ty → List Pr
  | 0, _, _ => []
  | n + 1, a, b => ⟨a.l, b.l⟩ :: (if a.kind = 2 then [⟨a.c, b.c⟩, ⟨b.c, a.c⟩]
      else if a.kind = 3 then [⟨b.pc, a.pc⟩, ⟨a.x, b.x⟩] ++ subN n (kid b 0) (kid a 0) ++ subN n (kid a 1) (kid b 1) else [])

/-- The first place of an atom in a list; what stands there in another one; else itself. -/
def renI (fr to : List Int) (a : Int) : Int :=
  match fr.findIdx? (fun b => decide (b = a)) with
  | some k => to.getD k a
  | none => a

end Go.Proofs.YtlnffadolfkggaaDoor

/- Laws of fresh types, renamings, what stands for what: plain. -/
namespace Go.Proofs.YtlnffadolfkggaaDoor
set_option linter.unusedVariables false
set_option linter.unusedSimpArgs false
set_option maxRecDepth 100000
open Go.RowKit Fw

theorem Sh.ind {P : Sh → Prop} (h : ∀ s, (∀ k ∈ s.kids, P k) → P s) : ∀ s, P s := by
  suffices ∀ n, ∀ s : Sh, SizeOf.sizeOf s < n → P s from fun s => this _ s (Nat.lt_succ_self _)
  intro n
  induction n with
  | zero => intro s hs; omega
  | succ n ih => exact fun s hs => h s fun k hk => ih k (by have := Sh.kids_lt hk; omega)
theorem Ty.ind {P : Ty → Prop} (h : ∀ s, (∀ k ∈ s.kids, P k) → P s) : ∀ s, P s := by
  suffices ∀ n, ∀ s : Ty, SizeOf.sizeOf s < n → P s from fun s => this _ s (Nat.lt_succ_self _)
  intro n
  induction n with
  | zero => intro s hs; omega
  | succ n ih => exact fun s hs => h s fun k hk => ih k (by have := Ty.kids_lt hk; omega)

/-- How many labels a type of a shape has. -/
def ownN (k : Int) : Nat := if k = 2 then 2 else if k = 3 then 3 else 1
mutual
def Sh.cnt : Sh → Nat
  | .mk k _ ks => ownN k + Sh.cnts ks
def Sh.cnts : List Sh → Nat
  | [] => 0
  | s :: ss => Sh.cnt s + Sh.cnts ss
end

theorem nx_id {n : Int} (h0 : 0 ≤ n) (h1 : n ≤ 4611686018427387904) : nx n = n + 1 := wrapId ⟨by omega, by omega⟩

/-- The numbers from one on. -/
def upFrom (n : Int) : Nat → List Int
  | 0 => []
  | k + 1 => n :: upFrom (n + 1) k
theorem upFrom_len (n : Int) (k : Nat) : (upFrom n k).length = k := by
  induction k generalizing n with
  | zero => rfl
  | succ k ih => simp [upFrom, ih]
theorem upFrom_app (n : Int) (k m : Nat) : upFrom n (k + m) = upFrom n k ++ upFrom (n + k) m := by
  induction k generalizing n with
  | zero => simp [upFrom]
  | succ k ih =>
    have : k + 1 + m = (k + m) + 1 := by omega
    have e : n + 1 + (k : Int) = n + ((k + 1 : Nat) : Int) := by omega
    rw [this, upFrom, upFrom, ih, List.cons_append, e]
theorem upFrom_get (n : Int) (k i : Nat) (h : i < k) : (upFrom n k)[i]? = some (n + i) := by
  induction k generalizing n i with
  | zero => omega
  | succ k ih =>
    cases i with
    | zero => simp [upFrom]
    | succ i =>
      simp only [upFrom, List.getElem?_cons_succ]
      rw [ih (n + 1) i (by omega)]
      congr 1; omega
theorem upFrom_mem {n x : Int} {k : Nat} : x ∈ upFrom n k ↔ n ≤ x ∧ x < n + k := by
  induction k generalizing n with
  | zero => exact ⟨fun h => (nomatch h), fun h => by omega⟩
  | succ k ih => simp only [upFrom, List.mem_cons, ih]; omega
theorem upFrom_find (n : Int) (k : Nat) {x : Int} (h0 : n ≤ x) (h1 : x < n + k) : (upFrom n k).findIdx? (fun b => decide (b = x)) = some (x - n).toNat := by
  induction k generalizing n with
  | zero => omega
  | succ k ih =>
    rw [upFrom, List.findIdx?_cons]
    by_cases e : n = x
    · subst e; simp
    · rw [if_neg (by simpa using e), ih (n + 1) (by omega) (by omega)]
      simp only [Option.map_some, Option.some.injEq]
      omega

namespace Ty
/-- What a fresh type's labels are, and the next number. -/
theorem fresh_places : ∀ (s : Sh) (n : Int), s.Right → 0 ≤ n → n + s.cnt ≤ 4611686018427387904 → (fresh s n).1.places = upFrom n s.cnt ∧ (fresh s n).2 = n + s.cnt := by
  have lists : ∀ (ss : List Sh), (∀ s ∈ ss, ∀ n : Int, s.Right → 0 ≤ n → n + s.cnt ≤ 4611686018427387904 → (fresh s n).1.places = upFrom n s.cnt ∧ (fresh s n).2 = n + s.cnt) →
      ∀ n : Int, (∀ s ∈ ss, s.Right) → 0 ≤ n → n + Sh.cnts ss ≤ 4611686018427387904 → placess (freshs ss n).1 = upFrom n (Sh.cnts ss) ∧ (freshs ss n).2 = n + Sh.cnts ss := by
    intro ss
    induction ss with
    | nil => intro _ n _ _ _; exact ⟨by simp [freshs, placess, Sh.cnts, upFrom], by simp [freshs, Sh.cnts]⟩
    | cons s ss ih =>
      intro h n hr h0 h1
      simp only [Sh.cnts] at h1 ⊢
      obtain ⟨a1, a2⟩ := h s (by simp) n (hr s (by simp)) h0 (by omega)
      obtain ⟨b1, b2⟩ := ih (fun s' hs' => h s' (by simp [hs'])) (fresh s n).2 (fun s' hs' => hr s' (by simp [hs'])) (by omega) (by omega)
      simp only [freshs, placess]
      rw [a1, b1, b2, a2, upFrom_app]
      exact ⟨rfl, by omega⟩
  refine Sh.ind fun s ih n hr h0 h1 => ?_
  have hl := lists s.kids ih
  have hk := hr.kids
  cases s with
  | mk k m ks =>
  simp only [Sh.kids] at hl hk
  simp only [Sh.cnt] at h1 ⊢
  unfold fresh
  by_cases k2 : k = 2
  · have hc : ownN k = 2 := by unfold ownN; rw [if_pos k2]
    rw [hc] at h1 ⊢
    simp only [if_pos k2]
    have e1 : nx n = n + 1 := nx_id h0 (by omega)
    have e2 : nx (n + 1) = n + 2 := by rw [nx_id (by omega) (by omega)]; omega
    rw [e1, e2]
    obtain ⟨a, b⟩ := hl (n + 2) hk (by omega) (by omega)
    refine ⟨?_, by rw [b]; omega⟩
    rw [places, a, upFrom_app]
    simp [upFrom]
  · by_cases k3 : k = 3
    · have hc : ownN k = 3 := by unfold ownN; rw [if_neg k2, if_pos k3]
      rw [hc] at h1 ⊢
      simp only [if_neg k2, if_pos k3]
      have e1 : nx n = n + 1 := nx_id h0 (by omega)
      have e2 : nx (n + 1) = n + 2 := by rw [nx_id (by omega) (by omega)]; omega
      have e3 : nx (n + 2) = n + 3 := by rw [nx_id (by omega) (by omega)]; omega
      rw [e1, e2, e3]
      obtain ⟨a, b⟩ := hl (n + 3) hk (by omega) (by omega)
      refine ⟨?_, by rw [b]; omega⟩
      rw [places, a, upFrom_app]
      simp [upFrom]
      omega
    · have hc : ownN k = 1 := by unfold ownN; rw [if_neg k2, if_neg k3]
      rw [hc] at h1 ⊢
      simp only [if_neg k2, if_neg k3]
      have e1 : nx n = n + 1 := nx_id h0 (by omega)
      rw [e1]
      obtain ⟨a, b⟩ := hl (n + 1) hk (by omega) (by omega)
      refine ⟨?_, by rw [b]; omega⟩
      have hw : (if k = 4 then (1 : Int) else k) ≠ 2 := by split <;> omega
      have hw' : (if k = 4 then (1 : Int) else k) ≠ 3 := by split <;> omega
      rw [places, a, upFrom_app, if_neg hw, if_neg hw']
      simp [upFrom]

theorem freshs_len (ss : List Sh) (n : Int) : (freshs ss n).1.length = ss.length := by
  induction ss generalizing n with
  | nil => rfl
  | cons s ss ih => simp only [freshs, List.length_cons, ih]

/-- A fresh type is right. -/
theorem fresh_right : ∀ (s : Sh) (n : Int), s.Right → (fresh s n).1.Right := by
  have lists : ∀ (ss : List Sh), (∀ s ∈ ss, ∀ n : Int, s.Right → (fresh s n).1.Right) → ∀ n : Int, (∀ s ∈ ss, s.Right) → ∀ k ∈ (freshs ss n).1, k.Right := by
    intro ss
    induction ss with
    | nil => intro _ n _ k hk; cases hk
    | cons s ss ih =>
      intro h n hr k hk
      simp only [freshs, List.mem_cons] at hk
      rcases hk with rfl | hk
      · exact h s (by simp) n (hr s (by simp))
      · exact ih (fun s' hs' => h s' (by simp [hs'])) _ (fun s' hs' => hr s' (by simp [hs'])) k hk
  refine Sh.ind fun s ih n hr => ?_
  have hl := lists s.kids ih
  have hk := hr.kids
  have hn := hr.node
  cases s with
  | mk k m ks =>
  simp only [Sh.kids] at hl hk
  obtain ⟨h1, h2, h3, h4, _⟩ := hn
  have h5 : ks.length = if k = 3 then 2 else 0 := hr.node.2.2.2.2
  simp only [Sh.kind, Sh.n] at h1 h2 h3 h4
  unfold fresh
  by_cases k2 : k = 2
  · simp only [if_pos k2]
    rw [if_neg (by omega)] at h5
    refine .mk _ ⟨by show (1 : Int) ≤ 2; decide, by show (2 : Int) ≤ 3; decide, .inr ⟨rfl, rfl⟩, .inr rfl, ?_⟩ (hl _ hk)
    show (freshs ks _).1.length = 0
    rw [freshs_len, h5]
  · by_cases k3 : k = 3
    · simp only [if_neg k2, if_pos k3]
      rw [if_pos k3] at h5
      refine .mk _ ⟨by show (1 : Int) ≤ 3; decide, by show (3 : Int) ≤ 3; decide, .inl rfl, .inl rfl, ?_⟩ (hl _ hk)
      show (freshs ks _).1.length = 2
      rw [freshs_len, h5]
    · simp only [if_neg k2, if_neg k3]
      rw [if_neg k3] at h5
      have hw : 1 ≤ (if k = 4 then (1 : Int) else k) ∧ (if k = 4 then (1 : Int) else k) ≤ 3 ∧ (if k = 4 then (1 : Int) else k) ≠ 3 := by split <;> omega
      refine .mk _ ⟨hw.1, hw.2.1, .inr ⟨rfl, rfl⟩, .inl rfl, ?_⟩ (hl _ hk)
      show (freshs ks _).1.length = if (if k = 4 then (1 : Int) else k) = 3 then 2 else 0
      rw [freshs_len, h5, if_neg hw.2.2]

end Ty
/-- A shape without holes. -/
inductive Sh.Solid : Sh → Prop
  | mk (s : Sh) (h : s.kind ≠ 4) (hn : s.n = 0) (hk : ∀ k ∈ s.kids, Solid k) : Solid s
namespace Ty
theorem fresh_shape : ∀ (s : Sh) (n : Int), s.Solid → (fresh s n).1.shape = s := by
  have lists : ∀ (ss : List Sh), (∀ s ∈ ss, ∀ n : Int, s.Solid → (fresh s n).1.shape = s) → ∀ n : Int, (∀ s ∈ ss, s.Solid) → shapes (freshs ss n).1 = ss := by
    intro ss
    induction ss with
    | nil => intro _ n _; rfl
    | cons s ss ih =>
      intro h n hr
      simp only [freshs, shapes]
      rw [h s (by simp) n (hr s (by simp)), ih (fun s' hs' => h s' (by simp [hs'])) _ (fun s' hs' => hr s' (by simp [hs']))]
  refine Sh.ind fun s ih n hr => ?_
  have hl := lists s.kids ih
  obtain ⟨_, h4, h0, hk⟩ := hr
  cases s with
  | mk k m ks =>
  simp only [Sh.kids] at hl hk
  simp only [Sh.kind, Sh.n] at h4 h0
  subst h0
  unfold fresh
  by_cases k2 : k = 2
  · simp only [if_pos k2]; rw [shape, hl _ hk, k2]
  · by_cases k3 : k = 3
    · simp only [if_neg k2, if_pos k3]; rw [shape, hl _ hk, k3]
    · simp only [if_neg k2, if_neg k3, if_neg h4]; rw [shape, hl _ hk]

/-- Fresh labels moved are fresh. -/
theorem fresh_map (d : Int) (hd : 0 ≤ d) : ∀ (s : Sh) (n : Int), s.Right → 0 ≤ n → n + d + s.cnt ≤ 4611686018427387904 → (fresh s n).1.map (fun a => a + d) = (fresh s (n + d)).1 := by
  have lists : ∀ (ss : List Sh), (∀ s ∈ ss, ∀ n : Int, s.Right → 0 ≤ n → n + d + s.cnt ≤ 4611686018427387904 → (fresh s n).1.map (fun a => a + d) = (fresh s (n + d)).1) →
      ∀ n : Int, (∀ s ∈ ss, s.Right) → 0 ≤ n → n + d + Sh.cnts ss ≤ 4611686018427387904 → maps (fun a => a + d) (freshs ss n).1 = (freshs ss (n + d)).1 := by
    intro ss
    induction ss with
    | nil => intro _ n _ _ _; rfl
    | cons s ss ih =>
      intro h n hr h0 h1
      simp only [Sh.cnts] at h1
      have hs := hr s (by simp)
      simp only [freshs, maps]
      rw [h s (by simp) n hs h0 (by omega), (fresh_places s n hs h0 (by omega)).2, (fresh_places s (n + d) hs (by omega) (by omega)).2,
        ih (fun s' hs' => h s' (by simp [hs'])) (n + s.cnt) (fun s' hs' => hr s' (by simp [hs'])) (by omega) (by omega)]
      have : n + (s.cnt : Int) + d = n + d + s.cnt := by omega
      rw [this]
  refine Sh.ind fun s ih n hr h0 h1 => ?_
  have hl := lists s.kids ih
  have hk := hr.kids
  cases s with
  | mk k m ks =>
  simp only [Sh.kids] at hl hk
  simp only [Sh.cnt] at h1
  unfold fresh
  have hc : 1 ≤ ownN k := by unfold ownN; split <;> (try split) <;> omega
  have e1 : nx n = n + 1 := nx_id h0 (by omega)
  have f1 : nx (n + d) = n + 1 + d := by rw [nx_id (by omega) (by omega)]; omega
  by_cases k2 : k = 2
  · have hc : ownN k = 2 := by unfold ownN; rw [if_pos k2]
    rw [hc] at h1
    simp only [if_pos k2]
    have e2 : nx (n + 1) = n + 2 := by rw [nx_id (by omega) (by omega)]; omega
    have f2 : nx (n + 1 + d) = n + 2 + d := by rw [nx_id (by omega) (by omega)]; omega
    rw [e1, e2, f1, f2, map, hl (n + 2) hk (by omega) (by omega)]
    simp
  · by_cases k3 : k = 3
    · have hc : ownN k = 3 := by unfold ownN; rw [if_neg k2, if_pos k3]
      rw [hc] at h1
      simp only [if_neg k2, if_pos k3]
      have e2 : nx (n + 1) = n + 2 := by rw [nx_id (by omega) (by omega)]; omega
      have e3 : nx (n + 2) = n + 3 := by rw [nx_id (by omega) (by omega)]; omega
      have f2 : nx (n + 1 + d) = n + 2 + d := by rw [nx_id (by omega) (by omega)]; omega
      have f3 : nx (n + 2 + d) = n + 3 + d := by rw [nx_id (by omega) (by omega)]; omega
      rw [e1, e2, e3, f1, f2, f3, map, hl (n + 3) hk (by omega) (by omega)]
      simp
    · have hc : ownN k = 1 := by unfold ownN; rw [if_neg k2, if_neg k3]
      rw [hc] at h1
      simp only [if_neg k2, if_neg k3]
      have hw : (if k = 4 then (1 : Int) else k) ≠ 2 := by split <;> omega
      have hw' : (if k = 4 then (1 : Int) else k) ≠ 3 := by split <;> omega
      rw [e1, f1, map, hl (n + 1) hk (by omega) (by omega)]
      simp [hw, hw']

/-- What is the same on a type's labels renames it alike. -/
theorem map_congr {g h : Int → Int} : ∀ t : Ty, (∀ x ∈ t.places, g x = h x) → t.map g = t.map h := by
  refine Ty.ind fun t ih hp => ?_
  rw [places_eq] at hp
  have h1 : ∀ x ∈ t.own, g x = h x := fun x hx => hp x (List.mem_append_left _ hx)
  have h2 : t.kids.map (map g) = t.kids.map (map h) := List.map_congr_left fun k hk => ih k hk fun x hx => hp x (List.mem_append_right _ (List.mem_flatten.2 ⟨_, List.mem_map_of_mem hk, hx⟩))
  rw [map_eq, map_eq, h2]
  unfold own at h1
  have hl : g t.l = h t.l := h1 _ (by simp)
  rw [hl]
  by_cases k2 : t.kind = 2
  · rw [if_pos k2] at h1
    simp only [if_pos k2, if_neg (show ¬ t.kind = 3 by omega), h1 t.c (by simp)]
  · by_cases k3 : t.kind = 3
    · rw [if_neg k2, if_pos k3] at h1
      simp only [if_neg k2, if_pos k3, h1 t.pc (by simp), h1 t.x (by simp)]
    · simp only [if_neg k2, if_neg k3]
end Ty

/-- A pair of a type with one between. -/
def UpDown (x y z : Pr) : Prop := (x.a = z.a ∧ x.b = y.a ∧ y.b = z.b) ∨ (y.a = z.a ∧ y.b = x.a ∧ x.b = z.b)
def All3 : List Pr → List Pr → List Pr → Prop
  | [], [], [] => True
  | x :: xs, y :: ys, z :: zs => UpDown x y z ∧ All3 xs ys zs
  | _, _, _ => False
theorem All3.swap : ∀ {xs ys zs : List Pr}, All3 xs ys zs → All3 ys xs zs
  | [], [], [], _ => trivial
  | x :: xs, y :: ys, z :: zs, h => ⟨Or.symm h.1, All3.swap h.2⟩
theorem All3.app : ∀ {xs ys zs xs' ys' zs' : List Pr}, All3 xs ys zs → All3 xs' ys' zs' → All3 (xs ++ xs') (ys ++ ys') (zs ++ zs')
  | [], [], [], _, _, _, _, h => h
  | x :: xs, y :: ys, z :: zs, _, _, _, h, h' => ⟨h.1, All3.app h.2 h'⟩
theorem All3.len : ∀ {xs ys zs : List Pr}, All3 xs ys zs → xs.length = zs.length ∧ ys.length = zs.length
  | [], [], [], _ => ⟨rfl, rfl⟩
  | x :: xs, y :: ys, z :: zs, h => by have := All3.len h.2; simp [this.1, this.2]
theorem All3.get : ∀ {xs ys zs : List Pr} {i : Nat} {x y z : Pr}, All3 xs ys zs → xs[i]? = some x → ys[i]? = some y → zs[i]? = some z → UpDown x y z
  | x :: xs, y :: ys, z :: zs, 0, _, _, _, h, h1, h2, h3 => by cases h1; cases h2; cases h3; exact h.1
  | x :: xs, y :: ys, z :: zs, i + 1, _, _, _, h, h1, h2, h3 => All3.get (i := i) h.2 (by simpa using h1) (by simpa using h2) (by simpa using h3)

theorem kid_shape {a b : Ty} (h : a.shape = b.shape) (i : Nat) : (kid a i).shape = (kid b i).shape := by
  rw [Ty.shape_eq, Ty.shape_eq] at h
  injection h with h1 h2 h3
  have := congrArg (fun l => l[i]?) h3
  simp only [List.getElem?_map] at this
  unfold kid
  rw [List.getD_eq_getElem?_getD, List.getD_eq_getElem?_getD]
  cases ha : a.kids[i]? <;> cases hb : b.kids[i]? <;> rw [ha, hb] at this <;> simp_all
theorem kind_shape {a b : Ty} (h : a.shape = b.shape) : a.kind = b.kind := by
  rw [Ty.shape_eq, Ty.shape_eq] at h
  injection h

theorem sub3 (n : Nat) : ∀ a b c : Ty, a.shape = b.shape → b.shape = c.shape → All3 (subN n a b) (subN n b c) (subN n a c) := by
  induction n with
  | zero => intro a b c _ _; exact trivial
  | succ n ih =>
    intro a b c hab hbc
    have k1 := kind_shape hab
    have k2 := kind_shape hbc
    simp only [subN]
    refine ⟨.inl ⟨rfl, rfl, rfl⟩, ?_⟩
    rw [← k1]
    split
    · exact ⟨.inl ⟨rfl, rfl, rfl⟩, .inr ⟨rfl, rfl, rfl⟩, trivial⟩
    · split
      · refine All3.app (All3.app ⟨.inr ⟨rfl, rfl, rfl⟩, .inl ⟨rfl, rfl, rfl⟩, trivial⟩ ?_) (ih _ _ _ (kid_shape hab 1) (kid_shape hbc 1))
        exact (ih (kid c 0) (kid b 0) (kid a 0) (kid_shape hbc 0).symm (kid_shape hab 0).symm).swap
      · exact trivial
theorem sub_self (n : Nat) : ∀ a : Ty, ∀ p ∈ subN n a a, p.a = p.b := by
  induction n with
  | zero => intro a p h; cases h
  | succ n ih =>
    intro a p h
    simp only [subN, List.mem_cons] at h
    rcases h with rfl | h
    · rfl
    · split at h
      · simp only [List.mem_cons, List.not_mem_nil, or_false] at h
        rcases h with rfl | rfl <;> rfl
      · split at h
        · simp only [List.mem_append, List.mem_cons, List.not_mem_nil, or_false] at h
          rcases h with ((rfl | rfl) | h) | h
          · rfl
          · rfl
          · exact ih _ p h
          · exact ih _ p h
        · cases h
theorem sub_len (n : Nat) : ∀ a b c d : Ty, a.shape = c.shape → b.shape = d.shape → a.shape = b.shape → (subN n a b).length = (subN n c d).length := by
  induction n with
  | zero => intro a b c d _ _ _; rfl
  | succ n ih =>
    intro a b c d h1 h2 h3
    simp only [subN, List.length_cons, kind_shape h1]
    split
    · rfl
    · split
      · simp only [List.length_append]
        rw [ih (kid b 0) (kid a 0) (kid d 0) (kid c 0) (kid_shape h2 0) (kid_shape h1 0) (kid_shape h3 0).symm, ih (kid a 1) (kid b 1) (kid c 1) (kid d 1) (kid_shape h1 1) (kid_shape h2 1) (kid_shape h3 1)]
        rfl
      · rfl

end Go.Proofs.YtlnffadolfkggaaDoor

/- What is shown of types tells them apart: plain. -/
namespace Go.Proofs.YtlnffadolfkggaaDoor
set_option linter.unusedVariables false
set_option linter.unusedSimpArgs false
set_option maxRecDepth 100000
open Go.RowKit Fw

def IsDig (c : UInt8) : Prop := 48 ≤ c.toNat ∧ c.toNat ≤ 57
instance (c : UInt8) : Decidable (IsDig c) := inferInstanceAs (Decidable (_ ∧ _))
/-- What does not begin with a digit. -/
def NoDig (s : List UInt8) : Prop := ∀ c, s.head? = some c → ¬ IsDig c
theorem dec_step {n : Nat} (h : ¬ n < 10) : Lib.decDigits n = Lib.decDigits (n / 10) ++ [UInt8.ofNat (48 + n % 10)] := by rw [Lib.decDigits, dif_neg h]
theorem dec_one {n : Nat} (h : n < 10) : Lib.decDigits n = [UInt8.ofNat (48 + n)] := by rw [Lib.decDigits, dif_pos h]
theorem dig_of {k : Nat} (h : k < 10) : IsDig (UInt8.ofNat (48 + k)) := by
  unfold IsDig
  rw [UInt8.toNat_ofNat']
  omega
theorem dec_digs (n : Nat) : ∀ c ∈ Lib.decDigits n, IsDig c := by
  induction n using Nat.strongRecOn with
  | _ n ih =>
    by_cases h : n < 10
    · rw [dec_one h]
      intro c hc
      simp only [List.mem_singleton] at hc
      subst hc; exact dig_of h
    · rw [dec_step h]
      intro c hc
      rcases List.mem_append.1 hc with hc | hc
      · exact ih _ (by omega) c hc
      · simp only [List.mem_singleton] at hc
        subst hc; exact dig_of (by omega)
theorem dec_inj : ∀ n m : Nat, Lib.decDigits n = Lib.decDigits m → n = m := by
  have hone : ∀ a b : Nat, a < 10 → b < 10 → UInt8.ofNat (48 + a) = UInt8.ofNat (48 + b) → a = b := fun a b ha hb h => by
    have := congrArg UInt8.toNat h
    rw [UInt8.toNat_ofNat', UInt8.toNat_ofNat'] at this
    omega
  have hne : ∀ n, Lib.decDigits n ≠ [] := fun n => by
    by_cases h : n < 10
    · rw [dec_one h]; simp
    · rw [dec_step h]; simp
  intro n
  induction n using Nat.strongRecOn with
  | _ n ih =>
    intro m h
    by_cases h1 : n < 10
    · rw [dec_one h1] at h
      by_cases h2 : m < 10
      · rw [dec_one h2] at h
        simp only [List.cons.injEq, and_true] at h
        exact hone n m h1 h2 h
      · rw [dec_step h2] at h
        have := congrArg List.length h
        have hp := List.length_pos_iff.2 (hne (m / 10))
        rw [List.length_append, List.length_singleton, List.length_singleton] at this; omega
    · rw [dec_step h1] at h
      by_cases h2 : m < 10
      · rw [dec_one h2] at h
        have := congrArg List.length h
        have hp := List.length_pos_iff.2 (hne (n / 10))
        rw [List.length_append, List.length_singleton, List.length_singleton] at this; omega
      · rw [dec_step h2] at h
        have := List.append_inj' h rfl
        have e1 := ih (n / 10) (by omega) (m / 10) this.1
        simp only [List.cons.injEq, and_true] at this
        have e2 := hone _ _ (by omega) (by omega) this.2
        omega
theorem digs_inj : ∀ {l l' s s' : List UInt8}, (∀ c ∈ l, IsDig c) → (∀ c ∈ l', IsDig c) → NoDig s → NoDig s' → l ++ s = l' ++ s' → l = l' ∧ s = s'
  | [], [], _, _, _, _, _, _, h => ⟨rfl, h⟩
  | [], c :: l', s, s', _, h', hs, _, h => by
    rw [List.nil_append] at h
    subst h
    exact absurd (h' c (by simp)) (hs c rfl)
  | c :: l, [], s, s', h', _, _, hs, h => by
    rw [List.nil_append] at h
    subst h
    exact absurd (h' c (by simp)) (hs c rfl)
  | c :: l, d :: l', s, s', h1, h2, hs, hs', h => by
    simp only [List.cons_append, List.cons.injEq] at h
    obtain ⟨a, b⟩ := digs_inj (fun x hx => h1 x (by simp [hx])) (fun x hx => h2 x (by simp [hx])) hs hs' h.2
    exact ⟨by rw [h.1, a], b⟩

/-- An atom as it is read. -/
def atomT (names : List (List UInt8)) (a : Int) : List UInt8 := if 0 ≤ a then 39 :: Lib.itoa a else names.getD (-1 - a).toNat [63]
def loHi : List (List UInt8) := [[76, 111], [72, 105]]
theorem itoa_nat {a : Int} (h : 0 ≤ a) : Lib.itoa a = Lib.decDigits a.toNat := by
  obtain ⟨n, rfl⟩ : ∃ n : Nat, a = n := ⟨a.toNat, by omega⟩
  rw [Lib.itoa_nonneg]; rfl
theorem atomT_neg {a : Int} (h : a < 0) (h2 : -2 ≤ a) : a = -1 ∧ atomT loHi a = [76, 111] ∨ a = -2 ∧ atomT loHi a = [72, 105] := by
  have : a = -1 ∨ a = -2 := by omega
  rcases this with rfl | rfl
  · exact .inl ⟨rfl, rfl⟩
  · exact .inr ⟨rfl, rfl⟩
theorem atomT_inj {a b : Int} {s s' : List UInt8} (ha : -2 ≤ a) (hb : -2 ≤ b) (hs : NoDig s) (hs' : NoDig s') (h : atomT loHi a ++ s = atomT loHi b ++ s') : a = b ∧ s = s' := by
  by_cases h1 : 0 ≤ a
  · have e1 : atomT loHi a = 39 :: Lib.decDigits a.toNat := by unfold atomT; rw [if_pos h1, itoa_nat h1]
    by_cases h2 : 0 ≤ b
    · have e2 : atomT loHi b = 39 :: Lib.decDigits b.toNat := by unfold atomT; rw [if_pos h2, itoa_nat h2]
      rw [e1, e2] at h
      simp only [List.cons_append, List.cons.injEq, true_and] at h
      obtain ⟨h3, h4⟩ := digs_inj (dec_digs _) (dec_digs _) hs hs' h
      have := dec_inj _ _ h3
      exact ⟨by omega, h4⟩
    · rcases atomT_neg (by omega) hb with ⟨_, e2⟩ | ⟨_, e2⟩ <;> rw [e1, e2] at h <;> simp at h
  · by_cases h2 : 0 ≤ b
    · have e2 : atomT loHi b = 39 :: Lib.decDigits b.toNat := by unfold atomT; rw [if_pos h2, itoa_nat h2]
      rcases atomT_neg (by omega) ha with ⟨_, e1⟩ | ⟨_, e1⟩ <;> rw [e1, e2] at h <;> simp at h
    · rcases atomT_neg (by omega) ha with ⟨r1, e1⟩ | ⟨r1, e1⟩ <;> rcases atomT_neg (by omega) hb with ⟨r2, e2⟩ | ⟨r2, e2⟩ <;> rw [e1, e2] at h <;> simp at h
      · exact ⟨by omega, h⟩
      · exact ⟨by omega, h⟩

mutual
/-- A right type as it is read. -/
def Ty.textR (names : List (List UInt8)) : Ty → List UInt8
  | .mk k l c pc x ks =>
    if k = 1 then [105, 110, 116] ++ (64 :: atomT names l)
    else if k = 2 then [114, 101, 102] ++ (64 :: atomT names l) ++ [91] ++ atomT names c ++ [93]
    else [40] ++ (Ty.textsR names ks).getD 0 [] ++ [32, 45] ++ atomT names pc ++ [44] ++ atomT names x ++ [45, 62, 32] ++ (Ty.textsR names ks).getD 1 [] ++ [41] ++ (64 :: atomT names l)
def Ty.textsR (names : List (List UInt8)) : List Ty → List (List UInt8)
  | [] => []
  | t :: ts => Ty.textR names t :: Ty.textsR names ts
end
theorem Ty.textsR_map (names : List (List UInt8)) (l : List Ty) : Ty.textsR names l = l.map (Ty.textR names) := by
  induction l with
  | nil => rfl
  | cons t l ih => rw [Ty.textsR, ih]; rfl
/-- A type as it is read. -/
noncomputable def Ty.text (names : List (List UInt8)) (t : Ty) : List UInt8 := if t.Right then t.textR names else [63]

theorem nodig_cons {c : UInt8} {s : List UInt8} (h : ¬ IsDig c) : NoDig (c :: s) := fun d hd => by
  simp only [List.head?_cons, Option.some.injEq] at hd
  subst hd; exact h
theorem nodig_of {c : UInt8} (h : decide (IsDig c) = false) : ¬ IsDig c := of_decide_eq_false h
def Known (t : Ty) : Prop := ∀ x ∈ t.places, -2 ≤ x

theorem textR_inj : ∀ t : Ty, t.Right → Known t → ∀ (t' : Ty) (s s' : List UInt8), t'.Right → Known t' → NoDig s → NoDig s' → t.textR loHi ++ s = t'.textR loHi ++ s' → t = t' ∧ s = s' := by
  refine Ty.ind fun t ih hr hk t' s s' hr' hk' hs hs' h => ?_
  have hkk : ∀ u ∈ t.kids, Known u := fun u hu x hx => hk x (by rw [Ty.places_eq]; exact List.mem_append_right _ (List.mem_flatten.2 ⟨_, List.mem_map_of_mem hu, hx⟩))
  have hkk' : ∀ u ∈ t'.kids, Known u := fun u hu x hx => hk' x (by rw [Ty.places_eq]; exact List.mem_append_right _ (List.mem_flatten.2 ⟨_, List.mem_map_of_mem hu, hx⟩))
  have ho : ∀ x ∈ t.own, -2 ≤ x := fun x hx => hk x (by rw [Ty.places_eq]; exact List.mem_append_left _ hx)
  have ho' : ∀ x ∈ t'.own, -2 ≤ x := fun x hx => hk' x (by rw [Ty.places_eq]; exact List.mem_append_left _ hx)
  have hrk := hr.kids
  have hrk' := hr'.kids
  obtain ⟨n1, n2, n3, n4, n5⟩ := hr.node
  obtain ⟨m1, m2, m3, m4, m5⟩ := hr'.node
  cases t with
  | mk k l c pc x ks =>
  cases t' with
  | mk k' l' c' pc' x' ks' =>
  simp only [Ty.kind, Ty.pc, Ty.x, Ty.c] at n1 n2 n3 n4 m1 m2 m3 m4
  have n5 : ks.length = if k = 3 then 2 else 0 := n5
  have m5 : ks'.length = if k' = 3 then 2 else 0 := m5
  simp only [Ty.kids] at ih hkk hkk' hrk hrk'
  simp only [Ty.own, Ty.l, Ty.kind, Ty.c, Ty.pc, Ty.x] at ho ho'
  have hl := ho l (by simp)
  have hl' := ho' l' (by simp)
  unfold Ty.textR at h
  have a1 : ¬ IsDig 91 := nodig_of rfl
  have a2 : ¬ IsDig 93 := nodig_of rfl
  have a3 : ¬ IsDig 44 := nodig_of rfl
  have a4 : ¬ IsDig 45 := nodig_of rfl
  have a5 : ¬ IsDig 32 := nodig_of rfl
  have a6 : ¬ IsDig 41 := nodig_of rfl
  have hk3 : k = 1 ∨ k = 2 ∨ k = 3 := by omega
  have hk3' : k' = 1 ∨ k' = 2 ∨ k' = 3 := by omega
  have ne12 : ¬ (2 : Int) = 1 := by decide
  have ne13 : ¬ (3 : Int) = 1 := by decide
  have ne23 : ¬ (3 : Int) = 2 := by decide
  rcases hk3 with rfl | rfl | rfl <;> rcases hk3' with rfl | rfl | rfl <;>
    simp only [↓reduceIte, ne12, ne13, ne23, List.append_assoc, List.cons_append, List.nil_append, List.cons.injEq, true_and] at h
  · obtain ⟨e1, e2⟩ := atomT_inj hl hl' hs hs' h
    have z1 : ks = [] := List.eq_nil_of_length_eq_zero n5
    have z2 : ks' = [] := List.eq_nil_of_length_eq_zero m5
    have p1 := n3.resolve_left (by decide)
    have p2 := m3.resolve_left (by decide)
    have q1 := n4.resolve_right (by decide)
    have q2 := m4.resolve_right (by decide)
    rw [e1, z1, z2, p1.1, p1.2, p2.1, p2.2, q1, q2]
    exact ⟨rfl, e2⟩
  · exact absurd h.1 (by decide)
  · exact absurd h.1 (by decide)
  · exact absurd h.1 (by decide)
  · have hc := ho c (by simp)
    have hc' := ho' c' (by simp)
    obtain ⟨e1, e2⟩ := atomT_inj hl hl' (nodig_cons a1) (nodig_cons a1) h
    simp only [List.cons.injEq, true_and] at e2
    obtain ⟨e3, e4⟩ := atomT_inj hc hc' (nodig_cons a2) (nodig_cons a2) e2
    simp only [List.cons.injEq, true_and] at e4
    have z1 : ks = [] := List.eq_nil_of_length_eq_zero n5
    have z2 : ks' = [] := List.eq_nil_of_length_eq_zero m5
    have p1 := n3.resolve_left (by decide)
    have p2 := m3.resolve_left (by decide)
    rw [e1, e3, z1, z2, p1.1, p1.2, p2.1, p2.2]
    exact ⟨rfl, e4⟩
  · exact absurd h.1 (by decide)
  · exact absurd h.1 (by decide)
  · exact absurd h.1 (by decide)
  · have n5 : ks.length = 2 := n5
    have m5 : ks'.length = 2 := m5
    obtain ⟨u, v, rfl⟩ : ∃ u v, ks = [u, v] := by
      match ks, n5 with
      | [u, v], _ => exact ⟨u, v, rfl⟩
    obtain ⟨u', v', rfl⟩ : ∃ u v, ks' = [u, v] := by
      match ks', m5 with
      | [u, v], _ => exact ⟨u, v, rfl⟩
    have g0 : ∀ a b : Ty, (Ty.textsR loHi [a, b]).getD 0 [] = a.textR loHi := fun a b => rfl
    have g1 : ∀ a b : Ty, (Ty.textsR loHi [a, b]).getD 1 [] = b.textR loHi := fun a b => rfl
    rw [g0, g1, g0, g1] at h
    have hpc := ho pc (by simp)
    have hpc' := ho' pc' (by simp)
    have hx := ho x (by simp)
    have hx' := ho' x' (by simp)
    obtain ⟨e1, e2⟩ := ih u (by simp) (hrk u (by simp)) (hkk u (by simp)) u' _ _ (hrk' u' (by simp)) (hkk' u' (by simp)) (nodig_cons a5) (nodig_cons a5) h
    simp only [List.cons.injEq, true_and] at e2
    obtain ⟨e3, e4⟩ := atomT_inj hpc hpc' (nodig_cons a3) (nodig_cons a3) e2
    simp only [List.cons.injEq, true_and] at e4
    obtain ⟨e5, e6⟩ := atomT_inj hx hx' (nodig_cons a4) (nodig_cons a4) e4
    simp only [List.cons.injEq, true_and] at e6
    obtain ⟨e7, e8⟩ := ih v (by simp) (hrk v (by simp)) (hkk v (by simp)) v' _ _ (hrk' v' (by simp)) (hkk' v' (by simp)) (nodig_cons a6) (nodig_cons a6) e6
    simp only [List.cons.injEq, true_and] at e8
    obtain ⟨e9, e10⟩ := atomT_inj hl hl' hs hs' e8
    have q1 := n4.resolve_right (by decide)
    have q2 := m4.resolve_right (by decide)
    rw [e1, e3, e5, e7, e9, q1, q2]
    exact ⟨rfl, e10⟩

theorem text_inj {t t' : Ty} (hr : t.Right) (hk : Known t) (hr' : t'.Right) (hk' : Known t') : t.text loHi = t'.text loHi ↔ t = t' := by
  unfold Ty.text
  rw [if_pos hr, if_pos hr']
  refine ⟨fun h => ?_, fun h => by rw [h]⟩
  exact (textR_inj t hr hk t' [] [] hr' hk' (fun c h => by cases h) (fun c h => by cases h) (by rw [List.append_nil, List.append_nil]; exact h)).1

end Go.Proofs.YtlnffadolfkggaaDoor

/- Shapes by bytes: plain. -/
namespace Go.Proofs.YtlnffadolfkggaaDoor
set_option linter.unusedVariables false
set_option linter.unusedSimpArgs false
set_option maxRecDepth 100000
open Go.RowKit Fw

def funS (a b : Sh) : Sh := .mk 3 0 [a, b]
def intS : Sh := .mk 1 0 []
def refS : Sh := .mk 2 0 []
/-- A shape, and where it ends: of so many calls. -/
def buildF (l : List Int) : Nat → Nat → Sh × Nat
  | 0, a => (intS, a)
  | k + 1, a =>
    if l.length ≤ a then (intS, a)
    else if (l.getD a 0).tmod 3 = 0 then
      let x := buildF l k (a + 1)
      let y := buildF l k x.2
      (funS x.1 y.1, y.2)
    else if (l.getD a 0).tmod 3 = 1 then (refS, a + 1)
    else (intS, a + 1)
def madeF (l : List Int) : Sh := (buildF (l.take 12) 14 0).1

/-- What is asked of a shape made of bytes. -/
structure Made (s : Sh) (k : Nat) : Prop where
  right : s.Right
  solid : s.Solid
  cnt : s.cnt ≤ k
theorem right_leaf {k : Int} (h1 : 1 ≤ k) (h2 : k ≤ 2) : (Sh.mk k 0 []).Right := .mk _ ⟨h1, by show k ≤ 4; omega, Int.le_refl _, .inl rfl, by show 0 = if k = 3 then 2 else 0; rw [if_neg (by omega)]⟩ (fun x hx => nomatch hx)
theorem solid_leaf {k : Int} (h2 : k ≤ 2) : (Sh.mk k 0 []).Solid := .mk _ (by show k ≠ 4; omega) rfl (fun x hx => nomatch hx)
theorem cnt_int : intS.cnt = 1 := rfl
theorem cnt_ref : refS.cnt = 2 := rfl
theorem cnt_fun (a b : Sh) : (funS a b).cnt = 3 + a.cnt + b.cnt := by
  show ownN 3 + (Sh.cnt a + (Sh.cnt b + 0)) = _
  have : ownN 3 = 3 := rfl
  omega
theorem made_fun {a b : Sh} {j k : Nat} (ha : Made a j) (hb : Made b k) : Made (funS a b) (3 + j + k) := by
  have h1 := ha.cnt
  have h2 := hb.cnt
  refine ⟨.mk _ ⟨by show (1 : Int) ≤ 3; decide, by show (3 : Int) ≤ 4; decide, Int.le_refl _, .inl rfl, rfl⟩ ?_, .mk _ (by show (3 : Int) ≠ 4; decide) rfl ?_, by rw [cnt_fun]; omega⟩
  · intro x hx
    simp only [funS, Sh.kids, List.mem_cons, List.not_mem_nil, or_false] at hx
    rcases hx with rfl | rfl
    · exact ha.right
    · exact hb.right
  · intro x hx
    simp only [funS, Sh.kids, List.mem_cons, List.not_mem_nil, or_false] at hx
    rcases hx with rfl | rfl
    · exact ha.solid
    · exact hb.solid
theorem Made.mono {s : Sh} {j k : Nat} (h : Made s j) (hk : j ≤ k) : Made s k := ⟨h.right, h.solid, Nat.le_trans h.cnt hk⟩
theorem buildF_ok (l : List Int) : ∀ k a : Nat, a ≤ l.length → a ≤ (buildF l k a).2 ∧ (buildF l k a).2 ≤ l.length ∧ Made (buildF l k a).1 (5 * ((buildF l k a).2 - a) + 2) := by
  have hint : ∀ k, 1 ≤ k → Made intS k := fun k h => ⟨right_leaf (by decide) (by decide), solid_leaf (by decide), by rw [cnt_int]; exact h⟩
  intro k
  induction k with
  | zero => intro a ha; exact ⟨Nat.le_refl _, ha, hint _ (by omega)⟩
  | succ k ih =>
    intro a ha
    unfold buildF
    by_cases h1 : l.length ≤ a
    · rw [if_pos h1]; exact ⟨Nat.le_refl _, ha, hint _ (by omega)⟩
    rw [if_neg h1]
    by_cases h2 : (l.getD a 0).tmod 3 = 0
    · rw [if_pos h2]
      obtain ⟨x1, x2, x3⟩ := ih (a + 1) (by omega)
      obtain ⟨y1, y2, y3⟩ := ih (buildF l k (a + 1)).2 x2
      dsimp only
      exact ⟨by omega, y2, (made_fun x3 y3).mono (by omega)⟩
    rw [if_neg h2]
    by_cases h3 : (l.getD a 0).tmod 3 = 1
    · rw [if_pos h3]
      exact ⟨by show a ≤ a + 1; omega, by show a + 1 ≤ _; omega, right_leaf (by decide) (by decide), solid_leaf (by decide), by show refS.cnt ≤ _; rw [cnt_ref]; omega⟩
    · rw [if_neg h3]
      exact ⟨by show a ≤ a + 1; omega, by show a + 1 ≤ _; omega, hint _ (by omega)⟩
theorem madeF_ok (l : List Int) : Made (madeF l) 62 := by
  obtain ⟨h1, h2, h3⟩ := buildF_ok (l.take 12) 14 0 (Nat.zero_le _)
  exact h3.mono (by rw [List.length_take] at h2; omega)

/-- Renamed by moved labels a fresh type is the moved one. -/
theorem ren_fresh {s : Sh} (hs : s.Right) {d : Int} (hd : 0 ≤ d) (hb : d + s.cnt ≤ 4611686018427387904) :
    (Ty.fresh s 0).1.map (renI (Ty.fresh s 0).1.places (Ty.fresh s d).1.places) = (Ty.fresh s d).1 := by
  have h0 := (Ty.fresh_places s 0 hs (Int.le_refl _) (by omega)).1
  have h1 := (Ty.fresh_places s d hs hd (by omega)).1
  have := Ty.fresh_map d hd s 0 hs (Int.le_refl _) (by omega)
  rw [Int.zero_add] at this
  rw [← this]
  refine Ty.map_congr _ fun x hx => ?_
  rw [this, h0, h1]
  rw [h0, upFrom_mem] at hx
  unfold renI
  rw [upFrom_find 0 s.cnt hx.1 hx.2]
  show (upFrom d s.cnt).getD (x - 0).toNat x = x + d
  rw [List.getD_eq_getElem?_getD, upFrom_get d s.cnt _ (by omega)]
  show d + ((x - 0).toNat : Int) = x + d
  omega
theorem ren_back {s : Sh} (hs : s.Right) {d : Int} (hd : 0 ≤ d) (hb : d + s.cnt ≤ 4611686018427387904) :
    (Ty.fresh s d).1.map (renI (Ty.fresh s d).1.places (Ty.fresh s 0).1.places) = (Ty.fresh s 0).1 := by
  have h0 := (Ty.fresh_places s 0 hs (Int.le_refl _) (by omega)).1
  have h1 := (Ty.fresh_places s d hs hd (by omega)).1
  have := Ty.fresh_map d hd s 0 hs (Int.le_refl _) (by omega)
  rw [Int.zero_add] at this
  have hback : (Ty.fresh s d).1.map (fun a => a - d) = (Ty.fresh s 0).1 := by
    rw [← this]
    have comp : ∀ t : Ty, (t.map (fun a => a + d)).map (fun a => a - d) = t := by
      refine Ty.ind fun t ih => ?_
      rw [Ty.map_eq, Ty.map_eq]
      have hk : (t.kids.map (Ty.map fun a => a + d)).map (Ty.map fun a => a - d) = t.kids := by
        rw [List.map_map]
        conv => rhs; rw [← List.map_id t.kids]
        exact List.map_congr_left fun k hk => ih k hk
      cases t with
      | mk k l c pc x ks =>
      simp only [Ty.kind, Ty.l, Ty.c, Ty.pc, Ty.x, Ty.kids] at hk ⊢
      rw [hk]
      by_cases k2 : k = 2
      · simp [k2, Int.add_sub_cancel]
      · by_cases k3 : k = 3
        · simp [k3, Int.add_sub_cancel]
        · simp [k2, k3, Int.add_sub_cancel]
    exact comp _
  rw [← hback]
  refine Ty.map_congr _ fun x hx => ?_
  rw [hback, h0, h1]
  rw [h1, upFrom_mem] at hx
  unfold renI
  rw [upFrom_find d s.cnt hx.1 hx.2]
  show (upFrom 0 s.cnt).getD (x - d).toNat x = x - d
  rw [List.getD_eq_getElem?_getD, upFrom_get 0 s.cnt _ (by omega)]
  show 0 + ((x - d).toNat : Int) = x - d
  omega

end Go.Proofs.YtlnffadolfkggaaDoor

/- The library's contract of the decimal numeral, at this program's numbers (printed by a tool of mine; each line is compared by the kernel). -/
namespace Go.Proofs.YtlnffadolfkggaaDoor
set_option linter.unusedVariables false
set_option linter.unusedSimpArgs false
set_option maxRecDepth 100000
open Go.RowKit Go.Shelf
def lays_ren : Go.Shelf.Ren := { f := fun x => match x with | 171 => 64 | 243 => 73 | 246 => 75 | 283 => 76 | 284 => 77 | 285 => 78 | 286 => 79 | 129 => 81 | 317 => 80 | 318 => 82 | 319 => 83 | 320 => 84 | 337 => 85 | 338 => 86 | n => n, t := fun x => match x with | 3 => 3 | 9 => 9 | 2 => 2 | 4 => 4 | 171 => 120 | 0 => 0 | 53 => 117 | 37 => 22 | 5 => 5 | 173 => 123 | 212 => 126 | 51 => 127 | 20 => 20 | 213 => 128 | 46 => 130 | 232 => 133 | 233 => 134 | n => n, g := fun x => match x with | 17 => 0 | 18 => 1 | 19 => 2 | n => n }
theorem lays : LaysM.n171 Tryd.prog lays_ren where
  mixed := by kernel_rfl
  f129 := Tryd.func81.trans (congrArg some (by kernel_rfl))
  f171 := Tryd.func64.trans (congrArg some (by kernel_rfl))
  f243 := Tryd.func73.trans (congrArg some (by kernel_rfl))
  f246 := Tryd.func75.trans (congrArg some (by kernel_rfl))
  f283 := Tryd.func76.trans (congrArg some (by kernel_rfl))
  f284 := Tryd.func77.trans (congrArg some (by kernel_rfl))
  f285 := Tryd.func78.trans (congrArg some (by kernel_rfl))
  f286 := Tryd.func79.trans (congrArg some (by kernel_rfl))
  f317 := Tryd.func80.trans (congrArg some (by kernel_rfl))
  f318 := Tryd.func82.trans (congrArg some (by kernel_rfl))
  f319 := Tryd.func83.trans (congrArg some (by kernel_rfl))
  f320 := Tryd.func84.trans (congrArg some (by kernel_rfl))
  f337 := Tryd.func85.trans (congrArg some (by kernel_rfl))
  f338 := Tryd.func86.trans (congrArg some (by kernel_rfl))
  t0 := Tryd.underlying0
  a0 := Tryd.isAgg0
  z0 := Tryd.sizeOf0
  v0 := Tryd.zeroValue0
  t2 := Tryd.underlying2
  a2 := Tryd.isAgg2
  z2 := Tryd.sizeOf2
  v2 := Tryd.zeroValue2
  t3 := Tryd.underlying3
  a3 := Tryd.isAgg3
  z3 := Tryd.sizeOf3
  v3 := Tryd.zeroValue3
  t4 := Tryd.underlying4
  a4 := Tryd.isAgg4
  z4 := Tryd.sizeOf4
  v4 := Tryd.zeroValue4
  t5 := Tryd.underlying5
  a5 := Tryd.isAgg5
  z5 := Tryd.sizeOf5
  v5 := Tryd.zeroValue5
  t9 := Tryd.underlying9
  a9 := Tryd.isAgg9
  z9 := Tryd.sizeOf9
  v9 := Tryd.zeroValue9
  t20 := Tryd.underlying20
  a20 := Tryd.isAgg20
  z20 := Tryd.sizeOf20
  v20 := Tryd.zeroValue20
  t37 := Tryd.underlying22
  a37 := Tryd.isAgg22
  z37 := Tryd.sizeOf22
  v37 := Tryd.zeroValue22
  t46 := Tryd.underlying130
  a46 := Tryd.isAgg130
  z46 := Tryd.sizeOf130
  v46 := Tryd.zeroValue130
  t51 := Tryd.underlying127
  a51 := Tryd.isAgg127
  z51 := Tryd.sizeOf127
  v51 := Tryd.zeroValue127
  t53 := Tryd.underlying117
  a53 := Tryd.isAgg117
  z53 := Tryd.sizeOf117
  v53 := Tryd.zeroValue117
  t171 := Tryd.underlying120
  a171 := Tryd.isAgg120
  z171 := Tryd.sizeOf120
  v171 := Tryd.zeroValue120
  t173 := Tryd.underlying123
  a173 := Tryd.isAgg123
  z173 := Tryd.sizeOf123
  v173 := Tryd.zeroValue123
  t212 := Tryd.underlying126
  a212 := Tryd.isAgg126
  z212 := Tryd.sizeOf126
  v212 := Tryd.zeroValue126
  t213 := Tryd.underlying128
  a213 := Tryd.isAgg128
  z213 := Tryd.sizeOf128
  t232 := Tryd.underlying133
  a232 := Tryd.isAgg133
  z232 := Tryd.sizeOf133
  v232 := Tryd.zeroValue133
  t233 := Tryd.underlying134
  a233 := Tryd.isAgg134
  z233 := Tryd.sizeOf134
  v233 := Tryd.zeroValue134
  g17 := by kernel_rfl
  g18 := by kernel_rfl
  g19 := by kernel_rfl
  i0 := by kernel_rfl
  i2 := by kernel_rfl
  i3 := by kernel_rfl
  i4 := by kernel_rfl
  i5 := by kernel_rfl
  i9 := by kernel_rfl
  i20 := by kernel_rfl
  i37 := by kernel_rfl
  i46 := by kernel_rfl
  i51 := by kernel_rfl
  i53 := by kernel_rfl
  i171 := by kernel_rfl
  i173 := by kernel_rfl
  i212 := by kernel_rfl
  i232 := by kernel_rfl
  i233 := by kernel_rfl
  m17 := by kernel_rfl
  m18 := by kernel_rfl
  m19 := by kernel_rfl
end Go.Proofs.YtlnffadolfkggaaDoor

/- The contracts of the document's comparisons, of what turns the program's shapes and types into the document's. -/
namespace Go.Proofs.YtlnffadolfkggaaDoor
set_option linter.unusedVariables false
set_option linter.unusedSimpArgs false
set_option maxRecDepth 100000
open Go.RowKit Fw

/-- chancel/chancelref08.Same -/
theorem c28 (Γ : Nat → PV) : ∀ a b : Sh, Gives Tryd.prog Γ 28 [.agg a.enc, .agg b.enc] (.bool (decide (a = b))) := by
  suffices ∀ n, ∀ a, SizeOf.sizeOf a < n → ∀ b : Sh, Gives Tryd.prog Γ 28 [.agg a.enc, .agg b.enc] (.bool (decide (a = b))) from fun a b => this _ a (Nat.lt_succ_self _) b
  intro n
  induction n with
  | zero => intro a ha; omega
  | succ n ih =>
  intro a ha b
  refine fn_of_awp Tryd.func28 rfl (by simp [Tryd.f28]) rfl fun H => ?_
  refine awp_seq ?_
  -- region 0
  refine awp_run rfl (by simp only [fwA, ↓reduceIte, Nat.reduceAdd, Nat.reduceMul, Nat.reduceEqDiff, Nat.reduceLT, Nat.reduceLeDiff, reduceCtorEq] <;> rfl) ?_
  refine awp_seq ?_
  refine awp_seq ?_
  -- region 1
  by_cases h0 : a.kind = b.kind
  rotate_left
  · refine awp_run rfl (by simp only [fwA, ↓reduceIte, Nat.reduceAdd, Nat.reduceMul, Nat.reduceEqDiff, Nat.reduceLT, Nat.reduceLeDiff, reduceCtorEq, fl51_0, ti3, fl51_1, fl51_2, ti49, un49, el49, ti51, Sh.fw, List.length_map, h0, decide_false, decide_true, Bool.not_false, Bool.not_true] <;> rfl) ?_
    refine awp_cond (by simp only [fwA, ↓reduceIte, Nat.reduceAdd, Nat.reduceMul, Nat.reduceEqDiff, Nat.reduceLT, Nat.reduceLeDiff, reduceCtorEq] <;> rfl) ?_
    refine awp_seq (awp_run rfl (by simp only [fwA, ↓reduceIte, Nat.reduceAdd, Nat.reduceMul, Nat.reduceEqDiff, Nat.reduceLT, Nat.reduceLeDiff, reduceCtorEq] <;> rfl) (awp_ret ?_))
    exact gives_end (.inl rfl) _ (by rw [decide_eq_false (fun e => h0 (by rw [e]))]; rfl)
  by_cases h1 : a.n = b.n
  rotate_left
  · refine awp_run rfl (by simp only [fwA, ↓reduceIte, Nat.reduceAdd, Nat.reduceMul, Nat.reduceEqDiff, Nat.reduceLT, Nat.reduceLeDiff, reduceCtorEq, fl51_0, ti3, fl51_1, fl51_2, ti49, un49, el49, ti51, Sh.fw, List.length_map, h0, h1, decide_false, decide_true, Bool.not_false, Bool.not_true] <;> rfl) ?_
    refine awp_cond (by simp only [fwA, ↓reduceIte, Nat.reduceAdd, Nat.reduceMul, Nat.reduceEqDiff, Nat.reduceLT, Nat.reduceLeDiff, reduceCtorEq] <;> rfl) ?_
    refine awp_seq (awp_run rfl (by simp only [fwA, ↓reduceIte, Nat.reduceAdd, Nat.reduceMul, Nat.reduceEqDiff, Nat.reduceLT, Nat.reduceLeDiff, reduceCtorEq] <;> rfl) (awp_ret ?_))
    exact gives_end (.inl rfl) _ (by rw [decide_eq_false (fun e => h1 (by rw [e]))]; rfl)
  by_cases h2 : (a.kids.length : Int) = b.kids.length
  rotate_left
  · refine awp_run rfl (by simp only [fwA, ↓reduceIte, Nat.reduceAdd, Nat.reduceMul, Nat.reduceEqDiff, Nat.reduceLT, Nat.reduceLeDiff, reduceCtorEq, fl51_0, ti3, fl51_1, fl51_2, ti49, un49, el49, ti51, Sh.fw, List.length_map, h0, h1, h2, decide_false, decide_true, Bool.not_false, Bool.not_true] <;> rfl) ?_
    refine awp_cond (by simp only [fwA, ↓reduceIte, Nat.reduceAdd, Nat.reduceMul, Nat.reduceEqDiff, Nat.reduceLT, Nat.reduceLeDiff, reduceCtorEq] <;> rfl) ?_
    refine awp_seq (awp_run rfl (by simp only [fwA, ↓reduceIte, Nat.reduceAdd, Nat.reduceMul, Nat.reduceEqDiff, Nat.reduceLT, Nat.reduceLeDiff, reduceCtorEq] <;> rfl) (awp_ret ?_))
    exact gives_end (.inl rfl) _ (by rw [decide_eq_false (fun e => h2 (by rw [e]))]; rfl)
  refine awp_run rfl (by simp only [fwA, ↓reduceIte, Nat.reduceAdd, Nat.reduceMul, Nat.reduceEqDiff, Nat.reduceLT, Nat.reduceLeDiff, reduceCtorEq, fl51_0, ti3, fl51_1, fl51_2, ti49, un49, el49, ti51, Sh.fw, List.length_map, h0, h1, h2, decide_true, Bool.not_true] <;> rfl) ?_
  refine awp_cond (by simp only [fwA, ↓reduceIte, Nat.reduceAdd, Nat.reduceMul, Nat.reduceEqDiff, Nat.reduceLT, Nat.reduceLeDiff, reduceCtorEq] <;> rfl) (awp_skip ?_)
  refine awp_seq ?_
  refine awp_seq ?_
  -- region 3
  refine awp_run rfl (by simp only [fwA, ↓reduceIte, Nat.reduceAdd, Nat.reduceMul, Nat.reduceEqDiff, Nat.reduceLT, Nat.reduceLeDiff, reduceCtorEq] <;> rfl) ?_
  have hl' : a.kids.length = b.kids.length := by omega
  refine awp_block ?_
  refine awp_for [2, 3, 5] (fun i : Nat => [.ptr H.length 0, .ptr (H.length + 1) 0, .int .i64 (i : Int)]) (fun _ => H ++ [.box a.enc, .box b.enc]) (fun i => a.kids.length - i)
    (fun i => i ≤ a.kids.length ∧ a.kids.take i = b.kids.take i) 0 rfl rfl ⟨Nat.zero_le _, rfl⟩ fun i hi => ?_
  refine awp_seq ?_
  refine awp_seq ?_
  -- region 4
  refine awp_run rfl (by simp only [fwA, ↓reduceIte, Nat.reduceAdd, Nat.reduceMul, Nat.reduceEqDiff, Nat.reduceLT, Nat.reduceLeDiff, reduceCtorEq, fl51_0, ti3, fl51_1, fl51_2, ti49, un49, el49, ti51, Sh.fw, List.length_map] <;> rfl) ?_
  refine awp_vlen 29 rfl fun hlen => ?_
  rw [List.length_map] at hlen
  refine awp_cond (by simp only [fwA, ↓reduceIte, Nat.reduceAdd, Nat.reduceMul, Nat.reduceEqDiff, Nat.reduceLT, Nat.reduceLeDiff, reduceCtorEq] <;> rfl) ?_
  by_cases hc : (i : Int) < a.kids.length
  rotate_left
  · simp only [hc, decide_false, Bool.false_eq_true, ↓reduceIte]
    refine awp_exit ?_
    have hi' : i = a.kids.length := by omega
    refine awp_seq (awp_run rfl (by simp only [fwA, ↓reduceIte, Nat.reduceAdd, Nat.reduceMul, Nat.reduceEqDiff, Nat.reduceLT, Nat.reduceLeDiff, reduceCtorEq] <;> rfl) (awp_ret ?_))
    have e : a = b := Sh.ext h0 h1 (by
      have := hi.2
      rwa [hi', List.take_length, hl', List.take_length] at this)
    exact gives_end (.inl rfl) _ (by rw [decide_eq_true e]; rfl)
  simp only [hc, decide_true, ↓reduceIte]
  refine awp_skip ?_
  refine awp_seq ?_
  refine awp_block ?_
  refine awp_seq ?_
  have hia : i < a.kids.length := by omega
  have ga : a.kids[i]? = some a.kids[i] := List.getElem?_eq_getElem hia
  have gb : b.kids[i]? = some (b.kids[i]'(by omega)) := List.getElem?_eq_getElem (by omega)
  -- region 6 drawn
  refine awp_drawn [0, 1, 0, 0, 1, 0, 1, 0, 0, 1, 0, 0] [0, 1, 0, 7, 15, 0, 32, 0, 224, 480, 1023, 2047] mixed rfl (by kernel_rfl) ?_
  refine dops_run 10 (by simp only [fwA, ↓reduceIte, Nat.reduceAdd, Nat.reduceMul, Nat.reduceEqDiff, Nat.reduceLT, Nat.reduceLeDiff, reduceCtorEq, fl51_0, ti3, fl51_1, fl51_2, ti49, un49, el49, ti51, Sh.fw, List.getElem?_map, ga, gb, Option.map_some, Int.natCast_nonneg] <;> rfl) ?_
  refine dops_fn rfl rfl rfl rfl en28 (ih _ (by have := Sh.kids_lt (List.getElem_mem hia); omega) _) ?_
  refine dops_run 1 (by simp only [fwA, ↓reduceIte, Nat.reduceAdd, Nat.reduceMul, Nat.reduceEqDiff, Nat.reduceLT, Nat.reduceLeDiff, reduceCtorEq] <;> rfl) ?_
  refine dops_end ?_
  refine awp_cond (by simp only [fwA, ↓reduceIte, Nat.reduceAdd, Nat.reduceMul, Nat.reduceEqDiff, Nat.reduceLT, Nat.reduceLeDiff, reduceCtorEq] <;> rfl) ?_
  by_cases hk : a.kids[i] = b.kids[i]'(by omega)
  rotate_left
  · simp only [hk, decide_false, Bool.not_false, ↓reduceIte]
    refine awp_seq (awp_run rfl (by simp only [fwA, ↓reduceIte, Nat.reduceAdd, Nat.reduceMul, Nat.reduceEqDiff, Nat.reduceLT, Nat.reduceLeDiff, reduceCtorEq] <;> rfl) (awp_ret ?_))
    exact gives_end (.inl rfl) _ (by rw [decide_eq_false (fun e => hk (by subst e; rfl))]; rfl)
  simp only [hk, decide_true, Bool.not_true, Bool.false_eq_true, ↓reduceIte]
  refine awp_skip ?_
  -- region 5
  refine awp_run rfl (by simp only [fwA, ↓reduceIte, Nat.reduceAdd, Nat.reduceMul, Nat.reduceEqDiff, Nat.reduceLT, Nat.reduceLeDiff, reduceCtorEq] <;> rfl) ?_
  exact ⟨i + 1, by omega, ⟨by omega, by rw [List.take_add_one, List.take_add_one, hi.2, ga, gb, hk]⟩, by rw [wrapS i (by omega)]; rfl, rfl, rfl⟩

/-- chancel/chancelref13.Same -/
theorem c21 (Γ : Nat → PV) : ∀ a b : Ty, Gives Tryd.prog Γ 21 [.agg a.enc, .agg b.enc] (.bool (decide (a = b))) := by
  suffices ∀ n, ∀ a, SizeOf.sizeOf a < n → ∀ b : Ty, Gives Tryd.prog Γ 21 [.agg a.enc, .agg b.enc] (.bool (decide (a = b))) from fun a b => this _ a (Nat.lt_succ_self _) b
  intro n
  induction n with
  | zero => intro a ha; omega
  | succ n ih =>
  intro a ha b
  refine fn_of_awp Tryd.func21 rfl (by simp [Tryd.f21]) rfl fun H => ?_
  refine awp_seq ?_
  -- region 0
  refine awp_run rfl (by simp only [fwA, ↓reduceIte, Nat.reduceAdd, Nat.reduceMul, Nat.reduceEqDiff, Nat.reduceLT, Nat.reduceLeDiff, reduceCtorEq] <;> rfl) ?_
  refine awp_seq ?_
  refine awp_seq ?_
  -- region 1
  by_cases h0 : a.kind = b.kind
  rotate_left
  · refine awp_run rfl (by simp only [fwA, ↓reduceIte, Nat.reduceAdd, Nat.reduceMul, Nat.reduceEqDiff, Nat.reduceLT, Nat.reduceLeDiff, reduceCtorEq, fl45_0, ti3, fl45_1, fl45_2, fl45_3, fl45_4, fl45_5, ti43, un43, el43, ti45, Ty.fw, List.length_map, h0, decide_false, decide_true, Bool.not_false, Bool.not_true] <;> rfl) ?_
    refine awp_cond (by simp only [fwA, ↓reduceIte, Nat.reduceAdd, Nat.reduceMul, Nat.reduceEqDiff, Nat.reduceLT, Nat.reduceLeDiff, reduceCtorEq] <;> rfl) ?_
    refine awp_seq (awp_run rfl (by simp only [fwA, ↓reduceIte, Nat.reduceAdd, Nat.reduceMul, Nat.reduceEqDiff, Nat.reduceLT, Nat.reduceLeDiff, reduceCtorEq] <;> rfl) (awp_ret ?_))
    exact gives_end (.inl rfl) _ (by rw [decide_eq_false (fun e => h0 (by rw [e]))]; rfl)
  by_cases h1 : a.l = b.l
  rotate_left
  · refine awp_run rfl (by simp only [fwA, ↓reduceIte, Nat.reduceAdd, Nat.reduceMul, Nat.reduceEqDiff, Nat.reduceLT, Nat.reduceLeDiff, reduceCtorEq, fl45_0, ti3, fl45_1, fl45_2, fl45_3, fl45_4, fl45_5, ti43, un43, el43, ti45, Ty.fw, List.length_map, h0, h1, decide_false, decide_true, Bool.not_false, Bool.not_true] <;> rfl) ?_
    refine awp_cond (by simp only [fwA, ↓reduceIte, Nat.reduceAdd, Nat.reduceMul, Nat.reduceEqDiff, Nat.reduceLT, Nat.reduceLeDiff, reduceCtorEq] <;> rfl) ?_
    refine awp_seq (awp_run rfl (by simp only [fwA, ↓reduceIte, Nat.reduceAdd, Nat.reduceMul, Nat.reduceEqDiff, Nat.reduceLT, Nat.reduceLeDiff, reduceCtorEq] <;> rfl) (awp_ret ?_))
    exact gives_end (.inl rfl) _ (by rw [decide_eq_false (fun e => h1 (by rw [e]))]; rfl)
  by_cases h2 : a.c = b.c
  rotate_left
  · refine awp_run rfl (by simp only [fwA, ↓reduceIte, Nat.reduceAdd, Nat.reduceMul, Nat.reduceEqDiff, Nat.reduceLT, Nat.reduceLeDiff, reduceCtorEq, fl45_0, ti3, fl45_1, fl45_2, fl45_3, fl45_4, fl45_5, ti43, un43, el43, ti45, Ty.fw, List.length_map, h0, h1, h2, decide_false, decide_true, Bool.not_false, Bool.not_true] <;> rfl) ?_
    refine awp_cond (by simp only [fwA, ↓reduceIte, Nat.reduceAdd, Nat.reduceMul, Nat.reduceEqDiff, Nat.reduceLT, Nat.reduceLeDiff, reduceCtorEq] <;> rfl) ?_
    refine awp_seq (awp_run rfl (by simp only [fwA, ↓reduceIte, Nat.reduceAdd, Nat.reduceMul, Nat.reduceEqDiff, Nat.reduceLT, Nat.reduceLeDiff, reduceCtorEq] <;> rfl) (awp_ret ?_))
    exact gives_end (.inl rfl) _ (by rw [decide_eq_false (fun e => h2 (by rw [e]))]; rfl)
  by_cases h3 : a.pc = b.pc
  rotate_left
  · refine awp_run rfl (by simp only [fwA, ↓reduceIte, Nat.reduceAdd, Nat.reduceMul, Nat.reduceEqDiff, Nat.reduceLT, Nat.reduceLeDiff, reduceCtorEq, fl45_0, ti3, fl45_1, fl45_2, fl45_3, fl45_4, fl45_5, ti43, un43, el43, ti45, Ty.fw, List.length_map, h0, h1, h2, h3, decide_false, decide_true, Bool.not_false, Bool.not_true] <;> rfl) ?_
    refine awp_cond (by simp only [fwA, ↓reduceIte, Nat.reduceAdd, Nat.reduceMul, Nat.reduceEqDiff, Nat.reduceLT, Nat.reduceLeDiff, reduceCtorEq] <;> rfl) ?_
    refine awp_seq (awp_run rfl (by simp only [fwA, ↓reduceIte, Nat.reduceAdd, Nat.reduceMul, Nat.reduceEqDiff, Nat.reduceLT, Nat.reduceLeDiff, reduceCtorEq] <;> rfl) (awp_ret ?_))
    exact gives_end (.inl rfl) _ (by rw [decide_eq_false (fun e => h3 (by rw [e]))]; rfl)
  by_cases h4 : a.x = b.x
  rotate_left
  · refine awp_run rfl (by simp only [fwA, ↓reduceIte, Nat.reduceAdd, Nat.reduceMul, Nat.reduceEqDiff, Nat.reduceLT, Nat.reduceLeDiff, reduceCtorEq, fl45_0, ti3, fl45_1, fl45_2, fl45_3, fl45_4, fl45_5, ti43, un43, el43, ti45, Ty.fw, List.length_map, h0, h1, h2, h3, h4, decide_false, decide_true, Bool.not_false, Bool.not_true] <;> rfl) ?_
    refine awp_cond (by simp only [fwA, ↓reduceIte, Nat.reduceAdd, Nat.reduceMul, Nat.reduceEqDiff, Nat.reduceLT, Nat.reduceLeDiff, reduceCtorEq] <;> rfl) ?_
    refine awp_seq (awp_run rfl (by simp only [fwA, ↓reduceIte, Nat.reduceAdd, Nat.reduceMul, Nat.reduceEqDiff, Nat.reduceLT, Nat.reduceLeDiff, reduceCtorEq] <;> rfl) (awp_ret ?_))
    exact gives_end (.inl rfl) _ (by rw [decide_eq_false (fun e => h4 (by rw [e]))]; rfl)
  by_cases h5 : (a.kids.length : Int) = b.kids.length
  rotate_left
  · refine awp_run rfl (by simp only [fwA, ↓reduceIte, Nat.reduceAdd, Nat.reduceMul, Nat.reduceEqDiff, Nat.reduceLT, Nat.reduceLeDiff, reduceCtorEq, fl45_0, ti3, fl45_1, fl45_2, fl45_3, fl45_4, fl45_5, ti43, un43, el43, ti45, Ty.fw, List.length_map, h0, h1, h2, h3, h4, h5, decide_false, decide_true, Bool.not_false, Bool.not_true] <;> rfl) ?_
    refine awp_cond (by simp only [fwA, ↓reduceIte, Nat.reduceAdd, Nat.reduceMul, Nat.reduceEqDiff, Nat.reduceLT, Nat.reduceLeDiff, reduceCtorEq] <;> rfl) ?_
    refine awp_seq (awp_run rfl (by simp only [fwA, ↓reduceIte, Nat.reduceAdd, Nat.reduceMul, Nat.reduceEqDiff, Nat.reduceLT, Nat.reduceLeDiff, reduceCtorEq] <;> rfl) (awp_ret ?_))
    exact gives_end (.inl rfl) _ (by rw [decide_eq_false (fun e => h5 (by rw [e]))]; rfl)
  refine awp_run rfl (by simp only [fwA, ↓reduceIte, Nat.reduceAdd, Nat.reduceMul, Nat.reduceEqDiff, Nat.reduceLT, Nat.reduceLeDiff, reduceCtorEq, fl45_0, ti3, fl45_1, fl45_2, fl45_3, fl45_4, fl45_5, ti43, un43, el43, ti45, Ty.fw, List.length_map, h0, h1, h2, h3, h4, h5, decide_true, Bool.not_true] <;> rfl) ?_
  refine awp_cond (by simp only [fwA, ↓reduceIte, Nat.reduceAdd, Nat.reduceMul, Nat.reduceEqDiff, Nat.reduceLT, Nat.reduceLeDiff, reduceCtorEq] <;> rfl) (awp_skip ?_)
  refine awp_seq ?_
  refine awp_seq ?_
  -- region 3
  refine awp_run rfl (by simp only [fwA, ↓reduceIte, Nat.reduceAdd, Nat.reduceMul, Nat.reduceEqDiff, Nat.reduceLT, Nat.reduceLeDiff, reduceCtorEq] <;> rfl) ?_
  have hl' : a.kids.length = b.kids.length := by omega
  refine awp_block ?_
  refine awp_for [2, 3, 5] (fun i : Nat => [.ptr H.length 0, .ptr (H.length + 1) 0, .int .i64 (i : Int)]) (fun _ => H ++ [.box a.enc, .box b.enc]) (fun i => a.kids.length - i)
    (fun i => i ≤ a.kids.length ∧ a.kids.take i = b.kids.take i) 0 rfl rfl ⟨Nat.zero_le _, rfl⟩ fun i hi => ?_
  refine awp_seq ?_
  refine awp_seq ?_
  -- region 4
  refine awp_run rfl (by simp only [fwA, ↓reduceIte, Nat.reduceAdd, Nat.reduceMul, Nat.reduceEqDiff, Nat.reduceLT, Nat.reduceLeDiff, reduceCtorEq, fl45_0, ti3, fl45_1, fl45_2, fl45_3, fl45_4, fl45_5, ti43, un43, el43, ti45, Ty.fw, List.length_map] <;> rfl) ?_
  refine awp_vlen 50 rfl fun hlen => ?_
  rw [List.length_map] at hlen
  refine awp_cond (by simp only [fwA, ↓reduceIte, Nat.reduceAdd, Nat.reduceMul, Nat.reduceEqDiff, Nat.reduceLT, Nat.reduceLeDiff, reduceCtorEq] <;> rfl) ?_
  by_cases hc : (i : Int) < a.kids.length
  rotate_left
  · simp only [hc, decide_false, Bool.false_eq_true, ↓reduceIte]
    refine awp_exit ?_
    have hi' : i = a.kids.length := by omega
    refine awp_seq (awp_run rfl (by simp only [fwA, ↓reduceIte, Nat.reduceAdd, Nat.reduceMul, Nat.reduceEqDiff, Nat.reduceLT, Nat.reduceLeDiff, reduceCtorEq] <;> rfl) (awp_ret ?_))
    have e : a = b := Ty.ext h0 h1 h2 h3 h4 (by
      have := hi.2
      rwa [hi', List.take_length, hl', List.take_length] at this)
    exact gives_end (.inl rfl) _ (by rw [decide_eq_true e]; rfl)
  simp only [hc, decide_true, ↓reduceIte]
  refine awp_skip ?_
  refine awp_seq ?_
  refine awp_block ?_
  refine awp_seq ?_
  have hia : i < a.kids.length := by omega
  have ga : a.kids[i]? = some a.kids[i] := List.getElem?_eq_getElem hia
  have gb : b.kids[i]? = some (b.kids[i]'(by omega)) := List.getElem?_eq_getElem (by omega)
  -- region 6 drawn
  refine awp_drawn [0, 1, 0, 0, 1, 0, 1, 0, 0, 1, 0, 0] [0, 1, 0, 7, 15, 0, 32, 0, 224, 480, 1023, 2047] mixed rfl (by kernel_rfl) ?_
  refine dops_run 10 (by simp only [fwA, ↓reduceIte, Nat.reduceAdd, Nat.reduceMul, Nat.reduceEqDiff, Nat.reduceLT, Nat.reduceLeDiff, reduceCtorEq, fl45_0, ti3, fl45_1, fl45_2, fl45_3, fl45_4, fl45_5, ti43, un43, el43, ti45, Ty.fw, List.getElem?_map, ga, gb, Option.map_some, Int.natCast_nonneg] <;> rfl) ?_
  refine dops_fn rfl rfl rfl rfl en21 (ih _ (by have := Ty.kids_lt (List.getElem_mem hia); omega) _) ?_
  refine dops_run 1 (by simp only [fwA, ↓reduceIte, Nat.reduceAdd, Nat.reduceMul, Nat.reduceEqDiff, Nat.reduceLT, Nat.reduceLeDiff, reduceCtorEq] <;> rfl) ?_
  refine dops_end ?_
  refine awp_cond (by simp only [fwA, ↓reduceIte, Nat.reduceAdd, Nat.reduceMul, Nat.reduceEqDiff, Nat.reduceLT, Nat.reduceLeDiff, reduceCtorEq] <;> rfl) ?_
  by_cases hk : a.kids[i] = b.kids[i]'(by omega)
  rotate_left
  · simp only [hk, decide_false, Bool.not_false, ↓reduceIte]
    refine awp_seq (awp_run rfl (by simp only [fwA, ↓reduceIte, Nat.reduceAdd, Nat.reduceMul, Nat.reduceEqDiff, Nat.reduceLT, Nat.reduceLeDiff, reduceCtorEq] <;> rfl) (awp_ret ?_))
    exact gives_end (.inl rfl) _ (by rw [decide_eq_false (fun e => hk (by subst e; rfl))]; rfl)
  simp only [hk, decide_true, Bool.not_true, Bool.false_eq_true, ↓reduceIte]
  refine awp_skip ?_
  -- region 5
  refine awp_run rfl (by simp only [fwA, ↓reduceIte, Nat.reduceAdd, Nat.reduceMul, Nat.reduceEqDiff, Nat.reduceLT, Nat.reduceLeDiff, reduceCtorEq] <;> rfl) ?_
  exact ⟨i + 1, by omega, ⟨by omega, by rw [List.take_add_one, List.take_add_one, hi.2, ga, gb, hk]⟩, by rw [wrapS i (by omega)]; rfl, rfl, rfl⟩

/-- chancel/chancellaw13.refShape -/
theorem c16 (Γ : Nat → PV) : ∀ a : Sh, a.Ok → Gives Tryd.prog Γ 16 [.agg a.enc] (.agg a.enc) := by
  suffices ∀ n, ∀ a : Sh, SizeOf.sizeOf a < n → a.Ok → Gives Tryd.prog Γ 16 [.agg a.enc] (.agg a.enc) from fun a => this _ a (Nat.lt_succ_self _)
  intro n
  induction n with
  | zero => intro a ha; omega
  | succ n ih =>
  intro a ha hok
  obtain ⟨_, hk2, hk3⟩ := hok
  refine fn_of_awp Tryd.func16 rfl (by simp [Tryd.f16]) (by simp only [fwA, ↓reduceIte, Nat.reduceAdd, Nat.reduceMul, Nat.reduceEqDiff, Nat.reduceLT, Nat.reduceLeDiff, reduceCtorEq, Sh.fw]) fun H => ?_
  refine awp_seq ?_
  -- region 0
  refine awp_run rfl (by simp only [fwA, ↓reduceIte, Nat.reduceAdd, Nat.reduceMul, Nat.reduceEqDiff, Nat.reduceLT, Nat.reduceLeDiff, reduceCtorEq, ti51, fl26_0, ti3, fl26_1, pl51, fl26_2, ti24, un24, fl51_2, ti49, el24, ti26, un49] <;> rfl) ?_
  refine awp_seq ?_
  -- region 1
  refine awp_run rfl (by simp only [fwA, ↓reduceIte, Nat.reduceAdd, Nat.reduceMul, Nat.reduceEqDiff, Nat.reduceLT, Nat.reduceLeDiff, reduceCtorEq, ti51, fl26_0, ti3, fl26_1, pl51, fl26_2, ti24, un24, fl51_2, ti49, el24, ti26, un49, Sh.fw] <;> rfl) ?_
  refine awp_seq ?_
  refine awp_seq ?_
  -- region 2
  refine awp_run rfl (by simp only [fwA, ↓reduceIte, Nat.reduceAdd, Nat.reduceMul, Nat.reduceEqDiff, Nat.reduceLT, Nat.reduceLeDiff, reduceCtorEq] <;> rfl) ?_
  refine awp_told (told_adoptBox (H.length + 2) 2 3 (by decide) (by simp only [fwA, ↓reduceIte, Nat.reduceAdd, Nat.reduceMul, Nat.reduceEqDiff, Nat.reduceLT, Nat.reduceLeDiff, reduceCtorEq] <;> rfl) rfl) ?_
  refine awp_block ?_
  refine awp_for [1, 2, 3, 4] (fun i : Nat => [.ptr H.length 0, .ptr (H.length + 1) 0, .ptr (H.length + 2) 0, .int .i64 (i : Int)])
    (fun i => H ++ [.box a.enc, .box [.int .i64 0, .int .i64 0, .vec [] true], .box [.int .i64 a.kind, .int .i64 a.n, .row (H.length + 3) 0 i 3], .row 3 ((a.kids.take i).map Sh.enc).flatten])
    (fun i => a.kids.length - i) (fun i => i ≤ a.kids.length) 0 rfl (by simp only [fwA, ↓reduceIte, Nat.reduceAdd, Nat.reduceMul, Nat.reduceEqDiff, Nat.reduceLT, Nat.reduceLeDiff, reduceCtorEq] <;> rfl) (Nat.zero_le _) fun i hi => ?_
  have hti : (a.kids.take i).length = i := by simp; omega
  refine awp_seq ?_
  refine awp_seq ?_
  -- region 3
  refine awp_run rfl (by simp only [fwA, ↓reduceIte, Nat.reduceAdd, Nat.reduceMul, Nat.reduceEqDiff, Nat.reduceLT, Nat.reduceLeDiff, reduceCtorEq, ti51, fl26_0, ti3, fl26_1, pl51, fl26_2, ti24, un24, fl51_2, ti49, el24, ti26, un49, Sh.fw, List.length_map] <;> rfl) ?_
  refine awp_vlen 12 rfl fun hlen => ?_
  rw [List.length_map] at hlen
  refine awp_cond (by simp only [fwA, ↓reduceIte, Nat.reduceAdd, Nat.reduceMul, Nat.reduceEqDiff, Nat.reduceLT, Nat.reduceLeDiff, reduceCtorEq] <;> rfl) ?_
  by_cases hc : (i : Int) < a.kids.length
  rotate_left
  · simp only [hc, decide_false, Bool.false_eq_true, ↓reduceIte]
    refine awp_exit ?_
    have hi' : i = a.kids.length := by omega
    refine awp_told (told_freezeAt H _ 3 (C := ((a.kids.take i).map Sh.enc).flatten) rfl (flat_bd (fun t => by simp only [Sh.fw]) _)) ?_
    have hl : (((a.kids.take i).map Sh.enc).flatten).length = i * 3 := by rw [flat_len Sh.enc_len, hti]
    have hch : chunk 3 i (((a.kids.take i).map Sh.enc).flatten) = (a.kids.take i).map Sh.enc := by
      have := flat_chunk Sh.enc_len (a.kids.take i)
      rwa [hti] at this
    refine awp_seq (awp_run rfl (by simp only [fwA, ↓reduceIte, Nat.reduceAdd, Nat.reduceMul, Nat.reduceEqDiff, Nat.reduceLT, Nat.reduceLeDiff, reduceCtorEq, ti51, fl26_0, ti3, fl26_1, pl51, fl26_2, ti24, un24, fl51_2, ti49, el24, ti26, un49, hl, hch] <;> rfl) (awp_ret ?_))
    refine gives_end (.inl rfl) _ ?_
    rw [Sh.enc_eq]
    simp only [fwA, ↓reduceIte, Nat.reduceAdd, Nat.reduceMul, Nat.reduceEqDiff, Nat.reduceLT, Nat.reduceLeDiff, reduceCtorEq, ares, aresL, ares1, Tryd.f16, ti51, hi', List.take_length]
  simp only [hc, decide_true, ↓reduceIte]
  refine awp_skip ?_
  have hia : i < a.kids.length := by omega
  have ga : a.kids[i]? = some a.kids[i] := List.getElem?_eq_getElem hia
  refine awp_seq ?_
  refine awp_block ?_
  -- region 5 drawn
  refine awp_drawn [0, 1, 0, 1, 0, 0, 1, 0, 0, 2, 0, 2] [0, 1, 0, 4, 0, 28, 60, 124, 252, 511, 1023, 2047] mixed rfl (by kernel_rfl) ?_
  refine dops_run 7 (by simp only [fwA, ↓reduceIte, Nat.reduceAdd, Nat.reduceMul, Nat.reduceEqDiff, Nat.reduceLT, Nat.reduceLeDiff, reduceCtorEq, ti51, fl26_0, ti3, fl26_1, pl51, fl26_2, ti24, un24, fl51_2, ti49, el24, ti26, un49, Sh.fw, List.getElem?_map, ga, Option.map_some, Int.natCast_nonneg] <;> rfl) ?_
  refine dops_fn rfl rfl rfl rfl en16 (ih _ (by have := Sh.kids_lt (List.getElem_mem hia); omega) (hk3 _ (List.getElem_mem hia))) ?_
  refine dops_run 1 (by simp only [fwA, ↓reduceIte, Nat.reduceAdd, Nat.reduceMul, Nat.reduceEqDiff, Nat.reduceLT, Nat.reduceLeDiff, reduceCtorEq, ti51, fl26_0, ti3, fl26_1, pl51, fl26_2, ti24, un24, fl51_2, ti49, el24, ti26, un49, Sh.fw] <;> rfl) ?_
  refine dops_appendR rfl rfl rfl un49 ti51 un49 (.inl ⟨_, rfl⟩) rfl (by simp only [fwA, ↓reduceIte, Nat.reduceAdd, Nat.reduceMul, Nat.reduceEqDiff, Nat.reduceLT, Nat.reduceLeDiff, reduceCtorEq] <;> rfl) (by rw [flat_len Sh.enc_len, hti]; exact (Nat.zero_add _).symm) rfl
    (fun es f h e he => by
      simp only [fwA, ↓reduceIte, Nat.reduceAdd, Nat.reduceMul, Nat.reduceEqDiff, Nat.reduceLT, Nat.reduceLeDiff, reduceCtorEq, PV.vec.injEq] at h
      obtain ⟨rfl, rfl⟩ := h
      simp only [List.mem_singleton] at he
      subst he; exact Sh.enc_len _) rfl (by unfold reachBytes at hk2; show (i + 1) * 40 ≤ _; omega) (by show i + 1 ≤ _; omega) ?_
  refine dops_run 2 (by simp only [fwA, ↓reduceIte, Nat.reduceAdd, Nat.reduceMul, Nat.reduceEqDiff, Nat.reduceLT, Nat.reduceLeDiff, reduceCtorEq, ti51, fl26_0, ti3, fl26_1, pl51, fl26_2, ti24, un24, fl51_2, ti49, el24, ti26, un49] <;> rfl) ?_
  refine dops_end ?_
  -- region 4
  refine awp_run rfl (by simp only [fwA, ↓reduceIte, Nat.reduceAdd, Nat.reduceMul, Nat.reduceEqDiff, Nat.reduceLT, Nat.reduceLeDiff, reduceCtorEq] <;> rfl) ?_
  refine ⟨i + 1, by omega, by omega, by rw [wrapS i (by omega)]; rfl, ?_, rfl⟩
  simp only [flatten_enc Sh.enc _ _ _ ga, List.flatten_cons, List.flatten_nil, List.append_nil]

/-- chancel/chancellaw13.refType -/
theorem c14 (Γ : Nat → PV) : ∀ a : Ty, a.Ok → Gives Tryd.prog Γ 14 [.agg a.enc] (.agg a.enc) := by
  suffices ∀ n, ∀ a : Ty, SizeOf.sizeOf a < n → a.Ok → Gives Tryd.prog Γ 14 [.agg a.enc] (.agg a.enc) from fun a => this _ a (Nat.lt_succ_self _)
  intro n
  induction n with
  | zero => intro a ha; omega
  | succ n ih =>
  intro a ha hok
  obtain ⟨_, hk2, hk3⟩ := hok
  refine fn_of_awp Tryd.func14 rfl (by simp [Tryd.f14]) (by simp only [fwA, ↓reduceIte, Nat.reduceAdd, Nat.reduceMul, Nat.reduceEqDiff, Nat.reduceLT, Nat.reduceLeDiff, reduceCtorEq, Ty.fw]) fun H => ?_
  refine awp_seq ?_
  -- region 0
  refine awp_run rfl (by simp only [fwA, ↓reduceIte, Nat.reduceAdd, Nat.reduceMul, Nat.reduceEqDiff, Nat.reduceLT, Nat.reduceLeDiff, reduceCtorEq, ti45, fl31_0, ti3, fl31_1, ti28, fl31_2, fl31_3, fl31_4, pl45, fl31_5, ti29, un29, fl45_5, ti43, el29, ti31, un43] <;> rfl) ?_
  refine awp_seq ?_
  -- region 1
  refine awp_run rfl (by simp only [fwA, ↓reduceIte, Nat.reduceAdd, Nat.reduceMul, Nat.reduceEqDiff, Nat.reduceLT, Nat.reduceLeDiff, reduceCtorEq, ti45, fl31_0, ti3, fl31_1, ti28, fl31_2, fl31_3, fl31_4, pl45, fl31_5, ti29, un29, fl45_5, ti43, el29, ti31, un43, Ty.fw] <;> rfl) ?_
  refine awp_seq ?_
  refine awp_seq ?_
  -- region 2
  refine awp_run rfl (by simp only [fwA, ↓reduceIte, Nat.reduceAdd, Nat.reduceMul, Nat.reduceEqDiff, Nat.reduceLT, Nat.reduceLeDiff, reduceCtorEq] <;> rfl) ?_
  refine awp_told (told_adoptBox (H.length + 2) 5 6 (by decide) (by simp only [fwA, ↓reduceIte, Nat.reduceAdd, Nat.reduceMul, Nat.reduceEqDiff, Nat.reduceLT, Nat.reduceLeDiff, reduceCtorEq] <;> rfl) rfl) ?_
  refine awp_block ?_
  refine awp_for [1, 2, 3, 4] (fun i : Nat => [.ptr H.length 0, .ptr (H.length + 1) 0, .ptr (H.length + 2) 0, .int .i64 (i : Int)])
    (fun i => H ++ [.box a.enc, .box [.int .i64 0, .int .i64 0, .int .i64 0, .int .i64 0, .int .i64 0, .vec [] true], .box [.int .i64 a.kind, .int .i64 a.l, .int .i64 a.c, .int .i64 a.pc, .int .i64 a.x, .row (H.length + 3) 0 i 6], .row 6 ((a.kids.take i).map Ty.enc).flatten])
    (fun i => a.kids.length - i) (fun i => i ≤ a.kids.length) 0 rfl (by simp only [fwA, ↓reduceIte, Nat.reduceAdd, Nat.reduceMul, Nat.reduceEqDiff, Nat.reduceLT, Nat.reduceLeDiff, reduceCtorEq] <;> rfl) (Nat.zero_le _) fun i hi => ?_
  have hti : (a.kids.take i).length = i := by simp; omega
  refine awp_seq ?_
  refine awp_seq ?_
  -- region 3
  refine awp_run rfl (by simp only [fwA, ↓reduceIte, Nat.reduceAdd, Nat.reduceMul, Nat.reduceEqDiff, Nat.reduceLT, Nat.reduceLeDiff, reduceCtorEq, ti45, fl31_0, ti3, fl31_1, ti28, fl31_2, fl31_3, fl31_4, pl45, fl31_5, ti29, un29, fl45_5, ti43, el29, ti31, un43, Ty.fw, List.length_map] <;> rfl) ?_
  refine awp_vlen 18 rfl fun hlen => ?_
  rw [List.length_map] at hlen
  refine awp_cond (by simp only [fwA, ↓reduceIte, Nat.reduceAdd, Nat.reduceMul, Nat.reduceEqDiff, Nat.reduceLT, Nat.reduceLeDiff, reduceCtorEq] <;> rfl) ?_
  by_cases hc : (i : Int) < a.kids.length
  rotate_left
  · simp only [hc, decide_false, Bool.false_eq_true, ↓reduceIte]
    refine awp_exit ?_
    have hi' : i = a.kids.length := by omega
    refine awp_told (told_freezeAt H _ 3 (C := ((a.kids.take i).map Ty.enc).flatten) rfl (flat_bd (fun t => by simp only [Ty.fw]) _)) ?_
    have hl : (((a.kids.take i).map Ty.enc).flatten).length = i * 6 := by rw [flat_len Ty.enc_len, hti]
    have hch : chunk 6 i (((a.kids.take i).map Ty.enc).flatten) = (a.kids.take i).map Ty.enc := by
      have := flat_chunk Ty.enc_len (a.kids.take i)
      rwa [hti] at this
    refine awp_seq (awp_run rfl (by simp only [fwA, ↓reduceIte, Nat.reduceAdd, Nat.reduceMul, Nat.reduceEqDiff, Nat.reduceLT, Nat.reduceLeDiff, reduceCtorEq, ti45, fl31_0, ti3, fl31_1, ti28, fl31_2, fl31_3, fl31_4, pl45, fl31_5, ti29, un29, fl45_5, ti43, el29, ti31, un43, hl, hch] <;> rfl) (awp_ret ?_))
    refine gives_end (.inl rfl) _ ?_
    rw [Ty.enc_eq]
    simp only [fwA, ↓reduceIte, Nat.reduceAdd, Nat.reduceMul, Nat.reduceEqDiff, Nat.reduceLT, Nat.reduceLeDiff, reduceCtorEq, ares, aresL, ares1, Tryd.f14, ti45, hi', List.take_length]
  simp only [hc, decide_true, ↓reduceIte]
  refine awp_skip ?_
  have hia : i < a.kids.length := by omega
  have ga : a.kids[i]? = some a.kids[i] := List.getElem?_eq_getElem hia
  refine awp_seq ?_
  refine awp_block ?_
  -- region 5 drawn
  refine awp_drawn [0, 1, 0, 1, 0, 0, 1, 0, 0, 2, 0, 2] [0, 1, 0, 4, 0, 28, 60, 124, 252, 511, 1023, 2047] mixed rfl (by kernel_rfl) ?_
  refine dops_run 7 (by simp only [fwA, ↓reduceIte, Nat.reduceAdd, Nat.reduceMul, Nat.reduceEqDiff, Nat.reduceLT, Nat.reduceLeDiff, reduceCtorEq, ti45, fl31_0, ti3, fl31_1, ti28, fl31_2, fl31_3, fl31_4, pl45, fl31_5, ti29, un29, fl45_5, ti43, el29, ti31, un43, Ty.fw, List.getElem?_map, ga, Option.map_some, Int.natCast_nonneg] <;> rfl) ?_
  refine dops_fn rfl rfl rfl rfl en14 (ih _ (by have := Ty.kids_lt (List.getElem_mem hia); omega) (hk3 _ (List.getElem_mem hia))) ?_
  refine dops_run 1 (by simp only [fwA, ↓reduceIte, Nat.reduceAdd, Nat.reduceMul, Nat.reduceEqDiff, Nat.reduceLT, Nat.reduceLeDiff, reduceCtorEq, ti45, fl31_0, ti3, fl31_1, ti28, fl31_2, fl31_3, fl31_4, pl45, fl31_5, ti29, un29, fl45_5, ti43, el29, ti31, un43, Ty.fw] <;> rfl) ?_
  refine dops_appendR rfl rfl rfl un43 ti45 un43 (.inl ⟨_, rfl⟩) rfl (by simp only [fwA, ↓reduceIte, Nat.reduceAdd, Nat.reduceMul, Nat.reduceEqDiff, Nat.reduceLT, Nat.reduceLeDiff, reduceCtorEq] <;> rfl) (by rw [flat_len Ty.enc_len, hti]; exact (Nat.zero_add _).symm) rfl
    (fun es f h e he => by
      simp only [fwA, ↓reduceIte, Nat.reduceAdd, Nat.reduceMul, Nat.reduceEqDiff, Nat.reduceLT, Nat.reduceLeDiff, reduceCtorEq, PV.vec.injEq] at h
      obtain ⟨rfl, rfl⟩ := h
      simp only [List.mem_singleton] at he
      subst he; exact Ty.enc_len _) rfl (by unfold reachBytes at hk2; show (i + 1) * 64 ≤ _; omega) (by show i + 1 ≤ _; omega) ?_
  refine dops_run 2 (by simp only [fwA, ↓reduceIte, Nat.reduceAdd, Nat.reduceMul, Nat.reduceEqDiff, Nat.reduceLT, Nat.reduceLeDiff, reduceCtorEq, ti45, fl31_0, ti3, fl31_1, ti28, fl31_2, fl31_3, fl31_4, pl45, fl31_5, ti29, un29, fl45_5, ti43, el29, ti31, un43] <;> rfl) ?_
  refine dops_end ?_
  -- region 4
  refine awp_run rfl (by simp only [fwA, ↓reduceIte, Nat.reduceAdd, Nat.reduceMul, Nat.reduceEqDiff, Nat.reduceLT, Nat.reduceLeDiff, reduceCtorEq] <;> rfl) ?_
  refine ⟨i + 1, by omega, by omega, by rw [wrapS i (by omega)]; rfl, ?_, rfl⟩
  simp only [flatten_enc Ty.enc _ _ _ ga, List.flatten_cons, List.flatten_nil, List.append_nil]


end Go.Proofs.YtlnffadolfkggaaDoor

/- The contracts of the library's searches and comparisons at shapes and types. -/
namespace Go.Proofs.YtlnffadolfkggaaDoor
set_option linter.unusedVariables false
set_option linter.unusedSimpArgs false
set_option maxRecDepth 100000
open Go.RowKit Fw

/-- slices.EqualFunc, of Ty -/
theorem c49 (Γ : Nat → PV) (f : Nat) (he : Enters Tryd.prog f) (xs ys : List Ty) (h : ∀ x ∈ xs, ∀ y : Ty, Gives Tryd.prog Γ f [.agg x.enc, .agg y.enc] (.bool (decide (x = y)))) :
    Gives Tryd.prog Γ 49 [.vec (xs.map Ty.enc) false, .vec (ys.map Ty.enc) false, .func (.func f) [] []] (.bool (decide (xs = ys))) := by
  refine fn_of_awp Tryd.func49 rfl (by simp [Tryd.f49]) rfl fun H => awp_bd fun hbd => ?_
  refine awp_seq ?_
  -- region 0
  refine awp_run rfl (by simp only [fwA, ↓reduceIte, Nat.reduceAdd, Nat.reduceMul, Nat.reduceEqDiff, Nat.reduceLT, Nat.reduceLeDiff, reduceCtorEq] <;> rfl) ?_
  refine awp_vlen 0 rfl fun hlen => ?_
  rw [List.length_map] at hlen
  refine awp_seq ?_
  refine awp_seq ?_
  -- region 1
  refine awp_run rfl (by simp only [fwA, ↓reduceIte, Nat.reduceAdd, Nat.reduceMul, Nat.reduceEqDiff, Nat.reduceLT, Nat.reduceLeDiff, reduceCtorEq, un29, List.length_map] <;> rfl) ?_
  refine awp_cond (by simp only [fwA, ↓reduceIte, Nat.reduceAdd, Nat.reduceMul, Nat.reduceEqDiff, Nat.reduceLT, Nat.reduceLeDiff, reduceCtorEq] <;> rfl) ?_
  by_cases hl : (xs.length : Int) = ys.length
  rotate_left
  · simp only [hl, decide_false, Bool.not_false, ↓reduceIte]
    refine awp_seq (awp_run rfl (by simp only [fwA, ↓reduceIte, Nat.reduceAdd, Nat.reduceMul, Nat.reduceEqDiff, Nat.reduceLT, Nat.reduceLeDiff, reduceCtorEq] <;> rfl) (awp_ret ?_))
    exact gives_end0 (.inl rfl) (by rw [decide_eq_false (fun e => hl (by rw [e]))]; rfl)
  simp only [hl, decide_true, Bool.not_true, Bool.false_eq_true, ↓reduceIte]
  refine awp_skip ?_
  have hl' : xs.length = ys.length := by omega
  refine awp_seq ?_
  refine awp_seq ?_
  -- region 3
  refine awp_run rfl (by simp only [fwA, ↓reduceIte, Nat.reduceAdd, Nat.reduceMul, Nat.reduceEqDiff, Nat.reduceLT, Nat.reduceLeDiff, reduceCtorEq, un29, List.length_map] <;> rfl) ?_
  refine awp_block ?_
  refine awp_forG [1, 2, 15, 16, 17] (fun i : Nat => [.vec (ys.map Ty.enc) false, .func (.func f) [] [], .vec (xs.map Ty.enc) false, .int .i64 xs.length, .int .i64 (i : Int)]) (fun _ => H) (fun i => xs.length - i)
    (fun i => i ≤ xs.length ∧ xs.take i = ys.take i) 0 rfl rfl ⟨Nat.zero_le _, rfl⟩ (fun i _ => ⟨hbd, rfl⟩) (fun i _ b hb => by cases hb) fun i hi => ?_
  refine awp_seq ?_
  -- region 4
  refine awp_run rfl (by simp only [fwA, ↓reduceIte, Nat.reduceAdd, Nat.reduceMul, Nat.reduceEqDiff, Nat.reduceLT, Nat.reduceLeDiff, reduceCtorEq] <;> rfl) ?_
  refine awp_seq ?_
  refine awp_cond (by simp only [fwA, ↓reduceIte, Nat.reduceAdd, Nat.reduceMul, Nat.reduceEqDiff, Nat.reduceLT, Nat.reduceLeDiff, reduceCtorEq] <;> rfl) ?_
  by_cases hc : (i : Int) < xs.length
  rotate_left
  · simp only [hc, decide_false, Bool.false_eq_true, ↓reduceIte]
    refine awp_exit ?_
    have hi' : i = xs.length := by omega
    refine awp_seq (awp_run rfl (by simp only [fwA, ↓reduceIte, Nat.reduceAdd, Nat.reduceMul, Nat.reduceEqDiff, Nat.reduceLT, Nat.reduceLeDiff, reduceCtorEq] <;> rfl) (awp_ret ?_))
    have e : xs = ys := by
      have := hi.2
      rwa [hi', List.take_length, hl', List.take_length] at this
    exact gives_end0 (.inl rfl) (by rw [decide_eq_true e]; rfl)
  simp only [hc, decide_true, ↓reduceIte]
  refine awp_skip ?_
  have hix : i < xs.length := by omega
  have gx : xs[i]? = some xs[i] := List.getElem?_eq_getElem hix
  have gy : ys[i]? = some (ys[i]'(by omega)) := List.getElem?_eq_getElem (by omega)
  refine awp_seq ?_
  refine awp_block ?_
  refine awp_seq ?_
  -- region 5
  refine awp_run rfl (by simp only [fwA, ↓reduceIte, Nat.reduceAdd, Nat.reduceMul, Nat.reduceEqDiff, Nat.reduceLT, Nat.reduceLeDiff, reduceCtorEq, el29, ti31, Ty.fw, List.getElem?_map, gx, Option.map_some, Int.natCast_nonneg] <;> rfl) ?_
  refine awp_seq ?_
  -- region 6
  refine awp_run rfl (by simp only [fwA, ↓reduceIte, Nat.reduceAdd, Nat.reduceMul, Nat.reduceEqDiff, Nat.reduceLT, Nat.reduceLeDiff, reduceCtorEq, el29, ti31, Ty.fw, List.getElem?_map, gy, Option.map_some, Int.natCast_nonneg] <;> rfl) ?_
  refine awp_seq ?_
  -- region 7
  refine awp_region rfl ?_
  refine aops_run 3 (by simp only [fwA, ↓reduceIte, Nat.reduceAdd, Nat.reduceMul, Nat.reduceEqDiff, Nat.reduceLT, Nat.reduceLeDiff, reduceCtorEq, ti31, Ty.fw] <;> rfl) ?_
  refine aops_fn rfl rfl rfl he (h _ (List.getElem_mem hix) _) ?_
  refine aops_run 1 (by simp only [fwA, ↓reduceIte, Nat.reduceAdd, Nat.reduceMul, Nat.reduceEqDiff, Nat.reduceLT, Nat.reduceLeDiff, reduceCtorEq] <;> rfl) ?_
  refine awp_cond (by simp only [fwA, ↓reduceIte, Nat.reduceAdd, Nat.reduceMul, Nat.reduceEqDiff, Nat.reduceLT, Nat.reduceLeDiff, reduceCtorEq] <;> rfl) ?_
  by_cases hk : xs[i] = ys[i]'(by omega)
  rotate_left
  · simp only [hk, decide_false, Bool.not_false, ↓reduceIte]
    refine awp_seq (awp_run rfl (by simp only [fwA, ↓reduceIte, Nat.reduceAdd, Nat.reduceMul, Nat.reduceEqDiff, Nat.reduceLT, Nat.reduceLeDiff, reduceCtorEq] <;> rfl) (awp_ret ?_))
    exact gives_end (.inl rfl) _ (by rw [decide_eq_false (fun e => hk (by subst e; rfl))]; rfl)
  simp only [hk, decide_true, Bool.not_true, Bool.false_eq_true, ↓reduceIte]
  refine awp_skip ?_
  -- region 9
  refine awp_run rfl (by simp only [fwA, ↓reduceIte, Nat.reduceAdd, Nat.reduceMul, Nat.reduceEqDiff, Nat.reduceLT, Nat.reduceLeDiff, reduceCtorEq] <;> rfl) ?_
  exact ⟨i + 1, _, by omega, ⟨by omega, by rw [List.take_add_one, List.take_add_one, hi.2, gx, gy, hk]⟩, by rw [wrapS i (by omega)]; rfl, rfl, rfl, Nat.le_refl _⟩


/-- chancel/ltype.Same -/
theorem c25 (Γ : Nat → PV) : ∀ a b : Ty, Gives Tryd.prog Γ 25 [.agg a.enc, .agg b.enc] (.bool (decide (a = b))) := by
  suffices ∀ n, ∀ a, SizeOf.sizeOf a < n → ∀ b : Ty, Gives Tryd.prog Γ 25 [.agg a.enc, .agg b.enc] (.bool (decide (a = b))) from fun a b => this _ a (Nat.lt_succ_self _) b
  intro n
  induction n with
  | zero => intro a ha; omega
  | succ n ih =>
  intro a ha b
  refine fn_of_awp Tryd.func25 rfl (by simp [Tryd.f25]) rfl fun H => ?_
  refine awp_seq ?_
  -- region 0
  refine awp_run rfl (by simp only [fwA, ↓reduceIte, Nat.reduceAdd, Nat.reduceMul, Nat.reduceEqDiff, Nat.reduceLT, Nat.reduceLeDiff, reduceCtorEq] <;> rfl) ?_
  refine awp_seq ?_
  -- region 1
  by_cases h0 : a.kind = b.kind
  rotate_left
  · refine awp_region rfl (aops_run 38 (by simp only [fwA, ↓reduceIte, Nat.reduceAdd, Nat.reduceMul, Nat.reduceEqDiff, Nat.reduceLT, Nat.reduceLeDiff, reduceCtorEq, fl31_0, ti3, fl31_1, ti28, fl31_2, fl31_3, fl31_4, fl31_5, ti29, Ty.fw, h0, decide_false, decide_true] <;> rfl) (aops_run 3 (by simp only [fwA, ↓reduceIte, Nat.reduceAdd, Nat.reduceMul, Nat.reduceEqDiff, Nat.reduceLT, Nat.reduceLeDiff, reduceCtorEq] <;> rfl) (awp_ret ?_)))
    exact gives_end (.inl rfl) _ (by rw [decide_eq_false (fun e => h0 (by rw [e]))]; rfl)
  by_cases h1 : a.l = b.l
  rotate_left
  · refine awp_region rfl (aops_run 38 (by simp only [fwA, ↓reduceIte, Nat.reduceAdd, Nat.reduceMul, Nat.reduceEqDiff, Nat.reduceLT, Nat.reduceLeDiff, reduceCtorEq, fl31_0, ti3, fl31_1, ti28, fl31_2, fl31_3, fl31_4, fl31_5, ti29, Ty.fw, h0, h1, decide_false, decide_true] <;> rfl) (aops_run 3 (by simp only [fwA, ↓reduceIte, Nat.reduceAdd, Nat.reduceMul, Nat.reduceEqDiff, Nat.reduceLT, Nat.reduceLeDiff, reduceCtorEq] <;> rfl) (awp_ret ?_)))
    exact gives_end (.inl rfl) _ (by rw [decide_eq_false (fun e => h1 (by rw [e]))]; rfl)
  by_cases h2 : a.c = b.c
  rotate_left
  · refine awp_region rfl (aops_run 38 (by simp only [fwA, ↓reduceIte, Nat.reduceAdd, Nat.reduceMul, Nat.reduceEqDiff, Nat.reduceLT, Nat.reduceLeDiff, reduceCtorEq, fl31_0, ti3, fl31_1, ti28, fl31_2, fl31_3, fl31_4, fl31_5, ti29, Ty.fw, h0, h1, h2, decide_false, decide_true] <;> rfl) (aops_run 3 (by simp only [fwA, ↓reduceIte, Nat.reduceAdd, Nat.reduceMul, Nat.reduceEqDiff, Nat.reduceLT, Nat.reduceLeDiff, reduceCtorEq] <;> rfl) (awp_ret ?_)))
    exact gives_end (.inl rfl) _ (by rw [decide_eq_false (fun e => h2 (by rw [e]))]; rfl)
  by_cases h3 : a.pc = b.pc
  rotate_left
  · refine awp_region rfl (aops_run 38 (by simp only [fwA, ↓reduceIte, Nat.reduceAdd, Nat.reduceMul, Nat.reduceEqDiff, Nat.reduceLT, Nat.reduceLeDiff, reduceCtorEq, fl31_0, ti3, fl31_1, ti28, fl31_2, fl31_3, fl31_4, fl31_5, ti29, Ty.fw, h0, h1, h2, h3, decide_false, decide_true] <;> rfl) (aops_run 3 (by simp only [fwA, ↓reduceIte, Nat.reduceAdd, Nat.reduceMul, Nat.reduceEqDiff, Nat.reduceLT, Nat.reduceLeDiff, reduceCtorEq] <;> rfl) (awp_ret ?_)))
    exact gives_end (.inl rfl) _ (by rw [decide_eq_false (fun e => h3 (by rw [e]))]; rfl)
  by_cases h4 : a.x = b.x
  rotate_left
  · refine awp_region rfl (aops_run 38 (by simp only [fwA, ↓reduceIte, Nat.reduceAdd, Nat.reduceMul, Nat.reduceEqDiff, Nat.reduceLT, Nat.reduceLeDiff, reduceCtorEq, fl31_0, ti3, fl31_1, ti28, fl31_2, fl31_3, fl31_4, fl31_5, ti29, Ty.fw, h0, h1, h2, h3, h4, decide_false, decide_true] <;> rfl) (aops_run 3 (by simp only [fwA, ↓reduceIte, Nat.reduceAdd, Nat.reduceMul, Nat.reduceEqDiff, Nat.reduceLT, Nat.reduceLeDiff, reduceCtorEq] <;> rfl) (awp_ret ?_)))
    exact gives_end (.inl rfl) _ (by rw [decide_eq_false (fun e => h4 (by rw [e]))]; rfl)
  refine awp_region rfl ?_
  refine aops_run 38 (by simp only [fwA, ↓reduceIte, Nat.reduceAdd, Nat.reduceMul, Nat.reduceEqDiff, Nat.reduceLT, Nat.reduceLeDiff, reduceCtorEq, fl31_0, ti3, fl31_1, ti28, fl31_2, fl31_3, fl31_4, fl31_5, ti29, Ty.fw, h0, h1, h2, h3, h4, decide_true] <;> rfl) ?_
  refine aops_fnIf rfl rfl rfl rfl rfl en49 (c49 Γ 25 en25 a.kids b.kids (fun x hx y => ih x (by have := Ty.kids_lt hx; omega) y)) ?_
  refine aops_run 2 (by simp only [fwA, ↓reduceIte, Nat.reduceAdd, Nat.reduceMul, Nat.reduceEqDiff, Nat.reduceLT, Nat.reduceLeDiff, reduceCtorEq] <;> rfl) ?_
  refine awp_ret ?_
  refine gives_end (.inl rfl) _ ?_
  by_cases hk : a.kids = b.kids
  · rw [decide_eq_true (Ty.ext h0 h1 h2 h3 h4 hk)]; simp [ares, aresL, ares1, alook, Tryd.f25, hk]
  · have e1 : decide (a = b) = false := decide_eq_false (fun e => hk (by rw [e]))
    rw [e1]; simp [ares, aresL, ares1, alook, Tryd.f25, hk]

/-- slices.EqualFunc, of Sh -/
theorem c55 (Γ : Nat → PV) (f : Nat) (he : Enters Tryd.prog f) (xs ys : List Sh) (h : ∀ x ∈ xs, ∀ y : Sh, Gives Tryd.prog Γ f [.agg x.enc, .agg y.enc] (.bool (decide (x = y)))) :
    Gives Tryd.prog Γ 55 [.vec (xs.map Sh.enc) false, .vec (ys.map Sh.enc) false, .func (.func f) [] []] (.bool (decide (xs = ys))) := by
  refine fn_of_awp Tryd.func55 rfl (by simp [Tryd.f55]) rfl fun H => awp_bd fun hbd => ?_
  refine awp_seq ?_
  -- region 0
  refine awp_run rfl (by simp only [fwA, ↓reduceIte, Nat.reduceAdd, Nat.reduceMul, Nat.reduceEqDiff, Nat.reduceLT, Nat.reduceLeDiff, reduceCtorEq] <;> rfl) ?_
  refine awp_vlen 0 rfl fun hlen => ?_
  rw [List.length_map] at hlen
  refine awp_seq ?_
  refine awp_seq ?_
  -- region 1
  refine awp_run rfl (by simp only [fwA, ↓reduceIte, Nat.reduceAdd, Nat.reduceMul, Nat.reduceEqDiff, Nat.reduceLT, Nat.reduceLeDiff, reduceCtorEq, un24, List.length_map] <;> rfl) ?_
  refine awp_cond (by simp only [fwA, ↓reduceIte, Nat.reduceAdd, Nat.reduceMul, Nat.reduceEqDiff, Nat.reduceLT, Nat.reduceLeDiff, reduceCtorEq] <;> rfl) ?_
  by_cases hl : (xs.length : Int) = ys.length
  rotate_left
  · simp only [hl, decide_false, Bool.not_false, ↓reduceIte]
    refine awp_seq (awp_run rfl (by simp only [fwA, ↓reduceIte, Nat.reduceAdd, Nat.reduceMul, Nat.reduceEqDiff, Nat.reduceLT, Nat.reduceLeDiff, reduceCtorEq] <;> rfl) (awp_ret ?_))
    exact gives_end0 (.inl rfl) (by rw [decide_eq_false (fun e => hl (by rw [e]))]; rfl)
  simp only [hl, decide_true, Bool.not_true, Bool.false_eq_true, ↓reduceIte]
  refine awp_skip ?_
  have hl' : xs.length = ys.length := by omega
  refine awp_seq ?_
  refine awp_seq ?_
  -- region 3
  refine awp_run rfl (by simp only [fwA, ↓reduceIte, Nat.reduceAdd, Nat.reduceMul, Nat.reduceEqDiff, Nat.reduceLT, Nat.reduceLeDiff, reduceCtorEq, un24, List.length_map] <;> rfl) ?_
  refine awp_block ?_
  refine awp_forG [1, 2, 15, 16, 17] (fun i : Nat => [.vec (ys.map Sh.enc) false, .func (.func f) [] [], .vec (xs.map Sh.enc) false, .int .i64 xs.length, .int .i64 (i : Int)]) (fun _ => H) (fun i => xs.length - i)
    (fun i => i ≤ xs.length ∧ xs.take i = ys.take i) 0 rfl rfl ⟨Nat.zero_le _, rfl⟩ (fun i _ => ⟨hbd, rfl⟩) (fun i _ b hb => by cases hb) fun i hi => ?_
  refine awp_seq ?_
  -- region 4
  refine awp_run rfl (by simp only [fwA, ↓reduceIte, Nat.reduceAdd, Nat.reduceMul, Nat.reduceEqDiff, Nat.reduceLT, Nat.reduceLeDiff, reduceCtorEq] <;> rfl) ?_
  refine awp_seq ?_
  refine awp_cond (by simp only [fwA, ↓reduceIte, Nat.reduceAdd, Nat.reduceMul, Nat.reduceEqDiff, Nat.reduceLT, Nat.reduceLeDiff, reduceCtorEq] <;> rfl) ?_
  by_cases hc : (i : Int) < xs.length
  rotate_left
  · simp only [hc, decide_false, Bool.false_eq_true, ↓reduceIte]
    refine awp_exit ?_
    have hi' : i = xs.length := by omega
    refine awp_seq (awp_run rfl (by simp only [fwA, ↓reduceIte, Nat.reduceAdd, Nat.reduceMul, Nat.reduceEqDiff, Nat.reduceLT, Nat.reduceLeDiff, reduceCtorEq] <;> rfl) (awp_ret ?_))
    have e : xs = ys := by
      have := hi.2
      rwa [hi', List.take_length, hl', List.take_length] at this
    exact gives_end0 (.inl rfl) (by rw [decide_eq_true e]; rfl)
  simp only [hc, decide_true, ↓reduceIte]
  refine awp_skip ?_
  have hix : i < xs.length := by omega
  have gx : xs[i]? = some xs[i] := List.getElem?_eq_getElem hix
  have gy : ys[i]? = some (ys[i]'(by omega)) := List.getElem?_eq_getElem (by omega)
  refine awp_seq ?_
  refine awp_block ?_
  refine awp_seq ?_
  -- region 5
  refine awp_run rfl (by simp only [fwA, ↓reduceIte, Nat.reduceAdd, Nat.reduceMul, Nat.reduceEqDiff, Nat.reduceLT, Nat.reduceLeDiff, reduceCtorEq, el24, ti26, Sh.fw, List.getElem?_map, gx, Option.map_some, Int.natCast_nonneg] <;> rfl) ?_
  refine awp_seq ?_
  -- region 6
  refine awp_run rfl (by simp only [fwA, ↓reduceIte, Nat.reduceAdd, Nat.reduceMul, Nat.reduceEqDiff, Nat.reduceLT, Nat.reduceLeDiff, reduceCtorEq, el24, ti26, Sh.fw, List.getElem?_map, gy, Option.map_some, Int.natCast_nonneg] <;> rfl) ?_
  refine awp_seq ?_
  -- region 7
  refine awp_region rfl ?_
  refine aops_run 3 (by simp only [fwA, ↓reduceIte, Nat.reduceAdd, Nat.reduceMul, Nat.reduceEqDiff, Nat.reduceLT, Nat.reduceLeDiff, reduceCtorEq, ti26, Sh.fw] <;> rfl) ?_
  refine aops_fn rfl rfl rfl he (h _ (List.getElem_mem hix) _) ?_
  refine aops_run 1 (by simp only [fwA, ↓reduceIte, Nat.reduceAdd, Nat.reduceMul, Nat.reduceEqDiff, Nat.reduceLT, Nat.reduceLeDiff, reduceCtorEq] <;> rfl) ?_
  refine awp_cond (by simp only [fwA, ↓reduceIte, Nat.reduceAdd, Nat.reduceMul, Nat.reduceEqDiff, Nat.reduceLT, Nat.reduceLeDiff, reduceCtorEq] <;> rfl) ?_
  by_cases hk : xs[i] = ys[i]'(by omega)
  rotate_left
  · simp only [hk, decide_false, Bool.not_false, ↓reduceIte]
    refine awp_seq (awp_run rfl (by simp only [fwA, ↓reduceIte, Nat.reduceAdd, Nat.reduceMul, Nat.reduceEqDiff, Nat.reduceLT, Nat.reduceLeDiff, reduceCtorEq] <;> rfl) (awp_ret ?_))
    exact gives_end (.inl rfl) _ (by rw [decide_eq_false (fun e => hk (by subst e; rfl))]; rfl)
  simp only [hk, decide_true, Bool.not_true, Bool.false_eq_true, ↓reduceIte]
  refine awp_skip ?_
  -- region 9
  refine awp_run rfl (by simp only [fwA, ↓reduceIte, Nat.reduceAdd, Nat.reduceMul, Nat.reduceEqDiff, Nat.reduceLT, Nat.reduceLeDiff, reduceCtorEq] <;> rfl) ?_
  exact ⟨i + 1, _, by omega, ⟨by omega, by rw [List.take_add_one, List.take_add_one, hi.2, gx, gy, hk]⟩, by rw [wrapS i (by omega)]; rfl, rfl, rfl, Nat.le_refl _⟩


/-- chancel/shape.Same -/
theorem c35 (Γ : Nat → PV) : ∀ a b : Sh, Gives Tryd.prog Γ 35 [.agg a.enc, .agg b.enc] (.bool (decide (a = b))) := by
  suffices ∀ n, ∀ a, SizeOf.sizeOf a < n → ∀ b : Sh, Gives Tryd.prog Γ 35 [.agg a.enc, .agg b.enc] (.bool (decide (a = b))) from fun a b => this _ a (Nat.lt_succ_self _) b
  intro n
  induction n with
  | zero => intro a ha; omega
  | succ n ih =>
  intro a ha b
  refine fn_of_awp Tryd.func35 rfl (by simp [Tryd.f35]) rfl fun H => ?_
  refine awp_seq ?_
  -- region 0
  refine awp_run rfl (by simp only [fwA, ↓reduceIte, Nat.reduceAdd, Nat.reduceMul, Nat.reduceEqDiff, Nat.reduceLT, Nat.reduceLeDiff, reduceCtorEq] <;> rfl) ?_
  refine awp_seq ?_
  -- region 1
  by_cases h0 : a.kind = b.kind
  rotate_left
  · refine awp_region rfl (aops_run 17 (by simp only [fwA, ↓reduceIte, Nat.reduceAdd, Nat.reduceMul, Nat.reduceEqDiff, Nat.reduceLT, Nat.reduceLeDiff, reduceCtorEq, fl26_0, ti3, fl26_1, fl26_2, ti24, Sh.fw, h0, decide_false, decide_true] <;> rfl) (aops_run 3 (by simp only [fwA, ↓reduceIte, Nat.reduceAdd, Nat.reduceMul, Nat.reduceEqDiff, Nat.reduceLT, Nat.reduceLeDiff, reduceCtorEq] <;> rfl) (awp_ret ?_)))
    exact gives_end (.inl rfl) _ (by rw [decide_eq_false (fun e => h0 (by rw [e]))]; rfl)
  by_cases h1 : a.n = b.n
  rotate_left
  · refine awp_region rfl (aops_run 17 (by simp only [fwA, ↓reduceIte, Nat.reduceAdd, Nat.reduceMul, Nat.reduceEqDiff, Nat.reduceLT, Nat.reduceLeDiff, reduceCtorEq, fl26_0, ti3, fl26_1, fl26_2, ti24, Sh.fw, h0, h1, decide_false, decide_true] <;> rfl) (aops_run 3 (by simp only [fwA, ↓reduceIte, Nat.reduceAdd, Nat.reduceMul, Nat.reduceEqDiff, Nat.reduceLT, Nat.reduceLeDiff, reduceCtorEq] <;> rfl) (awp_ret ?_)))
    exact gives_end (.inl rfl) _ (by rw [decide_eq_false (fun e => h1 (by rw [e]))]; rfl)
  refine awp_region rfl ?_
  refine aops_run 17 (by simp only [fwA, ↓reduceIte, Nat.reduceAdd, Nat.reduceMul, Nat.reduceEqDiff, Nat.reduceLT, Nat.reduceLeDiff, reduceCtorEq, fl26_0, ti3, fl26_1, fl26_2, ti24, Sh.fw, h0, h1, decide_true] <;> rfl) ?_
  refine aops_fnIf rfl rfl rfl rfl rfl en55 (c55 Γ 35 en35 a.kids b.kids (fun x hx y => ih x (by have := Sh.kids_lt hx; omega) y)) ?_
  refine aops_run 2 (by simp only [fwA, ↓reduceIte, Nat.reduceAdd, Nat.reduceMul, Nat.reduceEqDiff, Nat.reduceLT, Nat.reduceLeDiff, reduceCtorEq] <;> rfl) ?_
  refine awp_ret ?_
  refine gives_end (.inl rfl) _ ?_
  by_cases hk : a.kids = b.kids
  · rw [decide_eq_true (Sh.ext h0 h1 hk)]; simp [ares, aresL, ares1, alook, Tryd.f35, hk]
  · have e1 : decide (a = b) = false := decide_eq_false (fun e => hk (by rw [e]))
    rw [e1]; simp [ares, aresL, ares1, alook, Tryd.f35, hk]

/-- slices.IndexFunc[[]chancel/ltype.Type,chancel/ltype.Type] -/
theorem c62 (Γ : Nat → PV) (f : Nat) (he : Enters Tryd.prog f) (caps : List PV) (l : List Ty) (S Z : Nat → List Blk → Prop)
    (hS : ∀ (i : Nat) (x : Ty) (H : List Blk), l[i]? = some x → S i H → ACalls Tryd.prog Γ f ([.agg (Ty.enc x)] ++ caps) H (fun p H' => p = .bool false ∧ S (i + 1) H' ∨ p = .bool true ∧ Z i H')) (H : List Blk) (h0 : S 0 H) :
    ACalls Tryd.prog Γ 62 [.vec (l.map Ty.enc) false, .func (.func f) [] caps] H (fun p H' => H.length ≤ H'.length ∧ (p = .int .i64 (-1) ∧ S l.length H' ∨ ∃ i : Nat, p = .int .i64 i ∧ Z i H')) := by
  refine acalls_of_awp Tryd.func62 rfl (by simp [Tryd.f62]) fun hbd => ?_
  refine awp_seq ?_
  refine awp_run rfl (by simp only [fwA, ↓reduceIte, Nat.reduceAdd, Nat.reduceMul, Nat.reduceEqDiff, Nat.reduceLT, Nat.reduceLeDiff, reduceCtorEq] <;> rfl) ?_
  refine awp_vlen 0 rfl fun hlen => ?_
  rw [List.length_map] at hlen
  refine awp_seq ?_
  refine awp_seq ?_
  refine awp_run rfl (by simp only [fwA, ↓reduceIte, Nat.reduceAdd, Nat.reduceMul, Nat.reduceEqDiff, Nat.reduceLT, Nat.reduceLeDiff, reduceCtorEq, un29, List.length_map] <;> rfl) ?_
  refine awp_block ?_
  refine awp_for [0, 1, 7, 8] (fun s : Nat × List Blk => [.vec (l.map Ty.enc) false, .func (.func f) [] caps, .int .i64 l.length, .int .i64 (s.1 : Int)]) (fun s => s.2) (fun s => l.length - s.1)
    (fun s => s.1 ≤ l.length ∧ S s.1 s.2 ∧ H.length ≤ s.2.length) (0, H) rfl rfl ⟨Nat.zero_le _, h0, Nat.le_refl _⟩ fun s hs => ?_
  obtain ⟨i, Hi⟩ := s
  obtain ⟨hi, hSi, hn⟩ := hs
  dsimp only at hi hSi hn ⊢
  refine awp_seq ?_
  refine awp_run rfl (by simp only [fwA, ↓reduceIte, Nat.reduceAdd, Nat.reduceMul, Nat.reduceEqDiff, Nat.reduceLT, Nat.reduceLeDiff, reduceCtorEq] <;> rfl) ?_
  refine awp_seq ?_
  refine awp_cond (by simp only [fwA, ↓reduceIte, Nat.reduceAdd, Nat.reduceMul, Nat.reduceEqDiff, Nat.reduceLT, Nat.reduceLeDiff, reduceCtorEq] <;> rfl) ?_
  by_cases hc : (i : Int) < l.length
  rotate_left
  · simp only [hc, decide_false, Bool.false_eq_true, ↓reduceIte]
    refine awp_exit ?_
    have hie : i = l.length := by omega
    subst hie
    refine awp_bd fun hbd' => ?_
    refine awp_seq (awp_run rfl (by simp only [fwA, ↓reduceIte, Nat.reduceAdd, Nat.reduceMul, Nat.reduceEqDiff, Nat.reduceLT, Nat.reduceLeDiff, reduceCtorEq] <;> rfl) (awp_ret ?_))
    exact calls_at (p := .int .i64 (-1)) (.inl rfl) hbd' rfl rfl hn ⟨hn, .inl ⟨rfl, hSi⟩⟩
  simp only [hc, decide_true, ↓reduceIte]
  refine awp_skip ?_
  have hia : i < l.length := by omega
  have ga : l[i]? = some l[i] := List.getElem?_eq_getElem hia
  refine awp_seq ?_
  refine awp_block ?_
  refine awp_seq ?_
  refine awp_run rfl (by simp only [fwA, ↓reduceIte, Nat.reduceAdd, Nat.reduceMul, Nat.reduceEqDiff, Nat.reduceLT, Nat.reduceLeDiff, reduceCtorEq] <;> rfl) ?_
  refine awp_seq ?_
  refine awp_region rfl ?_
  refine aops_run 5 (by simp only [fwA, ↓reduceIte, Nat.reduceAdd, Nat.reduceMul, Nat.reduceEqDiff, Nat.reduceLT, Nat.reduceLeDiff, reduceCtorEq, el29, ti31, Ty.fw, List.getElem?_map, ga, Option.map_some, Int.natCast_nonneg] <;> rfl) ?_
  refine aops_call rfl rfl rfl he ((hS i l[i] Hi ga hSi).lenLe.mono fun p H' hp => ?_)
  obtain ⟨hp, hn'⟩ := hp
  rcases hp with ⟨rfl, hS'⟩ | ⟨rfl, hZ⟩
  · refine awp_cond (b := false) (by simp only [fwA, ↓reduceIte, Nat.reduceAdd, Nat.reduceMul, Nat.reduceEqDiff, Nat.reduceLT, Nat.reduceLeDiff, reduceCtorEq] <;> rfl) ?_
    refine awp_skip ?_
    refine awp_run rfl (by simp only [fwA, ↓reduceIte, Nat.reduceAdd, Nat.reduceMul, Nat.reduceEqDiff, Nat.reduceLT, Nat.reduceLeDiff, reduceCtorEq] <;> rfl) ?_
    exact ⟨(i + 1, H'), by dsimp only; omega, ⟨by dsimp only; omega, hS', by dsimp only; omega⟩, by rw [wrapS i (by omega)]; rfl, rfl, rfl⟩
  · refine awp_cond (b := true) (by simp only [fwA, ↓reduceIte, Nat.reduceAdd, Nat.reduceMul, Nat.reduceEqDiff, Nat.reduceLT, Nat.reduceLeDiff, reduceCtorEq] <;> rfl) ?_
    refine awp_bd fun hbd' => ?_
    refine awp_seq (awp_run rfl (by simp only [fwA, ↓reduceIte, Nat.reduceAdd, Nat.reduceMul, Nat.reduceEqDiff, Nat.reduceLT, Nat.reduceLeDiff, reduceCtorEq] <;> rfl) (awp_ret ?_))
    simp only [Post.block, Post.then]
    refine calls_at (p := .int .i64 (i : Int)) (.inl rfl) hbd' ?_ rfl (by omega) ⟨by omega, .inr ⟨i, rfl, hZ⟩⟩
    rfl

/-- slices.ContainsFunc[[]chancel/ltype.Type,chancel/ltype.Type] -/
theorem c47 (Γ : Nat → PV) (f : Nat) (he : Enters Tryd.prog f) (caps : List PV) (l : List Ty) (S Z : Nat → List Blk → Prop)
    (hS : ∀ (i : Nat) (x : Ty) (H : List Blk), l[i]? = some x → S i H → ACalls Tryd.prog Γ f ([.agg (Ty.enc x)] ++ caps) H (fun p H' => p = .bool false ∧ S (i + 1) H' ∨ p = .bool true ∧ Z i H')) (H : List Blk) (h0 : S 0 H) :
    ACalls Tryd.prog Γ 47 [.vec (l.map Ty.enc) false, .func (.func f) [] caps] H (fun p H' => H.length ≤ H'.length ∧ (p = .bool false ∧ S l.length H' ∨ p = .bool true ∧ ∃ i : Nat, Z i H')) := by
  refine acalls_of_awp Tryd.func47 rfl (by simp [Tryd.f47]) fun hbd => ?_
  refine awp_seq ?_
  refine awp_run rfl (by simp only [fwA, ↓reduceIte, Nat.reduceAdd, Nat.reduceMul, Nat.reduceEqDiff, Nat.reduceLT, Nat.reduceLeDiff, reduceCtorEq] <;> rfl) ?_
  refine awp_seq ?_
  refine awp_region rfl ?_
  refine aops_run 2 (by simp only [fwA, ↓reduceIte, Nat.reduceAdd, Nat.reduceMul, Nat.reduceEqDiff, Nat.reduceLT, Nat.reduceLeDiff, reduceCtorEq] <;> rfl) ?_
  refine aops_call rfl rfl rfl en62 ((c62 Γ f he caps l S Z hS H h0).mono fun p H' hp => ?_)
  obtain ⟨hn, hp⟩ := hp
  rcases hp with ⟨rfl, hS'⟩ | ⟨i, rfl, hZ⟩
  · refine aops_run 2 (by simp only [fwA, ↓reduceIte, Nat.reduceAdd, Nat.reduceMul, Nat.reduceEqDiff, Nat.reduceLT, Nat.reduceLeDiff, reduceCtorEq] <;> rfl) ?_
    refine awp_bd fun hbd' => ?_
    refine awp_ret ?_
    exact calls_at (p := .bool false) (.inl rfl) hbd' rfl rfl hn ⟨hn, .inl ⟨rfl, hS'⟩⟩
  · refine aops_run 2 (by simp only [fwA, ↓reduceIte, Nat.reduceAdd, Nat.reduceMul, Nat.reduceEqDiff, Nat.reduceLT, Nat.reduceLeDiff, reduceCtorEq, ge_iff_le, Int.natCast_nonneg, decide_true] <;> rfl) ?_
    refine awp_bd fun hbd' => ?_
    refine awp_ret ?_
    exact calls_at (p := .bool true) (.inl rfl) hbd' rfl rfl hn ⟨hn, .inr ⟨rfl, i, hZ⟩⟩

theorem c47p (Γ : Nat → PV) (f : Nat) (he : Enters Tryd.prog f) (caps : List PV) (l : List Ty) (P : Ty → Bool) (h : ∀ x ∈ l, Gives Tryd.prog Γ f ([.agg (Ty.enc x)] ++ caps) (.bool (P x))) :
    Gives Tryd.prog Γ 47 [.vec (l.map Ty.enc) false, .func (.func f) [] caps] (.bool (l.any P)) := fun H => by
  refine (c47 Γ f he caps l (fun i H' => H' = H ∧ (l.take i).any P = false) (fun _ H' => H' = H ∧ l.any P = true) (fun i x H2 hx hs => ?_) H ⟨rfl, by simp⟩).mono fun p H' hp => ?_
  · obtain ⟨rfl, hs⟩ := hs
    refine (h x (List.mem_of_getElem? hx) H2).mono fun p H' hp => ?_
    obtain ⟨rfl, rfl⟩ := hp
    cases hP : P x with
    | false => exact .inl ⟨rfl, rfl, by rw [List.take_add_one, hx, List.any_append, hs]; simp [hP]⟩
    | true => exact .inr ⟨rfl, rfl, List.any_eq_true.2 ⟨x, List.mem_of_getElem? hx, hP⟩⟩
  · rcases hp.2 with ⟨rfl, rfl, hs⟩ | ⟨rfl, i, rfl, hz⟩
    · rw [List.take_length] at hs; exact ⟨by rw [hs], rfl⟩
    · exact ⟨by rw [hz], rfl⟩

/-- slices.IndexFunc[[]chancel/shape.Shape,chancel/shape.Shape] -/
theorem c71 (Γ : Nat → PV) (f : Nat) (he : Enters Tryd.prog f) (caps : List PV) (l : List Sh) (S Z : Nat → List Blk → Prop)
    (hS : ∀ (i : Nat) (x : Sh) (H : List Blk), l[i]? = some x → S i H → ACalls Tryd.prog Γ f ([.agg (Sh.enc x)] ++ caps) H (fun p H' => p = .bool false ∧ S (i + 1) H' ∨ p = .bool true ∧ Z i H')) (H : List Blk) (h0 : S 0 H) :
    ACalls Tryd.prog Γ 71 [.vec (l.map Sh.enc) false, .func (.func f) [] caps] H (fun p H' => H.length ≤ H'.length ∧ (p = .int .i64 (-1) ∧ S l.length H' ∨ ∃ i : Nat, p = .int .i64 i ∧ Z i H')) := by
  refine acalls_of_awp Tryd.func71 rfl (by simp [Tryd.f71]) fun hbd => ?_
  refine awp_seq ?_
  refine awp_run rfl (by simp only [fwA, ↓reduceIte, Nat.reduceAdd, Nat.reduceMul, Nat.reduceEqDiff, Nat.reduceLT, Nat.reduceLeDiff, reduceCtorEq] <;> rfl) ?_
  refine awp_vlen 0 rfl fun hlen => ?_
  rw [List.length_map] at hlen
  refine awp_seq ?_
  refine awp_seq ?_
  refine awp_run rfl (by simp only [fwA, ↓reduceIte, Nat.reduceAdd, Nat.reduceMul, Nat.reduceEqDiff, Nat.reduceLT, Nat.reduceLeDiff, reduceCtorEq, un24, List.length_map] <;> rfl) ?_
  refine awp_block ?_
  refine awp_for [0, 1, 7, 8] (fun s : Nat × List Blk => [.vec (l.map Sh.enc) false, .func (.func f) [] caps, .int .i64 l.length, .int .i64 (s.1 : Int)]) (fun s => s.2) (fun s => l.length - s.1)
    (fun s => s.1 ≤ l.length ∧ S s.1 s.2 ∧ H.length ≤ s.2.length) (0, H) rfl rfl ⟨Nat.zero_le _, h0, Nat.le_refl _⟩ fun s hs => ?_
  obtain ⟨i, Hi⟩ := s
  obtain ⟨hi, hSi, hn⟩ := hs
  dsimp only at hi hSi hn ⊢
  refine awp_seq ?_
  refine awp_run rfl (by simp only [fwA, ↓reduceIte, Nat.reduceAdd, Nat.reduceMul, Nat.reduceEqDiff, Nat.reduceLT, Nat.reduceLeDiff, reduceCtorEq] <;> rfl) ?_
  refine awp_seq ?_
  refine awp_cond (by simp only [fwA, ↓reduceIte, Nat.reduceAdd, Nat.reduceMul, Nat.reduceEqDiff, Nat.reduceLT, Nat.reduceLeDiff, reduceCtorEq] <;> rfl) ?_
  by_cases hc : (i : Int) < l.length
  rotate_left
  · simp only [hc, decide_false, Bool.false_eq_true, ↓reduceIte]
    refine awp_exit ?_
    have hie : i = l.length := by omega
    subst hie
    refine awp_bd fun hbd' => ?_
    refine awp_seq (awp_run rfl (by simp only [fwA, ↓reduceIte, Nat.reduceAdd, Nat.reduceMul, Nat.reduceEqDiff, Nat.reduceLT, Nat.reduceLeDiff, reduceCtorEq] <;> rfl) (awp_ret ?_))
    exact calls_at (p := .int .i64 (-1)) (.inl rfl) hbd' rfl rfl hn ⟨hn, .inl ⟨rfl, hSi⟩⟩
  simp only [hc, decide_true, ↓reduceIte]
  refine awp_skip ?_
  have hia : i < l.length := by omega
  have ga : l[i]? = some l[i] := List.getElem?_eq_getElem hia
  refine awp_seq ?_
  refine awp_block ?_
  refine awp_seq ?_
  refine awp_run rfl (by simp only [fwA, ↓reduceIte, Nat.reduceAdd, Nat.reduceMul, Nat.reduceEqDiff, Nat.reduceLT, Nat.reduceLeDiff, reduceCtorEq] <;> rfl) ?_
  refine awp_seq ?_
  refine awp_region rfl ?_
  refine aops_run 5 (by simp only [fwA, ↓reduceIte, Nat.reduceAdd, Nat.reduceMul, Nat.reduceEqDiff, Nat.reduceLT, Nat.reduceLeDiff, reduceCtorEq, el24, ti26, Sh.fw, List.getElem?_map, ga, Option.map_some, Int.natCast_nonneg] <;> rfl) ?_
  refine aops_call rfl rfl rfl he ((hS i l[i] Hi ga hSi).lenLe.mono fun p H' hp => ?_)
  obtain ⟨hp, hn'⟩ := hp
  rcases hp with ⟨rfl, hS'⟩ | ⟨rfl, hZ⟩
  · refine awp_cond (b := false) (by simp only [fwA, ↓reduceIte, Nat.reduceAdd, Nat.reduceMul, Nat.reduceEqDiff, Nat.reduceLT, Nat.reduceLeDiff, reduceCtorEq] <;> rfl) ?_
    refine awp_skip ?_
    refine awp_run rfl (by simp only [fwA, ↓reduceIte, Nat.reduceAdd, Nat.reduceMul, Nat.reduceEqDiff, Nat.reduceLT, Nat.reduceLeDiff, reduceCtorEq] <;> rfl) ?_
    exact ⟨(i + 1, H'), by dsimp only; omega, ⟨by dsimp only; omega, hS', by dsimp only; omega⟩, by rw [wrapS i (by omega)]; rfl, rfl, rfl⟩
  · refine awp_cond (b := true) (by simp only [fwA, ↓reduceIte, Nat.reduceAdd, Nat.reduceMul, Nat.reduceEqDiff, Nat.reduceLT, Nat.reduceLeDiff, reduceCtorEq] <;> rfl) ?_
    refine awp_bd fun hbd' => ?_
    refine awp_seq (awp_run rfl (by simp only [fwA, ↓reduceIte, Nat.reduceAdd, Nat.reduceMul, Nat.reduceEqDiff, Nat.reduceLT, Nat.reduceLeDiff, reduceCtorEq] <;> rfl) (awp_ret ?_))
    simp only [Post.block, Post.then]
    refine calls_at (p := .int .i64 (i : Int)) (.inl rfl) hbd' ?_ rfl (by omega) ⟨by omega, .inr ⟨i, rfl, hZ⟩⟩
    rfl

/-- slices.ContainsFunc[[]chancel/shape.Shape,chancel/shape.Shape] -/
theorem c56 (Γ : Nat → PV) (f : Nat) (he : Enters Tryd.prog f) (caps : List PV) (l : List Sh) (S Z : Nat → List Blk → Prop)
    (hS : ∀ (i : Nat) (x : Sh) (H : List Blk), l[i]? = some x → S i H → ACalls Tryd.prog Γ f ([.agg (Sh.enc x)] ++ caps) H (fun p H' => p = .bool false ∧ S (i + 1) H' ∨ p = .bool true ∧ Z i H')) (H : List Blk) (h0 : S 0 H) :
    ACalls Tryd.prog Γ 56 [.vec (l.map Sh.enc) false, .func (.func f) [] caps] H (fun p H' => H.length ≤ H'.length ∧ (p = .bool false ∧ S l.length H' ∨ p = .bool true ∧ ∃ i : Nat, Z i H')) := by
  refine acalls_of_awp Tryd.func56 rfl (by simp [Tryd.f56]) fun hbd => ?_
  refine awp_seq ?_
  refine awp_run rfl (by simp only [fwA, ↓reduceIte, Nat.reduceAdd, Nat.reduceMul, Nat.reduceEqDiff, Nat.reduceLT, Nat.reduceLeDiff, reduceCtorEq] <;> rfl) ?_
  refine awp_seq ?_
  refine awp_region rfl ?_
  refine aops_run 2 (by simp only [fwA, ↓reduceIte, Nat.reduceAdd, Nat.reduceMul, Nat.reduceEqDiff, Nat.reduceLT, Nat.reduceLeDiff, reduceCtorEq] <;> rfl) ?_
  refine aops_call rfl rfl rfl en71 ((c71 Γ f he caps l S Z hS H h0).mono fun p H' hp => ?_)
  obtain ⟨hn, hp⟩ := hp
  rcases hp with ⟨rfl, hS'⟩ | ⟨i, rfl, hZ⟩
  · refine aops_run 2 (by simp only [fwA, ↓reduceIte, Nat.reduceAdd, Nat.reduceMul, Nat.reduceEqDiff, Nat.reduceLT, Nat.reduceLeDiff, reduceCtorEq] <;> rfl) ?_
    refine awp_bd fun hbd' => ?_
    refine awp_ret ?_
    exact calls_at (p := .bool false) (.inl rfl) hbd' rfl rfl hn ⟨hn, .inl ⟨rfl, hS'⟩⟩
  · refine aops_run 2 (by simp only [fwA, ↓reduceIte, Nat.reduceAdd, Nat.reduceMul, Nat.reduceEqDiff, Nat.reduceLT, Nat.reduceLeDiff, reduceCtorEq, ge_iff_le, Int.natCast_nonneg, decide_true] <;> rfl) ?_
    refine awp_bd fun hbd' => ?_
    refine awp_ret ?_
    exact calls_at (p := .bool true) (.inl rfl) hbd' rfl rfl hn ⟨hn, .inr ⟨rfl, i, hZ⟩⟩

theorem c56p (Γ : Nat → PV) (f : Nat) (he : Enters Tryd.prog f) (caps : List PV) (l : List Sh) (P : Sh → Bool) (h : ∀ x ∈ l, Gives Tryd.prog Γ f ([.agg (Sh.enc x)] ++ caps) (.bool (P x))) :
    Gives Tryd.prog Γ 56 [.vec (l.map Sh.enc) false, .func (.func f) [] caps] (.bool (l.any P)) := fun H => by
  refine (c56 Γ f he caps l (fun i H' => H' = H ∧ (l.take i).any P = false) (fun _ H' => H' = H ∧ l.any P = true) (fun i x H2 hx hs => ?_) H ⟨rfl, by simp⟩).mono fun p H' hp => ?_
  · obtain ⟨rfl, hs⟩ := hs
    refine (h x (List.mem_of_getElem? hx) H2).mono fun p H' hp => ?_
    obtain ⟨rfl, rfl⟩ := hp
    cases hP : P x with
    | false => exact .inl ⟨rfl, rfl, by rw [List.take_add_one, hx, List.any_append, hs]; simp [hP]⟩
    | true => exact .inr ⟨rfl, rfl, List.any_eq_true.2 ⟨x, List.mem_of_getElem? hx, hP⟩⟩
  · rcases hp.2 with ⟨rfl, rfl, hs⟩ | ⟨rfl, i, rfl, hz⟩
    · rw [List.take_length] at hs; exact ⟨by rw [hs], rfl⟩
    · exact ⟨by rw [hz], rfl⟩


end Go.Proofs.YtlnffadolfkggaaDoor

/- The contracts of what tells whether shapes and types may be. -/
namespace Go.Proofs.YtlnffadolfkggaaDoor
set_option linter.unusedVariables false
set_option linter.unusedSimpArgs false
set_option maxRecDepth 100000
open Go.RowKit Fw

theorem not_lt_of {a b : Int} (h : ¬ a < b) : b ≤ a := by omega

section
variable {t : Ty}
theorem ty_any (hn : t.node) : (!(t.kids.any fun x => !decide x.Right)) = decide t.Right := by
  by_cases h : t.Right
  · rw [decide_eq_true h, Bool.not_eq_true', List.any_eq_false]
    intro x hx
    simp [h.kids x hx]
  · rw [decide_eq_false h, Bool.not_eq_false', List.any_eq_true]
    refine Classical.byContradiction fun hno => h (.mk t hn fun k hk => Classical.byContradiction fun hr => hno ⟨k, hk, by simp [hr]⟩)
theorem ty1 (hk : t.kind = 1) : t.Right ↔ t.c = 0 ∧ t.pc = 0 ∧ t.x = 0 ∧ t.kids.length = 0 := by
  refine ⟨fun h => ?_, fun ⟨h1, h2, h3, h4⟩ => .mk t ⟨by omega, by omega, .inr ⟨h2, h3⟩, .inl h1, by unfold Ty.want; rw [if_neg (by omega)]; exact h4⟩ fun k hk => ?_⟩
  · obtain ⟨_, _, h3, h4, h5⟩ := h.node
    unfold Ty.want at h5
    rw [if_neg (by omega)] at h5
    exact ⟨h4.resolve_right (by omega), (h3.resolve_left (by omega)).1, (h3.resolve_left (by omega)).2, h5⟩
  · rw [List.eq_nil_of_length_eq_zero h4] at hk; cases hk
theorem ty2 (hk : t.kind = 2) : t.Right ↔ t.pc = 0 ∧ t.x = 0 ∧ t.kids.length = 0 := by
  refine ⟨fun h => ?_, fun ⟨h2, h3, h4⟩ => .mk t ⟨by omega, by omega, .inr ⟨h2, h3⟩, .inr hk, by unfold Ty.want; rw [if_neg (by omega)]; exact h4⟩ fun k hk => ?_⟩
  · obtain ⟨_, _, h3, h4, h5⟩ := h.node
    unfold Ty.want at h5
    rw [if_neg (by omega)] at h5
    exact ⟨(h3.resolve_left (by omega)).1, (h3.resolve_left (by omega)).2, h5⟩
  · rw [List.eq_nil_of_length_eq_zero h4] at hk; cases hk
theorem kid_get {i : Nat} (h : i < t.kids.length) : t.kids[i]? = some (kid t i) := by
  unfold kid
  rw [List.getD_eq_getElem?_getD, List.getElem?_eq_getElem h]; rfl
theorem kid_mem {i : Nat} (h : i < t.kids.length) : kid t i ∈ t.kids := List.mem_of_getElem? (kid_get h)
theorem two_kids (h : t.kids.length = 2) : t.kids = [kid t 0, kid t 1] := by
  have h0 := kid_get (t := t) (i := 0) (by omega)
  have h1 := kid_get (t := t) (i := 1) (by omega)
  match hk : t.kids, h with
  | [u, v], _ =>
    rw [hk] at h0 h1
    simp only [List.getElem?_cons_zero, List.getElem?_cons_succ, Option.some.injEq] at h0 h1
    rw [← h0, ← h1]
theorem ty3 (hk : t.kind = 3) : t.Right ↔ t.c = 0 ∧ t.kids.length = 2 ∧ (kid t 0).Right ∧ (kid t 1).Right := by
  refine ⟨fun h => ?_, fun ⟨h1, h2, h3, h4⟩ => .mk t ⟨by omega, by omega, .inl hk, .inl h1, by unfold Ty.want; rw [if_pos hk]; exact h2⟩ fun k hk => ?_⟩
  · obtain ⟨_, _, h3, h4, h5⟩ := h.node
    unfold Ty.want at h5
    rw [if_pos hk] at h5
    exact ⟨h4.resolve_right (by omega), h5, h.kids _ (kid_mem (by omega)), h.kids _ (kid_mem (by omega))⟩
  · rw [two_kids h2] at hk
    simp only [List.mem_cons, List.not_mem_nil, or_false] at hk
    rcases hk with rfl | rfl
    · exact h3
    · exact h4
end
def kidS (t : Sh) (i : Nat) : Sh := t.kids.getD i (.mk 0 0 [])
section
variable {t : Sh}
theorem sh_any (hn : t.node) : (!(t.kids.any fun x => !decide x.Right)) = decide t.Right := by
  by_cases h : t.Right
  · rw [decide_eq_true h, Bool.not_eq_true', List.any_eq_false]
    intro x hx
    simp [h.kids x hx]
  · rw [decide_eq_false h, Bool.not_eq_false', List.any_eq_true]
    refine Classical.byContradiction fun hno => h (.mk t hn fun k hk => Classical.byContradiction fun hr => hno ⟨k, hk, by simp [hr]⟩)
theorem sh12 (hk : t.kind = 1 ∨ t.kind = 2) : t.Right ↔ t.n = 0 ∧ t.kids.length = 0 := by
  refine ⟨fun h => ?_, fun ⟨h2, h4⟩ => .mk t ⟨by omega, by omega, by omega, .inl h2, by unfold Sh.want; rw [if_neg (by omega)]; exact h4⟩ fun k hk => ?_⟩
  · obtain ⟨_, _, h3, h4, h5⟩ := h.node
    unfold Sh.want at h5
    rw [if_neg (by omega)] at h5
    exact ⟨h4.resolve_right (by omega), h5⟩
  · rw [List.eq_nil_of_length_eq_zero h4] at hk; cases hk
theorem sh4 (hk : t.kind = 4) : t.Right ↔ 0 ≤ t.n ∧ t.kids.length = 0 := by
  refine ⟨fun h => ?_, fun ⟨h2, h4⟩ => .mk t ⟨by omega, by omega, h2, .inr hk, by unfold Sh.want; rw [if_neg (by omega)]; exact h4⟩ fun k hk => ?_⟩
  · obtain ⟨_, _, h3, h4, h5⟩ := h.node
    unfold Sh.want at h5
    rw [if_neg (by omega)] at h5
    exact ⟨h3, h5⟩
  · rw [List.eq_nil_of_length_eq_zero h4] at hk; cases hk
theorem kidS_get {i : Nat} (h : i < t.kids.length) : t.kids[i]? = some (kidS t i) := by
  unfold kidS
  rw [List.getD_eq_getElem?_getD, List.getElem?_eq_getElem h]; rfl
theorem kidS_mem {i : Nat} (h : i < t.kids.length) : kidS t i ∈ t.kids := List.mem_of_getElem? (kidS_get h)
theorem two_kidsS (h : t.kids.length = 2) : t.kids = [kidS t 0, kidS t 1] := by
  have h0 := kidS_get (t := t) (i := 0) (by omega)
  have h1 := kidS_get (t := t) (i := 1) (by omega)
  match hk : t.kids, h with
  | [u, v], _ =>
    rw [hk] at h0 h1
    simp only [List.getElem?_cons_zero, List.getElem?_cons_succ, Option.some.injEq] at h0 h1
    rw [← h0, ← h1]
theorem sh3 (hk : t.kind = 3) : t.Right ↔ t.n = 0 ∧ t.kids.length = 2 ∧ (kidS t 0).Right ∧ (kidS t 1).Right := by
  refine ⟨fun h => ?_, fun ⟨h1, h2, h3, h4⟩ => .mk t ⟨by omega, by omega, by omega, .inl h1, by unfold Sh.want; rw [if_pos hk]; exact h2⟩ fun k hk => ?_⟩
  · obtain ⟨_, _, h3, h4, h5⟩ := h.node
    unfold Sh.want at h5
    rw [if_pos hk] at h5
    exact ⟨h4.resolve_right (by omega), h5, h.kids _ (kidS_mem (by omega)), h.kids _ (kidS_mem (by omega))⟩
  · rw [two_kidsS h2] at hk
    simp only [List.mem_cons, List.not_mem_nil, or_false] at hk
    rcases hk with rfl | rfl
    · exact h3
    · exact h4
end

/-- Right$1 -/
theorem c48 (Γ : Nat → PV) (x : Ty) (h : Gives Tryd.prog Γ 23 [.agg x.enc] (.bool (decide x.Right))) : Gives Tryd.prog Γ 48 [.agg x.enc] (.bool (!decide x.Right)) := by
  refine fn_of_awp Tryd.func48 rfl (by simp [Tryd.f48]) rfl fun H => ?_
  refine awp_seq ?_
  refine awp_run rfl (by simp only [fwA, ↓reduceIte, Nat.reduceAdd, Nat.reduceMul, Nat.reduceEqDiff, Nat.reduceLT, Nat.reduceLeDiff, reduceCtorEq] <;> rfl) ?_
  refine awp_seq ?_
  refine awp_region rfl ?_
  refine aops_run 1 (by simp only [fwA, ↓reduceIte, Nat.reduceAdd, Nat.reduceMul, Nat.reduceEqDiff, Nat.reduceLT, Nat.reduceLeDiff, reduceCtorEq, ti31, Ty.fw] <;> rfl) ?_
  refine aops_fn rfl rfl rfl en23 h ?_
  refine aops_run 2 (by simp only [fwA, ↓reduceIte, Nat.reduceAdd, Nat.reduceMul, Nat.reduceEqDiff, Nat.reduceLT, Nat.reduceLeDiff, reduceCtorEq] <;> rfl) ?_
  refine awp_ret ?_
  exact gives_end (.inl rfl) _ rfl

/-- Right$1 -/
theorem c57 (Γ : Nat → PV) (x : Sh) (h : Gives Tryd.prog Γ 39 [.agg x.enc] (.bool (decide x.Right))) : Gives Tryd.prog Γ 57 [.agg x.enc] (.bool (!decide x.Right)) := by
  refine fn_of_awp Tryd.func57 rfl (by simp [Tryd.f57]) rfl fun H => ?_
  refine awp_seq ?_
  refine awp_run rfl (by simp only [fwA, ↓reduceIte, Nat.reduceAdd, Nat.reduceMul, Nat.reduceEqDiff, Nat.reduceLT, Nat.reduceLeDiff, reduceCtorEq] <;> rfl) ?_
  refine awp_seq ?_
  refine awp_region rfl ?_
  refine aops_run 1 (by simp only [fwA, ↓reduceIte, Nat.reduceAdd, Nat.reduceMul, Nat.reduceEqDiff, Nat.reduceLT, Nat.reduceLeDiff, reduceCtorEq, ti26, Sh.fw] <;> rfl) ?_
  refine aops_fn rfl rfl rfl en39 h ?_
  refine aops_run 2 (by simp only [fwA, ↓reduceIte, Nat.reduceAdd, Nat.reduceMul, Nat.reduceEqDiff, Nat.reduceLT, Nat.reduceLeDiff, reduceCtorEq] <;> rfl) ?_
  refine awp_ret ?_
  exact gives_end (.inl rfl) _ rfl

/-- chancel/ltype.Right -/
theorem c23 (Γ : Nat → PV) : ∀ t : Ty, Gives Tryd.prog Γ 23 [.agg t.enc] (.bool (decide t.Right)) := by
  suffices ∀ n, ∀ t : Ty, SizeOf.sizeOf t < n → Gives Tryd.prog Γ 23 [.agg t.enc] (.bool (decide t.Right)) from fun t => this _ t (Nat.lt_succ_self _)
  intro n
  induction n with
  | zero => intro a ha; omega
  | succ n ih =>
  intro t ha
  refine fn_of_awp Tryd.func23 rfl (by simp [Tryd.f23]) rfl fun H => ?_
  refine awp_seq ?_
  -- region 0
  refine awp_run rfl (by simp only [fwA, ↓reduceIte, Nat.reduceAdd, Nat.reduceMul, Nat.reduceEqDiff, Nat.reduceLT, Nat.reduceLeDiff, reduceCtorEq] <;> rfl) ?_
  refine awp_seq ?_
  -- region 1
  refine awp_run rfl (by simp only [fwA, ↓reduceIte, Nat.reduceAdd, Nat.reduceMul, Nat.reduceEqDiff, Nat.reduceLT, Nat.reduceLeDiff, reduceCtorEq] <;> rfl) ?_
  refine awp_seq ?_
  refine awp_block ?_
  refine awp_seq ?_
  -- region 2
  refine awp_run rfl (by simp only [fwA, ↓reduceIte, Nat.reduceAdd, Nat.reduceMul, Nat.reduceEqDiff, Nat.reduceLT, Nat.reduceLeDiff, reduceCtorEq, fl31_0, ti3, fl31_3, ti28, fl31_4, fl31_2, fl31_5, ti29, un29, Ty.fw] <;> rfl) ?_
  refine awp_cond (by simp only [fwA, ↓reduceIte, Nat.reduceAdd, Nat.reduceMul, Nat.reduceEqDiff, Nat.reduceLT, Nat.reduceLeDiff, reduceCtorEq] <;> rfl) ?_
  by_cases k3 : t.kind = 3
  · simp only [k3, decide_true, ↓reduceIte]
    -- region 3
    refine awp_run rfl (by simp only [fwA, ↓reduceIte, Nat.reduceAdd, Nat.reduceMul, Nat.reduceEqDiff, Nat.reduceLT, Nat.reduceLeDiff, reduceCtorEq] <;> rfl) ?_
    simp only [Post.block, Post.then, ↓reduceIte]
    refine awp_seq ?_
    refine awp_seq ?_
    -- region 6
    by_cases h3 : t.c = 0
    rotate_left
    · refine awp_run rfl (by simp only [fwA, ↓reduceIte, Nat.reduceAdd, Nat.reduceMul, Nat.reduceEqDiff, Nat.reduceLT, Nat.reduceLeDiff, reduceCtorEq, fl31_0, ti3, fl31_3, ti28, fl31_4, fl31_2, fl31_5, ti29, un29, Ty.fw, List.length_map, k3, h3, decide_true, decide_false, Bool.not_true, Bool.not_false, Int.reduceLT, Int.reduceEq, gt_iff_lt, ge_iff_le] <;> rfl) ?_
      refine awp_cond (b := true) rfl ?_
      refine awp_seq (awp_run rfl (by simp only [fwA, ↓reduceIte, Nat.reduceAdd, Nat.reduceMul, Nat.reduceEqDiff, Nat.reduceLT, Nat.reduceLeDiff, reduceCtorEq] <;> rfl) (awp_ret ?_))
      exact gives_end (.inl rfl) _ (by rw [decide_eq_false (fun e => h3 ((e.node.2.2.2.1).resolve_right (by omega)))]; rfl)
    by_cases h4 : (t.kids.length : Int) = 2
    rotate_left
    · refine awp_run rfl (by simp only [fwA, ↓reduceIte, Nat.reduceAdd, Nat.reduceMul, Nat.reduceEqDiff, Nat.reduceLT, Nat.reduceLeDiff, reduceCtorEq, fl31_0, ti3, fl31_3, ti28, fl31_4, fl31_2, fl31_5, ti29, un29, Ty.fw, List.length_map, k3, h3, h4, decide_true, decide_false, Bool.not_true, Bool.not_false, Int.reduceLT, Int.reduceEq, gt_iff_lt, ge_iff_le] <;> rfl) ?_
      refine awp_cond (b := true) rfl ?_
      refine awp_seq (awp_run rfl (by simp only [fwA, ↓reduceIte, Nat.reduceAdd, Nat.reduceMul, Nat.reduceEqDiff, Nat.reduceLT, Nat.reduceLeDiff, reduceCtorEq] <;> rfl) (awp_ret ?_))
      exact gives_end (.inl rfl) _ (by rw [decide_eq_false (fun e => h4 (by have := e.node.2.2.2.2; unfold Ty.want at this; rw [if_pos k3] at this; omega))]; rfl)
    refine awp_run rfl (by simp only [fwA, ↓reduceIte, Nat.reduceAdd, Nat.reduceMul, Nat.reduceEqDiff, Nat.reduceLT, Nat.reduceLeDiff, reduceCtorEq, fl31_0, ti3, fl31_3, ti28, fl31_4, fl31_2, fl31_5, ti29, un29, Ty.fw, List.length_map, k3, h3, h4, decide_true, decide_false, Bool.not_true, Bool.not_false, Int.reduceLT, Int.reduceEq, gt_iff_lt, ge_iff_le] <;> rfl) ?_
    refine awp_cond (b := false) rfl ?_
    refine awp_skip ?_
    have hn : t.node := ⟨by omega, by omega, .inl k3, .inl h3, by unfold Ty.want; rw [if_pos k3]; omega⟩
    refine awp_seq ?_
    -- region 8
    refine awp_region rfl ?_
    refine aops_run 2 (by simp only [fwA, ↓reduceIte, Nat.reduceAdd, Nat.reduceMul, Nat.reduceEqDiff, Nat.reduceLT, Nat.reduceLeDiff, reduceCtorEq, fl31_0, ti3, fl31_3, ti28, fl31_4, fl31_2, fl31_5, ti29, un29, Ty.fw] <;> rfl) ?_
    refine aops_fn rfl rfl rfl en47 (c47p Γ 48 en48 [] t.kids (fun x => !decide x.Right) fun x hx => c48 Γ x (ih x (by have := Ty.kids_lt hx; omega))) ?_
    refine aops_run 2 (by simp only [fwA, ↓reduceIte, Nat.reduceAdd, Nat.reduceMul, Nat.reduceEqDiff, Nat.reduceLT, Nat.reduceLeDiff, reduceCtorEq] <;> rfl) ?_
    refine awp_ret ?_
    rw [← ty_any hn]
    exact gives_end (.inl rfl) _ rfl
  simp only [k3, decide_false, Bool.false_eq_true, ↓reduceIte]
  refine awp_seq ?_
  -- region 4
  by_cases hp : t.pc = 0
  rotate_left
  · refine awp_run rfl (by simp only [fwA, ↓reduceIte, Nat.reduceAdd, Nat.reduceMul, Nat.reduceEqDiff, Nat.reduceLT, Nat.reduceLeDiff, reduceCtorEq, fl31_0, ti3, fl31_3, ti28, fl31_4, fl31_2, fl31_5, ti29, un29, Ty.fw, hp, decide_true, decide_false, Bool.not_true, Bool.not_false, Int.reduceLT, Int.reduceEq, gt_iff_lt, ge_iff_le] <;> rfl) ?_
    refine awp_cond (b := true) rfl ?_
    refine awp_seq (awp_run rfl (by simp only [fwA, ↓reduceIte, Nat.reduceAdd, Nat.reduceMul, Nat.reduceEqDiff, Nat.reduceLT, Nat.reduceLeDiff, reduceCtorEq] <;> rfl) (awp_ret ?_))
    exact gives_end (.inl rfl) _ (by rw [decide_eq_false (fun e => hp ((e.node.2.2.1).resolve_left k3).1)]; rfl)
  by_cases hx : t.x = 0
  rotate_left
  · refine awp_run rfl (by simp only [fwA, ↓reduceIte, Nat.reduceAdd, Nat.reduceMul, Nat.reduceEqDiff, Nat.reduceLT, Nat.reduceLeDiff, reduceCtorEq, fl31_0, ti3, fl31_3, ti28, fl31_4, fl31_2, fl31_5, ti29, un29, Ty.fw, hp, hx, decide_true, decide_false, Bool.not_true, Bool.not_false, Int.reduceLT, Int.reduceEq, gt_iff_lt, ge_iff_le] <;> rfl) ?_
    refine awp_cond (b := true) rfl ?_
    refine awp_seq (awp_run rfl (by simp only [fwA, ↓reduceIte, Nat.reduceAdd, Nat.reduceMul, Nat.reduceEqDiff, Nat.reduceLT, Nat.reduceLeDiff, reduceCtorEq] <;> rfl) (awp_ret ?_))
    exact gives_end (.inl rfl) _ (by rw [decide_eq_false (fun e => hx ((e.node.2.2.1).resolve_left k3).2)]; rfl)
  refine awp_run rfl (by simp only [fwA, ↓reduceIte, Nat.reduceAdd, Nat.reduceMul, Nat.reduceEqDiff, Nat.reduceLT, Nat.reduceLeDiff, reduceCtorEq, fl31_0, ti3, fl31_3, ti28, fl31_4, fl31_2, fl31_5, ti29, un29, Ty.fw, hp, hx, decide_true, decide_false, Bool.not_true, Bool.not_false, Int.reduceLT, Int.reduceEq, gt_iff_lt, ge_iff_le] <;> rfl) ?_
  refine awp_cond (b := false) rfl ?_
  refine awp_skip ?_
  simp only [Post.block, Post.then, ↓reduceIte]
  refine awp_seq ?_
  refine awp_seq ?_
  -- region 6
  by_cases h1 : ¬ t.kind < 1
  rotate_left
  · have h1 := Classical.not_not.1 h1
    refine awp_run rfl (by simp only [fwA, ↓reduceIte, Nat.reduceAdd, Nat.reduceMul, Nat.reduceEqDiff, Nat.reduceLT, Nat.reduceLeDiff, reduceCtorEq, fl31_0, ti3, fl31_3, ti28, fl31_4, fl31_2, fl31_5, ti29, un29, Ty.fw, List.length_map, h1, decide_true, decide_false, Bool.not_true, Bool.not_false, Int.reduceLT, Int.reduceEq, gt_iff_lt, ge_iff_le] <;> rfl) ?_
    refine awp_cond (b := true) rfl ?_
    refine awp_seq (awp_run rfl (by simp only [fwA, ↓reduceIte, Nat.reduceAdd, Nat.reduceMul, Nat.reduceEqDiff, Nat.reduceLT, Nat.reduceLeDiff, reduceCtorEq] <;> rfl) (awp_ret ?_))
    exact gives_end (.inl rfl) _ (by rw [decide_eq_false (fun e => absurd h1 (by have := e.node.1; omega))]; rfl)
  by_cases h2 : ¬ 3 < t.kind
  rotate_left
  · have h2 := Classical.not_not.1 h2
    refine awp_run rfl (by simp only [fwA, ↓reduceIte, Nat.reduceAdd, Nat.reduceMul, Nat.reduceEqDiff, Nat.reduceLT, Nat.reduceLeDiff, reduceCtorEq, fl31_0, ti3, fl31_3, ti28, fl31_4, fl31_2, fl31_5, ti29, un29, Ty.fw, List.length_map, h1, h2, decide_true, decide_false, Bool.not_true, Bool.not_false, Int.reduceLT, Int.reduceEq, gt_iff_lt, ge_iff_le] <;> rfl) ?_
    refine awp_cond (b := true) rfl ?_
    refine awp_seq (awp_run rfl (by simp only [fwA, ↓reduceIte, Nat.reduceAdd, Nat.reduceMul, Nat.reduceEqDiff, Nat.reduceLT, Nat.reduceLeDiff, reduceCtorEq] <;> rfl) (awp_ret ?_))
    exact gives_end (.inl rfl) _ (by rw [decide_eq_false (fun e => absurd h2 (by have := e.node.2.1; omega))]; rfl)
  by_cases k2 : t.kind = 2
  · by_cases h3 : t.c = 0
    · by_cases h4 : (t.kids.length : Int) = 0
      rotate_left
      · refine awp_run rfl (by simp only [fwA, ↓reduceIte, Nat.reduceAdd, Nat.reduceMul, Nat.reduceEqDiff, Nat.reduceLT, Nat.reduceLeDiff, reduceCtorEq, fl31_0, ti3, fl31_3, ti28, fl31_4, fl31_2, fl31_5, ti29, un29, Ty.fw, List.length_map, h1, h2, k2, h3, h4, decide_true, decide_false, Bool.not_true, Bool.not_false, Int.reduceLT, Int.reduceEq, gt_iff_lt, ge_iff_le] <;> rfl) ?_
        refine awp_cond (b := true) rfl ?_
        refine awp_seq (awp_run rfl (by simp only [fwA, ↓reduceIte, Nat.reduceAdd, Nat.reduceMul, Nat.reduceEqDiff, Nat.reduceLT, Nat.reduceLeDiff, reduceCtorEq] <;> rfl) (awp_ret ?_))
        exact gives_end (.inl rfl) _ (by rw [decide_eq_false (fun e => h4 (by have := e.node.2.2.2.2; unfold Ty.want at this; rw [if_neg k3] at this; omega))]; rfl)
      refine awp_run rfl (by simp only [fwA, ↓reduceIte, Nat.reduceAdd, Nat.reduceMul, Nat.reduceEqDiff, Nat.reduceLT, Nat.reduceLeDiff, reduceCtorEq, fl31_0, ti3, fl31_3, ti28, fl31_4, fl31_2, fl31_5, ti29, un29, Ty.fw, List.length_map, h1, h2, k2, h3, h4, decide_true, decide_false, Bool.not_true, Bool.not_false, Int.reduceLT, Int.reduceEq, gt_iff_lt, ge_iff_le] <;> rfl) ?_
      refine awp_cond (b := false) rfl ?_
      refine awp_skip ?_
      have hn : t.node := ⟨by omega, by omega, .inr ⟨hp, hx⟩, .inr k2, by unfold Ty.want; rw [if_neg k3]; omega⟩
      refine awp_seq ?_
      -- region 8
      refine awp_region rfl ?_
      refine aops_run 2 (by simp only [fwA, ↓reduceIte, Nat.reduceAdd, Nat.reduceMul, Nat.reduceEqDiff, Nat.reduceLT, Nat.reduceLeDiff, reduceCtorEq, fl31_0, ti3, fl31_3, ti28, fl31_4, fl31_2, fl31_5, ti29, un29, Ty.fw] <;> rfl) ?_
      refine aops_fn rfl rfl rfl en47 (c47p Γ 48 en48 [] t.kids (fun x => !decide x.Right) fun x hx => c48 Γ x (ih x (by have := Ty.kids_lt hx; omega))) ?_
      refine aops_run 2 (by simp only [fwA, ↓reduceIte, Nat.reduceAdd, Nat.reduceMul, Nat.reduceEqDiff, Nat.reduceLT, Nat.reduceLeDiff, reduceCtorEq] <;> rfl) ?_
      refine awp_ret ?_
      rw [← ty_any hn]
      exact gives_end (.inl rfl) _ rfl
    · by_cases h4 : (t.kids.length : Int) = 0
      rotate_left
      · refine awp_run rfl (by simp only [fwA, ↓reduceIte, Nat.reduceAdd, Nat.reduceMul, Nat.reduceEqDiff, Nat.reduceLT, Nat.reduceLeDiff, reduceCtorEq, fl31_0, ti3, fl31_3, ti28, fl31_4, fl31_2, fl31_5, ti29, un29, Ty.fw, List.length_map, h1, h2, k2, h3, h4, decide_true, decide_false, Bool.not_true, Bool.not_false, Int.reduceLT, Int.reduceEq, gt_iff_lt, ge_iff_le] <;> rfl) ?_
        refine awp_cond (b := true) rfl ?_
        refine awp_seq (awp_run rfl (by simp only [fwA, ↓reduceIte, Nat.reduceAdd, Nat.reduceMul, Nat.reduceEqDiff, Nat.reduceLT, Nat.reduceLeDiff, reduceCtorEq] <;> rfl) (awp_ret ?_))
        exact gives_end (.inl rfl) _ (by rw [decide_eq_false (fun e => h4 (by have := e.node.2.2.2.2; unfold Ty.want at this; rw [if_neg k3] at this; omega))]; rfl)
      refine awp_run rfl (by simp only [fwA, ↓reduceIte, Nat.reduceAdd, Nat.reduceMul, Nat.reduceEqDiff, Nat.reduceLT, Nat.reduceLeDiff, reduceCtorEq, fl31_0, ti3, fl31_3, ti28, fl31_4, fl31_2, fl31_5, ti29, un29, Ty.fw, List.length_map, h1, h2, k2, h3, h4, decide_true, decide_false, Bool.not_true, Bool.not_false, Int.reduceLT, Int.reduceEq, gt_iff_lt, ge_iff_le] <;> rfl) ?_
      refine awp_cond (b := false) rfl ?_
      refine awp_skip ?_
      have hn : t.node := ⟨by omega, by omega, .inr ⟨hp, hx⟩, .inr k2, by unfold Ty.want; rw [if_neg k3]; omega⟩
      refine awp_seq ?_
      -- region 8
      refine awp_region rfl ?_
      refine aops_run 2 (by simp only [fwA, ↓reduceIte, Nat.reduceAdd, Nat.reduceMul, Nat.reduceEqDiff, Nat.reduceLT, Nat.reduceLeDiff, reduceCtorEq, fl31_0, ti3, fl31_3, ti28, fl31_4, fl31_2, fl31_5, ti29, un29, Ty.fw] <;> rfl) ?_
      refine aops_fn rfl rfl rfl en47 (c47p Γ 48 en48 [] t.kids (fun x => !decide x.Right) fun x hx => c48 Γ x (ih x (by have := Ty.kids_lt hx; omega))) ?_
      refine aops_run 2 (by simp only [fwA, ↓reduceIte, Nat.reduceAdd, Nat.reduceMul, Nat.reduceEqDiff, Nat.reduceLT, Nat.reduceLeDiff, reduceCtorEq] <;> rfl) ?_
      refine awp_ret ?_
      rw [← ty_any hn]
      exact gives_end (.inl rfl) _ rfl
  · by_cases h3 : t.c = 0
    rotate_left
    · refine awp_run rfl (by simp only [fwA, ↓reduceIte, Nat.reduceAdd, Nat.reduceMul, Nat.reduceEqDiff, Nat.reduceLT, Nat.reduceLeDiff, reduceCtorEq, fl31_0, ti3, fl31_3, ti28, fl31_4, fl31_2, fl31_5, ti29, un29, Ty.fw, List.length_map, h1, h2, k2, h3, decide_true, decide_false, Bool.not_true, Bool.not_false, Int.reduceLT, Int.reduceEq, gt_iff_lt, ge_iff_le] <;> rfl) ?_
      refine awp_cond (b := true) rfl ?_
      refine awp_seq (awp_run rfl (by simp only [fwA, ↓reduceIte, Nat.reduceAdd, Nat.reduceMul, Nat.reduceEqDiff, Nat.reduceLT, Nat.reduceLeDiff, reduceCtorEq] <;> rfl) (awp_ret ?_))
      exact gives_end (.inl rfl) _ (by rw [decide_eq_false (fun e => h3 ((e.node.2.2.2.1).resolve_right k2))]; rfl)
    by_cases h4 : (t.kids.length : Int) = 0
    rotate_left
    · refine awp_run rfl (by simp only [fwA, ↓reduceIte, Nat.reduceAdd, Nat.reduceMul, Nat.reduceEqDiff, Nat.reduceLT, Nat.reduceLeDiff, reduceCtorEq, fl31_0, ti3, fl31_3, ti28, fl31_4, fl31_2, fl31_5, ti29, un29, Ty.fw, List.length_map, h1, h2, k2, h3, h4, decide_true, decide_false, Bool.not_true, Bool.not_false, Int.reduceLT, Int.reduceEq, gt_iff_lt, ge_iff_le] <;> rfl) ?_
      refine awp_cond (b := true) rfl ?_
      refine awp_seq (awp_run rfl (by simp only [fwA, ↓reduceIte, Nat.reduceAdd, Nat.reduceMul, Nat.reduceEqDiff, Nat.reduceLT, Nat.reduceLeDiff, reduceCtorEq] <;> rfl) (awp_ret ?_))
      exact gives_end (.inl rfl) _ (by rw [decide_eq_false (fun e => h4 (by have := e.node.2.2.2.2; unfold Ty.want at this; rw [if_neg k3] at this; omega))]; rfl)
    refine awp_run rfl (by simp only [fwA, ↓reduceIte, Nat.reduceAdd, Nat.reduceMul, Nat.reduceEqDiff, Nat.reduceLT, Nat.reduceLeDiff, reduceCtorEq, fl31_0, ti3, fl31_3, ti28, fl31_4, fl31_2, fl31_5, ti29, un29, Ty.fw, List.length_map, h1, h2, k2, h3, h4, decide_true, decide_false, Bool.not_true, Bool.not_false, Int.reduceLT, Int.reduceEq, gt_iff_lt, ge_iff_le] <;> rfl) ?_
    refine awp_cond (b := false) rfl ?_
    refine awp_skip ?_
    have hn : t.node := ⟨by omega, by omega, .inr ⟨hp, hx⟩, .inl h3, by unfold Ty.want; rw [if_neg k3]; omega⟩
    refine awp_seq ?_
    -- region 8
    refine awp_region rfl ?_
    refine aops_run 2 (by simp only [fwA, ↓reduceIte, Nat.reduceAdd, Nat.reduceMul, Nat.reduceEqDiff, Nat.reduceLT, Nat.reduceLeDiff, reduceCtorEq, fl31_0, ti3, fl31_3, ti28, fl31_4, fl31_2, fl31_5, ti29, un29, Ty.fw] <;> rfl) ?_
    refine aops_fn rfl rfl rfl en47 (c47p Γ 48 en48 [] t.kids (fun x => !decide x.Right) fun x hx => c48 Γ x (ih x (by have := Ty.kids_lt hx; omega))) ?_
    refine aops_run 2 (by simp only [fwA, ↓reduceIte, Nat.reduceAdd, Nat.reduceMul, Nat.reduceEqDiff, Nat.reduceLT, Nat.reduceLeDiff, reduceCtorEq] <;> rfl) ?_
    refine awp_ret ?_
    rw [← ty_any hn]
    exact gives_end (.inl rfl) _ rfl

/-- chancel/chancelref13.Right -/
theorem c24 (Γ : Nat → PV) : ∀ t : Ty, Gives Tryd.prog Γ 24 [.agg t.enc] (.bool (decide t.Right)) := by
  suffices ∀ n, ∀ t : Ty, SizeOf.sizeOf t < n → Gives Tryd.prog Γ 24 [.agg t.enc] (.bool (decide t.Right)) from fun t => this _ t (Nat.lt_succ_self _)
  intro n
  induction n with
  | zero => intro a ha; omega
  | succ n ih =>
  intro t ha
  refine fn_of_awp Tryd.func24 rfl (by simp [Tryd.f24]) rfl fun H => ?_
  refine awp_seq ?_
  -- region 0
  refine awp_run rfl (by simp only [fwA, ↓reduceIte, Nat.reduceAdd, Nat.reduceMul, Nat.reduceEqDiff, Nat.reduceLT, Nat.reduceLeDiff, reduceCtorEq] <;> rfl) ?_
  refine awp_seq ?_
  refine awp_seq ?_
  -- region 1
  refine awp_run rfl (by simp only [fwA, ↓reduceIte, Nat.reduceAdd, Nat.reduceMul, Nat.reduceEqDiff, Nat.reduceLT, Nat.reduceLeDiff, reduceCtorEq, fl45_0, ti3, fl45_2, fl45_3, fl45_4, fl45_5, ti43, un43, el43, ti45, Ty.fw] <;> rfl) ?_
  refine awp_block ?_
  refine awp_seq ?_
  refine awp_run rfl (by simp only [fwA, ↓reduceIte, Nat.reduceAdd, Nat.reduceMul, Nat.reduceEqDiff, Nat.reduceLT, Nat.reduceLeDiff, reduceCtorEq] <;> rfl) ?_
  refine awp_cond (by simp only [fwA, ↓reduceIte, Nat.reduceAdd, Nat.reduceMul, Nat.reduceEqDiff, Nat.reduceLT, Nat.reduceLeDiff, reduceCtorEq] <;> rfl) ?_
  by_cases k1 : t.kind = 1
  · simp only [k1, decide_true, ↓reduceIte]
    refine awp_seq ?_
    by_cases h1 : t.c = 0
    rotate_left
    · refine awp_run rfl (by simp only [fwA, ↓reduceIte, Nat.reduceAdd, Nat.reduceMul, Nat.reduceEqDiff, Nat.reduceLT, Nat.reduceLeDiff, reduceCtorEq, fl45_0, ti3, fl45_2, fl45_3, fl45_4, fl45_5, ti43, un43, el43, ti45, Ty.fw, List.length_map, h1, decide_true, decide_false, Bool.not_true, Bool.not_false, Int.reduceLT, Int.reduceEq, gt_iff_lt, ge_iff_le] <;> rfl) (awp_ret ?_)
      exact gives_end (.inl rfl) _ (by rw [decide_eq_false (fun e => h1 (((ty1 k1).1 e).1))]; rfl)
    by_cases h2 : t.pc = 0
    rotate_left
    · refine awp_run rfl (by simp only [fwA, ↓reduceIte, Nat.reduceAdd, Nat.reduceMul, Nat.reduceEqDiff, Nat.reduceLT, Nat.reduceLeDiff, reduceCtorEq, fl45_0, ti3, fl45_2, fl45_3, fl45_4, fl45_5, ti43, un43, el43, ti45, Ty.fw, List.length_map, h1, h2, decide_true, decide_false, Bool.not_true, Bool.not_false, Int.reduceLT, Int.reduceEq, gt_iff_lt, ge_iff_le] <;> rfl) (awp_ret ?_)
      exact gives_end (.inl rfl) _ (by rw [decide_eq_false (fun e => h2 (((ty1 k1).1 e).2.1))]; rfl)
    by_cases h3 : t.x = 0
    rotate_left
    · refine awp_run rfl (by simp only [fwA, ↓reduceIte, Nat.reduceAdd, Nat.reduceMul, Nat.reduceEqDiff, Nat.reduceLT, Nat.reduceLeDiff, reduceCtorEq, fl45_0, ti3, fl45_2, fl45_3, fl45_4, fl45_5, ti43, un43, el43, ti45, Ty.fw, List.length_map, h1, h2, h3, decide_true, decide_false, Bool.not_true, Bool.not_false, Int.reduceLT, Int.reduceEq, gt_iff_lt, ge_iff_le] <;> rfl) (awp_ret ?_)
      exact gives_end (.inl rfl) _ (by rw [decide_eq_false (fun e => h3 (((ty1 k1).1 e).2.2.1))]; rfl)
    by_cases h4 : (t.kids.length : Int) = 0
    rotate_left
    · refine awp_run rfl (by simp only [fwA, ↓reduceIte, Nat.reduceAdd, Nat.reduceMul, Nat.reduceEqDiff, Nat.reduceLT, Nat.reduceLeDiff, reduceCtorEq, fl45_0, ti3, fl45_2, fl45_3, fl45_4, fl45_5, ti43, un43, el43, ti45, Ty.fw, List.length_map, h1, h2, h3, h4, decide_true, decide_false, Bool.not_true, Bool.not_false, Int.reduceLT, Int.reduceEq, gt_iff_lt, ge_iff_le] <;> rfl) (awp_ret ?_)
      exact gives_end (.inl rfl) _ (by rw [decide_eq_false (fun e => h4 (by have := ((ty1 k1).1 e).2.2.2; omega))]; rfl)
    refine awp_run rfl (by simp only [fwA, ↓reduceIte, Nat.reduceAdd, Nat.reduceMul, Nat.reduceEqDiff, Nat.reduceLT, Nat.reduceLeDiff, reduceCtorEq, fl45_0, ti3, fl45_2, fl45_3, fl45_4, fl45_5, ti43, un43, el43, ti45, Ty.fw, List.length_map, h1, h2, h3, h4, decide_true, decide_false, Bool.not_true, Bool.not_false, Int.reduceLT, Int.reduceEq, gt_iff_lt, ge_iff_le] <;> rfl) (awp_ret ?_)
    exact gives_end (.inl rfl) _ (by rw [decide_eq_true ((ty1 k1).2 ⟨h1, h2, h3, by omega⟩)]; rfl)
  simp only [k1, decide_false, Bool.false_eq_true, ↓reduceIte]
  refine awp_seq ?_
  refine awp_run rfl (by simp only [fwA, ↓reduceIte, Nat.reduceAdd, Nat.reduceMul, Nat.reduceEqDiff, Nat.reduceLT, Nat.reduceLeDiff, reduceCtorEq] <;> rfl) ?_
  refine awp_cond (by simp only [fwA, ↓reduceIte, Nat.reduceAdd, Nat.reduceMul, Nat.reduceEqDiff, Nat.reduceLT, Nat.reduceLeDiff, reduceCtorEq] <;> rfl) ?_
  by_cases k2 : t.kind = 2
  · simp only [k2, decide_true, ↓reduceIte]
    refine awp_seq ?_
    by_cases h2 : t.pc = 0
    rotate_left
    · refine awp_run rfl (by simp only [fwA, ↓reduceIte, Nat.reduceAdd, Nat.reduceMul, Nat.reduceEqDiff, Nat.reduceLT, Nat.reduceLeDiff, reduceCtorEq, fl45_0, ti3, fl45_2, fl45_3, fl45_4, fl45_5, ti43, un43, el43, ti45, Ty.fw, List.length_map, h2, decide_true, decide_false, Bool.not_true, Bool.not_false, Int.reduceLT, Int.reduceEq, gt_iff_lt, ge_iff_le] <;> rfl) (awp_ret ?_)
      exact gives_end (.inl rfl) _ (by rw [decide_eq_false (fun e => h2 (((ty2 k2).1 e).1))]; rfl)
    by_cases h3 : t.x = 0
    rotate_left
    · refine awp_run rfl (by simp only [fwA, ↓reduceIte, Nat.reduceAdd, Nat.reduceMul, Nat.reduceEqDiff, Nat.reduceLT, Nat.reduceLeDiff, reduceCtorEq, fl45_0, ti3, fl45_2, fl45_3, fl45_4, fl45_5, ti43, un43, el43, ti45, Ty.fw, List.length_map, h2, h3, decide_true, decide_false, Bool.not_true, Bool.not_false, Int.reduceLT, Int.reduceEq, gt_iff_lt, ge_iff_le] <;> rfl) (awp_ret ?_)
      exact gives_end (.inl rfl) _ (by rw [decide_eq_false (fun e => h3 (((ty2 k2).1 e).2.1))]; rfl)
    by_cases h4 : (t.kids.length : Int) = 0
    rotate_left
    · refine awp_run rfl (by simp only [fwA, ↓reduceIte, Nat.reduceAdd, Nat.reduceMul, Nat.reduceEqDiff, Nat.reduceLT, Nat.reduceLeDiff, reduceCtorEq, fl45_0, ti3, fl45_2, fl45_3, fl45_4, fl45_5, ti43, un43, el43, ti45, Ty.fw, List.length_map, h2, h3, h4, decide_true, decide_false, Bool.not_true, Bool.not_false, Int.reduceLT, Int.reduceEq, gt_iff_lt, ge_iff_le] <;> rfl) (awp_ret ?_)
      exact gives_end (.inl rfl) _ (by rw [decide_eq_false (fun e => h4 (by have := ((ty2 k2).1 e).2.2; omega))]; rfl)
    refine awp_run rfl (by simp only [fwA, ↓reduceIte, Nat.reduceAdd, Nat.reduceMul, Nat.reduceEqDiff, Nat.reduceLT, Nat.reduceLeDiff, reduceCtorEq, fl45_0, ti3, fl45_2, fl45_3, fl45_4, fl45_5, ti43, un43, el43, ti45, Ty.fw, List.length_map, h2, h3, h4, decide_true, decide_false, Bool.not_true, Bool.not_false, Int.reduceLT, Int.reduceEq, gt_iff_lt, ge_iff_le] <;> rfl) (awp_ret ?_)
    exact gives_end (.inl rfl) _ (by rw [decide_eq_true ((ty2 k2).2 ⟨h2, h3, by omega⟩)]; rfl)
  simp only [k2, decide_false, Bool.false_eq_true, ↓reduceIte]
  refine awp_seq ?_
  refine awp_run rfl (by simp only [fwA, ↓reduceIte, Nat.reduceAdd, Nat.reduceMul, Nat.reduceEqDiff, Nat.reduceLT, Nat.reduceLeDiff, reduceCtorEq] <;> rfl) ?_
  refine awp_cond (by simp only [fwA, ↓reduceIte, Nat.reduceAdd, Nat.reduceMul, Nat.reduceEqDiff, Nat.reduceLT, Nat.reduceLeDiff, reduceCtorEq] <;> rfl) ?_
  by_cases k3 : t.kind = 3
  · simp only [k3, decide_true, ↓reduceIte]
    refine awp_seq ?_
    by_cases h0 : t.c = 0
    rotate_left
    · refine awp_run rfl (by simp only [fwA, ↓reduceIte, Nat.reduceAdd, Nat.reduceMul, Nat.reduceEqDiff, Nat.reduceLT, Nat.reduceLeDiff, reduceCtorEq, fl45_0, ti3, fl45_2, fl45_3, fl45_4, fl45_5, ti43, un43, el43, ti45, Ty.fw, List.length_map, h0, decide_true, decide_false, Bool.not_true, Bool.not_false, Int.reduceLT, Int.reduceEq, gt_iff_lt, ge_iff_le] <;> rfl) (awp_ret ?_)
      exact gives_end (.inl rfl) _ (by rw [decide_eq_false (fun e => h0 (((ty3 k3).1 e).1))]; rfl)
    by_cases h4 : (t.kids.length : Int) = 2
    rotate_left
    · refine awp_run rfl (by simp only [fwA, ↓reduceIte, Nat.reduceAdd, Nat.reduceMul, Nat.reduceEqDiff, Nat.reduceLT, Nat.reduceLeDiff, reduceCtorEq, fl45_0, ti3, fl45_2, fl45_3, fl45_4, fl45_5, ti43, un43, el43, ti45, Ty.fw, List.length_map, h0, h4, decide_true, decide_false, Bool.not_true, Bool.not_false, Int.reduceLT, Int.reduceEq, gt_iff_lt, ge_iff_le] <;> rfl) (awp_ret ?_)
      exact gives_end (.inl rfl) _ (by rw [decide_eq_false (fun e => h4 (by have := ((ty3 k3).1 e).2.1; omega))]; rfl)
    have hl2 : t.kids.length = 2 := by omega
    have g0 : (t.kids.map Ty.enc)[Int.toNat 0]? = some (kid t 0).enc := by rw [List.getElem?_map]; show (t.kids[0]?).map _ = _; rw [kid_get (by omega)]; rfl
    have g1 : (t.kids.map Ty.enc)[Int.toNat 1]? = some (kid t 1).enc := by rw [List.getElem?_map]; show (t.kids[1]?).map _ = _; rw [kid_get (by omega)]; rfl
    have ih0 := ih (kid t 0) (by have := Ty.kids_lt (kid_mem (t := t) (i := 0) (by omega)); omega)
    have ih1 := ih (kid t 1) (by have := Ty.kids_lt (kid_mem (t := t) (i := 1) (by omega)); omega)
    refine awp_region rfl ?_
    refine aops_run 14 (by simp only [fwA, ↓reduceIte, Nat.reduceAdd, Nat.reduceMul, Nat.reduceEqDiff, Nat.reduceLT, Nat.reduceLeDiff, reduceCtorEq, fl45_0, ti3, fl45_2, fl45_3, fl45_4, fl45_5, ti43, un43, el43, ti45, Ty.fw, List.length_map, h0, h4, g0, g1, Int.reduceLE, Int.le_refl, true_and, decide_true, decide_false, Bool.not_true, Bool.not_false, Int.reduceLT, Int.reduceEq, gt_iff_lt, ge_iff_le] <;> rfl) ?_
    refine aops_fnIf rfl rfl rfl rfl rfl en24 ih0 ?_
    by_cases r0 : (kid t 0).Right
    rotate_left
    · refine aops_run 9 (by simp only [fwA, ↓reduceIte, Nat.reduceAdd, Nat.reduceMul, Nat.reduceEqDiff, Nat.reduceLT, Nat.reduceLeDiff, reduceCtorEq, r0, decide_false] <;> rfl) (awp_ret ?_)
      exact gives_end (.inl rfl) _ (by rw [decide_eq_false (fun e => r0 (((ty3 k3).1 e).2.2.1))]; rfl)
    refine aops_run 6 (by simp only [fwA, ↓reduceIte, Nat.reduceAdd, Nat.reduceMul, Nat.reduceEqDiff, Nat.reduceLT, Nat.reduceLeDiff, reduceCtorEq, fl45_0, ti3, fl45_2, fl45_3, fl45_4, fl45_5, ti43, un43, el43, ti45, Ty.fw, r0, g0, g1, Int.reduceLE, Int.le_refl, true_and, decide_true] <;> rfl) ?_
    refine aops_fnIf rfl rfl rfl rfl rfl en24 ih1 ?_
    refine aops_run 2 (by simp only [fwA, ↓reduceIte, Nat.reduceAdd, Nat.reduceMul, Nat.reduceEqDiff, Nat.reduceLT, Nat.reduceLeDiff, reduceCtorEq] <;> rfl) (awp_ret ?_)
    by_cases r1 : (kid t 1).Right
    · exact gives_end (.inl rfl) _ (by rw [decide_eq_true ((ty3 k3).2 ⟨h0, hl2, r0, r1⟩)]; simp [ares, aresL, ares1, alook, aput, Tryd.f24, r1])
    · exact gives_end (.inl rfl) _ (by rw [decide_eq_false (fun e => r1 (((ty3 k3).1 e).2.2.2))]; simp [ares, aresL, ares1, alook, aput, Tryd.f24, r1])
  simp only [k3, decide_false, Bool.false_eq_true, ↓reduceIte]
  refine awp_skip ?_
  simp only [Post.block, Post.then]
  refine awp_seq (awp_run rfl (by simp only [fwA, ↓reduceIte, Nat.reduceAdd, Nat.reduceMul, Nat.reduceEqDiff, Nat.reduceLT, Nat.reduceLeDiff, reduceCtorEq] <;> rfl) (awp_ret ?_))
  exact gives_end (.inl rfl) _ (by rw [decide_eq_false (fun e => by have := e.node.1; have := e.node.2.1; omega)]; rfl)

/-- chancel/shape.Right -/
theorem c39 (Γ : Nat → PV) : ∀ t : Sh, Gives Tryd.prog Γ 39 [.agg t.enc] (.bool (decide t.Right)) := by
  suffices ∀ n, ∀ t : Sh, SizeOf.sizeOf t < n → Gives Tryd.prog Γ 39 [.agg t.enc] (.bool (decide t.Right)) from fun t => this _ t (Nat.lt_succ_self _)
  intro n
  induction n with
  | zero => intro a ha; omega
  | succ n ih =>
  intro t ha
  refine fn_of_awp Tryd.func39 rfl (by simp [Tryd.f39]) rfl fun H => ?_
  refine awp_seq ?_
  -- region 0
  refine awp_run rfl (by simp only [fwA, ↓reduceIte, Nat.reduceAdd, Nat.reduceMul, Nat.reduceEqDiff, Nat.reduceLT, Nat.reduceLeDiff, reduceCtorEq] <;> rfl) ?_
  refine awp_seq ?_
  -- region 1
  refine awp_run rfl (by simp only [fwA, ↓reduceIte, Nat.reduceAdd, Nat.reduceMul, Nat.reduceEqDiff, Nat.reduceLT, Nat.reduceLeDiff, reduceCtorEq] <;> rfl) ?_
  refine awp_seq ?_
  refine awp_seq ?_
  -- region 2
  refine awp_run rfl (by simp only [fwA, ↓reduceIte, Nat.reduceAdd, Nat.reduceMul, Nat.reduceEqDiff, Nat.reduceLT, Nat.reduceLeDiff, reduceCtorEq, fl26_0, ti3, fl26_1, fl26_2, ti24, un24, Sh.fw] <;> rfl) ?_
  refine awp_cond (by simp only [fwA, ↓reduceIte, Nat.reduceAdd, Nat.reduceMul, Nat.reduceEqDiff, Nat.reduceLT, Nat.reduceLeDiff, reduceCtorEq] <;> rfl) ?_
  by_cases k3 : t.kind = 3
  · simp only [k3, decide_true, ↓reduceIte]
    -- region 3
    refine awp_run rfl (by simp only [fwA, ↓reduceIte, Nat.reduceAdd, Nat.reduceMul, Nat.reduceEqDiff, Nat.reduceLT, Nat.reduceLeDiff, reduceCtorEq] <;> rfl) ?_
    refine awp_seq ?_
    refine awp_seq ?_
    -- region 4
    by_cases h0 : ¬ t.n < 0
    rotate_left
    · have h0 := Classical.not_not.1 h0
      refine awp_run rfl (by simp only [fwA, ↓reduceIte, Nat.reduceAdd, Nat.reduceMul, Nat.reduceEqDiff, Nat.reduceLT, Nat.reduceLeDiff, reduceCtorEq, fl26_0, ti3, fl26_1, fl26_2, ti24, un24, Sh.fw, List.length_map, k3, h0, decide_true, decide_false, Bool.not_true, Bool.not_false, Int.reduceLT, Int.reduceEq, gt_iff_lt, ge_iff_le] <;> rfl) ?_
      refine awp_cond (b := true) rfl ?_
      refine awp_seq (awp_run rfl (by simp only [fwA, ↓reduceIte, Nat.reduceAdd, Nat.reduceMul, Nat.reduceEqDiff, Nat.reduceLT, Nat.reduceLeDiff, reduceCtorEq] <;> rfl) (awp_ret ?_))
      exact gives_end (.inl rfl) _ (by rw [decide_eq_false (fun e => absurd h0 (by have := e.node.2.2.1; omega))]; rfl)
    by_cases h3 : t.n = 0
    rotate_left
    · refine awp_run rfl (by simp only [fwA, ↓reduceIte, Nat.reduceAdd, Nat.reduceMul, Nat.reduceEqDiff, Nat.reduceLT, Nat.reduceLeDiff, reduceCtorEq, fl26_0, ti3, fl26_1, fl26_2, ti24, un24, Sh.fw, List.length_map, k3, h0, h3, decide_true, decide_false, Bool.not_true, Bool.not_false, Int.reduceLT, Int.reduceEq, gt_iff_lt, ge_iff_le] <;> rfl) ?_
      refine awp_cond (b := true) rfl ?_
      refine awp_seq (awp_run rfl (by simp only [fwA, ↓reduceIte, Nat.reduceAdd, Nat.reduceMul, Nat.reduceEqDiff, Nat.reduceLT, Nat.reduceLeDiff, reduceCtorEq] <;> rfl) (awp_ret ?_))
      exact gives_end (.inl rfl) _ (by rw [decide_eq_false (fun e => h3 ((e.node.2.2.2.1).resolve_right (by omega)))]; rfl)
    by_cases h4 : (t.kids.length : Int) = 2
    rotate_left
    · refine awp_run rfl (by simp only [fwA, ↓reduceIte, Nat.reduceAdd, Nat.reduceMul, Nat.reduceEqDiff, Nat.reduceLT, Nat.reduceLeDiff, reduceCtorEq, fl26_0, ti3, fl26_1, fl26_2, ti24, un24, Sh.fw, List.length_map, k3, h0, h3, h4, decide_true, decide_false, Bool.not_true, Bool.not_false, Int.reduceLT, Int.reduceEq, gt_iff_lt, ge_iff_le] <;> rfl) ?_
      refine awp_cond (b := true) rfl ?_
      refine awp_seq (awp_run rfl (by simp only [fwA, ↓reduceIte, Nat.reduceAdd, Nat.reduceMul, Nat.reduceEqDiff, Nat.reduceLT, Nat.reduceLeDiff, reduceCtorEq] <;> rfl) (awp_ret ?_))
      exact gives_end (.inl rfl) _ (by rw [decide_eq_false (fun e => h4 (by have := e.node.2.2.2.2; unfold Sh.want at this; rw [if_pos k3] at this; omega))]; rfl)
    refine awp_run rfl (by simp only [fwA, ↓reduceIte, Nat.reduceAdd, Nat.reduceMul, Nat.reduceEqDiff, Nat.reduceLT, Nat.reduceLeDiff, reduceCtorEq, fl26_0, ti3, fl26_1, fl26_2, ti24, un24, Sh.fw, List.length_map, k3, h0, h3, h4, decide_true, decide_false, Bool.not_true, Bool.not_false, Int.reduceLT, Int.reduceEq, gt_iff_lt, ge_iff_le] <;> rfl) ?_
    refine awp_cond (b := false) rfl ?_
    refine awp_skip ?_
    have hn : t.node := ⟨by omega, by omega, by omega, .inl h3, by unfold Sh.want; rw [if_pos k3]; omega⟩
    refine awp_seq ?_
    -- region 6
    refine awp_region rfl ?_
    refine aops_run 2 (by simp only [fwA, ↓reduceIte, Nat.reduceAdd, Nat.reduceMul, Nat.reduceEqDiff, Nat.reduceLT, Nat.reduceLeDiff, reduceCtorEq, fl26_0, ti3, fl26_1, fl26_2, ti24, un24, Sh.fw] <;> rfl) ?_
    refine aops_fn rfl rfl rfl en56 (c56p Γ 57 en57 [] t.kids (fun x => !decide x.Right) fun x hx => c57 Γ x (ih x (by have := Sh.kids_lt hx; omega))) ?_
    refine aops_run 2 (by simp only [fwA, ↓reduceIte, Nat.reduceAdd, Nat.reduceMul, Nat.reduceEqDiff, Nat.reduceLT, Nat.reduceLeDiff, reduceCtorEq] <;> rfl) ?_
    refine awp_ret ?_
    rw [← sh_any hn]
    exact gives_end (.inl rfl) _ rfl
  simp only [k3, decide_false, Bool.false_eq_true, ↓reduceIte]
  refine awp_skip ?_
  refine awp_seq ?_
  refine awp_seq ?_
  -- region 4
  by_cases h1 : ¬ t.kind < 1
  rotate_left
  · have h1 := Classical.not_not.1 h1
    refine awp_run rfl (by simp only [fwA, ↓reduceIte, Nat.reduceAdd, Nat.reduceMul, Nat.reduceEqDiff, Nat.reduceLT, Nat.reduceLeDiff, reduceCtorEq, fl26_0, ti3, fl26_1, fl26_2, ti24, un24, Sh.fw, List.length_map, h1, decide_true, decide_false, Bool.not_true, Bool.not_false, Int.reduceLT, Int.reduceEq, gt_iff_lt, ge_iff_le] <;> rfl) ?_
    refine awp_cond (b := true) rfl ?_
    refine awp_seq (awp_run rfl (by simp only [fwA, ↓reduceIte, Nat.reduceAdd, Nat.reduceMul, Nat.reduceEqDiff, Nat.reduceLT, Nat.reduceLeDiff, reduceCtorEq] <;> rfl) (awp_ret ?_))
    exact gives_end (.inl rfl) _ (by rw [decide_eq_false (fun e => absurd h1 (by have := e.node.1; omega))]; rfl)
  by_cases h2 : ¬ 4 < t.kind
  rotate_left
  · have h2 := Classical.not_not.1 h2
    refine awp_run rfl (by simp only [fwA, ↓reduceIte, Nat.reduceAdd, Nat.reduceMul, Nat.reduceEqDiff, Nat.reduceLT, Nat.reduceLeDiff, reduceCtorEq, fl26_0, ti3, fl26_1, fl26_2, ti24, un24, Sh.fw, List.length_map, h1, h2, decide_true, decide_false, Bool.not_true, Bool.not_false, Int.reduceLT, Int.reduceEq, gt_iff_lt, ge_iff_le] <;> rfl) ?_
    refine awp_cond (b := true) rfl ?_
    refine awp_seq (awp_run rfl (by simp only [fwA, ↓reduceIte, Nat.reduceAdd, Nat.reduceMul, Nat.reduceEqDiff, Nat.reduceLT, Nat.reduceLeDiff, reduceCtorEq] <;> rfl) (awp_ret ?_))
    exact gives_end (.inl rfl) _ (by rw [decide_eq_false (fun e => absurd h2 (by have := e.node.2.1; omega))]; rfl)
  by_cases h0 : ¬ t.n < 0
  rotate_left
  · have h0 := Classical.not_not.1 h0
    refine awp_run rfl (by simp only [fwA, ↓reduceIte, Nat.reduceAdd, Nat.reduceMul, Nat.reduceEqDiff, Nat.reduceLT, Nat.reduceLeDiff, reduceCtorEq, fl26_0, ti3, fl26_1, fl26_2, ti24, un24, Sh.fw, List.length_map, h1, h2, h0, decide_true, decide_false, Bool.not_true, Bool.not_false, Int.reduceLT, Int.reduceEq, gt_iff_lt, ge_iff_le] <;> rfl) ?_
    refine awp_cond (b := true) rfl ?_
    refine awp_seq (awp_run rfl (by simp only [fwA, ↓reduceIte, Nat.reduceAdd, Nat.reduceMul, Nat.reduceEqDiff, Nat.reduceLT, Nat.reduceLeDiff, reduceCtorEq] <;> rfl) (awp_ret ?_))
    exact gives_end (.inl rfl) _ (by rw [decide_eq_false (fun e => absurd h0 (by have := e.node.2.2.1; omega))]; rfl)
  by_cases h3 : t.n = 0
  · by_cases h4 : (t.kids.length : Int) = 0
    rotate_left
    · refine awp_run rfl (by simp only [fwA, ↓reduceIte, Nat.reduceAdd, Nat.reduceMul, Nat.reduceEqDiff, Nat.reduceLT, Nat.reduceLeDiff, reduceCtorEq, fl26_0, ti3, fl26_1, fl26_2, ti24, un24, Sh.fw, List.length_map, h1, h2, h0, h3, h4, decide_true, decide_false, Bool.not_true, Bool.not_false, Int.reduceLT, Int.reduceEq, gt_iff_lt, ge_iff_le] <;> rfl) ?_
      refine awp_cond (b := true) rfl ?_
      refine awp_seq (awp_run rfl (by simp only [fwA, ↓reduceIte, Nat.reduceAdd, Nat.reduceMul, Nat.reduceEqDiff, Nat.reduceLT, Nat.reduceLeDiff, reduceCtorEq] <;> rfl) (awp_ret ?_))
      exact gives_end (.inl rfl) _ (by rw [decide_eq_false (fun e => h4 (by have := e.node.2.2.2.2; unfold Sh.want at this; rw [if_neg k3] at this; omega))]; rfl)
    refine awp_run rfl (by simp only [fwA, ↓reduceIte, Nat.reduceAdd, Nat.reduceMul, Nat.reduceEqDiff, Nat.reduceLT, Nat.reduceLeDiff, reduceCtorEq, fl26_0, ti3, fl26_1, fl26_2, ti24, un24, Sh.fw, List.length_map, h1, h2, h0, h3, h4, decide_true, decide_false, Bool.not_true, Bool.not_false, Int.reduceLT, Int.reduceEq, gt_iff_lt, ge_iff_le] <;> rfl) ?_
    refine awp_cond (b := false) rfl ?_
    refine awp_skip ?_
    have hn : t.node := ⟨by omega, by omega, by omega, .inl h3, by unfold Sh.want; rw [if_neg k3]; omega⟩
    refine awp_seq ?_
    -- region 6
    refine awp_region rfl ?_
    refine aops_run 2 (by simp only [fwA, ↓reduceIte, Nat.reduceAdd, Nat.reduceMul, Nat.reduceEqDiff, Nat.reduceLT, Nat.reduceLeDiff, reduceCtorEq, fl26_0, ti3, fl26_1, fl26_2, ti24, un24, Sh.fw] <;> rfl) ?_
    refine aops_fn rfl rfl rfl en56 (c56p Γ 57 en57 [] t.kids (fun x => !decide x.Right) fun x hx => c57 Γ x (ih x (by have := Sh.kids_lt hx; omega))) ?_
    refine aops_run 2 (by simp only [fwA, ↓reduceIte, Nat.reduceAdd, Nat.reduceMul, Nat.reduceEqDiff, Nat.reduceLT, Nat.reduceLeDiff, reduceCtorEq] <;> rfl) ?_
    refine awp_ret ?_
    rw [← sh_any hn]
    exact gives_end (.inl rfl) _ rfl
  · by_cases k4 : t.kind = 4
    rotate_left
    · refine awp_run rfl (by simp only [fwA, ↓reduceIte, Nat.reduceAdd, Nat.reduceMul, Nat.reduceEqDiff, Nat.reduceLT, Nat.reduceLeDiff, reduceCtorEq, fl26_0, ti3, fl26_1, fl26_2, ti24, un24, Sh.fw, List.length_map, h1, h2, h0, h3, k4, decide_true, decide_false, Bool.not_true, Bool.not_false, Int.reduceLT, Int.reduceEq, gt_iff_lt, ge_iff_le] <;> rfl) ?_
      refine awp_cond (b := true) rfl ?_
      refine awp_seq (awp_run rfl (by simp only [fwA, ↓reduceIte, Nat.reduceAdd, Nat.reduceMul, Nat.reduceEqDiff, Nat.reduceLT, Nat.reduceLeDiff, reduceCtorEq] <;> rfl) (awp_ret ?_))
      exact gives_end (.inl rfl) _ (by rw [decide_eq_false (fun e => k4 ((e.node.2.2.2.1).resolve_left h3))]; rfl)
    by_cases h4 : (t.kids.length : Int) = 0
    rotate_left
    · refine awp_run rfl (by simp only [fwA, ↓reduceIte, Nat.reduceAdd, Nat.reduceMul, Nat.reduceEqDiff, Nat.reduceLT, Nat.reduceLeDiff, reduceCtorEq, fl26_0, ti3, fl26_1, fl26_2, ti24, un24, Sh.fw, List.length_map, h1, h2, h0, h3, k4, h4, decide_true, decide_false, Bool.not_true, Bool.not_false, Int.reduceLT, Int.reduceEq, gt_iff_lt, ge_iff_le] <;> rfl) ?_
      refine awp_cond (b := true) rfl ?_
      refine awp_seq (awp_run rfl (by simp only [fwA, ↓reduceIte, Nat.reduceAdd, Nat.reduceMul, Nat.reduceEqDiff, Nat.reduceLT, Nat.reduceLeDiff, reduceCtorEq] <;> rfl) (awp_ret ?_))
      exact gives_end (.inl rfl) _ (by rw [decide_eq_false (fun e => h4 (by have := e.node.2.2.2.2; unfold Sh.want at this; rw [if_neg k3] at this; omega))]; rfl)
    refine awp_run rfl (by simp only [fwA, ↓reduceIte, Nat.reduceAdd, Nat.reduceMul, Nat.reduceEqDiff, Nat.reduceLT, Nat.reduceLeDiff, reduceCtorEq, fl26_0, ti3, fl26_1, fl26_2, ti24, un24, Sh.fw, List.length_map, h1, h2, h0, h3, k4, h4, decide_true, decide_false, Bool.not_true, Bool.not_false, Int.reduceLT, Int.reduceEq, gt_iff_lt, ge_iff_le] <;> rfl) ?_
    refine awp_cond (b := false) rfl ?_
    refine awp_skip ?_
    have hn : t.node := ⟨by omega, by omega, by omega, .inr k4, by unfold Sh.want; rw [if_neg k3]; omega⟩
    refine awp_seq ?_
    -- region 6
    refine awp_region rfl ?_
    refine aops_run 2 (by simp only [fwA, ↓reduceIte, Nat.reduceAdd, Nat.reduceMul, Nat.reduceEqDiff, Nat.reduceLT, Nat.reduceLeDiff, reduceCtorEq, fl26_0, ti3, fl26_1, fl26_2, ti24, un24, Sh.fw] <;> rfl) ?_
    refine aops_fn rfl rfl rfl en56 (c56p Γ 57 en57 [] t.kids (fun x => !decide x.Right) fun x hx => c57 Γ x (ih x (by have := Sh.kids_lt hx; omega))) ?_
    refine aops_run 2 (by simp only [fwA, ↓reduceIte, Nat.reduceAdd, Nat.reduceMul, Nat.reduceEqDiff, Nat.reduceLT, Nat.reduceLeDiff, reduceCtorEq] <;> rfl) ?_
    refine awp_ret ?_
    rw [← sh_any hn]
    exact gives_end (.inl rfl) _ rfl

/-- chancel/chancelref08.Right -/
theorem c42 (Γ : Nat → PV) : ∀ t : Sh, Gives Tryd.prog Γ 42 [.agg t.enc] (.bool (decide t.Right)) := by
  suffices ∀ n, ∀ t : Sh, SizeOf.sizeOf t < n → Gives Tryd.prog Γ 42 [.agg t.enc] (.bool (decide t.Right)) from fun t => this _ t (Nat.lt_succ_self _)
  intro n
  induction n with
  | zero => intro a ha; omega
  | succ n ih =>
  intro t ha
  refine fn_of_awp Tryd.func42 rfl (by simp [Tryd.f42]) rfl fun H => ?_
  refine awp_seq ?_
  -- region 0
  refine awp_run rfl (by simp only [fwA, ↓reduceIte, Nat.reduceAdd, Nat.reduceMul, Nat.reduceEqDiff, Nat.reduceLT, Nat.reduceLeDiff, reduceCtorEq] <;> rfl) ?_
  refine awp_seq ?_
  refine awp_seq ?_
  -- region 1
  refine awp_run rfl (by simp only [fwA, ↓reduceIte, Nat.reduceAdd, Nat.reduceMul, Nat.reduceEqDiff, Nat.reduceLT, Nat.reduceLeDiff, reduceCtorEq, fl51_0, ti3, fl51_1, fl51_2, ti49, un49, el49, ti51, Sh.fw] <;> rfl) ?_
  refine awp_block ?_
  refine awp_seq ?_
  refine awp_seq ?_
  -- region 2
  refine awp_run rfl (by simp only [fwA, ↓reduceIte, Nat.reduceAdd, Nat.reduceMul, Nat.reduceEqDiff, Nat.reduceLT, Nat.reduceLeDiff, reduceCtorEq] <;> rfl) ?_
  refine awp_cond (by simp only [fwA, ↓reduceIte, Nat.reduceAdd, Nat.reduceMul, Nat.reduceEqDiff, Nat.reduceLT, Nat.reduceLeDiff, reduceCtorEq] <;> rfl) ?_
  by_cases k1 : t.kind = 1
  · simp only [k1, decide_true, ↓reduceIte]
    refine awp_skip ?_
    refine awp_cond (b := true) (by simp only [fwA, ↓reduceIte, Nat.reduceAdd, Nat.reduceMul, Nat.reduceEqDiff, Nat.reduceLT, Nat.reduceLeDiff, reduceCtorEq, k1, decide_true] <;> rfl) ?_
    refine awp_seq ?_
    by_cases h3 : t.n = 0
    rotate_left
    · refine awp_run rfl (by simp only [fwA, ↓reduceIte, Nat.reduceAdd, Nat.reduceMul, Nat.reduceEqDiff, Nat.reduceLT, Nat.reduceLeDiff, reduceCtorEq, fl51_0, ti3, fl51_1, fl51_2, ti49, un49, el49, ti51, Sh.fw, List.length_map, h3, decide_true, decide_false, Bool.not_true, Bool.not_false, Int.reduceLT, Int.reduceEq, gt_iff_lt, ge_iff_le] <;> rfl) (awp_ret ?_)
      exact gives_end (.inl rfl) _ (by rw [decide_eq_false (fun e => h3 (((sh12 (.inl k1)).1 e).1))]; rfl)
    by_cases h4 : (t.kids.length : Int) = 0
    rotate_left
    · refine awp_run rfl (by simp only [fwA, ↓reduceIte, Nat.reduceAdd, Nat.reduceMul, Nat.reduceEqDiff, Nat.reduceLT, Nat.reduceLeDiff, reduceCtorEq, fl51_0, ti3, fl51_1, fl51_2, ti49, un49, el49, ti51, Sh.fw, List.length_map, h3, h4, decide_true, decide_false, Bool.not_true, Bool.not_false, Int.reduceLT, Int.reduceEq, gt_iff_lt, ge_iff_le] <;> rfl) (awp_ret ?_)
      exact gives_end (.inl rfl) _ (by rw [decide_eq_false (fun e => h4 (by have := ((sh12 (.inl k1)).1 e).2; omega))]; rfl)
    refine awp_run rfl (by simp only [fwA, ↓reduceIte, Nat.reduceAdd, Nat.reduceMul, Nat.reduceEqDiff, Nat.reduceLT, Nat.reduceLeDiff, reduceCtorEq, fl51_0, ti3, fl51_1, fl51_2, ti49, un49, el49, ti51, Sh.fw, List.length_map, h3, h4, decide_true, decide_false, Bool.not_true, Bool.not_false, Int.reduceLT, Int.reduceEq, gt_iff_lt, ge_iff_le] <;> rfl) (awp_ret ?_)
    exact gives_end (.inl rfl) _ (by rw [decide_eq_true ((sh12 (.inl k1)).2 ⟨h3, by omega⟩)]; rfl)
  simp only [k1, decide_false, Bool.false_eq_true, ↓reduceIte]
  -- region 3
  refine awp_run rfl (by simp only [fwA, ↓reduceIte, Nat.reduceAdd, Nat.reduceMul, Nat.reduceEqDiff, Nat.reduceLT, Nat.reduceLeDiff, reduceCtorEq] <;> rfl) ?_
  refine awp_cond (by simp only [fwA, ↓reduceIte, Nat.reduceAdd, Nat.reduceMul, Nat.reduceEqDiff, Nat.reduceLT, Nat.reduceLeDiff, reduceCtorEq] <;> rfl) ?_
  by_cases k2 : t.kind = 2
  · simp only [k2, decide_true, ↓reduceIte]
    refine awp_seq ?_
    by_cases h3 : t.n = 0
    rotate_left
    · refine awp_run rfl (by simp only [fwA, ↓reduceIte, Nat.reduceAdd, Nat.reduceMul, Nat.reduceEqDiff, Nat.reduceLT, Nat.reduceLeDiff, reduceCtorEq, fl51_0, ti3, fl51_1, fl51_2, ti49, un49, el49, ti51, Sh.fw, List.length_map, h3, decide_true, decide_false, Bool.not_true, Bool.not_false, Int.reduceLT, Int.reduceEq, gt_iff_lt, ge_iff_le] <;> rfl) (awp_ret ?_)
      exact gives_end (.inl rfl) _ (by rw [decide_eq_false (fun e => h3 (((sh12 (.inr k2)).1 e).1))]; rfl)
    by_cases h4 : (t.kids.length : Int) = 0
    rotate_left
    · refine awp_run rfl (by simp only [fwA, ↓reduceIte, Nat.reduceAdd, Nat.reduceMul, Nat.reduceEqDiff, Nat.reduceLT, Nat.reduceLeDiff, reduceCtorEq, fl51_0, ti3, fl51_1, fl51_2, ti49, un49, el49, ti51, Sh.fw, List.length_map, h3, h4, decide_true, decide_false, Bool.not_true, Bool.not_false, Int.reduceLT, Int.reduceEq, gt_iff_lt, ge_iff_le] <;> rfl) (awp_ret ?_)
      exact gives_end (.inl rfl) _ (by rw [decide_eq_false (fun e => h4 (by have := ((sh12 (.inr k2)).1 e).2; omega))]; rfl)
    refine awp_run rfl (by simp only [fwA, ↓reduceIte, Nat.reduceAdd, Nat.reduceMul, Nat.reduceEqDiff, Nat.reduceLT, Nat.reduceLeDiff, reduceCtorEq, fl51_0, ti3, fl51_1, fl51_2, ti49, un49, el49, ti51, Sh.fw, List.length_map, h3, h4, decide_true, decide_false, Bool.not_true, Bool.not_false, Int.reduceLT, Int.reduceEq, gt_iff_lt, ge_iff_le] <;> rfl) (awp_ret ?_)
    exact gives_end (.inl rfl) _ (by rw [decide_eq_true ((sh12 (.inr k2)).2 ⟨h3, by omega⟩)]; rfl)
  simp only [k2, decide_false, Bool.false_eq_true, ↓reduceIte]
  refine awp_seq ?_
  refine awp_run rfl (by simp only [fwA, ↓reduceIte, Nat.reduceAdd, Nat.reduceMul, Nat.reduceEqDiff, Nat.reduceLT, Nat.reduceLeDiff, reduceCtorEq] <;> rfl) ?_
  refine awp_cond (by simp only [fwA, ↓reduceIte, Nat.reduceAdd, Nat.reduceMul, Nat.reduceEqDiff, Nat.reduceLT, Nat.reduceLeDiff, reduceCtorEq] <;> rfl) ?_
  by_cases k3 : t.kind = 3
  · simp only [k3, decide_true, ↓reduceIte]
    refine awp_seq ?_
    by_cases h0 : t.n = 0
    rotate_left
    · refine awp_run rfl (by simp only [fwA, ↓reduceIte, Nat.reduceAdd, Nat.reduceMul, Nat.reduceEqDiff, Nat.reduceLT, Nat.reduceLeDiff, reduceCtorEq, fl51_0, ti3, fl51_1, fl51_2, ti49, un49, el49, ti51, Sh.fw, List.length_map, h0, decide_true, decide_false, Bool.not_true, Bool.not_false, Int.reduceLT, Int.reduceEq, gt_iff_lt, ge_iff_le] <;> rfl) (awp_ret ?_)
      exact gives_end (.inl rfl) _ (by rw [decide_eq_false (fun e => h0 (((sh3 k3).1 e).1))]; rfl)
    by_cases h4 : (t.kids.length : Int) = 2
    rotate_left
    · refine awp_run rfl (by simp only [fwA, ↓reduceIte, Nat.reduceAdd, Nat.reduceMul, Nat.reduceEqDiff, Nat.reduceLT, Nat.reduceLeDiff, reduceCtorEq, fl51_0, ti3, fl51_1, fl51_2, ti49, un49, el49, ti51, Sh.fw, List.length_map, h0, h4, decide_true, decide_false, Bool.not_true, Bool.not_false, Int.reduceLT, Int.reduceEq, gt_iff_lt, ge_iff_le] <;> rfl) (awp_ret ?_)
      exact gives_end (.inl rfl) _ (by rw [decide_eq_false (fun e => h4 (by have := ((sh3 k3).1 e).2.1; omega))]; rfl)
    have hl2 : t.kids.length = 2 := by omega
    have g0 : (t.kids.map Sh.enc)[Int.toNat 0]? = some (kidS t 0).enc := by rw [List.getElem?_map]; show (t.kids[0]?).map _ = _; rw [kidS_get (by omega)]; rfl
    have g1 : (t.kids.map Sh.enc)[Int.toNat 1]? = some (kidS t 1).enc := by rw [List.getElem?_map]; show (t.kids[1]?).map _ = _; rw [kidS_get (by omega)]; rfl
    have ih0 := ih (kidS t 0) (by have := Sh.kids_lt (kidS_mem (t := t) (i := 0) (by omega)); omega)
    have ih1 := ih (kidS t 1) (by have := Sh.kids_lt (kidS_mem (t := t) (i := 1) (by omega)); omega)
    refine awp_region rfl ?_
    refine aops_run 14 (by simp only [fwA, ↓reduceIte, Nat.reduceAdd, Nat.reduceMul, Nat.reduceEqDiff, Nat.reduceLT, Nat.reduceLeDiff, reduceCtorEq, fl51_0, ti3, fl51_1, fl51_2, ti49, un49, el49, ti51, Sh.fw, List.length_map, h0, h4, g0, g1, Int.reduceLE, Int.le_refl, true_and, decide_true, decide_false, Bool.not_true, Bool.not_false, Int.reduceLT, Int.reduceEq, gt_iff_lt, ge_iff_le] <;> rfl) ?_
    refine aops_fnIf rfl rfl rfl rfl rfl en42 ih0 ?_
    by_cases r0 : (kidS t 0).Right
    rotate_left
    · refine aops_run 9 (by simp only [fwA, ↓reduceIte, Nat.reduceAdd, Nat.reduceMul, Nat.reduceEqDiff, Nat.reduceLT, Nat.reduceLeDiff, reduceCtorEq, r0, decide_false] <;> rfl) (awp_ret ?_)
      exact gives_end (.inl rfl) _ (by rw [decide_eq_false (fun e => r0 (((sh3 k3).1 e).2.2.1))]; rfl)
    refine aops_run 6 (by simp only [fwA, ↓reduceIte, Nat.reduceAdd, Nat.reduceMul, Nat.reduceEqDiff, Nat.reduceLT, Nat.reduceLeDiff, reduceCtorEq, fl51_0, ti3, fl51_1, fl51_2, ti49, un49, el49, ti51, Sh.fw, r0, g0, g1, Int.reduceLE, Int.le_refl, true_and, decide_true] <;> rfl) ?_
    refine aops_fnIf rfl rfl rfl rfl rfl en42 ih1 ?_
    refine aops_run 2 (by simp only [fwA, ↓reduceIte, Nat.reduceAdd, Nat.reduceMul, Nat.reduceEqDiff, Nat.reduceLT, Nat.reduceLeDiff, reduceCtorEq] <;> rfl) (awp_ret ?_)
    by_cases r1 : (kidS t 1).Right
    · exact gives_end (.inl rfl) _ (by rw [decide_eq_true ((sh3 k3).2 ⟨h0, hl2, r0, r1⟩)]; simp [ares, aresL, ares1, alook, aput, Tryd.f42, r1])
    · exact gives_end (.inl rfl) _ (by rw [decide_eq_false (fun e => r1 (((sh3 k3).1 e).2.2.2))]; simp [ares, aresL, ares1, alook, aput, Tryd.f42, r1])
  simp only [k3, decide_false, Bool.false_eq_true, ↓reduceIte]
  refine awp_seq ?_
  refine awp_run rfl (by simp only [fwA, ↓reduceIte, Nat.reduceAdd, Nat.reduceMul, Nat.reduceEqDiff, Nat.reduceLT, Nat.reduceLeDiff, reduceCtorEq] <;> rfl) ?_
  refine awp_cond (by simp only [fwA, ↓reduceIte, Nat.reduceAdd, Nat.reduceMul, Nat.reduceEqDiff, Nat.reduceLT, Nat.reduceLeDiff, reduceCtorEq] <;> rfl) ?_
  by_cases k4 : t.kind = 4
  · simp only [k4, decide_true, ↓reduceIte]
    refine awp_seq ?_
    by_cases h3 : 0 ≤ t.n
    rotate_left
    · refine awp_run rfl (by simp only [fwA, ↓reduceIte, Nat.reduceAdd, Nat.reduceMul, Nat.reduceEqDiff, Nat.reduceLT, Nat.reduceLeDiff, reduceCtorEq, fl51_0, ti3, fl51_1, fl51_2, ti49, un49, el49, ti51, Sh.fw, List.length_map, h3, decide_true, decide_false, Bool.not_true, Bool.not_false, Int.reduceLT, Int.reduceEq, gt_iff_lt, ge_iff_le] <;> rfl) (awp_ret ?_)
      exact gives_end (.inl rfl) _ (by rw [decide_eq_false (fun e => h3 (((sh4 k4).1 e).1))]; rfl)
    by_cases h4 : (t.kids.length : Int) = 0
    rotate_left
    · refine awp_run rfl (by simp only [fwA, ↓reduceIte, Nat.reduceAdd, Nat.reduceMul, Nat.reduceEqDiff, Nat.reduceLT, Nat.reduceLeDiff, reduceCtorEq, fl51_0, ti3, fl51_1, fl51_2, ti49, un49, el49, ti51, Sh.fw, List.length_map, h3, h4, decide_true, decide_false, Bool.not_true, Bool.not_false, Int.reduceLT, Int.reduceEq, gt_iff_lt, ge_iff_le] <;> rfl) (awp_ret ?_)
      exact gives_end (.inl rfl) _ (by rw [decide_eq_false (fun e => h4 (by have := ((sh4 k4).1 e).2; omega))]; rfl)
    refine awp_run rfl (by simp only [fwA, ↓reduceIte, Nat.reduceAdd, Nat.reduceMul, Nat.reduceEqDiff, Nat.reduceLT, Nat.reduceLeDiff, reduceCtorEq, fl51_0, ti3, fl51_1, fl51_2, ti49, un49, el49, ti51, Sh.fw, List.length_map, h3, h4, decide_true, decide_false, Bool.not_true, Bool.not_false, Int.reduceLT, Int.reduceEq, gt_iff_lt, ge_iff_le] <;> rfl) (awp_ret ?_)
    exact gives_end (.inl rfl) _ (by rw [decide_eq_true ((sh4 k4).2 ⟨h3, by omega⟩)]; rfl)
  simp only [k4, decide_false, Bool.false_eq_true, ↓reduceIte]
  refine awp_skip ?_
  simp only [Post.block, Post.then]
  refine awp_seq (awp_run rfl (by simp only [fwA, ↓reduceIte, Nat.reduceAdd, Nat.reduceMul, Nat.reduceEqDiff, Nat.reduceLT, Nat.reduceLeDiff, reduceCtorEq] <;> rfl) (awp_ret ?_))
  exact gives_end (.inl rfl) _ (by rw [decide_eq_false (fun e => by have := e.node.1; have := e.node.2.1; omega)]; rfl)

end Go.Proofs.YtlnffadolfkggaaDoor

/- The contracts of small functions: atoms, pairs, shapes by bytes. -/
namespace Go.Proofs.YtlnffadolfkggaaDoor
set_option linter.unusedVariables false
set_option linter.unusedSimpArgs false
set_option maxRecDepth 100000
open Go.RowKit Fw

/-- chancel/chancellaw13.refAtoms -/
theorem c18 (Γ : Nat → PV) (l : List Int) (hlb : l.length * 8 ≤ 140737488355328) : Gives Tryd.prog Γ 18 [.vec (l.map I1) false] (.vec (l.map I1) false) := by
  refine fn_of_awp Tryd.func18 rfl (by simp [Tryd.f18]) rfl fun H => ?_
  refine awp_seq ?_
  -- region 0
  refine awp_run rfl (by simp only [fwA, ↓reduceIte, Nat.reduceAdd, Nat.reduceMul, Nat.reduceEqDiff, Nat.reduceLT, Nat.reduceLeDiff, reduceCtorEq] <;> rfl) ?_
  refine awp_seq ?_
  -- region 1
  refine awp_run rfl (by simp only [fwA, ↓reduceIte, Nat.reduceAdd, Nat.reduceMul, Nat.reduceEqDiff, Nat.reduceLT, Nat.reduceLeDiff, reduceCtorEq] <;> rfl) ?_
  refine awp_seq ?_
  refine awp_seq ?_
  -- region 2
  refine awp_run rfl (by simp only [fwA, ↓reduceIte, Nat.reduceAdd, Nat.reduceMul, Nat.reduceEqDiff, Nat.reduceLT, Nat.reduceLeDiff, reduceCtorEq] <;> rfl) ?_
  refine awp_told (told_adopt 3 1 (by decide) rfl) ?_
  refine awp_block ?_
  refine awp_for [0, 3, 4] (fun i : Nat => [.vec (l.map I1) false, .row H.length 0 i 1, .int .i64 (i : Int)])
    (fun i => H ++ [.row 1 ((l.take i).map I1).flatten])
    (fun i => l.length - i) (fun i => i ≤ l.length) 0 rfl rfl (Nat.zero_le _) fun i hi => ?_
  have hti : (l.take i).length = i := by simp; omega
  refine awp_seq ?_
  refine awp_seq ?_
  -- region 3
  refine awp_run rfl (by simp only [fwA, ↓reduceIte, Nat.reduceAdd, Nat.reduceMul, Nat.reduceEqDiff, Nat.reduceLT, Nat.reduceLeDiff, reduceCtorEq, un42, el42, ti28, un56, ti3, List.length_map] <;> rfl) ?_
  refine awp_vlen 0 rfl fun hlen => ?_
  rw [List.length_map] at hlen
  refine awp_cond (by simp only [fwA, ↓reduceIte, Nat.reduceAdd, Nat.reduceMul, Nat.reduceEqDiff, Nat.reduceLT, Nat.reduceLeDiff, reduceCtorEq] <;> rfl) ?_
  by_cases hc : (i : Int) < l.length
  rotate_left
  · simp only [hc, decide_false, Bool.false_eq_true, ↓reduceIte]
    refine awp_exit ?_
    have hi' : i = l.length := by omega
    refine awp_told (told_freezeAt H _ 0 (C := ((l.take i).map I1).flatten) rfl (flat_bd (fun t => by simp only [I1_fw]) _)) ?_
    have hl : (((l.take i).map I1).flatten).length = i * 1 := by rw [flat_len (sz := 1) (fun _ => by simp only [I1_fw]), hti]
    have hch : chunk 1 i (((l.take i).map I1).flatten) = (l.take i).map I1 := by
      have := flat_chunk (enc := I1) (sz := 1) (fun _ => by simp only [I1_fw]) (l.take i)
      rwa [hti] at this
    refine awp_seq (awp_run rfl (by simp only [fwA, ↓reduceIte, Nat.reduceAdd, Nat.reduceMul, Nat.reduceEqDiff, Nat.reduceLT, Nat.reduceLeDiff, reduceCtorEq, hl, hch] <;> rfl) (awp_ret ?_))
    refine gives_end (.inl rfl) _ ?_
    simp only [fwA, ↓reduceIte, Nat.reduceAdd, Nat.reduceMul, Nat.reduceEqDiff, Nat.reduceLT, Nat.reduceLeDiff, reduceCtorEq, ares, aresL, ares1, Tryd.f18, hi', List.take_length]
  simp only [hc, decide_true, ↓reduceIte]
  refine awp_skip ?_
  have hia : i < l.length := by omega
  have ga : l[i]? = some l[i] := List.getElem?_eq_getElem hia
  refine awp_seq ?_
  refine awp_block ?_
  refine awp_region rfl ?_
  refine aops_run 6 (by simp only [fwA, ↓reduceIte, Nat.reduceAdd, Nat.reduceMul, Nat.reduceEqDiff, Nat.reduceLT, Nat.reduceLeDiff, reduceCtorEq, un42, el42, ti28, un56, ti3, I1_fw, List.getElem?_map, ga, Option.map_some, Int.natCast_nonneg] <;> rfl) ?_
  refine aops_one rfl (os_appendR rfl un56 ti3 un56 (.inl ⟨_, rfl⟩) rfl (by simp only [fwA, ↓reduceIte, Nat.reduceAdd, Nat.reduceMul, Nat.reduceEqDiff, Nat.reduceLT, Nat.reduceLeDiff, reduceCtorEq] <;> rfl) (by rw [flat_len (sz := 1) (fun _ => by simp only [I1_fw]), hti]; exact (Nat.zero_add _).symm) rfl (fun es f h e he => by
      simp only [fwA, ↓reduceIte, Nat.reduceAdd, Nat.reduceMul, Nat.reduceEqDiff, Nat.reduceLT, Nat.reduceLeDiff, reduceCtorEq, PV.vec.injEq] at h
      obtain ⟨rfl, rfl⟩ := h
      simp only [List.mem_singleton] at he
      subst he; rfl) rfl (by show (i + 1) * 8 ≤ _; omega) (by show i + 1 ≤ _; omega) ?_)
  refine aops_run 1 (by simp only [fwA, ↓reduceIte, Nat.reduceAdd, Nat.reduceMul, Nat.reduceEqDiff, Nat.reduceLT, Nat.reduceLeDiff, reduceCtorEq, un42, el42, ti28, un56, ti3] <;> rfl) ?_
  -- the next
  refine awp_run rfl (by simp only [fwA, ↓reduceIte, Nat.reduceAdd, Nat.reduceMul, Nat.reduceEqDiff, Nat.reduceLT, Nat.reduceLeDiff, reduceCtorEq] <;> rfl) ?_
  refine ⟨i + 1, by omega, by omega, by rw [wrapS i (by omega)]; rfl, ?_, rfl⟩
  rw [flatten_enc I1 _ _ _ ga]
  rfl

/-- chancel/chancellaw13.refPairs -/
theorem c46 (Γ : Nat → PV) (l : List Pr) (hlb : l.length * 16 ≤ 140737488355328) : Gives Tryd.prog Γ 46 [.vec (l.map Pr.enc) false] (.vec (l.map Pr.enc) false) := by
  refine fn_of_awp Tryd.func46 rfl (by simp [Tryd.f46]) rfl fun H => ?_
  refine awp_seq ?_
  -- region 0
  refine awp_run rfl (by simp only [fwA, ↓reduceIte, Nat.reduceAdd, Nat.reduceMul, Nat.reduceEqDiff, Nat.reduceLT, Nat.reduceLeDiff, reduceCtorEq] <;> rfl) ?_
  refine awp_seq ?_
  -- region 1
  refine awp_run rfl (by simp only [fwA, ↓reduceIte, Nat.reduceAdd, Nat.reduceMul, Nat.reduceEqDiff, Nat.reduceLT, Nat.reduceLeDiff, reduceCtorEq] <;> rfl) ?_
  refine awp_seq ?_
  refine awp_seq ?_
  -- region 2
  refine awp_run rfl (by simp only [fwA, ↓reduceIte, Nat.reduceAdd, Nat.reduceMul, Nat.reduceEqDiff, Nat.reduceLT, Nat.reduceLeDiff, reduceCtorEq] <;> rfl) ?_
  refine awp_told (told_adopt 3 2 (by decide) rfl) ?_
  refine awp_block ?_
  refine awp_for [0, 3, 4] (fun i : Nat => [.vec (l.map Pr.enc) false, .row H.length 0 i 2, .int .i64 (i : Int)])
    (fun i => H ++ [.row 2 ((l.take i).map Pr.enc).flatten])
    (fun i => l.length - i) (fun i => i ≤ l.length) 0 rfl rfl (Nat.zero_le _) fun i hi => ?_
  have hti : (l.take i).length = i := by simp; omega
  refine awp_seq ?_
  refine awp_seq ?_
  -- region 3
  refine awp_run rfl (by simp only [fwA, ↓reduceIte, Nat.reduceAdd, Nat.reduceMul, Nat.reduceEqDiff, Nat.reduceLT, Nat.reduceLeDiff, reduceCtorEq, un34, el34, fl38_0, ti28, fl38_1, ti94, pl94, un53, List.length_map] <;> rfl) ?_
  refine awp_vlen 0 rfl fun hlen => ?_
  rw [List.length_map] at hlen
  refine awp_cond (by simp only [fwA, ↓reduceIte, Nat.reduceAdd, Nat.reduceMul, Nat.reduceEqDiff, Nat.reduceLT, Nat.reduceLeDiff, reduceCtorEq] <;> rfl) ?_
  by_cases hc : (i : Int) < l.length
  rotate_left
  · simp only [hc, decide_false, Bool.false_eq_true, ↓reduceIte]
    refine awp_exit ?_
    have hi' : i = l.length := by omega
    refine awp_told (told_freezeAt H _ 0 (C := ((l.take i).map Pr.enc).flatten) rfl (flat_bd (fun t => by simp only [Pr.fw]) _)) ?_
    have hl : (((l.take i).map Pr.enc).flatten).length = i * 2 := by rw [flat_len (sz := 2) (fun _ => by simp only [Pr.fw]), hti]
    have hch : chunk 2 i (((l.take i).map Pr.enc).flatten) = (l.take i).map Pr.enc := by
      have := flat_chunk (enc := Pr.enc) (sz := 2) (fun _ => by simp only [Pr.fw]) (l.take i)
      rwa [hti] at this
    refine awp_seq (awp_run rfl (by simp only [fwA, ↓reduceIte, Nat.reduceAdd, Nat.reduceMul, Nat.reduceEqDiff, Nat.reduceLT, Nat.reduceLeDiff, reduceCtorEq, hl, hch] <;> rfl) (awp_ret ?_))
    refine gives_end (.inl rfl) _ ?_
    simp only [fwA, ↓reduceIte, Nat.reduceAdd, Nat.reduceMul, Nat.reduceEqDiff, Nat.reduceLT, Nat.reduceLeDiff, reduceCtorEq, ares, aresL, ares1, Tryd.f46, hi', List.take_length]
  simp only [hc, decide_true, ↓reduceIte]
  refine awp_skip ?_
  have hia : i < l.length := by omega
  have ga : l[i]? = some l[i] := List.getElem?_eq_getElem hia
  refine awp_seq ?_
  refine awp_block ?_
  refine awp_drawn [0, 0, 0, 0, 0, 1, 0, 0, 0, 0, 1, 0, 0, 2, 0] [0, 0, 0, 6, 14, 30, 0, 0, 192, 448, 960, 2046, 4094, 8191, 16383] mixed rfl (by kernel_rfl) ?_
  refine dops_run 13 (by simp only [fwA, ↓reduceIte, Nat.reduceAdd, Nat.reduceMul, Nat.reduceEqDiff, Nat.reduceLT, Nat.reduceLeDiff, reduceCtorEq, un34, el34, fl38_0, ti28, fl38_1, ti94, pl94, un53, Pr.fw, List.getElem?_map, ga, Option.map_some, Int.natCast_nonneg] <;> rfl) ?_
  refine dops_appendR rfl rfl rfl un53 ti94 un53 (.inl ⟨_, rfl⟩) rfl (by simp only [fwA, ↓reduceIte, Nat.reduceAdd, Nat.reduceMul, Nat.reduceEqDiff, Nat.reduceLT, Nat.reduceLeDiff, reduceCtorEq] <;> rfl) (by rw [flat_len (sz := 2) (fun _ => by simp only [Pr.fw]), hti]; exact (Nat.zero_add _).symm) rfl (fun es f h e he => by
      simp only [fwA, ↓reduceIte, Nat.reduceAdd, Nat.reduceMul, Nat.reduceEqDiff, Nat.reduceLT, Nat.reduceLeDiff, reduceCtorEq, PV.vec.injEq] at h
      obtain ⟨rfl, rfl⟩ := h
      simp only [List.mem_singleton] at he
      subst he; rfl) rfl (by show (i + 1) * 16 ≤ _; omega) (by show i + 1 ≤ _; omega) ?_
  refine dops_run 1 (by simp only [fwA, ↓reduceIte, Nat.reduceAdd, Nat.reduceMul, Nat.reduceEqDiff, Nat.reduceLT, Nat.reduceLeDiff, reduceCtorEq, un34, el34, fl38_0, ti28, fl38_1, ti94, pl94, un53] <;> rfl) ?_
  refine dops_end ?_
  -- the next
  refine awp_run rfl (by simp only [fwA, ↓reduceIte, Nat.reduceAdd, Nat.reduceMul, Nat.reduceEqDiff, Nat.reduceLT, Nat.reduceLeDiff, reduceCtorEq] <;> rfl) ?_
  refine ⟨i + 1, by omega, by omega, by rw [wrapS i (by omega)]; rfl, ?_, rfl⟩
  rw [flatten_enc Pr.enc _ _ _ ga]
  rfl

/-- samePairs -/
theorem c22 (Γ : Nat → PV) (xs ys : List Pr) (hlb : xs.length * 16 ≤ 140737488355328) : Gives Tryd.prog Γ 22 [.vec (xs.map Pr.enc) false, .vec (ys.map Pr.enc) false] (.bool (decide (xs = ys))) := by
  refine fn_of_awp Tryd.func22 rfl (by simp [Tryd.f22]) rfl fun H => ?_
  refine awp_seq ?_
  refine awp_run rfl (by simp only [fwA, ↓reduceIte, Nat.reduceAdd, Nat.reduceMul, Nat.reduceEqDiff, Nat.reduceLT, Nat.reduceLeDiff, reduceCtorEq] <;> rfl) ?_
  refine awp_seq ?_
  refine awp_region rfl ?_
  refine aops_run 1 (by simp only [fwA, ↓reduceIte, Nat.reduceAdd, Nat.reduceMul, Nat.reduceEqDiff, Nat.reduceLT, Nat.reduceLeDiff, reduceCtorEq] <;> rfl) ?_
  refine aops_fn rfl rfl rfl en46 (c46 Γ xs hlb) ?_
  refine aops_run 1 (by simp only [fwA, ↓reduceIte, Nat.reduceAdd, Nat.reduceMul, Nat.reduceEqDiff, Nat.reduceLT, Nat.reduceLeDiff, reduceCtorEq] <;> rfl) ?_
  refine awp_vlen 5 rfl fun hlx => ?_
  rw [List.length_map] at hlx
  refine awp_seq ?_
  refine awp_seq ?_
  -- region 2
  refine awp_run rfl (by simp only [fwA, ↓reduceIte, Nat.reduceAdd, Nat.reduceMul, Nat.reduceEqDiff, Nat.reduceLT, Nat.reduceLeDiff, reduceCtorEq, un53, el53, ti94, eq94, List.length_map] <;> rfl) ?_
  refine awp_cond (by simp only [fwA, ↓reduceIte, Nat.reduceAdd, Nat.reduceMul, Nat.reduceEqDiff, Nat.reduceLT, Nat.reduceLeDiff, reduceCtorEq] <;> rfl) ?_
  by_cases hl : (xs.length : Int) = ys.length
  rotate_left
  · simp only [hl, decide_false, Bool.not_false, ↓reduceIte]
    refine awp_seq (awp_run rfl (by simp only [fwA, ↓reduceIte, Nat.reduceAdd, Nat.reduceMul, Nat.reduceEqDiff, Nat.reduceLT, Nat.reduceLeDiff, reduceCtorEq] <;> rfl) (awp_ret ?_))
    exact gives_end0 (.inl rfl) (by rw [decide_eq_false (fun e => hl (by rw [e]))]; rfl)
  simp only [hl, decide_true, Bool.not_true, Bool.false_eq_true, ↓reduceIte]
  refine awp_skip ?_
  refine awp_seq ?_
  refine awp_seq ?_
  refine awp_run rfl (by simp only [fwA, ↓reduceIte, Nat.reduceAdd, Nat.reduceMul, Nat.reduceEqDiff, Nat.reduceLT, Nat.reduceLeDiff, reduceCtorEq] <;> rfl) ?_
  refine awp_block ?_
  refine awp_for [1, 5, 6] (fun i : Nat => [.vec (ys.map Pr.enc) false, .vec (xs.map Pr.enc) false, .int .i64 (i : Int)]) (fun _ => H) (fun i => xs.length - i) (fun i => i ≤ xs.length ∧ xs.take i = ys.take i) 0 rfl rfl ⟨Nat.zero_le _, rfl⟩ fun i hi => ?_
  refine awp_seq ?_
  refine awp_seq ?_
  refine awp_run rfl (by simp only [fwA, ↓reduceIte, Nat.reduceAdd, Nat.reduceMul, Nat.reduceEqDiff, Nat.reduceLT, Nat.reduceLeDiff, reduceCtorEq, un53, el53, ti94, eq94, List.length_map] <;> rfl) ?_
  refine awp_cond (by simp only [fwA, ↓reduceIte, Nat.reduceAdd, Nat.reduceMul, Nat.reduceEqDiff, Nat.reduceLT, Nat.reduceLeDiff, reduceCtorEq] <;> rfl) ?_
  by_cases hc : (i : Int) < xs.length
  rotate_left
  · simp only [hc, decide_false, Bool.false_eq_true, ↓reduceIte]
    refine awp_exit ?_
    refine awp_seq (awp_run rfl (by simp only [fwA, ↓reduceIte, Nat.reduceAdd, Nat.reduceMul, Nat.reduceEqDiff, Nat.reduceLT, Nat.reduceLeDiff, reduceCtorEq] <;> rfl) (awp_ret ?_))
    have e : xs = ys := by
      have := hi.2
      rwa [List.take_of_length_le (by omega), List.take_of_length_le (by omega)] at this
    exact gives_end0 (.inl rfl) (by rw [decide_eq_true e]; rfl)
  simp only [hc, decide_true, ↓reduceIte]
  refine awp_skip ?_
  have hix : i < xs.length := by omega
  have hiy : i < ys.length := by omega
  have gx : xs[i]? = some xs[i] := List.getElem?_eq_getElem hix
  have gy : ys[i]? = some ys[i] := List.getElem?_eq_getElem hiy
  refine awp_seq ?_
  refine awp_block ?_
  refine awp_seq ?_
  -- region 7 drawn
  refine awp_drun [0, 0, 0, 1, 0, 0, 0, 1, 0] [0, 0, 3, 7, 0, 0, 48, 112, 255] mixed rfl (by kernel_rfl) (by simp only [fwA, ↓reduceIte, Nat.reduceAdd, Nat.reduceMul, Nat.reduceEqDiff, Nat.reduceLT, Nat.reduceLeDiff, reduceCtorEq, un53, el53, ti94, eq94, Pr.fw, List.getElem?_map, gx, gy, Option.map_some, Int.natCast_nonneg] <;> rfl) ?_
  refine awp_cond (by simp only [fwA, ↓reduceIte, Nat.reduceAdd, Nat.reduceMul, Nat.reduceEqDiff, Nat.reduceLT, Nat.reduceLeDiff, reduceCtorEq] <;> rfl) ?_
  by_cases hn : xs[i] = ys[i]
  rotate_left
  · have hb : (!(decide (xs[i].a = ys[i].a) && (decide (xs[i].b = ys[i].b) && true))) = true := by
      have : ¬ (xs[i].a = ys[i].a ∧ xs[i].b = ys[i].b) := fun ⟨h1, h2⟩ => hn (by
        cases hxi : xs[i]; cases hyi : ys[i]; rw [hxi, hyi] at h1 h2; simp_all)
      simp only [Bool.and_true, Bool.not_eq_true', Bool.and_eq_false_iff, decide_eq_false_iff_not]
      by_cases h1 : xs[i].a = ys[i].a
      · exact .inr fun h2 => this ⟨h1, h2⟩
      · exact .inl h1
    simp only [hb, ↓reduceIte]
    refine awp_seq (awp_run rfl (by simp only [fwA, ↓reduceIte, Nat.reduceAdd, Nat.reduceMul, Nat.reduceEqDiff, Nat.reduceLT, Nat.reduceLeDiff, reduceCtorEq] <;> rfl) (awp_ret ?_))
    exact gives_end0 (.inl rfl) (by rw [decide_eq_false (fun e => hn (by subst e; rfl))]; rfl)
  have hb : (!(decide (xs[i].a = ys[i].a) && (decide (xs[i].b = ys[i].b) && true))) = false := by rw [hn]; simp
  simp only [hb, Bool.false_eq_true, ↓reduceIte]
  refine awp_skip ?_
  refine awp_run rfl (by simp only [fwA, ↓reduceIte, Nat.reduceAdd, Nat.reduceMul, Nat.reduceEqDiff, Nat.reduceLT, Nat.reduceLeDiff, reduceCtorEq] <;> rfl) ?_
  exact ⟨i + 1, by omega, ⟨by omega, by rw [List.take_add_one, List.take_add_one, hi.2, gx, gy, hn]⟩, by rw [wrapS i (by omega)]; rfl, rfl, rfl⟩

/-- shape.Size -/
theorem c36 (Γ : Nat → PV) : ∀ a : Sh, a.w ≤ 4611686018427387904 → Gives Tryd.prog Γ 36 [.agg a.enc] (.int .i64 a.w) := by
  suffices ∀ n, ∀ a : Sh, SizeOf.sizeOf a < n → a.w ≤ 4611686018427387904 → Gives Tryd.prog Γ 36 [.agg a.enc] (.int .i64 a.w) from fun a => this _ a (Nat.lt_succ_self _)
  intro n
  induction n with
  | zero => intro a ha; omega
  | succ n ih =>
  intro a ha hw
  have hwe := Sh.w_eq a
  refine fn_of_awp Tryd.func36 rfl (by simp [Tryd.f36]) rfl fun H => ?_
  refine awp_seq ?_
  refine awp_run rfl (by simp only [fwA, ↓reduceIte, Nat.reduceAdd, Nat.reduceMul, Nat.reduceEqDiff, Nat.reduceLT, Nat.reduceLeDiff, reduceCtorEq, Sh.fw] <;> rfl) ?_
  refine awp_seq ?_
  refine awp_run rfl (by simp only [fwA, ↓reduceIte, Nat.reduceAdd, Nat.reduceMul, Nat.reduceEqDiff, Nat.reduceLT, Nat.reduceLeDiff, reduceCtorEq] <;> rfl) ?_
  refine awp_seq ?_
  refine awp_seq ?_
  refine awp_run rfl (by simp only [fwA, ↓reduceIte, Nat.reduceAdd, Nat.reduceMul, Nat.reduceEqDiff, Nat.reduceLT, Nat.reduceLeDiff, reduceCtorEq, fl26_2, ti24, un24, el24, ti26, Sh.fw, List.length_map] <;> rfl) ?_
  refine awp_vlen 7 rfl fun hlen => ?_
  rw [List.length_map] at hlen
  refine awp_bd fun hbd => ?_
  refine awp_block ?_
  refine awp_forG [3, 7, 8, 9] (fun i : Nat => [.int .i64 ((((a.kids.take i).map Sh.w).sum + 1 : Nat) : Int), .vec (a.kids.map Sh.enc) false, .int .i64 a.kids.length, .int .i64 i]) (fun _ => H ++ [.box a.enc]) (fun i => a.kids.length - i) (fun i => i ≤ a.kids.length) 0 (by simp [alook, aput, ev]) rfl (Nat.zero_le _) (fun i _ => ⟨hbd, by simp [PV.bdL, PV.bd]⟩) (fun i _ b hb => by cases hb) fun i hi => ?_
  refine awp_seq ?_
  refine awp_run rfl (by simp only [fwA, ↓reduceIte, Nat.reduceAdd, Nat.reduceMul, Nat.reduceEqDiff, Nat.reduceLT, Nat.reduceLeDiff, reduceCtorEq] <;> rfl) ?_
  refine awp_seq ?_
  refine awp_cond (by simp only [fwA, ↓reduceIte, Nat.reduceAdd, Nat.reduceMul, Nat.reduceEqDiff, Nat.reduceLT, Nat.reduceLeDiff, reduceCtorEq] <;> rfl) ?_
  by_cases hc : (i : Int) < a.kids.length
  · simp only [hc, decide_true, ↓reduceIte]
    refine awp_skip ?_
    have hil : i < a.kids.length := by omega
    have gi : a.kids[i]? = some a.kids[i] := List.getElem?_eq_getElem hil
    have hsum : ((a.kids.take (i + 1)).map Sh.w).sum = ((a.kids.take i).map Sh.w).sum + a.kids[i].w := by
      rw [List.take_add_one, gi, List.map_append, List.sum_append]
      simp only [Option.toList_some, List.map_cons, List.map_nil, List.sum_cons, List.sum_nil, Nat.add_zero]
    have hle : ((a.kids.take (i + 1)).map Sh.w).sum ≤ (a.kids.map Sh.w).sum := by
      conv => rhs; rw [← List.take_append_drop (i + 1) a.kids, List.map_append, List.sum_append]
      omega
    have hw1 : IntKind.i64.wrap ((((a.kids.take i).map Sh.w).sum + 1 : Nat) + (a.kids[i].w : Int)) = ((((a.kids.take (i + 1)).map Sh.w).sum + 1 : Nat) : Int) := by
      rw [wrapId ⟨by omega, by omega⟩]; omega
    refine awp_seq ?_
    refine awp_block ?_
    refine awp_seq ?_
    refine awp_run rfl (by simp only [fwA, ↓reduceIte, Nat.reduceAdd, Nat.reduceMul, Nat.reduceEqDiff, Nat.reduceLT, Nat.reduceLeDiff, reduceCtorEq, fl26_2, ti24, un24, el24, ti26, Sh.fw, List.getElem?_map, gi, Option.map_some, Int.natCast_nonneg] <;> rfl) ?_
    refine awp_region rfl ?_
    refine aops_run 2 (by simp only [fwA, ↓reduceIte, Nat.reduceAdd, Nat.reduceMul, Nat.reduceEqDiff, Nat.reduceLT, Nat.reduceLeDiff, reduceCtorEq, fl26_2, ti24, un24, el24, ti26, Sh.fw] <;> rfl) ?_
    refine aops_fn rfl rfl rfl en36 (ih a.kids[i] (by have := Sh.kids_lt (List.getElem_mem hil); omega) (by omega)) ?_
    refine aops_run 2 (by simp only [fwA, ↓reduceIte, Nat.reduceAdd, Nat.reduceMul, Nat.reduceEqDiff, Nat.reduceLT, Nat.reduceLeDiff, reduceCtorEq, hw1] <;> rfl) ?_
    refine awp_run rfl (by simp only [fwA, ↓reduceIte, Nat.reduceAdd, Nat.reduceMul, Nat.reduceEqDiff, Nat.reduceLT, Nat.reduceLeDiff, reduceCtorEq, wrapS i (by omega)] <;> rfl) ?_
    refine ⟨i + 1, [.box a.kids[i].enc], by omega, by omega, by rfl, by simp, rfl, Nat.le_refl _⟩
  simp only [hc, decide_false, Bool.false_eq_true, ↓reduceIte]
  refine awp_exit ?_
  have hie : i = a.kids.length := by omega
  subst hie
  rw [List.take_length, ← hwe]
  simp only [Post.block, Post.then, ↓reduceIte]
  refine awp_seq ?_
  refine awp_run rfl (by simp only [fwA, ↓reduceIte, Nat.reduceAdd, Nat.reduceMul, Nat.reduceEqDiff, Nat.reduceLT, Nat.reduceLeDiff, reduceCtorEq] <;> rfl) ?_
  refine awp_ret ?_
  exact gives_end (.inl rfl) _ rfl


end Go.Proofs.YtlnffadolfkggaaDoor
