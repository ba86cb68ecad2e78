/- What chapter 1 speaks of: lists of names, lists of words. -/
import Derived.Test.YtdhlghhokbmhdaaDoorWB
import Derived.Test.YtdhlghhokbmhdaaDoorProg
import Derived.Test.YtdhlghhokbmhdaaDoorL01d
namespace Go.Proofs.YtdhlghhokbmhdaaDoor
set_option linter.unusedVariables false
set_option linter.unusedSimpArgs false
set_option maxRecDepth 100000
open Go.RowKit Fw

theorem flatten_enc {X : Type} (enc : X → List PV) (l : List X) (i : Nat) (x : X) (h : l[i]? = some x) : ((l.take (i + 1)).map enc).flatten = ((l.take i).map enc).flatten ++ enc x := by
  rw [List.take_add_one, h]; simp

theorem flat_len {X : Type} {enc : X → List PV} {sz : Nat} (h : ∀ x, (enc x).length = sz) (l : List X) : ((l.map enc).flatten).length = l.length * sz := by
  rw [flatten_len (sz := sz) (fun e he => by obtain ⟨x, _, rfl⟩ := List.mem_map.1 he; exact h x), List.length_map]

theorem flat_chunk {X : Type} {enc : X → List PV} {sz : Nat} (h : ∀ x, (enc x).length = sz) (l : List X) : chunk sz l.length ((l.map enc).flatten) = l.map enc := by
  have := chunk_flatten (sz := sz) (es := l.map enc) (fun e he => by obtain ⟨x, _, rfl⟩ := List.mem_map.1 he; exact h x)
  rwa [List.length_map] at this

theorem flat_bd {X : Type} {enc : X → List PV} {m : Nat} (h : ∀ x, PV.bdL m (enc x) = true) (l : List X) : PV.bdL m ((l.map enc).flatten) = true := by
  induction l with
  | nil => rfl
  | cons x l ih => rw [List.map_cons, List.flatten_cons, PV.bdL_append, h, ih]; rfl

def I64 (n : Int) : Prop := -9223372036854775808 ≤ n ∧ n ≤ 9223372036854775807
theorem wrapId {a : Int} (h : I64 a) : IntKind.i64.wrap a = a := by
  obtain ⟨h1, h2⟩ := h
  unfold IntKind.wrap
  have hb : IntKind.i64.bits = 64 := rfl
  have hsg : IntKind.i64.signed = true := rfl
  simp only [hb, hsg, Bool.true_and, decide_eq_true_eq]
  split <;> omega
theorem wrapS (n : Nat) (h : n + 1 < 9223372036854775808) : IntKind.i64.wrap ((n : Int) + 1) = ((n + 1 : Nat) : Int) := by
  rw [wrapId ⟨by omega, by omega⟩]; omega

def S1 (s : List UInt8) : List PV := [.str s]
theorem S1_len (n : List UInt8) : (S1 n).length = 1 := rfl
theorem S1_fw : (∀ n, (S1 n).length = 1) ∧ (∀ n, (S1 n)[0]? = some (.str n)) ∧ (∀ (m : Nat) n, PV.bdL m (S1 n) = true) := ⟨fun _ => rfl, fun _ => rfl, fun _ _ => rfl⟩
def U1 (n : Nat) : List PV := [.int .u64 (n : Int)]
theorem U1_len (n : Nat) : (U1 n).length = 1 := rfl
theorem U1_fw : (∀ n, (U1 n).length = 1) ∧ (∀ n : Nat, (U1 n)[0]? = some (.int .u64 (n : Int))) ∧ (∀ (m : Nat) n, PV.bdL m (U1 n) = true) := ⟨fun _ => rfl, fun _ => rfl, fun _ _ => rfl⟩
def I1 (n : Int) : List PV := [.int .i64 n]
theorem I1_len (n : Int) : (I1 n).length = 1 := rfl
theorem I1_fw : (∀ n, (I1 n).length = 1) ∧ (∀ n, (I1 n)[0]? = some (.int .i64 n)) ∧ (∀ (m : Nat) n, PV.bdL m (I1 n) = true) := ⟨fun _ => rfl, fun _ => rfl, fun _ _ => rfl⟩
/-- A lattice's cells: names, rows. -/
def laC (ns : List (List UInt8)) (us : List Nat) : List PV := [.vec (ns.map S1) false, .vec (us.map U1) false]

end Go.Proofs.YtdhlghhokbmhdaaDoor
