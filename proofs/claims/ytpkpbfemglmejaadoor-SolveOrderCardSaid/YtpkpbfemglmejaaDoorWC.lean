/- What chapter 11 speaks of: lattices, atoms, pairs, solutions, and how they lie in memory. -/
import Derived.Test.YtpkpbfemglmejaaDoorWB
import Derived.Test.YtpkpbfemglmejaaDoorProg
import Derived.Lib.TrailingZeros
namespace Go.Proofs.YtpkpbfemglmejaaDoor
set_option linter.unusedVariables false
set_option linter.unusedSimpArgs false
set_option maxRecDepth 100000
open Go.RowKit Fw

theorem flatten_enc {X : Type} (enc : X → List PV) (l : List X) (i : Nat) (x : X) (h : l[i]? = some x) : ((l.take (i + 1)).map enc).flatten = ((l.take i).map enc).flatten ++ enc x := by
  rw [List.take_add_one, h]; simp

theorem flat_len {X : Type} {enc : X → List PV} {sz : Nat} (h : ∀ x, (enc x).length = sz) (l : List X) : ((l.map enc).flatten).length = l.length * sz := by
  rw [flatten_len (sz := sz) (fun e he => by obtain ⟨x, _, rfl⟩ := List.mem_map.1 he; exact h x), List.length_map]

theorem flat_chunk {X : Type} {enc : X → List PV} {sz : Nat} (h : ∀ x, (enc x).length = sz) (l : List X) : chunk sz l.length ((l.map enc).flatten) = l.map enc := by
  have := chunk_flatten (sz := sz) (es := l.map enc) (fun e he => by obtain ⟨x, _, rfl⟩ := List.mem_map.1 he; exact h x)
  rwa [List.length_map] at this

theorem flat_bd {X : Type} {enc : X → List PV} {m : Nat} (h : ∀ x, PV.bdL m (enc x) = true) (l : List X) : PV.bdL m ((l.map enc).flatten) = true := by
  induction l with
  | nil => rfl
  | cons x l ih => rw [List.map_cons, List.flatten_cons, PV.bdL_append, h, ih]; rfl

def I64 (n : Int) : Prop := -9223372036854775808 ≤ n ∧ n ≤ 9223372036854775807
theorem wrapId {a : Int} (h : I64 a) : IntKind.i64.wrap a = a := by
  obtain ⟨h1, h2⟩ := h
  unfold IntKind.wrap
  have hb : IntKind.i64.bits = 64 := rfl
  have hsg : IntKind.i64.signed = true := rfl
  simp only [hb, hsg, Bool.true_and, decide_eq_true_eq]
  split <;> omega
theorem wrapS (n : Nat) (h : n + 1 < 9223372036854775808) : IntKind.i64.wrap ((n : Int) + 1) = ((n + 1 : Nat) : Int) := by
  rw [wrapId ⟨by omega, by omega⟩]; omega

/-- A pair of atoms. -/
structure Pr where
  a : Int
  b : Int
deriving DecidableEq, Inhabited
namespace Pr
def enc (p : Pr) : List PV := [.int .i64 p.a, .int .i64 p.b]
theorem enc_len (p : Pr) : p.enc.length = 2 := rfl
theorem fw : (∀ p : Pr, p.enc.length = 2) ∧ (∀ p : Pr, p.enc[0]? = some (.int .i64 p.a)) ∧ (∀ p : Pr, p.enc[1]? = some (.int .i64 p.b)) ∧ (∀ p : Pr, p.enc.drop 1 = [.int .i64 p.b]) ∧ (∀ p : Pr, p.enc.take 2 = p.enc) ∧ (∀ (m : Nat) (p : Pr), PV.bdL m p.enc = true) :=
  ⟨fun _ => rfl, fun _ => rfl, fun _ => rfl, fun _ => rfl, fun _ => rfl, fun _ _ => rfl⟩
end Pr
def I1 (n : Int) : List PV := [.int .i64 n]
theorem I1_len (n : Int) : (I1 n).length = 1 := rfl
theorem I1_fw : (∀ n, (I1 n).length = 1) ∧ (∀ n, (I1 n)[0]? = some (.int .i64 n)) ∧ (∀ (m : Nat) n, PV.bdL m (I1 n) = true) := ⟨fun _ => rfl, fun _ => rfl, fun _ _ => rfl⟩

def S1 (s : List UInt8) : List PV := [.str s]
theorem S1_len (n : List UInt8) : (S1 n).length = 1 := rfl
theorem S1_fw : (∀ n, (S1 n).length = 1) ∧ (∀ n, (S1 n)[0]? = some (.str n)) ∧ (∀ (m : Nat) n, PV.bdL m (S1 n) = true) := ⟨fun _ => rfl, fun _ => rfl, fun _ _ => rfl⟩
def U1 (n : Nat) : List PV := [.int .u64 (n : Int)]
theorem U1_len (n : Nat) : (U1 n).length = 1 := rfl
theorem U1_fw : (∀ n, (U1 n).length = 1) ∧ (∀ n : Nat, (U1 n)[0]? = some (.int .u64 (n : Int))) ∧ (∀ (m : Nat) n, PV.bdL m (U1 n) = true) := ⟨fun _ => rfl, fun _ => rfl, fun _ _ => rfl⟩
/-- A lattice's cells: names, rows. -/
def laC (ns : List (List UInt8)) (us : List Nat) : List PV := [.vec (ns.map S1) false, .vec (us.map U1) false]
/-- What a variable stands for. -/
structure So where
  v : Int
  p : Int
deriving DecidableEq, Inhabited
namespace So
def enc (x : So) : List PV := [.int .i64 x.v, .int .i64 x.p]
theorem enc_len (x : So) : x.enc.length = 2 := rfl
theorem fw : (∀ x : So, x.enc.length = 2) ∧ (∀ x : So, x.enc[0]? = some (.int .i64 x.v)) ∧ (∀ x : So, x.enc[1]? = some (.int .i64 x.p)) ∧ (∀ x : So, x.enc.drop 1 = [.int .i64 x.p]) ∧ (∀ x : So, x.enc.take 2 = x.enc) ∧ (∀ (m : Nat) (x : So), PV.bdL m x.enc = true) :=
  ⟨fun _ => rfl, fun _ => rfl, fun _ => rfl, fun _ => rfl, fun _ => rfl, fun _ _ => rfl⟩
end So

end Go.Proofs.YtpkpbfemglmejaaDoor

/- Facts on the types and functions of this seat's program, printed by a tool of mine. -/
namespace Go.Proofs.YtpkpbfemglmejaaDoor
set_option linter.unusedVariables false
set_option linter.unusedSimpArgs false
set_option maxRecDepth 100000
open Go.RowKit Fw
theorem en2 : Enters Tryd.prog 2 := enters_of Tryd.func2 rfl rfl
theorem en3 : Enters Tryd.prog 3 := enters_of Tryd.func3 rfl rfl
theorem en4 : Enters Tryd.prog 4 := enters_of Tryd.func4 rfl rfl
theorem en5 : Enters Tryd.prog 5 := enters_of Tryd.func5 rfl rfl
theorem en6 : Enters Tryd.prog 6 := enters_of Tryd.func6 rfl rfl
theorem en7 : Enters Tryd.prog 7 := enters_of Tryd.func7 rfl rfl
theorem en8 : Enters Tryd.prog 8 := enters_of Tryd.func8 rfl rfl
theorem en9 : Enters Tryd.prog 9 := enters_of Tryd.func9 rfl rfl
theorem en10 : Enters Tryd.prog 10 := enters_of Tryd.func10 rfl rfl
theorem en11 : Enters Tryd.prog 11 := enters_of Tryd.func11 rfl rfl
theorem en12 : Enters Tryd.prog 12 := enters_of Tryd.func12 rfl rfl
theorem en13 : Enters Tryd.prog 13 := enters_of Tryd.func13 rfl rfl
theorem en14 : Enters Tryd.prog 14 := enters_of Tryd.func14 rfl rfl
theorem en15 : Enters Tryd.prog 15 := enters_of Tryd.func15 rfl rfl
theorem en16 : Enters Tryd.prog 16 := enters_of Tryd.func16 rfl rfl
theorem en17 : Enters Tryd.prog 17 := enters_of Tryd.func17 rfl rfl
theorem en18 : Enters Tryd.prog 18 := enters_of Tryd.func18 rfl rfl
theorem en19 : Enters Tryd.prog 19 := enters_of Tryd.func19 rfl rfl
theorem en20 : Enters Tryd.prog 20 := enters_of Tryd.func20 rfl rfl
theorem en21 : Enters Tryd.prog 21 := enters_of Tryd.func21 rfl rfl
theorem en22 : Enters Tryd.prog 22 := enters_of Tryd.func22 rfl rfl
theorem en23 : Enters Tryd.prog 23 := enters_of Tryd.func23 rfl rfl
theorem en24 : Enters Tryd.prog 24 := enters_of Tryd.func24 rfl rfl
theorem en25 : Enters Tryd.prog 25 := enters_of Tryd.func25 rfl rfl
theorem en26 : Enters Tryd.prog 26 := enters_of Tryd.func26 rfl rfl
theorem en27 : Enters Tryd.prog 27 := enters_of Tryd.func27 rfl rfl
theorem en28 : Enters Tryd.prog 28 := enters_of Tryd.func28 rfl rfl
theorem en29 : Enters Tryd.prog 29 := enters_of Tryd.func29 rfl rfl
theorem en30 : Enters Tryd.prog 30 := enters_of Tryd.func30 rfl rfl
theorem en31 : Enters Tryd.prog 31 := enters_of Tryd.func31 rfl rfl
theorem en32 : Enters Tryd.prog 32 := enters_of Tryd.func32 rfl rfl
theorem en33 : Enters Tryd.prog 33 := enters_of Tryd.func33 rfl rfl
theorem en34 : Enters Tryd.prog 34 := enters_of Tryd.func34 rfl rfl
theorem en35 : Enters Tryd.prog 35 := enters_of Tryd.func35 rfl rfl
theorem en36 : Enters Tryd.prog 36 := enters_of Tryd.func36 rfl rfl
theorem en37 : Enters Tryd.prog 37 := enters_of Tryd.func37 rfl rfl
theorem en38 : Enters Tryd.prog 38 := enters_of Tryd.func38 rfl rfl
theorem en39 : Enters Tryd.prog 39 := enters_of Tryd.func39 rfl rfl
theorem en40 : Enters Tryd.prog 40 := enters_of Tryd.func40 rfl rfl
theorem en41 : Enters Tryd.prog 41 := enters_of Tryd.func41 rfl rfl
theorem en42 : Enters Tryd.prog 42 := enters_of Tryd.func42 rfl rfl
theorem en43 : Enters Tryd.prog 43 := enters_of Tryd.func43 rfl rfl
theorem en44 : Enters Tryd.prog 44 := enters_of Tryd.func44 rfl rfl
theorem en45 : Enters Tryd.prog 45 := enters_of Tryd.func45 rfl rfl
theorem en46 : Enters Tryd.prog 46 := enters_of Tryd.func46 rfl rfl
theorem en47 : Enters Tryd.prog 47 := enters_of Tryd.func47 rfl rfl
theorem en48 : Enters Tryd.prog 48 := enters_of Tryd.func48 rfl rfl
theorem en49 : Enters Tryd.prog 49 := enters_of Tryd.func49 rfl rfl
theorem en50 : Enters Tryd.prog 50 := enters_of Tryd.func50 rfl rfl
theorem en51 : Enters Tryd.prog 51 := enters_of Tryd.func51 rfl rfl
theorem en52 : Enters Tryd.prog 52 := enters_of Tryd.func52 rfl rfl
theorem en53 : Enters Tryd.prog 53 := enters_of Tryd.func53 rfl rfl
theorem en54 : Enters Tryd.prog 54 := enters_of Tryd.func54 rfl rfl
theorem en55 : Enters Tryd.prog 55 := enters_of Tryd.func55 rfl rfl
theorem en56 : Enters Tryd.prog 56 := enters_of Tryd.func56 rfl rfl
theorem en57 : Enters Tryd.prog 57 := enters_of Tryd.func57 rfl rfl
theorem en58 : Enters Tryd.prog 58 := enters_of Tryd.func58 rfl rfl
theorem en59 : Enters Tryd.prog 59 := enters_of Tryd.func59 rfl rfl
theorem en60 : Enters Tryd.prog 60 := enters_of Tryd.func60 rfl rfl
theorem en61 : Enters Tryd.prog 61 := enters_of Tryd.func61 rfl rfl
theorem en62 : Enters Tryd.prog 62 := enters_of Tryd.func62 rfl rfl
theorem en63 : Enters Tryd.prog 63 := enters_of Tryd.func63 rfl rfl
theorem en64 : Enters Tryd.prog 64 := enters_of Tryd.func64 rfl rfl
theorem en65 : Enters Tryd.prog 65 := enters_of Tryd.func65 rfl rfl
theorem en66 : Enters Tryd.prog 66 := enters_of Tryd.func66 rfl rfl
theorem en67 : Enters Tryd.prog 67 := enters_of Tryd.func67 rfl rfl
theorem en68 : Enters Tryd.prog 68 := enters_of Tryd.func68 rfl rfl
theorem en69 : Enters Tryd.prog 69 := enters_of Tryd.func69 rfl rfl
theorem en70 : Enters Tryd.prog 70 := enters_of Tryd.func70 rfl rfl
theorem en71 : Enters Tryd.prog 71 := enters_of Tryd.func71 rfl rfl
theorem en72 : Enters Tryd.prog 72 := enters_of Tryd.func72 rfl rfl
theorem en73 : Enters Tryd.prog 73 := enters_of Tryd.func73 rfl rfl
theorem en74 : Enters Tryd.prog 74 := enters_of Tryd.func74 rfl rfl
theorem en75 : Enters Tryd.prog 75 := enters_of Tryd.func75 rfl rfl
theorem en76 : Enters Tryd.prog 76 := enters_of Tryd.func76 rfl rfl
theorem en77 : Enters Tryd.prog 77 := enters_of Tryd.func77 rfl rfl
theorem en78 : Enters Tryd.prog 78 := enters_of Tryd.func78 rfl rfl
theorem en79 : Enters Tryd.prog 79 := enters_of Tryd.func79 rfl rfl
theorem en80 : Enters Tryd.prog 80 := enters_of Tryd.func80 rfl rfl
theorem en81 : Enters Tryd.prog 81 := enters_of Tryd.func81 rfl rfl
theorem en82 : Enters Tryd.prog 82 := enters_of Tryd.func82 rfl rfl
theorem en83 : Enters Tryd.prog 83 := enters_of Tryd.func83 rfl rfl
theorem en84 : Enters Tryd.prog 84 := enters_of Tryd.func84 rfl rfl
theorem en85 : Enters Tryd.prog 85 := enters_of Tryd.func85 rfl rfl
theorem en86 : Enters Tryd.prog 86 := enters_of Tryd.func86 rfl rfl
theorem en87 : Enters Tryd.prog 87 := enters_of Tryd.func87 rfl rfl
theorem en88 : Enters Tryd.prog 88 := enters_of Tryd.func88 rfl rfl
theorem en89 : Enters Tryd.prog 89 := enters_of Tryd.func89 rfl rfl
theorem en90 : Enters Tryd.prog 90 := enters_of Tryd.func90 rfl rfl
theorem en91 : Enters Tryd.prog 91 := enters_of Tryd.func91 rfl rfl
theorem en92 : Enters Tryd.prog 92 := enters_of Tryd.func92 rfl rfl
theorem en93 : Enters Tryd.prog 93 := enters_of Tryd.func93 rfl rfl
theorem en94 : Enters Tryd.prog 94 := enters_of Tryd.func94 rfl rfl
theorem en95 : Enters Tryd.prog 95 := enters_of Tryd.func95 rfl rfl
theorem en96 : Enters Tryd.prog 96 := enters_of Tryd.func96 rfl rfl
theorem en97 : Enters Tryd.prog 97 := enters_of Tryd.func97 rfl rfl
theorem en98 : Enters Tryd.prog 98 := enters_of Tryd.func98 rfl rfl
theorem en99 : Enters Tryd.prog 99 := enters_of Tryd.func99 rfl rfl
theorem en100 : Enters Tryd.prog 100 := enters_of Tryd.func100 rfl rfl
theorem en101 : Enters Tryd.prog 101 := enters_of Tryd.func101 rfl rfl
theorem en102 : Enters Tryd.prog 102 := enters_of Tryd.func102 rfl rfl
theorem en103 : Enters Tryd.prog 103 := enters_of Tryd.func103 rfl rfl
theorem en104 : Enters Tryd.prog 104 := enters_of Tryd.func104 rfl rfl
theorem en124 : Enters Tryd.prog 124 := enters_of Tryd.func124 rfl rfl
theorem ar121 : arOf Tryd.prog 121 = some (64, 1) := by kernel_rfl
theorem el22 : elOf Tryd.prog 22 = some (2, 16) := by kernel_rfl
theorem el23 : elOf Tryd.prog 23 = some (1, 1) := by kernel_rfl
theorem el25 : elOf Tryd.prog 25 = some (1, 16) := by kernel_rfl
theorem el26 : elOf Tryd.prog 26 = some (1, 8) := by kernel_rfl
theorem el29 : elOf Tryd.prog 29 = some (2, 48) := by kernel_rfl
theorem el32 : elOf Tryd.prog 32 = some (2, 16) := by kernel_rfl
theorem el47 : elOf Tryd.prog 47 = some (1, 8) := by kernel_rfl
theorem el79 : elOf Tryd.prog 79 = some (1, 8) := by kernel_rfl
theorem el121 : elOf Tryd.prog 121 = none := by kernel_rfl
theorem eq37 : eqOf Tryd.prog 37 = some [(0, 0), (1, 0)] := by kernel_rfl
theorem fl28_0 : fldOf Tryd.prog 28 0 = some (0, 1, false) := by kernel_rfl
theorem fl28_1 : fldOf Tryd.prog 28 1 = some (1, 1, false) := by kernel_rfl
theorem fl37_0 : fldOf Tryd.prog 37 0 = some (0, 1, false) := by kernel_rfl
theorem fl37_1 : fldOf Tryd.prog 37 1 = some (1, 1, false) := by kernel_rfl
theorem fl43_0 : fldOf Tryd.prog 43 0 = some (0, 1, false) := by kernel_rfl
theorem fl43_1 : fldOf Tryd.prog 43 1 = some (1, 1, false) := by kernel_rfl
theorem fl57_0 : fldOf Tryd.prog 57 0 = some (0, 2, true) := by kernel_rfl
theorem fl57_1 : fldOf Tryd.prog 57 1 = some (2, 1, false) := by kernel_rfl
theorem pl28 : plOf Tryd.prog 28 = some [(0, 1), (1, 1)] := by kernel_rfl
theorem pl37 : plOf Tryd.prog 37 = some [(0, 1), (1, 1)] := by kernel_rfl
theorem pl43 : plOf Tryd.prog 43 = some [(0, 1), (1, 1)] := by kernel_rfl
theorem pl57 : plOf Tryd.prog 57 = some [(0, 2), (2, 1)] := by kernel_rfl
theorem ti3 : tiOf Tryd.prog 3 = some ⟨1, 8, false, [.int .i64 0]⟩ := by kernel_rfl
theorem ti4 : tiOf Tryd.prog 4 = some ⟨1, 1, false, [.bool false]⟩ := by kernel_rfl
theorem ti5 : tiOf Tryd.prog 5 = some ⟨1, 1, false, [.int .u8 0]⟩ := by kernel_rfl
theorem ti9 : tiOf Tryd.prog 9 = some ⟨1, 16, false, [.str []]⟩ := by kernel_rfl
theorem ti22 : tiOf Tryd.prog 22 = some ⟨1, 24, false, [.vec [] true]⟩ := by kernel_rfl
theorem ti25 : tiOf Tryd.prog 25 = some ⟨1, 24, false, [.vec [] true]⟩ := by kernel_rfl
theorem ti26 : tiOf Tryd.prog 26 = some ⟨1, 24, false, [.vec [] true]⟩ := by kernel_rfl
theorem ti28 : tiOf Tryd.prog 28 = some ⟨2, 48, true, [.vec [] true, .vec [] true]⟩ := by kernel_rfl
theorem ti32 : tiOf Tryd.prog 32 = some ⟨1, 24, false, [.vec [] true]⟩ := by kernel_rfl
theorem ti35 : tiOf Tryd.prog 35 = some ⟨1, 8, false, [.int .i64 0]⟩ := by kernel_rfl
theorem ti37 : tiOf Tryd.prog 37 = some ⟨2, 16, true, [.int .i64 0, .int .i64 0]⟩ := by kernel_rfl
theorem ti43 : tiOf Tryd.prog 43 = some ⟨2, 16, true, [.int .i64 0, .int .i64 0]⟩ := by kernel_rfl
theorem ti53 : tiOf Tryd.prog 53 = some ⟨1, 8, false, [.int .u64 0]⟩ := by kernel_rfl
theorem ti55 : tiOf Tryd.prog 55 = some ⟨1, 8, false, [.nilm]⟩ := by kernel_rfl
theorem ti57 : tiOf Tryd.prog 57 = some ⟨3, 56, true, [.vec [] true, .vec [] true, .nilm]⟩ := by kernel_rfl
theorem ti58 : tiOf Tryd.prog 58 = some ⟨1, 8, false, [.nilm]⟩ := by kernel_rfl
theorem ti81 : tiOf Tryd.prog 81 = some ⟨2, 16, true, [.int .i64 0, .int .i64 0]⟩ := by kernel_rfl
theorem ti116 : tiOf Tryd.prog 116 = some ⟨1, 8, false, [.int .u64 0]⟩ := by kernel_rfl
theorem ti121 : tiOf Tryd.prog 121 = some ⟨64, 64, true, [.int .u8 0, .int .u8 0, .int .u8 0, .int .u8 0, .int .u8 0, .int .u8 0, .int .u8 0, .int .u8 0, .int .u8 0, .int .u8 0, .int .u8 0, .int .u8 0, .int .u8 0, .int .u8 0, .int .u8 0, .int .u8 0, .int .u8 0, .int .u8 0, .int .u8 0, .int .u8 0, .int .u8 0, .int .u8 0, .int .u8 0, .int .u8 0, .int .u8 0, .int .u8 0, .int .u8 0, .int .u8 0, .int .u8 0, .int .u8 0, .int .u8 0, .int .u8 0, .int .u8 0, .int .u8 0, .int .u8 0, .int .u8 0, .int .u8 0, .int .u8 0, .int .u8 0, .int .u8 0, .int .u8 0, .int .u8 0, .int .u8 0, .int .u8 0, .int .u8 0, .int .u8 0, .int .u8 0, .int .u8 0, .int .u8 0, .int .u8 0, .int .u8 0, .int .u8 0, .int .u8 0, .int .u8 0, .int .u8 0, .int .u8 0, .int .u8 0, .int .u8 0, .int .u8 0, .int .u8 0, .int .u8 0, .int .u8 0, .int .u8 0, .int .u8 0]⟩ := by kernel_rfl
theorem un3 : Tryd.prog.underlying 3 = some (.int .i64) := by kernel_rfl
theorem un4 : Tryd.prog.underlying 4 = some .bool := by kernel_rfl
theorem un5 : Tryd.prog.underlying 5 = some (.int .u8) := by kernel_rfl
theorem un9 : Tryd.prog.underlying 9 = some .string := by kernel_rfl
theorem un22 : Tryd.prog.underlying 22 = some (.slice 43) := by kernel_rfl
theorem un23 : Tryd.prog.underlying 23 = some (.slice 5) := by kernel_rfl
theorem un25 : Tryd.prog.underlying 25 = some (.slice 9) := by kernel_rfl
theorem un26 : Tryd.prog.underlying 26 = some (.slice 53) := by kernel_rfl
theorem un29 : Tryd.prog.underlying 29 = some (.slice 28) := by kernel_rfl
theorem un32 : Tryd.prog.underlying 32 = some (.slice 37) := by kernel_rfl
theorem un35 : Tryd.prog.underlying 35 = some (.int .i64) := by kernel_rfl
theorem un47 : Tryd.prog.underlying 47 = some (.slice 35) := by kernel_rfl
theorem un53 : Tryd.prog.underlying 53 = some (.int .u64) := by kernel_rfl
theorem un55 : Tryd.prog.underlying 55 = some (.map 81 3) := by kernel_rfl
theorem un58 : Tryd.prog.underlying 58 = some (.map 35 3) := by kernel_rfl
theorem un59 : Tryd.prog.underlying 59 = some (.map 35 22) := by kernel_rfl
theorem un79 : Tryd.prog.underlying 79 = some (.slice 3) := by kernel_rfl
theorem un90 : Tryd.prog.underlying 90 = some (.int .u64) := by kernel_rfl
theorem un113 : Tryd.prog.underlying 113 = some (.int .u32) := by kernel_rfl
theorem un116 : Tryd.prog.underlying 116 = some (.int .u64) := by kernel_rfl
theorem mixed : Tryd.prog.follows .mixedOrders = true := by kernel_rfl
end Go.Proofs.YtpkpbfemglmejaaDoor

/- Plain laws of finite orders: joins, meets, bounds. -/
namespace Go.Proofs.YtpkpbfemglmejaaDoor
set_option linter.unusedVariables false
set_option linter.unusedSimpArgs false
set_option maxRecDepth 100000
/-- The first point that stands above both, and below whatever does. -/
def jn (n : Nat) (r : Nat → Nat → Bool) (a b : Nat) : Option Nat := (List.range n).find? fun c => r a c && r b c && (List.range n).all fun d => !(r a d && r b d) || r c d
def tr (r : Nat → Nat → Bool) (a b : Nat) : Bool := r b a
structure Ord (n : Nat) (r : Nat → Nat → Bool) : Prop where
  refl : ∀ a, a < n → r a a = true
  anti : ∀ a b, a < n → b < n → r a b = true → r b a = true → a = b
  trans : ∀ a b c, a < n → b < n → c < n → r a b = true → r b c = true → r a c = true
structure Latt (n : Nat) (r : Nat → Nat → Bool) : Prop extends Ord n r where
  pos : 0 < n
  hasJ : ∀ a b, a < n → b < n → (jn n r a b).isSome = true
  hasM : ∀ a b, a < n → b < n → (jn n (tr r) a b).isSome = true
theorem Ord.tr {n : Nat} {r : Nat → Nat → Bool} (h : Ord n r) : Ord n (tr r) :=
  ⟨h.refl, fun a b ha hb h1 h2 => h.anti a b ha hb h2 h1, fun a b c ha hb hc h1 h2 => h.trans c b a hc hb ha h2 h1⟩
theorem Latt.tr {n : Nat} {r : Nat → Nat → Bool} (h : Latt n r) : Latt n (tr r) :=
  { h.toOrd.tr with pos := h.pos, hasJ := h.hasM, hasM := h.hasJ }
variable {n : Nat} {r : Nat → Nat → Bool}
/-- What stands above c stands above both. -/
def IsJ (n : Nat) (r : Nat → Nat → Bool) (a b c : Nat) : Prop := c < n ∧ ∀ z, z < n → r c z = (r a z && r b z)
theorem jn_isJ (h : Ord n r) {a b c : Nat} (ha : a < n) (hb : b < n) (e : jn n r a b = some c) : IsJ n r a b c := by
  unfold jn at e
  have h1 := List.mem_of_find?_eq_some e
  have h2 := List.find?_some e
  have hc : c < n := List.mem_range.1 h1
  simp only [Bool.and_eq_true, List.all_eq_true, List.mem_range] at h2
  obtain ⟨⟨h3, h4⟩, h5⟩ := h2
  refine ⟨hc, fun z hz => ?_⟩
  have h6 := h5 z hz
  cases hcz : r c z
  · cases h7 : (r a z && r b z)
    · rfl
    · rw [h7, hcz] at h6; cases h6
  · rw [h.trans a c z ha hc hz h3 hcz, h.trans b c z hb hc hz h4 hcz]; rfl
theorem isJ_uniq (h : Ord n r) {a b c d : Nat} (h1 : IsJ n r a b c) (h2 : IsJ n r a b d) : c = d := by
  refine h.anti c d h1.1 h2.1 ?_ ?_
  · rw [h1.2 d h2.1, ← h2.2 d h2.1]; exact h.refl d h2.1
  · rw [h2.2 c h1.1, ← h1.2 c h1.1]; exact h.refl c h1.1
theorem isJ_jn (h : Ord n r) {a b c : Nat} (ha : a < n) (hb : b < n) (hc : IsJ n r a b c) : jn n r a b = some c := by
  have hcc := h.refl c hc.1
  have hs : (jn n r a b).isSome = true := by
    unfold jn
    rw [List.find?_isSome]
    refine ⟨c, List.mem_range.2 hc.1, ?_⟩
    rw [hc.2 c hc.1] at hcc
    simp only [Bool.and_eq_true, List.all_eq_true, List.mem_range]
    simp only [Bool.and_eq_true] at hcc
    refine ⟨hcc, fun d hd => ?_⟩
    rw [← hc.2 d hd]
    cases r c d <;> rfl
  obtain ⟨d, hd⟩ := Option.isSome_iff_exists.1 hs
  rw [hd, isJ_uniq h (jn_isJ h ha hb hd) hc]
theorem Latt.join (h : Latt n r) {a b : Nat} (ha : a < n) (hb : b < n) : ∃ c, jn n r a b = some c ∧ IsJ n r a b c := by
  obtain ⟨c, hc⟩ := Option.isSome_iff_exists.1 (h.hasJ a b ha hb)
  exact ⟨c, hc, jn_isJ h.toOrd ha hb hc⟩
/-- The join as a number; there is none: -1. -/
def jI (n : Nat) (r : Nat → Nat → Bool) (a b : Nat) : Int := match jn n r a b with | some c => c | none => -1
theorem jI_some {a b c : Nat} (h : jn n r a b = some c) : jI n r a b = c := by unfold jI; rw [h]
theorem IsJ.comm {a b c : Nat} (h : IsJ n r a b c) : IsJ n r b a c := ⟨h.1, fun z hz => by rw [h.2 z hz, Bool.and_comm]⟩
theorem jn_comm (h : Ord n r) {a b : Nat} (ha : a < n) (hb : b < n) : jn n r a b = jn n r b a := by
  cases e : jn n r a b with
  | some c => rw [isJ_jn h hb ha (jn_isJ h ha hb e).comm]
  | none =>
    cases e2 : jn n r b a with
    | none => rfl
    | some c => rw [isJ_jn h ha hb (jn_isJ h hb ha e2).comm] at e; cases e
theorem isJ_self (h : Ord n r) {a : Nat} (ha : a < n) : IsJ n r a a a := ⟨ha, fun z _ => (Bool.and_self _).symm⟩
theorem isJ_of_le (h : Ord n r) {a b : Nat} (ha : a < n) (hb : b < n) (hab : r a b = true) : IsJ n r a b b := ⟨hb, fun z hz => by
  cases hbz : r b z
  · rw [Bool.and_false]
  · rw [h.trans a b z ha hb hz hab hbz]; rfl⟩
theorem IsJ.le1 (h : Ord n r) {a b c : Nat} (hc : IsJ n r a b c) : r a c = true := by
  have := hc.2 c hc.1; rw [h.refl c hc.1] at this
  simp only [Bool.true_eq, Bool.and_eq_true] at this; exact this.1
theorem IsJ.le2 (h : Ord n r) {a b c : Nat} (hc : IsJ n r a b c) : r b c = true := hc.comm.le1 h
theorem isJ_assoc (h : Ord n r) {x y z p q s t : Nat} (h1 : IsJ n r x y p) (h2 : IsJ n r p z q) (h3 : IsJ n r y z s) (h4 : IsJ n r x s t) : q = t :=
  isJ_uniq h h2 (a := p) (b := z) ⟨h4.1, fun w hw => by rw [h4.2 w hw, h3.2 w hw, h1.2 w hw, Bool.and_assoc]⟩
/-- A join with a meet of it. -/
theorem isJ_absorb (h : Ord n r) {x y m : Nat} (hx : x < n) (hm : IsJ n (tr r) x y m) : IsJ n r x m x :=
  (isJ_of_le h hm.1 hx (hm.le1 h.tr)).comm
/-- The point below all. -/
def IsBot (n : Nat) (r : Nat → Nat → Bool) (b : Nat) : Prop := b < n ∧ ∀ z, z < n → r b z = true
theorem isBot_uniq (h : Ord n r) {a b : Nat} (ha : IsBot n r a) (hb : IsBot n r b) : a = b := h.anti a b ha.1 hb.1 (ha.2 b hb.1) (hb.2 a ha.1)
/-- Meets, one behind another. -/
def foldM (n : Nat) (r : Nat → Nat → Bool) : Nat → Option Nat
  | 0 => some 0
  | k + 1 => match foldM n r k with | some x => jn n (tr r) x k | none => none
theorem foldM_spec (h : Latt n r) : ∀ k, k ≤ n → ∃ x, foldM n r k = some x ∧ x < n ∧ ∀ z, z < k → r x z = true
  | 0, _ => ⟨0, rfl, h.pos, fun z hz => by omega⟩
  | k + 1, hk => by
    obtain ⟨x, h1, h2, h3⟩ := foldM_spec h k (by omega)
    obtain ⟨c, h4, h5⟩ := h.tr.join h2 (show k < n by omega)
    refine ⟨c, by unfold foldM; rw [h1]; exact h4, h5.1, fun z hz => ?_⟩
    by_cases e : z = k
    · subst e; exact h5.le2 h.toOrd.tr
    · exact h.trans c x z h5.1 h2 (by omega) (h5.le1 h.toOrd.tr) (h3 z (by omega))
theorem Latt.bot (h : Latt n r) : ∃ x, foldM n r n = some x ∧ IsBot n r x := by
  obtain ⟨x, h1, h2, h3⟩ := foldM_spec h n (Nat.le_refl _)
  exact ⟨x, h1, h2, h3⟩
/-- What nothing else stands below of is the bottom. -/
theorem Latt.minimal (h : Latt n r) {x : Nat} (hx : x < n) (hm : ∀ z, z < n → r z x = true → z = x) : IsBot n r x := by
  obtain ⟨b, _, hb⟩ := h.bot
  have := hm b hb.1 (hb.2 x hx)
  subst this; exact hb
end Go.Proofs.YtpkpbfemglmejaaDoor

/- Plain laws of sets in words. -/
namespace Go.Proofs.YtpkpbfemglmejaaDoor
set_option linter.unusedVariables false
set_option linter.unusedSimpArgs false
set_option maxRecDepth 100000
open Go
theorem low_bits {x k m : Nat} (hx : x = 2 ^ k * (2 * m + 1)) : (∀ j, j < k → x.testBit j = false) ∧ x.testBit k = true ∧ ∀ j, (x &&& (x - 1)).testBit j = (x.testBit j && decide (j ≠ k)) := by
  have h1 : ∀ j, x.testBit j = (decide (k ≤ j) && (2 * m + 1).testBit (j - k)) := fun j => by rw [hx, Nat.testBit_two_pow_mul]
  have hp : 0 < 2 ^ k := Nat.two_pow_pos k
  have e2 : x - 1 = 2 ^ (k + 1) * m + (2 ^ k - 1) := by rw [hx, Nat.pow_succ, Nat.mul_add, Nat.mul_assoc]; omega
  have e3 : x = 2 ^ (k + 1) * m + 2 ^ k := by rw [hx, Nat.pow_succ, Nat.mul_add, Nat.mul_assoc]; omega
  have hlt : 2 ^ k < 2 ^ (k + 1) := Nat.pow_lt_pow_right (by decide) (by omega)
  have h2 : ∀ j, (x - 1).testBit j = if j < k + 1 then (2 ^ k - 1).testBit j else m.testBit (j - (k + 1)) := fun j => by rw [e2, Nat.testBit_two_pow_mul_add _ (by omega)]
  have h3 : ∀ j, x.testBit j = if j < k + 1 then (2 ^ k).testBit j else m.testBit (j - (k + 1)) := fun j => by conv => lhs; rw [e3, Nat.testBit_two_pow_mul_add _ hlt]
  refine ⟨fun j hj => ?_, ?_, fun j => ?_⟩
  · rw [h1, decide_eq_false (by omega), Bool.false_and]
  · rw [h1, Nat.sub_self]; simp
  · rw [Nat.testBit_and, h2, h3]
    by_cases hj : j < k + 1
    · rw [if_pos hj, if_pos hj, Nat.testBit_two_pow]
      by_cases e : k = j
      · subst e; simp
      · simp [e]
    · rw [if_neg hj, if_neg hj, Bool.and_self, decide_eq_true (by omega : j ≠ k), Bool.and_true]
/-- The points of a set, rising. -/
def bitsOf (x : Nat) : List Nat := (List.range 64).filter x.testBit
theorem bitsOf_zero : bitsOf 0 = [] := by
  unfold bitsOf
  refine List.filter_eq_nil_iff.2 fun a _ => by simp
theorem mem_bitsOf {x j : Nat} (hx : x < 2 ^ 64) : j ∈ bitsOf x ↔ x.testBit j = true := by
  unfold bitsOf
  rw [List.mem_filter, List.mem_range]
  constructor
  · exact fun h => h.2
  · intro h
    refine ⟨?_, h⟩
    refine Nat.lt_of_not_le fun hj => ?_
    rw [Nat.testBit_lt_two_pow (Nat.lt_of_lt_of_le hx (Nat.pow_le_pow_right (by decide) hj))] at h
    cases h
theorem rise_uniq : ∀ l k : List Nat, l.Pairwise (· < ·) → k.Pairwise (· < ·) → (∀ x, x ∈ l ↔ x ∈ k) → l = k
  | [], [], _, _, _ => rfl
  | [], y :: k, _, _, h => absurd ((h y).2 (by simp)) (by simp)
  | x :: l, [], _, _, h => absurd ((h x).1 (by simp)) (by simp)
  | x :: l, y :: k, hl, hk, h => by
    obtain ⟨h1, h2⟩ := List.pairwise_cons.1 hl
    obtain ⟨h3, h4⟩ := List.pairwise_cons.1 hk
    have e : x = y := by
      rcases List.mem_cons.1 ((h x).1 (by simp)) with e | e
      · exact e
      · rcases List.mem_cons.1 ((h y).2 (by simp)) with e' | e'
        · exact e'.symm
        · have := h1 y e'; have := h3 x e; omega
    subst e
    congr 1
    refine rise_uniq l k h2 h4 fun z => ?_
    have hz := h z
    simp only [List.mem_cons] at hz
    constructor
    · intro hm
      rcases hz.1 (.inr hm) with e | e
      · have := h1 z hm; omega
      · exact e
    · intro hm
      rcases hz.2 (.inr hm) with e | e
      · have := h3 z hm; omega
      · exact e
theorem bitsOf_rise (x : Nat) : (bitsOf x).Pairwise (· < ·) := List.Pairwise.filter _ List.pairwise_lt_range
theorem and_pred_lt {x : Nat} (hx : x < 2 ^ 64) : x &&& (x - 1) < 2 ^ 64 := Nat.lt_of_le_of_lt Nat.and_le_left hx
theorem bitsOf_step {x : Nat} (h0 : x ≠ 0) (hx : x < 2 ^ 64) : bitsOf x = Lib.ctz 64 x :: bitsOf (x &&& (x - 1)) := by
  obtain ⟨m, hm, hk⟩ := Lib.ctzFrom_spec 64 x (by omega) hx
  have e : Lib.ctz 64 x = Lib.ctzFrom 64 x := by simp [Lib.ctz, h0]
  rw [← e] at hm hk
  obtain ⟨h1, h2, h3⟩ := low_bits hm
  refine rise_uniq _ _ (bitsOf_rise x) (List.pairwise_cons.2 ⟨fun j hj => ?_, bitsOf_rise _⟩) fun j => ?_
  · rw [mem_bitsOf (and_pred_lt hx), h3, Bool.and_eq_true, decide_eq_true_eq] at hj
    refine Nat.lt_of_not_le fun hle => ?_
    rw [h1 j (by omega)] at hj; exact absurd hj.1 (by simp)
  · rw [List.mem_cons, mem_bitsOf hx, mem_bitsOf (and_pred_lt hx), h3, Bool.and_eq_true, decide_eq_true_eq]
    constructor
    · intro h
      by_cases e : j = Lib.ctz 64 x
      · exact .inl e
      · exact .inr ⟨h, e⟩
    · rintro (rfl | h)
      · exact h2
      · exact h.1
theorem ctz_lt {x : Nat} (h0 : x ≠ 0) (hx : x < 2 ^ 64) : Lib.ctz 64 x < 64 := by
  obtain ⟨m, hm, hk⟩ := Lib.ctzFrom_spec 64 x (by omega) hx
  simpa [Lib.ctz, h0] using hk
/-- Whether a stands below b, as rows tell. -/
def lq (u : List Nat) (a b : Nat) : Bool := (u.getD a 0).testBit b
/-- The points below one, of the first so many rows. -/
def dn (u : List Nat) (a : Nat) : Nat → Nat
  | 0 => 0
  | k + 1 => dn u a k ||| ((((u.getD k 0) >>> a) &&& 1) <<< k)
theorem one_bit (x a k j : Nat) : (((x >>> a) &&& 1) <<< k).testBit j = (decide (j = k) && x.testBit a) := by
  rw [Nat.testBit_shiftLeft, Nat.testBit_and, Nat.testBit_shiftRight]
  by_cases h : j = k
  · subst h; simp
  · by_cases h2 : k ≤ j
    · obtain ⟨i, hi⟩ : ∃ i, j - k = i + 1 := ⟨j - k - 1, by omega⟩
      rw [hi, Nat.testBit_succ]
      simp [h]
    · simp [h, h2]
theorem dn_bit (u : List Nat) (a : Nat) : ∀ k j, (dn u a k).testBit j = (decide (j < k) && lq u j a)
  | 0, j => by simp [dn]
  | k + 1, j => by
    unfold dn
    rw [Nat.testBit_or, dn_bit u a k j, one_bit]
    by_cases h : j = k
    · subst h; simp [lq]
    · simp only [h, decide_false, Bool.false_and, Bool.or_false]
      congr 1
      exact decide_eq_decide.2 (by omega)
theorem lt_of_bits {x n : Nat} (h : ∀ j, n ≤ j → x.testBit j = false) : x < 2 ^ n := Nat.lt_pow_two_of_testBit x h
theorem dn_lt (u : List Nat) (a k : Nat) : dn u a k < 2 ^ k := lt_of_bits fun j hj => by rw [dn_bit, decide_eq_false (by omega), Bool.false_and]
/-- The numbers of a set that are not of another one. -/
def andn (x y : Nat) : Nat := (BitVec.ofInt 64 x &&& ~~~ BitVec.ofInt 64 y).toNat
theorem ofInt_bit (x : Nat) (j : Nat) : (BitVec.ofInt 64 (x : Int)).getLsbD j = (decide (j < 64) && x.testBit j) := by
  rw [BitVec.ofInt_natCast, BitVec.getLsbD_ofNat]
theorem andn_bit (x y j : Nat) : (andn x y).testBit j = (decide (j < 64) && x.testBit j && !y.testBit j) := by
  unfold andn
  rw [BitVec.testBit_toNat, BitVec.getLsbD_and, BitVec.getLsbD_not, ofInt_bit, ofInt_bit]
  cases decide (j < 64) <;> simp
theorem and_nat {x y : Nat} (hx : x < 2 ^ 64) : (BitVec.ofInt 64 (x : Int) &&& BitVec.ofInt 64 (y : Int)).toNat = x &&& y := by
  refine Nat.eq_of_testBit_eq fun j => ?_
  rw [BitVec.testBit_toNat, BitVec.getLsbD_and, ofInt_bit, ofInt_bit, Nat.testBit_and]
  by_cases hj : j < 64
  · simp [hj]
  · rw [Nat.testBit_lt_two_pow (Nat.lt_of_lt_of_le hx (Nat.pow_le_pow_right (by decide) (Nat.le_of_not_lt hj)))]; simp
theorem or_nat {x y : Nat} (hx : x < 2 ^ 64) (hy : y < 2 ^ 64) : (BitVec.ofInt 64 (x : Int) ||| BitVec.ofInt 64 (y : Int)).toNat = x ||| y := by
  refine Nat.eq_of_testBit_eq fun j => ?_
  rw [BitVec.testBit_toNat, BitVec.getLsbD_or, ofInt_bit, ofInt_bit, Nat.testBit_or]
  by_cases hj : j < 64
  · simp [hj]
  · have h : ∀ z, z < 2 ^ 64 → z.testBit j = false := fun z hz => Nat.testBit_lt_two_pow (Nat.lt_of_lt_of_le hz (Nat.pow_le_pow_right (by decide) (Nat.le_of_not_lt hj)))
    rw [h x hx, h y hy]; simp
theorem andn_zero {x y : Nat} (hx : x < 2 ^ 64) : andn x y = 0 ↔ ∀ j, x.testBit j = true → y.testBit j = true := by
  constructor
  · intro h j hj
    have h2 := andn_bit x y j
    rw [h, Nat.zero_testBit, hj] at h2
    have hj64 : j < 64 := Nat.lt_of_not_le fun hle => by
      rw [Nat.testBit_lt_two_pow (Nat.lt_of_lt_of_le hx (Nat.pow_le_pow_right (by decide) hle))] at hj; cases hj
    rw [decide_eq_true hj64] at h2
    cases hy : y.testBit j
    · rw [hy] at h2; cases h2
    · rfl
  · intro h
    refine Nat.eq_of_testBit_eq fun j => ?_
    rw [andn_bit, Nat.zero_testBit]
    cases hxj : x.testBit j
    · simp
    · rw [h j hxj]; simp
theorem andn_lt (x y : Nat) : andn x y < 2 ^ 64 := (BitVec.ofInt 64 (x : Int) &&& ~~~ BitVec.ofInt 64 (y : Int)).isLt
end Go.Proofs.YtpkpbfemglmejaaDoor

/- Plain laws of rows of sets: order, joins and meets as they are looked for. -/
namespace Go.Proofs.YtpkpbfemglmejaaDoor
set_option linter.unusedVariables false
set_option linter.unusedSimpArgs false
set_option maxRecDepth 100000
open Go
/-- Whether it is an order, told plainly. -/
def ordB (n : Nat) (r : Nat → Nat → Bool) : Bool := (List.range n).all fun a => r a a && (List.range n).all fun b => (!(r a b && r b a) || decide (a = b)) && (List.range n).all fun c => !(r a b && r b c) || r a c
theorem ordB_iff {n : Nat} {r : Nat → Nat → Bool} : ordB n r = true ↔ Ord n r := by
  unfold ordB
  simp only [List.all_eq_true, List.mem_range, Bool.and_eq_true, Bool.or_eq_true, Bool.not_eq_true', decide_eq_true_eq]
  constructor
  · intro h
    refine ⟨fun a ha => (h a ha).1, fun a b ha hb h1 h2 => ?_, fun a b c ha hb hc h1 h2 => ?_⟩
    · rcases ((h a ha).2 b hb).1 with h3 | h3
      · rw [h1, h2] at h3; cases h3
      · exact h3
    · rcases ((h a ha).2 b hb).2 c hc with h3 | h3
      · rw [h1, h2] at h3; cases h3
      · exact h3
  · intro h a ha
    refine ⟨h.refl a ha, fun b hb => ⟨?_, fun c hc => ?_⟩⟩
    · cases h1 : r a b <;> cases h2 : r b a <;> simp
      exact h.anti a b ha hb h1 h2
    · cases h1 : r a b <;> cases h2 : r b c <;> simp
      exact h.trans a b c ha hb hc h1 h2
/-- Whether every two points have a join, and a meet. -/
def boundB (n : Nat) (r : Nat → Nat → Bool) : Bool := (List.range n).all fun a => (List.range n).all fun b => (jn n r a b).isSome && (jn n (tr r) a b).isSome
theorem latt_iff {n : Nat} {r : Nat → Nat → Bool} (hn : 0 < n) : (ordB n r = true ∧ boundB n r = true) ↔ Latt n r := by
  rw [ordB_iff]
  unfold boundB
  simp only [List.all_eq_true, List.mem_range, Bool.and_eq_true]
  constructor
  · rintro ⟨h1, h2⟩
    exact { h1 with pos := hn, hasJ := fun a b ha hb => (h2 a ha b hb).1, hasM := fun a b ha hb => (h2 a ha b hb).2 }
  · intro h
    exact ⟨h.toOrd, fun a ha b hb => ⟨h.hasJ a b ha hb, h.hasM a b ha hb⟩⟩
/-- As it is looked for: of each point those ahead of it alone. -/
def boundP (n : Nat) (r : Nat → Nat → Bool) : Bool := (List.range n).all fun a => (List.range a).all fun b => (jn n r a b).isSome && (jn n (tr r) a b).isSome
theorem boundP_eq {n : Nat} {r : Nat → Nat → Bool} (h : Ord n r) : boundP n r = boundB n r := by
  refine Bool.eq_iff_iff.2 ?_
  unfold boundP boundB
  simp only [List.all_eq_true, List.mem_range, Bool.and_eq_true]
  constructor
  · intro h1 a ha b hb
    rcases Nat.lt_trichotomy a b with hab | hab | hab
    · have := h1 b hb a hab
      rw [jn_comm h ha hb, jn_comm h.tr ha hb]; exact this
    · subst hab
      rw [isJ_jn h ha ha (isJ_self h ha), isJ_jn h.tr ha ha (isJ_self h.tr ha)]; exact ⟨rfl, rfl⟩
    · exact h1 a ha b hab
  · intro h1 a ha b hb
    exact h1 a ha b (by omega)
/-- Rows of so many bits. -/
def Inn (n : Nat) (u : List Nat) : Prop := ∀ x ∈ u, x < 2 ^ n
theorem getD_lt {n : Nat} {u : List Nat} (h : Inn n u) (a : Nat) : u.getD a 0 < 2 ^ n := by
  rw [List.getD_eq_getElem?_getD]
  cases e : u[a]? with
  | none => exact Nat.two_pow_pos n
  | some x => exact h x (List.mem_of_getElem? e)
theorem le64 {n x : Nat} (hn : n ≤ 64) (h : x < 2 ^ n) : x < 2 ^ 64 := Nat.lt_of_lt_of_le h (Nat.pow_le_pow_right (by decide) hn)
theorem bit_lt {n x j : Nat} (h : x < 2 ^ n) (hj : x.testBit j = true) : j < n := Nat.lt_of_not_le fun hle => by
  rw [Nat.testBit_lt_two_pow (Nat.lt_of_lt_of_le h (Nat.pow_le_pow_right (by decide) hle))] at hj; cases hj
theorem lq_lt {n : Nat} {u : List Nat} (h : Inn n u) {a b : Nat} (hq : lq u a b = true) : b < n := bit_lt (getD_lt h a) hq
theorem lq_lt1 {u : List Nat} {a b : Nat} (hq : lq u a b = true) : a < u.length := Nat.lt_of_not_le fun hle => by
  unfold lq at hq
  rw [List.getD_eq_getElem?_getD, List.getElem?_eq_none hle] at hq
  simp at hq
/-- Whether a row of an order is as it should. -/
def okRow (u : List Nat) (n a : Nat) : Bool := !decide (u.getD a 0 &&& 2 ^ a = 0) && decide (u.getD a 0 &&& dn u a n = 2 ^ a) && (bitsOf (u.getD a 0)).all fun b => decide (andn (u.getD b 0) (u.getD a 0) = 0)
theorem and_pow_zero (x a : Nat) : x &&& 2 ^ a = 0 ↔ x.testBit a = false := by
  constructor
  · intro h
    have h1 := congrArg (fun z => z.testBit a) h
    simpa [Nat.testBit_two_pow_self] using h1
  · intro h
    refine Nat.eq_of_testBit_eq fun j => ?_
    rw [Nat.testBit_and, Nat.testBit_two_pow, Nat.zero_testBit]
    by_cases e : a = j
    · subst e; rw [h]; rfl
    · rw [decide_eq_false e, Bool.and_false]
theorem okRow_iff {u : List Nat} {n a : Nat} (hl : u.length = n) (hn : n ≤ 64) (hi : Inn n u) (ha : a < n) :
    okRow u n a = true ↔ (lq u a a = true ∧ (∀ b, b < n → lq u a b = true → lq u b a = true → a = b) ∧ ∀ b c, b < n → c < n → lq u a b = true → lq u b c = true → lq u a c = true) := by
  have hx := getD_lt hi a
  unfold okRow
  simp only [Bool.and_eq_true, Bool.not_eq_true', decide_eq_false_iff_not, decide_eq_true_eq, List.all_eq_true]
  rw [and_pow_zero]
  simp only [Bool.not_eq_false]
  constructor
  · rintro ⟨⟨h1, h2⟩, h3⟩
    refine ⟨h1, fun b hb hab hba => ?_, fun b c hb hc hab hbc => ?_⟩
    · have h4 := congrArg (fun z => z.testBit b) h2
      simp only [Nat.testBit_and, dn_bit, Nat.testBit_two_pow, decide_eq_true hb, Bool.true_and] at h4
      rw [show (u.getD a 0).testBit b = true from hab, show lq u b a = true from hba] at h4
      simpa using h4
    · exact (andn_zero (le64 hn (getD_lt hi b))).1 (h3 b ((mem_bitsOf (le64 hn hx)).2 hab)) c hbc
  · rintro ⟨h1, h2, h3⟩
    refine ⟨⟨h1, ?_⟩, fun b hb => ?_⟩
    · refine Nat.eq_of_testBit_eq fun j => ?_
      rw [Nat.testBit_and, dn_bit, Nat.testBit_two_pow]
      by_cases e : a = j
      · subst e
        rw [show (u.getD a 0).testBit a = true from h1, h1, decide_eq_true ha, decide_eq_true rfl]; rfl
      · rw [decide_eq_false e]
        by_cases hj : j < n
        · cases h5 : (u.getD a 0).testBit j
          · rfl
          · cases h6 : lq u j a
            · rw [Bool.and_false, Bool.and_false]
            · exact absurd (h2 j hj h5 h6) e
        · rw [decide_eq_false hj, Bool.false_and, Bool.and_false]
    · have hab := (mem_bitsOf (le64 hn hx)).1 hb
      have hbn := bit_lt hx hab
      exact (andn_zero (le64 hn (getD_lt hi b))).2 fun c hc => h3 b c hbn (bit_lt (getD_lt hi b) hc) hab hc
theorem rows_ord {u : List Nat} {n : Nat} (hl : u.length = n) (hn : n ≤ 64) (hi : Inn n u) : (List.range n).all (okRow u n) = ordB n (lq u) := by
  refine Bool.eq_iff_iff.2 ?_
  rw [ordB_iff, List.all_eq_true]
  simp only [List.mem_range]
  constructor
  · intro h
    exact ⟨fun a ha => ((okRow_iff hl hn hi ha).1 (h a ha)).1, fun a b ha hb => ((okRow_iff hl hn hi ha).1 (h a ha)).2.1 b hb, fun a b c ha hb hc => ((okRow_iff hl hn hi ha).1 (h a ha)).2.2 b c hb hc⟩
  · intro h a ha
    exact (okRow_iff hl hn hi ha).2 ⟨h.refl a ha, fun b hb => h.anti a b ha hb, fun b c hb hc => h.trans a b c ha hb hc⟩
theorem find_range {p : Nat → Bool} {n m : Nat} (hnm : n ≤ m) (h : ∀ j, n ≤ j → p j = false) : (List.range m).find? p = (List.range n).find? p := by
  obtain ⟨d, rfl⟩ : ∃ d, m = n + d := ⟨m - n, by omega⟩
  rw [List.range_add, List.find?_append]
  have : ((List.range d).map (fun x => n + x)).find? p = none := by
    rw [List.find?_eq_none]
    intro x hx
    obtain ⟨y, _, rfl⟩ := List.mem_map.1 hx
    rw [h _ (by omega)]; simp
  rw [this, Option.or_none]
/-- The join as it is looked for. -/
def joinP (u : List Nat) (a b : Nat) : Option Nat := (bitsOf (u.getD a 0 &&& u.getD b 0)).find? fun c => decide (andn (u.getD a 0 &&& u.getD b 0) (u.getD c 0) = 0)
/-- The meet as it is looked for. -/
def meetP (u : List Nat) (n a b : Nat) : Option Nat := (bitsOf (dn u a n &&& dn u b n)).find? fun c => decide (andn (dn u a n &&& dn u b n) (dn u c n) = 0)
theorem find_congr {p q : Nat → Bool} : ∀ l : List Nat, (∀ c ∈ l, p c = q c) → l.find? p = l.find? q
  | [], _ => rfl
  | a :: l, h => by
    rw [List.find?_cons, List.find?_cons, h a (by simp), find_congr l fun c hc => h c (by simp [hc])]
theorem find_set {x n : Nat} {q p : Nat → Bool} (hn : n ≤ 64) (hx : x < 2 ^ n) (h : ∀ c, c < n → p c = (x.testBit c && q c)) : (bitsOf x).find? q = (List.range n).find? p := by
  unfold bitsOf
  rw [List.find?_filter, find_range hn fun j hj => by
    cases e : x.testBit j
    · rfl
    · exact absurd (bit_lt hx e) (by omega)]
  refine find_congr _ fun c hc => ?_
  rw [h c (List.mem_range.1 hc)]
  cases x.testBit c <;> cases q c <;> rfl
theorem joinP_eq {u : List Nat} {n a b : Nat} (hn : n ≤ 64) (hi : Inn n u) : joinP u a b = jn n (lq u) a b := by
  have hx : u.getD a 0 &&& u.getD b 0 < 2 ^ n := Nat.lt_of_le_of_lt Nat.and_le_left (getD_lt hi a)
  unfold joinP jn
  refine find_set hn hx fun c hc => ?_
  rw [Nat.testBit_and]
  show (lq u a c && lq u b c && _) = (lq u a c && lq u b c && _)
  congr 1
  refine Bool.eq_iff_iff.2 ?_
  rw [decide_eq_true_eq, andn_zero (le64 hn hx), List.all_eq_true]
  constructor
  · intro h j hj
    have hjn := bit_lt hx hj
    have h1 := h j (List.mem_range.2 hjn)
    rw [Nat.testBit_and] at hj
    rw [show (lq u a j && lq u b j) = true from hj] at h1
    exact h1
  · intro h j _
    cases h1 : (lq u a j && lq u b j)
    · rfl
    · have := h j (by rw [Nat.testBit_and]; exact h1)
      rw [show lq u c j = true from this]; rfl
theorem meetP_eq {u : List Nat} {n a b : Nat} (hl : u.length = n) (hn : n ≤ 64) : meetP u n a b = jn n (tr (lq u)) a b := by
  have hx : dn u a n &&& dn u b n < 2 ^ n := Nat.lt_of_le_of_lt Nat.and_le_left (dn_lt u a n)
  have hb : ∀ c j, j < n → (dn u c n).testBit j = tr (lq u) c j := fun c j hj => by rw [dn_bit, decide_eq_true hj]; rfl
  unfold meetP jn
  refine find_set hn hx fun c hc => ?_
  rw [Nat.testBit_and, hb a c hc, hb b c hc]
  congr 1
  refine Bool.eq_iff_iff.2 ?_
  rw [decide_eq_true_eq, andn_zero (le64 hn hx), List.all_eq_true]
  constructor
  · intro h j hj
    have hjn := bit_lt hx hj
    have h1 := h j (List.mem_range.2 hjn)
    rw [Nat.testBit_and, hb a j hjn, hb b j hjn] at hj
    rw [hj] at h1
    rw [hb c j hjn]
    simpa using h1
  · intro h j hj
    have hjn := List.mem_range.1 hj
    cases h1 : (tr (lq u) a j && tr (lq u) b j)
    · rfl
    · have := h j (by rw [Nat.testBit_and, hb a j hjn, hb b j hjn]; exact h1)
      rw [hb c j hjn] at this
      rw [this]; rfl
end Go.Proofs.YtpkpbfemglmejaaDoor

/- Words of 64 bits as the machine turns them. -/
namespace Go.Proofs.YtpkpbfemglmejaaDoor
set_option linter.unusedVariables false
set_option linter.unusedSimpArgs false
set_option maxRecDepth 100000
open Go Go.RowKit

theorem ubits : IntKind.u64.bits = 64 := rfl
theorem uWrap {x : Int} (h0 : 0 ≤ x) (h : x < 18446744073709551616) : IntKind.u64.wrap x = x := by
  unfold IntKind.wrap
  have hb : IntKind.u64.bits = 64 := rfl
  have hsg : IntKind.u64.signed = false := rfl
  simp only [hb, hsg, Bool.false_and, Bool.false_eq_true, ↓reduceIte]
  omega
theorem uWrapN {x : Nat} (h : x < 2 ^ 64) : IntKind.u64.wrap (x : Int) = (x : Int) := uWrap (by omega) (by omega)
theorem uAnd {x y : Nat} (hx : x < 2 ^ 64) : IntKind.u64.wrap ((BitVec.ofInt IntKind.u64.bits (x : Int) &&& BitVec.ofInt IntKind.u64.bits (y : Int)).toNat : Int) = ((x &&& y : Nat) : Int) := by
  have e : (BitVec.ofInt IntKind.u64.bits (x : Int) &&& BitVec.ofInt IntKind.u64.bits (y : Int)).toNat = x &&& y := and_nat hx
  rw [e, uWrapN (Nat.lt_of_le_of_lt Nat.and_le_left hx)]
theorem uAnd1 {x : Nat} (hx : x < 2 ^ 64) : IntKind.u64.wrap ((BitVec.ofInt IntKind.u64.bits (x : Int) &&& BitVec.ofInt IntKind.u64.bits 1).toNat : Int) = ((x &&& 1 : Nat) : Int) := uAnd (y := 1) hx
theorem uOr {x y : Nat} (hx : x < 2 ^ 64) (hy : y < 2 ^ 64) : IntKind.u64.wrap ((BitVec.ofInt IntKind.u64.bits (x : Int) ||| BitVec.ofInt IntKind.u64.bits (y : Int)).toNat : Int) = ((x ||| y : Nat) : Int) := by
  have e : (BitVec.ofInt IntKind.u64.bits (x : Int) ||| BitVec.ofInt IntKind.u64.bits (y : Int)).toNat = x ||| y := or_nat hx hy
  rw [e, uWrapN (Nat.or_lt_two_pow hx hy)]
theorem uAndn (x y : Nat) : IntKind.u64.wrap ((BitVec.ofInt IntKind.u64.bits (x : Int) &&& ~~~BitVec.ofInt IntKind.u64.bits (y : Int)).toNat : Int) = ((andn x y : Nat) : Int) := uWrapN (andn_lt x y)
theorem uShr {x : Nat} (a : Nat) (hx : x < 2 ^ 64) : (x : Int).fdiv (2 ^ min a IntKind.u64.bits) = ((x >>> a : Nat) : Int) := by
  have key : ∀ b : Nat, (x : Int).fdiv (2 ^ b) = ((x >>> b : Nat) : Int) := fun b => by
    rw [Int.fdiv_eq_ediv_of_nonneg _ (by have := Int.pow_pos (n := (2 : Int)) (m := b) (by decide); omega), Nat.shiftRight_eq_div_pow]; simp
  rw [key, ubits]
  by_cases h : a ≤ 64
  · rw [Nat.min_eq_left h]
  · rw [Nat.min_eq_right (by omega), Nat.shiftRight_eq_div_pow, Nat.shiftRight_eq_div_pow, Nat.div_eq_of_lt hx, Nat.div_eq_of_lt (Nat.lt_of_lt_of_le hx (Nat.pow_le_pow_right (by decide) (by omega)))]
theorem uShl {x a : Nat} (ha : a ≤ 64) (h : x <<< a < 2 ^ 64) : IntKind.u64.wrap ((x : Int) * 2 ^ min a IntKind.u64.bits) = ((x <<< a : Nat) : Int) := by
  rw [ubits, Nat.min_eq_left ha]
  have e : (x : Int) * 2 ^ a = ((x <<< a : Nat) : Int) := by rw [Nat.shiftLeft_eq]; simp
  rw [e, uWrapN h]
theorem uOne {a : Nat} (ha : a < 64) : IntKind.u64.wrap (1 * 2 ^ min a IntKind.u64.bits) = ((2 ^ a : Nat) : Int) := by
  have h2 : (1 : Nat) <<< a = 2 ^ a := by rw [Nat.shiftLeft_eq, Nat.one_mul]
  have h := uShl (x := 1) (a := a) (by omega) (by rw [h2]; exact Nat.pow_lt_pow_right (by decide) ha)
  rw [h2] at h; exact h
theorem uAll {n : Nat} (hn : n ≤ 64) : IntKind.u64.wrap (IntKind.u64.wrap (1 * 2 ^ min n IntKind.u64.bits) - 1) = ((2 ^ n - 1 : Nat) : Int) := by
  by_cases h : n < 64
  · rw [uOne h]
    have h1 := Nat.two_pow_pos n
    have h2 : 2 ^ n < 2 ^ 64 := Nat.pow_lt_pow_right (by decide) h
    have e : ((2 ^ n : Nat) : Int) - 1 = ((2 ^ n - 1 : Nat) : Int) := by omega
    rw [e, uWrapN (by omega)]
  · obtain rfl : n = 64 := by omega
    decide
theorem bit_eq (x b : Nat) : decide (((x >>> b &&& 1 : Nat) : Int) = 1) = x.testBit b := by
  have h : x >>> b &&& 1 = (x.testBit b).toNat := by rw [Nat.and_comm, Nat.testBit, Nat.and_comm]; rw [Nat.and_one_is_mod]; rcases Nat.mod_two_eq_zero_or_one (x >>> b) with h | h <;> simp [h]
  rw [h]
  cases x.testBit b <;> rfl
theorem bit_mod (x b : Nat) : decide ((((x >>> b : Nat) : Int)).tmod 2 = 1) = x.testBit b := by
  have h := bit_eq x b
  rw [Nat.and_one_is_mod] at h
  rw [← h]
  refine decide_eq_decide.2 ?_
  have : ((x >>> b : Nat) : Int).tmod 2 = ((x >>> b % 2 : Nat) : Int) := by
    rw [Int.tmod_eq_emod_of_nonneg (Int.natCast_nonneg _)]; simp
  rw [this]
theorem all_zero {x n : Nat} (hn : n ≤ 64) (hx : x < 2 ^ 64) : decide (((andn x (2 ^ n - 1) : Nat) : Int) = 0) = decide (x < 2 ^ n) := by
  refine decide_eq_decide.2 ?_
  have e : ((andn x (2 ^ n - 1) : Nat) : Int) = 0 ↔ andn x (2 ^ n - 1) = 0 := by omega
  rw [e, andn_zero hx]
  constructor
  · intro h
    refine lt_of_bits fun j hj => ?_
    cases hb : x.testBit j
    · rfl
    · have := h j hb
      rw [Nat.testBit_two_pow_sub_one] at this
      simp at this; omega
  · intro h j hj
    rw [Nat.testBit_two_pow_sub_one]
    exact decide_eq_true (bit_lt h hj)
theorem cast_zero (x : Nat) : decide ((x : Int) = 0) = decide (x = 0) := decide_eq_decide.2 (by omega)
theorem cast_eq (x y : Nat) : decide ((x : Int) = (y : Int)) = decide (x = y) := decide_eq_decide.2 (by omega)

end Go.Proofs.YtpkpbfemglmejaaDoor

/- Plain laws of words: how many bits are set. -/
namespace Go.Proofs.YtpkpbfemglmejaaDoor
set_option linter.unusedVariables false
set_option linter.unusedSimpArgs false
set_option maxRecDepth 100000
open Go
/-- Bytes as a number, the lowest first. -/
def ofB : List Nat → Nat
  | [] => 0
  | b :: l => ofB l * 256 + b
theorem ofB_lt : ∀ l : List Nat, (∀ b ∈ l, b < 256) → ofB l < 256 ^ l.length
  | [], _ => by simp [ofB]
  | b :: l, h => by
    have h1 := ofB_lt l fun x hx => h x (by simp [hx])
    have h2 := h b (by simp)
    rw [List.length_cons, Nat.pow_succ]
    unfold ofB; omega
theorem ofB_ex : ∀ (n x : Nat), x < 256 ^ n → ∃ l : List Nat, l.length = n ∧ (∀ b ∈ l, b < 256) ∧ ofB l = x
  | 0, x, h => ⟨[], rfl, (fun b hb => by cases hb), (by simp at h; simp [ofB, h])⟩
  | n + 1, x, h => by
    obtain ⟨l, h1, h2, h3⟩ := ofB_ex n (x / 256) (by rw [Nat.pow_succ] at h; omega)
    refine ⟨x % 256 :: l, by simp [h1], fun b hb => ?_, by unfold ofB; rw [h3]; omega⟩
    rcases List.mem_cons.1 hb with rfl | hb
    · omega
    · exact h2 b hb
theorem and_split (a c : Nat) {b d : Nat} (hb : b < 256) (hd : d < 256) : (a * 256 + b) &&& (c * 256 + d) = (a &&& c) * 256 + (b &&& d) := by
  have e : ∀ u v : Nat, u * 256 + v = 2 ^ 8 * u + v := fun u v => by omega
  have hbd : b &&& d < 2 ^ 8 := Nat.lt_of_le_of_lt Nat.and_le_left hb
  refine Nat.eq_of_testBit_eq fun j => ?_
  rw [e, e, e, Nat.testBit_and, Nat.testBit_two_pow_mul_add _ hb, Nat.testBit_two_pow_mul_add _ hd, Nat.testBit_two_pow_mul_add _ hbd]
  split
  · rw [Nat.testBit_and]
  · rw [Nat.testBit_and]
def g1 (b : Nat) : Nat := (b / 2 &&& 85) + (b &&& 85)
def g2 (b : Nat) : Nat := (b / 4 &&& 51) + (b &&& 51)
def g3 (b : Nat) : Nat := (b / 16 + b) &&& 15
theorem fin1 : ∀ e : Fin 2, ∀ b : Fin 256, (e.val * 128 + b.val / 2) &&& 85 = b.val / 2 &&& 85 := by decide +kernel
theorem fin2 : ∀ e : Fin 4, ∀ b : Fin 256, (e.val * 64 + b.val / 4) &&& 51 = b.val / 4 &&& 51 := by decide +kernel
theorem fin3 : ∀ e : Fin 5, ∀ b : Fin 69, (e.val * 16 + (b.val / 16 + b.val)) &&& 15 = (b.val / 16 + b.val) &&& 15 := by decide +kernel
theorem fing : ∀ b : Fin 256, g1 b.val < 256 ∧ g2 (g1 b.val) ≤ 68 ∧ g2 (g1 b.val) % 16 ≤ 4 ∧ g3 (g2 (g1 b.val)) = ((List.range 8).filter b.val.testBit).length := by decide +kernel
theorem f1_ofB : ∀ l : List Nat, (∀ b ∈ l, b < 256) → (ofB l / 2 &&& ofB (List.replicate l.length 85)) + (ofB l &&& ofB (List.replicate l.length 85)) = ofB (l.map g1)
  | [], _ => rfl
  | b :: l, h => by
    have ih := f1_ofB l fun x hx => h x (by simp [hx])
    have hb := h b (by simp)
    simp only [List.length_cons, List.replicate_succ, List.map_cons, ofB]
    have e : (ofB l * 256 + b) / 2 = ofB l / 2 * 256 + (ofB l % 2 * 128 + b / 2) := by omega
    rw [e, and_split _ _ (by omega) (by decide), and_split _ _ hb (by decide), fin1 ⟨ofB l % 2, by omega⟩ ⟨b, hb⟩, ← ih]
    show _ = _ * 256 + ((b / 2 &&& 85) + (b &&& 85))
    simp only; omega
theorem f2_ofB : ∀ l : List Nat, (∀ b ∈ l, b < 256) → (ofB l / 4 &&& ofB (List.replicate l.length 51)) + (ofB l &&& ofB (List.replicate l.length 51)) = ofB (l.map g2)
  | [], _ => rfl
  | b :: l, h => by
    have ih := f2_ofB l fun x hx => h x (by simp [hx])
    have hb := h b (by simp)
    simp only [List.length_cons, List.replicate_succ, List.map_cons, ofB]
    have e : (ofB l * 256 + b) / 4 = ofB l / 4 * 256 + (ofB l % 4 * 64 + b / 4) := by omega
    rw [e, and_split _ _ (by omega) (by decide), and_split _ _ hb (by decide), fin2 ⟨ofB l % 4, by omega⟩ ⟨b, hb⟩, ← ih]
    show _ = _ * 256 + ((b / 4 &&& 51) + (b &&& 51))
    simp only; omega
theorem low_ofB : ∀ l : List Nat, (∀ b ∈ l, b ≤ 68 ∧ b % 16 ≤ 4) → ofB l % 16 ≤ 4
  | [], _ => by simp [ofB]
  | b :: l, h => by
    have := (h b (by simp)).2
    unfold ofB; omega
theorem f3_ofB : ∀ l : List Nat, (∀ b ∈ l, b ≤ 68 ∧ b % 16 ≤ 4) → (ofB l / 16 + ofB l) &&& ofB (List.replicate l.length 15) = ofB (l.map g3)
  | [], _ => rfl
  | b :: l, h => by
    have ih := f3_ofB l fun x hx => h x (by simp [hx])
    have hlow := low_ofB l fun x hx => h x (by simp [hx])
    have hb := (h b (by simp)).1
    simp only [List.length_cons, List.replicate_succ, List.map_cons, ofB]
    have e : (ofB l * 256 + b) / 16 + (ofB l * 256 + b) = (ofB l / 16 + ofB l) * 256 + (ofB l % 16 * 16 + (b / 16 + b)) := by omega
    rw [e, and_split _ _ (by omega) (by decide), fin3 ⟨ofB l % 16, by omega⟩ ⟨b, by omega⟩, ← ih]; rfl
theorem cnt_split (h b n : Nat) (hb : b < 256) : ((List.range (8 + n)).filter (h * 256 + b).testBit).length = ((List.range 8).filter b.testBit).length + ((List.range n).filter h.testBit).length := by
  have e : h * 256 + b = 2 ^ 8 * h + b := by omega
  have hbit : ∀ j, (h * 256 + b).testBit j = if j < 8 then b.testBit j else h.testBit (j - 8) := fun j => by rw [e, Nat.testBit_two_pow_mul_add _ hb]
  rw [List.range_add, List.filter_append, List.length_append]
  congr 1
  · congr 1
    refine List.filter_congr fun j hj => ?_
    rw [hbit, if_pos (List.mem_range.1 hj)]
  · rw [List.filter_map, List.length_map]
    congr 1
    refine List.filter_congr fun j _ => ?_
    simp only [Function.comp]
    rw [hbit, if_neg (by omega), Nat.add_sub_cancel_left]
theorem cnt_ofB : ∀ l : List Nat, (∀ b ∈ l, b < 256) → ((List.range (8 * l.length)).filter (ofB l).testBit).length = (l.map fun b => ((List.range 8).filter b.testBit).length).sum
  | [], _ => rfl
  | b :: l, h => by
    have ih := cnt_ofB l fun x hx => h x (by simp [hx])
    rw [List.length_cons, show 8 * (l.length + 1) = 8 + 8 * l.length by omega]
    unfold ofB
    rw [cnt_split _ _ _ (h b (by simp)), ih, List.map_cons, List.sum_cons]
theorem div_ofB {b : Nat} {l : List Nat} (hb : b < 256) : ofB (b :: l) / 256 = ofB l := by show (ofB l * 256 + b) / 256 = ofB l; omega
theorem lin1 (c0 c1 c2 c3 c4 c5 c6 c7 : Nat) : ofB [c0, c1, c2, c3, c4, c5, c6, c7] + ofB [c1, c2, c3, c4, c5, c6, c7] = ofB [c0 + c1, c1 + c2, c2 + c3, c3 + c4, c4 + c5, c5 + c6, c6 + c7, c7] := by
  simp only [ofB]; omega
theorem lin2 (c0 c1 c2 c3 c4 c5 c6 c7 : Nat) : ofB [c0, c1, c2, c3, c4, c5, c6, c7] + ofB [c2, c3, c4, c5, c6, c7] = ofB [c0 + c2, c1 + c3, c2 + c4, c3 + c5, c4 + c6, c5 + c7, c6, c7] := by
  simp only [ofB]; omega
theorem lin3 (c0 c1 c2 c3 c4 c5 c6 c7 : Nat) : ofB [c0, c1, c2, c3, c4, c5, c6, c7] + ofB [c4, c5, c6, c7] = ofB [c0 + c4, c1 + c5, c2 + c6, c3 + c7, c4, c5, c6, c7] := by
  simp only [ofB]; omega
theorem div4 (y : Nat) : y / 4294967296 = y / 256 / 256 / 256 / 256 := by omega
theorem div2 (y : Nat) : y / 65536 = y / 256 / 256 := by omega
theorem ofB_lt8 {l : List Nat} (h : l.length = 8) (hb : ∀ b ∈ l, b < 256) : ofB l < 18446744073709551616 := by
  have := ofB_lt l hb
  rw [h] at this; exact this
theorem mod_ofB {b : Nat} {l : List Nat} (hb : b < 128) : ofB (b :: l) % 128 = b := by show (ofB l * 256 + b) % 128 = b; omega
theorem sum8 (c0 c1 c2 c3 c4 c5 c6 c7 : Nat) (h0 : c0 ≤ 8) (h1 : c1 ≤ 8) (h2 : c2 ≤ 8) (h3 : c3 ≤ 8) (h4 : c4 ≤ 8) (h5 : c5 ≤ 8) (h6 : c6 ≤ 8) (h7 : c7 ≤ 8) (y : Nat) (hy : y = ofB [c0, c1, c2, c3, c4, c5, c6, c7]) :
    ∃ y1 y2 y3, y1 = y + y / 256 ∧ y2 = y1 + y1 / 65536 ∧ y3 = y2 + y2 / 4294967296 ∧
    y3 < 18446744073709551616 ∧ y2 < 18446744073709551616 ∧ y1 < 18446744073709551616 ∧ y3 % 128 = (c0 + c1 + (c2 + c3)) + (c4 + c5 + (c6 + c7)) := by
  subst hy
  refine ⟨_, _, _, rfl, rfl, rfl, ?_⟩
  rw [div_ofB (by omega), lin1, div2, div_ofB (by omega), div_ofB (by omega), lin2, div4, div_ofB (by omega), div_ofB (by omega), div_ofB (by omega), div_ofB (by omega), lin3]
  refine ⟨ofB_lt8 rfl fun b hb => ?_, ofB_lt8 rfl fun b hb => ?_, ofB_lt8 rfl fun b hb => ?_, mod_ofB (by omega)⟩
  all_goals
    simp only [List.mem_cons, List.not_mem_nil, or_false] at hb
    omega
theorem ofB_le68 : ∀ {l : List Nat}, l.length = 8 → (∀ b ∈ l, b ≤ 68) → ofB l < 5000000000000000000
  | [a0, a1, a2, a3, a4, a5, a6, a7], _, h => by
    have h0 := h a0 (by simp); have h1 := h a1 (by simp); have h2 := h a2 (by simp); have h3 := h a3 (by simp)
    have h4 := h a4 (by simp); have h5 := h a5 (by simp); have h6 := h a6 (by simp); have h7 := h a7 (by simp)
    clear h
    simp only [ofB]; omega
theorem add16 {x : Nat} (h : x < 5000000000000000000) : x / 16 + x < 18446744073709551616 := by omega
/-- What the library does with a word: how many of its bits are set. -/
theorem pop_all (x : Nat) (hx : x < 18446744073709551616) :
    let m1 := 6148914691236517205
    let m2 := 3689348814741910323
    let m3 := 1085102592571150095
    let x1 := (x / 2 &&& m1) + (x &&& m1)
    let x2 := (x1 / 4 &&& m2) + (x1 &&& m2)
    let x3 := (x2 / 16 + x2) &&& m3
    let y1 := x3 + x3 / 256
    let y2 := y1 + y1 / 65536
    let y3 := y2 + y2 / 4294967296
    x1 < 18446744073709551616 ∧ x2 < 18446744073709551616 ∧ x2 / 16 + x2 < 18446744073709551616 ∧ y1 < 18446744073709551616 ∧ y2 < 18446744073709551616 ∧ y3 < 18446744073709551616 ∧ y3 &&& 127 = (bitsOf x).length := by
  intro m1 m2 m3 x1 x2 x3 y1 y2 y3
  obtain ⟨l, hl, hlb, rfl⟩ := ofB_ex 8 x (by simpa using hx)
  have hg : ∀ b ∈ l, g1 b < 256 ∧ g2 (g1 b) ≤ 68 ∧ g2 (g1 b) % 16 ≤ 4 ∧ g3 (g2 (g1 b)) = ((List.range 8).filter b.testBit).length := fun b hb => fing ⟨b, hlb b hb⟩
  have k1 : x1 = ofB (l.map g1) := by
    have := f1_ofB l hlb
    rw [hl] at this; exact this
  have b1 : ∀ b ∈ l.map g1, b < 256 := fun b hb => by
    obtain ⟨c, hc, rfl⟩ := List.mem_map.1 hb
    exact (hg c hc).1
  have k2 : x2 = ofB ((l.map g1).map g2) := by
    have := f2_ofB (l.map g1) b1
    rw [List.length_map, hl, ← k1] at this; exact this
  have b2 : ∀ b ∈ (l.map g1).map g2, b ≤ 68 ∧ b % 16 ≤ 4 := fun b hb => by
    obtain ⟨c, hc, rfl⟩ := List.mem_map.1 hb
    obtain ⟨d, hd, rfl⟩ := List.mem_map.1 hc
    exact ⟨(hg d hd).2.1, (hg d hd).2.2.1⟩
  have k3 : x3 = ofB (((l.map g1).map g2).map g3) := by
    have := f3_ofB _ b2
    rw [List.length_map, List.length_map, hl, ← k2] at this; exact this
  have q1 : x1 < 256 ^ 8 := by
    have := ofB_lt _ b1
    rw [List.length_map, hl, ← k1] at this; exact this
  have hsum := cnt_ofB l hlb
  rw [hl] at hsum
  have hcnt : (bitsOf (ofB l)).length = (l.map fun b => ((List.range 8).filter b.testBit).length).sum := hsum
  have hm : ((l.map g1).map g2).map g3 = l.map fun b => ((List.range 8).filter b.testBit).length := by
    rw [List.map_map, List.map_map]
    exact List.map_congr_left fun b hb => (hg b hb).2.2.2
  rw [hm] at k3
  have hle : ∀ c ∈ (l.map fun b => ((List.range 8).filter b.testBit).length), c ≤ 8 := fun c hc => by
    obtain ⟨b, _, rfl⟩ := List.mem_map.1 hc
    exact Nat.le_trans (List.length_filter_le _ _) (by simp)
  have hml : (l.map fun b => ((List.range 8).filter b.testBit).length).length = 8 := by rw [List.length_map, hl]
  have hl2 : ((l.map g1).map g2).length = 8 := by rw [List.length_map, List.length_map, hl]
  have q2 : x2 < 5000000000000000000 := by
    generalize (l.map g1).map g2 = z at k2 b2 hl2
    match z, hl2 with
    | [a0, a1, a2, a3, a4, a5, a6, a7], _ =>
      rw [k2]
      exact ofB_le68 rfl fun b hb => (b2 b hb).1
  generalize (l.map fun b => ((List.range 8).filter b.testBit).length) = z at k3 hle hml hcnt
  match z, hml with
  | [a0, a1, a2, a3, a4, a5, a6, a7], _ =>
    obtain ⟨z1, z2, z3, e1, e2, e3, r1, r2, r3, r4⟩ := sum8 a0 a1 a2 a3 a4 a5 a6 a7 (hle _ (by simp)) (hle _ (by simp)) (hle _ (by simp)) (hle _ (by simp)) (hle _ (by simp)) (hle _ (by simp)) (hle _ (by simp)) (hle _ (by simp)) x3 k3
    have f1 : y1 = z1 := e1.symm
    have f2 : y2 = z2 := by rw [e2, ← f1]
    have f3 : y3 = z3 := by rw [e3, ← f2]
    refine ⟨by simpa using q1, Nat.lt_trans q2 (by decide), add16 q2, by rw [f1]; exact r3, by rw [f2]; exact r2, by rw [f3]; exact r1, ?_⟩
    rw [f3]
    rw [hcnt, show (127 : Nat) = 2 ^ 7 - 1 from rfl, Nat.and_two_pow_sub_one_eq_mod]
    simp only [List.sum_cons, List.sum_nil]
    refine r4.trans ?_
    simp only [Nat.add_zero, Nat.add_assoc]
end Go.Proofs.YtpkpbfemglmejaaDoor

/- The contracts of names, points, and of the small functions. -/
namespace Go.Proofs.YtpkpbfemglmejaaDoor
set_option linter.unusedVariables false
set_option linter.unusedSimpArgs false
set_option maxRecDepth 100000
open Go.RowKit Fw

theorem all_succ (p : Nat → Bool) (i : Nat) : (List.range (i + 1)).all p = ((List.range i).all p && p i) := by
  rw [List.range_succ, List.all_append]; simp
theorem all_false {p : Nat → Bool} {j n : Nat} (hj : j < n) (h : p j = false) : (List.range n).all p = false := by
  rw [List.all_eq_false]
  exact ⟨j, List.mem_range.2 hj, by rw [h]; simp⟩
def letB (c : UInt8) : Bool := decide (97 ≤ c.toNat) && decide (c.toNat ≤ 122) || decide (65 ≤ c.toNat) && decide (c.toNat ≤ 90)
def digB (c : UInt8) : Bool := decide (48 ≤ c.toNat) && decide (c.toNat ≤ 57)
/-- Whether a byte may stand at a place of a name. -/
def chB (j : Nat) (c : UInt8) : Bool := letB c || (decide (0 < j) && digB c)
def chsB (s : List UInt8) (k : Nat) : Bool := (List.range k).all fun j => chB j (s.getD j 0)
/-- Whether a text is a name. -/
def nameB (s : List UInt8) : Bool := decide (0 < s.length) && decide (s.length ≤ 16) && chsB s s.length
theorem chsB_succ {s : List UInt8} {i : Nat} {c : UInt8} (h : s[i]? = some c) : chsB s (i + 1) = (chsB s i && chB i c) := by
  unfold chsB
  rw [all_succ, List.getD_eq_getElem?_getD, h]; rfl
theorem chsB_false {s : List UInt8} {i : Nat} {c : UInt8} (h : s[i]? = some c) (hc : chB i c = false) : nameB s = false := by
  have hi : i < s.length := (List.getElem?_eq_some_iff.1 h).1
  have : chsB s s.length = false := by
    unfold chsB
    exact all_false hi (by rw [List.getD_eq_getElem?_getD, h]; exact hc)
  unfold nameB
  rw [this, Bool.and_false]
def orX (c : UInt8) : Int := IntKind.u8.wrap ((BitVec.ofInt IntKind.u8.bits (c.toNat : Int) ||| BitVec.ofInt IntKind.u8.bits 32).toNat : Int)
theorem letX_fin : ∀ n : Fin 256, (decide (97 ≤ IntKind.u8.wrap ((BitVec.ofInt IntKind.u8.bits (n.val : Int) ||| BitVec.ofInt IntKind.u8.bits 32).toNat : Int)) && decide (IntKind.u8.wrap ((BitVec.ofInt IntKind.u8.bits (n.val : Int) ||| BitVec.ofInt IntKind.u8.bits 32).toNat : Int) ≤ 122)) = (decide (97 ≤ n.val) && decide (n.val ≤ 122) || decide (65 ≤ n.val) && decide (n.val ≤ 90)) := by
  decide +kernel
theorem letX (c : UInt8) : (decide (97 ≤ orX c) && decide (orX c ≤ 122)) = letB c := letX_fin ⟨c.toNat, c.toNat_lt⟩

/- chancel/lat.letter -/
theorem c80 (Γ : Nat → PV) (c : UInt8) : Gives Tryd.prog Γ 80 [.int .u8 (c.toNat : Int)] (.bool (letB c)) := by
  refine fn_of_awp Tryd.func80 rfl (by simp [Tryd.f80]) rfl fun H => ?_
  rw [← letX]
  have hX : orX c = IntKind.u8.wrap ((BitVec.ofInt IntKind.u8.bits (c.toNat : Int) ||| BitVec.ofInt IntKind.u8.bits 32).toNat : Int) := rfl
  refine awp_seq ?_
  refine awp_run rfl (by simp only [fwA, ↓reduceIte, Nat.reduceAdd, Nat.reduceMul, Nat.reduceEqDiff, Nat.reduceLT, Nat.reduceLeDiff, reduceCtorEq] <;> rfl) ?_
  refine awp_seq ?_
  by_cases h : 97 ≤ orX c
  · rw [decide_eq_true h, Bool.true_and]
    refine awp_run rfl (by simp only [fwA, ↓reduceIte, Nat.reduceAdd, Nat.reduceMul, Nat.reduceEqDiff, Nat.reduceLT, Nat.reduceLeDiff, reduceCtorEq, bitfw, ← hX, h, decide_true] <;> rfl) ?_
    refine awp_ret ?_
    exact gives_end0 (.inl rfl) rfl
  · rw [decide_eq_false h, Bool.false_and]
    refine awp_run rfl (by simp only [fwA, ↓reduceIte, Nat.reduceAdd, Nat.reduceMul, Nat.reduceEqDiff, Nat.reduceLT, Nat.reduceLeDiff, reduceCtorEq, bitfw, ← hX, h, decide_false] <;> rfl) ?_
    refine awp_ret ?_
    exact gives_end0 (.inl rfl) rfl

/- chancel/lat.Name -/
theorem c62 (Γ : Nat → PV) (s : List UInt8) : Gives Tryd.prog Γ 62 [.str s] (.bool (nameB s)) := by
  refine fn_of_awp Tryd.func62 rfl (by simp [Tryd.f62]) rfl fun H => ?_
  refine awp_slen 0 rfl fun hsl => ?_
  refine awp_seq ?_
  refine awp_run rfl (by simp only [fwA, ↓reduceIte, Nat.reduceAdd, Nat.reduceMul, Nat.reduceEqDiff, Nat.reduceLT, Nat.reduceLeDiff, reduceCtorEq] <;> rfl) ?_
  refine awp_seq ?_
  refine awp_seq ?_
  refine awp_run rfl (by simp only [fwA, ↓reduceIte, Nat.reduceAdd, Nat.reduceMul, Nat.reduceEqDiff, Nat.reduceLT, Nat.reduceLeDiff, reduceCtorEq, List.length_map, List.getElem?_map, Option.map_some, Int.natCast_nonneg, Int.toNat_natCast, decide_true, decide_false, Bool.and_true, Bool.and_self, Bool.not_true, Bool.not_false, un9, un25, el25, ti9, S1_fw] <;> rfl) ?_
  refine awp_block ?_
  refine awp_for [0, 6, 7] (fun i : Nat => [.str s, .int .i64 (s.length : Int), .int .i64 (i : Int)]) (fun _ => H) (fun i => s.length - i) (fun i => i ≤ s.length ∧ chsB s i = true) 0 rfl rfl ⟨Nat.zero_le _, rfl⟩ fun i hi => ?_
  obtain ⟨hi, hch⟩ := hi
  refine awp_seq ?_
  refine awp_run rfl (by simp only [fwA, ↓reduceIte, Nat.reduceAdd, Nat.reduceMul, Nat.reduceEqDiff, Nat.reduceLT, Nat.reduceLeDiff, reduceCtorEq, List.length_map, List.getElem?_map, Option.map_some, Int.natCast_nonneg, Int.toNat_natCast, decide_true, decide_false, Bool.and_true, Bool.and_self, Bool.not_true, Bool.not_false, un9, un25, el25, ti9, S1_fw] <;> rfl) ?_
  refine awp_seq ?_
  refine awp_cond (by simp only [fwA, ↓reduceIte, Nat.reduceAdd, Nat.reduceMul, Nat.reduceEqDiff, Nat.reduceLT, Nat.reduceLeDiff, reduceCtorEq] <;> rfl) ?_
  by_cases hc : (i : Int) < s.length
  rotate_left
  · simp only [hc, decide_false, Bool.false_eq_true, ↓reduceIte]
    refine awp_exit ?_
    have e : i = s.length := by omega
    subst e
    refine awp_seq ?_
    by_cases h0 : (0 : Int) < s.length
    · refine awp_run rfl (by simp only [fwA, ↓reduceIte, Nat.reduceAdd, Nat.reduceMul, Nat.reduceEqDiff, Nat.reduceLT, Nat.reduceLeDiff, reduceCtorEq, List.length_map, List.getElem?_map, Option.map_some, Int.natCast_nonneg, Int.toNat_natCast, decide_true, decide_false, Bool.and_true, Bool.and_self, Bool.not_true, Bool.not_false, un9, un25, el25, ti9, S1_fw, h0] <;> rfl) ?_
      refine awp_ret ?_
      have h0' : 0 < s.length := by omega
      have e2 : decide ((s.length : Int) ≤ 16) = decide (s.length ≤ 16) := decide_eq_decide.2 (by omega)
      exact gives_end0 (.inl rfl) (by unfold nameB; rw [hch, decide_eq_true h0', ← e2, Bool.true_and, Bool.and_true]; rfl)
    · refine awp_run rfl (by simp only [fwA, ↓reduceIte, Nat.reduceAdd, Nat.reduceMul, Nat.reduceEqDiff, Nat.reduceLT, Nat.reduceLeDiff, reduceCtorEq, List.length_map, List.getElem?_map, Option.map_some, Int.natCast_nonneg, Int.toNat_natCast, decide_true, decide_false, Bool.and_true, Bool.and_self, Bool.not_true, Bool.not_false, un9, un25, el25, ti9, S1_fw, h0] <;> rfl) ?_
      refine awp_ret ?_
      have h0' : ¬ 0 < s.length := by omega
      exact gives_end0 (.inl rfl) (by unfold nameB; rw [decide_eq_false h0']; rfl)
  simp only [hc, decide_true, ↓reduceIte]
  refine awp_skip ?_
  have hil : i < s.length := by omega
  have ga : s[i]? = some s[i] := List.getElem?_eq_getElem hil
  generalize s[i] = c at ga
  have hwi : IntKind.i64.wrap ((i : Int) + 1) = ((i + 1 : Nat) : Int) := wrapS i (by omega)
  have hst := chsB_succ ga
  refine awp_seq ?_
  refine awp_block ?_
  refine awp_seq ?_
  refine awp_run rfl (by simp only [fwA, ↓reduceIte, Nat.reduceAdd, Nat.reduceMul, Nat.reduceEqDiff, Nat.reduceLT, Nat.reduceLeDiff, reduceCtorEq] <;> rfl) ?_
  refine awp_join [0, 3, 4, 6, 7] (fun d : Bool => [.str s, .int .i64 (i : Int), .bool d, .int .i64 (s.length : Int), .int .i64 (i : Int)]) (fun _ => H) (fun d => d = digB c) ?_ fun d hd => ?_
  · have e1 : decide ((48 : Int) ≤ (c.toNat : Int)) = decide (48 ≤ c.toNat) := decide_eq_decide.2 (by omega)
    have e2 : decide ((c.toNat : Int) ≤ 57) = decide (c.toNat ≤ 57) := decide_eq_decide.2 (by omega)
    by_cases h1 : (48 : Int) ≤ (c.toNat : Int)
    · refine awp_run rfl (by simp only [fwA, ↓reduceIte, Nat.reduceAdd, Nat.reduceMul, Nat.reduceEqDiff, Nat.reduceLT, Nat.reduceLeDiff, reduceCtorEq, List.length_map, List.getElem?_map, Option.map_some, Int.natCast_nonneg, Int.toNat_natCast, decide_true, decide_false, Bool.and_true, Bool.and_self, Bool.not_true, Bool.not_false, un9, un25, el25, ti9, S1_fw, ga, h1] <;> rfl) ?_
      exact ⟨_, by unfold digB; rw [← e1, ← e2, decide_eq_true h1, Bool.true_and], rfl, rfl, rfl⟩
    · refine awp_run rfl (by simp only [fwA, ↓reduceIte, Nat.reduceAdd, Nat.reduceMul, Nat.reduceEqDiff, Nat.reduceLT, Nat.reduceLeDiff, reduceCtorEq, List.length_map, List.getElem?_map, Option.map_some, Int.natCast_nonneg, Int.toNat_natCast, decide_true, decide_false, Bool.and_true, Bool.and_self, Bool.not_true, Bool.not_false, un9, un25, el25, ti9, S1_fw, ga, h1] <;> rfl) ?_
      exact ⟨_, by unfold digB; rw [← e1, decide_eq_false h1, Bool.false_and], rfl, rfl, rfl⟩
  subst hd
  have h49 := c80 Γ c
  refine awp_seq ?_
  cases hL : letB c
  · rw [hL] at h49
    by_cases h0 : (i : Int) = 0
    · have hd0 : decide ((i : Int) = 0) = true := decide_eq_true h0
      refine awp_region rfl ?_
      refine aops_run 3 (by simp only [fwA, ↓reduceIte, Nat.reduceAdd, Nat.reduceMul, Nat.reduceEqDiff, Nat.reduceLT, Nat.reduceLeDiff, reduceCtorEq, List.length_map, List.getElem?_map, Option.map_some, Int.natCast_nonneg, Int.toNat_natCast, decide_true, decide_false, Bool.and_true, Bool.and_self, Bool.not_true, Bool.not_false, un9, un25, el25, ti9, S1_fw, ga, hd0] <;> rfl) ?_
      refine aops_fn rfl rfl rfl en80 h49 ?_
      refine aops_run 9 (by simp only [fwA, ↓reduceIte, Nat.reduceAdd, Nat.reduceMul, Nat.reduceEqDiff, Nat.reduceLT, Nat.reduceLeDiff, reduceCtorEq, List.length_map, List.getElem?_map, Option.map_some, Int.natCast_nonneg, Int.toNat_natCast, decide_true, decide_false, Bool.and_true, Bool.and_self, Bool.not_true, Bool.not_false, un9, un25, el25, ti9, S1_fw, ga, hd0] <;> rfl) ?_
      refine aops_end ?_
      refine awp_cond (b := true) (by simp [alook, aput, ev]) ?_
      refine awp_seq ?_
      refine awp_run rfl (by simp only [fwA, ↓reduceIte, Nat.reduceAdd, Nat.reduceMul, Nat.reduceEqDiff, Nat.reduceLT, Nat.reduceLeDiff, reduceCtorEq] <;> rfl) ?_
      refine awp_ret ?_
      exact gives_end0 (.inl rfl) (by rw [chsB_false ga (by unfold chB; rw [hL, decide_eq_false (by omega)]; rfl)]; rfl)
    · have h0' : 0 < i := by omega
      cases hD : digB c
      · refine awp_region rfl ?_
        refine aops_run 3 (by simp only [fwA, ↓reduceIte, Nat.reduceAdd, Nat.reduceMul, Nat.reduceEqDiff, Nat.reduceLT, Nat.reduceLeDiff, reduceCtorEq, List.length_map, List.getElem?_map, Option.map_some, Int.natCast_nonneg, Int.toNat_natCast, decide_true, decide_false, Bool.and_true, Bool.and_self, Bool.not_true, Bool.not_false, un9, un25, el25, ti9, S1_fw, ga, h0] <;> rfl) ?_
        refine aops_fn rfl rfl rfl en80 h49 ?_
        refine aops_run 9 (by simp only [fwA, ↓reduceIte, Nat.reduceAdd, Nat.reduceMul, Nat.reduceEqDiff, Nat.reduceLT, Nat.reduceLeDiff, reduceCtorEq, List.length_map, List.getElem?_map, Option.map_some, Int.natCast_nonneg, Int.toNat_natCast, decide_true, decide_false, Bool.and_true, Bool.and_self, Bool.not_true, Bool.not_false, un9, un25, el25, ti9, S1_fw, ga, h0] <;> rfl) ?_
        refine aops_end ?_
        refine awp_cond (b := true) (by simp [alook, aput, ev]) ?_
        refine awp_seq ?_
        refine awp_run rfl (by simp only [fwA, ↓reduceIte, Nat.reduceAdd, Nat.reduceMul, Nat.reduceEqDiff, Nat.reduceLT, Nat.reduceLeDiff, reduceCtorEq] <;> rfl) ?_
        refine awp_ret ?_
        exact gives_end0 (.inl rfl) (by rw [chsB_false ga (by unfold chB; rw [hL, hD, Bool.and_false]; rfl)]; rfl)
      · refine awp_region rfl ?_
        refine aops_run 3 (by simp only [fwA, ↓reduceIte, Nat.reduceAdd, Nat.reduceMul, Nat.reduceEqDiff, Nat.reduceLT, Nat.reduceLeDiff, reduceCtorEq, List.length_map, List.getElem?_map, Option.map_some, Int.natCast_nonneg, Int.toNat_natCast, decide_true, decide_false, Bool.and_true, Bool.and_self, Bool.not_true, Bool.not_false, un9, un25, el25, ti9, S1_fw, ga, h0] <;> rfl) ?_
        refine aops_fn rfl rfl rfl en80 h49 ?_
        refine aops_run 9 (by simp only [fwA, ↓reduceIte, Nat.reduceAdd, Nat.reduceMul, Nat.reduceEqDiff, Nat.reduceLT, Nat.reduceLeDiff, reduceCtorEq, List.length_map, List.getElem?_map, Option.map_some, Int.natCast_nonneg, Int.toNat_natCast, decide_true, decide_false, Bool.and_true, Bool.and_self, Bool.not_true, Bool.not_false, un9, un25, el25, ti9, S1_fw, ga, h0] <;> rfl) ?_
        refine aops_end ?_
        refine awp_cond (b := false) (by simp [alook, aput, ev]) (awp_skip ?_)
        refine awp_run rfl (by simp only [fwA, ↓reduceIte, Nat.reduceAdd, Nat.reduceMul, Nat.reduceEqDiff, Nat.reduceLT, Nat.reduceLeDiff, reduceCtorEq] <;> rfl) ?_
        refine ⟨i + 1, by omega, ⟨by omega, by rw [hst, hch]; unfold chB; rw [hL, hD, decide_eq_true h0']; rfl⟩, ?_, rfl, rfl⟩
        simp only [fwA, ↓reduceIte, Nat.reduceAdd, Nat.reduceMul, Nat.reduceEqDiff, Nat.reduceLT, Nat.reduceLeDiff, reduceCtorEq, List.map_cons, List.map_nil, hwi]
  · rw [hL] at h49
    refine awp_region rfl ?_
    refine aops_run 3 (by simp only [fwA, ↓reduceIte, Nat.reduceAdd, Nat.reduceMul, Nat.reduceEqDiff, Nat.reduceLT, Nat.reduceLeDiff, reduceCtorEq, List.length_map, List.getElem?_map, Option.map_some, Int.natCast_nonneg, Int.toNat_natCast, decide_true, decide_false, Bool.and_true, Bool.and_self, Bool.not_true, Bool.not_false, un9, un25, el25, ti9, S1_fw, ga] <;> rfl) ?_
    refine aops_fn rfl rfl rfl en80 h49 ?_
    refine aops_run 9 (by simp only [fwA, ↓reduceIte, Nat.reduceAdd, Nat.reduceMul, Nat.reduceEqDiff, Nat.reduceLT, Nat.reduceLeDiff, reduceCtorEq, List.length_map, List.getElem?_map, Option.map_some, Int.natCast_nonneg, Int.toNat_natCast, decide_true, decide_false, Bool.and_true, Bool.and_self, Bool.not_true, Bool.not_false, un9, un25, el25, ti9, S1_fw, ga] <;> rfl) ?_
    refine aops_end ?_
    refine awp_cond (b := false) (by simp [alook, aput, ev]) (awp_skip ?_)
    refine awp_run rfl (by simp only [fwA, ↓reduceIte, Nat.reduceAdd, Nat.reduceMul, Nat.reduceEqDiff, Nat.reduceLT, Nat.reduceLeDiff, reduceCtorEq] <;> rfl) ?_
    refine ⟨i + 1, by omega, ⟨by omega, by rw [hst, hch]; unfold chB; rw [hL]; rfl⟩, ?_, rfl, rfl⟩
    simp only [fwA, ↓reduceIte, Nat.reduceAdd, Nat.reduceMul, Nat.reduceEqDiff, Nat.reduceLT, Nat.reduceLeDiff, reduceCtorEq, List.map_cons, List.map_nil, hwi]

/-- The first place of a text in a list; -1: there is none. -/
def idxS (l : List (List UInt8)) (s : List UInt8) : Int := match l.findIdx? (fun x => decide (s = x)) with | some k => (k : Int) | none => -1
theorem idxS_none {l : List (List UInt8)} {s : List UInt8} (h : ∀ j, j < l.length → l[j]? ≠ some s) : idxS l s = -1 := by
  unfold idxS
  have : l.findIdx? (fun x => decide (s = x)) = none := by
    rw [List.findIdx?_eq_none_iff]
    intro x hx
    obtain ⟨j, hj⟩ := List.getElem?_of_mem hx
    have := h j (List.getElem?_eq_some_iff.1 hj).1
    rw [hj] at this
    simpa using fun e : s = x => this (by rw [e])
  rw [this]
theorem idxS_some {l : List (List UInt8)} {s : List UInt8} {i : Nat} (h : ∀ j, j < i → l[j]? ≠ some s) (hi : l[i]? = some s) : idxS l s = i := by
  unfold idxS
  have : l.findIdx? (fun x => decide (s = x)) = some i := by
    obtain ⟨h1, h2⟩ := List.getElem?_eq_some_iff.1 hi
    rw [List.findIdx?_eq_some_iff_getElem]
    refine ⟨h1, by simp [h2], fun j hj => ?_⟩
    have := h j hj
    rw [List.getElem?_eq_getElem (by omega)] at this
    simpa using fun e : s = l[j] => this (by rw [e])
  rw [this]

/- slices.Index at texts -/
theorem c63 (Γ : Nat → PV) (l : List (List UInt8)) (s : List UInt8) : Gives Tryd.prog Γ 63 [.vec (l.map S1) false, .str s] (.int .i64 (idxS l s)) := by
  refine fn_of_awp Tryd.func63 rfl (by simp [Tryd.f63]) rfl fun H => ?_
  refine awp_vlen 0 rfl fun hsl => ?_
  rw [List.length_map] at hsl
  refine awp_seq ?_
  refine awp_run rfl (by simp only [fwA, ↓reduceIte, Nat.reduceAdd, Nat.reduceMul, Nat.reduceEqDiff, Nat.reduceLT, Nat.reduceLeDiff, reduceCtorEq] <;> rfl) ?_
  refine awp_seq ?_
  refine awp_seq ?_
  refine awp_run rfl (by simp only [fwA, ↓reduceIte, Nat.reduceAdd, Nat.reduceMul, Nat.reduceEqDiff, Nat.reduceLT, Nat.reduceLeDiff, reduceCtorEq, List.length_map, List.getElem?_map, Option.map_some, Int.natCast_nonneg, Int.toNat_natCast, decide_true, decide_false, Bool.and_true, Bool.and_self, Bool.not_true, Bool.not_false, un9, un25, el25, ti9, S1_fw] <;> rfl) ?_
  refine awp_block ?_
  refine awp_for [0, 1, 7, 8] (fun i : Nat => [.vec (l.map S1) false, .str s, .int .i64 (l.length : Int), .int .i64 (i : Int)]) (fun _ => H) (fun i => l.length - i) (fun i => i ≤ l.length ∧ ∀ j, j < i → l[j]? ≠ some s) 0 rfl rfl ⟨Nat.zero_le _, fun j hj => by omega⟩ fun i hi => ?_
  obtain ⟨hi, hno⟩ := hi
  refine awp_seq ?_
  refine awp_run rfl (by simp only [fwA, ↓reduceIte, Nat.reduceAdd, Nat.reduceMul, Nat.reduceEqDiff, Nat.reduceLT, Nat.reduceLeDiff, reduceCtorEq, List.length_map, List.getElem?_map, Option.map_some, Int.natCast_nonneg, Int.toNat_natCast, decide_true, decide_false, Bool.and_true, Bool.and_self, Bool.not_true, Bool.not_false, un9, un25, el25, ti9, S1_fw] <;> rfl) ?_
  refine awp_seq ?_
  refine awp_cond (by simp only [fwA, ↓reduceIte, Nat.reduceAdd, Nat.reduceMul, Nat.reduceEqDiff, Nat.reduceLT, Nat.reduceLeDiff, reduceCtorEq] <;> rfl) ?_
  by_cases hc : (i : Int) < l.length
  rotate_left
  · simp only [hc, decide_false, Bool.false_eq_true, ↓reduceIte]
    refine awp_exit ?_
    have e : i = l.length := by omega
    subst e
    refine awp_seq ?_
    refine awp_run rfl (by simp only [fwA, ↓reduceIte, Nat.reduceAdd, Nat.reduceMul, Nat.reduceEqDiff, Nat.reduceLT, Nat.reduceLeDiff, reduceCtorEq] <;> rfl) ?_
    refine awp_ret ?_
    exact gives_end0 (.inl rfl) (by rw [idxS_none hno]; rfl)
  simp only [hc, decide_true, ↓reduceIte]
  refine awp_skip ?_
  have hil : i < l.length := by omega
  have ga : l[i]? = some l[i] := List.getElem?_eq_getElem hil
  generalize l[i] = c at ga
  have hwi : IntKind.i64.wrap ((i : Int) + 1) = ((i + 1 : Nat) : Int) := wrapS i (by omega)
  refine awp_seq ?_
  refine awp_block ?_
  refine awp_seq ?_
  refine awp_run rfl (by simp only [fwA, ↓reduceIte, Nat.reduceAdd, Nat.reduceMul, Nat.reduceEqDiff, Nat.reduceLT, Nat.reduceLeDiff, reduceCtorEq] <;> rfl) ?_
  refine awp_seq ?_
  by_cases he : s = c
  · refine awp_run rfl (by simp only [fwA, ↓reduceIte, Nat.reduceAdd, Nat.reduceMul, Nat.reduceEqDiff, Nat.reduceLT, Nat.reduceLeDiff, reduceCtorEq, List.length_map, List.getElem?_map, Option.map_some, Int.natCast_nonneg, Int.toNat_natCast, decide_true, decide_false, Bool.and_true, Bool.and_self, Bool.not_true, Bool.not_false, un9, un25, el25, ti9, S1_fw, ga, he] <;> rfl) ?_
    refine awp_cond (b := true) (by simp [alook, aput, ev]) ?_
    refine awp_seq ?_
    refine awp_run rfl (by simp only [fwA, ↓reduceIte, Nat.reduceAdd, Nat.reduceMul, Nat.reduceEqDiff, Nat.reduceLT, Nat.reduceLeDiff, reduceCtorEq] <;> rfl) ?_
    refine awp_ret ?_
    exact gives_end0 (.inl rfl) (by rw [idxS_some hno (by rw [he]; exact ga)]; rfl)
  · refine awp_run rfl (by simp only [fwA, ↓reduceIte, Nat.reduceAdd, Nat.reduceMul, Nat.reduceEqDiff, Nat.reduceLT, Nat.reduceLeDiff, reduceCtorEq, List.length_map, List.getElem?_map, Option.map_some, Int.natCast_nonneg, Int.toNat_natCast, decide_true, decide_false, Bool.and_true, Bool.and_self, Bool.not_true, Bool.not_false, un9, un25, el25, ti9, S1_fw, ga, he] <;> rfl) ?_
    refine awp_cond (b := false) (by simp [alook, aput, ev]) (awp_skip ?_)
    refine awp_run rfl (by simp only [fwA, ↓reduceIte, Nat.reduceAdd, Nat.reduceMul, Nat.reduceEqDiff, Nat.reduceLT, Nat.reduceLeDiff, reduceCtorEq] <;> rfl) ?_
    refine ⟨i + 1, by omega, ⟨by omega, fun j hj e => ?_⟩, ?_, rfl, rfl⟩
    · by_cases hji : j = i
      · subst hji; rw [ga, Option.some.injEq] at e; exact he e.symm
      · exact hno j (by omega) e
    · simp only [fwA, ↓reduceIte, Nat.reduceAdd, Nat.reduceMul, Nat.reduceEqDiff, Nat.reduceLT, Nat.reduceLeDiff, reduceCtorEq, List.map_cons, List.map_nil, hwi]

end Go.Proofs.YtpkpbfemglmejaaDoor

/- The contracts of points, of what stands below what, of rows. -/
namespace Go.Proofs.YtpkpbfemglmejaaDoor
set_option linter.unusedVariables false
set_option linter.unusedSimpArgs false
set_option maxRecDepth 100000
open Go.RowKit Fw

/-- Words of 64 bits. -/
def W64 (us : List Nat) : Prop := ∀ x ∈ us, x < 2 ^ 64
/-- Whether there is such a point. -/
def ptB (n : Nat) (a : Int) : Bool := decide (0 ≤ a) && decide (a < n)
/-- Whether a point is below another one. -/
def leqB (n : Nat) (us : List Nat) (a b : Int) : Bool := ptB n a && ptB n b && lq us a.toNat b.toNat
theorem min_cast (m n : Nat) : (if (n : Int) < m then (n : Int) else m) = ((min m n : Nat) : Int) := by
  split <;> omega

/- (chancel/lat.Lat).point -/
theorem c33 (Γ : Nat → PV) (ns : List (List UInt8)) (us : List Nat) (a : Int) : Gives Tryd.prog Γ 33 [.agg [.vec (ns.map S1) false, .vec (us.map U1) false], .int .i64 a] (.bool (ptB (min ns.length us.length) a)) := by
  refine fn_of_awp Tryd.func33 rfl (by simp [Tryd.f33]) rfl fun H => ?_
  refine awp_seq ?_
  refine awp_run rfl (by simp only [fwA, ↓reduceIte, Nat.reduceAdd, Nat.reduceMul, Nat.reduceEqDiff, Nat.reduceLT, Nat.reduceLeDiff, reduceCtorEq] <;> rfl) ?_
  refine awp_seq ?_
  by_cases h : 0 ≤ a
  · refine awp_region rfl ?_
    refine aops_run 10 (by simp only [fwA, ↓reduceIte, Nat.reduceAdd, Nat.reduceMul, Nat.reduceEqDiff, Nat.reduceLT, Nat.reduceLeDiff, reduceCtorEq, bitfw, List.length_map, List.getElem?_map, Option.map_some, Int.natCast_nonneg, Int.toNat_natCast, decide_true, decide_false, Bool.and_true, Bool.and_self, Bool.not_true, Bool.not_false, un9, un25, un26, el25, el26, ti9, ti25, ti26, ti28, ti53, un53, un3, ti3, fl28_0, fl28_1, S1_fw, U1_fw, h] <;> rfl) ?_
    refine aops_if rfl rfl rfl (os_min rfl rfl rfl ?_)
    refine aops_run 3 (by simp only [fwA, ↓reduceIte, Nat.reduceAdd, Nat.reduceMul, Nat.reduceEqDiff, Nat.reduceLT, Nat.reduceLeDiff, reduceCtorEq, bitfw, List.length_map, List.getElem?_map, Option.map_some, Int.natCast_nonneg, Int.toNat_natCast, decide_true, decide_false, Bool.and_true, Bool.and_self, Bool.not_true, Bool.not_false, un9, un25, un26, el25, el26, ti9, ti25, ti26, ti28, ti53, un53, un3, ti3, fl28_0, fl28_1, S1_fw, U1_fw, h] <;> rfl) ?_
    refine aops_end ?_
    refine awp_ret ?_
    refine gives_end (.inl rfl) _ ?_
    simp only [fwA, ↓reduceIte, Nat.reduceAdd, Nat.reduceMul, Nat.reduceEqDiff, Nat.reduceLT, Nat.reduceLeDiff, reduceCtorEq, ares, aresL, ares1, Tryd.f33, ptB, decide_eq_true h, Bool.true_and]
    first | rfl | (rw [min_cast]) | (simp only [min_cast])
  · refine awp_run rfl (by simp only [fwA, ↓reduceIte, Nat.reduceAdd, Nat.reduceMul, Nat.reduceEqDiff, Nat.reduceLT, Nat.reduceLeDiff, reduceCtorEq, bitfw, List.length_map, List.getElem?_map, Option.map_some, Int.natCast_nonneg, Int.toNat_natCast, decide_true, decide_false, Bool.and_true, Bool.and_self, Bool.not_true, Bool.not_false, un9, un25, un26, el25, el26, ti9, ti25, ti26, ti28, ti53, un53, un3, ti3, fl28_0, fl28_1, S1_fw, U1_fw, h] <;> rfl) ?_
    refine awp_ret ?_
    exact gives_end (.inl rfl) _ (by unfold ptB; rw [decide_eq_false h]; rfl)

/- (chancel/lat.Lat).all -/
theorem c43 (Γ : Nat → PV) (ns : List (List UInt8)) (us : List Nat) (hn : us.length ≤ 64) : Gives Tryd.prog Γ 43 [.agg [.vec (ns.map S1) false, .vec (us.map U1) false]] (.int .u64 ((2 ^ us.length - 1 : Nat) : Int)) := by
  refine fn_of_awp Tryd.func43 rfl (by simp [Tryd.f43]) rfl fun H => ?_
  refine awp_seq ?_
  refine awp_run rfl (by simp only [fwA, ↓reduceIte, Nat.reduceAdd, Nat.reduceMul, Nat.reduceEqDiff, Nat.reduceLT, Nat.reduceLeDiff, reduceCtorEq] <;> rfl) ?_
  refine awp_seq ?_
  refine awp_run rfl (by simp only [fwA, ↓reduceIte, Nat.reduceAdd, Nat.reduceMul, Nat.reduceEqDiff, Nat.reduceLT, Nat.reduceLeDiff, reduceCtorEq, bitfw, List.length_map, List.getElem?_map, Option.map_some, Int.natCast_nonneg, Int.toNat_natCast, decide_true, decide_false, Bool.and_true, Bool.and_self, Bool.not_true, Bool.not_false, un9, un25, un26, el25, el26, ti9, ti25, ti26, ti28, ti53, un53, un3, ti3, fl28_0, fl28_1, S1_fw, U1_fw, uAll hn] <;> rfl) ?_
  refine awp_ret ?_
  exact gives_end (.inl rfl) _ rfl

theorem getW {us : List Nat} (hw : W64 us) {a : Nat} (ha : a < us.length) : ∃ x, us[a]? = some x ∧ x < 2 ^ 64 ∧ us.getD a 0 = x := by
  refine ⟨us[a], List.getElem?_eq_getElem ha, hw _ (List.getElem_mem ha), ?_⟩
  rw [List.getD_eq_getElem?_getD, List.getElem?_eq_getElem ha]; rfl

/- chancel/lat.Leq -/
theorem c13 (Γ : Nat → PV) (ns : List (List UInt8)) (us : List Nat) (hw : W64 us) (a b : Int) : Gives Tryd.prog Γ 13 [.agg [.vec (ns.map S1) false, .vec (us.map U1) false], .int .i64 a, .int .i64 b] (.bool (leqB (min ns.length us.length) us a b)) := by
  have ha := c33 Γ ns us a
  have hb := c33 Γ ns us b
  refine fn_of_awp Tryd.func13 rfl (by simp [Tryd.f13]) rfl fun H => ?_
  refine awp_seq ?_
  refine awp_run rfl (by simp only [fwA, ↓reduceIte, Nat.reduceAdd, Nat.reduceMul, Nat.reduceEqDiff, Nat.reduceLT, Nat.reduceLeDiff, reduceCtorEq] <;> rfl) ?_
  refine awp_seq ?_
  by_cases h1 : ptB (min ns.length us.length) a = true
  rotate_left
  · have h1' : ptB (min ns.length us.length) a = false := by simpa using h1
    rw [h1'] at ha
    refine awp_region rfl ?_
    refine aops_run 2 (by simp only [fwA, ↓reduceIte, Nat.reduceAdd, Nat.reduceMul, Nat.reduceEqDiff, Nat.reduceLT, Nat.reduceLeDiff, reduceCtorEq, bitfw, List.length_map, List.getElem?_map, Option.map_some, Int.natCast_nonneg, Int.toNat_natCast, decide_true, decide_false, Bool.and_true, Bool.and_self, Bool.not_true, Bool.not_false, un9, un25, un26, el25, el26, ti9, ti25, ti26, ti28, ti53, un53, un3, ti3, fl28_0, fl28_1, S1_fw, U1_fw] <;> rfl) ?_
    refine aops_fn rfl rfl rfl en33 ha ?_
    refine aops_run 13 (by simp only [fwA, ↓reduceIte, Nat.reduceAdd, Nat.reduceMul, Nat.reduceEqDiff, Nat.reduceLT, Nat.reduceLeDiff, reduceCtorEq, bitfw, List.length_map, List.getElem?_map, Option.map_some, Int.natCast_nonneg, Int.toNat_natCast, decide_true, decide_false, Bool.and_true, Bool.and_self, Bool.not_true, Bool.not_false, un9, un25, un26, el25, el26, ti9, ti25, ti26, ti28, ti53, un53, un3, ti3, fl28_0, fl28_1, S1_fw, U1_fw] <;> rfl) ?_
    refine aops_run 4 (by simp only [fwA, ↓reduceIte, Nat.reduceAdd, Nat.reduceMul, Nat.reduceEqDiff, Nat.reduceLT, Nat.reduceLeDiff, reduceCtorEq, bitfw, List.length_map, List.getElem?_map, Option.map_some, Int.natCast_nonneg, Int.toNat_natCast, decide_true, decide_false, Bool.and_true, Bool.and_self, Bool.not_true, Bool.not_false, un9, un25, un26, el25, el26, ti9, ti25, ti26, ti28, ti53, un53, un3, ti3, fl28_0, fl28_1, S1_fw, U1_fw] <;> rfl) ?_
    refine aops_end ?_
    refine awp_ret ?_
    exact gives_end (.inl rfl) _ (by unfold leqB; rw [h1']; rfl)
  by_cases h2 : ptB (min ns.length us.length) b = true
  rotate_left
  · have h2' : ptB (min ns.length us.length) b = false := by simpa using h2
    rw [h1] at ha
    rw [h2'] at hb
    refine awp_region rfl ?_
    refine aops_run 2 (by simp only [fwA, ↓reduceIte, Nat.reduceAdd, Nat.reduceMul, Nat.reduceEqDiff, Nat.reduceLT, Nat.reduceLeDiff, reduceCtorEq, bitfw, List.length_map, List.getElem?_map, Option.map_some, Int.natCast_nonneg, Int.toNat_natCast, decide_true, decide_false, Bool.and_true, Bool.and_self, Bool.not_true, Bool.not_false, un9, un25, un26, el25, el26, ti9, ti25, ti26, ti28, ti53, un53, un3, ti3, fl28_0, fl28_1, S1_fw, U1_fw] <;> rfl) ?_
    refine aops_fn rfl rfl rfl en33 ha ?_
    refine aops_run 3 (by simp only [fwA, ↓reduceIte, Nat.reduceAdd, Nat.reduceMul, Nat.reduceEqDiff, Nat.reduceLT, Nat.reduceLeDiff, reduceCtorEq, bitfw, List.length_map, List.getElem?_map, Option.map_some, Int.natCast_nonneg, Int.toNat_natCast, decide_true, decide_false, Bool.and_true, Bool.and_self, Bool.not_true, Bool.not_false, un9, un25, un26, el25, el26, ti9, ti25, ti26, ti28, ti53, un53, un3, ti3, fl28_0, fl28_1, S1_fw, U1_fw] <;> rfl) ?_
    refine aops_fnIf rfl rfl rfl rfl rfl en33 hb ?_
    refine aops_run 13 (by simp only [fwA, ↓reduceIte, Nat.reduceAdd, Nat.reduceMul, Nat.reduceEqDiff, Nat.reduceLT, Nat.reduceLeDiff, reduceCtorEq, bitfw, List.length_map, List.getElem?_map, Option.map_some, Int.natCast_nonneg, Int.toNat_natCast, decide_true, decide_false, Bool.and_true, Bool.and_self, Bool.not_true, Bool.not_false, un9, un25, un26, el25, el26, ti9, ti25, ti26, ti28, ti53, un53, un3, ti3, fl28_0, fl28_1, S1_fw, U1_fw] <;> rfl) ?_
    refine aops_end ?_
    refine awp_ret ?_
    exact gives_end (.inl rfl) _ (by unfold leqB; rw [h2', Bool.and_false]; rfl)
  rw [h1] at ha
  rw [h2] at hb
  have e : leqB (min ns.length us.length) us a b = lq us a.toNat b.toNat := by unfold leqB; rw [h1, h2]; rfl
  rw [e]
  unfold ptB at h1 h2
  simp only [Bool.and_eq_true, decide_eq_true_eq] at h1 h2
  obtain ⟨a, rfl⟩ : ∃ n : Nat, a = n := ⟨a.toNat, by omega⟩
  obtain ⟨b, rfl⟩ : ∃ n : Nat, b = n := ⟨b.toNat, by omega⟩
  obtain ⟨x, gx, hx, ex⟩ := getW hw (a := a) (by omega)
  have e2 : lq us (a : Int).toNat (b : Int).toNat = x.testBit b := by unfold lq; rw [Int.toNat_natCast, ex]; rfl
  have hs := uShr b hx
  have hxs : x >>> b < 2 ^ 64 := Nat.lt_of_le_of_lt (by rw [Nat.shiftRight_eq_div_pow]; exact Nat.div_le_self _ _) hx
  have h3 := uAnd1 hxs
  have h4 := bit_eq x b
  rw [e2]
  refine awp_region rfl ?_
  refine aops_run 2 (by simp only [fwA, ↓reduceIte, Nat.reduceAdd, Nat.reduceMul, Nat.reduceEqDiff, Nat.reduceLT, Nat.reduceLeDiff, reduceCtorEq, bitfw, List.length_map, List.getElem?_map, Option.map_some, Int.natCast_nonneg, Int.toNat_natCast, decide_true, decide_false, Bool.and_true, Bool.and_self, Bool.not_true, Bool.not_false, un9, un25, un26, el25, el26, ti9, ti25, ti26, ti28, ti53, un53, un3, ti3, fl28_0, fl28_1, S1_fw, U1_fw, gx, hs, h3, h4] <;> rfl) ?_
  refine aops_fn rfl rfl rfl en33 ha ?_
  refine aops_run 3 (by simp only [fwA, ↓reduceIte, Nat.reduceAdd, Nat.reduceMul, Nat.reduceEqDiff, Nat.reduceLT, Nat.reduceLeDiff, reduceCtorEq, bitfw, List.length_map, List.getElem?_map, Option.map_some, Int.natCast_nonneg, Int.toNat_natCast, decide_true, decide_false, Bool.and_true, Bool.and_self, Bool.not_true, Bool.not_false, un9, un25, un26, el25, el26, ti9, ti25, ti26, ti28, ti53, un53, un3, ti3, fl28_0, fl28_1, S1_fw, U1_fw, gx, hs, h3, h4] <;> rfl) ?_
  refine aops_fnIf rfl rfl rfl rfl rfl en33 hb ?_
  refine aops_run 13 (by simp only [fwA, ↓reduceIte, Nat.reduceAdd, Nat.reduceMul, Nat.reduceEqDiff, Nat.reduceLT, Nat.reduceLeDiff, reduceCtorEq, bitfw, List.length_map, List.getElem?_map, Option.map_some, Int.natCast_nonneg, Int.toNat_natCast, decide_true, decide_false, Bool.and_true, Bool.and_self, Bool.not_true, Bool.not_false, un9, un25, un26, el25, el26, ti9, ti25, ti26, ti28, ti53, un53, un3, ti3, fl28_0, fl28_1, S1_fw, U1_fw, gx, hs, h3, h4] <;> rfl) ?_
  refine aops_end ?_
  refine awp_ret ?_
  exact gives_end (.inl rfl) _ rfl

/- (chancel/lat.Lat).down -/
theorem c64 (Γ : Nat → PV) (ns : List (List UInt8)) (us : List Nat) (hw : W64 us) (hn : us.length ≤ 64) (a : Nat) : Gives Tryd.prog Γ 64 [.agg [.vec (ns.map S1) false, .vec (us.map U1) false], .int .i64 (a : Int)] (.int .u64 ((dn us a us.length : Nat) : Int)) := by
  refine fn_of_awp Tryd.func64 rfl (by simp [Tryd.f64]) rfl fun H => ?_
  refine awp_seq ?_
  refine awp_run rfl (by simp only [fwA, ↓reduceIte, Nat.reduceAdd, Nat.reduceMul, Nat.reduceEqDiff, Nat.reduceLT, Nat.reduceLeDiff, reduceCtorEq] <;> rfl) ?_
  refine awp_seq ?_
  refine awp_run rfl (by simp only [fwA, ↓reduceIte, Nat.reduceAdd, Nat.reduceMul, Nat.reduceEqDiff, Nat.reduceLT, Nat.reduceLeDiff, reduceCtorEq] <;> rfl) ?_
  refine awp_seq ?_
  refine awp_seq ?_
  refine awp_run rfl (by simp only [fwA, ↓reduceIte, Nat.reduceAdd, Nat.reduceMul, Nat.reduceEqDiff, Nat.reduceLT, Nat.reduceLeDiff, reduceCtorEq, bitfw, List.length_map, List.getElem?_map, Option.map_some, Int.natCast_nonneg, Int.toNat_natCast, decide_true, decide_false, Bool.and_true, Bool.and_self, Bool.not_true, Bool.not_false, un9, un25, un26, el25, el26, ti9, ti25, ti26, ti28, ti53, un53, un3, ti3, fl28_0, fl28_1, S1_fw, U1_fw] <;> rfl) ?_
  refine awp_block ?_
  refine awp_for [1, 5, 9, 10, 11] (fun i : Nat => [.int .i64 (a : Int), .int .u64 ((dn us a i : Nat) : Int), .vec (us.map U1) false, .int .i64 (us.length : Int), .int .i64 (i : Int)]) (fun _ => H ++ [.box (laC ns us)]) (fun i => us.length - i) (fun i => i ≤ us.length) 0 rfl rfl (Nat.zero_le _) fun i hi => ?_
  refine awp_seq ?_
  refine awp_run rfl (by simp only [fwA, ↓reduceIte, Nat.reduceAdd, Nat.reduceMul, Nat.reduceEqDiff, Nat.reduceLT, Nat.reduceLeDiff, reduceCtorEq, bitfw, List.length_map, List.getElem?_map, Option.map_some, Int.natCast_nonneg, Int.toNat_natCast, decide_true, decide_false, Bool.and_true, Bool.and_self, Bool.not_true, Bool.not_false, un9, un25, un26, el25, el26, ti9, ti25, ti26, ti28, ti53, un53, un3, ti3, fl28_0, fl28_1, S1_fw, U1_fw] <;> rfl) ?_
  refine awp_seq ?_
  refine awp_cond (by simp only [fwA, ↓reduceIte, Nat.reduceAdd, Nat.reduceMul, Nat.reduceEqDiff, Nat.reduceLT, Nat.reduceLeDiff, reduceCtorEq] <;> rfl) ?_
  by_cases hc : (i : Int) < us.length
  rotate_left
  · simp only [hc, decide_false, Bool.false_eq_true, ↓reduceIte]
    refine awp_exit ?_
    have e : i = us.length := by omega
    subst e
    refine awp_seq ?_
    refine awp_run rfl (by simp only [fwA, ↓reduceIte, Nat.reduceAdd, Nat.reduceMul, Nat.reduceEqDiff, Nat.reduceLT, Nat.reduceLeDiff, reduceCtorEq] <;> rfl) ?_
    refine awp_ret ?_
    exact gives_end (.inl rfl) _ rfl
  simp only [hc, decide_true, ↓reduceIte]
  refine awp_skip ?_
  obtain ⟨x, gx, hx, ex⟩ := getW hw (a := i) (by omega)
  have hwi : IntKind.i64.wrap ((i : Int) + 1) = ((i + 1 : Nat) : Int) := wrapS i (by omega)
  have hs := uShr a hx
  have hxs : x >>> a < 2 ^ 64 := Nat.lt_of_le_of_lt (by rw [Nat.shiftRight_eq_div_pow]; exact Nat.div_le_self _ _) hx
  have h3 := uAnd1 hxs
  have hb : (x >>> a &&& 1) <<< i < 2 ^ 64 := lt_of_bits fun j hj => by rw [one_bit, decide_eq_false (by omega), Bool.false_and]
  have h4 := uShl (x := x >>> a &&& 1) (a := i) (by omega) hb
  have h5 := uOr (le64 (n := i) (by omega) (dn_lt us a i)) hb
  have hst : dn us a (i + 1) = dn us a i ||| (x >>> a &&& 1) <<< i := by
    show dn us a i ||| ((us.getD i 0) >>> a &&& 1) <<< i = _
    rw [ex]
  refine awp_seq ?_
  refine awp_block ?_
  refine awp_seq ?_
  refine awp_run rfl (by simp only [fwA, ↓reduceIte, Nat.reduceAdd, Nat.reduceMul, Nat.reduceEqDiff, Nat.reduceLT, Nat.reduceLeDiff, reduceCtorEq, bitfw, List.length_map, List.getElem?_map, Option.map_some, Int.natCast_nonneg, Int.toNat_natCast, decide_true, decide_false, Bool.and_true, Bool.and_self, Bool.not_true, Bool.not_false, un9, un25, un26, el25, el26, ti9, ti25, ti26, ti28, ti53, un53, un3, ti3, fl28_0, fl28_1, S1_fw, U1_fw, gx] <;> rfl) ?_
  refine awp_run rfl (by simp only [fwA, ↓reduceIte, Nat.reduceAdd, Nat.reduceMul, Nat.reduceEqDiff, Nat.reduceLT, Nat.reduceLeDiff, reduceCtorEq, bitfw, List.length_map, List.getElem?_map, Option.map_some, Int.natCast_nonneg, Int.toNat_natCast, decide_true, decide_false, Bool.and_true, Bool.and_self, Bool.not_true, Bool.not_false, un9, un25, un26, el25, el26, ti9, ti25, ti26, ti28, ti53, un53, un3, ti3, fl28_0, fl28_1, S1_fw, U1_fw, hs, h3, h4, h5] <;> rfl) ?_
  refine awp_run rfl (by simp only [fwA, ↓reduceIte, Nat.reduceAdd, Nat.reduceMul, Nat.reduceEqDiff, Nat.reduceLT, Nat.reduceLeDiff, reduceCtorEq] <;> rfl) ?_
  refine ⟨i + 1, by omega, by omega, ?_, rfl, rfl⟩
  rw [hst]
  simp only [fwA, ↓reduceIte, Nat.reduceAdd, Nat.reduceMul, Nat.reduceEqDiff, Nat.reduceLT, Nat.reduceLeDiff, reduceCtorEq, List.map_cons, List.map_nil, hwi]

end Go.Proofs.YtpkpbfemglmejaaDoor

/- The contracts of the loop over the points of a set. -/
namespace Go.Proofs.YtpkpbfemglmejaaDoor
set_option linter.unusedVariables false
set_option linter.unusedSimpArgs false
set_option maxRecDepth 100000
open Go.RowKit Fw

/-- The library's table. -/
def T64 : List Int := Lib.deBruijn64tab.map fun z : Nat => (z : Int)
def Tab64 (Γ : Nat → PV) : Prop := Γ 0 = .cptr (T64.map fun z => .int .u8 z)

theorem getD_some {l : List Nat} {q k : Nat} (h : q < l.length) (e : l.getD q 0 = k) : l[q]? = some k := by
  rw [List.getD_eq_getElem?_getD, List.getElem?_eq_getElem h] at e
  rw [List.getElem?_eq_getElem h]
  exact congrArg some e

theorem wrap64 {k : Nat} (h : k < 64) : IntKind.i64.wrap (k : Int) = (k : Int) := wrapId ⟨by omega, by omega⟩

/- math/bits.TrailingZeros64 -/
theorem c82 (Γ : Nat → PV) (hΓ : Tab64 Γ) (x : Nat) (hx : x < 2 ^ 64) : Gives Tryd.prog Γ 82 [.int .u64 (x : Int)] (.int .i64 ((Lib.ctz 64 x : Nat) : Int)) := by
  have hΓ' : Γ 0 = .cptr (T64.map fun z => .int .u8 z) := hΓ
  refine fn_of_awp Tryd.func82 rfl (by simp [Tryd.f82]) rfl fun H => ?_
  refine awp_seq ?_
  refine awp_run rfl (by simp only [fwA, ↓reduceIte, Nat.reduceAdd, Nat.reduceMul, Nat.reduceEqDiff, Nat.reduceLT, Nat.reduceLeDiff, reduceCtorEq] <;> rfl) ?_
  refine awp_seq ?_
  refine awp_seq ?_
  by_cases h0 : x = 0
  · subst h0
    refine awp_run rfl (by simp only [fwA, ↓reduceIte, Nat.reduceAdd, Nat.reduceMul, Nat.reduceEqDiff, Nat.reduceLT, Nat.reduceLeDiff, reduceCtorEq] <;> rfl) ?_
    refine awp_cond (b := true) (by simp [alook, aput, ev]) ?_
    refine awp_seq ?_
    refine awp_run rfl (by simp only [fwA, ↓reduceIte, Nat.reduceAdd, Nat.reduceMul, Nat.reduceEqDiff, Nat.reduceLT, Nat.reduceLeDiff, reduceCtorEq] <;> rfl) ?_
    refine awp_ret ?_
    exact gives_end0 (.inl rfl) rfl
  have h0' : ¬ (x : Int) = 0 := by omega
  refine awp_run rfl (by simp only [fwA, ↓reduceIte, Nat.reduceAdd, Nat.reduceMul, Nat.reduceEqDiff, Nat.reduceLT, Nat.reduceLeDiff, reduceCtorEq, bitfw, List.getElem?_map, Option.map_some, Int.natCast_nonneg, Int.toNat_natCast, decide_true, decide_false, Bool.not_true, Bool.not_false, un53, un3, un5, ti3, ti5, ti53, ar121, el121, Int.reduceToNat, Int.reduceLE, Nat.mul_one, h0'] <;> rfl) ?_
  refine awp_cond (b := false) (by simp [alook, aput, ev]) (awp_skip ?_)
  obtain ⟨hlow, hk⟩ := Lib.lowest_bit 64 x h0 hx
  obtain ⟨hi, htab⟩ := Lib.deBruijn64_at _ hk
  generalize Lib.ctz 64 x = k at *
  have e1 : IntKind.u64.wrap (0 - (x : Int)) = ((2 ^ 64 - x : Nat) : Int) := by
    have : IntKind.u64.wrap (0 - (x : Int)) = (0 - (x : Int)) % 18446744073709551616 := by simp [IntKind.wrap, IntKind.signed, IntKind.bits]
    rw [this]; omega
  have e2 := uAnd (x := x) (y := 2 ^ 64 - x) hx
  rw [hlow] at e2
  have e3 : IntKind.u64.wrap (((2 ^ k : Nat) : Int) * 285870213051353865) = ((2 ^ k * 285870213051353865 % 18446744073709551616 : Nat) : Int) := by
    have : IntKind.u64.wrap (((2 ^ k : Nat) : Int) * 285870213051353865) = (((2 ^ k : Nat) : Int) * 285870213051353865) % 18446744073709551616 := by simp [IntKind.wrap, IntKind.signed, IntKind.bits]
    rw [this]; omega
  have hlt : 2 ^ k * 285870213051353865 % 18446744073709551616 < 2 ^ 64 := Nat.mod_lt _ (by decide)
  have e4 := uShr (x := 2 ^ k * 285870213051353865 % 18446744073709551616) 58 hlt
  rw [Nat.shiftRight_eq_div_pow] at e4
  have e6 : (2 : Nat) ^ 58 = 288230376151711744 := by decide
  rw [e6] at e4
  have hlen : Lib.deBruijn64tab.length = 64 := by decide
  generalize hq : 2 ^ k * 285870213051353865 % 18446744073709551616 / 288230376151711744 = q at hi htab e4
  have gt : Lib.deBruijn64tab[q]? = some k := getD_some (by rw [hlen]; exact hi) htab
  have gt2 : T64[q]? = some (k : Int) := by unfold T64; rw [List.getElem?_map, gt]; rfl
  have hkw : IntKind.i64.wrap (k : Int) = (k : Int) := wrap64 hk
  have hi2 : (q : Int) < ((64 : Nat) : Int) := Int.ofNat_lt.2 hi
  refine awp_seq ?_
  refine awp_run rfl (by simp only [fwA, ↓reduceIte, Nat.reduceAdd, Nat.reduceMul, Nat.reduceEqDiff, Nat.reduceLT, Nat.reduceLeDiff, reduceCtorEq, bitfw, List.getElem?_map, Option.map_some, Int.natCast_nonneg, Int.toNat_natCast, decide_true, decide_false, Bool.not_true, Bool.not_false, un53, un3, un5, ti3, ti5, ti53, ar121, el121, Int.reduceToNat, Int.reduceLE, Nat.mul_one, List.getElem?_drop, Nat.add_zero, hΓ', e1, e2, e3, e4, gt2, hkw, hi2] <;> rfl) ?_
  refine awp_ret ?_
  exact gives_end0 (.inl rfl) rfl

/-- The points of a set as the loop hands them on. -/
def bitsP (x : Nat) : List (List PV) := (bitsOf x).map fun j => [.int .i64 ((j : Nat) : Int)]
theorem bitsP_len (x : Nat) : (bitsP x).length = (bitsOf x).length := by simp [bitsP]

/- chancel/lat.each's loop -/
theorem c81 (Γ : Nat → PV) (hΓ : Tab64 Γ) (b : Nat) (x : Nat) (hx : x < 2 ^ 64) : AIterM Tryd.prog Γ 81 [.ptr b 0] b (.box [.int .u64 (x : Int)]) 1 (bitsP x) := by
  intro lb n0 Inv Stop hI Hb hInv hb0
  refine acalls_of_awp Tryd.func81 rfl (by simp [Tryd.f81]) fun hbd => ?_
  obtain ⟨hn0, hcl, rec, cs, hl0, hbl, hpar, _⟩ := hI 0 Hb hInv
  have hbn : b < n0 := by have := (List.getElem?_eq_some_iff.1 hb0).1; omega
  refine awp_block ?_
  refine awp_for [0, 1] (fun s : Nat × Nat × List Blk => [.yld lb, .ptr b 0]) (fun s => s.2.2) (fun s => (bitsOf s.2.1).length) (fun s => s.2.1 < 2 ^ 64 ∧ s.1 ≤ (bitsOf x).length ∧ bitsOf s.2.1 = (bitsOf x).drop s.1 ∧ Inv s.1 s.2.2 ∧ s.2.2[b]? = some (.box [.int .u64 ((s.2.1 : Nat) : Int)])) (0, x, Hb) rfl rfl ⟨hx, Nat.zero_le _, rfl, hInv, hb0⟩ fun s hs => ?_
  obtain ⟨k, y, Hk⟩ := s
  obtain ⟨hy, hkx, hbits, hInvk, hbk⟩ := hs
  simp only at hy hkx hbits hInvk hbk ⊢
  obtain ⟨hnk, hclk, reck, csk, hlk, _, hpark, hround⟩ := hI k Hk hInvk
  refine awp_seq ?_
  refine awp_seq ?_
  by_cases h0 : y = 0
  · have h0' : (y : Int) = 0 := by omega
    subst h0
    refine awp_run rfl (by simp only [fwA, ↓reduceIte, Nat.reduceAdd, Nat.reduceMul, Nat.reduceEqDiff, Nat.reduceLT, Nat.reduceLeDiff, reduceCtorEq, bitfw, List.getElem?_map, Option.map_some, Int.natCast_nonneg, Int.toNat_natCast, decide_true, decide_false, Bool.not_true, Bool.not_false, un53, un3, un5, ti3, ti5, ti53, ar121, el121, Int.reduceToNat, Int.reduceLE, Nat.mul_one, hbk] <;> rfl) ?_
    refine awp_cond (b := false) (by simp [alook, aput, ev]) ?_
    refine awp_bd fun hbd' => ?_
    refine awp_exit ?_
    simp only [Post.block, Post.then, ↓reduceIte]
    refine calls_at (p := .tup []) (.inr rfl) hbd' rfl rfl ?_ ?_
    · omega
    · rw [bitsOf_zero] at hbits
      have hkl : (bitsOf x).length ≤ k := by
        have := congrArg List.length hbits
        rw [List.length_drop, List.length_nil] at this; omega
      have hk : k = (bitsOf x).length := by omega
      exact .inl (by rw [bitsP_len, ← hk]; exact hInvk)
  have h0' : ¬ (y : Int) = 0 := by omega
  refine awp_run rfl (by simp only [fwA, ↓reduceIte, Nat.reduceAdd, Nat.reduceMul, Nat.reduceEqDiff, Nat.reduceLT, Nat.reduceLeDiff, reduceCtorEq, bitfw, List.getElem?_map, Option.map_some, Int.natCast_nonneg, Int.toNat_natCast, decide_true, decide_false, Bool.not_true, Bool.not_false, un53, un3, un5, ti3, ti5, ti53, ar121, el121, Int.reduceToNat, Int.reduceLE, Nat.mul_one, hbk, h0'] <;> rfl) ?_
  refine awp_cond (b := true) (by simp [alook, aput, ev]) (awp_skip ?_)
  have hstep := bitsOf_step h0 hy
  have hkl : k < (bitsOf x).length := by
    refine Nat.lt_of_not_le fun hle => ?_
    rw [List.drop_of_length_le hle, hstep] at hbits
    cases hbits
  have hdr := List.drop_eq_getElem_cons hkl
  rw [hstep, hdr] at hbits
  injection hbits with hc1 hc2
  have h70 := c82 Γ hΓ y hy
  have hgx : (bitsP x)[k]? = some [.int .i64 ((Lib.ctz 64 y : Nat) : Int)] := by
    unfold bitsP
    rw [List.getElem?_map, List.getElem?_eq_getElem hkl, ← hc1]; rfl
  have hy1 : IntKind.u64.wrap ((y : Int) - 1) = ((y - 1 : Nat) : Int) := by
    have e : (y : Int) - 1 = ((y - 1 : Nat) : Int) := by omega
    rw [e, uWrapN (by omega)]
  have hand := uAnd (x := y) (y := y - 1) hy
  generalize Lib.ctz 64 y = c at *
  refine awp_seq ?_
  refine awp_block ?_
  refine awp_seq ?_
  refine awp_region rfl ?_
  refine aops_run 2 (by simp only [fwA, ↓reduceIte, Nat.reduceAdd, Nat.reduceMul, Nat.reduceEqDiff, Nat.reduceLT, Nat.reduceLeDiff, reduceCtorEq, bitfw, List.getElem?_map, Option.map_some, Int.natCast_nonneg, Int.toNat_natCast, decide_true, decide_false, Bool.not_true, Bool.not_false, un53, un3, un5, ti3, ti5, ti53, ar121, el121, Int.reduceToNat, Int.reduceLE, Nat.mul_one, hbk] <;> rfl) ?_
  refine aops_fn rfl rfl rfl en82 h70 ?_
  have hr := hround _ [] hgx
  rw [List.append_nil] at hr
  refine aops_one rfl (os_yield rfl rfl hlk (by rw [hpark]; rfl) (hr.mono fun bo H' hq => ?_))
  obtain ⟨Hb', rfl, hkeep, hq⟩ := hq
  rw [List.append_nil]
  refine aops_run 1 (by simp only [fwA, ↓reduceIte, Nat.reduceAdd, Nat.reduceMul, Nat.reduceEqDiff, Nat.reduceLT, Nat.reduceLeDiff, reduceCtorEq, bitfw, List.getElem?_map, Option.map_some, Int.natCast_nonneg, Int.toNat_natCast, decide_true, decide_false, Bool.not_true, Bool.not_false, un53, un3, un5, ti3, ti5, ti53, ar121, el121, Int.reduceToNat, Int.reduceLE, Nat.mul_one] <;> rfl) ?_
  refine aops_end ?_
  refine awp_cond (by simp only [fwA, ↓reduceIte, Nat.reduceAdd, Nat.reduceMul, Nat.reduceEqDiff, Nat.reduceLT, Nat.reduceLeDiff, reduceCtorEq] <;> rfl) ?_
  rw [hbk] at hkeep
  cases bo with
  | false =>
    simp only [Bool.false_eq_true, ↓reduceIte] at hq
    refine awp_bd fun hbd' => ?_
    refine awp_ret ?_
    simp only [Post.block, Post.then]
    refine calls_at (p := .tup []) (.inl rfl) hbd' rfl rfl ?_ ?_
    · omega
    · exact .inr hq
  | true =>
    simp only [↓reduceIte] at hq
    refine awp_skip ?_
    obtain ⟨hn1, hcl1, _⟩ := hI (k + 1) Hb' hq
    refine awp_run rfl (by simp only [fwA, ↓reduceIte, Nat.reduceAdd, Nat.reduceMul, Nat.reduceEqDiff, Nat.reduceLT, Nat.reduceLeDiff, reduceCtorEq, bitfw, List.getElem?_map, Option.map_some, Int.natCast_nonneg, Int.toNat_natCast, decide_true, decide_false, Bool.not_true, Bool.not_false, un53, un3, un5, ti3, ti5, ti53, ar121, el121, Int.reduceToNat, Int.reduceLE, Nat.mul_one, hkeep, hy1, hand] <;> rfl) ?_
    refine ⟨(k + 1, y &&& (y - 1), Hb'.set b (.box [.int .u64 ((y &&& (y - 1) : Nat) : Int)])), ?_, ⟨and_pred_lt hy, by simp only; omega, hc2, hcl1 _ rfl, ?_⟩, rfl, rfl, rfl⟩
    · simp only [hstep, List.length_cons]; omega
    · simp only
      rw [List.getElem?_set_self (by omega)]

/- chancel/lat.each -/
theorem c65 (Γ : Nat → PV) (x : Nat) (H : List Blk) : ACalls Tryd.prog Γ 65 [.int .u64 (x : Int)] H (fun p H' => p = .func (.func 81) [] [.ptr H.length 0] ∧ H' = H ++ [.box [.int .u64 (x : Int)]]) := by
  refine acalls_of_awp Tryd.func65 rfl (by simp [Tryd.f65]) fun hbd => ?_
  refine awp_seq ?_
  refine awp_run rfl (by simp only [fwA, ↓reduceIte, Nat.reduceAdd, Nat.reduceMul, Nat.reduceEqDiff, Nat.reduceLT, Nat.reduceLeDiff, reduceCtorEq] <;> rfl) ?_
  refine awp_seq ?_
  refine awp_run rfl (by simp only [fwA, ↓reduceIte, Nat.reduceAdd, Nat.reduceMul, Nat.reduceEqDiff, Nat.reduceLT, Nat.reduceLeDiff, reduceCtorEq] <;> rfl) ?_
  refine awp_bd fun hbd' => ?_
  refine awp_ret ?_
  exact calls_at (p := .func (.func 81) [] [.ptr H.length 0]) (.inl rfl) hbd' rfl (by simp [PV.bd, PV.bdL]) (by simp) ⟨rfl, rfl⟩

end Go.Proofs.YtpkpbfemglmejaaDoor

/- The contracts of joins and meets. -/
namespace Go.Proofs.YtpkpbfemglmejaaDoor
set_option linter.unusedVariables false
set_option linter.unusedSimpArgs false
set_option maxRecDepth 100000
open Go.RowKit Fw

def oI (o : Option Nat) : Int := match o with | some c => (c : Int) | none => -1
theorem jI_oI (n : Nat) (r : Nat → Nat → Bool) (a b : Nat) : jI n r a b = oI (jn n r a b) := rfl
theorem bitsP_at {x i : Nat} {q : List PV} (h : (bitsP x)[i]? = some q) : ∃ c, (bitsOf x)[i]? = some c ∧ q = [.int .i64 ((c : Nat) : Int)] := by
  unfold bitsP at h
  rw [List.getElem?_map] at h
  obtain ⟨c, h1, h2⟩ := Option.map_eq_some_iff.1 h
  exact ⟨c, h1, h2.symm⟩
theorem find_at {l : List Nat} {p : Nat → Bool} {i c : Nat} (h : l[i]? = some c) (hp : p c = true) (hn : ∀ j d, j < i → l[j]? = some d → p d = false) : l.find? p = some c := by
  rw [List.find?_eq_some_iff_getElem]
  obtain ⟨hi, rfl⟩ := List.getElem?_eq_some_iff.1 h
  refine ⟨hp, i, hi, rfl, fun j hj => ?_⟩
  rw [hn j _ hj (List.getElem?_eq_getElem (by omega))]; rfl
theorem find_none {l : List Nat} {p : Nat → Bool} (hn : ∀ j d, j < l.length → l[j]? = some d → p d = false) : l.find? p = none := by
  rw [List.find?_eq_none]
  intro d hd
  obtain ⟨j, hj⟩ := List.getElem?_of_mem hd
  rw [hn j d (List.getElem?_eq_some_iff.1 hj).1 hj]; simp
theorem dec_zero (x : Nat) : decide ((x : Int) = 0) = decide (x = 0) := decide_eq_decide.2 (by omega)

set_option maxHeartbeats 1000000 in
/- (chancel/lat.Lat).join -/
theorem c59 (Γ : Nat → PV) (hΓ : Tab64 Γ) (ns : List (List UInt8)) (us : List Nat) (hn : us.length ≤ 64) (hi : Inn us.length us) (a b : Nat) (ha : a < us.length) (hb : b < us.length) : Gives Tryd.prog Γ 59 [.agg [.vec (ns.map S1) false, .vec (us.map U1) false], .int .i64 (a : Int), .int .i64 (b : Int)] (.int .i64 (oI (jn us.length (lq us) a b))) := by
  have hw : W64 us := fun x hx => le64 hn (hi x hx)
  obtain ⟨x, gx, hx, ex⟩ := getW hw ha
  obtain ⟨y, gy, hy, ey⟩ := getW hw hb
  have hxn := getD_lt hi a
  rw [ex] at hxn
  have hand := uAnd (x := x) (y := y) hx
  have hYn : x &&& y < 2 ^ us.length := Nat.lt_of_le_of_lt Nat.and_le_left hxn
  have hjp := joinP_eq (u := us) (a := a) (b := b) hn hi
  unfold joinP at hjp
  rw [ex, ey] at hjp
  rw [← hjp]
  generalize hYd : x &&& y = Y at *
  have hY : Y < 2 ^ 64 := le64 hn hYn
  refine fn_of_awp Tryd.func59 rfl (by simp [Tryd.f59]) rfl fun H => ?_
  refine awp_seq ?_
  refine awp_run rfl (by simp only [fwA, ↓reduceIte, Nat.reduceAdd, Nat.reduceMul, Nat.reduceEqDiff, Nat.reduceLT, Nat.reduceLeDiff, reduceCtorEq, ti3] <;> rfl) ?_
  refine awp_seq ?_
  refine awp_drawn [0, 4, 0, 0, 4, 0, 4, 0, 0, 4, 0, 3, 2] [0, 1, 0, 7, 15, 0, 32, 0, 224, 480, 1023, 0, 4095] mixed rfl (by kernel_rfl) ?_
  refine dops_run 11 (by simp only [fwA, ↓reduceIte, Nat.reduceAdd, Nat.reduceMul, Nat.reduceEqDiff, Nat.reduceLT, Nat.reduceLeDiff, reduceCtorEq, bitfw, List.length_map, List.getElem?_map, Option.map_some, Int.natCast_nonneg, Int.toNat_natCast, decide_true, decide_false, Bool.and_true, Bool.and_self, Bool.not_true, Bool.not_false, un9, un25, un26, el25, el26, ti9, ti25, ti26, ti28, ti53, un53, un3, ti3, ti4, fl28_0, fl28_1, S1_fw, U1_fw, gx, gy, hand] <;> rfl) ?_
  refine dops_make1 rfl rfl (by simp only [fwA, ↓reduceIte, Nat.reduceAdd, Nat.reduceMul, Nat.reduceEqDiff, Nat.reduceLT, Nat.reduceLeDiff, reduceCtorEq, ti53] <;> rfl) (by simp [View.vw, List.take_append]) ?_
  refine dops_run 1 (by simp only [fwA, ↓reduceIte, Nat.reduceAdd, Nat.reduceMul, Nat.reduceEqDiff, Nat.reduceLT, Nat.reduceLeDiff, reduceCtorEq, bitfw, List.length_map, List.getElem?_map, Option.map_some, Int.natCast_nonneg, Int.toNat_natCast, decide_true, decide_false, Bool.and_true, Bool.and_self, Bool.not_true, Bool.not_false, un9, un25, un26, el25, el26, ti9, ti25, ti26, ti28, ti53, un53, un3, ti3, ti4, fl28_0, fl28_1, S1_fw, U1_fw] <;> rfl) ?_
  refine dops_end ?_
  refine awp_seq ?_
  refine awp_seq ?_
  refine awp_region rfl ?_
  refine aops_run 1 (by simp only [fwA, ↓reduceIte, Nat.reduceAdd, Nat.reduceMul, Nat.reduceEqDiff, Nat.reduceLT, Nat.reduceLeDiff, reduceCtorEq, bitfw, List.length_map, List.getElem?_map, Option.map_some, Int.natCast_nonneg, Int.toNat_natCast, decide_true, decide_false, Bool.and_true, Bool.and_self, Bool.not_true, Bool.not_false, un9, un25, un26, el25, el26, ti9, ti25, ti26, ti28, ti53, un53, un3, ti3, ti4, fl28_0, fl28_1, S1_fw, U1_fw] <;> rfl) ?_
  refine aops_call rfl rfl rfl en65 ((c65 Γ Y _).mono fun p H' hp => ?_)
  obtain ⟨rfl, rfl⟩ := hp
  refine aops_end ?_
  refine awp_block ?_
  refine awp_heap (H' := H ++ [.box (laC ns us), .box [.int .i64 0], .box [.int .u64 ((Y : Nat) : Int)], .box [.int .u64 ((Y : Nat) : Int)]]) (by simp [laC]) ?_
  refine awp_rangeFuncM (gf := 81) (caps := [.ptr (H.length + 3) 0]) (b := H.length + 3) (by simp only [fwA, ↓reduceIte, Nat.reduceAdd, Nat.reduceMul, Nat.reduceEqDiff, Nat.reduceLT, Nat.reduceLeDiff, reduceCtorEq, List.length_append, List.length_cons, List.length_nil] <;> rfl) en81 (c81 Γ hΓ (H.length + 3) Y hY) (by rw [Fw.get_at]; rfl) (by simp [Tryd.f59])
    (fun i Hf => (∀ j c, j < i → (bitsOf Y)[j]? = some c → decide (andn Y (us.getD c 0) = 0) = false) ∧ ∃ cs, PV.plainL cs = true ∧ Hf = H ++ [.box (laC ns us), .box [.int .i64 0], .box [.int .u64 ((Y : Nat) : Int)], .box cs])
    (fun c Hf => c = .ret ∧ ∃ (r : Nat) (cs : List PV), (bitsOf Y).find? (fun c => decide (andn Y (us.getD c 0) = 0)) = some r ∧ Hf = H ++ [.box (laC ns us), .box [.int .i64 (r : Int)], .box [.int .u64 ((Y : Nat) : Int)], .box cs])
    ⟨fun j c hj => by omega, _, rfl, rfl⟩ ?_ ?_ ?_ ?_
  · rintro i Hf ⟨hno, cs, hcs, rfl⟩
    refine ⟨by simp, fun cs' hcs' => ⟨hno, cs', hcs', ?_⟩⟩
    rw [Fw.set_at]; rfl
  · rintro i q Hf L L' ro hq ⟨hno, cs, hcs, rfl⟩ hL hL' hbd hbd'
    obtain ⟨c, hc, rfl⟩ := bitsP_at hq
    have hct : Y.testBit c = true := (mem_bitsOf hY).1 (List.mem_of_getElem? hc)
    have hcn : c < us.length := bit_lt hYn hct
    obtain ⟨z, gz, hz, ez⟩ := getW hw hcn
    have hnj := uAndn Y z
    have hdz := dec_zero (andn Y z)
    refine awp_less (A' := [(3, .ptr H.length 0), (6, .ptr (H.length + 1) 0), (7, .ptr (H.length + 2) 0), (22, .int .i64 (c : Int))]) (fun t => zip_look [3, 6, 7, 22] [.ptr H.length 0, .ptr (H.length + 1) 0, .ptr (H.length + 2) 0, .int .i64 (c : Int)] t _ (by simp only [fwA, ↓reduceIte, Nat.reduceAdd, Nat.reduceMul, Nat.reduceEqDiff, Nat.reduceLT, Nat.reduceLeDiff, reduceCtorEq, List.length_append, List.length_cons, List.length_nil] <;> rfl)) ?_
    refine awp_run rfl (by simp only [fwA, ↓reduceIte, Nat.reduceAdd, Nat.reduceMul, Nat.reduceEqDiff, Nat.reduceLT, Nat.reduceLeDiff, reduceCtorEq] <;> rfl) ?_
    refine ⟨rfl, H ++ [.box (laC ns us), .box [.int .i64 0], .box [.int .u64 ((Y : Nat) : Int)], .box cs], [], by simp, by simp, ?_⟩
    rw [List.append_nil]
    have g0 : (H ++ [.box (laC ns us), .box [.int .i64 0], .box [.int .u64 ((Y : Nat) : Int)], .box cs] ++ L')[H.length]? = some (.box (laC ns us)) := by rw [List.append_assoc, Fw.get_at0]; rfl
    have g1 : (H ++ [.box (laC ns us), .box [.int .i64 0], .box [.int .u64 ((Y : Nat) : Int)], .box cs] ++ L')[H.length + 1]? = some (.box [.int .i64 0]) := by rw [List.append_assoc, Fw.get_at]; rfl
    have g2 : (H ++ [.box (laC ns us), .box [.int .i64 0], .box [.int .u64 ((Y : Nat) : Int)], .box cs] ++ L')[H.length + 2]? = some (.box [.int .u64 (Y : Int)]) := by rw [List.append_assoc, Fw.get_at]; rfl
    have hbdH : ∀ B ∈ H, B.bd (H.length + 4 + L'.length) = true := fun B hB => by
      have := hbd B (by simp [hB])
      rw [List.length_append, ← hL'] at this
      simpa using this
    generalize hK : H ++ [.box (laC ns us), .box [.int .i64 0], .box [.int .u64 ((Y : Nat) : Int)], .box cs] ++ L' = K at g0 g1 g2 ⊢
    unfold laC at g0
    refine awp_block ?_
    refine awp_seq ?_
    refine awp_drun [1, 0, 1, 0, 0, 1, 0, 0] [0, 0, 2, 0, 14, 30, 63, 127] mixed rfl (by kernel_rfl) (by simp only [fwA, ↓reduceIte, Nat.reduceAdd, Nat.reduceMul, Nat.reduceEqDiff, Nat.reduceLT, Nat.reduceLeDiff, reduceCtorEq, bitfw, List.length_map, List.getElem?_map, Option.map_some, Int.natCast_nonneg, Int.toNat_natCast, decide_true, decide_false, Bool.and_true, Bool.and_self, Bool.not_true, Bool.not_false, un9, un25, un26, el25, el26, ti9, ti25, ti26, ti28, ti53, un53, un3, ti3, ti4, fl28_0, fl28_1, S1_fw, U1_fw, g0, g1, g2, gz, hnj, hdz] <;> rfl) ?_
    refine awp_cond (by simp only [fwA, ↓reduceIte, Nat.reduceAdd, Nat.reduceMul, Nat.reduceEqDiff, Nat.reduceLT, Nat.reduceLeDiff, reduceCtorEq] <;> rfl) ?_
    by_cases hz0 : andn Y z = 0
    · simp only [hz0, decide_true, ↓reduceIte]
      refine awp_seq ?_
      refine awp_run rfl (by simp only [fwA, ↓reduceIte, Nat.reduceAdd, Nat.reduceMul, Nat.reduceEqDiff, Nat.reduceLT, Nat.reduceLeDiff, reduceCtorEq, bitfw, List.length_map, List.getElem?_map, Option.map_some, Int.natCast_nonneg, Int.toNat_natCast, decide_true, decide_false, Bool.and_true, Bool.and_self, Bool.not_true, Bool.not_false, un9, un25, un26, el25, el26, ti9, ti25, ti26, ti28, ti53, un53, un3, ti3, ti4, fl28_0, fl28_1, S1_fw, U1_fw, g1] <;> rfl) ?_
      refine awp_ret ?_
      refine ⟨H ++ [.box (laC ns us), .box [.int .i64 (c : Int)], .box [.int .u64 ((Y : Nat) : Int)], .box cs], [], by simp, ?_, ?_, ?_, by first | exact rfl | exact trivial, c, cs, find_at hc (by rw [ez]; exact decide_eq_true hz0) hno, rfl⟩
      · rw [← hK, List.append_assoc, Fw.set_at]; simp
      · intro B hB
        simp only [List.length_append, List.length_cons, List.length_nil]
        rcases List.mem_append.1 hB with hB | hB
        · exact hbdH B hB
        · simp only [List.mem_cons, List.not_mem_nil, or_false] at hB
          rcases hB with rfl | rfl | rfl | rfl
          · simp [Blk.bd, PV.bdL, PV.bd, laC, S1, U1]
          · rfl
          · rfl
          · exact PV.bdL_mono (Nat.zero_le _) _ hcs
      · rw [Fw.get_at, Fw.get_at]; rfl
    · simp only [hz0, decide_false, Bool.false_eq_true, ↓reduceIte]
      refine awp_skip ?_
      refine ⟨H ++ [.box (laC ns us), .box [.int .i64 0], .box [.int .u64 ((Y : Nat) : Int)], .box cs], [], by simp, by rw [← hK]; simp, ?_, rfl, fun j d hj hd => ?_, cs, hcs, rfl⟩
      · intro B hB
        simp only [List.length_append, List.length_cons, List.length_nil]
        rcases List.mem_append.1 hB with hB | hB
        · exact hbdH B hB
        · simp only [List.mem_cons, List.not_mem_nil, or_false] at hB
          rcases hB with rfl | rfl | rfl | rfl
          · simp [Blk.bd, PV.bdL, PV.bd, laC, S1, U1]
          · rfl
          · rfl
          · exact PV.bdL_mono (Nat.zero_le _) _ hcs
      · by_cases hji : j = i
        · subst hji; rw [hc] at hd; cases hd; rw [ez]; exact decide_eq_false hz0
        · exact hno j d (by omega) hd
  · rintro Hf B ⟨hno, cs, hcs, rfl⟩
    have hf : (bitsOf Y).find? (fun c => decide (andn Y (us.getD c 0) = 0)) = none := find_none fun j d hj hd => hno j d (by rw [bitsP_len]; exact hj) hd
    rw [hf]
    simp only [Post.block, Post.then]
    refine awp_heap (H' := H ++ [.box (laC ns us), .box [.int .i64 0], .box [.int .u64 ((Y : Nat) : Int)], .box cs, .dfr, B]) (by simp) ?_
    refine awp_seq ?_
    refine awp_run rfl (by simp only [fwA, ↓reduceIte, Nat.reduceAdd, Nat.reduceMul, Nat.reduceEqDiff, Nat.reduceLT, Nat.reduceLeDiff, reduceCtorEq, ti3] <;> rfl) ?_
    refine awp_ret ?_
    refine ⟨.inl rfl, by simp, fun b hb => ?_, ?_, _, rfl⟩
    · simp only [List.mem_singleton] at hb
      subst hb
      exact ⟨by rw [List.length_append, Fw.get_at]; rfl, by simp⟩
    · simp [oI, ares, aresL, ares1, alook, Tryd.f59, rd, ev, ti3]
  · rintro c Hf B ⟨rfl, r, cs, hr, rfl⟩ _
    rw [hr]
    refine awp_heap (H' := H ++ [.box (laC ns us), .box [.int .i64 (r : Int)], .box [.int .u64 ((Y : Nat) : Int)], .box cs, .dfr, B]) (by simp) ?_
    refine awp_ret ?_
    refine ⟨.inl rfl, by simp, fun b hb => ?_, ?_, _, rfl⟩
    · simp only [List.mem_singleton] at hb
      subst hb
      exact ⟨by rw [List.length_append, Fw.get_at]; rfl, by simp⟩
    · simp [oI, aput, ares, aresL, ares1, alook, Tryd.f59, rd, ev, ti3]

set_option maxHeartbeats 1000000 in
/- (chancel/lat.Lat).meet -/
theorem c66 (Γ : Nat → PV) (hΓ : Tab64 Γ) (ns : List (List UInt8)) (us : List Nat) (hn : us.length ≤ 64) (hw : W64 us) (a b : Nat) (ha : a < us.length) (hb : b < us.length) : Gives Tryd.prog Γ 66 [.agg [.vec (ns.map S1) false, .vec (us.map U1) false], .int .i64 (a : Int), .int .i64 (b : Int)] (.int .i64 (oI (jn us.length (tr (lq us)) a b))) := by
  have hda := le64 hn (dn_lt us a us.length)
  have h61a := c64 Γ ns us hw hn a
  have h61b := c64 Γ ns us hw hn b
  have hand := uAnd (x := dn us a us.length) (y := dn us b us.length) hda
  have hYn : dn us a us.length &&& dn us b us.length < 2 ^ us.length := Nat.lt_of_le_of_lt Nat.and_le_left (dn_lt us a us.length)
  have hjp := meetP_eq (u := us) (a := a) (b := b) rfl hn
  unfold meetP at hjp
  rw [← hjp]
  generalize hYd : dn us a us.length &&& dn us b us.length = Y at *
  have hY : Y < 2 ^ 64 := le64 hn hYn
  refine fn_of_awp Tryd.func66 rfl (by simp [Tryd.f66]) rfl fun H => ?_
  refine awp_seq ?_
  refine awp_run rfl (by simp only [fwA, ↓reduceIte, Nat.reduceAdd, Nat.reduceMul, Nat.reduceEqDiff, Nat.reduceLT, Nat.reduceLeDiff, reduceCtorEq, ti3] <;> rfl) ?_
  refine awp_seq ?_
  refine awp_drawn [4, 0, 0, 4, 0, 0, 0, 3, 2] [0, 0, 3, 0, 0, 31, 63, 0, 255] mixed rfl (by kernel_rfl) ?_
  refine dops_run 2 (by simp only [fwA, ↓reduceIte, Nat.reduceAdd, Nat.reduceMul, Nat.reduceEqDiff, Nat.reduceLT, Nat.reduceLeDiff, reduceCtorEq, bitfw, List.length_map, List.getElem?_map, Option.map_some, Int.natCast_nonneg, Int.toNat_natCast, decide_true, decide_false, Bool.and_true, Bool.and_self, Bool.not_true, Bool.not_false, un9, un25, un26, el25, el26, ti9, ti25, ti26, ti28, ti53, un53, un3, ti3, ti4, fl28_0, fl28_1, S1_fw, U1_fw] <;> rfl) ?_
  refine dops_fn rfl rfl rfl rfl en64 h61a ?_
  refine dops_run 2 (by simp only [fwA, ↓reduceIte, Nat.reduceAdd, Nat.reduceMul, Nat.reduceEqDiff, Nat.reduceLT, Nat.reduceLeDiff, reduceCtorEq, bitfw, List.length_map, List.getElem?_map, Option.map_some, Int.natCast_nonneg, Int.toNat_natCast, decide_true, decide_false, Bool.and_true, Bool.and_self, Bool.not_true, Bool.not_false, un9, un25, un26, el25, el26, ti9, ti25, ti26, ti28, ti53, un53, un3, ti3, ti4, fl28_0, fl28_1, S1_fw, U1_fw] <;> rfl) ?_
  refine dops_fn rfl rfl rfl rfl en64 h61b ?_
  refine dops_run 1 (by simp only [fwA, ↓reduceIte, Nat.reduceAdd, Nat.reduceMul, Nat.reduceEqDiff, Nat.reduceLT, Nat.reduceLeDiff, reduceCtorEq, bitfw, List.length_map, List.getElem?_map, Option.map_some, Int.natCast_nonneg, Int.toNat_natCast, decide_true, decide_false, Bool.and_true, Bool.and_self, Bool.not_true, Bool.not_false, un9, un25, un26, el25, el26, ti9, ti25, ti26, ti28, ti53, un53, un3, ti3, ti4, fl28_0, fl28_1, S1_fw, U1_fw, hand] <;> rfl) ?_
  refine dops_make1 rfl rfl (by simp only [fwA, ↓reduceIte, Nat.reduceAdd, Nat.reduceMul, Nat.reduceEqDiff, Nat.reduceLT, Nat.reduceLeDiff, reduceCtorEq, ti53] <;> rfl) (by simp [View.vw, List.take_append]) ?_
  refine dops_run 1 (by simp only [fwA, ↓reduceIte, Nat.reduceAdd, Nat.reduceMul, Nat.reduceEqDiff, Nat.reduceLT, Nat.reduceLeDiff, reduceCtorEq, bitfw, List.length_map, List.getElem?_map, Option.map_some, Int.natCast_nonneg, Int.toNat_natCast, decide_true, decide_false, Bool.and_true, Bool.and_self, Bool.not_true, Bool.not_false, un9, un25, un26, el25, el26, ti9, ti25, ti26, ti28, ti53, un53, un3, ti3, ti4, fl28_0, fl28_1, S1_fw, U1_fw] <;> rfl) ?_
  refine dops_end ?_
  refine awp_seq ?_
  refine awp_seq ?_
  refine awp_region rfl ?_
  refine aops_run 1 (by simp only [fwA, ↓reduceIte, Nat.reduceAdd, Nat.reduceMul, Nat.reduceEqDiff, Nat.reduceLT, Nat.reduceLeDiff, reduceCtorEq, bitfw, List.length_map, List.getElem?_map, Option.map_some, Int.natCast_nonneg, Int.toNat_natCast, decide_true, decide_false, Bool.and_true, Bool.and_self, Bool.not_true, Bool.not_false, un9, un25, un26, el25, el26, ti9, ti25, ti26, ti28, ti53, un53, un3, ti3, ti4, fl28_0, fl28_1, S1_fw, U1_fw] <;> rfl) ?_
  refine aops_call rfl rfl rfl en65 ((c65 Γ Y _).mono fun p H' hp => ?_)
  obtain ⟨rfl, rfl⟩ := hp
  refine aops_end ?_
  refine awp_block ?_
  refine awp_heap (H' := H ++ [.box (laC ns us), .box [.int .i64 0], .box [.int .u64 ((Y : Nat) : Int)], .box [.int .u64 ((Y : Nat) : Int)]]) (by simp [laC]) ?_
  refine awp_rangeFuncM (gf := 81) (caps := [.ptr (H.length + 3) 0]) (b := H.length + 3) (by simp only [fwA, ↓reduceIte, Nat.reduceAdd, Nat.reduceMul, Nat.reduceEqDiff, Nat.reduceLT, Nat.reduceLeDiff, reduceCtorEq, List.length_append, List.length_cons, List.length_nil] <;> rfl) en81 (c81 Γ hΓ (H.length + 3) Y hY) (by rw [Fw.get_at]; rfl) (by simp [Tryd.f66])
    (fun i Hf => (∀ j c, j < i → (bitsOf Y)[j]? = some c → decide (andn Y (dn us c us.length) = 0) = false) ∧ ∃ cs, PV.plainL cs = true ∧ Hf = H ++ [.box (laC ns us), .box [.int .i64 0], .box [.int .u64 ((Y : Nat) : Int)], .box cs])
    (fun c Hf => c = .ret ∧ ∃ (r : Nat) (cs : List PV), (bitsOf Y).find? (fun c => decide (andn Y (dn us c us.length) = 0)) = some r ∧ Hf = H ++ [.box (laC ns us), .box [.int .i64 (r : Int)], .box [.int .u64 ((Y : Nat) : Int)], .box cs])
    ⟨fun j c hj => by omega, _, rfl, rfl⟩ ?_ ?_ ?_ ?_
  · rintro i Hf ⟨hno, cs, hcs, rfl⟩
    refine ⟨by simp, fun cs' hcs' => ⟨hno, cs', hcs', ?_⟩⟩
    rw [Fw.set_at]; rfl
  · rintro i q Hf L L' ro hq ⟨hno, cs, hcs, rfl⟩ hL hL' hbd hbd'
    obtain ⟨c, hc, rfl⟩ := bitsP_at hq
    have hct : Y.testBit c = true := (mem_bitsOf hY).1 (List.mem_of_getElem? hc)
    have hcn : c < us.length := bit_lt hYn hct
    have h61c := c64 Γ ns us hw hn c
    obtain ⟨z, ez⟩ : ∃ z, dn us c us.length = z := ⟨_, rfl⟩
    rw [ez] at h61c
    have hnj := uAndn Y z
    have hdz := dec_zero (andn Y z)
    refine awp_less (A' := [(3, .ptr H.length 0), (6, .ptr (H.length + 1) 0), (7, .ptr (H.length + 2) 0), (18, .int .i64 (c : Int))]) (fun t => zip_look [3, 6, 7, 18] [.ptr H.length 0, .ptr (H.length + 1) 0, .ptr (H.length + 2) 0, .int .i64 (c : Int)] t _ (by simp only [fwA, ↓reduceIte, Nat.reduceAdd, Nat.reduceMul, Nat.reduceEqDiff, Nat.reduceLT, Nat.reduceLeDiff, reduceCtorEq, List.length_append, List.length_cons, List.length_nil] <;> rfl)) ?_
    refine awp_run rfl (by simp only [fwA, ↓reduceIte, Nat.reduceAdd, Nat.reduceMul, Nat.reduceEqDiff, Nat.reduceLT, Nat.reduceLeDiff, reduceCtorEq] <;> rfl) ?_
    refine ⟨rfl, H ++ [.box (laC ns us), .box [.int .i64 0], .box [.int .u64 ((Y : Nat) : Int)], .box cs], [], by simp, by simp, ?_⟩
    rw [List.append_nil]
    have g0 : (H ++ [.box (laC ns us), .box [.int .i64 0], .box [.int .u64 ((Y : Nat) : Int)], .box cs] ++ L')[H.length]? = some (.box (laC ns us)) := by rw [List.append_assoc, Fw.get_at0]; rfl
    have g1 : (H ++ [.box (laC ns us), .box [.int .i64 0], .box [.int .u64 ((Y : Nat) : Int)], .box cs] ++ L')[H.length + 1]? = some (.box [.int .i64 0]) := by rw [List.append_assoc, Fw.get_at]; rfl
    have g2 : (H ++ [.box (laC ns us), .box [.int .i64 0], .box [.int .u64 ((Y : Nat) : Int)], .box cs] ++ L')[H.length + 2]? = some (.box [.int .u64 (Y : Int)]) := by rw [List.append_assoc, Fw.get_at]; rfl
    have hbdH : ∀ B ∈ H, B.bd (H.length + 4 + L'.length) = true := fun B hB => by
      have := hbd B (by simp [hB])
      rw [List.length_append, ← hL'] at this
      simpa using this
    generalize hK : H ++ [.box (laC ns us), .box [.int .i64 0], .box [.int .u64 ((Y : Nat) : Int)], .box cs] ++ L' = K at g0 g1 g2 ⊢
    unfold laC at g0
    refine awp_block ?_
    refine awp_seq ?_
    refine awp_drawn [1, 1, 0, 0, 0, 0] [0, 0, 0, 6, 15, 31] mixed rfl (by kernel_rfl) ?_
    refine dops_run 3 (by simp only [fwA, ↓reduceIte, Nat.reduceAdd, Nat.reduceMul, Nat.reduceEqDiff, Nat.reduceLT, Nat.reduceLeDiff, reduceCtorEq, bitfw, List.length_map, List.getElem?_map, Option.map_some, Int.natCast_nonneg, Int.toNat_natCast, decide_true, decide_false, Bool.and_true, Bool.and_self, Bool.not_true, Bool.not_false, un9, un25, un26, el25, el26, ti9, ti25, ti26, ti28, ti53, un53, un3, ti3, ti4, fl28_0, fl28_1, S1_fw, U1_fw, g0, g1, g2, hnj, hdz] <;> rfl) ?_
    refine dops_fn rfl (by simp only [fwA, ↓reduceIte, Nat.reduceAdd, Nat.reduceMul, Nat.reduceEqDiff, Nat.reduceLT, Nat.reduceLeDiff, reduceCtorEq] <;> rfl) rfl rfl en64 h61c ?_
    refine dops_run 2 (by simp only [fwA, ↓reduceIte, Nat.reduceAdd, Nat.reduceMul, Nat.reduceEqDiff, Nat.reduceLT, Nat.reduceLeDiff, reduceCtorEq, bitfw, List.length_map, List.getElem?_map, Option.map_some, Int.natCast_nonneg, Int.toNat_natCast, decide_true, decide_false, Bool.and_true, Bool.and_self, Bool.not_true, Bool.not_false, un9, un25, un26, el25, el26, ti9, ti25, ti26, ti28, ti53, un53, un3, ti3, ti4, fl28_0, fl28_1, S1_fw, U1_fw, g0, g1, g2, hnj, hdz] <;> rfl) ?_
    refine dops_end ?_
    refine awp_cond (by simp only [fwA, ↓reduceIte, Nat.reduceAdd, Nat.reduceMul, Nat.reduceEqDiff, Nat.reduceLT, Nat.reduceLeDiff, reduceCtorEq] <;> rfl) ?_
    by_cases hz0 : andn Y z = 0
    · simp only [hz0, decide_true, ↓reduceIte]
      refine awp_seq ?_
      refine awp_run rfl (by simp only [fwA, ↓reduceIte, Nat.reduceAdd, Nat.reduceMul, Nat.reduceEqDiff, Nat.reduceLT, Nat.reduceLeDiff, reduceCtorEq, bitfw, List.length_map, List.getElem?_map, Option.map_some, Int.natCast_nonneg, Int.toNat_natCast, decide_true, decide_false, Bool.and_true, Bool.and_self, Bool.not_true, Bool.not_false, un9, un25, un26, el25, el26, ti9, ti25, ti26, ti28, ti53, un53, un3, ti3, ti4, fl28_0, fl28_1, S1_fw, U1_fw, g1] <;> rfl) ?_
      refine awp_ret ?_
      refine ⟨H ++ [.box (laC ns us), .box [.int .i64 (c : Int)], .box [.int .u64 ((Y : Nat) : Int)], .box cs], [], by simp, ?_, ?_, ?_, by first | exact rfl | exact trivial, c, cs, find_at hc (by rw [ez]; exact decide_eq_true hz0) hno, rfl⟩
      · rw [← hK, List.append_assoc, Fw.set_at]; simp
      · intro B hB
        simp only [List.length_append, List.length_cons, List.length_nil]
        rcases List.mem_append.1 hB with hB | hB
        · exact hbdH B hB
        · simp only [List.mem_cons, List.not_mem_nil, or_false] at hB
          rcases hB with rfl | rfl | rfl | rfl
          · simp [Blk.bd, PV.bdL, PV.bd, laC, S1, U1]
          · rfl
          · rfl
          · exact PV.bdL_mono (Nat.zero_le _) _ hcs
      · rw [Fw.get_at, Fw.get_at]; rfl
    · simp only [hz0, decide_false, Bool.false_eq_true, ↓reduceIte]
      refine awp_skip ?_
      refine ⟨H ++ [.box (laC ns us), .box [.int .i64 0], .box [.int .u64 ((Y : Nat) : Int)], .box cs], [], by simp, by rw [← hK]; simp, ?_, rfl, fun j d hj hd => ?_, cs, hcs, rfl⟩
      · intro B hB
        simp only [List.length_append, List.length_cons, List.length_nil]
        rcases List.mem_append.1 hB with hB | hB
        · exact hbdH B hB
        · simp only [List.mem_cons, List.not_mem_nil, or_false] at hB
          rcases hB with rfl | rfl | rfl | rfl
          · simp [Blk.bd, PV.bdL, PV.bd, laC, S1, U1]
          · rfl
          · rfl
          · exact PV.bdL_mono (Nat.zero_le _) _ hcs
      · by_cases hji : j = i
        · subst hji; rw [hc] at hd; cases hd; rw [ez]; exact decide_eq_false hz0
        · exact hno j d (by omega) hd
  · rintro Hf B ⟨hno, cs, hcs, rfl⟩
    have hf : (bitsOf Y).find? (fun c => decide (andn Y (dn us c us.length) = 0)) = none := find_none fun j d hj hd => hno j d (by rw [bitsP_len]; exact hj) hd
    rw [hf]
    simp only [Post.block, Post.then]
    refine awp_heap (H' := H ++ [.box (laC ns us), .box [.int .i64 0], .box [.int .u64 ((Y : Nat) : Int)], .box cs, .dfr, B]) (by simp) ?_
    refine awp_seq ?_
    refine awp_run rfl (by simp only [fwA, ↓reduceIte, Nat.reduceAdd, Nat.reduceMul, Nat.reduceEqDiff, Nat.reduceLT, Nat.reduceLeDiff, reduceCtorEq, ti3] <;> rfl) ?_
    refine awp_ret ?_
    refine ⟨.inl rfl, by simp, fun b hb => ?_, ?_, _, rfl⟩
    · simp only [List.mem_singleton] at hb
      subst hb
      exact ⟨by rw [List.length_append, Fw.get_at]; rfl, by simp⟩
    · simp [oI, ares, aresL, ares1, alook, Tryd.f66, rd, ev, ti3]
  · rintro c Hf B ⟨rfl, r, cs, hr, rfl⟩ _
    rw [hr]
    refine awp_heap (H' := H ++ [.box (laC ns us), .box [.int .i64 (r : Int)], .box [.int .u64 ((Y : Nat) : Int)], .box cs, .dfr, B]) (by simp) ?_
    refine awp_ret ?_
    refine ⟨.inl rfl, by simp, fun b hb => ?_, ?_, _, rfl⟩
    · simp only [List.mem_singleton] at hb
      subst hb
      exact ⟨by rw [List.length_append, Fw.get_at]; rfl, by simp⟩
    · simp [oI, aput, ares, aresL, ares1, alook, Tryd.f66, rd, ev, ti3]

end Go.Proofs.YtpkpbfemglmejaaDoor

/- The contract of what tells an order. -/
namespace Go.Proofs.YtpkpbfemglmejaaDoor
set_option linter.unusedVariables false
set_option linter.unusedSimpArgs false
set_option maxRecDepth 100000
open Go.RowKit Fw

/-- The marks among blocks. -/
def MarksAt (n : Nat) (H : List Blk) (D : List Nat) : Prop := D.Nodup ∧ ∀ b ∈ D, H[b]? = some .dfr ∧ n ≤ b
theorem MarksAt.app {n : Nat} {H : List Blk} {D : List Nat} (h : MarksAt n H D) (L : List Blk) : MarksAt n (H ++ L) D :=
  ⟨h.1, fun b hb => ⟨by rw [List.getElem?_append_left (List.getElem?_eq_some_iff.1 (h.2 b hb).1).1]; exact (h.2 b hb).1, (h.2 b hb).2⟩⟩
theorem MarksAt.push {n : Nat} {H : List Blk} {D : List Nat} (h : MarksAt n H D) (hn : n ≤ H.length) (L : List Blk) : MarksAt n (H ++ .dfr :: L) (H.length :: D) := by
  have h2 := h.app (.dfr :: L)
  refine ⟨List.nodup_cons.2 ⟨fun hb => ?_, h2.1⟩, fun b hb => ?_⟩
  · have := (List.getElem?_eq_some_iff.1 (h.2 _ hb).1).1; omega
  · rcases List.mem_cons.1 hb with rfl | hb
    · exact ⟨by rw [List.getElem?_append_right (Nat.le_refl _), Nat.sub_self]; rfl, hn⟩
    · exact h2.2 b hb

theorem set_self {H : List Blk} {b : Nat} {B : Blk} (h : H[b]? = some B) : H.set b B = H := by
  obtain ⟨h1, rfl⟩ := List.getElem?_eq_some_iff.1 h
  exact List.set_getElem_self h1

set_option maxHeartbeats 2000000 in
/- (chancel/lat.Lat).order -/
theorem c54 (Γ : Nat → PV) (hΓ : Tab64 Γ) (ns : List (List UInt8)) (us : List Nat) (hn : us.length ≤ 64) (hi : Inn us.length us) : Gives Tryd.prog Γ 54 [.agg [.vec (ns.map S1) false, .vec (us.map U1) false]] (.bool (ordB us.length (lq us))) := by
  have hw : W64 us := fun x hx => le64 hn (hi x hx)
  rw [← rows_ord rfl hn hi]
  refine fn_of_awp Tryd.func54 rfl (by simp [Tryd.f54]) rfl fun H => ?_
  refine awp_bd fun hbd0 => ?_
  refine awp_seq ?_
  refine awp_run rfl (by simp only [fwA, ↓reduceIte, Nat.reduceAdd, Nat.reduceMul, Nat.reduceEqDiff, Nat.reduceLT, Nat.reduceLeDiff, reduceCtorEq, ti4] <;> rfl) ?_
  refine awp_seq ?_
  refine awp_seq ?_
  refine awp_run rfl (by simp only [fwA, ↓reduceIte, Nat.reduceAdd, Nat.reduceMul, Nat.reduceEqDiff, Nat.reduceLT, Nat.reduceLeDiff, reduceCtorEq, bitfw, List.length_map, List.getElem?_map, Option.map_some, Int.natCast_nonneg, Int.toNat_natCast, decide_true, decide_false, Bool.and_true, Bool.and_self, Bool.not_true, Bool.not_false, un9, un25, un26, el25, el26, ti9, ti25, ti26, ti28, ti53, un53, un3, ti3, ti4, fl28_0, fl28_1, S1_fw, U1_fw] <;> rfl) ?_
  refine awp_block ?_
  refine awp_forD [1, 2, 7, 8, 9] (fun s : Nat × List Blk × List Nat => [.ptr H.length 0, .ptr (H.length + 1) 0, .vec (us.map U1) false, .int .i64 (us.length : Int), .int .i64 (s.1 : Int)]) (fun s => H ++ Blk.box (laC ns us) :: Blk.box [.bool false] :: s.2.1) (fun s => s.2.2) (fun s => us.length - s.1)
    (fun s => s.1 ≤ us.length ∧ (List.range s.1).all (okRow us us.length) = true ∧ MarksAt H.length (H ++ Blk.box (laC ns us) :: Blk.box [.bool false] :: s.2.1) s.2.2) (0, [], []) (by simp only [fwA, ↓reduceIte, Nat.reduceAdd, Nat.reduceMul, Nat.reduceEqDiff, Nat.reduceLT, Nat.reduceLeDiff, reduceCtorEq, List.map_cons, List.map_nil] <;> rfl) (by simp [laC]) rfl ⟨Nat.zero_le _, rfl, List.nodup_nil, fun b hb => by cases hb⟩ fun s hs => ?_
  obtain ⟨i, E, Ds⟩ := s
  obtain ⟨hil, hall, hM⟩ := hs
  simp only at hil hall hM ⊢
  have hHl : (H ++ Blk.box (laC ns us) :: Blk.box [.bool false] :: E).length = H.length + 2 + E.length := by simp; omega
  have g0 : (H ++ Blk.box (laC ns us) :: Blk.box [.bool false] :: E)[H.length]? = some (.box (laC ns us)) := by rw [Fw.get_at0]; rfl
  have g1 : (H ++ Blk.box (laC ns us) :: Blk.box [.bool false] :: E)[H.length + 1]? = some (.box [.bool false]) := by rw [Fw.get_at]; rfl
  have hset : (H ++ Blk.box (laC ns us) :: Blk.box [.bool false] :: E).set (H.length + 1) (.box [.bool true]) = H ++ Blk.box (laC ns us) :: Blk.box [.bool true] :: E := by rw [Fw.set_at]; rfl
  have hpre : ∃ L, H ++ Blk.box (laC ns us) :: Blk.box [.bool false] :: E = H ++ L := ⟨_, rfl⟩
  have hres : ∀ (A' : List (Nat × PV)) (K : List Blk) (v : Bool) (D' : List Nat), alook A' 2 = .ptr (H.length + 1) 0 → K[H.length + 1]? = some (.box [.bool v]) → (∃ L, K = H ++ L) → MarksAt H.length K D' →
      ((Exit.ret = .ret ∨ Exit.ret = .normal) ∧ D'.Nodup ∧ (∀ b ∈ D', K[b]? = some .dfr ∧ H.length ≤ b) ∧ ares Tryd.prog Γ A' K Tryd.f54.results.toList = some (.bool v) ∧ ∃ L', K = H ++ L') := fun A' K v D' h2 g hp hm => by
    refine ⟨.inl rfl, hm.1, hm.2, ?_, hp⟩
    simp [ares, aresL, ares1, Tryd.f54, rd, ev, ti4, h2, g]
  have hMt : MarksAt H.length (H ++ Blk.box (laC ns us) :: Blk.box [.bool true] :: E) Ds := ⟨hM.1, fun b hb => by
    obtain ⟨k1, k2⟩ := hM.2 b hb
    refine ⟨?_, k2⟩
    rw [← hset, List.getElem?_set_ne (fun e => by subst e; rw [g1] at k1; cases k1)]; exact k1⟩
  have gt1 : (H ++ Blk.box (laC ns us) :: Blk.box [.bool true] :: E)[H.length + 1]? = some (.box [.bool true]) := by rw [Fw.get_at]; rfl
  have hpret : ∃ L, H ++ Blk.box (laC ns us) :: Blk.box [.bool true] :: E = H ++ L := ⟨_, rfl⟩
  generalize H ++ Blk.box (laC ns us) :: Blk.box [.bool true] :: E = HT at hset hMt gt1 hpret
  have hEl : ∀ L : List Blk, H ++ Blk.box (laC ns us) :: Blk.box [.bool false] :: E ++ L = H ++ Blk.box (laC ns us) :: Blk.box [.bool false] :: (E ++ L) := fun L => by simp
  generalize hHB : H ++ Blk.box (laC ns us) :: Blk.box [.bool false] :: E = HB at *
  unfold laC at g0
  refine awp_seq ?_
  refine awp_run rfl (by simp only [fwA, ↓reduceIte, Nat.reduceAdd, Nat.reduceMul, Nat.reduceEqDiff, Nat.reduceLT, Nat.reduceLeDiff, reduceCtorEq] <;> rfl) ?_
  refine awp_seq ?_
  refine awp_cond (by simp only [fwA, ↓reduceIte, Nat.reduceAdd, Nat.reduceMul, Nat.reduceEqDiff, Nat.reduceLT, Nat.reduceLeDiff, reduceCtorEq] <;> rfl) ?_
  by_cases hc : (i : Int) < us.length
  rotate_left
  · simp only [hc, decide_false, Bool.false_eq_true, ↓reduceIte]
    refine awp_exit ?_
    have e : i = us.length := by omega
    subst e
    rw [hall]
    refine awp_seq ?_
    refine awp_run rfl (by simp only [fwA, ↓reduceIte, Nat.reduceAdd, Nat.reduceMul, Nat.reduceEqDiff, Nat.reduceLT, Nat.reduceLeDiff, reduceCtorEq, bitfw, List.length_map, List.getElem?_map, Option.map_some, Int.natCast_nonneg, Int.toNat_natCast, decide_true, decide_false, Bool.and_true, Bool.and_self, Bool.not_true, Bool.not_false, un9, un25, un26, el25, el26, ti9, ti25, ti26, ti28, ti53, un53, un3, ti3, ti4, fl28_0, fl28_1, S1_fw, U1_fw, g1] <;> rfl) ?_
    refine awp_ret ?_
    rw [hset]
    exact hres _ _ true _ rfl gt1 hpret hMt
  simp only [hc, decide_true, ↓reduceIte]
  refine awp_skip ?_
  have hill : i < us.length := by omega
  obtain ⟨x, gx, hx, ex⟩ := getW hw hill
  have hxn := getD_lt hi i
  rw [ex] at hxn
  have hwi : IntKind.i64.wrap ((i : Int) + 1) = ((i + 1 : Nat) : Int) := wrapS i (by omega)
  have hone := uOne (a := i) (by omega)
  have ha1 := uAnd (x := x) (y := 2 ^ i) hx
  have ha2 := uAnd (x := x) (y := dn us i us.length) hx
  have h61 := c64 Γ ns us hw hn i
  have hz1 := dec_zero (x &&& 2 ^ i)
  have hz2 := cast_eq (x &&& dn us i us.length) (2 ^ i)
  have hok : okRow us us.length i = (!decide (x &&& 2 ^ i = 0) && decide (x &&& dn us i us.length = 2 ^ i) && (bitsOf x).all fun b => decide (andn (us.getD b 0) x = 0)) := by unfold okRow; rw [ex]
  have hbad : okRow us us.length i = false → (List.range us.length).all (okRow us us.length) = false := fun h => all_false hill h
  refine awp_seq ?_
  refine awp_block ?_
  refine awp_seq ?_
  refine awp_run rfl (by simp only [fwA, ↓reduceIte, Nat.reduceAdd, Nat.reduceMul, Nat.reduceEqDiff, Nat.reduceLT, Nat.reduceLeDiff, reduceCtorEq, bitfw, List.length_map, List.getElem?_map, Option.map_some, Int.natCast_nonneg, Int.toNat_natCast, decide_true, decide_false, Bool.and_true, Bool.and_self, Bool.not_true, Bool.not_false, un9, un25, un26, el25, el26, ti9, ti25, ti26, ti28, ti53, un53, un3, ti3, ti4, fl28_0, fl28_1, S1_fw, U1_fw, gx] <;> rfl) ?_
  refine awp_seq ?_
  refine awp_seq ?_
  have g0' : (HB ++ [Blk.box [.int .u64 (x : Int)]])[H.length]? = some (.box [.vec (ns.map S1) false, .vec (us.map U1) false]) := by rw [List.getElem?_append_left (by omega)]; exact g0
  have g1' : (HB ++ [Blk.box [.int .u64 (x : Int)]])[H.length + 1]? = some (.box [.bool false]) := by rw [List.getElem?_append_left (by omega)]; exact g1
  have g4 : (HB ++ [Blk.box [.int .u64 (x : Int)]])[HB.length]? = some (.box [.int .u64 (x : Int)]) := Fw.get_at0 _ _
  have hsame' : (HB ++ [Blk.box [.int .u64 (x : Int)]]).set (H.length + 1) (.box [.bool false]) = HB ++ [Blk.box [.int .u64 (x : Int)]] := set_self g1'
  have hMK : MarksAt H.length (HB ++ [Blk.box [.int .u64 (x : Int)]]) Ds := hM.app _
  have hpK : ∃ L, HB ++ [Blk.box [.int .u64 (x : Int)]] = H ++ L := by obtain ⟨L, hL⟩ := hpre; exact ⟨L ++ _, by rw [hL, List.append_assoc]⟩
  generalize hK : HB ++ [Blk.box [.int .u64 (x : Int)]] = K at g0' g1' g4 hsame' hMK hpK ⊢
  by_cases h1 : x &&& 2 ^ i = 0
  · refine awp_drawn [1, 0, 0, 0, 0, 0, 1, 1, 0, 0, 0, 0, 0, 0, 0] [0, 0, 2, 7, 15, 31, 63, 63, 63, 447, 1023, 63, 2111, 8191, 16383] mixed rfl (by kernel_rfl) ?_
    refine dops_run 13 (by simp only [fwA, ↓reduceIte, Nat.reduceAdd, Nat.reduceMul, Nat.reduceEqDiff, Nat.reduceLT, Nat.reduceLeDiff, reduceCtorEq, bitfw, List.length_map, List.getElem?_map, Option.map_some, Int.natCast_nonneg, Int.toNat_natCast, decide_true, decide_false, Bool.and_true, Bool.and_self, Bool.not_true, Bool.not_false, un9, un25, un26, el25, el26, ti9, ti25, ti26, ti28, ti53, un53, un3, ti3, ti4, fl28_0, fl28_1, S1_fw, U1_fw, g0', g4, hone, ha1, hz1, h1] <;> rfl) ?_
    refine dops_run 2 (by simp only [fwA, ↓reduceIte, Nat.reduceAdd, Nat.reduceMul, Nat.reduceEqDiff, Nat.reduceLT, Nat.reduceLeDiff, reduceCtorEq, bitfw, List.length_map, List.getElem?_map, Option.map_some, Int.natCast_nonneg, Int.toNat_natCast, decide_true, decide_false, Bool.and_true, Bool.and_self, Bool.not_true, Bool.not_false, un9, un25, un26, el25, el26, ti9, ti25, ti26, ti28, ti53, un53, un3, ti3, ti4, fl28_0, fl28_1, S1_fw, U1_fw, g0', g4, hone, ha1, hz1, h1] <;> rfl) ?_
    refine dops_end ?_
    refine awp_cond (b := true) (by simp [alook, aput, ev]) ?_
    refine awp_seq ?_
    refine awp_run rfl (by simp only [fwA, ↓reduceIte, Nat.reduceAdd, Nat.reduceMul, Nat.reduceEqDiff, Nat.reduceLT, Nat.reduceLeDiff, reduceCtorEq, bitfw, List.length_map, List.getElem?_map, Option.map_some, Int.natCast_nonneg, Int.toNat_natCast, decide_true, decide_false, Bool.and_true, Bool.and_self, Bool.not_true, Bool.not_false, un9, un25, un26, el25, el26, ti9, ti25, ti26, ti28, ti53, un53, un3, ti3, ti4, fl28_0, fl28_1, S1_fw, U1_fw, g1', hsame'] <;> rfl) ?_
    refine awp_ret ?_
    rw [hbad (by rw [hok, decide_eq_true h1]; rfl)]
    exact hres _ _ false _ rfl g1' hpK hMK
  by_cases h2 : x &&& dn us i us.length = 2 ^ i
  rotate_left
  · refine awp_drawn [1, 0, 0, 0, 0, 0, 1, 1, 0, 0, 0, 0, 0, 0, 0] [0, 0, 2, 7, 15, 31, 63, 63, 63, 447, 1023, 63, 2111, 8191, 16383] mixed rfl (by kernel_rfl) ?_
    refine dops_run 9 (by simp only [fwA, ↓reduceIte, Nat.reduceAdd, Nat.reduceMul, Nat.reduceEqDiff, Nat.reduceLT, Nat.reduceLeDiff, reduceCtorEq, bitfw, List.length_map, List.getElem?_map, Option.map_some, Int.natCast_nonneg, Int.toNat_natCast, decide_true, decide_false, Bool.and_true, Bool.and_self, Bool.not_true, Bool.not_false, un9, un25, un26, el25, el26, ti9, ti25, ti26, ti28, ti53, un53, un3, ti3, ti4, fl28_0, fl28_1, S1_fw, U1_fw, g0', g4, hone, ha1, ha2, hz1, h1, hz2, h2] <;> rfl) ?_
    refine dops_fn rfl (by simp only [fwA, ↓reduceIte, Nat.reduceAdd, Nat.reduceMul, Nat.reduceEqDiff, Nat.reduceLT, Nat.reduceLeDiff, reduceCtorEq] <;> rfl) rfl rfl en64 h61 ?_
    refine dops_run 5 (by simp only [fwA, ↓reduceIte, Nat.reduceAdd, Nat.reduceMul, Nat.reduceEqDiff, Nat.reduceLT, Nat.reduceLeDiff, reduceCtorEq, bitfw, List.length_map, List.getElem?_map, Option.map_some, Int.natCast_nonneg, Int.toNat_natCast, decide_true, decide_false, Bool.and_true, Bool.and_self, Bool.not_true, Bool.not_false, un9, un25, un26, el25, el26, ti9, ti25, ti26, ti28, ti53, un53, un3, ti3, ti4, fl28_0, fl28_1, S1_fw, U1_fw, g0', g4, hone, ha1, ha2, hz1, h1, hz2, h2] <;> rfl) ?_
    refine dops_end ?_
    refine awp_cond (b := true) (by simp [alook, aput, ev]) ?_
    refine awp_seq ?_
    refine awp_run rfl (by simp only [fwA, ↓reduceIte, Nat.reduceAdd, Nat.reduceMul, Nat.reduceEqDiff, Nat.reduceLT, Nat.reduceLeDiff, reduceCtorEq, bitfw, List.length_map, List.getElem?_map, Option.map_some, Int.natCast_nonneg, Int.toNat_natCast, decide_true, decide_false, Bool.and_true, Bool.and_self, Bool.not_true, Bool.not_false, un9, un25, un26, el25, el26, ti9, ti25, ti26, ti28, ti53, un53, un3, ti3, ti4, fl28_0, fl28_1, S1_fw, U1_fw, g1', hsame'] <;> rfl) ?_
    refine awp_ret ?_
    rw [hbad (by rw [hok, decide_eq_false h2, Bool.and_false]; rfl)]
    exact hres _ _ false _ rfl g1' hpK hMK
  refine awp_drawn [1, 0, 0, 0, 0, 0, 1, 1, 0, 0, 0, 0, 0, 0, 0] [0, 0, 2, 7, 15, 31, 63, 63, 63, 447, 1023, 63, 2111, 8191, 16383] mixed rfl (by kernel_rfl) ?_
  refine dops_run 9 (by simp only [fwA, ↓reduceIte, Nat.reduceAdd, Nat.reduceMul, Nat.reduceEqDiff, Nat.reduceLT, Nat.reduceLeDiff, reduceCtorEq, bitfw, List.length_map, List.getElem?_map, Option.map_some, Int.natCast_nonneg, Int.toNat_natCast, decide_true, decide_false, Bool.and_true, Bool.and_self, Bool.not_true, Bool.not_false, un9, un25, un26, el25, el26, ti9, ti25, ti26, ti28, ti53, un53, un3, ti3, ti4, fl28_0, fl28_1, S1_fw, U1_fw, g0', g4, hone, ha1, ha2, hz1, h1, hz2, h2] <;> rfl) ?_
  refine dops_fn rfl (by simp only [fwA, ↓reduceIte, Nat.reduceAdd, Nat.reduceMul, Nat.reduceEqDiff, Nat.reduceLT, Nat.reduceLeDiff, reduceCtorEq] <;> rfl) rfl rfl en64 h61 ?_
  refine dops_run 5 (by simp only [fwA, ↓reduceIte, Nat.reduceAdd, Nat.reduceMul, Nat.reduceEqDiff, Nat.reduceLT, Nat.reduceLeDiff, reduceCtorEq, bitfw, List.length_map, List.getElem?_map, Option.map_some, Int.natCast_nonneg, Int.toNat_natCast, decide_true, decide_false, Bool.and_true, Bool.and_self, Bool.not_true, Bool.not_false, un9, un25, un26, el25, el26, ti9, ti25, ti26, ti28, ti53, un53, un3, ti3, ti4, fl28_0, fl28_1, S1_fw, U1_fw, g0', g4, hone, ha1, ha2, hz1, h1, hz2, h2] <;> rfl) ?_
  refine dops_end ?_
  refine awp_cond (b := false) (by simp [alook, aput, ev]) (awp_skip ?_)
  refine awp_seq ?_
  refine awp_region rfl ?_
  refine aops_run 1 (by simp only [fwA, ↓reduceIte, Nat.reduceAdd, Nat.reduceMul, Nat.reduceEqDiff, Nat.reduceLT, Nat.reduceLeDiff, reduceCtorEq, bitfw, List.length_map, List.getElem?_map, Option.map_some, Int.natCast_nonneg, Int.toNat_natCast, decide_true, decide_false, Bool.and_true, Bool.and_self, Bool.not_true, Bool.not_false, un9, un25, un26, el25, el26, ti9, ti25, ti26, ti28, ti53, un53, un3, ti3, ti4, fl28_0, fl28_1, S1_fw, U1_fw, g4] <;> rfl) ?_
  refine aops_call rfl rfl rfl en65 ((c65 Γ x _).mono fun p H' hp => ?_)
  obtain ⟨rfl, rfl⟩ := hp
  refine aops_end ?_
  refine awp_block ?_
  have hKl : K.length = HB.length + 1 := by rw [← hK]; simp
  refine awp_rangeFuncM (gf := 81) (caps := [.ptr K.length 0]) (b := K.length) (by simp only [fwA, ↓reduceIte, Nat.reduceAdd, Nat.reduceMul, Nat.reduceEqDiff, Nat.reduceLT, Nat.reduceLeDiff, reduceCtorEq] <;> rfl) en81 (c81 Γ hΓ K.length x hx) (Fw.get_at0 _ _) (by simp [Tryd.f54])
    (fun k Hf => (∀ j c, j < k → (bitsOf x)[j]? = some c → decide (andn (us.getD c 0) x = 0) = true) ∧ ∃ cs, PV.plainL cs = true ∧ Hf = K ++ [Blk.box cs])
    (fun c Hf => c = .ret ∧ okRow us us.length i = false ∧ ∃ cs, Hf = K ++ [Blk.box cs])
    ⟨fun j c hj => by omega, _, rfl, rfl⟩ ?_ ?_ ?_ ?_
  · rintro k Hf ⟨hno, cs, hcs, rfl⟩
    refine ⟨by simp, fun cs' hcs' => ⟨hno, cs', hcs', ?_⟩⟩
    rw [set_at0]; rfl
  · rintro k q Hf L L' ro hq ⟨hno, cs, hcs, rfl⟩ hL hL' hbd hbd'
    obtain ⟨c, hc2, rfl⟩ := bitsP_at hq
    have hct : x.testBit c = true := (mem_bitsOf hx).1 (List.mem_of_getElem? hc2)
    have hcn : c < us.length := bit_lt hxn hct
    obtain ⟨z, gz, hz, ez⟩ := getW hw hcn
    have hnj := uAndn z x
    have hdz := dec_zero (andn z x)
    refine awp_less (A' := [(1, .ptr H.length 0), (2, .ptr (H.length + 1) 0), (4, .ptr HB.length 0), (31, .int .i64 (c : Int))]) (fun t => zip_look [1, 2, 4, 31] [.ptr H.length 0, .ptr (H.length + 1) 0, .ptr HB.length 0, .int .i64 (c : Int)] t _ (by simp only [fwA, ↓reduceIte, Nat.reduceAdd, Nat.reduceMul, Nat.reduceEqDiff, Nat.reduceLT, Nat.reduceLeDiff, reduceCtorEq] <;> rfl)) ?_
    refine awp_run rfl (by simp only [fwA, ↓reduceIte, Nat.reduceAdd, Nat.reduceMul, Nat.reduceEqDiff, Nat.reduceLT, Nat.reduceLeDiff, reduceCtorEq] <;> rfl) ?_
    refine ⟨rfl, K ++ [Blk.box cs], [], by simp, by simp, ?_⟩
    rw [List.append_nil]
    have k0 : (K ++ [Blk.box cs] ++ L')[H.length]? = some (.box [.vec (ns.map S1) false, .vec (us.map U1) false]) := by rw [List.append_assoc, List.getElem?_append_left (by omega)]; exact g0'
    have k1 : (K ++ [Blk.box cs] ++ L')[H.length + 1]? = some (.box [.bool false]) := by rw [List.append_assoc, List.getElem?_append_left (by omega)]; exact g1'
    have k4 : (K ++ [Blk.box cs] ++ L')[HB.length]? = some (.box [.int .u64 (x : Int)]) := by rw [List.append_assoc, List.getElem?_append_left (by omega)]; exact g4
    have ksame : (K ++ [Blk.box cs] ++ L').set (H.length + 1) (.box [.bool false]) = K ++ [Blk.box cs] ++ L' := set_self k1
    have hbdK : ∀ B ∈ K ++ [Blk.box cs], B.bd ((K ++ [Blk.box cs]).length + L'.length) = true := fun B hB => by
      have := hbd B (List.mem_append_left _ hB)
      rw [List.length_append, ← hL'] at this
      exact this
    have hkl : (K ++ [Blk.box cs]).length = K.length + 1 := by simp
    have hkl2 : (K ++ [Blk.box [.int .u64 (x : Int)]]).length = K.length + 1 := by simp
    generalize hK3 : K ++ [Blk.box cs] ++ L' = K3 at k0 k1 k4 ksame ⊢
    refine awp_block ?_
    refine awp_seq ?_
    refine awp_drun [0, 1, 0, 0, 1, 1, 0, 0] [0, 1, 0, 7, 15, 0, 63, 127] mixed rfl (by kernel_rfl) (by simp only [fwA, ↓reduceIte, Nat.reduceAdd, Nat.reduceMul, Nat.reduceEqDiff, Nat.reduceLT, Nat.reduceLeDiff, reduceCtorEq, bitfw, List.length_map, List.getElem?_map, Option.map_some, Int.natCast_nonneg, Int.toNat_natCast, decide_true, decide_false, Bool.and_true, Bool.and_self, Bool.not_true, Bool.not_false, un9, un25, un26, el25, el26, ti9, ti25, ti26, ti28, ti53, un53, un3, ti3, ti4, fl28_0, fl28_1, S1_fw, U1_fw, k0, k4, gz, hnj, hdz] <;> rfl) ?_
    refine awp_cond (by simp only [fwA, ↓reduceIte, Nat.reduceAdd, Nat.reduceMul, Nat.reduceEqDiff, Nat.reduceLT, Nat.reduceLeDiff, reduceCtorEq] <;> rfl) ?_
    by_cases hz0 : andn z x = 0
    · simp only [hz0, decide_true, Bool.not_true, Bool.false_eq_true, ↓reduceIte]
      refine awp_skip ?_
      refine ⟨K ++ [Blk.box cs], [], by simp, by rw [← hK3]; simp, fun B hB => by rw [hkl2, ← hkl]; exact hbdK B hB, rfl, fun j d hj hd => ?_, cs, hcs, rfl⟩
      by_cases hji : j = k
      · subst hji; rw [hc2] at hd; cases hd; rw [ez]; exact decide_eq_true hz0
      · exact hno j d (by omega) hd
    · simp only [hz0, decide_false, Bool.not_false, ↓reduceIte]
      refine awp_seq ?_
      refine awp_run rfl (by simp only [fwA, ↓reduceIte, Nat.reduceAdd, Nat.reduceMul, Nat.reduceEqDiff, Nat.reduceLT, Nat.reduceLeDiff, reduceCtorEq, bitfw, List.length_map, List.getElem?_map, Option.map_some, Int.natCast_nonneg, Int.toNat_natCast, decide_true, decide_false, Bool.and_true, Bool.and_self, Bool.not_true, Bool.not_false, un9, un25, un26, el25, el26, ti9, ti25, ti26, ti28, ti53, un53, un3, ti3, ti4, fl28_0, fl28_1, S1_fw, U1_fw, k1, ksame] <;> rfl) ?_
      refine awp_ret ?_
      refine ⟨K ++ [Blk.box cs], [], by simp, by rw [← hK3]; simp, fun B hB => by rw [hkl2, ← hkl]; exact hbdK B hB, rfl, by first | exact rfl | exact trivial, ?_, cs, rfl⟩
      rw [hok]
      have : ((bitsOf x).all fun b => decide (andn (us.getD b 0) x = 0)) = false := by
        rw [List.all_eq_false]
        exact ⟨c, List.mem_of_getElem? hc2, by rw [ez]; simpa using hz0⟩
      rw [this, Bool.and_false]
  · rintro Hf B ⟨hno, cs, hcs, rfl⟩
    have hrow : okRow us us.length i = true := by
      rw [hok, decide_eq_false h1, decide_eq_true h2]
      have : ((bitsOf x).all fun b => decide (andn (us.getD b 0) x = 0)) = true := by
        rw [List.all_eq_true]
        intro c hc3
        obtain ⟨j, hj⟩ := List.getElem?_of_mem hc3
        exact hno j c (by rw [bitsP_len]; exact (List.getElem?_eq_some_iff.1 hj).1) hj
      rw [this]; rfl
    simp only [Post.block, Post.then]
    refine awp_run rfl (by simp only [fwA, ↓reduceIte, Nat.reduceAdd, Nat.reduceMul, Nat.reduceEqDiff, Nat.reduceLT, Nat.reduceLeDiff, reduceCtorEq] <;> rfl) ?_
    refine ⟨(i + 1, E ++ [.box [.int .u64 (x : Int)], .box cs, .dfr, B], (K ++ [Blk.box [.int .u64 (x : Int)]]).length :: Ds), by simp only; omega, ⟨by simp only; omega, ?_, ?_⟩, ?_, ?_, rfl⟩
    · simp only [all_succ, hall, hrow, Bool.and_self]
    · have hm := (hMK.app [Blk.box cs]).push (by simp; omega) [B]
      simp only
      rw [← hEl, show HB ++ [Blk.box [.int .u64 (x : Int)], .box cs, .dfr, B] = K ++ [Blk.box cs] ++ [.dfr, B] by rw [← hK]; simp]
      rw [show (K ++ [Blk.box [.int .u64 (x : Int)]]).length = (K ++ [Blk.box cs]).length by simp]
      exact hm
    · simp only [fwA, ↓reduceIte, Nat.reduceAdd, Nat.reduceMul, Nat.reduceEqDiff, Nat.reduceLT, Nat.reduceLeDiff, reduceCtorEq, List.map_cons, List.map_nil, hwi]
    · simp only
      rw [← hEl, ← hK]; simp
  · rintro c Hf B ⟨rfl, hbadr, cs, rfl⟩ _
    refine awp_ret ?_
    rw [hbad hbadr]
    have hm := (hMK.app [Blk.box cs]).push (by simp; omega) [B]
    rw [show (K ++ [Blk.box cs]).length = (K ++ [Blk.box [.int .u64 (x : Int)]]).length by simp] at hm
    refine hres _ _ false _ rfl ?_ ?_ hm
    · rw [List.append_assoc, List.getElem?_append_left (by omega)]; exact g1'
    · obtain ⟨L, hL⟩ := hpK
      exact ⟨L ++ [Blk.box cs] ++ [.dfr, B], by rw [hL]; simp⟩

end Go.Proofs.YtpkpbfemglmejaaDoor

/- The contracts of bounds, names, of what is a lattice. -/
namespace Go.Proofs.YtpkpbfemglmejaaDoor
set_option linter.unusedVariables false
set_option linter.unusedSimpArgs false
set_option maxRecDepth 100000
open Go.RowKit Fw

theorem oI_neg (o : Option Nat) : decide (oI o = -1) = !o.isSome := by
  cases o with
  | none => rfl
  | some c => simp [oI]
set_option maxHeartbeats 1000000 in
/- (chancel/lat.Lat).bounded -/
theorem c55 (Γ : Nat → PV) (hΓ : Tab64 Γ) (ns : List (List UInt8)) (us : List Nat) (hn : us.length ≤ 64) (hi : Inn us.length us) : Gives Tryd.prog Γ 55 [.agg [.vec (ns.map S1) false, .vec (us.map U1) false]] (.bool (boundP us.length (lq us))) := by
  have hw : W64 us := fun x hx => le64 hn (hi x hx)
  refine fn_of_awp Tryd.func55 rfl (by simp [Tryd.f55]) rfl fun H => ?_
  refine awp_seq ?_
  refine awp_run rfl (by simp only [fwA, ↓reduceIte, Nat.reduceAdd, Nat.reduceMul, Nat.reduceEqDiff, Nat.reduceLT, Nat.reduceLeDiff, reduceCtorEq] <;> rfl) ?_
  refine awp_seq ?_
  refine awp_seq ?_
  refine awp_run rfl (by simp only [fwA, ↓reduceIte, Nat.reduceAdd, Nat.reduceMul, Nat.reduceEqDiff, Nat.reduceLT, Nat.reduceLeDiff, reduceCtorEq, bitfw, List.length_map, List.getElem?_map, Option.map_some, Int.natCast_nonneg, Int.toNat_natCast, decide_true, decide_false, Bool.and_true, Bool.and_self, Bool.not_true, Bool.not_false, Bool.false_and, Bool.true_and, un9, un25, un26, el25, el26, ti9, ti25, ti26, ti28, ti53, un53, un3, ti3, ti4, fl28_0, fl28_1, S1_fw, U1_fw] <;> rfl) ?_
  refine awp_block ?_
  refine awp_for [1, 6, 7, 8] (fun i : Nat => [.ptr H.length 0, .vec (us.map U1) false, .int .i64 (us.length : Int), .int .i64 (i : Int)]) (fun _ => H ++ [.box (laC ns us)]) (fun i => us.length - i) (fun i => i ≤ us.length ∧ ((List.range i).all fun a => (List.range a).all fun b => (jn us.length (lq us) a b).isSome && (jn us.length (tr (lq us)) a b).isSome) = true) 0 rfl rfl ⟨Nat.zero_le _, rfl⟩ fun i hs => ?_
  obtain ⟨hil, hall⟩ := hs
  refine awp_seq ?_
  refine awp_run rfl (by simp only [fwA, ↓reduceIte, Nat.reduceAdd, Nat.reduceMul, Nat.reduceEqDiff, Nat.reduceLT, Nat.reduceLeDiff, reduceCtorEq, bitfw, List.length_map, List.getElem?_map, Option.map_some, Int.natCast_nonneg, Int.toNat_natCast, decide_true, decide_false, Bool.and_true, Bool.and_self, Bool.not_true, Bool.not_false, Bool.false_and, Bool.true_and, un9, un25, un26, el25, el26, ti9, ti25, ti26, ti28, ti53, un53, un3, ti3, ti4, fl28_0, fl28_1, S1_fw, U1_fw] <;> rfl) ?_
  refine awp_seq ?_
  refine awp_cond (by simp only [fwA, ↓reduceIte, Nat.reduceAdd, Nat.reduceMul, Nat.reduceEqDiff, Nat.reduceLT, Nat.reduceLeDiff, reduceCtorEq] <;> rfl) ?_
  by_cases hc : (i : Int) < us.length
  rotate_left
  · simp only [hc, decide_false, Bool.false_eq_true, ↓reduceIte]
    refine awp_exit ?_
    have e : i = us.length := by omega
    subst e
    have hb : boundP us.length (lq us) = true := hall
    rw [hb]
    refine awp_seq ?_
    refine awp_run rfl (by simp only [fwA, ↓reduceIte, Nat.reduceAdd, Nat.reduceMul, Nat.reduceEqDiff, Nat.reduceLT, Nat.reduceLeDiff, reduceCtorEq] <;> rfl) ?_
    refine awp_ret ?_
    exact gives_end (.inl rfl) _ rfl
  simp only [hc, decide_true, ↓reduceIte]
  refine awp_skip ?_
  have hill : i < us.length := by omega
  have hwi : IntKind.i64.wrap ((i : Int) + 1) = ((i + 1 : Nat) : Int) := wrapS i (by omega)
  have hbad : ((List.range i).all fun b => (jn us.length (lq us) i b).isSome && (jn us.length (tr (lq us)) i b).isSome) = false → boundP us.length (lq us) = false := fun h => all_false hill h
  refine awp_seq ?_
  refine awp_block ?_
  refine awp_seq ?_
  refine awp_run rfl (by simp only [fwA, ↓reduceIte, Nat.reduceAdd, Nat.reduceMul, Nat.reduceEqDiff, Nat.reduceLT, Nat.reduceLeDiff, reduceCtorEq] <;> rfl) ?_
  refine awp_seq ?_
  refine awp_run rfl (by simp only [fwA, ↓reduceIte, Nat.reduceAdd, Nat.reduceMul, Nat.reduceEqDiff, Nat.reduceLT, Nat.reduceLeDiff, reduceCtorEq] <;> rfl) ?_
  refine awp_block ?_
  refine awp_for [1, 3, 6, 7, 8, 11, 12] (fun j : Nat => [.ptr H.length 0, .int .i64 (i : Int), .vec (us.map U1) false, .int .i64 (us.length : Int), .int .i64 (i : Int), .int .i64 (i : Int), .int .i64 (j : Int)]) (fun _ => H ++ [.box (laC ns us)]) (fun j => i - j) (fun j => j ≤ i ∧ ((List.range j).all fun b => (jn us.length (lq us) i b).isSome && (jn us.length (tr (lq us)) i b).isSome) = true) 0 rfl rfl ⟨Nat.zero_le _, rfl⟩ fun j hs => ?_
  obtain ⟨hjl, hallj⟩ := hs
  have g0 : (H ++ [Blk.box (laC ns us)])[H.length]? = some (.box [.vec (ns.map S1) false, .vec (us.map U1) false]) := by rw [Fw.get_at0]; rfl
  refine awp_seq ?_
  refine awp_run rfl (by simp only [fwA, ↓reduceIte, Nat.reduceAdd, Nat.reduceMul, Nat.reduceEqDiff, Nat.reduceLT, Nat.reduceLeDiff, reduceCtorEq, bitfw, List.length_map, List.getElem?_map, Option.map_some, Int.natCast_nonneg, Int.toNat_natCast, decide_true, decide_false, Bool.and_true, Bool.and_self, Bool.not_true, Bool.not_false, Bool.false_and, Bool.true_and, un9, un25, un26, el25, el26, ti9, ti25, ti26, ti28, ti53, un53, un3, ti3, ti4, fl28_0, fl28_1, S1_fw, U1_fw] <;> rfl) ?_
  refine awp_seq ?_
  refine awp_cond (by simp only [fwA, ↓reduceIte, Nat.reduceAdd, Nat.reduceMul, Nat.reduceEqDiff, Nat.reduceLT, Nat.reduceLeDiff, reduceCtorEq] <;> rfl) ?_
  by_cases hcj : (j : Int) < i
  rotate_left
  · simp only [hcj, decide_false, Bool.false_eq_true, ↓reduceIte]
    refine awp_exit ?_
    have e : j = i := by omega
    subst e
    refine awp_run rfl (by simp only [fwA, ↓reduceIte, Nat.reduceAdd, Nat.reduceMul, Nat.reduceEqDiff, Nat.reduceLT, Nat.reduceLeDiff, reduceCtorEq] <;> rfl) ?_
    refine ⟨j + 1, by omega, ⟨by omega, by rw [all_succ, hall, hallj]; rfl⟩, ?_, rfl, rfl⟩
    simp only [fwA, ↓reduceIte, Nat.reduceAdd, Nat.reduceMul, Nat.reduceEqDiff, Nat.reduceLT, Nat.reduceLeDiff, reduceCtorEq, List.map_cons, List.map_nil, hwi]
  simp only [hcj, decide_true, ↓reduceIte]
  refine awp_skip ?_
  have hji : j < i := by omega
  have hwj : IntKind.i64.wrap ((j : Int) + 1) = ((j + 1 : Nat) : Int) := wrapS j (by omega)
  have h51 := c59 Γ hΓ ns us hn hi i j hill (by omega)
  have h53 := c66 Γ hΓ ns us hn hw i j hill (by omega)
  have hbj : ((jn us.length (lq us) i j).isSome && (jn us.length (tr (lq us)) i j).isSome) = false → boundP us.length (lq us) = false := fun h => hbad (all_false hji h)
  have hn1 := oI_neg (jn us.length (lq us) i j)
  have hn2 := oI_neg (jn us.length (tr (lq us)) i j)
  refine awp_seq ?_
  refine awp_block ?_
  refine awp_seq ?_
  refine awp_run rfl (by simp only [fwA, ↓reduceIte, Nat.reduceAdd, Nat.reduceMul, Nat.reduceEqDiff, Nat.reduceLT, Nat.reduceLeDiff, reduceCtorEq] <;> rfl) ?_
  refine awp_seq ?_
  generalize hK : H ++ [Blk.box (laC ns us)] = K at g0 ⊢
  cases hj1 : (jn us.length (lq us) i j).isSome
  · rw [hj1] at hn1
    refine awp_region rfl ?_
    refine aops_run 3 (by simp only [fwA, ↓reduceIte, Nat.reduceAdd, Nat.reduceMul, Nat.reduceEqDiff, Nat.reduceLT, Nat.reduceLeDiff, reduceCtorEq, bitfw, List.length_map, List.getElem?_map, Option.map_some, Int.natCast_nonneg, Int.toNat_natCast, decide_true, decide_false, Bool.and_true, Bool.and_self, Bool.not_true, Bool.not_false, Bool.false_and, Bool.true_and, un9, un25, un26, el25, el26, ti9, ti25, ti26, ti28, ti53, un53, un3, ti3, ti4, fl28_0, fl28_1, S1_fw, U1_fw, g0, hn1] <;> rfl) ?_
    refine aops_fn rfl rfl rfl en59 h51 ?_
    refine aops_run 8 (by simp only [fwA, ↓reduceIte, Nat.reduceAdd, Nat.reduceMul, Nat.reduceEqDiff, Nat.reduceLT, Nat.reduceLeDiff, reduceCtorEq, bitfw, List.length_map, List.getElem?_map, Option.map_some, Int.natCast_nonneg, Int.toNat_natCast, decide_true, decide_false, Bool.and_true, Bool.and_self, Bool.not_true, Bool.not_false, Bool.false_and, Bool.true_and, un9, un25, un26, el25, el26, ti9, ti25, ti26, ti28, ti53, un53, un3, ti3, ti4, fl28_0, fl28_1, S1_fw, U1_fw, g0, hn1] <;> rfl) ?_
    refine aops_end ?_
    refine awp_cond (b := true) (by simp [alook, aput, ev]) ?_
    refine awp_seq ?_
    refine awp_run rfl (by simp only [fwA, ↓reduceIte, Nat.reduceAdd, Nat.reduceMul, Nat.reduceEqDiff, Nat.reduceLT, Nat.reduceLeDiff, reduceCtorEq] <;> rfl) ?_
    refine awp_ret ?_
    rw [hbj (by rw [hj1]; rfl)]
    subst hK
    exact gives_end (.inl rfl) _ rfl
  rw [hj1] at hn1
  cases hj2 : (jn us.length (tr (lq us)) i j).isSome
  · rw [hj2] at hn2
    refine awp_region rfl ?_
    refine aops_run 3 (by simp only [fwA, ↓reduceIte, Nat.reduceAdd, Nat.reduceMul, Nat.reduceEqDiff, Nat.reduceLT, Nat.reduceLeDiff, reduceCtorEq, bitfw, List.length_map, List.getElem?_map, Option.map_some, Int.natCast_nonneg, Int.toNat_natCast, decide_true, decide_false, Bool.and_true, Bool.and_self, Bool.not_true, Bool.not_false, Bool.false_and, Bool.true_and, un9, un25, un26, el25, el26, ti9, ti25, ti26, ti28, ti53, un53, un3, ti3, ti4, fl28_0, fl28_1, S1_fw, U1_fw, g0, hn1, hn2] <;> rfl) ?_
    refine aops_fn rfl rfl rfl en59 h51 ?_
    refine aops_run 5 (by simp only [fwA, ↓reduceIte, Nat.reduceAdd, Nat.reduceMul, Nat.reduceEqDiff, Nat.reduceLT, Nat.reduceLeDiff, reduceCtorEq, bitfw, List.length_map, List.getElem?_map, Option.map_some, Int.natCast_nonneg, Int.toNat_natCast, decide_true, decide_false, Bool.and_true, Bool.and_self, Bool.not_true, Bool.not_false, Bool.false_and, Bool.true_and, un9, un25, un26, el25, el26, ti9, ti25, ti26, ti28, ti53, un53, un3, ti3, ti4, fl28_0, fl28_1, S1_fw, U1_fw, g0, hn1, hn2] <;> rfl) ?_
    refine aops_fnIf rfl rfl rfl rfl rfl en66 h53 ?_
    refine aops_run 2 (by simp only [fwA, ↓reduceIte, Nat.reduceAdd, Nat.reduceMul, Nat.reduceEqDiff, Nat.reduceLT, Nat.reduceLeDiff, reduceCtorEq, bitfw, List.length_map, List.getElem?_map, Option.map_some, Int.natCast_nonneg, Int.toNat_natCast, decide_true, decide_false, Bool.and_true, Bool.and_self, Bool.not_true, Bool.not_false, Bool.false_and, Bool.true_and, un9, un25, un26, el25, el26, ti9, ti25, ti26, ti28, ti53, un53, un3, ti3, ti4, fl28_0, fl28_1, S1_fw, U1_fw, g0, hn1, hn2] <;> rfl) ?_
    refine aops_end ?_
    refine awp_cond (b := true) (by simp [alook, aput, ev]) ?_
    refine awp_seq ?_
    refine awp_run rfl (by simp only [fwA, ↓reduceIte, Nat.reduceAdd, Nat.reduceMul, Nat.reduceEqDiff, Nat.reduceLT, Nat.reduceLeDiff, reduceCtorEq] <;> rfl) ?_
    refine awp_ret ?_
    rw [hbj (by rw [hj2, Bool.and_false])]
    subst hK
    exact gives_end (.inl rfl) _ rfl
  rw [hj2] at hn2
  refine awp_region rfl ?_
  refine aops_run 3 (by simp only [fwA, ↓reduceIte, Nat.reduceAdd, Nat.reduceMul, Nat.reduceEqDiff, Nat.reduceLT, Nat.reduceLeDiff, reduceCtorEq, bitfw, List.length_map, List.getElem?_map, Option.map_some, Int.natCast_nonneg, Int.toNat_natCast, decide_true, decide_false, Bool.and_true, Bool.and_self, Bool.not_true, Bool.not_false, Bool.false_and, Bool.true_and, un9, un25, un26, el25, el26, ti9, ti25, ti26, ti28, ti53, un53, un3, ti3, ti4, fl28_0, fl28_1, S1_fw, U1_fw, g0, hn1, hn2] <;> rfl) ?_
  refine aops_fn rfl rfl rfl en59 h51 ?_
  refine aops_run 5 (by simp only [fwA, ↓reduceIte, Nat.reduceAdd, Nat.reduceMul, Nat.reduceEqDiff, Nat.reduceLT, Nat.reduceLeDiff, reduceCtorEq, bitfw, List.length_map, List.getElem?_map, Option.map_some, Int.natCast_nonneg, Int.toNat_natCast, decide_true, decide_false, Bool.and_true, Bool.and_self, Bool.not_true, Bool.not_false, Bool.false_and, Bool.true_and, un9, un25, un26, el25, el26, ti9, ti25, ti26, ti28, ti53, un53, un3, ti3, ti4, fl28_0, fl28_1, S1_fw, U1_fw, g0, hn1, hn2] <;> rfl) ?_
  refine aops_fnIf rfl rfl rfl rfl rfl en66 h53 ?_
  refine aops_run 2 (by simp only [fwA, ↓reduceIte, Nat.reduceAdd, Nat.reduceMul, Nat.reduceEqDiff, Nat.reduceLT, Nat.reduceLeDiff, reduceCtorEq, bitfw, List.length_map, List.getElem?_map, Option.map_some, Int.natCast_nonneg, Int.toNat_natCast, decide_true, decide_false, Bool.and_true, Bool.and_self, Bool.not_true, Bool.not_false, Bool.false_and, Bool.true_and, un9, un25, un26, el25, el26, ti9, ti25, ti26, ti28, ti53, un53, un3, ti3, ti4, fl28_0, fl28_1, S1_fw, U1_fw, g0, hn1, hn2] <;> rfl) ?_
  refine aops_end ?_
  refine awp_cond (b := false) (by simp [alook, aput, ev]) (awp_skip ?_)
  refine awp_run rfl (by simp only [fwA, ↓reduceIte, Nat.reduceAdd, Nat.reduceMul, Nat.reduceEqDiff, Nat.reduceLT, Nat.reduceLeDiff, reduceCtorEq] <;> rfl) ?_
  refine ⟨j + 1, by omega, ⟨by omega, by rw [all_succ, hallj, hj1, hj2]; rfl⟩, ?_, rfl, rfl⟩
  simp only [fwA, ↓reduceIte, Nat.reduceAdd, Nat.reduceMul, Nat.reduceEqDiff, Nat.reduceLT, Nat.reduceLeDiff, reduceCtorEq, List.map_cons, List.map_nil, hwj]

/-- Whether names may be. -/
def namedB (l : List (List UInt8)) : Bool := decide (0 < l.length) && (List.range l.length).all fun k => nameB (l.getD k []) && decide (idxS l (l.getD k []) = (k : Int))

/- chancel/lat.named -/
theorem c51 (Γ : Nat → PV) (l : List (List UInt8)) : Gives Tryd.prog Γ 51 [.vec (l.map S1) false] (.bool (namedB l)) := by
  refine fn_of_awp Tryd.func51 rfl (by simp [Tryd.f51]) rfl fun H => ?_
  refine awp_vlen 0 rfl fun hsl => ?_
  rw [List.length_map] at hsl
  refine awp_seq ?_
  refine awp_run rfl (by simp only [fwA, ↓reduceIte, Nat.reduceAdd, Nat.reduceMul, Nat.reduceEqDiff, Nat.reduceLT, Nat.reduceLeDiff, reduceCtorEq] <;> rfl) ?_
  refine awp_seq ?_
  refine awp_seq ?_
  refine awp_run rfl (by simp only [fwA, ↓reduceIte, Nat.reduceAdd, Nat.reduceMul, Nat.reduceEqDiff, Nat.reduceLT, Nat.reduceLeDiff, reduceCtorEq, bitfw, List.length_map, List.getElem?_map, Option.map_some, Int.natCast_nonneg, Int.toNat_natCast, decide_true, decide_false, Bool.and_true, Bool.and_self, Bool.not_true, Bool.not_false, Bool.false_and, Bool.true_and, un9, un25, un26, el25, el26, ti9, ti25, ti26, ti28, ti53, un53, un3, ti3, ti4, fl28_0, fl28_1, S1_fw, U1_fw] <;> rfl) ?_
  refine awp_block ?_
  refine awp_for [0, 5, 6, 7] (fun i : Nat => [.vec (l.map S1) false, .vec (l.map S1) false, .int .i64 (l.length : Int), .int .i64 (i : Int)]) (fun _ => H) (fun i => l.length - i) (fun i => i ≤ l.length ∧ ((List.range i).all fun k => nameB (l.getD k []) && decide (idxS l (l.getD k []) = (k : Int))) = true) 0 rfl rfl ⟨Nat.zero_le _, rfl⟩ fun i hs => ?_
  obtain ⟨hil, hall⟩ := hs
  refine awp_seq ?_
  refine awp_run rfl (by simp only [fwA, ↓reduceIte, Nat.reduceAdd, Nat.reduceMul, Nat.reduceEqDiff, Nat.reduceLT, Nat.reduceLeDiff, reduceCtorEq, bitfw, List.length_map, List.getElem?_map, Option.map_some, Int.natCast_nonneg, Int.toNat_natCast, decide_true, decide_false, Bool.and_true, Bool.and_self, Bool.not_true, Bool.not_false, Bool.false_and, Bool.true_and, un9, un25, un26, el25, el26, ti9, ti25, ti26, ti28, ti53, un53, un3, ti3, ti4, fl28_0, fl28_1, S1_fw, U1_fw] <;> rfl) ?_
  refine awp_seq ?_
  refine awp_cond (by simp only [fwA, ↓reduceIte, Nat.reduceAdd, Nat.reduceMul, Nat.reduceEqDiff, Nat.reduceLT, Nat.reduceLeDiff, reduceCtorEq] <;> rfl) ?_
  by_cases hc : (i : Int) < l.length
  rotate_left
  · simp only [hc, decide_false, Bool.false_eq_true, ↓reduceIte]
    refine awp_exit ?_
    have e : i = l.length := by omega
    subst e
    refine awp_seq ?_
    refine awp_run rfl (by simp only [fwA, ↓reduceIte, Nat.reduceAdd, Nat.reduceMul, Nat.reduceEqDiff, Nat.reduceLT, Nat.reduceLeDiff, reduceCtorEq, bitfw, List.length_map, List.getElem?_map, Option.map_some, Int.natCast_nonneg, Int.toNat_natCast, decide_true, decide_false, Bool.and_true, Bool.and_self, Bool.not_true, Bool.not_false, Bool.false_and, Bool.true_and, un9, un25, un26, el25, el26, ti9, ti25, ti26, ti28, ti53, un53, un3, ti3, ti4, fl28_0, fl28_1, S1_fw, U1_fw] <;> rfl) ?_
    refine awp_ret ?_
    have e2 : decide ((0 : Int) < (l.length : Int)) = decide (0 < l.length) := decide_eq_decide.2 (by omega)
    exact gives_end0 (.inl rfl) (by unfold namedB; rw [hall, ← e2, Bool.and_true]; rfl)
  simp only [hc, decide_true, ↓reduceIte]
  refine awp_skip ?_
  have hill : i < l.length := by omega
  have ga : l[i]? = some l[i] := List.getElem?_eq_getElem hill
  have gd : l.getD i [] = l[i] := by rw [List.getD_eq_getElem?_getD, ga]; rfl
  have hwi : IntKind.i64.wrap ((i : Int) + 1) = ((i + 1 : Nat) : Int) := wrapS i (by omega)
  have hbad : (nameB (l.getD i []) && decide (idxS l (l.getD i []) = (i : Int))) = false → namedB l = false := fun h => by
    unfold namedB
    rw [all_false hill h, Bool.and_false]
  rw [gd] at hbad
  have hst : ((List.range (i + 1)).all fun k => nameB (l.getD k []) && decide (idxS l (l.getD k []) = (k : Int))) = (nameB l[i] && decide (idxS l l[i] = (i : Int))) := by rw [all_succ, hall, gd]; rfl
  generalize l[i] = s at ga hbad hst
  have h19 := c62 Γ s
  have h50 := c63 Γ l s
  refine awp_seq ?_
  refine awp_block ?_
  refine awp_seq ?_
  refine awp_run rfl (by simp only [fwA, ↓reduceIte, Nat.reduceAdd, Nat.reduceMul, Nat.reduceEqDiff, Nat.reduceLT, Nat.reduceLeDiff, reduceCtorEq, bitfw, List.length_map, List.getElem?_map, Option.map_some, Int.natCast_nonneg, Int.toNat_natCast, decide_true, decide_false, Bool.and_true, Bool.and_self, Bool.not_true, Bool.not_false, Bool.false_and, Bool.true_and, un9, un25, un26, el25, el26, ti9, ti25, ti26, ti28, ti53, un53, un3, ti3, ti4, fl28_0, fl28_1, S1_fw, U1_fw, ga] <;> rfl) ?_
  refine awp_seq ?_
  cases hs1 : nameB s
  · rw [hs1] at h19
    refine awp_region rfl ?_
    refine aops_run 1 (by simp only [fwA, ↓reduceIte, Nat.reduceAdd, Nat.reduceMul, Nat.reduceEqDiff, Nat.reduceLT, Nat.reduceLeDiff, reduceCtorEq, bitfw, List.length_map, List.getElem?_map, Option.map_some, Int.natCast_nonneg, Int.toNat_natCast, decide_true, decide_false, Bool.and_true, Bool.and_self, Bool.not_true, Bool.not_false, Bool.false_and, Bool.true_and, un9, un25, un26, el25, el26, ti9, ti25, ti26, ti28, ti53, un53, un3, ti3, ti4, fl28_0, fl28_1, S1_fw, U1_fw] <;> rfl) ?_
    refine aops_fn rfl rfl rfl en62 h19 ?_
    refine aops_run 8 (by simp only [fwA, ↓reduceIte, Nat.reduceAdd, Nat.reduceMul, Nat.reduceEqDiff, Nat.reduceLT, Nat.reduceLeDiff, reduceCtorEq, bitfw, List.length_map, List.getElem?_map, Option.map_some, Int.natCast_nonneg, Int.toNat_natCast, decide_true, decide_false, Bool.and_true, Bool.and_self, Bool.not_true, Bool.not_false, Bool.false_and, Bool.true_and, un9, un25, un26, el25, el26, ti9, ti25, ti26, ti28, ti53, un53, un3, ti3, ti4, fl28_0, fl28_1, S1_fw, U1_fw] <;> rfl) ?_
    refine aops_end ?_
    refine awp_cond (b := true) (by simp [alook, aput, ev]) ?_
    refine awp_seq ?_
    refine awp_run rfl (by simp only [fwA, ↓reduceIte, Nat.reduceAdd, Nat.reduceMul, Nat.reduceEqDiff, Nat.reduceLT, Nat.reduceLeDiff, reduceCtorEq] <;> rfl) ?_
    refine awp_ret ?_
    rw [hbad (by rw [hs1]; rfl)]
    exact gives_end0 (.inl rfl) rfl
  rw [hs1] at h19
  by_cases hk : idxS l s = (i : Int)
  · refine awp_region rfl ?_
    refine aops_run 1 (by simp only [fwA, ↓reduceIte, Nat.reduceAdd, Nat.reduceMul, Nat.reduceEqDiff, Nat.reduceLT, Nat.reduceLeDiff, reduceCtorEq, bitfw, List.length_map, List.getElem?_map, Option.map_some, Int.natCast_nonneg, Int.toNat_natCast, decide_true, decide_false, Bool.and_true, Bool.and_self, Bool.not_true, Bool.not_false, Bool.false_and, Bool.true_and, un9, un25, un26, el25, el26, ti9, ti25, ti26, ti28, ti53, un53, un3, ti3, ti4, fl28_0, fl28_1, S1_fw, U1_fw, hk] <;> rfl) ?_
    refine aops_fn rfl rfl rfl en62 h19 ?_
    refine aops_run 4 (by simp only [fwA, ↓reduceIte, Nat.reduceAdd, Nat.reduceMul, Nat.reduceEqDiff, Nat.reduceLT, Nat.reduceLeDiff, reduceCtorEq, bitfw, List.length_map, List.getElem?_map, Option.map_some, Int.natCast_nonneg, Int.toNat_natCast, decide_true, decide_false, Bool.and_true, Bool.and_self, Bool.not_true, Bool.not_false, Bool.false_and, Bool.true_and, un9, un25, un26, el25, el26, ti9, ti25, ti26, ti28, ti53, un53, un3, ti3, ti4, fl28_0, fl28_1, S1_fw, U1_fw, hk] <;> rfl) ?_
    refine aops_fnIf rfl rfl rfl rfl rfl en63 h50 ?_
    refine aops_run 3 (by simp only [fwA, ↓reduceIte, Nat.reduceAdd, Nat.reduceMul, Nat.reduceEqDiff, Nat.reduceLT, Nat.reduceLeDiff, reduceCtorEq, bitfw, List.length_map, List.getElem?_map, Option.map_some, Int.natCast_nonneg, Int.toNat_natCast, decide_true, decide_false, Bool.and_true, Bool.and_self, Bool.not_true, Bool.not_false, Bool.false_and, Bool.true_and, un9, un25, un26, el25, el26, ti9, ti25, ti26, ti28, ti53, un53, un3, ti3, ti4, fl28_0, fl28_1, S1_fw, U1_fw, hk] <;> rfl) ?_
    refine aops_end ?_
    refine awp_cond (b := false) (by simp [alook, aput, ev]) (awp_skip ?_)
    refine awp_run rfl (by simp only [fwA, ↓reduceIte, Nat.reduceAdd, Nat.reduceMul, Nat.reduceEqDiff, Nat.reduceLT, Nat.reduceLeDiff, reduceCtorEq] <;> rfl) ?_
    refine ⟨i + 1, by omega, ⟨by omega, by rw [hst, hs1, decide_eq_true hk]; rfl⟩, ?_, rfl, rfl⟩
    simp only [fwA, ↓reduceIte, Nat.reduceAdd, Nat.reduceMul, Nat.reduceEqDiff, Nat.reduceLT, Nat.reduceLeDiff, reduceCtorEq, List.map_cons, List.map_nil, hwi]
  · refine awp_region rfl ?_
    refine aops_run 1 (by simp only [fwA, ↓reduceIte, Nat.reduceAdd, Nat.reduceMul, Nat.reduceEqDiff, Nat.reduceLT, Nat.reduceLeDiff, reduceCtorEq, bitfw, List.length_map, List.getElem?_map, Option.map_some, Int.natCast_nonneg, Int.toNat_natCast, decide_true, decide_false, Bool.and_true, Bool.and_self, Bool.not_true, Bool.not_false, Bool.false_and, Bool.true_and, un9, un25, un26, el25, el26, ti9, ti25, ti26, ti28, ti53, un53, un3, ti3, ti4, fl28_0, fl28_1, S1_fw, U1_fw, hk] <;> rfl) ?_
    refine aops_fn rfl rfl rfl en62 h19 ?_
    refine aops_run 4 (by simp only [fwA, ↓reduceIte, Nat.reduceAdd, Nat.reduceMul, Nat.reduceEqDiff, Nat.reduceLT, Nat.reduceLeDiff, reduceCtorEq, bitfw, List.length_map, List.getElem?_map, Option.map_some, Int.natCast_nonneg, Int.toNat_natCast, decide_true, decide_false, Bool.and_true, Bool.and_self, Bool.not_true, Bool.not_false, Bool.false_and, Bool.true_and, un9, un25, un26, el25, el26, ti9, ti25, ti26, ti28, ti53, un53, un3, ti3, ti4, fl28_0, fl28_1, S1_fw, U1_fw, hk] <;> rfl) ?_
    refine aops_fnIf rfl rfl rfl rfl rfl en63 h50 ?_
    refine aops_run 3 (by simp only [fwA, ↓reduceIte, Nat.reduceAdd, Nat.reduceMul, Nat.reduceEqDiff, Nat.reduceLT, Nat.reduceLeDiff, reduceCtorEq, bitfw, List.length_map, List.getElem?_map, Option.map_some, Int.natCast_nonneg, Int.toNat_natCast, decide_true, decide_false, Bool.and_true, Bool.and_self, Bool.not_true, Bool.not_false, Bool.false_and, Bool.true_and, un9, un25, un26, el25, el26, ti9, ti25, ti26, ti28, ti53, un53, un3, ti3, ti4, fl28_0, fl28_1, S1_fw, U1_fw, hk] <;> rfl) ?_
    refine aops_end ?_
    refine awp_cond (b := true) (by simp [alook, aput, ev]) ?_
    refine awp_seq ?_
    refine awp_run rfl (by simp only [fwA, ↓reduceIte, Nat.reduceAdd, Nat.reduceMul, Nat.reduceEqDiff, Nat.reduceLT, Nat.reduceLeDiff, reduceCtorEq] <;> rfl) ?_
    refine awp_ret ?_
    rw [hbad (by rw [decide_eq_false hk, Bool.and_false])]
    exact gives_end0 (.inl rfl) rfl

/-- The first word that is so. -/
def idxF (q : Nat → Bool) (us : List Nat) : Int := match us.findIdx? q with | some k => (k : Int) | none => -1
theorem idxF_none {q : Nat → Bool} {us : List Nat} (h : ∀ j x, j < us.length → us[j]? = some x → q x = false) : idxF q us = -1 := by
  unfold idxF
  have : us.findIdx? q = none := by
    rw [List.findIdx?_eq_none_iff]
    intro x hx
    obtain ⟨j, hj⟩ := List.getElem?_of_mem hx
    exact h j x (List.getElem?_eq_some_iff.1 hj).1 hj
  rw [this]
theorem idxF_some {q : Nat → Bool} {us : List Nat} {i x : Nat} (h : ∀ j y, j < i → us[j]? = some y → q y = false) (hi : us[i]? = some x) (hq : q x = true) : idxF q us = i := by
  unfold idxF
  have : us.findIdx? q = some i := by
    obtain ⟨h1, rfl⟩ := List.getElem?_eq_some_iff.1 hi
    rw [List.findIdx?_eq_some_iff_getElem]
    refine ⟨h1, hq, fun j hj => ?_⟩
    rw [h j _ hj (List.getElem?_eq_getElem (by omega))]; simp
  rw [this]
theorem idxF_lt {q : Nat → Bool} {us : List Nat} : decide (0 ≤ idxF q us) = us.any q := by
  unfold idxF
  cases h : us.findIdx? q with
  | none =>
    rw [List.findIdx?_eq_none_iff] at h
    have : us.any q = false := List.any_eq_false.2 fun x hx => by rw [h x hx]; simp
    rw [this]; rfl
  | some k =>
    obtain ⟨h1, h2, _⟩ := List.findIdx?_eq_some_iff_getElem.1 h
    have : us.any q = true := List.any_eq_true.2 ⟨_, List.getElem_mem h1, h2⟩
    rw [this]; simp

/- slices.IndexFunc at words -/
theorem c39 (Γ : Nat → PV) (f : Nat) (he : Enters Tryd.prog f) (caps : List PV) (q : Nat → Bool) (us : List Nat) (H : List Blk) (hf : ∀ x ∈ us, ACalls Tryd.prog Γ f (.int .u64 (x : Int) :: caps) H (fun p H' => p = .bool (q x) ∧ H' = H)) :
    ACalls Tryd.prog Γ 39 [.vec (us.map U1) false, .func (.func f) [] caps] H (fun p H' => p = .int .i64 (idxF q us) ∧ H' = H) := by
  refine acalls_of_awp Tryd.func39 rfl (by simp [Tryd.f39]) fun hbd => ?_
  refine awp_vlen 0 rfl fun hsl => ?_
  rw [List.length_map] at hsl
  refine awp_seq ?_
  refine awp_run rfl (by simp only [fwA, ↓reduceIte, Nat.reduceAdd, Nat.reduceMul, Nat.reduceEqDiff, Nat.reduceLT, Nat.reduceLeDiff, reduceCtorEq] <;> rfl) ?_
  refine awp_seq ?_
  refine awp_seq ?_
  refine awp_run rfl (by simp only [fwA, ↓reduceIte, Nat.reduceAdd, Nat.reduceMul, Nat.reduceEqDiff, Nat.reduceLT, Nat.reduceLeDiff, reduceCtorEq, bitfw, List.length_map, List.getElem?_map, Option.map_some, Int.natCast_nonneg, Int.toNat_natCast, decide_true, decide_false, Bool.and_true, Bool.and_self, Bool.not_true, Bool.not_false, Bool.false_and, Bool.true_and, un9, un25, un26, el25, el26, ti9, ti25, ti26, ti28, ti53, un53, un3, ti3, ti4, fl28_0, fl28_1, S1_fw, U1_fw] <;> rfl) ?_
  refine awp_block ?_
  refine awp_for [0, 1, 7, 8] (fun i : Nat => [.vec (us.map U1) false, .func (.func f) [] caps, .int .i64 (us.length : Int), .int .i64 (i : Int)]) (fun _ => H) (fun i => us.length - i) (fun i => i ≤ us.length ∧ ∀ j y, j < i → us[j]? = some y → q y = false) 0 rfl rfl ⟨Nat.zero_le _, fun j y hj => by omega⟩ fun i hs => ?_
  obtain ⟨hil, hno⟩ := hs
  refine awp_seq ?_
  refine awp_run rfl (by simp only [fwA, ↓reduceIte, Nat.reduceAdd, Nat.reduceMul, Nat.reduceEqDiff, Nat.reduceLT, Nat.reduceLeDiff, reduceCtorEq, bitfw, List.length_map, List.getElem?_map, Option.map_some, Int.natCast_nonneg, Int.toNat_natCast, decide_true, decide_false, Bool.and_true, Bool.and_self, Bool.not_true, Bool.not_false, Bool.false_and, Bool.true_and, un9, un25, un26, el25, el26, ti9, ti25, ti26, ti28, ti53, un53, un3, ti3, ti4, fl28_0, fl28_1, S1_fw, U1_fw] <;> rfl) ?_
  refine awp_seq ?_
  refine awp_cond (by simp only [fwA, ↓reduceIte, Nat.reduceAdd, Nat.reduceMul, Nat.reduceEqDiff, Nat.reduceLT, Nat.reduceLeDiff, reduceCtorEq] <;> rfl) ?_
  by_cases hc : (i : Int) < us.length
  rotate_left
  · simp only [hc, decide_false, Bool.false_eq_true, ↓reduceIte]
    refine awp_exit ?_
    have e : i = us.length := by omega
    subst e
    refine awp_seq ?_
    refine awp_run rfl (by simp only [fwA, ↓reduceIte, Nat.reduceAdd, Nat.reduceMul, Nat.reduceEqDiff, Nat.reduceLT, Nat.reduceLeDiff, reduceCtorEq] <;> rfl) ?_
    refine awp_ret ?_
    exact calls_end0 (p := .int .i64 (idxF q us)) (.inl rfl) hbd (by rw [idxF_none hno]; rfl) rfl ⟨rfl, rfl⟩
  simp only [hc, decide_true, ↓reduceIte]
  refine awp_skip ?_
  have hill : i < us.length := by omega
  have ga : us[i]? = some us[i] := List.getElem?_eq_getElem hill
  have hfx := hf us[i] (List.getElem_mem hill)
  generalize us[i] = x at ga hfx
  have hwi : IntKind.i64.wrap ((i : Int) + 1) = ((i + 1 : Nat) : Int) := wrapS i (by omega)
  refine awp_seq ?_
  refine awp_block ?_
  refine awp_seq ?_
  refine awp_run rfl (by simp only [fwA, ↓reduceIte, Nat.reduceAdd, Nat.reduceMul, Nat.reduceEqDiff, Nat.reduceLT, Nat.reduceLeDiff, reduceCtorEq] <;> rfl) ?_
  refine awp_seq ?_
  refine awp_region rfl ?_
  refine aops_run 5 (by simp only [fwA, ↓reduceIte, Nat.reduceAdd, Nat.reduceMul, Nat.reduceEqDiff, Nat.reduceLT, Nat.reduceLeDiff, reduceCtorEq, bitfw, List.length_map, List.getElem?_map, Option.map_some, Int.natCast_nonneg, Int.toNat_natCast, decide_true, decide_false, Bool.and_true, Bool.and_self, Bool.not_true, Bool.not_false, Bool.false_and, Bool.true_and, un9, un25, un26, el25, el26, ti9, ti25, ti26, ti28, ti53, un53, un3, ti3, ti4, fl28_0, fl28_1, S1_fw, U1_fw, ga] <;> rfl) ?_
  refine aops_call rfl rfl rfl he (hfx.mono fun p H' hp => ?_)
  obtain ⟨rfl, e⟩ := hp
  rw [e]
  refine aops_end ?_
  refine awp_cond (by simp only [fwA, ↓reduceIte, Nat.reduceAdd, Nat.reduceMul, Nat.reduceEqDiff, Nat.reduceLT, Nat.reduceLeDiff, reduceCtorEq] <;> rfl) ?_
  cases hq : q x
  · simp only [Bool.false_eq_true, ↓reduceIte]
    refine awp_skip ?_
    refine awp_run rfl (by simp only [fwA, ↓reduceIte, Nat.reduceAdd, Nat.reduceMul, Nat.reduceEqDiff, Nat.reduceLT, Nat.reduceLeDiff, reduceCtorEq] <;> rfl) ?_
    refine ⟨i + 1, by omega, ⟨by omega, fun j y hj hy => ?_⟩, ?_, rfl, rfl⟩
    · by_cases hji : j = i
      · subst hji; rw [ga] at hy; cases hy; exact hq
      · exact hno j y (by omega) hy
    · simp only [fwA, ↓reduceIte, Nat.reduceAdd, Nat.reduceMul, Nat.reduceEqDiff, Nat.reduceLT, Nat.reduceLeDiff, reduceCtorEq, List.map_cons, List.map_nil, hwi]
  · simp only [↓reduceIte]
    refine awp_seq ?_
    refine awp_run rfl (by simp only [fwA, ↓reduceIte, Nat.reduceAdd, Nat.reduceMul, Nat.reduceEqDiff, Nat.reduceLT, Nat.reduceLeDiff, reduceCtorEq] <;> rfl) ?_
    refine awp_ret ?_
    simp only [Post.block, Post.then]
    exact calls_end0 (p := .int .i64 (idxF q us)) (.inl rfl) hbd (by rw [idxF_some hno ga hq]; rfl) rfl ⟨rfl, rfl⟩

/- slices.ContainsFunc at words -/
theorem c53 (Γ : Nat → PV) (f : Nat) (he : Enters Tryd.prog f) (caps : List PV) (q : Nat → Bool) (us : List Nat) (H : List Blk) (hf : ∀ x ∈ us, ACalls Tryd.prog Γ f (.int .u64 (x : Int) :: caps) H (fun p H' => p = .bool (q x) ∧ H' = H)) :
    ACalls Tryd.prog Γ 53 [.vec (us.map U1) false, .func (.func f) [] caps] H (fun p H' => p = .bool (us.any q) ∧ H' = H) := by
  refine acalls_of_awp Tryd.func53 rfl (by simp [Tryd.f53]) fun hbd => ?_
  refine awp_seq ?_
  refine awp_run rfl (by simp only [fwA, ↓reduceIte, Nat.reduceAdd, Nat.reduceMul, Nat.reduceEqDiff, Nat.reduceLT, Nat.reduceLeDiff, reduceCtorEq] <;> rfl) ?_
  refine awp_seq ?_
  refine awp_region rfl ?_
  refine aops_run 2 (by simp only [fwA, ↓reduceIte, Nat.reduceAdd, Nat.reduceMul, Nat.reduceEqDiff, Nat.reduceLT, Nat.reduceLeDiff, reduceCtorEq, bitfw, List.length_map, List.getElem?_map, Option.map_some, Int.natCast_nonneg, Int.toNat_natCast, decide_true, decide_false, Bool.and_true, Bool.and_self, Bool.not_true, Bool.not_false, Bool.false_and, Bool.true_and, un9, un25, un26, el25, el26, ti9, ti25, ti26, ti28, ti53, un53, un3, ti3, ti4, fl28_0, fl28_1, S1_fw, U1_fw] <;> rfl) ?_
  refine aops_call rfl rfl rfl en39 ((c39 Γ f he caps q us H hf).mono fun p H' hp => ?_)
  obtain ⟨rfl, rfl⟩ := hp
  refine aops_run 2 (by simp only [fwA, ↓reduceIte, Nat.reduceAdd, Nat.reduceMul, Nat.reduceEqDiff, Nat.reduceLT, Nat.reduceLeDiff, reduceCtorEq, bitfw, List.length_map, List.getElem?_map, Option.map_some, Int.natCast_nonneg, Int.toNat_natCast, decide_true, decide_false, Bool.and_true, Bool.and_self, Bool.not_true, Bool.not_false, Bool.false_and, Bool.true_and, un9, un25, un26, el25, el26, ti9, ti25, ti26, ti28, ti53, un53, un3, ti3, ti4, fl28_0, fl28_1, S1_fw, U1_fw] <;> rfl) ?_
  refine aops_end ?_
  refine awp_ret ?_
  exact calls_end0 (p := .bool (us.any q)) (.inl rfl) hbd (by rw [← idxF_lt]; rfl) rfl ⟨rfl, rfl⟩

/- chancel/lat.Right's test of a row -/
theorem c52 (Γ : Nat → PV) (ns : List (List UInt8)) (us : List Nat) (hn : us.length ≤ 64) (x : Nat) (hx : x < 2 ^ 64) (H : List Blk) (b : Nat) (hb : H[b]? = some (.box [.vec (ns.map S1) false, .vec (us.map U1) false])) :
    ACalls Tryd.prog Γ 52 [.int .u64 (x : Int), .ptr b 0] H (fun p H' => p = .bool (!decide (x < 2 ^ us.length)) ∧ H' = H) := by
  have h45 := c43 Γ ns us hn
  have hz := all_zero hn hx
  refine acalls_of_awp Tryd.func52 rfl (by simp [Tryd.f52]) fun hbd => ?_
  refine awp_seq ?_
  refine awp_run rfl (by simp only [fwA, ↓reduceIte, Nat.reduceAdd, Nat.reduceMul, Nat.reduceEqDiff, Nat.reduceLT, Nat.reduceLeDiff, reduceCtorEq] <;> rfl) ?_
  refine awp_seq ?_
  refine awp_region rfl ?_
  refine aops_run 2 (by simp only [fwA, ↓reduceIte, Nat.reduceAdd, Nat.reduceMul, Nat.reduceEqDiff, Nat.reduceLT, Nat.reduceLeDiff, reduceCtorEq, bitfw, List.length_map, List.getElem?_map, Option.map_some, Int.natCast_nonneg, Int.toNat_natCast, decide_true, decide_false, Bool.and_true, Bool.and_self, Bool.not_true, Bool.not_false, Bool.false_and, Bool.true_and, un9, un25, un26, el25, el26, ti9, ti25, ti26, ti28, ti53, un53, un3, ti3, ti4, fl28_0, fl28_1, S1_fw, U1_fw, hb, uAndn, hz] <;> rfl) ?_
  refine aops_fn rfl rfl rfl en43 h45 ?_
  refine aops_run 3 (by simp only [fwA, ↓reduceIte, Nat.reduceAdd, Nat.reduceMul, Nat.reduceEqDiff, Nat.reduceLT, Nat.reduceLeDiff, reduceCtorEq, bitfw, List.length_map, List.getElem?_map, Option.map_some, Int.natCast_nonneg, Int.toNat_natCast, decide_true, decide_false, Bool.and_true, Bool.and_self, Bool.not_true, Bool.not_false, Bool.false_and, Bool.true_and, un9, un25, un26, el25, el26, ti9, ti25, ti26, ti28, ti53, un53, un3, ti3, ti4, fl28_0, fl28_1, S1_fw, U1_fw, hb, uAndn, hz] <;> rfl) ?_
  refine aops_end ?_
  refine awp_ret ?_
  exact calls_end0 (p := .bool (!decide (x < 2 ^ us.length))) (.inl rfl) hbd rfl rfl ⟨rfl, rfl⟩

end Go.Proofs.YtpkpbfemglmejaaDoor

/- Plain laws of what is a lattice: its bounds as they are looked for. -/
namespace Go.Proofs.YtpkpbfemglmejaaDoor
set_option linter.unusedVariables false
set_option linter.unusedSimpArgs false
set_option maxRecDepth 100000
open Go

/-- Whether it is a lattice. -/
def rightB (ns : List (List UInt8)) (us : List Nat) : Bool := decide (ns.length ≤ 64) && decide (us.length = ns.length) && namedB ns && (us.all (fun x => decide (x < 2 ^ us.length)) && (ordB us.length (lq us) && boundB us.length (lq us)))
theorem right_spec {ns : List (List UInt8)} {us : List Nat} (h : rightB ns us = true) : ns.length ≤ 64 ∧ us.length = ns.length ∧ namedB ns = true ∧ Inn us.length us ∧ Latt us.length (lq us) := by
  unfold rightB at h
  simp only [Bool.and_eq_true, decide_eq_true_eq, List.all_eq_true] at h
  obtain ⟨⟨⟨h1, h2⟩, h3⟩, h4, h5⟩ := h
  refine ⟨h1, h2, h3, h4, (latt_iff ?_).1 h5⟩
  unfold namedB at h3
  simp only [Bool.and_eq_true, decide_eq_true_eq] at h3
  omega
theorem bot_idx {us : List Nat} (hi : Inn us.length us) (h : Latt us.length (lq us)) : idxF (fun x => decide (2 ^ us.length - 1 = x)) us = oI (foldM us.length (lq us) us.length) := by
  obtain ⟨b, h1, hb⟩ := h.bot
  rw [h1]
  have key : ∀ j x, us[j]? = some x → (2 ^ us.length - 1 = x ↔ IsBot us.length (lq us) j) := fun j x hx => by
    have hd : us.getD j 0 = x := by rw [List.getD_eq_getElem?_getD, hx]; rfl
    have hxn := getD_lt hi j
    rw [hd] at hxn
    constructor
    · intro e
      refine ⟨(List.getElem?_eq_some_iff.1 hx).1, fun z hz => ?_⟩
      unfold lq
      rw [hd, ← e, Nat.testBit_two_pow_sub_one]
      exact decide_eq_true hz
    · intro hbot
      refine Nat.eq_of_testBit_eq fun z => ?_
      rw [Nat.testBit_two_pow_sub_one]
      by_cases hz : z < us.length
      · have := hbot.2 z hz
        unfold lq at this
        rw [hd] at this
        rw [this, decide_eq_true hz]
      · rw [decide_eq_false hz, Nat.testBit_lt_two_pow (Nat.lt_of_lt_of_le hxn (Nat.pow_le_pow_right (by decide) (by omega)))]
  have hbl : b < us.length := hb.1
  have gb : us[b]? = some us[b] := List.getElem?_eq_getElem hbl
  refine idxF_some (fun j y hj hy => decide_eq_false fun e => ?_) gb (decide_eq_true ((key b _ gb).2 hb))
  have := isBot_uniq h.toOrd ((key j y hy).1 e) hb
  omega
theorem tr_tr (r : Nat → Nat → Bool) : tr (tr r) = r := rfl
theorem top_idx {us : List Nat} (hn : us.length ≤ 64) (hi : Inn us.length us) (h : Latt us.length (lq us)) : idxF (fun x => decide ((bitsOf x).length = 1)) us = oI (foldM us.length (tr (lq us)) us.length) := by
  obtain ⟨t, h1, ht⟩ := h.tr.bot
  rw [h1]
  have hget : ∀ j x, us[j]? = some x → us.getD j 0 = x ∧ x < 2 ^ 64 := fun j x hx => by
    have hd : us.getD j 0 = x := by rw [List.getD_eq_getElem?_getD, hx]; rfl
    have hxn := getD_lt hi j
    rw [hd] at hxn
    exact ⟨hd, le64 hn hxn⟩
  have htl : t < us.length := ht.1
  have gt : us[t]? = some us[t] := List.getElem?_eq_getElem htl
  refine idxF_some (fun j y hj hy => decide_eq_false fun e => ?_) gt (decide_eq_true ?_)
  · obtain ⟨hd, hy64⟩ := hget j y hy
    have hjn := (List.getElem?_eq_some_iff.1 hy).1
    have a1 : j ∈ bitsOf y := (mem_bitsOf hy64).2 (by have := h.refl j hjn; unfold lq at this; rwa [hd] at this)
    have a2 : t ∈ bitsOf y := (mem_bitsOf hy64).2 (by have := ht.2 j hjn; unfold tr lq at this; rwa [hd] at this)
    obtain ⟨c, hc⟩ := List.length_eq_one_iff.1 e
    rw [hc, List.mem_singleton] at a1 a2
    omega
  · obtain ⟨hd, hy64⟩ := hget t _ gt
    have : bitsOf us[t] = [t] := by
      refine rise_uniq _ _ (bitsOf_rise _) (by simp) fun z => ?_
      rw [mem_bitsOf hy64, List.mem_singleton, ← hd]
      constructor
      · intro hz
        have hzn := bit_lt (getD_lt hi t) hz
        exact h.anti z t hzn ht.1 (ht.2 z hzn) hz
      · rintro rfl
        exact h.refl z ht.1
    rw [this]; rfl

end Go.Proofs.YtpkpbfemglmejaaDoor
