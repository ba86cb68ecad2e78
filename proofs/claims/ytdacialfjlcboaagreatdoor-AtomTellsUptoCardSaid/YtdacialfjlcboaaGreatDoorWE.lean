/- What chapter 10 speaks of: atoms, pairs, and how they lie in memory. -/
import Derived.Test.YtdacialfjlcboaaGreatDoorWB
import Derived.Test.YtdacialfjlcboaaGreatDoorProg
import Derived.Shelf.GgSortFunc.RowK
import Derived.Sort.Row
import Derived.Shelf.SlicesG.Cmp
import Derived.Shelf.SortM.Plain
import Derived.Shelf.SortM.SortNone
import Derived.Shelf.SlSortCmp.NoneTotal
import Derived.Shelf.Strconv.Itoa4
import Derived.Lib.ItoaLen
import Derived.Shelf.Strings.OnBuilder
import Derived.Test.YtdacialfjlcboaaGreatDoorWD
namespace Go.Proofs.YtdacialfjlcboaaGreatDoor
set_option linter.unusedVariables false
set_option linter.unusedSimpArgs false
set_option maxRecDepth 100000
open Go.RowKit Fw

theorem flatten_enc {X : Type} (enc : X → List PV) (l : List X) (i : Nat) (x : X) (h : l[i]? = some x) : ((l.take (i + 1)).map enc).flatten = ((l.take i).map enc).flatten ++ enc x := by
  rw [List.take_add_one, h]; simp

theorem flat_len {X : Type} {enc : X → List PV} {sz : Nat} (h : ∀ x, (enc x).length = sz) (l : List X) : ((l.map enc).flatten).length = l.length * sz := by
  rw [flatten_len (sz := sz) (fun e he => by obtain ⟨x, _, rfl⟩ := List.mem_map.1 he; exact h x), List.length_map]

theorem flat_chunk {X : Type} {enc : X → List PV} {sz : Nat} (h : ∀ x, (enc x).length = sz) (l : List X) : chunk sz l.length ((l.map enc).flatten) = l.map enc := by
  have := chunk_flatten (sz := sz) (es := l.map enc) (fun e he => by obtain ⟨x, _, rfl⟩ := List.mem_map.1 he; exact h x)
  rwa [List.length_map] at this

theorem flat_bd {X : Type} {enc : X → List PV} {m : Nat} (h : ∀ x, PV.bdL m (enc x) = true) (l : List X) : PV.bdL m ((l.map enc).flatten) = true := by
  induction l with
  | nil => rfl
  | cons x l ih => rw [List.map_cons, List.flatten_cons, PV.bdL_append, h, ih]; rfl

def I64 (n : Int) : Prop := -9223372036854775808 ≤ n ∧ n ≤ 9223372036854775807
theorem wrapId {a : Int} (h : I64 a) : IntKind.i64.wrap a = a := by
  obtain ⟨h1, h2⟩ := h
  unfold IntKind.wrap
  have hb : IntKind.i64.bits = 64 := rfl
  have hsg : IntKind.i64.signed = true := rfl
  simp only [hb, hsg, Bool.true_and, decide_eq_true_eq]
  split <;> omega
theorem wrapS (n : Nat) (h : n + 1 < 9223372036854775808) : IntKind.i64.wrap ((n : Int) + 1) = ((n + 1 : Nat) : Int) := by
  rw [wrapId ⟨by omega, by omega⟩]; omega

/-- A pair of atoms. -/
structure Pr where
  a : Int
  b : Int
deriving DecidableEq, Inhabited
namespace Pr
def enc (p : Pr) : List PV := [.int .i64 p.a, .int .i64 p.b]
theorem enc_len (p : Pr) : p.enc.length = 2 := rfl
theorem fw : (∀ p : Pr, p.enc.length = 2) ∧ (∀ p : Pr, p.enc[0]? = some (.int .i64 p.a)) ∧ (∀ p : Pr, p.enc[1]? = some (.int .i64 p.b)) ∧ (∀ p : Pr, p.enc.drop 1 = [.int .i64 p.b]) ∧ (∀ p : Pr, p.enc.take 2 = p.enc) ∧ (∀ (m : Nat) (p : Pr), PV.bdL m p.enc = true) :=
  ⟨fun _ => rfl, fun _ => rfl, fun _ => rfl, fun _ => rfl, fun _ => rfl, fun _ _ => rfl⟩
end Pr
def I1 (n : Int) : List PV := [.int .i64 n]
theorem I1_len (n : Int) : (I1 n).length = 1 := rfl
theorem I1_fw : (∀ n, (I1 n).length = 1) ∧ (∀ n, (I1 n)[0]? = some (.int .i64 n)) ∧ (∀ (m : Nat) n, PV.bdL m (I1 n) = true) := ⟨fun _ => rfl, fun _ => rfl, fun _ _ => rfl⟩

end Go.Proofs.YtdacialfjlcboaaGreatDoor

/- Facts on the types and functions of this seat's program, printed by a tool of mine. -/
namespace Go.Proofs.YtdacialfjlcboaaGreatDoor
set_option linter.unusedVariables false
set_option linter.unusedSimpArgs false
set_option maxRecDepth 100000
open Go.RowKit Fw
theorem en2 : Enters Tryz.prog 2 := enters_of Tryz.func2 rfl rfl
theorem en3 : Enters Tryz.prog 3 := enters_of Tryz.func3 rfl rfl
theorem en4 : Enters Tryz.prog 4 := enters_of Tryz.func4 rfl rfl
theorem en5 : Enters Tryz.prog 5 := enters_of Tryz.func5 rfl rfl
theorem en6 : Enters Tryz.prog 6 := enters_of Tryz.func6 rfl rfl
theorem en7 : Enters Tryz.prog 7 := enters_of Tryz.func7 rfl rfl
theorem en8 : Enters Tryz.prog 8 := enters_of Tryz.func8 rfl rfl
theorem en9 : Enters Tryz.prog 9 := enters_of Tryz.func9 rfl rfl
theorem en10 : Enters Tryz.prog 10 := enters_of Tryz.func10 rfl rfl
theorem en11 : Enters Tryz.prog 11 := enters_of Tryz.func11 rfl rfl
theorem en12 : Enters Tryz.prog 12 := enters_of Tryz.func12 rfl rfl
theorem en13 : Enters Tryz.prog 13 := enters_of Tryz.func13 rfl rfl
theorem en14 : Enters Tryz.prog 14 := enters_of Tryz.func14 rfl rfl
theorem en15 : Enters Tryz.prog 15 := enters_of Tryz.func15 rfl rfl
theorem en16 : Enters Tryz.prog 16 := enters_of Tryz.func16 rfl rfl
theorem en17 : Enters Tryz.prog 17 := enters_of Tryz.func17 rfl rfl
theorem en18 : Enters Tryz.prog 18 := enters_of Tryz.func18 rfl rfl
theorem en19 : Enters Tryz.prog 19 := enters_of Tryz.func19 rfl rfl
theorem en20 : Enters Tryz.prog 20 := enters_of Tryz.func20 rfl rfl
theorem en21 : Enters Tryz.prog 21 := enters_of Tryz.func21 rfl rfl
theorem en22 : Enters Tryz.prog 22 := enters_of Tryz.func22 rfl rfl
theorem en23 : Enters Tryz.prog 23 := enters_of Tryz.func23 rfl rfl
theorem en24 : Enters Tryz.prog 24 := enters_of Tryz.func24 rfl rfl
theorem en25 : Enters Tryz.prog 25 := enters_of Tryz.func25 rfl rfl
theorem en26 : Enters Tryz.prog 26 := enters_of Tryz.func26 rfl rfl
theorem en27 : Enters Tryz.prog 27 := enters_of Tryz.func27 rfl rfl
theorem en28 : Enters Tryz.prog 28 := enters_of Tryz.func28 rfl rfl
theorem en29 : Enters Tryz.prog 29 := enters_of Tryz.func29 rfl rfl
theorem en30 : Enters Tryz.prog 30 := enters_of Tryz.func30 rfl rfl
theorem en31 : Enters Tryz.prog 31 := enters_of Tryz.func31 rfl rfl
theorem en32 : Enters Tryz.prog 32 := enters_of Tryz.func32 rfl rfl
theorem en33 : Enters Tryz.prog 33 := enters_of Tryz.func33 rfl rfl
theorem en34 : Enters Tryz.prog 34 := enters_of Tryz.func34 rfl rfl
theorem en35 : Enters Tryz.prog 35 := enters_of Tryz.func35 rfl rfl
theorem en36 : Enters Tryz.prog 36 := enters_of Tryz.func36 rfl rfl
theorem en37 : Enters Tryz.prog 37 := enters_of Tryz.func37 rfl rfl
theorem en38 : Enters Tryz.prog 38 := enters_of Tryz.func38 rfl rfl
theorem en39 : Enters Tryz.prog 39 := enters_of Tryz.func39 rfl rfl
theorem en40 : Enters Tryz.prog 40 := enters_of Tryz.func40 rfl rfl
theorem en41 : Enters Tryz.prog 41 := enters_of Tryz.func41 rfl rfl
theorem en42 : Enters Tryz.prog 42 := enters_of Tryz.func42 rfl rfl
theorem en43 : Enters Tryz.prog 43 := enters_of Tryz.func43 rfl rfl
theorem en44 : Enters Tryz.prog 44 := enters_of Tryz.func44 rfl rfl
theorem en45 : Enters Tryz.prog 45 := enters_of Tryz.func45 rfl rfl
theorem en46 : Enters Tryz.prog 46 := enters_of Tryz.func46 rfl rfl
theorem en47 : Enters Tryz.prog 47 := enters_of Tryz.func47 rfl rfl
theorem en48 : Enters Tryz.prog 48 := enters_of Tryz.func48 rfl rfl
theorem en49 : Enters Tryz.prog 49 := enters_of Tryz.func49 rfl rfl
theorem en50 : Enters Tryz.prog 50 := enters_of Tryz.func50 rfl rfl
theorem en51 : Enters Tryz.prog 51 := enters_of Tryz.func51 rfl rfl
theorem en52 : Enters Tryz.prog 52 := enters_of Tryz.func52 rfl rfl
theorem en53 : Enters Tryz.prog 53 := enters_of Tryz.func53 rfl rfl
theorem en54 : Enters Tryz.prog 54 := enters_of Tryz.func54 rfl rfl
theorem en55 : Enters Tryz.prog 55 := enters_of Tryz.func55 rfl rfl
theorem en56 : Enters Tryz.prog 56 := enters_of Tryz.func56 rfl rfl
theorem en57 : Enters Tryz.prog 57 := enters_of Tryz.func57 rfl rfl
theorem en58 : Enters Tryz.prog 58 := enters_of Tryz.func58 rfl rfl
theorem en59 : Enters Tryz.prog 59 := enters_of Tryz.func59 rfl rfl
theorem en60 : Enters Tryz.prog 60 := enters_of Tryz.func60 rfl rfl
theorem en61 : Enters Tryz.prog 61 := enters_of Tryz.func61 rfl rfl
theorem en62 : Enters Tryz.prog 62 := enters_of Tryz.func62 rfl rfl
theorem en63 : Enters Tryz.prog 63 := enters_of Tryz.func63 rfl rfl
theorem en64 : Enters Tryz.prog 64 := enters_of Tryz.func64 rfl rfl
theorem en65 : Enters Tryz.prog 65 := enters_of Tryz.func65 rfl rfl
theorem en66 : Enters Tryz.prog 66 := enters_of Tryz.func66 rfl rfl
theorem en67 : Enters Tryz.prog 67 := enters_of Tryz.func67 rfl rfl
theorem en68 : Enters Tryz.prog 68 := enters_of Tryz.func68 rfl rfl
theorem en69 : Enters Tryz.prog 69 := enters_of Tryz.func69 rfl rfl
theorem en70 : Enters Tryz.prog 70 := enters_of Tryz.func70 rfl rfl
theorem en71 : Enters Tryz.prog 71 := enters_of Tryz.func71 rfl rfl
theorem en72 : Enters Tryz.prog 72 := enters_of Tryz.func72 rfl rfl
theorem en73 : Enters Tryz.prog 73 := enters_of Tryz.func73 rfl rfl
theorem en74 : Enters Tryz.prog 74 := enters_of Tryz.func74 rfl rfl
theorem en75 : Enters Tryz.prog 75 := enters_of Tryz.func75 rfl rfl
theorem en76 : Enters Tryz.prog 76 := enters_of Tryz.func76 rfl rfl
theorem en77 : Enters Tryz.prog 77 := enters_of Tryz.func77 rfl rfl
theorem en78 : Enters Tryz.prog 78 := enters_of Tryz.func78 rfl rfl
theorem en79 : Enters Tryz.prog 79 := enters_of Tryz.func79 rfl rfl
theorem en80 : Enters Tryz.prog 80 := enters_of Tryz.func80 rfl rfl
theorem en81 : Enters Tryz.prog 81 := enters_of Tryz.func81 rfl rfl
theorem en82 : Enters Tryz.prog 82 := enters_of Tryz.func82 rfl rfl
theorem en83 : Enters Tryz.prog 83 := enters_of Tryz.func83 rfl rfl
theorem en84 : Enters Tryz.prog 84 := enters_of Tryz.func84 rfl rfl
theorem en85 : Enters Tryz.prog 85 := enters_of Tryz.func85 rfl rfl
theorem en86 : Enters Tryz.prog 86 := enters_of Tryz.func86 rfl rfl
theorem en87 : Enters Tryz.prog 87 := enters_of Tryz.func87 rfl rfl
theorem en88 : Enters Tryz.prog 88 := enters_of Tryz.func88 rfl rfl
theorem en89 : Enters Tryz.prog 89 := enters_of Tryz.func89 rfl rfl
theorem en90 : Enters Tryz.prog 90 := enters_of Tryz.func90 rfl rfl
theorem en91 : Enters Tryz.prog 91 := enters_of Tryz.func91 rfl rfl
theorem en92 : Enters Tryz.prog 92 := enters_of Tryz.func92 rfl rfl
theorem en93 : Enters Tryz.prog 93 := enters_of Tryz.func93 rfl rfl
theorem en94 : Enters Tryz.prog 94 := enters_of Tryz.func94 rfl rfl
theorem en95 : Enters Tryz.prog 95 := enters_of Tryz.func95 rfl rfl
theorem en96 : Enters Tryz.prog 96 := enters_of Tryz.func96 rfl rfl
theorem en97 : Enters Tryz.prog 97 := enters_of Tryz.func97 rfl rfl
theorem en98 : Enters Tryz.prog 98 := enters_of Tryz.func98 rfl rfl
theorem en99 : Enters Tryz.prog 99 := enters_of Tryz.func99 rfl rfl
theorem en100 : Enters Tryz.prog 100 := enters_of Tryz.func100 rfl rfl
theorem en101 : Enters Tryz.prog 101 := enters_of Tryz.func101 rfl rfl
theorem en102 : Enters Tryz.prog 102 := enters_of Tryz.func102 rfl rfl
theorem en103 : Enters Tryz.prog 103 := enters_of Tryz.func103 rfl rfl
theorem en104 : Enters Tryz.prog 104 := enters_of Tryz.func104 rfl rfl
theorem en105 : Enters Tryz.prog 105 := enters_of Tryz.func105 rfl rfl
theorem en106 : Enters Tryz.prog 106 := enters_of Tryz.func106 rfl rfl
theorem en107 : Enters Tryz.prog 107 := enters_of Tryz.func107 rfl rfl
theorem en108 : Enters Tryz.prog 108 := enters_of Tryz.func108 rfl rfl
theorem en109 : Enters Tryz.prog 109 := enters_of Tryz.func109 rfl rfl
theorem en112 : Enters Tryz.prog 112 := enters_of Tryz.func112 rfl rfl
theorem en113 : Enters Tryz.prog 113 := enters_of Tryz.func113 rfl rfl
theorem en114 : Enters Tryz.prog 114 := enters_of Tryz.func114 rfl rfl
theorem en115 : Enters Tryz.prog 115 := enters_of Tryz.func115 rfl rfl
theorem en116 : Enters Tryz.prog 116 := enters_of Tryz.func116 rfl rfl
theorem en117 : Enters Tryz.prog 117 := enters_of Tryz.func117 rfl rfl
theorem en118 : Enters Tryz.prog 118 := enters_of Tryz.func118 rfl rfl
theorem en119 : Enters Tryz.prog 119 := enters_of Tryz.func119 rfl rfl
theorem en120 : Enters Tryz.prog 120 := enters_of Tryz.func120 rfl rfl
theorem en121 : Enters Tryz.prog 121 := enters_of Tryz.func121 rfl rfl
theorem en122 : Enters Tryz.prog 122 := enters_of Tryz.func122 rfl rfl
theorem en123 : Enters Tryz.prog 123 := enters_of Tryz.func123 rfl rfl
theorem en124 : Enters Tryz.prog 124 := enters_of Tryz.func124 rfl rfl
theorem en125 : Enters Tryz.prog 125 := enters_of Tryz.func125 rfl rfl
theorem en126 : Enters Tryz.prog 126 := enters_of Tryz.func126 rfl rfl
theorem en127 : Enters Tryz.prog 127 := enters_of Tryz.func127 rfl rfl
theorem ar132 : arOf Tryz.prog 132 = some (24, 1) := by kernel_rfl
theorem ar148 : arOf Tryz.prog 148 = some (20, 1) := by kernel_rfl
theorem ar149 : arOf Tryz.prog 149 = some (65, 1) := by kernel_rfl
theorem ar152 : arOf Tryz.prog 152 = some (32, 1) := by kernel_rfl
theorem ar153 : arOf Tryz.prog 153 = some (64, 1) := by kernel_rfl
theorem el22 : elOf Tryz.prog 22 = some (2, 16) := by kernel_rfl
theorem el23 : elOf Tryz.prog 23 = some (1, 8) := by kernel_rfl
theorem el25 : elOf Tryz.prog 25 = some (1, 16) := by kernel_rfl
theorem el27 : elOf Tryz.prog 27 = some (2, 16) := by kernel_rfl
theorem el29 : elOf Tryz.prog 29 = some (1, 8) := by kernel_rfl
theorem el92 : elOf Tryz.prog 92 = some (1, 1) := by kernel_rfl
theorem el132 : elOf Tryz.prog 132 = none := by kernel_rfl
theorem el148 : elOf Tryz.prog 148 = none := by kernel_rfl
theorem el149 : elOf Tryz.prog 149 = none := by kernel_rfl
theorem el152 : elOf Tryz.prog 152 = none := by kernel_rfl
theorem el153 : elOf Tryz.prog 153 = none := by kernel_rfl
theorem eq53 : eqOf Tryz.prog 53 = some [(0, 0), (1, 0)] := by kernel_rfl
theorem eq60 : eqOf Tryz.prog 60 = some [(0, 0), (1, 0)] := by kernel_rfl
theorem fl53_0 : fldOf Tryz.prog 53 0 = some (0, 1, false) := by kernel_rfl
theorem fl53_1 : fldOf Tryz.prog 53 1 = some (1, 1, false) := by kernel_rfl
theorem fl60_0 : fldOf Tryz.prog 60 0 = some (0, 1, false) := by kernel_rfl
theorem fl60_1 : fldOf Tryz.prog 60 1 = some (1, 1, false) := by kernel_rfl
theorem fl94_0 : fldOf Tryz.prog 94 0 = some (0, 1, false) := by kernel_rfl
theorem fl94_1 : fldOf Tryz.prog 94 1 = some (1, 1, false) := by kernel_rfl
theorem pl53 : plOf Tryz.prog 53 = some [(0, 1), (1, 1)] := by kernel_rfl
theorem pl60 : plOf Tryz.prog 60 = some [(0, 1), (1, 1)] := by kernel_rfl
theorem ti3 : tiOf Tryz.prog 3 = some ⟨1, 8, false, [.int .i64 0]⟩ := by kernel_rfl
theorem ti5 : tiOf Tryz.prog 5 = some ⟨1, 1, false, [.int .u8 0]⟩ := by kernel_rfl
theorem ti9 : tiOf Tryz.prog 9 = some ⟨1, 16, false, [.str []]⟩ := by kernel_rfl
theorem ti23 : tiOf Tryz.prog 23 = some ⟨1, 24, false, [.vec [] true]⟩ := by kernel_rfl
theorem ti24 : tiOf Tryz.prog 24 = some ⟨1, 8, false, [.int .i64 0]⟩ := by kernel_rfl
theorem ti53 : tiOf Tryz.prog 53 = some ⟨2, 16, true, [.int .i64 0, .int .i64 0]⟩ := by kernel_rfl
theorem ti60 : tiOf Tryz.prog 60 = some ⟨2, 16, true, [.int .i64 0, .int .i64 0]⟩ := by kernel_rfl
theorem ti89 : tiOf Tryz.prog 89 = some ⟨1, 8, false, [.int .u64 0]⟩ := by kernel_rfl
theorem ti91 : tiOf Tryz.prog 91 = some ⟨1, 8, false, [.nilp]⟩ := by kernel_rfl
theorem ti92 : tiOf Tryz.prog 92 = some ⟨1, 24, false, [.vec [] true]⟩ := by kernel_rfl
theorem ti94 : tiOf Tryz.prog 94 = some ⟨2, 32, true, [.nilp, .vec [] true]⟩ := by kernel_rfl
theorem ti126 : tiOf Tryz.prog 126 = some ⟨1, 8, false, [.int .u64 0]⟩ := by kernel_rfl
theorem ti132 : tiOf Tryz.prog 132 = some ⟨24, 24, true, [.int .u8 0, .int .u8 0, .int .u8 0, .int .u8 0, .int .u8 0, .int .u8 0, .int .u8 0, .int .u8 0, .int .u8 0, .int .u8 0, .int .u8 0, .int .u8 0, .int .u8 0, .int .u8 0, .int .u8 0, .int .u8 0, .int .u8 0, .int .u8 0, .int .u8 0, .int .u8 0, .int .u8 0, .int .u8 0, .int .u8 0, .int .u8 0]⟩ := by kernel_rfl
theorem ti149 : tiOf Tryz.prog 149 = some ⟨65, 65, true, [.int .u8 0, .int .u8 0, .int .u8 0, .int .u8 0, .int .u8 0, .int .u8 0, .int .u8 0, .int .u8 0, .int .u8 0, .int .u8 0, .int .u8 0, .int .u8 0, .int .u8 0, .int .u8 0, .int .u8 0, .int .u8 0, .int .u8 0, .int .u8 0, .int .u8 0, .int .u8 0, .int .u8 0, .int .u8 0, .int .u8 0, .int .u8 0, .int .u8 0, .int .u8 0, .int .u8 0, .int .u8 0, .int .u8 0, .int .u8 0, .int .u8 0, .int .u8 0, .int .u8 0, .int .u8 0, .int .u8 0, .int .u8 0, .int .u8 0, .int .u8 0, .int .u8 0, .int .u8 0, .int .u8 0, .int .u8 0, .int .u8 0, .int .u8 0, .int .u8 0, .int .u8 0, .int .u8 0, .int .u8 0, .int .u8 0, .int .u8 0, .int .u8 0, .int .u8 0, .int .u8 0, .int .u8 0, .int .u8 0, .int .u8 0, .int .u8 0, .int .u8 0, .int .u8 0, .int .u8 0, .int .u8 0, .int .u8 0, .int .u8 0, .int .u8 0, .int .u8 0]⟩ := by kernel_rfl
theorem un2 : Tryz.prog.underlying 2 = some (.int .i64) := by kernel_rfl
theorem un3 : Tryz.prog.underlying 3 = some (.int .i64) := by kernel_rfl
theorem un4 : Tryz.prog.underlying 4 = some .bool := by kernel_rfl
theorem un5 : Tryz.prog.underlying 5 = some (.int .u8) := by kernel_rfl
theorem un9 : Tryz.prog.underlying 9 = some .string := by kernel_rfl
theorem un22 : Tryz.prog.underlying 22 = some (.slice 53) := by kernel_rfl
theorem un23 : Tryz.prog.underlying 23 = some (.slice 24) := by kernel_rfl
theorem un24 : Tryz.prog.underlying 24 = some (.int .i64) := by kernel_rfl
theorem un25 : Tryz.prog.underlying 25 = some (.slice 9) := by kernel_rfl
theorem un27 : Tryz.prog.underlying 27 = some (.slice 60) := by kernel_rfl
theorem un29 : Tryz.prog.underlying 29 = some (.slice 3) := by kernel_rfl
theorem un50 : Tryz.prog.underlying 50 = some (.int .u32) := by kernel_rfl
theorem un56 : Tryz.prog.underlying 56 = some (.int .u16) := by kernel_rfl
theorem un86 : Tryz.prog.underlying 86 = some (.int .u64) := by kernel_rfl
theorem un89 : Tryz.prog.underlying 89 = some (.int .u64) := by kernel_rfl
theorem un91 : Tryz.prog.underlying 91 = some (.pointer 94) := by kernel_rfl
theorem un92 : Tryz.prog.underlying 92 = some (.slice 5) := by kernel_rfl
theorem un126 : Tryz.prog.underlying 126 = some (.int .u64) := by kernel_rfl
theorem mixed : Tryz.prog.follows .mixedOrders = true := by kernel_rfl
end Go.Proofs.YtdacialfjlcboaaGreatDoor

/- The framework on: parts of one's own rows; their clearing. -/
namespace Go.Proofs.YtdacialfjlcboaaGreatDoor.Fw
set_option linter.unusedVariables false
set_option linter.unusedSimpArgs false
set_option maxRecDepth 100000
open Go.RowKit

theorem rep_flat {X : Type} (z : List X) (h0 : 0 < z.length) : ∀ (k j : Nat), j < k * z.length → (List.replicate k z).flatten[j]? = z[j % z.length]?
  | 0, j, hj => by omega
  | k + 1, j, hj => by
    rw [List.replicate_succ, List.flatten_cons]
    by_cases h : j < z.length
    · rw [List.getElem?_append_left h, Nat.mod_eq_of_lt h]
    · rw [List.getElem?_append_right (by omega), rep_flat z h0 k (j - z.length) (by rw [Nat.add_mul] at hj; omega)]
      congr 1
      exact (Nat.mod_eq_sub_mod (by omega)).symm
theorem rep_len {X : Type} (z : List X) (k : Nat) : (List.replicate k z).flatten.length = k * z.length := by
  induction k with
  | zero => simp
  | succ k ih => rw [List.replicate_succ, List.flatten_cons, List.length_append, ih, Nat.add_mul]; omega

section
variable {P : Program} {Γ : Nat → PV} {o : Oper} {A : List (Nat × PV)} {H : List Blk} {K : PV → List Blk → Prop}

/-- What stands from a place of one's own row on. -/
theorem os_sliceSuf {t : TypeId} {x lo : Operand} {kk : IntKind} {b q k sz by' l : Nat} {cs : List PV} (ho : o.op = .slice t x (some lo) none none) (ht : elOf P t = some (sz, by')) (hx : ev Γ A x = .row b q k sz) (hlo : ev Γ A lo = .int kk l) (hl : l ≤ k)
    (hb : H[b]? = some (.row sz cs)) (hlen : cs.length = q + k * sz) (hk : K (.row b (q + l * sz) (k - l) sz) H) : OStep P Γ o A H K :=
  ostep_pure (by simp [ho]) _ hk fun w0 G w N a hs ha => by
    have h1 := ha.ev hs.glob x
    rw [hx] at h1
    have hlr := ha.ev hs.glob lo
    rw [hlo] at hlr
    have hlv := hlr.int_inv
    obtain ⟨te, i, hu, hinf, rfl, _⟩ := elOf_spec ht
    obtain ⟨_, hbl, _, hsub, _, _⟩ := hs.blk b _ hb
    have hkn := h1.row_len
    obtain ⟨ad, cap, hax, hlt, hr, hle, had⟩ := h1.row_inv
    obtain ⟨hcap, hcase⟩ := had (by omega)
    have hmul : l * i.size + (k - l) * i.size = k * i.size := by rw [← Nat.add_mul]; congr 1; omega
    refine ⟨.slice (if cap = l then ad else ad.map (·.add (l * i.size))) (k - l) (cap - l), ?_, .row _ _ _ _ _ _ _ (by omega) hlt hr (by omega) fun _ => ⟨by omega, ?_⟩⟩
    · have hbd : (Instr.sliceBounds true k cap (some (.int kk l)) none none).run P w = .ok (l, k, cap) w := by
        simp [Instr.sliceBounds, Instr.sliceBound, asIntOf, hl]
      simp [execOp, ho, Instr.sliceAt, Instr.slice, run_under hu, hax, hlv, hbd, run_size hinf]
    · by_cases hcl : cap = l
      · rw [if_pos hcl]; exact .inr ⟨by omega, by omega⟩
      · rw [if_neg hcl]
        rcases hcase with ⟨h2, rfl, h3⟩ | ⟨h2, h3⟩
        · refine .inl ⟨by omega, ?_, ?_⟩
          · rw [Option.map_some, Fw.add_at]
            congr 2
            omega
          · have : (cap - l) * i.size + l * i.size = cap * i.size := by rw [← Nat.add_mul]; congr 1; omega
            omega
        · omega

/-- The first elements of one's own row: another row; the old one is not looked at any more. -/
theorem os_slicePre {t : TypeId} {x hi : Operand} {kk : IntKind} {b q k sz by' h : Nat} {cs : List PV} (ho : o.op = .slice t x none (some hi) none) (ht : elOf P t = some (sz, by')) (hx : ev Γ A x = .row b q k sz) (hhi : ev Γ A hi = .int kk h) (hh : h ≤ k)
    (hb : H[b]? = some (.row sz cs)) (hlen : cs.length = q + k * sz) (hk : K (.row H.length q h sz) (H.set b .dead ++ [.row sz (cs.take (q + h * sz))])) : OStep P Γ o A H K :=
  ostep_value (by simp [ho]) fun w0 G w N a hs ha => by
    have h1 := ha.ev hs.glob x
    rw [hx] at h1
    have hlr := ha.ev hs.glob hi
    rw [hhi] at hlr
    have hlv := hlr.int_inv
    obtain ⟨te, i, hu, hinf, rfl, _⟩ := elOf_spec ht
    obtain ⟨hisr, hbl, hsz0, hsub, hbdc, hrest⟩ := hs.blk b _ hb
    have hblt := (List.getElem?_eq_some_iff.1 hb).1
    have hkn := h1.row_len
    obtain ⟨ad, cap, hax, hlt, hr, hle, had⟩ := h1.row_inv
    obtain ⟨hcap, hcase⟩ := had (by omega)
    have hmul : h * i.size ≤ k * i.size := Nat.mul_le_mul_right _ hh
    have hsubq : (G.info b).sub ≤ q + h * i.size := by
      rcases hcase with ⟨h2, _⟩ | ⟨h2, h3⟩
      · omega
      · subst h2; rw [Nat.zero_mul] at hlen; omega
    have htl : (cs.take (q + h * i.size)).length = q + h * i.size := by rw [List.length_take]; omega
    let inf : Info := { (G.info b) with len := q + h * i.size }
    let G' := G.setInfo H.length inf
    have he : Evol G H.length G' := Evol.setInfo_new G H.length inf
    have hi' : ∀ j, j < H.length → G'.info j = G.info j := fun j hj => G.setInfo_other inf (by omega)
    have hlast : G'.info H.length = inf := G.setInfo_same ..
    have hL : (H.set b Blk.dead ++ [Blk.row i.size (cs.take (q + h * i.size))]).length = H.length + 1 := by simp
    have key : ∀ (j : Nat) B, (H.set b Blk.dead ++ [Blk.row i.size (cs.take (q + h * i.size))])[j]? = some B → (j ≠ b ∧ j < H.length ∧ H[j]? = some B) ∨ (j = b ∧ B = .dead) ∨ (j = H.length ∧ B = .row i.size (cs.take (q + h * i.size))) := fun j B hB => by
      by_cases hj : j < H.length
      · rw [List.getElem?_append_left (by simpa using hj)] at hB
        by_cases e : j = b
        · subst e; rw [List.getElem?_set_self hj] at hB; exact .inr (.inl ⟨rfl, (Option.some.inj hB).symm⟩)
        · rw [List.getElem?_set_ne (Ne.symm e)] at hB; exact .inl ⟨e, hj, hB⟩
      · rw [List.getElem?_append_right (by simpa using hj)] at hB
        simp only [List.length_set] at hB
        have h0 : j - H.length = 0 := by
          rcases Nat.eq_zero_or_pos (j - H.length) with h0 | h0
          · exact h0
          · rw [List.getElem?_eq_none (by simp; omega)] at hB; cases hB
        rw [h0] at hB
        exact .inr (.inr ⟨by omega, by simpa using hB.symm⟩)
    have hlive : (Blk.row i.size (cs.take (q + h * i.size))).live inf = true → (Blk.row i.size cs).live (G.info b) = true := fun h => h
    have hsim : Sim Γ w0 G' (H.set b Blk.dead ++ [Blk.row i.size (cs.take (q + h * i.size))]) w := by
      refine ⟨hs.below, hs.mem, fun j B hB => ?_, fun j B hB hlv => ?_, fun j j' B B' hB hB' hlv hlv' hq => ?_, fun g => (hs.glob g).mono 0 (he.less (Nat.zero_le _)) (Nat.le_refl _), hs.tab⟩
      · rw [hL]
        rcases key j B hB with ⟨_, hj, hB⟩ | ⟨rfl, rfl⟩ | ⟨rfl, rfl⟩
        · rw [hi' j hj]; exact (hs.blk j B hB).mono he (by omega) (fun _ => rfl)
        · trivial
        · rw [hlast]
          refine ⟨hisr, htl.symm, hsz0, by rw [htl]; exact hsubq, ?_, ?_⟩
          · rw [PV.bdL_iff] at hbdc ⊢
            exact fun p hp => PV.bd_mono (by omega) p (hbdc p (List.mem_of_mem_take hp))
          · rcases hrest with ⟨hz, hcs⟩ | ⟨hpos, C, e, hh', hCs, hle', h5⟩
            · exact .inl ⟨hz, by rw [htl]; show _ = (G.info b).sub; omega⟩
            · refine .inr ⟨hpos, C, e, hh', hCs, by rw [htl]; show _ - (G.info b).sub ≤ _; omega, fun j c u hc hu => ?_⟩
              have hc' : cs[(G.info b).sub + j]? = some c := by
                have hc2 : (cs.take (q + h * i.size))[(G.info b).sub + j]? = some c := hc
                rw [List.getElem?_take] at hc2
                split at hc2
                · exact hc2
                · cases hc2
              exact ⟨(h5 j c u hc' hu).1.mono _ he (by omega), (h5 j c u hc' hu).2⟩
      · rcases key j B hB with ⟨_, hj, hB⟩ | ⟨rfl, rfl⟩ | ⟨rfl, rfl⟩
        · rw [hi' j hj] at hlv ⊢; exact hs.own j B hB hlv
        · cases hlv
        · rw [hlast] at hlv ⊢; exact hs.own b _ hb (hlive hlv)
      · rcases key j B hB with ⟨n1, hj, hB⟩ | ⟨rfl, rfl⟩ | ⟨rfl, rfl⟩
        · rcases key j' B' hB' with ⟨n2, hj', hB'⟩ | ⟨rfl, rfl⟩ | ⟨rfl, rfl⟩
          · rw [hi' j hj] at hlv hq; rw [hi' j' hj'] at hlv' hq; exact hs.inj j j' B B' hB hB' hlv hlv' hq
          · cases hlv'
          · rw [hi' j hj] at hlv hq; rw [hlast] at hlv' hq
            exact absurd (hs.inj j b B _ hB hb hlv (hlive hlv') hq) n1
        · cases hlv
        · rcases key j' B' hB' with ⟨n2, hj', hB'⟩ | ⟨rfl, rfl⟩ | ⟨rfl, rfl⟩
          · rw [hlast] at hlv hq; rw [hi' j' hj'] at hlv' hq
            exact absurd (hs.inj j' b B' _ hB' hb hlv' (hlive hlv) hq.symm) n2
          · cases hlv'
          · rfl
    refine ⟨.slice (if cap = 0 then ad else ad.map (·.add (0 * i.size))) h cap, w, G', _, _, ?_, hsim, ?_, he, by rw [hL]; omega, hk⟩
    · have hbd : (Instr.sliceBounds true k cap none (some (.int kk h)) none).run P w = .ok (0, h, cap) w := by
        have hhc : (h : Int) ≤ cap := by omega
        have hhn : h ≤ cap := by omega
        simp [Instr.sliceBounds, Instr.sliceBound, asIntOf, hhc, hhn]
      simp [execOp, ho, Instr.sliceAt, Instr.slice, run_under hu, hax, hlv, hbd, run_size hinf]
    · rw [hL]
      refine .row _ _ _ _ _ _ _ (by omega) (by omega) (by rw [hlast]; exact hisr) (by rw [hlast]; exact Nat.le_refl _) fun _ => ⟨by omega, ?_⟩
      rw [hlast]
      rcases hcase with ⟨h2, rfl, h3⟩ | ⟨h2, h3⟩
      · refine .inl ⟨h2, ?_, h3⟩
        split
        · rfl
        · rw [Nat.zero_mul, Option.map_some, Fw.add_at]; rfl
      · exact .inr ⟨by omega, h3⟩

/-- The clearing of what stands at the end of one's own row. -/
theorem os_clearRow {t : TypeId} {x : Operand} {e : TypeId} {ti : TI} {b q k : Nat} {cs : List PV} (ho : o.op = .call { callee := .builtin .clear, args := #[x], argTypes := #[t] }) (ht : P.underlying t = some (.slice e)) (he : tiOf P e = some ti)
    (hx : ev Γ A x = .row b q k ti.size) (hb : H[b]? = some (.row ti.size cs)) (hlen : cs.length = q + k * ti.size)
    (hk : K (.tup []) (H.set b (.row ti.size (splice cs q (List.replicate k ti.zero).flatten)))) : OStep P Γ o A H K :=
  ostep_value (by simp [ho]) fun w0 G w N a hs ha => by
    obtain ⟨i, d, z, hi, hd, hzo, hzs, hisz, _, hone, _, hzl⟩ := tiOf_spec he
    have h1 := ha.ev hs.glob x
    rw [hx] at h1
    obtain ⟨hisr, hbl, hsz0, hsub, hbdc, hrest⟩ := hs.blk b _ hb
    obtain ⟨ad, cap, hax, hlt, hr, hle, had⟩ := h1.row_inv
    obtain ⟨hcap, hcase⟩ := had (by omega)
    have hrun : ∀ w', (match (Value.slice ad k cap) with
        | .slice none _ _ => (pure () : Sem Unit)
        | .slice _ 0 _ => pure ()
        | .slice (some a) n _ => do storeCells a (Builtin.zeroCells (← zeroValue e).cells n).toList
        | _ => stuck "").run P w = .ok () w' → (execOp a.eval o).run P w = .ok (.value (.tuple #[])) w' := fun w' hw => by
      cases ad with
      | none => simp at hw; subst hw; simp [execOp, ho, resolve, invoke, builtin, Builtin.clear_, run_under ht, hax]
      | some a' =>
        cases k with
        | zero => simp at hw; subst hw; simp [execOp, ho, resolve, invoke, builtin, Builtin.clear_, run_under ht, hax]
        | succ k =>
          simp [run_zero hi hzo] at hw
          simp [execOp, ho, resolve, invoke, builtin, Builtin.clear_, run_under ht, hax, run_zero hi hzo, hw]
    have hzlen : ti.zero.length = ti.size := by rw [hzl, List.length_map, Array.length_toList, hzs]
    rcases Nat.eq_zero_or_pos k with hk0 | hkp
    · subst hk0
      have hsame : H.set b (.row ti.size (splice cs q (List.replicate 0 ti.zero).flatten)) = H := by
        have : splice cs q (List.replicate 0 ti.zero).flatten = cs := by simp [splice]
        rw [this]
        obtain ⟨g1, g2⟩ := List.getElem?_eq_some_iff.1 hb
        rw [← g2]; exact List.set_getElem_self _
      rw [hsame] at hk
      refine ⟨_, w, G, _, H, hrun w ?_, hs, .tup _ _ _ rfl (fun i c v h => by simp at h), Evol.refl _ _, Nat.le_refl _, hk⟩
      cases ad <;> rfl
    · rcases hcase with ⟨h2, rfl, h3⟩ | ⟨h2, _⟩
      · have hxs : Reps G H.length (List.replicate k ti.zero).flatten (Builtin.zeroCells z.cells k).toList := by
          refine ⟨by rw [rep_len, hzlen, Array.length_toList, size_zeroCells, hzs], fun j c v hc hv => ?_⟩
          have hj : j < k * ti.zero.length := by have := (List.getElem?_eq_some_iff.1 hc).1; rwa [rep_len] at this
          rw [rep_flat _ (by omega) k j hj, hzlen] at hc
          rw [Array.getElem?_toList] at hv
          have hjz : j % ti.size < z.cells.size := by rw [hzs]; exact Nat.mod_lt _ hsz0
          have hv' : z.cells[j % ti.size]? = some v := by
            unfold Builtin.zeroCells at hv
            rw [Array.getElem?_map] at hv
            obtain ⟨y, hy, rfl⟩ := Option.map_eq_some_iff.1 hv
            obtain ⟨hy1, hy2⟩ := Array.getElem?_eq_some_iff.1 hy
            simp only [Array.getElem_range] at hy2
            subst hy2
            rw [hzs, Array.getElem?_eq_getElem hjz]
            congr 1
            exact (getElem!_pos z.cells (j % ti.size) hjz).symm
          rw [hzl, List.getElem?_map, Array.getElem?_toList, hv'] at hc
          simp only [Option.map_some, Option.some.injEq] at hc
          subst hc
          exact ofC_rep G _ v
        obtain ⟨w', hw', hsim⟩ := hs.writeRow (P := P) (q := q) hb hxs (fun j u hu => by
          have hjz : ∀ j, j % ti.size < z.cells.size := fun j => by rw [hzs]; exact Nat.mod_lt _ hsz0
          unfold Builtin.zeroCells at hu
          rw [Array.getElem?_map] at hu
          obtain ⟨y, hy, rfl⟩ := Option.map_eq_some_iff.1 hu
          refine hone (y % z.cells.size) _ ?_
          have hyz : y % z.cells.size < z.cells.size := by rw [hzs]; exact Nat.mod_lt _ hsz0
          rw [Array.getElem?_eq_getElem hyz]
          congr 1
          exact (getElem!_pos z.cells _ hyz).symm) (by rw [rep_len, hzlen]; omega) h2 (by rw [rep_len, hzlen]; exact Nat.mul_pos hkp hsz0)
        refine ⟨_, w', G, _, _, hrun w' ?_, hsim, .tup _ _ _ rfl (fun i c v h => by simp at h), Evol.refl _ _, by simp, hk⟩
        obtain ⟨k', rfl⟩ : ∃ k', k = k' + 1 := ⟨k - 1, by omega⟩
        simpa [run_zero hi hzo] using hw'
      · omega
end

end Go.Proofs.YtdacialfjlcboaaGreatDoor.Fw

/- The framework on: a row that a contract of the library's turns as a whole. -/
namespace Go.Proofs.YtdacialfjlcboaaGreatDoor.Fw
set_option linter.unusedVariables false
set_option linter.unusedSimpArgs false
set_option maxRecDepth 100000
open Go.RowKit
open Go.Sort (putCells putRow mapBlock onCells)

/-- The world grows, and nothing that lay is turned. -/
theorem Sim.grown {Γ : Nat → PV} {w0 w w' : World} {G : Ghost} {H : List Blk} (h : Sim Γ w0 G H w) (hb : Below w.heap.size w w') : Sim Γ w0 G H w' :=
  h.step (Evol.refl _ _) (fun _ _ => rfl) (h.below.trans ⟨hb.os, hb.tape, hb.output, hb.size, fun k hk => hb.block k (Nat.lt_of_lt_of_le hk h.size)⟩) hb.size (fun k B hB hl => hb.block _ (h.own k B hB hl).2.1)
    (fun a v ha => by
      have := h.mem a v ha
      rw [cell_of_heap (w := w) (hb.block _ (World.block_lt_of_cell? w a this))]; exact this)
    (fun k B hB hl => (h.own k B hB hl).2.2)

theorem Sim.drawn {Γ : Nat → PV} {w0 w : World} {G : Ghost} {H : List Blk} (h : Sim Γ w0 G H w) (n : Nat) : Sim Γ w0 G H (Sort.ahead w n) :=
  h.grown ⟨rfl, rfl, rfl, Nat.le_refl _, fun _ _ => rfl⟩

theorem putCells_enc {X : Type} [Inhabited X] (enc : X → Value) (off : Nat) (d : Array X) (c : Array Value) : putCells enc off d c = putCells id off (d.map enc) c := by
  apply Array.ext_getElem?
  intro k
  simp only [putCells, Array.getElem?_mapIdx, Array.size_map]
  cases c[k]? with
  | none => rfl
  | some y =>
    simp only [Option.map_some]
    split
    · rename_i h
      rw [getElem!_pos d (k - off) (by omega), getElem!_pos (d.map enc) (k - off) (by simp; omega)]
      simp
    · rfl

theorem putRow_enc {X : Type} [Inhabited X] (enc : X → Value) (w : World) (blk off : Nat) (d : Array X) : putRow enc w blk off d = putRow id w blk off (d.map enc) := by
  unfold putRow mapBlock
  rw [show putCells enc off d = putCells id off (d.map enc) from funext fun c => putCells_enc enc off d c]

/-- A whole row is laid anew in its own place. -/
theorem Sim.putRow0 {Γ : Nat → PV} {w0 w : World} {G : Ghost} {H : List Blk} {b sz : Nat} {cs ys : List PV} {vs : Array Value} (h : Sim Γ w0 G H w) (hb : H[b]? = some (.row sz cs)) (hsub : (G.info b).sub = 0) (hpos : 0 < (G.info b).size) (hl : ys.length = cs.length)
    (hr : Reps G H.length ys vs.toList) (h1 : ∀ (j : Nat) u, vs[j]? = some u → u.oneCell' = true) : Sim Γ w0 G (H.set b (.row sz ys)) (putRow id w (G.info b).blk 0 vs) := by
  obtain ⟨k1, k2, k3, k4, k5, k6⟩ := h.blk b _ hb
  obtain ⟨kz, _⟩ | ⟨_, C, e, k7, k8, k9, k10⟩ := k6
  · omega
  have hvs : vs.size = ys.length := by have := hr.1; simp at this; omega
  refine h.setSame hb (by simpa [Blk.live] using hpos) (fun k hk => ?_) (by simp [putRow, mapBlock]) ⟨rfl, rfl, rfl⟩ ⟨k1, by omega, k3, by omega, hr.bound, .inr ⟨hpos, putCells id 0 vs C, e, ?_, by simpa [putCells] using k8, by simp [putCells]; omega, fun j c u hc hu => ?_⟩⟩
  · simp only [putRow, mapBlock, Array.getElem?_modify]
    rw [if_neg (Ne.symm hk)]
  · simp only [putRow, mapBlock, Array.getElem?_modify, if_pos, k7, Option.map_some, onCells]
  · rw [hsub, Nat.zero_add] at hc
    have hj := (List.getElem?_eq_some_iff.1 hc).1
    simp only [putCells, Array.getElem?_mapIdx] at hu
    obtain ⟨x, hx, rfl⟩ := Option.map_eq_some_iff.1 hu
    rw [if_pos ⟨Nat.zero_le _, by omega⟩]
    have hv : vs[j]? = some (id vs[j - 0]!) := by
      rw [Nat.sub_zero, Array.getElem?_eq_getElem (by omega)]
      congr 1
      exact (getElem!_pos vs j (by omega)).symm
    exact ⟨hr.2 j c _ hc (by rw [Array.getElem?_toList]; exact hv), h1 j _ hv⟩

/-- What one's own row, looked at whole, is in the world. -/
theorem Sim.rowCells {Γ : Nat → PV} {w0 w : World} {G : Ghost} {H : List Blk} {b k sz : Nat} {cs : List PV} {v : Value} (h : Sim Γ w0 G H w) (hb : H[b]? = some (.row sz cs)) (hlen : cs.length = k * sz) (hv : Rep G H.length (.row b 0 k sz) v) :
    ∃ ad cap, v = .slice ad k cap ∧ (k = 0 ∨ (ad = some ⟨(G.info b).blk, 0, none⟩ ∧ (G.info b).sub = 0 ∧ 0 < (G.info b).size ∧ (G.info b).blk < w.heap.size ∧
      ∀ (j : Nat) c, cs[j]? = some c → ∃ u, w.cell? ⟨(G.info b).blk, j, none⟩ = some u ∧ w.frozen? ⟨(G.info b).blk, j, none⟩ = false ∧ Rep G H.length c u ∧ u.oneCell' = true)) := by
  obtain ⟨ad, cap, rfl, _, _, h3, h4⟩ := hv.row_inv
  refine ⟨ad, cap, rfl, ?_⟩
  obtain rfl | hk := Nat.eq_zero_or_pos k
  · exact .inl rfl
  obtain ⟨k1, k2, k3, k4, k5, k6⟩ := h.blk b _ hb
  obtain ⟨q1, q2⟩ := h4 (by omega)
  have q2' : (G.info b).sub ≤ 0 ∧ ad = some ⟨(G.info b).blk, 0 - (G.info b).sub, none⟩ := by
    rcases q2 with ⟨q2, q3, q4⟩ | ⟨q2, _⟩
    · exact ⟨q2, q3⟩
    · omega
  obtain ⟨q2, q3⟩ := q2'
  have hpos : 0 < k * sz := Nat.mul_pos hk k3
  obtain ⟨kz, kl⟩ | ⟨hp, C, e, k7, k8, k9, k10⟩ := k6
  · omega
  have hs0 : (G.info b).sub = 0 := by omega
  refine .inr ⟨by rw [q3]; simp, hs0, hp, (h.own b _ hb (by simpa [Blk.live] using hp)).2.1, fun j c hc => ?_⟩
  have hj := (List.getElem?_eq_some_iff.1 hc).1
  have hjC : j < C.size := by omega
  obtain ⟨g1, g2⟩ := k10 j c C[j] (by rw [hs0, Nat.zero_add]; exact hc) (Array.getElem?_eq_getElem hjC)
  refine ⟨C[j], ?_, ?_, g1, g2⟩
  · simp [World.cell?, k7, hjC]
  · simp [World.frozen?, k7]

end Go.Proofs.YtdacialfjlcboaaGreatDoor.Fw

/- The framework on: one's own row as a list of elements. -/
namespace Go.Proofs.YtdacialfjlcboaaGreatDoor.Fw
set_option linter.unusedVariables false
set_option linter.unusedSimpArgs false
set_option maxRecDepth 100000
open Go.RowKit

section
variable {X : Type} {enc : X → List PV} {sz : Nat}

theorem flat_drop (h : ∀ x, (enc x).length = sz) : ∀ (l : List X) (i : Nat), ((l.map enc).flatten).drop (i * sz) = ((l.drop i).map enc).flatten
  | [], i => by simp
  | x :: l, 0 => by simp
  | x :: l, i + 1 => by
    rw [List.map_cons, List.flatten_cons, show (i + 1) * sz = (enc x).length + i * sz by rw [h, Nat.add_mul]; omega, List.drop_length_add_append]
    exact flat_drop h l i

theorem flat_take (h : ∀ x, (enc x).length = sz) : ∀ (l : List X) (i : Nat), ((l.map enc).flatten).take (i * sz) = ((l.take i).map enc).flatten
  | [], i => by simp
  | x :: l, 0 => by simp
  | x :: l, i + 1 => by
    rw [List.map_cons, List.flatten_cons, show (i + 1) * sz = (enc x).length + i * sz by rw [h, Nat.add_mul]; omega, List.take_length_add_append]
    rw [flat_take h l i]; rfl

theorem flat_setAt (h : ∀ x, (enc x).length = sz) {l : List X} {i : Nat} (y : X) (hi : i < l.length) : splice ((l.map enc).flatten) (i * sz) (enc y) = ((l.set i y).map enc).flatten := by
  unfold splice
  rw [h, flat_take h, show i * sz + sz = (i + 1) * sz by rw [Nat.add_mul]; omega, flat_drop h, List.set_eq_take_append_cons_drop, if_pos hi]
  simp

theorem take_splice {cs xs : List PV} {q : Nat} (h : q ≤ cs.length) : (splice cs q xs).take q = cs.take q := by
  unfold splice
  rw [List.append_assoc, List.take_append_of_le_length (by rw [List.length_take]; omega), List.take_take, Nat.min_self]

variable {P : Program} {Γ : Nat → PV} {o : Oper} {A : List (Nat × PV)} {H : List Blk} {K : PV → List Blk → Prop}

theorem os_idxRow {t : TypeId} {x ix : Operand} {by' b q m i : Nat} {k : IntKind} {l : List X} (h : ∀ x, (enc x).length = sz) (ho : o.op = .indexAddr t x ix) (ht : elOf P t = some (sz, by')) (hx : ev Γ A x = .row b q m sz) (hi : ev Γ A ix = .int k (i : Int))
    (hb : H[b]? = some (.row sz ((l.map enc).flatten))) (hl : l.length * sz = q + m * sz) (hn : i < m) (hk : K (.eptr b (q + i * sz) (l.length * sz)) H) : OStep P Γ o A H K :=
  os_index_row ho ht hx hi hb (by rw [flat_len h]; exact hl) (by omega) (by omega) (by rw [flat_len h, Int.toNat_natCast]; exact hk)

theorem os_loadRow {t : TypeId} {x : Operand} {ti : TI} {b q i len : Nat} {l : List X} {y : X} {p : PV} (h : ∀ x, (enc x).length = sz) (ho : o.op = .load t x) (ht : tiOf P t = some ti) (hx : ev Γ A x = .eptr b q len) (hb : H[b]? = some (.row sz ((l.map enc).flatten)))
    (hq : q = i * sz) (hlen : len = l.length * sz) (hy : l[i]? = some y) (hsz : ti.size = sz) (hp : if ti.agg = true then p = .agg (enc y) else (enc y)[0]? = some p) (hk : K p H) : OStep P Γ o A H K := by
  have hd : ((l.map enc).flatten).drop q = enc y ++ ((l.drop (i + 1)).map enc).flatten := by
    rw [hq, flat_drop h]
    have hi := (List.getElem?_eq_some_iff.1 hy)
    obtain ⟨hi, rfl⟩ := hi
    rw [List.drop_eq_getElem_cons hi, List.map_cons, List.flatten_cons]
  refine os_load (cs := ((l.map enc).flatten).drop q) ho ht (by unfold rd; rw [hx]; simp only [hb]; rw [if_pos (by rw [flat_len h]; exact hlen.symm)]) ?_ hk
  rw [hd]
  by_cases ha : ti.agg = true
  · rw [if_pos ha] at hp ⊢
    refine ⟨by rw [List.length_append, h]; omega, ?_⟩
    rw [hp, hsz, ← h y, List.take_left]
  · rw [if_neg ha] at hp ⊢
    rw [List.getElem?_append_left (List.getElem?_eq_some_iff.1 hp).1]; exact hp

theorem os_putRow {t : TypeId} {x y : Operand} {ti : TI} {b q i len : Nat} {l : List X} {e : X} (h : ∀ x, (enc x).length = sz) (ho : o.op = .store t x y) (ht : tiOf P t = some ti) (hx : ev Γ A x = .eptr b q len) (hb : H[b]? = some (.row sz ((l.map enc).flatten)))
    (hq : q = i * sz) (hlen : len = l.length * sz) (hi : i < l.length) (hy : (ev Γ A y).shaped = true) (hc : (ev Γ A y).cells = enc e) (hsz : ti.size = sz) (h0 : 0 < sz) (hk : K .any (H.set b (.row sz (((l.set i e).map enc).flatten)))) : OStep P Γ o A H K := by
  have hm : (i + 1) * sz ≤ l.length * sz := Nat.mul_le_mul_right _ hi
  rw [Nat.add_mul] at hm
  refine os_storeE ho ht hx hb (by rw [flat_len h]; exact hlen.symm) hy (by rw [hc, h, hsz]) (by rw [flat_len h, hsz, hq]; omega) (by omega) ?_
  rw [hc, hq, flat_setAt h e hi]
  exact hk

variable {ops : Array Oper} {cls : List Nat} {n0 : View} {KD : List (Nat × PV) → List Blk → Prop} {j : Nat} {rest : List (Nat × Oper)}

theorem dops_idxRow {t : TypeId} {x ix : Operand} {by' b q m i : Nat} {k : IntKind} {l : List X} (h : ∀ x, (enc x).length = sz) (ho : o.op = .indexAddr t x ix) (hw : wantA ops A o = some true) (hc : cls.getD j 0 = 1) (ht : elOf P t = some (sz, by')) (hx : ev Γ A x = .row b q m sz) (hi : ev Γ A ix = .int k (i : Int))
    (hb : H[b]? = some (.row sz ((l.map enc).flatten))) (hl : l.length * sz = q + m * sz) (hn : i < m) (hk : DOps P Γ ops cls n0 KD rest (aput A o.dst (.eptr b (q + i * sz) (l.length * sz))) H) : DOps P Γ ops cls n0 KD ((j, o) :: rest) A H :=
  dops_reads _ hw hc (fun A' hev => os_idxRow h ho ht ((hev x (by simp [ho, Op.operands])).trans hx) ((hev ix (by simp [ho, Op.operands])).trans hi) hb hl hn ⟨rfl, rfl⟩) hk

theorem dops_loadRow {t : TypeId} {x : Operand} {ti : TI} {b q i len : Nat} {l : List X} {y : X} (p : PV) (h : ∀ x, (enc x).length = sz) (ho : o.op = .load t x) (hw : wantA ops A o = some true) (hc : cls.getD j 0 = 1) (ht : tiOf P t = some ti) (hx : ev Γ A x = .eptr b q len) (hb : H[b]? = some (.row sz ((l.map enc).flatten)))
    (hq : q = i * sz) (hlen : len = l.length * sz) (hy : l[i]? = some y) (hsz : ti.size = sz) (hp : if ti.agg = true then p = .agg (enc y) else (enc y)[0]? = some p) (hk : DOps P Γ ops cls n0 KD rest (aput A o.dst p) H) : DOps P Γ ops cls n0 KD ((j, o) :: rest) A H :=
  dops_reads p hw hc (fun A' hev => os_loadRow h ho ht ((hev x (by simp [ho, Op.operands])).trans hx) hb hq hlen hy hsz hp ⟨rfl, rfl⟩) hk
end

theorem aops_end {P : Program} {Γ : Nat → PV} {ops : Array Oper} {Q : List (Nat × PV) → List Blk → Prop} {A : List (Nat × PV)} {H : List Blk} (h : Q A H) : AOps P Γ ops Q [] A H := h

/-- A list stands in one's own row, among blocks that come behind H0. -/
def RowIn (H0 : List Blk) (sz k : Nat) (cs : List PV) (p : PV) (H' : List Blk) : Prop := ∃ b L, p = .row b 0 k sz ∧ H' = H0 ++ L ∧ H0.length ≤ b ∧ H'[b]? = some (.row sz cs)

end Go.Proofs.YtdacialfjlcboaaGreatDoor.Fw

/- The library's contracts of sorting and comparing, at this program's numbers (printed by a tool of mine; each line is compared by the kernel). -/
namespace Go.Proofs.YtdacialfjlcboaaGreatDoor
set_option linter.unusedVariables false
set_option linter.unusedSimpArgs false
set_option maxRecDepth 100000
open Go.RowKit Go.Shelf
def cmp61_ren : Go.Shelf.Ren := { f := fun x => match x with | 5 => 61 | 7 => 79 | n => n, t := fun x => match x with | 22 => 24 | 3 => 3 | 4 => 4 | n => n, g := fun x => have n := x; n }
theorem cmp61 : Go.Proofs.SlLaysC2.n5 Tryz.prog cmp61_ren where
  mixed := by kernel_rfl
  f5 := ⟨"cmp.Compare[chancel/atom.Atom]", of_decide_eq_true (by kernel_rfl), Tryz.func61.trans (congrArg some (by kernel_rfl))⟩
  f7 := ⟨"cmp.isNaN[chancel/atom.Atom]", of_decide_eq_true (by kernel_rfl), Tryz.func79.trans (congrArg some (by kernel_rfl))⟩
  t3 := Tryz.underlying3
  a3 := Tryz.isAgg3
  z3 := Tryz.sizeOf3
  v3 := Tryz.zeroValue3
  t4 := Tryz.underlying4
  a4 := Tryz.isAgg4
  z4 := Tryz.sizeOf4
  v4 := Tryz.zeroValue4
  t22 := Tryz.underlying24
  a22 := Tryz.isAgg24
  z22 := Tryz.sizeOf24
  v22 := Tryz.zeroValue24
def sort55_ren : Go.Shelf.Ren := { f := fun x => match x with | 5 => 55 | 8 => 59 | 7 => 68 | 19 => 77 | 20 => 78 | 10 => 92 | 11 => 93 | 12 => 94 | 13 => 95 | 14 => 96 | 15 => 97 | 16 => 98 | 17 => 99 | 18 => 100 | 30 => 115 | 31 => 102 | 32 => 103 | 33 => 116 | 34 => 117 | 35 => 118 | 40 => 125 | n => n, t := fun x => match x with | 23 => 29 | 25 => 3 | 3 => 3 | 32 => 86 | 22 => 29 | 0 => 0 | 44 => 50 | 46 => 89 | 4 => 4 | 36 => 105 | 35 => 104 | 41 => 80 | 5 => 5 | 9 => 9 | 53 => 126 | 57 => 130 | 63 => 144 | 64 => 145 | n => n, g := fun x => have n := x; n }
theorem sort55 : Go.Proofs.SlLaysM.n5 Tryz.prog sort55_ren where
  mixed := by kernel_rfl
  f5 := ⟨"slices.Sort[[]int,int]", of_decide_eq_true (by kernel_rfl), Tryz.func55.trans (congrArg some (by kernel_rfl))⟩
  f7 := ⟨"slices.pdqsortOrdered[int]", of_decide_eq_true (by kernel_rfl), Tryz.func68.trans (congrArg some (by kernel_rfl))⟩
  f8 := Tryz.func59.trans (congrArg some (by kernel_rfl))
  f10 := ⟨"slices.insertionSortOrdered[int]", of_decide_eq_true (by kernel_rfl), Tryz.func92.trans (congrArg some (by kernel_rfl))⟩
  f11 := ⟨"slices.heapSortOrdered[int]", of_decide_eq_true (by kernel_rfl), Tryz.func93.trans (congrArg some (by kernel_rfl))⟩
  f12 := ⟨"slices.breakPatternsOrdered[int]", of_decide_eq_true (by kernel_rfl), Tryz.func94.trans (congrArg some (by kernel_rfl))⟩
  f13 := ⟨"slices.choosePivotOrdered[int]", of_decide_eq_true (by kernel_rfl), Tryz.func95.trans (congrArg some (by kernel_rfl))⟩
  f14 := ⟨"slices.reverseRangeOrdered[int]", of_decide_eq_true (by kernel_rfl), Tryz.func96.trans (congrArg some (by kernel_rfl))⟩
  f15 := ⟨"slices.partialInsertionSortOrdered[int]", of_decide_eq_true (by kernel_rfl), Tryz.func97.trans (congrArg some (by kernel_rfl))⟩
  f16 := ⟨"cmp.Less[int]", of_decide_eq_true (by kernel_rfl), Tryz.func98.trans (congrArg some (by kernel_rfl))⟩
  f17 := ⟨"slices.partitionEqualOrdered[int]", of_decide_eq_true (by kernel_rfl), Tryz.func99.trans (congrArg some (by kernel_rfl))⟩
  f18 := ⟨"slices.partitionOrdered[int]", of_decide_eq_true (by kernel_rfl), Tryz.func100.trans (congrArg some (by kernel_rfl))⟩
  f19 := Tryz.func77.trans (congrArg some (by kernel_rfl))
  f20 := Tryz.func78.trans (congrArg some (by kernel_rfl))
  f30 := ⟨"slices.siftDownOrdered[int]", of_decide_eq_true (by kernel_rfl), Tryz.func115.trans (congrArg some (by kernel_rfl))⟩
  f31 := Tryz.func102.trans (congrArg some (by kernel_rfl))
  f32 := Tryz.func103.trans (congrArg some (by kernel_rfl))
  f33 := ⟨"slices.medianAdjacentOrdered[int]", of_decide_eq_true (by kernel_rfl), Tryz.func116.trans (congrArg some (by kernel_rfl))⟩
  f34 := ⟨"slices.medianOrdered[int]", of_decide_eq_true (by kernel_rfl), Tryz.func117.trans (congrArg some (by kernel_rfl))⟩
  f35 := ⟨"cmp.isNaN[int]", of_decide_eq_true (by kernel_rfl), Tryz.func118.trans (congrArg some (by kernel_rfl))⟩
  f40 := ⟨"slices.order2Ordered[int]", of_decide_eq_true (by kernel_rfl), Tryz.func125.trans (congrArg some (by kernel_rfl))⟩
  t0 := Tryz.underlying0
  a0 := Tryz.isAgg0
  z0 := Tryz.sizeOf0
  v0 := Tryz.zeroValue0
  t3 := Tryz.underlying3
  a3 := Tryz.isAgg3
  z3 := Tryz.sizeOf3
  v3 := Tryz.zeroValue3
  t4 := Tryz.underlying4
  a4 := Tryz.isAgg4
  z4 := Tryz.sizeOf4
  v4 := Tryz.zeroValue4
  t5 := Tryz.underlying5
  a5 := Tryz.isAgg5
  z5 := Tryz.sizeOf5
  v5 := Tryz.zeroValue5
  t9 := Tryz.underlying9
  a9 := Tryz.isAgg9
  z9 := Tryz.sizeOf9
  v9 := Tryz.zeroValue9
  t22 := Tryz.underlying29
  a22 := Tryz.isAgg29
  z22 := Tryz.sizeOf29
  v22 := Tryz.zeroValue29
  t23 := Tryz.underlying29
  a23 := Tryz.isAgg29
  z23 := Tryz.sizeOf29
  v23 := Tryz.zeroValue29
  t25 := Tryz.underlying3
  a25 := Tryz.isAgg3
  z25 := Tryz.sizeOf3
  v25 := Tryz.zeroValue3
  t32 := Tryz.underlying86
  a32 := Tryz.isAgg86
  z32 := Tryz.sizeOf86
  v32 := Tryz.zeroValue86
  t35 := Tryz.underlying104
  a35 := Tryz.isAgg104
  z35 := Tryz.sizeOf104
  v35 := Tryz.zeroValue104
  t36 := Tryz.underlying105
  a36 := Tryz.isAgg105
  z36 := Tryz.sizeOf105
  v36 := Tryz.zeroValue105
  t41 := Tryz.underlying80
  a41 := Tryz.isAgg80
  z41 := Tryz.sizeOf80
  v41 := Tryz.zeroValue80
  t44 := Tryz.underlying50
  a44 := Tryz.isAgg50
  z44 := Tryz.sizeOf50
  v44 := Tryz.zeroValue50
  t46 := Tryz.underlying89
  a46 := Tryz.isAgg89
  z46 := Tryz.sizeOf89
  v46 := Tryz.zeroValue89
  t53 := Tryz.underlying126
  a53 := Tryz.isAgg126
  z53 := Tryz.sizeOf126
  v53 := Tryz.zeroValue126
  t57 := Tryz.underlying130
  a57 := Tryz.isAgg130
  z57 := Tryz.sizeOf130
  v57 := Tryz.zeroValue130
  t63 := Tryz.underlying144
  a63 := Tryz.isAgg144
  z63 := Tryz.sizeOf144
  v63 := Tryz.zeroValue144
  t64 := Tryz.underlying145
  a64 := Tryz.isAgg145
  z64 := Tryz.sizeOf145
  v64 := Tryz.zeroValue145
def sort53_ren : Go.Shelf.Ren := { f := fun x => match x with | 5 => 53 | 8 => 59 | 7 => 67 | 19 => 77 | 20 => 78 | 10 => 83 | 11 => 84 | 12 => 85 | 13 => 86 | 14 => 87 | 15 => 88 | 16 => 89 | 17 => 90 | 18 => 91 | 30 => 112 | 31 => 102 | 32 => 103 | 33 => 113 | 34 => 114 | 35 => 79 | 40 => 124 | n => n, t := fun x => match x with | 23 => 23 | 25 => 24 | 3 => 3 | 32 => 86 | 22 => 23 | 0 => 0 | 44 => 50 | 46 => 89 | 4 => 4 | 36 => 105 | 35 => 104 | 41 => 80 | 5 => 5 | 9 => 9 | 53 => 126 | 57 => 130 | 63 => 144 | 64 => 145 | n => n, g := fun x => have n := x; n }
theorem sort53 : Go.Proofs.SlLaysM.n5 Tryz.prog sort53_ren where
  mixed := by kernel_rfl
  f5 := ⟨"slices.Sort[[]chancel/atom.Atom,chancel/atom.Atom]", of_decide_eq_true (by kernel_rfl), Tryz.func53.trans (congrArg some (by kernel_rfl))⟩
  f7 := ⟨"slices.pdqsortOrdered[chancel/atom.Atom]", of_decide_eq_true (by kernel_rfl), Tryz.func67.trans (congrArg some (by kernel_rfl))⟩
  f8 := Tryz.func59.trans (congrArg some (by kernel_rfl))
  f10 := ⟨"slices.insertionSortOrdered[chancel/atom.Atom]", of_decide_eq_true (by kernel_rfl), Tryz.func83.trans (congrArg some (by kernel_rfl))⟩
  f11 := ⟨"slices.heapSortOrdered[chancel/atom.Atom]", of_decide_eq_true (by kernel_rfl), Tryz.func84.trans (congrArg some (by kernel_rfl))⟩
  f12 := ⟨"slices.breakPatternsOrdered[chancel/atom.Atom]", of_decide_eq_true (by kernel_rfl), Tryz.func85.trans (congrArg some (by kernel_rfl))⟩
  f13 := ⟨"slices.choosePivotOrdered[chancel/atom.Atom]", of_decide_eq_true (by kernel_rfl), Tryz.func86.trans (congrArg some (by kernel_rfl))⟩
  f14 := ⟨"slices.reverseRangeOrdered[chancel/atom.Atom]", of_decide_eq_true (by kernel_rfl), Tryz.func87.trans (congrArg some (by kernel_rfl))⟩
  f15 := ⟨"slices.partialInsertionSortOrdered[chancel/atom.Atom]", of_decide_eq_true (by kernel_rfl), Tryz.func88.trans (congrArg some (by kernel_rfl))⟩
  f16 := ⟨"cmp.Less[chancel/atom.Atom]", of_decide_eq_true (by kernel_rfl), Tryz.func89.trans (congrArg some (by kernel_rfl))⟩
  f17 := ⟨"slices.partitionEqualOrdered[chancel/atom.Atom]", of_decide_eq_true (by kernel_rfl), Tryz.func90.trans (congrArg some (by kernel_rfl))⟩
  f18 := ⟨"slices.partitionOrdered[chancel/atom.Atom]", of_decide_eq_true (by kernel_rfl), Tryz.func91.trans (congrArg some (by kernel_rfl))⟩
  f19 := Tryz.func77.trans (congrArg some (by kernel_rfl))
  f20 := Tryz.func78.trans (congrArg some (by kernel_rfl))
  f30 := ⟨"slices.siftDownOrdered[chancel/atom.Atom]", of_decide_eq_true (by kernel_rfl), Tryz.func112.trans (congrArg some (by kernel_rfl))⟩
  f31 := Tryz.func102.trans (congrArg some (by kernel_rfl))
  f32 := Tryz.func103.trans (congrArg some (by kernel_rfl))
  f33 := ⟨"slices.medianAdjacentOrdered[chancel/atom.Atom]", of_decide_eq_true (by kernel_rfl), Tryz.func113.trans (congrArg some (by kernel_rfl))⟩
  f34 := ⟨"slices.medianOrdered[chancel/atom.Atom]", of_decide_eq_true (by kernel_rfl), Tryz.func114.trans (congrArg some (by kernel_rfl))⟩
  f35 := ⟨"cmp.isNaN[chancel/atom.Atom]", of_decide_eq_true (by kernel_rfl), Tryz.func79.trans (congrArg some (by kernel_rfl))⟩
  f40 := ⟨"slices.order2Ordered[chancel/atom.Atom]", of_decide_eq_true (by kernel_rfl), Tryz.func124.trans (congrArg some (by kernel_rfl))⟩
  t0 := Tryz.underlying0
  a0 := Tryz.isAgg0
  z0 := Tryz.sizeOf0
  v0 := Tryz.zeroValue0
  t3 := Tryz.underlying3
  a3 := Tryz.isAgg3
  z3 := Tryz.sizeOf3
  v3 := Tryz.zeroValue3
  t4 := Tryz.underlying4
  a4 := Tryz.isAgg4
  z4 := Tryz.sizeOf4
  v4 := Tryz.zeroValue4
  t5 := Tryz.underlying5
  a5 := Tryz.isAgg5
  z5 := Tryz.sizeOf5
  v5 := Tryz.zeroValue5
  t9 := Tryz.underlying9
  a9 := Tryz.isAgg9
  z9 := Tryz.sizeOf9
  v9 := Tryz.zeroValue9
  t22 := Tryz.underlying23
  a22 := Tryz.isAgg23
  z22 := Tryz.sizeOf23
  v22 := Tryz.zeroValue23
  t23 := Tryz.underlying23
  a23 := Tryz.isAgg23
  z23 := Tryz.sizeOf23
  v23 := Tryz.zeroValue23
  t25 := Tryz.underlying24
  a25 := Tryz.isAgg24
  z25 := Tryz.sizeOf24
  v25 := Tryz.zeroValue24
  t32 := Tryz.underlying86
  a32 := Tryz.isAgg86
  z32 := Tryz.sizeOf86
  v32 := Tryz.zeroValue86
  t35 := Tryz.underlying104
  a35 := Tryz.isAgg104
  z35 := Tryz.sizeOf104
  v35 := Tryz.zeroValue104
  t36 := Tryz.underlying105
  a36 := Tryz.isAgg105
  z36 := Tryz.sizeOf105
  v36 := Tryz.zeroValue105
  t41 := Tryz.underlying80
  a41 := Tryz.isAgg80
  z41 := Tryz.sizeOf80
  v41 := Tryz.zeroValue80
  t44 := Tryz.underlying50
  a44 := Tryz.isAgg50
  z44 := Tryz.sizeOf50
  v44 := Tryz.zeroValue50
  t46 := Tryz.underlying89
  a46 := Tryz.isAgg89
  z46 := Tryz.sizeOf89
  v46 := Tryz.zeroValue89
  t53 := Tryz.underlying126
  a53 := Tryz.isAgg126
  z53 := Tryz.sizeOf126
  v53 := Tryz.zeroValue126
  t57 := Tryz.underlying130
  a57 := Tryz.isAgg130
  z57 := Tryz.sizeOf130
  v57 := Tryz.zeroValue130
  t63 := Tryz.underlying144
  a63 := Tryz.isAgg144
  z63 := Tryz.sizeOf144
  v63 := Tryz.zeroValue144
  t64 := Tryz.underlying145
  a64 := Tryz.isAgg145
  z64 := Tryz.sizeOf145
  v64 := Tryz.zeroValue145
end Go.Proofs.YtdacialfjlcboaaGreatDoor

/- The library's contract of sorting by a comparison, at this program's numbers (printed by a tool of mine; each line is compared by the kernel). -/
namespace Go.Proofs.YtdacialfjlcboaaGreatDoor
set_option linter.unusedVariables false
set_option linter.unusedSimpArgs false
set_option maxRecDepth 100000
open Go.RowKit Go.Shelf
def sort41_ren : Go.Shelf.Ren := { f := fun x => match x with | 6 => 41 | 15 => 59 | 14 => 58 | 28 => 77 | 29 => 78 | 20 => 69 | 21 => 70 | 22 => 71 | 23 => 72 | 24 => 73 | 25 => 74 | 26 => 75 | 27 => 76 | 46 => 101 | 47 => 102 | 48 => 103 | 49 => 104 | 50 => 105 | 57 => 119 | n => n, t := fun x => match x with | 22 => 22 | 24 => 53 | 25 => 69 | 3 => 3 | 39 => 86 | 0 => 0 | 53 => 50 | 55 => 89 | 4 => 4 | 46 => 105 | 45 => 104 | 50 => 80 | 5 => 5 | 9 => 9 | 66 => 126 | 70 => 130 | 76 => 144 | 77 => 145 | n => n, g := fun x => have n := x; n }
theorem sort41 : Go.Proofs.SlLaysF0.n6 Tryz.prog sort41_ren where
  mixed := by kernel_rfl
  f6 := ⟨"slices.SortFunc[[]chancel/atom.Pair,chancel/atom.Pair]", of_decide_eq_true (by kernel_rfl), Tryz.func41.trans (congrArg some (by kernel_rfl))⟩
  f14 := ⟨"slices.pdqsortCmpFunc[chancel/atom.Pair]", of_decide_eq_true (by kernel_rfl), Tryz.func58.trans (congrArg some (by kernel_rfl))⟩
  f15 := Tryz.func59.trans (congrArg some (by kernel_rfl))
  f20 := ⟨"slices.insertionSortCmpFunc[chancel/atom.Pair]", of_decide_eq_true (by kernel_rfl), Tryz.func69.trans (congrArg some (by kernel_rfl))⟩
  f21 := ⟨"slices.heapSortCmpFunc[chancel/atom.Pair]", of_decide_eq_true (by kernel_rfl), Tryz.func70.trans (congrArg some (by kernel_rfl))⟩
  f22 := ⟨"slices.breakPatternsCmpFunc[chancel/atom.Pair]", of_decide_eq_true (by kernel_rfl), Tryz.func71.trans (congrArg some (by kernel_rfl))⟩
  f23 := ⟨"slices.choosePivotCmpFunc[chancel/atom.Pair]", of_decide_eq_true (by kernel_rfl), Tryz.func72.trans (congrArg some (by kernel_rfl))⟩
  f24 := ⟨"slices.reverseRangeCmpFunc[chancel/atom.Pair]", of_decide_eq_true (by kernel_rfl), Tryz.func73.trans (congrArg some (by kernel_rfl))⟩
  f25 := ⟨"slices.partialInsertionSortCmpFunc[chancel/atom.Pair]", of_decide_eq_true (by kernel_rfl), Tryz.func74.trans (congrArg some (by kernel_rfl))⟩
  f26 := ⟨"slices.partitionEqualCmpFunc[chancel/atom.Pair]", of_decide_eq_true (by kernel_rfl), Tryz.func75.trans (congrArg some (by kernel_rfl))⟩
  f27 := ⟨"slices.partitionCmpFunc[chancel/atom.Pair]", of_decide_eq_true (by kernel_rfl), Tryz.func76.trans (congrArg some (by kernel_rfl))⟩
  f28 := Tryz.func77.trans (congrArg some (by kernel_rfl))
  f29 := Tryz.func78.trans (congrArg some (by kernel_rfl))
  f46 := ⟨"slices.siftDownCmpFunc[chancel/atom.Pair]", of_decide_eq_true (by kernel_rfl), Tryz.func101.trans (congrArg some (by kernel_rfl))⟩
  f47 := Tryz.func102.trans (congrArg some (by kernel_rfl))
  f48 := Tryz.func103.trans (congrArg some (by kernel_rfl))
  f49 := ⟨"slices.medianAdjacentCmpFunc[chancel/atom.Pair]", of_decide_eq_true (by kernel_rfl), Tryz.func104.trans (congrArg some (by kernel_rfl))⟩
  f50 := ⟨"slices.medianCmpFunc[chancel/atom.Pair]", of_decide_eq_true (by kernel_rfl), Tryz.func105.trans (congrArg some (by kernel_rfl))⟩
  f57 := ⟨"slices.order2CmpFunc[chancel/atom.Pair]", of_decide_eq_true (by kernel_rfl), Tryz.func119.trans (congrArg some (by kernel_rfl))⟩
  t0 := Tryz.underlying0
  a0 := Tryz.isAgg0
  z0 := Tryz.sizeOf0
  v0 := Tryz.zeroValue0
  t3 := Tryz.underlying3
  a3 := Tryz.isAgg3
  z3 := Tryz.sizeOf3
  v3 := Tryz.zeroValue3
  t4 := Tryz.underlying4
  a4 := Tryz.isAgg4
  z4 := Tryz.sizeOf4
  v4 := Tryz.zeroValue4
  t5 := Tryz.underlying5
  a5 := Tryz.isAgg5
  z5 := Tryz.sizeOf5
  v5 := Tryz.zeroValue5
  t9 := Tryz.underlying9
  a9 := Tryz.isAgg9
  z9 := Tryz.sizeOf9
  v9 := Tryz.zeroValue9
  t22 := Tryz.underlying22
  a22 := Tryz.isAgg22
  z22 := Tryz.sizeOf22
  v22 := Tryz.zeroValue22
  t25 := Tryz.underlying69
  a25 := Tryz.isAgg69
  z25 := Tryz.sizeOf69
  v25 := Tryz.zeroValue69
  t39 := Tryz.underlying86
  a39 := Tryz.isAgg86
  z39 := Tryz.sizeOf86
  v39 := Tryz.zeroValue86
  t45 := Tryz.underlying104
  a45 := Tryz.isAgg104
  z45 := Tryz.sizeOf104
  v45 := Tryz.zeroValue104
  t46 := Tryz.underlying105
  a46 := Tryz.isAgg105
  z46 := Tryz.sizeOf105
  v46 := Tryz.zeroValue105
  t50 := Tryz.underlying80
  a50 := Tryz.isAgg80
  z50 := Tryz.sizeOf80
  v50 := Tryz.zeroValue80
  t53 := Tryz.underlying50
  a53 := Tryz.isAgg50
  z53 := Tryz.sizeOf50
  v53 := Tryz.zeroValue50
  t55 := Tryz.underlying89
  a55 := Tryz.isAgg89
  z55 := Tryz.sizeOf89
  v55 := Tryz.zeroValue89
  t66 := Tryz.underlying126
  a66 := Tryz.isAgg126
  z66 := Tryz.sizeOf126
  v66 := Tryz.zeroValue126
  t70 := Tryz.underlying130
  a70 := Tryz.isAgg130
  z70 := Tryz.sizeOf130
  v70 := Tryz.zeroValue130
  t76 := Tryz.underlying144
  a76 := Tryz.isAgg144
  z76 := Tryz.sizeOf144
  v76 := Tryz.zeroValue144
  t77 := Tryz.underlying145
  a77 := Tryz.isAgg145
  z77 := Tryz.sizeOf145
  v77 := Tryz.zeroValue145
end Go.Proofs.YtdacialfjlcboaaGreatDoor

/- The library's contract of the decimal numeral, at this program's numbers (printed by a tool of mine; each line is compared by the kernel). -/
namespace Go.Proofs.YtdacialfjlcboaaGreatDoor
set_option linter.unusedVariables false
set_option linter.unusedSimpArgs false
set_option maxRecDepth 100000
open Go.RowKit Go.Shelf
def lays_ren : Go.Shelf.Ren := { f := fun x => match x with | 171 => 50 | 243 => 62 | 246 => 80 | 283 => 106 | 284 => 107 | 285 => 108 | 286 => 109 | 129 => 78 | 317 => 120 | 318 => 121 | 319 => 122 | 320 => 123 | 337 => 126 | 338 => 127 | n => n, t := fun x => match x with | 3 => 3 | 9 => 9 | 2 => 2 | 4 => 4 | 171 => 132 | 0 => 0 | 53 => 89 | 37 => 92 | 5 => 5 | 173 => 134 | 212 => 148 | 51 => 50 | 20 => 20 | 213 => 149 | 46 => 86 | 232 => 152 | 233 => 153 | n => n, g := fun x => match x with | 17 => 0 | 18 => 2 | 19 => 3 | n => n }
theorem lays : LaysM.n171 Tryz.prog lays_ren where
  mixed := by kernel_rfl
  f129 := Tryz.func78.trans (congrArg some (by kernel_rfl))
  f171 := Tryz.func50.trans (congrArg some (by kernel_rfl))
  f243 := Tryz.func62.trans (congrArg some (by kernel_rfl))
  f246 := Tryz.func80.trans (congrArg some (by kernel_rfl))
  f283 := Tryz.func106.trans (congrArg some (by kernel_rfl))
  f284 := Tryz.func107.trans (congrArg some (by kernel_rfl))
  f285 := Tryz.func108.trans (congrArg some (by kernel_rfl))
  f286 := Tryz.func109.trans (congrArg some (by kernel_rfl))
  f317 := Tryz.func120.trans (congrArg some (by kernel_rfl))
  f318 := Tryz.func121.trans (congrArg some (by kernel_rfl))
  f319 := Tryz.func122.trans (congrArg some (by kernel_rfl))
  f320 := Tryz.func123.trans (congrArg some (by kernel_rfl))
  f337 := Tryz.func126.trans (congrArg some (by kernel_rfl))
  f338 := Tryz.func127.trans (congrArg some (by kernel_rfl))
  t0 := Tryz.underlying0
  a0 := Tryz.isAgg0
  z0 := Tryz.sizeOf0
  v0 := Tryz.zeroValue0
  t2 := Tryz.underlying2
  a2 := Tryz.isAgg2
  z2 := Tryz.sizeOf2
  v2 := Tryz.zeroValue2
  t3 := Tryz.underlying3
  a3 := Tryz.isAgg3
  z3 := Tryz.sizeOf3
  v3 := Tryz.zeroValue3
  t4 := Tryz.underlying4
  a4 := Tryz.isAgg4
  z4 := Tryz.sizeOf4
  v4 := Tryz.zeroValue4
  t5 := Tryz.underlying5
  a5 := Tryz.isAgg5
  z5 := Tryz.sizeOf5
  v5 := Tryz.zeroValue5
  t9 := Tryz.underlying9
  a9 := Tryz.isAgg9
  z9 := Tryz.sizeOf9
  v9 := Tryz.zeroValue9
  t20 := Tryz.underlying20
  a20 := Tryz.isAgg20
  z20 := Tryz.sizeOf20
  v20 := Tryz.zeroValue20
  t37 := Tryz.underlying92
  a37 := Tryz.isAgg92
  z37 := Tryz.sizeOf92
  v37 := Tryz.zeroValue92
  t46 := Tryz.underlying86
  a46 := Tryz.isAgg86
  z46 := Tryz.sizeOf86
  v46 := Tryz.zeroValue86
  t51 := Tryz.underlying50
  a51 := Tryz.isAgg50
  z51 := Tryz.sizeOf50
  v51 := Tryz.zeroValue50
  t53 := Tryz.underlying89
  a53 := Tryz.isAgg89
  z53 := Tryz.sizeOf89
  v53 := Tryz.zeroValue89
  t171 := Tryz.underlying132
  a171 := Tryz.isAgg132
  z171 := Tryz.sizeOf132
  v171 := Tryz.zeroValue132
  t173 := Tryz.underlying134
  a173 := Tryz.isAgg134
  z173 := Tryz.sizeOf134
  v173 := Tryz.zeroValue134
  t212 := Tryz.underlying148
  a212 := Tryz.isAgg148
  z212 := Tryz.sizeOf148
  v212 := Tryz.zeroValue148
  t213 := Tryz.underlying149
  a213 := Tryz.isAgg149
  z213 := Tryz.sizeOf149
  t232 := Tryz.underlying152
  a232 := Tryz.isAgg152
  z232 := Tryz.sizeOf152
  v232 := Tryz.zeroValue152
  t233 := Tryz.underlying153
  a233 := Tryz.isAgg153
  z233 := Tryz.sizeOf153
  v233 := Tryz.zeroValue153
  g17 := by kernel_rfl
  g18 := by kernel_rfl
  g19 := by kernel_rfl
  i0 := by kernel_rfl
  i2 := by kernel_rfl
  i3 := by kernel_rfl
  i4 := by kernel_rfl
  i5 := by kernel_rfl
  i9 := by kernel_rfl
  i20 := by kernel_rfl
  i37 := by kernel_rfl
  i46 := by kernel_rfl
  i51 := by kernel_rfl
  i53 := by kernel_rfl
  i171 := by kernel_rfl
  i173 := by kernel_rfl
  i212 := by kernel_rfl
  i232 := by kernel_rfl
  i233 := by kernel_rfl
  m17 := by kernel_rfl
  m18 := by kernel_rfl
  m19 := by kernel_rfl
end Go.Proofs.YtdacialfjlcboaaGreatDoor

/- The library's contract of joined texts, at this program's numbers (printed by a tool of mine; each line is compared by the kernel). -/
namespace Go.Proofs.YtdacialfjlcboaaGreatDoor
set_option linter.unusedVariables false
set_option linter.unusedSimpArgs false
set_option maxRecDepth 100000
open Go.RowKit Go.Shelf
def joins_ren : Go.Shelf.Ren := { f := fun x => match x with | 156 => 52 | 165 => 64 | 166 => 65 | 169 => 66 | 240 => 81 | 241 => 82 | 276 => 110 | 277 => 111 | n => n, t := fun x => match x with | 31 => 25 | 9 => 9 | 3 => 3 | 4 => 4 | 0 => 0 | 20 => 20 | 72 => 94 | 76 => 98 | 70 => 91 | 37 => 92 | 75 => 97 | 127 => 113 | 164 => 136 | 5 => 5 | 80 => 100 | n => n, g := fun x => have n := x; n }
theorem joins : Lays.n156 Tryz.prog joins_ren where
  mixed := by kernel_rfl
  f156 := Tryz.func52.trans (congrArg some (by kernel_rfl))
  f165 := Tryz.func64.trans (congrArg some (by kernel_rfl))
  f166 := Tryz.func65.trans (congrArg some (by kernel_rfl))
  f169 := Tryz.func66.trans (congrArg some (by kernel_rfl))
  f240 := Tryz.func81.trans (congrArg some (by kernel_rfl))
  f241 := Tryz.func82.trans (congrArg some (by kernel_rfl))
  f276 := Tryz.func110.trans (congrArg some (by kernel_rfl))
  f277 := Tryz.func111.trans (congrArg some (by kernel_rfl))
  t0 := Tryz.underlying0
  a0 := Tryz.isAgg0
  z0 := Tryz.sizeOf0
  v0 := Tryz.zeroValue0
  t3 := Tryz.underlying3
  a3 := Tryz.isAgg3
  z3 := Tryz.sizeOf3
  v3 := Tryz.zeroValue3
  t4 := Tryz.underlying4
  a4 := Tryz.isAgg4
  z4 := Tryz.sizeOf4
  v4 := Tryz.zeroValue4
  t9 := Tryz.underlying9
  a9 := Tryz.isAgg9
  z9 := Tryz.sizeOf9
  v9 := Tryz.zeroValue9
  t20 := Tryz.underlying20
  a20 := Tryz.isAgg20
  z20 := Tryz.sizeOf20
  v20 := Tryz.zeroValue20
  t31 := Tryz.underlying25
  a31 := Tryz.isAgg25
  z31 := Tryz.sizeOf25
  v31 := Tryz.zeroValue25
  t37 := Tryz.underlying92
  a37 := Tryz.isAgg92
  z37 := Tryz.sizeOf92
  v37 := Tryz.zeroValue92
  t70 := Tryz.underlying91
  a70 := Tryz.isAgg91
  z70 := Tryz.sizeOf91
  v70 := Tryz.zeroValue91
  t72 := Tryz.underlying94
  a72 := Tryz.isAgg94
  z72 := Tryz.sizeOf94
  v72 := Tryz.zeroValue94
  t75 := Tryz.underlying97
  a75 := Tryz.isAgg97
  z75 := Tryz.sizeOf97
  v75 := Tryz.zeroValue97
  t76 := Tryz.underlying98
  a76 := Tryz.isAgg98
  z76 := Tryz.sizeOf98
  v76 := Tryz.zeroValue98
  t127 := Tryz.underlying113
  a127 := Tryz.isAgg113
  z127 := Tryz.sizeOf113
  v127 := Tryz.zeroValue113
  t164 := Tryz.underlying136
  a164 := Tryz.isAgg136
  z164 := Tryz.sizeOf136
  v164 := Tryz.zeroValue136
theorem extra : Builder.Extra Tryz.prog joins_ren where
  sizeBuilder := by kernel_rfl
  liesBuilder := by kernel_rfl
  t5 := Tryz.underlying5
  a5 := Tryz.isAgg5
  z5 := Tryz.sizeOf5
  v5 := Tryz.zeroValue5
  infoByte := by kernel_rfl
  cellsByte := by kernel_rfl
  sizeByte := by kernel_rfl
  neB5 := by decide
end Go.Proofs.YtdacialfjlcboaaGreatDoor

/- Sorting, by the library's contracts: numbers. -/
namespace Go.Proofs.YtdacialfjlcboaaGreatDoor
set_option linter.unusedVariables false
set_option linter.unusedSimpArgs false
set_option maxRecDepth 100000
open Go.RowKit Go.Shelf Fw

def leI (x y : Int) : Bool := decide (x ≤ y)

theorem flatI (zs : List Int) : (zs.map I1).flatten = zs.map (PV.int .i64) := by
  induction zs with
  | nil => rfl
  | cons z zs ih => rw [List.map_cons, List.flatten_cons, ih]; rfl

theorem sortInts {ρ : Ren} (L : SlLaysM.n5 Tryz.prog ρ) (Γ : Nat → PV) (H : List Blk) (b : Nat) (zs : List Int) (hb : H[b]? = some (.row 1 ((zs.map I1).flatten))) (hlen : zs.length ≤ 1000000000000) :
    ACalls Tryz.prog Γ (ρ.f 5) [.row b 0 zs.length 1] H (fun p H' => p = .tup [] ∧ H' = H.set b (.row 1 (((zs.mergeSort leI).map I1).flatten))) := by
  intro w0 G w us hs hr
  obtain ⟨l⟩ := us
  obtain ⟨v, vs, rfl, r1, r2⟩ := hr.cons_inv
  have : vs = [] := by have := r2.1; simpa using this.symm
  subst this
  rw [flatI] at hb
  rw [flatI]
  have hms : (fun x y : Int => decide (x ≤ y)) = leI := rfl
  have hml : (zs.mergeSort leI).length = zs.length := List.length_mergeSort _
  obtain ⟨ad, cap, rfl, hcase⟩ := hs.rowCells hb (by simp) r1
  rcases hcase with h0 | ⟨rfl, hsub, hpos, hblk, hcells⟩
  · obtain rfl := List.eq_nil_of_length_eq_zero h0
    refine callsIn_wide.2 ((AnyM.slices_Sort_int_none L ad cap w).mono fun e w' hq => ?_)
    obtain ⟨rfl, rfl⟩ := hq
    refine ⟨_, _, H, G, rfl, hs, .tup _ _ _ rfl (fun i c v h => by simp at h), Evol.refl _ _, Nat.le_refl _, rfl, ?_⟩
    obtain ⟨g1, g2⟩ := List.getElem?_eq_some_iff.1 hb
    show H = H.set b _
    rw [List.mergeSort_nil, ← g2]
    exact (List.set_getElem_self _).symm
  · have hH : Sort.Holds (Value.int .i64) w (G.info b).blk 0 zs.toArray := fun j hj => by
      have hj' : j < zs.length := by simpa using hj
      obtain ⟨u, g1, g2, g3, _⟩ := hcells j (.int .i64 zs[j]) (by rw [List.getElem?_map, List.getElem?_eq_getElem hj']; rfl)
      rw [Nat.zero_add, g1, g2, g3.int_inv, getElem!_pos zs.toArray j hj]
      exact ⟨rfl, rfl⟩
    refine callsIn_wide.2 ((AnyM.slices_Sort_int L (G.info b).blk 0 cap zs w hH hblk (by omega)).mono fun e w' hq => ?_)
    obtain ⟨rfl, n, os, rfl⟩ := hq
    rw [hms, putRow_enc]
    have hr' : Reps G H.length ((zs.mergeSort leI).map (PV.int .i64)) ((zs.mergeSort leI).toArray.map (Value.int .i64)).toList := by
      refine ⟨by simp, fun i p v h1 h2 => ?_⟩
      simp only [Array.toList_map, List.getElem?_map] at h1 h2
      obtain ⟨x, hx, rfl⟩ := Option.map_eq_some_iff.1 h1
      rw [hx] at h2
      simp at h2
      subst h2
      exact .int _ _ _
    have hsim := ((hs.drawn n).putRow0 hb hsub hpos (ys := (zs.mergeSort leI).map (PV.int .i64)) (by simp [hml]) hr' (fun j u hu => by
      simp only [Array.getElem?_map] at hu
      obtain ⟨x, _, rfl⟩ := Option.map_eq_some_iff.1 hu
      rfl)).grow 0 os
    refine ⟨_, _, _, G, rfl, hsim, .tup _ _ _ rfl (fun i c v h => by simp at h), Evol.refl _ _, by simp, rfl, rfl⟩

end Go.Proofs.YtdacialfjlcboaaGreatDoor

/- Sorting, by the library's contracts: pairs, by the walked comparison. -/
namespace Go.Proofs.YtdacialfjlcboaaGreatDoor
set_option linter.unusedVariables false
set_option linter.unusedSimpArgs false
set_option maxRecDepth 100000
open Go.RowKit Go.Shelf Fw
open Go.Sort (flatK get_flatK size_flatK HoldsK)

def leP (x y : Pr) : Bool := decide (x.a < y.a ∨ (x.a = y.a ∧ x.b ≤ y.b))
def cmpPr (x y : Pr) : Int := Dr.cmpP x.a x.b y.a y.b
def encV (x : Pr) : List Value := [.int .i64 x.a, .int .i64 x.b]

theorem lt_iff (x y : Pr) : ltOf cmpPr x y = decide (x.a < y.a ∨ (x.a = y.a ∧ x.b < y.b)) := by
  unfold ltOf
  refine decide_eq_decide.2 ?_
  unfold cmpPr Dr.cmpP Dr.orI Dr.cmpI
  (repeat' split) <;> omega

theorem pr_ext {x y : Pr} (h1 : x.a = y.a) (h2 : x.b = y.b) : x = y := by
  cases x; cases y; simp at h1 h2; subst h1 h2; rfl

theorem swo : Sort.SWO (ltOf cmpPr) where
  irrefl x := by rw [lt_iff]; simp
  trans x y z h1 h2 := by
    rw [lt_iff] at h1 h2 ⊢
    simp only [decide_eq_true_eq] at h1 h2 ⊢
    omega
  ntrans x y z h1 h2 := by
    rw [lt_iff] at h1 h2 ⊢
    simp only [decide_eq_false_iff_not] at h1 h2 ⊢
    omega

theorem le_eq : (fun x y => !(ltOf cmpPr) y x) = leP := by
  funext x y
  rw [lt_iff, leP, ← decide_not]
  refine decide_eq_decide.2 ?_
  omega

theorem flatP (l : List Pr) (j : Nat) : (l.map Pr.enc).flatten[j]? = (l[j / 2]?).bind fun p => p.enc[j % 2]? := by
  induction l generalizing j with
  | nil => rfl
  | cons p l ih =>
    rw [List.map_cons, List.flatten_cons]
    match j with
    | 0 => rfl
    | 1 => rfl
    | j + 2 =>
      rw [List.getElem?_append_right (by rw [Pr.enc_len]; omega), Pr.enc_len, show j + 2 - 2 = j by omega, ih, show (j + 2) / 2 = j / 2 + 1 by omega, show (j + 2) % 2 = j % 2 by omega]
      rfl

theorem flatV (l : List Pr) (j : Nat) (h : j < l.length * 2) : ∃ z : Int, (l.map Pr.enc).flatten[j]? = some (.int .i64 z) ∧ (flatK encV 2 l.toArray)[j]! = .int .i64 z := by
  have h2 : j / 2 < l.length := by omega
  rw [flatP, get_flatK _ _ _ _ (by simpa using h), List.getElem?_eq_getElem h2, getElem!_pos l.toArray (j / 2) (by simpa using h2)]
  rcases Nat.mod_two_eq_zero_or_one j with e | e
  · exact ⟨l[j / 2].a, by rw [e]; rfl, by rw [e]; rfl⟩
  · exact ⟨l[j / 2].b, by rw [e]; rfl, by rw [e]; rfl⟩

theorem sortPairs (Γ : Nat → PV) (H : List Blk) (b : Nat) (l : List Pr) (hb : H[b]? = some (.row 2 ((l.map Pr.enc).flatten))) (hlen : l.length ≤ 1000000000000) :
    ACalls Tryz.prog Γ 41 [.row b 0 l.length 2, .func (.func 42) [] []] H (fun p H' => p = .tup [] ∧ H' = H.set b (.row 2 (((l.mergeSort leP).map Pr.enc).flatten))) := by
  intro w0 G w us hs hr
  obtain ⟨us⟩ := us
  obtain ⟨v, vs, rfl, r1, r2⟩ := hr.cons_inv
  obtain ⟨v2, vs, rfl, r3, r4⟩ := r2.cons_inv
  have : vs = [] := by have := r4.1; simpa using this.symm
  subst this
  have hv2 : v2 = .func (.func 42) #[] #[] := by
    cases r3 with
    | func _ _ _ _ fs' cs' e1 e2 e3 e4 =>
      have hf : fs' = #[] := by have := e1; simp at this; exact Array.eq_empty_of_size_eq_zero this.symm
      have hc : cs' = #[] := by have := e2; simp at this; exact Array.eq_empty_of_size_eq_zero this.symm
      rw [hf, hc]
  subst hv2
  have hml : (l.mergeSort leP).length = l.length := List.length_mergeSort _
  have hfl : ∀ l : List Pr, ((l.map Pr.enc).flatten).length = l.length * 2 := fun l => flat_len Pr.enc_len l
  obtain ⟨ad, cap, rfl, hcase⟩ := hs.rowCells hb (hfl l) r1
  rcases hcase with h0 | ⟨rfl, hsub, hpos, hblk, hcells⟩
  · obtain rfl := List.eq_nil_of_length_eq_zero h0
    refine callsIn_wide.2 ((AnyF.slices_SortFunc_none sort41 ad cap (.func (.func 42) #[] #[]) w).mono fun e w' hq => ?_)
    obtain ⟨rfl, rfl⟩ := hq
    refine ⟨_, _, H, G, rfl, hs, .tup _ _ _ rfl (fun i c v h => by simp at h), Evol.refl _ _, Nat.le_refl _, rfl, ?_⟩
    obtain ⟨g1, g2⟩ := List.getElem?_eq_some_iff.1 hb
    show H = H.set b _
    rw [List.mergeSort_nil, ← g2]
    exact (List.set_getElem_self _).symm
  · have hH : HoldsK encV 2 w (G.info b).blk 0 l.toArray := fun j hj => by
      have hj' : j < l.length * 2 := by simpa using hj
      obtain ⟨z, hz1, hz2⟩ := flatV l j hj'
      obtain ⟨u, g1, g2, g3, _⟩ := hcells j _ hz1
      rw [Nat.zero_add, g1, g2, g3.int_inv, hz2]
      exact ⟨rfl, rfl⟩
    have hcmp : CmpLays Tryz.prog 42 #[] encV 2 cmpPr (G.info b).blk 0 l.toArray.size w := fun m os dk _ x y => Dr.order_exact x.a x.b y.a y.b _
    have hc := AnyQ.slices_SortFunc_total sort41 2 Tryz.isAgg53 Tryz.sizeOf53 encV (fun _ => rfl) (fun x v hv => by simp [encV] at hv; rcases hv with rfl | rfl <;> rfl) cmpPr swo 42 #[] (G.info b).blk 0 cap l.toArray w (enters_of Tryz.func42 rfl rfl) hcmp hH hblk (by simp; omega)
      (fun x y h1 h2 => by
        rw [lt_iff] at h1 h2
        simp only [decide_eq_false_iff_not] at h1 h2
        exact pr_ext (by omega) (by omega))
    refine callsIn_wide.2 (hc.mono fun e w' hq => ?_)
    obtain ⟨rfl, n, os, rfl⟩ := hq
    rw [le_eq]
    have hr' : Reps G H.length (((l.mergeSort leP).map Pr.enc).flatten) (flatK encV 2 (l.mergeSort leP).toArray).toList := by
      refine ⟨by have := size_flatK encV 2 (l.mergeSort leP).toArray; rw [hfl]; simp only [List.size_toArray] at this; rw [← this, ← Array.length_toList], fun i p v h1 h2 => ?_⟩
      have hi := (List.getElem?_eq_some_iff.1 h1).1
      rw [hfl] at hi
      obtain ⟨z, hz1, hz2⟩ := flatV _ i hi
      rw [hz1] at h1
      rw [Array.getElem?_toList, Array.getElem?_eq_getElem (by rw [size_flatK]; exact hi), ← getElem!_pos (flatK encV 2 (l.mergeSort leP).toArray) i (by rw [size_flatK]; exact hi), hz2] at h2
      cases h1
      cases h2
      exact .int _ _ _
    have hsim := ((hs.drawn n).putRow0 hb hsub hpos (ys := ((l.mergeSort leP).map Pr.enc).flatten) (by rw [hfl, hfl, hml]) hr' (fun j u hu => by
      have hj := (Array.getElem?_eq_some_iff.1 hu).1
      rw [size_flatK] at hj
      obtain ⟨z, _, hz2⟩ := flatV (l.mergeSort leP) j hj
      rw [Array.getElem?_eq_getElem (by rw [size_flatK]; exact hj), ← getElem!_pos (flatK encV 2 (l.mergeSort leP).toArray) j (by rw [size_flatK]; exact hj), hz2] at hu
      cases hu
      rfl)).grow 0 os
    refine ⟨_, _, _, G, rfl, hsim, .tup _ _ _ rfl (fun i c v h => by simp at h), Evol.refl _ _, by simp, rfl, rfl⟩

end Go.Proofs.YtdacialfjlcboaaGreatDoor
