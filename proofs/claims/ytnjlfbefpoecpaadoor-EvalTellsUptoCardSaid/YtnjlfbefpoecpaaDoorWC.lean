/- What chapter 18's functions speak of: terms, values, bounds, cells, and how they lie in memory. -/
import Derived.Test.YtnjlfbefpoecpaaDoorWB
import Derived.Test.YtnjlfbefpoecpaaDoorProg
namespace Go.Proofs.YtnjlfbefpoecpaaDoor
set_option linter.unusedVariables false
set_option linter.unusedSimpArgs false
set_option maxRecDepth 100000
open Go.RowKit Fw

/-- A term. -/
inductive Tm where
  | mk (kind : Int) (name : List UInt8) (n : Int) (kids : List Tm)

namespace Tm
def kind : Tm → Int | mk k _ _ _ => k
def name : Tm → List UInt8 | mk _ s _ _ => s
def n : Tm → Int | mk _ _ i _ => i
def kids : Tm → List Tm | mk _ _ _ ks => ks

mutual
def enc : Tm → List PV
  | mk k s i ks => [.int .i64 k, .str s, .int .i64 i, .vec (encs ks) false]
def encs : List Tm → List (List PV)
  | [] => []
  | t :: ts => enc t :: encs ts
end

theorem encs_map (l : List Tm) : encs l = l.map enc := by
  induction l with
  | nil => rfl
  | cons t l ih => rw [encs, ih]; rfl

theorem enc_eq (t : Tm) : t.enc = [.int .i64 t.kind, .str t.name, .int .i64 t.n, .vec (t.kids.map enc) false] := by
  cases t; rw [enc, encs_map]; rfl

theorem kids_lt {t k : Tm} (h : k ∈ t.kids) : SizeOf.sizeOf k < SizeOf.sizeOf t := by
  cases t
  have := List.sizeOf_lt_of_mem h
  simp only [kids, mk.sizeOf_spec] at this ⊢
  omega

theorem ext {a b : Tm} (h1 : a.kind = b.kind) (h2 : a.name = b.name) (h3 : a.n = b.n) (h4 : a.kids = b.kids) : a = b := by
  cases a; cases b; simp_all [kind, name, n, kids]

theorem fw : (∀ t : Tm, t.enc.length = 4) ∧ (∀ t : Tm, t.enc[0]? = some (.int .i64 t.kind)) ∧ (∀ t : Tm, t.enc.drop 1 = [.str t.name, .int .i64 t.n, .vec (t.kids.map enc) false]) ∧ (∀ t : Tm, t.enc.drop 2 = [.int .i64 t.n, .vec (t.kids.map enc) false]) ∧
    (∀ t : Tm, t.enc.drop 3 = [.vec (t.kids.map enc) false]) ∧ (∀ t : Tm, t.enc.take 4 = t.enc) ∧ (∀ (t : Tm) (l : List PV), (t.enc ++ l).take 4 = t.enc) ∧ (∀ (m : Nat) (t : Tm), PV.bdL m t.enc = true) ∧ (∀ (t : Tm) (l : List PV) (k : Nat), (t.enc ++ l).drop (k + 4) = l.drop k) ∧ (∀ (t : Tm) (l : List PV) (k : Nat), (t.enc ++ l).take (k + 4) = t.enc ++ l.take k) := by
  refine ⟨?_, ?_, ?_, ?_, ?_, ?_, ?_, ?_, ?_, ?_⟩
  · intro t; rw [enc_eq]; rfl
  · intro t; rw [enc_eq]; rfl
  · intro t; rw [enc_eq]; rfl
  · intro t; rw [enc_eq]; rfl
  · intro t; rw [enc_eq]; rfl
  · intro t; rw [enc_eq]; rfl
  · intro t l; rw [enc_eq]; rfl
  · intro m t; rw [enc_eq]; rfl
  · intro t l k; rw [enc_eq]; rfl
  · intro t l k; rw [enc_eq]; rfl
end Tm

noncomputable instance : DecidableEq Tm := fun _ _ => Classical.propDecidable _

mutual
/-- A value. -/
inductive Val where
  | mk (kind n : Int) (name : List UInt8) (t : Tm) (env : List Bd)
/-- A name, and what it stands for. -/
inductive Bd where
  | mk (name : List UInt8) (v : Val)
end

namespace Val
def kind : Val → Int | mk k _ _ _ _ => k
def n : Val → Int | mk _ i _ _ _ => i
def name : Val → List UInt8 | mk _ _ s _ _ => s
def t : Val → Tm | mk _ _ _ t _ => t
def env : Val → List Bd | mk _ _ _ _ e => e
end Val
namespace Bd
def name : Bd → List UInt8 | mk s _ => s
def v : Bd → Val | mk _ v => v
end Bd

mutual
def Val.enc : Val → List PV
  | .mk k i s t e => .int .i64 k :: .int .i64 i :: .str s :: (t.enc ++ [.vec (Bd.encs e) false])
def Bd.enc : Bd → List PV
  | .mk s v => .str s :: v.enc
def Bd.encs : List Bd → List (List PV)
  | [] => []
  | b :: bs => b.enc :: Bd.encs bs
end

theorem Bd.encs_map (l : List Bd) : Bd.encs l = l.map Bd.enc := by
  induction l with
  | nil => rfl
  | cons t l ih => rw [Bd.encs, ih]; rfl

theorem Val.enc_eq (v : Val) : v.enc = .int .i64 v.kind :: .int .i64 v.n :: .str v.name :: (v.t.enc ++ [.vec (v.env.map Bd.enc) false]) := by
  cases v; rw [Val.enc, Bd.encs_map]; rfl
theorem Bd.enc_eq (b : Bd) : b.enc = .str b.name :: b.v.enc := by cases b; rw [Bd.enc]; rfl

theorem Val.env_lt {v : Val} {b : Bd} (h : b ∈ v.env) : SizeOf.sizeOf b.v < SizeOf.sizeOf v := by
  cases v
  have := List.sizeOf_lt_of_mem h
  cases b
  simp only [Val.env, Bd.v, Val.mk.sizeOf_spec, Bd.mk.sizeOf_spec] at this ⊢
  omega

theorem Val.ext {a b : Val} (h1 : a.kind = b.kind) (h2 : a.n = b.n) (h3 : a.name = b.name) (h4 : a.t = b.t) (h5 : a.env = b.env) : a = b := by
  cases a; cases b; simp_all [Val.kind, Val.n, Val.name, Val.t, Val.env]
theorem Bd.ext {a b : Bd} (h1 : a.name = b.name) (h2 : a.v = b.v) : a = b := by
  cases a; cases b; simp_all [Bd.name, Bd.v]

/-- A term whose lists and names have room. -/
inductive Tm.Ok : Tm → Prop
  | mk (t : Tm) (h1 : t.name.length ≤ reachBytes) (h2 : t.kids.length * 56 ≤ reachBytes) (h3 : ∀ k ∈ t.kids, Tm.Ok k) : Tm.Ok t

theorem flatten_enc {X : Type} (enc : X → List PV) (l : List X) (i : Nat) (x : X) (h : l[i]? = some x) : ((l.take (i + 1)).map enc).flatten = ((l.take i).map enc).flatten ++ enc x := by
  rw [List.take_add_one, h]; simp

theorem flat_len {X : Type} {enc : X → List PV} {sz : Nat} (h : ∀ x, (enc x).length = sz) (l : List X) : ((l.map enc).flatten).length = l.length * sz := by
  rw [flatten_len (sz := sz) (fun e he => by obtain ⟨x, _, rfl⟩ := List.mem_map.1 he; exact h x), List.length_map]

theorem flat_chunk {X : Type} {enc : X → List PV} {sz : Nat} (h : ∀ x, (enc x).length = sz) (l : List X) : chunk sz l.length ((l.map enc).flatten) = l.map enc := by
  have := chunk_flatten (sz := sz) (es := l.map enc) (fun e he => by obtain ⟨x, _, rfl⟩ := List.mem_map.1 he; exact h x)
  rwa [List.length_map] at this

theorem flat_bd {X : Type} {enc : X → List PV} {m : Nat} (h : ∀ x, PV.bdL m (enc x) = true) (l : List X) : PV.bdL m ((l.map enc).flatten) = true := by
  induction l with
  | nil => rfl
  | cons x l ih => rw [List.map_cons, List.flatten_cons, PV.bdL_append, h, ih]; rfl

theorem Tm.enc_len (t : Tm) : t.enc.length = 4 := by rw [Tm.enc_eq]; rfl

theorem Val.fw : (∀ v : Val, v.enc.length = 8) ∧ (∀ v : Val, v.enc[0]? = some (.int .i64 v.kind)) ∧ (∀ v : Val, v.enc.drop 1 = .int .i64 v.n :: .str v.name :: (v.t.enc ++ [.vec (v.env.map Bd.enc) false])) ∧
    (∀ v : Val, v.enc.drop 2 = .str v.name :: (v.t.enc ++ [.vec (v.env.map Bd.enc) false])) ∧ (∀ v : Val, v.enc.drop 3 = v.t.enc ++ [.vec (v.env.map Bd.enc) false]) ∧ (∀ v : Val, v.enc.drop 7 = [.vec (v.env.map Bd.enc) false]) ∧
    (∀ v : Val, v.enc.take 8 = v.enc) ∧ (∀ (v : Val) (l : List PV), (v.enc ++ l).take 8 = v.enc) ∧ (∀ (m : Nat) (v : Val), PV.bdL m v.enc = true) := by
  have h4 : ∀ v : Val, v.enc.length = 8 := fun v => by rw [Val.enc_eq]; simp [Tm.enc_len]
  refine ⟨h4, fun v => by rw [Val.enc_eq]; rfl, fun v => by rw [Val.enc_eq]; rfl, fun v => by rw [Val.enc_eq]; rfl, fun v => by rw [Val.enc_eq]; rfl, fun v => ?_, fun v => List.take_of_length_le (by rw [h4]; exact Nat.le_refl _), fun v l => ?_, fun m v => ?_⟩
  · rw [Val.enc_eq]
    show (v.t.enc ++ _).drop 4 = _
    exact List.drop_left' (Tm.enc_len _)
  · exact List.take_left' (h4 v)
  · rw [Val.enc_eq]
    simp [PV.bdL, PV.bd, PV.bdL_append, Tm.fw]

theorem Bd.fw : (∀ b : Bd, b.enc.length = 9) ∧ (∀ b : Bd, b.enc[0]? = some (.str b.name)) ∧ (∀ (b : Bd) (k : Nat), b.enc.drop (k + 1) = b.v.enc.drop k) ∧ (∀ b : Bd, b.enc.take 9 = b.enc) ∧ (∀ (m : Nat) (b : Bd), PV.bdL m b.enc = true) := by
  have h4 : ∀ b : Bd, b.enc.length = 9 := fun b => by rw [Bd.enc_eq]; simp [Val.fw]
  refine ⟨h4, fun v => by rw [Bd.enc_eq]; rfl, fun v k => by rw [Bd.enc_eq]; rfl, fun v => List.take_of_length_le (by rw [h4]; exact Nat.le_refl _), fun m v => ?_⟩
  rw [Bd.enc_eq]
  simp [PV.bdL, PV.bd, Val.fw]

mutual
/-- Values whose lists and names have room. -/
inductive Val.Ok : Val → Prop
  | mk (v : Val) (h1 : v.name.length ≤ reachBytes) (h2 : v.t.Ok) (h3 : v.env.length * 128 ≤ reachBytes) (h4 : ∀ b ∈ v.env, Bd.Ok b) : Val.Ok v
inductive Bd.Ok : Bd → Prop
  | mk (b : Bd) (h1 : b.name.length ≤ reachBytes) (h2 : Val.Ok b.v) : Bd.Ok b
end
theorem Bd.enc_len (b : Bd) : b.enc.length = 9 := by simp only [Bd.fw]
theorem Val.enc_len (b : Val) : b.enc.length = 8 := by simp only [Val.fw]

noncomputable instance : DecidableEq Val := fun _ _ => Classical.propDecidable _
noncomputable instance : DecidableEq Bd := fun _ _ => Classical.propDecidable _

/-- A cell. -/
structure Sl where
  name : List UInt8
  n : Int
  deriving DecidableEq

def Sl.enc (s : Sl) : List PV := [.str s.name, .int .i64 s.n]

theorem Sl.fw : (∀ s : Sl, s.enc.length = 2) ∧ (∀ s : Sl, s.enc[0]? = some (.str s.name)) ∧ (∀ s : Sl, s.enc[1]? = some (.int .i64 s.n)) ∧ (∀ s : Sl, s.enc.drop 1 = [.int .i64 s.n]) ∧ (∀ s : Sl, s.enc.take 2 = s.enc) ∧ (∀ (m : Nat) (s : Sl), PV.bdL m s.enc = true) :=
  ⟨fun _ => rfl, fun _ => rfl, fun _ => rfl, fun _ => rfl, fun _ => rfl, fun _ _ => rfl⟩

end Go.Proofs.YtnjlfbefpoecpaaDoor

/- Facts on the types and functions of this seat's program, printed by a tool of mine. -/
namespace Go.Proofs.YtnjlfbefpoecpaaDoor
set_option linter.unusedVariables false
set_option linter.unusedSimpArgs false
set_option maxRecDepth 100000
open Go.RowKit Fw
theorem en2 : Enters Tryd.prog 2 := enters_of Tryd.func2 rfl rfl
theorem en3 : Enters Tryd.prog 3 := enters_of Tryd.func3 rfl rfl
theorem en4 : Enters Tryd.prog 4 := enters_of Tryd.func4 rfl rfl
theorem en5 : Enters Tryd.prog 5 := enters_of Tryd.func5 rfl rfl
theorem en6 : Enters Tryd.prog 6 := enters_of Tryd.func6 rfl rfl
theorem en7 : Enters Tryd.prog 7 := enters_of Tryd.func7 rfl rfl
theorem en8 : Enters Tryd.prog 8 := enters_of Tryd.func8 rfl rfl
theorem en9 : Enters Tryd.prog 9 := enters_of Tryd.func9 rfl rfl
theorem en10 : Enters Tryd.prog 10 := enters_of Tryd.func10 rfl rfl
theorem en11 : Enters Tryd.prog 11 := enters_of Tryd.func11 rfl rfl
theorem en12 : Enters Tryd.prog 12 := enters_of Tryd.func12 rfl rfl
theorem en13 : Enters Tryd.prog 13 := enters_of Tryd.func13 rfl rfl
theorem en14 : Enters Tryd.prog 14 := enters_of Tryd.func14 rfl rfl
theorem en15 : Enters Tryd.prog 15 := enters_of Tryd.func15 rfl rfl
theorem en16 : Enters Tryd.prog 16 := enters_of Tryd.func16 rfl rfl
theorem en17 : Enters Tryd.prog 17 := enters_of Tryd.func17 rfl rfl
theorem en18 : Enters Tryd.prog 18 := enters_of Tryd.func18 rfl rfl
theorem en19 : Enters Tryd.prog 19 := enters_of Tryd.func19 rfl rfl
theorem en20 : Enters Tryd.prog 20 := enters_of Tryd.func20 rfl rfl
theorem en21 : Enters Tryd.prog 21 := enters_of Tryd.func21 rfl rfl
theorem en22 : Enters Tryd.prog 22 := enters_of Tryd.func22 rfl rfl
theorem en23 : Enters Tryd.prog 23 := enters_of Tryd.func23 rfl rfl
theorem en24 : Enters Tryd.prog 24 := enters_of Tryd.func24 rfl rfl
theorem en25 : Enters Tryd.prog 25 := enters_of Tryd.func25 rfl rfl
theorem en26 : Enters Tryd.prog 26 := enters_of Tryd.func26 rfl rfl
theorem en27 : Enters Tryd.prog 27 := enters_of Tryd.func27 rfl rfl
theorem en28 : Enters Tryd.prog 28 := enters_of Tryd.func28 rfl rfl
theorem en29 : Enters Tryd.prog 29 := enters_of Tryd.func29 rfl rfl
theorem en30 : Enters Tryd.prog 30 := enters_of Tryd.func30 rfl rfl
theorem en31 : Enters Tryd.prog 31 := enters_of Tryd.func31 rfl rfl
theorem en32 : Enters Tryd.prog 32 := enters_of Tryd.func32 rfl rfl
theorem en33 : Enters Tryd.prog 33 := enters_of Tryd.func33 rfl rfl
theorem en34 : Enters Tryd.prog 34 := enters_of Tryd.func34 rfl rfl
theorem en35 : Enters Tryd.prog 35 := enters_of Tryd.func35 rfl rfl
theorem en36 : Enters Tryd.prog 36 := enters_of Tryd.func36 rfl rfl
theorem en37 : Enters Tryd.prog 37 := enters_of Tryd.func37 rfl rfl
theorem en38 : Enters Tryd.prog 38 := enters_of Tryd.func38 rfl rfl
theorem en39 : Enters Tryd.prog 39 := enters_of Tryd.func39 rfl rfl
theorem en40 : Enters Tryd.prog 40 := enters_of Tryd.func40 rfl rfl
theorem en41 : Enters Tryd.prog 41 := enters_of Tryd.func41 rfl rfl
theorem en42 : Enters Tryd.prog 42 := enters_of Tryd.func42 rfl rfl
theorem en43 : Enters Tryd.prog 43 := enters_of Tryd.func43 rfl rfl
theorem en44 : Enters Tryd.prog 44 := enters_of Tryd.func44 rfl rfl
theorem en45 : Enters Tryd.prog 45 := enters_of Tryd.func45 rfl rfl
theorem en46 : Enters Tryd.prog 46 := enters_of Tryd.func46 rfl rfl
theorem en47 : Enters Tryd.prog 47 := enters_of Tryd.func47 rfl rfl
theorem en48 : Enters Tryd.prog 48 := enters_of Tryd.func48 rfl rfl
theorem en49 : Enters Tryd.prog 49 := enters_of Tryd.func49 rfl rfl
theorem en50 : Enters Tryd.prog 50 := enters_of Tryd.func50 rfl rfl
theorem en51 : Enters Tryd.prog 51 := enters_of Tryd.func51 rfl rfl
theorem en52 : Enters Tryd.prog 52 := enters_of Tryd.func52 rfl rfl
theorem en53 : Enters Tryd.prog 53 := enters_of Tryd.func53 rfl rfl
theorem en54 : Enters Tryd.prog 54 := enters_of Tryd.func54 rfl rfl
theorem en55 : Enters Tryd.prog 55 := enters_of Tryd.func55 rfl rfl
theorem en56 : Enters Tryd.prog 56 := enters_of Tryd.func56 rfl rfl
theorem en57 : Enters Tryd.prog 57 := enters_of Tryd.func57 rfl rfl
theorem en58 : Enters Tryd.prog 58 := enters_of Tryd.func58 rfl rfl
theorem en59 : Enters Tryd.prog 59 := enters_of Tryd.func59 rfl rfl
theorem en60 : Enters Tryd.prog 60 := enters_of Tryd.func60 rfl rfl
theorem en61 : Enters Tryd.prog 61 := enters_of Tryd.func61 rfl rfl
theorem en62 : Enters Tryd.prog 62 := enters_of Tryd.func62 rfl rfl
theorem en63 : Enters Tryd.prog 63 := enters_of Tryd.func63 rfl rfl
theorem en64 : Enters Tryd.prog 64 := enters_of Tryd.func64 rfl rfl
theorem en65 : Enters Tryd.prog 65 := enters_of Tryd.func65 rfl rfl
theorem en66 : Enters Tryd.prog 66 := enters_of Tryd.func66 rfl rfl
theorem en67 : Enters Tryd.prog 67 := enters_of Tryd.func67 rfl rfl
theorem en68 : Enters Tryd.prog 68 := enters_of Tryd.func68 rfl rfl
theorem en69 : Enters Tryd.prog 69 := enters_of Tryd.func69 rfl rfl
theorem en70 : Enters Tryd.prog 70 := enters_of Tryd.func70 rfl rfl
theorem en71 : Enters Tryd.prog 71 := enters_of Tryd.func71 rfl rfl
theorem en72 : Enters Tryd.prog 72 := enters_of Tryd.func72 rfl rfl
theorem en73 : Enters Tryd.prog 73 := enters_of Tryd.func73 rfl rfl
theorem en74 : Enters Tryd.prog 74 := enters_of Tryd.func74 rfl rfl
theorem en75 : Enters Tryd.prog 75 := enters_of Tryd.func75 rfl rfl
theorem en76 : Enters Tryd.prog 76 := enters_of Tryd.func76 rfl rfl
theorem en77 : Enters Tryd.prog 77 := enters_of Tryd.func77 rfl rfl
theorem en78 : Enters Tryd.prog 78 := enters_of Tryd.func78 rfl rfl
theorem en79 : Enters Tryd.prog 79 := enters_of Tryd.func79 rfl rfl
theorem en80 : Enters Tryd.prog 80 := enters_of Tryd.func80 rfl rfl
theorem en81 : Enters Tryd.prog 81 := enters_of Tryd.func81 rfl rfl
theorem en82 : Enters Tryd.prog 82 := enters_of Tryd.func82 rfl rfl
theorem en83 : Enters Tryd.prog 83 := enters_of Tryd.func83 rfl rfl
theorem en84 : Enters Tryd.prog 84 := enters_of Tryd.func84 rfl rfl
theorem en85 : Enters Tryd.prog 85 := enters_of Tryd.func85 rfl rfl
theorem en86 : Enters Tryd.prog 86 := enters_of Tryd.func86 rfl rfl
theorem en87 : Enters Tryd.prog 87 := enters_of Tryd.func87 rfl rfl
theorem en88 : Enters Tryd.prog 88 := enters_of Tryd.func88 rfl rfl
theorem en89 : Enters Tryd.prog 89 := enters_of Tryd.func89 rfl rfl
theorem en90 : Enters Tryd.prog 90 := enters_of Tryd.func90 rfl rfl
theorem en91 : Enters Tryd.prog 91 := enters_of Tryd.func91 rfl rfl
theorem el22 : elOf Tryd.prog 22 = some (1, 1) := by kernel_rfl
theorem el23 : elOf Tryd.prog 23 = some (1, 8) := by kernel_rfl
theorem el25 : elOf Tryd.prog 25 = some (3, 40) := by kernel_rfl
theorem el26 : elOf Tryd.prog 26 = some (5, 72) := by kernel_rfl
theorem el27 : elOf Tryd.prog 27 = some (4, 56) := by kernel_rfl
theorem el33 : elOf Tryd.prog 33 = some (1, 16) := by kernel_rfl
theorem el37 : elOf Tryd.prog 37 = some (2, 48) := by kernel_rfl
theorem el42 : elOf Tryd.prog 42 = some (9, 128) := by kernel_rfl
theorem el45 : elOf Tryd.prog 45 = some (2, 24) := by kernel_rfl
theorem el65 : elOf Tryd.prog 65 = some (4, 56) := by kernel_rfl
theorem el68 : elOf Tryd.prog 68 = some (9, 128) := by kernel_rfl
theorem el71 : elOf Tryd.prog 71 = some (2, 24) := by kernel_rfl
theorem el80 : elOf Tryd.prog 80 = some (3, 40) := by kernel_rfl
theorem el81 : elOf Tryd.prog 81 = some (5, 72) := by kernel_rfl
theorem el88 : elOf Tryd.prog 88 = some (1, 8) := by kernel_rfl
theorem eq53 : eqOf Tryd.prog 53 = some [(0, 1), (1, 0)] := by kernel_rfl
theorem eq121 : eqOf Tryd.prog 121 = some [(0, 1), (1, 0)] := by kernel_rfl
theorem fl29_0 : fldOf Tryd.prog 29 0 = some (0, 1, false) := by kernel_rfl
theorem fl29_1 : fldOf Tryd.prog 29 1 = some (1, 1, false) := by kernel_rfl
theorem fl29_2 : fldOf Tryd.prog 29 2 = some (2, 1, false) := by kernel_rfl
theorem fl29_3 : fldOf Tryd.prog 29 3 = some (3, 1, false) := by kernel_rfl
theorem fl31_0 : fldOf Tryd.prog 31 0 = some (0, 1, false) := by kernel_rfl
theorem fl31_1 : fldOf Tryd.prog 31 1 = some (1, 1, false) := by kernel_rfl
theorem fl31_2 : fldOf Tryd.prog 31 2 = some (2, 1, false) := by kernel_rfl
theorem fl31_3 : fldOf Tryd.prog 31 3 = some (3, 4, true) := by kernel_rfl
theorem fl36_0 : fldOf Tryd.prog 36 0 = some (0, 1, false) := by kernel_rfl
theorem fl44_0 : fldOf Tryd.prog 44 0 = some (0, 1, false) := by kernel_rfl
theorem fl44_1 : fldOf Tryd.prog 44 1 = some (1, 1, false) := by kernel_rfl
theorem fl44_2 : fldOf Tryd.prog 44 2 = some (2, 1, false) := by kernel_rfl
theorem fl44_3 : fldOf Tryd.prog 44 3 = some (3, 4, true) := by kernel_rfl
theorem fl44_4 : fldOf Tryd.prog 44 4 = some (7, 1, false) := by kernel_rfl
theorem fl47_0 : fldOf Tryd.prog 47 0 = some (0, 1, false) := by kernel_rfl
theorem fl47_1 : fldOf Tryd.prog 47 1 = some (1, 8, true) := by kernel_rfl
theorem fl47_2 : fldOf Tryd.prog 47 2 = some (9, 1, false) := by kernel_rfl
theorem fl47_3 : fldOf Tryd.prog 47 3 = some (10, 1, false) := by kernel_rfl
theorem fl51_0 : fldOf Tryd.prog 51 0 = some (0, 1, false) := by kernel_rfl
theorem fl51_1 : fldOf Tryd.prog 51 1 = some (1, 1, false) := by kernel_rfl
theorem fl51_2 : fldOf Tryd.prog 51 2 = some (2, 1, false) := by kernel_rfl
theorem fl53_0 : fldOf Tryd.prog 53 0 = some (0, 1, false) := by kernel_rfl
theorem fl53_1 : fldOf Tryd.prog 53 1 = some (1, 1, false) := by kernel_rfl
theorem fl59_0 : fldOf Tryd.prog 59 0 = some (0, 1, false) := by kernel_rfl
theorem fl59_1 : fldOf Tryd.prog 59 1 = some (1, 1, false) := by kernel_rfl
theorem fl59_2 : fldOf Tryd.prog 59 2 = some (2, 1, false) := by kernel_rfl
theorem fl59_3 : fldOf Tryd.prog 59 3 = some (3, 1, false) := by kernel_rfl
theorem fl59_4 : fldOf Tryd.prog 59 4 = some (4, 1, false) := by kernel_rfl
theorem fl67_0 : fldOf Tryd.prog 67 0 = some (0, 1, false) := by kernel_rfl
theorem fl67_1 : fldOf Tryd.prog 67 1 = some (1, 1, false) := by kernel_rfl
theorem fl67_2 : fldOf Tryd.prog 67 2 = some (2, 1, false) := by kernel_rfl
theorem fl67_3 : fldOf Tryd.prog 67 3 = some (3, 1, false) := by kernel_rfl
theorem fl70_0 : fldOf Tryd.prog 70 0 = some (0, 1, false) := by kernel_rfl
theorem fl70_1 : fldOf Tryd.prog 70 1 = some (1, 1, false) := by kernel_rfl
theorem fl70_2 : fldOf Tryd.prog 70 2 = some (2, 1, false) := by kernel_rfl
theorem fl70_3 : fldOf Tryd.prog 70 3 = some (3, 4, true) := by kernel_rfl
theorem fl70_4 : fldOf Tryd.prog 70 4 = some (7, 1, false) := by kernel_rfl
theorem fl73_0 : fldOf Tryd.prog 73 0 = some (0, 1, false) := by kernel_rfl
theorem fl73_1 : fldOf Tryd.prog 73 1 = some (1, 8, true) := by kernel_rfl
theorem fl73_2 : fldOf Tryd.prog 73 2 = some (9, 1, false) := by kernel_rfl
theorem fl73_3 : fldOf Tryd.prog 73 3 = some (10, 1, false) := by kernel_rfl
theorem fl83_0 : fldOf Tryd.prog 83 0 = some (0, 1, false) := by kernel_rfl
theorem fl83_1 : fldOf Tryd.prog 83 1 = some (1, 1, false) := by kernel_rfl
theorem fl83_2 : fldOf Tryd.prog 83 2 = some (2, 1, false) := by kernel_rfl
theorem fl83_3 : fldOf Tryd.prog 83 3 = some (3, 4, true) := by kernel_rfl
theorem fl92_0 : fldOf Tryd.prog 92 0 = some (0, 1, false) := by kernel_rfl
theorem fl92_1 : fldOf Tryd.prog 92 1 = some (1, 4, true) := by kernel_rfl
theorem fl99_0 : fldOf Tryd.prog 99 0 = some (0, 1, false) := by kernel_rfl
theorem fl99_1 : fldOf Tryd.prog 99 1 = some (1, 8, true) := by kernel_rfl
theorem fl106_0 : fldOf Tryd.prog 106 0 = some (0, 1, false) := by kernel_rfl
theorem fl106_1 : fldOf Tryd.prog 106 1 = some (1, 1, false) := by kernel_rfl
theorem fl108_0 : fldOf Tryd.prog 108 0 = some (0, 1, false) := by kernel_rfl
theorem fl108_1 : fldOf Tryd.prog 108 1 = some (1, 8, true) := by kernel_rfl
theorem fl120_0 : fldOf Tryd.prog 120 0 = some (0, 1, false) := by kernel_rfl
theorem fl120_1 : fldOf Tryd.prog 120 1 = some (1, 8, true) := by kernel_rfl
theorem fl121_0 : fldOf Tryd.prog 121 0 = some (0, 1, false) := by kernel_rfl
theorem fl121_1 : fldOf Tryd.prog 121 1 = some (1, 1, false) := by kernel_rfl
theorem fl124_0 : fldOf Tryd.prog 124 0 = some (0, 1, false) := by kernel_rfl
theorem fl124_2 : fldOf Tryd.prog 124 2 = some (2, 1, false) := by kernel_rfl
theorem fl127_0 : fldOf Tryd.prog 127 0 = some (0, 1, false) := by kernel_rfl
theorem fl127_1 : fldOf Tryd.prog 127 1 = some (1, 4, true) := by kernel_rfl
theorem pl29 : plOf Tryd.prog 29 = some [(0, 1), (1, 1), (2, 1), (3, 1)] := by kernel_rfl
theorem pl31 : plOf Tryd.prog 31 = some [(0, 1), (1, 1), (2, 1), (3, 4)] := by kernel_rfl
theorem pl36 : plOf Tryd.prog 36 = some [(0, 1), (1, 1)] := by kernel_rfl
theorem pl44 : plOf Tryd.prog 44 = some [(0, 1), (1, 1), (2, 1), (3, 4), (7, 1)] := by kernel_rfl
theorem pl47 : plOf Tryd.prog 47 = some [(0, 1), (1, 8), (9, 1), (10, 1)] := by kernel_rfl
theorem pl51 : plOf Tryd.prog 51 = some [(0, 1), (1, 1), (2, 1)] := by kernel_rfl
theorem pl53 : plOf Tryd.prog 53 = some [(0, 1), (1, 1)] := by kernel_rfl
theorem pl59 : plOf Tryd.prog 59 = some [(0, 1), (1, 1), (2, 1), (3, 1), (4, 1)] := by kernel_rfl
theorem pl67 : plOf Tryd.prog 67 = some [(0, 1), (1, 1), (2, 1), (3, 1)] := by kernel_rfl
theorem pl70 : plOf Tryd.prog 70 = some [(0, 1), (1, 1), (2, 1), (3, 4), (7, 1)] := by kernel_rfl
theorem pl73 : plOf Tryd.prog 73 = some [(0, 1), (1, 8), (9, 1), (10, 1)] := by kernel_rfl
theorem pl83 : plOf Tryd.prog 83 = some [(0, 1), (1, 1), (2, 1), (3, 4)] := by kernel_rfl
theorem pl92 : plOf Tryd.prog 92 = some [(0, 1), (1, 4)] := by kernel_rfl
theorem pl99 : plOf Tryd.prog 99 = some [(0, 1), (1, 8)] := by kernel_rfl
theorem pl106 : plOf Tryd.prog 106 = some [(0, 1), (1, 1)] := by kernel_rfl
theorem pl108 : plOf Tryd.prog 108 = some [(0, 1), (1, 8)] := by kernel_rfl
theorem pl120 : plOf Tryd.prog 120 = some [(0, 1), (1, 8)] := by kernel_rfl
theorem pl121 : plOf Tryd.prog 121 = some [(0, 1), (1, 1)] := by kernel_rfl
theorem pl124 : plOf Tryd.prog 124 = some [(0, 1), (1, 1), (2, 1)] := by kernel_rfl
theorem pl127 : plOf Tryd.prog 127 = some [(0, 1), (1, 4)] := by kernel_rfl
theorem ti2 : tiOf Tryd.prog 2 = some ⟨1, 8, false, [.int .i64 0]⟩ := by kernel_rfl
theorem ti3 : tiOf Tryd.prog 3 = some ⟨1, 8, false, [.int .i64 0]⟩ := by kernel_rfl
theorem ti4 : tiOf Tryd.prog 4 = some ⟨1, 1, false, [.bool false]⟩ := by kernel_rfl
theorem ti5 : tiOf Tryd.prog 5 = some ⟨1, 1, false, [.int .u8 0]⟩ := by kernel_rfl
theorem ti9 : tiOf Tryd.prog 9 = some ⟨1, 16, false, [.str []]⟩ := by kernel_rfl
theorem ti22 : tiOf Tryd.prog 22 = some ⟨1, 24, false, [.vec [] true]⟩ := by kernel_rfl
theorem ti25 : tiOf Tryd.prog 25 = some ⟨1, 24, false, [.vec [] true]⟩ := by kernel_rfl
theorem ti26 : tiOf Tryd.prog 26 = some ⟨1, 24, false, [.vec [] true]⟩ := by kernel_rfl
theorem ti27 : tiOf Tryd.prog 27 = some ⟨1, 24, false, [.vec [] true]⟩ := by kernel_rfl
theorem ti29 : tiOf Tryd.prog 29 = some ⟨4, 56, true, [.int .i64 0, .str [], .int .i64 0, .vec [] true]⟩ := by kernel_rfl
theorem ti31 : tiOf Tryd.prog 31 = some ⟨7, 128, true, [.vec [] true, .vec [] true, .vec [] true, .int .i64 0, .str [], .int .i64 0, .vec [] true]⟩ := by kernel_rfl
theorem ti33 : tiOf Tryd.prog 33 = some ⟨1, 24, false, [.vec [] true]⟩ := by kernel_rfl
theorem ti36 : tiOf Tryd.prog 36 = some ⟨2, 48, true, [.vec [] true, .vec [] true]⟩ := by kernel_rfl
theorem ti42 : tiOf Tryd.prog 42 = some ⟨1, 24, false, [.vec [] true]⟩ := by kernel_rfl
theorem ti44 : tiOf Tryd.prog 44 = some ⟨8, 112, true, [.int .i64 0, .int .i64 0, .str [], .int .i64 0, .str [], .int .i64 0, .vec [] true, .vec [] true]⟩ := by kernel_rfl
theorem ti45 : tiOf Tryd.prog 45 = some ⟨1, 24, false, [.vec [] true]⟩ := by kernel_rfl
theorem ti47 : tiOf Tryd.prog 47 = some ⟨11, 152, true, [.int .i64 0, .int .i64 0, .int .i64 0, .str [], .int .i64 0, .str [], .int .i64 0, .vec [] true, .vec [] true, .vec [] true, .int .i64 0]⟩ := by kernel_rfl
theorem ti51 : tiOf Tryd.prog 51 = some ⟨3, 40, true, [.str [], .str [], .int .i64 0]⟩ := by kernel_rfl
theorem ti53 : tiOf Tryd.prog 53 = some ⟨2, 24, true, [.str [], .int .i64 0]⟩ := by kernel_rfl
theorem ti59 : tiOf Tryd.prog 59 = some ⟨5, 104, true, [.vec [] true, .int .i64 0, .vec [] true, .vec [] true, .vec [] true]⟩ := by kernel_rfl
theorem ti65 : tiOf Tryd.prog 65 = some ⟨1, 24, false, [.vec [] true]⟩ := by kernel_rfl
theorem ti67 : tiOf Tryd.prog 67 = some ⟨4, 56, true, [.int .i64 0, .str [], .int .i64 0, .vec [] true]⟩ := by kernel_rfl
theorem ti68 : tiOf Tryd.prog 68 = some ⟨1, 24, false, [.vec [] true]⟩ := by kernel_rfl
theorem ti70 : tiOf Tryd.prog 70 = some ⟨8, 112, true, [.int .i64 0, .int .i64 0, .str [], .int .i64 0, .str [], .int .i64 0, .vec [] true, .vec [] true]⟩ := by kernel_rfl
theorem ti71 : tiOf Tryd.prog 71 = some ⟨1, 24, false, [.vec [] true]⟩ := by kernel_rfl
theorem ti73 : tiOf Tryd.prog 73 = some ⟨11, 152, true, [.int .i64 0, .int .i64 0, .int .i64 0, .str [], .int .i64 0, .str [], .int .i64 0, .vec [] true, .vec [] true, .vec [] true, .int .i64 0]⟩ := by kernel_rfl
theorem ti80 : tiOf Tryd.prog 80 = some ⟨1, 24, false, [.vec [] true]⟩ := by kernel_rfl
theorem ti81 : tiOf Tryd.prog 81 = some ⟨1, 24, false, [.vec [] true]⟩ := by kernel_rfl
theorem ti83 : tiOf Tryd.prog 83 = some ⟨7, 128, true, [.vec [] true, .vec [] true, .vec [] true, .int .i64 0, .str [], .int .i64 0, .vec [] true]⟩ := by kernel_rfl
theorem ti92 : tiOf Tryd.prog 92 = some ⟨5, 72, true, [.str [], .int .i64 0, .str [], .int .i64 0, .vec [] true]⟩ := by kernel_rfl
theorem ti93 : tiOf Tryd.prog 93 = some ⟨1, 8, false, [.int .u64 0]⟩ := by kernel_rfl
theorem ti99 : tiOf Tryd.prog 99 = some ⟨9, 128, true, [.str [], .int .i64 0, .int .i64 0, .str [], .int .i64 0, .str [], .int .i64 0, .vec [] true, .vec [] true]⟩ := by kernel_rfl
theorem ti106 : tiOf Tryd.prog 106 = some ⟨2, 32, true, [.vec [] true, .int .i64 0]⟩ := by kernel_rfl
theorem ti108 : tiOf Tryd.prog 108 = some ⟨9, 120, true, [.int .i64 0, .int .i64 0, .int .i64 0, .str [], .int .i64 0, .str [], .int .i64 0, .vec [] true, .vec [] true]⟩ := by kernel_rfl
theorem ti120 : tiOf Tryd.prog 120 = some ⟨9, 128, true, [.str [], .int .i64 0, .int .i64 0, .str [], .int .i64 0, .str [], .int .i64 0, .vec [] true, .vec [] true]⟩ := by kernel_rfl
theorem ti121 : tiOf Tryd.prog 121 = some ⟨2, 24, true, [.str [], .int .i64 0]⟩ := by kernel_rfl
theorem ti124 : tiOf Tryd.prog 124 = some ⟨3, 40, true, [.str [], .str [], .int .i64 0]⟩ := by kernel_rfl
theorem ti127 : tiOf Tryd.prog 127 = some ⟨5, 72, true, [.str [], .int .i64 0, .str [], .int .i64 0, .vec [] true]⟩ := by kernel_rfl
theorem ti162 : tiOf Tryd.prog 162 = some ⟨1, 8, false, [.nilf]⟩ := by kernel_rfl
theorem un2 : Tryd.prog.underlying 2 = some (.int .i64) := by kernel_rfl
theorem un3 : Tryd.prog.underlying 3 = some (.int .i64) := by kernel_rfl
theorem un5 : Tryd.prog.underlying 5 = some (.int .u8) := by kernel_rfl
theorem un9 : Tryd.prog.underlying 9 = some .string := by kernel_rfl
theorem un22 : Tryd.prog.underlying 22 = some (.slice 5) := by kernel_rfl
theorem un23 : Tryd.prog.underlying 23 = some (.slice 2) := by kernel_rfl
theorem un25 : Tryd.prog.underlying 25 = some (.slice 51) := by kernel_rfl
theorem un26 : Tryd.prog.underlying 26 = some (.slice 92) := by kernel_rfl
theorem un27 : Tryd.prog.underlying 27 = some (.slice 29) := by kernel_rfl
theorem un33 : Tryd.prog.underlying 33 = some (.slice 9) := by kernel_rfl
theorem un34 : Tryd.prog.underlying 34 = some (.slice 93) := by kernel_rfl
theorem un37 : Tryd.prog.underlying 37 = some (.slice 36) := by kernel_rfl
theorem un42 : Tryd.prog.underlying 42 = some (.slice 99) := by kernel_rfl
theorem un45 : Tryd.prog.underlying 45 = some (.slice 53) := by kernel_rfl
theorem un65 : Tryd.prog.underlying 65 = some (.slice 67) := by kernel_rfl
theorem un68 : Tryd.prog.underlying 68 = some (.slice 120) := by kernel_rfl
theorem un71 : Tryd.prog.underlying 71 = some (.slice 121) := by kernel_rfl
theorem un80 : Tryd.prog.underlying 80 = some (.slice 124) := by kernel_rfl
theorem un81 : Tryd.prog.underlying 81 = some (.slice 127) := by kernel_rfl
theorem un88 : Tryd.prog.underlying 88 = some (.slice 3) := by kernel_rfl
theorem un162 : Tryd.prog.underlying 162 = some (.func #[] #[2] false) := by kernel_rfl
theorem un163 : Tryd.prog.underlying 163 = some (.map 9 162) := by kernel_rfl
theorem mixed : Tryd.prog.follows .mixedOrders = true := by kernel_rfl
end Go.Proofs.YtnjlfbefpoecpaaDoor

/- The contracts of what compares terms: the document's, and the program's. -/
namespace Go.Proofs.YtnjlfbefpoecpaaDoor
set_option linter.unusedVariables false
set_option linter.unusedSimpArgs false
set_option maxRecDepth 100000
open Go.RowKit Fw

theorem wrapN (n : Nat) (h : n < 9223372036854775808) : IntKind.i64.wrap (n : Int) = n := by
  unfold IntKind.wrap
  have hb : IntKind.i64.bits = 64 := rfl
  have hsg : IntKind.i64.signed = true := rfl
  simp only [hb, hsg, Bool.true_and, decide_eq_true_eq]
  have : (n : Int) % 2 ^ 64 = n := by omega
  rw [this, if_neg (by omega)]

theorem wrapS (n : Nat) (h : n + 1 < 9223372036854775808) : IntKind.i64.wrap ((n : Int) + 1) = ((n + 1 : Nat) : Int) := wrapN (n + 1) h

/-- chancelref03.Same -/
theorem c51 (Γ : Nat → PV) : ∀ a b : Tm, Gives Tryd.prog Γ 51 [.agg a.enc, .agg b.enc] (.bool (decide (a = b))) := by
  suffices ∀ n, ∀ a, SizeOf.sizeOf a < n → ∀ b : Tm, Gives Tryd.prog Γ 51 [.agg a.enc, .agg b.enc] (.bool (decide (a = b))) from fun a b => this _ a (Nat.lt_succ_self _) b
  intro n
  induction n with
  | zero => intro a ha; omega
  | succ n ih =>
  intro a ha b
  refine fn_of_awp Tryd.func51 rfl (by simp [Tryd.f51]) rfl fun H => ?_
  refine awp_seq ?_
  -- region 0
  refine awp_run rfl (by simp only [fw0, fw1, fw2, fw3, fw4, fw5, fw6, fw7, ↓reduceIte, Nat.reduceAdd, Nat.reduceMul, Nat.reduceEqDiff, Nat.reduceLT, Nat.reduceLeDiff, reduceCtorEq, Bool.false_eq_true, Bool.not_true, Bool.not_false, and_self, Nat.le_refl] <;> rfl) ?_
  refine awp_seq ?_
  refine awp_seq ?_
  -- region 1
  by_cases h1 : a.kind = b.kind
  rotate_left
  · refine awp_run rfl (by simp only [fw0, fw1, fw2, fw3, fw4, fw5, fw6, fw7, ↓reduceIte, Nat.reduceAdd, Nat.reduceMul, Nat.reduceEqDiff, Nat.reduceLT, Nat.reduceLeDiff, reduceCtorEq, Bool.false_eq_true, Bool.not_true, Bool.not_false, and_self, Nat.le_refl, fl67_0, ti3, fl67_1, ti9, fl67_2, ti2, fl67_3, ti65, un65, Tm.fw, h1, decide_false, decide_true, Bool.not_false, Bool.not_true] <;> rfl) ?_
    refine awp_cond (by simp only [fw0, fw1, fw2, fw3, fw4, fw5, fw6, fw7, ↓reduceIte, Nat.reduceAdd, Nat.reduceMul, Nat.reduceEqDiff, Nat.reduceLT, Nat.reduceLeDiff, reduceCtorEq, Bool.false_eq_true, Bool.not_true, Bool.not_false, and_self, Nat.le_refl] <;> rfl) ?_
    refine awp_seq (awp_run rfl (by simp only [fw0, fw1, fw2, fw3, fw4, fw5, fw6, fw7, ↓reduceIte, Nat.reduceAdd, Nat.reduceMul, Nat.reduceEqDiff, Nat.reduceLT, Nat.reduceLeDiff, reduceCtorEq, Bool.false_eq_true, Bool.not_true, Bool.not_false, and_self, Nat.le_refl] <;> rfl) (awp_ret ?_))
    exact gives_end (.inl rfl) _ (by rw [decide_eq_false (fun e => h1 (by rw [e]))]; rfl)
  by_cases h2 : a.name = b.name
  rotate_left
  · refine awp_run rfl (by simp only [fw0, fw1, fw2, fw3, fw4, fw5, fw6, fw7, ↓reduceIte, Nat.reduceAdd, Nat.reduceMul, Nat.reduceEqDiff, Nat.reduceLT, Nat.reduceLeDiff, reduceCtorEq, Bool.false_eq_true, Bool.not_true, Bool.not_false, and_self, Nat.le_refl, fl67_0, ti3, fl67_1, ti9, fl67_2, ti2, fl67_3, ti65, un65, Tm.fw, h1, h2, decide_false, decide_true, Bool.not_false, Bool.not_true] <;> rfl) ?_
    refine awp_cond (by simp only [fw0, fw1, fw2, fw3, fw4, fw5, fw6, fw7, ↓reduceIte, Nat.reduceAdd, Nat.reduceMul, Nat.reduceEqDiff, Nat.reduceLT, Nat.reduceLeDiff, reduceCtorEq, Bool.false_eq_true, Bool.not_true, Bool.not_false, and_self, Nat.le_refl] <;> rfl) ?_
    refine awp_seq (awp_run rfl (by simp only [fw0, fw1, fw2, fw3, fw4, fw5, fw6, fw7, ↓reduceIte, Nat.reduceAdd, Nat.reduceMul, Nat.reduceEqDiff, Nat.reduceLT, Nat.reduceLeDiff, reduceCtorEq, Bool.false_eq_true, Bool.not_true, Bool.not_false, and_self, Nat.le_refl] <;> rfl) (awp_ret ?_))
    exact gives_end (.inl rfl) _ (by rw [decide_eq_false (fun e => h2 (by rw [e]))]; rfl)
  by_cases h3 : a.n = b.n
  rotate_left
  · refine awp_run rfl (by simp only [fw0, fw1, fw2, fw3, fw4, fw5, fw6, fw7, ↓reduceIte, Nat.reduceAdd, Nat.reduceMul, Nat.reduceEqDiff, Nat.reduceLT, Nat.reduceLeDiff, reduceCtorEq, Bool.false_eq_true, Bool.not_true, Bool.not_false, and_self, Nat.le_refl, fl67_0, ti3, fl67_1, ti9, fl67_2, ti2, fl67_3, ti65, un65, Tm.fw, h1, h2, h3, decide_false, decide_true, Bool.not_false, Bool.not_true] <;> rfl) ?_
    refine awp_cond (by simp only [fw0, fw1, fw2, fw3, fw4, fw5, fw6, fw7, ↓reduceIte, Nat.reduceAdd, Nat.reduceMul, Nat.reduceEqDiff, Nat.reduceLT, Nat.reduceLeDiff, reduceCtorEq, Bool.false_eq_true, Bool.not_true, Bool.not_false, and_self, Nat.le_refl] <;> rfl) ?_
    refine awp_seq (awp_run rfl (by simp only [fw0, fw1, fw2, fw3, fw4, fw5, fw6, fw7, ↓reduceIte, Nat.reduceAdd, Nat.reduceMul, Nat.reduceEqDiff, Nat.reduceLT, Nat.reduceLeDiff, reduceCtorEq, Bool.false_eq_true, Bool.not_true, Bool.not_false, and_self, Nat.le_refl] <;> rfl) (awp_ret ?_))
    exact gives_end (.inl rfl) _ (by rw [decide_eq_false (fun e => h3 (by rw [e]))]; rfl)
  by_cases h4 : (a.kids.length : Int) = b.kids.length
  rotate_left
  · refine awp_run rfl (by simp only [fw0, fw1, fw2, fw3, fw4, fw5, fw6, fw7, ↓reduceIte, Nat.reduceAdd, Nat.reduceMul, Nat.reduceEqDiff, Nat.reduceLT, Nat.reduceLeDiff, reduceCtorEq, Bool.false_eq_true, Bool.not_true, Bool.not_false, and_self, Nat.le_refl, fl67_0, ti3, fl67_1, ti9, fl67_2, ti2, fl67_3, ti65, un65, Tm.fw, h1, h2, h3, h4, List.length_map, decide_false, decide_true, Bool.not_false, Bool.not_true] <;> rfl) ?_
    refine awp_cond (by simp only [fw0, fw1, fw2, fw3, fw4, fw5, fw6, fw7, ↓reduceIte, Nat.reduceAdd, Nat.reduceMul, Nat.reduceEqDiff, Nat.reduceLT, Nat.reduceLeDiff, reduceCtorEq, Bool.false_eq_true, Bool.not_true, Bool.not_false, and_self, Nat.le_refl] <;> rfl) ?_
    refine awp_seq (awp_run rfl (by simp only [fw0, fw1, fw2, fw3, fw4, fw5, fw6, fw7, ↓reduceIte, Nat.reduceAdd, Nat.reduceMul, Nat.reduceEqDiff, Nat.reduceLT, Nat.reduceLeDiff, reduceCtorEq, Bool.false_eq_true, Bool.not_true, Bool.not_false, and_self, Nat.le_refl] <;> rfl) (awp_ret ?_))
    exact gives_end (.inl rfl) _ (by rw [decide_eq_false (fun e => h4 (by rw [e]))]; rfl)
  refine awp_run rfl (by simp only [fw0, fw1, fw2, fw3, fw4, fw5, fw6, fw7, ↓reduceIte, Nat.reduceAdd, Nat.reduceMul, Nat.reduceEqDiff, Nat.reduceLT, Nat.reduceLeDiff, reduceCtorEq, Bool.false_eq_true, Bool.not_true, Bool.not_false, and_self, Nat.le_refl, fl67_0, ti3, fl67_1, ti9, fl67_2, ti2, fl67_3, ti65, un65, Tm.fw, h1, h2, h3, h4, List.length_map, decide_true, Bool.not_true] <;> rfl) ?_
  refine awp_cond (by simp only [fw0, fw1, fw2, fw3, fw4, fw5, fw6, fw7, ↓reduceIte, Nat.reduceAdd, Nat.reduceMul, Nat.reduceEqDiff, Nat.reduceLT, Nat.reduceLeDiff, reduceCtorEq, Bool.false_eq_true, Bool.not_true, Bool.not_false, and_self, Nat.le_refl] <;> rfl) (awp_skip ?_)
  refine awp_seq ?_
  refine awp_seq ?_
  -- region 3
  refine awp_run rfl (by simp only [fw0, fw1, fw2, fw3, fw4, fw5, fw6, fw7, ↓reduceIte, Nat.reduceAdd, Nat.reduceMul, Nat.reduceEqDiff, Nat.reduceLT, Nat.reduceLeDiff, reduceCtorEq, Bool.false_eq_true, Bool.not_true, Bool.not_false, and_self, Nat.le_refl] <;> rfl) ?_
  have h4' : a.kids.length = b.kids.length := by omega
  refine awp_block ?_
  refine awp_for [2, 3, 5] (fun i : Nat => [.ptr H.length 0, .ptr (H.length + 1) 0, .int .i64 (i : Int)]) (fun _ => H ++ [.box a.enc, .box b.enc]) (fun i => a.kids.length - i)
    (fun i => i ≤ a.kids.length ∧ a.kids.take i = b.kids.take i) 0 rfl rfl ⟨Nat.zero_le _, rfl⟩ fun i hi => ?_
  refine awp_seq ?_
  refine awp_seq ?_
  -- region 4
  refine awp_run rfl (by simp only [fw0, fw1, fw2, fw3, fw4, fw5, fw6, fw7, ↓reduceIte, Nat.reduceAdd, Nat.reduceMul, Nat.reduceEqDiff, Nat.reduceLT, Nat.reduceLeDiff, reduceCtorEq, Bool.false_eq_true, Bool.not_true, Bool.not_false, and_self, Nat.le_refl, fl67_3, ti65, un65, Tm.fw, List.length_map] <;> rfl) ?_
  refine awp_vlen 36 rfl fun hlen => ?_
  rw [List.length_map] at hlen
  refine awp_cond (by simp only [fw0, fw1, fw2, fw3, fw4, fw5, fw6, fw7, ↓reduceIte, Nat.reduceAdd, Nat.reduceMul, Nat.reduceEqDiff, Nat.reduceLT, Nat.reduceLeDiff, reduceCtorEq, Bool.false_eq_true, Bool.not_true, Bool.not_false, and_self, Nat.le_refl] <;> rfl) ?_
  by_cases hc : (i : Int) < a.kids.length
  rotate_left
  · simp only [hc, decide_false, Bool.false_eq_true, ↓reduceIte]
    refine awp_exit ?_
    have hi' : i = a.kids.length := by omega
    refine awp_seq (awp_run rfl (by simp only [fw0, fw1, fw2, fw3, fw4, fw5, fw6, fw7, ↓reduceIte, Nat.reduceAdd, Nat.reduceMul, Nat.reduceEqDiff, Nat.reduceLT, Nat.reduceLeDiff, reduceCtorEq, Bool.false_eq_true, Bool.not_true, Bool.not_false, and_self, Nat.le_refl] <;> rfl) (awp_ret ?_))
    have e : a = b := Tm.ext h1 h2 h3 (by
      have := hi.2
      rwa [hi', List.take_length, h4', List.take_length] at this)
    exact gives_end (.inl rfl) _ (by rw [decide_eq_true e]; rfl)
  simp only [hc, decide_true, ↓reduceIte]
  refine awp_skip ?_
  refine awp_seq ?_
  refine awp_block ?_
  refine awp_seq ?_
  have hia : i < a.kids.length := by omega
  have ga : a.kids[i]? = some a.kids[i] := List.getElem?_eq_getElem hia
  have gb : b.kids[i]? = some (b.kids[i]'(by omega)) := List.getElem?_eq_getElem (by omega)
  -- region 6 drawn
  refine awp_drawn [0, 1, 0, 0, 1, 0, 1, 0, 0, 1, 0, 0] [0, 1, 0, 7, 15, 0, 32, 0, 224, 480, 1023, 2047] mixed rfl (by kernel_rfl) ?_
  refine dops_run 10 (by simp only [fw0, fw1, fw2, fw3, fw4, fw5, fw6, fw7, ↓reduceIte, Nat.reduceAdd, Nat.reduceMul, Nat.reduceEqDiff, Nat.reduceLT, Nat.reduceLeDiff, reduceCtorEq, Bool.false_eq_true, Bool.not_true, Bool.not_false, and_self, Nat.le_refl, fl67_3, ti65, el65, ti67, Tm.fw, List.getElem?_map, ga, gb, Option.map_some, Int.natCast_nonneg] <;> rfl) ?_
  refine dops_fn rfl rfl rfl rfl en51 (ih _ (by have := Tm.kids_lt (List.getElem_mem hia); omega) _) ?_
  refine dops_run 1 (by simp only [fw0, fw1, fw2, fw3, fw4, fw5, fw6, fw7, ↓reduceIte, Nat.reduceAdd, Nat.reduceMul, Nat.reduceEqDiff, Nat.reduceLT, Nat.reduceLeDiff, reduceCtorEq, Bool.false_eq_true, Bool.not_true, Bool.not_false, and_self, Nat.le_refl] <;> rfl) ?_
  refine dops_end ?_
  refine awp_cond (by simp only [fw0, fw1, fw2, fw3, fw4, fw5, fw6, fw7, ↓reduceIte, Nat.reduceAdd, Nat.reduceMul, Nat.reduceEqDiff, Nat.reduceLT, Nat.reduceLeDiff, reduceCtorEq, Bool.false_eq_true, Bool.not_true, Bool.not_false, and_self, Nat.le_refl] <;> rfl) ?_
  by_cases hk : a.kids[i] = b.kids[i]'(by omega)
  rotate_left
  · simp only [hk, decide_false, Bool.not_false, ↓reduceIte]
    refine awp_seq (awp_run rfl (by simp only [fw0, fw1, fw2, fw3, fw4, fw5, fw6, fw7, ↓reduceIte, Nat.reduceAdd, Nat.reduceMul, Nat.reduceEqDiff, Nat.reduceLT, Nat.reduceLeDiff, reduceCtorEq, Bool.false_eq_true, Bool.not_true, Bool.not_false, and_self, Nat.le_refl] <;> rfl) (awp_ret ?_))
    exact gives_end (.inl rfl) _ (by rw [decide_eq_false (fun e => hk (by subst e; rfl))]; rfl)
  simp only [hk, decide_true, Bool.not_true, Bool.false_eq_true, ↓reduceIte]
  refine awp_skip ?_
  -- region 5
  refine awp_run rfl (by simp only [fw0, fw1, fw2, fw3, fw4, fw5, fw6, fw7, ↓reduceIte, Nat.reduceAdd, Nat.reduceMul, Nat.reduceEqDiff, Nat.reduceLT, Nat.reduceLeDiff, reduceCtorEq, Bool.false_eq_true, Bool.not_true, Bool.not_false, and_self, Nat.le_refl] <;> rfl) ?_
  exact ⟨i + 1, by omega, ⟨by omega, by rw [List.take_add_one, List.take_add_one, hi.2, ga, gb, hk]⟩, by rw [wrapS i (by omega)]; rfl, rfl, rfl⟩
end Go.Proofs.YtnjlfbefpoecpaaDoor

/- The contracts of what compares terms, in the program. -/
namespace Go.Proofs.YtnjlfbefpoecpaaDoor
set_option linter.unusedVariables false
set_option linter.unusedSimpArgs false
set_option maxRecDepth 100000
open Go.RowKit Fw

/-- slices.EqualFunc, of terms -/
theorem c59 (Γ : Nat → PV) (f : Nat) (he : Enters Tryd.prog f) (xs ys : List Tm) (h : ∀ x ∈ xs, ∀ y : Tm, Gives Tryd.prog Γ f [.agg x.enc, .agg y.enc] (.bool (decide (x = y)))) :
    Gives Tryd.prog Γ 59 [.vec (xs.map Tm.enc) false, .vec (ys.map Tm.enc) false, .func (.func f) [] []] (.bool (decide (xs = ys))) := by
  refine fn_of_awp Tryd.func59 rfl (by simp [Tryd.f59]) rfl fun H => awp_bd fun hbd => ?_
  refine awp_seq ?_
  -- region 0
  refine awp_run rfl (by simp only [fw0, fw1, fw2, fw3, fw4, fw5, fw6, fw7, ↓reduceIte, Nat.reduceAdd, Nat.reduceMul, Nat.reduceEqDiff, Nat.reduceLT, Nat.reduceLeDiff, reduceCtorEq, Bool.false_eq_true, Bool.not_true, Bool.not_false, and_self, Nat.le_refl] <;> rfl) ?_
  refine awp_vlen 0 rfl fun hlen => ?_
  rw [List.length_map] at hlen
  refine awp_seq ?_
  refine awp_seq ?_
  -- region 1
  refine awp_run rfl (by simp only [fw0, fw1, fw2, fw3, fw4, fw5, fw6, fw7, ↓reduceIte, Nat.reduceAdd, Nat.reduceMul, Nat.reduceEqDiff, Nat.reduceLT, Nat.reduceLeDiff, reduceCtorEq, Bool.false_eq_true, Bool.not_true, Bool.not_false, and_self, Nat.le_refl, un27, List.length_map] <;> rfl) ?_
  refine awp_cond (by simp only [fw0, fw1, fw2, fw3, fw4, fw5, fw6, fw7, ↓reduceIte, Nat.reduceAdd, Nat.reduceMul, Nat.reduceEqDiff, Nat.reduceLT, Nat.reduceLeDiff, reduceCtorEq, Bool.false_eq_true, Bool.not_true, Bool.not_false, and_self, Nat.le_refl] <;> rfl) ?_
  by_cases hl : (xs.length : Int) = ys.length
  rotate_left
  · simp only [hl, decide_false, Bool.not_false, ↓reduceIte]
    refine awp_seq (awp_run rfl (by simp only [fw0, fw1, fw2, fw3, fw4, fw5, fw6, fw7, ↓reduceIte, Nat.reduceAdd, Nat.reduceMul, Nat.reduceEqDiff, Nat.reduceLT, Nat.reduceLeDiff, reduceCtorEq, Bool.false_eq_true, Bool.not_true, Bool.not_false, and_self, Nat.le_refl] <;> rfl) (awp_ret ?_))
    exact gives_end0 (.inl rfl) (by rw [decide_eq_false (fun e => hl (by rw [e]))]; rfl)
  simp only [hl, decide_true, Bool.not_true, Bool.false_eq_true, ↓reduceIte]
  refine awp_skip ?_
  have hl' : xs.length = ys.length := by omega
  refine awp_seq ?_
  refine awp_seq ?_
  -- region 3
  refine awp_run rfl (by simp only [fw0, fw1, fw2, fw3, fw4, fw5, fw6, fw7, ↓reduceIte, Nat.reduceAdd, Nat.reduceMul, Nat.reduceEqDiff, Nat.reduceLT, Nat.reduceLeDiff, reduceCtorEq, Bool.false_eq_true, Bool.not_true, Bool.not_false, and_self, Nat.le_refl, un27, List.length_map] <;> rfl) ?_
  refine awp_block ?_
  refine awp_forG [1, 2, 15, 16, 17] (fun i : Nat => [.vec (ys.map Tm.enc) false, .func (.func f) [] [], .vec (xs.map Tm.enc) false, .int .i64 xs.length, .int .i64 (i : Int)]) (fun _ => H) (fun i => xs.length - i)
    (fun i => i ≤ xs.length ∧ xs.take i = ys.take i) 0 rfl rfl ⟨Nat.zero_le _, rfl⟩ (fun i _ => ⟨hbd, rfl⟩) (fun i _ b hb => by cases hb) fun i hi => ?_
  refine awp_seq ?_
  -- region 4
  refine awp_run rfl (by simp only [fw0, fw1, fw2, fw3, fw4, fw5, fw6, fw7, ↓reduceIte, Nat.reduceAdd, Nat.reduceMul, Nat.reduceEqDiff, Nat.reduceLT, Nat.reduceLeDiff, reduceCtorEq, Bool.false_eq_true, Bool.not_true, Bool.not_false, and_self, Nat.le_refl] <;> rfl) ?_
  refine awp_seq ?_
  refine awp_cond (by simp only [fw0, fw1, fw2, fw3, fw4, fw5, fw6, fw7, ↓reduceIte, Nat.reduceAdd, Nat.reduceMul, Nat.reduceEqDiff, Nat.reduceLT, Nat.reduceLeDiff, reduceCtorEq, Bool.false_eq_true, Bool.not_true, Bool.not_false, and_self, Nat.le_refl] <;> rfl) ?_
  by_cases hc : (i : Int) < xs.length
  rotate_left
  · simp only [hc, decide_false, Bool.false_eq_true, ↓reduceIte]
    refine awp_exit ?_
    have hi' : i = xs.length := by omega
    refine awp_seq (awp_run rfl (by simp only [fw0, fw1, fw2, fw3, fw4, fw5, fw6, fw7, ↓reduceIte, Nat.reduceAdd, Nat.reduceMul, Nat.reduceEqDiff, Nat.reduceLT, Nat.reduceLeDiff, reduceCtorEq, Bool.false_eq_true, Bool.not_true, Bool.not_false, and_self, Nat.le_refl] <;> rfl) (awp_ret ?_))
    have e : xs = ys := by
      have := hi.2
      rwa [hi', List.take_length, hl', List.take_length] at this
    exact gives_end0 (.inl rfl) (by rw [decide_eq_true e]; rfl)
  simp only [hc, decide_true, ↓reduceIte]
  refine awp_skip ?_
  have hix : i < xs.length := by omega
  have gx : xs[i]? = some xs[i] := List.getElem?_eq_getElem hix
  have gy : ys[i]? = some (ys[i]'(by omega)) := List.getElem?_eq_getElem (by omega)
  refine awp_seq ?_
  refine awp_block ?_
  refine awp_seq ?_
  -- region 5
  refine awp_run rfl (by simp only [fw0, fw1, fw2, fw3, fw4, fw5, fw6, fw7, ↓reduceIte, Nat.reduceAdd, Nat.reduceMul, Nat.reduceEqDiff, Nat.reduceLT, Nat.reduceLeDiff, reduceCtorEq, Bool.false_eq_true, Bool.not_true, Bool.not_false, and_self, Nat.le_refl, el27, ti29, Tm.fw, List.getElem?_map, gx, Option.map_some, Int.natCast_nonneg] <;> rfl) ?_
  refine awp_seq ?_
  -- region 6
  refine awp_run rfl (by simp only [fw0, fw1, fw2, fw3, fw4, fw5, fw6, fw7, ↓reduceIte, Nat.reduceAdd, Nat.reduceMul, Nat.reduceEqDiff, Nat.reduceLT, Nat.reduceLeDiff, reduceCtorEq, Bool.false_eq_true, Bool.not_true, Bool.not_false, and_self, Nat.le_refl, el27, ti29, Tm.fw, List.getElem?_map, gy, Option.map_some, Int.natCast_nonneg] <;> rfl) ?_
  refine awp_seq ?_
  -- region 7
  refine awp_region rfl ?_
  refine aops_run 3 (by simp only [fw0, fw1, fw2, fw3, fw4, fw5, fw6, fw7, ↓reduceIte, Nat.reduceAdd, Nat.reduceMul, Nat.reduceEqDiff, Nat.reduceLT, Nat.reduceLeDiff, reduceCtorEq, Bool.false_eq_true, Bool.not_true, Bool.not_false, and_self, Nat.le_refl, ti29, Tm.fw] <;> rfl) ?_
  refine aops_fn rfl rfl rfl he (h _ (List.getElem_mem hix) _) ?_
  refine aops_run 1 (by simp only [fw0, fw1, fw2, fw3, fw4, fw5, fw6, fw7, ↓reduceIte, Nat.reduceAdd, Nat.reduceMul, Nat.reduceEqDiff, Nat.reduceLT, Nat.reduceLeDiff, reduceCtorEq, Bool.false_eq_true, Bool.not_true, Bool.not_false, and_self, Nat.le_refl] <;> rfl) ?_
  refine awp_cond (by simp only [fw0, fw1, fw2, fw3, fw4, fw5, fw6, fw7, ↓reduceIte, Nat.reduceAdd, Nat.reduceMul, Nat.reduceEqDiff, Nat.reduceLT, Nat.reduceLeDiff, reduceCtorEq, Bool.false_eq_true, Bool.not_true, Bool.not_false, and_self, Nat.le_refl] <;> rfl) ?_
  by_cases hk : xs[i] = ys[i]'(by omega)
  rotate_left
  · simp only [hk, decide_false, Bool.not_false, ↓reduceIte]
    refine awp_seq (awp_run rfl (by simp only [fw0, fw1, fw2, fw3, fw4, fw5, fw6, fw7, ↓reduceIte, Nat.reduceAdd, Nat.reduceMul, Nat.reduceEqDiff, Nat.reduceLT, Nat.reduceLeDiff, reduceCtorEq, Bool.false_eq_true, Bool.not_true, Bool.not_false, and_self, Nat.le_refl] <;> rfl) (awp_ret ?_))
    exact gives_end (.inl rfl) _ (by rw [decide_eq_false (fun e => hk (by subst e; rfl))]; rfl)
  simp only [hk, decide_true, Bool.not_true, Bool.false_eq_true, ↓reduceIte]
  refine awp_skip ?_
  -- region 9
  refine awp_run rfl (by simp only [fw0, fw1, fw2, fw3, fw4, fw5, fw6, fw7, ↓reduceIte, Nat.reduceAdd, Nat.reduceMul, Nat.reduceEqDiff, Nat.reduceLT, Nat.reduceLeDiff, reduceCtorEq, Bool.false_eq_true, Bool.not_true, Bool.not_false, and_self, Nat.le_refl] <;> rfl) ?_
  exact ⟨i + 1, _, by omega, ⟨by omega, by rw [List.take_add_one, List.take_add_one, hi.2, gx, gy, hk]⟩, by rw [wrapS i (by omega)]; rfl, rfl, rfl, Nat.le_refl _⟩

/-- term.Same -/
theorem c37 (Γ : Nat → PV) : ∀ a b : Tm, Gives Tryd.prog Γ 37 [.agg a.enc, .agg b.enc] (.bool (decide (a = b))) := by
  suffices ∀ n, ∀ a, SizeOf.sizeOf a < n → ∀ b : Tm, Gives Tryd.prog Γ 37 [.agg a.enc, .agg b.enc] (.bool (decide (a = b))) from fun a b => this _ a (Nat.lt_succ_self _) b
  intro n
  induction n with
  | zero => intro a ha; omega
  | succ n ih =>
  intro a ha b
  refine fn_of_awp Tryd.func37 rfl (by simp [Tryd.f37]) rfl fun H => ?_
  refine awp_seq ?_
  -- region 0
  refine awp_run rfl (by simp only [fw0, fw1, fw2, fw3, fw4, fw5, fw6, fw7, ↓reduceIte, Nat.reduceAdd, Nat.reduceMul, Nat.reduceEqDiff, Nat.reduceLT, Nat.reduceLeDiff, reduceCtorEq, Bool.false_eq_true, Bool.not_true, Bool.not_false, and_self, Nat.le_refl] <;> rfl) ?_
  refine awp_seq ?_
  -- region 1
  by_cases h1 : a.kind = b.kind
  rotate_left
  · refine awp_region rfl (aops_run 24 (by simp only [fw0, fw1, fw2, fw3, fw4, fw5, fw6, fw7, ↓reduceIte, Nat.reduceAdd, Nat.reduceMul, Nat.reduceEqDiff, Nat.reduceLT, Nat.reduceLeDiff, reduceCtorEq, Bool.false_eq_true, Bool.not_true, Bool.not_false, and_self, Nat.le_refl, fl29_0, ti3, fl29_1, ti9, fl29_2, ti2, fl29_3, ti27, Tm.fw, h1, decide_false, decide_true] <;> rfl) (aops_run 3 (by simp only [fw0, fw1, fw2, fw3, fw4, fw5, fw6, fw7, ↓reduceIte, Nat.reduceAdd, Nat.reduceMul, Nat.reduceEqDiff, Nat.reduceLT, Nat.reduceLeDiff, reduceCtorEq, Bool.false_eq_true, Bool.not_true, Bool.not_false, and_self, Nat.le_refl, fl29_0] <;> rfl) (awp_ret ?_)))
    exact gives_end (.inl rfl) _ (by rw [decide_eq_false (fun e => h1 (by rw [e]))]; rfl)
  by_cases h2 : a.name = b.name
  rotate_left
  · refine awp_region rfl (aops_run 24 (by simp only [fw0, fw1, fw2, fw3, fw4, fw5, fw6, fw7, ↓reduceIte, Nat.reduceAdd, Nat.reduceMul, Nat.reduceEqDiff, Nat.reduceLT, Nat.reduceLeDiff, reduceCtorEq, Bool.false_eq_true, Bool.not_true, Bool.not_false, and_self, Nat.le_refl, fl29_0, ti3, fl29_1, ti9, fl29_2, ti2, fl29_3, ti27, Tm.fw, h1, h2, decide_false, decide_true] <;> rfl) (aops_run 3 (by simp only [fw0, fw1, fw2, fw3, fw4, fw5, fw6, fw7, ↓reduceIte, Nat.reduceAdd, Nat.reduceMul, Nat.reduceEqDiff, Nat.reduceLT, Nat.reduceLeDiff, reduceCtorEq, Bool.false_eq_true, Bool.not_true, Bool.not_false, and_self, Nat.le_refl, fl29_0] <;> rfl) (awp_ret ?_)))
    exact gives_end (.inl rfl) _ (by rw [decide_eq_false (fun e => h2 (by rw [e]))]; rfl)
  by_cases h3 : a.n = b.n
  rotate_left
  · refine awp_region rfl (aops_run 24 (by simp only [fw0, fw1, fw2, fw3, fw4, fw5, fw6, fw7, ↓reduceIte, Nat.reduceAdd, Nat.reduceMul, Nat.reduceEqDiff, Nat.reduceLT, Nat.reduceLeDiff, reduceCtorEq, Bool.false_eq_true, Bool.not_true, Bool.not_false, and_self, Nat.le_refl, fl29_0, ti3, fl29_1, ti9, fl29_2, ti2, fl29_3, ti27, Tm.fw, h1, h2, h3, decide_false, decide_true] <;> rfl) (aops_run 3 (by simp only [fw0, fw1, fw2, fw3, fw4, fw5, fw6, fw7, ↓reduceIte, Nat.reduceAdd, Nat.reduceMul, Nat.reduceEqDiff, Nat.reduceLT, Nat.reduceLeDiff, reduceCtorEq, Bool.false_eq_true, Bool.not_true, Bool.not_false, and_self, Nat.le_refl, fl29_0] <;> rfl) (awp_ret ?_)))
    exact gives_end (.inl rfl) _ (by rw [decide_eq_false (fun e => h3 (by rw [e]))]; rfl)
  refine awp_region rfl ?_
  refine aops_run 24 (by simp only [fw0, fw1, fw2, fw3, fw4, fw5, fw6, fw7, ↓reduceIte, Nat.reduceAdd, Nat.reduceMul, Nat.reduceEqDiff, Nat.reduceLT, Nat.reduceLeDiff, reduceCtorEq, Bool.false_eq_true, Bool.not_true, Bool.not_false, and_self, Nat.le_refl, fl29_0, ti3, fl29_1, ti9, fl29_2, ti2, fl29_3, ti27, Tm.fw, h1, h2, h3, decide_true] <;> rfl) ?_
  refine aops_fnIf rfl rfl rfl rfl rfl en59 (c59 Γ 37 en37 a.kids b.kids (fun x hx y => ih x (by have := Tm.kids_lt hx; omega) y)) ?_
  refine aops_run 2 (by simp only [fw0, fw1, fw2, fw3, fw4, fw5, fw6, fw7, ↓reduceIte, Nat.reduceAdd, Nat.reduceMul, Nat.reduceEqDiff, Nat.reduceLT, Nat.reduceLeDiff, reduceCtorEq, Bool.false_eq_true, Bool.not_true, Bool.not_false, and_self, Nat.le_refl] <;> rfl) ?_
  refine awp_ret ?_
  refine gives_end (.inl rfl) _ ?_
  by_cases h4 : a.kids = b.kids
  · rw [decide_eq_true (Tm.ext h1 h2 h3 h4)]; simp [ares, aresL, ares1, alook, Tryd.f37, h4]
  · have e1 : decide (a = b) = false := decide_eq_false (fun e => h4 (by rw [e]))
    rw [e1]; simp [ares, aresL, ares1, alook, Tryd.f37, h4]

end Go.Proofs.YtnjlfbefpoecpaaDoor

/- The contracts of the operations: the program's by a map of closures, the document's. -/
namespace Go.Proofs.YtnjlfbefpoecpaaDoor
set_option linter.unusedVariables false
set_option linter.unusedSimpArgs false
set_option maxRecDepth 100000
open Go.RowKit Fw

theorem c90 (Γ : Nat → PV) (b : Bool) : Gives Tryd.prog Γ 90 [.bool b] (.int .i64 (if b then 1 else 0)) := by
  refine fn_of_awp Tryd.func90 rfl (by simp [Tryd.f90]) rfl fun H => ?_
  refine awp_seq (awp_run rfl (by simp only [fw0, fw1, fw2, fw3, fw4, fw5, fw6, fw7, ↓reduceIte, Nat.reduceAdd, Nat.reduceMul, Nat.reduceEqDiff, Nat.reduceLT, Nat.reduceLeDiff, reduceCtorEq, Bool.false_eq_true, Bool.not_true, Bool.not_false, and_self, Nat.le_refl] <;> rfl) ?_)
  refine awp_seq (awp_seq (awp_run rfl (by simp only [fw0, fw1, fw2, fw3, fw4, fw5, fw6, fw7, ↓reduceIte, Nat.reduceAdd, Nat.reduceMul, Nat.reduceEqDiff, Nat.reduceLT, Nat.reduceLeDiff, reduceCtorEq, Bool.false_eq_true, Bool.not_true, Bool.not_false, and_self, Nat.le_refl] <;> rfl) ?_))
  refine awp_cond (by simp only [fw0, fw1, fw2, fw3, fw4, fw5, fw6, fw7, ↓reduceIte, Nat.reduceAdd, Nat.reduceMul, Nat.reduceEqDiff, Nat.reduceLT, Nat.reduceLeDiff, reduceCtorEq, Bool.false_eq_true, Bool.not_true, Bool.not_false, and_self, Nat.le_refl] <;> rfl) ?_
  cases b with
  | true =>
    refine awp_seq (awp_run rfl (by simp only [fw0, fw1, fw2, fw3, fw4, fw5, fw6, fw7, ↓reduceIte, Nat.reduceAdd, Nat.reduceMul, Nat.reduceEqDiff, Nat.reduceLT, Nat.reduceLeDiff, reduceCtorEq, Bool.false_eq_true, Bool.not_true, Bool.not_false, and_self, Nat.le_refl] <;> rfl) ?_)
    exact awp_ret (gives_end0 (.inl rfl) rfl)
  | false =>
    refine awp_skip ?_
    refine awp_seq (awp_run rfl (by simp only [fw0, fw1, fw2, fw3, fw4, fw5, fw6, fw7, ↓reduceIte, Nat.reduceAdd, Nat.reduceMul, Nat.reduceEqDiff, Nat.reduceLT, Nat.reduceLeDiff, reduceCtorEq, Bool.false_eq_true, Bool.not_true, Bool.not_false, and_self, Nat.le_refl] <;> rfl) ?_)
    exact awp_ret (gives_end0 (.inl rfl) rfl)

/-- What a closure of Do computes of its two boxes. -/
def DoFn (Γ : Nat → PV) (f : Nat) (g : Int → Int → Int) : Prop := ∀ (H : List Blk) (b c : Nat) (x y : Int), H[b]? = some (.box [.int .i64 x]) → H[c]? = some (.box [.int .i64 y]) →
    ACalls Tryd.prog Γ f [.ptr b 0, .ptr c 0] H (fun p H' => p = .int .i64 (g x y) ∧ H' = H)

theorem c86 (Γ : Nat → PV) : DoFn Γ 86 (fun x y => IntKind.i64.wrap (x + y)) := by
  intro H b c x y hb hc
  refine acalls_of_awp Tryd.func86 rfl (by simp [Tryd.f86]) fun hbd => ?_
  refine awp_seq (awp_run rfl (by simp only [fw0, fw1, fw2, fw3, fw4, fw5, fw6, fw7, ↓reduceIte, Nat.reduceAdd, Nat.reduceMul, Nat.reduceEqDiff, Nat.reduceLT, Nat.reduceLeDiff, reduceCtorEq, Bool.false_eq_true, Bool.not_true, Bool.not_false, and_self, Nat.le_refl] <;> rfl) ?_)
  refine awp_seq (awp_run rfl (by simp only [fw0, fw1, fw2, fw3, fw4, fw5, fw6, fw7, ↓reduceIte, Nat.reduceAdd, Nat.reduceMul, Nat.reduceEqDiff, Nat.reduceLT, Nat.reduceLeDiff, reduceCtorEq, Bool.false_eq_true, Bool.not_true, Bool.not_false, and_self, Nat.le_refl, ti2, hb, hc] <;> rfl) ?_)
  exact awp_ret (calls_end0 (.inl rfl) hbd rfl rfl ⟨rfl, rfl⟩)
theorem c87 (Γ : Nat → PV) : DoFn Γ 87 (fun x y => IntKind.i64.wrap (x - y)) := by
  intro H b c x y hb hc
  refine acalls_of_awp Tryd.func87 rfl (by simp [Tryd.f87]) fun hbd => ?_
  refine awp_seq (awp_run rfl (by simp only [fw0, fw1, fw2, fw3, fw4, fw5, fw6, fw7, ↓reduceIte, Nat.reduceAdd, Nat.reduceMul, Nat.reduceEqDiff, Nat.reduceLT, Nat.reduceLeDiff, reduceCtorEq, Bool.false_eq_true, Bool.not_true, Bool.not_false, and_self, Nat.le_refl] <;> rfl) ?_)
  refine awp_seq (awp_run rfl (by simp only [fw0, fw1, fw2, fw3, fw4, fw5, fw6, fw7, ↓reduceIte, Nat.reduceAdd, Nat.reduceMul, Nat.reduceEqDiff, Nat.reduceLT, Nat.reduceLeDiff, reduceCtorEq, Bool.false_eq_true, Bool.not_true, Bool.not_false, and_self, Nat.le_refl, ti2, hb, hc] <;> rfl) ?_)
  exact awp_ret (calls_end0 (.inl rfl) hbd rfl rfl ⟨rfl, rfl⟩)
theorem c88 (Γ : Nat → PV) : DoFn Γ 88 (fun x y => IntKind.i64.wrap (x * y)) := by
  intro H b c x y hb hc
  refine acalls_of_awp Tryd.func88 rfl (by simp [Tryd.f88]) fun hbd => ?_
  refine awp_seq (awp_run rfl (by simp only [fw0, fw1, fw2, fw3, fw4, fw5, fw6, fw7, ↓reduceIte, Nat.reduceAdd, Nat.reduceMul, Nat.reduceEqDiff, Nat.reduceLT, Nat.reduceLeDiff, reduceCtorEq, Bool.false_eq_true, Bool.not_true, Bool.not_false, and_self, Nat.le_refl] <;> rfl) ?_)
  refine awp_seq (awp_run rfl (by simp only [fw0, fw1, fw2, fw3, fw4, fw5, fw6, fw7, ↓reduceIte, Nat.reduceAdd, Nat.reduceMul, Nat.reduceEqDiff, Nat.reduceLT, Nat.reduceLeDiff, reduceCtorEq, Bool.false_eq_true, Bool.not_true, Bool.not_false, and_self, Nat.le_refl, ti2, hb, hc] <;> rfl) ?_)
  exact awp_ret (calls_end0 (.inl rfl) hbd rfl rfl ⟨rfl, rfl⟩)
theorem c89 (Γ : Nat → PV) : DoFn Γ 89 (fun x y => if decide (x < y) then 1 else 0) := by
  intro H b c x y hb hc
  refine acalls_of_awp Tryd.func89 rfl (by simp [Tryd.f89]) fun hbd => ?_
  refine awp_seq (awp_run rfl (by simp only [fw0, fw1, fw2, fw3, fw4, fw5, fw6, fw7, ↓reduceIte, Nat.reduceAdd, Nat.reduceMul, Nat.reduceEqDiff, Nat.reduceLT, Nat.reduceLeDiff, reduceCtorEq, Bool.false_eq_true, Bool.not_true, Bool.not_false, and_self, Nat.le_refl] <;> rfl) ?_)
  refine awp_seq (awp_region rfl (aops_run 3 (by simp only [fw0, fw1, fw2, fw3, fw4, fw5, fw6, fw7, ↓reduceIte, Nat.reduceAdd, Nat.reduceMul, Nat.reduceEqDiff, Nat.reduceLT, Nat.reduceLeDiff, reduceCtorEq, Bool.false_eq_true, Bool.not_true, Bool.not_false, and_self, Nat.le_refl, ti2, hb, hc] <;> rfl) ?_))
  refine aops_fn rfl rfl rfl en90 (c90 Γ _) ?_
  refine aops_run 1 (by simp only [fw0, fw1, fw2, fw3, fw4, fw5, fw6, fw7, ↓reduceIte, Nat.reduceAdd, Nat.reduceMul, Nat.reduceEqDiff, Nat.reduceLT, Nat.reduceLeDiff, reduceCtorEq, Bool.false_eq_true, Bool.not_true, Bool.not_false, and_self, Nat.le_refl] <;> rfl) ?_
  exact awp_ret (calls_end0 (.inl rfl) hbd rfl rfl ⟨rfl, rfl⟩)
theorem c91 (Γ : Nat → PV) : DoFn Γ 91 (fun x y => if decide (x = y) then 1 else 0) := by
  intro H b c x y hb hc
  refine acalls_of_awp Tryd.func91 rfl (by simp [Tryd.f91]) fun hbd => ?_
  refine awp_seq (awp_run rfl (by simp only [fw0, fw1, fw2, fw3, fw4, fw5, fw6, fw7, ↓reduceIte, Nat.reduceAdd, Nat.reduceMul, Nat.reduceEqDiff, Nat.reduceLT, Nat.reduceLeDiff, reduceCtorEq, Bool.false_eq_true, Bool.not_true, Bool.not_false, and_self, Nat.le_refl] <;> rfl) ?_)
  refine awp_seq (awp_region rfl (aops_run 3 (by simp only [fw0, fw1, fw2, fw3, fw4, fw5, fw6, fw7, ↓reduceIte, Nat.reduceAdd, Nat.reduceMul, Nat.reduceEqDiff, Nat.reduceLT, Nat.reduceLeDiff, reduceCtorEq, Bool.false_eq_true, Bool.not_true, Bool.not_false, and_self, Nat.le_refl, ti2, hb, hc] <;> rfl) ?_))
  refine aops_fn rfl rfl rfl en90 (c90 Γ _) ?_
  refine aops_run 1 (by simp only [fw0, fw1, fw2, fw3, fw4, fw5, fw6, fw7, ↓reduceIte, Nat.reduceAdd, Nat.reduceMul, Nat.reduceEqDiff, Nat.reduceLT, Nat.reduceLeDiff, reduceCtorEq, Bool.false_eq_true, Bool.not_true, Bool.not_false, and_self, Nat.le_refl] <;> rfl) ?_
  exact awp_ret (calls_end0 (.inl rfl) hbd rfl rfl ⟨rfl, rfl⟩)

/-- What an operation comes to. -/
def doV (s : List UInt8) (x y : Int) : Option Int :=
  if s = [43] then some (IntKind.i64.wrap (x + y)) else if s = [45] then some (IntKind.i64.wrap (x - y)) else if s = [42] then some (IntKind.i64.wrap (x * y))
  else if s = [60] then some (if x < y then 1 else 0) else if s = [61] then some (if x = y then 1 else 0) else none

def doP (s : List UInt8) (x y : Int) : PV := .tup [.int .i64 ((doV s x y).getD 0), .bool (doV s x y).isSome]

theorem c81 (Γ : Nat → PV) (s : List UInt8) (x y : Int) : Gives Tryd.prog Γ 81 [.str s, .int .i64 x, .int .i64 y] (doP s x y) := by
  refine fn_of_awp Tryd.func81 rfl (by simp [Tryd.f81]) rfl fun H => ?_
  refine awp_seq ?_
  -- region 0
  refine awp_run rfl (by simp only [fw0, fw1, fw2, fw3, fw4, fw5, fw6, fw7, ↓reduceIte, Nat.reduceAdd, Nat.reduceMul, Nat.reduceEqDiff, Nat.reduceLT, Nat.reduceLeDiff, reduceCtorEq, Bool.false_eq_true, Bool.not_true, Bool.not_false, and_self, Nat.le_refl] <;> rfl) ?_
  refine awp_seq ?_
  -- region 1
  refine awp_region rfl ?_
  refine aops_one rfl (os_makeMap rfl ?_)
  refine aops_run 1 (by simp only [fw0, fw1, fw2, fw3, fw4, fw5, fw6, fw7, ↓reduceIte, Nat.reduceAdd, Nat.reduceMul, Nat.reduceEqDiff, Nat.reduceLT, Nat.reduceLeDiff, reduceCtorEq, Bool.false_eq_true, Bool.not_true, Bool.not_false, and_self, Nat.le_refl] <;> rfl) ?_
  refine aops_one rfl (os_mapUpdate (.inr rfl) un163 un9 rfl (by simp only [fw0, fw1, fw2, fw3, fw4, fw5, fw6, fw7, ↓reduceIte, Nat.reduceAdd, Nat.reduceMul, Nat.reduceEqDiff, Nat.reduceLT, Nat.reduceLeDiff, reduceCtorEq, Bool.false_eq_true, Bool.not_true, Bool.not_false, and_self, Nat.le_refl] <;> rfl) (by simp only [fw0, fw1, fw2, fw3, fw4, fw5, fw6, fw7, ↓reduceIte, Nat.reduceAdd, Nat.reduceMul, Nat.reduceEqDiff, Nat.reduceLT, Nat.reduceLeDiff, reduceCtorEq, Bool.false_eq_true, Bool.not_true, Bool.not_false, and_self, Nat.le_refl] <;> rfl) rfl ?_)
  refine aops_run 1 (by simp only [fw0, fw1, fw2, fw3, fw4, fw5, fw6, fw7, ↓reduceIte, Nat.reduceAdd, Nat.reduceMul, Nat.reduceEqDiff, Nat.reduceLT, Nat.reduceLeDiff, reduceCtorEq, Bool.false_eq_true, Bool.not_true, Bool.not_false, and_self, Nat.le_refl] <;> rfl) ?_
  refine aops_one rfl (os_mapUpdate (.inr rfl) un163 un9 rfl (by simp only [fw0, fw1, fw2, fw3, fw4, fw5, fw6, fw7, ↓reduceIte, Nat.reduceAdd, Nat.reduceMul, Nat.reduceEqDiff, Nat.reduceLT, Nat.reduceLeDiff, reduceCtorEq, Bool.false_eq_true, Bool.not_true, Bool.not_false, and_self, Nat.le_refl] <;> rfl) (by simp only [fw0, fw1, fw2, fw3, fw4, fw5, fw6, fw7, ↓reduceIte, Nat.reduceAdd, Nat.reduceMul, Nat.reduceEqDiff, Nat.reduceLT, Nat.reduceLeDiff, reduceCtorEq, Bool.false_eq_true, Bool.not_true, Bool.not_false, and_self, Nat.le_refl] <;> rfl) rfl ?_)
  refine aops_run 1 (by simp only [fw0, fw1, fw2, fw3, fw4, fw5, fw6, fw7, ↓reduceIte, Nat.reduceAdd, Nat.reduceMul, Nat.reduceEqDiff, Nat.reduceLT, Nat.reduceLeDiff, reduceCtorEq, Bool.false_eq_true, Bool.not_true, Bool.not_false, and_self, Nat.le_refl] <;> rfl) ?_
  refine aops_one rfl (os_mapUpdate (.inr rfl) un163 un9 rfl (by simp only [fw0, fw1, fw2, fw3, fw4, fw5, fw6, fw7, ↓reduceIte, Nat.reduceAdd, Nat.reduceMul, Nat.reduceEqDiff, Nat.reduceLT, Nat.reduceLeDiff, reduceCtorEq, Bool.false_eq_true, Bool.not_true, Bool.not_false, and_self, Nat.le_refl] <;> rfl) (by simp only [fw0, fw1, fw2, fw3, fw4, fw5, fw6, fw7, ↓reduceIte, Nat.reduceAdd, Nat.reduceMul, Nat.reduceEqDiff, Nat.reduceLT, Nat.reduceLeDiff, reduceCtorEq, Bool.false_eq_true, Bool.not_true, Bool.not_false, and_self, Nat.le_refl] <;> rfl) rfl ?_)
  refine aops_run 1 (by simp only [fw0, fw1, fw2, fw3, fw4, fw5, fw6, fw7, ↓reduceIte, Nat.reduceAdd, Nat.reduceMul, Nat.reduceEqDiff, Nat.reduceLT, Nat.reduceLeDiff, reduceCtorEq, Bool.false_eq_true, Bool.not_true, Bool.not_false, and_self, Nat.le_refl] <;> rfl) ?_
  refine aops_one rfl (os_mapUpdate (.inr rfl) un163 un9 rfl (by simp only [fw0, fw1, fw2, fw3, fw4, fw5, fw6, fw7, ↓reduceIte, Nat.reduceAdd, Nat.reduceMul, Nat.reduceEqDiff, Nat.reduceLT, Nat.reduceLeDiff, reduceCtorEq, Bool.false_eq_true, Bool.not_true, Bool.not_false, and_self, Nat.le_refl] <;> rfl) (by simp only [fw0, fw1, fw2, fw3, fw4, fw5, fw6, fw7, ↓reduceIte, Nat.reduceAdd, Nat.reduceMul, Nat.reduceEqDiff, Nat.reduceLT, Nat.reduceLeDiff, reduceCtorEq, Bool.false_eq_true, Bool.not_true, Bool.not_false, and_self, Nat.le_refl] <;> rfl) rfl ?_)
  refine aops_run 1 (by simp only [fw0, fw1, fw2, fw3, fw4, fw5, fw6, fw7, ↓reduceIte, Nat.reduceAdd, Nat.reduceMul, Nat.reduceEqDiff, Nat.reduceLT, Nat.reduceLeDiff, reduceCtorEq, Bool.false_eq_true, Bool.not_true, Bool.not_false, and_self, Nat.le_refl] <;> rfl) ?_
  refine aops_one rfl (os_mapUpdate (.inr rfl) un163 un9 rfl (by simp only [fw0, fw1, fw2, fw3, fw4, fw5, fw6, fw7, ↓reduceIte, Nat.reduceAdd, Nat.reduceMul, Nat.reduceEqDiff, Nat.reduceLT, Nat.reduceLeDiff, reduceCtorEq, Bool.false_eq_true, Bool.not_true, Bool.not_false, and_self, Nat.le_refl] <;> rfl) (by simp only [fw0, fw1, fw2, fw3, fw4, fw5, fw6, fw7, ↓reduceIte, Nat.reduceAdd, Nat.reduceMul, Nat.reduceEqDiff, Nat.reduceLT, Nat.reduceLeDiff, reduceCtorEq, Bool.false_eq_true, Bool.not_true, Bool.not_false, and_self, Nat.le_refl] <;> rfl) rfl ?_)
  refine aops_run 2 (by simp only [fw0, fw1, fw2, fw3, fw4, fw5, fw6, fw7, ↓reduceIte, Nat.reduceAdd, Nat.reduceMul, Nat.reduceEqDiff, Nat.reduceLT, Nat.reduceLeDiff, reduceCtorEq, Bool.false_eq_true, Bool.not_true, Bool.not_false, and_self, Nat.le_refl] <;> rfl) ?_
  have hz := zero1_spec (show zero1 Tryd.prog 162 = some .nilf by kernel_rfl)
  by_cases h0 : s = [43]
  · subst h0
    refine aops_one rfl (os_lookup rfl un163 un9 rfl (by simp only [fw0, fw1, fw2, fw3, fw4, fw5, fw6, fw7, ↓reduceIte, Nat.reduceAdd, Nat.reduceMul, Nat.reduceEqDiff, Nat.reduceLT, Nat.reduceLeDiff, reduceCtorEq, Bool.false_eq_true, Bool.not_true, Bool.not_false, and_self, Nat.le_refl] <;> rfl) (by simp only [fw0, fw1, fw2, fw3, fw4, fw5, fw6, fw7, ↓reduceIte, Nat.reduceAdd, Nat.reduceMul, Nat.reduceEqDiff, Nat.reduceLT, Nat.reduceLeDiff, reduceCtorEq, Bool.false_eq_true, Bool.not_true, Bool.not_false, and_self, Nat.le_refl] <;> rfl) rfl (fun _ => hz) ?_)
    refine aops_run 1 (by simp only [fw0, fw1, fw2, fw3, fw4, fw5, fw6, fw7, ↓reduceIte, Nat.reduceAdd, Nat.reduceMul, Nat.reduceEqDiff, Nat.reduceLT, Nat.reduceLeDiff, reduceCtorEq, Bool.false_eq_true, Bool.not_true, Bool.not_false, and_self, Nat.le_refl] <;> rfl) ?_
    refine awp_seq (awp_seq (awp_run rfl (by simp only [fw0, fw1, fw2, fw3, fw4, fw5, fw6, fw7, ↓reduceIte, Nat.reduceAdd, Nat.reduceMul, Nat.reduceEqDiff, Nat.reduceLT, Nat.reduceLeDiff, reduceCtorEq, Bool.false_eq_true, Bool.not_true, Bool.not_false, and_self, Nat.le_refl, un162] <;> rfl) ?_))
    refine awp_cond (by simp only [fw0, fw1, fw2, fw3, fw4, fw5, fw6, fw7, ↓reduceIte, Nat.reduceAdd, Nat.reduceMul, Nat.reduceEqDiff, Nat.reduceLT, Nat.reduceLeDiff, reduceCtorEq, Bool.false_eq_true, Bool.not_true, Bool.not_false, and_self, Nat.le_refl] <;> rfl) (awp_skip ?_)
    refine awp_seq (awp_region rfl (aops_run 1 (by simp only [fw0, fw1, fw2, fw3, fw4, fw5, fw6, fw7, ↓reduceIte, Nat.reduceAdd, Nat.reduceMul, Nat.reduceEqDiff, Nat.reduceLT, Nat.reduceLeDiff, reduceCtorEq, Bool.false_eq_true, Bool.not_true, Bool.not_false, and_self, Nat.le_refl] <;> rfl) ?_))
    refine aops_call rfl rfl rfl en86 ((c86 Γ _ _ _ x y (by simp only [fw0, fw1, fw2, fw3, fw4, fw5, fw6, fw7, ↓reduceIte, Nat.reduceAdd, Nat.reduceMul, Nat.reduceEqDiff, Nat.reduceLT, Nat.reduceLeDiff, reduceCtorEq, Bool.false_eq_true, Bool.not_true, Bool.not_false, and_self, Nat.le_refl] <;> rfl) (by simp only [fw0, fw1, fw2, fw3, fw4, fw5, fw6, fw7, ↓reduceIte, Nat.reduceAdd, Nat.reduceMul, Nat.reduceEqDiff, Nat.reduceLT, Nat.reduceLeDiff, reduceCtorEq, Bool.false_eq_true, Bool.not_true, Bool.not_false, and_self, Nat.le_refl] <;> rfl)).mono fun p H' hp => ?_)
    obtain ⟨rfl, rfl⟩ := hp
    refine aops_run 2 (by simp only [fw0, fw1, fw2, fw3, fw4, fw5, fw6, fw7, ↓reduceIte, Nat.reduceAdd, Nat.reduceMul, Nat.reduceEqDiff, Nat.reduceLT, Nat.reduceLeDiff, reduceCtorEq, Bool.false_eq_true, Bool.not_true, Bool.not_false, and_self, Nat.le_refl] <;> rfl) ?_
    exact awp_ret (gives_end (.inl rfl) _ (by simp [doP, doV, ares, aresL, ares1, alook, Tryd.f81]))
  by_cases h1 : s = [45]
  · subst h1
    refine aops_one rfl (os_lookup rfl un163 un9 rfl (by simp only [fw0, fw1, fw2, fw3, fw4, fw5, fw6, fw7, ↓reduceIte, Nat.reduceAdd, Nat.reduceMul, Nat.reduceEqDiff, Nat.reduceLT, Nat.reduceLeDiff, reduceCtorEq, Bool.false_eq_true, Bool.not_true, Bool.not_false, and_self, Nat.le_refl] <;> rfl) (by simp only [fw0, fw1, fw2, fw3, fw4, fw5, fw6, fw7, ↓reduceIte, Nat.reduceAdd, Nat.reduceMul, Nat.reduceEqDiff, Nat.reduceLT, Nat.reduceLeDiff, reduceCtorEq, Bool.false_eq_true, Bool.not_true, Bool.not_false, and_self, Nat.le_refl] <;> rfl) rfl (fun _ => hz) ?_)
    refine aops_run 1 (by simp only [fw0, fw1, fw2, fw3, fw4, fw5, fw6, fw7, ↓reduceIte, Nat.reduceAdd, Nat.reduceMul, Nat.reduceEqDiff, Nat.reduceLT, Nat.reduceLeDiff, reduceCtorEq, Bool.false_eq_true, Bool.not_true, Bool.not_false, and_self, Nat.le_refl] <;> rfl) ?_
    refine awp_seq (awp_seq (awp_run rfl (by simp only [fw0, fw1, fw2, fw3, fw4, fw5, fw6, fw7, ↓reduceIte, Nat.reduceAdd, Nat.reduceMul, Nat.reduceEqDiff, Nat.reduceLT, Nat.reduceLeDiff, reduceCtorEq, Bool.false_eq_true, Bool.not_true, Bool.not_false, and_self, Nat.le_refl, un162] <;> rfl) ?_))
    refine awp_cond (by simp only [fw0, fw1, fw2, fw3, fw4, fw5, fw6, fw7, ↓reduceIte, Nat.reduceAdd, Nat.reduceMul, Nat.reduceEqDiff, Nat.reduceLT, Nat.reduceLeDiff, reduceCtorEq, Bool.false_eq_true, Bool.not_true, Bool.not_false, and_self, Nat.le_refl] <;> rfl) (awp_skip ?_)
    refine awp_seq (awp_region rfl (aops_run 1 (by simp only [fw0, fw1, fw2, fw3, fw4, fw5, fw6, fw7, ↓reduceIte, Nat.reduceAdd, Nat.reduceMul, Nat.reduceEqDiff, Nat.reduceLT, Nat.reduceLeDiff, reduceCtorEq, Bool.false_eq_true, Bool.not_true, Bool.not_false, and_self, Nat.le_refl] <;> rfl) ?_))
    refine aops_call rfl rfl rfl en87 ((c87 Γ _ _ _ x y (by simp only [fw0, fw1, fw2, fw3, fw4, fw5, fw6, fw7, ↓reduceIte, Nat.reduceAdd, Nat.reduceMul, Nat.reduceEqDiff, Nat.reduceLT, Nat.reduceLeDiff, reduceCtorEq, Bool.false_eq_true, Bool.not_true, Bool.not_false, and_self, Nat.le_refl] <;> rfl) (by simp only [fw0, fw1, fw2, fw3, fw4, fw5, fw6, fw7, ↓reduceIte, Nat.reduceAdd, Nat.reduceMul, Nat.reduceEqDiff, Nat.reduceLT, Nat.reduceLeDiff, reduceCtorEq, Bool.false_eq_true, Bool.not_true, Bool.not_false, and_self, Nat.le_refl] <;> rfl)).mono fun p H' hp => ?_)
    obtain ⟨rfl, rfl⟩ := hp
    refine aops_run 2 (by simp only [fw0, fw1, fw2, fw3, fw4, fw5, fw6, fw7, ↓reduceIte, Nat.reduceAdd, Nat.reduceMul, Nat.reduceEqDiff, Nat.reduceLT, Nat.reduceLeDiff, reduceCtorEq, Bool.false_eq_true, Bool.not_true, Bool.not_false, and_self, Nat.le_refl] <;> rfl) ?_
    exact awp_ret (gives_end (.inl rfl) _ (by simp [doP, doV, ares, aresL, ares1, alook, Tryd.f81]))
  by_cases h2 : s = [42]
  · subst h2
    refine aops_one rfl (os_lookup rfl un163 un9 rfl (by simp only [fw0, fw1, fw2, fw3, fw4, fw5, fw6, fw7, ↓reduceIte, Nat.reduceAdd, Nat.reduceMul, Nat.reduceEqDiff, Nat.reduceLT, Nat.reduceLeDiff, reduceCtorEq, Bool.false_eq_true, Bool.not_true, Bool.not_false, and_self, Nat.le_refl] <;> rfl) (by simp only [fw0, fw1, fw2, fw3, fw4, fw5, fw6, fw7, ↓reduceIte, Nat.reduceAdd, Nat.reduceMul, Nat.reduceEqDiff, Nat.reduceLT, Nat.reduceLeDiff, reduceCtorEq, Bool.false_eq_true, Bool.not_true, Bool.not_false, and_self, Nat.le_refl] <;> rfl) rfl (fun _ => hz) ?_)
    refine aops_run 1 (by simp only [fw0, fw1, fw2, fw3, fw4, fw5, fw6, fw7, ↓reduceIte, Nat.reduceAdd, Nat.reduceMul, Nat.reduceEqDiff, Nat.reduceLT, Nat.reduceLeDiff, reduceCtorEq, Bool.false_eq_true, Bool.not_true, Bool.not_false, and_self, Nat.le_refl] <;> rfl) ?_
    refine awp_seq (awp_seq (awp_run rfl (by simp only [fw0, fw1, fw2, fw3, fw4, fw5, fw6, fw7, ↓reduceIte, Nat.reduceAdd, Nat.reduceMul, Nat.reduceEqDiff, Nat.reduceLT, Nat.reduceLeDiff, reduceCtorEq, Bool.false_eq_true, Bool.not_true, Bool.not_false, and_self, Nat.le_refl, un162] <;> rfl) ?_))
    refine awp_cond (by simp only [fw0, fw1, fw2, fw3, fw4, fw5, fw6, fw7, ↓reduceIte, Nat.reduceAdd, Nat.reduceMul, Nat.reduceEqDiff, Nat.reduceLT, Nat.reduceLeDiff, reduceCtorEq, Bool.false_eq_true, Bool.not_true, Bool.not_false, and_self, Nat.le_refl] <;> rfl) (awp_skip ?_)
    refine awp_seq (awp_region rfl (aops_run 1 (by simp only [fw0, fw1, fw2, fw3, fw4, fw5, fw6, fw7, ↓reduceIte, Nat.reduceAdd, Nat.reduceMul, Nat.reduceEqDiff, Nat.reduceLT, Nat.reduceLeDiff, reduceCtorEq, Bool.false_eq_true, Bool.not_true, Bool.not_false, and_self, Nat.le_refl] <;> rfl) ?_))
    refine aops_call rfl rfl rfl en88 ((c88 Γ _ _ _ x y (by simp only [fw0, fw1, fw2, fw3, fw4, fw5, fw6, fw7, ↓reduceIte, Nat.reduceAdd, Nat.reduceMul, Nat.reduceEqDiff, Nat.reduceLT, Nat.reduceLeDiff, reduceCtorEq, Bool.false_eq_true, Bool.not_true, Bool.not_false, and_self, Nat.le_refl] <;> rfl) (by simp only [fw0, fw1, fw2, fw3, fw4, fw5, fw6, fw7, ↓reduceIte, Nat.reduceAdd, Nat.reduceMul, Nat.reduceEqDiff, Nat.reduceLT, Nat.reduceLeDiff, reduceCtorEq, Bool.false_eq_true, Bool.not_true, Bool.not_false, and_self, Nat.le_refl] <;> rfl)).mono fun p H' hp => ?_)
    obtain ⟨rfl, rfl⟩ := hp
    refine aops_run 2 (by simp only [fw0, fw1, fw2, fw3, fw4, fw5, fw6, fw7, ↓reduceIte, Nat.reduceAdd, Nat.reduceMul, Nat.reduceEqDiff, Nat.reduceLT, Nat.reduceLeDiff, reduceCtorEq, Bool.false_eq_true, Bool.not_true, Bool.not_false, and_self, Nat.le_refl] <;> rfl) ?_
    exact awp_ret (gives_end (.inl rfl) _ (by simp [doP, doV, ares, aresL, ares1, alook, Tryd.f81]))
  by_cases h3 : s = [60]
  · subst h3
    refine aops_one rfl (os_lookup rfl un163 un9 rfl (by simp only [fw0, fw1, fw2, fw3, fw4, fw5, fw6, fw7, ↓reduceIte, Nat.reduceAdd, Nat.reduceMul, Nat.reduceEqDiff, Nat.reduceLT, Nat.reduceLeDiff, reduceCtorEq, Bool.false_eq_true, Bool.not_true, Bool.not_false, and_self, Nat.le_refl] <;> rfl) (by simp only [fw0, fw1, fw2, fw3, fw4, fw5, fw6, fw7, ↓reduceIte, Nat.reduceAdd, Nat.reduceMul, Nat.reduceEqDiff, Nat.reduceLT, Nat.reduceLeDiff, reduceCtorEq, Bool.false_eq_true, Bool.not_true, Bool.not_false, and_self, Nat.le_refl] <;> rfl) rfl (fun _ => hz) ?_)
    refine aops_run 1 (by simp only [fw0, fw1, fw2, fw3, fw4, fw5, fw6, fw7, ↓reduceIte, Nat.reduceAdd, Nat.reduceMul, Nat.reduceEqDiff, Nat.reduceLT, Nat.reduceLeDiff, reduceCtorEq, Bool.false_eq_true, Bool.not_true, Bool.not_false, and_self, Nat.le_refl] <;> rfl) ?_
    refine awp_seq (awp_seq (awp_run rfl (by simp only [fw0, fw1, fw2, fw3, fw4, fw5, fw6, fw7, ↓reduceIte, Nat.reduceAdd, Nat.reduceMul, Nat.reduceEqDiff, Nat.reduceLT, Nat.reduceLeDiff, reduceCtorEq, Bool.false_eq_true, Bool.not_true, Bool.not_false, and_self, Nat.le_refl, un162] <;> rfl) ?_))
    refine awp_cond (by simp only [fw0, fw1, fw2, fw3, fw4, fw5, fw6, fw7, ↓reduceIte, Nat.reduceAdd, Nat.reduceMul, Nat.reduceEqDiff, Nat.reduceLT, Nat.reduceLeDiff, reduceCtorEq, Bool.false_eq_true, Bool.not_true, Bool.not_false, and_self, Nat.le_refl] <;> rfl) (awp_skip ?_)
    refine awp_seq (awp_region rfl (aops_run 1 (by simp only [fw0, fw1, fw2, fw3, fw4, fw5, fw6, fw7, ↓reduceIte, Nat.reduceAdd, Nat.reduceMul, Nat.reduceEqDiff, Nat.reduceLT, Nat.reduceLeDiff, reduceCtorEq, Bool.false_eq_true, Bool.not_true, Bool.not_false, and_self, Nat.le_refl] <;> rfl) ?_))
    refine aops_call rfl rfl rfl en89 ((c89 Γ _ _ _ x y (by simp only [fw0, fw1, fw2, fw3, fw4, fw5, fw6, fw7, ↓reduceIte, Nat.reduceAdd, Nat.reduceMul, Nat.reduceEqDiff, Nat.reduceLT, Nat.reduceLeDiff, reduceCtorEq, Bool.false_eq_true, Bool.not_true, Bool.not_false, and_self, Nat.le_refl] <;> rfl) (by simp only [fw0, fw1, fw2, fw3, fw4, fw5, fw6, fw7, ↓reduceIte, Nat.reduceAdd, Nat.reduceMul, Nat.reduceEqDiff, Nat.reduceLT, Nat.reduceLeDiff, reduceCtorEq, Bool.false_eq_true, Bool.not_true, Bool.not_false, and_self, Nat.le_refl] <;> rfl)).mono fun p H' hp => ?_)
    obtain ⟨rfl, rfl⟩ := hp
    refine aops_run 2 (by simp only [fw0, fw1, fw2, fw3, fw4, fw5, fw6, fw7, ↓reduceIte, Nat.reduceAdd, Nat.reduceMul, Nat.reduceEqDiff, Nat.reduceLT, Nat.reduceLeDiff, reduceCtorEq, Bool.false_eq_true, Bool.not_true, Bool.not_false, and_self, Nat.le_refl] <;> rfl) ?_
    exact awp_ret (gives_end (.inl rfl) _ (by simp [doP, doV, ares, aresL, ares1, alook, Tryd.f81]))
  by_cases h4 : s = [61]
  · subst h4
    refine aops_one rfl (os_lookup rfl un163 un9 rfl (by simp only [fw0, fw1, fw2, fw3, fw4, fw5, fw6, fw7, ↓reduceIte, Nat.reduceAdd, Nat.reduceMul, Nat.reduceEqDiff, Nat.reduceLT, Nat.reduceLeDiff, reduceCtorEq, Bool.false_eq_true, Bool.not_true, Bool.not_false, and_self, Nat.le_refl] <;> rfl) (by simp only [fw0, fw1, fw2, fw3, fw4, fw5, fw6, fw7, ↓reduceIte, Nat.reduceAdd, Nat.reduceMul, Nat.reduceEqDiff, Nat.reduceLT, Nat.reduceLeDiff, reduceCtorEq, Bool.false_eq_true, Bool.not_true, Bool.not_false, and_self, Nat.le_refl] <;> rfl) rfl (fun _ => hz) ?_)
    refine aops_run 1 (by simp only [fw0, fw1, fw2, fw3, fw4, fw5, fw6, fw7, ↓reduceIte, Nat.reduceAdd, Nat.reduceMul, Nat.reduceEqDiff, Nat.reduceLT, Nat.reduceLeDiff, reduceCtorEq, Bool.false_eq_true, Bool.not_true, Bool.not_false, and_self, Nat.le_refl] <;> rfl) ?_
    refine awp_seq (awp_seq (awp_run rfl (by simp only [fw0, fw1, fw2, fw3, fw4, fw5, fw6, fw7, ↓reduceIte, Nat.reduceAdd, Nat.reduceMul, Nat.reduceEqDiff, Nat.reduceLT, Nat.reduceLeDiff, reduceCtorEq, Bool.false_eq_true, Bool.not_true, Bool.not_false, and_self, Nat.le_refl, un162] <;> rfl) ?_))
    refine awp_cond (by simp only [fw0, fw1, fw2, fw3, fw4, fw5, fw6, fw7, ↓reduceIte, Nat.reduceAdd, Nat.reduceMul, Nat.reduceEqDiff, Nat.reduceLT, Nat.reduceLeDiff, reduceCtorEq, Bool.false_eq_true, Bool.not_true, Bool.not_false, and_self, Nat.le_refl] <;> rfl) (awp_skip ?_)
    refine awp_seq (awp_region rfl (aops_run 1 (by simp only [fw0, fw1, fw2, fw3, fw4, fw5, fw6, fw7, ↓reduceIte, Nat.reduceAdd, Nat.reduceMul, Nat.reduceEqDiff, Nat.reduceLT, Nat.reduceLeDiff, reduceCtorEq, Bool.false_eq_true, Bool.not_true, Bool.not_false, and_self, Nat.le_refl] <;> rfl) ?_))
    refine aops_call rfl rfl rfl en91 ((c91 Γ _ _ _ x y (by simp only [fw0, fw1, fw2, fw3, fw4, fw5, fw6, fw7, ↓reduceIte, Nat.reduceAdd, Nat.reduceMul, Nat.reduceEqDiff, Nat.reduceLT, Nat.reduceLeDiff, reduceCtorEq, Bool.false_eq_true, Bool.not_true, Bool.not_false, and_self, Nat.le_refl] <;> rfl) (by simp only [fw0, fw1, fw2, fw3, fw4, fw5, fw6, fw7, ↓reduceIte, Nat.reduceAdd, Nat.reduceMul, Nat.reduceEqDiff, Nat.reduceLT, Nat.reduceLeDiff, reduceCtorEq, Bool.false_eq_true, Bool.not_true, Bool.not_false, and_self, Nat.le_refl] <;> rfl)).mono fun p H' hp => ?_)
    obtain ⟨rfl, rfl⟩ := hp
    refine aops_run 2 (by simp only [fw0, fw1, fw2, fw3, fw4, fw5, fw6, fw7, ↓reduceIte, Nat.reduceAdd, Nat.reduceMul, Nat.reduceEqDiff, Nat.reduceLT, Nat.reduceLeDiff, reduceCtorEq, Bool.false_eq_true, Bool.not_true, Bool.not_false, and_self, Nat.le_refl] <;> rfl) ?_
    exact awp_ret (gives_end (.inl rfl) _ (by simp [doP, doV, ares, aresL, ares1, alook, Tryd.f81]))
  refine aops_one rfl (os_lookup rfl un163 un9 rfl (by simp only [fw0, fw1, fw2, fw3, fw4, fw5, fw6, fw7, ↓reduceIte, Nat.reduceAdd, Nat.reduceMul, Nat.reduceEqDiff, Nat.reduceLT, Nat.reduceLeDiff, reduceCtorEq, Bool.false_eq_true, Bool.not_true, Bool.not_false, and_self, Nat.le_refl] <;> rfl) (by simp only [fw0, fw1, fw2, fw3, fw4, fw5, fw6, fw7, ↓reduceIte, Nat.reduceAdd, Nat.reduceMul, Nat.reduceEqDiff, Nat.reduceLT, Nat.reduceLeDiff, reduceCtorEq, Bool.false_eq_true, Bool.not_true, Bool.not_false, and_self, Nat.le_refl] <;> rfl) (by simp only [fw0, fw1, fw2, fw3, fw4, fw5, fw6, fw7, ↓reduceIte, Nat.reduceAdd, Nat.reduceMul, Nat.reduceEqDiff, Nat.reduceLT, Nat.reduceLeDiff, reduceCtorEq, Bool.false_eq_true, Bool.not_true, Bool.not_false, and_self, Nat.le_refl, h0, h1, h2, h3, h4, decide_false] <;> rfl) (fun _ => hz) ?_)
  refine aops_run 1 (by simp only [fw0, fw1, fw2, fw3, fw4, fw5, fw6, fw7, ↓reduceIte, Nat.reduceAdd, Nat.reduceMul, Nat.reduceEqDiff, Nat.reduceLT, Nat.reduceLeDiff, reduceCtorEq, Bool.false_eq_true, Bool.not_true, Bool.not_false, and_self, Nat.le_refl] <;> rfl) ?_
  refine awp_seq (awp_seq (awp_run rfl (by simp only [fw0, fw1, fw2, fw3, fw4, fw5, fw6, fw7, ↓reduceIte, Nat.reduceAdd, Nat.reduceMul, Nat.reduceEqDiff, Nat.reduceLT, Nat.reduceLeDiff, reduceCtorEq, Bool.false_eq_true, Bool.not_true, Bool.not_false, and_self, Nat.le_refl, un162] <;> rfl) ?_))
  refine awp_cond (by simp only [fw0, fw1, fw2, fw3, fw4, fw5, fw6, fw7, ↓reduceIte, Nat.reduceAdd, Nat.reduceMul, Nat.reduceEqDiff, Nat.reduceLT, Nat.reduceLeDiff, reduceCtorEq, Bool.false_eq_true, Bool.not_true, Bool.not_false, and_self, Nat.le_refl] <;> rfl) ?_
  refine awp_seq (awp_run rfl (by simp only [fw0, fw1, fw2, fw3, fw4, fw5, fw6, fw7, ↓reduceIte, Nat.reduceAdd, Nat.reduceMul, Nat.reduceEqDiff, Nat.reduceLT, Nat.reduceLeDiff, reduceCtorEq, Bool.false_eq_true, Bool.not_true, Bool.not_false, and_self, Nat.le_refl] <;> rfl) (awp_ret ?_))
  exact gives_end (.inl rfl) _ (by simp [doP, doV, ares, aresL, ares1, alook, Tryd.f81, h0, h1, h2, h3, h4])

theorem c82 (Γ : Nat → PV) (b : Bool) : Gives Tryd.prog Γ 82 [.bool b] (.int .i64 (if b then 1 else 0)) := by
  refine fn_of_awp Tryd.func82 rfl (by simp [Tryd.f82]) rfl fun H => ?_
  refine awp_seq (awp_run rfl (by simp only [fw0, fw1, fw2, fw3, fw4, fw5, fw6, fw7, ↓reduceIte, Nat.reduceAdd, Nat.reduceMul, Nat.reduceEqDiff, Nat.reduceLT, Nat.reduceLeDiff, reduceCtorEq, Bool.false_eq_true, Bool.not_true, Bool.not_false, and_self, Nat.le_refl] <;> rfl) ?_)
  refine awp_seq (awp_seq (awp_run rfl (by simp only [fw0, fw1, fw2, fw3, fw4, fw5, fw6, fw7, ↓reduceIte, Nat.reduceAdd, Nat.reduceMul, Nat.reduceEqDiff, Nat.reduceLT, Nat.reduceLeDiff, reduceCtorEq, Bool.false_eq_true, Bool.not_true, Bool.not_false, and_self, Nat.le_refl] <;> rfl) ?_))
  refine awp_cond (by simp only [fw0, fw1, fw2, fw3, fw4, fw5, fw6, fw7, ↓reduceIte, Nat.reduceAdd, Nat.reduceMul, Nat.reduceEqDiff, Nat.reduceLT, Nat.reduceLeDiff, reduceCtorEq, Bool.false_eq_true, Bool.not_true, Bool.not_false, and_self, Nat.le_refl] <;> rfl) ?_
  cases b with
  | true =>
    refine awp_seq (awp_run rfl (by simp only [fw0, fw1, fw2, fw3, fw4, fw5, fw6, fw7, ↓reduceIte, Nat.reduceAdd, Nat.reduceMul, Nat.reduceEqDiff, Nat.reduceLT, Nat.reduceLeDiff, reduceCtorEq, Bool.false_eq_true, Bool.not_true, Bool.not_false, and_self, Nat.le_refl] <;> rfl) ?_)
    exact awp_ret (gives_end0 (.inl rfl) rfl)
  | false =>
    refine awp_skip ?_
    refine awp_seq (awp_run rfl (by simp only [fw0, fw1, fw2, fw3, fw4, fw5, fw6, fw7, ↓reduceIte, Nat.reduceAdd, Nat.reduceMul, Nat.reduceEqDiff, Nat.reduceLT, Nat.reduceLeDiff, reduceCtorEq, Bool.false_eq_true, Bool.not_true, Bool.not_false, and_self, Nat.le_refl] <;> rfl) ?_)
    exact awp_ret (gives_end0 (.inl rfl) rfl)

theorem c77 (Γ : Nat → PV) (s : List UInt8) (x y : Int) : Gives Tryd.prog Γ 77 [.str s, .int .i64 x, .int .i64 y] (doP s x y) := by
  refine fn_of_awp Tryd.func77 rfl (by simp [Tryd.f77]) rfl fun H => ?_
  refine awp_seq (awp_run rfl (by simp only [fw0, fw1, fw2, fw3, fw4, fw5, fw6, fw7, ↓reduceIte, Nat.reduceAdd, Nat.reduceMul, Nat.reduceEqDiff, Nat.reduceLT, Nat.reduceLeDiff, reduceCtorEq, Bool.false_eq_true, Bool.not_true, Bool.not_false, and_self, Nat.le_refl] <;> rfl) ?_)
  refine awp_seq (awp_seq (awp_run rfl (by simp only [fw0, fw1, fw2, fw3, fw4, fw5, fw6, fw7, ↓reduceIte, Nat.reduceAdd, Nat.reduceMul, Nat.reduceEqDiff, Nat.reduceLT, Nat.reduceLeDiff, reduceCtorEq, Bool.false_eq_true, Bool.not_true, Bool.not_false, and_self, Nat.le_refl] <;> rfl) ?_))
  refine awp_block ?_
  refine awp_seq (awp_run rfl (by simp only [fw0, fw1, fw2, fw3, fw4, fw5, fw6, fw7, ↓reduceIte, Nat.reduceAdd, Nat.reduceMul, Nat.reduceEqDiff, Nat.reduceLT, Nat.reduceLeDiff, reduceCtorEq, Bool.false_eq_true, Bool.not_true, Bool.not_false, and_self, Nat.le_refl] <;> rfl) ?_)
  refine awp_cond (by simp only [fw0, fw1, fw2, fw3, fw4, fw5, fw6, fw7, ↓reduceIte, Nat.reduceAdd, Nat.reduceMul, Nat.reduceEqDiff, Nat.reduceLT, Nat.reduceLeDiff, reduceCtorEq, Bool.false_eq_true, Bool.not_true, Bool.not_false, and_self, Nat.le_refl] <;> rfl) ?_
  by_cases h0 : s = [43]
  · simp only [h0, decide_true, ↓reduceIte]
    refine awp_seq (awp_run rfl (by simp only [fw0, fw1, fw2, fw3, fw4, fw5, fw6, fw7, ↓reduceIte, Nat.reduceAdd, Nat.reduceMul, Nat.reduceEqDiff, Nat.reduceLT, Nat.reduceLeDiff, reduceCtorEq, Bool.false_eq_true, Bool.not_true, Bool.not_false, and_self, Nat.le_refl] <;> rfl) (awp_ret ?_))
    exact gives_end0 (.inl rfl) (by simp [doP, doV, ares, aresL, ares1, alook, Tryd.f77, h0])
  simp only [h0, decide_false, Bool.false_eq_true, ↓reduceIte]
  refine awp_seq (awp_run rfl (by simp only [fw0, fw1, fw2, fw3, fw4, fw5, fw6, fw7, ↓reduceIte, Nat.reduceAdd, Nat.reduceMul, Nat.reduceEqDiff, Nat.reduceLT, Nat.reduceLeDiff, reduceCtorEq, Bool.false_eq_true, Bool.not_true, Bool.not_false, and_self, Nat.le_refl] <;> rfl) ?_)
  refine awp_cond (by simp only [fw0, fw1, fw2, fw3, fw4, fw5, fw6, fw7, ↓reduceIte, Nat.reduceAdd, Nat.reduceMul, Nat.reduceEqDiff, Nat.reduceLT, Nat.reduceLeDiff, reduceCtorEq, Bool.false_eq_true, Bool.not_true, Bool.not_false, and_self, Nat.le_refl] <;> rfl) ?_
  by_cases h1 : s = [45]
  · simp only [h1, decide_true, ↓reduceIte]
    refine awp_seq (awp_run rfl (by simp only [fw0, fw1, fw2, fw3, fw4, fw5, fw6, fw7, ↓reduceIte, Nat.reduceAdd, Nat.reduceMul, Nat.reduceEqDiff, Nat.reduceLT, Nat.reduceLeDiff, reduceCtorEq, Bool.false_eq_true, Bool.not_true, Bool.not_false, and_self, Nat.le_refl] <;> rfl) (awp_ret ?_))
    exact gives_end0 (.inl rfl) (by simp [doP, doV, ares, aresL, ares1, alook, Tryd.f77, h1])
  simp only [h1, decide_false, Bool.false_eq_true, ↓reduceIte]
  refine awp_seq (awp_run rfl (by simp only [fw0, fw1, fw2, fw3, fw4, fw5, fw6, fw7, ↓reduceIte, Nat.reduceAdd, Nat.reduceMul, Nat.reduceEqDiff, Nat.reduceLT, Nat.reduceLeDiff, reduceCtorEq, Bool.false_eq_true, Bool.not_true, Bool.not_false, and_self, Nat.le_refl] <;> rfl) ?_)
  refine awp_cond (by simp only [fw0, fw1, fw2, fw3, fw4, fw5, fw6, fw7, ↓reduceIte, Nat.reduceAdd, Nat.reduceMul, Nat.reduceEqDiff, Nat.reduceLT, Nat.reduceLeDiff, reduceCtorEq, Bool.false_eq_true, Bool.not_true, Bool.not_false, and_self, Nat.le_refl] <;> rfl) ?_
  by_cases h2 : s = [42]
  · simp only [h2, decide_true, ↓reduceIte]
    refine awp_seq (awp_run rfl (by simp only [fw0, fw1, fw2, fw3, fw4, fw5, fw6, fw7, ↓reduceIte, Nat.reduceAdd, Nat.reduceMul, Nat.reduceEqDiff, Nat.reduceLT, Nat.reduceLeDiff, reduceCtorEq, Bool.false_eq_true, Bool.not_true, Bool.not_false, and_self, Nat.le_refl] <;> rfl) (awp_ret ?_))
    exact gives_end0 (.inl rfl) (by simp [doP, doV, ares, aresL, ares1, alook, Tryd.f77, h2])
  simp only [h2, decide_false, Bool.false_eq_true, ↓reduceIte]
  refine awp_seq (awp_run rfl (by simp only [fw0, fw1, fw2, fw3, fw4, fw5, fw6, fw7, ↓reduceIte, Nat.reduceAdd, Nat.reduceMul, Nat.reduceEqDiff, Nat.reduceLT, Nat.reduceLeDiff, reduceCtorEq, Bool.false_eq_true, Bool.not_true, Bool.not_false, and_self, Nat.le_refl] <;> rfl) ?_)
  refine awp_cond (by simp only [fw0, fw1, fw2, fw3, fw4, fw5, fw6, fw7, ↓reduceIte, Nat.reduceAdd, Nat.reduceMul, Nat.reduceEqDiff, Nat.reduceLT, Nat.reduceLeDiff, reduceCtorEq, Bool.false_eq_true, Bool.not_true, Bool.not_false, and_self, Nat.le_refl] <;> rfl) ?_
  by_cases h3 : s = [60]
  · simp only [h3, decide_true, ↓reduceIte]
    refine awp_seq (awp_region rfl (aops_run 3 (by simp only [fw0, fw1, fw2, fw3, fw4, fw5, fw6, fw7, ↓reduceIte, Nat.reduceAdd, Nat.reduceMul, Nat.reduceEqDiff, Nat.reduceLT, Nat.reduceLeDiff, reduceCtorEq, Bool.false_eq_true, Bool.not_true, Bool.not_false, and_self, Nat.le_refl] <;> rfl) ?_))
    refine aops_fn rfl rfl rfl en82 (c82 Γ _) ?_
    refine aops_run 2 (by simp only [fw0, fw1, fw2, fw3, fw4, fw5, fw6, fw7, ↓reduceIte, Nat.reduceAdd, Nat.reduceMul, Nat.reduceEqDiff, Nat.reduceLT, Nat.reduceLeDiff, reduceCtorEq, Bool.false_eq_true, Bool.not_true, Bool.not_false, and_self, Nat.le_refl] <;> rfl) (awp_ret ?_)
    exact gives_end0 (.inl rfl) (by simp [doP, doV, ares, aresL, ares1, alook, Tryd.f77, h3])
  simp only [h3, decide_false, Bool.false_eq_true, ↓reduceIte]
  refine awp_seq (awp_run rfl (by simp only [fw0, fw1, fw2, fw3, fw4, fw5, fw6, fw7, ↓reduceIte, Nat.reduceAdd, Nat.reduceMul, Nat.reduceEqDiff, Nat.reduceLT, Nat.reduceLeDiff, reduceCtorEq, Bool.false_eq_true, Bool.not_true, Bool.not_false, and_self, Nat.le_refl] <;> rfl) ?_)
  refine awp_cond (by simp only [fw0, fw1, fw2, fw3, fw4, fw5, fw6, fw7, ↓reduceIte, Nat.reduceAdd, Nat.reduceMul, Nat.reduceEqDiff, Nat.reduceLT, Nat.reduceLeDiff, reduceCtorEq, Bool.false_eq_true, Bool.not_true, Bool.not_false, and_self, Nat.le_refl] <;> rfl) ?_
  by_cases h4 : s = [61]
  · simp only [h4, decide_true, ↓reduceIte]
    refine awp_seq (awp_region rfl (aops_run 3 (by simp only [fw0, fw1, fw2, fw3, fw4, fw5, fw6, fw7, ↓reduceIte, Nat.reduceAdd, Nat.reduceMul, Nat.reduceEqDiff, Nat.reduceLT, Nat.reduceLeDiff, reduceCtorEq, Bool.false_eq_true, Bool.not_true, Bool.not_false, and_self, Nat.le_refl] <;> rfl) ?_))
    refine aops_fn rfl rfl rfl en82 (c82 Γ _) ?_
    refine aops_run 2 (by simp only [fw0, fw1, fw2, fw3, fw4, fw5, fw6, fw7, ↓reduceIte, Nat.reduceAdd, Nat.reduceMul, Nat.reduceEqDiff, Nat.reduceLT, Nat.reduceLeDiff, reduceCtorEq, Bool.false_eq_true, Bool.not_true, Bool.not_false, and_self, Nat.le_refl] <;> rfl) (awp_ret ?_)
    exact gives_end0 (.inl rfl) (by simp [doP, doV, ares, aresL, ares1, alook, Tryd.f77, h4])
  simp only [h4, decide_false, Bool.false_eq_true, ↓reduceIte]
  refine awp_skip ?_
  refine awp_seq (awp_run rfl (by simp only [fw0, fw1, fw2, fw3, fw4, fw5, fw6, fw7, ↓reduceIte, Nat.reduceAdd, Nat.reduceMul, Nat.reduceEqDiff, Nat.reduceLT, Nat.reduceLeDiff, reduceCtorEq, Bool.false_eq_true, Bool.not_true, Bool.not_false, and_self, Nat.le_refl] <;> rfl) (awp_ret ?_))
  exact gives_end0 (.inl rfl) (by simp [doP, doV, ares, aresL, ares1, alook, Tryd.f77, h0, h1, h2, h3, h4])

end Go.Proofs.YtnjlfbefpoecpaaDoor

/- The contracts of what compares values, in the program. -/
namespace Go.Proofs.YtnjlfbefpoecpaaDoor
set_option linter.unusedVariables false
set_option linter.unusedSimpArgs false
set_option maxRecDepth 100000
open Go.RowKit Fw

/-- slices.EqualFunc, of names -/
theorem c38 (Γ : Nat → PV) (f : Nat) (he : Enters Tryd.prog f) (xs ys : List Bd) (h : ∀ x ∈ xs, ∀ y : Bd, Gives Tryd.prog Γ f [.agg x.enc, .agg y.enc] (.bool (decide (x = y)))) :
    Gives Tryd.prog Γ 38 [.vec (xs.map Bd.enc) false, .vec (ys.map Bd.enc) false, .func (.func f) [] []] (.bool (decide (xs = ys))) := by
  refine fn_of_awp Tryd.func38 rfl (by simp [Tryd.f38]) rfl fun H => awp_bd fun hbd => ?_
  refine awp_seq ?_
  -- region 0
  refine awp_run rfl (by simp only [fw0, fw1, fw2, fw3, fw4, fw5, fw6, fw7, ↓reduceIte, Nat.reduceAdd, Nat.reduceMul, Nat.reduceEqDiff, Nat.reduceLT, Nat.reduceLeDiff, reduceCtorEq, Bool.false_eq_true, Bool.not_true, Bool.not_false, and_self, Nat.le_refl] <;> rfl) ?_
  refine awp_vlen 0 rfl fun hlen => ?_
  rw [List.length_map] at hlen
  refine awp_seq ?_
  refine awp_seq ?_
  -- region 1
  refine awp_run rfl (by simp only [fw0, fw1, fw2, fw3, fw4, fw5, fw6, fw7, ↓reduceIte, Nat.reduceAdd, Nat.reduceMul, Nat.reduceEqDiff, Nat.reduceLT, Nat.reduceLeDiff, reduceCtorEq, Bool.false_eq_true, Bool.not_true, Bool.not_false, and_self, Nat.le_refl, un42, List.length_map] <;> rfl) ?_
  refine awp_cond (by simp only [fw0, fw1, fw2, fw3, fw4, fw5, fw6, fw7, ↓reduceIte, Nat.reduceAdd, Nat.reduceMul, Nat.reduceEqDiff, Nat.reduceLT, Nat.reduceLeDiff, reduceCtorEq, Bool.false_eq_true, Bool.not_true, Bool.not_false, and_self, Nat.le_refl] <;> rfl) ?_
  by_cases hl : (xs.length : Int) = ys.length
  rotate_left
  · simp only [hl, decide_false, Bool.not_false, ↓reduceIte]
    refine awp_seq (awp_run rfl (by simp only [fw0, fw1, fw2, fw3, fw4, fw5, fw6, fw7, ↓reduceIte, Nat.reduceAdd, Nat.reduceMul, Nat.reduceEqDiff, Nat.reduceLT, Nat.reduceLeDiff, reduceCtorEq, Bool.false_eq_true, Bool.not_true, Bool.not_false, and_self, Nat.le_refl] <;> rfl) (awp_ret ?_))
    exact gives_end0 (.inl rfl) (by rw [decide_eq_false (fun e => hl (by rw [e]))]; rfl)
  simp only [hl, decide_true, Bool.not_true, Bool.false_eq_true, ↓reduceIte]
  refine awp_skip ?_
  have hl' : xs.length = ys.length := by omega
  refine awp_seq ?_
  refine awp_seq ?_
  -- region 3
  refine awp_run rfl (by simp only [fw0, fw1, fw2, fw3, fw4, fw5, fw6, fw7, ↓reduceIte, Nat.reduceAdd, Nat.reduceMul, Nat.reduceEqDiff, Nat.reduceLT, Nat.reduceLeDiff, reduceCtorEq, Bool.false_eq_true, Bool.not_true, Bool.not_false, and_self, Nat.le_refl, un42, List.length_map] <;> rfl) ?_
  refine awp_block ?_
  refine awp_forG [1, 2, 15, 16, 17] (fun i : Nat => [.vec (ys.map Bd.enc) false, .func (.func f) [] [], .vec (xs.map Bd.enc) false, .int .i64 xs.length, .int .i64 (i : Int)]) (fun _ => H) (fun i => xs.length - i)
    (fun i => i ≤ xs.length ∧ xs.take i = ys.take i) 0 rfl rfl ⟨Nat.zero_le _, rfl⟩ (fun i _ => ⟨hbd, rfl⟩) (fun i _ b hb => by cases hb) fun i hi => ?_
  refine awp_seq ?_
  -- region 4
  refine awp_run rfl (by simp only [fw0, fw1, fw2, fw3, fw4, fw5, fw6, fw7, ↓reduceIte, Nat.reduceAdd, Nat.reduceMul, Nat.reduceEqDiff, Nat.reduceLT, Nat.reduceLeDiff, reduceCtorEq, Bool.false_eq_true, Bool.not_true, Bool.not_false, and_self, Nat.le_refl] <;> rfl) ?_
  refine awp_seq ?_
  refine awp_cond (by simp only [fw0, fw1, fw2, fw3, fw4, fw5, fw6, fw7, ↓reduceIte, Nat.reduceAdd, Nat.reduceMul, Nat.reduceEqDiff, Nat.reduceLT, Nat.reduceLeDiff, reduceCtorEq, Bool.false_eq_true, Bool.not_true, Bool.not_false, and_self, Nat.le_refl] <;> rfl) ?_
  by_cases hc : (i : Int) < xs.length
  rotate_left
  · simp only [hc, decide_false, Bool.false_eq_true, ↓reduceIte]
    refine awp_exit ?_
    have hi' : i = xs.length := by omega
    refine awp_seq (awp_run rfl (by simp only [fw0, fw1, fw2, fw3, fw4, fw5, fw6, fw7, ↓reduceIte, Nat.reduceAdd, Nat.reduceMul, Nat.reduceEqDiff, Nat.reduceLT, Nat.reduceLeDiff, reduceCtorEq, Bool.false_eq_true, Bool.not_true, Bool.not_false, and_self, Nat.le_refl] <;> rfl) (awp_ret ?_))
    have e : xs = ys := by
      have := hi.2
      rwa [hi', List.take_length, hl', List.take_length] at this
    exact gives_end0 (.inl rfl) (by rw [decide_eq_true e]; rfl)
  simp only [hc, decide_true, ↓reduceIte]
  refine awp_skip ?_
  have hix : i < xs.length := by omega
  have gx : xs[i]? = some xs[i] := List.getElem?_eq_getElem hix
  have gy : ys[i]? = some (ys[i]'(by omega)) := List.getElem?_eq_getElem (by omega)
  refine awp_seq ?_
  refine awp_block ?_
  refine awp_seq ?_
  -- region 5
  refine awp_run rfl (by simp only [fw0, fw1, fw2, fw3, fw4, fw5, fw6, fw7, ↓reduceIte, Nat.reduceAdd, Nat.reduceMul, Nat.reduceEqDiff, Nat.reduceLT, Nat.reduceLeDiff, reduceCtorEq, Bool.false_eq_true, Bool.not_true, Bool.not_false, and_self, Nat.le_refl, el42, ti99, Bd.fw, List.getElem?_map, gx, Option.map_some, Int.natCast_nonneg] <;> rfl) ?_
  refine awp_seq ?_
  -- region 6
  refine awp_run rfl (by simp only [fw0, fw1, fw2, fw3, fw4, fw5, fw6, fw7, ↓reduceIte, Nat.reduceAdd, Nat.reduceMul, Nat.reduceEqDiff, Nat.reduceLT, Nat.reduceLeDiff, reduceCtorEq, Bool.false_eq_true, Bool.not_true, Bool.not_false, and_self, Nat.le_refl, el42, ti99, Bd.fw, List.getElem?_map, gy, Option.map_some, Int.natCast_nonneg] <;> rfl) ?_
  refine awp_seq ?_
  -- region 7
  refine awp_region rfl ?_
  refine aops_run 3 (by simp only [fw0, fw1, fw2, fw3, fw4, fw5, fw6, fw7, ↓reduceIte, Nat.reduceAdd, Nat.reduceMul, Nat.reduceEqDiff, Nat.reduceLT, Nat.reduceLeDiff, reduceCtorEq, Bool.false_eq_true, Bool.not_true, Bool.not_false, and_self, Nat.le_refl, ti99, Bd.fw] <;> rfl) ?_
  refine aops_fn rfl rfl rfl he (h _ (List.getElem_mem hix) _) ?_
  refine aops_run 1 (by simp only [fw0, fw1, fw2, fw3, fw4, fw5, fw6, fw7, ↓reduceIte, Nat.reduceAdd, Nat.reduceMul, Nat.reduceEqDiff, Nat.reduceLT, Nat.reduceLeDiff, reduceCtorEq, Bool.false_eq_true, Bool.not_true, Bool.not_false, and_self, Nat.le_refl] <;> rfl) ?_
  refine awp_cond (by simp only [fw0, fw1, fw2, fw3, fw4, fw5, fw6, fw7, ↓reduceIte, Nat.reduceAdd, Nat.reduceMul, Nat.reduceEqDiff, Nat.reduceLT, Nat.reduceLeDiff, reduceCtorEq, Bool.false_eq_true, Bool.not_true, Bool.not_false, and_self, Nat.le_refl] <;> rfl) ?_
  by_cases hk : xs[i] = ys[i]'(by omega)
  rotate_left
  · simp only [hk, decide_false, Bool.not_false, ↓reduceIte]
    refine awp_seq (awp_run rfl (by simp only [fw0, fw1, fw2, fw3, fw4, fw5, fw6, fw7, ↓reduceIte, Nat.reduceAdd, Nat.reduceMul, Nat.reduceEqDiff, Nat.reduceLT, Nat.reduceLeDiff, reduceCtorEq, Bool.false_eq_true, Bool.not_true, Bool.not_false, and_self, Nat.le_refl] <;> rfl) (awp_ret ?_))
    exact gives_end (.inl rfl) _ (by rw [decide_eq_false (fun e => hk (by subst e; rfl))]; rfl)
  simp only [hk, decide_true, Bool.not_true, Bool.false_eq_true, ↓reduceIte]
  refine awp_skip ?_
  -- region 9
  refine awp_run rfl (by simp only [fw0, fw1, fw2, fw3, fw4, fw5, fw6, fw7, ↓reduceIte, Nat.reduceAdd, Nat.reduceMul, Nat.reduceEqDiff, Nat.reduceLT, Nat.reduceLeDiff, reduceCtorEq, Bool.false_eq_true, Bool.not_true, Bool.not_false, and_self, Nat.le_refl] <;> rfl) ?_
  exact ⟨i + 1, _, by omega, ⟨by omega, by rw [List.take_add_one, List.take_add_one, hi.2, gx, gy, hk]⟩, by rw [wrapS i (by omega)]; rfl, rfl, rfl, Nat.le_refl _⟩

/-- store.Same, of values that are not the first's size. -/
theorem c17 (Γ : Nat → PV) : ∀ a b : Val, Gives Tryd.prog Γ 17 [.agg a.enc, .agg b.enc] (.bool (decide (a = b))) := by
  suffices ∀ n, ∀ a, SizeOf.sizeOf a < n → ∀ b : Val, Gives Tryd.prog Γ 17 [.agg a.enc, .agg b.enc] (.bool (decide (a = b))) from fun a b => this _ a (Nat.lt_succ_self _) b
  intro n
  induction n with
  | zero => intro a ha; omega
  | succ n ih =>
  intro a ha b
  -- the like of bounds
  have c39 : ∀ x ∈ a.env, ∀ y : Bd, Gives Tryd.prog Γ 39 [.agg x.enc, .agg y.enc] (.bool (decide (x = y))) := by
    intro x hx y
    have ihx := ih x.v (by have := Val.env_lt hx; omega) y.v
    refine fn_of_awp Tryd.func39 rfl (by simp [Tryd.f39]) rfl fun H => ?_
    refine awp_seq ?_
    refine awp_run rfl (by simp only [fw0, fw1, fw2, fw3, fw4, fw5, fw6, fw7, ↓reduceIte, Nat.reduceAdd, Nat.reduceMul, Nat.reduceEqDiff, Nat.reduceLT, Nat.reduceLeDiff, reduceCtorEq, Bool.false_eq_true, Bool.not_true, Bool.not_false, and_self, Nat.le_refl] <;> rfl) ?_
    refine awp_seq ?_
    by_cases h1 : x.name = y.name
    rotate_left
    · refine awp_region rfl (aops_run 10 (by simp only [fw0, fw1, fw2, fw3, fw4, fw5, fw6, fw7, ↓reduceIte, Nat.reduceAdd, Nat.reduceMul, Nat.reduceEqDiff, Nat.reduceLT, Nat.reduceLeDiff, reduceCtorEq, Bool.false_eq_true, Bool.not_true, Bool.not_false, and_self, Nat.le_refl, fl99_0, ti9, fl99_1, ti44, Bd.fw, h1, decide_false] <;> rfl) (aops_run 3 (by simp only [fw0, fw1, fw2, fw3, fw4, fw5, fw6, fw7, ↓reduceIte, Nat.reduceAdd, Nat.reduceMul, Nat.reduceEqDiff, Nat.reduceLT, Nat.reduceLeDiff, reduceCtorEq, Bool.false_eq_true, Bool.not_true, Bool.not_false, and_self, Nat.le_refl] <;> rfl) (awp_ret ?_)))
      exact gives_end (.inl rfl) _ (by rw [decide_eq_false (fun e => h1 (by rw [e]))]; rfl)
    refine awp_region rfl (aops_run 10 (by simp only [fw0, fw1, fw2, fw3, fw4, fw5, fw6, fw7, ↓reduceIte, Nat.reduceAdd, Nat.reduceMul, Nat.reduceEqDiff, Nat.reduceLT, Nat.reduceLeDiff, reduceCtorEq, Bool.false_eq_true, Bool.not_true, Bool.not_false, and_self, Nat.le_refl, fl99_0, ti9, fl99_1, ti44, Bd.fw, Val.fw, h1, decide_true] <;> rfl) ?_)
    refine aops_fnIf rfl rfl rfl rfl rfl en17 ihx ?_
    refine aops_run 2 (by simp only [fw0, fw1, fw2, fw3, fw4, fw5, fw6, fw7, ↓reduceIte, Nat.reduceAdd, Nat.reduceMul, Nat.reduceEqDiff, Nat.reduceLT, Nat.reduceLeDiff, reduceCtorEq, Bool.false_eq_true, Bool.not_true, Bool.not_false, and_self, Nat.le_refl] <;> rfl) (awp_ret ?_)
    refine gives_end (.inl rfl) _ ?_
    by_cases h4 : x.v = y.v
    · rw [decide_eq_true (Bd.ext h1 h4)]; simp [ares, aresL, ares1, alook, Tryd.f39, h4]
    · have e1 : decide (x = y) = false := decide_eq_false (fun e => h4 (by rw [e]))
      rw [e1]; simp [ares, aresL, ares1, alook, Tryd.f39, h4]
  refine fn_of_awp Tryd.func17 rfl (by simp [Tryd.f17]) rfl fun H => ?_
  refine awp_seq ?_
  -- region 0
  refine awp_run rfl (by simp only [fw0, fw1, fw2, fw3, fw4, fw5, fw6, fw7, ↓reduceIte, Nat.reduceAdd, Nat.reduceMul, Nat.reduceEqDiff, Nat.reduceLT, Nat.reduceLeDiff, reduceCtorEq, Bool.false_eq_true, Bool.not_true, Bool.not_false, and_self, Nat.le_refl] <;> rfl) ?_
  refine awp_seq ?_
  -- region 1
  by_cases h1 : a.kind = b.kind
  rotate_left
  · refine awp_run rfl (by simp only [fw0, fw1, fw2, fw3, fw4, fw5, fw6, fw7, ↓reduceIte, Nat.reduceAdd, Nat.reduceMul, Nat.reduceEqDiff, Nat.reduceLT, Nat.reduceLeDiff, reduceCtorEq, Bool.false_eq_true, Bool.not_true, Bool.not_false, and_self, Nat.le_refl, fl44_0, ti3, fl44_1, ti9, fl44_2, ti2, Val.fw, h1, decide_false, decide_true] <;> rfl) ?_
    refine awp_seq (awp_region rfl (aops_run 16 (by simp only [fw0, fw1, fw2, fw3, fw4, fw5, fw6, fw7, ↓reduceIte, Nat.reduceAdd, Nat.reduceMul, Nat.reduceEqDiff, Nat.reduceLT, Nat.reduceLeDiff, reduceCtorEq, Bool.false_eq_true, Bool.not_true, Bool.not_false, and_self, Nat.le_refl, fl44_3, ti29, fl44_4, ti42] <;> rfl) (awp_ret ?_)))
    exact gives_end (.inl rfl) _ (by rw [decide_eq_false (fun e => h1 (by rw [e]))]; rfl)
  by_cases h2 : a.n = b.n
  rotate_left
  · refine awp_run rfl (by simp only [fw0, fw1, fw2, fw3, fw4, fw5, fw6, fw7, ↓reduceIte, Nat.reduceAdd, Nat.reduceMul, Nat.reduceEqDiff, Nat.reduceLT, Nat.reduceLeDiff, reduceCtorEq, Bool.false_eq_true, Bool.not_true, Bool.not_false, and_self, Nat.le_refl, fl44_0, ti3, fl44_1, ti9, fl44_2, ti2, Val.fw, h1, h2, decide_false, decide_true] <;> rfl) ?_
    refine awp_seq (awp_region rfl (aops_run 16 (by simp only [fw0, fw1, fw2, fw3, fw4, fw5, fw6, fw7, ↓reduceIte, Nat.reduceAdd, Nat.reduceMul, Nat.reduceEqDiff, Nat.reduceLT, Nat.reduceLeDiff, reduceCtorEq, Bool.false_eq_true, Bool.not_true, Bool.not_false, and_self, Nat.le_refl, fl44_3, ti29, fl44_4, ti42] <;> rfl) (awp_ret ?_)))
    exact gives_end (.inl rfl) _ (by rw [decide_eq_false (fun e => h2 (by rw [e]))]; rfl)
  by_cases h3 : a.name = b.name
  rotate_left
  · refine awp_run rfl (by simp only [fw0, fw1, fw2, fw3, fw4, fw5, fw6, fw7, ↓reduceIte, Nat.reduceAdd, Nat.reduceMul, Nat.reduceEqDiff, Nat.reduceLT, Nat.reduceLeDiff, reduceCtorEq, Bool.false_eq_true, Bool.not_true, Bool.not_false, and_self, Nat.le_refl, fl44_0, ti3, fl44_1, ti9, fl44_2, ti2, Val.fw, h1, h2, h3, decide_false, decide_true] <;> rfl) ?_
    refine awp_seq (awp_region rfl (aops_run 16 (by simp only [fw0, fw1, fw2, fw3, fw4, fw5, fw6, fw7, ↓reduceIte, Nat.reduceAdd, Nat.reduceMul, Nat.reduceEqDiff, Nat.reduceLT, Nat.reduceLeDiff, reduceCtorEq, Bool.false_eq_true, Bool.not_true, Bool.not_false, and_self, Nat.le_refl, fl44_3, ti29, fl44_4, ti42] <;> rfl) (awp_ret ?_)))
    exact gives_end (.inl rfl) _ (by rw [decide_eq_false (fun e => h3 (by rw [e]))]; rfl)
  refine awp_run rfl (by simp only [fw0, fw1, fw2, fw3, fw4, fw5, fw6, fw7, ↓reduceIte, Nat.reduceAdd, Nat.reduceMul, Nat.reduceEqDiff, Nat.reduceLT, Nat.reduceLeDiff, reduceCtorEq, Bool.false_eq_true, Bool.not_true, Bool.not_false, and_self, Nat.le_refl, fl44_0, ti3, fl44_1, ti9, fl44_2, ti2, Val.fw, h1, h2, h3, decide_true] <;> rfl) ?_
  refine awp_seq ?_
  -- region 2
  refine awp_region rfl ?_
  refine aops_run 6 (by simp only [fw0, fw1, fw2, fw3, fw4, fw5, fw6, fw7, ↓reduceIte, Nat.reduceAdd, Nat.reduceMul, Nat.reduceEqDiff, Nat.reduceLT, Nat.reduceLeDiff, reduceCtorEq, Bool.false_eq_true, Bool.not_true, Bool.not_false, and_self, Nat.le_refl, fl44_3, ti29, Val.fw, Tm.fw] <;> rfl) ?_
  refine aops_fnIf rfl rfl rfl rfl rfl en37 (c37 Γ a.t b.t) ?_
  by_cases h4 : a.t = b.t
  rotate_left
  · refine aops_run 9 (by simp only [fw0, fw1, fw2, fw3, fw4, fw5, fw6, fw7, ↓reduceIte, Nat.reduceAdd, Nat.reduceMul, Nat.reduceEqDiff, Nat.reduceLT, Nat.reduceLeDiff, reduceCtorEq, Bool.false_eq_true, Bool.not_true, Bool.not_false, and_self, Nat.le_refl, h4, decide_false] <;> rfl) (awp_ret ?_)
    exact gives_end (.inl rfl) _ (by rw [decide_eq_false (fun e => h4 (by rw [e]))]; rfl)
  refine aops_run 6 (by simp only [fw0, fw1, fw2, fw3, fw4, fw5, fw6, fw7, ↓reduceIte, Nat.reduceAdd, Nat.reduceMul, Nat.reduceEqDiff, Nat.reduceLT, Nat.reduceLeDiff, reduceCtorEq, Bool.false_eq_true, Bool.not_true, Bool.not_false, and_self, Nat.le_refl, fl44_4, ti42, Val.fw, h4, decide_true] <;> rfl) ?_
  refine aops_fnIf rfl rfl rfl rfl rfl en38 (c38 Γ 39 en39 a.env b.env c39) ?_
  refine aops_run 2 (by simp only [fw0, fw1, fw2, fw3, fw4, fw5, fw6, fw7, ↓reduceIte, Nat.reduceAdd, Nat.reduceMul, Nat.reduceEqDiff, Nat.reduceLT, Nat.reduceLeDiff, reduceCtorEq, Bool.false_eq_true, Bool.not_true, Bool.not_false, and_self, Nat.le_refl] <;> rfl) (awp_ret ?_)
  refine gives_end (.inl rfl) _ ?_
  by_cases h5 : a.env = b.env
  · rw [decide_eq_true (Val.ext h1 h2 h3 h4 h5)]; simp [ares, aresL, ares1, alook, Tryd.f17, h5]
  · have e1 : decide (a = b) = false := decide_eq_false (fun e => h5 (by rw [e]))
    rw [e1]; simp [ares, aresL, ares1, alook, Tryd.f17, h5]

end Go.Proofs.YtnjlfbefpoecpaaDoor

/- The contracts of what turns the program's terms, values, cells into the document's. -/
namespace Go.Proofs.YtnjlfbefpoecpaaDoor
set_option linter.unusedVariables false
set_option linter.unusedSimpArgs false
set_option maxRecDepth 100000
open Go.RowKit Fw

/-- chancellaw18.refTerm -/
theorem c24 (Γ : Nat → PV) : ∀ a : Tm, a.Ok → Gives Tryd.prog Γ 24 [.agg a.enc] (.agg a.enc) := by
  suffices ∀ n, ∀ a : Tm, SizeOf.sizeOf a < n → a.Ok → Gives Tryd.prog Γ 24 [.agg a.enc] (.agg a.enc) from fun a => this _ a (Nat.lt_succ_self _)
  intro n
  induction n with
  | zero => intro a ha; omega
  | succ n ih =>
  intro a ha hok
  obtain ⟨_, hk1, hk2, hk3⟩ := hok
  refine fn_of_awp Tryd.func24 rfl (by simp [Tryd.f24]) (by simp only [fw0, fw1, fw2, fw3, fw4, fw5, fw6, fw7, ↓reduceIte, Nat.reduceAdd, Nat.reduceMul, Nat.reduceEqDiff, Nat.reduceLT, Nat.reduceLeDiff, reduceCtorEq, Bool.false_eq_true, Bool.not_true, Bool.not_false, and_self, Nat.le_refl, Tm.fw]) fun H => ?_
  refine awp_seq ?_
  -- region 0
  refine awp_run rfl (by simp only [fw0, fw1, fw2, fw3, fw4, fw5, fw6, fw7, ↓reduceIte, Nat.reduceAdd, Nat.reduceMul, Nat.reduceEqDiff, Nat.reduceLT, Nat.reduceLeDiff, reduceCtorEq, Bool.false_eq_true, Bool.not_true, Bool.not_false, and_self, Nat.le_refl, ti67] <;> rfl) ?_
  refine awp_seq ?_
  -- region 1
  refine awp_run rfl (by simp only [fw0, fw1, fw2, fw3, fw4, fw5, fw6, fw7, ↓reduceIte, Nat.reduceAdd, Nat.reduceMul, Nat.reduceEqDiff, Nat.reduceLT, Nat.reduceLeDiff, reduceCtorEq, Bool.false_eq_true, Bool.not_true, Bool.not_false, and_self, Nat.le_refl, fl29_0, ti3, fl29_1, ti9, fl29_2, ti2, ti67, pl67, Tm.fw] <;> rfl) ?_
  refine awp_seq ?_
  refine awp_seq ?_
  -- region 2
  refine awp_run rfl (by simp only [fw0, fw1, fw2, fw3, fw4, fw5, fw6, fw7, ↓reduceIte, Nat.reduceAdd, Nat.reduceMul, Nat.reduceEqDiff, Nat.reduceLT, Nat.reduceLeDiff, reduceCtorEq, Bool.false_eq_true, Bool.not_true, Bool.not_false, and_self, Nat.le_refl] <;> rfl) ?_
  refine awp_told (told_adoptBox (H.length + 2) 3 4 (by decide) (by simp only [fw0, fw1, fw2, fw3, fw4, fw5, fw6, fw7, ↓reduceIte, Nat.reduceAdd, Nat.reduceMul, Nat.reduceEqDiff, Nat.reduceLT, Nat.reduceLeDiff, reduceCtorEq, Bool.false_eq_true, Bool.not_true, Bool.not_false, and_self, Nat.le_refl] <;> rfl) rfl) ?_
  refine awp_block ?_
  refine awp_for [1, 2, 3, 4] (fun i : Nat => [.ptr H.length 0, .ptr (H.length + 1) 0, .ptr (H.length + 2) 0, .int .i64 (i : Int)])
    (fun i => H ++ [.box a.enc, .box [.int .i64 0, .str [], .int .i64 0, .vec [] true], .box [.int .i64 a.kind, .str a.name, .int .i64 a.n, .row (H.length + 3) 0 i 4], .row 4 ((a.kids.take i).map Tm.enc).flatten])
    (fun i => a.kids.length - i) (fun i => i ≤ a.kids.length) 0 rfl (by simp only [fw0, fw1, fw2, fw3, fw4, fw5, fw6, fw7, ↓reduceIte, Nat.reduceAdd, Nat.reduceMul, Nat.reduceEqDiff, Nat.reduceLT, Nat.reduceLeDiff, reduceCtorEq, Bool.false_eq_true, Bool.not_true, Bool.not_false, and_self, Nat.le_refl] <;> rfl) (Nat.zero_le _) fun i hi => ?_
  have hti : (a.kids.take i).length = i := by simp; omega
  refine awp_seq ?_
  refine awp_seq ?_
  -- region 3
  refine awp_run rfl (by simp only [fw0, fw1, fw2, fw3, fw4, fw5, fw6, fw7, ↓reduceIte, Nat.reduceAdd, Nat.reduceMul, Nat.reduceEqDiff, Nat.reduceLT, Nat.reduceLeDiff, reduceCtorEq, Bool.false_eq_true, Bool.not_true, Bool.not_false, and_self, Nat.le_refl, fl29_3, ti27, un27, Tm.fw, List.length_map] <;> rfl) ?_
  refine awp_vlen 14 rfl fun hlen => ?_
  rw [List.length_map] at hlen
  refine awp_cond (by simp only [fw0, fw1, fw2, fw3, fw4, fw5, fw6, fw7, ↓reduceIte, Nat.reduceAdd, Nat.reduceMul, Nat.reduceEqDiff, Nat.reduceLT, Nat.reduceLeDiff, reduceCtorEq, Bool.false_eq_true, Bool.not_true, Bool.not_false, and_self, Nat.le_refl] <;> rfl) ?_
  by_cases hc : (i : Int) < a.kids.length
  rotate_left
  · simp only [hc, decide_false, Bool.false_eq_true, ↓reduceIte]
    refine awp_exit ?_
    have hi' : i = a.kids.length := by omega
    refine awp_told (told_freezeAt H _ 3 (C := ((a.kids.take i).map Tm.enc).flatten) rfl (flat_bd (fun t => by simp only [Tm.fw]) _)) ?_
    have hl : (((a.kids.take i).map Tm.enc).flatten).length = i * 4 := by rw [flat_len Tm.enc_len, hti]
    have hch : chunk 4 i (((a.kids.take i).map Tm.enc).flatten) = (a.kids.take i).map Tm.enc := by
      have := flat_chunk Tm.enc_len (a.kids.take i)
      rwa [hti] at this
    refine awp_seq (awp_run rfl (by simp only [fw0, fw1, fw2, fw3, fw4, fw5, fw6, fw7, ↓reduceIte, Nat.reduceAdd, Nat.reduceMul, Nat.reduceEqDiff, Nat.reduceLT, Nat.reduceLeDiff, reduceCtorEq, Bool.false_eq_true, Bool.not_true, Bool.not_false, and_self, Nat.le_refl, ti67, hl, hch] <;> rfl) (awp_ret ?_))
    refine gives_end (.inl rfl) _ ?_
    rw [Tm.enc_eq]
    simp only [fw0, fw1, fw2, fw3, fw4, fw5, fw6, fw7, ↓reduceIte, Nat.reduceAdd, Nat.reduceMul, Nat.reduceEqDiff, Nat.reduceLT, Nat.reduceLeDiff, reduceCtorEq, Bool.false_eq_true, Bool.not_true, Bool.not_false, and_self, Nat.le_refl, ares, aresL, ares1, Tryd.f24, ti67, hi', List.take_length]
  simp only [hc, decide_true, ↓reduceIte]
  refine awp_skip ?_
  have hia : i < a.kids.length := by omega
  have ga : a.kids[i]? = some a.kids[i] := List.getElem?_eq_getElem hia
  refine awp_seq ?_
  refine awp_block ?_
  -- region 5 drawn
  refine awp_drawn [0, 1, 0, 1, 0, 0, 1, 0, 0, 2, 0, 2] [0, 1, 0, 4, 0, 28, 60, 124, 252, 511, 1023, 2047] mixed rfl (by kernel_rfl) ?_
  refine dops_run 7 (by simp only [fw0, fw1, fw2, fw3, fw4, fw5, fw6, fw7, ↓reduceIte, Nat.reduceAdd, Nat.reduceMul, Nat.reduceEqDiff, Nat.reduceLT, Nat.reduceLeDiff, reduceCtorEq, Bool.false_eq_true, Bool.not_true, Bool.not_false, and_self, Nat.le_refl, fl67_3, ti65, fl29_3, ti27, el27, ti29, Tm.fw, List.getElem?_map, ga, Option.map_some, Int.natCast_nonneg] <;> rfl) ?_
  refine dops_fn rfl rfl rfl rfl en24 (ih _ (by have := Tm.kids_lt (List.getElem_mem hia); omega) (hk3 _ (List.getElem_mem hia))) ?_
  refine dops_run 1 (by simp only [fw0, fw1, fw2, fw3, fw4, fw5, fw6, fw7, ↓reduceIte, Nat.reduceAdd, Nat.reduceMul, Nat.reduceEqDiff, Nat.reduceLT, Nat.reduceLeDiff, reduceCtorEq, Bool.false_eq_true, Bool.not_true, Bool.not_false, and_self, Nat.le_refl, un65, ti67, Tm.fw] <;> rfl) ?_
  refine dops_appendR rfl rfl rfl un65 ti67 un65 (.inl ⟨_, rfl⟩) rfl (by simp only [fw0, fw1, fw2, fw3, fw4, fw5, fw6, fw7, ↓reduceIte, Nat.reduceAdd, Nat.reduceMul, Nat.reduceEqDiff, Nat.reduceLT, Nat.reduceLeDiff, reduceCtorEq, Bool.false_eq_true, Bool.not_true, Bool.not_false, and_self, Nat.le_refl] <;> rfl) (by rw [flat_len Tm.enc_len, hti]; exact (Nat.zero_add _).symm) rfl
    (fun es f h e he => by
      simp only [fw0, fw1, fw2, fw3, fw4, fw5, fw6, fw7, ↓reduceIte, Nat.reduceAdd, Nat.reduceMul, Nat.reduceEqDiff, Nat.reduceLT, Nat.reduceLeDiff, reduceCtorEq, Bool.false_eq_true, Bool.not_true, Bool.not_false, and_self, Nat.le_refl, PV.vec.injEq] at h
      obtain ⟨rfl, rfl⟩ := h
      simp only [List.mem_singleton] at he
      subst he; exact Tm.enc_len _) rfl (by unfold reachBytes at hk2; show (i + 1) * 56 ≤ _; omega) (by show i + 1 ≤ _; omega) ?_
  refine dops_run 2 (by simp only [fw0, fw1, fw2, fw3, fw4, fw5, fw6, fw7, ↓reduceIte, Nat.reduceAdd, Nat.reduceMul, Nat.reduceEqDiff, Nat.reduceLT, Nat.reduceLeDiff, reduceCtorEq, Bool.false_eq_true, Bool.not_true, Bool.not_false, and_self, Nat.le_refl, fl67_3, ti65] <;> rfl) ?_
  refine dops_end ?_
  -- region 4
  refine awp_run rfl (by simp only [fw0, fw1, fw2, fw3, fw4, fw5, fw6, fw7, ↓reduceIte, Nat.reduceAdd, Nat.reduceMul, Nat.reduceEqDiff, Nat.reduceLT, Nat.reduceLeDiff, reduceCtorEq, Bool.false_eq_true, Bool.not_true, Bool.not_false, and_self, Nat.le_refl] <;> rfl) ?_
  refine ⟨i + 1, by omega, by omega, by rw [wrapS i (by omega)]; rfl, ?_, rfl⟩
  simp only [flatten_enc Tm.enc _ _ _ ga, List.flatten_cons, List.flatten_nil, List.append_nil]

/-- chancellaw18.refEnv, where values are told. -/
theorem c25' (Γ : Nat → PV) (l : List Bd) (hl128 : l.length * 128 ≤ 140737488355328) (hv : ∀ b ∈ l, Gives Tryd.prog Γ 50 [.agg b.v.enc] (.agg b.v.enc)) : Gives Tryd.prog Γ 25 [.vec (l.map Bd.enc) false] (.vec (l.map Bd.enc) false) := by
  refine fn_of_awp Tryd.func25 rfl (by simp [Tryd.f25]) rfl fun H => ?_
  refine awp_seq ?_
  -- region 0
  refine awp_run rfl (by simp only [fw0, fw1, fw2, fw3, fw4, fw5, fw6, fw7, ↓reduceIte, Nat.reduceAdd, Nat.reduceMul, Nat.reduceEqDiff, Nat.reduceLT, Nat.reduceLeDiff, reduceCtorEq, Bool.false_eq_true, Bool.not_true, Bool.not_false, and_self, Nat.le_refl] <;> rfl) ?_
  refine awp_seq ?_
  -- region 1
  refine awp_run rfl (by simp only [fw0, fw1, fw2, fw3, fw4, fw5, fw6, fw7, ↓reduceIte, Nat.reduceAdd, Nat.reduceMul, Nat.reduceEqDiff, Nat.reduceLT, Nat.reduceLeDiff, reduceCtorEq, Bool.false_eq_true, Bool.not_true, Bool.not_false, and_self, Nat.le_refl] <;> rfl) ?_
  refine awp_seq ?_
  refine awp_seq ?_
  -- region 2
  refine awp_run rfl (by simp only [fw0, fw1, fw2, fw3, fw4, fw5, fw6, fw7, ↓reduceIte, Nat.reduceAdd, Nat.reduceMul, Nat.reduceEqDiff, Nat.reduceLT, Nat.reduceLeDiff, reduceCtorEq, Bool.false_eq_true, Bool.not_true, Bool.not_false, and_self, Nat.le_refl] <;> rfl) ?_
  refine awp_told (told_adopt 3 9 (by decide) rfl) ?_
  refine awp_block ?_
  refine awp_for [0, 3, 4] (fun i : Nat => [.vec (l.map Bd.enc) false, .row H.length 0 i 9, .int .i64 (i : Int)])
    (fun i => H ++ [.row 9 ((l.take i).map Bd.enc).flatten])
    (fun i => l.length - i) (fun i => i ≤ l.length) 0 rfl rfl (Nat.zero_le _) fun i hi => ?_
  have hti : (l.take i).length = i := by simp; omega
  refine awp_seq ?_
  refine awp_seq ?_
  -- region 3
  refine awp_run rfl (by simp only [fw0, fw1, fw2, fw3, fw4, fw5, fw6, fw7, ↓reduceIte, Nat.reduceAdd, Nat.reduceMul, Nat.reduceEqDiff, Nat.reduceLT, Nat.reduceLeDiff, reduceCtorEq, Bool.false_eq_true, Bool.not_true, Bool.not_false, and_self, Nat.le_refl, un42, List.length_map] <;> rfl) ?_
  refine awp_vlen 0 rfl fun hlen => ?_
  rw [List.length_map] at hlen
  refine awp_cond (by simp only [fw0, fw1, fw2, fw3, fw4, fw5, fw6, fw7, ↓reduceIte, Nat.reduceAdd, Nat.reduceMul, Nat.reduceEqDiff, Nat.reduceLT, Nat.reduceLeDiff, reduceCtorEq, Bool.false_eq_true, Bool.not_true, Bool.not_false, and_self, Nat.le_refl] <;> rfl) ?_
  by_cases hc : (i : Int) < l.length
  rotate_left
  · simp only [hc, decide_false, Bool.false_eq_true, ↓reduceIte]
    refine awp_exit ?_
    have hi' : i = l.length := by omega
    refine awp_told (told_freezeAt H _ 0 (C := ((l.take i).map Bd.enc).flatten) rfl (flat_bd (fun t => by simp only [Bd.fw]) _)) ?_
    have hl : (((l.take i).map Bd.enc).flatten).length = i * 9 := by rw [flat_len Bd.enc_len, hti]
    have hch : chunk 9 i (((l.take i).map Bd.enc).flatten) = (l.take i).map Bd.enc := by
      have := flat_chunk Bd.enc_len (l.take i)
      rwa [hti] at this
    refine awp_seq (awp_run rfl (by simp only [fw0, fw1, fw2, fw3, fw4, fw5, fw6, fw7, ↓reduceIte, Nat.reduceAdd, Nat.reduceMul, Nat.reduceEqDiff, Nat.reduceLT, Nat.reduceLeDiff, reduceCtorEq, Bool.false_eq_true, Bool.not_true, Bool.not_false, and_self, Nat.le_refl, hl, hch] <;> rfl) (awp_ret ?_))
    refine gives_end (.inl rfl) _ ?_
    simp only [fw0, fw1, fw2, fw3, fw4, fw5, fw6, fw7, ↓reduceIte, Nat.reduceAdd, Nat.reduceMul, Nat.reduceEqDiff, Nat.reduceLT, Nat.reduceLeDiff, reduceCtorEq, Bool.false_eq_true, Bool.not_true, Bool.not_false, and_self, Nat.le_refl, ares, aresL, ares1, Tryd.f25, hi', List.take_length]
  simp only [hc, decide_true, ↓reduceIte]
  refine awp_skip ?_
  have hia : i < l.length := by omega
  have ga : l[i]? = some l[i] := List.getElem?_eq_getElem hia
  refine awp_seq ?_
  refine awp_block ?_
  -- region 5 drawn
  refine awp_drawn [0, 0, 0, 0, 0, 1, 0, 0, 0, 0, 1, 0, 0, 0, 2, 0] [0, 0, 0, 6, 14, 30, 0, 0, 192, 448, 960, 1984, 4094, 8190, 16383, 32767] mixed rfl (by kernel_rfl) ?_
  refine dops_run 11 (by simp only [fw0, fw1, fw2, fw3, fw4, fw5, fw6, fw7, ↓reduceIte, Nat.reduceAdd, Nat.reduceMul, Nat.reduceEqDiff, Nat.reduceLT, Nat.reduceLeDiff, reduceCtorEq, Bool.false_eq_true, Bool.not_true, Bool.not_false, and_self, Nat.le_refl, el42, fl99_0, ti9, fl99_1, ti44, Bd.fw, Val.fw, List.getElem?_map, ga, Option.map_some, Int.natCast_nonneg] <;> rfl) ?_
  refine dops_fn rfl rfl rfl rfl en50 (hv _ (List.getElem_mem hia)) ?_
  refine dops_run 2 (by simp only [fw0, fw1, fw2, fw3, fw4, fw5, fw6, fw7, ↓reduceIte, Nat.reduceAdd, Nat.reduceMul, Nat.reduceEqDiff, Nat.reduceLT, Nat.reduceLeDiff, reduceCtorEq, Bool.false_eq_true, Bool.not_true, Bool.not_false, and_self, Nat.le_refl, ti120, pl120, un68, Val.fw] <;> rfl) ?_
  refine dops_appendR rfl rfl rfl un68 ti120 un68 (.inl ⟨_, rfl⟩) rfl (by simp only [fw0, fw1, fw2, fw3, fw4, fw5, fw6, fw7, ↓reduceIte, Nat.reduceAdd, Nat.reduceMul, Nat.reduceEqDiff, Nat.reduceLT, Nat.reduceLeDiff, reduceCtorEq, Bool.false_eq_true, Bool.not_true, Bool.not_false, and_self, Nat.le_refl] <;> rfl) (by rw [flat_len Bd.enc_len, hti]; exact (Nat.zero_add _).symm) rfl
    (fun es f h e he => by
      simp only [fw0, fw1, fw2, fw3, fw4, fw5, fw6, fw7, ↓reduceIte, Nat.reduceAdd, Nat.reduceMul, Nat.reduceEqDiff, Nat.reduceLT, Nat.reduceLeDiff, reduceCtorEq, Bool.false_eq_true, Bool.not_true, Bool.not_false, and_self, Nat.le_refl, PV.vec.injEq] at h
      obtain ⟨rfl, rfl⟩ := h
      simp only [List.mem_singleton] at he
      subst he; rw [← Bd.enc_eq]; exact Bd.enc_len _) rfl (by show (i + 1) * 128 ≤ _; omega) (by show i + 1 ≤ _; omega) ?_
  refine dops_run 1 (by simp only [fw0, fw1, fw2, fw3, fw4, fw5, fw6, fw7, ↓reduceIte, Nat.reduceAdd, Nat.reduceMul, Nat.reduceEqDiff, Nat.reduceLT, Nat.reduceLeDiff, reduceCtorEq, Bool.false_eq_true, Bool.not_true, Bool.not_false, and_self, Nat.le_refl] <;> rfl) ?_
  refine dops_end ?_
  -- region 4
  refine awp_run rfl (by simp only [fw0, fw1, fw2, fw3, fw4, fw5, fw6, fw7, ↓reduceIte, Nat.reduceAdd, Nat.reduceMul, Nat.reduceEqDiff, Nat.reduceLT, Nat.reduceLeDiff, reduceCtorEq, Bool.false_eq_true, Bool.not_true, Bool.not_false, and_self, Nat.le_refl] <;> rfl) ?_
  refine ⟨i + 1, by omega, by omega, by rw [wrapS i (by omega)]; rfl, ?_, rfl⟩
  rw [flatten_enc Bd.enc _ _ _ ga, Bd.enc_eq l[i]]
  simp only [fw0, fw1, fw2, fw3, fw4, fw5, fw6, fw7, ↓reduceIte, Nat.reduceAdd, Nat.reduceMul, Nat.reduceEqDiff, Nat.reduceLT, Nat.reduceLeDiff, reduceCtorEq, Bool.false_eq_true, Bool.not_true, Bool.not_false, and_self, Nat.le_refl, List.flatten_cons, List.flatten_nil, List.append_nil]

/-- chancellaw18.refValue -/
theorem c50 (Γ : Nat → PV) : ∀ a : Val, a.Ok → Gives Tryd.prog Γ 50 [.agg a.enc] (.agg a.enc) := by
  suffices ∀ n, ∀ a : Val, SizeOf.sizeOf a < n → a.Ok → Gives Tryd.prog Γ 50 [.agg a.enc] (.agg a.enc) from fun a => this _ a (Nat.lt_succ_self _)
  intro n
  induction n with
  | zero => intro a ha; omega
  | succ n ih =>
  intro a ha hok
  obtain ⟨_, hk1, hk2, hk3, hk4⟩ := hok
  have henv := c25' Γ a.env (by unfold reachBytes at hk3; omega) (fun b hb => ih b.v (by have := Val.env_lt hb; omega) (by cases hk4 b hb; assumption))
  refine fn_of_awp Tryd.func50 rfl (by simp [Tryd.f50]) (by simp only [fw0, fw1, fw2, fw3, fw4, fw5, fw6, fw7, ↓reduceIte, Nat.reduceAdd, Nat.reduceMul, Nat.reduceEqDiff, Nat.reduceLT, Nat.reduceLeDiff, reduceCtorEq, Bool.false_eq_true, Bool.not_true, Bool.not_false, and_self, Nat.le_refl, Val.fw]) fun H => ?_
  refine awp_seq ?_
  -- region 0
  refine awp_run rfl (by simp only [fw0, fw1, fw2, fw3, fw4, fw5, fw6, fw7, ↓reduceIte, Nat.reduceAdd, Nat.reduceMul, Nat.reduceEqDiff, Nat.reduceLT, Nat.reduceLeDiff, reduceCtorEq, Bool.false_eq_true, Bool.not_true, Bool.not_false, and_self, Nat.le_refl, ti70] <;> rfl) ?_
  refine awp_seq ?_
  -- region 1 drawn
  refine awp_drawn [0, 1, 0, 1, 0, 1, 0, 1, 0, 0, 1, 0, 0, 2] [0, 1, 0, 4, 0, 16, 0, 64, 192, 0, 512, 1984, 4095, 8191] mixed rfl (by kernel_rfl) ?_
  refine dops_run 8 (by simp only [fw0, fw1, fw2, fw3, fw4, fw5, fw6, fw7, ↓reduceIte, Nat.reduceAdd, Nat.reduceMul, Nat.reduceEqDiff, Nat.reduceLT, Nat.reduceLeDiff, reduceCtorEq, Bool.false_eq_true, Bool.not_true, Bool.not_false, and_self, Nat.le_refl, fl44_0, ti3, fl44_1, ti2, fl44_2, ti9, fl44_3, ti29, Val.fw, Tm.fw] <;> rfl) ?_
  refine dops_fn rfl rfl rfl rfl en24 (c24 Γ a.t hk2) ?_
  refine dops_run 2 (by simp only [fw0, fw1, fw2, fw3, fw4, fw5, fw6, fw7, ↓reduceIte, Nat.reduceAdd, Nat.reduceMul, Nat.reduceEqDiff, Nat.reduceLT, Nat.reduceLeDiff, reduceCtorEq, Bool.false_eq_true, Bool.not_true, Bool.not_false, and_self, Nat.le_refl, fl44_4, ti42, Val.fw] <;> rfl) ?_
  refine dops_fn rfl rfl rfl rfl en25 henv ?_
  refine dops_run 2 (by simp only [fw0, fw1, fw2, fw3, fw4, fw5, fw6, fw7, ↓reduceIte, Nat.reduceAdd, Nat.reduceMul, Nat.reduceEqDiff, Nat.reduceLT, Nat.reduceLeDiff, reduceCtorEq, Bool.false_eq_true, Bool.not_true, Bool.not_false, and_self, Nat.le_refl, ti70, pl70, Tm.fw] <;> rfl) ?_
  refine dops_end ?_
  refine awp_ret ?_
  refine gives_end (.inl rfl) _ ?_
  rw [Val.enc_eq]
  simp only [fw0, fw1, fw2, fw3, fw4, fw5, fw6, fw7, ↓reduceIte, Nat.reduceAdd, Nat.reduceMul, Nat.reduceEqDiff, Nat.reduceLT, Nat.reduceLeDiff, reduceCtorEq, Bool.false_eq_true, Bool.not_true, Bool.not_false, and_self, Nat.le_refl, ares, aresL, ares1, Tryd.f50, ti70, Tm.fw]

theorem c25 (Γ : Nat → PV) (l : List Bd) (hl : l.length * 128 ≤ 140737488355328) (h : ∀ b ∈ l, b.Ok) : Gives Tryd.prog Γ 25 [.vec (l.map Bd.enc) false] (.vec (l.map Bd.enc) false) :=
  c25' Γ l hl fun b hb => c50 Γ b.v (by cases h b hb; assumption)

theorem Sl.enc_len (b : Sl) : b.enc.length = 2 := rfl

/-- chancellaw18.refSlots -/
theorem c26 (Γ : Nat → PV) (l : List Sl) (hl24 : l.length * 24 ≤ reachBytes) : Gives Tryd.prog Γ 26 [.vec (l.map Sl.enc) false] (.vec (l.map Sl.enc) false) := by
  refine fn_of_awp Tryd.func26 rfl (by simp [Tryd.f26]) rfl fun H => ?_
  refine awp_seq ?_
  -- region 0
  refine awp_run rfl (by simp only [fw0, fw1, fw2, fw3, fw4, fw5, fw6, fw7, ↓reduceIte, Nat.reduceAdd, Nat.reduceMul, Nat.reduceEqDiff, Nat.reduceLT, Nat.reduceLeDiff, reduceCtorEq, Bool.false_eq_true, Bool.not_true, Bool.not_false, and_self, Nat.le_refl] <;> rfl) ?_
  refine awp_seq ?_
  -- region 1
  refine awp_run rfl (by simp only [fw0, fw1, fw2, fw3, fw4, fw5, fw6, fw7, ↓reduceIte, Nat.reduceAdd, Nat.reduceMul, Nat.reduceEqDiff, Nat.reduceLT, Nat.reduceLeDiff, reduceCtorEq, Bool.false_eq_true, Bool.not_true, Bool.not_false, and_self, Nat.le_refl] <;> rfl) ?_
  refine awp_seq ?_
  refine awp_seq ?_
  -- region 2
  refine awp_run rfl (by simp only [fw0, fw1, fw2, fw3, fw4, fw5, fw6, fw7, ↓reduceIte, Nat.reduceAdd, Nat.reduceMul, Nat.reduceEqDiff, Nat.reduceLT, Nat.reduceLeDiff, reduceCtorEq, Bool.false_eq_true, Bool.not_true, Bool.not_false, and_self, Nat.le_refl] <;> rfl) ?_
  refine awp_told (told_adopt 3 2 (by decide) rfl) ?_
  refine awp_block ?_
  refine awp_for [0, 3, 4] (fun i : Nat => [.vec (l.map Sl.enc) false, .row H.length 0 i 2, .int .i64 (i : Int)])
    (fun i => H ++ [.row 2 ((l.take i).map Sl.enc).flatten])
    (fun i => l.length - i) (fun i => i ≤ l.length) 0 rfl rfl (Nat.zero_le _) fun i hi => ?_
  have hti : (l.take i).length = i := by simp; omega
  refine awp_seq ?_
  refine awp_seq ?_
  -- region 3
  refine awp_run rfl (by simp only [fw0, fw1, fw2, fw3, fw4, fw5, fw6, fw7, ↓reduceIte, Nat.reduceAdd, Nat.reduceMul, Nat.reduceEqDiff, Nat.reduceLT, Nat.reduceLeDiff, reduceCtorEq, Bool.false_eq_true, Bool.not_true, Bool.not_false, and_self, Nat.le_refl, un45, List.length_map] <;> rfl) ?_
  refine awp_vlen 0 rfl fun hlen => ?_
  rw [List.length_map] at hlen
  refine awp_cond (by simp only [fw0, fw1, fw2, fw3, fw4, fw5, fw6, fw7, ↓reduceIte, Nat.reduceAdd, Nat.reduceMul, Nat.reduceEqDiff, Nat.reduceLT, Nat.reduceLeDiff, reduceCtorEq, Bool.false_eq_true, Bool.not_true, Bool.not_false, and_self, Nat.le_refl] <;> rfl) ?_
  by_cases hc : (i : Int) < l.length
  rotate_left
  · simp only [hc, decide_false, Bool.false_eq_true, ↓reduceIte]
    refine awp_exit ?_
    have hi' : i = l.length := by omega
    refine awp_told (told_freezeAt H _ 0 (C := ((l.take i).map Sl.enc).flatten) rfl (flat_bd (fun t => by simp only [Sl.fw]) _)) ?_
    have hl : (((l.take i).map Sl.enc).flatten).length = i * 2 := by rw [flat_len Sl.enc_len, hti]
    have hch : chunk 2 i (((l.take i).map Sl.enc).flatten) = (l.take i).map Sl.enc := by
      have := flat_chunk Sl.enc_len (l.take i)
      rwa [hti] at this
    refine awp_seq (awp_run rfl (by simp only [fw0, fw1, fw2, fw3, fw4, fw5, fw6, fw7, ↓reduceIte, Nat.reduceAdd, Nat.reduceMul, Nat.reduceEqDiff, Nat.reduceLT, Nat.reduceLeDiff, reduceCtorEq, Bool.false_eq_true, Bool.not_true, Bool.not_false, and_self, Nat.le_refl, hl, hch] <;> rfl) (awp_ret ?_))
    refine gives_end (.inl rfl) _ ?_
    simp only [fw0, fw1, fw2, fw3, fw4, fw5, fw6, fw7, ↓reduceIte, Nat.reduceAdd, Nat.reduceMul, Nat.reduceEqDiff, Nat.reduceLT, Nat.reduceLeDiff, reduceCtorEq, Bool.false_eq_true, Bool.not_true, Bool.not_false, and_self, Nat.le_refl, ares, aresL, ares1, Tryd.f26, hi', List.take_length]
  simp only [hc, decide_true, ↓reduceIte]
  refine awp_skip ?_
  have hia : i < l.length := by omega
  have ga : l[i]? = some l[i] := List.getElem?_eq_getElem hia
  refine awp_seq ?_
  refine awp_block ?_
  -- region 5 drawn
  refine awp_drawn [0, 0, 0, 0, 0, 1, 0, 0, 0, 0, 1, 0, 0, 2, 0] [0, 0, 0, 6, 14, 30, 0, 0, 192, 448, 960, 2046, 4094, 8191, 16383] mixed rfl (by kernel_rfl) ?_
  refine dops_run 13 (by simp only [fw0, fw1, fw2, fw3, fw4, fw5, fw6, fw7, ↓reduceIte, Nat.reduceAdd, Nat.reduceMul, Nat.reduceEqDiff, Nat.reduceLT, Nat.reduceLeDiff, reduceCtorEq, Bool.false_eq_true, Bool.not_true, Bool.not_false, and_self, Nat.le_refl, el45, fl53_0, ti9, fl53_1, ti2, ti121, pl121, un71, Sl.fw, List.getElem?_map, ga, Option.map_some, Int.natCast_nonneg] <;> rfl) ?_
  refine dops_appendR rfl rfl rfl un71 ti121 un71 (.inl ⟨_, rfl⟩) rfl (by simp only [fw0, fw1, fw2, fw3, fw4, fw5, fw6, fw7, ↓reduceIte, Nat.reduceAdd, Nat.reduceMul, Nat.reduceEqDiff, Nat.reduceLT, Nat.reduceLeDiff, reduceCtorEq, Bool.false_eq_true, Bool.not_true, Bool.not_false, and_self, Nat.le_refl] <;> rfl) (by rw [flat_len Sl.enc_len, hti]; exact (Nat.zero_add _).symm) rfl
    (fun es f h e he => by
      simp only [fw0, fw1, fw2, fw3, fw4, fw5, fw6, fw7, ↓reduceIte, Nat.reduceAdd, Nat.reduceMul, Nat.reduceEqDiff, Nat.reduceLT, Nat.reduceLeDiff, reduceCtorEq, Bool.false_eq_true, Bool.not_true, Bool.not_false, and_self, Nat.le_refl, PV.vec.injEq] at h
      obtain ⟨rfl, rfl⟩ := h
      simp only [List.mem_singleton] at he
      subst he; rfl) rfl (by unfold reachBytes at hl24; show (i + 1) * 24 ≤ _; omega) (by show i + 1 ≤ _; omega) ?_
  refine dops_run 1 (by simp only [fw0, fw1, fw2, fw3, fw4, fw5, fw6, fw7, ↓reduceIte, Nat.reduceAdd, Nat.reduceMul, Nat.reduceEqDiff, Nat.reduceLT, Nat.reduceLeDiff, reduceCtorEq, Bool.false_eq_true, Bool.not_true, Bool.not_false, and_self, Nat.le_refl] <;> rfl) ?_
  refine dops_end ?_
  -- region 4
  refine awp_run rfl (by simp only [fw0, fw1, fw2, fw3, fw4, fw5, fw6, fw7, ↓reduceIte, Nat.reduceAdd, Nat.reduceMul, Nat.reduceEqDiff, Nat.reduceLT, Nat.reduceLeDiff, reduceCtorEq, Bool.false_eq_true, Bool.not_true, Bool.not_false, and_self, Nat.le_refl] <;> rfl) ?_
  refine ⟨i + 1, by omega, by omega, by rw [wrapS i (by omega)]; rfl, ?_, rfl⟩
  rw [flatten_enc Sl.enc _ _ _ ga, show Sl.enc l[i] = [.str l[i].name, .int .i64 l[i].n] from rfl]
  simp only [fw0, fw1, fw2, fw3, fw4, fw5, fw6, fw7, ↓reduceIte, Nat.reduceAdd, Nat.reduceMul, Nat.reduceEqDiff, Nat.reduceLT, Nat.reduceLeDiff, reduceCtorEq, Bool.false_eq_true, Bool.not_true, Bool.not_false, and_self, Nat.le_refl, List.flatten_cons, List.flatten_nil, List.append_nil]

end Go.Proofs.YtnjlfbefpoecpaaDoor

/- The contracts of the document's functions on cells. -/
namespace Go.Proofs.YtnjlfbefpoecpaaDoor
set_option linter.unusedVariables false
set_option linter.unusedSimpArgs false
set_option maxRecDepth 100000
open Go.RowKit Fw

/-- Where a cell of a name is. -/
def fnd (l : List Sl) (nm : List UInt8) : Option Nat := l.findIdx? fun s => decide (s.name = nm)
def fndI (l : List Sl) (nm : List UInt8) : Int := match fnd l nm with | some i => (i : Int) | none => -1

theorem fnd_drop {l : List Sl} {nm : List UInt8} {i : Nat} {s : Sl} (h : l[i]? = some s) : fnd (l.drop i) nm = if s.name = nm then some 0 else (fnd (l.drop (i + 1)) nm).map (· + 1) := by
  have : l.drop i = s :: l.drop (i + 1) := by
    obtain ⟨hi, rfl⟩ := List.getElem?_eq_some_iff.1 h
    exact List.drop_eq_getElem_cons hi
  rw [this]
  unfold fnd
  rw [List.findIdx?_cons]
  by_cases e : s.name = nm <;> simp [e]

/-- chancelref18.find -/
theorem c75 (Γ : Nat → PV) (l : List Sl) (nm : List UInt8) : Gives Tryd.prog Γ 75 [.vec (l.map Sl.enc) false, .str nm] (.int .i64 (fndI l nm)) := by
  refine fn_of_awp Tryd.func75 rfl (by simp [Tryd.f75]) rfl fun H => ?_
  refine awp_seq ?_
  refine awp_run rfl (by simp only [fw0, fw1, fw2, fw3, fw4, fw5, fw6, fw7, ↓reduceIte, Nat.reduceAdd, Nat.reduceMul, Nat.reduceEqDiff, Nat.reduceLT, Nat.reduceLeDiff, reduceCtorEq, Bool.false_eq_true, Bool.not_true, Bool.not_false, and_self, Nat.le_refl] <;> rfl) ?_
  refine awp_seq ?_
  refine awp_seq ?_
  refine awp_run rfl (by simp only [fw0, fw1, fw2, fw3, fw4, fw5, fw6, fw7, ↓reduceIte, Nat.reduceAdd, Nat.reduceMul, Nat.reduceEqDiff, Nat.reduceLT, Nat.reduceLeDiff, reduceCtorEq, Bool.false_eq_true, Bool.not_true, Bool.not_false, and_self, Nat.le_refl] <;> rfl) ?_
  refine awp_block ?_
  refine awp_for [0, 1, 5] (fun i : Nat => [.vec (l.map Sl.enc) false, .str nm, .int .i64 (i : Int)]) (fun _ => H) (fun i => l.length - i)
    (fun i => i ≤ l.length ∧ fnd l nm = (fnd (l.drop i) nm).map (· + i)) 0 rfl rfl ⟨Nat.zero_le _, by simp⟩ fun i hi => ?_
  refine awp_vlen 0 rfl fun hlen => ?_
  rw [List.length_map] at hlen
  refine awp_seq ?_
  refine awp_seq ?_
  refine awp_run rfl (by simp only [fw0, fw1, fw2, fw3, fw4, fw5, fw6, fw7, ↓reduceIte, Nat.reduceAdd, Nat.reduceMul, Nat.reduceEqDiff, Nat.reduceLT, Nat.reduceLeDiff, reduceCtorEq, Bool.false_eq_true, Bool.not_true, Bool.not_false, and_self, Nat.le_refl, un71, List.length_map] <;> rfl) ?_
  refine awp_cond (by simp only [fw0, fw1, fw2, fw3, fw4, fw5, fw6, fw7, ↓reduceIte, Nat.reduceAdd, Nat.reduceMul, Nat.reduceEqDiff, Nat.reduceLT, Nat.reduceLeDiff, reduceCtorEq, Bool.false_eq_true, Bool.not_true, Bool.not_false, and_self, Nat.le_refl] <;> rfl) ?_
  by_cases hc : (i : Int) < l.length
  rotate_left
  · simp only [hc, decide_false, Bool.false_eq_true, ↓reduceIte]
    refine awp_exit ?_
    refine awp_seq (awp_run rfl (by simp only [fw0, fw1, fw2, fw3, fw4, fw5, fw6, fw7, ↓reduceIte, Nat.reduceAdd, Nat.reduceMul, Nat.reduceEqDiff, Nat.reduceLT, Nat.reduceLeDiff, reduceCtorEq, Bool.false_eq_true, Bool.not_true, Bool.not_false, and_self, Nat.le_refl] <;> rfl) (awp_ret ?_))
    have e : fndI l nm = -1 := by
      unfold fndI
      rw [hi.2, List.drop_of_length_le (by omega)]; rfl
    exact gives_end0 (.inl rfl) (by rw [e]; rfl)
  simp only [hc, decide_true, ↓reduceIte]
  refine awp_skip ?_
  have hia : i < l.length := by omega
  have ga : l[i]? = some l[i] := List.getElem?_eq_getElem hia
  refine awp_seq ?_
  refine awp_block ?_
  refine awp_seq ?_
  refine awp_run rfl (by simp only [fw0, fw1, fw2, fw3, fw4, fw5, fw6, fw7, ↓reduceIte, Nat.reduceAdd, Nat.reduceMul, Nat.reduceEqDiff, Nat.reduceLT, Nat.reduceLeDiff, reduceCtorEq, Bool.false_eq_true, Bool.not_true, Bool.not_false, and_self, Nat.le_refl, el71, fl121_0, ti9, Sl.fw, List.getElem?_map, ga, Option.map_some, Int.natCast_nonneg] <;> rfl) ?_
  refine awp_cond (by simp only [fw0, fw1, fw2, fw3, fw4, fw5, fw6, fw7, ↓reduceIte, Nat.reduceAdd, Nat.reduceMul, Nat.reduceEqDiff, Nat.reduceLT, Nat.reduceLeDiff, reduceCtorEq, Bool.false_eq_true, Bool.not_true, Bool.not_false, and_self, Nat.le_refl] <;> rfl) ?_
  by_cases hn : l[i].name = nm
  · simp only [hn, decide_true, ↓reduceIte]
    refine awp_seq (awp_run rfl (by simp only [fw0, fw1, fw2, fw3, fw4, fw5, fw6, fw7, ↓reduceIte, Nat.reduceAdd, Nat.reduceMul, Nat.reduceEqDiff, Nat.reduceLT, Nat.reduceLeDiff, reduceCtorEq, Bool.false_eq_true, Bool.not_true, Bool.not_false, and_self, Nat.le_refl] <;> rfl) (awp_ret ?_))
    have e : fndI l nm = i := by
      unfold fndI
      rw [hi.2, fnd_drop ga, if_pos hn]; simp
    exact gives_end0 (.inl rfl) (by rw [e]; rfl)
  simp only [hn, decide_false, Bool.false_eq_true, ↓reduceIte]
  refine awp_skip ?_
  refine awp_run rfl (by simp only [fw0, fw1, fw2, fw3, fw4, fw5, fw6, fw7, ↓reduceIte, Nat.reduceAdd, Nat.reduceMul, Nat.reduceEqDiff, Nat.reduceLT, Nat.reduceLeDiff, reduceCtorEq, Bool.false_eq_true, Bool.not_true, Bool.not_false, and_self, Nat.le_refl] <;> rfl) ?_
  refine ⟨i + 1, by omega, ⟨by omega, ?_⟩, by rw [wrapS i (by omega)]; rfl, rfl, rfl⟩
  rw [hi.2, fnd_drop ga, if_neg hn, Option.map_map]
  congr 1
  funext k
  simp only [Function.comp]; omega

theorem fnd_lt {l : List Sl} {nm : List UInt8} {i : Nat} (h : fnd l nm = some i) : i < l.length := by
  unfold fnd at h
  exact (List.findIdx?_eq_some_iff_getElem.1 h).1
theorem fnd_name {l : List Sl} {nm : List UInt8} {i : Nat} (h : fnd l nm = some i) : (l[i]'(fnd_lt h)).name = nm := by
  unfold fnd at h
  have := (List.findIdx?_eq_some_iff_getElem.1 h).2.1
  simpa using this

/-- What is read of cells. -/
def readV (l : List Sl) (nm : List UInt8) : Option Int := (fnd l nm).bind fun i => (l[i]?).map (·.n)
def readP (l : List Sl) (nm : List UInt8) : PV := .tup [.int .i64 ((readV l nm).getD 0), .bool (readV l nm).isSome]

/-- chancelref18.Read -/
theorem c68 (Γ : Nat → PV) (l : List Sl) (nm : List UInt8) : Gives Tryd.prog Γ 68 [.vec (l.map Sl.enc) false, .str nm] (readP l nm) := by
  refine fn_of_awp Tryd.func68 rfl (by simp [Tryd.f68]) rfl fun H => ?_
  refine awp_seq ?_
  -- region 0
  refine awp_run rfl (by simp only [fw0, fw1, fw2, fw3, fw4, fw5, fw6, fw7, ↓reduceIte, Nat.reduceAdd, Nat.reduceMul, Nat.reduceEqDiff, Nat.reduceLT, Nat.reduceLeDiff, reduceCtorEq, Bool.false_eq_true, Bool.not_true, Bool.not_false, and_self, Nat.le_refl] <;> rfl) ?_
  refine awp_seq ?_
  -- region 1
  refine awp_region rfl ?_
  refine aops_run 2 (by simp only [fw0, fw1, fw2, fw3, fw4, fw5, fw6, fw7, ↓reduceIte, Nat.reduceAdd, Nat.reduceMul, Nat.reduceEqDiff, Nat.reduceLT, Nat.reduceLeDiff, reduceCtorEq, Bool.false_eq_true, Bool.not_true, Bool.not_false, and_self, Nat.le_refl] <;> rfl) ?_
  refine aops_fn rfl rfl rfl en75 (c75 Γ _ _) ?_
  refine aops_run 1 (by simp only [fw0, fw1, fw2, fw3, fw4, fw5, fw6, fw7, ↓reduceIte, Nat.reduceAdd, Nat.reduceMul, Nat.reduceEqDiff, Nat.reduceLT, Nat.reduceLeDiff, reduceCtorEq, Bool.false_eq_true, Bool.not_true, Bool.not_false, and_self, Nat.le_refl] <;> rfl) ?_
  refine awp_seq ?_
  refine awp_seq ?_
  -- region 2
  refine awp_run rfl (by simp only [fw0, fw1, fw2, fw3, fw4, fw5, fw6, fw7, ↓reduceIte, Nat.reduceAdd, Nat.reduceMul, Nat.reduceEqDiff, Nat.reduceLT, Nat.reduceLeDiff, reduceCtorEq, Bool.false_eq_true, Bool.not_true, Bool.not_false, and_self, Nat.le_refl] <;> rfl) ?_
  refine awp_cond (by simp only [fw0, fw1, fw2, fw3, fw4, fw5, fw6, fw7, ↓reduceIte, Nat.reduceAdd, Nat.reduceMul, Nat.reduceEqDiff, Nat.reduceLT, Nat.reduceLeDiff, reduceCtorEq, Bool.false_eq_true, Bool.not_true, Bool.not_false, and_self, Nat.le_refl] <;> rfl) ?_
  cases hf : fnd l nm with
  | none =>
    have e : fndI l nm = -1 := by unfold fndI; rw [hf]
    simp only [e, show decide ((-1 : Int) < 0) = true from rfl, ↓reduceIte]
    refine awp_seq (awp_run rfl (by simp only [fw0, fw1, fw2, fw3, fw4, fw5, fw6, fw7, ↓reduceIte, Nat.reduceAdd, Nat.reduceMul, Nat.reduceEqDiff, Nat.reduceLT, Nat.reduceLeDiff, reduceCtorEq, Bool.false_eq_true, Bool.not_true, Bool.not_false, and_self, Nat.le_refl] <;> rfl) (awp_ret ?_))
    exact gives_end0 (.inl rfl) (by simp [readP, readV, hf, ares, aresL, ares1, alook, Tryd.f68])
  | some i =>
    have e : fndI l nm = i := by unfold fndI; rw [hf]
    have hi := fnd_lt hf
    have ga : l[i]? = some l[i] := List.getElem?_eq_getElem hi
    have h0 : ¬ ((i : Int) < 0) := by omega
    simp only [e, h0, decide_false, Bool.false_eq_true, ↓reduceIte]
    refine awp_skip ?_
    refine awp_seq (awp_run rfl (by simp only [fw0, fw1, fw2, fw3, fw4, fw5, fw6, fw7, ↓reduceIte, Nat.reduceAdd, Nat.reduceMul, Nat.reduceEqDiff, Nat.reduceLT, Nat.reduceLeDiff, reduceCtorEq, Bool.false_eq_true, Bool.not_true, Bool.not_false, and_self, Nat.le_refl, e, el71, fl121_1, ti2, Sl.fw, List.getElem?_map, ga, Option.map_some, Int.natCast_nonneg] <;> rfl) (awp_ret ?_))
    exact gives_end0 (.inl rfl) (by simp [readP, readV, hf, ga, ares, aresL, ares1, alook, Tryd.f68])

theorem Sl.flat_set (l : List Sl) (i : Nat) (n : Int) (h : i < l.length) : splice ((l.map Sl.enc).flatten) (i * 2 + 1) [.int .i64 n] = ((l.set i ⟨l[i].name, n⟩).map Sl.enc).flatten := by
  induction l generalizing i with
  | nil => simp at h
  | cons s l ih =>
    cases i with
    | zero => simp [splice, Sl.enc]
    | succ i =>
      have := ih i (by simpa using h)
      simp only [splice, List.length_cons, List.length_nil, Nat.zero_add] at this ⊢
      simp only [List.map_cons, List.flatten_cons, List.set_cons_succ, List.getElem_cons_succ]
      rw [← this, show (i + 1) * 2 + 1 = i * 2 + 1 + 1 + 1 by omega]
      rfl

theorem awp_heap {P : Program} {Γ : Nat → PV} {N : Nat} {ro : Option Nat} {c : Code} {A : List (Nat × PV)} {H H' : List Blk} {D : List Nat} {Q : Post} (hH : H = H') (h : AWP P Γ N ro c A H' D Q) : AWP P Γ N ro c A H D Q := hH ▸ h

/-- What is written to cells. -/
def writeV (l : List Sl) (nm : List UInt8) (n : Int) : Option (List Sl) := (fnd l nm).map fun i => l.set i ⟨nm, n⟩
def writeP (l : List Sl) (nm : List UInt8) (n : Int) : PV := .tup [.vec (((writeV l nm n).getD l).map Sl.enc) false, .bool (writeV l nm n).isSome]

/-- chancelref18.Write -/
theorem c76 (Γ : Nat → PV) (l : List Sl) (nm : List UInt8) (n : Int) (hl24 : l.length * 24 ≤ reachBytes) : Gives Tryd.prog Γ 76 [.vec (l.map Sl.enc) false, .str nm, .int .i64 n] (writeP l nm n) := by
  refine fn_of_awp Tryd.func76 rfl (by simp [Tryd.f76]) rfl fun H => ?_
  refine awp_seq ?_
  -- region 0
  refine awp_run rfl (by simp only [fw0, fw1, fw2, fw3, fw4, fw5, fw6, fw7, ↓reduceIte, Nat.reduceAdd, Nat.reduceMul, Nat.reduceEqDiff, Nat.reduceLT, Nat.reduceLeDiff, reduceCtorEq, Bool.false_eq_true, Bool.not_true, Bool.not_false, and_self, Nat.le_refl] <;> rfl) ?_
  refine awp_vlen 0 rfl fun hlen => ?_
  rw [List.length_map] at hlen
  refine awp_seq ?_
  -- region 1
  refine awp_region rfl ?_
  refine aops_run 2 (by simp only [fw0, fw1, fw2, fw3, fw4, fw5, fw6, fw7, ↓reduceIte, Nat.reduceAdd, Nat.reduceMul, Nat.reduceEqDiff, Nat.reduceLT, Nat.reduceLeDiff, reduceCtorEq, Bool.false_eq_true, Bool.not_true, Bool.not_false, and_self, Nat.le_refl] <;> rfl) ?_
  refine aops_fn rfl rfl rfl en75 (c75 Γ _ _) ?_
  refine aops_run 1 (by simp only [fw0, fw1, fw2, fw3, fw4, fw5, fw6, fw7, ↓reduceIte, Nat.reduceAdd, Nat.reduceMul, Nat.reduceEqDiff, Nat.reduceLT, Nat.reduceLeDiff, reduceCtorEq, Bool.false_eq_true, Bool.not_true, Bool.not_false, and_self, Nat.le_refl] <;> rfl) ?_
  refine awp_seq ?_
  refine awp_seq ?_
  -- region 2
  refine awp_run rfl (by simp only [fw0, fw1, fw2, fw3, fw4, fw5, fw6, fw7, ↓reduceIte, Nat.reduceAdd, Nat.reduceMul, Nat.reduceEqDiff, Nat.reduceLT, Nat.reduceLeDiff, reduceCtorEq, Bool.false_eq_true, Bool.not_true, Bool.not_false, and_self, Nat.le_refl] <;> rfl) ?_
  refine awp_cond (by simp only [fw0, fw1, fw2, fw3, fw4, fw5, fw6, fw7, ↓reduceIte, Nat.reduceAdd, Nat.reduceMul, Nat.reduceEqDiff, Nat.reduceLT, Nat.reduceLeDiff, reduceCtorEq, Bool.false_eq_true, Bool.not_true, Bool.not_false, and_self, Nat.le_refl] <;> rfl) ?_
  cases hf : fnd l nm with
  | none =>
    have e : fndI l nm = -1 := by unfold fndI; rw [hf]
    simp only [e, show decide ((-1 : Int) < 0) = true from rfl, ↓reduceIte]
    refine awp_seq (awp_run rfl (by simp only [fw0, fw1, fw2, fw3, fw4, fw5, fw6, fw7, ↓reduceIte, Nat.reduceAdd, Nat.reduceMul, Nat.reduceEqDiff, Nat.reduceLT, Nat.reduceLeDiff, reduceCtorEq, Bool.false_eq_true, Bool.not_true, Bool.not_false, and_self, Nat.le_refl] <;> rfl) (awp_ret ?_))
    exact gives_end0 (.inl rfl) (by simp [writeP, writeV, hf, ares, aresL, ares1, alook, Tryd.f76])
  | some i =>
    have e : fndI l nm = i := by unfold fndI; rw [hf]
    have hi := fnd_lt hf
    have ga : l[i]? = some l[i] := List.getElem?_eq_getElem hi
    have h0 : ¬ ((i : Int) < 0) := by omega
    simp only [e, h0, decide_false, Bool.false_eq_true, ↓reduceIte]
    refine awp_skip ?_
    refine awp_seq ?_
    -- region 4
    refine awp_region rfl ?_
    refine aops_run 1 (by simp only [fw0, fw1, fw2, fw3, fw4, fw5, fw6, fw7, ↓reduceIte, Nat.reduceAdd, Nat.reduceMul, Nat.reduceEqDiff, Nat.reduceLT, Nat.reduceLeDiff, reduceCtorEq, Bool.false_eq_true, Bool.not_true, Bool.not_false, and_self, Nat.le_refl] <;> rfl) ?_
    refine aops_one rfl (os_appendNew rfl un71 ti121 un71 (.inl ⟨_, rfl⟩) (by decide) rfl (by simp only [fw0, fw1, fw2, fw3, fw4, fw5, fw6, fw7, ↓reduceIte, Nat.reduceAdd, Nat.reduceMul, Nat.reduceEqDiff, Nat.reduceLT, Nat.reduceLeDiff, reduceCtorEq, Bool.false_eq_true, Bool.not_true, Bool.not_false, and_self, Nat.le_refl] <;> rfl) (fun es f h e he => by
      simp only [fw0, fw1, fw2, fw3, fw4, fw5, fw6, fw7, ↓reduceIte, Nat.reduceAdd, Nat.reduceMul, Nat.reduceEqDiff, Nat.reduceLT, Nat.reduceLeDiff, reduceCtorEq, Bool.false_eq_true, Bool.not_true, Bool.not_false, and_self, Nat.le_refl, PV.vec.injEq] at h
      obtain ⟨rfl, rfl⟩ := h
      obtain ⟨x, _, rfl⟩ := List.mem_map.1 he
      rfl) (by simp only [fw0, fw1, fw2, fw3, fw4, fw5, fw6, fw7, ↓reduceIte, Nat.reduceAdd, Nat.reduceMul, Nat.reduceEqDiff, Nat.reduceLT, Nat.reduceLeDiff, reduceCtorEq, Bool.false_eq_true, Bool.not_true, Bool.not_false, and_self, Nat.le_refl] <;> rfl) (by unfold reachBytes at hl24; rw [List.length_map]; show l.length * 24 ≤ _; omega) (by rw [List.length_map]; omega) ?_)
    refine aops_run 1 (by simp only [fw0, fw1, fw2, fw3, fw4, fw5, fw6, fw7, ↓reduceIte, Nat.reduceAdd, Nat.reduceMul, Nat.reduceEqDiff, Nat.reduceLT, Nat.reduceLeDiff, reduceCtorEq, Bool.false_eq_true, Bool.not_true, Bool.not_false, and_self, Nat.le_refl] <;> rfl) ?_
    refine awp_seq ?_
    -- region 5
    refine awp_region rfl ?_
    refine aops_run 3 (by simp only [fw0, fw1, fw2, fw3, fw4, fw5, fw6, fw7, ↓reduceIte, Nat.reduceAdd, Nat.reduceMul, Nat.reduceEqDiff, Nat.reduceLT, Nat.reduceLeDiff, reduceCtorEq, Bool.false_eq_true, Bool.not_true, Bool.not_false, and_self, Nat.le_refl, e] <;> rfl) ?_
    refine aops_one rfl (os_index_row (sz := 2) rfl el71 rfl rfl (by simp only [fw0, fw1, fw2, fw3, fw4, fw5, fw6, fw7, ↓reduceIte, Nat.reduceAdd, Nat.reduceMul, Nat.reduceEqDiff, Nat.reduceLT, Nat.reduceLeDiff, reduceCtorEq, Bool.false_eq_true, Bool.not_true, Bool.not_false, and_self, Nat.le_refl] <;> rfl) (by rw [flat_len Sl.enc_len, List.length_map]; exact (Nat.zero_add _).symm) (by omega) (by rw [List.length_map]; omega) ?_)
    refine aops_run 1 (by simp only [fw0, fw1, fw2, fw3, fw4, fw5, fw6, fw7, ↓reduceIte, Nat.reduceAdd, Nat.reduceMul, Nat.reduceEqDiff, Nat.reduceLT, Nat.reduceLeDiff, reduceCtorEq, Bool.false_eq_true, Bool.not_true, Bool.not_false, and_self, Nat.le_refl, fl121_1] <;> rfl) ?_
    refine aops_one rfl (os_storeE rfl ti2 rfl (by simp only [fw0, fw1, fw2, fw3, fw4, fw5, fw6, fw7, ↓reduceIte, Nat.reduceAdd, Nat.reduceMul, Nat.reduceEqDiff, Nat.reduceLT, Nat.reduceLeDiff, reduceCtorEq, Bool.false_eq_true, Bool.not_true, Bool.not_false, and_self, Nat.le_refl] <;> rfl) rfl rfl rfl (by rw [flat_len Sl.enc_len]; simp only [Int.toNat_natCast]; omega) (by decide) ?_)
    refine awp_seq ?_
    have hfl := Sl.flat_set l i n hi
    rw [fnd_name hf] at hfl
    refine awp_heap (H' := H ++ [.row 2 (((l.set i ⟨nm, n⟩).map Sl.enc).flatten)]) (by rw [← hfl]; simp only [fw0, fw1, fw2, fw3, fw4, fw5, fw6, fw7, ↓reduceIte, Nat.reduceAdd, Nat.reduceMul, Nat.reduceEqDiff, Nat.reduceLT, Nat.reduceLeDiff, reduceCtorEq, Bool.false_eq_true, Bool.not_true, Bool.not_false, and_self, Nat.le_refl]) ?_
    refine awp_told (told_freezeAt H _ 0 (C := (((l.set i ⟨nm, n⟩).map Sl.enc).flatten)) rfl (flat_bd (fun _ => rfl) _)) ?_
    have hl : (((l.set i ⟨nm, n⟩).map Sl.enc).flatten).length = l.length * 2 := by rw [flat_len Sl.enc_len, List.length_set]
    have hch : chunk 2 l.length (((l.set i ⟨nm, n⟩).map Sl.enc).flatten) = (l.set i ⟨nm, n⟩).map Sl.enc := by
      have := flat_chunk Sl.enc_len (l.set i ⟨nm, n⟩)
      rwa [List.length_set] at this
    refine awp_run rfl (by simp only [fw0, fw1, fw2, fw3, fw4, fw5, fw6, fw7, ↓reduceIte, Nat.reduceAdd, Nat.reduceMul, Nat.reduceEqDiff, Nat.reduceLT, Nat.reduceLeDiff, reduceCtorEq, Bool.false_eq_true, Bool.not_true, Bool.not_false, and_self, Nat.le_refl, hl, hch, List.length_map] <;> rfl) ?_
    refine awp_ret ?_
    refine gives_end (.inl rfl) _ ?_
    simp [writeP, writeV, hf, ares, aresL, ares1, alook, Tryd.f76]

end Go.Proofs.YtnjlfbefpoecpaaDoor

/- The contracts of what binds names. -/
namespace Go.Proofs.YtnjlfbefpoecpaaDoor
set_option linter.unusedVariables false
set_option linter.unusedSimpArgs false
set_option maxRecDepth 100000
open Go.RowKit Fw

/-- slices.Clip, of names -/
theorem c58 (Γ : Nat → PV) (l : List Bd) : Gives Tryd.prog Γ 58 [.vec (l.map Bd.enc) false] (.vec (l.map Bd.enc) true) := by
  refine fn_of_awp Tryd.func58 rfl (by simp [Tryd.f58]) rfl fun H => ?_
  refine awp_seq ?_
  refine awp_run rfl (by simp only [fw0, fw1, fw2, fw3, fw4, fw5, fw6, fw7, ↓reduceIte, Nat.reduceAdd, Nat.reduceMul, Nat.reduceEqDiff, Nat.reduceLT, Nat.reduceLeDiff, reduceCtorEq, Bool.false_eq_true, Bool.not_true, Bool.not_false, and_self, Nat.le_refl] <;> rfl) ?_
  refine awp_seq ?_
  refine awp_region rfl ?_
  refine aops_run 5 (by simp only [fw0, fw1, fw2, fw3, fw4, fw5, fw6, fw7, ↓reduceIte, Nat.reduceAdd, Nat.reduceMul, Nat.reduceEqDiff, Nat.reduceLT, Nat.reduceLeDiff, reduceCtorEq, Bool.false_eq_true, Bool.not_true, Bool.not_false, and_self, Nat.le_refl, un42, List.length_map] <;> rfl) ?_
  refine aops_one rfl (os_sliceVec (l := 0) (h := l.length) rfl el42 rfl (fun e he => by obtain ⟨x, _, rfl⟩ := List.mem_map.1 he; exact Bd.enc_len x) rfl ⟨_, rfl⟩ ⟨rfl, _, rfl⟩ (Nat.zero_le _) (by rw [List.length_map]; exact Nat.le_refl _) ?_)
  refine aops_run 1 (by simp only [fw0, fw1, fw2, fw3, fw4, fw5, fw6, fw7, ↓reduceIte, Nat.reduceAdd, Nat.reduceMul, Nat.reduceEqDiff, Nat.reduceLT, Nat.reduceLeDiff, reduceCtorEq, Bool.false_eq_true, Bool.not_true, Bool.not_false, and_self, Nat.le_refl] <;> rfl) ?_
  refine awp_ret ?_
  refine gives_end0 (.inl rfl) ?_
  have e : (l.map Bd.enc).take l.length = l.map Bd.enc := List.take_of_length_le (by simp)
  simp [ares, aresL, ares1, alook, Tryd.f58, e]

/-- store.Bind -/
theorem c36 (Γ : Nat → PV) (l : List Bd) (nm : List UInt8) (v : Val) (hl : l.length * 128 ≤ reachBytes) : Gives Tryd.prog Γ 36 [.vec (l.map Bd.enc) false, .str nm, .agg v.enc] (.vec ((l ++ [Bd.mk nm v]).map Bd.enc) false) := by
  refine fn_of_awp Tryd.func36 rfl (by simp [Tryd.f36]) rfl fun H => ?_
  refine awp_seq ?_
  refine awp_run rfl (by simp only [fw0, fw1, fw2, fw3, fw4, fw5, fw6, fw7, ↓reduceIte, Nat.reduceAdd, Nat.reduceMul, Nat.reduceEqDiff, Nat.reduceLT, Nat.reduceLeDiff, reduceCtorEq, Bool.false_eq_true, Bool.not_true, Bool.not_false, and_self, Nat.le_refl] <;> rfl) ?_
  refine awp_seq ?_
  refine awp_drawn [0, 0, 0, 1, 0, 0, 0, 0] [0, 1, 0, 0, 12, 28, 63, 127] mixed rfl (by kernel_rfl) ?_
  refine dops_run 1 (by simp only [fw0, fw1, fw2, fw3, fw4, fw5, fw6, fw7, ↓reduceIte, Nat.reduceAdd, Nat.reduceMul, Nat.reduceEqDiff, Nat.reduceLT, Nat.reduceLeDiff, reduceCtorEq, Bool.false_eq_true, Bool.not_true, Bool.not_false, and_self, Nat.le_refl] <;> rfl) ?_
  refine dops_fn rfl rfl rfl rfl en58 (c58 Γ l) ?_
  refine dops_run 4 (by simp only [fw0, fw1, fw2, fw3, fw4, fw5, fw6, fw7, ↓reduceIte, Nat.reduceAdd, Nat.reduceMul, Nat.reduceEqDiff, Nat.reduceLT, Nat.reduceLeDiff, reduceCtorEq, Bool.false_eq_true, Bool.not_true, Bool.not_false, and_self, Nat.le_refl, ti44, ti99, pl99, un42, Val.fw] <;> rfl) ?_
  refine dops_appendVV rfl rfl rfl un42 ti99 un42 rfl (fun e he => by obtain ⟨x, _, rfl⟩ := List.mem_map.1 he; exact Bd.enc_len x) rfl (fun e he => by
    simp only [List.mem_singleton] at he
    subst he; simp only [fw0, fw1, fw2, fw3, fw4, fw5, fw6, fw7, ↓reduceIte, Nat.reduceAdd, Nat.reduceMul, Nat.reduceEqDiff, Nat.reduceLT, Nat.reduceLeDiff, reduceCtorEq, Bool.false_eq_true, Bool.not_true, Bool.not_false, and_self, Nat.le_refl, Val.fw]) (by unfold reachBytes at hl; rw [List.length_map]; show (l.length + 1) * 128 ≤ _; omega) (by unfold reachBytes at hl; rw [List.length_map]; show l.length + 1 ≤ _; omega) ?_
  refine dops_run 1 (by simp only [fw0, fw1, fw2, fw3, fw4, fw5, fw6, fw7, ↓reduceIte, Nat.reduceAdd, Nat.reduceMul, Nat.reduceEqDiff, Nat.reduceLT, Nat.reduceLeDiff, reduceCtorEq, Bool.false_eq_true, Bool.not_true, Bool.not_false, and_self, Nat.le_refl] <;> rfl) ?_
  refine dops_end ?_
  refine awp_ret ?_
  refine gives_end (.inl rfl) _ ?_
  simp [ares, aresL, ares1, alook, Tryd.f36, Bd.enc_eq (Bd.mk nm v), Bd.name, Bd.v]

/-- A whole number, as a value. -/
def wholeV (n : Int) : Val := .mk 1 n [] (.mk 0 [] 0 []) []
def wholeP (n : Int) : PV := .agg [.int .i64 1, .int .i64 n, .str [], .int .i64 0, .str [], .int .i64 0, .vec [] true, .vec [] true]

/-- store.Whole -/
theorem c35 (Γ : Nat → PV) (n : Int) : Gives Tryd.prog Γ 35 [.int .i64 n] (.agg (wholeV n).enc) := by
  refine Gives.res (p := wholeP n) ?_ (by
    simp [wholeP, wholeV, Val.enc, Tm.enc, Tm.encs, Bd.encs, PV.le, PV.leL, PV.leLL])
  refine fn_of_awp Tryd.func35 rfl (by simp [Tryd.f35]) rfl fun H => ?_
  refine awp_seq ?_
  refine awp_run rfl (by simp only [fw0, fw1, fw2, fw3, fw4, fw5, fw6, fw7, ↓reduceIte, Nat.reduceAdd, Nat.reduceMul, Nat.reduceEqDiff, Nat.reduceLT, Nat.reduceLeDiff, reduceCtorEq, Bool.false_eq_true, Bool.not_true, Bool.not_false, and_self, Nat.le_refl, ti44] <;> rfl) ?_
  refine awp_seq ?_
  refine awp_run rfl (by simp only [fw0, fw1, fw2, fw3, fw4, fw5, fw6, fw7, ↓reduceIte, Nat.reduceAdd, Nat.reduceMul, Nat.reduceEqDiff, Nat.reduceLT, Nat.reduceLeDiff, reduceCtorEq, Bool.false_eq_true, Bool.not_true, Bool.not_false, and_self, Nat.le_refl, ti44, pl44] <;> rfl) ?_
  refine awp_ret ?_
  refine gives_end (.inl rfl) _ ?_
  simp only [fw0, fw1, fw2, fw3, fw4, fw5, fw6, fw7, ↓reduceIte, Nat.reduceAdd, Nat.reduceMul, Nat.reduceEqDiff, Nat.reduceLT, Nat.reduceLeDiff, reduceCtorEq, Bool.false_eq_true, Bool.not_true, Bool.not_false, and_self, Nat.le_refl, ares, aresL, ares1, Tryd.f35, ti44, wholeP]

/-- chancelref18.Whole -/
theorem c53 (Γ : Nat → PV) (n : Int) : Gives Tryd.prog Γ 53 [.int .i64 n] (.agg (wholeV n).enc) := by
  refine Gives.res (p := wholeP n) ?_ (by
    simp [wholeP, wholeV, Val.enc, Tm.enc, Tm.encs, Bd.encs, PV.le, PV.leL, PV.leLL])
  refine fn_of_awp Tryd.func53 rfl (by simp [Tryd.f53]) rfl fun H => ?_
  refine awp_seq ?_
  refine awp_run rfl (by simp only [fw0, fw1, fw2, fw3, fw4, fw5, fw6, fw7, ↓reduceIte, Nat.reduceAdd, Nat.reduceMul, Nat.reduceEqDiff, Nat.reduceLT, Nat.reduceLeDiff, reduceCtorEq, Bool.false_eq_true, Bool.not_true, Bool.not_false, and_self, Nat.le_refl, ti70] <;> rfl) ?_
  refine awp_seq ?_
  refine awp_run rfl (by simp only [fw0, fw1, fw2, fw3, fw4, fw5, fw6, fw7, ↓reduceIte, Nat.reduceAdd, Nat.reduceMul, Nat.reduceEqDiff, Nat.reduceLT, Nat.reduceLeDiff, reduceCtorEq, Bool.false_eq_true, Bool.not_true, Bool.not_false, and_self, Nat.le_refl, ti70, pl70] <;> rfl) ?_
  refine awp_ret ?_
  refine gives_end (.inl rfl) _ ?_
  simp only [fw0, fw1, fw2, fw3, fw4, fw5, fw6, fw7, ↓reduceIte, Nat.reduceAdd, Nat.reduceMul, Nat.reduceEqDiff, Nat.reduceLT, Nat.reduceLeDiff, reduceCtorEq, Bool.false_eq_true, Bool.not_true, Bool.not_false, and_self, Nat.le_refl, ares, aresL, ares1, Tryd.f53, ti70, wholeP]

end Go.Proofs.YtnjlfbefpoecpaaDoor

/- The contracts of the program's functions on cells. -/
namespace Go.Proofs.YtnjlfbefpoecpaaDoor
set_option linter.unusedVariables false
set_option linter.unusedSimpArgs false
set_option maxRecDepth 100000
open Go.RowKit Fw

/-- store.place's closure -/
theorem c84 (Γ : Nat → PV) (H : List Blk) (b : Nat) (nm : List UInt8) (hb : H[b]? = some (.box [.str nm])) (s : Sl) :
    ACalls Tryd.prog Γ 84 [.agg s.enc, .ptr b 0] H (fun p H' => p = .bool (decide (s.name = nm)) ∧ H' = H) := by
  refine acalls_of_awp Tryd.func84 rfl (by simp [Tryd.f84]) fun hbd => ?_
  have hb' := get_old [.box [.str s.name, .int .i64 s.n]] hb
  refine awp_seq (awp_run rfl (by simp only [fw0, fw1, fw2, fw3, fw4, fw5, fw6, fw7, ↓reduceIte, Nat.reduceAdd, Nat.reduceMul, Nat.reduceEqDiff, Nat.reduceLT, Nat.reduceLeDiff, reduceCtorEq, Bool.false_eq_true, Bool.not_true, Bool.not_false, and_self, Nat.le_refl] <;> rfl) ?_)
  refine awp_seq (awp_run rfl (by simp only [fw0, fw1, fw2, fw3, fw4, fw5, fw6, fw7, ↓reduceIte, Nat.reduceAdd, Nat.reduceMul, Nat.reduceEqDiff, Nat.reduceLT, Nat.reduceLeDiff, reduceCtorEq, Bool.false_eq_true, Bool.not_true, Bool.not_false, and_self, Nat.le_refl, ti53, ti9, fl53_1, ti2, pl53, eq53, Sl.fw, hb', show s.enc = [.str s.name, .int .i64 s.n] from rfl] <;> rfl) ?_)
  refine awp_ret (calls_end _ (.inl rfl) hbd rfl rfl ⟨?_, rfl⟩)
  show PV.bool (decide (s.name = nm) && (decide True && true)) = _
  simp

/-- slices.IndexFunc, of cells -/
theorem c83 (Γ : Nat → PV) (H : List Blk) (f : Nat) (he : Enters Tryd.prog f) (caps : List PV) (hcaps : PV.bdL H.length caps = true) (l : List Sl) (nm : List UInt8)
    (h : ∀ s : Sl, ACalls Tryd.prog Γ f ([.agg s.enc] ++ caps) H (fun p H' => p = .bool (decide (s.name = nm)) ∧ H' = H)) :
    ACalls Tryd.prog Γ 83 [.vec (l.map Sl.enc) false, .func (.func f) [] caps] H (fun p H' => p = .int .i64 (fndI l nm) ∧ H' = H) := by
  refine acalls_of_awp Tryd.func83 rfl (by simp [Tryd.f83]) fun hbd => ?_
  refine awp_seq ?_
  refine awp_run rfl (by simp only [fw0, fw1, fw2, fw3, fw4, fw5, fw6, fw7, ↓reduceIte, Nat.reduceAdd, Nat.reduceMul, Nat.reduceEqDiff, Nat.reduceLT, Nat.reduceLeDiff, reduceCtorEq, Bool.false_eq_true, Bool.not_true, Bool.not_false, and_self, Nat.le_refl] <;> rfl) ?_
  refine awp_vlen 0 rfl fun hlen => ?_
  rw [List.length_map] at hlen
  refine awp_seq ?_
  refine awp_seq ?_
  refine awp_run rfl (by simp only [fw0, fw1, fw2, fw3, fw4, fw5, fw6, fw7, ↓reduceIte, Nat.reduceAdd, Nat.reduceMul, Nat.reduceEqDiff, Nat.reduceLT, Nat.reduceLeDiff, reduceCtorEq, Bool.false_eq_true, Bool.not_true, Bool.not_false, and_self, Nat.le_refl, un45, List.length_map] <;> rfl) ?_
  refine awp_block ?_
  refine awp_for [0, 1, 7, 8] (fun i : Nat => [.vec (l.map Sl.enc) false, .func (.func f) [] caps, .int .i64 l.length, .int .i64 (i : Int)]) (fun _ => H) (fun i => l.length - i)
    (fun i => i ≤ l.length ∧ fnd l nm = (fnd (l.drop i) nm).map (· + i)) 0 rfl rfl ⟨Nat.zero_le _, by simp⟩ fun i hi => ?_
  refine awp_seq ?_
  refine awp_run rfl (by simp only [fw0, fw1, fw2, fw3, fw4, fw5, fw6, fw7, ↓reduceIte, Nat.reduceAdd, Nat.reduceMul, Nat.reduceEqDiff, Nat.reduceLT, Nat.reduceLeDiff, reduceCtorEq, Bool.false_eq_true, Bool.not_true, Bool.not_false, and_self, Nat.le_refl] <;> rfl) ?_
  refine awp_seq ?_
  refine awp_cond (by simp only [fw0, fw1, fw2, fw3, fw4, fw5, fw6, fw7, ↓reduceIte, Nat.reduceAdd, Nat.reduceMul, Nat.reduceEqDiff, Nat.reduceLT, Nat.reduceLeDiff, reduceCtorEq, Bool.false_eq_true, Bool.not_true, Bool.not_false, and_self, Nat.le_refl] <;> rfl) ?_
  by_cases hc : (i : Int) < l.length
  rotate_left
  · simp only [hc, decide_false, Bool.false_eq_true, ↓reduceIte]
    refine awp_exit ?_
    refine awp_seq (awp_run rfl (by simp only [fw0, fw1, fw2, fw3, fw4, fw5, fw6, fw7, ↓reduceIte, Nat.reduceAdd, Nat.reduceMul, Nat.reduceEqDiff, Nat.reduceLT, Nat.reduceLeDiff, reduceCtorEq, Bool.false_eq_true, Bool.not_true, Bool.not_false, and_self, Nat.le_refl] <;> rfl) (awp_ret ?_))
    have e : fndI l nm = -1 := by
      unfold fndI
      rw [hi.2, List.drop_of_length_le (by omega)]; rfl
    exact calls_end0 (p := .int .i64 (-1)) (.inl rfl) hbd rfl rfl ⟨by rw [e], rfl⟩
  simp only [hc, decide_true, ↓reduceIte]
  refine awp_skip ?_
  have hia : i < l.length := by omega
  have ga : l[i]? = some l[i] := List.getElem?_eq_getElem hia
  refine awp_seq ?_
  refine awp_block ?_
  refine awp_seq ?_
  refine awp_run rfl (by simp only [fw0, fw1, fw2, fw3, fw4, fw5, fw6, fw7, ↓reduceIte, Nat.reduceAdd, Nat.reduceMul, Nat.reduceEqDiff, Nat.reduceLT, Nat.reduceLeDiff, reduceCtorEq, Bool.false_eq_true, Bool.not_true, Bool.not_false, and_self, Nat.le_refl] <;> rfl) ?_
  refine awp_seq ?_
  refine awp_region rfl ?_
  refine aops_run 5 (by simp only [fw0, fw1, fw2, fw3, fw4, fw5, fw6, fw7, ↓reduceIte, Nat.reduceAdd, Nat.reduceMul, Nat.reduceEqDiff, Nat.reduceLT, Nat.reduceLeDiff, reduceCtorEq, Bool.false_eq_true, Bool.not_true, Bool.not_false, and_self, Nat.le_refl, el45, ti53, Sl.fw, List.getElem?_map, ga, Option.map_some, Int.natCast_nonneg] <;> rfl) ?_
  refine aops_call rfl rfl rfl he ((h l[i]).mono fun p H' hp => ?_)
  obtain ⟨rfl, rfl⟩ := hp
  refine awp_cond (by simp only [fw0, fw1, fw2, fw3, fw4, fw5, fw6, fw7, ↓reduceIte, Nat.reduceAdd, Nat.reduceMul, Nat.reduceEqDiff, Nat.reduceLT, Nat.reduceLeDiff, reduceCtorEq, Bool.false_eq_true, Bool.not_true, Bool.not_false, and_self, Nat.le_refl] <;> rfl) ?_
  by_cases hn : l[i].name = nm
  · simp only [hn, decide_true, ↓reduceIte]
    refine awp_seq (awp_run rfl (by simp only [fw0, fw1, fw2, fw3, fw4, fw5, fw6, fw7, ↓reduceIte, Nat.reduceAdd, Nat.reduceMul, Nat.reduceEqDiff, Nat.reduceLT, Nat.reduceLeDiff, reduceCtorEq, Bool.false_eq_true, Bool.not_true, Bool.not_false, and_self, Nat.le_refl] <;> rfl) (awp_ret ?_))
    have e : fndI l nm = i := by
      unfold fndI
      rw [hi.2, fnd_drop ga, if_pos hn]; simp
    simp only [Post.block, Post.then]
    refine calls_end0 (p := .int .i64 (i : Int)) (.inl rfl) hbd ?_ ?_ ?_
    · rfl
    · rfl
    · exact ⟨by rw [e], rfl⟩
  simp only [hn, decide_false, Bool.false_eq_true, ↓reduceIte]
  refine awp_skip ?_
  refine awp_run rfl (by simp only [fw0, fw1, fw2, fw3, fw4, fw5, fw6, fw7, ↓reduceIte, Nat.reduceAdd, Nat.reduceMul, Nat.reduceEqDiff, Nat.reduceLT, Nat.reduceLeDiff, reduceCtorEq, Bool.false_eq_true, Bool.not_true, Bool.not_false, and_self, Nat.le_refl] <;> rfl) ?_
  refine ⟨i + 1, by omega, ⟨by omega, ?_⟩, by rw [wrapS i (by omega)]; rfl, rfl, rfl⟩
  rw [hi.2, fnd_drop ga, if_neg hn, Option.map_map]
  congr 1
  funext k
  simp only [Function.comp]; omega

/-- store.place -/
theorem c79 (Γ : Nat → PV) (l : List Sl) (nm : List UInt8) : Gives Tryd.prog Γ 79 [.vec (l.map Sl.enc) false, .str nm] (.int .i64 (fndI l nm)) := by
  refine fn_of_awp Tryd.func79 rfl (by simp [Tryd.f79]) rfl fun H => ?_
  refine awp_seq ?_
  refine awp_run rfl (by simp only [fw0, fw1, fw2, fw3, fw4, fw5, fw6, fw7, ↓reduceIte, Nat.reduceAdd, Nat.reduceMul, Nat.reduceEqDiff, Nat.reduceLT, Nat.reduceLeDiff, reduceCtorEq, Bool.false_eq_true, Bool.not_true, Bool.not_false, and_self, Nat.le_refl] <;> rfl) ?_
  refine awp_seq ?_
  refine awp_region rfl ?_
  refine aops_run 2 (by simp only [fw0, fw1, fw2, fw3, fw4, fw5, fw6, fw7, ↓reduceIte, Nat.reduceAdd, Nat.reduceMul, Nat.reduceEqDiff, Nat.reduceLT, Nat.reduceLeDiff, reduceCtorEq, Bool.false_eq_true, Bool.not_true, Bool.not_false, and_self, Nat.le_refl] <;> rfl) ?_
  refine aops_call rfl rfl rfl en83 ((c83 Γ _ 84 en84 [.ptr H.length 0] (by simp [PV.bdL, PV.bd]) l nm (fun s => c84 Γ _ _ nm (by simp only [fw0, fw1, fw2, fw3, fw4, fw5, fw6, fw7, ↓reduceIte, Nat.reduceAdd, Nat.reduceMul, Nat.reduceEqDiff, Nat.reduceLT, Nat.reduceLeDiff, reduceCtorEq, Bool.false_eq_true, Bool.not_true, Bool.not_false, and_self, Nat.le_refl]) s)).mono fun p H' hp => ?_)
  obtain ⟨rfl, rfl⟩ := hp
  refine aops_run 1 (by simp only [fw0, fw1, fw2, fw3, fw4, fw5, fw6, fw7, ↓reduceIte, Nat.reduceAdd, Nat.reduceMul, Nat.reduceEqDiff, Nat.reduceLT, Nat.reduceLeDiff, reduceCtorEq, Bool.false_eq_true, Bool.not_true, Bool.not_false, and_self, Nat.le_refl] <;> rfl) ?_
  refine awp_ret ?_
  exact gives_end (.inl rfl) _ rfl

/-- store.Read -/
theorem c72 (Γ : Nat → PV) (l : List Sl) (nm : List UInt8) : Gives Tryd.prog Γ 72 [.vec (l.map Sl.enc) false, .str nm] (readP l nm) := by
  refine fn_of_awp Tryd.func72 rfl (by simp [Tryd.f72]) rfl fun H => ?_
  refine awp_seq ?_
  -- region 0
  refine awp_run rfl (by simp only [fw0, fw1, fw2, fw3, fw4, fw5, fw6, fw7, ↓reduceIte, Nat.reduceAdd, Nat.reduceMul, Nat.reduceEqDiff, Nat.reduceLT, Nat.reduceLeDiff, reduceCtorEq, Bool.false_eq_true, Bool.not_true, Bool.not_false, and_self, Nat.le_refl] <;> rfl) ?_
  refine awp_seq ?_
  -- region 1
  refine awp_region rfl ?_
  refine aops_run 2 (by simp only [fw0, fw1, fw2, fw3, fw4, fw5, fw6, fw7, ↓reduceIte, Nat.reduceAdd, Nat.reduceMul, Nat.reduceEqDiff, Nat.reduceLT, Nat.reduceLeDiff, reduceCtorEq, Bool.false_eq_true, Bool.not_true, Bool.not_false, and_self, Nat.le_refl] <;> rfl) ?_
  refine aops_fn rfl rfl rfl en79 (c79 Γ _ _) ?_
  refine aops_run 1 (by simp only [fw0, fw1, fw2, fw3, fw4, fw5, fw6, fw7, ↓reduceIte, Nat.reduceAdd, Nat.reduceMul, Nat.reduceEqDiff, Nat.reduceLT, Nat.reduceLeDiff, reduceCtorEq, Bool.false_eq_true, Bool.not_true, Bool.not_false, and_self, Nat.le_refl] <;> rfl) ?_
  refine awp_seq ?_
  refine awp_seq ?_
  -- region 2
  refine awp_run rfl (by simp only [fw0, fw1, fw2, fw3, fw4, fw5, fw6, fw7, ↓reduceIte, Nat.reduceAdd, Nat.reduceMul, Nat.reduceEqDiff, Nat.reduceLT, Nat.reduceLeDiff, reduceCtorEq, Bool.false_eq_true, Bool.not_true, Bool.not_false, and_self, Nat.le_refl] <;> rfl) ?_
  refine awp_cond (by simp only [fw0, fw1, fw2, fw3, fw4, fw5, fw6, fw7, ↓reduceIte, Nat.reduceAdd, Nat.reduceMul, Nat.reduceEqDiff, Nat.reduceLT, Nat.reduceLeDiff, reduceCtorEq, Bool.false_eq_true, Bool.not_true, Bool.not_false, and_self, Nat.le_refl] <;> rfl) ?_
  cases hf : fnd l nm with
  | none =>
    have e : fndI l nm = -1 := by unfold fndI; rw [hf]
    simp only [e, show decide ((-1 : Int) < 0) = true from rfl, ↓reduceIte]
    refine awp_seq (awp_run rfl (by simp only [fw0, fw1, fw2, fw3, fw4, fw5, fw6, fw7, ↓reduceIte, Nat.reduceAdd, Nat.reduceMul, Nat.reduceEqDiff, Nat.reduceLT, Nat.reduceLeDiff, reduceCtorEq, Bool.false_eq_true, Bool.not_true, Bool.not_false, and_self, Nat.le_refl] <;> rfl) (awp_ret ?_))
    exact gives_end0 (.inl rfl) (by simp [readP, readV, hf, ares, aresL, ares1, alook, Tryd.f72])
  | some i =>
    have e : fndI l nm = i := by unfold fndI; rw [hf]
    have hi := fnd_lt hf
    have ga : l[i]? = some l[i] := List.getElem?_eq_getElem hi
    have h0 : ¬ ((i : Int) < 0) := by omega
    simp only [e, h0, decide_false, Bool.false_eq_true, ↓reduceIte]
    refine awp_skip ?_
    refine awp_seq (awp_run rfl (by simp only [fw0, fw1, fw2, fw3, fw4, fw5, fw6, fw7, ↓reduceIte, Nat.reduceAdd, Nat.reduceMul, Nat.reduceEqDiff, Nat.reduceLT, Nat.reduceLeDiff, reduceCtorEq, Bool.false_eq_true, Bool.not_true, Bool.not_false, and_self, Nat.le_refl, e, el45, fl53_1, ti2, Sl.fw, List.getElem?_map, ga, Option.map_some, Int.natCast_nonneg] <;> rfl) (awp_ret ?_))
    exact gives_end0 (.inl rfl) (by simp [readP, readV, hf, ga, ares, aresL, ares1, alook, Tryd.f72])

end Go.Proofs.YtnjlfbefpoecpaaDoor

/- The contracts of what compares cells, and of the document's names. -/
namespace Go.Proofs.YtnjlfbefpoecpaaDoor
set_option linter.unusedVariables false
set_option linter.unusedSimpArgs false
set_option maxRecDepth 100000
open Go.RowKit Fw

/-- chancellaw18.sameSlots -/
theorem c52 (Γ : Nat → PV) (xs ys : List Sl) (hl24 : xs.length * 24 ≤ reachBytes) : Gives Tryd.prog Γ 52 [.vec (xs.map Sl.enc) false, .vec (ys.map Sl.enc) false] (.bool (decide (xs = ys))) := by
  refine fn_of_awp Tryd.func52 rfl (by simp [Tryd.f52]) rfl fun H => ?_
  refine awp_seq ?_
  -- region 0
  refine awp_run rfl (by simp only [fw0, fw1, fw2, fw3, fw4, fw5, fw6, fw7, ↓reduceIte, Nat.reduceAdd, Nat.reduceMul, Nat.reduceEqDiff, Nat.reduceLT, Nat.reduceLeDiff, reduceCtorEq, Bool.false_eq_true, Bool.not_true, Bool.not_false, and_self, Nat.le_refl] <;> rfl) ?_
  refine awp_seq ?_
  -- region 1
  refine awp_region rfl ?_
  refine aops_run 1 (by simp only [fw0, fw1, fw2, fw3, fw4, fw5, fw6, fw7, ↓reduceIte, Nat.reduceAdd, Nat.reduceMul, Nat.reduceEqDiff, Nat.reduceLT, Nat.reduceLeDiff, reduceCtorEq, Bool.false_eq_true, Bool.not_true, Bool.not_false, and_self, Nat.le_refl] <;> rfl) ?_
  refine aops_fn rfl rfl rfl en26 (c26 Γ _ hl24) ?_
  refine aops_run 1 (by simp only [fw0, fw1, fw2, fw3, fw4, fw5, fw6, fw7, ↓reduceIte, Nat.reduceAdd, Nat.reduceMul, Nat.reduceEqDiff, Nat.reduceLT, Nat.reduceLeDiff, reduceCtorEq, Bool.false_eq_true, Bool.not_true, Bool.not_false, and_self, Nat.le_refl] <;> rfl) ?_
  refine awp_vlen 0 rfl fun hlx => ?_
  refine awp_vlen 1 rfl fun hly => ?_
  rw [List.length_map] at hlx hly
  refine awp_seq ?_
  refine awp_seq ?_
  -- region 2
  refine awp_run rfl (by simp only [fw0, fw1, fw2, fw3, fw4, fw5, fw6, fw7, ↓reduceIte, Nat.reduceAdd, Nat.reduceMul, Nat.reduceEqDiff, Nat.reduceLT, Nat.reduceLeDiff, reduceCtorEq, Bool.false_eq_true, Bool.not_true, Bool.not_false, and_self, Nat.le_refl, un71, List.length_map] <;> rfl) ?_
  refine awp_cond (by simp only [fw0, fw1, fw2, fw3, fw4, fw5, fw6, fw7, ↓reduceIte, Nat.reduceAdd, Nat.reduceMul, Nat.reduceEqDiff, Nat.reduceLT, Nat.reduceLeDiff, reduceCtorEq, Bool.false_eq_true, Bool.not_true, Bool.not_false, and_self, Nat.le_refl] <;> rfl) ?_
  by_cases hl : xs.length = ys.length
  rotate_left
  · have hl' : ¬ ((xs.length : Int) = ys.length) := by omega
    simp only [hl', decide_false, Bool.not_false, ↓reduceIte]
    refine awp_seq ?_
    refine awp_run rfl (by simp only [fw0, fw1, fw2, fw3, fw4, fw5, fw6, fw7, ↓reduceIte, Nat.reduceAdd, Nat.reduceMul, Nat.reduceEqDiff, Nat.reduceLT, Nat.reduceLeDiff, reduceCtorEq, Bool.false_eq_true, Bool.not_true, Bool.not_false, and_self, Nat.le_refl] <;> rfl) ?_
    refine awp_ret ?_
    have hne : decide (xs = ys) = false := decide_eq_false fun e => hl (by rw [e])
    exact gives_end0 (.inl rfl) (by rw [hne]; rfl)
  have hl' : ((xs.length : Int) = ys.length) := by omega
  simp only [hl', decide_true, Bool.not_true, Bool.false_eq_true, ↓reduceIte]
  refine awp_skip ?_
  refine awp_seq ?_
  refine awp_seq ?_
  -- region 4
  refine awp_run rfl (by simp only [fw0, fw1, fw2, fw3, fw4, fw5, fw6, fw7, ↓reduceIte, Nat.reduceAdd, Nat.reduceMul, Nat.reduceEqDiff, Nat.reduceLT, Nat.reduceLeDiff, reduceCtorEq, Bool.false_eq_true, Bool.not_true, Bool.not_false, and_self, Nat.le_refl] <;> rfl) ?_
  refine awp_block ?_
  refine awp_for [1, 5, 6] (fun i : Nat => [.vec (ys.map Sl.enc) false, .vec (xs.map Sl.enc) false, .int .i64 (i : Int)]) (fun _ => H) (fun i => xs.length - i) (fun i => i ≤ xs.length ∧ xs.take i = ys.take i) 0 rfl rfl ⟨Nat.zero_le _, rfl⟩ fun i hi => ?_
  refine awp_seq ?_
  refine awp_seq ?_
  -- region 5
  refine awp_run rfl (by simp only [fw0, fw1, fw2, fw3, fw4, fw5, fw6, fw7, ↓reduceIte, Nat.reduceAdd, Nat.reduceMul, Nat.reduceEqDiff, Nat.reduceLT, Nat.reduceLeDiff, reduceCtorEq, Bool.false_eq_true, Bool.not_true, Bool.not_false, and_self, Nat.le_refl, un71, List.length_map] <;> rfl) ?_
  refine awp_cond (by simp only [fw0, fw1, fw2, fw3, fw4, fw5, fw6, fw7, ↓reduceIte, Nat.reduceAdd, Nat.reduceMul, Nat.reduceEqDiff, Nat.reduceLT, Nat.reduceLeDiff, reduceCtorEq, Bool.false_eq_true, Bool.not_true, Bool.not_false, and_self, Nat.le_refl] <;> rfl) ?_
  by_cases hc : (i : Int) < xs.length
  rotate_left
  · simp only [hc, decide_false, Bool.false_eq_true, ↓reduceIte]
    refine awp_exit ?_
    refine awp_seq (awp_run rfl (by simp only [fw0, fw1, fw2, fw3, fw4, fw5, fw6, fw7, ↓reduceIte, Nat.reduceAdd, Nat.reduceMul, Nat.reduceEqDiff, Nat.reduceLT, Nat.reduceLeDiff, reduceCtorEq, Bool.false_eq_true, Bool.not_true, Bool.not_false, and_self, Nat.le_refl] <;> rfl) (awp_ret ?_))
    have e : xs = ys := by
      have := hi.2
      rwa [List.take_of_length_le (by omega), List.take_of_length_le (by omega)] at this
    have he : decide (xs = ys) = true := decide_eq_true e
    exact gives_end0 (.inl rfl) (by rw [he]; rfl)
  simp only [hc, decide_true, ↓reduceIte]
  refine awp_skip ?_
  have hix : i < xs.length := by omega
  have hiy : i < ys.length := by omega
  have gx : xs[i]? = some xs[i] := List.getElem?_eq_getElem hix
  have gy : ys[i]? = some ys[i] := List.getElem?_eq_getElem hiy
  refine awp_seq ?_
  refine awp_block ?_
  refine awp_seq ?_
  -- region 7 drawn
  refine awp_drun [0, 0, 0, 1, 0, 0, 0, 1, 0] [0, 0, 3, 7, 0, 0, 48, 112, 255] mixed rfl (by kernel_rfl) (by simp only [fw0, fw1, fw2, fw3, fw4, fw5, fw6, fw7, ↓reduceIte, Nat.reduceAdd, Nat.reduceMul, Nat.reduceEqDiff, Nat.reduceLT, Nat.reduceLeDiff, reduceCtorEq, Bool.false_eq_true, Bool.not_true, Bool.not_false, and_self, Nat.le_refl, el71, ti121, eq121, Sl.fw, List.getElem?_map, gx, gy, Option.map_some, Int.natCast_nonneg, show ∀ s : Sl, s.enc = [.str s.name, .int .i64 s.n] from fun _ => rfl] <;> rfl) ?_
  refine awp_cond (by simp only [fw0, fw1, fw2, fw3, fw4, fw5, fw6, fw7, ↓reduceIte, Nat.reduceAdd, Nat.reduceMul, Nat.reduceEqDiff, Nat.reduceLT, Nat.reduceLeDiff, reduceCtorEq, Bool.false_eq_true, Bool.not_true, Bool.not_false, and_self, Nat.le_refl] <;> rfl) ?_
  by_cases hn : xs[i] = ys[i]
  rotate_left
  · have hb : (!(decide (xs[i].name = ys[i].name) && (decide (xs[i].n = ys[i].n) && true))) = true := by
      have : ¬ (xs[i].name = ys[i].name ∧ xs[i].n = ys[i].n) := fun ⟨h1, h2⟩ => hn (by
        cases hxi : xs[i]; cases hyi : ys[i]; rw [hxi, hyi] at h1 h2; simp_all)
      simp only [Bool.and_true, Bool.not_eq_true', Bool.and_eq_false_iff, decide_eq_false_iff_not]
      by_cases h1 : xs[i].name = ys[i].name
      · exact .inr fun h2 => this ⟨h1, h2⟩
      · exact .inl h1
    simp only [hb, ↓reduceIte]
    refine awp_seq ?_
    refine awp_run rfl (by simp only [fw0, fw1, fw2, fw3, fw4, fw5, fw6, fw7, ↓reduceIte, Nat.reduceAdd, Nat.reduceMul, Nat.reduceEqDiff, Nat.reduceLT, Nat.reduceLeDiff, reduceCtorEq, Bool.false_eq_true, Bool.not_true, Bool.not_false, and_self, Nat.le_refl] <;> rfl) ?_
    refine awp_ret ?_
    have hne : decide (xs = ys) = false := decide_eq_false fun e => hn (by
      have h2 : xs[i]? = ys[i]? := by rw [e]
      rw [gx, gy] at h2
      exact Option.some.inj h2)
    exact gives_end0 (.inl rfl) (by rw [hne]; rfl)
  simp only [hn, decide_true, Bool.and_true, Bool.not_true, Bool.false_eq_true, ↓reduceIte]
  refine awp_skip ?_
  -- region 6
  refine awp_run rfl (by simp only [fw0, fw1, fw2, fw3, fw4, fw5, fw6, fw7, ↓reduceIte, Nat.reduceAdd, Nat.reduceMul, Nat.reduceEqDiff, Nat.reduceLT, Nat.reduceLeDiff, reduceCtorEq, Bool.false_eq_true, Bool.not_true, Bool.not_false, and_self, Nat.le_refl] <;> rfl) ?_
  refine ⟨i + 1, by omega, ⟨by omega, ?_⟩, by rw [wrapS i (by omega)]; rfl, rfl, rfl⟩
  rw [List.take_add_one, List.take_add_one, gx, gy, hi.2, hn]

/-- What a name stands for: the last that was bound. -/
def lookV (l : List Bd) (nm : List UInt8) : Option Val := (l.reverse.find? fun b => decide (b.name = nm)).map (·.v)
def zeroV : Val := .mk 0 0 [] (.mk 0 [] 0 []) []
def lookP (l : List Bd) (nm : List UInt8) : PV := .tup [.agg ((lookV l nm).getD zeroV).enc, .bool (lookV l nm).isSome]

theorem lookV_take {l : List Bd} {nm : List UInt8} {i : Nat} (hi : i < l.length) : lookV (l.take (i + 1)) nm = if l[i].name = nm then some l[i].v else lookV (l.take i) nm := by
  have : l.take (i + 1) = l.take i ++ [l[i]] := by rw [List.take_add_one, List.getElem?_eq_getElem hi]; rfl
  unfold lookV
  rw [this, List.reverse_append]
  simp only [List.reverse_cons, List.reverse_nil, List.nil_append, List.singleton_append, List.find?_cons]
  by_cases e : l[i].name = nm <;> simp [e]

theorem predN (i : Nat) (h : i + 1 < 9223372036854775808) : IntKind.i64.wrap (((i + 1 : Nat) : Int) - 1) = (i : Int) := by
  rw [show (((i + 1 : Nat) : Int) - 1) = (i : Int) by omega]; exact wrapN i (by omega)

def zeroVP : List PV := [.int .i64 0, .int .i64 0, .str [], .int .i64 0, .str [], .int .i64 0, .vec [] true, .vec [] true]
theorem zeroVP_le : PV.leL zeroVP zeroV.enc := by
  simp [zeroVP, zeroV, Val.enc, Tm.enc, Tm.encs, Bd.encs, PV.le, PV.leL, PV.leLL]

def lookP0 (l : List Bd) (nm : List UInt8) : PV := .tup [.agg (((lookV l nm).map Val.enc).getD zeroVP), .bool (lookV l nm).isSome]
theorem lookP_le (l : List Bd) (nm : List UInt8) : PV.le (lookP0 l nm) (lookP l nm) := by
  unfold lookP0 lookP
  cases lookV l nm with
  | none => exact ⟨zeroVP_le, rfl, trivial⟩
  | some v => exact ⟨PV.leL_refl _, rfl, trivial⟩
theorem lookP_plain (l : List Bd) (nm : List UInt8) : (lookP0 l nm).plain = true := by
  unfold lookP0
  cases lookV l nm with
  | none => rfl
  | some v => simp [PV.plain, PV.bd, PV.bdL, Val.fw]

/-- One less. -/
def prd : Nat → Int
  | 0 => -1
  | i + 1 => i

theorem prd_pred (n : Nat) (h : n ≤ 9223372036854775807) : IntKind.i64.wrap ((n : Int) - 1) = prd n := by
  cases n with
  | zero => rfl
  | succ i => exact predN i (by omega)

/-- chancelref18.Look -/
theorem c46 (Γ : Nat → PV) (l : List Bd) (nm : List UInt8) : Gives Tryd.prog Γ 46 [.vec (l.map Bd.enc) false, .str nm] (lookP l nm) := by
  refine Gives.res (p := lookP0 l nm) ?_ (lookP_le l nm)
  refine fn_of_awp Tryd.func46 rfl (by simp [Tryd.f46]) (lookP_plain l nm) fun H => ?_
  refine awp_vlen 0 rfl fun hlen => ?_
  rw [List.length_map] at hlen
  refine awp_seq ?_
  -- region 0
  refine awp_run rfl (by simp only [fw0, fw1, fw2, fw3, fw4, fw5, fw6, fw7, ↓reduceIte, Nat.reduceAdd, Nat.reduceMul, Nat.reduceEqDiff, Nat.reduceLT, Nat.reduceLeDiff, reduceCtorEq, Bool.false_eq_true, Bool.not_true, Bool.not_false, and_self, Nat.le_refl, ti70] <;> rfl) ?_
  refine awp_seq ?_
  refine awp_seq ?_
  -- region 1
  refine awp_run rfl (by simp only [fw0, fw1, fw2, fw3, fw4, fw5, fw6, fw7, ↓reduceIte, Nat.reduceAdd, Nat.reduceMul, Nat.reduceEqDiff, Nat.reduceLT, Nat.reduceLeDiff, reduceCtorEq, Bool.false_eq_true, Bool.not_true, Bool.not_false, and_self, Nat.le_refl, un68, List.length_map] <;> rfl) ?_
  refine awp_block ?_
  refine awp_for [0, 1, 4, 6] (fun j : Nat => [.vec (l.map Bd.enc) false, .str nm, .ptr H.length 0, .int .i64 (prd j)]) (fun _ => H ++ [.box zeroVP]) (fun j => j)
    (fun j => j ≤ l.length ∧ lookV l nm = lookV (l.take j) nm) l.length (by rw [← prd_pred _ hlen]; rfl) rfl ⟨Nat.le_refl _, by rw [List.take_length]⟩ fun j hj => ?_
  cases j with
  | zero =>
    refine awp_seq ?_
    refine awp_seq ?_
    refine awp_run rfl (by simp only [fw0, fw1, fw2, fw3, fw4, fw5, fw6, fw7, ↓reduceIte, Nat.reduceAdd, Nat.reduceMul, Nat.reduceEqDiff, Nat.reduceLT, Nat.reduceLeDiff, reduceCtorEq, Bool.false_eq_true, Bool.not_true, Bool.not_false, and_self, Nat.le_refl, prd] <;> rfl) ?_
    refine awp_cond (by simp only [fw0, fw1, fw2, fw3, fw4, fw5, fw6, fw7, ↓reduceIte, Nat.reduceAdd, Nat.reduceMul, Nat.reduceEqDiff, Nat.reduceLT, Nat.reduceLeDiff, reduceCtorEq, Bool.false_eq_true, Bool.not_true, Bool.not_false, and_self, Nat.le_refl] <;> rfl) ?_
    simp only [show decide ((0 : Int) ≤ -1) = false from rfl, Bool.false_eq_true, ↓reduceIte]
    refine awp_exit ?_
    refine awp_seq ?_
    -- region 6
    refine awp_run rfl (by simp only [fw0, fw1, fw2, fw3, fw4, fw5, fw6, fw7, ↓reduceIte, Nat.reduceAdd, Nat.reduceMul, Nat.reduceEqDiff, Nat.reduceLT, Nat.reduceLeDiff, reduceCtorEq, Bool.false_eq_true, Bool.not_true, Bool.not_false, and_self, Nat.le_refl, ti70, pl70, zeroVP] <;> rfl) ?_
    refine awp_ret ?_
    have hz : lookV l nm = none := by rw [hj.2]; rfl
    exact gives_end (.inl rfl) _ (by simp [lookP0, hz, ares, aresL, ares1, alook, Tryd.f46, rd, ev, ti70, zeroVP])
  | succ i =>
    have hi : i < l.length := hj.1
    have ga : l[i]? = some l[i] := List.getElem?_eq_getElem hi
    refine awp_seq ?_
    refine awp_seq ?_
    refine awp_run rfl (by simp only [fw0, fw1, fw2, fw3, fw4, fw5, fw6, fw7, ↓reduceIte, Nat.reduceAdd, Nat.reduceMul, Nat.reduceEqDiff, Nat.reduceLT, Nat.reduceLeDiff, reduceCtorEq, Bool.false_eq_true, Bool.not_true, Bool.not_false, and_self, Nat.le_refl, prd] <;> rfl) ?_
    refine awp_cond (by simp only [fw0, fw1, fw2, fw3, fw4, fw5, fw6, fw7, ↓reduceIte, Nat.reduceAdd, Nat.reduceMul, Nat.reduceEqDiff, Nat.reduceLT, Nat.reduceLeDiff, reduceCtorEq, Bool.false_eq_true, Bool.not_true, Bool.not_false, and_self, Nat.le_refl] <;> rfl) ?_
    simp only [Int.natCast_nonneg, decide_true, ↓reduceIte]
    refine awp_skip ?_
    refine awp_seq ?_
    refine awp_block ?_
    refine awp_seq ?_
    -- region 4
    refine awp_run rfl (by simp only [fw0, fw1, fw2, fw3, fw4, fw5, fw6, fw7, ↓reduceIte, Nat.reduceAdd, Nat.reduceMul, Nat.reduceEqDiff, Nat.reduceLT, Nat.reduceLeDiff, reduceCtorEq, Bool.false_eq_true, Bool.not_true, Bool.not_false, and_self, Nat.le_refl, el68, fl120_0, ti9, Bd.fw, List.getElem?_map, ga, Option.map_some, Int.natCast_nonneg] <;> rfl) ?_
    refine awp_cond (by simp only [fw0, fw1, fw2, fw3, fw4, fw5, fw6, fw7, ↓reduceIte, Nat.reduceAdd, Nat.reduceMul, Nat.reduceEqDiff, Nat.reduceLT, Nat.reduceLeDiff, reduceCtorEq, Bool.false_eq_true, Bool.not_true, Bool.not_false, and_self, Nat.le_refl] <;> rfl) ?_
    by_cases hn : l[i].name = nm
    · simp only [hn, decide_true, ↓reduceIte]
      refine awp_seq ?_
      -- region 5
      refine awp_run rfl (by simp only [fw0, fw1, fw2, fw3, fw4, fw5, fw6, fw7, ↓reduceIte, Nat.reduceAdd, Nat.reduceMul, Nat.reduceEqDiff, Nat.reduceLT, Nat.reduceLeDiff, reduceCtorEq, Bool.false_eq_true, Bool.not_true, Bool.not_false, and_self, Nat.le_refl, el68, fl120_1, ti70, Bd.fw, Val.fw, List.getElem?_map, ga, Option.map_some, Int.natCast_nonneg, zeroVP] <;> rfl) ?_
      refine awp_ret ?_
      have hz : lookV l nm = some l[i].v := by rw [hj.2, lookV_take hi, if_pos hn]
      exact gives_end (.inl rfl) _ (by simp [lookP0, hz, ares, aresL, ares1, alook, Tryd.f46, rd, ev, ti70, Val.fw])
    simp only [hn, decide_false, Bool.false_eq_true, ↓reduceIte]
    refine awp_skip ?_
    -- region 3
    refine awp_run rfl (by simp only [fw0, fw1, fw2, fw3, fw4, fw5, fw6, fw7, ↓reduceIte, Nat.reduceAdd, Nat.reduceMul, Nat.reduceEqDiff, Nat.reduceLT, Nat.reduceLeDiff, reduceCtorEq, Bool.false_eq_true, Bool.not_true, Bool.not_false, and_self, Nat.le_refl] <;> rfl) ?_
    exact ⟨i, by omega, ⟨by omega, by rw [hj.2, lookV_take hi, if_neg hn]⟩, by rw [prd_pred i (by omega)]; rfl, rfl, rfl⟩

/-- chancelref18.Bind -/
theorem c48 (Γ : Nat → PV) (l : List Bd) (nm : List UInt8) (v : Val) (hl : l.length * 128 ≤ reachBytes) : Gives Tryd.prog Γ 48 [.vec (l.map Bd.enc) false, .str nm, .agg v.enc] (.vec ((l ++ [Bd.mk nm v]).map Bd.enc) false) := by
  refine fn_of_awp Tryd.func48 rfl (by simp [Tryd.f48]) rfl fun H => ?_
  refine awp_seq ?_
  -- region 0
  refine awp_run rfl (by simp only [fw0, fw1, fw2, fw3, fw4, fw5, fw6, fw7, ↓reduceIte, Nat.reduceAdd, Nat.reduceMul, Nat.reduceEqDiff, Nat.reduceLT, Nat.reduceLeDiff, reduceCtorEq, Bool.false_eq_true, Bool.not_true, Bool.not_false, and_self, Nat.le_refl] <;> rfl) ?_
  refine awp_seq ?_
  -- region 1 drawn
  refine awp_drawn [0, 3, 0, 4, 0, 0, 2, 0] [0, 1, 0, 0, 12, 28, 63, 127] mixed rfl (by kernel_rfl) ?_
  refine dops_run 1 (by simp only [fw0, fw1, fw2, fw3, fw4, fw5, fw6, fw7, ↓reduceIte, Nat.reduceAdd, Nat.reduceMul, Nat.reduceEqDiff, Nat.reduceLT, Nat.reduceLeDiff, reduceCtorEq, Bool.false_eq_true, Bool.not_true, Bool.not_false, and_self, Nat.le_refl] <;> rfl) ?_
  refine dops_appendNew rfl rfl (.inr rfl) (Nat.le_refl _) un68 ti120 un68 (.inl ⟨_, rfl⟩) (by decide) rfl (by simp only [fw0, fw1, fw2, fw3, fw4, fw5, fw6, fw7, ↓reduceIte, Nat.reduceAdd, Nat.reduceMul, Nat.reduceEqDiff, Nat.reduceLT, Nat.reduceLeDiff, reduceCtorEq, Bool.false_eq_true, Bool.not_true, Bool.not_false, and_self, Nat.le_refl] <;> rfl) (fun es f h e he => by
      simp only [fw0, fw1, fw2, fw3, fw4, fw5, fw6, fw7, ↓reduceIte, Nat.reduceAdd, Nat.reduceMul, Nat.reduceEqDiff, Nat.reduceLT, Nat.reduceLeDiff, reduceCtorEq, Bool.false_eq_true, Bool.not_true, Bool.not_false, and_self, Nat.le_refl, PV.vec.injEq] at h
      obtain ⟨rfl, rfl⟩ := h
      obtain ⟨x, _, rfl⟩ := List.mem_map.1 he
      exact Bd.enc_len x) (by simp only [fw0, fw1, fw2, fw3, fw4, fw5, fw6, fw7, ↓reduceIte, Nat.reduceAdd, Nat.reduceMul, Nat.reduceEqDiff, Nat.reduceLT, Nat.reduceLeDiff, reduceCtorEq, Bool.false_eq_true, Bool.not_true, Bool.not_false, and_self, Nat.le_refl] <;> rfl) (by unfold reachBytes at hl; rw [List.length_map]; show l.length * 128 ≤ _; omega) (by unfold reachBytes at hl; rw [List.length_map]; omega) ?_
  refine dops_run 4 (by simp only [fw0, fw1, fw2, fw3, fw4, fw5, fw6, fw7, ↓reduceIte, Nat.reduceAdd, Nat.reduceMul, Nat.reduceEqDiff, Nat.reduceLT, Nat.reduceLeDiff, reduceCtorEq, Bool.false_eq_true, Bool.not_true, Bool.not_false, and_self, Nat.le_refl, ti70, ti120, pl120, un68, Val.fw] <;> rfl) ?_
  refine dops_appendR rfl rfl rfl un68 ti120 un68 (.inl ⟨_, rfl⟩) rfl (by simp only [fw0, fw1, fw2, fw3, fw4, fw5, fw6, fw7, ↓reduceIte, Nat.reduceAdd, Nat.reduceMul, Nat.reduceEqDiff, Nat.reduceLT, Nat.reduceLeDiff, reduceCtorEq, Bool.false_eq_true, Bool.not_true, Bool.not_false, and_self, Nat.le_refl] <;> rfl) (by rw [flat_len Bd.enc_len, List.length_map]; exact (Nat.zero_add _).symm) (by simp only [fw0, fw1, fw2, fw3, fw4, fw5, fw6, fw7, ↓reduceIte, Nat.reduceAdd, Nat.reduceMul, Nat.reduceEqDiff, Nat.reduceLT, Nat.reduceLeDiff, reduceCtorEq, Bool.false_eq_true, Bool.not_true, Bool.not_false, and_self, Nat.le_refl] <;> rfl) (fun es f h e he => by
      simp only [fw0, fw1, fw2, fw3, fw4, fw5, fw6, fw7, ↓reduceIte, Nat.reduceAdd, Nat.reduceMul, Nat.reduceEqDiff, Nat.reduceLT, Nat.reduceLeDiff, reduceCtorEq, Bool.false_eq_true, Bool.not_true, Bool.not_false, and_self, Nat.le_refl, PV.vec.injEq] at h
      obtain ⟨rfl, rfl⟩ := h
      simp only [List.mem_singleton] at he
      subst he; simp only [fw0, fw1, fw2, fw3, fw4, fw5, fw6, fw7, ↓reduceIte, Nat.reduceAdd, Nat.reduceMul, Nat.reduceEqDiff, Nat.reduceLT, Nat.reduceLeDiff, reduceCtorEq, Bool.false_eq_true, Bool.not_true, Bool.not_false, and_self, Nat.le_refl, Val.fw]) (by simp only [fw0, fw1, fw2, fw3, fw4, fw5, fw6, fw7, ↓reduceIte, Nat.reduceAdd, Nat.reduceMul, Nat.reduceEqDiff, Nat.reduceLT, Nat.reduceLeDiff, reduceCtorEq, Bool.false_eq_true, Bool.not_true, Bool.not_false, and_self, Nat.le_refl] <;> rfl) (by unfold reachBytes at hl; rw [List.length_map]; show (l.length + 1) * 128 ≤ _; omega) (by unfold reachBytes at hl; rw [List.length_map]; show l.length + 1 ≤ _; omega) ?_
  refine dops_run 1 (by simp only [fw0, fw1, fw2, fw3, fw4, fw5, fw6, fw7, ↓reduceIte, Nat.reduceAdd, Nat.reduceMul, Nat.reduceEqDiff, Nat.reduceLT, Nat.reduceLeDiff, reduceCtorEq, Bool.false_eq_true, Bool.not_true, Bool.not_false, and_self, Nat.le_refl] <;> rfl) ?_
  refine dops_end ?_
  have hfl : ((l ++ [Bd.mk nm v]).map Bd.enc).flatten = (l.map Bd.enc).flatten ++ (PV.str nm :: v.enc) := by simp [Bd.enc_eq (Bd.mk nm v), Bd.name, Bd.v]
  refine awp_heap (H' := H ++ [.box v.enc, .row 9 (((l ++ [Bd.mk nm v]).map Bd.enc).flatten)]) (by rw [hfl]; simp) ?_
  refine awp_told (told_freezeAt H _ 1 (C := (((l ++ [Bd.mk nm v]).map Bd.enc).flatten)) rfl (flat_bd (fun b => by simp only [Bd.fw]) _)) ?_
  refine awp_ret (gives_end (.inl rfl) _ ?_)
  have hlf : (((l ++ [Bd.mk nm v]).map Bd.enc).flatten).length = (l.length + 1) * 9 := by rw [flat_len Bd.enc_len, List.length_append]; rfl
  have hch : chunk 9 (l.length + 1) (((l ++ [Bd.mk nm v]).map Bd.enc).flatten) = (l ++ [Bd.mk nm v]).map Bd.enc := by
    have := flat_chunk Bd.enc_len (l ++ [Bd.mk nm v])
    rwa [List.length_append] at this
  simp only [ares, aresL, ares1, alook, Tryd.f48, List.map_cons, frz, List.length_map, hlf, Nat.zero_add, and_self, ↓reduceIte, List.drop_zero, hch]

end Go.Proofs.YtnjlfbefpoecpaaDoor

/- The contracts of what the program writes to cells, and of its names. -/
namespace Go.Proofs.YtnjlfbefpoecpaaDoor
set_option linter.unusedVariables false
set_option linter.unusedSimpArgs false
set_option maxRecDepth 100000
open Go.RowKit Fw

/-- slices.Clone, of cells -/
theorem c85 (Γ : Nat → PV) (H : List Blk) (l : List Sl) (hne : l ≠ []) (hl24 : l.length * 24 ≤ reachBytes) :
    ACalls Tryd.prog Γ 85 [.vec (l.map Sl.enc) false] H (fun p H' => p = .row H.length 0 l.length 2 ∧ H' = H ++ [.row 2 ((l.map Sl.enc).flatten)]) := by
  refine acalls_of_awp Tryd.func85 rfl (by simp [Tryd.f85]) fun hbd => ?_
  refine awp_vlen 0 rfl fun hlen => ?_
  rw [List.length_map] at hlen
  refine awp_seq ?_
  refine awp_run rfl (by simp only [fw0, fw1, fw2, fw3, fw4, fw5, fw6, fw7, ↓reduceIte, Nat.reduceAdd, Nat.reduceMul, Nat.reduceEqDiff, Nat.reduceLT, Nat.reduceLeDiff, reduceCtorEq, Bool.false_eq_true, Bool.not_true, Bool.not_false, and_self, Nat.le_refl] <;> rfl) ?_
  refine awp_seq ?_
  refine awp_seq ?_
  -- region 1
  refine awp_region rfl ?_
  refine aops_run 1 (by simp only [fw0, fw1, fw2, fw3, fw4, fw5, fw6, fw7, ↓reduceIte, Nat.reduceAdd, Nat.reduceMul, Nat.reduceEqDiff, Nat.reduceLT, Nat.reduceLeDiff, reduceCtorEq, Bool.false_eq_true, Bool.not_true, Bool.not_false, and_self, Nat.le_refl] <;> rfl) ?_
  refine aops_one rfl (os_nilSlice rfl un45 rfl (.inl rfl) fun b p hb hp => ?_)
  obtain rfl : b = false := hb (by simpa using hne)
  obtain rfl : p = .bool false := by simpa [eqv] using hp.symm
  refine awp_cond (by simp only [fw0, fw1, fw2, fw3, fw4, fw5, fw6, fw7, ↓reduceIte, Nat.reduceAdd, Nat.reduceMul, Nat.reduceEqDiff, Nat.reduceLT, Nat.reduceLeDiff, reduceCtorEq, Bool.false_eq_true, Bool.not_true, Bool.not_false, and_self, Nat.le_refl] <;> rfl) ?_
  refine awp_skip ?_
  refine awp_seq ?_
  -- region 3
  refine awp_region rfl ?_
  refine aops_run 2 (by simp only [fw0, fw1, fw2, fw3, fw4, fw5, fw6, fw7, ↓reduceIte, Nat.reduceAdd, Nat.reduceMul, Nat.reduceEqDiff, Nat.reduceLT, Nat.reduceLeDiff, reduceCtorEq, Bool.false_eq_true, Bool.not_true, Bool.not_false, and_self, Nat.le_refl, un45, ti53] <;> rfl) ?_
  refine aops_one rfl (os_appendNew rfl un45 ti53 un45 (.inl ⟨_, rfl⟩) (by decide) rfl (by simp only [fw0, fw1, fw2, fw3, fw4, fw5, fw6, fw7, ↓reduceIte, Nat.reduceAdd, Nat.reduceMul, Nat.reduceEqDiff, Nat.reduceLT, Nat.reduceLeDiff, reduceCtorEq, Bool.false_eq_true, Bool.not_true, Bool.not_false, and_self, Nat.le_refl] <;> rfl) (fun es f h e he => by
      simp only [fw0, fw1, fw2, fw3, fw4, fw5, fw6, fw7, ↓reduceIte, Nat.reduceAdd, Nat.reduceMul, Nat.reduceEqDiff, Nat.reduceLT, Nat.reduceLeDiff, reduceCtorEq, Bool.false_eq_true, Bool.not_true, Bool.not_false, and_self, Nat.le_refl, PV.vec.injEq] at h
      obtain ⟨rfl, rfl⟩ := h
      obtain ⟨x, _, rfl⟩ := List.mem_map.1 he
      rfl) (by simp only [fw0, fw1, fw2, fw3, fw4, fw5, fw6, fw7, ↓reduceIte, Nat.reduceAdd, Nat.reduceMul, Nat.reduceEqDiff, Nat.reduceLT, Nat.reduceLeDiff, reduceCtorEq, Bool.false_eq_true, Bool.not_true, Bool.not_false, and_self, Nat.le_refl] <;> rfl) (by unfold reachBytes at hl24; rw [List.length_map]; show l.length * 24 ≤ _; omega) (by rw [List.length_map]; omega) ?_)
  refine aops_run 1 (by simp only [fw0, fw1, fw2, fw3, fw4, fw5, fw6, fw7, ↓reduceIte, Nat.reduceAdd, Nat.reduceMul, Nat.reduceEqDiff, Nat.reduceLT, Nat.reduceLeDiff, reduceCtorEq, Bool.false_eq_true, Bool.not_true, Bool.not_false, and_self, Nat.le_refl] <;> rfl) ?_
  refine awp_bd fun hbd' => ?_
  refine awp_ret ?_
  exact calls_at (p := .row H.length 0 l.length 2) (.inl rfl) hbd' (by simp [ares, aresL, ares1, alook, Tryd.f85]) (by simp [PV.bd]) (by simp) ⟨rfl, rfl⟩

/-- store.Write -/
theorem c80 (Γ : Nat → PV) (l : List Sl) (nm : List UInt8) (n : Int) (hl24 : l.length * 24 ≤ reachBytes) : Gives Tryd.prog Γ 80 [.vec (l.map Sl.enc) false, .str nm, .int .i64 n] (writeP l nm n) := by
  refine fn_of_awp Tryd.func80 rfl (by simp [Tryd.f80]) rfl fun H => ?_
  refine awp_seq ?_
  -- region 0
  refine awp_run rfl (by simp only [fw0, fw1, fw2, fw3, fw4, fw5, fw6, fw7, ↓reduceIte, Nat.reduceAdd, Nat.reduceMul, Nat.reduceEqDiff, Nat.reduceLT, Nat.reduceLeDiff, reduceCtorEq, Bool.false_eq_true, Bool.not_true, Bool.not_false, and_self, Nat.le_refl] <;> rfl) ?_
  refine awp_vlen 0 rfl fun hlen => ?_
  rw [List.length_map] at hlen
  refine awp_seq ?_
  -- region 1
  refine awp_region rfl ?_
  refine aops_run 2 (by simp only [fw0, fw1, fw2, fw3, fw4, fw5, fw6, fw7, ↓reduceIte, Nat.reduceAdd, Nat.reduceMul, Nat.reduceEqDiff, Nat.reduceLT, Nat.reduceLeDiff, reduceCtorEq, Bool.false_eq_true, Bool.not_true, Bool.not_false, and_self, Nat.le_refl] <;> rfl) ?_
  refine aops_fn rfl rfl rfl en79 (c79 Γ _ _) ?_
  refine aops_run 1 (by simp only [fw0, fw1, fw2, fw3, fw4, fw5, fw6, fw7, ↓reduceIte, Nat.reduceAdd, Nat.reduceMul, Nat.reduceEqDiff, Nat.reduceLT, Nat.reduceLeDiff, reduceCtorEq, Bool.false_eq_true, Bool.not_true, Bool.not_false, and_self, Nat.le_refl] <;> rfl) ?_
  refine awp_seq ?_
  refine awp_seq ?_
  -- region 2
  refine awp_run rfl (by simp only [fw0, fw1, fw2, fw3, fw4, fw5, fw6, fw7, ↓reduceIte, Nat.reduceAdd, Nat.reduceMul, Nat.reduceEqDiff, Nat.reduceLT, Nat.reduceLeDiff, reduceCtorEq, Bool.false_eq_true, Bool.not_true, Bool.not_false, and_self, Nat.le_refl] <;> rfl) ?_
  refine awp_cond (by simp only [fw0, fw1, fw2, fw3, fw4, fw5, fw6, fw7, ↓reduceIte, Nat.reduceAdd, Nat.reduceMul, Nat.reduceEqDiff, Nat.reduceLT, Nat.reduceLeDiff, reduceCtorEq, Bool.false_eq_true, Bool.not_true, Bool.not_false, and_self, Nat.le_refl] <;> rfl) ?_
  cases hf : fnd l nm with
  | none =>
    have e : fndI l nm = -1 := by unfold fndI; rw [hf]
    simp only [e, show decide ((-1 : Int) < 0) = true from rfl, ↓reduceIte]
    refine awp_seq (awp_run rfl (by simp only [fw0, fw1, fw2, fw3, fw4, fw5, fw6, fw7, ↓reduceIte, Nat.reduceAdd, Nat.reduceMul, Nat.reduceEqDiff, Nat.reduceLT, Nat.reduceLeDiff, reduceCtorEq, Bool.false_eq_true, Bool.not_true, Bool.not_false, and_self, Nat.le_refl] <;> rfl) (awp_ret ?_))
    exact gives_end0 (.inl rfl) (by simp [writeP, writeV, hf, ares, aresL, ares1, alook, Tryd.f80])
  | some i =>
    have e : fndI l nm = i := by unfold fndI; rw [hf]
    have hi := fnd_lt hf
    have ga : l[i]? = some l[i] := List.getElem?_eq_getElem hi
    have h0 : ¬ ((i : Int) < 0) := by omega
    simp only [e, h0, decide_false, Bool.false_eq_true, ↓reduceIte]
    refine awp_skip ?_
    refine awp_seq ?_
    -- region 4
    refine awp_region rfl ?_
    refine aops_run 1 (by simp only [fw0, fw1, fw2, fw3, fw4, fw5, fw6, fw7, ↓reduceIte, Nat.reduceAdd, Nat.reduceMul, Nat.reduceEqDiff, Nat.reduceLT, Nat.reduceLeDiff, reduceCtorEq, Bool.false_eq_true, Bool.not_true, Bool.not_false, and_self, Nat.le_refl] <;> rfl) ?_
    refine aops_call rfl rfl rfl en85 ((c85 Γ _ l (fun h => by subst h; simp at hi) hl24).mono fun p H' hp => ?_)
    obtain ⟨rfl, rfl⟩ := hp
    refine aops_run 1 (by simp only [fw0, fw1, fw2, fw3, fw4, fw5, fw6, fw7, ↓reduceIte, Nat.reduceAdd, Nat.reduceMul, Nat.reduceEqDiff, Nat.reduceLT, Nat.reduceLeDiff, reduceCtorEq, Bool.false_eq_true, Bool.not_true, Bool.not_false, and_self, Nat.le_refl] <;> rfl) ?_
    refine awp_seq ?_
    -- region 5
    refine awp_region rfl ?_
    refine aops_run 3 (by simp only [fw0, fw1, fw2, fw3, fw4, fw5, fw6, fw7, ↓reduceIte, Nat.reduceAdd, Nat.reduceMul, Nat.reduceEqDiff, Nat.reduceLT, Nat.reduceLeDiff, reduceCtorEq, Bool.false_eq_true, Bool.not_true, Bool.not_false, and_self, Nat.le_refl, e] <;> rfl) ?_
    refine aops_one rfl (os_index_row (sz := 2) rfl el45 rfl rfl (by simp only [fw0, fw1, fw2, fw3, fw4, fw5, fw6, fw7, ↓reduceIte, Nat.reduceAdd, Nat.reduceMul, Nat.reduceEqDiff, Nat.reduceLT, Nat.reduceLeDiff, reduceCtorEq, Bool.false_eq_true, Bool.not_true, Bool.not_false, and_self, Nat.le_refl] <;> rfl) (by rw [flat_len Sl.enc_len]; exact (Nat.zero_add _).symm) (by omega) (by omega) ?_)
    refine aops_run 1 (by simp only [fw0, fw1, fw2, fw3, fw4, fw5, fw6, fw7, ↓reduceIte, Nat.reduceAdd, Nat.reduceMul, Nat.reduceEqDiff, Nat.reduceLT, Nat.reduceLeDiff, reduceCtorEq, Bool.false_eq_true, Bool.not_true, Bool.not_false, and_self, Nat.le_refl, fl53_1] <;> rfl) ?_
    refine aops_one rfl (os_storeE rfl ti2 rfl (by simp only [fw0, fw1, fw2, fw3, fw4, fw5, fw6, fw7, ↓reduceIte, Nat.reduceAdd, Nat.reduceMul, Nat.reduceEqDiff, Nat.reduceLT, Nat.reduceLeDiff, reduceCtorEq, Bool.false_eq_true, Bool.not_true, Bool.not_false, and_self, Nat.le_refl] <;> rfl) rfl rfl rfl (by rw [flat_len Sl.enc_len]; simp only [Int.toNat_natCast]; omega) (by decide) ?_)
    refine awp_seq ?_
    have hfl := Sl.flat_set l i n hi
    rw [fnd_name hf] at hfl
    refine awp_heap (H' := H ++ [.row 2 (((l.set i ⟨nm, n⟩).map Sl.enc).flatten)]) (by rw [← hfl]; simp only [fw0, fw1, fw2, fw3, fw4, fw5, fw6, fw7, ↓reduceIte, Nat.reduceAdd, Nat.reduceMul, Nat.reduceEqDiff, Nat.reduceLT, Nat.reduceLeDiff, reduceCtorEq, Bool.false_eq_true, Bool.not_true, Bool.not_false, and_self, Nat.le_refl]) ?_
    refine awp_told (told_freezeAt H _ 0 (C := (((l.set i ⟨nm, n⟩).map Sl.enc).flatten)) rfl (flat_bd (fun _ => rfl) _)) ?_
    have hl : (((l.set i ⟨nm, n⟩).map Sl.enc).flatten).length = l.length * 2 := by rw [flat_len Sl.enc_len, List.length_set]
    have hch : chunk 2 l.length (((l.set i ⟨nm, n⟩).map Sl.enc).flatten) = (l.set i ⟨nm, n⟩).map Sl.enc := by
      have := flat_chunk Sl.enc_len (l.set i ⟨nm, n⟩)
      rwa [List.length_set] at this
    refine awp_run rfl (by simp only [fw0, fw1, fw2, fw3, fw4, fw5, fw6, fw7, ↓reduceIte, Nat.reduceAdd, Nat.reduceMul, Nat.reduceEqDiff, Nat.reduceLT, Nat.reduceLeDiff, reduceCtorEq, Bool.false_eq_true, Bool.not_true, Bool.not_false, and_self, Nat.le_refl, hl, hch] <;> rfl) ?_
    refine awp_ret ?_
    refine gives_end (.inl rfl) _ ?_
    simp [writeP, writeV, hf, ares, aresL, ares1, alook, Tryd.f80]

/-- slices.Backward, of names -/
theorem c70 (Γ : Nat → PV) (H : List Blk) (l : List Bd) : ACalls Tryd.prog Γ 70 [.vec (l.map Bd.enc) false] H (fun p H' => p = .func (.func 78) [] [.ptr H.length 0] ∧ H' = H ++ [.box [.vec (l.map Bd.enc) false]]) := by
  refine acalls_of_awp Tryd.func70 rfl (by simp [Tryd.f70]) fun hbd => ?_
  refine awp_seq ?_
  refine awp_run rfl (by simp only [fw0, fw1, fw2, fw3, fw4, fw5, fw6, fw7, ↓reduceIte, Nat.reduceAdd, Nat.reduceMul, Nat.reduceEqDiff, Nat.reduceLT, Nat.reduceLeDiff, reduceCtorEq, Bool.false_eq_true, Bool.not_true, Bool.not_false, and_self, Nat.le_refl] <;> rfl) ?_
  refine awp_seq ?_
  refine awp_run rfl (by simp only [fw0, fw1, fw2, fw3, fw4, fw5, fw6, fw7, ↓reduceIte, Nat.reduceAdd, Nat.reduceMul, Nat.reduceEqDiff, Nat.reduceLT, Nat.reduceLeDiff, reduceCtorEq, Bool.false_eq_true, Bool.not_true, Bool.not_false, and_self, Nat.le_refl] <;> rfl) ?_
  refine awp_bd fun hbd' => ?_
  refine awp_ret ?_
  exact calls_at (p := .func (.func 78) [] [.ptr H.length 0]) (.inl rfl) hbd' rfl (by simp [PV.bd, PV.bdL]) (by simp) ⟨rfl, rfl⟩

/-- What Backward hands on: the last one first. -/
def bwd (l : List Bd) : List (List PV) := (List.range l.length).map fun k => [.int .i64 (prd (l.length - k)), .agg (((l.reverse)[k]?).map Bd.enc |>.getD [])]

theorem bwd_at {l : List Bd} {k : Nat} {x : List PV} (h : (bwd l)[k]? = some x) : ∃ hk : k < l.length, x = [.int .i64 ((l.length - (k + 1) : Nat) : Int), .agg (l[l.length - (k + 1)]).enc] := by
  unfold bwd at h
  rw [List.getElem?_map] at h
  obtain ⟨j, hj, rfl⟩ := Option.map_eq_some_iff.1 h
  have hk : k < l.length := by
    have := (List.getElem?_eq_some_iff.1 hj).1
    simpa using this
  rw [List.getElem?_range hk] at hj
  obtain rfl := Option.some.inj hj
  refine ⟨hk, ?_⟩
  have hr : l.reverse[k]? = some l[l.length - (k + 1)] := by
    rw [List.getElem?_reverse hk, show l.length - 1 - k = l.length - (k + 1) by omega]
    exact List.getElem?_eq_getElem (by omega)
  have hp : prd (l.length - k) = ((l.length - (k + 1) : Nat) : Int) := by
    rw [show l.length - k = (l.length - (k + 1)) + 1 by omega]; rfl
  rw [hr, hp]
  rfl
theorem bwd_len (l : List Bd) : (bwd l).length = l.length := by simp [bwd]

/-- slices.Backward's iterator -/
theorem c78 (Γ : Nat → PV) (b : Nat) (l : List Bd) : AIter Tryd.prog Γ 78 [.ptr b 0] (fun Hb => Hb[b]? = some (.box [.vec (l.map Bd.enc) false])) 2 (bwd l) := by
  intro lb n0 Inv Stop hI Hb hInv
  refine acalls_of_awp Tryd.func78 rfl (by simp [Tryd.f78]) fun hbd => ?_
  obtain ⟨hneed, hn0, rec, cs, hl0, hpar, _⟩ := hI 0 Hb hInv
  refine awp_seq ?_
  refine awp_run rfl (by simp only [fw0, fw1, fw2, fw3, fw4, fw5, fw6, fw7, ↓reduceIte, Nat.reduceAdd, Nat.reduceMul, Nat.reduceEqDiff, Nat.reduceLT, Nat.reduceLeDiff, reduceCtorEq, Bool.false_eq_true, Bool.not_true, Bool.not_false, and_self, Nat.le_refl, ti42, un42, hneed, List.length_map] <;> rfl) ?_
  refine awp_vlen 4 rfl fun hlen => ?_
  rw [List.length_map] at hlen
  refine awp_block ?_
  refine awp_for [0, 1, 3] (fun s : Nat × List Blk => [.yld lb, .ptr b 0, .int .i64 (prd (l.length - s.1))]) (fun s => s.2) (fun s => l.length - s.1) (fun s => s.1 ≤ l.length ∧ Inv s.1 s.2) (0, Hb) (by rw [Nat.sub_zero, ← prd_pred _ hlen]; rfl) rfl ⟨Nat.zero_le _, hInv⟩ fun s hs => ?_
  obtain ⟨k, Hk⟩ := s
  obtain ⟨hk, hInvk⟩ := hs
  simp only at hk hInvk ⊢
  obtain ⟨hneedk, hnk, reck, csk, hlk, hpark, hround⟩ := hI k Hk hInvk
  by_cases hkl : k = l.length
  · subst hkl
    rw [Nat.sub_self]
    refine awp_seq ?_
    refine awp_seq ?_
    refine awp_run rfl (by simp only [fw0, fw1, fw2, fw3, fw4, fw5, fw6, fw7, ↓reduceIte, Nat.reduceAdd, Nat.reduceMul, Nat.reduceEqDiff, Nat.reduceLT, Nat.reduceLeDiff, reduceCtorEq, Bool.false_eq_true, Bool.not_true, Bool.not_false, and_self, Nat.le_refl, prd] <;> rfl) ?_
    refine awp_cond (by simp only [fw0, fw1, fw2, fw3, fw4, fw5, fw6, fw7, ↓reduceIte, Nat.reduceAdd, Nat.reduceMul, Nat.reduceEqDiff, Nat.reduceLT, Nat.reduceLeDiff, reduceCtorEq, Bool.false_eq_true, Bool.not_true, Bool.not_false, and_self, Nat.le_refl] <;> rfl) ?_
    simp only [show decide ((0 : Int) ≤ -1) = false from rfl, Bool.false_eq_true, ↓reduceIte]
    refine awp_bd fun hbd' => ?_
    refine awp_exit ?_
    simp only [Post.block, Post.then, ↓reduceIte]
    refine calls_at (p := .tup []) (.inr rfl) hbd' rfl rfl ?_ ?_
    · omega
    · exact .inl (by rw [bwd_len]; exact hInvk)
  have hk' : k < l.length := by omega
  have hp : prd (l.length - k) = ((l.length - (k + 1) : Nat) : Int) := by
    rw [show l.length - k = (l.length - (k + 1)) + 1 by omega]; rfl
  rw [hp]
  have hi : l.length - (k + 1) < l.length := by omega
  have ga : l[l.length - (k + 1)]? = some l[l.length - (k + 1)] := List.getElem?_eq_getElem hi
  refine awp_seq ?_
  refine awp_seq ?_
  refine awp_run rfl (by simp only [fw0, fw1, fw2, fw3, fw4, fw5, fw6, fw7, ↓reduceIte, Nat.reduceAdd, Nat.reduceMul, Nat.reduceEqDiff, Nat.reduceLT, Nat.reduceLeDiff, reduceCtorEq, Bool.false_eq_true, Bool.not_true, Bool.not_false, and_self, Nat.le_refl] <;> rfl) ?_
  refine awp_cond (by simp only [fw0, fw1, fw2, fw3, fw4, fw5, fw6, fw7, ↓reduceIte, Nat.reduceAdd, Nat.reduceMul, Nat.reduceEqDiff, Nat.reduceLT, Nat.reduceLeDiff, reduceCtorEq, Bool.false_eq_true, Bool.not_true, Bool.not_false, and_self, Nat.le_refl] <;> rfl) ?_
  simp only [Int.natCast_nonneg, decide_true, ↓reduceIte]
  refine awp_skip ?_
  refine awp_seq ?_
  refine awp_block ?_
  refine awp_seq ?_
  -- region 3
  refine awp_region rfl ?_
  refine aops_run 6 (by simp only [fw0, fw1, fw2, fw3, fw4, fw5, fw6, fw7, ↓reduceIte, Nat.reduceAdd, Nat.reduceMul, Nat.reduceEqDiff, Nat.reduceLT, Nat.reduceLeDiff, reduceCtorEq, Bool.false_eq_true, Bool.not_true, Bool.not_false, and_self, Nat.le_refl, ti42, el42, ti99, Bd.fw, hneedk, List.getElem?_map, ga, Option.map_some, Int.natCast_nonneg] <;> rfl) ?_
  have hx : (bwd l)[k]? = some [.int .i64 ((l.length - (k + 1) : Nat) : Int), .agg (l[l.length - (k + 1)]).enc] := by
    obtain ⟨x, hx⟩ : ∃ x, (bwd l)[k]? = some x := ⟨_, List.getElem?_eq_getElem (by rw [bwd_len]; exact hk')⟩
    obtain ⟨_, rfl⟩ := bwd_at hx
    exact hx
  have hr := hround _ [] hx
  rw [List.append_nil] at hr
  refine aops_one rfl (os_yield rfl rfl hlk (by rw [hpark]; rfl) (hr.mono fun bo H' hq => ?_))
  obtain ⟨Hb', rfl, hq⟩ := hq
  rw [List.append_nil]
  refine aops_run 1 (by simp only [fw0, fw1, fw2, fw3, fw4, fw5, fw6, fw7, ↓reduceIte, Nat.reduceAdd, Nat.reduceMul, Nat.reduceEqDiff, Nat.reduceLT, Nat.reduceLeDiff, reduceCtorEq, Bool.false_eq_true, Bool.not_true, Bool.not_false, and_self, Nat.le_refl] <;> rfl) ?_
  refine awp_cond (by simp only [fw0, fw1, fw2, fw3, fw4, fw5, fw6, fw7, ↓reduceIte, Nat.reduceAdd, Nat.reduceMul, Nat.reduceEqDiff, Nat.reduceLT, Nat.reduceLeDiff, reduceCtorEq, Bool.false_eq_true, Bool.not_true, Bool.not_false, and_self, Nat.le_refl] <;> rfl) ?_
  cases bo with
  | false =>
    simp only [Bool.false_eq_true, ↓reduceIte] at hq
    refine awp_bd fun hbd' => ?_
    refine awp_ret ?_
    simp only [Post.block, Post.then]
    refine calls_at (p := .tup []) (.inl rfl) hbd' rfl rfl ?_ ?_
    · omega
    · exact .inr hq
  | true =>
    simp only [↓reduceIte] at hq
    refine awp_skip ?_
    refine awp_run rfl (by simp only [fw0, fw1, fw2, fw3, fw4, fw5, fw6, fw7, ↓reduceIte, Nat.reduceAdd, Nat.reduceMul, Nat.reduceEqDiff, Nat.reduceLT, Nat.reduceLeDiff, reduceCtorEq, Bool.false_eq_true, Bool.not_true, Bool.not_false, and_self, Nat.le_refl] <;> rfl) ?_
    exact ⟨(k + 1, Hb'), by simp only; omega, ⟨by simp only; omega, hq⟩, by rw [prd_pred _ (by omega)]; rfl, rfl, rfl⟩

end Go.Proofs.YtnjlfbefpoecpaaDoor

/- The contract of what the program finds a name to stand for. -/
namespace Go.Proofs.YtnjlfbefpoecpaaDoor
set_option linter.unusedVariables false
set_option linter.unusedSimpArgs false
set_option maxRecDepth 100000
open Go.RowKit Fw

/-- store.Look -/
theorem c62 (Γ : Nat → PV) (l : List Bd) (nm : List UInt8) : Gives Tryd.prog Γ 62 [.vec (l.map Bd.enc) false, .str nm] (lookP l nm) := by
  refine Gives.res (p := lookP0 l nm) ?_ (lookP_le l nm)
  refine fn_of_awp Tryd.func62 rfl (by simp [Tryd.f62]) (lookP_plain l nm) fun H => ?_
  refine awp_seq ?_
  -- region 0
  refine awp_run rfl (by simp only [fw0, fw1, fw2, fw3, fw4, fw5, fw6, fw7, ↓reduceIte, Nat.reduceAdd, Nat.reduceMul, Nat.reduceEqDiff, Nat.reduceLT, Nat.reduceLeDiff, reduceCtorEq, Bool.false_eq_true, Bool.not_true, Bool.not_false, and_self, Nat.le_refl, ti44, ti4] <;> rfl) ?_
  refine awp_seq ?_
  refine awp_seq ?_
  -- region 1
  refine awp_region rfl ?_
  refine aops_run 1 (by simp only [fw0, fw1, fw2, fw3, fw4, fw5, fw6, fw7, ↓reduceIte, Nat.reduceAdd, Nat.reduceMul, Nat.reduceEqDiff, Nat.reduceLT, Nat.reduceLeDiff, reduceCtorEq, Bool.false_eq_true, Bool.not_true, Bool.not_false, and_self, Nat.le_refl] <;> rfl) ?_
  refine aops_call rfl rfl rfl en70 ((c70 Γ _ l).mono fun p H' hp => ?_)
  obtain ⟨rfl, rfl⟩ := hp
  refine awp_block ?_
  refine awp_heap (H' := H ++ [.box [.str nm], .box zeroVP, .box [.bool false], .box [.vec (l.map Bd.enc) false]]) (by simp [zeroVP]) ?_
  refine awp_rangeFunc (gf := 78) (caps := [.ptr (H.length + 3) 0]) (by simp only [fw0, fw1, fw2, fw3, fw4, fw5, fw6, fw7, ↓reduceIte, Nat.reduceAdd, Nat.reduceMul, Nat.reduceEqDiff, Nat.reduceLT, Nat.reduceLeDiff, reduceCtorEq, Bool.false_eq_true, Bool.not_true, Bool.not_false, and_self, Nat.le_refl] <;> rfl) en78 (c78 Γ (H.length + 3) l) (by simp [Tryd.f62])
    (fun i Hf => Hf = H ++ [.box [.str nm], .box zeroVP, .box [.bool false], .box [.vec (l.map Bd.enc) false]] ∧ lookV l nm = lookV (l.take (l.length - i)) nm)
    (fun c Hf => c = .ret ∧ ∃ v : Val, lookV l nm = some v ∧ Hf = H ++ [.box [.str nm], .box v.enc, .box [.bool true], .box [.vec (l.map Bd.enc) false]])
    ⟨rfl, by simp⟩ ?_ ?_ ?_ ?_
  · rintro i Hf ⟨rfl, _⟩
    exact ⟨rfl, fun L => by rw [List.append_assoc, Fw.get_at]; rfl⟩
  · rintro i x Hf L L' ro hx ⟨rfl, hj⟩ hL hL' hbd hbd'
    obtain ⟨hk, rfl⟩ := bwd_at hx
    have hi : l.length - (i + 1) < l.length := by omega
    have hjn : lookV l nm = if l[l.length - (i + 1)].name = nm then some l[l.length - (i + 1)].v else lookV (l.take (l.length - (i + 1))) nm := by
      rw [hj, show l.length - i = (l.length - (i + 1)) + 1 by omega]
      exact lookV_take hi
    generalize hbb : l[l.length - (i + 1)] = bb at hjn ⊢
    refine awp_less (A' := [(3, .ptr H.length 0), (4, .ptr (H.length + 1) 0), (5, .ptr (H.length + 2) 0), (11, .agg bb.enc)]) (fun t => zip_look [3, 4, 5, 11] [.ptr H.length 0, .ptr (H.length + 1) 0, .ptr (H.length + 2) 0, .agg bb.enc] t _ rfl) ?_
    generalize hK : H ++ [Blk.box [.str nm], .box zeroVP, .box [.bool false], .box [.vec (l.map Bd.enc) false]] ++ L = K
    have hKl : K.length = H.length + 4 + L.length := by rw [← hK]; simp; omega
    -- region 2
    refine awp_run rfl (by simp only [fw0, fw1, fw2, fw3, fw4, fw5, fw6, fw7, ↓reduceIte, Nat.reduceAdd, Nat.reduceMul, Nat.reduceEqDiff, Nat.reduceLT, Nat.reduceLeDiff, reduceCtorEq, Bool.false_eq_true, Bool.not_true, Bool.not_false, and_self, Nat.le_refl, ti99, Bd.fw] <;> rfl) ?_
    refine ⟨rfl, H ++ [.box [.str nm], .box zeroVP, .box [.bool false], .box [.vec (l.map Bd.enc) false]], [.box bb.enc], by simp, by rw [hK], ?_⟩
    generalize hK2 : H ++ [Blk.box [.str nm], .box zeroVP, .box [.bool false], .box [.vec (l.map Bd.enc) false]] ++ L' ++ [.box bb.enc] = K2
    have hK2' : K2 = H ++ ([Blk.box [.str nm], .box zeroVP, .box [.bool false], .box [.vec (l.map Bd.enc) false]] ++ (L' ++ [.box bb.enc])) := by rw [← hK2]; simp
    have g0 : K2[H.length]? = some (.box [.str nm]) := by rw [hK2', Fw.get_at0]; rfl
    have g1 : K2[H.length + 1]? = some (.box zeroVP) := by rw [hK2', Fw.get_at]; rfl
    have g2 : ∀ B, (K2.set (H.length + 1) B)[H.length + 2]? = some (.box [.bool false]) := fun B => by
      rw [List.getElem?_set_ne (by omega), hK2', Fw.get_at]; rfl
    have g7 : K2[K.length]? = some (.box bb.enc) := by
      rw [← hK2, hKl, ← hL']
      rw [List.getElem?_append_right (by simp; omega)]
      rw [show H.length + 4 + L'.length - (H ++ [Blk.box [.str nm], .box zeroVP, .box [.bool false], .box [.vec (l.map Bd.enc) false]] ++ L').length = 0 by simp; omega]
      rfl
    refine awp_block ?_
    refine awp_seq ?_
    -- region 3
    refine awp_run rfl (by simp only [fw0, fw1, fw2, fw3, fw4, fw5, fw6, fw7, ↓reduceIte, Nat.reduceAdd, Nat.reduceMul, Nat.reduceEqDiff, Nat.reduceLT, Nat.reduceLeDiff, reduceCtorEq, Bool.false_eq_true, Bool.not_true, Bool.not_false, and_self, Nat.le_refl, fl99_0, ti9, Bd.fw, g0, g7] <;> rfl) ?_
    refine awp_cond (by simp only [fw0, fw1, fw2, fw3, fw4, fw5, fw6, fw7, ↓reduceIte, Nat.reduceAdd, Nat.reduceMul, Nat.reduceEqDiff, Nat.reduceLT, Nat.reduceLeDiff, reduceCtorEq, Bool.false_eq_true, Bool.not_true, Bool.not_false, and_self, Nat.le_refl] <;> rfl) ?_
    by_cases hn : bb.name = nm
    · simp only [hn, decide_true, ↓reduceIte]
      rw [if_pos hn] at hjn
      refine awp_seq ?_
      -- region 4
      refine awp_run rfl (by simp only [fw0, fw1, fw2, fw3, fw4, fw5, fw6, fw7, ↓reduceIte, Nat.reduceAdd, Nat.reduceMul, Nat.reduceEqDiff, Nat.reduceLT, Nat.reduceLeDiff, reduceCtorEq, Bool.false_eq_true, Bool.not_true, Bool.not_false, and_self, Nat.le_refl, fl99_1, ti44, ti4, Bd.fw, Val.fw, g7, g1, g2, show zeroVP.length = 8 from rfl] <;> rfl) ?_
      refine awp_ret ?_
      refine ⟨H ++ [.box [.str nm], .box bb.v.enc, .box [.bool true], .box [.vec (l.map Bd.enc) false]], [.box bb.enc], by simp, ?_, ?_, by first | exact rfl | exact trivial, bb.v, hjn, rfl⟩
      · rw [hK2', Fw.set_at, Fw.set_at]
        simp [zeroVP]
      · intro B hB
        rcases List.mem_append.1 hB with hB | hB
        · have := hbd B (by simp [hB])
          rw [List.length_append, ← hL'] at this
          exact this
        · simp only [List.mem_cons, List.not_mem_nil, or_false] at hB
          rcases hB with rfl | rfl | rfl | rfl <;> simp [Blk.bd, PV.bdL, PV.bd, Val.fw, zeroVP]
    · simp only [hn, decide_false, Bool.false_eq_true, ↓reduceIte]
      rw [if_neg hn] at hjn
      refine awp_skip ?_
      refine ⟨H ++ [.box [.str nm], .box zeroVP, .box [.bool false], .box [.vec (l.map Bd.enc) false]], [.box bb.enc], by simp, hK2.symm, ?_, ?_⟩
      rotate_left
      · exact ⟨rfl, hjn⟩
      · intro B hB
        rcases List.mem_append.1 hB with hB | hB
        · have := hbd B (by simp [hB])
          rw [List.length_append, ← hL'] at this
          exact this
        · simp only [List.mem_cons, List.not_mem_nil, or_false] at hB
          rcases hB with rfl | rfl | rfl | rfl <;> simp [Blk.bd, PV.bdL, PV.bd, Val.fw, zeroVP]
  · rintro Hf B ⟨rfl, hj⟩
    have hz : lookV l nm = none := by rw [hj, bwd_len, Nat.sub_self]; rfl
    simp only [Post.block, Post.then]
    refine awp_heap (H' := H ++ [.box [.str nm], .box zeroVP, .box [.bool false], .box [.vec (l.map Bd.enc) false], .dfr, B]) (by simp) ?_
    refine awp_seq ?_
    -- region 5
    refine awp_run rfl (by simp only [fw0, fw1, fw2, fw3, fw4, fw5, fw6, fw7, ↓reduceIte, Nat.reduceAdd, Nat.reduceMul, Nat.reduceEqDiff, Nat.reduceLT, Nat.reduceLeDiff, reduceCtorEq, Bool.false_eq_true, Bool.not_true, Bool.not_false, and_self, Nat.le_refl, ti44, pl44, ti4, zeroVP] <;> rfl) ?_
    refine awp_ret ?_
    refine ⟨.inl rfl, by simp, fun b hb => ?_, ?_, _, rfl⟩
    · simp only [List.mem_singleton] at hb
      subst hb
      exact ⟨by rw [List.length_append, Fw.get_at]; rfl, by simp⟩
    · simp [lookP0, hz, ares, aresL, ares1, alook, Tryd.f62, rd, ev, ti44, ti4, zeroVP]
  · rintro c Hf B ⟨rfl, v, hv, rfl⟩ _
    refine awp_heap (H' := H ++ [.box [.str nm], .box v.enc, .box [.bool true], .box [.vec (l.map Bd.enc) false], .dfr, B]) (by simp) ?_
    refine awp_ret ?_
    refine ⟨.inl rfl, by simp, fun b hb => ?_, ?_, _, rfl⟩
    · simp only [List.mem_singleton] at hb
      subst hb
      exact ⟨by rw [List.length_append, Fw.get_at]; rfl, by simp⟩
    · simp [lookP0, hv, aput, ares, aresL, ares1, alook, Tryd.f62, rd, ev, ti44, ti4, Val.fw]

end Go.Proofs.YtnjlfbefpoecpaaDoor

/- What a run of a term comes to: plain, without the program. -/
namespace Go.Proofs.YtnjlfbefpoecpaaDoor
set_option linter.unusedVariables false
set_option linter.unusedSimpArgs false
set_option maxRecDepth 100000
open Go.RowKit Fw

def I64 (n : Int) : Prop := -9223372036854775808 ≤ n ∧ n ≤ 9223372036854775807

/-- How a run ends: its status, a value, the cells, the fuel that is left. -/
structure Res where
  st : Int
  v : Val
  c : List Sl
  f : Int

def zeroT : Tm := .mk 0 [] 0 []
def kid (t : Tm) (i : Nat) : Tm := t.kids.getD i zeroT
def funV (nm : List UInt8) (t : Tm) (env : List Bd) : Val := .mk 3 0 nm t env
def kidsOf : List Int := [-1, 0, 0, 1, 2, 2, 3, 2, 1, 2, 1, 2, 2, 2]
/-- As many kids as its kind has. -/
def right (t : Tm) : Prop := 0 ≤ t.kind ∧ t.kind < 14 ∧ kidsOf.getD t.kind.toNat 0 = t.kids.length
instance (t : Tm) : Decidable (right t) := inferInstanceAs (Decidable (_ ∧ _))

def stuckR (c : List Sl) (f : Int) : Res := ⟨3, zeroV, c, f⟩

abbrev Runner := Tm → List Bd → List Sl → Int → Res

/-- Behind both kids. -/
def bothR (rn : Runner) (t : Tm) (a b : Val) (c : List Sl) (f : Int) : Res :=
  if t.kind = 4 then (if a.kind = 3 then rn a.t (a.env ++ [.mk a.name b]) c f else stuckR c f)
  else if t.kind = 11 then (if (writeV c a.name b.n).isSome = true ∧ a.kind = 2 ∧ b.kind = 1 then ⟨1, wholeV 0, (writeV c a.name b.n).getD c, f⟩ else stuckR c f)
  else if (doV t.name a.n b.n).isSome = true ∧ a.kind = 1 ∧ b.kind = 1 then ⟨1, wholeV ((doV t.name a.n b.n).getD 0), c, f⟩ else stuckR c f

/-- Behind the first kid, which has a value. -/
def behindR (rn : Runner) (t : Tm) (env : List Bd) (a : Val) (c : List Sl) (f : Int) : Res :=
  if t.kind = 5 then rn (kid t 1) (env ++ [.mk t.name a]) c f
  else if t.kind = 13 then rn (kid t 1) env c f
  else if t.kind = 6 then (if a.kind = 1 then (if a.n = 0 then rn (kid t 2) env c f else rn (kid t 1) env c f) else stuckR c f)
  else if t.kind = 8 then (if a.kind = 1 then ⟨2, a, c, f⟩ else stuckR c f)
  else if t.kind = 10 then (if (readV c a.name).isSome = true ∧ a.kind = 2 then ⟨1, wholeV ((readV c a.name).getD 0), c, f⟩ else stuckR c f)
  else
    let b := rn (kid t 1) env c f
    if b.st = 1 then bothR rn t a b.v b.c b.f else b

/-- A loop, whose first round's fuel is taken. -/
def loopR (rn : Runner) (t : Tm) (env : List Bd) (c : List Sl) (f : Int) : Res :=
  let a := rn (kid t 0) env c f
  if a.st = 1 then
    if a.v.kind = 1 then
      if a.v.n = 0 then ⟨1, wholeV 0, a.c, a.f⟩
      else
        let b := rn (kid t 1) env a.c a.f
        if b.st = 1 then rn t env b.c b.f else b
    else stuckR a.c a.f
  else a

/-- One step, whose fuel is taken. -/
def stepR (rn : Runner) (t : Tm) (env : List Bd) (c : List Sl) (f : Int) : Res :=
  if t.kind = 1 then ⟨1, wholeV t.n, c, f⟩
  else if t.kind = 2 then (if (lookV env t.name).isSome = true then ⟨1, (lookV env t.name).getD zeroV, c, f⟩ else stuckR c f)
  else if t.kind = 3 then ⟨1, funV t.name (kid t 0) env, c, f⟩
  else if t.kind = 7 then loopR rn t env c f
  else
    let a := rn (kid t 0) env c f
    if t.kind = 9 then (if a.st = 2 then rn (kid t 1) (env ++ [.mk t.name a.v]) a.c a.f else a)
    else if a.st = 1 then behindR rn t env a.v a.c a.f else a

/-- A run of a term. -/
def run : Nat → Runner
  | 0 => fun _ _ c f => ⟨0, zeroV, c, f⟩
  | n + 1 => fun t env c f =>
    if f ≤ 0 then ⟨0, zeroV, c, f⟩
    else if right t then stepR (run n) t env c (f - 1)
    else stuckR c (f - 1)

theorem run_spent {n : Nat} {t : Tm} {env : List Bd} {c : List Sl} {f : Int} (h : f ≤ 0) : run n t env c f = ⟨0, zeroV, c, f⟩ := by
  cases n with
  | zero => rfl
  | succ n => simp only [run, if_pos h]

/-- How long names' lists are, within values too. -/
inductive Val.EB (k : Nat) : Val → Prop
  | mk (v : Val) (h1 : v.env.length ≤ k) (h2 : ∀ b ∈ v.env, Val.EB k b.v) : Val.EB k v
def EL (k : Nat) (l : List Bd) : Prop := l.length ≤ k ∧ ∀ b ∈ l, Val.EB k b.v

theorem EB_mono {k m : Nat} (h : k ≤ m) {v : Val} (hv : Val.EB k v) : Val.EB m v := by
  induction hv with
  | mk v h1 h2 ih => exact .mk v (by omega) ih
theorem EL_mono {k m : Nat} (h : k ≤ m) {l : List Bd} (hl : EL k l) : EL m l := ⟨by have := hl.1; omega, fun b hb => EB_mono h (hl.2 b hb)⟩
theorem EB_env {k : Nat} {v : Val} (h : Val.EB k v) : EL k v.env := by cases h with | mk _ h1 h2 => exact ⟨h1, h2⟩
theorem EL_bind {k m : Nat} {l : List Bd} {v : Val} (hl : EL k l) (hk : k + 1 ≤ m) (hv : Val.EB m v) (nm : List UInt8) : EL m (l ++ [.mk nm v]) := by
  refine ⟨by rw [List.length_append]; have := hl.1; simp; omega, fun b hb => ?_⟩
  rcases List.mem_append.1 hb with hb | hb
  · exact EB_mono (by omega) (hl.2 b hb)
  · simp only [List.mem_singleton] at hb
    subst hb
    exact hv
theorem zeroV_EB (k : Nat) : Val.EB k zeroV := .mk _ (Nat.zero_le _) (fun b h => by cases h)
theorem wholeV_EB (k : Nat) (n : Int) : Val.EB k (wholeV n) := .mk _ (Nat.zero_le _) (fun b h => by cases h)
theorem funV_EB {k : Nat} {env : List Bd} (h : EL k env) (nm : List UInt8) (t : Tm) : Val.EB k (funV nm t env) := .mk _ h.1 h.2
theorem lookV_EB {k : Nat} {env : List Bd} (h : EL k env) (nm : List UInt8) : Val.EB k ((lookV env nm).getD zeroV) := by
  unfold lookV
  cases hf : env.reverse.find? fun b => decide (b.name = nm) with
  | none => exact zeroV_EB k
  | some b => exact h.2 b (by have := List.mem_of_find?_eq_some hf; simpa using this)

/-- What holds of a run's end, where it began with these cells, this fuel. -/
structure Inv (B : Nat) (c : List Sl) (f : Int) (r : Res) : Prop where
  v : Val.EB (B - r.f.toNat) r.v
  c : r.c.length = c.length
  le : r.f ≤ f
  pos : 0 ≤ f → 0 ≤ r.f

def RunInv (B n : Nat) (rn : Runner) : Prop := ∀ (t : Tm) (env : List Bd) (c : List Sl) (f : Int), f ≤ n → f.toNat ≤ B → EL (B - f.toNat) env → Inv B c f (rn t env c f) ∧ ((rn t env c f).st = 0 ∨ (rn t env c f).f < f)

theorem Inv.after {B : Nat} {c c' : List Sl} {f f' : Int} {r : Res} (h : Inv B c' f' r) (hc : c'.length = c.length) (hf : f' ≤ f) (hp : 0 ≤ f → 0 ≤ f') : Inv B c f r :=
  ⟨h.v, h.c.trans hc, Int.le_trans h.le hf, fun h0 => h.pos (hp h0)⟩

theorem inv_stuck {B : Nat} {c c' : List Sl} {f f' : Int} (hc : c'.length = c.length) (hf : f' ≤ f) (hp : 0 ≤ f → 0 ≤ f') : Inv B c f (stuckR c' f') := ⟨zeroV_EB _, hc, hf, hp⟩
theorem inv_whole {B : Nat} {c c' : List Sl} {f f' : Int} (n : Int) (hc : c'.length = c.length) (hf : f' ≤ f) (hp : 0 ≤ f → 0 ≤ f') : Inv B c f ⟨1, wholeV n, c', f'⟩ := ⟨wholeV_EB _ _, hc, hf, hp⟩

theorem write_len {c : List Sl} {nm : List UInt8} {n : Int} : ((writeV c nm n).getD c).length = c.length := by
  unfold writeV
  cases fnd c nm <;> simp

section
variable {B n : Nat} {rn : Runner}

theorem bothR_inv (h : RunInv B n rn) {t : Tm} {a b : Val} {c : List Sl} {f : Int} (hf : f ≤ n) (hB : f.toNat + 1 ≤ B) (ha : Val.EB (B - (f.toNat + 1)) a) (hb : Val.EB (B - f.toNat) b) : Inv B c f (bothR rn t a b c f) := by
  unfold bothR
  split
  · split
    · exact (h _ _ c f hf (by omega) (EL_bind (EB_env ha) (by omega) hb _)).1
    · exact inv_stuck rfl (Int.le_refl _) id
  · split
    · split
      · exact inv_whole 0 write_len (Int.le_refl _) id
      · exact inv_stuck rfl (Int.le_refl _) id
    · split
      · exact inv_whole _ rfl (Int.le_refl _) id
      · exact inv_stuck rfl (Int.le_refl _) id

theorem behindR_inv (h : RunInv B n rn) {t : Tm} {env : List Bd} {a : Val} {c : List Sl} {f : Int} (hf : f ≤ n) (hf0 : 0 ≤ f) (hB : f.toNat + 1 ≤ B) (he : EL (B - (f.toNat + 1)) env) (ha : Val.EB (B - f.toNat) a) : Inv B c f (behindR rn t env a c f) := by
  have he' : EL (B - f.toNat) env := EL_mono (by omega) he
  unfold behindR
  split
  · exact (h _ _ c f hf (by omega) (EL_bind he (by omega) ha _)).1
  · split
    · exact (h _ _ c f hf (by omega) he').1
    · split
      · split
        · split
          · exact (h _ _ c f hf (by omega) he').1
          · exact (h _ _ c f hf (by omega) he').1
        · exact inv_stuck rfl (Int.le_refl _) id
      · split
        · split
          · exact ⟨ha, rfl, Int.le_refl _, id⟩
          · exact inv_stuck rfl (Int.le_refl _) id
        · split
          · split
            · exact inv_whole _ rfl (Int.le_refl _) id
            · exact inv_stuck rfl (Int.le_refl _) id
          · obtain ⟨hb, hb'⟩ := h (kid t 1) env c f hf (by omega) he'
            dsimp only
            split
            · rename_i hst
              have hlt := hb'.resolve_left (by omega)
              have hp := hb.pos hf0
              have hle := hb.le
              refine (bothR_inv h (by omega) (by omega) (EB_mono (by omega) ha) hb.v).after hb.c hle fun _ => hp
            · exact hb

theorem loopR_inv (h : RunInv B n rn) {t : Tm} {env : List Bd} {c : List Sl} {f : Int} (hf : f ≤ n) (hf0 : 0 ≤ f) (hB : f.toNat ≤ B) (he : EL (B - f.toNat) env) : Inv B c f (loopR rn t env c f) := by
  unfold loopR
  obtain ⟨ha, ha'⟩ := h (kid t 0) env c f hf hB he
  have hap := ha.pos hf0
  have hal := ha.le
  dsimp only
  split
  · split
    · split
      · exact inv_whole 0 ha.c hal fun _ => hap
      · obtain ⟨hb, hb'⟩ := h (kid t 1) env (rn (kid t 0) env c f).c (rn (kid t 0) env c f).f (by omega) (by omega) (EL_mono (by omega) he)
        have hbp := hb.pos hap
        have hbl := hb.le
        have hb1 := hb.after ha.c hal fun _ => hap
        split
        · exact (h t env _ _ (by omega) (by omega) (EL_mono (by omega) he)).1.after hb1.c (by omega) fun _ => hbp
        · exact hb1
    · exact inv_stuck ha.c hal fun _ => hap
  · exact ha

theorem stepR_inv (h : RunInv B n rn) {t : Tm} {env : List Bd} {c : List Sl} {f : Int} (hf : f ≤ n) (hf0 : 0 ≤ f) (hB : f.toNat + 1 ≤ B) (he : EL (B - (f.toNat + 1)) env) : Inv B c f (stepR rn t env c f) := by
  have he' : EL (B - f.toNat) env := EL_mono (by omega) he
  unfold stepR
  split
  · exact inv_whole _ rfl (Int.le_refl _) id
  · split
    · split
      · exact ⟨lookV_EB he' _, rfl, Int.le_refl _, id⟩
      · exact inv_stuck rfl (Int.le_refl _) id
    · split
      · exact ⟨funV_EB he' _ _, rfl, Int.le_refl _, id⟩
      · split
        · exact loopR_inv h hf hf0 (by omega) he'
        · obtain ⟨ha, ha'⟩ := h (kid t 0) env c f hf (by omega) he'
          have hap := ha.pos hf0
          have hal := ha.le
          dsimp only
          split
          · split
            · rename_i hst
              exact (h _ _ _ _ (by omega) (by omega) (EL_bind (k := B - (f.toNat + 1)) he (by omega) ha.v _)).1.after ha.c hal fun _ => hap
            · exact ha
          · split
            · rename_i hst
              have hlt := ha'.resolve_left (by omega)
              exact (behindR_inv h (by omega) hap (by omega) (EL_mono (by omega) he) ha.v).after ha.c hal fun _ => hap
            · exact ha
end

theorem run_inv (B n : Nat) : RunInv B n (run n) := by
  induction n with
  | zero =>
    intro t env c f hf hB he
    rw [run_spent (by omega)]
    exact ⟨⟨zeroV_EB _, rfl, Int.le_refl _, id⟩, .inl rfl⟩
  | succ n ih =>
    intro t env c f hf hB he
    by_cases h0 : f ≤ 0
    · rw [run_spent h0]
      exact ⟨⟨zeroV_EB _, rfl, Int.le_refl _, id⟩, .inl rfl⟩
    · simp only [run, if_neg h0]
      have key : Inv B c (f - 1) (if right t then stepR (run n) t env c (f - 1) else stuckR c (f - 1)) := by
        split
        · exact stepR_inv ih (by omega) (by omega) (by omega) (EL_mono (by omega) he)
        · exact inv_stuck rfl (Int.le_refl _) id
      have := key.le
      exact ⟨key.after rfl (by omega) (by omega), .inr (by omega)⟩

end Go.Proofs.YtnjlfbefpoecpaaDoor

/- The contracts of the run's small functions. -/
namespace Go.Proofs.YtnjlfbefpoecpaaDoor
set_option linter.unusedVariables false
set_option linter.unusedSimpArgs false
set_option maxRecDepth 100000
open Go.RowKit Fw

/-- How a run ends, in cells. -/
def endE (st : Int) (v : Val) : List PV := .int .i64 st :: v.enc
def endZ (st : Int) : List PV := .int .i64 st :: zeroVP
theorem endZ_le (st : Int) : PV.leL (endZ st) (endE st zeroV) := ⟨rfl, zeroVP_le⟩
theorem endE_fw : (∀ st v, (endE st v).length = 9) ∧ (∀ st v, (endE st v)[0]? = some (.int .i64 st)) ∧ (∀ st v, (endE st v).drop 1 = v.enc) ∧ (∀ st v, (endE st v).take 9 = endE st v) ∧ (∀ st v m, PV.bdL m (endE st v) = true) ∧ (∀ st v k, (endE st v).drop (k + 1) = v.enc.drop k) := by
  refine ⟨fun st v => by simp [endE, Val.fw], fun st v => rfl, fun st v => rfl, fun st v => List.take_of_length_le (by simp [endE, Val.fw]), fun st v m => by simp [endE, PV.bdL, PV.bd, Val.fw], fun st v k => rfl⟩
theorem fun_enc (nm : List UInt8) (t : Tm) (env : List Bd) : (funV nm t env).enc = .int .i64 3 :: .int .i64 0 :: .str nm :: (t.enc ++ [.vec (env.map Bd.enc) false]) := by rw [Val.enc_eq]; rfl

/-- eval.stuck -/
theorem c60 (Γ : Nat → PV) : Gives Tryd.prog Γ 60 [] (.agg (endE 3 zeroV)) := by
  refine fn_of_awpLe Tryd.func60 rfl (by simp [Tryd.f60]) (p := .agg (endZ 3)) rfl (endZ_le 3) fun H => ?_
  refine awp_seq ?_
  refine awp_run rfl (by simp only [fw0, fw1, fw2, fw3, fw4, fw5, fw6, fw7, ↓reduceIte, Nat.reduceAdd, Nat.reduceMul, Nat.reduceEqDiff, Nat.reduceLT, Nat.reduceLeDiff, reduceCtorEq, Bool.false_eq_true, Bool.not_true, Bool.not_false, and_self, Nat.le_refl, ti108] <;> rfl) ?_
  refine awp_seq ?_
  refine awp_run rfl (by simp only [fw0, fw1, fw2, fw3, fw4, fw5, fw6, fw7, ↓reduceIte, Nat.reduceAdd, Nat.reduceMul, Nat.reduceEqDiff, Nat.reduceLT, Nat.reduceLeDiff, reduceCtorEq, Bool.false_eq_true, Bool.not_true, Bool.not_false, and_self, Nat.le_refl, ti108, pl108] <;> rfl) ?_
  refine awp_ret ?_
  refine gives_end (.inl rfl) _ ?_
  simp [ares, aresL, ares1, rd, ev, alook, Tryd.f60, ti108, endZ, zeroVP]

/-- eval.value -/
theorem c63 (Γ : Nat → PV) (v : Val) : Gives Tryd.prog Γ 63 [.agg v.enc] (.agg (endE 1 v)) := by
  refine fn_of_awp Tryd.func63 rfl (by simp [Tryd.f63]) (by simp [PV.plain, PV.bd, endE_fw]) fun H => ?_
  refine awp_seq ?_
  refine awp_run rfl (by simp only [fw0, fw1, fw2, fw3, fw4, fw5, fw6, fw7, ↓reduceIte, Nat.reduceAdd, Nat.reduceMul, Nat.reduceEqDiff, Nat.reduceLT, Nat.reduceLeDiff, reduceCtorEq, Bool.false_eq_true, Bool.not_true, Bool.not_false, and_self, Nat.le_refl, ti108] <;> rfl) ?_
  refine awp_seq ?_
  refine awp_run rfl (by simp only [fw0, fw1, fw2, fw3, fw4, fw5, fw6, fw7, ↓reduceIte, Nat.reduceAdd, Nat.reduceMul, Nat.reduceEqDiff, Nat.reduceLT, Nat.reduceLeDiff, reduceCtorEq, Bool.false_eq_true, Bool.not_true, Bool.not_false, and_self, Nat.le_refl, ti44, ti108, pl108, Val.fw] <;> rfl) ?_
  refine awp_ret ?_
  refine gives_end (.inl rfl) _ ?_
  simp [ares, aresL, ares1, rd, ev, alook, Tryd.f63, ti108, endE, Val.fw]

/-- eval.whole -/
theorem c61 (Γ : Nat → PV) (n : Int) : Gives Tryd.prog Γ 61 [.int .i64 n] (.agg (endE 1 (wholeV n))) := by
  refine fn_of_awp Tryd.func61 rfl (by simp [Tryd.f61]) (by simp [PV.plain, PV.bd, endE_fw]) fun H => ?_
  refine awp_seq ?_
  refine awp_run rfl (by simp only [fw0, fw1, fw2, fw3, fw4, fw5, fw6, fw7, ↓reduceIte, Nat.reduceAdd, Nat.reduceMul, Nat.reduceEqDiff, Nat.reduceLT, Nat.reduceLeDiff, reduceCtorEq, Bool.false_eq_true, Bool.not_true, Bool.not_false, and_self, Nat.le_refl, ti108] <;> rfl) ?_
  refine awp_seq ?_
  refine awp_region rfl ?_
  refine aops_run 1 (by simp only [fw0, fw1, fw2, fw3, fw4, fw5, fw6, fw7, ↓reduceIte, Nat.reduceAdd, Nat.reduceMul, Nat.reduceEqDiff, Nat.reduceLT, Nat.reduceLeDiff, reduceCtorEq, Bool.false_eq_true, Bool.not_true, Bool.not_false, and_self, Nat.le_refl] <;> rfl) ?_
  refine aops_fn rfl rfl rfl en35 (c35 Γ n) ?_
  refine aops_fn rfl rfl rfl en63 (c63 Γ _) ?_
  refine aops_run 1 (by simp only [fw0, fw1, fw2, fw3, fw4, fw5, fw6, fw7, ↓reduceIte, Nat.reduceAdd, Nat.reduceMul, Nat.reduceEqDiff, Nat.reduceLT, Nat.reduceLeDiff, reduceCtorEq, Bool.false_eq_true, Bool.not_true, Bool.not_false, and_self, Nat.le_refl, ti108, endE_fw] <;> rfl) ?_
  refine awp_ret ?_
  refine gives_end (.inl rfl) _ ?_
  simp [ares, aresL, ares1, rd, ev, alook, Tryd.f61, ti108, endE_fw]

/-- eval.number -/
theorem c71 (Γ : Nat → PV) (v : Val) : Gives Tryd.prog Γ 71 [.agg v.enc] (.bool (decide (v.kind = 1))) := by
  refine fn_of_awp Tryd.func71 rfl (by simp [Tryd.f71]) rfl fun H => ?_
  refine awp_seq ?_
  refine awp_run rfl (by simp only [fw0, fw1, fw2, fw3, fw4, fw5, fw6, fw7, ↓reduceIte, Nat.reduceAdd, Nat.reduceMul, Nat.reduceEqDiff, Nat.reduceLT, Nat.reduceLeDiff, reduceCtorEq, Bool.false_eq_true, Bool.not_true, Bool.not_false, and_self, Nat.le_refl] <;> rfl) ?_
  refine awp_seq ?_
  refine awp_run rfl (by simp only [fw0, fw1, fw2, fw3, fw4, fw5, fw6, fw7, ↓reduceIte, Nat.reduceAdd, Nat.reduceMul, Nat.reduceEqDiff, Nat.reduceLT, Nat.reduceLeDiff, reduceCtorEq, Bool.false_eq_true, Bool.not_true, Bool.not_false, and_self, Nat.le_refl, fl44_0, ti3, Val.fw] <;> rfl) ?_
  refine awp_ret ?_
  exact gives_end (.inl rfl) _ rfl

/-- eval.when -/
theorem c73 (Γ : Nat → PV) (n : Int) (ok : Bool) : Gives Tryd.prog Γ 73 [.int .i64 n, .bool ok] (.agg (if ok = true then endE 1 (wholeV n) else endE 3 zeroV)) := by
  refine fn_of_awp Tryd.func73 rfl (by simp [Tryd.f73]) (by cases ok <;> simp [PV.plain, PV.bd, endE_fw]) fun H => ?_
  refine awp_seq ?_
  refine awp_run rfl (by simp only [fw0, fw1, fw2, fw3, fw4, fw5, fw6, fw7, ↓reduceIte, Nat.reduceAdd, Nat.reduceMul, Nat.reduceEqDiff, Nat.reduceLT, Nat.reduceLeDiff, reduceCtorEq, Bool.false_eq_true, Bool.not_true, Bool.not_false, and_self, Nat.le_refl, ti108] <;> rfl) ?_
  refine awp_seq ?_
  refine awp_seq ?_
  refine awp_run rfl (by simp only [fw0, fw1, fw2, fw3, fw4, fw5, fw6, fw7, ↓reduceIte, Nat.reduceAdd, Nat.reduceMul, Nat.reduceEqDiff, Nat.reduceLT, Nat.reduceLeDiff, reduceCtorEq, Bool.false_eq_true, Bool.not_true, Bool.not_false, and_self, Nat.le_refl] <;> rfl) ?_
  refine awp_cond (by simp only [fw0, fw1, fw2, fw3, fw4, fw5, fw6, fw7, ↓reduceIte, Nat.reduceAdd, Nat.reduceMul, Nat.reduceEqDiff, Nat.reduceLT, Nat.reduceLeDiff, reduceCtorEq, Bool.false_eq_true, Bool.not_true, Bool.not_false, and_self, Nat.le_refl] <;> rfl) ?_
  cases ok with
  | false =>
    simp only [Bool.not_false, ↓reduceIte]
    refine awp_seq ?_
    refine awp_region rfl ?_
    refine aops_fn rfl rfl rfl en60 (c60 Γ) ?_
    refine aops_run 1 (by simp only [fw0, fw1, fw2, fw3, fw4, fw5, fw6, fw7, ↓reduceIte, Nat.reduceAdd, Nat.reduceMul, Nat.reduceEqDiff, Nat.reduceLT, Nat.reduceLeDiff, reduceCtorEq, Bool.false_eq_true, Bool.not_true, Bool.not_false, and_self, Nat.le_refl, ti108, endE_fw] <;> rfl) ?_
    refine awp_ret ?_
    refine gives_end (.inl rfl) _ ?_
    simp [ares, aresL, ares1, rd, ev, alook, Tryd.f73, ti108, endE_fw]
  | true =>
    simp only [Bool.not_true, Bool.false_eq_true, ↓reduceIte]
    refine awp_skip ?_
    refine awp_seq ?_
    refine awp_region rfl ?_
    refine aops_run 1 (by simp only [fw0, fw1, fw2, fw3, fw4, fw5, fw6, fw7, ↓reduceIte, Nat.reduceAdd, Nat.reduceMul, Nat.reduceEqDiff, Nat.reduceLT, Nat.reduceLeDiff, reduceCtorEq, Bool.false_eq_true, Bool.not_true, Bool.not_false, and_self, Nat.le_refl] <;> rfl) ?_
    refine aops_fn rfl rfl rfl en61 (c61 Γ n) ?_
    refine aops_run 1 (by simp only [fw0, fw1, fw2, fw3, fw4, fw5, fw6, fw7, ↓reduceIte, Nat.reduceAdd, Nat.reduceMul, Nat.reduceEqDiff, Nat.reduceLT, Nat.reduceLeDiff, reduceCtorEq, Bool.false_eq_true, Bool.not_true, Bool.not_false, and_self, Nat.le_refl, ti108, endE_fw] <;> rfl) ?_
    refine awp_ret ?_
    refine gives_end (.inl rfl) _ ?_
    simp [ares, aresL, ares1, rd, ev, alook, Tryd.f73, ti108, endE_fw]

end Go.Proofs.YtnjlfbefpoecpaaDoor
