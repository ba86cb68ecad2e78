/- What chapter 18's functions speak of: terms, values, bounds, cells, and how they lie in memory. -/
import Derived.Test.YtinedfjknhahmaaDoorFwU
import Derived.Test.YtinedfjknhahmaaDoorProg
namespace Go.Proofs.YtinedfjknhahmaaDoor
set_option linter.unusedVariables false
set_option linter.unusedSimpArgs false
open Go.RowKit Fw

/-- A term. -/
inductive Tm where
  | mk (kind : Int) (name : List UInt8) (n : Int) (kids : List Tm)

namespace Tm
def kind : Tm → Int | mk k _ _ _ => k
def name : Tm → List UInt8 | mk _ s _ _ => s
def n : Tm → Int | mk _ _ i _ => i
def kids : Tm → List Tm | mk _ _ _ ks => ks

mutual
def enc : Tm → List PV
  | mk k s i ks => [.int .i64 k, .str s, .int .i64 i, .vec (encs ks) false]
def encs : List Tm → List (List PV)
  | [] => []
  | t :: ts => enc t :: encs ts
end

theorem encs_map (l : List Tm) : encs l = l.map enc := by
  induction l with
  | nil => rfl
  | cons t l ih => rw [encs, ih]; rfl

theorem enc_eq (t : Tm) : t.enc = [.int .i64 t.kind, .str t.name, .int .i64 t.n, .vec (t.kids.map enc) false] := by
  cases t; rw [enc, encs_map]; rfl

theorem kids_lt {t k : Tm} (h : k ∈ t.kids) : SizeOf.sizeOf k < SizeOf.sizeOf t := by
  cases t
  have := List.sizeOf_lt_of_mem h
  simp only [kids, mk.sizeOf_spec] at this ⊢
  omega

theorem ext {a b : Tm} (h1 : a.kind = b.kind) (h2 : a.name = b.name) (h3 : a.n = b.n) (h4 : a.kids = b.kids) : a = b := by
  cases a; cases b; simp_all [kind, name, n, kids]

theorem fw : (∀ t : Tm, t.enc.length = 4) ∧ (∀ t : Tm, t.enc[0]? = some (.int .i64 t.kind)) ∧ (∀ t : Tm, t.enc.drop 1 = [.str t.name, .int .i64 t.n, .vec (t.kids.map enc) false]) ∧ (∀ t : Tm, t.enc.drop 2 = [.int .i64 t.n, .vec (t.kids.map enc) false]) ∧
    (∀ t : Tm, t.enc.drop 3 = [.vec (t.kids.map enc) false]) ∧ (∀ t : Tm, t.enc.take 4 = t.enc) ∧ (∀ (t : Tm) (l : List PV), (t.enc ++ l).take 4 = t.enc) ∧ (∀ (m : Nat) (t : Tm), PV.bdL m t.enc = true) ∧ (∀ (t : Tm) (l : List PV) (k : Nat), (t.enc ++ l).drop (k + 4) = l.drop k) ∧ (∀ (t : Tm) (l : List PV) (k : Nat), (t.enc ++ l).take (k + 4) = t.enc ++ l.take k) := by
  refine ⟨?_, ?_, ?_, ?_, ?_, ?_, ?_, ?_, ?_, ?_⟩
  · intro t; rw [enc_eq]; rfl
  · intro t; rw [enc_eq]; rfl
  · intro t; rw [enc_eq]; rfl
  · intro t; rw [enc_eq]; rfl
  · intro t; rw [enc_eq]; rfl
  · intro t; rw [enc_eq]; rfl
  · intro t l; rw [enc_eq]; rfl
  · intro m t; rw [enc_eq]; rfl
  · intro t l k; rw [enc_eq]; rfl
  · intro t l k; rw [enc_eq]; rfl
end Tm

noncomputable instance : DecidableEq Tm := fun _ _ => Classical.propDecidable _

mutual
/-- A value. -/
inductive Val where
  | mk (kind n : Int) (name : List UInt8) (t : Tm) (env : List Bd)
/-- A name, and what it stands for. -/
inductive Bd where
  | mk (name : List UInt8) (v : Val)
end

namespace Val
def kind : Val → Int | mk k _ _ _ _ => k
def n : Val → Int | mk _ i _ _ _ => i
def name : Val → List UInt8 | mk _ _ s _ _ => s
def t : Val → Tm | mk _ _ _ t _ => t
def env : Val → List Bd | mk _ _ _ _ e => e
end Val
namespace Bd
def name : Bd → List UInt8 | mk s _ => s
def v : Bd → Val | mk _ v => v
end Bd

mutual
def Val.enc : Val → List PV
  | .mk k i s t e => .int .i64 k :: .int .i64 i :: .str s :: (t.enc ++ [.vec (Bd.encs e) false])
def Bd.enc : Bd → List PV
  | .mk s v => .str s :: v.enc
def Bd.encs : List Bd → List (List PV)
  | [] => []
  | b :: bs => b.enc :: Bd.encs bs
end

theorem Bd.encs_map (l : List Bd) : Bd.encs l = l.map Bd.enc := by
  induction l with
  | nil => rfl
  | cons t l ih => rw [Bd.encs, ih]; rfl

theorem Val.enc_eq (v : Val) : v.enc = .int .i64 v.kind :: .int .i64 v.n :: .str v.name :: (v.t.enc ++ [.vec (v.env.map Bd.enc) false]) := by
  cases v; rw [Val.enc, Bd.encs_map]; rfl
theorem Bd.enc_eq (b : Bd) : b.enc = .str b.name :: b.v.enc := by cases b; rw [Bd.enc]; rfl

theorem Val.env_lt {v : Val} {b : Bd} (h : b ∈ v.env) : SizeOf.sizeOf b.v < SizeOf.sizeOf v := by
  cases v
  have := List.sizeOf_lt_of_mem h
  cases b
  simp only [Val.env, Bd.v, Val.mk.sizeOf_spec, Bd.mk.sizeOf_spec] at this ⊢
  omega

theorem Val.ext {a b : Val} (h1 : a.kind = b.kind) (h2 : a.n = b.n) (h3 : a.name = b.name) (h4 : a.t = b.t) (h5 : a.env = b.env) : a = b := by
  cases a; cases b; simp_all [Val.kind, Val.n, Val.name, Val.t, Val.env]
theorem Bd.ext {a b : Bd} (h1 : a.name = b.name) (h2 : a.v = b.v) : a = b := by
  cases a; cases b; simp_all [Bd.name, Bd.v]

/-- A term whose lists and names have room. -/
inductive Tm.Ok : Tm → Prop
  | mk (t : Tm) (h1 : t.name.length ≤ reachBytes) (h2 : t.kids.length * 56 ≤ reachBytes) (h3 : ∀ k ∈ t.kids, Tm.Ok k) : Tm.Ok t

theorem flatten_enc {X : Type} (enc : X → List PV) (l : List X) (i : Nat) (x : X) (h : l[i]? = some x) : ((l.take (i + 1)).map enc).flatten = ((l.take i).map enc).flatten ++ enc x := by
  rw [List.take_add_one, h]; simp

theorem flat_len {X : Type} {enc : X → List PV} {sz : Nat} (h : ∀ x, (enc x).length = sz) (l : List X) : ((l.map enc).flatten).length = l.length * sz := by
  rw [flatten_len (sz := sz) (fun e he => by obtain ⟨x, _, rfl⟩ := List.mem_map.1 he; exact h x), List.length_map]

theorem flat_chunk {X : Type} {enc : X → List PV} {sz : Nat} (h : ∀ x, (enc x).length = sz) (l : List X) : chunk sz l.length ((l.map enc).flatten) = l.map enc := by
  have := chunk_flatten (sz := sz) (es := l.map enc) (fun e he => by obtain ⟨x, _, rfl⟩ := List.mem_map.1 he; exact h x)
  rwa [List.length_map] at this

theorem flat_bd {X : Type} {enc : X → List PV} {m : Nat} (h : ∀ x, PV.bdL m (enc x) = true) (l : List X) : PV.bdL m ((l.map enc).flatten) = true := by
  induction l with
  | nil => rfl
  | cons x l ih => rw [List.map_cons, List.flatten_cons, PV.bdL_append, h, ih]; rfl

theorem Tm.enc_len (t : Tm) : t.enc.length = 4 := by rw [Tm.enc_eq]; rfl

theorem Val.fw : (∀ v : Val, v.enc.length = 8) ∧ (∀ v : Val, v.enc[0]? = some (.int .i64 v.kind)) ∧ (∀ v : Val, v.enc.drop 1 = .int .i64 v.n :: .str v.name :: (v.t.enc ++ [.vec (v.env.map Bd.enc) false])) ∧
    (∀ v : Val, v.enc.drop 2 = .str v.name :: (v.t.enc ++ [.vec (v.env.map Bd.enc) false])) ∧ (∀ v : Val, v.enc.drop 3 = v.t.enc ++ [.vec (v.env.map Bd.enc) false]) ∧ (∀ v : Val, v.enc.drop 7 = [.vec (v.env.map Bd.enc) false]) ∧
    (∀ v : Val, v.enc.take 8 = v.enc) ∧ (∀ (v : Val) (l : List PV), (v.enc ++ l).take 8 = v.enc) ∧ (∀ (m : Nat) (v : Val), PV.bdL m v.enc = true) := by
  have h4 : ∀ v : Val, v.enc.length = 8 := fun v => by rw [Val.enc_eq]; simp [Tm.enc_len]
  refine ⟨h4, fun v => by rw [Val.enc_eq]; rfl, fun v => by rw [Val.enc_eq]; rfl, fun v => by rw [Val.enc_eq]; rfl, fun v => by rw [Val.enc_eq]; rfl, fun v => ?_, fun v => List.take_of_length_le (by rw [h4]; exact Nat.le_refl _), fun v l => ?_, fun m v => ?_⟩
  · rw [Val.enc_eq]
    show (v.t.enc ++ _).drop 4 = _
    exact List.drop_left' (Tm.enc_len _)
  · exact List.take_left' (h4 v)
  · rw [Val.enc_eq]
    simp [PV.bdL, PV.bd, PV.bdL_append, Tm.fw]

theorem Bd.fw : (∀ b : Bd, b.enc.length = 9) ∧ (∀ b : Bd, b.enc[0]? = some (.str b.name)) ∧ (∀ (b : Bd) (k : Nat), b.enc.drop (k + 1) = b.v.enc.drop k) ∧ (∀ b : Bd, b.enc.take 9 = b.enc) ∧ (∀ (m : Nat) (b : Bd), PV.bdL m b.enc = true) := by
  have h4 : ∀ b : Bd, b.enc.length = 9 := fun b => by rw [Bd.enc_eq]; simp [Val.fw]
  refine ⟨h4, fun v => by rw [Bd.enc_eq]; rfl, fun v k => by rw [Bd.enc_eq]; rfl, fun v => List.take_of_length_le (by rw [h4]; exact Nat.le_refl _), fun m v => ?_⟩
  rw [Bd.enc_eq]
  simp [PV.bdL, PV.bd, Val.fw]

mutual
/-- Values whose lists and names have room. -/
inductive Val.Ok : Val → Prop
  | mk (v : Val) (h1 : v.name.length ≤ reachBytes) (h2 : v.t.Ok) (h3 : v.env.length * 128 ≤ reachBytes) (h4 : ∀ b ∈ v.env, Bd.Ok b) : Val.Ok v
inductive Bd.Ok : Bd → Prop
  | mk (b : Bd) (h1 : b.name.length ≤ reachBytes) (h2 : Val.Ok b.v) : Bd.Ok b
end
theorem Bd.enc_len (b : Bd) : b.enc.length = 9 := by simp only [Bd.fw]
theorem Val.enc_len (b : Val) : b.enc.length = 8 := by simp only [Val.fw]

noncomputable instance : DecidableEq Val := fun _ _ => Classical.propDecidable _
noncomputable instance : DecidableEq Bd := fun _ _ => Classical.propDecidable _

/-- A cell. -/
structure Sl where
  name : List UInt8
  n : Int
  deriving DecidableEq

def Sl.enc (s : Sl) : List PV := [.str s.name, .int .i64 s.n]

theorem Sl.fw : (∀ s : Sl, s.enc.length = 2) ∧ (∀ s : Sl, s.enc[0]? = some (.str s.name)) ∧ (∀ s : Sl, s.enc[1]? = some (.int .i64 s.n)) ∧ (∀ s : Sl, s.enc.drop 1 = [.int .i64 s.n]) ∧ (∀ s : Sl, s.enc.take 2 = s.enc) ∧ (∀ (m : Nat) (s : Sl), PV.bdL m s.enc = true) :=
  ⟨fun _ => rfl, fun _ => rfl, fun _ => rfl, fun _ => rfl, fun _ => rfl, fun _ _ => rfl⟩

end Go.Proofs.YtinedfjknhahmaaDoor
